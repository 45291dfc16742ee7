/- Lemmas: the program and the reference walked, plain laws. -/
import Derived.Test.YtelbollidfdcjaaGreatIc
namespace Go.Proofs.YtelbollidfdcjaaGreat
open Go Go.T
set_option maxHeartbeats 16000000
theorem Kw : Tryz.prog.underlying 28 = some (.slice 3) := by kernel_rfl
theorem ME : Tryz.prog.underlying 222 = some (.slice 199) := by kernel_rfl
section
variable {y : bA} {fl : List bp} {a : List Int} {n : Nat} {has : Nat → Bool} {xs : List Int}
theorem ON {G : Nat → Int} (h : gW fl n a) : Lf fl n G a a := ⟨h, rfl⟩
theorem Gp {c : Nat → Bool} {b : Nat} (hl : a.length = (aR y c).length) (hb : b < y.bins.length) : y.kept b 0 < a.length := by rw [hl]; exact DJ hb (Nat.zero_le _)
theorem JF {x : List Int} {i k : Nat} (h : i = k) : ir has x i = ir has x k := by rw [h]
theorem KA (fl : List bp) (has : Nat → Bool) (x : List Int) : ir has x fl.length = jF fl has x := rfl
theorem Jm (hN : Net fl n) (hn : 0 < n) (hB : Bd fl) (h : gW fl n a) : (⟨jF fl has (gS fl n (cm has true) a), jF fl has (gS fl n (cm has false) (AY fl n has a))⟩ : Span) = gX fl n has := (r9 hN hn hB h).2.2.eq.symm
def iB (y : bA) (a : List Int) (k : Nat) : List Int := (List.range k).map fun b => nth a (y.kept b 0)
theorem Bz (k : Nat) : iB y a k ++ [nth a (y.kept k 0)] = iB y a (k + 1) := by unfold iB; rw [List.range_succ, List.map_append]; rfl
theorem Be : iB y a 0 = [] := rfl
theorem C8 (k : Nat) : (iB y a k).length = k := by unfold iB; rw [List.length_map, List.length_range]
theorem told_eq (y : bA) (a : List Int) : (⟨iB y a y.bins.length, a.drop (y.bins.length * (y.D + 1))⟩ : dL) = gL y a := rfl
theorem Hq (h : xs = []) : (Ty.ko (.slice none 0 0)).Sub (Ty.row dD 3 26 xs) := by subst h; exact Ty.dQ
theorem lo_eq (fl : List bp) (n : Nat) (has : Nat → Bool) (a : List Int) : gS fl n (cm has true) a = AY fl n has a := rfl
theorem hi_eq (fl : List bp) (n : Nat) (has : Nat → Bool) (a : List Int) : gS fl n (cm has false) (AY fl n has a) = xy fl n has a := rfl
end
attribute [local irreducible] aR gm Way.gp Way.fin Way.room eK dZ eY gT over bH cM dP eJ jN ef gu kI cP gM fm fj cm cJ gS pK iR ir jF gX AY xy iB bA.kept
attribute [local irreducible] g6 fS m8 qg iZ iT ij ia ig qM iS qR dY gb qd gV qV nth fU dR av dK bodyPost Exit.then Exit.inBlock Code.wp Code.wpIn fR qb qX qT iw qW qc iY fC cT cU bodyPostM dr
set_option maxRecDepth 100000 in
theorem Ak (l : List Int) (h : l.length ≤ 1000) : dK Tryz.prog 172 [Ty.sl dD l] (Ty.sl dD l) := by
 refine aa Tryz.func172 rfl (by decide) Tryz.ntmps172 (by exact Nat.le_of_ble_eq_true rfl) fun w0 M0 => ?_
 refine aE (aA (kE rfl (aD (aB (aE (aE (aA (ej rfl (Dg Kw rfl ?_)))))))))
 refine aD (aB ?_)
 refine gx rfl (fun hc1 => ?_) (fun hc1 => ?_)
 ·
  refine aE (aA (kE rfl (aD (aB (ay (aQ (bJ rfl rfl ?_)))))))
  all_goals skip
  exact fD hc1
 refine aq (aB (aE (aA ?_)))
 refine wq (E := dD) rfl rfl rfl rfl ?_
 refine ej rfl ?_
 refine fI rfl rfl (by decide) rfl rfl rfl rfl rfl rfl (by decide) (by (simp <;> omega)) (by (simp <;> omega)) ?_
 refine AK rfl (aD (aB (ay (bJ rfl rfl ?_))))
 all_goals exact jT (by decide)
 skip
set_option maxRecDepth 100000 in
theorem HW (y : bA) (fl : List bp) (a : List Int) (h : lV y fl a) (hfe : gW fl (y.cells + 1) a) (th : Ty) (h1 : th.deps = []) (h2 : th.cdeps = []) (has : Nat → Bool) (hf : ∀ i, i < fl.length → nT Tryz.prog (Ty.nd th h1 h2) [Ty.int .i64 ((i : Nat) : Int)] (Ty.bool (has i))) (less : Bool) : fC Tryz.prog 164 [1000] [(1000, Cont.vec dD 3 a)] [Ty.pp (dx y fl 1000 fl.length), Ty.agg [Ty.nd th h1 h2, Ty.bool less]] [(1000, Cont.vec dD 3 (gS fl (y.cells + 1) (cm has less) a))] (Ty.int .i64 (jF fl has (gS fl (y.cells + 1) (cm has less) a))) := by
 refine fV Tryz.func164 rfl (by decide) Tryz.ntmps164 (by exact Nat.le_of_ble_eq_true rfl) fun w0 M0 => ?_
 have hN := h.net
 have hfl := h.qL
 have hcl := nE h.right
 have hG := sF (has := has) less
 have hn : 0 < (y.cells + 1) := Nat.succ_pos _
 refine aE (aA (bD rfl (bk rfl (aD (aB (aE (af ?_)))))))
 refine cK (fun (b : {b : List Int // Lf fl (y.cells + 1) (cm has less) a b}) => live [(0, Ty.pp (dx y fl 1000 fl.length)), (3, Ty.pp [Ty.nd th h1 h2, Ty.bool less])] [(1000, Cont.vec dD 3 b.1)]) (fun b => (300 * fl.length - k7 fl (cm has less) b.1).toNat) (⟨a, ON hfe⟩) ?_ fun b => ?_
 ·(refine cv.mk' ?_ ?_ <;> (repeat' (first | exact aM | exact aL | refine aC ?_ (Ty.aV _) | refine aC ?_ (Ty.aF _) | refine aK rfl (Cont.aF _) ?_)))
 have hF : lV y fl b.1 := ⟨h.right, h.net, h.bd, b.2.feas.1, h.qL⟩
 have hal := hF.inb.1
 refine af (aE (aA (ji rfl ?_)))
 refine aU rfl rfl rfl (by exact Nat.le_of_ble_eq_true rfl) ?_
 refine dI [(1000, 1000)] [] [(1000, Cont.vec dD 3 b.1)] (F2 y fl b.1 hF th h1 h2 has hf less) rfl rfl (aN (aN bW (aT rfl rfl)) (ep (aN (aN (aN (aN (aN (aN bW (eW (by exact List.mem_cons_self))) (aT rfl rfl)) (aT rfl rfl)) (aT rfl rfl)) (aT rfl rfl)) (aT rfl rfl)))) (dN (a := 1000) (b := 1000) (by exact List.mem_cons_self) rfl (cG (by exact List.mem_cons_self) rfl) pre_nil) (cA (a := 1000) (b := 1000) (by decide) rfl (cG (by decide) rfl) post_nil) (aT rfl rfl) ?_
 refine Od rfl (aD (aB (aE (aE (aA (Oc rfl (Hi ME rfl (aD (aB ?_)))))))))
 refine bt rfl (fun hc1 => ?_) (fun hc1 => ?_)
 ·
  refine cI (aP (gG rfl (aP (aj rfl (aB (aE ?_))))))
  have hb : b.1 = (gS fl (y.cells + 1) (cm has less) a) := b.2.done (List.isEmpty_iff.1 hc1)
  have hF2 : lV y fl (gS fl (y.cells + 1) (cm has less) a) := by rw [← hb]; exact hF
  have hal2 := hF2.inb.1
  refine g8 (tg := 1000) rfl (Cont.fF hb) ?_
  refine aA (bk rfl (aD (aB (aE (aE (aA (ji rfl (bh rfl ?_))))))))
  refine aI rfl rfl rfl rfl rfl (by decide) ?_
  refine aG rfl rfl rfl rfl (jX rfl rfl rfl (bI rfl (aD (aB (af ?_)))))
  refine cK (fun (i : {i : Nat // i ≤ fl.length}) => live [(0, Ty.pp (dx y fl 1000 fl.length)), (3, Ty.pp [Ty.nd th h1 h2, Ty.bool less]), (11, Ty.int .i64 (ir has (gS fl (y.cells + 1) (cm has less) a) i.1)), (43, Ty.vs 1000 fl.length), (44, Ty.int .i64 fl.length), (45, Ty.int .i64 (i.1 : Nat))] [(1000, Cont.vec dD 3 (gS fl (y.cells + 1) (cm has less) a))]) (fun i => fl.length - i.1) (⟨0, by omega⟩) ?_ fun i => ?_
  ·(refine cv.mk' ?_ ?_ <;> (repeat' (first | exact aM | exact aL | refine aC ?_ (Ty.aV _) | refine aC ?_ (Ty.aF _) | refine aK rfl (Cont.aF _) ?_ | refine aC ?_ ?_)))
   all_goals exact Ty.bU (by unfold ir; rfl)
  have hi := i.2
  have hup := FT (has := has) (x := (gS fl (y.cells + 1) (cm has less) a)) (k := i.1) fun q hq => (hF2.MG (by omega)).1
  refine aE (aA (bC rfl rfl rfl (aD (aB (aE ?_)))))
  refine az rfl (fun hc2 => ?_) (fun hc2 => ?_)
  ·
   refine aq (aB (aE (af (aE (aA (bI rfl ?_))))))
   refine cx rfl rfl rfl rfl rfl (by omega) ?_
   refine cX rfl rfl rfl (by decide) rfl rfl (by omega) rfl ?_
   refine bk rfl (bk rfl (aD (aB (aE ?_))))
   have hai := (hF2.MG (show i.1 < fl.length by omega)).1
   refine aA ?_
   refine aI rfl rfl rfl rfl rfl (by decide) ?_
   refine aG rfl rfl rfl rfl (bI rfl ?_)
   refine eI rfl (hf i.1 (by omega)) rfl ?_
   refine aD (aB ?_)
   refine bt rfl (fun hc3 => ?_) (fun hc3 => ?_)
   ·
    refine aA (bI rfl (bI rfl ?_))
    refine b8 rfl rfl (by omega) (by omega) ?_
    refine bk rfl (aD (bM (aB (aA ?_))))
    refine b8 rfl rfl (by omega) (by omega) ?_
    refine bI rfl (aD ?_)
    refine bO (⟨i.1 + 1, by omega⟩) ?_ (by show fl.length - (i.1 + 1) < fl.length - i.1; omega)
    (refine cv.mk' ?_ ?_ <;> (repeat' (first | exact aM | exact aL | refine aC ?_ (Ty.aV _) | refine aC ?_ (Ty.aF _) | refine aK rfl (Cont.aF _) ?_ | refine aC ?_ ?_)))
    all_goals skip
    all_goals exact Ty.bU (Fh hc3)
   refine aq (bM (aB (aA ?_)))
   refine b8 rfl rfl (by omega) (by omega) ?_
   refine bI rfl (aD ?_)
   refine bO (⟨i.1 + 1, by omega⟩) ?_ (by show fl.length - (i.1 + 1) < fl.length - i.1; omega)
   (refine cv.mk' ?_ ?_ <;> (repeat' (first | exact aM | exact aL | refine aC ?_ (Ty.aV _) | refine aC ?_ (Ty.aF _) | refine aK rfl (Cont.aF _) ?_ | refine aC ?_ ?_)))
   all_goals skip
   all_goals exact Ty.bU (Gj hc3)
  refine cI (aP (aP (aj rfl (aB (aE (aA (bI rfl (bk rfl (aD ?_)))))))))
  refine aB (ay ?_)
  refine iQ [1000] rfl rfl (by decide) (by repeat (first | exact gR | refine fM rfl (cG (by decide) rfl) ?_)) ?_
  all_goals skip
  all_goals exact hU (oP rfl rfl (congrArg (Ty.int .i64) ((JF (by have := i.2; omega)).trans (KA fl has _))))
 refine aq (aB (aE ?_))
 refine iU (s := 5) rfl (show (Ty.Fy fk (cJ fl b.1 (y.cells + 1) (cm has less))).Sub (Ty.sl fk (cJ fl b.1 (y.cells + 1) (cm has less))) from Ty.L0) ?_
 have hne : ¬ (cJ fl b.1 (y.cells + 1) (cm has less)) = [] := fun e => by rw [e] at hc1; cases hc1
 have hnx := b.2.next hN hn h.bd hG hne
 have hC := hnx.2.2
 have hlen := hC.qL
 refine aA (bk rfl (aD (aB (aE (aE (aA (ej rfl (b9 rfl rfl rfl (bI rfl ?_)))))))))
 refine aD (aB (af ?_))
 refine cK (fun (j : {j : Nat // j ≤ (cJ fl b.1 (y.cells + 1) (cm has less)).length}) => live [(0, Ty.pp (dx y fl 1000 fl.length)), (3, Ty.pp [Ty.nd th h1 h2, Ty.bool less]), (5, Ty.sl fk (cJ fl b.1 (y.cells + 1) (cm has less))), (6, Ty.int .i64 (ef fl b.1 300 ((cJ fl b.1 (y.cells + 1) (cm has less)).take j.1))), (19, Ty.sl fk (cJ fl b.1 (y.cells + 1) (cm has less))), (20, Ty.int .i64 (cJ fl b.1 (y.cells + 1) (cm has less)).length), (21, Ty.int .i64 (j.1 : Nat))] [(1000, Cont.vec dD 3 b.1)]) (fun j => (cJ fl b.1 (y.cells + 1) (cm has less)).length - j.1) (⟨0, by omega⟩) ?_ fun j => ?_
 ·(refine cv.mk' ?_ ?_ <;> (repeat' (first | exact aM | exact aL | refine aC ?_ (Ty.aV _) | refine aC ?_ (Ty.aF _) | refine aK rfl (Cont.aF _) ?_ | refine aC ?_ ?_)))
  all_goals exact Ty.bU (vL _ _ _)
 have hj := j.2
 refine aE (aA (bC rfl rfl rfl (aD (aB (aE ?_)))))
 refine az rfl (fun hc4 => ?_) (fun hc4 => ?_)
 ·
  refine aq (aB (aE (af (aE (aA ?_)))))
  refine ak rfl rfl rfl rfl rfl rfl (by omega) ?_
  refine aU rfl rfl rfl (by exact Nat.le_of_ble_eq_true rfl) ?_
  refine bu rfl (by exact List.cons_ne_nil _ _) rfl ?_
  refine bq rfl rfl (by decide) rfl rfl rfl rfl rfl rfl ?_
  refine aD (aB (aE ?_))
  have hwj := hC.ways _ (cR (xs := (cJ fl b.1 (y.cells + 1) (cm has less))) (k := j.1) (by omega))
  refine aA (ji rfl ?_)
  refine bf rfl rfl (by decide) rfl rfl (by exact Nat.le_of_ble_eq_true rfl) ?_
  refine eM [1000] (Dx y fl b.1 hF (nth (cJ fl b.1 (y.cells + 1) (cm has less)) j.1) hwj.1) rfl (aY (kO (aY (bV (bR rfl rfl)) (aY (bV (bR rfl rfl)) (aY (bV (bR rfl rfl)) (aY (bV (bR rfl rfl)) (aY (bV (bR rfl rfl)) (aY (jY rfl hal (by decide) rfl) cY))))))) (aY (bV (bR rfl rfl)) cY)) (by exact j9 (by repeat (first | exact jw | refine jB (by exact c6 _ _) ?_))) ?_
  refine sn rfl (bP rfl rfl (bP rfl rfl (bk rfl (bk rfl (aD (aB (aA (bI rfl (bI rfl ?_)))))))))
  refine bg (E := dD) (xs := [_]) rfl rfl rfl rfl rfl (by decide) (by decide) (by repeat (first | exact (aW.nil : aW _ _ [] _) | (show aW _ _ ((_, _) :: _) _; apply aW.one; (· exact (rfl : _ = Ty.int _ _)); (· exact rfl)))) (by exact rfl) rfl ?_
  refine aZ (rz _ _) rfl rfl rfl rfl rfl (bk rfl (aD (bM (aB (aA ?_)))))
  refine b8 rfl rfl (by omega) (by omega) ?_
  refine bI rfl (aD ?_)
  refine bO (⟨j.1 + 1, by omega⟩) ?_ (by show (cJ fl b.1 (y.cells + 1) (cm has less)).length - (j.1 + 1) < (cJ fl b.1 (y.cells + 1) (cm has less)).length - j.1; omega)
  (refine cv.mk' ?_ ?_ <;> (repeat' (first | exact aM | exact aL | refine aC ?_ (Ty.aV _) | refine aC ?_ (Ty.aF _) | refine aK rfl (Cont.aF _) ?_ | refine aC ?_ ?_)))
  all_goals skip
  all_goals exact Ty.bU (by rw [cS (by omega)]; exact vK)
 refine cI (aP (aP (aj rfl (aB ?_))))
 have hmp := qB (fl := fl) (a := b.1) (m := 300) (by decide) (cJ fl b.1 (y.cells + 1) (cm has less)) hC.ways
 have hml := (rQ (fl := fl) (a := b.1) 300 (cJ fl b.1 (y.cells + 1) (cm has less))).1
 refine iU (s := 6) rfl (Ty.bU (by rw [List.take_of_length_le (by omega)] : _ = ef fl b.1 300 (cJ fl b.1 (y.cells + 1) (cm has less)))) ?_
 refine aA (ji rfl (ej rfl (bI rfl ?_)))
 refine dI [(1000, 1000)] [] [(1000, Cont.vec dD 3 (dZ b.1 (cJ fl b.1 (y.cells + 1) (cm has less)) (ef fl b.1 300 (cJ fl b.1 (y.cells + 1) (cm has less)))))] (Ie y fl b.1 hF (cJ fl b.1 (y.cells + 1) (cm has less)) (by omega) (fun w hw => (hC.ways w hw).1) (ef fl b.1 300 (cJ fl b.1 (y.cells + 1) (cm has less))) (by omega)) rfl rfl (aN (aN (aN bW (aT rfl rfl)) (aT rfl rfl)) (ep (aN (aN (aN (aN (aN (aN bW (eW (by exact List.mem_cons_self))) (aT rfl rfl)) (aT rfl rfl)) (aT rfl rfl)) (aT rfl rfl)) (aT rfl rfl)))) (dN (a := 1000) (b := 1000) (by exact List.mem_cons_self) rfl (cG (by exact List.mem_cons_self) rfl) pre_nil) (cA (a := 1000) (b := 1000) (by decide) rfl (cG (by decide) rfl) post_nil) (aT rfl rfl) ?_
 refine aD (bM ?_)
 refine bO (⟨dZ b.1 (cJ fl b.1 (y.cells + 1) (cm has less)) (ef fl b.1 300 (cJ fl b.1 (y.cells + 1) (cm has less))), hnx.1⟩) ?_ (by exact hnx.2.1)
 (refine cv.mk' ?_ ?_ <;> (repeat' (first | exact aM | exact aL | refine aC ?_ (Ty.aV _) | refine aC ?_ (Ty.aF _) | refine aK rfl (Cont.aF _) ?_)))
 all_goals skip
set_option maxRecDepth 100000 in
theorem Cl (y : bA) (fl : List bp) (a : List Int) (h : lV y fl a) (hfe : gW fl (y.cells + 1) a) (th : Ty) (h1 : th.deps = []) (h2 : th.cdeps = []) (has : Nat → Bool) (hf : ∀ i, i < fl.length → nT Tryz.prog (Ty.nd th h1 h2) [Ty.int .i64 ((i : Nat) : Int)] (Ty.bool (has i))) (ho : th.one = true) : fC Tryz.prog 87 [1000] [(1000, Cont.vec dD 3 a)] [Ty.pp (dx y fl 1000 fl.length), Ty.nd th h1 h2] [(1000, Cont.vec dD 3 (xy fl (y.cells + 1) has a))] (Ty.agg (dS.tys (gX fl (y.cells + 1) has))) := by
 refine fV Tryz.func87 rfl (by decide) Tryz.ntmps87 (by exact Nat.le_of_ble_eq_true rfl) fun w0 M0 => ?_
 have hsp := r9 (has := has) h.net (Nat.succ_pos _) h.bd hfe
 have hF : lV y fl (AY fl (y.cells + 1) has a) := ⟨h.right, h.net, h.bd, hsp.1.1, h.qL⟩
 refine aE (aA ?_)
 refine bu rfl (by exact List.cons_ne_nil _ _) rfl ?_
 refine aD (aB (aE (aA (ji rfl ?_))))
 refine eA (ty := Ty.nd th h1 h2) rfl ?_
 refine dJ rfl rfl (by exact List.cons_ne_nil _ _) rfl (aW.one (ty := Ty.nd th h1 h2) rfl ho (aW.one (ty := Ty.bool true) rfl rfl aW.nil)) (by exact (rfl : _ = some [_, _])) ?_
 refine dI [(1000, 1000)] [] [(1000, Cont.vec dD 3 (AY fl (y.cells + 1) has a))] (HW y fl a h hfe th h1 h2 has hf true) rfl rfl (aN (aN bW (aT rfl rfl)) (ep (aN (aN (aN (aN (aN (aN bW (eW (by exact List.mem_cons_self))) (aT rfl rfl)) (aT rfl rfl)) (aT rfl rfl)) (aT rfl rfl)) (aT rfl rfl)))) (dN (a := 1000) (b := 1000) (by exact List.mem_cons_self) rfl (cG (by exact List.mem_cons_self) rfl) pre_nil) (cA (a := 1000) (b := 1000) (by decide) rfl (cG (by decide) (lo_eq _ _ _ _)) post_nil) (aT rfl rfl) ?_
 refine bk rfl (aD (aB (aE (aA (bI rfl (ji rfl ?_))))))
 refine eA (ty := Ty.nd th h1 h2) rfl ?_
 refine dJ rfl rfl (by exact List.cons_ne_nil _ _) rfl (aW.one (ty := Ty.nd th h1 h2) rfl ho (aW.one (ty := Ty.bool false) rfl rfl aW.nil)) (by exact (rfl : _ = some [_, _])) ?_
 refine dI [(1000, 1000)] [] [(1000, Cont.vec dD 3 (xy fl (y.cells + 1) has a))] (HW y fl (AY fl (y.cells + 1) has a) hF hsp.1 th h1 h2 has hf false) rfl rfl (aN (aN bW (aT rfl rfl)) (ep (aN (aN (aN (aN (aN (aN bW (eW (by exact List.mem_cons_self))) (aT rfl rfl)) (aT rfl rfl)) (aT rfl rfl)) (aT rfl rfl)) (aT rfl rfl)))) (dN (a := 1000) (b := 1000) (by exact List.mem_cons_self) rfl (cG (by exact List.mem_cons_self) rfl) pre_nil) (cA (a := 1000) (b := 1000) (by decide) rfl (cG (by decide) (hi_eq _ _ _ _)) post_nil) (aT rfl rfl) ?_
 refine dJ rfl rfl (by exact List.cons_ne_nil _ _) rfl (by repeat (first | exact (aW.nil : aW _ _ [] _) | (show aW _ _ ((_, _) :: _) _; apply aW.one; (· exact (rfl : _ = Ty.int _ _)); (· exact rfl)))) (by exact (rfl : _ = some [_, _])) ?_
 refine bq rfl rfl (by decide) rfl rfl rfl rfl rfl rfl ?_
 refine aD (aB (ay ?_))
 refine Jl [1000] rfl rfl rfl rfl (by decide) rfl rfl rfl (by decide) (by repeat (first | exact gR | refine fM rfl (cG (by decide) rfl) ?_)) ?_
 all_goals skip
 all_goals exact hU (oP rfl rfl (congrArg (fun s => Ty.agg (dS.tys s)) (Jm h.net (Nat.succ_pos _) h.bd hfe)))
set_option maxRecDepth 100000 in
theorem LR (y : bA) (c : Nat → Bool) (a : List Int) (hr : y.cZ) (hl : a.length = (aR y c).length) : dK Tryz.prog 120 [Ty.pp (l9 y (aR y c) a)] (mA (gL y a)) := by
 refine aa Tryz.func120 rfl (by decide) Tryz.ntmps120 (by exact Nat.le_of_ble_eq_true rfl) fun w0 M0 => ?_
 have hfl := fA (y := y) (c := c)
 have h1 := hr.bins
 have h2 := hr.days
 have h3 := D_eq hr
 have h4 := hr.moves
 have hf34 : (aR y c).length ≤ 34 := j4 hr
 refine aE (aA ?_)
 refine bu rfl (by exact List.cons_ne_nil _ _) rfl ?_
 refine aD (aB (aE (aA ?_)))
 refine bu rfl (by exact List.cons_ne_nil _ _) rfl ?_
 refine aD (aB (aE (aE (aA (ji rfl (bh rfl ?_))))))
 refine aI rfl rfl rfl rfl rfl (by decide) ?_
 refine aI rfl rfl rfl rfl rfl (by decide) ?_
 refine aG rfl rfl rfl rfl (b9 rfl rfl rfl (bI rfl (aD (aB (af ?_)))))
 refine cK (fun (k : {k : Nat // k ≤ y.bins.length}) => live [(0, Ty.pp (l9 y (aR y c) a)), (2, Ty.ptr 3 0), (3, Ty.ptr 4 0), (9, Ty.sl fJ y.bins), (10, Ty.int .i64 y.bins.length), (11, Ty.int .i64 (k.1 : Nat))] [(3, Cont.cells 30 [Ty.ex (.slice none 0 0), Ty.ex (.slice none 0 0)]), (4, Cont.cells 30 [Ty.row dD 3 26 (iB y a k.1), Ty.ex (.slice none 0 0)])]) (fun k => y.bins.length - k.1) (⟨0, by omega⟩) ?_ fun k => ?_
 ·(refine cv.mk' ?_ ?_ <;> (repeat' (first | exact aM | exact aL | exact c7 | refine aC ?_ (Ty.aV _) | refine aC ?_ (Ty.aF _) | refine aK rfl (Cont.aF _) ?_ | refine aK rfl (Cont.dB ?_) ?_ | refine bG ?_ (Ty.aF _) | refine bG ?_ ?_)))
  all_goals exact Hq Be
 have hk := k.2
 have hfk := C8 (y := y) (a := a) k.1
 refine aE (aA (bC rfl rfl rfl (aD (aB (aE ?_)))))
 refine az rfl (fun hc1 => ?_) (fun hc1 => ?_)
 ·
  refine aq (aB (aE (af (aE (aA (bI rfl (bk rfl (aD (aB ?_)))))))))
  have hkl := Gp hl (show k.1 < y.bins.length by omega)
  refine cN mixed rfl ?_
  refine aS rfl rfl rfl rfl rfl (by decide) ?_
  refine aX rfl rfl (by decide) rfl rfl rfl ?_
  refine ji rfl (bh rfl ?_)
  refine aI rfl rfl rfl rfl rfl (by decide) ?_
  refine aG rfl rfl rfl rfl (ji rfl (bI rfl ?_))
  refine eM [] (Cs y hr k.1 0 (by omega) (Nat.zero_le _)) rfl (aY (nK (l1 := bS y) (l2 := [Ty.sl dW (aR y c), Ty.sl dD a]) rfl rfl) (aY (bV (bR rfl rfl)) (aY (bV (bR rfl rfl)) cY))) (by exact c6 _ _) ?_
  refine ak rfl rfl rfl rfl rfl rfl (by omega) ?_
  refine aG rfl rfl rfl rfl ?_
  refine bg (E := dD) (xs := [_]) rfl rfl rfl rfl rfl (by decide) (by decide) (by repeat (first | exact (aW.nil : aW _ _ [] _) | (show aW _ _ ((_, _) :: _) _; apply aW.one; (· exact (rfl : _ = Ty.int _ _)); (· exact rfl)))) (by exact rfl) rfl ?_
  refine fI rfl rfl (by decide) rfl rfl rfl rfl rfl rfl (by decide) (by (simp <;> omega)) (by (simp <;> omega)) ?_
  refine aS rfl rfl rfl rfl rfl (by decide) ?_
  refine dF rfl rfl (by decide) rfl rfl (by exact (rfl : _ = Ty.row _ _ _ _)) rfl (by exact Nat.le_of_ble_eq_true rfl) rfl rfl (by exact rfl) ?_
  refine aD ?_
  refine ⟨by kernel_rfl, ?_⟩
  refine bM (aB (aA ?_))
  refine b8 rfl rfl (by omega) (by omega) ?_
  refine bI rfl (aD ?_)
  refine bO (⟨k.1 + 1, by omega⟩) ?_ (by show y.bins.length - (k.1 + 1) < y.bins.length - k.1; omega)
  (refine cv.mk' ?_ ?_ <;> (repeat' (first | exact aM | exact aL | exact c7 | refine aC ?_ (Ty.aV _) | refine aC ?_ (Ty.aF _) | refine aK rfl (Cont.aF _) ?_ | refine aK rfl (Cont.dB ?_) ?_ | refine bG ?_ (Ty.aF _) | refine bG ?_ ?_)))
  all_goals skip
  all_goals exact Ty.gY (Bz _)
 refine cI (aP (aP (aj rfl (aB (aE (cN mixed rfl (ji rfl (bh rfl ?_))))))))
 refine aI rfl rfl rfl rfl rfl (by decide) ?_
 refine aG rfl rfl rfl rfl (ji rfl (bh rfl ?_))
 refine aI rfl rfl rfl rfl rfl (by decide) ?_
 refine aG rfl rfl rfl rfl (b9 rfl rfl rfl (ji rfl (bh rfl ?_)))
 refine aI rfl rfl rfl rfl rfl (by decide) ?_
 refine aI rfl rfl rfl rfl rfl (by decide) ?_
 refine aG rfl rfl rfl rfl (b9 rfl rfl rfl ?_)
 refine iA rfl rfl (by omega) (by omega) ?_
 refine HJ (lo := y.bins.length * (y.D + 1)) rfl (by exact congrArg (Ty.int .i64) (by rw [hfl]; omega : ((aR y c).length : Int) - (y.moves.length : Int) = ((y.bins.length * (y.D + 1) : Nat) : Int))) rfl rfl rfl rfl (by rw [hl]; omega) ?_
 refine aZ (Ak _ (by rw [List.length_drop]; omega)) rfl rfl rfl rfl rfl ?_
 refine aS rfl rfl rfl rfl rfl (by decide) ?_
 refine dF rfl rfl (by decide) rfl rfl (by exact (rfl : _ = Ty.sl _ _)) rfl (by exact Nat.le_of_ble_eq_true rfl) rfl rfl (by exact rfl) ?_
 refine aD ?_
 refine ⟨by kernel_rfl, ?_⟩
 refine aB (aE (aA ?_))
 refine bf rfl rfl (by decide) rfl rfl (by exact Nat.le_of_ble_eq_true rfl) ?_
 refine bq rfl rfl (by decide) rfl rfl rfl rfl rfl rfl ?_
 refine aD (aB (ay ?_))
 refine p7 rfl rfl rfl rfl (by decide) rfl rfl rfl ?_
 exact Dp (ts := eP (gL y a)) (p4 (vm (by decide) (show iB y a k.1 = (gL y a).first by rw [show k.1 = y.bins.length by have := k.2; omega]; exact congrArg dL.first (told_eq y a))) (p4 (bY rfl rfl) Bx))
end Go.Proofs.YtelbollidfdcjaaGreat
namespace Go.Proofs.YtelbollidfdcjaaGreat
open Go Go.T
set_option maxHeartbeats 16000000
noncomputable def kS (y : bA) : List Int := (cP (aR y (nth bZ)) (y.cells + 1) (gm (aR y (nth bZ)))).2.2
noncomputable def cr (y : bA) : Int := if bT y = 0 then (if (cP (aR y (nth bZ)) (y.cells + 1) (gm (aR y (nth bZ)))).2.1 = true then 7 else 0) else bT y
noncomputable def uA (y : bA) : dL := if cr y = 0 then gL y (kS y) else ⟨[], []⟩
theorem jP : bZ.length = 8 := rfl
theorem lq {y : bA} (hr : y.cZ) {c : Nat → Bool} : Gd y (aR y c) (gm (aR y c)) := ⟨hr, lf hr, ux hr, fun e => Hr (yU e), j4 hr⟩
section
variable {y : bA}
theorem open_1 (h : ¬ bT y = 0) : bT y = cr y := (if_neg h).symm
theorem wz (h : bT y = 0) (h2 : (cP (aR y (nth bZ)) (y.cells + 1) (gm (aR y (nth bZ)))).2.1 = true) : 7 = cr y := by unfold cr; rw [if_pos h, if_pos h2]
theorem open_3 (h : bT y = 0) (h2 : (cP (aR y (nth bZ)) (y.cells + 1) (gm (aR y (nth bZ)))).2.1 = false) : 0 = cr y := by unfold cr; rw [if_pos h, if_neg (by rw [h2]; decide)]
theorem eG (h : cr y = 0) : bT y = 0 := by
 by_cases e : bT y = 0
 ·exact e
 rw [← open_1 e] at h; exact absurd h e
theorem zF (h : cr y = 0) : (cP (aR y (nth bZ)) (y.cells + 1) (gm (aR y (nth bZ)))).2.1 = false := by
  cases e : (cP (aR y (nth bZ)) (y.cells + 1) (gm (aR y (nth bZ)))).2.1 with
  | false => rfl
  | true => rw [← wz (eG h) e] at h; cases h
theorem Df (hr : y.cZ) (h2 : (cP (aR y (nth bZ)) (y.cells + 1) (gm (aR y (nth bZ)))).2.1 = false) : gW (aR y (nth bZ)) (y.cells + 1) (cP (aR y (nth bZ)) (y.cells + 1) (gm (aR y (nth bZ)))).2.2 := xm (lf hr) (lq hr).inb h2
theorem pg (h : cr y = 0) : gW (aR y (nth bZ)) (y.cells + 1) (kS y) := Df (cy (eG h)) (zF h)
theorem Lx (h : ¬ bT y = 0) : (⟨[], []⟩ : dL) = uA y := by unfold uA; rw [← open_1 h, if_neg h]
theorem Mb (h : bT y = 0) (h2 : (cP (aR y (nth bZ)) (y.cells + 1) (gm (aR y (nth bZ)))).2.1 = true) : (⟨[], []⟩ : dL) = uA y := by unfold uA; rw [← wz h h2]; rfl
theorem LX (h : bT y = 0) (h2 : (cP (aR y (nth bZ)) (y.cells + 1) (gm (aR y (nth bZ)))).2.1 = false) : gL y (cP (aR y (nth bZ)) (y.cells + 1) (gm (aR y (nth bZ)))).2.2 = uA y := by unfold uA; rw [if_pos (open_3 h h2).symm]; rfl
theorem y5 {a : dL} (e : ⟨[], []⟩ = a) : iE (Ty.agg [Ty.ko (.slice none 0 0), Ty.ko (.slice none 0 0)]) (mA a) := by subst e; exact Dp (ts := eP ⟨[], []⟩) (p4 mE (p4 mE Bx))
theorem Cc {b : Bool} (h : (!!b) = true) : b = true := by cases b <;> first | rfl | cases h
theorem Di {b : Bool} (h : (!!b) = false) : b = false := by cases b <;> first | rfl | cases h
theorem L4 (y : bA) : (cP (aR y (nth bZ)) (y.cells + 1) (gm (aR y (nth bZ)))).2.2 = kS y := rfl
end
attribute [local irreducible] aR gm Way.gp Way.fin Way.room eK dZ eY gT over bH cM dP eJ jN ef gu kI cP gM fm fj cm cJ gS pK iR ir jF gX AY xy iB bA.kept bA.cells bT dz bZ gL kS cr
attribute [local irreducible] g6 fS m8 qg iZ iT ij ia ig qM iS qR dY gb qd gV qV nth fU dR av dK bodyPost Exit.then Exit.inBlock Code.wp Code.wpIn fR qb qX qT iw qW qc iY fC cT cU bodyPostM dr
set_option maxRecDepth 100000 in
theorem Me (y : bA) (hs : y.Small) : dK Tryz.prog 47 [eB y] (Ty.kD [mA (uA y), Ty.int .i64 (cr y)]) := by
 refine aa Tryz.func47 rfl (by decide) Tryz.ntmps47 (by exact Nat.le_of_ble_eq_true rfl) fun w0 M0 => ?_
 refine aE (aA (bD rfl ?_))
 refine bu rfl (by exact List.cons_ne_nil _ _) rfl ?_
 refine bk rfl (aD (aB (aE (aE (aA ?_)))))
 refine aU rfl rfl rfl (by exact Nat.le_of_ble_eq_true rfl) ?_
 refine aZ (kF y hs) rfl rfl rfl rfl rfl (bk rfl (aD (aB (aE (aA (bI rfl (bC rfl rfl rfl (aD (aB ?_)))))))))
 refine bz rfl (fun hc1 => ?_) (fun hc1 => ?_)
 ·
  refine aE (aA ?_)
  refine dJ rfl rfl (by exact List.cons_ne_nil _ _) rfl (by repeat (exact (aW.nil : aW _ _ [] _))) (by exact (rfl : _ = some [_, _])) ?_
  refine bI rfl ?_
  refine bq rfl rfl (by decide) rfl rfl rfl rfl rfl rfl ?_
  refine bk rfl (aD (aB (ay (aQ ?_))))
  refine jh rfl rfl rfl rfl rfl (by decide) rfl rfl rfl ?_ ?_
  all_goals skip
  all_goals first | exact y5 (Lx hc1) | exact ah rfl rfl (congrArg (Ty.int .i64) (open_1 hc1))
 refine aq (aB (aE ?_))
 have hck : bT y = 0 := hc1
 have hr := cy hck
 refine cN mixed rfl ?_
 refine aU rfl rfl rfl (by exact Nat.le_of_ble_eq_true rfl) ?_
 refine aZ (ru) rfl rfl rfl rfl rfl ?_
 refine dI (res' := Ty.pp (sK y 2000 1000 (aR y (nth bZ)).length (aR y (nth bZ)).length)) [(2000, 23), (1000, 31)] [2000, 1000] [(2000, Cont.vec dW 187 (aR y (nth bZ))), (1000, Cont.vec dD 3 (gm (aR y (nth bZ))))] (rY y hr bZ jP) rfl rfl (aN (aN bW (aT rfl rfl)) (aT rfl rfl)) pre_nil (cA (a := 2000) (b := 23) (by decide) rfl (cG (by decide) rfl) (cA (a := 1000) (b := 31) (by decide) rfl (cG (by decide) rfl) post_nil)) (ep (aN (aN (aN (aN (aN (aN bW (eW (by decide))) (eW (by decide))) (aT rfl rfl)) (aT rfl rfl)) (aT rfl rfl)) (aT rfl rfl))) ?_
 refine Jo rfl (aD ?_)
 refine ⟨by kernel_rfl, ?_⟩
 refine aB (aE (aE ?_))
 refine jO (tg := 2000) [(5, Ty.pp (dx y (aR y (nth bZ)) 1000 (aR y (nth bZ)).length))] (by decide) rfl ⟨AD rfl ⟨cH rfl, cH rfl, cH rfl, cH rfl, pH rfl rfl (by decide), cH rfl, trivial⟩, trivial⟩ ?_
 refine aA (ji rfl ?_)
 refine dI [(1000, 1000)] [] [(1000, Cont.vec dD 3 (cP (aR y (nth bZ)) (y.cells + 1) (gm (aR y (nth bZ)))).2.2)] (nB y (aR y (nth bZ)) (gm (aR y (nth bZ))) (lq hr)) rfl rfl (aN bW (ep (aN (aN (aN (aN (aN (aN bW (eW (by exact List.mem_cons_self))) (aT rfl rfl)) (aT rfl rfl)) (aT rfl rfl)) (aT rfl rfl)) (aT rfl rfl)))) (dN (a := 1000) (b := 1000) (by exact List.mem_cons_self) rfl (cG (by exact List.mem_cons_self) rfl) pre_nil) (cA (a := 1000) (b := 1000) (by decide) rfl (cG (by decide) rfl) post_nil) (aT rfl rfl) ?_
 refine dX rfl (aD (aB ?_))
 refine bt rfl (fun hc2 => ?_) (fun hc2 => ?_)
 ·
  refine aE (aA ?_)
  refine dJ rfl rfl (by exact List.cons_ne_nil _ _) rfl (by repeat (exact (aW.nil : aW _ _ [] _))) (by exact (rfl : _ = some [_, _])) ?_
  refine bq rfl rfl (by decide) rfl rfl rfl rfl rfl rfl ?_
  refine bk rfl (aD (aB (ay (aQ ?_))))
  refine jh rfl rfl rfl rfl rfl (by decide) rfl rfl rfl ?_ ?_
  all_goals skip
  all_goals first | exact y5 (Mb hck (Cc hc2)) | exact ah rfl rfl (congrArg (Ty.int .i64) (wz hck (Cc hc2)))
 refine aq (aB (aE ?_))
 have hfe := Df hr (Di hc2)
 refine jO (tg := 1000) [(5, Ty.pp (l9 y (aR y (nth bZ)) (cP (aR y (nth bZ)) (y.cells + 1) (gm (aR y (nth bZ)))).2.2))] (by decide) rfl ⟨AD rfl ⟨cH rfl, cH rfl, cH rfl, cH rfl, cH rfl, pH rfl hfe.1.1 (by decide), trivial⟩, trivial⟩ ?_
 refine aA (ji rfl (aZ (LR y (nth bZ) (cP (aR y (nth bZ)) (y.cells + 1) (gm (aR y (nth bZ)))).2.2 hr hfe.1.1) rfl rfl rfl rfl rfl ?_))
 refine bq rfl rfl (by decide) rfl rfl rfl rfl rfl rfl ?_
 refine bk rfl (aD (aB (ay ?_)))
 refine jh rfl rfl rfl rfl rfl (by decide) rfl rfl rfl ?_ ?_
 all_goals skip
 all_goals first | exact ah rfl rfl (congrArg mA (LX hck (Di hc2))) | exact ah rfl rfl (congrArg (Ty.int .i64) (open_3 hck (Di hc2)))
set_option maxRecDepth 100000 in
theorem xE (y : bA) (hs : y.Small) (h : cr y = 0) : fC Tryz.prog 86 [] [] [eB y] [(1000, Cont.vec dD 3 (kS y))] (Ty.kD [Ty.pp (dx y (aR y (nth bZ)) 1000 (aR y (nth bZ)).length), Ty.int .i64 0]) := by
 refine qq Tryz.func86 rfl (by decide) Tryz.ntmps86 (by exact Nat.le_of_ble_eq_true rfl) fun w0 M0 => ?_
 have hck := eG h
 have hr := cy hck
 have hst := zF h
 refine aE (aA (bD rfl (kE rfl (bk rfl (aD (aB (aE (aE (aA ?_)))))))))
 refine aU rfl rfl rfl (by exact Nat.le_of_ble_eq_true rfl) ?_
 refine aZ (kF y hs) rfl rfl rfl rfl rfl (bk rfl (aD (aB (aE (aA (bI rfl (bC rfl rfl rfl (aD (aB ?_)))))))))
 refine mY rfl (by rw [hck]; rfl) ?_
 refine aq (aB (aE (cN mixed rfl ?_)))
 refine aU rfl rfl rfl (by exact Nat.le_of_ble_eq_true rfl) ?_
 refine aZ (ru) rfl rfl rfl rfl rfl ?_
 refine dI (res' := Ty.pp (sK y 2000 1000 (aR y (nth bZ)).length (aR y (nth bZ)).length)) [(2000, 23), (1000, 31)] [2000, 1000] [(2000, Cont.vec dW 187 (aR y (nth bZ))), (1000, Cont.vec dD 3 (gm (aR y (nth bZ))))] (rY y hr bZ jP) rfl rfl (aN (aN bW (aT rfl rfl)) (aT rfl rfl)) pre_nil (cA (a := 2000) (b := 23) (by decide) rfl (cG (by decide) rfl) (cA (a := 1000) (b := 31) (by decide) rfl (cG (by decide) rfl) post_nil)) (ep (aN (aN (aN (aN (aN (aN bW (eW (by decide))) (eW (by decide))) (aT rfl rfl)) (aT rfl rfl)) (aT rfl rfl)) (aT rfl rfl))) ?_
 refine Jo rfl (aD ?_)
 refine ⟨by kernel_rfl, ?_⟩
 refine aB (aE (aE ?_))
 refine jO (tg := 2000) [(5, Ty.pp (dx y (aR y (nth bZ)) 1000 (aR y (nth bZ)).length))] (by decide) rfl ⟨AD rfl ⟨cH rfl, cH rfl, cH rfl, cH rfl, pH rfl rfl (by decide), cH rfl, trivial⟩, trivial⟩ ?_
 refine aA (ji rfl ?_)
 refine dI [(1000, 1000)] [] [(1000, Cont.vec dD 3 (cP (aR y (nth bZ)) (y.cells + 1) (gm (aR y (nth bZ)))).2.2)] (nB y (aR y (nth bZ)) (gm (aR y (nth bZ))) (lq hr)) rfl rfl (aN bW (ep (aN (aN (aN (aN (aN (aN bW (eW (by exact List.mem_cons_self))) (aT rfl rfl)) (aT rfl rfl)) (aT rfl rfl)) (aT rfl rfl)) (aT rfl rfl)))) (dN (a := 1000) (b := 1000) (by exact List.mem_cons_self) rfl (cG (by exact List.mem_cons_self) rfl) pre_nil) (cA (a := 1000) (b := 1000) (by decide) rfl (cG (by decide) rfl) post_nil) (aT rfl rfl) ?_
 refine dX rfl (aD (aB ?_))
 refine mY rfl (by rw [hst]; rfl) ?_
 refine aq (aB (aE (aA (ji rfl (Jo rfl (bk rfl (aD (aB (ay ?_)))))))))
 refine GQ rfl ?_
 refine zy [1000] rfl rfl rfl (by decide) ?_ ?_ ?_
 ·exact fM rfl (cG (by decide) (L4 y)) gR
 all_goals first | exact hU (aT rfl rfl) | skip
 all_goals exact hU (ep (aN (aN (aN (aN (aN (aN bW (eW (by decide))) (aT rfl rfl)) (aT rfl rfl)) (aT rfl rfl)) (aT rfl rfl)) (aT rfl rfl)))
set_option maxRecDepth 100000 in
theorem pG (y : bA) (hs : y.Small) (h : cr y ≠ 0) : dK Tryz.prog 86 [eB y] (Ty.kD [Ty.ex (.pointer none), Ty.int .i64 (cr y)]) := by
 refine aa Tryz.func86 rfl (by decide) Tryz.ntmps86 (by exact Nat.le_of_ble_eq_true rfl) fun w0 M0 => ?_
 refine aE (aA (bD rfl (kE rfl (bk rfl (aD (aB (aE (aE (aA ?_)))))))))
 refine aU rfl rfl rfl (by exact Nat.le_of_ble_eq_true rfl) ?_
 refine aZ (kF y hs) rfl rfl rfl rfl rfl (bk rfl (aD (aB (aE (aA (bI rfl (bC rfl rfl rfl (aD (aB ?_)))))))))
 refine bz rfl (fun hc1 => ?_) (fun hc1 => ?_)
 ·
  refine aE (aA (bI rfl (kE rfl (bk rfl (aD (aB (ay (aQ ?_))))))))
  refine eX rfl rfl rfl ?_ ?_
  all_goals first | exact bY rfl rfl | skip
  all_goals exact ah rfl rfl (congrArg (Ty.int .i64) (open_1 hc1))
 refine aq (aB (aE ?_))
 have hck : bT y = 0 := hc1
 have hr := cy hck
 refine cN mixed rfl ?_
 refine aU rfl rfl rfl (by exact Nat.le_of_ble_eq_true rfl) ?_
 refine aZ (ru) rfl rfl rfl rfl rfl ?_
 refine dI (res' := Ty.pp (sK y 2000 1000 (aR y (nth bZ)).length (aR y (nth bZ)).length)) [(2000, 23), (1000, 31)] [2000, 1000] [(2000, Cont.vec dW 187 (aR y (nth bZ))), (1000, Cont.vec dD 3 (gm (aR y (nth bZ))))] (rY y hr bZ jP) rfl rfl (aN (aN bW (aT rfl rfl)) (aT rfl rfl)) pre_nil (cA (a := 2000) (b := 23) (by decide) rfl (cG (by decide) rfl) (cA (a := 1000) (b := 31) (by decide) rfl (cG (by decide) rfl) post_nil)) (ep (aN (aN (aN (aN (aN (aN bW (eW (by decide))) (eW (by decide))) (aT rfl rfl)) (aT rfl rfl)) (aT rfl rfl)) (aT rfl rfl))) ?_
 refine Jo rfl (aD ?_)
 refine ⟨by kernel_rfl, ?_⟩
 refine aB (aE (aE ?_))
 refine jO (tg := 2000) [(5, Ty.pp (dx y (aR y (nth bZ)) 1000 (aR y (nth bZ)).length))] (by decide) rfl ⟨AD rfl ⟨cH rfl, cH rfl, cH rfl, cH rfl, pH rfl rfl (by decide), cH rfl, trivial⟩, trivial⟩ ?_
 refine aA (ji rfl ?_)
 refine dI [(1000, 1000)] [] [(1000, Cont.vec dD 3 (cP (aR y (nth bZ)) (y.cells + 1) (gm (aR y (nth bZ)))).2.2)] (nB y (aR y (nth bZ)) (gm (aR y (nth bZ))) (lq hr)) rfl rfl (aN bW (ep (aN (aN (aN (aN (aN (aN bW (eW (by exact List.mem_cons_self))) (aT rfl rfl)) (aT rfl rfl)) (aT rfl rfl)) (aT rfl rfl)) (aT rfl rfl)))) (dN (a := 1000) (b := 1000) (by exact List.mem_cons_self) rfl (cG (by exact List.mem_cons_self) rfl) pre_nil) (cA (a := 1000) (b := 1000) (by decide) rfl (cG (by decide) rfl) post_nil) (aT rfl rfl) ?_
 refine dX rfl (aD (aB ?_))
 refine bt rfl (fun hc2 => ?_) (fun hc2 => ?_)
 ·
  refine aE (aA (kE rfl (bk rfl (aD (aB (ay (aQ ?_)))))))
  refine eX rfl rfl rfl ?_ ?_
  all_goals first | exact bY rfl rfl | skip
  all_goals exact ah rfl rfl (congrArg (Ty.int .i64) (wz hck (Cc hc2)))
 refine aq (aB (aE (aA (ji rfl (Jo rfl (bk rfl (aD (aB (ay ?_)))))))))
 refine eX rfl rfl rfl ?_ ?_
 all_goals skip
 all_goals exact absurd (open_3 hck (Di hc2)).symm h
end Go.Proofs.YtelbollidfdcjaaGreat
namespace Go.Proofs.YtelbollidfdcjaaGreat
open Go Go.T
set_option maxHeartbeats 16000000
def tK (k : Nat) (i : Nat) : Bool := decide ((i : Int) = (k : Int))
def hasB (y : bA) (b t : Nat) : Nat → Bool := tK (y.kept b t)
noncomputable def oU (fl : List bp) (n : Nat) (y : bA) (b : Nat) (a : List Int) : Nat → List Int
  | 0 => a
  | t + 1 => xy fl n (hasB y b t) (oU fl n y b a t)
noncomputable def qK (fl : List bp) (n : Nat) (y : bA) (b k : Nat) : List Span := (List.range k).map fun t => gX fl n (hasB y b t)
noncomputable def kG (y : bA) (b : Int) : Int := if dz y b = 0 then cr y else dz y b
noncomputable def jW (y : bA) (b : Int) : List Span := if kG y b = 0 then qK (aR y (nth bZ)) (y.cells + 1) y b.toNat (y.D + 1) else []
def Jw (y : bA) (k : Int) : Int := if bT y = 0 then (if (decide (k ≥ 0) && decide (k ≤ (y.moves.length : Int) - 1)) = true then 0 else 1) else bT y
noncomputable def kX (y : bA) (k : Int) : Int := if Jw y k = 0 then cr y else Jw y k
noncomputable def nC (y : bA) (k : Int) : Span := if kX y k = 0 then gX (aR y (nth bZ)) (y.cells + 1) (tK (y.bins.length * (y.D + 1) + k.toNat)) else ⟨0, 0⟩
theorem sy {y : bA} (h : cr y = 0) : lV y (aR y (nth bZ)) (kS y) := ⟨cy (eG h), lf (cy (eG h)), ux (cy (eG h)), (pg h).1, j4 (cy (eG h))⟩
section
variable {y : bA} {fl : List bp} {a : List Int} {n b k : Nat} {q : Int}
theorem Bu (hN : Net fl n) (hn : 0 < n) (hB : Bd fl) (h : gW fl n a) : ∀ t, gW fl n (oU fl n y b a t)
  | 0 => h
  | t + 1 => (r9 hN hn hB (Bu hN hn hB h t)).2.1
theorem Iz : a = oU fl n y b a 0 := rfl
theorem G2 (t : Nat) : xy fl n (hasB y b t) (oU fl n y b a t) = oU fl n y b a (t + 1) := rfl
theorem FR (t : Nat) : qK fl n y b t ++ [gX fl n (hasB y b t)] = qK fl n y b (t + 1) := by unfold qK; rw [List.range_succ, List.map_append]; rfl
theorem Hg (t : Nat) : (qK fl n y b t).length = t := by unfold qK; rw [List.length_map, List.length_range]
theorem E2 : qK fl n y b 0 = [] := rfl
theorem BN {T tg : Nat} {xs : List Span} (h : xs = []) : (Ty.ex (.slice none 0 0)).Sub (Ty.row dS T tg xs) := by subst h; exact Ty.dQ
theorem Jg (k : Nat) (i : Nat) : decide ((i : Int) = (k : Int)) = tK k i := rfl
theorem Ju (b t i : Nat) : decide ((i : Int) = ((y.kept b t : Nat) : Int)) = hasB y b t i := rfl
theorem zl (h : ¬ dz y q = 0) : dz y q = kG y q ∧ [] = jW y q := by
 have e : dz y q = kG y q := (if_neg h).symm
 exact ⟨e, by unfold jW; rw [← e, if_neg h]⟩
theorem HM (h : dz y q = 0) (ho : cr y ≠ 0) : cr y = kG y q ∧ [] = jW y q := by
 have e : cr y = kG y q := (if_pos h).symm
 exact ⟨e, by unfold jW; rw [← e, if_neg ho]⟩
theorem zK (h : dz y q = 0) (ho : cr y = 0) : 0 = kG y q ∧ qK (aR y (nth bZ)) (y.cells + 1) y q.toNat (y.D + 1) = jW y q := by
 have e : cr y = kG y q := (if_pos h).symm
 exact ⟨by rw [← e, ho], by unfold jW; rw [← e, if_pos ho]⟩
theorem Ea (h : dz y q = 0) : 0 ≤ q ∧ q < y.bins.length := by
 unfold dz at h
 by_cases e : bT y = 0
 ·rw [if_pos e] at h
  by_cases c : y.bin q = true
  ·unfold bA.bin qZ at c
   rw [Bool.and_eq_true, decide_eq_true_eq, decide_eq_true_eq] at c; omega
  rw [if_neg c] at h; cases h
 rw [if_neg e] at h; exact absurd h e
theorem Db (h : ¬ bT y = 0) : bT y = kX y q ∧ (⟨0, 0⟩ : Span) = nC y q := by
 have e1 : Jw y q = bT y := if_neg h
 have e : bT y = kX y q := by unfold kX; rw [e1, if_neg h]
 exact ⟨e, by unfold nC; rw [← e, if_neg h]⟩
theorem Dj (h : bT y = 0) (h2 : (!(decide (q ≥ 0) && decide (q ≤ (y.moves.length : Int) - 1))) = true) : 1 = kX y q ∧ (⟨0, 0⟩ : Span) = nC y q := by
 have e1 : Jw y q = 1 := by unfold Jw; rw [if_pos h, if_neg (by rw [mq h2]; decide)]
 have e : 1 = kX y q := by unfold kX; rw [e1]; rfl
 exact ⟨e, by unfold nC; rw [← e]; rfl⟩
theorem DL (h2 : (!(decide (q ≥ 0) && decide (q ≤ (y.moves.length : Int) - 1))) = false) : 0 ≤ q ∧ q < y.moves.length := by
 have := e9 h2
 rw [Bool.and_eq_true, decide_eq_true_eq, decide_eq_true_eq] at this; omega
theorem Ko (h : bT y = 0) (h2 : (!(decide (q ≥ 0) && decide (q ≤ (y.moves.length : Int) - 1))) = false) (ho : cr y ≠ 0) : cr y = kX y q ∧ (⟨0, 0⟩ : Span) = nC y q := by
 have e1 : Jw y q = 0 := by unfold Jw; rw [if_pos h, if_pos (e9 h2)]
 have e : cr y = kX y q := by unfold kX; rw [e1]; rfl
 exact ⟨e, by unfold nC; rw [← e, if_neg ho]⟩
theorem D7 (h : bT y = 0) (h2 : (!(decide (q ≥ 0) && decide (q ≤ (y.moves.length : Int) - 1))) = false) (ho : cr y = 0) : 0 = kX y q ∧ gX (aR y (nth bZ)) (y.cells + 1) (tK (y.bins.length * (y.D + 1) + q.toNat)) = nC y q := by
 have e1 : Jw y q = 0 := by unfold Jw; rw [if_pos h, if_pos (e9 h2)]
 have e : cr y = kX y q := by unfold kX; rw [e1]; rfl
 exact ⟨by rw [← e, ho], by unfold nC; rw [← e, if_pos ho]⟩
end
attribute [local irreducible] aR gm Way.gp Way.fin Way.room eK dZ eY gT over bH cM dP eJ jN ef gu kI cP gM fm fj cm cJ gS pK iR ir jF gX AY xy iB bA.kept bA.cells bT dz bZ gL kS cr oU qK kG jW kX nC hasB tK
attribute [local irreducible] g6 fS m8 qg iZ iT ij ia ig qM iS qR dY gb qd gV qV nth fU dR av dK bodyPost Exit.then Exit.inBlock Code.wp Code.wpIn fR qb qX qT iw qW qc iY fC cT cU bodyPostM dr
set_option maxRecDepth 100000 in
theorem Eu (f k : Int) : dK Tryz.prog 165 [Ty.int .i64 f, Ty.pp [Ty.int .i64 k]] (Ty.bool (decide (f = k))) := by
 refine aa Tryz.func165 rfl (by decide) Tryz.ntmps165 (by exact Nat.le_of_ble_eq_true rfl) fun w0 M0 => ?_
 refine aE (aA (cj rfl (aD (aB (aE (aA (bI rfl (aG rfl rfl rfl rfl (bC rfl rfl rfl ?_)))))))))
 refine cj rfl (aD (aB (ay (bJ rfl rfl ?_))))
 all_goals exact bY rfl rfl
set_option maxRecDepth 100000 in
theorem GY (y : bA) (fl : List bp) (a : List Int) (h : lV y fl a) (hfe : gW fl (y.cells + 1) a) (b : Nat) (hb : b < y.bins.length) : fC Tryz.prog 91 [1000] [(1000, Cont.vec dD 3 a)] [Ty.pp (dx y fl 1000 fl.length), Ty.int .i64 ((b : Nat) : Int)] [(1000, Cont.vec dD 3 (oU fl (y.cells + 1) y b a (y.D + 1)))] (Ty.sl dS (qK fl (y.cells + 1) y b (y.D + 1))) := by
 refine fV Tryz.func91 rfl (by decide) Tryz.ntmps91 (by exact Nat.le_of_ble_eq_true rfl) fun w0 M0 => ?_
 have h1 := h.right.bins
 have h2 := h.right.days
 have h3 := D_eq h.right
 have hft := Bu (y := y) (b := b) h.net (Nat.succ_pos _) h.bd hfe
 refine aE (aA (kE rfl (aD (aB (aE (aA (kE rfl (aD (aB ?_)))))))))
 refine aE (aE (aA (ji rfl (bh rfl ?_))))
 refine aI rfl rfl rfl rfl rfl (by decide) ?_
 refine aI rfl rfl rfl rfl rfl (by decide) ?_
 refine aG rfl rfl rfl rfl ?_
 refine b8 rfl rfl (by omega) (by omega) ?_
 refine bI rfl (aD (aB (af ?_)))
 refine cK (fun (t : {t : Nat // t ≤ y.D + 1}) => live [(0, Ty.pp (dx y fl 1000 fl.length)), (1, Ty.int .i64 ((b : Nat) : Int)), (5, Ty.row dS 37 26 (qK fl (y.cells + 1) y b t.1)), (13, Ty.int .i64 (y.days + 1)), (14, Ty.int .i64 (t.1 : Nat))] [(1000, Cont.vec dD 3 (oU fl (y.cells + 1) y b a t.1))]) (fun t => y.D + 1 - t.1) (⟨0, by omega⟩) ?_ fun t => ?_
 ·(refine cv.mk' ?_ ?_ <;> (repeat' (first | exact aM | exact aL | refine aC ?_ (Ty.aV _) | refine aC ?_ (Ty.aF _) | refine aK rfl ?_ ?_ | refine aC ?_ ?_)))
  all_goals first | exact BN E2 | exact Cont.fF Iz
 have hbl := Hg (fl := fl) (n := (y.cells + 1)) (y := y) (b := b) t.1
 have ht := t.2
 have hFt : lV y fl (oU fl (y.cells + 1) y b a t.1) := ⟨h.right, h.net, h.bd, (hft t.1).1, h.qL⟩
 refine aE (aA (bC rfl rfl rfl (aD (aB (aE ?_)))))
 refine az rfl (fun hc1 => ?_) (fun hc1 => ?_)
 ·
  refine aq (aB (aE (af (aE (aA (bI rfl (bk rfl (aD (aB ?_)))))))))
  refine aE (aA (ji rfl (bI rfl (bI rfl ?_))))
  refine eM [] (Cs y h.right b t.1 hb (by omega)) rfl (aY (nK (l1 := bS y) (l2 := [Ty.sl dW fl, Ty.vs 1000 fl.length]) rfl rfl) (aY (bV (bR rfl rfl)) (aY (bV (bR rfl rfl)) cY))) (by exact c6 _ _) ?_
  refine bu rfl (by exact List.cons_ne_nil _ _) rfl ?_
  refine dF rfl rfl (by decide) rfl rfl (by exact (rfl : _ = Ty.int _ _)) rfl (by exact Nat.le_of_ble_eq_true rfl) rfl rfl (by exact (rfl : _ = [_])) ?_
  refine aD (aB ?_)
  refine jO (tg := 8) [(7, Ty.pp [Ty.int .i64 ((y.kept b t.1 : Nat) : Int)])] (by decide) rfl ⟨kC (T := 3) (off := 0) (l := [Ty.int .i64 ((y.kept b t.1 : Nat) : Int)]) rfl rfl rfl (by decide), trivial⟩ ?_
  refine aA (AL rfl (ji rfl (cw rfl ?_)))
  refine dI [(1000, 1000)] [] [(1000, Cont.vec dD 3 (xy fl (y.cells + 1) (hasB y b t.1) (oU fl (y.cells + 1) y b a t.1)))] (Cl y fl (oU fl (y.cells + 1) y b a t.1) hFt (hft t.1) (Ty.jD 165 [Ty.pp [Ty.int .i64 ((y.kept b t.1 : Nat) : Int)]]) rfl rfl (hasB y b t.1) (fun i _ => by rw [← Ju]; exact c9 (Eu (i : Nat) _) rfl rfl rfl rfl rfl rfl) rfl) rfl rfl (aN (aN bW (aT rfl rfl)) (ep (aN (aN (aN (aN (aN (aN bW (eW (by exact List.mem_cons_self))) (aT rfl rfl)) (aT rfl rfl)) (aT rfl rfl)) (aT rfl rfl)) (aT rfl rfl)))) (dN (a := 1000) (b := 1000) (by exact List.mem_cons_self) rfl (cG (by exact List.mem_cons_self) rfl) pre_nil) (cA (a := 1000) (b := 1000) (by decide) rfl (cG (by decide) rfl) post_nil) (aT rfl rfl) ?_
  refine bg (E := dS) (xs := [gX fl (y.cells + 1) (hasB y b t.1)]) rfl rfl rfl rfl rfl (by decide) (by decide) (by repeat (first | exact (aW.nil : aW _ _ [] _) | (show aW _ _ ((_, _) :: _) _; apply aW.agg; (· exact (rfl : _ = Ty.agg _))))) (by exact rfl) rfl ?_
  refine fI rfl rfl (by decide) rfl rfl rfl rfl rfl rfl (by decide) (by (simp <;> omega)) (by (simp <;> omega)) ?_
  refine AK rfl (aD (bM (aB (aA ?_))))
  refine b8 rfl rfl (by omega) (by omega) ?_
  refine bI rfl (aD ?_)
  refine bO (⟨t.1 + 1, by omega⟩) ?_ (by show y.D + 1 - (t.1 + 1) < y.D + 1 - t.1; omega)
  (refine cv.mk' ?_ ?_ <;> (repeat' (first | exact aM | exact aL | refine aC ?_ (Ty.aV _) | refine aC ?_ (Ty.aF _) | refine aK rfl ?_ ?_ | refine aC ?_ ?_)))
  all_goals skip
  all_goals first | exact Ty.gY (FR _) | exact Cont.fF (G2 _)
 refine cI (aP (aP (aj rfl (aB (aE (aA (AL rfl (AK rfl (aD ?_)))))))))
 refine aB (ay ?_)
 refine iQ [1000] rfl rfl (by decide) ?_ ?_
 ·exact fM rfl (cG (by decide) (by rw [show t.1 = y.D + 1 by have := t.2; omega])) gR
 all_goals skip
 all_goals exact HZ (by decide) rfl (by rw [show t.1 = y.D + 1 by have := t.2; omega])
set_option maxRecDepth 100000 in
theorem Ag (y : bA) (hs : y.Small) (q : Int) (ho : cr y ≠ 0) : dK Tryz.prog 22 [eB y, Ty.int .i64 q] (Ty.kD [Ty.sl dS (jW y q), Ty.int .i64 (kG y q)]) := by
 refine aa Tryz.func22 rfl (by decide) Tryz.ntmps22 (by exact Nat.le_of_ble_eq_true rfl) fun w0 M0 => ?_
 refine aE (aA (bD rfl (kE rfl (bk rfl (aD (aB (aE (aE (aA ?_)))))))))
 refine aU rfl rfl rfl (by exact Nat.le_of_ble_eq_true rfl) ?_
 refine bI rfl (aZ (zw y hs q) rfl rfl rfl rfl rfl (bk rfl (aD (aB (aE (aA (bI rfl (bC rfl rfl rfl (aD ?_)))))))))
 refine aB ?_
 refine bz rfl (fun hc1 => ?_) (fun hc1 => ?_)
 ·
  refine aE (aA (bI rfl (kE rfl (bk rfl (aD (aB (ay (aQ ?_))))))))
  refine eX rfl rfl rfl ?_ ?_
  all_goals skip
  all_goals first | exact fD (zl hc1).2.symm | exact ah rfl rfl (congrArg (Ty.int .i64) (zl hc1).1)
 refine aq (aB (aE (aA ?_)))
 refine aU rfl rfl rfl (by exact Nat.le_of_ble_eq_true rfl) ?_
 refine aZ (pG y hs ho) rfl rfl rfl rfl rfl (sn rfl (bP rfl rfl (bP rfl rfl (kE rfl (bk rfl (aD (aB (aE (aE ?_)))))))))
 refine aA (bI rfl (bC rfl rfl rfl (aD (aB ?_))))
 refine p8 rfl (by rw [decide_eq_false ho]; rfl) ?_
 refine aE (aA (bI rfl (kE rfl (bk rfl (aD (aB (ay (aQ ?_))))))))
 refine eX rfl rfl rfl ?_ ?_
 all_goals skip
 all_goals first | exact fD (HM hc1 ho).2.symm | exact ah rfl rfl (congrArg (Ty.int .i64) (HM hc1 ho).1)
set_option maxRecDepth 100000 in
theorem Aw (y : bA) (hs : y.Small) (q : Int) (ho : cr y = 0) : dK Tryz.prog 22 [eB y, Ty.int .i64 q] (Ty.kD [Ty.sl dS (jW y q), Ty.int .i64 (kG y q)]) := by
 refine aa Tryz.func22 rfl (by decide) Tryz.ntmps22 (by exact Nat.le_of_ble_eq_true rfl) fun w0 M0 => ?_
 have hck := eG ho
 have hr := cy hck
 have hF : lV y (aR y (nth bZ)) (kS y) := sy ho
 have hfe := pg ho
 refine aE (aA (bD rfl (kE rfl (bk rfl (aD (aB (aE (aE (aA ?_)))))))))
 refine aU rfl rfl rfl (by exact Nat.le_of_ble_eq_true rfl) ?_
 refine bI rfl (aZ (zw y hs q) rfl rfl rfl rfl rfl (bk rfl (aD (aB (aE (aA (bI rfl (bC rfl rfl rfl (aD ?_)))))))))
 refine aB ?_
 refine bz rfl (fun hc1 => ?_) (fun hc1 => ?_)
 ·
  refine aE (aA (bI rfl (kE rfl (bk rfl (aD (aB (ay (aQ ?_))))))))
  refine eX rfl rfl rfl ?_ ?_
  all_goals skip
  all_goals first | exact fD (zl hc1).2.symm | exact ah rfl rfl (congrArg (Ty.int .i64) (zl hc1).1)
 refine aq (aB (aE (aA ?_)))
 refine aU rfl rfl rfl (by exact Nat.le_of_ble_eq_true rfl) ?_
 refine dI (res' := Ty.kD [Ty.pp (dx y (aR y (nth bZ)) 1000 (aR y (nth bZ)).length), Ty.int .i64 0]) [(1000, 1000)] [1000] [(1000, Cont.vec dD 3 (kS y))] (xE y hs ho) rfl rfl (aN bW (aT rfl rfl)) pre_nil (cA (a := 1000) (b := 1000) (by decide) rfl (cG (by decide) rfl) post_nil) (CY (aN (aN bW (aT rfl rfl)) (ep (aN (aN (aN (aN (aN (aN bW (eW (by decide))) (aT rfl rfl)) (aT rfl rfl)) (aT rfl rfl)) (aT rfl rfl)) (aT rfl rfl))))) ?_
 refine sn rfl (bP rfl rfl (bP rfl rfl (Jo rfl (bk rfl (aD (aB (aE (aE (aA ?_)))))))))
 refine bI rfl (bC rfl rfl rfl (aD (aB (mY rfl (rfl) (aq (aB (aE ?_)))))))
 have hq := Ea hc1
 have hqn : ((q.toNat : Nat) : Int) = q := by omega
 refine iU (s := 1) rfl (Ty.bU hqn.symm) ?_
 refine aA (ji rfl (bI rfl ?_))
 refine dI [(1000, 1000)] [] [(1000, Cont.vec dD 3 (oU (aR y (nth bZ)) (y.cells + 1) y q.toNat (kS y) (y.D + 1)))] (GY y (aR y (nth bZ)) (kS y) hF hfe q.toNat (by omega)) rfl rfl (aN (aN bW (aT rfl rfl)) (ep (aN (aN (aN (aN (aN (aN bW (eW (by exact List.mem_cons_self))) (aT rfl rfl)) (aT rfl rfl)) (aT rfl rfl)) (aT rfl rfl)) (aT rfl rfl)))) (dN (a := 1000) (b := 1000) (by exact List.mem_cons_self) rfl (cG (by exact List.mem_cons_self) rfl) pre_nil) (cA (a := 1000) (b := 1000) (by decide) rfl (cG (by decide) rfl) post_nil) (aT rfl rfl) ?_
 refine xX rfl (bk rfl (aD (aB (ay ?_))))
 refine eX rfl rfl rfl ?_ ?_
 all_goals skip
 all_goals first | exact ah rfl rfl (congrArg (Ty.sl dS) (zK hc1 ho).2) | exact ah rfl rfl (congrArg (Ty.int .i64) (zK hc1 ho).1)
set_option maxRecDepth 100000 in
theorem Gv (f k : Int) : dK Tryz.prog 121 [Ty.int .i64 f, Ty.pp [Ty.int .i64 k]] (Ty.bool (decide (f = k))) := by
 refine aa Tryz.func121 rfl (by decide) Tryz.ntmps121 (by exact Nat.le_of_ble_eq_true rfl) fun w0 M0 => ?_
 refine aE (aA (cj rfl (aD (aB (aE (aA (bI rfl (aG rfl rfl rfl rfl (bC rfl rfl rfl ?_)))))))))
 refine cj rfl (aD (aB (ay (bJ rfl rfl ?_))))
 all_goals exact bY rfl rfl
set_option maxRecDepth 100000 in
theorem Ce (y : bA) (hs : y.Small) (q : Int) (ho : cr y ≠ 0) : dK Tryz.prog 48 [eB y, Ty.int .i64 q] (Ty.kD [Ty.agg (dS.tys (nC y q)), Ty.int .i64 (kX y q)]) := by
 refine aa Tryz.func48 rfl (by decide) Tryz.ntmps48 (by exact Nat.le_of_ble_eq_true rfl) fun w0 M0 => ?_
 have hsm := hs.moves
 refine aE (aA (bD rfl ?_))
 refine bu rfl (by exact List.cons_ne_nil _ _) rfl ?_
 refine bk rfl (aD (aB (aE (aE (aA ?_)))))
 refine aU rfl rfl rfl (by exact Nat.le_of_ble_eq_true rfl) ?_
 refine aZ (kF y hs) rfl rfl rfl rfl rfl (bk rfl (aD (aB (aE (aA (bI rfl (bC rfl rfl rfl (aD (aB ?_)))))))))
 refine bz rfl (fun hc1 => ?_) (fun hc1 => ?_)
 ·
  refine aE (aA ?_)
  refine dJ rfl rfl (by exact List.cons_ne_nil _ _) rfl (by repeat (exact (aW.nil : aW _ _ [] _))) (by exact (rfl : _ = some [_, _])) ?_
  refine bI rfl ?_
  refine bq rfl rfl (by decide) rfl rfl rfl rfl rfl rfl ?_
  refine bk rfl (aD (aB (ay (aQ ?_))))
  refine jh rfl rfl rfl rfl rfl (by decide) rfl rfl rfl ?_ ?_
  all_goals skip
  all_goals first | exact ah rfl rfl (congrArg (fun s => Ty.agg (dS.tys s)) (Db hc1).2) | exact ah rfl rfl (congrArg (Ty.int .i64) (Db hc1).1)
 refine aq (aB (aE (aE (aA (bI rfl ?_)))))
 refine aI rfl rfl rfl rfl rfl (by decide) ?_
 refine aG rfl rfl rfl rfl (b9 rfl rfl rfl ?_)
 refine iA rfl rfl (by omega) (by omega) ?_
 refine aZ (qo _ _ _) rfl rfl rfl rfl rfl (dX rfl (aD (aB ?_)))
 refine bt rfl (fun hc2 => ?_) (fun hc2 => ?_)
 ·
  refine aE (aA ?_)
  refine dJ rfl rfl (by exact List.cons_ne_nil _ _) rfl (by repeat (exact (aW.nil : aW _ _ [] _))) (by exact (rfl : _ = some [_, _])) ?_
  refine bq rfl rfl (by decide) rfl rfl rfl rfl rfl rfl ?_
  refine bk rfl (aD (aB (ay (aQ ?_))))
  refine jh rfl rfl rfl rfl rfl (by decide) rfl rfl rfl ?_ ?_
  all_goals skip
  all_goals first | exact ah rfl rfl (congrArg (fun s => Ty.agg (dS.tys s)) (Dj hc1 hc2).2) | exact ah rfl rfl (congrArg (Ty.int .i64) (Dj hc1 hc2).1)
 refine aq (aB (aE (aA ?_)))
 refine aU rfl rfl rfl (by exact Nat.le_of_ble_eq_true rfl) ?_
 refine aZ (pG y hs ho) rfl rfl rfl rfl rfl (sn rfl (bP rfl rfl (bP rfl rfl (kE rfl (bk rfl (aD (aB (aE (aE ?_)))))))))
 refine aA (bI rfl (bC rfl rfl rfl (aD (aB ?_))))
 refine p8 rfl (by rw [decide_eq_false ho]; rfl) ?_
 refine aE (aA ?_)
 refine dJ rfl rfl (by exact List.cons_ne_nil _ _) rfl (by repeat (exact (aW.nil : aW _ _ [] _))) (by exact (rfl : _ = some [_, _])) ?_
 refine bI rfl ?_
 refine bq rfl rfl (by decide) rfl rfl rfl rfl rfl rfl ?_
 refine bk rfl (aD (aB (ay (aQ ?_))))
 refine jh rfl rfl rfl rfl rfl (by decide) rfl rfl rfl ?_ ?_
 all_goals skip
 all_goals first | exact ah rfl rfl (congrArg (fun s => Ty.agg (dS.tys s)) (Ko hc1 hc2 ho).2) | exact ah rfl rfl (congrArg (Ty.int .i64) (Ko hc1 hc2 ho).1)
set_option maxRecDepth 100000 in
theorem CQ (y : bA) (hs : y.Small) (q : Int) (ho : cr y = 0) : dK Tryz.prog 48 [eB y, Ty.int .i64 q] (Ty.kD [Ty.agg (dS.tys (nC y q)), Ty.int .i64 (kX y q)]) := by
 refine aa Tryz.func48 rfl (by decide) Tryz.ntmps48 (by exact Nat.le_of_ble_eq_true rfl) fun w0 M0 => ?_
 have hck := eG ho
 have hr := cy hck
 have hF : lV y (aR y (nth bZ)) (kS y) := sy ho
 have hfe := pg ho
 have hsm := hs.moves
 have hfl := fA (y := y) (c := nth bZ)
 have hf34 : (aR y (nth bZ)).length ≤ 34 := j4 hr
 refine aE (aA (bD rfl ?_))
 refine bu rfl (by exact List.cons_ne_nil _ _) rfl ?_
 refine bk rfl (aD (aB (aE (aE (aA ?_)))))
 refine aU rfl rfl rfl (by exact Nat.le_of_ble_eq_true rfl) ?_
 refine aZ (kF y hs) rfl rfl rfl rfl rfl (bk rfl (aD (aB (aE (aA (bI rfl (bC rfl rfl rfl (aD (aB ?_)))))))))
 refine bz rfl (fun hc1 => ?_) (fun hc1 => ?_)
 ·
  refine aE (aA ?_)
  refine dJ rfl rfl (by exact List.cons_ne_nil _ _) rfl (by repeat (exact (aW.nil : aW _ _ [] _))) (by exact (rfl : _ = some [_, _])) ?_
  refine bI rfl ?_
  refine bq rfl rfl (by decide) rfl rfl rfl rfl rfl rfl ?_
  refine bk rfl (aD (aB (ay (aQ ?_))))
  refine jh rfl rfl rfl rfl rfl (by decide) rfl rfl rfl ?_ ?_
  all_goals skip
  all_goals first | exact ah rfl rfl (congrArg (fun s => Ty.agg (dS.tys s)) (Db hc1).2) | exact ah rfl rfl (congrArg (Ty.int .i64) (Db hc1).1)
 refine aq (aB (aE (aE (aA (bI rfl ?_)))))
 refine aI rfl rfl rfl rfl rfl (by decide) ?_
 refine aG rfl rfl rfl rfl (b9 rfl rfl rfl ?_)
 refine iA rfl rfl (by omega) (by omega) ?_
 refine aZ (qo _ _ _) rfl rfl rfl rfl rfl (dX rfl (aD (aB ?_)))
 refine bt rfl (fun hc2 => ?_) (fun hc2 => ?_)
 ·
  refine aE (aA ?_)
  refine dJ rfl rfl (by exact List.cons_ne_nil _ _) rfl (by repeat (exact (aW.nil : aW _ _ [] _))) (by exact (rfl : _ = some [_, _])) ?_
  refine bq rfl rfl (by decide) rfl rfl rfl rfl rfl rfl ?_
  refine bk rfl (aD (aB (ay (aQ ?_))))
  refine jh rfl rfl rfl rfl rfl (by decide) rfl rfl rfl ?_ ?_
  all_goals skip
  all_goals first | exact ah rfl rfl (congrArg (fun s => Ty.agg (dS.tys s)) (Dj hc1 hc2).2) | exact ah rfl rfl (congrArg (Ty.int .i64) (Dj hc1 hc2).1)
 refine aq (aB (aE (aA ?_)))
 refine aU rfl rfl rfl (by exact Nat.le_of_ble_eq_true rfl) ?_
 refine dI (res' := Ty.kD [Ty.pp (dx y (aR y (nth bZ)) 1000 (aR y (nth bZ)).length), Ty.int .i64 0]) [(1000, 1000)] [1000] [(1000, Cont.vec dD 3 (kS y))] (xE y hs ho) rfl rfl (aN bW (aT rfl rfl)) pre_nil (cA (a := 1000) (b := 1000) (by decide) rfl (cG (by decide) rfl) post_nil) (CY (aN (aN bW (aT rfl rfl)) (ep (aN (aN (aN (aN (aN (aN bW (eW (by decide))) (aT rfl rfl)) (aT rfl rfl)) (aT rfl rfl)) (aT rfl rfl)) (aT rfl rfl))))) ?_
 refine sn rfl (bP rfl rfl (bP rfl rfl (Jo rfl (bk rfl (aD (aB (aE (aE (aA ?_)))))))))
 refine bI rfl (bC rfl rfl rfl (aD (aB (mY rfl (rfl) (aq (aB (aE ?_)))))))
 have hq := DL hc2
 refine cN mixed rfl (ji rfl (bh rfl ?_))
 refine aI rfl rfl rfl rfl rfl (by decide) ?_
 refine aG rfl rfl rfl rfl (b9 rfl rfl rfl ?_)
 refine aI rfl rfl rfl rfl rfl (by decide) ?_
 refine aG rfl rfl rfl rfl (b9 rfl rfl rfl ?_)
 refine iA rfl rfl (by omega) (by omega) ?_
 refine bI rfl ?_
 refine b8 rfl rfl (by omega) (by omega) ?_
 refine bu rfl (by exact List.cons_ne_nil _ _) rfl ?_
 refine dF rfl rfl (by decide) rfl rfl (by exact (rfl : _ = Ty.int _ _)) rfl (by exact Nat.le_of_ble_eq_true rfl) rfl rfl (by exact (rfl : _ = [_])) ?_
 refine aD ?_
 refine ⟨by kernel_rfl, ?_⟩
 refine aB (aE ?_)
 refine iU (s := 9) rfl (Ty.aF _) ?_
 refine g8 (tg := 10) rfl (Cont.m7 (T := 3) (show [Ty.int .i64 (((aR y (nth bZ)).length : Int) - (y.moves.length : Int) + q)] = [Ty.int .i64 ((y.bins.length * (y.D + 1) + q.toNat : Nat) : Int)] by congr 2; rw [hfl]; omega)) ?_
 refine jO (tg := 10) [(9, Ty.pp [Ty.int .i64 ((y.bins.length * (y.D + 1) + q.toNat : Nat) : Int)])] (by decide) rfl ⟨kC (T := 3) (off := 0) (l := [Ty.int .i64 ((y.bins.length * (y.D + 1) + q.toNat : Nat) : Int)]) rfl rfl rfl (by decide), trivial⟩ ?_
 refine aA (ji rfl (cw rfl ?_))
 refine dI [(1000, 1000)] [] [(1000, Cont.vec dD 3 (xy (aR y (nth bZ)) (y.cells + 1) (tK (y.bins.length * (y.D + 1) + q.toNat)) (kS y)))] (Cl y (aR y (nth bZ)) (kS y) hF hfe (Ty.jD 121 [Ty.pp [Ty.int .i64 ((y.bins.length * (y.D + 1) + q.toNat : Nat) : Int)]]) rfl rfl (tK (y.bins.length * (y.D + 1) + q.toNat)) (fun i _ => by rw [← Jg]; exact c9 (Gv (i : Nat) _) rfl rfl rfl rfl rfl rfl) rfl) rfl rfl (aN (aN bW (aT rfl rfl)) (ep (aN (aN (aN (aN (aN (aN bW (eW (by exact List.mem_cons_self))) (aT rfl rfl)) (aT rfl rfl)) (aT rfl rfl)) (aT rfl rfl)) (aT rfl rfl)))) (dN (a := 1000) (b := 1000) (by exact List.mem_cons_self) rfl (cG (by exact List.mem_cons_self) rfl) pre_nil) (cA (a := 1000) (b := 1000) (by decide) rfl (cG (by decide) rfl) post_nil) (aT rfl rfl) ?_
 refine bq rfl rfl (by decide) rfl rfl rfl rfl rfl rfl ?_
 refine bk rfl (aD (aB (ay ?_)))
 refine jh rfl rfl rfl rfl rfl (by decide) rfl rfl rfl ?_ ?_
 all_goals skip
 all_goals first | exact ah rfl rfl (congrArg (fun s => Ty.agg (dS.tys s)) (D7 hc1 hc2 ho).2) | exact ah rfl rfl (congrArg (Ty.int .i64) (D7 hc1 hc2 ho).1)
theorem CC (y : bA) (hs : y.Small) (q : Int) : dK Tryz.prog 22 [eB y, Ty.int .i64 q] (Ty.kD [Ty.sl dS (jW y q), Ty.int .i64 (kG y q)]) := by
 by_cases ho : cr y = 0
 ·exact Aw y hs q ho
 exact Ag y hs q ho
theorem Jt (y : bA) (hs : y.Small) (q : Int) : dK Tryz.prog 48 [eB y, Ty.int .i64 q] (Ty.kD [Ty.agg (dS.tys (nC y q)), Ty.int .i64 (kX y q)]) := by
 by_cases ho : cr y = 0
 ·exact CQ y hs q ho
 exact Ce y hs q ho
end Go.Proofs.YtelbollidfdcjaaGreat
namespace Go.T
open Go Go.RowKit
theorem MV {ρ : List (Nat × Nat)} {l1 l2 : List Ty} (h1 : cC l1 = []) (h2 : bX l1 = []) : Conv ρ (.pp (l1 ++ l2)) (.pp l1) := fun w M M' v wf wf' hre ⟨b, off, e, hm, hlt, hd⟩ =>
 ⟨b, off, e, hre.none b hm, hlt, fun i t hi => by
  have hl := (List.getElem?_eq_some_iff.1 hi).1
  obtain ⟨x, hx, hdx⟩ := hd i t (by rw [List.getElem?_append_left hl]; exact hi)
  refine ⟨x, hx, aT ?_ ?_ w M M' x wf wf' hre hdx⟩
  ·refine List.eq_nil_iff_forall_not_mem.2 fun u hu => ?_
   have : u ∈ cC l1 := List.mem_flatMap.2 ⟨t, List.mem_of_getElem? hi, hu⟩
   rw [h1] at this; cases this
  refine List.eq_nil_iff_forall_not_mem.2 fun u hu => ?_
  have : u ∈ bX l1 := List.mem_flatMap.2 ⟨t, List.mem_of_getElem? hi, hu⟩
  rw [h2] at this; cases this⟩
end Go.T
namespace Go.Proofs.YtelbollidfdcjaaGreat
open Go Go.T
set_option maxHeartbeats 16000000
def oT (y : bA) (t : Nat) (i : Nat) : Bool := (List.range y.bins.length).any fun b => decide ((i : Int) = ((y.kept b t : Nat) : Int))
noncomputable def rM (fl : List bp) (n : Nat) (y : bA) (a : List Int) : Nat → List Int
  | 0 => a
  | t + 1 => xy fl n (oT y t) (rM fl n y a t)
noncomputable def rF (fl : List bp) (n : Nat) (y : bA) (k : Nat) : List Span := (List.range k).map fun t => gX fl n (oT y t)
noncomputable def sq (y : bA) : List Span := if cr y = 0 then rF (aR y (nth bZ)) (y.cells + 1) y (y.D + 1) else []
noncomputable def kW (y : bA) (q s : Int) (p : Span → Bool) : Int :=
  if dz y q = 0 then (if (!(decide (s ≥ 0) && decide (s ≤ 300))) = true then 3 else if kG y q = 0 then (if fidx p (jW y q) < 0 then 6 else 0) else kG y q) else dz y q
noncomputable def oK (y : bA) (q s : Int) (p : Span → Bool) : Int := if kW y q s p = 0 then fidx p (jW y q) else 0
section
variable {y : bA} {fl : List bp} {a : List Int} {n b k : Nat} {q s : Int} {p : Span → Bool} {i t : Nat}
theorem B2 (hN : Net fl n) (hn : 0 < n) (hB : Bd fl) (h : gW fl n a) : ∀ t, gW fl n (rM fl n y a t)
  | 0 => h
  | t + 1 => (r9 hN hn hB (B2 hN hn hB h t)).2.1
theorem Io : a = rM fl n y a 0 := rfl
theorem Ho (t : Nat) : xy fl n (oT y t) (rM fl n y a t) = rM fl n y a (t + 1) := rfl
theorem Ei (t : Nat) : rF fl n y t ++ [gX fl n (oT y t)] = rF fl n y (t + 1) := by unfold rF; rw [List.range_succ, List.map_append]; rfl
theorem GG (t : Nat) : (rF fl n y t).length = t := by unfold rF; rw [List.length_map, List.length_range]
theorem Ew : rF fl n y 0 = [] := rfl
theorem GZ (hb : b < y.bins.length) (h : (i : Int) = ((y.kept b t : Nat) : Int)) : true = oT y t i := (List.any_eq_true.2 ⟨b, List.mem_range.2 hb, decide_eq_true h⟩).symm
theorem KW (h : ∀ b, b < y.bins.length → ¬ (i : Int) = ((y.kept b t : Nat) : Int)) : false = oT y t i := by
 refine (List.any_eq_false.2 fun b hb => ?_).symm
 rw [decide_eq_true_eq]; exact h b (List.mem_range.1 hb)
theorem KD (h : cr y ≠ 0) : [] = sq y := (if_neg h).symm
theorem BM (h : cr y = 0) : rF (aR y (nth bZ)) (y.cells + 1) y (y.D + 1) = sq y := (if_pos h).symm
theorem DK {e : Int} (h : e = kW y q s p) (h0 : e ≠ 0) : 0 = oK y q s p := by unfold oK; rw [← h, if_neg h0]
theorem K3 (h : ¬ dz y q = 0) : dz y q = kW y q s p ∧ 0 = oK y q s p := by
 have e : dz y q = kW y q s p := (if_neg h).symm
 exact ⟨e, DK e h⟩
theorem Kv (h : dz y q = 0) (h2 : (!(decide (s ≥ 0) && decide (s ≤ 300))) = true) : 3 = kW y q s p ∧ 0 = oK y q s p := by
 have e : 3 = kW y q s p := by unfold kW; rw [if_pos h, if_pos h2]
 exact ⟨e, DK e (by decide)⟩
theorem K5 (h : dz y q = 0) (h2 : (!(decide (s ≥ 0) && decide (s ≤ 300))) = false) (h3 : ¬ kG y q = 0) : kG y q = kW y q s p ∧ 0 = oK y q s p := by
 have e : kG y q = kW y q s p := by unfold kW; rw [if_pos h, if_neg (by rw [h2]; decide), if_neg h3]
 exact ⟨e, DK e h3⟩
theorem LF (h : dz y q = 0) (h2 : (!(decide (s ≥ 0) && decide (s ≤ 300))) = false) (h3 : kG y q = 0) (h4 : fidx p (jW y q) < 0) : 6 = kW y q s p ∧ 0 = oK y q s p := by
 have e : 6 = kW y q s p := by unfold kW; rw [if_pos h, if_neg (by rw [h2]; decide), if_pos h3, if_pos h4]
 exact ⟨e, DK e (by decide)⟩
theorem GW (h : dz y q = 0) (h2 : (!(decide (s ≥ 0) && decide (s ≤ 300))) = false) (h3 : kG y q = 0) (h4 : ¬ fidx p (jW y q) < 0) : 0 = kW y q s p ∧ fidx p (jW y q) = oK y q s p := by
 have e : 0 = kW y q s p := by unfold kW; rw [if_pos h, if_neg (by rw [h2]; decide), if_pos h3, if_neg h4]
 exact ⟨e, by unfold oK; rw [← e]; rfl⟩
end
attribute [local irreducible] aR gm Way.gp Way.fin Way.room eK dZ eY gT over bH cM dP eJ jN ef gu kI cP gM fm fj cm cJ gS pK iR ir jF gX AY xy iB bA.kept bA.cells bT dz bZ gL kS cr oU qK kG jW kX nC hasB tK rM rF sq oT kW oK
attribute [local irreducible] g6 fS m8 qg iZ iT ij ia ig qM iS qR dY gb qd gV qV nth fU dR av dK bodyPost Exit.then Exit.inBlock Code.wp Code.wpIn fR qb qX qT iw qW qc iY fC cT cU bodyPostM dr
set_option maxRecDepth 100000 in
theorem G8 (y : bA) (hr : y.cZ) (i t : Nat) (ht : t ≤ y.D) : dK Tryz.prog 88 [Ty.int .i64 ((i : Nat) : Int), Ty.pp (bS y), Ty.pp [Ty.pp (bS y)], Ty.pp [Ty.int .i64 ((t : Nat) : Int)]] (Ty.bool (oT y t i)) := by
 refine aa Tryz.func88 rfl (by decide) Tryz.ntmps88 (by exact Nat.le_of_ble_eq_true rfl) fun w0 M0 => ?_
 have h1 := hr.bins
 refine aE (aA (cj rfl (aD (aB (aE (aE (aA ?_)))))))
 refine aI rfl rfl rfl rfl rfl (by decide) ?_
 refine aG rfl rfl rfl rfl (b9 rfl rfl rfl (bI rfl (aD (aB (af ?_)))))
 refine cK (fun (b : {b : Nat // b ≤ y.bins.length ∧ ∀ c, c < b → ¬ (i : Int) = ((y.kept c t : Nat) : Int)}) => live [(0, Ty.int .i64 ((i : Nat) : Int)), (1, Ty.pp (bS y)), (2, Ty.pp [Ty.pp (bS y)]), (3, Ty.pp [Ty.int .i64 ((t : Nat) : Int)]), (9, Ty.int .i64 y.bins.length), (10, Ty.int .i64 (b.1 : Nat))] []) (fun b => y.bins.length - b.1) (⟨0, Nat.zero_le _, fun c hc => absurd hc (Nat.not_lt_zero c)⟩) ?_ fun b => ?_
 ·(refine cv.mk' ?_ ?_ <;> (repeat' (first | exact aM | exact aL | refine aC ?_ (Ty.aV _) | refine aC ?_ (Ty.aF _))))
 have hb := b.2.1
 refine aE (aA (bC rfl rfl rfl (aD (aB (aE ?_)))))
 refine az rfl (fun hc1 => ?_) (fun hc1 => ?_)
 ·
  refine aq (aB (aE (af (aE (aA (bI rfl (bk rfl (aD (aB ?_)))))))))
  refine aE (aA (bI rfl (aG rfl rfl rfl rfl (bI rfl (aG rfl rfl rfl rfl ?_)))))
  refine aZ (Cs y hr b.1 t (by omega) ht) rfl rfl rfl rfl rfl ?_
  refine bC rfl rfl rfl (aD (aB ?_))
  refine az rfl (fun hc2 => ?_) (fun hc2 => ?_)
  ·
   refine aE (aA (cj rfl (aD (aB (ay (au (aQ (aQ (au ?_)))))))))
   refine aQ (bJ rfl rfl ?_)
   all_goals skip
   all_goals exact ah rfl rfl (congrArg Ty.bool (GZ (by omega) hc2))
  refine aq (bM (aB (aA ?_)))
  refine b8 rfl rfl (by omega) (by omega) ?_
  refine bI rfl (aD ?_)
  refine bO (⟨b.1 + 1, by omega, fun c hc => by by_cases e : c = b.1; (subst e; exact hc2); exact b.2.2 c (by omega)⟩) ?_ (by show y.bins.length - (b.1 + 1) < y.bins.length - b.1; omega)
  (refine cv.mk' ?_ ?_ <;> (repeat' (first | exact aM | exact aL | refine aC ?_ (Ty.aV _) | refine aC ?_ (Ty.aF _))))
  all_goals skip
 refine cI (aP (aP (aj rfl (aB (aE (aA (cj rfl (aD (aB ?_)))))))))
 refine ay (bJ rfl rfl ?_)
 all_goals skip
 all_goals exact ah rfl rfl (congrArg Ty.bool (KW fun c hc => b.2.2 c (by have := b.2.1; omega)))
set_option maxRecDepth 100000 in
theorem CI (y : bA) (hs : y.Small) (ho : cr y ≠ 0) : dK Tryz.prog 21 [eB y] (Ty.kD [Ty.sl dS (sq y), Ty.int .i64 (cr y)]) := by
 refine aa Tryz.func21 rfl (by decide) Tryz.ntmps21 (by exact Nat.le_of_ble_eq_true rfl) fun w0 M0 => ?_
 refine aE (aA (bD rfl (kE rfl (bk rfl (aD (aB (aE (aA ?_))))))))
 refine aU rfl rfl rfl (by exact Nat.le_of_ble_eq_true rfl) ?_
 refine aZ (pG y hs ho) rfl rfl rfl rfl rfl (sn rfl (bP rfl rfl (bP rfl rfl ?_)))
 refine bu rfl (by exact List.cons_ne_nil _ _) rfl ?_
 refine dF rfl rfl (by decide) rfl rfl (by exact (rfl : _ = Ty.ex _)) rfl (by exact Nat.le_of_ble_eq_true rfl) rfl rfl (by exact (rfl : _ = [_])) ?_
 refine bk rfl (aD (aB (aE (aE (aA (bI rfl (bC rfl rfl rfl (aD (aB ?_)))))))))
 refine p8 rfl (by rw [decide_eq_false ho]; rfl) ?_
 refine aE (aA (bI rfl (kE rfl (bk rfl (aD (aB (ay (aQ ?_))))))))
 refine eX rfl rfl rfl ?_ ?_
 all_goals first | exact bY rfl rfl | skip
 all_goals exact fD (KD ho).symm
set_option maxRecDepth 100000 in
theorem C2 (y : bA) (hs : y.Small) (ho : cr y = 0) : dK Tryz.prog 21 [eB y] (Ty.kD [Ty.sl dS (sq y), Ty.int .i64 (cr y)]) := by
 refine aa Tryz.func21 rfl (by decide) Tryz.ntmps21 (by exact Nat.le_of_ble_eq_true rfl) fun w0 M0 => ?_
 have hck := eG ho
 have hr := cy hck
 have hF : lV y (aR y (nth bZ)) (kS y) := sy ho
 have hfe := pg ho
 have h1 := hr.bins
 have h2 := hr.days
 have h3 := D_eq hr
 have hft := B2 (y := y) hF.net (Nat.succ_pos _) hF.bd hfe
 refine aE (aA (bD rfl (kE rfl (bk rfl (aD (aB (aE (aA ?_))))))))
 refine aU rfl rfl rfl (by exact Nat.le_of_ble_eq_true rfl) ?_
 refine dI (res' := Ty.kD [Ty.pp (dx y (aR y (nth bZ)) 1000 (aR y (nth bZ)).length), Ty.int .i64 0]) [(1000, 1000)] [1000] [(1000, Cont.vec dD 3 (kS y))] (xE y hs ho) rfl rfl (aN bW (aT rfl rfl)) pre_nil (cA (a := 1000) (b := 1000) (by decide) rfl (cG (by decide) rfl) post_nil) (CY (aN (aN bW (aT rfl rfl)) (ep (aN (aN (aN (aN (aN (aN bW (eW (by decide))) (aT rfl rfl)) (aT rfl rfl)) (aT rfl rfl)) (aT rfl rfl)) (aT rfl rfl))))) ?_
 refine sn rfl (bP rfl rfl (bP rfl rfl ?_))
 refine bu rfl (by exact List.cons_ne_nil _ _) rfl ?_
 refine dF rfl rfl (by decide) rfl rfl (by exact (rfl : _ = Ty.pp _)) rfl (by exact Nat.le_of_ble_eq_true rfl) rfl rfl (by exact (rfl : _ = [_])) ?_
 refine bk rfl (aD (aB (aE (aE (aA (bI rfl (bC rfl rfl rfl (aD (aB ?_)))))))))
 refine mY rfl (rfl) (aq (aB (aE ?_)))
 refine jO (tg := 5) [(4, Ty.pp [Ty.pp (dx y (aR y (nth bZ)) 1000 (aR y (nth bZ)).length)])] (by decide) rfl ⟨kC (T := 152) (off := 0) (l := [Ty.pp (dx y (aR y (nth bZ)) 1000 (aR y (nth bZ)).length)]) rfl rfl rfl (by decide), trivial⟩ ?_
 refine aA (kE rfl (aD (aB (aE (aE (aA ?_))))))
 refine aI rfl rfl rfl rfl rfl (by decide) ?_
 refine aG rfl rfl rfl rfl ?_
 refine b8 rfl rfl (by omega) (by omega) ?_
 refine bI rfl (aD (aB (af ?_)))
 refine cK (fun (t : {t : Nat // t ≤ y.D + 1}) => live [(1, Ty.pp (bS y)), (4, Ty.pp [Ty.pp (dx y (aR y (nth bZ)) 1000 (aR y (nth bZ)).length)]), (6, Ty.row dS 37 27 (rF (aR y (nth bZ)) (y.cells + 1) y t.1)), (18, Ty.int .i64 (y.days + 1)), (19, Ty.int .i64 (t.1 : Nat))] [(1000, Cont.vec dD 3 (rM (aR y (nth bZ)) (y.cells + 1) y (kS y) t.1))]) (fun t => y.D + 1 - t.1) (⟨0, by omega⟩) ?_ fun t => ?_
 ·(refine cv.mk' ?_ ?_ <;> (repeat' (first | exact aM | exact aL | refine aC ?_ (Ty.aV _) | refine aC ?_ (Ty.aF _) | refine aK rfl ?_ ?_ | refine aC ?_ ?_)))
  all_goals first | exact BN Ew | exact Cont.fF Io
 have hbl := GG (fl := (aR y (nth bZ))) (n := (y.cells + 1)) (y := y) t.1
 have ht := t.2
 have hFt : lV y (aR y (nth bZ)) (rM (aR y (nth bZ)) (y.cells + 1) y (kS y) t.1) := ⟨hr, hF.net, hF.bd, (hft t.1).1, hF.qL⟩
 refine aE (aA (bC rfl rfl rfl (aD (aB (aE ?_)))))
 refine az rfl (fun hc2 => ?_) (fun hc2 => ?_)
 ·
  refine aq (aB (aE (af (aE (aA (bI rfl ?_))))))
  refine bu rfl (by exact List.cons_ne_nil _ _) rfl ?_
  refine dF rfl rfl (by decide) rfl rfl (by exact (rfl : _ = Ty.int _ _)) rfl (by exact Nat.le_of_ble_eq_true rfl) rfl rfl (by exact (rfl : _ = [_])) ?_
  refine aD (aB ?_)
  refine jO (tg := 8) [(7, Ty.pp [Ty.int .i64 ((t.1 : Nat) : Int)])] (by decide) rfl ⟨kC (T := 3) (off := 0) (l := [Ty.int .i64 ((t.1 : Nat) : Int)]) rfl rfl rfl (by decide), trivial⟩ ?_
  refine aA (AL rfl (aG rfl rfl rfl rfl (cw rfl ?_)))
  refine dI [(1000, 1000)] [] [(1000, Cont.vec dD 3 (xy (aR y (nth bZ)) (y.cells + 1) (oT y t.1) (rM (aR y (nth bZ)) (y.cells + 1) y (kS y) t.1)))] (Cl y (aR y (nth bZ)) (rM (aR y (nth bZ)) (y.cells + 1) y (kS y) t.1) hFt (hft t.1) (Ty.jD 88 [Ty.pp (bS y), Ty.pp [Ty.pp (bS y)], Ty.pp [Ty.int .i64 ((t.1 : Nat) : Int)]]) rfl rfl (oT y t.1) (fun i _ => c9 (G8 y hr i t.1 (by omega)) rfl rfl rfl rfl rfl rfl) rfl) rfl rfl (aN (aN bW (tI (aN (aN (aN bW (aT rfl rfl)) (ep (aN bW (MV (l1 := bS y) (l2 := [Ty.sl dW (aR y (nth bZ)), Ty.vs 1000 (aR y (nth bZ)).length]) rfl rfl)))) (aT rfl rfl)))) (ep (aN (aN (aN (aN (aN (aN bW (eW (by exact List.mem_cons_self))) (aT rfl rfl)) (aT rfl rfl)) (aT rfl rfl)) (aT rfl rfl)) (aT rfl rfl)))) (dN (a := 1000) (b := 1000) (by exact List.mem_cons_self) rfl (cG (by exact List.mem_cons_self) rfl) pre_nil) (cA (a := 1000) (b := 1000) (by decide) rfl (cG (by decide) rfl) post_nil) (aT rfl rfl) ?_
  refine bg (E := dS) (xs := [gX (aR y (nth bZ)) (y.cells + 1) (oT y t.1)]) rfl rfl rfl rfl rfl (by decide) (by decide) (by repeat (first | exact (aW.nil : aW _ _ [] _) | (show aW _ _ ((_, _) :: _) _; apply aW.agg; (· exact (rfl : _ = Ty.agg _))))) (by exact rfl) rfl ?_
  refine fI rfl rfl (by decide) rfl rfl rfl rfl rfl rfl (by decide) (by (simp <;> omega)) (by (simp <;> omega)) ?_
  refine AK rfl (aD (bM (aB (aA ?_))))
  refine b8 rfl rfl (by omega) (by omega) ?_
  refine bI rfl (aD ?_)
  refine bO (⟨t.1 + 1, by omega⟩) ?_ (by show y.D + 1 - (t.1 + 1) < y.D + 1 - t.1; omega)
  (refine cv.mk' ?_ ?_ <;> (repeat' (first | exact aM | exact aL | refine aC ?_ (Ty.aV _) | refine aC ?_ (Ty.aF _) | refine aK rfl ?_ ?_ | refine aC ?_ ?_)))
  all_goals skip
  all_goals first | exact Ty.gY (Ei _) | exact Cont.fF (Ho _)
 refine cI (aP (aP (aj rfl (aB (aE (aA (AL rfl (AK rfl (bk rfl ?_)))))))))
 refine aD (aB (ay ?_))
 refine eX rfl rfl rfl ?_ ?_
 all_goals skip
 all_goals first | exact vm (by decide) ((show _ = rF (aR y (nth bZ)) (y.cells + 1) y (y.D + 1) by rw [show t.1 = y.D + 1 by have := t.2; omega]).trans (BM ho)) | exact ah rfl rfl (congrArg (Ty.int .i64) ho.symm)
set_option maxRecDepth 100000 in
theorem Kc (y : bA) (hs : y.Small) (q s : Int) (t : Ty) (h1 : t.one = true) (p : Span → Bool) (hd : t.deps = []) (hc : t.cdeps = []) (hf : ∀ x ∈ jW y q, nT Tryz.prog t [Ty.agg (dS.tys x)] (Ty.bool (p x))) : dK Tryz.prog 100 [eB y, Ty.int .i64 q, Ty.int .i64 s, t] (Ty.kD [Ty.int .i64 (oK y q s p), Ty.int .i64 (kW y q s p)]) := by
 refine aa Tryz.func100 rfl (by decide) Tryz.ntmps100 (by exact Nat.le_of_ble_eq_true rfl) fun w0 M0 => ?_
 refine aE (aA (bD rfl (bk rfl (bk rfl (aD (aB (aE (aE (aA ?_)))))))))
 refine aU rfl rfl rfl (by exact Nat.le_of_ble_eq_true rfl) ?_
 refine bI rfl (aZ (zw y hs q) rfl rfl rfl rfl rfl (bk rfl (aD (aB (aE (aA (bI rfl (bC rfl rfl rfl (aD ?_)))))))))
 refine aB ?_
 refine bz rfl (fun hc1 => ?_) (fun hc1 => ?_)
 ·
  refine aE (aA (bI rfl (bk rfl (bk rfl (aD (aB (ay (aQ ?_))))))))
  refine eX rfl rfl rfl ?_ ?_
  all_goals skip
  all_goals first | exact ah rfl rfl (congrArg (Ty.int .i64) (K3 hc1).1) | exact ah rfl rfl (congrArg (Ty.int .i64) (K3 hc1).2)
 refine aq (aB (aE (aE (aA (bI rfl (aZ (qo _ _ _) rfl rfl rfl rfl rfl (dX rfl (aD (aB ?_)))))))))
 refine bt rfl (fun hc2 => ?_) (fun hc2 => ?_)
 ·
  refine aE (aA (bk rfl (bk rfl (aD (aB (ay (aQ ?_)))))))
  refine eX rfl rfl rfl ?_ ?_
  all_goals skip
  all_goals first | exact ah rfl rfl (congrArg (Ty.int .i64) (Kv hc1 hc2).1) | exact ah rfl rfl (congrArg (Ty.int .i64) (Kv hc1 hc2).2)
 refine aq (aB (aE (aA ?_)))
 refine aU rfl rfl rfl (by exact Nat.le_of_ble_eq_true rfl) ?_
 refine bI rfl (aZ (CC y hs q) rfl rfl rfl rfl rfl (sn rfl (bP rfl rfl (bP rfl rfl (xX rfl (bk rfl (aD (aB (aE ?_)))))))))
 refine aE (aA (bI rfl (bC rfl rfl rfl (aD (aB ?_)))))
 refine bz rfl (fun hc3 => ?_) (fun hc3 => ?_)
 ·
  refine aE (aA (bI rfl (bk rfl (bk rfl (aD (aB (ay (aQ ?_))))))))
  refine eX rfl rfl rfl ?_ ?_
  all_goals skip
  all_goals first | exact ah rfl rfl (congrArg (Ty.int .i64) (K5 hc1 hc2 hc3).1) | exact ah rfl rfl (congrArg (Ty.int .i64) (K5 hc1 hc2 hc3).2)
 refine aq (aB (aE (aA (ej rfl ?_))))
 refine eA (ty := t) rfl ?_
 refine aZ (uj (jW y q) t h1 p hd hc hf) rfl (by exact bK rfl (bK hd rfl)) (by exact bF rfl (bF hc rfl)) rfl rfl ?_
 refine bk rfl (aD (aB (aE (aE (aA (bI rfl (bC rfl rfl rfl (aD (aB ?_)))))))))
 refine az rfl (fun hc4 => ?_) (fun hc4 => ?_)
 ·
  refine aE (aA (bk rfl (bk rfl (aD (aB (ay (aQ ?_)))))))
  refine eX rfl rfl rfl ?_ ?_
  all_goals skip
  all_goals first | exact ah rfl rfl (congrArg (Ty.int .i64) (LF hc1 hc2 hc3 hc4).1) | exact ah rfl rfl (congrArg (Ty.int .i64) (LF hc1 hc2 hc3 hc4).2)
 refine aq (aB (aE (aA (bI rfl (bk rfl (bk rfl (aD (aB (ay ?_)))))))))
 refine eX rfl rfl rfl ?_ ?_
 all_goals skip
 all_goals first | exact ah rfl rfl (congrArg (Ty.int .i64) (GW hc1 hc2 hc3 hc4).1) | exact ah rfl rfl (congrArg (Ty.int .i64) (GW hc1 hc2 hc3 hc4).2)
set_option maxRecDepth 100000 in
theorem Ec (s : Span) (k : Int) : dK Tryz.prog 101 [Ty.agg (dS.tys s), Ty.pp [Ty.int .i64 k]] (Ty.bool (decide (s.lo ≥ k))) := by
 refine aa Tryz.func101 rfl (by decide) Tryz.ntmps101 (by exact Nat.le_of_ble_eq_true rfl) fun w0 M0 => ?_
 refine aE (aA (bD rfl (cj rfl (aD (aB (aE (aA ?_)))))))
 refine aI rfl rfl rfl rfl rfl (by decide) ?_
 refine aG rfl rfl rfl rfl (aG rfl rfl rfl rfl (bC rfl rfl rfl (cj rfl (aD (aB (ay (bJ rfl rfl ?_)))))))
 all_goals exact bY rfl rfl
set_option maxRecDepth 100000 in
theorem Hy (y : bA) (hs : y.Small) (q s : Int) : dK Tryz.prog 33 [eB y, Ty.int .i64 q, Ty.int .i64 s] (Ty.kD [Ty.int .i64 (oK y q s fun x => decide (x.lo ≥ s)), Ty.int .i64 (kW y q s fun x => decide (x.lo ≥ s))]) := by
 refine aa Tryz.func33 rfl (by decide) Tryz.ntmps33 (by exact Nat.le_of_ble_eq_true rfl) fun w0 M0 => ?_
 refine aE (aA (bD rfl ?_))
 refine gA (by exact (rfl : _ = Ty.int _ _)) rfl ?_
 refine bk rfl (bk rfl (aD (aB (aE (aA ?_)))))
 refine aU rfl rfl rfl (by exact Nat.le_of_ble_eq_true rfl) ?_
 refine bI rfl (aG rfl rfl rfl rfl (cw rfl ?_))
 refine aZ (Kc y hs q s (Ty.jD 101 [Ty.pp [Ty.int .i64 s]]) rfl (fun x => decide (x.lo ≥ s)) rfl rfl fun x _ => c9 (Ec x s) rfl rfl rfl rfl rfl rfl) rfl rfl rfl rfl rfl ?_
 refine bP rfl rfl (bP rfl rfl (bk rfl (bk rfl (aD (aB (ay ?_))))))
 refine eX rfl rfl rfl ?_ ?_
 all_goals exact bY rfl rfl
theorem KP (y : bA) (hs : y.Small) : dK Tryz.prog 21 [eB y] (Ty.kD [Ty.sl dS (sq y), Ty.int .i64 (cr y)]) := by
 by_cases ho : cr y = 0
 ·exact C2 y hs ho
 exact CI y hs ho
end Go.Proofs.YtelbollidfdcjaaGreat
namespace Go.Proofs.YtelbollidfdcjaaGreat
open Go Go.T
set_option maxHeartbeats 16000000
structure DE where
  cells : List BU
  out : Bool
  deriving Inhabited
def mS (p : DE) : List Ty := [Ty.sl q7 p.cells, Ty.bool p.out]
def ke (fl : List bp) : Int := fl.foldl (fun m f => max m (f.lo - f.hi)) (-300)
def xL (y : bA) (l : List BU) (c : Int) : Bool := l.any fun x => decide (y.cell x.bin x.day = c)
def HE (y : bA) (p : DE) (f : bp) : Bool := if p.out = true then (xL y p.cells f.src && !xL y p.cells f.dst) else (xL y p.cells f.dst && !xL y p.cells f.src)
def Fp (y : bA) (p : DE) (f : bp) : Bool := if p.out = true then (xL y p.cells f.dst && !xL y p.cells f.src) else (xL y p.cells f.src && !xL y p.cells f.dst)
def sH (y : bA) (p : DE) (m : Int) (f : bp) : Int := (m + if HE y p f = true then f.lo else 0) - if Fp y p f = true then f.hi else 0
def gU (y : bA) (fl : List bp) (p : DE) : Nat → Int
  | 0 => 0
  | k + 1 => sH y p (gU y fl p k) (nth fl k)
def jR (y : bA) (fl : List bp) (p : DE) : Int := if p.cells = [] then ke fl else gU y fl p fl.length
def mB (a b : BU) : Bool := !decide (a = b) && (decide (a.bin < b.bin) || (decide (a.bin = b.bin) && decide (a.day < b.day)))
def Ga (y : bA) (c : BU) : Bool := y.bin c.bin && (decide (c.day ≥ 0) && decide (c.day ≤ y.days - 1))
open Classical in
noncomputable def nL (y : bA) (p : DE) : Int := if bT y = 0 then (if (p.cells.all (Ga y)) = true then (if (∀ i, i + 1 < p.cells.length → mB (nth p.cells i) (nth p.cells (i + 1)) = true) then (if jR y (aR y (nth bZ)) p < 1 then 6 else 0) else 4) else 1) else bT y
noncomputable def su (y : bA) (p : DE) : Int := if nL y p = 0 then jR y (aR y (nth bZ)) p else 0
section
variable {y : bA} {fl : List bp} {a : List Int} {n b k : Nat} {p : DE} {f : bp} {m : Int}
theorem CV : -300 = ke (fl.take 0) := rfl
theorem CK (h : k < fl.length) : max (ke (fl.take k)) ((nth fl k).lo - (nth fl k).hi) = ke (fl.take (k + 1)) := by
 unfold ke; rw [cS h, List.foldl_append]; rfl
theorem F6 (h : p.out = true) : (xL y p.cells f.src && !xL y p.cells f.dst) = HE y p f ∧ (xL y p.cells f.dst && !xL y p.cells f.src) = Fp y p f := ⟨(if_pos h).symm, (if_pos h).symm⟩
theorem LI (h : p.out = false) : (xL y p.cells f.dst && !xL y p.cells f.src) = HE y p f ∧ (xL y p.cells f.src && !xL y p.cells f.dst) = Fp y p f := ⟨(if_neg (by rw [h]; decide)).symm, (if_neg (by rw [h]; decide)).symm⟩
def oG (y : bA) (p : DE) (m : Int) (f : bp) : Int := m + if HE y p f = true then f.lo else 0
theorem G4 (h : HE y p f = true) : m + f.lo = oG y p m f := by unfold oG; rw [if_pos h]
theorem JU (h : HE y p f = false) : m = oG y p m f := by unfold oG; rw [if_neg (by rw [h]; decide)]; omega
theorem DG (h : 0 ≤ f.lo ∧ f.lo ≤ 300) : m ≤ oG y p m f ∧ oG y p m f ≤ m + 300 := by unfold oG; split <;> omega
theorem xe : 0 = gU y fl p 0 := rfl
theorem Bb (h : Fp y p (nth fl k) = true) : oG y p (gU y fl p k) (nth fl k) - (nth fl k).hi = gU y fl p (k + 1) := by
 show _ = sH y p _ _; unfold sH; rw [if_pos h]; rfl
theorem ET (h : Fp y p (nth fl k) = false) : oG y p (gU y fl p k) (nth fl k) = gU y fl p (k + 1) := by
 have e : ¬ Fp y p (nth fl k) = true := by rw [h]; decide
 show _ = sH y p _ _; unfold sH; rw [if_neg e]; unfold oG; omega
theorem AZ (hb : ∀ i, i < fl.length → 0 ≤ (nth fl i).lo ∧ (nth fl i).lo ≤ 300 ∧ 0 ≤ (nth fl i).hi ∧ (nth fl i).hi ≤ 300) : ∀ k, k ≤ fl.length → -(300 * (k : Int)) ≤ gU y fl p k ∧ gU y fl p k ≤ 300 * (k : Int)
  | 0, _ => by rw [← xe]; omega
  | k + 1, h => by
    have ih := AZ hb k (by omega)
    have h1 := hb k (by omega)
    have h2 := DG (y := y) (p := p) (m := gU y fl p k) (f := nth fl k) ⟨h1.1, h1.2.1⟩
    cases e : Fp y p (nth fl k) with
    | true => rw [← Bb e]; omega
    | false => rw [← ET e]; omega
theorem CZ (h : p.cells = []) : ke fl = jR y fl p := (if_pos h).symm
theorem Am (h : p.cells ≠ []) : gU y fl p fl.length = jR y fl p := (if_neg h).symm
theorem Lr (h : (p.cells.length : Int) = 0) : p.cells = [] := List.length_eq_zero_iff.1 (by omega)
theorem KM (h : ¬ (p.cells.length : Int) = 0) : p.cells ≠ [] := fun e => h (by rw [e]; rfl)
theorem Da {e : Int} (h : e = nL y p) (h0 : e ≠ 0) : 0 = su y p := by unfold su; rw [← h, if_neg h0]
theorem Kq (h : ¬ bT y = 0) : bT y = nL y p ∧ 0 = su y p := by
 have e : bT y = nL y p := (if_neg h).symm
 exact ⟨e, Da e h⟩
theorem Kk (h : bT y = 0) (h2 : (p.cells.all (Ga y)) = false) : 1 = nL y p ∧ 0 = su y p := by
 have e : 1 = nL y p := by unfold nL; rw [if_pos h, if_neg (by rw [h2]; decide)]
 exact ⟨e, Da e (by decide)⟩
theorem NX (h : bT y = 0) (h2 : (p.cells.all (Ga y)) = true) {i : Nat} (hi : i + 1 < p.cells.length) (h3 : mB (nth p.cells i) (nth p.cells (i + 1)) = false) : 4 = nL y p ∧ 0 = su y p := by
 have e : 4 = nL y p := by
  unfold nL; rw [if_pos h, if_pos h2, if_neg fun hx => by rw [hx i hi] at h3; cases h3]
 exact ⟨e, Da e (by decide)⟩
theorem HF (h : bT y = 0) (h2 : (p.cells.all (Ga y)) = true) {i : Nat} (h1 : 1 ≤ i) (hi : i < p.cells.length) (h3 : mB (nth p.cells (i - 1)) (nth p.cells i) = false) : 4 = nL y p ∧ 0 = su y p := by
 obtain ⟨j, rfl⟩ : ∃ j, i = j + 1 := ⟨i - 1, by omega⟩
 exact NX h h2 hi h3
theorem K1 (h : bT y = 0) (h2 : (p.cells.all (Ga y)) = true) (h3 : ∀ i, i + 1 < p.cells.length → mB (nth p.cells i) (nth p.cells (i + 1)) = true) (h4 : jR y (aR y (nth bZ)) p < 1) : 6 = nL y p ∧ 0 = su y p := by
 have e : 6 = nL y p := by unfold nL; rw [if_pos h, if_pos h2, if_pos h3, if_pos h4]
 exact ⟨e, Da e (by decide)⟩
theorem Ih (h : bT y = 0) (h2 : (p.cells.all (Ga y)) = true) (h3 : ∀ i, i + 1 < p.cells.length → mB (nth p.cells i) (nth p.cells (i + 1)) = true) (h4 : ¬ jR y (aR y (nth bZ)) p < 1) : 0 = nL y p ∧ jR y (aR y (nth bZ)) p = su y p := by
 have e : 0 = nL y p := by unfold nL; rw [if_pos h, if_pos h2, if_pos h3, if_neg h4]
 exact ⟨e, by unfold su; rw [← e]; rfl⟩
theorem MJ (a b : BU) : (decide (a.bin = b.bin) && decide (a.day = b.day)) = decide (a = b) := by
 cases a; cases b; simp
theorem Mf {c : BU} (h : Ga y c = true) : (-1 ≤ c.bin ∧ c.bin < y.bins.length) ∧ 0 ≤ c.day ∧ c.day ≤ y.days := by
 unfold Ga bA.bin qZ at h
 simp only [Bool.and_eq_true, decide_eq_true_eq] at h; omega
theorem EH (hr : y.cZ) {c : Nat → Bool} {t : Nat} {q : Span} (h : q.lo ≤ 300 ∧ 0 ≤ q.hi) : ∀ k, k ≤ y.levels.length → (gK y c b t q k).lo ≤ 300 ∧ 0 ≤ (gK y c b t q k).hi
  | 0, _ => h
  | k + 1, hk => by
    have ih := EH hr (c := c) (t := t) h k (by omega)
    have hl := hr.level _ (cR (xs := y.levels) (k := k) (by omega))
    unfold gK; split
    · show max _ _ ≤ 300 ∧ 0 ≤ min _ _; omega
    · exact ih
theorem HH (hr : y.cZ) {c : Nat → Bool} {i : Nat} (hi : i < (aR y c).length) : 0 ≤ (nth (aR y c) i).lo ∧ (nth (aR y c) i).lo ≤ 300 ∧ 0 ≤ (nth (aR y c) i).hi ∧ (nth (aR y c) i).hi ≤ 300 := by
 have hB := ux hr (c := c) i hi
 suffices h : (nth (aR y c) i).lo ≤ 300 ∧ 0 ≤ (nth (aR y c) i).hi by omega
 rcases n4 hi with ⟨b, t, hb, ht, rfl⟩ | ⟨k, hk, rfl⟩
 ·rw [iM hb ht]
  obtain ⟨h1, h2, h3⟩ := hr.bin _ (cR hb)
  refine EH hr (q := g9 y b t) ?_ y.levels.length (Nat.le_refl _)
  unfold g9; split
  ·exact ⟨by show (0 : Int) ≤ 300; decide, h1.1⟩
  show max _ _ ≤ 300 ∧ 0 ≤ min _ _; omega
 rw [iL hk]
 have h := (hr.move _ (cR hk)).2.2.2.2
 show (nth y.moves k).sacks.lo ≤ 300 ∧ 0 ≤ (nth y.moves k).sacks.hi
 omega
theorem Hf (hr : y.cZ) {c : Nat → Bool} : ∀ i, i < (aR y c).length → 0 ≤ (nth (aR y c) i).lo ∧ (nth (aR y c) i).lo ≤ 300 ∧ 0 ≤ (nth (aR y c) i).hi ∧ (nth (aR y c) i).hi ≤ 300 := fun i hi => HH hr hi
end
attribute [local irreducible] aR gm Way.gp Way.fin Way.room eK dZ eY gT over bH cM dP eJ jN ef gu kI cP gM fm fj cm cJ gS pK iR ir jF gX AY xy iB bA.kept bA.cells bT dz bZ gL kS cr oU qK kG jW kX nC hasB tK rM rF sq oT kW oK ke xL gU jR HE Fp sH
attribute [local irreducible] oG
attribute [local irreducible] g6 fS m8 qg iZ iT ij ia ig qM iS qR dY gb qd gV qV nth fU dR av dK bodyPost Exit.then Exit.inBlock Code.wp Code.wpIn fR qb qX qT iw qW qc iY fC cT cU bodyPostM dr
set_option maxRecDepth 100000 in
theorem Ez (y : bA) (fl : List bp) (a : List Int) (hfl : fl.length ≤ 34) (hb : ∀ i, i < fl.length → 0 ≤ (nth fl i).lo ∧ (nth fl i).lo ≤ 300 ∧ 0 ≤ (nth fl i).hi ∧ (nth fl i).hi ≤ 300) : dK Tryz.prog 128 [Ty.pp (l9 y fl a)] (Ty.int .i64 (ke fl)) := by
 refine aa Tryz.func128 rfl (by decide) Tryz.ntmps128 (by exact Nat.le_of_ble_eq_true rfl) fun w0 M0 => ?_
 refine aE (aA (bk rfl (aD (aB (aE (aA (bk rfl (aD (aB ?_)))))))))
 refine aE (aE (aA (ji rfl (bh rfl ?_))))
 refine aI rfl rfl rfl rfl rfl (by decide) ?_
 refine aG rfl rfl rfl rfl (b9 rfl rfl rfl (bI rfl (aD (aB (af ?_)))))
 refine cK (fun (k : {k : Nat // k ≤ fl.length}) => live [(0, Ty.pp (l9 y fl a)), (3, Ty.int .i64 (ke (fl.take k.1))), (9, Ty.sl dW fl), (10, Ty.int .i64 fl.length), (11, Ty.int .i64 (k.1 : Nat))] []) (fun k => fl.length - k.1) (⟨0, by omega⟩) ?_ fun k => ?_
 ·(refine cv.mk' ?_ ?_ <;> (repeat' (first | exact aM | exact aL | refine aC ?_ (Ty.aV _) | refine aC ?_ (Ty.aF _) | refine aC ?_ ?_)))
  all_goals exact Ty.bU CV
 have hk := k.2
 refine aE (aA (bC rfl rfl rfl (aD (aB (aE ?_)))))
 refine az rfl (fun hc1 => ?_) (fun hc1 => ?_)
 ·
  refine aq (aB (aE (af (aE (aA ?_)))))
  refine ak rfl rfl rfl rfl rfl rfl (by omega) ?_
  refine aU rfl rfl rfl (by exact Nat.le_of_ble_eq_true rfl) ?_
  refine bu rfl (by exact List.cons_ne_nil _ _) rfl ?_
  refine bq rfl rfl (by decide) rfl rfl rfl rfl rfl rfl ?_
  refine aD (aB ?_)
  have hbk := hb k.1 (by omega)
  refine aA (bI rfl ?_)
  refine aS rfl rfl rfl rfl rfl (by decide) ?_
  refine aX rfl rfl (by decide) rfl rfl rfl ?_
  refine aS rfl rfl rfl rfl rfl (by decide) ?_
  refine aX rfl rfl (by decide) rfl rfl rfl ?_
  refine iA rfl rfl (by omega) (by omega) ?_
  refine EB rfl rfl (bk rfl (aD (bM (aB (aA ?_)))))
  refine b8 rfl rfl (by omega) (by omega) ?_
  refine bI rfl (aD ?_)
  refine bO (⟨k.1 + 1, by omega⟩) ?_ (by show fl.length - (k.1 + 1) < fl.length - k.1; omega)
  (refine cv.mk' ?_ ?_ <;> (repeat' (first | exact aM | exact aL | refine aC ?_ (Ty.aV _) | refine aC ?_ (Ty.aF _) | refine aC ?_ ?_)))
  all_goals skip
  all_goals exact Ty.bU (CK (by omega))
 refine cI (aP (aP (aj rfl (aB (aE (aA (bI rfl (bk rfl (aD ?_)))))))))
 refine aB (ay (bJ rfl rfl ?_))
 all_goals skip
 all_goals exact ah rfl rfl (congrArg (Ty.int .i64) (by rw [List.take_of_length_le (by have := k.2; omega)]))
set_option maxRecDepth 100000 in
theorem FC (y : bA) (hr : y.cZ) (fl : List bp) (a : List Int) (x : BU) (hx : (-1 ≤ x.bin ∧ x.bin < y.bins.length) ∧ 0 ≤ x.day ∧ x.day ≤ y.days) (c : Int) : dK Tryz.prog 188 [Ty.agg (q7.tys x), Ty.pp [Ty.pp (l9 y fl a)], Ty.pp [Ty.int .i64 c]] (Ty.bool (decide (y.cell x.bin x.day = c))) := by
 refine aa Tryz.func188 rfl (by decide) Tryz.ntmps188 (by exact Nat.le_of_ble_eq_true rfl) fun w0 M0 => ?_
 refine aE (aA (bD rfl (cj rfl (aD (aB (aE (cN mixed rfl (aG rfl rfl rfl rfl ?_))))))))
 refine aI rfl rfl rfl rfl rfl (by decide) ?_
 refine aG rfl rfl rfl rfl ?_
 refine aI rfl rfl rfl rfl rfl (by decide) ?_
 refine aG rfl rfl rfl rfl ?_
 refine eM [] (wS y hr x.bin x.day hx.1 hx.2) rfl (aY (nK (l1 := bS y) (l2 := [Ty.sl dW fl, Ty.sl dD a]) rfl rfl) (aY (bV (bR rfl rfl)) (aY (bV (bR rfl rfl)) cY))) (by exact c6 _ _) ?_
 refine aG rfl rfl rfl rfl (bC rfl rfl rfl (cj rfl (aD ?_)))
 refine ⟨by kernel_rfl, ?_⟩
 refine aB (ay (bJ rfl rfl ?_))
 all_goals exact bY rfl rfl
set_option maxRecDepth 100000 in
theorem rm (y : bA) (hr : y.cZ) (fl : List bp) (a : List Int) (p : DE) (hp : ∀ x ∈ p.cells, (-1 ≤ x.bin ∧ x.bin < y.bins.length) ∧ 0 ≤ x.day ∧ x.day ≤ y.days) (c : Int) : dK Tryz.prog 187 [Ty.int .i64 c, Ty.pp (mS p), Ty.pp [Ty.pp (l9 y fl a)]] (Ty.bool (xL y p.cells c)) := by
 refine aa Tryz.func187 rfl (by decide) Tryz.ntmps187 (by exact Nat.le_of_ble_eq_true rfl) fun w0 M0 => ?_
 refine aE (aA ?_)
 refine gA (by exact (rfl : _ = Ty.int _ _)) rfl ?_
 refine cj rfl (aD (aB (aE (aA ?_))))
 refine aI rfl rfl rfl rfl rfl (by decide) ?_
 refine aG rfl rfl rfl rfl (cw rfl ?_)
 refine aZ (lW p.cells (Ty.jD 188 [Ty.pp [Ty.pp (l9 y fl a)], Ty.pp [Ty.int .i64 c]]) rfl (fun x => decide (y.cell x.bin x.day = c)) rfl rfl fun x hx => c9 (FC y hr fl a x (hp x hx) c) rfl rfl rfl rfl rfl rfl) rfl rfl rfl rfl rfl ?_
 refine cj rfl (aD (aB (ay (bJ rfl rfl ?_))))
 all_goals skip
 all_goals exact ah rfl rfl (congrArg Ty.bool (by unfold xL; rfl))
set_option maxRecDepth 100000 in
theorem KU (y : bA) (hr : y.cZ) (fl : List bp) (a : List Int) (hfl : fl.length ≤ 34) (hb : ∀ i, i < fl.length → 0 ≤ (nth fl i).lo ∧ (nth fl i).lo ≤ 300 ∧ 0 ≤ (nth fl i).hi ∧ (nth fl i).hi ≤ 300) (p : DE) (hp : ∀ x ∈ p.cells, (-1 ≤ x.bin ∧ x.bin < y.bins.length) ∧ 0 ≤ x.day ∧ x.day ≤ y.days) : dK Tryz.prog 137 [Ty.pp (l9 y fl a), Ty.agg (mS p)] (Ty.int .i64 (jR y fl p)) := by
 refine aa Tryz.func137 rfl (by decide) Tryz.ntmps137 (by exact Nat.le_of_ble_eq_true rfl) fun w0 M0 => ?_
 refine aE (aA ?_)
 refine gA (by exact (rfl : _ = Ty.pp _)) rfl ?_
 refine bD rfl (bk rfl (aD (aB (aE (aE (aA ?_))))))
 refine aI rfl rfl rfl rfl rfl (by decide) ?_
 refine aG rfl rfl rfl rfl (b9 rfl rfl rfl (bC rfl rfl rfl (aD (aB ?_))))
 refine az rfl (fun hc1 => ?_) (fun hc1 => ?_)
 ·
  refine aE (aA (aG rfl rfl rfl rfl (aZ (Ez y fl a hfl hb) rfl rfl rfl rfl rfl (bk rfl (aD (aB (ay (aQ (bJ rfl rfl ?_)))))))))
  all_goals skip
  all_goals exact ah rfl rfl (congrArg (Ty.int .i64) (CZ (Lr hc1)))
 refine aq (aB (aE (aA (cw rfl (OB rfl (aD (aB (aE (aA ?_)))))))))
 refine bk rfl (aD (aB (aE (aE (aA (aG rfl rfl rfl rfl (bh rfl ?_)))))))
 refine aI rfl rfl rfl rfl rfl (by decide) ?_
 refine aG rfl rfl rfl rfl (b9 rfl rfl rfl (bI rfl (aD (aB (af ?_)))))
 refine cK (fun (k : {k : Nat // k ≤ fl.length}) => live [(3, Ty.pp (mS p)), (5, Ty.jD 187 [Ty.pp (mS p), Ty.pp [Ty.pp (l9 y fl a)]]), (6, Ty.int .i64 (gU y fl p k.1)), (21, Ty.sl dW fl), (22, Ty.int .i64 fl.length), (23, Ty.int .i64 (k.1 : Nat))] []) (fun k => fl.length - k.1) (⟨0, by omega⟩) ?_ fun k => ?_
 ·(refine cv.mk' ?_ ?_ <;> (repeat' (first | exact aM | exact aL | refine aC ?_ (Ty.aV _) | refine aC ?_ (Ty.aF _) | refine aC ?_ ?_)))
  all_goals exact Ty.bU xe
 have hk := k.2
 have hup := AZ (y := y) (p := p) hb k.1 k.2
 refine aE (aA (bC rfl rfl rfl (aD (aB (aE ?_)))))
 refine az rfl (fun hc2 => ?_) (fun hc2 => ?_)
 ·
  refine aq (aB (aE (af (aE (aA ?_)))))
  refine ak rfl rfl rfl rfl rfl rfl (by omega) ?_
  refine aU rfl rfl rfl (by exact Nat.le_of_ble_eq_true rfl) ?_
  refine bu rfl (by exact List.cons_ne_nil _ _) rfl ?_
  refine bq rfl rfl (by decide) rfl rfl rfl rfl rfl rfl ?_
  refine aD (aB (aE ?_))
  have hbk := hb k.1 (by omega)
  have hhf := DG (y := y) (p := p) (m := gU y fl p k.1) (f := (nth fl k.1)) ⟨hbk.1, hbk.2.1⟩
  refine cN mixed rfl (Mk rfl ?_)
  refine aS rfl rfl rfl rfl rfl (by decide) ?_
  refine aX rfl rfl (by decide) rfl rfl rfl ?_
  refine eI rfl (c9 (rm y hr fl a p hp (nth fl k.1).dst) rfl rfl rfl rfl rfl rfl) rfl (e8 rfl ?_)
  apply aJ (s := 31) rfl rfl rfl
  ·intro hg; apply aO; (refine Mk rfl ?_); refine aD ?_; exact rfl
  ·exact rfl
  ·exact rfl
  apply aJ (s := 31) rfl rfl rfl
  ·intro hg; apply aO; (refine aS rfl rfl rfl rfl rfl (by decide) ?_); refine aD ?_; exact rfl
  ·exact rfl
  ·exact rfl
  apply aJ (s := 31) rfl rfl rfl
  ·intro hg; apply aH (s := 33) rfl (by (rw [hg]; rfl)); apply aO; (refine aX rfl rfl (by decide) rfl rfl rfl ?_); refine aD ?_; exact rfl
  ·exact rfl
  ·exact rfl
  apply aJ (s := 31) rfl rfl rfl
  ·intro hg; apply aH (s := 32) rfl (by (rw [hg]; rfl)); apply aH (s := 34) rfl (by (rw [hg]; rfl)); apply aO; (refine eI rfl (c9 (rm y hr fl a p hp (nth fl k.1).src) rfl rfl rfl rfl rfl rfl) rfl ?_); refine aD ?_; exact rfl
  ·exact rfl
  ·exact rfl
  apply aJ (s := 31) rfl rfl rfl
  ·intro hg; apply aH (s := 35) rfl (by (rw [hg]; rfl)); apply aO; (refine dX rfl ?_); refine aD ?_; exact rfl
  ·exact rfl
  ·exact rfl
  refine eC rfl rfl (Mk rfl ?_)
  refine aS rfl rfl rfl rfl rfl (by decide) ?_
  refine aX rfl rfl (by decide) rfl rfl rfl ?_
  refine eI rfl (c9 (rm y hr fl a p hp (nth fl k.1).src) rfl rfl rfl rfl rfl rfl) rfl (e8 rfl ?_)
  apply aJ (s := 42) rfl rfl rfl
  ·intro hg; apply aO; (refine Mk rfl ?_); refine aD ?_; exact rfl
  ·exact rfl
  ·exact rfl
  apply aJ (s := 42) rfl rfl rfl
  ·intro hg; apply aO; (refine aS rfl rfl rfl rfl rfl (by decide) ?_); refine aD ?_; exact rfl
  ·exact rfl
  ·exact rfl
  apply aJ (s := 42) rfl rfl rfl
  ·intro hg; apply aH (s := 44) rfl (by (rw [hg]; rfl)); apply aO; (refine aX rfl rfl (by decide) rfl rfl rfl ?_); refine aD ?_; exact rfl
  ·exact rfl
  ·exact rfl
  apply aJ (s := 42) rfl rfl rfl
  ·intro hg; apply aH (s := 43) rfl (by (rw [hg]; rfl)); apply aH (s := 45) rfl (by (rw [hg]; rfl)); apply aO; (refine eI rfl (c9 (rm y hr fl a p hp (nth fl k.1).dst) rfl rfl rfl rfl rfl rfl) rfl ?_); refine aD ?_; exact rfl
  ·exact rfl
  ·exact rfl
  apply aJ (s := 42) rfl rfl rfl
  ·intro hg; apply aH (s := 46) rfl (by (rw [hg]; rfl)); apply aO; (refine dX rfl ?_); refine aD ?_; exact rfl
  ·exact rfl
  ·exact rfl
  refine eC rfl rfl (cj rfl (cj rfl (aD ?_)))
  refine ⟨by kernel_rfl, ?_⟩
  refine aB ?_
  refine oq (J := live [(3, Ty.pp (mS p)), (5, Ty.jD 187 [Ty.pp (mS p), Ty.pp [Ty.pp (l9 y fl a)]]), (6, Ty.int .i64 (gU y fl p k.1)), (8, Ty.ptr 9 0), (9, Ty.bool (HE y p (nth fl k.1))), (10, Ty.bool (Fp y p (nth fl k.1))), (21, Ty.sl dW fl), (22, Ty.int .i64 fl.length), (23, Ty.int .i64 (k.1 : Nat))] [(9, Cont.cells 187 (dW.tys (nth fl k.1)))]) ?_ ?_
  ·
   refine aE (aA ?_)
   refine aI rfl rfl rfl rfl rfl (by decide) ?_
   refine aG rfl rfl rfl rfl (aD (aB ?_))
   refine bt rfl (fun hc3 => ?_) (fun hc3 => ?_)
   ·
    refine aA (e8 rfl (e8 rfl (cj rfl (cj rfl (aD (gl ?_))))))
    (refine cv.mk' ?_ ?_ <;> (repeat' (first | exact aM | exact aL | refine aC ?_ (Ty.aV _) | refine aC ?_ (Ty.aF _) | refine aK rfl (Cont.aF _) ?_ | refine aC ?_ ?_)))
    all_goals first | exact Ty.dM (F6 (by assumption)).1 | exact Ty.dM (F6 (by assumption)).2
   refine aq (gl ?_)
   (refine cv.mk' ?_ ?_ <;> (repeat' (first | exact aM | exact aL | refine aC ?_ (Ty.aV _) | refine aC ?_ (Ty.aF _) | refine aK rfl (Cont.aF _) ?_ | refine aC ?_ ?_)))
   all_goals first | exact Ty.dM (LI (by assumption)).1 | exact Ty.dM (LI (by assumption)).2
  refine oq (J := live [(3, Ty.pp (mS p)), (5, Ty.jD 187 [Ty.pp (mS p), Ty.pp [Ty.pp (l9 y fl a)]]), (6, Ty.int .i64 (oG y p (gU y fl p k.1) (nth fl k.1))), (8, Ty.ptr 9 0), (10, Ty.bool (Fp y p (nth fl k.1))), (21, Ty.sl dW fl), (22, Ty.int .i64 fl.length), (23, Ty.int .i64 (k.1 : Nat))] [(9, Cont.cells 187 (dW.tys (nth fl k.1)))]) ?_ ?_
  ·
   refine aE (aA (e8 rfl (aD (aB ?_))))
   refine bt rfl (fun hc4 => ?_) (fun hc4 => ?_)
   ·
    refine aA (bI rfl ?_)
    refine aS rfl rfl rfl rfl rfl (by decide) ?_
    refine aX rfl rfl (by decide) rfl rfl rfl ?_
    refine b8 rfl rfl (by omega) (by omega) ?_
    refine bk rfl (aD (gl ?_))
    (refine cv.mk' ?_ ?_ <;> (repeat' (first | exact aM | exact aL | refine aC ?_ (Ty.aV _) | refine aC ?_ (Ty.aF _) | refine aK rfl (Cont.aF _) ?_ | refine aC ?_ ?_)))
    all_goals exact Ty.bU (G4 (by assumption))
   refine aq (gl ?_)
   (refine cv.mk' ?_ ?_ <;> (repeat' (first | exact aM | exact aL | refine aC ?_ (Ty.aV _) | refine aC ?_ (Ty.aF _) | refine aK rfl (Cont.aF _) ?_ | refine aC ?_ ?_)))
   all_goals exact Ty.bU (JU (by assumption))
  refine aE (aA (e8 rfl (aD (aB ?_))))
  refine bt rfl (fun hc5 => ?_) (fun hc5 => ?_)
  ·
   refine aA (bI rfl ?_)
   refine aS rfl rfl rfl rfl rfl (by decide) ?_
   refine aX rfl rfl (by decide) rfl rfl rfl ?_
   refine iA rfl rfl (by omega) (by omega) ?_
   refine bk rfl (aD (bM (aB (aA ?_))))
   refine b8 rfl rfl (by omega) (by omega) ?_
   refine bI rfl (aD ?_)
   refine bO (⟨k.1 + 1, by omega⟩) ?_ (by show fl.length - (k.1 + 1) < fl.length - k.1; omega)
   (refine cv.mk' ?_ ?_ <;> (repeat' (first | exact aM | exact aL | refine aC ?_ (Ty.aV _) | refine aC ?_ (Ty.aF _) | refine aC ?_ ?_)))
   all_goals skip
   all_goals exact Ty.bU (Bb (by assumption))
  refine aq (bM (aB (aA ?_)))
  refine b8 rfl rfl (by omega) (by omega) ?_
  refine bI rfl (aD ?_)
  refine bO (⟨k.1 + 1, by omega⟩) ?_ (by show fl.length - (k.1 + 1) < fl.length - k.1; omega)
  (refine cv.mk' ?_ ?_ <;> (repeat' (first | exact aM | exact aL | refine aC ?_ (Ty.aV _) | refine aC ?_ (Ty.aF _) | refine aC ?_ ?_)))
  all_goals skip
  all_goals exact Ty.bU (ET (by assumption))
 refine cI (aP (aP (aj rfl (aB (aE (aA (bI rfl (bk rfl (aD ?_)))))))))
 refine aB (ay (bJ rfl rfl ?_))
 all_goals skip
 all_goals exact ah rfl rfl (congrArg (Ty.int .i64) ((show _ = gU y fl p fl.length by rw [show k.1 = fl.length by have := k.2; omega]).trans (Am (KM hc1))))
set_option maxRecDepth 100000 in
theorem Hz (a b : BU) : dK Tryz.prog 136 [Ty.agg (q7.tys a), Ty.agg (q7.tys b)] (Ty.bool (mB a b)) := by
 refine aa Tryz.func136 rfl (by decide) Tryz.ntmps136 (by exact Nat.le_of_ble_eq_true rfl) fun w0 M0 => ?_
 refine aE (aA (bD rfl (bD rfl (cj rfl (aD (aB (aE (aA ?_))))))))
 refine aU rfl rfl rfl (by exact Nat.le_of_ble_eq_true rfl) ?_
 refine aU rfl rfl rfl (by exact Nat.le_of_ble_eq_true rfl) ?_
 refine r7 (MQ a.bin a.day b.bin b.day) rfl rfl (e8 rfl ?_)
 apply aJ (s := 8) rfl rfl rfl
 ·intro hg; apply aO; (refine aI rfl rfl rfl rfl rfl (by decide) ?_); refine aD ?_; exact rfl
 ·exact rfl
 ·exact rfl
 apply aJ (s := 8) rfl rfl rfl
 ·intro hg; apply aH (s := 9) rfl (by (rw [hg]; rfl)); apply aO; (refine aG rfl rfl rfl rfl ?_); refine aD ?_; exact rfl
 ·exact rfl
 ·exact rfl
 apply aJ (s := 8) rfl rfl rfl
 ·intro hg; apply aO; (refine aI rfl rfl rfl rfl rfl (by decide) ?_); refine aD ?_; exact rfl
 ·exact rfl
 ·exact rfl
 apply aJ (s := 8) rfl rfl rfl
 ·intro hg; apply aH (s := 11) rfl (by (rw [hg]; rfl)); apply aO; (refine aG rfl rfl rfl rfl ?_); refine aD ?_; exact rfl
 ·exact rfl
 ·exact rfl
 apply aJ (s := 8) rfl rfl rfl
 ·intro hg; apply aH (s := 10) rfl (by (rw [hg]; rfl)); apply aH (s := 12) rfl (by (rw [hg]; rfl)); apply aO; (refine bC rfl rfl rfl ?_); refine aD ?_; exact rfl
 ·exact rfl
 ·exact rfl
 apply aJ (s := 8) rfl rfl rfl
 ·intro hg; apply aH (s := 13) rfl (by (rw [hg]; rfl)); apply aO; (refine e8 rfl ?_); refine aD ?_; exact rfl
 ·exact rfl
 ·exact rfl
 apply gr (s := 14) rfl rfl rfl
 ·intro hg1 hg2; apply aO; (refine aI rfl rfl rfl rfl rfl (by decide) ?_); refine aD ?_; exact rfl
 ·exact rfl
 ·exact rfl
 apply gr (s := 14) rfl rfl rfl
 ·intro hg1 hg2; apply aH (s := 15) rfl (by (rw [hg1, hg2]; rfl)); apply aO; (refine aG rfl rfl rfl rfl ?_); refine aD ?_; exact rfl
 ·exact rfl
 ·exact rfl
 apply gr (s := 14) rfl rfl rfl
 ·intro hg1 hg2; apply aO; (refine aI rfl rfl rfl rfl rfl (by decide) ?_); refine aD ?_; exact rfl
 ·exact rfl
 ·exact rfl
 apply gr (s := 14) rfl rfl rfl
 ·intro hg1 hg2; apply aH (s := 17) rfl (by (rw [hg1, hg2]; rfl)); apply aO; (refine aG rfl rfl rfl rfl ?_); refine aD ?_; exact rfl
 ·exact rfl
 ·exact rfl
 apply gr (s := 14) rfl rfl rfl
 ·intro hg1 hg2; apply aH (s := 16) rfl (by (rw [hg1, hg2]; rfl)); apply aH (s := 18) rfl (by (rw [hg1, hg2]; rfl)); apply aO; (refine bC rfl rfl rfl ?_); refine aD ?_; exact rfl
 ·exact rfl
 ·exact rfl
 apply gr (s := 14) rfl rfl rfl
 ·intro hg1 hg2; apply aH (s := 19) rfl (by (rw [hg1, hg2]; rfl)); apply aO; (refine e8 rfl ?_); refine aD ?_; exact rfl
 ·exact rfl
 ·exact rfl
 apply gr (s := 20) rfl rfl rfl
 ·intro hg1 hg2; apply aO; (refine aI rfl rfl rfl rfl rfl (by decide) ?_); refine aD ?_; exact rfl
 ·exact rfl
 ·exact rfl
 apply gr (s := 20) rfl rfl rfl
 ·intro hg1 hg2; apply aH (s := 21) rfl (by (rw [hg1, hg2]; rfl)); apply aO; (refine aG rfl rfl rfl rfl ?_); refine aD ?_; exact rfl
 ·exact rfl
 ·exact rfl
 apply gr (s := 20) rfl rfl rfl
 ·intro hg1 hg2; apply aO; (refine aI rfl rfl rfl rfl rfl (by decide) ?_); refine aD ?_; exact rfl
 ·exact rfl
 ·exact rfl
 apply gr (s := 20) rfl rfl rfl
 ·intro hg1 hg2; apply aH (s := 23) rfl (by (rw [hg1, hg2]; rfl)); apply aO; (refine aG rfl rfl rfl rfl ?_); refine aD ?_; exact rfl
 ·exact rfl
 ·exact rfl
 apply gr (s := 20) rfl rfl rfl
 ·intro hg1 hg2; apply aH (s := 22) rfl (by (rw [hg1, hg2]; rfl)); apply aH (s := 24) rfl (by (rw [hg1, hg2]; rfl)); apply aO; (refine bC rfl rfl rfl ?_); refine aD ?_; exact rfl
 ·exact rfl
 ·exact rfl
 apply gr (s := 14) rfl rfl rfl
 ·intro hg1 hg2; apply aH (s := 20) rfl (by (rw [hg1, hg2]; rfl)); apply wF (s := 25) rfl (by (rw [hg1, hg2]; rfl)); apply aO; (refine eC rfl rfl ?_); refine aD ?_; exact rfl
 ·exact rfl
 ·exact rfl
 apply aJ (s := 8) rfl rfl rfl
 ·intro hg; apply aH (s := 14) rfl (by (rw [hg]; rfl)); apply wF (s := 26) rfl (by (rw [hg]; rfl)); apply aO; (refine iC rfl rfl ?_); refine aD ?_; exact rfl
 ·exact rfl
 ·exact rfl
 refine eC rfl rfl (cj rfl (aD (aB (ay (bJ rfl rfl ?_)))))
 all_goals skip
 all_goals exact ah rfl rfl (congrArg Ty.bool (by unfold mB; rw [MJ]))
set_option maxRecDepth 100000 in
theorem Fg (y : bA) (hr : y.cZ) (hs : y.Small) (c : BU) : dK Tryz.prog 134 [Ty.agg (q7.tys c), Ty.pp (bS y)] (Ty.bool (Ga y c)) := by
 refine aa Tryz.func134 rfl (by decide) Tryz.ntmps134 (by exact Nat.le_of_ble_eq_true rfl) fun w0 M0 => ?_
 have h2 := hr.days
 refine aE (aA (bD rfl (cj rfl (aD (aB (aE (aA ?_)))))))
 refine aU rfl rfl rfl (by exact Nat.le_of_ble_eq_true rfl) ?_
 refine aI rfl rfl rfl rfl rfl (by decide) ?_
 refine aG rfl rfl rfl rfl (aZ (EJ y hs _) rfl rfl rfl rfl rfl (e8 rfl ?_))
 apply aJ (s := 8) rfl rfl rfl
 ·intro hg; apply aO; (refine aI rfl rfl rfl rfl rfl (by decide) ?_); refine aD ?_; exact rfl
 ·exact rfl
 ·exact rfl
 apply aJ (s := 8) rfl rfl rfl
 ·intro hg; apply aH (s := 9) rfl (by (rw [hg]; rfl)); apply aO; (refine aG rfl rfl rfl rfl ?_); refine aD ?_; exact rfl
 ·exact rfl
 ·exact rfl
 apply aJ (s := 8) rfl rfl rfl
 ·intro hg; apply aO; (refine aI rfl rfl rfl rfl rfl (by decide) ?_); refine aD ?_; exact rfl
 ·exact rfl
 ·exact rfl
 apply aJ (s := 8) rfl rfl rfl
 ·intro hg; apply aH (s := 11) rfl (by (rw [hg]; rfl)); apply aO; (refine aG rfl rfl rfl rfl ?_); refine aD ?_; exact rfl
 ·exact rfl
 ·exact rfl
 apply aJ (s := 8) rfl rfl rfl
 ·intro hg; apply aH (s := 12) rfl (by (rw [hg]; rfl)); apply aO; (refine iA rfl rfl (by omega) (by omega) ?_); refine aD ?_; exact rfl
 ·exact rfl
 ·exact rfl
 apply aJ (s := 8) rfl rfl rfl
 ·intro hg; apply aH (s := 10) rfl (by (rw [hg]; rfl)); apply aH (s := 13) rfl (by (rw [hg]; rfl)); apply aO; (refine aZ (qo _ _ _) rfl rfl rfl rfl rfl ?_); refine aD ?_; exact rfl
 ·exact rfl
 ·exact rfl
 refine eC rfl rfl (cj rfl (aD (aB (ay (bJ rfl rfl ?_)))))
 all_goals exact bY rfl rfl
 all_goals trace_state
set_option maxRecDepth 100000 in
theorem F7 (y : bA) (hs : y.Small) (p : DE) (hl : p.cells.length ≤ 1000) : dK Tryz.prog 61 [eB y, Ty.agg (mS p)] (Ty.kD [Ty.int .i64 (su y p), Ty.int .i64 (nL y p)]) := by
 refine aa Tryz.func61 rfl (by decide) Tryz.ntmps61 (by exact Nat.le_of_ble_eq_true rfl) fun w0 M0 => ?_
 refine aE (aA (bD rfl (bD rfl (bk rfl (bk rfl (aD (aB (aE (aE ?_)))))))))
 refine aA ?_
 refine aU rfl rfl rfl (by exact Nat.le_of_ble_eq_true rfl) ?_
 refine aZ (kF y hs) rfl rfl rfl rfl rfl (bk rfl (aD (aB (aE (aA (bI rfl (bC rfl rfl rfl (aD (aB ?_)))))))))
 refine bz rfl (fun hc1 => ?_) (fun hc1 => ?_)
 ·
  refine aE (aA (bI rfl (bk rfl (bk rfl (aD (aB (ay (aQ ?_))))))))
  refine eX rfl rfl rfl ?_ ?_
  all_goals skip
  all_goals first | exact ah rfl rfl (congrArg (Ty.int .i64) (Kq hc1).1) | exact ah rfl rfl (congrArg (Ty.int .i64) (Kq hc1).2)
 refine aq (aB (aE (aE ?_)))
 have hck : bT y = 0 := hc1
 have hr := cy hck
 refine aA ?_
 refine aI rfl rfl rfl rfl rfl (by decide) ?_
 refine aG rfl rfl rfl rfl (cw rfl ?_)
 refine aZ (Bf p.cells (Ty.jD 134 [Ty.pp (bS y)]) rfl (Ga y) rfl rfl fun c _ => c9 (Fg y hr hs c) rfl rfl rfl rfl rfl rfl) rfl rfl rfl rfl rfl ?_
 refine dX rfl (aD (aB ?_))
 refine bt rfl (fun hc2 => ?_) (fun hc2 => ?_)
 ·
  refine aE (aA (bk rfl (bk rfl (aD (aB (ay (aQ ?_)))))))
  refine eX rfl rfl rfl ?_ ?_
  all_goals skip
  all_goals first | exact ah rfl rfl (congrArg (Ty.int .i64) (Kk hc1 (mq hc2)).1) | exact ah rfl rfl (congrArg (Ty.int .i64) (Kk hc1 (mq hc2)).2)
 refine aq (aB (aE (aE ?_)))
 have hall : (p.cells.all (Ga y)) = true := e9 hc2
 refine aA (bk rfl (aD (aB (af ?_))))
 refine cK (fun (i : {i : Nat // 1 ≤ i ∧ ∀ j, j + 1 < i → j + 1 < p.cells.length → mB (nth p.cells j) (nth p.cells (j + 1)) = true}) => live [(2, Ty.pp (bS y)), (3, Ty.pp (mS p)), (7, Ty.int .i64 (i.1 : Nat))] []) (fun i => p.cells.length - i.1) (⟨1, Nat.le_refl _, fun j hj => by omega⟩) ?_ fun i => ?_
 ·(refine cv.mk' ?_ ?_ <;> (repeat' (first | exact aM | exact aL | refine aC ?_ (Ty.aV _) | refine aC ?_ (Ty.aF _))))
 have hi1 := i.2.1
 refine aE (aE (aA (bI rfl ?_)))
 refine aI rfl rfl rfl rfl rfl (by decide) ?_
 refine aG rfl rfl rfl rfl (b9 rfl rfl rfl (bC rfl rfl rfl (aD (aB ?_))))
 refine az rfl (fun hc3 => ?_) (fun hc3 => ?_)
 ·
  refine aq (aB (aE (af (aE (cN mixed rfl ?_)))))
  refine aI rfl rfl rfl rfl rfl (by decide) ?_
  refine aG rfl rfl rfl rfl (bI rfl ?_)
  refine iA rfl rfl (by omega) (by omega) ?_
  refine ak (i := i.1 - 1) rfl (by exact congrArg (Ty.int .i64) (by omega : ((i.1 : Nat) : Int) - 1 = ((i.1 - 1 : Nat) : Int))) rfl rfl rfl rfl (by omega) ?_
  refine aU rfl rfl rfl (by exact Nat.le_of_ble_eq_true rfl) ?_
  refine aI rfl rfl rfl rfl rfl (by decide) ?_
  refine aG rfl rfl rfl rfl (bI rfl ?_)
  refine ak rfl rfl rfl rfl rfl rfl (by omega) ?_
  refine aU rfl rfl rfl (by exact Nat.le_of_ble_eq_true rfl) ?_
  refine aZ (Hz _ _) rfl rfl rfl rfl rfl (dX rfl (aD ?_))
  refine ⟨by kernel_rfl, ?_⟩
  refine aB ?_
  refine bt rfl (fun hc4 => ?_) (fun hc4 => ?_)
  ·
   refine aE (aA (bk rfl (bk rfl (aD (aB (ay (au (aQ (aQ ?_)))))))))
   refine au (aQ ?_)
   refine eX rfl rfl rfl ?_ ?_
   all_goals skip
   all_goals first | exact ah rfl rfl (congrArg (Ty.int .i64) (HF hc1 hall i.2.1 (by omega) (mq hc4)).1) | exact ah rfl rfl (congrArg (Ty.int .i64) (HF hc1 hall i.2.1 (by omega) (mq hc4)).2)
  refine aq (bM (aB (aA (bI rfl ?_))))
  refine b8 rfl rfl (by omega) (by omega) ?_
  refine bk rfl (aD ?_)
  refine bO (⟨i.1 + 1, by omega, fun j hj hj2 => by by_cases e : j + 1 = i.1; (have := e9 hc4; rwa [show i.1 - 1 = j by omega, show i.1 = j + 1 by omega] at this); exact i.2.2 j (by omega) hj2⟩) ?_ (by show p.cells.length - (i.1 + 1) < p.cells.length - i.1; omega)
  (refine cv.mk' ?_ ?_ <;> (repeat' (first | exact aM | exact aL | refine aC ?_ (Ty.aV _) | refine aC ?_ (Ty.aF _))))
  all_goals skip
 refine cI (aP (aP (aj rfl (aB (aE (cN mixed rfl ?_))))))
 refine aU rfl rfl rfl (by exact Nat.le_of_ble_eq_true rfl) ?_
 refine aZ (ru) rfl rfl rfl rfl rfl ?_
 refine dI (res' := Ty.pp (sK y 2000 1000 (aR y (nth bZ)).length (aR y (nth bZ)).length)) [(2000, 23), (1000, 31)] [2000, 1000] [(2000, Cont.vec dW 187 (aR y (nth bZ))), (1000, Cont.vec dD 3 (gm (aR y (nth bZ))))] (rY y hr bZ jP) rfl rfl (aN (aN bW (aT rfl rfl)) (aT rfl rfl)) pre_nil (cA (a := 2000) (b := 23) (by decide) rfl (cG (by decide) rfl) (cA (a := 1000) (b := 31) (by decide) rfl (cG (by decide) rfl) post_nil)) (ep (aN (aN (aN (aN (aN (aN bW (eW (by decide))) (eW (by decide))) (aT rfl rfl)) (aT rfl rfl)) (aT rfl rfl)) (aT rfl rfl))) ?_
 refine aU rfl rfl rfl (by exact Nat.le_of_ble_eq_true rfl) ?_
 refine eM [2000, 1000] (KU y hr (aR y (nth bZ)) (gm (aR y (nth bZ))) (j4 hr) (Hf hr) p (fun x hx => Mf (List.all_eq_true.1 hall x hx))) rfl (aY (kO (aY (bV (bR rfl rfl)) (aY (bV (bR rfl rfl)) (aY (bV (bR rfl rfl)) (aY (bV (bR rfl rfl)) (aY (jY rfl rfl (by decide) rfl) (aY (jY rfl (Cv _) (by decide) rfl) cY))))))) (aY (bV (bR rfl rfl)) cY)) (by exact c6 _ _) ?_
 refine bk rfl (aD ?_)
 refine ⟨by kernel_rfl, ?_⟩
 refine aB (aE (aE (aA (bI rfl (bC rfl rfl rfl (aD (aB ?_)))))))
 refine az rfl (fun hc5 => ?_) (fun hc5 => ?_)
 ·
  refine aE (aA (bk rfl (bk rfl (aD (aB (ay (aQ ?_)))))))
  refine eX rfl rfl rfl ?_ ?_
  all_goals skip
  all_goals first | exact ah rfl rfl (congrArg (Ty.int .i64) (K1 hc1 hall (fun j hj => i.2.2 j (by omega) hj) hc5).1) | exact ah rfl rfl (congrArg (Ty.int .i64) (K1 hc1 hall (fun j hj => i.2.2 j (by omega) hj) hc5).2)
 refine aq (aB (aE (aA (bI rfl (bk rfl (bk rfl (aD (aB (ay ?_)))))))))
 refine eX rfl rfl rfl ?_ ?_
 all_goals skip
 all_goals first | exact ah rfl rfl (congrArg (Ty.int .i64) (Ih hc1 hall (fun j hj => i.2.2 j (by omega) hj) hc5).1) | exact ah rfl rfl (congrArg (Ty.int .i64) (Ih hc1 hall (fun j hj => i.2.2 j (by omega) hj) hc5).2)
end Go.Proofs.YtelbollidfdcjaaGreat
namespace Go.Proofs.YtelbollidfdcjaaGreat
open Go Go.T
set_option maxHeartbeats 8000000
attribute [local irreducible] aR gm
attribute [local irreducible] g6 fS m8 qg iZ iT ij ia ig qM iS qR dY gb qd gV qV nth fU dR av dK bodyPost Exit.then Exit.inBlock Code.wp Code.wpIn fR qb qX qT iw qW qc iY fC cT cU bodyPostM dr
set_option maxRecDepth 100000 in
theorem tV (y : bA) (hr : y.cZ) (c8 : List Bool) (hc8 : c8.length = 8) : fC Tryz.prog 117 [] [] [eB y, Ty.arr iy c8] [(31, Cont.vec dD 3 (gm (aR y (nth c8))))] (Ty.pp (dx y (aR y (nth c8)) 31 (aR y (nth c8)).length)) := by
 refine qq Tryz.func117 rfl (by decide) Tryz.ntmps117 (by exact Nat.le_of_ble_eq_true rfl) fun w0 M0 => ?_
 have hfl := j4 (c := nth c8) hr
 refine aE (aA (bD rfl (nN rfl (kE rfl (aD (aB (aE (aA ?_))))))))
 refine aU rfl rfl rfl (by exact Nat.le_of_ble_eq_true rfl) ?_
 refine dJ rfl rfl (by exact List.cons_ne_nil _ _) rfl (by repeat (first | exact (aW.nil : aW _ _ [] _) | (show aW _ _ ((_, _) :: _) _; apply aW.agg; (· exact (rfl : _ = Ty.agg _))))) (by exact rfl) ?_
 refine yJ rfl rfl rfl ?_
 refine bu rfl (by exact List.cons_ne_nil _ _) rfl ?_
 refine dF rfl rfl (by decide) rfl rfl (by exact (rfl : _ = Ty.ptr _ _)) rfl (by exact Nat.le_of_ble_eq_true rfl) rfl rfl (by exact (rfl : _ = [_])) ?_
 refine aD (aB (aE (aE (aA ?_))))
 refine aX rfl rfl (by decide) rfl rfl rfl ?_
 refine w9 rfl rfl rfl (by rw [hc8]; rfl) ?_
 refine dI (res' := Ty.jD 196 [Ty.pp [Ty.ptr 10 0], Ty.pa iy c8 0]) [(10, 1000)] [] [(10, Cont.cells 185 (Dw y))] (Gl y c8 hc8) rfl rfl (aN (aN bW (aT rfl rfl)) (j6 (by exact List.mem_cons_self))) (dN (a := 10) (b := 1000) (by exact List.mem_cons_self) rfl (kL (by exact List.mem_cons_self) rfl rfl rfl) pre_nil) (cA (a := 10) (b := 1000) (by exact List.mem_cons_self) rfl (kL (by exact List.mem_cons_self) rfl rfl rfl) post_nil) (tI (aN (aN bW (aT rfl rfl)) (ep (aN bW (j6 (by exact List.mem_cons_self)))))) ?_
 refine aD (aB ?_)
 refine I4 (D := 10) (Tb := 185) (tys := bS y) (r := [Ty.ex (.slice none 0 0), Ty.ex (.slice none 0 0)]) rfl rfl rfl (by decide) fun vs hvs => ?_
 obtain ⟨v0, v1, v2, v3, rfl⟩ := four hvs rfl
 refine af ?_
 refine rj (ps := [13]) (lk [(5, Ty.ptr 6 0), (9, Ty.ptr 10 0)]) (fun k => [(6, Cont.cells 152 [Ty.ptr 10 0]), (10, Cont.cells 185 [Ty.ex v0, Ty.ex v1, Ty.ex v2, Ty.ex v3, Ty.row dW 187 23 ((aR y (nth c8)).take k), Ty.row dD 3 31 ((gm (aR y (nth c8))).take k)]), (4000, Cont.fact (bS y) [v0, v1, v2, v3] rfl rfl)]) false [] [6, 10, 4000] rfl rfl ((vG y hr c8 hc8 0 10 (by decide) [v0, v1, v2, v3]).1) (Bm (D := 10) (n := 36) (sd := 9) (r := fun k => [Ty.row dW 187 23 ((aR y (nth c8)).take k), Ty.row dD 3 31 ((gm (aR y (nth c8))).take k)]) (fun b => vG y hr c8 hc8 b 10 (by decide) [v0, v1, v2, v3]) (by decide) (by decide) rfl (fun k => List.mem_cons_of_mem _ List.mem_cons_self) (List.mem_cons_of_mem _ (List.mem_cons_of_mem _ List.mem_cons_self))) (vB rfl) (vB rfl) (by decide) (by intro t ht; obtain ⟨x, _, rfl⟩ := List.mem_map.1 ht; exact ⟨rfl, rfl, rfl⟩) rfl rfl (fun _ => rfl) rfl ?_ ?_ ?_ (by intro h; cases h)
 ·(refine cv.mk' ?_ ?_ <;> (repeat' (first | exact aM | exact aL | exact c7 | refine aC ?_ (Ty.aV _) | refine aC ?_ (Ty.aF _) | refine aK rfl (Cont.aF _) ?_ | refine aK rfl (Cont.dB ?_) ?_ | refine bG ?_ (Ty.aF _) | refine bG ?_ Ty.dQ)))
  all_goals trace_state
 ·intro k tys hk
  obtain ⟨hk1, rfl⟩ := Dd hk
  refine ⟨live [(5, Ty.ptr 6 0), (6, Ty.ptr 7 0), (9, Ty.ptr 10 0)] [(6, Cont.cells 152 [Ty.ptr 10 0]), (7, Cont.cells 187 (dW.tys (nth (aR y (nth c8)) k))), (10, Cont.cells 185 [Ty.ex v0, Ty.ex v1, Ty.ex v2, Ty.ex v3, Ty.row dW 187 23 ((aR y (nth c8)).take k), Ty.row dD 3 31 ((gm (aR y (nth c8))).take k)]), (4000, Cont.fact (bS y) [v0, v1, v2, v3] rfl rfl)], fun l w M => ?_, fun l w M => ?_⟩
  ·
   refine aA ?_
   refine bu rfl (by exact List.cons_ne_nil _ _) rfl ?_
   refine bq rfl rfl (by decide) rfl rfl rfl rfl rfl rfl ?_
   refine aD (gl ?_)
   (refine cv.mk' ?_ ?_ <;> (repeat' (first | exact aM | exact aL | refine aC ?_ (Ty.aV _) | refine aC ?_ (Ty.aF _) | refine aK rfl (Cont.aF _) ?_)))
  refine af ?_
  refine uy (D := 10) (Tb := 185) (tg := 23) [Ty.ex v0, Ty.ex v1, Ty.ex v2, Ty.ex v3] rfl fun v4 => ?_
  refine uy (D := 10) (Tb := 185) (tg := 31) [Ty.ex v0, Ty.ex v1, Ty.ex v2, Ty.ex v3, Ty.ex v4] rfl fun v5 => ?_
  refine cN mixed rfl ?_
  refine aX rfl rfl (by decide) rfl rfl rfl ?_
  refine aX rfl rfl (by decide) rfl rfl rfl ?_
  refine aX rfl rfl (by decide) rfl rfl rfl ?_
  refine fG rfl ?_
  refine aS rfl rfl rfl rfl rfl (by decide) ?_
  refine aX rfl rfl (by decide) rfl rfl rfl ?_
  refine bf rfl rfl (by decide) rfl rfl (by exact Nat.le_of_ble_eq_true rfl) ?_
  refine bg (E := dW) (xs := [_]) rfl rfl rfl rfl rfl (by decide) (by decide) (by repeat (first | exact (aW.nil : aW _ _ [] _) | (show aW _ _ ((_, _) :: _) _; apply aW.agg; (· exact (rfl : _ = Ty.agg _))))) (by exact rfl) rfl ?_
  refine qC (tg := 23) rfl rfl rfl rfl (by decide) rfl rfl rfl rfl rfl rfl (by decide) (by (simp <;> omega)) (by (simp <;> omega)) rfl rfl ?_
  refine aX rfl rfl (by decide) rfl rfl rfl ?_
  refine fG rfl ?_
  refine aS rfl rfl rfl rfl rfl (by decide) ?_
  refine aX rfl rfl (by decide) rfl rfl rfl ?_
  refine aS rfl rfl rfl rfl rfl (by decide) ?_
  refine aX rfl rfl (by decide) rfl rfl rfl ?_
  refine bg (E := dD) (xs := [_]) rfl rfl rfl rfl rfl (by decide) (by decide) (by repeat (first | exact (aW.nil : aW _ _ [] _) | (show aW _ _ ((_, _) :: _) _; apply aW.one; (· exact (rfl : _ = Ty.int _ _)); (· exact rfl)))) (by exact rfl) rfl ?_
  refine qC (tg := 31) rfl rfl rfl rfl (by decide) rfl rfl rfl rfl rfl rfl (by decide) (by (simp <;> omega)) (by (simp <;> omega)) rfl rfl ?_
  refine fG rfl ?_
  refine aS rfl rfl rfl rfl rfl (by decide) ?_
  refine dF rfl rfl (by decide) rfl rfl (by exact (rfl : _ = Ty.row _ _ _ _)) rfl (by exact Nat.le_of_ble_eq_true rfl) rfl rfl (by exact rfl) ?_
  refine fG rfl ?_
  refine aS rfl rfl rfl rfl rfl (by decide) ?_
  refine dF rfl rfl (by decide) rfl rfl (by exact (rfl : _ = Ty.row _ _ _ _)) rfl (by exact Nat.le_of_ble_eq_true rfl) rfl rfl (by exact rfl) ?_
  refine aD ?_
  refine ⟨by kernel_rfl, ?_⟩
  refine bM (Br ?_)
  (refine cv.mk' ?_ ?_ <;> (repeat' (first | exact aM | exact aL | exact c7 | refine aC ?_ (Ty.aV _) | refine aK rfl (Cont.aF _) ?_ | refine aK rfl (Cont.dB ?_) ?_ | refine bG ?_ (Ty.aF _) | refine bG ?_ ?_)))
  all_goals first | exact Ty.gY (cS hk1).symm | exact Ty.gY (DQ hk1)
 refine bM (aB (aE ?_))
 refine AO (D := 10) (Tb := 185) (vs := [v0, v1, v2, v3]) (tys := bS y) (r := [Ty.row dW 187 23 ((aR y (nth c8)).take ((aR y (nth c8)).map jS).length), Ty.row dD 3 31 ((gm (aR y (nth c8))).take ((aR y (nth c8)).map jS).length)]) rfl rfl ?_
 refine g8 (tg := 10) rfl (Cont.m7 (T := 185) (A8 (y := y) (fl := aR y (nth c8)) (f := jS))) ?_
 refine pT (c0 := 10) (tg := 23) 4 rfl rfl ?_
 refine pT (c0 := 10) (tg := 31) 5 rfl rfl ?_
 refine g8 (tg := 10) rfl (Cont.j3 (l' := sK y 23 31 (aR y (nth c8)).length (aR y (nth c8)).length) ⟨Ty.aF _, Ty.aF _, Ty.aF _, Ty.aF _, Ty.AB rfl, Ty.AB (Cv _), trivial⟩) ?_
 refine pJ (tg := 10) [] [(6, Cont.cells 152 [Ty.pp (sK y 23 31 (aR y (nth c8)).length (aR y (nth c8)).length)])] (by decide) rfl trivial ⟨jr rfl rfl ⟨yC rfl rfl (by decide), trivial⟩, trivial⟩ ?_
 refine pJ (tg := 23) [] [(6, Cont.cells 152 [Ty.pp (dx y (aR y (nth c8)) 31 (aR y (nth c8)).length)])] (by decide) rfl trivial ⟨jr rfl rfl ⟨Az ⟨cH rfl, cH rfl, cH rfl, cH rfl, pH rfl rfl (by decide), cH rfl, trivial⟩, trivial⟩, trivial⟩ ?_
 refine aA ?_
 refine aX rfl rfl (by decide) rfl rfl rfl ?_
 refine Jo rfl (aD (aB (ay (GQ rfl ?_))))
 refine iQ [31] rfl rfl (by decide) (by repeat (first | exact gR | refine fM rfl (cG (by decide) rfl) ?_)) ?_
 all_goals skip
 all_goals exact hU (ep (aN (aN (aN (aN (aN (aN bW (eW (by decide))) (aT rfl rfl)) (aT rfl rfl)) (aT rfl rfl)) (aT rfl rfl)) (aT rfl rfl)))
end Go.Proofs.YtelbollidfdcjaaGreat
namespace Go.Proofs.YtelbollidfdcjaaGreat
open Go Go.T
theorem LV : Tryz.prog.underlying 180 = some (.array 8 4) := by kernel_rfl
theorem Lg (a0 a1 a2 a3 a4 a5 a6 a7 b0 b1 b2 b3 b4 b5 b6 b7 : Bool) (w : World) : (Op.equal 180 (.agg #[.bool a0, .bool a1, .bool a2, .bool a3, .bool a4, .bool a5, .bool a6, .bool a7]) (.agg #[.bool b0, .bool b1, .bool b2, .bool b3, .bool b4, .bool b5, .bool b6, .bool b7])).run Tryz.prog w = .ok ((decide (a0 = b0) && (decide (a1 = b1) && (decide (a2 = b2) && (decide (a3 = b3) && (decide (a4 = b4) && (decide (a5 = b5) && (decide (a6 = b6) && decide (a7 = b7))))))))) w := by
 have hs : Tryz.prog.stoodInHeld 180 = false := by kernel_rfl
 have e4 : ∀ (x y : Bool) (w : World), (Op.equalIn 9999 4 (.bool x) (.bool y)).run Tryz.prog w = .ok (decide (x = y)) w := fun x y w => by
  rw [Op.equalIn]
  simp only [Sem.run_bind, run_underlying Tryz.underlying4, Result.andThen_ok]
  rfl
 have g4 : ∀ w, (isAgg 4).run Tryz.prog w = .ok false w := fun w => by simp [isAgg, run_underlying Tryz.underlying4]
 unfold Op.equal Op.maxDepth
 rw [Op.equalIn]
 simp only [Sem.run_bind, run_underlying LV, Result.andThen_ok]
 simp [hs, part, g4, e4]
 rw [show List.range' 0 8 = [0, 1, 2, 3, 4, 5, 6, 7] from rfl]
 simp [List.forIn_cons, g4, e4]
 by_cases h0 : a0 = b0
 case neg => simp [h0]
 rw [if_pos h0]
 by_cases h1 : a1 = b1
 case neg => simp [h1]
 rw [if_pos h1]
 by_cases h2 : a2 = b2
 case neg => simp [h2]
 rw [if_pos h2]
 by_cases h3 : a3 = b3
 case neg => simp [h3]
 rw [if_pos h3]
 by_cases h4 : a4 = b4
 case neg => simp [h4]
 rw [if_pos h4]
 by_cases h5 : a5 = b5
 case neg => simp [h5]
 rw [if_pos h5]
 by_cases h6 : a6 = b6
 case neg => simp [h6]
 rw [if_pos h6]
 by_cases h7 : a7 = b7
 case neg => simp [h7]
 rw [if_pos h7]
 simp [h0, h1, h2, h3, h4, h5, h6, h7]
theorem Iw (xs ys : List Bool) (hx : xs.length = 8) (hy : ys.length = 8) : G7 Tryz.prog 180 (xs.flatMap iy.tys) (ys.flatMap iy.tys) (decide (xs = ys)) := by
  match xs, ys, hx, hy with
  | [a0, a1, a2, a3, a4, a5, a6, a7], [b0, b1, b2, b3, b4, b5, b6, b7], _, _ =>
    refine ⟨by kernel_rfl, fun w M cs ds h1 h2 => ?_⟩
    obtain ⟨cs⟩ := cs
    obtain ⟨ds⟩ := ds
    match cs, ds, h1, h2 with
    | [u0, u1, u2, u3, u4, u5, u6, u7], [v0, v1, v2, v3, v4, v5, v6, v7], h1, h2 =>
      change cB w M [Ty.bool a0, Ty.bool a1, Ty.bool a2, Ty.bool a3, Ty.bool a4, Ty.bool a5, Ty.bool a6, Ty.bool a7] _ at h1
      change cB w M [Ty.bool b0, Ty.bool b1, Ty.bool b2, Ty.bool b3, Ty.bool b4, Ty.bool b5, Ty.bool b6, Ty.bool b7] _ at h2
      obtain ⟨e0, e1, e2, e3, e4, e5, e6, e7, _⟩ := h1
      obtain ⟨f0, f1, f2, f3, f4, f5, f6, f7, _⟩ := h2
      cases e0; cases e1; cases e2; cases e3; cases e4; cases e5; cases e6; cases e7
      cases f0; cases f1; cases f2; cases f3; cases f4; cases f5; cases f6; cases f7
      rw [Lg]
      congr 1
      simp only [List.cons.injEq, and_true, Bool.decide_and]
end Go.Proofs.YtelbollidfdcjaaGreat
namespace Go.T
open Go Go.RowKit
section
variable {P : Program} {fr : Fr} {ops : Array Oper} {A : As} {rest : List Oper} {K : As → List (As × Fx) → Prop} {d : Nat} {t ty' ty2 : TypeId} {p : String} {e : Array Edge}
theorem y9 {α : Type} [Inhabited α] {E : El α} {xs ys : List α} {x y : Operand} {c : Bool} (hE : G7 P ty' (xs.flatMap E.tys) (ys.flatMap E.tys) c) (hx : A.op fr x = .arr E xs) (hy : A.op fr y = .arr E ys)
 (h : av P fr ops rest (A.set d (.bool (!c))) fun A' l' => K A' ((A, { d := some d, ty := .bool (!c), rs := bw x ++ bw y }) :: l')) : av P fr ops (⟨some d, .binOp .neq ty' x y ty2, t, p, e, none⟩ :: rest) A K :=
 bE (bL rfl rfl fun a w M _ hrd _ => by
  have _ := (inferInstance : Inhabited α)
  obtain ⟨hdx, hdy⟩ := op2 hrd
  rw [hx] at hdx; rw [hy] at hdy
  obtain ⟨cs, ex, h1⟩ := hdx
  obtain ⟨ds, ey, h2⟩ := hdy
  exact ⟨.bool (!c), by simp only [execOp, ex, ey]; simp [eqGuard, hE.1, binOp, hE.2 w M cs ds h1 h2], rfl⟩) h
end
end Go.T
namespace Go.Proofs.YtelbollidfdcjaaGreat
open Go Go.T
set_option maxHeartbeats 16000000
def Gx (l : List Int) (x : Int) : Int := fidx (fun y => decide (x = y)) l
theorem AF (l : List Int) (x : Int) : decide (Gx l x ≥ 0) = decide (x ∈ l) := by
 unfold Gx
 rw [nP]
 rw [Bool.eq_iff_iff]; simp
def zD (l : List Int) (o : Bool) (i : Nat) : Bool := !(decide ((i : Int) ∈ l) == o)
def iH (l : List Int) (o : Bool) (k : Nat) : List Bool := (List.range k).map (zD l o) ++ List.replicate (8 - k) false
def cQ (l : List Int) (o : Bool) : List Bool := (List.range 8).map (zD l o)
noncomputable def eN (y : bA) (c : List Bool) : Bool := !(cP (aR y (nth c)) (y.cells + 1) (gm (aR y (nth c)))).2.1
section
variable {y : bA} {l : List Int} {o : Bool} {k : Nat}
theorem zc (h : k ≤ 8) : (iH l o k).length = 8 := by unfold iH; rw [List.length_append, List.length_map, List.length_range, List.length_replicate]; omega
theorem CP : (cQ l o).length = 8 := by unfold cQ; rw [List.length_map, List.length_range]
theorem xQ : List.replicate 8 false = iH l o 0 := rfl
theorem zT : iH l o 8 = cQ l o := List.append_nil _
theorem xN (h : k < 8) : (iH l o k).set k (!(decide ((k : Int) ∈ l) == o)) = iH l o (k + 1) := by
 unfold iH
 have e : ((List.range k).map (zD l o)).length = k := by rw [List.length_map, List.length_range]
 rw [List.set_append_right _ _ (by omega), e, Nat.sub_self, show 8 - k = (8 - (k + 1)) + 1 by omega, List.replicate_succ, List.set_cons_zero, List.range_succ, List.map_append, List.append_assoc]; rfl
theorem zn {xs ys : List Bool} {b : Bool} (hx : xs.length = 8) (hy : ys.length = 8) (h : decide (xs = ys) = b) : G7 Tryz.prog 180 (xs.flatMap iy.tys) (ys.flatMap iy.tys) b := h ▸ Iw xs ys hx hy
theorem NQ (h : decide (cQ l o = bZ) = true) (h2 : (!(cP (aR y (nth bZ)) (y.cells + 1) (gm (aR y (nth bZ)))).2.1) = true) : true = eN y (cQ l o) := by rw [of_decide_eq_true h]; exact h2.symm
theorem Nj (h : decide (cQ l o = bZ) = true) (h2 : (!(cP (aR y (nth bZ)) (y.cells + 1) (gm (aR y (nth bZ)))).2.1) = false) : false = eN y (cQ l o) := by rw [of_decide_eq_true h]; exact h2.symm
theorem K9 (y : bA) (c : List Bool) : (!(cP (aR y (nth c)) (y.cells + 1) (gm (aR y (nth c)))).2.1) = eN y c := rfl
end
attribute [local irreducible] aR gm Way.gp Way.fin Way.room eK dZ eY gT over bH cM dP eJ jN ef gu kI cP gM fm fj cm cJ gS pK iR ir jF gX AY xy iB bA.kept bA.cells bT dz bZ gL kS cr oU qK kG jW kX nC hasB tK rM rF sq oT kW oK ke xL gU jR HE Fp sH eN cQ iH
attribute [local irreducible] g6 fS m8 qg iZ iT ij ia ig qM iS qR dY gb qd gV qV nth fU dR av dK bodyPost Exit.then Exit.inBlock Code.wp Code.wpIn fR qb qX qT iw qW qc iY fC cT cU bodyPostM dr
set_option maxRecDepth 100000 in
theorem CF (l : List Int) (x : Int) : dK Tryz.prog 140 [Ty.sl dD l, Ty.int .i64 x] (Ty.int .i64 (Gx l x)) := by
 refine aa Tryz.func140 rfl (by decide) Tryz.ntmps140 (by exact Nat.le_of_ble_eq_true rfl) fun w0 M0 => ?_
 refine gH (s := 0) rfl rfl gD fun hl => ?_
 refine aE (aA (bk rfl (aD (aB (aE (aE (aA (ej rfl (b9 rfl rfl rfl ?_)))))))))
 refine bI rfl (aD (aB (af ?_)))
 refine cK (fun (k : {k : Nat // ∀ y ∈ l.take k, decide (x = y) = false}) => live [(0, Ty.sl dD l), (1, Ty.int .i64 x), (7, Ty.int .i64 l.length), (8, Ty.int .i64 (k.1 : Nat))] []) (fun k => l.length - k.1) (⟨0, by simp⟩) ?_ fun k => ?_
 ·(refine cv.mk' ?_ ?_ <;> (repeat' (first | exact aM | exact aL | refine aC ?_ (Ty.aV _) | refine aC ?_ (Ty.aF _))))
 refine aE (aA (bC rfl rfl rfl (aD (aB (aE ?_)))))
 refine az rfl (fun hc1 => ?_) (fun hc1 => ?_)
 ·
  refine aq (aB (aE (af (aE (aA (bI rfl (bk rfl (aD (aB ?_)))))))))
  refine aE (aA (bI rfl (ej rfl (bI rfl ?_))))
  refine ak rfl rfl rfl rfl rfl rfl (by omega) ?_
  refine aG rfl rfl rfl rfl (bC rfl rfl rfl (aD (aB ?_)))
  refine az rfl (fun hc2 => ?_) (fun hc2 => ?_)
  ·
   refine aE (aA (bI rfl (bk rfl (aD (aB (ay (au (aQ (aQ ?_)))))))))
   refine au (aQ (bJ rfl rfl ?_))
   all_goals skip
   exact ah rfl rfl (congrArg (Ty.int .i64) (by unfold Gx; rw [gk (k := k.1) (by omega) k.2 (by rw [← iD]; exact decide_eq_true hc2)]))
  refine aq (bM (aB (aA ?_)))
  refine b8 rfl rfl (by omega) (by omega) ?_
  refine bI rfl (aD ?_)
  refine bO (⟨k.1 + 1, by rw [cS (by omega)]; intro y hy; rcases List.mem_append.1 hy with h | h; exact k.2 y h; rw [List.mem_singleton.1 h]; exact decide_eq_false hc2⟩) ?_ (by show l.length - (k.1 + 1) < l.length - k.1; omega)
  (refine cv.mk' ?_ ?_ <;> (repeat' (first | exact aM | exact aL | refine aC ?_ (Ty.aV _) | refine aC ?_ (Ty.aF _))))
  all_goals skip
 refine cI (aP (aP (aj rfl (aB (aE (aA (bk rfl (aD (aB ?_)))))))))
 refine ay (bJ rfl rfl ?_)
 all_goals skip
 exact ah rfl rfl (congrArg (Ty.int .i64) (by unfold Gx; rw [iP (by have := k.2; rwa [List.take_of_length_le (by omega)] at this)]))
set_option maxRecDepth 100000 in
theorem v8 (l : List Int) (x : Int) : dK Tryz.prog 65 [Ty.sl dD l, Ty.int .i64 x] (Ty.bool (decide (x ∈ l))) := by
 refine aa Tryz.func65 rfl (by decide) Tryz.ntmps65 (by exact Nat.le_of_ble_eq_true rfl) fun w0 M0 => ?_
 refine aE (aA (cj rfl (aD (aB (aE (aA (ej rfl (bI rfl (aZ (CF l x) rfl rfl rfl rfl rfl ?_)))))))))
 refine bC rfl rfl rfl (cj rfl (aD (aB (ay (bJ rfl rfl ?_)))))
 all_goals skip
 exact ah rfl rfl (congrArg Ty.bool (AF l x))
set_option maxRecDepth 100000 in
theorem Bl (y : bA) (hr : y.cZ) (l : List Int) (o : Bool) : dK Tryz.prog 112 [eB y, Ty.sl dD l, Ty.bool o] (Ty.bool (eN y (cQ l o))) := by
 refine aa Tryz.func112 rfl (by decide) Tryz.ntmps112 (by exact Nat.le_of_ble_eq_true rfl) fun w0 M0 => ?_
 refine aE (aA (bD rfl (cj rfl (aD (aB (aE (aA ?_)))))))
 refine BQ (E := iy) (xs := List.replicate 8 false) rfl (by exact List.cons_ne_nil _ _) rfl rfl ?_
 refine aD (aB (aE (aE (aA (bI rfl (aD (aB (af ?_))))))))
 refine cK (fun (k : {k : Nat // k ≤ 8}) => live [(1, Ty.sl dD l), (2, Ty.bool o), (3, Ty.pp (bS y)), (7, Ty.ptr 8 0), (9, Ty.int .i64 (k.1 : Nat))] [(8, Cont.vec iy 180 (iH l o k.1))]) (fun k => 8 - k.1) (⟨0, by omega⟩) ?_ fun k => ?_
 ·(refine cv.mk' ?_ ?_ <;> (repeat' (first | exact aM | exact aL | refine aC ?_ (Ty.aV _) | refine aC ?_ (Ty.aF _) | refine aK rfl ?_ ?_)))
  all_goals exact Cont.fF xQ
 have hkl := zc (l := l) (o := o) k.2
 refine aE (aA (bC rfl rfl rfl (aD (aB (aE ?_)))))
 refine az rfl (fun hc1 => ?_) (fun hc1 => ?_)
 ·
  refine aq (aB (aE (af (aE (aA (bI rfl (bk rfl (aD (aB ?_)))))))))
  refine aA (bI rfl (ej rfl (bI rfl (aZ (v8 _ _) rfl rfl rfl rfl rfl (e8 rfl (ES MC rfl rfl ?_))))))
  refine sB (n := 8) rfl rfl rfl rfl rfl (by omega) (by omega) ?_
  refine sA rfl rfl rfl (by decide) rfl rfl (by exact (rfl : _ = Ty.bool _)) rfl (by omega) (by decide) rfl rfl ?_
  refine aD (bM (aB (aA ?_)))
  refine b8 rfl rfl (by omega) (by omega) ?_
  refine bI rfl (aD ?_)
  refine bO (⟨k.1 + 1, by omega⟩) ?_ (by show 8 - (k.1 + 1) < 8 - k.1; omega)
  (refine cv.mk' ?_ ?_ <;> (repeat' (first | exact aM | exact aL | refine aC ?_ (Ty.aV _) | refine aC ?_ (Ty.aF _) | refine aK rfl ?_ ?_)))
  all_goals skip
  all_goals exact Cont.fF (xN (by omega))
 refine cI (aP (aP (aj rfl (aB (aE ?_)))))
 obtain ⟨k, hk⟩ := k
 obtain rfl : k = 8 := by have h1 : ¬ (k : Int) < 8 := hc1; have h2 : k ≤ 8 := hk; omega
 refine g8 (tg := 8) rfl (Cont.fF zT) ?_
 have hcl : (cQ l o).length = 8 := CP
 refine cN mixed rfl ?_
 refine hO rfl rfl (by decide) rfl rfl (by rw [hcl]; rfl) (fun e => by rw [e] at hcl; cases hcl) ?_
 refine aZ (ru) rfl rfl rfl rfl rfl (MI (Iw _ _ hcl jP) rfl rfl ?_)
 cases hsp : (decide ((cQ l o) = bZ))
 ·
  refine e8 rfl (mz rfl rfl rfl rfl (mz rfl rfl rfl rfl (mz rfl rfl rfl rfl (mz rfl rfl rfl rfl (Du rfl ?_)))))
  cases hsp : (!(cP (aR y (nth bZ)) (y.cells + 1) (gm (aR y (nth bZ)))).2.1)
  ·
   refine e8 rfl ?_
   (refine jx rfl rfl rfl (by apply aO; (refine hO rfl rfl (by decide) rfl rfl (by rw [hcl]; rfl) (fun e => by rw [e] at hcl; cases hcl) ?_); refine aD ?_; exact rfl) ?_)
   (refine jx rfl rfl rfl (by apply aO; (refine aZ (ru) rfl rfl rfl rfl rfl ?_); refine aD ?_; exact rfl) ?_)
   (refine jx rfl rfl rfl (by apply aO; (refine y9 (zn hcl jP (by assumption)) rfl rfl ?_); refine aD ?_; exact rfl) ?_)
   (refine jx rfl rfl rfl (by apply aO; (refine e8 rfl ?_); refine aD ?_; exact rfl) ?_)
   (refine jx rfl rfl rfl (by apply aO; (refine aU rfl rfl rfl (by exact Nat.le_of_ble_eq_true rfl) ?_); refine aD ?_; exact rfl) ?_)
   (refine jx rfl rfl rfl (by apply aO; (refine hO rfl rfl (by decide) rfl rfl (by rw [hcl]; rfl) (fun e => by rw [e] at hcl; cases hcl) ?_); refine aD ?_; exact rfl) ?_)
   (refine jx rfl rfl rfl (by apply aO; (refine dI (res' := Ty.pp (dx y (aR y (nth (cQ l o))) 1000 (aR y (nth (cQ l o))).length)) [(1000, 31)] [1000] [(1000, Cont.vec dD 3 (gm (aR y (nth (cQ l o)))))] (tV y hr (cQ l o) hcl) rfl rfl (aN (aN bW (aT rfl rfl)) (aT rfl rfl)) pre_nil (cA (a := 1000) (b := 31) (by decide) rfl (cG (by decide) rfl) post_nil) (ep (aN (aN (aN (aN (aN (aN bW (eW (by decide))) (aT rfl rfl)) (aT rfl rfl)) (aT rfl rfl)) (aT rfl rfl)) (aT rfl rfl))) ?_); refine aD ?_; exact rfl) ?_)
   (refine jx rfl rfl rfl (by apply aO; (refine dI [(1000, 1000)] [] [(1000, Cont.vec dD 3 (cP (aR y (nth (cQ l o))) (y.cells + 1) (gm (aR y (nth (cQ l o))))).2.2)] (nB y (aR y (nth (cQ l o))) (gm (aR y (nth (cQ l o)))) (lq hr)) rfl rfl (aN bW (ep (aN (aN (aN (aN (aN (aN bW (eW (by exact List.mem_cons_self))) (aT rfl rfl)) (aT rfl rfl)) (aT rfl rfl)) (aT rfl rfl)) (aT rfl rfl)))) (dN (a := 1000) (b := 1000) (by exact List.mem_cons_self) rfl (cG (by exact List.mem_cons_self) rfl) pre_nil) (cA (a := 1000) (b := 1000) (by decide) rfl (cG (by decide) rfl) post_nil) (aT rfl rfl) ?_); refine aD ?_; exact rfl) ?_)
   (refine jx rfl rfl rfl (by apply aO; (refine zx rfl rfl ?_); refine aD ?_; exact rfl) ?_)
   refine zJ rfl rfl (cj rfl (aD ?_))
   refine ⟨by kernel_rfl, ?_⟩
   refine aB (ay (bJ rfl rfl ?_))
   all_goals skip
   all_goals exact ah rfl rfl (congrArg Ty.bool (K9 y _))
  refine e8 rfl ?_
  (refine jx rfl rfl rfl (by apply aO; (refine hO rfl rfl (by decide) rfl rfl (by rw [hcl]; rfl) (fun e => by rw [e] at hcl; cases hcl) ?_); refine aD ?_; exact rfl) ?_)
  (refine jx rfl rfl rfl (by apply aO; (refine aZ (ru) rfl rfl rfl rfl rfl ?_); refine aD ?_; exact rfl) ?_)
  (refine jx rfl rfl rfl (by apply aO; (refine y9 (zn hcl jP (by assumption)) rfl rfl ?_); refine aD ?_; exact rfl) ?_)
  (refine jx rfl rfl rfl (by apply aO; (refine e8 rfl ?_); refine aD ?_; exact rfl) ?_)
  (refine jx rfl rfl rfl (by apply aO; (refine aU rfl rfl rfl (by exact Nat.le_of_ble_eq_true rfl) ?_); refine aD ?_; exact rfl) ?_)
  (refine jx rfl rfl rfl (by apply aO; (refine hO rfl rfl (by decide) rfl rfl (by rw [hcl]; rfl) (fun e => by rw [e] at hcl; cases hcl) ?_); refine aD ?_; exact rfl) ?_)
  (refine jx rfl rfl rfl (by apply aO; (refine dI (res' := Ty.pp (dx y (aR y (nth (cQ l o))) 1000 (aR y (nth (cQ l o))).length)) [(1000, 31)] [1000] [(1000, Cont.vec dD 3 (gm (aR y (nth (cQ l o)))))] (tV y hr (cQ l o) hcl) rfl rfl (aN (aN bW (aT rfl rfl)) (aT rfl rfl)) pre_nil (cA (a := 1000) (b := 31) (by decide) rfl (cG (by decide) rfl) post_nil) (ep (aN (aN (aN (aN (aN (aN bW (eW (by decide))) (aT rfl rfl)) (aT rfl rfl)) (aT rfl rfl)) (aT rfl rfl)) (aT rfl rfl))) ?_); refine aD ?_; exact rfl) ?_)
  (refine jx rfl rfl rfl (by apply aO; (refine dI [(1000, 1000)] [] [(1000, Cont.vec dD 3 (cP (aR y (nth (cQ l o))) (y.cells + 1) (gm (aR y (nth (cQ l o))))).2.2)] (nB y (aR y (nth (cQ l o))) (gm (aR y (nth (cQ l o)))) (lq hr)) rfl rfl (aN bW (ep (aN (aN (aN (aN (aN (aN bW (eW (by exact List.mem_cons_self))) (aT rfl rfl)) (aT rfl rfl)) (aT rfl rfl)) (aT rfl rfl)) (aT rfl rfl)))) (dN (a := 1000) (b := 1000) (by exact List.mem_cons_self) rfl (cG (by exact List.mem_cons_self) rfl) pre_nil) (cA (a := 1000) (b := 1000) (by decide) rfl (cG (by decide) rfl) post_nil) (aT rfl rfl) ?_); refine aD ?_; exact rfl) ?_)
  (refine jx rfl rfl rfl (by apply aO; (refine zx rfl rfl ?_); refine aD ?_; exact rfl) ?_)
  refine zJ rfl rfl (cj rfl (aD ?_))
  refine ⟨by kernel_rfl, ?_⟩
  refine aB (ay (bJ rfl rfl ?_))
  all_goals skip
  all_goals exact ah rfl rfl (congrArg Ty.bool (K9 y _))
 refine e8 rfl ?_
 (refine jx rfl rfl rfl (by apply aO; (refine aU rfl rfl rfl (by exact Nat.le_of_ble_eq_true rfl) ?_); refine aD ?_; exact rfl) ?_)
 (refine jx rfl rfl rfl (by apply aO; (refine aZ (ru) rfl rfl rfl rfl rfl ?_); refine aD ?_; exact rfl) ?_)
 (refine jx rfl rfl rfl (by apply aO; (refine dI (res' := Ty.pp (dx y (aR y (nth bZ)) 1000 (aR y (nth bZ)).length)) [(1000, 31)] [1000] [(1000, Cont.vec dD 3 (gm (aR y (nth bZ))))] (tV y hr bZ jP) rfl rfl (aN (aN bW (aT rfl rfl)) (aT rfl rfl)) pre_nil (cA (a := 1000) (b := 31) (by decide) rfl (cG (by decide) rfl) post_nil) (ep (aN (aN (aN (aN (aN (aN bW (eW (by decide))) (aT rfl rfl)) (aT rfl rfl)) (aT rfl rfl)) (aT rfl rfl)) (aT rfl rfl))) ?_); refine aD ?_; exact rfl) ?_)
 (refine jx rfl rfl rfl (by apply aO; (refine dI [(1000, 1000)] [] [(1000, Cont.vec dD 3 (cP (aR y (nth bZ)) (y.cells + 1) (gm (aR y (nth bZ)))).2.2)] (nB y (aR y (nth bZ)) (gm (aR y (nth bZ))) (lq hr)) rfl rfl (aN bW (ep (aN (aN (aN (aN (aN (aN bW (eW (by exact List.mem_cons_self))) (aT rfl rfl)) (aT rfl rfl)) (aT rfl rfl)) (aT rfl rfl)) (aT rfl rfl)))) (dN (a := 1000) (b := 1000) (by exact List.mem_cons_self) rfl (cG (by exact List.mem_cons_self) rfl) pre_nil) (cA (a := 1000) (b := 1000) (by decide) rfl (cG (by decide) rfl) post_nil) (aT rfl rfl) ?_); refine aD ?_; exact rfl) ?_)
 refine zx rfl rfl ?_
 cases hsp : (!(cP (aR y (nth bZ)) (y.cells + 1) (gm (aR y (nth bZ)))).2.1)
 ·
  refine e8 rfl ?_
  (refine jx rfl rfl rfl (by apply aO; (refine hO rfl rfl (by decide) rfl rfl (by rw [hcl]; rfl) (fun e => by rw [e] at hcl; cases hcl) ?_); refine aD ?_; exact rfl) ?_)
  (refine jx rfl rfl rfl (by apply aO; (refine aZ (ru) rfl rfl rfl rfl rfl ?_); refine aD ?_; exact rfl) ?_)
  (refine jx rfl rfl rfl (by apply aO; (refine y9 (zn hcl jP (by assumption)) rfl rfl ?_); refine aD ?_; exact rfl) ?_)
  (refine jx rfl rfl rfl (by apply aO; (refine e8 rfl ?_); refine aD ?_; exact rfl) ?_)
  refine mz rfl rfl rfl rfl (mz rfl rfl rfl rfl (mz rfl rfl rfl rfl (mz rfl rfl rfl rfl ?_)))
  (refine jx rfl rfl rfl (by apply aO; (refine Du rfl ?_); refine aD ?_; exact rfl) ?_)
  refine zJ rfl rfl (cj rfl (aD ?_))
  refine ⟨by kernel_rfl, ?_⟩
  refine aB (ay (bJ rfl rfl ?_))
  all_goals skip
  all_goals exact ah rfl rfl (congrArg Ty.bool (Nj (by assumption) (by assumption)))
 refine e8 rfl (mz rfl rfl rfl rfl (mz rfl rfl rfl rfl (mz rfl rfl rfl rfl (mz rfl rfl rfl rfl (zg rfl rfl rfl (zg rfl rfl rfl (zg rfl rfl rfl (zg rfl rfl rfl (mz rfl rfl rfl rfl ?_)))))))))
 refine JX rfl (cj rfl (aD ?_))
 refine ⟨by kernel_rfl, ?_⟩
 refine aB (ay (bJ rfl rfl ?_))
 all_goals skip
 all_goals exact ah rfl rfl (congrArg Ty.bool (NQ (by assumption) (by assumption)))
end Go.Proofs.YtelbollidfdcjaaGreat
namespace Go.Proofs.YtelbollidfdcjaaGreat
open Go Go.T
set_option maxHeartbeats 16000000
section
variable {y : bA} {l : List Int} {i : Nat}
end
attribute [local irreducible] aR gm Way.gp Way.fin Way.room eK dZ eY gT over bH cM dP eJ jN ef gu kI cP gM fm fj cm cJ gS pK iR ir jF gX AY xy iB bA.kept bA.cells bT dz bZ gL kS cr oU qK kG jW kX nC hasB tK rM rF sq oT kW oK ke xL gU jR HE Fp sH eN cQ iH
attribute [local irreducible] g6 fS m8 qg iZ iT ij ia ig qM iS qR dY gb qd gV qV nth fU dR av dK bodyPost Exit.then Exit.inBlock Code.wp Code.wpIn fR qb qX qT iw qW qc iY fC cT cU bodyPostM dr
end Go.Proofs.YtelbollidfdcjaaGreat
namespace Go.Proofs.YtelbollidfdcjaaGreat
open Go Go.T
structure EU (y : bA) (c : Nat → Bool) (f : dL → Int) (s : Span) : Prop where
  lo : ∃ a, iV y c a ∧ f a = s.lo
  hi : ∃ a, iV y c a ∧ f a = s.hi
  all : ∀ a, iV y c a → s.lo ≤ f a ∧ f a ≤ s.hi
section
variable {y : bA} {c : Nat → Bool} {f : dL → Int} {s s' : Span} {a : dL} {x : List Int} {b t k : Nat} {has : Nat → Bool}
theorem EU.one (h : EU y c f s) (h' : EU y c f s') : s = s' := by
 obtain ⟨x1, f1, e1⟩ := h.lo
 obtain ⟨x2, f2, e2⟩ := h.hi
 obtain ⟨y1, g1, d1⟩ := h'.lo
 obtain ⟨y2, g2, d2⟩ := h'.hi
 have a1 := h.all y1 g1
 have a2 := h.all y2 g2
 have b1 := h'.all x1 f1
 have b2 := h'.all x2 f2
 cases s; cases s'
 simp only at *
 congr 1 <;> omega
theorem s8 {α : Type} [Inhabited α] {l k : List α} (h : l.length = k.length) (h2 : ∀ i, i < l.length → nth l i = nth k i) : l = k := by
 refine List.ext_getElem h fun i h1 h3 => ?_
 have := h2 i h1
 unfold nth at this
 rw [List.getD_eq_getElem?_getD, List.getD_eq_getElem?_getD, List.getElem?_eq_getElem h1, List.getElem?_eq_getElem h3] at this
 exact this
theorem sj (hr : y.cZ) (h : wX y a) : gL y (ku y a) = a := by
  cases a with
  | mk p q =>
    have h1 : (gL y (ku y ⟨p, q⟩)).bN = q := rH
    have h2 : (gL y (ku y ⟨p, q⟩)).first = p := by
      have hl := (sW (y := y) (c := fun _ => true) (pS h)).first
      refine s8 (hl.trans h.first.symm) fun i hi => ?_
      rw [hl] at hi
      show nth ((List.range y.bins.length).map fun b => nth (ku y ⟨p, q⟩) (y.kept b 0)) i = _
      rw [fL _ hi, j7 hi (Nat.zero_le _), nF hr]
    cases e : gL y (ku y ⟨p, q⟩) with
    | mk u v => rw [e] at h1 h2; subst h1; subst h2; rfl
theorem MY (hr : y.cZ) (h1 : ∀ x, gW (aR y c) (y.cells + 1) x → jF (aR y c) has x = f (gL y x)) : nV (aR y c) (y.cells + 1) has s ↔ EU y c f s := by
 constructor
 ·rintro ⟨⟨u, hu, eu⟩, ⟨v, hv, ev⟩, hall⟩
  refine ⟨⟨_, qH hr hu, by rw [← h1 _ hu, eu]⟩, ⟨_, qH hr hv, by rw [← h1 _ hv, ev]⟩, fun a ha => ?_⟩
  have h2 := hall _ (jI hr ha)
  rw [h1 _ (jI hr ha), sj hr ha.lens] at h2
  exact h2
 rintro ⟨⟨u, hu, eu⟩, ⟨v, hv, ev⟩, hall⟩
 refine ⟨⟨_, jI hr hu, by rw [h1 _ (jI hr hu), sj hr hu.lens, eu]⟩, ⟨_, jI hr hv, by rw [h1 _ (jI hr hv), sj hr hv.lens, ev]⟩, fun x hx => ?_⟩
 rw [h1 _ hx]
 exact hall _ (qH hr hx)
theorem wB (hr : y.cZ) (h1 : ∀ x, gW (aR y c) (y.cells + 1) x → jF (aR y c) has x = f (gL y x)) (h : ∃ a, iV y c a) : EU y c f (gX (aR y c) (y.cells + 1) has) := by
 obtain ⟨a, ha⟩ := h
 obtain ⟨_, _, hs⟩ := r9 (has := has) (lf hr) (Nat.succ_pos _) (ux hr) (jI hr ha)
 rw [hs.eq]
 exact (MY hr h1).1 hs
theorem Ax {fl : List bp} (hk : k < fl.length) : jF fl (fun i => decide ((i : Int) = (k : Int))) x = nth x k := by
 unfold jF
 rw [jf hk fun i _ hn => if_neg (by rw [decide_eq_true_eq]; omega)]
 exact if_pos (decide_eq_true rfl)
theorem JH (hr : y.cZ) (hb : b < y.bins.length) (ht : t ≤ y.D) (hx : gW (aR y c) (y.cells + 1) x) : jF (aR y c) (fun i => decide ((i : Int) = ((y.kept b t : Nat) : Int))) x = cV y (gL y x) b t := by
 rw [Ax (by rw [fA]; have := pW hb ht; omega), pO hr hx.1.1 hx.2 hb t ht]
theorem Is (hk : k < y.moves.length) : jF (aR y c) (fun i => decide ((i : Int) = ((y.bins.length * (y.D + 1) + k : Nat) : Int))) x = nth (gL y x).bN k := by
 rw [Ax (by rw [fA]; omega)]
 exact rX.symm
theorem FI (hr : y.cZ) (ht : t ≤ y.D) (hx : gW (aR y c) (y.cells + 1) x) : jF (aR y c) (fun i => (List.range y.bins.length).any fun b => decide ((i : Int) = ((y.kept b t : Nat) : Int))) x = cg (fun b => cV y (gL y x) b t) y.bins.length := by
 unfold jF
 rw [fA, mC, rA, gP (n := y.moves.length) fun i _ => ?_, Int.add_zero]
 ·refine fE fun b hb => ?_
  rw [pO hr hx.1.1 hx.2 hb t ht]
  have key : ∀ t', t' < y.D + 1 → (((List.range y.bins.length).any fun b' => decide (((b * (y.D + 1) + t' : Nat) : Int) = ((y.kept b' t : Nat) : Int))) = decide (t' = t)) := fun t' ht' => by
   rw [Bool.eq_iff_iff, List.any_eq_true, decide_eq_true_eq]
   constructor
   ·rintro ⟨b', _, he⟩
    have he := of_decide_eq_true he
    unfold bA.kept at he
    exact (rW (D := y.D + 1) ht' (by omega) (Int.ofNat.inj he)).2
   rintro rfl
   exact ⟨b, List.mem_range.2 hb, decide_eq_true rfl⟩
  rw [fE (g := fun t' => if decide (t' = t) = true then nth x (b * (y.D + 1) + t') else 0) fun t' ht' => by show (if ((List.range y.bins.length).any fun b' => decide (((b * (y.D + 1) + t' : Nat) : Int) = ((y.kept b' t : Nat) : Int))) = true then _ else _) = _; rw [key t' ht']]
  rw [jf (k := t) (by omega) fun i _ hn => if_neg (by rw [decide_eq_true_eq]; exact hn), if_pos (decide_eq_true rfl)]
  rfl
 refine if_neg ?_
 rw [List.any_eq_true]
 rintro ⟨b, hb, he⟩
 have he := of_decide_eq_true he
 have := pW (List.mem_range.1 hb) ht
 omega
theorem n7 (hr : y.cZ) : (cP (aR y c) (y.cells + 1) (gm (aR y c))).2.1 = false ↔ ∃ a, iV y c a := by
  have hi : g5 (aR y c) = true → xP (aR y c) (gm (aR y c)) := fun e => Hr (yU e)
  constructor
  · intro h; exact ⟨_, qH hr (xm (lf hr) hi h)⟩
  · rintro ⟨a, ha⟩
    cases e : (cP (aR y c) (y.cells + 1) (gm (aR y c))).2.1 with
    | false => rfl
    | true => exact absurd ⟨_, jI hr ha⟩ (JB (lf hr) hi e)
end
end Go.Proofs.YtelbollidfdcjaaGreat
namespace Go.Proofs.YtelbollidfdcjaaGreat
open Go Go.T
def mU (h : List Int → Bool) (many : Nat) : Nat → List Int → Nat → List Int → Bool × List Int
  | 0, _, _, o => (false, o)
  | d + 1, l, i, o =>
    if (if (l ++ [(i : Int)]).length = many then (h (l ++ [(i : Int)]), l ++ [(i : Int)]) else mU h many d (l ++ [(i : Int)]) (i + 1) o).1 = true then (if (l ++ [(i : Int)]).length = many then (h (l ++ [(i : Int)]), l ++ [(i : Int)]) else mU h many d (l ++ [(i : Int)]) (i + 1) o)
    else mU h many d l (i + 1) (if (l ++ [(i : Int)]).length = many then (h (l ++ [(i : Int)]), l ++ [(i : Int)]) else mU h many d (l ++ [(i : Int)]) (i + 1) o).2
def tv (h : List Int → Bool) (many lim : Nat) (l : List Int) (i : Nat) (o : List Int) : Bool × List Int := if l.length = many then (h l, l) else mU h many (lim - i) l i o
def AJ (many : Nat) : Nat → List Int → Nat → List (List Int)
  | 0, _, _ => []
  | d + 1, l, i => (if (l ++ [(i : Int)]).length = many then [l ++ [(i : Int)]] else AJ many d (l ++ [(i : Int)]) (i + 1)) ++ AJ many d l (i + 1)
def HA (many lim : Nat) : List (List Int) := if many = 0 then [[]] else AJ many lim [] 0
def lY (h : List Int → Bool) (lim : Nat) : Option (List Int) := ((List.range (lim + 1)).flatMap fun k => HA k lim).find? h
section
variable {h : List Int → Bool} {many lim d i k : Nat} {l o : List Int}
theorem BO (hi : i < lim) : mU h many (lim - i) l i o = if (tv h many lim (l ++ [(i : Int)]) (i + 1) o).1 = true then tv h many lim (l ++ [(i : Int)]) (i + 1) o else mU h many (lim - (i + 1)) l (i + 1) (tv h many lim (l ++ [(i : Int)]) (i + 1) o).2 := by
 rw [show lim - i = (lim - (i + 1)) + 1 by omega]; rfl
theorem JT (hi : ¬ i < lim) : mU h many (lim - i) l i o = (false, o) := by rw [show lim - i = 0 by omega]; rfl
theorem go_eq (e : l.length = many) : tv h many lim l i o = (h l, l) := if_pos e
theorem LB (e : ¬ l.length = many) : tv h many lim l i o = mU h many (lim - i) l i o := if_neg e
theorem zf : ∀ (d : Nat) (l : List Int) (i : Nat) (o : List Int), (mU h many d l i o).1 = (AJ many d l i).any h ∧ ((mU h many d l i o).1 = true → (AJ many d l i).find? h = some (mU h many d l i o).2)
  | 0, _, _, _ => ⟨rfl, fun e => by cases e⟩
  | d + 1, l, i, o => by
    have key : ∀ o, (if (l ++ [(i : Int)]).length = many then (h (l ++ [(i : Int)]), l ++ [(i : Int)]) else mU h many d (l ++ [(i : Int)]) (i + 1) o).1 = (if (l ++ [(i : Int)]).length = many then [l ++ [(i : Int)]] else AJ many d (l ++ [(i : Int)]) (i + 1)).any h ∧ ((if (l ++ [(i : Int)]).length = many then (h (l ++ [(i : Int)]), l ++ [(i : Int)]) else mU h many d (l ++ [(i : Int)]) (i + 1) o).1 = true → (if (l ++ [(i : Int)]).length = many then [l ++ [(i : Int)]] else AJ many d (l ++ [(i : Int)]) (i + 1)).find? h = some (if (l ++ [(i : Int)]).length = many then (h (l ++ [(i : Int)]), l ++ [(i : Int)]) else mU h many d (l ++ [(i : Int)]) (i + 1) o).2) := by
      intro o
      by_cases e : (l ++ [(i : Int)]).length = many
      · rw [if_pos e, if_pos e]
        refine ⟨by simp, fun h1 => ?_⟩
        have h1 : h (l ++ [(i : Int)]) = true := h1
        rw [List.find?_cons, h1]
      · rw [if_neg e, if_neg e]
        exact zf d _ _ o
    unfold mU AJ
    generalize (if (l ++ [(i : Int)]).length = many then [l ++ [(i : Int)]] else AJ many d (l ++ [(i : Int)]) (i + 1)) = C at key ⊢
    obtain ⟨k1, k2⟩ := key o
    generalize (if (l ++ [(i : Int)]).length = many then (h (l ++ [(i : Int)]), l ++ [(i : Int)]) else mU h many d (l ++ [(i : Int)]) (i + 1) o) = r at k1 k2 ⊢
    rw [List.any_append, List.find?_append]
    cases e : r.1 with
    | true =>
      rw [if_pos rfl]
      refine ⟨by rw [e, ← k1, e]; rfl, fun _ => by rw [k2 e]; rfl⟩
    | false =>
      rw [if_neg (by decide)]
      obtain ⟨j1, j2⟩ := zf d l (i + 1) r.2
      have hn : C.find? h = none := by
        rw [List.find?_eq_none]
        intro x hx h1
        have : C.any h = true := List.any_eq_true.2 ⟨x, hx, h1⟩
        rw [← k1, e] at this; cases this
      refine ⟨by rw [j1, ← k1, e, Bool.false_or], fun h1 => by rw [hn, j2 h1]; rfl⟩
theorem Ia : (tv h many lim [] 0 o).1 = (HA many lim).any h ∧ ((tv h many lim [] 0 o).1 = true → (HA many lim).find? h = some (tv h many lim [] 0 o).2) := by
 unfold tv HA
 by_cases e : many = 0
 ·rw [if_pos (show ([] : List Int).length = many from e.symm), if_pos e]
  refine ⟨by simp, fun h1 => ?_⟩
  have h1 : h [] = true := h1
  rw [List.find?_cons, h1]
 rw [if_neg (show ¬ ([] : List Int).length = many from fun h => e h.symm), if_neg e, Nat.sub_zero]
 exact zf _ _ _ _
theorem FU {C : List (List Int)} (h1 : C.any h = false) : C.find? h = none := by
 rw [List.find?_eq_none]
 intro x hx h2
 have : C.any h = true := List.any_eq_true.2 ⟨x, hx, h2⟩
 rw [h1] at this; cases this
def qh (h : List Int → Bool) (lim k : Nat) : Prop := ((List.range k).flatMap fun k => HA k lim).find? h = none
theorem E7 : qh h lim 0 := rfl
theorem Es (h0 : qh h lim k) (h1 : (tv h k lim [] 0 []).1 = false) : qh h lim (k + 1) := by
 unfold qh at h0 ⊢
 rw [List.range_succ, List.flatMap_append, List.find?_append, h0, List.flatMap_singleton, FU (by rw [← (Ia (o := [])).1, h1])]; rfl
theorem Cn (h0 : qh h lim k) (hk : k = lim + 1) : lY h lim = none := by subst hk; exact h0
theorem range_split {k n : Nat} (hk : k < n) : ∃ r, List.range n = List.range k ++ k :: r := by
 refine ⟨(List.range (n - k - 1)).map (fun x => k + 1 + x), ?_⟩
 rw [show List.range n = List.range (k + (1 + (n - k - 1))) by congr 1; omega, List.range_add, List.range_add, List.map_append]
 rw [List.map_map]
 congr 1
 show [k + 0] ++ _ = _
 rw [List.singleton_append, Nat.add_zero]
 congr 1
 refine List.map_congr_left fun x _ => ?_
 show k + (1 + x) = _; omega
theorem Cg (h0 : qh h lim k) (hk : k ≤ lim) (h1 : (tv h k lim [] 0 []).1 = true) : lY h lim = some (tv h k lim [] 0 []).2 := by
 unfold qh at h0
 unfold lY
 obtain ⟨r, hr⟩ := range_split (show k < lim + 1 by omega)
 rw [hr, List.flatMap_append, List.find?_append, h0, List.flatMap_cons, List.find?_append, Ia.2 h1]; rfl
end
end Go.Proofs.YtelbollidfdcjaaGreat
namespace Go.Proofs.YtelbollidfdcjaaGreat
open Go Go.T
set_option maxHeartbeats 16000000
structure xR (h : List Int → Bool) (many lim : Nat) (l : List Int) (i0 : Nat) (o0 : List Int) where
  i : Nat
  o : List Int
  ge : i0 ≤ i
  le : i ≤ lim
  same : mU h many (lim - i0) l i0 o0 = mU h many (lim - i) l i o
section
variable {h : List Int → Bool} {many lim i0 k : Nat} {l o0 : List Int}
theorem xR.nat (x : xR h many lim l i0 o0) (hi : (x.i : Int) < (lim : Int)) : x.i < lim := by omega
def xR.next (x : xR h many lim l i0 o0) (hi : (x.i : Int) < (lim : Int)) (hg : (tv h many lim (l ++ [(x.i : Int)]) (x.i + 1) x.o).1 = false) : xR h many lim l i0 o0 :=
  ⟨x.i + 1, (tv h many lim (l ++ [(x.i : Int)]) (x.i + 1) x.o).2, by have := x.ge; omega, by omega, by rw [x.same, BO (x.nat hi), if_neg (by rw [hg]; decide)]⟩
theorem xR.found (x : xR h many lim l i0 o0) (hm : ¬ l.length = many) (hi : (x.i : Int) < (lim : Int)) (hg : (tv h many lim (l ++ [(x.i : Int)]) (x.i + 1) x.o).1 = true) : tv h many lim l i0 o0 = tv h many lim (l ++ [(x.i : Int)]) (x.i + 1) x.o := by
 rw [LB hm, x.same, BO (x.nat hi), if_pos hg]
theorem xR.stop (x : xR h many lim l i0 o0) (hm : ¬ l.length = many) (hi : ¬ (x.i : Int) < (lim : Int)) : tv h many lim l i0 o0 = (false, x.o) := by
 rw [LB hm, x.same, JT (by omega)]
def Fu (h : List Int → Bool) (lim : Nat) : Bool := (lY h lim).isSome
def D4 (h : List Int → Bool) (lim : Nat) : List Int := (lY h lim).getD []
theorem I3 {k : Nat} (h0 : qh h lim k) (hk : k ≤ lim) (h1 : (tv h k lim [] 0 []).1 = true) : true = Fu h lim ∧ (tv h k lim [] 0 []).2 = D4 h lim := by
 unfold Fu D4; rw [Cg h0 hk h1]; exact ⟨rfl, rfl⟩
theorem LD {k : Nat} (h0 : qh h lim k) (hk : k ≤ lim + 1) (h1 : ¬ (k : Int) < (lim : Int) + 1) : false = Fu h lim ∧ [] = D4 h lim := by
 unfold Fu D4; rw [Cn h0 (by omega)]; exact ⟨rfl, rfl⟩
theorem EE (h : ((l.length : Nat) : Int) = (many : Nat)) : l.length = many := by omega
theorem GA (h : ¬ ((l.length : Nat) : Int) = (many : Nat)) : ¬ l.length = many := by omega
end
theorem p9 {ρ : List (Nat × Nat)} {th : Ty} {h1 : th.deps = []} {h2 : th.cdeps = []} {many lim a b : Nat} (e0 : (a, 1000) ∈ ρ) (e1 : (b, 1001) ∈ ρ) : mM ρ [Ty.jD 171 [Ty.pp [Ty.int .i64 (many : Nat)], Ty.ptr a 0, Ty.pp [Ty.nd th h1 h2], Ty.pp [Ty.int .i64 (lim : Nat)], Ty.ptr b 0]] [Ty.jD 171 [Ty.pp [Ty.int .i64 (many : Nat)], Ty.ptr 1000 0, Ty.pp [Ty.nd th h1 h2], Ty.pp [Ty.int .i64 (lim : Nat)], Ty.ptr 1001 0]] :=
 aN bW (tI (aN (aN (aN (aN (aN bW (j6 e1)) (aT rfl rfl)) (aT rfl rfl)) (j6 e0)) (aT rfl rfl)))
abbrev vE (th : Ty) (h1 : th.deps = []) (h2 : th.cdeps = []) (many lim : Nat) (o : List Int) : List (Nat × Cont) := [(1000, Cont.cells 28 [Ty.sl dD o]), (1001, Cont.cells 122 [Ty.jD 171 [Ty.pp [Ty.int .i64 (many : Nat)], Ty.ptr 1000 0, Ty.pp [Ty.nd th h1 h2], Ty.pp [Ty.int .i64 (lim : Nat)], Ty.ptr 1001 0]])]
theorem zm {A : As} {th : Ty} {h1 : th.deps = []} {h2 : th.cdeps = []} {many lim : Nat} {o o' : List Int} (e0 : A.tag 1000 = some (Cont.cells 28 [Ty.sl dD o])) (e1 : A.tag 1001 = some (Cont.cells 122 [Ty.jD 171 [Ty.pp [Ty.int .i64 (many : Nat)], Ty.ptr 1000 0, Ty.pp [Ty.nd th h1 h2], Ty.pp [Ty.int .i64 (lim : Nat)], Ty.ptr 1001 0]])) (e : o = o') : qY A [1000, 1001] (vE th h1 h2 many lim o') := by
 subst e; exact fM e0 (iX (by decide) (aN bW (aT rfl rfl))) (fM e1 (iX (by decide) (p9 (by decide) (by decide))) gR)
attribute [local irreducible] g6 fS m8 qg iZ iT ij ia ig qM iS qR dY gb qd gV qV nth fU dR av dK bodyPost Exit.then Exit.inBlock Code.wp Code.wpIn fR qb qX qT iw qW qc iY fC cT cU bodyPostM dr
attribute [local irreducible] tv mU
set_option maxRecDepth 100000 in
theorem AU (l : List Int) (h : l.length ≤ 1000) : fC Tryz.prog 172 [] [] [Ty.sl dD l] [] (Ty.row dD 3 6 l) := by
 refine fV Tryz.func172 rfl (by decide) Tryz.ntmps172 (by exact Nat.le_of_ble_eq_true rfl) fun w0 M0 => ?_
 refine aE (aA (kE rfl (aD (aB (aE (aE (aA (ej rfl (Dg Kw rfl ?_)))))))))
 refine aD (aB ?_)
 refine gx rfl (fun hc1 => ?_) (fun hc1 => ?_)
 ·
  refine aE (aA (kE rfl (aD (aB (ay (aQ ?_))))))
  refine iQ [6] rfl rfl (by decide) (by repeat (exact gR)) ?_
  all_goals skip
  all_goals (obtain rfl : l = [] := hc1; exact hU y7)
 refine aq (aB (aE (aA ?_)))
 refine wq (E := dD) rfl rfl rfl rfl ?_
 refine ej rfl ?_
 refine fI rfl rfl (by decide) rfl rfl rfl rfl rfl rfl (by decide) (by (simp <;> omega)) (by (simp <;> omega)) ?_
 refine AK rfl (aD (aB (ay ?_)))
 refine iQ [6] rfl rfl (by decide) (by repeat (exact gR)) ?_
 all_goals skip
 all_goals exact hU (DB (by decide))
set_option maxRecDepth 100000 in
theorem LP (th : Ty) (h1 : th.deps = []) (h2 : th.cdeps = []) (h : List Int → Bool) (hf : ∀ l, nT Tryz.prog (Ty.nd th h1 h2) [Ty.sl dD l] (Ty.bool (h l))) (many lim : Nat) (hmn : many ≤ 1000) (hlm : lim ≤ 1000) (d : Nat) (l : List Int) (i : Nat) (o : List Int) (hi : i ≤ lim) (hll : l.length ≤ many) (hd : lim - i < d) : fC Tryz.prog 171 [1000, 1001] (vE th h1 h2 many lim o) [Ty.row dD 3 1002 l, Ty.int .i64 (i : Nat), Ty.pp [Ty.int .i64 (many : Nat)], Ty.ptr 1000 0, Ty.pp [Ty.nd th h1 h2], Ty.pp [Ty.int .i64 (lim : Nat)], Ty.ptr 1001 0] (vE th h1 h2 many lim (tv h many lim l i o).2) (Ty.bool (tv h many lim l i o).1) := by
 induction d generalizing l i o
 case zero => exact absurd hd (by omega)
 rename_i d ih
 refine fV Tryz.func171 rfl (by decide) Tryz.ntmps171 (by exact Nat.le_of_ble_eq_true rfl) fun w0 M0 => ?_
 refine aE ?_
 refine jO (tg := 1002) [(0, Ty.sl dD l)] (by decide) rfl ⟨pZ rfl, trivial⟩ ?_
 refine aA (cj rfl (aD (aB (aE (aE (aA (ej rfl (b9 rfl rfl rfl (aG rfl rfl rfl rfl ?_)))))))))
 refine bC rfl rfl rfl (aD (aB ?_))
 refine az rfl (fun hc1 => ?_) (fun hc1 => ?_)
 ·
  refine aE (aA (ej rfl ?_))
  refine dF rfl rfl (by decide) rfl rfl (by exact (rfl : _ = Ty.sl _ _)) rfl (by exact Nat.le_of_ble_eq_true rfl) rfl rfl (by exact (rfl : _ = [_])) ?_
  refine aD (aB (aE (aA (aG rfl rfl rfl rfl (ej rfl (eI rfl (hf l) rfl (cj rfl (aD (aB ?_)))))))))
  refine ay (aQ ?_)
  refine iQ [1000, 1001] rfl rfl (by decide) ?_ ?_
  ·exact zm rfl rfl (congrArg Prod.snd (go_eq (EE hc1))).symm
  all_goals skip
  all_goals exact hU (oP rfl rfl (congrArg Ty.bool (congrArg Prod.fst (go_eq (EE hc1))).symm))
 refine aq (aB (aE (aE ?_)))
 have hlm2 := GA hc1
 refine aA (bI rfl (bk rfl (aD (aB (af ?_)))))
 refine cK (fun (x : xR h many lim l i o) => live [(0, Ty.sl dD l), (2, Ty.pp [Ty.int .i64 (many : Nat)]), (3, Ty.ptr 1000 0), (4, Ty.pp [Ty.nd th h1 h2]), (5, Ty.pp [Ty.int .i64 (lim : Nat)]), (6, Ty.ptr 1001 0), (10, Ty.int .i64 (x.i : Nat))] [(1000, Cont.cells 28 [Ty.sl dD x.o]), (1001, Cont.cells 122 [Ty.jD 171 [Ty.pp [Ty.int .i64 (many : Nat)], Ty.ptr 1000 0, Ty.pp [Ty.nd th h1 h2], Ty.pp [Ty.int .i64 (lim : Nat)], Ty.ptr 1001 0]])]) (fun x => lim - x.i) (⟨i, o, Nat.le_refl _, hi, rfl⟩) ?_ fun x => ?_
 ·(refine cv.mk' ?_ ?_ <;> (repeat' (first | exact aM | exact aL | refine aC ?_ (Ty.aV _) | refine aC ?_ (Ty.aF _) | refine aK rfl (Cont.aF _) ?_)))
 have hxl := x.le
 refine aE (aE (aA (bI rfl (aG rfl rfl rfl rfl (bC rfl rfl rfl (aD (aB ?_)))))))
 refine az rfl (fun hc2 => ?_) (fun hc2 => ?_)
 ·
  refine aq (aB (aE (af (aE (cN mixed rfl ?_)))))
  refine aX rfl rfl (by decide) rfl rfl rfl ?_
  refine ej rfl ?_
  refine dI (res' := Ty.row dD 3 27 l) [(27, 6)] [27] [] (AU l (by omega)) rfl rfl (by repeat (first | exact bW | refine aN ?_ ?_ | exact aT rfl rfl)) pre_nil post_nil (DB (by exact List.mem_cons_self)) ?_
  refine bI rfl ?_
  refine bg (E := dD) (xs := [(x.i : Int)]) rfl rfl rfl rfl rfl (by decide) (by decide) (by repeat (first | exact (aW.nil : aW _ _ [] _) | (show aW _ _ ((_, _) :: _) _; apply aW.one; (· exact (rfl : _ = Ty.int _ _)); (· exact rfl)))) (by exact rfl) rfl ?_
  refine fI rfl rfl (by decide) rfl rfl rfl rfl rfl rfl (by decide) (by (simp <;> omega)) (by (simp <;> omega)) ?_
  refine bI rfl ?_
  refine b8 rfl rfl (by omega) (by omega) ?_
  refine Bn [(1000, 1000), (1001, 1001), (27, 1002)] [27] (vE th h1 h2 many lim (tv h many lim (l ++ [(x.i : Int)]) (x.i + 1) x.o).2) rfl (ih (l ++ [(x.i : Int)]) (x.i + 1) x.o (by omega) (by rw [List.length_append]; show l.length + 1 ≤ many; omega) (by have := x.ge; omega)) rfl rfl (aN (aN (aN (aN (aN (aN (aN bW (j6 (by decide))) (aT rfl rfl)) (aT rfl rfl)) (j6 (by decide))) (aT rfl rfl)) (aT rfl rfl)) (DB (by decide))) (dN (a := 1000) (b := 1000) (by decide) rfl (iX (by decide) (aN bW (aT rfl rfl))) (dN (a := 1001) (b := 1001) (by decide) rfl (iX (by decide) (p9 (by decide) (by decide))) pre_nil)) (cA (a := 1000) (b := 1000) (by decide) rfl (iX (by decide) (aN bW (aT rfl rfl))) (cA (a := 1001) (b := 1001) (by decide) rfl (iX (by decide) (p9 (by decide) (by decide))) post_nil)) (aT rfl rfl) ?_
  refine aD ?_
  refine ⟨by kernel_rfl, ?_⟩
  refine aB ?_
  refine bt rfl (fun hc3 => ?_) (fun hc3 => ?_)
  ·
   refine aE (aA (cj rfl (aD (aB (ay (au (aQ (aQ (au ?_)))))))))
   refine aQ ?_
   refine iQ [1000, 1001] rfl rfl (by decide) ?_ ?_
   ·exact zm rfl rfl (congrArg Prod.snd (x.found hlm2 hc2 hc3)).symm
   all_goals skip
   all_goals exact hU (oP rfl rfl (congrArg Ty.bool (hc3.symm.trans (congrArg Prod.fst (x.found hlm2 hc2 hc3)).symm)))
  refine aq (bM (aB (aA (bI rfl ?_))))
  refine b8 rfl rfl (by omega) (by omega) ?_
  refine bk rfl (aD ?_)
  refine bO (x.next hc2 hc3) ?_ (by show lim - (x.i + 1) < lim - x.i; omega)
  (refine cv.mk' ?_ ?_ <;> (repeat' (first | exact aM | exact aL | refine aC ?_ (Ty.aV _) | refine aC ?_ (Ty.aF _) | refine aK rfl (Cont.aF _) ?_)))
  all_goals skip
 refine cI (aP (aP (aj rfl (aB (aE (aA (cj rfl (aD (aB ?_)))))))))
 refine ay ?_
 refine iQ [1000, 1001] rfl rfl (by decide) ?_ ?_
 ·exact zm rfl rfl (congrArg Prod.snd (x.stop hlm2 hc2)).symm
 all_goals skip
 all_goals exact hU (oP rfl rfl (congrArg Ty.bool (congrArg Prod.fst (x.stop hlm2 hc2)).symm))
set_option maxRecDepth 100000 in
theorem vP (th : Ty) (h1 : th.deps = []) (h2 : th.cdeps = []) (ho : th.one = true) (h : List Int → Bool) (hf : ∀ l, nT Tryz.prog (Ty.nd th h1 h2) [Ty.sl dD l] (Ty.bool (h l))) (lim : Nat) (hlm : lim ≤ 999) : dK Tryz.prog 113 [Ty.int .i64 (lim : Nat), Ty.nd th h1 h2] (Ty.kD [Ty.sl dD (D4 h lim), Ty.bool (Fu h lim)]) := by
 refine aa Tryz.func113 rfl (by decide) Tryz.ntmps113 (by exact Nat.le_of_ble_eq_true rfl) fun w0 M0 => ?_
 refine aE (aA ?_)
 refine gA (by exact (rfl : _ = Ty.int _ _)) rfl ?_
 refine gA (ty := Ty.nd th h1 h2) rfl ho ?_
 refine kE rfl (cj rfl (aD (aB (aE (aE (aA (aG rfl rfl rfl rfl ?_)))))))
 refine b8 rfl rfl (by omega) (by omega) ?_
 refine bI rfl (aD (aB (af ?_)))
 refine cK (fun (k : {k : Nat // k ≤ lim + 1 ∧ qh h lim k}) => live [(2, Ty.pp [Ty.int .i64 (lim : Nat)]), (3, Ty.pp [Ty.nd th h1 h2]), (10, Ty.int .i64 ((lim : Int) + 1)), (11, Ty.int .i64 (k.1 : Nat))] []) (fun k => lim + 1 - k.1) (⟨0, by omega, E7⟩) ?_ fun k => ?_
 ·(refine cv.mk' ?_ ?_ <;> (repeat' (first | exact aM | exact aL | refine aC ?_ (Ty.aV _) | refine aC ?_ (Ty.aF _))))
 have hk := k.2.1
 refine aE (aA (bC rfl rfl rfl (aD (aB (aE ?_)))))
 refine az rfl (fun hc1 => ?_) (fun hc1 => ?_)
 ·
  refine aq (aB (aE (af (aE (aA (bI rfl ?_))))))
  refine bu rfl (by exact List.cons_ne_nil _ _) rfl ?_
  refine dF rfl rfl (by decide) rfl rfl (by exact (rfl : _ = Ty.int _ _)) rfl (by exact Nat.le_of_ble_eq_true rfl) rfl rfl (by exact (rfl : _ = [_])) ?_
  refine aD (aB (aE ?_))
  refine jO (tg := 7) [(6, Ty.pp [Ty.int .i64 (k.1 : Nat)])] (by decide) rfl ⟨kC (T := 3) (off := 0) (l := [Ty.int .i64 (k.1 : Nat)]) rfl rfl rfl (by decide), trivial⟩ ?_
  refine aA ?_
  refine bu rfl (by exact List.cons_ne_nil _ _) rfl ?_
  refine aD (aB (aE (aA ?_)))
  refine bu rfl (by exact List.cons_ne_nil _ _) rfl ?_
  refine aD (aB (aE (aA (cw rfl ?_))))
  refine dF rfl rfl (by decide) rfl rfl (by exact (rfl : _ = Ty.jD _ _)) rfl (by exact Nat.le_of_ble_eq_true rfl) rfl rfl (by exact (rfl : _ = [_])) ?_
  refine aD (aB (aE ?_))
  refine g8 (tg := 8) rfl (Cont.j3 (l' := [Ty.sl dD ([] : List Int)]) ⟨Ty.tQ, trivial⟩) ?_
  refine aA ?_
  refine aX rfl rfl (by decide) rfl rfl rfl ?_
  refine Bn [(8, 1000), (9, 1001)] [] [(8, Cont.cells 28 [Ty.sl dD (tv h k.1 lim [] 0 []).2]), (9, Cont.cells 122 [Ty.jD 171 [Ty.pp [Ty.int .i64 (k.1 : Nat)], Ty.ptr 8 0, Ty.pp [Ty.nd th h1 h2], Ty.pp [Ty.int .i64 (lim : Nat)], Ty.ptr 9 0]])] rfl (LP th h1 h2 h hf k.1 lim (by omega) (by omega) (lim + 1) [] 0 [] (by omega) (Nat.zero_le _) (by omega)) rfl rfl (aN (aN (aN (aN (aN (aN (aN bW (j6 (by decide))) (aT rfl rfl)) (aT rfl rfl)) (j6 (by decide))) (aT rfl rfl)) (aT rfl rfl)) y7) (dN (a := 8) (b := 1000) (by decide) rfl (iX (by decide) (aN bW (aT rfl rfl))) (dN (a := 9) (b := 1001) (by decide) rfl (iX (by decide) (p9 (by decide) (by decide))) pre_nil)) (cA (a := 8) (b := 1000) (by decide) rfl (iX (by decide) (aN bW (aT rfl rfl))) (cA (a := 9) (b := 1001) (by decide) rfl (iX (by decide) (aN bW (tI (aN (aN (aN (aN (aN bW (j6 (by decide))) (aT rfl rfl)) (aT rfl rfl)) (j6 (by decide))) (aT rfl rfl))))) post_nil)) (aT rfl rfl) ?_
  refine aD (aB ?_)
  refine bt rfl (fun hc2 => ?_) (fun hc2 => ?_)
  ·
   refine aE (aA ?_)
   refine aX rfl rfl (by decide) rfl rfl rfl ?_
   refine xX rfl (cj rfl (aD (aB (ay (au (aQ (aQ (au (aQ ?_)))))))))
   refine eX rfl rfl rfl ?_ ?_
   all_goals skip
   all_goals first | exact ah rfl rfl (congrArg Ty.bool (I3 k.2.2 (by omega) hc2).1) | exact ah rfl rfl (congrArg (Ty.sl dD) (I3 k.2.2 (by omega) hc2).2)
  refine aq (bM (aB (aA ?_)))
  refine b8 rfl rfl (by omega) (by omega) ?_
  refine bI rfl (aD ?_)
  refine bO (⟨k.1 + 1, by omega, Es k.2.2 hc2⟩) ?_ (by show lim + 1 - (k.1 + 1) < lim + 1 - k.1; omega)
  (refine cv.mk' ?_ ?_ <;> (repeat' (first | exact aM | exact aL | refine aC ?_ (Ty.aV _) | refine aC ?_ (Ty.aF _))))
  all_goals skip
 refine cI (aP (aP (aj rfl (aB (aE (aA (kE rfl (cj rfl (aD ?_)))))))))
 refine aB (ay ?_)
 refine eX rfl rfl rfl ?_ ?_
 all_goals skip
 all_goals first | exact ah rfl rfl (congrArg Ty.bool (LD k.2.2 k.2.1 hc1).1) | exact fD (LD k.2.2 k.2.1 hc1).2.symm
end Go.Proofs.YtelbollidfdcjaaGreat
namespace Go.Proofs.YtelbollidfdcjaaGreat
open Go Go.T
set_option maxHeartbeats 16000000
theorem Cf {P : Program} {t : Ty} {h1 : t.deps = []} {h2 : t.cdeps = []} {args : List Ty} {res : Ty} (h : nT P t args res) : nT P (Ty.nd t h1 h2) args res := h
noncomputable def kU (y : bA) : Int := if bT y = 0 then (if Fu (fun l => !eN y (cQ l false)) y.levels.length = true then 0 else 6) else bT y
noncomputable def mO (y : bA) : List Int := if kU y = 0 then D4 (fun l => !eN y (cQ l false)) y.levels.length else []
theorem D3 {y : bA} (h : ¬ bT y = 0) : bT y = kU y ∧ [] = mO y := by
 have e : bT y = kU y := (if_neg h).symm
 exact ⟨e, by unfold mO; rw [← e, if_neg h]⟩
theorem EA {y : bA} (h : bT y = 0) (h2 : (!Fu (fun l => !eN y (cQ l false)) y.levels.length) = true) : 6 = kU y ∧ [] = mO y := by
 have e : 6 = kU y := by unfold kU; rw [if_pos h, if_neg (by rw [mq h2]; decide)]
 exact ⟨e, by unfold mO; rw [← e, if_neg (by decide)]⟩
theorem zo {y : bA} (h : bT y = 0) (h2 : (!Fu (fun l => !eN y (cQ l false)) y.levels.length) = false) : 0 = kU y ∧ D4 (fun l => !eN y (cQ l false)) y.levels.length = mO y := by
 have e : 0 = kU y := by unfold kU; rw [if_pos h, if_pos (e9 h2)]
 exact ⟨e, by unfold mO; rw [← e, if_pos rfl]⟩
noncomputable def kZ (y : bA) : Int := if bT y = 0 then (if Fu (fun l => eN y (cQ l true)) y.levels.length = true then 0 else 7) else bT y
noncomputable def mR (y : bA) : List Int := if kZ y = 0 then D4 (fun l => eN y (cQ l true)) y.levels.length else []
theorem Dt {y : bA} (h : ¬ bT y = 0) : bT y = kZ y ∧ [] = mR y := by
 have e : bT y = kZ y := (if_neg h).symm
 exact ⟨e, by unfold mR; rw [← e, if_neg h]⟩
theorem Dq {y : bA} (h : bT y = 0) (h2 : (!Fu (fun l => eN y (cQ l true)) y.levels.length) = true) : 7 = kZ y ∧ [] = mR y := by
 have e : 7 = kZ y := by unfold kZ; rw [if_pos h, if_neg (by rw [mq h2]; decide)]
 exact ⟨e, by unfold mR; rw [← e, if_neg (by decide)]⟩
theorem zk {y : bA} (h : bT y = 0) (h2 : (!Fu (fun l => eN y (cQ l true)) y.levels.length) = false) : 0 = kZ y ∧ D4 (fun l => eN y (cQ l true)) y.levels.length = mR y := by
 have e : 0 = kZ y := by unfold kZ; rw [if_pos h, if_pos (e9 h2)]
 exact ⟨e, by unfold mR; rw [← e, if_pos rfl]⟩
attribute [local irreducible] aR gm Way.gp Way.fin Way.room eK dZ eY gT over bH cM dP eJ jN ef gu kI cP gM fm fj cm cJ gS pK iR ir jF gX AY xy iB bA.kept bA.cells bT dz bZ gL kS cr oU qK kG jW kX nC hasB tK rM rF sq oT kW oK ke xL gU jR HE Fp sH eN cQ iH tv mU Fu D4 lY
attribute [local irreducible] g6 fS m8 qg iZ iT ij ia ig qM iS qR dY gb qd gV qV nth fU dR av dK bodyPost Exit.then Exit.inBlock Code.wp Code.wpIn fR qb qX qT iw qW qc iY fC cT cU bodyPostM dr
set_option maxRecDepth 100000 in
theorem HS (y : bA) (hr : y.cZ) (l : List Int) : dK Tryz.prog 114 [Ty.sl dD l, Ty.pp (bS y)] (Ty.bool ((fun l => !eN y (cQ l false)) l)) := by
 refine aa Tryz.func114 rfl (by decide) Tryz.ntmps114 (by exact Nat.le_of_ble_eq_true rfl) fun w0 M0 => ?_
 refine aE (aA (cj rfl (aD (aB (aE (aA ?_))))))
 refine aU rfl rfl rfl (by exact Nat.le_of_ble_eq_true rfl) ?_
 refine ej rfl (aZ (Bl y hr l false) rfl rfl rfl rfl rfl (dX rfl (cj rfl (aD (aB (ay (bJ rfl rfl ?_)))))))
 all_goals exact bY rfl rfl
 all_goals trace_state
set_option maxRecDepth 100000 in
theorem JQ (y : bA) (hs : y.Small) : dK Tryz.prog 44 [eB y] (Ty.kD [Ty.sl dD (mO y), Ty.int .i64 (kU y)]) := by
 refine aa Tryz.func44 rfl (by decide) Tryz.ntmps44 (by exact Nat.le_of_ble_eq_true rfl) fun w0 M0 => ?_
 refine aE (aA (bD rfl (kE rfl (bk rfl (aD (aB (aE (aE (aA ?_)))))))))
 refine aU rfl rfl rfl (by exact Nat.le_of_ble_eq_true rfl) ?_
 refine aZ (kF y hs) rfl rfl rfl rfl rfl (bk rfl (aD (aB (aE (aA (bI rfl (bC rfl rfl rfl (aD (aB ?_)))))))))
 refine bz rfl (fun hc1 => ?_) (fun hc1 => ?_)
 ·
  refine aE (aA (bI rfl (kE rfl (bk rfl (aD (aB (ay (aQ ?_))))))))
  refine eX rfl rfl rfl ?_ ?_
  all_goals skip
  all_goals first | exact fD (D3 hc1).2.symm | exact ah rfl rfl (congrArg (Ty.int .i64) (D3 hc1).1)
 refine aq (aB (aE ?_))
 have hck : bT y = 0 := hc1
 have hr := cy hck
 have h8 := hr.levels
 refine aA ?_
 refine aI rfl rfl rfl rfl rfl (by decide) ?_
 refine aG rfl rfl rfl rfl (b9 rfl rfl rfl (cw rfl ?_))
 refine aZ (vP (Ty.jD 114 [Ty.pp (bS y)]) rfl rfl rfl (fun l => !eN y (cQ l false)) (fun l => Cf (c9 (HS y hr l) rfl rfl rfl rfl rfl rfl)) y.levels.length (by omega)) rfl rfl rfl rfl rfl ?_
 refine sn rfl (bP rfl rfl (bP rfl rfl (xX rfl (cj rfl (aD (aB (aE (aE (aA ?_)))))))))
 refine e8 rfl (dX rfl (aD (aB ?_)))
 refine bt rfl (fun hc2 => ?_) (fun hc2 => ?_)
 ·
  refine aE (aA (kE rfl (bk rfl (aD (aB (ay (aQ ?_)))))))
  refine eX rfl rfl rfl ?_ ?_
  all_goals skip
  all_goals first | exact fD (EA hck hc2).2.symm | exact ah rfl rfl (congrArg (Ty.int .i64) (EA hck hc2).1)
 refine aq (aB (aE (aA (ej rfl (xX rfl (bk rfl (aD (aB (ay ?_)))))))))
 refine eX rfl rfl rfl ?_ ?_
 all_goals skip
 all_goals first | exact ah rfl rfl (congrArg (Ty.sl dD) (zo hck hc2).2) | exact ah rfl rfl (congrArg (Ty.int .i64) (zo hck hc2).1)
set_option maxRecDepth 100000 in
theorem IJ (y : bA) (hr : y.cZ) (l : List Int) : dK Tryz.prog 115 [Ty.sl dD l, Ty.pp (bS y)] (Ty.bool ((fun l => eN y (cQ l true)) l)) := by
 refine aa Tryz.func115 rfl (by decide) Tryz.ntmps115 (by exact Nat.le_of_ble_eq_true rfl) fun w0 M0 => ?_
 refine aE (aA (cj rfl (aD (aB (aE (aA ?_))))))
 refine aU rfl rfl rfl (by exact Nat.le_of_ble_eq_true rfl) ?_
 refine ej rfl (aZ (Bl y hr l true) rfl rfl rfl rfl rfl (cj rfl (aD (aB (ay (bJ rfl rfl ?_))))))
 all_goals exact bY rfl rfl
 all_goals trace_state
set_option maxRecDepth 100000 in
theorem JW (y : bA) (hs : y.Small) : dK Tryz.prog 45 [eB y] (Ty.kD [Ty.sl dD (mR y), Ty.int .i64 (kZ y)]) := by
 refine aa Tryz.func45 rfl (by decide) Tryz.ntmps45 (by exact Nat.le_of_ble_eq_true rfl) fun w0 M0 => ?_
 refine aE (aA (bD rfl (kE rfl (bk rfl (aD (aB (aE (aE (aA ?_)))))))))
 refine aU rfl rfl rfl (by exact Nat.le_of_ble_eq_true rfl) ?_
 refine aZ (kF y hs) rfl rfl rfl rfl rfl (bk rfl (aD (aB (aE (aA (bI rfl (bC rfl rfl rfl (aD (aB ?_)))))))))
 refine bz rfl (fun hc1 => ?_) (fun hc1 => ?_)
 ·
  refine aE (aA (bI rfl (kE rfl (bk rfl (aD (aB (ay (aQ ?_))))))))
  refine eX rfl rfl rfl ?_ ?_
  all_goals skip
  all_goals first | exact fD (Dt hc1).2.symm | exact ah rfl rfl (congrArg (Ty.int .i64) (Dt hc1).1)
 refine aq (aB (aE ?_))
 have hck : bT y = 0 := hc1
 have hr := cy hck
 have h8 := hr.levels
 refine aA ?_
 refine aI rfl rfl rfl rfl rfl (by decide) ?_
 refine aG rfl rfl rfl rfl (b9 rfl rfl rfl (cw rfl ?_))
 refine aZ (vP (Ty.jD 115 [Ty.pp (bS y)]) rfl rfl rfl (fun l => eN y (cQ l true)) (fun l => Cf (c9 (IJ y hr l) rfl rfl rfl rfl rfl rfl)) y.levels.length (by omega)) rfl rfl rfl rfl rfl ?_
 refine sn rfl (bP rfl rfl (bP rfl rfl (xX rfl (cj rfl (aD (aB (aE (aE (aA ?_)))))))))
 refine e8 rfl (dX rfl (aD (aB ?_)))
 refine bt rfl (fun hc2 => ?_) (fun hc2 => ?_)
 ·
  refine aE (aA (kE rfl (bk rfl (aD (aB (ay (aQ ?_)))))))
  refine eX rfl rfl rfl ?_ ?_
  all_goals skip
  all_goals first | exact fD (Dq hck hc2).2.symm | exact ah rfl rfl (congrArg (Ty.int .i64) (Dq hck hc2).1)
 refine aq (aB (aE (aA (ej rfl (xX rfl (bk rfl (aD (aB (ay ?_)))))))))
 refine eX rfl rfl rfl ?_ ?_
 all_goals skip
 all_goals first | exact ah rfl rfl (congrArg (Ty.sl dD) (zk hck hc2).2) | exact ah rfl rfl (congrArg (Ty.int .i64) (zk hck hc2).1)
end Go.Proofs.YtelbollidfdcjaaGreat
namespace Go.Proofs.YtelbollidfdcjaaGreat
open Go Go.T
theorem MP (a b c d : Int) (w : World) : (Op.equalIn 9999 37 (.agg #[.int .i64 a, .int .i64 b]) (.agg #[.int .i64 c, .int .i64 d])).run Tryz.prog w = .ok (decide (a = c) && decide (b = d)) w := by
 have hs : Tryz.prog.stoodInHeld 37 = false := by kernel_rfl
 have e3 : ∀ (x y : Int) (w : World), (Op.equalIn 9998 3 (.int .i64 x) (.int .i64 y)).run Tryz.prog w = .ok (decide (x = y)) w := fun x y w => mX 9997 Tryz.underlying3
 have g3 : ∀ w, (isAgg 3).run Tryz.prog w = .ok false w := fun w => by simp [isAgg, run_underlying Tryz.underlying3]
 rw [Op.equalIn]
 simp only [Sem.run_bind, run_underlying Tryz.underlying37, Result.andThen_ok]
 simp [hs, part, g3, e3]
 by_cases h0 : a = c <;> by_cases h1 : b = d <;> simp [h0, h1]
theorem IP (w : World) : (isAgg 37).run Tryz.prog w = .ok true w := by simp [isAgg, run_underlying Tryz.underlying37]
theorem Hw (w : World) : (sizeOf 37).run Tryz.prog w = .ok 2 w := by
 have h : (Tryz.prog.info? 37).map (·.size) = some 2 := by kernel_rfl
 obtain ⟨ti, h1, h2⟩ := Option.map_eq_some_iff.1 h
 simp [sizeOf, typeInfo, h1, h2]
theorem NK (a0 a1 a2 b0 b1 b2 : Int) (w : World) : (Op.equal 39 (.agg #[.int .i64 a0, .int .i64 a1, .int .i64 a2]) (.agg #[.int .i64 b0, .int .i64 b1, .int .i64 b2])).run Tryz.prog w = .ok (decide (a0 = b0) && (decide (a1 = b1) && decide (a2 = b2))) w := by
 have hs : Tryz.prog.stoodInHeld 39 = false := by kernel_rfl
 have e3 : ∀ (x y : Int) (w : World), (Op.equalIn 9999 3 (.int .i64 x) (.int .i64 y)).run Tryz.prog w = .ok (decide (x = y)) w := fun x y w => mX 9998 Tryz.underlying3
 have g3 : ∀ w, (isAgg 3).run Tryz.prog w = .ok false w := fun w => by simp [isAgg, run_underlying Tryz.underlying3]
 unfold Op.equal Op.maxDepth
 rw [Op.equalIn]
 simp only [Sem.run_bind, run_underlying Tryz.underlying39, Result.andThen_ok]
 simp [hs, part, g3, e3, IP, Hw, MP]
 by_cases h0 : a0 = b0
 case neg => simp [h0]
 cases hq : (decide (a1 = b1) && decide (a2 = b2)) <;> simp_all
theorem NH (a0 a1 a2 b0 b1 b2 : Int) : G7 Tryz.prog 39 [Ty.int .i64 a0, Ty.int .i64 a1, Ty.int .i64 a2] [Ty.int .i64 b0, Ty.int .i64 b1, Ty.int .i64 b2] (decide (a0 = b0) && (decide (a1 = b1) && decide (a2 = b2))) :=
  ⟨by kernel_rfl, fun w M cs ds h1 h2 => by
    obtain ⟨cs⟩ := cs
    obtain ⟨ds⟩ := ds
    match cs, ds, h1, h2 with
    | [u0, u1, u2], [v0, v1, v2], h1, h2 =>
      simp only [cB, Ty.int, g6, and_true] at h1 h2
      obtain ⟨rfl, rfl, rfl⟩ := h1
      obtain ⟨rfl, rfl, rfl⟩ := h2
      exact NK _ _ _ _ _ _ w⟩
theorem NG (a0 a1 a2 a3 a4 b0 b1 b2 b3 b4 : Int) (w : World) : (Op.equal 41 (.agg #[.int .i64 a0, .int .i64 a1, .int .i64 a2, .int .i64 a3, .int .i64 a4]) (.agg #[.int .i64 b0, .int .i64 b1, .int .i64 b2, .int .i64 b3, .int .i64 b4])).run Tryz.prog w = .ok (decide (a0 = b0) && (decide (a1 = b1) && (decide (a2 = b2) && (decide (a3 = b3) && decide (a4 = b4))))) w := by
 have hs : Tryz.prog.stoodInHeld 41 = false := by kernel_rfl
 have e3 : ∀ (x y : Int) (w : World), (Op.equalIn 9999 3 (.int .i64 x) (.int .i64 y)).run Tryz.prog w = .ok (decide (x = y)) w := fun x y w => mX 9998 Tryz.underlying3
 have g3 : ∀ w, (isAgg 3).run Tryz.prog w = .ok false w := fun w => by simp [isAgg, run_underlying Tryz.underlying3]
 unfold Op.equal Op.maxDepth
 rw [Op.equalIn]
 simp only [Sem.run_bind, run_underlying Tryz.underlying41, Result.andThen_ok]
 simp [hs, part, g3, e3, IP, Hw, MP]
 by_cases h0 : a0 = b0
 case neg => simp [h0]
 by_cases h1 : a1 = b1
 case neg => simp [h1]
 by_cases h2 : a2 = b2
 case neg => simp [h2]
 cases hq : (decide (a3 = b3) && decide (a4 = b4)) <;> simp_all
theorem NY (a0 a1 a2 a3 a4 b0 b1 b2 b3 b4 : Int) : G7 Tryz.prog 41 [Ty.int .i64 a0, Ty.int .i64 a1, Ty.int .i64 a2, Ty.int .i64 a3, Ty.int .i64 a4] [Ty.int .i64 b0, Ty.int .i64 b1, Ty.int .i64 b2, Ty.int .i64 b3, Ty.int .i64 b4] (decide (a0 = b0) && (decide (a1 = b1) && (decide (a2 = b2) && (decide (a3 = b3) && decide (a4 = b4))))) :=
  ⟨by kernel_rfl, fun w M cs ds h1 h2 => by
    obtain ⟨cs⟩ := cs
    obtain ⟨ds⟩ := ds
    match cs, ds, h1, h2 with
    | [u0, u1, u2, u3, u4], [v0, v1, v2, v3, v4], h1, h2 =>
      simp only [cB, Ty.int, g6, and_true] at h1 h2
      obtain ⟨rfl, rfl, rfl, rfl, rfl⟩ := h1
      obtain ⟨rfl, rfl, rfl, rfl, rfl⟩ := h2
      exact NG _ _ _ _ _ _ _ _ _ _ w⟩
theorem ML (a0 a1 a2 a3 b0 b1 b2 b3 : Int) (w : World) : (Op.equal 102 (.agg #[.int .i64 a0, .int .i64 a1, .int .i64 a2, .int .i64 a3]) (.agg #[.int .i64 b0, .int .i64 b1, .int .i64 b2, .int .i64 b3])).run Tryz.prog w = .ok (decide (a0 = b0) && (decide (a1 = b1) && (decide (a2 = b2) && decide (a3 = b3)))) w := by
 have hs : Tryz.prog.stoodInHeld 102 = false := by kernel_rfl
 have e3 : ∀ (x y : Int) (w : World), (Op.equalIn 9999 3 (.int .i64 x) (.int .i64 y)).run Tryz.prog w = .ok (decide (x = y)) w := fun x y w => mX 9998 Tryz.underlying3
 have g3 : ∀ w, (isAgg 3).run Tryz.prog w = .ok false w := fun w => by simp [isAgg, run_underlying Tryz.underlying3]
 unfold Op.equal Op.maxDepth
 rw [Op.equalIn]
 simp only [Sem.run_bind, run_underlying Tryz.underlying102, Result.andThen_ok]
 simp [hs, part, g3, e3, IP, Hw, MP]
 by_cases h0 : a0 = b0
 case neg => simp [h0]
 by_cases h1 : a1 = b1
 case neg => simp [h1]
 cases hq : (decide (a2 = b2) && decide (a3 = b3)) <;> simp_all
theorem LY (a0 a1 a2 a3 b0 b1 b2 b3 : Int) : G7 Tryz.prog 102 [Ty.int .i64 a0, Ty.int .i64 a1, Ty.int .i64 a2, Ty.int .i64 a3] [Ty.int .i64 b0, Ty.int .i64 b1, Ty.int .i64 b2, Ty.int .i64 b3] (decide (a0 = b0) && (decide (a1 = b1) && (decide (a2 = b2) && decide (a3 = b3)))) :=
  ⟨by kernel_rfl, fun w M cs ds h1 h2 => by
    obtain ⟨cs⟩ := cs
    obtain ⟨ds⟩ := ds
    match cs, ds, h1, h2 with
    | [u0, u1, u2, u3], [v0, v1, v2, v3], h1, h2 =>
      simp only [cB, Ty.int, g6, and_true] at h1 h2
      obtain ⟨rfl, rfl, rfl, rfl⟩ := h1
      obtain ⟨rfl, rfl, rfl, rfl⟩ := h2
      exact ML _ _ _ _ _ _ _ _ w⟩
theorem ve (a b : Span) : (decide (a.lo = b.lo) && decide (a.hi = b.hi)) = decide (a = b) := by
 cases a; cases b; rw [Bool.eq_iff_iff]; simp
theorem IB (a b : sU) : (decide (a.holds = b.holds) && (decide (a.first.lo = b.first.lo) && decide (a.first.hi = b.first.hi))) = decide (a = b) := by
 rw [ve]; cases a; cases b; rw [Bool.eq_iff_iff]; simp
theorem I7 (a b : Move) : (decide (a.day = b.day) && (decide (a.src = b.src) && (decide (a.dst = b.dst) && (decide (a.sacks.lo = b.sacks.lo) && decide (a.sacks.hi = b.sacks.hi))))) = decide (a = b) := by
 rw [ve]; cases a; cases b; rw [Bool.eq_iff_iff]; simp
theorem IL (a b : Level) : (decide (a.day = b.day) && (decide (a.bin = b.bin) && (decide (a.sacks.lo = b.sacks.lo) && decide (a.sacks.hi = b.sacks.hi)))) = decide (a = b) := by
 rw [ve]; cases a; cases b; rw [Bool.eq_iff_iff]; simp
end Go.Proofs.YtelbollidfdcjaaGreat
namespace Go.Proofs.YtelbollidfdcjaaGreat
open Go Go.T
set_option maxHeartbeats 2000000
attribute [local irreducible] g6 fS m8 qg iZ iT ij ia ig qM iS qR dY gb qd gV qV nth fU dR av dK bodyPost Exit.then Exit.inBlock Code.wp Code.wpIn fR qb qX qT iw qW qc iY fC cT cU bodyPostM dr
set_option maxRecDepth 100000 in
theorem pq (l : List Int) (h : l.length ≤ 1000) : dK Tryz.prog 39 [Ty.sl dD l] (Ty.sl dD l) := by
 refine aa Tryz.func39 rfl (by decide) Tryz.ntmps39 (by exact Nat.le_of_ble_eq_true rfl) fun w0 M0 => ?_
 refine aE (aA (kE rfl (aD (aB (aE (aA (ej rfl (b9 rfl rfl rfl ?_))))))))
 refine vC (E := dD) rfl rfl rfl rfl rfl rfl rfl (by decide) rfl (by omega) (by (dsimp only; omega)) (by omega) ?_
 refine ej rfl ?_
 refine fI rfl rfl (by decide) rfl rfl rfl rfl rfl rfl (by decide) (by (simp <;> omega)) (by (simp <;> omega)) ?_
 refine AK rfl (aD (aB (ay (bJ rfl rfl ?_))))
 all_goals exact jT (by decide)
set_option maxRecDepth 100000 in
theorem uQ (a b : List Int) : dK Tryz.prog 116 [Ty.sl dD a, Ty.sl dD b] (Ty.bool (decide (a = b))) := by
 refine aa Tryz.func116 rfl (by decide) Tryz.ntmps116 (by exact Nat.le_of_ble_eq_true rfl) fun w0 M0 => ?_
 refine gH (s := 0) rfl rfl gD fun ha => ?_
 refine gH (s := 1) rfl rfl gD fun hb => ?_
 refine aE (aA (cj rfl (aD (aB (aE (aE (aA (ej rfl (b9 rfl rfl rfl ?_)))))))))
 refine ej rfl (b9 rfl rfl rfl (bC rfl rfl rfl (aD (aB ?_))))
 refine bz rfl (fun hc1 => ?_) (fun hc1 => ?_)
 ·
  try (simp only [Classical.not_not] at hc1)
  refine aE (aA (cj rfl (aD (aB (ay (aQ (bJ rfl rfl ?_)))))))
  all_goals skip
  exact ah rfl rfl (congrArg Ty.bool (by rw [eq_comm, decide_eq_false_iff_not]; intro e; subst e; exact hc1 rfl))
 try (simp only [Classical.not_not] at hc1)
 refine aq (aB (aE (aE (aA (ej rfl (b9 rfl rfl rfl (bI rfl (aD (aB ?_)))))))))
 refine af ?_
 refine cK (fun (k : {k : Nat // a.take k = b.take k}) => live [(0, Ty.sl dD a), (1, Ty.sl dD b), (12, Ty.int .i64 a.length), (13, Ty.int .i64 (k.1 : Nat))] []) (fun k => a.length - k.1) (⟨0, by simp⟩) ?_ fun k => ?_
 ·(refine cv.mk' ?_ ?_ <;> (repeat' (first | exact aM | exact aL | refine aC ?_ (Ty.aV _) | refine aC ?_ (Ty.aF _))))
 have hlen : a.length = b.length := by omega
 refine aE (aA (bC rfl rfl rfl (aD (aB (aE ?_)))))
 refine az rfl (fun hc2 => ?_) (fun hc2 => ?_)
 ·
  try (simp only [Classical.not_not] at hc2)
  refine aq (aB (aE (af (aE (aA (bI rfl (bk rfl (aD (aB ?_)))))))))
  refine aE (cN mixed rfl (ej rfl (bI rfl ?_)))
  refine ak rfl rfl rfl rfl rfl rfl (by omega) ?_
  refine aG rfl rfl rfl rfl (ej rfl (bI rfl ?_))
  refine ak rfl rfl rfl rfl rfl rfl (by omega) ?_
  refine aG rfl rfl rfl rfl (bC rfl rfl rfl (aD ?_))
  refine ⟨by kernel_rfl, ?_⟩
  refine aB ?_
  refine bz rfl (fun hc3 => ?_) (fun hc3 => ?_)
  ·
   try (simp only [Classical.not_not] at hc3)
   refine aE (aA (cj rfl (aD (aB (ay (au (aQ (aQ (au ?_)))))))))
   refine aQ (bJ rfl rfl ?_)
   all_goals skip
   exact ah rfl rfl (congrArg Ty.bool (by rw [eq_comm, decide_eq_false_iff_not]; exact lI (k := k.1) (hc3)))
  try (simp only [Classical.not_not] at hc3)
  refine aq (bM (aB (aA ?_)))
  refine b8 rfl rfl (by omega) (by omega) ?_
  refine bI rfl (aD ?_)
  refine bO (⟨k.1 + 1, by rw [cS (by omega), cS (by omega), k.2, hc3]⟩) ?_ (by show a.length - (k.1 + 1) < a.length - k.1; omega)
  (refine cv.mk' ?_ ?_ <;> (repeat' (first | exact aM | exact aL | refine aC ?_ (Ty.aV _) | refine aC ?_ (Ty.aF _))))
  all_goals skip
 try (simp only [Classical.not_not] at hc2)
 refine cI (aP (aP (aj rfl (aB (aE (aA (cj rfl (aD (aB ?_)))))))))
 refine ay (bJ rfl rfl ?_)
 all_goals skip
 exact ah rfl rfl (congrArg Ty.bool (by rw [eq_comm, decide_eq_true_eq]; have := k.2; rwa [List.take_of_length_le (by omega), List.take_of_length_le (by omega)] at this))
set_option maxRecDepth 100000 in
theorem sJ (a b : List Int) : dK Tryz.prog 46 [Ty.sl dD a, Ty.sl dD b] (Ty.bool (decide (a = b))) := by
 refine aa Tryz.func46 rfl (by decide) Tryz.ntmps46 (by exact Nat.le_of_ble_eq_true rfl) fun w0 M0 => ?_
 refine aE (aA (cj rfl (aD (aB (aE (aA (ej rfl (ej rfl (aZ (uQ _ _) rfl rfl rfl rfl rfl ?_)))))))))
 refine cj rfl (aD (aB (ay (bJ rfl rfl ?_))))
 all_goals exact bY rfl rfl
set_option maxRecDepth 100000 in
theorem Aq (a b : List Span) : dK Tryz.prog 123 [Ty.sl dS a, Ty.sl dS b] (Ty.bool (decide (a = b))) := by
 refine aa Tryz.func123 rfl (by decide) Tryz.ntmps123 (by exact Nat.le_of_ble_eq_true rfl) fun w0 M0 => ?_
 refine gH (s := 0) rfl rfl gD fun ha => ?_
 refine gH (s := 1) rfl rfl gD fun hb => ?_
 refine aE (aA (cj rfl (aD (aB (aE (aE (aA (ej rfl (b9 rfl rfl rfl ?_)))))))))
 refine ej rfl (b9 rfl rfl rfl (bC rfl rfl rfl (aD (aB ?_))))
 refine bz rfl (fun hc1 => ?_) (fun hc1 => ?_)
 ·
  try (simp only [Classical.not_not] at hc1)
  refine aE (aA (cj rfl (aD (aB (ay (aQ (bJ rfl rfl ?_)))))))
  all_goals skip
  exact ah rfl rfl (congrArg Ty.bool (by rw [eq_comm, decide_eq_false_iff_not]; intro e; subst e; exact hc1 rfl))
 try (simp only [Classical.not_not] at hc1)
 refine aq (aB (aE (aE (aA (ej rfl (b9 rfl rfl rfl (bI rfl (aD (aB ?_)))))))))
 refine af ?_
 refine cK (fun (k : {k : Nat // a.take k = b.take k}) => live [(0, Ty.sl dS a), (1, Ty.sl dS b), (12, Ty.int .i64 a.length), (13, Ty.int .i64 (k.1 : Nat))] []) (fun k => a.length - k.1) (⟨0, by simp⟩) ?_ fun k => ?_
 ·(refine cv.mk' ?_ ?_ <;> (repeat' (first | exact aM | exact aL | refine aC ?_ (Ty.aV _) | refine aC ?_ (Ty.aF _))))
 have hlen : a.length = b.length := by omega
 refine aE (aA (bC rfl rfl rfl (aD (aB (aE ?_)))))
 refine az rfl (fun hc2 => ?_) (fun hc2 => ?_)
 ·
  try (simp only [Classical.not_not] at hc2)
  refine aq (aB (aE (af (aE (aA (bI rfl (bk rfl (aD (aB ?_)))))))))
  refine aE (cN mixed rfl (ej rfl (bI rfl ?_)))
  refine ak rfl rfl rfl rfl rfl rfl (by omega) ?_
  refine aU rfl rfl rfl (by exact Nat.le_of_ble_eq_true rfl) ?_
  refine ej rfl (bI rfl ?_)
  refine ak rfl rfl rfl rfl rfl rfl (by omega) ?_
  refine aU rfl rfl rfl (by exact Nat.le_of_ble_eq_true rfl) ?_
  refine r7 (Kn _ _ _ _) rfl rfl (aD ?_)
  refine ⟨by kernel_rfl, ?_⟩
  refine aB ?_
  refine bt rfl (fun hc3 => ?_) (fun hc3 => ?_)
  ·
   try (simp only [Classical.not_not] at hc3)
   refine aE (aA (cj rfl (aD (aB (ay (au (aQ (aQ (au ?_)))))))))
   refine aQ (bJ rfl rfl ?_)
   all_goals skip
   exact ah rfl rfl (congrArg Ty.bool (by rw [eq_comm, decide_eq_false_iff_not]; exact lI (k := k.1) (of_decide_eq_false (by rw [← ve]; exact mq hc3))))
  try (simp only [Classical.not_not] at hc3)
  refine aq (bM (aB (aA ?_)))
  refine b8 rfl rfl (by omega) (by omega) ?_
  refine bI rfl (aD ?_)
  refine bO (⟨k.1 + 1, by have e : nth a k.1 = nth b k.1 := of_decide_eq_true (by rw [← ve]; exact e9 hc3); rw [cS (by omega), cS (by omega), k.2, e]⟩) ?_ (by show a.length - (k.1 + 1) < a.length - k.1; omega)
  (refine cv.mk' ?_ ?_ <;> (repeat' (first | exact aM | exact aL | refine aC ?_ (Ty.aV _) | refine aC ?_ (Ty.aF _))))
  all_goals skip
 try (simp only [Classical.not_not] at hc2)
 refine cI (aP (aP (aj rfl (aB (aE (aA (cj rfl (aD (aB ?_)))))))))
 refine ay (bJ rfl rfl ?_)
 all_goals skip
 exact ah rfl rfl (congrArg Ty.bool (by rw [eq_comm, decide_eq_true_eq]; have := k.2; rwa [List.take_of_length_le (by omega), List.take_of_length_le (by omega)] at this))
set_option maxRecDepth 100000 in
theorem BP (a b : List Span) : dK Tryz.prog 50 [Ty.sl dS a, Ty.sl dS b] (Ty.bool (decide (a = b))) := by
 refine aa Tryz.func50 rfl (by decide) Tryz.ntmps50 (by exact Nat.le_of_ble_eq_true rfl) fun w0 M0 => ?_
 refine aE (aA (cj rfl (aD (aB (aE (aA (ej rfl (ej rfl (aZ (Aq _ _) rfl rfl rfl rfl rfl ?_)))))))))
 refine cj rfl (aD (aB (ay (bJ rfl rfl ?_))))
 all_goals exact bY rfl rfl
set_option maxRecDepth 100000 in
theorem EX (l : List sU) (h : l.length ≤ 1000) : dK Tryz.prog 19 [Ty.sl fJ l] (Ty.sl fJ l) := by
 refine aa Tryz.func19 rfl (by decide) Tryz.ntmps19 (by exact Nat.le_of_ble_eq_true rfl) fun w0 M0 => ?_
 refine aE (aA (kE rfl (aD (aB (aE (aA (ej rfl (b9 rfl rfl rfl ?_))))))))
 refine vC (E := fJ) rfl rfl rfl rfl rfl rfl rfl (by decide) rfl (by omega) (by (dsimp only; omega)) (by omega) ?_
 refine ej rfl ?_
 refine fI rfl rfl (by decide) rfl rfl rfl rfl rfl rfl (by decide) (by (simp <;> omega)) (by (simp <;> omega)) ?_
 refine AK rfl (aD (aB (ay (bJ rfl rfl ?_))))
 all_goals exact jT (by decide)
set_option maxRecDepth 100000 in
theorem BE (a b : List sU) : dK Tryz.prog 167 [Ty.sl fJ a, Ty.sl fJ b] (Ty.bool (decide (a = b))) := by
 refine aa Tryz.func167 rfl (by decide) Tryz.ntmps167 (by exact Nat.le_of_ble_eq_true rfl) fun w0 M0 => ?_
 refine gH (s := 0) rfl rfl gD fun ha => ?_
 refine gH (s := 1) rfl rfl gD fun hb => ?_
 refine aE (aA (cj rfl (aD (aB (aE (aE (aA (ej rfl (b9 rfl rfl rfl ?_)))))))))
 refine ej rfl (b9 rfl rfl rfl (bC rfl rfl rfl (aD (aB ?_))))
 refine bz rfl (fun hc1 => ?_) (fun hc1 => ?_)
 ·
  try (simp only [Classical.not_not] at hc1)
  refine aE (aA (cj rfl (aD (aB (ay (aQ (bJ rfl rfl ?_)))))))
  all_goals skip
  exact ah rfl rfl (congrArg Ty.bool (by rw [eq_comm, decide_eq_false_iff_not]; intro e; subst e; exact hc1 rfl))
 try (simp only [Classical.not_not] at hc1)
 refine aq (aB (aE (aE (aA (ej rfl (b9 rfl rfl rfl (bI rfl (aD (aB ?_)))))))))
 refine af ?_
 refine cK (fun (k : {k : Nat // a.take k = b.take k}) => live [(0, Ty.sl fJ a), (1, Ty.sl fJ b), (12, Ty.int .i64 a.length), (13, Ty.int .i64 (k.1 : Nat))] []) (fun k => a.length - k.1) (⟨0, by simp⟩) ?_ fun k => ?_
 ·(refine cv.mk' ?_ ?_ <;> (repeat' (first | exact aM | exact aL | refine aC ?_ (Ty.aV _) | refine aC ?_ (Ty.aF _))))
 have hlen : a.length = b.length := by omega
 refine aE (aA (bC rfl rfl rfl (aD (aB (aE ?_)))))
 refine az rfl (fun hc2 => ?_) (fun hc2 => ?_)
 ·
  try (simp only [Classical.not_not] at hc2)
  refine aq (aB (aE (af (aE (aA (bI rfl (bk rfl (aD (aB ?_)))))))))
  refine aE (cN mixed rfl (ej rfl (bI rfl ?_)))
  refine ak rfl rfl rfl rfl rfl rfl (by omega) ?_
  refine aU rfl rfl rfl (by exact Nat.le_of_ble_eq_true rfl) ?_
  refine ej rfl (bI rfl ?_)
  refine ak rfl rfl rfl rfl rfl rfl (by omega) ?_
  refine aU rfl rfl rfl (by exact Nat.le_of_ble_eq_true rfl) ?_
  refine r7 (NH _ _ _ _ _ _) rfl rfl (aD ?_)
  refine ⟨by kernel_rfl, ?_⟩
  refine aB ?_
  refine bt rfl (fun hc3 => ?_) (fun hc3 => ?_)
  ·
   try (simp only [Classical.not_not] at hc3)
   refine aE (aA (cj rfl (aD (aB (ay (au (aQ (aQ (au ?_)))))))))
   refine aQ (bJ rfl rfl ?_)
   all_goals skip
   exact ah rfl rfl (congrArg Ty.bool (by rw [eq_comm, decide_eq_false_iff_not]; exact lI (k := k.1) (of_decide_eq_false (by rw [← IB]; exact mq hc3))))
  try (simp only [Classical.not_not] at hc3)
  refine aq (bM (aB (aA ?_)))
  refine b8 rfl rfl (by omega) (by omega) ?_
  refine bI rfl (aD ?_)
  refine bO (⟨k.1 + 1, by have e : nth a k.1 = nth b k.1 := of_decide_eq_true (by rw [← IB]; exact e9 hc3); rw [cS (by omega), cS (by omega), k.2, e]⟩) ?_ (by show a.length - (k.1 + 1) < a.length - k.1; omega)
  (refine cv.mk' ?_ ?_ <;> (repeat' (first | exact aM | exact aL | refine aC ?_ (Ty.aV _) | refine aC ?_ (Ty.aF _))))
  all_goals skip
 try (simp only [Classical.not_not] at hc2)
 refine cI (aP (aP (aj rfl (aB (aE (aA (cj rfl (aD (aB ?_)))))))))
 refine ay (bJ rfl rfl ?_)
 all_goals skip
 exact ah rfl rfl (congrArg Ty.bool (by rw [eq_comm, decide_eq_true_eq]; have := k.2; rwa [List.take_of_length_le (by omega), List.take_of_length_le (by omega)] at this))
set_option maxRecDepth 100000 in
theorem G9 (a b : List sU) : dK Tryz.prog 103 [Ty.sl fJ a, Ty.sl fJ b] (Ty.bool (decide (a = b))) := by
 refine aa Tryz.func103 rfl (by decide) Tryz.ntmps103 (by exact Nat.le_of_ble_eq_true rfl) fun w0 M0 => ?_
 refine aE (aA (cj rfl (aD (aB (aE (aA (ej rfl (ej rfl (aZ (BE _ _) rfl rfl rfl rfl rfl ?_)))))))))
 refine cj rfl (aD (aB (ay (bJ rfl rfl ?_))))
 all_goals exact bY rfl rfl
set_option maxRecDepth 100000 in
theorem FN (l : List Move) (h : l.length ≤ 1000) : dK Tryz.prog 95 [Ty.sl eF l] (Ty.sl eF l) := by
 refine aa Tryz.func95 rfl (by decide) Tryz.ntmps95 (by exact Nat.le_of_ble_eq_true rfl) fun w0 M0 => ?_
 refine aE (aA (kE rfl (aD (aB (aE (aA (ej rfl (b9 rfl rfl rfl ?_))))))))
 refine vC (E := eF) rfl rfl rfl rfl rfl rfl rfl (by decide) rfl (by omega) (by (dsimp only; omega)) (by omega) ?_
 refine ej rfl ?_
 refine fI rfl rfl (by decide) rfl rfl rfl rfl rfl rfl (by decide) (by (simp <;> omega)) (by (simp <;> omega)) ?_
 refine AK rfl (aD (aB (ay (bJ rfl rfl ?_))))
 all_goals exact jT (by decide)
set_option maxRecDepth 100000 in
theorem B6 (a b : List Move) : dK Tryz.prog 168 [Ty.sl eF a, Ty.sl eF b] (Ty.bool (decide (a = b))) := by
 refine aa Tryz.func168 rfl (by decide) Tryz.ntmps168 (by exact Nat.le_of_ble_eq_true rfl) fun w0 M0 => ?_
 refine gH (s := 0) rfl rfl gD fun ha => ?_
 refine gH (s := 1) rfl rfl gD fun hb => ?_
 refine aE (aA (cj rfl (aD (aB (aE (aE (aA (ej rfl (b9 rfl rfl rfl ?_)))))))))
 refine ej rfl (b9 rfl rfl rfl (bC rfl rfl rfl (aD (aB ?_))))
 refine bz rfl (fun hc1 => ?_) (fun hc1 => ?_)
 ·
  try (simp only [Classical.not_not] at hc1)
  refine aE (aA (cj rfl (aD (aB (ay (aQ (bJ rfl rfl ?_)))))))
  all_goals skip
  exact ah rfl rfl (congrArg Ty.bool (by rw [eq_comm, decide_eq_false_iff_not]; intro e; subst e; exact hc1 rfl))
 try (simp only [Classical.not_not] at hc1)
 refine aq (aB (aE (aE (aA (ej rfl (b9 rfl rfl rfl (bI rfl (aD (aB ?_)))))))))
 refine af ?_
 refine cK (fun (k : {k : Nat // a.take k = b.take k}) => live [(0, Ty.sl eF a), (1, Ty.sl eF b), (12, Ty.int .i64 a.length), (13, Ty.int .i64 (k.1 : Nat))] []) (fun k => a.length - k.1) (⟨0, by simp⟩) ?_ fun k => ?_
 ·(refine cv.mk' ?_ ?_ <;> (repeat' (first | exact aM | exact aL | refine aC ?_ (Ty.aV _) | refine aC ?_ (Ty.aF _))))
 have hlen : a.length = b.length := by omega
 refine aE (aA (bC rfl rfl rfl (aD (aB (aE ?_)))))
 refine az rfl (fun hc2 => ?_) (fun hc2 => ?_)
 ·
  try (simp only [Classical.not_not] at hc2)
  refine aq (aB (aE (af (aE (aA (bI rfl (bk rfl (aD (aB ?_)))))))))
  refine aE (cN mixed rfl (ej rfl (bI rfl ?_)))
  refine ak rfl rfl rfl rfl rfl rfl (by omega) ?_
  refine aU rfl rfl rfl (by exact Nat.le_of_ble_eq_true rfl) ?_
  refine ej rfl (bI rfl ?_)
  refine ak rfl rfl rfl rfl rfl rfl (by omega) ?_
  refine aU rfl rfl rfl (by exact Nat.le_of_ble_eq_true rfl) ?_
  refine r7 (NY _ _ _ _ _ _ _ _ _ _) rfl rfl (aD ?_)
  refine ⟨by kernel_rfl, ?_⟩
  refine aB ?_
  refine bt rfl (fun hc3 => ?_) (fun hc3 => ?_)
  ·
   try (simp only [Classical.not_not] at hc3)
   refine aE (aA (cj rfl (aD (aB (ay (au (aQ (aQ (au ?_)))))))))
   refine aQ (bJ rfl rfl ?_)
   all_goals skip
   exact ah rfl rfl (congrArg Ty.bool (by rw [eq_comm, decide_eq_false_iff_not]; exact lI (k := k.1) (of_decide_eq_false (by rw [← I7]; exact mq hc3))))
  try (simp only [Classical.not_not] at hc3)
  refine aq (bM (aB (aA ?_)))
  refine b8 rfl rfl (by omega) (by omega) ?_
  refine bI rfl (aD ?_)
  refine bO (⟨k.1 + 1, by have e : nth a k.1 = nth b k.1 := of_decide_eq_true (by rw [← I7]; exact e9 hc3); rw [cS (by omega), cS (by omega), k.2, e]⟩) ?_ (by show a.length - (k.1 + 1) < a.length - k.1; omega)
  (refine cv.mk' ?_ ?_ <;> (repeat' (first | exact aM | exact aL | refine aC ?_ (Ty.aV _) | refine aC ?_ (Ty.aF _))))
  all_goals skip
 try (simp only [Classical.not_not] at hc2)
 refine cI (aP (aP (aj rfl (aB (aE (aA (cj rfl (aD (aB ?_)))))))))
 refine ay (bJ rfl rfl ?_)
 all_goals skip
 exact ah rfl rfl (congrArg Ty.bool (by rw [eq_comm, decide_eq_true_eq]; have := k.2; rwa [List.take_of_length_le (by omega), List.take_of_length_le (by omega)] at this))
set_option maxRecDepth 100000 in
theorem IS (a b : List Move) : dK Tryz.prog 104 [Ty.sl eF a, Ty.sl eF b] (Ty.bool (decide (a = b))) := by
 refine aa Tryz.func104 rfl (by decide) Tryz.ntmps104 (by exact Nat.le_of_ble_eq_true rfl) fun w0 M0 => ?_
 refine aE (aA (cj rfl (aD (aB (aE (aA (ej rfl (ej rfl (aZ (B6 _ _) rfl rfl rfl rfl rfl ?_)))))))))
 refine cj rfl (aD (aB (ay (bJ rfl rfl ?_))))
 all_goals exact bY rfl rfl
set_option maxRecDepth 100000 in
theorem Em (l : List Level) (h : l.length ≤ 1000) : dK Tryz.prog 96 [Ty.sl dU l] (Ty.sl dU l) := by
 refine aa Tryz.func96 rfl (by decide) Tryz.ntmps96 (by exact Nat.le_of_ble_eq_true rfl) fun w0 M0 => ?_
 refine aE (aA (kE rfl (aD (aB (aE (aA (ej rfl (b9 rfl rfl rfl ?_))))))))
 refine vC (E := dU) rfl rfl rfl rfl rfl rfl rfl (by decide) rfl (by omega) (by (dsimp only; omega)) (by omega) ?_
 refine ej rfl ?_
 refine fI rfl rfl (by decide) rfl rfl rfl rfl rfl rfl (by decide) (by (simp <;> omega)) (by (simp <;> omega)) ?_
 refine AK rfl (aD (aB (ay (bJ rfl rfl ?_))))
 all_goals exact jT (by decide)
set_option maxRecDepth 100000 in
theorem Ao (a b : List Level) : dK Tryz.prog 169 [Ty.sl dU a, Ty.sl dU b] (Ty.bool (decide (a = b))) := by
 refine aa Tryz.func169 rfl (by decide) Tryz.ntmps169 (by exact Nat.le_of_ble_eq_true rfl) fun w0 M0 => ?_
 refine gH (s := 0) rfl rfl gD fun ha => ?_
 refine gH (s := 1) rfl rfl gD fun hb => ?_
 refine aE (aA (cj rfl (aD (aB (aE (aE (aA (ej rfl (b9 rfl rfl rfl ?_)))))))))
 refine ej rfl (b9 rfl rfl rfl (bC rfl rfl rfl (aD (aB ?_))))
 refine bz rfl (fun hc1 => ?_) (fun hc1 => ?_)
 ·
  try (simp only [Classical.not_not] at hc1)
  refine aE (aA (cj rfl (aD (aB (ay (aQ (bJ rfl rfl ?_)))))))
  all_goals skip
  exact ah rfl rfl (congrArg Ty.bool (by rw [eq_comm, decide_eq_false_iff_not]; intro e; subst e; exact hc1 rfl))
 try (simp only [Classical.not_not] at hc1)
 refine aq (aB (aE (aE (aA (ej rfl (b9 rfl rfl rfl (bI rfl (aD (aB ?_)))))))))
 refine af ?_
 refine cK (fun (k : {k : Nat // a.take k = b.take k}) => live [(0, Ty.sl dU a), (1, Ty.sl dU b), (12, Ty.int .i64 a.length), (13, Ty.int .i64 (k.1 : Nat))] []) (fun k => a.length - k.1) (⟨0, by simp⟩) ?_ fun k => ?_
 ·(refine cv.mk' ?_ ?_ <;> (repeat' (first | exact aM | exact aL | refine aC ?_ (Ty.aV _) | refine aC ?_ (Ty.aF _))))
 have hlen : a.length = b.length := by omega
 refine aE (aA (bC rfl rfl rfl (aD (aB (aE ?_)))))
 refine az rfl (fun hc2 => ?_) (fun hc2 => ?_)
 ·
  try (simp only [Classical.not_not] at hc2)
  refine aq (aB (aE (af (aE (aA (bI rfl (bk rfl (aD (aB ?_)))))))))
  refine aE (cN mixed rfl (ej rfl (bI rfl ?_)))
  refine ak rfl rfl rfl rfl rfl rfl (by omega) ?_
  refine aU rfl rfl rfl (by exact Nat.le_of_ble_eq_true rfl) ?_
  refine ej rfl (bI rfl ?_)
  refine ak rfl rfl rfl rfl rfl rfl (by omega) ?_
  refine aU rfl rfl rfl (by exact Nat.le_of_ble_eq_true rfl) ?_
  refine r7 (LY _ _ _ _ _ _ _ _) rfl rfl (aD ?_)
  refine ⟨by kernel_rfl, ?_⟩
  refine aB ?_
  refine bt rfl (fun hc3 => ?_) (fun hc3 => ?_)
  ·
   try (simp only [Classical.not_not] at hc3)
   refine aE (aA (cj rfl (aD (aB (ay (au (aQ (aQ (au ?_)))))))))
   refine aQ (bJ rfl rfl ?_)
   all_goals skip
   exact ah rfl rfl (congrArg Ty.bool (by rw [eq_comm, decide_eq_false_iff_not]; exact lI (k := k.1) (of_decide_eq_false (by rw [← IL]; exact mq hc3))))
  try (simp only [Classical.not_not] at hc3)
  refine aq (bM (aB (aA ?_)))
  refine b8 rfl rfl (by omega) (by omega) ?_
  refine bI rfl (aD ?_)
  refine bO (⟨k.1 + 1, by have e : nth a k.1 = nth b k.1 := of_decide_eq_true (by rw [← IL]; exact e9 hc3); rw [cS (by omega), cS (by omega), k.2, e]⟩) ?_ (by show a.length - (k.1 + 1) < a.length - k.1; omega)
  (refine cv.mk' ?_ ?_ <;> (repeat' (first | exact aM | exact aL | refine aC ?_ (Ty.aV _) | refine aC ?_ (Ty.aF _))))
  all_goals skip
 try (simp only [Classical.not_not] at hc2)
 refine cI (aP (aP (aj rfl (aB (aE (aA (cj rfl (aD (aB ?_)))))))))
 refine ay (bJ rfl rfl ?_)
 all_goals skip
 exact ah rfl rfl (congrArg Ty.bool (by rw [eq_comm, decide_eq_true_eq]; have := k.2; rwa [List.take_of_length_le (by omega), List.take_of_length_le (by omega)] at this))
set_option maxRecDepth 100000 in
theorem H9 (a b : List Level) : dK Tryz.prog 105 [Ty.sl dU a, Ty.sl dU b] (Ty.bool (decide (a = b))) := by
 refine aa Tryz.func105 rfl (by decide) Tryz.ntmps105 (by exact Nat.le_of_ble_eq_true rfl) fun w0 M0 => ?_
 refine aE (aA (cj rfl (aD (aB (aE (aA (ej rfl (ej rfl (aZ (Ao _ _) rfl rfl rfl rfl rfl ?_)))))))))
 refine cj rfl (aD (aB (ay (bJ rfl rfl ?_))))
 all_goals exact bY rfl rfl
end Go.Proofs.YtelbollidfdcjaaGreat
namespace Go.Proofs.YtelbollidfdcjaaGreat
open Go Go.T
def two (k : Nat) : bA := ⟨2, [⟨100, ⟨20, 30⟩⟩, ⟨50, ⟨0, 0⟩⟩], [⟨0, -1, 0, ⟨40, 60⟩⟩, ⟨1, 0, 1, ⟨10, 40⟩⟩, ⟨1, 1, -1, ⟨5, 10⟩⟩], ([⟨2, 1, ⟨20, 25⟩⟩, ⟨2, 0, ⟨10, 24⟩⟩] : List Level).take k⟩
def xO (p q u v w : Int) : dL := ⟨[p, q], [u, v, w]⟩
section
variable {k : Nat} {c : Nat → Bool} {a : dL} {p q u v w : Int}
theorem ny (h : k ≤ 2) : bT (two k) = 0 := by
 have : k = 0 ∨ k = 1 ∨ k = 2 := by omega
 rcases this with rfl | rfl | rfl <;> decide
theorem xu (h : k ≤ 2) : (two k).cZ := cy (ny h)
theorem DA (h : wX (two k) a) : ∃ p q u v w, a = xO p q u v w := by
  obtain ⟨f, m⟩ := a
  have h1 : f.length = 2 := h.first
  have h2 : m.length = 3 := h.bN
  match f, m, h1, h2 with
  | [p, q], [u, v, w], _, _ => exact ⟨p, q, u, v, w, rfl⟩
theorem mW : cV (two k) (xO p q u v w) 0 0 = p := by simp [cV, cg, oL, ind, nth, two, xO]
theorem mQ : cV (two k) (xO p q u v w) 0 1 = p + u := by simp [cV, cg, oL, ind, nth, two, xO]
theorem kV : cV (two k) (xO p q u v w) 0 2 = p + u - v := by simp [cV, cg, oL, ind, nth, two, xO]; omega
theorem zi : cV (two k) (xO p q u v w) 1 0 = q := by simp [cV, cg, oL, ind, nth, two, xO]
theorem AI : cV (two k) (xO p q u v w) 1 1 = q := by simp [cV, cg, oL, ind, nth, two, xO]
theorem tO : cV (two k) (xO p q u v w) 1 2 = q + v - w := by simp [cV, cg, oL, ind, nth, two, xO]; omega
structure Ki (k : Nat) (c : Nat → Bool) (p q u v w : Int) : Prop where
  hp : 20 ≤ p ∧ p ≤ 30
  hq : q = 0
  hu : 40 ≤ u ∧ u ≤ 60
  hv : 10 ≤ v ∧ v ≤ 40
  hw : 5 ≤ w ∧ w ≤ 10
  l0 : 0 < k → c 0 = true → 20 ≤ v - w ∧ v - w ≤ 25
  l1 : 1 < k → c 1 = true → 10 ≤ p + u - v ∧ p + u - v ≤ 24
theorem kT (hk : k ≤ 2) : iV (two k) c (xO p q u v w) ↔ Ki k c p q u v w := by
 constructor
 ·intro h
  have f0 := h.first 0 (Nat.zero_lt_succ _)
  have f1 := h.first 1 (show 1 < 2 by decide)
  have m0 := h.bN 0 (Nat.zero_lt_succ _)
  have m1 := h.bN 1 (show 1 < 3 by decide)
  have m2 := h.bN 2 (show 2 < 3 by decide)
  have hq : (0 : Int) ≤ q ∧ q ≤ 0 := f1
  refine ⟨f0, by omega, m0, m1, m2, fun h0 hc => ?_, fun h1 hc => ?_⟩
  ·have e : nth (two k).levels 0 = ⟨2, 1, ⟨20, 25⟩⟩ := by
    obtain ⟨j, rfl⟩ : ∃ j, k = j + 1 := ⟨k - 1, by omega⟩
    rfl
   have hl : 0 < (two k).levels.length := by
    obtain ⟨j, rfl⟩ : ∃ j, k = j + 1 := ⟨k - 1, by omega⟩
    show 0 < (List.take (j + 1) _).length
    rw [List.take_succ_cons, List.length_cons]; omega
   have := h.level 0 hl hc
   rw [e] at this
   have := this
   change 20 ≤ cV _ _ 1 2 ∧ cV _ _ 1 2 ≤ 25 at this
   rw [tO] at this
   omega
  obtain rfl : k = 2 := by omega
  have := h.level 1 (by decide) hc
  change 10 ≤ cV _ _ 0 2 ∧ cV _ _ 0 2 ≤ 24 at this
  rw [kV] at this
  exact this
 intro ⟨hp, hq, hu, hv, hw, h0, h1⟩
 have hlen : (two k).levels.length = k := by
  show (List.take k _).length = k
  rw [List.length_take]; show min k 2 = k; omega
 refine ⟨⟨rfl, rfl⟩, fun b hb => ?_, fun b t hb ht => ?_, fun i hi => ?_, fun i hi hc => ?_⟩
 ·have hb : b < 2 := hb
  have : b = 0 ∨ b = 1 := by omega
  rcases this with rfl | rfl
  ·exact hp
  show 0 ≤ q ∧ q ≤ 0; omega
 ·have hb : b < 2 := hb
  have ht : t ≤ 2 := ht
  have e1 : b = 0 ∨ b = 1 := by omega
  have e2 : t = 0 ∨ t = 1 ∨ t = 2 := by omega
  rcases e1 with rfl | rfl <;> rcases e2 with rfl | rfl | rfl
  ·rw [mW]; show 0 ≤ p ∧ p ≤ 100; omega
  ·rw [mQ]; show 0 ≤ p + u ∧ p + u ≤ 100; omega
  ·rw [kV]; show 0 ≤ p + u - v ∧ p + u - v ≤ 100; omega
  ·rw [zi]; show 0 ≤ q ∧ q ≤ 50; omega
  ·rw [AI]; show 0 ≤ q ∧ q ≤ 50; omega
  rw [tO]; show 0 ≤ q + v - w ∧ q + v - w ≤ 50; omega
 ·have hi : i < 3 := hi
  have : i = 0 ∨ i = 1 ∨ i = 2 := by omega
  rcases this with rfl | rfl | rfl
  ·exact hu
  ·exact hv
  exact hw
 rw [hlen] at hi
 have : i = 0 ∨ i = 1 := by omega
 rcases this with rfl | rfl
 ·have h := h0 hi hc
  have e : nth (two k).levels 0 = ⟨2, 1, ⟨20, 25⟩⟩ := by
   obtain ⟨j, rfl⟩ : ∃ j, k = j + 1 := ⟨k - 1, by omega⟩
   rfl
  rw [e]
  change 20 ≤ cV _ _ 1 2 ∧ cV _ _ 1 2 ≤ 25
  rw [tO]; omega
 obtain rfl : k = 2 := by omega
 have h := h1 (by omega) hc
 change 10 ≤ cV _ _ 0 2 ∧ cV _ _ 0 2 ≤ 24
 rw [kV]; exact h
theorem kA (hk : k ≤ 2) {f : dL → Int} {s : Span} (p0 q0 u0 v0 w0 p1 q1 u1 v1 w1 : Int) (h0 : Ki k c p0 q0 u0 v0 w0) (e0 : f (xO p0 q0 u0 v0 w0) = s.lo) (h1 : Ki k c p1 q1 u1 v1 w1) (e1 : f (xO p1 q1 u1 v1 w1) = s.hi)
 (h : ∀ p q u v w, Ki k c p q u v w → s.lo ≤ f (xO p q u v w) ∧ f (xO p q u v w) ≤ s.hi) : EU (two k) c f s :=
 ⟨⟨_, (kT hk).2 h0, e0⟩, ⟨_, (kT hk).2 h1, e1⟩, fun a ha => by
  obtain ⟨p, q, u, v, w, rfl⟩ := DA ha.lens
  exact h p q u v w ((kT hk).1 ha)⟩
end
end Go.Proofs.YtelbollidfdcjaaGreat
namespace Go.Proofs.YtelbollidfdcjaaGreat
open Go Go.T
section
variable {y : bA} {c : Nat → Bool} {a : dL} {b t k : Nat} {s : Span}
theorem Ic (h0 : bT y = 0) (h : ∃ a, iV y (nth bZ) a) : cr y = 0 := (open_3 h0 ((n7 (cy h0)).2 h)).symm
theorem Hu (h0 : bT y = 0) (h : ¬ ∃ a, iV y (nth bZ) a) : cr y = 7 := by
  cases e : (cP (aR y (nth bZ)) (y.cells + 1) (gm (aR y (nth bZ)))).2.1 with
  | true => exact (wz h0 e).symm
  | false => exact absurd ((n7 (cy h0)).1 e) h
theorem tB (h : cr y = 0) : ∃ a, iV y (nth bZ) a := (n7 (cy (eG h))).1 (zF h)
theorem xz (hr : y.cZ) {l : List Bool} : eN y l = true ↔ ∃ a, iV y (nth l) a := by
 unfold eN
 rw [Bool.not_eq_true', n7 hr]
theorem qE (ho : cr y = 0) (hb : b < y.bins.length) (ht : t ≤ y.D) : EU y (nth bZ) (fun a => cV y a b t) (gX (aR y (nth bZ)) (y.cells + 1) (hasB y b t)) :=
 wB (cy (eG ho)) (fun x hx => JH (cy (eG ho)) hb ht hx) (tB ho)
theorem zh (ho : cr y = 0) (ht : t ≤ y.D) : EU y (nth bZ) (fun a => cg (fun b => cV y a b t) y.bins.length) (gX (aR y (nth bZ)) (y.cells + 1) (oT y t)) :=
 wB (cy (eG ho)) (fun x hx => FI (cy (eG ho)) ht hx) (tB ho)
theorem Jv (ho : cr y = 0) (hk : k < y.moves.length) : EU y (nth bZ) (fun a => nth a.bN k) (gX (aR y (nth bZ)) (y.cells + 1) (tK (y.bins.length * (y.D + 1) + k))) :=
 wB (cy (eG ho)) (fun x hx => Is hk) (tB ho)
theorem AA (h0 : bT y = 0) (hb : b < y.bins.length) : dz y (b : Int) = 0 := by
 unfold dz
 rw [if_pos h0, if_pos (by unfold bA.bin; rw [dA]; omega)]
theorem Dr (ho : cr y = 0) (hb : b < y.bins.length) : kG y (b : Int) = 0 := (zK (AA (eG ho) hb) ho).1.symm
theorem Ds (ho : cr y = 0) (hb : b < y.bins.length) : jW y (b : Int) = (List.range (y.D + 1)).map fun t => gX (aR y (nth bZ)) (y.cells + 1) (hasB y b t) := (zK (AA (eG ho) hb) ho).2.symm
theorem Jh (ho : cr y = 0) : sq y = (List.range (y.D + 1)).map fun t => gX (aR y (nth bZ)) (y.cells + 1) (oT y t) := (BM ho).symm
theorem KS (ho : cr y = 0) (hk : k < y.moves.length) : kX y (k : Int) = 0 := (D7 (eG ho) (by rw [Bool.not_eq_false', Bool.and_eq_true, decide_eq_true_eq, decide_eq_true_eq]; omega) ho).1.symm
theorem Gr (ho : cr y = 0) (hk : k < y.moves.length) : EU y (nth bZ) (fun a => nth a.bN k) (nC y (k : Int)) := by
 rw [← (D7 (eG ho) (by rw [Bool.not_eq_false', Bool.and_eq_true, decide_eq_true_eq, decide_eq_true_eq]; omega) ho).2]
 exact Jv ho hk
end
theorem Hp {α : Type} {a b c x y z : α} (h1 : a = x) (h2 : b = y) (h3 : c = z) : [a, b, c] = [x, y, z] := by subst h1; subst h2; subst h3; rfl
theorem kN {k : Nat} (hk : k ≤ 1) : cr (two k) = 0 :=
 Ic (ny (by omega)) ⟨xO 20 0 40 25 5, (kT (by omega)).2 ⟨by omega, rfl, by omega, by omega, by omega, fun _ _ => by omega, fun _ _ => by omega⟩⟩
theorem Mz : kG (two 0) 0 = 0 := Dr (b := 0) (kN (by omega)) (by decide)
theorem J8 : jW (two 0) 0 = [⟨20, 30⟩, ⟨60, 90⟩, ⟨20, 80⟩] := by
 have ho := kN (k := 0) (by omega)
 have e := Ds (b := 0) ho (by decide)
 have h0 := (qE (b := 0) (t := 0) ho (by decide) (by decide)).one (kA (s := ⟨20, 30⟩) (by omega) 20 0 40 10 5 30 0 40 10 5 (by constructor <;> intros <;> omega) mW (by constructor <;> intros <;> omega) mW fun p q u v w h => by rw [mW]; exact h.hp)
 have h1 := (qE (b := 0) (t := 1) ho (by decide) (by decide)).one (kA (s := ⟨60, 90⟩) (by omega) 20 0 40 10 5 30 0 60 10 5 (by constructor <;> intros <;> omega) mQ (by constructor <;> intros <;> omega) mQ fun p q u v w h => by rw [mQ]; have := h.hp; have := h.hu; show 60 ≤ p + u ∧ p + u ≤ 90; omega)
 have h2 := (qE (b := 0) (t := 2) ho (by decide) (by decide)).one (kA (s := ⟨20, 80⟩) (by omega) 20 0 40 40 5 30 0 60 10 5 (by constructor <;> intros <;> omega) kV (by constructor <;> intros <;> omega) kV fun p q u v w h => by rw [kV]; have := h.hp; have := h.hu; have := h.hv; show 20 ≤ p + u - v ∧ p + u - v ≤ 80; omega)
 show jW (two 0) ((0 : Nat) : Int) = _
 rw [e]
 exact Hp h0 h1 h2
theorem EM : jW (two 1) 0 = [⟨20, 30⟩, ⟨60, 90⟩, ⟨25, 65⟩] := by
 have ho := kN (k := 1) (by omega)
 have e := Ds (b := 0) ho (by decide)
 have h0 := (qE (b := 0) (t := 0) ho (by decide) (by decide)).one (kA (s := ⟨20, 30⟩) (by omega) 20 0 40 25 5 30 0 40 25 5 (by constructor <;> intros <;> omega) mW (by constructor <;> intros <;> omega) mW fun p q u v w h => by rw [mW]; exact h.hp)
 have h1 := (qE (b := 0) (t := 1) ho (by decide) (by decide)).one (kA (s := ⟨60, 90⟩) (by omega) 20 0 40 25 5 30 0 60 25 5 (by constructor <;> intros <;> omega) mQ (by constructor <;> intros <;> omega) mQ fun p q u v w h => by rw [mQ]; have := h.hp; have := h.hu; show 60 ≤ p + u ∧ p + u ≤ 90; omega)
 have h2 := (qE (b := 0) (t := 2) ho (by decide) (by decide)).one (kA (s := ⟨25, 65⟩) (by omega) 20 0 40 35 10 30 0 60 25 5 (by constructor <;> intros <;> omega) kV (by constructor <;> intros <;> omega) kV fun p q u v w h => by rw [kV]; have := h.hp; have := h.hu; have := h.hw; have := h.l0 (by omega) rfl; show 25 ≤ p + u - v ∧ p + u - v ≤ 65; omega)
 show jW (two 1) ((0 : Nat) : Int) = _
 rw [e]
 exact Hp h0 h1 h2
theorem lB {k : Nat} {a : dL} {t : Nat} : cg (fun b => cV (two k) a b t) (two k).bins.length = cV (two k) a 0 t + cV (two k) a 1 t := by
 show (0 + cV (two k) a 0 t) + cV (two k) a 1 t = _; rw [Int.zero_add]
theorem MT : sq (two 0) = [⟨20, 30⟩, ⟨60, 90⟩, ⟨50, 85⟩] := by
 have ho := kN (k := 0) (by omega)
 have e := Jh ho
 have h0 := (zh (t := 0) ho (by decide)).one (kA (s := ⟨20, 30⟩) (by omega) 20 0 40 10 5 30 0 40 10 5 (by constructor <;> intros <;> omega) (by rw [lB, mW, zi]; rfl) (by constructor <;> intros <;> omega) (by rw [lB, mW, zi]; rfl) fun p q u v w h => by rw [lB, mW, zi]; have := h.hp; have := h.hq; show 20 ≤ p + q ∧ p + q ≤ 30; omega)
 have h1 := (zh (t := 1) ho (by decide)).one (kA (s := ⟨60, 90⟩) (by omega) 20 0 40 10 5 30 0 60 10 5 (by constructor <;> intros <;> omega) (by rw [lB, mQ, AI]; rfl) (by constructor <;> intros <;> omega) (by rw [lB, mQ, AI]; rfl) fun p q u v w h => by rw [lB, mQ, AI]; have := h.hp; have := h.hq; have := h.hu; show 60 ≤ p + u + q ∧ p + u + q ≤ 90; omega)
 have h2 := (zh (t := 2) ho (by decide)).one (kA (s := ⟨50, 85⟩) (by omega) 20 0 40 10 10 30 0 60 10 5 (by constructor <;> intros <;> omega) (by rw [lB, kV, tO]; rfl) (by constructor <;> intros <;> omega) (by rw [lB, kV, tO]; rfl) fun p q u v w h => by rw [lB, kV, tO]; have := h.hp; have := h.hq; have := h.hu; have := h.hw; show 50 ≤ p + u - v + (q + v - w) ∧ p + u - v + (q + v - w) ≤ 85; omega)
 rw [e]
 exact Hp h0 h1 h2
theorem No : kX (two 1) 1 = 0 := KS (k := 1) (kN (by omega)) (by decide)
theorem Lz : nC (two 1) 1 = ⟨25, 35⟩ :=
 (Gr (k := 1) (kN (k := 1) (by omega)) (by decide)).one (kA (s := ⟨25, 35⟩) (by omega) 20 0 40 25 5 20 0 40 35 10 (by constructor <;> intros <;> omega) rfl (by constructor <;> intros <;> omega) rfl fun p q u v w h => by have := h.hw; have := h.l0 (by omega) rfl; show 25 ≤ v ∧ v ≤ 35; omega)
theorem Kl : 0 = kW (two 1) 0 60 (fun x => decide (x.lo ≥ 60)) ∧ fidx (fun x : Span => decide (x.lo ≥ 60)) (jW (two 1) 0) = oK (two 1) 0 60 (fun x => decide (x.lo ≥ 60)) :=
 GW (AA (b := 0) (ny (by omega)) (by decide)) rfl (Dr (b := 0) (kN (by omega)) (by decide)) (by rw [EM]; decide)
theorem Lv : oK (two 1) 0 60 (fun x => decide (x.lo ≥ 60)) = 1 := by rw [← Kl.2, EM]; rfl
def wI : DE := ⟨[⟨0, 0⟩, ⟨0, 1⟩, ⟨1, 1⟩], false⟩
theorem EC : jR (two 2) (aR (two 2) (nth bZ)) wI = 1 := by kernel_rfl
theorem Nq : 0 = nL (two 2) wI ∧ jR (two 2) (aR (two 2) (nth bZ)) wI = su (two 2) wI :=
 Ih (ny (by omega)) (by decide) (fun i hi => by
  have hi : i + 1 < 3 := hi
  have : i = 0 ∨ i = 1 := by omega
  rcases this with rfl | rfl <;> decide) (by rw [EC]; decide)
theorem MX : su (two 2) wI = 1 := by rw [← Nq.2, EC]
theorem I1 : ¬ ∃ a, iV (two 2) (nth bZ) a := by
 rintro ⟨a, ha⟩
 obtain ⟨p, q, u, v, w, rfl⟩ := DA ha.lens
 have h := (kT (by omega)).1 ha
 have h0 := h.l0 (by omega) rfl
 have h1 := h.l1 (by omega) rfl
 have := h.hp; have := h.hu; have := h.hw
 omega
theorem KZ : cr (two 2) = 7 := Hu (ny (by omega)) I1
theorem uz {l : List Bool} (h : nth l 0 = false ∨ nth l 1 = false) : eN (two 2) l = true := by
  rw [xz (xu (by omega))]
  cases h1 : nth l 1 with
  | false => exact ⟨xO 20 0 40 25 5, (kT (by omega)).2 ⟨by omega, rfl, by omega, by omega, by omega, fun _ _ => by omega, fun _ hc => by rw [h1] at hc; cases hc⟩⟩
  | true =>
    have h0 : nth l 0 = false := h.resolve_right (by rw [h1]; decide)
    exact ⟨xO 20 0 40 40 5, (kT (by omega)).2 ⟨by omega, rfl, by omega, by omega, by omega, fun _ hc => absurd hc (by rw [h0]; decide), fun _ _ => by omega⟩⟩
theorem Ib {l : List Bool} (h : nth l 0 = true ∧ nth l 1 = true) : eN (two 2) l = false := by
 rw [Bool.eq_false_iff]
 intro hc
 obtain ⟨a, ha⟩ := (xz (xu (by omega))).1 hc
 obtain ⟨p, q, u, v, w, rfl⟩ := DA ha.lens
 have hh := (kT (by omega)).1 ha
 have h0 := hh.l0 (by omega) h.1
 have h1 := hh.l1 (by omega) h.2
 have := hh.hp; have := hh.hu; have := hh.hw
 omega
theorem xp (h : List Int → Bool) : lY h 2 = [[], [0], [1], [0, 1]].find? h := rfl
theorem Mv : lY (fun l => !eN (two 2) (cQ l false)) 2 = some [0, 1] := by
 rw [xp, List.find?_cons, uz (.inl rfl)]
 show List.find? _ [[0], [1], [0, 1]] = _
 rw [List.find?_cons, uz (.inr rfl)]
 show List.find? _ [[1], [0, 1]] = _
 rw [List.find?_cons, uz (.inl rfl)]
 show List.find? _ [[0, 1]] = _
 rw [List.find?_cons, Ib ⟨rfl, rfl⟩]; rfl
theorem NR : lY (fun l => eN (two 2) (cQ l true)) 2 = some [0] := by
 rw [xp, List.find?_cons, Ib ⟨rfl, rfl⟩]
 show List.find? _ [[0], [1], [0, 1]] = _
 rw [List.find?_cons, uz (.inl rfl)]
theorem LM : 0 = kU (two 2) ∧ D4 (fun l => !eN (two 2) (cQ l false)) 2 = mO (two 2) :=
 zo (ny (by omega)) (by show (!(lY _ 2).isSome) = false; rw [Mv]; rfl)
theorem Kx : 0 = kZ (two 2) ∧ D4 (fun l => eN (two 2) (cQ l true)) 2 = mR (two 2) :=
 zk (ny (by omega)) (by show (!(lY _ 2).isSome) = false; rw [NR]; rfl)
theorem G3 : mO (two 2) = [0, 1] := by rw [← LM.2]; unfold D4; rw [Mv]; rfl
theorem G5 : mR (two 2) = [0] := by rw [← Kx.2]; unfold D4; rw [NR]; rfl
end Go.Proofs.YtelbollidfdcjaaGreat
namespace Go.Proofs.YtelbollidfdcjaaGreat
open Go Go.T
set_option maxHeartbeats 4000000
def I9 (a b : bA) : Bool := ((decide (a.days = b.days) && decide (a.bins = b.bins)) && decide (a.moves = b.moves)) && decide (a.levels = b.levels)
theorem xB (y : bA) : I9 y y = true := by unfold I9; simp
def CO (y : bA) : Bool := (decide ((y.bins.length : Int) > 8) || decide ((y.moves.length : Int) > 14)) || decide ((y.levels.length : Int) > 12)
theorem CD {y : bA} (h : CO y = false) : y.Small := by
 unfold CO at h
 simp only [Bool.or_eq_false_iff, decide_eq_false_iff_not] at h
 exact ⟨by omega, by omega, by omega⟩
theorem w8 {α : Type} {E : El α} {T tg : Nat} {xs : List α} (h : xs = []) : (Ty.ex (.slice none 0 0)).Sub (Ty.row E T tg xs) := by subst h; exact Ty.dQ
theorem nR {A : As} {α : Type} {E : El α} {T tg : Nat} {xs ys : List α} (h : xs = ys) : uC A tg (Ty.row E T tg xs) (Ty.sl E ys) := by subst h; exact Ed
theorem jK {k : Nat} (hk : k ≤ 2) : (two k).Small := ⟨by show 2 ≤ 1000; omega, by show 3 ≤ 1000; omega, by show (List.take k _).length ≤ 1000; rw [List.length_take]; show min k 2 ≤ 1000; omega⟩
attribute [local irreducible] jW kG sq cr nC kX oK kW su nL mO kU mR kZ uA bT
attribute [local irreducible] g6 fS m8 qg iZ iT ij ia ig qM iS qR dY gb qd gV qV nth fU dR av dK bodyPost Exit.then Exit.inBlock Code.wp Code.wpIn fR qb qX qT iw qW qc iY fC cT cU bodyPostM dr
set_option maxRecDepth 100000 in
theorem jq (a b : Int) : dK Tryz.prog 56 [Ty.int .i64 a, Ty.int .i64 b] (Ty.agg (dS.tys ⟨a, b⟩)) := by
 refine aa Tryz.func56 rfl (by decide) Tryz.ntmps56 (by exact Nat.le_of_ble_eq_true rfl) fun w0 M0 => ?_
 refine aE (aA ?_)
 refine bu rfl (by exact List.cons_ne_nil _ _) rfl ?_
 refine aD (aB (aE (aA (bI rfl (bI rfl ?_)))))
 refine dJ rfl rfl (by exact List.cons_ne_nil _ _) rfl (by repeat (first | exact (aW.nil : aW _ _ [] _) | (show aW _ _ ((_, _) :: _) _; apply aW.one; (· exact (rfl : _ = Ty.int _ _)); (· exact rfl)))) (by exact (rfl : _ = some [_, _])) ?_
 refine bq rfl rfl (by decide) rfl rfl rfl rfl rfl rfl ?_
 refine aD (aB (ay ?_))
 refine p7 rfl rfl rfl rfl (by decide) rfl rfl rfl ?_
 all_goals exact ah rfl rfl rfl
set_option maxRecDepth 100000 in
theorem uT (k : Nat) (hk : k ≤ 2) : dK Tryz.prog 93 [Ty.int .i64 ((k : Nat) : Int)] (eB (two k)) := by
 refine aa Tryz.func93 rfl (by decide) Tryz.ntmps93 (by exact Nat.le_of_ble_eq_true rfl) fun w0 M0 => ?_
 refine aE (aA ?_)
 refine bu rfl (by exact List.cons_ne_nil _ _) rfl ?_
 refine aD (aB (aE (aA (aZ (jq _ _) rfl rfl rfl rfl rfl ?_))))
 refine dJ rfl rfl (by exact List.cons_ne_nil _ _) rfl (by repeat (first | exact (aW.nil : aW _ _ [] _) | (show aW _ _ ((_, _) :: _) _; apply aW.one; (· exact (rfl : _ = Ty.int _ _)); (· exact rfl)) | (show aW _ _ ((_, _) :: _) _; apply aW.agg; (· exact (rfl : _ = Ty.agg _))))) (by exact (rfl : _ = some [_, _, _, _])) ?_
 refine aZ (jq _ _) rfl rfl rfl rfl rfl ?_
 refine dJ rfl rfl (by exact List.cons_ne_nil _ _) rfl (by repeat (first | exact (aW.nil : aW _ _ [] _) | (show aW _ _ ((_, _) :: _) _; apply aW.one; (· exact (rfl : _ = Ty.int _ _)); (· exact rfl)) | (show aW _ _ ((_, _) :: _) _; apply aW.agg; (· exact (rfl : _ = Ty.agg _))))) (by exact (rfl : _ = some [_, _, _, _])) ?_
 refine bg (E := dU) (xs := [⟨2, 1, ⟨20, 25⟩⟩, ⟨2, 0, ⟨10, 24⟩⟩]) rfl rfl rfl rfl rfl (by decide) (by decide) (by repeat (first | exact (aW.nil : aW _ _ [] _) | (show aW _ _ ((_, _) :: _) _; apply aW.agg; (· exact (rfl : _ = Ty.agg _))))) (by exact rfl) rfl ?_
 refine xX rfl (aD (aB (aE (cN mixed rfl (aZ (jq _ _) rfl rfl rfl rfl rfl ?_)))))
 refine dJ rfl rfl (by exact List.cons_ne_nil _ _) rfl (by repeat (first | exact (aW.nil : aW _ _ [] _) | (show aW _ _ ((_, _) :: _) _; apply aW.one; (· exact (rfl : _ = Ty.int _ _)); (· exact rfl)) | (show aW _ _ ((_, _) :: _) _; apply aW.agg; (· exact (rfl : _ = Ty.agg _))))) (by exact (rfl : _ = some [_, _, _])) ?_
 refine dJ rfl rfl (by exact List.cons_ne_nil _ _) rfl (by repeat (first | exact (aW.nil : aW _ _ [] _) | (show aW _ _ ((_, _) :: _) _; apply aW.one; (· exact (rfl : _ = Ty.int _ _)); (· exact rfl)))) (by exact (rfl : _ = some [_, _, _])) ?_
 refine bg (E := fJ) (xs := [⟨100, ⟨20, 30⟩⟩, ⟨50, ⟨0, 0⟩⟩]) rfl rfl rfl rfl rfl (by decide) (by decide) (by repeat (first | exact (aW.nil : aW _ _ [] _) | (show aW _ _ ((_, _) :: _) _; apply aW.agg; (· exact (rfl : _ = Ty.agg _))))) (by exact rfl) rfl ?_
 refine aZ (jq _ _) rfl rfl rfl rfl rfl ?_
 refine dJ rfl rfl (by exact List.cons_ne_nil _ _) rfl (by repeat (first | exact (aW.nil : aW _ _ [] _) | (show aW _ _ ((_, _) :: _) _; apply aW.one; (· exact (rfl : _ = Ty.int _ _)); (· exact rfl)) | (show aW _ _ ((_, _) :: _) _; apply aW.agg; (· exact (rfl : _ = Ty.agg _))))) (by exact rfl) ?_
 refine aZ (jq _ _) rfl rfl rfl rfl rfl ?_
 refine dJ rfl rfl (by exact List.cons_ne_nil _ _) rfl (by repeat (first | exact (aW.nil : aW _ _ [] _) | (show aW _ _ ((_, _) :: _) _; apply aW.one; (· exact (rfl : _ = Ty.int _ _)); (· exact rfl)) | (show aW _ _ ((_, _) :: _) _; apply aW.agg; (· exact (rfl : _ = Ty.agg _))))) (by exact rfl) ?_
 refine aZ (jq _ _) rfl rfl rfl rfl rfl ?_
 refine dJ rfl rfl (by exact List.cons_ne_nil _ _) rfl (by repeat (first | exact (aW.nil : aW _ _ [] _) | (show aW _ _ ((_, _) :: _) _; apply aW.one; (· exact (rfl : _ = Ty.int _ _)); (· exact rfl)) | (show aW _ _ ((_, _) :: _) _; apply aW.agg; (· exact (rfl : _ = Ty.agg _))))) (by exact rfl) ?_
 refine bg (E := eF) (xs := [⟨0, -1, 0, ⟨40, 60⟩⟩, ⟨1, 0, 1, ⟨10, 40⟩⟩, ⟨1, 1, -1, ⟨5, 10⟩⟩]) rfl rfl rfl rfl rfl (by decide) (by decide) (by repeat (first | exact (aW.nil : aW _ _ [] _) | (show aW _ _ ((_, _) :: _) _; apply aW.agg; (· exact (rfl : _ = Ty.agg _))))) (by exact rfl) rfl ?_
 refine ej rfl (bI rfl (ej rfl (b9 rfl rfl rfl (Km rfl rfl (EB rfl rfl ?_)))))
 refine Iu (hi := k) rfl (show _ = Ty.int .i64 ((k : Nat) : Int) from congrArg (Ty.int .i64) (by show max 0 (min (k : Int) 2) = (k : Int); omega)) rfl rfl rfl rfl (by show k ≤ 2; exact hk) ?_
 refine dJ rfl rfl (by exact List.cons_ne_nil _ _) rfl (by repeat (first | exact (aW.nil : aW _ _ [] _) | (show aW _ _ ((_, _) :: _) _; apply aW.one; (· first | exact (rfl : _ = Ty.int _ _) | exact (rfl : _ = Ty.sl _ _)); (· exact rfl)))) (by exact (rfl : _ = some [_, _, _, _])) ?_
 refine bq rfl rfl (by decide) rfl rfl rfl rfl rfl rfl ?_
 refine aD ?_
 refine ⟨by kernel_rfl, ?_⟩
 refine aB (ay ?_)
 refine p7 rfl rfl rfl rfl (by decide) rfl rfl rfl ?_
 all_goals exact ah rfl rfl rfl
set_option maxRecDepth 100000 in
theorem Mn (y : bA) (hs : y.Small) : dK Tryz.prog 29 [eB y] (eB y) := by
 refine aa Tryz.func29 rfl (by decide) Tryz.ntmps29 (by exact Nat.le_of_ble_eq_true rfl) fun w0 M0 => ?_
 have hs1 := hs.bins
 have hs2 := hs.moves
 have hs3 := hs.levels
 refine aE (aA (bD rfl ?_))
 refine bu rfl (by exact List.cons_ne_nil _ _) rfl ?_
 refine aD (aB (aE (cN mixed rfl ?_)))
 refine aI rfl rfl rfl rfl rfl (by decide) ?_
 refine aG rfl rfl rfl rfl ?_
 refine aI rfl rfl rfl rfl rfl (by decide) ?_
 refine aG rfl rfl rfl rfl (aZ (EX y.bins hs1) rfl rfl rfl rfl rfl ?_)
 refine aI rfl rfl rfl rfl rfl (by decide) ?_
 refine aG rfl rfl rfl rfl (aZ (FN y.moves hs2) rfl rfl rfl rfl rfl ?_)
 refine aI rfl rfl rfl rfl rfl (by decide) ?_
 refine aG rfl rfl rfl rfl (aZ (Em y.levels hs3) rfl rfl rfl rfl rfl ?_)
 refine dJ rfl rfl (by exact List.cons_ne_nil _ _) rfl (by repeat (first | exact (aW.nil : aW _ _ [] _) | (show aW _ _ ((_, _) :: _) _; apply aW.one; (· first | exact (rfl : _ = Ty.int _ _) | exact (rfl : _ = Ty.sl _ _)); (· exact rfl)))) (by exact (rfl : _ = some [_, _, _, _])) ?_
 refine bq rfl rfl (by decide) rfl rfl rfl rfl rfl rfl ?_
 refine aD ?_
 refine ⟨by kernel_rfl, ?_⟩
 refine aB (ay ?_)
 refine p7 rfl rfl rfl rfl (by decide) rfl rfl rfl ?_
 all_goals exact ah rfl rfl rfl
set_option maxRecDepth 100000 in
theorem L5 (a b : bA) : dK Tryz.prog 35 [eB a, eB b] (Ty.bool (I9 a b)) := by
 refine aa Tryz.func35 rfl (by decide) Tryz.ntmps35 (by exact Nat.le_of_ble_eq_true rfl) fun w0 M0 => ?_
 refine aE (aA (bD rfl (bD rfl (cj rfl (aD (aB (aE (aA ?_))))))))
 refine aI rfl rfl rfl rfl rfl (by decide) ?_
 refine aG rfl rfl rfl rfl ?_
 refine aI rfl rfl rfl rfl rfl (by decide) ?_
 refine aG rfl rfl rfl rfl (bC rfl rfl rfl (e8 rfl ?_))
 apply aJ (s := 10) rfl rfl rfl
 ·intro hg; apply aO; (refine aI rfl rfl rfl rfl rfl (by decide) ?_); refine aD ?_; exact rfl
 ·exact rfl
 ·exact rfl
 apply aJ (s := 10) rfl rfl rfl
 ·intro hg; apply aH (s := 11) rfl (by (rw [hg]; rfl)); apply aO; (refine aG rfl rfl rfl rfl ?_); refine aD ?_; exact rfl
 ·exact rfl
 ·exact rfl
 apply aJ (s := 10) rfl rfl rfl
 ·intro hg; apply aO; (refine aI rfl rfl rfl rfl rfl (by decide) ?_); refine aD ?_; exact rfl
 ·exact rfl
 ·exact rfl
 apply aJ (s := 10) rfl rfl rfl
 ·intro hg; apply aH (s := 13) rfl (by (rw [hg]; rfl)); apply aO; (refine aG rfl rfl rfl rfl ?_); refine aD ?_; exact rfl
 ·exact rfl
 ·exact rfl
 apply aJ (s := 10) rfl rfl rfl
 ·intro hg; apply aH (s := 12) rfl (by (rw [hg]; rfl)); apply aH (s := 14) rfl (by (rw [hg]; rfl)); apply aO; (refine aZ (G9 _ _) rfl rfl rfl rfl rfl ?_); refine aD ?_; exact rfl
 ·exact rfl
 ·exact rfl
 refine eC rfl rfl (e8 rfl ?_)
 apply aJ (s := 17) rfl rfl rfl
 ·intro hg; apply aO; (refine aI rfl rfl rfl rfl rfl (by decide) ?_); refine aD ?_; exact rfl
 ·exact rfl
 ·exact rfl
 apply aJ (s := 17) rfl rfl rfl
 ·intro hg; apply aH (s := 18) rfl (by (rw [hg]; rfl)); apply aO; (refine aG rfl rfl rfl rfl ?_); refine aD ?_; exact rfl
 ·exact rfl
 ·exact rfl
 apply aJ (s := 17) rfl rfl rfl
 ·intro hg; apply aO; (refine aI rfl rfl rfl rfl rfl (by decide) ?_); refine aD ?_; exact rfl
 ·exact rfl
 ·exact rfl
 apply aJ (s := 17) rfl rfl rfl
 ·intro hg; apply aH (s := 20) rfl (by (rw [hg]; rfl)); apply aO; (refine aG rfl rfl rfl rfl ?_); refine aD ?_; exact rfl
 ·exact rfl
 ·exact rfl
 apply aJ (s := 17) rfl rfl rfl
 ·intro hg; apply aH (s := 19) rfl (by (rw [hg]; rfl)); apply aH (s := 21) rfl (by (rw [hg]; rfl)); apply aO; (refine aZ (IS _ _) rfl rfl rfl rfl rfl ?_); refine aD ?_; exact rfl
 ·exact rfl
 ·exact rfl
 refine eC rfl rfl (e8 rfl ?_)
 apply aJ (s := 24) rfl rfl rfl
 ·intro hg; apply aO; (refine aI rfl rfl rfl rfl rfl (by decide) ?_); refine aD ?_; exact rfl
 ·exact rfl
 ·exact rfl
 apply aJ (s := 24) rfl rfl rfl
 ·intro hg; apply aH (s := 25) rfl (by (rw [hg]; rfl)); apply aO; (refine aG rfl rfl rfl rfl ?_); refine aD ?_; exact rfl
 ·exact rfl
 ·exact rfl
 apply aJ (s := 24) rfl rfl rfl
 ·intro hg; apply aO; (refine aI rfl rfl rfl rfl rfl (by decide) ?_); refine aD ?_; exact rfl
 ·exact rfl
 ·exact rfl
 apply aJ (s := 24) rfl rfl rfl
 ·intro hg; apply aH (s := 27) rfl (by (rw [hg]; rfl)); apply aO; (refine aG rfl rfl rfl rfl ?_); refine aD ?_; exact rfl
 ·exact rfl
 ·exact rfl
 apply aJ (s := 24) rfl rfl rfl
 ·intro hg; apply aH (s := 26) rfl (by (rw [hg]; rfl)); apply aH (s := 28) rfl (by (rw [hg]; rfl)); apply aO; (refine aZ (H9 _ _) rfl rfl rfl rfl rfl ?_); refine aD ?_; exact rfl
 ·exact rfl
 ·exact rfl
 refine eC rfl rfl (cj rfl (aD (aB (ay (bJ rfl rfl ?_)))))
 all_goals exact bY rfl rfl
 all_goals trace_state
set_option maxRecDepth 100000 in
theorem IM (y : bA) (hs : y.Small) : dK Tryz.prog 30 [eB y] (eB y) := by
 refine aa Tryz.func30 rfl (by decide) Tryz.ntmps30 (by exact Nat.le_of_ble_eq_true rfl) fun w0 M0 => ?_
 have hs1 := hs.bins
 have hs2 := hs.moves
 have hs3 := hs.levels
 refine aE (aA (bD rfl ?_))
 refine bu rfl (by exact List.cons_ne_nil _ _) rfl ?_
 refine aD (aB (aE (aA ?_)))
 refine aI rfl rfl rfl rfl rfl (by decide) ?_
 refine aG rfl rfl rfl rfl ?_
 refine dJ rfl rfl (by exact List.cons_ne_nil _ _) rfl (by repeat (first | exact (aW.nil : aW _ _ [] _) | (show aW _ _ ((_, _) :: _) _; apply aW.one; (· exact (rfl : _ = Ty.int _ _)); (· exact rfl)))) (by exact (rfl : _ = some [_, _, _, _])) ?_
 refine bu rfl (by exact List.cons_ne_nil _ _) rfl ?_
 refine bq rfl rfl (by decide) rfl rfl rfl rfl rfl rfl ?_
 refine aD (aB (aE (aE (aA ?_))))
 refine aI rfl rfl rfl rfl rfl (by decide) ?_
 refine aG rfl rfl rfl rfl (b9 rfl rfl rfl (bI rfl (aD (aB (af ?_)))))
 refine cK (fun (k : {k : Nat // k ≤ y.bins.length}) => live [(1, Ty.pp (bS y)), (2, Ty.ptr 3 0), (3, Ty.ptr 4 0), (14, Ty.sl fJ y.bins), (15, Ty.int .i64 y.bins.length), (16, Ty.int .i64 (k.1 : Nat))] [(3, Cont.cells 60 [Ty.int .i64 0, Ty.ex (.slice none 0 0), Ty.ex (.slice none 0 0), Ty.ex (.slice none 0 0)]), (4, Cont.cells 60 [Ty.int .i64 y.days, Ty.row fJ 163 24 (y.bins.take k.1), Ty.ex (.slice none 0 0), Ty.ex (.slice none 0 0)])]) (fun k => y.bins.length - k.1) (⟨0, by omega⟩) ?_ fun k => ?_
 ·(refine cv.mk' ?_ ?_ <;> (repeat' (first | exact aM | exact aL | exact c7 | refine aC ?_ (Ty.aV _) | refine aC ?_ (Ty.aF _) | refine aK rfl (Cont.aF _) ?_ | refine aK rfl (Cont.dB ?_) ?_ | refine bG ?_ (Ty.aF _) | refine bG ?_ Ty.dQ)))
  all_goals trace_state
 have hk := k.2
 refine aE (aA (bC rfl rfl rfl (aD (aB (aE ?_)))))
 refine az rfl (fun hc1 => ?_) (fun hc1 => ?_)
 ·
  refine aq (aB (aE (af (aE (aA ?_)))))
  refine ak rfl rfl rfl rfl rfl rfl (by omega) ?_
  refine aU rfl rfl rfl (by exact Nat.le_of_ble_eq_true rfl) ?_
  refine bu rfl (by exact List.cons_ne_nil _ _) rfl ?_
  refine bq rfl rfl (by decide) rfl rfl rfl rfl rfl rfl ?_
  refine aD (aB (aA ?_))
  refine aS rfl rfl rfl rfl rfl (by decide) ?_
  refine aX rfl rfl (by decide) rfl rfl rfl ?_
  refine bf rfl rfl (by decide) rfl rfl (by exact Nat.le_of_ble_eq_true rfl) ?_
  refine bg (E := fJ) (xs := [nth y.bins k.1]) rfl rfl rfl rfl rfl (by decide) (by decide) (by repeat (first | exact (aW.nil : aW _ _ [] _) | (show aW _ _ ((_, _) :: _) _; apply aW.agg; (· exact (rfl : _ = Ty.agg _))))) (by exact rfl) rfl ?_
  refine fI rfl rfl (by decide) rfl rfl rfl rfl rfl rfl (by decide) (by (simp <;> omega)) (by (simp <;> omega)) ?_
  refine aS rfl rfl rfl rfl rfl (by decide) ?_
  refine dF rfl rfl (by decide) rfl rfl (by exact (rfl : _ = Ty.row _ _ _ _)) rfl (by exact Nat.le_of_ble_eq_true rfl) rfl rfl (by exact rfl) ?_
  refine aD (bM (aB (aA ?_)))
  refine b8 rfl rfl (by omega) (by omega) ?_
  refine bI rfl (aD ?_)
  refine bO (⟨k.1 + 1, by omega⟩) ?_ (by show y.bins.length - (k.1 + 1) < y.bins.length - k.1; omega)
  (refine cv.mk' ?_ ?_ <;> (repeat' (first | exact aM | exact aL | exact c7 | refine aC ?_ (Ty.aV _) | refine aC ?_ (Ty.aF _) | refine aK rfl (Cont.aF _) ?_ | refine aK rfl (Cont.dB ?_) ?_ | refine bG ?_ (Ty.aF _) | refine bG ?_ ?_)))
  all_goals exact Ty.gY (cS (by omega)).symm
  all_goals trace_state
 refine cI (aP (aP (aj rfl (aB (aE (aE ?_))))))
 refine pJ (tg := 24) [] [(4, Cont.cells 60 [Ty.int .i64 y.days, Ty.sl fJ y.bins, Ty.ex (.slice none 0 0), Ty.ex (.slice none 0 0)])] (by decide) rfl trivial ⟨jr rfl rfl ⟨cH rfl, nR (List.take_of_length_le (by have := k.2; omega)), cH rfl, cH rfl, trivial⟩, trivial⟩ ?_
 refine aA ?_
 refine aI rfl rfl rfl rfl rfl (by decide) ?_
 refine aG rfl rfl rfl rfl (b9 rfl rfl rfl (bI rfl (aD (aB (af ?_)))))
 refine cK (fun (m : {k : Nat // k ≤ y.moves.length}) => live [(1, Ty.pp (bS y)), (2, Ty.ptr 3 0), (3, Ty.ptr 4 0), (28, Ty.sl eF y.moves), (29, Ty.int .i64 y.moves.length), (30, Ty.int .i64 (m.1 : Nat))] [(3, Cont.cells 60 [Ty.int .i64 0, Ty.ex (.slice none 0 0), Ty.ex (.slice none 0 0), Ty.ex (.slice none 0 0)]), (4, Cont.cells 60 [Ty.int .i64 y.days, Ty.sl fJ y.bins, Ty.row eF 164 38 (y.moves.take m.1), Ty.ex (.slice none 0 0)])]) (fun m => y.moves.length - m.1) (⟨0, by omega⟩) ?_ fun m => ?_
 ·(refine cv.mk' ?_ ?_ <;> (repeat' (first | exact aM | exact aL | exact c7 | refine aC ?_ (Ty.aV _) | refine aC ?_ (Ty.aF _) | refine aK rfl (Cont.aF _) ?_ | refine aK rfl (Cont.dB ?_) ?_ | refine bG ?_ (Ty.aF _) | refine bG ?_ Ty.dQ)))
  all_goals trace_state
 have hm := m.2
 refine aE (aA (bC rfl rfl rfl (aD (aB (aE ?_)))))
 refine az rfl (fun hc2 => ?_) (fun hc2 => ?_)
 ·
  refine aq (aB (aE (af (aE (aA ?_)))))
  refine ak rfl rfl rfl rfl rfl rfl (by omega) ?_
  refine aU rfl rfl rfl (by exact Nat.le_of_ble_eq_true rfl) ?_
  refine bu rfl (by exact List.cons_ne_nil _ _) rfl ?_
  refine bq rfl rfl (by decide) rfl rfl rfl rfl rfl rfl ?_
  refine aD (aB (aA ?_))
  refine aS rfl rfl rfl rfl rfl (by decide) ?_
  refine aX rfl rfl (by decide) rfl rfl rfl ?_
  refine bf rfl rfl (by decide) rfl rfl (by exact Nat.le_of_ble_eq_true rfl) ?_
  refine bg (E := eF) (xs := [nth y.moves m.1]) rfl rfl rfl rfl rfl (by decide) (by decide) (by repeat (first | exact (aW.nil : aW _ _ [] _) | (show aW _ _ ((_, _) :: _) _; apply aW.agg; (· exact (rfl : _ = Ty.agg _))))) (by exact rfl) rfl ?_
  refine fI rfl rfl (by decide) rfl rfl rfl rfl rfl rfl (by decide) (by (simp <;> omega)) (by (simp <;> omega)) ?_
  refine aS rfl rfl rfl rfl rfl (by decide) ?_
  refine dF rfl rfl (by decide) rfl rfl (by exact (rfl : _ = Ty.row _ _ _ _)) rfl (by exact Nat.le_of_ble_eq_true rfl) rfl rfl (by exact rfl) ?_
  refine aD (bM (aB (aA ?_)))
  refine b8 rfl rfl (by omega) (by omega) ?_
  refine bI rfl (aD ?_)
  refine bO (⟨m.1 + 1, by omega⟩) ?_ (by show y.moves.length - (m.1 + 1) < y.moves.length - m.1; omega)
  (refine cv.mk' ?_ ?_ <;> (repeat' (first | exact aM | exact aL | exact c7 | refine aC ?_ (Ty.aV _) | refine aC ?_ (Ty.aF _) | refine aK rfl (Cont.aF _) ?_ | refine aK rfl (Cont.dB ?_) ?_ | refine bG ?_ (Ty.aF _) | refine bG ?_ ?_)))
  all_goals exact Ty.gY (cS (by omega)).symm
  all_goals trace_state
 refine cI (aP (aP (aj rfl (aB (aE (aE ?_))))))
 refine pJ (tg := 38) [] [(4, Cont.cells 60 [Ty.int .i64 y.days, Ty.sl fJ y.bins, Ty.sl eF y.moves, Ty.ex (.slice none 0 0)])] (by decide) rfl trivial ⟨jr rfl rfl ⟨cH rfl, cH rfl, nR (List.take_of_length_le (by have := m.2; omega)), cH rfl, trivial⟩, trivial⟩ ?_
 refine aA ?_
 refine aI rfl rfl rfl rfl rfl (by decide) ?_
 refine aG rfl rfl rfl rfl (b9 rfl rfl rfl (bI rfl (aD (aB (af ?_)))))
 refine cK (fun (n : {k : Nat // k ≤ y.levels.length}) => live [(1, Ty.pp (bS y)), (2, Ty.ptr 3 0), (3, Ty.ptr 4 0), (42, Ty.sl dU y.levels), (43, Ty.int .i64 y.levels.length), (44, Ty.int .i64 (n.1 : Nat))] [(3, Cont.cells 60 [Ty.int .i64 0, Ty.ex (.slice none 0 0), Ty.ex (.slice none 0 0), Ty.ex (.slice none 0 0)]), (4, Cont.cells 60 [Ty.int .i64 y.days, Ty.sl fJ y.bins, Ty.sl eF y.moves, Ty.row dU 165 52 (y.levels.take n.1)])]) (fun n => y.levels.length - n.1) (⟨0, by omega⟩) ?_ fun n => ?_
 ·(refine cv.mk' ?_ ?_ <;> (repeat' (first | exact aM | exact aL | exact c7 | refine aC ?_ (Ty.aV _) | refine aC ?_ (Ty.aF _) | refine aK rfl (Cont.aF _) ?_ | refine aK rfl (Cont.dB ?_) ?_ | refine bG ?_ (Ty.aF _) | refine bG ?_ Ty.dQ)))
  all_goals trace_state
 have hn := n.2
 refine aE (aA (bC rfl rfl rfl (aD (aB (aE ?_)))))
 refine az rfl (fun hc3 => ?_) (fun hc3 => ?_)
 ·
  refine aq (aB (aE (af (aE (aA ?_)))))
  refine ak rfl rfl rfl rfl rfl rfl (by omega) ?_
  refine aU rfl rfl rfl (by exact Nat.le_of_ble_eq_true rfl) ?_
  refine bu rfl (by exact List.cons_ne_nil _ _) rfl ?_
  refine bq rfl rfl (by decide) rfl rfl rfl rfl rfl rfl ?_
  refine aD (aB (aA ?_))
  refine aS rfl rfl rfl rfl rfl (by decide) ?_
  refine aX rfl rfl (by decide) rfl rfl rfl ?_
  refine bf rfl rfl (by decide) rfl rfl (by exact Nat.le_of_ble_eq_true rfl) ?_
  refine bg (E := dU) (xs := [nth y.levels n.1]) rfl rfl rfl rfl rfl (by decide) (by decide) (by repeat (first | exact (aW.nil : aW _ _ [] _) | (show aW _ _ ((_, _) :: _) _; apply aW.agg; (· exact (rfl : _ = Ty.agg _))))) (by exact rfl) rfl ?_
  refine fI rfl rfl (by decide) rfl rfl rfl rfl rfl rfl (by decide) (by (simp <;> omega)) (by (simp <;> omega)) ?_
  refine aS rfl rfl rfl rfl rfl (by decide) ?_
  refine dF rfl rfl (by decide) rfl rfl (by exact (rfl : _ = Ty.row _ _ _ _)) rfl (by exact Nat.le_of_ble_eq_true rfl) rfl rfl (by exact rfl) ?_
  refine aD (bM (aB (aA ?_)))
  refine b8 rfl rfl (by omega) (by omega) ?_
  refine bI rfl (aD ?_)
  refine bO (⟨n.1 + 1, by omega⟩) ?_ (by show y.levels.length - (n.1 + 1) < y.levels.length - n.1; omega)
  (refine cv.mk' ?_ ?_ <;> (repeat' (first | exact aM | exact aL | exact c7 | refine aC ?_ (Ty.aV _) | refine aC ?_ (Ty.aF _) | refine aK rfl (Cont.aF _) ?_ | refine aK rfl (Cont.dB ?_) ?_ | refine bG ?_ (Ty.aF _) | refine bG ?_ ?_)))
  all_goals exact Ty.gY (cS (by omega)).symm
  all_goals trace_state
 refine cI (aP (aP (aj rfl (aB (aE ?_)))))
 refine pJ (tg := 52) [] [(4, Cont.cells 60 [Ty.int .i64 y.days, Ty.sl fJ y.bins, Ty.sl eF y.moves, Ty.sl dU y.levels])] (by decide) rfl trivial ⟨jr rfl rfl ⟨cH rfl, cH rfl, cH rfl, nR (List.take_of_length_le (by have := n.2; omega)), trivial⟩, trivial⟩ ?_
 refine aA ?_
 refine bf rfl rfl (by decide) rfl rfl (by exact Nat.le_of_ble_eq_true rfl) ?_
 refine bq rfl rfl (by decide) rfl rfl rfl rfl rfl rfl ?_
 refine aD (aB (ay ?_))
 refine p7 rfl rfl rfl rfl (by decide) rfl rfl rfl ?_
 all_goals exact ah rfl rfl rfl
set_option maxRecDepth 100000 in
theorem AG (a : dL) (h1 : a.first.length ≤ 1000) (h2 : a.bN.length ≤ 1000) : dK Tryz.prog 54 [mA a] (mA a) := by
 refine aa Tryz.func54 rfl (by decide) Tryz.ntmps54 (by exact Nat.le_of_ble_eq_true rfl) fun w0 M0 => ?_
 refine aE (aA (bD rfl ?_))
 refine bu rfl (by exact List.cons_ne_nil _ _) rfl ?_
 refine aD (aB (aE (cN mixed rfl ?_)))
 refine aI rfl rfl rfl rfl rfl (by decide) ?_
 refine aG rfl rfl rfl rfl (aZ (pq a.first h1) rfl rfl rfl rfl rfl ?_)
 refine aI rfl rfl rfl rfl rfl (by decide) ?_
 refine aG rfl rfl rfl rfl (aZ (pq a.bN h2) rfl rfl rfl rfl rfl ?_)
 refine dJ rfl rfl (by exact List.cons_ne_nil _ _) rfl (by repeat (first | exact (aW.nil : aW _ _ [] _) | (show aW _ _ ((_, _) :: _) _; apply aW.one; (· exact (rfl : _ = Ty.sl _ _)); (· exact rfl)))) (by exact (rfl : _ = some [_, _])) ?_
 refine bq rfl rfl (by decide) rfl rfl rfl rfl rfl rfl ?_
 refine aD ?_
 refine ⟨by kernel_rfl, ?_⟩
 refine aB (ay ?_)
 refine p7 rfl rfl rfl rfl (by decide) rfl rfl rfl ?_
 all_goals exact ah rfl rfl rfl
set_option maxRecDepth 100000 in
theorem EL (y : bA) : dK Tryz.prog 69 [eB y] (Ty.bool (CO y)) := by
 refine aa Tryz.func69 rfl (by decide) Tryz.ntmps69 (by exact Nat.le_of_ble_eq_true rfl) fun w0 M0 => ?_
 refine aE (aA (bD rfl (cj rfl (aD (aB (aE (aA ?_)))))))
 refine aI rfl rfl rfl rfl rfl (by decide) ?_
 refine aG rfl rfl rfl rfl (b9 rfl rfl rfl (bC rfl rfl rfl (e8 rfl ?_)))
 apply aJ (s := 7) rfl rfl rfl
 ·intro hg; apply aO; (refine aI rfl rfl rfl rfl rfl (by decide) ?_); refine aD ?_; exact rfl
 ·exact rfl
 ·exact rfl
 apply aJ (s := 7) rfl rfl rfl
 ·intro hg; apply aH (s := 8) rfl (by (rw [hg]; rfl)); apply aO; (refine aG rfl rfl rfl rfl ?_); refine aD ?_; exact rfl
 ·exact rfl
 ·exact rfl
 apply aJ (s := 7) rfl rfl rfl
 ·intro hg; apply aH (s := 9) rfl (by (rw [hg]; rfl)); apply aO; (refine b9 rfl rfl rfl ?_); refine aD ?_; exact rfl
 ·exact rfl
 ·exact rfl
 apply aJ (s := 7) rfl rfl rfl
 ·intro hg; apply aH (s := 10) rfl (by (rw [hg]; rfl)); apply aO; (refine bC rfl rfl rfl ?_); refine aD ?_; exact rfl
 ·exact rfl
 ·exact rfl
 refine iC rfl rfl (e8 rfl ?_)
 apply aJ (s := 13) rfl rfl rfl
 ·intro hg; apply aO; (refine aI rfl rfl rfl rfl rfl (by decide) ?_); refine aD ?_; exact rfl
 ·exact rfl
 ·exact rfl
 apply aJ (s := 13) rfl rfl rfl
 ·intro hg; apply aH (s := 14) rfl (by (rw [hg]; rfl)); apply aO; (refine aG rfl rfl rfl rfl ?_); refine aD ?_; exact rfl
 ·exact rfl
 ·exact rfl
 apply aJ (s := 13) rfl rfl rfl
 ·intro hg; apply aH (s := 15) rfl (by (rw [hg]; rfl)); apply aO; (refine b9 rfl rfl rfl ?_); refine aD ?_; exact rfl
 ·exact rfl
 ·exact rfl
 apply aJ (s := 13) rfl rfl rfl
 ·intro hg; apply aH (s := 16) rfl (by (rw [hg]; rfl)); apply aO; (refine bC rfl rfl rfl ?_); refine aD ?_; exact rfl
 ·exact rfl
 ·exact rfl
 refine iC rfl rfl (cj rfl (aD (aB (ay (bJ rfl rfl ?_)))))
 all_goals exact bY rfl rfl
 all_goals trace_state
set_option maxRecDepth 100000 in
theorem vF : dK Tryz.prog 27 [] (Ty.bool true) := by
 refine aa Tryz.func27 rfl (by decide) Tryz.ntmps27 (by exact Nat.le_of_ble_eq_true rfl) fun w0 M0 => ?_
 refine aE (aA (cj rfl (aD (aB (aE (aA ?_))))))
 refine aZ (uT 0 (by decide)) rfl rfl rfl rfl rfl ?_
 refine aZ (CC (two 0) (jK (by decide)) 0) rfl rfl rfl rfl rfl ?_
 refine sn rfl (bP rfl rfl (bP rfl rfl (xX rfl (bk rfl (aD (aB (aE (aA ?_))))))))
 refine aZ (uT 0 (by decide)) rfl rfl rfl rfl rfl ?_
 refine aZ (KP (two 0) (jK (by decide))) rfl rfl rfl rfl rfl ?_
 refine sn rfl (bP rfl rfl (bP rfl rfl (xX rfl (bk rfl (aD (aB (aE (aA ?_))))))))
 refine aZ (uT 1 (by decide)) rfl rfl rfl rfl rfl ?_
 refine aZ (Jt (two 1) (jK (by decide)) 1) rfl rfl rfl rfl rfl ?_
 refine sn rfl (bP rfl rfl (bP rfl rfl ?_))
 refine bu rfl (by exact List.cons_ne_nil _ _) rfl ?_
 refine bq rfl rfl (by decide) rfl rfl rfl rfl rfl rfl ?_
 refine bk rfl (aD (aB (aE (aA ?_))))
 refine aZ (uT 1 (by decide)) rfl rfl rfl rfl rfl ?_
 refine aZ (Hy (two 1) (jK (by decide)) 0 60) rfl rfl rfl rfl rfl ?_
 refine sn rfl (bP rfl rfl (bP rfl rfl (bk rfl (bk rfl (aD (aB (aE (aA ?_))))))))
 refine dJ rfl rfl (by exact List.cons_ne_nil _ _) rfl (by repeat (exact (aW.nil : aW _ _ [] _))) (by exact (rfl : _ = some [_, _])) ?_
 refine dJ rfl rfl (by exact List.cons_ne_nil _ _) rfl (by repeat (first | exact (aW.nil : aW _ _ [] _) | (show aW _ _ ((_, _) :: _) _; apply aW.one; (· exact (rfl : _ = Ty.int _ _)); (· exact rfl)))) (by exact (rfl : _ = some [_, _])) ?_
 refine dJ rfl rfl (by exact List.cons_ne_nil _ _) rfl (by repeat (first | exact (aW.nil : aW _ _ [] _) | (show aW _ _ ((_, _) :: _) _; apply aW.one; (· exact (rfl : _ = Ty.int _ _)); (· exact rfl)))) (by exact (rfl : _ = some [_, _])) ?_
 refine bg (E := q7) (xs := wI.cells) rfl rfl rfl rfl rfl (by decide) (by decide) (by repeat (first | exact (aW.nil : aW _ _ [] _) | (show aW _ _ ((_, _) :: _) _; apply aW.agg; (· exact (rfl : _ = Ty.agg _))))) (by exact rfl) rfl ?_
 refine dJ rfl rfl (by exact List.cons_ne_nil _ _) rfl (by repeat (first | exact (aW.nil : aW _ _ [] _) | (show aW _ _ ((_, _) :: _) _; apply aW.one; (· exact (rfl : _ = Ty.sl _ _)); (· exact rfl)))) (by exact (rfl : _ = some [_, _])) ?_
 refine bu rfl (by exact List.cons_ne_nil _ _) rfl ?_
 refine bq rfl rfl (by decide) rfl rfl rfl rfl rfl rfl ?_
 refine aD (aB (aE (cN mixed rfl ?_)))
 refine aZ (uT 2 (by decide)) rfl rfl rfl rfl rfl ?_
 refine bf rfl rfl (by decide) rfl rfl (by exact Nat.le_of_ble_eq_true rfl) ?_
 refine aZ (F7 (two 2) (jK (by decide)) wI (by decide)) rfl rfl rfl rfl rfl ?_
 refine sn rfl (bP rfl rfl (bP rfl rfl (bk rfl (bk rfl (aD ?_)))))
 refine ⟨by kernel_rfl, ?_⟩
 refine aB (aE (aA ?_))
 refine aZ (uT 2 (by decide)) rfl rfl rfl rfl rfl ?_
 refine aZ (JQ (two 2) (jK (by decide))) rfl rfl rfl rfl rfl ?_
 refine sn rfl (bP rfl rfl (bP rfl rfl (xX rfl (bk rfl (aD (aB (aE (aA ?_))))))))
 refine aZ (uT 2 (by decide)) rfl rfl rfl rfl rfl ?_
 refine aZ (JW (two 2) (jK (by decide))) rfl rfl rfl rfl rfl ?_
 refine sn rfl (bP rfl rfl (bP rfl rfl (xX rfl (bk rfl (aD (aB (aE (aA ?_))))))))
 refine aZ (uT 2 (by decide)) rfl rfl rfl rfl rfl ?_
 refine aZ (Me (two 2) (jK (by decide))) rfl rfl rfl rfl rfl ?_
 refine sn rfl (bP rfl rfl (bP rfl rfl ?_))
 refine bu rfl (by exact List.cons_ne_nil _ _) rfl ?_
 refine bq rfl rfl (by decide) rfl rfl rfl rfl rfl rfl ?_
 refine bk rfl (aD (aB (aE ?_)))
 refine iU (s := 1) rfl (Ty.sub_eq (congrArg (Ty.sl dS) J8)) ?_
 refine iU (s := 2) rfl (Ty.bU Mz) ?_
 refine iU (s := 3) rfl (Ty.sub_eq (congrArg (Ty.sl dS) MT)) ?_
 refine iU (s := 4) rfl (Ty.bU (kN (k := 0) (by decide))) ?_
 refine g8 (tg := 6) rfl (Cont.m7 (congrArg dS.tys Lz)) ?_
 refine iU (s := 6) rfl (Ty.bU No) ?_
 refine iU (s := 7) rfl (Ty.bU Lv) ?_
 refine iU (s := 8) rfl (Ty.bU Kl.1.symm) ?_
 refine iU (s := 10) rfl (Ty.bU MX) ?_
 refine iU (s := 11) rfl (Ty.bU Nq.1.symm) ?_
 refine iU (s := 12) rfl (Ty.sub_eq (congrArg (Ty.sl dD) G3)) ?_
 refine iU (s := 13) rfl (Ty.bU LM.1.symm) ?_
 refine iU (s := 14) rfl (Ty.sub_eq (congrArg (Ty.sl dD) G5)) ?_
 refine iU (s := 15) rfl (Ty.bU Kx.1.symm) ?_
 refine iU (s := 17) rfl (Ty.bU KZ) ?_
 refine sC (B := live [(1, Ty.sl dS [⟨20, 30⟩, ⟨60, 90⟩, ⟨20, 80⟩]), (2, Ty.int .i64 0), (3, Ty.sl dS [⟨20, 30⟩, ⟨60, 90⟩, ⟨50, 85⟩]), (4, Ty.int .i64 0), (5, Ty.ptr 6 0), (6, Ty.int .i64 0), (7, Ty.int .i64 1), (8, Ty.int .i64 0), (10, Ty.int .i64 1), (11, Ty.int .i64 0), (12, Ty.sl dD [0, 1]), (13, Ty.int .i64 0), (14, Ty.sl dD [0]), (15, Ty.int .i64 0), (17, Ty.int .i64 7)] [(6, Cont.cells 37 (dS.tys ⟨25, 35⟩))]) ?_ ?_
 ·(refine cv.mk' ?_ ?_ <;> (repeat' (first | exact aM | exact aL | refine aC ?_ (Ty.aV _) | refine aC ?_ (Ty.aF _) | refine aK rfl (Cont.aF _) ?_)))
 refine cN mixed rfl (bI rfl (bC rfl rfl rfl (e8 rfl ?_)))
 apply aJ (s := 66) rfl rfl rfl
 ·intro hg; apply aO; (refine bI rfl ?_); refine aD ?_; exact rfl
 ·exact rfl
 ·exact rfl
 apply aJ (s := 66) rfl rfl rfl
 ·intro hg; apply aH (s := 67) rfl (by exact hg); apply aO; (refine bC rfl rfl rfl ?_); refine aD ?_; exact rfl
 ·exact rfl
 ·exact rfl
 refine eC rfl rfl (e8 rfl ?_)
 apply aJ (s := 70) rfl rfl rfl
 ·intro hg; apply aO; (refine bI rfl ?_); refine aD ?_; exact rfl
 ·exact rfl
 ·exact rfl
 apply aJ (s := 70) rfl rfl rfl
 ·intro hg; apply aH (s := 71) rfl (by exact hg); apply aO; (refine bC rfl rfl rfl ?_); refine aD ?_; exact rfl
 ·exact rfl
 ·exact rfl
 refine eC rfl rfl (e8 rfl ?_)
 apply aJ (s := 74) rfl rfl rfl
 ·intro hg; apply aO; (refine bI rfl ?_); refine aD ?_; exact rfl
 ·exact rfl
 ·exact rfl
 apply aJ (s := 74) rfl rfl rfl
 ·intro hg; apply aH (s := 75) rfl (by exact hg); apply aO; (refine bC rfl rfl rfl ?_); refine aD ?_; exact rfl
 ·exact rfl
 ·exact rfl
 refine eC rfl rfl (e8 rfl ?_)
 apply aJ (s := 78) rfl rfl rfl
 ·intro hg; apply aO; (refine bI rfl ?_); refine aD ?_; exact rfl
 ·exact rfl
 ·exact rfl
 apply aJ (s := 78) rfl rfl rfl
 ·intro hg; apply aH (s := 79) rfl (by exact hg); apply aO; (refine bC rfl rfl rfl ?_); refine aD ?_; exact rfl
 ·exact rfl
 ·exact rfl
 refine eC rfl rfl (e8 rfl ?_)
 apply aJ (s := 82) rfl rfl rfl
 ·intro hg; apply aO; (refine bI rfl ?_); refine aD ?_; exact rfl
 ·exact rfl
 ·exact rfl
 apply aJ (s := 82) rfl rfl rfl
 ·intro hg; apply aH (s := 83) rfl (by exact hg); apply aO; (refine bC rfl rfl rfl ?_); refine aD ?_; exact rfl
 ·exact rfl
 ·exact rfl
 refine eC rfl rfl (e8 rfl ?_)
 apply aJ (s := 86) rfl rfl rfl
 ·intro hg; apply aO; (refine bI rfl ?_); refine aD ?_; exact rfl
 ·exact rfl
 ·exact rfl
 apply aJ (s := 86) rfl rfl rfl
 ·intro hg; apply aH (s := 87) rfl (by exact hg); apply aO; (refine bC rfl rfl rfl ?_); refine aD ?_; exact rfl
 ·exact rfl
 ·exact rfl
 refine eC rfl rfl (e8 rfl ?_)
 apply aJ (s := 90) rfl rfl rfl
 ·intro hg; apply aO; (refine bI rfl ?_); refine aD ?_; exact rfl
 ·exact rfl
 ·exact rfl
 apply aJ (s := 90) rfl rfl rfl
 ·intro hg; apply aH (s := 91) rfl (by exact hg); apply aO; (refine bC rfl rfl rfl ?_); refine aD ?_; exact rfl
 ·exact rfl
 ·exact rfl
 refine eC rfl rfl (e8 rfl ?_)
 apply aJ (s := 94) rfl rfl rfl
 ·intro hg; apply aO; (refine ej rfl ?_); refine aD ?_; exact rfl
 ·exact rfl
 ·exact rfl
 apply aJ (s := 94) rfl rfl rfl
 ·intro hg; apply aO; (refine aZ (jq _ _) rfl rfl rfl rfl rfl ?_); refine aD ?_; exact rfl
 ·exact rfl
 ·exact rfl
 apply aJ (s := 94) rfl rfl rfl
 ·intro hg; apply aO; (refine aZ (jq _ _) rfl rfl rfl rfl rfl ?_); refine aD ?_; exact rfl
 ·exact rfl
 ·exact rfl
 apply aJ (s := 94) rfl rfl rfl
 ·intro hg; apply aO; (refine aZ (jq _ _) rfl rfl rfl rfl rfl ?_); refine aD ?_; exact rfl
 ·exact rfl
 ·exact rfl
 apply aJ (s := 94) rfl rfl rfl
 ·intro hg; apply aH (s := 96) rfl (by exact hg); apply aH (s := 97) rfl (by exact hg); apply aH (s := 98) rfl (by exact hg); apply aO; (refine bg (E := dS) (xs := [⟨20, 30⟩, ⟨60, 90⟩, ⟨20, 80⟩]) rfl rfl rfl rfl rfl (by decide) (by decide) (by repeat (first | exact (aW.nil : aW _ _ [] _) | (show aW _ _ ((_, _) :: _) _; apply aW.agg; (· exact (rfl : _ = Ty.agg _))))) (by exact rfl) rfl ?_); refine aD ?_; exact rfl
 ·exact rfl
 ·exact rfl
 apply aJ (s := 94) rfl rfl rfl
 ·intro hg; apply aH (s := 95) rfl (by exact hg); apply aH (s := 99) rfl (by exact hg); apply aO; (refine aZ (BP _ _) rfl rfl rfl rfl rfl ?_); refine aD ?_; exact rfl
 ·exact rfl
 ·exact rfl
 refine eC rfl rfl (e8 rfl ?_)
 apply aJ (s := 102) rfl rfl rfl
 ·intro hg; apply aO; (refine ej rfl ?_); refine aD ?_; exact rfl
 ·exact rfl
 ·exact rfl
 apply aJ (s := 102) rfl rfl rfl
 ·intro hg; apply aO; (refine aZ (jq _ _) rfl rfl rfl rfl rfl ?_); refine aD ?_; exact rfl
 ·exact rfl
 ·exact rfl
 apply aJ (s := 102) rfl rfl rfl
 ·intro hg; apply aO; (refine aZ (jq _ _) rfl rfl rfl rfl rfl ?_); refine aD ?_; exact rfl
 ·exact rfl
 ·exact rfl
 apply aJ (s := 102) rfl rfl rfl
 ·intro hg; apply aO; (refine aZ (jq _ _) rfl rfl rfl rfl rfl ?_); refine aD ?_; exact rfl
 ·exact rfl
 ·exact rfl
 apply aJ (s := 102) rfl rfl rfl
 ·intro hg; apply aH (s := 104) rfl (by exact hg); apply aH (s := 105) rfl (by exact hg); apply aH (s := 106) rfl (by exact hg); apply aO; (refine bg (E := dS) (xs := [⟨20, 30⟩, ⟨60, 90⟩, ⟨50, 85⟩]) rfl rfl rfl rfl rfl (by decide) (by decide) (by repeat (first | exact (aW.nil : aW _ _ [] _) | (show aW _ _ ((_, _) :: _) _; apply aW.agg; (· exact (rfl : _ = Ty.agg _))))) (by exact rfl) rfl ?_); refine aD ?_; exact rfl
 ·exact rfl
 ·exact rfl
 apply aJ (s := 102) rfl rfl rfl
 ·intro hg; apply aH (s := 103) rfl (by exact hg); apply aH (s := 107) rfl (by exact hg); apply aO; (refine aZ (BP _ _) rfl rfl rfl rfl rfl ?_); refine aD ?_; exact rfl
 ·exact rfl
 ·exact rfl
 refine eC rfl rfl (e8 rfl ?_)
 apply aJ (s := 110) rfl rfl rfl
 ·intro hg; apply aO; (refine bf rfl rfl (by decide) rfl rfl (by exact Nat.le_of_ble_eq_true rfl) ?_); refine aD ?_; exact rfl
 ·exact rfl
 ·exact rfl
 apply aJ (s := 110) rfl rfl rfl
 ·intro hg; apply aO; (refine aZ (jq _ _) rfl rfl rfl rfl rfl ?_); refine aD ?_; exact rfl
 ·exact rfl
 ·exact rfl
 apply aJ (s := 110) rfl rfl rfl
 ·intro hg; apply aH (s := 111) rfl (by exact hg); apply aH (s := 112) rfl (by exact hg); apply aO; (refine JV (Kn _ _ _ _) rfl rfl ?_); refine aD ?_; exact rfl
 ·exact rfl
 ·exact rfl
 refine eC rfl rfl (e8 rfl ?_)
 apply aJ (s := 115) rfl rfl rfl
 ·intro hg; apply aO; (refine bI rfl ?_); refine aD ?_; exact rfl
 ·exact rfl
 ·exact rfl
 apply aJ (s := 115) rfl rfl rfl
 ·intro hg; apply aH (s := 116) rfl (by exact hg); apply aO; (refine bC rfl rfl rfl ?_); refine aD ?_; exact rfl
 ·exact rfl
 ·exact rfl
 refine eC rfl rfl (e8 rfl ?_)
 apply aJ (s := 119) rfl rfl rfl
 ·intro hg; apply aO; (refine bI rfl ?_); refine aD ?_; exact rfl
 ·exact rfl
 ·exact rfl
 apply aJ (s := 119) rfl rfl rfl
 ·intro hg; apply aH (s := 120) rfl (by exact hg); apply aO; (refine bC rfl rfl rfl ?_); refine aD ?_; exact rfl
 ·exact rfl
 ·exact rfl
 refine eC rfl rfl (e8 rfl ?_)
 apply aJ (s := 123) rfl rfl rfl
 ·intro hg; apply aO; (refine ej rfl ?_); refine aD ?_; exact rfl
 ·exact rfl
 ·exact rfl
 apply aJ (s := 123) rfl rfl rfl
 ·intro hg; apply aO; (refine bg (E := dD) (xs := [0, 1]) rfl rfl rfl rfl rfl (by decide) (by decide) (by repeat (first | exact (aW.nil : aW _ _ [] _) | (show aW _ _ ((_, _) :: _) _; apply aW.one; (· exact (rfl : _ = Ty.int _ _)); (· exact rfl)))) (by exact rfl) rfl ?_); refine aD ?_; exact rfl
 ·exact rfl
 ·exact rfl
 apply aJ (s := 123) rfl rfl rfl
 ·intro hg; apply aH (s := 124) rfl (by exact hg); apply aH (s := 125) rfl (by exact hg); apply aO; (refine aZ (sJ _ _) rfl rfl rfl rfl rfl ?_); refine aD ?_; exact rfl
 ·exact rfl
 ·exact rfl
 refine eC rfl rfl (e8 rfl ?_)
 apply aJ (s := 128) rfl rfl rfl
 ·intro hg; apply aO; (refine ej rfl ?_); refine aD ?_; exact rfl
 ·exact rfl
 ·exact rfl
 apply aJ (s := 128) rfl rfl rfl
 ·intro hg; apply aO; (refine bg (E := dD) (xs := [0]) rfl rfl rfl rfl rfl (by decide) (by decide) (by repeat (first | exact (aW.nil : aW _ _ [] _) | (show aW _ _ ((_, _) :: _) _; apply aW.one; (· exact (rfl : _ = Ty.int _ _)); (· exact rfl)))) (by exact rfl) rfl ?_); refine aD ?_; exact rfl
 ·exact rfl
 ·exact rfl
 apply aJ (s := 128) rfl rfl rfl
 ·intro hg; apply aH (s := 129) rfl (by exact hg); apply aH (s := 130) rfl (by exact hg); apply aO; (refine aZ (sJ _ _) rfl rfl rfl rfl rfl ?_); refine aD ?_; exact rfl
 ·exact rfl
 ·exact rfl
 refine eC rfl rfl (cj rfl (aD ?_))
 refine ⟨by kernel_rfl, ?_⟩
 refine aB (ay (bJ rfl rfl ?_))
 all_goals exact bY rfl rfl
 all_goals trace_state
end Go.Proofs.YtelbollidfdcjaaGreat
namespace Go.Proofs.YtelbollidfdcjaaGreat
open Go Go.T
set_option maxHeartbeats 4000000
theorem jV (n lo hi : Int) : je n lo hi = !qZ n lo hi := by
 rw [Bool.eq_iff_iff]
 simp only [je, Bool.or_eq_true, decide_eq_true_eq, Bool.not_eq_true', Bool.eq_false_iff, ne_eq, dA]
 omega
def x6 (s : Span) : Bool := je s.lo 0 300 || je s.hi 0 300
def oO (y : bA) : Bool := ((je y.days 1 5 || je y.bins.length 1 4) || decide ((y.moves.length : Int) > 10)) || decide ((y.levels.length : Int) > 8)
def uE (b : sU) : Bool := je b.holds 0 300 || x6 b.first
def Bt (b : sU) : Bool := decide (b.first.lo > b.first.hi)
def yf (m : Move) : Bool := x6 m.sacks
def notM (y : bA) (m : Move) : Bool := (je m.day 0 (y.days - 1) || je m.src (-1) ((y.bins.length : Int) - 1)) || je m.dst (-1) ((y.bins.length : Int) - 1)
def KN (m : Move) : Bool := decide (m.src = m.dst)
def Ev (m : Move) : Bool := decide (m.sacks.lo > m.sacks.hi)
def DS (l : Level) : Bool := x6 l.sacks
def IG (y : bA) (l : Level) : Bool := je l.day 0 y.days || je l.bin 0 ((y.bins.length : Int) - 1)
def Ja (l : Level) : Bool := decide (l.sacks.lo > l.sacks.hi)
def mJ {α : Type} (p : α → Bool) (l : List α) (k : Nat) : Bool := (l.take k).any p
section
variable {α : Type} {p : α → Bool} {l : List α} {k : Nat}
theorem gi [Inhabited α] (h : k < l.length) : (mJ p l k || p (nth l k)) = mJ p l (k + 1) := by
 unfold mJ; rw [cS h, List.any_append]; simp
theorem fB (h : ¬ (k : Int) < (l.length : Int)) : mJ p l k = l.any p := by
 unfold mJ; rw [List.take_of_length_le (by omega)]
end
def LH (y : bA) : Bool := (y.bins.any uE || y.moves.any yf) || y.levels.any DS
def Lb (y : bA) : Bool := y.moves.any (notM y) || y.levels.any (IG y)
def MN (y : bA) : Bool := y.moves.any KN
def NV (y : bA) : Bool := (y.bins.any Bt || y.moves.any Ev) || y.levels.any Ja
def jE (y : bA) : Int := if oO y = true then 2 else if LH y = true then 3 else if Lb y = true then 1 else if MN y = true then 5 else if NV y = true then 4 else 0
theorem k9 {α : Type} {p q : α → Bool} {l : List α} (h : ∀ x ∈ l, p x = !q x) : l.any p = !l.all q := by
  induction l with
  | nil => rfl
  | cons x l ih => rw [List.any_cons, List.all_cons, ih fun y hy => h y (List.mem_cons_of_mem _ hy), h x List.mem_cons_self, Bool.not_and]
theorem nU (s : Span) : x6 s = !eo s := by unfold x6 eo; rw [jV, jV, Bool.not_and]
theorem JR (y : bA) : oO y = kM y := by unfold oO kM; rw [jV, jV]
theorem Mr (y : bA) : LH y = (jt y || iO y) := by
 unfold LH jt iO
 rw [k9 (q := fun b : sU => qZ b.holds 0 300 && eo b.first) fun b _ => by unfold uE; rw [jV, nU, Bool.not_and],
  k9 (p := yf) (q := fun m : Move => eo m.sacks) fun m _ => nU _, k9 (p := DS) (q := fun m : Level => eo m.sacks) fun m _ => nU _, Bool.or_assoc]
theorem DM (y : bA) (n : Int) : je n (-1) ((y.bins.length : Int) - 1) = !y.fin n := by
 unfold bA.fin bA.bin
 rw [jV]
 congr 1
 rw [Bool.eq_iff_iff]
 simp only [Bool.or_eq_true, decide_eq_true_eq, dA]
 omega
theorem NS (y : bA) : Lb y = (xJ y || qQ y) := by
 unfold Lb xJ qQ
 rw [k9 (q := fun m : Move => (qZ m.day 0 (y.days - 1) && y.fin m.src) && y.fin m.dst) fun m _ => by unfold notM; rw [jV, DM, DM, Bool.not_and, Bool.not_and],
  k9 (p := IG y) (q := fun l : Level => y.time l.day && y.bin l.bin) fun l _ => by unfold IG bA.time bA.bin; rw [jV, jV, Bool.not_and]]
theorem NW (y : bA) : MN y = oW y := by
 unfold MN oW
 exact k9 fun m _ => by unfold KN; rw [Bool.not_not]
theorem or_eq (y : bA) : NV y = om y := by
 have e : ∀ s : Span, decide (s.lo > s.hi) = !fO s := fun s => by
  unfold fO; rw [Bool.eq_iff_iff]; simp only [decide_eq_true_eq, Bool.not_eq_true', decide_eq_false_iff_not]; omega
 unfold NV om
 rw [k9 (p := Bt) (q := fun b : sU => fO b.first) fun b _ => e _, k9 (p := Ev) (q := fun b : Move => fO b.sacks) fun b _ => e _, k9 (p := Ja) (q := fun b : Level => fO b.sacks) fun b _ => e _]
theorem check_eq (y : bA) : jE y = bT y := by
 unfold jE bT
 rw [JR, Mr, NS, NW, or_eq]
 cases kM y <;> cases jt y <;> cases iO y <;> cases xJ y <;> cases qQ y <;> rfl
theorem OY (a b c d : Bool) : (((a || b) || c) || d) = (a || ((b || c) || d)) := by cases a <;> rfl
theorem N3 (a b c d : Bool) : (((a || b) || c) || d) = (a || (b || (c || d))) := by cases a <;> cases b <;> rfl
section
variable {y : bA} {b c : Bool}
theorem OH (h : oO y = true) : 2 = jE y := (if_pos h).symm
theorem N4 (h : oO y = false) (h1 : b = true) (e : b = LH y) : 3 = jE y := by unfold jE; rw [if_neg (ng h), if_pos (e ▸ h1)]
theorem OP (h : oO y = false) (h1 : b = false) (e : b = LH y) {b2 : Bool} (h2 : b2 = true) (e2 : b2 = Lb y) : 1 = jE y := by
 subst e; subst e2; unfold jE; rw [if_neg (ng h), if_neg (ng h1), if_pos h2]
theorem OG (h : oO y = false) (h1 : b = false) (e : b = LH y) {b2 b3 : Bool} (h2 : b2 = false) (e2 : b2 = Lb y) (h3 : b3 = true) (e3 : b3 = MN y) : 5 = jE y := by
 subst e; subst e2; subst e3; unfold jE; rw [if_neg (ng h), if_neg (ng h1), if_neg (ng h2), if_pos h3]
theorem OM (h : oO y = false) (h1 : b = false) (e : b = LH y) {b2 b3 b4 : Bool} (h2 : b2 = false) (e2 : b2 = Lb y) (h3 : b3 = false) (e3 : b3 = MN y) (h4 : b4 = true) (e4 : b4 = NV y) : 4 = jE y := by
 subst e; subst e2; subst e3; subst e4; unfold jE; rw [if_neg (ng h), if_neg (ng h1), if_neg (ng h2), if_neg (ng h3), if_pos h4]
theorem OO (h : oO y = false) (h1 : b = false) (e : b = LH y) {b2 b3 b4 : Bool} (h2 : b2 = false) (e2 : b2 = Lb y) (h3 : b3 = false) (e3 : b3 = MN y) (h4 : b4 = false) (e4 : b4 = NV y) : 0 = jE y := by
 subst e; subst e2; subst e3; subst e4; unfold jE; rw [if_neg (ng h), if_neg (ng h1), if_neg (ng h2), if_neg (ng h3), if_neg (ng h4)]
theorem Cj (h : oO y = false) : (1 ≤ y.days ∧ y.days ≤ 5) ∧ (1 ≤ (y.bins.length : Int) ∧ (y.bins.length : Int) ≤ 4) := by
 unfold oO at h
 simp only [Bool.or_eq_false_iff, jV, Bool.not_eq_false', dA] at h
 exact h.1.1
end
attribute [local irreducible] g6 fS m8 qg iZ iT ij ia ig qM iS qR dY gb qd gV qV nth fU dR av dK bodyPost Exit.then Exit.inBlock Code.wp Code.wpIn fR qb qX qT iw qW qc iY fC cT cU bodyPostM dr
set_option maxRecDepth 100000 in
theorem kr (n lo hi : Int) : dK Tryz.prog 97 [Ty.int .i64 n, Ty.int .i64 lo, Ty.int .i64 hi] (Ty.bool (je n lo hi)) := by
 refine aa Tryz.func97 rfl (by decide) Tryz.ntmps97 (by exact Nat.le_of_ble_eq_true rfl) fun w0 M0 => ?_
 refine aE (aA (cj rfl (aD (aB (aE (aA (bI rfl (bI rfl (bC rfl rfl rfl ?_)))))))))
 refine e8 rfl ?_
 apply aJ (s := 10) rfl rfl rfl
 ·intro hg; apply aO; (refine bI rfl ?_); refine aD ?_; exact rfl
 ·exact rfl
 ·exact rfl
 apply aJ (s := 10) rfl rfl rfl
 ·intro hg; apply aO; (refine bI rfl ?_); refine aD ?_; exact rfl
 ·exact rfl
 ·exact rfl
 apply aJ (s := 10) rfl rfl rfl
 ·intro hg; apply aH (s := 11) rfl (by (rw [hg]; rfl)); apply aH (s := 12) rfl (by (rw [hg]; rfl)); apply aO; (refine bC rfl rfl rfl ?_); refine aD ?_; exact rfl
 ·exact rfl
 ·exact rfl
 refine iC rfl rfl (cj rfl (aD (aB (ay (bJ rfl rfl ?_)))))
 all_goals exact bY rfl rfl
set_option maxRecDepth 100000 in
theorem z3 (s : Span) : dK Tryz.prog 98 [Ty.agg (dS.tys s)] (Ty.bool (x6 s)) := by
 refine aa Tryz.func98 rfl (by decide) Tryz.ntmps98 (by exact Nat.le_of_ble_eq_true rfl) fun w0 M0 => ?_
 refine aE (aA (bD rfl (cj rfl (aD (aB (aE (aA ?_)))))))
 refine aI rfl rfl rfl rfl rfl (by decide) ?_
 refine aG rfl rfl rfl rfl (aZ (kr _ _ _) rfl rfl rfl rfl rfl (e8 rfl ?_))
 apply aJ (s := 6) rfl rfl rfl
 ·intro hg; apply aO; (refine aI rfl rfl rfl rfl rfl (by decide) ?_); refine aD ?_; exact rfl
 ·exact rfl
 ·exact rfl
 apply aJ (s := 6) rfl rfl rfl
 ·intro hg; apply aH (s := 7) rfl (by (rw [hg]; rfl)); apply aO; (refine aG rfl rfl rfl rfl ?_); refine aD ?_; exact rfl
 ·exact rfl
 ·exact rfl
 apply aJ (s := 6) rfl rfl rfl
 ·intro hg; apply aH (s := 8) rfl (by (rw [hg]; rfl)); apply aO; (refine aZ (kr _ _ _) rfl rfl rfl rfl rfl ?_); refine aD ?_; exact rfl
 ·exact rfl
 ·exact rfl
 refine iC rfl rfl (cj rfl (aD (aB (ay (bJ rfl rfl ?_)))))
 all_goals exact bY rfl rfl
set_option maxRecDepth 100000 in
theorem G6 (y : bA) (hs : y.Small) : dK Tryz.prog 31 [eB y] (Ty.int .i64 (jE y)) := by
 refine aa Tryz.func31 rfl (by decide) Tryz.ntmps31 (by exact Nat.le_of_ble_eq_true rfl) fun w0 M0 => ?_
 have hs1 := hs.bins
 have hs2 := hs.moves
 have hs3 := hs.levels
 refine aE (aA (bD rfl (bk rfl (aD (aB (aE (aE (aA ?_))))))))
 refine aI rfl rfl rfl rfl rfl (by decide) ?_
 refine aG rfl rfl rfl rfl (aZ (kr _ _ _) rfl rfl rfl rfl rfl (e8 rfl ?_))
 apply aJ (s := 15) rfl rfl rfl
 ·intro hg; apply aO; (refine aI rfl rfl rfl rfl rfl (by decide) ?_); refine aD ?_; exact rfl
 ·exact rfl
 ·exact rfl
 apply aJ (s := 15) rfl rfl rfl
 ·intro hg; apply aH (s := 16) rfl (by (rw [hg]; rfl)); apply aO; (refine aG rfl rfl rfl rfl ?_); refine aD ?_; exact rfl
 ·exact rfl
 ·exact rfl
 apply aJ (s := 15) rfl rfl rfl
 ·intro hg; apply aH (s := 17) rfl (by (rw [hg]; rfl)); apply aO; (refine b9 rfl rfl rfl ?_); refine aD ?_; exact rfl
 ·exact rfl
 ·exact rfl
 apply aJ (s := 15) rfl rfl rfl
 ·intro hg; apply aH (s := 18) rfl (by (rw [hg]; rfl)); apply aO; (refine aZ (kr _ _ _) rfl rfl rfl rfl rfl ?_); refine aD ?_; exact rfl
 ·exact rfl
 ·exact rfl
 refine iC rfl rfl (e8 rfl ?_)
 apply aJ (s := 21) rfl rfl rfl
 ·intro hg; apply aO; (refine aI rfl rfl rfl rfl rfl (by decide) ?_); refine aD ?_; exact rfl
 ·exact rfl
 ·exact rfl
 apply aJ (s := 21) rfl rfl rfl
 ·intro hg; apply aH (s := 22) rfl (by (rw [hg]; rfl)); apply aO; (refine aG rfl rfl rfl rfl ?_); refine aD ?_; exact rfl
 ·exact rfl
 ·exact rfl
 apply aJ (s := 21) rfl rfl rfl
 ·intro hg; apply aH (s := 23) rfl (by (rw [hg]; rfl)); apply aO; (refine b9 rfl rfl rfl ?_); refine aD ?_; exact rfl
 ·exact rfl
 ·exact rfl
 apply aJ (s := 21) rfl rfl rfl
 ·intro hg; apply aH (s := 24) rfl (by (rw [hg]; rfl)); apply aO; (refine bC rfl rfl rfl ?_); refine aD ?_; exact rfl
 ·exact rfl
 ·exact rfl
 refine iC rfl rfl (e8 rfl ?_)
 apply aJ (s := 27) rfl rfl rfl
 ·intro hg; apply aO; (refine aI rfl rfl rfl rfl rfl (by decide) ?_); refine aD ?_; exact rfl
 ·exact rfl
 ·exact rfl
 apply aJ (s := 27) rfl rfl rfl
 ·intro hg; apply aH (s := 28) rfl (by (rw [hg]; rfl)); apply aO; (refine aG rfl rfl rfl rfl ?_); refine aD ?_; exact rfl
 ·exact rfl
 ·exact rfl
 apply aJ (s := 27) rfl rfl rfl
 ·intro hg; apply aH (s := 29) rfl (by (rw [hg]; rfl)); apply aO; (refine b9 rfl rfl rfl ?_); refine aD ?_; exact rfl
 ·exact rfl
 ·exact rfl
 apply aJ (s := 27) rfl rfl rfl
 ·intro hg; apply aH (s := 30) rfl (by (rw [hg]; rfl)); apply aO; (refine bC rfl rfl rfl ?_); refine aD ?_; exact rfl
 ·exact rfl
 ·exact rfl
 refine iC rfl rfl (aD (aB ?_))
 refine bt rfl (fun hc1 => ?_) (fun hc1 => ?_)
 ·
  refine aE (aA (bk rfl (aD (aB (ay (aQ (bJ rfl rfl ?_)))))))
  all_goals skip
  exact ah rfl rfl (congrArg (Ty.int .i64) (OH hc1))
 refine aq (aB (aE ?_))
 have hmy := Cj hc1
 refine aA (cj rfl (cj rfl (cj rfl (cj rfl (aD (aB (aE (aE (aA ?_)))))))))
 refine bk rfl (aD (aB (af ?_)))
 refine cK (fun (k : {k : Nat // k ≤ y.bins.length}) => live [(1, Ty.pp (bS y)), (3, Ty.bool (mJ uE y.bins k.1)), (4, Ty.bool false), (5, Ty.bool false), (6, Ty.bool (mJ Bt y.bins k.1)), (7, Ty.int .i64 (k.1 : Nat))] []) (fun k => y.bins.length - k.1) (⟨0, by omega⟩) ?_ fun k => ?_
 ·(refine cv.mk' ?_ ?_ <;> (repeat' (first | exact aM | exact aL | refine aC ?_ (Ty.aV _) | refine aC ?_ (Ty.aF _))))
  all_goals trace_state
 have hk := k.2
 refine aE (aE (aA (bI rfl ?_)))
 refine aI rfl rfl rfl rfl rfl (by decide) ?_
 refine aG rfl rfl rfl rfl (b9 rfl rfl rfl (bC rfl rfl rfl (aD (aB ?_))))
 refine az rfl (fun hc2 => ?_) (fun hc2 => ?_)
 ·
  refine aq (aB (aE (af (aE (aA (e8 rfl (e8 rfl ?_)))))))
  apply aJ (s := 41) rfl rfl rfl
  ·intro hg; apply aO; (refine aI rfl rfl rfl rfl rfl (by decide) ?_); refine aD ?_; exact rfl
  ·exact rfl
  ·exact rfl
  apply aJ (s := 41) rfl rfl rfl
  ·intro hg; apply aH (s := 42) rfl (by (rw [hg]; rfl)); apply aO; (refine aG rfl rfl rfl rfl ?_); refine aD ?_; exact rfl
  ·exact rfl
  ·exact rfl
  apply aJ (s := 41) rfl rfl rfl
  ·intro hg; apply aO; (refine bI rfl ?_); refine aD ?_; exact rfl
  ·exact rfl
  ·exact rfl
  apply aJ (s := 41) rfl rfl rfl
  ·intro hg; apply aH (s := 43) rfl (by (rw [hg]; rfl)); apply aH (s := 44) rfl (by (rw [hg]; rfl)); apply aO; (refine ak rfl rfl rfl rfl rfl rfl (by omega) ?_); refine aD ?_; exact rfl
  ·exact rfl
  ·exact rfl
  apply aJ (s := 41) rfl rfl rfl
  ·intro hg; apply aH (s := 45) rfl (by (rw [hg]; rfl)); apply aO; (refine aI rfl rfl rfl rfl rfl (by decide) ?_); refine aD ?_; exact rfl
  ·exact rfl
  ·exact rfl
  apply aJ (s := 41) rfl rfl rfl
  ·intro hg; apply aH (s := 46) rfl (by (rw [hg]; rfl)); apply aO; (refine aG rfl rfl rfl rfl ?_); refine aD ?_; exact rfl
  ·exact rfl
  ·exact rfl
  apply aJ (s := 41) rfl rfl rfl
  ·intro hg; apply aH (s := 47) rfl (by (rw [hg]; rfl)); apply aO; (refine aZ (kr _ _ _) rfl rfl rfl rfl rfl ?_); refine aD ?_; exact rfl
  ·exact rfl
  ·exact rfl
  refine iC rfl rfl (e8 rfl ?_)
  apply aJ (s := 50) rfl rfl rfl
  ·intro hg; apply aO; (refine aI rfl rfl rfl rfl rfl (by decide) ?_); refine aD ?_; exact rfl
  ·exact rfl
  ·exact rfl
  apply aJ (s := 50) rfl rfl rfl
  ·intro hg; apply aH (s := 51) rfl (by (rw [hg]; rfl)); apply aO; (refine aG rfl rfl rfl rfl ?_); refine aD ?_; exact rfl
  ·exact rfl
  ·exact rfl
  apply aJ (s := 50) rfl rfl rfl
  ·intro hg; apply aO; (refine bI rfl ?_); refine aD ?_; exact rfl
  ·exact rfl
  ·exact rfl
  apply aJ (s := 50) rfl rfl rfl
  ·intro hg; apply aH (s := 52) rfl (by (rw [hg]; rfl)); apply aH (s := 53) rfl (by (rw [hg]; rfl)); apply aO; (refine ak rfl rfl rfl rfl rfl rfl (by omega) ?_); refine aD ?_; exact rfl
  ·exact rfl
  ·exact rfl
  apply aJ (s := 50) rfl rfl rfl
  ·intro hg; apply aH (s := 54) rfl (by (rw [hg]; rfl)); apply aO; (refine aI rfl rfl rfl rfl rfl (by decide) ?_); refine aD ?_; exact rfl
  ·exact rfl
  ·exact rfl
  apply aJ (s := 50) rfl rfl rfl
  ·intro hg; apply aH (s := 55) rfl (by (rw [hg]; rfl)); apply aO; (refine aU rfl rfl rfl (by exact Nat.le_of_ble_eq_true rfl) ?_); refine aD ?_; exact rfl
  ·exact rfl
  ·exact rfl
  apply aJ (s := 50) rfl rfl rfl
  ·intro hg; apply aH (s := 56) rfl (by (rw [hg]; rfl)); apply aO; (refine aZ (z3 _) rfl rfl rfl rfl rfl ?_); refine aD ?_; exact rfl
  ·exact rfl
  ·exact rfl
  refine iC rfl rfl (cj rfl (aD (aB (cN mixed rfl (e8 rfl (e8 rfl ?_))))))
  apply aJ (s := 60) rfl rfl rfl
  ·intro hg; apply aO; (refine aI rfl rfl rfl rfl rfl (by decide) ?_); refine aD ?_; exact rfl
  ·exact rfl
  ·exact rfl
  apply aJ (s := 60) rfl rfl rfl
  ·intro hg; apply aH (s := 61) rfl (by (rw [hg]; rfl)); apply aO; (refine aG rfl rfl rfl rfl ?_); refine aD ?_; exact rfl
  ·exact rfl
  ·exact rfl
  apply aJ (s := 60) rfl rfl rfl
  ·intro hg; apply aO; (refine bI rfl ?_); refine aD ?_; exact rfl
  ·exact rfl
  ·exact rfl
  apply aJ (s := 60) rfl rfl rfl
  ·intro hg; apply aH (s := 62) rfl (by (rw [hg]; rfl)); apply aH (s := 63) rfl (by (rw [hg]; rfl)); apply aO; (refine ak rfl rfl rfl rfl rfl rfl (by omega) ?_); refine aD ?_; exact rfl
  ·exact rfl
  ·exact rfl
  apply aJ (s := 60) rfl rfl rfl
  ·intro hg; apply aH (s := 64) rfl (by (rw [hg]; rfl)); apply aO; (refine aI rfl rfl rfl rfl rfl (by decide) ?_); refine aD ?_; exact rfl
  ·exact rfl
  ·exact rfl
  apply aJ (s := 60) rfl rfl rfl
  ·intro hg; apply aH (s := 65) rfl (by (rw [hg]; rfl)); apply aO; (refine aI rfl rfl rfl rfl rfl (by decide) ?_); refine aD ?_; exact rfl
  ·exact rfl
  ·exact rfl
  apply aJ (s := 60) rfl rfl rfl
  ·intro hg; apply aH (s := 66) rfl (by (rw [hg]; rfl)); apply aO; (refine aG rfl rfl rfl rfl ?_); refine aD ?_; exact rfl
  ·exact rfl
  ·exact rfl
  apply aJ (s := 60) rfl rfl rfl
  ·intro hg; apply aO; (refine aI rfl rfl rfl rfl rfl (by decide) ?_); refine aD ?_; exact rfl
  ·exact rfl
  ·exact rfl
  apply aJ (s := 60) rfl rfl rfl
  ·intro hg; apply aH (s := 68) rfl (by (rw [hg]; rfl)); apply aO; (refine aG rfl rfl rfl rfl ?_); refine aD ?_; exact rfl
  ·exact rfl
  ·exact rfl
  apply aJ (s := 60) rfl rfl rfl
  ·intro hg; apply aO; (refine bI rfl ?_); refine aD ?_; exact rfl
  ·exact rfl
  ·exact rfl
  apply aJ (s := 60) rfl rfl rfl
  ·intro hg; apply aH (s := 69) rfl (by (rw [hg]; rfl)); apply aH (s := 70) rfl (by (rw [hg]; rfl)); apply aO; (refine ak rfl rfl rfl rfl rfl rfl (by omega) ?_); refine aD ?_; exact rfl
  ·exact rfl
  ·exact rfl
  apply aJ (s := 60) rfl rfl rfl
  ·intro hg; apply aH (s := 71) rfl (by (rw [hg]; rfl)); apply aO; (refine aI rfl rfl rfl rfl rfl (by decide) ?_); refine aD ?_; exact rfl
  ·exact rfl
  ·exact rfl
  apply aJ (s := 60) rfl rfl rfl
  ·intro hg; apply aH (s := 72) rfl (by (rw [hg]; rfl)); apply aO; (refine aI rfl rfl rfl rfl rfl (by decide) ?_); refine aD ?_; exact rfl
  ·exact rfl
  ·exact rfl
  apply aJ (s := 60) rfl rfl rfl
  ·intro hg; apply aH (s := 73) rfl (by (rw [hg]; rfl)); apply aO; (refine aG rfl rfl rfl rfl ?_); refine aD ?_; exact rfl
  ·exact rfl
  ·exact rfl
  apply aJ (s := 60) rfl rfl rfl
  ·intro hg; apply aH (s := 67) rfl (by (rw [hg]; rfl)); apply aH (s := 74) rfl (by (rw [hg]; rfl)); apply aO; (refine bC rfl rfl rfl ?_); refine aD ?_; exact rfl
  ·exact rfl
  ·exact rfl
  refine iC rfl rfl (cj rfl (aD ?_))
  refine ⟨by kernel_rfl, ?_⟩
  refine bM (aB (aA (bI rfl ?_)))
  refine b8 rfl rfl (by omega) (by omega) ?_
  refine bk rfl (aD ?_)
  refine bO (⟨k.1 + 1, by omega⟩) ?_ (by show y.bins.length - (k.1 + 1) < y.bins.length - k.1; omega)
  (refine cv.mk' ?_ ?_ <;> (repeat' (first | exact aM | exact aL | refine aC ?_ (Ty.aV _) | refine aC ?_ (Ty.aF _) | refine aC ?_ ?_)))
  all_goals skip
  all_goals first | exact Ty.dM ((Bool.or_assoc _ _ _).trans (gi (p := uE) (by omega))) | exact Ty.dM (gi (p := Bt) (by omega))
 refine cI (aP (aP (aj rfl (aB (aE (aE (aA (bk rfl (aD ?_)))))))))
 refine aB (af ?_)
 refine cK (fun (m : {k : Nat // k ≤ y.moves.length}) => live [(1, Ty.pp (bS y)), (3, Ty.bool (y.bins.any uE || mJ yf y.moves m.1)), (4, Ty.bool (mJ (notM y) y.moves m.1)), (5, Ty.bool (mJ KN y.moves m.1)), (6, Ty.bool (y.bins.any Bt || mJ Ev y.moves m.1)), (8, Ty.int .i64 (m.1 : Nat))] []) (fun m => y.moves.length - m.1) (⟨0, by omega⟩) ?_ fun m => ?_
 ·(refine cv.mk' ?_ ?_ <;> (repeat' (first | exact aM | exact aL | refine aC ?_ (Ty.aV _) | refine aC ?_ (Ty.aF _) | refine aC ?_ ?_)))
  all_goals exact Ty.dM ((fB hc2).trans (Bool.or_false _).symm)
 have hm := m.2
 refine aE (aE (aA (bI rfl ?_)))
 refine aI rfl rfl rfl rfl rfl (by decide) ?_
 refine aG rfl rfl rfl rfl (b9 rfl rfl rfl (bC rfl rfl rfl (aD (aB ?_))))
 refine az rfl (fun hc3 => ?_) (fun hc3 => ?_)
 ·
  refine aq (aB (aE (af (aE (aA ?_)))))
  refine aI rfl rfl rfl rfl rfl (by decide) ?_
  refine aG rfl rfl rfl rfl (bI rfl ?_)
  refine ak rfl rfl rfl rfl rfl rfl (by omega) ?_
  refine aU rfl rfl rfl (by exact Nat.le_of_ble_eq_true rfl) ?_
  refine bu rfl (by exact List.cons_ne_nil _ _) rfl ?_
  refine bq rfl rfl (by decide) rfl rfl rfl rfl rfl rfl ?_
  refine aD (aB (aE (aA (e8 rfl (e8 rfl ?_)))))
  apply aJ (s := 90) rfl rfl rfl
  ·intro hg; apply aO; (refine aS rfl rfl rfl rfl rfl (by decide) ?_); refine aD ?_; exact rfl
  ·exact rfl
  ·exact rfl
  apply aJ (s := 90) rfl rfl rfl
  ·intro hg; apply aH (s := 91) rfl (by (rw [hg]; rfl)); apply aO; (refine bf rfl rfl (by decide) rfl rfl (by exact Nat.le_of_ble_eq_true rfl) ?_); refine aD ?_; exact rfl
  ·exact rfl
  ·exact rfl
  apply aJ (s := 90) rfl rfl rfl
  ·intro hg; apply aH (s := 92) rfl (by (rw [hg]; rfl)); apply aO; (refine aZ (z3 _) rfl rfl rfl rfl rfl ?_); refine aD ?_; exact rfl
  ·exact rfl
  ·exact rfl
  refine iC rfl rfl (cj rfl (aD (aB (aE (aA (e8 rfl (e8 rfl ?_)))))))
  apply aJ (s := 96) rfl rfl rfl
  ·intro hg; apply aO; (refine aS rfl rfl rfl rfl rfl (by decide) ?_); refine aD ?_; exact rfl
  ·exact rfl
  ·exact rfl
  apply aJ (s := 96) rfl rfl rfl
  ·intro hg; apply aH (s := 97) rfl (by (rw [hg]; rfl)); apply aO; (refine aX rfl rfl (by decide) rfl rfl rfl ?_); refine aD ?_; exact rfl
  ·exact rfl
  ·exact rfl
  apply aJ (s := 96) rfl rfl rfl
  ·intro hg; apply aO; (refine aI rfl rfl rfl rfl rfl (by decide) ?_); refine aD ?_; exact rfl
  ·exact rfl
  ·exact rfl
  apply aJ (s := 96) rfl rfl rfl
  ·intro hg; apply aH (s := 99) rfl (by (rw [hg]; rfl)); apply aO; (refine aG rfl rfl rfl rfl ?_); refine aD ?_; exact rfl
  ·exact rfl
  ·exact rfl
  apply aJ (s := 96) rfl rfl rfl
  ·intro hg; apply aH (s := 100) rfl (by (rw [hg]; rfl)); apply aO; (refine iA rfl rfl (by omega) (by omega) ?_); refine aD ?_; exact rfl
  ·exact rfl
  ·exact rfl
  apply aJ (s := 96) rfl rfl rfl
  ·intro hg; apply aH (s := 98) rfl (by (rw [hg]; rfl)); apply aH (s := 101) rfl (by (rw [hg]; rfl)); apply aO; (refine aZ (kr _ _ _) rfl rfl rfl rfl rfl ?_); refine aD ?_; exact rfl
  ·exact rfl
  ·exact rfl
  refine iC rfl rfl (e8 rfl ?_)
  apply aJ (s := 104) rfl rfl rfl
  ·intro hg; apply aO; (refine aS rfl rfl rfl rfl rfl (by decide) ?_); refine aD ?_; exact rfl
  ·exact rfl
  ·exact rfl
  apply aJ (s := 104) rfl rfl rfl
  ·intro hg; apply aH (s := 105) rfl (by (rw [hg]; rfl)); apply aO; (refine aX rfl rfl (by decide) rfl rfl rfl ?_); refine aD ?_; exact rfl
  ·exact rfl
  ·exact rfl
  apply aJ (s := 104) rfl rfl rfl
  ·intro hg; apply aO; (refine aI rfl rfl rfl rfl rfl (by decide) ?_); refine aD ?_; exact rfl
  ·exact rfl
  ·exact rfl
  apply aJ (s := 104) rfl rfl rfl
  ·intro hg; apply aH (s := 107) rfl (by (rw [hg]; rfl)); apply aO; (refine aG rfl rfl rfl rfl ?_); refine aD ?_; exact rfl
  ·exact rfl
  ·exact rfl
  apply aJ (s := 104) rfl rfl rfl
  ·intro hg; apply aH (s := 108) rfl (by (rw [hg]; rfl)); apply aO; (refine b9 rfl rfl rfl ?_); refine aD ?_; exact rfl
  ·exact rfl
  ·exact rfl
  apply aJ (s := 104) rfl rfl rfl
  ·intro hg; apply aH (s := 109) rfl (by (rw [hg]; rfl)); apply aO; (refine iA rfl rfl (by omega) (by omega) ?_); refine aD ?_; exact rfl
  ·exact rfl
  ·exact rfl
  apply aJ (s := 104) rfl rfl rfl
  ·intro hg; apply aH (s := 106) rfl (by (rw [hg]; rfl)); apply aH (s := 110) rfl (by (rw [hg]; rfl)); apply aO; (refine aZ (kr _ _ _) rfl rfl rfl rfl rfl ?_); refine aD ?_; exact rfl
  ·exact rfl
  ·exact rfl
  refine iC rfl rfl (e8 rfl ?_)
  apply aJ (s := 113) rfl rfl rfl
  ·intro hg; apply aO; (refine aS rfl rfl rfl rfl rfl (by decide) ?_); refine aD ?_; exact rfl
  ·exact rfl
  ·exact rfl
  apply aJ (s := 113) rfl rfl rfl
  ·intro hg; apply aH (s := 114) rfl (by (rw [hg]; rfl)); apply aO; (refine aX rfl rfl (by decide) rfl rfl rfl ?_); refine aD ?_; exact rfl
  ·exact rfl
  ·exact rfl
  apply aJ (s := 113) rfl rfl rfl
  ·intro hg; apply aO; (refine aI rfl rfl rfl rfl rfl (by decide) ?_); refine aD ?_; exact rfl
  ·exact rfl
  ·exact rfl
  apply aJ (s := 113) rfl rfl rfl
  ·intro hg; apply aH (s := 116) rfl (by (rw [hg]; rfl)); apply aO; (refine aG rfl rfl rfl rfl ?_); refine aD ?_; exact rfl
  ·exact rfl
  ·exact rfl
  apply aJ (s := 113) rfl rfl rfl
  ·intro hg; apply aH (s := 117) rfl (by (rw [hg]; rfl)); apply aO; (refine b9 rfl rfl rfl ?_); refine aD ?_; exact rfl
  ·exact rfl
  ·exact rfl
  apply aJ (s := 113) rfl rfl rfl
  ·intro hg; apply aH (s := 118) rfl (by (rw [hg]; rfl)); apply aO; (refine iA rfl rfl (by omega) (by omega) ?_); refine aD ?_; exact rfl
  ·exact rfl
  ·exact rfl
  apply aJ (s := 113) rfl rfl rfl
  ·intro hg; apply aH (s := 115) rfl (by (rw [hg]; rfl)); apply aH (s := 119) rfl (by (rw [hg]; rfl)); apply aO; (refine aZ (kr _ _ _) rfl rfl rfl rfl rfl ?_); refine aD ?_; exact rfl
  ·exact rfl
  ·exact rfl
  refine iC rfl rfl (cj rfl (aD (aB (aE (aA (e8 rfl (e8 rfl ?_)))))))
  apply aJ (s := 123) rfl rfl rfl
  ·intro hg; apply aO; (refine aS rfl rfl rfl rfl rfl (by decide) ?_); refine aD ?_; exact rfl
  ·exact rfl
  ·exact rfl
  apply aJ (s := 123) rfl rfl rfl
  ·intro hg; apply aH (s := 124) rfl (by (rw [hg]; rfl)); apply aO; (refine aX rfl rfl (by decide) rfl rfl rfl ?_); refine aD ?_; exact rfl
  ·exact rfl
  ·exact rfl
  apply aJ (s := 123) rfl rfl rfl
  ·intro hg; apply aO; (refine aS rfl rfl rfl rfl rfl (by decide) ?_); refine aD ?_; exact rfl
  ·exact rfl
  ·exact rfl
  apply aJ (s := 123) rfl rfl rfl
  ·intro hg; apply aH (s := 126) rfl (by (rw [hg]; rfl)); apply aO; (refine aX rfl rfl (by decide) rfl rfl rfl ?_); refine aD ?_; exact rfl
  ·exact rfl
  ·exact rfl
  apply aJ (s := 123) rfl rfl rfl
  ·intro hg; apply aH (s := 125) rfl (by (rw [hg]; rfl)); apply aH (s := 127) rfl (by (rw [hg]; rfl)); apply aO; (refine bC rfl rfl rfl ?_); refine aD ?_; exact rfl
  ·exact rfl
  ·exact rfl
  refine iC rfl rfl (cj rfl (aD (aB (aA (e8 rfl (e8 rfl ?_))))))
  apply aJ (s := 131) rfl rfl rfl
  ·intro hg; apply aO; (refine aS rfl rfl rfl rfl rfl (by decide) ?_); refine aD ?_; exact rfl
  ·exact rfl
  ·exact rfl
  apply aJ (s := 131) rfl rfl rfl
  ·intro hg; apply aH (s := 132) rfl (by (rw [hg]; rfl)); apply aO; (refine aS rfl rfl rfl rfl rfl (by decide) ?_); refine aD ?_; exact rfl
  ·exact rfl
  ·exact rfl
  apply aJ (s := 131) rfl rfl rfl
  ·intro hg; apply aH (s := 133) rfl (by (rw [hg]; rfl)); apply aO; (refine aX rfl rfl (by decide) rfl rfl rfl ?_); refine aD ?_; exact rfl
  ·exact rfl
  ·exact rfl
  apply aJ (s := 131) rfl rfl rfl
  ·intro hg; apply aO; (refine aS rfl rfl rfl rfl rfl (by decide) ?_); refine aD ?_; exact rfl
  ·exact rfl
  ·exact rfl
  apply aJ (s := 131) rfl rfl rfl
  ·intro hg; apply aH (s := 135) rfl (by (rw [hg]; rfl)); apply aO; (refine aS rfl rfl rfl rfl rfl (by decide) ?_); refine aD ?_; exact rfl
  ·exact rfl
  ·exact rfl
  apply aJ (s := 131) rfl rfl rfl
  ·intro hg; apply aH (s := 136) rfl (by (rw [hg]; rfl)); apply aO; (refine aX rfl rfl (by decide) rfl rfl rfl ?_); refine aD ?_; exact rfl
  ·exact rfl
  ·exact rfl
  apply aJ (s := 131) rfl rfl rfl
  ·intro hg; apply aH (s := 134) rfl (by (rw [hg]; rfl)); apply aH (s := 137) rfl (by (rw [hg]; rfl)); apply aO; (refine bC rfl rfl rfl ?_); refine aD ?_; exact rfl
  ·exact rfl
  ·exact rfl
  refine iC rfl rfl (cj rfl (aD (bM (aB (aA (bI rfl ?_))))))
  refine b8 rfl rfl (by omega) (by omega) ?_
  refine bk rfl (aD ?_)
  refine bO (⟨m.1 + 1, by omega⟩) ?_ (by show y.moves.length - (m.1 + 1) < y.moves.length - m.1; omega)
  (refine cv.mk' ?_ ?_ <;> (repeat' (first | exact aM | exact aL | refine aC ?_ (Ty.aV _) | refine aC ?_ (Ty.aF _) | refine aC ?_ ?_)))
  all_goals skip
  all_goals first | exact Ty.dM ((Bool.or_assoc _ _ _).trans (congrArg (y.bins.any uE || ·) (gi (p := yf) (by omega)))) | exact Ty.dM ((Bool.or_assoc _ _ _).trans (congrArg (y.bins.any Bt || ·) (gi (p := Ev) (by omega)))) | exact Ty.dM ((OY _ _ _ _).trans (gi (p := notM y) (by omega))) | exact Ty.dM (gi (p := KN) (by omega))
 refine cI (aP (aP (aj rfl (aB (aE (aE (aA (bk rfl (aD ?_)))))))))
 refine aB (af ?_)
 refine cK (fun (n : {k : Nat // k ≤ y.levels.length}) => live [(1, Ty.pp (bS y)), (3, Ty.bool ((y.bins.any uE || y.moves.any yf) || mJ DS y.levels n.1)), (4, Ty.bool (y.moves.any (notM y) || mJ (IG y) y.levels n.1)), (5, Ty.bool (MN y)), (6, Ty.bool ((y.bins.any Bt || y.moves.any Ev) || mJ Ja y.levels n.1)), (10, Ty.int .i64 (n.1 : Nat))] []) (fun n => y.levels.length - n.1) (⟨0, by omega⟩) ?_ fun n => ?_
 ·(refine cv.mk' ?_ ?_ <;> (repeat' (first | exact aM | exact aL | refine aC ?_ (Ty.aV _) | refine aC ?_ (Ty.aF _) | refine aC ?_ ?_)))
  all_goals first | exact Ty.dM ((congrArg (_ || ·) (fB hc3)).trans (Bool.or_false _).symm) | exact Ty.dM ((fB hc3).trans (Bool.or_false _).symm) | exact Ty.dM (fB hc3)
 have hn := n.2
 refine aE (aE (aA (bI rfl ?_)))
 refine aI rfl rfl rfl rfl rfl (by decide) ?_
 refine aG rfl rfl rfl rfl (b9 rfl rfl rfl (bC rfl rfl rfl (aD (aB ?_))))
 refine az rfl (fun hc4 => ?_) (fun hc4 => ?_)
 ·
  refine aq (aB (aE (af (aE (aA ?_)))))
  refine aI rfl rfl rfl rfl rfl (by decide) ?_
  refine aG rfl rfl rfl rfl (bI rfl ?_)
  refine ak rfl rfl rfl rfl rfl rfl (by omega) ?_
  refine aU rfl rfl rfl (by exact Nat.le_of_ble_eq_true rfl) ?_
  refine bu rfl (by exact List.cons_ne_nil _ _) rfl ?_
  refine bq rfl rfl (by decide) rfl rfl rfl rfl rfl rfl ?_
  refine aD (aB (aE (aA (e8 rfl (e8 rfl ?_)))))
  apply aJ (s := 153) rfl rfl rfl
  ·intro hg; apply aO; (refine aS rfl rfl rfl rfl rfl (by decide) ?_); refine aD ?_; exact rfl
  ·exact rfl
  ·exact rfl
  apply aJ (s := 153) rfl rfl rfl
  ·intro hg; apply aH (s := 154) rfl (by (rw [hg]; rfl)); apply aO; (refine bf rfl rfl (by decide) rfl rfl (by exact Nat.le_of_ble_eq_true rfl) ?_); refine aD ?_; exact rfl
  ·exact rfl
  ·exact rfl
  apply aJ (s := 153) rfl rfl rfl
  ·intro hg; apply aH (s := 155) rfl (by (rw [hg]; rfl)); apply aO; (refine aZ (z3 _) rfl rfl rfl rfl rfl ?_); refine aD ?_; exact rfl
  ·exact rfl
  ·exact rfl
  refine iC rfl rfl (cj rfl (aD (aB (aE (aA (e8 rfl (e8 rfl ?_)))))))
  apply aJ (s := 159) rfl rfl rfl
  ·intro hg; apply aO; (refine aS rfl rfl rfl rfl rfl (by decide) ?_); refine aD ?_; exact rfl
  ·exact rfl
  ·exact rfl
  apply aJ (s := 159) rfl rfl rfl
  ·intro hg; apply aH (s := 160) rfl (by (rw [hg]; rfl)); apply aO; (refine aX rfl rfl (by decide) rfl rfl rfl ?_); refine aD ?_; exact rfl
  ·exact rfl
  ·exact rfl
  apply aJ (s := 159) rfl rfl rfl
  ·intro hg; apply aO; (refine aI rfl rfl rfl rfl rfl (by decide) ?_); refine aD ?_; exact rfl
  ·exact rfl
  ·exact rfl
  apply aJ (s := 159) rfl rfl rfl
  ·intro hg; apply aH (s := 162) rfl (by (rw [hg]; rfl)); apply aO; (refine aG rfl rfl rfl rfl ?_); refine aD ?_; exact rfl
  ·exact rfl
  ·exact rfl
  apply aJ (s := 159) rfl rfl rfl
  ·intro hg; apply aH (s := 161) rfl (by (rw [hg]; rfl)); apply aH (s := 163) rfl (by (rw [hg]; rfl)); apply aO; (refine aZ (kr _ _ _) rfl rfl rfl rfl rfl ?_); refine aD ?_; exact rfl
  ·exact rfl
  ·exact rfl
  refine iC rfl rfl (e8 rfl ?_)
  apply aJ (s := 166) rfl rfl rfl
  ·intro hg; apply aO; (refine aS rfl rfl rfl rfl rfl (by decide) ?_); refine aD ?_; exact rfl
  ·exact rfl
  ·exact rfl
  apply aJ (s := 166) rfl rfl rfl
  ·intro hg; apply aH (s := 167) rfl (by (rw [hg]; rfl)); apply aO; (refine aX rfl rfl (by decide) rfl rfl rfl ?_); refine aD ?_; exact rfl
  ·exact rfl
  ·exact rfl
  apply aJ (s := 166) rfl rfl rfl
  ·intro hg; apply aO; (refine aI rfl rfl rfl rfl rfl (by decide) ?_); refine aD ?_; exact rfl
  ·exact rfl
  ·exact rfl
  apply aJ (s := 166) rfl rfl rfl
  ·intro hg; apply aH (s := 169) rfl (by (rw [hg]; rfl)); apply aO; (refine aG rfl rfl rfl rfl ?_); refine aD ?_; exact rfl
  ·exact rfl
  ·exact rfl
  apply aJ (s := 166) rfl rfl rfl
  ·intro hg; apply aH (s := 170) rfl (by (rw [hg]; rfl)); apply aO; (refine b9 rfl rfl rfl ?_); refine aD ?_; exact rfl
  ·exact rfl
  ·exact rfl
  apply aJ (s := 166) rfl rfl rfl
  ·intro hg; apply aH (s := 171) rfl (by (rw [hg]; rfl)); apply aO; (refine iA rfl rfl (by omega) (by omega) ?_); refine aD ?_; exact rfl
  ·exact rfl
  ·exact rfl
  apply aJ (s := 166) rfl rfl rfl
  ·intro hg; apply aH (s := 168) rfl (by (rw [hg]; rfl)); apply aH (s := 172) rfl (by (rw [hg]; rfl)); apply aO; (refine aZ (kr _ _ _) rfl rfl rfl rfl rfl ?_); refine aD ?_; exact rfl
  ·exact rfl
  ·exact rfl
  refine iC rfl rfl (cj rfl (aD (aB (aA (e8 rfl (e8 rfl ?_))))))
  apply aJ (s := 176) rfl rfl rfl
  ·intro hg; apply aO; (refine aS rfl rfl rfl rfl rfl (by decide) ?_); refine aD ?_; exact rfl
  ·exact rfl
  ·exact rfl
  apply aJ (s := 176) rfl rfl rfl
  ·intro hg; apply aH (s := 177) rfl (by (rw [hg]; rfl)); apply aO; (refine aS rfl rfl rfl rfl rfl (by decide) ?_); refine aD ?_; exact rfl
  ·exact rfl
  ·exact rfl
  apply aJ (s := 176) rfl rfl rfl
  ·intro hg; apply aH (s := 178) rfl (by (rw [hg]; rfl)); apply aO; (refine aX rfl rfl (by decide) rfl rfl rfl ?_); refine aD ?_; exact rfl
  ·exact rfl
  ·exact rfl
  apply aJ (s := 176) rfl rfl rfl
  ·intro hg; apply aO; (refine aS rfl rfl rfl rfl rfl (by decide) ?_); refine aD ?_; exact rfl
  ·exact rfl
  ·exact rfl
  apply aJ (s := 176) rfl rfl rfl
  ·intro hg; apply aH (s := 180) rfl (by (rw [hg]; rfl)); apply aO; (refine aS rfl rfl rfl rfl rfl (by decide) ?_); refine aD ?_; exact rfl
  ·exact rfl
  ·exact rfl
  apply aJ (s := 176) rfl rfl rfl
  ·intro hg; apply aH (s := 181) rfl (by (rw [hg]; rfl)); apply aO; (refine aX rfl rfl (by decide) rfl rfl rfl ?_); refine aD ?_; exact rfl
  ·exact rfl
  ·exact rfl
  apply aJ (s := 176) rfl rfl rfl
  ·intro hg; apply aH (s := 179) rfl (by (rw [hg]; rfl)); apply aH (s := 182) rfl (by (rw [hg]; rfl)); apply aO; (refine bC rfl rfl rfl ?_); refine aD ?_; exact rfl
  ·exact rfl
  ·exact rfl
  refine iC rfl rfl (cj rfl (aD (bM (aB (aA (bI rfl ?_))))))
  refine b8 rfl rfl (by omega) (by omega) ?_
  refine bk rfl (aD ?_)
  refine bO (⟨n.1 + 1, by omega⟩) ?_ (by show y.levels.length - (n.1 + 1) < y.levels.length - n.1; omega)
  (refine cv.mk' ?_ ?_ <;> (repeat' (first | exact aM | exact aL | refine aC ?_ (Ty.aV _) | refine aC ?_ (Ty.aF _) | refine aC ?_ ?_)))
  all_goals skip
  all_goals first | exact Ty.dM ((Bool.or_assoc _ _ _).trans (congrArg ((y.bins.any uE || y.moves.any yf) || ·) (gi (p := DS) (by omega)))) | exact Ty.dM ((Bool.or_assoc _ _ _).trans (congrArg ((y.bins.any Bt || y.moves.any Ev) || ·) (gi (p := Ja) (by omega)))) | exact Ty.dM ((N3 _ _ _ _).trans (congrArg (y.moves.any (notM y) || ·) (gi (p := IG y) (by omega))))
 refine cI (aP (aP (aj rfl (aB (aE (aE (aA (e8 rfl (aD ?_)))))))))
 refine aB ?_
 refine bt rfl (fun hc5 => ?_) (fun hc5 => ?_)
 ·
  refine aE (aA (bk rfl (aD (aB (ay (aQ (bJ rfl rfl ?_)))))))
  all_goals skip
  exact ah rfl rfl (congrArg (Ty.int .i64) (N4 hc1 hc5 (congrArg (_ || ·) (fB hc4))))
 refine aq (aB (aE (aE (aA (e8 rfl (aD (aB ?_)))))))
 refine bt rfl (fun hc6 => ?_) (fun hc6 => ?_)
 ·
  refine aE (aA (bk rfl (aD (aB (ay (aQ (bJ rfl rfl ?_)))))))
  all_goals skip
  exact ah rfl rfl (congrArg (Ty.int .i64) (OP hc1 hc5 (congrArg (_ || ·) (fB hc4)) hc6 (congrArg (_ || ·) (fB hc4))))
 refine aq (aB (aE (aE (aA (e8 rfl (aD (aB ?_)))))))
 refine bt rfl (fun hc7 => ?_) (fun hc7 => ?_)
 ·
  refine aE (aA (bk rfl (aD (aB (ay (aQ (bJ rfl rfl ?_)))))))
  all_goals skip
  exact ah rfl rfl (congrArg (Ty.int .i64) (OG hc1 hc5 (congrArg (_ || ·) (fB hc4)) hc6 (congrArg (_ || ·) (fB hc4)) hc7 rfl))
 refine aq (aB (aE (aE (aA (e8 rfl (aD (aB ?_)))))))
 refine bt rfl (fun hc8 => ?_) (fun hc8 => ?_)
 ·
  refine aE (aA (bk rfl (aD (aB (ay (aQ (bJ rfl rfl ?_)))))))
  all_goals skip
  exact ah rfl rfl (congrArg (Ty.int .i64) (OM hc1 hc5 (congrArg (_ || ·) (fB hc4)) hc6 (congrArg (_ || ·) (fB hc4)) hc7 rfl hc8 (congrArg (_ || ·) (fB hc4))))
 refine aq (aB (aE (aA (bk rfl (aD (aB (ay (bJ rfl rfl ?_))))))))
 all_goals skip
 exact ah rfl rfl (congrArg (Ty.int .i64) (OO hc1 hc5 (congrArg (_ || ·) (fB hc4)) hc6 (congrArg (_ || ·) (fB hc4)) hc7 rfl hc8 (congrArg (_ || ·) (fB hc4))))
end Go.Proofs.YtelbollidfdcjaaGreat
namespace Go.Proofs.YtelbollidfdcjaaGreat
open Go Go.T
structure Sk where
  grain : List Int
  taken : Int
  mixed : Int
def OC (s : Sk) : Int := IntKind.u32.wrap (bits .xor .u32 s.mixed (IntKind.u32.wrap (nth s.grain (s.taken.tmod s.grain.length).toNat)) * 16777619)
def Cp (s : Sk) : Sk := if (s.grain.length : Int) > 0 then { s with mixed := OC s } else s
def I6 (s : Sk) : Sk := { s with taken := s.taken + 1 }
def OJ (s : Sk) : Int := IntKind.u32.wrap (IntKind.u32.wrap (s.mixed * 1664525) + 1013904223)
def Ci (s : Sk) : Sk := if s.taken > (s.grain.length : Int) then { s with mixed := OJ s } else s
def bl (s : Sk) : Sk := Ci (I6 (Cp s))
def m5 (s : Sk) : Int := IntKind.i64.wrap (bits .and .u32 (bits .xor .u32 s.mixed (s.mixed / 2 ^ (15 : Int).toNat) / 2 ^ (8 : Int).toNat) 65535)
def Sk.Ok (s : Sk) (n : Int) : Prop := 0 ≤ s.taken ∧ s.taken + n ≤ 4611686018427387904
theorem zR (s : Sk) : (Cp s).taken = s.taken := by unfold Cp; split <;> rfl
theorem zI (s : Sk) : (Ci s).taken = s.taken := by unfold Ci; split <;> rfl
theorem eO (s : Sk) : (bl s).taken = s.taken + 1 := by unfold bl; rw [zI, I6, zR]
theorem xW (a : Int) : 0 ≤ bits .and .u32 a 65535 ∧ bits .and .u32 a 65535 ≤ 65535 := by
 have e : bits .and .u32 a 65535 = IntKind.u32.wrap (((BitVec.ofInt 32 a &&& BitVec.ofInt 32 65535).toNat : Nat) : Int) := rfl
 have h1 : (BitVec.ofInt 32 a &&& BitVec.ofInt 32 65535).toNat ≤ 65535 := by
  rw [BitVec.toNat_and]
  exact Nat.and_le_right
 rw [e]
 generalize (BitVec.ofInt 32 a &&& BitVec.ofInt 32 65535).toNat = n at h1
 have : IntKind.u32.wrap (n : Int) = (n : Int) % 4294967296 := rfl
 rw [this]; omega
theorem B1 (s : Sk) : 0 ≤ m5 s ∧ m5 s ≤ 65535 := by
 have h := xW (bits .xor .u32 s.mixed (s.mixed / 2 ^ (15 : Int).toNat) / 2 ^ (8 : Int).toNat)
 unfold m5
 rw [IntWalk.i64_in _ (by omega)]; exact h
def dw (s : Sk) (n : Int) : Int := (m5 (bl s)).tmod (max 1 n)
theorem eD (s : Sk) (n : Int) : 0 ≤ dw s n ∧ dw s n < max 1 n ∧ dw s n ≤ 65535 := by
 have h := B1 (bl s)
 unfold dw
 have h1 : (m5 (bl s)).tmod (max 1 n) = m5 (bl s) % max 1 n := Int.tmod_eq_emod_of_nonneg h.1
 have h2 := Int.emod_lt_of_pos (m5 (bl s)) (show 0 < max 1 n by omega)
 have h3 := Int.emod_nonneg (m5 (bl s)) (show max 1 n ≠ 0 by omega)
 have h4 : m5 (bl s) % max 1 n ≤ m5 (bl s) := by
  have := Int.mul_ediv_add_emod (m5 (bl s)) (max 1 n)
  have hq : 0 ≤ m5 (bl s) / max 1 n := Int.ediv_nonneg h.1 (by omega)
  have : 0 ≤ max 1 n * (m5 (bl s) / max 1 n) := Int.mul_nonneg (by omega) hq
  omega
 omega
def mF (s : Sk) (lo hi : Int) : Int := lo + dw s (hi - lo + 1)
end Go.Proofs.YtelbollidfdcjaaGreat
namespace Go.Proofs.YtelbollidfdcjaaGreat
open Go Go.T
def mV (m : Move) (bin time : Int) : Bool := decide (m.day < time) && decide (m.dst = bin)
def kB (m : Move) (bin time : Int) : Bool := decide (m.day < time) && decide (m.src = bin)
def dg (y : bA) (a : dL) (bin time : Int) (k : Nat) (n : Int) : Int := n + if mV (nth y.moves k) bin time = true then nth a.bN k else 0
def dy (y : bA) (a : dL) (bin time : Int) : Nat → Int
  | 0 => nth a.first bin.toNat
  | k + 1 => dg y a bin time k (dy y a bin time k) - if kB (nth y.moves k) bin time = true then nth a.bN k else 0
def dO (y : bA) (a : dL) (bin time : Int) : Int := dy y a bin time y.moves.length
section
variable {y : bA} {a : dL} {bin time : Int} {k b t : Nat}
theorem Ng (h1 : mV (nth y.moves k) bin time = true) (h2 : kB (nth y.moves k) bin time = true) : dy y a bin time k + nth a.bN k - nth a.bN k = dy y a bin time (k + 1) := by
 show _ = dg y a bin time k (dy y a bin time k) - _; unfold dg; rw [if_pos h1, if_pos h2]
theorem Nf (h1 : mV (nth y.moves k) bin time = true) (h2 : kB (nth y.moves k) bin time = false) : dy y a bin time k + nth a.bN k = dy y a bin time (k + 1) := by
 show _ = dg y a bin time k (dy y a bin time k) - _; unfold dg; rw [if_pos h1, if_neg (by rw [h2]; decide), Int.sub_zero]
theorem NT (h1 : mV (nth y.moves k) bin time = false) (h2 : kB (nth y.moves k) bin time = true) : dy y a bin time k - nth a.bN k = dy y a bin time (k + 1) := by
 show _ = dg y a bin time k (dy y a bin time k) - _; unfold dg; rw [if_neg (by rw [h1]; decide), if_pos h2, Int.add_zero]
theorem Na (h1 : mV (nth y.moves k) bin time = false) (h2 : kB (nth y.moves k) bin time = false) : dy y a bin time k = dy y a bin time (k + 1) := by
 show _ = dg y a bin time k (dy y a bin time k) - _; unfold dg; rw [if_neg (by rw [h1]; decide), if_neg (by rw [h2]; decide), Int.add_zero, Int.sub_zero]
theorem Gf {B : Int} (hB : 0 ≤ B) (h1 : ∀ x ∈ a.first, -B ≤ x ∧ x ≤ B) (h2 : ∀ x ∈ a.bN, -B ≤ x ∧ x ≤ B) (hb : bin.toNat < a.first.length) : ∀ k, k ≤ a.bN.length → -(B + 2 * B * k) ≤ dy y a bin time k ∧ dy y a bin time k ≤ B + 2 * B * k
  | 0, _ => by have := h1 _ (cR hb); show -(B + 2 * B * 0) ≤ nth a.first bin.toNat ∧ nth a.first bin.toNat ≤ _; omega
  | k + 1, hk => by
    have ih := Gf hB h1 h2 hb k (by omega)
    have := h2 _ (cR (show k < a.bN.length by omega))
    have e : 2 * B * ((k + 1 : Nat) : Int) = 2 * B * k + 2 * B := by rw [Int.natCast_add, Int.mul_add]; simp
    show -(B + 2 * B * ((k + 1 : Nat) : Int)) ≤ dg y a bin time k (dy y a bin time k) - _ ∧ dg y a bin time k (dy y a bin time k) - _ ≤ B + 2 * B * ((k + 1 : Nat) : Int)
    rw [e]
    unfold dg
    split <;> split <;> omega
theorem GD : ∀ k, dy y a b t k = nth a.first b + cg (fun i => if (nth y.moves i).day < t then oL y a.bN b i else 0) k
  | 0 => by show nth a.first ((b : Nat) : Int).toNat = _ + 0; simp
  | k + 1 => by
    show dg y a b t k (dy y a b t k) - _ = nth a.first b + (cg _ k + _)
    rw [GD k]
    unfold dg mV kB oL
    by_cases h0 : (nth y.moves k).day < (t : Int)
    · by_cases h1 : (nth y.moves k).dst = (b : Int) <;> by_cases h2 : (nth y.moves k).src = (b : Int) <;> simp [h0, h1, h2, ind] <;> omega
    · simp [h0]
theorem sO : dO y a b t = cV y a b t := GD _
end
end Go.Proofs.YtelbollidfdcjaaGreat
