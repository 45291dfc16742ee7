/- Lemmas: the program and the reference walked, plain laws. -/
import Derived.Test.YtelbollidfdcjaaGreatMc
namespace Go.Proofs.YtelbollidfdcjaaGreat
open Go Go.T
set_option maxHeartbeats 16000000
theorem OE : Tryz.prog.underlying 28 = some (.slice 3) := by kernel_rfl
theorem PJ : Tryz.prog.underlying 222 = some (.slice 199) := by kernel_rfl
section
variable {y : au} {fl : List cB} {a : List Int} {n : Nat} {has : Nat → Bool} {xs : List Int}
theorem Rp {G : Nat → Int} (h : g5 fl n a) : Ol fl n G a a := ⟨h, rfl⟩
theorem Je {c : Nat → Bool} {b : Nat} (hl : a.length = (aR y c).length) (hb : b < y.bins.length) : y.kept b 0 < a.length := by rw [hl]; exact Fm hb (Nat.zero_le _)
theorem L6 {x : List Int} {i k : Nat} (h : i = k) : ij has x i = ij has x k := by rw [h]
theorem Np (fl : List cB) (has : Nat → Bool) (x : List Int) : ij has x fl.length = jD fl has x := rfl
theorem MG (hN : Net fl n) (hn : 0 < n) (hB : Bd fl) (h : g5 fl n a) : (⟨jD fl has (gY fl n (cw has true) a), jD fl has (gY fl n (cw has false) (Bc fl n has a))⟩ : Span) = gp fl n has := (sk hN hn hB h).2.2.eq.symm
def iB (y : au) (a : List Int) (k : Nat) : List Int := (List.range k).map fun b => nth a (y.kept b 0)
theorem Bw (k : Nat) : iB y a k ++ [nth a (y.kept k 0)] = iB y a (k + 1) := by unfold iB; rw [List.range_succ, List.map_append]; rfl
theorem Bx : iB y a 0 = [] := rfl
theorem EE (k : Nat) : (iB y a k).length = k := by unfold iB; rw [List.length_map, List.length_range]
theorem told_eq (y : au) (a : List Int) : (⟨iB y a y.bins.length, a.drop (y.bins.length * (y.D + 1))⟩ : dZ) = gG y a := rfl
theorem I8 (h : xs = []) : (Ty.jU (.slice none 0 0)).Sub (Ty.row cT 3 26 xs) := by subst h; exact Ty.gZ
theorem lo_eq (fl : List cB) (n : Nat) (has : Nat → Bool) (a : List Int) : gY fl n (cw has true) a = Bc fl n has a := rfl
theorem hi_eq (fl : List cB) (n : Nat) (has : Nat → Bool) (a : List Int) : gY fl n (cw has false) (Bc fl n has a) = yl fl n has a := rfl
end
attribute [local irreducible] aR gz Way.iA Way.fin Way.room eR dz ef gW over bO cO dY eT jP fC hH j0 cU gP gA gD cw cN gY oo iS ij jD gp Bc yl iB au.kept
attribute [local irreducible] gL eX lN nh gy g6 gu gw gx nj gr ni dN fX nH fu nZ nth fP dQ bA dJ bodyPost Exit.then Exit.inBlock Code.wp Code.wpIn nW g7 nY nV g8 eP cL cM bodyPostM dR
set_option maxRecDepth 100000 in
theorem CM (l : List Int) (h : l.length ≤ 1000) : dJ Tryz.prog 172 [Ty.sl cT l] (Ty.sl cT l) := by
 refine ak Tryz.func172 rfl (by decide) Tryz.ntmps172 (by exact Nat.le_of_ble_eq_true rfl) fun w0 M0 => ?_
 refine aE (aA (lE rfl (aD (aC (aE (aE (aA (eA rfl (FO OE rfl ?_)))))))))
 refine aD (aC ?_)
 refine zA rfl (fun hc1 => ?_) (fun hc1 => ?_)
 ·
  refine aE (aA (lE rfl (aD (aC (az (aQ (bR rfl rfl ?_)))))))
  all_goals skip
  exact gT hc1
 refine aj (aC (aE (aA ?_)))
 refine xz (E := cT) rfl rfl rfl rfl ?_
 refine eA rfl ?_
 refine dj rfl rfl (by decide) rfl rfl rfl rfl rfl rfl (by decide) (by (simp <;> omega)) (by (simp <;> omega)) ?_
 refine yW rfl (aD (aC (az (bR rfl rfl ?_))))
 all_goals exact oP (by decide)
 skip
set_option maxRecDepth 100000 in
theorem LG (y : au) (fl : List cB) (a : List Int) (h : mA y fl a) (hfe : g5 fl (y.cells + 1) a) (th : Ty) (h1 : th.deps = []) (h2 : th.cdeps = []) (has : Nat → Bool) (hf : ∀ i, i < fl.length → oS Tryz.prog (Ty.nd th h1 h2) [Ty.int .i64 ((i : Nat) : Int)] (Ty.bool (has i))) (less : Bool) : eP Tryz.prog 164 [1000] [(1000, Cont.vec cT 3 a)] [Ty.pp (eI y fl 1000 fl.length), Ty.agg [Ty.nd th h1 h2, Ty.bool less]] [(1000, Cont.vec cT 3 (gY fl (y.cells + 1) (cw has less) a))] (Ty.int .i64 (jD fl has (gY fl (y.cells + 1) (cw has less) a))) := by
 refine fS Tryz.func164 rfl (by decide) Tryz.ntmps164 (by exact Nat.le_of_ble_eq_true rfl) fun w0 M0 => ?_
 have hN := h.net
 have hfl := h.rB
 have hcl := nQ h.right
 have hG := tN (has := has) less
 have hn : 0 < (y.cells + 1) := Nat.succ_pos _
 refine aE (aA (bD rfl (bZ rfl (aD (aC (aE (aY ?_)))))))
 refine b9 (fun (b : {b : List Int // Ol fl (y.cells + 1) (cw has less) a b}) => live [(0, Ty.pp (eI y fl 1000 fl.length)), (3, Ty.pp [Ty.nd th h1 h2, Ty.bool less])] [(1000, Cont.vec cT 3 b.1)]) (fun b => (300 * fl.length - lK fl (cw has less) b.1).toNat) (⟨a, Rp hfe⟩) ?_ fun b => ?_
 ·(refine cg.mk' ?_ ?_ <;> (repeat' (first | exact aI | exact aH | refine aB ?_ (Ty.aT _) | refine aB ?_ (Ty.aF _) | refine aG rfl (Cont.aF _) ?_)))
 have hF : mA y fl b.1 := ⟨h.right, h.net, h.bd, b.2.feas.1, h.rB⟩
 have hal := hF.inb.1
 refine aY (aE (aA (jv rfl ?_)))
 refine aX rfl rfl rfl (by exact Nat.le_of_ble_eq_true rfl) ?_
 refine dL [(1000, 1000)] [] [(1000, Cont.vec cT 3 b.1)] (I5 y fl b.1 hF th h1 h2 has hf less) rfl rfl (aN (aN bX (aU rfl rfl)) (fJ (aN (aN (aN (aN (aN (aN bX (dg (by exact List.mem_cons_self))) (aU rfl rfl)) (aU rfl rfl)) (aU rfl rfl)) (aU rfl rfl)) (aU rfl rfl)))) (dA (a := 1000) (b := 1000) (by exact List.mem_cons_self) rfl (bp (by exact List.mem_cons_self) rfl) pre_nil) (bk (a := 1000) (b := 1000) (by decide) rfl (bp (by decide) rfl) post_nil) (aU rfl rfl) ?_
 refine SA rfl (aD (aC (aE (aE (aA (SJ rfl (LB PJ rfl (aD (aC ?_)))))))))
 refine cH rfl (fun hc1 => ?_) (fun hc1 => ?_)
 ·
  refine bz (aP (gV rfl (aP (aa rfl (aC (aE ?_))))))
  have hb : b.1 = (gY fl (y.cells + 1) (cw has less) a) := b.2.done (List.isEmpty_iff.1 hc1)
  have hF2 : mA y fl (gY fl (y.cells + 1) (cw has less) a) := by rw [← hb]; exact hF
  have hal2 := hF2.inb.1
  refine jk (tg := 1000) rfl (Cont.cy hb) ?_
  refine aA (bZ rfl (aD (aC (aE (aE (aA (jv rfl (cA rfl ?_))))))))
  refine aL rfl rfl rfl rfl rfl (by decide) ?_
  refine aJ rfl rfl rfl rfl (KX rfl rfl rfl (bF rfl (aD (aC (aY ?_)))))
  refine b9 (fun (i : {i : Nat // i ≤ fl.length}) => live [(0, Ty.pp (eI y fl 1000 fl.length)), (3, Ty.pp [Ty.nd th h1 h2, Ty.bool less]), (11, Ty.int .i64 (ij has (gY fl (y.cells + 1) (cw has less) a) i.1)), (43, Ty.vs 1000 fl.length), (44, Ty.int .i64 fl.length), (45, Ty.int .i64 (i.1 : Nat))] [(1000, Cont.vec cT 3 (gY fl (y.cells + 1) (cw has less) a))]) (fun i => fl.length - i.1) (⟨0, by omega⟩) ?_ fun i => ?_
  ·(refine cg.mk' ?_ ?_ <;> (repeat' (first | exact aI | exact aH | refine aB ?_ (Ty.aT _) | refine aB ?_ (Ty.aF _) | refine aG rfl (Cont.aF _) ?_ | refine aB ?_ ?_)))
   all_goals exact Ty.bN (by unfold ij; rfl)
  have hi := i.2
  have hup := Gq (has := has) (x := (gY fl (y.cells + 1) (cw has less) a)) (k := i.1) fun q hq => (hF2.Pt (by omega)).1
  refine aE (aA (bB rfl rfl rfl (aD (aC (aE ?_)))))
  refine ah rfl (fun hc2 => ?_) (fun hc2 => ?_)
  ·
   refine aj (aC (aE (aY (aE (aA (bF rfl ?_))))))
   refine dP rfl rfl rfl rfl rfl (by omega) ?_
   refine fA rfl rfl rfl (by decide) rfl rfl (by omega) rfl ?_
   refine bZ rfl (bZ rfl (aD (aC (aE ?_))))
   have hai := (hF2.Pt (show i.1 < fl.length by omega)).1
   refine aA ?_
   refine aL rfl rfl rfl rfl rfl (by decide) ?_
   refine aJ rfl rfl rfl rfl (bF rfl ?_)
   refine eV rfl (hf i.1 (by omega)) rfl ?_
   refine aD (aC ?_)
   refine cH rfl (fun hc3 => ?_) (fun hc3 => ?_)
   ·
    refine aA (bF rfl (bF rfl ?_))
    refine bq rfl rfl (by omega) (by omega) ?_
    refine bZ rfl (aD (bI (aC (aA ?_))))
    refine bq rfl rfl (by omega) (by omega) ?_
    refine bF rfl (aD ?_)
    refine bM (⟨i.1 + 1, by omega⟩) ?_ (by show fl.length - (i.1 + 1) < fl.length - i.1; omega)
    (refine cg.mk' ?_ ?_ <;> (repeat' (first | exact aI | exact aH | refine aB ?_ (Ty.aT _) | refine aB ?_ (Ty.aF _) | refine aG rfl (Cont.aF _) ?_ | refine aB ?_ ?_)))
    all_goals skip
    all_goals exact Ty.bN (HT hc3)
   refine aj (bI (aC (aA ?_)))
   refine bq rfl rfl (by omega) (by omega) ?_
   refine bF rfl (aD ?_)
   refine bM (⟨i.1 + 1, by omega⟩) ?_ (by show fl.length - (i.1 + 1) < fl.length - i.1; omega)
   (refine cg.mk' ?_ ?_ <;> (repeat' (first | exact aI | exact aH | refine aB ?_ (Ty.aT _) | refine aB ?_ (Ty.aF _) | refine aG rfl (Cont.aF _) ?_ | refine aB ?_ ?_)))
   all_goals skip
   all_goals exact Ty.bN (IY hc3)
  refine bz (aP (aP (aa rfl (aC (aE (aA (bF rfl (bZ rfl (aD ?_)))))))))
  refine aC (az ?_)
  refine iq [1000] rfl rfl (by decide) (by repeat (first | exact gS | refine eG rfl (bp (by decide) rfl) ?_)) ?_
  all_goals skip
  all_goals exact iR (pK rfl rfl (congrArg (Ty.int .i64) ((L6 (by have := i.2; omega)).trans (Np fl has _))))
 refine aj (aC (aE ?_))
 refine iC (s := 5) rfl (show (Ty.IM gI (cN fl b.1 (y.cells + 1) (cw has less))).Sub (Ty.sl gI (cN fl b.1 (y.cells + 1) (cw has less))) from Ty.PC) ?_
 have hne : ¬ (cN fl b.1 (y.cells + 1) (cw has less)) = [] := fun e => by rw [e] at hc1; cases hc1
 have hnx := b.2.next hN hn h.bd hG hne
 have hC := hnx.2.2
 have hlen := hC.rB
 refine aA (bZ rfl (aD (aC (aE (aE (aA (eA rfl (cD rfl rfl rfl (bF rfl ?_)))))))))
 refine aD (aC (aY ?_))
 refine b9 (fun (j : {j : Nat // j ≤ (cN fl b.1 (y.cells + 1) (cw has less)).length}) => live [(0, Ty.pp (eI y fl 1000 fl.length)), (3, Ty.pp [Ty.nd th h1 h2, Ty.bool less]), (5, Ty.sl gI (cN fl b.1 (y.cells + 1) (cw has less))), (6, Ty.int .i64 (fC fl b.1 300 ((cN fl b.1 (y.cells + 1) (cw has less)).take j.1))), (19, Ty.sl gI (cN fl b.1 (y.cells + 1) (cw has less))), (20, Ty.int .i64 (cN fl b.1 (y.cells + 1) (cw has less)).length), (21, Ty.int .i64 (j.1 : Nat))] [(1000, Cont.vec cT 3 b.1)]) (fun j => (cN fl b.1 (y.cells + 1) (cw has less)).length - j.1) (⟨0, by omega⟩) ?_ fun j => ?_
 ·(refine cg.mk' ?_ ?_ <;> (repeat' (first | exact aI | exact aH | refine aB ?_ (Ty.aT _) | refine aB ?_ (Ty.aF _) | refine aG rfl (Cont.aF _) ?_ | refine aB ?_ ?_)))
  all_goals exact Ty.bN (wH _ _ _)
 have hj := j.2
 refine aE (aA (bB rfl rfl rfl (aD (aC (aE ?_)))))
 refine ah rfl (fun hc4 => ?_) (fun hc4 => ?_)
 ·
  refine aj (aC (aE (aY (aE (aA ?_)))))
  refine aq rfl rfl rfl rfl rfl rfl (by omega) ?_
  refine aX rfl rfl rfl (by exact Nat.le_of_ble_eq_true rfl) ?_
  refine bu rfl (by exact List.cons_ne_nil _ _) rfl ?_
  refine bh rfl rfl (by decide) rfl rfl rfl rfl rfl rfl ?_
  refine aD (aC (aE ?_))
  have hwj := hC.ways _ (cX (xs := (cN fl b.1 (y.cells + 1) (cw has less))) (k := j.1) (by omega))
  refine aA (jv rfl ?_)
  refine bg rfl rfl (by decide) rfl rfl (by exact Nat.le_of_ble_eq_true rfl) ?_
  refine eM [1000] (GI y fl b.1 hF (nth (cN fl b.1 (y.cells + 1) (cw has less)) j.1) hwj.1) rfl (aW (kj (aW (bU (bV rfl rfl)) (aW (bU (bV rfl rfl)) (aW (bU (bV rfl rfl)) (aW (bU (bV rfl rfl)) (aW (bU (bV rfl rfl)) (aW (jr rfl hal (by decide) rfl) cR))))))) (aW (bU (bV rfl rfl)) cR)) (by exact qY (by repeat (first | exact qU | refine oB (by exact dc _ _) ?_))) ?_
  refine sU rfl (bQ rfl rfl (bQ rfl rfl (bZ rfl (bZ rfl (aD (aC (aA (bF rfl (bF rfl ?_)))))))))
  refine bW (E := cT) (xs := [_]) rfl rfl rfl rfl rfl (by decide) (by decide) (by repeat (first | exact (aV.nil : aV _ _ [] _) | (show aV _ _ ((_, _) :: _) _; apply aV.one; (· exact (rfl : _ = Ty.int _ _)); (· exact rfl)))) (by exact rfl) rfl ?_
  refine af (s8 _ _) rfl rfl rfl rfl rfl (bZ rfl (aD (bI (aC (aA ?_)))))
  refine bq rfl rfl (by omega) (by omega) ?_
  refine bF rfl (aD ?_)
  refine bM (⟨j.1 + 1, by omega⟩) ?_ (by show (cN fl b.1 (y.cells + 1) (cw has less)).length - (j.1 + 1) < (cN fl b.1 (y.cells + 1) (cw has less)).length - j.1; omega)
  (refine cg.mk' ?_ ?_ <;> (repeat' (first | exact aI | exact aH | refine aB ?_ (Ty.aT _) | refine aB ?_ (Ty.aF _) | refine aG rfl (Cont.aF _) ?_ | refine aB ?_ ?_)))
  all_goals skip
  all_goals exact Ty.bN (by rw [cQ (by omega)]; exact xA)
 refine bz (aP (aP (aa rfl (aC ?_))))
 have hmp := qX (fl := fl) (a := b.1) (m := 300) (by decide) (cN fl b.1 (y.cells + 1) (cw has less)) hC.ways
 have hml := (tK (fl := fl) (a := b.1) 300 (cN fl b.1 (y.cells + 1) (cw has less))).1
 refine iC (s := 6) rfl (Ty.bN (by rw [List.take_of_length_le (by omega)] : _ = fC fl b.1 300 (cN fl b.1 (y.cells + 1) (cw has less)))) ?_
 refine aA (jv rfl (eA rfl (bF rfl ?_)))
 refine dL [(1000, 1000)] [] [(1000, Cont.vec cT 3 (dz b.1 (cN fl b.1 (y.cells + 1) (cw has less)) (fC fl b.1 300 (cN fl b.1 (y.cells + 1) (cw has less)))))] (Kn y fl b.1 hF (cN fl b.1 (y.cells + 1) (cw has less)) (by omega) (fun w hw => (hC.ways w hw).1) (fC fl b.1 300 (cN fl b.1 (y.cells + 1) (cw has less))) (by omega)) rfl rfl (aN (aN (aN bX (aU rfl rfl)) (aU rfl rfl)) (fJ (aN (aN (aN (aN (aN (aN bX (dg (by exact List.mem_cons_self))) (aU rfl rfl)) (aU rfl rfl)) (aU rfl rfl)) (aU rfl rfl)) (aU rfl rfl)))) (dA (a := 1000) (b := 1000) (by exact List.mem_cons_self) rfl (bp (by exact List.mem_cons_self) rfl) pre_nil) (bk (a := 1000) (b := 1000) (by decide) rfl (bp (by decide) rfl) post_nil) (aU rfl rfl) ?_
 refine aD (bI ?_)
 refine bM (⟨dz b.1 (cN fl b.1 (y.cells + 1) (cw has less)) (fC fl b.1 300 (cN fl b.1 (y.cells + 1) (cw has less))), hnx.1⟩) ?_ (by exact hnx.2.1)
 (refine cg.mk' ?_ ?_ <;> (repeat' (first | exact aI | exact aH | refine aB ?_ (Ty.aT _) | refine aB ?_ (Ty.aF _) | refine aG rfl (Cont.aF _) ?_)))
 all_goals skip
set_option maxRecDepth 100000 in
theorem Dy (y : au) (fl : List cB) (a : List Int) (h : mA y fl a) (hfe : g5 fl (y.cells + 1) a) (th : Ty) (h1 : th.deps = []) (h2 : th.cdeps = []) (has : Nat → Bool) (hf : ∀ i, i < fl.length → oS Tryz.prog (Ty.nd th h1 h2) [Ty.int .i64 ((i : Nat) : Int)] (Ty.bool (has i))) (ho : th.one = true) : eP Tryz.prog 87 [1000] [(1000, Cont.vec cT 3 a)] [Ty.pp (eI y fl 1000 fl.length), Ty.nd th h1 h2] [(1000, Cont.vec cT 3 (yl fl (y.cells + 1) has a))] (Ty.agg (bw.tys (gp fl (y.cells + 1) has))) := by
 refine fS Tryz.func87 rfl (by decide) Tryz.ntmps87 (by exact Nat.le_of_ble_eq_true rfl) fun w0 M0 => ?_
 have hsp := sk (has := has) h.net (Nat.succ_pos _) h.bd hfe
 have hF : mA y fl (Bc fl (y.cells + 1) has a) := ⟨h.right, h.net, h.bd, hsp.1.1, h.rB⟩
 refine aE (aA ?_)
 refine bu rfl (by exact List.cons_ne_nil _ _) rfl ?_
 refine aD (aC (aE (aA (jv rfl ?_))))
 refine eB (ty := Ty.nd th h1 h2) rfl ?_
 refine dI rfl rfl (by exact List.cons_ne_nil _ _) rfl (aV.one (ty := Ty.nd th h1 h2) rfl ho (aV.one (ty := Ty.bool true) rfl rfl aV.nil)) (by exact (rfl : _ = some [_, _])) ?_
 refine dL [(1000, 1000)] [] [(1000, Cont.vec cT 3 (Bc fl (y.cells + 1) has a))] (LG y fl a h hfe th h1 h2 has hf true) rfl rfl (aN (aN bX (aU rfl rfl)) (fJ (aN (aN (aN (aN (aN (aN bX (dg (by exact List.mem_cons_self))) (aU rfl rfl)) (aU rfl rfl)) (aU rfl rfl)) (aU rfl rfl)) (aU rfl rfl)))) (dA (a := 1000) (b := 1000) (by exact List.mem_cons_self) rfl (bp (by exact List.mem_cons_self) rfl) pre_nil) (bk (a := 1000) (b := 1000) (by decide) rfl (bp (by decide) (lo_eq _ _ _ _)) post_nil) (aU rfl rfl) ?_
 refine bZ rfl (aD (aC (aE (aA (bF rfl (jv rfl ?_))))))
 refine eB (ty := Ty.nd th h1 h2) rfl ?_
 refine dI rfl rfl (by exact List.cons_ne_nil _ _) rfl (aV.one (ty := Ty.nd th h1 h2) rfl ho (aV.one (ty := Ty.bool false) rfl rfl aV.nil)) (by exact (rfl : _ = some [_, _])) ?_
 refine dL [(1000, 1000)] [] [(1000, Cont.vec cT 3 (yl fl (y.cells + 1) has a))] (LG y fl (Bc fl (y.cells + 1) has a) hF hsp.1 th h1 h2 has hf false) rfl rfl (aN (aN bX (aU rfl rfl)) (fJ (aN (aN (aN (aN (aN (aN bX (dg (by exact List.mem_cons_self))) (aU rfl rfl)) (aU rfl rfl)) (aU rfl rfl)) (aU rfl rfl)) (aU rfl rfl)))) (dA (a := 1000) (b := 1000) (by exact List.mem_cons_self) rfl (bp (by exact List.mem_cons_self) rfl) pre_nil) (bk (a := 1000) (b := 1000) (by decide) rfl (bp (by decide) (hi_eq _ _ _ _)) post_nil) (aU rfl rfl) ?_
 refine dI rfl rfl (by exact List.cons_ne_nil _ _) rfl (by repeat (first | exact (aV.nil : aV _ _ [] _) | (show aV _ _ ((_, _) :: _) _; apply aV.one; (· exact (rfl : _ = Ty.int _ _)); (· exact rfl)))) (by exact (rfl : _ = some [_, _])) ?_
 refine bh rfl rfl (by decide) rfl rfl rfl rfl rfl rfl ?_
 refine aD (aC (az ?_))
 refine MN [1000] rfl rfl rfl rfl (by decide) rfl rfl rfl (by decide) (by repeat (first | exact gS | refine eG rfl (bp (by decide) rfl) ?_)) ?_
 all_goals skip
 all_goals exact iR (pK rfl rfl (congrArg (fun s => Ty.agg (bw.tys s)) (MG h.net (Nat.succ_pos _) h.bd hfe)))
set_option maxRecDepth 100000 in
theorem Pv (y : au) (c : Nat → Bool) (a : List Int) (hr : y.bt) (hl : a.length = (aR y c).length) : dJ Tryz.prog 120 [Ty.pp (mR y (aR y c) a)] (zW (gG y a)) := by
 refine ak Tryz.func120 rfl (by decide) Tryz.ntmps120 (by exact Nat.le_of_ble_eq_true rfl) fun w0 M0 => ?_
 have hfl := fK (y := y) (c := c)
 have h1 := hr.bins
 have h2 := hr.days
 have h3 := D_eq hr
 have h4 := hr.moves
 have hf34 : (aR y c).length ≤ 34 := kQ hr
 refine aE (aA ?_)
 refine bu rfl (by exact List.cons_ne_nil _ _) rfl ?_
 refine aD (aC (aE (aA ?_)))
 refine bu rfl (by exact List.cons_ne_nil _ _) rfl ?_
 refine aD (aC (aE (aE (aA (jv rfl (cA rfl ?_))))))
 refine aL rfl rfl rfl rfl rfl (by decide) ?_
 refine aL rfl rfl rfl rfl rfl (by decide) ?_
 refine aJ rfl rfl rfl rfl (cD rfl rfl rfl (bF rfl (aD (aC (aY ?_)))))
 refine b9 (fun (k : {k : Nat // k ≤ y.bins.length}) => live [(0, Ty.pp (mR y (aR y c) a)), (2, Ty.ptr 3 0), (3, Ty.ptr 4 0), (9, Ty.sl fN y.bins), (10, Ty.int .i64 y.bins.length), (11, Ty.int .i64 (k.1 : Nat))] [(3, Cont.cells 30 [Ty.ex (.slice none 0 0), Ty.ex (.slice none 0 0)]), (4, Cont.cells 30 [Ty.row cT 3 26 (iB y a k.1), Ty.ex (.slice none 0 0)])]) (fun k => y.bins.length - k.1) (⟨0, by omega⟩) ?_ fun k => ?_
 ·(refine cg.mk' ?_ ?_ <;> (repeat' (first | exact aI | exact aH | exact dH | refine aB ?_ (Ty.aT _) | refine aB ?_ (Ty.aF _) | refine aG rfl (Cont.aF _) ?_ | refine aG rfl (Cont.dG ?_) ?_ | refine bS ?_ (Ty.aF _) | refine bS ?_ ?_)))
  all_goals exact I8 Bx
 have hk := k.2
 have hfk := EE (y := y) (a := a) k.1
 refine aE (aA (bB rfl rfl rfl (aD (aC (aE ?_)))))
 refine ah rfl (fun hc1 => ?_) (fun hc1 => ?_)
 ·
  refine aj (aC (aE (aY (aE (aA (bF rfl (bZ rfl (aD (aC ?_)))))))))
  have hkl := Je hl (show k.1 < y.bins.length by omega)
  refine cP mixed rfl ?_
  refine aS rfl rfl rfl rfl rfl (by decide) ?_
  refine aZ rfl rfl (by decide) rfl rfl rfl ?_
  refine jv rfl (cA rfl ?_)
  refine aL rfl rfl rfl rfl rfl (by decide) ?_
  refine aJ rfl rfl rfl rfl (jv rfl (bF rfl ?_))
  refine eM [] (Ds y hr k.1 0 (by omega) (Nat.zero_le _)) rfl (aW (nR (l1 := bE y) (l2 := [Ty.sl dn (aR y c), Ty.sl cT a]) rfl rfl) (aW (bU (bV rfl rfl)) (aW (bU (bV rfl rfl)) cR))) (by exact dc _ _) ?_
  refine aq rfl rfl rfl rfl rfl rfl (by omega) ?_
  refine aJ rfl rfl rfl rfl ?_
  refine bW (E := cT) (xs := [_]) rfl rfl rfl rfl rfl (by decide) (by decide) (by repeat (first | exact (aV.nil : aV _ _ [] _) | (show aV _ _ ((_, _) :: _) _; apply aV.one; (· exact (rfl : _ = Ty.int _ _)); (· exact rfl)))) (by exact rfl) rfl ?_
  refine dj rfl rfl (by decide) rfl rfl rfl rfl rfl rfl (by decide) (by (simp <;> omega)) (by (simp <;> omega)) ?_
  refine aS rfl rfl rfl rfl rfl (by decide) ?_
  refine cv rfl rfl (by decide) rfl rfl (by exact (rfl : _ = Ty.row _ _ _ _)) rfl (by exact Nat.le_of_ble_eq_true rfl) rfl rfl (by exact rfl) ?_
  refine aD ?_
  refine ⟨by kernel_rfl, ?_⟩
  refine bI (aC (aA ?_))
  refine bq rfl rfl (by omega) (by omega) ?_
  refine bF rfl (aD ?_)
  refine bM (⟨k.1 + 1, by omega⟩) ?_ (by show y.bins.length - (k.1 + 1) < y.bins.length - k.1; omega)
  (refine cg.mk' ?_ ?_ <;> (repeat' (first | exact aI | exact aH | exact dH | refine aB ?_ (Ty.aT _) | refine aB ?_ (Ty.aF _) | refine aG rfl (Cont.aF _) ?_ | refine aG rfl (Cont.dG ?_) ?_ | refine bS ?_ (Ty.aF _) | refine bS ?_ ?_)))
  all_goals skip
  all_goals exact Ty.eU (Bw _)
 refine bz (aP (aP (aa rfl (aC (aE (cP mixed rfl (jv rfl (cA rfl ?_))))))))
 refine aL rfl rfl rfl rfl rfl (by decide) ?_
 refine aJ rfl rfl rfl rfl (jv rfl (cA rfl ?_))
 refine aL rfl rfl rfl rfl rfl (by decide) ?_
 refine aJ rfl rfl rfl rfl (cD rfl rfl rfl (jv rfl (cA rfl ?_)))
 refine aL rfl rfl rfl rfl rfl (by decide) ?_
 refine aL rfl rfl rfl rfl rfl (by decide) ?_
 refine aJ rfl rfl rfl rfl (cD rfl rfl rfl ?_)
 refine gH rfl rfl (by omega) (by omega) ?_
 refine Kb (lo := y.bins.length * (y.D + 1)) rfl (by exact congrArg (Ty.int .i64) (by rw [hfl]; omega : ((aR y c).length : Int) - (y.moves.length : Int) = ((y.bins.length * (y.D + 1) : Nat) : Int))) rfl rfl rfl rfl (by rw [hl]; omega) ?_
 refine af (CM _ (by rw [List.length_drop]; omega)) rfl rfl rfl rfl rfl ?_
 refine aS rfl rfl rfl rfl rfl (by decide) ?_
 refine cv rfl rfl (by decide) rfl rfl (by exact (rfl : _ = Ty.sl _ _)) rfl (by exact Nat.le_of_ble_eq_true rfl) rfl rfl (by exact rfl) ?_
 refine aD ?_
 refine ⟨by kernel_rfl, ?_⟩
 refine aC (aE (aA ?_))
 refine bg rfl rfl (by decide) rfl rfl (by exact Nat.le_of_ble_eq_true rfl) ?_
 refine bh rfl rfl (by decide) rfl rfl rfl rfl rfl rfl ?_
 refine aD (aC (az ?_))
 refine lO rfl rfl rfl rfl (by decide) rfl rfl rfl ?_
 exact Fj (ts := mH (gG y a)) (qq (wR (by decide) (show iB y a k.1 = (gG y a).first by rw [show k.1 = y.bins.length by have := k.2; omega]; exact congrArg dZ.first (told_eq y a))) (qq (cG rfl rfl) CK))
end Go.Proofs.YtelbollidfdcjaaGreat
namespace Go.Proofs.YtelbollidfdcjaaGreat
open Go Go.T
set_option maxHeartbeats 16000000
noncomputable def kS (y : au) : List Int := (cU (aR y (nth bf)) (y.cells + 1) (gz (aR y (nth bf)))).2.2
noncomputable def cq (y : au) : Int := if bL y = 0 then (if (cU (aR y (nth bf)) (y.cells + 1) (gz (aR y (nth bf)))).2.1 = true then 7 else 0) else bL y
noncomputable def tD (y : au) : dZ := if cq y = 0 then gG y (kS y) else ⟨[], []⟩
theorem jo : bf.length = 8 := rfl
theorem lz {y : au} (hr : y.bt) {c : Nat → Bool} : Ju y (aR y c) (gz (aR y c)) := ⟨hr, l8 hr, vm hr, fun e => K2 (zU e), kQ hr⟩
section
variable {y : au}
theorem open_1 (h : ¬ bL y = 0) : bL y = cq y := (if_neg h).symm
theorem wX (h : bL y = 0) (h2 : (cU (aR y (nth bf)) (y.cells + 1) (gz (aR y (nth bf)))).2.1 = true) : 7 = cq y := by unfold cq; rw [if_pos h, if_pos h2]
theorem open_3 (h : bL y = 0) (h2 : (cU (aR y (nth bf)) (y.cells + 1) (gz (aR y (nth bf)))).2.1 = false) : 0 = cq y := by unfold cq; rw [if_pos h, if_neg (by rw [h2]; decide)]
theorem eS (h : cq y = 0) : bL y = 0 := by
 by_cases e : bL y = 0
 ·exact e
 rw [← open_1 e] at h; exact absurd h e
theorem Ap (h : cq y = 0) : (cU (aR y (nth bf)) (y.cells + 1) (gz (aR y (nth bf)))).2.1 = false := by
  cases e : (cU (aR y (nth bf)) (y.cells + 1) (gz (aR y (nth bf)))).2.1 with
  | false => rfl
  | true => rw [← wX (eS h) e] at h; cases h
theorem Ey (hr : y.bt) (h2 : (cU (aR y (nth bf)) (y.cells + 1) (gz (aR y (nth bf)))).2.1 = false) : g5 (aR y (nth bf)) (y.cells + 1) (cU (aR y (nth bf)) (y.cells + 1) (gz (aR y (nth bf)))).2.2 := zJ (l8 hr) (lz hr).inb h2
theorem qI (h : cq y = 0) : g5 (aR y (nth bf)) (y.cells + 1) (kS y) := Ey (dD (eS h)) (Ap h)
theorem O5 (h : ¬ bL y = 0) : (⟨[], []⟩ : dZ) = tD y := by unfold tD; rw [← open_1 h, if_neg h]
theorem Om (h : bL y = 0) (h2 : (cU (aR y (nth bf)) (y.cells + 1) (gz (aR y (nth bf)))).2.1 = true) : (⟨[], []⟩ : dZ) = tD y := by unfold tD; rw [← wX h h2]; rfl
theorem Pb (h : bL y = 0) (h2 : (cU (aR y (nth bf)) (y.cells + 1) (gz (aR y (nth bf)))).2.1 = false) : gG y (cU (aR y (nth bf)) (y.cells + 1) (gz (aR y (nth bf)))).2.2 = tD y := by unfold tD; rw [if_pos (open_3 h h2).symm]; rfl
theorem zc {a : dZ} (e : ⟨[], []⟩ = a) : gU (Ty.agg [Ty.jU (.slice none 0 0), Ty.jU (.slice none 0 0)]) (zW a) := by subst e; exact Fj (ts := mH ⟨[], []⟩) (qq BK (qq BK CK))
theorem EL {b : Bool} (h : (!!b) = true) : b = true := by cases b <;> first | rfl | cases h
theorem FE {b : Bool} (h : (!!b) = false) : b = false := by cases b <;> first | rfl | cases h
theorem PL (y : au) : (cU (aR y (nth bf)) (y.cells + 1) (gz (aR y (nth bf)))).2.2 = kS y := rfl
end
attribute [local irreducible] aR gz Way.iA Way.fin Way.room eR dz ef gW over bO cO dY eT jP fC hH j0 cU gP gA gD cw cN gY oo iS ij jD gp Bc yl iB au.kept au.cells bL eC bf gG kS cq
attribute [local irreducible] gL eX lN nh gy g6 gu gw gx nj gr ni dN fX nH fu nZ nth fP dQ bA dJ bodyPost Exit.then Exit.inBlock Code.wp Code.wpIn nW g7 nY nV g8 eP cL cM bodyPostM dR
set_option maxRecDepth 100000 in
theorem Pn (y : au) (hs : y.Small) : dJ Tryz.prog 47 [dr y] (Ty.j8 [zW (tD y), Ty.int .i64 (cq y)]) := by
 refine ak Tryz.func47 rfl (by decide) Tryz.ntmps47 (by exact Nat.le_of_ble_eq_true rfl) fun w0 M0 => ?_
 refine aE (aA (bD rfl ?_))
 refine bu rfl (by exact List.cons_ne_nil _ _) rfl ?_
 refine bZ rfl (aD (aC (aE (aE (aA ?_)))))
 refine aX rfl rfl rfl (by exact Nat.le_of_ble_eq_true rfl) ?_
 refine af (kW y hs) rfl rfl rfl rfl rfl (bZ rfl (aD (aC (aE (aA (bF rfl (bB rfl rfl rfl (aD (aC ?_)))))))))
 refine cx rfl (fun hc1 => ?_) (fun hc1 => ?_)
 ·
  refine aE (aA ?_)
  refine dI rfl rfl (by exact List.cons_ne_nil _ _) rfl (by repeat (exact (aV.nil : aV _ _ [] _))) (by exact (rfl : _ = some [_, _])) ?_
  refine bF rfl ?_
  refine bh rfl rfl (by decide) rfl rfl rfl rfl rfl rfl ?_
  refine bZ rfl (aD (aC (az (aQ ?_))))
  refine ji rfl rfl rfl rfl rfl (by decide) rfl rfl rfl ?_ ?_
  all_goals skip
  all_goals first | exact zc (O5 hc1) | exact av rfl rfl (congrArg (Ty.int .i64) (open_1 hc1))
 refine aj (aC (aE ?_))
 have hck : bL y = 0 := hc1
 have hr := dD hck
 refine cP mixed rfl ?_
 refine aX rfl rfl rfl (by exact Nat.le_of_ble_eq_true rfl) ?_
 refine af (tL) rfl rfl rfl rfl rfl ?_
 refine dL (res' := Ty.pp (sV y 2000 1000 (aR y (nth bf)).length (aR y (nth bf)).length)) [(2000, 23), (1000, 31)] [2000, 1000] [(2000, Cont.vec dn 187 (aR y (nth bf))), (1000, Cont.vec cT 3 (gz (aR y (nth bf))))] (tE y hr bf jo) rfl rfl (aN (aN bX (aU rfl rfl)) (aU rfl rfl)) pre_nil (bk (a := 2000) (b := 23) (by decide) rfl (bp (by decide) rfl) (bk (a := 1000) (b := 31) (by decide) rfl (bp (by decide) rfl) post_nil)) (fJ (aN (aN (aN (aN (aN (aN bX (dg (by decide))) (dg (by decide))) (aU rfl rfl)) (aU rfl rfl)) (aU rfl rfl)) (aU rfl rfl))) ?_
 refine L8 rfl (aD ?_)
 refine ⟨by kernel_rfl, ?_⟩
 refine aC (aE (aE ?_))
 refine k8 (tg := 2000) [(5, Ty.pp (eI y (aR y (nth bf)) 1000 (aR y (nth bf)).length))] (by decide) rfl ⟨Af rfl ⟨bK rfl, bK rfl, bK rfl, bK rfl, jc rfl rfl (by decide), bK rfl, trivial⟩, trivial⟩ ?_
 refine aA (jv rfl ?_)
 refine dL [(1000, 1000)] [] [(1000, Cont.vec cT 3 (cU (aR y (nth bf)) (y.cells + 1) (gz (aR y (nth bf)))).2.2)] (nT y (aR y (nth bf)) (gz (aR y (nth bf))) (lz hr)) rfl rfl (aN bX (fJ (aN (aN (aN (aN (aN (aN bX (dg (by exact List.mem_cons_self))) (aU rfl rfl)) (aU rfl rfl)) (aU rfl rfl)) (aU rfl rfl)) (aU rfl rfl)))) (dA (a := 1000) (b := 1000) (by exact List.mem_cons_self) rfl (bp (by exact List.mem_cons_self) rfl) pre_nil) (bk (a := 1000) (b := 1000) (by decide) rfl (bp (by decide) rfl) post_nil) (aU rfl rfl) ?_
 refine dm rfl (aD (aC ?_))
 refine cH rfl (fun hc2 => ?_) (fun hc2 => ?_)
 ·
  refine aE (aA ?_)
  refine dI rfl rfl (by exact List.cons_ne_nil _ _) rfl (by repeat (exact (aV.nil : aV _ _ [] _))) (by exact (rfl : _ = some [_, _])) ?_
  refine bh rfl rfl (by decide) rfl rfl rfl rfl rfl rfl ?_
  refine bZ rfl (aD (aC (az (aQ ?_))))
  refine ji rfl rfl rfl rfl rfl (by decide) rfl rfl rfl ?_ ?_
  all_goals skip
  all_goals first | exact zc (Om hck (EL hc2)) | exact av rfl rfl (congrArg (Ty.int .i64) (wX hck (EL hc2)))
 refine aj (aC (aE ?_))
 have hfe := Ey hr (FE hc2)
 refine k8 (tg := 1000) [(5, Ty.pp (mR y (aR y (nth bf)) (cU (aR y (nth bf)) (y.cells + 1) (gz (aR y (nth bf)))).2.2))] (by decide) rfl ⟨Af rfl ⟨bK rfl, bK rfl, bK rfl, bK rfl, bK rfl, jc rfl hfe.1.1 (by decide), trivial⟩, trivial⟩ ?_
 refine aA (jv rfl (af (Pv y (nth bf) (cU (aR y (nth bf)) (y.cells + 1) (gz (aR y (nth bf)))).2.2 hr hfe.1.1) rfl rfl rfl rfl rfl ?_))
 refine bh rfl rfl (by decide) rfl rfl rfl rfl rfl rfl ?_
 refine bZ rfl (aD (aC (az ?_)))
 refine ji rfl rfl rfl rfl rfl (by decide) rfl rfl rfl ?_ ?_
 all_goals skip
 all_goals first | exact av rfl rfl (congrArg zW (Pb hck (FE hc2))) | exact av rfl rfl (congrArg (Ty.int .i64) (open_3 hck (FE hc2)))
set_option maxRecDepth 100000 in
theorem wh (y : au) (hs : y.Small) (h : cq y = 0) : eP Tryz.prog 86 [] [] [dr y] [(1000, Cont.vec cT 3 (kS y))] (Ty.j8 [Ty.pp (eI y (aR y (nth bf)) 1000 (aR y (nth bf)).length), Ty.int .i64 0]) := by
 refine rG Tryz.func86 rfl (by decide) Tryz.ntmps86 (by exact Nat.le_of_ble_eq_true rfl) fun w0 M0 => ?_
 have hck := eS h
 have hr := dD hck
 have hst := Ap h
 refine aE (aA (bD rfl (lE rfl (bZ rfl (aD (aC (aE (aE (aA ?_)))))))))
 refine aX rfl rfl rfl (by exact Nat.le_of_ble_eq_true rfl) ?_
 refine af (kW y hs) rfl rfl rfl rfl rfl (bZ rfl (aD (aC (aE (aA (bF rfl (bB rfl rfl rfl (aD (aC ?_)))))))))
 refine mo rfl (by rw [hck]; rfl) ?_
 refine aj (aC (aE (cP mixed rfl ?_)))
 refine aX rfl rfl rfl (by exact Nat.le_of_ble_eq_true rfl) ?_
 refine af (tL) rfl rfl rfl rfl rfl ?_
 refine dL (res' := Ty.pp (sV y 2000 1000 (aR y (nth bf)).length (aR y (nth bf)).length)) [(2000, 23), (1000, 31)] [2000, 1000] [(2000, Cont.vec dn 187 (aR y (nth bf))), (1000, Cont.vec cT 3 (gz (aR y (nth bf))))] (tE y hr bf jo) rfl rfl (aN (aN bX (aU rfl rfl)) (aU rfl rfl)) pre_nil (bk (a := 2000) (b := 23) (by decide) rfl (bp (by decide) rfl) (bk (a := 1000) (b := 31) (by decide) rfl (bp (by decide) rfl) post_nil)) (fJ (aN (aN (aN (aN (aN (aN bX (dg (by decide))) (dg (by decide))) (aU rfl rfl)) (aU rfl rfl)) (aU rfl rfl)) (aU rfl rfl))) ?_
 refine L8 rfl (aD ?_)
 refine ⟨by kernel_rfl, ?_⟩
 refine aC (aE (aE ?_))
 refine k8 (tg := 2000) [(5, Ty.pp (eI y (aR y (nth bf)) 1000 (aR y (nth bf)).length))] (by decide) rfl ⟨Af rfl ⟨bK rfl, bK rfl, bK rfl, bK rfl, jc rfl rfl (by decide), bK rfl, trivial⟩, trivial⟩ ?_
 refine aA (jv rfl ?_)
 refine dL [(1000, 1000)] [] [(1000, Cont.vec cT 3 (cU (aR y (nth bf)) (y.cells + 1) (gz (aR y (nth bf)))).2.2)] (nT y (aR y (nth bf)) (gz (aR y (nth bf))) (lz hr)) rfl rfl (aN bX (fJ (aN (aN (aN (aN (aN (aN bX (dg (by exact List.mem_cons_self))) (aU rfl rfl)) (aU rfl rfl)) (aU rfl rfl)) (aU rfl rfl)) (aU rfl rfl)))) (dA (a := 1000) (b := 1000) (by exact List.mem_cons_self) rfl (bp (by exact List.mem_cons_self) rfl) pre_nil) (bk (a := 1000) (b := 1000) (by decide) rfl (bp (by decide) rfl) post_nil) (aU rfl rfl) ?_
 refine dm rfl (aD (aC ?_))
 refine mo rfl (by rw [hst]; rfl) ?_
 refine aj (aC (aE (aA (jv rfl (L8 rfl (bZ rfl (aD (aC (az ?_)))))))))
 refine K7 rfl ?_
 refine Ab [1000] rfl rfl rfl (by decide) ?_ ?_ ?_
 ·exact eG rfl (bp (by decide) (PL y)) gS
 all_goals first | exact iR (aU rfl rfl) | skip
 all_goals exact iR (fJ (aN (aN (aN (aN (aN (aN bX (dg (by decide))) (aU rfl rfl)) (aU rfl rfl)) (aU rfl rfl)) (aU rfl rfl)) (aU rfl rfl)))
set_option maxRecDepth 100000 in
theorem pF (y : au) (hs : y.Small) (h : cq y ≠ 0) : dJ Tryz.prog 86 [dr y] (Ty.j8 [Ty.ex (.pointer none), Ty.int .i64 (cq y)]) := by
 refine ak Tryz.func86 rfl (by decide) Tryz.ntmps86 (by exact Nat.le_of_ble_eq_true rfl) fun w0 M0 => ?_
 refine aE (aA (bD rfl (lE rfl (bZ rfl (aD (aC (aE (aE (aA ?_)))))))))
 refine aX rfl rfl rfl (by exact Nat.le_of_ble_eq_true rfl) ?_
 refine af (kW y hs) rfl rfl rfl rfl rfl (bZ rfl (aD (aC (aE (aA (bF rfl (bB rfl rfl rfl (aD (aC ?_)))))))))
 refine cx rfl (fun hc1 => ?_) (fun hc1 => ?_)
 ·
  refine aE (aA (bF rfl (lE rfl (bZ rfl (aD (aC (az (aQ ?_))))))))
  refine fG rfl rfl rfl ?_ ?_
  all_goals first | exact cG rfl rfl | skip
  all_goals exact av rfl rfl (congrArg (Ty.int .i64) (open_1 hc1))
 refine aj (aC (aE ?_))
 have hck : bL y = 0 := hc1
 have hr := dD hck
 refine cP mixed rfl ?_
 refine aX rfl rfl rfl (by exact Nat.le_of_ble_eq_true rfl) ?_
 refine af (tL) rfl rfl rfl rfl rfl ?_
 refine dL (res' := Ty.pp (sV y 2000 1000 (aR y (nth bf)).length (aR y (nth bf)).length)) [(2000, 23), (1000, 31)] [2000, 1000] [(2000, Cont.vec dn 187 (aR y (nth bf))), (1000, Cont.vec cT 3 (gz (aR y (nth bf))))] (tE y hr bf jo) rfl rfl (aN (aN bX (aU rfl rfl)) (aU rfl rfl)) pre_nil (bk (a := 2000) (b := 23) (by decide) rfl (bp (by decide) rfl) (bk (a := 1000) (b := 31) (by decide) rfl (bp (by decide) rfl) post_nil)) (fJ (aN (aN (aN (aN (aN (aN bX (dg (by decide))) (dg (by decide))) (aU rfl rfl)) (aU rfl rfl)) (aU rfl rfl)) (aU rfl rfl))) ?_
 refine L8 rfl (aD ?_)
 refine ⟨by kernel_rfl, ?_⟩
 refine aC (aE (aE ?_))
 refine k8 (tg := 2000) [(5, Ty.pp (eI y (aR y (nth bf)) 1000 (aR y (nth bf)).length))] (by decide) rfl ⟨Af rfl ⟨bK rfl, bK rfl, bK rfl, bK rfl, jc rfl rfl (by decide), bK rfl, trivial⟩, trivial⟩ ?_
 refine aA (jv rfl ?_)
 refine dL [(1000, 1000)] [] [(1000, Cont.vec cT 3 (cU (aR y (nth bf)) (y.cells + 1) (gz (aR y (nth bf)))).2.2)] (nT y (aR y (nth bf)) (gz (aR y (nth bf))) (lz hr)) rfl rfl (aN bX (fJ (aN (aN (aN (aN (aN (aN bX (dg (by exact List.mem_cons_self))) (aU rfl rfl)) (aU rfl rfl)) (aU rfl rfl)) (aU rfl rfl)) (aU rfl rfl)))) (dA (a := 1000) (b := 1000) (by exact List.mem_cons_self) rfl (bp (by exact List.mem_cons_self) rfl) pre_nil) (bk (a := 1000) (b := 1000) (by decide) rfl (bp (by decide) rfl) post_nil) (aU rfl rfl) ?_
 refine dm rfl (aD (aC ?_))
 refine cH rfl (fun hc2 => ?_) (fun hc2 => ?_)
 ·
  refine aE (aA (lE rfl (bZ rfl (aD (aC (az (aQ ?_)))))))
  refine fG rfl rfl rfl ?_ ?_
  all_goals first | exact cG rfl rfl | skip
  all_goals exact av rfl rfl (congrArg (Ty.int .i64) (wX hck (EL hc2)))
 refine aj (aC (aE (aA (jv rfl (L8 rfl (bZ rfl (aD (aC (az ?_)))))))))
 refine fG rfl rfl rfl ?_ ?_
 all_goals skip
 all_goals exact absurd (open_3 hck (FE hc2)).symm h
end Go.Proofs.YtelbollidfdcjaaGreat
namespace Go.Proofs.YtelbollidfdcjaaGreat
open Go Go.T
set_option maxHeartbeats 16000000
def sH (k : Nat) (i : Nat) : Bool := decide ((i : Int) = (k : Int))
def hasB (y : au) (b t : Nat) : Nat → Bool := sH (y.kept b t)
noncomputable def oc (fl : List cB) (n : Nat) (y : au) (b : Nat) (a : List Int) : Nat → List Int
  | 0 => a
  | t + 1 => yl fl n (hasB y b t) (oc fl n y b a t)
noncomputable def ow (fl : List cB) (n : Nat) (y : au) (b k : Nat) : List Span := (List.range k).map fun t => gp fl n (hasB y b t)
noncomputable def jq (y : au) (b : Int) : Int := if eC y b = 0 then cq y else eC y b
noncomputable def jE (y : au) (b : Int) : List Span := if jq y b = 0 then ow (aR y (nth bf)) (y.cells + 1) y b.toNat (y.D + 1) else []
def NG (y : au) (k : Int) : Int := if bL y = 0 then (if (decide (k ≥ 0) && decide (k ≤ (y.moves.length : Int) - 1)) = true then 0 else 1) else bL y
noncomputable def kr (y : au) (k : Int) : Int := if NG y k = 0 then cq y else NG y k
noncomputable def mU (y : au) (k : Int) : Span := if kr y k = 0 then gp (aR y (nth bf)) (y.cells + 1) (sH (y.bins.length * (y.D + 1) + k.toNat)) else ⟨0, 0⟩
theorem uX {y : au} (h : cq y = 0) : mA y (aR y (nth bf)) (kS y) := ⟨dD (eS h), l8 (dD (eS h)), vm (dD (eS h)), (qI h).1, kQ (dD (eS h))⟩
section
variable {y : au} {fl : List cB} {a : List Int} {n b k : Nat} {q : Int}
theorem Cm (hN : Net fl n) (hn : 0 < n) (hB : Bd fl) (h : g5 fl n a) : ∀ t, g5 fl n (oc fl n y b a t)
  | 0 => h
  | t + 1 => (sk hN hn hB (Cm hN hn hB h t)).2.1
theorem Kt : a = oc fl n y b a 0 := rfl
theorem KJ (t : Nat) : yl fl n (hasB y b t) (oc fl n y b a t) = oc fl n y b a (t + 1) := rfl
theorem HE (t : Nat) : ow fl n y b t ++ [gp fl n (hasB y b t)] = ow fl n y b (t + 1) := by unfold ow; rw [List.range_succ, List.map_append]; rfl
theorem JK (t : Nat) : (ow fl n y b t).length = t := by unfold ow; rw [List.length_map, List.length_range]
theorem IJ : ow fl n y b 0 = [] := rfl
theorem C9 {T tg : Nat} {xs : List Span} (h : xs = []) : (Ty.ex (.slice none 0 0)).Sub (Ty.row bw T tg xs) := by subst h; exact Ty.gZ
theorem NJ (k : Nat) (i : Nat) : decide ((i : Int) = (k : Int)) = sH k i := rfl
theorem Mo (b t i : Nat) : decide ((i : Int) = ((y.kept b t : Nat) : Int)) = hasB y b t i := rfl
theorem Ay (h : ¬ eC y q = 0) : eC y q = jq y q ∧ [] = jE y q := by
 have e : eC y q = jq y q := (if_neg h).symm
 exact ⟨e, by unfold jE; rw [← e, if_neg h]⟩
theorem Ki (h : eC y q = 0) (ho : cq y ≠ 0) : cq y = jq y q ∧ [] = jE y q := by
 have e : cq y = jq y q := (if_pos h).symm
 exact ⟨e, by unfold jE; rw [← e, if_neg ho]⟩
theorem AX (h : eC y q = 0) (ho : cq y = 0) : 0 = jq y q ∧ ow (aR y (nth bf)) (y.cells + 1) y q.toNat (y.D + 1) = jE y q := by
 have e : cq y = jq y q := (if_pos h).symm
 exact ⟨by rw [← e, ho], by unfold jE; rw [← e, if_pos ho]⟩
theorem IC (h : eC y q = 0) : 0 ≤ q ∧ q < y.bins.length := by
 unfold eC at h
 by_cases e : bL y = 0
 ·rw [if_pos e] at h
  by_cases c : y.bin q = true
  ·unfold au.bin AI at c
   rw [Bool.and_eq_true, decide_eq_true_eq, decide_eq_true_eq] at c; omega
  rw [if_neg c] at h; cases h
 rw [if_neg e] at h; exact absurd h e
theorem FA (h : ¬ bL y = 0) : bL y = kr y q ∧ (⟨0, 0⟩ : Span) = mU y q := by
 have e1 : NG y q = bL y := if_neg h
 have e : bL y = kr y q := by unfold kr; rw [e1, if_neg h]
 exact ⟨e, by unfold mU; rw [← e, if_neg h]⟩
theorem FJ (h : bL y = 0) (h2 : (!(decide (q ≥ 0) && decide (q ≤ (y.moves.length : Int) - 1))) = true) : 1 = kr y q ∧ (⟨0, 0⟩ : Span) = mU y q := by
 have e1 : NG y q = 1 := by unfold NG; rw [if_pos h, if_neg (by rw [l9 h2]; decide)]
 have e : 1 = kr y q := by unfold kr; rw [e1]; rfl
 exact ⟨e, by unfold mU; rw [← e]; rfl⟩
theorem FM (h2 : (!(decide (q ≥ 0) && decide (q ≤ (y.moves.length : Int) - 1))) = false) : 0 ≤ q ∧ q < y.moves.length := by
 have := ew h2
 rw [Bool.and_eq_true, decide_eq_true_eq, decide_eq_true_eq] at this; omega
theorem OH (h : bL y = 0) (h2 : (!(decide (q ≥ 0) && decide (q ≤ (y.moves.length : Int) - 1))) = false) (ho : cq y ≠ 0) : cq y = kr y q ∧ (⟨0, 0⟩ : Span) = mU y q := by
 have e1 : NG y q = 0 := by unfold NG; rw [if_pos h, if_pos (ew h2)]
 have e : cq y = kr y q := by unfold kr; rw [e1]; rfl
 exact ⟨e, by unfold mU; rw [← e, if_neg ho]⟩
theorem GQ (h : bL y = 0) (h2 : (!(decide (q ≥ 0) && decide (q ≤ (y.moves.length : Int) - 1))) = false) (ho : cq y = 0) : 0 = kr y q ∧ gp (aR y (nth bf)) (y.cells + 1) (sH (y.bins.length * (y.D + 1) + q.toNat)) = mU y q := by
 have e1 : NG y q = 0 := by unfold NG; rw [if_pos h, if_pos (ew h2)]
 have e : cq y = kr y q := by unfold kr; rw [e1]; rfl
 exact ⟨by rw [← e, ho], by unfold mU; rw [← e, if_pos ho]⟩
end
attribute [local irreducible] aR gz Way.iA Way.fin Way.room eR dz ef gW over bO cO dY eT jP fC hH j0 cU gP gA gD cw cN gY oo iS ij jD gp Bc yl iB au.kept au.cells bL eC bf gG kS cq oc ow jq jE kr mU hasB sH
attribute [local irreducible] gL eX lN nh gy g6 gu gw gx nj gr ni dN fX nH fu nZ nth fP dQ bA dJ bodyPost Exit.then Exit.inBlock Code.wp Code.wpIn nW g7 nY nV g8 eP cL cM bodyPostM dR
set_option maxRecDepth 100000 in
theorem G2 (f k : Int) : dJ Tryz.prog 165 [Ty.int .i64 f, Ty.pp [Ty.int .i64 k]] (Ty.bool (decide (f = k))) := by
 refine ak Tryz.func165 rfl (by decide) Tryz.ntmps165 (by exact Nat.le_of_ble_eq_true rfl) fun w0 M0 => ?_
 refine aE (aA (cm rfl (aD (aC (aE (aA (bF rfl (aJ rfl rfl rfl rfl (bB rfl rfl rfl ?_)))))))))
 refine cm rfl (aD (aC (az (bR rfl rfl ?_))))
 all_goals exact cG rfl rfl
set_option maxRecDepth 100000 in
theorem K5 (y : au) (fl : List cB) (a : List Int) (h : mA y fl a) (hfe : g5 fl (y.cells + 1) a) (b : Nat) (hb : b < y.bins.length) : eP Tryz.prog 91 [1000] [(1000, Cont.vec cT 3 a)] [Ty.pp (eI y fl 1000 fl.length), Ty.int .i64 ((b : Nat) : Int)] [(1000, Cont.vec cT 3 (oc fl (y.cells + 1) y b a (y.D + 1)))] (Ty.sl bw (ow fl (y.cells + 1) y b (y.D + 1))) := by
 refine fS Tryz.func91 rfl (by decide) Tryz.ntmps91 (by exact Nat.le_of_ble_eq_true rfl) fun w0 M0 => ?_
 have h1 := h.right.bins
 have h2 := h.right.days
 have h3 := D_eq h.right
 have hft := Cm (y := y) (b := b) h.net (Nat.succ_pos _) h.bd hfe
 refine aE (aA (lE rfl (aD (aC (aE (aA (lE rfl (aD (aC ?_)))))))))
 refine aE (aE (aA (jv rfl (cA rfl ?_))))
 refine aL rfl rfl rfl rfl rfl (by decide) ?_
 refine aL rfl rfl rfl rfl rfl (by decide) ?_
 refine aJ rfl rfl rfl rfl ?_
 refine bq rfl rfl (by omega) (by omega) ?_
 refine bF rfl (aD (aC (aY ?_)))
 refine b9 (fun (t : {t : Nat // t ≤ y.D + 1}) => live [(0, Ty.pp (eI y fl 1000 fl.length)), (1, Ty.int .i64 ((b : Nat) : Int)), (5, Ty.row bw 37 26 (ow fl (y.cells + 1) y b t.1)), (13, Ty.int .i64 (y.days + 1)), (14, Ty.int .i64 (t.1 : Nat))] [(1000, Cont.vec cT 3 (oc fl (y.cells + 1) y b a t.1))]) (fun t => y.D + 1 - t.1) (⟨0, by omega⟩) ?_ fun t => ?_
 ·(refine cg.mk' ?_ ?_ <;> (repeat' (first | exact aI | exact aH | refine aB ?_ (Ty.aT _) | refine aB ?_ (Ty.aF _) | refine aG rfl ?_ ?_ | refine aB ?_ ?_)))
  all_goals first | exact C9 IJ | exact Cont.cy Kt
 have hbl := JK (fl := fl) (n := (y.cells + 1)) (y := y) (b := b) t.1
 have ht := t.2
 have hFt : mA y fl (oc fl (y.cells + 1) y b a t.1) := ⟨h.right, h.net, h.bd, (hft t.1).1, h.rB⟩
 refine aE (aA (bB rfl rfl rfl (aD (aC (aE ?_)))))
 refine ah rfl (fun hc1 => ?_) (fun hc1 => ?_)
 ·
  refine aj (aC (aE (aY (aE (aA (bF rfl (bZ rfl (aD (aC ?_)))))))))
  refine aE (aA (jv rfl (bF rfl (bF rfl ?_))))
  refine eM [] (Ds y h.right b t.1 hb (by omega)) rfl (aW (nR (l1 := bE y) (l2 := [Ty.sl dn fl, Ty.vs 1000 fl.length]) rfl rfl) (aW (bU (bV rfl rfl)) (aW (bU (bV rfl rfl)) cR))) (by exact dc _ _) ?_
  refine bu rfl (by exact List.cons_ne_nil _ _) rfl ?_
  refine cv rfl rfl (by decide) rfl rfl (by exact (rfl : _ = Ty.int _ _)) rfl (by exact Nat.le_of_ble_eq_true rfl) rfl rfl (by exact (rfl : _ = [_])) ?_
  refine aD (aC ?_)
  refine k8 (tg := 8) [(7, Ty.pp [Ty.int .i64 ((y.kept b t.1 : Nat) : Int)])] (by decide) rfl ⟨mM (T := 3) (off := 0) (l := [Ty.int .i64 ((y.kept b t.1 : Nat) : Int)]) rfl rfl rfl (by decide), trivial⟩ ?_
  refine aA (Eb rfl (jv rfl (dK rfl ?_)))
  refine dL [(1000, 1000)] [] [(1000, Cont.vec cT 3 (yl fl (y.cells + 1) (hasB y b t.1) (oc fl (y.cells + 1) y b a t.1)))] (Dy y fl (oc fl (y.cells + 1) y b a t.1) hFt (hft t.1) (Ty.jw 165 [Ty.pp [Ty.int .i64 ((y.kept b t.1 : Nat) : Int)]]) rfl rfl (hasB y b t.1) (fun i _ => by rw [← Mo]; exact dU (G2 (i : Nat) _) rfl rfl rfl rfl rfl rfl) rfl) rfl rfl (aN (aN bX (aU rfl rfl)) (fJ (aN (aN (aN (aN (aN (aN bX (dg (by exact List.mem_cons_self))) (aU rfl rfl)) (aU rfl rfl)) (aU rfl rfl)) (aU rfl rfl)) (aU rfl rfl)))) (dA (a := 1000) (b := 1000) (by exact List.mem_cons_self) rfl (bp (by exact List.mem_cons_self) rfl) pre_nil) (bk (a := 1000) (b := 1000) (by decide) rfl (bp (by decide) rfl) post_nil) (aU rfl rfl) ?_
  refine bW (E := bw) (xs := [gp fl (y.cells + 1) (hasB y b t.1)]) rfl rfl rfl rfl rfl (by decide) (by decide) (by repeat (first | exact (aV.nil : aV _ _ [] _) | (show aV _ _ ((_, _) :: _) _; apply aV.agg; (· exact (rfl : _ = Ty.agg _))))) (by exact rfl) rfl ?_
  refine dj rfl rfl (by decide) rfl rfl rfl rfl rfl rfl (by decide) (by (simp <;> omega)) (by (simp <;> omega)) ?_
  refine yW rfl (aD (bI (aC (aA ?_))))
  refine bq rfl rfl (by omega) (by omega) ?_
  refine bF rfl (aD ?_)
  refine bM (⟨t.1 + 1, by omega⟩) ?_ (by show y.D + 1 - (t.1 + 1) < y.D + 1 - t.1; omega)
  (refine cg.mk' ?_ ?_ <;> (repeat' (first | exact aI | exact aH | refine aB ?_ (Ty.aT _) | refine aB ?_ (Ty.aF _) | refine aG rfl ?_ ?_ | refine aB ?_ ?_)))
  all_goals skip
  all_goals first | exact Ty.eU (HE _) | exact Cont.cy (KJ _)
 refine bz (aP (aP (aa rfl (aC (aE (aA (Eb rfl (yW rfl (aD ?_)))))))))
 refine aC (az ?_)
 refine iq [1000] rfl rfl (by decide) ?_ ?_
 ·exact eG rfl (bp (by decide) (by rw [show t.1 = y.D + 1 by have := t.2; omega])) gS
 all_goals skip
 all_goals exact Im (by decide) rfl (by rw [show t.1 = y.D + 1 by have := t.2; omega])
set_option maxRecDepth 100000 in
theorem CB (y : au) (hs : y.Small) (q : Int) (ho : cq y ≠ 0) : dJ Tryz.prog 22 [dr y, Ty.int .i64 q] (Ty.j8 [Ty.sl bw (jE y q), Ty.int .i64 (jq y q)]) := by
 refine ak Tryz.func22 rfl (by decide) Tryz.ntmps22 (by exact Nat.le_of_ble_eq_true rfl) fun w0 M0 => ?_
 refine aE (aA (bD rfl (lE rfl (bZ rfl (aD (aC (aE (aE (aA ?_)))))))))
 refine aX rfl rfl rfl (by exact Nat.le_of_ble_eq_true rfl) ?_
 refine bF rfl (af (BD y hs q) rfl rfl rfl rfl rfl (bZ rfl (aD (aC (aE (aA (bF rfl (bB rfl rfl rfl (aD ?_)))))))))
 refine aC ?_
 refine cx rfl (fun hc1 => ?_) (fun hc1 => ?_)
 ·
  refine aE (aA (bF rfl (lE rfl (bZ rfl (aD (aC (az (aQ ?_))))))))
  refine fG rfl rfl rfl ?_ ?_
  all_goals skip
  all_goals first | exact gT (Ay hc1).2.symm | exact av rfl rfl (congrArg (Ty.int .i64) (Ay hc1).1)
 refine aj (aC (aE (aA ?_)))
 refine aX rfl rfl rfl (by exact Nat.le_of_ble_eq_true rfl) ?_
 refine af (pF y hs ho) rfl rfl rfl rfl rfl (sU rfl (bQ rfl rfl (bQ rfl rfl (lE rfl (bZ rfl (aD (aC (aE (aE ?_)))))))))
 refine aA (bF rfl (bB rfl rfl rfl (aD (aC ?_))))
 refine qJ rfl (by rw [decide_eq_false ho]; rfl) ?_
 refine aE (aA (bF rfl (lE rfl (bZ rfl (aD (aC (az (aQ ?_))))))))
 refine fG rfl rfl rfl ?_ ?_
 all_goals skip
 all_goals first | exact gT (Ki hc1 ho).2.symm | exact av rfl rfl (congrArg (Ty.int .i64) (Ki hc1 ho).1)
set_option maxRecDepth 100000 in
theorem DP (y : au) (hs : y.Small) (q : Int) (ho : cq y = 0) : dJ Tryz.prog 22 [dr y, Ty.int .i64 q] (Ty.j8 [Ty.sl bw (jE y q), Ty.int .i64 (jq y q)]) := by
 refine ak Tryz.func22 rfl (by decide) Tryz.ntmps22 (by exact Nat.le_of_ble_eq_true rfl) fun w0 M0 => ?_
 have hck := eS ho
 have hr := dD hck
 have hF : mA y (aR y (nth bf)) (kS y) := uX ho
 have hfe := qI ho
 refine aE (aA (bD rfl (lE rfl (bZ rfl (aD (aC (aE (aE (aA ?_)))))))))
 refine aX rfl rfl rfl (by exact Nat.le_of_ble_eq_true rfl) ?_
 refine bF rfl (af (BD y hs q) rfl rfl rfl rfl rfl (bZ rfl (aD (aC (aE (aA (bF rfl (bB rfl rfl rfl (aD ?_)))))))))
 refine aC ?_
 refine cx rfl (fun hc1 => ?_) (fun hc1 => ?_)
 ·
  refine aE (aA (bF rfl (lE rfl (bZ rfl (aD (aC (az (aQ ?_))))))))
  refine fG rfl rfl rfl ?_ ?_
  all_goals skip
  all_goals first | exact gT (Ay hc1).2.symm | exact av rfl rfl (congrArg (Ty.int .i64) (Ay hc1).1)
 refine aj (aC (aE (aA ?_)))
 refine aX rfl rfl rfl (by exact Nat.le_of_ble_eq_true rfl) ?_
 refine dL (res' := Ty.j8 [Ty.pp (eI y (aR y (nth bf)) 1000 (aR y (nth bf)).length), Ty.int .i64 0]) [(1000, 1000)] [1000] [(1000, Cont.vec cT 3 (kS y))] (wh y hs ho) rfl rfl (aN bX (aU rfl rfl)) pre_nil (bk (a := 1000) (b := 1000) (by decide) rfl (bp (by decide) rfl) post_nil) (EZ (aN (aN bX (aU rfl rfl)) (fJ (aN (aN (aN (aN (aN (aN bX (dg (by decide))) (aU rfl rfl)) (aU rfl rfl)) (aU rfl rfl)) (aU rfl rfl)) (aU rfl rfl))))) ?_
 refine sU rfl (bQ rfl rfl (bQ rfl rfl (L8 rfl (bZ rfl (aD (aC (aE (aE (aA ?_)))))))))
 refine bF rfl (bB rfl rfl rfl (aD (aC (mo rfl (rfl) (aj (aC (aE ?_)))))))
 have hq := IC hc1
 have hqn : ((q.toNat : Nat) : Int) = q := by omega
 refine iC (s := 1) rfl (Ty.bN hqn.symm) ?_
 refine aA (jv rfl (bF rfl ?_))
 refine dL [(1000, 1000)] [] [(1000, Cont.vec cT 3 (oc (aR y (nth bf)) (y.cells + 1) y q.toNat (kS y) (y.D + 1)))] (K5 y (aR y (nth bf)) (kS y) hF hfe q.toNat (by omega)) rfl rfl (aN (aN bX (aU rfl rfl)) (fJ (aN (aN (aN (aN (aN (aN bX (dg (by exact List.mem_cons_self))) (aU rfl rfl)) (aU rfl rfl)) (aU rfl rfl)) (aU rfl rfl)) (aU rfl rfl)))) (dA (a := 1000) (b := 1000) (by exact List.mem_cons_self) rfl (bp (by exact List.mem_cons_self) rfl) pre_nil) (bk (a := 1000) (b := 1000) (by decide) rfl (bp (by decide) rfl) post_nil) (aU rfl rfl) ?_
 refine va rfl (bZ rfl (aD (aC (az ?_))))
 refine fG rfl rfl rfl ?_ ?_
 all_goals skip
 all_goals first | exact av rfl rfl (congrArg (Ty.sl bw) (AX hc1 ho).2) | exact av rfl rfl (congrArg (Ty.int .i64) (AX hc1 ho).1)
set_option maxRecDepth 100000 in
theorem LV (f k : Int) : dJ Tryz.prog 121 [Ty.int .i64 f, Ty.pp [Ty.int .i64 k]] (Ty.bool (decide (f = k))) := by
 refine ak Tryz.func121 rfl (by decide) Tryz.ntmps121 (by exact Nat.le_of_ble_eq_true rfl) fun w0 M0 => ?_
 refine aE (aA (cm rfl (aD (aC (aE (aA (bF rfl (aJ rfl rfl rfl rfl (bB rfl rfl rfl ?_)))))))))
 refine cm rfl (aD (aC (az (bR rfl rfl ?_))))
 all_goals exact cG rfl rfl
set_option maxRecDepth 100000 in
theorem D3 (y : au) (hs : y.Small) (q : Int) (ho : cq y ≠ 0) : dJ Tryz.prog 48 [dr y, Ty.int .i64 q] (Ty.j8 [Ty.agg (bw.tys (mU y q)), Ty.int .i64 (kr y q)]) := by
 refine ak Tryz.func48 rfl (by decide) Tryz.ntmps48 (by exact Nat.le_of_ble_eq_true rfl) fun w0 M0 => ?_
 have hsm := hs.moves
 refine aE (aA (bD rfl ?_))
 refine bu rfl (by exact List.cons_ne_nil _ _) rfl ?_
 refine bZ rfl (aD (aC (aE (aE (aA ?_)))))
 refine aX rfl rfl rfl (by exact Nat.le_of_ble_eq_true rfl) ?_
 refine af (kW y hs) rfl rfl rfl rfl rfl (bZ rfl (aD (aC (aE (aA (bF rfl (bB rfl rfl rfl (aD (aC ?_)))))))))
 refine cx rfl (fun hc1 => ?_) (fun hc1 => ?_)
 ·
  refine aE (aA ?_)
  refine dI rfl rfl (by exact List.cons_ne_nil _ _) rfl (by repeat (exact (aV.nil : aV _ _ [] _))) (by exact (rfl : _ = some [_, _])) ?_
  refine bF rfl ?_
  refine bh rfl rfl (by decide) rfl rfl rfl rfl rfl rfl ?_
  refine bZ rfl (aD (aC (az (aQ ?_))))
  refine ji rfl rfl rfl rfl rfl (by decide) rfl rfl rfl ?_ ?_
  all_goals skip
  all_goals first | exact av rfl rfl (congrArg (fun s => Ty.agg (bw.tys s)) (FA hc1).2) | exact av rfl rfl (congrArg (Ty.int .i64) (FA hc1).1)
 refine aj (aC (aE (aE (aA (bF rfl ?_)))))
 refine aL rfl rfl rfl rfl rfl (by decide) ?_
 refine aJ rfl rfl rfl rfl (cD rfl rfl rfl ?_)
 refine gH rfl rfl (by omega) (by omega) ?_
 refine af (uN _ _ _) rfl rfl rfl rfl rfl (dm rfl (aD (aC ?_)))
 refine cH rfl (fun hc2 => ?_) (fun hc2 => ?_)
 ·
  refine aE (aA ?_)
  refine dI rfl rfl (by exact List.cons_ne_nil _ _) rfl (by repeat (exact (aV.nil : aV _ _ [] _))) (by exact (rfl : _ = some [_, _])) ?_
  refine bh rfl rfl (by decide) rfl rfl rfl rfl rfl rfl ?_
  refine bZ rfl (aD (aC (az (aQ ?_))))
  refine ji rfl rfl rfl rfl rfl (by decide) rfl rfl rfl ?_ ?_
  all_goals skip
  all_goals first | exact av rfl rfl (congrArg (fun s => Ty.agg (bw.tys s)) (FJ hc1 hc2).2) | exact av rfl rfl (congrArg (Ty.int .i64) (FJ hc1 hc2).1)
 refine aj (aC (aE (aA ?_)))
 refine aX rfl rfl rfl (by exact Nat.le_of_ble_eq_true rfl) ?_
 refine af (pF y hs ho) rfl rfl rfl rfl rfl (sU rfl (bQ rfl rfl (bQ rfl rfl (lE rfl (bZ rfl (aD (aC (aE (aE ?_)))))))))
 refine aA (bF rfl (bB rfl rfl rfl (aD (aC ?_))))
 refine qJ rfl (by rw [decide_eq_false ho]; rfl) ?_
 refine aE (aA ?_)
 refine dI rfl rfl (by exact List.cons_ne_nil _ _) rfl (by repeat (exact (aV.nil : aV _ _ [] _))) (by exact (rfl : _ = some [_, _])) ?_
 refine bF rfl ?_
 refine bh rfl rfl (by decide) rfl rfl rfl rfl rfl rfl ?_
 refine bZ rfl (aD (aC (az (aQ ?_))))
 refine ji rfl rfl rfl rfl rfl (by decide) rfl rfl rfl ?_ ?_
 all_goals skip
 all_goals first | exact av rfl rfl (congrArg (fun s => Ty.agg (bw.tys s)) (OH hc1 hc2 ho).2) | exact av rfl rfl (congrArg (Ty.int .i64) (OH hc1 hc2 ho).1)
set_option maxRecDepth 100000 in
theorem Es (y : au) (hs : y.Small) (q : Int) (ho : cq y = 0) : dJ Tryz.prog 48 [dr y, Ty.int .i64 q] (Ty.j8 [Ty.agg (bw.tys (mU y q)), Ty.int .i64 (kr y q)]) := by
 refine ak Tryz.func48 rfl (by decide) Tryz.ntmps48 (by exact Nat.le_of_ble_eq_true rfl) fun w0 M0 => ?_
 have hck := eS ho
 have hr := dD hck
 have hF : mA y (aR y (nth bf)) (kS y) := uX ho
 have hfe := qI ho
 have hsm := hs.moves
 have hfl := fK (y := y) (c := nth bf)
 have hf34 : (aR y (nth bf)).length ≤ 34 := kQ hr
 refine aE (aA (bD rfl ?_))
 refine bu rfl (by exact List.cons_ne_nil _ _) rfl ?_
 refine bZ rfl (aD (aC (aE (aE (aA ?_)))))
 refine aX rfl rfl rfl (by exact Nat.le_of_ble_eq_true rfl) ?_
 refine af (kW y hs) rfl rfl rfl rfl rfl (bZ rfl (aD (aC (aE (aA (bF rfl (bB rfl rfl rfl (aD (aC ?_)))))))))
 refine cx rfl (fun hc1 => ?_) (fun hc1 => ?_)
 ·
  refine aE (aA ?_)
  refine dI rfl rfl (by exact List.cons_ne_nil _ _) rfl (by repeat (exact (aV.nil : aV _ _ [] _))) (by exact (rfl : _ = some [_, _])) ?_
  refine bF rfl ?_
  refine bh rfl rfl (by decide) rfl rfl rfl rfl rfl rfl ?_
  refine bZ rfl (aD (aC (az (aQ ?_))))
  refine ji rfl rfl rfl rfl rfl (by decide) rfl rfl rfl ?_ ?_
  all_goals skip
  all_goals first | exact av rfl rfl (congrArg (fun s => Ty.agg (bw.tys s)) (FA hc1).2) | exact av rfl rfl (congrArg (Ty.int .i64) (FA hc1).1)
 refine aj (aC (aE (aE (aA (bF rfl ?_)))))
 refine aL rfl rfl rfl rfl rfl (by decide) ?_
 refine aJ rfl rfl rfl rfl (cD rfl rfl rfl ?_)
 refine gH rfl rfl (by omega) (by omega) ?_
 refine af (uN _ _ _) rfl rfl rfl rfl rfl (dm rfl (aD (aC ?_)))
 refine cH rfl (fun hc2 => ?_) (fun hc2 => ?_)
 ·
  refine aE (aA ?_)
  refine dI rfl rfl (by exact List.cons_ne_nil _ _) rfl (by repeat (exact (aV.nil : aV _ _ [] _))) (by exact (rfl : _ = some [_, _])) ?_
  refine bh rfl rfl (by decide) rfl rfl rfl rfl rfl rfl ?_
  refine bZ rfl (aD (aC (az (aQ ?_))))
  refine ji rfl rfl rfl rfl rfl (by decide) rfl rfl rfl ?_ ?_
  all_goals skip
  all_goals first | exact av rfl rfl (congrArg (fun s => Ty.agg (bw.tys s)) (FJ hc1 hc2).2) | exact av rfl rfl (congrArg (Ty.int .i64) (FJ hc1 hc2).1)
 refine aj (aC (aE (aA ?_)))
 refine aX rfl rfl rfl (by exact Nat.le_of_ble_eq_true rfl) ?_
 refine dL (res' := Ty.j8 [Ty.pp (eI y (aR y (nth bf)) 1000 (aR y (nth bf)).length), Ty.int .i64 0]) [(1000, 1000)] [1000] [(1000, Cont.vec cT 3 (kS y))] (wh y hs ho) rfl rfl (aN bX (aU rfl rfl)) pre_nil (bk (a := 1000) (b := 1000) (by decide) rfl (bp (by decide) rfl) post_nil) (EZ (aN (aN bX (aU rfl rfl)) (fJ (aN (aN (aN (aN (aN (aN bX (dg (by decide))) (aU rfl rfl)) (aU rfl rfl)) (aU rfl rfl)) (aU rfl rfl)) (aU rfl rfl))))) ?_
 refine sU rfl (bQ rfl rfl (bQ rfl rfl (L8 rfl (bZ rfl (aD (aC (aE (aE (aA ?_)))))))))
 refine bF rfl (bB rfl rfl rfl (aD (aC (mo rfl (rfl) (aj (aC (aE ?_)))))))
 have hq := FM hc2
 refine cP mixed rfl (jv rfl (cA rfl ?_))
 refine aL rfl rfl rfl rfl rfl (by decide) ?_
 refine aJ rfl rfl rfl rfl (cD rfl rfl rfl ?_)
 refine aL rfl rfl rfl rfl rfl (by decide) ?_
 refine aJ rfl rfl rfl rfl (cD rfl rfl rfl ?_)
 refine gH rfl rfl (by omega) (by omega) ?_
 refine bF rfl ?_
 refine bq rfl rfl (by omega) (by omega) ?_
 refine bu rfl (by exact List.cons_ne_nil _ _) rfl ?_
 refine cv rfl rfl (by decide) rfl rfl (by exact (rfl : _ = Ty.int _ _)) rfl (by exact Nat.le_of_ble_eq_true rfl) rfl rfl (by exact (rfl : _ = [_])) ?_
 refine aD ?_
 refine ⟨by kernel_rfl, ?_⟩
 refine aC (aE ?_)
 refine iC (s := 9) rfl (Ty.aF _) ?_
 refine jk (tg := 10) rfl (Cont.nM (T := 3) (show [Ty.int .i64 (((aR y (nth bf)).length : Int) - (y.moves.length : Int) + q)] = [Ty.int .i64 ((y.bins.length * (y.D + 1) + q.toNat : Nat) : Int)] by congr 2; rw [hfl]; omega)) ?_
 refine k8 (tg := 10) [(9, Ty.pp [Ty.int .i64 ((y.bins.length * (y.D + 1) + q.toNat : Nat) : Int)])] (by decide) rfl ⟨mM (T := 3) (off := 0) (l := [Ty.int .i64 ((y.bins.length * (y.D + 1) + q.toNat : Nat) : Int)]) rfl rfl rfl (by decide), trivial⟩ ?_
 refine aA (jv rfl (dK rfl ?_))
 refine dL [(1000, 1000)] [] [(1000, Cont.vec cT 3 (yl (aR y (nth bf)) (y.cells + 1) (sH (y.bins.length * (y.D + 1) + q.toNat)) (kS y)))] (Dy y (aR y (nth bf)) (kS y) hF hfe (Ty.jw 121 [Ty.pp [Ty.int .i64 ((y.bins.length * (y.D + 1) + q.toNat : Nat) : Int)]]) rfl rfl (sH (y.bins.length * (y.D + 1) + q.toNat)) (fun i _ => by rw [← NJ]; exact dU (LV (i : Nat) _) rfl rfl rfl rfl rfl rfl) rfl) rfl rfl (aN (aN bX (aU rfl rfl)) (fJ (aN (aN (aN (aN (aN (aN bX (dg (by exact List.mem_cons_self))) (aU rfl rfl)) (aU rfl rfl)) (aU rfl rfl)) (aU rfl rfl)) (aU rfl rfl)))) (dA (a := 1000) (b := 1000) (by exact List.mem_cons_self) rfl (bp (by exact List.mem_cons_self) rfl) pre_nil) (bk (a := 1000) (b := 1000) (by decide) rfl (bp (by decide) rfl) post_nil) (aU rfl rfl) ?_
 refine bh rfl rfl (by decide) rfl rfl rfl rfl rfl rfl ?_
 refine bZ rfl (aD (aC (az ?_)))
 refine ji rfl rfl rfl rfl rfl (by decide) rfl rfl rfl ?_ ?_
 all_goals skip
 all_goals first | exact av rfl rfl (congrArg (fun s => Ty.agg (bw.tys s)) (GQ hc1 hc2 ho).2) | exact av rfl rfl (congrArg (Ty.int .i64) (GQ hc1 hc2 ho).1)
theorem Cs (y : au) (hs : y.Small) (q : Int) : dJ Tryz.prog 22 [dr y, Ty.int .i64 q] (Ty.j8 [Ty.sl bw (jE y q), Ty.int .i64 (jq y q)]) := by
 by_cases ho : cq y = 0
 ·exact DP y hs q ho
 exact CB y hs q ho
theorem MD (y : au) (hs : y.Small) (q : Int) : dJ Tryz.prog 48 [dr y, Ty.int .i64 q] (Ty.j8 [Ty.agg (bw.tys (mU y q)), Ty.int .i64 (kr y q)]) := by
 by_cases ho : cq y = 0
 ·exact Es y hs q ho
 exact D3 y hs q ho
end Go.Proofs.YtelbollidfdcjaaGreat
namespace Go.T
open Go Go.RowKit
theorem PY {ρ : List (Nat × Nat)} {l1 l2 : List Ty} (h1 : cF l1 = []) (h2 : bY l1 = []) : Conv ρ (.pp (l1 ++ l2)) (.pp l1) := fun w M M' v wf wf' hre ⟨b, off, e, hm, hlt, hd⟩ =>
 ⟨b, off, e, hre.none b hm, hlt, fun i t hi => by
  have hl := (List.getElem?_eq_some_iff.1 hi).1
  obtain ⟨x, hx, hdx⟩ := hd i t (by rw [List.getElem?_append_left hl]; exact hi)
  refine ⟨x, hx, aU ?_ ?_ w M M' x wf wf' hre hdx⟩
  ·refine List.eq_nil_iff_forall_not_mem.2 fun u hu => ?_
   have : u ∈ cF l1 := List.mem_flatMap.2 ⟨t, List.mem_of_getElem? hi, hu⟩
   rw [h1] at this; cases this
  refine List.eq_nil_iff_forall_not_mem.2 fun u hu => ?_
  have : u ∈ bY l1 := List.mem_flatMap.2 ⟨t, List.mem_of_getElem? hi, hu⟩
  rw [h2] at this; cases this⟩
end Go.T
namespace Go.Proofs.YtelbollidfdcjaaGreat
open Go Go.T
set_option maxHeartbeats 16000000
def oq (y : au) (t : Nat) (i : Nat) : Bool := (List.range y.bins.length).any fun b => decide ((i : Int) = ((y.kept b t : Nat) : Int))
noncomputable def rF (fl : List cB) (n : Nat) (y : au) (a : List Int) : Nat → List Int
  | 0 => a
  | t + 1 => yl fl n (oq y t) (rF fl n y a t)
noncomputable def qw (fl : List cB) (n : Nat) (y : au) (k : Nat) : List Span := (List.range k).map fun t => gp fl n (oq y t)
noncomputable def sj (y : au) : List Span := if cq y = 0 then qw (aR y (nth bf)) (y.cells + 1) y (y.D + 1) else []
noncomputable def kM (y : au) (q s : Int) (p : Span → Bool) : Int :=
  if eC y q = 0 then (if (!(decide (s ≥ 0) && decide (s ≤ 300))) = true then 3 else if jq y q = 0 then (if fidx p (jE y q) < 0 then 6 else 0) else jq y q) else eC y q
noncomputable def nD (y : au) (q s : Int) (p : Span → Bool) : Int := if kM y q s p = 0 then fidx p (jE y q) else 0
section
variable {y : au} {fl : List cB} {a : List Int} {n b k : Nat} {q s : Int} {p : Span → Bool} {i t : Nat}
theorem Cr (hN : Net fl n) (hn : 0 < n) (hB : Bd fl) (h : g5 fl n a) : ∀ t, g5 fl n (rF fl n y a t)
  | 0 => h
  | t + 1 => (sk hN hn hB (Cr hN hn hB h t)).2.1
theorem Iq : a = rF fl n y a 0 := rfl
theorem Iv (t : Nat) : yl fl n (oq y t) (rF fl n y a t) = rF fl n y a (t + 1) := rfl
theorem HX (t : Nat) : qw fl n y t ++ [gp fl n (oq y t)] = qw fl n y (t + 1) := by unfold qw; rw [List.range_succ, List.map_append]; rfl
theorem KU (t : Nat) : (qw fl n y t).length = t := by unfold qw; rw [List.length_map, List.length_range]
theorem Gn : qw fl n y 0 = [] := rfl
theorem Kp (hb : b < y.bins.length) (h : (i : Int) = ((y.kept b t : Nat) : Int)) : true = oq y t i := (List.any_eq_true.2 ⟨b, List.mem_range.2 hb, decide_eq_true h⟩).symm
theorem Nw (h : ∀ b, b < y.bins.length → ¬ (i : Int) = ((y.kept b t : Nat) : Int)) : false = oq y t i := by
 refine (List.any_eq_false.2 fun b hb => ?_).symm
 rw [decide_eq_true_eq]; exact h b (List.mem_range.1 hb)
theorem Nb (h : cq y ≠ 0) : [] = sj y := (if_neg h).symm
theorem Cw (h : cq y = 0) : qw (aR y (nth bf)) (y.cells + 1) y (y.D + 1) = sj y := (if_pos h).symm
theorem F9 {e : Int} (h : e = kM y q s p) (h0 : e ≠ 0) : 0 = nD y q s p := by unfold nD; rw [← h, if_neg h0]
theorem OU (h : ¬ eC y q = 0) : eC y q = kM y q s p ∧ 0 = nD y q s p := by
 have e : eC y q = kM y q s p := (if_neg h).symm
 exact ⟨e, F9 e h⟩
theorem OP (h : eC y q = 0) (h2 : (!(decide (s ≥ 0) && decide (s ≤ 300))) = true) : 3 = kM y q s p ∧ 0 = nD y q s p := by
 have e : 3 = kM y q s p := by unfold kM; rw [if_pos h, if_pos h2]
 exact ⟨e, F9 e (by decide)⟩
theorem N4 (h : eC y q = 0) (h2 : (!(decide (s ≥ 0) && decide (s ≤ 300))) = false) (h3 : ¬ jq y q = 0) : jq y q = kM y q s p ∧ 0 = nD y q s p := by
 have e : jq y q = kM y q s p := by unfold kM; rw [if_pos h, if_neg (by rw [h2]; decide), if_neg h3]
 exact ⟨e, F9 e h3⟩
theorem N0 (h : eC y q = 0) (h2 : (!(decide (s ≥ 0) && decide (s ≤ 300))) = false) (h3 : jq y q = 0) (h4 : fidx p (jE y q) < 0) : 6 = kM y q s p ∧ 0 = nD y q s p := by
 have e : 6 = kM y q s p := by unfold kM; rw [if_pos h, if_neg (by rw [h2]; decide), if_pos h3, if_pos h4]
 exact ⟨e, F9 e (by decide)⟩
theorem Kg (h : eC y q = 0) (h2 : (!(decide (s ≥ 0) && decide (s ≤ 300))) = false) (h3 : jq y q = 0) (h4 : ¬ fidx p (jE y q) < 0) : 0 = kM y q s p ∧ fidx p (jE y q) = nD y q s p := by
 have e : 0 = kM y q s p := by unfold kM; rw [if_pos h, if_neg (by rw [h2]; decide), if_pos h3, if_neg h4]
 exact ⟨e, by unfold nD; rw [← e]; rfl⟩
end
attribute [local irreducible] aR gz Way.iA Way.fin Way.room eR dz ef gW over bO cO dY eT jP fC hH j0 cU gP gA gD cw cN gY oo iS ij jD gp Bc yl iB au.kept au.cells bL eC bf gG kS cq oc ow jq jE kr mU hasB sH rF qw sj oq kM nD
attribute [local irreducible] gL eX lN nh gy g6 gu gw gx nj gr ni dN fX nH fu nZ nth fP dQ bA dJ bodyPost Exit.then Exit.inBlock Code.wp Code.wpIn nW g7 nY nV g8 eP cL cM bodyPostM dR
set_option maxRecDepth 100000 in
theorem J7 (y : au) (hr : y.bt) (i t : Nat) (ht : t ≤ y.D) : dJ Tryz.prog 88 [Ty.int .i64 ((i : Nat) : Int), Ty.pp (bE y), Ty.pp [Ty.pp (bE y)], Ty.pp [Ty.int .i64 ((t : Nat) : Int)]] (Ty.bool (oq y t i)) := by
 refine ak Tryz.func88 rfl (by decide) Tryz.ntmps88 (by exact Nat.le_of_ble_eq_true rfl) fun w0 M0 => ?_
 have h1 := hr.bins
 refine aE (aA (cm rfl (aD (aC (aE (aE (aA ?_)))))))
 refine aL rfl rfl rfl rfl rfl (by decide) ?_
 refine aJ rfl rfl rfl rfl (cD rfl rfl rfl (bF rfl (aD (aC (aY ?_)))))
 refine b9 (fun (b : {b : Nat // b ≤ y.bins.length ∧ ∀ c, c < b → ¬ (i : Int) = ((y.kept c t : Nat) : Int)}) => live [(0, Ty.int .i64 ((i : Nat) : Int)), (1, Ty.pp (bE y)), (2, Ty.pp [Ty.pp (bE y)]), (3, Ty.pp [Ty.int .i64 ((t : Nat) : Int)]), (9, Ty.int .i64 y.bins.length), (10, Ty.int .i64 (b.1 : Nat))] []) (fun b => y.bins.length - b.1) (⟨0, Nat.zero_le _, fun c hc => absurd hc (Nat.not_lt_zero c)⟩) ?_ fun b => ?_
 ·(refine cg.mk' ?_ ?_ <;> (repeat' (first | exact aI | exact aH | refine aB ?_ (Ty.aT _) | refine aB ?_ (Ty.aF _))))
 have hb := b.2.1
 refine aE (aA (bB rfl rfl rfl (aD (aC (aE ?_)))))
 refine ah rfl (fun hc1 => ?_) (fun hc1 => ?_)
 ·
  refine aj (aC (aE (aY (aE (aA (bF rfl (bZ rfl (aD (aC ?_)))))))))
  refine aE (aA (bF rfl (aJ rfl rfl rfl rfl (bF rfl (aJ rfl rfl rfl rfl ?_)))))
  refine af (Ds y hr b.1 t (by omega) ht) rfl rfl rfl rfl rfl ?_
  refine bB rfl rfl rfl (aD (aC ?_))
  refine ah rfl (fun hc2 => ?_) (fun hc2 => ?_)
  ·
   refine aE (aA (cm rfl (aD (aC (az (ay (aQ (aQ (ay ?_)))))))))
   refine aQ (bR rfl rfl ?_)
   all_goals skip
   all_goals exact av rfl rfl (congrArg Ty.bool (Kp (by omega) hc2))
  refine aj (bI (aC (aA ?_)))
  refine bq rfl rfl (by omega) (by omega) ?_
  refine bF rfl (aD ?_)
  refine bM (⟨b.1 + 1, by omega, fun c hc => by by_cases e : c = b.1; (subst e; exact hc2); exact b.2.2 c (by omega)⟩) ?_ (by show y.bins.length - (b.1 + 1) < y.bins.length - b.1; omega)
  (refine cg.mk' ?_ ?_ <;> (repeat' (first | exact aI | exact aH | refine aB ?_ (Ty.aT _) | refine aB ?_ (Ty.aF _))))
  all_goals skip
 refine bz (aP (aP (aa rfl (aC (aE (aA (cm rfl (aD (aC ?_)))))))))
 refine az (bR rfl rfl ?_)
 all_goals skip
 all_goals exact av rfl rfl (congrArg Ty.bool (Nw fun c hc => b.2.2 c (by have := b.2.1; omega)))
set_option maxRecDepth 100000 in
theorem Et (y : au) (hs : y.Small) (ho : cq y ≠ 0) : dJ Tryz.prog 21 [dr y] (Ty.j8 [Ty.sl bw (sj y), Ty.int .i64 (cq y)]) := by
 refine ak Tryz.func21 rfl (by decide) Tryz.ntmps21 (by exact Nat.le_of_ble_eq_true rfl) fun w0 M0 => ?_
 refine aE (aA (bD rfl (lE rfl (bZ rfl (aD (aC (aE (aA ?_))))))))
 refine aX rfl rfl rfl (by exact Nat.le_of_ble_eq_true rfl) ?_
 refine af (pF y hs ho) rfl rfl rfl rfl rfl (sU rfl (bQ rfl rfl (bQ rfl rfl ?_)))
 refine bu rfl (by exact List.cons_ne_nil _ _) rfl ?_
 refine cv rfl rfl (by decide) rfl rfl (by exact (rfl : _ = Ty.ex _)) rfl (by exact Nat.le_of_ble_eq_true rfl) rfl rfl (by exact (rfl : _ = [_])) ?_
 refine bZ rfl (aD (aC (aE (aE (aA (bF rfl (bB rfl rfl rfl (aD (aC ?_)))))))))
 refine qJ rfl (by rw [decide_eq_false ho]; rfl) ?_
 refine aE (aA (bF rfl (lE rfl (bZ rfl (aD (aC (az (aQ ?_))))))))
 refine fG rfl rfl rfl ?_ ?_
 all_goals first | exact cG rfl rfl | skip
 all_goals exact gT (Nb ho).symm
set_option maxRecDepth 100000 in
theorem EN (y : au) (hs : y.Small) (ho : cq y = 0) : dJ Tryz.prog 21 [dr y] (Ty.j8 [Ty.sl bw (sj y), Ty.int .i64 (cq y)]) := by
 refine ak Tryz.func21 rfl (by decide) Tryz.ntmps21 (by exact Nat.le_of_ble_eq_true rfl) fun w0 M0 => ?_
 have hck := eS ho
 have hr := dD hck
 have hF : mA y (aR y (nth bf)) (kS y) := uX ho
 have hfe := qI ho
 have h1 := hr.bins
 have h2 := hr.days
 have h3 := D_eq hr
 have hft := Cr (y := y) hF.net (Nat.succ_pos _) hF.bd hfe
 refine aE (aA (bD rfl (lE rfl (bZ rfl (aD (aC (aE (aA ?_))))))))
 refine aX rfl rfl rfl (by exact Nat.le_of_ble_eq_true rfl) ?_
 refine dL (res' := Ty.j8 [Ty.pp (eI y (aR y (nth bf)) 1000 (aR y (nth bf)).length), Ty.int .i64 0]) [(1000, 1000)] [1000] [(1000, Cont.vec cT 3 (kS y))] (wh y hs ho) rfl rfl (aN bX (aU rfl rfl)) pre_nil (bk (a := 1000) (b := 1000) (by decide) rfl (bp (by decide) rfl) post_nil) (EZ (aN (aN bX (aU rfl rfl)) (fJ (aN (aN (aN (aN (aN (aN bX (dg (by decide))) (aU rfl rfl)) (aU rfl rfl)) (aU rfl rfl)) (aU rfl rfl)) (aU rfl rfl))))) ?_
 refine sU rfl (bQ rfl rfl (bQ rfl rfl ?_))
 refine bu rfl (by exact List.cons_ne_nil _ _) rfl ?_
 refine cv rfl rfl (by decide) rfl rfl (by exact (rfl : _ = Ty.pp _)) rfl (by exact Nat.le_of_ble_eq_true rfl) rfl rfl (by exact (rfl : _ = [_])) ?_
 refine bZ rfl (aD (aC (aE (aE (aA (bF rfl (bB rfl rfl rfl (aD (aC ?_)))))))))
 refine mo rfl (rfl) (aj (aC (aE ?_)))
 refine k8 (tg := 5) [(4, Ty.pp [Ty.pp (eI y (aR y (nth bf)) 1000 (aR y (nth bf)).length)])] (by decide) rfl ⟨mM (T := 152) (off := 0) (l := [Ty.pp (eI y (aR y (nth bf)) 1000 (aR y (nth bf)).length)]) rfl rfl rfl (by decide), trivial⟩ ?_
 refine aA (lE rfl (aD (aC (aE (aE (aA ?_))))))
 refine aL rfl rfl rfl rfl rfl (by decide) ?_
 refine aJ rfl rfl rfl rfl ?_
 refine bq rfl rfl (by omega) (by omega) ?_
 refine bF rfl (aD (aC (aY ?_)))
 refine b9 (fun (t : {t : Nat // t ≤ y.D + 1}) => live [(1, Ty.pp (bE y)), (4, Ty.pp [Ty.pp (eI y (aR y (nth bf)) 1000 (aR y (nth bf)).length)]), (6, Ty.row bw 37 27 (qw (aR y (nth bf)) (y.cells + 1) y t.1)), (18, Ty.int .i64 (y.days + 1)), (19, Ty.int .i64 (t.1 : Nat))] [(1000, Cont.vec cT 3 (rF (aR y (nth bf)) (y.cells + 1) y (kS y) t.1))]) (fun t => y.D + 1 - t.1) (⟨0, by omega⟩) ?_ fun t => ?_
 ·(refine cg.mk' ?_ ?_ <;> (repeat' (first | exact aI | exact aH | refine aB ?_ (Ty.aT _) | refine aB ?_ (Ty.aF _) | refine aG rfl ?_ ?_ | refine aB ?_ ?_)))
  all_goals first | exact C9 Gn | exact Cont.cy Iq
 have hbl := KU (fl := (aR y (nth bf))) (n := (y.cells + 1)) (y := y) t.1
 have ht := t.2
 have hFt : mA y (aR y (nth bf)) (rF (aR y (nth bf)) (y.cells + 1) y (kS y) t.1) := ⟨hr, hF.net, hF.bd, (hft t.1).1, hF.rB⟩
 refine aE (aA (bB rfl rfl rfl (aD (aC (aE ?_)))))
 refine ah rfl (fun hc2 => ?_) (fun hc2 => ?_)
 ·
  refine aj (aC (aE (aY (aE (aA (bF rfl ?_))))))
  refine bu rfl (by exact List.cons_ne_nil _ _) rfl ?_
  refine cv rfl rfl (by decide) rfl rfl (by exact (rfl : _ = Ty.int _ _)) rfl (by exact Nat.le_of_ble_eq_true rfl) rfl rfl (by exact (rfl : _ = [_])) ?_
  refine aD (aC ?_)
  refine k8 (tg := 8) [(7, Ty.pp [Ty.int .i64 ((t.1 : Nat) : Int)])] (by decide) rfl ⟨mM (T := 3) (off := 0) (l := [Ty.int .i64 ((t.1 : Nat) : Int)]) rfl rfl rfl (by decide), trivial⟩ ?_
  refine aA (Eb rfl (aJ rfl rfl rfl rfl (dK rfl ?_)))
  refine dL [(1000, 1000)] [] [(1000, Cont.vec cT 3 (yl (aR y (nth bf)) (y.cells + 1) (oq y t.1) (rF (aR y (nth bf)) (y.cells + 1) y (kS y) t.1)))] (Dy y (aR y (nth bf)) (rF (aR y (nth bf)) (y.cells + 1) y (kS y) t.1) hFt (hft t.1) (Ty.jw 88 [Ty.pp (bE y), Ty.pp [Ty.pp (bE y)], Ty.pp [Ty.int .i64 ((t.1 : Nat) : Int)]]) rfl rfl (oq y t.1) (fun i _ => dU (J7 y hr i t.1 (by omega)) rfl rfl rfl rfl rfl rfl) rfl) rfl rfl (aN (aN bX (tj (aN (aN (aN bX (aU rfl rfl)) (fJ (aN bX (PY (l1 := bE y) (l2 := [Ty.sl dn (aR y (nth bf)), Ty.vs 1000 (aR y (nth bf)).length]) rfl rfl)))) (aU rfl rfl)))) (fJ (aN (aN (aN (aN (aN (aN bX (dg (by exact List.mem_cons_self))) (aU rfl rfl)) (aU rfl rfl)) (aU rfl rfl)) (aU rfl rfl)) (aU rfl rfl)))) (dA (a := 1000) (b := 1000) (by exact List.mem_cons_self) rfl (bp (by exact List.mem_cons_self) rfl) pre_nil) (bk (a := 1000) (b := 1000) (by decide) rfl (bp (by decide) rfl) post_nil) (aU rfl rfl) ?_
  refine bW (E := bw) (xs := [gp (aR y (nth bf)) (y.cells + 1) (oq y t.1)]) rfl rfl rfl rfl rfl (by decide) (by decide) (by repeat (first | exact (aV.nil : aV _ _ [] _) | (show aV _ _ ((_, _) :: _) _; apply aV.agg; (· exact (rfl : _ = Ty.agg _))))) (by exact rfl) rfl ?_
  refine dj rfl rfl (by decide) rfl rfl rfl rfl rfl rfl (by decide) (by (simp <;> omega)) (by (simp <;> omega)) ?_
  refine yW rfl (aD (bI (aC (aA ?_))))
  refine bq rfl rfl (by omega) (by omega) ?_
  refine bF rfl (aD ?_)
  refine bM (⟨t.1 + 1, by omega⟩) ?_ (by show y.D + 1 - (t.1 + 1) < y.D + 1 - t.1; omega)
  (refine cg.mk' ?_ ?_ <;> (repeat' (first | exact aI | exact aH | refine aB ?_ (Ty.aT _) | refine aB ?_ (Ty.aF _) | refine aG rfl ?_ ?_ | refine aB ?_ ?_)))
  all_goals skip
  all_goals first | exact Ty.eU (HX _) | exact Cont.cy (Iv _)
 refine bz (aP (aP (aa rfl (aC (aE (aA (Eb rfl (yW rfl (bZ rfl ?_)))))))))
 refine aD (aC (az ?_))
 refine fG rfl rfl rfl ?_ ?_
 all_goals skip
 all_goals first | exact wR (by decide) ((show _ = qw (aR y (nth bf)) (y.cells + 1) y (y.D + 1) by rw [show t.1 = y.D + 1 by have := t.2; omega]).trans (Cw ho)) | exact av rfl rfl (congrArg (Ty.int .i64) ho.symm)
set_option maxRecDepth 100000 in
theorem ND (y : au) (hs : y.Small) (q s : Int) (t : Ty) (h1 : t.one = true) (p : Span → Bool) (hd : t.deps = []) (hc : t.cdeps = []) (hf : ∀ x ∈ jE y q, oS Tryz.prog t [Ty.agg (bw.tys x)] (Ty.bool (p x))) : dJ Tryz.prog 100 [dr y, Ty.int .i64 q, Ty.int .i64 s, t] (Ty.j8 [Ty.int .i64 (nD y q s p), Ty.int .i64 (kM y q s p)]) := by
 refine ak Tryz.func100 rfl (by decide) Tryz.ntmps100 (by exact Nat.le_of_ble_eq_true rfl) fun w0 M0 => ?_
 refine aE (aA (bD rfl (bZ rfl (bZ rfl (aD (aC (aE (aE (aA ?_)))))))))
 refine aX rfl rfl rfl (by exact Nat.le_of_ble_eq_true rfl) ?_
 refine bF rfl (af (BD y hs q) rfl rfl rfl rfl rfl (bZ rfl (aD (aC (aE (aA (bF rfl (bB rfl rfl rfl (aD ?_)))))))))
 refine aC ?_
 refine cx rfl (fun hc1 => ?_) (fun hc1 => ?_)
 ·
  refine aE (aA (bF rfl (bZ rfl (bZ rfl (aD (aC (az (aQ ?_))))))))
  refine fG rfl rfl rfl ?_ ?_
  all_goals skip
  all_goals first | exact av rfl rfl (congrArg (Ty.int .i64) (OU hc1).1) | exact av rfl rfl (congrArg (Ty.int .i64) (OU hc1).2)
 refine aj (aC (aE (aE (aA (bF rfl (af (uN _ _ _) rfl rfl rfl rfl rfl (dm rfl (aD (aC ?_)))))))))
 refine cH rfl (fun hc2 => ?_) (fun hc2 => ?_)
 ·
  refine aE (aA (bZ rfl (bZ rfl (aD (aC (az (aQ ?_)))))))
  refine fG rfl rfl rfl ?_ ?_
  all_goals skip
  all_goals first | exact av rfl rfl (congrArg (Ty.int .i64) (OP hc1 hc2).1) | exact av rfl rfl (congrArg (Ty.int .i64) (OP hc1 hc2).2)
 refine aj (aC (aE (aA ?_)))
 refine aX rfl rfl rfl (by exact Nat.le_of_ble_eq_true rfl) ?_
 refine bF rfl (af (Cs y hs q) rfl rfl rfl rfl rfl (sU rfl (bQ rfl rfl (bQ rfl rfl (va rfl (bZ rfl (aD (aC (aE ?_)))))))))
 refine aE (aA (bF rfl (bB rfl rfl rfl (aD (aC ?_)))))
 refine cx rfl (fun hc3 => ?_) (fun hc3 => ?_)
 ·
  refine aE (aA (bF rfl (bZ rfl (bZ rfl (aD (aC (az (aQ ?_))))))))
  refine fG rfl rfl rfl ?_ ?_
  all_goals skip
  all_goals first | exact av rfl rfl (congrArg (Ty.int .i64) (N4 hc1 hc2 hc3).1) | exact av rfl rfl (congrArg (Ty.int .i64) (N4 hc1 hc2 hc3).2)
 refine aj (aC (aE (aA (eA rfl ?_))))
 refine eB (ty := t) rfl ?_
 refine af (vS (jE y q) t h1 p hd hc hf) rfl (by exact bP rfl (bP hd rfl)) (by exact bG rfl (bG hc rfl)) rfl rfl ?_
 refine bZ rfl (aD (aC (aE (aE (aA (bF rfl (bB rfl rfl rfl (aD (aC ?_)))))))))
 refine ah rfl (fun hc4 => ?_) (fun hc4 => ?_)
 ·
  refine aE (aA (bZ rfl (bZ rfl (aD (aC (az (aQ ?_)))))))
  refine fG rfl rfl rfl ?_ ?_
  all_goals skip
  all_goals first | exact av rfl rfl (congrArg (Ty.int .i64) (N0 hc1 hc2 hc3 hc4).1) | exact av rfl rfl (congrArg (Ty.int .i64) (N0 hc1 hc2 hc3 hc4).2)
 refine aj (aC (aE (aA (bF rfl (bZ rfl (bZ rfl (aD (aC (az ?_)))))))))
 refine fG rfl rfl rfl ?_ ?_
 all_goals skip
 all_goals first | exact av rfl rfl (congrArg (Ty.int .i64) (Kg hc1 hc2 hc3 hc4).1) | exact av rfl rfl (congrArg (Ty.int .i64) (Kg hc1 hc2 hc3 hc4).2)
set_option maxRecDepth 100000 in
theorem Gv (s : Span) (k : Int) : dJ Tryz.prog 101 [Ty.agg (bw.tys s), Ty.pp [Ty.int .i64 k]] (Ty.bool (decide (s.lo ≥ k))) := by
 refine ak Tryz.func101 rfl (by decide) Tryz.ntmps101 (by exact Nat.le_of_ble_eq_true rfl) fun w0 M0 => ?_
 refine aE (aA (bD rfl (cm rfl (aD (aC (aE (aA ?_)))))))
 refine aL rfl rfl rfl rfl rfl (by decide) ?_
 refine aJ rfl rfl rfl rfl (aJ rfl rfl rfl rfl (bB rfl rfl rfl (cm rfl (aD (aC (az (bR rfl rfl ?_)))))))
 all_goals exact cG rfl rfl
set_option maxRecDepth 100000 in
theorem Ko (y : au) (hs : y.Small) (q s : Int) : dJ Tryz.prog 33 [dr y, Ty.int .i64 q, Ty.int .i64 s] (Ty.j8 [Ty.int .i64 (nD y q s fun x => decide (x.lo ≥ s)), Ty.int .i64 (kM y q s fun x => decide (x.lo ≥ s))]) := by
 refine ak Tryz.func33 rfl (by decide) Tryz.ntmps33 (by exact Nat.le_of_ble_eq_true rfl) fun w0 M0 => ?_
 refine aE (aA (bD rfl ?_))
 refine gM (by exact (rfl : _ = Ty.int _ _)) rfl ?_
 refine bZ rfl (bZ rfl (aD (aC (aE (aA ?_)))))
 refine aX rfl rfl rfl (by exact Nat.le_of_ble_eq_true rfl) ?_
 refine bF rfl (aJ rfl rfl rfl rfl (dK rfl ?_))
 refine af (ND y hs q s (Ty.jw 101 [Ty.pp [Ty.int .i64 s]]) rfl (fun x => decide (x.lo ≥ s)) rfl rfl fun x _ => dU (Gv x s) rfl rfl rfl rfl rfl rfl) rfl rfl rfl rfl rfl ?_
 refine bQ rfl rfl (bQ rfl rfl (bZ rfl (bZ rfl (aD (aC (az ?_))))))
 refine fG rfl rfl rfl ?_ ?_
 all_goals exact cG rfl rfl
theorem MM (y : au) (hs : y.Small) : dJ Tryz.prog 21 [dr y] (Ty.j8 [Ty.sl bw (sj y), Ty.int .i64 (cq y)]) := by
 by_cases ho : cq y = 0
 ·exact EN y hs ho
 exact Et y hs ho
end Go.Proofs.YtelbollidfdcjaaGreat
namespace Go.Proofs.YtelbollidfdcjaaGreat
open Go Go.T
set_option maxHeartbeats 16000000
structure Dd where
  cells : List Be
  out : Bool
  deriving Inhabited
def mT (p : Dd) : List Ty := [Ty.sl ru p.cells, Ty.bool p.out]
def kG (fl : List cB) : Int := fl.foldl (fun m f => max m (f.lo - f.hi)) (-300)
def wA (y : au) (l : List Be) (c : Int) : Bool := l.any fun x => decide (y.cell x.bin x.day = c)
def IN (y : au) (p : Dd) (f : cB) : Bool := if p.out = true then (wA y p.cells f.src && !wA y p.cells f.dst) else (wA y p.cells f.dst && !wA y p.cells f.src)
def FH (y : au) (p : Dd) (f : cB) : Bool := if p.out = true then (wA y p.cells f.dst && !wA y p.cells f.src) else (wA y p.cells f.src && !wA y p.cells f.dst)
def rA (y : au) (p : Dd) (m : Int) (f : cB) : Int := (m + if IN y p f = true then f.lo else 0) - if FH y p f = true then f.hi else 0
def gQ (y : au) (fl : List cB) (p : Dd) : Nat → Int
  | 0 => 0
  | k + 1 => rA y p (gQ y fl p k) (nth fl k)
def jH (y : au) (fl : List cB) (p : Dd) : Int := if p.cells = [] then kG fl else gQ y fl p fl.length
def mP (a b : Be) : Bool := !decide (a = b) && (decide (a.bin < b.bin) || (decide (a.bin = b.bin) && decide (a.day < b.day)))
def J0 (y : au) (c : Be) : Bool := y.bin c.bin && (decide (c.day ≥ 0) && decide (c.day ≤ y.days - 1))
open Classical in
noncomputable def mh (y : au) (p : Dd) : Int := if bL y = 0 then (if (p.cells.all (J0 y)) = true then (if (∀ i, i + 1 < p.cells.length → mP (nth p.cells i) (nth p.cells (i + 1)) = true) then (if jH y (aR y (nth bf)) p < 1 then 6 else 0) else 4) else 1) else bL y
noncomputable def uC (y : au) (p : Dd) : Int := if mh y p = 0 then jH y (aR y (nth bf)) p else 0
section
variable {y : au} {fl : List cB} {a : List Int} {n b k : Nat} {p : Dd} {f : cB} {m : Int}
theorem EU : -300 = kG (fl.take 0) := rfl
theorem Dk (h : k < fl.length) : max (kG (fl.take k)) ((nth fl k).lo - (nth fl k).hi) = kG (fl.take (k + 1)) := by
 unfold kG; rw [cQ h, List.foldl_append]; rfl
theorem J8 (h : p.out = true) : (wA y p.cells f.src && !wA y p.cells f.dst) = IN y p f ∧ (wA y p.cells f.dst && !wA y p.cells f.src) = FH y p f := ⟨(if_pos h).symm, (if_pos h).symm⟩
theorem OR (h : p.out = false) : (wA y p.cells f.dst && !wA y p.cells f.src) = IN y p f ∧ (wA y p.cells f.src && !wA y p.cells f.dst) = FH y p f := ⟨(if_neg (by rw [h]; decide)).symm, (if_neg (by rw [h]; decide)).symm⟩
def oY (y : au) (p : Dd) (m : Int) (f : cB) : Int := m + if IN y p f = true then f.lo else 0
theorem Lp (h : IN y p f = true) : m + f.lo = oY y p m f := by unfold oY; rw [if_pos h]
theorem NK (h : IN y p f = false) : m = oY y p m f := by unfold oY; rw [if_neg (by rw [h]; decide)]; omega
theorem E6 (h : 0 ≤ f.lo ∧ f.lo ≤ 300) : m ≤ oY y p m f ∧ oY y p m f ≤ m + 300 := by unfold oY; split <;> omega
theorem yz : 0 = gQ y fl p 0 := rfl
theorem Bp (h : FH y p (nth fl k) = true) : oY y p (gQ y fl p k) (nth fl k) - (nth fl k).hi = gQ y fl p (k + 1) := by
 show _ = rA y p _ _; unfold rA; rw [if_pos h]; rfl
theorem F7 (h : FH y p (nth fl k) = false) : oY y p (gQ y fl p k) (nth fl k) = gQ y fl p (k + 1) := by
 have e : ¬ FH y p (nth fl k) = true := by rw [h]; decide
 show _ = rA y p _ _; unfold rA; rw [if_neg e]; unfold oY; omega
theorem DS (hb : ∀ i, i < fl.length → 0 ≤ (nth fl i).lo ∧ (nth fl i).lo ≤ 300 ∧ 0 ≤ (nth fl i).hi ∧ (nth fl i).hi ≤ 300) : ∀ k, k ≤ fl.length → -(300 * (k : Int)) ≤ gQ y fl p k ∧ gQ y fl p k ≤ 300 * (k : Int)
  | 0, _ => by rw [← yz]; omega
  | k + 1, h => by
    have ih := DS hb k (by omega)
    have h1 := hb k (by omega)
    have h2 := E6 (y := y) (p := p) (m := gQ y fl p k) (f := nth fl k) ⟨h1.1, h1.2.1⟩
    cases e : FH y p (nth fl k) with
    | true => rw [← Bp e]; omega
    | false => rw [← F7 e]; omega
theorem D7 (h : p.cells = []) : kG fl = jH y fl p := (if_pos h).symm
theorem DY (h : p.cells ≠ []) : gQ y fl p fl.length = jH y fl p := (if_neg h).symm
theorem PD (h : (p.cells.length : Int) = 0) : p.cells = [] := List.length_eq_zero_iff.1 (by omega)
theorem Nf (h : ¬ (p.cells.length : Int) = 0) : p.cells ≠ [] := fun e => h (by rw [e]; rfl)
theorem GA {e : Int} (h : e = mh y p) (h0 : e ≠ 0) : 0 = uC y p := by unfold uC; rw [← h, if_neg h0]
theorem OL (h : ¬ bL y = 0) : bL y = mh y p ∧ 0 = uC y p := by
 have e : bL y = mh y p := (if_neg h).symm
 exact ⟨e, GA e h⟩
theorem OY (h : bL y = 0) (h2 : (p.cells.all (J0 y)) = false) : 1 = mh y p ∧ 0 = uC y p := by
 have e : 1 = mh y p := by unfold mh; rw [if_pos h, if_neg (by rw [h2]; decide)]
 exact ⟨e, GA e (by decide)⟩
theorem Qn (h : bL y = 0) (h2 : (p.cells.all (J0 y)) = true) {i : Nat} (hi : i + 1 < p.cells.length) (h3 : mP (nth p.cells i) (nth p.cells (i + 1)) = false) : 4 = mh y p ∧ 0 = uC y p := by
 have e : 4 = mh y p := by
  unfold mh; rw [if_pos h, if_pos h2, if_neg fun hx => by rw [hx i hi] at h3; cases h3]
 exact ⟨e, GA e (by decide)⟩
theorem Jy (h : bL y = 0) (h2 : (p.cells.all (J0 y)) = true) {i : Nat} (h1 : 1 ≤ i) (hi : i < p.cells.length) (h3 : mP (nth p.cells (i - 1)) (nth p.cells i) = false) : 4 = mh y p ∧ 0 = uC y p := by
 obtain ⟨j, rfl⟩ : ∃ j, i = j + 1 := ⟨i - 1, by omega⟩
 exact Qn h h2 hi h3
theorem OQ (h : bL y = 0) (h2 : (p.cells.all (J0 y)) = true) (h3 : ∀ i, i + 1 < p.cells.length → mP (nth p.cells i) (nth p.cells (i + 1)) = true) (h4 : jH y (aR y (nth bf)) p < 1) : 6 = mh y p ∧ 0 = uC y p := by
 have e : 6 = mh y p := by unfold mh; rw [if_pos h, if_pos h2, if_pos h3, if_pos h4]
 exact ⟨e, GA e (by decide)⟩
theorem It (h : bL y = 0) (h2 : (p.cells.all (J0 y)) = true) (h3 : ∀ i, i + 1 < p.cells.length → mP (nth p.cells i) (nth p.cells (i + 1)) = true) (h4 : ¬ jH y (aR y (nth bf)) p < 1) : 0 = mh y p ∧ jH y (aR y (nth bf)) p = uC y p := by
 have e : 0 = mh y p := by unfold mh; rw [if_pos h, if_pos h2, if_pos h3, if_neg h4]
 exact ⟨e, by unfold uC; rw [← e]; rfl⟩
theorem O6 (a b : Be) : (decide (a.bin = b.bin) && decide (a.day = b.day)) = decide (a = b) := by
 cases a; cases b; simp
theorem PZ {c : Be} (h : J0 y c = true) : (-1 ≤ c.bin ∧ c.bin < y.bins.length) ∧ 0 ≤ c.day ∧ c.day ≤ y.days := by
 unfold J0 au.bin AI at h
 simp only [Bool.and_eq_true, decide_eq_true_eq] at h; omega
theorem E7 (hr : y.bt) {c : Nat → Bool} {t : Nat} {q : Span} (h : q.lo ≤ 300 ∧ 0 ≤ q.hi) : ∀ k, k ≤ y.levels.length → (gX y c b t q k).lo ≤ 300 ∧ 0 ≤ (gX y c b t q k).hi
  | 0, _ => h
  | k + 1, hk => by
    have ih := E7 hr (c := c) (t := t) h k (by omega)
    have hl := hr.level _ (cX (xs := y.levels) (k := k) (by omega))
    unfold gX; split
    · show max _ _ ≤ 300 ∧ 0 ≤ min _ _; omega
    · exact ih
theorem KS (hr : y.bt) {c : Nat → Bool} {i : Nat} (hi : i < (aR y c).length) : 0 ≤ (nth (aR y c) i).lo ∧ (nth (aR y c) i).lo ≤ 300 ∧ 0 ≤ (nth (aR y c) i).hi ∧ (nth (aR y c) i).hi ≤ 300 := by
 have hB := vm hr (c := c) i hi
 suffices h : (nth (aR y c) i).lo ≤ 300 ∧ 0 ≤ (nth (aR y c) i).hi by omega
 rcases oK hi with ⟨b, t, hb, ht, rfl⟩ | ⟨k, hk, rfl⟩
 ·rw [ig hb ht]
  obtain ⟨h1, h2, h3⟩ := hr.bin _ (cX hb)
  refine E7 hr (q := iM y b t) ?_ y.levels.length (Nat.le_refl _)
  unfold iM; split
  ·exact ⟨by show (0 : Int) ≤ 300; decide, h1.1⟩
  show max _ _ ≤ 300 ∧ 0 ≤ min _ _; omega
 rw [iW hk]
 have h := (hr.move _ (cX hk)).2.2.2.2
 show (nth y.moves k).sacks.lo ≤ 300 ∧ 0 ≤ (nth y.moves k).sacks.hi
 omega
theorem Jn (hr : y.bt) {c : Nat → Bool} : ∀ i, i < (aR y c).length → 0 ≤ (nth (aR y c) i).lo ∧ (nth (aR y c) i).lo ≤ 300 ∧ 0 ≤ (nth (aR y c) i).hi ∧ (nth (aR y c) i).hi ≤ 300 := fun i hi => KS hr hi
end
attribute [local irreducible] aR gz Way.iA Way.fin Way.room eR dz ef gW over bO cO dY eT jP fC hH j0 cU gP gA gD cw cN gY oo iS ij jD gp Bc yl iB au.kept au.cells bL eC bf gG kS cq oc ow jq jE kr mU hasB sH rF qw sj oq kM nD kG wA gQ jH IN FH rA
attribute [local irreducible] oY
attribute [local irreducible] gL eX lN nh gy g6 gu gw gx nj gr ni dN fX nH fu nZ nth fP dQ bA dJ bodyPost Exit.then Exit.inBlock Code.wp Code.wpIn nW g7 nY nV g8 eP cL cM bodyPostM dR
set_option maxRecDepth 100000 in
theorem HS (y : au) (fl : List cB) (a : List Int) (hfl : fl.length ≤ 34) (hb : ∀ i, i < fl.length → 0 ≤ (nth fl i).lo ∧ (nth fl i).lo ≤ 300 ∧ 0 ≤ (nth fl i).hi ∧ (nth fl i).hi ≤ 300) : dJ Tryz.prog 128 [Ty.pp (mR y fl a)] (Ty.int .i64 (kG fl)) := by
 refine ak Tryz.func128 rfl (by decide) Tryz.ntmps128 (by exact Nat.le_of_ble_eq_true rfl) fun w0 M0 => ?_
 refine aE (aA (bZ rfl (aD (aC (aE (aA (bZ rfl (aD (aC ?_)))))))))
 refine aE (aE (aA (jv rfl (cA rfl ?_))))
 refine aL rfl rfl rfl rfl rfl (by decide) ?_
 refine aJ rfl rfl rfl rfl (cD rfl rfl rfl (bF rfl (aD (aC (aY ?_)))))
 refine b9 (fun (k : {k : Nat // k ≤ fl.length}) => live [(0, Ty.pp (mR y fl a)), (3, Ty.int .i64 (kG (fl.take k.1))), (9, Ty.sl dn fl), (10, Ty.int .i64 fl.length), (11, Ty.int .i64 (k.1 : Nat))] []) (fun k => fl.length - k.1) (⟨0, by omega⟩) ?_ fun k => ?_
 ·(refine cg.mk' ?_ ?_ <;> (repeat' (first | exact aI | exact aH | refine aB ?_ (Ty.aT _) | refine aB ?_ (Ty.aF _) | refine aB ?_ ?_)))
  all_goals exact Ty.bN EU
 have hk := k.2
 refine aE (aA (bB rfl rfl rfl (aD (aC (aE ?_)))))
 refine ah rfl (fun hc1 => ?_) (fun hc1 => ?_)
 ·
  refine aj (aC (aE (aY (aE (aA ?_)))))
  refine aq rfl rfl rfl rfl rfl rfl (by omega) ?_
  refine aX rfl rfl rfl (by exact Nat.le_of_ble_eq_true rfl) ?_
  refine bu rfl (by exact List.cons_ne_nil _ _) rfl ?_
  refine bh rfl rfl (by decide) rfl rfl rfl rfl rfl rfl ?_
  refine aD (aC ?_)
  have hbk := hb k.1 (by omega)
  refine aA (bF rfl ?_)
  refine aS rfl rfl rfl rfl rfl (by decide) ?_
  refine aZ rfl rfl (by decide) rfl rfl rfl ?_
  refine aS rfl rfl rfl rfl rfl (by decide) ?_
  refine aZ rfl rfl (by decide) rfl rfl rfl ?_
  refine gH rfl rfl (by omega) (by omega) ?_
  refine CW rfl rfl (bZ rfl (aD (bI (aC (aA ?_)))))
  refine bq rfl rfl (by omega) (by omega) ?_
  refine bF rfl (aD ?_)
  refine bM (⟨k.1 + 1, by omega⟩) ?_ (by show fl.length - (k.1 + 1) < fl.length - k.1; omega)
  (refine cg.mk' ?_ ?_ <;> (repeat' (first | exact aI | exact aH | refine aB ?_ (Ty.aT _) | refine aB ?_ (Ty.aF _) | refine aB ?_ ?_)))
  all_goals skip
  all_goals exact Ty.bN (Dk (by omega))
 refine bz (aP (aP (aa rfl (aC (aE (aA (bF rfl (bZ rfl (aD ?_)))))))))
 refine aC (az (bR rfl rfl ?_))
 all_goals skip
 all_goals exact av rfl rfl (congrArg (Ty.int .i64) (by rw [List.take_of_length_le (by have := k.2; omega)]))
set_option maxRecDepth 100000 in
theorem G7 (y : au) (hr : y.bt) (fl : List cB) (a : List Int) (x : Be) (hx : (-1 ≤ x.bin ∧ x.bin < y.bins.length) ∧ 0 ≤ x.day ∧ x.day ≤ y.days) (c : Int) : dJ Tryz.prog 188 [Ty.agg (ru.tys x), Ty.pp [Ty.pp (mR y fl a)], Ty.pp [Ty.int .i64 c]] (Ty.bool (decide (y.cell x.bin x.day = c))) := by
 refine ak Tryz.func188 rfl (by decide) Tryz.ntmps188 (by exact Nat.le_of_ble_eq_true rfl) fun w0 M0 => ?_
 refine aE (aA (bD rfl (cm rfl (aD (aC (aE (cP mixed rfl (aJ rfl rfl rfl rfl ?_))))))))
 refine aL rfl rfl rfl rfl rfl (by decide) ?_
 refine aJ rfl rfl rfl rfl ?_
 refine aL rfl rfl rfl rfl rfl (by decide) ?_
 refine aJ rfl rfl rfl rfl ?_
 refine eM [] (xe y hr x.bin x.day hx.1 hx.2) rfl (aW (nR (l1 := bE y) (l2 := [Ty.sl dn fl, Ty.sl cT a]) rfl rfl) (aW (bU (bV rfl rfl)) (aW (bU (bV rfl rfl)) cR))) (by exact dc _ _) ?_
 refine aJ rfl rfl rfl rfl (bB rfl rfl rfl (cm rfl (aD ?_)))
 refine ⟨by kernel_rfl, ?_⟩
 refine aC (az (bR rfl rfl ?_))
 all_goals exact cG rfl rfl
set_option maxRecDepth 100000 in
theorem sE (y : au) (hr : y.bt) (fl : List cB) (a : List Int) (p : Dd) (hp : ∀ x ∈ p.cells, (-1 ≤ x.bin ∧ x.bin < y.bins.length) ∧ 0 ≤ x.day ∧ x.day ≤ y.days) (c : Int) : dJ Tryz.prog 187 [Ty.int .i64 c, Ty.pp (mT p), Ty.pp [Ty.pp (mR y fl a)]] (Ty.bool (wA y p.cells c)) := by
 refine ak Tryz.func187 rfl (by decide) Tryz.ntmps187 (by exact Nat.le_of_ble_eq_true rfl) fun w0 M0 => ?_
 refine aE (aA ?_)
 refine gM (by exact (rfl : _ = Ty.int _ _)) rfl ?_
 refine cm rfl (aD (aC (aE (aA ?_))))
 refine aL rfl rfl rfl rfl rfl (by decide) ?_
 refine aJ rfl rfl rfl rfl (dK rfl ?_)
 refine af (mB p.cells (Ty.jw 188 [Ty.pp [Ty.pp (mR y fl a)], Ty.pp [Ty.int .i64 c]]) rfl (fun x => decide (y.cell x.bin x.day = c)) rfl rfl fun x hx => dU (G7 y hr fl a x (hp x hx) c) rfl rfl rfl rfl rfl rfl) rfl rfl rfl rfl rfl ?_
 refine cm rfl (aD (aC (az (bR rfl rfl ?_))))
 all_goals skip
 all_goals exact av rfl rfl (congrArg Ty.bool (by unfold wA; rfl))
set_option maxRecDepth 100000 in
theorem M8 (y : au) (hr : y.bt) (fl : List cB) (a : List Int) (hfl : fl.length ≤ 34) (hb : ∀ i, i < fl.length → 0 ≤ (nth fl i).lo ∧ (nth fl i).lo ≤ 300 ∧ 0 ≤ (nth fl i).hi ∧ (nth fl i).hi ≤ 300) (p : Dd) (hp : ∀ x ∈ p.cells, (-1 ≤ x.bin ∧ x.bin < y.bins.length) ∧ 0 ≤ x.day ∧ x.day ≤ y.days) : dJ Tryz.prog 137 [Ty.pp (mR y fl a), Ty.agg (mT p)] (Ty.int .i64 (jH y fl p)) := by
 refine ak Tryz.func137 rfl (by decide) Tryz.ntmps137 (by exact Nat.le_of_ble_eq_true rfl) fun w0 M0 => ?_
 refine aE (aA ?_)
 refine gM (by exact (rfl : _ = Ty.pp _)) rfl ?_
 refine bD rfl (bZ rfl (aD (aC (aE (aE (aA ?_))))))
 refine aL rfl rfl rfl rfl rfl (by decide) ?_
 refine aJ rfl rfl rfl rfl (cD rfl rfl rfl (bB rfl rfl rfl (aD (aC ?_))))
 refine ah rfl (fun hc1 => ?_) (fun hc1 => ?_)
 ·
  refine aE (aA (aJ rfl rfl rfl rfl (af (HS y fl a hfl hb) rfl rfl rfl rfl rfl (bZ rfl (aD (aC (az (aQ (bR rfl rfl ?_)))))))))
  all_goals skip
  all_goals exact av rfl rfl (congrArg (Ty.int .i64) (D7 (PD hc1)))
 refine aj (aC (aE (aA (dK rfl (R4 rfl (aD (aC (aE (aA ?_)))))))))
 refine bZ rfl (aD (aC (aE (aE (aA (aJ rfl rfl rfl rfl (cA rfl ?_)))))))
 refine aL rfl rfl rfl rfl rfl (by decide) ?_
 refine aJ rfl rfl rfl rfl (cD rfl rfl rfl (bF rfl (aD (aC (aY ?_)))))
 refine b9 (fun (k : {k : Nat // k ≤ fl.length}) => live [(3, Ty.pp (mT p)), (5, Ty.jw 187 [Ty.pp (mT p), Ty.pp [Ty.pp (mR y fl a)]]), (6, Ty.int .i64 (gQ y fl p k.1)), (21, Ty.sl dn fl), (22, Ty.int .i64 fl.length), (23, Ty.int .i64 (k.1 : Nat))] []) (fun k => fl.length - k.1) (⟨0, by omega⟩) ?_ fun k => ?_
 ·(refine cg.mk' ?_ ?_ <;> (repeat' (first | exact aI | exact aH | refine aB ?_ (Ty.aT _) | refine aB ?_ (Ty.aF _) | refine aB ?_ ?_)))
  all_goals exact Ty.bN yz
 have hk := k.2
 have hup := DS (y := y) (p := p) hb k.1 k.2
 refine aE (aA (bB rfl rfl rfl (aD (aC (aE ?_)))))
 refine ah rfl (fun hc2 => ?_) (fun hc2 => ?_)
 ·
  refine aj (aC (aE (aY (aE (aA ?_)))))
  refine aq rfl rfl rfl rfl rfl rfl (by omega) ?_
  refine aX rfl rfl rfl (by exact Nat.le_of_ble_eq_true rfl) ?_
  refine bu rfl (by exact List.cons_ne_nil _ _) rfl ?_
  refine bh rfl rfl (by decide) rfl rfl rfl rfl rfl rfl ?_
  refine aD (aC (aE ?_))
  have hbk := hb k.1 (by omega)
  have hhf := E6 (y := y) (p := p) (m := gQ y fl p k.1) (f := (nth fl k.1)) ⟨hbk.1, hbk.2.1⟩
  refine cP mixed rfl (RR rfl ?_)
  refine aS rfl rfl rfl rfl rfl (by decide) ?_
  refine aZ rfl rfl (by decide) rfl rfl rfl ?_
  refine eV rfl (dU (sE y hr fl a p hp (nth fl k.1).dst) rfl rfl rfl rfl rfl rfl) rfl (eO rfl ?_)
  apply aM (s := 31) rfl rfl rfl
  ·intro hg; apply aO; (refine RR rfl ?_); refine aD ?_; exact rfl
  ·exact rfl
  ·exact rfl
  apply aM (s := 31) rfl rfl rfl
  ·intro hg; apply aO; (refine aS rfl rfl rfl rfl rfl (by decide) ?_); refine aD ?_; exact rfl
  ·exact rfl
  ·exact rfl
  apply aM (s := 31) rfl rfl rfl
  ·intro hg; apply aK (s := 33) rfl (by (rw [hg]; rfl)); apply aO; (refine aZ rfl rfl (by decide) rfl rfl rfl ?_); refine aD ?_; exact rfl
  ·exact rfl
  ·exact rfl
  apply aM (s := 31) rfl rfl rfl
  ·intro hg; apply aK (s := 32) rfl (by (rw [hg]; rfl)); apply aK (s := 34) rfl (by (rw [hg]; rfl)); apply aO; (refine eV rfl (dU (sE y hr fl a p hp (nth fl k.1).src) rfl rfl rfl rfl rfl rfl) rfl ?_); refine aD ?_; exact rfl
  ·exact rfl
  ·exact rfl
  apply aM (s := 31) rfl rfl rfl
  ·intro hg; apply aK (s := 35) rfl (by (rw [hg]; rfl)); apply aO; (refine dm rfl ?_); refine aD ?_; exact rfl
  ·exact rfl
  ·exact rfl
  refine dV rfl rfl (RR rfl ?_)
  refine aS rfl rfl rfl rfl rfl (by decide) ?_
  refine aZ rfl rfl (by decide) rfl rfl rfl ?_
  refine eV rfl (dU (sE y hr fl a p hp (nth fl k.1).src) rfl rfl rfl rfl rfl rfl) rfl (eO rfl ?_)
  apply aM (s := 42) rfl rfl rfl
  ·intro hg; apply aO; (refine RR rfl ?_); refine aD ?_; exact rfl
  ·exact rfl
  ·exact rfl
  apply aM (s := 42) rfl rfl rfl
  ·intro hg; apply aO; (refine aS rfl rfl rfl rfl rfl (by decide) ?_); refine aD ?_; exact rfl
  ·exact rfl
  ·exact rfl
  apply aM (s := 42) rfl rfl rfl
  ·intro hg; apply aK (s := 44) rfl (by (rw [hg]; rfl)); apply aO; (refine aZ rfl rfl (by decide) rfl rfl rfl ?_); refine aD ?_; exact rfl
  ·exact rfl
  ·exact rfl
  apply aM (s := 42) rfl rfl rfl
  ·intro hg; apply aK (s := 43) rfl (by (rw [hg]; rfl)); apply aK (s := 45) rfl (by (rw [hg]; rfl)); apply aO; (refine eV rfl (dU (sE y hr fl a p hp (nth fl k.1).dst) rfl rfl rfl rfl rfl rfl) rfl ?_); refine aD ?_; exact rfl
  ·exact rfl
  ·exact rfl
  apply aM (s := 42) rfl rfl rfl
  ·intro hg; apply aK (s := 46) rfl (by (rw [hg]; rfl)); apply aO; (refine dm rfl ?_); refine aD ?_; exact rfl
  ·exact rfl
  ·exact rfl
  refine dV rfl rfl (cm rfl (cm rfl (aD ?_)))
  refine ⟨by kernel_rfl, ?_⟩
  refine aC ?_
  refine j4 (J := live [(3, Ty.pp (mT p)), (5, Ty.jw 187 [Ty.pp (mT p), Ty.pp [Ty.pp (mR y fl a)]]), (6, Ty.int .i64 (gQ y fl p k.1)), (8, Ty.ptr 9 0), (9, Ty.bool (IN y p (nth fl k.1))), (10, Ty.bool (FH y p (nth fl k.1))), (21, Ty.sl dn fl), (22, Ty.int .i64 fl.length), (23, Ty.int .i64 (k.1 : Nat))] [(9, Cont.cells 187 (dn.tys (nth fl k.1)))]) ?_ ?_
  ·
   refine aE (aA ?_)
   refine aL rfl rfl rfl rfl rfl (by decide) ?_
   refine aJ rfl rfl rfl rfl (aD (aC ?_))
   refine cH rfl (fun hc3 => ?_) (fun hc3 => ?_)
   ·
    refine aA (eO rfl (eO rfl (cm rfl (cm rfl (aD (eW ?_))))))
    (refine cg.mk' ?_ ?_ <;> (repeat' (first | exact aI | exact aH | refine aB ?_ (Ty.aT _) | refine aB ?_ (Ty.aF _) | refine aG rfl (Cont.aF _) ?_ | refine aB ?_ ?_)))
    all_goals first | exact Ty.c9 (J8 (by assumption)).1 | exact Ty.c9 (J8 (by assumption)).2
   refine aj (eW ?_)
   (refine cg.mk' ?_ ?_ <;> (repeat' (first | exact aI | exact aH | refine aB ?_ (Ty.aT _) | refine aB ?_ (Ty.aF _) | refine aG rfl (Cont.aF _) ?_ | refine aB ?_ ?_)))
   all_goals first | exact Ty.c9 (OR (by assumption)).1 | exact Ty.c9 (OR (by assumption)).2
  refine j4 (J := live [(3, Ty.pp (mT p)), (5, Ty.jw 187 [Ty.pp (mT p), Ty.pp [Ty.pp (mR y fl a)]]), (6, Ty.int .i64 (oY y p (gQ y fl p k.1) (nth fl k.1))), (8, Ty.ptr 9 0), (10, Ty.bool (FH y p (nth fl k.1))), (21, Ty.sl dn fl), (22, Ty.int .i64 fl.length), (23, Ty.int .i64 (k.1 : Nat))] [(9, Cont.cells 187 (dn.tys (nth fl k.1)))]) ?_ ?_
  ·
   refine aE (aA (eO rfl (aD (aC ?_))))
   refine cH rfl (fun hc4 => ?_) (fun hc4 => ?_)
   ·
    refine aA (bF rfl ?_)
    refine aS rfl rfl rfl rfl rfl (by decide) ?_
    refine aZ rfl rfl (by decide) rfl rfl rfl ?_
    refine bq rfl rfl (by omega) (by omega) ?_
    refine bZ rfl (aD (eW ?_))
    (refine cg.mk' ?_ ?_ <;> (repeat' (first | exact aI | exact aH | refine aB ?_ (Ty.aT _) | refine aB ?_ (Ty.aF _) | refine aG rfl (Cont.aF _) ?_ | refine aB ?_ ?_)))
    all_goals exact Ty.bN (Lp (by assumption))
   refine aj (eW ?_)
   (refine cg.mk' ?_ ?_ <;> (repeat' (first | exact aI | exact aH | refine aB ?_ (Ty.aT _) | refine aB ?_ (Ty.aF _) | refine aG rfl (Cont.aF _) ?_ | refine aB ?_ ?_)))
   all_goals exact Ty.bN (NK (by assumption))
  refine aE (aA (eO rfl (aD (aC ?_))))
  refine cH rfl (fun hc5 => ?_) (fun hc5 => ?_)
  ·
   refine aA (bF rfl ?_)
   refine aS rfl rfl rfl rfl rfl (by decide) ?_
   refine aZ rfl rfl (by decide) rfl rfl rfl ?_
   refine gH rfl rfl (by omega) (by omega) ?_
   refine bZ rfl (aD (bI (aC (aA ?_))))
   refine bq rfl rfl (by omega) (by omega) ?_
   refine bF rfl (aD ?_)
   refine bM (⟨k.1 + 1, by omega⟩) ?_ (by show fl.length - (k.1 + 1) < fl.length - k.1; omega)
   (refine cg.mk' ?_ ?_ <;> (repeat' (first | exact aI | exact aH | refine aB ?_ (Ty.aT _) | refine aB ?_ (Ty.aF _) | refine aB ?_ ?_)))
   all_goals skip
   all_goals exact Ty.bN (Bp (by assumption))
  refine aj (bI (aC (aA ?_)))
  refine bq rfl rfl (by omega) (by omega) ?_
  refine bF rfl (aD ?_)
  refine bM (⟨k.1 + 1, by omega⟩) ?_ (by show fl.length - (k.1 + 1) < fl.length - k.1; omega)
  (refine cg.mk' ?_ ?_ <;> (repeat' (first | exact aI | exact aH | refine aB ?_ (Ty.aT _) | refine aB ?_ (Ty.aF _) | refine aB ?_ ?_)))
  all_goals skip
  all_goals exact Ty.bN (F7 (by assumption))
 refine bz (aP (aP (aa rfl (aC (aE (aA (bF rfl (bZ rfl (aD ?_)))))))))
 refine aC (az (bR rfl rfl ?_))
 all_goals skip
 all_goals exact av rfl rfl (congrArg (Ty.int .i64) ((show _ = gQ y fl p fl.length by rw [show k.1 = fl.length by have := k.2; omega]).trans (DY (Nf hc1))))
set_option maxRecDepth 100000 in
theorem KZ (a b : Be) : dJ Tryz.prog 136 [Ty.agg (ru.tys a), Ty.agg (ru.tys b)] (Ty.bool (mP a b)) := by
 refine ak Tryz.func136 rfl (by decide) Tryz.ntmps136 (by exact Nat.le_of_ble_eq_true rfl) fun w0 M0 => ?_
 refine aE (aA (bD rfl (bD rfl (cm rfl (aD (aC (aE (aA ?_))))))))
 refine aX rfl rfl rfl (by exact Nat.le_of_ble_eq_true rfl) ?_
 refine aX rfl rfl rfl (by exact Nat.le_of_ble_eq_true rfl) ?_
 refine sD (Of a.bin a.day b.bin b.day) rfl rfl (eO rfl ?_)
 apply aM (s := 8) rfl rfl rfl
 ·intro hg; apply aO; (refine aL rfl rfl rfl rfl rfl (by decide) ?_); refine aD ?_; exact rfl
 ·exact rfl
 ·exact rfl
 apply aM (s := 8) rfl rfl rfl
 ·intro hg; apply aK (s := 9) rfl (by (rw [hg]; rfl)); apply aO; (refine aJ rfl rfl rfl rfl ?_); refine aD ?_; exact rfl
 ·exact rfl
 ·exact rfl
 apply aM (s := 8) rfl rfl rfl
 ·intro hg; apply aO; (refine aL rfl rfl rfl rfl rfl (by decide) ?_); refine aD ?_; exact rfl
 ·exact rfl
 ·exact rfl
 apply aM (s := 8) rfl rfl rfl
 ·intro hg; apply aK (s := 11) rfl (by (rw [hg]; rfl)); apply aO; (refine aJ rfl rfl rfl rfl ?_); refine aD ?_; exact rfl
 ·exact rfl
 ·exact rfl
 apply aM (s := 8) rfl rfl rfl
 ·intro hg; apply aK (s := 10) rfl (by (rw [hg]; rfl)); apply aK (s := 12) rfl (by (rw [hg]; rfl)); apply aO; (refine bB rfl rfl rfl ?_); refine aD ?_; exact rfl
 ·exact rfl
 ·exact rfl
 apply aM (s := 8) rfl rfl rfl
 ·intro hg; apply aK (s := 13) rfl (by (rw [hg]; rfl)); apply aO; (refine eO rfl ?_); refine aD ?_; exact rfl
 ·exact rfl
 ·exact rfl
 apply fo (s := 14) rfl rfl rfl
 ·intro hg1 hg2; apply aO; (refine aL rfl rfl rfl rfl rfl (by decide) ?_); refine aD ?_; exact rfl
 ·exact rfl
 ·exact rfl
 apply fo (s := 14) rfl rfl rfl
 ·intro hg1 hg2; apply aK (s := 15) rfl (by (rw [hg1, hg2]; rfl)); apply aO; (refine aJ rfl rfl rfl rfl ?_); refine aD ?_; exact rfl
 ·exact rfl
 ·exact rfl
 apply fo (s := 14) rfl rfl rfl
 ·intro hg1 hg2; apply aO; (refine aL rfl rfl rfl rfl rfl (by decide) ?_); refine aD ?_; exact rfl
 ·exact rfl
 ·exact rfl
 apply fo (s := 14) rfl rfl rfl
 ·intro hg1 hg2; apply aK (s := 17) rfl (by (rw [hg1, hg2]; rfl)); apply aO; (refine aJ rfl rfl rfl rfl ?_); refine aD ?_; exact rfl
 ·exact rfl
 ·exact rfl
 apply fo (s := 14) rfl rfl rfl
 ·intro hg1 hg2; apply aK (s := 16) rfl (by (rw [hg1, hg2]; rfl)); apply aK (s := 18) rfl (by (rw [hg1, hg2]; rfl)); apply aO; (refine bB rfl rfl rfl ?_); refine aD ?_; exact rfl
 ·exact rfl
 ·exact rfl
 apply fo (s := 14) rfl rfl rfl
 ·intro hg1 hg2; apply aK (s := 19) rfl (by (rw [hg1, hg2]; rfl)); apply aO; (refine eO rfl ?_); refine aD ?_; exact rfl
 ·exact rfl
 ·exact rfl
 apply fo (s := 20) rfl rfl rfl
 ·intro hg1 hg2; apply aO; (refine aL rfl rfl rfl rfl rfl (by decide) ?_); refine aD ?_; exact rfl
 ·exact rfl
 ·exact rfl
 apply fo (s := 20) rfl rfl rfl
 ·intro hg1 hg2; apply aK (s := 21) rfl (by (rw [hg1, hg2]; rfl)); apply aO; (refine aJ rfl rfl rfl rfl ?_); refine aD ?_; exact rfl
 ·exact rfl
 ·exact rfl
 apply fo (s := 20) rfl rfl rfl
 ·intro hg1 hg2; apply aO; (refine aL rfl rfl rfl rfl rfl (by decide) ?_); refine aD ?_; exact rfl
 ·exact rfl
 ·exact rfl
 apply fo (s := 20) rfl rfl rfl
 ·intro hg1 hg2; apply aK (s := 23) rfl (by (rw [hg1, hg2]; rfl)); apply aO; (refine aJ rfl rfl rfl rfl ?_); refine aD ?_; exact rfl
 ·exact rfl
 ·exact rfl
 apply fo (s := 20) rfl rfl rfl
 ·intro hg1 hg2; apply aK (s := 22) rfl (by (rw [hg1, hg2]; rfl)); apply aK (s := 24) rfl (by (rw [hg1, hg2]; rfl)); apply aO; (refine bB rfl rfl rfl ?_); refine aD ?_; exact rfl
 ·exact rfl
 ·exact rfl
 apply fo (s := 14) rfl rfl rfl
 ·intro hg1 hg2; apply aK (s := 20) rfl (by (rw [hg1, hg2]; rfl)); apply rM (s := 25) rfl (by (rw [hg1, hg2]; rfl)); apply aO; (refine dV rfl rfl ?_); refine aD ?_; exact rfl
 ·exact rfl
 ·exact rfl
 apply aM (s := 8) rfl rfl rfl
 ·intro hg; apply aK (s := 14) rfl (by (rw [hg]; rfl)); apply rM (s := 26) rfl (by (rw [hg]; rfl)); apply aO; (refine ir rfl rfl ?_); refine aD ?_; exact rfl
 ·exact rfl
 ·exact rfl
 refine dV rfl rfl (cm rfl (aD (aC (az (bR rfl rfl ?_)))))
 all_goals skip
 all_goals exact av rfl rfl (congrArg Ty.bool (by unfold mP; rw [O6]))
set_option maxRecDepth 100000 in
theorem Ht (y : au) (hr : y.bt) (hs : y.Small) (c : Be) : dJ Tryz.prog 134 [Ty.agg (ru.tys c), Ty.pp (bE y)] (Ty.bool (J0 y c)) := by
 refine ak Tryz.func134 rfl (by decide) Tryz.ntmps134 (by exact Nat.le_of_ble_eq_true rfl) fun w0 M0 => ?_
 have h2 := hr.days
 refine aE (aA (bD rfl (cm rfl (aD (aC (aE (aA ?_)))))))
 refine aX rfl rfl rfl (by exact Nat.le_of_ble_eq_true rfl) ?_
 refine aL rfl rfl rfl rfl rfl (by decide) ?_
 refine aJ rfl rfl rfl rfl (af (Fg y hs _) rfl rfl rfl rfl rfl (eO rfl ?_))
 apply aM (s := 8) rfl rfl rfl
 ·intro hg; apply aO; (refine aL rfl rfl rfl rfl rfl (by decide) ?_); refine aD ?_; exact rfl
 ·exact rfl
 ·exact rfl
 apply aM (s := 8) rfl rfl rfl
 ·intro hg; apply aK (s := 9) rfl (by (rw [hg]; rfl)); apply aO; (refine aJ rfl rfl rfl rfl ?_); refine aD ?_; exact rfl
 ·exact rfl
 ·exact rfl
 apply aM (s := 8) rfl rfl rfl
 ·intro hg; apply aO; (refine aL rfl rfl rfl rfl rfl (by decide) ?_); refine aD ?_; exact rfl
 ·exact rfl
 ·exact rfl
 apply aM (s := 8) rfl rfl rfl
 ·intro hg; apply aK (s := 11) rfl (by (rw [hg]; rfl)); apply aO; (refine aJ rfl rfl rfl rfl ?_); refine aD ?_; exact rfl
 ·exact rfl
 ·exact rfl
 apply aM (s := 8) rfl rfl rfl
 ·intro hg; apply aK (s := 12) rfl (by (rw [hg]; rfl)); apply aO; (refine gH rfl rfl (by omega) (by omega) ?_); refine aD ?_; exact rfl
 ·exact rfl
 ·exact rfl
 apply aM (s := 8) rfl rfl rfl
 ·intro hg; apply aK (s := 10) rfl (by (rw [hg]; rfl)); apply aK (s := 13) rfl (by (rw [hg]; rfl)); apply aO; (refine af (uN _ _ _) rfl rfl rfl rfl rfl ?_); refine aD ?_; exact rfl
 ·exact rfl
 ·exact rfl
 refine dV rfl rfl (cm rfl (aD (aC (az (bR rfl rfl ?_)))))
 all_goals exact cG rfl rfl
 all_goals trace_state
set_option maxRecDepth 100000 in
theorem JF (y : au) (hs : y.Small) (p : Dd) (hl : p.cells.length ≤ 1000) : dJ Tryz.prog 61 [dr y, Ty.agg (mT p)] (Ty.j8 [Ty.int .i64 (uC y p), Ty.int .i64 (mh y p)]) := by
 refine ak Tryz.func61 rfl (by decide) Tryz.ntmps61 (by exact Nat.le_of_ble_eq_true rfl) fun w0 M0 => ?_
 refine aE (aA (bD rfl (bD rfl (bZ rfl (bZ rfl (aD (aC (aE (aE ?_)))))))))
 refine aA ?_
 refine aX rfl rfl rfl (by exact Nat.le_of_ble_eq_true rfl) ?_
 refine af (kW y hs) rfl rfl rfl rfl rfl (bZ rfl (aD (aC (aE (aA (bF rfl (bB rfl rfl rfl (aD (aC ?_)))))))))
 refine cx rfl (fun hc1 => ?_) (fun hc1 => ?_)
 ·
  refine aE (aA (bF rfl (bZ rfl (bZ rfl (aD (aC (az (aQ ?_))))))))
  refine fG rfl rfl rfl ?_ ?_
  all_goals skip
  all_goals first | exact av rfl rfl (congrArg (Ty.int .i64) (OL hc1).1) | exact av rfl rfl (congrArg (Ty.int .i64) (OL hc1).2)
 refine aj (aC (aE (aE ?_)))
 have hck : bL y = 0 := hc1
 have hr := dD hck
 refine aA ?_
 refine aL rfl rfl rfl rfl rfl (by decide) ?_
 refine aJ rfl rfl rfl rfl (dK rfl ?_)
 refine af (DE p.cells (Ty.jw 134 [Ty.pp (bE y)]) rfl (J0 y) rfl rfl fun c _ => dU (Ht y hr hs c) rfl rfl rfl rfl rfl rfl) rfl rfl rfl rfl rfl ?_
 refine dm rfl (aD (aC ?_))
 refine cH rfl (fun hc2 => ?_) (fun hc2 => ?_)
 ·
  refine aE (aA (bZ rfl (bZ rfl (aD (aC (az (aQ ?_)))))))
  refine fG rfl rfl rfl ?_ ?_
  all_goals skip
  all_goals first | exact av rfl rfl (congrArg (Ty.int .i64) (OY hc1 (l9 hc2)).1) | exact av rfl rfl (congrArg (Ty.int .i64) (OY hc1 (l9 hc2)).2)
 refine aj (aC (aE (aE ?_)))
 have hall : (p.cells.all (J0 y)) = true := ew hc2
 refine aA (bZ rfl (aD (aC (aY ?_))))
 refine b9 (fun (i : {i : Nat // 1 ≤ i ∧ ∀ j, j + 1 < i → j + 1 < p.cells.length → mP (nth p.cells j) (nth p.cells (j + 1)) = true}) => live [(2, Ty.pp (bE y)), (3, Ty.pp (mT p)), (7, Ty.int .i64 (i.1 : Nat))] []) (fun i => p.cells.length - i.1) (⟨1, Nat.le_refl _, fun j hj => by omega⟩) ?_ fun i => ?_
 ·(refine cg.mk' ?_ ?_ <;> (repeat' (first | exact aI | exact aH | refine aB ?_ (Ty.aT _) | refine aB ?_ (Ty.aF _))))
 have hi1 := i.2.1
 refine aE (aE (aA (bF rfl ?_)))
 refine aL rfl rfl rfl rfl rfl (by decide) ?_
 refine aJ rfl rfl rfl rfl (cD rfl rfl rfl (bB rfl rfl rfl (aD (aC ?_))))
 refine ah rfl (fun hc3 => ?_) (fun hc3 => ?_)
 ·
  refine aj (aC (aE (aY (aE (cP mixed rfl ?_)))))
  refine aL rfl rfl rfl rfl rfl (by decide) ?_
  refine aJ rfl rfl rfl rfl (bF rfl ?_)
  refine gH rfl rfl (by omega) (by omega) ?_
  refine aq (i := i.1 - 1) rfl (by exact congrArg (Ty.int .i64) (by omega : ((i.1 : Nat) : Int) - 1 = ((i.1 - 1 : Nat) : Int))) rfl rfl rfl rfl (by omega) ?_
  refine aX rfl rfl rfl (by exact Nat.le_of_ble_eq_true rfl) ?_
  refine aL rfl rfl rfl rfl rfl (by decide) ?_
  refine aJ rfl rfl rfl rfl (bF rfl ?_)
  refine aq rfl rfl rfl rfl rfl rfl (by omega) ?_
  refine aX rfl rfl rfl (by exact Nat.le_of_ble_eq_true rfl) ?_
  refine af (KZ _ _) rfl rfl rfl rfl rfl (dm rfl (aD ?_))
  refine ⟨by kernel_rfl, ?_⟩
  refine aC ?_
  refine cH rfl (fun hc4 => ?_) (fun hc4 => ?_)
  ·
   refine aE (aA (bZ rfl (bZ rfl (aD (aC (az (ay (aQ (aQ ?_)))))))))
   refine ay (aQ ?_)
   refine fG rfl rfl rfl ?_ ?_
   all_goals skip
   all_goals first | exact av rfl rfl (congrArg (Ty.int .i64) (Jy hc1 hall i.2.1 (by omega) (l9 hc4)).1) | exact av rfl rfl (congrArg (Ty.int .i64) (Jy hc1 hall i.2.1 (by omega) (l9 hc4)).2)
  refine aj (bI (aC (aA (bF rfl ?_))))
  refine bq rfl rfl (by omega) (by omega) ?_
  refine bZ rfl (aD ?_)
  refine bM (⟨i.1 + 1, by omega, fun j hj hj2 => by by_cases e : j + 1 = i.1; (have := ew hc4; rwa [show i.1 - 1 = j by omega, show i.1 = j + 1 by omega] at this); exact i.2.2 j (by omega) hj2⟩) ?_ (by show p.cells.length - (i.1 + 1) < p.cells.length - i.1; omega)
  (refine cg.mk' ?_ ?_ <;> (repeat' (first | exact aI | exact aH | refine aB ?_ (Ty.aT _) | refine aB ?_ (Ty.aF _))))
  all_goals skip
 refine bz (aP (aP (aa rfl (aC (aE (cP mixed rfl ?_))))))
 refine aX rfl rfl rfl (by exact Nat.le_of_ble_eq_true rfl) ?_
 refine af (tL) rfl rfl rfl rfl rfl ?_
 refine dL (res' := Ty.pp (sV y 2000 1000 (aR y (nth bf)).length (aR y (nth bf)).length)) [(2000, 23), (1000, 31)] [2000, 1000] [(2000, Cont.vec dn 187 (aR y (nth bf))), (1000, Cont.vec cT 3 (gz (aR y (nth bf))))] (tE y hr bf jo) rfl rfl (aN (aN bX (aU rfl rfl)) (aU rfl rfl)) pre_nil (bk (a := 2000) (b := 23) (by decide) rfl (bp (by decide) rfl) (bk (a := 1000) (b := 31) (by decide) rfl (bp (by decide) rfl) post_nil)) (fJ (aN (aN (aN (aN (aN (aN bX (dg (by decide))) (dg (by decide))) (aU rfl rfl)) (aU rfl rfl)) (aU rfl rfl)) (aU rfl rfl))) ?_
 refine aX rfl rfl rfl (by exact Nat.le_of_ble_eq_true rfl) ?_
 refine eM [2000, 1000] (M8 y hr (aR y (nth bf)) (gz (aR y (nth bf))) (kQ hr) (Jn hr) p (fun x hx => PZ (List.all_eq_true.1 hall x hx))) rfl (aW (kj (aW (bU (bV rfl rfl)) (aW (bU (bV rfl rfl)) (aW (bU (bV rfl rfl)) (aW (bU (bV rfl rfl)) (aW (jr rfl rfl (by decide) rfl) (aW (jr rfl (Dr _) (by decide) rfl) cR))))))) (aW (bU (bV rfl rfl)) cR)) (by exact dc _ _) ?_
 refine bZ rfl (aD ?_)
 refine ⟨by kernel_rfl, ?_⟩
 refine aC (aE (aE (aA (bF rfl (bB rfl rfl rfl (aD (aC ?_)))))))
 refine ah rfl (fun hc5 => ?_) (fun hc5 => ?_)
 ·
  refine aE (aA (bZ rfl (bZ rfl (aD (aC (az (aQ ?_)))))))
  refine fG rfl rfl rfl ?_ ?_
  all_goals skip
  all_goals first | exact av rfl rfl (congrArg (Ty.int .i64) (OQ hc1 hall (fun j hj => i.2.2 j (by omega) hj) hc5).1) | exact av rfl rfl (congrArg (Ty.int .i64) (OQ hc1 hall (fun j hj => i.2.2 j (by omega) hj) hc5).2)
 refine aj (aC (aE (aA (bF rfl (bZ rfl (bZ rfl (aD (aC (az ?_)))))))))
 refine fG rfl rfl rfl ?_ ?_
 all_goals skip
 all_goals first | exact av rfl rfl (congrArg (Ty.int .i64) (It hc1 hall (fun j hj => i.2.2 j (by omega) hj) hc5).1) | exact av rfl rfl (congrArg (Ty.int .i64) (It hc1 hall (fun j hj => i.2.2 j (by omega) hj) hc5).2)
end Go.Proofs.YtelbollidfdcjaaGreat
namespace Go.Proofs.YtelbollidfdcjaaGreat
open Go Go.T
set_option maxHeartbeats 8000000
attribute [local irreducible] aR gz
attribute [local irreducible] gL eX lN nh gy g6 gu gw gx nj gr ni dN fX nH fu nZ nth fP dQ bA dJ bodyPost Exit.then Exit.inBlock Code.wp Code.wpIn nW g7 nY nV g8 eP cL cM bodyPostM dR
set_option maxRecDepth 100000 in
theorem uK (y : au) (hr : y.bt) (c8 : List Bool) (hc8 : c8.length = 8) : eP Tryz.prog 117 [] [] [dr y, Ty.arr eZ c8] [(31, Cont.vec cT 3 (gz (aR y (nth c8))))] (Ty.pp (eI y (aR y (nth c8)) 31 (aR y (nth c8)).length)) := by
 refine rG Tryz.func117 rfl (by decide) Tryz.ntmps117 (by exact Nat.le_of_ble_eq_true rfl) fun w0 M0 => ?_
 have hfl := kQ (c := nth c8) hr
 refine aE (aA (bD rfl (uE rfl (lE rfl (aD (aC (aE (aA ?_))))))))
 refine aX rfl rfl rfl (by exact Nat.le_of_ble_eq_true rfl) ?_
 refine dI rfl rfl (by exact List.cons_ne_nil _ _) rfl (by repeat (first | exact (aV.nil : aV _ _ [] _) | (show aV _ _ ((_, _) :: _) _; apply aV.agg; (· exact (rfl : _ = Ty.agg _))))) (by exact rfl) ?_
 refine zu rfl rfl rfl ?_
 refine bu rfl (by exact List.cons_ne_nil _ _) rfl ?_
 refine cv rfl rfl (by decide) rfl rfl (by exact (rfl : _ = Ty.ptr _ _)) rfl (by exact Nat.le_of_ble_eq_true rfl) rfl rfl (by exact (rfl : _ = [_])) ?_
 refine aD (aC (aE (aE (aA ?_))))
 refine aZ rfl rfl (by decide) rfl rfl rfl ?_
 refine wq rfl rfl rfl (by rw [hc8]; rfl) ?_
 refine dL (res' := Ty.jw 196 [Ty.pp [Ty.ptr 10 0], Ty.pa eZ c8 0]) [(10, 1000)] [] [(10, Cont.cells 185 (E9 y))] (Ky y c8 hc8) rfl rfl (aN (aN bX (aU rfl rfl)) (jg (by exact List.mem_cons_self))) (dA (a := 10) (b := 1000) (by exact List.mem_cons_self) rfl (kg (by exact List.mem_cons_self) rfl rfl rfl) pre_nil) (bk (a := 10) (b := 1000) (by exact List.mem_cons_self) rfl (kg (by exact List.mem_cons_self) rfl rfl rfl) post_nil) (tj (aN (aN bX (aU rfl rfl)) (fJ (aN bX (jg (by exact List.mem_cons_self)))))) ?_
 refine aD (aC ?_)
 refine Kk (D := 10) (Tb := 185) (tys := bE y) (r := [Ty.ex (.slice none 0 0), Ty.ex (.slice none 0 0)]) rfl rfl rfl (by decide) fun vs hvs => ?_
 obtain ⟨v0, v1, v2, v3, rfl⟩ := four hvs rfl
 refine aY ?_
 refine sv (ps := [13]) (lk [(5, Ty.ptr 6 0), (9, Ty.ptr 10 0)]) (fun k => [(6, Cont.cells 152 [Ty.ptr 10 0]), (10, Cont.cells 185 [Ty.ex v0, Ty.ex v1, Ty.ex v2, Ty.ex v3, Ty.row dn 187 23 ((aR y (nth c8)).take k), Ty.row cT 3 31 ((gz (aR y (nth c8))).take k)]), (4000, Cont.fact (bE y) [v0, v1, v2, v3] rfl rfl)]) false [] [6, 10, 4000] rfl rfl ((vi y hr c8 hc8 0 10 (by decide) [v0, v1, v2, v3]).1) (DN (D := 10) (n := 36) (sd := 9) (r := fun k => [Ty.row dn 187 23 ((aR y (nth c8)).take k), Ty.row cT 3 31 ((gz (aR y (nth c8))).take k)]) (fun b => vi y hr c8 hc8 b 10 (by decide) [v0, v1, v2, v3]) (by decide) (by decide) rfl (fun k => List.mem_cons_of_mem _ List.mem_cons_self) (List.mem_cons_of_mem _ (List.mem_cons_of_mem _ List.mem_cons_self))) (vh rfl) (vh rfl) (by decide) (by intro t ht; obtain ⟨x, _, rfl⟩ := List.mem_map.1 ht; exact ⟨rfl, rfl, rfl⟩) rfl rfl (fun _ => rfl) rfl ?_ ?_ ?_ (by intro h; cases h)
 ·(refine cg.mk' ?_ ?_ <;> (repeat' (first | exact aI | exact aH | exact dH | refine aB ?_ (Ty.aT _) | refine aB ?_ (Ty.aF _) | refine aG rfl (Cont.aF _) ?_ | refine aG rfl (Cont.dG ?_) ?_ | refine bS ?_ (Ty.aF _) | refine bS ?_ Ty.gZ)))
  all_goals trace_state
 ·intro k tys hk
  obtain ⟨hk1, rfl⟩ := FW hk
  refine ⟨live [(5, Ty.ptr 6 0), (6, Ty.ptr 7 0), (9, Ty.ptr 10 0)] [(6, Cont.cells 152 [Ty.ptr 10 0]), (7, Cont.cells 187 (dn.tys (nth (aR y (nth c8)) k))), (10, Cont.cells 185 [Ty.ex v0, Ty.ex v1, Ty.ex v2, Ty.ex v3, Ty.row dn 187 23 ((aR y (nth c8)).take k), Ty.row cT 3 31 ((gz (aR y (nth c8))).take k)]), (4000, Cont.fact (bE y) [v0, v1, v2, v3] rfl rfl)], fun l w M => ?_, fun l w M => ?_⟩
  ·
   refine aA ?_
   refine bu rfl (by exact List.cons_ne_nil _ _) rfl ?_
   refine bh rfl rfl (by decide) rfl rfl rfl rfl rfl rfl ?_
   refine aD (eW ?_)
   (refine cg.mk' ?_ ?_ <;> (repeat' (first | exact aI | exact aH | refine aB ?_ (Ty.aT _) | refine aB ?_ (Ty.aF _) | refine aG rfl (Cont.aF _) ?_)))
  refine aY ?_
  refine vg (D := 10) (Tb := 185) (tg := 23) [Ty.ex v0, Ty.ex v1, Ty.ex v2, Ty.ex v3] rfl fun v4 => ?_
  refine vg (D := 10) (Tb := 185) (tg := 31) [Ty.ex v0, Ty.ex v1, Ty.ex v2, Ty.ex v3, Ty.ex v4] rfl fun v5 => ?_
  refine cP mixed rfl ?_
  refine aZ rfl rfl (by decide) rfl rfl rfl ?_
  refine aZ rfl rfl (by decide) rfl rfl rfl ?_
  refine aZ rfl rfl (by decide) rfl rfl rfl ?_
  refine cZ rfl ?_
  refine aS rfl rfl rfl rfl rfl (by decide) ?_
  refine aZ rfl rfl (by decide) rfl rfl rfl ?_
  refine bg rfl rfl (by decide) rfl rfl (by exact Nat.le_of_ble_eq_true rfl) ?_
  refine bW (E := dn) (xs := [_]) rfl rfl rfl rfl rfl (by decide) (by decide) (by repeat (first | exact (aV.nil : aV _ _ [] _) | (show aV _ _ ((_, _) :: _) _; apply aV.agg; (· exact (rfl : _ = Ty.agg _))))) (by exact rfl) rfl ?_
  refine qS (tg := 23) rfl rfl rfl rfl (by decide) rfl rfl rfl rfl rfl rfl (by decide) (by (simp <;> omega)) (by (simp <;> omega)) rfl rfl ?_
  refine aZ rfl rfl (by decide) rfl rfl rfl ?_
  refine cZ rfl ?_
  refine aS rfl rfl rfl rfl rfl (by decide) ?_
  refine aZ rfl rfl (by decide) rfl rfl rfl ?_
  refine aS rfl rfl rfl rfl rfl (by decide) ?_
  refine aZ rfl rfl (by decide) rfl rfl rfl ?_
  refine bW (E := cT) (xs := [_]) rfl rfl rfl rfl rfl (by decide) (by decide) (by repeat (first | exact (aV.nil : aV _ _ [] _) | (show aV _ _ ((_, _) :: _) _; apply aV.one; (· exact (rfl : _ = Ty.int _ _)); (· exact rfl)))) (by exact rfl) rfl ?_
  refine qS (tg := 31) rfl rfl rfl rfl (by decide) rfl rfl rfl rfl rfl rfl (by decide) (by (simp <;> omega)) (by (simp <;> omega)) rfl rfl ?_
  refine cZ rfl ?_
  refine aS rfl rfl rfl rfl rfl (by decide) ?_
  refine cv rfl rfl (by decide) rfl rfl (by exact (rfl : _ = Ty.row _ _ _ _)) rfl (by exact Nat.le_of_ble_eq_true rfl) rfl rfl (by exact rfl) ?_
  refine cZ rfl ?_
  refine aS rfl rfl rfl rfl rfl (by decide) ?_
  refine cv rfl rfl (by decide) rfl rfl (by exact (rfl : _ = Ty.row _ _ _ _)) rfl (by exact Nat.le_of_ble_eq_true rfl) rfl rfl (by exact rfl) ?_
  refine aD ?_
  refine ⟨by kernel_rfl, ?_⟩
  refine bI (Bg ?_)
  (refine cg.mk' ?_ ?_ <;> (repeat' (first | exact aI | exact aH | exact dH | refine aB ?_ (Ty.aT _) | refine aG rfl (Cont.aF _) ?_ | refine aG rfl (Cont.dG ?_) ?_ | refine bS ?_ (Ty.aF _) | refine bS ?_ ?_)))
  all_goals first | exact Ty.eU (cQ hk1).symm | exact Ty.eU (Fv hk1)
 refine bI (aC (aE ?_))
 refine B9 (D := 10) (Tb := 185) (vs := [v0, v1, v2, v3]) (tys := bE y) (r := [Ty.row dn 187 23 ((aR y (nth c8)).take ((aR y (nth c8)).map ju).length), Ty.row cT 3 31 ((gz (aR y (nth c8))).take ((aR y (nth c8)).map ju).length)]) rfl rfl ?_
 refine jk (tg := 10) rfl (Cont.nM (T := 185) (Bt (y := y) (fl := aR y (nth c8)) (f := ju))) ?_
 refine qK (c0 := 10) (tg := 23) 4 rfl rfl ?_
 refine qK (c0 := 10) (tg := 31) 5 rfl rfl ?_
 refine jk (tg := 10) rfl (Cont.kF (l' := sV y 23 31 (aR y (nth c8)).length (aR y (nth c8)).length) ⟨Ty.aF _, Ty.aF _, Ty.aF _, Ty.aF _, Ty.Ae rfl, Ty.Ae (Dr _), trivial⟩) ?_
 refine jI (tg := 10) [] [(6, Cont.cells 152 [Ty.pp (sV y 23 31 (aR y (nth c8)).length (aR y (nth c8)).length)])] (by decide) rfl trivial ⟨fM rfl rfl ⟨AH rfl rfl (by decide), trivial⟩, trivial⟩ ?_
 refine jI (tg := 23) [] [(6, Cont.cells 152 [Ty.pp (eI y (aR y (nth c8)) 31 (aR y (nth c8)).length)])] (by decide) rfl trivial ⟨fM rfl rfl ⟨Ch ⟨bK rfl, bK rfl, bK rfl, bK rfl, jc rfl rfl (by decide), bK rfl, trivial⟩, trivial⟩, trivial⟩ ?_
 refine aA ?_
 refine aZ rfl rfl (by decide) rfl rfl rfl ?_
 refine L8 rfl (aD (aC (az (K7 rfl ?_))))
 refine iq [31] rfl rfl (by decide) (by repeat (first | exact gS | refine eG rfl (bp (by decide) rfl) ?_)) ?_
 all_goals skip
 all_goals exact iR (fJ (aN (aN (aN (aN (aN (aN bX (dg (by decide))) (aU rfl rfl)) (aU rfl rfl)) (aU rfl rfl)) (aU rfl rfl)) (aU rfl rfl)))
end Go.Proofs.YtelbollidfdcjaaGreat
namespace Go.Proofs.YtelbollidfdcjaaGreat
open Go Go.T
theorem Ow : Tryz.prog.underlying 180 = some (.array 8 4) := by kernel_rfl
theorem O0 (a0 a1 a2 a3 a4 a5 a6 a7 b0 b1 b2 b3 b4 b5 b6 b7 : Bool) (w : World) : (Op.equal 180 (.agg #[.bool a0, .bool a1, .bool a2, .bool a3, .bool a4, .bool a5, .bool a6, .bool a7]) (.agg #[.bool b0, .bool b1, .bool b2, .bool b3, .bool b4, .bool b5, .bool b6, .bool b7])).run Tryz.prog w = .ok ((decide (a0 = b0) && (decide (a1 = b1) && (decide (a2 = b2) && (decide (a3 = b3) && (decide (a4 = b4) && (decide (a5 = b5) && (decide (a6 = b6) && decide (a7 = b7))))))))) w := by
 have hs : Tryz.prog.stoodInHeld 180 = false := by kernel_rfl
 have e4 : ∀ (x y : Bool) (w : World), (Op.equalIn 9999 4 (.bool x) (.bool y)).run Tryz.prog w = .ok (decide (x = y)) w := fun x y w => by
  rw [Op.equalIn]
  simp only [Sem.run_bind, run_underlying Tryz.underlying4, Result.andThen_ok]
  rfl
 have g4 : ∀ w, (isAgg 4).run Tryz.prog w = .ok false w := fun w => by simp [isAgg, run_underlying Tryz.underlying4]
 unfold Op.equal Op.maxDepth
 rw [Op.equalIn]
 simp only [Sem.run_bind, run_underlying Ow, Result.andThen_ok]
 simp [hs, part, g4, e4]
 rw [show List.range' 0 8 = [0, 1, 2, 3, 4, 5, 6, 7] from rfl]
 simp [List.forIn_cons, g4, e4]
 by_cases h0 : a0 = b0
 case neg => simp [h0]
 rw [if_pos h0]
 by_cases h1 : a1 = b1
 case neg => simp [h1]
 rw [if_pos h1]
 by_cases h2 : a2 = b2
 case neg => simp [h2]
 rw [if_pos h2]
 by_cases h3 : a3 = b3
 case neg => simp [h3]
 rw [if_pos h3]
 by_cases h4 : a4 = b4
 case neg => simp [h4]
 rw [if_pos h4]
 by_cases h5 : a5 = b5
 case neg => simp [h5]
 rw [if_pos h5]
 by_cases h6 : a6 = b6
 case neg => simp [h6]
 rw [if_pos h6]
 by_cases h7 : a7 = b7
 case neg => simp [h7]
 rw [if_pos h7]
 simp [h0, h1, h2, h3, h4, h5, h6, h7]
theorem Ik (xs ys : List Bool) (hx : xs.length = 8) (hy : ys.length = 8) : JX Tryz.prog 180 (xs.flatMap eZ.tys) (ys.flatMap eZ.tys) (decide (xs = ys)) := by
  match xs, ys, hx, hy with
  | [a0, a1, a2, a3, a4, a5, a6, a7], [b0, b1, b2, b3, b4, b5, b6, b7], _, _ =>
    refine ⟨by kernel_rfl, fun w M cs ds h1 h2 => ?_⟩
    obtain ⟨cs⟩ := cs
    obtain ⟨ds⟩ := ds
    match cs, ds, h1, h2 with
    | [u0, u1, u2, u3, u4, u5, u6, u7], [v0, v1, v2, v3, v4, v5, v6, v7], h1, h2 =>
      change cI w M [Ty.bool a0, Ty.bool a1, Ty.bool a2, Ty.bool a3, Ty.bool a4, Ty.bool a5, Ty.bool a6, Ty.bool a7] _ at h1
      change cI w M [Ty.bool b0, Ty.bool b1, Ty.bool b2, Ty.bool b3, Ty.bool b4, Ty.bool b5, Ty.bool b6, Ty.bool b7] _ at h2
      obtain ⟨e0, e1, e2, e3, e4, e5, e6, e7, _⟩ := h1
      obtain ⟨f0, f1, f2, f3, f4, f5, f6, f7, _⟩ := h2
      cases e0; cases e1; cases e2; cases e3; cases e4; cases e5; cases e6; cases e7
      cases f0; cases f1; cases f2; cases f3; cases f4; cases f5; cases f6; cases f7
      rw [O0]
      congr 1
      simp only [List.cons.injEq, and_true, Bool.decide_and]
end Go.Proofs.YtelbollidfdcjaaGreat
namespace Go.T
open Go Go.RowKit
section
variable {P : Program} {fr : Fr} {ops : Array Oper} {A : As} {rest : List Oper} {K : As → List (As × Fx) → Prop} {d : Nat} {t ty' ty2 : TypeId} {p : String} {e : Array Edge}
theorem BW {α : Type} [Inhabited α] {E : El α} {xs ys : List α} {x y : Operand} {c : Bool} (hE : JX P ty' (xs.flatMap E.tys) (ys.flatMap E.tys) c) (hx : A.op fr x = .arr E xs) (hy : A.op fr y = .arr E ys)
 (h : bA P fr ops rest (A.set d (.bool (!c))) fun A' l' => K A' ((A, { d := some d, ty := .bool (!c), rs := cJ x ++ cJ y }) :: l')) : bA P fr ops (⟨some d, .binOp .neq ty' x y ty2, t, p, e, none⟩ :: rest) A K :=
 bJ (bT rfl rfl fun a w M _ hrd _ => by
  have _ := (inferInstance : Inhabited α)
  obtain ⟨hdx, hdy⟩ := op2 hrd
  rw [hx] at hdx; rw [hy] at hdy
  obtain ⟨cs, ex, h1⟩ := hdx
  obtain ⟨ds, ey, h2⟩ := hdy
  exact ⟨.bool (!c), by simp only [execOp, ex, ey]; simp [eqGuard, hE.1, binOp, hE.2 w M cs ds h1 h2], rfl⟩) h
end
end Go.T
namespace Go.Proofs.YtelbollidfdcjaaGreat
open Go Go.T
set_option maxHeartbeats 16000000
def KM (l : List Int) (x : Int) : Int := fidx (fun y => decide (x = y)) l
theorem BH (l : List Int) (x : Int) : decide (KM l x ≥ 0) = decide (x ∈ l) := by
 unfold KM
 rw [oD]
 rw [Bool.eq_iff_iff]; simp
def ia (l : List Int) (o : Bool) (i : Nat) : Bool := !(decide ((i : Int) ∈ l) == o)
def iF (l : List Int) (o : Bool) (k : Nat) : List Bool := (List.range k).map (ia l o) ++ List.replicate (8 - k) false
def bH (l : List Int) (o : Bool) : List Bool := (List.range 8).map (ia l o)
noncomputable def b8 (y : au) (c : List Bool) : Bool := !(cU (aR y (nth c)) (y.cells + 1) (gz (aR y (nth c)))).2.1
section
variable {y : au} {l : List Int} {o : Bool} {k : Nat}
theorem AT (h : k ≤ 8) : (iF l o k).length = 8 := by unfold iF; rw [List.length_append, List.length_map, List.length_range, List.length_replicate]; omega
theorem ET : (bH l o).length = 8 := by unfold bH; rw [List.length_map, List.length_range]
theorem ya : List.replicate 8 false = iF l o 0 := rfl
theorem Aw : iF l o 8 = bH l o := List.append_nil _
theorem yX (h : k < 8) : (iF l o k).set k (!(decide ((k : Int) ∈ l) == o)) = iF l o (k + 1) := by
 unfold iF
 have e : ((List.range k).map (ia l o)).length = k := by rw [List.length_map, List.length_range]
 rw [List.set_append_right _ _ (by omega), e, Nat.sub_self, show 8 - k = (8 - (k + 1)) + 1 by omega, List.replicate_succ, List.set_cons_zero, List.range_succ, List.map_append, List.append_assoc]; rfl
theorem Ar {xs ys : List Bool} {b : Bool} (hx : xs.length = 8) (hy : ys.length = 8) (h : decide (xs = ys) = b) : JX Tryz.prog 180 (xs.flatMap eZ.tys) (ys.flatMap eZ.tys) b := h ▸ Ik xs ys hx hy
theorem QT (h : decide (bH l o = bf) = true) (h2 : (!(cU (aR y (nth bf)) (y.cells + 1) (gz (aR y (nth bf)))).2.1) = true) : true = b8 y (bH l o) := by rw [of_decide_eq_true h]; exact h2.symm
theorem RL (h : decide (bH l o = bf) = true) (h2 : (!(cU (aR y (nth bf)) (y.cells + 1) (gz (aR y (nth bf)))).2.1) = false) : false = b8 y (bH l o) := by rw [of_decide_eq_true h]; exact h2.symm
theorem OZ (y : au) (c : List Bool) : (!(cU (aR y (nth c)) (y.cells + 1) (gz (aR y (nth c)))).2.1) = b8 y c := rfl
end
attribute [local irreducible] aR gz Way.iA Way.fin Way.room eR dz ef gW over bO cO dY eT jP fC hH j0 cU gP gA gD cw cN gY oo iS ij jD gp Bc yl iB au.kept au.cells bL eC bf gG kS cq oc ow jq jE kr mU hasB sH rF qw sj oq kM nD kG wA gQ jH IN FH rA b8 bH iF
attribute [local irreducible] gL eX lN nh gy g6 gu gw gx nj gr ni dN fX nH fu nZ nth fP dQ bA dJ bodyPost Exit.then Exit.inBlock Code.wp Code.wpIn nW g7 nY nV g8 eP cL cM bodyPostM dR
set_option maxRecDepth 100000 in
theorem Ce (l : List Int) (x : Int) : dJ Tryz.prog 140 [Ty.sl cT l, Ty.int .i64 x] (Ty.int .i64 (KM l x)) := by
 refine ak Tryz.func140 rfl (by decide) Tryz.ntmps140 (by exact Nat.le_of_ble_eq_true rfl) fun w0 M0 => ?_
 refine gJ (s := 0) rfl rfl gK fun hl => ?_
 refine aE (aA (bZ rfl (aD (aC (aE (aE (aA (eA rfl (cD rfl rfl rfl ?_)))))))))
 refine bF rfl (aD (aC (aY ?_)))
 refine b9 (fun (k : {k : Nat // ∀ y ∈ l.take k, decide (x = y) = false}) => live [(0, Ty.sl cT l), (1, Ty.int .i64 x), (7, Ty.int .i64 l.length), (8, Ty.int .i64 (k.1 : Nat))] []) (fun k => l.length - k.1) (⟨0, by simp⟩) ?_ fun k => ?_
 ·(refine cg.mk' ?_ ?_ <;> (repeat' (first | exact aI | exact aH | refine aB ?_ (Ty.aT _) | refine aB ?_ (Ty.aF _))))
 refine aE (aA (bB rfl rfl rfl (aD (aC (aE ?_)))))
 refine ah rfl (fun hc1 => ?_) (fun hc1 => ?_)
 ·
  refine aj (aC (aE (aY (aE (aA (bF rfl (bZ rfl (aD (aC ?_)))))))))
  refine aE (aA (bF rfl (eA rfl (bF rfl ?_))))
  refine aq rfl rfl rfl rfl rfl rfl (by omega) ?_
  refine aJ rfl rfl rfl rfl (bB rfl rfl rfl (aD (aC ?_)))
  refine ah rfl (fun hc2 => ?_) (fun hc2 => ?_)
  ·
   refine aE (aA (bF rfl (bZ rfl (aD (aC (az (ay (aQ (aQ ?_)))))))))
   refine ay (aQ (bR rfl rfl ?_))
   all_goals skip
   exact av rfl rfl (congrArg (Ty.int .i64) (by unfold KM; rw [hU (k := k.1) (by omega) k.2 (by rw [← fk]; exact decide_eq_true hc2)]))
  refine aj (bI (aC (aA ?_)))
  refine bq rfl rfl (by omega) (by omega) ?_
  refine bF rfl (aD ?_)
  refine bM (⟨k.1 + 1, by rw [cQ (by omega)]; intro y hy; rcases List.mem_append.1 hy with h | h; exact k.2 y h; rw [List.mem_singleton.1 h]; exact decide_eq_false hc2⟩) ?_ (by show l.length - (k.1 + 1) < l.length - k.1; omega)
  (refine cg.mk' ?_ ?_ <;> (repeat' (first | exact aI | exact aH | refine aB ?_ (Ty.aT _) | refine aB ?_ (Ty.aF _))))
  all_goals skip
 refine bz (aP (aP (aa rfl (aC (aE (aA (bZ rfl (aD (aC ?_)))))))))
 refine az (bR rfl rfl ?_)
 all_goals skip
 exact av rfl rfl (congrArg (Ty.int .i64) (by unfold KM; rw [iU (by have := k.2; rwa [List.take_of_length_le (by omega)] at this)]))
set_option maxRecDepth 100000 in
theorem pW (l : List Int) (x : Int) : dJ Tryz.prog 65 [Ty.sl cT l, Ty.int .i64 x] (Ty.bool (decide (x ∈ l))) := by
 refine ak Tryz.func65 rfl (by decide) Tryz.ntmps65 (by exact Nat.le_of_ble_eq_true rfl) fun w0 M0 => ?_
 refine aE (aA (cm rfl (aD (aC (aE (aA (eA rfl (bF rfl (af (Ce l x) rfl rfl rfl rfl rfl ?_)))))))))
 refine bB rfl rfl rfl (cm rfl (aD (aC (az (bR rfl rfl ?_)))))
 all_goals skip
 exact av rfl rfl (congrArg Ty.bool (BH l x))
set_option maxRecDepth 100000 in
theorem xM (y : au) (hr : y.bt) (l : List Int) (o : Bool) : dJ Tryz.prog 112 [dr y, Ty.sl cT l, Ty.bool o] (Ty.bool (b8 y (bH l o))) := by
 refine ak Tryz.func112 rfl (by decide) Tryz.ntmps112 (by exact Nat.le_of_ble_eq_true rfl) fun w0 M0 => ?_
 refine aE (aA (bD rfl (cm rfl (aD (aC (aE (aA ?_)))))))
 refine Da (E := eZ) (xs := List.replicate 8 false) rfl (by exact List.cons_ne_nil _ _) rfl rfl ?_
 refine aD (aC (aE (aE (aA (bF rfl (aD (aC (aY ?_))))))))
 refine b9 (fun (k : {k : Nat // k ≤ 8}) => live [(1, Ty.sl cT l), (2, Ty.bool o), (3, Ty.pp (bE y)), (7, Ty.ptr 8 0), (9, Ty.int .i64 (k.1 : Nat))] [(8, Cont.vec eZ 180 (iF l o k.1))]) (fun k => 8 - k.1) (⟨0, by omega⟩) ?_ fun k => ?_
 ·(refine cg.mk' ?_ ?_ <;> (repeat' (first | exact aI | exact aH | refine aB ?_ (Ty.aT _) | refine aB ?_ (Ty.aF _) | refine aG rfl ?_ ?_)))
  all_goals exact Cont.cy ya
 have hkl := AT (l := l) (o := o) k.2
 refine aE (aA (bB rfl rfl rfl (aD (aC (aE ?_)))))
 refine ah rfl (fun hc1 => ?_) (fun hc1 => ?_)
 ·
  refine aj (aC (aE (aY (aE (aA (bF rfl (bZ rfl (aD (aC ?_)))))))))
  refine aA (bF rfl (eA rfl (bF rfl (af (pW _ _) rfl rfl rfl rfl rfl (eO rfl (FY PO rfl rfl ?_))))))
  refine tH (n := 8) rfl rfl rfl rfl rfl (by omega) (by omega) ?_
  refine sW rfl rfl rfl (by decide) rfl rfl (by exact (rfl : _ = Ty.bool _)) rfl (by omega) (by decide) rfl rfl ?_
  refine aD (bI (aC (aA ?_)))
  refine bq rfl rfl (by omega) (by omega) ?_
  refine bF rfl (aD ?_)
  refine bM (⟨k.1 + 1, by omega⟩) ?_ (by show 8 - (k.1 + 1) < 8 - k.1; omega)
  (refine cg.mk' ?_ ?_ <;> (repeat' (first | exact aI | exact aH | refine aB ?_ (Ty.aT _) | refine aB ?_ (Ty.aF _) | refine aG rfl ?_ ?_)))
  all_goals skip
  all_goals exact Cont.cy (yX (by omega))
 refine bz (aP (aP (aa rfl (aC (aE ?_)))))
 obtain ⟨k, hk⟩ := k
 obtain rfl : k = 8 := by have h1 : ¬ (k : Int) < 8 := hc1; have h2 : k ≤ 8 := hk; omega
 refine jk (tg := 8) rfl (Cont.cy Aw) ?_
 have hcl : (bH l o).length = 8 := ET
 refine cP mixed rfl ?_
 refine iO rfl rfl (by decide) rfl rfl (by rw [hcl]; rfl) (fun e => by rw [e] at hcl; cases hcl) ?_
 refine af (tL) rfl rfl rfl rfl rfl (Pg (Ik _ _ hcl jo) rfl rfl ?_)
 cases hsp : (decide ((bH l o) = bf))
 ·
  refine eO rfl (nE rfl rfl rfl rfl (nE rfl rfl rfl rfl (nE rfl rfl rfl rfl (nE rfl rfl rfl rfl (Eu rfl ?_)))))
  cases hsp : (!(cU (aR y (nth bf)) (y.cells + 1) (gz (aR y (nth bf)))).2.1)
  ·
   refine eO rfl ?_
   (refine kJ rfl rfl rfl (by apply aO; (refine iO rfl rfl (by decide) rfl rfl (by rw [hcl]; rfl) (fun e => by rw [e] at hcl; cases hcl) ?_); refine aD ?_; exact rfl) ?_)
   (refine kJ rfl rfl rfl (by apply aO; (refine af (tL) rfl rfl rfl rfl rfl ?_); refine aD ?_; exact rfl) ?_)
   (refine kJ rfl rfl rfl (by apply aO; (refine BW (Ar hcl jo (by assumption)) rfl rfl ?_); refine aD ?_; exact rfl) ?_)
   (refine kJ rfl rfl rfl (by apply aO; (refine eO rfl ?_); refine aD ?_; exact rfl) ?_)
   (refine kJ rfl rfl rfl (by apply aO; (refine aX rfl rfl rfl (by exact Nat.le_of_ble_eq_true rfl) ?_); refine aD ?_; exact rfl) ?_)
   (refine kJ rfl rfl rfl (by apply aO; (refine iO rfl rfl (by decide) rfl rfl (by rw [hcl]; rfl) (fun e => by rw [e] at hcl; cases hcl) ?_); refine aD ?_; exact rfl) ?_)
   (refine kJ rfl rfl rfl (by apply aO; (refine dL (res' := Ty.pp (eI y (aR y (nth (bH l o))) 1000 (aR y (nth (bH l o))).length)) [(1000, 31)] [1000] [(1000, Cont.vec cT 3 (gz (aR y (nth (bH l o)))))] (uK y hr (bH l o) hcl) rfl rfl (aN (aN bX (aU rfl rfl)) (aU rfl rfl)) pre_nil (bk (a := 1000) (b := 31) (by decide) rfl (bp (by decide) rfl) post_nil) (fJ (aN (aN (aN (aN (aN (aN bX (dg (by decide))) (aU rfl rfl)) (aU rfl rfl)) (aU rfl rfl)) (aU rfl rfl)) (aU rfl rfl))) ?_); refine aD ?_; exact rfl) ?_)
   (refine kJ rfl rfl rfl (by apply aO; (refine dL [(1000, 1000)] [] [(1000, Cont.vec cT 3 (cU (aR y (nth (bH l o))) (y.cells + 1) (gz (aR y (nth (bH l o))))).2.2)] (nT y (aR y (nth (bH l o))) (gz (aR y (nth (bH l o)))) (lz hr)) rfl rfl (aN bX (fJ (aN (aN (aN (aN (aN (aN bX (dg (by exact List.mem_cons_self))) (aU rfl rfl)) (aU rfl rfl)) (aU rfl rfl)) (aU rfl rfl)) (aU rfl rfl)))) (dA (a := 1000) (b := 1000) (by exact List.mem_cons_self) rfl (bp (by exact List.mem_cons_self) rfl) pre_nil) (bk (a := 1000) (b := 1000) (by decide) rfl (bp (by decide) rfl) post_nil) (aU rfl rfl) ?_); refine aD ?_; exact rfl) ?_)
   (refine kJ rfl rfl rfl (by apply aO; (refine Am rfl rfl ?_); refine aD ?_; exact rfl) ?_)
   refine Aj rfl rfl (cm rfl (aD ?_))
   refine ⟨by kernel_rfl, ?_⟩
   refine aC (az (bR rfl rfl ?_))
   all_goals skip
   all_goals exact av rfl rfl (congrArg Ty.bool (OZ y _))
  refine eO rfl ?_
  (refine kJ rfl rfl rfl (by apply aO; (refine iO rfl rfl (by decide) rfl rfl (by rw [hcl]; rfl) (fun e => by rw [e] at hcl; cases hcl) ?_); refine aD ?_; exact rfl) ?_)
  (refine kJ rfl rfl rfl (by apply aO; (refine af (tL) rfl rfl rfl rfl rfl ?_); refine aD ?_; exact rfl) ?_)
  (refine kJ rfl rfl rfl (by apply aO; (refine BW (Ar hcl jo (by assumption)) rfl rfl ?_); refine aD ?_; exact rfl) ?_)
  (refine kJ rfl rfl rfl (by apply aO; (refine eO rfl ?_); refine aD ?_; exact rfl) ?_)
  (refine kJ rfl rfl rfl (by apply aO; (refine aX rfl rfl rfl (by exact Nat.le_of_ble_eq_true rfl) ?_); refine aD ?_; exact rfl) ?_)
  (refine kJ rfl rfl rfl (by apply aO; (refine iO rfl rfl (by decide) rfl rfl (by rw [hcl]; rfl) (fun e => by rw [e] at hcl; cases hcl) ?_); refine aD ?_; exact rfl) ?_)
  (refine kJ rfl rfl rfl (by apply aO; (refine dL (res' := Ty.pp (eI y (aR y (nth (bH l o))) 1000 (aR y (nth (bH l o))).length)) [(1000, 31)] [1000] [(1000, Cont.vec cT 3 (gz (aR y (nth (bH l o)))))] (uK y hr (bH l o) hcl) rfl rfl (aN (aN bX (aU rfl rfl)) (aU rfl rfl)) pre_nil (bk (a := 1000) (b := 31) (by decide) rfl (bp (by decide) rfl) post_nil) (fJ (aN (aN (aN (aN (aN (aN bX (dg (by decide))) (aU rfl rfl)) (aU rfl rfl)) (aU rfl rfl)) (aU rfl rfl)) (aU rfl rfl))) ?_); refine aD ?_; exact rfl) ?_)
  (refine kJ rfl rfl rfl (by apply aO; (refine dL [(1000, 1000)] [] [(1000, Cont.vec cT 3 (cU (aR y (nth (bH l o))) (y.cells + 1) (gz (aR y (nth (bH l o))))).2.2)] (nT y (aR y (nth (bH l o))) (gz (aR y (nth (bH l o)))) (lz hr)) rfl rfl (aN bX (fJ (aN (aN (aN (aN (aN (aN bX (dg (by exact List.mem_cons_self))) (aU rfl rfl)) (aU rfl rfl)) (aU rfl rfl)) (aU rfl rfl)) (aU rfl rfl)))) (dA (a := 1000) (b := 1000) (by exact List.mem_cons_self) rfl (bp (by exact List.mem_cons_self) rfl) pre_nil) (bk (a := 1000) (b := 1000) (by decide) rfl (bp (by decide) rfl) post_nil) (aU rfl rfl) ?_); refine aD ?_; exact rfl) ?_)
  (refine kJ rfl rfl rfl (by apply aO; (refine Am rfl rfl ?_); refine aD ?_; exact rfl) ?_)
  refine Aj rfl rfl (cm rfl (aD ?_))
  refine ⟨by kernel_rfl, ?_⟩
  refine aC (az (bR rfl rfl ?_))
  all_goals skip
  all_goals exact av rfl rfl (congrArg Ty.bool (OZ y _))
 refine eO rfl ?_
 (refine kJ rfl rfl rfl (by apply aO; (refine aX rfl rfl rfl (by exact Nat.le_of_ble_eq_true rfl) ?_); refine aD ?_; exact rfl) ?_)
 (refine kJ rfl rfl rfl (by apply aO; (refine af (tL) rfl rfl rfl rfl rfl ?_); refine aD ?_; exact rfl) ?_)
 (refine kJ rfl rfl rfl (by apply aO; (refine dL (res' := Ty.pp (eI y (aR y (nth bf)) 1000 (aR y (nth bf)).length)) [(1000, 31)] [1000] [(1000, Cont.vec cT 3 (gz (aR y (nth bf))))] (uK y hr bf jo) rfl rfl (aN (aN bX (aU rfl rfl)) (aU rfl rfl)) pre_nil (bk (a := 1000) (b := 31) (by decide) rfl (bp (by decide) rfl) post_nil) (fJ (aN (aN (aN (aN (aN (aN bX (dg (by decide))) (aU rfl rfl)) (aU rfl rfl)) (aU rfl rfl)) (aU rfl rfl)) (aU rfl rfl))) ?_); refine aD ?_; exact rfl) ?_)
 (refine kJ rfl rfl rfl (by apply aO; (refine dL [(1000, 1000)] [] [(1000, Cont.vec cT 3 (cU (aR y (nth bf)) (y.cells + 1) (gz (aR y (nth bf)))).2.2)] (nT y (aR y (nth bf)) (gz (aR y (nth bf))) (lz hr)) rfl rfl (aN bX (fJ (aN (aN (aN (aN (aN (aN bX (dg (by exact List.mem_cons_self))) (aU rfl rfl)) (aU rfl rfl)) (aU rfl rfl)) (aU rfl rfl)) (aU rfl rfl)))) (dA (a := 1000) (b := 1000) (by exact List.mem_cons_self) rfl (bp (by exact List.mem_cons_self) rfl) pre_nil) (bk (a := 1000) (b := 1000) (by decide) rfl (bp (by decide) rfl) post_nil) (aU rfl rfl) ?_); refine aD ?_; exact rfl) ?_)
 refine Am rfl rfl ?_
 cases hsp : (!(cU (aR y (nth bf)) (y.cells + 1) (gz (aR y (nth bf)))).2.1)
 ·
  refine eO rfl ?_
  (refine kJ rfl rfl rfl (by apply aO; (refine iO rfl rfl (by decide) rfl rfl (by rw [hcl]; rfl) (fun e => by rw [e] at hcl; cases hcl) ?_); refine aD ?_; exact rfl) ?_)
  (refine kJ rfl rfl rfl (by apply aO; (refine af (tL) rfl rfl rfl rfl rfl ?_); refine aD ?_; exact rfl) ?_)
  (refine kJ rfl rfl rfl (by apply aO; (refine BW (Ar hcl jo (by assumption)) rfl rfl ?_); refine aD ?_; exact rfl) ?_)
  (refine kJ rfl rfl rfl (by apply aO; (refine eO rfl ?_); refine aD ?_; exact rfl) ?_)
  refine nE rfl rfl rfl rfl (nE rfl rfl rfl rfl (nE rfl rfl rfl rfl (nE rfl rfl rfl rfl ?_)))
  (refine kJ rfl rfl rfl (by apply aO; (refine Eu rfl ?_); refine aD ?_; exact rfl) ?_)
  refine Aj rfl rfl (cm rfl (aD ?_))
  refine ⟨by kernel_rfl, ?_⟩
  refine aC (az (bR rfl rfl ?_))
  all_goals skip
  all_goals exact av rfl rfl (congrArg Ty.bool (RL (by assumption) (by assumption)))
 refine eO rfl (nE rfl rfl rfl rfl (nE rfl rfl rfl rfl (nE rfl rfl rfl rfl (nE rfl rfl rfl rfl (AW rfl rfl rfl (AW rfl rfl rfl (AW rfl rfl rfl (AW rfl rfl rfl (nE rfl rfl rfl rfl ?_)))))))))
 refine MR rfl (cm rfl (aD ?_))
 refine ⟨by kernel_rfl, ?_⟩
 refine aC (az (bR rfl rfl ?_))
 all_goals skip
 all_goals exact av rfl rfl (congrArg Ty.bool (QT (by assumption) (by assumption)))
end Go.Proofs.YtelbollidfdcjaaGreat
namespace Go.Proofs.YtelbollidfdcjaaGreat
open Go Go.T
set_option maxHeartbeats 16000000
def Bb (y : au) (i : Int) : Bool := decide (i ≥ 0) && decide (i ≤ (y.levels.length : Int) - 1)
def q8 (y : au) (l : List Int) : Int := if bL y = 0 then (if (l.all (Bb y)) = true then (if l.Nodup then 0 else 5) else 1) else bL y
noncomputable def xG (y : au) (l : List Int) : Bool := if q8 y l = 0 then b8 y (bH l false) else false
section
variable {y : au} {l : List Int} {i : Nat}
theorem xw {α : Type} {l : List α} {x : α} (h : l.Nodup) (hx : x ∉ l) : (l ++ [x]).Nodup := by
 rw [List.nodup_append]
 refine ⟨h, List.nodup_cons.2 ⟨List.not_mem_nil, List.nodup_nil⟩, fun a ha b hb e => ?_⟩
 rw [List.mem_singleton] at hb
 subst hb; subst e; exact hx ha
theorem qb (h : (l.take i).Nodup) (hi : l.length ≤ i) : l.Nodup := by rwa [List.take_of_length_le hi] at h
theorem xu (h : (l.take i).Nodup) (hi : i < l.length) (hx : ¬ nth l i ∈ l.take i) : (l.take (i + 1)).Nodup := by rw [cQ hi]; exact xw h hx
theorem Px (hi : i < l.length) (hx : nth l i ∈ l.take i) : ¬ l.Nodup := fun h => by
 have h1 : (l.take (i + 1)).Nodup := h.sublist (List.take_sublist _ _)
 rw [cQ hi, List.nodup_append] at h1
 exact h1.2.2 _ hx _ List.mem_cons_self rfl
theorem Py {e : Int} (h : e = q8 y l) (h0 : e ≠ 0) : false = xG y l := by unfold xG; rw [← h, if_neg h0]
theorem Nv (h : ¬ bL y = 0) : bL y = q8 y l ∧ false = xG y l := by
 have e : bL y = q8 y l := (if_neg h).symm
 exact ⟨e, Py e h⟩
theorem O9 (h : bL y = 0) (h2 : (l.all (Bb y)) = false) : 1 = q8 y l ∧ false = xG y l := by
 have e : 1 = q8 y l := by unfold q8; rw [if_pos h, if_neg (by rw [h2]; decide)]
 exact ⟨e, Py e (by decide)⟩
theorem PN (h : bL y = 0) (h2 : (l.all (Bb y)) = true) (hi : i < l.length) (h3 : nth l i ∈ l.take i) : 5 = q8 y l ∧ false = xG y l := by
 have e : 5 = q8 y l := by unfold q8; rw [if_pos h, if_pos h2, if_neg (Px hi h3)]
 exact ⟨e, Py e (by decide)⟩
theorem MH (h : bL y = 0) (h2 : (l.all (Bb y)) = true) (h3 : l.Nodup) : 0 = q8 y l ∧ b8 y (bH l false) = xG y l := by
 have e : 0 = q8 y l := by unfold q8; rw [if_pos h, if_pos h2, if_pos h3]
 exact ⟨e, by unfold xG; rw [← e]; rfl⟩
end
attribute [local irreducible] aR gz Way.iA Way.fin Way.room eR dz ef gW over bO cO dY eT jP fC hH j0 cU gP gA gD cw cN gY oo iS ij jD gp Bc yl iB au.kept au.cells bL eC bf gG kS cq oc ow jq jE kr mU hasB sH rF qw sj oq kM nD kG wA gQ jH IN FH rA b8 bH iF Bb q8 xG
attribute [local irreducible] gL eX lN nh gy g6 gu gw gx nj gr ni dN fX nH fu nZ nth fP dQ bA dJ bodyPost Exit.then Exit.inBlock Code.wp Code.wpIn nW g7 nY nV g8 eP cL cM bodyPostM dR
set_option maxRecDepth 100000 in
theorem Ie (y : au) (hs : y.Small) (i : Int) : dJ Tryz.prog 110 [Ty.int .i64 i, Ty.pp (bE y)] (Ty.bool (Bb y i)) := by
 refine ak Tryz.func110 rfl (by decide) Tryz.ntmps110 (by exact Nat.le_of_ble_eq_true rfl) fun w0 M0 => ?_
 have h3 := hs.levels
 refine aE (aA (cm rfl (aD (aC (aE (aA (bF rfl ?_)))))))
 refine aL rfl rfl rfl rfl rfl (by decide) ?_
 refine aJ rfl rfl rfl rfl (cD rfl rfl rfl ?_)
 refine gH rfl rfl (by omega) (by omega) ?_
 refine af (uN _ _ _) rfl rfl rfl rfl rfl (cm rfl (aD (aC (az (bR rfl rfl ?_)))))
 all_goals skip
 all_goals exact av rfl rfl (congrArg Ty.bool (by unfold Bb; rfl))
set_option maxRecDepth 100000 in
theorem Mq (y : au) (hs : y.Small) (l : List Int) : dJ Tryz.prog 43 [dr y, Ty.sl cT l] (Ty.j8 [Ty.bool (xG y l), Ty.int .i64 (q8 y l)]) := by
 refine ak Tryz.func43 rfl (by decide) Tryz.ntmps43 (by exact Nat.le_of_ble_eq_true rfl) fun w0 M0 => ?_
 refine gJ (s := 1) rfl rfl gK fun hl => ?_
 refine aE (aA (bD rfl (cm rfl (bZ rfl (aD (aC (aE (aA ?_))))))))
 refine aX rfl rfl rfl (by exact Nat.le_of_ble_eq_true rfl) ?_
 refine af (kW y hs) rfl rfl rfl rfl rfl (bZ rfl (aD (aC (aE (aY (aE (aA (bF rfl (bB rfl rfl rfl ?_)))))))))
 refine cm rfl (aD (aC ?_))
 refine cx rfl (fun hc1 => ?_) (fun hc1 => ?_)
 ·
  refine aE (aA (bF rfl (cm rfl (bZ rfl (aD (aC (az (ay (aQ ?_)))))))))
  refine fG rfl rfl rfl ?_ ?_
  all_goals skip
  all_goals first | exact av rfl rfl (congrArg (Ty.int .i64) (Nv hc1).1) | exact av rfl rfl (congrArg Ty.bool (Nv hc1).2)
 refine aE ?_
 have hck : bL y = 0 := hc1
 have hr := dD hck
 refine aA (eA rfl (dK rfl ?_))
 refine af (DV l (Ty.jw 110 [Ty.pp (bE y)]) rfl (Bb y) rfl rfl fun c _ => dU (Ie y hs c) rfl rfl rfl rfl rfl rfl) rfl rfl rfl rfl rfl ?_
 refine dm rfl (cm rfl (aD (aC ?_)))
 refine cH rfl (fun hc2 => ?_) (fun hc2 => ?_)
 ·
  refine aE (aA (cm rfl (bZ rfl (aD (aC (az (ay (aQ ?_))))))))
  refine fG rfl rfl rfl ?_ ?_
  all_goals skip
  all_goals first | exact av rfl rfl (congrArg (Ty.int .i64) (O9 hc1 (l9 hc2)).1) | exact av rfl rfl (congrArg Ty.bool (O9 hc1 (l9 hc2)).2)
 refine aj (bI (aC (aE (aE ?_))))
 have hall : (l.all (Bb y)) = true := ew hc2
 refine aA (eA rfl (cD rfl rfl rfl (bF rfl (aD (aC (aY ?_))))))
 refine b9 (fun (i : {i : Nat // i ≤ l.length ∧ (l.take i).Nodup}) => live [(1, Ty.sl cT l), (2, Ty.pp (bE y)), (20, Ty.sl cT l), (21, Ty.int .i64 l.length), (22, Ty.int .i64 (i.1 : Nat))] []) (fun i => l.length - i.1) (⟨0, Nat.zero_le _, List.nodup_nil⟩) ?_ fun i => ?_
 ·(refine cg.mk' ?_ ?_ <;> (repeat' (first | exact aI | exact aH | refine aB ?_ (Ty.aT _) | refine aB ?_ (Ty.aF _))))
 have hi1 := i.2.1
 refine aE (aA (bB rfl rfl rfl (aD (aC (aE ?_)))))
 refine ah rfl (fun hc3 => ?_) (fun hc3 => ?_)
 ·
  refine aj (aC (aE (aY (aE (aA (bF rfl ?_))))))
  refine aq rfl rfl rfl rfl rfl rfl (by omega) ?_
  refine aJ rfl rfl rfl rfl (bZ rfl (bZ rfl (aD (aC (aE (aA (eA rfl (bF rfl ?_))))))))
  refine CZ rfl rfl rfl rfl rfl rfl (by omega) ?_
  refine bF rfl (af (pW _ _) rfl rfl rfl rfl rfl (aD (aC ?_)))
  refine ah rfl (fun hc4 => ?_) (fun hc4 => ?_)
  ·
   refine aE (aA (cm rfl (bZ rfl (aD (aC (az (ay (aQ (aQ ?_)))))))))
   refine ay (aQ ?_)
   refine fG rfl rfl rfl ?_ ?_
   all_goals skip
   all_goals first | exact av rfl rfl (congrArg (Ty.int .i64) (PN hc1 hall (by omega) hc4).1) | exact av rfl rfl (congrArg Ty.bool (PN hc1 hall (by omega) hc4).2)
  refine aj (bI (aC (aA ?_)))
  refine bq rfl rfl (by omega) (by omega) ?_
  refine bF rfl (aD ?_)
  refine bM (⟨i.1 + 1, by omega, xu i.2.2 (by omega) hc4⟩) ?_ (by show l.length - (i.1 + 1) < l.length - i.1; omega)
  (refine cg.mk' ?_ ?_ <;> (repeat' (first | exact aI | exact aH | refine aB ?_ (Ty.aT _) | refine aB ?_ (Ty.aF _))))
  all_goals skip
 refine bz (aP (aP (aa rfl (aC (aE (aA ?_))))))
 refine aX rfl rfl rfl (by exact Nat.le_of_ble_eq_true rfl) ?_
 refine eA rfl (af (xM y hr l false) rfl rfl rfl rfl rfl (cm rfl (bZ rfl (aD (aC (az ?_))))))
 refine fG rfl rfl rfl ?_ ?_
 all_goals skip
 all_goals first | exact av rfl rfl (congrArg (Ty.int .i64) (MH hc1 hall (qb i.2.2 (by have := i.2.1; omega))).1) | exact av rfl rfl (congrArg Ty.bool (MH hc1 hall (qb i.2.2 (by have := i.2.1; omega))).2)
end Go.Proofs.YtelbollidfdcjaaGreat
namespace Go.Proofs.YtelbollidfdcjaaGreat
open Go Go.T
def mZ (h : List Int → Bool) (many : Nat) : Nat → List Int → Nat → List Int → Bool × List Int
  | 0, _, _, o => (false, o)
  | d + 1, l, i, o =>
    if (if (l ++ [(i : Int)]).length = many then (h (l ++ [(i : Int)]), l ++ [(i : Int)]) else mZ h many d (l ++ [(i : Int)]) (i + 1) o).1 = true then (if (l ++ [(i : Int)]).length = many then (h (l ++ [(i : Int)]), l ++ [(i : Int)]) else mZ h many d (l ++ [(i : Int)]) (i + 1) o)
    else mZ h many d l (i + 1) (if (l ++ [(i : Int)]).length = many then (h (l ++ [(i : Int)]), l ++ [(i : Int)]) else mZ h many d (l ++ [(i : Int)]) (i + 1) o).2
def uh (h : List Int → Bool) (many lim : Nat) (l : List Int) (i : Nat) (o : List Int) : Bool × List Int := if l.length = many then (h l, l) else mZ h many (lim - i) l i o
def tw (many : Nat) : Nat → List Int → Nat → List (List Int)
  | 0, _, _ => []
  | d + 1, l, i => (if (l ++ [(i : Int)]).length = many then [l ++ [(i : Int)]] else tw many d (l ++ [(i : Int)]) (i + 1)) ++ tw many d l (i + 1)
def tR (many lim : Nat) : List (List Int) := if many = 0 then [[]] else tw many lim [] 0
def fE (h : List Int → Bool) (lim : Nat) : Option (List Int) := ((List.range (lim + 1)).flatMap fun k => tR k lim).find? h
section
variable {h : List Int → Bool} {many lim d i k : Nat} {l o : List Int}
theorem B4 (hi : i < lim) : mZ h many (lim - i) l i o = if (uh h many lim (l ++ [(i : Int)]) (i + 1) o).1 = true then uh h many lim (l ++ [(i : Int)]) (i + 1) o else mZ h many (lim - (i + 1)) l (i + 1) (uh h many lim (l ++ [(i : Int)]) (i + 1) o).2 := by
 rw [show lim - i = (lim - (i + 1)) + 1 by omega]; rfl
theorem Na (hi : ¬ i < lim) : mZ h many (lim - i) l i o = (false, o) := by rw [show lim - i = 0 by omega]; rfl
theorem go_eq (e : l.length = many) : uh h many lim l i o = (h l, l) := if_pos e
theorem OX (e : ¬ l.length = many) : uh h many lim l i o = mZ h many (lim - i) l i o := if_neg e
theorem BC : ∀ (d : Nat) (l : List Int) (i : Nat) (o : List Int), (mZ h many d l i o).1 = (tw many d l i).any h ∧ ((mZ h many d l i o).1 = true → (tw many d l i).find? h = some (mZ h many d l i o).2)
  | 0, _, _, _ => ⟨rfl, fun e => by cases e⟩
  | d + 1, l, i, o => by
    have key : ∀ o, (if (l ++ [(i : Int)]).length = many then (h (l ++ [(i : Int)]), l ++ [(i : Int)]) else mZ h many d (l ++ [(i : Int)]) (i + 1) o).1 = (if (l ++ [(i : Int)]).length = many then [l ++ [(i : Int)]] else tw many d (l ++ [(i : Int)]) (i + 1)).any h ∧ ((if (l ++ [(i : Int)]).length = many then (h (l ++ [(i : Int)]), l ++ [(i : Int)]) else mZ h many d (l ++ [(i : Int)]) (i + 1) o).1 = true → (if (l ++ [(i : Int)]).length = many then [l ++ [(i : Int)]] else tw many d (l ++ [(i : Int)]) (i + 1)).find? h = some (if (l ++ [(i : Int)]).length = many then (h (l ++ [(i : Int)]), l ++ [(i : Int)]) else mZ h many d (l ++ [(i : Int)]) (i + 1) o).2) := by
      intro o
      by_cases e : (l ++ [(i : Int)]).length = many
      · rw [if_pos e, if_pos e]
        refine ⟨by simp, fun h1 => ?_⟩
        have h1 : h (l ++ [(i : Int)]) = true := h1
        rw [List.find?_cons, h1]
      · rw [if_neg e, if_neg e]
        exact BC d _ _ o
    unfold mZ tw
    generalize (if (l ++ [(i : Int)]).length = many then [l ++ [(i : Int)]] else tw many d (l ++ [(i : Int)]) (i + 1)) = C at key ⊢
    obtain ⟨k1, k2⟩ := key o
    generalize (if (l ++ [(i : Int)]).length = many then (h (l ++ [(i : Int)]), l ++ [(i : Int)]) else mZ h many d (l ++ [(i : Int)]) (i + 1) o) = r at k1 k2 ⊢
    rw [List.any_append, List.find?_append]
    cases e : r.1 with
    | true =>
      rw [if_pos rfl]
      refine ⟨by rw [e, ← k1, e]; rfl, fun _ => by rw [k2 e]; rfl⟩
    | false =>
      rw [if_neg (by decide)]
      obtain ⟨j1, j2⟩ := BC d l (i + 1) r.2
      have hn : C.find? h = none := by
        rw [List.find?_eq_none]
        intro x hx h1
        have : C.any h = true := List.any_eq_true.2 ⟨x, hx, h1⟩
        rw [← k1, e] at this; cases this
      refine ⟨by rw [j1, ← k1, e, Bool.false_or], fun h1 => by rw [hn, j2 h1]; rfl⟩
theorem JB : (uh h many lim [] 0 o).1 = (tR many lim).any h ∧ ((uh h many lim [] 0 o).1 = true → (tR many lim).find? h = some (uh h many lim [] 0 o).2) := by
 unfold uh tR
 by_cases e : many = 0
 ·rw [if_pos (show ([] : List Int).length = many from e.symm), if_pos e]
  refine ⟨by simp, fun h1 => ?_⟩
  have h1 : h [] = true := h1
  rw [List.find?_cons, h1]
 rw [if_neg (show ¬ ([] : List Int).length = many from fun h => e h.symm), if_neg e, Nat.sub_zero]
 exact BC _ _ _ _
theorem GX {C : List (List Int)} (h1 : C.any h = false) : C.find? h = none := by
 rw [List.find?_eq_none]
 intro x hx h2
 have : C.any h = true := List.any_eq_true.2 ⟨x, hx, h2⟩
 rw [h1] at this; cases this
def rC (h : List Int → Bool) (lim k : Nat) : Prop := ((List.range k).flatMap fun k => tR k lim).find? h = none
theorem GY : rC h lim 0 := rfl
theorem Hz (h0 : rC h lim k) (h1 : (uh h k lim [] 0 []).1 = false) : rC h lim (k + 1) := by
 unfold rC at h0 ⊢
 rw [List.range_succ, List.flatMap_append, List.find?_append, h0, List.flatMap_singleton, GX (by rw [← (JB (o := [])).1, h1])]; rfl
theorem EW (h0 : rC h lim k) (hk : k = lim + 1) : fE h lim = none := by subst hk; exact h0
theorem range_split {k n : Nat} (hk : k < n) : ∃ r, List.range n = List.range k ++ k :: r := by
 refine ⟨(List.range (n - k - 1)).map (fun x => k + 1 + x), ?_⟩
 rw [show List.range n = List.range (k + (1 + (n - k - 1))) by congr 1; omega, List.range_add, List.range_add, List.map_append]
 rw [List.map_map]
 congr 1
 show [k + 0] ++ _ = _
 rw [List.singleton_append, Nat.add_zero]
 congr 1
 refine List.map_congr_left fun x _ => ?_
 show k + (1 + x) = _; omega
theorem D0 (h0 : rC h lim k) (hk : k ≤ lim) (h1 : (uh h k lim [] 0 []).1 = true) : fE h lim = some (uh h k lim [] 0 []).2 := by
 unfold rC at h0
 unfold fE
 obtain ⟨r, hr⟩ := range_split (show k < lim + 1 by omega)
 rw [hr, List.flatMap_append, List.find?_append, h0, List.flatMap_cons, List.find?_append, JB.2 h1]; rfl
end
end Go.Proofs.YtelbollidfdcjaaGreat
namespace Go.Proofs.YtelbollidfdcjaaGreat
open Go Go.T
set_option maxHeartbeats 16000000
structure yV (h : List Int → Bool) (many lim : Nat) (l : List Int) (i0 : Nat) (o0 : List Int) where
  i : Nat
  o : List Int
  ge : i0 ≤ i
  le : i ≤ lim
  same : mZ h many (lim - i0) l i0 o0 = mZ h many (lim - i) l i o
section
variable {h : List Int → Bool} {many lim i0 k : Nat} {l o0 : List Int}
theorem yV.nat (x : yV h many lim l i0 o0) (hi : (x.i : Int) < (lim : Int)) : x.i < lim := by omega
def yV.next (x : yV h many lim l i0 o0) (hi : (x.i : Int) < (lim : Int)) (hg : (uh h many lim (l ++ [(x.i : Int)]) (x.i + 1) x.o).1 = false) : yV h many lim l i0 o0 :=
  ⟨x.i + 1, (uh h many lim (l ++ [(x.i : Int)]) (x.i + 1) x.o).2, by have := x.ge; omega, by omega, by rw [x.same, B4 (x.nat hi), if_neg (by rw [hg]; decide)]⟩
theorem yV.found (x : yV h many lim l i0 o0) (hm : ¬ l.length = many) (hi : (x.i : Int) < (lim : Int)) (hg : (uh h many lim (l ++ [(x.i : Int)]) (x.i + 1) x.o).1 = true) : uh h many lim l i0 o0 = uh h many lim (l ++ [(x.i : Int)]) (x.i + 1) x.o := by
 rw [OX hm, x.same, B4 (x.nat hi), if_pos hg]
theorem yV.stop (x : yV h many lim l i0 o0) (hm : ¬ l.length = many) (hi : ¬ (x.i : Int) < (lim : Int)) : uh h many lim l i0 o0 = (false, x.o) := by
 rw [OX hm, x.same, Na (by omega)]
def tO (h : List Int → Bool) (lim : Nat) : Bool := (fE h lim).isSome
def qD (h : List Int → Bool) (lim : Nat) : List Int := (fE h lim).getD []
theorem I0 {k : Nat} (h0 : rC h lim k) (hk : k ≤ lim) (h1 : (uh h k lim [] 0 []).1 = true) : true = tO h lim ∧ (uh h k lim [] 0 []).2 = qD h lim := by
 unfold tO qD; rw [D0 h0 hk h1]; exact ⟨rfl, rfl⟩
theorem ON {k : Nat} (h0 : rC h lim k) (hk : k ≤ lim + 1) (h1 : ¬ (k : Int) < (lim : Int) + 1) : false = tO h lim ∧ [] = qD h lim := by
 unfold tO qD; rw [EW h0 (by omega)]; exact ⟨rfl, rfl⟩
theorem E4 (h : ((l.length : Nat) : Int) = (many : Nat)) : l.length = many := by omega
theorem Ln (h : ¬ ((l.length : Nat) : Int) = (many : Nat)) : ¬ l.length = many := by omega
end
theorem qQ {ρ : List (Nat × Nat)} {th : Ty} {h1 : th.deps = []} {h2 : th.cdeps = []} {many lim a b : Nat} (e0 : (a, 1000) ∈ ρ) (e1 : (b, 1001) ∈ ρ) : lp ρ [Ty.jw 171 [Ty.pp [Ty.int .i64 (many : Nat)], Ty.ptr a 0, Ty.pp [Ty.nd th h1 h2], Ty.pp [Ty.int .i64 (lim : Nat)], Ty.ptr b 0]] [Ty.jw 171 [Ty.pp [Ty.int .i64 (many : Nat)], Ty.ptr 1000 0, Ty.pp [Ty.nd th h1 h2], Ty.pp [Ty.int .i64 (lim : Nat)], Ty.ptr 1001 0]] :=
 aN bX (tj (aN (aN (aN (aN (aN bX (jg e1)) (aU rfl rfl)) (aU rfl rfl)) (jg e0)) (aU rfl rfl)))
abbrev v8 (th : Ty) (h1 : th.deps = []) (h2 : th.cdeps = []) (many lim : Nat) (o : List Int) : List (Nat × Cont) := [(1000, Cont.cells 28 [Ty.sl cT o]), (1001, Cont.cells 122 [Ty.jw 171 [Ty.pp [Ty.int .i64 (many : Nat)], Ty.ptr 1000 0, Ty.pp [Ty.nd th h1 h2], Ty.pp [Ty.int .i64 (lim : Nat)], Ty.ptr 1001 0]])]
theorem BZ {A : As} {th : Ty} {h1 : th.deps = []} {h2 : th.cdeps = []} {many lim : Nat} {o o' : List Int} (e0 : A.tag 1000 = some (Cont.cells 28 [Ty.sl cT o])) (e1 : A.tag 1001 = some (Cont.cells 122 [Ty.jw 171 [Ty.pp [Ty.int .i64 (many : Nat)], Ty.ptr 1000 0, Ty.pp [Ty.nd th h1 h2], Ty.pp [Ty.int .i64 (lim : Nat)], Ty.ptr 1001 0]])) (e : o = o') : q9 A [1000, 1001] (v8 th h1 h2 many lim o') := by
 subst e; exact eG e0 (gm (by decide) (aN bX (aU rfl rfl))) (eG e1 (gm (by decide) (qQ (by decide) (by decide))) gS)
attribute [local irreducible] gL eX lN nh gy g6 gu gw gx nj gr ni dN fX nH fu nZ nth fP dQ bA dJ bodyPost Exit.then Exit.inBlock Code.wp Code.wpIn nW g7 nY nV g8 eP cL cM bodyPostM dR
attribute [local irreducible] uh mZ
set_option maxRecDepth 100000 in
theorem Cy (l : List Int) (h : l.length ≤ 1000) : eP Tryz.prog 172 [] [] [Ty.sl cT l] [] (Ty.row cT 3 6 l) := by
 refine fS Tryz.func172 rfl (by decide) Tryz.ntmps172 (by exact Nat.le_of_ble_eq_true rfl) fun w0 M0 => ?_
 refine aE (aA (lE rfl (aD (aC (aE (aE (aA (eA rfl (FO OE rfl ?_)))))))))
 refine aD (aC ?_)
 refine zA rfl (fun hc1 => ?_) (fun hc1 => ?_)
 ·
  refine aE (aA (lE rfl (aD (aC (az (aQ ?_))))))
  refine iq [6] rfl rfl (by decide) (by repeat (exact gS)) ?_
  all_goals skip
  all_goals (obtain rfl : l = [] := hc1; exact iR zf)
 refine aj (aC (aE (aA ?_)))
 refine xz (E := cT) rfl rfl rfl rfl ?_
 refine eA rfl ?_
 refine dj rfl rfl (by decide) rfl rfl rfl rfl rfl rfl (by decide) (by (simp <;> omega)) (by (simp <;> omega)) ?_
 refine yW rfl (aD (aC (az ?_)))
 refine iq [6] rfl rfl (by decide) (by repeat (exact gS)) ?_
 all_goals skip
 all_goals exact iR (De (by decide))
set_option maxRecDepth 100000 in
theorem O2 (th : Ty) (h1 : th.deps = []) (h2 : th.cdeps = []) (h : List Int → Bool) (hf : ∀ l, oS Tryz.prog (Ty.nd th h1 h2) [Ty.sl cT l] (Ty.bool (h l))) (many lim : Nat) (hmn : many ≤ 1000) (hlm : lim ≤ 1000) (d : Nat) (l : List Int) (i : Nat) (o : List Int) (hi : i ≤ lim) (hll : l.length ≤ many) (hd : lim - i < d) : eP Tryz.prog 171 [1000, 1001] (v8 th h1 h2 many lim o) [Ty.row cT 3 1002 l, Ty.int .i64 (i : Nat), Ty.pp [Ty.int .i64 (many : Nat)], Ty.ptr 1000 0, Ty.pp [Ty.nd th h1 h2], Ty.pp [Ty.int .i64 (lim : Nat)], Ty.ptr 1001 0] (v8 th h1 h2 many lim (uh h many lim l i o).2) (Ty.bool (uh h many lim l i o).1) := by
 induction d generalizing l i o
 case zero => exact absurd hd (by omega)
 rename_i d ih
 refine fS Tryz.func171 rfl (by decide) Tryz.ntmps171 (by exact Nat.le_of_ble_eq_true rfl) fun w0 M0 => ?_
 refine aE ?_
 refine k8 (tg := 1002) [(0, Ty.sl cT l)] (by decide) rfl ⟨vw rfl, trivial⟩ ?_
 refine aA (cm rfl (aD (aC (aE (aE (aA (eA rfl (cD rfl rfl rfl (aJ rfl rfl rfl rfl ?_)))))))))
 refine bB rfl rfl rfl (aD (aC ?_))
 refine ah rfl (fun hc1 => ?_) (fun hc1 => ?_)
 ·
  refine aE (aA (eA rfl ?_))
  refine cv rfl rfl (by decide) rfl rfl (by exact (rfl : _ = Ty.sl _ _)) rfl (by exact Nat.le_of_ble_eq_true rfl) rfl rfl (by exact (rfl : _ = [_])) ?_
  refine aD (aC (aE (aA (aJ rfl rfl rfl rfl (eA rfl (eV rfl (hf l) rfl (cm rfl (aD (aC ?_)))))))))
  refine az (aQ ?_)
  refine iq [1000, 1001] rfl rfl (by decide) ?_ ?_
  ·exact BZ rfl rfl (congrArg Prod.snd (go_eq (E4 hc1))).symm
  all_goals skip
  all_goals exact iR (pK rfl rfl (congrArg Ty.bool (congrArg Prod.fst (go_eq (E4 hc1))).symm))
 refine aj (aC (aE (aE ?_)))
 have hlm2 := Ln hc1
 refine aA (bF rfl (bZ rfl (aD (aC (aY ?_)))))
 refine b9 (fun (x : yV h many lim l i o) => live [(0, Ty.sl cT l), (2, Ty.pp [Ty.int .i64 (many : Nat)]), (3, Ty.ptr 1000 0), (4, Ty.pp [Ty.nd th h1 h2]), (5, Ty.pp [Ty.int .i64 (lim : Nat)]), (6, Ty.ptr 1001 0), (10, Ty.int .i64 (x.i : Nat))] [(1000, Cont.cells 28 [Ty.sl cT x.o]), (1001, Cont.cells 122 [Ty.jw 171 [Ty.pp [Ty.int .i64 (many : Nat)], Ty.ptr 1000 0, Ty.pp [Ty.nd th h1 h2], Ty.pp [Ty.int .i64 (lim : Nat)], Ty.ptr 1001 0]])]) (fun x => lim - x.i) (⟨i, o, Nat.le_refl _, hi, rfl⟩) ?_ fun x => ?_
 ·(refine cg.mk' ?_ ?_ <;> (repeat' (first | exact aI | exact aH | refine aB ?_ (Ty.aT _) | refine aB ?_ (Ty.aF _) | refine aG rfl (Cont.aF _) ?_)))
 have hxl := x.le
 refine aE (aE (aA (bF rfl (aJ rfl rfl rfl rfl (bB rfl rfl rfl (aD (aC ?_)))))))
 refine ah rfl (fun hc2 => ?_) (fun hc2 => ?_)
 ·
  refine aj (aC (aE (aY (aE (cP mixed rfl ?_)))))
  refine aZ rfl rfl (by decide) rfl rfl rfl ?_
  refine eA rfl ?_
  refine dL (res' := Ty.row cT 3 27 l) [(27, 6)] [27] [] (Cy l (by omega)) rfl rfl (by repeat (first | exact bX | refine aN ?_ ?_ | exact aU rfl rfl)) pre_nil post_nil (De (by exact List.mem_cons_self)) ?_
  refine bF rfl ?_
  refine bW (E := cT) (xs := [(x.i : Int)]) rfl rfl rfl rfl rfl (by decide) (by decide) (by repeat (first | exact (aV.nil : aV _ _ [] _) | (show aV _ _ ((_, _) :: _) _; apply aV.one; (· exact (rfl : _ = Ty.int _ _)); (· exact rfl)))) (by exact rfl) rfl ?_
  refine dj rfl rfl (by decide) rfl rfl rfl rfl rfl rfl (by decide) (by (simp <;> omega)) (by (simp <;> omega)) ?_
  refine bF rfl ?_
  refine bq rfl rfl (by omega) (by omega) ?_
  refine CR [(1000, 1000), (1001, 1001), (27, 1002)] [27] (v8 th h1 h2 many lim (uh h many lim (l ++ [(x.i : Int)]) (x.i + 1) x.o).2) rfl (ih (l ++ [(x.i : Int)]) (x.i + 1) x.o (by omega) (by rw [List.length_append]; show l.length + 1 ≤ many; omega) (by have := x.ge; omega)) rfl rfl (aN (aN (aN (aN (aN (aN (aN bX (jg (by decide))) (aU rfl rfl)) (aU rfl rfl)) (jg (by decide))) (aU rfl rfl)) (aU rfl rfl)) (De (by decide))) (dA (a := 1000) (b := 1000) (by decide) rfl (gm (by decide) (aN bX (aU rfl rfl))) (dA (a := 1001) (b := 1001) (by decide) rfl (gm (by decide) (qQ (by decide) (by decide))) pre_nil)) (bk (a := 1000) (b := 1000) (by decide) rfl (gm (by decide) (aN bX (aU rfl rfl))) (bk (a := 1001) (b := 1001) (by decide) rfl (gm (by decide) (qQ (by decide) (by decide))) post_nil)) (aU rfl rfl) ?_
  refine aD ?_
  refine ⟨by kernel_rfl, ?_⟩
  refine aC ?_
  refine cH rfl (fun hc3 => ?_) (fun hc3 => ?_)
  ·
   refine aE (aA (cm rfl (aD (aC (az (ay (aQ (aQ (ay ?_)))))))))
   refine aQ ?_
   refine iq [1000, 1001] rfl rfl (by decide) ?_ ?_
   ·exact BZ rfl rfl (congrArg Prod.snd (x.found hlm2 hc2 hc3)).symm
   all_goals skip
   all_goals exact iR (pK rfl rfl (congrArg Ty.bool (hc3.symm.trans (congrArg Prod.fst (x.found hlm2 hc2 hc3)).symm)))
  refine aj (bI (aC (aA (bF rfl ?_))))
  refine bq rfl rfl (by omega) (by omega) ?_
  refine bZ rfl (aD ?_)
  refine bM (x.next hc2 hc3) ?_ (by show lim - (x.i + 1) < lim - x.i; omega)
  (refine cg.mk' ?_ ?_ <;> (repeat' (first | exact aI | exact aH | refine aB ?_ (Ty.aT _) | refine aB ?_ (Ty.aF _) | refine aG rfl (Cont.aF _) ?_)))
  all_goals skip
 refine bz (aP (aP (aa rfl (aC (aE (aA (cm rfl (aD (aC ?_)))))))))
 refine az ?_
 refine iq [1000, 1001] rfl rfl (by decide) ?_ ?_
 ·exact BZ rfl rfl (congrArg Prod.snd (x.stop hlm2 hc2)).symm
 all_goals skip
 all_goals exact iR (pK rfl rfl (congrArg Ty.bool (congrArg Prod.fst (x.stop hlm2 hc2)).symm))
set_option maxRecDepth 100000 in
theorem xW (th : Ty) (h1 : th.deps = []) (h2 : th.cdeps = []) (ho : th.one = true) (h : List Int → Bool) (hf : ∀ l, oS Tryz.prog (Ty.nd th h1 h2) [Ty.sl cT l] (Ty.bool (h l))) (lim : Nat) (hlm : lim ≤ 999) : dJ Tryz.prog 113 [Ty.int .i64 (lim : Nat), Ty.nd th h1 h2] (Ty.j8 [Ty.sl cT (qD h lim), Ty.bool (tO h lim)]) := by
 refine ak Tryz.func113 rfl (by decide) Tryz.ntmps113 (by exact Nat.le_of_ble_eq_true rfl) fun w0 M0 => ?_
 refine aE (aA ?_)
 refine gM (by exact (rfl : _ = Ty.int _ _)) rfl ?_
 refine gM (ty := Ty.nd th h1 h2) rfl ho ?_
 refine lE rfl (cm rfl (aD (aC (aE (aE (aA (aJ rfl rfl rfl rfl ?_)))))))
 refine bq rfl rfl (by omega) (by omega) ?_
 refine bF rfl (aD (aC (aY ?_)))
 refine b9 (fun (k : {k : Nat // k ≤ lim + 1 ∧ rC h lim k}) => live [(2, Ty.pp [Ty.int .i64 (lim : Nat)]), (3, Ty.pp [Ty.nd th h1 h2]), (10, Ty.int .i64 ((lim : Int) + 1)), (11, Ty.int .i64 (k.1 : Nat))] []) (fun k => lim + 1 - k.1) (⟨0, by omega, GY⟩) ?_ fun k => ?_
 ·(refine cg.mk' ?_ ?_ <;> (repeat' (first | exact aI | exact aH | refine aB ?_ (Ty.aT _) | refine aB ?_ (Ty.aF _))))
 have hk := k.2.1
 refine aE (aA (bB rfl rfl rfl (aD (aC (aE ?_)))))
 refine ah rfl (fun hc1 => ?_) (fun hc1 => ?_)
 ·
  refine aj (aC (aE (aY (aE (aA (bF rfl ?_))))))
  refine bu rfl (by exact List.cons_ne_nil _ _) rfl ?_
  refine cv rfl rfl (by decide) rfl rfl (by exact (rfl : _ = Ty.int _ _)) rfl (by exact Nat.le_of_ble_eq_true rfl) rfl rfl (by exact (rfl : _ = [_])) ?_
  refine aD (aC (aE ?_))
  refine k8 (tg := 7) [(6, Ty.pp [Ty.int .i64 (k.1 : Nat)])] (by decide) rfl ⟨mM (T := 3) (off := 0) (l := [Ty.int .i64 (k.1 : Nat)]) rfl rfl rfl (by decide), trivial⟩ ?_
  refine aA ?_
  refine bu rfl (by exact List.cons_ne_nil _ _) rfl ?_
  refine aD (aC (aE (aA ?_)))
  refine bu rfl (by exact List.cons_ne_nil _ _) rfl ?_
  refine aD (aC (aE (aA (dK rfl ?_))))
  refine cv rfl rfl (by decide) rfl rfl (by exact (rfl : _ = Ty.jw _ _)) rfl (by exact Nat.le_of_ble_eq_true rfl) rfl rfl (by exact (rfl : _ = [_])) ?_
  refine aD (aC (aE ?_))
  refine jk (tg := 8) rfl (Cont.kF (l' := [Ty.sl cT ([] : List Int)]) ⟨Ty.yA, trivial⟩) ?_
  refine aA ?_
  refine aZ rfl rfl (by decide) rfl rfl rfl ?_
  refine CR [(8, 1000), (9, 1001)] [] [(8, Cont.cells 28 [Ty.sl cT (uh h k.1 lim [] 0 []).2]), (9, Cont.cells 122 [Ty.jw 171 [Ty.pp [Ty.int .i64 (k.1 : Nat)], Ty.ptr 8 0, Ty.pp [Ty.nd th h1 h2], Ty.pp [Ty.int .i64 (lim : Nat)], Ty.ptr 9 0]])] rfl (O2 th h1 h2 h hf k.1 lim (by omega) (by omega) (lim + 1) [] 0 [] (by omega) (Nat.zero_le _) (by omega)) rfl rfl (aN (aN (aN (aN (aN (aN (aN bX (jg (by decide))) (aU rfl rfl)) (aU rfl rfl)) (jg (by decide))) (aU rfl rfl)) (aU rfl rfl)) zf) (dA (a := 8) (b := 1000) (by decide) rfl (gm (by decide) (aN bX (aU rfl rfl))) (dA (a := 9) (b := 1001) (by decide) rfl (gm (by decide) (qQ (by decide) (by decide))) pre_nil)) (bk (a := 8) (b := 1000) (by decide) rfl (gm (by decide) (aN bX (aU rfl rfl))) (bk (a := 9) (b := 1001) (by decide) rfl (gm (by decide) (aN bX (tj (aN (aN (aN (aN (aN bX (jg (by decide))) (aU rfl rfl)) (aU rfl rfl)) (jg (by decide))) (aU rfl rfl))))) post_nil)) (aU rfl rfl) ?_
  refine aD (aC ?_)
  refine cH rfl (fun hc2 => ?_) (fun hc2 => ?_)
  ·
   refine aE (aA ?_)
   refine aZ rfl rfl (by decide) rfl rfl rfl ?_
   refine va rfl (cm rfl (aD (aC (az (ay (aQ (aQ (ay (aQ ?_)))))))))
   refine fG rfl rfl rfl ?_ ?_
   all_goals skip
   all_goals first | exact av rfl rfl (congrArg Ty.bool (I0 k.2.2 (by omega) hc2).1) | exact av rfl rfl (congrArg (Ty.sl cT) (I0 k.2.2 (by omega) hc2).2)
  refine aj (bI (aC (aA ?_)))
  refine bq rfl rfl (by omega) (by omega) ?_
  refine bF rfl (aD ?_)
  refine bM (⟨k.1 + 1, by omega, Hz k.2.2 hc2⟩) ?_ (by show lim + 1 - (k.1 + 1) < lim + 1 - k.1; omega)
  (refine cg.mk' ?_ ?_ <;> (repeat' (first | exact aI | exact aH | refine aB ?_ (Ty.aT _) | refine aB ?_ (Ty.aF _))))
  all_goals skip
 refine bz (aP (aP (aa rfl (aC (aE (aA (lE rfl (cm rfl (aD ?_)))))))))
 refine aC (az ?_)
 refine fG rfl rfl rfl ?_ ?_
 all_goals skip
 all_goals first | exact av rfl rfl (congrArg Ty.bool (ON k.2.2 k.2.1 hc1).1) | exact gT (ON k.2.2 k.2.1 hc1).2.symm
end Go.Proofs.YtelbollidfdcjaaGreat
namespace Go.Proofs.YtelbollidfdcjaaGreat
open Go Go.T
set_option maxHeartbeats 16000000
theorem ED {P : Program} {t : Ty} {h1 : t.deps = []} {h2 : t.cdeps = []} {args : List Ty} {res : Ty} (h : oS P t args res) : oS P (Ty.nd t h1 h2) args res := h
noncomputable def iK (y : au) : Int := if bL y = 0 then (if tO (fun l => !b8 y (bH l false)) y.levels.length = true then 0 else 6) else bL y
noncomputable def fU (y : au) : List Int := if iK y = 0 then qD (fun l => !b8 y (bH l false)) y.levels.length else []
theorem vf {y : au} (h : ¬ bL y = 0) : bL y = iK y ∧ [] = fU y := by
 have e : bL y = iK y := (if_neg h).symm
 exact ⟨e, by unfold fU; rw [← e, if_neg h]⟩
theorem A9 {y : au} (h : bL y = 0) (h2 : (!tO (fun l => !b8 y (bH l false)) y.levels.length) = true) : 6 = iK y ∧ [] = fU y := by
 have e : 6 = iK y := by unfold iK; rw [if_pos h, if_neg (by rw [l9 h2]; decide)]
 exact ⟨e, by unfold fU; rw [← e, if_neg (by decide)]⟩
theorem qg {y : au} (h : bL y = 0) (h2 : (!tO (fun l => !b8 y (bH l false)) y.levels.length) = false) : 0 = iK y ∧ qD (fun l => !b8 y (bH l false)) y.levels.length = fU y := by
 have e : 0 = iK y := by unfold iK; rw [if_pos h, if_pos (ew h2)]
 exact ⟨e, by unfold fU; rw [← e, if_pos rfl]⟩
noncomputable def iP (y : au) : Int := if bL y = 0 then (if tO (fun l => b8 y (bH l true)) y.levels.length = true then 0 else 7) else bL y
noncomputable def eL (y : au) : List Int := if iP y = 0 then qD (fun l => b8 y (bH l true)) y.levels.length else []
theorem vp {y : au} (h : ¬ bL y = 0) : bL y = iP y ∧ [] = eL y := by
 have e : bL y = iP y := (if_neg h).symm
 exact ⟨e, by unfold eL; rw [← e, if_neg h]⟩
theorem BJ {y : au} (h : bL y = 0) (h2 : (!tO (fun l => b8 y (bH l true)) y.levels.length) = true) : 7 = iP y ∧ [] = eL y := by
 have e : 7 = iP y := by unfold iP; rw [if_pos h, if_neg (by rw [l9 h2]; decide)]
 exact ⟨e, by unfold eL; rw [← e, if_neg (by decide)]⟩
theorem qc {y : au} (h : bL y = 0) (h2 : (!tO (fun l => b8 y (bH l true)) y.levels.length) = false) : 0 = iP y ∧ qD (fun l => b8 y (bH l true)) y.levels.length = eL y := by
 have e : 0 = iP y := by unfold iP; rw [if_pos h, if_pos (ew h2)]
 exact ⟨e, by unfold eL; rw [← e, if_pos rfl]⟩
attribute [local irreducible] aR gz Way.iA Way.fin Way.room eR dz ef gW over bO cO dY eT jP fC hH j0 cU gP gA gD cw cN gY oo iS ij jD gp Bc yl iB au.kept au.cells bL eC bf gG kS cq oc ow jq jE kr mU hasB sH rF qw sj oq kM nD kG wA gQ jH IN FH rA b8 bH iF Bb q8 xG uh mZ tO qD fE
attribute [local irreducible] gL eX lN nh gy g6 gu gw gx nj gr ni dN fX nH fu nZ nth fP dQ bA dJ bodyPost Exit.then Exit.inBlock Code.wp Code.wpIn nW g7 nY nV g8 eP cL cM bodyPostM dR
set_option maxRecDepth 100000 in
theorem JT (y : au) (hr : y.bt) (l : List Int) : dJ Tryz.prog 114 [Ty.sl cT l, Ty.pp (bE y)] (Ty.bool ((fun l => !b8 y (bH l false)) l)) := by
 refine ak Tryz.func114 rfl (by decide) Tryz.ntmps114 (by exact Nat.le_of_ble_eq_true rfl) fun w0 M0 => ?_
 refine aE (aA (cm rfl (aD (aC (aE (aA ?_))))))
 refine aX rfl rfl rfl (by exact Nat.le_of_ble_eq_true rfl) ?_
 refine eA rfl (af (xM y hr l false) rfl rfl rfl rfl rfl (dm rfl (cm rfl (aD (aC (az (bR rfl rfl ?_)))))))
 all_goals exact cG rfl rfl
 all_goals trace_state
set_option maxRecDepth 100000 in
theorem GB (y : au) (hs : y.Small) : dJ Tryz.prog 44 [dr y] (Ty.j8 [Ty.sl cT (fU y), Ty.int .i64 (iK y)]) := by
 refine ak Tryz.func44 rfl (by decide) Tryz.ntmps44 (by exact Nat.le_of_ble_eq_true rfl) fun w0 M0 => ?_
 refine aE (aA (bD rfl (lE rfl (bZ rfl (aD (aC (aE (aE (aA ?_)))))))))
 refine aX rfl rfl rfl (by exact Nat.le_of_ble_eq_true rfl) ?_
 refine af (kW y hs) rfl rfl rfl rfl rfl (bZ rfl (aD (aC (aE (aA (bF rfl (bB rfl rfl rfl (aD (aC ?_)))))))))
 refine cx rfl (fun hc1 => ?_) (fun hc1 => ?_)
 ·
  refine aE (aA (bF rfl (lE rfl (bZ rfl (aD (aC (az (aQ ?_))))))))
  refine fG rfl rfl rfl ?_ ?_
  all_goals skip
  all_goals first | exact gT (vf hc1).2.symm | exact av rfl rfl (congrArg (Ty.int .i64) (vf hc1).1)
 refine aj (aC (aE ?_))
 have hck : bL y = 0 := hc1
 have hr := dD hck
 have h8 := hr.levels
 refine aA ?_
 refine aL rfl rfl rfl rfl rfl (by decide) ?_
 refine aJ rfl rfl rfl rfl (cD rfl rfl rfl (dK rfl ?_))
 refine af (xW (Ty.jw 114 [Ty.pp (bE y)]) rfl rfl rfl (fun l => !b8 y (bH l false)) (fun l => ED (dU (JT y hr l) rfl rfl rfl rfl rfl rfl)) y.levels.length (by omega)) rfl rfl rfl rfl rfl ?_
 refine sU rfl (bQ rfl rfl (bQ rfl rfl (va rfl (cm rfl (aD (aC (aE (aE (aA ?_)))))))))
 refine eO rfl (dm rfl (aD (aC ?_)))
 refine cH rfl (fun hc2 => ?_) (fun hc2 => ?_)
 ·
  refine aE (aA (lE rfl (bZ rfl (aD (aC (az (aQ ?_)))))))
  refine fG rfl rfl rfl ?_ ?_
  all_goals skip
  all_goals first | exact gT (A9 hck hc2).2.symm | exact av rfl rfl (congrArg (Ty.int .i64) (A9 hck hc2).1)
 refine aj (aC (aE (aA (eA rfl (va rfl (bZ rfl (aD (aC (az ?_)))))))))
 refine fG rfl rfl rfl ?_ ?_
 all_goals skip
 all_goals first | exact av rfl rfl (congrArg (Ty.sl cT) (qg hck hc2).2) | exact av rfl rfl (congrArg (Ty.int .i64) (qg hck hc2).1)
set_option maxRecDepth 100000 in
theorem Ih (y : au) (hr : y.bt) (l : List Int) : dJ Tryz.prog 115 [Ty.sl cT l, Ty.pp (bE y)] (Ty.bool ((fun l => b8 y (bH l true)) l)) := by
 refine ak Tryz.func115 rfl (by decide) Tryz.ntmps115 (by exact Nat.le_of_ble_eq_true rfl) fun w0 M0 => ?_
 refine aE (aA (cm rfl (aD (aC (aE (aA ?_))))))
 refine aX rfl rfl rfl (by exact Nat.le_of_ble_eq_true rfl) ?_
 refine eA rfl (af (xM y hr l true) rfl rfl rfl rfl rfl (cm rfl (aD (aC (az (bR rfl rfl ?_))))))
 all_goals exact cG rfl rfl
 all_goals trace_state
set_option maxRecDepth 100000 in
theorem GO (y : au) (hs : y.Small) : dJ Tryz.prog 45 [dr y] (Ty.j8 [Ty.sl cT (eL y), Ty.int .i64 (iP y)]) := by
 refine ak Tryz.func45 rfl (by decide) Tryz.ntmps45 (by exact Nat.le_of_ble_eq_true rfl) fun w0 M0 => ?_
 refine aE (aA (bD rfl (lE rfl (bZ rfl (aD (aC (aE (aE (aA ?_)))))))))
 refine aX rfl rfl rfl (by exact Nat.le_of_ble_eq_true rfl) ?_
 refine af (kW y hs) rfl rfl rfl rfl rfl (bZ rfl (aD (aC (aE (aA (bF rfl (bB rfl rfl rfl (aD (aC ?_)))))))))
 refine cx rfl (fun hc1 => ?_) (fun hc1 => ?_)
 ·
  refine aE (aA (bF rfl (lE rfl (bZ rfl (aD (aC (az (aQ ?_))))))))
  refine fG rfl rfl rfl ?_ ?_
  all_goals skip
  all_goals first | exact gT (vp hc1).2.symm | exact av rfl rfl (congrArg (Ty.int .i64) (vp hc1).1)
 refine aj (aC (aE ?_))
 have hck : bL y = 0 := hc1
 have hr := dD hck
 have h8 := hr.levels
 refine aA ?_
 refine aL rfl rfl rfl rfl rfl (by decide) ?_
 refine aJ rfl rfl rfl rfl (cD rfl rfl rfl (dK rfl ?_))
 refine af (xW (Ty.jw 115 [Ty.pp (bE y)]) rfl rfl rfl (fun l => b8 y (bH l true)) (fun l => ED (dU (Ih y hr l) rfl rfl rfl rfl rfl rfl)) y.levels.length (by omega)) rfl rfl rfl rfl rfl ?_
 refine sU rfl (bQ rfl rfl (bQ rfl rfl (va rfl (cm rfl (aD (aC (aE (aE (aA ?_)))))))))
 refine eO rfl (dm rfl (aD (aC ?_)))
 refine cH rfl (fun hc2 => ?_) (fun hc2 => ?_)
 ·
  refine aE (aA (lE rfl (bZ rfl (aD (aC (az (aQ ?_)))))))
  refine fG rfl rfl rfl ?_ ?_
  all_goals skip
  all_goals first | exact gT (BJ hck hc2).2.symm | exact av rfl rfl (congrArg (Ty.int .i64) (BJ hck hc2).1)
 refine aj (aC (aE (aA (eA rfl (va rfl (bZ rfl (aD (aC (az ?_)))))))))
 refine fG rfl rfl rfl ?_ ?_
 all_goals skip
 all_goals first | exact av rfl rfl (congrArg (Ty.sl cT) (qc hck hc2).2) | exact av rfl rfl (congrArg (Ty.int .i64) (qc hck hc2).1)
end Go.Proofs.YtelbollidfdcjaaGreat
namespace Go.Proofs.YtelbollidfdcjaaGreat
open Go Go.T
def two (k : Nat) : au := ⟨2, [⟨100, ⟨20, 30⟩⟩, ⟨50, ⟨0, 0⟩⟩], [⟨0, -1, 0, ⟨40, 60⟩⟩, ⟨1, 0, 1, ⟨10, 40⟩⟩, ⟨1, 1, -1, ⟨5, 10⟩⟩], ([⟨2, 1, ⟨20, 25⟩⟩, ⟨2, 0, ⟨10, 24⟩⟩] : List Level).take k⟩
def yU (p q u v w : Int) : dZ := ⟨[p, q], [u, v, w]⟩
section
variable {k : Nat} {c : Nat → Bool} {a : dZ} {p q u v w : Int}
theorem nk (h : k ≤ 2) : bL (two k) = 0 := by
 have : k = 0 ∨ k = 1 ∨ k = 2 := by omega
 rcases this with rfl | rfl | rfl <;> decide
theorem zS (h : k ≤ 2) : (two k).bt := dD (nk h)
theorem Ep (h : yg (two k) a) : ∃ p q u v w, a = yU p q u v w := by
  obtain ⟨f, m⟩ := a
  have h1 : f.length = 2 := h.first
  have h2 : m.length = 3 := h.cC
  match f, m, h1, h2 with
  | [p, q], [u, v, w], _, _ => exact ⟨p, q, u, v, w, rfl⟩
theorem mW : dM (two k) (yU p q u v w) 0 0 = p := by simp [dM, c7, qu, ind, nth, two, yU]
theorem mg : dM (two k) (yU p q u v w) 0 1 = p + u := by simp [dM, c7, qu, ind, nth, two, yU]
theorem lH : dM (two k) (yU p q u v w) 0 2 = p + u - v := by simp [dM, c7, qu, ind, nth, two, yU]; omega
theorem A3 : dM (two k) (yU p q u v w) 1 0 = q := by simp [dM, c7, qu, ind, nth, two, yU]
theorem Az : dM (two k) (yU p q u v w) 1 1 = q := by simp [dM, c7, qu, ind, nth, two, yU]
theorem uR : dM (two k) (yU p q u v w) 1 2 = q + v - w := by simp [dM, c7, qu, ind, nth, two, yU]; omega
structure MC (k : Nat) (c : Nat → Bool) (p q u v w : Int) : Prop where
  hp : 20 ≤ p ∧ p ≤ 30
  hq : q = 0
  hu : 40 ≤ u ∧ u ≤ 60
  hv : 10 ≤ v ∧ v ≤ 40
  hw : 5 ≤ w ∧ w ≤ 10
  l0 : 0 < k → c 0 = true → 20 ≤ v - w ∧ v - w ≤ 25
  l1 : 1 < k → c 1 = true → 10 ≤ p + u - v ∧ p + u - v ≤ 24
theorem k9 (hk : k ≤ 2) : fH (two k) c (yU p q u v w) ↔ MC k c p q u v w := by
 constructor
 ·intro h
  have f0 := h.first 0 (Nat.zero_lt_succ _)
  have f1 := h.first 1 (show 1 < 2 by decide)
  have m0 := h.cC 0 (Nat.zero_lt_succ _)
  have m1 := h.cC 1 (show 1 < 3 by decide)
  have m2 := h.cC 2 (show 2 < 3 by decide)
  have hq : (0 : Int) ≤ q ∧ q ≤ 0 := f1
  refine ⟨f0, by omega, m0, m1, m2, fun h0 hc => ?_, fun h1 hc => ?_⟩
  ·have e : nth (two k).levels 0 = ⟨2, 1, ⟨20, 25⟩⟩ := by
    obtain ⟨j, rfl⟩ : ∃ j, k = j + 1 := ⟨k - 1, by omega⟩
    rfl
   have hl : 0 < (two k).levels.length := by
    obtain ⟨j, rfl⟩ : ∃ j, k = j + 1 := ⟨k - 1, by omega⟩
    show 0 < (List.take (j + 1) _).length
    rw [List.take_succ_cons, List.length_cons]; omega
   have := h.level 0 hl hc
   rw [e] at this
   have := this
   change 20 ≤ dM _ _ 1 2 ∧ dM _ _ 1 2 ≤ 25 at this
   rw [uR] at this
   omega
  obtain rfl : k = 2 := by omega
  have := h.level 1 (by decide) hc
  change 10 ≤ dM _ _ 0 2 ∧ dM _ _ 0 2 ≤ 24 at this
  rw [lH] at this
  exact this
 intro ⟨hp, hq, hu, hv, hw, h0, h1⟩
 have hlen : (two k).levels.length = k := by
  show (List.take k _).length = k
  rw [List.length_take]; show min k 2 = k; omega
 refine ⟨⟨rfl, rfl⟩, fun b hb => ?_, fun b t hb ht => ?_, fun i hi => ?_, fun i hi hc => ?_⟩
 ·have hb : b < 2 := hb
  have : b = 0 ∨ b = 1 := by omega
  rcases this with rfl | rfl
  ·exact hp
  show 0 ≤ q ∧ q ≤ 0; omega
 ·have hb : b < 2 := hb
  have ht : t ≤ 2 := ht
  have e1 : b = 0 ∨ b = 1 := by omega
  have e2 : t = 0 ∨ t = 1 ∨ t = 2 := by omega
  rcases e1 with rfl | rfl <;> rcases e2 with rfl | rfl | rfl
  ·rw [mW]; show 0 ≤ p ∧ p ≤ 100; omega
  ·rw [mg]; show 0 ≤ p + u ∧ p + u ≤ 100; omega
  ·rw [lH]; show 0 ≤ p + u - v ∧ p + u - v ≤ 100; omega
  ·rw [A3]; show 0 ≤ q ∧ q ≤ 50; omega
  ·rw [Az]; show 0 ≤ q ∧ q ≤ 50; omega
  rw [uR]; show 0 ≤ q + v - w ∧ q + v - w ≤ 50; omega
 ·have hi : i < 3 := hi
  have : i = 0 ∨ i = 1 ∨ i = 2 := by omega
  rcases this with rfl | rfl | rfl
  ·exact hu
  ·exact hv
  exact hw
 rw [hlen] at hi
 have : i = 0 ∨ i = 1 := by omega
 rcases this with rfl | rfl
 ·have h := h0 hi hc
  have e : nth (two k).levels 0 = ⟨2, 1, ⟨20, 25⟩⟩ := by
   obtain ⟨j, rfl⟩ : ∃ j, k = j + 1 := ⟨k - 1, by omega⟩
   rfl
  rw [e]
  change 20 ≤ dM _ _ 1 2 ∧ dM _ _ 1 2 ≤ 25
  rw [uR]; omega
 obtain rfl : k = 2 := by omega
 have h := h1 (by omega) hc
 change 10 ≤ dM _ _ 0 2 ∧ dM _ _ 0 2 ≤ 24
 rw [lH]; exact h
theorem kY (hk : k ≤ 2) {f : dZ → Int} {s : Span} (p0 q0 u0 v0 w0 p1 q1 u1 v1 w1 : Int) (h0 : MC k c p0 q0 u0 v0 w0) (e0 : f (yU p0 q0 u0 v0 w0) = s.lo) (h1 : MC k c p1 q1 u1 v1 w1) (e1 : f (yU p1 q1 u1 v1 w1) = s.hi)
 (h : ∀ p q u v w, MC k c p q u v w → s.lo ≤ f (yU p q u v w) ∧ f (yU p q u v w) ≤ s.hi) : Dc (two k) c f s :=
 ⟨⟨_, (k9 hk).2 h0, e0⟩, ⟨_, (k9 hk).2 h1, e1⟩, fun a ha => by
  obtain ⟨p, q, u, v, w, rfl⟩ := Ep ha.lens
  exact h p q u v w ((k9 hk).1 ha)⟩
end
end Go.Proofs.YtelbollidfdcjaaGreat
namespace Go.Proofs.YtelbollidfdcjaaGreat
open Go Go.T
section
variable {y : au} {c : Nat → Bool} {a : dZ} {b t k : Nat} {s : Span}
theorem Cl (h0 : bL y = 0) (h : ∃ a, fH y (nth bf) a) : cq y = 0 := (open_3 h0 ((oN (dD h0)).2 h)).symm
theorem Ks (h0 : bL y = 0) (h : ¬ ∃ a, fH y (nth bf) a) : cq y = 7 := by
  cases e : (cU (aR y (nth bf)) (y.cells + 1) (gz (aR y (nth bf)))).2.1 with
  | true => exact (wX h0 e).symm
  | false => exact absurd ((oN (dD h0)).1 e) h
theorem qO (h : cq y = 0) : ∃ a, fH y (nth bf) a := (oN (dD (eS h))).1 (Ap h)
theorem IX (h0 : bL y = 0) : cq y = 0 ↔ ∃ a, fH y (nth bf) a := ⟨qO, Cl h0⟩
theorem tV (hr : y.bt) {l : List Bool} : b8 y l = true ↔ ∃ a, fH y (nth l) a := by
 unfold b8
 rw [Bool.not_eq_true', oN hr]
theorem qP (ho : cq y = 0) (hb : b < y.bins.length) (ht : t ≤ y.D) : Dc y (nth bf) (fun a => dM y a b t) (gp (aR y (nth bf)) (y.cells + 1) (hasB y b t)) :=
 xR (dD (eS ho)) (fun x hx => MV (dD (eS ho)) hb ht hx) (qO ho)
theorem A2 (ho : cq y = 0) (ht : t ≤ y.D) : Dc y (nth bf) (fun a => c7 (fun b => dM y a b t) y.bins.length) (gp (aR y (nth bf)) (y.cells + 1) (oq y t)) :=
 xR (dD (eS ho)) (fun x hx => Hx (dD (eS ho)) ht hx) (qO ho)
theorem Me (ho : cq y = 0) (hk : k < y.moves.length) : Dc y (nth bf) (fun a => nth a.cC k) (gp (aR y (nth bf)) (y.cells + 1) (sH (y.bins.length * (y.D + 1) + k))) :=
 xR (dD (eS ho)) (fun x hx => Kv hk) (qO ho)
theorem BQ (h0 : bL y = 0) (hb : b < y.bins.length) : eC y (b : Int) = 0 := by
 unfold eC
 rw [if_pos h0, if_pos (by unfold au.bin; rw [fQ]; omega)]
theorem FU (ho : cq y = 0) (hb : b < y.bins.length) : jq y (b : Int) = 0 := (AX (BQ (eS ho) hb) ho).1.symm
theorem GC (ho : cq y = 0) (hb : b < y.bins.length) : jE y (b : Int) = (List.range (y.D + 1)).map fun t => gp (aR y (nth bf)) (y.cells + 1) (hasB y b t) := (AX (BQ (eS ho) hb) ho).2.symm
theorem NR (ho : cq y = 0) : sj y = (List.range (y.D + 1)).map fun t => gp (aR y (nth bf)) (y.cells + 1) (oq y t) := (Cw ho).symm
theorem Mk (ho : cq y = 0) (hk : k < y.moves.length) : kr y (k : Int) = 0 := (GQ (eS ho) (by rw [Bool.not_eq_false', Bool.and_eq_true, decide_eq_true_eq, decide_eq_true_eq]; omega) ho).1.symm
theorem JW (ho : cq y = 0) (hk : k < y.moves.length) : Dc y (nth bf) (fun a => nth a.cC k) (mU y (k : Int)) := by
 rw [← (GQ (eS ho) (by rw [Bool.not_eq_false', Bool.and_eq_true, decide_eq_true_eq, decide_eq_true_eq]; omega) ho).2]
 exact Me ho hk
end
theorem Kj {α : Type} {a b c x y z : α} (h1 : a = x) (h2 : b = y) (h3 : c = z) : [a, b, c] = [x, y, z] := by subst h1; subst h2; subst h3; rfl
theorem lA {k : Nat} (hk : k ≤ 1) : cq (two k) = 0 :=
 Cl (nk (by omega)) ⟨yU 20 0 40 25 5, (k9 (by omega)).2 ⟨by omega, rfl, by omega, by omega, by omega, fun _ _ => by omega, fun _ _ => by omega⟩⟩
theorem Qs : jq (two 0) 0 = 0 := FU (b := 0) (lA (by omega)) (by decide)
theorem NV : jE (two 0) 0 = [⟨20, 30⟩, ⟨60, 90⟩, ⟨20, 80⟩] := by
 have ho := lA (k := 0) (by omega)
 have e := GC (b := 0) ho (by decide)
 have h0 := (qP (b := 0) (t := 0) ho (by decide) (by decide)).one (kY (s := ⟨20, 30⟩) (by omega) 20 0 40 10 5 30 0 40 10 5 (by constructor <;> intros <;> omega) mW (by constructor <;> intros <;> omega) mW fun p q u v w h => by rw [mW]; exact h.hp)
 have h1 := (qP (b := 0) (t := 1) ho (by decide) (by decide)).one (kY (s := ⟨60, 90⟩) (by omega) 20 0 40 10 5 30 0 60 10 5 (by constructor <;> intros <;> omega) mg (by constructor <;> intros <;> omega) mg fun p q u v w h => by rw [mg]; have := h.hp; have := h.hu; show 60 ≤ p + u ∧ p + u ≤ 90; omega)
 have h2 := (qP (b := 0) (t := 2) ho (by decide) (by decide)).one (kY (s := ⟨20, 80⟩) (by omega) 20 0 40 40 5 30 0 60 10 5 (by constructor <;> intros <;> omega) lH (by constructor <;> intros <;> omega) lH fun p q u v w h => by rw [lH]; have := h.hp; have := h.hu; have := h.hv; show 20 ≤ p + u - v ∧ p + u - v ≤ 80; omega)
 show jE (two 0) ((0 : Nat) : Int) = _
 rw [e]
 exact Kj h0 h1 h2
theorem E0 : jE (two 1) 0 = [⟨20, 30⟩, ⟨60, 90⟩, ⟨25, 65⟩] := by
 have ho := lA (k := 1) (by omega)
 have e := GC (b := 0) ho (by decide)
 have h0 := (qP (b := 0) (t := 0) ho (by decide) (by decide)).one (kY (s := ⟨20, 30⟩) (by omega) 20 0 40 25 5 30 0 40 25 5 (by constructor <;> intros <;> omega) mW (by constructor <;> intros <;> omega) mW fun p q u v w h => by rw [mW]; exact h.hp)
 have h1 := (qP (b := 0) (t := 1) ho (by decide) (by decide)).one (kY (s := ⟨60, 90⟩) (by omega) 20 0 40 25 5 30 0 60 25 5 (by constructor <;> intros <;> omega) mg (by constructor <;> intros <;> omega) mg fun p q u v w h => by rw [mg]; have := h.hp; have := h.hu; show 60 ≤ p + u ∧ p + u ≤ 90; omega)
 have h2 := (qP (b := 0) (t := 2) ho (by decide) (by decide)).one (kY (s := ⟨25, 65⟩) (by omega) 20 0 40 35 10 30 0 60 25 5 (by constructor <;> intros <;> omega) lH (by constructor <;> intros <;> omega) lH fun p q u v w h => by rw [lH]; have := h.hp; have := h.hu; have := h.hw; have := h.l0 (by omega) rfl; show 25 ≤ p + u - v ∧ p + u - v ≤ 65; omega)
 show jE (two 1) ((0 : Nat) : Int) = _
 rw [e]
 exact Kj h0 h1 h2
theorem lS {k : Nat} {a : dZ} {t : Nat} : c7 (fun b => dM (two k) a b t) (two k).bins.length = dM (two k) a 0 t + dM (two k) a 1 t := by
 show (0 + dM (two k) a 0 t) + dM (two k) a 1 t = _; rw [Int.zero_add]
theorem Pz : sj (two 0) = [⟨20, 30⟩, ⟨60, 90⟩, ⟨50, 85⟩] := by
 have ho := lA (k := 0) (by omega)
 have e := NR ho
 have h0 := (A2 (t := 0) ho (by decide)).one (kY (s := ⟨20, 30⟩) (by omega) 20 0 40 10 5 30 0 40 10 5 (by constructor <;> intros <;> omega) (by rw [lS, mW, A3]; rfl) (by constructor <;> intros <;> omega) (by rw [lS, mW, A3]; rfl) fun p q u v w h => by rw [lS, mW, A3]; have := h.hp; have := h.hq; show 20 ≤ p + q ∧ p + q ≤ 30; omega)
 have h1 := (A2 (t := 1) ho (by decide)).one (kY (s := ⟨60, 90⟩) (by omega) 20 0 40 10 5 30 0 60 10 5 (by constructor <;> intros <;> omega) (by rw [lS, mg, Az]; rfl) (by constructor <;> intros <;> omega) (by rw [lS, mg, Az]; rfl) fun p q u v w h => by rw [lS, mg, Az]; have := h.hp; have := h.hq; have := h.hu; show 60 ≤ p + u + q ∧ p + u + q ≤ 90; omega)
 have h2 := (A2 (t := 2) ho (by decide)).one (kY (s := ⟨50, 85⟩) (by omega) 20 0 40 10 10 30 0 60 10 5 (by constructor <;> intros <;> omega) (by rw [lS, lH, uR]; rfl) (by constructor <;> intros <;> omega) (by rw [lS, lH, uR]; rfl) fun p q u v w h => by rw [lS, lH, uR]; have := h.hp; have := h.hq; have := h.hu; have := h.hw; show 50 ≤ p + u - v + (q + v - w) ∧ p + u - v + (q + v - w) ≤ 85; omega)
 rw [e]
 exact Kj h0 h1 h2
theorem Qj : kr (two 1) 1 = 0 := Mk (k := 1) (lA (by omega)) (by decide)
theorem Od : mU (two 1) 1 = ⟨25, 35⟩ :=
 (JW (k := 1) (lA (k := 1) (by omega)) (by decide)).one (kY (s := ⟨25, 35⟩) (by omega) 20 0 40 25 5 20 0 40 35 10 (by constructor <;> intros <;> omega) rfl (by constructor <;> intros <;> omega) rfl fun p q u v w h => by have := h.hw; have := h.l0 (by omega) rfl; show 25 ≤ v ∧ v ≤ 35; omega)
theorem OB : 0 = kM (two 1) 0 60 (fun x => decide (x.lo ≥ 60)) ∧ fidx (fun x : Span => decide (x.lo ≥ 60)) (jE (two 1) 0) = nD (two 1) 0 60 (fun x => decide (x.lo ≥ 60)) :=
 Kg (BQ (b := 0) (nk (by omega)) (by decide)) rfl (FU (b := 0) (lA (by omega)) (by decide)) (by rw [E0]; decide)
theorem PG : nD (two 1) 0 60 (fun x => decide (x.lo ≥ 60)) = 1 := by rw [← OB.2, E0]; rfl
def xX : Dd := ⟨[⟨0, 0⟩, ⟨0, 1⟩, ⟨1, 1⟩], false⟩
theorem GD : jH (two 2) (aR (two 2) (nth bf)) xX = 1 := by kernel_rfl
theorem QC : 0 = mh (two 2) xX ∧ jH (two 2) (aR (two 2) (nth bf)) xX = uC (two 2) xX :=
 It (nk (by omega)) (by decide) (fun i hi => by
  have hi : i + 1 < 3 := hi
  have : i = 0 ∨ i = 1 := by omega
  rcases this with rfl | rfl <;> decide) (by rw [GD]; decide)
theorem P2 : uC (two 2) xX = 1 := by rw [← QC.2, GD]
theorem Jp : ¬ ∃ a, fH (two 2) (nth bf) a := by
 rintro ⟨a, ha⟩
 obtain ⟨p, q, u, v, w, rfl⟩ := Ep ha.lens
 have h := (k9 (by omega)).1 ha
 have h0 := h.l0 (by omega) rfl
 have h1 := h.l1 (by omega) rfl
 have := h.hp; have := h.hu; have := h.hw
 omega
theorem Mw : cq (two 2) = 7 := Ks (nk (by omega)) Jp
theorem vv {l : List Bool} (h : nth l 0 = false ∨ nth l 1 = false) : b8 (two 2) l = true := by
  rw [tV (zS (by omega))]
  cases h1 : nth l 1 with
  | false => exact ⟨yU 20 0 40 25 5, (k9 (by omega)).2 ⟨by omega, rfl, by omega, by omega, by omega, fun _ _ => by omega, fun _ hc => by rw [h1] at hc; cases hc⟩⟩
  | true =>
    have h0 : nth l 0 = false := h.resolve_right (by rw [h1]; decide)
    exact ⟨yU 20 0 40 40 5, (k9 (by omega)).2 ⟨by omega, rfl, by omega, by omega, by omega, fun _ hc => absurd hc (by rw [h0]; decide), fun _ _ => by omega⟩⟩
theorem Ic {l : List Bool} (h : nth l 0 = true ∧ nth l 1 = true) : b8 (two 2) l = false := by
 rw [Bool.eq_false_iff]
 intro hc
 obtain ⟨a, ha⟩ := (tV (zS (by omega))).1 hc
 obtain ⟨p, q, u, v, w, rfl⟩ := Ep ha.lens
 have hh := (k9 (by omega)).1 ha
 have h0 := hh.l0 (by omega) h.1
 have h1 := hh.l1 (by omega) h.2
 have := hh.hp; have := hh.hu; have := hh.hw
 omega
theorem zi (h : List Int → Bool) : fE h 2 = [[], [0], [1], [0, 1]].find? h := rfl
theorem RA : fE (fun l => !b8 (two 2) (bH l false)) 2 = some [0, 1] := by
 rw [zi, List.find?_cons, vv (.inl rfl)]
 show List.find? _ [[0], [1], [0, 1]] = _
 rw [List.find?_cons, vv (.inr rfl)]
 show List.find? _ [[1], [0, 1]] = _
 rw [List.find?_cons, vv (.inl rfl)]
 show List.find? _ [[0, 1]] = _
 rw [List.find?_cons, Ic ⟨rfl, rfl⟩]; rfl
theorem Q0 : fE (fun l => b8 (two 2) (bH l true)) 2 = some [0] := by
 rw [zi, List.find?_cons, Ic ⟨rfl, rfl⟩]
 show List.find? _ [[0], [1], [0, 1]] = _
 rw [List.find?_cons, vv (.inl rfl)]
theorem OV : 0 = iK (two 2) ∧ qD (fun l => !b8 (two 2) (bH l false)) 2 = fU (two 2) :=
 qg (nk (by omega)) (by show (!(fE _ 2).isSome) = false; rw [RA]; rfl)
theorem OS : 0 = iP (two 2) ∧ qD (fun l => b8 (two 2) (bH l true)) 2 = eL (two 2) :=
 qc (nk (by omega)) (by show (!(fE _ 2).isSome) = false; rw [Q0]; rfl)
theorem K9 : fU (two 2) = [0, 1] := by rw [← OV.2]; unfold qD; rw [RA]; rfl
theorem J2 : eL (two 2) = [0] := by rw [← OS.2]; unfold qD; rw [Q0]; rfl
end Go.Proofs.YtelbollidfdcjaaGreat
namespace Go.Proofs.YtelbollidfdcjaaGreat
open Go Go.T
section
variable {y : au} {c : Nat → Bool} {a : dZ} {m : List Int} {b t n : Nat} {x : Int}
theorem Dc.same {f g : dZ → Int} {s s' : Span} (h : Dc y c f s) (h' : Dc y c g s') (e : ∀ a, f a = g a) : s = s' := by
 have : f = g := funext e
 subst this; exact h.one h'
end
end Go.Proofs.YtelbollidfdcjaaGreat
namespace Go.Proofs.YtelbollidfdcjaaGreat
open Go Go.T
section
variable {y : au} {a : dZ} {c : Nat → Bool}
end
end Go.Proofs.YtelbollidfdcjaaGreat
namespace Go.Proofs.YtelbollidfdcjaaGreat
open Go Go.T
theorem PF (a b c d : Int) (w : World) : (Op.equalIn 9999 37 (.agg #[.int .i64 a, .int .i64 b]) (.agg #[.int .i64 c, .int .i64 d])).run Tryz.prog w = .ok (decide (a = c) && decide (b = d)) w := by
 have hs : Tryz.prog.stoodInHeld 37 = false := by kernel_rfl
 have e3 : ∀ (x y : Int) (w : World), (Op.equalIn 9998 3 (.int .i64 x) (.int .i64 y)).run Tryz.prog w = .ok (decide (x = y)) w := fun x y w => m7 9997 Tryz.underlying3
 have g3 : ∀ w, (isAgg 3).run Tryz.prog w = .ok false w := fun w => by simp [isAgg, run_underlying Tryz.underlying3]
 rw [Op.equalIn]
 simp only [Sem.run_bind, run_underlying Tryz.underlying37, Result.andThen_ok]
 simp [hs, part, g3, e3]
 by_cases h0 : a = c <;> by_cases h1 : b = d <;> simp [h0, h1]
theorem KW (w : World) : (isAgg 37).run Tryz.prog w = .ok true w := by simp [isAgg, run_underlying Tryz.underlying37]
theorem KT (w : World) : (sizeOf 37).run Tryz.prog w = .ok 2 w := by
 have h : (Tryz.prog.info? 37).map (·.size) = some 2 := by kernel_rfl
 obtain ⟨ti, h1, h2⟩ := Option.map_eq_some_iff.1 h
 simp [sizeOf, typeInfo, h1, h2]
theorem Q9 (a0 a1 a2 b0 b1 b2 : Int) (w : World) : (Op.equal 39 (.agg #[.int .i64 a0, .int .i64 a1, .int .i64 a2]) (.agg #[.int .i64 b0, .int .i64 b1, .int .i64 b2])).run Tryz.prog w = .ok (decide (a0 = b0) && (decide (a1 = b1) && decide (a2 = b2))) w := by
 have hs : Tryz.prog.stoodInHeld 39 = false := by kernel_rfl
 have e3 : ∀ (x y : Int) (w : World), (Op.equalIn 9999 3 (.int .i64 x) (.int .i64 y)).run Tryz.prog w = .ok (decide (x = y)) w := fun x y w => m7 9998 Tryz.underlying3
 have g3 : ∀ w, (isAgg 3).run Tryz.prog w = .ok false w := fun w => by simp [isAgg, run_underlying Tryz.underlying3]
 unfold Op.equal Op.maxDepth
 rw [Op.equalIn]
 simp only [Sem.run_bind, run_underlying Tryz.underlying39, Result.andThen_ok]
 simp [hs, part, g3, e3, KW, KT, PF]
 by_cases h0 : a0 = b0
 case neg => simp [h0]
 cases hq : (decide (a1 = b1) && decide (a2 = b2)) <;> simp_all
theorem QH (a0 a1 a2 b0 b1 b2 : Int) : JX Tryz.prog 39 [Ty.int .i64 a0, Ty.int .i64 a1, Ty.int .i64 a2] [Ty.int .i64 b0, Ty.int .i64 b1, Ty.int .i64 b2] (decide (a0 = b0) && (decide (a1 = b1) && decide (a2 = b2))) :=
  ⟨by kernel_rfl, fun w M cs ds h1 h2 => by
    obtain ⟨cs⟩ := cs
    obtain ⟨ds⟩ := ds
    match cs, ds, h1, h2 with
    | [u0, u1, u2], [v0, v1, v2], h1, h2 =>
      simp only [cI, Ty.int, gL, and_true] at h1 h2
      obtain ⟨rfl, rfl, rfl⟩ := h1
      obtain ⟨rfl, rfl, rfl⟩ := h2
      exact Q9 _ _ _ _ _ _ w⟩
theorem QM (a0 a1 a2 a3 a4 b0 b1 b2 b3 b4 : Int) (w : World) : (Op.equal 41 (.agg #[.int .i64 a0, .int .i64 a1, .int .i64 a2, .int .i64 a3, .int .i64 a4]) (.agg #[.int .i64 b0, .int .i64 b1, .int .i64 b2, .int .i64 b3, .int .i64 b4])).run Tryz.prog w = .ok (decide (a0 = b0) && (decide (a1 = b1) && (decide (a2 = b2) && (decide (a3 = b3) && decide (a4 = b4))))) w := by
 have hs : Tryz.prog.stoodInHeld 41 = false := by kernel_rfl
 have e3 : ∀ (x y : Int) (w : World), (Op.equalIn 9999 3 (.int .i64 x) (.int .i64 y)).run Tryz.prog w = .ok (decide (x = y)) w := fun x y w => m7 9998 Tryz.underlying3
 have g3 : ∀ w, (isAgg 3).run Tryz.prog w = .ok false w := fun w => by simp [isAgg, run_underlying Tryz.underlying3]
 unfold Op.equal Op.maxDepth
 rw [Op.equalIn]
 simp only [Sem.run_bind, run_underlying Tryz.underlying41, Result.andThen_ok]
 simp [hs, part, g3, e3, KW, KT, PF]
 by_cases h0 : a0 = b0
 case neg => simp [h0]
 by_cases h1 : a1 = b1
 case neg => simp [h1]
 by_cases h2 : a2 = b2
 case neg => simp [h2]
 cases hq : (decide (a3 = b3) && decide (a4 = b4)) <;> simp_all
theorem QU (a0 a1 a2 a3 a4 b0 b1 b2 b3 b4 : Int) : JX Tryz.prog 41 [Ty.int .i64 a0, Ty.int .i64 a1, Ty.int .i64 a2, Ty.int .i64 a3, Ty.int .i64 a4] [Ty.int .i64 b0, Ty.int .i64 b1, Ty.int .i64 b2, Ty.int .i64 b3, Ty.int .i64 b4] (decide (a0 = b0) && (decide (a1 = b1) && (decide (a2 = b2) && (decide (a3 = b3) && decide (a4 = b4))))) :=
  ⟨by kernel_rfl, fun w M cs ds h1 h2 => by
    obtain ⟨cs⟩ := cs
    obtain ⟨ds⟩ := ds
    match cs, ds, h1, h2 with
    | [u0, u1, u2, u3, u4], [v0, v1, v2, v3, v4], h1, h2 =>
      simp only [cI, Ty.int, gL, and_true] at h1 h2
      obtain ⟨rfl, rfl, rfl, rfl, rfl⟩ := h1
      obtain ⟨rfl, rfl, rfl, rfl, rfl⟩ := h2
      exact QM _ _ _ _ _ _ _ _ _ _ w⟩
theorem Ov (a0 a1 a2 a3 b0 b1 b2 b3 : Int) (w : World) : (Op.equal 102 (.agg #[.int .i64 a0, .int .i64 a1, .int .i64 a2, .int .i64 a3]) (.agg #[.int .i64 b0, .int .i64 b1, .int .i64 b2, .int .i64 b3])).run Tryz.prog w = .ok (decide (a0 = b0) && (decide (a1 = b1) && (decide (a2 = b2) && decide (a3 = b3)))) w := by
 have hs : Tryz.prog.stoodInHeld 102 = false := by kernel_rfl
 have e3 : ∀ (x y : Int) (w : World), (Op.equalIn 9999 3 (.int .i64 x) (.int .i64 y)).run Tryz.prog w = .ok (decide (x = y)) w := fun x y w => m7 9998 Tryz.underlying3
 have g3 : ∀ w, (isAgg 3).run Tryz.prog w = .ok false w := fun w => by simp [isAgg, run_underlying Tryz.underlying3]
 unfold Op.equal Op.maxDepth
 rw [Op.equalIn]
 simp only [Sem.run_bind, run_underlying Tryz.underlying102, Result.andThen_ok]
 simp [hs, part, g3, e3, KW, KT, PF]
 by_cases h0 : a0 = b0
 case neg => simp [h0]
 by_cases h1 : a1 = b1
 case neg => simp [h1]
 cases hq : (decide (a2 = b2) && decide (a3 = b3)) <;> simp_all
theorem O8 (a0 a1 a2 a3 b0 b1 b2 b3 : Int) : JX Tryz.prog 102 [Ty.int .i64 a0, Ty.int .i64 a1, Ty.int .i64 a2, Ty.int .i64 a3] [Ty.int .i64 b0, Ty.int .i64 b1, Ty.int .i64 b2, Ty.int .i64 b3] (decide (a0 = b0) && (decide (a1 = b1) && (decide (a2 = b2) && decide (a3 = b3)))) :=
  ⟨by kernel_rfl, fun w M cs ds h1 h2 => by
    obtain ⟨cs⟩ := cs
    obtain ⟨ds⟩ := ds
    match cs, ds, h1, h2 with
    | [u0, u1, u2, u3], [v0, v1, v2, v3], h1, h2 =>
      simp only [cI, Ty.int, gL, and_true] at h1 h2
      obtain ⟨rfl, rfl, rfl, rfl⟩ := h1
      obtain ⟨rfl, rfl, rfl, rfl⟩ := h2
      exact Ov _ _ _ _ _ _ _ _ w⟩
theorem xg (a b : Span) : (decide (a.lo = b.lo) && decide (a.hi = b.hi)) = decide (a = b) := by
 cases a; cases b; rw [Bool.eq_iff_iff]; simp
theorem JV (a b : tC) : (decide (a.holds = b.holds) && (decide (a.first.lo = b.first.lo) && decide (a.first.hi = b.first.hi))) = decide (a = b) := by
 rw [xg]; cases a; cases b; rw [Bool.eq_iff_iff]; simp
theorem I6 (a b : Move) : (decide (a.day = b.day) && (decide (a.src = b.src) && (decide (a.dst = b.dst) && (decide (a.sacks.lo = b.sacks.lo) && decide (a.sacks.hi = b.sacks.hi))))) = decide (a = b) := by
 rw [xg]; cases a; cases b; rw [Bool.eq_iff_iff]; simp
theorem Kf (a b : Level) : (decide (a.day = b.day) && (decide (a.bin = b.bin) && (decide (a.sacks.lo = b.sacks.lo) && decide (a.sacks.hi = b.sacks.hi)))) = decide (a = b) := by
 rw [xg]; cases a; cases b; rw [Bool.eq_iff_iff]; simp
end Go.Proofs.YtelbollidfdcjaaGreat
namespace Go.Proofs.YtelbollidfdcjaaGreat
open Go Go.T
set_option maxHeartbeats 2000000
attribute [local irreducible] gL eX lN nh gy g6 gu gw gx nj gr ni dN fX nH fu nZ nth fP dQ bA dJ bodyPost Exit.then Exit.inBlock Code.wp Code.wpIn nW g7 nY nV g8 eP cL cM bodyPostM dR
set_option maxRecDepth 100000 in
theorem Hj (l : List Int) (h : l.length ≤ 1000) : dJ Tryz.prog 39 [Ty.sl cT l] (Ty.sl cT l) := by
 refine ak Tryz.func39 rfl (by decide) Tryz.ntmps39 (by exact Nat.le_of_ble_eq_true rfl) fun w0 M0 => ?_
 refine aE (aA (lE rfl (aD (aC (aE (aA (eA rfl (cD rfl rfl rfl ?_))))))))
 refine vl (E := cT) rfl rfl rfl rfl rfl rfl rfl (by decide) rfl (by omega) (by (dsimp only; omega)) (by omega) ?_
 refine eA rfl ?_
 refine dj rfl rfl (by decide) rfl rfl rfl rfl rfl rfl (by decide) (by (simp <;> omega)) (by (simp <;> omega)) ?_
 refine yW rfl (aD (aC (az (bR rfl rfl ?_))))
 all_goals exact oP (by decide)
set_option maxRecDepth 100000 in
theorem B3 (a b : List Int) : dJ Tryz.prog 116 [Ty.sl cT a, Ty.sl cT b] (Ty.bool (decide (a = b))) := by
 refine ak Tryz.func116 rfl (by decide) Tryz.ntmps116 (by exact Nat.le_of_ble_eq_true rfl) fun w0 M0 => ?_
 refine gJ (s := 0) rfl rfl gK fun ha => ?_
 refine gJ (s := 1) rfl rfl gK fun hb => ?_
 refine aE (aA (cm rfl (aD (aC (aE (aE (aA (eA rfl (cD rfl rfl rfl ?_)))))))))
 refine eA rfl (cD rfl rfl rfl (bB rfl rfl rfl (aD (aC ?_))))
 refine cx rfl (fun hc1 => ?_) (fun hc1 => ?_)
 ·
  try (simp only [Classical.not_not] at hc1)
  refine aE (aA (cm rfl (aD (aC (az (aQ (bR rfl rfl ?_)))))))
  all_goals skip
  exact av rfl rfl (congrArg Ty.bool (by rw [eq_comm, decide_eq_false_iff_not]; intro e; subst e; exact hc1 rfl))
 try (simp only [Classical.not_not] at hc1)
 refine aj (aC (aE (aE (aA (eA rfl (cD rfl rfl rfl (bF rfl (aD (aC ?_)))))))))
 refine aY ?_
 refine b9 (fun (k : {k : Nat // a.take k = b.take k}) => live [(0, Ty.sl cT a), (1, Ty.sl cT b), (12, Ty.int .i64 a.length), (13, Ty.int .i64 (k.1 : Nat))] []) (fun k => a.length - k.1) (⟨0, by simp⟩) ?_ fun k => ?_
 ·(refine cg.mk' ?_ ?_ <;> (repeat' (first | exact aI | exact aH | refine aB ?_ (Ty.aT _) | refine aB ?_ (Ty.aF _))))
 have hlen : a.length = b.length := by omega
 refine aE (aA (bB rfl rfl rfl (aD (aC (aE ?_)))))
 refine ah rfl (fun hc2 => ?_) (fun hc2 => ?_)
 ·
  try (simp only [Classical.not_not] at hc2)
  refine aj (aC (aE (aY (aE (aA (bF rfl (bZ rfl (aD (aC ?_)))))))))
  refine aE (cP mixed rfl (eA rfl (bF rfl ?_)))
  refine aq rfl rfl rfl rfl rfl rfl (by omega) ?_
  refine aJ rfl rfl rfl rfl (eA rfl (bF rfl ?_))
  refine aq rfl rfl rfl rfl rfl rfl (by omega) ?_
  refine aJ rfl rfl rfl rfl (bB rfl rfl rfl (aD ?_))
  refine ⟨by kernel_rfl, ?_⟩
  refine aC ?_
  refine cx rfl (fun hc3 => ?_) (fun hc3 => ?_)
  ·
   try (simp only [Classical.not_not] at hc3)
   refine aE (aA (cm rfl (aD (aC (az (ay (aQ (aQ (ay ?_)))))))))
   refine aQ (bR rfl rfl ?_)
   all_goals skip
   exact av rfl rfl (congrArg Ty.bool (by rw [eq_comm, decide_eq_false_iff_not]; exact nA (k := k.1) (hc3)))
  try (simp only [Classical.not_not] at hc3)
  refine aj (bI (aC (aA ?_)))
  refine bq rfl rfl (by omega) (by omega) ?_
  refine bF rfl (aD ?_)
  refine bM (⟨k.1 + 1, by rw [cQ (by omega), cQ (by omega), k.2, hc3]⟩) ?_ (by show a.length - (k.1 + 1) < a.length - k.1; omega)
  (refine cg.mk' ?_ ?_ <;> (repeat' (first | exact aI | exact aH | refine aB ?_ (Ty.aT _) | refine aB ?_ (Ty.aF _))))
  all_goals skip
 try (simp only [Classical.not_not] at hc2)
 refine bz (aP (aP (aa rfl (aC (aE (aA (cm rfl (aD (aC ?_)))))))))
 refine az (bR rfl rfl ?_)
 all_goals skip
 exact av rfl rfl (congrArg Ty.bool (by rw [eq_comm, decide_eq_true_eq]; have := k.2; rwa [List.take_of_length_le (by omega), List.take_of_length_le (by omega)] at this))
set_option maxRecDepth 100000 in
theorem o7 (a b : List Int) : dJ Tryz.prog 46 [Ty.sl cT a, Ty.sl cT b] (Ty.bool (decide (a = b))) := by
 refine ak Tryz.func46 rfl (by decide) Tryz.ntmps46 (by exact Nat.le_of_ble_eq_true rfl) fun w0 M0 => ?_
 refine aE (aA (cm rfl (aD (aC (aE (aA (eA rfl (eA rfl (af (B3 _ _) rfl rfl rfl rfl rfl ?_)))))))))
 refine cm rfl (aD (aC (az (bR rfl rfl ?_))))
 all_goals exact cG rfl rfl
set_option maxRecDepth 100000 in
theorem Cg (a b : List Span) : dJ Tryz.prog 123 [Ty.sl bw a, Ty.sl bw b] (Ty.bool (decide (a = b))) := by
 refine ak Tryz.func123 rfl (by decide) Tryz.ntmps123 (by exact Nat.le_of_ble_eq_true rfl) fun w0 M0 => ?_
 refine gJ (s := 0) rfl rfl gK fun ha => ?_
 refine gJ (s := 1) rfl rfl gK fun hb => ?_
 refine aE (aA (cm rfl (aD (aC (aE (aE (aA (eA rfl (cD rfl rfl rfl ?_)))))))))
 refine eA rfl (cD rfl rfl rfl (bB rfl rfl rfl (aD (aC ?_))))
 refine cx rfl (fun hc1 => ?_) (fun hc1 => ?_)
 ·
  try (simp only [Classical.not_not] at hc1)
  refine aE (aA (cm rfl (aD (aC (az (aQ (bR rfl rfl ?_)))))))
  all_goals skip
  exact av rfl rfl (congrArg Ty.bool (by rw [eq_comm, decide_eq_false_iff_not]; intro e; subst e; exact hc1 rfl))
 try (simp only [Classical.not_not] at hc1)
 refine aj (aC (aE (aE (aA (eA rfl (cD rfl rfl rfl (bF rfl (aD (aC ?_)))))))))
 refine aY ?_
 refine b9 (fun (k : {k : Nat // a.take k = b.take k}) => live [(0, Ty.sl bw a), (1, Ty.sl bw b), (12, Ty.int .i64 a.length), (13, Ty.int .i64 (k.1 : Nat))] []) (fun k => a.length - k.1) (⟨0, by simp⟩) ?_ fun k => ?_
 ·(refine cg.mk' ?_ ?_ <;> (repeat' (first | exact aI | exact aH | refine aB ?_ (Ty.aT _) | refine aB ?_ (Ty.aF _))))
 have hlen : a.length = b.length := by omega
 refine aE (aA (bB rfl rfl rfl (aD (aC (aE ?_)))))
 refine ah rfl (fun hc2 => ?_) (fun hc2 => ?_)
 ·
  try (simp only [Classical.not_not] at hc2)
  refine aj (aC (aE (aY (aE (aA (bF rfl (bZ rfl (aD (aC ?_)))))))))
  refine aE (cP mixed rfl (eA rfl (bF rfl ?_)))
  refine aq rfl rfl rfl rfl rfl rfl (by omega) ?_
  refine aX rfl rfl rfl (by exact Nat.le_of_ble_eq_true rfl) ?_
  refine eA rfl (bF rfl ?_)
  refine aq rfl rfl rfl rfl rfl rfl (by omega) ?_
  refine aX rfl rfl rfl (by exact Nat.le_of_ble_eq_true rfl) ?_
  refine sD (OM _ _ _ _) rfl rfl (aD ?_)
  refine ⟨by kernel_rfl, ?_⟩
  refine aC ?_
  refine cH rfl (fun hc3 => ?_) (fun hc3 => ?_)
  ·
   try (simp only [Classical.not_not] at hc3)
   refine aE (aA (cm rfl (aD (aC (az (ay (aQ (aQ (ay ?_)))))))))
   refine aQ (bR rfl rfl ?_)
   all_goals skip
   exact av rfl rfl (congrArg Ty.bool (by rw [eq_comm, decide_eq_false_iff_not]; exact nA (k := k.1) (of_decide_eq_false (by rw [← xg]; exact l9 hc3))))
  try (simp only [Classical.not_not] at hc3)
  refine aj (bI (aC (aA ?_)))
  refine bq rfl rfl (by omega) (by omega) ?_
  refine bF rfl (aD ?_)
  refine bM (⟨k.1 + 1, by have e : nth a k.1 = nth b k.1 := of_decide_eq_true (by rw [← xg]; exact ew hc3); rw [cQ (by omega), cQ (by omega), k.2, e]⟩) ?_ (by show a.length - (k.1 + 1) < a.length - k.1; omega)
  (refine cg.mk' ?_ ?_ <;> (repeat' (first | exact aI | exact aH | refine aB ?_ (Ty.aT _) | refine aB ?_ (Ty.aF _))))
  all_goals skip
 try (simp only [Classical.not_not] at hc2)
 refine bz (aP (aP (aa rfl (aC (aE (aA (cm rfl (aD (aC ?_)))))))))
 refine az (bR rfl rfl ?_)
 all_goals skip
 exact av rfl rfl (congrArg Ty.bool (by rw [eq_comm, decide_eq_true_eq]; have := k.2; rwa [List.take_of_length_le (by omega), List.take_of_length_le (by omega)] at this))
set_option maxRecDepth 100000 in
theorem DD (a b : List Span) : dJ Tryz.prog 50 [Ty.sl bw a, Ty.sl bw b] (Ty.bool (decide (a = b))) := by
 refine ak Tryz.func50 rfl (by decide) Tryz.ntmps50 (by exact Nat.le_of_ble_eq_true rfl) fun w0 M0 => ?_
 refine aE (aA (cm rfl (aD (aC (aE (aA (eA rfl (eA rfl (af (Cg _ _) rfl rfl rfl rfl rfl ?_)))))))))
 refine cm rfl (aD (aC (az (bR rfl rfl ?_))))
 all_goals exact cG rfl rfl
set_option maxRecDepth 100000 in
theorem H6 (l : List tC) (h : l.length ≤ 1000) : dJ Tryz.prog 19 [Ty.sl fN l] (Ty.sl fN l) := by
 refine ak Tryz.func19 rfl (by decide) Tryz.ntmps19 (by exact Nat.le_of_ble_eq_true rfl) fun w0 M0 => ?_
 refine aE (aA (lE rfl (aD (aC (aE (aA (eA rfl (cD rfl rfl rfl ?_))))))))
 refine vl (E := fN) rfl rfl rfl rfl rfl rfl rfl (by decide) rfl (by omega) (by (dsimp only; omega)) (by omega) ?_
 refine eA rfl ?_
 refine dj rfl rfl (by decide) rfl rfl rfl rfl rfl rfl (by decide) (by (simp <;> omega)) (by (simp <;> omega)) ?_
 refine yW rfl (aD (aC (az (bR rfl rfl ?_))))
 all_goals exact oP (by decide)
set_option maxRecDepth 100000 in
theorem CN (a b : List tC) : dJ Tryz.prog 167 [Ty.sl fN a, Ty.sl fN b] (Ty.bool (decide (a = b))) := by
 refine ak Tryz.func167 rfl (by decide) Tryz.ntmps167 (by exact Nat.le_of_ble_eq_true rfl) fun w0 M0 => ?_
 refine gJ (s := 0) rfl rfl gK fun ha => ?_
 refine gJ (s := 1) rfl rfl gK fun hb => ?_
 refine aE (aA (cm rfl (aD (aC (aE (aE (aA (eA rfl (cD rfl rfl rfl ?_)))))))))
 refine eA rfl (cD rfl rfl rfl (bB rfl rfl rfl (aD (aC ?_))))
 refine cx rfl (fun hc1 => ?_) (fun hc1 => ?_)
 ·
  try (simp only [Classical.not_not] at hc1)
  refine aE (aA (cm rfl (aD (aC (az (aQ (bR rfl rfl ?_)))))))
  all_goals skip
  exact av rfl rfl (congrArg Ty.bool (by rw [eq_comm, decide_eq_false_iff_not]; intro e; subst e; exact hc1 rfl))
 try (simp only [Classical.not_not] at hc1)
 refine aj (aC (aE (aE (aA (eA rfl (cD rfl rfl rfl (bF rfl (aD (aC ?_)))))))))
 refine aY ?_
 refine b9 (fun (k : {k : Nat // a.take k = b.take k}) => live [(0, Ty.sl fN a), (1, Ty.sl fN b), (12, Ty.int .i64 a.length), (13, Ty.int .i64 (k.1 : Nat))] []) (fun k => a.length - k.1) (⟨0, by simp⟩) ?_ fun k => ?_
 ·(refine cg.mk' ?_ ?_ <;> (repeat' (first | exact aI | exact aH | refine aB ?_ (Ty.aT _) | refine aB ?_ (Ty.aF _))))
 have hlen : a.length = b.length := by omega
 refine aE (aA (bB rfl rfl rfl (aD (aC (aE ?_)))))
 refine ah rfl (fun hc2 => ?_) (fun hc2 => ?_)
 ·
  try (simp only [Classical.not_not] at hc2)
  refine aj (aC (aE (aY (aE (aA (bF rfl (bZ rfl (aD (aC ?_)))))))))
  refine aE (cP mixed rfl (eA rfl (bF rfl ?_)))
  refine aq rfl rfl rfl rfl rfl rfl (by omega) ?_
  refine aX rfl rfl rfl (by exact Nat.le_of_ble_eq_true rfl) ?_
  refine eA rfl (bF rfl ?_)
  refine aq rfl rfl rfl rfl rfl rfl (by omega) ?_
  refine aX rfl rfl rfl (by exact Nat.le_of_ble_eq_true rfl) ?_
  refine sD (QH _ _ _ _ _ _) rfl rfl (aD ?_)
  refine ⟨by kernel_rfl, ?_⟩
  refine aC ?_
  refine cH rfl (fun hc3 => ?_) (fun hc3 => ?_)
  ·
   try (simp only [Classical.not_not] at hc3)
   refine aE (aA (cm rfl (aD (aC (az (ay (aQ (aQ (ay ?_)))))))))
   refine aQ (bR rfl rfl ?_)
   all_goals skip
   exact av rfl rfl (congrArg Ty.bool (by rw [eq_comm, decide_eq_false_iff_not]; exact nA (k := k.1) (of_decide_eq_false (by rw [← JV]; exact l9 hc3))))
  try (simp only [Classical.not_not] at hc3)
  refine aj (bI (aC (aA ?_)))
  refine bq rfl rfl (by omega) (by omega) ?_
  refine bF rfl (aD ?_)
  refine bM (⟨k.1 + 1, by have e : nth a k.1 = nth b k.1 := of_decide_eq_true (by rw [← JV]; exact ew hc3); rw [cQ (by omega), cQ (by omega), k.2, e]⟩) ?_ (by show a.length - (k.1 + 1) < a.length - k.1; omega)
  (refine cg.mk' ?_ ?_ <;> (repeat' (first | exact aI | exact aH | refine aB ?_ (Ty.aT _) | refine aB ?_ (Ty.aF _))))
  all_goals skip
 try (simp only [Classical.not_not] at hc2)
 refine bz (aP (aP (aa rfl (aC (aE (aA (cm rfl (aD (aC ?_)))))))))
 refine az (bR rfl rfl ?_)
 all_goals skip
 exact av rfl rfl (congrArg Ty.bool (by rw [eq_comm, decide_eq_true_eq]; have := k.2; rwa [List.take_of_length_le (by omega), List.take_of_length_le (by omega)] at this))
set_option maxRecDepth 100000 in
theorem KD (a b : List tC) : dJ Tryz.prog 103 [Ty.sl fN a, Ty.sl fN b] (Ty.bool (decide (a = b))) := by
 refine ak Tryz.func103 rfl (by decide) Tryz.ntmps103 (by exact Nat.le_of_ble_eq_true rfl) fun w0 M0 => ?_
 refine aE (aA (cm rfl (aD (aC (aE (aA (eA rfl (eA rfl (af (CN _ _) rfl rfl rfl rfl rfl ?_)))))))))
 refine cm rfl (aD (aC (az (bR rfl rfl ?_))))
 all_goals exact cG rfl rfl
set_option maxRecDepth 100000 in
theorem Hu (l : List Move) (h : l.length ≤ 1000) : dJ Tryz.prog 95 [Ty.sl eH l] (Ty.sl eH l) := by
 refine ak Tryz.func95 rfl (by decide) Tryz.ntmps95 (by exact Nat.le_of_ble_eq_true rfl) fun w0 M0 => ?_
 refine aE (aA (lE rfl (aD (aC (aE (aA (eA rfl (cD rfl rfl rfl ?_))))))))
 refine vl (E := eH) rfl rfl rfl rfl rfl rfl rfl (by decide) rfl (by omega) (by (dsimp only; omega)) (by omega) ?_
 refine eA rfl ?_
 refine dj rfl rfl (by decide) rfl rfl rfl rfl rfl rfl (by decide) (by (simp <;> omega)) (by (simp <;> omega)) ?_
 refine yW rfl (aD (aC (az (bR rfl rfl ?_))))
 all_goals exact oP (by decide)
set_option maxRecDepth 100000 in
theorem DI (a b : List Move) : dJ Tryz.prog 168 [Ty.sl eH a, Ty.sl eH b] (Ty.bool (decide (a = b))) := by
 refine ak Tryz.func168 rfl (by decide) Tryz.ntmps168 (by exact Nat.le_of_ble_eq_true rfl) fun w0 M0 => ?_
 refine gJ (s := 0) rfl rfl gK fun ha => ?_
 refine gJ (s := 1) rfl rfl gK fun hb => ?_
 refine aE (aA (cm rfl (aD (aC (aE (aE (aA (eA rfl (cD rfl rfl rfl ?_)))))))))
 refine eA rfl (cD rfl rfl rfl (bB rfl rfl rfl (aD (aC ?_))))
 refine cx rfl (fun hc1 => ?_) (fun hc1 => ?_)
 ·
  try (simp only [Classical.not_not] at hc1)
  refine aE (aA (cm rfl (aD (aC (az (aQ (bR rfl rfl ?_)))))))
  all_goals skip
  exact av rfl rfl (congrArg Ty.bool (by rw [eq_comm, decide_eq_false_iff_not]; intro e; subst e; exact hc1 rfl))
 try (simp only [Classical.not_not] at hc1)
 refine aj (aC (aE (aE (aA (eA rfl (cD rfl rfl rfl (bF rfl (aD (aC ?_)))))))))
 refine aY ?_
 refine b9 (fun (k : {k : Nat // a.take k = b.take k}) => live [(0, Ty.sl eH a), (1, Ty.sl eH b), (12, Ty.int .i64 a.length), (13, Ty.int .i64 (k.1 : Nat))] []) (fun k => a.length - k.1) (⟨0, by simp⟩) ?_ fun k => ?_
 ·(refine cg.mk' ?_ ?_ <;> (repeat' (first | exact aI | exact aH | refine aB ?_ (Ty.aT _) | refine aB ?_ (Ty.aF _))))
 have hlen : a.length = b.length := by omega
 refine aE (aA (bB rfl rfl rfl (aD (aC (aE ?_)))))
 refine ah rfl (fun hc2 => ?_) (fun hc2 => ?_)
 ·
  try (simp only [Classical.not_not] at hc2)
  refine aj (aC (aE (aY (aE (aA (bF rfl (bZ rfl (aD (aC ?_)))))))))
  refine aE (cP mixed rfl (eA rfl (bF rfl ?_)))
  refine aq rfl rfl rfl rfl rfl rfl (by omega) ?_
  refine aX rfl rfl rfl (by exact Nat.le_of_ble_eq_true rfl) ?_
  refine eA rfl (bF rfl ?_)
  refine aq rfl rfl rfl rfl rfl rfl (by omega) ?_
  refine aX rfl rfl rfl (by exact Nat.le_of_ble_eq_true rfl) ?_
  refine sD (QU _ _ _ _ _ _ _ _ _ _) rfl rfl (aD ?_)
  refine ⟨by kernel_rfl, ?_⟩
  refine aC ?_
  refine cH rfl (fun hc3 => ?_) (fun hc3 => ?_)
  ·
   try (simp only [Classical.not_not] at hc3)
   refine aE (aA (cm rfl (aD (aC (az (ay (aQ (aQ (ay ?_)))))))))
   refine aQ (bR rfl rfl ?_)
   all_goals skip
   exact av rfl rfl (congrArg Ty.bool (by rw [eq_comm, decide_eq_false_iff_not]; exact nA (k := k.1) (of_decide_eq_false (by rw [← I6]; exact l9 hc3))))
  try (simp only [Classical.not_not] at hc3)
  refine aj (bI (aC (aA ?_)))
  refine bq rfl rfl (by omega) (by omega) ?_
  refine bF rfl (aD ?_)
  refine bM (⟨k.1 + 1, by have e : nth a k.1 = nth b k.1 := of_decide_eq_true (by rw [← I6]; exact ew hc3); rw [cQ (by omega), cQ (by omega), k.2, e]⟩) ?_ (by show a.length - (k.1 + 1) < a.length - k.1; omega)
  (refine cg.mk' ?_ ?_ <;> (repeat' (first | exact aI | exact aH | refine aB ?_ (Ty.aT _) | refine aB ?_ (Ty.aF _))))
  all_goals skip
 try (simp only [Classical.not_not] at hc2)
 refine bz (aP (aP (aa rfl (aC (aE (aA (cm rfl (aD (aC ?_)))))))))
 refine az (bR rfl rfl ?_)
 all_goals skip
 exact av rfl rfl (congrArg Ty.bool (by rw [eq_comm, decide_eq_true_eq]; have := k.2; rwa [List.take_of_length_le (by omega), List.take_of_length_le (by omega)] at this))
set_option maxRecDepth 100000 in
theorem Jc (a b : List Move) : dJ Tryz.prog 104 [Ty.sl eH a, Ty.sl eH b] (Ty.bool (decide (a = b))) := by
 refine ak Tryz.func104 rfl (by decide) Tryz.ntmps104 (by exact Nat.le_of_ble_eq_true rfl) fun w0 M0 => ?_
 refine aE (aA (cm rfl (aD (aC (aE (aA (eA rfl (eA rfl (af (DI _ _) rfl rfl rfl rfl rfl ?_)))))))))
 refine cm rfl (aD (aC (az (bR rfl rfl ?_))))
 all_goals exact cG rfl rfl
set_option maxRecDepth 100000 in
theorem Hg (l : List Level) (h : l.length ≤ 1000) : dJ Tryz.prog 96 [Ty.sl dX l] (Ty.sl dX l) := by
 refine ak Tryz.func96 rfl (by decide) Tryz.ntmps96 (by exact Nat.le_of_ble_eq_true rfl) fun w0 M0 => ?_
 refine aE (aA (lE rfl (aD (aC (aE (aA (eA rfl (cD rfl rfl rfl ?_))))))))
 refine vl (E := dX) rfl rfl rfl rfl rfl rfl rfl (by decide) rfl (by omega) (by (dsimp only; omega)) (by omega) ?_
 refine eA rfl ?_
 refine dj rfl rfl (by decide) rfl rfl rfl rfl rfl rfl (by decide) (by (simp <;> omega)) (by (simp <;> omega)) ?_
 refine yW rfl (aD (aC (az (bR rfl rfl ?_))))
 all_goals exact oP (by decide)
set_option maxRecDepth 100000 in
theorem CG (a b : List Level) : dJ Tryz.prog 169 [Ty.sl dX a, Ty.sl dX b] (Ty.bool (decide (a = b))) := by
 refine ak Tryz.func169 rfl (by decide) Tryz.ntmps169 (by exact Nat.le_of_ble_eq_true rfl) fun w0 M0 => ?_
 refine gJ (s := 0) rfl rfl gK fun ha => ?_
 refine gJ (s := 1) rfl rfl gK fun hb => ?_
 refine aE (aA (cm rfl (aD (aC (aE (aE (aA (eA rfl (cD rfl rfl rfl ?_)))))))))
 refine eA rfl (cD rfl rfl rfl (bB rfl rfl rfl (aD (aC ?_))))
 refine cx rfl (fun hc1 => ?_) (fun hc1 => ?_)
 ·
  try (simp only [Classical.not_not] at hc1)
  refine aE (aA (cm rfl (aD (aC (az (aQ (bR rfl rfl ?_)))))))
  all_goals skip
  exact av rfl rfl (congrArg Ty.bool (by rw [eq_comm, decide_eq_false_iff_not]; intro e; subst e; exact hc1 rfl))
 try (simp only [Classical.not_not] at hc1)
 refine aj (aC (aE (aE (aA (eA rfl (cD rfl rfl rfl (bF rfl (aD (aC ?_)))))))))
 refine aY ?_
 refine b9 (fun (k : {k : Nat // a.take k = b.take k}) => live [(0, Ty.sl dX a), (1, Ty.sl dX b), (12, Ty.int .i64 a.length), (13, Ty.int .i64 (k.1 : Nat))] []) (fun k => a.length - k.1) (⟨0, by simp⟩) ?_ fun k => ?_
 ·(refine cg.mk' ?_ ?_ <;> (repeat' (first | exact aI | exact aH | refine aB ?_ (Ty.aT _) | refine aB ?_ (Ty.aF _))))
 have hlen : a.length = b.length := by omega
 refine aE (aA (bB rfl rfl rfl (aD (aC (aE ?_)))))
 refine ah rfl (fun hc2 => ?_) (fun hc2 => ?_)
 ·
  try (simp only [Classical.not_not] at hc2)
  refine aj (aC (aE (aY (aE (aA (bF rfl (bZ rfl (aD (aC ?_)))))))))
  refine aE (cP mixed rfl (eA rfl (bF rfl ?_)))
  refine aq rfl rfl rfl rfl rfl rfl (by omega) ?_
  refine aX rfl rfl rfl (by exact Nat.le_of_ble_eq_true rfl) ?_
  refine eA rfl (bF rfl ?_)
  refine aq rfl rfl rfl rfl rfl rfl (by omega) ?_
  refine aX rfl rfl rfl (by exact Nat.le_of_ble_eq_true rfl) ?_
  refine sD (O8 _ _ _ _ _ _ _ _) rfl rfl (aD ?_)
  refine ⟨by kernel_rfl, ?_⟩
  refine aC ?_
  refine cH rfl (fun hc3 => ?_) (fun hc3 => ?_)
  ·
   try (simp only [Classical.not_not] at hc3)
   refine aE (aA (cm rfl (aD (aC (az (ay (aQ (aQ (ay ?_)))))))))
   refine aQ (bR rfl rfl ?_)
   all_goals skip
   exact av rfl rfl (congrArg Ty.bool (by rw [eq_comm, decide_eq_false_iff_not]; exact nA (k := k.1) (of_decide_eq_false (by rw [← Kf]; exact l9 hc3))))
  try (simp only [Classical.not_not] at hc3)
  refine aj (bI (aC (aA ?_)))
  refine bq rfl rfl (by omega) (by omega) ?_
  refine bF rfl (aD ?_)
  refine bM (⟨k.1 + 1, by have e : nth a k.1 = nth b k.1 := of_decide_eq_true (by rw [← Kf]; exact ew hc3); rw [cQ (by omega), cQ (by omega), k.2, e]⟩) ?_ (by show a.length - (k.1 + 1) < a.length - k.1; omega)
  (refine cg.mk' ?_ ?_ <;> (repeat' (first | exact aI | exact aH | refine aB ?_ (Ty.aT _) | refine aB ?_ (Ty.aF _))))
  all_goals skip
 try (simp only [Classical.not_not] at hc2)
 refine bz (aP (aP (aa rfl (aC (aE (aA (cm rfl (aD (aC ?_)))))))))
 refine az (bR rfl rfl ?_)
 all_goals skip
 exact av rfl rfl (congrArg Ty.bool (by rw [eq_comm, decide_eq_true_eq]; have := k.2; rwa [List.take_of_length_le (by omega), List.take_of_length_le (by omega)] at this))
set_option maxRecDepth 100000 in
theorem LU (a b : List Level) : dJ Tryz.prog 105 [Ty.sl dX a, Ty.sl dX b] (Ty.bool (decide (a = b))) := by
 refine ak Tryz.func105 rfl (by decide) Tryz.ntmps105 (by exact Nat.le_of_ble_eq_true rfl) fun w0 M0 => ?_
 refine aE (aA (cm rfl (aD (aC (aE (aA (eA rfl (eA rfl (af (CG _ _) rfl rfl rfl rfl rfl ?_)))))))))
 refine cm rfl (aD (aC (az (bR rfl rfl ?_))))
 all_goals exact cG rfl rfl
end Go.Proofs.YtelbollidfdcjaaGreat
namespace Go.Proofs.YtelbollidfdcjaaGreat
open Go Go.T
set_option maxHeartbeats 4000000
def LZ (a b : au) : Bool := ((decide (a.days = b.days) && decide (a.bins = b.bins)) && decide (a.moves = b.moves)) && decide (a.levels = b.levels)
theorem Ee (y : au) : LZ y y = true := by unfold LZ; simp
def pO (y : au) : Bool := (decide ((y.bins.length : Int) > 8) || decide ((y.moves.length : Int) > 14)) || decide ((y.levels.length : Int) > 12)
theorem uj {y : au} (h : pO y = false) : y.Small := by
 unfold pO at h
 simp only [Bool.or_eq_false_iff, decide_eq_false_iff_not] at h
 exact ⟨by omega, by omega, by omega⟩
theorem Dg {α : Type} {E : El α} {T tg : Nat} {xs : List α} (h : xs = []) : (Ty.ex (.slice none 0 0)).Sub (Ty.row E T tg xs) := by subst h; exact Ty.gZ
theorem iZ {A : As} {α : Type} {E : El α} {T tg : Nat} {xs ys : List α} (h : xs = ys) : vB A tg (Ty.row E T tg xs) (Ty.sl E ys) := by subst h; exact Ge
theorem jQ {k : Nat} (hk : k ≤ 2) : (two k).Small := ⟨by show 2 ≤ 1000; omega, by show 3 ≤ 1000; omega, by show (List.take k _).length ≤ 1000; rw [List.length_take]; show min k 2 ≤ 1000; omega⟩
attribute [local irreducible] jE jq sj cq mU kr nD kM uC mh fU iK eL iP tD bL
attribute [local irreducible] gL eX lN nh gy g6 gu gw gx nj gr ni dN fX nH fu nZ nth fP dQ bA dJ bodyPost Exit.then Exit.inBlock Code.wp Code.wpIn nW g7 nY nV g8 eP cL cM bodyPostM dR
set_option maxRecDepth 100000 in
theorem kU (a b : Int) : dJ Tryz.prog 56 [Ty.int .i64 a, Ty.int .i64 b] (Ty.agg (bw.tys ⟨a, b⟩)) := by
 refine ak Tryz.func56 rfl (by decide) Tryz.ntmps56 (by exact Nat.le_of_ble_eq_true rfl) fun w0 M0 => ?_
 refine aE (aA ?_)
 refine bu rfl (by exact List.cons_ne_nil _ _) rfl ?_
 refine aD (aC (aE (aA (bF rfl (bF rfl ?_)))))
 refine dI rfl rfl (by exact List.cons_ne_nil _ _) rfl (by repeat (first | exact (aV.nil : aV _ _ [] _) | (show aV _ _ ((_, _) :: _) _; apply aV.one; (· exact (rfl : _ = Ty.int _ _)); (· exact rfl)))) (by exact (rfl : _ = some [_, _])) ?_
 refine bh rfl rfl (by decide) rfl rfl rfl rfl rfl rfl ?_
 refine aD (aC (az ?_))
 refine lO rfl rfl rfl rfl (by decide) rfl rfl rfl ?_
 all_goals exact av rfl rfl rfl
set_option maxRecDepth 100000 in
theorem ur (k : Nat) (hk : k ≤ 2) : dJ Tryz.prog 93 [Ty.int .i64 ((k : Nat) : Int)] (dr (two k)) := by
 refine ak Tryz.func93 rfl (by decide) Tryz.ntmps93 (by exact Nat.le_of_ble_eq_true rfl) fun w0 M0 => ?_
 refine aE (aA ?_)
 refine bu rfl (by exact List.cons_ne_nil _ _) rfl ?_
 refine aD (aC (aE (aA (af (kU _ _) rfl rfl rfl rfl rfl ?_))))
 refine dI rfl rfl (by exact List.cons_ne_nil _ _) rfl (by repeat (first | exact (aV.nil : aV _ _ [] _) | (show aV _ _ ((_, _) :: _) _; apply aV.one; (· exact (rfl : _ = Ty.int _ _)); (· exact rfl)) | (show aV _ _ ((_, _) :: _) _; apply aV.agg; (· exact (rfl : _ = Ty.agg _))))) (by exact (rfl : _ = some [_, _, _, _])) ?_
 refine af (kU _ _) rfl rfl rfl rfl rfl ?_
 refine dI rfl rfl (by exact List.cons_ne_nil _ _) rfl (by repeat (first | exact (aV.nil : aV _ _ [] _) | (show aV _ _ ((_, _) :: _) _; apply aV.one; (· exact (rfl : _ = Ty.int _ _)); (· exact rfl)) | (show aV _ _ ((_, _) :: _) _; apply aV.agg; (· exact (rfl : _ = Ty.agg _))))) (by exact (rfl : _ = some [_, _, _, _])) ?_
 refine bW (E := dX) (xs := [⟨2, 1, ⟨20, 25⟩⟩, ⟨2, 0, ⟨10, 24⟩⟩]) rfl rfl rfl rfl rfl (by decide) (by decide) (by repeat (first | exact (aV.nil : aV _ _ [] _) | (show aV _ _ ((_, _) :: _) _; apply aV.agg; (· exact (rfl : _ = Ty.agg _))))) (by exact rfl) rfl ?_
 refine va rfl (aD (aC (aE (cP mixed rfl (af (kU _ _) rfl rfl rfl rfl rfl ?_)))))
 refine dI rfl rfl (by exact List.cons_ne_nil _ _) rfl (by repeat (first | exact (aV.nil : aV _ _ [] _) | (show aV _ _ ((_, _) :: _) _; apply aV.one; (· exact (rfl : _ = Ty.int _ _)); (· exact rfl)) | (show aV _ _ ((_, _) :: _) _; apply aV.agg; (· exact (rfl : _ = Ty.agg _))))) (by exact (rfl : _ = some [_, _, _])) ?_
 refine dI rfl rfl (by exact List.cons_ne_nil _ _) rfl (by repeat (first | exact (aV.nil : aV _ _ [] _) | (show aV _ _ ((_, _) :: _) _; apply aV.one; (· exact (rfl : _ = Ty.int _ _)); (· exact rfl)))) (by exact (rfl : _ = some [_, _, _])) ?_
 refine bW (E := fN) (xs := [⟨100, ⟨20, 30⟩⟩, ⟨50, ⟨0, 0⟩⟩]) rfl rfl rfl rfl rfl (by decide) (by decide) (by repeat (first | exact (aV.nil : aV _ _ [] _) | (show aV _ _ ((_, _) :: _) _; apply aV.agg; (· exact (rfl : _ = Ty.agg _))))) (by exact rfl) rfl ?_
 refine af (kU _ _) rfl rfl rfl rfl rfl ?_
 refine dI rfl rfl (by exact List.cons_ne_nil _ _) rfl (by repeat (first | exact (aV.nil : aV _ _ [] _) | (show aV _ _ ((_, _) :: _) _; apply aV.one; (· exact (rfl : _ = Ty.int _ _)); (· exact rfl)) | (show aV _ _ ((_, _) :: _) _; apply aV.agg; (· exact (rfl : _ = Ty.agg _))))) (by exact rfl) ?_
 refine af (kU _ _) rfl rfl rfl rfl rfl ?_
 refine dI rfl rfl (by exact List.cons_ne_nil _ _) rfl (by repeat (first | exact (aV.nil : aV _ _ [] _) | (show aV _ _ ((_, _) :: _) _; apply aV.one; (· exact (rfl : _ = Ty.int _ _)); (· exact rfl)) | (show aV _ _ ((_, _) :: _) _; apply aV.agg; (· exact (rfl : _ = Ty.agg _))))) (by exact rfl) ?_
 refine af (kU _ _) rfl rfl rfl rfl rfl ?_
 refine dI rfl rfl (by exact List.cons_ne_nil _ _) rfl (by repeat (first | exact (aV.nil : aV _ _ [] _) | (show aV _ _ ((_, _) :: _) _; apply aV.one; (· exact (rfl : _ = Ty.int _ _)); (· exact rfl)) | (show aV _ _ ((_, _) :: _) _; apply aV.agg; (· exact (rfl : _ = Ty.agg _))))) (by exact rfl) ?_
 refine bW (E := eH) (xs := [⟨0, -1, 0, ⟨40, 60⟩⟩, ⟨1, 0, 1, ⟨10, 40⟩⟩, ⟨1, 1, -1, ⟨5, 10⟩⟩]) rfl rfl rfl rfl rfl (by decide) (by decide) (by repeat (first | exact (aV.nil : aV _ _ [] _) | (show aV _ _ ((_, _) :: _) _; apply aV.agg; (· exact (rfl : _ = Ty.agg _))))) (by exact rfl) rfl ?_
 refine eA rfl (bF rfl (eA rfl (cD rfl rfl rfl (Jz rfl rfl (CW rfl rfl ?_)))))
 refine CZ (hi := k) rfl (show _ = Ty.int .i64 ((k : Nat) : Int) from congrArg (Ty.int .i64) (by show max 0 (min (k : Int) 2) = (k : Int); omega)) rfl rfl rfl rfl (by show k ≤ 2; exact hk) ?_
 refine dI rfl rfl (by exact List.cons_ne_nil _ _) rfl (by repeat (first | exact (aV.nil : aV _ _ [] _) | (show aV _ _ ((_, _) :: _) _; apply aV.one; (· first | exact (rfl : _ = Ty.int _ _) | exact (rfl : _ = Ty.sl _ _)); (· exact rfl)))) (by exact (rfl : _ = some [_, _, _, _])) ?_
 refine bh rfl rfl (by decide) rfl rfl rfl rfl rfl rfl ?_
 refine aD ?_
 refine ⟨by kernel_rfl, ?_⟩
 refine aC (az ?_)
 refine lO rfl rfl rfl rfl (by decide) rfl rfl rfl ?_
 all_goals exact av rfl rfl rfl
set_option maxRecDepth 100000 in
theorem Qx (y : au) (hs : y.Small) : dJ Tryz.prog 29 [dr y] (dr y) := by
 refine ak Tryz.func29 rfl (by decide) Tryz.ntmps29 (by exact Nat.le_of_ble_eq_true rfl) fun w0 M0 => ?_
 have hs1 := hs.bins
 have hs2 := hs.moves
 have hs3 := hs.levels
 refine aE (aA (bD rfl ?_))
 refine bu rfl (by exact List.cons_ne_nil _ _) rfl ?_
 refine aD (aC (aE (cP mixed rfl ?_)))
 refine aL rfl rfl rfl rfl rfl (by decide) ?_
 refine aJ rfl rfl rfl rfl ?_
 refine aL rfl rfl rfl rfl rfl (by decide) ?_
 refine aJ rfl rfl rfl rfl (af (H6 y.bins hs1) rfl rfl rfl rfl rfl ?_)
 refine aL rfl rfl rfl rfl rfl (by decide) ?_
 refine aJ rfl rfl rfl rfl (af (Hu y.moves hs2) rfl rfl rfl rfl rfl ?_)
 refine aL rfl rfl rfl rfl rfl (by decide) ?_
 refine aJ rfl rfl rfl rfl (af (Hg y.levels hs3) rfl rfl rfl rfl rfl ?_)
 refine dI rfl rfl (by exact List.cons_ne_nil _ _) rfl (by repeat (first | exact (aV.nil : aV _ _ [] _) | (show aV _ _ ((_, _) :: _) _; apply aV.one; (· first | exact (rfl : _ = Ty.int _ _) | exact (rfl : _ = Ty.sl _ _)); (· exact rfl)))) (by exact (rfl : _ = some [_, _, _, _])) ?_
 refine bh rfl rfl (by decide) rfl rfl rfl rfl rfl rfl ?_
 refine aD ?_
 refine ⟨by kernel_rfl, ?_⟩
 refine aC (az ?_)
 refine lO rfl rfl rfl rfl (by decide) rfl rfl rfl ?_
 all_goals exact av rfl rfl rfl
set_option maxRecDepth 100000 in
theorem Po (a b : au) : dJ Tryz.prog 35 [dr a, dr b] (Ty.bool (LZ a b)) := by
 refine ak Tryz.func35 rfl (by decide) Tryz.ntmps35 (by exact Nat.le_of_ble_eq_true rfl) fun w0 M0 => ?_
 refine aE (aA (bD rfl (bD rfl (cm rfl (aD (aC (aE (aA ?_))))))))
 refine aL rfl rfl rfl rfl rfl (by decide) ?_
 refine aJ rfl rfl rfl rfl ?_
 refine aL rfl rfl rfl rfl rfl (by decide) ?_
 refine aJ rfl rfl rfl rfl (bB rfl rfl rfl (eO rfl ?_))
 apply aM (s := 10) rfl rfl rfl
 ·intro hg; apply aO; (refine aL rfl rfl rfl rfl rfl (by decide) ?_); refine aD ?_; exact rfl
 ·exact rfl
 ·exact rfl
 apply aM (s := 10) rfl rfl rfl
 ·intro hg; apply aK (s := 11) rfl (by (rw [hg]; rfl)); apply aO; (refine aJ rfl rfl rfl rfl ?_); refine aD ?_; exact rfl
 ·exact rfl
 ·exact rfl
 apply aM (s := 10) rfl rfl rfl
 ·intro hg; apply aO; (refine aL rfl rfl rfl rfl rfl (by decide) ?_); refine aD ?_; exact rfl
 ·exact rfl
 ·exact rfl
 apply aM (s := 10) rfl rfl rfl
 ·intro hg; apply aK (s := 13) rfl (by (rw [hg]; rfl)); apply aO; (refine aJ rfl rfl rfl rfl ?_); refine aD ?_; exact rfl
 ·exact rfl
 ·exact rfl
 apply aM (s := 10) rfl rfl rfl
 ·intro hg; apply aK (s := 12) rfl (by (rw [hg]; rfl)); apply aK (s := 14) rfl (by (rw [hg]; rfl)); apply aO; (refine af (KD _ _) rfl rfl rfl rfl rfl ?_); refine aD ?_; exact rfl
 ·exact rfl
 ·exact rfl
 refine dV rfl rfl (eO rfl ?_)
 apply aM (s := 17) rfl rfl rfl
 ·intro hg; apply aO; (refine aL rfl rfl rfl rfl rfl (by decide) ?_); refine aD ?_; exact rfl
 ·exact rfl
 ·exact rfl
 apply aM (s := 17) rfl rfl rfl
 ·intro hg; apply aK (s := 18) rfl (by (rw [hg]; rfl)); apply aO; (refine aJ rfl rfl rfl rfl ?_); refine aD ?_; exact rfl
 ·exact rfl
 ·exact rfl
 apply aM (s := 17) rfl rfl rfl
 ·intro hg; apply aO; (refine aL rfl rfl rfl rfl rfl (by decide) ?_); refine aD ?_; exact rfl
 ·exact rfl
 ·exact rfl
 apply aM (s := 17) rfl rfl rfl
 ·intro hg; apply aK (s := 20) rfl (by (rw [hg]; rfl)); apply aO; (refine aJ rfl rfl rfl rfl ?_); refine aD ?_; exact rfl
 ·exact rfl
 ·exact rfl
 apply aM (s := 17) rfl rfl rfl
 ·intro hg; apply aK (s := 19) rfl (by (rw [hg]; rfl)); apply aK (s := 21) rfl (by (rw [hg]; rfl)); apply aO; (refine af (Jc _ _) rfl rfl rfl rfl rfl ?_); refine aD ?_; exact rfl
 ·exact rfl
 ·exact rfl
 refine dV rfl rfl (eO rfl ?_)
 apply aM (s := 24) rfl rfl rfl
 ·intro hg; apply aO; (refine aL rfl rfl rfl rfl rfl (by decide) ?_); refine aD ?_; exact rfl
 ·exact rfl
 ·exact rfl
 apply aM (s := 24) rfl rfl rfl
 ·intro hg; apply aK (s := 25) rfl (by (rw [hg]; rfl)); apply aO; (refine aJ rfl rfl rfl rfl ?_); refine aD ?_; exact rfl
 ·exact rfl
 ·exact rfl
 apply aM (s := 24) rfl rfl rfl
 ·intro hg; apply aO; (refine aL rfl rfl rfl rfl rfl (by decide) ?_); refine aD ?_; exact rfl
 ·exact rfl
 ·exact rfl
 apply aM (s := 24) rfl rfl rfl
 ·intro hg; apply aK (s := 27) rfl (by (rw [hg]; rfl)); apply aO; (refine aJ rfl rfl rfl rfl ?_); refine aD ?_; exact rfl
 ·exact rfl
 ·exact rfl
 apply aM (s := 24) rfl rfl rfl
 ·intro hg; apply aK (s := 26) rfl (by (rw [hg]; rfl)); apply aK (s := 28) rfl (by (rw [hg]; rfl)); apply aO; (refine af (LU _ _) rfl rfl rfl rfl rfl ?_); refine aD ?_; exact rfl
 ·exact rfl
 ·exact rfl
 refine dV rfl rfl (cm rfl (aD (aC (az (bR rfl rfl ?_)))))
 all_goals exact cG rfl rfl
 all_goals trace_state
set_option maxRecDepth 100000 in
theorem I2 (y : au) (hs : y.Small) : dJ Tryz.prog 30 [dr y] (dr y) := by
 refine ak Tryz.func30 rfl (by decide) Tryz.ntmps30 (by exact Nat.le_of_ble_eq_true rfl) fun w0 M0 => ?_
 have hs1 := hs.bins
 have hs2 := hs.moves
 have hs3 := hs.levels
 refine aE (aA (bD rfl ?_))
 refine bu rfl (by exact List.cons_ne_nil _ _) rfl ?_
 refine aD (aC (aE (aA ?_)))
 refine aL rfl rfl rfl rfl rfl (by decide) ?_
 refine aJ rfl rfl rfl rfl ?_
 refine dI rfl rfl (by exact List.cons_ne_nil _ _) rfl (by repeat (first | exact (aV.nil : aV _ _ [] _) | (show aV _ _ ((_, _) :: _) _; apply aV.one; (· exact (rfl : _ = Ty.int _ _)); (· exact rfl)))) (by exact (rfl : _ = some [_, _, _, _])) ?_
 refine bu rfl (by exact List.cons_ne_nil _ _) rfl ?_
 refine bh rfl rfl (by decide) rfl rfl rfl rfl rfl rfl ?_
 refine aD (aC (aE (aE (aA ?_))))
 refine aL rfl rfl rfl rfl rfl (by decide) ?_
 refine aJ rfl rfl rfl rfl (cD rfl rfl rfl (bF rfl (aD (aC (aY ?_)))))
 refine b9 (fun (k : {k : Nat // k ≤ y.bins.length}) => live [(1, Ty.pp (bE y)), (2, Ty.ptr 3 0), (3, Ty.ptr 4 0), (14, Ty.sl fN y.bins), (15, Ty.int .i64 y.bins.length), (16, Ty.int .i64 (k.1 : Nat))] [(3, Cont.cells 60 [Ty.int .i64 0, Ty.ex (.slice none 0 0), Ty.ex (.slice none 0 0), Ty.ex (.slice none 0 0)]), (4, Cont.cells 60 [Ty.int .i64 y.days, Ty.row fN 163 24 (y.bins.take k.1), Ty.ex (.slice none 0 0), Ty.ex (.slice none 0 0)])]) (fun k => y.bins.length - k.1) (⟨0, by omega⟩) ?_ fun k => ?_
 ·(refine cg.mk' ?_ ?_ <;> (repeat' (first | exact aI | exact aH | exact dH | refine aB ?_ (Ty.aT _) | refine aB ?_ (Ty.aF _) | refine aG rfl (Cont.aF _) ?_ | refine aG rfl (Cont.dG ?_) ?_ | refine bS ?_ (Ty.aF _) | refine bS ?_ Ty.gZ)))
  all_goals trace_state
 have hk := k.2
 refine aE (aA (bB rfl rfl rfl (aD (aC (aE ?_)))))
 refine ah rfl (fun hc1 => ?_) (fun hc1 => ?_)
 ·
  refine aj (aC (aE (aY (aE (aA ?_)))))
  refine aq rfl rfl rfl rfl rfl rfl (by omega) ?_
  refine aX rfl rfl rfl (by exact Nat.le_of_ble_eq_true rfl) ?_
  refine bu rfl (by exact List.cons_ne_nil _ _) rfl ?_
  refine bh rfl rfl (by decide) rfl rfl rfl rfl rfl rfl ?_
  refine aD (aC (aA ?_))
  refine aS rfl rfl rfl rfl rfl (by decide) ?_
  refine aZ rfl rfl (by decide) rfl rfl rfl ?_
  refine bg rfl rfl (by decide) rfl rfl (by exact Nat.le_of_ble_eq_true rfl) ?_
  refine bW (E := fN) (xs := [nth y.bins k.1]) rfl rfl rfl rfl rfl (by decide) (by decide) (by repeat (first | exact (aV.nil : aV _ _ [] _) | (show aV _ _ ((_, _) :: _) _; apply aV.agg; (· exact (rfl : _ = Ty.agg _))))) (by exact rfl) rfl ?_
  refine dj rfl rfl (by decide) rfl rfl rfl rfl rfl rfl (by decide) (by (simp <;> omega)) (by (simp <;> omega)) ?_
  refine aS rfl rfl rfl rfl rfl (by decide) ?_
  refine cv rfl rfl (by decide) rfl rfl (by exact (rfl : _ = Ty.row _ _ _ _)) rfl (by exact Nat.le_of_ble_eq_true rfl) rfl rfl (by exact rfl) ?_
  refine aD (bI (aC (aA ?_)))
  refine bq rfl rfl (by omega) (by omega) ?_
  refine bF rfl (aD ?_)
  refine bM (⟨k.1 + 1, by omega⟩) ?_ (by show y.bins.length - (k.1 + 1) < y.bins.length - k.1; omega)
  (refine cg.mk' ?_ ?_ <;> (repeat' (first | exact aI | exact aH | exact dH | refine aB ?_ (Ty.aT _) | refine aB ?_ (Ty.aF _) | refine aG rfl (Cont.aF _) ?_ | refine aG rfl (Cont.dG ?_) ?_ | refine bS ?_ (Ty.aF _) | refine bS ?_ ?_)))
  all_goals exact Ty.eU (cQ (by omega)).symm
  all_goals trace_state
 refine bz (aP (aP (aa rfl (aC (aE (aE ?_))))))
 refine jI (tg := 24) [] [(4, Cont.cells 60 [Ty.int .i64 y.days, Ty.sl fN y.bins, Ty.ex (.slice none 0 0), Ty.ex (.slice none 0 0)])] (by decide) rfl trivial ⟨fM rfl rfl ⟨bK rfl, iZ (List.take_of_length_le (by have := k.2; omega)), bK rfl, bK rfl, trivial⟩, trivial⟩ ?_
 refine aA ?_
 refine aL rfl rfl rfl rfl rfl (by decide) ?_
 refine aJ rfl rfl rfl rfl (cD rfl rfl rfl (bF rfl (aD (aC (aY ?_)))))
 refine b9 (fun (m : {k : Nat // k ≤ y.moves.length}) => live [(1, Ty.pp (bE y)), (2, Ty.ptr 3 0), (3, Ty.ptr 4 0), (28, Ty.sl eH y.moves), (29, Ty.int .i64 y.moves.length), (30, Ty.int .i64 (m.1 : Nat))] [(3, Cont.cells 60 [Ty.int .i64 0, Ty.ex (.slice none 0 0), Ty.ex (.slice none 0 0), Ty.ex (.slice none 0 0)]), (4, Cont.cells 60 [Ty.int .i64 y.days, Ty.sl fN y.bins, Ty.row eH 164 38 (y.moves.take m.1), Ty.ex (.slice none 0 0)])]) (fun m => y.moves.length - m.1) (⟨0, by omega⟩) ?_ fun m => ?_
 ·(refine cg.mk' ?_ ?_ <;> (repeat' (first | exact aI | exact aH | exact dH | refine aB ?_ (Ty.aT _) | refine aB ?_ (Ty.aF _) | refine aG rfl (Cont.aF _) ?_ | refine aG rfl (Cont.dG ?_) ?_ | refine bS ?_ (Ty.aF _) | refine bS ?_ Ty.gZ)))
  all_goals trace_state
 have hm := m.2
 refine aE (aA (bB rfl rfl rfl (aD (aC (aE ?_)))))
 refine ah rfl (fun hc2 => ?_) (fun hc2 => ?_)
 ·
  refine aj (aC (aE (aY (aE (aA ?_)))))
  refine aq rfl rfl rfl rfl rfl rfl (by omega) ?_
  refine aX rfl rfl rfl (by exact Nat.le_of_ble_eq_true rfl) ?_
  refine bu rfl (by exact List.cons_ne_nil _ _) rfl ?_
  refine bh rfl rfl (by decide) rfl rfl rfl rfl rfl rfl ?_
  refine aD (aC (aA ?_))
  refine aS rfl rfl rfl rfl rfl (by decide) ?_
  refine aZ rfl rfl (by decide) rfl rfl rfl ?_
  refine bg rfl rfl (by decide) rfl rfl (by exact Nat.le_of_ble_eq_true rfl) ?_
  refine bW (E := eH) (xs := [nth y.moves m.1]) rfl rfl rfl rfl rfl (by decide) (by decide) (by repeat (first | exact (aV.nil : aV _ _ [] _) | (show aV _ _ ((_, _) :: _) _; apply aV.agg; (· exact (rfl : _ = Ty.agg _))))) (by exact rfl) rfl ?_
  refine dj rfl rfl (by decide) rfl rfl rfl rfl rfl rfl (by decide) (by (simp <;> omega)) (by (simp <;> omega)) ?_
  refine aS rfl rfl rfl rfl rfl (by decide) ?_
  refine cv rfl rfl (by decide) rfl rfl (by exact (rfl : _ = Ty.row _ _ _ _)) rfl (by exact Nat.le_of_ble_eq_true rfl) rfl rfl (by exact rfl) ?_
  refine aD (bI (aC (aA ?_)))
  refine bq rfl rfl (by omega) (by omega) ?_
  refine bF rfl (aD ?_)
  refine bM (⟨m.1 + 1, by omega⟩) ?_ (by show y.moves.length - (m.1 + 1) < y.moves.length - m.1; omega)
  (refine cg.mk' ?_ ?_ <;> (repeat' (first | exact aI | exact aH | exact dH | refine aB ?_ (Ty.aT _) | refine aB ?_ (Ty.aF _) | refine aG rfl (Cont.aF _) ?_ | refine aG rfl (Cont.dG ?_) ?_ | refine bS ?_ (Ty.aF _) | refine bS ?_ ?_)))
  all_goals exact Ty.eU (cQ (by omega)).symm
  all_goals trace_state
 refine bz (aP (aP (aa rfl (aC (aE (aE ?_))))))
 refine jI (tg := 38) [] [(4, Cont.cells 60 [Ty.int .i64 y.days, Ty.sl fN y.bins, Ty.sl eH y.moves, Ty.ex (.slice none 0 0)])] (by decide) rfl trivial ⟨fM rfl rfl ⟨bK rfl, bK rfl, iZ (List.take_of_length_le (by have := m.2; omega)), bK rfl, trivial⟩, trivial⟩ ?_
 refine aA ?_
 refine aL rfl rfl rfl rfl rfl (by decide) ?_
 refine aJ rfl rfl rfl rfl (cD rfl rfl rfl (bF rfl (aD (aC (aY ?_)))))
 refine b9 (fun (n : {k : Nat // k ≤ y.levels.length}) => live [(1, Ty.pp (bE y)), (2, Ty.ptr 3 0), (3, Ty.ptr 4 0), (42, Ty.sl dX y.levels), (43, Ty.int .i64 y.levels.length), (44, Ty.int .i64 (n.1 : Nat))] [(3, Cont.cells 60 [Ty.int .i64 0, Ty.ex (.slice none 0 0), Ty.ex (.slice none 0 0), Ty.ex (.slice none 0 0)]), (4, Cont.cells 60 [Ty.int .i64 y.days, Ty.sl fN y.bins, Ty.sl eH y.moves, Ty.row dX 165 52 (y.levels.take n.1)])]) (fun n => y.levels.length - n.1) (⟨0, by omega⟩) ?_ fun n => ?_
 ·(refine cg.mk' ?_ ?_ <;> (repeat' (first | exact aI | exact aH | exact dH | refine aB ?_ (Ty.aT _) | refine aB ?_ (Ty.aF _) | refine aG rfl (Cont.aF _) ?_ | refine aG rfl (Cont.dG ?_) ?_ | refine bS ?_ (Ty.aF _) | refine bS ?_ Ty.gZ)))
  all_goals trace_state
 have hn := n.2
 refine aE (aA (bB rfl rfl rfl (aD (aC (aE ?_)))))
 refine ah rfl (fun hc3 => ?_) (fun hc3 => ?_)
 ·
  refine aj (aC (aE (aY (aE (aA ?_)))))
  refine aq rfl rfl rfl rfl rfl rfl (by omega) ?_
  refine aX rfl rfl rfl (by exact Nat.le_of_ble_eq_true rfl) ?_
  refine bu rfl (by exact List.cons_ne_nil _ _) rfl ?_
  refine bh rfl rfl (by decide) rfl rfl rfl rfl rfl rfl ?_
  refine aD (aC (aA ?_))
  refine aS rfl rfl rfl rfl rfl (by decide) ?_
  refine aZ rfl rfl (by decide) rfl rfl rfl ?_
  refine bg rfl rfl (by decide) rfl rfl (by exact Nat.le_of_ble_eq_true rfl) ?_
  refine bW (E := dX) (xs := [nth y.levels n.1]) rfl rfl rfl rfl rfl (by decide) (by decide) (by repeat (first | exact (aV.nil : aV _ _ [] _) | (show aV _ _ ((_, _) :: _) _; apply aV.agg; (· exact (rfl : _ = Ty.agg _))))) (by exact rfl) rfl ?_
  refine dj rfl rfl (by decide) rfl rfl rfl rfl rfl rfl (by decide) (by (simp <;> omega)) (by (simp <;> omega)) ?_
  refine aS rfl rfl rfl rfl rfl (by decide) ?_
  refine cv rfl rfl (by decide) rfl rfl (by exact (rfl : _ = Ty.row _ _ _ _)) rfl (by exact Nat.le_of_ble_eq_true rfl) rfl rfl (by exact rfl) ?_
  refine aD (bI (aC (aA ?_)))
  refine bq rfl rfl (by omega) (by omega) ?_
  refine bF rfl (aD ?_)
  refine bM (⟨n.1 + 1, by omega⟩) ?_ (by show y.levels.length - (n.1 + 1) < y.levels.length - n.1; omega)
  (refine cg.mk' ?_ ?_ <;> (repeat' (first | exact aI | exact aH | exact dH | refine aB ?_ (Ty.aT _) | refine aB ?_ (Ty.aF _) | refine aG rfl (Cont.aF _) ?_ | refine aG rfl (Cont.dG ?_) ?_ | refine bS ?_ (Ty.aF _) | refine bS ?_ ?_)))
  all_goals exact Ty.eU (cQ (by omega)).symm
  all_goals trace_state
 refine bz (aP (aP (aa rfl (aC (aE ?_)))))
 refine jI (tg := 52) [] [(4, Cont.cells 60 [Ty.int .i64 y.days, Ty.sl fN y.bins, Ty.sl eH y.moves, Ty.sl dX y.levels])] (by decide) rfl trivial ⟨fM rfl rfl ⟨bK rfl, bK rfl, bK rfl, iZ (List.take_of_length_le (by have := n.2; omega)), trivial⟩, trivial⟩ ?_
 refine aA ?_
 refine bg rfl rfl (by decide) rfl rfl (by exact Nat.le_of_ble_eq_true rfl) ?_
 refine bh rfl rfl (by decide) rfl rfl rfl rfl rfl rfl ?_
 refine aD (aC (az ?_))
 refine lO rfl rfl rfl rfl (by decide) rfl rfl rfl ?_
 all_goals exact av rfl rfl rfl
set_option maxRecDepth 100000 in
theorem Ms (y : au) : dJ Tryz.prog 69 [dr y] (Ty.bool (pO y)) := by
 refine ak Tryz.func69 rfl (by decide) Tryz.ntmps69 (by exact Nat.le_of_ble_eq_true rfl) fun w0 M0 => ?_
 refine aE (aA (bD rfl (cm rfl (aD (aC (aE (aA ?_)))))))
 refine aL rfl rfl rfl rfl rfl (by decide) ?_
 refine aJ rfl rfl rfl rfl (cD rfl rfl rfl (bB rfl rfl rfl (eO rfl ?_)))
 apply aM (s := 7) rfl rfl rfl
 ·intro hg; apply aO; (refine aL rfl rfl rfl rfl rfl (by decide) ?_); refine aD ?_; exact rfl
 ·exact rfl
 ·exact rfl
 apply aM (s := 7) rfl rfl rfl
 ·intro hg; apply aK (s := 8) rfl (by (rw [hg]; rfl)); apply aO; (refine aJ rfl rfl rfl rfl ?_); refine aD ?_; exact rfl
 ·exact rfl
 ·exact rfl
 apply aM (s := 7) rfl rfl rfl
 ·intro hg; apply aK (s := 9) rfl (by (rw [hg]; rfl)); apply aO; (refine cD rfl rfl rfl ?_); refine aD ?_; exact rfl
 ·exact rfl
 ·exact rfl
 apply aM (s := 7) rfl rfl rfl
 ·intro hg; apply aK (s := 10) rfl (by (rw [hg]; rfl)); apply aO; (refine bB rfl rfl rfl ?_); refine aD ?_; exact rfl
 ·exact rfl
 ·exact rfl
 refine ir rfl rfl (eO rfl ?_)
 apply aM (s := 13) rfl rfl rfl
 ·intro hg; apply aO; (refine aL rfl rfl rfl rfl rfl (by decide) ?_); refine aD ?_; exact rfl
 ·exact rfl
 ·exact rfl
 apply aM (s := 13) rfl rfl rfl
 ·intro hg; apply aK (s := 14) rfl (by (rw [hg]; rfl)); apply aO; (refine aJ rfl rfl rfl rfl ?_); refine aD ?_; exact rfl
 ·exact rfl
 ·exact rfl
 apply aM (s := 13) rfl rfl rfl
 ·intro hg; apply aK (s := 15) rfl (by (rw [hg]; rfl)); apply aO; (refine cD rfl rfl rfl ?_); refine aD ?_; exact rfl
 ·exact rfl
 ·exact rfl
 apply aM (s := 13) rfl rfl rfl
 ·intro hg; apply aK (s := 16) rfl (by (rw [hg]; rfl)); apply aO; (refine bB rfl rfl rfl ?_); refine aD ?_; exact rfl
 ·exact rfl
 ·exact rfl
 refine ir rfl rfl (cm rfl (aD (aC (az (bR rfl rfl ?_)))))
 all_goals exact cG rfl rfl
 all_goals trace_state
set_option maxRecDepth 100000 in
theorem E8 : dJ Tryz.prog 27 [] (Ty.bool true) := by
 refine ak Tryz.func27 rfl (by decide) Tryz.ntmps27 (by exact Nat.le_of_ble_eq_true rfl) fun w0 M0 => ?_
 refine aE (aA (cm rfl (aD (aC (aE (aA ?_))))))
 refine af (ur 0 (by decide)) rfl rfl rfl rfl rfl ?_
 refine af (Cs (two 0) (jQ (by decide)) 0) rfl rfl rfl rfl rfl ?_
 refine sU rfl (bQ rfl rfl (bQ rfl rfl (va rfl (bZ rfl (aD (aC (aE (aA ?_))))))))
 refine af (ur 0 (by decide)) rfl rfl rfl rfl rfl ?_
 refine af (MM (two 0) (jQ (by decide))) rfl rfl rfl rfl rfl ?_
 refine sU rfl (bQ rfl rfl (bQ rfl rfl (va rfl (bZ rfl (aD (aC (aE (aA ?_))))))))
 refine af (ur 1 (by decide)) rfl rfl rfl rfl rfl ?_
 refine af (MD (two 1) (jQ (by decide)) 1) rfl rfl rfl rfl rfl ?_
 refine sU rfl (bQ rfl rfl (bQ rfl rfl ?_))
 refine bu rfl (by exact List.cons_ne_nil _ _) rfl ?_
 refine bh rfl rfl (by decide) rfl rfl rfl rfl rfl rfl ?_
 refine bZ rfl (aD (aC (aE (aA ?_))))
 refine af (ur 1 (by decide)) rfl rfl rfl rfl rfl ?_
 refine af (Ko (two 1) (jQ (by decide)) 0 60) rfl rfl rfl rfl rfl ?_
 refine sU rfl (bQ rfl rfl (bQ rfl rfl (bZ rfl (bZ rfl (aD (aC (aE (aA ?_))))))))
 refine dI rfl rfl (by exact List.cons_ne_nil _ _) rfl (by repeat (exact (aV.nil : aV _ _ [] _))) (by exact (rfl : _ = some [_, _])) ?_
 refine dI rfl rfl (by exact List.cons_ne_nil _ _) rfl (by repeat (first | exact (aV.nil : aV _ _ [] _) | (show aV _ _ ((_, _) :: _) _; apply aV.one; (· exact (rfl : _ = Ty.int _ _)); (· exact rfl)))) (by exact (rfl : _ = some [_, _])) ?_
 refine dI rfl rfl (by exact List.cons_ne_nil _ _) rfl (by repeat (first | exact (aV.nil : aV _ _ [] _) | (show aV _ _ ((_, _) :: _) _; apply aV.one; (· exact (rfl : _ = Ty.int _ _)); (· exact rfl)))) (by exact (rfl : _ = some [_, _])) ?_
 refine bW (E := ru) (xs := xX.cells) rfl rfl rfl rfl rfl (by decide) (by decide) (by repeat (first | exact (aV.nil : aV _ _ [] _) | (show aV _ _ ((_, _) :: _) _; apply aV.agg; (· exact (rfl : _ = Ty.agg _))))) (by exact rfl) rfl ?_
 refine dI rfl rfl (by exact List.cons_ne_nil _ _) rfl (by repeat (first | exact (aV.nil : aV _ _ [] _) | (show aV _ _ ((_, _) :: _) _; apply aV.one; (· exact (rfl : _ = Ty.sl _ _)); (· exact rfl)))) (by exact (rfl : _ = some [_, _])) ?_
 refine bu rfl (by exact List.cons_ne_nil _ _) rfl ?_
 refine bh rfl rfl (by decide) rfl rfl rfl rfl rfl rfl ?_
 refine aD (aC (aE (cP mixed rfl ?_)))
 refine af (ur 2 (by decide)) rfl rfl rfl rfl rfl ?_
 refine bg rfl rfl (by decide) rfl rfl (by exact Nat.le_of_ble_eq_true rfl) ?_
 refine af (JF (two 2) (jQ (by decide)) xX (by decide)) rfl rfl rfl rfl rfl ?_
 refine sU rfl (bQ rfl rfl (bQ rfl rfl (bZ rfl (bZ rfl (aD ?_)))))
 refine ⟨by kernel_rfl, ?_⟩
 refine aC (aE (aA ?_))
 refine af (ur 2 (by decide)) rfl rfl rfl rfl rfl ?_
 refine af (GB (two 2) (jQ (by decide))) rfl rfl rfl rfl rfl ?_
 refine sU rfl (bQ rfl rfl (bQ rfl rfl (va rfl (bZ rfl (aD (aC (aE (aA ?_))))))))
 refine af (ur 2 (by decide)) rfl rfl rfl rfl rfl ?_
 refine af (GO (two 2) (jQ (by decide))) rfl rfl rfl rfl rfl ?_
 refine sU rfl (bQ rfl rfl (bQ rfl rfl (va rfl (bZ rfl (aD (aC (aE (aA ?_))))))))
 refine af (ur 2 (by decide)) rfl rfl rfl rfl rfl ?_
 refine af (Pn (two 2) (jQ (by decide))) rfl rfl rfl rfl rfl ?_
 refine sU rfl (bQ rfl rfl (bQ rfl rfl ?_))
 refine bu rfl (by exact List.cons_ne_nil _ _) rfl ?_
 refine bh rfl rfl (by decide) rfl rfl rfl rfl rfl rfl ?_
 refine bZ rfl (aD (aC (aE ?_)))
 refine iC (s := 1) rfl (Ty.sub_eq (congrArg (Ty.sl bw) NV)) ?_
 refine iC (s := 2) rfl (Ty.bN Qs) ?_
 refine iC (s := 3) rfl (Ty.sub_eq (congrArg (Ty.sl bw) Pz)) ?_
 refine iC (s := 4) rfl (Ty.bN (lA (k := 0) (by decide))) ?_
 refine jk (tg := 6) rfl (Cont.nM (congrArg bw.tys Od)) ?_
 refine iC (s := 6) rfl (Ty.bN Qj) ?_
 refine iC (s := 7) rfl (Ty.bN PG) ?_
 refine iC (s := 8) rfl (Ty.bN OB.1.symm) ?_
 refine iC (s := 10) rfl (Ty.bN P2) ?_
 refine iC (s := 11) rfl (Ty.bN QC.1.symm) ?_
 refine iC (s := 12) rfl (Ty.sub_eq (congrArg (Ty.sl cT) K9)) ?_
 refine iC (s := 13) rfl (Ty.bN OV.1.symm) ?_
 refine iC (s := 14) rfl (Ty.sub_eq (congrArg (Ty.sl cT) J2)) ?_
 refine iC (s := 15) rfl (Ty.bN OS.1.symm) ?_
 refine iC (s := 17) rfl (Ty.bN Mw) ?_
 refine iQ (B := live [(1, Ty.sl bw [⟨20, 30⟩, ⟨60, 90⟩, ⟨20, 80⟩]), (2, Ty.int .i64 0), (3, Ty.sl bw [⟨20, 30⟩, ⟨60, 90⟩, ⟨50, 85⟩]), (4, Ty.int .i64 0), (5, Ty.ptr 6 0), (6, Ty.int .i64 0), (7, Ty.int .i64 1), (8, Ty.int .i64 0), (10, Ty.int .i64 1), (11, Ty.int .i64 0), (12, Ty.sl cT [0, 1]), (13, Ty.int .i64 0), (14, Ty.sl cT [0]), (15, Ty.int .i64 0), (17, Ty.int .i64 7)] [(6, Cont.cells 37 (bw.tys ⟨25, 35⟩))]) ?_ ?_
 ·(refine cg.mk' ?_ ?_ <;> (repeat' (first | exact aI | exact aH | refine aB ?_ (Ty.aT _) | refine aB ?_ (Ty.aF _) | refine aG rfl (Cont.aF _) ?_)))
 refine cP mixed rfl (bF rfl (bB rfl rfl rfl (eO rfl ?_)))
 apply aM (s := 66) rfl rfl rfl
 ·intro hg; apply aO; (refine bF rfl ?_); refine aD ?_; exact rfl
 ·exact rfl
 ·exact rfl
 apply aM (s := 66) rfl rfl rfl
 ·intro hg; apply aK (s := 67) rfl (by exact hg); apply aO; (refine bB rfl rfl rfl ?_); refine aD ?_; exact rfl
 ·exact rfl
 ·exact rfl
 refine dV rfl rfl (eO rfl ?_)
 apply aM (s := 70) rfl rfl rfl
 ·intro hg; apply aO; (refine bF rfl ?_); refine aD ?_; exact rfl
 ·exact rfl
 ·exact rfl
 apply aM (s := 70) rfl rfl rfl
 ·intro hg; apply aK (s := 71) rfl (by exact hg); apply aO; (refine bB rfl rfl rfl ?_); refine aD ?_; exact rfl
 ·exact rfl
 ·exact rfl
 refine dV rfl rfl (eO rfl ?_)
 apply aM (s := 74) rfl rfl rfl
 ·intro hg; apply aO; (refine bF rfl ?_); refine aD ?_; exact rfl
 ·exact rfl
 ·exact rfl
 apply aM (s := 74) rfl rfl rfl
 ·intro hg; apply aK (s := 75) rfl (by exact hg); apply aO; (refine bB rfl rfl rfl ?_); refine aD ?_; exact rfl
 ·exact rfl
 ·exact rfl
 refine dV rfl rfl (eO rfl ?_)
 apply aM (s := 78) rfl rfl rfl
 ·intro hg; apply aO; (refine bF rfl ?_); refine aD ?_; exact rfl
 ·exact rfl
 ·exact rfl
 apply aM (s := 78) rfl rfl rfl
 ·intro hg; apply aK (s := 79) rfl (by exact hg); apply aO; (refine bB rfl rfl rfl ?_); refine aD ?_; exact rfl
 ·exact rfl
 ·exact rfl
 refine dV rfl rfl (eO rfl ?_)
 apply aM (s := 82) rfl rfl rfl
 ·intro hg; apply aO; (refine bF rfl ?_); refine aD ?_; exact rfl
 ·exact rfl
 ·exact rfl
 apply aM (s := 82) rfl rfl rfl
 ·intro hg; apply aK (s := 83) rfl (by exact hg); apply aO; (refine bB rfl rfl rfl ?_); refine aD ?_; exact rfl
 ·exact rfl
 ·exact rfl
 refine dV rfl rfl (eO rfl ?_)
 apply aM (s := 86) rfl rfl rfl
 ·intro hg; apply aO; (refine bF rfl ?_); refine aD ?_; exact rfl
 ·exact rfl
 ·exact rfl
 apply aM (s := 86) rfl rfl rfl
 ·intro hg; apply aK (s := 87) rfl (by exact hg); apply aO; (refine bB rfl rfl rfl ?_); refine aD ?_; exact rfl
 ·exact rfl
 ·exact rfl
 refine dV rfl rfl (eO rfl ?_)
 apply aM (s := 90) rfl rfl rfl
 ·intro hg; apply aO; (refine bF rfl ?_); refine aD ?_; exact rfl
 ·exact rfl
 ·exact rfl
 apply aM (s := 90) rfl rfl rfl
 ·intro hg; apply aK (s := 91) rfl (by exact hg); apply aO; (refine bB rfl rfl rfl ?_); refine aD ?_; exact rfl
 ·exact rfl
 ·exact rfl
 refine dV rfl rfl (eO rfl ?_)
 apply aM (s := 94) rfl rfl rfl
 ·intro hg; apply aO; (refine eA rfl ?_); refine aD ?_; exact rfl
 ·exact rfl
 ·exact rfl
 apply aM (s := 94) rfl rfl rfl
 ·intro hg; apply aO; (refine af (kU _ _) rfl rfl rfl rfl rfl ?_); refine aD ?_; exact rfl
 ·exact rfl
 ·exact rfl
 apply aM (s := 94) rfl rfl rfl
 ·intro hg; apply aO; (refine af (kU _ _) rfl rfl rfl rfl rfl ?_); refine aD ?_; exact rfl
 ·exact rfl
 ·exact rfl
 apply aM (s := 94) rfl rfl rfl
 ·intro hg; apply aO; (refine af (kU _ _) rfl rfl rfl rfl rfl ?_); refine aD ?_; exact rfl
 ·exact rfl
 ·exact rfl
 apply aM (s := 94) rfl rfl rfl
 ·intro hg; apply aK (s := 96) rfl (by exact hg); apply aK (s := 97) rfl (by exact hg); apply aK (s := 98) rfl (by exact hg); apply aO; (refine bW (E := bw) (xs := [⟨20, 30⟩, ⟨60, 90⟩, ⟨20, 80⟩]) rfl rfl rfl rfl rfl (by decide) (by decide) (by repeat (first | exact (aV.nil : aV _ _ [] _) | (show aV _ _ ((_, _) :: _) _; apply aV.agg; (· exact (rfl : _ = Ty.agg _))))) (by exact rfl) rfl ?_); refine aD ?_; exact rfl
 ·exact rfl
 ·exact rfl
 apply aM (s := 94) rfl rfl rfl
 ·intro hg; apply aK (s := 95) rfl (by exact hg); apply aK (s := 99) rfl (by exact hg); apply aO; (refine af (DD _ _) rfl rfl rfl rfl rfl ?_); refine aD ?_; exact rfl
 ·exact rfl
 ·exact rfl
 refine dV rfl rfl (eO rfl ?_)
 apply aM (s := 102) rfl rfl rfl
 ·intro hg; apply aO; (refine eA rfl ?_); refine aD ?_; exact rfl
 ·exact rfl
 ·exact rfl
 apply aM (s := 102) rfl rfl rfl
 ·intro hg; apply aO; (refine af (kU _ _) rfl rfl rfl rfl rfl ?_); refine aD ?_; exact rfl
 ·exact rfl
 ·exact rfl
 apply aM (s := 102) rfl rfl rfl
 ·intro hg; apply aO; (refine af (kU _ _) rfl rfl rfl rfl rfl ?_); refine aD ?_; exact rfl
 ·exact rfl
 ·exact rfl
 apply aM (s := 102) rfl rfl rfl
 ·intro hg; apply aO; (refine af (kU _ _) rfl rfl rfl rfl rfl ?_); refine aD ?_; exact rfl
 ·exact rfl
 ·exact rfl
 apply aM (s := 102) rfl rfl rfl
 ·intro hg; apply aK (s := 104) rfl (by exact hg); apply aK (s := 105) rfl (by exact hg); apply aK (s := 106) rfl (by exact hg); apply aO; (refine bW (E := bw) (xs := [⟨20, 30⟩, ⟨60, 90⟩, ⟨50, 85⟩]) rfl rfl rfl rfl rfl (by decide) (by decide) (by repeat (first | exact (aV.nil : aV _ _ [] _) | (show aV _ _ ((_, _) :: _) _; apply aV.agg; (· exact (rfl : _ = Ty.agg _))))) (by exact rfl) rfl ?_); refine aD ?_; exact rfl
 ·exact rfl
 ·exact rfl
 apply aM (s := 102) rfl rfl rfl
 ·intro hg; apply aK (s := 103) rfl (by exact hg); apply aK (s := 107) rfl (by exact hg); apply aO; (refine af (DD _ _) rfl rfl rfl rfl rfl ?_); refine aD ?_; exact rfl
 ·exact rfl
 ·exact rfl
 refine dV rfl rfl (eO rfl ?_)
 apply aM (s := 110) rfl rfl rfl
 ·intro hg; apply aO; (refine bg rfl rfl (by decide) rfl rfl (by exact Nat.le_of_ble_eq_true rfl) ?_); refine aD ?_; exact rfl
 ·exact rfl
 ·exact rfl
 apply aM (s := 110) rfl rfl rfl
 ·intro hg; apply aO; (refine af (kU _ _) rfl rfl rfl rfl rfl ?_); refine aD ?_; exact rfl
 ·exact rfl
 ·exact rfl
 apply aM (s := 110) rfl rfl rfl
 ·intro hg; apply aK (s := 111) rfl (by exact hg); apply aK (s := 112) rfl (by exact hg); apply aO; (refine MQ (OM _ _ _ _) rfl rfl ?_); refine aD ?_; exact rfl
 ·exact rfl
 ·exact rfl
 refine dV rfl rfl (eO rfl ?_)
 apply aM (s := 115) rfl rfl rfl
 ·intro hg; apply aO; (refine bF rfl ?_); refine aD ?_; exact rfl
 ·exact rfl
 ·exact rfl
 apply aM (s := 115) rfl rfl rfl
 ·intro hg; apply aK (s := 116) rfl (by exact hg); apply aO; (refine bB rfl rfl rfl ?_); refine aD ?_; exact rfl
 ·exact rfl
 ·exact rfl
 refine dV rfl rfl (eO rfl ?_)
 apply aM (s := 119) rfl rfl rfl
 ·intro hg; apply aO; (refine bF rfl ?_); refine aD ?_; exact rfl
 ·exact rfl
 ·exact rfl
 apply aM (s := 119) rfl rfl rfl
 ·intro hg; apply aK (s := 120) rfl (by exact hg); apply aO; (refine bB rfl rfl rfl ?_); refine aD ?_; exact rfl
 ·exact rfl
 ·exact rfl
 refine dV rfl rfl (eO rfl ?_)
 apply aM (s := 123) rfl rfl rfl
 ·intro hg; apply aO; (refine eA rfl ?_); refine aD ?_; exact rfl
 ·exact rfl
 ·exact rfl
 apply aM (s := 123) rfl rfl rfl
 ·intro hg; apply aO; (refine bW (E := cT) (xs := [0, 1]) rfl rfl rfl rfl rfl (by decide) (by decide) (by repeat (first | exact (aV.nil : aV _ _ [] _) | (show aV _ _ ((_, _) :: _) _; apply aV.one; (· exact (rfl : _ = Ty.int _ _)); (· exact rfl)))) (by exact rfl) rfl ?_); refine aD ?_; exact rfl
 ·exact rfl
 ·exact rfl
 apply aM (s := 123) rfl rfl rfl
 ·intro hg; apply aK (s := 124) rfl (by exact hg); apply aK (s := 125) rfl (by exact hg); apply aO; (refine af (o7 _ _) rfl rfl rfl rfl rfl ?_); refine aD ?_; exact rfl
 ·exact rfl
 ·exact rfl
 refine dV rfl rfl (eO rfl ?_)
 apply aM (s := 128) rfl rfl rfl
 ·intro hg; apply aO; (refine eA rfl ?_); refine aD ?_; exact rfl
 ·exact rfl
 ·exact rfl
 apply aM (s := 128) rfl rfl rfl
 ·intro hg; apply aO; (refine bW (E := cT) (xs := [0]) rfl rfl rfl rfl rfl (by decide) (by decide) (by repeat (first | exact (aV.nil : aV _ _ [] _) | (show aV _ _ ((_, _) :: _) _; apply aV.one; (· exact (rfl : _ = Ty.int _ _)); (· exact rfl)))) (by exact rfl) rfl ?_); refine aD ?_; exact rfl
 ·exact rfl
 ·exact rfl
 apply aM (s := 128) rfl rfl rfl
 ·intro hg; apply aK (s := 129) rfl (by exact hg); apply aK (s := 130) rfl (by exact hg); apply aO; (refine af (o7 _ _) rfl rfl rfl rfl rfl ?_); refine aD ?_; exact rfl
 ·exact rfl
 ·exact rfl
 refine dV rfl rfl (cm rfl (aD ?_))
 refine ⟨by kernel_rfl, ?_⟩
 refine aC (az (bR rfl rfl ?_))
 all_goals exact cG rfl rfl
 all_goals trace_state
end Go.Proofs.YtelbollidfdcjaaGreat
namespace Go.Proofs.YtelbollidfdcjaaGreat
open Go Go.T
set_option maxHeartbeats 2000000
attribute [local irreducible] gL eX lN nh gy g6 gu gw gx nj gr ni dN fX nH fu nZ nth fP dQ bA dJ bodyPost Exit.then Exit.inBlock Code.wp Code.wpIn nW g7 nY nV g8 eP cL cM bodyPostM dR
end Go.Proofs.YtelbollidfdcjaaGreat
namespace Go.Proofs.YtelbollidfdcjaaGreat
open Go Go.T
set_option maxHeartbeats 4000000
structure QZ (y : au) (a : dZ) : Prop where
  len : y.moves.length ≤ a.cC.length
  rB : a.cC.length ≤ 1000
  first : ∀ x ∈ a.first, -1000 ≤ x ∧ x ≤ 1000
  cC : ∀ x ∈ a.cC, -1000 ≤ x ∧ x ≤ 1000
theorem QZ.up {y : au} {a : dZ} (h : QZ y a) {bin time : Int} (hb : bin.toNat < a.first.length) {k : Nat} (hk : k ≤ y.moves.length) : -3000000 ≤ dw y a bin time k ∧ dw y a bin time k ≤ 3000000 := by
 have h1 := h.len
 have h2 := h.rB
 have := K3 (y := y) (bin := bin) (time := time) (B := 1000) (by omega) h.first h.cC hb k (by omega)
 omega
attribute [local irreducible] gL eX lN nh gy g6 gu gw gx nj gr ni dN fX nH fu nZ nth fP dQ bA dJ bodyPost Exit.then Exit.inBlock Code.wp Code.wpIn nW g7 nY nV g8 eP cL cM bodyPostM dR
end Go.Proofs.YtelbollidfdcjaaGreat
namespace Go.T
open Go Go.RowKit
section
variable {P : Program} {fr : Fr} {ops : Array Oper} {A : As} {rest : List Oper} {K : As → List (As × Fx) → Prop} {d : Nat} {t ty' : TypeId} {p : String} {e : Array Edge} [T : lD P]
end
end Go.T
namespace Go.T
open Go Go.RowKit
section
variable {P : Program} {fr : Fr} {ops : Array Oper} {A : As} {rest : List Oper} {K : As → List (As × Fx) → Prop} {d : Nat} {t ty' : TypeId} {p : String} {e : Array Edge} [T : lD P]
end
end Go.T
namespace Go.T
open Go Go.RowKit
section
variable {P : Program} {fr : Fr} {A : As} {Q : Exit → Act → World → Prop} {c : Code}
end
section
variable {P : Program} {fr : Fr} {ops : Array Oper} {A : As} {rest : List Oper} {K : As → List (As × Fx) → Prop} {d : Nat} {t ty' : TypeId} {p : String} {e : Array Edge} [T : lD P]
end
end Go.T
namespace Go.T
open Go Go.RowKit
section
variable {P : Program} {A : As} {fn : Func} {n : Nat} {w0 : World} {M0 : bC} {F : List Nat} {post : List (Nat × Cont)} [T : lD P]
end
end Go.T
namespace Go.T
open Go Go.RowKit
section
variable {P : Program} {fr : Fr} {ops : Array Oper} {A : As} {rest : List Oper} {K : As → List (As × Fx) → Prop} {d : Nat} {t ty' : TypeId} {p : String} {e : Array Edge} [T : lD P]
end
end Go.T
namespace Go.Proofs.YtelbollidfdcjaaGreat
open Go Go.T
set_option maxHeartbeats 8000000
section
variable {d : Md} {s : Sk} {k i : Nat} {p : (List Move × List Int) × Sk} {y : au} {a : dZ} {m : Move} {n : Int}
end
attribute [local irreducible] Md.D Md.RS Md.nb Md.bs Md.first Md.um Md.Fe Md.many Md.src Md.dst Md.IQ Md.day Md.num Md.ms Md.cC Md.Dm Md.most Md.hs Md.N7 Md.RV Md.nl Md.ls Md.F6 ct ux wZ z4 so kK cE eF mO LW Md.GV Md.IF
attribute [local irreducible] gL eX lN nh gy g6 gu gw gx nj gr ni dN fX nH fu nZ nth fP dQ bA dJ bodyPost Exit.then Exit.inBlock Code.wp Code.wpIn nW g7 nY nV g8 eP cL cM bodyPostM dR
end Go.Proofs.YtelbollidfdcjaaGreat
namespace Go.Proofs.YtelbollidfdcjaaGreat
open Go Go.T
set_option maxHeartbeats 8000000
structure SM (a : dZ) : Prop where
  rB : a.cC.length ≤ 1000
  first : ∀ x ∈ a.first, -1000 ≤ x ∧ x ≤ 1000
  cC : ∀ x ∈ a.cC, -1000 ≤ x ∧ x ≤ 1000
section
variable {y : au} {a : dZ} {b t k : Nat}
end
attribute [local irreducible] ct
attribute [local irreducible] gL eX lN nh gy g6 gu gw gx nj gr ni dN fX nH fu nZ nth fP dQ bA dJ bodyPost Exit.then Exit.inBlock Code.wp Code.wpIn nW g7 nY nV g8 eP cL cM bodyPostM dR
end Go.Proofs.YtelbollidfdcjaaGreat
namespace Go.Proofs.YtelbollidfdcjaaGreat
open Go Go.T
section
variable {d : Md} {v : Bool} {c : Nat → Bool} {y : au} {b t k n : Nat} {l : List tC}
variable {f : Nat → Nat → Int}
end
end Go.Proofs.YtelbollidfdcjaaGreat
namespace Go.Proofs.YtelbollidfdcjaaGreat
open Go Go.T
set_option maxHeartbeats 4000000
theorem jf (n lo hi : Int) : kH n lo hi = !AI n lo hi := by
 rw [Bool.eq_iff_iff]
 simp only [kH, Bool.or_eq_true, decide_eq_true_eq, Bool.not_eq_true', Bool.eq_false_iff, ne_eq, fQ]
 omega
def z3 (s : Span) : Bool := kH s.lo 0 300 || kH s.hi 0 300
def oz (y : au) : Bool := ((kH y.days 1 5 || kH y.bins.length 1 4) || decide ((y.moves.length : Int) > 10)) || decide ((y.levels.length : Int) > 8)
def vJ (b : tC) : Bool := kH b.holds 0 300 || z3 b.first
def Bj (b : tC) : Bool := decide (b.first.lo > b.first.hi)
def y5 (m : Move) : Bool := z3 m.sacks
def notM (y : au) (m : Move) : Bool := (kH m.day 0 (y.days - 1) || kH m.src (-1) ((y.bins.length : Int) - 1)) || kH m.dst (-1) ((y.bins.length : Int) - 1)
def MA (m : Move) : Bool := decide (m.src = m.dst)
def H8 (m : Move) : Bool := decide (m.sacks.lo > m.sacks.hi)
def FQ (l : Level) : Bool := z3 l.sacks
def IW (y : au) (l : Level) : Bool := kH l.day 0 y.days || kH l.bin 0 ((y.bins.length : Int) - 1)
def Ns (l : Level) : Bool := decide (l.sacks.lo > l.sacks.hi)
def mI {α : Type} (p : α → Bool) (l : List α) (k : Nat) : Bool := (l.take k).any p
section
variable {α : Type} {p : α → Bool} {l : List α} {k : Nat}
theorem hO [Inhabited α] (h : k < l.length) : (mI p l k || p (nth l k)) = mI p l (k + 1) := by
 unfold mI; rw [cQ h, List.any_append]; simp
theorem fL (h : ¬ (k : Int) < (l.length : Int)) : mI p l k = l.any p := by
 unfold mI; rw [List.take_of_length_le (by omega)]
end
def OF (y : au) : Bool := (y.bins.any vJ || y.moves.any y5) || y.levels.any FQ
def Pq (y : au) : Bool := y.moves.any (notM y) || y.levels.any (IW y)
def Oz (y : au) : Bool := y.moves.any MA
def QJ (y : au) : Bool := (y.bins.any Bj || y.moves.any H8) || y.levels.any Ns
def iw (y : au) : Int := if oz y = true then 2 else if OF y = true then 3 else if Pq y = true then 1 else if Oz y = true then 5 else if QJ y = true then 4 else 0
theorem lQ {α : Type} {p q : α → Bool} {l : List α} (h : ∀ x ∈ l, p x = !q x) : l.any p = !l.all q := by
  induction l with
  | nil => rfl
  | cons x l ih => rw [List.any_cons, List.all_cons, ih fun y hy => h y (List.mem_cons_of_mem _ hy), h x List.mem_cons_self, Bool.not_and]
theorem oT (s : Span) : z3 s = !fF s := by unfold z3 fF; rw [jf, jf, Bool.not_and]
theorem NM (y : au) : oz y = k6 y := by unfold oz k6; rw [jf, jf]
theorem Qv (y : au) : OF y = (kL y || iX y) := by
 unfold OF kL iX
 rw [lQ (q := fun b : tC => AI b.holds 0 300 && fF b.first) fun b _ => by unfold vJ; rw [jf, oT, Bool.not_and],
  lQ (p := y5) (q := fun m : Move => fF m.sacks) fun m _ => oT _, lQ (p := FQ) (q := fun m : Level => fF m.sacks) fun m _ => oT _, Bool.or_assoc]
theorem FG (y : au) (n : Int) : kH n (-1) ((y.bins.length : Int) - 1) = !y.fin n := by
 unfold au.fin au.bin
 rw [jf]
 congr 1
 rw [Bool.eq_iff_iff]
 simp only [Bool.or_eq_true, decide_eq_true_eq, fQ]
 omega
theorem Q7 (y : au) : Pq y = (xh y || qz y) := by
 unfold Pq xh qz
 rw [lQ (q := fun m : Move => (AI m.day 0 (y.days - 1) && y.fin m.src) && y.fin m.dst) fun m _ => by unfold notM; rw [jf, FG, FG, Bool.not_and, Bool.not_and],
  lQ (p := IW y) (q := fun l : Level => y.time l.day && y.bin l.bin) fun l _ => by unfold IW au.time au.bin; rw [jf, jf, Bool.not_and]]
theorem Qy (y : au) : Oz y = p6 y := by
 unfold Oz p6
 exact lQ fun m _ => by unfold MA; rw [Bool.not_not]
theorem or_eq (y : au) : QJ y = pg y := by
 have e : ∀ s : Span, decide (s.lo > s.hi) = !fZ s := fun s => by
  unfold fZ; rw [Bool.eq_iff_iff]; simp only [decide_eq_true_eq, Bool.not_eq_true', decide_eq_false_iff_not]; omega
 unfold QJ pg
 rw [lQ (p := Bj) (q := fun b : tC => fZ b.first) fun b _ => e _, lQ (p := H8) (q := fun b : Move => fZ b.sacks) fun b _ => e _, lQ (p := Ns) (q := fun b : Level => fZ b.sacks) fun b _ => e _]
theorem check_eq (y : au) : iw y = bL y := by
 unfold iw bL
 rw [NM, Qv, Q7, Qy, or_eq]
 cases k6 y <;> cases kL y <;> cases iX y <;> cases xh y <;> cases qz y <;> rfl
theorem SD (a b c d : Bool) : (((a || b) || c) || d) = (a || ((b || c) || d)) := by cases a <;> rfl
theorem Rb (a b c d : Bool) : (((a || b) || c) || d) = (a || (b || (c || d))) := by cases a <;> cases b <;> rfl
section
variable {y : au} {b c : Bool}
theorem Rc (h : oz y = true) : 2 = iw y := (if_pos h).symm
theorem Ry (h : oz y = false) (h1 : b = true) (e : b = OF y) : 3 = iw y := by unfold iw; rw [if_neg (ng h), if_pos (e ▸ h1)]
theorem Rt (h : oz y = false) (h1 : b = false) (e : b = OF y) {b2 : Bool} (h2 : b2 = true) (e2 : b2 = Pq y) : 1 = iw y := by
 subst e; subst e2; unfold iw; rw [if_neg (ng h), if_neg (ng h1), if_pos h2]
theorem Rj (h : oz y = false) (h1 : b = false) (e : b = OF y) {b2 b3 : Bool} (h2 : b2 = false) (e2 : b2 = Pq y) (h3 : b3 = true) (e3 : b3 = Oz y) : 5 = iw y := by
 subst e; subst e2; subst e3; unfold iw; rw [if_neg (ng h), if_neg (ng h1), if_neg (ng h2), if_pos h3]
theorem Rk (h : oz y = false) (h1 : b = false) (e : b = OF y) {b2 b3 b4 : Bool} (h2 : b2 = false) (e2 : b2 = Pq y) (h3 : b3 = false) (e3 : b3 = Oz y) (h4 : b4 = true) (e4 : b4 = QJ y) : 4 = iw y := by
 subst e; subst e2; subst e3; subst e4; unfold iw; rw [if_neg (ng h), if_neg (ng h1), if_neg (ng h2), if_neg (ng h3), if_pos h4]
theorem Rx (h : oz y = false) (h1 : b = false) (e : b = OF y) {b2 b3 b4 : Bool} (h2 : b2 = false) (e2 : b2 = Pq y) (h3 : b3 = false) (e3 : b3 = Oz y) (h4 : b4 = false) (e4 : b4 = QJ y) : 0 = iw y := by
 subst e; subst e2; subst e3; subst e4; unfold iw; rw [if_neg (ng h), if_neg (ng h1), if_neg (ng h2), if_neg (ng h3), if_neg (ng h4)]
theorem Dx (h : oz y = false) : (1 ≤ y.days ∧ y.days ≤ 5) ∧ (1 ≤ (y.bins.length : Int) ∧ (y.bins.length : Int) ≤ 4) := by
 unfold oz at h
 simp only [Bool.or_eq_false_iff, jf, Bool.not_eq_false', fQ] at h
 exact h.1.1
end
attribute [local irreducible] gL eX lN nh gy g6 gu gw gx nj gr ni dN fX nH fu nZ nth fP dQ bA dJ bodyPost Exit.then Exit.inBlock Code.wp Code.wpIn nW g7 nY nV g8 eP cL cM bodyPostM dR
set_option maxRecDepth 100000 in
theorem lg (n lo hi : Int) : dJ Tryz.prog 97 [Ty.int .i64 n, Ty.int .i64 lo, Ty.int .i64 hi] (Ty.bool (kH n lo hi)) := by
 refine ak Tryz.func97 rfl (by decide) Tryz.ntmps97 (by exact Nat.le_of_ble_eq_true rfl) fun w0 M0 => ?_
 refine aE (aA (cm rfl (aD (aC (aE (aA (bF rfl (bF rfl (bB rfl rfl rfl ?_)))))))))
 refine eO rfl ?_
 apply aM (s := 10) rfl rfl rfl
 ·intro hg; apply aO; (refine bF rfl ?_); refine aD ?_; exact rfl
 ·exact rfl
 ·exact rfl
 apply aM (s := 10) rfl rfl rfl
 ·intro hg; apply aO; (refine bF rfl ?_); refine aD ?_; exact rfl
 ·exact rfl
 ·exact rfl
 apply aM (s := 10) rfl rfl rfl
 ·intro hg; apply aK (s := 11) rfl (by (rw [hg]; rfl)); apply aK (s := 12) rfl (by (rw [hg]; rfl)); apply aO; (refine bB rfl rfl rfl ?_); refine aD ?_; exact rfl
 ·exact rfl
 ·exact rfl
 refine ir rfl rfl (cm rfl (aD (aC (az (bR rfl rfl ?_)))))
 all_goals exact cG rfl rfl
set_option maxRecDepth 100000 in
theorem BB (s : Span) : dJ Tryz.prog 98 [Ty.agg (bw.tys s)] (Ty.bool (z3 s)) := by
 refine ak Tryz.func98 rfl (by decide) Tryz.ntmps98 (by exact Nat.le_of_ble_eq_true rfl) fun w0 M0 => ?_
 refine aE (aA (bD rfl (cm rfl (aD (aC (aE (aA ?_)))))))
 refine aL rfl rfl rfl rfl rfl (by decide) ?_
 refine aJ rfl rfl rfl rfl (af (lg _ _ _) rfl rfl rfl rfl rfl (eO rfl ?_))
 apply aM (s := 6) rfl rfl rfl
 ·intro hg; apply aO; (refine aL rfl rfl rfl rfl rfl (by decide) ?_); refine aD ?_; exact rfl
 ·exact rfl
 ·exact rfl
 apply aM (s := 6) rfl rfl rfl
 ·intro hg; apply aK (s := 7) rfl (by (rw [hg]; rfl)); apply aO; (refine aJ rfl rfl rfl rfl ?_); refine aD ?_; exact rfl
 ·exact rfl
 ·exact rfl
 apply aM (s := 6) rfl rfl rfl
 ·intro hg; apply aK (s := 8) rfl (by (rw [hg]; rfl)); apply aO; (refine af (lg _ _ _) rfl rfl rfl rfl rfl ?_); refine aD ?_; exact rfl
 ·exact rfl
 ·exact rfl
 refine ir rfl rfl (cm rfl (aD (aC (az (bR rfl rfl ?_)))))
 all_goals exact cG rfl rfl
set_option maxRecDepth 100000 in
theorem C1 (y : au) (hs : y.Small) : dJ Tryz.prog 31 [dr y] (Ty.int .i64 (iw y)) := by
 refine ak Tryz.func31 rfl (by decide) Tryz.ntmps31 (by exact Nat.le_of_ble_eq_true rfl) fun w0 M0 => ?_
 have hs1 := hs.bins
 have hs2 := hs.moves
 have hs3 := hs.levels
 refine aE (aA (bD rfl (bZ rfl (aD (aC (aE (aE (aA ?_))))))))
 refine aL rfl rfl rfl rfl rfl (by decide) ?_
 refine aJ rfl rfl rfl rfl (af (lg _ _ _) rfl rfl rfl rfl rfl (eO rfl ?_))
 apply aM (s := 15) rfl rfl rfl
 ·intro hg; apply aO; (refine aL rfl rfl rfl rfl rfl (by decide) ?_); refine aD ?_; exact rfl
 ·exact rfl
 ·exact rfl
 apply aM (s := 15) rfl rfl rfl
 ·intro hg; apply aK (s := 16) rfl (by (rw [hg]; rfl)); apply aO; (refine aJ rfl rfl rfl rfl ?_); refine aD ?_; exact rfl
 ·exact rfl
 ·exact rfl
 apply aM (s := 15) rfl rfl rfl
 ·intro hg; apply aK (s := 17) rfl (by (rw [hg]; rfl)); apply aO; (refine cD rfl rfl rfl ?_); refine aD ?_; exact rfl
 ·exact rfl
 ·exact rfl
 apply aM (s := 15) rfl rfl rfl
 ·intro hg; apply aK (s := 18) rfl (by (rw [hg]; rfl)); apply aO; (refine af (lg _ _ _) rfl rfl rfl rfl rfl ?_); refine aD ?_; exact rfl
 ·exact rfl
 ·exact rfl
 refine ir rfl rfl (eO rfl ?_)
 apply aM (s := 21) rfl rfl rfl
 ·intro hg; apply aO; (refine aL rfl rfl rfl rfl rfl (by decide) ?_); refine aD ?_; exact rfl
 ·exact rfl
 ·exact rfl
 apply aM (s := 21) rfl rfl rfl
 ·intro hg; apply aK (s := 22) rfl (by (rw [hg]; rfl)); apply aO; (refine aJ rfl rfl rfl rfl ?_); refine aD ?_; exact rfl
 ·exact rfl
 ·exact rfl
 apply aM (s := 21) rfl rfl rfl
 ·intro hg; apply aK (s := 23) rfl (by (rw [hg]; rfl)); apply aO; (refine cD rfl rfl rfl ?_); refine aD ?_; exact rfl
 ·exact rfl
 ·exact rfl
 apply aM (s := 21) rfl rfl rfl
 ·intro hg; apply aK (s := 24) rfl (by (rw [hg]; rfl)); apply aO; (refine bB rfl rfl rfl ?_); refine aD ?_; exact rfl
 ·exact rfl
 ·exact rfl
 refine ir rfl rfl (eO rfl ?_)
 apply aM (s := 27) rfl rfl rfl
 ·intro hg; apply aO; (refine aL rfl rfl rfl rfl rfl (by decide) ?_); refine aD ?_; exact rfl
 ·exact rfl
 ·exact rfl
 apply aM (s := 27) rfl rfl rfl
 ·intro hg; apply aK (s := 28) rfl (by (rw [hg]; rfl)); apply aO; (refine aJ rfl rfl rfl rfl ?_); refine aD ?_; exact rfl
 ·exact rfl
 ·exact rfl
 apply aM (s := 27) rfl rfl rfl
 ·intro hg; apply aK (s := 29) rfl (by (rw [hg]; rfl)); apply aO; (refine cD rfl rfl rfl ?_); refine aD ?_; exact rfl
 ·exact rfl
 ·exact rfl
 apply aM (s := 27) rfl rfl rfl
 ·intro hg; apply aK (s := 30) rfl (by (rw [hg]; rfl)); apply aO; (refine bB rfl rfl rfl ?_); refine aD ?_; exact rfl
 ·exact rfl
 ·exact rfl
 refine ir rfl rfl (aD (aC ?_))
 refine cH rfl (fun hc1 => ?_) (fun hc1 => ?_)
 ·
  refine aE (aA (bZ rfl (aD (aC (az (aQ (bR rfl rfl ?_)))))))
  all_goals skip
  exact av rfl rfl (congrArg (Ty.int .i64) (Rc hc1))
 refine aj (aC (aE ?_))
 have hmy := Dx hc1
 refine aA (cm rfl (cm rfl (cm rfl (cm rfl (aD (aC (aE (aE (aA ?_)))))))))
 refine bZ rfl (aD (aC (aY ?_)))
 refine b9 (fun (k : {k : Nat // k ≤ y.bins.length}) => live [(1, Ty.pp (bE y)), (3, Ty.bool (mI vJ y.bins k.1)), (4, Ty.bool false), (5, Ty.bool false), (6, Ty.bool (mI Bj y.bins k.1)), (7, Ty.int .i64 (k.1 : Nat))] []) (fun k => y.bins.length - k.1) (⟨0, by omega⟩) ?_ fun k => ?_
 ·(refine cg.mk' ?_ ?_ <;> (repeat' (first | exact aI | exact aH | refine aB ?_ (Ty.aT _) | refine aB ?_ (Ty.aF _))))
  all_goals trace_state
 have hk := k.2
 refine aE (aE (aA (bF rfl ?_)))
 refine aL rfl rfl rfl rfl rfl (by decide) ?_
 refine aJ rfl rfl rfl rfl (cD rfl rfl rfl (bB rfl rfl rfl (aD (aC ?_))))
 refine ah rfl (fun hc2 => ?_) (fun hc2 => ?_)
 ·
  refine aj (aC (aE (aY (aE (aA (eO rfl (eO rfl ?_)))))))
  apply aM (s := 41) rfl rfl rfl
  ·intro hg; apply aO; (refine aL rfl rfl rfl rfl rfl (by decide) ?_); refine aD ?_; exact rfl
  ·exact rfl
  ·exact rfl
  apply aM (s := 41) rfl rfl rfl
  ·intro hg; apply aK (s := 42) rfl (by (rw [hg]; rfl)); apply aO; (refine aJ rfl rfl rfl rfl ?_); refine aD ?_; exact rfl
  ·exact rfl
  ·exact rfl
  apply aM (s := 41) rfl rfl rfl
  ·intro hg; apply aO; (refine bF rfl ?_); refine aD ?_; exact rfl
  ·exact rfl
  ·exact rfl
  apply aM (s := 41) rfl rfl rfl
  ·intro hg; apply aK (s := 43) rfl (by (rw [hg]; rfl)); apply aK (s := 44) rfl (by (rw [hg]; rfl)); apply aO; (refine aq rfl rfl rfl rfl rfl rfl (by omega) ?_); refine aD ?_; exact rfl
  ·exact rfl
  ·exact rfl
  apply aM (s := 41) rfl rfl rfl
  ·intro hg; apply aK (s := 45) rfl (by (rw [hg]; rfl)); apply aO; (refine aL rfl rfl rfl rfl rfl (by decide) ?_); refine aD ?_; exact rfl
  ·exact rfl
  ·exact rfl
  apply aM (s := 41) rfl rfl rfl
  ·intro hg; apply aK (s := 46) rfl (by (rw [hg]; rfl)); apply aO; (refine aJ rfl rfl rfl rfl ?_); refine aD ?_; exact rfl
  ·exact rfl
  ·exact rfl
  apply aM (s := 41) rfl rfl rfl
  ·intro hg; apply aK (s := 47) rfl (by (rw [hg]; rfl)); apply aO; (refine af (lg _ _ _) rfl rfl rfl rfl rfl ?_); refine aD ?_; exact rfl
  ·exact rfl
  ·exact rfl
  refine ir rfl rfl (eO rfl ?_)
  apply aM (s := 50) rfl rfl rfl
  ·intro hg; apply aO; (refine aL rfl rfl rfl rfl rfl (by decide) ?_); refine aD ?_; exact rfl
  ·exact rfl
  ·exact rfl
  apply aM (s := 50) rfl rfl rfl
  ·intro hg; apply aK (s := 51) rfl (by (rw [hg]; rfl)); apply aO; (refine aJ rfl rfl rfl rfl ?_); refine aD ?_; exact rfl
  ·exact rfl
  ·exact rfl
  apply aM (s := 50) rfl rfl rfl
  ·intro hg; apply aO; (refine bF rfl ?_); refine aD ?_; exact rfl
  ·exact rfl
  ·exact rfl
  apply aM (s := 50) rfl rfl rfl
  ·intro hg; apply aK (s := 52) rfl (by (rw [hg]; rfl)); apply aK (s := 53) rfl (by (rw [hg]; rfl)); apply aO; (refine aq rfl rfl rfl rfl rfl rfl (by omega) ?_); refine aD ?_; exact rfl
  ·exact rfl
  ·exact rfl
  apply aM (s := 50) rfl rfl rfl
  ·intro hg; apply aK (s := 54) rfl (by (rw [hg]; rfl)); apply aO; (refine aL rfl rfl rfl rfl rfl (by decide) ?_); refine aD ?_; exact rfl
  ·exact rfl
  ·exact rfl
  apply aM (s := 50) rfl rfl rfl
  ·intro hg; apply aK (s := 55) rfl (by (rw [hg]; rfl)); apply aO; (refine aX rfl rfl rfl (by exact Nat.le_of_ble_eq_true rfl) ?_); refine aD ?_; exact rfl
  ·exact rfl
  ·exact rfl
  apply aM (s := 50) rfl rfl rfl
  ·intro hg; apply aK (s := 56) rfl (by (rw [hg]; rfl)); apply aO; (refine af (BB _) rfl rfl rfl rfl rfl ?_); refine aD ?_; exact rfl
  ·exact rfl
  ·exact rfl
  refine ir rfl rfl (cm rfl (aD (aC (cP mixed rfl (eO rfl (eO rfl ?_))))))
  apply aM (s := 60) rfl rfl rfl
  ·intro hg; apply aO; (refine aL rfl rfl rfl rfl rfl (by decide) ?_); refine aD ?_; exact rfl
  ·exact rfl
  ·exact rfl
  apply aM (s := 60) rfl rfl rfl
  ·intro hg; apply aK (s := 61) rfl (by (rw [hg]; rfl)); apply aO; (refine aJ rfl rfl rfl rfl ?_); refine aD ?_; exact rfl
  ·exact rfl
  ·exact rfl
  apply aM (s := 60) rfl rfl rfl
  ·intro hg; apply aO; (refine bF rfl ?_); refine aD ?_; exact rfl
  ·exact rfl
  ·exact rfl
  apply aM (s := 60) rfl rfl rfl
  ·intro hg; apply aK (s := 62) rfl (by (rw [hg]; rfl)); apply aK (s := 63) rfl (by (rw [hg]; rfl)); apply aO; (refine aq rfl rfl rfl rfl rfl rfl (by omega) ?_); refine aD ?_; exact rfl
  ·exact rfl
  ·exact rfl
  apply aM (s := 60) rfl rfl rfl
  ·intro hg; apply aK (s := 64) rfl (by (rw [hg]; rfl)); apply aO; (refine aL rfl rfl rfl rfl rfl (by decide) ?_); refine aD ?_; exact rfl
  ·exact rfl
  ·exact rfl
  apply aM (s := 60) rfl rfl rfl
  ·intro hg; apply aK (s := 65) rfl (by (rw [hg]; rfl)); apply aO; (refine aL rfl rfl rfl rfl rfl (by decide) ?_); refine aD ?_; exact rfl
  ·exact rfl
  ·exact rfl
  apply aM (s := 60) rfl rfl rfl
  ·intro hg; apply aK (s := 66) rfl (by (rw [hg]; rfl)); apply aO; (refine aJ rfl rfl rfl rfl ?_); refine aD ?_; exact rfl
  ·exact rfl
  ·exact rfl
  apply aM (s := 60) rfl rfl rfl
  ·intro hg; apply aO; (refine aL rfl rfl rfl rfl rfl (by decide) ?_); refine aD ?_; exact rfl
  ·exact rfl
  ·exact rfl
  apply aM (s := 60) rfl rfl rfl
  ·intro hg; apply aK (s := 68) rfl (by (rw [hg]; rfl)); apply aO; (refine aJ rfl rfl rfl rfl ?_); refine aD ?_; exact rfl
  ·exact rfl
  ·exact rfl
  apply aM (s := 60) rfl rfl rfl
  ·intro hg; apply aO; (refine bF rfl ?_); refine aD ?_; exact rfl
  ·exact rfl
  ·exact rfl
  apply aM (s := 60) rfl rfl rfl
  ·intro hg; apply aK (s := 69) rfl (by (rw [hg]; rfl)); apply aK (s := 70) rfl (by (rw [hg]; rfl)); apply aO; (refine aq rfl rfl rfl rfl rfl rfl (by omega) ?_); refine aD ?_; exact rfl
  ·exact rfl
  ·exact rfl
  apply aM (s := 60) rfl rfl rfl
  ·intro hg; apply aK (s := 71) rfl (by (rw [hg]; rfl)); apply aO; (refine aL rfl rfl rfl rfl rfl (by decide) ?_); refine aD ?_; exact rfl
  ·exact rfl
  ·exact rfl
  apply aM (s := 60) rfl rfl rfl
  ·intro hg; apply aK (s := 72) rfl (by (rw [hg]; rfl)); apply aO; (refine aL rfl rfl rfl rfl rfl (by decide) ?_); refine aD ?_; exact rfl
  ·exact rfl
  ·exact rfl
  apply aM (s := 60) rfl rfl rfl
  ·intro hg; apply aK (s := 73) rfl (by (rw [hg]; rfl)); apply aO; (refine aJ rfl rfl rfl rfl ?_); refine aD ?_; exact rfl
  ·exact rfl
  ·exact rfl
  apply aM (s := 60) rfl rfl rfl
  ·intro hg; apply aK (s := 67) rfl (by (rw [hg]; rfl)); apply aK (s := 74) rfl (by (rw [hg]; rfl)); apply aO; (refine bB rfl rfl rfl ?_); refine aD ?_; exact rfl
  ·exact rfl
  ·exact rfl
  refine ir rfl rfl (cm rfl (aD ?_))
  refine ⟨by kernel_rfl, ?_⟩
  refine bI (aC (aA (bF rfl ?_)))
  refine bq rfl rfl (by omega) (by omega) ?_
  refine bZ rfl (aD ?_)
  refine bM (⟨k.1 + 1, by omega⟩) ?_ (by show y.bins.length - (k.1 + 1) < y.bins.length - k.1; omega)
  (refine cg.mk' ?_ ?_ <;> (repeat' (first | exact aI | exact aH | refine aB ?_ (Ty.aT _) | refine aB ?_ (Ty.aF _) | refine aB ?_ ?_)))
  all_goals skip
  all_goals first | exact Ty.c9 ((Bool.or_assoc _ _ _).trans (hO (p := vJ) (by omega))) | exact Ty.c9 (hO (p := Bj) (by omega))
 refine bz (aP (aP (aa rfl (aC (aE (aE (aA (bZ rfl (aD ?_)))))))))
 refine aC (aY ?_)
 refine b9 (fun (m : {k : Nat // k ≤ y.moves.length}) => live [(1, Ty.pp (bE y)), (3, Ty.bool (y.bins.any vJ || mI y5 y.moves m.1)), (4, Ty.bool (mI (notM y) y.moves m.1)), (5, Ty.bool (mI MA y.moves m.1)), (6, Ty.bool (y.bins.any Bj || mI H8 y.moves m.1)), (8, Ty.int .i64 (m.1 : Nat))] []) (fun m => y.moves.length - m.1) (⟨0, by omega⟩) ?_ fun m => ?_
 ·(refine cg.mk' ?_ ?_ <;> (repeat' (first | exact aI | exact aH | refine aB ?_ (Ty.aT _) | refine aB ?_ (Ty.aF _) | refine aB ?_ ?_)))
  all_goals exact Ty.c9 ((fL hc2).trans (Bool.or_false _).symm)
 have hm := m.2
 refine aE (aE (aA (bF rfl ?_)))
 refine aL rfl rfl rfl rfl rfl (by decide) ?_
 refine aJ rfl rfl rfl rfl (cD rfl rfl rfl (bB rfl rfl rfl (aD (aC ?_))))
 refine ah rfl (fun hc3 => ?_) (fun hc3 => ?_)
 ·
  refine aj (aC (aE (aY (aE (aA ?_)))))
  refine aL rfl rfl rfl rfl rfl (by decide) ?_
  refine aJ rfl rfl rfl rfl (bF rfl ?_)
  refine aq rfl rfl rfl rfl rfl rfl (by omega) ?_
  refine aX rfl rfl rfl (by exact Nat.le_of_ble_eq_true rfl) ?_
  refine bu rfl (by exact List.cons_ne_nil _ _) rfl ?_
  refine bh rfl rfl (by decide) rfl rfl rfl rfl rfl rfl ?_
  refine aD (aC (aE (aA (eO rfl (eO rfl ?_)))))
  apply aM (s := 90) rfl rfl rfl
  ·intro hg; apply aO; (refine aS rfl rfl rfl rfl rfl (by decide) ?_); refine aD ?_; exact rfl
  ·exact rfl
  ·exact rfl
  apply aM (s := 90) rfl rfl rfl
  ·intro hg; apply aK (s := 91) rfl (by (rw [hg]; rfl)); apply aO; (refine bg rfl rfl (by decide) rfl rfl (by exact Nat.le_of_ble_eq_true rfl) ?_); refine aD ?_; exact rfl
  ·exact rfl
  ·exact rfl
  apply aM (s := 90) rfl rfl rfl
  ·intro hg; apply aK (s := 92) rfl (by (rw [hg]; rfl)); apply aO; (refine af (BB _) rfl rfl rfl rfl rfl ?_); refine aD ?_; exact rfl
  ·exact rfl
  ·exact rfl
  refine ir rfl rfl (cm rfl (aD (aC (aE (aA (eO rfl (eO rfl ?_)))))))
  apply aM (s := 96) rfl rfl rfl
  ·intro hg; apply aO; (refine aS rfl rfl rfl rfl rfl (by decide) ?_); refine aD ?_; exact rfl
  ·exact rfl
  ·exact rfl
  apply aM (s := 96) rfl rfl rfl
  ·intro hg; apply aK (s := 97) rfl (by (rw [hg]; rfl)); apply aO; (refine aZ rfl rfl (by decide) rfl rfl rfl ?_); refine aD ?_; exact rfl
  ·exact rfl
  ·exact rfl
  apply aM (s := 96) rfl rfl rfl
  ·intro hg; apply aO; (refine aL rfl rfl rfl rfl rfl (by decide) ?_); refine aD ?_; exact rfl
  ·exact rfl
  ·exact rfl
  apply aM (s := 96) rfl rfl rfl
  ·intro hg; apply aK (s := 99) rfl (by (rw [hg]; rfl)); apply aO; (refine aJ rfl rfl rfl rfl ?_); refine aD ?_; exact rfl
  ·exact rfl
  ·exact rfl
  apply aM (s := 96) rfl rfl rfl
  ·intro hg; apply aK (s := 100) rfl (by (rw [hg]; rfl)); apply aO; (refine gH rfl rfl (by omega) (by omega) ?_); refine aD ?_; exact rfl
  ·exact rfl
  ·exact rfl
  apply aM (s := 96) rfl rfl rfl
  ·intro hg; apply aK (s := 98) rfl (by (rw [hg]; rfl)); apply aK (s := 101) rfl (by (rw [hg]; rfl)); apply aO; (refine af (lg _ _ _) rfl rfl rfl rfl rfl ?_); refine aD ?_; exact rfl
  ·exact rfl
  ·exact rfl
  refine ir rfl rfl (eO rfl ?_)
  apply aM (s := 104) rfl rfl rfl
  ·intro hg; apply aO; (refine aS rfl rfl rfl rfl rfl (by decide) ?_); refine aD ?_; exact rfl
  ·exact rfl
  ·exact rfl
  apply aM (s := 104) rfl rfl rfl
  ·intro hg; apply aK (s := 105) rfl (by (rw [hg]; rfl)); apply aO; (refine aZ rfl rfl (by decide) rfl rfl rfl ?_); refine aD ?_; exact rfl
  ·exact rfl
  ·exact rfl
  apply aM (s := 104) rfl rfl rfl
  ·intro hg; apply aO; (refine aL rfl rfl rfl rfl rfl (by decide) ?_); refine aD ?_; exact rfl
  ·exact rfl
  ·exact rfl
  apply aM (s := 104) rfl rfl rfl
  ·intro hg; apply aK (s := 107) rfl (by (rw [hg]; rfl)); apply aO; (refine aJ rfl rfl rfl rfl ?_); refine aD ?_; exact rfl
  ·exact rfl
  ·exact rfl
  apply aM (s := 104) rfl rfl rfl
  ·intro hg; apply aK (s := 108) rfl (by (rw [hg]; rfl)); apply aO; (refine cD rfl rfl rfl ?_); refine aD ?_; exact rfl
  ·exact rfl
  ·exact rfl
  apply aM (s := 104) rfl rfl rfl
  ·intro hg; apply aK (s := 109) rfl (by (rw [hg]; rfl)); apply aO; (refine gH rfl rfl (by omega) (by omega) ?_); refine aD ?_; exact rfl
  ·exact rfl
  ·exact rfl
  apply aM (s := 104) rfl rfl rfl
  ·intro hg; apply aK (s := 106) rfl (by (rw [hg]; rfl)); apply aK (s := 110) rfl (by (rw [hg]; rfl)); apply aO; (refine af (lg _ _ _) rfl rfl rfl rfl rfl ?_); refine aD ?_; exact rfl
  ·exact rfl
  ·exact rfl
  refine ir rfl rfl (eO rfl ?_)
  apply aM (s := 113) rfl rfl rfl
  ·intro hg; apply aO; (refine aS rfl rfl rfl rfl rfl (by decide) ?_); refine aD ?_; exact rfl
  ·exact rfl
  ·exact rfl
  apply aM (s := 113) rfl rfl rfl
  ·intro hg; apply aK (s := 114) rfl (by (rw [hg]; rfl)); apply aO; (refine aZ rfl rfl (by decide) rfl rfl rfl ?_); refine aD ?_; exact rfl
  ·exact rfl
  ·exact rfl
  apply aM (s := 113) rfl rfl rfl
  ·intro hg; apply aO; (refine aL rfl rfl rfl rfl rfl (by decide) ?_); refine aD ?_; exact rfl
  ·exact rfl
  ·exact rfl
  apply aM (s := 113) rfl rfl rfl
  ·intro hg; apply aK (s := 116) rfl (by (rw [hg]; rfl)); apply aO; (refine aJ rfl rfl rfl rfl ?_); refine aD ?_; exact rfl
  ·exact rfl
  ·exact rfl
  apply aM (s := 113) rfl rfl rfl
  ·intro hg; apply aK (s := 117) rfl (by (rw [hg]; rfl)); apply aO; (refine cD rfl rfl rfl ?_); refine aD ?_; exact rfl
  ·exact rfl
  ·exact rfl
  apply aM (s := 113) rfl rfl rfl
  ·intro hg; apply aK (s := 118) rfl (by (rw [hg]; rfl)); apply aO; (refine gH rfl rfl (by omega) (by omega) ?_); refine aD ?_; exact rfl
  ·exact rfl
  ·exact rfl
  apply aM (s := 113) rfl rfl rfl
  ·intro hg; apply aK (s := 115) rfl (by (rw [hg]; rfl)); apply aK (s := 119) rfl (by (rw [hg]; rfl)); apply aO; (refine af (lg _ _ _) rfl rfl rfl rfl rfl ?_); refine aD ?_; exact rfl
  ·exact rfl
  ·exact rfl
  refine ir rfl rfl (cm rfl (aD (aC (aE (aA (eO rfl (eO rfl ?_)))))))
  apply aM (s := 123) rfl rfl rfl
  ·intro hg; apply aO; (refine aS rfl rfl rfl rfl rfl (by decide) ?_); refine aD ?_; exact rfl
  ·exact rfl
  ·exact rfl
  apply aM (s := 123) rfl rfl rfl
  ·intro hg; apply aK (s := 124) rfl (by (rw [hg]; rfl)); apply aO; (refine aZ rfl rfl (by decide) rfl rfl rfl ?_); refine aD ?_; exact rfl
  ·exact rfl
  ·exact rfl
  apply aM (s := 123) rfl rfl rfl
  ·intro hg; apply aO; (refine aS rfl rfl rfl rfl rfl (by decide) ?_); refine aD ?_; exact rfl
  ·exact rfl
  ·exact rfl
  apply aM (s := 123) rfl rfl rfl
  ·intro hg; apply aK (s := 126) rfl (by (rw [hg]; rfl)); apply aO; (refine aZ rfl rfl (by decide) rfl rfl rfl ?_); refine aD ?_; exact rfl
  ·exact rfl
  ·exact rfl
  apply aM (s := 123) rfl rfl rfl
  ·intro hg; apply aK (s := 125) rfl (by (rw [hg]; rfl)); apply aK (s := 127) rfl (by (rw [hg]; rfl)); apply aO; (refine bB rfl rfl rfl ?_); refine aD ?_; exact rfl
  ·exact rfl
  ·exact rfl
  refine ir rfl rfl (cm rfl (aD (aC (aA (eO rfl (eO rfl ?_))))))
  apply aM (s := 131) rfl rfl rfl
  ·intro hg; apply aO; (refine aS rfl rfl rfl rfl rfl (by decide) ?_); refine aD ?_; exact rfl
  ·exact rfl
  ·exact rfl
  apply aM (s := 131) rfl rfl rfl
  ·intro hg; apply aK (s := 132) rfl (by (rw [hg]; rfl)); apply aO; (refine aS rfl rfl rfl rfl rfl (by decide) ?_); refine aD ?_; exact rfl
  ·exact rfl
  ·exact rfl
  apply aM (s := 131) rfl rfl rfl
  ·intro hg; apply aK (s := 133) rfl (by (rw [hg]; rfl)); apply aO; (refine aZ rfl rfl (by decide) rfl rfl rfl ?_); refine aD ?_; exact rfl
  ·exact rfl
  ·exact rfl
  apply aM (s := 131) rfl rfl rfl
  ·intro hg; apply aO; (refine aS rfl rfl rfl rfl rfl (by decide) ?_); refine aD ?_; exact rfl
  ·exact rfl
  ·exact rfl
  apply aM (s := 131) rfl rfl rfl
  ·intro hg; apply aK (s := 135) rfl (by (rw [hg]; rfl)); apply aO; (refine aS rfl rfl rfl rfl rfl (by decide) ?_); refine aD ?_; exact rfl
  ·exact rfl
  ·exact rfl
  apply aM (s := 131) rfl rfl rfl
  ·intro hg; apply aK (s := 136) rfl (by (rw [hg]; rfl)); apply aO; (refine aZ rfl rfl (by decide) rfl rfl rfl ?_); refine aD ?_; exact rfl
  ·exact rfl
  ·exact rfl
  apply aM (s := 131) rfl rfl rfl
  ·intro hg; apply aK (s := 134) rfl (by (rw [hg]; rfl)); apply aK (s := 137) rfl (by (rw [hg]; rfl)); apply aO; (refine bB rfl rfl rfl ?_); refine aD ?_; exact rfl
  ·exact rfl
  ·exact rfl
  refine ir rfl rfl (cm rfl (aD (bI (aC (aA (bF rfl ?_))))))
  refine bq rfl rfl (by omega) (by omega) ?_
  refine bZ rfl (aD ?_)
  refine bM (⟨m.1 + 1, by omega⟩) ?_ (by show y.moves.length - (m.1 + 1) < y.moves.length - m.1; omega)
  (refine cg.mk' ?_ ?_ <;> (repeat' (first | exact aI | exact aH | refine aB ?_ (Ty.aT _) | refine aB ?_ (Ty.aF _) | refine aB ?_ ?_)))
  all_goals skip
  all_goals first | exact Ty.c9 ((Bool.or_assoc _ _ _).trans (congrArg (y.bins.any vJ || ·) (hO (p := y5) (by omega)))) | exact Ty.c9 ((Bool.or_assoc _ _ _).trans (congrArg (y.bins.any Bj || ·) (hO (p := H8) (by omega)))) | exact Ty.c9 ((SD _ _ _ _).trans (hO (p := notM y) (by omega))) | exact Ty.c9 (hO (p := MA) (by omega))
 refine bz (aP (aP (aa rfl (aC (aE (aE (aA (bZ rfl (aD ?_)))))))))
 refine aC (aY ?_)
 refine b9 (fun (n : {k : Nat // k ≤ y.levels.length}) => live [(1, Ty.pp (bE y)), (3, Ty.bool ((y.bins.any vJ || y.moves.any y5) || mI FQ y.levels n.1)), (4, Ty.bool (y.moves.any (notM y) || mI (IW y) y.levels n.1)), (5, Ty.bool (Oz y)), (6, Ty.bool ((y.bins.any Bj || y.moves.any H8) || mI Ns y.levels n.1)), (10, Ty.int .i64 (n.1 : Nat))] []) (fun n => y.levels.length - n.1) (⟨0, by omega⟩) ?_ fun n => ?_
 ·(refine cg.mk' ?_ ?_ <;> (repeat' (first | exact aI | exact aH | refine aB ?_ (Ty.aT _) | refine aB ?_ (Ty.aF _) | refine aB ?_ ?_)))
  all_goals first | exact Ty.c9 ((congrArg (_ || ·) (fL hc3)).trans (Bool.or_false _).symm) | exact Ty.c9 ((fL hc3).trans (Bool.or_false _).symm) | exact Ty.c9 (fL hc3)
 have hn := n.2
 refine aE (aE (aA (bF rfl ?_)))
 refine aL rfl rfl rfl rfl rfl (by decide) ?_
 refine aJ rfl rfl rfl rfl (cD rfl rfl rfl (bB rfl rfl rfl (aD (aC ?_))))
 refine ah rfl (fun hc4 => ?_) (fun hc4 => ?_)
 ·
  refine aj (aC (aE (aY (aE (aA ?_)))))
  refine aL rfl rfl rfl rfl rfl (by decide) ?_
  refine aJ rfl rfl rfl rfl (bF rfl ?_)
  refine aq rfl rfl rfl rfl rfl rfl (by omega) ?_
  refine aX rfl rfl rfl (by exact Nat.le_of_ble_eq_true rfl) ?_
  refine bu rfl (by exact List.cons_ne_nil _ _) rfl ?_
  refine bh rfl rfl (by decide) rfl rfl rfl rfl rfl rfl ?_
  refine aD (aC (aE (aA (eO rfl (eO rfl ?_)))))
  apply aM (s := 153) rfl rfl rfl
  ·intro hg; apply aO; (refine aS rfl rfl rfl rfl rfl (by decide) ?_); refine aD ?_; exact rfl
  ·exact rfl
  ·exact rfl
  apply aM (s := 153) rfl rfl rfl
  ·intro hg; apply aK (s := 154) rfl (by (rw [hg]; rfl)); apply aO; (refine bg rfl rfl (by decide) rfl rfl (by exact Nat.le_of_ble_eq_true rfl) ?_); refine aD ?_; exact rfl
  ·exact rfl
  ·exact rfl
  apply aM (s := 153) rfl rfl rfl
  ·intro hg; apply aK (s := 155) rfl (by (rw [hg]; rfl)); apply aO; (refine af (BB _) rfl rfl rfl rfl rfl ?_); refine aD ?_; exact rfl
  ·exact rfl
  ·exact rfl
  refine ir rfl rfl (cm rfl (aD (aC (aE (aA (eO rfl (eO rfl ?_)))))))
  apply aM (s := 159) rfl rfl rfl
  ·intro hg; apply aO; (refine aS rfl rfl rfl rfl rfl (by decide) ?_); refine aD ?_; exact rfl
  ·exact rfl
  ·exact rfl
  apply aM (s := 159) rfl rfl rfl
  ·intro hg; apply aK (s := 160) rfl (by (rw [hg]; rfl)); apply aO; (refine aZ rfl rfl (by decide) rfl rfl rfl ?_); refine aD ?_; exact rfl
  ·exact rfl
  ·exact rfl
  apply aM (s := 159) rfl rfl rfl
  ·intro hg; apply aO; (refine aL rfl rfl rfl rfl rfl (by decide) ?_); refine aD ?_; exact rfl
  ·exact rfl
  ·exact rfl
  apply aM (s := 159) rfl rfl rfl
  ·intro hg; apply aK (s := 162) rfl (by (rw [hg]; rfl)); apply aO; (refine aJ rfl rfl rfl rfl ?_); refine aD ?_; exact rfl
  ·exact rfl
  ·exact rfl
  apply aM (s := 159) rfl rfl rfl
  ·intro hg; apply aK (s := 161) rfl (by (rw [hg]; rfl)); apply aK (s := 163) rfl (by (rw [hg]; rfl)); apply aO; (refine af (lg _ _ _) rfl rfl rfl rfl rfl ?_); refine aD ?_; exact rfl
  ·exact rfl
  ·exact rfl
  refine ir rfl rfl (eO rfl ?_)
  apply aM (s := 166) rfl rfl rfl
  ·intro hg; apply aO; (refine aS rfl rfl rfl rfl rfl (by decide) ?_); refine aD ?_; exact rfl
  ·exact rfl
  ·exact rfl
  apply aM (s := 166) rfl rfl rfl
  ·intro hg; apply aK (s := 167) rfl (by (rw [hg]; rfl)); apply aO; (refine aZ rfl rfl (by decide) rfl rfl rfl ?_); refine aD ?_; exact rfl
  ·exact rfl
  ·exact rfl
  apply aM (s := 166) rfl rfl rfl
  ·intro hg; apply aO; (refine aL rfl rfl rfl rfl rfl (by decide) ?_); refine aD ?_; exact rfl
  ·exact rfl
  ·exact rfl
  apply aM (s := 166) rfl rfl rfl
  ·intro hg; apply aK (s := 169) rfl (by (rw [hg]; rfl)); apply aO; (refine aJ rfl rfl rfl rfl ?_); refine aD ?_; exact rfl
  ·exact rfl
  ·exact rfl
  apply aM (s := 166) rfl rfl rfl
  ·intro hg; apply aK (s := 170) rfl (by (rw [hg]; rfl)); apply aO; (refine cD rfl rfl rfl ?_); refine aD ?_; exact rfl
  ·exact rfl
  ·exact rfl
  apply aM (s := 166) rfl rfl rfl
  ·intro hg; apply aK (s := 171) rfl (by (rw [hg]; rfl)); apply aO; (refine gH rfl rfl (by omega) (by omega) ?_); refine aD ?_; exact rfl
  ·exact rfl
  ·exact rfl
  apply aM (s := 166) rfl rfl rfl
  ·intro hg; apply aK (s := 168) rfl (by (rw [hg]; rfl)); apply aK (s := 172) rfl (by (rw [hg]; rfl)); apply aO; (refine af (lg _ _ _) rfl rfl rfl rfl rfl ?_); refine aD ?_; exact rfl
  ·exact rfl
  ·exact rfl
  refine ir rfl rfl (cm rfl (aD (aC (aA (eO rfl (eO rfl ?_))))))
  apply aM (s := 176) rfl rfl rfl
  ·intro hg; apply aO; (refine aS rfl rfl rfl rfl rfl (by decide) ?_); refine aD ?_; exact rfl
  ·exact rfl
  ·exact rfl
  apply aM (s := 176) rfl rfl rfl
  ·intro hg; apply aK (s := 177) rfl (by (rw [hg]; rfl)); apply aO; (refine aS rfl rfl rfl rfl rfl (by decide) ?_); refine aD ?_; exact rfl
  ·exact rfl
  ·exact rfl
  apply aM (s := 176) rfl rfl rfl
  ·intro hg; apply aK (s := 178) rfl (by (rw [hg]; rfl)); apply aO; (refine aZ rfl rfl (by decide) rfl rfl rfl ?_); refine aD ?_; exact rfl
  ·exact rfl
  ·exact rfl
  apply aM (s := 176) rfl rfl rfl
  ·intro hg; apply aO; (refine aS rfl rfl rfl rfl rfl (by decide) ?_); refine aD ?_; exact rfl
  ·exact rfl
  ·exact rfl
  apply aM (s := 176) rfl rfl rfl
  ·intro hg; apply aK (s := 180) rfl (by (rw [hg]; rfl)); apply aO; (refine aS rfl rfl rfl rfl rfl (by decide) ?_); refine aD ?_; exact rfl
  ·exact rfl
  ·exact rfl
  apply aM (s := 176) rfl rfl rfl
  ·intro hg; apply aK (s := 181) rfl (by (rw [hg]; rfl)); apply aO; (refine aZ rfl rfl (by decide) rfl rfl rfl ?_); refine aD ?_; exact rfl
  ·exact rfl
  ·exact rfl
  apply aM (s := 176) rfl rfl rfl
  ·intro hg; apply aK (s := 179) rfl (by (rw [hg]; rfl)); apply aK (s := 182) rfl (by (rw [hg]; rfl)); apply aO; (refine bB rfl rfl rfl ?_); refine aD ?_; exact rfl
  ·exact rfl
  ·exact rfl
  refine ir rfl rfl (cm rfl (aD (bI (aC (aA (bF rfl ?_))))))
  refine bq rfl rfl (by omega) (by omega) ?_
  refine bZ rfl (aD ?_)
  refine bM (⟨n.1 + 1, by omega⟩) ?_ (by show y.levels.length - (n.1 + 1) < y.levels.length - n.1; omega)
  (refine cg.mk' ?_ ?_ <;> (repeat' (first | exact aI | exact aH | refine aB ?_ (Ty.aT _) | refine aB ?_ (Ty.aF _) | refine aB ?_ ?_)))
  all_goals skip
  all_goals first | exact Ty.c9 ((Bool.or_assoc _ _ _).trans (congrArg ((y.bins.any vJ || y.moves.any y5) || ·) (hO (p := FQ) (by omega)))) | exact Ty.c9 ((Bool.or_assoc _ _ _).trans (congrArg ((y.bins.any Bj || y.moves.any H8) || ·) (hO (p := Ns) (by omega)))) | exact Ty.c9 ((Rb _ _ _ _).trans (congrArg (y.moves.any (notM y) || ·) (hO (p := IW y) (by omega))))
 refine bz (aP (aP (aa rfl (aC (aE (aE (aA (eO rfl (aD ?_)))))))))
 refine aC ?_
 refine cH rfl (fun hc5 => ?_) (fun hc5 => ?_)
 ·
  refine aE (aA (bZ rfl (aD (aC (az (aQ (bR rfl rfl ?_)))))))
  all_goals skip
  exact av rfl rfl (congrArg (Ty.int .i64) (Ry hc1 hc5 (congrArg (_ || ·) (fL hc4))))
 refine aj (aC (aE (aE (aA (eO rfl (aD (aC ?_)))))))
 refine cH rfl (fun hc6 => ?_) (fun hc6 => ?_)
 ·
  refine aE (aA (bZ rfl (aD (aC (az (aQ (bR rfl rfl ?_)))))))
  all_goals skip
  exact av rfl rfl (congrArg (Ty.int .i64) (Rt hc1 hc5 (congrArg (_ || ·) (fL hc4)) hc6 (congrArg (_ || ·) (fL hc4))))
 refine aj (aC (aE (aE (aA (eO rfl (aD (aC ?_)))))))
 refine cH rfl (fun hc7 => ?_) (fun hc7 => ?_)
 ·
  refine aE (aA (bZ rfl (aD (aC (az (aQ (bR rfl rfl ?_)))))))
  all_goals skip
  exact av rfl rfl (congrArg (Ty.int .i64) (Rj hc1 hc5 (congrArg (_ || ·) (fL hc4)) hc6 (congrArg (_ || ·) (fL hc4)) hc7 rfl))
 refine aj (aC (aE (aE (aA (eO rfl (aD (aC ?_)))))))
 refine cH rfl (fun hc8 => ?_) (fun hc8 => ?_)
 ·
  refine aE (aA (bZ rfl (aD (aC (az (aQ (bR rfl rfl ?_)))))))
  all_goals skip
  exact av rfl rfl (congrArg (Ty.int .i64) (Rk hc1 hc5 (congrArg (_ || ·) (fL hc4)) hc6 (congrArg (_ || ·) (fL hc4)) hc7 rfl hc8 (congrArg (_ || ·) (fL hc4))))
 refine aj (aC (aE (aA (bZ rfl (aD (aC (az (bR rfl rfl ?_))))))))
 all_goals skip
 exact av rfl rfl (congrArg (Ty.int .i64) (Rx hc1 hc5 (congrArg (_ || ·) (fL hc4)) hc6 (congrArg (_ || ·) (fL hc4)) hc7 rfl hc8 (congrArg (_ || ·) (fL hc4))))
end Go.Proofs.YtelbollidfdcjaaGreat
namespace Go.Proofs.YtelbollidfdcjaaGreat
open Go Go.T
set_option maxHeartbeats 6000000
section
variable {y : au} {l : Level}
end
section
variable {y : au} {m : Move}
end
attribute [local irreducible] bL
attribute [local irreducible] gL eX lN nh gy g6 gu gw gx nj gr ni dN fX nH fu nZ nth fP dQ bA dJ bodyPost Exit.then Exit.inBlock Code.wp Code.wpIn nW g7 nY nV g8 eP cL cM bodyPostM dR
end Go.Proofs.YtelbollidfdcjaaGreat
namespace Go.Proofs.YtelbollidfdcjaaGreat
open Go Go.T
section
variable {y : au} {c : Nat → Bool} {a : dZ} {l : Level} {b t k : Nat} {s s' : Span} {f : dZ → Int}
theorem DH {i : Nat} (h : i < 8) : nth bf i = true := by
 unfold bf; rw [fk (by rw [List.length_replicate]; exact h), List.getElem_replicate]
theorem Bo (hr : y.bt) : fH y (nth bf) a ↔ fH y (fun _ => true) a := by
 have h8 := hr.levels
 refine ⟨fun h => ⟨h.lens, h.first, h.cont, h.cC, fun i hi _ => h.level i hi (DH (by omega))⟩, fun h => ⟨h.lens, h.first, h.cont, h.cC, fun i hi _ => h.level i hi rfl⟩⟩
structure R8 (y : au) (l : Level) : Prop where
  day : 0 ≤ l.day ∧ l.day ≤ y.days
  bin : 0 ≤ l.bin ∧ l.bin < y.bins.length
  num : 0 ≤ l.sacks.lo ∧ l.sacks.hi ≤ 300
  ord : l.sacks.lo ≤ l.sacks.hi
theorem Dc.le {y' : au} {c' : Nat → Bool} {g : dZ → Int} (h : Dc y c f s) (h' : Dc y' c' g s') (sub : ∀ a, fH y' c' a → fH y c a ∧ g a = f a) : s.lo ≤ s'.lo ∧ s'.hi ≤ s.hi := by
 obtain ⟨a1, f1, e1⟩ := h'.lo
 obtain ⟨a2, f2, e2⟩ := h'.hi
 have h1 := h.all a1 (sub a1 f1).1
 have h2 := h.all a2 (sub a2 f2).1
 rw [← (sub a1 f1).2] at h1
 rw [← (sub a2 f2).2] at h2
 omega
structure zK (y z : au) : Prop where
  days : z.days = y.days
  bins : z.bins = y.bins
  moves : z.moves = y.moves
  less : ∀ a, fH z (fun _ => true) a → fH y (fun _ => true) a
variable {z : au}
theorem zK.D (h : zK y z) : z.D = y.D := by unfold au.D; rw [h.days]
theorem zK.cont (h : zK y z) : dM z a b t = dM y a b t := by unfold dM qu; rw [h.moves]
theorem zK.fits (h : zK y z) (hy : y.bt) (hz : z.bt) (ha : fH z (nth bf) a) : fH y (nth bf) a := (Bo hy).2 (h.less a ((Bo hz).1 ha))
end
end Go.Proofs.YtelbollidfdcjaaGreat
namespace Go.Proofs.YtelbollidfdcjaaGreat
open Go Go.T
section
variable {y : au} {b t : Nat} {v : Int} {p q : Int}
end
end Go.Proofs.YtelbollidfdcjaaGreat
namespace Go.Proofs.YtelbollidfdcjaaGreat
open Go Go.T
section
variable {fl : List cB} {a x1 x2 : List Int} {n k : Nat} {v : Int}
end
section
variable {y : au} {b t : Nat} {v : Int}
end
end Go.Proofs.YtelbollidfdcjaaGreat
