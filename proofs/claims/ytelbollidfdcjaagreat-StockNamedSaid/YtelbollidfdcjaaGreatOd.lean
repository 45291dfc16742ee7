/- Lemmas: the program and the reference walked, plain laws. -/
import Derived.Test.YtelbollidfdcjaaGreatOc
namespace Go.Proofs.YtelbollidfdcjaaGreat
open Go Go.T
set_option maxHeartbeats 16000000
theorem LR : Tryz.prog.underlying 28 = some (.slice 3) := by kernel_rfl
theorem L8 : Tryz.prog.underlying 222 = some (.slice 199) := by kernel_rfl
section
variable {y : ah} {fl : List cC} {a : List Int} {n : Nat} {has : Nat → Bool} {xs : List Int}
theorem Oh {G : Nat → Int} (h : gb fl n a) : Mg fl n G a a := ⟨h, rfl⟩
theorem JR {c : Nat → Bool} {b : Nat} (hl : a.length = (aP y c).length) (hb : b < y.bins.length) : y.kept b 0 < a.length := by rw [hl]; exact FC hb (Nat.zero_le _)
theorem K6 {x : List Int} {i k : Nat} (h : i = k) : iz has x i = iz has x k := by rw [h]
theorem Ky (fl : List cC) (has : Nat → Bool) (x : List Int) : iz has x fl.length = jM fl has x := rfl
theorem Ju (hN : Net fl n) (hn : 0 < n) (hB : Bd fl) (h : gb fl n a) : (⟨jM fl has (gU fl n (dF has true) a), jM fl has (gU fl n (dF has false) (Cn fl n has a))⟩ : Span) = gj fl n has := (s7 hN hn hB h).2.2.eq.symm
def iJ (y : ah) (a : List Int) (k : Nat) : List Int := (List.range k).map fun b => nth a (y.kept b 0)
theorem BG (k : Nat) : iJ y a k ++ [nth a (y.kept k 0)] = iJ y a (k + 1) := by unfold iJ; rw [List.range_succ, List.map_append]; rfl
theorem Cr : iJ y a 0 = [] := rfl
theorem DR (k : Nat) : (iJ y a k).length = k := by unfold iJ; rw [List.length_map, List.length_range]
theorem told_eq (y : ah) (a : List Int) : (⟨iJ y a y.bins.length, a.drop (y.bins.length * (y.D + 1))⟩ : eM) = gJ y a := rfl
theorem Iv (h : xs = []) : (Ty.jx (.slice none 0 0)).Sub (Ty.row cS 3 26 xs) := by subst h; exact Ty.kN
theorem lo_eq (fl : List cC) (n : Nat) (has : Nat → Bool) (a : List Int) : gU fl n (dF has true) a = Cn fl n has a := rfl
theorem hi_eq (fl : List cC) (n : Nat) (has : Nat → Bool) (a : List Int) : gU fl n (dF has false) (Cn fl n has a) = yL fl n has a := rfl
end
attribute [local irreducible] aP gl Way.gq Way.fin Way.room eW eH fB gR over bO cO dc eY jr fC gr kX cm gK fk fo dF cJ gU pR iY iz jM gj Cn yL iJ ah.kept
attribute [local irreducible] iN fQ m5 qc ir iW ij iy iw qY iZ qW dz ga qV gG qd nth fP dh aa dy bodyPost Exit.then Exit.inBlock Code.wp Code.wpIn qh iq qb qU ia dn cU cj bodyPostM eF
set_option maxRecDepth 100000 in
theorem CK (l : List Int) (h : l.length ≤ 1000) : dy Tryz.prog 172 [Ty.sl cS l] (Ty.sl cS l) := by
 refine bC Tryz.func172 rfl (by decide) Tryz.ntmps172 (by exact Nat.le_of_ble_eq_true rfl) fun w0 M0 => ?_
 refine aG (aA (lB rfl (aD (aC (aG (aG (aA (fU rfl (vY LR rfl ?_)))))))))
 refine aD (aC ?_)
 refine pq rfl (fun hc1 => ?_) (fun hc1 => ?_)
 ·
  refine aG (aA (lB rfl (aD (aC (av (aW (bz rfl rfl ?_)))))))
  all_goals skip
  exact gF hc1
 refine aj (aC (aG (aA ?_)))
 refine n6 (E := cS) rfl rfl rfl rfl ?_
 refine fU rfl ?_
 refine eN rfl rfl (by decide) rfl rfl rfl rfl rfl rfl (by decide) (by (simp <;> omega)) (by (simp <;> omega)) ?_
 refine A4 rfl (aD (aC (av (bz rfl rfl ?_))))
 all_goals exact E3 (by decide)
 skip
set_option maxRecDepth 100000 in
theorem Ir (y : ah) (fl : List cC) (a : List Int) (h : mC y fl a) (hfe : gb fl (y.cells + 1) a) (th : Ty) (h1 : th.deps = []) (h2 : th.cdeps = []) (has : Nat → Bool) (hf : ∀ i, i < fl.length → oU Tryz.prog (Ty.nd th h1 h2) [Ty.int .i64 ((i : Nat) : Int)] (Ty.bool (has i))) (less : Bool) : dn Tryz.prog 164 [1000] [(1000, Cont.vec cS 3 a)] [Ty.pp (eL y fl 1000 fl.length), Ty.agg [Ty.nd th h1 h2, Ty.bool less]] [(1000, Cont.vec cS 3 (gU fl (y.cells + 1) (dF has less) a))] (Ty.int .i64 (jM fl has (gU fl (y.cells + 1) (dF has less) a))) := by
 refine c6 Tryz.func164 rfl (by decide) Tryz.ntmps164 (by exact Nat.le_of_ble_eq_true rfl) fun w0 M0 => ?_
 have hN := h.net
 have hfl := h.pT
 have hcl := nR h.right
 have hG := sH (has := has) less
 have hn : 0 < (y.cells + 1) := Nat.succ_pos _
 refine aG (aA (bM rfl (cE rfl (aD (aC (aG (ak ?_)))))))
 refine cg (fun (b : {b : List Int // Mg fl (y.cells + 1) (dF has less) a b}) => live [(0, Ty.pp (eL y fl 1000 fl.length)), (3, Ty.pp [Ty.nd th h1 h2, Ty.bool less])] [(1000, Cont.vec cS 3 b.1)]) (fun b => (300 * fl.length - k9 fl (dF has less) b.1).toNat) (⟨a, Oh hfe⟩) ?_ fun b => ?_
 ·(refine dG.mk' ?_ ?_ <;> (repeat' (first | exact aI | exact aJ | refine aB ?_ (Ty.aU _) | refine aB ?_ (Ty.aE _) | refine aF rfl (Cont.aE _) ?_)))
 have hF : mC y fl b.1 := ⟨h.right, h.net, h.bd, b.2.feas.1, h.pT⟩
 have hal := hF.inb.1
 refine ak (aG (aA (jt rfl ?_)))
 refine aZ rfl rfl rfl (by exact Nat.le_of_ble_eq_true rfl) ?_
 refine bk [(1000, 1000)] [] [(1000, Cont.vec cS 3 b.1)] (G0 y fl b.1 hF th h1 h2 has hf less) rfl rfl (aH (aH bD (aN rfl rfl)) (fE (aH (aH (aH (aH (aH (aH bD (dj (by exact List.mem_cons_self))) (aN rfl rfl)) (aN rfl rfl)) (aN rfl rfl)) (aN rfl rfl)) (aN rfl rfl)))) (b8 (a := 1000) (b := 1000) (by exact List.mem_cons_self) rfl (bW (by exact List.mem_cons_self) rfl) pre_nil) (bG (a := 1000) (b := 1000) (by decide) rfl (bW (by decide) rfl) post_nil) (aN rfl rfl) ?_
 refine Oy rfl (aD (aC (aG (aG (aA (O1 rfl (HA L8 rfl (aD (aC ?_)))))))))
 refine cx rfl (fun hc1 => ?_) (fun hc1 => ?_)
 ·
  refine cZ (aQ (gH rfl (aQ (ay rfl (aC (aG ?_))))))
  have hb : b.1 = (gU fl (y.cells + 1) (dF has less) a) := b.2.done (List.isEmpty_iff.1 hc1)
  have hF2 : mC y fl (gU fl (y.cells + 1) (dF has less) a) := by rw [← hb]; exact hF
  have hal2 := hF2.inb.1
  refine fV (tg := 1000) rfl (Cont.dW hb) ?_
  refine aA (cE rfl (aD (aC (aG (aG (aA (jt rfl (cA rfl ?_))))))))
  refine aO rfl rfl rfl rfl rfl (by decide) ?_
  refine aL rfl rfl rfl rfl (Be rfl rfl rfl (bQ rfl (aD (aC (ak ?_)))))
  refine cg (fun (i : {i : Nat // i ≤ fl.length}) => live [(0, Ty.pp (eL y fl 1000 fl.length)), (3, Ty.pp [Ty.nd th h1 h2, Ty.bool less]), (11, Ty.int .i64 (iz has (gU fl (y.cells + 1) (dF has less) a) i.1)), (43, Ty.vs 1000 fl.length), (44, Ty.int .i64 fl.length), (45, Ty.int .i64 (i.1 : Nat))] [(1000, Cont.vec cS 3 (gU fl (y.cells + 1) (dF has less) a))]) (fun i => fl.length - i.1) (⟨0, by omega⟩) ?_ fun i => ?_
  ·(refine dG.mk' ?_ ?_ <;> (repeat' (first | exact aI | exact aJ | refine aB ?_ (Ty.aU _) | refine aB ?_ (Ty.aE _) | refine aF rfl (Cont.aE _) ?_ | refine aB ?_ ?_)))
   all_goals exact Ty.au (by unfold iz; rfl)
  have hi := i.2
  have hup := FQ (has := has) (x := (gU fl (y.cells + 1) (dF has less) a)) (k := i.1) fun q hq => (hF2.Mm (by omega)).1
  refine aG (aA (bF rfl rfl rfl (aD (aC (aG ?_)))))
  refine aq rfl (fun hc2 => ?_) (fun hc2 => ?_)
  ·
   refine aj (aC (aG (ak (aG (aA (bQ rfl ?_))))))
   refine eR rfl rfl rfl rfl rfl (by omega) ?_
   refine fA rfl rfl rfl (by decide) rfl rfl (by omega) rfl ?_
   refine cE rfl (cE rfl (aD (aC (aG ?_))))
   have hai := (hF2.Mm (show i.1 < fl.length by omega)).1
   refine aA ?_
   refine aO rfl rfl rfl rfl rfl (by decide) ?_
   refine aL rfl rfl rfl rfl (bQ rfl ?_)
   refine ep rfl (hf i.1 (by omega)) rfl ?_
   refine aD (aC ?_)
   refine cx rfl (fun hc3 => ?_) (fun hc3 => ?_)
   ·
    refine aA (bQ rfl (bQ rfl ?_))
    refine cD rfl rfl (by omega) (by omega) ?_
    refine cE rfl (aD (bX (aC (aA ?_))))
    refine cD rfl rfl (by omega) (by omega) ?_
    refine bQ rfl (aD ?_)
    refine bl (⟨i.1 + 1, by omega⟩) ?_ (by show fl.length - (i.1 + 1) < fl.length - i.1; omega)
    (refine dG.mk' ?_ ?_ <;> (repeat' (first | exact aI | exact aJ | refine aB ?_ (Ty.aU _) | refine aB ?_ (Ty.aE _) | refine aF rfl (Cont.aE _) ?_ | refine aB ?_ ?_)))
    all_goals skip
    all_goals exact Ty.au (F2 hc3)
   refine aj (bX (aC (aA ?_)))
   refine cD rfl rfl (by omega) (by omega) ?_
   refine bQ rfl (aD ?_)
   refine bl (⟨i.1 + 1, by omega⟩) ?_ (by show fl.length - (i.1 + 1) < fl.length - i.1; omega)
   (refine dG.mk' ?_ ?_ <;> (repeat' (first | exact aI | exact aJ | refine aB ?_ (Ty.aU _) | refine aB ?_ (Ty.aE _) | refine aF rfl (Cont.aE _) ?_ | refine aB ?_ ?_)))
   all_goals skip
   all_goals exact Ty.au (Ig hc3)
  refine cZ (aQ (aQ (ay rfl (aC (aG (aA (bQ rfl (cE rfl (aD ?_)))))))))
  refine aC (av ?_)
  refine ew [1000] rfl rfl (by decide) (by repeat (first | exact dR | refine c7 rfl (bW (by decide) rfl) ?_)) ?_
  all_goals skip
  all_goals exact eA (lA rfl rfl (congrArg (Ty.int .i64) ((K6 (by have := i.2; omega)).trans (Ky fl has _))))
 refine aj (aC (aG ?_))
 refine gT (s := 5) rfl (show (Ty.Gj fq (cJ fl b.1 (y.cells + 1) (dF has less))).Sub (Ty.sl fq (cJ fl b.1 (y.cells + 1) (dF has less))) from Ty.NP) ?_
 have hne : ¬ (cJ fl b.1 (y.cells + 1) (dF has less)) = [] := fun e => by rw [e] at hc1; cases hc1
 have hnx := b.2.next hN hn h.bd hG hne
 have hC := hnx.2.2
 have hlen := hC.pT
 refine aA (cE rfl (aD (aC (aG (aG (aA (fU rfl (cY rfl rfl rfl (bQ rfl ?_)))))))))
 refine aD (aC (ak ?_))
 refine cg (fun (j : {j : Nat // j ≤ (cJ fl b.1 (y.cells + 1) (dF has less)).length}) => live [(0, Ty.pp (eL y fl 1000 fl.length)), (3, Ty.pp [Ty.nd th h1 h2, Ty.bool less]), (5, Ty.sl fq (cJ fl b.1 (y.cells + 1) (dF has less))), (6, Ty.int .i64 (fC fl b.1 300 ((cJ fl b.1 (y.cells + 1) (dF has less)).take j.1))), (19, Ty.sl fq (cJ fl b.1 (y.cells + 1) (dF has less))), (20, Ty.int .i64 (cJ fl b.1 (y.cells + 1) (dF has less)).length), (21, Ty.int .i64 (j.1 : Nat))] [(1000, Cont.vec cS 3 b.1)]) (fun j => (cJ fl b.1 (y.cells + 1) (dF has less)).length - j.1) (⟨0, by omega⟩) ?_ fun j => ?_
 ·(refine dG.mk' ?_ ?_ <;> (repeat' (first | exact aI | exact aJ | refine aB ?_ (Ty.aU _) | refine aB ?_ (Ty.aE _) | refine aF rfl (Cont.aE _) ?_ | refine aB ?_ ?_)))
  all_goals exact Ty.au (wW _ _ _)
 have hj := j.2
 refine aG (aA (bF rfl rfl rfl (aD (aC (aG ?_)))))
 refine aq rfl (fun hc4 => ?_) (fun hc4 => ?_)
 ·
  refine aj (aC (aG (ak (aG (aA ?_)))))
  refine bH rfl rfl rfl rfl rfl rfl (by omega) ?_
  refine aZ rfl rfl rfl (by exact Nat.le_of_ble_eq_true rfl) ?_
  refine b9 rfl (by exact List.cons_ne_nil _ _) rfl ?_
  refine bp rfl rfl (by decide) rfl rfl rfl rfl rfl rfl ?_
  refine aD (aC (aG ?_))
  have hwj := hC.ways _ (cL (xs := (cJ fl b.1 (y.cells + 1) (dF has less))) (k := j.1) (by omega))
  refine aA (jt rfl ?_)
  refine bS rfl rfl (by decide) rfl rfl (by exact Nat.le_of_ble_eq_true rfl) ?_
  refine dX [1000] (EH y fl b.1 hF (nth (cJ fl b.1 (y.cells + 1) (dF has less)) j.1) hwj.1) rfl (aM (kZ (aM (af (bI rfl rfl)) (aM (af (bI rfl rfl)) (aM (af (bI rfl rfl)) (aM (af (bI rfl rfl)) (aM (af (bI rfl rfl)) (aM (gY rfl hal (by decide) rfl) bf))))))) (aM (af (bI rfl rfl)) bf)) (by exact qQ (by repeat (first | exact p5 | refine oF (by exact dL _ _) ?_))) ?_
  refine qq rfl (bL rfl rfl (bL rfl rfl (cE rfl (cE rfl (aD (aC (aA (bQ rfl (bQ rfl ?_)))))))))
  refine bw (E := cS) (xs := [_]) rfl rfl rfl rfl rfl (by decide) (by decide) (by repeat (first | exact (aX.nil : aX _ _ [] _) | (show aX _ _ ((_, _) :: _) _; apply aX.one; (· exact (rfl : _ = Ty.int _ _)); (· exact rfl)))) (by exact rfl) rfl ?_
  refine az (sK _ _) rfl rfl rfl rfl rfl (cE rfl (aD (bX (aC (aA ?_)))))
  refine cD rfl rfl (by omega) (by omega) ?_
  refine bQ rfl (aD ?_)
  refine bl (⟨j.1 + 1, by omega⟩) ?_ (by show (cJ fl b.1 (y.cells + 1) (dF has less)).length - (j.1 + 1) < (cJ fl b.1 (y.cells + 1) (dF has less)).length - j.1; omega)
  (refine dG.mk' ?_ ?_ <;> (repeat' (first | exact aI | exact aJ | refine aB ?_ (Ty.aU _) | refine aB ?_ (Ty.aE _) | refine aF rfl (Cont.aE _) ?_ | refine aB ?_ ?_)))
  all_goals skip
  all_goals exact Ty.au (by rw [eG (by omega)]; exact xN)
 refine cZ (aQ (aQ (ay rfl (aC ?_))))
 have hmp := p7 (fl := fl) (a := b.1) (m := 300) (by decide) (cJ fl b.1 (y.cells + 1) (dF has less)) hC.ways
 have hml := (sM (fl := fl) (a := b.1) 300 (cJ fl b.1 (y.cells + 1) (dF has less))).1
 refine gT (s := 6) rfl (Ty.au (by rw [List.take_of_length_le (by omega)] : _ = fC fl b.1 300 (cJ fl b.1 (y.cells + 1) (dF has less)))) ?_
 refine aA (jt rfl (fU rfl (bQ rfl ?_)))
 refine bk [(1000, 1000)] [] [(1000, Cont.vec cS 3 (eH b.1 (cJ fl b.1 (y.cells + 1) (dF has less)) (fC fl b.1 300 (cJ fl b.1 (y.cells + 1) (dF has less)))))] (HL y fl b.1 hF (cJ fl b.1 (y.cells + 1) (dF has less)) (by omega) (fun w hw => (hC.ways w hw).1) (fC fl b.1 300 (cJ fl b.1 (y.cells + 1) (dF has less))) (by omega)) rfl rfl (aH (aH (aH bD (aN rfl rfl)) (aN rfl rfl)) (fE (aH (aH (aH (aH (aH (aH bD (dj (by exact List.mem_cons_self))) (aN rfl rfl)) (aN rfl rfl)) (aN rfl rfl)) (aN rfl rfl)) (aN rfl rfl)))) (b8 (a := 1000) (b := 1000) (by exact List.mem_cons_self) rfl (bW (by exact List.mem_cons_self) rfl) pre_nil) (bG (a := 1000) (b := 1000) (by decide) rfl (bW (by decide) rfl) post_nil) (aN rfl rfl) ?_
 refine aD (bX ?_)
 refine bl (⟨eH b.1 (cJ fl b.1 (y.cells + 1) (dF has less)) (fC fl b.1 300 (cJ fl b.1 (y.cells + 1) (dF has less))), hnx.1⟩) ?_ (by exact hnx.2.1)
 (refine dG.mk' ?_ ?_ <;> (repeat' (first | exact aI | exact aJ | refine aB ?_ (Ty.aU _) | refine aB ?_ (Ty.aE _) | refine aF rfl (Cont.aE _) ?_)))
 all_goals skip
set_option maxRecDepth 100000 in
theorem D5 (y : ah) (fl : List cC) (a : List Int) (h : mC y fl a) (hfe : gb fl (y.cells + 1) a) (th : Ty) (h1 : th.deps = []) (h2 : th.cdeps = []) (has : Nat → Bool) (hf : ∀ i, i < fl.length → oU Tryz.prog (Ty.nd th h1 h2) [Ty.int .i64 ((i : Nat) : Int)] (Ty.bool (has i))) (ho : th.one = true) : dn Tryz.prog 87 [1000] [(1000, Cont.vec cS 3 a)] [Ty.pp (eL y fl 1000 fl.length), Ty.nd th h1 h2] [(1000, Cont.vec cS 3 (yL fl (y.cells + 1) has a))] (Ty.agg (dm.tys (gj fl (y.cells + 1) has))) := by
 refine c6 Tryz.func87 rfl (by decide) Tryz.ntmps87 (by exact Nat.le_of_ble_eq_true rfl) fun w0 M0 => ?_
 have hsp := s7 (has := has) h.net (Nat.succ_pos _) h.bd hfe
 have hF : mC y fl (Cn fl (y.cells + 1) has a) := ⟨h.right, h.net, h.bd, hsp.1.1, h.pT⟩
 refine aG (aA ?_)
 refine b9 rfl (by exact List.cons_ne_nil _ _) rfl ?_
 refine aD (aC (aG (aA (jt rfl ?_))))
 refine eK (ty := Ty.nd th h1 h2) rfl ?_
 refine dB rfl rfl (by exact List.cons_ne_nil _ _) rfl (aX.one (ty := Ty.nd th h1 h2) rfl ho (aX.one (ty := Ty.bool true) rfl rfl aX.nil)) (by exact (rfl : _ = some [_, _])) ?_
 refine bk [(1000, 1000)] [] [(1000, Cont.vec cS 3 (Cn fl (y.cells + 1) has a))] (Ir y fl a h hfe th h1 h2 has hf true) rfl rfl (aH (aH bD (aN rfl rfl)) (fE (aH (aH (aH (aH (aH (aH bD (dj (by exact List.mem_cons_self))) (aN rfl rfl)) (aN rfl rfl)) (aN rfl rfl)) (aN rfl rfl)) (aN rfl rfl)))) (b8 (a := 1000) (b := 1000) (by exact List.mem_cons_self) rfl (bW (by exact List.mem_cons_self) rfl) pre_nil) (bG (a := 1000) (b := 1000) (by decide) rfl (bW (by decide) (lo_eq _ _ _ _)) post_nil) (aN rfl rfl) ?_
 refine cE rfl (aD (aC (aG (aA (bQ rfl (jt rfl ?_))))))
 refine eK (ty := Ty.nd th h1 h2) rfl ?_
 refine dB rfl rfl (by exact List.cons_ne_nil _ _) rfl (aX.one (ty := Ty.nd th h1 h2) rfl ho (aX.one (ty := Ty.bool false) rfl rfl aX.nil)) (by exact (rfl : _ = some [_, _])) ?_
 refine bk [(1000, 1000)] [] [(1000, Cont.vec cS 3 (yL fl (y.cells + 1) has a))] (Ir y fl (Cn fl (y.cells + 1) has a) hF hsp.1 th h1 h2 has hf false) rfl rfl (aH (aH bD (aN rfl rfl)) (fE (aH (aH (aH (aH (aH (aH bD (dj (by exact List.mem_cons_self))) (aN rfl rfl)) (aN rfl rfl)) (aN rfl rfl)) (aN rfl rfl)) (aN rfl rfl)))) (b8 (a := 1000) (b := 1000) (by exact List.mem_cons_self) rfl (bW (by exact List.mem_cons_self) rfl) pre_nil) (bG (a := 1000) (b := 1000) (by decide) rfl (bW (by decide) (hi_eq _ _ _ _)) post_nil) (aN rfl rfl) ?_
 refine dB rfl rfl (by exact List.cons_ne_nil _ _) rfl (by repeat (first | exact (aX.nil : aX _ _ [] _) | (show aX _ _ ((_, _) :: _) _; apply aX.one; (· exact (rfl : _ = Ty.int _ _)); (· exact rfl)))) (by exact (rfl : _ = some [_, _])) ?_
 refine bp rfl rfl (by decide) rfl rfl rfl rfl rfl rfl ?_
 refine aD (aC (av ?_))
 refine vl [1000] rfl rfl rfl rfl (by decide) rfl rfl rfl (by decide) (by repeat (first | exact dR | refine c7 rfl (bW (by decide) rfl) ?_)) ?_
 all_goals skip
 all_goals exact eA (lA rfl rfl (congrArg (fun s => Ty.agg (dm.tys s)) (Ju h.net (Nat.succ_pos _) h.bd hfe)))
set_option maxRecDepth 100000 in
theorem MB (y : ah) (c : Nat → Bool) (a : List Int) (hr : y.cI) (hl : a.length = (aP y c).length) : dy Tryz.prog 120 [Ty.pp (mN y (aP y c) a)] (qn (gJ y a)) := by
 refine bC Tryz.func120 rfl (by decide) Tryz.ntmps120 (by exact Nat.le_of_ble_eq_true rfl) fun w0 M0 => ?_
 have hfl := fG (y := y) (c := c)
 have h1 := hr.bins
 have h2 := hr.days
 have h3 := D_eq hr
 have h4 := hr.moves
 have hf34 : (aP y c).length ≤ 34 := j4 hr
 refine aG (aA ?_)
 refine b9 rfl (by exact List.cons_ne_nil _ _) rfl ?_
 refine aD (aC (aG (aA ?_)))
 refine b9 rfl (by exact List.cons_ne_nil _ _) rfl ?_
 refine aD (aC (aG (aG (aA (jt rfl (cA rfl ?_))))))
 refine aO rfl rfl rfl rfl rfl (by decide) ?_
 refine aO rfl rfl rfl rfl rfl (by decide) ?_
 refine aL rfl rfl rfl rfl (cY rfl rfl rfl (bQ rfl (aD (aC (ak ?_)))))
 refine cg (fun (k : {k : Nat // k ≤ y.bins.length}) => live [(0, Ty.pp (mN y (aP y c) a)), (2, Ty.ptr 3 0), (3, Ty.ptr 4 0), (9, Ty.sl dO y.bins), (10, Ty.int .i64 y.bins.length), (11, Ty.int .i64 (k.1 : Nat))] [(3, Cont.cells 30 [Ty.ex (.slice none 0 0), Ty.ex (.slice none 0 0)]), (4, Cont.cells 30 [Ty.row cS 3 26 (iJ y a k.1), Ty.ex (.slice none 0 0)])]) (fun k => y.bins.length - k.1) (⟨0, by omega⟩) ?_ fun k => ?_
 ·(refine dG.mk' ?_ ?_ <;> (repeat' (first | exact aI | exact aJ | exact dS | refine aB ?_ (Ty.aU _) | refine aB ?_ (Ty.aE _) | refine aF rfl (Cont.aE _) ?_ | refine aF rfl (Cont.dV ?_) ?_ | refine bu ?_ (Ty.aE _) | refine bu ?_ ?_)))
  all_goals exact Iv Cr
 have hk := k.2
 have hfk := DR (y := y) (a := a) k.1
 refine aG (aA (bF rfl rfl rfl (aD (aC (aG ?_)))))
 refine aq rfl (fun hc1 => ?_) (fun hc1 => ?_)
 ·
  refine aj (aC (aG (ak (aG (aA (bQ rfl (cE rfl (aD (aC ?_)))))))))
  have hkl := JR hl (show k.1 < y.bins.length by omega)
  refine cW mixed rfl ?_
  refine aK rfl rfl rfl rfl rfl (by decide) ?_
  refine aS rfl rfl (by decide) rfl rfl rfl ?_
  refine jt rfl (cA rfl ?_)
  refine aO rfl rfl rfl rfl rfl (by decide) ?_
  refine aL rfl rfl rfl rfl (jt rfl (bQ rfl ?_))
  refine dX [] (DU y hr k.1 0 (by omega) (Nat.zero_le _)) rfl (aM (nH (l1 := bK y) (l2 := [Ty.sl dx (aP y c), Ty.sl cS a]) rfl rfl) (aM (af (bI rfl rfl)) (aM (af (bI rfl rfl)) bf))) (by exact dL _ _) ?_
  refine bH rfl rfl rfl rfl rfl rfl (by omega) ?_
  refine aL rfl rfl rfl rfl ?_
  refine bw (E := cS) (xs := [_]) rfl rfl rfl rfl rfl (by decide) (by decide) (by repeat (first | exact (aX.nil : aX _ _ [] _) | (show aX _ _ ((_, _) :: _) _; apply aX.one; (· exact (rfl : _ = Ty.int _ _)); (· exact rfl)))) (by exact rfl) rfl ?_
  refine eN rfl rfl (by decide) rfl rfl rfl rfl rfl rfl (by decide) (by (simp <;> omega)) (by (simp <;> omega)) ?_
  refine aK rfl rfl rfl rfl rfl (by decide) ?_
  refine cq rfl rfl (by decide) rfl rfl (by exact (rfl : _ = Ty.row _ _ _ _)) rfl (by exact Nat.le_of_ble_eq_true rfl) rfl rfl (by exact rfl) ?_
  refine aD ?_
  refine ⟨by kernel_rfl, ?_⟩
  refine bX (aC (aA ?_))
  refine cD rfl rfl (by omega) (by omega) ?_
  refine bQ rfl (aD ?_)
  refine bl (⟨k.1 + 1, by omega⟩) ?_ (by show y.bins.length - (k.1 + 1) < y.bins.length - k.1; omega)
  (refine dG.mk' ?_ ?_ <;> (repeat' (first | exact aI | exact aJ | exact dS | refine aB ?_ (Ty.aU _) | refine aB ?_ (Ty.aE _) | refine aF rfl (Cont.aE _) ?_ | refine aF rfl (Cont.dV ?_) ?_ | refine bu ?_ (Ty.aE _) | refine bu ?_ ?_)))
  all_goals skip
  all_goals exact Ty.gL (BG _)
 refine cZ (aQ (aQ (ay rfl (aC (aG (cW mixed rfl (jt rfl (cA rfl ?_))))))))
 refine aO rfl rfl rfl rfl rfl (by decide) ?_
 refine aL rfl rfl rfl rfl (jt rfl (cA rfl ?_))
 refine aO rfl rfl rfl rfl rfl (by decide) ?_
 refine aL rfl rfl rfl rfl (cY rfl rfl rfl (jt rfl (cA rfl ?_)))
 refine aO rfl rfl rfl rfl rfl (by decide) ?_
 refine aO rfl rfl rfl rfl rfl (by decide) ?_
 refine aL rfl rfl rfl rfl (cY rfl rfl rfl ?_)
 refine iB rfl rfl (by omega) (by omega) ?_
 refine JL (lo := y.bins.length * (y.D + 1)) rfl (by exact congrArg (Ty.int .i64) (by rw [hfl]; omega : ((aP y c).length : Int) - (y.moves.length : Int) = ((y.bins.length * (y.D + 1) : Nat) : Int))) rfl rfl rfl rfl (by rw [hl]; omega) ?_
 refine az (CK _ (by rw [List.length_drop]; omega)) rfl rfl rfl rfl rfl ?_
 refine aK rfl rfl rfl rfl rfl (by decide) ?_
 refine cq rfl rfl (by decide) rfl rfl (by exact (rfl : _ = Ty.sl _ _)) rfl (by exact Nat.le_of_ble_eq_true rfl) rfl rfl (by exact rfl) ?_
 refine aD ?_
 refine ⟨by kernel_rfl, ?_⟩
 refine aC (aG (aA ?_))
 refine bS rfl rfl (by decide) rfl rfl (by exact Nat.le_of_ble_eq_true rfl) ?_
 refine bp rfl rfl (by decide) rfl rfl rfl rfl rfl rfl ?_
 refine aD (aC (av ?_))
 refine AL rfl rfl rfl rfl (by decide) rfl rfl rfl ?_
 exact EG (ts := dJ (gJ y a)) (qE (vv (by decide) (show iJ y a k.1 = (gJ y a).first by rw [show k.1 = y.bins.length by have := k.2; omega]; exact congrArg eM.first (told_eq y a))) (qE (cV rfl rfl) By))
end Go.Proofs.YtelbollidfdcjaaGreat
namespace Go.Proofs.YtelbollidfdcjaaGreat
open Go Go.T
set_option maxHeartbeats 16000000
noncomputable def kS (y : ah) : List Int := (cm (aP y (nth bh)) (y.cells + 1) (gl (aP y (nth bh)))).2.2
noncomputable def cN (y : ah) : Int := if bT y = 0 then (if (cm (aP y (nth bh)) (y.cells + 1) (gl (aP y (nth bh)))).2.1 = true then 7 else 0) else bT y
noncomputable def uS (y : ah) : eM := if cN y = 0 then gJ y (kS y) else ⟨[], []⟩
theorem jc : bh.length = 8 := rfl
theorem lf {y : ah} (hr : y.cI) {c : Nat → Bool} : I0 y (aP y c) (gl (aP y c)) := ⟨hr, mE hr, vm hr, fun e => HV (yx e), j4 hr⟩
section
variable {y : ah}
theorem open_1 (h : ¬ bT y = 0) : bT y = cN y := (if_neg h).symm
theorem wk (h : bT y = 0) (h2 : (cm (aP y (nth bh)) (y.cells + 1) (gl (aP y (nth bh)))).2.1 = true) : 7 = cN y := by unfold cN; rw [if_pos h, if_pos h2]
theorem open_3 (h : bT y = 0) (h2 : (cm (aP y (nth bh)) (y.cells + 1) (gl (aP y (nth bh)))).2.1 = false) : 0 = cN y := by unfold cN; rw [if_pos h, if_neg (by rw [h2]; decide)]
theorem eU (h : cN y = 0) : bT y = 0 := by
 by_cases e : bT y = 0
 ·exact e
 rw [← open_1 e] at h; exact absurd h e
theorem AQ (h : cN y = 0) : (cm (aP y (nth bh)) (y.cells + 1) (gl (aP y (nth bh)))).2.1 = false := by
  cases e : (cm (aP y (nth bh)) (y.cells + 1) (gl (aP y (nth bh)))).2.1 with
  | false => rfl
  | true => rw [← wk (eU h) e] at h; cases h
theorem EI (hr : y.cI) (h2 : (cm (aP y (nth bh)) (y.cells + 1) (gl (aP y (nth bh)))).2.1 = false) : gb (aP y (nth bh)) (y.cells + 1) (cm (aP y (nth bh)) (y.cells + 1) (gl (aP y (nth bh)))).2.2 := zc (mE hr) (lf hr).inb h2
theorem qA (h : cN y = 0) : gb (aP y (nth bh)) (y.cells + 1) (kS y) := EI (dQ (eU h)) (AQ h)
theorem NA (h : ¬ bT y = 0) : (⟨[], []⟩ : eM) = uS y := by unfold uS; rw [← open_1 h, if_neg h]
theorem MA (h : bT y = 0) (h2 : (cm (aP y (nth bh)) (y.cells + 1) (gl (aP y (nth bh)))).2.1 = true) : (⟨[], []⟩ : eM) = uS y := by unfold uS; rw [← wk h h2]; rfl
theorem Mq (h : bT y = 0) (h2 : (cm (aP y (nth bh)) (y.cells + 1) (gl (aP y (nth bh)))).2.1 = false) : gJ y (cm (aP y (nth bh)) (y.cells + 1) (gl (aP y (nth bh)))).2.2 = uS y := by unfold uS; rw [if_pos (open_3 h h2).symm]; rfl
theorem zD {a : eM} (e : ⟨[], []⟩ = a) : iM (Ty.agg [Ty.jx (.slice none 0 0), Ty.jx (.slice none 0 0)]) (qn a) := by subst e; exact EG (ts := dJ ⟨[], []⟩) (qE AY (qE AY By))
theorem Db {b : Bool} (h : (!!b) = true) : b = true := by cases b <;> first | rfl | cases h
theorem FA {b : Bool} (h : (!!b) = false) : b = false := by cases b <;> first | rfl | cases h
theorem Mn (y : ah) : (cm (aP y (nth bh)) (y.cells + 1) (gl (aP y (nth bh)))).2.2 = kS y := rfl
end
attribute [local irreducible] aP gl Way.gq Way.fin Way.room eW eH fB gR over bO cO dc eY jr fC gr kX cm gK fk fo dF cJ gU pR iY iz jM gj Cn yL iJ ah.kept ah.cells bT eO bh gJ kS cN
attribute [local irreducible] iN fQ m5 qc ir iW ij iy iw qY iZ qW dz ga qV gG qd nth fP dh aa dy bodyPost Exit.then Exit.inBlock Code.wp Code.wpIn qh iq qb qU ia dn cU cj bodyPostM eF
set_option maxRecDepth 100000 in
theorem ML (y : ah) (hs : y.Small) : dy Tryz.prog 47 [fI y] (Ty.ju [qn (uS y), Ty.int .i64 (cN y)]) := by
 refine bC Tryz.func47 rfl (by decide) Tryz.ntmps47 (by exact Nat.le_of_ble_eq_true rfl) fun w0 M0 => ?_
 refine aG (aA (bM rfl ?_))
 refine b9 rfl (by exact List.cons_ne_nil _ _) rfl ?_
 refine cE rfl (aD (aC (aG (aG (aA ?_)))))
 refine aZ rfl rfl rfl (by exact Nat.le_of_ble_eq_true rfl) ?_
 refine az (jo y hs) rfl rfl rfl rfl rfl (cE rfl (aD (aC (aG (aA (bQ rfl (bF rfl rfl rfl (aD (aC ?_)))))))))
 refine dM rfl (fun hc1 => ?_) (fun hc1 => ?_)
 ·
  refine aG (aA ?_)
  refine dB rfl rfl (by exact List.cons_ne_nil _ _) rfl (by repeat (exact (aX.nil : aX _ _ [] _))) (by exact (rfl : _ = some [_, _])) ?_
  refine bQ rfl ?_
  refine bp rfl rfl (by decide) rfl rfl rfl rfl rfl rfl ?_
  refine cE rfl (aD (aC (av (aW ?_))))
  refine jh rfl rfl rfl rfl rfl (by decide) rfl rfl rfl ?_ ?_
  all_goals skip
  all_goals first | exact zD (NA hc1) | exact bE rfl rfl (congrArg (Ty.int .i64) (open_1 hc1))
 refine aj (aC (aG ?_))
 have hck : bT y = 0 := hc1
 have hr := dQ hck
 refine cW mixed rfl ?_
 refine aZ rfl rfl rfl (by exact Nat.le_of_ble_eq_true rfl) ?_
 refine az (s9) rfl rfl rfl rfl rfl ?_
 refine bk (res' := Ty.pp (sR y 2000 1000 (aP y (nth bh)).length (aP y (nth bh)).length)) [(2000, 23), (1000, 31)] [2000, 1000] [(2000, Cont.vec dx 187 (aP y (nth bh))), (1000, Cont.vec cS 3 (gl (aP y (nth bh))))] (rW y hr bh jc) rfl rfl (aH (aH bD (aN rfl rfl)) (aN rfl rfl)) pre_nil (bG (a := 2000) (b := 23) (by decide) rfl (bW (by decide) rfl) (bG (a := 1000) (b := 31) (by decide) rfl (bW (by decide) rfl) post_nil)) (fE (aH (aH (aH (aH (aH (aH bD (dj (by decide))) (dj (by decide))) (aN rfl rfl)) (aN rfl rfl)) (aN rfl rfl)) (aN rfl rfl))) ?_
 refine Kq rfl (aD ?_)
 refine ⟨by kernel_rfl, ?_⟩
 refine aC (aG (aG ?_))
 refine lF (tg := 2000) [(5, Ty.pp (eL y (aP y (nth bh)) 1000 (aP y (nth bh)).length))] (by decide) rfl ⟨AB rfl ⟨bP rfl, bP rfl, bP rfl, bP rfl, gu rfl rfl (by decide), bP rfl, trivial⟩, trivial⟩ ?_
 refine aA (jt rfl ?_)
 refine bk [(1000, 1000)] [] [(1000, Cont.vec cS 3 (cm (aP y (nth bh)) (y.cells + 1) (gl (aP y (nth bh)))).2.2)] (nG y (aP y (nth bh)) (gl (aP y (nth bh))) (lf hr)) rfl rfl (aH bD (fE (aH (aH (aH (aH (aH (aH bD (dj (by exact List.mem_cons_self))) (aN rfl rfl)) (aN rfl rfl)) (aN rfl rfl)) (aN rfl rfl)) (aN rfl rfl)))) (b8 (a := 1000) (b := 1000) (by exact List.mem_cons_self) rfl (bW (by exact List.mem_cons_self) rfl) pre_nil) (bG (a := 1000) (b := 1000) (by decide) rfl (bW (by decide) rfl) post_nil) (aN rfl rfl) ?_
 refine eE rfl (aD (aC ?_))
 refine cx rfl (fun hc2 => ?_) (fun hc2 => ?_)
 ·
  refine aG (aA ?_)
  refine dB rfl rfl (by exact List.cons_ne_nil _ _) rfl (by repeat (exact (aX.nil : aX _ _ [] _))) (by exact (rfl : _ = some [_, _])) ?_
  refine bp rfl rfl (by decide) rfl rfl rfl rfl rfl rfl ?_
  refine cE rfl (aD (aC (av (aW ?_))))
  refine jh rfl rfl rfl rfl rfl (by decide) rfl rfl rfl ?_ ?_
  all_goals skip
  all_goals first | exact zD (MA hck (Db hc2)) | exact bE rfl rfl (congrArg (Ty.int .i64) (wk hck (Db hc2)))
 refine aj (aC (aG ?_))
 have hfe := EI hr (FA hc2)
 refine lF (tg := 1000) [(5, Ty.pp (mN y (aP y (nth bh)) (cm (aP y (nth bh)) (y.cells + 1) (gl (aP y (nth bh)))).2.2))] (by decide) rfl ⟨AB rfl ⟨bP rfl, bP rfl, bP rfl, bP rfl, bP rfl, gu rfl hfe.1.1 (by decide), trivial⟩, trivial⟩ ?_
 refine aA (jt rfl (az (MB y (nth bh) (cm (aP y (nth bh)) (y.cells + 1) (gl (aP y (nth bh)))).2.2 hr hfe.1.1) rfl rfl rfl rfl rfl ?_))
 refine bp rfl rfl (by decide) rfl rfl rfl rfl rfl rfl ?_
 refine cE rfl (aD (aC (av ?_)))
 refine jh rfl rfl rfl rfl rfl (by decide) rfl rfl rfl ?_ ?_
 all_goals skip
 all_goals first | exact bE rfl rfl (congrArg qn (Mq hck (FA hc2))) | exact bE rfl rfl (congrArg (Ty.int .i64) (open_3 hck (FA hc2)))
set_option maxRecDepth 100000 in
theorem wm (y : ah) (hs : y.Small) (h : cN y = 0) : dn Tryz.prog 86 [] [] [fI y] [(1000, Cont.vec cS 3 (kS y))] (Ty.ju [Ty.pp (eL y (aP y (nth bh)) 1000 (aP y (nth bh)).length), Ty.int .i64 0]) := by
 refine rD Tryz.func86 rfl (by decide) Tryz.ntmps86 (by exact Nat.le_of_ble_eq_true rfl) fun w0 M0 => ?_
 have hck := eU h
 have hr := dQ hck
 have hst := AQ h
 refine aG (aA (bM rfl (lB rfl (cE rfl (aD (aC (aG (aG (aA ?_)))))))))
 refine aZ rfl rfl rfl (by exact Nat.le_of_ble_eq_true rfl) ?_
 refine az (jo y hs) rfl rfl rfl rfl rfl (cE rfl (aD (aC (aG (aA (bQ rfl (bF rfl rfl rfl (aD (aC ?_)))))))))
 refine iP rfl (by rw [hck]; rfl) ?_
 refine aj (aC (aG (cW mixed rfl ?_)))
 refine aZ rfl rfl rfl (by exact Nat.le_of_ble_eq_true rfl) ?_
 refine az (s9) rfl rfl rfl rfl rfl ?_
 refine bk (res' := Ty.pp (sR y 2000 1000 (aP y (nth bh)).length (aP y (nth bh)).length)) [(2000, 23), (1000, 31)] [2000, 1000] [(2000, Cont.vec dx 187 (aP y (nth bh))), (1000, Cont.vec cS 3 (gl (aP y (nth bh))))] (rW y hr bh jc) rfl rfl (aH (aH bD (aN rfl rfl)) (aN rfl rfl)) pre_nil (bG (a := 2000) (b := 23) (by decide) rfl (bW (by decide) rfl) (bG (a := 1000) (b := 31) (by decide) rfl (bW (by decide) rfl) post_nil)) (fE (aH (aH (aH (aH (aH (aH bD (dj (by decide))) (dj (by decide))) (aN rfl rfl)) (aN rfl rfl)) (aN rfl rfl)) (aN rfl rfl))) ?_
 refine Kq rfl (aD ?_)
 refine ⟨by kernel_rfl, ?_⟩
 refine aC (aG (aG ?_))
 refine lF (tg := 2000) [(5, Ty.pp (eL y (aP y (nth bh)) 1000 (aP y (nth bh)).length))] (by decide) rfl ⟨AB rfl ⟨bP rfl, bP rfl, bP rfl, bP rfl, gu rfl rfl (by decide), bP rfl, trivial⟩, trivial⟩ ?_
 refine aA (jt rfl ?_)
 refine bk [(1000, 1000)] [] [(1000, Cont.vec cS 3 (cm (aP y (nth bh)) (y.cells + 1) (gl (aP y (nth bh)))).2.2)] (nG y (aP y (nth bh)) (gl (aP y (nth bh))) (lf hr)) rfl rfl (aH bD (fE (aH (aH (aH (aH (aH (aH bD (dj (by exact List.mem_cons_self))) (aN rfl rfl)) (aN rfl rfl)) (aN rfl rfl)) (aN rfl rfl)) (aN rfl rfl)))) (b8 (a := 1000) (b := 1000) (by exact List.mem_cons_self) rfl (bW (by exact List.mem_cons_self) rfl) pre_nil) (bG (a := 1000) (b := 1000) (by decide) rfl (bW (by decide) rfl) post_nil) (aN rfl rfl) ?_
 refine eE rfl (aD (aC ?_))
 refine iP rfl (by rw [hst]; rfl) ?_
 refine aj (aC (aG (aA (jt rfl (Kq rfl (cE rfl (aD (aC (av ?_)))))))))
 refine Hl rfl ?_
 refine zo [1000] rfl rfl rfl (by decide) ?_ ?_ ?_
 ·exact c7 rfl (bW (by decide) (Mn y)) dR
 all_goals first | exact eA (aN rfl rfl) | skip
 all_goals exact eA (fE (aH (aH (aH (aH (aH (aH bD (dj (by decide))) (aN rfl rfl)) (aN rfl rfl)) (aN rfl rfl)) (aN rfl rfl)) (aN rfl rfl)))
set_option maxRecDepth 100000 in
theorem oy (y : ah) (hs : y.Small) (h : cN y ≠ 0) : dy Tryz.prog 86 [fI y] (Ty.ju [Ty.ex (.pointer none), Ty.int .i64 (cN y)]) := by
 refine bC Tryz.func86 rfl (by decide) Tryz.ntmps86 (by exact Nat.le_of_ble_eq_true rfl) fun w0 M0 => ?_
 refine aG (aA (bM rfl (lB rfl (cE rfl (aD (aC (aG (aG (aA ?_)))))))))
 refine aZ rfl rfl rfl (by exact Nat.le_of_ble_eq_true rfl) ?_
 refine az (jo y hs) rfl rfl rfl rfl rfl (cE rfl (aD (aC (aG (aA (bQ rfl (bF rfl rfl rfl (aD (aC ?_)))))))))
 refine dM rfl (fun hc1 => ?_) (fun hc1 => ?_)
 ·
  refine aG (aA (bQ rfl (lB rfl (cE rfl (aD (aC (av (aW ?_))))))))
  refine fj rfl rfl rfl ?_ ?_
  all_goals first | exact cV rfl rfl | skip
  all_goals exact bE rfl rfl (congrArg (Ty.int .i64) (open_1 hc1))
 refine aj (aC (aG ?_))
 have hck : bT y = 0 := hc1
 have hr := dQ hck
 refine cW mixed rfl ?_
 refine aZ rfl rfl rfl (by exact Nat.le_of_ble_eq_true rfl) ?_
 refine az (s9) rfl rfl rfl rfl rfl ?_
 refine bk (res' := Ty.pp (sR y 2000 1000 (aP y (nth bh)).length (aP y (nth bh)).length)) [(2000, 23), (1000, 31)] [2000, 1000] [(2000, Cont.vec dx 187 (aP y (nth bh))), (1000, Cont.vec cS 3 (gl (aP y (nth bh))))] (rW y hr bh jc) rfl rfl (aH (aH bD (aN rfl rfl)) (aN rfl rfl)) pre_nil (bG (a := 2000) (b := 23) (by decide) rfl (bW (by decide) rfl) (bG (a := 1000) (b := 31) (by decide) rfl (bW (by decide) rfl) post_nil)) (fE (aH (aH (aH (aH (aH (aH bD (dj (by decide))) (dj (by decide))) (aN rfl rfl)) (aN rfl rfl)) (aN rfl rfl)) (aN rfl rfl))) ?_
 refine Kq rfl (aD ?_)
 refine ⟨by kernel_rfl, ?_⟩
 refine aC (aG (aG ?_))
 refine lF (tg := 2000) [(5, Ty.pp (eL y (aP y (nth bh)) 1000 (aP y (nth bh)).length))] (by decide) rfl ⟨AB rfl ⟨bP rfl, bP rfl, bP rfl, bP rfl, gu rfl rfl (by decide), bP rfl, trivial⟩, trivial⟩ ?_
 refine aA (jt rfl ?_)
 refine bk [(1000, 1000)] [] [(1000, Cont.vec cS 3 (cm (aP y (nth bh)) (y.cells + 1) (gl (aP y (nth bh)))).2.2)] (nG y (aP y (nth bh)) (gl (aP y (nth bh))) (lf hr)) rfl rfl (aH bD (fE (aH (aH (aH (aH (aH (aH bD (dj (by exact List.mem_cons_self))) (aN rfl rfl)) (aN rfl rfl)) (aN rfl rfl)) (aN rfl rfl)) (aN rfl rfl)))) (b8 (a := 1000) (b := 1000) (by exact List.mem_cons_self) rfl (bW (by exact List.mem_cons_self) rfl) pre_nil) (bG (a := 1000) (b := 1000) (by decide) rfl (bW (by decide) rfl) post_nil) (aN rfl rfl) ?_
 refine eE rfl (aD (aC ?_))
 refine cx rfl (fun hc2 => ?_) (fun hc2 => ?_)
 ·
  refine aG (aA (lB rfl (cE rfl (aD (aC (av (aW ?_)))))))
  refine fj rfl rfl rfl ?_ ?_
  all_goals first | exact cV rfl rfl | skip
  all_goals exact bE rfl rfl (congrArg (Ty.int .i64) (wk hck (Db hc2)))
 refine aj (aC (aG (aA (jt rfl (Kq rfl (cE rfl (aD (aC (av ?_)))))))))
 refine fj rfl rfl rfl ?_ ?_
 all_goals skip
 all_goals exact absurd (open_3 hck (FA hc2)).symm h
end Go.Proofs.YtelbollidfdcjaaGreat
namespace Go.Proofs.YtelbollidfdcjaaGreat
open Go Go.T
set_option maxHeartbeats 16000000
def tF (k : Nat) (i : Nat) : Bool := decide ((i : Int) = (k : Int))
def hasB (y : ah) (b t : Nat) : Nat → Bool := tF (y.kept b t)
noncomputable def pS (fl : List cC) (n : Nat) (y : ah) (b : Nat) (a : List Int) : Nat → List Int
  | 0 => a
  | t + 1 => yL fl n (hasB y b t) (pS fl n y b a t)
noncomputable def qX (fl : List cC) (n : Nat) (y : ah) (b k : Nat) : List Span := (List.range k).map fun t => gj fl n (hasB y b t)
noncomputable def jY (y : ah) (b : Int) : Int := if eO y b = 0 then cN y else eO y b
noncomputable def eV (y : ah) (b : Int) : List Span := if jY y b = 0 then qX (aP y (nth bh)) (y.cells + 1) y b.toNat (y.D + 1) else []
def Ka (y : ah) (k : Int) : Int := if bT y = 0 then (if (decide (k ≥ 0) && decide (k ≤ (y.moves.length : Int) - 1)) = true then 0 else 1) else bT y
noncomputable def k6 (y : ah) (k : Int) : Int := if Ka y k = 0 then cN y else Ka y k
noncomputable def nQ (y : ah) (k : Int) : Span := if k6 y k = 0 then gj (aP y (nth bh)) (y.cells + 1) (tF (y.bins.length * (y.D + 1) + k.toNat)) else ⟨0, 0⟩
theorem tj {y : ah} (h : cN y = 0) : mC y (aP y (nth bh)) (kS y) := ⟨dQ (eU h), mE (dQ (eU h)), vm (dQ (eU h)), (qA h).1, j4 (dQ (eU h))⟩
section
variable {y : ah} {fl : List cC} {a : List Int} {n b k : Nat} {q : Int}
theorem CF (hN : Net fl n) (hn : 0 < n) (hB : Bd fl) (h : gb fl n a) : ∀ t, gb fl n (pS fl n y b a t)
  | 0 => h
  | t + 1 => (s7 hN hn hB (CF hN hn hB h t)).2.1
theorem JY : a = pS fl n y b a 0 := rfl
theorem JU (t : Nat) : yL fl n (hasB y b t) (pS fl n y b a t) = pS fl n y b a (t + 1) := rfl
theorem FO (t : Nat) : qX fl n y b t ++ [gj fl n (hasB y b t)] = qX fl n y b (t + 1) := by unfold qX; rw [List.range_succ, List.map_append]; rfl
theorem Hy (t : Nat) : (qX fl n y b t).length = t := by unfold qX; rw [List.length_map, List.length_range]
theorem FX : qX fl n y b 0 = [] := rfl
theorem CE {T tg : Nat} {xs : List Span} (h : xs = []) : (Ty.ex (.slice none 0 0)).Sub (Ty.row dm T tg xs) := by subst h; exact Ty.kN
theorem Js (k : Nat) (i : Nat) : decide ((i : Int) = (k : Int)) = tF k i := rfl
theorem KR (b t i : Nat) : decide ((i : Int) = ((y.kept b t : Nat) : Int)) = hasB y b t i := rfl
theorem Ar (h : ¬ eO y q = 0) : eO y q = jY y q ∧ [] = eV y q := by
 have e : eO y q = jY y q := (if_neg h).symm
 exact ⟨e, by unfold eV; rw [← e, if_neg h]⟩
theorem Jb (h : eO y q = 0) (ho : cN y ≠ 0) : cN y = jY y q ∧ [] = eV y q := by
 have e : cN y = jY y q := (if_pos h).symm
 exact ⟨e, by unfold eV; rw [← e, if_neg ho]⟩
theorem Ab (h : eO y q = 0) (ho : cN y = 0) : 0 = jY y q ∧ qX (aP y (nth bh)) (y.cells + 1) y q.toNat (y.D + 1) = eV y q := by
 have e : cN y = jY y q := (if_pos h).symm
 exact ⟨by rw [← e, ho], by unfold eV; rw [← e, if_pos ho]⟩
theorem F7 (h : eO y q = 0) : 0 ≤ q ∧ q < y.bins.length := by
 unfold eO at h
 by_cases e : bT y = 0
 ·rw [if_pos e] at h
  by_cases c : y.bin q = true
  ·unfold ah.bin BN at c
   rw [Bool.and_eq_true, decide_eq_true_eq, decide_eq_true_eq] at c; omega
  rw [if_neg c] at h; cases h
 rw [if_neg e] at h; exact absurd h e
theorem EZ (h : ¬ bT y = 0) : bT y = k6 y q ∧ (⟨0, 0⟩ : Span) = nQ y q := by
 have e1 : Ka y q = bT y := if_neg h
 have e : bT y = k6 y q := by unfold k6; rw [e1, if_neg h]
 exact ⟨e, by unfold nQ; rw [← e, if_neg h]⟩
theorem Ep (h : bT y = 0) (h2 : (!(decide (q ≥ 0) && decide (q ≤ (y.moves.length : Int) - 1))) = true) : 1 = k6 y q ∧ (⟨0, 0⟩ : Span) = nQ y q := by
 have e1 : Ka y q = 1 := by unfold Ka; rw [if_pos h, if_neg (by rw [qt h2]; decide)]
 have e : 1 = k6 y q := by unfold k6; rw [e1]; rfl
 exact ⟨e, by unfold nQ; rw [← e]; rfl⟩
theorem yT (h2 : (!(decide (q ≥ 0) && decide (q ≤ (y.moves.length : Int) - 1))) = false) : 0 ≤ q ∧ q < y.moves.length := by
 have := gA h2
 rw [Bool.and_eq_true, decide_eq_true_eq, decide_eq_true_eq] at this; omega
theorem Lc (h : bT y = 0) (h2 : (!(decide (q ≥ 0) && decide (q ≤ (y.moves.length : Int) - 1))) = false) (ho : cN y ≠ 0) : cN y = k6 y q ∧ (⟨0, 0⟩ : Span) = nQ y q := by
 have e1 : Ka y q = 0 := by unfold Ka; rw [if_pos h, if_pos (gA h2)]
 have e : cN y = k6 y q := by unfold k6; rw [e1]; rfl
 exact ⟨e, by unfold nQ; rw [← e, if_neg ho]⟩
theorem E0 (h : bT y = 0) (h2 : (!(decide (q ≥ 0) && decide (q ≤ (y.moves.length : Int) - 1))) = false) (ho : cN y = 0) : 0 = k6 y q ∧ gj (aP y (nth bh)) (y.cells + 1) (tF (y.bins.length * (y.D + 1) + q.toNat)) = nQ y q := by
 have e1 : Ka y q = 0 := by unfold Ka; rw [if_pos h, if_pos (gA h2)]
 have e : cN y = k6 y q := by unfold k6; rw [e1]; rfl
 exact ⟨by rw [← e, ho], by unfold nQ; rw [← e, if_pos ho]⟩
end
attribute [local irreducible] aP gl Way.gq Way.fin Way.room eW eH fB gR over bO cO dc eY jr fC gr kX cm gK fk fo dF cJ gU pR iY iz jM gj Cn yL iJ ah.kept ah.cells bT eO bh gJ kS cN pS qX jY eV k6 nQ hasB tF
attribute [local irreducible] iN fQ m5 qc ir iW ij iy iw qY iZ qW dz ga qV gG qd nth fP dh aa dy bodyPost Exit.then Exit.inBlock Code.wp Code.wpIn qh iq qb qU ia dn cU cj bodyPostM eF
set_option maxRecDepth 100000 in
theorem Ft (f k : Int) : dy Tryz.prog 165 [Ty.int .i64 f, Ty.pp [Ty.int .i64 k]] (Ty.bool (decide (f = k))) := by
 refine bC Tryz.func165 rfl (by decide) Tryz.ntmps165 (by exact Nat.le_of_ble_eq_true rfl) fun w0 M0 => ?_
 refine aG (aA (dw rfl (aD (aC (aG (aA (bQ rfl (aL rfl rfl rfl rfl (bF rfl rfl rfl ?_)))))))))
 refine dw rfl (aD (aC (av (bz rfl rfl ?_))))
 all_goals exact cV rfl rfl
set_option maxRecDepth 100000 in
theorem Hh (y : ah) (fl : List cC) (a : List Int) (h : mC y fl a) (hfe : gb fl (y.cells + 1) a) (b : Nat) (hb : b < y.bins.length) : dn Tryz.prog 91 [1000] [(1000, Cont.vec cS 3 a)] [Ty.pp (eL y fl 1000 fl.length), Ty.int .i64 ((b : Nat) : Int)] [(1000, Cont.vec cS 3 (pS fl (y.cells + 1) y b a (y.D + 1)))] (Ty.sl dm (qX fl (y.cells + 1) y b (y.D + 1))) := by
 refine c6 Tryz.func91 rfl (by decide) Tryz.ntmps91 (by exact Nat.le_of_ble_eq_true rfl) fun w0 M0 => ?_
 have h1 := h.right.bins
 have h2 := h.right.days
 have h3 := D_eq h.right
 have hft := CF (y := y) (b := b) h.net (Nat.succ_pos _) h.bd hfe
 refine aG (aA (lB rfl (aD (aC (aG (aA (lB rfl (aD (aC ?_)))))))))
 refine aG (aG (aA (jt rfl (cA rfl ?_))))
 refine aO rfl rfl rfl rfl rfl (by decide) ?_
 refine aO rfl rfl rfl rfl rfl (by decide) ?_
 refine aL rfl rfl rfl rfl ?_
 refine cD rfl rfl (by omega) (by omega) ?_
 refine bQ rfl (aD (aC (ak ?_)))
 refine cg (fun (t : {t : Nat // t ≤ y.D + 1}) => live [(0, Ty.pp (eL y fl 1000 fl.length)), (1, Ty.int .i64 ((b : Nat) : Int)), (5, Ty.row dm 37 26 (qX fl (y.cells + 1) y b t.1)), (13, Ty.int .i64 (y.days + 1)), (14, Ty.int .i64 (t.1 : Nat))] [(1000, Cont.vec cS 3 (pS fl (y.cells + 1) y b a t.1))]) (fun t => y.D + 1 - t.1) (⟨0, by omega⟩) ?_ fun t => ?_
 ·(refine dG.mk' ?_ ?_ <;> (repeat' (first | exact aI | exact aJ | refine aB ?_ (Ty.aU _) | refine aB ?_ (Ty.aE _) | refine aF rfl ?_ ?_ | refine aB ?_ ?_)))
  all_goals first | exact CE FX | exact Cont.dW JY
 have hbl := Hy (fl := fl) (n := (y.cells + 1)) (y := y) (b := b) t.1
 have ht := t.2
 have hFt : mC y fl (pS fl (y.cells + 1) y b a t.1) := ⟨h.right, h.net, h.bd, (hft t.1).1, h.pT⟩
 refine aG (aA (bF rfl rfl rfl (aD (aC (aG ?_)))))
 refine aq rfl (fun hc1 => ?_) (fun hc1 => ?_)
 ·
  refine aj (aC (aG (ak (aG (aA (bQ rfl (cE rfl (aD (aC ?_)))))))))
  refine aG (aA (jt rfl (bQ rfl (bQ rfl ?_))))
  refine dX [] (DU y h.right b t.1 hb (by omega)) rfl (aM (nH (l1 := bK y) (l2 := [Ty.sl dx fl, Ty.vs 1000 fl.length]) rfl rfl) (aM (af (bI rfl rfl)) (aM (af (bI rfl rfl)) bf))) (by exact dL _ _) ?_
  refine b9 rfl (by exact List.cons_ne_nil _ _) rfl ?_
  refine cq rfl rfl (by decide) rfl rfl (by exact (rfl : _ = Ty.int _ _)) rfl (by exact Nat.le_of_ble_eq_true rfl) rfl rfl (by exact (rfl : _ = [_])) ?_
  refine aD (aC ?_)
  refine lF (tg := 8) [(7, Ty.pp [Ty.int .i64 ((y.kept b t.1 : Nat) : Int)])] (by decide) rfl ⟨lK (T := 3) (off := 0) (l := [Ty.int .i64 ((y.kept b t.1 : Nat) : Int)]) rfl rfl rfl (by decide), trivial⟩ ?_
  refine aA (I6 rfl (jt rfl (dP rfl ?_)))
  refine bk [(1000, 1000)] [] [(1000, Cont.vec cS 3 (yL fl (y.cells + 1) (hasB y b t.1) (pS fl (y.cells + 1) y b a t.1)))] (D5 y fl (pS fl (y.cells + 1) y b a t.1) hFt (hft t.1) (Ty.jC 165 [Ty.pp [Ty.int .i64 ((y.kept b t.1 : Nat) : Int)]]) rfl rfl (hasB y b t.1) (fun i _ => by rw [← KR]; exact dZ (Ft (i : Nat) _) rfl rfl rfl rfl rfl rfl) rfl) rfl rfl (aH (aH bD (aN rfl rfl)) (fE (aH (aH (aH (aH (aH (aH bD (dj (by exact List.mem_cons_self))) (aN rfl rfl)) (aN rfl rfl)) (aN rfl rfl)) (aN rfl rfl)) (aN rfl rfl)))) (b8 (a := 1000) (b := 1000) (by exact List.mem_cons_self) rfl (bW (by exact List.mem_cons_self) rfl) pre_nil) (bG (a := 1000) (b := 1000) (by decide) rfl (bW (by decide) rfl) post_nil) (aN rfl rfl) ?_
  refine bw (E := dm) (xs := [gj fl (y.cells + 1) (hasB y b t.1)]) rfl rfl rfl rfl rfl (by decide) (by decide) (by repeat (first | exact (aX.nil : aX _ _ [] _) | (show aX _ _ ((_, _) :: _) _; apply aX.agg; (· exact (rfl : _ = Ty.agg _))))) (by exact rfl) rfl ?_
  refine eN rfl rfl (by decide) rfl rfl rfl rfl rfl rfl (by decide) (by (simp <;> omega)) (by (simp <;> omega)) ?_
  refine A4 rfl (aD (bX (aC (aA ?_))))
  refine cD rfl rfl (by omega) (by omega) ?_
  refine bQ rfl (aD ?_)
  refine bl (⟨t.1 + 1, by omega⟩) ?_ (by show y.D + 1 - (t.1 + 1) < y.D + 1 - t.1; omega)
  (refine dG.mk' ?_ ?_ <;> (repeat' (first | exact aI | exact aJ | refine aB ?_ (Ty.aU _) | refine aB ?_ (Ty.aE _) | refine aF rfl ?_ ?_ | refine aB ?_ ?_)))
  all_goals skip
  all_goals first | exact Ty.gL (FO _) | exact Cont.dW (JU _)
 refine cZ (aQ (aQ (ay rfl (aC (aG (aA (I6 rfl (A4 rfl (aD ?_)))))))))
 refine aC (av ?_)
 refine ew [1000] rfl rfl (by decide) ?_ ?_
 ·exact c7 rfl (bW (by decide) (by rw [show t.1 = y.D + 1 by have := t.2; omega])) dR
 all_goals skip
 all_goals exact z6 (by decide) rfl (by rw [show t.1 = y.D + 1 by have := t.2; omega])
set_option maxRecDepth 100000 in
theorem BM (y : ah) (hs : y.Small) (q : Int) (ho : cN y ≠ 0) : dy Tryz.prog 22 [fI y, Ty.int .i64 q] (Ty.ju [Ty.sl dm (eV y q), Ty.int .i64 (jY y q)]) := by
 refine bC Tryz.func22 rfl (by decide) Tryz.ntmps22 (by exact Nat.le_of_ble_eq_true rfl) fun w0 M0 => ?_
 refine aG (aA (bM rfl (lB rfl (cE rfl (aD (aC (aG (aG (aA ?_)))))))))
 refine aZ rfl rfl rfl (by exact Nat.le_of_ble_eq_true rfl) ?_
 refine bQ rfl (az (AK y hs q) rfl rfl rfl rfl rfl (cE rfl (aD (aC (aG (aA (bQ rfl (bF rfl rfl rfl (aD ?_)))))))))
 refine aC ?_
 refine dM rfl (fun hc1 => ?_) (fun hc1 => ?_)
 ·
  refine aG (aA (bQ rfl (lB rfl (cE rfl (aD (aC (av (aW ?_))))))))
  refine fj rfl rfl rfl ?_ ?_
  all_goals skip
  all_goals first | exact gF (Ar hc1).2.symm | exact bE rfl rfl (congrArg (Ty.int .i64) (Ar hc1).1)
 refine aj (aC (aG (aA ?_)))
 refine aZ rfl rfl rfl (by exact Nat.le_of_ble_eq_true rfl) ?_
 refine az (oy y hs ho) rfl rfl rfl rfl rfl (qq rfl (bL rfl rfl (bL rfl rfl (lB rfl (cE rfl (aD (aC (aG (aG ?_)))))))))
 refine aA (bQ rfl (bF rfl rfl rfl (aD (aC ?_))))
 refine p6 rfl (by rw [decide_eq_false ho]; rfl) ?_
 refine aG (aA (bQ rfl (lB rfl (cE rfl (aD (aC (av (aW ?_))))))))
 refine fj rfl rfl rfl ?_ ?_
 all_goals skip
 all_goals first | exact gF (Jb hc1 ho).2.symm | exact bE rfl rfl (congrArg (Ty.int .i64) (Jb hc1 ho).1)
set_option maxRecDepth 100000 in
theorem B9 (y : ah) (hs : y.Small) (q : Int) (ho : cN y = 0) : dy Tryz.prog 22 [fI y, Ty.int .i64 q] (Ty.ju [Ty.sl dm (eV y q), Ty.int .i64 (jY y q)]) := by
 refine bC Tryz.func22 rfl (by decide) Tryz.ntmps22 (by exact Nat.le_of_ble_eq_true rfl) fun w0 M0 => ?_
 have hck := eU ho
 have hr := dQ hck
 have hF : mC y (aP y (nth bh)) (kS y) := tj ho
 have hfe := qA ho
 refine aG (aA (bM rfl (lB rfl (cE rfl (aD (aC (aG (aG (aA ?_)))))))))
 refine aZ rfl rfl rfl (by exact Nat.le_of_ble_eq_true rfl) ?_
 refine bQ rfl (az (AK y hs q) rfl rfl rfl rfl rfl (cE rfl (aD (aC (aG (aA (bQ rfl (bF rfl rfl rfl (aD ?_)))))))))
 refine aC ?_
 refine dM rfl (fun hc1 => ?_) (fun hc1 => ?_)
 ·
  refine aG (aA (bQ rfl (lB rfl (cE rfl (aD (aC (av (aW ?_))))))))
  refine fj rfl rfl rfl ?_ ?_
  all_goals skip
  all_goals first | exact gF (Ar hc1).2.symm | exact bE rfl rfl (congrArg (Ty.int .i64) (Ar hc1).1)
 refine aj (aC (aG (aA ?_)))
 refine aZ rfl rfl rfl (by exact Nat.le_of_ble_eq_true rfl) ?_
 refine bk (res' := Ty.ju [Ty.pp (eL y (aP y (nth bh)) 1000 (aP y (nth bh)).length), Ty.int .i64 0]) [(1000, 1000)] [1000] [(1000, Cont.vec cS 3 (kS y))] (wm y hs ho) rfl rfl (aH bD (aN rfl rfl)) pre_nil (bG (a := 1000) (b := 1000) (by decide) rfl (bW (by decide) rfl) post_nil) (wu (aH (aH bD (aN rfl rfl)) (fE (aH (aH (aH (aH (aH (aH bD (dj (by decide))) (aN rfl rfl)) (aN rfl rfl)) (aN rfl rfl)) (aN rfl rfl)) (aN rfl rfl))))) ?_
 refine qq rfl (bL rfl rfl (bL rfl rfl (Kq rfl (cE rfl (aD (aC (aG (aG (aA ?_)))))))))
 refine bQ rfl (bF rfl rfl rfl (aD (aC (iP rfl (rfl) (aj (aC (aG ?_)))))))
 have hq := F7 hc1
 have hqn : ((q.toNat : Nat) : Int) = q := by omega
 refine gT (s := 1) rfl (Ty.au hqn.symm) ?_
 refine aA (jt rfl (bQ rfl ?_))
 refine bk [(1000, 1000)] [] [(1000, Cont.vec cS 3 (pS (aP y (nth bh)) (y.cells + 1) y q.toNat (kS y) (y.D + 1)))] (Hh y (aP y (nth bh)) (kS y) hF hfe q.toNat (by omega)) rfl rfl (aH (aH bD (aN rfl rfl)) (fE (aH (aH (aH (aH (aH (aH bD (dj (by exact List.mem_cons_self))) (aN rfl rfl)) (aN rfl rfl)) (aN rfl rfl)) (aN rfl rfl)) (aN rfl rfl)))) (b8 (a := 1000) (b := 1000) (by exact List.mem_cons_self) rfl (bW (by exact List.mem_cons_self) rfl) pre_nil) (bG (a := 1000) (b := 1000) (by decide) rfl (bW (by decide) rfl) post_nil) (aN rfl rfl) ?_
 refine zE rfl (cE rfl (aD (aC (av ?_))))
 refine fj rfl rfl rfl ?_ ?_
 all_goals skip
 all_goals first | exact bE rfl rfl (congrArg (Ty.sl dm) (Ab hc1 ho).2) | exact bE rfl rfl (congrArg (Ty.int .i64) (Ab hc1 ho).1)
set_option maxRecDepth 100000 in
theorem Ip (f k : Int) : dy Tryz.prog 121 [Ty.int .i64 f, Ty.pp [Ty.int .i64 k]] (Ty.bool (decide (f = k))) := by
 refine bC Tryz.func121 rfl (by decide) Tryz.ntmps121 (by exact Nat.le_of_ble_eq_true rfl) fun w0 M0 => ?_
 refine aG (aA (dw rfl (aD (aC (aG (aA (bQ rfl (aL rfl rfl rfl rfl (bF rfl rfl rfl ?_)))))))))
 refine dw rfl (aD (aC (av (bz rfl rfl ?_))))
 all_goals exact cV rfl rfl
set_option maxRecDepth 100000 in
theorem DO (y : ah) (hs : y.Small) (q : Int) (ho : cN y ≠ 0) : dy Tryz.prog 48 [fI y, Ty.int .i64 q] (Ty.ju [Ty.agg (dm.tys (nQ y q)), Ty.int .i64 (k6 y q)]) := by
 refine bC Tryz.func48 rfl (by decide) Tryz.ntmps48 (by exact Nat.le_of_ble_eq_true rfl) fun w0 M0 => ?_
 have hsm := hs.moves
 refine aG (aA (bM rfl ?_))
 refine b9 rfl (by exact List.cons_ne_nil _ _) rfl ?_
 refine cE rfl (aD (aC (aG (aG (aA ?_)))))
 refine aZ rfl rfl rfl (by exact Nat.le_of_ble_eq_true rfl) ?_
 refine az (jo y hs) rfl rfl rfl rfl rfl (cE rfl (aD (aC (aG (aA (bQ rfl (bF rfl rfl rfl (aD (aC ?_)))))))))
 refine dM rfl (fun hc1 => ?_) (fun hc1 => ?_)
 ·
  refine aG (aA ?_)
  refine dB rfl rfl (by exact List.cons_ne_nil _ _) rfl (by repeat (exact (aX.nil : aX _ _ [] _))) (by exact (rfl : _ = some [_, _])) ?_
  refine bQ rfl ?_
  refine bp rfl rfl (by decide) rfl rfl rfl rfl rfl rfl ?_
  refine cE rfl (aD (aC (av (aW ?_))))
  refine jh rfl rfl rfl rfl rfl (by decide) rfl rfl rfl ?_ ?_
  all_goals skip
  all_goals first | exact bE rfl rfl (congrArg (fun s => Ty.agg (dm.tys s)) (EZ hc1).2) | exact bE rfl rfl (congrArg (Ty.int .i64) (EZ hc1).1)
 refine aj (aC (aG (aG (aA (bQ rfl ?_)))))
 refine aO rfl rfl rfl rfl rfl (by decide) ?_
 refine aL rfl rfl rfl rfl (cY rfl rfl rfl ?_)
 refine iB rfl rfl (by omega) (by omega) ?_
 refine az (vA _ _ _) rfl rfl rfl rfl rfl (eE rfl (aD (aC ?_)))
 refine cx rfl (fun hc2 => ?_) (fun hc2 => ?_)
 ·
  refine aG (aA ?_)
  refine dB rfl rfl (by exact List.cons_ne_nil _ _) rfl (by repeat (exact (aX.nil : aX _ _ [] _))) (by exact (rfl : _ = some [_, _])) ?_
  refine bp rfl rfl (by decide) rfl rfl rfl rfl rfl rfl ?_
  refine cE rfl (aD (aC (av (aW ?_))))
  refine jh rfl rfl rfl rfl rfl (by decide) rfl rfl rfl ?_ ?_
  all_goals skip
  all_goals first | exact bE rfl rfl (congrArg (fun s => Ty.agg (dm.tys s)) (Ep hc1 hc2).2) | exact bE rfl rfl (congrArg (Ty.int .i64) (Ep hc1 hc2).1)
 refine aj (aC (aG (aA ?_)))
 refine aZ rfl rfl rfl (by exact Nat.le_of_ble_eq_true rfl) ?_
 refine az (oy y hs ho) rfl rfl rfl rfl rfl (qq rfl (bL rfl rfl (bL rfl rfl (lB rfl (cE rfl (aD (aC (aG (aG ?_)))))))))
 refine aA (bQ rfl (bF rfl rfl rfl (aD (aC ?_))))
 refine p6 rfl (by rw [decide_eq_false ho]; rfl) ?_
 refine aG (aA ?_)
 refine dB rfl rfl (by exact List.cons_ne_nil _ _) rfl (by repeat (exact (aX.nil : aX _ _ [] _))) (by exact (rfl : _ = some [_, _])) ?_
 refine bQ rfl ?_
 refine bp rfl rfl (by decide) rfl rfl rfl rfl rfl rfl ?_
 refine cE rfl (aD (aC (av (aW ?_))))
 refine jh rfl rfl rfl rfl rfl (by decide) rfl rfl rfl ?_ ?_
 all_goals skip
 all_goals first | exact bE rfl rfl (congrArg (fun s => Ty.agg (dm.tys s)) (Lc hc1 hc2 ho).2) | exact bE rfl rfl (congrArg (Ty.int .i64) (Lc hc1 hc2 ho).1)
set_option maxRecDepth 100000 in
theorem DP (y : ah) (hs : y.Small) (q : Int) (ho : cN y = 0) : dy Tryz.prog 48 [fI y, Ty.int .i64 q] (Ty.ju [Ty.agg (dm.tys (nQ y q)), Ty.int .i64 (k6 y q)]) := by
 refine bC Tryz.func48 rfl (by decide) Tryz.ntmps48 (by exact Nat.le_of_ble_eq_true rfl) fun w0 M0 => ?_
 have hck := eU ho
 have hr := dQ hck
 have hF : mC y (aP y (nth bh)) (kS y) := tj ho
 have hfe := qA ho
 have hsm := hs.moves
 have hfl := fG (y := y) (c := nth bh)
 have hf34 : (aP y (nth bh)).length ≤ 34 := j4 hr
 refine aG (aA (bM rfl ?_))
 refine b9 rfl (by exact List.cons_ne_nil _ _) rfl ?_
 refine cE rfl (aD (aC (aG (aG (aA ?_)))))
 refine aZ rfl rfl rfl (by exact Nat.le_of_ble_eq_true rfl) ?_
 refine az (jo y hs) rfl rfl rfl rfl rfl (cE rfl (aD (aC (aG (aA (bQ rfl (bF rfl rfl rfl (aD (aC ?_)))))))))
 refine dM rfl (fun hc1 => ?_) (fun hc1 => ?_)
 ·
  refine aG (aA ?_)
  refine dB rfl rfl (by exact List.cons_ne_nil _ _) rfl (by repeat (exact (aX.nil : aX _ _ [] _))) (by exact (rfl : _ = some [_, _])) ?_
  refine bQ rfl ?_
  refine bp rfl rfl (by decide) rfl rfl rfl rfl rfl rfl ?_
  refine cE rfl (aD (aC (av (aW ?_))))
  refine jh rfl rfl rfl rfl rfl (by decide) rfl rfl rfl ?_ ?_
  all_goals skip
  all_goals first | exact bE rfl rfl (congrArg (fun s => Ty.agg (dm.tys s)) (EZ hc1).2) | exact bE rfl rfl (congrArg (Ty.int .i64) (EZ hc1).1)
 refine aj (aC (aG (aG (aA (bQ rfl ?_)))))
 refine aO rfl rfl rfl rfl rfl (by decide) ?_
 refine aL rfl rfl rfl rfl (cY rfl rfl rfl ?_)
 refine iB rfl rfl (by omega) (by omega) ?_
 refine az (vA _ _ _) rfl rfl rfl rfl rfl (eE rfl (aD (aC ?_)))
 refine cx rfl (fun hc2 => ?_) (fun hc2 => ?_)
 ·
  refine aG (aA ?_)
  refine dB rfl rfl (by exact List.cons_ne_nil _ _) rfl (by repeat (exact (aX.nil : aX _ _ [] _))) (by exact (rfl : _ = some [_, _])) ?_
  refine bp rfl rfl (by decide) rfl rfl rfl rfl rfl rfl ?_
  refine cE rfl (aD (aC (av (aW ?_))))
  refine jh rfl rfl rfl rfl rfl (by decide) rfl rfl rfl ?_ ?_
  all_goals skip
  all_goals first | exact bE rfl rfl (congrArg (fun s => Ty.agg (dm.tys s)) (Ep hc1 hc2).2) | exact bE rfl rfl (congrArg (Ty.int .i64) (Ep hc1 hc2).1)
 refine aj (aC (aG (aA ?_)))
 refine aZ rfl rfl rfl (by exact Nat.le_of_ble_eq_true rfl) ?_
 refine bk (res' := Ty.ju [Ty.pp (eL y (aP y (nth bh)) 1000 (aP y (nth bh)).length), Ty.int .i64 0]) [(1000, 1000)] [1000] [(1000, Cont.vec cS 3 (kS y))] (wm y hs ho) rfl rfl (aH bD (aN rfl rfl)) pre_nil (bG (a := 1000) (b := 1000) (by decide) rfl (bW (by decide) rfl) post_nil) (wu (aH (aH bD (aN rfl rfl)) (fE (aH (aH (aH (aH (aH (aH bD (dj (by decide))) (aN rfl rfl)) (aN rfl rfl)) (aN rfl rfl)) (aN rfl rfl)) (aN rfl rfl))))) ?_
 refine qq rfl (bL rfl rfl (bL rfl rfl (Kq rfl (cE rfl (aD (aC (aG (aG (aA ?_)))))))))
 refine bQ rfl (bF rfl rfl rfl (aD (aC (iP rfl (rfl) (aj (aC (aG ?_)))))))
 have hq := yT hc2
 refine cW mixed rfl (jt rfl (cA rfl ?_))
 refine aO rfl rfl rfl rfl rfl (by decide) ?_
 refine aL rfl rfl rfl rfl (cY rfl rfl rfl ?_)
 refine aO rfl rfl rfl rfl rfl (by decide) ?_
 refine aL rfl rfl rfl rfl (cY rfl rfl rfl ?_)
 refine iB rfl rfl (by omega) (by omega) ?_
 refine bQ rfl ?_
 refine cD rfl rfl (by omega) (by omega) ?_
 refine b9 rfl (by exact List.cons_ne_nil _ _) rfl ?_
 refine cq rfl rfl (by decide) rfl rfl (by exact (rfl : _ = Ty.int _ _)) rfl (by exact Nat.le_of_ble_eq_true rfl) rfl rfl (by exact (rfl : _ = [_])) ?_
 refine aD ?_
 refine ⟨by kernel_rfl, ?_⟩
 refine aC (aG ?_)
 refine gT (s := 9) rfl (Ty.aE _) ?_
 refine fV (tg := 10) rfl (Cont.jz (T := 3) (show [Ty.int .i64 (((aP y (nth bh)).length : Int) - (y.moves.length : Int) + q)] = [Ty.int .i64 ((y.bins.length * (y.D + 1) + q.toNat : Nat) : Int)] by congr 2; rw [hfl]; omega)) ?_
 refine lF (tg := 10) [(9, Ty.pp [Ty.int .i64 ((y.bins.length * (y.D + 1) + q.toNat : Nat) : Int)])] (by decide) rfl ⟨lK (T := 3) (off := 0) (l := [Ty.int .i64 ((y.bins.length * (y.D + 1) + q.toNat : Nat) : Int)]) rfl rfl rfl (by decide), trivial⟩ ?_
 refine aA (jt rfl (dP rfl ?_))
 refine bk [(1000, 1000)] [] [(1000, Cont.vec cS 3 (yL (aP y (nth bh)) (y.cells + 1) (tF (y.bins.length * (y.D + 1) + q.toNat)) (kS y)))] (D5 y (aP y (nth bh)) (kS y) hF hfe (Ty.jC 121 [Ty.pp [Ty.int .i64 ((y.bins.length * (y.D + 1) + q.toNat : Nat) : Int)]]) rfl rfl (tF (y.bins.length * (y.D + 1) + q.toNat)) (fun i _ => by rw [← Js]; exact dZ (Ip (i : Nat) _) rfl rfl rfl rfl rfl rfl) rfl) rfl rfl (aH (aH bD (aN rfl rfl)) (fE (aH (aH (aH (aH (aH (aH bD (dj (by exact List.mem_cons_self))) (aN rfl rfl)) (aN rfl rfl)) (aN rfl rfl)) (aN rfl rfl)) (aN rfl rfl)))) (b8 (a := 1000) (b := 1000) (by exact List.mem_cons_self) rfl (bW (by exact List.mem_cons_self) rfl) pre_nil) (bG (a := 1000) (b := 1000) (by decide) rfl (bW (by decide) rfl) post_nil) (aN rfl rfl) ?_
 refine bp rfl rfl (by decide) rfl rfl rfl rfl rfl rfl ?_
 refine cE rfl (aD (aC (av ?_)))
 refine jh rfl rfl rfl rfl rfl (by decide) rfl rfl rfl ?_ ?_
 all_goals skip
 all_goals first | exact bE rfl rfl (congrArg (fun s => Ty.agg (dm.tys s)) (E0 hc1 hc2 ho).2) | exact bE rfl rfl (congrArg (Ty.int .i64) (E0 hc1 hc2 ho).1)
theorem nJ (y : ah) (hs : y.Small) (q : Int) : dy Tryz.prog 22 [fI y, Ty.int .i64 q] (Ty.ju [Ty.sl dm (eV y q), Ty.int .i64 (jY y q)]) := by
 by_cases ho : cN y = 0
 ·exact B9 y hs q ho
 exact BM y hs q ho
theorem K2 (y : ah) (hs : y.Small) (q : Int) : dy Tryz.prog 48 [fI y, Ty.int .i64 q] (Ty.ju [Ty.agg (dm.tys (nQ y q)), Ty.int .i64 (k6 y q)]) := by
 by_cases ho : cN y = 0
 ·exact DP y hs q ho
 exact DO y hs q ho
end Go.Proofs.YtelbollidfdcjaaGreat
namespace Go.T
open Go Go.RowKit
theorem NB {ρ : List (Nat × Nat)} {l1 l2 : List Ty} (h1 : cG l1 = []) (h2 : bt l1 = []) : Conv ρ (.pp (l1 ++ l2)) (.pp l1) := fun w M M' v wf wf' hre ⟨b, off, e, hm, hlt, hd⟩ =>
 ⟨b, off, e, hre.none b hm, hlt, fun i t hi => by
  have hl := (List.getElem?_eq_some_iff.1 hi).1
  obtain ⟨x, hx, hdx⟩ := hd i t (by rw [List.getElem?_append_left hl]; exact hi)
  refine ⟨x, hx, aN ?_ ?_ w M M' x wf wf' hre hdx⟩
  ·refine List.eq_nil_iff_forall_not_mem.2 fun u hu => ?_
   have : u ∈ cG l1 := List.mem_flatMap.2 ⟨t, List.mem_of_getElem? hi, hu⟩
   rw [h1] at this; cases this
  refine List.eq_nil_iff_forall_not_mem.2 fun u hu => ?_
  have : u ∈ bt l1 := List.mem_flatMap.2 ⟨t, List.mem_of_getElem? hi, hu⟩
  rw [h2] at this; cases this⟩
end Go.T
namespace Go.Proofs.YtelbollidfdcjaaGreat
open Go Go.T
set_option maxHeartbeats 16000000
def ot (y : ah) (t : Nat) (i : Nat) : Bool := (List.range y.bins.length).any fun b => decide ((i : Int) = ((y.kept b t : Nat) : Int))
noncomputable def sY (fl : List cC) (n : Nat) (y : ah) (a : List Int) : Nat → List Int
  | 0 => a
  | t + 1 => yL fl n (ot y t) (sY fl n y a t)
noncomputable def q6 (fl : List cC) (n : Nat) (y : ah) (k : Nat) : List Span := (List.range k).map fun t => gj fl n (ot y t)
noncomputable def r5 (y : ah) : List Span := if cN y = 0 then q6 (aP y (nth bh)) (y.cells + 1) y (y.D + 1) else []
noncomputable def kT (y : ah) (q s : Int) (p : Span → Bool) : Int :=
  if eO y q = 0 then (if (!(decide (s ≥ 0) && decide (s ≤ 300))) = true then 3 else if jY y q = 0 then (if fidx p (eV y q) < 0 then 6 else 0) else jY y q) else eO y q
noncomputable def nZ (y : ah) (q s : Int) (p : Span → Bool) : Int := if kT y q s p = 0 then fidx p (eV y q) else 0
section
variable {y : ah} {fl : List cC} {a : List Int} {n b k : Nat} {q s : Int} {p : Span → Bool} {i t : Nat}
theorem CQ (hN : Net fl n) (hn : 0 < n) (hB : Bd fl) (h : gb fl n a) : ∀ t, gb fl n (sY fl n y a t)
  | 0 => h
  | t + 1 => (s7 hN hn hB (CQ hN hn hB h t)).2.1
theorem HD : a = sY fl n y a 0 := rfl
theorem H9 (t : Nat) : yL fl n (ot y t) (sY fl n y a t) = sY fl n y a (t + 1) := rfl
theorem F5 (t : Nat) : q6 fl n y t ++ [gj fl n (ot y t)] = q6 fl n y (t + 1) := by unfold q6; rw [List.range_succ, List.map_append]; rfl
theorem Hs (t : Nat) : (q6 fl n y t).length = t := by unfold q6; rw [List.length_map, List.length_range]
theorem FY : q6 fl n y 0 = [] := rfl
theorem Gz (hb : b < y.bins.length) (h : (i : Int) = ((y.kept b t : Nat) : Int)) : true = ot y t i := (List.any_eq_true.2 ⟨b, List.mem_range.2 hb, decide_eq_true h⟩).symm
theorem J3 (h : ∀ b, b < y.bins.length → ¬ (i : Int) = ((y.kept b t : Nat) : Int)) : false = ot y t i := by
 refine (List.any_eq_false.2 fun b hb => ?_).symm
 rw [decide_eq_true_eq]; exact h b (List.mem_range.1 hb)
theorem Kh (h : cN y ≠ 0) : [] = r5 y := (if_neg h).symm
theorem Bl (h : cN y = 0) : q6 (aP y (nth bh)) (y.cells + 1) y (y.D + 1) = r5 y := (if_pos h).symm
theorem FE {e : Int} (h : e = kT y q s p) (h0 : e ≠ 0) : 0 = nZ y q s p := by unfold nZ; rw [← h, if_neg h0]
theorem Ln (h : ¬ eO y q = 0) : eO y q = kT y q s p ∧ 0 = nZ y q s p := by
 have e : eO y q = kT y q s p := (if_neg h).symm
 exact ⟨e, FE e h⟩
theorem Lr (h : eO y q = 0) (h2 : (!(decide (s ≥ 0) && decide (s ≤ 300))) = true) : 3 = kT y q s p ∧ 0 = nZ y q s p := by
 have e : 3 = kT y q s p := by unfold kT; rw [if_pos h, if_pos h2]
 exact ⟨e, FE e (by decide)⟩
theorem Ly (h : eO y q = 0) (h2 : (!(decide (s ≥ 0) && decide (s ≤ 300))) = false) (h3 : ¬ jY y q = 0) : jY y q = kT y q s p ∧ 0 = nZ y q s p := by
 have e : jY y q = kT y q s p := by unfold kT; rw [if_pos h, if_neg (by rw [h2]; decide), if_neg h3]
 exact ⟨e, FE e h3⟩
theorem LO (h : eO y q = 0) (h2 : (!(decide (s ≥ 0) && decide (s ≤ 300))) = false) (h3 : jY y q = 0) (h4 : fidx p (eV y q) < 0) : 6 = kT y q s p ∧ 0 = nZ y q s p := by
 have e : 6 = kT y q s p := by unfold kT; rw [if_pos h, if_neg (by rw [h2]; decide), if_pos h3, if_pos h4]
 exact ⟨e, FE e (by decide)⟩
theorem JV (h : eO y q = 0) (h2 : (!(decide (s ≥ 0) && decide (s ≤ 300))) = false) (h3 : jY y q = 0) (h4 : ¬ fidx p (eV y q) < 0) : 0 = kT y q s p ∧ fidx p (eV y q) = nZ y q s p := by
 have e : 0 = kT y q s p := by unfold kT; rw [if_pos h, if_neg (by rw [h2]; decide), if_pos h3, if_neg h4]
 exact ⟨e, by unfold nZ; rw [← e]; rfl⟩
end
attribute [local irreducible] aP gl Way.gq Way.fin Way.room eW eH fB gR over bO cO dc eY jr fC gr kX cm gK fk fo dF cJ gU pR iY iz jM gj Cn yL iJ ah.kept ah.cells bT eO bh gJ kS cN pS qX jY eV k6 nQ hasB tF sY q6 r5 ot kT nZ
attribute [local irreducible] iN fQ m5 qc ir iW ij iy iw qY iZ qW dz ga qV gG qd nth fP dh aa dy bodyPost Exit.then Exit.inBlock Code.wp Code.wpIn qh iq qb qU ia dn cU cj bodyPostM eF
set_option maxRecDepth 100000 in
theorem JG (y : ah) (hr : y.cI) (i t : Nat) (ht : t ≤ y.D) : dy Tryz.prog 88 [Ty.int .i64 ((i : Nat) : Int), Ty.pp (bK y), Ty.pp [Ty.pp (bK y)], Ty.pp [Ty.int .i64 ((t : Nat) : Int)]] (Ty.bool (ot y t i)) := by
 refine bC Tryz.func88 rfl (by decide) Tryz.ntmps88 (by exact Nat.le_of_ble_eq_true rfl) fun w0 M0 => ?_
 have h1 := hr.bins
 refine aG (aA (dw rfl (aD (aC (aG (aG (aA ?_)))))))
 refine aO rfl rfl rfl rfl rfl (by decide) ?_
 refine aL rfl rfl rfl rfl (cY rfl rfl rfl (bQ rfl (aD (aC (ak ?_)))))
 refine cg (fun (b : {b : Nat // b ≤ y.bins.length ∧ ∀ c, c < b → ¬ (i : Int) = ((y.kept c t : Nat) : Int)}) => live [(0, Ty.int .i64 ((i : Nat) : Int)), (1, Ty.pp (bK y)), (2, Ty.pp [Ty.pp (bK y)]), (3, Ty.pp [Ty.int .i64 ((t : Nat) : Int)]), (9, Ty.int .i64 y.bins.length), (10, Ty.int .i64 (b.1 : Nat))] []) (fun b => y.bins.length - b.1) (⟨0, Nat.zero_le _, fun c hc => absurd hc (Nat.not_lt_zero c)⟩) ?_ fun b => ?_
 ·(refine dG.mk' ?_ ?_ <;> (repeat' (first | exact aI | exact aJ | refine aB ?_ (Ty.aU _) | refine aB ?_ (Ty.aE _))))
 have hb := b.2.1
 refine aG (aA (bF rfl rfl rfl (aD (aC (aG ?_)))))
 refine aq rfl (fun hc1 => ?_) (fun hc1 => ?_)
 ·
  refine aj (aC (aG (ak (aG (aA (bQ rfl (cE rfl (aD (aC ?_)))))))))
  refine aG (aA (bQ rfl (aL rfl rfl rfl rfl (bQ rfl (aL rfl rfl rfl rfl ?_)))))
  refine az (DU y hr b.1 t (by omega) ht) rfl rfl rfl rfl rfl ?_
  refine bF rfl rfl rfl (aD (aC ?_))
  refine aq rfl (fun hc2 => ?_) (fun hc2 => ?_)
  ·
   refine aG (aA (dw rfl (aD (aC (av (bJ (aW (aW (bJ ?_)))))))))
   refine aW (bz rfl rfl ?_)
   all_goals skip
   all_goals exact bE rfl rfl (congrArg Ty.bool (Gz (by omega) hc2))
  refine aj (bX (aC (aA ?_)))
  refine cD rfl rfl (by omega) (by omega) ?_
  refine bQ rfl (aD ?_)
  refine bl (⟨b.1 + 1, by omega, fun c hc => by by_cases e : c = b.1; (subst e; exact hc2); exact b.2.2 c (by omega)⟩) ?_ (by show y.bins.length - (b.1 + 1) < y.bins.length - b.1; omega)
  (refine dG.mk' ?_ ?_ <;> (repeat' (first | exact aI | exact aJ | refine aB ?_ (Ty.aU _) | refine aB ?_ (Ty.aE _))))
  all_goals skip
 refine cZ (aQ (aQ (ay rfl (aC (aG (aA (dw rfl (aD (aC ?_)))))))))
 refine av (bz rfl rfl ?_)
 all_goals skip
 all_goals exact bE rfl rfl (congrArg Ty.bool (J3 fun c hc => b.2.2 c (by have := b.2.1; omega)))
set_option maxRecDepth 100000 in
theorem Dr (y : ah) (hs : y.Small) (ho : cN y ≠ 0) : dy Tryz.prog 21 [fI y] (Ty.ju [Ty.sl dm (r5 y), Ty.int .i64 (cN y)]) := by
 refine bC Tryz.func21 rfl (by decide) Tryz.ntmps21 (by exact Nat.le_of_ble_eq_true rfl) fun w0 M0 => ?_
 refine aG (aA (bM rfl (lB rfl (cE rfl (aD (aC (aG (aA ?_))))))))
 refine aZ rfl rfl rfl (by exact Nat.le_of_ble_eq_true rfl) ?_
 refine az (oy y hs ho) rfl rfl rfl rfl rfl (qq rfl (bL rfl rfl (bL rfl rfl ?_)))
 refine b9 rfl (by exact List.cons_ne_nil _ _) rfl ?_
 refine cq rfl rfl (by decide) rfl rfl (by exact (rfl : _ = Ty.ex _)) rfl (by exact Nat.le_of_ble_eq_true rfl) rfl rfl (by exact (rfl : _ = [_])) ?_
 refine cE rfl (aD (aC (aG (aG (aA (bQ rfl (bF rfl rfl rfl (aD (aC ?_)))))))))
 refine p6 rfl (by rw [decide_eq_false ho]; rfl) ?_
 refine aG (aA (bQ rfl (lB rfl (cE rfl (aD (aC (av (aW ?_))))))))
 refine fj rfl rfl rfl ?_ ?_
 all_goals first | exact cV rfl rfl | skip
 all_goals exact gF (Kh ho).symm
set_option maxRecDepth 100000 in
theorem DF (y : ah) (hs : y.Small) (ho : cN y = 0) : dy Tryz.prog 21 [fI y] (Ty.ju [Ty.sl dm (r5 y), Ty.int .i64 (cN y)]) := by
 refine bC Tryz.func21 rfl (by decide) Tryz.ntmps21 (by exact Nat.le_of_ble_eq_true rfl) fun w0 M0 => ?_
 have hck := eU ho
 have hr := dQ hck
 have hF : mC y (aP y (nth bh)) (kS y) := tj ho
 have hfe := qA ho
 have h1 := hr.bins
 have h2 := hr.days
 have h3 := D_eq hr
 have hft := CQ (y := y) hF.net (Nat.succ_pos _) hF.bd hfe
 refine aG (aA (bM rfl (lB rfl (cE rfl (aD (aC (aG (aA ?_))))))))
 refine aZ rfl rfl rfl (by exact Nat.le_of_ble_eq_true rfl) ?_
 refine bk (res' := Ty.ju [Ty.pp (eL y (aP y (nth bh)) 1000 (aP y (nth bh)).length), Ty.int .i64 0]) [(1000, 1000)] [1000] [(1000, Cont.vec cS 3 (kS y))] (wm y hs ho) rfl rfl (aH bD (aN rfl rfl)) pre_nil (bG (a := 1000) (b := 1000) (by decide) rfl (bW (by decide) rfl) post_nil) (wu (aH (aH bD (aN rfl rfl)) (fE (aH (aH (aH (aH (aH (aH bD (dj (by decide))) (aN rfl rfl)) (aN rfl rfl)) (aN rfl rfl)) (aN rfl rfl)) (aN rfl rfl))))) ?_
 refine qq rfl (bL rfl rfl (bL rfl rfl ?_))
 refine b9 rfl (by exact List.cons_ne_nil _ _) rfl ?_
 refine cq rfl rfl (by decide) rfl rfl (by exact (rfl : _ = Ty.pp _)) rfl (by exact Nat.le_of_ble_eq_true rfl) rfl rfl (by exact (rfl : _ = [_])) ?_
 refine cE rfl (aD (aC (aG (aG (aA (bQ rfl (bF rfl rfl rfl (aD (aC ?_)))))))))
 refine iP rfl (rfl) (aj (aC (aG ?_)))
 refine lF (tg := 5) [(4, Ty.pp [Ty.pp (eL y (aP y (nth bh)) 1000 (aP y (nth bh)).length)])] (by decide) rfl ⟨lK (T := 152) (off := 0) (l := [Ty.pp (eL y (aP y (nth bh)) 1000 (aP y (nth bh)).length)]) rfl rfl rfl (by decide), trivial⟩ ?_
 refine aA (lB rfl (aD (aC (aG (aG (aA ?_))))))
 refine aO rfl rfl rfl rfl rfl (by decide) ?_
 refine aL rfl rfl rfl rfl ?_
 refine cD rfl rfl (by omega) (by omega) ?_
 refine bQ rfl (aD (aC (ak ?_)))
 refine cg (fun (t : {t : Nat // t ≤ y.D + 1}) => live [(1, Ty.pp (bK y)), (4, Ty.pp [Ty.pp (eL y (aP y (nth bh)) 1000 (aP y (nth bh)).length)]), (6, Ty.row dm 37 27 (q6 (aP y (nth bh)) (y.cells + 1) y t.1)), (18, Ty.int .i64 (y.days + 1)), (19, Ty.int .i64 (t.1 : Nat))] [(1000, Cont.vec cS 3 (sY (aP y (nth bh)) (y.cells + 1) y (kS y) t.1))]) (fun t => y.D + 1 - t.1) (⟨0, by omega⟩) ?_ fun t => ?_
 ·(refine dG.mk' ?_ ?_ <;> (repeat' (first | exact aI | exact aJ | refine aB ?_ (Ty.aU _) | refine aB ?_ (Ty.aE _) | refine aF rfl ?_ ?_ | refine aB ?_ ?_)))
  all_goals first | exact CE FY | exact Cont.dW HD
 have hbl := Hs (fl := (aP y (nth bh))) (n := (y.cells + 1)) (y := y) t.1
 have ht := t.2
 have hFt : mC y (aP y (nth bh)) (sY (aP y (nth bh)) (y.cells + 1) y (kS y) t.1) := ⟨hr, hF.net, hF.bd, (hft t.1).1, hF.pT⟩
 refine aG (aA (bF rfl rfl rfl (aD (aC (aG ?_)))))
 refine aq rfl (fun hc2 => ?_) (fun hc2 => ?_)
 ·
  refine aj (aC (aG (ak (aG (aA (bQ rfl ?_))))))
  refine b9 rfl (by exact List.cons_ne_nil _ _) rfl ?_
  refine cq rfl rfl (by decide) rfl rfl (by exact (rfl : _ = Ty.int _ _)) rfl (by exact Nat.le_of_ble_eq_true rfl) rfl rfl (by exact (rfl : _ = [_])) ?_
  refine aD (aC ?_)
  refine lF (tg := 8) [(7, Ty.pp [Ty.int .i64 ((t.1 : Nat) : Int)])] (by decide) rfl ⟨lK (T := 3) (off := 0) (l := [Ty.int .i64 ((t.1 : Nat) : Int)]) rfl rfl rfl (by decide), trivial⟩ ?_
  refine aA (I6 rfl (aL rfl rfl rfl rfl (dP rfl ?_)))
  refine bk [(1000, 1000)] [] [(1000, Cont.vec cS 3 (yL (aP y (nth bh)) (y.cells + 1) (ot y t.1) (sY (aP y (nth bh)) (y.cells + 1) y (kS y) t.1)))] (D5 y (aP y (nth bh)) (sY (aP y (nth bh)) (y.cells + 1) y (kS y) t.1) hFt (hft t.1) (Ty.jC 88 [Ty.pp (bK y), Ty.pp [Ty.pp (bK y)], Ty.pp [Ty.int .i64 ((t.1 : Nat) : Int)]]) rfl rfl (ot y t.1) (fun i _ => dZ (JG y hr i t.1 (by omega)) rfl rfl rfl rfl rfl rfl) rfl) rfl rfl (aH (aH bD (tJ (aH (aH (aH bD (aN rfl rfl)) (fE (aH bD (NB (l1 := bK y) (l2 := [Ty.sl dx (aP y (nth bh)), Ty.vs 1000 (aP y (nth bh)).length]) rfl rfl)))) (aN rfl rfl)))) (fE (aH (aH (aH (aH (aH (aH bD (dj (by exact List.mem_cons_self))) (aN rfl rfl)) (aN rfl rfl)) (aN rfl rfl)) (aN rfl rfl)) (aN rfl rfl)))) (b8 (a := 1000) (b := 1000) (by exact List.mem_cons_self) rfl (bW (by exact List.mem_cons_self) rfl) pre_nil) (bG (a := 1000) (b := 1000) (by decide) rfl (bW (by decide) rfl) post_nil) (aN rfl rfl) ?_
  refine bw (E := dm) (xs := [gj (aP y (nth bh)) (y.cells + 1) (ot y t.1)]) rfl rfl rfl rfl rfl (by decide) (by decide) (by repeat (first | exact (aX.nil : aX _ _ [] _) | (show aX _ _ ((_, _) :: _) _; apply aX.agg; (· exact (rfl : _ = Ty.agg _))))) (by exact rfl) rfl ?_
  refine eN rfl rfl (by decide) rfl rfl rfl rfl rfl rfl (by decide) (by (simp <;> omega)) (by (simp <;> omega)) ?_
  refine A4 rfl (aD (bX (aC (aA ?_))))
  refine cD rfl rfl (by omega) (by omega) ?_
  refine bQ rfl (aD ?_)
  refine bl (⟨t.1 + 1, by omega⟩) ?_ (by show y.D + 1 - (t.1 + 1) < y.D + 1 - t.1; omega)
  (refine dG.mk' ?_ ?_ <;> (repeat' (first | exact aI | exact aJ | refine aB ?_ (Ty.aU _) | refine aB ?_ (Ty.aE _) | refine aF rfl ?_ ?_ | refine aB ?_ ?_)))
  all_goals skip
  all_goals first | exact Ty.gL (F5 _) | exact Cont.dW (H9 _)
 refine cZ (aQ (aQ (ay rfl (aC (aG (aA (I6 rfl (A4 rfl (cE rfl ?_)))))))))
 refine aD (aC (av ?_))
 refine fj rfl rfl rfl ?_ ?_
 all_goals skip
 all_goals first | exact vv (by decide) ((show _ = q6 (aP y (nth bh)) (y.cells + 1) y (y.D + 1) by rw [show t.1 = y.D + 1 by have := t.2; omega]).trans (Bl ho)) | exact bE rfl rfl (congrArg (Ty.int .i64) ho.symm)
set_option maxRecDepth 100000 in
theorem J0 (y : ah) (hs : y.Small) (q s : Int) (t : Ty) (h1 : t.one = true) (p : Span → Bool) (hd : t.deps = []) (hc : t.cdeps = []) (hf : ∀ x ∈ eV y q, oU Tryz.prog t [Ty.agg (dm.tys x)] (Ty.bool (p x))) : dy Tryz.prog 100 [fI y, Ty.int .i64 q, Ty.int .i64 s, t] (Ty.ju [Ty.int .i64 (nZ y q s p), Ty.int .i64 (kT y q s p)]) := by
 refine bC Tryz.func100 rfl (by decide) Tryz.ntmps100 (by exact Nat.le_of_ble_eq_true rfl) fun w0 M0 => ?_
 refine aG (aA (bM rfl (cE rfl (cE rfl (aD (aC (aG (aG (aA ?_)))))))))
 refine aZ rfl rfl rfl (by exact Nat.le_of_ble_eq_true rfl) ?_
 refine bQ rfl (az (AK y hs q) rfl rfl rfl rfl rfl (cE rfl (aD (aC (aG (aA (bQ rfl (bF rfl rfl rfl (aD ?_)))))))))
 refine aC ?_
 refine dM rfl (fun hc1 => ?_) (fun hc1 => ?_)
 ·
  refine aG (aA (bQ rfl (cE rfl (cE rfl (aD (aC (av (aW ?_))))))))
  refine fj rfl rfl rfl ?_ ?_
  all_goals skip
  all_goals first | exact bE rfl rfl (congrArg (Ty.int .i64) (Ln hc1).1) | exact bE rfl rfl (congrArg (Ty.int .i64) (Ln hc1).2)
 refine aj (aC (aG (aG (aA (bQ rfl (az (vA _ _ _) rfl rfl rfl rfl rfl (eE rfl (aD (aC ?_)))))))))
 refine cx rfl (fun hc2 => ?_) (fun hc2 => ?_)
 ·
  refine aG (aA (cE rfl (cE rfl (aD (aC (av (aW ?_)))))))
  refine fj rfl rfl rfl ?_ ?_
  all_goals skip
  all_goals first | exact bE rfl rfl (congrArg (Ty.int .i64) (Lr hc1 hc2).1) | exact bE rfl rfl (congrArg (Ty.int .i64) (Lr hc1 hc2).2)
 refine aj (aC (aG (aA ?_)))
 refine aZ rfl rfl rfl (by exact Nat.le_of_ble_eq_true rfl) ?_
 refine bQ rfl (az (nJ y hs q) rfl rfl rfl rfl rfl (qq rfl (bL rfl rfl (bL rfl rfl (zE rfl (cE rfl (aD (aC (aG ?_)))))))))
 refine aG (aA (bQ rfl (bF rfl rfl rfl (aD (aC ?_)))))
 refine dM rfl (fun hc3 => ?_) (fun hc3 => ?_)
 ·
  refine aG (aA (bQ rfl (cE rfl (cE rfl (aD (aC (av (aW ?_))))))))
  refine fj rfl rfl rfl ?_ ?_
  all_goals skip
  all_goals first | exact bE rfl rfl (congrArg (Ty.int .i64) (Ly hc1 hc2 hc3).1) | exact bE rfl rfl (congrArg (Ty.int .i64) (Ly hc1 hc2 hc3).2)
 refine aj (aC (aG (aA (fU rfl ?_))))
 refine eK (ty := t) rfl ?_
 refine az (vB (eV y q) t h1 p hd hc hf) rfl (by exact bY rfl (bY hd rfl)) (by exact bR rfl (bR hc rfl)) rfl rfl ?_
 refine cE rfl (aD (aC (aG (aG (aA (bQ rfl (bF rfl rfl rfl (aD (aC ?_)))))))))
 refine aq rfl (fun hc4 => ?_) (fun hc4 => ?_)
 ·
  refine aG (aA (cE rfl (cE rfl (aD (aC (av (aW ?_)))))))
  refine fj rfl rfl rfl ?_ ?_
  all_goals skip
  all_goals first | exact bE rfl rfl (congrArg (Ty.int .i64) (LO hc1 hc2 hc3 hc4).1) | exact bE rfl rfl (congrArg (Ty.int .i64) (LO hc1 hc2 hc3 hc4).2)
 refine aj (aC (aG (aA (bQ rfl (cE rfl (cE rfl (aD (aC (av ?_)))))))))
 refine fj rfl rfl rfl ?_ ?_
 all_goals skip
 all_goals first | exact bE rfl rfl (congrArg (Ty.int .i64) (JV hc1 hc2 hc3 hc4).1) | exact bE rfl rfl (congrArg (Ty.int .i64) (JV hc1 hc2 hc3 hc4).2)
set_option maxRecDepth 100000 in
theorem GU (s : Span) (k : Int) : dy Tryz.prog 101 [Ty.agg (dm.tys s), Ty.pp [Ty.int .i64 k]] (Ty.bool (decide (s.lo ≥ k))) := by
 refine bC Tryz.func101 rfl (by decide) Tryz.ntmps101 (by exact Nat.le_of_ble_eq_true rfl) fun w0 M0 => ?_
 refine aG (aA (bM rfl (dw rfl (aD (aC (aG (aA ?_)))))))
 refine aO rfl rfl rfl rfl rfl (by decide) ?_
 refine aL rfl rfl rfl rfl (aL rfl rfl rfl rfl (bF rfl rfl rfl (dw rfl (aD (aC (av (bz rfl rfl ?_)))))))
 all_goals exact cV rfl rfl
set_option maxRecDepth 100000 in
theorem HE (y : ah) (hs : y.Small) (q s : Int) : dy Tryz.prog 33 [fI y, Ty.int .i64 q, Ty.int .i64 s] (Ty.ju [Ty.int .i64 (nZ y q s fun x => decide (x.lo ≥ s)), Ty.int .i64 (kT y q s fun x => decide (x.lo ≥ s))]) := by
 refine bC Tryz.func33 rfl (by decide) Tryz.ntmps33 (by exact Nat.le_of_ble_eq_true rfl) fun w0 M0 => ?_
 refine aG (aA (bM rfl ?_))
 refine gO (by exact (rfl : _ = Ty.int _ _)) rfl ?_
 refine cE rfl (cE rfl (aD (aC (aG (aA ?_)))))
 refine aZ rfl rfl rfl (by exact Nat.le_of_ble_eq_true rfl) ?_
 refine bQ rfl (aL rfl rfl rfl rfl (dP rfl ?_))
 refine az (J0 y hs q s (Ty.jC 101 [Ty.pp [Ty.int .i64 s]]) rfl (fun x => decide (x.lo ≥ s)) rfl rfl fun x _ => dZ (GU x s) rfl rfl rfl rfl rfl rfl) rfl rfl rfl rfl rfl ?_
 refine bL rfl rfl (bL rfl rfl (cE rfl (cE rfl (aD (aC (av ?_))))))
 refine fj rfl rfl rfl ?_ ?_
 all_goals exact cV rfl rfl
theorem Kg (y : ah) (hs : y.Small) : dy Tryz.prog 21 [fI y] (Ty.ju [Ty.sl dm (r5 y), Ty.int .i64 (cN y)]) := by
 by_cases ho : cN y = 0
 ·exact DF y hs ho
 exact Dr y hs ho
end Go.Proofs.YtelbollidfdcjaaGreat
namespace Go.Proofs.YtelbollidfdcjaaGreat
open Go Go.T
set_option maxHeartbeats 16000000
structure EP where
  cells : List Cm
  out : Bool
  deriving Inhabited
def mg (p : EP) : List Ty := [Ty.sl q8 p.cells, Ty.bool p.out]
def k5 (fl : List cC) : Int := fl.foldl (fun m f => max m (f.lo - f.hi)) (-300)
def xx (y : ah) (l : List Cm) (c : Int) : Bool := l.any fun x => decide (y.cell x.bin x.day = c)
def HI (y : ah) (p : EP) (f : cC) : Bool := if p.out = true then (xx y p.cells f.src && !xx y p.cells f.dst) else (xx y p.cells f.dst && !xx y p.cells f.src)
def Gc (y : ah) (p : EP) (f : cC) : Bool := if p.out = true then (xx y p.cells f.dst && !xx y p.cells f.src) else (xx y p.cells f.src && !xx y p.cells f.dst)
def rS (y : ah) (p : EP) (m : Int) (f : cC) : Int := (m + if HI y p f = true then f.lo else 0) - if Gc y p f = true then f.hi else 0
def gX (y : ah) (fl : List cC) (p : EP) : Nat → Int
  | 0 => 0
  | k + 1 => rS y p (gX y fl p k) (nth fl k)
def jd (y : ah) (fl : List cC) (p : EP) : Int := if p.cells = [] then k5 fl else gX y fl p fl.length
def mK (a b : Cm) : Bool := !decide (a = b) && (decide (a.bin < b.bin) || (decide (a.bin = b.bin) && decide (a.day < b.day)))
def IL (y : ah) (c : Cm) : Bool := y.bin c.bin && (decide (c.day ≥ 0) && decide (c.day ≤ y.days - 1))
open Classical in
noncomputable def nN (y : ah) (p : EP) : Int := if bT y = 0 then (if (p.cells.all (IL y)) = true then (if (∀ i, i + 1 < p.cells.length → mK (nth p.cells i) (nth p.cells (i + 1)) = true) then (if jd y (aP y (nth bh)) p < 1 then 6 else 0) else 4) else 1) else bT y
noncomputable def tD (y : ah) (p : EP) : Int := if nN y p = 0 then jd y (aP y (nth bh)) p else 0
section
variable {y : ah} {fl : List cC} {a : List Int} {n b k : Nat} {p : EP} {f : cC} {m : Int}
theorem DY : -300 = k5 (fl.take 0) := rfl
theorem Ds (h : k < fl.length) : max (k5 (fl.take k)) ((nth fl k).lo - (nth fl k).hi) = k5 (fl.take (k + 1)) := by
 unfold k5; rw [eG h, List.foldl_append]; rfl
theorem Hq (h : p.out = true) : (xx y p.cells f.src && !xx y p.cells f.dst) = HI y p f ∧ (xx y p.cells f.dst && !xx y p.cells f.src) = Gc y p f := ⟨(if_pos h).symm, (if_pos h).symm⟩
theorem Lg (h : p.out = false) : (xx y p.cells f.dst && !xx y p.cells f.src) = HI y p f ∧ (xx y p.cells f.src && !xx y p.cells f.dst) = Gc y p f := ⟨(if_neg (by rw [h]; decide)).symm, (if_neg (by rw [h]; decide)).symm⟩
def oN (y : ah) (p : EP) (m : Int) (f : cC) : Int := m + if HI y p f = true then f.lo else 0
theorem I2 (h : HI y p f = true) : m + f.lo = oN y p m f := by unfold oN; rw [if_pos h]
theorem KC (h : HI y p f = false) : m = oN y p m f := by unfold oN; rw [if_neg (by rw [h]; decide)]; omega
theorem Ee (h : 0 ≤ f.lo ∧ f.lo ≤ 300) : m ≤ oN y p m f ∧ oN y p m f ≤ m + 300 := by unfold oN; split <;> omega
theorem zh : 0 = gX y fl p 0 := rfl
theorem CY (h : Gc y p (nth fl k) = true) : oN y p (gX y fl p k) (nth fl k) - (nth fl k).hi = gX y fl p (k + 1) := by
 show _ = rS y p _ _; unfold rS; rw [if_pos h]; rfl
theorem ER (h : Gc y p (nth fl k) = false) : oN y p (gX y fl p k) (nth fl k) = gX y fl p (k + 1) := by
 have e : ¬ Gc y p (nth fl k) = true := by rw [h]; decide
 show _ = rS y p _ _; unfold rS; rw [if_neg e]; unfold oN; omega
theorem Bg (hb : ∀ i, i < fl.length → 0 ≤ (nth fl i).lo ∧ (nth fl i).lo ≤ 300 ∧ 0 ≤ (nth fl i).hi ∧ (nth fl i).hi ≤ 300) : ∀ k, k ≤ fl.length → -(300 * (k : Int)) ≤ gX y fl p k ∧ gX y fl p k ≤ 300 * (k : Int)
  | 0, _ => by rw [← zh]; omega
  | k + 1, h => by
    have ih := Bg hb k (by omega)
    have h1 := hb k (by omega)
    have h2 := Ee (y := y) (p := p) (m := gX y fl p k) (f := nth fl k) ⟨h1.1, h1.2.1⟩
    cases e : Gc y p (nth fl k) with
    | true => rw [← CY e]; omega
    | false => rw [← ER e]; omega
theorem Dw (h : p.cells = []) : k5 fl = jd y fl p := (if_pos h).symm
theorem CZ (h : p.cells ≠ []) : gX y fl p fl.length = jd y fl p := (if_neg h).symm
theorem ND (h : (p.cells.length : Int) = 0) : p.cells = [] := List.length_eq_zero_iff.1 (by omega)
theorem J4 (h : ¬ (p.cells.length : Int) = 0) : p.cells ≠ [] := fun e => h (by rw [e]; rfl)
theorem E7 {e : Int} (h : e = nN y p) (h0 : e ≠ 0) : 0 = tD y p := by unfold tD; rw [← h, if_neg h0]
theorem Lx (h : ¬ bT y = 0) : bT y = nN y p ∧ 0 = tD y p := by
 have e : bT y = nN y p := (if_neg h).symm
 exact ⟨e, E7 e h⟩
theorem LP (h : bT y = 0) (h2 : (p.cells.all (IL y)) = false) : 1 = nN y p ∧ 0 = tD y p := by
 have e : 1 = nN y p := by unfold nN; rw [if_pos h, if_neg (by rw [h2]; decide)]
 exact ⟨e, E7 e (by decide)⟩
theorem No (h : bT y = 0) (h2 : (p.cells.all (IL y)) = true) {i : Nat} (hi : i + 1 < p.cells.length) (h3 : mK (nth p.cells i) (nth p.cells (i + 1)) = false) : 4 = nN y p ∧ 0 = tD y p := by
 have e : 4 = nN y p := by
  unfold nN; rw [if_pos h, if_pos h2, if_neg fun hx => by rw [hx i hi] at h3; cases h3]
 exact ⟨e, E7 e (by decide)⟩
theorem Hp (h : bT y = 0) (h2 : (p.cells.all (IL y)) = true) {i : Nat} (h1 : 1 ≤ i) (hi : i < p.cells.length) (h3 : mK (nth p.cells (i - 1)) (nth p.cells i) = false) : 4 = nN y p ∧ 0 = tD y p := by
 obtain ⟨j, rfl⟩ : ∃ j, i = j + 1 := ⟨i - 1, by omega⟩
 exact No h h2 hi h3
theorem Lq (h : bT y = 0) (h2 : (p.cells.all (IL y)) = true) (h3 : ∀ i, i + 1 < p.cells.length → mK (nth p.cells i) (nth p.cells (i + 1)) = true) (h4 : jd y (aP y (nth bh)) p < 1) : 6 = nN y p ∧ 0 = tD y p := by
 have e : 6 = nN y p := by unfold nN; rw [if_pos h, if_pos h2, if_pos h3, if_pos h4]
 exact ⟨e, E7 e (by decide)⟩
theorem HF (h : bT y = 0) (h2 : (p.cells.all (IL y)) = true) (h3 : ∀ i, i + 1 < p.cells.length → mK (nth p.cells i) (nth p.cells (i + 1)) = true) (h4 : ¬ jd y (aP y (nth bh)) p < 1) : 0 = nN y p ∧ jd y (aP y (nth bh)) p = tD y p := by
 have e : 0 = nN y p := by unfold nN; rw [if_pos h, if_pos h2, if_pos h3, if_neg h4]
 exact ⟨e, by unfold tD; rw [← e]; rfl⟩
theorem My (a b : Cm) : (decide (a.bin = b.bin) && decide (a.day = b.day)) = decide (a = b) := by
 cases a; cases b; simp
theorem L6 {c : Cm} (h : IL y c = true) : (-1 ≤ c.bin ∧ c.bin < y.bins.length) ∧ 0 ≤ c.day ∧ c.day ≤ y.days := by
 unfold IL ah.bin BN at h
 simp only [Bool.and_eq_true, decide_eq_true_eq] at h; omega
theorem EK (hr : y.cI) {c : Nat → Bool} {t : Nat} {q : Span} (h : q.lo ≤ 300 ∧ 0 ≤ q.hi) : ∀ k, k ≤ y.levels.length → (gI y c b t q k).lo ≤ 300 ∧ 0 ≤ (gI y c b t q k).hi
  | 0, _ => h
  | k + 1, hk => by
    have ih := EK hr (c := c) (t := t) h k (by omega)
    have hl := hr.level _ (cL (xs := y.levels) (k := k) (by omega))
    unfold gI; split
    · show max _ _ ≤ 300 ∧ 0 ≤ min _ _; omega
    · exact ih
theorem JS (hr : y.cI) {c : Nat → Bool} {i : Nat} (hi : i < (aP y c).length) : 0 ≤ (nth (aP y c) i).lo ∧ (nth (aP y c) i).lo ≤ 300 ∧ 0 ≤ (nth (aP y c) i).hi ∧ (nth (aP y c) i).hi ≤ 300 := by
 have hB := vm hr (c := c) i hi
 suffices h : (nth (aP y c) i).lo ≤ 300 ∧ 0 ≤ (nth (aP y c) i).hi by omega
 rcases oA hi with ⟨b, t, hb, ht, rfl⟩ | ⟨k, hk, rfl⟩
 ·rw [iS hb ht]
  obtain ⟨h1, h2, h3⟩ := hr.bin _ (cL hb)
  refine EK hr (q := iA y b t) ?_ y.levels.length (Nat.le_refl _)
  unfold iA; split
  ·exact ⟨by show (0 : Int) ≤ 300; decide, h1.1⟩
  show max _ _ ≤ 300 ∧ 0 ≤ min _ _; omega
 rw [iQ hk]
 have h := (hr.move _ (cL hk)).2.2.2.2
 show (nth y.moves k).sacks.lo ≤ 300 ∧ 0 ≤ (nth y.moves k).sacks.hi
 omega
theorem Ja (hr : y.cI) {c : Nat → Bool} : ∀ i, i < (aP y c).length → 0 ≤ (nth (aP y c) i).lo ∧ (nth (aP y c) i).lo ≤ 300 ∧ 0 ≤ (nth (aP y c) i).hi ∧ (nth (aP y c) i).hi ≤ 300 := fun i hi => JS hr hi
end
attribute [local irreducible] aP gl Way.gq Way.fin Way.room eW eH fB gR over bO cO dc eY jr fC gr kX cm gK fk fo dF cJ gU pR iY iz jM gj Cn yL iJ ah.kept ah.cells bT eO bh gJ kS cN pS qX jY eV k6 nQ hasB tF sY q6 r5 ot kT nZ k5 xx gX jd HI Gc rS
attribute [local irreducible] oN
attribute [local irreducible] iN fQ m5 qc ir iW ij iy iw qY iZ qW dz ga qV gG qd nth fP dh aa dy bodyPost Exit.then Exit.inBlock Code.wp Code.wpIn qh iq qb qU ia dn cU cj bodyPostM eF
set_option maxRecDepth 100000 in
theorem GD (y : ah) (fl : List cC) (a : List Int) (hfl : fl.length ≤ 34) (hb : ∀ i, i < fl.length → 0 ≤ (nth fl i).lo ∧ (nth fl i).lo ≤ 300 ∧ 0 ≤ (nth fl i).hi ∧ (nth fl i).hi ≤ 300) : dy Tryz.prog 128 [Ty.pp (mN y fl a)] (Ty.int .i64 (k5 fl)) := by
 refine bC Tryz.func128 rfl (by decide) Tryz.ntmps128 (by exact Nat.le_of_ble_eq_true rfl) fun w0 M0 => ?_
 refine aG (aA (cE rfl (aD (aC (aG (aA (cE rfl (aD (aC ?_)))))))))
 refine aG (aG (aA (jt rfl (cA rfl ?_))))
 refine aO rfl rfl rfl rfl rfl (by decide) ?_
 refine aL rfl rfl rfl rfl (cY rfl rfl rfl (bQ rfl (aD (aC (ak ?_)))))
 refine cg (fun (k : {k : Nat // k ≤ fl.length}) => live [(0, Ty.pp (mN y fl a)), (3, Ty.int .i64 (k5 (fl.take k.1))), (9, Ty.sl dx fl), (10, Ty.int .i64 fl.length), (11, Ty.int .i64 (k.1 : Nat))] []) (fun k => fl.length - k.1) (⟨0, by omega⟩) ?_ fun k => ?_
 ·(refine dG.mk' ?_ ?_ <;> (repeat' (first | exact aI | exact aJ | refine aB ?_ (Ty.aU _) | refine aB ?_ (Ty.aE _) | refine aB ?_ ?_)))
  all_goals exact Ty.au DY
 have hk := k.2
 refine aG (aA (bF rfl rfl rfl (aD (aC (aG ?_)))))
 refine aq rfl (fun hc1 => ?_) (fun hc1 => ?_)
 ·
  refine aj (aC (aG (ak (aG (aA ?_)))))
  refine bH rfl rfl rfl rfl rfl rfl (by omega) ?_
  refine aZ rfl rfl rfl (by exact Nat.le_of_ble_eq_true rfl) ?_
  refine b9 rfl (by exact List.cons_ne_nil _ _) rfl ?_
  refine bp rfl rfl (by decide) rfl rfl rfl rfl rfl rfl ?_
  refine aD (aC ?_)
  have hbk := hb k.1 (by omega)
  refine aA (bQ rfl ?_)
  refine aK rfl rfl rfl rfl rfl (by decide) ?_
  refine aS rfl rfl (by decide) rfl rfl rfl ?_
  refine aK rfl rfl rfl rfl rfl (by decide) ?_
  refine aS rfl rfl (by decide) rfl rfl rfl ?_
  refine iB rfl rfl (by omega) (by omega) ?_
  refine ue rfl rfl (cE rfl (aD (bX (aC (aA ?_)))))
  refine cD rfl rfl (by omega) (by omega) ?_
  refine bQ rfl (aD ?_)
  refine bl (⟨k.1 + 1, by omega⟩) ?_ (by show fl.length - (k.1 + 1) < fl.length - k.1; omega)
  (refine dG.mk' ?_ ?_ <;> (repeat' (first | exact aI | exact aJ | refine aB ?_ (Ty.aU _) | refine aB ?_ (Ty.aE _) | refine aB ?_ ?_)))
  all_goals skip
  all_goals exact Ty.au (Ds (by omega))
 refine cZ (aQ (aQ (ay rfl (aC (aG (aA (bQ rfl (cE rfl (aD ?_)))))))))
 refine aC (av (bz rfl rfl ?_))
 all_goals skip
 all_goals exact bE rfl rfl (congrArg (Ty.int .i64) (by rw [List.take_of_length_le (by have := k.2; omega)]))
set_option maxRecDepth 100000 in
theorem FR (y : ah) (hr : y.cI) (fl : List cC) (a : List Int) (x : Cm) (hx : (-1 ≤ x.bin ∧ x.bin < y.bins.length) ∧ 0 ≤ x.day ∧ x.day ≤ y.days) (c : Int) : dy Tryz.prog 188 [Ty.agg (q8.tys x), Ty.pp [Ty.pp (mN y fl a)], Ty.pp [Ty.int .i64 c]] (Ty.bool (decide (y.cell x.bin x.day = c))) := by
 refine bC Tryz.func188 rfl (by decide) Tryz.ntmps188 (by exact Nat.le_of_ble_eq_true rfl) fun w0 M0 => ?_
 refine aG (aA (bM rfl (dw rfl (aD (aC (aG (cW mixed rfl (aL rfl rfl rfl rfl ?_))))))))
 refine aO rfl rfl rfl rfl rfl (by decide) ?_
 refine aL rfl rfl rfl rfl ?_
 refine aO rfl rfl rfl rfl rfl (by decide) ?_
 refine aL rfl rfl rfl rfl ?_
 refine dX [] (xH y hr x.bin x.day hx.1 hx.2) rfl (aM (nH (l1 := bK y) (l2 := [Ty.sl dx fl, Ty.sl cS a]) rfl rfl) (aM (af (bI rfl rfl)) (aM (af (bI rfl rfl)) bf))) (by exact dL _ _) ?_
 refine aL rfl rfl rfl rfl (bF rfl rfl rfl (dw rfl (aD ?_)))
 refine ⟨by kernel_rfl, ?_⟩
 refine aC (av (bz rfl rfl ?_))
 all_goals exact cV rfl rfl
set_option maxRecDepth 100000 in
theorem rT (y : ah) (hr : y.cI) (fl : List cC) (a : List Int) (p : EP) (hp : ∀ x ∈ p.cells, (-1 ≤ x.bin ∧ x.bin < y.bins.length) ∧ 0 ≤ x.day ∧ x.day ≤ y.days) (c : Int) : dy Tryz.prog 187 [Ty.int .i64 c, Ty.pp (mg p), Ty.pp [Ty.pp (mN y fl a)]] (Ty.bool (xx y p.cells c)) := by
 refine bC Tryz.func187 rfl (by decide) Tryz.ntmps187 (by exact Nat.le_of_ble_eq_true rfl) fun w0 M0 => ?_
 refine aG (aA ?_)
 refine gO (by exact (rfl : _ = Ty.int _ _)) rfl ?_
 refine dw rfl (aD (aC (aG (aA ?_))))
 refine aO rfl rfl rfl rfl rfl (by decide) ?_
 refine aL rfl rfl rfl rfl (dP rfl ?_)
 refine az (mB p.cells (Ty.jC 188 [Ty.pp [Ty.pp (mN y fl a)], Ty.pp [Ty.int .i64 c]]) rfl (fun x => decide (y.cell x.bin x.day = c)) rfl rfl fun x hx => dZ (FR y hr fl a x (hp x hx) c) rfl rfl rfl rfl rfl rfl) rfl rfl rfl rfl rfl ?_
 refine dw rfl (aD (aC (av (bz rfl rfl ?_))))
 all_goals skip
 all_goals exact bE rfl rfl (congrArg Ty.bool (by unfold xx; rfl))
set_option maxRecDepth 100000 in
theorem Jv (y : ah) (hr : y.cI) (fl : List cC) (a : List Int) (hfl : fl.length ≤ 34) (hb : ∀ i, i < fl.length → 0 ≤ (nth fl i).lo ∧ (nth fl i).lo ≤ 300 ∧ 0 ≤ (nth fl i).hi ∧ (nth fl i).hi ≤ 300) (p : EP) (hp : ∀ x ∈ p.cells, (-1 ≤ x.bin ∧ x.bin < y.bins.length) ∧ 0 ≤ x.day ∧ x.day ≤ y.days) : dy Tryz.prog 137 [Ty.pp (mN y fl a), Ty.agg (mg p)] (Ty.int .i64 (jd y fl p)) := by
 refine bC Tryz.func137 rfl (by decide) Tryz.ntmps137 (by exact Nat.le_of_ble_eq_true rfl) fun w0 M0 => ?_
 refine aG (aA ?_)
 refine gO (by exact (rfl : _ = Ty.pp _)) rfl ?_
 refine bM rfl (cE rfl (aD (aC (aG (aG (aA ?_))))))
 refine aO rfl rfl rfl rfl rfl (by decide) ?_
 refine aL rfl rfl rfl rfl (cY rfl rfl rfl (bF rfl rfl rfl (aD (aC ?_))))
 refine aq rfl (fun hc1 => ?_) (fun hc1 => ?_)
 ·
  refine aG (aA (aL rfl rfl rfl rfl (az (GD y fl a hfl hb) rfl rfl rfl rfl rfl (cE rfl (aD (aC (av (aW (bz rfl rfl ?_)))))))))
  all_goals skip
  all_goals exact bE rfl rfl (congrArg (Ty.int .i64) (Dw (ND hc1)))
 refine aj (aC (aG (aA (dP rfl (Oj rfl (aD (aC (aG (aA ?_)))))))))
 refine cE rfl (aD (aC (aG (aG (aA (aL rfl rfl rfl rfl (cA rfl ?_)))))))
 refine aO rfl rfl rfl rfl rfl (by decide) ?_
 refine aL rfl rfl rfl rfl (cY rfl rfl rfl (bQ rfl (aD (aC (ak ?_)))))
 refine cg (fun (k : {k : Nat // k ≤ fl.length}) => live [(3, Ty.pp (mg p)), (5, Ty.jC 187 [Ty.pp (mg p), Ty.pp [Ty.pp (mN y fl a)]]), (6, Ty.int .i64 (gX y fl p k.1)), (21, Ty.sl dx fl), (22, Ty.int .i64 fl.length), (23, Ty.int .i64 (k.1 : Nat))] []) (fun k => fl.length - k.1) (⟨0, by omega⟩) ?_ fun k => ?_
 ·(refine dG.mk' ?_ ?_ <;> (repeat' (first | exact aI | exact aJ | refine aB ?_ (Ty.aU _) | refine aB ?_ (Ty.aE _) | refine aB ?_ ?_)))
  all_goals exact Ty.au zh
 have hk := k.2
 have hup := Bg (y := y) (p := p) hb k.1 k.2
 refine aG (aA (bF rfl rfl rfl (aD (aC (aG ?_)))))
 refine aq rfl (fun hc2 => ?_) (fun hc2 => ?_)
 ·
  refine aj (aC (aG (ak (aG (aA ?_)))))
  refine bH rfl rfl rfl rfl rfl rfl (by omega) ?_
  refine aZ rfl rfl rfl (by exact Nat.le_of_ble_eq_true rfl) ?_
  refine b9 rfl (by exact List.cons_ne_nil _ _) rfl ?_
  refine bp rfl rfl (by decide) rfl rfl rfl rfl rfl rfl ?_
  refine aD (aC (aG ?_))
  have hbk := hb k.1 (by omega)
  have hhf := Ee (y := y) (p := p) (m := gX y fl p k.1) (f := (nth fl k.1)) ⟨hbk.1, hbk.2.1⟩
  refine cW mixed rfl (NM rfl ?_)
  refine aK rfl rfl rfl rfl rfl (by decide) ?_
  refine aS rfl rfl (by decide) rfl rfl rfl ?_
  refine ep rfl (dZ (rT y hr fl a p hp (nth fl k.1).dst) rfl rfl rfl rfl rfl rfl) rfl (g8 rfl ?_)
  apply aT (s := 31) rfl rfl rfl
  ·intro hg; apply aV; (refine NM rfl ?_); refine aD ?_; exact rfl
  ·exact rfl
  ·exact rfl
  apply aT (s := 31) rfl rfl rfl
  ·intro hg; apply aV; (refine aK rfl rfl rfl rfl rfl (by decide) ?_); refine aD ?_; exact rfl
  ·exact rfl
  ·exact rfl
  apply aT (s := 31) rfl rfl rfl
  ·intro hg; apply aR (s := 33) rfl (by (rw [hg]; rfl)); apply aV; (refine aS rfl rfl (by decide) rfl rfl rfl ?_); refine aD ?_; exact rfl
  ·exact rfl
  ·exact rfl
  apply aT (s := 31) rfl rfl rfl
  ·intro hg; apply aR (s := 32) rfl (by (rw [hg]; rfl)); apply aR (s := 34) rfl (by (rw [hg]; rfl)); apply aV; (refine ep rfl (dZ (rT y hr fl a p hp (nth fl k.1).src) rfl rfl rfl rfl rfl rfl) rfl ?_); refine aD ?_; exact rfl
  ·exact rfl
  ·exact rfl
  apply aT (s := 31) rfl rfl rfl
  ·intro hg; apply aR (s := 35) rfl (by (rw [hg]; rfl)); apply aV; (refine eE rfl ?_); refine aD ?_; exact rfl
  ·exact rfl
  ·exact rfl
  refine eX rfl rfl (NM rfl ?_)
  refine aK rfl rfl rfl rfl rfl (by decide) ?_
  refine aS rfl rfl (by decide) rfl rfl rfl ?_
  refine ep rfl (dZ (rT y hr fl a p hp (nth fl k.1).src) rfl rfl rfl rfl rfl rfl) rfl (g8 rfl ?_)
  apply aT (s := 42) rfl rfl rfl
  ·intro hg; apply aV; (refine NM rfl ?_); refine aD ?_; exact rfl
  ·exact rfl
  ·exact rfl
  apply aT (s := 42) rfl rfl rfl
  ·intro hg; apply aV; (refine aK rfl rfl rfl rfl rfl (by decide) ?_); refine aD ?_; exact rfl
  ·exact rfl
  ·exact rfl
  apply aT (s := 42) rfl rfl rfl
  ·intro hg; apply aR (s := 44) rfl (by (rw [hg]; rfl)); apply aV; (refine aS rfl rfl (by decide) rfl rfl rfl ?_); refine aD ?_; exact rfl
  ·exact rfl
  ·exact rfl
  apply aT (s := 42) rfl rfl rfl
  ·intro hg; apply aR (s := 43) rfl (by (rw [hg]; rfl)); apply aR (s := 45) rfl (by (rw [hg]; rfl)); apply aV; (refine ep rfl (dZ (rT y hr fl a p hp (nth fl k.1).dst) rfl rfl rfl rfl rfl rfl) rfl ?_); refine aD ?_; exact rfl
  ·exact rfl
  ·exact rfl
  apply aT (s := 42) rfl rfl rfl
  ·intro hg; apply aR (s := 46) rfl (by (rw [hg]; rfl)); apply aV; (refine eE rfl ?_); refine aD ?_; exact rfl
  ·exact rfl
  ·exact rfl
  refine eX rfl rfl (dw rfl (dw rfl (aD ?_)))
  refine ⟨by kernel_rfl, ?_⟩
  refine aC ?_
  refine k7 (J := live [(3, Ty.pp (mg p)), (5, Ty.jC 187 [Ty.pp (mg p), Ty.pp [Ty.pp (mN y fl a)]]), (6, Ty.int .i64 (gX y fl p k.1)), (8, Ty.ptr 9 0), (9, Ty.bool (HI y p (nth fl k.1))), (10, Ty.bool (Gc y p (nth fl k.1))), (21, Ty.sl dx fl), (22, Ty.int .i64 fl.length), (23, Ty.int .i64 (k.1 : Nat))] [(9, Cont.cells 187 (dx.tys (nth fl k.1)))]) ?_ ?_
  ·
   refine aG (aA ?_)
   refine aO rfl rfl rfl rfl rfl (by decide) ?_
   refine aL rfl rfl rfl rfl (aD (aC ?_))
   refine cx rfl (fun hc3 => ?_) (fun hc3 => ?_)
   ·
    refine aA (g8 rfl (g8 rfl (dw rfl (dw rfl (aD (fJ ?_))))))
    (refine dG.mk' ?_ ?_ <;> (repeat' (first | exact aI | exact aJ | refine aB ?_ (Ty.aU _) | refine aB ?_ (Ty.aE _) | refine aF rfl (Cont.aE _) ?_ | refine aB ?_ ?_)))
    all_goals first | exact Ty.rU (Hq (by assumption)).1 | exact Ty.rU (Hq (by assumption)).2
   refine aj (fJ ?_)
   (refine dG.mk' ?_ ?_ <;> (repeat' (first | exact aI | exact aJ | refine aB ?_ (Ty.aU _) | refine aB ?_ (Ty.aE _) | refine aF rfl (Cont.aE _) ?_ | refine aB ?_ ?_)))
   all_goals first | exact Ty.rU (Lg (by assumption)).1 | exact Ty.rU (Lg (by assumption)).2
  refine k7 (J := live [(3, Ty.pp (mg p)), (5, Ty.jC 187 [Ty.pp (mg p), Ty.pp [Ty.pp (mN y fl a)]]), (6, Ty.int .i64 (oN y p (gX y fl p k.1) (nth fl k.1))), (8, Ty.ptr 9 0), (10, Ty.bool (Gc y p (nth fl k.1))), (21, Ty.sl dx fl), (22, Ty.int .i64 fl.length), (23, Ty.int .i64 (k.1 : Nat))] [(9, Cont.cells 187 (dx.tys (nth fl k.1)))]) ?_ ?_
  ·
   refine aG (aA (g8 rfl (aD (aC ?_))))
   refine cx rfl (fun hc4 => ?_) (fun hc4 => ?_)
   ·
    refine aA (bQ rfl ?_)
    refine aK rfl rfl rfl rfl rfl (by decide) ?_
    refine aS rfl rfl (by decide) rfl rfl rfl ?_
    refine cD rfl rfl (by omega) (by omega) ?_
    refine cE rfl (aD (fJ ?_))
    (refine dG.mk' ?_ ?_ <;> (repeat' (first | exact aI | exact aJ | refine aB ?_ (Ty.aU _) | refine aB ?_ (Ty.aE _) | refine aF rfl (Cont.aE _) ?_ | refine aB ?_ ?_)))
    all_goals exact Ty.au (I2 (by assumption))
   refine aj (fJ ?_)
   (refine dG.mk' ?_ ?_ <;> (repeat' (first | exact aI | exact aJ | refine aB ?_ (Ty.aU _) | refine aB ?_ (Ty.aE _) | refine aF rfl (Cont.aE _) ?_ | refine aB ?_ ?_)))
   all_goals exact Ty.au (KC (by assumption))
  refine aG (aA (g8 rfl (aD (aC ?_))))
  refine cx rfl (fun hc5 => ?_) (fun hc5 => ?_)
  ·
   refine aA (bQ rfl ?_)
   refine aK rfl rfl rfl rfl rfl (by decide) ?_
   refine aS rfl rfl (by decide) rfl rfl rfl ?_
   refine iB rfl rfl (by omega) (by omega) ?_
   refine cE rfl (aD (bX (aC (aA ?_))))
   refine cD rfl rfl (by omega) (by omega) ?_
   refine bQ rfl (aD ?_)
   refine bl (⟨k.1 + 1, by omega⟩) ?_ (by show fl.length - (k.1 + 1) < fl.length - k.1; omega)
   (refine dG.mk' ?_ ?_ <;> (repeat' (first | exact aI | exact aJ | refine aB ?_ (Ty.aU _) | refine aB ?_ (Ty.aE _) | refine aB ?_ ?_)))
   all_goals skip
   all_goals exact Ty.au (CY (by assumption))
  refine aj (bX (aC (aA ?_)))
  refine cD rfl rfl (by omega) (by omega) ?_
  refine bQ rfl (aD ?_)
  refine bl (⟨k.1 + 1, by omega⟩) ?_ (by show fl.length - (k.1 + 1) < fl.length - k.1; omega)
  (refine dG.mk' ?_ ?_ <;> (repeat' (first | exact aI | exact aJ | refine aB ?_ (Ty.aU _) | refine aB ?_ (Ty.aE _) | refine aB ?_ ?_)))
  all_goals skip
  all_goals exact Ty.au (ER (by assumption))
 refine cZ (aQ (aQ (ay rfl (aC (aG (aA (bQ rfl (cE rfl (aD ?_)))))))))
 refine aC (av (bz rfl rfl ?_))
 all_goals skip
 all_goals exact bE rfl rfl (congrArg (Ty.int .i64) ((show _ = gX y fl p fl.length by rw [show k.1 = fl.length by have := k.2; omega]).trans (CZ (J4 hc1))))
set_option maxRecDepth 100000 in
theorem I4 (a b : Cm) : dy Tryz.prog 136 [Ty.agg (q8.tys a), Ty.agg (q8.tys b)] (Ty.bool (mK a b)) := by
 refine bC Tryz.func136 rfl (by decide) Tryz.ntmps136 (by exact Nat.le_of_ble_eq_true rfl) fun w0 M0 => ?_
 refine aG (aA (bM rfl (bM rfl (dw rfl (aD (aC (aG (aA ?_))))))))
 refine aZ rfl rfl rfl (by exact Nat.le_of_ble_eq_true rfl) ?_
 refine aZ rfl rfl rfl (by exact Nat.le_of_ble_eq_true rfl) ?_
 refine FG (NL a.bin a.day b.bin b.day) rfl rfl (g8 rfl ?_)
 apply aT (s := 8) rfl rfl rfl
 ·intro hg; apply aV; (refine aO rfl rfl rfl rfl rfl (by decide) ?_); refine aD ?_; exact rfl
 ·exact rfl
 ·exact rfl
 apply aT (s := 8) rfl rfl rfl
 ·intro hg; apply aR (s := 9) rfl (by (rw [hg]; rfl)); apply aV; (refine aL rfl rfl rfl rfl ?_); refine aD ?_; exact rfl
 ·exact rfl
 ·exact rfl
 apply aT (s := 8) rfl rfl rfl
 ·intro hg; apply aV; (refine aO rfl rfl rfl rfl rfl (by decide) ?_); refine aD ?_; exact rfl
 ·exact rfl
 ·exact rfl
 apply aT (s := 8) rfl rfl rfl
 ·intro hg; apply aR (s := 11) rfl (by (rw [hg]; rfl)); apply aV; (refine aL rfl rfl rfl rfl ?_); refine aD ?_; exact rfl
 ·exact rfl
 ·exact rfl
 apply aT (s := 8) rfl rfl rfl
 ·intro hg; apply aR (s := 10) rfl (by (rw [hg]; rfl)); apply aR (s := 12) rfl (by (rw [hg]; rfl)); apply aV; (refine bF rfl rfl rfl ?_); refine aD ?_; exact rfl
 ·exact rfl
 ·exact rfl
 apply aT (s := 8) rfl rfl rfl
 ·intro hg; apply aR (s := 13) rfl (by (rw [hg]; rfl)); apply aV; (refine g8 rfl ?_); refine aD ?_; exact rfl
 ·exact rfl
 ·exact rfl
 apply gw (s := 14) rfl rfl rfl
 ·intro hg1 hg2; apply aV; (refine aO rfl rfl rfl rfl rfl (by decide) ?_); refine aD ?_; exact rfl
 ·exact rfl
 ·exact rfl
 apply gw (s := 14) rfl rfl rfl
 ·intro hg1 hg2; apply aR (s := 15) rfl (by (rw [hg1, hg2]; rfl)); apply aV; (refine aL rfl rfl rfl rfl ?_); refine aD ?_; exact rfl
 ·exact rfl
 ·exact rfl
 apply gw (s := 14) rfl rfl rfl
 ·intro hg1 hg2; apply aV; (refine aO rfl rfl rfl rfl rfl (by decide) ?_); refine aD ?_; exact rfl
 ·exact rfl
 ·exact rfl
 apply gw (s := 14) rfl rfl rfl
 ·intro hg1 hg2; apply aR (s := 17) rfl (by (rw [hg1, hg2]; rfl)); apply aV; (refine aL rfl rfl rfl rfl ?_); refine aD ?_; exact rfl
 ·exact rfl
 ·exact rfl
 apply gw (s := 14) rfl rfl rfl
 ·intro hg1 hg2; apply aR (s := 16) rfl (by (rw [hg1, hg2]; rfl)); apply aR (s := 18) rfl (by (rw [hg1, hg2]; rfl)); apply aV; (refine bF rfl rfl rfl ?_); refine aD ?_; exact rfl
 ·exact rfl
 ·exact rfl
 apply gw (s := 14) rfl rfl rfl
 ·intro hg1 hg2; apply aR (s := 19) rfl (by (rw [hg1, hg2]; rfl)); apply aV; (refine g8 rfl ?_); refine aD ?_; exact rfl
 ·exact rfl
 ·exact rfl
 apply gw (s := 20) rfl rfl rfl
 ·intro hg1 hg2; apply aV; (refine aO rfl rfl rfl rfl rfl (by decide) ?_); refine aD ?_; exact rfl
 ·exact rfl
 ·exact rfl
 apply gw (s := 20) rfl rfl rfl
 ·intro hg1 hg2; apply aR (s := 21) rfl (by (rw [hg1, hg2]; rfl)); apply aV; (refine aL rfl rfl rfl rfl ?_); refine aD ?_; exact rfl
 ·exact rfl
 ·exact rfl
 apply gw (s := 20) rfl rfl rfl
 ·intro hg1 hg2; apply aV; (refine aO rfl rfl rfl rfl rfl (by decide) ?_); refine aD ?_; exact rfl
 ·exact rfl
 ·exact rfl
 apply gw (s := 20) rfl rfl rfl
 ·intro hg1 hg2; apply aR (s := 23) rfl (by (rw [hg1, hg2]; rfl)); apply aV; (refine aL rfl rfl rfl rfl ?_); refine aD ?_; exact rfl
 ·exact rfl
 ·exact rfl
 apply gw (s := 20) rfl rfl rfl
 ·intro hg1 hg2; apply aR (s := 22) rfl (by (rw [hg1, hg2]; rfl)); apply aR (s := 24) rfl (by (rw [hg1, hg2]; rfl)); apply aV; (refine bF rfl rfl rfl ?_); refine aD ?_; exact rfl
 ·exact rfl
 ·exact rfl
 apply gw (s := 14) rfl rfl rfl
 ·intro hg1 hg2; apply aR (s := 20) rfl (by (rw [hg1, hg2]; rfl)); apply w6 (s := 25) rfl (by (rw [hg1, hg2]; rfl)); apply aV; (refine eX rfl rfl ?_); refine aD ?_; exact rfl
 ·exact rfl
 ·exact rfl
 apply aT (s := 8) rfl rfl rfl
 ·intro hg; apply aR (s := 14) rfl (by (rw [hg]; rfl)); apply w6 (s := 26) rfl (by (rw [hg]; rfl)); apply aV; (refine qi rfl rfl ?_); refine aD ?_; exact rfl
 ·exact rfl
 ·exact rfl
 refine eX rfl rfl (dw rfl (aD (aC (av (bz rfl rfl ?_)))))
 all_goals skip
 all_goals exact bE rfl rfl (congrArg Ty.bool (by unfold mK; rw [My]))
set_option maxRecDepth 100000 in
theorem F6 (y : ah) (hr : y.cI) (hs : y.Small) (c : Cm) : dy Tryz.prog 134 [Ty.agg (q8.tys c), Ty.pp (bK y)] (Ty.bool (IL y c)) := by
 refine bC Tryz.func134 rfl (by decide) Tryz.ntmps134 (by exact Nat.le_of_ble_eq_true rfl) fun w0 M0 => ?_
 have h2 := hr.days
 refine aG (aA (bM rfl (dw rfl (aD (aC (aG (aA ?_)))))))
 refine aZ rfl rfl rfl (by exact Nat.le_of_ble_eq_true rfl) ?_
 refine aO rfl rfl rfl rfl rfl (by decide) ?_
 refine aL rfl rfl rfl rfl (az (EJ y hs _) rfl rfl rfl rfl rfl (g8 rfl ?_))
 apply aT (s := 8) rfl rfl rfl
 ·intro hg; apply aV; (refine aO rfl rfl rfl rfl rfl (by decide) ?_); refine aD ?_; exact rfl
 ·exact rfl
 ·exact rfl
 apply aT (s := 8) rfl rfl rfl
 ·intro hg; apply aR (s := 9) rfl (by (rw [hg]; rfl)); apply aV; (refine aL rfl rfl rfl rfl ?_); refine aD ?_; exact rfl
 ·exact rfl
 ·exact rfl
 apply aT (s := 8) rfl rfl rfl
 ·intro hg; apply aV; (refine aO rfl rfl rfl rfl rfl (by decide) ?_); refine aD ?_; exact rfl
 ·exact rfl
 ·exact rfl
 apply aT (s := 8) rfl rfl rfl
 ·intro hg; apply aR (s := 11) rfl (by (rw [hg]; rfl)); apply aV; (refine aL rfl rfl rfl rfl ?_); refine aD ?_; exact rfl
 ·exact rfl
 ·exact rfl
 apply aT (s := 8) rfl rfl rfl
 ·intro hg; apply aR (s := 12) rfl (by (rw [hg]; rfl)); apply aV; (refine iB rfl rfl (by omega) (by omega) ?_); refine aD ?_; exact rfl
 ·exact rfl
 ·exact rfl
 apply aT (s := 8) rfl rfl rfl
 ·intro hg; apply aR (s := 10) rfl (by (rw [hg]; rfl)); apply aR (s := 13) rfl (by (rw [hg]; rfl)); apply aV; (refine az (vA _ _ _) rfl rfl rfl rfl rfl ?_); refine aD ?_; exact rfl
 ·exact rfl
 ·exact rfl
 refine eX rfl rfl (dw rfl (aD (aC (av (bz rfl rfl ?_)))))
 all_goals exact cV rfl rfl
 all_goals trace_state
set_option maxRecDepth 100000 in
theorem Hj (y : ah) (hs : y.Small) (p : EP) (hl : p.cells.length ≤ 1000) : dy Tryz.prog 61 [fI y, Ty.agg (mg p)] (Ty.ju [Ty.int .i64 (tD y p), Ty.int .i64 (nN y p)]) := by
 refine bC Tryz.func61 rfl (by decide) Tryz.ntmps61 (by exact Nat.le_of_ble_eq_true rfl) fun w0 M0 => ?_
 refine aG (aA (bM rfl (bM rfl (cE rfl (cE rfl (aD (aC (aG (aG ?_)))))))))
 refine aA ?_
 refine aZ rfl rfl rfl (by exact Nat.le_of_ble_eq_true rfl) ?_
 refine az (jo y hs) rfl rfl rfl rfl rfl (cE rfl (aD (aC (aG (aA (bQ rfl (bF rfl rfl rfl (aD (aC ?_)))))))))
 refine dM rfl (fun hc1 => ?_) (fun hc1 => ?_)
 ·
  refine aG (aA (bQ rfl (cE rfl (cE rfl (aD (aC (av (aW ?_))))))))
  refine fj rfl rfl rfl ?_ ?_
  all_goals skip
  all_goals first | exact bE rfl rfl (congrArg (Ty.int .i64) (Lx hc1).1) | exact bE rfl rfl (congrArg (Ty.int .i64) (Lx hc1).2)
 refine aj (aC (aG (aG ?_)))
 have hck : bT y = 0 := hc1
 have hr := dQ hck
 refine aA ?_
 refine aO rfl rfl rfl rfl rfl (by decide) ?_
 refine aL rfl rfl rfl rfl (dP rfl ?_)
 refine az (CO p.cells (Ty.jC 134 [Ty.pp (bK y)]) rfl (IL y) rfl rfl fun c _ => dZ (F6 y hr hs c) rfl rfl rfl rfl rfl rfl) rfl rfl rfl rfl rfl ?_
 refine eE rfl (aD (aC ?_))
 refine cx rfl (fun hc2 => ?_) (fun hc2 => ?_)
 ·
  refine aG (aA (cE rfl (cE rfl (aD (aC (av (aW ?_)))))))
  refine fj rfl rfl rfl ?_ ?_
  all_goals skip
  all_goals first | exact bE rfl rfl (congrArg (Ty.int .i64) (LP hc1 (qt hc2)).1) | exact bE rfl rfl (congrArg (Ty.int .i64) (LP hc1 (qt hc2)).2)
 refine aj (aC (aG (aG ?_)))
 have hall : (p.cells.all (IL y)) = true := gA hc2
 refine aA (cE rfl (aD (aC (ak ?_))))
 refine cg (fun (i : {i : Nat // 1 ≤ i ∧ ∀ j, j + 1 < i → j + 1 < p.cells.length → mK (nth p.cells j) (nth p.cells (j + 1)) = true}) => live [(2, Ty.pp (bK y)), (3, Ty.pp (mg p)), (7, Ty.int .i64 (i.1 : Nat))] []) (fun i => p.cells.length - i.1) (⟨1, Nat.le_refl _, fun j hj => by omega⟩) ?_ fun i => ?_
 ·(refine dG.mk' ?_ ?_ <;> (repeat' (first | exact aI | exact aJ | refine aB ?_ (Ty.aU _) | refine aB ?_ (Ty.aE _))))
 have hi1 := i.2.1
 refine aG (aG (aA (bQ rfl ?_)))
 refine aO rfl rfl rfl rfl rfl (by decide) ?_
 refine aL rfl rfl rfl rfl (cY rfl rfl rfl (bF rfl rfl rfl (aD (aC ?_))))
 refine aq rfl (fun hc3 => ?_) (fun hc3 => ?_)
 ·
  refine aj (aC (aG (ak (aG (cW mixed rfl ?_)))))
  refine aO rfl rfl rfl rfl rfl (by decide) ?_
  refine aL rfl rfl rfl rfl (bQ rfl ?_)
  refine iB rfl rfl (by omega) (by omega) ?_
  refine bH (i := i.1 - 1) rfl (by exact congrArg (Ty.int .i64) (by omega : ((i.1 : Nat) : Int) - 1 = ((i.1 - 1 : Nat) : Int))) rfl rfl rfl rfl (by omega) ?_
  refine aZ rfl rfl rfl (by exact Nat.le_of_ble_eq_true rfl) ?_
  refine aO rfl rfl rfl rfl rfl (by decide) ?_
  refine aL rfl rfl rfl rfl (bQ rfl ?_)
  refine bH rfl rfl rfl rfl rfl rfl (by omega) ?_
  refine aZ rfl rfl rfl (by exact Nat.le_of_ble_eq_true rfl) ?_
  refine az (I4 _ _) rfl rfl rfl rfl rfl (eE rfl (aD ?_))
  refine ⟨by kernel_rfl, ?_⟩
  refine aC ?_
  refine cx rfl (fun hc4 => ?_) (fun hc4 => ?_)
  ·
   refine aG (aA (cE rfl (cE rfl (aD (aC (av (bJ (aW (aW ?_)))))))))
   refine bJ (aW ?_)
   refine fj rfl rfl rfl ?_ ?_
   all_goals skip
   all_goals first | exact bE rfl rfl (congrArg (Ty.int .i64) (Hp hc1 hall i.2.1 (by omega) (qt hc4)).1) | exact bE rfl rfl (congrArg (Ty.int .i64) (Hp hc1 hall i.2.1 (by omega) (qt hc4)).2)
  refine aj (bX (aC (aA (bQ rfl ?_))))
  refine cD rfl rfl (by omega) (by omega) ?_
  refine cE rfl (aD ?_)
  refine bl (⟨i.1 + 1, by omega, fun j hj hj2 => by by_cases e : j + 1 = i.1; (have := gA hc4; rwa [show i.1 - 1 = j by omega, show i.1 = j + 1 by omega] at this); exact i.2.2 j (by omega) hj2⟩) ?_ (by show p.cells.length - (i.1 + 1) < p.cells.length - i.1; omega)
  (refine dG.mk' ?_ ?_ <;> (repeat' (first | exact aI | exact aJ | refine aB ?_ (Ty.aU _) | refine aB ?_ (Ty.aE _))))
  all_goals skip
 refine cZ (aQ (aQ (ay rfl (aC (aG (cW mixed rfl ?_))))))
 refine aZ rfl rfl rfl (by exact Nat.le_of_ble_eq_true rfl) ?_
 refine az (s9) rfl rfl rfl rfl rfl ?_
 refine bk (res' := Ty.pp (sR y 2000 1000 (aP y (nth bh)).length (aP y (nth bh)).length)) [(2000, 23), (1000, 31)] [2000, 1000] [(2000, Cont.vec dx 187 (aP y (nth bh))), (1000, Cont.vec cS 3 (gl (aP y (nth bh))))] (rW y hr bh jc) rfl rfl (aH (aH bD (aN rfl rfl)) (aN rfl rfl)) pre_nil (bG (a := 2000) (b := 23) (by decide) rfl (bW (by decide) rfl) (bG (a := 1000) (b := 31) (by decide) rfl (bW (by decide) rfl) post_nil)) (fE (aH (aH (aH (aH (aH (aH bD (dj (by decide))) (dj (by decide))) (aN rfl rfl)) (aN rfl rfl)) (aN rfl rfl)) (aN rfl rfl))) ?_
 refine aZ rfl rfl rfl (by exact Nat.le_of_ble_eq_true rfl) ?_
 refine dX [2000, 1000] (Jv y hr (aP y (nth bh)) (gl (aP y (nth bh))) (j4 hr) (Ja hr) p (fun x hx => L6 (List.all_eq_true.1 hall x hx))) rfl (aM (kZ (aM (af (bI rfl rfl)) (aM (af (bI rfl rfl)) (aM (af (bI rfl rfl)) (aM (af (bI rfl rfl)) (aM (gY rfl rfl (by decide) rfl) (aM (gY rfl (DE _) (by decide) rfl) bf))))))) (aM (af (bI rfl rfl)) bf)) (by exact dL _ _) ?_
 refine cE rfl (aD ?_)
 refine ⟨by kernel_rfl, ?_⟩
 refine aC (aG (aG (aA (bQ rfl (bF rfl rfl rfl (aD (aC ?_)))))))
 refine aq rfl (fun hc5 => ?_) (fun hc5 => ?_)
 ·
  refine aG (aA (cE rfl (cE rfl (aD (aC (av (aW ?_)))))))
  refine fj rfl rfl rfl ?_ ?_
  all_goals skip
  all_goals first | exact bE rfl rfl (congrArg (Ty.int .i64) (Lq hc1 hall (fun j hj => i.2.2 j (by omega) hj) hc5).1) | exact bE rfl rfl (congrArg (Ty.int .i64) (Lq hc1 hall (fun j hj => i.2.2 j (by omega) hj) hc5).2)
 refine aj (aC (aG (aA (bQ rfl (cE rfl (cE rfl (aD (aC (av ?_)))))))))
 refine fj rfl rfl rfl ?_ ?_
 all_goals skip
 all_goals first | exact bE rfl rfl (congrArg (Ty.int .i64) (HF hc1 hall (fun j hj => i.2.2 j (by omega) hj) hc5).1) | exact bE rfl rfl (congrArg (Ty.int .i64) (HF hc1 hall (fun j hj => i.2.2 j (by omega) hj) hc5).2)
end Go.Proofs.YtelbollidfdcjaaGreat
namespace Go.Proofs.YtelbollidfdcjaaGreat
open Go Go.T
set_option maxHeartbeats 8000000
attribute [local irreducible] aP gl
attribute [local irreducible] iN fQ m5 qc ir iW ij iy iw qY iZ qW dz ga qV gG qd nth fP dh aa dy bodyPost Exit.then Exit.inBlock Code.wp Code.wpIn qh iq qb qU ia dn cU cj bodyPostM eF
set_option maxRecDepth 100000 in
theorem uC (y : ah) (hr : y.cI) (c8 : List Bool) (hc8 : c8.length = 8) : dn Tryz.prog 117 [] [] [fI y, Ty.arr jA c8] [(31, Cont.vec cS 3 (gl (aP y (nth c8))))] (Ty.pp (eL y (aP y (nth c8)) 31 (aP y (nth c8)).length)) := by
 refine rD Tryz.func117 rfl (by decide) Tryz.ntmps117 (by exact Nat.le_of_ble_eq_true rfl) fun w0 M0 => ?_
 have hfl := j4 (c := nth c8) hr
 refine aG (aA (bM rfl (uM rfl (lB rfl (aD (aC (aG (aA ?_))))))))
 refine aZ rfl rfl rfl (by exact Nat.le_of_ble_eq_true rfl) ?_
 refine dB rfl rfl (by exact List.cons_ne_nil _ _) rfl (by repeat (first | exact (aX.nil : aX _ _ [] _) | (show aX _ _ ((_, _) :: _) _; apply aX.agg; (· exact (rfl : _ = Ty.agg _))))) (by exact rfl) ?_
 refine tZ rfl rfl rfl ?_
 refine b9 rfl (by exact List.cons_ne_nil _ _) rfl ?_
 refine cq rfl rfl (by decide) rfl rfl (by exact (rfl : _ = Ty.ptr _ _)) rfl (by exact Nat.le_of_ble_eq_true rfl) rfl rfl (by exact (rfl : _ = [_])) ?_
 refine aD (aC (aG (aG (aA ?_))))
 refine aS rfl rfl (by decide) rfl rfl rfl ?_
 refine vw rfl rfl rfl (by rw [hc8]; rfl) ?_
 refine bk (res' := Ty.jC 196 [Ty.pp [Ty.ptr 10 0], Ty.pa jA c8 0]) [(10, 1000)] [] [(10, Cont.cells 185 (ES y))] (Ic y c8 hc8) rfl rfl (aH (aH bD (aN rfl rfl)) (dU (by exact List.mem_cons_self))) (b8 (a := 10) (b := 1000) (by exact List.mem_cons_self) rfl (bA (by exact List.mem_cons_self) rfl rfl rfl) pre_nil) (bG (a := 10) (b := 1000) (by exact List.mem_cons_self) rfl (bA (by exact List.mem_cons_self) rfl rfl rfl) post_nil) (tJ (aH (aH bD (aN rfl rfl)) (fE (aH bD (dU (by exact List.mem_cons_self)))))) ?_
 refine aD (aC ?_)
 refine Im (D := 10) (Tb := 185) (tys := bK y) (r := [Ty.ex (.slice none 0 0), Ty.ex (.slice none 0 0)]) rfl rfl rfl (by decide) fun vs hvs => ?_
 obtain ⟨v0, v1, v2, v3, rfl⟩ := four hvs rfl
 refine ak ?_
 refine rR (ps := [13]) (lk [(5, Ty.ptr 6 0), (9, Ty.ptr 10 0)]) (fun k => [(6, Cont.cells 152 [Ty.ptr 10 0]), (10, Cont.cells 185 [Ty.ex v0, Ty.ex v1, Ty.ex v2, Ty.ex v3, Ty.row dx 187 23 ((aP y (nth c8)).take k), Ty.row cS 3 31 ((gl (aP y (nth c8))).take k)]), (4000, Cont.fact (bK y) [v0, v1, v2, v3] rfl rfl)]) false [] [6, 10, 4000] rfl rfl ((va y hr c8 hc8 0 10 (by decide) [v0, v1, v2, v3]).1) (Bq (D := 10) (n := 36) (sd := 9) (r := fun k => [Ty.row dx 187 23 ((aP y (nth c8)).take k), Ty.row cS 3 31 ((gl (aP y (nth c8))).take k)]) (fun b => va y hr c8 hc8 b 10 (by decide) [v0, v1, v2, v3]) (by decide) (by decide) rfl (fun k => List.mem_cons_of_mem _ List.mem_cons_self) (List.mem_cons_of_mem _ (List.mem_cons_of_mem _ List.mem_cons_self))) (vM rfl) (vM rfl) (by decide) (by intro t ht; obtain ⟨x, _, rfl⟩ := List.mem_map.1 ht; exact ⟨rfl, rfl, rfl⟩) rfl rfl (fun _ => rfl) rfl ?_ ?_ ?_ (by intro h; cases h)
 ·(refine dG.mk' ?_ ?_ <;> (repeat' (first | exact aI | exact aJ | exact dS | refine aB ?_ (Ty.aU _) | refine aB ?_ (Ty.aE _) | refine aF rfl (Cont.aE _) ?_ | refine aF rfl (Cont.dV ?_) ?_ | refine bu ?_ (Ty.aE _) | refine bu ?_ Ty.kN)))
  all_goals trace_state
 ·intro k tys hk
  obtain ⟨hk1, rfl⟩ := FH hk
  refine ⟨live [(5, Ty.ptr 6 0), (6, Ty.ptr 7 0), (9, Ty.ptr 10 0)] [(6, Cont.cells 152 [Ty.ptr 10 0]), (7, Cont.cells 187 (dx.tys (nth (aP y (nth c8)) k))), (10, Cont.cells 185 [Ty.ex v0, Ty.ex v1, Ty.ex v2, Ty.ex v3, Ty.row dx 187 23 ((aP y (nth c8)).take k), Ty.row cS 3 31 ((gl (aP y (nth c8))).take k)]), (4000, Cont.fact (bK y) [v0, v1, v2, v3] rfl rfl)], fun l w M => ?_, fun l w M => ?_⟩
  ·
   refine aA ?_
   refine b9 rfl (by exact List.cons_ne_nil _ _) rfl ?_
   refine bp rfl rfl (by decide) rfl rfl rfl rfl rfl rfl ?_
   refine aD (fJ ?_)
   (refine dG.mk' ?_ ?_ <;> (repeat' (first | exact aI | exact aJ | refine aB ?_ (Ty.aU _) | refine aB ?_ (Ty.aE _) | refine aF rfl (Cont.aE _) ?_)))
  refine ak ?_
  refine vU (D := 10) (Tb := 185) (tg := 23) [Ty.ex v0, Ty.ex v1, Ty.ex v2, Ty.ex v3] rfl fun v4 => ?_
  refine vU (D := 10) (Tb := 185) (tg := 31) [Ty.ex v0, Ty.ex v1, Ty.ex v2, Ty.ex v3, Ty.ex v4] rfl fun v5 => ?_
  refine cW mixed rfl ?_
  refine aS rfl rfl (by decide) rfl rfl rfl ?_
  refine aS rfl rfl (by decide) rfl rfl rfl ?_
  refine aS rfl rfl (by decide) rfl rfl rfl ?_
  refine cM rfl ?_
  refine aK rfl rfl rfl rfl rfl (by decide) ?_
  refine aS rfl rfl (by decide) rfl rfl rfl ?_
  refine bS rfl rfl (by decide) rfl rfl (by exact Nat.le_of_ble_eq_true rfl) ?_
  refine bw (E := dx) (xs := [_]) rfl rfl rfl rfl rfl (by decide) (by decide) (by repeat (first | exact (aX.nil : aX _ _ [] _) | (show aX _ _ ((_, _) :: _) _; apply aX.agg; (· exact (rfl : _ = Ty.agg _))))) (by exact rfl) rfl ?_
  refine qP (tg := 23) rfl rfl rfl rfl (by decide) rfl rfl rfl rfl rfl rfl (by decide) (by (simp <;> omega)) (by (simp <;> omega)) rfl rfl ?_
  refine aS rfl rfl (by decide) rfl rfl rfl ?_
  refine cM rfl ?_
  refine aK rfl rfl rfl rfl rfl (by decide) ?_
  refine aS rfl rfl (by decide) rfl rfl rfl ?_
  refine aK rfl rfl rfl rfl rfl (by decide) ?_
  refine aS rfl rfl (by decide) rfl rfl rfl ?_
  refine bw (E := cS) (xs := [_]) rfl rfl rfl rfl rfl (by decide) (by decide) (by repeat (first | exact (aX.nil : aX _ _ [] _) | (show aX _ _ ((_, _) :: _) _; apply aX.one; (· exact (rfl : _ = Ty.int _ _)); (· exact rfl)))) (by exact rfl) rfl ?_
  refine qP (tg := 31) rfl rfl rfl rfl (by decide) rfl rfl rfl rfl rfl rfl (by decide) (by (simp <;> omega)) (by (simp <;> omega)) rfl rfl ?_
  refine cM rfl ?_
  refine aK rfl rfl rfl rfl rfl (by decide) ?_
  refine cq rfl rfl (by decide) rfl rfl (by exact (rfl : _ = Ty.row _ _ _ _)) rfl (by exact Nat.le_of_ble_eq_true rfl) rfl rfl (by exact rfl) ?_
  refine cM rfl ?_
  refine aK rfl rfl rfl rfl rfl (by decide) ?_
  refine cq rfl rfl (by decide) rfl rfl (by exact (rfl : _ = Ty.row _ _ _ _)) rfl (by exact Nat.le_of_ble_eq_true rfl) rfl rfl (by exact rfl) ?_
  refine aD ?_
  refine ⟨by kernel_rfl, ?_⟩
  refine bX (B1 ?_)
  (refine dG.mk' ?_ ?_ <;> (repeat' (first | exact aI | exact aJ | exact dS | refine aB ?_ (Ty.aU _) | refine aF rfl (Cont.aE _) ?_ | refine aF rfl (Cont.dV ?_) ?_ | refine bu ?_ (Ty.aE _) | refine bu ?_ ?_)))
  all_goals first | exact Ty.gL (eG hk1).symm | exact Ty.gL (E4 hk1)
 refine bX (aC (aG ?_))
 refine CI (D := 10) (Tb := 185) (vs := [v0, v1, v2, v3]) (tys := bK y) (r := [Ty.row dx 187 23 ((aP y (nth c8)).take ((aP y (nth c8)).map jq).length), Ty.row cS 3 31 ((gl (aP y (nth c8))).take ((aP y (nth c8)).map jq).length)]) rfl rfl ?_
 refine fV (tg := 10) rfl (Cont.jz (T := 185) (B4 (y := y) (fl := aP y (nth c8)) (f := jq))) ?_
 refine gW (c0 := 10) (tg := 23) 4 rfl rfl ?_
 refine gW (c0 := 10) (tg := 31) 5 rfl rfl ?_
 refine fV (tg := 10) rfl (Cont.dY (l' := sR y 23 31 (aP y (nth c8)).length (aP y (nth c8)).length) ⟨Ty.aE _, Ty.aE _, Ty.aE _, Ty.aE _, Ty.mF rfl, Ty.mF (DE _), trivial⟩) ?_
 refine iX (tg := 10) [] [(6, Cont.cells 152 [Ty.pp (sR y 23 31 (aP y (nth c8)).length (aP y (nth c8)).length)])] (by decide) rfl trivial ⟨eP rfl rfl ⟨yl rfl rfl (by decide), trivial⟩, trivial⟩ ?_
 refine iX (tg := 23) [] [(6, Cont.cells 152 [Ty.pp (eL y (aP y (nth c8)) 31 (aP y (nth c8)).length)])] (by decide) rfl trivial ⟨eP rfl rfl ⟨Bw ⟨bP rfl, bP rfl, bP rfl, bP rfl, gu rfl rfl (by decide), bP rfl, trivial⟩, trivial⟩, trivial⟩ ?_
 refine aA ?_
 refine aS rfl rfl (by decide) rfl rfl rfl ?_
 refine Kq rfl (aD (aC (av (Hl rfl ?_))))
 refine ew [31] rfl rfl (by decide) (by repeat (first | exact dR | refine c7 rfl (bW (by decide) rfl) ?_)) ?_
 all_goals skip
 all_goals exact eA (fE (aH (aH (aH (aH (aH (aH bD (dj (by decide))) (aN rfl rfl)) (aN rfl rfl)) (aN rfl rfl)) (aN rfl rfl)) (aN rfl rfl)))
end Go.Proofs.YtelbollidfdcjaaGreat
namespace Go.Proofs.YtelbollidfdcjaaGreat
open Go Go.T
theorem MO : Tryz.prog.underlying 180 = some (.array 8 4) := by kernel_rfl
theorem Mk (a0 a1 a2 a3 a4 a5 a6 a7 b0 b1 b2 b3 b4 b5 b6 b7 : Bool) (w : World) : (Op.equal 180 (.agg #[.bool a0, .bool a1, .bool a2, .bool a3, .bool a4, .bool a5, .bool a6, .bool a7]) (.agg #[.bool b0, .bool b1, .bool b2, .bool b3, .bool b4, .bool b5, .bool b6, .bool b7])).run Tryz.prog w = .ok ((decide (a0 = b0) && (decide (a1 = b1) && (decide (a2 = b2) && (decide (a3 = b3) && (decide (a4 = b4) && (decide (a5 = b5) && (decide (a6 = b6) && decide (a7 = b7))))))))) w := by
 have hs : Tryz.prog.stoodInHeld 180 = false := by kernel_rfl
 have e4 : ∀ (x y : Bool) (w : World), (Op.equalIn 9999 4 (.bool x) (.bool y)).run Tryz.prog w = .ok (decide (x = y)) w := fun x y w => by
  rw [Op.equalIn]
  simp only [Sem.run_bind, run_underlying Tryz.underlying4, Result.andThen_ok]
  rfl
 have g4 : ∀ w, (isAgg 4).run Tryz.prog w = .ok false w := fun w => by simp [isAgg, run_underlying Tryz.underlying4]
 unfold Op.equal Op.maxDepth
 rw [Op.equalIn]
 simp only [Sem.run_bind, run_underlying MO, Result.andThen_ok]
 simp [hs, part, g4, e4]
 rw [show List.range' 0 8 = [0, 1, 2, 3, 4, 5, 6, 7] from rfl]
 simp [List.forIn_cons, g4, e4]
 by_cases h0 : a0 = b0
 case neg => simp [h0]
 rw [if_pos h0]
 by_cases h1 : a1 = b1
 case neg => simp [h1]
 rw [if_pos h1]
 by_cases h2 : a2 = b2
 case neg => simp [h2]
 rw [if_pos h2]
 by_cases h3 : a3 = b3
 case neg => simp [h3]
 rw [if_pos h3]
 by_cases h4 : a4 = b4
 case neg => simp [h4]
 rw [if_pos h4]
 by_cases h5 : a5 = b5
 case neg => simp [h5]
 rw [if_pos h5]
 by_cases h6 : a6 = b6
 case neg => simp [h6]
 rw [if_pos h6]
 by_cases h7 : a7 = b7
 case neg => simp [h7]
 rw [if_pos h7]
 simp [h0, h1, h2, h3, h4, h5, h6, h7]
theorem IC (xs ys : List Bool) (hx : xs.length = 8) (hy : ys.length = 8) : LX Tryz.prog 180 (xs.flatMap jA.tys) (ys.flatMap jA.tys) (decide (xs = ys)) := by
  match xs, ys, hx, hy with
  | [a0, a1, a2, a3, a4, a5, a6, a7], [b0, b1, b2, b3, b4, b5, b6, b7], _, _ =>
    refine ⟨by kernel_rfl, fun w M cs ds h1 h2 => ?_⟩
    obtain ⟨cs⟩ := cs
    obtain ⟨ds⟩ := ds
    match cs, ds, h1, h2 with
    | [u0, u1, u2, u3, u4, u5, u6, u7], [v0, v1, v2, v3, v4, v5, v6, v7], h1, h2 =>
      change cK w M [Ty.bool a0, Ty.bool a1, Ty.bool a2, Ty.bool a3, Ty.bool a4, Ty.bool a5, Ty.bool a6, Ty.bool a7] _ at h1
      change cK w M [Ty.bool b0, Ty.bool b1, Ty.bool b2, Ty.bool b3, Ty.bool b4, Ty.bool b5, Ty.bool b6, Ty.bool b7] _ at h2
      obtain ⟨e0, e1, e2, e3, e4, e5, e6, e7, _⟩ := h1
      obtain ⟨f0, f1, f2, f3, f4, f5, f6, f7, _⟩ := h2
      cases e0; cases e1; cases e2; cases e3; cases e4; cases e5; cases e6; cases e7
      cases f0; cases f1; cases f2; cases f3; cases f4; cases f5; cases f6; cases f7
      rw [Mk]
      congr 1
      simp only [List.cons.injEq, and_true, Bool.decide_and]
end Go.Proofs.YtelbollidfdcjaaGreat
namespace Go.T
open Go Go.RowKit
section
variable {P : Program} {fr : Fr} {ops : Array Oper} {A : As} {rest : List Oper} {K : As → List (As × Fx) → Prop} {d : Nat} {t ty' ty2 : TypeId} {p : String} {e : Array Edge}
theorem AM {α : Type} [Inhabited α] {E : El α} {xs ys : List α} {x y : Operand} {c : Bool} (hE : LX P ty' (xs.flatMap E.tys) (ys.flatMap E.tys) c) (hx : A.op fr x = .arr E xs) (hy : A.op fr y = .arr E ys)
 (h : aa P fr ops rest (A.set d (.bool (!c))) fun A' l' => K A' ((A, { d := some d, ty := .bool (!c), rs := cF x ++ cF y }) :: l')) : aa P fr ops (⟨some d, .binOp .neq ty' x y ty2, t, p, e, none⟩ :: rest) A K :=
 bN (bV rfl rfl fun a w M _ hrd _ => by
  have _ := (inferInstance : Inhabited α)
  obtain ⟨hdx, hdy⟩ := op2 hrd
  rw [hx] at hdx; rw [hy] at hdy
  obtain ⟨cs, ex, h1⟩ := hdx
  obtain ⟨ds, ey, h2⟩ := hdy
  exact ⟨.bool (!c), by simp only [execOp, ex, ey]; simp [eqGuard, hE.1, binOp, hE.2 w M cs ds h1 h2], rfl⟩) h
end
end Go.T
namespace Go.Proofs.YtelbollidfdcjaaGreat
open Go Go.T
set_option maxHeartbeats 16000000
def I3 (l : List Int) (x : Int) : Int := fidx (fun y => decide (x = y)) l
theorem zu (l : List Int) (x : Int) : decide (I3 l x ≥ 0) = decide (x ∈ l) := by
 unfold I3
 rw [qL]
 rw [Bool.eq_iff_iff]; simp
def jF (l : List Int) (o : Bool) (i : Nat) : Bool := !(decide ((i : Int) ∈ l) == o)
def iK (l : List Int) (o : Bool) (k : Nat) : List Bool := (List.range k).map (jF l o) ++ List.replicate (8 - k) false
def bq (l : List Int) (o : Bool) : List Bool := (List.range 8).map (jF l o)
noncomputable def dH (y : ah) (c : List Bool) : Bool := !(cm (aP y (nth c)) (y.cells + 1) (gl (aP y (nth c)))).2.1
section
variable {y : ah} {l : List Int} {o : Bool} {k : Nat}
theorem AS (h : k ≤ 8) : (iK l o k).length = 8 := by unfold iK; rw [List.length_append, List.length_map, List.length_range, List.length_replicate]; omega
theorem DH : (bq l o).length = 8 := by unfold bq; rw [List.length_map, List.length_range]
theorem x7 : List.replicate 8 false = iK l o 0 := rfl
theorem Ad : iK l o 8 = bq l o := List.append_nil _
theorem yH (h : k < 8) : (iK l o k).set k (!(decide ((k : Int) ∈ l) == o)) = iK l o (k + 1) := by
 unfold iK
 have e : ((List.range k).map (jF l o)).length = k := by rw [List.length_map, List.length_range]
 rw [List.set_append_right _ _ (by omega), e, Nat.sub_self, show 8 - k = (8 - (k + 1)) + 1 by omega, List.replicate_succ, List.set_cons_zero, List.range_succ, List.map_append, List.append_assoc]; rfl
theorem AO {xs ys : List Bool} {b : Bool} (hx : xs.length = 8) (hy : ys.length = 8) (h : decide (xs = ys) = b) : LX Tryz.prog 180 (xs.flatMap jA.tys) (ys.flatMap jA.tys) b := h ▸ IC xs ys hx hy
theorem Np (h : decide (bq l o = bh) = true) (h2 : (!(cm (aP y (nth bh)) (y.cells + 1) (gl (aP y (nth bh)))).2.1) = true) : true = dH y (bq l o) := by rw [of_decide_eq_true h]; exact h2.symm
theorem Na (h : decide (bq l o = bh) = true) (h2 : (!(cm (aP y (nth bh)) (y.cells + 1) (gl (aP y (nth bh)))).2.1) = false) : false = dH y (bq l o) := by rw [of_decide_eq_true h]; exact h2.symm
theorem Lf (y : ah) (c : List Bool) : (!(cm (aP y (nth c)) (y.cells + 1) (gl (aP y (nth c)))).2.1) = dH y c := rfl
end
attribute [local irreducible] aP gl Way.gq Way.fin Way.room eW eH fB gR over bO cO dc eY jr fC gr kX cm gK fk fo dF cJ gU pR iY iz jM gj Cn yL iJ ah.kept ah.cells bT eO bh gJ kS cN pS qX jY eV k6 nQ hasB tF sY q6 r5 ot kT nZ k5 xx gX jd HI Gc rS dH bq iK
attribute [local irreducible] iN fQ m5 qc ir iW ij iy iw qY iZ qW dz ga qV gG qd nth fP dh aa dy bodyPost Exit.then Exit.inBlock Code.wp Code.wpIn qh iq qb qU ia dn cU cj bodyPostM eF
set_option maxRecDepth 100000 in
theorem Ch (l : List Int) (x : Int) : dy Tryz.prog 140 [Ty.sl cS l, Ty.int .i64 x] (Ty.int .i64 (I3 l x)) := by
 refine bC Tryz.func140 rfl (by decide) Tryz.ntmps140 (by exact Nat.le_of_ble_eq_true rfl) fun w0 M0 => ?_
 refine j6 (s := 0) rfl rfl kI fun hl => ?_
 refine aG (aA (cE rfl (aD (aC (aG (aG (aA (fU rfl (cY rfl rfl rfl ?_)))))))))
 refine bQ rfl (aD (aC (ak ?_)))
 refine cg (fun (k : {k : Nat // ∀ y ∈ l.take k, decide (x = y) = false}) => live [(0, Ty.sl cS l), (1, Ty.int .i64 x), (7, Ty.int .i64 l.length), (8, Ty.int .i64 (k.1 : Nat))] []) (fun k => l.length - k.1) (⟨0, by simp⟩) ?_ fun k => ?_
 ·(refine dG.mk' ?_ ?_ <;> (repeat' (first | exact aI | exact aJ | refine aB ?_ (Ty.aU _) | refine aB ?_ (Ty.aE _))))
 refine aG (aA (bF rfl rfl rfl (aD (aC (aG ?_)))))
 refine aq rfl (fun hc1 => ?_) (fun hc1 => ?_)
 ·
  refine aj (aC (aG (ak (aG (aA (bQ rfl (cE rfl (aD (aC ?_)))))))))
  refine aG (aA (bQ rfl (fU rfl (bQ rfl ?_))))
  refine bH rfl rfl rfl rfl rfl rfl (by omega) ?_
  refine aL rfl rfl rfl rfl (bF rfl rfl rfl (aD (aC ?_)))
  refine aq rfl (fun hc2 => ?_) (fun hc2 => ?_)
  ·
   refine aG (aA (bQ rfl (cE rfl (aD (aC (av (bJ (aW (aW ?_)))))))))
   refine bJ (aW (bz rfl rfl ?_))
   all_goals skip
   exact bE rfl rfl (congrArg (Ty.int .i64) (by unfold I3; rw [gp (k := k.1) (by omega) k.2 (by rw [← g9]; exact decide_eq_true hc2)]))
  refine aj (bX (aC (aA ?_)))
  refine cD rfl rfl (by omega) (by omega) ?_
  refine bQ rfl (aD ?_)
  refine bl (⟨k.1 + 1, by rw [eG (by omega)]; intro y hy; rcases List.mem_append.1 hy with h | h; exact k.2 y h; rw [List.mem_singleton.1 h]; exact decide_eq_false hc2⟩) ?_ (by show l.length - (k.1 + 1) < l.length - k.1; omega)
  (refine dG.mk' ?_ ?_ <;> (repeat' (first | exact aI | exact aJ | refine aB ?_ (Ty.aU _) | refine aB ?_ (Ty.aE _))))
  all_goals skip
 refine cZ (aQ (aQ (ay rfl (aC (aG (aA (cE rfl (aD (aC ?_)))))))))
 refine av (bz rfl rfl ?_)
 all_goals skip
 exact bE rfl rfl (congrArg (Ty.int .i64) (by unfold I3; rw [iO (by have := k.2; rwa [List.take_of_length_le (by omega)] at this)]))
set_option maxRecDepth 100000 in
theorem xB (l : List Int) (x : Int) : dy Tryz.prog 65 [Ty.sl cS l, Ty.int .i64 x] (Ty.bool (decide (x ∈ l))) := by
 refine bC Tryz.func65 rfl (by decide) Tryz.ntmps65 (by exact Nat.le_of_ble_eq_true rfl) fun w0 M0 => ?_
 refine aG (aA (dw rfl (aD (aC (aG (aA (fU rfl (bQ rfl (az (Ch l x) rfl rfl rfl rfl rfl ?_)))))))))
 refine bF rfl rfl rfl (dw rfl (aD (aC (av (bz rfl rfl ?_)))))
 all_goals skip
 exact bE rfl rfl (congrArg Ty.bool (zu l x))
set_option maxRecDepth 100000 in
theorem Bp (y : ah) (hr : y.cI) (l : List Int) (o : Bool) : dy Tryz.prog 112 [fI y, Ty.sl cS l, Ty.bool o] (Ty.bool (dH y (bq l o))) := by
 refine bC Tryz.func112 rfl (by decide) Tryz.ntmps112 (by exact Nat.le_of_ble_eq_true rfl) fun w0 M0 => ?_
 refine aG (aA (bM rfl (dw rfl (aD (aC (aG (aA ?_)))))))
 refine Ce (E := jA) (xs := List.replicate 8 false) rfl (by exact List.cons_ne_nil _ _) rfl rfl ?_
 refine aD (aC (aG (aG (aA (bQ rfl (aD (aC (ak ?_))))))))
 refine cg (fun (k : {k : Nat // k ≤ 8}) => live [(1, Ty.sl cS l), (2, Ty.bool o), (3, Ty.pp (bK y)), (7, Ty.ptr 8 0), (9, Ty.int .i64 (k.1 : Nat))] [(8, Cont.vec jA 180 (iK l o k.1))]) (fun k => 8 - k.1) (⟨0, by omega⟩) ?_ fun k => ?_
 ·(refine dG.mk' ?_ ?_ <;> (repeat' (first | exact aI | exact aJ | refine aB ?_ (Ty.aU _) | refine aB ?_ (Ty.aE _) | refine aF rfl ?_ ?_)))
  all_goals exact Cont.dW x7
 have hkl := AS (l := l) (o := o) k.2
 refine aG (aA (bF rfl rfl rfl (aD (aC (aG ?_)))))
 refine aq rfl (fun hc1 => ?_) (fun hc1 => ?_)
 ·
  refine aj (aC (aG (ak (aG (aA (bQ rfl (cE rfl (aD (aC ?_)))))))))
  refine aA (bQ rfl (fU rfl (bQ rfl (az (xB _ _) rfl rfl rfl rfl rfl (g8 rfl (EX Ns rfl rfl ?_))))))
  refine sw (n := 8) rfl rfl rfl rfl rfl (by omega) (by omega) ?_
  refine sC rfl rfl rfl (by decide) rfl rfl (by exact (rfl : _ = Ty.bool _)) rfl (by omega) (by decide) rfl rfl ?_
  refine aD (bX (aC (aA ?_)))
  refine cD rfl rfl (by omega) (by omega) ?_
  refine bQ rfl (aD ?_)
  refine bl (⟨k.1 + 1, by omega⟩) ?_ (by show 8 - (k.1 + 1) < 8 - k.1; omega)
  (refine dG.mk' ?_ ?_ <;> (repeat' (first | exact aI | exact aJ | refine aB ?_ (Ty.aU _) | refine aB ?_ (Ty.aE _) | refine aF rfl ?_ ?_)))
  all_goals skip
  all_goals exact Cont.dW (yH (by omega))
 refine cZ (aQ (aQ (ay rfl (aC (aG ?_)))))
 obtain ⟨k, hk⟩ := k
 obtain rfl : k = 8 := by have h1 : ¬ (k : Int) < 8 := hc1; have h2 : k ≤ 8 := hk; omega
 refine fV (tg := 8) rfl (Cont.dW Ad) ?_
 have hcl : (bq l o).length = 8 := DH
 refine cW mixed rfl ?_
 refine iI rfl rfl (by decide) rfl rfl (by rw [hcl]; rfl) (fun e => by rw [e] at hcl; cases hcl) ?_
 refine az (s9) rfl rfl rfl rfl rfl (L7 (IC _ _ hcl jc) rfl rfl ?_)
 cases hsp : (decide ((bq l o) = bh))
 ·
  refine g8 rfl (nM rfl rfl rfl rfl (nM rfl rfl rfl rfl (nM rfl rfl rfl rfl (nM rfl rfl rfl rfl (FL rfl ?_)))))
  cases hsp : (!(cm (aP y (nth bh)) (y.cells + 1) (gl (aP y (nth bh)))).2.1)
  ·
   refine g8 rfl ?_
   (refine j8 rfl rfl rfl (by apply aV; (refine iI rfl rfl (by decide) rfl rfl (by rw [hcl]; rfl) (fun e => by rw [e] at hcl; cases hcl) ?_); refine aD ?_; exact rfl) ?_)
   (refine j8 rfl rfl rfl (by apply aV; (refine az (s9) rfl rfl rfl rfl rfl ?_); refine aD ?_; exact rfl) ?_)
   (refine j8 rfl rfl rfl (by apply aV; (refine AM (AO hcl jc (by assumption)) rfl rfl ?_); refine aD ?_; exact rfl) ?_)
   (refine j8 rfl rfl rfl (by apply aV; (refine g8 rfl ?_); refine aD ?_; exact rfl) ?_)
   (refine j8 rfl rfl rfl (by apply aV; (refine aZ rfl rfl rfl (by exact Nat.le_of_ble_eq_true rfl) ?_); refine aD ?_; exact rfl) ?_)
   (refine j8 rfl rfl rfl (by apply aV; (refine iI rfl rfl (by decide) rfl rfl (by rw [hcl]; rfl) (fun e => by rw [e] at hcl; cases hcl) ?_); refine aD ?_; exact rfl) ?_)
   (refine j8 rfl rfl rfl (by apply aV; (refine bk (res' := Ty.pp (eL y (aP y (nth (bq l o))) 1000 (aP y (nth (bq l o))).length)) [(1000, 31)] [1000] [(1000, Cont.vec cS 3 (gl (aP y (nth (bq l o)))))] (uC y hr (bq l o) hcl) rfl rfl (aH (aH bD (aN rfl rfl)) (aN rfl rfl)) pre_nil (bG (a := 1000) (b := 31) (by decide) rfl (bW (by decide) rfl) post_nil) (fE (aH (aH (aH (aH (aH (aH bD (dj (by decide))) (aN rfl rfl)) (aN rfl rfl)) (aN rfl rfl)) (aN rfl rfl)) (aN rfl rfl))) ?_); refine aD ?_; exact rfl) ?_)
   (refine j8 rfl rfl rfl (by apply aV; (refine bk [(1000, 1000)] [] [(1000, Cont.vec cS 3 (cm (aP y (nth (bq l o))) (y.cells + 1) (gl (aP y (nth (bq l o))))).2.2)] (nG y (aP y (nth (bq l o))) (gl (aP y (nth (bq l o)))) (lf hr)) rfl rfl (aH bD (fE (aH (aH (aH (aH (aH (aH bD (dj (by exact List.mem_cons_self))) (aN rfl rfl)) (aN rfl rfl)) (aN rfl rfl)) (aN rfl rfl)) (aN rfl rfl)))) (b8 (a := 1000) (b := 1000) (by exact List.mem_cons_self) rfl (bW (by exact List.mem_cons_self) rfl) pre_nil) (bG (a := 1000) (b := 1000) (by decide) rfl (bW (by decide) rfl) post_nil) (aN rfl rfl) ?_); refine aD ?_; exact rfl) ?_)
   (refine j8 rfl rfl rfl (by apply aV; (refine zl rfl rfl ?_); refine aD ?_; exact rfl) ?_)
   refine zn rfl rfl (dw rfl (aD ?_))
   refine ⟨by kernel_rfl, ?_⟩
   refine aC (av (bz rfl rfl ?_))
   all_goals skip
   all_goals exact bE rfl rfl (congrArg Ty.bool (Lf y _))
  refine g8 rfl ?_
  (refine j8 rfl rfl rfl (by apply aV; (refine iI rfl rfl (by decide) rfl rfl (by rw [hcl]; rfl) (fun e => by rw [e] at hcl; cases hcl) ?_); refine aD ?_; exact rfl) ?_)
  (refine j8 rfl rfl rfl (by apply aV; (refine az (s9) rfl rfl rfl rfl rfl ?_); refine aD ?_; exact rfl) ?_)
  (refine j8 rfl rfl rfl (by apply aV; (refine AM (AO hcl jc (by assumption)) rfl rfl ?_); refine aD ?_; exact rfl) ?_)
  (refine j8 rfl rfl rfl (by apply aV; (refine g8 rfl ?_); refine aD ?_; exact rfl) ?_)
  (refine j8 rfl rfl rfl (by apply aV; (refine aZ rfl rfl rfl (by exact Nat.le_of_ble_eq_true rfl) ?_); refine aD ?_; exact rfl) ?_)
  (refine j8 rfl rfl rfl (by apply aV; (refine iI rfl rfl (by decide) rfl rfl (by rw [hcl]; rfl) (fun e => by rw [e] at hcl; cases hcl) ?_); refine aD ?_; exact rfl) ?_)
  (refine j8 rfl rfl rfl (by apply aV; (refine bk (res' := Ty.pp (eL y (aP y (nth (bq l o))) 1000 (aP y (nth (bq l o))).length)) [(1000, 31)] [1000] [(1000, Cont.vec cS 3 (gl (aP y (nth (bq l o)))))] (uC y hr (bq l o) hcl) rfl rfl (aH (aH bD (aN rfl rfl)) (aN rfl rfl)) pre_nil (bG (a := 1000) (b := 31) (by decide) rfl (bW (by decide) rfl) post_nil) (fE (aH (aH (aH (aH (aH (aH bD (dj (by decide))) (aN rfl rfl)) (aN rfl rfl)) (aN rfl rfl)) (aN rfl rfl)) (aN rfl rfl))) ?_); refine aD ?_; exact rfl) ?_)
  (refine j8 rfl rfl rfl (by apply aV; (refine bk [(1000, 1000)] [] [(1000, Cont.vec cS 3 (cm (aP y (nth (bq l o))) (y.cells + 1) (gl (aP y (nth (bq l o))))).2.2)] (nG y (aP y (nth (bq l o))) (gl (aP y (nth (bq l o)))) (lf hr)) rfl rfl (aH bD (fE (aH (aH (aH (aH (aH (aH bD (dj (by exact List.mem_cons_self))) (aN rfl rfl)) (aN rfl rfl)) (aN rfl rfl)) (aN rfl rfl)) (aN rfl rfl)))) (b8 (a := 1000) (b := 1000) (by exact List.mem_cons_self) rfl (bW (by exact List.mem_cons_self) rfl) pre_nil) (bG (a := 1000) (b := 1000) (by decide) rfl (bW (by decide) rfl) post_nil) (aN rfl rfl) ?_); refine aD ?_; exact rfl) ?_)
  (refine j8 rfl rfl rfl (by apply aV; (refine zl rfl rfl ?_); refine aD ?_; exact rfl) ?_)
  refine zn rfl rfl (dw rfl (aD ?_))
  refine ⟨by kernel_rfl, ?_⟩
  refine aC (av (bz rfl rfl ?_))
  all_goals skip
  all_goals exact bE rfl rfl (congrArg Ty.bool (Lf y _))
 refine g8 rfl ?_
 (refine j8 rfl rfl rfl (by apply aV; (refine aZ rfl rfl rfl (by exact Nat.le_of_ble_eq_true rfl) ?_); refine aD ?_; exact rfl) ?_)
 (refine j8 rfl rfl rfl (by apply aV; (refine az (s9) rfl rfl rfl rfl rfl ?_); refine aD ?_; exact rfl) ?_)
 (refine j8 rfl rfl rfl (by apply aV; (refine bk (res' := Ty.pp (eL y (aP y (nth bh)) 1000 (aP y (nth bh)).length)) [(1000, 31)] [1000] [(1000, Cont.vec cS 3 (gl (aP y (nth bh))))] (uC y hr bh jc) rfl rfl (aH (aH bD (aN rfl rfl)) (aN rfl rfl)) pre_nil (bG (a := 1000) (b := 31) (by decide) rfl (bW (by decide) rfl) post_nil) (fE (aH (aH (aH (aH (aH (aH bD (dj (by decide))) (aN rfl rfl)) (aN rfl rfl)) (aN rfl rfl)) (aN rfl rfl)) (aN rfl rfl))) ?_); refine aD ?_; exact rfl) ?_)
 (refine j8 rfl rfl rfl (by apply aV; (refine bk [(1000, 1000)] [] [(1000, Cont.vec cS 3 (cm (aP y (nth bh)) (y.cells + 1) (gl (aP y (nth bh)))).2.2)] (nG y (aP y (nth bh)) (gl (aP y (nth bh))) (lf hr)) rfl rfl (aH bD (fE (aH (aH (aH (aH (aH (aH bD (dj (by exact List.mem_cons_self))) (aN rfl rfl)) (aN rfl rfl)) (aN rfl rfl)) (aN rfl rfl)) (aN rfl rfl)))) (b8 (a := 1000) (b := 1000) (by exact List.mem_cons_self) rfl (bW (by exact List.mem_cons_self) rfl) pre_nil) (bG (a := 1000) (b := 1000) (by decide) rfl (bW (by decide) rfl) post_nil) (aN rfl rfl) ?_); refine aD ?_; exact rfl) ?_)
 refine zl rfl rfl ?_
 cases hsp : (!(cm (aP y (nth bh)) (y.cells + 1) (gl (aP y (nth bh)))).2.1)
 ·
  refine g8 rfl ?_
  (refine j8 rfl rfl rfl (by apply aV; (refine iI rfl rfl (by decide) rfl rfl (by rw [hcl]; rfl) (fun e => by rw [e] at hcl; cases hcl) ?_); refine aD ?_; exact rfl) ?_)
  (refine j8 rfl rfl rfl (by apply aV; (refine az (s9) rfl rfl rfl rfl rfl ?_); refine aD ?_; exact rfl) ?_)
  (refine j8 rfl rfl rfl (by apply aV; (refine AM (AO hcl jc (by assumption)) rfl rfl ?_); refine aD ?_; exact rfl) ?_)
  (refine j8 rfl rfl rfl (by apply aV; (refine g8 rfl ?_); refine aD ?_; exact rfl) ?_)
  refine nM rfl rfl rfl rfl (nM rfl rfl rfl rfl (nM rfl rfl rfl rfl (nM rfl rfl rfl rfl ?_)))
  (refine j8 rfl rfl rfl (by apply aV; (refine FL rfl ?_); refine aD ?_; exact rfl) ?_)
  refine zn rfl rfl (dw rfl (aD ?_))
  refine ⟨by kernel_rfl, ?_⟩
  refine aC (av (bz rfl rfl ?_))
  all_goals skip
  all_goals exact bE rfl rfl (congrArg Ty.bool (Na (by assumption) (by assumption)))
 refine g8 rfl (nM rfl rfl rfl rfl (nM rfl rfl rfl rfl (nM rfl rfl rfl rfl (nM rfl rfl rfl rfl (Ai rfl rfl rfl (Ai rfl rfl rfl (Ai rfl rfl rfl (Ai rfl rfl rfl (nM rfl rfl rfl rfl ?_)))))))))
 refine LC rfl (dw rfl (aD ?_))
 refine ⟨by kernel_rfl, ?_⟩
 refine aC (av (bz rfl rfl ?_))
 all_goals skip
 all_goals exact bE rfl rfl (congrArg Ty.bool (Np (by assumption) (by assumption)))
end Go.Proofs.YtelbollidfdcjaaGreat
namespace Go.Proofs.YtelbollidfdcjaaGreat
open Go Go.T
set_option maxHeartbeats 16000000
def N3 (y : ah) (i : Int) : Bool := decide (i ≥ 0) && decide (i ≤ (y.levels.length : Int) - 1)
def Jg (y : ah) (l : List Int) : Int := if bT y = 0 then (if (l.all (N3 y)) = true then (if l.Nodup then 0 else 5) else 1) else bT y
noncomputable def Lp (y : ah) (l : List Int) : Bool := if Jg y l = 0 then dH y (bq l false) else false
section
variable {y : ah} {l : List Int} {i : Nat}
theorem DQ {α : Type} {l : List α} {x : α} (h : l.Nodup) (hx : x ∉ l) : (l ++ [x]).Nodup := by
 rw [List.nodup_append]
 refine ⟨h, List.nodup_cons.2 ⟨List.not_mem_nil, List.nodup_nil⟩, fun a ha b hb e => ?_⟩
 rw [List.mem_singleton] at hb
 subst hb; subst e; exact hx ha
theorem Oi (h : bT y = 0) (h2 : (l.all (N3 y)) = true) (h3 : l.Nodup) : 0 = Jg y l ∧ dH y (bq l false) = Lp y l := by
 have e : 0 = Jg y l := by unfold Jg; rw [if_pos h, if_pos h2, if_pos h3]
 exact ⟨e, by unfold Lp; rw [← e]; rfl⟩
end
attribute [local irreducible] aP gl Way.gq Way.fin Way.room eW eH fB gR over bO cO dc eY jr fC gr kX cm gK fk fo dF cJ gU pR iY iz jM gj Cn yL iJ ah.kept ah.cells bT eO bh gJ kS cN pS qX jY eV k6 nQ hasB tF sY q6 r5 ot kT nZ k5 xx gX jd HI Gc rS dH bq iK N3 Jg Lp
attribute [local irreducible] iN fQ m5 qc ir iW ij iy iw qY iZ qW dz ga qV gG qd nth fP dh aa dy bodyPost Exit.then Exit.inBlock Code.wp Code.wpIn qh iq qb qU ia dn cU cj bodyPostM eF
end Go.Proofs.YtelbollidfdcjaaGreat
namespace Go.Proofs.YtelbollidfdcjaaGreat
open Go Go.T
def mq (h : List Int → Bool) (many : Nat) : Nat → List Int → Nat → List Int → Bool × List Int
  | 0, _, _, o => (false, o)
  | d + 1, l, i, o =>
    if (if (l ++ [(i : Int)]).length = many then (h (l ++ [(i : Int)]), l ++ [(i : Int)]) else mq h many d (l ++ [(i : Int)]) (i + 1) o).1 = true then (if (l ++ [(i : Int)]).length = many then (h (l ++ [(i : Int)]), l ++ [(i : Int)]) else mq h many d (l ++ [(i : Int)]) (i + 1) o)
    else mq h many d l (i + 1) (if (l ++ [(i : Int)]).length = many then (h (l ++ [(i : Int)]), l ++ [(i : Int)]) else mq h many d (l ++ [(i : Int)]) (i + 1) o).2
def uh (h : List Int → Bool) (many lim : Nat) (l : List Int) (i : Nat) (o : List Int) : Bool × List Int := if l.length = many then (h l, l) else mq h many (lim - i) l i o
def wB (many : Nat) : Nat → List Int → Nat → List (List Int)
  | 0, _, _ => []
  | d + 1, l, i => (if (l ++ [(i : Int)]).length = many then [l ++ [(i : Int)]] else wB many d (l ++ [(i : Int)]) (i + 1)) ++ wB many d l (i + 1)
def Ao (many lim : Nat) : List (List Int) := if many = 0 then [[]] else wB many lim [] 0
def fT (h : List Int → Bool) (lim : Nat) : Option (List Int) := ((List.range (lim + 1)).flatMap fun k => Ao k lim).find? h
section
variable {h : List Int → Bool} {many lim d i k : Nat} {l o : List Int}
theorem Br (hi : i < lim) : mq h many (lim - i) l i o = if (uh h many lim (l ++ [(i : Int)]) (i + 1) o).1 = true then uh h many lim (l ++ [(i : Int)]) (i + 1) o else mq h many (lim - (i + 1)) l (i + 1) (uh h many lim (l ++ [(i : Int)]) (i + 1) o).2 := by
 rw [show lim - i = (lim - (i + 1)) + 1 by omega]; rfl
theorem KQ (hi : ¬ i < lim) : mq h many (lim - i) l i o = (false, o) := by rw [show lim - i = 0 by omega]; rfl
theorem go_eq (e : l.length = many) : uh h many lim l i o = (h l, l) := if_pos e
theorem Lj (e : ¬ l.length = many) : uh h many lim l i o = mq h many (lim - i) l i o := if_neg e
theorem AT : ∀ (d : Nat) (l : List Int) (i : Nat) (o : List Int), (mq h many d l i o).1 = (wB many d l i).any h ∧ ((mq h many d l i o).1 = true → (wB many d l i).find? h = some (mq h many d l i o).2)
  | 0, _, _, _ => ⟨rfl, fun e => by cases e⟩
  | d + 1, l, i, o => by
    have key : ∀ o, (if (l ++ [(i : Int)]).length = many then (h (l ++ [(i : Int)]), l ++ [(i : Int)]) else mq h many d (l ++ [(i : Int)]) (i + 1) o).1 = (if (l ++ [(i : Int)]).length = many then [l ++ [(i : Int)]] else wB many d (l ++ [(i : Int)]) (i + 1)).any h ∧ ((if (l ++ [(i : Int)]).length = many then (h (l ++ [(i : Int)]), l ++ [(i : Int)]) else mq h many d (l ++ [(i : Int)]) (i + 1) o).1 = true → (if (l ++ [(i : Int)]).length = many then [l ++ [(i : Int)]] else wB many d (l ++ [(i : Int)]) (i + 1)).find? h = some (if (l ++ [(i : Int)]).length = many then (h (l ++ [(i : Int)]), l ++ [(i : Int)]) else mq h many d (l ++ [(i : Int)]) (i + 1) o).2) := by
      intro o
      by_cases e : (l ++ [(i : Int)]).length = many
      · rw [if_pos e, if_pos e]
        refine ⟨by simp, fun h1 => ?_⟩
        have h1 : h (l ++ [(i : Int)]) = true := h1
        rw [List.find?_cons, h1]
      · rw [if_neg e, if_neg e]
        exact AT d _ _ o
    unfold mq wB
    generalize (if (l ++ [(i : Int)]).length = many then [l ++ [(i : Int)]] else wB many d (l ++ [(i : Int)]) (i + 1)) = C at key ⊢
    obtain ⟨k1, k2⟩ := key o
    generalize (if (l ++ [(i : Int)]).length = many then (h (l ++ [(i : Int)]), l ++ [(i : Int)]) else mq h many d (l ++ [(i : Int)]) (i + 1) o) = r at k1 k2 ⊢
    rw [List.any_append, List.find?_append]
    cases e : r.1 with
    | true =>
      rw [if_pos rfl]
      refine ⟨by rw [e, ← k1, e]; rfl, fun _ => by rw [k2 e]; rfl⟩
    | false =>
      rw [if_neg (by decide)]
      obtain ⟨j1, j2⟩ := AT d l (i + 1) r.2
      have hn : C.find? h = none := by
        rw [List.find?_eq_none]
        intro x hx h1
        have : C.any h = true := List.any_eq_true.2 ⟨x, hx, h1⟩
        rw [← k1, e] at this; cases this
      refine ⟨by rw [j1, ← k1, e, Bool.false_or], fun h1 => by rw [hn, j2 h1]; rfl⟩
theorem JH : (uh h many lim [] 0 o).1 = (Ao many lim).any h ∧ ((uh h many lim [] 0 o).1 = true → (Ao many lim).find? h = some (uh h many lim [] 0 o).2) := by
 unfold uh Ao
 by_cases e : many = 0
 ·rw [if_pos (show ([] : List Int).length = many from e.symm), if_pos e]
  refine ⟨by simp, fun h1 => ?_⟩
  have h1 : h [] = true := h1
  rw [List.find?_cons, h1]
 rw [if_neg (show ¬ ([] : List Int).length = many from fun h => e h.symm), if_neg e, Nat.sub_zero]
 exact AT _ _ _ _
theorem Gi {C : List (List Int)} (h1 : C.any h = false) : C.find? h = none := by
 rw [List.find?_eq_none]
 intro x hx h2
 have : C.any h = true := List.any_eq_true.2 ⟨x, hx, h2⟩
 rw [h1] at this; cases this
def qm (h : List Int → Bool) (lim k : Nat) : Prop := ((List.range k).flatMap fun k => Ao k lim).find? h = none
theorem Fl : qm h lim 0 := rfl
theorem FT (h0 : qm h lim k) (h1 : (uh h k lim [] 0 []).1 = false) : qm h lim (k + 1) := by
 unfold qm at h0 ⊢
 rw [List.range_succ, List.flatMap_append, List.find?_append, h0, List.flatMap_singleton, Gi (by rw [← (JH (o := [])).1, h1])]; rfl
theorem D2 (h0 : qm h lim k) (hk : k = lim + 1) : fT h lim = none := by subst hk; exact h0
theorem range_split {k n : Nat} (hk : k < n) : ∃ r, List.range n = List.range k ++ k :: r := by
 refine ⟨(List.range (n - k - 1)).map (fun x => k + 1 + x), ?_⟩
 rw [show List.range n = List.range (k + (1 + (n - k - 1))) by congr 1; omega, List.range_add, List.range_add, List.map_append]
 rw [List.map_map]
 congr 1
 show [k + 0] ++ _ = _
 rw [List.singleton_append, Nat.add_zero]
 congr 1
 refine List.map_congr_left fun x _ => ?_
 show k + (1 + x) = _; omega
theorem Dz (h0 : qm h lim k) (hk : k ≤ lim) (h1 : (uh h k lim [] 0 []).1 = true) : fT h lim = some (uh h k lim [] 0 []).2 := by
 unfold qm at h0
 unfold fT
 obtain ⟨r, hr⟩ := range_split (show k < lim + 1 by omega)
 rw [hr, List.flatMap_append, List.find?_append, h0, List.flatMap_cons, List.find?_append, JH.2 h1]; rfl
end
end Go.Proofs.YtelbollidfdcjaaGreat
namespace Go.Proofs.YtelbollidfdcjaaGreat
open Go Go.T
set_option maxHeartbeats 16000000
structure x6 (h : List Int → Bool) (many lim : Nat) (l : List Int) (i0 : Nat) (o0 : List Int) where
  i : Nat
  o : List Int
  ge : i0 ≤ i
  le : i ≤ lim
  same : mq h many (lim - i0) l i0 o0 = mq h many (lim - i) l i o
section
variable {h : List Int → Bool} {many lim i0 k : Nat} {l o0 : List Int}
theorem x6.nat (x : x6 h many lim l i0 o0) (hi : (x.i : Int) < (lim : Int)) : x.i < lim := by omega
def x6.next (x : x6 h many lim l i0 o0) (hi : (x.i : Int) < (lim : Int)) (hg : (uh h many lim (l ++ [(x.i : Int)]) (x.i + 1) x.o).1 = false) : x6 h many lim l i0 o0 :=
  ⟨x.i + 1, (uh h many lim (l ++ [(x.i : Int)]) (x.i + 1) x.o).2, by have := x.ge; omega, by omega, by rw [x.same, Br (x.nat hi), if_neg (by rw [hg]; decide)]⟩
theorem x6.found (x : x6 h many lim l i0 o0) (hm : ¬ l.length = many) (hi : (x.i : Int) < (lim : Int)) (hg : (uh h many lim (l ++ [(x.i : Int)]) (x.i + 1) x.o).1 = true) : uh h many lim l i0 o0 = uh h many lim (l ++ [(x.i : Int)]) (x.i + 1) x.o := by
 rw [Lj hm, x.same, Br (x.nat hi), if_pos hg]
theorem x6.stop (x : x6 h many lim l i0 o0) (hm : ¬ l.length = many) (hi : ¬ (x.i : Int) < (lim : Int)) : uh h many lim l i0 o0 = (false, x.o) := by
 rw [Lj hm, x.same, KQ (by omega)]
def Gk (h : List Int → Bool) (lim : Nat) : Bool := (fT h lim).isSome
def A5 (h : List Int → Bool) (lim : Nat) : List Int := (fT h lim).getD []
theorem IT {k : Nat} (h0 : qm h lim k) (hk : k ≤ lim) (h1 : (uh h k lim [] 0 []).1 = true) : true = Gk h lim ∧ (uh h k lim [] 0 []).2 = A5 h lim := by
 unfold Gk A5; rw [Dz h0 hk h1]; exact ⟨rfl, rfl⟩
theorem LV {k : Nat} (h0 : qm h lim k) (hk : k ≤ lim + 1) (h1 : ¬ (k : Int) < (lim : Int) + 1) : false = Gk h lim ∧ [] = A5 h lim := by
 unfold Gk A5; rw [D2 h0 (by omega)]; exact ⟨rfl, rfl⟩
theorem FI (h : ((l.length : Nat) : Int) = (many : Nat)) : l.length = many := by omega
theorem JA (h : ¬ ((l.length : Nat) : Int) = (many : Nat)) : ¬ l.length = many := by omega
end
theorem qO {ρ : List (Nat × Nat)} {th : Ty} {h1 : th.deps = []} {h2 : th.cdeps = []} {many lim a b : Nat} (e0 : (a, 1000) ∈ ρ) (e1 : (b, 1001) ∈ ρ) : l6 ρ [Ty.jC 171 [Ty.pp [Ty.int .i64 (many : Nat)], Ty.ptr a 0, Ty.pp [Ty.nd th h1 h2], Ty.pp [Ty.int .i64 (lim : Nat)], Ty.ptr b 0]] [Ty.jC 171 [Ty.pp [Ty.int .i64 (many : Nat)], Ty.ptr 1000 0, Ty.pp [Ty.nd th h1 h2], Ty.pp [Ty.int .i64 (lim : Nat)], Ty.ptr 1001 0]] :=
 aH bD (tJ (aH (aH (aH (aH (aH bD (dU e1)) (aN rfl rfl)) (aN rfl rfl)) (dU e0)) (aN rfl rfl)))
abbrev vZ (th : Ty) (h1 : th.deps = []) (h2 : th.cdeps = []) (many lim : Nat) (o : List Int) : List (Nat × Cont) := [(1000, Cont.cells 28 [Ty.sl cS o]), (1001, Cont.cells 122 [Ty.jC 171 [Ty.pp [Ty.int .i64 (many : Nat)], Ty.ptr 1000 0, Ty.pp [Ty.nd th h1 h2], Ty.pp [Ty.int .i64 (lim : Nat)], Ty.ptr 1001 0]])]
theorem Ah {A : As} {th : Ty} {h1 : th.deps = []} {h2 : th.cdeps = []} {many lim : Nat} {o o' : List Int} (e0 : A.tag 1000 = some (Cont.cells 28 [Ty.sl cS o])) (e1 : A.tag 1001 = some (Cont.cells 122 [Ty.jC 171 [Ty.pp [Ty.int .i64 (many : Nat)], Ty.ptr 1000 0, Ty.pp [Ty.nd th h1 h2], Ty.pp [Ty.int .i64 (lim : Nat)], Ty.ptr 1001 0]])) (e : o = o') : oQ A [1000, 1001] (vZ th h1 h2 many lim o') := by
 subst e; exact c7 e0 (jE (by decide) (aH bD (aN rfl rfl))) (c7 e1 (jE (by decide) (qO (by decide) (by decide))) dR)
attribute [local irreducible] iN fQ m5 qc ir iW ij iy iw qY iZ qW dz ga qV gG qd nth fP dh aa dy bodyPost Exit.then Exit.inBlock Code.wp Code.wpIn qh iq qb qU ia dn cU cj bodyPostM eF
attribute [local irreducible] uh mq
set_option maxRecDepth 100000 in
theorem A8 (l : List Int) (h : l.length ≤ 1000) : dn Tryz.prog 172 [] [] [Ty.sl cS l] [] (Ty.row cS 3 6 l) := by
 refine c6 Tryz.func172 rfl (by decide) Tryz.ntmps172 (by exact Nat.le_of_ble_eq_true rfl) fun w0 M0 => ?_
 refine aG (aA (lB rfl (aD (aC (aG (aG (aA (fU rfl (vY LR rfl ?_)))))))))
 refine aD (aC ?_)
 refine pq rfl (fun hc1 => ?_) (fun hc1 => ?_)
 ·
  refine aG (aA (lB rfl (aD (aC (av (aW ?_))))))
  refine ew [6] rfl rfl (by decide) (by repeat (exact dR)) ?_
  all_goals skip
  all_goals (obtain rfl : l = [] := hc1; exact eA qD)
 refine aj (aC (aG (aA ?_)))
 refine n6 (E := cS) rfl rfl rfl rfl ?_
 refine fU rfl ?_
 refine eN rfl rfl (by decide) rfl rfl rfl rfl rfl rfl (by decide) (by (simp <;> omega)) (by (simp <;> omega)) ?_
 refine A4 rfl (aD (aC (av ?_)))
 refine ew [6] rfl rfl (by decide) (by repeat (exact dR)) ?_
 all_goals skip
 all_goals exact eA (fF (by decide))
set_option maxRecDepth 100000 in
theorem MD (th : Ty) (h1 : th.deps = []) (h2 : th.cdeps = []) (h : List Int → Bool) (hf : ∀ l, oU Tryz.prog (Ty.nd th h1 h2) [Ty.sl cS l] (Ty.bool (h l))) (many lim : Nat) (hmn : many ≤ 1000) (hlm : lim ≤ 1000) (d : Nat) (l : List Int) (i : Nat) (o : List Int) (hi : i ≤ lim) (hll : l.length ≤ many) (hd : lim - i < d) : dn Tryz.prog 171 [1000, 1001] (vZ th h1 h2 many lim o) [Ty.row cS 3 1002 l, Ty.int .i64 (i : Nat), Ty.pp [Ty.int .i64 (many : Nat)], Ty.ptr 1000 0, Ty.pp [Ty.nd th h1 h2], Ty.pp [Ty.int .i64 (lim : Nat)], Ty.ptr 1001 0] (vZ th h1 h2 many lim (uh h many lim l i o).2) (Ty.bool (uh h many lim l i o).1) := by
 induction d generalizing l i o
 case zero => exact absurd hd (by omega)
 rename_i d ih
 refine c6 Tryz.func171 rfl (by decide) Tryz.ntmps171 (by exact Nat.le_of_ble_eq_true rfl) fun w0 M0 => ?_
 refine aG ?_
 refine lF (tg := 1002) [(0, Ty.sl cS l)] (by decide) rfl ⟨E9 rfl, trivial⟩ ?_
 refine aA (dw rfl (aD (aC (aG (aG (aA (fU rfl (cY rfl rfl rfl (aL rfl rfl rfl rfl ?_)))))))))
 refine bF rfl rfl rfl (aD (aC ?_))
 refine aq rfl (fun hc1 => ?_) (fun hc1 => ?_)
 ·
  refine aG (aA (fU rfl ?_))
  refine cq rfl rfl (by decide) rfl rfl (by exact (rfl : _ = Ty.sl _ _)) rfl (by exact Nat.le_of_ble_eq_true rfl) rfl rfl (by exact (rfl : _ = [_])) ?_
  refine aD (aC (aG (aA (aL rfl rfl rfl rfl (fU rfl (ep rfl (hf l) rfl (dw rfl (aD (aC ?_)))))))))
  refine av (aW ?_)
  refine ew [1000, 1001] rfl rfl (by decide) ?_ ?_
  ·exact Ah rfl rfl (congrArg Prod.snd (go_eq (FI hc1))).symm
  all_goals skip
  all_goals exact eA (lA rfl rfl (congrArg Ty.bool (congrArg Prod.fst (go_eq (FI hc1))).symm))
 refine aj (aC (aG (aG ?_)))
 have hlm2 := JA hc1
 refine aA (bQ rfl (cE rfl (aD (aC (ak ?_)))))
 refine cg (fun (x : x6 h many lim l i o) => live [(0, Ty.sl cS l), (2, Ty.pp [Ty.int .i64 (many : Nat)]), (3, Ty.ptr 1000 0), (4, Ty.pp [Ty.nd th h1 h2]), (5, Ty.pp [Ty.int .i64 (lim : Nat)]), (6, Ty.ptr 1001 0), (10, Ty.int .i64 (x.i : Nat))] [(1000, Cont.cells 28 [Ty.sl cS x.o]), (1001, Cont.cells 122 [Ty.jC 171 [Ty.pp [Ty.int .i64 (many : Nat)], Ty.ptr 1000 0, Ty.pp [Ty.nd th h1 h2], Ty.pp [Ty.int .i64 (lim : Nat)], Ty.ptr 1001 0]])]) (fun x => lim - x.i) (⟨i, o, Nat.le_refl _, hi, rfl⟩) ?_ fun x => ?_
 ·(refine dG.mk' ?_ ?_ <;> (repeat' (first | exact aI | exact aJ | refine aB ?_ (Ty.aU _) | refine aB ?_ (Ty.aE _) | refine aF rfl (Cont.aE _) ?_)))
 have hxl := x.le
 refine aG (aG (aA (bQ rfl (aL rfl rfl rfl rfl (bF rfl rfl rfl (aD (aC ?_)))))))
 refine aq rfl (fun hc2 => ?_) (fun hc2 => ?_)
 ·
  refine aj (aC (aG (ak (aG (cW mixed rfl ?_)))))
  refine aS rfl rfl (by decide) rfl rfl rfl ?_
  refine fU rfl ?_
  refine bk (res' := Ty.row cS 3 27 l) [(27, 6)] [27] [] (A8 l (by omega)) rfl rfl (by repeat (first | exact bD | refine aH ?_ ?_ | exact aN rfl rfl)) pre_nil post_nil (fF (by exact List.mem_cons_self)) ?_
  refine bQ rfl ?_
  refine bw (E := cS) (xs := [(x.i : Int)]) rfl rfl rfl rfl rfl (by decide) (by decide) (by repeat (first | exact (aX.nil : aX _ _ [] _) | (show aX _ _ ((_, _) :: _) _; apply aX.one; (· exact (rfl : _ = Ty.int _ _)); (· exact rfl)))) (by exact rfl) rfl ?_
  refine eN rfl rfl (by decide) rfl rfl rfl rfl rfl rfl (by decide) (by (simp <;> omega)) (by (simp <;> omega)) ?_
  refine bQ rfl ?_
  refine cD rfl rfl (by omega) (by omega) ?_
  refine BS [(1000, 1000), (1001, 1001), (27, 1002)] [27] (vZ th h1 h2 many lim (uh h many lim (l ++ [(x.i : Int)]) (x.i + 1) x.o).2) rfl (ih (l ++ [(x.i : Int)]) (x.i + 1) x.o (by omega) (by rw [List.length_append]; show l.length + 1 ≤ many; omega) (by have := x.ge; omega)) rfl rfl (aH (aH (aH (aH (aH (aH (aH bD (dU (by decide))) (aN rfl rfl)) (aN rfl rfl)) (dU (by decide))) (aN rfl rfl)) (aN rfl rfl)) (fF (by decide))) (b8 (a := 1000) (b := 1000) (by decide) rfl (jE (by decide) (aH bD (aN rfl rfl))) (b8 (a := 1001) (b := 1001) (by decide) rfl (jE (by decide) (qO (by decide) (by decide))) pre_nil)) (bG (a := 1000) (b := 1000) (by decide) rfl (jE (by decide) (aH bD (aN rfl rfl))) (bG (a := 1001) (b := 1001) (by decide) rfl (jE (by decide) (qO (by decide) (by decide))) post_nil)) (aN rfl rfl) ?_
  refine aD ?_
  refine ⟨by kernel_rfl, ?_⟩
  refine aC ?_
  refine cx rfl (fun hc3 => ?_) (fun hc3 => ?_)
  ·
   refine aG (aA (dw rfl (aD (aC (av (bJ (aW (aW (bJ ?_)))))))))
   refine aW ?_
   refine ew [1000, 1001] rfl rfl (by decide) ?_ ?_
   ·exact Ah rfl rfl (congrArg Prod.snd (x.found hlm2 hc2 hc3)).symm
   all_goals skip
   all_goals exact eA (lA rfl rfl (congrArg Ty.bool (hc3.symm.trans (congrArg Prod.fst (x.found hlm2 hc2 hc3)).symm)))
  refine aj (bX (aC (aA (bQ rfl ?_))))
  refine cD rfl rfl (by omega) (by omega) ?_
  refine cE rfl (aD ?_)
  refine bl (x.next hc2 hc3) ?_ (by show lim - (x.i + 1) < lim - x.i; omega)
  (refine dG.mk' ?_ ?_ <;> (repeat' (first | exact aI | exact aJ | refine aB ?_ (Ty.aU _) | refine aB ?_ (Ty.aE _) | refine aF rfl (Cont.aE _) ?_)))
  all_goals skip
 refine cZ (aQ (aQ (ay rfl (aC (aG (aA (dw rfl (aD (aC ?_)))))))))
 refine av ?_
 refine ew [1000, 1001] rfl rfl (by decide) ?_ ?_
 ·exact Ah rfl rfl (congrArg Prod.snd (x.stop hlm2 hc2)).symm
 all_goals skip
 all_goals exact eA (lA rfl rfl (congrArg Ty.bool (congrArg Prod.fst (x.stop hlm2 hc2)).symm))
set_option maxRecDepth 100000 in
theorem wD (th : Ty) (h1 : th.deps = []) (h2 : th.cdeps = []) (ho : th.one = true) (h : List Int → Bool) (hf : ∀ l, oU Tryz.prog (Ty.nd th h1 h2) [Ty.sl cS l] (Ty.bool (h l))) (lim : Nat) (hlm : lim ≤ 999) : dy Tryz.prog 113 [Ty.int .i64 (lim : Nat), Ty.nd th h1 h2] (Ty.ju [Ty.sl cS (A5 h lim), Ty.bool (Gk h lim)]) := by
 refine bC Tryz.func113 rfl (by decide) Tryz.ntmps113 (by exact Nat.le_of_ble_eq_true rfl) fun w0 M0 => ?_
 refine aG (aA ?_)
 refine gO (by exact (rfl : _ = Ty.int _ _)) rfl ?_
 refine gO (ty := Ty.nd th h1 h2) rfl ho ?_
 refine lB rfl (dw rfl (aD (aC (aG (aG (aA (aL rfl rfl rfl rfl ?_)))))))
 refine cD rfl rfl (by omega) (by omega) ?_
 refine bQ rfl (aD (aC (ak ?_)))
 refine cg (fun (k : {k : Nat // k ≤ lim + 1 ∧ qm h lim k}) => live [(2, Ty.pp [Ty.int .i64 (lim : Nat)]), (3, Ty.pp [Ty.nd th h1 h2]), (10, Ty.int .i64 ((lim : Int) + 1)), (11, Ty.int .i64 (k.1 : Nat))] []) (fun k => lim + 1 - k.1) (⟨0, by omega, Fl⟩) ?_ fun k => ?_
 ·(refine dG.mk' ?_ ?_ <;> (repeat' (first | exact aI | exact aJ | refine aB ?_ (Ty.aU _) | refine aB ?_ (Ty.aE _))))
 have hk := k.2.1
 refine aG (aA (bF rfl rfl rfl (aD (aC (aG ?_)))))
 refine aq rfl (fun hc1 => ?_) (fun hc1 => ?_)
 ·
  refine aj (aC (aG (ak (aG (aA (bQ rfl ?_))))))
  refine b9 rfl (by exact List.cons_ne_nil _ _) rfl ?_
  refine cq rfl rfl (by decide) rfl rfl (by exact (rfl : _ = Ty.int _ _)) rfl (by exact Nat.le_of_ble_eq_true rfl) rfl rfl (by exact (rfl : _ = [_])) ?_
  refine aD (aC (aG ?_))
  refine lF (tg := 7) [(6, Ty.pp [Ty.int .i64 (k.1 : Nat)])] (by decide) rfl ⟨lK (T := 3) (off := 0) (l := [Ty.int .i64 (k.1 : Nat)]) rfl rfl rfl (by decide), trivial⟩ ?_
  refine aA ?_
  refine b9 rfl (by exact List.cons_ne_nil _ _) rfl ?_
  refine aD (aC (aG (aA ?_)))
  refine b9 rfl (by exact List.cons_ne_nil _ _) rfl ?_
  refine aD (aC (aG (aA (dP rfl ?_))))
  refine cq rfl rfl (by decide) rfl rfl (by exact (rfl : _ = Ty.jC _ _)) rfl (by exact Nat.le_of_ble_eq_true rfl) rfl rfl (by exact (rfl : _ = [_])) ?_
  refine aD (aC (aG ?_))
  refine fV (tg := 8) rfl (Cont.dY (l' := [Ty.sl cS ([] : List Int)]) ⟨Ty.xY, trivial⟩) ?_
  refine aA ?_
  refine aS rfl rfl (by decide) rfl rfl rfl ?_
  refine BS [(8, 1000), (9, 1001)] [] [(8, Cont.cells 28 [Ty.sl cS (uh h k.1 lim [] 0 []).2]), (9, Cont.cells 122 [Ty.jC 171 [Ty.pp [Ty.int .i64 (k.1 : Nat)], Ty.ptr 8 0, Ty.pp [Ty.nd th h1 h2], Ty.pp [Ty.int .i64 (lim : Nat)], Ty.ptr 9 0]])] rfl (MD th h1 h2 h hf k.1 lim (by omega) (by omega) (lim + 1) [] 0 [] (by omega) (Nat.zero_le _) (by omega)) rfl rfl (aH (aH (aH (aH (aH (aH (aH bD (dU (by decide))) (aN rfl rfl)) (aN rfl rfl)) (dU (by decide))) (aN rfl rfl)) (aN rfl rfl)) qD) (b8 (a := 8) (b := 1000) (by decide) rfl (jE (by decide) (aH bD (aN rfl rfl))) (b8 (a := 9) (b := 1001) (by decide) rfl (jE (by decide) (qO (by decide) (by decide))) pre_nil)) (bG (a := 8) (b := 1000) (by decide) rfl (jE (by decide) (aH bD (aN rfl rfl))) (bG (a := 9) (b := 1001) (by decide) rfl (jE (by decide) (aH bD (tJ (aH (aH (aH (aH (aH bD (dU (by decide))) (aN rfl rfl)) (aN rfl rfl)) (dU (by decide))) (aN rfl rfl))))) post_nil)) (aN rfl rfl) ?_
  refine aD (aC ?_)
  refine cx rfl (fun hc2 => ?_) (fun hc2 => ?_)
  ·
   refine aG (aA ?_)
   refine aS rfl rfl (by decide) rfl rfl rfl ?_
   refine zE rfl (dw rfl (aD (aC (av (bJ (aW (aW (bJ (aW ?_)))))))))
   refine fj rfl rfl rfl ?_ ?_
   all_goals skip
   all_goals first | exact bE rfl rfl (congrArg Ty.bool (IT k.2.2 (by omega) hc2).1) | exact bE rfl rfl (congrArg (Ty.sl cS) (IT k.2.2 (by omega) hc2).2)
  refine aj (bX (aC (aA ?_)))
  refine cD rfl rfl (by omega) (by omega) ?_
  refine bQ rfl (aD ?_)
  refine bl (⟨k.1 + 1, by omega, FT k.2.2 hc2⟩) ?_ (by show lim + 1 - (k.1 + 1) < lim + 1 - k.1; omega)
  (refine dG.mk' ?_ ?_ <;> (repeat' (first | exact aI | exact aJ | refine aB ?_ (Ty.aU _) | refine aB ?_ (Ty.aE _))))
  all_goals skip
 refine cZ (aQ (aQ (ay rfl (aC (aG (aA (lB rfl (dw rfl (aD ?_)))))))))
 refine aC (av ?_)
 refine fj rfl rfl rfl ?_ ?_
 all_goals skip
 all_goals first | exact bE rfl rfl (congrArg Ty.bool (LV k.2.2 k.2.1 hc1).1) | exact gF (LV k.2.2 k.2.1 hc1).2.symm
end Go.Proofs.YtelbollidfdcjaaGreat
namespace Go.Proofs.YtelbollidfdcjaaGreat
open Go Go.T
set_option maxHeartbeats 16000000
theorem Dn {P : Program} {t : Ty} {h1 : t.deps = []} {h2 : t.cdeps = []} {args : List Ty} {res : Ty} (h : oU P t args res) : oU P (Ty.nd t h1 h2) args res := h
noncomputable def jg (y : ah) : Int := if bT y = 0 then (if Gk (fun l => !dH y (bq l false)) y.levels.length = true then 0 else 6) else bT y
noncomputable def gD (y : ah) : List Int := if jg y = 0 then A5 (fun l => !dH y (bq l false)) y.levels.length else []
theorem Eg {y : ah} (h : ¬ bT y = 0) : bT y = jg y ∧ [] = gD y := by
 have e : bT y = jg y := (if_neg h).symm
 exact ⟨e, by unfold gD; rw [← e, if_neg h]⟩
theorem Aj {y : ah} (h : bT y = 0) (h2 : (!Gk (fun l => !dH y (bq l false)) y.levels.length) = true) : 6 = jg y ∧ [] = gD y := by
 have e : 6 = jg y := by unfold jg; rw [if_pos h, if_neg (by rw [qt h2]; decide)]
 exact ⟨e, by unfold gD; rw [← e, if_neg (by decide)]⟩
theorem vi {y : ah} (h : bT y = 0) (h2 : (!Gk (fun l => !dH y (bq l false)) y.levels.length) = false) : 0 = jg y ∧ A5 (fun l => !dH y (bq l false)) y.levels.length = gD y := by
 have e : 0 = jg y := by unfold jg; rw [if_pos h, if_pos (gA h2)]
 exact ⟨e, by unfold gD; rw [← e, if_pos rfl]⟩
noncomputable def jJ (y : ah) : Int := if bT y = 0 then (if Gk (fun l => dH y (bq l true)) y.levels.length = true then 0 else 7) else bT y
noncomputable def eJ (y : ah) : List Int := if jJ y = 0 then A5 (fun l => dH y (bq l true)) y.levels.length else []
theorem Ex {y : ah} (h : ¬ bT y = 0) : bT y = jJ y ∧ [] = eJ y := by
 have e : bT y = jJ y := (if_neg h).symm
 exact ⟨e, by unfold eJ; rw [← e, if_neg h]⟩
theorem Er {y : ah} (h : bT y = 0) (h2 : (!Gk (fun l => dH y (bq l true)) y.levels.length) = true) : 7 = jJ y ∧ [] = eJ y := by
 have e : 7 = jJ y := by unfold jJ; rw [if_pos h, if_neg (by rw [qt h2]; decide)]
 exact ⟨e, by unfold eJ; rw [← e, if_neg (by decide)]⟩
theorem vL {y : ah} (h : bT y = 0) (h2 : (!Gk (fun l => dH y (bq l true)) y.levels.length) = false) : 0 = jJ y ∧ A5 (fun l => dH y (bq l true)) y.levels.length = eJ y := by
 have e : 0 = jJ y := by unfold jJ; rw [if_pos h, if_pos (gA h2)]
 exact ⟨e, by unfold eJ; rw [← e, if_pos rfl]⟩
attribute [local irreducible] aP gl Way.gq Way.fin Way.room eW eH fB gR over bO cO dc eY jr fC gr kX cm gK fk fo dF cJ gU pR iY iz jM gj Cn yL iJ ah.kept ah.cells bT eO bh gJ kS cN pS qX jY eV k6 nQ hasB tF sY q6 r5 ot kT nZ k5 xx gX jd HI Gc rS dH bq iK N3 Jg Lp uh mq Gk A5 fT
attribute [local irreducible] iN fQ m5 qc ir iW ij iy iw qY iZ qW dz ga qV gG qd nth fP dh aa dy bodyPost Exit.then Exit.inBlock Code.wp Code.wpIn qh iq qb qU ia dn cU cj bodyPostM eF
set_option maxRecDepth 100000 in
theorem G4 (y : ah) (hr : y.cI) (l : List Int) : dy Tryz.prog 114 [Ty.sl cS l, Ty.pp (bK y)] (Ty.bool ((fun l => !dH y (bq l false)) l)) := by
 refine bC Tryz.func114 rfl (by decide) Tryz.ntmps114 (by exact Nat.le_of_ble_eq_true rfl) fun w0 M0 => ?_
 refine aG (aA (dw rfl (aD (aC (aG (aA ?_))))))
 refine aZ rfl rfl rfl (by exact Nat.le_of_ble_eq_true rfl) ?_
 refine fU rfl (az (Bp y hr l false) rfl rfl rfl rfl rfl (eE rfl (dw rfl (aD (aC (av (bz rfl rfl ?_)))))))
 all_goals exact cV rfl rfl
 all_goals trace_state
set_option maxRecDepth 100000 in
theorem LI (y : ah) (hs : y.Small) : dy Tryz.prog 44 [fI y] (Ty.ju [Ty.sl cS (gD y), Ty.int .i64 (jg y)]) := by
 refine bC Tryz.func44 rfl (by decide) Tryz.ntmps44 (by exact Nat.le_of_ble_eq_true rfl) fun w0 M0 => ?_
 refine aG (aA (bM rfl (lB rfl (cE rfl (aD (aC (aG (aG (aA ?_)))))))))
 refine aZ rfl rfl rfl (by exact Nat.le_of_ble_eq_true rfl) ?_
 refine az (jo y hs) rfl rfl rfl rfl rfl (cE rfl (aD (aC (aG (aA (bQ rfl (bF rfl rfl rfl (aD (aC ?_)))))))))
 refine dM rfl (fun hc1 => ?_) (fun hc1 => ?_)
 ·
  refine aG (aA (bQ rfl (lB rfl (cE rfl (aD (aC (av (aW ?_))))))))
  refine fj rfl rfl rfl ?_ ?_
  all_goals skip
  all_goals first | exact gF (Eg hc1).2.symm | exact bE rfl rfl (congrArg (Ty.int .i64) (Eg hc1).1)
 refine aj (aC (aG ?_))
 have hck : bT y = 0 := hc1
 have hr := dQ hck
 have h8 := hr.levels
 refine aA ?_
 refine aO rfl rfl rfl rfl rfl (by decide) ?_
 refine aL rfl rfl rfl rfl (cY rfl rfl rfl (dP rfl ?_))
 refine az (wD (Ty.jC 114 [Ty.pp (bK y)]) rfl rfl rfl (fun l => !dH y (bq l false)) (fun l => Dn (dZ (G4 y hr l) rfl rfl rfl rfl rfl rfl)) y.levels.length (by omega)) rfl rfl rfl rfl rfl ?_
 refine qq rfl (bL rfl rfl (bL rfl rfl (zE rfl (dw rfl (aD (aC (aG (aG (aA ?_)))))))))
 refine g8 rfl (eE rfl (aD (aC ?_)))
 refine cx rfl (fun hc2 => ?_) (fun hc2 => ?_)
 ·
  refine aG (aA (lB rfl (cE rfl (aD (aC (av (aW ?_)))))))
  refine fj rfl rfl rfl ?_ ?_
  all_goals skip
  all_goals first | exact gF (Aj hck hc2).2.symm | exact bE rfl rfl (congrArg (Ty.int .i64) (Aj hck hc2).1)
 refine aj (aC (aG (aA (fU rfl (zE rfl (cE rfl (aD (aC (av ?_)))))))))
 refine fj rfl rfl rfl ?_ ?_
 all_goals skip
 all_goals first | exact bE rfl rfl (congrArg (Ty.sl cS) (vi hck hc2).2) | exact bE rfl rfl (congrArg (Ty.int .i64) (vi hck hc2).1)
set_option maxRecDepth 100000 in
theorem HU (y : ah) (hr : y.cI) (l : List Int) : dy Tryz.prog 115 [Ty.sl cS l, Ty.pp (bK y)] (Ty.bool ((fun l => dH y (bq l true)) l)) := by
 refine bC Tryz.func115 rfl (by decide) Tryz.ntmps115 (by exact Nat.le_of_ble_eq_true rfl) fun w0 M0 => ?_
 refine aG (aA (dw rfl (aD (aC (aG (aA ?_))))))
 refine aZ rfl rfl rfl (by exact Nat.le_of_ble_eq_true rfl) ?_
 refine fU rfl (az (Bp y hr l true) rfl rfl rfl rfl rfl (dw rfl (aD (aC (av (bz rfl rfl ?_))))))
 all_goals exact cV rfl rfl
 all_goals trace_state
set_option maxRecDepth 100000 in
theorem Av (y : ah) (hs : y.Small) : dy Tryz.prog 45 [fI y] (Ty.ju [Ty.sl cS (eJ y), Ty.int .i64 (jJ y)]) := by
 refine bC Tryz.func45 rfl (by decide) Tryz.ntmps45 (by exact Nat.le_of_ble_eq_true rfl) fun w0 M0 => ?_
 refine aG (aA (bM rfl (lB rfl (cE rfl (aD (aC (aG (aG (aA ?_)))))))))
 refine aZ rfl rfl rfl (by exact Nat.le_of_ble_eq_true rfl) ?_
 refine az (jo y hs) rfl rfl rfl rfl rfl (cE rfl (aD (aC (aG (aA (bQ rfl (bF rfl rfl rfl (aD (aC ?_)))))))))
 refine dM rfl (fun hc1 => ?_) (fun hc1 => ?_)
 ·
  refine aG (aA (bQ rfl (lB rfl (cE rfl (aD (aC (av (aW ?_))))))))
  refine fj rfl rfl rfl ?_ ?_
  all_goals skip
  all_goals first | exact gF (Ex hc1).2.symm | exact bE rfl rfl (congrArg (Ty.int .i64) (Ex hc1).1)
 refine aj (aC (aG ?_))
 have hck : bT y = 0 := hc1
 have hr := dQ hck
 have h8 := hr.levels
 refine aA ?_
 refine aO rfl rfl rfl rfl rfl (by decide) ?_
 refine aL rfl rfl rfl rfl (cY rfl rfl rfl (dP rfl ?_))
 refine az (wD (Ty.jC 115 [Ty.pp (bK y)]) rfl rfl rfl (fun l => dH y (bq l true)) (fun l => Dn (dZ (HU y hr l) rfl rfl rfl rfl rfl rfl)) y.levels.length (by omega)) rfl rfl rfl rfl rfl ?_
 refine qq rfl (bL rfl rfl (bL rfl rfl (zE rfl (dw rfl (aD (aC (aG (aG (aA ?_)))))))))
 refine g8 rfl (eE rfl (aD (aC ?_)))
 refine cx rfl (fun hc2 => ?_) (fun hc2 => ?_)
 ·
  refine aG (aA (lB rfl (cE rfl (aD (aC (av (aW ?_)))))))
  refine fj rfl rfl rfl ?_ ?_
  all_goals skip
  all_goals first | exact gF (Er hck hc2).2.symm | exact bE rfl rfl (congrArg (Ty.int .i64) (Er hck hc2).1)
 refine aj (aC (aG (aA (fU rfl (zE rfl (cE rfl (aD (aC (av ?_)))))))))
 refine fj rfl rfl rfl ?_ ?_
 all_goals skip
 all_goals first | exact bE rfl rfl (congrArg (Ty.sl cS) (vL hck hc2).2) | exact bE rfl rfl (congrArg (Ty.int .i64) (vL hck hc2).1)
end Go.Proofs.YtelbollidfdcjaaGreat
namespace Go.Proofs.YtelbollidfdcjaaGreat
open Go Go.T
def two (k : Nat) : ah := ⟨2, [⟨100, ⟨20, 30⟩⟩, ⟨50, ⟨0, 0⟩⟩], [⟨0, -1, 0, ⟨40, 60⟩⟩, ⟨1, 0, 1, ⟨10, 40⟩⟩, ⟨1, 1, -1, ⟨5, 10⟩⟩], ([⟨2, 1, ⟨20, 25⟩⟩, ⟨2, 0, ⟨10, 24⟩⟩] : List Level).take k⟩
def x8 (p q u v w : Int) : eM := ⟨[p, q], [u, v, w]⟩
section
variable {k : Nat} {c : Nat → Bool} {a : eM} {p q u v w : Int}
theorem nX (h : k ≤ 2) : bT (two k) = 0 := by
 have : k = 0 ∨ k = 1 ∨ k = 2 := by omega
 rcases this with rfl | rfl | rfl <;> decide
theorem zY (h : k ≤ 2) : (two k).cI := dQ (nX h)
theorem Dx (h : AX (two k) a) : ∃ p q u v w, a = x8 p q u v w := by
  obtain ⟨f, m⟩ := a
  have h1 : f.length = 2 := h.first
  have h2 : m.length = 3 := h.bg
  match f, m, h1, h2 with
  | [p, q], [u, v, w], _, _ => exact ⟨p, q, u, v, w, rfl⟩
theorem mz : dN (two k) (x8 p q u v w) 0 0 = p := by simp [dN, cy, nk, ind, nth, two, x8]
theorem mj : dN (two k) (x8 p q u v w) 0 1 = p + u := by simp [dN, cy, nk, ind, nth, two, x8]
theorem ku : dN (two k) (x8 p q u v w) 0 2 = p + u - v := by simp [dN, cy, nk, ind, nth, two, x8]; omega
theorem Aa : dN (two k) (x8 p q u v w) 1 0 = q := by simp [dN, cy, nk, ind, nth, two, x8]
theorem AW : dN (two k) (x8 p q u v w) 1 1 = q := by simp [dN, cy, nk, ind, nth, two, x8]
theorem tO : dN (two k) (x8 p q u v w) 1 2 = q + v - w := by simp [dN, cy, nk, ind, nth, two, x8]; omega
structure KT (k : Nat) (c : Nat → Bool) (p q u v w : Int) : Prop where
  hp : 20 ≤ p ∧ p ≤ 30
  hq : q = 0
  hu : 40 ≤ u ∧ u ≤ 60
  hv : 10 ≤ v ∧ v ≤ 40
  hw : 5 ≤ w ∧ w ≤ 10
  l0 : 0 < k → c 0 = true → 20 ≤ v - w ∧ v - w ≤ 25
  l1 : 1 < k → c 1 = true → 10 ≤ p + u - v ∧ p + u - v ≤ 24
theorem kW (hk : k ≤ 2) : eT (two k) c (x8 p q u v w) ↔ KT k c p q u v w := by
 constructor
 ·intro h
  have f0 := h.first 0 (Nat.zero_lt_succ _)
  have f1 := h.first 1 (show 1 < 2 by decide)
  have m0 := h.bg 0 (Nat.zero_lt_succ _)
  have m1 := h.bg 1 (show 1 < 3 by decide)
  have m2 := h.bg 2 (show 2 < 3 by decide)
  have hq : (0 : Int) ≤ q ∧ q ≤ 0 := f1
  refine ⟨f0, by omega, m0, m1, m2, fun h0 hc => ?_, fun h1 hc => ?_⟩
  ·have e : nth (two k).levels 0 = ⟨2, 1, ⟨20, 25⟩⟩ := by
    obtain ⟨j, rfl⟩ : ∃ j, k = j + 1 := ⟨k - 1, by omega⟩
    rfl
   have hl : 0 < (two k).levels.length := by
    obtain ⟨j, rfl⟩ : ∃ j, k = j + 1 := ⟨k - 1, by omega⟩
    show 0 < (List.take (j + 1) _).length
    rw [List.take_succ_cons, List.length_cons]; omega
   have := h.level 0 hl hc
   rw [e] at this
   have := this
   change 20 ≤ dN _ _ 1 2 ∧ dN _ _ 1 2 ≤ 25 at this
   rw [tO] at this
   omega
  obtain rfl : k = 2 := by omega
  have := h.level 1 (by decide) hc
  change 10 ≤ dN _ _ 0 2 ∧ dN _ _ 0 2 ≤ 24 at this
  rw [ku] at this
  exact this
 intro ⟨hp, hq, hu, hv, hw, h0, h1⟩
 have hlen : (two k).levels.length = k := by
  show (List.take k _).length = k
  rw [List.length_take]; show min k 2 = k; omega
 refine ⟨⟨rfl, rfl⟩, fun b hb => ?_, fun b t hb ht => ?_, fun i hi => ?_, fun i hi hc => ?_⟩
 ·have hb : b < 2 := hb
  have : b = 0 ∨ b = 1 := by omega
  rcases this with rfl | rfl
  ·exact hp
  show 0 ≤ q ∧ q ≤ 0; omega
 ·have hb : b < 2 := hb
  have ht : t ≤ 2 := ht
  have e1 : b = 0 ∨ b = 1 := by omega
  have e2 : t = 0 ∨ t = 1 ∨ t = 2 := by omega
  rcases e1 with rfl | rfl <;> rcases e2 with rfl | rfl | rfl
  ·rw [mz]; show 0 ≤ p ∧ p ≤ 100; omega
  ·rw [mj]; show 0 ≤ p + u ∧ p + u ≤ 100; omega
  ·rw [ku]; show 0 ≤ p + u - v ∧ p + u - v ≤ 100; omega
  ·rw [Aa]; show 0 ≤ q ∧ q ≤ 50; omega
  ·rw [AW]; show 0 ≤ q ∧ q ≤ 50; omega
  rw [tO]; show 0 ≤ q + v - w ∧ q + v - w ≤ 50; omega
 ·have hi : i < 3 := hi
  have : i = 0 ∨ i = 1 ∨ i = 2 := by omega
  rcases this with rfl | rfl | rfl
  ·exact hu
  ·exact hv
  exact hw
 rw [hlen] at hi
 have : i = 0 ∨ i = 1 := by omega
 rcases this with rfl | rfl
 ·have h := h0 hi hc
  have e : nth (two k).levels 0 = ⟨2, 1, ⟨20, 25⟩⟩ := by
   obtain ⟨j, rfl⟩ : ∃ j, k = j + 1 := ⟨k - 1, by omega⟩
   rfl
  rw [e]
  change 20 ≤ dN _ _ 1 2 ∧ dN _ _ 1 2 ≤ 25
  rw [tO]; omega
 obtain rfl : k = 2 := by omega
 have h := h1 (by omega) hc
 change 10 ≤ dN _ _ 0 2 ∧ dN _ _ 0 2 ≤ 24
 rw [ku]; exact h
theorem kK (hk : k ≤ 2) {f : eM → Int} {s : Span} (p0 q0 u0 v0 w0 p1 q1 u1 v1 w1 : Int) (h0 : KT k c p0 q0 u0 v0 w0) (e0 : f (x8 p0 q0 u0 v0 w0) = s.lo) (h1 : KT k c p1 q1 u1 v1 w1) (e1 : f (x8 p1 q1 u1 v1 w1) = s.hi)
 (h : ∀ p q u v w, KT k c p q u v w → s.lo ≤ f (x8 p q u v w) ∧ f (x8 p q u v w) ≤ s.hi) : z8 (two k) c f s :=
 ⟨⟨_, (kW hk).2 h0, e0⟩, ⟨_, (kW hk).2 h1, e1⟩, fun a ha => by
  obtain ⟨p, q, u, v, w, rfl⟩ := Dx ha.lens
  exact h p q u v w ((kW hk).1 ha)⟩
end
end Go.Proofs.YtelbollidfdcjaaGreat
namespace Go.Proofs.YtelbollidfdcjaaGreat
open Go Go.T
section
variable {y : ah} {c : Nat → Bool} {a : eM} {b t k : Nat} {s : Span}
theorem nT (h0 : bT y = 0) (h : ∃ a, eT y (nth bh) a) : cN y = 0 := (open_3 h0 ((n4 (dQ h0)).2 h)).symm
theorem Iu (h0 : bT y = 0) (h : ¬ ∃ a, eT y (nth bh) a) : cN y = 7 := by
  cases e : (cm (aP y (nth bh)) (y.cells + 1) (gl (aP y (nth bh)))).2.1 with
  | true => exact (wk h0 e).symm
  | false => exact absurd ((n4 (dQ h0)).1 e) h
theorem j3 (h : cN y = 0) : ∃ a, eT y (nth bh) a := (n4 (dQ (eU h))).1 (AQ h)
theorem HM (h0 : bT y = 0) : cN y = 0 ↔ ∃ a, eT y (nth bh) a := ⟨j3, nT h0⟩
theorem uH (hr : y.cI) {l : List Bool} : dH y l = true ↔ ∃ a, eT y (nth l) a := by
 unfold dH
 rw [Bool.not_eq_true', n4 hr]
theorem n5 (ho : cN y = 0) (hb : b < y.bins.length) (ht : t ≤ y.D) : z8 y (nth bh) (fun a => dN y a b t) (gj (aP y (nth bh)) (y.cells + 1) (hasB y b t)) :=
 wO (dQ (eU ho)) (fun x hx => KF (dQ (eU ho)) hb ht hx) (j3 ho)
theorem z5 (ho : cN y = 0) (ht : t ≤ y.D) : z8 y (nth bh) (fun a => cy (fun b => dN y a b t) y.bins.length) (gj (aP y (nth bh)) (y.cells + 1) (ot y t)) :=
 wO (dQ (eU ho)) (fun x hx => GA (dQ (eU ho)) ht hx) (j3 ho)
theorem KU (ho : cN y = 0) (hk : k < y.moves.length) : z8 y (nth bh) (fun a => nth a.bg k) (gj (aP y (nth bh)) (y.cells + 1) (tF (y.bins.length * (y.D + 1) + k))) :=
 wO (dQ (eU ho)) (fun x hx => G6 hk) (j3 ho)
theorem A3 (h0 : bT y = 0) (hb : b < y.bins.length) : eO y (b : Int) = 0 := by
 unfold eO
 rw [if_pos h0, if_pos (by unfold ah.bin; rw [iL]; omega)]
theorem pz (ho : cN y = 0) (hb : b < y.bins.length) : jY y (b : Int) = 0 := (Ab (A3 (eU ho) hb) ho).1.symm
theorem vg (ho : cN y = 0) (hb : b < y.bins.length) : eV y (b : Int) = (List.range (y.D + 1)).map fun t => gj (aP y (nth bh)) (y.cells + 1) (hasB y b t) := (Ab (A3 (eU ho) hb) ho).2.symm
theorem Ku (ho : cN y = 0) : r5 y = (List.range (y.D + 1)).map fun t => gj (aP y (nth bh)) (y.cells + 1) (ot y t) := (Bl ho).symm
theorem m7 (ho : cN y = 0) (hb : b < y.bins.length) : (eV y (b : Int)).length = y.D + 1 := by rw [vg ho hb, List.length_map, List.length_range]
theorem sD (ho : cN y = 0) (hb : b < y.bins.length) (ht : t ≤ y.D) : z8 y (nth bh) (fun a => dN y a b t) (nth (eV y (b : Int)) t) := by
 rw [vg ho hb, gM _ (by omega)]; exact n5 ho hb ht
theorem KG (ho : cN y = 0) (hk : k < y.moves.length) : k6 y (k : Int) = 0 := (E0 (eU ho) (by rw [Bool.not_eq_false', Bool.and_eq_true, decide_eq_true_eq, decide_eq_true_eq]; omega) ho).1.symm
theorem HG (ho : cN y = 0) (hk : k < y.moves.length) : z8 y (nth bh) (fun a => nth a.bg k) (nQ y (k : Int)) := by
 rw [← (E0 (eU ho) (by rw [Bool.not_eq_false', Bool.and_eq_true, decide_eq_true_eq, decide_eq_true_eq]; omega) ho).2]
 exact KU ho hk
end
theorem IQ {α : Type} {a b c x y z : α} (h1 : a = x) (h2 : b = y) (h3 : c = z) : [a, b, c] = [x, y, z] := by subst h1; subst h2; subst h3; rfl
theorem kV {k : Nat} (hk : k ≤ 1) : cN (two k) = 0 :=
 nT (nX (by omega)) ⟨x8 20 0 40 25 5, (kW (by omega)).2 ⟨by omega, rfl, by omega, by omega, by omega, fun _ _ => by omega, fun _ _ => by omega⟩⟩
theorem N4 : jY (two 0) 0 = 0 := pz (b := 0) (kV (by omega)) (by decide)
theorem J9 : eV (two 0) 0 = [⟨20, 30⟩, ⟨60, 90⟩, ⟨20, 80⟩] := by
 have ho := kV (k := 0) (by omega)
 have e := vg (b := 0) ho (by decide)
 have h0 := (n5 (b := 0) (t := 0) ho (by decide) (by decide)).one (kK (s := ⟨20, 30⟩) (by omega) 20 0 40 10 5 30 0 40 10 5 (by constructor <;> intros <;> omega) mz (by constructor <;> intros <;> omega) mz fun p q u v w h => by rw [mz]; exact h.hp)
 have h1 := (n5 (b := 0) (t := 1) ho (by decide) (by decide)).one (kK (s := ⟨60, 90⟩) (by omega) 20 0 40 10 5 30 0 60 10 5 (by constructor <;> intros <;> omega) mj (by constructor <;> intros <;> omega) mj fun p q u v w h => by rw [mj]; have := h.hp; have := h.hu; show 60 ≤ p + u ∧ p + u ≤ 90; omega)
 have h2 := (n5 (b := 0) (t := 2) ho (by decide) (by decide)).one (kK (s := ⟨20, 80⟩) (by omega) 20 0 40 40 5 30 0 60 10 5 (by constructor <;> intros <;> omega) ku (by constructor <;> intros <;> omega) ku fun p q u v w h => by rw [ku]; have := h.hp; have := h.hu; have := h.hv; show 20 ≤ p + u - v ∧ p + u - v ≤ 80; omega)
 show eV (two 0) ((0 : Nat) : Int) = _
 rw [e]
 exact IQ h0 h1 h2
theorem E2 : eV (two 1) 0 = [⟨20, 30⟩, ⟨60, 90⟩, ⟨25, 65⟩] := by
 have ho := kV (k := 1) (by omega)
 have e := vg (b := 0) ho (by decide)
 have h0 := (n5 (b := 0) (t := 0) ho (by decide) (by decide)).one (kK (s := ⟨20, 30⟩) (by omega) 20 0 40 25 5 30 0 40 25 5 (by constructor <;> intros <;> omega) mz (by constructor <;> intros <;> omega) mz fun p q u v w h => by rw [mz]; exact h.hp)
 have h1 := (n5 (b := 0) (t := 1) ho (by decide) (by decide)).one (kK (s := ⟨60, 90⟩) (by omega) 20 0 40 25 5 30 0 60 25 5 (by constructor <;> intros <;> omega) mj (by constructor <;> intros <;> omega) mj fun p q u v w h => by rw [mj]; have := h.hp; have := h.hu; show 60 ≤ p + u ∧ p + u ≤ 90; omega)
 have h2 := (n5 (b := 0) (t := 2) ho (by decide) (by decide)).one (kK (s := ⟨25, 65⟩) (by omega) 20 0 40 35 10 30 0 60 25 5 (by constructor <;> intros <;> omega) ku (by constructor <;> intros <;> omega) ku fun p q u v w h => by rw [ku]; have := h.hp; have := h.hu; have := h.hw; have := h.l0 (by omega) rfl; show 25 ≤ p + u - v ∧ p + u - v ≤ 65; omega)
 show eV (two 1) ((0 : Nat) : Int) = _
 rw [e]
 exact IQ h0 h1 h2
theorem lI {k : Nat} {a : eM} {t : Nat} : cy (fun b => dN (two k) a b t) (two k).bins.length = dN (two k) a 0 t + dN (two k) a 1 t := by
 show (0 + dN (two k) a 0 t) + dN (two k) a 1 t = _; rw [Int.zero_add]
theorem Mz : r5 (two 0) = [⟨20, 30⟩, ⟨60, 90⟩, ⟨50, 85⟩] := by
 have ho := kV (k := 0) (by omega)
 have e := Ku ho
 have h0 := (z5 (t := 0) ho (by decide)).one (kK (s := ⟨20, 30⟩) (by omega) 20 0 40 10 5 30 0 40 10 5 (by constructor <;> intros <;> omega) (by rw [lI, mz, Aa]; rfl) (by constructor <;> intros <;> omega) (by rw [lI, mz, Aa]; rfl) fun p q u v w h => by rw [lI, mz, Aa]; have := h.hp; have := h.hq; show 20 ≤ p + q ∧ p + q ≤ 30; omega)
 have h1 := (z5 (t := 1) ho (by decide)).one (kK (s := ⟨60, 90⟩) (by omega) 20 0 40 10 5 30 0 60 10 5 (by constructor <;> intros <;> omega) (by rw [lI, mj, AW]; rfl) (by constructor <;> intros <;> omega) (by rw [lI, mj, AW]; rfl) fun p q u v w h => by rw [lI, mj, AW]; have := h.hp; have := h.hq; have := h.hu; show 60 ≤ p + u + q ∧ p + u + q ≤ 90; omega)
 have h2 := (z5 (t := 2) ho (by decide)).one (kK (s := ⟨50, 85⟩) (by omega) 20 0 40 10 10 30 0 60 10 5 (by constructor <;> intros <;> omega) (by rw [lI, ku, tO]; rfl) (by constructor <;> intros <;> omega) (by rw [lI, ku, tO]; rfl) fun p q u v w h => by rw [lI, ku, tO]; have := h.hp; have := h.hq; have := h.hu; have := h.hw; show 50 ≤ p + u - v + (q + v - w) ∧ p + u - v + (q + v - w) ≤ 85; omega)
 rw [e]
 exact IQ h0 h1 h2
theorem Ni : k6 (two 1) 1 = 0 := KG (k := 1) (kV (by omega)) (by decide)
theorem MY : nQ (two 1) 1 = ⟨25, 35⟩ :=
 (HG (k := 1) (kV (k := 1) (by omega)) (by decide)).one (kK (s := ⟨25, 35⟩) (by omega) 20 0 40 25 5 20 0 40 35 10 (by constructor <;> intros <;> omega) rfl (by constructor <;> intros <;> omega) rfl fun p q u v w h => by have := h.hw; have := h.l0 (by omega) rfl; show 25 ≤ v ∧ v ≤ 35; omega)
theorem LQ : 0 = kT (two 1) 0 60 (fun x => decide (x.lo ≥ 60)) ∧ fidx (fun x : Span => decide (x.lo ≥ 60)) (eV (two 1) 0) = nZ (two 1) 0 60 (fun x => decide (x.lo ≥ 60)) :=
 JV (A3 (b := 0) (nX (by omega)) (by decide)) rfl (pz (b := 0) (kV (by omega)) (by decide)) (by rw [E2]; decide)
theorem NG : nZ (two 1) 0 60 (fun x => decide (x.lo ≥ 60)) = 1 := by rw [← LQ.2, E2]; rfl
def xJ : EP := ⟨[⟨0, 0⟩, ⟨0, 1⟩, ⟨1, 1⟩], false⟩
theorem Ea : jd (two 2) (aP (two 2) (nth bh)) xJ = 1 := by kernel_rfl
theorem Nn : 0 = nN (two 2) xJ ∧ jd (two 2) (aP (two 2) (nth bh)) xJ = tD (two 2) xJ :=
 HF (nX (by omega)) (by decide) (fun i hi => by
  have hi : i + 1 < 3 := hi
  have : i = 0 ∨ i = 1 := by omega
  rcases this with rfl | rfl <;> decide) (by rw [Ea]; decide)
theorem Mj : tD (two 2) xJ = 1 := by rw [← Nn.2, Ea]
theorem I7 : ¬ ∃ a, eT (two 2) (nth bh) a := by
 rintro ⟨a, ha⟩
 obtain ⟨p, q, u, v, w, rfl⟩ := Dx ha.lens
 have h := (kW (by omega)).1 ha
 have h0 := h.l0 (by omega) rfl
 have h1 := h.l1 (by omega) rfl
 have := h.hp; have := h.hu; have := h.hw
 omega
theorem Ko : cN (two 2) = 7 := Iu (nX (by omega)) I7
theorem vV {l : List Bool} (h : nth l 0 = false ∨ nth l 1 = false) : dH (two 2) l = true := by
  rw [uH (zY (by omega))]
  cases h1 : nth l 1 with
  | false => exact ⟨x8 20 0 40 25 5, (kW (by omega)).2 ⟨by omega, rfl, by omega, by omega, by omega, fun _ _ => by omega, fun _ hc => by rw [h1] at hc; cases hc⟩⟩
  | true =>
    have h0 : nth l 0 = false := h.resolve_right (by rw [h1]; decide)
    exact ⟨x8 20 0 40 40 5, (kW (by omega)).2 ⟨by omega, rfl, by omega, by omega, by omega, fun _ hc => absurd hc (by rw [h0]; decide), fun _ _ => by omega⟩⟩
theorem Il {l : List Bool} (h : nth l 0 = true ∧ nth l 1 = true) : dH (two 2) l = false := by
 rw [Bool.eq_false_iff]
 intro hc
 obtain ⟨a, ha⟩ := (uH (zY (by omega))).1 hc
 obtain ⟨p, q, u, v, w, rfl⟩ := Dx ha.lens
 have hh := (kW (by omega)).1 ha
 have h0 := hh.l0 (by omega) h.1
 have h1 := hh.l1 (by omega) h.2
 have := hh.hp; have := hh.hu; have := hh.hw
 omega
theorem zI (h : List Int → Bool) : fT h 2 = [[], [0], [1], [0, 1]].find? h := rfl
theorem Nc : fT (fun l => !dH (two 2) (bq l false)) 2 = some [0, 1] := by
 rw [zI, List.find?_cons, vV (.inl rfl)]
 show List.find? _ [[0], [1], [0, 1]] = _
 rw [List.find?_cons, vV (.inr rfl)]
 show List.find? _ [[1], [0, 1]] = _
 rw [List.find?_cons, vV (.inl rfl)]
 show List.find? _ [[0, 1]] = _
 rw [List.find?_cons, Il ⟨rfl, rfl⟩]; rfl
theorem Nz : fT (fun l => dH (two 2) (bq l true)) 2 = some [0] := by
 rw [zI, List.find?_cons, Il ⟨rfl, rfl⟩]
 show List.find? _ [[0], [1], [0, 1]] = _
 rw [List.find?_cons, vV (.inl rfl)]
theorem Lu : 0 = jg (two 2) ∧ A5 (fun l => !dH (two 2) (bq l false)) 2 = gD (two 2) :=
 vi (nX (by omega)) (by show (!(fT _ 2).isSome) = false; rw [Nc]; rfl)
theorem Lo : 0 = jJ (two 2) ∧ A5 (fun l => dH (two 2) (bq l true)) 2 = eJ (two 2) :=
 vL (nX (by omega)) (by show (!(fT _ 2).isSome) = false; rw [Nz]; rfl)
theorem Gu : gD (two 2) = [0, 1] := by rw [← Lu.2]; unfold A5; rw [Nc]; rfl
theorem HZ : eJ (two 2) = [0] := by rw [← Lo.2]; unfold A5; rw [Nz]; rfl
end Go.Proofs.YtelbollidfdcjaaGreat
namespace Go.Proofs.YtelbollidfdcjaaGreat
open Go Go.T
section
variable {y : ah} {c : Nat → Bool} {a : eM} {m : List Int} {b t n : Nat} {x : Int}
theorem z8.same {f g : eM → Int} {s s' : Span} (h : z8 y c f s) (h' : z8 y c g s') (e : ∀ a, f a = g a) : s = s' := by
 have : f = g := funext e
 subst this; exact h.one h'
end
end Go.Proofs.YtelbollidfdcjaaGreat
namespace Go.Proofs.YtelbollidfdcjaaGreat
open Go Go.T
section
variable {y : ah} {a : eM} {c : Nat → Bool}
end
end Go.Proofs.YtelbollidfdcjaaGreat
namespace Go.Proofs.YtelbollidfdcjaaGreat
open Go Go.T
theorem Gy (a b : Span) : (decide (a.lo = b.lo) && decide (a.hi = b.hi)) = decide (a = b) := by
 cases a; cases b; rw [Bool.eq_iff_iff]; simp
end Go.Proofs.YtelbollidfdcjaaGreat
namespace Go.Proofs.YtelbollidfdcjaaGreat
open Go Go.T
set_option maxHeartbeats 2000000
attribute [local irreducible] iN fQ m5 qc ir iW ij iy iw qY iZ qW dz ga qV gG qd nth fP dh aa dy bodyPost Exit.then Exit.inBlock Code.wp Code.wpIn qh iq qb qU ia dn cU cj bodyPostM eF
set_option maxRecDepth 100000 in
theorem C4 (a b : List Int) : dy Tryz.prog 116 [Ty.sl cS a, Ty.sl cS b] (Ty.bool (decide (a = b))) := by
 refine bC Tryz.func116 rfl (by decide) Tryz.ntmps116 (by exact Nat.le_of_ble_eq_true rfl) fun w0 M0 => ?_
 refine j6 (s := 0) rfl rfl kI fun ha => ?_
 refine j6 (s := 1) rfl rfl kI fun hb => ?_
 refine aG (aA (dw rfl (aD (aC (aG (aG (aA (fU rfl (cY rfl rfl rfl ?_)))))))))
 refine fU rfl (cY rfl rfl rfl (bF rfl rfl rfl (aD (aC ?_))))
 refine dM rfl (fun hc1 => ?_) (fun hc1 => ?_)
 ·
  try (simp only [Classical.not_not] at hc1)
  refine aG (aA (dw rfl (aD (aC (av (aW (bz rfl rfl ?_)))))))
  all_goals skip
  exact bE rfl rfl (congrArg Ty.bool (by rw [eq_comm, decide_eq_false_iff_not]; intro e; subst e; exact hc1 rfl))
 try (simp only [Classical.not_not] at hc1)
 refine aj (aC (aG (aG (aA (fU rfl (cY rfl rfl rfl (bQ rfl (aD (aC ?_)))))))))
 refine ak ?_
 refine cg (fun (k : {k : Nat // a.take k = b.take k}) => live [(0, Ty.sl cS a), (1, Ty.sl cS b), (12, Ty.int .i64 a.length), (13, Ty.int .i64 (k.1 : Nat))] []) (fun k => a.length - k.1) (⟨0, by simp⟩) ?_ fun k => ?_
 ·(refine dG.mk' ?_ ?_ <;> (repeat' (first | exact aI | exact aJ | refine aB ?_ (Ty.aU _) | refine aB ?_ (Ty.aE _))))
 have hlen : a.length = b.length := by omega
 refine aG (aA (bF rfl rfl rfl (aD (aC (aG ?_)))))
 refine aq rfl (fun hc2 => ?_) (fun hc2 => ?_)
 ·
  try (simp only [Classical.not_not] at hc2)
  refine aj (aC (aG (ak (aG (aA (bQ rfl (cE rfl (aD (aC ?_)))))))))
  refine aG (cW mixed rfl (fU rfl (bQ rfl ?_)))
  refine bH rfl rfl rfl rfl rfl rfl (by omega) ?_
  refine aL rfl rfl rfl rfl (fU rfl (bQ rfl ?_))
  refine bH rfl rfl rfl rfl rfl rfl (by omega) ?_
  refine aL rfl rfl rfl rfl (bF rfl rfl rfl (aD ?_))
  refine ⟨by kernel_rfl, ?_⟩
  refine aC ?_
  refine dM rfl (fun hc3 => ?_) (fun hc3 => ?_)
  ·
   try (simp only [Classical.not_not] at hc3)
   refine aG (aA (dw rfl (aD (aC (av (bJ (aW (aW (bJ ?_)))))))))
   refine aW (bz rfl rfl ?_)
   all_goals skip
   exact bE rfl rfl (congrArg Ty.bool (by rw [eq_comm, decide_eq_false_iff_not]; exact ze (k := k.1) (hc3)))
  try (simp only [Classical.not_not] at hc3)
  refine aj (bX (aC (aA ?_)))
  refine cD rfl rfl (by omega) (by omega) ?_
  refine bQ rfl (aD ?_)
  refine bl (⟨k.1 + 1, by rw [eG (by omega), eG (by omega), k.2, hc3]⟩) ?_ (by show a.length - (k.1 + 1) < a.length - k.1; omega)
  (refine dG.mk' ?_ ?_ <;> (repeat' (first | exact aI | exact aJ | refine aB ?_ (Ty.aU _) | refine aB ?_ (Ty.aE _))))
  all_goals skip
 try (simp only [Classical.not_not] at hc2)
 refine cZ (aQ (aQ (ay rfl (aC (aG (aA (dw rfl (aD (aC ?_)))))))))
 refine av (bz rfl rfl ?_)
 all_goals skip
 exact bE rfl rfl (congrArg Ty.bool (by rw [eq_comm, decide_eq_true_eq]; have := k.2; rwa [List.take_of_length_le (by omega), List.take_of_length_le (by omega)] at this))
set_option maxRecDepth 100000 in
theorem CB (a b : List Int) : dy Tryz.prog 46 [Ty.sl cS a, Ty.sl cS b] (Ty.bool (decide (a = b))) := by
 refine bC Tryz.func46 rfl (by decide) Tryz.ntmps46 (by exact Nat.le_of_ble_eq_true rfl) fun w0 M0 => ?_
 refine aG (aA (dw rfl (aD (aC (aG (aA (fU rfl (fU rfl (az (C4 _ _) rfl rfl rfl rfl rfl ?_)))))))))
 refine dw rfl (aD (aC (av (bz rfl rfl ?_))))
 all_goals exact cV rfl rfl
set_option maxRecDepth 100000 in
theorem Bz (a b : List Span) : dy Tryz.prog 123 [Ty.sl dm a, Ty.sl dm b] (Ty.bool (decide (a = b))) := by
 refine bC Tryz.func123 rfl (by decide) Tryz.ntmps123 (by exact Nat.le_of_ble_eq_true rfl) fun w0 M0 => ?_
 refine j6 (s := 0) rfl rfl kI fun ha => ?_
 refine j6 (s := 1) rfl rfl kI fun hb => ?_
 refine aG (aA (dw rfl (aD (aC (aG (aG (aA (fU rfl (cY rfl rfl rfl ?_)))))))))
 refine fU rfl (cY rfl rfl rfl (bF rfl rfl rfl (aD (aC ?_))))
 refine dM rfl (fun hc1 => ?_) (fun hc1 => ?_)
 ·
  try (simp only [Classical.not_not] at hc1)
  refine aG (aA (dw rfl (aD (aC (av (aW (bz rfl rfl ?_)))))))
  all_goals skip
  exact bE rfl rfl (congrArg Ty.bool (by rw [eq_comm, decide_eq_false_iff_not]; intro e; subst e; exact hc1 rfl))
 try (simp only [Classical.not_not] at hc1)
 refine aj (aC (aG (aG (aA (fU rfl (cY rfl rfl rfl (bQ rfl (aD (aC ?_)))))))))
 refine ak ?_
 refine cg (fun (k : {k : Nat // a.take k = b.take k}) => live [(0, Ty.sl dm a), (1, Ty.sl dm b), (12, Ty.int .i64 a.length), (13, Ty.int .i64 (k.1 : Nat))] []) (fun k => a.length - k.1) (⟨0, by simp⟩) ?_ fun k => ?_
 ·(refine dG.mk' ?_ ?_ <;> (repeat' (first | exact aI | exact aJ | refine aB ?_ (Ty.aU _) | refine aB ?_ (Ty.aE _))))
 have hlen : a.length = b.length := by omega
 refine aG (aA (bF rfl rfl rfl (aD (aC (aG ?_)))))
 refine aq rfl (fun hc2 => ?_) (fun hc2 => ?_)
 ·
  try (simp only [Classical.not_not] at hc2)
  refine aj (aC (aG (ak (aG (aA (bQ rfl (cE rfl (aD (aC ?_)))))))))
  refine aG (cW mixed rfl (fU rfl (bQ rfl ?_)))
  refine bH rfl rfl rfl rfl rfl rfl (by omega) ?_
  refine aZ rfl rfl rfl (by exact Nat.le_of_ble_eq_true rfl) ?_
  refine fU rfl (bQ rfl ?_)
  refine bH rfl rfl rfl rfl rfl rfl (by omega) ?_
  refine aZ rfl rfl rfl (by exact Nat.le_of_ble_eq_true rfl) ?_
  refine FG (LY _ _ _ _) rfl rfl (aD ?_)
  refine ⟨by kernel_rfl, ?_⟩
  refine aC ?_
  refine cx rfl (fun hc3 => ?_) (fun hc3 => ?_)
  ·
   try (simp only [Classical.not_not] at hc3)
   refine aG (aA (dw rfl (aD (aC (av (bJ (aW (aW (bJ ?_)))))))))
   refine aW (bz rfl rfl ?_)
   all_goals skip
   exact bE rfl rfl (congrArg Ty.bool (by rw [eq_comm, decide_eq_false_iff_not]; exact ze (k := k.1) (of_decide_eq_false (by rw [← Gy]; exact qt hc3))))
  try (simp only [Classical.not_not] at hc3)
  refine aj (bX (aC (aA ?_)))
  refine cD rfl rfl (by omega) (by omega) ?_
  refine bQ rfl (aD ?_)
  refine bl (⟨k.1 + 1, by have e : nth a k.1 = nth b k.1 := of_decide_eq_true (by rw [← Gy]; exact gA hc3); rw [eG (by omega), eG (by omega), k.2, e]⟩) ?_ (by show a.length - (k.1 + 1) < a.length - k.1; omega)
  (refine dG.mk' ?_ ?_ <;> (repeat' (first | exact aI | exact aJ | refine aB ?_ (Ty.aU _) | refine aB ?_ (Ty.aE _))))
  all_goals skip
 try (simp only [Classical.not_not] at hc2)
 refine cZ (aQ (aQ (ay rfl (aC (aG (aA (dw rfl (aD (aC ?_)))))))))
 refine av (bz rfl rfl ?_)
 all_goals skip
 exact bE rfl rfl (congrArg Ty.bool (by rw [eq_comm, decide_eq_true_eq]; have := k.2; rwa [List.take_of_length_le (by omega), List.take_of_length_le (by omega)] at this))
set_option maxRecDepth 100000 in
theorem xd (a b : List Span) : dy Tryz.prog 50 [Ty.sl dm a, Ty.sl dm b] (Ty.bool (decide (a = b))) := by
 refine bC Tryz.func50 rfl (by decide) Tryz.ntmps50 (by exact Nat.le_of_ble_eq_true rfl) fun w0 M0 => ?_
 refine aG (aA (dw rfl (aD (aC (aG (aA (fU rfl (fU rfl (az (Bz _ _) rfl rfl rfl rfl rfl ?_)))))))))
 refine dw rfl (aD (aC (av (bz rfl rfl ?_))))
 all_goals exact cV rfl rfl
end Go.Proofs.YtelbollidfdcjaaGreat
namespace Go.Proofs.YtelbollidfdcjaaGreat
open Go Go.T
set_option maxHeartbeats 4000000
theorem mD {α : Type} {E : El α} {T tg : Nat} {xs : List α} (h : xs = []) : (Ty.ex (.slice none 0 0)).Sub (Ty.row E T tg xs) := by subst h; exact Ty.kN
theorem AZ {A : As} {α : Type} {E : El α} {T tg : Nat} {xs ys : List α} (h : xs = ys) : uc A tg (Ty.row E T tg xs) (Ty.sl E ys) := by subst h; exact m9
theorem jW {k : Nat} (hk : k ≤ 2) : (two k).Small := ⟨by show 2 ≤ 1000; omega, by show 3 ≤ 1000; omega, by show (List.take k _).length ≤ 1000; rw [List.length_take]; show min k 2 ≤ 1000; omega⟩
attribute [local irreducible] eV jY r5 cN nQ k6 nZ kT tD nN gD jg eJ jJ uS bT
attribute [local irreducible] iN fQ m5 qc ir iW ij iy iw qY iZ qW dz ga qV gG qd nth fP dh aa dy bodyPost Exit.then Exit.inBlock Code.wp Code.wpIn qh iq qb qU ia dn cU cj bodyPostM eF
set_option maxRecDepth 100000 in
theorem ig (a b : Int) : dy Tryz.prog 56 [Ty.int .i64 a, Ty.int .i64 b] (Ty.agg (dm.tys ⟨a, b⟩)) := by
 refine bC Tryz.func56 rfl (by decide) Tryz.ntmps56 (by exact Nat.le_of_ble_eq_true rfl) fun w0 M0 => ?_
 refine aG (aA ?_)
 refine b9 rfl (by exact List.cons_ne_nil _ _) rfl ?_
 refine aD (aC (aG (aA (bQ rfl (bQ rfl ?_)))))
 refine dB rfl rfl (by exact List.cons_ne_nil _ _) rfl (by repeat (first | exact (aX.nil : aX _ _ [] _) | (show aX _ _ ((_, _) :: _) _; apply aX.one; (· exact (rfl : _ = Ty.int _ _)); (· exact rfl)))) (by exact (rfl : _ = some [_, _])) ?_
 refine bp rfl rfl (by decide) rfl rfl rfl rfl rfl rfl ?_
 refine aD (aC (av ?_))
 refine AL rfl rfl rfl rfl (by decide) rfl rfl rfl ?_
 all_goals exact bE rfl rfl rfl
set_option maxRecDepth 100000 in
theorem uj (k : Nat) (hk : k ≤ 2) : dy Tryz.prog 93 [Ty.int .i64 ((k : Nat) : Int)] (fI (two k)) := by
 refine bC Tryz.func93 rfl (by decide) Tryz.ntmps93 (by exact Nat.le_of_ble_eq_true rfl) fun w0 M0 => ?_
 refine aG (aA ?_)
 refine b9 rfl (by exact List.cons_ne_nil _ _) rfl ?_
 refine aD (aC (aG (aA (az (ig _ _) rfl rfl rfl rfl rfl ?_))))
 refine dB rfl rfl (by exact List.cons_ne_nil _ _) rfl (by repeat (first | exact (aX.nil : aX _ _ [] _) | (show aX _ _ ((_, _) :: _) _; apply aX.one; (· exact (rfl : _ = Ty.int _ _)); (· exact rfl)) | (show aX _ _ ((_, _) :: _) _; apply aX.agg; (· exact (rfl : _ = Ty.agg _))))) (by exact (rfl : _ = some [_, _, _, _])) ?_
 refine az (ig _ _) rfl rfl rfl rfl rfl ?_
 refine dB rfl rfl (by exact List.cons_ne_nil _ _) rfl (by repeat (first | exact (aX.nil : aX _ _ [] _) | (show aX _ _ ((_, _) :: _) _; apply aX.one; (· exact (rfl : _ = Ty.int _ _)); (· exact rfl)) | (show aX _ _ ((_, _) :: _) _; apply aX.agg; (· exact (rfl : _ = Ty.agg _))))) (by exact (rfl : _ = some [_, _, _, _])) ?_
 refine bw (E := ct) (xs := [⟨2, 1, ⟨20, 25⟩⟩, ⟨2, 0, ⟨10, 24⟩⟩]) rfl rfl rfl rfl rfl (by decide) (by decide) (by repeat (first | exact (aX.nil : aX _ _ [] _) | (show aX _ _ ((_, _) :: _) _; apply aX.agg; (· exact (rfl : _ = Ty.agg _))))) (by exact rfl) rfl ?_
 refine zE rfl (aD (aC (aG (cW mixed rfl (az (ig _ _) rfl rfl rfl rfl rfl ?_)))))
 refine dB rfl rfl (by exact List.cons_ne_nil _ _) rfl (by repeat (first | exact (aX.nil : aX _ _ [] _) | (show aX _ _ ((_, _) :: _) _; apply aX.one; (· exact (rfl : _ = Ty.int _ _)); (· exact rfl)) | (show aX _ _ ((_, _) :: _) _; apply aX.agg; (· exact (rfl : _ = Ty.agg _))))) (by exact (rfl : _ = some [_, _, _])) ?_
 refine dB rfl rfl (by exact List.cons_ne_nil _ _) rfl (by repeat (first | exact (aX.nil : aX _ _ [] _) | (show aX _ _ ((_, _) :: _) _; apply aX.one; (· exact (rfl : _ = Ty.int _ _)); (· exact rfl)))) (by exact (rfl : _ = some [_, _, _])) ?_
 refine bw (E := dO) (xs := [⟨100, ⟨20, 30⟩⟩, ⟨50, ⟨0, 0⟩⟩]) rfl rfl rfl rfl rfl (by decide) (by decide) (by repeat (first | exact (aX.nil : aX _ _ [] _) | (show aX _ _ ((_, _) :: _) _; apply aX.agg; (· exact (rfl : _ = Ty.agg _))))) (by exact rfl) rfl ?_
 refine az (ig _ _) rfl rfl rfl rfl rfl ?_
 refine dB rfl rfl (by exact List.cons_ne_nil _ _) rfl (by repeat (first | exact (aX.nil : aX _ _ [] _) | (show aX _ _ ((_, _) :: _) _; apply aX.one; (· exact (rfl : _ = Ty.int _ _)); (· exact rfl)) | (show aX _ _ ((_, _) :: _) _; apply aX.agg; (· exact (rfl : _ = Ty.agg _))))) (by exact rfl) ?_
 refine az (ig _ _) rfl rfl rfl rfl rfl ?_
 refine dB rfl rfl (by exact List.cons_ne_nil _ _) rfl (by repeat (first | exact (aX.nil : aX _ _ [] _) | (show aX _ _ ((_, _) :: _) _; apply aX.one; (· exact (rfl : _ = Ty.int _ _)); (· exact rfl)) | (show aX _ _ ((_, _) :: _) _; apply aX.agg; (· exact (rfl : _ = Ty.agg _))))) (by exact rfl) ?_
 refine az (ig _ _) rfl rfl rfl rfl rfl ?_
 refine dB rfl rfl (by exact List.cons_ne_nil _ _) rfl (by repeat (first | exact (aX.nil : aX _ _ [] _) | (show aX _ _ ((_, _) :: _) _; apply aX.one; (· exact (rfl : _ = Ty.int _ _)); (· exact rfl)) | (show aX _ _ ((_, _) :: _) _; apply aX.agg; (· exact (rfl : _ = Ty.agg _))))) (by exact rfl) ?_
 refine bw (E := cR) (xs := [⟨0, -1, 0, ⟨40, 60⟩⟩, ⟨1, 0, 1, ⟨10, 40⟩⟩, ⟨1, 1, -1, ⟨5, 10⟩⟩]) rfl rfl rfl rfl rfl (by decide) (by decide) (by repeat (first | exact (aX.nil : aX _ _ [] _) | (show aX _ _ ((_, _) :: _) _; apply aX.agg; (· exact (rfl : _ = Ty.agg _))))) (by exact rfl) rfl ?_
 refine fU rfl (bQ rfl (fU rfl (cY rfl rfl rfl (uV rfl rfl (ue rfl rfl ?_)))))
 refine Ij (hi := k) rfl (show _ = Ty.int .i64 ((k : Nat) : Int) from congrArg (Ty.int .i64) (by show max 0 (min (k : Int) 2) = (k : Int); omega)) rfl rfl rfl rfl (by show k ≤ 2; exact hk) ?_
 refine dB rfl rfl (by exact List.cons_ne_nil _ _) rfl (by repeat (first | exact (aX.nil : aX _ _ [] _) | (show aX _ _ ((_, _) :: _) _; apply aX.one; (· first | exact (rfl : _ = Ty.int _ _) | exact (rfl : _ = Ty.sl _ _)); (· exact rfl)))) (by exact (rfl : _ = some [_, _, _, _])) ?_
 refine bp rfl rfl (by decide) rfl rfl rfl rfl rfl rfl ?_
 refine aD ?_
 refine ⟨by kernel_rfl, ?_⟩
 refine aC (av ?_)
 refine AL rfl rfl rfl rfl (by decide) rfl rfl rfl ?_
 all_goals exact bE rfl rfl rfl
set_option maxRecDepth 100000 in
theorem K5 : dy Tryz.prog 27 [] (Ty.bool true) := by
 refine bC Tryz.func27 rfl (by decide) Tryz.ntmps27 (by exact Nat.le_of_ble_eq_true rfl) fun w0 M0 => ?_
 refine aG (aA (dw rfl (aD (aC (aG (aA ?_))))))
 refine az (uj 0 (by decide)) rfl rfl rfl rfl rfl ?_
 refine az (nJ (two 0) (jW (by decide)) 0) rfl rfl rfl rfl rfl ?_
 refine qq rfl (bL rfl rfl (bL rfl rfl (zE rfl (cE rfl (aD (aC (aG (aA ?_))))))))
 refine az (uj 0 (by decide)) rfl rfl rfl rfl rfl ?_
 refine az (Kg (two 0) (jW (by decide))) rfl rfl rfl rfl rfl ?_
 refine qq rfl (bL rfl rfl (bL rfl rfl (zE rfl (cE rfl (aD (aC (aG (aA ?_))))))))
 refine az (uj 1 (by decide)) rfl rfl rfl rfl rfl ?_
 refine az (K2 (two 1) (jW (by decide)) 1) rfl rfl rfl rfl rfl ?_
 refine qq rfl (bL rfl rfl (bL rfl rfl ?_))
 refine b9 rfl (by exact List.cons_ne_nil _ _) rfl ?_
 refine bp rfl rfl (by decide) rfl rfl rfl rfl rfl rfl ?_
 refine cE rfl (aD (aC (aG (aA ?_))))
 refine az (uj 1 (by decide)) rfl rfl rfl rfl rfl ?_
 refine az (HE (two 1) (jW (by decide)) 0 60) rfl rfl rfl rfl rfl ?_
 refine qq rfl (bL rfl rfl (bL rfl rfl (cE rfl (cE rfl (aD (aC (aG (aA ?_))))))))
 refine dB rfl rfl (by exact List.cons_ne_nil _ _) rfl (by repeat (exact (aX.nil : aX _ _ [] _))) (by exact (rfl : _ = some [_, _])) ?_
 refine dB rfl rfl (by exact List.cons_ne_nil _ _) rfl (by repeat (first | exact (aX.nil : aX _ _ [] _) | (show aX _ _ ((_, _) :: _) _; apply aX.one; (· exact (rfl : _ = Ty.int _ _)); (· exact rfl)))) (by exact (rfl : _ = some [_, _])) ?_
 refine dB rfl rfl (by exact List.cons_ne_nil _ _) rfl (by repeat (first | exact (aX.nil : aX _ _ [] _) | (show aX _ _ ((_, _) :: _) _; apply aX.one; (· exact (rfl : _ = Ty.int _ _)); (· exact rfl)))) (by exact (rfl : _ = some [_, _])) ?_
 refine bw (E := q8) (xs := xJ.cells) rfl rfl rfl rfl rfl (by decide) (by decide) (by repeat (first | exact (aX.nil : aX _ _ [] _) | (show aX _ _ ((_, _) :: _) _; apply aX.agg; (· exact (rfl : _ = Ty.agg _))))) (by exact rfl) rfl ?_
 refine dB rfl rfl (by exact List.cons_ne_nil _ _) rfl (by repeat (first | exact (aX.nil : aX _ _ [] _) | (show aX _ _ ((_, _) :: _) _; apply aX.one; (· exact (rfl : _ = Ty.sl _ _)); (· exact rfl)))) (by exact (rfl : _ = some [_, _])) ?_
 refine b9 rfl (by exact List.cons_ne_nil _ _) rfl ?_
 refine bp rfl rfl (by decide) rfl rfl rfl rfl rfl rfl ?_
 refine aD (aC (aG (cW mixed rfl ?_)))
 refine az (uj 2 (by decide)) rfl rfl rfl rfl rfl ?_
 refine bS rfl rfl (by decide) rfl rfl (by exact Nat.le_of_ble_eq_true rfl) ?_
 refine az (Hj (two 2) (jW (by decide)) xJ (by decide)) rfl rfl rfl rfl rfl ?_
 refine qq rfl (bL rfl rfl (bL rfl rfl (cE rfl (cE rfl (aD ?_)))))
 refine ⟨by kernel_rfl, ?_⟩
 refine aC (aG (aA ?_))
 refine az (uj 2 (by decide)) rfl rfl rfl rfl rfl ?_
 refine az (LI (two 2) (jW (by decide))) rfl rfl rfl rfl rfl ?_
 refine qq rfl (bL rfl rfl (bL rfl rfl (zE rfl (cE rfl (aD (aC (aG (aA ?_))))))))
 refine az (uj 2 (by decide)) rfl rfl rfl rfl rfl ?_
 refine az (Av (two 2) (jW (by decide))) rfl rfl rfl rfl rfl ?_
 refine qq rfl (bL rfl rfl (bL rfl rfl (zE rfl (cE rfl (aD (aC (aG (aA ?_))))))))
 refine az (uj 2 (by decide)) rfl rfl rfl rfl rfl ?_
 refine az (ML (two 2) (jW (by decide))) rfl rfl rfl rfl rfl ?_
 refine qq rfl (bL rfl rfl (bL rfl rfl ?_))
 refine b9 rfl (by exact List.cons_ne_nil _ _) rfl ?_
 refine bp rfl rfl (by decide) rfl rfl rfl rfl rfl rfl ?_
 refine cE rfl (aD (aC (aG ?_)))
 refine gT (s := 1) rfl (Ty.sub_eq (congrArg (Ty.sl dm) J9)) ?_
 refine gT (s := 2) rfl (Ty.au N4) ?_
 refine gT (s := 3) rfl (Ty.sub_eq (congrArg (Ty.sl dm) Mz)) ?_
 refine gT (s := 4) rfl (Ty.au (kV (k := 0) (by decide))) ?_
 refine fV (tg := 6) rfl (Cont.jz (congrArg dm.tys MY)) ?_
 refine gT (s := 6) rfl (Ty.au Ni) ?_
 refine gT (s := 7) rfl (Ty.au NG) ?_
 refine gT (s := 8) rfl (Ty.au LQ.1.symm) ?_
 refine gT (s := 10) rfl (Ty.au Mj) ?_
 refine gT (s := 11) rfl (Ty.au Nn.1.symm) ?_
 refine gT (s := 12) rfl (Ty.sub_eq (congrArg (Ty.sl cS) Gu)) ?_
 refine gT (s := 13) rfl (Ty.au Lu.1.symm) ?_
 refine gT (s := 14) rfl (Ty.sub_eq (congrArg (Ty.sl cS) HZ)) ?_
 refine gT (s := 15) rfl (Ty.au Lo.1.symm) ?_
 refine gT (s := 17) rfl (Ty.au Ko) ?_
 refine c9 (B := live [(1, Ty.sl dm [⟨20, 30⟩, ⟨60, 90⟩, ⟨20, 80⟩]), (2, Ty.int .i64 0), (3, Ty.sl dm [⟨20, 30⟩, ⟨60, 90⟩, ⟨50, 85⟩]), (4, Ty.int .i64 0), (5, Ty.ptr 6 0), (6, Ty.int .i64 0), (7, Ty.int .i64 1), (8, Ty.int .i64 0), (10, Ty.int .i64 1), (11, Ty.int .i64 0), (12, Ty.sl cS [0, 1]), (13, Ty.int .i64 0), (14, Ty.sl cS [0]), (15, Ty.int .i64 0), (17, Ty.int .i64 7)] [(6, Cont.cells 37 (dm.tys ⟨25, 35⟩))]) ?_ ?_
 ·(refine dG.mk' ?_ ?_ <;> (repeat' (first | exact aI | exact aJ | refine aB ?_ (Ty.aU _) | refine aB ?_ (Ty.aE _) | refine aF rfl (Cont.aE _) ?_)))
 refine cW mixed rfl (bQ rfl (bF rfl rfl rfl (g8 rfl ?_)))
 apply aT (s := 66) rfl rfl rfl
 ·intro hg; apply aV; (refine bQ rfl ?_); refine aD ?_; exact rfl
 ·exact rfl
 ·exact rfl
 apply aT (s := 66) rfl rfl rfl
 ·intro hg; apply aR (s := 67) rfl (by exact hg); apply aV; (refine bF rfl rfl rfl ?_); refine aD ?_; exact rfl
 ·exact rfl
 ·exact rfl
 refine eX rfl rfl (g8 rfl ?_)
 apply aT (s := 70) rfl rfl rfl
 ·intro hg; apply aV; (refine bQ rfl ?_); refine aD ?_; exact rfl
 ·exact rfl
 ·exact rfl
 apply aT (s := 70) rfl rfl rfl
 ·intro hg; apply aR (s := 71) rfl (by exact hg); apply aV; (refine bF rfl rfl rfl ?_); refine aD ?_; exact rfl
 ·exact rfl
 ·exact rfl
 refine eX rfl rfl (g8 rfl ?_)
 apply aT (s := 74) rfl rfl rfl
 ·intro hg; apply aV; (refine bQ rfl ?_); refine aD ?_; exact rfl
 ·exact rfl
 ·exact rfl
 apply aT (s := 74) rfl rfl rfl
 ·intro hg; apply aR (s := 75) rfl (by exact hg); apply aV; (refine bF rfl rfl rfl ?_); refine aD ?_; exact rfl
 ·exact rfl
 ·exact rfl
 refine eX rfl rfl (g8 rfl ?_)
 apply aT (s := 78) rfl rfl rfl
 ·intro hg; apply aV; (refine bQ rfl ?_); refine aD ?_; exact rfl
 ·exact rfl
 ·exact rfl
 apply aT (s := 78) rfl rfl rfl
 ·intro hg; apply aR (s := 79) rfl (by exact hg); apply aV; (refine bF rfl rfl rfl ?_); refine aD ?_; exact rfl
 ·exact rfl
 ·exact rfl
 refine eX rfl rfl (g8 rfl ?_)
 apply aT (s := 82) rfl rfl rfl
 ·intro hg; apply aV; (refine bQ rfl ?_); refine aD ?_; exact rfl
 ·exact rfl
 ·exact rfl
 apply aT (s := 82) rfl rfl rfl
 ·intro hg; apply aR (s := 83) rfl (by exact hg); apply aV; (refine bF rfl rfl rfl ?_); refine aD ?_; exact rfl
 ·exact rfl
 ·exact rfl
 refine eX rfl rfl (g8 rfl ?_)
 apply aT (s := 86) rfl rfl rfl
 ·intro hg; apply aV; (refine bQ rfl ?_); refine aD ?_; exact rfl
 ·exact rfl
 ·exact rfl
 apply aT (s := 86) rfl rfl rfl
 ·intro hg; apply aR (s := 87) rfl (by exact hg); apply aV; (refine bF rfl rfl rfl ?_); refine aD ?_; exact rfl
 ·exact rfl
 ·exact rfl
 refine eX rfl rfl (g8 rfl ?_)
 apply aT (s := 90) rfl rfl rfl
 ·intro hg; apply aV; (refine bQ rfl ?_); refine aD ?_; exact rfl
 ·exact rfl
 ·exact rfl
 apply aT (s := 90) rfl rfl rfl
 ·intro hg; apply aR (s := 91) rfl (by exact hg); apply aV; (refine bF rfl rfl rfl ?_); refine aD ?_; exact rfl
 ·exact rfl
 ·exact rfl
 refine eX rfl rfl (g8 rfl ?_)
 apply aT (s := 94) rfl rfl rfl
 ·intro hg; apply aV; (refine fU rfl ?_); refine aD ?_; exact rfl
 ·exact rfl
 ·exact rfl
 apply aT (s := 94) rfl rfl rfl
 ·intro hg; apply aV; (refine az (ig _ _) rfl rfl rfl rfl rfl ?_); refine aD ?_; exact rfl
 ·exact rfl
 ·exact rfl
 apply aT (s := 94) rfl rfl rfl
 ·intro hg; apply aV; (refine az (ig _ _) rfl rfl rfl rfl rfl ?_); refine aD ?_; exact rfl
 ·exact rfl
 ·exact rfl
 apply aT (s := 94) rfl rfl rfl
 ·intro hg; apply aV; (refine az (ig _ _) rfl rfl rfl rfl rfl ?_); refine aD ?_; exact rfl
 ·exact rfl
 ·exact rfl
 apply aT (s := 94) rfl rfl rfl
 ·intro hg; apply aR (s := 96) rfl (by exact hg); apply aR (s := 97) rfl (by exact hg); apply aR (s := 98) rfl (by exact hg); apply aV; (refine bw (E := dm) (xs := [⟨20, 30⟩, ⟨60, 90⟩, ⟨20, 80⟩]) rfl rfl rfl rfl rfl (by decide) (by decide) (by repeat (first | exact (aX.nil : aX _ _ [] _) | (show aX _ _ ((_, _) :: _) _; apply aX.agg; (· exact (rfl : _ = Ty.agg _))))) (by exact rfl) rfl ?_); refine aD ?_; exact rfl
 ·exact rfl
 ·exact rfl
 apply aT (s := 94) rfl rfl rfl
 ·intro hg; apply aR (s := 95) rfl (by exact hg); apply aR (s := 99) rfl (by exact hg); apply aV; (refine az (xd _ _) rfl rfl rfl rfl rfl ?_); refine aD ?_; exact rfl
 ·exact rfl
 ·exact rfl
 refine eX rfl rfl (g8 rfl ?_)
 apply aT (s := 102) rfl rfl rfl
 ·intro hg; apply aV; (refine fU rfl ?_); refine aD ?_; exact rfl
 ·exact rfl
 ·exact rfl
 apply aT (s := 102) rfl rfl rfl
 ·intro hg; apply aV; (refine az (ig _ _) rfl rfl rfl rfl rfl ?_); refine aD ?_; exact rfl
 ·exact rfl
 ·exact rfl
 apply aT (s := 102) rfl rfl rfl
 ·intro hg; apply aV; (refine az (ig _ _) rfl rfl rfl rfl rfl ?_); refine aD ?_; exact rfl
 ·exact rfl
 ·exact rfl
 apply aT (s := 102) rfl rfl rfl
 ·intro hg; apply aV; (refine az (ig _ _) rfl rfl rfl rfl rfl ?_); refine aD ?_; exact rfl
 ·exact rfl
 ·exact rfl
 apply aT (s := 102) rfl rfl rfl
 ·intro hg; apply aR (s := 104) rfl (by exact hg); apply aR (s := 105) rfl (by exact hg); apply aR (s := 106) rfl (by exact hg); apply aV; (refine bw (E := dm) (xs := [⟨20, 30⟩, ⟨60, 90⟩, ⟨50, 85⟩]) rfl rfl rfl rfl rfl (by decide) (by decide) (by repeat (first | exact (aX.nil : aX _ _ [] _) | (show aX _ _ ((_, _) :: _) _; apply aX.agg; (· exact (rfl : _ = Ty.agg _))))) (by exact rfl) rfl ?_); refine aD ?_; exact rfl
 ·exact rfl
 ·exact rfl
 apply aT (s := 102) rfl rfl rfl
 ·intro hg; apply aR (s := 103) rfl (by exact hg); apply aR (s := 107) rfl (by exact hg); apply aV; (refine az (xd _ _) rfl rfl rfl rfl rfl ?_); refine aD ?_; exact rfl
 ·exact rfl
 ·exact rfl
 refine eX rfl rfl (g8 rfl ?_)
 apply aT (s := 110) rfl rfl rfl
 ·intro hg; apply aV; (refine bS rfl rfl (by decide) rfl rfl (by exact Nat.le_of_ble_eq_true rfl) ?_); refine aD ?_; exact rfl
 ·exact rfl
 ·exact rfl
 apply aT (s := 110) rfl rfl rfl
 ·intro hg; apply aV; (refine az (ig _ _) rfl rfl rfl rfl rfl ?_); refine aD ?_; exact rfl
 ·exact rfl
 ·exact rfl
 apply aT (s := 110) rfl rfl rfl
 ·intro hg; apply aR (s := 111) rfl (by exact hg); apply aR (s := 112) rfl (by exact hg); apply aV; (refine Kp (LY _ _ _ _) rfl rfl ?_); refine aD ?_; exact rfl
 ·exact rfl
 ·exact rfl
 refine eX rfl rfl (g8 rfl ?_)
 apply aT (s := 115) rfl rfl rfl
 ·intro hg; apply aV; (refine bQ rfl ?_); refine aD ?_; exact rfl
 ·exact rfl
 ·exact rfl
 apply aT (s := 115) rfl rfl rfl
 ·intro hg; apply aR (s := 116) rfl (by exact hg); apply aV; (refine bF rfl rfl rfl ?_); refine aD ?_; exact rfl
 ·exact rfl
 ·exact rfl
 refine eX rfl rfl (g8 rfl ?_)
 apply aT (s := 119) rfl rfl rfl
 ·intro hg; apply aV; (refine bQ rfl ?_); refine aD ?_; exact rfl
 ·exact rfl
 ·exact rfl
 apply aT (s := 119) rfl rfl rfl
 ·intro hg; apply aR (s := 120) rfl (by exact hg); apply aV; (refine bF rfl rfl rfl ?_); refine aD ?_; exact rfl
 ·exact rfl
 ·exact rfl
 refine eX rfl rfl (g8 rfl ?_)
 apply aT (s := 123) rfl rfl rfl
 ·intro hg; apply aV; (refine fU rfl ?_); refine aD ?_; exact rfl
 ·exact rfl
 ·exact rfl
 apply aT (s := 123) rfl rfl rfl
 ·intro hg; apply aV; (refine bw (E := cS) (xs := [0, 1]) rfl rfl rfl rfl rfl (by decide) (by decide) (by repeat (first | exact (aX.nil : aX _ _ [] _) | (show aX _ _ ((_, _) :: _) _; apply aX.one; (· exact (rfl : _ = Ty.int _ _)); (· exact rfl)))) (by exact rfl) rfl ?_); refine aD ?_; exact rfl
 ·exact rfl
 ·exact rfl
 apply aT (s := 123) rfl rfl rfl
 ·intro hg; apply aR (s := 124) rfl (by exact hg); apply aR (s := 125) rfl (by exact hg); apply aV; (refine az (CB _ _) rfl rfl rfl rfl rfl ?_); refine aD ?_; exact rfl
 ·exact rfl
 ·exact rfl
 refine eX rfl rfl (g8 rfl ?_)
 apply aT (s := 128) rfl rfl rfl
 ·intro hg; apply aV; (refine fU rfl ?_); refine aD ?_; exact rfl
 ·exact rfl
 ·exact rfl
 apply aT (s := 128) rfl rfl rfl
 ·intro hg; apply aV; (refine bw (E := cS) (xs := [0]) rfl rfl rfl rfl rfl (by decide) (by decide) (by repeat (first | exact (aX.nil : aX _ _ [] _) | (show aX _ _ ((_, _) :: _) _; apply aX.one; (· exact (rfl : _ = Ty.int _ _)); (· exact rfl)))) (by exact rfl) rfl ?_); refine aD ?_; exact rfl
 ·exact rfl
 ·exact rfl
 apply aT (s := 128) rfl rfl rfl
 ·intro hg; apply aR (s := 129) rfl (by exact hg); apply aR (s := 130) rfl (by exact hg); apply aV; (refine az (CB _ _) rfl rfl rfl rfl rfl ?_); refine aD ?_; exact rfl
 ·exact rfl
 ·exact rfl
 refine eX rfl rfl (dw rfl (aD ?_))
 refine ⟨by kernel_rfl, ?_⟩
 refine aC (av (bz rfl rfl ?_))
 all_goals exact cV rfl rfl
 all_goals trace_state
end Go.Proofs.YtelbollidfdcjaaGreat
namespace Go.Proofs.YtelbollidfdcjaaGreat
open Go Go.T
set_option maxHeartbeats 2000000
attribute [local irreducible] iN fQ m5 qc ir iW ij iy iw qY iZ qW dz ga qV gG qd nth fP dh aa dy bodyPost Exit.then Exit.inBlock Code.wp Code.wpIn qh iq qb qU ia dn cU cj bodyPostM eF
set_option maxRecDepth 100000 in
theorem Fq (s : Sk) (h : s.Ok 1) : dn Tryz.prog 139 [1000] [(1000, Cont.cells 149 (cX s))] [Ty.ptr 1000 0] [(1000, Cont.cells 149 (cX (aY s)))] (Ty.int .i64 (mM (aY s))) := by
 refine c6 Tryz.func139 rfl (by decide) Tryz.ntmps139 (by exact Nat.le_of_ble_eq_true rfl) fun w0 M0 => ?_
 have h0 : 0 ≤ s.taken ∧ s.taken + 1 ≤ 4611686018427387904 := h
 refine aG (aA (cE rfl (aD (aC ?_))))
 refine k7 (J := live [(0, Ty.ptr 1000 0)] [(1000, Cont.cells 149 (cX (iD s)))]) ?_ ?_
 ·
  refine aG (aA (oV rfl (cM rfl ?_)))
  refine aK rfl rfl rfl rfl rfl (by decide) ?_
  refine aS rfl rfl (by decide) rfl rfl rfl ?_
  refine cY rfl rfl rfl (cE rfl (aD (aC (aG (aA (bQ rfl (bF rfl rfl rfl (aD (aC ?_)))))))))
  refine aq rfl (fun hc1 => ?_) (fun hc1 => ?_)
  ·
   have hm := Kn (a := s.taken) (b := s.grain.length) h0.1 (by omega)
   refine cW mixed rfl (oV rfl (oV rfl (cM rfl ?_)))
   refine aK rfl rfl rfl rfl rfl (by decide) ?_
   refine aS rfl rfl (by decide) rfl rfl rfl ?_
   refine oV rfl (cM rfl ?_)
   refine aK rfl rfl rfl rfl rfl (by decide) ?_
   refine aS rfl rfl (by decide) rfl rfl rfl ?_
   refine oV rfl (cM rfl ?_)
   refine aK rfl rfl rfl rfl rfl (by decide) ?_
   refine aS rfl rfl (by decide) rfl rfl rfl ?_
   refine bQ rfl ?_
   refine Lt rfl rfl (by omega) ?_
   refine j5 rfl rfl rfl rfl rfl rfl (by omega) (by omega) ?_
   refine aL rfl rfl rfl rfl (Dg rfl rfl rfl rfl (bF rfl rfl rfl (bF rfl rfl rfl (cM rfl ?_))))
   refine aK rfl rfl rfl rfl rfl (by decide) ?_
   refine cq rfl rfl (by decide) rfl rfl (by exact (rfl : _ = Ty.int _ _)) rfl (by exact Nat.le_of_ble_eq_true rfl) rfl rfl (by exact rfl) ?_
   refine aD ?_
   refine ⟨by kernel_rfl, ?_⟩
   refine fJ ?_
   (refine dG.mk' ?_ ?_ <;> (repeat' (first | exact aI | exact aJ | exact dS | refine aB ?_ (Ty.aU _) | refine aB ?_ (Ty.aE _) | refine aF rfl (Cont.dV ?_) ?_ | refine bu ?_ ?_)))
   all_goals first | exact Ty.au (congrArg Sk.mixed (EA hc1).symm) | exact Ty.au (lN s).symm | exact Ty.hH (sP s).symm
  refine aj (fJ ?_)
  (refine dG.mk' ?_ ?_ <;> (repeat' (first | exact aI | exact aJ | exact dS | refine aB ?_ (Ty.aU _) | refine aB ?_ (Ty.aE _) | refine aF rfl (Cont.dV ?_) ?_ | refine bu ?_ ?_)))
  all_goals first | exact Ty.au (congrArg Sk.mixed (Dh hc1).symm) | exact Ty.au (lN s).symm | exact Ty.hH (sP s).symm
 refine aG ?_
 have h1 := lN s
 refine aA (oV rfl (cM rfl ?_))
 refine aK rfl rfl rfl rfl rfl (by decide) ?_
 refine aS rfl rfl (by decide) rfl rfl rfl ?_
 refine cD rfl rfl (by omega) (by omega) ?_
 refine cM rfl ?_
 refine aK rfl rfl rfl rfl rfl (by decide) ?_
 refine cq rfl rfl (by decide) rfl rfl (by exact (rfl : _ = Ty.int _ _)) rfl (by exact Nat.le_of_ble_eq_true rfl) rfl rfl (by exact rfl) ?_
 refine aD (aC ?_)
 refine k7 (J := live [(0, Ty.ptr 1000 0)] [(1000, Cont.cells 149 (cX (aY s)))]) ?_ ?_
 ·
  refine aG (cW mixed rfl (oV rfl (cM rfl ?_)))
  refine aK rfl rfl rfl rfl rfl (by decide) ?_
  refine aS rfl rfl (by decide) rfl rfl rfl ?_
  refine oV rfl (cM rfl ?_)
  refine aK rfl rfl rfl rfl rfl (by decide) ?_
  refine aS rfl rfl (by decide) rfl rfl rfl ?_
  refine cY rfl rfl rfl (bF rfl rfl rfl (aD ?_))
  refine ⟨by kernel_rfl, ?_⟩
  refine aC ?_
  refine aq rfl (fun hc2 => ?_) (fun hc2 => ?_)
  ·
   refine aA (oV rfl (oV rfl (cM rfl ?_)))
   refine aK rfl rfl rfl rfl rfl (by decide) ?_
   refine aS rfl rfl (by decide) rfl rfl rfl ?_
   refine bF rfl rfl rfl (bF rfl rfl rfl (cM rfl ?_))
   refine aK rfl rfl rfl rfl rfl (by decide) ?_
   refine cq rfl rfl (by decide) rfl rfl (by exact (rfl : _ = Ty.int _ _)) rfl (by exact Nat.le_of_ble_eq_true rfl) rfl rfl (by exact rfl) ?_
   refine aD (fJ ?_)
   (refine dG.mk' ?_ ?_ <;> (repeat' (first | exact aI | exact aJ | exact dS | refine aB ?_ (Ty.aU _) | refine aB ?_ (Ty.aE _) | refine aF rfl (Cont.dV ?_) ?_ | refine bu ?_ ?_)))
   all_goals first | exact Ty.au (congrArg Sk.mixed (Dd (s := ow (iD s)) hc2).symm) | exact Ty.au (nv (ow (iD s))).symm | exact Ty.hH (sB (ow (iD s))).symm
  refine aj (fJ ?_)
  (refine dG.mk' ?_ ?_ <;> (repeat' (first | exact aI | exact aJ | exact dS | refine aB ?_ (Ty.aU _) | refine aB ?_ (Ty.aE _) | refine aF rfl (Cont.dV ?_) ?_ | refine bu ?_ ?_)))
  all_goals first | exact Ty.au (DL hc2) | exact Ty.au (nv (ow (iD s))).symm | exact Ty.hH (sB (ow (iD s))).symm
 refine aG (cW mixed rfl (oV rfl (cM rfl ?_)))
 refine aK rfl rfl rfl rfl rfl (by decide) ?_
 refine aS rfl rfl (by decide) rfl rfl rfl ?_
 refine oV rfl (cM rfl ?_)
 refine aK rfl rfl rfl rfl rfl (by decide) ?_
 refine aS rfl rfl (by decide) rfl rfl rfl ?_
 refine LN rfl rfl (by omega) (by decide) ?_
 refine bF rfl rfl rfl ?_
 refine LN rfl rfl (by omega) (by decide) ?_
 refine bF rfl rfl rfl (Dg rfl rfl rfl rfl (cE rfl (aD ?_)))
 refine ⟨by kernel_rfl, ?_⟩
 refine aC (av ?_)
 refine ew [1000] rfl rfl (by decide) (by repeat (first | exact dR | refine c7 rfl (bA (by decide) rfl rfl rfl) ?_)) ?_
 all_goals exact eA (aN rfl rfl)
 all_goals exact eA (lA rfl rfl rfl)
set_option maxRecDepth 100000 in
theorem iV (s : Sk) (h : s.Ok 1) (n : Int) : dn Tryz.prog 64 [1000] [(1000, Cont.cells 149 (cX s))] [Ty.ptr 1000 0, Ty.int .i64 n] [(1000, Cont.cells 149 (cX (aY s)))] (Ty.int .i64 (bZ s n)) := by
 refine c6 Tryz.func64 rfl (by decide) Tryz.ntmps64 (by exact Nat.le_of_ble_eq_true rfl) fun w0 M0 => ?_
 refine aG (aA (cE rfl (aD (aC (aG (aA (oV rfl ?_)))))))
 refine bk [(1000, 1000)] [] [(1000, Cont.cells 149 (cX (aY s)))] (Fq s h) rfl rfl (by repeat (first | exact bD | refine aH ?_ ?_ | exact dU List.mem_cons_self)) (b8 (a := 1000) (b := 1000) (by exact List.mem_cons_self) rfl (bA (by exact List.mem_cons_self) rfl rfl rfl) pre_nil) (bG (a := 1000) (b := 1000) (by exact List.mem_cons_self) rfl (bA (by exact List.mem_cons_self) rfl rfl rfl) post_nil) (aN rfl rfl) ?_
 refine bQ rfl (ue rfl rfl ?_)
 refine Lt rfl rfl (by omega) ?_
 refine cE rfl (aD (aC (av ?_)))
 refine ew [1000] rfl rfl (by decide) (by repeat (first | exact dR | refine c7 rfl (bA (by decide) rfl rfl rfl) ?_)) ?_
 all_goals exact eA (aN rfl rfl)
set_option maxRecDepth 100000 in
theorem vn (s : Sk) (h : s.Ok 1) (lo hi : Int) (hlo : -1000000 ≤ lo ∧ lo ≤ 1000000) (hhi : -1000000 ≤ hi ∧ hi ≤ 1000000) : dn Tryz.prog 81 [1000] [(1000, Cont.cells 149 (cX s))] [Ty.ptr 1000 0, Ty.int .i64 lo, Ty.int .i64 hi] [(1000, Cont.cells 149 (cX (aY s)))] (Ty.int .i64 (jH s lo hi)) := by
 refine c6 Tryz.func81 rfl (by decide) Tryz.ntmps81 (by exact Nat.le_of_ble_eq_true rfl) fun w0 M0 => ?_
 have hb := cT s (hi - lo + 1)
 refine aG (aA (cE rfl (aD (aC (aG (aA (bQ rfl (oV rfl (bQ rfl ?_)))))))))
 refine bQ rfl ?_
 refine iB rfl rfl (by omega) (by omega) ?_
 refine cD rfl rfl (by omega) (by omega) ?_
 refine bk [(1000, 1000)] [] [(1000, Cont.cells 149 (cX (aY s)))] (iV s h _) rfl rfl (by repeat (first | exact bD | refine aH ?_ ?_ | exact dU List.mem_cons_self | exact aN rfl rfl)) (b8 (a := 1000) (b := 1000) (by exact List.mem_cons_self) rfl (bA (by exact List.mem_cons_self) rfl rfl rfl) pre_nil) (bG (a := 1000) (b := 1000) (by exact List.mem_cons_self) rfl (bA (by exact List.mem_cons_self) rfl rfl rfl) post_nil) (aN rfl rfl) ?_
 refine cD rfl rfl (by omega) (by omega) ?_
 refine cE rfl (aD (aC (av ?_)))
 refine ew [1000] rfl rfl (by decide) (by repeat (first | exact dR | refine c7 rfl (bA (by decide) rfl rfl rfl) ?_)) ?_
 all_goals exact eA (aN rfl rfl)
set_option maxRecDepth 100000 in
theorem Ia (g : List Int) : dn Tryz.prog 18 [] [] [Ty.sl U8 g] [(10, Cont.cells 149 (cX (oB g)))] (Ty.ptr 10 0) := by
 refine c6 Tryz.func18 rfl (by decide) Tryz.ntmps18 (by exact Nat.le_of_ble_eq_true rfl) fun w0 M0 => ?_
 refine aG (aA (lB rfl (aD (aC (aG ?_)))))
 skip
 refine aA (fU rfl (fU rfl (cY rfl rfl rfl (Dg rfl rfl rfl rfl (bF rfl rfl rfl ?_)))))
 refine dB rfl rfl (by exact List.cons_ne_nil _ _) rfl (by repeat (first | exact (aX.nil : aX _ _ [] _) | (show aX _ _ ((_, _) :: _) _; apply aX.one; (· first | exact (rfl : _ = Ty.int _ _) | exact (rfl : _ = Ty.sl _ _)); (· exact rfl)))) (by exact (rfl : _ = some [_, _, _])) ?_
 refine tZ rfl rfl rfl (Ol rfl (aD (aC (av ?_))))
 refine ew [10] rfl rfl (by decide) (by repeat (first | exact dR | refine c7 rfl (bA (by decide) rfl rfl rfl) ?_)) ?_
 all_goals skip
 exact eA (dU (by exact List.mem_cons_self))
end Go.Proofs.YtelbollidfdcjaaGreat
namespace Go.Proofs.YtelbollidfdcjaaGreat
open Go Go.T
set_option maxHeartbeats 4000000
def r6 (n : Int) (s : Span) : Bool := decide (s.lo ≤ n) && decide (n ≤ s.hi)
structure Li (y : ah) (a : eM) : Prop where
  len : y.moves.length ≤ a.bg.length
  pT : a.bg.length ≤ 1000
  first : ∀ x ∈ a.first, -1000 ≤ x ∧ x ≤ 1000
  bg : ∀ x ∈ a.bg, -1000 ≤ x ∧ x ≤ 1000
theorem Li.up {y : ah} {a : eM} (h : Li y a) {bin time : Int} (hb : bin.toNat < a.first.length) {k : Nat} (hk : k ≤ y.moves.length) : -3000000 ≤ eC y a bin time k ∧ eC y a bin time k ≤ 3000000 := by
 have h1 := h.len
 have h2 := h.pT
 have := Jc (y := y) (bin := bin) (time := time) (B := 1000) (by omega) h.first h.bg hb k (by omega)
 omega
attribute [local irreducible] iN fQ m5 qc ir iW ij iy iw qY iZ qW dz ga qV gG qd nth fP dh aa dy bodyPost Exit.then Exit.inBlock Code.wp Code.wpIn qh iq qb qU ia dn cU cj bodyPostM eF
set_option maxRecDepth 100000 in
theorem iH (y : ah) (a : eM) (ha : Li y a) (bin time : Int) (h0 : 0 ≤ bin) (h1 : bin.toNat < a.first.length) : dy Tryz.prog 25 [fI y, qn a, Ty.int .i64 bin, Ty.int .i64 time] (Ty.int .i64 (cz y a bin time)) := by
 refine bC Tryz.func25 rfl (by decide) Tryz.ntmps25 (by exact Nat.le_of_ble_eq_true rfl) fun w0 M0 => ?_
 have hl1 := ha.len
 have hl2 := ha.pT
 refine aG (aA (bM rfl (bM rfl (cE rfl (aD (aC (aG (aA ?_))))))))
 refine aO rfl rfl rfl rfl rfl (by decide) ?_
 refine aL rfl rfl rfl rfl (bQ rfl (j5 rfl rfl rfl rfl rfl rfl h0 h1 (aL rfl rfl rfl rfl (cE rfl (aD (aC (aG (aG (aA ?_)))))))))
 refine aO rfl rfl rfl rfl rfl (by decide) ?_
 refine aL rfl rfl rfl rfl (cY rfl rfl rfl (bQ rfl (aD (aC (ak ?_)))))
 refine cg (fun (k : {k : Nat // k ≤ y.moves.length}) => live [(2, Ty.int .i64 bin), (3, Ty.int .i64 time), (4, Ty.pp (bK y)), (5, Ty.pp (dJ a)), (9, Ty.int .i64 (eC y a bin time k.1)), (18, Ty.sl cR y.moves), (19, Ty.int .i64 y.moves.length), (20, Ty.int .i64 (k.1 : Nat))] []) (fun k => y.moves.length - k.1) (⟨0, by omega⟩) ?_ fun k => ?_
 ·(refine dG.mk' ?_ ?_ <;> (repeat' (first | exact aI | exact aJ | refine aB ?_ (Ty.aU _) | refine aB ?_ (Ty.aE _))))
 have hk := k.2
 have hu := ha.up (time := time) h1 hk
 refine aG (aA (bF rfl rfl rfl (aD (aC (aG ?_)))))
 refine aq rfl (fun hc1 => ?_) (fun hc1 => ?_)
 ·
  refine aj (aC (aG (ak (aG (aA (bQ rfl ?_))))))
  refine bH rfl rfl rfl rfl rfl rfl (by omega) ?_
  refine aZ rfl rfl rfl (by exact Nat.le_of_ble_eq_true rfl) ?_
  refine b9 rfl (by exact List.cons_ne_nil _ _) rfl ?_
  refine cE rfl ?_
  refine bp rfl rfl (by decide) rfl rfl rfl rfl rfl rfl ?_
  refine aD (aC (aG (aG (aA ?_))))
  refine aK rfl rfl rfl rfl rfl (by decide) ?_
  refine aS rfl rfl (by decide) rfl rfl rfl ?_
  refine bQ rfl (bF rfl rfl rfl (g8 rfl ?_))
  apply aT (s := 29) rfl rfl rfl
  ·intro hg; apply aV; (refine aK rfl rfl rfl rfl rfl (by decide) ?_); refine aD ?_; exact rfl
  ·exact rfl
  ·exact rfl
  apply aT (s := 29) rfl rfl rfl
  ·intro hg; apply aR (s := 30) rfl (by (rw [hg]; rfl)); apply aV; (refine aS rfl rfl (by decide) rfl rfl rfl ?_); refine aD ?_; exact rfl
  ·exact rfl
  ·exact rfl
  apply aT (s := 29) rfl rfl rfl
  ·intro hg; apply aV; (refine bQ rfl ?_); refine aD ?_; exact rfl
  ·exact rfl
  ·exact rfl
  apply aT (s := 29) rfl rfl rfl
  ·intro hg; apply aR (s := 31) rfl (by (rw [hg]; rfl)); apply aR (s := 32) rfl (by (rw [hg]; rfl)); apply aV; (refine bF rfl rfl rfl ?_); refine aD ?_; exact rfl
  ·exact rfl
  ·exact rfl
  refine eX rfl rfl (aD (aC ?_))
  refine cx rfl (fun hc2 => ?_) (fun hc2 => ?_)
  ·
   have hm1 := ha.bg _ (cL (show k.1 < a.bg.length by omega))
   refine aA (bQ rfl ?_)
   refine aO rfl rfl rfl rfl rfl (by decide) ?_
   refine aL rfl rfl rfl rfl (bQ rfl ?_)
   refine bH rfl rfl rfl rfl rfl rfl (by omega) ?_
   refine aL rfl rfl rfl rfl ?_
   refine cD rfl rfl (by omega) (by omega) ?_
   refine cE rfl (aD (aC (aG (aA ?_))))
   refine aK rfl rfl rfl rfl rfl (by decide) ?_
   refine aS rfl rfl (by decide) rfl rfl rfl ?_
   refine bQ rfl (bF rfl rfl rfl (g8 rfl ?_))
   apply aT (s := 46) rfl rfl rfl
   ·intro hg; apply aV; (refine aK rfl rfl rfl rfl rfl (by decide) ?_); refine aD ?_; exact rfl
   ·exact rfl
   ·exact rfl
   apply aT (s := 46) rfl rfl rfl
   ·intro hg; apply aR (s := 47) rfl (by (rw [hg]; rfl)); apply aV; (refine aS rfl rfl (by decide) rfl rfl rfl ?_); refine aD ?_; exact rfl
   ·exact rfl
   ·exact rfl
   apply aT (s := 46) rfl rfl rfl
   ·intro hg; apply aV; (refine bQ rfl ?_); refine aD ?_; exact rfl
   ·exact rfl
   ·exact rfl
   apply aT (s := 46) rfl rfl rfl
   ·intro hg; apply aR (s := 48) rfl (by (rw [hg]; rfl)); apply aR (s := 49) rfl (by (rw [hg]; rfl)); apply aV; (refine bF rfl rfl rfl ?_); refine aD ?_; exact rfl
   ·exact rfl
   ·exact rfl
   refine eX rfl rfl (aD (aC ?_))
   refine cx rfl (fun hc3 => ?_) (fun hc3 => ?_)
   ·
    have hm2 := ha.bg _ (cL (show k.1 < a.bg.length by omega))
    refine aA (bQ rfl ?_)
    refine aO rfl rfl rfl rfl rfl (by decide) ?_
    refine aL rfl rfl rfl rfl (bQ rfl ?_)
    refine bH rfl rfl rfl rfl rfl rfl (by omega) ?_
    refine aL rfl rfl rfl rfl ?_
    refine iB rfl rfl (by omega) (by omega) ?_
    refine cE rfl (aD (bX (aC (aA ?_))))
    refine cD rfl rfl (by omega) (by omega) ?_
    refine bQ rfl (aD ?_)
    refine bl (⟨k.1 + 1, by omega⟩) ?_ (by show y.moves.length - (k.1 + 1) < y.moves.length - k.1; omega)
    (refine dG.mk' ?_ ?_ <;> (repeat' (first | exact aI | exact aJ | refine aB ?_ (Ty.aU _) | refine aB ?_ (Ty.aE _) | refine aB ?_ ?_)))
    all_goals skip
    all_goals exact Ty.au (N5 hc2 hc3)
   refine aj (bX (aC (aA ?_)))
   refine cD rfl rfl (by omega) (by omega) ?_
   refine bQ rfl (aD ?_)
   refine bl (⟨k.1 + 1, by omega⟩) ?_ (by show y.moves.length - (k.1 + 1) < y.moves.length - k.1; omega)
   (refine dG.mk' ?_ ?_ <;> (repeat' (first | exact aI | exact aJ | refine aB ?_ (Ty.aU _) | refine aB ?_ (Ty.aE _) | refine aB ?_ ?_)))
   all_goals skip
   all_goals exact Ty.au (OI hc2 hc3)
  refine aj (aC (aG (aA ?_)))
  refine aK rfl rfl rfl rfl rfl (by decide) ?_
  refine aS rfl rfl (by decide) rfl rfl rfl ?_
  refine bQ rfl (bF rfl rfl rfl (g8 rfl ?_))
  apply aT (s := 46) rfl rfl rfl
  ·intro hg; apply aV; (refine aK rfl rfl rfl rfl rfl (by decide) ?_); refine aD ?_; exact rfl
  ·exact rfl
  ·exact rfl
  apply aT (s := 46) rfl rfl rfl
  ·intro hg; apply aR (s := 47) rfl (by (rw [hg]; rfl)); apply aV; (refine aS rfl rfl (by decide) rfl rfl rfl ?_); refine aD ?_; exact rfl
  ·exact rfl
  ·exact rfl
  apply aT (s := 46) rfl rfl rfl
  ·intro hg; apply aV; (refine bQ rfl ?_); refine aD ?_; exact rfl
  ·exact rfl
  ·exact rfl
  apply aT (s := 46) rfl rfl rfl
  ·intro hg; apply aR (s := 48) rfl (by (rw [hg]; rfl)); apply aR (s := 49) rfl (by (rw [hg]; rfl)); apply aV; (refine bF rfl rfl rfl ?_); refine aD ?_; exact rfl
  ·exact rfl
  ·exact rfl
  refine eX rfl rfl (aD (aC ?_))
  refine cx rfl (fun hc4 => ?_) (fun hc4 => ?_)
  ·
   have hm2 := ha.bg _ (cL (show k.1 < a.bg.length by omega))
   refine aA (bQ rfl ?_)
   refine aO rfl rfl rfl rfl rfl (by decide) ?_
   refine aL rfl rfl rfl rfl (bQ rfl ?_)
   refine bH rfl rfl rfl rfl rfl rfl (by omega) ?_
   refine aL rfl rfl rfl rfl ?_
   refine iB rfl rfl (by omega) (by omega) ?_
   refine cE rfl (aD (bX (aC (aA ?_))))
   refine cD rfl rfl (by omega) (by omega) ?_
   refine bQ rfl (aD ?_)
   refine bl (⟨k.1 + 1, by omega⟩) ?_ (by show y.moves.length - (k.1 + 1) < y.moves.length - k.1; omega)
   (refine dG.mk' ?_ ?_ <;> (repeat' (first | exact aI | exact aJ | refine aB ?_ (Ty.aU _) | refine aB ?_ (Ty.aE _) | refine aB ?_ ?_)))
   all_goals skip
   all_goals exact Ty.au (Ng hc2 hc4)
  refine aj (bX (aC (aA ?_)))
  refine cD rfl rfl (by omega) (by omega) ?_
  refine bQ rfl (aD ?_)
  refine bl (⟨k.1 + 1, by omega⟩) ?_ (by show y.moves.length - (k.1 + 1) < y.moves.length - k.1; omega)
  (refine dG.mk' ?_ ?_ <;> (repeat' (first | exact aI | exact aJ | refine aB ?_ (Ty.aU _) | refine aB ?_ (Ty.aE _) | refine aB ?_ ?_)))
  all_goals skip
  all_goals exact Ty.au (Nv hc2 hc4)
 refine cZ (aQ (aQ (ay rfl (aC (aG (aA (bQ rfl (cE rfl (aD ?_)))))))))
 refine aC (av (bz rfl rfl ?_))
 all_goals skip
 all_goals exact bE rfl rfl (congrArg (Ty.int .i64) (by unfold cz; rw [show k.1 = y.moves.length by have := k.2; omega]))
set_option maxRecDepth 100000 in
theorem ry (n : Int) (s : Span) : dy Tryz.prog 26 [Ty.int .i64 n, Ty.agg (dm.tys s)] (Ty.bool (r6 n s)) := by
 refine bC Tryz.func26 rfl (by decide) Tryz.ntmps26 (by exact Nat.le_of_ble_eq_true rfl) fun w0 M0 => ?_
 refine aG (aA (bM rfl (dw rfl (aD (aC (aG (aA ?_)))))))
 refine aO rfl rfl rfl rfl rfl (by decide) ?_
 refine aL rfl rfl rfl rfl (bQ rfl (bF rfl rfl rfl (g8 rfl ?_)))
 apply aT (s := 9) rfl rfl rfl
 ·intro hg; apply aV; (refine bQ rfl ?_); refine aD ?_; exact rfl
 ·exact rfl
 ·exact rfl
 apply aT (s := 9) rfl rfl rfl
 ·intro hg; apply aV; (refine aO rfl rfl rfl rfl rfl (by decide) ?_); refine aD ?_; exact rfl
 ·exact rfl
 ·exact rfl
 apply aT (s := 9) rfl rfl rfl
 ·intro hg; apply aR (s := 11) rfl (by (rw [hg]; rfl)); apply aV; (refine aL rfl rfl rfl rfl ?_); refine aD ?_; exact rfl
 ·exact rfl
 ·exact rfl
 apply aT (s := 9) rfl rfl rfl
 ·intro hg; apply aR (s := 10) rfl (by (rw [hg]; rfl)); apply aR (s := 12) rfl (by (rw [hg]; rfl)); apply aV; (refine bF rfl rfl rfl ?_); refine aD ?_; exact rfl
 ·exact rfl
 ·exact rfl
 refine eX rfl rfl (dw rfl (aD (aC (av (bz rfl rfl ?_)))))
 all_goals exact cV rfl rfl
set_option maxRecDepth 100000 in
theorem D4 (s : Sk) (h : s.Ok 2) (n w : Int) (hn : -1000000 ≤ n ∧ n ≤ 1000000) (hw : 0 ≤ w ∧ w ≤ 1000) : dn Tryz.prog 82 [1000] [(1000, Cont.cells 149 (cX s))] [Ty.ptr 1000 0, Ty.int .i64 n, Ty.int .i64 w] [(1000, Cont.cells 149 (cX (aY (aY s))))] (Ty.agg (dm.tys (hO s n w))) := by
 refine c6 Tryz.func82 rfl (by decide) Tryz.ntmps82 (by exact Nat.le_of_ble_eq_true rfl) fun w0 M0 => ?_
 have h0 : 0 ≤ s.taken ∧ s.taken + 2 ≤ 4611686018427387904 := h
 have hb1 := cT s (w + 1)
 have hb2 := cT (aY s) (w + 1)
 have ht := cr s
 refine aG (aA ?_)
 refine b9 rfl (by exact List.cons_ne_nil _ _) rfl ?_
 refine aD (aC (aG (aA (bQ rfl (oV rfl (bQ rfl ?_))))))
 refine cD rfl rfl (by omega) (by omega) ?_
 refine bk [(1000, 1000)] [] [(1000, Cont.cells 149 (cX (aY s)))] (iV s ⟨by omega, by omega⟩ _) rfl rfl (by repeat (first | exact bD | refine aH ?_ ?_ | exact dU List.mem_cons_self | exact aN rfl rfl)) (b8 (a := 1000) (b := 1000) (by exact List.mem_cons_self) rfl (bA (by exact List.mem_cons_self) rfl rfl rfl) pre_nil) (bG (a := 1000) (b := 1000) (by exact List.mem_cons_self) rfl (bA (by exact List.mem_cons_self) rfl rfl rfl) post_nil) (aN rfl rfl) ?_
 refine iB rfl rfl (by omega) (by omega) ?_
 refine ue rfl rfl (bQ rfl (oV rfl (bQ rfl ?_)))
 refine cD rfl rfl (by omega) (by omega) ?_
 refine bk [(1000, 1000)] [] [(1000, Cont.cells 149 (cX (aY (aY s))))] (iV (aY s) ⟨by omega, by omega⟩ _) rfl rfl (by repeat (first | exact bD | refine aH ?_ ?_ | exact dU List.mem_cons_self | exact aN rfl rfl)) (b8 (a := 1000) (b := 1000) (by exact List.mem_cons_self) rfl (bA (by exact List.mem_cons_self) rfl rfl rfl) pre_nil) (bG (a := 1000) (b := 1000) (by exact List.mem_cons_self) rfl (bA (by exact List.mem_cons_self) rfl rfl rfl) post_nil) (aN rfl rfl) ?_
 refine cD rfl rfl (by omega) (by omega) ?_
 refine uV rfl rfl (az (ig _ _) rfl rfl rfl rfl rfl ?_)
 refine bp rfl rfl (by decide) rfl rfl rfl rfl rfl rfl ?_
 refine aD (aC (av ?_))
 refine vl [1000] rfl rfl rfl rfl (by decide) rfl rfl rfl (by decide) (by repeat (first | exact dR | refine c7 rfl (bA (by decide) rfl rfl rfl) ?_)) ?_
 all_goals exact eA (aN rfl rfl)
 all_goals trace_state
set_option maxRecDepth 100000 in
theorem KE (y : ah) (a : eM) (ha : Li y a) (m : Move) (hd : -1000000 ≤ m.day ∧ m.day ≤ 1000000) (h1 : m.src ≠ -1 → 0 ≤ m.src ∧ m.src.toNat < a.first.length) : dy Tryz.prog 83 [fI y, qn a, Ty.agg (cR.tys m)] (Ty.int .i64 (BE y a m)) := by
 refine bC Tryz.func83 rfl (by decide) Tryz.ntmps83 (by exact Nat.le_of_ble_eq_true rfl) fun w0 M0 => ?_
 refine aG (aA (bM rfl (bM rfl (bM rfl (cE rfl (aD (aC (aG (aG ?_)))))))))
 refine aA ?_
 refine aO rfl rfl rfl rfl rfl (by decide) ?_
 refine aL rfl rfl rfl rfl (bF rfl rfl rfl (aD (aC ?_)))
 refine aq rfl (fun hc1 => ?_) (fun hc1 => ?_)
 ·
  refine aG (aA (cE rfl (aD (aC (av (aW (bz rfl rfl ?_)))))))
  all_goals skip
  exact bE rfl rfl (congrArg (Ty.int .i64) (if_pos hc1).symm)
 refine aj (aC (aG ?_))
 have hs := h1 hc1
 refine aA ?_
 refine aZ rfl rfl rfl (by exact Nat.le_of_ble_eq_true rfl) ?_
 refine aZ rfl rfl rfl (by exact Nat.le_of_ble_eq_true rfl) ?_
 refine aO rfl rfl rfl rfl rfl (by decide) ?_
 refine aL rfl rfl rfl rfl ?_
 refine aO rfl rfl rfl rfl rfl (by decide) ?_
 refine aL rfl rfl rfl rfl ?_
 refine cD rfl rfl (by omega) (by omega) ?_
 refine az (iH y a ha m.src (m.day + 1) hs.1 hs.2) rfl rfl rfl rfl rfl (cE rfl (aD (aC (av (bz rfl rfl ?_)))))
 all_goals skip
 exact bE rfl rfl (congrArg (Ty.int .i64) (if_neg hc1).symm)
end Go.Proofs.YtelbollidfdcjaaGreat
namespace Go.T
open Go Go.RowKit
section
variable {P : Program} {fr : Fr} {ops : Array Oper} {A : As} {rest : List Oper} {K : As → List (As × Fx) → Prop} {d : Nat} {t ty' : TypeId} {p : String} {e : Array Edge} [T : lC P]
end
end Go.T
namespace Go.T
open Go Go.RowKit
section
variable {P : Program} {fr : Fr} {ops : Array Oper} {A : As} {rest : List Oper} {K : As → List (As × Fx) → Prop} {d : Nat} {t ty' : TypeId} {p : String} {e : Array Edge} [T : lC P]
theorem HC {α : Type} {E : El α} {x0 : α} {x y : Operand} {k k' : IntKind} {n m : Int} {el : Nat} {ti te : TI} (hx : A.op fr x = .int k n) (hy : A.op fr y = .int k' m) (hT : T.tab[ty']? = some ti) (hk : ti.k = .slice el) (hE : T.tab[el]? = some te) (hs : te.size = E.size) (hz : te.zero.map Ty.jx = E.tys x0) (hzp : 0 < te.size) (hp : fr.pass.contains (d + 1) = false)
    (hn : 0 ≤ n) (hnm : n ≤ m) (hlen : (te.bytes : Int) * m ≤ 281474976710656) (hlen' : m ≤ 9223372036854775807)
    (h : aa P fr ops rest (A.after { d := some d, ty := .rc (d + 1) n.toNat (some m.toNat), K := [d + 1], sets := [(d + 1, .KD E el (List.replicate n.toNat x0) (some m.toNat))], rs := cF x ++ cF y }) fun A' l' => K A' ((A, { d := some d, ty := .rc (d + 1) n.toNat (some m.toNat), K := [d + 1], sets := [(d + 1, .KD E el (List.replicate n.toNat x0) (some m.toNat))], rs := cF x ++ cF y }) :: l')) :
    aa P fr ops (⟨some d, .makeSlice ty' x y, t, p, e, none⟩ :: rest) A K := by
  refine ⟨_, ff rfl rfl (by simp) (by simp) (by simp at hp ⊢; exact hp) fun a w M wf hr _ => ?_, h⟩
  obtain ⟨hdx, hdy⟩ := op2 hr
  rw [hx] at hdx; rw [hy] at hdy
  have ex : a.eval x = .int k n := hdx
  have ey : a.eval y = .int k' m := hdy
  obtain ⟨_, D, _, hD, hkd, _⟩ := dK hT
  rw [hk] at hkd
  cases D <;> simp only [TK.of, reduceCtorEq, TK.slice.injEq] at hkd
  rename_i el0
  have hel : el0 = el := hkd
  subst hel
  obtain ⟨i, _, hi, _, _, hsz, hby, hze⟩ := dK hE
  have hzl : te.zero.length = te.size := by rw [← List.length_map (f := Ty.jx), hz, E.len, hs]
  obtain ⟨z, hiz⟩ : ∃ z, i.zero = some z := by
    cases hiz : i.zero with
    | none => rw [hiz] at hze; rw [← hze] at hzl; simp at hzl; omega
    | some z => exact ⟨z, rfl⟩
  rw [hiz] at hze
  have hrun := run_make (P := P) w ty' _ i z hD hi hiz k k' n m hn hnm (by rw [hby]; exact hlen) hlen'
  obtain ⟨h1, h2, h3⟩ := jj wf (.cells (madeCells z.cells (m.toNat * i.size)) el0) (d + 1)
  refine ⟨_, _, by simp [execOp, ex, ey, hrun], _, h1, h2, ⟨_, h3, rfl, by omega, by simp only [maxLen]; omega⟩, ?_⟩
  intro x hx
  simp only [List.mem_singleton] at hx
  subst hx
  have hnm' : n.toNat * te.size ≤ m.toNat * te.size := Nat.mul_le_mul_right _ (by omega)
  refine ⟨w.heap.size, _, h3, fO _ _, by simp [madeCells, hsz, hs], ?_⟩
  rw [dA, List.length_replicate, ← hs]
  have hzs : z.cells.size = te.size := by rw [← hzl, ← hze]; simp
  refine gi (by rw [dA, List.length_replicate, ← hs, List.length_take, Array.length_toList]; simp only [madeCells, Array.size_map, Array.size_range, hsz]; first | exact (Nat.min_eq_left hnm').symm | exact Nat.min_eq_left hnm') fun j ty hj => ?_
  have hjl : j < n.toNat * te.size := by
    have := (List.getElem?_eq_some_iff.1 hj).1
    rw [dA, List.length_replicate, ← hs] at this; exact this
  have hq : j / te.size < n.toNat := Nat.div_lt_of_lt_mul (by rw [Nat.mul_comm]; exact hjl)
  have hm : j % te.size < te.size := Nat.mod_lt _ hzp
  have hget := om E (List.replicate n.toNat x0) (j / te.size) (j % te.size) (by simpa using hq) (by rw [← hs]; exact hm)
  have hdecomp : j / te.size * E.size + j % te.size = j := by rw [← hs, Nat.mul_comm]; exact Nat.div_add_mod j te.size
  rw [hdecomp, hj] at hget
  simp only [List.getElem?_replicate, hq, if_true, Option.bind_some] at hget
  rw [← hz, List.getElem?_map] at hget
  obtain ⟨u, hu, hty⟩ := Option.map_eq_some_iff.1 hget.symm
  refine ⟨u, ?_, hty ▸ lS _ _ _⟩
  rw [List.getElem?_take, if_pos hjl]
  have hu' : z.cells[j % z.cells.size]? = some u := by rw [hzs]; rw [← hze] at hu; simpa using hu
  simp only [madeCells, Array.toList_map, List.getElem?_map, Array.toList_range, hsz]
  rw [List.getElem?_range (by omega)]
  simp only [Option.map_some]
  rw [getElem!_def, hu']
theorem Hr {α : Type} {E : El α} {zs ys : List α} {x y : Operand} {tg n c0 el st st' Tb : Nat} {ti te : TI} (hx : A.op fr x = .rc tg n (some c0)) (hy : A.op fr y = .sl E ys) (hc : A.tag tg = some (.KD E Tb zs (some c0))) (h1 : fm tg) (hT : T.tab[st]? = some ti) (hk : ti.k = .slice el) (hE : T.tab[el]? = some te) (hs : te.size = E.size) (hn : zs.length = n) (hle : ys.length ≤ n)
 (h : aa P fr ops rest (A.after { d := some d, ty := .int .i64 (ys.length : Nat), S := [tg], sets := [(tg, .KD E Tb (ys ++ zs.drop ys.length) (some c0))], rs := cF x ++ cF y, rt := [tg] }) fun A' l'' => K A' ((A, { d := some d, ty := .int .i64 (ys.length : Nat), S := [tg], sets := [(tg, .KD E Tb (ys ++ zs.drop ys.length) (some c0))], rs := cF x ++ cF y, rt := [tg] }) :: l'')) :
 aa P fr ops (⟨some d, .call ⟨.builtin .copy, #[x, y], #[st, st']⟩, t, p, e, none⟩ :: rest) A K := by
 refine ⟨_, ff rfl rfl (by simp) (by simpa using h1.1) (by simp) fun a w M wf hr ht => ?_, h⟩
 obtain ⟨hdx, hdy⟩ := op2 hr
 rw [hx] at hdx; rw [hy] at hdy
 obtain ⟨_, D, _, hD, hkd, _⟩ := dK hT
 rw [hk] at hkd
 cases D <;> simp only [TK.of, reduceCtorEq, TK.slice.injEq] at hkd
 subst hkd
 rename_i el
 have hsz := fun w => dD (P := P) hE w
 obtain ⟨ad, c, ey, hc1, hc2, hp⟩ := hdy
 obtain ⟨b, hb, ex, hn0, hm0⟩ := hdx
 obtain ⟨b2, cs, hb2, hh, hsz0, hd⟩ : NI E Tb zs (some c0) w M tg := ht _ (cw hc) (by simp)
 have hmin : Nat.min ys.length n = ys.length := Nat.min_eq_left hle
 by_cases hys : ys = []
 ·subst hys
  have hl : ∀ (q : Addr), (loadCells q 0).run P w = .ok #[] w := fun q => by simpa using run_loadCells_list (P := P) w q [] (by simp)
  have hrun : (Builtin.copy_ #[st, st'] t #[a.eval x, a.eval y]).run P w = .ok (goInt 0) w := by
   rw [ey, ex]; cases ad <;> simp [Builtin.copy_, run_underlying hD, Builtin.lenOf, Builtin.firstCells, hsz, storeCells, hl]
  refine ⟨goInt 0, w, by simp [execOp, resolve, invoke, builtin, hrun], M, wf, (Le.refl _ _ w M), rfl, ?_⟩
  intro z' hz'
  simp only [List.mem_singleton] at hz'
  subst hz'
  have hv : (Cont.KD E Tb zs (some c0)).den w M tg := ⟨b2, cs, hb2, hh, hsz0, hd⟩
  simpa using hv
 have hpos : 0 < ys.length := List.length_pos_iff.2 hys
 obtain ⟨b', off, rfl, hp'⟩ := hp hpos
 obtain ⟨news, hn1, hn2, hn3⟩ := nK hp' _ (Nat.le_refl _)
 rw [List.take_length] at hn2
 rw [dA] at hn1
 obtain ⟨u, rfl⟩ : ∃ u, tg = u + 1 := ⟨tg - 1, by omega⟩
 have := wf.inj b b2 u (by omega) hb hb2
 subst this
 have hlen := cQ hd
 have hm : ys.length * E.size ≤ zs.length * E.size := Nat.mul_le_mul_right _ (by omega)
 have hoff : ys.length * E.size ≤ cs.size := by
  rw [dA, List.length_take] at hlen
  simp at hlen; omega
 have hst := run_storeCells_at (P := P) b 0 Tb news 0 cs w hh (by omega) (lX hn2 (lR E ys))
 rw [lq _ hh] at hst
 obtain ⟨h1', h2', h3'⟩ := jm (cs' := (cs.toList.take (0 + 0) ++ news ++ cs.toList.drop (0 + 0 + news.length)).toArray) (Tb := Tb) wf hb _ rfl
 have hld : (loadCells ⟨b', off, none⟩ (ys.length * E.size)).run P w = .ok news.toArray w := by
  rw [← hn1]
  exact run_loadCells_list (P := P) w _ news (fun j v hj => by rw [Addr.add_lit]; exact hn3 j v hj)
 have hrun : (Builtin.copy_ #[st, st'] t #[a.eval x, a.eval y]).run P w = .ok (goInt ys.length) { w with heap := w.heap.setIfInBounds b (.cells (cs.toList.take (0 + 0) ++ news ++ cs.toList.drop (0 + 0 + news.length)).toArray Tb (0, 0)) } := by
  rw [ex, ey]
  simp only [Builtin.copy_, run_underlying hD, Builtin.lenOf, Builtin.firstCells, hsz, hs, hmin, hld, Sem.run_bind, Sem.run_pure, Result.andThen_ok]
  simp [run_underlying hD, hsz, hs, hmin, hld]
  simp at hst
  rw [hst]
  simp
 refine ⟨goInt ys.length, _, by simp [execOp, resolve, invoke, builtin, hrun], M, h1', h2', rfl, ?_⟩
 intro z' hz'
 simp only [List.mem_singleton] at hz'
 subst hz'
 refine ⟨b, _, hb, h3', ?_, ?_⟩
 ·rw [← hsz0]
  simp only [Nat.add_zero, List.take_zero, List.nil_append, Nat.zero_add, List.size_toArray, List.length_append, List.length_drop, hn1, Array.length_toList]
  omega
 have hq := EY (xs := zs) (ys := ys) (vs := news) (i := 0) hd hn2 (by omega)
 rw [List.take_zero, List.nil_append, Nat.zero_add, Nat.zero_mul] at hq
 exact cB h2' (by intro _ _ h; cases h) (by rw [E.cv]; intro _ h; cases h) (by simpa using hq)
end
end Go.T
namespace Go.T
open Go Go.RowKit
section
variable {P : Program} {fr : Fr} {A : As} {Q : Exit → Act → World → Prop} {c : Code}
end
section
variable {P : Program} {fr : Fr} {ops : Array Oper} {A : As} {rest : List Oper} {K : As → List (As × Fx) → Prop} {d : Nat} {t ty' : TypeId} {p : String} {e : Array Edge} [T : lC P]
end
end Go.T
namespace Go.T
open Go Go.RowKit
section
variable {P : Program} {A : As} {fn : Func} {n : Nat} {w0 : World} {M0 : bB} {F : List Nat} {post : List (Nat × Cont)} [T : lC P]
theorem zB {w : World} {M : bB} {tm ty tg Tb : Nat} {l : List Ty} {ti : TI} {tmps : Array Value} (wf : Wf w M) (htg : ∀ x ∈ A.tags, x.2.den w M x.1) (hd : (A.slots tm).den w M (tmps.getD tm undef)) (hx : A.slots tm = .ptr tg 0) (hc : A.tag tg = some (.cells Tb l)) (h1 : fm tg) (hT : T.tab[ty]? = some ti) (ha : ti.k.agg = true) (hl : l.length = ti.size) :
 ∃ b cs, tmps.getD tm undef = .pointer (some ⟨b, 0, none⟩) ∧ (loadVar ty ⟨b, 0, none⟩).run P w = .ok (.agg cs) w ∧ cK w M l cs.toList := by
 rw [hx] at hd
 obtain ⟨b, hb, e⟩ := hd
 obtain ⟨b', cs, hb', hh, hds⟩ := htg _ (cw hc)
 obtain ⟨u, rfl⟩ : ∃ u, tg = u + 1 := ⟨tg - 1, by omega⟩
 have := wf.inj b b' u (by omega) hb hb'
 subst this
 have hlen := cQ hds
 have hload := fy (P := P) hT ha (w := w) (b := b) (off := 0) (cs := cs.toList) (by rw [hlen, hl]) (fun j v hj => by simpa [World.cell?, hh] using hj)
 exact ⟨b, cs, e, by simpa [Instr.loadAt, Instr.sureAddr] using hload, hds⟩
theorem MT (L : List Nat) {tm ty tg Tb tm' ty' tg' Tb' : Nat} {l l' : List Ty} {ti ti' : TI} {r1 r2 : Ty} (hr : fn.results = #[.cell tm ty, .cell tm' ty']) (ht : Nat.blt tm n = true) (ht' : Nat.blt tm' n = true) (hx : A.slots tm = .ptr tg 0) (hc : A.tag tg = some (.cells Tb l)) (h1 : fm tg) (hT : T.tab[ty]? = some ti) (ha : ti.k.agg = true) (hl : l.length = ti.size)
 (hx' : A.slots tm' = .ptr tg' 0) (hc' : A.tag tg' = some (.cells Tb' l')) (h1' : fm tg') (hT' : T.tab[ty']? = some ti') (ha' : ti'.k.agg = true) (hl' : l'.length = ti'.size)
 (hL : ∀ t ∈ F, t ∈ L) (hp : oQ A L post) (hs : sJ L (.agg l) r1) (hs2 : sJ L (.agg l') r2) :
 dh ⟨n, w0, M0, F, .plain⟩ A (bodyPost P fn (cU F post w0 M0 (Ty.ju [r1, r2])) .ret) := by
 intro a w ⟨M, ok, hsl, htg⟩
 obtain ⟨b, cs, e, hload, hds⟩ := zB ok.wf htg (hsl tm (by simpa using ht)) hx hc h1 hT ha hl
 obtain ⟨b2, cs2, e2, hload2, hds2⟩ := zB ok.wf htg (hsl tm' (by simpa using ht')) hx' hc' h1' hT' ha' hl'
 refine ⟨ok.gC (by simp), .tuple #[.agg cs, .agg cs2], ?_, _, oL L M, rfl, mY ok.wf, lQ hL ok.base, ⟨_, rfl, hs _ _ _ ok.wf ⟨cs, rfl, hds⟩, hs2 _ _ _ ok.wf ⟨cs2, rfl, hds2⟩, trivial⟩, q5 ok.wf htg hp⟩
 have e' : a.tmps[tm]?.getD undef = .pointer (some ⟨b, 0, none⟩) := by rw [← Array.getD_eq_getD_getElem?]; exact e
 have e2' : a.tmps[tm']?.getD undef = .pointer (some ⟨b2, 0, none⟩) := by rw [← Array.getD_eq_getD_getElem?]; exact e2
 simp [results, hr, e', e2', asAddr, hload, hload2]
end
end Go.T
namespace Go.T
open Go Go.RowKit
section
variable {P : Program} {fr : Fr} {ops : Array Oper} {A : As} {rest : List Oper} {K : As → List (As × Fx) → Prop} {d : Nat} {t ty' : TypeId} {p : String} {e : Array Edge} [T : lC P]
theorem zR {x y : Operand} {tg Tb off : Nat} {l l' lr : List Ty} {ti : TI} (hx : A.op fr x = .ptr tg off) (hc : A.tag tg = some (.cells Tb l)) (h1 : fm tg) (hT : T.tab[ty']? = some ti) (hy : A.op fr y = .agg l') (hsz : ti.size = l'.length) (hlen : off + l'.length ≤ l.length) (ho : l'.all Ty.one = true) (hlr : l.take off ++ (l' ++ l.drop (off + l'.length)) = lr) (hdt : kr (bt lr) [tg] = true)
 (h : aa P fr ops rest (A.after { d := none, S := [tg], sets := [(tg, .cells Tb lr)], rs := cF x ++ cF y, rt := [tg] }) fun A' l'' => K A' ((A, { d := none, S := [tg], sets := [(tg, .cells Tb lr)], rs := cF x ++ cF y, rt := [tg] }) :: l'')) :
 aa P fr ops (⟨none, .store ty' x y, t, p, e, none⟩ :: rest) A K := by
 refine ⟨_, mA rfl rfl rfl (by simp) (by simpa using h1.1) (by simp) fun a w M wf hr ht => ?_, h⟩
 obtain ⟨hdx, hdy⟩ := op2 hr
 rw [hx] at hdx; rw [hy] at hdy
 obtain ⟨b, hb, ex⟩ := hdx
 obtain ⟨vs, ey, hvs⟩ := hdy
 obtain ⟨b', cs, hb', hh, hd⟩ := ht _ (cw hc) (by simp)
 obtain ⟨u, rfl⟩ : ∃ u, tg = u + 1 := ⟨tg - 1, by omega⟩
 have := wf.inj b b' u (by omega) hb hb'
 subst this
 have hl1 := cQ hd
 have hl2 := cQ hvs
 simp only [Array.length_toList] at hl1 hl2
 obtain ⟨h1', h2', h3'⟩ := jm (cs' := (cs.toList.take (off + 0) ++ vs.toList ++ cs.toList.drop (off + 0 + vs.toList.length)).toArray) (Tb := Tb) wf hb _ rfl
 have hones : ∀ v ∈ vs.toList, v.oneCell' = true := fun v hv => by
  obtain ⟨i, hi, hvi⟩ := List.getElem_of_mem hv
  have hlt : i < l'.length := by simp at hi; omega
  obtain ⟨u', hu', hdu⟩ := dg hvs i l'[i] (List.getElem?_eq_getElem hlt)
  rw [List.getElem?_eq_getElem hi, hvi] at hu'
  injection hu' with hu'
  subst hu'
  exact (l'[i]).isOne (List.all_eq_true.1 ho _ (List.getElem_mem hlt)) hdu
 refine ⟨_, ?_, M, h1', h2', trivial, ?_⟩
 ·have hst := run_storeCells_at (P := P) b off Tb vs.toList 0 cs w hh (by simp; omega) hones
  rw [lq _ hh] at hst
  have hsz' : vs.size = ti.size := by omega
  simp only [Nat.add_zero] at hst ⊢
  simp [execOp, Instr.storeAt, Instr.sureAddr, ex, ey, storeVar, Value.cells, dD hT, hsz'] at hst ⊢
  rw [hst]; rfl
 intro z hz
 simp only [List.mem_singleton] at hz
 subst hz
 refine ⟨b, _, hb, h3', cB h2' (by intro _ _ h; cases h) (fu hdt) ?_⟩
 subst hlr
 have hq := eB (nO off hd) (eB hvs (lZ (off + l'.length) hd))
 rw [show l'.length = vs.toList.length by simp; omega] at hq ⊢
 simpa using hq
end
end Go.T
