/- Lemmas: the program and the reference walked, plain laws. -/
import Derived.Test.YtelbollidfdcjaaGreatXc
namespace Go.Proofs.YtelbollidfdcjaaGreat
open Go Go.T
set_option maxHeartbeats 16000000
theorem JS : Tryz.prog.underlying 28 = some (.slice 3) := by kernel_rfl
theorem Ky : Tryz.prog.underlying 222 = some (.slice 199) := by kernel_rfl
section
variable {y : aq} {fl : List bz} {a : List Int} {n : Nat} {has : Nat → Bool} {xs : List Int}
theorem MG {G : Nat → Int} (h : gT fl n a) : K5 fl n G a a := ⟨h, rfl⟩
theorem HP {c : Nat → Bool} {b : Nat} (hl : a.length = (aS y c).length) (hb : b < y.bins.length) : y.kept b 0 < a.length := by rw [hl]; exact C2 hb (Nat.zero_le _)
theorem JD {x : List Int} {i k : Nat} (h : i = k) : iW has x i = iW has x k := by rw [h]
theorem JE (fl : List bz) (has : Nat → Bool) (x : List Int) : iW has x fl.length = ia fl has x := rfl
theorem Im (hN : Net fl n) (hn : 0 < n) (hB : Bd fl) (h : gT fl n a) : (⟨ia fl has (gS fl n (cz has true) a), ia fl has (gS fl n (cz has false) (z8 fl n has a))⟩ : Span) = gU fl n has := (sB hN hn hB h).2.2.eq.symm
def hU (y : aq) (a : List Int) (k : Nat) : List Int := (List.range k).map fun b => nth a (y.kept b 0)
theorem Aj (k : Nat) : hU y a k ++ [nth a (y.kept k 0)] = hU y a (k + 1) := by unfold hU; rw [List.range_succ, List.map_append]; rfl
theorem AS : hU y a 0 = [] := rfl
theorem CL (k : Nat) : (hU y a k).length = k := by unfold hU; rw [List.length_map, List.length_range]
theorem told_eq (y : aq) (a : List Int) : (⟨hU y a y.bins.length, a.drop (y.bins.length * (y.D + 1))⟩ : eV) = gD y a := rfl
theorem G5 (h : xs = []) : (Ty.je (.slice none 0 0)).Sub (Ty.row c7 3 26 xs) := by subst h; exact Ty.kX
theorem lo_eq (fl : List bz) (n : Nat) (has : Nat → Bool) (a : List Int) : gS fl n (cz has true) a = z8 fl n has a := rfl
theorem hi_eq (fl : List bz) (n : Nat) (has : Nat → Bool) (a : List Int) : gS fl n (cz has false) (z8 fl n has a) = yB fl n has a := rfl
end
attribute [local irreducible] aS gY Way.gi Way.fin Way.room eS eA ep gR over bQ cN dc eT jP e9 gj j4 cS gH fX fW cz cK gS om iO iW ia gU z8 yB hU aq.kept
attribute [local irreducible] iP fT nJ qo jJ jK jE jM jG qi jI qn eG gx qg gm qj nth fM dm aj dz bodyPost Exit.then Exit.inBlock Code.wp Code.wpIn qm jL ql qd jH eJ cV cm bodyPostM eN
set_option maxRecDepth 100000 in
theorem An (l : List Int) (h : l.length ≤ 1000) : dz Tryz.prog 172 [Ty.sl c7 l] (Ty.sl c7 l) := by
 refine bB Tryz.func172 rfl (by decide) Tryz.ntmps172 (by exact Nat.le_of_ble_eq_true rfl) fun w0 M0 => ?_
 refine aE (aA (l9 rfl (aD (aC (aE (aE (aA (fK rfl (uX JS rfl ?_)))))))))
 refine aD (aC ?_)
 refine pI rfl (fun hc1 => ?_) (fun hc1 => ?_)
 ·
  refine aE (aA (l9 rfl (aD (aC (az (aV (bq rfl rfl ?_)))))))
  all_goals skip
  exact gA hc1
 refine ak (aC (aE (aA ?_)))
 refine m4 (E := c7) rfl rfl rfl rfl ?_
 refine fK rfl ?_
 refine fJ rfl rfl (by decide) rfl rfl rfl rfl rfl rfl (by decide) (by (simp <;> omega)) (by (simp <;> omega)) ?_
 refine Ew rfl (aD (aC (az (bq rfl rfl ?_))))
 all_goals exact DZ (by decide)
 skip
set_option maxRecDepth 100000 in
theorem HN (y : aq) (fl : List bz) (a : List Int) (h : lO y fl a) (hfe : gT fl (y.cells + 1) a) (th : Ty) (h1 : th.deps = []) (h2 : th.cdeps = []) (has : Nat → Bool) (hf : ∀ i, i < fl.length → nv Tryz.prog (Ty.nd th h1 h2) [Ty.int .i64 ((i : Nat) : Int)] (Ty.bool (has i))) (less : Bool) : eJ Tryz.prog 164 [1000] [(1000, Cont.vec c7 3 a)] [Ty.pp (eE y fl 1000 fl.length), Ty.agg [Ty.nd th h1 h2, Ty.bool less]] [(1000, Cont.vec c7 3 (gS fl (y.cells + 1) (cz has less) a))] (Ty.int .i64 (ia fl has (gS fl (y.cells + 1) (cz has less) a))) := by
 refine dN Tryz.func164 rfl (by decide) Tryz.ntmps164 (by exact Nat.le_of_ble_eq_true rfl) fun w0 M0 => ?_
 have hN := h.net
 have hfl := h.nx
 have hcl := mS h.right
 have hG := q8 (has := has) less
 have hn : 0 < (y.cells + 1) := Nat.succ_pos _
 refine aE (aA (bN rfl (cE rfl (aD (aC (aE (au ?_)))))))
 refine cZ (fun (b : {b : List Int // K5 fl (y.cells + 1) (cz has less) a b}) => live [(0, Ty.pp (eE y fl 1000 fl.length)), (3, Ty.pp [Ty.nd th h1 h2, Ty.bool less])] [(1000, Cont.vec c7 3 b.1)]) (fun b => (300 * fl.length - kT fl (cz has less) b.1).toNat) (⟨a, MG hfe⟩) ?_ fun b => ?_
 ·(refine dG.mk' ?_ ?_ <;> (repeat' (first | exact aJ | exact aI | refine aB ?_ (Ty.aX _) | refine aB ?_ (Ty.aF _) | refine aG rfl (Cont.aF _) ?_)))
 have hF : lO y fl b.1 := ⟨h.right, h.net, h.bd, b.2.feas.1, h.nx⟩
 have hal := hF.inb.1
 refine au (aE (aA (jZ rfl ?_)))
 refine aZ rfl rfl rfl (by exact Nat.le_of_ble_eq_true rfl) ?_
 refine b9 [(1000, 1000)] [] [(1000, Cont.vec c7 3 b.1)] (FL y fl b.1 hF th h1 h2 has hf less) rfl rfl (aH (aH bH (aR rfl rfl)) (fA (aH (aH (aH (aH (aH (aH bH (dV (by exact List.mem_cons_self))) (aR rfl rfl)) (aR rfl rfl)) (aR rfl rfl)) (aR rfl rfl)) (aR rfl rfl)))) (cC (a := 1000) (b := 1000) (by exact List.mem_cons_self) rfl (bV (by exact List.mem_cons_self) rfl) pre_nil) (bI (a := 1000) (b := 1000) (by decide) rfl (bV (by decide) rfl) post_nil) (aR rfl rfl) ?_
 refine Ms rfl (aD (aC (aE (aE (aA (Me rfl (He Ky rfl (aD (aC ?_)))))))))
 refine cr rfl (fun hc1 => ?_) (fun hc1 => ?_)
 ·
  refine cg (aT (fy rfl (aT (bA rfl (aC (aE ?_))))))
  have hb : b.1 = (gS fl (y.cells + 1) (cz has less) a) := b.2.done (List.isEmpty_iff.1 hc1)
  have hF2 : lO y fl (gS fl (y.cells + 1) (cz has less) a) := by rw [← hb]; exact hF
  have hal2 := hF2.inb.1
  refine gI (tg := 1000) rfl (Cont.eY hb) ?_
  refine aA (cE rfl (aD (aC (aE (aE (aA (jZ rfl (bu rfl ?_))))))))
  refine aQ rfl rfl rfl rfl rfl (by decide) ?_
  refine aN rfl rfl rfl rfl (AL rfl rfl rfl (bR rfl (aD (aC (au ?_)))))
  refine cZ (fun (i : {i : Nat // i ≤ fl.length}) => live [(0, Ty.pp (eE y fl 1000 fl.length)), (3, Ty.pp [Ty.nd th h1 h2, Ty.bool less]), (11, Ty.int .i64 (iW has (gS fl (y.cells + 1) (cz has less) a) i.1)), (43, Ty.vs 1000 fl.length), (44, Ty.int .i64 fl.length), (45, Ty.int .i64 (i.1 : Nat))] [(1000, Cont.vec c7 3 (gS fl (y.cells + 1) (cz has less) a))]) (fun i => fl.length - i.1) (⟨0, by omega⟩) ?_ fun i => ?_
  ·(refine dG.mk' ?_ ?_ <;> (repeat' (first | exact aJ | exact aI | refine aB ?_ (Ty.aX _) | refine aB ?_ (Ty.aF _) | refine aG rfl (Cont.aF _) ?_ | refine aB ?_ ?_)))
   all_goals exact Ty.af (by unfold iW; rfl)
  have hi := i.2
  have hup := EB (has := has) (x := (gS fl (y.cells + 1) (cz has less) a)) (k := i.1) fun q hq => (hF2.KP (by omega)).1
  refine aE (aA (bC rfl rfl rfl (aD (aC (aE ?_)))))
  refine av rfl (fun hc2 => ?_) (fun hc2 => ?_)
  ·
   refine ak (aC (aE (au (aE (aA (bR rfl ?_))))))
   refine eP rfl rfl rfl rfl rfl (by omega) ?_
   refine eo rfl rfl rfl (by decide) rfl rfl (by omega) rfl ?_
   refine cE rfl (cE rfl (aD (aC (aE ?_))))
   have hai := (hF2.KP (show i.1 < fl.length by omega)).1
   refine aA ?_
   refine aQ rfl rfl rfl rfl rfl (by decide) ?_
   refine aN rfl rfl rfl rfl (bR rfl ?_)
   refine eX rfl (hf i.1 (by omega)) rfl ?_
   refine aD (aC ?_)
   refine cr rfl (fun hc3 => ?_) (fun hc3 => ?_)
   ·
    refine aA (bR rfl (bR rfl ?_))
    refine cD rfl rfl (by omega) (by omega) ?_
    refine cE rfl (aD (bf (aC (aA ?_))))
    refine cD rfl rfl (by omega) (by omega) ?_
    refine bR rfl (aD ?_)
    refine bp (⟨i.1 + 1, by omega⟩) ?_ (by show fl.length - (i.1 + 1) < fl.length - i.1; omega)
    (refine dG.mk' ?_ ?_ <;> (repeat' (first | exact aJ | exact aI | refine aB ?_ (Ty.aX _) | refine aB ?_ (Ty.aF _) | refine aG rfl (Cont.aF _) ?_ | refine aB ?_ ?_)))
    all_goals skip
    all_goals exact Ty.af (Ee hc3)
   refine ak (bf (aC (aA ?_)))
   refine cD rfl rfl (by omega) (by omega) ?_
   refine bR rfl (aD ?_)
   refine bp (⟨i.1 + 1, by omega⟩) ?_ (by show fl.length - (i.1 + 1) < fl.length - i.1; omega)
   (refine dG.mk' ?_ ?_ <;> (repeat' (first | exact aJ | exact aI | refine aB ?_ (Ty.aX _) | refine aB ?_ (Ty.aF _) | refine aG rfl (Cont.aF _) ?_ | refine aB ?_ ?_)))
   all_goals skip
   all_goals exact Ty.af (HQ hc3)
  refine cg (aT (aT (bA rfl (aC (aE (aA (bR rfl (cE rfl (aD ?_)))))))))
  refine aC (az ?_)
  refine fN [1000] rfl rfl (by decide) (by repeat (first | exact dn | refine cw rfl (bV (by decide) rfl) ?_)) ?_
  all_goals skip
  all_goals exact eM (kR rfl rfl (congrArg (Ty.int .i64) ((JD (by have := i.2; omega)).trans (JE fl has _))))
 refine ak (aC (aE ?_))
 refine fq (s := 5) rfl (show (Ty.Ev fY (cK fl b.1 (y.cells + 1) (cz has less))).Sub (Ty.sl fY (cK fl b.1 (y.cells + 1) (cz has less))) from Ty.KT) ?_
 have hne : ¬ (cK fl b.1 (y.cells + 1) (cz has less)) = [] := fun e => by rw [e] at hc1; cases hc1
 have hnx := b.2.next hN hn h.bd hG hne
 have hC := hnx.2.2
 have hlen := hC.nx
 refine aA (cE rfl (aD (aC (aE (aE (aA (fK rfl (ct rfl rfl rfl (bR rfl ?_)))))))))
 refine aD (aC (au ?_))
 refine cZ (fun (j : {j : Nat // j ≤ (cK fl b.1 (y.cells + 1) (cz has less)).length}) => live [(0, Ty.pp (eE y fl 1000 fl.length)), (3, Ty.pp [Ty.nd th h1 h2, Ty.bool less]), (5, Ty.sl fY (cK fl b.1 (y.cells + 1) (cz has less))), (6, Ty.int .i64 (e9 fl b.1 300 ((cK fl b.1 (y.cells + 1) (cz has less)).take j.1))), (19, Ty.sl fY (cK fl b.1 (y.cells + 1) (cz has less))), (20, Ty.int .i64 (cK fl b.1 (y.cells + 1) (cz has less)).length), (21, Ty.int .i64 (j.1 : Nat))] [(1000, Cont.vec c7 3 b.1)]) (fun j => (cK fl b.1 (y.cells + 1) (cz has less)).length - j.1) (⟨0, by omega⟩) ?_ fun j => ?_
 ·(refine dG.mk' ?_ ?_ <;> (repeat' (first | exact aJ | exact aI | refine aB ?_ (Ty.aX _) | refine aB ?_ (Ty.aF _) | refine aG rfl (Cont.aF _) ?_ | refine aB ?_ ?_)))
  all_goals exact Ty.af (wW _ _ _)
 have hj := j.2
 refine aE (aA (bC rfl rfl rfl (aD (aC (aE ?_)))))
 refine av rfl (fun hc4 => ?_) (fun hc4 => ?_)
 ·
  refine ak (aC (aE (au (aE (aA ?_)))))
  refine bK rfl rfl rfl rfl rfl rfl (by omega) ?_
  refine aZ rfl rfl rfl (by exact Nat.le_of_ble_eq_true rfl) ?_
  refine bw rfl (by exact List.cons_ne_nil _ _) rfl ?_
  refine bk rfl rfl (by decide) rfl rfl rfl rfl rfl rfl ?_
  refine aD (aC (aE ?_))
  have hwj := hC.ways _ (dA (xs := (cK fl b.1 (y.cells + 1) (cz has less))) (k := j.1) (by omega))
  refine aA (jZ rfl ?_)
  refine bL rfl rfl (by decide) rfl rfl (by exact Nat.le_of_ble_eq_true rfl) ?_
  refine dU [1000] (Cx y fl b.1 hF (nth (cK fl b.1 (y.cells + 1) (cz has less)) j.1) hwj.1) rfl (aM (j6 (aM (aa (bG rfl rfl)) (aM (aa (bG rfl rfl)) (aM (aa (bG rfl rfl)) (aM (aa (bG rfl rfl)) (aM (aa (bG rfl rfl)) (aM (gO rfl hal (by decide) rfl) bY))))))) (aM (aa (bG rfl rfl)) bY)) (by exact pV (by repeat (first | exact pU | refine nF (by exact dH _ _) ?_))) ?_
  refine ny rfl (bD rfl rfl (bD rfl rfl (cE rfl (cE rfl (aD (aC (aA (bR rfl (bR rfl ?_)))))))))
  refine bt (E := c7) (xs := [_]) rfl rfl rfl rfl rfl (by decide) (by decide) (by repeat (first | exact (aW.nil : aW _ _ [] _) | (show aW _ _ ((_, _) :: _) _; apply aW.one; (· exact (rfl : _ = Ty.int _ _)); (· exact rfl)))) (by exact rfl) rfl ?_
  refine ah (rU _ _) rfl rfl rfl rfl rfl (cE rfl (aD (bf (aC (aA ?_)))))
  refine cD rfl rfl (by omega) (by omega) ?_
  refine bR rfl (aD ?_)
  refine bp (⟨j.1 + 1, by omega⟩) ?_ (by show (cK fl b.1 (y.cells + 1) (cz has less)).length - (j.1 + 1) < (cK fl b.1 (y.cells + 1) (cz has less)).length - j.1; omega)
  (refine dG.mk' ?_ ?_ <;> (repeat' (first | exact aJ | exact aI | refine aB ?_ (Ty.aX _) | refine aB ?_ (Ty.aF _) | refine aG rfl (Cont.aF _) ?_ | refine aB ?_ ?_)))
  all_goals skip
  all_goals exact Ty.af (by rw [eB (by omega)]; exact vQ)
 refine cg (aT (aT (bA rfl (aC ?_))))
 have hmp := pJ (fl := fl) (a := b.1) (m := 300) (by decide) (cK fl b.1 (y.cells + 1) (cz has less)) hC.ways
 have hml := (rq (fl := fl) (a := b.1) 300 (cK fl b.1 (y.cells + 1) (cz has less))).1
 refine fq (s := 6) rfl (Ty.af (by rw [List.take_of_length_le (by omega)] : _ = e9 fl b.1 300 (cK fl b.1 (y.cells + 1) (cz has less)))) ?_
 refine aA (jZ rfl (fK rfl (bR rfl ?_)))
 refine b9 [(1000, 1000)] [] [(1000, Cont.vec c7 3 (eA b.1 (cK fl b.1 (y.cells + 1) (cz has less)) (e9 fl b.1 300 (cK fl b.1 (y.cells + 1) (cz has less)))))] (FG y fl b.1 hF (cK fl b.1 (y.cells + 1) (cz has less)) (by omega) (fun w hw => (hC.ways w hw).1) (e9 fl b.1 300 (cK fl b.1 (y.cells + 1) (cz has less))) (by omega)) rfl rfl (aH (aH (aH bH (aR rfl rfl)) (aR rfl rfl)) (fA (aH (aH (aH (aH (aH (aH bH (dV (by exact List.mem_cons_self))) (aR rfl rfl)) (aR rfl rfl)) (aR rfl rfl)) (aR rfl rfl)) (aR rfl rfl)))) (cC (a := 1000) (b := 1000) (by exact List.mem_cons_self) rfl (bV (by exact List.mem_cons_self) rfl) pre_nil) (bI (a := 1000) (b := 1000) (by decide) rfl (bV (by decide) rfl) post_nil) (aR rfl rfl) ?_
 refine aD (bf ?_)
 refine bp (⟨eA b.1 (cK fl b.1 (y.cells + 1) (cz has less)) (e9 fl b.1 300 (cK fl b.1 (y.cells + 1) (cz has less))), hnx.1⟩) ?_ (by exact hnx.2.1)
 (refine dG.mk' ?_ ?_ <;> (repeat' (first | exact aJ | exact aI | refine aB ?_ (Ty.aX _) | refine aB ?_ (Ty.aF _) | refine aG rfl (Cont.aF _) ?_)))
 all_goals skip
set_option maxRecDepth 100000 in
theorem B2 (y : aq) (fl : List bz) (a : List Int) (h : lO y fl a) (hfe : gT fl (y.cells + 1) a) (th : Ty) (h1 : th.deps = []) (h2 : th.cdeps = []) (has : Nat → Bool) (hf : ∀ i, i < fl.length → nv Tryz.prog (Ty.nd th h1 h2) [Ty.int .i64 ((i : Nat) : Int)] (Ty.bool (has i))) (ho : th.one = true) : eJ Tryz.prog 87 [1000] [(1000, Cont.vec c7 3 a)] [Ty.pp (eE y fl 1000 fl.length), Ty.nd th h1 h2] [(1000, Cont.vec c7 3 (yB fl (y.cells + 1) has a))] (Ty.agg (dL.tys (gU fl (y.cells + 1) has))) := by
 refine dN Tryz.func87 rfl (by decide) Tryz.ntmps87 (by exact Nat.le_of_ble_eq_true rfl) fun w0 M0 => ?_
 have hsp := sB (has := has) h.net (Nat.succ_pos _) h.bd hfe
 have hF : lO y fl (z8 fl (y.cells + 1) has a) := ⟨h.right, h.net, h.bd, hsp.1.1, h.nx⟩
 refine aE (aA ?_)
 refine bw rfl (by exact List.cons_ne_nil _ _) rfl ?_
 refine aD (aC (aE (aA (jZ rfl ?_))))
 refine eD (ty := Ty.nd th h1 h2) rfl ?_
 refine c6 rfl rfl (by exact List.cons_ne_nil _ _) rfl (aW.one (ty := Ty.nd th h1 h2) rfl ho (aW.one (ty := Ty.bool true) rfl rfl aW.nil)) (by exact (rfl : _ = some [_, _])) ?_
 refine b9 [(1000, 1000)] [] [(1000, Cont.vec c7 3 (z8 fl (y.cells + 1) has a))] (HN y fl a h hfe th h1 h2 has hf true) rfl rfl (aH (aH bH (aR rfl rfl)) (fA (aH (aH (aH (aH (aH (aH bH (dV (by exact List.mem_cons_self))) (aR rfl rfl)) (aR rfl rfl)) (aR rfl rfl)) (aR rfl rfl)) (aR rfl rfl)))) (cC (a := 1000) (b := 1000) (by exact List.mem_cons_self) rfl (bV (by exact List.mem_cons_self) rfl) pre_nil) (bI (a := 1000) (b := 1000) (by decide) rfl (bV (by decide) (lo_eq _ _ _ _)) post_nil) (aR rfl rfl) ?_
 refine cE rfl (aD (aC (aE (aA (bR rfl (jZ rfl ?_))))))
 refine eD (ty := Ty.nd th h1 h2) rfl ?_
 refine c6 rfl rfl (by exact List.cons_ne_nil _ _) rfl (aW.one (ty := Ty.nd th h1 h2) rfl ho (aW.one (ty := Ty.bool false) rfl rfl aW.nil)) (by exact (rfl : _ = some [_, _])) ?_
 refine b9 [(1000, 1000)] [] [(1000, Cont.vec c7 3 (yB fl (y.cells + 1) has a))] (HN y fl (z8 fl (y.cells + 1) has a) hF hsp.1 th h1 h2 has hf false) rfl rfl (aH (aH bH (aR rfl rfl)) (fA (aH (aH (aH (aH (aH (aH bH (dV (by exact List.mem_cons_self))) (aR rfl rfl)) (aR rfl rfl)) (aR rfl rfl)) (aR rfl rfl)) (aR rfl rfl)))) (cC (a := 1000) (b := 1000) (by exact List.mem_cons_self) rfl (bV (by exact List.mem_cons_self) rfl) pre_nil) (bI (a := 1000) (b := 1000) (by decide) rfl (bV (by decide) (hi_eq _ _ _ _)) post_nil) (aR rfl rfl) ?_
 refine c6 rfl rfl (by exact List.cons_ne_nil _ _) rfl (by repeat (first | exact (aW.nil : aW _ _ [] _) | (show aW _ _ ((_, _) :: _) _; apply aW.one; (· exact (rfl : _ = Ty.int _ _)); (· exact rfl)))) (by exact (rfl : _ = some [_, _])) ?_
 refine bk rfl rfl (by decide) rfl rfl rfl rfl rfl rfl ?_
 refine aD (aC (az ?_))
 refine zO [1000] rfl rfl rfl rfl (by decide) rfl rfl rfl (by decide) (by repeat (first | exact dn | refine cw rfl (bV (by decide) rfl) ?_)) ?_
 all_goals skip
 all_goals exact eM (kR rfl rfl (congrArg (fun s => Ty.agg (dL.tys s)) (Im h.net (Nat.succ_pos _) h.bd hfe)))
set_option maxRecDepth 100000 in
theorem Kw (y : aq) (c : Nat → Bool) (a : List Int) (hr : y.cx) (hl : a.length = (aS y c).length) : dz Tryz.prog 120 [Ty.pp (lV y (aS y c) a)] (p8 (gD y a)) := by
 refine bB Tryz.func120 rfl (by decide) Tryz.ntmps120 (by exact Nat.le_of_ble_eq_true rfl) fun w0 M0 => ?_
 have hfl := fC (y := y) (c := c)
 have h1 := hr.bins
 have h2 := hr.days
 have h3 := D_eq hr
 have h4 := hr.moves
 have hf34 : (aS y c).length ≤ 34 := jo hr
 refine aE (aA ?_)
 refine bw rfl (by exact List.cons_ne_nil _ _) rfl ?_
 refine aD (aC (aE (aA ?_)))
 refine bw rfl (by exact List.cons_ne_nil _ _) rfl ?_
 refine aD (aC (aE (aE (aA (jZ rfl (bu rfl ?_))))))
 refine aQ rfl rfl rfl rfl rfl (by decide) ?_
 refine aQ rfl rfl rfl rfl rfl (by decide) ?_
 refine aN rfl rfl rfl rfl (ct rfl rfl rfl (bR rfl (aD (aC (au ?_)))))
 refine cZ (fun (k : {k : Nat // k ≤ y.bins.length}) => live [(0, Ty.pp (lV y (aS y c) a)), (2, Ty.ptr 3 0), (3, Ty.ptr 4 0), (9, Ty.sl dY y.bins), (10, Ty.int .i64 y.bins.length), (11, Ty.int .i64 (k.1 : Nat))] [(3, Cont.cells 30 [Ty.ex (.slice none 0 0), Ty.ex (.slice none 0 0)]), (4, Cont.cells 30 [Ty.row c7 3 26 (hU y a k.1), Ty.ex (.slice none 0 0)])]) (fun k => y.bins.length - k.1) (⟨0, by omega⟩) ?_ fun k => ?_
 ·(refine dG.mk' ?_ ?_ <;> (repeat' (first | exact aJ | exact aI | exact dQ | refine aB ?_ (Ty.aX _) | refine aB ?_ (Ty.aF _) | refine aG rfl (Cont.aF _) ?_ | refine aG rfl (Cont.dS ?_) ?_ | refine bh ?_ (Ty.aF _) | refine bh ?_ ?_)))
  all_goals exact G5 AS
 have hk := k.2
 have hfk := CL (y := y) (a := a) k.1
 refine aE (aA (bC rfl rfl rfl (aD (aC (aE ?_)))))
 refine av rfl (fun hc1 => ?_) (fun hc1 => ?_)
 ·
  refine ak (aC (aE (au (aE (aA (bR rfl (cE rfl (aD (aC ?_)))))))))
  have hkl := HP hl (show k.1 < y.bins.length by omega)
  refine cQ mixed rfl ?_
  refine aO rfl rfl rfl rfl rfl (by decide) ?_
  refine aU rfl rfl (by decide) rfl rfl rfl ?_
  refine jZ rfl (bu rfl ?_)
  refine aQ rfl rfl rfl rfl rfl (by decide) ?_
  refine aN rfl rfl rfl rfl (jZ rfl (bR rfl ?_))
  refine dU [] (Br y hr k.1 0 (by omega) (Nat.zero_le _)) rfl (aM (mq (l1 := bO y) (l2 := [Ty.sl dw (aS y c), Ty.sl c7 a]) rfl rfl) (aM (aa (bG rfl rfl)) (aM (aa (bG rfl rfl)) bY))) (by exact dH _ _) ?_
  refine bK rfl rfl rfl rfl rfl rfl (by omega) ?_
  refine aN rfl rfl rfl rfl ?_
  refine bt (E := c7) (xs := [_]) rfl rfl rfl rfl rfl (by decide) (by decide) (by repeat (first | exact (aW.nil : aW _ _ [] _) | (show aW _ _ ((_, _) :: _) _; apply aW.one; (· exact (rfl : _ = Ty.int _ _)); (· exact rfl)))) (by exact rfl) rfl ?_
  refine fJ rfl rfl (by decide) rfl rfl rfl rfl rfl rfl (by decide) (by (simp <;> omega)) (by (simp <;> omega)) ?_
  refine aO rfl rfl rfl rfl rfl (by decide) ?_
  refine cq rfl rfl (by decide) rfl rfl (by exact (rfl : _ = Ty.row _ _ _ _)) rfl (by exact Nat.le_of_ble_eq_true rfl) rfl rfl (by exact rfl) ?_
  refine aD ?_
  refine ⟨by kernel_rfl, ?_⟩
  refine bf (aC (aA ?_))
  refine cD rfl rfl (by omega) (by omega) ?_
  refine bR rfl (aD ?_)
  refine bp (⟨k.1 + 1, by omega⟩) ?_ (by show y.bins.length - (k.1 + 1) < y.bins.length - k.1; omega)
  (refine dG.mk' ?_ ?_ <;> (repeat' (first | exact aJ | exact aI | exact dQ | refine aB ?_ (Ty.aX _) | refine aB ?_ (Ty.aF _) | refine aG rfl (Cont.aF _) ?_ | refine aG rfl (Cont.dS ?_) ?_ | refine bh ?_ (Ty.aF _) | refine bh ?_ ?_)))
  all_goals skip
  all_goals exact Ty.gF (Aj _)
 refine cg (aT (aT (bA rfl (aC (aE (cQ mixed rfl (jZ rfl (bu rfl ?_))))))))
 refine aQ rfl rfl rfl rfl rfl (by decide) ?_
 refine aN rfl rfl rfl rfl (jZ rfl (bu rfl ?_))
 refine aQ rfl rfl rfl rfl rfl (by decide) ?_
 refine aN rfl rfl rfl rfl (ct rfl rfl rfl (jZ rfl (bu rfl ?_)))
 refine aQ rfl rfl rfl rfl rfl (by decide) ?_
 refine aQ rfl rfl rfl rfl rfl (by decide) ?_
 refine aN rfl rfl rfl rfl (ct rfl rfl rfl ?_)
 refine gz rfl rfl (by omega) (by omega) ?_
 refine Hh (lo := y.bins.length * (y.D + 1)) rfl (by exact congrArg (Ty.int .i64) (by rw [hfl]; omega : ((aS y c).length : Int) - (y.moves.length : Int) = ((y.bins.length * (y.D + 1) : Nat) : Int))) rfl rfl rfl rfl (by rw [hl]; omega) ?_
 refine ah (An _ (by rw [List.length_drop]; omega)) rfl rfl rfl rfl rfl ?_
 refine aO rfl rfl rfl rfl rfl (by decide) ?_
 refine cq rfl rfl (by decide) rfl rfl (by exact (rfl : _ = Ty.sl _ _)) rfl (by exact Nat.le_of_ble_eq_true rfl) rfl rfl (by exact rfl) ?_
 refine aD ?_
 refine ⟨by kernel_rfl, ?_⟩
 refine aC (aE (aA ?_))
 refine bL rfl rfl (by decide) rfl rfl (by exact Nat.le_of_ble_eq_true rfl) ?_
 refine bk rfl rfl (by decide) rfl rfl rfl rfl rfl rfl ?_
 refine aD (aC (az ?_))
 refine yg rfl rfl rfl rfl (by decide) rfl rfl rfl ?_
 exact DF (ts := eK (gD y a)) (ow (wY (by decide) (show hU y a k.1 = (gD y a).first by rw [show k.1 = y.bins.length by have := k.2; omega]; exact congrArg eV.first (told_eq y a))) (ow (cP rfl rfl) BL))
end Go.Proofs.YtelbollidfdcjaaGreat
namespace Go.Proofs.YtelbollidfdcjaaGreat
open Go Go.T
set_option maxHeartbeats 16000000
noncomputable def kH (y : aq) : List Int := (cS (aS y (nth bZ)) (y.cells + 1) (gY (aS y (nth bZ)))).2.2
noncomputable def cH (y : aq) : Int := if bU y = 0 then (if (cS (aS y (nth bZ)) (y.cells + 1) (gY (aS y (nth bZ)))).2.1 = true then 7 else 0) else bU y
noncomputable def tW (y : aq) : eV := if cH y = 0 then gD y (kH y) else ⟨[], []⟩
theorem jQ : bZ.length = 8 := rfl
theorem lP {y : aq} (hr : y.cx) {c : Nat → Bool} : GK y (aS y c) (gY (aS y c)) := ⟨hr, lI hr, uU hr, fun e => FN (xO e), jo hr⟩
section
variable {y : aq}
theorem open_1 (h : ¬ bU y = 0) : bU y = cH y := (if_neg h).symm
theorem vk (h : bU y = 0) (h2 : (cS (aS y (nth bZ)) (y.cells + 1) (gY (aS y (nth bZ)))).2.1 = true) : 7 = cH y := by unfold cH; rw [if_pos h, if_pos h2]
theorem open_3 (h : bU y = 0) (h2 : (cS (aS y (nth bZ)) (y.cells + 1) (gY (aS y (nth bZ)))).2.1 = false) : 0 = cH y := by unfold cH; rw [if_pos h, if_neg (by rw [h2]; decide)]
theorem dD (h : cH y = 0) : bU y = 0 := by
 by_cases e : bU y = 0
 ·exact e
 rw [← open_1 e] at h; exact absurd h e
theorem zB (h : cH y = 0) : (cS (aS y (nth bZ)) (y.cells + 1) (gY (aS y (nth bZ)))).2.1 = false := by
  cases e : (cS (aS y (nth bZ)) (y.cells + 1) (gY (aS y (nth bZ)))).2.1 with
  | false => rfl
  | true => rw [← vk (dD h) e] at h; cases h
theorem DV (hr : y.cx) (h2 : (cS (aS y (nth bZ)) (y.cells + 1) (gY (aS y (nth bZ)))).2.1 = false) : gT (aS y (nth bZ)) (y.cells + 1) (cS (aS y (nth bZ)) (y.cells + 1) (gY (aS y (nth bZ)))).2.2 := xz (lI hr) (lP hr).inb h2
theorem pO (h : cH y = 0) : gT (aS y (nth bZ)) (y.cells + 1) (kH y) := DV (cR (dD h)) (zB h)
theorem Ko (h : ¬ bU y = 0) : (⟨[], []⟩ : eV) = tW y := by unfold tW; rw [← open_1 h, if_neg h]
theorem Js (h : bU y = 0) (h2 : (cS (aS y (nth bZ)) (y.cells + 1) (gY (aS y (nth bZ)))).2.1 = true) : (⟨[], []⟩ : eV) = tW y := by unfold tW; rw [← vk h h2]; rfl
theorem Kf (h : bU y = 0) (h2 : (cS (aS y (nth bZ)) (y.cells + 1) (gY (aS y (nth bZ)))).2.1 = false) : gD y (cS (aS y (nth bZ)) (y.cells + 1) (gY (aS y (nth bZ)))).2.2 = tW y := by unfold tW; rw [if_pos (open_3 h h2).symm]; rfl
theorem yL {a : eV} (e : ⟨[], []⟩ = a) : iF (Ty.agg [Ty.je (.slice none 0 0), Ty.je (.slice none 0 0)]) (p8 a) := by subst e; exact DF (ts := eK ⟨[], []⟩) (ow ym (ow ym BL))
theorem CT {b : Bool} (h : (!!b) = true) : b = true := by cases b <;> first | rfl | cases h
theorem Ck {b : Bool} (h : (!!b) = false) : b = false := by cases b <;> first | rfl | cases h
theorem KG (y : aq) : (cS (aS y (nth bZ)) (y.cells + 1) (gY (aS y (nth bZ)))).2.2 = kH y := rfl
end
attribute [local irreducible] aS gY Way.gi Way.fin Way.room eS eA ep gR over bQ cN dc eT jP e9 gj j4 cS gH fX fW cz cK gS om iO iW ia gU z8 yB hU aq.kept aq.cells bU eI bZ gD kH cH
attribute [local irreducible] iP fT nJ qo jJ jK jE jM jG qi jI qn eG gx qg gm qj nth fM dm aj dz bodyPost Exit.then Exit.inBlock Code.wp Code.wpIn qm jL ql qd jH eJ cV cm bodyPostM eN
set_option maxRecDepth 100000 in
theorem Jy (y : aq) (hs : y.Small) : dz Tryz.prog 47 [fE y] (Ty.jR [p8 (tW y), Ty.int .i64 (cH y)]) := by
 refine bB Tryz.func47 rfl (by decide) Tryz.ntmps47 (by exact Nat.le_of_ble_eq_true rfl) fun w0 M0 => ?_
 refine aE (aA (bN rfl ?_))
 refine bw rfl (by exact List.cons_ne_nil _ _) rfl ?_
 refine cE rfl (aD (aC (aE (aE (aA ?_)))))
 refine aZ rfl rfl rfl (by exact Nat.le_of_ble_eq_true rfl) ?_
 refine ah (jV y hs) rfl rfl rfl rfl rfl (cE rfl (aD (aC (aE (aA (bR rfl (bC rfl rfl rfl (aD (aC ?_)))))))))
 refine dI rfl (fun hc1 => ?_) (fun hc1 => ?_)
 ·
  refine aE (aA ?_)
  refine c6 rfl rfl (by exact List.cons_ne_nil _ _) rfl (by repeat (exact (aW.nil : aW _ _ [] _))) (by exact (rfl : _ = some [_, _])) ?_
  refine bR rfl ?_
  refine bk rfl rfl (by decide) rfl rfl rfl rfl rfl rfl ?_
  refine cE rfl (aD (aC (az (aV ?_))))
  refine jT rfl rfl rfl rfl rfl (by decide) rfl rfl rfl ?_ ?_
  all_goals skip
  all_goals first | exact yL (Ko hc1) | exact bE rfl rfl (congrArg (Ty.int .i64) (open_1 hc1))
 refine ak (aC (aE ?_))
 have hck : bU y = 0 := hc1
 have hr := cR hck
 refine cQ mixed rfl ?_
 refine aZ rfl rfl rfl (by exact Nat.le_of_ble_eq_true rfl) ?_
 refine ah (rV) rfl rfl rfl rfl rfl ?_
 refine b9 (res' := Ty.pp (sD y 2000 1000 (aS y (nth bZ)).length (aS y (nth bZ)).length)) [(2000, 23), (1000, 31)] [2000, 1000] [(2000, Cont.vec dw 187 (aS y (nth bZ))), (1000, Cont.vec c7 3 (gY (aS y (nth bZ))))] (r8 y hr bZ jQ) rfl rfl (aH (aH bH (aR rfl rfl)) (aR rfl rfl)) pre_nil (bI (a := 2000) (b := 23) (by decide) rfl (bV (by decide) rfl) (bI (a := 1000) (b := 31) (by decide) rfl (bV (by decide) rfl) post_nil)) (fA (aH (aH (aH (aH (aH (aH bH (dV (by decide))) (dV (by decide))) (aR rfl rfl)) (aR rfl rfl)) (aR rfl rfl)) (aR rfl rfl))) ?_
 refine Iv rfl (aD ?_)
 refine ⟨by kernel_rfl, ?_⟩
 refine aC (aE (aE ?_))
 refine lR (tg := 2000) [(5, Ty.pp (eE y (aS y (nth bZ)) 1000 (aS y (nth bZ)).length))] (by decide) rfl ⟨zk rfl ⟨bS rfl, bS rfl, bS rfl, bS rfl, gk rfl rfl (by decide), bS rfl, trivial⟩, trivial⟩ ?_
 refine aA (jZ rfl ?_)
 refine b9 [(1000, 1000)] [] [(1000, Cont.vec c7 3 (cS (aS y (nth bZ)) (y.cells + 1) (gY (aS y (nth bZ)))).2.2)] (mP y (aS y (nth bZ)) (gY (aS y (nth bZ))) (lP hr)) rfl rfl (aH bH (fA (aH (aH (aH (aH (aH (aH bH (dV (by exact List.mem_cons_self))) (aR rfl rfl)) (aR rfl rfl)) (aR rfl rfl)) (aR rfl rfl)) (aR rfl rfl)))) (cC (a := 1000) (b := 1000) (by exact List.mem_cons_self) rfl (bV (by exact List.mem_cons_self) rfl) pre_nil) (bI (a := 1000) (b := 1000) (by decide) rfl (bV (by decide) rfl) post_nil) (aR rfl rfl) ?_
 refine dh rfl (aD (aC ?_))
 refine cr rfl (fun hc2 => ?_) (fun hc2 => ?_)
 ·
  refine aE (aA ?_)
  refine c6 rfl rfl (by exact List.cons_ne_nil _ _) rfl (by repeat (exact (aW.nil : aW _ _ [] _))) (by exact (rfl : _ = some [_, _])) ?_
  refine bk rfl rfl (by decide) rfl rfl rfl rfl rfl rfl ?_
  refine cE rfl (aD (aC (az (aV ?_))))
  refine jT rfl rfl rfl rfl rfl (by decide) rfl rfl rfl ?_ ?_
  all_goals skip
  all_goals first | exact yL (Js hck (CT hc2)) | exact bE rfl rfl (congrArg (Ty.int .i64) (vk hck (CT hc2)))
 refine ak (aC (aE ?_))
 have hfe := DV hr (Ck hc2)
 refine lR (tg := 1000) [(5, Ty.pp (lV y (aS y (nth bZ)) (cS (aS y (nth bZ)) (y.cells + 1) (gY (aS y (nth bZ)))).2.2))] (by decide) rfl ⟨zk rfl ⟨bS rfl, bS rfl, bS rfl, bS rfl, bS rfl, gk rfl hfe.1.1 (by decide), trivial⟩, trivial⟩ ?_
 refine aA (jZ rfl (ah (Kw y (nth bZ) (cS (aS y (nth bZ)) (y.cells + 1) (gY (aS y (nth bZ)))).2.2 hr hfe.1.1) rfl rfl rfl rfl rfl ?_))
 refine bk rfl rfl (by decide) rfl rfl rfl rfl rfl rfl ?_
 refine cE rfl (aD (aC (az ?_)))
 refine jT rfl rfl rfl rfl rfl (by decide) rfl rfl rfl ?_ ?_
 all_goals skip
 all_goals first | exact bE rfl rfl (congrArg p8 (Kf hck (Ck hc2))) | exact bE rfl rfl (congrArg (Ty.int .i64) (open_3 hck (Ck hc2)))
set_option maxRecDepth 100000 in
theorem vI (y : aq) (hs : y.Small) (h : cH y = 0) : eJ Tryz.prog 86 [] [] [fE y] [(1000, Cont.vec c7 3 (kH y))] (Ty.jR [Ty.pp (eE y (aS y (nth bZ)) 1000 (aS y (nth bZ)).length), Ty.int .i64 0]) := by
 refine qQ Tryz.func86 rfl (by decide) Tryz.ntmps86 (by exact Nat.le_of_ble_eq_true rfl) fun w0 M0 => ?_
 have hck := dD h
 have hr := cR hck
 have hst := zB h
 refine aE (aA (bN rfl (l9 rfl (cE rfl (aD (aC (aE (aE (aA ?_)))))))))
 refine aZ rfl rfl rfl (by exact Nat.le_of_ble_eq_true rfl) ?_
 refine ah (jV y hs) rfl rfl rfl rfl rfl (cE rfl (aD (aC (aE (aA (bR rfl (bC rfl rfl rfl (aD (aC ?_)))))))))
 refine fZ rfl (by rw [hck]; rfl) ?_
 refine ak (aC (aE (cQ mixed rfl ?_)))
 refine aZ rfl rfl rfl (by exact Nat.le_of_ble_eq_true rfl) ?_
 refine ah (rV) rfl rfl rfl rfl rfl ?_
 refine b9 (res' := Ty.pp (sD y 2000 1000 (aS y (nth bZ)).length (aS y (nth bZ)).length)) [(2000, 23), (1000, 31)] [2000, 1000] [(2000, Cont.vec dw 187 (aS y (nth bZ))), (1000, Cont.vec c7 3 (gY (aS y (nth bZ))))] (r8 y hr bZ jQ) rfl rfl (aH (aH bH (aR rfl rfl)) (aR rfl rfl)) pre_nil (bI (a := 2000) (b := 23) (by decide) rfl (bV (by decide) rfl) (bI (a := 1000) (b := 31) (by decide) rfl (bV (by decide) rfl) post_nil)) (fA (aH (aH (aH (aH (aH (aH bH (dV (by decide))) (dV (by decide))) (aR rfl rfl)) (aR rfl rfl)) (aR rfl rfl)) (aR rfl rfl))) ?_
 refine Iv rfl (aD ?_)
 refine ⟨by kernel_rfl, ?_⟩
 refine aC (aE (aE ?_))
 refine lR (tg := 2000) [(5, Ty.pp (eE y (aS y (nth bZ)) 1000 (aS y (nth bZ)).length))] (by decide) rfl ⟨zk rfl ⟨bS rfl, bS rfl, bS rfl, bS rfl, gk rfl rfl (by decide), bS rfl, trivial⟩, trivial⟩ ?_
 refine aA (jZ rfl ?_)
 refine b9 [(1000, 1000)] [] [(1000, Cont.vec c7 3 (cS (aS y (nth bZ)) (y.cells + 1) (gY (aS y (nth bZ)))).2.2)] (mP y (aS y (nth bZ)) (gY (aS y (nth bZ))) (lP hr)) rfl rfl (aH bH (fA (aH (aH (aH (aH (aH (aH bH (dV (by exact List.mem_cons_self))) (aR rfl rfl)) (aR rfl rfl)) (aR rfl rfl)) (aR rfl rfl)) (aR rfl rfl)))) (cC (a := 1000) (b := 1000) (by exact List.mem_cons_self) rfl (bV (by exact List.mem_cons_self) rfl) pre_nil) (bI (a := 1000) (b := 1000) (by decide) rfl (bV (by decide) rfl) post_nil) (aR rfl rfl) ?_
 refine dh rfl (aD (aC ?_))
 refine fZ rfl (by rw [hst]; rfl) ?_
 refine ak (aC (aE (aA (jZ rfl (Iv rfl (cE rfl (aD (aC (az ?_)))))))))
 refine Gr rfl ?_
 refine zP [1000] rfl rfl rfl (by decide) ?_ ?_ ?_
 ·exact cw rfl (bV (by decide) (KG y)) dn
 all_goals first | exact eM (aR rfl rfl) | skip
 all_goals exact eM (fA (aH (aH (aH (aH (aH (aH bH (dV (by decide))) (aR rfl rfl)) (aR rfl rfl)) (aR rfl rfl)) (aR rfl rfl)) (aR rfl rfl)))
set_option maxRecDepth 100000 in
theorem n6 (y : aq) (hs : y.Small) (h : cH y ≠ 0) : dz Tryz.prog 86 [fE y] (Ty.jR [Ty.ex (.pointer none), Ty.int .i64 (cH y)]) := by
 refine bB Tryz.func86 rfl (by decide) Tryz.ntmps86 (by exact Nat.le_of_ble_eq_true rfl) fun w0 M0 => ?_
 refine aE (aA (bN rfl (l9 rfl (cE rfl (aD (aC (aE (aE (aA ?_)))))))))
 refine aZ rfl rfl rfl (by exact Nat.le_of_ble_eq_true rfl) ?_
 refine ah (jV y hs) rfl rfl rfl rfl rfl (cE rfl (aD (aC (aE (aA (bR rfl (bC rfl rfl rfl (aD (aC ?_)))))))))
 refine dI rfl (fun hc1 => ?_) (fun hc1 => ?_)
 ·
  refine aE (aA (bR rfl (l9 rfl (cE rfl (aD (aC (az (aV ?_))))))))
  refine fU rfl rfl rfl ?_ ?_
  all_goals first | exact cP rfl rfl | skip
  all_goals exact bE rfl rfl (congrArg (Ty.int .i64) (open_1 hc1))
 refine ak (aC (aE ?_))
 have hck : bU y = 0 := hc1
 have hr := cR hck
 refine cQ mixed rfl ?_
 refine aZ rfl rfl rfl (by exact Nat.le_of_ble_eq_true rfl) ?_
 refine ah (rV) rfl rfl rfl rfl rfl ?_
 refine b9 (res' := Ty.pp (sD y 2000 1000 (aS y (nth bZ)).length (aS y (nth bZ)).length)) [(2000, 23), (1000, 31)] [2000, 1000] [(2000, Cont.vec dw 187 (aS y (nth bZ))), (1000, Cont.vec c7 3 (gY (aS y (nth bZ))))] (r8 y hr bZ jQ) rfl rfl (aH (aH bH (aR rfl rfl)) (aR rfl rfl)) pre_nil (bI (a := 2000) (b := 23) (by decide) rfl (bV (by decide) rfl) (bI (a := 1000) (b := 31) (by decide) rfl (bV (by decide) rfl) post_nil)) (fA (aH (aH (aH (aH (aH (aH bH (dV (by decide))) (dV (by decide))) (aR rfl rfl)) (aR rfl rfl)) (aR rfl rfl)) (aR rfl rfl))) ?_
 refine Iv rfl (aD ?_)
 refine ⟨by kernel_rfl, ?_⟩
 refine aC (aE (aE ?_))
 refine lR (tg := 2000) [(5, Ty.pp (eE y (aS y (nth bZ)) 1000 (aS y (nth bZ)).length))] (by decide) rfl ⟨zk rfl ⟨bS rfl, bS rfl, bS rfl, bS rfl, gk rfl rfl (by decide), bS rfl, trivial⟩, trivial⟩ ?_
 refine aA (jZ rfl ?_)
 refine b9 [(1000, 1000)] [] [(1000, Cont.vec c7 3 (cS (aS y (nth bZ)) (y.cells + 1) (gY (aS y (nth bZ)))).2.2)] (mP y (aS y (nth bZ)) (gY (aS y (nth bZ))) (lP hr)) rfl rfl (aH bH (fA (aH (aH (aH (aH (aH (aH bH (dV (by exact List.mem_cons_self))) (aR rfl rfl)) (aR rfl rfl)) (aR rfl rfl)) (aR rfl rfl)) (aR rfl rfl)))) (cC (a := 1000) (b := 1000) (by exact List.mem_cons_self) rfl (bV (by exact List.mem_cons_self) rfl) pre_nil) (bI (a := 1000) (b := 1000) (by decide) rfl (bV (by decide) rfl) post_nil) (aR rfl rfl) ?_
 refine dh rfl (aD (aC ?_))
 refine cr rfl (fun hc2 => ?_) (fun hc2 => ?_)
 ·
  refine aE (aA (l9 rfl (cE rfl (aD (aC (az (aV ?_)))))))
  refine fU rfl rfl rfl ?_ ?_
  all_goals first | exact cP rfl rfl | skip
  all_goals exact bE rfl rfl (congrArg (Ty.int .i64) (vk hck (CT hc2)))
 refine ak (aC (aE (aA (jZ rfl (Iv rfl (cE rfl (aD (aC (az ?_)))))))))
 refine fU rfl rfl rfl ?_ ?_
 all_goals skip
 all_goals exact absurd (open_3 hck (Ck hc2)).symm h
end Go.Proofs.YtelbollidfdcjaaGreat
namespace Go.Proofs.YtelbollidfdcjaaGreat
open Go Go.T
set_option maxHeartbeats 16000000
def sN (k : Nat) (i : Nat) : Bool := decide ((i : Int) = (k : Int))
def hasB (y : aq) (b t : Nat) : Nat → Bool := sN (y.kept b t)
noncomputable def oa (fl : List bz) (n : Nat) (y : aq) (b : Nat) (a : List Int) : Nat → List Int
  | 0 => a
  | t + 1 => yB fl n (hasB y b t) (oa fl n y b a t)
noncomputable def pq (fl : List bz) (n : Nat) (y : aq) (b k : Nat) : List Span := (List.range k).map fun t => gU fl n (hasB y b t)
noncomputable def jc (y : aq) (b : Int) : Int := if eI y b = 0 then cH y else eI y b
noncomputable def dZ (y : aq) (b : Int) : List Span := if jc y b = 0 then pq (aS y (nth bZ)) (y.cells + 1) y b.toNat (y.D + 1) else []
def JG (y : aq) (k : Int) : Int := if bU y = 0 then (if (decide (k ≥ 0) && decide (k ≤ (y.moves.length : Int) - 1)) = true then 0 else 1) else bU y
noncomputable def j9 (y : aq) (k : Int) : Int := if JG y k = 0 then cH y else JG y k
noncomputable def gC (y : aq) (k : Int) : Span := if j9 y k = 0 then gU (aS y (nth bZ)) (y.cells + 1) (sN (y.bins.length * (y.D + 1) + k.toNat)) else ⟨0, 0⟩
theorem sy {y : aq} (h : cH y = 0) : lO y (aS y (nth bZ)) (kH y) := ⟨cR (dD h), lI (cR (dD h)), uU (cR (dD h)), (pO h).1, jo (cR (dD h))⟩
section
variable {y : aq} {fl : List bz} {a : List Int} {n b k : Nat} {q : Int}
theorem Ab (hN : Net fl n) (hn : 0 < n) (hB : Bd fl) (h : gT fl n a) : ∀ t, gT fl n (oa fl n y b a t)
  | 0 => h
  | t + 1 => (sB hN hn hB (Ab hN hn hB h t)).2.1
theorem Gl : a = oa fl n y b a 0 := rfl
theorem HM (t : Nat) : yB fl n (hasB y b t) (oa fl n y b a t) = oa fl n y b a (t + 1) := rfl
theorem ER (t : Nat) : pq fl n y b t ++ [gU fl n (hasB y b t)] = pq fl n y b (t + 1) := by unfold pq; rw [List.range_succ, List.map_append]; rfl
theorem FU (t : Nat) : (pq fl n y b t).length = t := by unfold pq; rw [List.length_map, List.length_range]
theorem D0 : pq fl n y b 0 = [] := rfl
theorem AK {T tg : Nat} {xs : List Span} (h : xs = []) : (Ty.ex (.slice none 0 0)).Sub (Ty.row dL T tg xs) := by subst h; exact Ty.kX
theorem IZ (k : Nat) (i : Nat) : decide ((i : Int) = (k : Int)) = sN k i := rfl
theorem Hu (b t i : Nat) : decide ((i : Int) = ((y.kept b t : Nat) : Int)) = hasB y b t i := rfl
theorem za (h : ¬ eI y q = 0) : eI y q = jc y q ∧ [] = dZ y q := by
 have e : eI y q = jc y q := (if_neg h).symm
 exact ⟨e, by unfold dZ; rw [← e, if_neg h]⟩
theorem HA (h : eI y q = 0) (ho : cH y ≠ 0) : cH y = jc y q ∧ [] = dZ y q := by
 have e : cH y = jc y q := (if_pos h).symm
 exact ⟨e, by unfold dZ; rw [← e, if_neg ho]⟩
theorem yc (h : eI y q = 0) (ho : cH y = 0) : 0 = jc y q ∧ pq (aS y (nth bZ)) (y.cells + 1) y q.toNat (y.D + 1) = dZ y q := by
 have e : cH y = jc y q := (if_pos h).symm
 exact ⟨by rw [← e, ho], by unfold dZ; rw [← e, if_pos ho]⟩
theorem Dw (h : eI y q = 0) : 0 ≤ q ∧ q < y.bins.length := by
 unfold eI at h
 by_cases e : bU y = 0
 ·rw [if_pos e] at h
  by_cases c : y.bin q = true
  ·unfold aq.bin BF at c
   rw [Bool.and_eq_true, decide_eq_true_eq, decide_eq_true_eq] at c; omega
  rw [if_neg c] at h; cases h
 rw [if_neg e] at h; exact absurd h e
theorem DH (h : ¬ bU y = 0) : bU y = j9 y q ∧ (⟨0, 0⟩ : Span) = gC y q := by
 have e1 : JG y q = bU y := if_neg h
 have e : bU y = j9 y q := by unfold j9; rw [e1, if_neg h]
 exact ⟨e, by unfold gC; rw [← e, if_neg h]⟩
theorem DP (h : bU y = 0) (h2 : (!(decide (q ≥ 0) && decide (q ≤ (y.moves.length : Int) - 1))) = true) : 1 = j9 y q ∧ (⟨0, 0⟩ : Span) = gC y q := by
 have e1 : JG y q = 1 := by unfold JG; rw [if_pos h, if_neg (by rw [qE h2]; decide)]
 have e : 1 = j9 y q := by unfold j9; rw [e1]; rfl
 exact ⟨e, by unfold gC; rw [← e]; rfl⟩
theorem xV (h2 : (!(decide (q ≥ 0) && decide (q ≤ (y.moves.length : Int) - 1))) = false) : 0 ≤ q ∧ q < y.moves.length := by
 have := ff h2
 rw [Bool.and_eq_true, decide_eq_true_eq, decide_eq_true_eq] at this; omega
theorem JN (h : bU y = 0) (h2 : (!(decide (q ≥ 0) && decide (q ≤ (y.moves.length : Int) - 1))) = false) (ho : cH y ≠ 0) : cH y = j9 y q ∧ (⟨0, 0⟩ : Span) = gC y q := by
 have e1 : JG y q = 0 := by unfold JG; rw [if_pos h, if_pos (ff h2)]
 have e : cH y = j9 y q := by unfold j9; rw [e1]; rfl
 exact ⟨e, by unfold gC; rw [← e, if_neg ho]⟩
theorem C8 (h : bU y = 0) (h2 : (!(decide (q ≥ 0) && decide (q ≤ (y.moves.length : Int) - 1))) = false) (ho : cH y = 0) : 0 = j9 y q ∧ gU (aS y (nth bZ)) (y.cells + 1) (sN (y.bins.length * (y.D + 1) + q.toNat)) = gC y q := by
 have e1 : JG y q = 0 := by unfold JG; rw [if_pos h, if_pos (ff h2)]
 have e : cH y = j9 y q := by unfold j9; rw [e1]; rfl
 exact ⟨by rw [← e, ho], by unfold gC; rw [← e, if_pos ho]⟩
end
attribute [local irreducible] aS gY Way.gi Way.fin Way.room eS eA ep gR over bQ cN dc eT jP e9 gj j4 cS gH fX fW cz cK gS om iO iW ia gU z8 yB hU aq.kept aq.cells bU eI bZ gD kH cH oa pq jc dZ j9 gC hasB sN
attribute [local irreducible] iP fT nJ qo jJ jK jE jM jG qi jI qn eG gx qg gm qj nth fM dm aj dz bodyPost Exit.then Exit.inBlock Code.wp Code.wpIn qm jL ql qd jH eJ cV cm bodyPostM eN
set_option maxRecDepth 100000 in
theorem D9 (f k : Int) : dz Tryz.prog 165 [Ty.int .i64 f, Ty.pp [Ty.int .i64 k]] (Ty.bool (decide (f = k))) := by
 refine bB Tryz.func165 rfl (by decide) Tryz.ntmps165 (by exact Nat.le_of_ble_eq_true rfl) fun w0 M0 => ?_
 refine aE (aA (dr rfl (aD (aC (aE (aA (bR rfl (aN rfl rfl rfl rfl (bC rfl rfl rfl ?_)))))))))
 refine dr rfl (aD (aC (az (bq rfl rfl ?_))))
 all_goals exact cP rfl rfl
set_option maxRecDepth 100000 in
theorem GI (y : aq) (fl : List bz) (a : List Int) (h : lO y fl a) (hfe : gT fl (y.cells + 1) a) (b : Nat) (hb : b < y.bins.length) : eJ Tryz.prog 91 [1000] [(1000, Cont.vec c7 3 a)] [Ty.pp (eE y fl 1000 fl.length), Ty.int .i64 ((b : Nat) : Int)] [(1000, Cont.vec c7 3 (oa fl (y.cells + 1) y b a (y.D + 1)))] (Ty.sl dL (pq fl (y.cells + 1) y b (y.D + 1))) := by
 refine dN Tryz.func91 rfl (by decide) Tryz.ntmps91 (by exact Nat.le_of_ble_eq_true rfl) fun w0 M0 => ?_
 have h1 := h.right.bins
 have h2 := h.right.days
 have h3 := D_eq h.right
 have hft := Ab (y := y) (b := b) h.net (Nat.succ_pos _) h.bd hfe
 refine aE (aA (l9 rfl (aD (aC (aE (aA (l9 rfl (aD (aC ?_)))))))))
 refine aE (aE (aA (jZ rfl (bu rfl ?_))))
 refine aQ rfl rfl rfl rfl rfl (by decide) ?_
 refine aQ rfl rfl rfl rfl rfl (by decide) ?_
 refine aN rfl rfl rfl rfl ?_
 refine cD rfl rfl (by omega) (by omega) ?_
 refine bR rfl (aD (aC (au ?_)))
 refine cZ (fun (t : {t : Nat // t ≤ y.D + 1}) => live [(0, Ty.pp (eE y fl 1000 fl.length)), (1, Ty.int .i64 ((b : Nat) : Int)), (5, Ty.row dL 37 26 (pq fl (y.cells + 1) y b t.1)), (13, Ty.int .i64 (y.days + 1)), (14, Ty.int .i64 (t.1 : Nat))] [(1000, Cont.vec c7 3 (oa fl (y.cells + 1) y b a t.1))]) (fun t => y.D + 1 - t.1) (⟨0, by omega⟩) ?_ fun t => ?_
 ·(refine dG.mk' ?_ ?_ <;> (repeat' (first | exact aJ | exact aI | refine aB ?_ (Ty.aX _) | refine aB ?_ (Ty.aF _) | refine aG rfl ?_ ?_ | refine aB ?_ ?_)))
  all_goals first | exact AK D0 | exact Cont.eY Gl
 have hbl := FU (fl := fl) (n := (y.cells + 1)) (y := y) (b := b) t.1
 have ht := t.2
 have hFt : lO y fl (oa fl (y.cells + 1) y b a t.1) := ⟨h.right, h.net, h.bd, (hft t.1).1, h.nx⟩
 refine aE (aA (bC rfl rfl rfl (aD (aC (aE ?_)))))
 refine av rfl (fun hc1 => ?_) (fun hc1 => ?_)
 ·
  refine ak (aC (aE (au (aE (aA (bR rfl (cE rfl (aD (aC ?_)))))))))
  refine aE (aA (jZ rfl (bR rfl (bR rfl ?_))))
  refine dU [] (Br y h.right b t.1 hb (by omega)) rfl (aM (mq (l1 := bO y) (l2 := [Ty.sl dw fl, Ty.vs 1000 fl.length]) rfl rfl) (aM (aa (bG rfl rfl)) (aM (aa (bG rfl rfl)) bY))) (by exact dH _ _) ?_
  refine bw rfl (by exact List.cons_ne_nil _ _) rfl ?_
  refine cq rfl rfl (by decide) rfl rfl (by exact (rfl : _ = Ty.int _ _)) rfl (by exact Nat.le_of_ble_eq_true rfl) rfl rfl (by exact (rfl : _ = [_])) ?_
  refine aD (aC ?_)
  refine lR (tg := 8) [(7, Ty.pp [Ty.int .i64 ((y.kept b t.1 : Nat) : Int)])] (by decide) rfl ⟨l6 (T := 3) (off := 0) (l := [Ty.int .i64 ((y.kept b t.1 : Nat) : Int)]) rfl rfl rfl (by decide), trivial⟩ ?_
  refine aA (IN rfl (jZ rfl (dR rfl ?_)))
  refine b9 [(1000, 1000)] [] [(1000, Cont.vec c7 3 (yB fl (y.cells + 1) (hasB y b t.1) (oa fl (y.cells + 1) y b a t.1)))] (B2 y fl (oa fl (y.cells + 1) y b a t.1) hFt (hft t.1) (Ty.jf 165 [Ty.pp [Ty.int .i64 ((y.kept b t.1 : Nat) : Int)]]) rfl rfl (hasB y b t.1) (fun i _ => by rw [← Hu]; exact dX (D9 (i : Nat) _) rfl rfl rfl rfl rfl rfl) rfl) rfl rfl (aH (aH bH (aR rfl rfl)) (fA (aH (aH (aH (aH (aH (aH bH (dV (by exact List.mem_cons_self))) (aR rfl rfl)) (aR rfl rfl)) (aR rfl rfl)) (aR rfl rfl)) (aR rfl rfl)))) (cC (a := 1000) (b := 1000) (by exact List.mem_cons_self) rfl (bV (by exact List.mem_cons_self) rfl) pre_nil) (bI (a := 1000) (b := 1000) (by decide) rfl (bV (by decide) rfl) post_nil) (aR rfl rfl) ?_
  refine bt (E := dL) (xs := [gU fl (y.cells + 1) (hasB y b t.1)]) rfl rfl rfl rfl rfl (by decide) (by decide) (by repeat (first | exact (aW.nil : aW _ _ [] _) | (show aW _ _ ((_, _) :: _) _; apply aW.agg; (· exact (rfl : _ = Ty.agg _))))) (by exact rfl) rfl ?_
  refine fJ rfl rfl (by decide) rfl rfl rfl rfl rfl rfl (by decide) (by (simp <;> omega)) (by (simp <;> omega)) ?_
  refine Ew rfl (aD (bf (aC (aA ?_))))
  refine cD rfl rfl (by omega) (by omega) ?_
  refine bR rfl (aD ?_)
  refine bp (⟨t.1 + 1, by omega⟩) ?_ (by show y.D + 1 - (t.1 + 1) < y.D + 1 - t.1; omega)
  (refine dG.mk' ?_ ?_ <;> (repeat' (first | exact aJ | exact aI | refine aB ?_ (Ty.aX _) | refine aB ?_ (Ty.aF _) | refine aG rfl ?_ ?_ | refine aB ?_ ?_)))
  all_goals skip
  all_goals first | exact Ty.gF (ER _) | exact Cont.eY (HM _)
 refine cg (aT (aT (bA rfl (aC (aE (aA (IN rfl (Ew rfl (aD ?_)))))))))
 refine aC (az ?_)
 refine fN [1000] rfl rfl (by decide) ?_ ?_
 ·exact cw rfl (bV (by decide) (by rw [show t.1 = y.D + 1 by have := t.2; omega])) dn
 all_goals skip
 all_goals exact Gi (by decide) rfl (by rw [show t.1 = y.D + 1 by have := t.2; omega])
set_option maxRecDepth 100000 in
theorem AZ (y : aq) (hs : y.Small) (q : Int) (ho : cH y ≠ 0) : dz Tryz.prog 22 [fE y, Ty.int .i64 q] (Ty.jR [Ty.sl dL (dZ y q), Ty.int .i64 (jc y q)]) := by
 refine bB Tryz.func22 rfl (by decide) Tryz.ntmps22 (by exact Nat.le_of_ble_eq_true rfl) fun w0 M0 => ?_
 refine aE (aA (bN rfl (l9 rfl (cE rfl (aD (aC (aE (aE (aA ?_)))))))))
 refine aZ rfl rfl rfl (by exact Nat.le_of_ble_eq_true rfl) ?_
 refine bR rfl (ah (yx y hs q) rfl rfl rfl rfl rfl (cE rfl (aD (aC (aE (aA (bR rfl (bC rfl rfl rfl (aD ?_)))))))))
 refine aC ?_
 refine dI rfl (fun hc1 => ?_) (fun hc1 => ?_)
 ·
  refine aE (aA (bR rfl (l9 rfl (cE rfl (aD (aC (az (aV ?_))))))))
  refine fU rfl rfl rfl ?_ ?_
  all_goals skip
  all_goals first | exact gA (za hc1).2.symm | exact bE rfl rfl (congrArg (Ty.int .i64) (za hc1).1)
 refine ak (aC (aE (aA ?_)))
 refine aZ rfl rfl rfl (by exact Nat.le_of_ble_eq_true rfl) ?_
 refine ah (n6 y hs ho) rfl rfl rfl rfl rfl (ny rfl (bD rfl rfl (bD rfl rfl (l9 rfl (cE rfl (aD (aC (aE (aE ?_)))))))))
 refine aA (bR rfl (bC rfl rfl rfl (aD (aC ?_))))
 refine pP rfl (by rw [decide_eq_false ho]; rfl) ?_
 refine aE (aA (bR rfl (l9 rfl (cE rfl (aD (aC (az (aV ?_))))))))
 refine fU rfl rfl rfl ?_ ?_
 all_goals skip
 all_goals first | exact gA (HA hc1 ho).2.symm | exact bE rfl rfl (congrArg (Ty.int .i64) (HA hc1 ho).1)
set_option maxRecDepth 100000 in
theorem AQ (y : aq) (hs : y.Small) (q : Int) (ho : cH y = 0) : dz Tryz.prog 22 [fE y, Ty.int .i64 q] (Ty.jR [Ty.sl dL (dZ y q), Ty.int .i64 (jc y q)]) := by
 refine bB Tryz.func22 rfl (by decide) Tryz.ntmps22 (by exact Nat.le_of_ble_eq_true rfl) fun w0 M0 => ?_
 have hck := dD ho
 have hr := cR hck
 have hF : lO y (aS y (nth bZ)) (kH y) := sy ho
 have hfe := pO ho
 refine aE (aA (bN rfl (l9 rfl (cE rfl (aD (aC (aE (aE (aA ?_)))))))))
 refine aZ rfl rfl rfl (by exact Nat.le_of_ble_eq_true rfl) ?_
 refine bR rfl (ah (yx y hs q) rfl rfl rfl rfl rfl (cE rfl (aD (aC (aE (aA (bR rfl (bC rfl rfl rfl (aD ?_)))))))))
 refine aC ?_
 refine dI rfl (fun hc1 => ?_) (fun hc1 => ?_)
 ·
  refine aE (aA (bR rfl (l9 rfl (cE rfl (aD (aC (az (aV ?_))))))))
  refine fU rfl rfl rfl ?_ ?_
  all_goals skip
  all_goals first | exact gA (za hc1).2.symm | exact bE rfl rfl (congrArg (Ty.int .i64) (za hc1).1)
 refine ak (aC (aE (aA ?_)))
 refine aZ rfl rfl rfl (by exact Nat.le_of_ble_eq_true rfl) ?_
 refine b9 (res' := Ty.jR [Ty.pp (eE y (aS y (nth bZ)) 1000 (aS y (nth bZ)).length), Ty.int .i64 0]) [(1000, 1000)] [1000] [(1000, Cont.vec c7 3 (kH y))] (vI y hs ho) rfl rfl (aH bH (aR rfl rfl)) pre_nil (bI (a := 1000) (b := 1000) (by decide) rfl (bV (by decide) rfl) post_nil) (tJ (aH (aH bH (aR rfl rfl)) (fA (aH (aH (aH (aH (aH (aH bH (dV (by decide))) (aR rfl rfl)) (aR rfl rfl)) (aR rfl rfl)) (aR rfl rfl)) (aR rfl rfl))))) ?_
 refine ny rfl (bD rfl rfl (bD rfl rfl (Iv rfl (cE rfl (aD (aC (aE (aE (aA ?_)))))))))
 refine bR rfl (bC rfl rfl rfl (aD (aC (fZ rfl (rfl) (ak (aC (aE ?_)))))))
 have hq := Dw hc1
 have hqn : ((q.toNat : Nat) : Int) = q := by omega
 refine fq (s := 1) rfl (Ty.af hqn.symm) ?_
 refine aA (jZ rfl (bR rfl ?_))
 refine b9 [(1000, 1000)] [] [(1000, Cont.vec c7 3 (oa (aS y (nth bZ)) (y.cells + 1) y q.toNat (kH y) (y.D + 1)))] (GI y (aS y (nth bZ)) (kH y) hF hfe q.toNat (by omega)) rfl rfl (aH (aH bH (aR rfl rfl)) (fA (aH (aH (aH (aH (aH (aH bH (dV (by exact List.mem_cons_self))) (aR rfl rfl)) (aR rfl rfl)) (aR rfl rfl)) (aR rfl rfl)) (aR rfl rfl)))) (cC (a := 1000) (b := 1000) (by exact List.mem_cons_self) rfl (bV (by exact List.mem_cons_self) rfl) pre_nil) (bI (a := 1000) (b := 1000) (by decide) rfl (bV (by decide) rfl) post_nil) (aR rfl rfl) ?_
 refine wq rfl (cE rfl (aD (aC (az ?_))))
 refine fU rfl rfl rfl ?_ ?_
 all_goals skip
 all_goals first | exact bE rfl rfl (congrArg (Ty.sl dL) (yc hc1 ho).2) | exact bE rfl rfl (congrArg (Ty.int .i64) (yc hc1 ho).1)
set_option maxRecDepth 100000 in
theorem Ey (f k : Int) : dz Tryz.prog 121 [Ty.int .i64 f, Ty.pp [Ty.int .i64 k]] (Ty.bool (decide (f = k))) := by
 refine bB Tryz.func121 rfl (by decide) Tryz.ntmps121 (by exact Nat.le_of_ble_eq_true rfl) fun w0 M0 => ?_
 refine aE (aA (dr rfl (aD (aC (aE (aA (bR rfl (aN rfl rfl rfl rfl (bC rfl rfl rfl ?_)))))))))
 refine dr rfl (aD (aC (az (bq rfl rfl ?_))))
 all_goals exact cP rfl rfl
set_option maxRecDepth 100000 in
theorem CW (y : aq) (hs : y.Small) (q : Int) (ho : cH y ≠ 0) : dz Tryz.prog 48 [fE y, Ty.int .i64 q] (Ty.jR [Ty.agg (dL.tys (gC y q)), Ty.int .i64 (j9 y q)]) := by
 refine bB Tryz.func48 rfl (by decide) Tryz.ntmps48 (by exact Nat.le_of_ble_eq_true rfl) fun w0 M0 => ?_
 have hsm := hs.moves
 refine aE (aA (bN rfl ?_))
 refine bw rfl (by exact List.cons_ne_nil _ _) rfl ?_
 refine cE rfl (aD (aC (aE (aE (aA ?_)))))
 refine aZ rfl rfl rfl (by exact Nat.le_of_ble_eq_true rfl) ?_
 refine ah (jV y hs) rfl rfl rfl rfl rfl (cE rfl (aD (aC (aE (aA (bR rfl (bC rfl rfl rfl (aD (aC ?_)))))))))
 refine dI rfl (fun hc1 => ?_) (fun hc1 => ?_)
 ·
  refine aE (aA ?_)
  refine c6 rfl rfl (by exact List.cons_ne_nil _ _) rfl (by repeat (exact (aW.nil : aW _ _ [] _))) (by exact (rfl : _ = some [_, _])) ?_
  refine bR rfl ?_
  refine bk rfl rfl (by decide) rfl rfl rfl rfl rfl rfl ?_
  refine cE rfl (aD (aC (az (aV ?_))))
  refine jT rfl rfl rfl rfl rfl (by decide) rfl rfl rfl ?_ ?_
  all_goals skip
  all_goals first | exact bE rfl rfl (congrArg (fun s => Ty.agg (dL.tys s)) (DH hc1).2) | exact bE rfl rfl (congrArg (Ty.int .i64) (DH hc1).1)
 refine ak (aC (aE (aE (aA (bR rfl ?_)))))
 refine aQ rfl rfl rfl rfl rfl (by decide) ?_
 refine aN rfl rfl rfl rfl (ct rfl rfl rfl ?_)
 refine gz rfl rfl (by omega) (by omega) ?_
 refine ah (uA _ _ _) rfl rfl rfl rfl rfl (dh rfl (aD (aC ?_)))
 refine cr rfl (fun hc2 => ?_) (fun hc2 => ?_)
 ·
  refine aE (aA ?_)
  refine c6 rfl rfl (by exact List.cons_ne_nil _ _) rfl (by repeat (exact (aW.nil : aW _ _ [] _))) (by exact (rfl : _ = some [_, _])) ?_
  refine bk rfl rfl (by decide) rfl rfl rfl rfl rfl rfl ?_
  refine cE rfl (aD (aC (az (aV ?_))))
  refine jT rfl rfl rfl rfl rfl (by decide) rfl rfl rfl ?_ ?_
  all_goals skip
  all_goals first | exact bE rfl rfl (congrArg (fun s => Ty.agg (dL.tys s)) (DP hc1 hc2).2) | exact bE rfl rfl (congrArg (Ty.int .i64) (DP hc1 hc2).1)
 refine ak (aC (aE (aA ?_)))
 refine aZ rfl rfl rfl (by exact Nat.le_of_ble_eq_true rfl) ?_
 refine ah (n6 y hs ho) rfl rfl rfl rfl rfl (ny rfl (bD rfl rfl (bD rfl rfl (l9 rfl (cE rfl (aD (aC (aE (aE ?_)))))))))
 refine aA (bR rfl (bC rfl rfl rfl (aD (aC ?_))))
 refine pP rfl (by rw [decide_eq_false ho]; rfl) ?_
 refine aE (aA ?_)
 refine c6 rfl rfl (by exact List.cons_ne_nil _ _) rfl (by repeat (exact (aW.nil : aW _ _ [] _))) (by exact (rfl : _ = some [_, _])) ?_
 refine bR rfl ?_
 refine bk rfl rfl (by decide) rfl rfl rfl rfl rfl rfl ?_
 refine cE rfl (aD (aC (az (aV ?_))))
 refine jT rfl rfl rfl rfl rfl (by decide) rfl rfl rfl ?_ ?_
 all_goals skip
 all_goals first | exact bE rfl rfl (congrArg (fun s => Ty.agg (dL.tys s)) (JN hc1 hc2 ho).2) | exact bE rfl rfl (congrArg (Ty.int .i64) (JN hc1 hc2 ho).1)
set_option maxRecDepth 100000 in
theorem Bk (y : aq) (hs : y.Small) (q : Int) (ho : cH y = 0) : dz Tryz.prog 48 [fE y, Ty.int .i64 q] (Ty.jR [Ty.agg (dL.tys (gC y q)), Ty.int .i64 (j9 y q)]) := by
 refine bB Tryz.func48 rfl (by decide) Tryz.ntmps48 (by exact Nat.le_of_ble_eq_true rfl) fun w0 M0 => ?_
 have hck := dD ho
 have hr := cR hck
 have hF : lO y (aS y (nth bZ)) (kH y) := sy ho
 have hfe := pO ho
 have hsm := hs.moves
 have hfl := fC (y := y) (c := nth bZ)
 have hf34 : (aS y (nth bZ)).length ≤ 34 := jo hr
 refine aE (aA (bN rfl ?_))
 refine bw rfl (by exact List.cons_ne_nil _ _) rfl ?_
 refine cE rfl (aD (aC (aE (aE (aA ?_)))))
 refine aZ rfl rfl rfl (by exact Nat.le_of_ble_eq_true rfl) ?_
 refine ah (jV y hs) rfl rfl rfl rfl rfl (cE rfl (aD (aC (aE (aA (bR rfl (bC rfl rfl rfl (aD (aC ?_)))))))))
 refine dI rfl (fun hc1 => ?_) (fun hc1 => ?_)
 ·
  refine aE (aA ?_)
  refine c6 rfl rfl (by exact List.cons_ne_nil _ _) rfl (by repeat (exact (aW.nil : aW _ _ [] _))) (by exact (rfl : _ = some [_, _])) ?_
  refine bR rfl ?_
  refine bk rfl rfl (by decide) rfl rfl rfl rfl rfl rfl ?_
  refine cE rfl (aD (aC (az (aV ?_))))
  refine jT rfl rfl rfl rfl rfl (by decide) rfl rfl rfl ?_ ?_
  all_goals skip
  all_goals first | exact bE rfl rfl (congrArg (fun s => Ty.agg (dL.tys s)) (DH hc1).2) | exact bE rfl rfl (congrArg (Ty.int .i64) (DH hc1).1)
 refine ak (aC (aE (aE (aA (bR rfl ?_)))))
 refine aQ rfl rfl rfl rfl rfl (by decide) ?_
 refine aN rfl rfl rfl rfl (ct rfl rfl rfl ?_)
 refine gz rfl rfl (by omega) (by omega) ?_
 refine ah (uA _ _ _) rfl rfl rfl rfl rfl (dh rfl (aD (aC ?_)))
 refine cr rfl (fun hc2 => ?_) (fun hc2 => ?_)
 ·
  refine aE (aA ?_)
  refine c6 rfl rfl (by exact List.cons_ne_nil _ _) rfl (by repeat (exact (aW.nil : aW _ _ [] _))) (by exact (rfl : _ = some [_, _])) ?_
  refine bk rfl rfl (by decide) rfl rfl rfl rfl rfl rfl ?_
  refine cE rfl (aD (aC (az (aV ?_))))
  refine jT rfl rfl rfl rfl rfl (by decide) rfl rfl rfl ?_ ?_
  all_goals skip
  all_goals first | exact bE rfl rfl (congrArg (fun s => Ty.agg (dL.tys s)) (DP hc1 hc2).2) | exact bE rfl rfl (congrArg (Ty.int .i64) (DP hc1 hc2).1)
 refine ak (aC (aE (aA ?_)))
 refine aZ rfl rfl rfl (by exact Nat.le_of_ble_eq_true rfl) ?_
 refine b9 (res' := Ty.jR [Ty.pp (eE y (aS y (nth bZ)) 1000 (aS y (nth bZ)).length), Ty.int .i64 0]) [(1000, 1000)] [1000] [(1000, Cont.vec c7 3 (kH y))] (vI y hs ho) rfl rfl (aH bH (aR rfl rfl)) pre_nil (bI (a := 1000) (b := 1000) (by decide) rfl (bV (by decide) rfl) post_nil) (tJ (aH (aH bH (aR rfl rfl)) (fA (aH (aH (aH (aH (aH (aH bH (dV (by decide))) (aR rfl rfl)) (aR rfl rfl)) (aR rfl rfl)) (aR rfl rfl)) (aR rfl rfl))))) ?_
 refine ny rfl (bD rfl rfl (bD rfl rfl (Iv rfl (cE rfl (aD (aC (aE (aE (aA ?_)))))))))
 refine bR rfl (bC rfl rfl rfl (aD (aC (fZ rfl (rfl) (ak (aC (aE ?_)))))))
 have hq := xV hc2
 refine cQ mixed rfl (jZ rfl (bu rfl ?_))
 refine aQ rfl rfl rfl rfl rfl (by decide) ?_
 refine aN rfl rfl rfl rfl (ct rfl rfl rfl ?_)
 refine aQ rfl rfl rfl rfl rfl (by decide) ?_
 refine aN rfl rfl rfl rfl (ct rfl rfl rfl ?_)
 refine gz rfl rfl (by omega) (by omega) ?_
 refine bR rfl ?_
 refine cD rfl rfl (by omega) (by omega) ?_
 refine bw rfl (by exact List.cons_ne_nil _ _) rfl ?_
 refine cq rfl rfl (by decide) rfl rfl (by exact (rfl : _ = Ty.int _ _)) rfl (by exact Nat.le_of_ble_eq_true rfl) rfl rfl (by exact (rfl : _ = [_])) ?_
 refine aD ?_
 refine ⟨by kernel_rfl, ?_⟩
 refine aC (aE ?_)
 refine fq (s := 9) rfl (Ty.aF _) ?_
 refine gI (tg := 10) rfl (Cont.mQ (T := 3) (show [Ty.int .i64 (((aS y (nth bZ)).length : Int) - (y.moves.length : Int) + q)] = [Ty.int .i64 ((y.bins.length * (y.D + 1) + q.toNat : Nat) : Int)] by congr 2; rw [hfl]; omega)) ?_
 refine lR (tg := 10) [(9, Ty.pp [Ty.int .i64 ((y.bins.length * (y.D + 1) + q.toNat : Nat) : Int)])] (by decide) rfl ⟨l6 (T := 3) (off := 0) (l := [Ty.int .i64 ((y.bins.length * (y.D + 1) + q.toNat : Nat) : Int)]) rfl rfl rfl (by decide), trivial⟩ ?_
 refine aA (jZ rfl (dR rfl ?_))
 refine b9 [(1000, 1000)] [] [(1000, Cont.vec c7 3 (yB (aS y (nth bZ)) (y.cells + 1) (sN (y.bins.length * (y.D + 1) + q.toNat)) (kH y)))] (B2 y (aS y (nth bZ)) (kH y) hF hfe (Ty.jf 121 [Ty.pp [Ty.int .i64 ((y.bins.length * (y.D + 1) + q.toNat : Nat) : Int)]]) rfl rfl (sN (y.bins.length * (y.D + 1) + q.toNat)) (fun i _ => by rw [← IZ]; exact dX (Ey (i : Nat) _) rfl rfl rfl rfl rfl rfl) rfl) rfl rfl (aH (aH bH (aR rfl rfl)) (fA (aH (aH (aH (aH (aH (aH bH (dV (by exact List.mem_cons_self))) (aR rfl rfl)) (aR rfl rfl)) (aR rfl rfl)) (aR rfl rfl)) (aR rfl rfl)))) (cC (a := 1000) (b := 1000) (by exact List.mem_cons_self) rfl (bV (by exact List.mem_cons_self) rfl) pre_nil) (bI (a := 1000) (b := 1000) (by decide) rfl (bV (by decide) rfl) post_nil) (aR rfl rfl) ?_
 refine bk rfl rfl (by decide) rfl rfl rfl rfl rfl rfl ?_
 refine cE rfl (aD (aC (az ?_)))
 refine jT rfl rfl rfl rfl rfl (by decide) rfl rfl rfl ?_ ?_
 all_goals skip
 all_goals first | exact bE rfl rfl (congrArg (fun s => Ty.agg (dL.tys s)) (C8 hc1 hc2 ho).2) | exact bE rfl rfl (congrArg (Ty.int .i64) (C8 hc1 hc2 ho).1)
theorem mR (y : aq) (hs : y.Small) (q : Int) : dz Tryz.prog 22 [fE y, Ty.int .i64 q] (Ty.jR [Ty.sl dL (dZ y q), Ty.int .i64 (jc y q)]) := by
 by_cases ho : cH y = 0
 ·exact AQ y hs q ho
 exact AZ y hs q ho
theorem zN (y : aq) (hs : y.Small) (q : Int) : dz Tryz.prog 48 [fE y, Ty.int .i64 q] (Ty.jR [Ty.agg (dL.tys (gC y q)), Ty.int .i64 (j9 y q)]) := by
 by_cases ho : cH y = 0
 ·exact Bk y hs q ho
 exact CW y hs q ho
end Go.Proofs.YtelbollidfdcjaaGreat
namespace Go.T
open Go Go.RowKit
theorem J5 {ρ : List (Nat × Nat)} {l1 l2 : List Ty} (h1 : cG l1 = []) (h2 : bl l1 = []) : Conv ρ (.pp (l1 ++ l2)) (.pp l1) := fun w M M' v wf wf' hre ⟨b, off, e, hm, hlt, hd⟩ =>
 ⟨b, off, e, hre.none b hm, hlt, fun i t hi => by
  have hl := (List.getElem?_eq_some_iff.1 hi).1
  obtain ⟨x, hx, hdx⟩ := hd i t (by rw [List.getElem?_append_left hl]; exact hi)
  refine ⟨x, hx, aR ?_ ?_ w M M' x wf wf' hre hdx⟩
  ·refine List.eq_nil_iff_forall_not_mem.2 fun u hu => ?_
   have : u ∈ cG l1 := List.mem_flatMap.2 ⟨t, List.mem_of_getElem? hi, hu⟩
   rw [h1] at this; cases this
  refine List.eq_nil_iff_forall_not_mem.2 fun u hu => ?_
  have : u ∈ bl l1 := List.mem_flatMap.2 ⟨t, List.mem_of_getElem? hi, hu⟩
  rw [h2] at this; cases this⟩
end Go.T
namespace Go.Proofs.YtelbollidfdcjaaGreat
open Go Go.T
set_option maxHeartbeats 16000000
def oO (y : aq) (t : Nat) (i : Nat) : Bool := (List.range y.bins.length).any fun b => decide ((i : Int) = ((y.kept b t : Nat) : Int))
noncomputable def rD (fl : List bz) (n : Nat) (y : aq) (a : List Int) : Nat → List Int
  | 0 => a
  | t + 1 => yB fl n (oO y t) (rD fl n y a t)
noncomputable def qJ (fl : List bz) (n : Nat) (y : aq) (k : Nat) : List Span := (List.range k).map fun t => gU fl n (oO y t)
noncomputable def gb (y : aq) : List Span := if cH y = 0 then qJ (aS y (nth bZ)) (y.cells + 1) y (y.D + 1) else []
noncomputable def j8 (y : aq) (q s : Int) (p : Span → Bool) : Int :=
  if eI y q = 0 then (if (!(decide (s ≥ 0) && decide (s ≤ 300))) = true then 3 else if jc y q = 0 then (if fidx p (dZ y q) < 0 then 6 else 0) else jc y q) else eI y q
noncomputable def m8 (y : aq) (q s : Int) (p : Span → Bool) : Int := if j8 y q s p = 0 then fidx p (dZ y q) else 0
section
variable {y : aq} {fl : List bz} {a : List Int} {n b k : Nat} {q s : Int} {p : Span → Bool} {i t : Nat}
theorem AP (hN : Net fl n) (hn : 0 < n) (hB : Bd fl) (h : gT fl n a) : ∀ t, gT fl n (rD fl n y a t)
  | 0 => h
  | t + 1 => (sB hN hn hB (AP hN hn hB h t)).2.1
theorem Gq : a = rD fl n y a 0 := rfl
theorem GR (t : Nat) : yB fl n (oO y t) (rD fl n y a t) = rD fl n y a (t + 1) := rfl
theorem Dx (t : Nat) : qJ fl n y t ++ [gU fl n (oO y t)] = qJ fl n y (t + 1) := by unfold qJ; rw [List.range_succ, List.map_append]; rfl
theorem HY (t : Nat) : (qJ fl n y t).length = t := by unfold qJ; rw [List.length_map, List.length_range]
theorem EF : qJ fl n y 0 = [] := rfl
theorem G9 (hb : b < y.bins.length) (h : (i : Int) = ((y.kept b t : Nat) : Int)) : true = oO y t i := (List.any_eq_true.2 ⟨b, List.mem_range.2 hb, decide_eq_true h⟩).symm
theorem IQ (h : ∀ b, b < y.bins.length → ¬ (i : Int) = ((y.kept b t : Nat) : Int)) : false = oO y t i := by
 refine (List.any_eq_false.2 fun b hb => ?_).symm
 rw [decide_eq_true_eq]; exact h b (List.mem_range.1 hb)
theorem I4 (h : cH y ≠ 0) : [] = gb y := (if_neg h).symm
theorem Az (h : cH y = 0) : qJ (aS y (nth bZ)) (y.cells + 1) y (y.D + 1) = gb y := (if_pos h).symm
theorem Dc {e : Int} (h : e = j8 y q s p) (h0 : e ≠ 0) : 0 = m8 y q s p := by unfold m8; rw [← h, if_neg h0]
theorem Jk (h : ¬ eI y q = 0) : eI y q = j8 y q s p ∧ 0 = m8 y q s p := by
 have e : eI y q = j8 y q s p := (if_neg h).symm
 exact ⟨e, Dc e h⟩
theorem Jj (h : eI y q = 0) (h2 : (!(decide (s ≥ 0) && decide (s ≤ 300))) = true) : 3 = j8 y q s p ∧ 0 = m8 y q s p := by
 have e : 3 = j8 y q s p := by unfold j8; rw [if_pos h, if_pos h2]
 exact ⟨e, Dc e (by decide)⟩
theorem Ji (h : eI y q = 0) (h2 : (!(decide (s ≥ 0) && decide (s ≤ 300))) = false) (h3 : ¬ jc y q = 0) : jc y q = j8 y q s p ∧ 0 = m8 y q s p := by
 have e : jc y q = j8 y q s p := by unfold j8; rw [if_pos h, if_neg (by rw [h2]; decide), if_neg h3]
 exact ⟨e, Dc e h3⟩
theorem JU (h : eI y q = 0) (h2 : (!(decide (s ≥ 0) && decide (s ≤ 300))) = false) (h3 : jc y q = 0) (h4 : fidx p (dZ y q) < 0) : 6 = j8 y q s p ∧ 0 = m8 y q s p := by
 have e : 6 = j8 y q s p := by unfold j8; rw [if_pos h, if_neg (by rw [h2]; decide), if_pos h3, if_pos h4]
 exact ⟨e, Dc e (by decide)⟩
theorem GN (h : eI y q = 0) (h2 : (!(decide (s ≥ 0) && decide (s ≤ 300))) = false) (h3 : jc y q = 0) (h4 : ¬ fidx p (dZ y q) < 0) : 0 = j8 y q s p ∧ fidx p (dZ y q) = m8 y q s p := by
 have e : 0 = j8 y q s p := by unfold j8; rw [if_pos h, if_neg (by rw [h2]; decide), if_pos h3, if_neg h4]
 exact ⟨e, by unfold m8; rw [← e]; rfl⟩
end
attribute [local irreducible] aS gY Way.gi Way.fin Way.room eS eA ep gR over bQ cN dc eT jP e9 gj j4 cS gH fX fW cz cK gS om iO iW ia gU z8 yB hU aq.kept aq.cells bU eI bZ gD kH cH oa pq jc dZ j9 gC hasB sN rD qJ gb oO j8 m8
attribute [local irreducible] iP fT nJ qo jJ jK jE jM jG qi jI qn eG gx qg gm qj nth fM dm aj dz bodyPost Exit.then Exit.inBlock Code.wp Code.wpIn qm jL ql qd jH eJ cV cm bodyPostM eN
set_option maxRecDepth 100000 in
theorem FQ (y : aq) (hr : y.cx) (i t : Nat) (ht : t ≤ y.D) : dz Tryz.prog 88 [Ty.int .i64 ((i : Nat) : Int), Ty.pp (bO y), Ty.pp [Ty.pp (bO y)], Ty.pp [Ty.int .i64 ((t : Nat) : Int)]] (Ty.bool (oO y t i)) := by
 refine bB Tryz.func88 rfl (by decide) Tryz.ntmps88 (by exact Nat.le_of_ble_eq_true rfl) fun w0 M0 => ?_
 have h1 := hr.bins
 refine aE (aA (dr rfl (aD (aC (aE (aE (aA ?_)))))))
 refine aQ rfl rfl rfl rfl rfl (by decide) ?_
 refine aN rfl rfl rfl rfl (ct rfl rfl rfl (bR rfl (aD (aC (au ?_)))))
 refine cZ (fun (b : {b : Nat // b ≤ y.bins.length ∧ ∀ c, c < b → ¬ (i : Int) = ((y.kept c t : Nat) : Int)}) => live [(0, Ty.int .i64 ((i : Nat) : Int)), (1, Ty.pp (bO y)), (2, Ty.pp [Ty.pp (bO y)]), (3, Ty.pp [Ty.int .i64 ((t : Nat) : Int)]), (9, Ty.int .i64 y.bins.length), (10, Ty.int .i64 (b.1 : Nat))] []) (fun b => y.bins.length - b.1) (⟨0, Nat.zero_le _, fun c hc => absurd hc (Nat.not_lt_zero c)⟩) ?_ fun b => ?_
 ·(refine dG.mk' ?_ ?_ <;> (repeat' (first | exact aJ | exact aI | refine aB ?_ (Ty.aX _) | refine aB ?_ (Ty.aF _))))
 have hb := b.2.1
 refine aE (aA (bC rfl rfl rfl (aD (aC (aE ?_)))))
 refine av rfl (fun hc1 => ?_) (fun hc1 => ?_)
 ·
  refine ak (aC (aE (au (aE (aA (bR rfl (cE rfl (aD (aC ?_)))))))))
  refine aE (aA (bR rfl (aN rfl rfl rfl rfl (bR rfl (aN rfl rfl rfl rfl ?_)))))
  refine ah (Br y hr b.1 t (by omega) ht) rfl rfl rfl rfl rfl ?_
  refine bC rfl rfl rfl (aD (aC ?_))
  refine av rfl (fun hc2 => ?_) (fun hc2 => ?_)
  ·
   refine aE (aA (dr rfl (aD (aC (az (bJ (aV (aV (bJ ?_)))))))))
   refine aV (bq rfl rfl ?_)
   all_goals skip
   all_goals exact bE rfl rfl (congrArg Ty.bool (G9 (by omega) hc2))
  refine ak (bf (aC (aA ?_)))
  refine cD rfl rfl (by omega) (by omega) ?_
  refine bR rfl (aD ?_)
  refine bp (⟨b.1 + 1, by omega, fun c hc => by by_cases e : c = b.1; (subst e; exact hc2); exact b.2.2 c (by omega)⟩) ?_ (by show y.bins.length - (b.1 + 1) < y.bins.length - b.1; omega)
  (refine dG.mk' ?_ ?_ <;> (repeat' (first | exact aJ | exact aI | refine aB ?_ (Ty.aX _) | refine aB ?_ (Ty.aF _))))
  all_goals skip
 refine cg (aT (aT (bA rfl (aC (aE (aA (dr rfl (aD (aC ?_)))))))))
 refine az (bq rfl rfl ?_)
 all_goals skip
 all_goals exact bE rfl rfl (congrArg Ty.bool (IQ fun c hc => b.2.2 c (by have := b.2.1; omega)))
set_option maxRecDepth 100000 in
theorem CI (y : aq) (hs : y.Small) (ho : cH y ≠ 0) : dz Tryz.prog 21 [fE y] (Ty.jR [Ty.sl dL (gb y), Ty.int .i64 (cH y)]) := by
 refine bB Tryz.func21 rfl (by decide) Tryz.ntmps21 (by exact Nat.le_of_ble_eq_true rfl) fun w0 M0 => ?_
 refine aE (aA (bN rfl (l9 rfl (cE rfl (aD (aC (aE (aA ?_))))))))
 refine aZ rfl rfl rfl (by exact Nat.le_of_ble_eq_true rfl) ?_
 refine ah (n6 y hs ho) rfl rfl rfl rfl rfl (ny rfl (bD rfl rfl (bD rfl rfl ?_)))
 refine bw rfl (by exact List.cons_ne_nil _ _) rfl ?_
 refine cq rfl rfl (by decide) rfl rfl (by exact (rfl : _ = Ty.ex _)) rfl (by exact Nat.le_of_ble_eq_true rfl) rfl rfl (by exact (rfl : _ = [_])) ?_
 refine cE rfl (aD (aC (aE (aE (aA (bR rfl (bC rfl rfl rfl (aD (aC ?_)))))))))
 refine pP rfl (by rw [decide_eq_false ho]; rfl) ?_
 refine aE (aA (bR rfl (l9 rfl (cE rfl (aD (aC (az (aV ?_))))))))
 refine fU rfl rfl rfl ?_ ?_
 all_goals first | exact cP rfl rfl | skip
 all_goals exact gA (I4 ho).symm
set_option maxRecDepth 100000 in
theorem CD (y : aq) (hs : y.Small) (ho : cH y = 0) : dz Tryz.prog 21 [fE y] (Ty.jR [Ty.sl dL (gb y), Ty.int .i64 (cH y)]) := by
 refine bB Tryz.func21 rfl (by decide) Tryz.ntmps21 (by exact Nat.le_of_ble_eq_true rfl) fun w0 M0 => ?_
 have hck := dD ho
 have hr := cR hck
 have hF : lO y (aS y (nth bZ)) (kH y) := sy ho
 have hfe := pO ho
 have h1 := hr.bins
 have h2 := hr.days
 have h3 := D_eq hr
 have hft := AP (y := y) hF.net (Nat.succ_pos _) hF.bd hfe
 refine aE (aA (bN rfl (l9 rfl (cE rfl (aD (aC (aE (aA ?_))))))))
 refine aZ rfl rfl rfl (by exact Nat.le_of_ble_eq_true rfl) ?_
 refine b9 (res' := Ty.jR [Ty.pp (eE y (aS y (nth bZ)) 1000 (aS y (nth bZ)).length), Ty.int .i64 0]) [(1000, 1000)] [1000] [(1000, Cont.vec c7 3 (kH y))] (vI y hs ho) rfl rfl (aH bH (aR rfl rfl)) pre_nil (bI (a := 1000) (b := 1000) (by decide) rfl (bV (by decide) rfl) post_nil) (tJ (aH (aH bH (aR rfl rfl)) (fA (aH (aH (aH (aH (aH (aH bH (dV (by decide))) (aR rfl rfl)) (aR rfl rfl)) (aR rfl rfl)) (aR rfl rfl)) (aR rfl rfl))))) ?_
 refine ny rfl (bD rfl rfl (bD rfl rfl ?_))
 refine bw rfl (by exact List.cons_ne_nil _ _) rfl ?_
 refine cq rfl rfl (by decide) rfl rfl (by exact (rfl : _ = Ty.pp _)) rfl (by exact Nat.le_of_ble_eq_true rfl) rfl rfl (by exact (rfl : _ = [_])) ?_
 refine cE rfl (aD (aC (aE (aE (aA (bR rfl (bC rfl rfl rfl (aD (aC ?_)))))))))
 refine fZ rfl (rfl) (ak (aC (aE ?_)))
 refine lR (tg := 5) [(4, Ty.pp [Ty.pp (eE y (aS y (nth bZ)) 1000 (aS y (nth bZ)).length)])] (by decide) rfl ⟨l6 (T := 152) (off := 0) (l := [Ty.pp (eE y (aS y (nth bZ)) 1000 (aS y (nth bZ)).length)]) rfl rfl rfl (by decide), trivial⟩ ?_
 refine aA (l9 rfl (aD (aC (aE (aE (aA ?_))))))
 refine aQ rfl rfl rfl rfl rfl (by decide) ?_
 refine aN rfl rfl rfl rfl ?_
 refine cD rfl rfl (by omega) (by omega) ?_
 refine bR rfl (aD (aC (au ?_)))
 refine cZ (fun (t : {t : Nat // t ≤ y.D + 1}) => live [(1, Ty.pp (bO y)), (4, Ty.pp [Ty.pp (eE y (aS y (nth bZ)) 1000 (aS y (nth bZ)).length)]), (6, Ty.row dL 37 27 (qJ (aS y (nth bZ)) (y.cells + 1) y t.1)), (18, Ty.int .i64 (y.days + 1)), (19, Ty.int .i64 (t.1 : Nat))] [(1000, Cont.vec c7 3 (rD (aS y (nth bZ)) (y.cells + 1) y (kH y) t.1))]) (fun t => y.D + 1 - t.1) (⟨0, by omega⟩) ?_ fun t => ?_
 ·(refine dG.mk' ?_ ?_ <;> (repeat' (first | exact aJ | exact aI | refine aB ?_ (Ty.aX _) | refine aB ?_ (Ty.aF _) | refine aG rfl ?_ ?_ | refine aB ?_ ?_)))
  all_goals first | exact AK EF | exact Cont.eY Gq
 have hbl := HY (fl := (aS y (nth bZ))) (n := (y.cells + 1)) (y := y) t.1
 have ht := t.2
 have hFt : lO y (aS y (nth bZ)) (rD (aS y (nth bZ)) (y.cells + 1) y (kH y) t.1) := ⟨hr, hF.net, hF.bd, (hft t.1).1, hF.nx⟩
 refine aE (aA (bC rfl rfl rfl (aD (aC (aE ?_)))))
 refine av rfl (fun hc2 => ?_) (fun hc2 => ?_)
 ·
  refine ak (aC (aE (au (aE (aA (bR rfl ?_))))))
  refine bw rfl (by exact List.cons_ne_nil _ _) rfl ?_
  refine cq rfl rfl (by decide) rfl rfl (by exact (rfl : _ = Ty.int _ _)) rfl (by exact Nat.le_of_ble_eq_true rfl) rfl rfl (by exact (rfl : _ = [_])) ?_
  refine aD (aC ?_)
  refine lR (tg := 8) [(7, Ty.pp [Ty.int .i64 ((t.1 : Nat) : Int)])] (by decide) rfl ⟨l6 (T := 3) (off := 0) (l := [Ty.int .i64 ((t.1 : Nat) : Int)]) rfl rfl rfl (by decide), trivial⟩ ?_
  refine aA (IN rfl (aN rfl rfl rfl rfl (dR rfl ?_)))
  refine b9 [(1000, 1000)] [] [(1000, Cont.vec c7 3 (yB (aS y (nth bZ)) (y.cells + 1) (oO y t.1) (rD (aS y (nth bZ)) (y.cells + 1) y (kH y) t.1)))] (B2 y (aS y (nth bZ)) (rD (aS y (nth bZ)) (y.cells + 1) y (kH y) t.1) hFt (hft t.1) (Ty.jf 88 [Ty.pp (bO y), Ty.pp [Ty.pp (bO y)], Ty.pp [Ty.int .i64 ((t.1 : Nat) : Int)]]) rfl rfl (oO y t.1) (fun i _ => dX (FQ y hr i t.1 (by omega)) rfl rfl rfl rfl rfl rfl) rfl) rfl rfl (aH (aH bH (tE (aH (aH (aH bH (aR rfl rfl)) (fA (aH bH (J5 (l1 := bO y) (l2 := [Ty.sl dw (aS y (nth bZ)), Ty.vs 1000 (aS y (nth bZ)).length]) rfl rfl)))) (aR rfl rfl)))) (fA (aH (aH (aH (aH (aH (aH bH (dV (by exact List.mem_cons_self))) (aR rfl rfl)) (aR rfl rfl)) (aR rfl rfl)) (aR rfl rfl)) (aR rfl rfl)))) (cC (a := 1000) (b := 1000) (by exact List.mem_cons_self) rfl (bV (by exact List.mem_cons_self) rfl) pre_nil) (bI (a := 1000) (b := 1000) (by decide) rfl (bV (by decide) rfl) post_nil) (aR rfl rfl) ?_
  refine bt (E := dL) (xs := [gU (aS y (nth bZ)) (y.cells + 1) (oO y t.1)]) rfl rfl rfl rfl rfl (by decide) (by decide) (by repeat (first | exact (aW.nil : aW _ _ [] _) | (show aW _ _ ((_, _) :: _) _; apply aW.agg; (· exact (rfl : _ = Ty.agg _))))) (by exact rfl) rfl ?_
  refine fJ rfl rfl (by decide) rfl rfl rfl rfl rfl rfl (by decide) (by (simp <;> omega)) (by (simp <;> omega)) ?_
  refine Ew rfl (aD (bf (aC (aA ?_))))
  refine cD rfl rfl (by omega) (by omega) ?_
  refine bR rfl (aD ?_)
  refine bp (⟨t.1 + 1, by omega⟩) ?_ (by show y.D + 1 - (t.1 + 1) < y.D + 1 - t.1; omega)
  (refine dG.mk' ?_ ?_ <;> (repeat' (first | exact aJ | exact aI | refine aB ?_ (Ty.aX _) | refine aB ?_ (Ty.aF _) | refine aG rfl ?_ ?_ | refine aB ?_ ?_)))
  all_goals skip
  all_goals first | exact Ty.gF (Dx _) | exact Cont.eY (GR _)
 refine cg (aT (aT (bA rfl (aC (aE (aA (IN rfl (Ew rfl (cE rfl ?_)))))))))
 refine aD (aC (az ?_))
 refine fU rfl rfl rfl ?_ ?_
 all_goals skip
 all_goals first | exact wY (by decide) ((show _ = qJ (aS y (nth bZ)) (y.cells + 1) y (y.D + 1) by rw [show t.1 = y.D + 1 by have := t.2; omega]).trans (Az ho)) | exact bE rfl rfl (congrArg (Ty.int .i64) ho.symm)
set_option maxRecDepth 100000 in
theorem IU (y : aq) (hs : y.Small) (q s : Int) (t : Ty) (h1 : t.one = true) (p : Span → Bool) (hd : t.deps = []) (hc : t.cdeps = []) (hf : ∀ x ∈ dZ y q, nv Tryz.prog t [Ty.agg (dL.tys x)] (Ty.bool (p x))) : dz Tryz.prog 100 [fE y, Ty.int .i64 q, Ty.int .i64 s, t] (Ty.jR [Ty.int .i64 (m8 y q s p), Ty.int .i64 (j8 y q s p)]) := by
 refine bB Tryz.func100 rfl (by decide) Tryz.ntmps100 (by exact Nat.le_of_ble_eq_true rfl) fun w0 M0 => ?_
 refine aE (aA (bN rfl (cE rfl (cE rfl (aD (aC (aE (aE (aA ?_)))))))))
 refine aZ rfl rfl rfl (by exact Nat.le_of_ble_eq_true rfl) ?_
 refine bR rfl (ah (yx y hs q) rfl rfl rfl rfl rfl (cE rfl (aD (aC (aE (aA (bR rfl (bC rfl rfl rfl (aD ?_)))))))))
 refine aC ?_
 refine dI rfl (fun hc1 => ?_) (fun hc1 => ?_)
 ·
  refine aE (aA (bR rfl (cE rfl (cE rfl (aD (aC (az (aV ?_))))))))
  refine fU rfl rfl rfl ?_ ?_
  all_goals skip
  all_goals first | exact bE rfl rfl (congrArg (Ty.int .i64) (Jk hc1).1) | exact bE rfl rfl (congrArg (Ty.int .i64) (Jk hc1).2)
 refine ak (aC (aE (aE (aA (bR rfl (ah (uA _ _ _) rfl rfl rfl rfl rfl (dh rfl (aD (aC ?_)))))))))
 refine cr rfl (fun hc2 => ?_) (fun hc2 => ?_)
 ·
  refine aE (aA (cE rfl (cE rfl (aD (aC (az (aV ?_)))))))
  refine fU rfl rfl rfl ?_ ?_
  all_goals skip
  all_goals first | exact bE rfl rfl (congrArg (Ty.int .i64) (Jj hc1 hc2).1) | exact bE rfl rfl (congrArg (Ty.int .i64) (Jj hc1 hc2).2)
 refine ak (aC (aE (aA ?_)))
 refine aZ rfl rfl rfl (by exact Nat.le_of_ble_eq_true rfl) ?_
 refine bR rfl (ah (mR y hs q) rfl rfl rfl rfl rfl (ny rfl (bD rfl rfl (bD rfl rfl (wq rfl (cE rfl (aD (aC (aE ?_)))))))))
 refine aE (aA (bR rfl (bC rfl rfl rfl (aD (aC ?_)))))
 refine dI rfl (fun hc3 => ?_) (fun hc3 => ?_)
 ·
  refine aE (aA (bR rfl (cE rfl (cE rfl (aD (aC (az (aV ?_))))))))
  refine fU rfl rfl rfl ?_ ?_
  all_goals skip
  all_goals first | exact bE rfl rfl (congrArg (Ty.int .i64) (Ji hc1 hc2 hc3).1) | exact bE rfl rfl (congrArg (Ty.int .i64) (Ji hc1 hc2 hc3).2)
 refine ak (aC (aE (aA (fK rfl ?_))))
 refine eD (ty := t) rfl ?_
 refine ah (uB (dZ y q) t h1 p hd hc hf) rfl (by exact bX rfl (bX hd rfl)) (by exact bT rfl (bT hc rfl)) rfl rfl ?_
 refine cE rfl (aD (aC (aE (aE (aA (bR rfl (bC rfl rfl rfl (aD (aC ?_)))))))))
 refine av rfl (fun hc4 => ?_) (fun hc4 => ?_)
 ·
  refine aE (aA (cE rfl (cE rfl (aD (aC (az (aV ?_)))))))
  refine fU rfl rfl rfl ?_ ?_
  all_goals skip
  all_goals first | exact bE rfl rfl (congrArg (Ty.int .i64) (JU hc1 hc2 hc3 hc4).1) | exact bE rfl rfl (congrArg (Ty.int .i64) (JU hc1 hc2 hc3 hc4).2)
 refine ak (aC (aE (aA (bR rfl (cE rfl (cE rfl (aD (aC (az ?_)))))))))
 refine fU rfl rfl rfl ?_ ?_
 all_goals skip
 all_goals first | exact bE rfl rfl (congrArg (Ty.int .i64) (GN hc1 hc2 hc3 hc4).1) | exact bE rfl rfl (congrArg (Ty.int .i64) (GN hc1 hc2 hc3 hc4).2)
set_option maxRecDepth 100000 in
theorem Dz (s : Span) (k : Int) : dz Tryz.prog 101 [Ty.agg (dL.tys s), Ty.pp [Ty.int .i64 k]] (Ty.bool (decide (s.lo ≥ k))) := by
 refine bB Tryz.func101 rfl (by decide) Tryz.ntmps101 (by exact Nat.le_of_ble_eq_true rfl) fun w0 M0 => ?_
 refine aE (aA (bN rfl (dr rfl (aD (aC (aE (aA ?_)))))))
 refine aQ rfl rfl rfl rfl rfl (by decide) ?_
 refine aN rfl rfl rfl rfl (aN rfl rfl rfl rfl (bC rfl rfl rfl (dr rfl (aD (aC (az (bq rfl rfl ?_)))))))
 all_goals exact cP rfl rfl
set_option maxRecDepth 100000 in
theorem HW (y : aq) (hs : y.Small) (q s : Int) : dz Tryz.prog 33 [fE y, Ty.int .i64 q, Ty.int .i64 s] (Ty.jR [Ty.int .i64 (m8 y q s fun x => decide (x.lo ≥ s)), Ty.int .i64 (j8 y q s fun x => decide (x.lo ≥ s))]) := by
 refine bB Tryz.func33 rfl (by decide) Tryz.ntmps33 (by exact Nat.le_of_ble_eq_true rfl) fun w0 M0 => ?_
 refine aE (aA (bN rfl ?_))
 refine gL (by exact (rfl : _ = Ty.int _ _)) rfl ?_
 refine cE rfl (cE rfl (aD (aC (aE (aA ?_)))))
 refine aZ rfl rfl rfl (by exact Nat.le_of_ble_eq_true rfl) ?_
 refine bR rfl (aN rfl rfl rfl rfl (dR rfl ?_))
 refine ah (IU y hs q s (Ty.jf 101 [Ty.pp [Ty.int .i64 s]]) rfl (fun x => decide (x.lo ≥ s)) rfl rfl fun x _ => dX (Dz x s) rfl rfl rfl rfl rfl rfl) rfl rfl rfl rfl rfl ?_
 refine bD rfl rfl (bD rfl rfl (cE rfl (cE rfl (aD (aC (az ?_))))))
 refine fU rfl rfl rfl ?_ ?_
 all_goals exact cP rfl rfl
theorem um (y : aq) (hs : y.Small) : dz Tryz.prog 21 [fE y] (Ty.jR [Ty.sl dL (gb y), Ty.int .i64 (cH y)]) := by
 by_cases ho : cH y = 0
 ·exact CD y hs ho
 exact CI y hs ho
end Go.Proofs.YtelbollidfdcjaaGreat
namespace Go.Proofs.YtelbollidfdcjaaGreat
open Go Go.T
set_option maxHeartbeats 16000000
structure Cl where
  cells : List Bc
  out : Bool
  deriving Inhabited
def mA (p : Cl) : List Ty := [Ty.sl qV p.cells, Ty.bool p.out]
def kK (fl : List bz) : Int := fl.foldl (fun m f => max m (f.lo - f.hi)) (-300)
def we (y : aq) (l : List Bc) (c : Int) : Bool := l.any fun x => decide (y.cell x.bin x.day = c)
def FZ (y : aq) (p : Cl) (f : bz) : Bool := if p.out = true then (we y p.cells f.src && !we y p.cells f.dst) else (we y p.cells f.dst && !we y p.cells f.src)
def D3 (y : aq) (p : Cl) (f : bz) : Bool := if p.out = true then (we y p.cells f.dst && !we y p.cells f.src) else (we y p.cells f.src && !we y p.cells f.dst)
def rT (y : aq) (p : Cl) (m : Int) (f : bz) : Int := (m + if FZ y p f = true then f.lo else 0) - if D3 y p f = true then f.hi else 0
def gN (y : aq) (fl : List bz) (p : Cl) : Nat → Int
  | 0 => 0
  | k + 1 => rT y p (gN y fl p k) (nth fl k)
def jS (y : aq) (fl : List bz) (p : Cl) : Int := if p.cells = [] then kK fl else gN y fl p fl.length
def lW (a b : Bc) : Bool := !decide (a = b) && (decide (a.bin < b.bin) || (decide (a.bin = b.bin) && decide (a.day < b.day)))
def E3 (y : aq) (c : Bc) : Bool := y.bin c.bin && (decide (c.day ≥ 0) && decide (c.day ≤ y.days - 1))
open Classical in
noncomputable def mo (y : aq) (p : Cl) : Int := if bU y = 0 then (if (p.cells.all (E3 y)) = true then (if (∀ i, i + 1 < p.cells.length → lW (nth p.cells i) (nth p.cells (i + 1)) = true) then (if jS y (aS y (nth bZ)) p < 1 then 6 else 0) else 4) else 1) else bU y
noncomputable def sF (y : aq) (p : Cl) : Int := if mo y p = 0 then jS y (aS y (nth bZ)) p else 0
section
variable {y : aq} {fl : List bz} {a : List Int} {n b k : Nat} {p : Cl} {f : bz} {m : Int}
theorem Bm : -300 = kK (fl.take 0) := rfl
theorem CK (h : k < fl.length) : max (kK (fl.take k)) ((nth fl k).lo - (nth fl k).hi) = kK (fl.take (k + 1)) := by
 unfold kK; rw [eB h, List.foldl_append]; rfl
theorem FP (h : p.out = true) : (we y p.cells f.src && !we y p.cells f.dst) = FZ y p f ∧ (we y p.cells f.dst && !we y p.cells f.src) = D3 y p f := ⟨(if_pos h).symm, (if_pos h).symm⟩
theorem JX (h : p.out = false) : (we y p.cells f.dst && !we y p.cells f.src) = FZ y p f ∧ (we y p.cells f.src && !we y p.cells f.dst) = D3 y p f := ⟨(if_neg (by rw [h]; decide)).symm, (if_neg (by rw [h]; decide)).symm⟩
def nY (y : aq) (p : Cl) (m : Int) (f : bz) : Int := m + if FZ y p f = true then f.lo else 0
theorem F2 (h : FZ y p f = true) : m + f.lo = nY y p m f := by unfold nY; rw [if_pos h]
theorem Ia (h : FZ y p f = false) : m = nY y p m f := by unfold nY; rw [if_neg (by rw [h]; decide)]; omega
theorem Co (h : 0 ≤ f.lo ∧ f.lo ≤ 300) : m ≤ nY y p m f ∧ nY y p m f ≤ m + 300 := by unfold nY; split <;> omega
theorem xx : 0 = gN y fl p 0 := rfl
theorem AM (h : D3 y p (nth fl k) = true) : nY y p (gN y fl p k) (nth fl k) - (nth fl k).hi = gN y fl p (k + 1) := by
 show _ = rT y p _ _; unfold rT; rw [if_pos h]; rfl
theorem Cz (h : D3 y p (nth fl k) = false) : nY y p (gN y fl p k) (nth fl k) = gN y fl p (k + 1) := by
 have e : ¬ D3 y p (nth fl k) = true := by rw [h]; decide
 show _ = rT y p _ _; unfold rT; rw [if_neg e]; unfold nY; omega
theorem A5 (hb : ∀ i, i < fl.length → 0 ≤ (nth fl i).lo ∧ (nth fl i).lo ≤ 300 ∧ 0 ≤ (nth fl i).hi ∧ (nth fl i).hi ≤ 300) : ∀ k, k ≤ fl.length → -(300 * (k : Int)) ≤ gN y fl p k ∧ gN y fl p k ≤ 300 * (k : Int)
  | 0, _ => by rw [← xx]; omega
  | k + 1, h => by
    have ih := A5 hb k (by omega)
    have h1 := hb k (by omega)
    have h2 := Co (y := y) (p := p) (m := gN y fl p k) (f := nth fl k) ⟨h1.1, h1.2.1⟩
    cases e : D3 y p (nth fl k) with
    | true => rw [← AM e]; omega
    | false => rw [← Cz e]; omega
theorem CO (h : p.cells = []) : kK fl = jS y fl p := (if_pos h).symm
theorem BA (h : p.cells ≠ []) : gN y fl p fl.length = jS y fl p := (if_neg h).symm
theorem Kn (h : (p.cells.length : Int) = 0) : p.cells = [] := List.length_eq_zero_iff.1 (by omega)
theorem JH (h : ¬ (p.cells.length : Int) = 0) : p.cells ≠ [] := fun e => h (by rw [e]; rfl)
theorem Cq {e : Int} (h : e = mo y p) (h0 : e ≠ 0) : 0 = sF y p := by unfold sF; rw [← h, if_neg h0]
theorem JM (h : ¬ bU y = 0) : bU y = mo y p ∧ 0 = sF y p := by
 have e : bU y = mo y p := (if_neg h).symm
 exact ⟨e, Cq e h⟩
theorem Ja (h : bU y = 0) (h2 : (p.cells.all (E3 y)) = false) : 1 = mo y p ∧ 0 = sF y p := by
 have e : 1 = mo y p := by unfold mo; rw [if_pos h, if_neg (by rw [h2]; decide)]
 exact ⟨e, Cq e (by decide)⟩
theorem Lv (h : bU y = 0) (h2 : (p.cells.all (E3 y)) = true) {i : Nat} (hi : i + 1 < p.cells.length) (h3 : lW (nth p.cells i) (nth p.cells (i + 1)) = false) : 4 = mo y p ∧ 0 = sF y p := by
 have e : 4 = mo y p := by
  unfold mo; rw [if_pos h, if_pos h2, if_neg fun hx => by rw [hx i hi] at h3; cases h3]
 exact ⟨e, Cq e (by decide)⟩
theorem HT (h : bU y = 0) (h2 : (p.cells.all (E3 y)) = true) {i : Nat} (h1 : 1 ≤ i) (hi : i < p.cells.length) (h3 : lW (nth p.cells (i - 1)) (nth p.cells i) = false) : 4 = mo y p ∧ 0 = sF y p := by
 obtain ⟨j, rfl⟩ : ∃ j, i = j + 1 := ⟨i - 1, by omega⟩
 exact Lv h h2 hi h3
theorem JT (h : bU y = 0) (h2 : (p.cells.all (E3 y)) = true) (h3 : ∀ i, i + 1 < p.cells.length → lW (nth p.cells i) (nth p.cells (i + 1)) = true) (h4 : jS y (aS y (nth bZ)) p < 1) : 6 = mo y p ∧ 0 = sF y p := by
 have e : 6 = mo y p := by unfold mo; rw [if_pos h, if_pos h2, if_pos h3, if_pos h4]
 exact ⟨e, Cq e (by decide)⟩
theorem HC (h : bU y = 0) (h2 : (p.cells.all (E3 y)) = true) (h3 : ∀ i, i + 1 < p.cells.length → lW (nth p.cells i) (nth p.cells (i + 1)) = true) (h4 : ¬ jS y (aS y (nth bZ)) p < 1) : 0 = mo y p ∧ jS y (aS y (nth bZ)) p = sF y p := by
 have e : 0 = mo y p := by unfold mo; rw [if_pos h, if_pos h2, if_pos h3, if_neg h4]
 exact ⟨e, by unfold sF; rw [← e]; rfl⟩
theorem KU (a b : Bc) : (decide (a.bin = b.bin) && decide (a.day = b.day)) = decide (a = b) := by
 cases a; cases b; simp
theorem KV {c : Bc} (h : E3 y c = true) : (-1 ≤ c.bin ∧ c.bin < y.bins.length) ∧ 0 ≤ c.day ∧ c.day ≤ y.days := by
 unfold E3 aq.bin BF at h
 simp only [Bool.and_eq_true, decide_eq_true_eq] at h; omega
theorem Cv (hr : y.cx) {c : Nat → Bool} {t : Nat} {q : Span} (h : q.lo ≤ 300 ∧ 0 ≤ q.hi) : ∀ k, k ≤ y.levels.length → (gE y c b t q k).lo ≤ 300 ∧ 0 ≤ (gE y c b t q k).hi
  | 0, _ => h
  | k + 1, hk => by
    have ih := Cv hr (c := c) (t := t) h k (by omega)
    have hl := hr.level _ (dA (xs := y.levels) (k := k) (by omega))
    unfold gE; split
    · show max _ _ ≤ 300 ∧ 0 ≤ min _ _; omega
    · exact ih
theorem GV (hr : y.cx) {c : Nat → Bool} {i : Nat} (hi : i < (aS y c).length) : 0 ≤ (nth (aS y c) i).lo ∧ (nth (aS y c) i).lo ≤ 300 ∧ 0 ≤ (nth (aS y c) i).hi ∧ (nth (aS y c) i).hi ≤ 300 := by
 have hB := uU hr (c := c) i hi
 suffices h : (nth (aS y c) i).lo ≤ 300 ∧ 0 ≤ (nth (aS y c) i).hi by omega
 rcases m7 hi with ⟨b, t, hb, ht, rfl⟩ | ⟨k, hk, rfl⟩
 ·rw [iI hb ht]
  obtain ⟨h1, h2, h3⟩ := hr.bin _ (dA hb)
  refine Cv hr (q := g7 y b t) ?_ y.levels.length (Nat.le_refl _)
  unfold g7; split
  ·exact ⟨by show (0 : Int) ≤ 300; decide, h1.1⟩
  show max _ _ ≤ 300 ∧ 0 ≤ min _ _; omega
 rw [iL hk]
 have h := (hr.move _ (dA hk)).2.2.2.2
 show (nth y.moves k).sacks.lo ≤ 300 ∧ 0 ≤ (nth y.moves k).sacks.hi
 omega
theorem HG (hr : y.cx) {c : Nat → Bool} : ∀ i, i < (aS y c).length → 0 ≤ (nth (aS y c) i).lo ∧ (nth (aS y c) i).lo ≤ 300 ∧ 0 ≤ (nth (aS y c) i).hi ∧ (nth (aS y c) i).hi ≤ 300 := fun i hi => GV hr hi
end
attribute [local irreducible] aS gY Way.gi Way.fin Way.room eS eA ep gR over bQ cN dc eT jP e9 gj j4 cS gH fX fW cz cK gS om iO iW ia gU z8 yB hU aq.kept aq.cells bU eI bZ gD kH cH oa pq jc dZ j9 gC hasB sN rD qJ gb oO j8 m8 kK we gN jS FZ D3 rT
attribute [local irreducible] nY
attribute [local irreducible] iP fT nJ qo jJ jK jE jM jG qi jI qn eG gx qg gm qj nth fM dm aj dz bodyPost Exit.then Exit.inBlock Code.wp Code.wpIn qm jL ql qd jH eJ cV cm bodyPostM eN
set_option maxRecDepth 100000 in
theorem EC (y : aq) (fl : List bz) (a : List Int) (hfl : fl.length ≤ 34) (hb : ∀ i, i < fl.length → 0 ≤ (nth fl i).lo ∧ (nth fl i).lo ≤ 300 ∧ 0 ≤ (nth fl i).hi ∧ (nth fl i).hi ≤ 300) : dz Tryz.prog 128 [Ty.pp (lV y fl a)] (Ty.int .i64 (kK fl)) := by
 refine bB Tryz.func128 rfl (by decide) Tryz.ntmps128 (by exact Nat.le_of_ble_eq_true rfl) fun w0 M0 => ?_
 refine aE (aA (cE rfl (aD (aC (aE (aA (cE rfl (aD (aC ?_)))))))))
 refine aE (aE (aA (jZ rfl (bu rfl ?_))))
 refine aQ rfl rfl rfl rfl rfl (by decide) ?_
 refine aN rfl rfl rfl rfl (ct rfl rfl rfl (bR rfl (aD (aC (au ?_)))))
 refine cZ (fun (k : {k : Nat // k ≤ fl.length}) => live [(0, Ty.pp (lV y fl a)), (3, Ty.int .i64 (kK (fl.take k.1))), (9, Ty.sl dw fl), (10, Ty.int .i64 fl.length), (11, Ty.int .i64 (k.1 : Nat))] []) (fun k => fl.length - k.1) (⟨0, by omega⟩) ?_ fun k => ?_
 ·(refine dG.mk' ?_ ?_ <;> (repeat' (first | exact aJ | exact aI | refine aB ?_ (Ty.aX _) | refine aB ?_ (Ty.aF _) | refine aB ?_ ?_)))
  all_goals exact Ty.af Bm
 have hk := k.2
 refine aE (aA (bC rfl rfl rfl (aD (aC (aE ?_)))))
 refine av rfl (fun hc1 => ?_) (fun hc1 => ?_)
 ·
  refine ak (aC (aE (au (aE (aA ?_)))))
  refine bK rfl rfl rfl rfl rfl rfl (by omega) ?_
  refine aZ rfl rfl rfl (by exact Nat.le_of_ble_eq_true rfl) ?_
  refine bw rfl (by exact List.cons_ne_nil _ _) rfl ?_
  refine bk rfl rfl (by decide) rfl rfl rfl rfl rfl rfl ?_
  refine aD (aC ?_)
  have hbk := hb k.1 (by omega)
  refine aA (bR rfl ?_)
  refine aO rfl rfl rfl rfl rfl (by decide) ?_
  refine aU rfl rfl (by decide) rfl rfl rfl ?_
  refine aO rfl rfl rfl rfl rfl (by decide) ?_
  refine aU rfl rfl (by decide) rfl rfl rfl ?_
  refine gz rfl rfl (by omega) (by omega) ?_
  refine rj rfl rfl (cE rfl (aD (bf (aC (aA ?_)))))
  refine cD rfl rfl (by omega) (by omega) ?_
  refine bR rfl (aD ?_)
  refine bp (⟨k.1 + 1, by omega⟩) ?_ (by show fl.length - (k.1 + 1) < fl.length - k.1; omega)
  (refine dG.mk' ?_ ?_ <;> (repeat' (first | exact aJ | exact aI | refine aB ?_ (Ty.aX _) | refine aB ?_ (Ty.aF _) | refine aB ?_ ?_)))
  all_goals skip
  all_goals exact Ty.af (CK (by omega))
 refine cg (aT (aT (bA rfl (aC (aE (aA (bR rfl (cE rfl (aD ?_)))))))))
 refine aC (az (bq rfl rfl ?_))
 all_goals skip
 all_goals exact bE rfl rfl (congrArg (Ty.int .i64) (by rw [List.take_of_length_le (by have := k.2; omega)]))
set_option maxRecDepth 100000 in
theorem Dv (y : aq) (hr : y.cx) (fl : List bz) (a : List Int) (x : Bc) (hx : (-1 ≤ x.bin ∧ x.bin < y.bins.length) ∧ 0 ≤ x.day ∧ x.day ≤ y.days) (c : Int) : dz Tryz.prog 188 [Ty.agg (qV.tys x), Ty.pp [Ty.pp (lV y fl a)], Ty.pp [Ty.int .i64 c]] (Ty.bool (decide (y.cell x.bin x.day = c))) := by
 refine bB Tryz.func188 rfl (by decide) Tryz.ntmps188 (by exact Nat.le_of_ble_eq_true rfl) fun w0 M0 => ?_
 refine aE (aA (bN rfl (dr rfl (aD (aC (aE (cQ mixed rfl (aN rfl rfl rfl rfl ?_))))))))
 refine aQ rfl rfl rfl rfl rfl (by decide) ?_
 refine aN rfl rfl rfl rfl ?_
 refine aQ rfl rfl rfl rfl rfl (by decide) ?_
 refine aN rfl rfl rfl rfl ?_
 refine dU [] (vq y hr x.bin x.day hx.1 hx.2) rfl (aM (mq (l1 := bO y) (l2 := [Ty.sl dw fl, Ty.sl c7 a]) rfl rfl) (aM (aa (bG rfl rfl)) (aM (aa (bG rfl rfl)) bY))) (by exact dH _ _) ?_
 refine aN rfl rfl rfl rfl (bC rfl rfl rfl (dr rfl (aD ?_)))
 refine ⟨by kernel_rfl, ?_⟩
 refine aC (az (bq rfl rfl ?_))
 all_goals exact cP rfl rfl
set_option maxRecDepth 100000 in
theorem qw (y : aq) (hr : y.cx) (fl : List bz) (a : List Int) (p : Cl) (hp : ∀ x ∈ p.cells, (-1 ≤ x.bin ∧ x.bin < y.bins.length) ∧ 0 ≤ x.day ∧ x.day ≤ y.days) (c : Int) : dz Tryz.prog 187 [Ty.int .i64 c, Ty.pp (mA p), Ty.pp [Ty.pp (lV y fl a)]] (Ty.bool (we y p.cells c)) := by
 refine bB Tryz.func187 rfl (by decide) Tryz.ntmps187 (by exact Nat.le_of_ble_eq_true rfl) fun w0 M0 => ?_
 refine aE (aA ?_)
 refine gL (by exact (rfl : _ = Ty.int _ _)) rfl ?_
 refine dr rfl (aD (aC (aE (aA ?_))))
 refine aQ rfl rfl rfl rfl rfl (by decide) ?_
 refine aN rfl rfl rfl rfl (dR rfl ?_)
 refine ah (lC p.cells (Ty.jf 188 [Ty.pp [Ty.pp (lV y fl a)], Ty.pp [Ty.int .i64 c]]) rfl (fun x => decide (y.cell x.bin x.day = c)) rfl rfl fun x hx => dX (Dv y hr fl a x (hp x hx) c) rfl rfl rfl rfl rfl rfl) rfl rfl rfl rfl rfl ?_
 refine dr rfl (aD (aC (az (bq rfl rfl ?_))))
 all_goals skip
 all_goals exact bE rfl rfl (congrArg Ty.bool (by unfold we; rfl))
set_option maxRecDepth 100000 in
theorem Ic (y : aq) (hr : y.cx) (fl : List bz) (a : List Int) (hfl : fl.length ≤ 34) (hb : ∀ i, i < fl.length → 0 ≤ (nth fl i).lo ∧ (nth fl i).lo ≤ 300 ∧ 0 ≤ (nth fl i).hi ∧ (nth fl i).hi ≤ 300) (p : Cl) (hp : ∀ x ∈ p.cells, (-1 ≤ x.bin ∧ x.bin < y.bins.length) ∧ 0 ≤ x.day ∧ x.day ≤ y.days) : dz Tryz.prog 137 [Ty.pp (lV y fl a), Ty.agg (mA p)] (Ty.int .i64 (jS y fl p)) := by
 refine bB Tryz.func137 rfl (by decide) Tryz.ntmps137 (by exact Nat.le_of_ble_eq_true rfl) fun w0 M0 => ?_
 refine aE (aA ?_)
 refine gL (by exact (rfl : _ = Ty.pp _)) rfl ?_
 refine bN rfl (cE rfl (aD (aC (aE (aE (aA ?_))))))
 refine aQ rfl rfl rfl rfl rfl (by decide) ?_
 refine aN rfl rfl rfl rfl (ct rfl rfl rfl (bC rfl rfl rfl (aD (aC ?_))))
 refine av rfl (fun hc1 => ?_) (fun hc1 => ?_)
 ·
  refine aE (aA (aN rfl rfl rfl rfl (ah (EC y fl a hfl hb) rfl rfl rfl rfl rfl (cE rfl (aD (aC (az (aV (bq rfl rfl ?_)))))))))
  all_goals skip
  all_goals exact bE rfl rfl (congrArg (Ty.int .i64) (CO (Kn hc1)))
 refine ak (aC (aE (aA (dR rfl (MX rfl (aD (aC (aE (aA ?_)))))))))
 refine cE rfl (aD (aC (aE (aE (aA (aN rfl rfl rfl rfl (bu rfl ?_)))))))
 refine aQ rfl rfl rfl rfl rfl (by decide) ?_
 refine aN rfl rfl rfl rfl (ct rfl rfl rfl (bR rfl (aD (aC (au ?_)))))
 refine cZ (fun (k : {k : Nat // k ≤ fl.length}) => live [(3, Ty.pp (mA p)), (5, Ty.jf 187 [Ty.pp (mA p), Ty.pp [Ty.pp (lV y fl a)]]), (6, Ty.int .i64 (gN y fl p k.1)), (21, Ty.sl dw fl), (22, Ty.int .i64 fl.length), (23, Ty.int .i64 (k.1 : Nat))] []) (fun k => fl.length - k.1) (⟨0, by omega⟩) ?_ fun k => ?_
 ·(refine dG.mk' ?_ ?_ <;> (repeat' (first | exact aJ | exact aI | refine aB ?_ (Ty.aX _) | refine aB ?_ (Ty.aF _) | refine aB ?_ ?_)))
  all_goals exact Ty.af xx
 have hk := k.2
 have hup := A5 (y := y) (p := p) hb k.1 k.2
 refine aE (aA (bC rfl rfl rfl (aD (aC (aE ?_)))))
 refine av rfl (fun hc2 => ?_) (fun hc2 => ?_)
 ·
  refine ak (aC (aE (au (aE (aA ?_)))))
  refine bK rfl rfl rfl rfl rfl rfl (by omega) ?_
  refine aZ rfl rfl rfl (by exact Nat.le_of_ble_eq_true rfl) ?_
  refine bw rfl (by exact List.cons_ne_nil _ _) rfl ?_
  refine bk rfl rfl (by decide) rfl rfl rfl rfl rfl rfl ?_
  refine aD (aC (aE ?_))
  have hbk := hb k.1 (by omega)
  have hhf := Co (y := y) (p := p) (m := gN y fl p k.1) (f := (nth fl k.1)) ⟨hbk.1, hbk.2.1⟩
  refine cQ mixed rfl (MC rfl ?_)
  refine aO rfl rfl rfl rfl rfl (by decide) ?_
  refine aU rfl rfl (by decide) rfl rfl rfl ?_
  refine eX rfl (dX (qw y hr fl a p hp (nth fl k.1).dst) rfl rfl rfl rfl rfl rfl) rfl (fu rfl ?_)
  apply aL (s := 31) rfl rfl rfl
  ·intro hg; apply aP; (refine MC rfl ?_); refine aD ?_; exact rfl
  ·exact rfl
  ·exact rfl
  apply aL (s := 31) rfl rfl rfl
  ·intro hg; apply aP; (refine aO rfl rfl rfl rfl rfl (by decide) ?_); refine aD ?_; exact rfl
  ·exact rfl
  ·exact rfl
  apply aL (s := 31) rfl rfl rfl
  ·intro hg; apply aK (s := 33) rfl (by (rw [hg]; rfl)); apply aP; (refine aU rfl rfl (by decide) rfl rfl rfl ?_); refine aD ?_; exact rfl
  ·exact rfl
  ·exact rfl
  apply aL (s := 31) rfl rfl rfl
  ·intro hg; apply aK (s := 32) rfl (by (rw [hg]; rfl)); apply aK (s := 34) rfl (by (rw [hg]; rfl)); apply aP; (refine eX rfl (dX (qw y hr fl a p hp (nth fl k.1).src) rfl rfl rfl rfl rfl rfl) rfl ?_); refine aD ?_; exact rfl
  ·exact rfl
  ·exact rfl
  apply aL (s := 31) rfl rfl rfl
  ·intro hg; apply aK (s := 35) rfl (by (rw [hg]; rfl)); apply aP; (refine dh rfl ?_); refine aD ?_; exact rfl
  ·exact rfl
  ·exact rfl
  refine fD rfl rfl (MC rfl ?_)
  refine aO rfl rfl rfl rfl rfl (by decide) ?_
  refine aU rfl rfl (by decide) rfl rfl rfl ?_
  refine eX rfl (dX (qw y hr fl a p hp (nth fl k.1).src) rfl rfl rfl rfl rfl rfl) rfl (fu rfl ?_)
  apply aL (s := 42) rfl rfl rfl
  ·intro hg; apply aP; (refine MC rfl ?_); refine aD ?_; exact rfl
  ·exact rfl
  ·exact rfl
  apply aL (s := 42) rfl rfl rfl
  ·intro hg; apply aP; (refine aO rfl rfl rfl rfl rfl (by decide) ?_); refine aD ?_; exact rfl
  ·exact rfl
  ·exact rfl
  apply aL (s := 42) rfl rfl rfl
  ·intro hg; apply aK (s := 44) rfl (by (rw [hg]; rfl)); apply aP; (refine aU rfl rfl (by decide) rfl rfl rfl ?_); refine aD ?_; exact rfl
  ·exact rfl
  ·exact rfl
  apply aL (s := 42) rfl rfl rfl
  ·intro hg; apply aK (s := 43) rfl (by (rw [hg]; rfl)); apply aK (s := 45) rfl (by (rw [hg]; rfl)); apply aP; (refine eX rfl (dX (qw y hr fl a p hp (nth fl k.1).dst) rfl rfl rfl rfl rfl rfl) rfl ?_); refine aD ?_; exact rfl
  ·exact rfl
  ·exact rfl
  apply aL (s := 42) rfl rfl rfl
  ·intro hg; apply aK (s := 46) rfl (by (rw [hg]; rfl)); apply aP; (refine dh rfl ?_); refine aD ?_; exact rfl
  ·exact rfl
  ·exact rfl
  refine fD rfl rfl (dr rfl (dr rfl (aD ?_)))
  refine ⟨by kernel_rfl, ?_⟩
  refine aC ?_
  refine lD (J := live [(3, Ty.pp (mA p)), (5, Ty.jf 187 [Ty.pp (mA p), Ty.pp [Ty.pp (lV y fl a)]]), (6, Ty.int .i64 (gN y fl p k.1)), (8, Ty.ptr 9 0), (9, Ty.bool (FZ y p (nth fl k.1))), (10, Ty.bool (D3 y p (nth fl k.1))), (21, Ty.sl dw fl), (22, Ty.int .i64 fl.length), (23, Ty.int .i64 (k.1 : Nat))] [(9, Cont.cells 187 (dw.tys (nth fl k.1)))]) ?_ ?_
  ·
   refine aE (aA ?_)
   refine aQ rfl rfl rfl rfl rfl (by decide) ?_
   refine aN rfl rfl rfl rfl (aD (aC ?_))
   refine cr rfl (fun hc3 => ?_) (fun hc3 => ?_)
   ·
    refine aA (fu rfl (fu rfl (dr rfl (dr rfl (aD (fO ?_))))))
    (refine dG.mk' ?_ ?_ <;> (repeat' (first | exact aJ | exact aI | refine aB ?_ (Ty.aX _) | refine aB ?_ (Ty.aF _) | refine aG rfl (Cont.aF _) ?_ | refine aB ?_ ?_)))
    all_goals first | exact Ty.qy (FP (by assumption)).1 | exact Ty.qy (FP (by assumption)).2
   refine ak (fO ?_)
   (refine dG.mk' ?_ ?_ <;> (repeat' (first | exact aJ | exact aI | refine aB ?_ (Ty.aX _) | refine aB ?_ (Ty.aF _) | refine aG rfl (Cont.aF _) ?_ | refine aB ?_ ?_)))
   all_goals first | exact Ty.qy (JX (by assumption)).1 | exact Ty.qy (JX (by assumption)).2
  refine lD (J := live [(3, Ty.pp (mA p)), (5, Ty.jf 187 [Ty.pp (mA p), Ty.pp [Ty.pp (lV y fl a)]]), (6, Ty.int .i64 (nY y p (gN y fl p k.1) (nth fl k.1))), (8, Ty.ptr 9 0), (10, Ty.bool (D3 y p (nth fl k.1))), (21, Ty.sl dw fl), (22, Ty.int .i64 fl.length), (23, Ty.int .i64 (k.1 : Nat))] [(9, Cont.cells 187 (dw.tys (nth fl k.1)))]) ?_ ?_
  ·
   refine aE (aA (fu rfl (aD (aC ?_))))
   refine cr rfl (fun hc4 => ?_) (fun hc4 => ?_)
   ·
    refine aA (bR rfl ?_)
    refine aO rfl rfl rfl rfl rfl (by decide) ?_
    refine aU rfl rfl (by decide) rfl rfl rfl ?_
    refine cD rfl rfl (by omega) (by omega) ?_
    refine cE rfl (aD (fO ?_))
    (refine dG.mk' ?_ ?_ <;> (repeat' (first | exact aJ | exact aI | refine aB ?_ (Ty.aX _) | refine aB ?_ (Ty.aF _) | refine aG rfl (Cont.aF _) ?_ | refine aB ?_ ?_)))
    all_goals exact Ty.af (F2 (by assumption))
   refine ak (fO ?_)
   (refine dG.mk' ?_ ?_ <;> (repeat' (first | exact aJ | exact aI | refine aB ?_ (Ty.aX _) | refine aB ?_ (Ty.aF _) | refine aG rfl (Cont.aF _) ?_ | refine aB ?_ ?_)))
   all_goals exact Ty.af (Ia (by assumption))
  refine aE (aA (fu rfl (aD (aC ?_))))
  refine cr rfl (fun hc5 => ?_) (fun hc5 => ?_)
  ·
   refine aA (bR rfl ?_)
   refine aO rfl rfl rfl rfl rfl (by decide) ?_
   refine aU rfl rfl (by decide) rfl rfl rfl ?_
   refine gz rfl rfl (by omega) (by omega) ?_
   refine cE rfl (aD (bf (aC (aA ?_))))
   refine cD rfl rfl (by omega) (by omega) ?_
   refine bR rfl (aD ?_)
   refine bp (⟨k.1 + 1, by omega⟩) ?_ (by show fl.length - (k.1 + 1) < fl.length - k.1; omega)
   (refine dG.mk' ?_ ?_ <;> (repeat' (first | exact aJ | exact aI | refine aB ?_ (Ty.aX _) | refine aB ?_ (Ty.aF _) | refine aB ?_ ?_)))
   all_goals skip
   all_goals exact Ty.af (AM (by assumption))
  refine ak (bf (aC (aA ?_)))
  refine cD rfl rfl (by omega) (by omega) ?_
  refine bR rfl (aD ?_)
  refine bp (⟨k.1 + 1, by omega⟩) ?_ (by show fl.length - (k.1 + 1) < fl.length - k.1; omega)
  (refine dG.mk' ?_ ?_ <;> (repeat' (first | exact aJ | exact aI | refine aB ?_ (Ty.aX _) | refine aB ?_ (Ty.aF _) | refine aB ?_ ?_)))
  all_goals skip
  all_goals exact Ty.af (Cz (by assumption))
 refine cg (aT (aT (bA rfl (aC (aE (aA (bR rfl (cE rfl (aD ?_)))))))))
 refine aC (az (bq rfl rfl ?_))
 all_goals skip
 all_goals exact bE rfl rfl (congrArg (Ty.int .i64) ((show _ = gN y fl p fl.length by rw [show k.1 = fl.length by have := k.2; omega]).trans (BA (JH hc1))))
set_option maxRecDepth 100000 in
theorem Gb (a b : Bc) : dz Tryz.prog 136 [Ty.agg (qV.tys a), Ty.agg (qV.tys b)] (Ty.bool (lW a b)) := by
 refine bB Tryz.func136 rfl (by decide) Tryz.ntmps136 (by exact Nat.le_of_ble_eq_true rfl) fun w0 M0 => ?_
 refine aE (aA (bN rfl (bN rfl (dr rfl (aD (aC (aE (aA ?_))))))))
 refine aZ rfl rfl rfl (by exact Nat.le_of_ble_eq_true rfl) ?_
 refine aZ rfl rfl rfl (by exact Nat.le_of_ble_eq_true rfl) ?_
 refine Dh (KC a.bin a.day b.bin b.day) rfl rfl (fu rfl ?_)
 apply aL (s := 8) rfl rfl rfl
 ·intro hg; apply aP; (refine aQ rfl rfl rfl rfl rfl (by decide) ?_); refine aD ?_; exact rfl
 ·exact rfl
 ·exact rfl
 apply aL (s := 8) rfl rfl rfl
 ·intro hg; apply aK (s := 9) rfl (by (rw [hg]; rfl)); apply aP; (refine aN rfl rfl rfl rfl ?_); refine aD ?_; exact rfl
 ·exact rfl
 ·exact rfl
 apply aL (s := 8) rfl rfl rfl
 ·intro hg; apply aP; (refine aQ rfl rfl rfl rfl rfl (by decide) ?_); refine aD ?_; exact rfl
 ·exact rfl
 ·exact rfl
 apply aL (s := 8) rfl rfl rfl
 ·intro hg; apply aK (s := 11) rfl (by (rw [hg]; rfl)); apply aP; (refine aN rfl rfl rfl rfl ?_); refine aD ?_; exact rfl
 ·exact rfl
 ·exact rfl
 apply aL (s := 8) rfl rfl rfl
 ·intro hg; apply aK (s := 10) rfl (by (rw [hg]; rfl)); apply aK (s := 12) rfl (by (rw [hg]; rfl)); apply aP; (refine bC rfl rfl rfl ?_); refine aD ?_; exact rfl
 ·exact rfl
 ·exact rfl
 apply aL (s := 8) rfl rfl rfl
 ·intro hg; apply aK (s := 13) rfl (by (rw [hg]; rfl)); apply aP; (refine fu rfl ?_); refine aD ?_; exact rfl
 ·exact rfl
 ·exact rfl
 apply gl (s := 14) rfl rfl rfl
 ·intro hg1 hg2; apply aP; (refine aQ rfl rfl rfl rfl rfl (by decide) ?_); refine aD ?_; exact rfl
 ·exact rfl
 ·exact rfl
 apply gl (s := 14) rfl rfl rfl
 ·intro hg1 hg2; apply aK (s := 15) rfl (by (rw [hg1, hg2]; rfl)); apply aP; (refine aN rfl rfl rfl rfl ?_); refine aD ?_; exact rfl
 ·exact rfl
 ·exact rfl
 apply gl (s := 14) rfl rfl rfl
 ·intro hg1 hg2; apply aP; (refine aQ rfl rfl rfl rfl rfl (by decide) ?_); refine aD ?_; exact rfl
 ·exact rfl
 ·exact rfl
 apply gl (s := 14) rfl rfl rfl
 ·intro hg1 hg2; apply aK (s := 17) rfl (by (rw [hg1, hg2]; rfl)); apply aP; (refine aN rfl rfl rfl rfl ?_); refine aD ?_; exact rfl
 ·exact rfl
 ·exact rfl
 apply gl (s := 14) rfl rfl rfl
 ·intro hg1 hg2; apply aK (s := 16) rfl (by (rw [hg1, hg2]; rfl)); apply aK (s := 18) rfl (by (rw [hg1, hg2]; rfl)); apply aP; (refine bC rfl rfl rfl ?_); refine aD ?_; exact rfl
 ·exact rfl
 ·exact rfl
 apply gl (s := 14) rfl rfl rfl
 ·intro hg1 hg2; apply aK (s := 19) rfl (by (rw [hg1, hg2]; rfl)); apply aP; (refine fu rfl ?_); refine aD ?_; exact rfl
 ·exact rfl
 ·exact rfl
 apply gl (s := 20) rfl rfl rfl
 ·intro hg1 hg2; apply aP; (refine aQ rfl rfl rfl rfl rfl (by decide) ?_); refine aD ?_; exact rfl
 ·exact rfl
 ·exact rfl
 apply gl (s := 20) rfl rfl rfl
 ·intro hg1 hg2; apply aK (s := 21) rfl (by (rw [hg1, hg2]; rfl)); apply aP; (refine aN rfl rfl rfl rfl ?_); refine aD ?_; exact rfl
 ·exact rfl
 ·exact rfl
 apply gl (s := 20) rfl rfl rfl
 ·intro hg1 hg2; apply aP; (refine aQ rfl rfl rfl rfl rfl (by decide) ?_); refine aD ?_; exact rfl
 ·exact rfl
 ·exact rfl
 apply gl (s := 20) rfl rfl rfl
 ·intro hg1 hg2; apply aK (s := 23) rfl (by (rw [hg1, hg2]; rfl)); apply aP; (refine aN rfl rfl rfl rfl ?_); refine aD ?_; exact rfl
 ·exact rfl
 ·exact rfl
 apply gl (s := 20) rfl rfl rfl
 ·intro hg1 hg2; apply aK (s := 22) rfl (by (rw [hg1, hg2]; rfl)); apply aK (s := 24) rfl (by (rw [hg1, hg2]; rfl)); apply aP; (refine bC rfl rfl rfl ?_); refine aD ?_; exact rfl
 ·exact rfl
 ·exact rfl
 apply gl (s := 14) rfl rfl rfl
 ·intro hg1 hg2; apply aK (s := 20) rfl (by (rw [hg1, hg2]; rfl)); apply ve (s := 25) rfl (by (rw [hg1, hg2]; rfl)); apply aP; (refine fD rfl rfl ?_); refine aD ?_; exact rfl
 ·exact rfl
 ·exact rfl
 apply aL (s := 8) rfl rfl rfl
 ·intro hg; apply aK (s := 14) rfl (by (rw [hg]; rfl)); apply ve (s := 26) rfl (by (rw [hg]; rfl)); apply aP; (refine iQ rfl rfl ?_); refine aD ?_; exact rfl
 ·exact rfl
 ·exact rfl
 refine fD rfl rfl (dr rfl (aD (aC (az (bq rfl rfl ?_)))))
 all_goals skip
 all_goals exact bE rfl rfl (congrArg Ty.bool (by unfold lW; rw [KU]))
set_option maxRecDepth 100000 in
theorem D1 (y : aq) (hr : y.cx) (hs : y.Small) (c : Bc) : dz Tryz.prog 134 [Ty.agg (qV.tys c), Ty.pp (bO y)] (Ty.bool (E3 y c)) := by
 refine bB Tryz.func134 rfl (by decide) Tryz.ntmps134 (by exact Nat.le_of_ble_eq_true rfl) fun w0 M0 => ?_
 have h2 := hr.days
 refine aE (aA (bN rfl (dr rfl (aD (aC (aE (aA ?_)))))))
 refine aZ rfl rfl rfl (by exact Nat.le_of_ble_eq_true rfl) ?_
 refine aQ rfl rfl rfl rfl rfl (by decide) ?_
 refine aN rfl rfl rfl rfl (ah (De y hs _) rfl rfl rfl rfl rfl (fu rfl ?_))
 apply aL (s := 8) rfl rfl rfl
 ·intro hg; apply aP; (refine aQ rfl rfl rfl rfl rfl (by decide) ?_); refine aD ?_; exact rfl
 ·exact rfl
 ·exact rfl
 apply aL (s := 8) rfl rfl rfl
 ·intro hg; apply aK (s := 9) rfl (by (rw [hg]; rfl)); apply aP; (refine aN rfl rfl rfl rfl ?_); refine aD ?_; exact rfl
 ·exact rfl
 ·exact rfl
 apply aL (s := 8) rfl rfl rfl
 ·intro hg; apply aP; (refine aQ rfl rfl rfl rfl rfl (by decide) ?_); refine aD ?_; exact rfl
 ·exact rfl
 ·exact rfl
 apply aL (s := 8) rfl rfl rfl
 ·intro hg; apply aK (s := 11) rfl (by (rw [hg]; rfl)); apply aP; (refine aN rfl rfl rfl rfl ?_); refine aD ?_; exact rfl
 ·exact rfl
 ·exact rfl
 apply aL (s := 8) rfl rfl rfl
 ·intro hg; apply aK (s := 12) rfl (by (rw [hg]; rfl)); apply aP; (refine gz rfl rfl (by omega) (by omega) ?_); refine aD ?_; exact rfl
 ·exact rfl
 ·exact rfl
 apply aL (s := 8) rfl rfl rfl
 ·intro hg; apply aK (s := 10) rfl (by (rw [hg]; rfl)); apply aK (s := 13) rfl (by (rw [hg]; rfl)); apply aP; (refine ah (uA _ _ _) rfl rfl rfl rfl rfl ?_); refine aD ?_; exact rfl
 ·exact rfl
 ·exact rfl
 refine fD rfl rfl (dr rfl (aD (aC (az (bq rfl rfl ?_)))))
 all_goals exact cP rfl rfl
 all_goals trace_state
set_option maxRecDepth 100000 in
theorem HU (y : aq) (hs : y.Small) (p : Cl) (hl : p.cells.length ≤ 1000) : dz Tryz.prog 61 [fE y, Ty.agg (mA p)] (Ty.jR [Ty.int .i64 (sF y p), Ty.int .i64 (mo y p)]) := by
 refine bB Tryz.func61 rfl (by decide) Tryz.ntmps61 (by exact Nat.le_of_ble_eq_true rfl) fun w0 M0 => ?_
 refine aE (aA (bN rfl (bN rfl (cE rfl (cE rfl (aD (aC (aE (aE ?_)))))))))
 refine aA ?_
 refine aZ rfl rfl rfl (by exact Nat.le_of_ble_eq_true rfl) ?_
 refine ah (jV y hs) rfl rfl rfl rfl rfl (cE rfl (aD (aC (aE (aA (bR rfl (bC rfl rfl rfl (aD (aC ?_)))))))))
 refine dI rfl (fun hc1 => ?_) (fun hc1 => ?_)
 ·
  refine aE (aA (bR rfl (cE rfl (cE rfl (aD (aC (az (aV ?_))))))))
  refine fU rfl rfl rfl ?_ ?_
  all_goals skip
  all_goals first | exact bE rfl rfl (congrArg (Ty.int .i64) (JM hc1).1) | exact bE rfl rfl (congrArg (Ty.int .i64) (JM hc1).2)
 refine ak (aC (aE (aE ?_)))
 have hck : bU y = 0 := hc1
 have hr := cR hck
 refine aA ?_
 refine aQ rfl rfl rfl rfl rfl (by decide) ?_
 refine aN rfl rfl rfl rfl (dR rfl ?_)
 refine ah (AH p.cells (Ty.jf 134 [Ty.pp (bO y)]) rfl (E3 y) rfl rfl fun c _ => dX (D1 y hr hs c) rfl rfl rfl rfl rfl rfl) rfl rfl rfl rfl rfl ?_
 refine dh rfl (aD (aC ?_))
 refine cr rfl (fun hc2 => ?_) (fun hc2 => ?_)
 ·
  refine aE (aA (cE rfl (cE rfl (aD (aC (az (aV ?_)))))))
  refine fU rfl rfl rfl ?_ ?_
  all_goals skip
  all_goals first | exact bE rfl rfl (congrArg (Ty.int .i64) (Ja hc1 (qE hc2)).1) | exact bE rfl rfl (congrArg (Ty.int .i64) (Ja hc1 (qE hc2)).2)
 refine ak (aC (aE (aE ?_)))
 have hall : (p.cells.all (E3 y)) = true := ff hc2
 refine aA (cE rfl (aD (aC (au ?_))))
 refine cZ (fun (i : {i : Nat // 1 ≤ i ∧ ∀ j, j + 1 < i → j + 1 < p.cells.length → lW (nth p.cells j) (nth p.cells (j + 1)) = true}) => live [(2, Ty.pp (bO y)), (3, Ty.pp (mA p)), (7, Ty.int .i64 (i.1 : Nat))] []) (fun i => p.cells.length - i.1) (⟨1, Nat.le_refl _, fun j hj => by omega⟩) ?_ fun i => ?_
 ·(refine dG.mk' ?_ ?_ <;> (repeat' (first | exact aJ | exact aI | refine aB ?_ (Ty.aX _) | refine aB ?_ (Ty.aF _))))
 have hi1 := i.2.1
 refine aE (aE (aA (bR rfl ?_)))
 refine aQ rfl rfl rfl rfl rfl (by decide) ?_
 refine aN rfl rfl rfl rfl (ct rfl rfl rfl (bC rfl rfl rfl (aD (aC ?_))))
 refine av rfl (fun hc3 => ?_) (fun hc3 => ?_)
 ·
  refine ak (aC (aE (au (aE (cQ mixed rfl ?_)))))
  refine aQ rfl rfl rfl rfl rfl (by decide) ?_
  refine aN rfl rfl rfl rfl (bR rfl ?_)
  refine gz rfl rfl (by omega) (by omega) ?_
  refine bK (i := i.1 - 1) rfl (by exact congrArg (Ty.int .i64) (by omega : ((i.1 : Nat) : Int) - 1 = ((i.1 - 1 : Nat) : Int))) rfl rfl rfl rfl (by omega) ?_
  refine aZ rfl rfl rfl (by exact Nat.le_of_ble_eq_true rfl) ?_
  refine aQ rfl rfl rfl rfl rfl (by decide) ?_
  refine aN rfl rfl rfl rfl (bR rfl ?_)
  refine bK rfl rfl rfl rfl rfl rfl (by omega) ?_
  refine aZ rfl rfl rfl (by exact Nat.le_of_ble_eq_true rfl) ?_
  refine ah (Gb _ _) rfl rfl rfl rfl rfl (dh rfl (aD ?_))
  refine ⟨by kernel_rfl, ?_⟩
  refine aC ?_
  refine cr rfl (fun hc4 => ?_) (fun hc4 => ?_)
  ·
   refine aE (aA (cE rfl (cE rfl (aD (aC (az (bJ (aV (aV ?_)))))))))
   refine bJ (aV ?_)
   refine fU rfl rfl rfl ?_ ?_
   all_goals skip
   all_goals first | exact bE rfl rfl (congrArg (Ty.int .i64) (HT hc1 hall i.2.1 (by omega) (qE hc4)).1) | exact bE rfl rfl (congrArg (Ty.int .i64) (HT hc1 hall i.2.1 (by omega) (qE hc4)).2)
  refine ak (bf (aC (aA (bR rfl ?_))))
  refine cD rfl rfl (by omega) (by omega) ?_
  refine cE rfl (aD ?_)
  refine bp (⟨i.1 + 1, by omega, fun j hj hj2 => by by_cases e : j + 1 = i.1; (have := ff hc4; rwa [show i.1 - 1 = j by omega, show i.1 = j + 1 by omega] at this); exact i.2.2 j (by omega) hj2⟩) ?_ (by show p.cells.length - (i.1 + 1) < p.cells.length - i.1; omega)
  (refine dG.mk' ?_ ?_ <;> (repeat' (first | exact aJ | exact aI | refine aB ?_ (Ty.aX _) | refine aB ?_ (Ty.aF _))))
  all_goals skip
 refine cg (aT (aT (bA rfl (aC (aE (cQ mixed rfl ?_))))))
 refine aZ rfl rfl rfl (by exact Nat.le_of_ble_eq_true rfl) ?_
 refine ah (rV) rfl rfl rfl rfl rfl ?_
 refine b9 (res' := Ty.pp (sD y 2000 1000 (aS y (nth bZ)).length (aS y (nth bZ)).length)) [(2000, 23), (1000, 31)] [2000, 1000] [(2000, Cont.vec dw 187 (aS y (nth bZ))), (1000, Cont.vec c7 3 (gY (aS y (nth bZ))))] (r8 y hr bZ jQ) rfl rfl (aH (aH bH (aR rfl rfl)) (aR rfl rfl)) pre_nil (bI (a := 2000) (b := 23) (by decide) rfl (bV (by decide) rfl) (bI (a := 1000) (b := 31) (by decide) rfl (bV (by decide) rfl) post_nil)) (fA (aH (aH (aH (aH (aH (aH bH (dV (by decide))) (dV (by decide))) (aR rfl rfl)) (aR rfl rfl)) (aR rfl rfl)) (aR rfl rfl))) ?_
 refine aZ rfl rfl rfl (by exact Nat.le_of_ble_eq_true rfl) ?_
 refine dU [2000, 1000] (Ic y hr (aS y (nth bZ)) (gY (aS y (nth bZ))) (jo hr) (HG hr) p (fun x hx => KV (List.all_eq_true.1 hall x hx))) rfl (aM (j6 (aM (aa (bG rfl rfl)) (aM (aa (bG rfl rfl)) (aM (aa (bG rfl rfl)) (aM (aa (bG rfl rfl)) (aM (gO rfl rfl (by decide) rfl) (aM (gO rfl (B5 _) (by decide) rfl) bY))))))) (aM (aa (bG rfl rfl)) bY)) (by exact dH _ _) ?_
 refine cE rfl (aD ?_)
 refine ⟨by kernel_rfl, ?_⟩
 refine aC (aE (aE (aA (bR rfl (bC rfl rfl rfl (aD (aC ?_)))))))
 refine av rfl (fun hc5 => ?_) (fun hc5 => ?_)
 ·
  refine aE (aA (cE rfl (cE rfl (aD (aC (az (aV ?_)))))))
  refine fU rfl rfl rfl ?_ ?_
  all_goals skip
  all_goals first | exact bE rfl rfl (congrArg (Ty.int .i64) (JT hc1 hall (fun j hj => i.2.2 j (by omega) hj) hc5).1) | exact bE rfl rfl (congrArg (Ty.int .i64) (JT hc1 hall (fun j hj => i.2.2 j (by omega) hj) hc5).2)
 refine ak (aC (aE (aA (bR rfl (cE rfl (cE rfl (aD (aC (az ?_)))))))))
 refine fU rfl rfl rfl ?_ ?_
 all_goals skip
 all_goals first | exact bE rfl rfl (congrArg (Ty.int .i64) (HC hc1 hall (fun j hj => i.2.2 j (by omega) hj) hc5).1) | exact bE rfl rfl (congrArg (Ty.int .i64) (HC hc1 hall (fun j hj => i.2.2 j (by omega) hj) hc5).2)
end Go.Proofs.YtelbollidfdcjaaGreat
namespace Go.Proofs.YtelbollidfdcjaaGreat
open Go Go.T
set_option maxHeartbeats 8000000
attribute [local irreducible] aS gY
attribute [local irreducible] iP fT nJ qo jJ jK jE jM jG qi jI qn eG gx qg gm qj nth fM dm aj dz bodyPost Exit.then Exit.inBlock Code.wp Code.wpIn qm jL ql qd jH eJ cV cm bodyPostM eN
set_option maxRecDepth 100000 in
theorem su (y : aq) (hr : y.cx) (c8 : List Bool) (hc8 : c8.length = 8) : eJ Tryz.prog 117 [] [] [fE y, Ty.arr iV c8] [(31, Cont.vec c7 3 (gY (aS y (nth c8))))] (Ty.pp (eE y (aS y (nth c8)) 31 (aS y (nth c8)).length)) := by
 refine qQ Tryz.func117 rfl (by decide) Tryz.ntmps117 (by exact Nat.le_of_ble_eq_true rfl) fun w0 M0 => ?_
 have hfl := jo (c := nth c8) hr
 refine aE (aA (bN rfl (tC rfl (l9 rfl (aD (aC (aE (aA ?_))))))))
 refine aZ rfl rfl rfl (by exact Nat.le_of_ble_eq_true rfl) ?_
 refine c6 rfl rfl (by exact List.cons_ne_nil _ _) rfl (by repeat (first | exact (aW.nil : aW _ _ [] _) | (show aW _ _ ((_, _) :: _) _; apply aW.agg; (· exact (rfl : _ = Ty.agg _))))) (by exact rfl) ?_
 refine sV rfl rfl rfl ?_
 refine bw rfl (by exact List.cons_ne_nil _ _) rfl ?_
 refine cq rfl rfl (by decide) rfl rfl (by exact (rfl : _ = Ty.ptr _ _)) rfl (by exact Nat.le_of_ble_eq_true rfl) rfl rfl (by exact (rfl : _ = [_])) ?_
 refine aD (aC (aE (aE (aA ?_))))
 refine aU rfl rfl (by decide) rfl rfl rfl ?_
 refine vA rfl rfl rfl (by rw [hc8]; rfl) ?_
 refine b9 (res' := Ty.jf 196 [Ty.pp [Ty.ptr 10 0], Ty.pa iV c8 0]) [(10, 1000)] [] [(10, Cont.cells 185 (DD y))] (FW y c8 hc8) rfl rfl (aH (aH bH (aR rfl rfl)) (dx (by exact List.mem_cons_self))) (cC (a := 10) (b := 1000) (by exact List.mem_cons_self) rfl (bM (by exact List.mem_cons_self) rfl rfl rfl) pre_nil) (bI (a := 10) (b := 1000) (by exact List.mem_cons_self) rfl (bM (by exact List.mem_cons_self) rfl rfl rfl) post_nil) (tE (aH (aH bH (aR rfl rfl)) (fA (aH bH (dx (by exact List.mem_cons_self)))))) ?_
 refine aD (aC ?_)
 refine F1 (D := 10) (Tb := 185) (tys := bO y) (r := [Ty.ex (.slice none 0 0), Ty.ex (.slice none 0 0)]) rfl rfl rfl (by decide) fun vs hvs => ?_
 obtain ⟨v0, v1, v2, v3, rfl⟩ := four hvs rfl
 refine au ?_
 refine rJ (ps := [13]) (lk [(5, Ty.ptr 6 0), (9, Ty.ptr 10 0)]) (fun k => [(6, Cont.cells 152 [Ty.ptr 10 0]), (10, Cont.cells 185 [Ty.ex v0, Ty.ex v1, Ty.ex v2, Ty.ex v3, Ty.row dw 187 23 ((aS y (nth c8)).take k), Ty.row c7 3 31 ((gY (aS y (nth c8))).take k)]), (4000, Cont.fact (bO y) [v0, v1, v2, v3] rfl rfl)]) false [] [6, 10, 4000] rfl rfl ((ud y hr c8 hc8 0 10 (by decide) [v0, v1, v2, v3]).1) (BM (D := 10) (n := 36) (sd := 9) (r := fun k => [Ty.row dw 187 23 ((aS y (nth c8)).take k), Ty.row c7 3 31 ((gY (aS y (nth c8))).take k)]) (fun b => ud y hr c8 hc8 b 10 (by decide) [v0, v1, v2, v3]) (by decide) (by decide) rfl (fun k => List.mem_cons_of_mem _ List.mem_cons_self) (List.mem_cons_of_mem _ (List.mem_cons_of_mem _ List.mem_cons_self))) (uN rfl) (uN rfl) (by decide) (by intro t ht; obtain ⟨x, _, rfl⟩ := List.mem_map.1 ht; exact ⟨rfl, rfl, rfl⟩) rfl rfl (fun _ => rfl) rfl ?_ ?_ ?_ (by intro h; cases h)
 ·(refine dG.mk' ?_ ?_ <;> (repeat' (first | exact aJ | exact aI | exact dQ | refine aB ?_ (Ty.aX _) | refine aB ?_ (Ty.aF _) | refine aG rfl (Cont.aF _) ?_ | refine aG rfl (Cont.dS ?_) ?_ | refine bh ?_ (Ty.aF _) | refine bh ?_ Ty.kX)))
  all_goals trace_state
 ·intro k tys hk
  obtain ⟨hk1, rfl⟩ := Dk hk
  refine ⟨live [(5, Ty.ptr 6 0), (6, Ty.ptr 7 0), (9, Ty.ptr 10 0)] [(6, Cont.cells 152 [Ty.ptr 10 0]), (7, Cont.cells 187 (dw.tys (nth (aS y (nth c8)) k))), (10, Cont.cells 185 [Ty.ex v0, Ty.ex v1, Ty.ex v2, Ty.ex v3, Ty.row dw 187 23 ((aS y (nth c8)).take k), Ty.row c7 3 31 ((gY (aS y (nth c8))).take k)]), (4000, Cont.fact (bO y) [v0, v1, v2, v3] rfl rfl)], fun l w M => ?_, fun l w M => ?_⟩
  ·
   refine aA ?_
   refine bw rfl (by exact List.cons_ne_nil _ _) rfl ?_
   refine bk rfl rfl (by decide) rfl rfl rfl rfl rfl rfl ?_
   refine aD (fO ?_)
   (refine dG.mk' ?_ ?_ <;> (repeat' (first | exact aJ | exact aI | refine aB ?_ (Ty.aX _) | refine aB ?_ (Ty.aF _) | refine aG rfl (Cont.aF _) ?_)))
  refine au ?_
  refine uj (D := 10) (Tb := 185) (tg := 23) [Ty.ex v0, Ty.ex v1, Ty.ex v2, Ty.ex v3] rfl fun v4 => ?_
  refine uj (D := 10) (Tb := 185) (tg := 31) [Ty.ex v0, Ty.ex v1, Ty.ex v2, Ty.ex v3, Ty.ex v4] rfl fun v5 => ?_
  refine cQ mixed rfl ?_
  refine aU rfl rfl (by decide) rfl rfl rfl ?_
  refine aU rfl rfl (by decide) rfl rfl rfl ?_
  refine aU rfl rfl (by decide) rfl rfl rfl ?_
  refine cL rfl ?_
  refine aO rfl rfl rfl rfl rfl (by decide) ?_
  refine aU rfl rfl (by decide) rfl rfl rfl ?_
  refine bL rfl rfl (by decide) rfl rfl (by exact Nat.le_of_ble_eq_true rfl) ?_
  refine bt (E := dw) (xs := [_]) rfl rfl rfl rfl rfl (by decide) (by decide) (by repeat (first | exact (aW.nil : aW _ _ [] _) | (show aW _ _ ((_, _) :: _) _; apply aW.agg; (· exact (rfl : _ = Ty.agg _))))) (by exact rfl) rfl ?_
  refine pT (tg := 23) rfl rfl rfl rfl (by decide) rfl rfl rfl rfl rfl rfl (by decide) (by (simp <;> omega)) (by (simp <;> omega)) rfl rfl ?_
  refine aU rfl rfl (by decide) rfl rfl rfl ?_
  refine cL rfl ?_
  refine aO rfl rfl rfl rfl rfl (by decide) ?_
  refine aU rfl rfl (by decide) rfl rfl rfl ?_
  refine aO rfl rfl rfl rfl rfl (by decide) ?_
  refine aU rfl rfl (by decide) rfl rfl rfl ?_
  refine bt (E := c7) (xs := [_]) rfl rfl rfl rfl rfl (by decide) (by decide) (by repeat (first | exact (aW.nil : aW _ _ [] _) | (show aW _ _ ((_, _) :: _) _; apply aW.one; (· exact (rfl : _ = Ty.int _ _)); (· exact rfl)))) (by exact rfl) rfl ?_
  refine pT (tg := 31) rfl rfl rfl rfl (by decide) rfl rfl rfl rfl rfl rfl (by decide) (by (simp <;> omega)) (by (simp <;> omega)) rfl rfl ?_
  refine cL rfl ?_
  refine aO rfl rfl rfl rfl rfl (by decide) ?_
  refine cq rfl rfl (by decide) rfl rfl (by exact (rfl : _ = Ty.row _ _ _ _)) rfl (by exact Nat.le_of_ble_eq_true rfl) rfl rfl (by exact rfl) ?_
  refine cL rfl ?_
  refine aO rfl rfl rfl rfl rfl (by decide) ?_
  refine cq rfl rfl (by decide) rfl rfl (by exact (rfl : _ = Ty.row _ _ _ _)) rfl (by exact Nat.le_of_ble_eq_true rfl) rfl rfl (by exact rfl) ?_
  refine aD ?_
  refine ⟨by kernel_rfl, ?_⟩
  refine bf (zw ?_)
  (refine dG.mk' ?_ ?_ <;> (repeat' (first | exact aJ | exact aI | exact dQ | refine aB ?_ (Ty.aX _) | refine aG rfl (Cont.aF _) ?_ | refine aG rfl (Cont.dS ?_) ?_ | refine bh ?_ (Ty.aF _) | refine bh ?_ ?_)))
  all_goals first | exact Ty.gF (eB hk1).symm | exact Ty.gF (DJ hk1)
 refine bf (aC (aE ?_))
 refine Ai (D := 10) (Tb := 185) (vs := [v0, v1, v2, v3]) (tys := bO y) (r := [Ty.row dw 187 23 ((aS y (nth c8)).take ((aS y (nth c8)).map jX).length), Ty.row c7 3 31 ((gY (aS y (nth c8))).take ((aS y (nth c8)).map jX).length)]) rfl rfl ?_
 refine gI (tg := 10) rfl (Cont.mQ (T := 185) (BI (y := y) (fl := aS y (nth c8)) (f := jX))) ?_
 refine jB (c0 := 10) (tg := 23) 4 rfl rfl ?_
 refine jB (c0 := 10) (tg := 31) 5 rfl rfl ?_
 refine gI (tg := 10) rfl (Cont.dM (l' := sD y 23 31 (aS y (nth c8)).length (aS y (nth c8)).length) ⟨Ty.aF _, Ty.aF _, Ty.aF _, Ty.aF _, Ty.oX rfl, Ty.oX (B5 _), trivial⟩) ?_
 refine ig (tg := 10) [] [(6, Cont.cells 152 [Ty.pp (sD y 23 31 (aS y (nth c8)).length (aS y (nth c8)).length)])] (by decide) rfl trivial ⟨eW rfl rfl ⟨xI rfl rfl (by decide), trivial⟩, trivial⟩ ?_
 refine ig (tg := 23) [] [(6, Cont.cells 152 [Ty.pp (eE y (aS y (nth c8)) 31 (aS y (nth c8)).length)])] (by decide) rfl trivial ⟨eW rfl rfl ⟨BO ⟨bS rfl, bS rfl, bS rfl, bS rfl, gk rfl rfl (by decide), bS rfl, trivial⟩, trivial⟩, trivial⟩ ?_
 refine aA ?_
 refine aU rfl rfl (by decide) rfl rfl rfl ?_
 refine Iv rfl (aD (aC (az (Gr rfl ?_))))
 refine fN [31] rfl rfl (by decide) (by repeat (first | exact dn | refine cw rfl (bV (by decide) rfl) ?_)) ?_
 all_goals skip
 all_goals exact eM (fA (aH (aH (aH (aH (aH (aH bH (dV (by decide))) (aR rfl rfl)) (aR rfl rfl)) (aR rfl rfl)) (aR rfl rfl)) (aR rfl rfl)))
end Go.Proofs.YtelbollidfdcjaaGreat
namespace Go.Proofs.YtelbollidfdcjaaGreat
open Go Go.T
theorem Ju : Tryz.prog.underlying 180 = some (.array 8 4) := by kernel_rfl
theorem Jp (a0 a1 a2 a3 a4 a5 a6 a7 b0 b1 b2 b3 b4 b5 b6 b7 : Bool) (w : World) : (Op.equal 180 (.agg #[.bool a0, .bool a1, .bool a2, .bool a3, .bool a4, .bool a5, .bool a6, .bool a7]) (.agg #[.bool b0, .bool b1, .bool b2, .bool b3, .bool b4, .bool b5, .bool b6, .bool b7])).run Tryz.prog w = .ok ((decide (a0 = b0) && (decide (a1 = b1) && (decide (a2 = b2) && (decide (a3 = b3) && (decide (a4 = b4) && (decide (a5 = b5) && (decide (a6 = b6) && decide (a7 = b7))))))))) w := by
 have hs : Tryz.prog.stoodInHeld 180 = false := by kernel_rfl
 have e4 : ∀ (x y : Bool) (w : World), (Op.equalIn 9999 4 (.bool x) (.bool y)).run Tryz.prog w = .ok (decide (x = y)) w := fun x y w => by
  rw [Op.equalIn]
  simp only [Sem.run_bind, run_underlying Tryz.underlying4, Result.andThen_ok]
  rfl
 have g4 : ∀ w, (isAgg 4).run Tryz.prog w = .ok false w := fun w => by simp [isAgg, run_underlying Tryz.underlying4]
 unfold Op.equal Op.maxDepth
 rw [Op.equalIn]
 simp only [Sem.run_bind, run_underlying Ju, Result.andThen_ok]
 simp [hs, part, g4, e4]
 rw [show List.range' 0 8 = [0, 1, 2, 3, 4, 5, 6, 7] from rfl]
 simp [List.forIn_cons, g4, e4]
 by_cases h0 : a0 = b0
 case neg => simp [h0]
 rw [if_pos h0]
 by_cases h1 : a1 = b1
 case neg => simp [h1]
 rw [if_pos h1]
 by_cases h2 : a2 = b2
 case neg => simp [h2]
 rw [if_pos h2]
 by_cases h3 : a3 = b3
 case neg => simp [h3]
 rw [if_pos h3]
 by_cases h4 : a4 = b4
 case neg => simp [h4]
 rw [if_pos h4]
 by_cases h5 : a5 = b5
 case neg => simp [h5]
 rw [if_pos h5]
 by_cases h6 : a6 = b6
 case neg => simp [h6]
 rw [if_pos h6]
 by_cases h7 : a7 = b7
 case neg => simp [h7]
 rw [if_pos h7]
 simp [h0, h1, h2, h3, h4, h5, h6, h7]
theorem GZ (xs ys : List Bool) (hx : xs.length = 8) (hy : ys.length = 8) : Jf Tryz.prog 180 (xs.flatMap iV.tys) (ys.flatMap iV.tys) (decide (xs = ys)) := by
  match xs, ys, hx, hy with
  | [a0, a1, a2, a3, a4, a5, a6, a7], [b0, b1, b2, b3, b4, b5, b6, b7], _, _ =>
    refine ⟨by kernel_rfl, fun w M cs ds h1 h2 => ?_⟩
    obtain ⟨cs⟩ := cs
    obtain ⟨ds⟩ := ds
    match cs, ds, h1, h2 with
    | [u0, u1, u2, u3, u4, u5, u6, u7], [v0, v1, v2, v3, v4, v5, v6, v7], h1, h2 =>
      change cM w M [Ty.bool a0, Ty.bool a1, Ty.bool a2, Ty.bool a3, Ty.bool a4, Ty.bool a5, Ty.bool a6, Ty.bool a7] _ at h1
      change cM w M [Ty.bool b0, Ty.bool b1, Ty.bool b2, Ty.bool b3, Ty.bool b4, Ty.bool b5, Ty.bool b6, Ty.bool b7] _ at h2
      obtain ⟨e0, e1, e2, e3, e4, e5, e6, e7, _⟩ := h1
      obtain ⟨f0, f1, f2, f3, f4, f5, f6, f7, _⟩ := h2
      cases e0; cases e1; cases e2; cases e3; cases e4; cases e5; cases e6; cases e7
      cases f0; cases f1; cases f2; cases f3; cases f4; cases f5; cases f6; cases f7
      rw [Jp]
      congr 1
      simp only [List.cons.injEq, and_true, Bool.decide_and]
end Go.Proofs.YtelbollidfdcjaaGreat
namespace Go.T
open Go Go.RowKit
section
variable {P : Program} {fr : Fr} {ops : Array Oper} {A : As} {rest : List Oper} {K : As → List (As × Fx) → Prop} {d : Nat} {t ty' ty2 : TypeId} {p : String} {e : Array Edge}
theorem zi {α : Type} [Inhabited α] {E : El α} {xs ys : List α} {x y : Operand} {c : Bool} (hE : Jf P ty' (xs.flatMap E.tys) (ys.flatMap E.tys) c) (hx : A.op fr x = .arr E xs) (hy : A.op fr y = .arr E ys)
 (h : aj P fr ops rest (A.set d (.bool (!c))) fun A' l' => K A' ((A, { d := some d, ty := .bool (!c), rs := cI x ++ cI y }) :: l')) : aj P fr ops (⟨some d, .binOp .neq ty' x y ty2, t, p, e, none⟩ :: rest) A K :=
 bP (bW rfl rfl fun a w M _ hrd _ => by
  have _ := (inferInstance : Inhabited α)
  obtain ⟨hdx, hdy⟩ := op2 hrd
  rw [hx] at hdx; rw [hy] at hdy
  obtain ⟨cs, ex, h1⟩ := hdx
  obtain ⟨ds, ey, h2⟩ := hdy
  exact ⟨.bool (!c), by simp only [execOp, ex, ey]; simp [eqGuard, hE.1, binOp, hE.2 w M cs ds h1 h2], rfl⟩) h
end
end Go.T
namespace Go.Proofs.YtelbollidfdcjaaGreat
open Go Go.T
set_option maxHeartbeats 16000000
def FO (l : List Int) (x : Int) : Int := fidx (fun y => decide (x = y)) l
theorem zD (l : List Int) (x : Int) : decide (FO l x ≥ 0) = decide (x ∈ l) := by
 unfold FO
 rw [pL]
 rw [Bool.eq_iff_iff]; simp
def zC (l : List Int) (o : Bool) (i : Nat) : Bool := !(decide ((i : Int) ∈ l) == o)
def iA (l : List Int) (o : Bool) (k : Nat) : List Bool := (List.range k).map (zC l o) ++ List.replicate (8 - k) false
def cT (l : List Int) (o : Bool) : List Bool := (List.range 8).map (zC l o)
noncomputable def eZ (y : aq) (c : List Bool) : Bool := !(cS (aS y (nth c)) (y.cells + 1) (gY (aS y (nth c)))).2.1
section
variable {y : aq} {l : List Int} {o : Bool} {k : Nat}
theorem zM (h : k ≤ 8) : (iA l o k).length = 8 := by unfold iA; rw [List.length_append, List.length_map, List.length_range, List.length_replicate]; omega
theorem B9 : (cT l o).length = 8 := by unfold cT; rw [List.length_map, List.length_range]
theorem wj : List.replicate 8 false = iA l o 0 := rfl
theorem zc : iA l o 8 = cT l o := List.append_nil _
theorem w6 (h : k < 8) : (iA l o k).set k (!(decide ((k : Int) ∈ l) == o)) = iA l o (k + 1) := by
 unfold iA
 have e : ((List.range k).map (zC l o)).length = k := by rw [List.length_map, List.length_range]
 rw [List.set_append_right _ _ (by omega), e, Nat.sub_self, show 8 - k = (8 - (k + 1)) + 1 by omega, List.replicate_succ, List.set_cons_zero, List.range_succ, List.map_append, List.append_assoc]; rfl
theorem yl {xs ys : List Bool} {b : Bool} (hx : xs.length = 8) (hy : ys.length = 8) (h : decide (xs = ys) = b) : Jf Tryz.prog 180 (xs.flatMap iV.tys) (ys.flatMap iV.tys) b := h ▸ GZ xs ys hx hy
theorem LS (h : decide (cT l o = bZ) = true) (h2 : (!(cS (aS y (nth bZ)) (y.cells + 1) (gY (aS y (nth bZ)))).2.1) = true) : true = eZ y (cT l o) := by rw [of_decide_eq_true h]; exact h2.symm
theorem Lu (h : decide (cT l o = bZ) = true) (h2 : (!(cS (aS y (nth bZ)) (y.cells + 1) (gY (aS y (nth bZ)))).2.1) = false) : false = eZ y (cT l o) := by rw [of_decide_eq_true h]; exact h2.symm
theorem Jg (y : aq) (c : List Bool) : (!(cS (aS y (nth c)) (y.cells + 1) (gY (aS y (nth c)))).2.1) = eZ y c := rfl
end
attribute [local irreducible] aS gY Way.gi Way.fin Way.room eS eA ep gR over bQ cN dc eT jP e9 gj j4 cS gH fX fW cz cK gS om iO iW ia gU z8 yB hU aq.kept aq.cells bU eI bZ gD kH cH oa pq jc dZ j9 gC hasB sN rD qJ gb oO j8 m8 kK we gN jS FZ D3 rT eZ cT iA
attribute [local irreducible] iP fT nJ qo jJ jK jE jM jG qi jI qn eG gx qg gm qj nth fM dm aj dz bodyPost Exit.then Exit.inBlock Code.wp Code.wpIn qm jL ql qd jH eJ cV cm bodyPostM eN
set_option maxRecDepth 100000 in
theorem zy (l : List Int) (x : Int) : dz Tryz.prog 140 [Ty.sl c7 l, Ty.int .i64 x] (Ty.int .i64 (FO l x)) := by
 refine bB Tryz.func140 rfl (by decide) Tryz.ntmps140 (by exact Nat.le_of_ble_eq_true rfl) fun w0 M0 => ?_
 refine ji (s := 0) rfl rfl jm fun hl => ?_
 refine aE (aA (cE rfl (aD (aC (aE (aE (aA (fK rfl (ct rfl rfl rfl ?_)))))))))
 refine bR rfl (aD (aC (au ?_)))
 refine cZ (fun (k : {k : Nat // ∀ y ∈ l.take k, decide (x = y) = false}) => live [(0, Ty.sl c7 l), (1, Ty.int .i64 x), (7, Ty.int .i64 l.length), (8, Ty.int .i64 (k.1 : Nat))] []) (fun k => l.length - k.1) (⟨0, by simp⟩) ?_ fun k => ?_
 ·(refine dG.mk' ?_ ?_ <;> (repeat' (first | exact aJ | exact aI | refine aB ?_ (Ty.aX _) | refine aB ?_ (Ty.aF _))))
 refine aE (aA (bC rfl rfl rfl (aD (aC (aE ?_)))))
 refine av rfl (fun hc1 => ?_) (fun hc1 => ?_)
 ·
  refine ak (aC (aE (au (aE (aA (bR rfl (cE rfl (aD (aC ?_)))))))))
  refine aE (aA (bR rfl (fK rfl (bR rfl ?_))))
  refine bK rfl rfl rfl rfl rfl rfl (by omega) ?_
  refine aN rfl rfl rfl rfl (bC rfl rfl rfl (aD (aC ?_)))
  refine av rfl (fun hc2 => ?_) (fun hc2 => ?_)
  ·
   refine aE (aA (bR rfl (cE rfl (aD (aC (az (bJ (aV (aV ?_)))))))))
   refine bJ (aV (bq rfl rfl ?_))
   all_goals skip
   exact bE rfl rfl (congrArg (Ty.int .i64) (by unfold FO; rw [ga (k := k.1) (by omega) k.2 (by rw [← iM]; exact decide_eq_true hc2)]))
  refine ak (bf (aC (aA ?_)))
  refine cD rfl rfl (by omega) (by omega) ?_
  refine bR rfl (aD ?_)
  refine bp (⟨k.1 + 1, by rw [eB (by omega)]; intro y hy; rcases List.mem_append.1 hy with h | h; exact k.2 y h; rw [List.mem_singleton.1 h]; exact decide_eq_false hc2⟩) ?_ (by show l.length - (k.1 + 1) < l.length - k.1; omega)
  (refine dG.mk' ?_ ?_ <;> (repeat' (first | exact aJ | exact aI | refine aB ?_ (Ty.aX _) | refine aB ?_ (Ty.aF _))))
  all_goals skip
 refine cg (aT (aT (bA rfl (aC (aE (aA (cE rfl (aD (aC ?_)))))))))
 refine az (bq rfl rfl ?_)
 all_goals skip
 exact bE rfl rfl (congrArg (Ty.int .i64) (by unfold FO; rw [iJ (by have := k.2; rwa [List.take_of_length_le (by omega)] at this)]))
set_option maxRecDepth 100000 in
theorem vR (l : List Int) (x : Int) : dz Tryz.prog 65 [Ty.sl c7 l, Ty.int .i64 x] (Ty.bool (decide (x ∈ l))) := by
 refine bB Tryz.func65 rfl (by decide) Tryz.ntmps65 (by exact Nat.le_of_ble_eq_true rfl) fun w0 M0 => ?_
 refine aE (aA (dr rfl (aD (aC (aE (aA (fK rfl (bR rfl (ah (zy l x) rfl rfl rfl rfl rfl ?_)))))))))
 refine bC rfl rfl rfl (dr rfl (aD (aC (az (bq rfl rfl ?_)))))
 all_goals skip
 exact bE rfl rfl (congrArg Ty.bool (zD l x))
set_option maxRecDepth 100000 in
theorem Bi (y : aq) (hr : y.cx) (l : List Int) (o : Bool) : dz Tryz.prog 112 [fE y, Ty.sl c7 l, Ty.bool o] (Ty.bool (eZ y (cT l o))) := by
 refine bB Tryz.func112 rfl (by decide) Tryz.ntmps112 (by exact Nat.le_of_ble_eq_true rfl) fun w0 M0 => ?_
 refine aE (aA (bN rfl (dr rfl (aD (aC (aE (aA ?_)))))))
 refine Ap (E := iV) (xs := List.replicate 8 false) rfl (by exact List.cons_ne_nil _ _) rfl rfl ?_
 refine aD (aC (aE (aE (aA (bR rfl (aD (aC (au ?_))))))))
 refine cZ (fun (k : {k : Nat // k ≤ 8}) => live [(1, Ty.sl c7 l), (2, Ty.bool o), (3, Ty.pp (bO y)), (7, Ty.ptr 8 0), (9, Ty.int .i64 (k.1 : Nat))] [(8, Cont.vec iV 180 (iA l o k.1))]) (fun k => 8 - k.1) (⟨0, by omega⟩) ?_ fun k => ?_
 ·(refine dG.mk' ?_ ?_ <;> (repeat' (first | exact aJ | exact aI | refine aB ?_ (Ty.aX _) | refine aB ?_ (Ty.aF _) | refine aG rfl ?_ ?_)))
  all_goals exact Cont.eY wj
 have hkl := zM (l := l) (o := o) k.2
 refine aE (aA (bC rfl rfl rfl (aD (aC (aE ?_)))))
 refine av rfl (fun hc1 => ?_) (fun hc1 => ?_)
 ·
  refine ak (aC (aE (au (aE (aA (bR rfl (cE rfl (aD (aC ?_)))))))))
  refine aA (bR rfl (fK rfl (bR rfl (ah (vR _ _) rfl rfl rfl rfl rfl (fu rfl (DI Ls rfl rfl ?_))))))
  refine rF (n := 8) rfl rfl rfl rfl rfl (by omega) (by omega) ?_
  refine rS rfl rfl rfl (by decide) rfl rfl (by exact (rfl : _ = Ty.bool _)) rfl (by omega) (by decide) rfl rfl ?_
  refine aD (bf (aC (aA ?_)))
  refine cD rfl rfl (by omega) (by omega) ?_
  refine bR rfl (aD ?_)
  refine bp (⟨k.1 + 1, by omega⟩) ?_ (by show 8 - (k.1 + 1) < 8 - k.1; omega)
  (refine dG.mk' ?_ ?_ <;> (repeat' (first | exact aJ | exact aI | refine aB ?_ (Ty.aX _) | refine aB ?_ (Ty.aF _) | refine aG rfl ?_ ?_)))
  all_goals skip
  all_goals exact Cont.eY (w6 (by omega))
 refine cg (aT (aT (bA rfl (aC (aE ?_)))))
 obtain ⟨k, hk⟩ := k
 obtain rfl : k = 8 := by have h1 : ¬ (k : Int) < 8 := hc1; have h2 : k ≤ 8 := hk; omega
 refine gI (tg := 8) rfl (Cont.eY zc) ?_
 have hcl : (cT l o).length = 8 := B9
 refine cQ mixed rfl ?_
 refine iC rfl rfl (by decide) rfl rfl (by rw [hcl]; rfl) (fun e => by rw [e] at hcl; cases hcl) ?_
 refine ah (rV) rfl rfl rfl rfl rfl (Kt (GZ _ _ hcl jQ) rfl rfl ?_)
 cases hsp : (decide ((cT l o) = bZ))
 ·
  refine fu rfl (mZ rfl rfl rfl rfl (mZ rfl rfl rfl rfl (mZ rfl rfl rfl rfl (mZ rfl rfl rfl rfl (C4 rfl ?_)))))
  cases hsp : (!(cS (aS y (nth bZ)) (y.cells + 1) (gY (aS y (nth bZ)))).2.1)
  ·
   refine fu rfl ?_
   (refine jx rfl rfl rfl (by apply aP; (refine iC rfl rfl (by decide) rfl rfl (by rw [hcl]; rfl) (fun e => by rw [e] at hcl; cases hcl) ?_); refine aD ?_; exact rfl) ?_)
   (refine jx rfl rfl rfl (by apply aP; (refine ah (rV) rfl rfl rfl rfl rfl ?_); refine aD ?_; exact rfl) ?_)
   (refine jx rfl rfl rfl (by apply aP; (refine zi (yl hcl jQ (by assumption)) rfl rfl ?_); refine aD ?_; exact rfl) ?_)
   (refine jx rfl rfl rfl (by apply aP; (refine fu rfl ?_); refine aD ?_; exact rfl) ?_)
   (refine jx rfl rfl rfl (by apply aP; (refine aZ rfl rfl rfl (by exact Nat.le_of_ble_eq_true rfl) ?_); refine aD ?_; exact rfl) ?_)
   (refine jx rfl rfl rfl (by apply aP; (refine iC rfl rfl (by decide) rfl rfl (by rw [hcl]; rfl) (fun e => by rw [e] at hcl; cases hcl) ?_); refine aD ?_; exact rfl) ?_)
   (refine jx rfl rfl rfl (by apply aP; (refine b9 (res' := Ty.pp (eE y (aS y (nth (cT l o))) 1000 (aS y (nth (cT l o))).length)) [(1000, 31)] [1000] [(1000, Cont.vec c7 3 (gY (aS y (nth (cT l o)))))] (su y hr (cT l o) hcl) rfl rfl (aH (aH bH (aR rfl rfl)) (aR rfl rfl)) pre_nil (bI (a := 1000) (b := 31) (by decide) rfl (bV (by decide) rfl) post_nil) (fA (aH (aH (aH (aH (aH (aH bH (dV (by decide))) (aR rfl rfl)) (aR rfl rfl)) (aR rfl rfl)) (aR rfl rfl)) (aR rfl rfl))) ?_); refine aD ?_; exact rfl) ?_)
   (refine jx rfl rfl rfl (by apply aP; (refine b9 [(1000, 1000)] [] [(1000, Cont.vec c7 3 (cS (aS y (nth (cT l o))) (y.cells + 1) (gY (aS y (nth (cT l o))))).2.2)] (mP y (aS y (nth (cT l o))) (gY (aS y (nth (cT l o)))) (lP hr)) rfl rfl (aH bH (fA (aH (aH (aH (aH (aH (aH bH (dV (by exact List.mem_cons_self))) (aR rfl rfl)) (aR rfl rfl)) (aR rfl rfl)) (aR rfl rfl)) (aR rfl rfl)))) (cC (a := 1000) (b := 1000) (by exact List.mem_cons_self) rfl (bV (by exact List.mem_cons_self) rfl) pre_nil) (bI (a := 1000) (b := 1000) (by decide) rfl (bV (by decide) rfl) post_nil) (aR rfl rfl) ?_); refine aD ?_; exact rfl) ?_)
   (refine jx rfl rfl rfl (by apply aP; (refine zW rfl rfl ?_); refine aD ?_; exact rfl) ?_)
   refine yp rfl rfl (dr rfl (aD ?_))
   refine ⟨by kernel_rfl, ?_⟩
   refine aC (az (bq rfl rfl ?_))
   all_goals skip
   all_goals exact bE rfl rfl (congrArg Ty.bool (Jg y _))
  refine fu rfl ?_
  (refine jx rfl rfl rfl (by apply aP; (refine iC rfl rfl (by decide) rfl rfl (by rw [hcl]; rfl) (fun e => by rw [e] at hcl; cases hcl) ?_); refine aD ?_; exact rfl) ?_)
  (refine jx rfl rfl rfl (by apply aP; (refine ah (rV) rfl rfl rfl rfl rfl ?_); refine aD ?_; exact rfl) ?_)
  (refine jx rfl rfl rfl (by apply aP; (refine zi (yl hcl jQ (by assumption)) rfl rfl ?_); refine aD ?_; exact rfl) ?_)
  (refine jx rfl rfl rfl (by apply aP; (refine fu rfl ?_); refine aD ?_; exact rfl) ?_)
  (refine jx rfl rfl rfl (by apply aP; (refine aZ rfl rfl rfl (by exact Nat.le_of_ble_eq_true rfl) ?_); refine aD ?_; exact rfl) ?_)
  (refine jx rfl rfl rfl (by apply aP; (refine iC rfl rfl (by decide) rfl rfl (by rw [hcl]; rfl) (fun e => by rw [e] at hcl; cases hcl) ?_); refine aD ?_; exact rfl) ?_)
  (refine jx rfl rfl rfl (by apply aP; (refine b9 (res' := Ty.pp (eE y (aS y (nth (cT l o))) 1000 (aS y (nth (cT l o))).length)) [(1000, 31)] [1000] [(1000, Cont.vec c7 3 (gY (aS y (nth (cT l o)))))] (su y hr (cT l o) hcl) rfl rfl (aH (aH bH (aR rfl rfl)) (aR rfl rfl)) pre_nil (bI (a := 1000) (b := 31) (by decide) rfl (bV (by decide) rfl) post_nil) (fA (aH (aH (aH (aH (aH (aH bH (dV (by decide))) (aR rfl rfl)) (aR rfl rfl)) (aR rfl rfl)) (aR rfl rfl)) (aR rfl rfl))) ?_); refine aD ?_; exact rfl) ?_)
  (refine jx rfl rfl rfl (by apply aP; (refine b9 [(1000, 1000)] [] [(1000, Cont.vec c7 3 (cS (aS y (nth (cT l o))) (y.cells + 1) (gY (aS y (nth (cT l o))))).2.2)] (mP y (aS y (nth (cT l o))) (gY (aS y (nth (cT l o)))) (lP hr)) rfl rfl (aH bH (fA (aH (aH (aH (aH (aH (aH bH (dV (by exact List.mem_cons_self))) (aR rfl rfl)) (aR rfl rfl)) (aR rfl rfl)) (aR rfl rfl)) (aR rfl rfl)))) (cC (a := 1000) (b := 1000) (by exact List.mem_cons_self) rfl (bV (by exact List.mem_cons_self) rfl) pre_nil) (bI (a := 1000) (b := 1000) (by decide) rfl (bV (by decide) rfl) post_nil) (aR rfl rfl) ?_); refine aD ?_; exact rfl) ?_)
  (refine jx rfl rfl rfl (by apply aP; (refine zW rfl rfl ?_); refine aD ?_; exact rfl) ?_)
  refine yp rfl rfl (dr rfl (aD ?_))
  refine ⟨by kernel_rfl, ?_⟩
  refine aC (az (bq rfl rfl ?_))
  all_goals skip
  all_goals exact bE rfl rfl (congrArg Ty.bool (Jg y _))
 refine fu rfl ?_
 (refine jx rfl rfl rfl (by apply aP; (refine aZ rfl rfl rfl (by exact Nat.le_of_ble_eq_true rfl) ?_); refine aD ?_; exact rfl) ?_)
 (refine jx rfl rfl rfl (by apply aP; (refine ah (rV) rfl rfl rfl rfl rfl ?_); refine aD ?_; exact rfl) ?_)
 (refine jx rfl rfl rfl (by apply aP; (refine b9 (res' := Ty.pp (eE y (aS y (nth bZ)) 1000 (aS y (nth bZ)).length)) [(1000, 31)] [1000] [(1000, Cont.vec c7 3 (gY (aS y (nth bZ))))] (su y hr bZ jQ) rfl rfl (aH (aH bH (aR rfl rfl)) (aR rfl rfl)) pre_nil (bI (a := 1000) (b := 31) (by decide) rfl (bV (by decide) rfl) post_nil) (fA (aH (aH (aH (aH (aH (aH bH (dV (by decide))) (aR rfl rfl)) (aR rfl rfl)) (aR rfl rfl)) (aR rfl rfl)) (aR rfl rfl))) ?_); refine aD ?_; exact rfl) ?_)
 (refine jx rfl rfl rfl (by apply aP; (refine b9 [(1000, 1000)] [] [(1000, Cont.vec c7 3 (cS (aS y (nth bZ)) (y.cells + 1) (gY (aS y (nth bZ)))).2.2)] (mP y (aS y (nth bZ)) (gY (aS y (nth bZ))) (lP hr)) rfl rfl (aH bH (fA (aH (aH (aH (aH (aH (aH bH (dV (by exact List.mem_cons_self))) (aR rfl rfl)) (aR rfl rfl)) (aR rfl rfl)) (aR rfl rfl)) (aR rfl rfl)))) (cC (a := 1000) (b := 1000) (by exact List.mem_cons_self) rfl (bV (by exact List.mem_cons_self) rfl) pre_nil) (bI (a := 1000) (b := 1000) (by decide) rfl (bV (by decide) rfl) post_nil) (aR rfl rfl) ?_); refine aD ?_; exact rfl) ?_)
 refine zW rfl rfl ?_
 cases hsp : (!(cS (aS y (nth bZ)) (y.cells + 1) (gY (aS y (nth bZ)))).2.1)
 ·
  refine fu rfl ?_
  (refine jx rfl rfl rfl (by apply aP; (refine iC rfl rfl (by decide) rfl rfl (by rw [hcl]; rfl) (fun e => by rw [e] at hcl; cases hcl) ?_); refine aD ?_; exact rfl) ?_)
  (refine jx rfl rfl rfl (by apply aP; (refine ah (rV) rfl rfl rfl rfl rfl ?_); refine aD ?_; exact rfl) ?_)
  (refine jx rfl rfl rfl (by apply aP; (refine zi (yl hcl jQ (by assumption)) rfl rfl ?_); refine aD ?_; exact rfl) ?_)
  (refine jx rfl rfl rfl (by apply aP; (refine fu rfl ?_); refine aD ?_; exact rfl) ?_)
  refine mZ rfl rfl rfl rfl (mZ rfl rfl rfl rfl (mZ rfl rfl rfl rfl (mZ rfl rfl rfl rfl ?_)))
  (refine jx rfl rfl rfl (by apply aP; (refine C4 rfl ?_); refine aD ?_; exact rfl) ?_)
  refine yp rfl rfl (dr rfl (aD ?_))
  refine ⟨by kernel_rfl, ?_⟩
  refine aC (az (bq rfl rfl ?_))
  all_goals skip
  all_goals exact bE rfl rfl (congrArg Ty.bool (Lu (by assumption) (by assumption)))
 refine fu rfl (mZ rfl rfl rfl rfl (mZ rfl rfl rfl rfl (mZ rfl rfl rfl rfl (mZ rfl rfl rfl rfl (zZ rfl rfl rfl (zZ rfl rfl rfl (zZ rfl rfl rfl (zZ rfl rfl rfl (mZ rfl rfl rfl rfl ?_)))))))))
 refine Iu rfl (dr rfl (aD ?_))
 refine ⟨by kernel_rfl, ?_⟩
 refine aC (az (bq rfl rfl ?_))
 all_goals skip
 all_goals exact bE rfl rfl (congrArg Ty.bool (LS (by assumption) (by assumption)))
end Go.Proofs.YtelbollidfdcjaaGreat
namespace Go.Proofs.YtelbollidfdcjaaGreat
open Go Go.T
set_option maxHeartbeats 16000000
section
variable {y : aq} {l : List Int} {i : Nat}
end
attribute [local irreducible] aS gY Way.gi Way.fin Way.room eS eA ep gR over bQ cN dc eT jP e9 gj j4 cS gH fX fW cz cK gS om iO iW ia gU z8 yB hU aq.kept aq.cells bU eI bZ gD kH cH oa pq jc dZ j9 gC hasB sN rD qJ gb oO j8 m8 kK we gN jS FZ D3 rT eZ cT iA
attribute [local irreducible] iP fT nJ qo jJ jK jE jM jG qi jI qn eG gx qg gm qj nth fM dm aj dz bodyPost Exit.then Exit.inBlock Code.wp Code.wpIn qm jL ql qd jH eJ cV cm bodyPostM eN
end Go.Proofs.YtelbollidfdcjaaGreat
namespace Go.Proofs.YtelbollidfdcjaaGreat
open Go Go.T
def mI (h : List Int → Bool) (many : Nat) : Nat → List Int → Nat → List Int → Bool × List Int
  | 0, _, _, o => (false, o)
  | d + 1, l, i, o =>
    if (if (l ++ [(i : Int)]).length = many then (h (l ++ [(i : Int)]), l ++ [(i : Int)]) else mI h many d (l ++ [(i : Int)]) (i + 1) o).1 = true then (if (l ++ [(i : Int)]).length = many then (h (l ++ [(i : Int)]), l ++ [(i : Int)]) else mI h many d (l ++ [(i : Int)]) (i + 1) o)
    else mI h many d l (i + 1) (if (l ++ [(i : Int)]).length = many then (h (l ++ [(i : Int)]), l ++ [(i : Int)]) else mI h many d (l ++ [(i : Int)]) (i + 1) o).2
def tM (h : List Int → Bool) (many lim : Nat) (l : List Int) (i : Nat) (o : List Int) : Bool × List Int := if l.length = many then (h l, l) else mI h many (lim - i) l i o
def yZ (many : Nat) : Nat → List Int → Nat → List (List Int)
  | 0, _, _ => []
  | d + 1, l, i => (if (l ++ [(i : Int)]).length = many then [l ++ [(i : Int)]] else yZ many d (l ++ [(i : Int)]) (i + 1)) ++ yZ many d l (i + 1)
def FF (many lim : Nat) : List (List Int) := if many = 0 then [[]] else yZ many lim [] 0
def lQ (h : List Int → Bool) (lim : Nat) : Option (List Int) := ((List.range (lim + 1)).flatMap fun k => FF k lim).find? h
section
variable {h : List Int → Bool} {many lim d i k : Nat} {l o : List Int}
theorem AE (hi : i < lim) : mI h many (lim - i) l i o = if (tM h many lim (l ++ [(i : Int)]) (i + 1) o).1 = true then tM h many lim (l ++ [(i : Int)]) (i + 1) o else mI h many (lim - (i + 1)) l (i + 1) (tM h many lim (l ++ [(i : Int)]) (i + 1) o).2 := by
 rw [show lim - i = (lim - (i + 1)) + 1 by omega]; rfl
theorem IT (hi : ¬ i < lim) : mI h many (lim - i) l i o = (false, o) := by rw [show lim - i = 0 by omega]; rfl
theorem go_eq (e : l.length = many) : tM h many lim l i o = (h l, l) := if_pos e
theorem Jh (e : ¬ l.length = many) : tM h many lim l i o = mI h many (lim - i) l i o := if_neg e
theorem zG : ∀ (d : Nat) (l : List Int) (i : Nat) (o : List Int), (mI h many d l i o).1 = (yZ many d l i).any h ∧ ((mI h many d l i o).1 = true → (yZ many d l i).find? h = some (mI h many d l i o).2)
  | 0, _, _, _ => ⟨rfl, fun e => by cases e⟩
  | d + 1, l, i, o => by
    have key : ∀ o, (if (l ++ [(i : Int)]).length = many then (h (l ++ [(i : Int)]), l ++ [(i : Int)]) else mI h many d (l ++ [(i : Int)]) (i + 1) o).1 = (if (l ++ [(i : Int)]).length = many then [l ++ [(i : Int)]] else yZ many d (l ++ [(i : Int)]) (i + 1)).any h ∧ ((if (l ++ [(i : Int)]).length = many then (h (l ++ [(i : Int)]), l ++ [(i : Int)]) else mI h many d (l ++ [(i : Int)]) (i + 1) o).1 = true → (if (l ++ [(i : Int)]).length = many then [l ++ [(i : Int)]] else yZ many d (l ++ [(i : Int)]) (i + 1)).find? h = some (if (l ++ [(i : Int)]).length = many then (h (l ++ [(i : Int)]), l ++ [(i : Int)]) else mI h many d (l ++ [(i : Int)]) (i + 1) o).2) := by
      intro o
      by_cases e : (l ++ [(i : Int)]).length = many
      · rw [if_pos e, if_pos e]
        refine ⟨by simp, fun h1 => ?_⟩
        have h1 : h (l ++ [(i : Int)]) = true := h1
        rw [List.find?_cons, h1]
      · rw [if_neg e, if_neg e]
        exact zG d _ _ o
    unfold mI yZ
    generalize (if (l ++ [(i : Int)]).length = many then [l ++ [(i : Int)]] else yZ many d (l ++ [(i : Int)]) (i + 1)) = C at key ⊢
    obtain ⟨k1, k2⟩ := key o
    generalize (if (l ++ [(i : Int)]).length = many then (h (l ++ [(i : Int)]), l ++ [(i : Int)]) else mI h many d (l ++ [(i : Int)]) (i + 1) o) = r at k1 k2 ⊢
    rw [List.any_append, List.find?_append]
    cases e : r.1 with
    | true =>
      rw [if_pos rfl]
      refine ⟨by rw [e, ← k1, e]; rfl, fun _ => by rw [k2 e]; rfl⟩
    | false =>
      rw [if_neg (by decide)]
      obtain ⟨j1, j2⟩ := zG d l (i + 1) r.2
      have hn : C.find? h = none := by
        rw [List.find?_eq_none]
        intro x hx h1
        have : C.any h = true := List.any_eq_true.2 ⟨x, hx, h1⟩
        rw [← k1, e] at this; cases this
      refine ⟨by rw [j1, ← k1, e, Bool.false_or], fun h1 => by rw [hn, j2 h1]; rfl⟩
theorem HL : (tM h many lim [] 0 o).1 = (FF many lim).any h ∧ ((tM h many lim [] 0 o).1 = true → (FF many lim).find? h = some (tM h many lim [] 0 o).2) := by
 unfold tM FF
 by_cases e : many = 0
 ·rw [if_pos (show ([] : List Int).length = many from e.symm), if_pos e]
  refine ⟨by simp, fun h1 => ?_⟩
  have h1 : h [] = true := h1
  rw [List.find?_cons, h1]
 rw [if_neg (show ¬ ([] : List Int).length = many from fun h => e h.symm), if_neg e, Nat.sub_zero]
 exact zG _ _ _ _
theorem Dt {C : List (List Int)} (h1 : C.any h = false) : C.find? h = none := by
 rw [List.find?_eq_none]
 intro x hx h2
 have : C.any h = true := List.any_eq_true.2 ⟨x, hx, h2⟩
 rw [h1] at this; cases this
def p5 (h : List Int → Bool) (lim k : Nat) : Prop := ((List.range k).flatMap fun k => FF k lim).find? h = none
theorem Es : p5 h lim 0 := rfl
theorem EN (h0 : p5 h lim k) (h1 : (tM h k lim [] 0 []).1 = false) : p5 h lim (k + 1) := by
 unfold p5 at h0 ⊢
 rw [List.range_succ, List.flatMap_append, List.find?_append, h0, List.flatMap_singleton, Dt (by rw [← (HL (o := [])).1, h1])]; rfl
theorem Bo (h0 : p5 h lim k) (hk : k = lim + 1) : lQ h lim = none := by subst hk; exact h0
theorem range_split {k n : Nat} (hk : k < n) : ∃ r, List.range n = List.range k ++ k :: r := by
 refine ⟨(List.range (n - k - 1)).map (fun x => k + 1 + x), ?_⟩
 rw [show List.range n = List.range (k + (1 + (n - k - 1))) by congr 1; omega, List.range_add, List.range_add, List.map_append]
 rw [List.map_map]
 congr 1
 show [k + 0] ++ _ = _
 rw [List.singleton_append, Nat.add_zero]
 congr 1
 refine List.map_congr_left fun x _ => ?_
 show k + (1 + x) = _; omega
theorem Bv (h0 : p5 h lim k) (hk : k ≤ lim) (h1 : (tM h k lim [] 0 []).1 = true) : lQ h lim = some (tM h k lim [] 0 []).2 := by
 unfold p5 at h0
 unfold lQ
 obtain ⟨r, hr⟩ := range_split (show k < lim + 1 by omega)
 rw [hr, List.flatMap_append, List.find?_append, h0, List.flatMap_cons, List.find?_append, HL.2 h1]; rfl
end
end Go.Proofs.YtelbollidfdcjaaGreat
namespace Go.Proofs.YtelbollidfdcjaaGreat
open Go Go.T
set_option maxHeartbeats 16000000
structure wz (h : List Int → Bool) (many lim : Nat) (l : List Int) (i0 : Nat) (o0 : List Int) where
  i : Nat
  o : List Int
  ge : i0 ≤ i
  le : i ≤ lim
  same : mI h many (lim - i0) l i0 o0 = mI h many (lim - i) l i o
section
variable {h : List Int → Bool} {many lim i0 k : Nat} {l o0 : List Int}
theorem wz.nat (x : wz h many lim l i0 o0) (hi : (x.i : Int) < (lim : Int)) : x.i < lim := by omega
def wz.next (x : wz h many lim l i0 o0) (hi : (x.i : Int) < (lim : Int)) (hg : (tM h many lim (l ++ [(x.i : Int)]) (x.i + 1) x.o).1 = false) : wz h many lim l i0 o0 :=
  ⟨x.i + 1, (tM h many lim (l ++ [(x.i : Int)]) (x.i + 1) x.o).2, by have := x.ge; omega, by omega, by rw [x.same, AE (x.nat hi), if_neg (by rw [hg]; decide)]⟩
theorem wz.found (x : wz h many lim l i0 o0) (hm : ¬ l.length = many) (hi : (x.i : Int) < (lim : Int)) (hg : (tM h many lim (l ++ [(x.i : Int)]) (x.i + 1) x.o).1 = true) : tM h many lim l i0 o0 = tM h many lim (l ++ [(x.i : Int)]) (x.i + 1) x.o := by
 rw [Jh hm, x.same, AE (x.nat hi), if_pos hg]
theorem wz.stop (x : wz h many lim l i0 o0) (hm : ¬ l.length = many) (hi : ¬ (x.i : Int) < (lim : Int)) : tM h many lim l i0 o0 = (false, x.o) := by
 rw [Jh hm, x.same, IT (by omega)]
def Ex (h : List Int → Bool) (lim : Nat) : Bool := (lQ h lim).isSome
def DG (h : List Int → Bool) (lim : Nat) : List Int := (lQ h lim).getD []
theorem GG {k : Nat} (h0 : p5 h lim k) (hk : k ≤ lim) (h1 : (tM h k lim [] 0 []).1 = true) : true = Ex h lim ∧ (tM h k lim [] 0 []).2 = DG h lim := by
 unfold Ex DG; rw [Bv h0 hk h1]; exact ⟨rfl, rfl⟩
theorem JR {k : Nat} (h0 : p5 h lim k) (hk : k ≤ lim + 1) (h1 : ¬ (k : Int) < (lim : Int) + 1) : false = Ex h lim ∧ [] = DG h lim := by
 unfold Ex DG; rw [Bo h0 (by omega)]; exact ⟨rfl, rfl⟩
theorem DL (h : ((l.length : Nat) : Int) = (many : Nat)) : l.length = many := by omega
theorem E0 (h : ¬ ((l.length : Nat) : Int) = (many : Nat)) : ¬ l.length = many := by omega
end
theorem pF {ρ : List (Nat × Nat)} {th : Ty} {h1 : th.deps = []} {h2 : th.cdeps = []} {many lim a b : Nat} (e0 : (a, 1000) ∈ ρ) (e1 : (b, 1001) ∈ ρ) : lH ρ [Ty.jf 171 [Ty.pp [Ty.int .i64 (many : Nat)], Ty.ptr a 0, Ty.pp [Ty.nd th h1 h2], Ty.pp [Ty.int .i64 (lim : Nat)], Ty.ptr b 0]] [Ty.jf 171 [Ty.pp [Ty.int .i64 (many : Nat)], Ty.ptr 1000 0, Ty.pp [Ty.nd th h1 h2], Ty.pp [Ty.int .i64 (lim : Nat)], Ty.ptr 1001 0]] :=
 aH bH (tE (aH (aH (aH (aH (aH bH (dx e1)) (aR rfl rfl)) (aR rfl rfl)) (dx e0)) (aR rfl rfl)))
abbrev uW (th : Ty) (h1 : th.deps = []) (h2 : th.cdeps = []) (many lim : Nat) (o : List Int) : List (Nat × Cont) := [(1000, Cont.cells 28 [Ty.sl c7 o]), (1001, Cont.cells 122 [Ty.jf 171 [Ty.pp [Ty.int .i64 (many : Nat)], Ty.ptr 1000 0, Ty.pp [Ty.nd th h1 h2], Ty.pp [Ty.int .i64 (lim : Nat)], Ty.ptr 1001 0]])]
theorem zh {A : As} {th : Ty} {h1 : th.deps = []} {h2 : th.cdeps = []} {many lim : Nat} {o o' : List Int} (e0 : A.tag 1000 = some (Cont.cells 28 [Ty.sl c7 o])) (e1 : A.tag 1001 = some (Cont.cells 122 [Ty.jf 171 [Ty.pp [Ty.int .i64 (many : Nat)], Ty.ptr 1000 0, Ty.pp [Ty.nd th h1 h2], Ty.pp [Ty.int .i64 (lim : Nat)], Ty.ptr 1001 0]])) (e : o = o') : nk A [1000, 1001] (uW th h1 h2 many lim o') := by
 subst e; exact cw e0 (iR (by decide) (aH bH (aR rfl rfl))) (cw e1 (iR (by decide) (pF (by decide) (by decide))) dn)
attribute [local irreducible] iP fT nJ qo jJ jK jE jM jG qi jI qn eG gx qg gm qj nth fM dm aj dz bodyPost Exit.then Exit.inBlock Code.wp Code.wpIn qm jL ql qd jH eJ cV cm bodyPostM eN
attribute [local irreducible] tM mI
set_option maxRecDepth 100000 in
theorem zm (l : List Int) (h : l.length ≤ 1000) : eJ Tryz.prog 172 [] [] [Ty.sl c7 l] [] (Ty.row c7 3 6 l) := by
 refine dN Tryz.func172 rfl (by decide) Tryz.ntmps172 (by exact Nat.le_of_ble_eq_true rfl) fun w0 M0 => ?_
 refine aE (aA (l9 rfl (aD (aC (aE (aE (aA (fK rfl (uX JS rfl ?_)))))))))
 refine aD (aC ?_)
 refine pI rfl (fun hc1 => ?_) (fun hc1 => ?_)
 ·
  refine aE (aA (l9 rfl (aD (aC (az (aV ?_))))))
  refine fN [6] rfl rfl (by decide) (by repeat (exact dn)) ?_
  all_goals skip
  all_goals (obtain rfl : l = [] := hc1; exact eM o7)
 refine ak (aC (aE (aA ?_)))
 refine m4 (E := c7) rfl rfl rfl rfl ?_
 refine fK rfl ?_
 refine fJ rfl rfl (by decide) rfl rfl rfl rfl rfl rfl (by decide) (by (simp <;> omega)) (by (simp <;> omega)) ?_
 refine Ew rfl (aD (aC (az ?_)))
 refine fN [6] rfl rfl (by decide) (by repeat (exact dn)) ?_
 all_goals skip
 all_goals exact eM (jw (by decide))
set_option maxRecDepth 100000 in
theorem J3 (th : Ty) (h1 : th.deps = []) (h2 : th.cdeps = []) (h : List Int → Bool) (hf : ∀ l, nv Tryz.prog (Ty.nd th h1 h2) [Ty.sl c7 l] (Ty.bool (h l))) (many lim : Nat) (hmn : many ≤ 1000) (hlm : lim ≤ 1000) (d : Nat) (l : List Int) (i : Nat) (o : List Int) (hi : i ≤ lim) (hll : l.length ≤ many) (hd : lim - i < d) : eJ Tryz.prog 171 [1000, 1001] (uW th h1 h2 many lim o) [Ty.row c7 3 1002 l, Ty.int .i64 (i : Nat), Ty.pp [Ty.int .i64 (many : Nat)], Ty.ptr 1000 0, Ty.pp [Ty.nd th h1 h2], Ty.pp [Ty.int .i64 (lim : Nat)], Ty.ptr 1001 0] (uW th h1 h2 many lim (tM h many lim l i o).2) (Ty.bool (tM h many lim l i o).1) := by
 induction d generalizing l i o
 case zero => exact absurd hd (by omega)
 rename_i d ih
 refine dN Tryz.func171 rfl (by decide) Tryz.ntmps171 (by exact Nat.le_of_ble_eq_true rfl) fun w0 M0 => ?_
 refine aE ?_
 refine lR (tg := 1002) [(0, Ty.sl c7 l)] (by decide) rfl ⟨Db rfl, trivial⟩ ?_
 refine aA (dr rfl (aD (aC (aE (aE (aA (fK rfl (ct rfl rfl rfl (aN rfl rfl rfl rfl ?_)))))))))
 refine bC rfl rfl rfl (aD (aC ?_))
 refine av rfl (fun hc1 => ?_) (fun hc1 => ?_)
 ·
  refine aE (aA (fK rfl ?_))
  refine cq rfl rfl (by decide) rfl rfl (by exact (rfl : _ = Ty.sl _ _)) rfl (by exact Nat.le_of_ble_eq_true rfl) rfl rfl (by exact (rfl : _ = [_])) ?_
  refine aD (aC (aE (aA (aN rfl rfl rfl rfl (fK rfl (eX rfl (hf l) rfl (dr rfl (aD (aC ?_)))))))))
  refine az (aV ?_)
  refine fN [1000, 1001] rfl rfl (by decide) ?_ ?_
  ·exact zh rfl rfl (congrArg Prod.snd (go_eq (DL hc1))).symm
  all_goals skip
  all_goals exact eM (kR rfl rfl (congrArg Ty.bool (congrArg Prod.fst (go_eq (DL hc1))).symm))
 refine ak (aC (aE (aE ?_)))
 have hlm2 := E0 hc1
 refine aA (bR rfl (cE rfl (aD (aC (au ?_)))))
 refine cZ (fun (x : wz h many lim l i o) => live [(0, Ty.sl c7 l), (2, Ty.pp [Ty.int .i64 (many : Nat)]), (3, Ty.ptr 1000 0), (4, Ty.pp [Ty.nd th h1 h2]), (5, Ty.pp [Ty.int .i64 (lim : Nat)]), (6, Ty.ptr 1001 0), (10, Ty.int .i64 (x.i : Nat))] [(1000, Cont.cells 28 [Ty.sl c7 x.o]), (1001, Cont.cells 122 [Ty.jf 171 [Ty.pp [Ty.int .i64 (many : Nat)], Ty.ptr 1000 0, Ty.pp [Ty.nd th h1 h2], Ty.pp [Ty.int .i64 (lim : Nat)], Ty.ptr 1001 0]])]) (fun x => lim - x.i) (⟨i, o, Nat.le_refl _, hi, rfl⟩) ?_ fun x => ?_
 ·(refine dG.mk' ?_ ?_ <;> (repeat' (first | exact aJ | exact aI | refine aB ?_ (Ty.aX _) | refine aB ?_ (Ty.aF _) | refine aG rfl (Cont.aF _) ?_)))
 have hxl := x.le
 refine aE (aE (aA (bR rfl (aN rfl rfl rfl rfl (bC rfl rfl rfl (aD (aC ?_)))))))
 refine av rfl (fun hc2 => ?_) (fun hc2 => ?_)
 ·
  refine ak (aC (aE (au (aE (cQ mixed rfl ?_)))))
  refine aU rfl rfl (by decide) rfl rfl rfl ?_
  refine fK rfl ?_
  refine b9 (res' := Ty.row c7 3 27 l) [(27, 6)] [27] [] (zm l (by omega)) rfl rfl (by repeat (first | exact bH | refine aH ?_ ?_ | exact aR rfl rfl)) pre_nil post_nil (jw (by exact List.mem_cons_self)) ?_
  refine bR rfl ?_
  refine bt (E := c7) (xs := [(x.i : Int)]) rfl rfl rfl rfl rfl (by decide) (by decide) (by repeat (first | exact (aW.nil : aW _ _ [] _) | (show aW _ _ ((_, _) :: _) _; apply aW.one; (· exact (rfl : _ = Ty.int _ _)); (· exact rfl)))) (by exact rfl) rfl ?_
  refine fJ rfl rfl (by decide) rfl rfl rfl rfl rfl rfl (by decide) (by (simp <;> omega)) (by (simp <;> omega)) ?_
  refine bR rfl ?_
  refine cD rfl rfl (by omega) (by omega) ?_
  refine z4 [(1000, 1000), (1001, 1001), (27, 1002)] [27] (uW th h1 h2 many lim (tM h many lim (l ++ [(x.i : Int)]) (x.i + 1) x.o).2) rfl (ih (l ++ [(x.i : Int)]) (x.i + 1) x.o (by omega) (by rw [List.length_append]; show l.length + 1 ≤ many; omega) (by have := x.ge; omega)) rfl rfl (aH (aH (aH (aH (aH (aH (aH bH (dx (by decide))) (aR rfl rfl)) (aR rfl rfl)) (dx (by decide))) (aR rfl rfl)) (aR rfl rfl)) (jw (by decide))) (cC (a := 1000) (b := 1000) (by decide) rfl (iR (by decide) (aH bH (aR rfl rfl))) (cC (a := 1001) (b := 1001) (by decide) rfl (iR (by decide) (pF (by decide) (by decide))) pre_nil)) (bI (a := 1000) (b := 1000) (by decide) rfl (iR (by decide) (aH bH (aR rfl rfl))) (bI (a := 1001) (b := 1001) (by decide) rfl (iR (by decide) (pF (by decide) (by decide))) post_nil)) (aR rfl rfl) ?_
  refine aD ?_
  refine ⟨by kernel_rfl, ?_⟩
  refine aC ?_
  refine cr rfl (fun hc3 => ?_) (fun hc3 => ?_)
  ·
   refine aE (aA (dr rfl (aD (aC (az (bJ (aV (aV (bJ ?_)))))))))
   refine aV ?_
   refine fN [1000, 1001] rfl rfl (by decide) ?_ ?_
   ·exact zh rfl rfl (congrArg Prod.snd (x.found hlm2 hc2 hc3)).symm
   all_goals skip
   all_goals exact eM (kR rfl rfl (congrArg Ty.bool (hc3.symm.trans (congrArg Prod.fst (x.found hlm2 hc2 hc3)).symm)))
  refine ak (bf (aC (aA (bR rfl ?_))))
  refine cD rfl rfl (by omega) (by omega) ?_
  refine cE rfl (aD ?_)
  refine bp (x.next hc2 hc3) ?_ (by show lim - (x.i + 1) < lim - x.i; omega)
  (refine dG.mk' ?_ ?_ <;> (repeat' (first | exact aJ | exact aI | refine aB ?_ (Ty.aX _) | refine aB ?_ (Ty.aF _) | refine aG rfl (Cont.aF _) ?_)))
  all_goals skip
 refine cg (aT (aT (bA rfl (aC (aE (aA (dr rfl (aD (aC ?_)))))))))
 refine az ?_
 refine fN [1000, 1001] rfl rfl (by decide) ?_ ?_
 ·exact zh rfl rfl (congrArg Prod.snd (x.stop hlm2 hc2)).symm
 all_goals skip
 all_goals exact eM (kR rfl rfl (congrArg Ty.bool (congrArg Prod.fst (x.stop hlm2 hc2)).symm))
set_option maxRecDepth 100000 in
theorem uo (th : Ty) (h1 : th.deps = []) (h2 : th.cdeps = []) (ho : th.one = true) (h : List Int → Bool) (hf : ∀ l, nv Tryz.prog (Ty.nd th h1 h2) [Ty.sl c7 l] (Ty.bool (h l))) (lim : Nat) (hlm : lim ≤ 999) : dz Tryz.prog 113 [Ty.int .i64 (lim : Nat), Ty.nd th h1 h2] (Ty.jR [Ty.sl c7 (DG h lim), Ty.bool (Ex h lim)]) := by
 refine bB Tryz.func113 rfl (by decide) Tryz.ntmps113 (by exact Nat.le_of_ble_eq_true rfl) fun w0 M0 => ?_
 refine aE (aA ?_)
 refine gL (by exact (rfl : _ = Ty.int _ _)) rfl ?_
 refine gL (ty := Ty.nd th h1 h2) rfl ho ?_
 refine l9 rfl (dr rfl (aD (aC (aE (aE (aA (aN rfl rfl rfl rfl ?_)))))))
 refine cD rfl rfl (by omega) (by omega) ?_
 refine bR rfl (aD (aC (au ?_)))
 refine cZ (fun (k : {k : Nat // k ≤ lim + 1 ∧ p5 h lim k}) => live [(2, Ty.pp [Ty.int .i64 (lim : Nat)]), (3, Ty.pp [Ty.nd th h1 h2]), (10, Ty.int .i64 ((lim : Int) + 1)), (11, Ty.int .i64 (k.1 : Nat))] []) (fun k => lim + 1 - k.1) (⟨0, by omega, Es⟩) ?_ fun k => ?_
 ·(refine dG.mk' ?_ ?_ <;> (repeat' (first | exact aJ | exact aI | refine aB ?_ (Ty.aX _) | refine aB ?_ (Ty.aF _))))
 have hk := k.2.1
 refine aE (aA (bC rfl rfl rfl (aD (aC (aE ?_)))))
 refine av rfl (fun hc1 => ?_) (fun hc1 => ?_)
 ·
  refine ak (aC (aE (au (aE (aA (bR rfl ?_))))))
  refine bw rfl (by exact List.cons_ne_nil _ _) rfl ?_
  refine cq rfl rfl (by decide) rfl rfl (by exact (rfl : _ = Ty.int _ _)) rfl (by exact Nat.le_of_ble_eq_true rfl) rfl rfl (by exact (rfl : _ = [_])) ?_
  refine aD (aC (aE ?_))
  refine lR (tg := 7) [(6, Ty.pp [Ty.int .i64 (k.1 : Nat)])] (by decide) rfl ⟨l6 (T := 3) (off := 0) (l := [Ty.int .i64 (k.1 : Nat)]) rfl rfl rfl (by decide), trivial⟩ ?_
  refine aA ?_
  refine bw rfl (by exact List.cons_ne_nil _ _) rfl ?_
  refine aD (aC (aE (aA ?_)))
  refine bw rfl (by exact List.cons_ne_nil _ _) rfl ?_
  refine aD (aC (aE (aA (dR rfl ?_))))
  refine cq rfl rfl (by decide) rfl rfl (by exact (rfl : _ = Ty.jf _ _)) rfl (by exact Nat.le_of_ble_eq_true rfl) rfl rfl (by exact (rfl : _ = [_])) ?_
  refine aD (aC (aE ?_))
  refine gI (tg := 8) rfl (Cont.dM (l' := [Ty.sl c7 ([] : List Int)]) ⟨Ty.vh, trivial⟩) ?_
  refine aA ?_
  refine aU rfl rfl (by decide) rfl rfl rfl ?_
  refine z4 [(8, 1000), (9, 1001)] [] [(8, Cont.cells 28 [Ty.sl c7 (tM h k.1 lim [] 0 []).2]), (9, Cont.cells 122 [Ty.jf 171 [Ty.pp [Ty.int .i64 (k.1 : Nat)], Ty.ptr 8 0, Ty.pp [Ty.nd th h1 h2], Ty.pp [Ty.int .i64 (lim : Nat)], Ty.ptr 9 0]])] rfl (J3 th h1 h2 h hf k.1 lim (by omega) (by omega) (lim + 1) [] 0 [] (by omega) (Nat.zero_le _) (by omega)) rfl rfl (aH (aH (aH (aH (aH (aH (aH bH (dx (by decide))) (aR rfl rfl)) (aR rfl rfl)) (dx (by decide))) (aR rfl rfl)) (aR rfl rfl)) o7) (cC (a := 8) (b := 1000) (by decide) rfl (iR (by decide) (aH bH (aR rfl rfl))) (cC (a := 9) (b := 1001) (by decide) rfl (iR (by decide) (pF (by decide) (by decide))) pre_nil)) (bI (a := 8) (b := 1000) (by decide) rfl (iR (by decide) (aH bH (aR rfl rfl))) (bI (a := 9) (b := 1001) (by decide) rfl (iR (by decide) (aH bH (tE (aH (aH (aH (aH (aH bH (dx (by decide))) (aR rfl rfl)) (aR rfl rfl)) (dx (by decide))) (aR rfl rfl))))) post_nil)) (aR rfl rfl) ?_
  refine aD (aC ?_)
  refine cr rfl (fun hc2 => ?_) (fun hc2 => ?_)
  ·
   refine aE (aA ?_)
   refine aU rfl rfl (by decide) rfl rfl rfl ?_
   refine wq rfl (dr rfl (aD (aC (az (bJ (aV (aV (bJ (aV ?_)))))))))
   refine fU rfl rfl rfl ?_ ?_
   all_goals skip
   all_goals first | exact bE rfl rfl (congrArg Ty.bool (GG k.2.2 (by omega) hc2).1) | exact bE rfl rfl (congrArg (Ty.sl c7) (GG k.2.2 (by omega) hc2).2)
  refine ak (bf (aC (aA ?_)))
  refine cD rfl rfl (by omega) (by omega) ?_
  refine bR rfl (aD ?_)
  refine bp (⟨k.1 + 1, by omega, EN k.2.2 hc2⟩) ?_ (by show lim + 1 - (k.1 + 1) < lim + 1 - k.1; omega)
  (refine dG.mk' ?_ ?_ <;> (repeat' (first | exact aJ | exact aI | refine aB ?_ (Ty.aX _) | refine aB ?_ (Ty.aF _))))
  all_goals skip
 refine cg (aT (aT (bA rfl (aC (aE (aA (l9 rfl (dr rfl (aD ?_)))))))))
 refine aC (az ?_)
 refine fU rfl rfl rfl ?_ ?_
 all_goals skip
 all_goals first | exact bE rfl rfl (congrArg Ty.bool (JR k.2.2 k.2.1 hc1).1) | exact gA (JR k.2.2 k.2.1 hc1).2.symm
end Go.Proofs.YtelbollidfdcjaaGreat
namespace Go.Proofs.YtelbollidfdcjaaGreat
open Go Go.T
set_option maxHeartbeats 16000000
theorem CF {P : Program} {t : Ty} {h1 : t.deps = []} {h2 : t.cdeps = []} {args : List Ty} {res : Ty} (h : nv P t args res) : nv P (Ty.nd t h1 h2) args res := h
noncomputable def kM (y : aq) : Int := if bU y = 0 then (if Ex (fun l => !eZ y (cT l false)) y.levels.length = true then 0 else 6) else bU y
noncomputable def mD (y : aq) : List Int := if kM y = 0 then DG (fun l => !eZ y (cT l false)) y.levels.length else []
theorem Df {y : aq} (h : ¬ bU y = 0) : bU y = kM y ∧ [] = mD y := by
 have e : bU y = kM y := (if_neg h).symm
 exact ⟨e, by unfold mD; rw [← e, if_neg h]⟩
theorem Cy {y : aq} (h : bU y = 0) (h2 : (!Ex (fun l => !eZ y (cT l false)) y.levels.length) = true) : 6 = kM y ∧ [] = mD y := by
 have e : 6 = kM y := by unfold kM; rw [if_pos h, if_neg (by rw [qE h2]; decide)]
 exact ⟨e, by unfold mD; rw [← e, if_neg (by decide)]⟩
theorem zH {y : aq} (h : bU y = 0) (h2 : (!Ex (fun l => !eZ y (cT l false)) y.levels.length) = false) : 0 = kM y ∧ DG (fun l => !eZ y (cT l false)) y.levels.length = mD y := by
 have e : 0 = kM y := by unfold kM; rw [if_pos h, if_pos (ff h2)]
 exact ⟨e, by unfold mD; rw [← e, if_pos rfl]⟩
noncomputable def kP (y : aq) : Int := if bU y = 0 then (if Ex (fun l => eZ y (cT l true)) y.levels.length = true then 0 else 7) else bU y
noncomputable def mF (y : aq) : List Int := if kP y = 0 then DG (fun l => eZ y (cT l true)) y.levels.length else []
theorem Cs {y : aq} (h : ¬ bU y = 0) : bU y = kP y ∧ [] = mF y := by
 have e : bU y = kP y := (if_neg h).symm
 exact ⟨e, by unfold mF; rw [← e, if_neg h]⟩
theorem C3 {y : aq} (h : bU y = 0) (h2 : (!Ex (fun l => eZ y (cT l true)) y.levels.length) = true) : 7 = kP y ∧ [] = mF y := by
 have e : 7 = kP y := by unfold kP; rw [if_pos h, if_neg (by rw [qE h2]; decide)]
 exact ⟨e, by unfold mF; rw [← e, if_neg (by decide)]⟩
theorem zV {y : aq} (h : bU y = 0) (h2 : (!Ex (fun l => eZ y (cT l true)) y.levels.length) = false) : 0 = kP y ∧ DG (fun l => eZ y (cT l true)) y.levels.length = mF y := by
 have e : 0 = kP y := by unfold kP; rw [if_pos h, if_pos (ff h2)]
 exact ⟨e, by unfold mF; rw [← e, if_pos rfl]⟩
attribute [local irreducible] aS gY Way.gi Way.fin Way.room eS eA ep gR over bQ cN dc eT jP e9 gj j4 cS gH fX fW cz cK gS om iO iW ia gU z8 yB hU aq.kept aq.cells bU eI bZ gD kH cH oa pq jc dZ j9 gC hasB sN rD qJ gb oO j8 m8 kK we gN jS FZ D3 rT eZ cT iA tM mI Ex DG lQ
attribute [local irreducible] iP fT nJ qo jJ jK jE jM jG qi jI qn eG gx qg gm qj nth fM dm aj dz bodyPost Exit.then Exit.inBlock Code.wp Code.wpIn qm jL ql qd jH eJ cV cm bodyPostM eN
set_option maxRecDepth 100000 in
theorem Gd (y : aq) (hr : y.cx) (l : List Int) : dz Tryz.prog 114 [Ty.sl c7 l, Ty.pp (bO y)] (Ty.bool ((fun l => !eZ y (cT l false)) l)) := by
 refine bB Tryz.func114 rfl (by decide) Tryz.ntmps114 (by exact Nat.le_of_ble_eq_true rfl) fun w0 M0 => ?_
 refine aE (aA (dr rfl (aD (aC (aE (aA ?_))))))
 refine aZ rfl rfl rfl (by exact Nat.le_of_ble_eq_true rfl) ?_
 refine fK rfl (ah (Bi y hr l false) rfl rfl rfl rfl rfl (dh rfl (dr rfl (aD (aC (az (bq rfl rfl ?_)))))))
 all_goals exact cP rfl rfl
 all_goals trace_state
set_option maxRecDepth 100000 in
theorem IE (y : aq) (hs : y.Small) : dz Tryz.prog 44 [fE y] (Ty.jR [Ty.sl c7 (mD y), Ty.int .i64 (kM y)]) := by
 refine bB Tryz.func44 rfl (by decide) Tryz.ntmps44 (by exact Nat.le_of_ble_eq_true rfl) fun w0 M0 => ?_
 refine aE (aA (bN rfl (l9 rfl (cE rfl (aD (aC (aE (aE (aA ?_)))))))))
 refine aZ rfl rfl rfl (by exact Nat.le_of_ble_eq_true rfl) ?_
 refine ah (jV y hs) rfl rfl rfl rfl rfl (cE rfl (aD (aC (aE (aA (bR rfl (bC rfl rfl rfl (aD (aC ?_)))))))))
 refine dI rfl (fun hc1 => ?_) (fun hc1 => ?_)
 ·
  refine aE (aA (bR rfl (l9 rfl (cE rfl (aD (aC (az (aV ?_))))))))
  refine fU rfl rfl rfl ?_ ?_
  all_goals skip
  all_goals first | exact gA (Df hc1).2.symm | exact bE rfl rfl (congrArg (Ty.int .i64) (Df hc1).1)
 refine ak (aC (aE ?_))
 have hck : bU y = 0 := hc1
 have hr := cR hck
 have h8 := hr.levels
 refine aA ?_
 refine aQ rfl rfl rfl rfl rfl (by decide) ?_
 refine aN rfl rfl rfl rfl (ct rfl rfl rfl (dR rfl ?_))
 refine ah (uo (Ty.jf 114 [Ty.pp (bO y)]) rfl rfl rfl (fun l => !eZ y (cT l false)) (fun l => CF (dX (Gd y hr l) rfl rfl rfl rfl rfl rfl)) y.levels.length (by omega)) rfl rfl rfl rfl rfl ?_
 refine ny rfl (bD rfl rfl (bD rfl rfl (wq rfl (dr rfl (aD (aC (aE (aE (aA ?_)))))))))
 refine fu rfl (dh rfl (aD (aC ?_)))
 refine cr rfl (fun hc2 => ?_) (fun hc2 => ?_)
 ·
  refine aE (aA (l9 rfl (cE rfl (aD (aC (az (aV ?_)))))))
  refine fU rfl rfl rfl ?_ ?_
  all_goals skip
  all_goals first | exact gA (Cy hck hc2).2.symm | exact bE rfl rfl (congrArg (Ty.int .i64) (Cy hck hc2).1)
 refine ak (aC (aE (aA (fK rfl (wq rfl (cE rfl (aD (aC (az ?_)))))))))
 refine fU rfl rfl rfl ?_ ?_
 all_goals skip
 all_goals first | exact bE rfl rfl (congrArg (Ty.sl c7) (zH hck hc2).2) | exact bE rfl rfl (congrArg (Ty.int .i64) (zH hck hc2).1)
set_option maxRecDepth 100000 in
theorem GL (y : aq) (hr : y.cx) (l : List Int) : dz Tryz.prog 115 [Ty.sl c7 l, Ty.pp (bO y)] (Ty.bool ((fun l => eZ y (cT l true)) l)) := by
 refine bB Tryz.func115 rfl (by decide) Tryz.ntmps115 (by exact Nat.le_of_ble_eq_true rfl) fun w0 M0 => ?_
 refine aE (aA (dr rfl (aD (aC (aE (aA ?_))))))
 refine aZ rfl rfl rfl (by exact Nat.le_of_ble_eq_true rfl) ?_
 refine fK rfl (ah (Bi y hr l true) rfl rfl rfl rfl rfl (dr rfl (aD (aC (az (bq rfl rfl ?_))))))
 all_goals exact cP rfl rfl
 all_goals trace_state
set_option maxRecDepth 100000 in
theorem Ie (y : aq) (hs : y.Small) : dz Tryz.prog 45 [fE y] (Ty.jR [Ty.sl c7 (mF y), Ty.int .i64 (kP y)]) := by
 refine bB Tryz.func45 rfl (by decide) Tryz.ntmps45 (by exact Nat.le_of_ble_eq_true rfl) fun w0 M0 => ?_
 refine aE (aA (bN rfl (l9 rfl (cE rfl (aD (aC (aE (aE (aA ?_)))))))))
 refine aZ rfl rfl rfl (by exact Nat.le_of_ble_eq_true rfl) ?_
 refine ah (jV y hs) rfl rfl rfl rfl rfl (cE rfl (aD (aC (aE (aA (bR rfl (bC rfl rfl rfl (aD (aC ?_)))))))))
 refine dI rfl (fun hc1 => ?_) (fun hc1 => ?_)
 ·
  refine aE (aA (bR rfl (l9 rfl (cE rfl (aD (aC (az (aV ?_))))))))
  refine fU rfl rfl rfl ?_ ?_
  all_goals skip
  all_goals first | exact gA (Cs hc1).2.symm | exact bE rfl rfl (congrArg (Ty.int .i64) (Cs hc1).1)
 refine ak (aC (aE ?_))
 have hck : bU y = 0 := hc1
 have hr := cR hck
 have h8 := hr.levels
 refine aA ?_
 refine aQ rfl rfl rfl rfl rfl (by decide) ?_
 refine aN rfl rfl rfl rfl (ct rfl rfl rfl (dR rfl ?_))
 refine ah (uo (Ty.jf 115 [Ty.pp (bO y)]) rfl rfl rfl (fun l => eZ y (cT l true)) (fun l => CF (dX (GL y hr l) rfl rfl rfl rfl rfl rfl)) y.levels.length (by omega)) rfl rfl rfl rfl rfl ?_
 refine ny rfl (bD rfl rfl (bD rfl rfl (wq rfl (dr rfl (aD (aC (aE (aE (aA ?_)))))))))
 refine fu rfl (dh rfl (aD (aC ?_)))
 refine cr rfl (fun hc2 => ?_) (fun hc2 => ?_)
 ·
  refine aE (aA (l9 rfl (cE rfl (aD (aC (az (aV ?_)))))))
  refine fU rfl rfl rfl ?_ ?_
  all_goals skip
  all_goals first | exact gA (C3 hck hc2).2.symm | exact bE rfl rfl (congrArg (Ty.int .i64) (C3 hck hc2).1)
 refine ak (aC (aE (aA (fK rfl (wq rfl (cE rfl (aD (aC (az ?_)))))))))
 refine fU rfl rfl rfl ?_ ?_
 all_goals skip
 all_goals first | exact bE rfl rfl (congrArg (Ty.sl c7) (zV hck hc2).2) | exact bE rfl rfl (congrArg (Ty.int .i64) (zV hck hc2).1)
end Go.Proofs.YtelbollidfdcjaaGreat
namespace Go.Proofs.YtelbollidfdcjaaGreat
open Go Go.T
def two (k : Nat) : aq := ⟨2, [⟨100, ⟨20, 30⟩⟩, ⟨50, ⟨0, 0⟩⟩], [⟨0, -1, 0, ⟨40, 60⟩⟩, ⟨1, 0, 1, ⟨10, 40⟩⟩, ⟨1, 1, -1, ⟨5, 10⟩⟩], ([⟨2, 1, ⟨20, 25⟩⟩, ⟨2, 0, ⟨10, 24⟩⟩] : List Level).take k⟩
def wm (p q u v w : Int) : eV := ⟨[p, q], [u, v, w]⟩
section
variable {k : Nat} {c : Nat → Bool} {a : eV} {p q u v w : Int}
theorem nK (h : k ≤ 2) : bU (two k) = 0 := by
 have : k = 0 ∨ k = 1 ∨ k = 2 := by omega
 rcases this with rfl | rfl | rfl <;> decide
theorem xP (h : k ≤ 2) : (two k).cx := cR (nK h)
theorem B6 (h : y4 (two k) a) : ∃ p q u v w, a = wm p q u v w := by
  obtain ⟨f, m⟩ := a
  have h1 : f.length = 2 := h.first
  have h2 : m.length = 3 := h.cA
  match f, m, h1, h2 with
  | [p, q], [u, v, w], _, _ => exact ⟨p, q, u, v, w, rfl⟩
theorem mH : dK (two k) (wm p q u v w) 0 0 = p := by simp [dK, c9, uI, ind, nth, two, wm]
theorem mK : dK (two k) (wm p q u v w) 0 1 = p + u := by simp [dK, c9, uI, ind, nth, two, wm]
theorem kJ : dK (two k) (wm p q u v w) 0 2 = p + u - v := by simp [dK, c9, uI, ind, nth, two, wm]; omega
theorem yf : dK (two k) (wm p q u v w) 1 0 = q := by simp [dK, c9, uI, ind, nth, two, wm]
theorem y7 : dK (two k) (wm p q u v w) 1 1 = q := by simp [dK, c9, uI, ind, nth, two, wm]
theorem sG : dK (two k) (wm p q u v w) 1 2 = q + v - w := by simp [dK, c9, uI, ind, nth, two, wm]; omega
structure Iq (k : Nat) (c : Nat → Bool) (p q u v w : Int) : Prop where
  hp : 20 ≤ p ∧ p ≤ 30
  hq : q = 0
  hu : 40 ≤ u ∧ u ≤ 60
  hv : 10 ≤ v ∧ v ≤ 40
  hw : 5 ≤ w ∧ w ≤ 10
  l0 : 0 < k → c 0 = true → 20 ≤ v - w ∧ v - w ≤ 25
  l1 : 1 < k → c 1 = true → 10 ≤ p + u - v ∧ p + u - v ≤ 24
theorem kB (hk : k ≤ 2) : eR (two k) c (wm p q u v w) ↔ Iq k c p q u v w := by
 constructor
 ·intro h
  have f0 := h.first 0 (Nat.zero_lt_succ _)
  have f1 := h.first 1 (show 1 < 2 by decide)
  have m0 := h.cA 0 (Nat.zero_lt_succ _)
  have m1 := h.cA 1 (show 1 < 3 by decide)
  have m2 := h.cA 2 (show 2 < 3 by decide)
  have hq : (0 : Int) ≤ q ∧ q ≤ 0 := f1
  refine ⟨f0, by omega, m0, m1, m2, fun h0 hc => ?_, fun h1 hc => ?_⟩
  ·have e : nth (two k).levels 0 = ⟨2, 1, ⟨20, 25⟩⟩ := by
    obtain ⟨j, rfl⟩ : ∃ j, k = j + 1 := ⟨k - 1, by omega⟩
    rfl
   have hl : 0 < (two k).levels.length := by
    obtain ⟨j, rfl⟩ : ∃ j, k = j + 1 := ⟨k - 1, by omega⟩
    show 0 < (List.take (j + 1) _).length
    rw [List.take_succ_cons, List.length_cons]; omega
   have := h.level 0 hl hc
   rw [e] at this
   have := this
   change 20 ≤ dK _ _ 1 2 ∧ dK _ _ 1 2 ≤ 25 at this
   rw [sG] at this
   omega
  obtain rfl : k = 2 := by omega
  have := h.level 1 (by decide) hc
  change 10 ≤ dK _ _ 0 2 ∧ dK _ _ 0 2 ≤ 24 at this
  rw [kJ] at this
  exact this
 intro ⟨hp, hq, hu, hv, hw, h0, h1⟩
 have hlen : (two k).levels.length = k := by
  show (List.take k _).length = k
  rw [List.length_take]; show min k 2 = k; omega
 refine ⟨⟨rfl, rfl⟩, fun b hb => ?_, fun b t hb ht => ?_, fun i hi => ?_, fun i hi hc => ?_⟩
 ·have hb : b < 2 := hb
  have : b = 0 ∨ b = 1 := by omega
  rcases this with rfl | rfl
  ·exact hp
  show 0 ≤ q ∧ q ≤ 0; omega
 ·have hb : b < 2 := hb
  have ht : t ≤ 2 := ht
  have e1 : b = 0 ∨ b = 1 := by omega
  have e2 : t = 0 ∨ t = 1 ∨ t = 2 := by omega
  rcases e1 with rfl | rfl <;> rcases e2 with rfl | rfl | rfl
  ·rw [mH]; show 0 ≤ p ∧ p ≤ 100; omega
  ·rw [mK]; show 0 ≤ p + u ∧ p + u ≤ 100; omega
  ·rw [kJ]; show 0 ≤ p + u - v ∧ p + u - v ≤ 100; omega
  ·rw [yf]; show 0 ≤ q ∧ q ≤ 50; omega
  ·rw [y7]; show 0 ≤ q ∧ q ≤ 50; omega
  rw [sG]; show 0 ≤ q + v - w ∧ q + v - w ≤ 50; omega
 ·have hi : i < 3 := hi
  have : i = 0 ∨ i = 1 ∨ i = 2 := by omega
  rcases this with rfl | rfl | rfl
  ·exact hu
  ·exact hv
  exact hw
 rw [hlen] at hi
 have : i = 0 ∨ i = 1 := by omega
 rcases this with rfl | rfl
 ·have h := h0 hi hc
  have e : nth (two k).levels 0 = ⟨2, 1, ⟨20, 25⟩⟩ := by
   obtain ⟨j, rfl⟩ : ∃ j, k = j + 1 := ⟨k - 1, by omega⟩
   rfl
  rw [e]
  change 20 ≤ dK _ _ 1 2 ∧ dK _ _ 1 2 ≤ 25
  rw [sG]; omega
 obtain rfl : k = 2 := by omega
 have h := h1 (by omega) hc
 change 10 ≤ dK _ _ 0 2 ∧ dK _ _ 0 2 ≤ 24
 rw [kJ]; exact h
theorem j0 (hk : k ≤ 2) {f : eV → Int} {s : Span} (p0 q0 u0 v0 w0 p1 q1 u1 v1 w1 : Int) (h0 : Iq k c p0 q0 u0 v0 w0) (e0 : f (wm p0 q0 u0 v0 w0) = s.lo) (h1 : Iq k c p1 q1 u1 v1 w1) (e1 : f (wm p1 q1 u1 v1 w1) = s.hi)
 (h : ∀ p q u v w, Iq k c p q u v w → s.lo ≤ f (wm p q u v w) ∧ f (wm p q u v w) ≤ s.hi) : wo (two k) c f s :=
 ⟨⟨_, (kB hk).2 h0, e0⟩, ⟨_, (kB hk).2 h1, e1⟩, fun a ha => by
  obtain ⟨p, q, u, v, w, rfl⟩ := B6 ha.lens
  exact h p q u v w ((kB hk).1 ha)⟩
end
end Go.Proofs.YtelbollidfdcjaaGreat
namespace Go.Proofs.YtelbollidfdcjaaGreat
open Go Go.T
section
variable {y : aq} {c : Nat → Bool} {a : eV} {b t k : Nat} {s : Span}
theorem vX (h0 : bU y = 0) (h : ∃ a, eR y (nth bZ) a) : cH y = 0 := (open_3 h0 ((nD (cR h0)).2 h)).symm
theorem F9 (h0 : bU y = 0) (h : ¬ ∃ a, eR y (nth bZ) a) : cH y = 7 := by
  cases e : (cS (aS y (nth bZ)) (y.cells + 1) (gY (aS y (nth bZ)))).2.1 with
  | true => exact (vk h0 e).symm
  | false => exact absurd ((nD (cR h0)).1 e) h
theorem so (h : cH y = 0) : ∃ a, eR y (nth bZ) a := (nD (cR (dD h))).1 (zB h)
theorem x8 (hr : y.cx) {l : List Bool} : eZ y l = true ↔ ∃ a, eR y (nth l) a := by
 unfold eZ
 rw [Bool.not_eq_true', nD hr]
theorem nS (ho : cH y = 0) (hb : b < y.bins.length) (ht : t ≤ y.D) : wo y (nth bZ) (fun a => dK y a b t) (gU (aS y (nth bZ)) (y.cells + 1) (hasB y b t)) :=
 wI (cR (dD ho)) (fun x hx => IC (cR (dD ho)) hb ht hx) (so ho)
theorem uk (ho : cH y = 0) (ht : t ≤ y.D) : wo y (nth bZ) (fun a => c9 (fun b => dK y a b t) y.bins.length) (gU (aS y (nth bZ)) (y.cells + 1) (oO y t)) :=
 wI (cR (dD ho)) (fun x hx => Ea (cR (dD ho)) ht hx) (so ho)
theorem H6 (ho : cH y = 0) (hk : k < y.moves.length) : wo y (nth bZ) (fun a => nth a.cA k) (gU (aS y (nth bZ)) (y.cells + 1) (sN (y.bins.length * (y.D + 1) + k))) :=
 wI (cR (dD ho)) (fun x hx => HS hk) (so ho)
theorem zY (h0 : bU y = 0) (hb : b < y.bins.length) : eI y (b : Int) = 0 := by
 unfold eI
 rw [if_pos h0, if_pos (by unfold aq.bin; rw [iD]; omega)]
theorem ou (ho : cH y = 0) (hb : b < y.bins.length) : jc y (b : Int) = 0 := (yc (zY (dD ho) hb) ho).1.symm
theorem uh (ho : cH y = 0) (hb : b < y.bins.length) : dZ y (b : Int) = (List.range (y.D + 1)).map fun t => gU (aS y (nth bZ)) (y.cells + 1) (hasB y b t) := (yc (zY (dD ho) hb) ho).2.symm
theorem zK (ho : cH y = 0) : gb y = (List.range (y.D + 1)).map fun t => gU (aS y (nth bZ)) (y.cells + 1) (oO y t) := (Az ho).symm
theorem kG (ho : cH y = 0) (hb : b < y.bins.length) : (dZ y (b : Int)).length = y.D + 1 := by rw [uh ho hb, List.length_map, List.length_range]
theorem kD (ho : cH y = 0) (hb : b < y.bins.length) (ht : t ≤ y.D) : wo y (nth bZ) (fun a => dK y a b t) (nth (dZ y (b : Int)) t) := by
 rw [uh ho hb, jq _ (by omega)]; exact nS ho hb ht
theorem mj (ho : cH y = 0) : (gb y).length = y.D + 1 := by rw [zK ho, List.length_map, List.length_range]
theorem rN (ho : cH y = 0) (ht : t ≤ y.D) : wo y (nth bZ) (fun a => c9 (fun b => dK y a b t) y.bins.length) (nth (gb y) t) := by
 rw [zK ho, jq _ (by omega)]; exact uk ho ht
theorem yW (ho : cH y = 0) (hk : k < y.moves.length) : j9 y (k : Int) = 0 := (C8 (dD ho) (by rw [Bool.not_eq_false', Bool.and_eq_true, decide_eq_true_eq, decide_eq_true_eq]; omega) ho).1.symm
theorem oJ (ho : cH y = 0) (hk : k < y.moves.length) : wo y (nth bZ) (fun a => nth a.cA k) (gC y (k : Int)) := by
 rw [← (C8 (dD ho) (by rw [Bool.not_eq_false', Bool.and_eq_true, decide_eq_true_eq, decide_eq_true_eq]; omega) ho).2]
 exact H6 ho hk
end
theorem GC {α : Type} {a b c x y z : α} (h1 : a = x) (h2 : b = y) (h3 : c = z) : [a, b, c] = [x, y, z] := by subst h1; subst h2; subst h3; rfl
theorem kC {k : Nat} (hk : k ≤ 1) : cH (two k) = 0 :=
 vX (nK (by omega)) ⟨wm 20 0 40 25 5, (kB (by omega)).2 ⟨by omega, rfl, by omega, by omega, by omega, fun _ _ => by omega, fun _ _ => by omega⟩⟩
theorem LY : jc (two 0) 0 = 0 := ou (b := 0) (kC (by omega)) (by decide)
theorem IJ : dZ (two 0) 0 = [⟨20, 30⟩, ⟨60, 90⟩, ⟨20, 80⟩] := by
 have ho := kC (k := 0) (by omega)
 have e := uh (b := 0) ho (by decide)
 have h0 := (nS (b := 0) (t := 0) ho (by decide) (by decide)).one (j0 (s := ⟨20, 30⟩) (by omega) 20 0 40 10 5 30 0 40 10 5 (by constructor <;> intros <;> omega) mH (by constructor <;> intros <;> omega) mH fun p q u v w h => by rw [mH]; exact h.hp)
 have h1 := (nS (b := 0) (t := 1) ho (by decide) (by decide)).one (j0 (s := ⟨60, 90⟩) (by omega) 20 0 40 10 5 30 0 60 10 5 (by constructor <;> intros <;> omega) mK (by constructor <;> intros <;> omega) mK fun p q u v w h => by rw [mK]; have := h.hp; have := h.hu; show 60 ≤ p + u ∧ p + u ≤ 90; omega)
 have h2 := (nS (b := 0) (t := 2) ho (by decide) (by decide)).one (j0 (s := ⟨20, 80⟩) (by omega) 20 0 40 40 5 30 0 60 10 5 (by constructor <;> intros <;> omega) kJ (by constructor <;> intros <;> omega) kJ fun p q u v w h => by rw [kJ]; have := h.hp; have := h.hu; have := h.hv; show 20 ≤ p + u - v ∧ p + u - v ≤ 80; omega)
 show dZ (two 0) ((0 : Nat) : Int) = _
 rw [e]
 exact GC h0 h1 h2
theorem C1 : dZ (two 1) 0 = [⟨20, 30⟩, ⟨60, 90⟩, ⟨25, 65⟩] := by
 have ho := kC (k := 1) (by omega)
 have e := uh (b := 0) ho (by decide)
 have h0 := (nS (b := 0) (t := 0) ho (by decide) (by decide)).one (j0 (s := ⟨20, 30⟩) (by omega) 20 0 40 25 5 30 0 40 25 5 (by constructor <;> intros <;> omega) mH (by constructor <;> intros <;> omega) mH fun p q u v w h => by rw [mH]; exact h.hp)
 have h1 := (nS (b := 0) (t := 1) ho (by decide) (by decide)).one (j0 (s := ⟨60, 90⟩) (by omega) 20 0 40 25 5 30 0 60 25 5 (by constructor <;> intros <;> omega) mK (by constructor <;> intros <;> omega) mK fun p q u v w h => by rw [mK]; have := h.hp; have := h.hu; show 60 ≤ p + u ∧ p + u ≤ 90; omega)
 have h2 := (nS (b := 0) (t := 2) ho (by decide) (by decide)).one (j0 (s := ⟨25, 65⟩) (by omega) 20 0 40 35 10 30 0 60 25 5 (by constructor <;> intros <;> omega) kJ (by constructor <;> intros <;> omega) kJ fun p q u v w h => by rw [kJ]; have := h.hp; have := h.hu; have := h.hw; have := h.l0 (by omega) rfl; show 25 ≤ p + u - v ∧ p + u - v ≤ 65; omega)
 show dZ (two 1) ((0 : Nat) : Int) = _
 rw [e]
 exact GC h0 h1 h2
theorem kY {k : Nat} {a : eV} {t : Nat} : c9 (fun b => dK (two k) a b t) (two k).bins.length = dK (two k) a 0 t + dK (two k) a 1 t := by
 show (0 + dK (two k) a 0 t) + dK (two k) a 1 t = _; rw [Int.zero_add]
theorem KH : gb (two 0) = [⟨20, 30⟩, ⟨60, 90⟩, ⟨50, 85⟩] := by
 have ho := kC (k := 0) (by omega)
 have e := zK ho
 have h0 := (uk (t := 0) ho (by decide)).one (j0 (s := ⟨20, 30⟩) (by omega) 20 0 40 10 5 30 0 40 10 5 (by constructor <;> intros <;> omega) (by rw [kY, mH, yf]; rfl) (by constructor <;> intros <;> omega) (by rw [kY, mH, yf]; rfl) fun p q u v w h => by rw [kY, mH, yf]; have := h.hp; have := h.hq; show 20 ≤ p + q ∧ p + q ≤ 30; omega)
 have h1 := (uk (t := 1) ho (by decide)).one (j0 (s := ⟨60, 90⟩) (by omega) 20 0 40 10 5 30 0 60 10 5 (by constructor <;> intros <;> omega) (by rw [kY, mK, y7]; rfl) (by constructor <;> intros <;> omega) (by rw [kY, mK, y7]; rfl) fun p q u v w h => by rw [kY, mK, y7]; have := h.hp; have := h.hq; have := h.hu; show 60 ≤ p + u + q ∧ p + u + q ≤ 90; omega)
 have h2 := (uk (t := 2) ho (by decide)).one (j0 (s := ⟨50, 85⟩) (by omega) 20 0 40 10 10 30 0 60 10 5 (by constructor <;> intros <;> omega) (by rw [kY, kJ, sG]; rfl) (by constructor <;> intros <;> omega) (by rw [kY, kJ, sG]; rfl) fun p q u v w h => by rw [kY, kJ, sG]; have := h.hp; have := h.hq; have := h.hu; have := h.hw; show 50 ≤ p + u - v + (q + v - w) ∧ p + u - v + (q + v - w) ≤ 85; omega)
 rw [e]
 exact GC h0 h1 h2
theorem L5 : j9 (two 1) 1 = 0 := yW (k := 1) (kC (by omega)) (by decide)
theorem KE : gC (two 1) 1 = ⟨25, 35⟩ :=
 (oJ (k := 1) (kC (k := 1) (by omega)) (by decide)).one (j0 (s := ⟨25, 35⟩) (by omega) 20 0 40 25 5 20 0 40 35 10 (by constructor <;> intros <;> omega) rfl (by constructor <;> intros <;> omega) rfl fun p q u v w h => by have := h.hw; have := h.l0 (by omega) rfl; show 25 ≤ v ∧ v ≤ 35; omega)
theorem JV : 0 = j8 (two 1) 0 60 (fun x => decide (x.lo ≥ 60)) ∧ fidx (fun x : Span => decide (x.lo ≥ 60)) (dZ (two 1) 0) = m8 (two 1) 0 60 (fun x => decide (x.lo ≥ 60)) :=
 GN (zY (b := 0) (nK (by omega)) (by decide)) rfl (ou (b := 0) (kC (by omega)) (by decide)) (by rw [C1]; decide)
theorem Ke : m8 (two 1) 0 60 (fun x => decide (x.lo ≥ 60)) = 1 := by rw [← JV.2, C1]; rfl
def v9 : Cl := ⟨[⟨0, 0⟩, ⟨0, 1⟩, ⟨1, 1⟩], false⟩
theorem DT : jS (two 2) (aS (two 2) (nth bZ)) v9 = 1 := by kernel_rfl
theorem LQ : 0 = mo (two 2) v9 ∧ jS (two 2) (aS (two 2) (nth bZ)) v9 = sF (two 2) v9 :=
 HC (nK (by omega)) (by decide) (fun i hi => by
  have hi : i + 1 < 3 := hi
  have : i = 0 ∨ i = 1 := by omega
  rcases this with rfl | rfl <;> decide) (by rw [DT]; decide)
theorem Jr : sF (two 2) v9 = 1 := by rw [← LQ.2, DT]
theorem Fa : ¬ ∃ a, eR (two 2) (nth bZ) a := by
 rintro ⟨a, ha⟩
 obtain ⟨p, q, u, v, w, rfl⟩ := B6 ha.lens
 have h := (kB (by omega)).1 ha
 have h0 := h.l0 (by omega) rfl
 have h1 := h.l1 (by omega) rfl
 have := h.hp; have := h.hu; have := h.hw
 omega
theorem IA : cH (two 2) = 7 := F9 (nK (by omega)) Fa
theorem uP {l : List Bool} (h : nth l 0 = false ∨ nth l 1 = false) : eZ (two 2) l = true := by
  rw [x8 (xP (by omega))]
  cases h1 : nth l 1 with
  | false => exact ⟨wm 20 0 40 25 5, (kB (by omega)).2 ⟨by omega, rfl, by omega, by omega, by omega, fun _ _ => by omega, fun _ hc => by rw [h1] at hc; cases hc⟩⟩
  | true =>
    have h0 : nth l 0 = false := h.resolve_right (by rw [h1]; decide)
    exact ⟨wm 20 0 40 40 5, (kB (by omega)).2 ⟨by omega, rfl, by omega, by omega, by omega, fun _ hc => absurd hc (by rw [h0]; decide), fun _ _ => by omega⟩⟩
theorem E2 {l : List Bool} (h : nth l 0 = true ∧ nth l 1 = true) : eZ (two 2) l = false := by
 rw [Bool.eq_false_iff]
 intro hc
 obtain ⟨a, ha⟩ := (x8 (xP (by omega))).1 hc
 obtain ⟨p, q, u, v, w, rfl⟩ := B6 ha.lens
 have hh := (kB (by omega)).1 ha
 have h0 := hh.l0 (by omega) h.1
 have h1 := hh.l1 (by omega) h.2
 have := hh.hp; have := hh.hu; have := hh.hw
 omega
theorem xC (h : List Int → Bool) : lQ h 2 = [[], [0], [1], [0, 1]].find? h := rfl
theorem L9 : lQ (fun l => !eZ (two 2) (cT l false)) 2 = some [0, 1] := by
 rw [xC, List.find?_cons, uP (.inl rfl)]
 show List.find? _ [[0], [1], [0, 1]] = _
 rw [List.find?_cons, uP (.inr rfl)]
 show List.find? _ [[1], [0, 1]] = _
 rw [List.find?_cons, uP (.inl rfl)]
 show List.find? _ [[0, 1]] = _
 rw [List.find?_cons, E2 ⟨rfl, rfl⟩]; rfl
theorem LR : lQ (fun l => eZ (two 2) (cT l true)) 2 = some [0] := by
 rw [xC, List.find?_cons, E2 ⟨rfl, rfl⟩]
 show List.find? _ [[0], [1], [0, 1]] = _
 rw [List.find?_cons, uP (.inl rfl)]
theorem JO : 0 = kM (two 2) ∧ DG (fun l => !eZ (two 2) (cT l false)) 2 = mD (two 2) :=
 zH (nK (by omega)) (by show (!(lQ _ 2).isSome) = false; rw [L9]; rfl)
theorem JK : 0 = kP (two 2) ∧ DG (fun l => eZ (two 2) (cT l true)) 2 = mF (two 2) :=
 zV (nK (by omega)) (by show (!(lQ _ 2).isSome) = false; rw [LR]; rfl)
theorem E1 : mD (two 2) = [0, 1] := by rw [← JO.2]; unfold DG; rw [L9]; rfl
theorem F8 : mF (two 2) = [0] := by rw [← JK.2]; unfold DG; rw [LR]; rfl
end Go.Proofs.YtelbollidfdcjaaGreat
namespace Go.Proofs.YtelbollidfdcjaaGreat
open Go Go.T
section
variable {y : aq} {c : Nat → Bool} {a : eV} {m : List Int} {b t n : Nat} {x : Int}
theorem wo.same {f g : eV → Int} {s s' : Span} (h : wo y c f s) (h' : wo y c g s') (e : ∀ a, f a = g a) : s = s' := by
 have : f = g := funext e
 subst this; exact h.one h'
end
end Go.Proofs.YtelbollidfdcjaaGreat
namespace Go.Proofs.YtelbollidfdcjaaGreat
open Go Go.T
def MJ (m : Move) : Bool := !decide (m.src = -1) && !decide (m.dst = -1)
def MS (m : Move) : Move := { m with sacks := ⟨0, m.sacks.hi⟩ }
def KW (l : List Move) : List Move := (l.filter MJ).map MS
def MU (y : aq) (a : eV) : eV := ⟨a.first, List.replicate (KW y.moves).length 0⟩
section
variable {y : aq} {a : eV} {c : Nat → Bool}
theorem Ga (l : List Move) : (KW l).length ≤ l.length := by
 unfold KW; rw [List.length_map]; exact List.length_filter_le _ _
end
end Go.Proofs.YtelbollidfdcjaaGreat
namespace Go.Proofs.YtelbollidfdcjaaGreat
open Go Go.T
theorem Hg (a b : Span) : (decide (a.lo = b.lo) && decide (a.hi = b.hi)) = decide (a = b) := by
 cases a; cases b; rw [Bool.eq_iff_iff]; simp
end Go.Proofs.YtelbollidfdcjaaGreat
namespace Go.Proofs.YtelbollidfdcjaaGreat
open Go Go.T
set_option maxHeartbeats 2000000
attribute [local irreducible] iP fT nJ qo jJ jK jE jM jG qi jI qn eG gx qg gm qj nth fM dm aj dz bodyPost Exit.then Exit.inBlock Code.wp Code.wpIn qm jL ql qd jH eJ cV cm bodyPostM eN
set_option maxRecDepth 100000 in
theorem BS (a b : List Int) : dz Tryz.prog 116 [Ty.sl c7 a, Ty.sl c7 b] (Ty.bool (decide (a = b))) := by
 refine bB Tryz.func116 rfl (by decide) Tryz.ntmps116 (by exact Nat.le_of_ble_eq_true rfl) fun w0 M0 => ?_
 refine ji (s := 0) rfl rfl jm fun ha => ?_
 refine ji (s := 1) rfl rfl jm fun hb => ?_
 refine aE (aA (dr rfl (aD (aC (aE (aE (aA (fK rfl (ct rfl rfl rfl ?_)))))))))
 refine fK rfl (ct rfl rfl rfl (bC rfl rfl rfl (aD (aC ?_))))
 refine dI rfl (fun hc1 => ?_) (fun hc1 => ?_)
 ·
  try (simp only [Classical.not_not] at hc1)
  refine aE (aA (dr rfl (aD (aC (az (aV (bq rfl rfl ?_)))))))
  all_goals skip
  exact bE rfl rfl (congrArg Ty.bool (by rw [eq_comm, decide_eq_false_iff_not]; intro e; subst e; exact hc1 rfl))
 try (simp only [Classical.not_not] at hc1)
 refine ak (aC (aE (aE (aA (fK rfl (ct rfl rfl rfl (bR rfl (aD (aC ?_)))))))))
 refine au ?_
 refine cZ (fun (k : {k : Nat // a.take k = b.take k}) => live [(0, Ty.sl c7 a), (1, Ty.sl c7 b), (12, Ty.int .i64 a.length), (13, Ty.int .i64 (k.1 : Nat))] []) (fun k => a.length - k.1) (⟨0, by simp⟩) ?_ fun k => ?_
 ·(refine dG.mk' ?_ ?_ <;> (repeat' (first | exact aJ | exact aI | refine aB ?_ (Ty.aX _) | refine aB ?_ (Ty.aF _))))
 have hlen : a.length = b.length := by omega
 refine aE (aA (bC rfl rfl rfl (aD (aC (aE ?_)))))
 refine av rfl (fun hc2 => ?_) (fun hc2 => ?_)
 ·
  try (simp only [Classical.not_not] at hc2)
  refine ak (aC (aE (au (aE (aA (bR rfl (cE rfl (aD (aC ?_)))))))))
  refine aE (cQ mixed rfl (fK rfl (bR rfl ?_)))
  refine bK rfl rfl rfl rfl rfl rfl (by omega) ?_
  refine aN rfl rfl rfl rfl (fK rfl (bR rfl ?_))
  refine bK rfl rfl rfl rfl rfl rfl (by omega) ?_
  refine aN rfl rfl rfl rfl (bC rfl rfl rfl (aD ?_))
  refine ⟨by kernel_rfl, ?_⟩
  refine aC ?_
  refine dI rfl (fun hc3 => ?_) (fun hc3 => ?_)
  ·
   try (simp only [Classical.not_not] at hc3)
   refine aE (aA (dr rfl (aD (aC (az (bJ (aV (aV (bJ ?_)))))))))
   refine aV (bq rfl rfl ?_)
   all_goals skip
   exact bE rfl rfl (congrArg Ty.bool (by rw [eq_comm, decide_eq_false_iff_not]; exact xe (k := k.1) (hc3)))
  try (simp only [Classical.not_not] at hc3)
  refine ak (bf (aC (aA ?_)))
  refine cD rfl rfl (by omega) (by omega) ?_
  refine bR rfl (aD ?_)
  refine bp (⟨k.1 + 1, by rw [eB (by omega), eB (by omega), k.2, hc3]⟩) ?_ (by show a.length - (k.1 + 1) < a.length - k.1; omega)
  (refine dG.mk' ?_ ?_ <;> (repeat' (first | exact aJ | exact aI | refine aB ?_ (Ty.aX _) | refine aB ?_ (Ty.aF _))))
  all_goals skip
 try (simp only [Classical.not_not] at hc2)
 refine cg (aT (aT (bA rfl (aC (aE (aA (dr rfl (aD (aC ?_)))))))))
 refine az (bq rfl rfl ?_)
 all_goals skip
 exact bE rfl rfl (congrArg Ty.bool (by rw [eq_comm, decide_eq_true_eq]; have := k.2; rwa [List.take_of_length_le (by omega), List.take_of_length_le (by omega)] at this))
set_option maxRecDepth 100000 in
theorem AG (a b : List Int) : dz Tryz.prog 46 [Ty.sl c7 a, Ty.sl c7 b] (Ty.bool (decide (a = b))) := by
 refine bB Tryz.func46 rfl (by decide) Tryz.ntmps46 (by exact Nat.le_of_ble_eq_true rfl) fun w0 M0 => ?_
 refine aE (aA (dr rfl (aD (aC (aE (aA (fK rfl (fK rfl (ah (BS _ _) rfl rfl rfl rfl rfl ?_)))))))))
 refine dr rfl (aD (aC (az (bq rfl rfl ?_))))
 all_goals exact cP rfl rfl
set_option maxRecDepth 100000 in
theorem Ay (a b : List Span) : dz Tryz.prog 123 [Ty.sl dL a, Ty.sl dL b] (Ty.bool (decide (a = b))) := by
 refine bB Tryz.func123 rfl (by decide) Tryz.ntmps123 (by exact Nat.le_of_ble_eq_true rfl) fun w0 M0 => ?_
 refine ji (s := 0) rfl rfl jm fun ha => ?_
 refine ji (s := 1) rfl rfl jm fun hb => ?_
 refine aE (aA (dr rfl (aD (aC (aE (aE (aA (fK rfl (ct rfl rfl rfl ?_)))))))))
 refine fK rfl (ct rfl rfl rfl (bC rfl rfl rfl (aD (aC ?_))))
 refine dI rfl (fun hc1 => ?_) (fun hc1 => ?_)
 ·
  try (simp only [Classical.not_not] at hc1)
  refine aE (aA (dr rfl (aD (aC (az (aV (bq rfl rfl ?_)))))))
  all_goals skip
  exact bE rfl rfl (congrArg Ty.bool (by rw [eq_comm, decide_eq_false_iff_not]; intro e; subst e; exact hc1 rfl))
 try (simp only [Classical.not_not] at hc1)
 refine ak (aC (aE (aE (aA (fK rfl (ct rfl rfl rfl (bR rfl (aD (aC ?_)))))))))
 refine au ?_
 refine cZ (fun (k : {k : Nat // a.take k = b.take k}) => live [(0, Ty.sl dL a), (1, Ty.sl dL b), (12, Ty.int .i64 a.length), (13, Ty.int .i64 (k.1 : Nat))] []) (fun k => a.length - k.1) (⟨0, by simp⟩) ?_ fun k => ?_
 ·(refine dG.mk' ?_ ?_ <;> (repeat' (first | exact aJ | exact aI | refine aB ?_ (Ty.aX _) | refine aB ?_ (Ty.aF _))))
 have hlen : a.length = b.length := by omega
 refine aE (aA (bC rfl rfl rfl (aD (aC (aE ?_)))))
 refine av rfl (fun hc2 => ?_) (fun hc2 => ?_)
 ·
  try (simp only [Classical.not_not] at hc2)
  refine ak (aC (aE (au (aE (aA (bR rfl (cE rfl (aD (aC ?_)))))))))
  refine aE (cQ mixed rfl (fK rfl (bR rfl ?_)))
  refine bK rfl rfl rfl rfl rfl rfl (by omega) ?_
  refine aZ rfl rfl rfl (by exact Nat.le_of_ble_eq_true rfl) ?_
  refine fK rfl (bR rfl ?_)
  refine bK rfl rfl rfl rfl rfl rfl (by omega) ?_
  refine aZ rfl rfl rfl (by exact Nat.le_of_ble_eq_true rfl) ?_
  refine Dh (JY _ _ _ _) rfl rfl (aD ?_)
  refine ⟨by kernel_rfl, ?_⟩
  refine aC ?_
  refine cr rfl (fun hc3 => ?_) (fun hc3 => ?_)
  ·
   try (simp only [Classical.not_not] at hc3)
   refine aE (aA (dr rfl (aD (aC (az (bJ (aV (aV (bJ ?_)))))))))
   refine aV (bq rfl rfl ?_)
   all_goals skip
   exact bE rfl rfl (congrArg Ty.bool (by rw [eq_comm, decide_eq_false_iff_not]; exact xe (k := k.1) (of_decide_eq_false (by rw [← Hg]; exact qE hc3))))
  try (simp only [Classical.not_not] at hc3)
  refine ak (bf (aC (aA ?_)))
  refine cD rfl rfl (by omega) (by omega) ?_
  refine bR rfl (aD ?_)
  refine bp (⟨k.1 + 1, by have e : nth a k.1 = nth b k.1 := of_decide_eq_true (by rw [← Hg]; exact ff hc3); rw [eB (by omega), eB (by omega), k.2, e]⟩) ?_ (by show a.length - (k.1 + 1) < a.length - k.1; omega)
  (refine dG.mk' ?_ ?_ <;> (repeat' (first | exact aJ | exact aI | refine aB ?_ (Ty.aX _) | refine aB ?_ (Ty.aF _))))
  all_goals skip
 try (simp only [Classical.not_not] at hc2)
 refine cg (aT (aT (bA rfl (aC (aE (aA (dr rfl (aD (aC ?_)))))))))
 refine az (bq rfl rfl ?_)
 all_goals skip
 exact bE rfl rfl (congrArg Ty.bool (by rw [eq_comm, decide_eq_true_eq]; have := k.2; rwa [List.take_of_length_le (by omega), List.take_of_length_le (by omega)] at this))
set_option maxRecDepth 100000 in
theorem qx (a b : List Span) : dz Tryz.prog 50 [Ty.sl dL a, Ty.sl dL b] (Ty.bool (decide (a = b))) := by
 refine bB Tryz.func50 rfl (by decide) Tryz.ntmps50 (by exact Nat.le_of_ble_eq_true rfl) fun w0 M0 => ?_
 refine aE (aA (dr rfl (aD (aC (aE (aA (fK rfl (fK rfl (ah (Ay _ _) rfl rfl rfl rfl rfl ?_)))))))))
 refine dr rfl (aD (aC (az (bq rfl rfl ?_))))
 all_goals exact cP rfl rfl
end Go.Proofs.YtelbollidfdcjaaGreat
namespace Go.Proofs.YtelbollidfdcjaaGreat
open Go Go.T
set_option maxHeartbeats 4000000
theorem k9 {α : Type} {E : El α} {T tg : Nat} {xs : List α} (h : xs = []) : (Ty.ex (.slice none 0 0)).Sub (Ty.row E T tg xs) := by subst h; exact Ty.kX
theorem zU {A : As} {α : Type} {E : El α} {T tg : Nat} {xs ys : List α} (h : xs = ys) : tj A tg (Ty.row E T tg xs) (Ty.sl E ys) := by subst h; exact oy
theorem iy {k : Nat} (hk : k ≤ 2) : (two k).Small := ⟨by show 2 ≤ 1000; omega, by show 3 ≤ 1000; omega, by show (List.take k _).length ≤ 1000; rw [List.length_take]; show min k 2 ≤ 1000; omega⟩
attribute [local irreducible] dZ jc gb cH gC j9 m8 j8 sF mo mD kM mF kP tW bU
attribute [local irreducible] iP fT nJ qo jJ jK jE jM jG qi jI qn eG gx qg gm qj nth fM dm aj dz bodyPost Exit.then Exit.inBlock Code.wp Code.wpIn qm jL ql qd jH eJ cV cm bodyPostM eN
set_option maxRecDepth 100000 in
theorem iN (a b : Int) : dz Tryz.prog 56 [Ty.int .i64 a, Ty.int .i64 b] (Ty.agg (dL.tys ⟨a, b⟩)) := by
 refine bB Tryz.func56 rfl (by decide) Tryz.ntmps56 (by exact Nat.le_of_ble_eq_true rfl) fun w0 M0 => ?_
 refine aE (aA ?_)
 refine bw rfl (by exact List.cons_ne_nil _ _) rfl ?_
 refine aD (aC (aE (aA (bR rfl (bR rfl ?_)))))
 refine c6 rfl rfl (by exact List.cons_ne_nil _ _) rfl (by repeat (first | exact (aW.nil : aW _ _ [] _) | (show aW _ _ ((_, _) :: _) _; apply aW.one; (· exact (rfl : _ = Ty.int _ _)); (· exact rfl)))) (by exact (rfl : _ = some [_, _])) ?_
 refine bk rfl rfl (by decide) rfl rfl rfl rfl rfl rfl ?_
 refine aD (aC (az ?_))
 refine yg rfl rfl rfl rfl (by decide) rfl rfl rfl ?_
 all_goals exact bE rfl rfl rfl
set_option maxRecDepth 100000 in
theorem tZ (k : Nat) (hk : k ≤ 2) : dz Tryz.prog 93 [Ty.int .i64 ((k : Nat) : Int)] (fE (two k)) := by
 refine bB Tryz.func93 rfl (by decide) Tryz.ntmps93 (by exact Nat.le_of_ble_eq_true rfl) fun w0 M0 => ?_
 refine aE (aA ?_)
 refine bw rfl (by exact List.cons_ne_nil _ _) rfl ?_
 refine aD (aC (aE (aA (ah (iN _ _) rfl rfl rfl rfl rfl ?_))))
 refine c6 rfl rfl (by exact List.cons_ne_nil _ _) rfl (by repeat (first | exact (aW.nil : aW _ _ [] _) | (show aW _ _ ((_, _) :: _) _; apply aW.one; (· exact (rfl : _ = Ty.int _ _)); (· exact rfl)) | (show aW _ _ ((_, _) :: _) _; apply aW.agg; (· exact (rfl : _ = Ty.agg _))))) (by exact (rfl : _ = some [_, _, _, _])) ?_
 refine ah (iN _ _) rfl rfl rfl rfl rfl ?_
 refine c6 rfl rfl (by exact List.cons_ne_nil _ _) rfl (by repeat (first | exact (aW.nil : aW _ _ [] _) | (show aW _ _ ((_, _) :: _) _; apply aW.one; (· exact (rfl : _ = Ty.int _ _)); (· exact rfl)) | (show aW _ _ ((_, _) :: _) _; apply aW.agg; (· exact (rfl : _ = Ty.agg _))))) (by exact (rfl : _ = some [_, _, _, _])) ?_
 refine bt (E := dF) (xs := [⟨2, 1, ⟨20, 25⟩⟩, ⟨2, 0, ⟨10, 24⟩⟩]) rfl rfl rfl rfl rfl (by decide) (by decide) (by repeat (first | exact (aW.nil : aW _ _ [] _) | (show aW _ _ ((_, _) :: _) _; apply aW.agg; (· exact (rfl : _ = Ty.agg _))))) (by exact rfl) rfl ?_
 refine wq rfl (aD (aC (aE (cQ mixed rfl (ah (iN _ _) rfl rfl rfl rfl rfl ?_)))))
 refine c6 rfl rfl (by exact List.cons_ne_nil _ _) rfl (by repeat (first | exact (aW.nil : aW _ _ [] _) | (show aW _ _ ((_, _) :: _) _; apply aW.one; (· exact (rfl : _ = Ty.int _ _)); (· exact rfl)) | (show aW _ _ ((_, _) :: _) _; apply aW.agg; (· exact (rfl : _ = Ty.agg _))))) (by exact (rfl : _ = some [_, _, _])) ?_
 refine c6 rfl rfl (by exact List.cons_ne_nil _ _) rfl (by repeat (first | exact (aW.nil : aW _ _ [] _) | (show aW _ _ ((_, _) :: _) _; apply aW.one; (· exact (rfl : _ = Ty.int _ _)); (· exact rfl)))) (by exact (rfl : _ = some [_, _, _])) ?_
 refine bt (E := dY) (xs := [⟨100, ⟨20, 30⟩⟩, ⟨50, ⟨0, 0⟩⟩]) rfl rfl rfl rfl rfl (by decide) (by decide) (by repeat (first | exact (aW.nil : aW _ _ [] _) | (show aW _ _ ((_, _) :: _) _; apply aW.agg; (· exact (rfl : _ = Ty.agg _))))) (by exact rfl) rfl ?_
 refine ah (iN _ _) rfl rfl rfl rfl rfl ?_
 refine c6 rfl rfl (by exact List.cons_ne_nil _ _) rfl (by repeat (first | exact (aW.nil : aW _ _ [] _) | (show aW _ _ ((_, _) :: _) _; apply aW.one; (· exact (rfl : _ = Ty.int _ _)); (· exact rfl)) | (show aW _ _ ((_, _) :: _) _; apply aW.agg; (· exact (rfl : _ = Ty.agg _))))) (by exact rfl) ?_
 refine ah (iN _ _) rfl rfl rfl rfl rfl ?_
 refine c6 rfl rfl (by exact List.cons_ne_nil _ _) rfl (by repeat (first | exact (aW.nil : aW _ _ [] _) | (show aW _ _ ((_, _) :: _) _; apply aW.one; (· exact (rfl : _ = Ty.int _ _)); (· exact rfl)) | (show aW _ _ ((_, _) :: _) _; apply aW.agg; (· exact (rfl : _ = Ty.agg _))))) (by exact rfl) ?_
 refine ah (iN _ _) rfl rfl rfl rfl rfl ?_
 refine c6 rfl rfl (by exact List.cons_ne_nil _ _) rfl (by repeat (first | exact (aW.nil : aW _ _ [] _) | (show aW _ _ ((_, _) :: _) _; apply aW.one; (· exact (rfl : _ = Ty.int _ _)); (· exact rfl)) | (show aW _ _ ((_, _) :: _) _; apply aW.agg; (· exact (rfl : _ = Ty.agg _))))) (by exact rfl) ?_
 refine bt (E := cy) (xs := [⟨0, -1, 0, ⟨40, 60⟩⟩, ⟨1, 0, 1, ⟨10, 40⟩⟩, ⟨1, 1, -1, ⟨5, 10⟩⟩]) rfl rfl rfl rfl rfl (by decide) (by decide) (by repeat (first | exact (aW.nil : aW _ _ [] _) | (show aW _ _ ((_, _) :: _) _; apply aW.agg; (· exact (rfl : _ = Ty.agg _))))) (by exact rfl) rfl ?_
 refine fK rfl (bR rfl (fK rfl (ct rfl rfl rfl (rR rfl rfl (rj rfl rfl ?_)))))
 refine Fg (hi := k) rfl (show _ = Ty.int .i64 ((k : Nat) : Int) from congrArg (Ty.int .i64) (by show max 0 (min (k : Int) 2) = (k : Int); omega)) rfl rfl rfl rfl (by show k ≤ 2; exact hk) ?_
 refine c6 rfl rfl (by exact List.cons_ne_nil _ _) rfl (by repeat (first | exact (aW.nil : aW _ _ [] _) | (show aW _ _ ((_, _) :: _) _; apply aW.one; (· first | exact (rfl : _ = Ty.int _ _) | exact (rfl : _ = Ty.sl _ _)); (· exact rfl)))) (by exact (rfl : _ = some [_, _, _, _])) ?_
 refine bk rfl rfl (by decide) rfl rfl rfl rfl rfl rfl ?_
 refine aD ?_
 refine ⟨by kernel_rfl, ?_⟩
 refine aC (az ?_)
 refine yg rfl rfl rfl rfl (by decide) rfl rfl rfl ?_
 all_goals exact bE rfl rfl rfl
set_option maxRecDepth 100000 in
theorem IL : dz Tryz.prog 27 [] (Ty.bool true) := by
 refine bB Tryz.func27 rfl (by decide) Tryz.ntmps27 (by exact Nat.le_of_ble_eq_true rfl) fun w0 M0 => ?_
 refine aE (aA (dr rfl (aD (aC (aE (aA ?_))))))
 refine ah (tZ 0 (by decide)) rfl rfl rfl rfl rfl ?_
 refine ah (mR (two 0) (iy (by decide)) 0) rfl rfl rfl rfl rfl ?_
 refine ny rfl (bD rfl rfl (bD rfl rfl (wq rfl (cE rfl (aD (aC (aE (aA ?_))))))))
 refine ah (tZ 0 (by decide)) rfl rfl rfl rfl rfl ?_
 refine ah (um (two 0) (iy (by decide))) rfl rfl rfl rfl rfl ?_
 refine ny rfl (bD rfl rfl (bD rfl rfl (wq rfl (cE rfl (aD (aC (aE (aA ?_))))))))
 refine ah (tZ 1 (by decide)) rfl rfl rfl rfl rfl ?_
 refine ah (zN (two 1) (iy (by decide)) 1) rfl rfl rfl rfl rfl ?_
 refine ny rfl (bD rfl rfl (bD rfl rfl ?_))
 refine bw rfl (by exact List.cons_ne_nil _ _) rfl ?_
 refine bk rfl rfl (by decide) rfl rfl rfl rfl rfl rfl ?_
 refine cE rfl (aD (aC (aE (aA ?_))))
 refine ah (tZ 1 (by decide)) rfl rfl rfl rfl rfl ?_
 refine ah (HW (two 1) (iy (by decide)) 0 60) rfl rfl rfl rfl rfl ?_
 refine ny rfl (bD rfl rfl (bD rfl rfl (cE rfl (cE rfl (aD (aC (aE (aA ?_))))))))
 refine c6 rfl rfl (by exact List.cons_ne_nil _ _) rfl (by repeat (exact (aW.nil : aW _ _ [] _))) (by exact (rfl : _ = some [_, _])) ?_
 refine c6 rfl rfl (by exact List.cons_ne_nil _ _) rfl (by repeat (first | exact (aW.nil : aW _ _ [] _) | (show aW _ _ ((_, _) :: _) _; apply aW.one; (· exact (rfl : _ = Ty.int _ _)); (· exact rfl)))) (by exact (rfl : _ = some [_, _])) ?_
 refine c6 rfl rfl (by exact List.cons_ne_nil _ _) rfl (by repeat (first | exact (aW.nil : aW _ _ [] _) | (show aW _ _ ((_, _) :: _) _; apply aW.one; (· exact (rfl : _ = Ty.int _ _)); (· exact rfl)))) (by exact (rfl : _ = some [_, _])) ?_
 refine bt (E := qV) (xs := v9.cells) rfl rfl rfl rfl rfl (by decide) (by decide) (by repeat (first | exact (aW.nil : aW _ _ [] _) | (show aW _ _ ((_, _) :: _) _; apply aW.agg; (· exact (rfl : _ = Ty.agg _))))) (by exact rfl) rfl ?_
 refine c6 rfl rfl (by exact List.cons_ne_nil _ _) rfl (by repeat (first | exact (aW.nil : aW _ _ [] _) | (show aW _ _ ((_, _) :: _) _; apply aW.one; (· exact (rfl : _ = Ty.sl _ _)); (· exact rfl)))) (by exact (rfl : _ = some [_, _])) ?_
 refine bw rfl (by exact List.cons_ne_nil _ _) rfl ?_
 refine bk rfl rfl (by decide) rfl rfl rfl rfl rfl rfl ?_
 refine aD (aC (aE (cQ mixed rfl ?_)))
 refine ah (tZ 2 (by decide)) rfl rfl rfl rfl rfl ?_
 refine bL rfl rfl (by decide) rfl rfl (by exact Nat.le_of_ble_eq_true rfl) ?_
 refine ah (HU (two 2) (iy (by decide)) v9 (by decide)) rfl rfl rfl rfl rfl ?_
 refine ny rfl (bD rfl rfl (bD rfl rfl (cE rfl (cE rfl (aD ?_)))))
 refine ⟨by kernel_rfl, ?_⟩
 refine aC (aE (aA ?_))
 refine ah (tZ 2 (by decide)) rfl rfl rfl rfl rfl ?_
 refine ah (IE (two 2) (iy (by decide))) rfl rfl rfl rfl rfl ?_
 refine ny rfl (bD rfl rfl (bD rfl rfl (wq rfl (cE rfl (aD (aC (aE (aA ?_))))))))
 refine ah (tZ 2 (by decide)) rfl rfl rfl rfl rfl ?_
 refine ah (Ie (two 2) (iy (by decide))) rfl rfl rfl rfl rfl ?_
 refine ny rfl (bD rfl rfl (bD rfl rfl (wq rfl (cE rfl (aD (aC (aE (aA ?_))))))))
 refine ah (tZ 2 (by decide)) rfl rfl rfl rfl rfl ?_
 refine ah (Jy (two 2) (iy (by decide))) rfl rfl rfl rfl rfl ?_
 refine ny rfl (bD rfl rfl (bD rfl rfl ?_))
 refine bw rfl (by exact List.cons_ne_nil _ _) rfl ?_
 refine bk rfl rfl (by decide) rfl rfl rfl rfl rfl rfl ?_
 refine cE rfl (aD (aC (aE ?_)))
 refine fq (s := 1) rfl (Ty.sub_eq (congrArg (Ty.sl dL) IJ)) ?_
 refine fq (s := 2) rfl (Ty.af LY) ?_
 refine fq (s := 3) rfl (Ty.sub_eq (congrArg (Ty.sl dL) KH)) ?_
 refine fq (s := 4) rfl (Ty.af (kC (k := 0) (by decide))) ?_
 refine gI (tg := 6) rfl (Cont.mQ (congrArg dL.tys KE)) ?_
 refine fq (s := 6) rfl (Ty.af L5) ?_
 refine fq (s := 7) rfl (Ty.af Ke) ?_
 refine fq (s := 8) rfl (Ty.af JV.1.symm) ?_
 refine fq (s := 10) rfl (Ty.af Jr) ?_
 refine fq (s := 11) rfl (Ty.af LQ.1.symm) ?_
 refine fq (s := 12) rfl (Ty.sub_eq (congrArg (Ty.sl c7) E1)) ?_
 refine fq (s := 13) rfl (Ty.af JO.1.symm) ?_
 refine fq (s := 14) rfl (Ty.sub_eq (congrArg (Ty.sl c7) F8)) ?_
 refine fq (s := 15) rfl (Ty.af JK.1.symm) ?_
 refine fq (s := 17) rfl (Ty.af IA) ?_
 refine dO (B := live [(1, Ty.sl dL [⟨20, 30⟩, ⟨60, 90⟩, ⟨20, 80⟩]), (2, Ty.int .i64 0), (3, Ty.sl dL [⟨20, 30⟩, ⟨60, 90⟩, ⟨50, 85⟩]), (4, Ty.int .i64 0), (5, Ty.ptr 6 0), (6, Ty.int .i64 0), (7, Ty.int .i64 1), (8, Ty.int .i64 0), (10, Ty.int .i64 1), (11, Ty.int .i64 0), (12, Ty.sl c7 [0, 1]), (13, Ty.int .i64 0), (14, Ty.sl c7 [0]), (15, Ty.int .i64 0), (17, Ty.int .i64 7)] [(6, Cont.cells 37 (dL.tys ⟨25, 35⟩))]) ?_ ?_
 ·(refine dG.mk' ?_ ?_ <;> (repeat' (first | exact aJ | exact aI | refine aB ?_ (Ty.aX _) | refine aB ?_ (Ty.aF _) | refine aG rfl (Cont.aF _) ?_)))
 refine cQ mixed rfl (bR rfl (bC rfl rfl rfl (fu rfl ?_)))
 apply aL (s := 66) rfl rfl rfl
 ·intro hg; apply aP; (refine bR rfl ?_); refine aD ?_; exact rfl
 ·exact rfl
 ·exact rfl
 apply aL (s := 66) rfl rfl rfl
 ·intro hg; apply aK (s := 67) rfl (by exact hg); apply aP; (refine bC rfl rfl rfl ?_); refine aD ?_; exact rfl
 ·exact rfl
 ·exact rfl
 refine fD rfl rfl (fu rfl ?_)
 apply aL (s := 70) rfl rfl rfl
 ·intro hg; apply aP; (refine bR rfl ?_); refine aD ?_; exact rfl
 ·exact rfl
 ·exact rfl
 apply aL (s := 70) rfl rfl rfl
 ·intro hg; apply aK (s := 71) rfl (by exact hg); apply aP; (refine bC rfl rfl rfl ?_); refine aD ?_; exact rfl
 ·exact rfl
 ·exact rfl
 refine fD rfl rfl (fu rfl ?_)
 apply aL (s := 74) rfl rfl rfl
 ·intro hg; apply aP; (refine bR rfl ?_); refine aD ?_; exact rfl
 ·exact rfl
 ·exact rfl
 apply aL (s := 74) rfl rfl rfl
 ·intro hg; apply aK (s := 75) rfl (by exact hg); apply aP; (refine bC rfl rfl rfl ?_); refine aD ?_; exact rfl
 ·exact rfl
 ·exact rfl
 refine fD rfl rfl (fu rfl ?_)
 apply aL (s := 78) rfl rfl rfl
 ·intro hg; apply aP; (refine bR rfl ?_); refine aD ?_; exact rfl
 ·exact rfl
 ·exact rfl
 apply aL (s := 78) rfl rfl rfl
 ·intro hg; apply aK (s := 79) rfl (by exact hg); apply aP; (refine bC rfl rfl rfl ?_); refine aD ?_; exact rfl
 ·exact rfl
 ·exact rfl
 refine fD rfl rfl (fu rfl ?_)
 apply aL (s := 82) rfl rfl rfl
 ·intro hg; apply aP; (refine bR rfl ?_); refine aD ?_; exact rfl
 ·exact rfl
 ·exact rfl
 apply aL (s := 82) rfl rfl rfl
 ·intro hg; apply aK (s := 83) rfl (by exact hg); apply aP; (refine bC rfl rfl rfl ?_); refine aD ?_; exact rfl
 ·exact rfl
 ·exact rfl
 refine fD rfl rfl (fu rfl ?_)
 apply aL (s := 86) rfl rfl rfl
 ·intro hg; apply aP; (refine bR rfl ?_); refine aD ?_; exact rfl
 ·exact rfl
 ·exact rfl
 apply aL (s := 86) rfl rfl rfl
 ·intro hg; apply aK (s := 87) rfl (by exact hg); apply aP; (refine bC rfl rfl rfl ?_); refine aD ?_; exact rfl
 ·exact rfl
 ·exact rfl
 refine fD rfl rfl (fu rfl ?_)
 apply aL (s := 90) rfl rfl rfl
 ·intro hg; apply aP; (refine bR rfl ?_); refine aD ?_; exact rfl
 ·exact rfl
 ·exact rfl
 apply aL (s := 90) rfl rfl rfl
 ·intro hg; apply aK (s := 91) rfl (by exact hg); apply aP; (refine bC rfl rfl rfl ?_); refine aD ?_; exact rfl
 ·exact rfl
 ·exact rfl
 refine fD rfl rfl (fu rfl ?_)
 apply aL (s := 94) rfl rfl rfl
 ·intro hg; apply aP; (refine fK rfl ?_); refine aD ?_; exact rfl
 ·exact rfl
 ·exact rfl
 apply aL (s := 94) rfl rfl rfl
 ·intro hg; apply aP; (refine ah (iN _ _) rfl rfl rfl rfl rfl ?_); refine aD ?_; exact rfl
 ·exact rfl
 ·exact rfl
 apply aL (s := 94) rfl rfl rfl
 ·intro hg; apply aP; (refine ah (iN _ _) rfl rfl rfl rfl rfl ?_); refine aD ?_; exact rfl
 ·exact rfl
 ·exact rfl
 apply aL (s := 94) rfl rfl rfl
 ·intro hg; apply aP; (refine ah (iN _ _) rfl rfl rfl rfl rfl ?_); refine aD ?_; exact rfl
 ·exact rfl
 ·exact rfl
 apply aL (s := 94) rfl rfl rfl
 ·intro hg; apply aK (s := 96) rfl (by exact hg); apply aK (s := 97) rfl (by exact hg); apply aK (s := 98) rfl (by exact hg); apply aP; (refine bt (E := dL) (xs := [⟨20, 30⟩, ⟨60, 90⟩, ⟨20, 80⟩]) rfl rfl rfl rfl rfl (by decide) (by decide) (by repeat (first | exact (aW.nil : aW _ _ [] _) | (show aW _ _ ((_, _) :: _) _; apply aW.agg; (· exact (rfl : _ = Ty.agg _))))) (by exact rfl) rfl ?_); refine aD ?_; exact rfl
 ·exact rfl
 ·exact rfl
 apply aL (s := 94) rfl rfl rfl
 ·intro hg; apply aK (s := 95) rfl (by exact hg); apply aK (s := 99) rfl (by exact hg); apply aP; (refine ah (qx _ _) rfl rfl rfl rfl rfl ?_); refine aD ?_; exact rfl
 ·exact rfl
 ·exact rfl
 refine fD rfl rfl (fu rfl ?_)
 apply aL (s := 102) rfl rfl rfl
 ·intro hg; apply aP; (refine fK rfl ?_); refine aD ?_; exact rfl
 ·exact rfl
 ·exact rfl
 apply aL (s := 102) rfl rfl rfl
 ·intro hg; apply aP; (refine ah (iN _ _) rfl rfl rfl rfl rfl ?_); refine aD ?_; exact rfl
 ·exact rfl
 ·exact rfl
 apply aL (s := 102) rfl rfl rfl
 ·intro hg; apply aP; (refine ah (iN _ _) rfl rfl rfl rfl rfl ?_); refine aD ?_; exact rfl
 ·exact rfl
 ·exact rfl
 apply aL (s := 102) rfl rfl rfl
 ·intro hg; apply aP; (refine ah (iN _ _) rfl rfl rfl rfl rfl ?_); refine aD ?_; exact rfl
 ·exact rfl
 ·exact rfl
 apply aL (s := 102) rfl rfl rfl
 ·intro hg; apply aK (s := 104) rfl (by exact hg); apply aK (s := 105) rfl (by exact hg); apply aK (s := 106) rfl (by exact hg); apply aP; (refine bt (E := dL) (xs := [⟨20, 30⟩, ⟨60, 90⟩, ⟨50, 85⟩]) rfl rfl rfl rfl rfl (by decide) (by decide) (by repeat (first | exact (aW.nil : aW _ _ [] _) | (show aW _ _ ((_, _) :: _) _; apply aW.agg; (· exact (rfl : _ = Ty.agg _))))) (by exact rfl) rfl ?_); refine aD ?_; exact rfl
 ·exact rfl
 ·exact rfl
 apply aL (s := 102) rfl rfl rfl
 ·intro hg; apply aK (s := 103) rfl (by exact hg); apply aK (s := 107) rfl (by exact hg); apply aP; (refine ah (qx _ _) rfl rfl rfl rfl rfl ?_); refine aD ?_; exact rfl
 ·exact rfl
 ·exact rfl
 refine fD rfl rfl (fu rfl ?_)
 apply aL (s := 110) rfl rfl rfl
 ·intro hg; apply aP; (refine bL rfl rfl (by decide) rfl rfl (by exact Nat.le_of_ble_eq_true rfl) ?_); refine aD ?_; exact rfl
 ·exact rfl
 ·exact rfl
 apply aL (s := 110) rfl rfl rfl
 ·intro hg; apply aP; (refine ah (iN _ _) rfl rfl rfl rfl rfl ?_); refine aD ?_; exact rfl
 ·exact rfl
 ·exact rfl
 apply aL (s := 110) rfl rfl rfl
 ·intro hg; apply aK (s := 111) rfl (by exact hg); apply aK (s := 112) rfl (by exact hg); apply aP; (refine JC (JY _ _ _ _) rfl rfl ?_); refine aD ?_; exact rfl
 ·exact rfl
 ·exact rfl
 refine fD rfl rfl (fu rfl ?_)
 apply aL (s := 115) rfl rfl rfl
 ·intro hg; apply aP; (refine bR rfl ?_); refine aD ?_; exact rfl
 ·exact rfl
 ·exact rfl
 apply aL (s := 115) rfl rfl rfl
 ·intro hg; apply aK (s := 116) rfl (by exact hg); apply aP; (refine bC rfl rfl rfl ?_); refine aD ?_; exact rfl
 ·exact rfl
 ·exact rfl
 refine fD rfl rfl (fu rfl ?_)
 apply aL (s := 119) rfl rfl rfl
 ·intro hg; apply aP; (refine bR rfl ?_); refine aD ?_; exact rfl
 ·exact rfl
 ·exact rfl
 apply aL (s := 119) rfl rfl rfl
 ·intro hg; apply aK (s := 120) rfl (by exact hg); apply aP; (refine bC rfl rfl rfl ?_); refine aD ?_; exact rfl
 ·exact rfl
 ·exact rfl
 refine fD rfl rfl (fu rfl ?_)
 apply aL (s := 123) rfl rfl rfl
 ·intro hg; apply aP; (refine fK rfl ?_); refine aD ?_; exact rfl
 ·exact rfl
 ·exact rfl
 apply aL (s := 123) rfl rfl rfl
 ·intro hg; apply aP; (refine bt (E := c7) (xs := [0, 1]) rfl rfl rfl rfl rfl (by decide) (by decide) (by repeat (first | exact (aW.nil : aW _ _ [] _) | (show aW _ _ ((_, _) :: _) _; apply aW.one; (· exact (rfl : _ = Ty.int _ _)); (· exact rfl)))) (by exact rfl) rfl ?_); refine aD ?_; exact rfl
 ·exact rfl
 ·exact rfl
 apply aL (s := 123) rfl rfl rfl
 ·intro hg; apply aK (s := 124) rfl (by exact hg); apply aK (s := 125) rfl (by exact hg); apply aP; (refine ah (AG _ _) rfl rfl rfl rfl rfl ?_); refine aD ?_; exact rfl
 ·exact rfl
 ·exact rfl
 refine fD rfl rfl (fu rfl ?_)
 apply aL (s := 128) rfl rfl rfl
 ·intro hg; apply aP; (refine fK rfl ?_); refine aD ?_; exact rfl
 ·exact rfl
 ·exact rfl
 apply aL (s := 128) rfl rfl rfl
 ·intro hg; apply aP; (refine bt (E := c7) (xs := [0]) rfl rfl rfl rfl rfl (by decide) (by decide) (by repeat (first | exact (aW.nil : aW _ _ [] _) | (show aW _ _ ((_, _) :: _) _; apply aW.one; (· exact (rfl : _ = Ty.int _ _)); (· exact rfl)))) (by exact rfl) rfl ?_); refine aD ?_; exact rfl
 ·exact rfl
 ·exact rfl
 apply aL (s := 128) rfl rfl rfl
 ·intro hg; apply aK (s := 129) rfl (by exact hg); apply aK (s := 130) rfl (by exact hg); apply aP; (refine ah (AG _ _) rfl rfl rfl rfl rfl ?_); refine aD ?_; exact rfl
 ·exact rfl
 ·exact rfl
 refine fD rfl rfl (dr rfl (aD ?_))
 refine ⟨by kernel_rfl, ?_⟩
 refine aC (az (bq rfl rfl ?_))
 all_goals exact cP rfl rfl
 all_goals trace_state
end Go.Proofs.YtelbollidfdcjaaGreat
namespace Go.Proofs.YtelbollidfdcjaaGreat
open Go Go.T
set_option maxHeartbeats 2000000
attribute [local irreducible] iP fT nJ qo jJ jK jE jM jG qi jI qn eG gx qg gm qj nth fM dm aj dz bodyPost Exit.then Exit.inBlock Code.wp Code.wpIn qm jL ql qd jH eJ cV cm bodyPostM eN
set_option maxRecDepth 100000 in
theorem Et (s : Sk) (h : s.Ok 1) : eJ Tryz.prog 139 [1000] [(1000, Cont.cells 149 (dP s))] [Ty.ptr 1000 0] [(1000, Cont.cells 149 (dP (aY s)))] (Ty.int .i64 (l8 (aY s))) := by
 refine dN Tryz.func139 rfl (by decide) Tryz.ntmps139 (by exact Nat.le_of_ble_eq_true rfl) fun w0 M0 => ?_
 have h0 : 0 ≤ s.taken ∧ s.taken + 1 ≤ 4611686018427387904 := h
 refine aE (aA (cE rfl (aD (aC ?_))))
 refine lD (J := live [(0, Ty.ptr 1000 0)] [(1000, Cont.cells 149 (dP (hH s)))]) ?_ ?_
 ·
  refine aE (aA (qP rfl (cL rfl ?_)))
  refine aO rfl rfl rfl rfl rfl (by decide) ?_
  refine aU rfl rfl (by decide) rfl rfl rfl ?_
  refine ct rfl rfl rfl (cE rfl (aD (aC (aE (aA (bR rfl (bC rfl rfl rfl (aD (aC ?_)))))))))
  refine av rfl (fun hc1 => ?_) (fun hc1 => ?_)
  ·
   have hm := q7 (a := s.taken) (b := s.grain.length) h0.1 (by omega)
   refine cQ mixed rfl (qP rfl (qP rfl (cL rfl ?_)))
   refine aO rfl rfl rfl rfl rfl (by decide) ?_
   refine aU rfl rfl (by decide) rfl rfl rfl ?_
   refine qP rfl (cL rfl ?_)
   refine aO rfl rfl rfl rfl rfl (by decide) ?_
   refine aU rfl rfl (by decide) rfl rfl rfl ?_
   refine qP rfl (cL rfl ?_)
   refine aO rfl rfl rfl rfl rfl (by decide) ?_
   refine aU rfl rfl (by decide) rfl rfl rfl ?_
   refine bR rfl ?_
   refine xX rfl rfl (by omega) ?_
   refine lF rfl rfl rfl rfl rfl rfl (by omega) (by omega) ?_
   refine aN rfl rfl rfl rfl (qW rfl rfl rfl rfl (bC rfl rfl rfl (bC rfl rfl rfl (cL rfl ?_))))
   refine aO rfl rfl rfl rfl rfl (by decide) ?_
   refine cq rfl rfl (by decide) rfl rfl (by exact (rfl : _ = Ty.int _ _)) rfl (by exact Nat.le_of_ble_eq_true rfl) rfl rfl (by exact rfl) ?_
   refine aD ?_
   refine ⟨by kernel_rfl, ?_⟩
   refine fO ?_
   (refine dG.mk' ?_ ?_ <;> (repeat' (first | exact aJ | exact aI | exact dQ | refine aB ?_ (Ty.aX _) | refine aB ?_ (Ty.aF _) | refine aG rfl (Cont.dS ?_) ?_ | refine bh ?_ ?_)))
   all_goals first | exact Ty.af (congrArg Sk.mixed (CB hc1).symm) | exact Ty.af (ke s).symm | exact Ty.iE (ry s).symm
  refine ak (fO ?_)
  (refine dG.mk' ?_ ?_ <;> (repeat' (first | exact aJ | exact aI | exact dQ | refine aB ?_ (Ty.aX _) | refine aB ?_ (Ty.aF _) | refine aG rfl (Cont.dS ?_) ?_ | refine bh ?_ ?_)))
  all_goals first | exact Ty.af (congrArg Sk.mixed (CJ hc1).symm) | exact Ty.af (ke s).symm | exact Ty.iE (ry s).symm
 refine aE ?_
 have h1 := ke s
 refine aA (qP rfl (cL rfl ?_))
 refine aO rfl rfl rfl rfl rfl (by decide) ?_
 refine aU rfl rfl (by decide) rfl rfl rfl ?_
 refine cD rfl rfl (by omega) (by omega) ?_
 refine cL rfl ?_
 refine aO rfl rfl rfl rfl rfl (by decide) ?_
 refine cq rfl rfl (by decide) rfl rfl (by exact (rfl : _ = Ty.int _ _)) rfl (by exact Nat.le_of_ble_eq_true rfl) rfl rfl (by exact rfl) ?_
 refine aD (aC ?_)
 refine lD (J := live [(0, Ty.ptr 1000 0)] [(1000, Cont.cells 149 (dP (aY s)))]) ?_ ?_
 ·
  refine aE (cQ mixed rfl (qP rfl (cL rfl ?_)))
  refine aO rfl rfl rfl rfl rfl (by decide) ?_
  refine aU rfl rfl (by decide) rfl rfl rfl ?_
  refine qP rfl (cL rfl ?_)
  refine aO rfl rfl rfl rfl rfl (by decide) ?_
  refine aU rfl rfl (by decide) rfl rfl rfl ?_
  refine ct rfl rfl rfl (bC rfl rfl rfl (aD ?_))
  refine ⟨by kernel_rfl, ?_⟩
  refine aC ?_
  refine av rfl (fun hc2 => ?_) (fun hc2 => ?_)
  ·
   refine aA (qP rfl (qP rfl (cL rfl ?_)))
   refine aO rfl rfl rfl rfl rfl (by decide) ?_
   refine aU rfl rfl (by decide) rfl rfl rfl ?_
   refine bC rfl rfl rfl (bC rfl rfl rfl (cL rfl ?_))
   refine aO rfl rfl rfl rfl rfl (by decide) ?_
   refine cq rfl rfl (by decide) rfl rfl (by exact (rfl : _ = Ty.int _ _)) rfl (by exact Nat.le_of_ble_eq_true rfl) rfl rfl (by exact rfl) ?_
   refine aD (fO ?_)
   (refine dG.mk' ?_ ?_ <;> (repeat' (first | exact aJ | exact aI | exact dQ | refine aB ?_ (Ty.aX _) | refine aB ?_ (Ty.aF _) | refine aG rfl (Cont.dS ?_) ?_ | refine bh ?_ ?_)))
   all_goals first | exact Ty.af (congrArg Sk.mixed (Bt (s := oq (hH s)) hc2).symm) | exact Ty.af (nV (oq (hH s))).symm | exact Ty.iE (r9 (oq (hH s))).symm
  refine ak (fO ?_)
  (refine dG.mk' ?_ ?_ <;> (repeat' (first | exact aJ | exact aI | exact dQ | refine aB ?_ (Ty.aX _) | refine aB ?_ (Ty.aF _) | refine aG rfl (Cont.dS ?_) ?_ | refine bh ?_ ?_)))
  all_goals first | exact Ty.af (CP hc2) | exact Ty.af (nV (oq (hH s))).symm | exact Ty.iE (r9 (oq (hH s))).symm
 refine aE (cQ mixed rfl (qP rfl (cL rfl ?_)))
 refine aO rfl rfl rfl rfl rfl (by decide) ?_
 refine aU rfl rfl (by decide) rfl rfl rfl ?_
 refine qP rfl (cL rfl ?_)
 refine aO rfl rfl rfl rfl rfl (by decide) ?_
 refine aU rfl rfl (by decide) rfl rfl rfl ?_
 refine JL rfl rfl (by omega) (by decide) ?_
 refine bC rfl rfl rfl ?_
 refine JL rfl rfl (by omega) (by decide) ?_
 refine bC rfl rfl rfl (qW rfl rfl rfl rfl (cE rfl (aD ?_)))
 refine ⟨by kernel_rfl, ?_⟩
 refine aC (az ?_)
 refine fN [1000] rfl rfl (by decide) (by repeat (first | exact dn | refine cw rfl (bM (by decide) rfl rfl rfl) ?_)) ?_
 all_goals exact eM (aR rfl rfl)
 all_goals exact eM (kR rfl rfl rfl)
set_option maxRecDepth 100000 in
theorem jU (s : Sk) (h : s.Ok 1) (n : Int) : eJ Tryz.prog 64 [1000] [(1000, Cont.cells 149 (dP s))] [Ty.ptr 1000 0, Ty.int .i64 n] [(1000, Cont.cells 149 (dP (aY s)))] (Ty.int .i64 (bg s n)) := by
 refine dN Tryz.func64 rfl (by decide) Tryz.ntmps64 (by exact Nat.le_of_ble_eq_true rfl) fun w0 M0 => ?_
 refine aE (aA (cE rfl (aD (aC (aE (aA (qP rfl ?_)))))))
 refine b9 [(1000, 1000)] [] [(1000, Cont.cells 149 (dP (aY s)))] (Et s h) rfl rfl (by repeat (first | exact bH | refine aH ?_ ?_ | exact dx List.mem_cons_self)) (cC (a := 1000) (b := 1000) (by exact List.mem_cons_self) rfl (bM (by exact List.mem_cons_self) rfl rfl rfl) pre_nil) (bI (a := 1000) (b := 1000) (by exact List.mem_cons_self) rfl (bM (by exact List.mem_cons_self) rfl rfl rfl) post_nil) (aR rfl rfl) ?_
 refine bR rfl (rj rfl rfl ?_)
 refine xX rfl rfl (by omega) ?_
 refine cE rfl (aD (aC (az ?_)))
 refine fN [1000] rfl rfl (by decide) (by repeat (first | exact dn | refine cw rfl (bM (by decide) rfl rfl rfl) ?_)) ?_
 all_goals exact eM (aR rfl rfl)
set_option maxRecDepth 100000 in
theorem ue (s : Sk) (h : s.Ok 1) (lo hi : Int) (hlo : -1000000 ≤ lo ∧ lo ≤ 1000000) (hhi : -1000000 ≤ hi ∧ hi ≤ 1000000) : eJ Tryz.prog 81 [1000] [(1000, Cont.cells 149 (dP s))] [Ty.ptr 1000 0, Ty.int .i64 lo, Ty.int .i64 hi] [(1000, Cont.cells 149 (dP (aY s)))] (Ty.int .i64 (iX s lo hi)) := by
 refine dN Tryz.func81 rfl (by decide) Tryz.ntmps81 (by exact Nat.le_of_ble_eq_true rfl) fun w0 M0 => ?_
 have hb := cX s (hi - lo + 1)
 refine aE (aA (cE rfl (aD (aC (aE (aA (bR rfl (qP rfl (bR rfl ?_)))))))))
 refine bR rfl ?_
 refine gz rfl rfl (by omega) (by omega) ?_
 refine cD rfl rfl (by omega) (by omega) ?_
 refine b9 [(1000, 1000)] [] [(1000, Cont.cells 149 (dP (aY s)))] (jU s h _) rfl rfl (by repeat (first | exact bH | refine aH ?_ ?_ | exact dx List.mem_cons_self | exact aR rfl rfl)) (cC (a := 1000) (b := 1000) (by exact List.mem_cons_self) rfl (bM (by exact List.mem_cons_self) rfl rfl rfl) pre_nil) (bI (a := 1000) (b := 1000) (by exact List.mem_cons_self) rfl (bM (by exact List.mem_cons_self) rfl rfl rfl) post_nil) (aR rfl rfl) ?_
 refine cD rfl rfl (by omega) (by omega) ?_
 refine cE rfl (aD (aC (az ?_)))
 refine fN [1000] rfl rfl (by decide) (by repeat (first | exact dn | refine cw rfl (bM (by decide) rfl rfl rfl) ?_)) ?_
 all_goals exact eM (aR rfl rfl)
set_option maxRecDepth 100000 in
theorem J7 (g : List Int) : eJ Tryz.prog 18 [] [] [Ty.sl U8 g] [(10, Cont.cells 149 (dP (oV g)))] (Ty.ptr 10 0) := by
 refine dN Tryz.func18 rfl (by decide) Tryz.ntmps18 (by exact Nat.le_of_ble_eq_true rfl) fun w0 M0 => ?_
 refine aE (aA (l9 rfl (aD (aC (aE ?_)))))
 skip
 refine aA (fK rfl (fK rfl (ct rfl rfl rfl (qW rfl rfl rfl rfl (bC rfl rfl rfl ?_)))))
 refine c6 rfl rfl (by exact List.cons_ne_nil _ _) rfl (by repeat (first | exact (aW.nil : aW _ _ [] _) | (show aW _ _ ((_, _) :: _) _; apply aW.one; (· first | exact (rfl : _ = Ty.int _ _) | exact (rfl : _ = Ty.sl _ _)); (· exact rfl)))) (by exact (rfl : _ = some [_, _, _])) ?_
 refine sV rfl rfl rfl (Mf rfl (aD (aC (az ?_))))
 refine fN [10] rfl rfl (by decide) (by repeat (first | exact dn | refine cw rfl (bM (by decide) rfl rfl rfl) ?_)) ?_
 all_goals skip
 exact eM (dx (by exact List.mem_cons_self))
end Go.Proofs.YtelbollidfdcjaaGreat
namespace Go.Proofs.YtelbollidfdcjaaGreat
open Go Go.T
set_option maxHeartbeats 4000000
def nP (n : Int) (s : Span) : Bool := decide (s.lo ≤ n) && decide (n ≤ s.hi)
structure IY (y : aq) (a : eV) : Prop where
  len : y.moves.length ≤ a.cA.length
  nx : a.cA.length ≤ 1000
  first : ∀ x ∈ a.first, -1000 ≤ x ∧ x ≤ 1000
  cA : ∀ x ∈ a.cA, -1000 ≤ x ∧ x ≤ 1000
theorem IY.up {y : aq} {a : eV} (h : IY y a) {bin time : Int} (hb : bin.toNat < a.first.length) {k : Nat} (hk : k ≤ y.moves.length) : -3000000 ≤ dy y a bin time k ∧ dy y a bin time k ≤ 3000000 := by
 have h1 := h.len
 have h2 := h.nx
 have := Fb (y := y) (bin := bin) (time := time) (B := 1000) (by omega) h.first h.cA hb k (by omega)
 omega
attribute [local irreducible] iP fT nJ qo jJ jK jE jM jG qi jI qn eG gx qg gm qj nth fM dm aj dz bodyPost Exit.then Exit.inBlock Code.wp Code.wpIn qm jL ql qd jH eJ cV cm bodyPostM eN
set_option maxRecDepth 100000 in
theorem gB (y : aq) (a : eV) (ha : IY y a) (bin time : Int) (h0 : 0 ≤ bin) (h1 : bin.toNat < a.first.length) : dz Tryz.prog 25 [fE y, p8 a, Ty.int .i64 bin, Ty.int .i64 time] (Ty.int .i64 (cB y a bin time)) := by
 refine bB Tryz.func25 rfl (by decide) Tryz.ntmps25 (by exact Nat.le_of_ble_eq_true rfl) fun w0 M0 => ?_
 have hl1 := ha.len
 have hl2 := ha.nx
 refine aE (aA (bN rfl (bN rfl (cE rfl (aD (aC (aE (aA ?_))))))))
 refine aQ rfl rfl rfl rfl rfl (by decide) ?_
 refine aN rfl rfl rfl rfl (bR rfl (lF rfl rfl rfl rfl rfl rfl h0 h1 (aN rfl rfl rfl rfl (cE rfl (aD (aC (aE (aE (aA ?_)))))))))
 refine aQ rfl rfl rfl rfl rfl (by decide) ?_
 refine aN rfl rfl rfl rfl (ct rfl rfl rfl (bR rfl (aD (aC (au ?_)))))
 refine cZ (fun (k : {k : Nat // k ≤ y.moves.length}) => live [(2, Ty.int .i64 bin), (3, Ty.int .i64 time), (4, Ty.pp (bO y)), (5, Ty.pp (eK a)), (9, Ty.int .i64 (dy y a bin time k.1)), (18, Ty.sl cy y.moves), (19, Ty.int .i64 y.moves.length), (20, Ty.int .i64 (k.1 : Nat))] []) (fun k => y.moves.length - k.1) (⟨0, by omega⟩) ?_ fun k => ?_
 ·(refine dG.mk' ?_ ?_ <;> (repeat' (first | exact aJ | exact aI | refine aB ?_ (Ty.aX _) | refine aB ?_ (Ty.aF _))))
 have hk := k.2
 have hu := ha.up (time := time) h1 hk
 refine aE (aA (bC rfl rfl rfl (aD (aC (aE ?_)))))
 refine av rfl (fun hc1 => ?_) (fun hc1 => ?_)
 ·
  refine ak (aC (aE (au (aE (aA (bR rfl ?_))))))
  refine bK rfl rfl rfl rfl rfl rfl (by omega) ?_
  refine aZ rfl rfl rfl (by exact Nat.le_of_ble_eq_true rfl) ?_
  refine bw rfl (by exact List.cons_ne_nil _ _) rfl ?_
  refine cE rfl ?_
  refine bk rfl rfl (by decide) rfl rfl rfl rfl rfl rfl ?_
  refine aD (aC (aE (aE (aA ?_))))
  refine aO rfl rfl rfl rfl rfl (by decide) ?_
  refine aU rfl rfl (by decide) rfl rfl rfl ?_
  refine bR rfl (bC rfl rfl rfl (fu rfl ?_))
  apply aL (s := 29) rfl rfl rfl
  ·intro hg; apply aP; (refine aO rfl rfl rfl rfl rfl (by decide) ?_); refine aD ?_; exact rfl
  ·exact rfl
  ·exact rfl
  apply aL (s := 29) rfl rfl rfl
  ·intro hg; apply aK (s := 30) rfl (by (rw [hg]; rfl)); apply aP; (refine aU rfl rfl (by decide) rfl rfl rfl ?_); refine aD ?_; exact rfl
  ·exact rfl
  ·exact rfl
  apply aL (s := 29) rfl rfl rfl
  ·intro hg; apply aP; (refine bR rfl ?_); refine aD ?_; exact rfl
  ·exact rfl
  ·exact rfl
  apply aL (s := 29) rfl rfl rfl
  ·intro hg; apply aK (s := 31) rfl (by (rw [hg]; rfl)); apply aK (s := 32) rfl (by (rw [hg]; rfl)); apply aP; (refine bC rfl rfl rfl ?_); refine aD ?_; exact rfl
  ·exact rfl
  ·exact rfl
  refine fD rfl rfl (aD (aC ?_))
  refine cr rfl (fun hc2 => ?_) (fun hc2 => ?_)
  ·
   have hm1 := ha.cA _ (dA (show k.1 < a.cA.length by omega))
   refine aA (bR rfl ?_)
   refine aQ rfl rfl rfl rfl rfl (by decide) ?_
   refine aN rfl rfl rfl rfl (bR rfl ?_)
   refine bK rfl rfl rfl rfl rfl rfl (by omega) ?_
   refine aN rfl rfl rfl rfl ?_
   refine cD rfl rfl (by omega) (by omega) ?_
   refine cE rfl (aD (aC (aE (aA ?_))))
   refine aO rfl rfl rfl rfl rfl (by decide) ?_
   refine aU rfl rfl (by decide) rfl rfl rfl ?_
   refine bR rfl (bC rfl rfl rfl (fu rfl ?_))
   apply aL (s := 46) rfl rfl rfl
   ·intro hg; apply aP; (refine aO rfl rfl rfl rfl rfl (by decide) ?_); refine aD ?_; exact rfl
   ·exact rfl
   ·exact rfl
   apply aL (s := 46) rfl rfl rfl
   ·intro hg; apply aK (s := 47) rfl (by (rw [hg]; rfl)); apply aP; (refine aU rfl rfl (by decide) rfl rfl rfl ?_); refine aD ?_; exact rfl
   ·exact rfl
   ·exact rfl
   apply aL (s := 46) rfl rfl rfl
   ·intro hg; apply aP; (refine bR rfl ?_); refine aD ?_; exact rfl
   ·exact rfl
   ·exact rfl
   apply aL (s := 46) rfl rfl rfl
   ·intro hg; apply aK (s := 48) rfl (by (rw [hg]; rfl)); apply aK (s := 49) rfl (by (rw [hg]; rfl)); apply aP; (refine bC rfl rfl rfl ?_); refine aD ?_; exact rfl
   ·exact rfl
   ·exact rfl
   refine fD rfl rfl (aD (aC ?_))
   refine cr rfl (fun hc3 => ?_) (fun hc3 => ?_)
   ·
    have hm2 := ha.cA _ (dA (show k.1 < a.cA.length by omega))
    refine aA (bR rfl ?_)
    refine aQ rfl rfl rfl rfl rfl (by decide) ?_
    refine aN rfl rfl rfl rfl (bR rfl ?_)
    refine bK rfl rfl rfl rfl rfl rfl (by omega) ?_
    refine aN rfl rfl rfl rfl ?_
    refine gz rfl rfl (by omega) (by omega) ?_
    refine cE rfl (aD (bf (aC (aA ?_))))
    refine cD rfl rfl (by omega) (by omega) ?_
    refine bR rfl (aD ?_)
    refine bp (⟨k.1 + 1, by omega⟩) ?_ (by show y.moves.length - (k.1 + 1) < y.moves.length - k.1; omega)
    (refine dG.mk' ?_ ?_ <;> (repeat' (first | exact aJ | exact aI | refine aB ?_ (Ty.aX _) | refine aB ?_ (Ty.aF _) | refine aB ?_ ?_)))
    all_goals skip
    all_goals exact Ty.af (L4 hc2 hc3)
   refine ak (bf (aC (aA ?_)))
   refine cD rfl rfl (by omega) (by omega) ?_
   refine bR rfl (aD ?_)
   refine bp (⟨k.1 + 1, by omega⟩) ?_ (by show y.moves.length - (k.1 + 1) < y.moves.length - k.1; omega)
   (refine dG.mk' ?_ ?_ <;> (repeat' (first | exact aJ | exact aI | refine aB ?_ (Ty.aX _) | refine aB ?_ (Ty.aF _) | refine aB ?_ ?_)))
   all_goals skip
   all_goals exact Ty.af (Lw hc2 hc3)
  refine ak (aC (aE (aA ?_)))
  refine aO rfl rfl rfl rfl rfl (by decide) ?_
  refine aU rfl rfl (by decide) rfl rfl rfl ?_
  refine bR rfl (bC rfl rfl rfl (fu rfl ?_))
  apply aL (s := 46) rfl rfl rfl
  ·intro hg; apply aP; (refine aO rfl rfl rfl rfl rfl (by decide) ?_); refine aD ?_; exact rfl
  ·exact rfl
  ·exact rfl
  apply aL (s := 46) rfl rfl rfl
  ·intro hg; apply aK (s := 47) rfl (by (rw [hg]; rfl)); apply aP; (refine aU rfl rfl (by decide) rfl rfl rfl ?_); refine aD ?_; exact rfl
  ·exact rfl
  ·exact rfl
  apply aL (s := 46) rfl rfl rfl
  ·intro hg; apply aP; (refine bR rfl ?_); refine aD ?_; exact rfl
  ·exact rfl
  ·exact rfl
  apply aL (s := 46) rfl rfl rfl
  ·intro hg; apply aK (s := 48) rfl (by (rw [hg]; rfl)); apply aK (s := 49) rfl (by (rw [hg]; rfl)); apply aP; (refine bC rfl rfl rfl ?_); refine aD ?_; exact rfl
  ·exact rfl
  ·exact rfl
  refine fD rfl rfl (aD (aC ?_))
  refine cr rfl (fun hc4 => ?_) (fun hc4 => ?_)
  ·
   have hm2 := ha.cA _ (dA (show k.1 < a.cA.length by omega))
   refine aA (bR rfl ?_)
   refine aQ rfl rfl rfl rfl rfl (by decide) ?_
   refine aN rfl rfl rfl rfl (bR rfl ?_)
   refine bK rfl rfl rfl rfl rfl rfl (by omega) ?_
   refine aN rfl rfl rfl rfl ?_
   refine gz rfl rfl (by omega) (by omega) ?_
   refine cE rfl (aD (bf (aC (aA ?_))))
   refine cD rfl rfl (by omega) (by omega) ?_
   refine bR rfl (aD ?_)
   refine bp (⟨k.1 + 1, by omega⟩) ?_ (by show y.moves.length - (k.1 + 1) < y.moves.length - k.1; omega)
   (refine dG.mk' ?_ ?_ <;> (repeat' (first | exact aJ | exact aI | refine aB ?_ (Ty.aX _) | refine aB ?_ (Ty.aF _) | refine aB ?_ ?_)))
   all_goals skip
   all_goals exact Ty.af (LU hc2 hc4)
  refine ak (bf (aC (aA ?_)))
  refine cD rfl rfl (by omega) (by omega) ?_
  refine bR rfl (aD ?_)
  refine bp (⟨k.1 + 1, by omega⟩) ?_ (by show y.moves.length - (k.1 + 1) < y.moves.length - k.1; omega)
  (refine dG.mk' ?_ ?_ <;> (repeat' (first | exact aJ | exact aI | refine aB ?_ (Ty.aX _) | refine aB ?_ (Ty.aF _) | refine aB ?_ ?_)))
  all_goals skip
  all_goals exact Ty.af (La hc2 hc4)
 refine cg (aT (aT (bA rfl (aC (aE (aA (bR rfl (cE rfl (aD ?_)))))))))
 refine aC (az (bq rfl rfl ?_))
 all_goals skip
 all_goals exact bE rfl rfl (congrArg (Ty.int .i64) (by unfold cB; rw [show k.1 = y.moves.length by have := k.2; omega]))
set_option maxRecDepth 100000 in
theorem mM (n : Int) (s : Span) : dz Tryz.prog 26 [Ty.int .i64 n, Ty.agg (dL.tys s)] (Ty.bool (nP n s)) := by
 refine bB Tryz.func26 rfl (by decide) Tryz.ntmps26 (by exact Nat.le_of_ble_eq_true rfl) fun w0 M0 => ?_
 refine aE (aA (bN rfl (dr rfl (aD (aC (aE (aA ?_)))))))
 refine aQ rfl rfl rfl rfl rfl (by decide) ?_
 refine aN rfl rfl rfl rfl (bR rfl (bC rfl rfl rfl (fu rfl ?_)))
 apply aL (s := 9) rfl rfl rfl
 ·intro hg; apply aP; (refine bR rfl ?_); refine aD ?_; exact rfl
 ·exact rfl
 ·exact rfl
 apply aL (s := 9) rfl rfl rfl
 ·intro hg; apply aP; (refine aQ rfl rfl rfl rfl rfl (by decide) ?_); refine aD ?_; exact rfl
 ·exact rfl
 ·exact rfl
 apply aL (s := 9) rfl rfl rfl
 ·intro hg; apply aK (s := 11) rfl (by (rw [hg]; rfl)); apply aP; (refine aN rfl rfl rfl rfl ?_); refine aD ?_; exact rfl
 ·exact rfl
 ·exact rfl
 apply aL (s := 9) rfl rfl rfl
 ·intro hg; apply aK (s := 10) rfl (by (rw [hg]; rfl)); apply aK (s := 12) rfl (by (rw [hg]; rfl)); apply aP; (refine bC rfl rfl rfl ?_); refine aD ?_; exact rfl
 ·exact rfl
 ·exact rfl
 refine fD rfl rfl (dr rfl (aD (aC (az (bq rfl rfl ?_)))))
 all_goals exact cP rfl rfl
set_option maxRecDepth 100000 in
theorem CA (s : Sk) (h : s.Ok 2) (n w : Int) (hn : -1000000 ≤ n ∧ n ≤ 1000000) (hw : 0 ≤ w ∧ w ≤ 1000) : eJ Tryz.prog 82 [1000] [(1000, Cont.cells 149 (dP s))] [Ty.ptr 1000 0, Ty.int .i64 n, Ty.int .i64 w] [(1000, Cont.cells 149 (dP (aY (aY s))))] (Ty.agg (dL.tys (gw s n w))) := by
 refine dN Tryz.func82 rfl (by decide) Tryz.ntmps82 (by exact Nat.le_of_ble_eq_true rfl) fun w0 M0 => ?_
 have h0 : 0 ≤ s.taken ∧ s.taken + 2 ≤ 4611686018427387904 := h
 have hb1 := cX s (w + 1)
 have hb2 := cX (aY s) (w + 1)
 have ht := cY s
 refine aE (aA ?_)
 refine bw rfl (by exact List.cons_ne_nil _ _) rfl ?_
 refine aD (aC (aE (aA (bR rfl (qP rfl (bR rfl ?_))))))
 refine cD rfl rfl (by omega) (by omega) ?_
 refine b9 [(1000, 1000)] [] [(1000, Cont.cells 149 (dP (aY s)))] (jU s ⟨by omega, by omega⟩ _) rfl rfl (by repeat (first | exact bH | refine aH ?_ ?_ | exact dx List.mem_cons_self | exact aR rfl rfl)) (cC (a := 1000) (b := 1000) (by exact List.mem_cons_self) rfl (bM (by exact List.mem_cons_self) rfl rfl rfl) pre_nil) (bI (a := 1000) (b := 1000) (by exact List.mem_cons_self) rfl (bM (by exact List.mem_cons_self) rfl rfl rfl) post_nil) (aR rfl rfl) ?_
 refine gz rfl rfl (by omega) (by omega) ?_
 refine rj rfl rfl (bR rfl (qP rfl (bR rfl ?_)))
 refine cD rfl rfl (by omega) (by omega) ?_
 refine b9 [(1000, 1000)] [] [(1000, Cont.cells 149 (dP (aY (aY s))))] (jU (aY s) ⟨by omega, by omega⟩ _) rfl rfl (by repeat (first | exact bH | refine aH ?_ ?_ | exact dx List.mem_cons_self | exact aR rfl rfl)) (cC (a := 1000) (b := 1000) (by exact List.mem_cons_self) rfl (bM (by exact List.mem_cons_self) rfl rfl rfl) pre_nil) (bI (a := 1000) (b := 1000) (by exact List.mem_cons_self) rfl (bM (by exact List.mem_cons_self) rfl rfl rfl) post_nil) (aR rfl rfl) ?_
 refine cD rfl rfl (by omega) (by omega) ?_
 refine rR rfl rfl (ah (iN _ _) rfl rfl rfl rfl rfl ?_)
 refine bk rfl rfl (by decide) rfl rfl rfl rfl rfl rfl ?_
 refine aD (aC (az ?_))
 refine zO [1000] rfl rfl rfl rfl (by decide) rfl rfl rfl (by decide) (by repeat (first | exact dn | refine cw rfl (bM (by decide) rfl rfl rfl) ?_)) ?_
 all_goals exact eM (aR rfl rfl)
 all_goals trace_state
set_option maxRecDepth 100000 in
theorem JA (y : aq) (a : eV) (ha : IY y a) (m : Move) (hd : -1000000 ≤ m.day ∧ m.day ≤ 1000000) (h1 : m.src ≠ -1 → 0 ≤ m.src ∧ m.src.toNat < a.first.length) : dz Tryz.prog 83 [fE y, p8 a, Ty.agg (cy.tys m)] (Ty.int .i64 (Be y a m)) := by
 refine bB Tryz.func83 rfl (by decide) Tryz.ntmps83 (by exact Nat.le_of_ble_eq_true rfl) fun w0 M0 => ?_
 refine aE (aA (bN rfl (bN rfl (bN rfl (cE rfl (aD (aC (aE (aE ?_)))))))))
 refine aA ?_
 refine aQ rfl rfl rfl rfl rfl (by decide) ?_
 refine aN rfl rfl rfl rfl (bC rfl rfl rfl (aD (aC ?_)))
 refine av rfl (fun hc1 => ?_) (fun hc1 => ?_)
 ·
  refine aE (aA (cE rfl (aD (aC (az (aV (bq rfl rfl ?_)))))))
  all_goals skip
  exact bE rfl rfl (congrArg (Ty.int .i64) (if_pos hc1).symm)
 refine ak (aC (aE ?_))
 have hs := h1 hc1
 refine aA ?_
 refine aZ rfl rfl rfl (by exact Nat.le_of_ble_eq_true rfl) ?_
 refine aZ rfl rfl rfl (by exact Nat.le_of_ble_eq_true rfl) ?_
 refine aQ rfl rfl rfl rfl rfl (by decide) ?_
 refine aN rfl rfl rfl rfl ?_
 refine aQ rfl rfl rfl rfl rfl (by decide) ?_
 refine aN rfl rfl rfl rfl ?_
 refine cD rfl rfl (by omega) (by omega) ?_
 refine ah (gB y a ha m.src (m.day + 1) hs.1 hs.2) rfl rfl rfl rfl rfl (cE rfl (aD (aC (az (bq rfl rfl ?_)))))
 all_goals skip
 exact bE rfl rfl (congrArg (Ty.int .i64) (if_neg hc1).symm)
end Go.Proofs.YtelbollidfdcjaaGreat
namespace Go.T
open Go Go.RowKit
section
variable {P : Program} {fr : Fr} {ops : Array Oper} {A : As} {rest : List Oper} {K : As → List (As × Fx) → Prop} {d : Nat} {t ty' : TypeId} {p : String} {e : Array Edge} [T : k5 P]
end
end Go.T
namespace Go.T
open Go Go.RowKit
section
variable {P : Program} {fr : Fr} {ops : Array Oper} {A : As} {rest : List Oper} {K : As → List (As × Fx) → Prop} {d : Nat} {t ty' : TypeId} {p : String} {e : Array Edge} [T : k5 P]
theorem G8 {α : Type} {E : El α} {x0 : α} {x y : Operand} {k k' : IntKind} {n m : Int} {el : Nat} {ti te : TI} (hx : A.op fr x = .int k n) (hy : A.op fr y = .int k' m) (hT : T.ef[ty']? = some ti) (hk : ti.k = .slice el) (hE : T.ef[el]? = some te) (hs : te.size = E.size) (hz : te.zero.map Ty.je = E.tys x0) (hzp : 0 < te.size) (hp : fr.pass.contains (d + 1) = false)
    (hn : 0 ≤ n) (hnm : n ≤ m) (hlen : (te.bytes : Int) * m ≤ 281474976710656) (hlen' : m ≤ 9223372036854775807)
    (h : aj P fr ops rest (A.after { d := some d, ty := .rc (d + 1) n.toNat (some m.toNat), K := [d + 1], sets := [(d + 1, .Ih E el (List.replicate n.toNat x0) (some m.toNat))], rs := cI x ++ cI y }) fun A' l' => K A' ((A, { d := some d, ty := .rc (d + 1) n.toNat (some m.toNat), K := [d + 1], sets := [(d + 1, .Ih E el (List.replicate n.toNat x0) (some m.toNat))], rs := cI x ++ cI y }) :: l')) :
    aj P fr ops (⟨some d, .makeSlice ty' x y, t, p, e, none⟩ :: rest) A K := by
  refine ⟨_, gG rfl rfl (by simp) (by simp) (by simp at hp ⊢; exact hp) fun a w M wf hr _ => ?_, h⟩
  obtain ⟨hdx, hdy⟩ := op2 hr
  rw [hx] at hdx; rw [hy] at hdy
  have ex : a.eval x = .int k n := hdx
  have ey : a.eval y = .int k' m := hdy
  obtain ⟨_, D, _, hD, hkd, _⟩ := dJ hT
  rw [hk] at hkd
  cases D <;> simp only [TK.of, reduceCtorEq, TK.slice.injEq] at hkd
  rename_i el0
  have hel : el0 = el := hkd
  subst hel
  obtain ⟨i, _, hi, _, _, hsz, hby, hze⟩ := dJ hE
  have hzl : te.zero.length = te.size := by rw [← List.length_map (f := Ty.je), hz, E.len, hs]
  obtain ⟨z, hiz⟩ : ∃ z, i.zero = some z := by
    cases hiz : i.zero with
    | none => rw [hiz] at hze; rw [← hze] at hzl; simp at hzl; omega
    | some z => exact ⟨z, rfl⟩
  rw [hiz] at hze
  have hrun := run_make (P := P) w ty' _ i z hD hi hiz k k' n m hn hnm (by rw [hby]; exact hlen) hlen'
  obtain ⟨h1, h2, h3⟩ := j5 wf (.cells (madeCells z.cells (m.toNat * i.size)) el0) (d + 1)
  refine ⟨_, _, by simp [execOp, ex, ey, hrun], _, h1, h2, ⟨_, h3, rfl, by omega, by simp only [maxLen]; omega⟩, ?_⟩
  intro x hx
  simp only [List.mem_singleton] at hx
  subst hx
  have hnm' : n.toNat * te.size ≤ m.toNat * te.size := Nat.mul_le_mul_right _ (by omega)
  refine ⟨w.heap.size, _, h3, gq _ _, by simp [madeCells, hsz, hs], ?_⟩
  rw [cv, List.length_replicate, ← hs]
  have hzs : z.cells.size = te.size := by rw [← hzl, ← hze]; simp
  refine gW (by rw [cv, List.length_replicate, ← hs, List.length_take, Array.length_toList]; simp only [madeCells, Array.size_map, Array.size_range, hsz]; first | exact (Nat.min_eq_left hnm').symm | exact Nat.min_eq_left hnm') fun j ty hj => ?_
  have hjl : j < n.toNat * te.size := by
    have := (List.getElem?_eq_some_iff.1 hj).1
    rw [cv, List.length_replicate, ← hs] at this; exact this
  have hq : j / te.size < n.toNat := Nat.div_lt_of_lt_mul (by rw [Nat.mul_comm]; exact hjl)
  have hm : j % te.size < te.size := Nat.mod_lt _ hzp
  have hget := oC E (List.replicate n.toNat x0) (j / te.size) (j % te.size) (by simpa using hq) (by rw [← hs]; exact hm)
  have hdecomp : j / te.size * E.size + j % te.size = j := by rw [← hs, Nat.mul_comm]; exact Nat.div_add_mod j te.size
  rw [hdecomp, hj] at hget
  simp only [List.getElem?_replicate, hq, if_true, Option.bind_some] at hget
  rw [← hz, List.getElem?_map] at hget
  obtain ⟨u, hu, hty⟩ := Option.map_eq_some_iff.1 hget.symm
  refine ⟨u, ?_, hty ▸ kj _ _ _⟩
  rw [List.getElem?_take, if_pos hjl]
  have hu' : z.cells[j % z.cells.size]? = some u := by rw [hzs]; rw [← hze] at hu; simpa using hu
  simp only [madeCells, Array.toList_map, List.getElem?_map, Array.toList_range, hsz]
  rw [List.getElem?_range (by omega)]
  simp only [Option.map_some]
  rw [getElem!_def, hu']
theorem Gv {α : Type} {E : El α} {zs ys : List α} {x y : Operand} {tg n c0 el st st' Tb : Nat} {ti te : TI} (hx : A.op fr x = .rc tg n (some c0)) (hy : A.op fr y = .sl E ys) (hc : A.tag tg = some (.Ih E Tb zs (some c0))) (h1 : fV tg) (hT : T.ef[st]? = some ti) (hk : ti.k = .slice el) (hE : T.ef[el]? = some te) (hs : te.size = E.size) (hn : zs.length = n) (hle : ys.length ≤ n)
 (h : aj P fr ops rest (A.after { d := some d, ty := .int .i64 (ys.length : Nat), S := [tg], sets := [(tg, .Ih E Tb (ys ++ zs.drop ys.length) (some c0))], rs := cI x ++ cI y, rt := [tg] }) fun A' l'' => K A' ((A, { d := some d, ty := .int .i64 (ys.length : Nat), S := [tg], sets := [(tg, .Ih E Tb (ys ++ zs.drop ys.length) (some c0))], rs := cI x ++ cI y, rt := [tg] }) :: l'')) :
 aj P fr ops (⟨some d, .call ⟨.builtin .copy, #[x, y], #[st, st']⟩, t, p, e, none⟩ :: rest) A K := by
 refine ⟨_, gG rfl rfl (by simp) (by simpa using h1.1) (by simp) fun a w M wf hr ht => ?_, h⟩
 obtain ⟨hdx, hdy⟩ := op2 hr
 rw [hx] at hdx; rw [hy] at hdy
 obtain ⟨_, D, _, hD, hkd, _⟩ := dJ hT
 rw [hk] at hkd
 cases D <;> simp only [TK.of, reduceCtorEq, TK.slice.injEq] at hkd
 subst hkd
 rename_i el
 have hsz := fun w => dW (P := P) hE w
 obtain ⟨ad, c, ey, hc1, hc2, hp⟩ := hdy
 obtain ⟨b, hb, ex, hn0, hm0⟩ := hdx
 obtain ⟨b2, cs, hb2, hh, hsz0, hd⟩ : Kg E Tb zs (some c0) w M tg := ht _ (cj hc) (by simp)
 have hmin : Nat.min ys.length n = ys.length := Nat.min_eq_left hle
 by_cases hys : ys = []
 ·subst hys
  have hl : ∀ (q : Addr), (loadCells q 0).run P w = .ok #[] w := fun q => by simpa using run_loadCells_list (P := P) w q [] (by simp)
  have hrun : (Builtin.copy_ #[st, st'] t #[a.eval x, a.eval y]).run P w = .ok (goInt 0) w := by
   rw [ey, ex]; cases ad <;> simp [Builtin.copy_, run_underlying hD, Builtin.lenOf, Builtin.firstCells, hsz, storeCells, hl]
  refine ⟨goInt 0, w, by simp [execOp, resolve, invoke, builtin, hrun], M, wf, (Le.refl _ _ w M), rfl, ?_⟩
  intro z' hz'
  simp only [List.mem_singleton] at hz'
  subst hz'
  have hv : (Cont.Ih E Tb zs (some c0)).den w M tg := ⟨b2, cs, hb2, hh, hsz0, hd⟩
  simpa using hv
 have hpos : 0 < ys.length := List.length_pos_iff.2 hys
 obtain ⟨b', off, rfl, hp'⟩ := hp hpos
 obtain ⟨news, hn1, hn2, hn3⟩ := mm hp' _ (Nat.le_refl _)
 rw [List.take_length] at hn2
 rw [cv] at hn1
 obtain ⟨u, rfl⟩ : ∃ u, tg = u + 1 := ⟨tg - 1, by omega⟩
 have := wf.inj b b2 u (by omega) hb hb2
 subst this
 have hlen := cO hd
 have hm : ys.length * E.size ≤ zs.length * E.size := Nat.mul_le_mul_right _ (by omega)
 have hoff : ys.length * E.size ≤ cs.size := by
  rw [cv, List.length_take] at hlen
  simp at hlen; omega
 have hst := run_storeCells_at (P := P) b 0 Tb news 0 cs w hh (by omega) (k6 hn2 (kf E ys))
 rw [lJ _ hh] at hst
 obtain ⟨h1', h2', h3'⟩ := jY (cs' := (cs.toList.take (0 + 0) ++ news ++ cs.toList.drop (0 + 0 + news.length)).toArray) (Tb := Tb) wf hb _ rfl
 have hld : (loadCells ⟨b', off, none⟩ (ys.length * E.size)).run P w = .ok news.toArray w := by
  rw [← hn1]
  exact run_loadCells_list (P := P) w _ news (fun j v hj => by rw [Addr.add_lit]; exact hn3 j v hj)
 have hrun : (Builtin.copy_ #[st, st'] t #[a.eval x, a.eval y]).run P w = .ok (goInt ys.length) { w with heap := w.heap.setIfInBounds b (.cells (cs.toList.take (0 + 0) ++ news ++ cs.toList.drop (0 + 0 + news.length)).toArray Tb (0, 0)) } := by
  rw [ex, ey]
  simp only [Builtin.copy_, run_underlying hD, Builtin.lenOf, Builtin.firstCells, hsz, hs, hmin, hld, Sem.run_bind, Sem.run_pure, Result.andThen_ok]
  simp [run_underlying hD, hsz, hs, hmin, hld]
  simp at hst
  rw [hst]
  simp
 refine ⟨goInt ys.length, _, by simp [execOp, resolve, invoke, builtin, hrun], M, h1', h2', rfl, ?_⟩
 intro z' hz'
 simp only [List.mem_singleton] at hz'
 subst hz'
 refine ⟨b, _, hb, h3', ?_, ?_⟩
 ·rw [← hsz0]
  simp only [Nat.add_zero, List.take_zero, List.nil_append, Nat.zero_add, List.size_toArray, List.length_append, List.length_drop, hn1, Array.length_toList]
  omega
 have hq := C6 (xs := zs) (ys := ys) (vs := news) (i := 0) hd hn2 (by omega)
 rw [List.take_zero, List.nil_append, Nat.zero_add, Nat.zero_mul] at hq
 exact b8 h2' (by intro _ _ h; cases h) (by rw [E.cW]; intro _ h; cases h) (by simpa using hq)
end
end Go.T
namespace Go.T
open Go Go.RowKit
section
variable {P : Program} {fr : Fr} {A : As} {Q : Exit → Act → World → Prop} {c : Code}
end
section
variable {P : Program} {fr : Fr} {ops : Array Oper} {A : As} {rest : List Oper} {K : As → List (As × Fx) → Prop} {d : Nat} {t ty' : TypeId} {p : String} {e : Array Edge} [T : k5 P]
end
end Go.T
namespace Go.T
open Go Go.RowKit
section
variable {P : Program} {A : As} {fn : Func} {n : Nat} {w0 : World} {M0 : ay} {F : List Nat} {post : List (Nat × Cont)} [T : k5 P]
theorem xM {w : World} {M : ay} {tm ty tg Tb : Nat} {l : List Ty} {ti : TI} {tmps : Array Value} (wf : Wf w M) (htg : ∀ x ∈ A.tags, x.2.den w M x.1) (hd : (A.slots tm).den w M (tmps.getD tm undef)) (hx : A.slots tm = .ptr tg 0) (hc : A.tag tg = some (.cells Tb l)) (h1 : fV tg) (hT : T.ef[ty]? = some ti) (ha : ti.k.agg = true) (hl : l.length = ti.size) :
 ∃ b cs, tmps.getD tm undef = .pointer (some ⟨b, 0, none⟩) ∧ (loadVar ty ⟨b, 0, none⟩).run P w = .ok (.agg cs) w ∧ cM w M l cs.toList := by
 rw [hx] at hd
 obtain ⟨b, hb, e⟩ := hd
 obtain ⟨b', cs, hb', hh, hds⟩ := htg _ (cj hc)
 obtain ⟨u, rfl⟩ : ∃ u, tg = u + 1 := ⟨tg - 1, by omega⟩
 have := wf.inj b b' u (by omega) hb hb'
 subst this
 have hlen := cO hds
 have hload := fj (P := P) hT ha (w := w) (b := b) (off := 0) (cs := cs.toList) (by rw [hlen, hl]) (fun j v hj => by simpa [World.cell?, hh] using hj)
 exact ⟨b, cs, e, by simpa [Instr.loadAt, Instr.sureAddr] using hload, hds⟩
theorem K7 (L : List Nat) {tm ty tg Tb tm' ty' tg' Tb' : Nat} {l l' : List Ty} {ti ti' : TI} {r1 r2 : Ty} (hr : fn.results = #[.cell tm ty, .cell tm' ty']) (ht : Nat.blt tm n = true) (ht' : Nat.blt tm' n = true) (hx : A.slots tm = .ptr tg 0) (hc : A.tag tg = some (.cells Tb l)) (h1 : fV tg) (hT : T.ef[ty]? = some ti) (ha : ti.k.agg = true) (hl : l.length = ti.size)
 (hx' : A.slots tm' = .ptr tg' 0) (hc' : A.tag tg' = some (.cells Tb' l')) (h1' : fV tg') (hT' : T.ef[ty']? = some ti') (ha' : ti'.k.agg = true) (hl' : l'.length = ti'.size)
 (hL : ∀ t ∈ F, t ∈ L) (hp : nk A L post) (hs : rZ L (.agg l) r1) (hs2 : rZ L (.agg l') r2) :
 dm ⟨n, w0, M0, F, .plain⟩ A (bodyPost P fn (cV F post w0 M0 (Ty.jR [r1, r2])) .ret) := by
 intro a w ⟨M, ok, hsl, htg⟩
 obtain ⟨b, cs, e, hload, hds⟩ := xM ok.wf htg (hsl tm (by simpa using ht)) hx hc h1 hT ha hl
 obtain ⟨b2, cs2, e2, hload2, hds2⟩ := xM ok.wf htg (hsl tm' (by simpa using ht')) hx' hc' h1' hT' ha' hl'
 refine ⟨ok.fm (by simp), .tuple #[.agg cs, .agg cs2], ?_, _, nE L M, rfl, lZ ok.wf, k7 hL ok.base, ⟨_, rfl, hs _ _ _ ok.wf ⟨cs, rfl, hds⟩, hs2 _ _ _ ok.wf ⟨cs2, rfl, hds2⟩, trivial⟩, qN ok.wf htg hp⟩
 have e' : a.tmps[tm]?.getD undef = .pointer (some ⟨b, 0, none⟩) := by rw [← Array.getD_eq_getD_getElem?]; exact e
 have e2' : a.tmps[tm']?.getD undef = .pointer (some ⟨b2, 0, none⟩) := by rw [← Array.getD_eq_getD_getElem?]; exact e2
 simp [results, hr, e', e2', asAddr, hload, hload2]
end
end Go.T
namespace Go.T
open Go Go.RowKit
section
variable {P : Program} {fr : Fr} {ops : Array Oper} {A : As} {rest : List Oper} {K : As → List (As × Fx) → Prop} {d : Nat} {t ty' : TypeId} {p : String} {e : Array Edge} [T : k5 P]
theorem xk {x y : Operand} {tg Tb off : Nat} {l l' lr : List Ty} {ti : TI} (hx : A.op fr x = .ptr tg off) (hc : A.tag tg = some (.cells Tb l)) (h1 : fV tg) (hT : T.ef[ty']? = some ti) (hy : A.op fr y = .agg l') (hsz : ti.size = l'.length) (hlen : off + l'.length ≤ l.length) (ho : l'.all Ty.one = true) (hlr : l.take off ++ (l' ++ l.drop (off + l'.length)) = lr) (hdt : kN (bl lr) [tg] = true)
 (h : aj P fr ops rest (A.after { d := none, S := [tg], sets := [(tg, .cells Tb lr)], rs := cI x ++ cI y, rt := [tg] }) fun A' l'' => K A' ((A, { d := none, S := [tg], sets := [(tg, .cells Tb lr)], rs := cI x ++ cI y, rt := [tg] }) :: l'')) :
 aj P fr ops (⟨none, .store ty' x y, t, p, e, none⟩ :: rest) A K := by
 refine ⟨_, lA rfl rfl rfl (by simp) (by simpa using h1.1) (by simp) fun a w M wf hr ht => ?_, h⟩
 obtain ⟨hdx, hdy⟩ := op2 hr
 rw [hx] at hdx; rw [hy] at hdy
 obtain ⟨b, hb, ex⟩ := hdx
 obtain ⟨vs, ey, hvs⟩ := hdy
 obtain ⟨b', cs, hb', hh, hd⟩ := ht _ (cj hc) (by simp)
 obtain ⟨u, rfl⟩ : ∃ u, tg = u + 1 := ⟨tg - 1, by omega⟩
 have := wf.inj b b' u (by omega) hb hb'
 subst this
 have hl1 := cO hd
 have hl2 := cO hvs
 simp only [Array.length_toList] at hl1 hl2
 obtain ⟨h1', h2', h3'⟩ := jY (cs' := (cs.toList.take (off + 0) ++ vs.toList ++ cs.toList.drop (off + 0 + vs.toList.length)).toArray) (Tb := Tb) wf hb _ rfl
 have hones : ∀ v ∈ vs.toList, v.oneCell' = true := fun v hv => by
  obtain ⟨i, hi, hvi⟩ := List.getElem_of_mem hv
  have hlt : i < l'.length := by simp at hi; omega
  obtain ⟨u', hu', hdu⟩ := dg hvs i l'[i] (List.getElem?_eq_getElem hlt)
  rw [List.getElem?_eq_getElem hi, hvi] at hu'
  injection hu' with hu'
  subst hu'
  exact (l'[i]).isOne (List.all_eq_true.1 ho _ (List.getElem_mem hlt)) hdu
 refine ⟨_, ?_, M, h1', h2', trivial, ?_⟩
 ·have hst := run_storeCells_at (P := P) b off Tb vs.toList 0 cs w hh (by simp; omega) hones
  rw [lJ _ hh] at hst
  have hsz' : vs.size = ti.size := by omega
  simp only [Nat.add_zero] at hst ⊢
  simp [execOp, Instr.storeAt, Instr.sureAddr, ex, ey, storeVar, Value.cells, dW hT, hsz'] at hst ⊢
  rw [hst]; rfl
 intro z hz
 simp only [List.mem_singleton] at hz
 subst hz
 refine ⟨b, _, hb, h3', b8 h2' (by intro _ _ h; cases h) (fk hdt) ?_⟩
 subst hlr
 have hq := eF (mN off hd) (eF hvs (ko (off + l'.length) hd))
 rw [show l'.length = vs.toList.length by simp; omega] at hq ⊢
 simpa using hq
end
end Go.T
