/- Lemmas: the program and the reference walked, plain laws. -/
import Derived.Test.YtelbollidfdcjaaGreatFd
namespace Go.Proofs.YtelbollidfdcjaaGreat
open Go Go.T
set_option maxHeartbeats 8000000
def ownB (t u : Nat) (y : bD) : List Ty := [Ty.int .i64 y.days, Ty.vs t y.bins.length, Ty.sl dQ y.moves, Ty.vs u y.levels.length]
attribute [local irreducible] Md.D Md.Kw Md.nb Md.bs Md.first Md.gN Md.x9 Md.many Md.src Md.dst Md.pH Md.day Md.num Md.ms Md.cD Md.fF Md.most Md.hs Md.hU Md.L5 Md.nl Md.ls Md.mE cw ko mF lM qJ gq aT bN iO x7 Md.sJ Md.s8
attribute [local irreducible] iY fX nD qR jG jJ jI jK jF qu jD qw eJ gm qF gx ql nth fU dn af dy bodyPost Exit.then Exit.inBlock Code.wp Code.wpIn qh jH qi qX jC eT cZ cq bodyPostM eR
set_option maxRecDepth 100000 in
theorem Lz (d : Md) (hd : d.Ok) (h : d.s.Ok 1000) : eT Tryz.prog 17 [1000] [(1000, Cont.cells 149 (dA d.s))] [Ty.ptr 1000 0, Ty.int .i64 d.days, Ty.int .i64 d.bins, Ty.int .i64 d.moves, Ty.int .i64 d.levels] [(1000, Cont.cells 149 (dA d.sk)), (49, Cont.vec eH 39 d.hU), (246, Cont.vec dY 102 d.mE)] (Ty.jq [Ty.agg (ownB 49 246 d.cU), qM d.real]) := by
 refine dc Tryz.func17 rfl (by decide) Tryz.ntmps17 (by exact Nat.le_of_ble_eq_true rfl) fun w0 M0 => ?_
 have h0 : 0 ≤ d.s.taken ∧ d.s.taken + 1000 ≤ 4611686018427387904 := h
 have o1 := hd.days
 have o2 := hd.bins
 have o3 := hd.moves
 have o4 := hd.levels
 have hD := d.GY hd
 have hnb := d.EE hd
 have hmn := d.uT hd
 have hnl := d.KP hd
 have hs1 := cE d.s
 have hs2 := cE (aT d.s)
 have B := d.qE d.nb
 have b1 : d.first.length = d.nb := by unfold Md.first; exact B.len1
 have b2 : d.gN.length = d.nb := by unfold Md.gN; exact B.len2
 refine aE (aA ?_)
 refine cH rfl (by exact List.cons_ne_nil _ _) rfl ?_
 refine cH rfl (by exact List.cons_ne_nil _ _) rfl ?_
 refine aD (aC (aE (aA (oT rfl (bQ rfl ?_)))))
 refine bt [(1000, 1000)] [] [(1000, Cont.cells 149 (dA (aT d.s)))] (ur d.s ⟨by omega, by omega⟩ 1 d.days (by omega) (by omega)) rfl rfl (by repeat (first | exact bL | refine aH ?_ ?_ | exact dZ List.mem_cons_self | exact aM rfl rfl)) (b8 (a := 1000) (b := 1000) (by exact List.mem_cons_self) rfl (bC (by exact List.mem_cons_self) rfl rfl rfl) pre_nil) (bJ (a := 1000) (b := 1000) (by exact List.mem_cons_self) rfl (bC (by exact List.mem_cons_self) rfl rfl rfl) post_nil) (aM rfl rfl) ?_
 refine dS rfl rfl (by exact List.cons_ne_nil _ _) rfl (by repeat (first | exact (aY.nil : aY _ _ [] _) | (show aY _ _ ((_, _) :: _) _; apply aY.one; (· exact (rfl : _ = Ty.int _ _)); (· exact rfl)))) (by exact (rfl : _ = some [_, _, _, _])) ?_
 refine cH rfl (by exact List.cons_ne_nil _ _) rfl ?_
 refine cJ rfl rfl (by decide) rfl rfl rfl rfl rfl rfl ?_
 refine aD (aC (aE ?_))
 refine dN (B := live [(0, Ty.ptr 1000 0), (2, Ty.int .i64 d.bins), (3, Ty.int .i64 d.moves), (4, Ty.int .i64 d.levels), (10, Ty.ptr 11 0), (11, Ty.ptr 12 0), (12, Ty.ptr 13 0)] [(11, Cont.cells 27 [Ty.int .i64 0, Ty.ex (.slice none 0 0), Ty.ex (.slice none 0 0), Ty.ex (.slice none 0 0)]), (12, Cont.cells 30 [Ty.ex (.slice none 0 0), Ty.ex (.slice none 0 0)]), (13, Cont.cells 27 [Ty.int .i64 (iO d.s 1 d.days), Ty.ex (.slice none 0 0), Ty.ex (.slice none 0 0), Ty.ex (.slice none 0 0)]), (1000, Cont.cells 149 (dA (aT d.s)))]) ?_ ?_
 ·refine dK.mk' ?_ ?_
  ·(repeat (first | refine aB ?_ (Ty.aW _) | refine aB ?_ (Ty.aF _))); exact aJ
  refine aG rfl (Cont.aF _) ?_; refine aG rfl (Cont.aF _) ?_; refine aG rfl (Cont.eC ⟨Ty.aF _, Ty.aF _, Ty.aF _, Ty.aF _, trivial⟩) ?_; refine aG rfl (Cont.aF _) ?_; exact aI
 refine aA ?_
 refine cH rfl (by exact List.cons_ne_nil _ _) rfl ?_
 refine aD (aC (aE (aE ?_)))
 refine dN (B := live [(0, Ty.ptr 1000 0), (2, Ty.int .i64 d.bins), (3, Ty.int .i64 d.moves), (4, Ty.int .i64 d.levels), (10, Ty.ptr 11 0), (11, Ty.ptr 12 0), (12, Ty.ptr 13 0), (13, Ty.ptr 14 0)] [(11, Cont.cells 27 [Ty.int .i64 0, Ty.ex (.slice none 0 0), Ty.ex (.slice none 0 0), Ty.ex (.slice none 0 0)]), (12, Cont.cells 30 [Ty.ex (.slice none 0 0), Ty.ex (.slice none 0 0)]), (13, Cont.cells 27 [Ty.int .i64 (iO d.s 1 d.days), Ty.ex (.slice none 0 0), Ty.ex (.slice none 0 0), Ty.ex (.slice none 0 0)]), (14, Cont.cells 30 [Ty.ex (.slice none 0 0), Ty.ex (.slice none 0 0)]), (1000, Cont.cells 149 (dA (aT d.s)))]) ?_ ?_
 ·refine dK.mk' ?_ ?_
  ·(repeat (first | refine aB ?_ (Ty.aW _) | refine aB ?_ (Ty.aF _))); exact aJ
  refine aG rfl (Cont.aF _) ?_; refine aG rfl (Cont.aF _) ?_; refine aG rfl (Cont.aF _) ?_; refine aG rfl (Cont.aF _) ?_; refine aG rfl (Cont.aF _) ?_; exact aI
 refine aA (oT rfl (bQ rfl ?_))
 refine bt [(1000, 1000)] [] [(1000, Cont.cells 149 (dA (aT (aT d.s))))] (ur (aT d.s) ⟨by omega, by omega⟩ 1 d.bins (by omega) (by omega)) rfl rfl (by repeat (first | exact bL | refine aH ?_ ?_ | exact dZ List.mem_cons_self | exact aM rfl rfl)) (b8 (a := 1000) (b := 1000) (by exact List.mem_cons_self) rfl (bC (by exact List.mem_cons_self) rfl rfl rfl) pre_nil) (bJ (a := 1000) (b := 1000) (by exact List.mem_cons_self) rfl (bC (by exact List.mem_cons_self) rfl rfl rfl) post_nil) (aM rfl rfl) ?_
 refine bQ rfl (aD (aC ?_))
 refine fW (s := 31) rfl (Ty.ah (show iO (aT d.s) 1 d.bins = ((d.nb : Nat) : Int) from (show d.Kw = _ from hnb.2) ▸ (by unfold Md.Kw; rfl))) ?_
 refine gM (tg := 13) rfl (Cont.eC (l' := [Ty.int .i64 d.D, Ty.ex (.slice none 0 0), Ty.ex (.slice none 0 0), Ty.ex (.slice none 0 0)]) ⟨Ty.ah (by unfold Md.D; rfl), Ty.aF _, Ty.aF _, Ty.aF _, trivial⟩) ?_
 refine aq ?_
 refine cj (fun (k : {k : Nat // k ≤ d.nb}) => live [(0, Ty.ptr 1000 0), (3, Ty.int .i64 d.moves), (4, Ty.int .i64 d.levels), (10, Ty.ptr 11 0), (11, Ty.ptr 12 0), (12, Ty.ptr 13 0), (13, Ty.ptr 14 0), (31, Ty.int .i64 (d.nb : Nat)), (32, Ty.int .i64 (k.1 : Nat))] [(11, Cont.cells 27 [Ty.int .i64 0, Ty.ex (.slice none 0 0), Ty.ex (.slice none 0 0), Ty.ex (.slice none 0 0)]), (12, Cont.cells 30 [Ty.ex (.slice none 0 0), Ty.ex (.slice none 0 0)]), (13, Cont.cells 27 [Ty.int .i64 d.D, Ty.row eH 39 49 (d.bs k.1).1.2, Ty.ex (.slice none 0 0), Ty.ex (.slice none 0 0)]), (14, Cont.cells 30 [Ty.row cT 3 40 (d.bs k.1).1.1, Ty.ex (.slice none 0 0)]), (1000, Cont.cells 149 (dA (d.bs k.1).2))]) (fun k => d.nb - k.1) (⟨0, by omega⟩) ?_ fun k => ?_
 ·(refine dK.mk' ?_ ?_ <;> (repeat' (first | exact aJ | exact aI | exact dO | refine aB ?_ (Ty.aW _) | refine aB ?_ (Ty.aF _) | refine aG rfl (Cont.aF _) ?_ | refine aG rfl (Cont.dM ?_) ?_ | refine bY ?_ (Ty.aF _) | refine bY ?_ ?_)))
  all_goals first | exact Ty.ah (congrArg (fun p => p.2.mixed) (F5 d)) | exact Ty.ah (congrArg (fun p => p.2.taken) (F5 d)) | exact Ty.fY (congrArg (fun p => p.2.grain) (F5 d)) | exact jw (congrArg (fun p => p.1.1) (F5 d)).symm | exact jw (congrArg (fun p => p.1.2) (F5 d)).symm
 have hk := k.2
 have BK := d.qE k.1
 have c1 := BK.len1
 have c2 := BK.len2
 have c3 := BK.taken
 have c4 := cQ (d.bs k.1).2 60
 have c5 := cE (d.bs k.1).2
 refine aE (aA (bE rfl rfl rfl (aD (aC (aE ?_)))))
 refine au rfl (fun hc1 => ?_) (fun hc1 => ?_)
 ·
  refine ak (aC (aE (aq (aE (aA (oT rfl ?_))))))
  refine bt [(1000, 1000)] [] [(1000, Cont.cells 149 (dA (aT (d.bs k.1).2)))] (g9 (d.bs k.1).2 ⟨by omega, by omega⟩ 60) rfl rfl (by repeat (first | exact bL | refine aH ?_ ?_ | exact dZ List.mem_cons_self | exact aM rfl rfl)) (b8 (a := 1000) (b := 1000) (by exact List.mem_cons_self) rfl (bC (by exact List.mem_cons_self) rfl rfl rfl) pre_nil) (bJ (a := 1000) (b := 1000) (by exact List.mem_cons_self) rfl (bC (by exact List.mem_cons_self) rfl rfl rfl) post_nil) (aM rfl rfl) ?_
  refine cF rfl (aD (aC (aE (aA ?_))))
  refine aN rfl rfl rfl rfl rfl (by decide) ?_
  refine aX rfl rfl (by decide) rfl rfl rfl ?_
  refine bQ rfl ?_
  refine bp (E := cT) (xs := [bN (d.bs k.1).2 60]) rfl rfl rfl rfl rfl (by decide) (by decide) (by repeat (first | exact (aY.nil : aY _ _ [] _) | (show aY _ _ ((_, _) :: _) _; apply aY.one; (· exact (rfl : _ = Ty.int _ _)); (· exact rfl)))) (by exact rfl) rfl ?_
  refine fP rfl rfl (by decide) rfl rfl rfl rfl rfl rfl (by decide) (by (simp <;> omega)) (by (simp <;> omega)) ?_
  refine aN rfl rfl rfl rfl rfl (by decide) ?_
  refine cx rfl rfl (by decide) rfl rfl (by exact (rfl : _ = Ty.row _ _ _ _)) rfl (by exact Nat.le_of_ble_eq_true rfl) rfl rfl (by exact rfl) ?_
  refine aD (aC ?_)
  refine dN (B := live [(0, Ty.ptr 1000 0), (3, Ty.int .i64 d.moves), (4, Ty.int .i64 d.levels), (10, Ty.ptr 11 0), (11, Ty.ptr 12 0), (12, Ty.ptr 13 0), (13, Ty.ptr 14 0), (14, Ty.int .i64 (bN (d.bs k.1).2 60)), (31, Ty.int .i64 (d.nb : Nat)), (32, Ty.int .i64 (k.1 : Nat))] [(11, Cont.cells 27 [Ty.int .i64 0, Ty.ex (.slice none 0 0), Ty.ex (.slice none 0 0), Ty.ex (.slice none 0 0)]), (12, Cont.cells 30 [Ty.ex (.slice none 0 0), Ty.ex (.slice none 0 0)]), (13, Cont.cells 27 [Ty.int .i64 d.D, Ty.row eH 39 49 (d.bs k.1).1.2, Ty.ex (.slice none 0 0), Ty.ex (.slice none 0 0)]), (14, Cont.cells 30 [Ty.row cT 3 40 ((d.bs k.1).1.1 ++ [bN (d.bs k.1).2 60]), Ty.ex (.slice none 0 0)]), (1000, Cont.cells 149 (dA (aT (d.bs k.1).2)))]) ?_ ?_
  ·refine dK.mk' ?_ ?_
   ·(repeat (first | refine aB ?_ (Ty.aW _) | refine aB ?_ (Ty.aF _))); exact aJ
   refine aG rfl (Cont.aF _) ?_; refine aG rfl (Cont.aF _) ?_; refine aG rfl (Cont.aF _) ?_; refine aG rfl (Cont.eC ⟨Ty.aF _, Ty.aF _, trivial⟩) ?_; refine aG rfl (Cont.aF _) ?_; exact aI
  refine cW mixed rfl ?_
  refine aN rfl rfl rfl rfl rfl (by decide) ?_
  refine aX rfl rfl (by decide) rfl rfl rfl ?_
  refine oT rfl (bQ rfl ?_)
  refine bt [(1000, 1000)] [] [(1000, Cont.cells 149 (dA (aT (aT (aT (d.bs k.1).2)))))] (CP (aT (d.bs k.1).2) ⟨by omega, by omega⟩ (bN (d.bs k.1).2 60) 12 (by omega) (by omega)) rfl rfl (by repeat (first | exact bL | refine aH ?_ ?_ | exact dZ List.mem_cons_self | exact aM rfl rfl)) (b8 (a := 1000) (b := 1000) (by exact List.mem_cons_self) rfl (bC (by exact List.mem_cons_self) rfl rfl rfl) pre_nil) (bJ (a := 1000) (b := 1000) (by exact List.mem_cons_self) rfl (bC (by exact List.mem_cons_self) rfl rfl rfl) post_nil) (aM rfl rfl) ?_
  refine dS rfl rfl (by exact List.cons_ne_nil _ _) rfl (by repeat (first | exact (aY.nil : aY _ _ [] _) | (show aY _ _ ((_, _) :: _) _; apply aY.one; (· exact (rfl : _ = Ty.int _ _)); (· exact rfl)) | (show aY _ _ ((_, _) :: _) _; apply aY.agg; (· exact (rfl : _ = Ty.agg _))))) (by exact (rfl : _ = some [_, _, _])) ?_
  refine bp (E := eH) (xs := [⟨300, gq (aT (d.bs k.1).2) (bN (d.bs k.1).2 60) 12⟩]) rfl rfl rfl rfl rfl (by decide) (by decide) (by repeat (first | exact (aY.nil : aY _ _ [] _) | (show aY _ _ ((_, _) :: _) _; apply aY.agg; (· exact (rfl : _ = Ty.agg _))))) (by exact rfl) rfl ?_
  refine fP rfl rfl (by decide) rfl rfl rfl rfl rfl rfl (by decide) (by (simp <;> omega)) (by (simp <;> omega)) ?_
  refine aN rfl rfl rfl rfl rfl (by decide) ?_
  refine cx rfl rfl (by decide) rfl rfl (by exact (rfl : _ = Ty.row _ _ _ _)) rfl (by exact Nat.le_of_ble_eq_true rfl) rfl rfl (by exact rfl) ?_
  refine aD ?_
  refine ⟨by kernel_rfl, ?_⟩
  refine bV (aC (aA ?_))
  refine b9 rfl rfl (by omega) (by omega) ?_
  refine bQ rfl (aD ?_)
  refine bZ (⟨k.1 + 1, by omega⟩) ?_ (by show d.nb - (k.1 + 1) < d.nb - k.1; omega)
  (refine dK.mk' ?_ ?_ <;> (repeat' (first | exact aJ | exact aI | exact dO | refine aB ?_ (Ty.aW _) | refine aB ?_ (Ty.aF _) | refine aG rfl (Cont.aF _) ?_ | refine aG rfl (Cont.dM ?_) ?_ | refine bY ?_ (Ty.aF _) | refine bY ?_ ?_)))
  all_goals skip
  all_goals first | exact Ty.ah (congrArg (fun p => p.2.mixed) (IG d _)) | exact Ty.ah (congrArg (fun p => p.2.taken) (IG d _)) | exact Ty.fY (congrArg (fun p => p.2.grain) (IG d _)) | exact Ty.fo (congrArg (fun p => p.1.1) (IG d _)) | exact Ty.fo (congrArg (fun p => p.1.2) (IG d _))
 refine cg (aR (aR (bA rfl (aC (aE ?_)))))
 obtain ⟨k, hk⟩ := k
 obtain rfl : k = d.nb := by have h1 : ¬ (k : Int) < (d.nb : Int) := hc1; have h2 : k ≤ d.nb := hk; omega
 have b3 := B.taken
 have b4 := cE (d.bs d.nb).2
 refine aA (oT rfl (bQ rfl ?_))
 refine b9 rfl rfl (by omega) (by omega) ?_
 refine bt [(1000, 1000)] [] [(1000, Cont.cells 149 (dA (aT (d.bs d.nb).2)))] (g9 (d.bs d.nb).2 ⟨by omega, by omega⟩ _) rfl rfl (by repeat (first | exact bL | refine aH ?_ ?_ | exact dZ List.mem_cons_self | exact aM rfl rfl)) (b8 (a := 1000) (b := 1000) (by exact List.mem_cons_self) rfl (bC (by exact List.mem_cons_self) rfl rfl rfl) pre_nil) (bJ (a := 1000) (b := 1000) (by exact List.mem_cons_self) rfl (bC (by exact List.mem_cons_self) rfl rfl rfl) post_nil) (aM rfl rfl) ?_
 refine cF rfl (aD (aC (aE (aE ?_))))
 refine fW (s := 15) rfl (Ty.ah (show bN (d.bs d.nb).2 (d.moves + 1) = ((d.many : Nat) : Int) from hmn.2 ▸ (by unfold Md.x9; rfl))) ?_
 refine gM (tg := 13) rfl (Cont.eC (l' := [Ty.int .i64 d.D, Ty.row eH 39 49 d.gN, Ty.ex (.slice none 0 0), Ty.ex (.slice none 0 0)]) ⟨Ty.aF _, Ty.fo (by unfold Md.gN; rfl), Ty.aF _, Ty.aF _, trivial⟩) ?_
 refine gM (tg := 14) rfl (Cont.eC (l' := [Ty.row cT 3 40 d.first, Ty.ex (.slice none 0 0)]) ⟨Ty.fo (by unfold Md.first; rfl), Ty.aF _, trivial⟩) ?_
 refine aA (bQ rfl (bQ rfl (aD (aC (aq ?_)))))
 refine cj (fun (i : {i : Nat // i ≤ d.many}) => live [(0, Ty.ptr 1000 0), (4, Ty.int .i64 d.levels), (10, Ty.ptr 11 0), (11, Ty.ptr 12 0), (12, Ty.ptr 13 0), (13, Ty.ptr 14 0), (15, Ty.int .i64 (d.many : Nat)), (56, Ty.int .i64 (d.many : Nat)), (57, Ty.int .i64 (i.1 : Nat))] [(11, Cont.cells 27 [Ty.int .i64 0, Ty.ex (.slice none 0 0), Ty.ex (.slice none 0 0), Ty.ex (.slice none 0 0)]), (12, Cont.cells 30 [Ty.ex (.slice none 0 0), Ty.ex (.slice none 0 0)]), (13, Cont.cells 27 [Ty.int .i64 d.D, Ty.row eH 39 49 d.gN, Ty.row dQ 41 175 (d.ms i.1).1.1, Ty.ex (.slice none 0 0)]), (14, Cont.cells 30 [Ty.row cT 3 40 d.first, Ty.row cT 3 180 (d.ms i.1).1.2]), (1000, Cont.cells 149 (dA (d.ms i.1).2))]) (fun i => d.many - i.1) (⟨0, by omega⟩) ?_ fun i => ?_
 ·(refine dK.mk' ?_ ?_ <;> (repeat' (first | exact aJ | exact aI | exact dO | refine aB ?_ (Ty.aW _) | refine aB ?_ (Ty.aF _) | refine aG rfl (Cont.aF _) ?_ | refine aG rfl (Cont.dM ?_) ?_ | refine bY ?_ (Ty.aF _) | refine bY ?_ ?_)))
  all_goals first | exact Ty.ah (congrArg (fun p => p.2.mixed) (IS d)) | exact Ty.ah (congrArg (fun p => p.2.taken) (IS d)) | exact Ty.fY (congrArg (fun p => p.2.grain) (IS d)) | exact jw (congrArg (fun p => p.1.1) (IS d)).symm | exact jw (congrArg (fun p => p.1.2) (IS d)).symm
 have hi := i.2
 have hP := d.qH hd i.1 hi
 have e1 := hP.len1
 have e2 := hP.len2
 have e3 := hP.taken
 have e4 := d.xK (d.ms i.1).2
 have e5 := cE (d.pH (d.ms i.1).2)
 have e6 := cQ (d.pH (d.ms i.1).2) 40
 have e7 := cE (d.ms i.1).2
 have e8 := cE (aT (d.ms i.1).2)
 refine aE (aA (bE rfl rfl rfl (aD (aC (aE ?_)))))
 refine au rfl (fun hc2 => ?_) (fun hc2 => ?_)
 ·
  refine ak (aC (aE (aq (aE (aA (bQ rfl (cF rfl (aD (aC ?_)))))))))
  refine aE ?_
  have hdv := vS (D := d.D) (i := i.1) (n := d.many) hD.1 (by omega)
  have hmul : 0 ≤ (i.1 : Int) * d.D ∧ (i.1 : Int) * d.D ≤ 10 * 5 := ⟨Int.mul_nonneg (by omega) (by omega), Int.mul_le_mul (by omega) hD.2 (by omega) (by omega)⟩
  have hday : 0 ≤ d.day i.1 ∧ d.day i.1 < d.D := by unfold Md.day; exact hdv.1
  have hCI : ∀ (b t : Int), 0 ≤ b → b.toNat < d.first.length → 0 ≤ cw (d.yd (d.ms i.1).1.1) (d.am (d.ms i.1).1.2) b t ∧ cw (d.yd (d.ms i.1).1.1) (d.am (d.ms i.1).1.2) b t ≤ 300 := fun b t g0 g1 => by
   have := hP.cont b.toNat t (by omega)
   rwa [Int.toNat_of_nonneg g0] at this
  refine cW mixed rfl (bQ rfl ?_)
  refine aN rfl rfl rfl rfl rfl (by decide) ?_
  refine aX rfl rfl (by decide) rfl rfl rfl ?_
  refine D4 rfl rfl (by omega) (by omega) ?_
  refine bQ rfl ?_
  refine Mt rfl rfl (by omega) ?_
  refine oT rfl ?_
  refine aN rfl rfl rfl rfl rfl (by decide) ?_
  refine aX rfl rfl (by decide) rfl rfl rfl ?_
  refine mZ rfl rfl rfl ?_
  refine gw rfl rfl (by omega) (by omega) ?_
  refine bt [(1000, 1000)] [] [(1000, Cont.cells 149 (dA (aT (d.ms i.1).2)))] (ur (d.ms i.1).2 ⟨by omega, by omega⟩ (-1) ((d.gN.length : Int) - 1) (by omega) (by omega)) rfl rfl (by repeat (first | exact bL | refine aH ?_ ?_ | exact dZ List.mem_cons_self | exact aM rfl rfl)) (b8 (a := 1000) (b := 1000) (by exact List.mem_cons_self) rfl (bC (by exact List.mem_cons_self) rfl rfl rfl) pre_nil) (bJ (a := 1000) (b := 1000) (by exact List.mem_cons_self) rfl (bC (by exact List.mem_cons_self) rfl rfl rfl) post_nil) (aM rfl rfl) ?_
  refine oT rfl ?_
  refine aN rfl rfl rfl rfl rfl (by decide) ?_
  refine aX rfl rfl (by decide) rfl rfl rfl ?_
  refine mZ rfl rfl rfl ?_
  refine gw rfl rfl (by omega) (by omega) ?_
  refine bt [(1000, 1000)] [] [(1000, Cont.cells 149 (dA (aT (aT (d.ms i.1).2))))] (ur (aT (d.ms i.1).2) ⟨by omega, by omega⟩ (-1) ((d.gN.length : Int) - 1) (by omega) (by omega)) rfl rfl (by repeat (first | exact bL | refine aH ?_ ?_ | exact dZ List.mem_cons_self | exact aM rfl rfl)) (b8 (a := 1000) (b := 1000) (by exact List.mem_cons_self) rfl (bC (by exact List.mem_cons_self) rfl rfl rfl) pre_nil) (bJ (a := 1000) (b := 1000) (by exact List.mem_cons_self) rfl (bC (by exact List.mem_cons_self) rfl rfl rfl) post_nil) (aM rfl rfl) ?_
  refine dS rfl rfl (by exact List.cons_ne_nil _ _) rfl (by repeat (first | exact (aY.nil : aY _ _ [] _) | (show aY _ _ ((_, _) :: _) _; apply aY.one; (· exact (rfl : _ = Ty.int _ _)); (· exact rfl)))) (by exact rfl) ?_
  refine cH rfl (by exact List.cons_ne_nil _ _) rfl ?_
  refine cJ rfl rfl (by decide) rfl rfl rfl rfl rfl rfl ?_
  refine aD ?_
  refine ⟨by kernel_rfl, ?_⟩
  refine aC ?_
  refine lN (J := live [(0, Ty.ptr 1000 0), (4, Ty.int .i64 d.levels), (10, Ty.ptr 11 0), (11, Ty.ptr 12 0), (12, Ty.ptr 13 0), (13, Ty.ptr 14 0), (15, Ty.int .i64 (d.many : Nat)), (56, Ty.int .i64 (d.many : Nat)), (57, Ty.int .i64 (i.1 : Nat)), (17, Ty.ptr 18 0)] [(11, Cont.cells 27 [Ty.int .i64 0, Ty.ex (.slice none 0 0), Ty.ex (.slice none 0 0), Ty.ex (.slice none 0 0)]), (12, Cont.cells 30 [Ty.ex (.slice none 0 0), Ty.ex (.slice none 0 0)]), (13, Cont.cells 27 [Ty.int .i64 d.D, Ty.row eH 39 49 d.gN, Ty.row dQ 41 175 (d.ms i.1).1.1, Ty.ex (.slice none 0 0)]), (14, Cont.cells 30 [Ty.row cT 3 40 d.first, Ty.row cT 3 180 (d.ms i.1).1.2]), (18, Cont.cells 41 [Ty.int .i64 (d.day i.1), Ty.int .i64 (d.src (d.ms i.1).2), Ty.int .i64 (d.dst (d.ms i.1).2), Ty.int .i64 0, Ty.int .i64 0]), (1000, Cont.cells 149 (dA (d.pH (d.ms i.1).2)))]) ?_ ?_
  ·
   refine aE ?_
   refine gM (tg := 18) rfl (Cont.eC (l' := [Ty.int .i64 (d.day i.1), Ty.int .i64 (d.sJ (d.ms i.1).2), Ty.int .i64 (d.s8 (d.ms i.1).2), Ty.int .i64 0, Ty.int .i64 0]) ⟨Ty.ah (by unfold Md.day; exact IntWalk.i64_in _ (by have := hdv.1; omega)), Ty.ah (by unfold Md.sJ; rw [b2]), Ty.ah (by unfold Md.s8; rw [b2]), Ty.aF _, Ty.aF _, trivial⟩) ?_
   refine dN (B := live [(0, Ty.ptr 1000 0), (4, Ty.int .i64 d.levels), (10, Ty.ptr 11 0), (11, Ty.ptr 12 0), (12, Ty.ptr 13 0), (13, Ty.ptr 14 0), (15, Ty.int .i64 (d.many : Nat)), (56, Ty.int .i64 (d.many : Nat)), (57, Ty.int .i64 (i.1 : Nat)), (17, Ty.ptr 18 0)] [(11, Cont.cells 27 [Ty.int .i64 0, Ty.ex (.slice none 0 0), Ty.ex (.slice none 0 0), Ty.ex (.slice none 0 0)]), (12, Cont.cells 30 [Ty.ex (.slice none 0 0), Ty.ex (.slice none 0 0)]), (13, Cont.cells 27 [Ty.int .i64 d.D, Ty.row eH 39 49 d.gN, Ty.row dQ 41 175 (d.ms i.1).1.1, Ty.ex (.slice none 0 0)]), (14, Cont.cells 30 [Ty.row cT 3 40 d.first, Ty.row cT 3 180 (d.ms i.1).1.2]), (18, Cont.cells 41 [Ty.int .i64 (d.day i.1), Ty.int .i64 (d.sJ (d.ms i.1).2), Ty.int .i64 (d.s8 (d.ms i.1).2), Ty.int .i64 0, Ty.int .i64 0]), (1000, Cont.cells 149 (dA (aT (aT (d.ms i.1).2))))]) ?_ ?_
   ·refine dK.mk' ?_ ?_
    ·(repeat (first | refine aB ?_ (Ty.aW _) | refine aB ?_ (Ty.aF _))); exact aJ
    refine aG rfl (Cont.aF _) ?_; refine aG rfl (Cont.aF _) ?_; refine aG rfl (Cont.aF _) ?_; refine aG rfl (Cont.aF _) ?_; refine aG rfl (Cont.aF _) ?_; refine aG rfl (Cont.aF _) ?_; exact aI
   refine aA ?_
   refine aN rfl rfl rfl rfl rfl (by decide) ?_
   refine aX rfl rfl (by decide) rfl rfl rfl ?_
   refine aN rfl rfl rfl rfl rfl (by decide) ?_
   refine aX rfl rfl (by decide) rfl rfl rfl ?_
   refine bE rfl rfl rfl (aD (aC ?_))
   refine au rfl (fun hc3 => ?_) (fun hc3 => ?_)
   ·
    refine aA (oT rfl ?_)
    refine aN rfl rfl rfl rfl rfl (by decide) ?_
    refine aX rfl rfl (by decide) rfl rfl rfl ?_
    refine mZ rfl rfl rfl ?_
    refine bt [(1000, 1000)] [] [(1000, Cont.cells 149 (dA (aT (aT (aT (d.ms i.1).2)))))] (g9 (aT (aT (d.ms i.1).2)) ⟨by omega, by omega⟩ _) rfl rfl (by repeat (first | exact bL | refine aH ?_ ?_ | exact dZ List.mem_cons_self | exact aM rfl rfl)) (b8 (a := 1000) (b := 1000) (by exact List.mem_cons_self) rfl (bC (by exact List.mem_cons_self) rfl rfl rfl) pre_nil) (bJ (a := 1000) (b := 1000) (by exact List.mem_cons_self) rfl (bC (by exact List.mem_cons_self) rfl rfl rfl) post_nil) (aM rfl rfl) ?_
    refine aN rfl rfl rfl rfl rfl (by decide) ?_
    refine cx rfl rfl (by decide) rfl rfl (by exact (rfl : _ = Ty.int _ _)) rfl (by exact Nat.le_of_ble_eq_true rfl) rfl rfl (by exact rfl) ?_
    refine aN rfl rfl rfl rfl rfl (by decide) ?_
    refine cx rfl rfl (by decide) rfl rfl (by exact (rfl : _ = Ty.int _ _)) rfl (by exact Nat.le_of_ble_eq_true rfl) rfl rfl (by exact rfl) ?_
    refine aD (fT ?_)
    (refine dK.mk' ?_ ?_ <;> (repeat' (first | exact aJ | exact aI | exact dO | refine aB ?_ (Ty.aW _) | refine aB ?_ (Ty.aF _) | refine aG rfl (Cont.aF _) ?_ | refine aG rfl (Cont.dM ?_) ?_ | refine bY ?_ (Ty.aF _) | refine bY ?_ ?_)))
    all_goals first | exact Ty.ah (Bi hc3).1.1 | exact Ty.ah (by rw [b2]; exact (Bi hc3).1.2) | exact Ty.ah (congrArg (fun p => p.mixed) (Bi hc3).2) | exact Ty.ah (congrArg (fun p => p.taken) (Bi hc3).2) | exact Ty.fY (congrArg (fun p => p.grain) (Bi hc3).2)
   refine ak (fT ?_)
   (refine dK.mk' ?_ ?_ <;> (repeat' (first | exact aJ | exact aI | exact dO | refine aB ?_ (Ty.aW _) | refine aB ?_ (Ty.aF _) | refine aG rfl (Cont.aF _) ?_ | refine aG rfl (Cont.dM ?_) ?_ | refine bY ?_ (Ty.aF _) | refine bY ?_ ?_)))
   all_goals first | exact Ty.ah (Av hc3).1.1 | exact Ty.ah (Av hc3).1.2 | exact Ty.ah (congrArg (fun p => p.mixed) (Av hc3).2) | exact Ty.ah (congrArg (fun p => p.taken) (Av hc3).2) | exact Ty.fY (congrArg (fun p => p.grain) (Av hc3).2)
  refine aE (aA (oT rfl ?_))
  refine bt [(1000, 1000)] [] [(1000, Cont.cells 149 (dA (aT (d.pH (d.ms i.1).2))))] (g9 (d.pH (d.ms i.1).2) ⟨by omega, by omega⟩ 40) rfl rfl (by repeat (first | exact bL | refine aH ?_ ?_ | exact dZ List.mem_cons_self | exact aM rfl rfl)) (b8 (a := 1000) (b := 1000) (by exact List.mem_cons_self) rfl (bC (by exact List.mem_cons_self) rfl rfl rfl) pre_nil) (bJ (a := 1000) (b := 1000) (by exact List.mem_cons_self) rfl (bC (by exact List.mem_cons_self) rfl rfl rfl) post_nil) (aM rfl rfl) ?_
  refine cF rfl (aD (aC ?_))
  refine lN (J := live [(0, Ty.ptr 1000 0), (4, Ty.int .i64 d.levels), (10, Ty.ptr 11 0), (11, Ty.ptr 12 0), (12, Ty.ptr 13 0), (13, Ty.ptr 14 0), (15, Ty.int .i64 (d.many : Nat)), (56, Ty.int .i64 (d.many : Nat)), (57, Ty.int .i64 (i.1 : Nat)), (17, Ty.ptr 18 0), (18, Ty.int .i64 (ko (d.yd (d.ms i.1).1.1) (d.am (d.ms i.1).1.2) (d.mv (d.ms i.1).2 i.1) (bN (d.pH (d.ms i.1).2) 40)))] [(11, Cont.cells 27 [Ty.int .i64 0, Ty.ex (.slice none 0 0), Ty.ex (.slice none 0 0), Ty.ex (.slice none 0 0)]), (12, Cont.cells 30 [Ty.ex (.slice none 0 0), Ty.ex (.slice none 0 0)]), (13, Cont.cells 27 [Ty.int .i64 d.D, Ty.row eH 39 49 d.gN, Ty.row dQ 41 175 (d.ms i.1).1.1, Ty.ex (.slice none 0 0)]), (14, Cont.cells 30 [Ty.row cT 3 40 d.first, Ty.row cT 3 180 (d.ms i.1).1.2]), (18, Cont.cells 41 [Ty.int .i64 (d.day i.1), Ty.int .i64 (d.src (d.ms i.1).2), Ty.int .i64 (d.dst (d.ms i.1).2), Ty.int .i64 0, Ty.int .i64 0]), (1000, Cont.cells 149 (dA (aT (d.pH (d.ms i.1).2))))]) ?_ ?_
  ·
   refine aE (aA ?_)
   refine aN rfl rfl rfl rfl rfl (by decide) ?_
   refine aX rfl rfl (by decide) rfl rfl rfl ?_
   refine bE rfl rfl rfl (aD (aC ?_))
   refine dJ rfl (fun hc4 => ?_) (fun hc4 => ?_)
   ·
    refine aA (bQ rfl ?_)
    refine bU rfl rfl (by decide) rfl rfl (by exact Nat.le_of_ble_eq_true rfl) ?_
    refine bU rfl rfl (by decide) rfl rfl (by exact Nat.le_of_ble_eq_true rfl) ?_
    refine aN rfl rfl rfl rfl rfl (by decide) ?_
    refine aX rfl rfl (by decide) rfl rfl rfl ?_
    refine aN rfl rfl rfl rfl rfl (by decide) ?_
    refine aX rfl rfl (by decide) rfl rfl rfl ?_
    refine dW [49, 175, 40, 180] (iF (d.yd (d.ms i.1).1.1) (d.am (d.ms i.1).1.2) (oc hd hi hP) (d.src (d.ms i.1).2) (d.day i.1) (zS hd hc4 b1).1 (zS hd hc4 b1).2) rfl (aK (gV (aK (aa (bH rfl rfl)) (aK (aa (fC rfl)) (aK (aa (fC rfl)) (aK (aa oF) bW))))) (aK (gV (aK (aa (fC rfl)) (aK (aa (fC rfl)) bW))) (aK (aa (bH rfl rfl)) (aK (aa (bH rfl rfl)) bW)))) (by exact dF _ _) ?_
    refine uH rfl rfl (cF rfl (aD (fT ?_)))
    (refine dK.mk' ?_ ?_ <;> (repeat' (first | exact aJ | exact aI | refine aB ?_ (Ty.aW _) | refine aB ?_ (Ty.aF _) | refine aG rfl (Cont.aF _) ?_ | refine aB ?_ ?_)))
    all_goals exact Ty.ah (LC hc4)
   refine ak (fT ?_)
   (refine dK.mk' ?_ ?_ <;> (repeat' (first | exact aJ | exact aI | refine aB ?_ (Ty.aW _) | refine aB ?_ (Ty.aF _) | refine aG rfl (Cont.aF _) ?_ | refine aB ?_ ?_)))
   all_goals exact Ty.ah (Mq hc4)
  refine lN (J := live [(0, Ty.ptr 1000 0), (4, Ty.int .i64 d.levels), (10, Ty.ptr 11 0), (11, Ty.ptr 12 0), (12, Ty.ptr 13 0), (13, Ty.ptr 14 0), (15, Ty.int .i64 (d.many : Nat)), (56, Ty.int .i64 (d.many : Nat)), (57, Ty.int .i64 (i.1 : Nat)), (17, Ty.ptr 18 0), (18, Ty.int .i64 (mF (d.yd (d.ms i.1).1.1) (d.am (d.ms i.1).1.2) (d.mv (d.ms i.1).2 i.1) (ko (d.yd (d.ms i.1).1.1) (d.am (d.ms i.1).1.2) (d.mv (d.ms i.1).2 i.1) (bN (d.pH (d.ms i.1).2) 40))))] [(11, Cont.cells 27 [Ty.int .i64 0, Ty.ex (.slice none 0 0), Ty.ex (.slice none 0 0), Ty.ex (.slice none 0 0)]), (12, Cont.cells 30 [Ty.ex (.slice none 0 0), Ty.ex (.slice none 0 0)]), (13, Cont.cells 27 [Ty.int .i64 d.D, Ty.row eH 39 49 d.gN, Ty.row dQ 41 175 (d.ms i.1).1.1, Ty.ex (.slice none 0 0)]), (14, Cont.cells 30 [Ty.row cT 3 40 d.first, Ty.row cT 3 180 (d.ms i.1).1.2]), (18, Cont.cells 41 [Ty.int .i64 (d.day i.1), Ty.int .i64 (d.src (d.ms i.1).2), Ty.int .i64 (d.dst (d.ms i.1).2), Ty.int .i64 0, Ty.int .i64 0]), (1000, Cont.cells 149 (dA (aT (d.pH (d.ms i.1).2))))]) ?_ ?_
  ·
   refine aE (aA ?_)
   refine aN rfl rfl rfl rfl rfl (by decide) ?_
   refine aX rfl rfl (by decide) rfl rfl rfl ?_
   refine bE rfl rfl rfl (aD (aC ?_))
   refine dJ rfl (fun hc5 => ?_) (fun hc5 => ?_)
   ·
    have hq := hCI (d.dst (d.ms i.1).2) (d.day i.1 + 1) (z3 hd hc5 b1).1 (z3 hd hc5 b1).2
    refine aA (bQ rfl ?_)
    refine bU rfl rfl (by decide) rfl rfl (by exact Nat.le_of_ble_eq_true rfl) ?_
    refine bU rfl rfl (by decide) rfl rfl (by exact Nat.le_of_ble_eq_true rfl) ?_
    refine aN rfl rfl rfl rfl rfl (by decide) ?_
    refine aX rfl rfl (by decide) rfl rfl rfl ?_
    refine aN rfl rfl rfl rfl rfl (by decide) ?_
    refine aX rfl rfl (by decide) rfl rfl rfl ?_
    refine b9 rfl rfl (by omega) (by omega) ?_
    refine dW [49, 175, 40, 180] (iF (d.yd (d.ms i.1).1.1) (d.am (d.ms i.1).1.2) (oc hd hi hP) (d.dst (d.ms i.1).2) (d.day i.1 + 1) (z3 hd hc5 b1).1 (z3 hd hc5 b1).2) rfl (aK (gV (aK (aa (bH rfl rfl)) (aK (aa (fC rfl)) (aK (aa (fC rfl)) (aK (aa oF) bW))))) (aK (gV (aK (aa (fC rfl)) (aK (aa (fC rfl)) bW))) (aK (aa (bH rfl rfl)) (aK (aa (bH rfl rfl)) bW)))) (by exact dF _ _) ?_
    refine gw rfl rfl (by omega) (by omega) ?_
    refine uH rfl rfl (cF rfl (aD (fT ?_)))
    (refine dK.mk' ?_ ?_ <;> (repeat' (first | exact aJ | exact aI | refine aB ?_ (Ty.aW _) | refine aB ?_ (Ty.aF _) | refine aG rfl (Cont.aF _) ?_ | refine aB ?_ ?_)))
    all_goals exact Ty.ah (Kf hc5)
   refine ak (fT ?_)
   (refine dK.mk' ?_ ?_ <;> (repeat' (first | exact aJ | exact aI | refine aB ?_ (Ty.aW _) | refine aB ?_ (Ty.aF _) | refine aG rfl (Cont.aF _) ?_ | refine aB ?_ ?_)))
   all_goals exact Ty.ah (MD hc5)
  refine aE (aE (aA ?_))
  refine aN rfl rfl rfl rfl rfl (by decide) ?_
  refine aX rfl rfl (by decide) rfl rfl rfl ?_
  refine mZ rfl rfl rfl (bQ rfl (aD (aC (aq ?_))))
  refine cj (fun (k : {k : Nat // k ≤ (d.ms i.1).1.1.length}) => live [(0, Ty.ptr 1000 0), (4, Ty.int .i64 d.levels), (10, Ty.ptr 11 0), (11, Ty.ptr 12 0), (12, Ty.ptr 13 0), (13, Ty.ptr 14 0), (15, Ty.int .i64 (d.many : Nat)), (56, Ty.int .i64 (d.many : Nat)), (57, Ty.int .i64 (i.1 : Nat)), (17, Ty.ptr 18 0), (18, Ty.int .i64 (lM (d.yd (d.ms i.1).1.1) (d.am (d.ms i.1).1.2) (d.mv (d.ms i.1).2 i.1) (mF (d.yd (d.ms i.1).1.1) (d.am (d.ms i.1).1.2) (d.mv (d.ms i.1).2 i.1) (ko (d.yd (d.ms i.1).1.1) (d.am (d.ms i.1).1.2) (d.mv (d.ms i.1).2 i.1) (bN (d.pH (d.ms i.1).2) 40))) k.1)), (120, Ty.row dQ 41 175 (d.ms i.1).1.1), (121, Ty.int .i64 (d.ms i.1).1.1.length), (122, Ty.int .i64 (k.1 : Nat))] [(11, Cont.cells 27 [Ty.int .i64 0, Ty.ex (.slice none 0 0), Ty.ex (.slice none 0 0), Ty.ex (.slice none 0 0)]), (12, Cont.cells 30 [Ty.ex (.slice none 0 0), Ty.ex (.slice none 0 0)]), (13, Cont.cells 27 [Ty.int .i64 d.D, Ty.row eH 39 49 d.gN, Ty.row dQ 41 175 (d.ms i.1).1.1, Ty.ex (.slice none 0 0)]), (14, Cont.cells 30 [Ty.row cT 3 40 d.first, Ty.row cT 3 180 (d.ms i.1).1.2]), (18, Cont.cells 41 [Ty.int .i64 (d.day i.1), Ty.int .i64 (d.src (d.ms i.1).2), Ty.int .i64 (d.dst (d.ms i.1).2), Ty.int .i64 0, Ty.int .i64 0]), (1000, Cont.cells 149 (dA (aT (d.pH (d.ms i.1).2))))]) (fun k => (d.ms i.1).1.1.length - k.1) (⟨0, by omega⟩) ?_ fun k => ?_
  ·(refine dK.mk' ?_ ?_ <;> (repeat' (first | exact aJ | exact aI | refine aB ?_ (Ty.aW _) | refine aB ?_ (Ty.aF _) | refine aG rfl (Cont.aF _) ?_ | refine aB ?_ ?_)))
   all_goals exact Ty.ah NG
  have hk := k.2
  refine aE (aA (bE rfl rfl rfl (aD (aC (aE ?_)))))
  refine au rfl (fun hc6 => ?_) (fun hc6 => ?_)
  ·
   refine ak (aC (aE (aq (aE (aA (bQ rfl ?_))))))
   refine sD rfl rfl rfl rfl rfl rfl (by omega) ?_
   refine CY rfl rfl rfl (by exact Nat.le_of_ble_eq_true rfl) ?_
   refine cH rfl (by exact List.cons_ne_nil _ _) rfl ?_
   refine cF rfl ?_
   refine cJ rfl rfl (by decide) rfl rfl rfl rfl rfl rfl ?_
   refine aD (aC (aE (aA ?_)))
   refine aN rfl rfl rfl rfl rfl (by decide) ?_
   refine aX rfl rfl (by decide) rfl rfl rfl ?_
   refine aN rfl rfl rfl rfl rfl (by decide) ?_
   refine aX rfl rfl (by decide) rfl rfl rfl ?_
   refine bE rfl rfl rfl (gR rfl ?_)
   apply aS (s := 132) rfl rfl rfl
   ·intro hg; apply aU; (refine aN rfl rfl rfl rfl rfl (by decide) ?_); refine aD ?_; exact rfl
   ·exact rfl
   ·exact rfl
   apply aS (s := 132) rfl rfl rfl
   ·intro hg; apply aP (s := 133) rfl (by (rw [hg]; rfl)); apply aU; (refine aX rfl rfl (by decide) rfl rfl rfl ?_); refine aD ?_; exact rfl
   ·exact rfl
   ·exact rfl
   apply aS (s := 132) rfl rfl rfl
   ·intro hg; apply aU; (refine aN rfl rfl rfl rfl rfl (by decide) ?_); refine aD ?_; exact rfl
   ·exact rfl
   ·exact rfl
   apply aS (s := 132) rfl rfl rfl
   ·intro hg; apply aP (s := 135) rfl (by (rw [hg]; rfl)); apply aU; (refine aX rfl rfl (by decide) rfl rfl rfl ?_); refine aD ?_; exact rfl
   ·exact rfl
   ·exact rfl
   apply aS (s := 132) rfl rfl rfl
   ·intro hg; apply aP (s := 134) rfl (by (rw [hg]; rfl)); apply aP (s := 136) rfl (by (rw [hg]; rfl)); apply aU; (refine bE rfl rfl rfl ?_); refine aD ?_; exact rfl
   ·exact rfl
   ·exact rfl
   refine eo rfl rfl (gR rfl ?_)
   apply aS (s := 139) rfl rfl rfl
   ·intro hg; apply aU; (refine aN rfl rfl rfl rfl rfl (by decide) ?_); refine aD ?_; exact rfl
   ·exact rfl
   ·exact rfl
   apply aS (s := 139) rfl rfl rfl
   ·intro hg; apply aP (s := 140) rfl (by (rw [hg]; rfl)); apply aU; (refine aX rfl rfl (by decide) rfl rfl rfl ?_); refine aD ?_; exact rfl
   ·exact rfl
   ·exact rfl
   apply aS (s := 139) rfl rfl rfl
   ·intro hg; apply aP (s := 141) rfl (by (rw [hg]; rfl)); apply aU; (refine bE rfl rfl rfl ?_); refine aD ?_; exact rfl
   ·exact rfl
   ·exact rfl
   refine eo rfl rfl (aD (aC ?_))
   refine cv rfl (fun hc7 => ?_) (fun hc7 => ?_)
   ·
    have hsr := zS hd (Lw (y := (d.yd (d.ms i.1).1.1)) (m := (d.mv (d.ms i.1).2 i.1)) hc7) b1
    have hq := hCI (d.src (d.ms i.1).2) (d.day i.1) hsr.1 hsr.2
    have hmk := hP.num _ (dD (show k.1 < (d.ms i.1).1.2.length by omega))
    refine cW mixed rfl (bQ rfl ?_)
    refine bU rfl rfl (by decide) rfl rfl (by exact Nat.le_of_ble_eq_true rfl) ?_
    refine bU rfl rfl (by decide) rfl rfl (by exact Nat.le_of_ble_eq_true rfl) ?_
    refine aN rfl rfl rfl rfl rfl (by decide) ?_
    refine aX rfl rfl (by decide) rfl rfl rfl ?_
    refine aN rfl rfl rfl rfl rfl (by decide) ?_
    refine aX rfl rfl (by decide) rfl rfl rfl ?_
    refine dW [49, 175, 40, 180] (iF (d.yd (d.ms i.1).1.1) (d.am (d.ms i.1).1.2) (oc hd hi hP) (d.src (d.ms i.1).2) (d.day i.1) hsr.1 hsr.2) rfl (aK (gV (aK (aa (bH rfl rfl)) (aK (aa (fC rfl)) (aK (aa (fC rfl)) (aK (aa oF) bW))))) (aK (gV (aK (aa (fC rfl)) (aK (aa (fC rfl)) bW))) (aK (aa (bH rfl rfl)) (aK (aa (bH rfl rfl)) bW)))) (by exact dF _ _) ?_
    refine aN rfl rfl rfl rfl rfl (by decide) ?_
    refine aX rfl rfl (by decide) rfl rfl rfl ?_
    refine bQ rfl ?_
    refine sD rfl rfl rfl rfl rfl rfl (by omega) ?_
    refine yM rfl rfl rfl rfl ?_
    refine gw rfl rfl (by omega) (by omega) ?_
    refine uH rfl rfl (cF rfl (aD ?_))
    refine ⟨by kernel_rfl, ?_⟩
    refine bV (aC (aA ?_))
    refine b9 rfl rfl (by omega) (by omega) ?_
    refine bQ rfl (aD ?_)
    refine bZ (⟨k.1 + 1, by omega⟩) ?_ (by show (d.ms i.1).1.1.length - (k.1 + 1) < (d.ms i.1).1.1.length - k.1; omega)
    (refine dK.mk' ?_ ?_ <;> (repeat' (first | exact aJ | exact aI | refine aB ?_ (Ty.aW _) | refine aB ?_ (Ty.aF _) | refine aG rfl (Cont.aF _) ?_ | refine aB ?_ ?_)))
    all_goals skip
    all_goals exact Ty.ah (Kx (y := (d.yd (d.ms i.1).1.1)) (a := (d.am (d.ms i.1).1.2)) (m := (d.mv (d.ms i.1).2 i.1)) hc7)
   refine ak (bV (aC (aA ?_)))
   refine b9 rfl rfl (by omega) (by omega) ?_
   refine bQ rfl (aD ?_)
   refine bZ (⟨k.1 + 1, by omega⟩) ?_ (by show (d.ms i.1).1.1.length - (k.1 + 1) < (d.ms i.1).1.1.length - k.1; omega)
   (refine dK.mk' ?_ ?_ <;> (repeat' (first | exact aJ | exact aI | refine aB ?_ (Ty.aW _) | refine aB ?_ (Ty.aF _) | refine aG rfl (Cont.aF _) ?_ | refine aB ?_ ?_)))
   all_goals skip
   all_goals exact Ty.ah (MB (y := (d.yd (d.ms i.1).1.1)) (a := (d.am (d.ms i.1).1.2)) (m := (d.mv (d.ms i.1).2 i.1)) hc7)
  refine cg (aR (aR (bA rfl (aC (aE ?_)))))
  obtain ⟨k, hk⟩ := k
  obtain rfl : k = (d.ms i.1).1.1.length := by have h1 : ¬ (k : Int) < ((d.ms i.1).1.1.length : Int) := hc6; have h2 : k ≤ (d.ms i.1).1.1.length := hk; omega
  refine dN (B := live [(0, Ty.ptr 1000 0), (4, Ty.int .i64 d.levels), (10, Ty.ptr 11 0), (11, Ty.ptr 12 0), (12, Ty.ptr 13 0), (13, Ty.ptr 14 0), (15, Ty.int .i64 (d.many : Nat)), (56, Ty.int .i64 (d.many : Nat)), (57, Ty.int .i64 (i.1 : Nat)), (17, Ty.ptr 18 0), (18, Ty.int .i64 (lM (d.yd (d.ms i.1).1.1) (d.am (d.ms i.1).1.2) (d.mv (d.ms i.1).2 i.1) (mF (d.yd (d.ms i.1).1.1) (d.am (d.ms i.1).1.2) (d.mv (d.ms i.1).2 i.1) (ko (d.yd (d.ms i.1).1.1) (d.am (d.ms i.1).1.2) (d.mv (d.ms i.1).2 i.1) (bN (d.pH (d.ms i.1).2) 40))) (d.yd (d.ms i.1).1.1).moves.length))] [(11, Cont.cells 27 [Ty.int .i64 0, Ty.ex (.slice none 0 0), Ty.ex (.slice none 0 0), Ty.ex (.slice none 0 0)]), (12, Cont.cells 30 [Ty.ex (.slice none 0 0), Ty.ex (.slice none 0 0)]), (13, Cont.cells 27 [Ty.int .i64 d.D, Ty.row eH 39 49 d.gN, Ty.row dQ 41 175 (d.ms i.1).1.1, Ty.ex (.slice none 0 0)]), (14, Cont.cells 30 [Ty.row cT 3 40 d.first, Ty.row cT 3 180 (d.ms i.1).1.2]), (18, Cont.cells 41 [Ty.int .i64 (d.day i.1), Ty.int .i64 (d.src (d.ms i.1).2), Ty.int .i64 (d.dst (d.ms i.1).2), Ty.int .i64 0, Ty.int .i64 0]), (1000, Cont.cells 149 (dA (aT (d.pH (d.ms i.1).2))))]) ?_ ?_
  ·(refine dK.mk' ?_ ?_ <;> (repeat' (first | exact aJ | exact aI | refine aB ?_ (Ty.aW _) | refine aB ?_ (Ty.aF _) | refine aG rfl (Cont.aF _) ?_)))
  refine aA (bQ rfl ?_)
  refine bU rfl rfl (by decide) rfl rfl (by exact Nat.le_of_ble_eq_true rfl) ?_
  refine bU rfl rfl (by decide) rfl rfl (by exact Nat.le_of_ble_eq_true rfl) ?_
  refine bU rfl rfl (by decide) rfl rfl (by exact Nat.le_of_ble_eq_true rfl) ?_
  refine dW [49, 175, 40, 180] (Js (d.yd (d.ms i.1).1.1) (d.am (d.ms i.1).1.2) (oc hd hi hP) (d.mv (d.ms i.1).2 i.1) (by show -1000000 ≤ d.day i.1 ∧ d.day i.1 ≤ 1000000; omega) (fun g => zS hd g b1)) rfl (aK (gV (aK (aa (bH rfl rfl)) (aK (aa (fC rfl)) (aK (aa (fC rfl)) (aK (aa oF) bW))))) (aK (gV (aK (aa (fC rfl)) (aK (aa (fC rfl)) bW))) (aK (aa (bH rfl rfl)) bW))) (by exact dF _ _) ?_
  refine uH rfl rfl (td rfl rfl (cF rfl (aD (aC (aE ?_)))))
  have hnm := d.G5 hd hP
  refine fW (s := 18) rfl (Ty.ah (num_eq d (d.ms i.1) i.1)) ?_
  refine dN (B := live [(0, Ty.ptr 1000 0), (4, Ty.int .i64 d.levels), (10, Ty.ptr 11 0), (11, Ty.ptr 12 0), (12, Ty.ptr 13 0), (13, Ty.ptr 14 0), (15, Ty.int .i64 (d.many : Nat)), (56, Ty.int .i64 (d.many : Nat)), (57, Ty.int .i64 (i.1 : Nat)), (17, Ty.ptr 18 0), (18, Ty.int .i64 (d.num (d.ms i.1) i.1))] [(11, Cont.cells 27 [Ty.int .i64 0, Ty.ex (.slice none 0 0), Ty.ex (.slice none 0 0), Ty.ex (.slice none 0 0)]), (12, Cont.cells 30 [Ty.ex (.slice none 0 0), Ty.ex (.slice none 0 0)]), (13, Cont.cells 27 [Ty.int .i64 d.D, Ty.row eH 39 49 d.gN, Ty.row dQ 41 175 (d.ms i.1).1.1, Ty.ex (.slice none 0 0)]), (14, Cont.cells 30 [Ty.row cT 3 40 d.first, Ty.row cT 3 180 (d.ms i.1).1.2]), (18, Cont.cells 41 [Ty.int .i64 (d.day i.1), Ty.int .i64 (d.src (d.ms i.1).2), Ty.int .i64 (d.dst (d.ms i.1).2), Ty.int .i64 0, Ty.int .i64 0]), (1000, Cont.cells 149 (dA (aT (d.pH (d.ms i.1).2))))]) ?_ ?_
  ·(refine dK.mk' ?_ ?_ <;> (repeat' (first | exact aJ | exact aI | refine aB ?_ (Ty.aW _) | refine aB ?_ (Ty.aF _) | refine aG rfl (Cont.aF _) ?_)))
  refine aA (oT rfl (bQ rfl ?_))
  refine bt [(1000, 1000)] [] [(1000, Cont.cells 149 (dA (aT (aT (aT (d.pH (d.ms i.1).2))))))] (CP (aT (d.pH (d.ms i.1).2)) ⟨by omega, by omega⟩ (d.num (d.ms i.1) i.1) 15 (by omega) (by omega)) rfl rfl (by repeat (first | exact bL | refine aH ?_ ?_ | exact dZ List.mem_cons_self | exact aM rfl rfl)) (b8 (a := 1000) (b := 1000) (by exact List.mem_cons_self) rfl (bC (by exact List.mem_cons_self) rfl rfl rfl) pre_nil) (bJ (a := 1000) (b := 1000) (by exact List.mem_cons_self) rfl (bC (by exact List.mem_cons_self) rfl rfl rfl) post_nil) (aM rfl rfl) ?_
  refine aN rfl rfl rfl rfl rfl (by decide) ?_
  refine xS (lr := dQ.tys (d.full (d.ms i.1) i.1)) rfl rfl (by decide) rfl rfl rfl (by exact Nat.le_of_ble_eq_true rfl) rfl rfl rfl ?_
  refine aD (aC ?_)
  refine dN (B := live [(0, Ty.ptr 1000 0), (4, Ty.int .i64 d.levels), (10, Ty.ptr 11 0), (11, Ty.ptr 12 0), (12, Ty.ptr 13 0), (13, Ty.ptr 14 0), (15, Ty.int .i64 (d.many : Nat)), (56, Ty.int .i64 (d.many : Nat)), (57, Ty.int .i64 (i.1 : Nat)), (17, Ty.ptr 18 0), (18, Ty.int .i64 (d.num (d.ms i.1) i.1))] [(11, Cont.cells 27 [Ty.int .i64 0, Ty.ex (.slice none 0 0), Ty.ex (.slice none 0 0), Ty.ex (.slice none 0 0)]), (12, Cont.cells 30 [Ty.ex (.slice none 0 0), Ty.ex (.slice none 0 0)]), (13, Cont.cells 27 [Ty.int .i64 d.D, Ty.row eH 39 49 d.gN, Ty.row dQ 41 175 (d.ms i.1).1.1, Ty.ex (.slice none 0 0)]), (14, Cont.cells 30 [Ty.row cT 3 40 d.first, Ty.row cT 3 180 (d.ms i.1).1.2]), (18, Cont.cells 41 (dQ.tys (d.full (d.ms i.1) i.1))), (1000, Cont.cells 149 (dA (aT (aT (aT (d.pH (d.ms i.1).2))))))]) ?_ ?_
  ·(refine dK.mk' ?_ ?_ <;> (repeat' (first | exact aJ | exact aI | refine aB ?_ (Ty.aW _) | refine aB ?_ (Ty.aF _) | refine aG rfl (Cont.aF _) ?_)))
  refine cW mixed rfl ?_
  refine aN rfl rfl rfl rfl rfl (by decide) ?_
  refine aX rfl rfl (by decide) rfl rfl rfl ?_
  refine bU rfl rfl (by decide) rfl rfl (by exact Nat.le_of_ble_eq_true rfl) ?_
  refine bp (E := dQ) (xs := [d.full (d.ms i.1) i.1]) rfl rfl rfl rfl rfl (by decide) (by decide) (by repeat (first | exact (aY.nil : aY _ _ [] _) | (show aY _ _ ((_, _) :: _) _; apply aY.agg; (· exact (rfl : _ = Ty.agg _))))) (by exact rfl) rfl ?_
  refine fP rfl rfl (by decide) rfl rfl rfl rfl rfl rfl (by decide) (by (simp <;> omega)) (by (simp <;> omega)) ?_
  refine aN rfl rfl rfl rfl rfl (by decide) ?_
  refine aX rfl rfl (by decide) rfl rfl rfl ?_
  refine bQ rfl ?_
  refine bp (E := cT) (xs := [d.num (d.ms i.1) i.1]) rfl rfl rfl rfl rfl (by decide) (by decide) (by repeat (first | exact (aY.nil : aY _ _ [] _) | (show aY _ _ ((_, _) :: _) _; apply aY.one; (· exact (rfl : _ = Ty.int _ _)); (· exact rfl)))) (by exact rfl) rfl ?_
  refine fP rfl rfl (by decide) rfl rfl rfl rfl rfl rfl (by decide) (by (simp <;> omega)) (by (simp <;> omega)) ?_
  refine aN rfl rfl rfl rfl rfl (by decide) ?_
  refine cx rfl rfl (by decide) rfl rfl (by exact (rfl : _ = Ty.row _ _ _ _)) rfl (by exact Nat.le_of_ble_eq_true rfl) rfl rfl (by exact rfl) ?_
  refine aN rfl rfl rfl rfl rfl (by decide) ?_
  refine cx rfl rfl (by decide) rfl rfl (by exact (rfl : _ = Ty.row _ _ _ _)) rfl (by exact Nat.le_of_ble_eq_true rfl) rfl rfl (by exact rfl) ?_
  refine aD ?_
  refine ⟨by kernel_rfl, ?_⟩
  refine bV (aC (aA ?_))
  refine b9 rfl rfl (by omega) (by omega) ?_
  refine bQ rfl (aD ?_)
  refine bZ (⟨i.1 + 1, by omega⟩) ?_ (by show d.many - (i.1 + 1) < d.many - i.1; omega)
  (refine dK.mk' ?_ ?_ <;> (repeat' (first | exact aJ | exact aI | exact dO | refine aB ?_ (Ty.aW _) | refine aB ?_ (Ty.aF _) | refine aG rfl (Cont.aF _) ?_ | refine aG rfl (Cont.dM ?_) ?_ | refine bY ?_ (Ty.aF _) | refine bY ?_ ?_)))
  all_goals skip
  all_goals first | exact Ty.ah (congrArg (fun p => p.2.mixed) (Gj d _)) | exact Ty.ah (congrArg (fun p => p.2.taken) (Gj d _)) | exact Ty.fY (congrArg (fun p => p.2.grain) (Gj d _)) | exact Ty.fo (congrArg (fun p => p.1.1) (Gj d _)) | exact Ty.fo (congrArg (fun p => p.1.2) (Gj d _))
 refine cg (aR (aR (bA rfl (aC (aE (aE ?_))))))
 obtain ⟨i, hi⟩ := i
 obtain rfl : i = d.many := by have h1 : ¬ (i : Int) < (d.many : Int) := hc2; have h2 : i ≤ d.many := hi; omega
 have hP := d.qH hd d.many (Nat.le_refl _)
 have e3 := hP.taken
 refine gM (tg := 13) rfl (Cont.eC (l' := [Ty.int .i64 d.D, Ty.row eH 39 49 d.gN, Ty.row dQ 41 175 d.fF, Ty.ex (.slice none 0 0)]) ⟨Ty.aF _, Ty.aF _, Ty.fo (by unfold Md.fF; rfl), Ty.aF _, trivial⟩) ?_
 refine gM (tg := 14) rfl (Cont.eC (l' := [Ty.row cT 3 40 d.first, Ty.row cT 3 180 d.cD]) ⟨Ty.aF _, Ty.fo (by unfold Md.cD; rfl), trivial⟩) ?_
 refine ni (tg := 175) [] [(13, Cont.cells 27 [Ty.int .i64 d.D, Ty.row eH 39 49 d.gN, Ty.sl dQ d.fF, Ty.ex (.slice none 0 0)])] (by decide) rfl trivial ⟨iN rfl rfl ⟨cB rfl, cB rfl, sZ, cB rfl, trivial⟩, trivial⟩ ?_
 refine ni (tg := 40) [] [(14, Cont.cells 30 [Ty.sl cT d.first, Ty.row cT 3 180 d.cD])] (by decide) rfl trivial ⟨iN rfl rfl ⟨sZ, cB rfl, trivial⟩, trivial⟩ ?_
 refine ni (tg := 180) [] [(14, Cont.cells 30 [Ty.sl cT d.first, Ty.sl cT d.cD])] (by decide) rfl trivial ⟨iN rfl rfl ⟨cB rfl, sZ, trivial⟩, trivial⟩ ?_
 refine lH (c0 := 13) 1 rfl rfl ?_
 refine gM (tg := 13) rfl (Cont.eC (l' := [Ty.int .i64 d.D, Ty.vs 49 d.nb, Ty.sl dQ d.fF, Ty.ex (.slice none 0 0)]) ⟨Ty.aF _, Dd b2, Ty.aF _, Ty.aF _, trivial⟩) ?_
 refine dN (B := live [(0, Ty.ptr 1000 0), (4, Ty.int .i64 d.levels), (10, Ty.ptr 11 0), (11, Ty.ptr 12 0), (12, Ty.ptr 13 0), (13, Ty.ptr 14 0)] [(11, Cont.cells 27 [Ty.int .i64 0, Ty.ex (.slice none 0 0), Ty.ex (.slice none 0 0), Ty.ex (.slice none 0 0)]), (12, Cont.cells 30 [Ty.ex (.slice none 0 0), Ty.ex (.slice none 0 0)]), (13, Cont.cells 27 [Ty.int .i64 d.D, Ty.vs 49 d.nb, Ty.sl dQ d.fF, Ty.ex (.slice none 0 0)]), (14, Cont.cells 30 [Ty.sl cT d.first, Ty.sl cT d.cD]), (49, Cont.vec eH 39 d.gN), (1000, Cont.cells 149 (dA (d.ms d.many).2))]) ?_ ?_
 ·(refine dK.mk' ?_ ?_ <;> (repeat' (first | exact aJ | exact aI | refine aB ?_ (Ty.aW _) | refine aB ?_ (Ty.aF _) | refine aG rfl (Cont.aF _) ?_)))
 refine aA ?_
 refine aN rfl rfl rfl rfl rfl (by decide) ?_
 refine aX rfl rfl (by decide) rfl rfl rfl ?_
 refine rP rfl rfl rfl (bQ rfl (aD (aC (aq ?_))))
 refine cj (fun (k : {k : Nat // k ≤ d.nb}) => live [(0, Ty.ptr 1000 0), (4, Ty.int .i64 d.levels), (10, Ty.ptr 11 0), (11, Ty.ptr 12 0), (12, Ty.ptr 13 0), (13, Ty.ptr 14 0), (186, Ty.int .i64 (d.nb : Nat)), (187, Ty.int .i64 (k.1 : Nat))] [(11, Cont.cells 27 [Ty.int .i64 0, Ty.ex (.slice none 0 0), Ty.ex (.slice none 0 0), Ty.ex (.slice none 0 0)]), (12, Cont.cells 30 [Ty.ex (.slice none 0 0), Ty.ex (.slice none 0 0)]), (13, Cont.cells 27 [Ty.int .i64 d.D, Ty.vs 49 d.nb, Ty.sl dQ d.fF, Ty.ex (.slice none 0 0)]), (14, Cont.cells 30 [Ty.sl cT d.first, Ty.sl cT d.cD]), (49, Cont.vec eH 39 (d.hs k.1).1), (1000, Cont.cells 149 (dA (d.hs k.1).2))]) (fun k => d.nb - k.1) (⟨0, by omega⟩) ?_ fun k => ?_
 ·(refine dK.mk' ?_ ?_ <;> (repeat' (first | exact aJ | exact aI | exact dO | refine aB ?_ (Ty.aW _) | refine aB ?_ (Ty.aF _) | refine aG rfl (Cont.aF _) ?_ | refine aG rfl (Cont.dM ?_) ?_ | refine bY ?_ ?_ | refine aG rfl ?_ ?_)))
  all_goals first | exact Cont.eF (congrArg Prod.fst (Ik d)) | exact Ty.ah (congrArg (fun p => p.2.mixed) (Ik d)) | exact Ty.ah (congrArg (fun p => p.2.taken) (Ik d)) | exact Ty.fY (congrArg (fun p => p.2.grain) (Ik d))
 have hk := k.2
 have H := d.yj k.1 hk
 have g1 := H.len
 have g2 := H.taken
 have g3 := cQ (d.hs k.1).2 30
 have g4 := (d.uX k.1 (d.D + 1).toNat)
 have g40 := g4.1
 refine aE (aA (bE rfl rfl rfl (aD (aC (aE ?_)))))
 refine au rfl (fun hc8 => ?_) (fun hc8 => ?_)
 ·
  refine ak (aC (aE (aq (aE (aA (bQ rfl (cF rfl (aD (aC ?_)))))))))
  refine aE (aA (cF rfl (aD (aC (aE (aE (aA ?_)))))))
  refine aN rfl rfl rfl rfl rfl (by decide) ?_
  refine aX rfl rfl (by decide) rfl rfl rfl ?_
  refine b9 rfl rfl (by omega) (by omega) ?_
  refine bQ rfl (aD (aC (aq ?_)))
  refine cj (fun (t : {t : Nat // t ≤ (d.D + 1).toNat}) => live [(0, Ty.ptr 1000 0), (4, Ty.int .i64 d.levels), (10, Ty.ptr 11 0), (11, Ty.ptr 12 0), (12, Ty.ptr 13 0), (13, Ty.ptr 14 0), (21, Ty.int .i64 (k.1 : Nat)), (22, Ty.int .i64 (d.most k.1 t.1)), (186, Ty.int .i64 (d.nb : Nat)), (187, Ty.int .i64 (k.1 : Nat)), (192, Ty.int .i64 (d.D + 1)), (193, Ty.int .i64 (t.1 : Nat))] [(11, Cont.cells 27 [Ty.int .i64 0, Ty.ex (.slice none 0 0), Ty.ex (.slice none 0 0), Ty.ex (.slice none 0 0)]), (12, Cont.cells 30 [Ty.ex (.slice none 0 0), Ty.ex (.slice none 0 0)]), (13, Cont.cells 27 [Ty.int .i64 d.D, Ty.vs 49 d.nb, Ty.sl dQ d.fF, Ty.ex (.slice none 0 0)]), (14, Cont.cells 30 [Ty.sl cT d.first, Ty.sl cT d.cD]), (49, Cont.vec eH 39 (d.hs k.1).1), (1000, Cont.cells 149 (dA (d.hs k.1).2))]) (fun t => (d.D + 1).toNat - t.1) (⟨0, by omega⟩) ?_ fun t => ?_
  ·(refine dK.mk' ?_ ?_ <;> (repeat' (first | exact aJ | exact aI | refine aB ?_ (Ty.aW _) | refine aB ?_ (Ty.aF _) | refine aG rfl (Cont.aF _) ?_ | refine aB ?_ ?_)))
   all_goals exact Ty.ah (Lo d _)
  have ht := t.2
  refine aE (aA (bE rfl rfl rfl (aD (aC (aE ?_)))))
  refine au rfl (fun hc9 => ?_) (fun hc9 => ?_)
  ·
   refine ak (aC (aE (aq (aE (aA (bQ rfl (cF rfl (aD (aC ?_)))))))))
   refine aA (bQ rfl ?_)
   refine bU rfl rfl (by decide) rfl rfl (by exact Nat.le_of_ble_eq_true rfl) ?_
   refine bU rfl rfl (by decide) rfl rfl (by exact Nat.le_of_ble_eq_true rfl) ?_
   refine bQ rfl (bQ rfl ?_)
   refine dW [49] (iF ⟨d.D, (d.hs k.1).1, d.fF, []⟩ d.real (wE hd) ((k.1 : Nat) : Int) ((t.1 : Nat) : Int) (Int.natCast_nonneg _) (by show ((k.1 : Nat) : Int).toNat < d.first.length; omega)) rfl (aK (gV (aK (aa (bH rfl rfl)) (aK (gY rfl g1 (by decide) rfl) (aK (aa (bH rfl rfl)) (aK (aa oF) bW))))) (aK (aa (bH rfl rfl)) (aK (aa (bH rfl rfl)) (aK (aa (bH rfl rfl)) bW)))) (by exact dF _ _) ?_
   refine td rfl rfl (cF rfl (aD (bV (aC (aA ?_)))))
   refine b9 rfl rfl (by omega) (by omega) ?_
   refine bQ rfl (aD ?_)
   refine bZ (⟨t.1 + 1, by omega⟩) ?_ (by show (d.D + 1).toNat - (t.1 + 1) < (d.D + 1).toNat - t.1; omega)
   (refine dK.mk' ?_ ?_ <;> (repeat' (first | exact aJ | exact aI | refine aB ?_ (Ty.aW _) | refine aB ?_ (Ty.aF _) | refine aG rfl (Cont.aF _) ?_ | refine aB ?_ ?_)))
   all_goals skip
   all_goals exact Ty.ah (Lp d _ _)
  refine cg (aR (aR (bA rfl (aC ?_))))
  obtain ⟨t, ht⟩ := t
  obtain rfl : t = (d.D + 1).toNat := by have h1 : ¬ (t : Int) < d.D + 1 := hc9; have h2 : t ≤ (d.D + 1).toNat := ht; omega
  refine fW (s := 22) rfl (Ty.ah (show d.most k.1 (d.D + 1).toNat = d.most k.1 (d.D + 1).toNat from rfl)) ?_
  have g5 := g4.2.2 fun t => (d.rj hd k.1 t (by omega)).2
  refine cW mixed rfl ?_
  refine aN rfl rfl rfl rfl rfl (by decide) ?_
  refine aX rfl rfl (by decide) rfl rfl rfl ?_
  refine bQ rfl (bQ rfl (oT rfl ?_))
  refine bt [(1000, 1000)] [] [(1000, Cont.cells 149 (dA (aT (d.hs k.1).2)))] (g9 (d.hs k.1).2 ⟨by omega, by omega⟩ 30) rfl rfl (by repeat (first | exact bL | refine aH ?_ ?_ | exact dZ List.mem_cons_self | exact aM rfl rfl)) (b8 (a := 1000) (b := 1000) (by exact List.mem_cons_self) rfl (bC (by exact List.mem_cons_self) rfl rfl rfl) pre_nil) (bJ (a := 1000) (b := 1000) (by exact List.mem_cons_self) rfl (bC (by exact List.mem_cons_self) rfl rfl rfl) post_nil) (aM rfl rfl) ?_
  refine b9 rfl rfl (by omega) (by omega) ?_
  refine uH rfl rfl ?_
  refine eK rfl rfl rfl rfl rfl (by omega) ?_
  refine aN rfl rfl rfl rfl rfl (by decide) ?_
  refine zO (E := eH) (z := ⟨min 300 (d.most k.1 (d.D + 1).toNat + bN (d.hs k.1).2 30), (nth (d.hs k.1).1 k.1).first⟩) rfl rfl rfl (by decide) rfl rfl (by exact (rfl : _ = Ty.int _ _)) rfl (by omega) (by decide) rfl rfl ?_
  refine aD ?_
  refine ⟨by kernel_rfl, ?_⟩
  refine bV (aC (aA ?_))
  refine b9 rfl rfl (by omega) (by omega) ?_
  refine bQ rfl (aD ?_)
  refine bZ (⟨k.1 + 1, by omega⟩) ?_ (by show d.nb - (k.1 + 1) < d.nb - k.1; omega)
  (refine dK.mk' ?_ ?_ <;> (repeat' (first | exact aJ | exact aI | exact dO | refine aB ?_ (Ty.aW _) | refine aB ?_ (Ty.aF _) | refine aG rfl (Cont.aF _) ?_ | refine aG rfl (Cont.dM ?_) ?_ | refine bY ?_ ?_ | refine aG rfl ?_ ?_)))
  all_goals skip
  all_goals first | exact Cont.eF (congrArg Prod.fst (Jt d _)) | exact Ty.ah (congrArg (fun p => p.2.mixed) (Jt d _)) | exact Ty.ah (congrArg (fun p => p.2.taken) (Jt d _)) | exact Ty.fY (congrArg (fun p => p.2.grain) (Jt d _))
 refine cg (aR (aR (bA rfl (aC (aE (aE ?_))))))
 obtain ⟨k, hk⟩ := k
 obtain rfl : k = d.nb := by have h1 : ¬ (k : Int) < (d.nb : Int) := hc8; have h2 : k ≤ d.nb := hk; omega
 have H := d.yj d.nb (Nat.le_refl _)
 have g1 := H.len
 have g2 := H.taken
 have b5 : d.hU.length = d.nb := by unfold Md.hU; exact g1
 have g6 := cE (d.hs d.nb).2
 refine gM (tg := 49) rfl (Cont.eF (show (d.hs d.nb).1 = d.hU by unfold Md.hU; rfl)) ?_
 refine gM (tg := 13) rfl (Cont.eC (l' := [Ty.int .i64 d.D, Ty.vs 49 d.hU.length, Ty.sl dQ d.fF, Ty.ex (.slice none 0 0)]) ⟨Ty.aF _, Ty.sub_eq (by rw [b5]), Ty.aF _, Ty.aF _, trivial⟩) ?_
 refine dN (B := live [(0, Ty.ptr 1000 0), (4, Ty.int .i64 d.levels), (10, Ty.ptr 11 0), (11, Ty.ptr 12 0), (12, Ty.ptr 13 0), (13, Ty.ptr 14 0)] [(11, Cont.cells 27 [Ty.int .i64 0, Ty.ex (.slice none 0 0), Ty.ex (.slice none 0 0), Ty.ex (.slice none 0 0)]), (12, Cont.cells 30 [Ty.ex (.slice none 0 0), Ty.ex (.slice none 0 0)]), (13, Cont.cells 27 [Ty.int .i64 d.D, Ty.vs 49 d.hU.length, Ty.sl dQ d.fF, Ty.ex (.slice none 0 0)]), (14, Cont.cells 30 [Ty.sl cT d.first, Ty.sl cT d.cD]), (49, Cont.vec eH 39 d.hU), (1000, Cont.cells 149 (dA (d.hs d.nb).2))]) ?_ ?_
 ·(refine dK.mk' ?_ ?_ <;> (repeat' (first | exact aJ | exact aI | refine aB ?_ (Ty.aW _) | refine aB ?_ (Ty.aF _) | refine aG rfl (Cont.aF _) ?_)))
 refine aA (oT rfl (bQ rfl ?_))
 refine b9 rfl rfl (by omega) (by omega) ?_
 refine bt [(1000, 1000)] [] [(1000, Cont.cells 149 (dA (aT (d.hs d.nb).2)))] (g9 (d.hs d.nb).2 ⟨by omega, by omega⟩ _) rfl rfl (by repeat (first | exact bL | refine aH ?_ ?_ | exact dZ List.mem_cons_self | exact aM rfl rfl)) (b8 (a := 1000) (b := 1000) (by exact List.mem_cons_self) rfl (bC (by exact List.mem_cons_self) rfl rfl rfl) pre_nil) (bJ (a := 1000) (b := 1000) (by exact List.mem_cons_self) rfl (bC (by exact List.mem_cons_self) rfl rfl rfl) post_nil) (aM rfl rfl) ?_
 refine bQ rfl (aD (aC ?_))
 refine fW (s := 218) rfl (Ty.ah (show bN (d.hs d.nb).2 (d.levels + 1) = ((d.nl : Nat) : Int) from hnl.2 ▸ (by unfold Md.L5; rfl))) ?_
 refine aq ?_
 refine cj (fun (k : {k : Nat // k ≤ d.nl}) => live [(0, Ty.ptr 1000 0), (10, Ty.ptr 11 0), (11, Ty.ptr 12 0), (12, Ty.ptr 13 0), (13, Ty.ptr 14 0), (218, Ty.int .i64 (d.nl : Nat)), (219, Ty.int .i64 (k.1 : Nat))] [(11, Cont.cells 27 [Ty.int .i64 0, Ty.ex (.slice none 0 0), Ty.ex (.slice none 0 0), Ty.ex (.slice none 0 0)]), (12, Cont.cells 30 [Ty.ex (.slice none 0 0), Ty.ex (.slice none 0 0)]), (13, Cont.cells 27 [Ty.int .i64 d.D, Ty.vs 49 d.hU.length, Ty.sl dQ d.fF, Ty.row dY 102 246 (d.ls k.1).1]), (14, Cont.cells 30 [Ty.sl cT d.first, Ty.sl cT d.cD]), (49, Cont.vec eH 39 d.hU), (1000, Cont.cells 149 (dA (d.ls k.1).2))]) (fun k => d.nl - k.1) (⟨0, by omega⟩) ?_ fun k => ?_
 ·(refine dK.mk' ?_ ?_ <;> (repeat' (first | exact aJ | exact aI | exact dO | refine aB ?_ (Ty.aW _) | refine aB ?_ (Ty.aF _) | refine aG rfl (Cont.aF _) ?_ | refine aG rfl (Cont.dM ?_) ?_ | refine bY ?_ (Ty.aF _) | refine bY ?_ ?_)))
  all_goals first | exact Ty.ah (congrArg (fun p => p.2.mixed) (Ih d)) | exact Ty.ah (congrArg (fun p => p.2.taken) (Ih d)) | exact Ty.fY (congrArg (fun p => p.2.grain) (Ih d)) | exact jw (congrArg Prod.fst (Ih d)).symm
 have hk := k.2
 have L := d.BP hd k.1
 have f1 := L.len
 have f2 := L.taken
 have f3 := cE (d.ls k.1).2
 have f4 := cE (aT (d.ls k.1).2)
 have f5 := cQ (d.ls k.1).2 (d.D + 1)
 have f6 := cQ (aT (d.ls k.1).2) d.nb
 refine aE (aA (bE rfl rfl rfl (aD (aC (aE ?_)))))
 refine au rfl (fun hc10 => ?_) (fun hc10 => ?_)
 ·
  refine ak (aC (aE (aq (aE (cW mixed rfl (oT rfl ?_))))))
  refine aN rfl rfl rfl rfl rfl (by decide) ?_
  refine aX rfl rfl (by decide) rfl rfl rfl ?_
  refine b9 rfl rfl (by omega) (by omega) ?_
  refine bt [(1000, 1000)] [] [(1000, Cont.cells 149 (dA (aT (d.ls k.1).2)))] (g9 (d.ls k.1).2 ⟨by omega, by omega⟩ _) rfl rfl (by repeat (first | exact bL | refine aH ?_ ?_ | exact dZ List.mem_cons_self | exact aM rfl rfl)) (b8 (a := 1000) (b := 1000) (by exact List.mem_cons_self) rfl (bC (by exact List.mem_cons_self) rfl rfl rfl) pre_nil) (bJ (a := 1000) (b := 1000) (by exact List.mem_cons_self) rfl (bC (by exact List.mem_cons_self) rfl rfl rfl) post_nil) (aM rfl rfl) ?_
  refine oT rfl ?_
  refine aN rfl rfl rfl rfl rfl (by decide) ?_
  refine aX rfl rfl (by decide) rfl rfl rfl ?_
  refine rP rfl rfl rfl ?_
  refine bt [(1000, 1000)] [] [(1000, Cont.cells 149 (dA (aT (aT (d.ls k.1).2))))] (g9 (aT (d.ls k.1).2) ⟨by omega, by omega⟩ _) rfl rfl (by repeat (first | exact bL | refine aH ?_ ?_ | exact dZ List.mem_cons_self | exact aM rfl rfl)) (b8 (a := 1000) (b := 1000) (by exact List.mem_cons_self) rfl (bC (by exact List.mem_cons_self) rfl rfl rfl) pre_nil) (bJ (a := 1000) (b := 1000) (by exact List.mem_cons_self) rfl (bC (by exact List.mem_cons_self) rfl rfl rfl) post_nil) (aM rfl rfl) ?_
  refine dS rfl rfl (by exact List.cons_ne_nil _ _) rfl (by repeat (first | exact (aY.nil : aY _ _ [] _) | (show aY _ _ ((_, _) :: _) _; apply aY.one; (· exact (rfl : _ = Ty.int _ _)); (· exact rfl)))) (by exact (rfl : _ = some [_, _, _, _])) ?_
  refine cH rfl (by exact List.cons_ne_nil _ _) rfl ?_
  refine cJ rfl rfl (by decide) rfl rfl rfl rfl rfl rfl ?_
  refine aD ?_
  refine ⟨by kernel_rfl, ?_⟩
  refine aC (aE ?_)
  have hcl : 0 ≤ cw d.y0 d.real (bN (aT (d.ls k.1).2) d.nb) (bN (d.ls k.1).2 (d.D + 1)) ∧ cw d.y0 d.real (bN (aT (d.ls k.1).2) d.nb) (bN (d.ls k.1).2 (d.D + 1)) ≤ 300 := by
   have := d.rj hd (bN (aT (d.ls k.1).2) d.nb).toNat (bN (d.ls k.1).2 (d.D + 1)) (by omega)
   rwa [Int.toNat_of_nonneg f6.1] at this
  have hce : ∀ b t, cw ⟨d.D, d.hU, d.fF, (d.ls k.1).1⟩ d.real b t = cw d.y0 d.real b t := fun b t => tJ (y := d.y0)
  have hcb : -1000000 ≤ cw ⟨d.D, d.hU, d.fF, (d.ls k.1).1⟩ d.real (bN (aT (d.ls k.1).2) d.nb) (bN (d.ls k.1).2 (d.D + 1)) ∧ cw ⟨d.D, d.hU, d.fF, (d.ls k.1).1⟩ d.real (bN (aT (d.ls k.1).2) d.nb) (bN (d.ls k.1).2 (d.D + 1)) ≤ 1000000 := by rw [hce]; omega
  refine gM (tg := 25) rfl (Cont.eC (l' := [Ty.int .i64 (bN (d.ls k.1).2 (d.D + 1)), Ty.int .i64 (bN (aT (d.ls k.1).2) d.nb), Ty.int .i64 0, Ty.int .i64 0]) ⟨Ty.aF _, Ty.ah (by rw [b5]), Ty.aF _, Ty.aF _, trivial⟩) ?_
  refine dN (B := live [(0, Ty.ptr 1000 0), (10, Ty.ptr 11 0), (11, Ty.ptr 12 0), (12, Ty.ptr 13 0), (13, Ty.ptr 14 0), (24, Ty.ptr 25 0), (218, Ty.int .i64 (d.nl : Nat)), (219, Ty.int .i64 (k.1 : Nat))] [(11, Cont.cells 27 [Ty.int .i64 0, Ty.ex (.slice none 0 0), Ty.ex (.slice none 0 0), Ty.ex (.slice none 0 0)]), (12, Cont.cells 30 [Ty.ex (.slice none 0 0), Ty.ex (.slice none 0 0)]), (13, Cont.cells 27 [Ty.int .i64 d.D, Ty.vs 49 d.hU.length, Ty.sl dQ d.fF, Ty.row dY 102 246 (d.ls k.1).1]), (14, Cont.cells 30 [Ty.sl cT d.first, Ty.sl cT d.cD]), (49, Cont.vec eH 39 d.hU), (25, Cont.cells 102 [Ty.int .i64 (bN (d.ls k.1).2 (d.D + 1)), Ty.int .i64 (bN (aT (d.ls k.1).2) d.nb), Ty.int .i64 0, Ty.int .i64 0]), (1000, Cont.cells 149 (dA (aT (aT (d.ls k.1).2))))]) ?_ ?_
  ·refine dK.mk' ?_ ?_
   ·(repeat (first | refine aB ?_ (Ty.aW _) | refine aB ?_ (Ty.aF _))); exact aJ
   refine aG rfl (Cont.aF _) ?_; refine aG rfl (Cont.aF _) ?_; refine aG rfl (Cont.aF _) ?_; refine aG rfl (Cont.aF _) ?_; refine aG rfl (Cont.aF _) ?_; refine aG rfl (Cont.aF _) ?_; refine aG rfl (Cont.aF _) ?_; exact aI
  refine aA (oT rfl ?_)
  refine bU rfl rfl (by decide) rfl rfl (by exact Nat.le_of_ble_eq_true rfl) ?_
  refine bU rfl rfl (by decide) rfl rfl (by exact Nat.le_of_ble_eq_true rfl) ?_
  refine aN rfl rfl rfl rfl rfl (by decide) ?_
  refine aX rfl rfl (by decide) rfl rfl rfl ?_
  refine aN rfl rfl rfl rfl rfl (by decide) ?_
  refine aX rfl rfl (by decide) rfl rfl rfl ?_
  refine dW [49, 246] (iF ⟨d.D, d.hU, d.fF, (d.ls k.1).1⟩ d.real (wE hd) (bN (aT (d.ls k.1).2) d.nb) (bN (d.ls k.1).2 (d.D + 1)) f6.1 (by show _ < d.first.length; omega)) rfl (aK (gV (aK (aa (bH rfl rfl)) (aK (gY rfl rfl (by decide) rfl) (aK (aa (bH rfl rfl)) (aK (aa (fC rfl)) bW))))) (aK (aa (bH rfl rfl)) (aK (aa (bH rfl rfl)) (aK (aa (bH rfl rfl)) bW)))) (by exact dF _ _) ?_
  refine bt [(1000, 1000)] [] [(1000, Cont.cells 149 (dA (aT (aT (aT (aT (d.ls k.1).2))))))] (CP (aT (aT (d.ls k.1).2)) ⟨by omega, by omega⟩ (cw ⟨d.D, d.hU, d.fF, (d.ls k.1).1⟩ d.real (bN (aT (d.ls k.1).2) d.nb) (bN (d.ls k.1).2 (d.D + 1))) 8 hcb (by omega)) rfl rfl (by repeat (first | exact bL | refine aH ?_ ?_ | exact dZ List.mem_cons_self | exact aM rfl rfl)) (b8 (a := 1000) (b := 1000) (by exact List.mem_cons_self) rfl (bC (by exact List.mem_cons_self) rfl rfl rfl) pre_nil) (bJ (a := 1000) (b := 1000) (by exact List.mem_cons_self) rfl (bC (by exact List.mem_cons_self) rfl rfl rfl) post_nil) (aM rfl rfl) ?_
  refine aN rfl rfl rfl rfl rfl (by decide) ?_
  refine xS (lr := [Ty.int .i64 (bN (d.ls k.1).2 (d.D + 1)), Ty.int .i64 (bN (aT (d.ls k.1).2) d.nb), Ty.int .i64 (gq (aT (aT (d.ls k.1).2)) (cw ⟨d.D, d.hU, d.fF, (d.ls k.1).1⟩ d.real (bN (aT (d.ls k.1).2) d.nb) (bN (d.ls k.1).2 (d.D + 1))) 8).lo, Ty.int .i64 (gq (aT (aT (d.ls k.1).2)) (cw ⟨d.D, d.hU, d.fF, (d.ls k.1).1⟩ d.real (bN (aT (d.ls k.1).2) d.nb) (bN (d.ls k.1).2 (d.D + 1))) 8).hi]) rfl rfl (by decide) rfl rfl rfl (by exact Nat.le_of_ble_eq_true rfl) rfl rfl rfl ?_
  refine aD (aC ?_)
  refine gM (tg := 25) rfl (Cont.eC (l' := dY.tys (d.IX (d.ls k.1).2)) ⟨Ty.aF _, Ty.aF _, Ty.ah (by rw [hce]; rfl), Ty.ah (by rw [hce]; rfl), trivial⟩) ?_
  refine dN (B := live [(0, Ty.ptr 1000 0), (10, Ty.ptr 11 0), (11, Ty.ptr 12 0), (12, Ty.ptr 13 0), (13, Ty.ptr 14 0), (24, Ty.ptr 25 0), (218, Ty.int .i64 (d.nl : Nat)), (219, Ty.int .i64 (k.1 : Nat))] [(11, Cont.cells 27 [Ty.int .i64 0, Ty.ex (.slice none 0 0), Ty.ex (.slice none 0 0), Ty.ex (.slice none 0 0)]), (12, Cont.cells 30 [Ty.ex (.slice none 0 0), Ty.ex (.slice none 0 0)]), (13, Cont.cells 27 [Ty.int .i64 d.D, Ty.vs 49 d.hU.length, Ty.sl dQ d.fF, Ty.row dY 102 246 (d.ls k.1).1]), (14, Cont.cells 30 [Ty.sl cT d.first, Ty.sl cT d.cD]), (49, Cont.vec eH 39 d.hU), (25, Cont.cells 102 (dY.tys (d.IX (d.ls k.1).2))), (1000, Cont.cells 149 (dA (aT (aT (aT (aT (d.ls k.1).2))))))]) ?_ ?_
  ·refine dK.mk' ?_ ?_
   ·(repeat (first | refine aB ?_ (Ty.aW _) | refine aB ?_ (Ty.aF _))); exact aJ
   refine aG rfl (Cont.aF _) ?_; refine aG rfl (Cont.aF _) ?_; refine aG rfl (Cont.aF _) ?_; refine aG rfl (Cont.aF _) ?_; refine aG rfl (Cont.aF _) ?_; refine aG rfl (Cont.aF _) ?_; refine aG rfl (Cont.aF _) ?_; exact aI
  refine aA ?_
  refine aN rfl rfl rfl rfl rfl (by decide) ?_
  refine aX rfl rfl (by decide) rfl rfl rfl ?_
  refine bU rfl rfl (by decide) rfl rfl (by exact Nat.le_of_ble_eq_true rfl) ?_
  refine bp (E := dY) (xs := [d.IX (d.ls k.1).2]) rfl rfl rfl rfl rfl (by decide) (by decide) (by repeat (first | exact (aY.nil : aY _ _ [] _) | (show aY _ _ ((_, _) :: _) _; apply aY.agg; (· exact (rfl : _ = Ty.agg _))))) (by exact rfl) rfl ?_
  refine fP rfl rfl (by decide) rfl rfl rfl rfl rfl rfl (by decide) (by (simp <;> omega)) (by (simp <;> omega)) ?_
  refine aN rfl rfl rfl rfl rfl (by decide) ?_
  refine cx rfl rfl (by decide) rfl rfl (by exact (rfl : _ = Ty.row _ _ _ _)) rfl (by exact Nat.le_of_ble_eq_true rfl) rfl rfl (by exact rfl) ?_
  refine aD (bV (aC (aA ?_)))
  refine b9 rfl rfl (by omega) (by omega) ?_
  refine bQ rfl (aD ?_)
  refine bZ (⟨k.1 + 1, by omega⟩) ?_ (by show d.nl - (k.1 + 1) < d.nl - k.1; omega)
  (refine dK.mk' ?_ ?_ <;> (repeat' (first | exact aJ | exact aI | exact dO | refine aB ?_ (Ty.aW _) | refine aB ?_ (Ty.aF _) | refine aG rfl (Cont.aF _) ?_ | refine aG rfl (Cont.dM ?_) ?_ | refine bY ?_ (Ty.aF _) | refine bY ?_ ?_)))
  all_goals skip
  all_goals first | exact Ty.ah (congrArg (fun p => p.2.mixed) (Iq d _)) | exact Ty.ah (congrArg (fun p => p.2.taken) (Iq d _)) | exact Ty.fY (congrArg (fun p => p.2.grain) (Iq d _)) | exact Ty.fo (congrArg Prod.fst (Iq d _))
 refine cg (aR (aR (bA rfl (aC (aE ?_)))))
 obtain ⟨k, hk⟩ := k
 obtain rfl : k = d.nl := by have h1 : ¬ (k : Int) < (d.nl : Int) := hc10; have h2 : k ≤ d.nl := hk; omega
 refine lH (c0 := 13) 3 rfl rfl ?_
 refine gM (tg := 246) rfl (Cont.eF (show (d.ls d.nl).1 = d.mE by unfold Md.mE; rfl)) ?_
 refine gM (tg := 13) rfl (Cont.eC (l' := ownB 49 246 d.cU) ⟨Ty.aF _, Ty.aF _, Ty.aF _, Dd (show (d.ls d.nl).1.length = d.mE.length by unfold Md.mE; rfl), trivial⟩) ?_
 refine cW mixed rfl ?_
 refine bU rfl rfl (by decide) rfl rfl (by exact Nat.le_of_ble_eq_true rfl) ?_
 refine bU rfl rfl (by decide) rfl rfl (by exact Nat.le_of_ble_eq_true rfl) ?_
 refine cJ rfl rfl (by decide) rfl rfl rfl rfl rfl rfl ?_
 refine cJ rfl rfl (by decide) rfl rfl rfl rfl rfl rfl ?_
 refine aD ?_
 refine ⟨by kernel_rfl, ?_⟩
 refine aC (ay ?_)
 refine Lx [1000, 49, 246] rfl rfl rfl rfl rfl (by decide) rfl rfl rfl rfl rfl (by decide) rfl rfl rfl (by decide) (by repeat (first | exact ej | refine dx rfl (cA (by decide) rfl) ?_ | refine dx rfl (bC (by decide) rfl rfl rfl) ?_)) ?_ ?_
 all_goals first | exact fK (aM rfl rfl) | skip
 all_goals exact fK (Gl (aH (aH (aH (aH bL (eM (by decide))) (aM rfl rfl)) (eM (by decide))) (aM rfl rfl)))
end Go.Proofs.YtelbollidfdcjaaGreat
namespace Go.T
open Go Go.RowKit
def Jg (tg o n r : Nat) (_ : World) (M : bB) (v : Value) : Prop := ∃ b o' c, M b = some tg ∧ v = .slice (some ⟨b, o', none⟩) n c ∧ n + r ≤ c ∧ c ≤ maxLen ∧ (0 < n + r → o' = o)
def Ty.win (tg o n r : Nat) : Ty := ⟨Jg tg o n r, [tg], [], fun le hk _ ⟨b, o', c, h, e, h1, h2, h3⟩ => ⟨b, o', c, (le.own b tg h (hk tg (by simp))).1, e, h1, h2, h3⟩, true, fun _ ⟨_, _, _, _, e, _⟩ => by rw [e]; rfl⟩
theorem Ty.LF {tg n : Nat} (h : 0 < n) : (Ty.vs tg n).Sub (Ty.win tg 0 n 0) := by
 intro w M v hv
 rcases hv with ⟨h0, _⟩ | ⟨b, c, hb, e, h1, h2⟩
 ·omega
 exact ⟨b, 0, c, hb, e, by omega, h2, fun _ => rfl⟩
theorem Ty.K7 {tg n r : Nat} (h : 0 < n + r) : (Ty.win tg 0 n r).Sub (Ty.vs tg n) := by
 intro w M v ⟨b, o', c, hb, e, h1, h2, h3⟩
 obtain rfl := h3 h
 exact .inr ⟨b, c, hb, e, by omega, h2⟩
section
variable {P : Program} {fr : Fr} {ops : Array Oper} {A : As} {rest : List Oper} {K : As → List (As × Fx) → Prop} {d : Nat} {t ty' : TypeId} {p : String} {e : Array Edge} [T : kr P]
theorem y5 {w : World} {st el b o n c lo hi : Nat} {ti te : TI} {ol oh om : Option Value} (hT : T.eS[st]? = some ti) (hk : ti.k = .slice el) (hE : T.eS[el]? = some te) (hs : te.size = 1)
 (hlo : (ol = none ∧ lo = 0) ∨ ∃ k : IntKind, ol = some (.int k lo)) (hhi : (oh = none ∧ hi = n) ∨ ∃ k : IntKind, oh = some (.int k hi)) (hm : om = none) (h1 : lo ≤ hi) (h2 : hi ≤ c) :
 (Instr.sliceAt st (.slice (some ⟨b, o, none⟩) n c) ol oh om).run P w = .ok (.slice (if c = lo then some ⟨b, o, none⟩ else some ⟨b, o + lo, none⟩) (hi - lo) (c - lo)) w := by
 subst hm
 obtain ⟨_, D, _, hD, hkd, _⟩ := cz hT
 rw [hk] at hkd
 cases D <;> simp only [TK.of, reduceCtorEq, TK.slice.injEq] at hkd
 subst hkd
 have hsz := fun w => dR (P := P) hE w
 rcases hlo with ⟨rfl, rfl⟩ | ⟨k, rfl⟩ <;> rcases hhi with ⟨rfl, rfl⟩ | ⟨k', rfl⟩ <;>
  simp [Instr.sliceAt, Instr.slice, run_underlying hD, Instr.sliceBounds, Instr.sliceBound, asIntOf, hsz, hs, h2, h1, Addr.add_lit]
theorem z5 {w : World} {M : bB} {tg b o o' n r c lo hi : Nat} (hb : M b = some tg) (h1 : lo ≤ hi) (h2 : hi ≤ n + r) (h3 : n + r ≤ c) (h4 : c ≤ maxLen) (h5 : 0 < n + r → o' = o) :
 Jg tg (o + lo) (hi - lo) (n + r - hi) w M (.slice (if c = lo then some ⟨b, o', none⟩ else some ⟨b, o' + lo, none⟩) (hi - lo) (c - lo)) := by
 by_cases e : c = lo
 ·rw [if_pos e]; exact ⟨b, o', c - lo, hb, rfl, by omega, by omega, fun h => by omega⟩
 rw [if_neg e]; exact ⟨b, o' + lo, c - lo, hb, rfl, by omega, by omega, fun h => by rw [h5 (by omega)]⟩
theorem HL {x y : Operand} {k : IntKind} {el tg o n r hi : Nat} {ti te : TI} (hx : A.op fr x = .win tg o n r) (hy : A.op fr y = .int k hi) (hT : T.eS[ty']? = some ti) (hk : ti.k = .slice el) (hE : T.eS[el]? = some te) (hs : te.size = 1) (h2 : hi ≤ n + r)
 (h : af P fr ops rest (A.set d (.win tg (o + 0) (hi - 0) (n + r - hi))) fun A' l' => K A' ((A, { d := some d, ty := .win tg (o + 0) (hi - 0) (n + r - hi), rs := cC x ++ cC y }) :: l')) : af P fr ops (⟨some d, .slice ty' x none (some y) none, t, p, e, none⟩ :: rest) A K :=
 bK (bS rfl rfl fun a w M _ hr _ => by
  obtain ⟨hdx, hdy⟩ := op2 hr
  rw [hx] at hdx; rw [hy] at hdy
  have ey : a.eval y = .int k hi := hdy
  obtain ⟨b, o', c, hb, ex, g1, g2, g3⟩ := hdx
  have h3 := y5 (P := P) (w := w) (b := b) (o := o') (n := n) (c := c) hT hk hE hs (lo := 0) (hi := hi) (ol := none) (oh := some (.int k hi)) (om := none) (.inl ⟨rfl, rfl⟩) (.inr ⟨k, rfl⟩) rfl (Nat.zero_le _) (by omega)
  exact ⟨_, by simp only [execOp, ey, ex, Option.map_none, Option.map_some, Sem.run_bind, h3, Result.andThen_ok]; rfl, z5 (w := w) hb (Nat.zero_le _) h2 g1 g2 g3⟩) h
theorem Fy {x y : Operand} {k : IntKind} {el tg o n r lo : Nat} {ti te : TI} (hx : A.op fr x = .win tg o n r) (hy : A.op fr y = .int k lo) (hT : T.eS[ty']? = some ti) (hk : ti.k = .slice el) (hE : T.eS[el]? = some te) (hs : te.size = 1) (h2 : lo ≤ n)
 (h : af P fr ops rest (A.set d (.win tg (o + lo) (n - lo) (n + r - n))) fun A' l' => K A' ((A, { d := some d, ty := .win tg (o + lo) (n - lo) (n + r - n), rs := cC x ++ cC y }) :: l')) : af P fr ops (⟨some d, .slice ty' x (some y) none none, t, p, e, none⟩ :: rest) A K :=
 bK (bS rfl rfl fun a w M _ hr _ => by
  obtain ⟨hdx, hdy⟩ := op2 hr
  rw [hx] at hdx; rw [hy] at hdy
  have ey : a.eval y = .int k lo := hdy
  obtain ⟨b, o', c, hb, ex, g1, g2, g3⟩ := hdx
  have h3 := y5 (P := P) (w := w) (b := b) (o := o') (n := n) (c := c) hT hk hE hs (lo := lo) (hi := n) (ol := some (.int k lo)) (oh := none) (om := none) (.inr ⟨k, rfl⟩) (.inl ⟨rfl, rfl⟩) rfl h2 (by omega)
  exact ⟨_, by simp only [execOp, ey, ex, Option.map_none, Option.map_some, Sem.run_bind, h3, Result.andThen_ok]; rfl, z5 (w := w) hb h2 (by omega) g1 g2 g3⟩) h
theorem EN {x y z : Operand} {k k' : IntKind} {el tg o n r lo hi : Nat} {ti te : TI} (hx : A.op fr x = .win tg o n r) (hy : A.op fr y = .int k lo) (hz : A.op fr z = .int k' hi) (hT : T.eS[ty']? = some ti) (hk : ti.k = .slice el) (hE : T.eS[el]? = some te) (hs : te.size = 1) (h1 : lo ≤ hi) (h2 : hi ≤ n + r)
 (h : af P fr ops rest (A.set d (.win tg (o + lo) (hi - lo) (n + r - hi))) fun A' l' => K A' ((A, { d := some d, ty := .win tg (o + lo) (hi - lo) (n + r - hi), rs := cC x ++ (cC y ++ cC z) }) :: l')) : af P fr ops (⟨some d, .slice ty' x (some y) (some z) none, t, p, e, none⟩ :: rest) A K :=
 bK (bS rfl rfl fun a w M _ hr _ => by
  have hdx := cK (x := x) (fun _ h => List.mem_append_left _ h) hr
  have hdy := cK (x := y) (fun _ h => List.mem_append_right _ (List.mem_append_left _ h)) hr
  have hdz := cK (x := z) (fun _ h => List.mem_append_right _ (List.mem_append_right _ h)) hr
  rw [hx] at hdx; rw [hy] at hdy; rw [hz] at hdz
  have ey : a.eval y = .int k lo := hdy
  have ez : a.eval z = .int k' hi := hdz
  obtain ⟨b, o', c, hb, ex, g1, g2, g3⟩ := hdx
  have h3 := y5 (P := P) (w := w) (b := b) (o := o') (n := n) (c := c) hT hk hE hs (lo := lo) (hi := hi) (ol := some (.int k lo)) (oh := some (.int k' hi)) (om := none) (.inr ⟨k, rfl⟩) (.inr ⟨k', rfl⟩) rfl h1 (by omega)
  exact ⟨_, by simp only [execOp, ey, ez, ex, Option.map_none, Option.map_some, Sem.run_bind, h3, Result.andThen_ok]; rfl, z5 (w := w) hb h1 h2 g1 g2 g3⟩) h
theorem Lf {x y z u : Operand} {k k' k2 : IntKind} {el tg o n r lo hi mx : Nat} {ti te : TI} (hx : A.op fr x = .win tg o n r) (hy : A.op fr y = .int k lo) (hz : A.op fr z = .int k' hi) (hu : A.op fr u = .int k2 mx) (hT : T.eS[ty']? = some ti) (hk : ti.k = .slice el) (hE : T.eS[el]? = some te) (hs : te.size = 1) (h1 : lo ≤ hi) (h2 : hi ≤ mx) (h3 : mx ≤ n)
 (h : af P fr ops rest (A.set d .any) fun A' l' => K A' ((A, { d := some d, ty := .any, rs := cC x ++ (cC y ++ (cC z ++ cC u)) }) :: l')) : af P fr ops (⟨some d, .slice ty' x (some y) (some z) (some u), t, p, e, none⟩ :: rest) A K :=
 bK (bS rfl rfl fun a w M _ hr _ => by
  have hdx := cK (x := x) (fun _ h => List.mem_append_left _ h) hr
  have hdy := cK (x := y) (fun _ h => List.mem_append_right _ (List.mem_append_left _ h)) hr
  have hdz := cK (x := z) (fun _ h => List.mem_append_right _ (List.mem_append_right _ (List.mem_append_left _ h))) hr
  have hdu := cK (x := u) (fun _ h => List.mem_append_right _ (List.mem_append_right _ (List.mem_append_right _ h))) hr
  rw [hx] at hdx; rw [hy] at hdy; rw [hz] at hdz; rw [hu] at hdu
  have ey : a.eval y = .int k lo := hdy
  have ez : a.eval z = .int k' hi := hdz
  have eu : a.eval u = .int k2 mx := hdu
  obtain ⟨b, o', c, hb, ex, g1, g2, g3⟩ := hdx
  obtain ⟨_, D, _, hD, hkd, _⟩ := cz hT
  rw [hk] at hkd
  cases D <;> simp only [TK.of, reduceCtorEq, TK.slice.injEq] at hkd
  subst hkd
  have hsz := fun w => dR (P := P) hE w
  have g4 : mx ≤ c := by omega
  exact ⟨_, by simp [execOp, ey, ez, eu, ex, Instr.sliceAt, Instr.slice, run_underlying hD, Instr.sliceBounds, Instr.sliceBound, asIntOf, hsz, hs, h1, h2, g4]; rfl, trivial⟩) h
theorem so {x : Operand} {tg o n r el : Nat} {ti : TI} (hx : A.op fr x = .win tg o n r) (hT : T.eS[ty']? = some ti) (hk : ti.k = .slice el)
 (h : af P fr ops rest (A.set d (.int .i64 n)) fun A' l' => K A' ((A, { d := some d, ty := .int .i64 n, rs := cC x }) :: l')) :
 af P fr ops (⟨some d, .call ⟨.builtin .len, #[x], #[ty']⟩, t, p, e, none⟩ :: rest) A K :=
 bK (bS rfl rfl fun a w M _ hrd _ => by
  have hdx := cK (x := x) (fun _ h => h) hrd
  rw [hx] at hdx
  obtain ⟨_, D, _, hD, hkd, _⟩ := cz hT
  rw [hk] at hkd
  cases D <;> simp only [TK.of, reduceCtorEq, TK.slice.injEq] at hkd
  obtain ⟨b, o', c, hb, ex, g1, g2, g3⟩ := hdx
  exact ⟨.int .i64 n, by simp [execOp, resolve, invoke, builtin, ex, Builtin.len_, run_underlying hD, goInt], rfl⟩) h
omit T in
theorem DF {x : Operand} {tg o n r : Nat} (hx : A.op fr x = .win tg o n r) (h : af P fr ops rest (A.set d (.win tg o n r)) fun A' l => K A' ((A, { d := some d, ty := .win tg o n r, rs := cC x }) :: l)) : af P fr ops (⟨some d, .move x, t, p, e, none⟩ :: rest) A K := eE hx h
omit T in
theorem ND {x : Operand} {tg o n r : Nat} (hx : A.op fr x = .win tg o n r) (h : af P fr ops rest (A.set d (.win tg o n r)) fun A' l => K A' ((A, { d := some d, ty := .win tg o n r, rs := cC x }) :: l)) : af P fr ops (⟨some d, .assign x, t, p, e, none⟩ :: rest) A K := fQ hx h
theorem JE {α : Type} {l vs : List α} {n i : Nat} {v : α} (h : l.take n = vs) (hv : vs[i]? = some v) : l[i]? = some v := by
 have hi : i < vs.length := (List.getElem?_eq_some_iff.1 hv).1
 rw [← h, List.length_take] at hi
 rw [← h, List.getElem?_take, if_pos (by omega)] at hv
 exact hv
theorem nM {w : World} {M : bB} {l : List Ty} {vs : List Value} (k : Nat) (h : cN w M l vs) : cN w M (l.drop k) (vs.drop k) := by
  induction k generalizing l vs with
  | zero => exact h
  | succ k ih =>
    match l, vs, h with
    | [], [], _ => exact trivial
    | _ :: _, _ :: _, h => exact ih h.2
theorem lW {w : World} {M : bB} {l : List Ty} {vs : List Value} (k : Nat) (h : cN w M l vs) : cN w M (l.take k) (vs.take k) := by
  induction k generalizing l vs with
  | zero => exact trivial
  | succ k ih =>
    match l, vs, h with
    | [], [], _ => exact trivial
    | _ :: _, _ :: _, h => exact ⟨h.1, ih h.2⟩
theorem lO {α : Type} {E : El α} (h1 : E.size = 1) : ∀ (xs : List α) (k : Nat), (xs.take k).flatMap E.tys = (xs.flatMap E.tys).take k ∧ (xs.drop k).flatMap E.tys = (xs.flatMap E.tys).drop k
  | xs, 0 => ⟨rfl, rfl⟩
  | [], k + 1 => ⟨rfl, rfl⟩
  | x :: xs, k + 1 => by
    have hl : (E.tys x).length = 1 := by rw [E.len, h1]
    obtain ⟨ih1, ih2⟩ := lO h1 xs k
    match hx : E.tys x, hl with
    | [a], _ =>
      rw [List.take_succ_cons, List.drop_succ_cons, List.flatMap_cons, List.flatMap_cons, hx, ih1, ih2]
      exact ⟨rfl, rfl⟩
def qA {α : Type} (xs : List α) (k j m : Nat) : List α := xs.take k ++ (xs.drop j).take m ++ xs.drop (k + m)
theorem wh {α : Type} {xs : List α} {k j m : Nat} (h1 : j + m ≤ xs.length) (h2 : k + m ≤ xs.length) : (qA xs k j m).length = xs.length := by
 unfold qA
 rw [List.length_append, List.length_append, List.length_take, List.length_take, List.length_drop, List.length_drop]; omega
theorem Ej {α : Type} {E : El α} {x y : Operand} {st tg k m r r' j Tb : Nat} {ti te : TI} {xs : List α} (hx : A.op fr x = .win tg 0 k r) (hy : A.op fr y = .win tg j m r') (hc : A.tag tg = some (.vec E Tb xs)) (hE1 : E.size = 1) (hm : m ≤ r) (hkr : 0 < k + r) (h2 : j + m ≤ xs.length) (h3 : k + m ≤ xs.length) (hpos : 0 < xs.length) (h1 : fu tg) (hT : T.eS[st]? = some ti) (hk : ti.k = .slice Tb) (hE : T.eS[Tb]? = some te) (hs : te.size = 1)
 (h : af P fr ops rest (A.after { d := some d, ty := .win tg 0 (k + m) (r - m), S := [tg], sets := [(tg, .vec E Tb (qA xs k j m))], rs := cC x ++ cC y, rt := [tg] }) fun A' l' => K A' ((A, { d := some d, ty := .win tg 0 (k + m) (r - m), S := [tg], sets := [(tg, .vec E Tb (qA xs k j m))], rs := cC x ++ cC y, rt := [tg] }) :: l')) :
 af P fr ops (⟨some d, .call ⟨.builtin .append, #[x, y], #[st, st]⟩, t, p, e, none⟩ :: rest) A K := by
 refine ⟨_, gH rfl rfl (by simp) (by simpa using h1.1) (by simp) fun a w M wf hr ht => ?_, h⟩
 obtain ⟨hdx, hdy⟩ := op2 hr
 rw [hx] at hdx; rw [hy] at hdy
 obtain ⟨b, o1, c, hb, ex, g1, g2, g3⟩ := hdx
 obtain ⟨b2, o2, c2, hb2, ey, f1, f2, f3⟩ := hdy
 obtain ⟨u, rfl⟩ : ∃ u, tg = u + 1 := ⟨tg - 1, by omega⟩
 have e2 := wf.inj b b2 u (by omega) hb hb2
 subst e2
 rcases mA hc w M ht with rfl | ⟨b', cs, hb', hh, hd⟩
 ·simp at hpos
 have e3 := wf.inj b b' u (by omega) hb hb'
 subst e3
 obtain ⟨_, D, _, hD, hkd, _⟩ := cz hT
 rw [hk] at hkd
 cases D <;> simp only [TK.of, reduceCtorEq, TK.slice.injEq] at hkd
 subst hkd
 rename_i el
 obtain ⟨i, _, hi, _, _, hsz, _, _⟩ := cz hE
 rw [hs] at hsz
 obtain rfl := g3 hkr
 have hF : (xs.flatMap E.tys).length = xs.length := by rw [ct, hE1, Nat.mul_one]
 have hL := cO hd
 obtain ⟨L, eL⟩ : ∃ L, L = cs.toList.take (xs.flatMap E.tys).length := ⟨_, rfl⟩
 rw [← eL] at hd hL
 have hcs : xs.length ≤ cs.size := by
  have h1 := congrArg List.length eL
  have h2 : cs.toList.length = cs.size := Array.length_toList
  rw [List.length_take, h2] at h1; omega
 have hnl : ((L.drop j).take m).length = m := by rw [List.length_take, List.length_drop]; omega
 have hLc : ∀ i v, L[i]? = some v → cs.toList[i]? = some v := fun i v hv => JE eL.symm hv
 have hone : ∀ v ∈ L, v.oneCell' = true := ju hd (lF E xs)
 have hrun := run_append_room (P := P) w st t el i hD hi b k c cs hh ⟨b, o2, none⟩ m c2 ((L.drop j).take m) (by rw [hnl, hsz, Nat.mul_one])
  (fun i v hv => by
   have hi : i < ((L.drop j).take m).length := (List.getElem?_eq_some_iff.1 hv).1
   rw [hnl] at hi
   obtain rfl := f3 (by omega)
   rw [List.getElem?_take, if_pos hi, List.getElem?_drop] at hv
   rw [Addr.add_lit]
   have := hLc _ _ hv
   simp only [World.cell?, hh]
   simpa using this)
  (fun v hv => hone v (List.mem_of_mem_drop (List.mem_of_mem_take hv))) (by omega) (by rw [hnl, hsz, Nat.mul_one]; omega)
 rw [hsz, Nat.mul_one, hnl, jE _ hh, ← ex, ← ey] at hrun
 obtain ⟨w1, w2, w3⟩ := iD (cs' := (cs.toList.take k ++ (L.drop j).take m ++ cs.toList.drop (k + m)).toArray) (Tb := el) wf hb _ rfl
 refine ⟨_, _, by simp [execOp, resolve, invoke, builtin, hrun], M, w1, w2, ⟨b, 0, c, hb, rfl, by omega, g2, fun _ => rfl⟩, fun x hx => ?_⟩
 rw [List.mem_singleton.1 hx]
 refine .inr ⟨b, _, hb, w3, bu w2 (by rw [E.dG]; intro _ h; cases h) (by rw [E.cX]; intro _ h; cases h) ?_⟩
 have e1 : (qA xs k j m).flatMap E.tys = (xs.flatMap E.tys).take k ++ ((xs.flatMap E.tys).drop j).take m ++ (xs.flatMap E.tys).drop (k + m) := by
  unfold qA
  rw [List.flatMap_append, List.flatMap_append, (lO hE1 xs k).1, (lO hE1 xs (k + m)).2, (lO hE1 (xs.drop j) m).1, (lO hE1 xs j).2]
 have e2 : ((qA xs k j m).flatMap E.tys).length = xs.length := by rw [ct, hE1, Nat.mul_one, wh h2 h3]
 rw [e2, e1]
 have e3 : (cs.toList.take k ++ (L.drop j).take m ++ cs.toList.drop (k + m)).take xs.length = L.take k ++ (L.drop j).take m ++ L.drop (k + m) := by
  rw [hF] at eL
  have e4 : L.take k = cs.toList.take k := by rw [eL, List.take_take, Nat.min_eq_left (by omega)]
  have e5 : L.drop (k + m) = (cs.toList.drop (k + m)).take (xs.length - (k + m)) := by rw [eL, List.drop_take]
  rw [e4, e5]
  have e6 : (cs.toList.take k ++ (L.drop j).take m).length = k + m := by
   have h2 : cs.toList.length = cs.size := Array.length_toList
   rw [List.length_append, hnl, List.length_take, h2]; omega
  rw [List.take_append, e6, List.take_of_length_le (by omega)]
 show cN w M _ (List.take xs.length (cs.toList.take k ++ (L.drop j).take m ++ cs.toList.drop (k + m)))
 rw [e3]
 exact gG (gG (lW k hd) (lW m (nM j hd))) (nM (k + m) hd)
def qD {α : Type} (xs : List α) (o m : Nat) (z : α) : List α := xs.take o ++ List.replicate m z ++ xs.drop (o + m)
theorem Fg {α : Type} {xs : List α} {o m : Nat} {z : α} (h : o + m ≤ xs.length) : (qD xs o m z).length = xs.length := by
 unfold qD
 rw [List.length_append, List.length_append, List.length_take, List.length_replicate, List.length_drop]; omega
theorem Ab {α : Type} {E : El α} {x : Operand} {st tg m r o Tb : Nat} {ti te : TI} {xs : List α} (z : α) (hx : A.op fr x = .win tg o m r) (hm : m = 1) (hc : A.tag tg = some (.vec E Tb xs)) (hE1 : E.size = 1) (h2 : o + 1 ≤ xs.length) (h1 : fu tg) (hT : T.eS[st]? = some ti) (hk : ti.k = .slice Tb) (hE : T.eS[Tb]? = some te) (hz : te.zero.map Ty.kK = E.tys z) (ho : te.zero.all (fun v => v.oneCell') = true)
 (h : af P fr ops rest (A.after { d := none, S := [tg], sets := [(tg, .vec E Tb (qD xs o 1 z))], rs := cC x, rt := [tg] }) fun A' l' => K A' ((A, { d := none, S := [tg], sets := [(tg, .vec E Tb (qD xs o 1 z))], rs := cC x, rt := [tg] }) :: l')) :
 af P fr ops (⟨none, .call ⟨.builtin .clear, #[x], #[st]⟩, t, p, e, none⟩ :: rest) A K := by
 subst hm
 refine ⟨_, gH rfl rfl (by simp) (by simpa using h1.1) (by simp) fun a w M wf hr ht => ?_, h⟩
 have hdx := cK (x := x) (fun _ h => h) hr
 rw [hx] at hdx
 obtain ⟨b, o1, c, hb, ex, g1, g2, g3⟩ := hdx
 obtain ⟨u, rfl⟩ : ∃ u, tg = u + 1 := ⟨tg - 1, by omega⟩
 rcases mA hc w M ht with rfl | ⟨b', cs, hb', hh, hd⟩
 ·have : o + 1 ≤ 0 := h2
  omega
 have e3 := wf.inj b b' u (by omega) hb hb'
 subst e3
 obtain rfl := g3 (by omega)
 obtain ⟨_, D, _, hD, hkd, _⟩ := cz hT
 rw [hk] at hkd
 cases D <;> simp only [TK.of, reduceCtorEq, TK.slice.injEq] at hkd
 subst hkd
 rename_i el
 have hz1 : te.zero.length = 1 := by
  have := congrArg List.length hz
  rw [List.length_map, E.len, hE1] at this; exact this
 obtain ⟨zv, hzz⟩ : ∃ zv, te.zero = [zv] := List.length_eq_one_iff.1 hz1
 obtain ⟨q, hq1, hq2⟩ := mX hE (by rw [hzz]; simp) w
 rw [hzz] at hq2
 have hF : (xs.flatMap E.tys).length = xs.length := by rw [ct, hE1, Nat.mul_one]
 have hL := cO hd
 obtain ⟨L, eL⟩ : ∃ L, L = cs.toList.take (xs.flatMap E.tys).length := ⟨_, rfl⟩
 rw [← eL] at hd hL
 have h2' : cs.toList.length = cs.size := Array.length_toList
 have hcs : xs.length ≤ cs.size := by
  have h1 := congrArg List.length eL
  rw [List.length_take, h2'] at h1; omega
 have hqs : q.cells.size = 1 := by rw [← Array.length_toList, hq2]; rfl
 have hzl : (Builtin.zeroCells q.cells 1).toList = [zv] := by
  have h0 : q.cells.toList[0]? = some zv := by rw [hq2]; rfl
  have h3 : q.cells[0]! = zv := by
   rw [Array.getElem?_toList] at h0
   simp [getElem!_def, h0]
  have h4 : q.cells[0]'(by rw [hqs]; exact Nat.zero_lt_one) = zv := by
   rw [← h3, getElem!_pos q.cells 0 (by rw [hqs]; exact Nat.zero_lt_one)]
  simp [Builtin.zeroCells, hqs, show Array.range 1 = #[0] from rfl, h4]
 have hst := run_storeCells_at P b o1 el (Builtin.zeroCells q.cells 1).toList 0 cs w hh (by rw [hzl]; show o1 + 0 + 1 ≤ cs.size; omega) (fun v hv => by
  rw [hzl, List.mem_singleton] at hv
  subst hv
  exact List.all_eq_true.1 ho _ (by rw [hzz]; exact List.mem_singleton.2 rfl))
 rw [jE _ hh] at hst
 obtain ⟨w1, w2, w3⟩ := iD (cs' := (cs.toList.take (o1 + 0) ++ (Builtin.zeroCells q.cells 1).toList ++ cs.toList.drop (o1 + 0 + (Builtin.zeroCells q.cells 1).toList.length)).toArray) (Tb := el) wf hb _ rfl
 have hrun : (Builtin.clear_ #[st] t #[a.eval x]).run P w = .ok (.tuple #[]) { w with heap := w.heap.setIfInBounds b (.cells (cs.toList.take (o1 + 0) ++ (Builtin.zeroCells q.cells 1).toList ++ cs.toList.drop (o1 + 0 + (Builtin.zeroCells q.cells 1).toList.length)).toArray el (0, 0)) } := by
  rw [ex]
  simp only [Builtin.clear_]
  simp [run_underlying hD, hq1]
  simp at hst
  rw [hst]
  simp
 refine ⟨.tuple #[], _, by simp [execOp, resolve, invoke, builtin, hrun], M, w1, w2, trivial, fun x hx => ?_⟩
 rw [List.mem_singleton.1 hx]
 refine .inr ⟨b, _, hb, w3, bu w2 (by rw [E.dG]; intro _ h; cases h) (by rw [E.cX]; intro _ h; cases h) ?_⟩
 have e1 : (qD xs o1 1 z).flatMap E.tys = (xs.flatMap E.tys).take o1 ++ E.tys z ++ (xs.flatMap E.tys).drop (o1 + 1) := by
  unfold qD
  rw [List.flatMap_append, List.flatMap_append, (lO hE1 xs o1).1, (lO hE1 xs (o1 + 1)).2]
  show _ ++ (E.tys z ++ []) ++ _ = _
  rw [List.append_nil]
 have e2 : ((qD xs o1 1 z).flatMap E.tys).length = xs.length := by rw [ct, hE1, Nat.mul_one, Fg h2]
 rw [e2, e1, hzl]
 have e3 : (cs.toList.take o1 ++ [zv] ++ cs.toList.drop (o1 + 1)).take xs.length = L.take o1 ++ [zv] ++ L.drop (o1 + 1) := by
  rw [hF] at eL
  have e4 : L.take o1 = cs.toList.take o1 := by rw [eL, List.take_take, Nat.min_eq_left (by omega)]
  have e5 : L.drop (o1 + 1) = (cs.toList.drop (o1 + 1)).take (xs.length - (o1 + 1)) := by rw [eL, List.drop_take]
  rw [e4, e5]
  have e6 : (cs.toList.take o1 ++ [zv]).length = o1 + 1 := by
   rw [List.length_append, List.length_take, h2']; show _ + 1 = _; omega
  rw [List.take_append, e6, List.take_of_length_le (by omega)]
 show cN w M _ (List.take xs.length (cs.toList.take o1 ++ [zv] ++ cs.toList.drop (o1 + 1)))
 rw [e3]
 refine gG (gG (lW o1 hd) ?_) (nM (o1 + 1) hd)
 rw [← hz, hzz]
 exact ⟨lD _ _ zv, trivial⟩
end
theorem H8 {α : Type} {E : El α} {T k : Nat} {xs ys : List α} (h : xs.take k = ys) : (Cont.vec E T xs).Sub (Cont.vec E T ys) := by
 intro w M t hd
 subst h
 rcases hd with rfl | ⟨b, cs, h1, h2, h3⟩
 ·exact .inl List.take_nil
 refine .inr ⟨b, cs, h1, h2, ?_⟩
 have e : xs.flatMap E.tys = (xs.take k).flatMap E.tys ++ (xs.drop k).flatMap E.tys := by rw [← List.flatMap_append, List.take_append_drop]
 have h4 := lW ((xs.take k).flatMap E.tys).length h3
 rw [List.take_take, e, List.take_append_of_le_length (Nat.le_refl _), List.take_length, List.length_append, Nat.min_eq_left (Nat.le_add_right _ _)] at h4
 exact h4
theorem F9 {α : Type} {xs : List α} {k : Nat} {z : α} (hk : k < xs.length) : (qD (qA xs k (k + 1) (xs.length - (k + 1))) (xs.length - 1) 1 z).take (xs.length - 1) = xs.eraseIdx k := by
 have h1 := wh (xs := xs) (k := k) (j := k + 1) (m := xs.length - (k + 1)) (by omega) (by omega)
 unfold qD
 rw [List.append_assoc, List.take_append_of_le_length (by rw [List.length_take, h1]; omega), List.take_take, Nat.min_self]
 unfold qA
 rw [List.take_of_length_le (l := xs.drop (k + 1)) (by rw [List.length_drop]; exact Nat.le_refl _), List.take_append_of_le_length (by rw [List.length_append, List.length_take, List.length_drop]; omega), List.take_of_length_le (by rw [List.length_append, List.length_take, List.length_drop]; omega), List.eraseIdx_eq_take_drop_succ]
end Go.T
namespace Go.T
open Go Go.RowKit
theorem FI {α : Type} [Inhabited α] {E : El α} {xs : List α} {i o : Nat} {z : α} {l' : List Ty} (hi : i < xs.length) (ho : o + l'.length ≤ E.size) (hl : (E.tys (nth xs i)).take o ++ (l' ++ (E.tys (nth xs i)).drop (o + l'.length)) = E.tys z) :
 (xs.set i z).flatMap E.tys = (xs.flatMap E.tys).take (i * E.size + o) ++ l' ++ (xs.flatMap E.tys).drop (i * E.size + o + l'.length) := by
 have e1 : xs = xs.take i ++ (nth xs i :: xs.drop (i + 1)) := by
  rw [iE hi]
  conv => lhs; rw [← List.take_append_drop i xs, List.drop_eq_getElem_cons hi]
 have e2 : xs.set i z = xs.take i ++ (z :: xs.drop (i + 1)) := by rw [List.set_eq_take_append_cons_drop, if_pos hi]
 have hp : ((xs.take i).flatMap E.tys).length = i * E.size := by rw [ct, List.length_take, Nat.min_eq_left (by omega)]
 have hq := E.len (nth xs i)
 have e3 : xs.flatMap E.tys = (xs.take i).flatMap E.tys ++ (E.tys (nth xs i) ++ (xs.drop (i + 1)).flatMap E.tys) := by
  conv => lhs; rw [e1]
  rw [List.flatMap_append, List.flatMap_cons]
 rw [e2, List.flatMap_append, List.flatMap_cons, e3, ← hl]
 generalize (xs.take i).flatMap E.tys = p at hp ⊢
 generalize (xs.drop (i + 1)).flatMap E.tys = r
 generalize E.tys (nth xs i) = q at hq ⊢
 have t1 : (p ++ (q ++ r)).take (i * E.size + o) = p ++ q.take o := by
  rw [List.take_append, List.take_of_length_le (by omega), hp, Nat.add_sub_cancel_left, List.take_append_of_le_length (by omega)]
 have t2 : (p ++ (q ++ r)).drop (i * E.size + o + l'.length) = q.drop (o + l'.length) ++ r := by
  rw [Nat.add_assoc, List.drop_append, List.drop_of_length_le (by omega), hp, Nat.add_sub_cancel_left, List.nil_append, List.drop_append_of_le_length (by omega)]
 rw [t1, t2]
 simp only [List.append_assoc]
section
variable {P : Program} {fr : Fr} {ops : Array Oper} {A : As} {rest : List Oper} {K : As → List (As × Fx) → Prop} {d : Nat} {t ty' : TypeId} {p : String} {e : Array Edge} [T : kr P]
theorem zJ {α : Type} [Inhabited α] {E : El α} {xs : List α} {x y : Operand} {tg off Tb : Nat} {l' : List Ty} {ti : TI} {z : α} (i o : Nat) (hx : A.op fr x = .ptr tg off) (he : off = i * E.size + o) (hc : A.tag tg = some (.vec E Tb xs)) (h1 : fu tg) (hT : T.eS[ty']? = some ti) (hy : A.op fr y = .agg l') (hsz : ti.size = l'.length) (hi : i < xs.length) (ho : o + l'.length ≤ E.size) (hone : l'.all Ty.one = true)
 (hl : (E.tys (nth xs i)).take o ++ (l' ++ (E.tys (nth xs i)).drop (o + l'.length)) = E.tys z) (hd1 : cI l' = []) (hd2 : bk l' = [])
 (h : af P fr ops rest (A.after { d := none, S := [tg], sets := [(tg, .vec E Tb (xs.set i z))], rs := cC x ++ cC y, rt := [tg] }) fun A' l'' => K A' ((A, { d := none, S := [tg], sets := [(tg, .vec E Tb (xs.set i z))], rs := cC x ++ cC y, rt := [tg] }) :: l'')) :
 af P fr ops (⟨none, .store ty' x y, t, p, e, none⟩ :: rest) A K := by
 refine ⟨_, kM rfl rfl rfl (by simp) (by simpa using h1.1) (by simp) fun a w M wf hr ht => ?_, h⟩
 obtain ⟨hdx, hdy⟩ := op2 hr
 rw [hx] at hdx; rw [hy] at hdy
 obtain ⟨b, hb, ex⟩ := hdx
 obtain ⟨vs, ey, hvs⟩ := hdy
 rcases mA hc w M ht with rfl | ⟨b', cs, hb', hh, hd⟩
 ·exact absurd hi (Nat.not_lt_zero _)
 obtain ⟨u, rfl⟩ : ∃ u, tg = u + 1 := ⟨tg - 1, by omega⟩
 have := wf.inj b b' u (by omega) hb hb'
 subst this
 have hvl : vs.size = l'.length := by have := cO hvs; simpa using this
 have hF : (xs.flatMap E.tys).length = xs.length * E.size := ct E xs
 obtain ⟨L, eL⟩ : ∃ L, L = cs.toList.take (xs.flatMap E.tys).length := ⟨_, rfl⟩
 rw [← eL] at hd
 have hL := cO hd
 have hcl : cs.toList.length = cs.size := Array.length_toList
 have hcs : xs.length * E.size ≤ cs.size := by
  have h1 := congrArg List.length eL
  rw [List.length_take, hcl] at h1; omega
 have hmul : (i + 1) * E.size ≤ xs.length * E.size := Nat.mul_le_mul_right _ hi
 rw [Nat.succ_mul] at hmul
 have hones : ∀ v ∈ vs.toList, v.oneCell' = true := ju hvs fun t ht => List.all_eq_true.1 hone _ ht
 have hst := run_storeCells_at (P := P) b off Tb vs.toList 0 cs w hh (by simp [he, hvl]; omega) hones
 rw [jE _ hh] at hst
 obtain ⟨h1', h2', h3'⟩ := iD (cs' := (cs.toList.take (off + 0) ++ vs.toList ++ cs.toList.drop (off + 0 + vs.toList.length)).toArray) (Tb := Tb) wf hb _ rfl
 refine ⟨_, ?_, M, h1', h2', trivial, ?_⟩
 ·simp only [execOp, Instr.storeAt, Instr.sureAddr, ex, ey, storeVar, Value.cells, dR hT, Sem.run_bind, Sem.run_pure, Result.andThen_ok, hsz, hvl, hst]
  simp [hst]
 intro z' hz'
 simp only [List.mem_singleton] at hz'
 subst hz'
 refine .inr ⟨b, _, hb, h3', ?_⟩
 refine bu h2' (by intro _ _ h; cases h) (by rw [E.cX]; intro _ h; cases h) ?_
 have hvl' : vs.toList.length = l'.length := by rw [Array.length_toList, hvl]
 have hlen : ((xs.set i z).flatMap E.tys).length = xs.length * E.size := by rw [ct, List.length_set]
 rw [hlen, FI hi ho hl]
 have e3 : (cs.toList.take (off + 0) ++ vs.toList ++ cs.toList.drop (off + 0 + vs.toList.length)).take (xs.length * E.size) = L.take off ++ vs.toList ++ L.drop (off + l'.length) := by
  rw [hF] at eL
  rw [hvl', Nat.add_zero]
  have e4 : L.take off = cs.toList.take off := by rw [eL, List.take_take, Nat.min_eq_left (by omega)]
  have e5 : L.drop (off + l'.length) = (cs.toList.drop (off + l'.length)).take (xs.length * E.size - (off + l'.length)) := by rw [eL, List.drop_take]
  rw [e4, e5]
  have e6 : (cs.toList.take off ++ vs.toList).length = off + l'.length := by
   rw [List.length_append, hvl', List.length_take, hcl]; omega
  rw [List.take_append, e6, List.take_of_length_le (by omega)]
 show cN w M _ (List.take (xs.length * E.size) (cs.toList.take (off + 0) ++ vs.toList ++ cs.toList.drop (off + 0 + vs.toList.length)))
 rw [e3, ← he]
 exact gG (gG (lW off hd) hvs) (nM (off + l'.length) hd)
end
end Go.T
namespace Go.Proofs.YtelbollidfdcjaaGreat
open Go Go.T
set_option maxHeartbeats 8000000
theorem K2 {tg n m r s : Nat} (h1 : n = m) (h2 : r = s) : (Ty.win tg 0 n r).Sub (Ty.win tg 0 m s) := by subst h1; subst h2; exact Ty.aF _
attribute [local irreducible] iY fX nD qR jG jJ jI jK jF qu jD qw eJ gm qF gx ql nth fU dn af dy bodyPost Exit.then Exit.inBlock Code.wp Code.wpIn qh jH qi qX jC eT cZ cq bodyPostM eR
attribute [local irreducible] Jg qA qD
set_option maxRecDepth 100000 in
theorem yT (l : List Int) (h : l.length ≤ 1000) : eT Tryz.prog 39 [] [] [Ty.sl cT l] [] (Ty.row cT 3 6 l) := by
 refine dc Tryz.func39 rfl (by decide) Tryz.ntmps39 (by exact Nat.le_of_ble_eq_true rfl) fun w0 M0 => ?_
 refine aE (aA (mP rfl (aD (aC (aE (aA (gB rfl (c9 rfl rfl rfl ?_))))))))
 refine Iy (E := cT) rfl rfl rfl rfl rfl rfl rfl (by decide) rfl (by omega) (by (dsimp only; omega)) (by omega) ?_
 refine gB rfl ?_
 refine fP rfl rfl (by decide) rfl rfl rfl rfl rfl rfl (by decide) (by (simp <;> omega)) (by (simp <;> omega)) ?_
 refine Fb rfl (aD (aC (ay ?_)))
 refine fZ [6] rfl rfl (by decide) (by repeat (exact ej)) ?_
 all_goals skip
 all_goals exact fK (qU (by decide))
set_option maxRecDepth 100000 in
theorem Mb (l : List Int) (k : Nat) (hk : k < l.length) : eT Tryz.prog 66 [1000] [] [Ty.row cT 3 1000 l, Ty.int .i64 ((k : Nat) : Int), Ty.int .i64 ((k + 1 : Nat) : Int)] [(1000, Cont.vec cT 3 (l.eraseIdx k))] (Ty.vs 1000 (l.eraseIdx k).length) := by
 refine dc Tryz.func66 rfl (by decide) Tryz.ntmps66 (by exact Nat.le_of_ble_eq_true rfl) fun w0 M0 => ?_
 have hle : (l.eraseIdx k).length = l.length - 1 := by rw [List.length_eraseIdx_of_lt hk]
 refine aE (aA (mP rfl (aD (aC (aE ?_)))))
 refine MU (s := 0) rfl rfl ?_
 refine fW (s := 0) rfl (Ty.LF (by omega)) ?_
 refine aA (DF rfl (bQ rfl (bQ rfl (DF rfl (so rfl rfl rfl ?_)))))
 refine Lf rfl rfl rfl rfl rfl rfl rfl rfl (by omega) (by omega) (by omega) ?_
 refine aD (aC (aE (aE (aA (bQ rfl (bQ rfl (bE rfl rfl rfl (aD (aC ?_)))))))))
 refine gD rfl (decide_eq_false (by omega)) ?_
 refine ak (aC (aE (aA (DF rfl (so rfl rfl rfl (cF rfl (aD (aC (aE ?_)))))))))
 refine cW mixed rfl (DF rfl (bQ rfl ?_))
 refine HL rfl rfl rfl rfl rfl rfl (by omega) ?_
 refine DF rfl (bQ rfl ?_)
 refine Fy rfl rfl rfl rfl rfl rfl (by omega) ?_
 refine Ej (E := cT) (xs := l) rfl rfl rfl rfl (by omega) (by omega) (by omega) (by omega) (by omega) (by decide) rfl rfl rfl rfl ?_
 refine ND rfl (aD ?_)
 refine ⟨by kernel_rfl, ?_⟩
 refine aC (aE ?_)
 have hdl := wh (xs := l) (k := k - 0) (j := 0 + (k + 1)) (m := l.length - (k + 1)) (by omega) (by omega)
 refine fW (s := 0) rfl (K2 (m := l.length - 1) (s := 1) (by omega) (by omega)) ?_
 refine aA (DF rfl (DF rfl (so rfl rfl rfl (bQ rfl ?_))))
 refine EN rfl rfl rfl rfl rfl rfl rfl (by omega) (by omega) ?_
 refine Ab (E := cT) (0 : Int) rfl (by omega) rfl rfl (by omega) (by decide) rfl rfl rfl rfl rfl ?_
 refine aD (aC (aE ?_))
 refine gM (tg := 1000) rfl (H8 (k := l.length - 1) (ys := l.eraseIdx k) (by rw [Nat.zero_add, Nat.zero_add, Nat.sub_zero]; exact F9 hk)) ?_
 refine fW (s := 0) rfl (Ty.K7 (by omega)) ?_
 refine fW (s := 0) rfl (Ty.sub_eq (congrArg (Ty.vs 1000) hle.symm)) ?_
 refine aA (HS rfl (NB rfl (aD (aC (ay ?_)))))
 refine fZ [1000] rfl rfl (by decide) (by repeat (first | exact ej | refine dx rfl (cA (by decide) rfl) ?_)) ?_
 all_goals skip
 all_goals exact fK (eM (by decide))
end Go.Proofs.YtelbollidfdcjaaGreat
namespace Go.Proofs.YtelbollidfdcjaaGreat
open Go Go.T
set_option maxHeartbeats 8000000
def bF (g : List Int) : Md := ⟨dP g, 3, 3, 5, 6⟩
theorem BE (g : List Int) : (bF g).Ok := ⟨by show (1 : Int) ≤ 3 ∧ (3 : Int) ≤ 5; omega, by show (1 : Int) ≤ 3 ∧ (3 : Int) ≤ 4; omega, by show (0 : Int) ≤ 5 ∧ (5 : Int) ≤ 10; omega, by show (0 : Int) ≤ 6 ∧ (6 : Int) ≤ 8; omega⟩
theorem I2 (g : List Int) : eT Tryz.prog 17 [1000] [(1000, Cont.cells 149 (dA (dP g)))] [Ty.ptr 1000 0, Ty.int .i64 3, Ty.int .i64 3, Ty.int .i64 5, Ty.int .i64 6] [(1000, Cont.cells 149 (dA (bF g).sk)), (49, Cont.vec eH 39 (bF g).cU.bins), (246, Cont.vec dY 102 (bF g).cU.levels)] (Ty.jq [Ty.agg (ownB 49 246 (bF g).cU), qM (bF g).real]) :=
 Lz (bF g) (BE g) (by have := yW g; exact ⟨this.1, by have := this.2; show (dP g).taken + 1000 ≤ _; omega⟩)
section
variable {ls : List Level} {q : Sk} {k : Nat}
theorem LP (h : bN (cS ls q k).q 2 = 0) : (((cS ls q k).bad : Nat) : Int) + 1 = (((cS ls q (k + 1)).bad : Nat) : Int) := by have e := congrArg (fun s : uV => ((s.bad : Nat) : Int)) (rR (ls := ls) (q := q) (k := k) (by unfold jj; exact decide_eq_true h)); exact e
theorem LB (h : bN (cS ls q k).q 2 = 0) : (aT (aT (aT (cS ls q k).q))).mixed = (cS ls q (k + 1)).q.mixed := by have e := congrArg (fun s : uV => s.q.mixed) (rR (ls := ls) (q := q) (k := k) (by unfold jj; exact decide_eq_true h)); exact e
theorem Ly (h : bN (cS ls q k).q 2 = 0) : (aT (aT (aT (cS ls q k).q))).taken = (cS ls q (k + 1)).q.taken := by have e := congrArg (fun s : uV => s.q.taken) (rR (ls := ls) (q := q) (k := k) (by unfold jj; exact decide_eq_true h)); exact e
theorem LO (h : bN (cS ls q k).q 2 = 0) : (aT (aT (aT (cS ls q k).q))).grain = (cS ls q (k + 1)).q.grain := by have e := congrArg (fun s : uV => s.q.grain) (rR (ls := ls) (q := q) (k := k) (by unfold jj; exact decide_eq_true h)); exact e
theorem Kc (h : bN (cS ls q k).q 2 = 0) : (cS ls q k).ls.set k (GH (cS ls q k) k) = (cS ls q (k + 1)).ls := by have e := congrArg (fun s : uV => s.ls) (rR (ls := ls) (q := q) (k := k) (by unfold jj; exact decide_eq_true h)); exact e
theorem Ky (h : ¬ bN (cS ls q k).q 2 = 0) : (((cS ls q k).bad : Nat) : Int) = (((cS ls q (k + 1)).bad : Nat) : Int) := by have e := congrArg (fun s : uV => ((s.bad : Nat) : Int)) (wH (ls := ls) (q := q) (k := k) (by unfold jj; exact decide_eq_false h)); exact e
theorem LL (h : ¬ bN (cS ls q k).q 2 = 0) : (aT (cS ls q k).q).mixed = (cS ls q (k + 1)).q.mixed := by have e := congrArg (fun s : uV => s.q.mixed) (wH (ls := ls) (q := q) (k := k) (by unfold jj; exact decide_eq_false h)); exact e
theorem Km (h : ¬ bN (cS ls q k).q 2 = 0) : (aT (cS ls q k).q).taken = (cS ls q (k + 1)).q.taken := by have e := congrArg (fun s : uV => s.q.taken) (wH (ls := ls) (q := q) (k := k) (by unfold jj; exact decide_eq_false h)); exact e
theorem LU (h : ¬ bN (cS ls q k).q 2 = 0) : (aT (cS ls q k).q).grain = (cS ls q (k + 1)).q.grain := by have e := congrArg (fun s : uV => s.q.grain) (wH (ls := ls) (q := q) (k := k) (by unfold jj; exact decide_eq_false h)); exact e
theorem Kq (h : ¬ bN (cS ls q k).q 2 = 0) : (cS ls q k).ls = (cS ls q (k + 1)).ls := by have e := congrArg (fun s : uV => s.ls) (wH (ls := ls) (q := q) (k := k) (by unfold jj; exact decide_eq_false h)); exact e
end
section
variable {y z : bD} {a : ep} {n nb k : Nat} {v : Int}
theorem C3 (hr : y.cm) (ho : cV y = 0) : eU y = 6 ∧ cr y = [] := by
 have h1 := wW hr ho
 have h2 := uj (jM hr) (by show (!(fN (ld y) y.levels.length).isSome) = true; rw [h1]; rfl)
 exact ⟨h2.1.symm, h2.2.symm⟩
theorem k7.of (hr : y.cm) (hf : fL y (fun _ => true) a) {q : Sk} : k7 (qZ y q) (qZ y q).levels.length (cS y.levels q y.levels.length).bad := by
 obtain ⟨B, h1, h2, h3⟩ := Ey (q := q) hf
 exact ⟨CX hr, rfl, B, a, by rw [vo]; exact h1, h2, h3⟩
theorem AP {a b : Ty} : (Ty.jq [a, b]).Sub (Ty.jq [Ty.any, b]) := by
  intro w M v ⟨cs, e, hd⟩
  refine ⟨cs, e, ?_⟩
  generalize cs.toList = l at hd ⊢
  match l, hd with
  | [_, _], ⟨_, h2, h3⟩ => exact ⟨trivial, h2, h3⟩
theorem G1 (hr : z.cm) (h : kD z a = true) : cV z = 0 := by
 have h8 := hr.levels
 have := JR h
 exact lR (jM hr) ⟨a, this.lens, this.first, this.cont, this.cD, fun i hi _ => this.level i hi rfl⟩
theorem NO (h : k7 z n nb) : (((((!decide ((0 : Int) = 0) || decide (((bw z).length : Int) > (nb : Nat))) || !(decide (eU z = 6) == decide (cV z = 0))) || !(decide (((bw z).length : Int) = 0) == decide (cV z = 0))) || (!decide (eU z = 0) && !decide (eU z = 6))) || (kD z a && !decide (cV z = 0))) = false := by
 have h1 := h.vQ.2.2.2.2
 rw [decide_eq_false (p := ((bw z).length : Int) > (nb : Nat)) (by omega)]
 by_cases ho : cV z = 0
 ·obtain ⟨⟨e1, _⟩, e2⟩ := h.lR ho
  rw [e1, e2, ho]; simp
 obtain ⟨e1, _, e2, _⟩ := h.pI ho
 have e3 : kD z a = false := Bool.eq_false_iff.2 fun hf => ho (G1 h.right hf)
 rw [e1, e3, decide_eq_false ho, decide_eq_false (p := ((bw z).length : Int) = 0) (by omega)]; rfl
theorem NR (h : k7 z n nb) : ((!decide ((0 : Int) = 0) || !true) || !decide (((fI (bw z) n).length : Int) + ((bw z).length : Int) = (n : Int))) = false := by
 rw [decide_eq_true (p := ((fI (bw z) n).length : Int) + ((bw z).length : Int) = (n : Int)) (by have := h.rest.2.2; omega)]; rfl
theorem NM (h : k7 z n nb) (ho : ¬ cV z = 0) : ((!decide ((0 : Int) = 0) || false) || decide (((cr z).length : Int) = 0)) = false := by
 rw [decide_eq_false (p := ((cr z).length : Int) = 0) (by have := (h.pI ho).2.2.2; omega)]; rfl
theorem JO (h : k7 z n nb) (hc : eU z = 0) : ¬ cV z = 0 := fun ho => by
 rw [(h.lR ho).1.1] at hc; cases hc
end
attribute [local irreducible] Md.cU Md.real cV bF kD fI cr eU bw jk CB wz qZ r5 cS Bz aT bN
attribute [local irreducible] iY fX nD qR jG jJ jI jK jF qu jD qw eJ gm qF gx ql nth fU dn af dy bodyPost Exit.then Exit.inBlock Code.wp Code.wpIn qh jH qi qX jC eT cZ cq bodyPostM eR
attribute [local irreducible] Jg
set_option maxRecDepth 100000 in
theorem Mm (x : Int) (l : List Int) : dy Tryz.prog 68 [Ty.int .i64 x, Ty.pp [Ty.sl cT l]] (Ty.bool (decide (x ∈ l))) := by
 refine av Tryz.func68 rfl (by decide) Tryz.ntmps68 (by exact Nat.le_of_ble_eq_true rfl) fun w0 M0 => ?_
 refine aE (aA (dX rfl (aD (aC (aE (aA (aL rfl rfl rfl rfl (bQ rfl (aj (jh _ _) rfl rfl rfl rfl rfl ?_)))))))))
 refine dX rfl (aD (aC (ay (bh rfl rfl ?_))))
 all_goals exact cM rfl rfl
set_option maxRecDepth 100000 in
theorem zw (g h : List Int) : dy Tryz.prog 11 [Ty.sl U8 g, Ty.sl U8 h] (Ty.bool true) := by
 refine av Tryz.func11 rfl (by decide) Tryz.ntmps11 (by exact Nat.le_of_ble_eq_true rfl) fun w0 M0 => ?_
 have hd := BE g
 have hyr := (bF g).right hd
 have hf := (bF g).fits hd (fun _ => true)
 have ho := lR (jM hyr) ⟨_, (bF g).fits hd _⟩
 have hyb := hyr.bins
 have hym := hyr.moves
 have hyl := hyr.levels
 have hyd := hyr.days
 have hs : (bF g).cU.Small := ⟨by omega, by omega, by omega⟩
 have hds : (bF g).s = dP g := by unfold bF; rfl
 have hab : NI (bF g).real := NU (v := false) hd
 have hc6 := C3 hyr ho
 have hq0 := yW h
 have hq1 : (dP h).taken + 4000000000000000000 ≤ 4611686018427387904 := hq0.2
 have hq2 : 0 ≤ (dP h).taken := hq0.1
 refine aE (aA (dX rfl (aD (aC (aE (aA (gB rfl ?_)))))))
 refine bt [(33, 10)] [33] [(33, Cont.cells 149 (dA (dP g)))] (Fh g) rfl rfl (by repeat (first | exact bL | refine aH ?_ ?_ | exact aM rfl rfl)) pre_nil (bJ (a := 33) (b := 10) (by exact List.mem_cons_self) rfl (bC (by exact List.mem_cons_self) rfl rfl rfl) post_nil) (dZ (by exact List.mem_cons_self)) ?_
 refine bt (res' := Ty.jq [Ty.agg (ownB 749 746 (bF g).cU), qM (bF g).real]) [(33, 1000), (749, 49), (746, 246)] [749, 746] [(33, Cont.cells 149 (dA (bF g).sk)), (749, Cont.vec eH 39 (bF g).cU.bins), (746, Cont.vec dY 102 (bF g).cU.levels)] (I2 g) rfl rfl (by repeat (first | exact bL | refine aH ?_ ?_ | exact dZ List.mem_cons_self | exact aM rfl rfl)) (b8 (a := 33) (b := 1000) (by exact List.mem_cons_self) rfl (bC (by exact List.mem_cons_self) rfl rfl rfl) pre_nil) (bJ (a := 33) (b := 1000) (by decide) rfl (bC (by decide) rfl rfl rfl) (bJ (a := 749) (b := 49) (by decide) rfl (cA (by decide) rfl) (bJ (a := 746) (b := 246) (by decide) rfl (cA (by decide) rfl) post_nil))) (zK (aH (aH bL (aM rfl rfl)) (Gl (aH (aH (aH (aH bL (eM (by decide))) (aM rfl rfl)) (eM (by decide))) (aM rfl rfl))))) ?_
 refine p8 rfl (bM rfl rfl (bM rfl rfl ?_))
 refine cH rfl (by exact List.cons_ne_nil _ _) rfl ?_
 refine cH rfl (by exact List.cons_ne_nil _ _) rfl ?_
 refine cJ rfl rfl (by decide) rfl rfl rfl rfl rfl rfl ?_
 refine cJ rfl rfl (by decide) rfl rfl rfl rfl rfl rfl ?_
 refine aD (aC (aE (aE ?_)))
 refine dN (B := live [(1, Ty.sl U8 h), (5, Ty.ptr 6 0), (6, Ty.ptr 7 0)] [(6, Cont.cells 27 [Ty.int .i64 (bF g).cU.days, Ty.vs 749 (bF g).cU.bins.length, Ty.sl dQ (bF g).cU.moves, Ty.vs 746 (bF g).cU.levels.length]), (7, Cont.cells 30 (eB (bF g).real)), (749, Cont.vec eH 39 (bF g).cU.bins), (746, Cont.vec dY 102 (bF g).cU.levels)]) ?_ ?_
 ·refine dK.mk' ?_ ?_
  ·(repeat (first | refine aB ?_ (Ty.aW _) | refine aB ?_ (Ty.aF _))); exact aJ
  refine aG rfl (Cont.aF _) ?_; refine aG rfl (Cont.aF _) ?_; refine aG rfl (Cont.aF _) ?_; refine aG rfl (Cont.aF _) ?_; exact aI
 refine ni (tg := 749) [] [(6, Cont.cells 27 [Ty.int .i64 (bF g).cU.days, Ty.sl eH (bF g).cU.bins, Ty.sl dQ (bF g).cU.moves, Ty.vs 746 (bF g).cU.levels.length])] (by decide) rfl trivial ⟨iN rfl rfl ⟨cB rfl, lP rfl rfl (by decide), cB rfl, cB rfl, trivial⟩, trivial⟩ ?_
 refine dN (B := live [(1, Ty.sl U8 h), (5, Ty.ptr 6 0), (6, Ty.ptr 7 0)] [(6, Cont.cells 27 [Ty.int .i64 (bF g).cU.days, Ty.sl eH (bF g).cU.bins, Ty.sl dQ (bF g).cU.moves, Ty.vs 746 (bF g).cU.levels.length]), (7, Cont.cells 30 (eB (bF g).real)), (746, Cont.vec dY 102 (bF g).cU.levels)]) ?_ ?_
 ·refine dK.mk' ?_ ?_
  ·(repeat (first | refine aB ?_ (Ty.aW _) | refine aB ?_ (Ty.aF _))); exact aJ
  refine aG rfl (Cont.aF _) ?_; refine aG rfl (Cont.aF _) ?_; refine aG rfl (Cont.aF _) ?_; exact aI
 refine aA ?_
 refine bU rfl rfl (by decide) rfl rfl (by exact Nat.le_of_ble_eq_true rfl) ?_
 refine dW [746] ((zW (bF g).cU hs).mono AP) rfl (aK (gV (aK (aa (bH rfl rfl)) (aK (aa (bH rfl rfl)) (aK (aa (bH rfl rfl)) (aK (gY rfl rfl (by decide) rfl) bW))))) bW) (j4 (iB FG (iB (dF _ _) j3))) ?_
 refine p8 rfl (bM rfl rfl (bM rfl rfl ?_))
 refine fQ (ty := Ty.any) rfl ?_
 refine cF rfl (aD (aC (aE ?_)))
 refine fW (s := 8) rfl (Ty.ah hc6.1) ?_
 refine aA (bQ rfl (bE rfl rfl rfl (aD (aC ?_))))
 refine gD rfl (by decide) ?_
 refine ak (aC (aE (aA (gB rfl ?_))))
 refine bt [(45, 10)] [45] [(45, Cont.cells 149 (dA (dP h)))] (Fh h) rfl rfl (by repeat (first | exact bL | refine aH ?_ ?_ | exact aM rfl rfl)) pre_nil (bJ (a := 45) (b := 10) (by exact List.mem_cons_self) rfl (bC (by exact List.mem_cons_self) rfl rfl rfl) post_nil) (dZ (by exact List.mem_cons_self)) ?_
 refine Nf rfl (aD (aC (aE ?_)))
 refine dN (B := live [(5, Ty.ptr 6 0), (6, Ty.ptr 7 0), (9, Ty.ptr 45 0)] [(6, Cont.cells 27 [Ty.int .i64 (bF g).cU.days, Ty.sl eH (bF g).cU.bins, Ty.sl dQ (bF g).cU.moves, Ty.vs 746 (bF g).cU.levels.length]), (7, Cont.cells 30 (eB (bF g).real)), (45, Cont.cells 149 (dA (dP h))), (746, Cont.vec dY 102 (bF g).cU.levels)]) ?_ ?_
 ·refine dK.mk' ?_ ?_
  ·(repeat (first | refine aB ?_ (Ty.aW _) | refine aB ?_ (Ty.aF _))); exact aJ
  refine aG rfl (Cont.aF _) ?_; refine aG rfl (Cont.aF _) ?_; refine aG rfl (Cont.aF _) ?_; refine aG rfl (Cont.aF _) ?_; exact aI
 refine aA (cF rfl (aD (aC (aE (aE (aA ?_))))))
 refine aN rfl rfl rfl rfl rfl (by decide) ?_
 refine aX rfl rfl (by decide) rfl rfl rfl ?_
 refine rP rfl rfl rfl (bQ rfl (aD (aC (aq ?_))))
 refine cj (fun (k : {k : Nat // k ≤ (bF g).cU.levels.length}) => live [(5, Ty.ptr 6 0), (6, Ty.ptr 7 0), (9, Ty.ptr 45 0), (10, Ty.int .i64 ((cS (bF g).cU.levels (dP h) k.1).bad : Nat)), (47, Ty.int .i64 (bF g).cU.levels.length), (48, Ty.int .i64 (k.1 : Nat))] [(6, Cont.cells 27 [Ty.int .i64 (bF g).cU.days, Ty.sl eH (bF g).cU.bins, Ty.sl dQ (bF g).cU.moves, Ty.vs 746 (bF g).cU.levels.length]), (7, Cont.cells 30 (eB (bF g).real)), (45, Cont.cells 149 (dA (cS (bF g).cU.levels (dP h) k.1).q)), (746, Cont.vec dY 102 (cS (bF g).cU.levels (dP h) k.1).ls)]) (fun k => (bF g).cU.levels.length - k.1) (⟨0, by omega⟩) ?_ fun k => ?_
 ·(refine dK.mk' ?_ ?_ <;> (repeat' (first | exact aJ | exact aI | exact dO | refine aB ?_ (Ty.aW _) | refine aB ?_ (Ty.aF _) | refine aG rfl (Cont.aF _) ?_ | refine aG rfl (Cont.dM ?_) ?_ | refine bY ?_ ?_ | refine aG rfl ?_ ?_ | refine aB ?_ ?_)))
  all_goals first | exact Ty.ah (congrArg (fun s : uV => ((s.bad : Nat) : Int)) oW) | exact Ty.ah (congrArg (fun s : uV => s.q.mixed) oW) | exact Ty.ah (congrArg (fun s : uV => s.q.taken) oW) | exact Ty.fY (congrArg (fun s : uV => s.q.grain) oW) | exact Cont.eF (congrArg (fun s : uV => s.ls) oW)
 have hk := k.2
 have hC := sM (ls := (bF g).cU.levels) (q := (dP h)) k.1 hk
 have c1 := hC.len
 have c8 : (cS (bF g).cU.levels (dP h) k.1).bad ≤ k.1 := by obtain ⟨B, h1, h2, _⟩ := hC.diff; have := h1.len; omega
 have c2 := hC.low
 have c3 := hC.high
 have c4 := cE (cS (bF g).cU.levels (dP h) k.1).q
 have c5 := cE (aT (cS (bF g).cU.levels (dP h) k.1).q)
 have c6 := cQ (aT (cS (bF g).cU.levels (dP h) k.1).q) 100
 have c7 := cQ (aT (aT (cS (bF g).cU.levels (dP h) k.1).q)) 9
 refine aE (aA (bE rfl rfl rfl (aD (aC (aE ?_)))))
 refine au rfl (fun hc2 => ?_) (fun hc2 => ?_)
 ·
  refine ak (aC (aE (aq (aE (aA (bQ rfl (cF rfl (aD (aC ?_)))))))))
  refine aE (aA (oT rfl ?_))
  refine bt [(45, 1000)] [] [(45, Cont.cells 149 (dA (aT (cS (bF g).cU.levels (dP h) k.1).q)))] (LN (cS (bF g).cU.levels (dP h) k.1).q ⟨by omega, by omega⟩ 2) rfl rfl (by repeat (first | exact bL | refine aH ?_ ?_ | exact dZ List.mem_cons_self | exact aM rfl rfl)) (b8 (a := 45) (b := 1000) (by exact List.mem_cons_self) rfl (bC (by exact List.mem_cons_self) rfl rfl rfl) pre_nil) (bJ (a := 45) (b := 1000) (by exact List.mem_cons_self) rfl (bC (by exact List.mem_cons_self) rfl rfl rfl) post_nil) (aM rfl rfl) ?_
  refine aD (aC ?_)
  refine au rfl (fun hc3 => ?_) (fun hc3 => ?_)
  ·
   refine aE ?_
   refine dN (B := live [(5, Ty.ptr 6 0), (6, Ty.ptr 7 0), (9, Ty.ptr 45 0), (10, Ty.int .i64 ((cS (bF g).cU.levels (dP h) k.1).bad : Nat)), (11, Ty.int .i64 (k.1 : Nat)), (47, Ty.int .i64 (bF g).cU.levels.length), (48, Ty.int .i64 (k.1 : Nat))] [(6, Cont.cells 27 [Ty.int .i64 (bF g).cU.days, Ty.sl eH (bF g).cU.bins, Ty.sl dQ (bF g).cU.moves, Ty.vs 746 (bF g).cU.levels.length]), (7, Cont.cells 30 (eB (bF g).real)), (45, Cont.cells 149 (dA (aT (cS (bF g).cU.levels (dP h) k.1).q))), (746, Cont.vec dY 102 (cS (bF g).cU.levels (dP h) k.1).ls)]) ?_ ?_
   ·refine dK.mk' ?_ ?_
    ·(repeat (first | refine aB ?_ (Ty.aW _) | refine aB ?_ (Ty.aF _))); exact aJ
    refine aG rfl (Cont.aF _) ?_; refine aG rfl (Cont.aF _) ?_; refine aG rfl (Cont.aF _) ?_; refine aG rfl (Cont.aF _) ?_; exact aI
   refine aA (oT rfl ?_)
   refine bt [(45, 1000)] [] [(45, Cont.cells 149 (dA (aT (aT (cS (bF g).cU.levels (dP h) k.1).q))))] (g9 (aT (cS (bF g).cU.levels (dP h) k.1).q) ⟨by omega, by omega⟩ 100) rfl rfl (by repeat (first | exact bL | refine aH ?_ ?_ | exact dZ List.mem_cons_self | exact aM rfl rfl)) (b8 (a := 45) (b := 1000) (by exact List.mem_cons_self) rfl (bC (by exact List.mem_cons_self) rfl rfl rfl) pre_nil) (bJ (a := 45) (b := 1000) (by exact List.mem_cons_self) rfl (bC (by exact List.mem_cons_self) rfl rfl rfl) post_nil) (aM rfl rfl) ?_
   refine cF rfl (aD (aC (aE ?_)))
   refine dN (B := live [(5, Ty.ptr 6 0), (6, Ty.ptr 7 0), (9, Ty.ptr 45 0), (10, Ty.int .i64 ((cS (bF g).cU.levels (dP h) k.1).bad : Nat)), (11, Ty.int .i64 (k.1 : Nat)), (47, Ty.int .i64 (bF g).cU.levels.length), (48, Ty.int .i64 (k.1 : Nat)), (12, Ty.int .i64 (bN (aT (cS (bF g).cU.levels (dP h) k.1).q) 100))] [(6, Cont.cells 27 [Ty.int .i64 (bF g).cU.days, Ty.sl eH (bF g).cU.bins, Ty.sl dQ (bF g).cU.moves, Ty.vs 746 (bF g).cU.levels.length]), (7, Cont.cells 30 (eB (bF g).real)), (45, Cont.cells 149 (dA (aT (aT (cS (bF g).cU.levels (dP h) k.1).q)))), (746, Cont.vec dY 102 (cS (bF g).cU.levels (dP h) k.1).ls)]) ?_ ?_
   ·refine dK.mk' ?_ ?_
    ·(repeat (first | refine aB ?_ (Ty.aW _) | refine aB ?_ (Ty.aF _))); exact aJ
    refine aG rfl (Cont.aF _) ?_; refine aG rfl (Cont.aF _) ?_; refine aG rfl (Cont.aF _) ?_; refine aG rfl (Cont.aF _) ?_; exact aI
   refine cW mixed rfl ?_
   refine aN rfl rfl rfl rfl rfl (by decide) ?_
   refine aX rfl rfl (by decide) rfl rfl rfl ?_
   refine bQ rfl (bQ rfl (bQ rfl (oT rfl ?_)))
   refine bt [(45, 1000)] [] [(45, Cont.cells 149 (dA (aT (aT (aT (cS (bF g).cU.levels (dP h) k.1).q)))))] (g9 (aT (aT (cS (bF g).cU.levels (dP h) k.1).q)) ⟨by omega, by omega⟩ 9) rfl rfl (by repeat (first | exact bL | refine aH ?_ ?_ | exact dZ List.mem_cons_self | exact aM rfl rfl)) (b8 (a := 45) (b := 1000) (by exact List.mem_cons_self) rfl (bC (by exact List.mem_cons_self) rfl rfl rfl) pre_nil) (bJ (a := 45) (b := 1000) (by exact List.mem_cons_self) rfl (bC (by exact List.mem_cons_self) rfl rfl rfl) post_nil) (aM rfl rfl) ?_
   refine b9 rfl rfl (by omega) (by omega) ?_
   refine aj (iW _ _) rfl rfl rfl rfl rfl ?_
   refine eK rfl rfl rfl rfl rfl (by omega) ?_
   refine aN rfl rfl rfl rfl rfl (by decide) ?_
   refine zJ (E := dY) (z := GH (cS (bF g).cU.levels (dP h) k.1) k.1) k.1 2 rfl (by rfl) rfl (by decide) rfl rfl rfl (by omega) (by exact Nat.le_of_ble_eq_true rfl) rfl rfl rfl rfl ?_
   refine aD ?_
   refine ⟨by kernel_rfl, ?_⟩
   refine aC ?_
   refine dN (B := live [(5, Ty.ptr 6 0), (6, Ty.ptr 7 0), (9, Ty.ptr 45 0), (10, Ty.int .i64 ((cS (bF g).cU.levels (dP h) k.1).bad : Nat)), (11, Ty.int .i64 (k.1 : Nat)), (47, Ty.int .i64 (bF g).cU.levels.length), (48, Ty.int .i64 (k.1 : Nat))] [(6, Cont.cells 27 [Ty.int .i64 (bF g).cU.days, Ty.sl eH (bF g).cU.bins, Ty.sl dQ (bF g).cU.moves, Ty.vs 746 (bF g).cU.levels.length]), (7, Cont.cells 30 (eB (bF g).real)), (45, Cont.cells 149 (dA (aT (aT (aT (cS (bF g).cU.levels (dP h) k.1).q))))), (746, Cont.vec dY 102 ((cS (bF g).cU.levels (dP h) k.1).ls.set k.1 (GH (cS (bF g).cU.levels (dP h) k.1) k.1)))]) ?_ ?_
   ·refine dK.mk' ?_ ?_
    ·(repeat (first | refine aB ?_ (Ty.aW _) | refine aB ?_ (Ty.aF _))); exact aJ
    refine aG rfl (Cont.aF _) ?_; refine aG rfl (Cont.aF _) ?_; refine aG rfl (Cont.aF _) ?_; refine aG rfl (Cont.aF _) ?_; exact aI
   refine aA (bQ rfl ?_)
   refine b9 rfl rfl (by omega) (by omega) ?_
   refine cF rfl (aD (bV (aC (aA ?_))))
   refine b9 rfl rfl (by omega) (by omega) ?_
   refine bQ rfl (aD ?_)
   refine bZ (⟨k.1 + 1, by omega⟩) ?_ (by show (bF g).cU.levels.length - (k.1 + 1) < (bF g).cU.levels.length - k.1; omega)
   (refine dK.mk' ?_ ?_ <;> (repeat' (first | exact aJ | exact aI | exact dO | refine aB ?_ (Ty.aW _) | refine aB ?_ (Ty.aF _) | refine aG rfl (Cont.aF _) ?_ | refine aG rfl (Cont.dM ?_) ?_ | refine bY ?_ ?_ | refine aG rfl ?_ ?_ | refine aB ?_ ?_)))
   all_goals skip
   all_goals first | exact Ty.ah (LP (by assumption)) | exact Ty.ah (LB (by assumption)) | exact Ty.ah (Ly (by assumption)) | exact Ty.fY (LO (by assumption)) | exact Cont.eF (Kc (by assumption))
  refine ak (bV (aC (aA ?_)))
  refine b9 rfl rfl (by omega) (by omega) ?_
  refine bQ rfl (aD ?_)
  refine bZ (⟨k.1 + 1, by omega⟩) ?_ (by show (bF g).cU.levels.length - (k.1 + 1) < (bF g).cU.levels.length - k.1; omega)
  (refine dK.mk' ?_ ?_ <;> (repeat' (first | exact aJ | exact aI | exact dO | refine aB ?_ (Ty.aW _) | refine aB ?_ (Ty.aF _) | refine aG rfl (Cont.aF _) ?_ | refine aG rfl (Cont.dM ?_) ?_ | refine bY ?_ ?_ | refine aG rfl ?_ ?_ | refine aB ?_ ?_)))
  all_goals skip
  all_goals first | exact Ty.ah (Ky (by assumption)) | exact Ty.ah (LL (by assumption)) | exact Ty.ah (Km (by assumption)) | exact Ty.fY (LU (by assumption)) | exact Cont.eF (Kq (by assumption))
 refine cg (aR (aR (bA rfl (aC (aE ?_)))))
 obtain ⟨k, hk⟩ := k
 obtain rfl : k = (bF g).cU.levels.length := by have h1 : ¬ (k : Int) < ((bF g).cU.levels.length : Int) := hc2; have h2 : k ≤ (bF g).cU.levels.length := hk; omega
 have hcl := (sM (ls := (bF g).cU.levels) (q := (dP h)) _ (Nat.le_refl _)).len
 refine dN (B := live [(5, Ty.ptr 6 0), (6, Ty.ptr 7 0), (10, Ty.int .i64 ((cS (bF g).cU.levels (dP h) (bF g).cU.levels.length).bad : Nat))] [(6, Cont.cells 27 [Ty.int .i64 (bF g).cU.days, Ty.sl eH (bF g).cU.bins, Ty.sl dQ (bF g).cU.moves, Ty.vs 746 (bF g).cU.levels.length]), (7, Cont.cells 30 (eB (bF g).real)), (746, Cont.vec dY 102 (cS (bF g).cU.levels (dP h) (bF g).cU.levels.length).ls)]) ?_ ?_
 ·refine dK.mk' ?_ ?_
  ·(repeat (first | refine aB ?_ (Ty.aW _) | refine aB ?_ (Ty.aF _))); exact aJ
  refine aG rfl (Cont.aF _) ?_; refine aG rfl (Cont.aF _) ?_; refine aG rfl (Cont.aF _) ?_; exact aI
 refine ni (tg := 746) [] [(6, Cont.cells 27 [Ty.int .i64 (bF g).cU.days, Ty.sl eH (bF g).cU.bins, Ty.sl dQ (bF g).cU.moves, Ty.sl dY (cS (bF g).cU.levels (dP h) (bF g).cU.levels.length).ls])] (by decide) rfl trivial ⟨iN rfl rfl ⟨cB rfl, cB rfl, cB rfl, lP rfl hcl (by decide), trivial⟩, trivial⟩ ?_
 obtain ⟨Z, eZ⟩ : ∃ z, z = qZ (bF g).cU (dP h) := ⟨_, rfl⟩
 obtain ⟨nb, enb⟩ : ∃ n, n = (cS (bF g).cU.levels (dP h) (bF g).cU.levels.length).bad := ⟨_, rfl⟩
 refine gM (tg := 6) rfl (Cont.eC (l' := bl Z) ⟨Ty.ah (by rw [eZ]; unfold qZ; rfl), Ty.fY (by rw [eZ]; unfold qZ; rfl), Ty.fY (by rw [eZ]; unfold qZ; rfl), Ty.fY (by rw [eZ]; unfold qZ; rfl), trivial⟩) ?_
 refine fW (s := 10) rfl (Ty.ah (congrArg (fun n : Nat => (n : Int)) enb.symm)) ?_
 refine dN (B := live [(5, Ty.ptr 6 0), (6, Ty.ptr 7 0), (10, Ty.int .i64 (nb : Nat))] [(6, Cont.cells 27 (bl Z)), (7, Cont.cells 30 (eB (bF g).real))]) ?_ ?_
 ·refine dK.mk' ?_ ?_
  ·(repeat (first | refine aB ?_ (Ty.aW _) | refine aB ?_ (Ty.aF _))); exact aJ
  refine aG rfl (Cont.aF _) ?_; refine aG rfl (Cont.aF _) ?_; exact aI
 have hw : k7 Z Z.levels.length nb := by rw [eZ, enb]; exact k7.of hyr hf
 have hzr := hw.right
 have hzb := hzr.bins
 have hzm := hzr.moves
 have hzl := hzr.levels
 have hzs : Z.Small := ⟨by omega, by omega, by omega⟩
 clear eZ enb hcl
 have hww := hw.vQ
 have hwl := hww.2.1.len
 have hrl := B5 (w := (bw Z)) Z.levels.length
 have hrk := hw.rest
 refine aA ?_
 refine bU rfl rfl (by decide) rfl rfl (by exact Nat.le_of_ble_eq_true rfl) ?_
 refine aj (zW Z hzs) rfl rfl rfl rfl rfl (p8 rfl (bM rfl rfl (bM rfl rfl (DE rfl (cF rfl (aD (aC (aE (aA ?_)))))))))
 refine bU rfl rfl (by decide) rfl rfl (by exact Nat.le_of_ble_eq_true rfl) ?_
 refine aj (Dn Z hzs) rfl rfl rfl rfl rfl (p8 rfl (bM rfl rfl (bM rfl rfl ?_)))
 refine cH rfl (by exact List.cons_ne_nil _ _) rfl ?_
 refine cx rfl rfl (by decide) rfl rfl (by exact (rfl : _ = Ty.sl _ _)) rfl (by exact Nat.le_of_ble_eq_true rfl) rfl rfl (by exact (rfl : _ = [_])) ?_
 refine cF rfl (aD (aC (aE ?_)))
 refine fW (s := 16) rfl (Ty.ah hww.1) ?_
 refine kF (tg := 16) [(15, Ty.pp [Ty.sl cT (bw Z)])] (by decide) rfl ⟨k6 (T := 28) (off := 0) (l := [Ty.sl cT (bw Z)]) rfl rfl rfl (by decide), trivial⟩ ?_
 refine dN (B := live [(5, Ty.ptr 6 0), (6, Ty.ptr 7 0), (10, Ty.int .i64 (nb : Nat)), (13, Ty.sl cT (cr Z)), (14, Ty.int .i64 (eU Z)), (15, Ty.pp [Ty.sl cT (bw Z)]), (16, Ty.int .i64 0)] [(6, Cont.cells 27 (bl Z)), (7, Cont.cells 30 (eB (bF g).real))]) ?_ ?_
 ·refine dK.mk' ?_ ?_
  ·(repeat (first | refine aB ?_ (Ty.aW _) | refine aB ?_ (Ty.aF _))); exact aJ
  refine aG rfl (Cont.aF _) ?_; refine aG rfl (Cont.aF _) ?_; exact aI
 refine aA ?_
 refine bU rfl rfl (by decide) rfl rfl (by exact Nat.le_of_ble_eq_true rfl) ?_
 refine aj (GL Z hzs) rfl rfl rfl rfl rfl (p8 rfl (bM rfl rfl (bM rfl rfl ?_)))
 refine cH rfl (by exact List.cons_ne_nil _ _) rfl ?_
 refine cJ rfl rfl (by decide) rfl rfl rfl rfl rfl rfl ?_
 refine cF rfl (aD (aC (aE (aE ?_))))
 refine dN (B := live [(5, Ty.ptr 6 0), (6, Ty.ptr 7 0), (10, Ty.int .i64 (nb : Nat)), (13, Ty.sl cT (cr Z)), (14, Ty.int .i64 (eU Z)), (15, Ty.pp [Ty.sl cT (bw Z)]), (16, Ty.int .i64 0), (18, Ty.int .i64 (cV Z))] [(6, Cont.cells 27 (bl Z)), (7, Cont.cells 30 (eB (bF g).real))]) ?_ ?_
 ·refine dK.mk' ?_ ?_
  ·(repeat (first | refine aB ?_ (Ty.aW _) | refine aB ?_ (Ty.aF _))); exact aJ
  refine aG rfl (Cont.aF _) ?_; refine aG rfl (Cont.aF _) ?_; exact aI
 refine aA (bQ rfl (bE rfl rfl rfl (gR rfl ?_)))
 apply aS (s := 86) rfl rfl rfl
 ·intro hg; apply aU; (refine aL rfl rfl rfl rfl ?_); refine aD ?_; exact rfl
 ·exact rfl
 ·exact rfl
 apply aS (s := 86) rfl rfl rfl
 ·intro hg; apply aP (s := 87) rfl (by (rw [hg]; rfl)); apply aU; (refine c9 rfl rfl rfl ?_); refine aD ?_; exact rfl
 ·exact rfl
 ·exact rfl
 apply aS (s := 86) rfl rfl rfl
 ·intro hg; apply aU; (refine bQ rfl ?_); refine aD ?_; exact rfl
 ·exact rfl
 ·exact rfl
 apply aS (s := 86) rfl rfl rfl
 ·intro hg; apply aP (s := 88) rfl (by (rw [hg]; rfl)); apply aP (s := 89) rfl (by (rw [hg]; rfl)); apply aU; (refine bE rfl rfl rfl ?_); refine aD ?_; exact rfl
 ·exact rfl
 ·exact rfl
 refine mQ rfl rfl (gR rfl ?_)
 apply aS (s := 92) rfl rfl rfl
 ·intro hg; apply aU; (refine bQ rfl ?_); refine aD ?_; exact rfl
 ·exact rfl
 ·exact rfl
 apply aS (s := 92) rfl rfl rfl
 ·intro hg; apply aP (s := 93) rfl (by (rw [hg]; rfl)); apply aU; (refine bE rfl rfl rfl ?_); refine aD ?_; exact rfl
 ·exact rfl
 ·exact rfl
 apply aS (s := 92) rfl rfl rfl
 ·intro hg; apply aU; (refine bQ rfl ?_); refine aD ?_; exact rfl
 ·exact rfl
 ·exact rfl
 apply aS (s := 92) rfl rfl rfl
 ·intro hg; apply aP (s := 95) rfl (by (rw [hg]; rfl)); apply aU; (refine bE rfl rfl rfl ?_); refine aD ?_; exact rfl
 ·exact rfl
 ·exact rfl
 apply aS (s := 92) rfl rfl rfl
 ·intro hg; apply aP (s := 94) rfl (by (rw [hg]; rfl)); apply aP (s := 96) rfl (by (rw [hg]; rfl)); apply aU; (refine uc I0 rfl rfl ?_); refine aD ?_; exact rfl
 ·exact rfl
 ·exact rfl
 refine mQ rfl rfl (gR rfl ?_)
 apply aS (s := 99) rfl rfl rfl
 ·intro hg; apply aU; (refine aL rfl rfl rfl rfl ?_); refine aD ?_; exact rfl
 ·exact rfl
 ·exact rfl
 apply aS (s := 99) rfl rfl rfl
 ·intro hg; apply aP (s := 100) rfl (by (rw [hg]; rfl)); apply aU; (refine c9 rfl rfl rfl ?_); refine aD ?_; exact rfl
 ·exact rfl
 ·exact rfl
 apply aS (s := 99) rfl rfl rfl
 ·intro hg; apply aP (s := 101) rfl (by (rw [hg]; rfl)); apply aU; (refine bE rfl rfl rfl ?_); refine aD ?_; exact rfl
 ·exact rfl
 ·exact rfl
 apply aS (s := 99) rfl rfl rfl
 ·intro hg; apply aU; (refine bQ rfl ?_); refine aD ?_; exact rfl
 ·exact rfl
 ·exact rfl
 apply aS (s := 99) rfl rfl rfl
 ·intro hg; apply aP (s := 103) rfl (by (rw [hg]; rfl)); apply aU; (refine bE rfl rfl rfl ?_); refine aD ?_; exact rfl
 ·exact rfl
 ·exact rfl
 apply aS (s := 99) rfl rfl rfl
 ·intro hg; apply aP (s := 102) rfl (by (rw [hg]; rfl)); apply aP (s := 104) rfl (by (rw [hg]; rfl)); apply aU; (refine uc I0 rfl rfl ?_); refine aD ?_; exact rfl
 ·exact rfl
 ·exact rfl
 refine mQ rfl rfl (gR rfl ?_)
 apply aS (s := 107) rfl rfl rfl
 ·intro hg; apply aU; (refine bQ rfl ?_); refine aD ?_; exact rfl
 ·exact rfl
 ·exact rfl
 apply aS (s := 107) rfl rfl rfl
 ·intro hg; apply aP (s := 108) rfl (by (rw [hg]; rfl)); apply aU; (refine bE rfl rfl rfl ?_); refine aD ?_; exact rfl
 ·exact rfl
 ·exact rfl
 apply aS (s := 107) rfl rfl rfl
 ·intro hg; apply aP (s := 109) rfl (by (rw [hg]; rfl)); apply aU; (refine gR rfl ?_); refine aD ?_; exact rfl
 ·exact rfl
 ·exact rfl
 apply fR (s := 110) rfl rfl rfl
 ·intro hg1 hg2; apply aU; (refine bQ rfl ?_); refine aD ?_; exact rfl
 ·exact rfl
 ·exact rfl
 apply fR (s := 110) rfl rfl rfl
 ·intro hg1 hg2; apply aP (s := 111) rfl (by (rw [hg1, hg2]; rfl)); apply aU; (refine bE rfl rfl rfl ?_); refine aD ?_; exact rfl
 ·exact rfl
 ·exact rfl
 apply aS (s := 107) rfl rfl rfl
 ·intro hg; apply aP (s := 110) rfl (by (rw [hg]; rfl)); apply nG (s := 112) rfl (by (rw [hg]; rfl)); apply aU; (refine eo rfl rfl ?_); refine aD ?_; exact rfl
 ·exact rfl
 ·exact rfl
 refine mQ rfl rfl (gR rfl ?_)
 apply aS (s := 115) rfl rfl rfl
 ·intro hg; apply aU; (refine bU rfl rfl (by decide) rfl rfl (by exact Nat.le_of_ble_eq_true rfl) ?_); refine aD ?_; exact rfl
 ·exact rfl
 ·exact rfl
 apply aS (s := 115) rfl rfl rfl
 ·intro hg; apply aU; (refine bU rfl rfl (by decide) rfl rfl (by exact Nat.le_of_ble_eq_true rfl) ?_); refine aD ?_; exact rfl
 ·exact rfl
 ·exact rfl
 apply aS (s := 115) rfl rfl rfl
 ·intro hg; apply aP (s := 116) rfl (by (rw [hg]; rfl)); apply aP (s := 117) rfl (by (rw [hg]; rfl)); apply aU; (refine aj (Ll Z (bF g).real hzr hab) rfl rfl rfl rfl rfl ?_); refine aD ?_; exact rfl
 ·exact rfl
 ·exact rfl
 apply aS (s := 115) rfl rfl rfl
 ·intro hg; apply aP (s := 118) rfl (by (rw [hg]; rfl)); apply aU; (refine gR rfl ?_); refine aD ?_; exact rfl
 ·exact rfl
 ·exact rfl
 apply fR (s := 119) rfl rfl rfl
 ·intro hg1 hg2; apply aU; (refine bQ rfl ?_); refine aD ?_; exact rfl
 ·exact rfl
 ·exact rfl
 apply fR (s := 119) rfl rfl rfl
 ·intro hg1 hg2; apply aP (s := 120) rfl (by (rw [hg1, hg2]; rfl)); apply aU; (refine bE rfl rfl rfl ?_); refine aD ?_; exact rfl
 ·exact rfl
 ·exact rfl
 apply aS (s := 115) rfl rfl rfl
 ·intro hg; apply aP (s := 119) rfl (by (rw [hg]; rfl)); apply nG (s := 121) rfl (by (rw [hg]; rfl)); apply aU; (refine eo rfl rfl ?_); refine aD ?_; exact rfl
 ·exact rfl
 ·exact rfl
 refine mQ rfl rfl (aD (aC (gD rfl (NO hw) (ak (aC (aE ?_))))))
 refine dN (B := live [(5, Ty.ptr 6 0), (6, Ty.ptr 7 0), (13, Ty.sl cT (cr Z)), (14, Ty.int .i64 (eU Z)), (15, Ty.pp [Ty.sl cT (bw Z)])] [(6, Cont.cells 27 (bl Z)), (7, Cont.cells 30 (eB (bF g).real))]) ?_ ?_
 ·refine dK.mk' ?_ ?_
  ·(repeat (first | refine aB ?_ (Ty.aW _) | refine aB ?_ (Ty.aF _))); exact aJ
  refine aG rfl (Cont.aF _) ?_; refine aG rfl (Cont.aF _) ?_; exact aI
 refine aA (mP rfl (aD (aC (aE (aE (aA ?_))))))
 refine aN rfl rfl rfl rfl rfl (by decide) ?_
 refine aX rfl rfl (by decide) rfl rfl rfl ?_
 refine c9 rfl rfl rfl (bQ rfl (aD (aC (aq ?_))))
 refine cj (fun (k : {k : Nat // k ≤ Z.levels.length}) => live [(5, Ty.ptr 6 0), (6, Ty.ptr 7 0), (13, Ty.sl cT (cr Z)), (14, Ty.int .i64 (eU Z)), (15, Ty.pp [Ty.sl cT (bw Z)]), (19, Ty.row cT 3 138 (fI (bw Z) k.1)), (126, Ty.int .i64 Z.levels.length), (127, Ty.int .i64 (k.1 : Nat))] [(6, Cont.cells 27 (bl Z)), (7, Cont.cells 30 (eB (bF g).real))]) (fun k => Z.levels.length - k.1) (⟨0, by omega⟩) ?_ fun k => ?_
 ·(refine dK.mk' ?_ ?_ <;> (repeat' (first | exact aJ | exact aI | refine aB ?_ (Ty.aW _) | refine aB ?_ (Ty.aF _) | refine aG rfl (Cont.aF _) ?_ | refine aB ?_ ?_)))
  all_goals exact jw CQ
 have hk := k.2
 have hkl := B5 (w := (bw Z)) k.1
 refine aE (aA (bE rfl rfl rfl (aD (aC (aE ?_)))))
 refine au rfl (fun hc5 => ?_) (fun hc5 => ?_)
 ·
  refine ak (aC (aE (aq (aE (aA (bQ rfl (cF rfl (aD (aC ?_)))))))))
  refine aE (aA (aL rfl rfl rfl rfl (bQ rfl ?_)))
  refine aj (jh (bw Z) ((k.1 : Nat) : Int)) rfl rfl rfl rfl rfl ?_
  refine dm rfl (aD (aC ?_))
  refine dJ rfl (fun hc6 => ?_) (fun hc6 => ?_)
  ·
   refine aA (Jo rfl (bQ rfl ?_))
   refine bp (E := cT) (xs := [((k.1 : Nat) : Int)]) rfl rfl rfl rfl rfl (by decide) (by decide) (by repeat (first | exact (aY.nil : aY _ _ [] _) | (show aY _ _ ((_, _) :: _) _; apply aY.one; (· exact (rfl : _ = Ty.int _ _)); (· exact rfl)))) (by exact rfl) rfl ?_
   refine fP rfl rfl (by decide) rfl rfl rfl rfl rfl rfl (by decide) (by (simp <;> omega)) (by (simp <;> omega)) ?_
   refine Fb rfl (aD (bV (aC (aA ?_))))
   refine b9 rfl rfl (by omega) (by omega) ?_
   refine bQ rfl (aD ?_)
   refine bZ (⟨k.1 + 1, by omega⟩) ?_ (by show Z.levels.length - (k.1 + 1) < Z.levels.length - k.1; omega)
   (refine dK.mk' ?_ ?_ <;> (repeat' (first | exact aJ | exact aI | refine aB ?_ (Ty.aW _) | refine aB ?_ (Ty.aF _) | refine aG rfl (Cont.aF _) ?_ | refine aB ?_ ?_)))
   all_goals skip
   all_goals exact Ty.fo (Al (by simpa using hc6)).symm
  refine ak (bV (aC (aA ?_)))
  refine b9 rfl rfl (by omega) (by omega) ?_
  refine bQ rfl (aD ?_)
  refine bZ (⟨k.1 + 1, by omega⟩) ?_ (by show Z.levels.length - (k.1 + 1) < Z.levels.length - k.1; omega)
  (refine dK.mk' ?_ ?_ <;> (repeat' (first | exact aJ | exact aI | refine aB ?_ (Ty.aW _) | refine aB ?_ (Ty.aF _) | refine aG rfl (Cont.aF _) ?_ | refine aB ?_ ?_)))
  all_goals skip
  all_goals exact Ty.fo (xm (by simpa using hc6)).symm
 refine cg (aR (aR (bA rfl (aC (aE ?_)))))
 obtain ⟨k, hk⟩ := k
 obtain rfl : k = Z.levels.length := by have h1 : ¬ (k : Int) < (Z.levels.length : Int) := hc5; have h2 : k ≤ Z.levels.length := hk; omega
 refine kF (tg := 138) [(19, Ty.sl cT (fI (bw Z) Z.levels.length))] (by decide) rfl ⟨zb rfl, trivial⟩ ?_
 refine dN (B := live [(5, Ty.ptr 6 0), (6, Ty.ptr 7 0), (13, Ty.sl cT (cr Z)), (14, Ty.int .i64 (eU Z)), (15, Ty.pp [Ty.sl cT (bw Z)]), (19, Ty.sl cT (fI (bw Z) Z.levels.length))] [(6, Cont.cells 27 (bl Z)), (7, Cont.cells 30 (eB (bF g).real))]) ?_ ?_
 ·refine dK.mk' ?_ ?_
  ·(repeat (first | refine aB ?_ (Ty.aW _) | refine aB ?_ (Ty.aF _))); exact aJ
  refine aG rfl (Cont.aF _) ?_; refine aG rfl (Cont.aF _) ?_; exact aI
 refine aA ?_
 refine bU rfl rfl (by decide) rfl rfl (by exact Nat.le_of_ble_eq_true rfl) ?_
 refine gB rfl (aj (uh Z hzs (fI (bw Z) Z.levels.length)) rfl rfl rfl rfl rfl (p8 rfl (bM rfl rfl (bM rfl rfl (dX rfl (cF rfl (aD (aC (aE ?_)))))))))
 refine aE ?_
 refine fW (s := 21) rfl (Ty.kL hrk.2.1) ?_
 refine fW (s := 22) rfl (Ty.ah hrk.1) ?_
 refine aA (bQ rfl (bE rfl rfl rfl (gR rfl ?_)))
 apply aS (s := 147) rfl rfl rfl
 ·intro hg; apply aU; (refine gR rfl ?_); refine aD ?_; exact rfl
 ·exact rfl
 ·exact rfl
 apply aS (s := 147) rfl rfl rfl
 ·intro hg; apply aP (s := 148) rfl (by (rw [hg]; rfl)); apply aU; (refine dm rfl ?_); refine aD ?_; exact rfl
 ·exact rfl
 ·exact rfl
 refine mQ rfl rfl (gR rfl ?_)
 apply aS (s := 151) rfl rfl rfl
 ·intro hg; apply aU; (refine gB rfl ?_); refine aD ?_; exact rfl
 ·exact rfl
 ·exact rfl
 apply aS (s := 151) rfl rfl rfl
 ·intro hg; apply aP (s := 152) rfl (by (rw [hg]; rfl)); apply aU; (refine c9 rfl rfl rfl ?_); refine aD ?_; exact rfl
 ·exact rfl
 ·exact rfl
 apply aS (s := 151) rfl rfl rfl
 ·intro hg; apply aU; (refine aL rfl rfl rfl rfl ?_); refine aD ?_; exact rfl
 ·exact rfl
 ·exact rfl
 apply aS (s := 151) rfl rfl rfl
 ·intro hg; apply aP (s := 154) rfl (by (rw [hg]; rfl)); apply aU; (refine c9 rfl rfl rfl ?_); refine aD ?_; exact rfl
 ·exact rfl
 ·exact rfl
 apply aS (s := 151) rfl rfl rfl
 ·intro hg; apply aP (s := 153) rfl (by (rw [hg]; rfl)); apply aP (s := 155) rfl (by (rw [hg]; rfl)); apply aU; (refine b9 rfl rfl (by omega) (by omega) ?_); refine aD ?_; exact rfl
 ·exact rfl
 ·exact rfl
 apply aS (s := 151) rfl rfl rfl
 ·intro hg; apply aU; (refine aN rfl rfl rfl rfl rfl (by decide) ?_); refine aD ?_; exact rfl
 ·exact rfl
 ·exact rfl
 apply aS (s := 151) rfl rfl rfl
 ·intro hg; apply aP (s := 157) rfl (by (rw [hg]; rfl)); apply aU; (refine aX rfl rfl (by decide) rfl rfl rfl ?_); refine aD ?_; exact rfl
 ·exact rfl
 ·exact rfl
 apply aS (s := 151) rfl rfl rfl
 ·intro hg; apply aP (s := 158) rfl (by (rw [hg]; rfl)); apply aU; (refine c9 rfl rfl rfl ?_); refine aD ?_; exact rfl
 ·exact rfl
 ·exact rfl
 apply aS (s := 151) rfl rfl rfl
 ·intro hg; apply aP (s := 156) rfl (by (rw [hg]; rfl)); apply aP (s := 159) rfl (by (rw [hg]; rfl)); apply aU; (refine bE rfl rfl rfl ?_); refine aD ?_; exact rfl
 ·exact rfl
 ·exact rfl
 refine mQ rfl rfl (aD (aC (gD rfl (NR hw) (ak (aC (aE (aE ?_)))))))
 refine dN (B := live [(5, Ty.ptr 6 0), (6, Ty.ptr 7 0), (13, Ty.sl cT (cr Z)), (14, Ty.int .i64 (eU Z)), (15, Ty.pp [Ty.sl cT (bw Z)]), (19, Ty.sl cT (fI (bw Z) Z.levels.length))] [(6, Cont.cells 27 (bl Z)), (7, Cont.cells 30 (eB (bF g).real))]) ?_ ?_
 ·refine dK.mk' ?_ ?_
  ·(repeat (first | refine aB ?_ (Ty.aW _) | refine aB ?_ (Ty.aF _))); exact aJ
  refine aG rfl (Cont.aF _) ?_; refine aG rfl (Cont.aF _) ?_; exact aI
 refine aA (aL rfl rfl rfl rfl (c9 rfl rfl rfl (bQ rfl (aD (aC (aq ?_))))))
 refine cj (fun (j : {j : Nat // j ≤ (bw Z).length}) => live [(5, Ty.ptr 6 0), (6, Ty.ptr 7 0), (13, Ty.sl cT (cr Z)), (14, Ty.int .i64 (eU Z)), (15, Ty.pp [Ty.sl cT (bw Z)]), (19, Ty.sl cT (fI (bw Z) Z.levels.length)), (162, Ty.sl cT (bw Z)), (163, Ty.int .i64 (bw Z).length), (164, Ty.int .i64 (j.1 : Nat))] [(6, Cont.cells 27 (bl Z)), (7, Cont.cells 30 (eB (bF g).real))]) (fun j => (bw Z).length - j.1) (⟨0, by omega⟩) ?_ fun j => ?_
 ·(refine dK.mk' ?_ ?_ <;> (repeat' (first | exact aJ | exact aI | refine aB ?_ (Ty.aW _) | refine aB ?_ (Ty.aF _) | refine aG rfl (Cont.aF _) ?_)))
  all_goals trace_state
 have hj := j.2
 refine aE (aA (bE rfl rfl rfl (aD (aC (aE ?_)))))
 refine au rfl (fun hc8 => ?_) (fun hc8 => ?_)
 ·
  refine ak (aC (aE (aq (aE (aA ?_)))))
  refine bT rfl rfl rfl rfl rfl rfl (by omega) ?_
  refine aL rfl rfl rfl rfl (cF rfl (aD (aC (aE ?_))))
  have hj2 : j.1 < (bw Z).length := by omega
  have hmo := hw.more (dD hj2)
  refine cW mixed rfl ?_
  refine bU rfl rfl (by decide) rfl rfl (by exact Nat.le_of_ble_eq_true rfl) ?_
  refine gB rfl ?_
  refine bt (res' := Ty.row cT 3 172 (fI (bw Z) Z.levels.length)) [(172, 6)] [172] [] (yT (fI (bw Z) Z.levels.length) (by omega)) rfl rfl (by repeat (first | exact bL | refine aH ?_ ?_ | exact aM rfl rfl)) pre_nil post_nil (qU (by exact List.mem_cons_self)) ?_
  refine bQ rfl ?_
  refine bp (E := cT) (xs := [nth (bw Z) j.1]) rfl rfl rfl rfl rfl (by decide) (by decide) (by repeat (first | exact (aY.nil : aY _ _ [] _) | (show aY _ _ ((_, _) :: _) _; apply aY.one; (· exact (rfl : _ = Ty.int _ _)); (· exact rfl)))) (by exact rfl) rfl ?_
  refine fP rfl rfl (by decide) rfl rfl rfl rfl rfl rfl (by decide) (by (simp <;> omega)) (by (simp <;> omega)) ?_
  refine dW [172] (uh Z hzs ((fI (bw Z) Z.levels.length) ++ [nth (bw Z) j.1])) rfl (aK (aa (bH rfl rfl)) (aK (aa (fC rfl)) bW)) (by exact j4 (by repeat (first | exact j3 | refine iB (by first | exact dF _ _ | exact wj _) ?_))) ?_
  refine p8 rfl (bM rfl rfl (bM rfl rfl (dX rfl (cF rfl (aD ?_)))))
  refine ⟨by kernel_rfl, ?_⟩
  refine aC (aE ?_)
  refine fW (s := 25) rfl (Ty.kL hmo.2) ?_
  refine fW (s := 26) rfl (Ty.ah hmo.1) ?_
  refine aA (bQ rfl (bE rfl rfl rfl (gR rfl ?_)))
  apply aS (s := 180) rfl rfl rfl
  ·intro hg; apply aU; (refine gR rfl ?_); refine aD ?_; exact rfl
  ·exact rfl
  ·exact rfl
  refine mQ rfl rfl (aD (aC ?_))
  refine gD rfl (by decide) ?_
  refine ak (bV (aC (aA ?_)))
  refine b9 rfl rfl (by omega) (by omega) ?_
  refine bQ rfl (aD ?_)
  refine bZ (⟨j.1 + 1, by omega⟩) ?_ (by show (bw Z).length - (j.1 + 1) < (bw Z).length - j.1; omega)
  (refine dK.mk' ?_ ?_ <;> (repeat' (first | exact aJ | exact aI | refine aB ?_ (Ty.aW _) | refine aB ?_ (Ty.aF _) | refine aG rfl (Cont.aF _) ?_)))
  all_goals skip
  all_goals trace_state
 refine cg (aR (aR (bA rfl (aC (aE (aE (aA (bQ rfl (bE rfl rfl rfl ?_)))))))))
 refine aD (aC ?_)
 refine dJ rfl (fun hc10 => ?_) (fun hc10 => ?_)
 ·
  refine aE (aA (aj (EA) rfl rfl rfl rfl rfl (dX rfl (aD (aC (ay (aV (bh rfl rfl ?_))))))))
  all_goals exact cM rfl rfl
  all_goals trace_state
 refine ak (aC (aE ?_))
 have hcz : eU Z = 0 := by simpa using hc10
 have hno := JO hw hcz
 have hcl := hw.Mx hno
 refine dN (B := live [(5, Ty.ptr 6 0), (6, Ty.ptr 7 0), (13, Ty.sl cT (cr Z)), (14, Ty.int .i64 (eU Z)), (15, Ty.pp [Ty.sl cT (bw Z)])] [(6, Cont.cells 27 (bl Z)), (7, Cont.cells 30 (eB (bF g).real))]) ?_ ?_
 ·refine dK.mk' ?_ ?_
  ·(repeat (first | refine aB ?_ (Ty.aW _) | refine aB ?_ (Ty.aF _))); exact aJ
  refine aG rfl (Cont.aF _) ?_; refine aG rfl (Cont.aF _) ?_; exact aI
 refine aA ?_
 refine bU rfl rfl (by decide) rfl rfl (by exact Nat.le_of_ble_eq_true rfl) ?_
 refine gB rfl (aj (uh Z hzs (cr Z)) rfl rfl rfl rfl rfl (p8 rfl (bM rfl rfl (bM rfl rfl (dX rfl (cF rfl (aD (aC (aE ?_)))))))))
 refine aE ?_
 refine fW (s := 21) rfl (Ty.kL hcl.2) ?_
 refine fW (s := 22) rfl (Ty.ah hcl.1) ?_
 refine aA (bQ rfl (bE rfl rfl rfl (gR rfl ?_)))
 apply aS (s := 195) rfl rfl rfl
 ·intro hg; apply aU; (refine gR rfl ?_); refine aD ?_; exact rfl
 ·exact rfl
 ·exact rfl
 refine mQ rfl rfl (gR rfl ?_)
 apply aS (s := 198) rfl rfl rfl
 ·intro hg; apply aU; (refine gB rfl ?_); refine aD ?_; exact rfl
 ·exact rfl
 ·exact rfl
 apply aS (s := 198) rfl rfl rfl
 ·intro hg; apply aP (s := 199) rfl (by (rw [hg]; rfl)); apply aU; (refine c9 rfl rfl rfl ?_); refine aD ?_; exact rfl
 ·exact rfl
 ·exact rfl
 apply aS (s := 198) rfl rfl rfl
 ·intro hg; apply aP (s := 200) rfl (by (rw [hg]; rfl)); apply aU; (refine bE rfl rfl rfl ?_); refine aD ?_; exact rfl
 ·exact rfl
 ·exact rfl
 refine mQ rfl rfl (aD (aC (gD rfl (NM hw hno) (ak (aC (aE (aE ?_)))))))
 have hLl := (hw.pI hno).2.1.1.len
 refine dN (B := live [(5, Ty.ptr 6 0), (6, Ty.ptr 7 0), (13, Ty.sl cT (cr Z)), (14, Ty.int .i64 (eU Z)), (15, Ty.pp [Ty.sl cT (bw Z)])] [(6, Cont.cells 27 (bl Z)), (7, Cont.cells 30 (eB (bF g).real))]) ?_ ?_
 ·refine dK.mk' ?_ ?_
  ·(repeat (first | refine aB ?_ (Ty.aW _) | refine aB ?_ (Ty.aF _))); exact aJ
  refine aG rfl (Cont.aF _) ?_; refine aG rfl (Cont.aF _) ?_; exact aI
 refine aA (gB rfl (c9 rfl rfl rfl (bQ rfl (aD (aC (aq ?_))))))
 refine cj (fun (i : {i : Nat // i ≤ (cr Z).length}) => live [(5, Ty.ptr 6 0), (6, Ty.ptr 7 0), (13, Ty.sl cT (cr Z)), (14, Ty.int .i64 (eU Z)), (15, Ty.pp [Ty.sl cT (bw Z)]), (204, Ty.int .i64 (cr Z).length), (205, Ty.int .i64 (i.1 : Nat))] [(6, Cont.cells 27 (bl Z)), (7, Cont.cells 30 (eB (bF g).real))]) (fun i => (cr Z).length - i.1) (⟨0, by omega⟩) ?_ fun i => ?_
 ·(refine dK.mk' ?_ ?_ <;> (repeat' (first | exact aJ | exact aI | refine aB ?_ (Ty.aW _) | refine aB ?_ (Ty.aF _) | refine aG rfl (Cont.aF _) ?_)))
  all_goals trace_state
 have hi := i.2
 refine aE (aA (bE rfl rfl rfl (aD (aC (aE ?_)))))
 refine au rfl (fun hc12 => ?_) (fun hc12 => ?_)
 ·
  refine ak (aC (aE (aq (aE (aA (bQ rfl (cF rfl (aD (aC ?_)))))))))
  refine aE ?_
  have hi2 : i.1 < (cr Z).length := by omega
  have hle := hw.less hno hi2
  refine cW mixed rfl ?_
  refine bU rfl rfl (by decide) rfl rfl (by exact Nat.le_of_ble_eq_true rfl) ?_
  refine gB rfl ?_
  refine bt (res' := Ty.row cT 3 212 (cr Z)) [(212, 6)] [212] [] (yT (cr Z) (by omega)) rfl rfl (by repeat (first | exact bL | refine aH ?_ ?_ | exact aM rfl rfl)) pre_nil post_nil (qU (by exact List.mem_cons_self)) ?_
  refine bQ rfl (bQ rfl ?_)
  refine b9 rfl rfl (by omega) (by omega) ?_
  refine bt (res' := Ty.vs 212 ((cr Z).eraseIdx i.1).length) [(212, 1000)] [] [(212, Cont.vec cT 3 ((cr Z).eraseIdx i.1))] (Mb (cr Z) i.1 hi2) rfl rfl (aH (aH (aH bL (aM rfl rfl)) (aM rfl rfl)) (qU (by exact List.mem_cons_self))) pre_nil (bJ (a := 212) (b := 1000) (by decide) rfl (cA (by decide) rfl) post_nil) (eM (by decide)) ?_
  refine dW [212] (uh Z hzs ((cr Z).eraseIdx i.1)) rfl (aK (aa (bH rfl rfl)) (aK (gY rfl rfl (by decide) rfl) bW)) (by exact j4 (by repeat (first | exact j3 | refine iB (by first | exact dF _ _ | exact wj _) ?_))) ?_
  refine p8 rfl (bM rfl rfl (bM rfl rfl (dX rfl (cF rfl (aD ?_)))))
  refine ⟨by kernel_rfl, ?_⟩
  refine aC (aE ?_)
  refine fW (s := 28) rfl (Ty.kL hle.2) ?_
  refine fW (s := 29) rfl (Ty.ah hle.1) ?_
  refine aA (bQ rfl (bE rfl rfl rfl (gR rfl ?_)))
  apply aS (s := 221) rfl rfl rfl
  ·intro hg; apply aU; (refine gR rfl ?_); refine aD ?_; exact rfl
  ·exact rfl
  ·exact rfl
  apply aS (s := 221) rfl rfl rfl
  ·intro hg; apply aP (s := 222) rfl (by (rw [hg]; rfl)); apply aU; (refine dm rfl ?_); refine aD ?_; exact rfl
  ·exact rfl
  ·exact rfl
  refine mQ rfl rfl (aD (aC ?_))
  refine gD rfl (by decide) ?_
  refine ak (bV (aC (aA ?_)))
  refine b9 rfl rfl (by omega) (by omega) ?_
  refine bQ rfl (aD ?_)
  refine bZ (⟨i.1 + 1, by omega⟩) ?_ (by show (cr Z).length - (i.1 + 1) < (cr Z).length - i.1; omega)
  (refine dK.mk' ?_ ?_ <;> (repeat' (first | exact aJ | exact aI | refine aB ?_ (Ty.aW _) | refine aB ?_ (Ty.aF _) | refine aG rfl (Cont.aF _) ?_)))
  all_goals skip
  all_goals trace_state
 refine cg (aR (aR (bA rfl (aC (aE (aA (gB rfl (dL rfl ?_))))))))
 refine aj (lQ (cr Z) (Ty.jX 68 [Ty.pp [Ty.sl cT (bw Z)]]) rfl (fun x => decide (x ∈ (bw Z))) rfl rfl (fun x _ => dU (Mm x (bw Z)) rfl rfl rfl rfl rfl rfl)) rfl rfl rfl rfl rfl ?_
 refine gR rfl ?_
 apply aS (s := 229) rfl rfl rfl
 ·intro hg; apply aU; (refine aj (EA) rfl rfl rfl rfl rfl ?_); refine aD ?_; exact rfl
 ·exact rfl
 ·exact rfl
 refine eo rfl rfl (dX rfl (aD (aC (ay (bh rfl rfl ?_)))))
 all_goals skip
 all_goals exact az rfl rfl (congrArg Ty.bool (by rw [hw.meet hno]; rfl))
end Go.Proofs.YtelbollidfdcjaaGreat
namespace Go.T
open Go Go.RowKit Go.ChangeShapes Go.WideShapes Go.ChangeAt
def n9 : bB := fun _ => none
theorem Jq (w : World) : Wf w n9 := ⟨fun _ _ h => (by cases h), fun _ _ _ _ h => (by cases h)⟩
theorem Eo : ∀ b t, n9 b = some t → t = 0 := fun _ _ h => by cases h
structure Rd {α : Type} (P : Program) (e : TypeId) (E : El α) : Prop where
  size : P.cellsOf e = E.size
  pos : 0 < E.size
  rd : ∀ {H : Type} {enc : TypeId × Value → H} {w : World} {base : Nat} {held : Bool} {n : Nat} {cs : List Value} {y : DataW H × List MemPlace}, DataW.trod enc P w base (fun _ => true) held n e cs = some y → ∃ x, cN w n9 (E.tys x) cs
section
variable {H : Type} {enc : TypeId × Value → H} {P : Program} {w : World} {base : Nat} {held : Bool} {α : Type} {E : El α} {t e : TypeId} {n : Nat} {cs : List Value} {y : DataW H × List MemPlace}
theorem L9 (hR : Rd P e E) (ht : P.underlying t = some (.slice e)) (h : DataW.trod enc P w base (fun _ => true) held n t cs = some y) : ∃ v xs, cs = [v] ∧ (Ty.sl E xs).den w n9 v := by
 rcases Go.Deep.open_slice ht h with ⟨rfl, _⟩ | ⟨a, len, cap, m, k, D, Pl, rfl, _, hl, hm, hmm, _, hel⟩
 ·exact ⟨_, [], rfl, none, 0, rfl, Nat.le_refl _, Nat.zero_le _, fun h => absurd h (Nat.lt_irrefl _)⟩
 have hlm : len ≤ m := by rw [hmm]; simpa using hl
 have hX : ∀ i : Fin len, ∃ x : α, ∃ cs', w.cells? base (a.add (i.1 * P.cellsOf e)) (P.cellsOf e) = some cs' ∧ cN w n9 (E.tys x) cs' := fun i => by
  obtain ⟨cs', h1, h2⟩ := hel i.1 (Nat.lt_of_lt_of_le i.2 hlm)
  obtain ⟨x, hx⟩ := hR.rd h2
  exact ⟨x, cs', h1, hx⟩
 let X : Fin len → α := fun i => (hX i).choose
 have hXs : ∀ i : Fin len, ∃ cs', w.cells? base (a.add (i.1 * P.cellsOf e)) (P.cellsOf e) = some cs' ∧ cN w n9 (E.tys (X i)) cs' := fun i => (hX i).choose_spec
 have hlen : (List.ofFn X).length = len := by simp
 refine ⟨_, List.ofFn X, rfl, some a, cap, by rw [hlen], by rw [hlen]; exact hl, hm, fun h0 => ?_⟩
 rw [hlen] at h0
 have hcell : ∀ (i : Fin len) (j : Nat) (u : Ty), (E.tys (X i))[j]? = some u → ∃ v, w.cell? (a.add (i.1 * E.size + j)) = some v ∧ u.den w n9 v := fun i j u hu => by
  obtain ⟨cs', h1, h2⟩ := hXs i
  obtain ⟨v, hv, hd⟩ := dj h2 j u hu
  obtain ⟨_, g1, g2⟩ := World.cells?_some h1
  have hj : j < P.cellsOf e := by
   rw [hR.size, ← E.len (X i)]
   exact (List.getElem?_eq_some_iff.1 hu).1
  refine ⟨v, ?_, hd⟩
  have := g2 j hj
  rw [Go.Deep.add_add, hv, hR.size] at this
  exact this
 have hsz := hR.pos
 have hfirst : ∃ v, w.cell? (a.add 0) = some v := by
  obtain ⟨u, hu⟩ : ∃ u, (E.tys (X ⟨0, h0⟩))[0]? = some u := ⟨_, List.getElem?_eq_getElem (by rw [E.len]; exact hsz)⟩
  obtain ⟨v, hv, _⟩ := hcell ⟨0, h0⟩ 0 u hu
  exact ⟨v, by simpa using hv⟩
 obtain ⟨b, off, sp⟩ := a
 obtain ⟨v0, hv0⟩ := hfirst
 have hsp : sp = none := by simpa [Addr.add] using World.cell?_spot hv0
 subst hsp
 have hb : b < w.heap.size := by
  obtain ⟨cs', h1, _⟩ := hXs ⟨0, h0⟩
  have := World.cells?_block h1 (by rw [hR.size]; exact hsz)
  simpa [Addr.add] using this
 refine ⟨b, off, rfl, rfl, hb, fun i u hu => ?_⟩
 have hi : i < len * E.size := by
  have := (List.getElem?_eq_some_iff.1 hu).1
  rw [ct, hlen] at this; exact this
 have hk : i / E.size < len := Nat.div_lt_of_lt_mul (by rw [Nat.mul_comm]; exact hi)
 have hj : i % E.size < E.size := Nat.mod_lt _ hsz
 have hij : i / E.size * E.size + i % E.size = i := by rw [Nat.mul_comm]; exact Nat.div_add_mod i E.size
 have hu2 := hu
 rw [← hij, rZ E _ _ _ (by rw [hlen]; exact hk) hj, List.getElem?_ofFn, dif_pos hk] at hu2
 obtain ⟨v, hv, hd⟩ := hcell ⟨i / E.size, hk⟩ (i % E.size) u hu2
 refine ⟨v, ?_, hd⟩
 rw [← Go.WideShapes.add_plain]
 rw [hij] at hv
 exact hv
theorem K1 {c : Value} (hR : Rd P e E) (ht : P.underlying t = some (.slice e)) (h : DataW.trod enc P w base (fun _ => true) held n t [c] = some y) : ∃ xs, (Ty.sl E xs).den w n9 c := by
 obtain ⟨v, xs, e, hd⟩ := L9 hR ht h
 exact ⟨xs, by rw [show c = v by simpa using e]; exact hd⟩
end
section
variable {w w' : World} {S K : Nat → Prop} {M' : bB}
theorem rO (le : Le S K w n9 w' M') {b : Nat} (hb : b < w.heap.size) : w'.heap[b]? = w.heap[b]? := (le.p7 b hb rfl).2
theorem JU (le : Le S K w n9 w' M') {p : MemPlace} (hp : p.block < w.heap.size) : w.sameAt w' p := by
  cases p with
  | cell b o => exact World.cell?_of_block (w := w) (rO le hp)
  | map b => exact rO le hp
theorem Ib (le : Le S K w n9 w' M') (may : MemPlace → Prop) : w.keptBut w' may := by
 refine ⟨le.os, le.out, fun i hi => ?_⟩
 have e := rO le hi
 rw [e]
 split
 ·rename_i h1 h2
  rw [h1] at h2
  simp only [Option.some.injEq, Obj.cells.injEq] at h2
  obtain ⟨rfl, rfl, rfl⟩ := h2
  exact ⟨rfl, rfl, rfl, fun _ _ => rfl⟩
 ·rename_i h1 h2
  rw [h1] at h2
  simp only [Option.some.injEq, Obj.map.injEq] at h2
  exact Or.inr ⟨h2.1.symm, h2.2.symm⟩
 rfl
theorem E1 (le : Le S K w n9 w' M') {a : Addr} (ha : a.block < w.heap.size) : w'.frozen? a = w.frozen? a := by
 unfold World.frozen?
 rw [rO le ha]
end
section
variable {H : Type} {enc : TypeId × Value → H} {P : Program}
theorem qN (hl : laidOutB P = true) {w w' : World} {sp : Nat → Bool} : ∀ {ts : List TypeId} {vs : List Value} {ds : List (DataW H)} {ps : List MemPlace}, (∀ t ∈ ts, P.readableRec t = true ∧ t < P.types.size) →
    DataW.TrodAll enc P w 0 (fun _ => true) true ts vs ds ps → (∀ p ∈ ps, w.sameAt w' p) → (∀ p ∈ ps, sp p.block = true) → DataW.TrodAll enc P w' 0 sp true ts vs ds ps
  | [], [], [], _, _, h, _, _ => h
  | t :: ts, v :: vs, d :: ds, _, ht, ⟨p, q, h1, h2, e⟩, hs, hsp => by
    subst e
    have h0 := ht t List.mem_cons_self
    exact ⟨p, q, Go.WideElems.Trod_stays hl h0.1 h0.2 h1 (fun x hx => hs x (List.mem_append_left _ hx)) (fun x hx => hsp x (List.mem_append_left _ hx)),
      qN hl (fun t h => ht t (List.mem_cons_of_mem _ h)) h2 (fun x hx => hs x (List.mem_append_right _ hx)) (fun x hx => hsp x (List.mem_append_right _ hx)), rfl⟩
theorem FC {f : Func} {s : ChangeSpec} {apart fresh handsOn again : Bool} {W W' : World} {args : Array Value} {ds : List (DataW H)} {before : List MemPlace} {S K : Nat → Prop} {M' : bB}
 (hl : laidOutB P = true) (hv : s.vars = []) (hrd : ∀ t ∈ f.params.toList, P.readableRec t = true ∧ t < P.types.size) {tb : TypeId} (htb : P.underlying tb = some .bool) (hrt : f.resultTypes = #[tb])
 (hW : DataW.Whole enc P f.params.toList s.vars apart W args.toList ds [] before) (hres : (s.fn H (ds ++ [])).results = [.lit (.bool true)]) (hargs : (s.fn H (ds ++ [])).args = ds) (hvars : (s.fn H (ds ++ [])).vars = [])
 (le : Le S K W n9 W' M') : s.post enc P f apart fresh handsOn again W args (.bool true) W' := by
 have hW0 := hW
 obtain ⟨p, q, hA, hV, hb, hfz, hn⟩ := hW0
 have hlt := DataW.TrodAll.lt hA
 have hq : q = [] := by rw [hv] at hV; exact (trodVars_none hV).2
 subst hq
 have hbp : before = p := by rw [hb]; simp
 have hre : ∀ (b : Nat) (sp : Nat → Bool) (hd : Bool), DataW.TrodAll enc P W' b sp hd f.resultTypes.toList ((Value.bool true).resultList f.resultTypes.size) (s.fn H (ds ++ [])).results [] := fun b sp hd => by
  rw [hrt, hres]; exact trodAll_mk1 (shut_bool htb true)
 have har : ∀ sp : Nat → Bool, (∀ x ∈ p, sp x.block = true) → DataW.TrodAll enc P W' 0 sp true f.params.toList args.toList (s.fn H (ds ++ [])).args p := fun sp hsp => by
  rw [hargs]; exact qN hl hrd hA (fun x hx => JU le (hlt x hx)) hsp
 have hva : ∀ sp : Nat → Bool, DataW.TrodVars enc P W' sp s.vars (s.fn H (ds ++ [])).vars [] := fun sp => by
  rw [hvars, hv]; exact rfl
 have hok : ∀ (j : Nat) (t : TypeId) (r : Value), f.resultTypes[j]? = some t → ((Value.bool true).resultList f.resultTypes.size)[j]? = some r → Value.okWide P W' .any 0 t r := by
  exact ok_one (by rw [hrt]) rfl (okWide_bool_mk htb true)
 refine ⟨ds, [], before, [], p, [], hW, hre _ _ _, har _ (fun x hx => by simpa using hlt x hx), hva _, World.keptBut_mono (fun x hx => hx) (Ib le _), fun _ => ?_⟩
 refine ⟨hok, _, _, ([] ++ p) ++ [], ⟨[] ++ p, [], trodAll_append (har _ (fun _ _ => rfl)) (hre _ _ _), hva _, rfl, ?_, ?_⟩, ?_⟩
 ·intro b off hp
  have hp' : MemPlace.cell b off ∈ p := by simpa using hp
  rw [E1 le (hlt _ hp')]
  exact hfz b off (by rw [hbp]; exact hp')
 ·intro ha
  have := hn ha
  rw [hbp] at this
  simpa using this
 intro x hx _
 rw [hbp]
 simpa using hx
end
end Go.T
namespace Go.Proofs.YtelbollidfdcjaaGreat
open Go Go.T Go.RowKit Go.ChangeShapes Go.WideShapes Go.ChangeAt
theorem NW : Rd Tryz.prog 5 U8 := ⟨by kernel_rfl, by decide, fun h => by
 obtain ⟨i, rfl, _⟩ := DataW.trod_int Tryz.underlying5 h
 exact ⟨i, rfl, trivial⟩⟩
section
variable {H : Type} {enc : TypeId × Value → H} {W : World} {base : Nat} {held : Bool} {v : Value} {d : DataW H} {p : List MemPlace}
set_option maxRecDepth 100000 in
theorem Az (hv : Value.okWide Tryz.prog W .any base 22 v) (h : DataW.Trod enc Tryz.prog W 0 (fun _ => true) held 22 v d p) : ∃ l, (Ty.sl U8 l).den W n9 v := by
 obtain ⟨a, len, cap, rfl⟩ := okWide_slice Tryz.underlying22 hv
 obtain ⟨n, hn⟩ := h
 exact K1 NW Tryz.underlying22 (by simpa [Value.cells] using hn)
end
end Go.Proofs.YtelbollidfdcjaaGreat
namespace Go.Proofs.YtelbollidfdcjaaGreat
open Go Go.T Go.RowKit Go.ChangeShapes Go.WideShapes Go.ChangeAt
section
variable {H : Type} {enc : TypeId × Value → H} {W : World} {base : Nat} {held : Bool} {v : Value} {d : DataW H} {p : List MemPlace}
end
end Go.Proofs.YtelbollidfdcjaaGreat
