/- Lemmas: the program and the reference walked, plain laws. -/
import Derived.Test.YtelbollidfdcjaaGreatOd
namespace Go.Proofs.YtelbollidfdcjaaGreat
open Go Go.T
set_option maxHeartbeats 8000000
section
variable {d : Md} {s : Sk} {k i : Nat} {p : (List Move × List Int) × Sk} {y : ah} {a : eM} {m : Move} {n : Int}
theorem Ik (d : Md) (k : Nat) : (((d.bs k).1.1 ++ [bZ (d.bs k).2 60], (d.bs k).1.2 ++ [⟨300, hO (aY (d.bs k).2) (bZ (d.bs k).2 60) 12⟩]), aY (aY (aY (d.bs k).2))) = d.bs (k + 1) := rfl
theorem II (d : Md) : (([], []), aY (aY d.s)) = d.bs 0 := rfl
theorem HT (d : Md) (i : Nat) : (((d.ms i).1.1 ++ [d.full (d.ms i) i], (d.ms i).1.2 ++ [d.num (d.ms i) i]), aY (aY (aY (d.qg (d.ms i).2)))) = d.ms (i + 1) := rfl
theorem G5 (d : Md) : (([], []), aY (d.bs d.nb).2) = d.ms 0 := rfl
theorem Kx (d : Md) (k : Nat) : ((d.ls k).1 ++ [d.Ls (d.ls k).2], aY (aY (aY (aY (d.ls k).2)))) = d.ls (k + 1) := rfl
theorem KW (d : Md) : ([], aY (d.hs d.nb).2) = d.ls 0 := rfl
theorem LH (d : Md) (k : Nat) : ((d.hs k).1.set k ⟨min 300 (d.most k (d.D + 1).toNat + bZ (d.hs k).2 30), (nth (d.hs k).1 k).first⟩, aY (d.hs k).2) = d.hs (k + 1) := rfl
theorem KZ (d : Md) : (d.gP, (d.ms d.many).2) = d.hs 0 := rfl
theorem oo (hd : d.Ok) (hi : i ≤ d.many) (hp : MX d i p) : Li (d.yd p.1.1) (d.am p.1.2) := by
 have h := (d.rP d.nb).first
 have hl := hp.len1
 refine ⟨by have := hp.len2; show p.1.1.length ≤ p.1.2.length; omega, ?_, fun x hx => ?_, fun x hx => ?_⟩
 ·have h1 := (d.Ac hd).1; have h2 := hp.len2; show p.1.2.length ≤ 1000; omega
 ·have := h x hx; omega
 have := hp.num x hx; omega
theorem Nm (h : d.src s = -1) : n = l8 y a (d.mv s i) n := (if_pos h).symm
theorem MG (h : ¬ d.src s = -1) : min n (cz y a (d.src s) (d.day i)) = l8 y a (d.mv s i) n := (if_neg h).symm
theorem OA (h : d.dst s = -1) : n = m8 y a (d.mv s i) n := (if_pos h).symm
theorem ME (h : ¬ d.dst s = -1) : min n (300 - cz y a (d.dst s) (d.day i + 1)) = m8 y a (d.mv s i) n := (if_neg h).symm
theorem Oa : n = mV y a m n 0 := rfl
theorem MZ (h : ((decide ((nth y.moves k).day = m.day) && decide ((nth y.moves k).src = m.src)) && !decide (m.src = -1)) = true) : ¬ m.src = -1 := by simp only [Bool.and_eq_true, Bool.not_eq_true', decide_eq_false_iff_not] at h; exact h.2
theorem num_eq (d : Md) (p : (List Move × List Int) × Sk) (i : Nat) : max 0 (min (mV (d.yd p.1.1) (d.am p.1.2) (d.mv p.2 i) (m8 (d.yd p.1.1) (d.am p.1.2) (d.mv p.2 i) (l8 (d.yd p.1.1) (d.am p.1.2) (d.mv p.2 i) (bZ (d.qg p.2) 40))) (d.yd p.1.1).moves.length) (BE (d.yd p.1.1) (d.am p.1.2) (d.mv p.2 i))) = d.num p i := rfl
theorem Kt {α : Type} {E : El α} {T tg n : Nat} {xs : List α} (h : xs.length = n) : (Ty.row E T tg xs).Sub (Ty.vs tg n) := by subst h; exact Ty.mF rfl
theorem Mv (d : Md) (b : Nat) : 0 = d.most b 0 := rfl
theorem NC (d : Md) (b t : Nat) {bs : List vE} : max (d.most b t) (cz ⟨d.D, bs, d.fM, []⟩ d.real (b : Nat) (t : Nat)) = d.most b (t + 1) := by
 have e : cz ⟨d.D, bs, d.fM, []⟩ d.real (b : Nat) (t : Nat) = cz d.y0 d.real (b : Nat) (t : Nat) := uF (y := d.y0)
 rw [e]; rfl
theorem w7 (hd : d.Ok) {bs : List vE} {l : List Level} : Li ⟨d.D, bs, d.fM, l⟩ d.real := by
 have h := oo hd (Nat.le_refl _) (d.sv hd d.many (Nat.le_refl _))
 exact ⟨h.len, h.pT, h.first, h.bg⟩
theorem N6 (h : ((decide ((nth y.moves k).day = m.day) && decide ((nth y.moves k).src = m.src)) && !decide (m.src = -1)) = false) : mV y a m n k = mV y a m n (k + 1) := (if_neg (by rw [h]; decide)).symm
theorem NQ (h : ((decide ((nth y.moves k).day = m.day) && decide ((nth y.moves k).src = m.src)) && !decide (m.src = -1)) = true) : min (mV y a m n k) (cz y a m.src m.day - nth a.bg k) = mV y a m n (k + 1) := (if_pos h).symm
theorem BA (h : d.vH s = d.vG s) : (-1 = d.src s ∧ bZ (aY (aY s)) d.nb = d.dst s) ∧ aY (aY (aY s)) = d.qg s := ⟨⟨(if_pos h).symm, (if_pos h).symm⟩, (if_pos h).symm⟩
theorem BY (h : ¬ d.vH s = d.vG s) : (d.vH s = d.src s ∧ d.vG s = d.dst s) ∧ aY (aY s) = d.qg s := ⟨⟨(if_neg h).symm, (if_neg h).symm⟩, (if_neg h).symm⟩
theorem zx {l : List Int} (hd : d.Ok) (h2 : ¬ d.src s = -1) (hl : l.length = d.nb) : 0 ≤ d.src s ∧ (d.src s).toNat < l.length := by
 have h1 := (d.yT (s := s) hd).1
 omega
theorem AF {l : List Int} (hd : d.Ok) (h2 : ¬ d.dst s = -1) (hl : l.length = d.nb) : 0 ≤ d.dst s ∧ (d.dst s).toNat < l.length := by
 have h1 := (d.yT (s := s) hd).2.1
 omega
end
attribute [local irreducible] Md.D Md.NU Md.nb Md.bs Md.first Md.gP Md.Bv Md.many Md.src Md.dst Md.qg Md.day Md.num Md.ms Md.bg Md.fM Md.most Md.hs Md.jw Md.Nx Md.nl Md.ls Md.ve cz l8 m8 mV r8 hO aY bZ jH BE Md.vH Md.vG
attribute [local irreducible] iN fQ m5 qc ir iW ij iy iw qY iZ qW dz ga qV gG qd nth fP dh aa dy bodyPost Exit.then Exit.inBlock Code.wp Code.wpIn qh iq qb qU ia dn cU cj bodyPostM eF
set_option maxRecDepth 100000 in
theorem MW (d : Md) (hd : d.Ok) (h : d.s.Ok 1000) : dn Tryz.prog 17 [1000] [(1000, Cont.cells 149 (cX d.s))] [Ty.ptr 1000 0, Ty.int .i64 d.days, Ty.int .i64 d.bins, Ty.int .i64 d.moves, Ty.int .i64 d.levels] [(1000, Cont.cells 149 (cX d.sk))] (Ty.ju [fI d.mm, qn d.real]) := by
 refine c6 Tryz.func17 rfl (by decide) Tryz.ntmps17 (by exact Nat.le_of_ble_eq_true rfl) fun w0 M0 => ?_
 have h0 : 0 ≤ d.s.taken ∧ d.s.taken + 1000 ≤ 4611686018427387904 := h
 have o1 := hd.days
 have o2 := hd.bins
 have o3 := hd.moves
 have o4 := hd.levels
 have hD := d.H8 hd
 have hnb := d.EW hd
 have hmn := d.Ac hd
 have hnl := d.Lw hd
 have hs1 := cr d.s
 have hs2 := cr (aY d.s)
 have B := d.rP d.nb
 have b1 : d.first.length = d.nb := by unfold Md.first; exact B.len1
 have b2 : d.gP.length = d.nb := by unfold Md.gP; exact B.len2
 refine aG (aA ?_)
 refine b9 rfl (by exact List.cons_ne_nil _ _) rfl ?_
 refine b9 rfl (by exact List.cons_ne_nil _ _) rfl ?_
 refine aD (aC (aG (aA (oV rfl (bQ rfl ?_)))))
 refine bk [(1000, 1000)] [] [(1000, Cont.cells 149 (cX (aY d.s)))] (vn d.s ⟨by omega, by omega⟩ 1 d.days (by omega) (by omega)) rfl rfl (by repeat (first | exact bD | refine aH ?_ ?_ | exact dU List.mem_cons_self | exact aN rfl rfl)) (b8 (a := 1000) (b := 1000) (by exact List.mem_cons_self) rfl (bA (by exact List.mem_cons_self) rfl rfl rfl) pre_nil) (bG (a := 1000) (b := 1000) (by exact List.mem_cons_self) rfl (bA (by exact List.mem_cons_self) rfl rfl rfl) post_nil) (aN rfl rfl) ?_
 refine dB rfl rfl (by exact List.cons_ne_nil _ _) rfl (by repeat (first | exact (aX.nil : aX _ _ [] _) | (show aX _ _ ((_, _) :: _) _; apply aX.one; (· exact (rfl : _ = Ty.int _ _)); (· exact rfl)))) (by exact (rfl : _ = some [_, _, _, _])) ?_
 refine b9 rfl (by exact List.cons_ne_nil _ _) rfl ?_
 refine bp rfl rfl (by decide) rfl rfl rfl rfl rfl rfl ?_
 refine aD (aC (aG ?_))
 refine c9 (B := live [(0, Ty.ptr 1000 0), (2, Ty.int .i64 d.bins), (3, Ty.int .i64 d.moves), (4, Ty.int .i64 d.levels), (10, Ty.ptr 11 0), (11, Ty.ptr 12 0), (12, Ty.ptr 13 0)] [(11, Cont.cells 27 [Ty.int .i64 0, Ty.ex (.slice none 0 0), Ty.ex (.slice none 0 0), Ty.ex (.slice none 0 0)]), (12, Cont.cells 30 [Ty.ex (.slice none 0 0), Ty.ex (.slice none 0 0)]), (13, Cont.cells 27 [Ty.int .i64 (jH d.s 1 d.days), Ty.ex (.slice none 0 0), Ty.ex (.slice none 0 0), Ty.ex (.slice none 0 0)]), (1000, Cont.cells 149 (cX (aY d.s)))]) ?_ ?_
 ·refine dG.mk' ?_ ?_
  ·(repeat (first | refine aB ?_ (Ty.aU _) | refine aB ?_ (Ty.aE _))); exact aI
  refine aF rfl (Cont.aE _) ?_; refine aF rfl (Cont.aE _) ?_; refine aF rfl (Cont.dY ⟨Ty.aE _, Ty.aE _, Ty.aE _, Ty.aE _, trivial⟩) ?_; refine aF rfl (Cont.aE _) ?_; exact aJ
 refine aA ?_
 refine b9 rfl (by exact List.cons_ne_nil _ _) rfl ?_
 refine aD (aC (aG (aG ?_)))
 refine c9 (B := live [(0, Ty.ptr 1000 0), (2, Ty.int .i64 d.bins), (3, Ty.int .i64 d.moves), (4, Ty.int .i64 d.levels), (10, Ty.ptr 11 0), (11, Ty.ptr 12 0), (12, Ty.ptr 13 0), (13, Ty.ptr 14 0)] [(11, Cont.cells 27 [Ty.int .i64 0, Ty.ex (.slice none 0 0), Ty.ex (.slice none 0 0), Ty.ex (.slice none 0 0)]), (12, Cont.cells 30 [Ty.ex (.slice none 0 0), Ty.ex (.slice none 0 0)]), (13, Cont.cells 27 [Ty.int .i64 (jH d.s 1 d.days), Ty.ex (.slice none 0 0), Ty.ex (.slice none 0 0), Ty.ex (.slice none 0 0)]), (14, Cont.cells 30 [Ty.ex (.slice none 0 0), Ty.ex (.slice none 0 0)]), (1000, Cont.cells 149 (cX (aY d.s)))]) ?_ ?_
 ·refine dG.mk' ?_ ?_
  ·(repeat (first | refine aB ?_ (Ty.aU _) | refine aB ?_ (Ty.aE _))); exact aI
  refine aF rfl (Cont.aE _) ?_; refine aF rfl (Cont.aE _) ?_; refine aF rfl (Cont.aE _) ?_; refine aF rfl (Cont.aE _) ?_; refine aF rfl (Cont.aE _) ?_; exact aJ
 refine aA (oV rfl (bQ rfl ?_))
 refine bk [(1000, 1000)] [] [(1000, Cont.cells 149 (cX (aY (aY d.s))))] (vn (aY d.s) ⟨by omega, by omega⟩ 1 d.bins (by omega) (by omega)) rfl rfl (by repeat (first | exact bD | refine aH ?_ ?_ | exact dU List.mem_cons_self | exact aN rfl rfl)) (b8 (a := 1000) (b := 1000) (by exact List.mem_cons_self) rfl (bA (by exact List.mem_cons_self) rfl rfl rfl) pre_nil) (bG (a := 1000) (b := 1000) (by exact List.mem_cons_self) rfl (bA (by exact List.mem_cons_self) rfl rfl rfl) post_nil) (aN rfl rfl) ?_
 refine bQ rfl (aD (aC ?_))
 refine gT (s := 31) rfl (Ty.au (show jH (aY d.s) 1 d.bins = ((d.nb : Nat) : Int) from (show d.NU = _ from hnb.2) ▸ (by unfold Md.NU; rfl))) ?_
 refine fV (tg := 13) rfl (Cont.dY (l' := [Ty.int .i64 d.D, Ty.ex (.slice none 0 0), Ty.ex (.slice none 0 0), Ty.ex (.slice none 0 0)]) ⟨Ty.au (by unfold Md.D; rfl), Ty.aE _, Ty.aE _, Ty.aE _, trivial⟩) ?_
 refine ak ?_
 refine cg (fun (k : {k : Nat // k ≤ d.nb}) => live [(0, Ty.ptr 1000 0), (3, Ty.int .i64 d.moves), (4, Ty.int .i64 d.levels), (10, Ty.ptr 11 0), (11, Ty.ptr 12 0), (12, Ty.ptr 13 0), (13, Ty.ptr 14 0), (31, Ty.int .i64 (d.nb : Nat)), (32, Ty.int .i64 (k.1 : Nat))] [(11, Cont.cells 27 [Ty.int .i64 0, Ty.ex (.slice none 0 0), Ty.ex (.slice none 0 0), Ty.ex (.slice none 0 0)]), (12, Cont.cells 30 [Ty.ex (.slice none 0 0), Ty.ex (.slice none 0 0)]), (13, Cont.cells 27 [Ty.int .i64 d.D, Ty.row dO 39 49 (d.bs k.1).1.2, Ty.ex (.slice none 0 0), Ty.ex (.slice none 0 0)]), (14, Cont.cells 30 [Ty.row cS 3 40 (d.bs k.1).1.1, Ty.ex (.slice none 0 0)]), (1000, Cont.cells 149 (cX (d.bs k.1).2))]) (fun k => d.nb - k.1) (⟨0, by omega⟩) ?_ fun k => ?_
 ·(refine dG.mk' ?_ ?_ <;> (repeat' (first | exact aI | exact aJ | exact dS | refine aB ?_ (Ty.aU _) | refine aB ?_ (Ty.aE _) | refine aF rfl (Cont.aE _) ?_ | refine aF rfl (Cont.dV ?_) ?_ | refine bu ?_ (Ty.aE _) | refine bu ?_ ?_)))
  all_goals first | exact Ty.au (congrArg (fun p => p.2.mixed) (II d)) | exact Ty.au (congrArg (fun p => p.2.taken) (II d)) | exact Ty.hH (congrArg (fun p => p.2.grain) (II d)) | exact mD (congrArg (fun p => p.1.1) (II d)).symm | exact mD (congrArg (fun p => p.1.2) (II d)).symm
 have hk := k.2
 have BK := d.rP k.1
 have c1 := BK.len1
 have c2 := BK.len2
 have c3 := BK.taken
 have c4 := cT (d.bs k.1).2 60
 have c5 := cr (d.bs k.1).2
 refine aG (aA (bF rfl rfl rfl (aD (aC (aG ?_)))))
 refine aq rfl (fun hc1 => ?_) (fun hc1 => ?_)
 ·
  refine aj (aC (aG (ak (aG (aA (oV rfl ?_))))))
  refine bk [(1000, 1000)] [] [(1000, Cont.cells 149 (cX (aY (d.bs k.1).2)))] (iV (d.bs k.1).2 ⟨by omega, by omega⟩ 60) rfl rfl (by repeat (first | exact bD | refine aH ?_ ?_ | exact dU List.mem_cons_self | exact aN rfl rfl)) (b8 (a := 1000) (b := 1000) (by exact List.mem_cons_self) rfl (bA (by exact List.mem_cons_self) rfl rfl rfl) pre_nil) (bG (a := 1000) (b := 1000) (by exact List.mem_cons_self) rfl (bA (by exact List.mem_cons_self) rfl rfl rfl) post_nil) (aN rfl rfl) ?_
  refine cE rfl (aD (aC (aG (aA ?_))))
  refine aK rfl rfl rfl rfl rfl (by decide) ?_
  refine aS rfl rfl (by decide) rfl rfl rfl ?_
  refine bQ rfl ?_
  refine bw (E := cS) (xs := [bZ (d.bs k.1).2 60]) rfl rfl rfl rfl rfl (by decide) (by decide) (by repeat (first | exact (aX.nil : aX _ _ [] _) | (show aX _ _ ((_, _) :: _) _; apply aX.one; (· exact (rfl : _ = Ty.int _ _)); (· exact rfl)))) (by exact rfl) rfl ?_
  refine eN rfl rfl (by decide) rfl rfl rfl rfl rfl rfl (by decide) (by (simp <;> omega)) (by (simp <;> omega)) ?_
  refine aK rfl rfl rfl rfl rfl (by decide) ?_
  refine cq rfl rfl (by decide) rfl rfl (by exact (rfl : _ = Ty.row _ _ _ _)) rfl (by exact Nat.le_of_ble_eq_true rfl) rfl rfl (by exact rfl) ?_
  refine aD (aC ?_)
  refine c9 (B := live [(0, Ty.ptr 1000 0), (3, Ty.int .i64 d.moves), (4, Ty.int .i64 d.levels), (10, Ty.ptr 11 0), (11, Ty.ptr 12 0), (12, Ty.ptr 13 0), (13, Ty.ptr 14 0), (14, Ty.int .i64 (bZ (d.bs k.1).2 60)), (31, Ty.int .i64 (d.nb : Nat)), (32, Ty.int .i64 (k.1 : Nat))] [(11, Cont.cells 27 [Ty.int .i64 0, Ty.ex (.slice none 0 0), Ty.ex (.slice none 0 0), Ty.ex (.slice none 0 0)]), (12, Cont.cells 30 [Ty.ex (.slice none 0 0), Ty.ex (.slice none 0 0)]), (13, Cont.cells 27 [Ty.int .i64 d.D, Ty.row dO 39 49 (d.bs k.1).1.2, Ty.ex (.slice none 0 0), Ty.ex (.slice none 0 0)]), (14, Cont.cells 30 [Ty.row cS 3 40 ((d.bs k.1).1.1 ++ [bZ (d.bs k.1).2 60]), Ty.ex (.slice none 0 0)]), (1000, Cont.cells 149 (cX (aY (d.bs k.1).2)))]) ?_ ?_
  ·refine dG.mk' ?_ ?_
   ·(repeat (first | refine aB ?_ (Ty.aU _) | refine aB ?_ (Ty.aE _))); exact aI
   refine aF rfl (Cont.aE _) ?_; refine aF rfl (Cont.aE _) ?_; refine aF rfl (Cont.aE _) ?_; refine aF rfl (Cont.dY ⟨Ty.aE _, Ty.aE _, trivial⟩) ?_; refine aF rfl (Cont.aE _) ?_; exact aJ
  refine cW mixed rfl ?_
  refine aK rfl rfl rfl rfl rfl (by decide) ?_
  refine aS rfl rfl (by decide) rfl rfl rfl ?_
  refine oV rfl (bQ rfl ?_)
  refine bk [(1000, 1000)] [] [(1000, Cont.cells 149 (cX (aY (aY (aY (d.bs k.1).2)))))] (D4 (aY (d.bs k.1).2) ⟨by omega, by omega⟩ (bZ (d.bs k.1).2 60) 12 (by omega) (by omega)) rfl rfl (by repeat (first | exact bD | refine aH ?_ ?_ | exact dU List.mem_cons_self | exact aN rfl rfl)) (b8 (a := 1000) (b := 1000) (by exact List.mem_cons_self) rfl (bA (by exact List.mem_cons_self) rfl rfl rfl) pre_nil) (bG (a := 1000) (b := 1000) (by exact List.mem_cons_self) rfl (bA (by exact List.mem_cons_self) rfl rfl rfl) post_nil) (aN rfl rfl) ?_
  refine dB rfl rfl (by exact List.cons_ne_nil _ _) rfl (by repeat (first | exact (aX.nil : aX _ _ [] _) | (show aX _ _ ((_, _) :: _) _; apply aX.one; (· exact (rfl : _ = Ty.int _ _)); (· exact rfl)) | (show aX _ _ ((_, _) :: _) _; apply aX.agg; (· exact (rfl : _ = Ty.agg _))))) (by exact (rfl : _ = some [_, _, _])) ?_
  refine bw (E := dO) (xs := [⟨300, hO (aY (d.bs k.1).2) (bZ (d.bs k.1).2 60) 12⟩]) rfl rfl rfl rfl rfl (by decide) (by decide) (by repeat (first | exact (aX.nil : aX _ _ [] _) | (show aX _ _ ((_, _) :: _) _; apply aX.agg; (· exact (rfl : _ = Ty.agg _))))) (by exact rfl) rfl ?_
  refine eN rfl rfl (by decide) rfl rfl rfl rfl rfl rfl (by decide) (by (simp <;> omega)) (by (simp <;> omega)) ?_
  refine aK rfl rfl rfl rfl rfl (by decide) ?_
  refine cq rfl rfl (by decide) rfl rfl (by exact (rfl : _ = Ty.row _ _ _ _)) rfl (by exact Nat.le_of_ble_eq_true rfl) rfl rfl (by exact rfl) ?_
  refine aD ?_
  refine ⟨by kernel_rfl, ?_⟩
  refine bX (aC (aA ?_))
  refine cD rfl rfl (by omega) (by omega) ?_
  refine bQ rfl (aD ?_)
  refine bl (⟨k.1 + 1, by omega⟩) ?_ (by show d.nb - (k.1 + 1) < d.nb - k.1; omega)
  (refine dG.mk' ?_ ?_ <;> (repeat' (first | exact aI | exact aJ | exact dS | refine aB ?_ (Ty.aU _) | refine aB ?_ (Ty.aE _) | refine aF rfl (Cont.aE _) ?_ | refine aF rfl (Cont.dV ?_) ?_ | refine bu ?_ (Ty.aE _) | refine bu ?_ ?_)))
  all_goals skip
  all_goals first | exact Ty.au (congrArg (fun p => p.2.mixed) (Ik d _)) | exact Ty.au (congrArg (fun p => p.2.taken) (Ik d _)) | exact Ty.hH (congrArg (fun p => p.2.grain) (Ik d _)) | exact Ty.gL (congrArg (fun p => p.1.1) (Ik d _)) | exact Ty.gL (congrArg (fun p => p.1.2) (Ik d _))
 refine cZ (aQ (aQ (ay rfl (aC (aG ?_)))))
 obtain ⟨k, hk⟩ := k
 obtain rfl : k = d.nb := by have h1 : ¬ (k : Int) < (d.nb : Int) := hc1; have h2 : k ≤ d.nb := hk; omega
 have b3 := B.taken
 have b4 := cr (d.bs d.nb).2
 refine aA (oV rfl (bQ rfl ?_))
 refine cD rfl rfl (by omega) (by omega) ?_
 refine bk [(1000, 1000)] [] [(1000, Cont.cells 149 (cX (aY (d.bs d.nb).2)))] (iV (d.bs d.nb).2 ⟨by omega, by omega⟩ _) rfl rfl (by repeat (first | exact bD | refine aH ?_ ?_ | exact dU List.mem_cons_self | exact aN rfl rfl)) (b8 (a := 1000) (b := 1000) (by exact List.mem_cons_self) rfl (bA (by exact List.mem_cons_self) rfl rfl rfl) pre_nil) (bG (a := 1000) (b := 1000) (by exact List.mem_cons_self) rfl (bA (by exact List.mem_cons_self) rfl rfl rfl) post_nil) (aN rfl rfl) ?_
 refine cE rfl (aD (aC (aG (aG ?_))))
 refine gT (s := 15) rfl (Ty.au (show bZ (d.bs d.nb).2 (d.moves + 1) = ((d.many : Nat) : Int) from hmn.2 ▸ (by unfold Md.Bv; rfl))) ?_
 refine fV (tg := 13) rfl (Cont.dY (l' := [Ty.int .i64 d.D, Ty.row dO 39 49 d.gP, Ty.ex (.slice none 0 0), Ty.ex (.slice none 0 0)]) ⟨Ty.aE _, Ty.gL (by unfold Md.gP; rfl), Ty.aE _, Ty.aE _, trivial⟩) ?_
 refine fV (tg := 14) rfl (Cont.dY (l' := [Ty.row cS 3 40 d.first, Ty.ex (.slice none 0 0)]) ⟨Ty.gL (by unfold Md.first; rfl), Ty.aE _, trivial⟩) ?_
 refine aA (bQ rfl (bQ rfl (aD (aC (ak ?_)))))
 refine cg (fun (i : {i : Nat // i ≤ d.many}) => live [(0, Ty.ptr 1000 0), (4, Ty.int .i64 d.levels), (10, Ty.ptr 11 0), (11, Ty.ptr 12 0), (12, Ty.ptr 13 0), (13, Ty.ptr 14 0), (15, Ty.int .i64 (d.many : Nat)), (56, Ty.int .i64 (d.many : Nat)), (57, Ty.int .i64 (i.1 : Nat))] [(11, Cont.cells 27 [Ty.int .i64 0, Ty.ex (.slice none 0 0), Ty.ex (.slice none 0 0), Ty.ex (.slice none 0 0)]), (12, Cont.cells 30 [Ty.ex (.slice none 0 0), Ty.ex (.slice none 0 0)]), (13, Cont.cells 27 [Ty.int .i64 d.D, Ty.row dO 39 49 d.gP, Ty.row cR 41 175 (d.ms i.1).1.1, Ty.ex (.slice none 0 0)]), (14, Cont.cells 30 [Ty.row cS 3 40 d.first, Ty.row cS 3 180 (d.ms i.1).1.2]), (1000, Cont.cells 149 (cX (d.ms i.1).2))]) (fun i => d.many - i.1) (⟨0, by omega⟩) ?_ fun i => ?_
 ·(refine dG.mk' ?_ ?_ <;> (repeat' (first | exact aI | exact aJ | exact dS | refine aB ?_ (Ty.aU _) | refine aB ?_ (Ty.aE _) | refine aF rfl (Cont.aE _) ?_ | refine aF rfl (Cont.dV ?_) ?_ | refine bu ?_ (Ty.aE _) | refine bu ?_ ?_)))
  all_goals first | exact Ty.au (congrArg (fun p => p.2.mixed) (G5 d)) | exact Ty.au (congrArg (fun p => p.2.taken) (G5 d)) | exact Ty.hH (congrArg (fun p => p.2.grain) (G5 d)) | exact mD (congrArg (fun p => p.1.1) (G5 d)).symm | exact mD (congrArg (fun p => p.1.2) (G5 d)).symm
 have hi := i.2
 have hP := d.sv hd i.1 hi
 have e1 := hP.len1
 have e2 := hP.len2
 have e3 := hP.taken
 have e4 := d.zS (d.ms i.1).2
 have e5 := cr (d.qg (d.ms i.1).2)
 have e6 := cT (d.qg (d.ms i.1).2) 40
 have e7 := cr (d.ms i.1).2
 have e8 := cr (aY (d.ms i.1).2)
 refine aG (aA (bF rfl rfl rfl (aD (aC (aG ?_)))))
 refine aq rfl (fun hc2 => ?_) (fun hc2 => ?_)
 ·
  refine aj (aC (aG (ak (aG (aA (bQ rfl (cE rfl (aD (aC ?_)))))))))
  refine aG ?_
  have hdv := xO (D := d.D) (i := i.1) (n := d.many) hD.1 (by omega)
  have hmul : 0 ≤ (i.1 : Int) * d.D ∧ (i.1 : Int) * d.D ≤ 10 * 5 := ⟨Int.mul_nonneg (by omega) (by omega), Int.mul_le_mul (by omega) hD.2 (by omega) (by omega)⟩
  have hday : 0 ≤ d.day i.1 ∧ d.day i.1 < d.D := by unfold Md.day; exact hdv.1
  have hCI : ∀ (b t : Int), 0 ≤ b → b.toNat < d.first.length → 0 ≤ cz (d.yd (d.ms i.1).1.1) (d.am (d.ms i.1).1.2) b t ∧ cz (d.yd (d.ms i.1).1.1) (d.am (d.ms i.1).1.2) b t ≤ 300 := fun b t g0 g1 => by
   have := hP.cont b.toNat t (by omega)
   rwa [Int.toNat_of_nonneg g0] at this
  refine cW mixed rfl (bQ rfl ?_)
  refine aK rfl rfl rfl rfl rfl (by decide) ?_
  refine aS rfl rfl (by decide) rfl rfl rfl ?_
  refine E6 rfl rfl (by omega) (by omega) ?_
  refine bQ rfl ?_
  refine OH rfl rfl (by omega) ?_
  refine oV rfl ?_
  refine aK rfl rfl rfl rfl rfl (by decide) ?_
  refine aS rfl rfl (by decide) rfl rfl rfl ?_
  refine nF rfl rfl rfl ?_
  refine iB rfl rfl (by omega) (by omega) ?_
  refine bk [(1000, 1000)] [] [(1000, Cont.cells 149 (cX (aY (d.ms i.1).2)))] (vn (d.ms i.1).2 ⟨by omega, by omega⟩ (-1) ((d.gP.length : Int) - 1) (by omega) (by omega)) rfl rfl (by repeat (first | exact bD | refine aH ?_ ?_ | exact dU List.mem_cons_self | exact aN rfl rfl)) (b8 (a := 1000) (b := 1000) (by exact List.mem_cons_self) rfl (bA (by exact List.mem_cons_self) rfl rfl rfl) pre_nil) (bG (a := 1000) (b := 1000) (by exact List.mem_cons_self) rfl (bA (by exact List.mem_cons_self) rfl rfl rfl) post_nil) (aN rfl rfl) ?_
  refine oV rfl ?_
  refine aK rfl rfl rfl rfl rfl (by decide) ?_
  refine aS rfl rfl (by decide) rfl rfl rfl ?_
  refine nF rfl rfl rfl ?_
  refine iB rfl rfl (by omega) (by omega) ?_
  refine bk [(1000, 1000)] [] [(1000, Cont.cells 149 (cX (aY (aY (d.ms i.1).2))))] (vn (aY (d.ms i.1).2) ⟨by omega, by omega⟩ (-1) ((d.gP.length : Int) - 1) (by omega) (by omega)) rfl rfl (by repeat (first | exact bD | refine aH ?_ ?_ | exact dU List.mem_cons_self | exact aN rfl rfl)) (b8 (a := 1000) (b := 1000) (by exact List.mem_cons_self) rfl (bA (by exact List.mem_cons_self) rfl rfl rfl) pre_nil) (bG (a := 1000) (b := 1000) (by exact List.mem_cons_self) rfl (bA (by exact List.mem_cons_self) rfl rfl rfl) post_nil) (aN rfl rfl) ?_
  refine dB rfl rfl (by exact List.cons_ne_nil _ _) rfl (by repeat (first | exact (aX.nil : aX _ _ [] _) | (show aX _ _ ((_, _) :: _) _; apply aX.one; (· exact (rfl : _ = Ty.int _ _)); (· exact rfl)))) (by exact rfl) ?_
  refine b9 rfl (by exact List.cons_ne_nil _ _) rfl ?_
  refine bp rfl rfl (by decide) rfl rfl rfl rfl rfl rfl ?_
  refine aD ?_
  refine ⟨by kernel_rfl, ?_⟩
  refine aC ?_
  refine k7 (J := live [(0, Ty.ptr 1000 0), (4, Ty.int .i64 d.levels), (10, Ty.ptr 11 0), (11, Ty.ptr 12 0), (12, Ty.ptr 13 0), (13, Ty.ptr 14 0), (15, Ty.int .i64 (d.many : Nat)), (56, Ty.int .i64 (d.many : Nat)), (57, Ty.int .i64 (i.1 : Nat)), (17, Ty.ptr 18 0)] [(11, Cont.cells 27 [Ty.int .i64 0, Ty.ex (.slice none 0 0), Ty.ex (.slice none 0 0), Ty.ex (.slice none 0 0)]), (12, Cont.cells 30 [Ty.ex (.slice none 0 0), Ty.ex (.slice none 0 0)]), (13, Cont.cells 27 [Ty.int .i64 d.D, Ty.row dO 39 49 d.gP, Ty.row cR 41 175 (d.ms i.1).1.1, Ty.ex (.slice none 0 0)]), (14, Cont.cells 30 [Ty.row cS 3 40 d.first, Ty.row cS 3 180 (d.ms i.1).1.2]), (18, Cont.cells 41 [Ty.int .i64 (d.day i.1), Ty.int .i64 (d.src (d.ms i.1).2), Ty.int .i64 (d.dst (d.ms i.1).2), Ty.int .i64 0, Ty.int .i64 0]), (1000, Cont.cells 149 (cX (d.qg (d.ms i.1).2)))]) ?_ ?_
  ·
   refine aG ?_
   refine fV (tg := 18) rfl (Cont.dY (l' := [Ty.int .i64 (d.day i.1), Ty.int .i64 (d.vH (d.ms i.1).2), Ty.int .i64 (d.vG (d.ms i.1).2), Ty.int .i64 0, Ty.int .i64 0]) ⟨Ty.au (by unfold Md.day; exact IntWalk.i64_in _ (by have := hdv.1; omega)), Ty.au (by unfold Md.vH; rw [b2]), Ty.au (by unfold Md.vG; rw [b2]), Ty.aE _, Ty.aE _, trivial⟩) ?_
   refine c9 (B := live [(0, Ty.ptr 1000 0), (4, Ty.int .i64 d.levels), (10, Ty.ptr 11 0), (11, Ty.ptr 12 0), (12, Ty.ptr 13 0), (13, Ty.ptr 14 0), (15, Ty.int .i64 (d.many : Nat)), (56, Ty.int .i64 (d.many : Nat)), (57, Ty.int .i64 (i.1 : Nat)), (17, Ty.ptr 18 0)] [(11, Cont.cells 27 [Ty.int .i64 0, Ty.ex (.slice none 0 0), Ty.ex (.slice none 0 0), Ty.ex (.slice none 0 0)]), (12, Cont.cells 30 [Ty.ex (.slice none 0 0), Ty.ex (.slice none 0 0)]), (13, Cont.cells 27 [Ty.int .i64 d.D, Ty.row dO 39 49 d.gP, Ty.row cR 41 175 (d.ms i.1).1.1, Ty.ex (.slice none 0 0)]), (14, Cont.cells 30 [Ty.row cS 3 40 d.first, Ty.row cS 3 180 (d.ms i.1).1.2]), (18, Cont.cells 41 [Ty.int .i64 (d.day i.1), Ty.int .i64 (d.vH (d.ms i.1).2), Ty.int .i64 (d.vG (d.ms i.1).2), Ty.int .i64 0, Ty.int .i64 0]), (1000, Cont.cells 149 (cX (aY (aY (d.ms i.1).2))))]) ?_ ?_
   ·refine dG.mk' ?_ ?_
    ·(repeat (first | refine aB ?_ (Ty.aU _) | refine aB ?_ (Ty.aE _))); exact aI
    refine aF rfl (Cont.aE _) ?_; refine aF rfl (Cont.aE _) ?_; refine aF rfl (Cont.aE _) ?_; refine aF rfl (Cont.aE _) ?_; refine aF rfl (Cont.aE _) ?_; refine aF rfl (Cont.aE _) ?_; exact aJ
   refine aA ?_
   refine aK rfl rfl rfl rfl rfl (by decide) ?_
   refine aS rfl rfl (by decide) rfl rfl rfl ?_
   refine aK rfl rfl rfl rfl rfl (by decide) ?_
   refine aS rfl rfl (by decide) rfl rfl rfl ?_
   refine bF rfl rfl rfl (aD (aC ?_))
   refine aq rfl (fun hc3 => ?_) (fun hc3 => ?_)
   ·
    refine aA (oV rfl ?_)
    refine aK rfl rfl rfl rfl rfl (by decide) ?_
    refine aS rfl rfl (by decide) rfl rfl rfl ?_
    refine nF rfl rfl rfl ?_
    refine bk [(1000, 1000)] [] [(1000, Cont.cells 149 (cX (aY (aY (aY (d.ms i.1).2)))))] (iV (aY (aY (d.ms i.1).2)) ⟨by omega, by omega⟩ _) rfl rfl (by repeat (first | exact bD | refine aH ?_ ?_ | exact dU List.mem_cons_self | exact aN rfl rfl)) (b8 (a := 1000) (b := 1000) (by exact List.mem_cons_self) rfl (bA (by exact List.mem_cons_self) rfl rfl rfl) pre_nil) (bG (a := 1000) (b := 1000) (by exact List.mem_cons_self) rfl (bA (by exact List.mem_cons_self) rfl rfl rfl) post_nil) (aN rfl rfl) ?_
    refine aK rfl rfl rfl rfl rfl (by decide) ?_
    refine cq rfl rfl (by decide) rfl rfl (by exact (rfl : _ = Ty.int _ _)) rfl (by exact Nat.le_of_ble_eq_true rfl) rfl rfl (by exact rfl) ?_
    refine aK rfl rfl rfl rfl rfl (by decide) ?_
    refine cq rfl rfl (by decide) rfl rfl (by exact (rfl : _ = Ty.int _ _)) rfl (by exact Nat.le_of_ble_eq_true rfl) rfl rfl (by exact rfl) ?_
    refine aD (fJ ?_)
    (refine dG.mk' ?_ ?_ <;> (repeat' (first | exact aI | exact aJ | exact dS | refine aB ?_ (Ty.aU _) | refine aB ?_ (Ty.aE _) | refine aF rfl (Cont.aE _) ?_ | refine aF rfl (Cont.dV ?_) ?_ | refine bu ?_ (Ty.aE _) | refine bu ?_ ?_)))
    all_goals first | exact Ty.au (BA hc3).1.1 | exact Ty.au (by rw [b2]; exact (BA hc3).1.2) | exact Ty.au (congrArg (fun p => p.mixed) (BA hc3).2) | exact Ty.au (congrArg (fun p => p.taken) (BA hc3).2) | exact Ty.hH (congrArg (fun p => p.grain) (BA hc3).2)
   refine aj (fJ ?_)
   (refine dG.mk' ?_ ?_ <;> (repeat' (first | exact aI | exact aJ | exact dS | refine aB ?_ (Ty.aU _) | refine aB ?_ (Ty.aE _) | refine aF rfl (Cont.aE _) ?_ | refine aF rfl (Cont.dV ?_) ?_ | refine bu ?_ (Ty.aE _) | refine bu ?_ ?_)))
   all_goals first | exact Ty.au (BY hc3).1.1 | exact Ty.au (BY hc3).1.2 | exact Ty.au (congrArg (fun p => p.mixed) (BY hc3).2) | exact Ty.au (congrArg (fun p => p.taken) (BY hc3).2) | exact Ty.hH (congrArg (fun p => p.grain) (BY hc3).2)
  refine aG (aA (oV rfl ?_))
  refine bk [(1000, 1000)] [] [(1000, Cont.cells 149 (cX (aY (d.qg (d.ms i.1).2))))] (iV (d.qg (d.ms i.1).2) ⟨by omega, by omega⟩ 40) rfl rfl (by repeat (first | exact bD | refine aH ?_ ?_ | exact dU List.mem_cons_self | exact aN rfl rfl)) (b8 (a := 1000) (b := 1000) (by exact List.mem_cons_self) rfl (bA (by exact List.mem_cons_self) rfl rfl rfl) pre_nil) (bG (a := 1000) (b := 1000) (by exact List.mem_cons_self) rfl (bA (by exact List.mem_cons_self) rfl rfl rfl) post_nil) (aN rfl rfl) ?_
  refine cE rfl (aD (aC ?_))
  refine k7 (J := live [(0, Ty.ptr 1000 0), (4, Ty.int .i64 d.levels), (10, Ty.ptr 11 0), (11, Ty.ptr 12 0), (12, Ty.ptr 13 0), (13, Ty.ptr 14 0), (15, Ty.int .i64 (d.many : Nat)), (56, Ty.int .i64 (d.many : Nat)), (57, Ty.int .i64 (i.1 : Nat)), (17, Ty.ptr 18 0), (18, Ty.int .i64 (l8 (d.yd (d.ms i.1).1.1) (d.am (d.ms i.1).1.2) (d.mv (d.ms i.1).2 i.1) (bZ (d.qg (d.ms i.1).2) 40)))] [(11, Cont.cells 27 [Ty.int .i64 0, Ty.ex (.slice none 0 0), Ty.ex (.slice none 0 0), Ty.ex (.slice none 0 0)]), (12, Cont.cells 30 [Ty.ex (.slice none 0 0), Ty.ex (.slice none 0 0)]), (13, Cont.cells 27 [Ty.int .i64 d.D, Ty.row dO 39 49 d.gP, Ty.row cR 41 175 (d.ms i.1).1.1, Ty.ex (.slice none 0 0)]), (14, Cont.cells 30 [Ty.row cS 3 40 d.first, Ty.row cS 3 180 (d.ms i.1).1.2]), (18, Cont.cells 41 [Ty.int .i64 (d.day i.1), Ty.int .i64 (d.src (d.ms i.1).2), Ty.int .i64 (d.dst (d.ms i.1).2), Ty.int .i64 0, Ty.int .i64 0]), (1000, Cont.cells 149 (cX (aY (d.qg (d.ms i.1).2))))]) ?_ ?_
  ·
   refine aG (aA ?_)
   refine aK rfl rfl rfl rfl rfl (by decide) ?_
   refine aS rfl rfl (by decide) rfl rfl rfl ?_
   refine bF rfl rfl rfl (aD (aC ?_))
   refine dM rfl (fun hc4 => ?_) (fun hc4 => ?_)
   ·
    refine aA (bQ rfl ?_)
    refine bS rfl rfl (by decide) rfl rfl (by exact Nat.le_of_ble_eq_true rfl) ?_
    refine bS rfl rfl (by decide) rfl rfl (by exact Nat.le_of_ble_eq_true rfl) ?_
    refine aK rfl rfl rfl rfl rfl (by decide) ?_
    refine aS rfl rfl (by decide) rfl rfl rfl ?_
    refine aK rfl rfl rfl rfl rfl (by decide) ?_
    refine aS rfl rfl (by decide) rfl rfl rfl ?_
    refine dX [49, 175, 40, 180] (iH (d.yd (d.ms i.1).1.1) (d.am (d.ms i.1).1.2) (oo hd hi hP) (d.src (d.ms i.1).2) (d.day i.1) (zx hd hc4 b1).1 (zx hd hc4 b1).2) rfl (aM (gQ (aM (af (bI rfl rfl)) (aM (af (fL rfl)) (aM (af (fL rfl)) (aM (af pL) bf))))) (aM (gQ (aM (af (fL rfl)) (aM (af (fL rfl)) bf))) (aM (af (bI rfl rfl)) (aM (af (bI rfl rfl)) bf)))) (by exact dL _ _) ?_
    refine uV rfl rfl (cE rfl (aD (fJ ?_)))
    (refine dG.mk' ?_ ?_ <;> (repeat' (first | exact aI | exact aJ | refine aB ?_ (Ty.aU _) | refine aB ?_ (Ty.aE _) | refine aF rfl (Cont.aE _) ?_ | refine aB ?_ ?_)))
    all_goals exact Ty.au (MG hc4)
   refine aj (fJ ?_)
   (refine dG.mk' ?_ ?_ <;> (repeat' (first | exact aI | exact aJ | refine aB ?_ (Ty.aU _) | refine aB ?_ (Ty.aE _) | refine aF rfl (Cont.aE _) ?_ | refine aB ?_ ?_)))
   all_goals exact Ty.au (Nm hc4)
  refine k7 (J := live [(0, Ty.ptr 1000 0), (4, Ty.int .i64 d.levels), (10, Ty.ptr 11 0), (11, Ty.ptr 12 0), (12, Ty.ptr 13 0), (13, Ty.ptr 14 0), (15, Ty.int .i64 (d.many : Nat)), (56, Ty.int .i64 (d.many : Nat)), (57, Ty.int .i64 (i.1 : Nat)), (17, Ty.ptr 18 0), (18, Ty.int .i64 (m8 (d.yd (d.ms i.1).1.1) (d.am (d.ms i.1).1.2) (d.mv (d.ms i.1).2 i.1) (l8 (d.yd (d.ms i.1).1.1) (d.am (d.ms i.1).1.2) (d.mv (d.ms i.1).2 i.1) (bZ (d.qg (d.ms i.1).2) 40))))] [(11, Cont.cells 27 [Ty.int .i64 0, Ty.ex (.slice none 0 0), Ty.ex (.slice none 0 0), Ty.ex (.slice none 0 0)]), (12, Cont.cells 30 [Ty.ex (.slice none 0 0), Ty.ex (.slice none 0 0)]), (13, Cont.cells 27 [Ty.int .i64 d.D, Ty.row dO 39 49 d.gP, Ty.row cR 41 175 (d.ms i.1).1.1, Ty.ex (.slice none 0 0)]), (14, Cont.cells 30 [Ty.row cS 3 40 d.first, Ty.row cS 3 180 (d.ms i.1).1.2]), (18, Cont.cells 41 [Ty.int .i64 (d.day i.1), Ty.int .i64 (d.src (d.ms i.1).2), Ty.int .i64 (d.dst (d.ms i.1).2), Ty.int .i64 0, Ty.int .i64 0]), (1000, Cont.cells 149 (cX (aY (d.qg (d.ms i.1).2))))]) ?_ ?_
  ·
   refine aG (aA ?_)
   refine aK rfl rfl rfl rfl rfl (by decide) ?_
   refine aS rfl rfl (by decide) rfl rfl rfl ?_
   refine bF rfl rfl rfl (aD (aC ?_))
   refine dM rfl (fun hc5 => ?_) (fun hc5 => ?_)
   ·
    have hq := hCI (d.dst (d.ms i.1).2) (d.day i.1 + 1) (AF hd hc5 b1).1 (AF hd hc5 b1).2
    refine aA (bQ rfl ?_)
    refine bS rfl rfl (by decide) rfl rfl (by exact Nat.le_of_ble_eq_true rfl) ?_
    refine bS rfl rfl (by decide) rfl rfl (by exact Nat.le_of_ble_eq_true rfl) ?_
    refine aK rfl rfl rfl rfl rfl (by decide) ?_
    refine aS rfl rfl (by decide) rfl rfl rfl ?_
    refine aK rfl rfl rfl rfl rfl (by decide) ?_
    refine aS rfl rfl (by decide) rfl rfl rfl ?_
    refine cD rfl rfl (by omega) (by omega) ?_
    refine dX [49, 175, 40, 180] (iH (d.yd (d.ms i.1).1.1) (d.am (d.ms i.1).1.2) (oo hd hi hP) (d.dst (d.ms i.1).2) (d.day i.1 + 1) (AF hd hc5 b1).1 (AF hd hc5 b1).2) rfl (aM (gQ (aM (af (bI rfl rfl)) (aM (af (fL rfl)) (aM (af (fL rfl)) (aM (af pL) bf))))) (aM (gQ (aM (af (fL rfl)) (aM (af (fL rfl)) bf))) (aM (af (bI rfl rfl)) (aM (af (bI rfl rfl)) bf)))) (by exact dL _ _) ?_
    refine iB rfl rfl (by omega) (by omega) ?_
    refine uV rfl rfl (cE rfl (aD (fJ ?_)))
    (refine dG.mk' ?_ ?_ <;> (repeat' (first | exact aI | exact aJ | refine aB ?_ (Ty.aU _) | refine aB ?_ (Ty.aE _) | refine aF rfl (Cont.aE _) ?_ | refine aB ?_ ?_)))
    all_goals exact Ty.au (ME hc5)
   refine aj (fJ ?_)
   (refine dG.mk' ?_ ?_ <;> (repeat' (first | exact aI | exact aJ | refine aB ?_ (Ty.aU _) | refine aB ?_ (Ty.aE _) | refine aF rfl (Cont.aE _) ?_ | refine aB ?_ ?_)))
   all_goals exact Ty.au (OA hc5)
  refine aG (aG (aA ?_))
  refine aK rfl rfl rfl rfl rfl (by decide) ?_
  refine aS rfl rfl (by decide) rfl rfl rfl ?_
  refine nF rfl rfl rfl (bQ rfl (aD (aC (ak ?_))))
  refine cg (fun (k : {k : Nat // k ≤ (d.ms i.1).1.1.length}) => live [(0, Ty.ptr 1000 0), (4, Ty.int .i64 d.levels), (10, Ty.ptr 11 0), (11, Ty.ptr 12 0), (12, Ty.ptr 13 0), (13, Ty.ptr 14 0), (15, Ty.int .i64 (d.many : Nat)), (56, Ty.int .i64 (d.many : Nat)), (57, Ty.int .i64 (i.1 : Nat)), (17, Ty.ptr 18 0), (18, Ty.int .i64 (mV (d.yd (d.ms i.1).1.1) (d.am (d.ms i.1).1.2) (d.mv (d.ms i.1).2 i.1) (m8 (d.yd (d.ms i.1).1.1) (d.am (d.ms i.1).1.2) (d.mv (d.ms i.1).2 i.1) (l8 (d.yd (d.ms i.1).1.1) (d.am (d.ms i.1).1.2) (d.mv (d.ms i.1).2 i.1) (bZ (d.qg (d.ms i.1).2) 40))) k.1)), (120, Ty.row cR 41 175 (d.ms i.1).1.1), (121, Ty.int .i64 (d.ms i.1).1.1.length), (122, Ty.int .i64 (k.1 : Nat))] [(11, Cont.cells 27 [Ty.int .i64 0, Ty.ex (.slice none 0 0), Ty.ex (.slice none 0 0), Ty.ex (.slice none 0 0)]), (12, Cont.cells 30 [Ty.ex (.slice none 0 0), Ty.ex (.slice none 0 0)]), (13, Cont.cells 27 [Ty.int .i64 d.D, Ty.row dO 39 49 d.gP, Ty.row cR 41 175 (d.ms i.1).1.1, Ty.ex (.slice none 0 0)]), (14, Cont.cells 30 [Ty.row cS 3 40 d.first, Ty.row cS 3 180 (d.ms i.1).1.2]), (18, Cont.cells 41 [Ty.int .i64 (d.day i.1), Ty.int .i64 (d.src (d.ms i.1).2), Ty.int .i64 (d.dst (d.ms i.1).2), Ty.int .i64 0, Ty.int .i64 0]), (1000, Cont.cells 149 (cX (aY (d.qg (d.ms i.1).2))))]) (fun k => (d.ms i.1).1.1.length - k.1) (⟨0, by omega⟩) ?_ fun k => ?_
  ·(refine dG.mk' ?_ ?_ <;> (repeat' (first | exact aI | exact aJ | refine aB ?_ (Ty.aU _) | refine aB ?_ (Ty.aE _) | refine aF rfl (Cont.aE _) ?_ | refine aB ?_ ?_)))
   all_goals exact Ty.au Oa
  have hk := k.2
  refine aG (aA (bF rfl rfl rfl (aD (aC (aG ?_)))))
  refine aq rfl (fun hc6 => ?_) (fun hc6 => ?_)
  ·
   refine aj (aC (aG (ak (aG (aA (bQ rfl ?_))))))
   refine rV rfl rfl rfl rfl rfl rfl (by omega) ?_
   refine D9 rfl rfl rfl (by exact Nat.le_of_ble_eq_true rfl) ?_
   refine b9 rfl (by exact List.cons_ne_nil _ _) rfl ?_
   refine cE rfl ?_
   refine bp rfl rfl (by decide) rfl rfl rfl rfl rfl rfl ?_
   refine aD (aC (aG (aA ?_)))
   refine aK rfl rfl rfl rfl rfl (by decide) ?_
   refine aS rfl rfl (by decide) rfl rfl rfl ?_
   refine aK rfl rfl rfl rfl rfl (by decide) ?_
   refine aS rfl rfl (by decide) rfl rfl rfl ?_
   refine bF rfl rfl rfl (g8 rfl ?_)
   apply aT (s := 132) rfl rfl rfl
   ·intro hg; apply aV; (refine aK rfl rfl rfl rfl rfl (by decide) ?_); refine aD ?_; exact rfl
   ·exact rfl
   ·exact rfl
   apply aT (s := 132) rfl rfl rfl
   ·intro hg; apply aR (s := 133) rfl (by (rw [hg]; rfl)); apply aV; (refine aS rfl rfl (by decide) rfl rfl rfl ?_); refine aD ?_; exact rfl
   ·exact rfl
   ·exact rfl
   apply aT (s := 132) rfl rfl rfl
   ·intro hg; apply aV; (refine aK rfl rfl rfl rfl rfl (by decide) ?_); refine aD ?_; exact rfl
   ·exact rfl
   ·exact rfl
   apply aT (s := 132) rfl rfl rfl
   ·intro hg; apply aR (s := 135) rfl (by (rw [hg]; rfl)); apply aV; (refine aS rfl rfl (by decide) rfl rfl rfl ?_); refine aD ?_; exact rfl
   ·exact rfl
   ·exact rfl
   apply aT (s := 132) rfl rfl rfl
   ·intro hg; apply aR (s := 134) rfl (by (rw [hg]; rfl)); apply aR (s := 136) rfl (by (rw [hg]; rfl)); apply aV; (refine bF rfl rfl rfl ?_); refine aD ?_; exact rfl
   ·exact rfl
   ·exact rfl
   refine eX rfl rfl (g8 rfl ?_)
   apply aT (s := 139) rfl rfl rfl
   ·intro hg; apply aV; (refine aK rfl rfl rfl rfl rfl (by decide) ?_); refine aD ?_; exact rfl
   ·exact rfl
   ·exact rfl
   apply aT (s := 139) rfl rfl rfl
   ·intro hg; apply aR (s := 140) rfl (by (rw [hg]; rfl)); apply aV; (refine aS rfl rfl (by decide) rfl rfl rfl ?_); refine aD ?_; exact rfl
   ·exact rfl
   ·exact rfl
   apply aT (s := 139) rfl rfl rfl
   ·intro hg; apply aR (s := 141) rfl (by (rw [hg]; rfl)); apply aV; (refine bF rfl rfl rfl ?_); refine aD ?_; exact rfl
   ·exact rfl
   ·exact rfl
   refine eX rfl rfl (aD (aC ?_))
   refine cx rfl (fun hc7 => ?_) (fun hc7 => ?_)
   ·
    have hsr := zx hd (MZ (y := (d.yd (d.ms i.1).1.1)) (m := (d.mv (d.ms i.1).2 i.1)) hc7) b1
    have hq := hCI (d.src (d.ms i.1).2) (d.day i.1) hsr.1 hsr.2
    have hmk := hP.num _ (cL (show k.1 < (d.ms i.1).1.2.length by omega))
    refine cW mixed rfl (bQ rfl ?_)
    refine bS rfl rfl (by decide) rfl rfl (by exact Nat.le_of_ble_eq_true rfl) ?_
    refine bS rfl rfl (by decide) rfl rfl (by exact Nat.le_of_ble_eq_true rfl) ?_
    refine aK rfl rfl rfl rfl rfl (by decide) ?_
    refine aS rfl rfl (by decide) rfl rfl rfl ?_
    refine aK rfl rfl rfl rfl rfl (by decide) ?_
    refine aS rfl rfl (by decide) rfl rfl rfl ?_
    refine dX [49, 175, 40, 180] (iH (d.yd (d.ms i.1).1.1) (d.am (d.ms i.1).1.2) (oo hd hi hP) (d.src (d.ms i.1).2) (d.day i.1) hsr.1 hsr.2) rfl (aM (gQ (aM (af (bI rfl rfl)) (aM (af (fL rfl)) (aM (af (fL rfl)) (aM (af pL) bf))))) (aM (gQ (aM (af (fL rfl)) (aM (af (fL rfl)) bf))) (aM (af (bI rfl rfl)) (aM (af (bI rfl rfl)) bf)))) (by exact dL _ _) ?_
    refine aK rfl rfl rfl rfl rfl (by decide) ?_
    refine aS rfl rfl (by decide) rfl rfl rfl ?_
    refine bQ rfl ?_
    refine rV rfl rfl rfl rfl rfl rfl (by omega) ?_
    refine y4 rfl rfl rfl rfl ?_
    refine iB rfl rfl (by omega) (by omega) ?_
    refine uV rfl rfl (cE rfl (aD ?_))
    refine ⟨by kernel_rfl, ?_⟩
    refine bX (aC (aA ?_))
    refine cD rfl rfl (by omega) (by omega) ?_
    refine bQ rfl (aD ?_)
    refine bl (⟨k.1 + 1, by omega⟩) ?_ (by show (d.ms i.1).1.1.length - (k.1 + 1) < (d.ms i.1).1.1.length - k.1; omega)
    (refine dG.mk' ?_ ?_ <;> (repeat' (first | exact aI | exact aJ | refine aB ?_ (Ty.aU _) | refine aB ?_ (Ty.aE _) | refine aF rfl (Cont.aE _) ?_ | refine aB ?_ ?_)))
    all_goals skip
    all_goals exact Ty.au (NQ (y := (d.yd (d.ms i.1).1.1)) (a := (d.am (d.ms i.1).1.2)) (m := (d.mv (d.ms i.1).2 i.1)) hc7)
   refine aj (bX (aC (aA ?_)))
   refine cD rfl rfl (by omega) (by omega) ?_
   refine bQ rfl (aD ?_)
   refine bl (⟨k.1 + 1, by omega⟩) ?_ (by show (d.ms i.1).1.1.length - (k.1 + 1) < (d.ms i.1).1.1.length - k.1; omega)
   (refine dG.mk' ?_ ?_ <;> (repeat' (first | exact aI | exact aJ | refine aB ?_ (Ty.aU _) | refine aB ?_ (Ty.aE _) | refine aF rfl (Cont.aE _) ?_ | refine aB ?_ ?_)))
   all_goals skip
   all_goals exact Ty.au (N6 (y := (d.yd (d.ms i.1).1.1)) (a := (d.am (d.ms i.1).1.2)) (m := (d.mv (d.ms i.1).2 i.1)) hc7)
  refine cZ (aQ (aQ (ay rfl (aC (aG ?_)))))
  obtain ⟨k, hk⟩ := k
  obtain rfl : k = (d.ms i.1).1.1.length := by have h1 : ¬ (k : Int) < ((d.ms i.1).1.1.length : Int) := hc6; have h2 : k ≤ (d.ms i.1).1.1.length := hk; omega
  refine c9 (B := live [(0, Ty.ptr 1000 0), (4, Ty.int .i64 d.levels), (10, Ty.ptr 11 0), (11, Ty.ptr 12 0), (12, Ty.ptr 13 0), (13, Ty.ptr 14 0), (15, Ty.int .i64 (d.many : Nat)), (56, Ty.int .i64 (d.many : Nat)), (57, Ty.int .i64 (i.1 : Nat)), (17, Ty.ptr 18 0), (18, Ty.int .i64 (mV (d.yd (d.ms i.1).1.1) (d.am (d.ms i.1).1.2) (d.mv (d.ms i.1).2 i.1) (m8 (d.yd (d.ms i.1).1.1) (d.am (d.ms i.1).1.2) (d.mv (d.ms i.1).2 i.1) (l8 (d.yd (d.ms i.1).1.1) (d.am (d.ms i.1).1.2) (d.mv (d.ms i.1).2 i.1) (bZ (d.qg (d.ms i.1).2) 40))) (d.yd (d.ms i.1).1.1).moves.length))] [(11, Cont.cells 27 [Ty.int .i64 0, Ty.ex (.slice none 0 0), Ty.ex (.slice none 0 0), Ty.ex (.slice none 0 0)]), (12, Cont.cells 30 [Ty.ex (.slice none 0 0), Ty.ex (.slice none 0 0)]), (13, Cont.cells 27 [Ty.int .i64 d.D, Ty.row dO 39 49 d.gP, Ty.row cR 41 175 (d.ms i.1).1.1, Ty.ex (.slice none 0 0)]), (14, Cont.cells 30 [Ty.row cS 3 40 d.first, Ty.row cS 3 180 (d.ms i.1).1.2]), (18, Cont.cells 41 [Ty.int .i64 (d.day i.1), Ty.int .i64 (d.src (d.ms i.1).2), Ty.int .i64 (d.dst (d.ms i.1).2), Ty.int .i64 0, Ty.int .i64 0]), (1000, Cont.cells 149 (cX (aY (d.qg (d.ms i.1).2))))]) ?_ ?_
  ·(refine dG.mk' ?_ ?_ <;> (repeat' (first | exact aI | exact aJ | refine aB ?_ (Ty.aU _) | refine aB ?_ (Ty.aE _) | refine aF rfl (Cont.aE _) ?_)))
  refine aA (bQ rfl ?_)
  refine bS rfl rfl (by decide) rfl rfl (by exact Nat.le_of_ble_eq_true rfl) ?_
  refine bS rfl rfl (by decide) rfl rfl (by exact Nat.le_of_ble_eq_true rfl) ?_
  refine bS rfl rfl (by decide) rfl rfl (by exact Nat.le_of_ble_eq_true rfl) ?_
  refine dX [49, 175, 40, 180] (KE (d.yd (d.ms i.1).1.1) (d.am (d.ms i.1).1.2) (oo hd hi hP) (d.mv (d.ms i.1).2 i.1) (by show -1000000 ≤ d.day i.1 ∧ d.day i.1 ≤ 1000000; omega) (fun g => zx hd g b1)) rfl (aM (gQ (aM (af (bI rfl rfl)) (aM (af (fL rfl)) (aM (af (fL rfl)) (aM (af pL) bf))))) (aM (gQ (aM (af (fL rfl)) (aM (af (fL rfl)) bf))) (aM (af (bI rfl rfl)) bf))) (by exact dL _ _) ?_
  refine uV rfl rfl (ue rfl rfl (cE rfl (aD (aC (aG ?_)))))
  have hnm := d.Gm hd hP
  refine gT (s := 18) rfl (Ty.au (num_eq d (d.ms i.1) i.1)) ?_
  refine c9 (B := live [(0, Ty.ptr 1000 0), (4, Ty.int .i64 d.levels), (10, Ty.ptr 11 0), (11, Ty.ptr 12 0), (12, Ty.ptr 13 0), (13, Ty.ptr 14 0), (15, Ty.int .i64 (d.many : Nat)), (56, Ty.int .i64 (d.many : Nat)), (57, Ty.int .i64 (i.1 : Nat)), (17, Ty.ptr 18 0), (18, Ty.int .i64 (d.num (d.ms i.1) i.1))] [(11, Cont.cells 27 [Ty.int .i64 0, Ty.ex (.slice none 0 0), Ty.ex (.slice none 0 0), Ty.ex (.slice none 0 0)]), (12, Cont.cells 30 [Ty.ex (.slice none 0 0), Ty.ex (.slice none 0 0)]), (13, Cont.cells 27 [Ty.int .i64 d.D, Ty.row dO 39 49 d.gP, Ty.row cR 41 175 (d.ms i.1).1.1, Ty.ex (.slice none 0 0)]), (14, Cont.cells 30 [Ty.row cS 3 40 d.first, Ty.row cS 3 180 (d.ms i.1).1.2]), (18, Cont.cells 41 [Ty.int .i64 (d.day i.1), Ty.int .i64 (d.src (d.ms i.1).2), Ty.int .i64 (d.dst (d.ms i.1).2), Ty.int .i64 0, Ty.int .i64 0]), (1000, Cont.cells 149 (cX (aY (d.qg (d.ms i.1).2))))]) ?_ ?_
  ·(refine dG.mk' ?_ ?_ <;> (repeat' (first | exact aI | exact aJ | refine aB ?_ (Ty.aU _) | refine aB ?_ (Ty.aE _) | refine aF rfl (Cont.aE _) ?_)))
  refine aA (oV rfl (bQ rfl ?_))
  refine bk [(1000, 1000)] [] [(1000, Cont.cells 149 (cX (aY (aY (aY (d.qg (d.ms i.1).2))))))] (D4 (aY (d.qg (d.ms i.1).2)) ⟨by omega, by omega⟩ (d.num (d.ms i.1) i.1) 15 (by omega) (by omega)) rfl rfl (by repeat (first | exact bD | refine aH ?_ ?_ | exact dU List.mem_cons_self | exact aN rfl rfl)) (b8 (a := 1000) (b := 1000) (by exact List.mem_cons_self) rfl (bA (by exact List.mem_cons_self) rfl rfl rfl) pre_nil) (bG (a := 1000) (b := 1000) (by exact List.mem_cons_self) rfl (bA (by exact List.mem_cons_self) rfl rfl rfl) post_nil) (aN rfl rfl) ?_
  refine aK rfl rfl rfl rfl rfl (by decide) ?_
  refine zR (lr := cR.tys (d.full (d.ms i.1) i.1)) rfl rfl (by decide) rfl rfl rfl (by exact Nat.le_of_ble_eq_true rfl) rfl rfl rfl ?_
  refine aD (aC ?_)
  refine c9 (B := live [(0, Ty.ptr 1000 0), (4, Ty.int .i64 d.levels), (10, Ty.ptr 11 0), (11, Ty.ptr 12 0), (12, Ty.ptr 13 0), (13, Ty.ptr 14 0), (15, Ty.int .i64 (d.many : Nat)), (56, Ty.int .i64 (d.many : Nat)), (57, Ty.int .i64 (i.1 : Nat)), (17, Ty.ptr 18 0), (18, Ty.int .i64 (d.num (d.ms i.1) i.1))] [(11, Cont.cells 27 [Ty.int .i64 0, Ty.ex (.slice none 0 0), Ty.ex (.slice none 0 0), Ty.ex (.slice none 0 0)]), (12, Cont.cells 30 [Ty.ex (.slice none 0 0), Ty.ex (.slice none 0 0)]), (13, Cont.cells 27 [Ty.int .i64 d.D, Ty.row dO 39 49 d.gP, Ty.row cR 41 175 (d.ms i.1).1.1, Ty.ex (.slice none 0 0)]), (14, Cont.cells 30 [Ty.row cS 3 40 d.first, Ty.row cS 3 180 (d.ms i.1).1.2]), (18, Cont.cells 41 (cR.tys (d.full (d.ms i.1) i.1))), (1000, Cont.cells 149 (cX (aY (aY (aY (d.qg (d.ms i.1).2))))))]) ?_ ?_
  ·(refine dG.mk' ?_ ?_ <;> (repeat' (first | exact aI | exact aJ | refine aB ?_ (Ty.aU _) | refine aB ?_ (Ty.aE _) | refine aF rfl (Cont.aE _) ?_)))
  refine cW mixed rfl ?_
  refine aK rfl rfl rfl rfl rfl (by decide) ?_
  refine aS rfl rfl (by decide) rfl rfl rfl ?_
  refine bS rfl rfl (by decide) rfl rfl (by exact Nat.le_of_ble_eq_true rfl) ?_
  refine bw (E := cR) (xs := [d.full (d.ms i.1) i.1]) rfl rfl rfl rfl rfl (by decide) (by decide) (by repeat (first | exact (aX.nil : aX _ _ [] _) | (show aX _ _ ((_, _) :: _) _; apply aX.agg; (· exact (rfl : _ = Ty.agg _))))) (by exact rfl) rfl ?_
  refine eN rfl rfl (by decide) rfl rfl rfl rfl rfl rfl (by decide) (by (simp <;> omega)) (by (simp <;> omega)) ?_
  refine aK rfl rfl rfl rfl rfl (by decide) ?_
  refine aS rfl rfl (by decide) rfl rfl rfl ?_
  refine bQ rfl ?_
  refine bw (E := cS) (xs := [d.num (d.ms i.1) i.1]) rfl rfl rfl rfl rfl (by decide) (by decide) (by repeat (first | exact (aX.nil : aX _ _ [] _) | (show aX _ _ ((_, _) :: _) _; apply aX.one; (· exact (rfl : _ = Ty.int _ _)); (· exact rfl)))) (by exact rfl) rfl ?_
  refine eN rfl rfl (by decide) rfl rfl rfl rfl rfl rfl (by decide) (by (simp <;> omega)) (by (simp <;> omega)) ?_
  refine aK rfl rfl rfl rfl rfl (by decide) ?_
  refine cq rfl rfl (by decide) rfl rfl (by exact (rfl : _ = Ty.row _ _ _ _)) rfl (by exact Nat.le_of_ble_eq_true rfl) rfl rfl (by exact rfl) ?_
  refine aK rfl rfl rfl rfl rfl (by decide) ?_
  refine cq rfl rfl (by decide) rfl rfl (by exact (rfl : _ = Ty.row _ _ _ _)) rfl (by exact Nat.le_of_ble_eq_true rfl) rfl rfl (by exact rfl) ?_
  refine aD ?_
  refine ⟨by kernel_rfl, ?_⟩
  refine bX (aC (aA ?_))
  refine cD rfl rfl (by omega) (by omega) ?_
  refine bQ rfl (aD ?_)
  refine bl (⟨i.1 + 1, by omega⟩) ?_ (by show d.many - (i.1 + 1) < d.many - i.1; omega)
  (refine dG.mk' ?_ ?_ <;> (repeat' (first | exact aI | exact aJ | exact dS | refine aB ?_ (Ty.aU _) | refine aB ?_ (Ty.aE _) | refine aF rfl (Cont.aE _) ?_ | refine aF rfl (Cont.dV ?_) ?_ | refine bu ?_ (Ty.aE _) | refine bu ?_ ?_)))
  all_goals skip
  all_goals first | exact Ty.au (congrArg (fun p => p.2.mixed) (HT d _)) | exact Ty.au (congrArg (fun p => p.2.taken) (HT d _)) | exact Ty.hH (congrArg (fun p => p.2.grain) (HT d _)) | exact Ty.gL (congrArg (fun p => p.1.1) (HT d _)) | exact Ty.gL (congrArg (fun p => p.1.2) (HT d _))
 refine cZ (aQ (aQ (ay rfl (aC (aG (aG ?_))))))
 obtain ⟨i, hi⟩ := i
 obtain rfl : i = d.many := by have h1 : ¬ (i : Int) < (d.many : Int) := hc2; have h2 : i ≤ d.many := hi; omega
 have hP := d.sv hd d.many (Nat.le_refl _)
 have e3 := hP.taken
 refine fV (tg := 13) rfl (Cont.dY (l' := [Ty.int .i64 d.D, Ty.row dO 39 49 d.gP, Ty.row cR 41 175 d.fM, Ty.ex (.slice none 0 0)]) ⟨Ty.aE _, Ty.aE _, Ty.gL (by unfold Md.fM; rfl), Ty.aE _, trivial⟩) ?_
 refine fV (tg := 14) rfl (Cont.dY (l' := [Ty.row cS 3 40 d.first, Ty.row cS 3 180 d.bg]) ⟨Ty.aE _, Ty.gL (by unfold Md.bg; rfl), trivial⟩) ?_
 refine iX (tg := 175) [] [(13, Cont.cells 27 [Ty.int .i64 d.D, Ty.row dO 39 49 d.gP, Ty.sl cR d.fM, Ty.ex (.slice none 0 0)])] (by decide) rfl trivial ⟨eP rfl rfl ⟨bP rfl, bP rfl, m9, bP rfl, trivial⟩, trivial⟩ ?_
 refine iX (tg := 40) [] [(14, Cont.cells 30 [Ty.sl cS d.first, Ty.row cS 3 180 d.bg])] (by decide) rfl trivial ⟨eP rfl rfl ⟨m9, bP rfl, trivial⟩, trivial⟩ ?_
 refine iX (tg := 180) [] [(14, Cont.cells 30 [Ty.sl cS d.first, Ty.sl cS d.bg])] (by decide) rfl trivial ⟨eP rfl rfl ⟨bP rfl, m9, trivial⟩, trivial⟩ ?_
 refine gW (c0 := 13) 1 rfl rfl ?_
 refine fV (tg := 13) rfl (Cont.dY (l' := [Ty.int .i64 d.D, Ty.vs 49 d.nb, Ty.sl cR d.fM, Ty.ex (.slice none 0 0)]) ⟨Ty.aE _, Kt b2, Ty.aE _, Ty.aE _, trivial⟩) ?_
 refine c9 (B := live [(0, Ty.ptr 1000 0), (4, Ty.int .i64 d.levels), (10, Ty.ptr 11 0), (11, Ty.ptr 12 0), (12, Ty.ptr 13 0), (13, Ty.ptr 14 0)] [(11, Cont.cells 27 [Ty.int .i64 0, Ty.ex (.slice none 0 0), Ty.ex (.slice none 0 0), Ty.ex (.slice none 0 0)]), (12, Cont.cells 30 [Ty.ex (.slice none 0 0), Ty.ex (.slice none 0 0)]), (13, Cont.cells 27 [Ty.int .i64 d.D, Ty.vs 49 d.nb, Ty.sl cR d.fM, Ty.ex (.slice none 0 0)]), (14, Cont.cells 30 [Ty.sl cS d.first, Ty.sl cS d.bg]), (49, Cont.vec dO 39 d.gP), (1000, Cont.cells 149 (cX (d.ms d.many).2))]) ?_ ?_
 ·(refine dG.mk' ?_ ?_ <;> (repeat' (first | exact aI | exact aJ | refine aB ?_ (Ty.aU _) | refine aB ?_ (Ty.aE _) | refine aF rfl (Cont.aE _) ?_)))
 refine aA ?_
 refine aK rfl rfl rfl rfl rfl (by decide) ?_
 refine aS rfl rfl (by decide) rfl rfl rfl ?_
 refine Be rfl rfl rfl (bQ rfl (aD (aC (ak ?_))))
 refine cg (fun (k : {k : Nat // k ≤ d.nb}) => live [(0, Ty.ptr 1000 0), (4, Ty.int .i64 d.levels), (10, Ty.ptr 11 0), (11, Ty.ptr 12 0), (12, Ty.ptr 13 0), (13, Ty.ptr 14 0), (186, Ty.int .i64 (d.nb : Nat)), (187, Ty.int .i64 (k.1 : Nat))] [(11, Cont.cells 27 [Ty.int .i64 0, Ty.ex (.slice none 0 0), Ty.ex (.slice none 0 0), Ty.ex (.slice none 0 0)]), (12, Cont.cells 30 [Ty.ex (.slice none 0 0), Ty.ex (.slice none 0 0)]), (13, Cont.cells 27 [Ty.int .i64 d.D, Ty.vs 49 d.nb, Ty.sl cR d.fM, Ty.ex (.slice none 0 0)]), (14, Cont.cells 30 [Ty.sl cS d.first, Ty.sl cS d.bg]), (49, Cont.vec dO 39 (d.hs k.1).1), (1000, Cont.cells 149 (cX (d.hs k.1).2))]) (fun k => d.nb - k.1) (⟨0, by omega⟩) ?_ fun k => ?_
 ·(refine dG.mk' ?_ ?_ <;> (repeat' (first | exact aI | exact aJ | exact dS | refine aB ?_ (Ty.aU _) | refine aB ?_ (Ty.aE _) | refine aF rfl (Cont.aE _) ?_ | refine aF rfl (Cont.dV ?_) ?_ | refine bu ?_ ?_ | refine aF rfl ?_ ?_)))
  all_goals first | exact Cont.dW (congrArg Prod.fst (KZ d)) | exact Ty.au (congrArg (fun p => p.2.mixed) (KZ d)) | exact Ty.au (congrArg (fun p => p.2.taken) (KZ d)) | exact Ty.hH (congrArg (fun p => p.2.grain) (KZ d))
 have hk := k.2
 have H := d.yX k.1 hk
 have g1 := H.len
 have g2 := H.taken
 have g3 := cT (d.hs k.1).2 30
 have g4 := (d.vX k.1 (d.D + 1).toNat)
 have g40 := g4.1
 refine aG (aA (bF rfl rfl rfl (aD (aC (aG ?_)))))
 refine aq rfl (fun hc8 => ?_) (fun hc8 => ?_)
 ·
  refine aj (aC (aG (ak (aG (aA (bQ rfl (cE rfl (aD (aC ?_)))))))))
  refine aG (aA (cE rfl (aD (aC (aG (aG (aA ?_)))))))
  refine aK rfl rfl rfl rfl rfl (by decide) ?_
  refine aS rfl rfl (by decide) rfl rfl rfl ?_
  refine cD rfl rfl (by omega) (by omega) ?_
  refine bQ rfl (aD (aC (ak ?_)))
  refine cg (fun (t : {t : Nat // t ≤ (d.D + 1).toNat}) => live [(0, Ty.ptr 1000 0), (4, Ty.int .i64 d.levels), (10, Ty.ptr 11 0), (11, Ty.ptr 12 0), (12, Ty.ptr 13 0), (13, Ty.ptr 14 0), (21, Ty.int .i64 (k.1 : Nat)), (22, Ty.int .i64 (d.most k.1 t.1)), (186, Ty.int .i64 (d.nb : Nat)), (187, Ty.int .i64 (k.1 : Nat)), (192, Ty.int .i64 (d.D + 1)), (193, Ty.int .i64 (t.1 : Nat))] [(11, Cont.cells 27 [Ty.int .i64 0, Ty.ex (.slice none 0 0), Ty.ex (.slice none 0 0), Ty.ex (.slice none 0 0)]), (12, Cont.cells 30 [Ty.ex (.slice none 0 0), Ty.ex (.slice none 0 0)]), (13, Cont.cells 27 [Ty.int .i64 d.D, Ty.vs 49 d.nb, Ty.sl cR d.fM, Ty.ex (.slice none 0 0)]), (14, Cont.cells 30 [Ty.sl cS d.first, Ty.sl cS d.bg]), (49, Cont.vec dO 39 (d.hs k.1).1), (1000, Cont.cells 149 (cX (d.hs k.1).2))]) (fun t => (d.D + 1).toNat - t.1) (⟨0, by omega⟩) ?_ fun t => ?_
  ·(refine dG.mk' ?_ ?_ <;> (repeat' (first | exact aI | exact aJ | refine aB ?_ (Ty.aU _) | refine aB ?_ (Ty.aE _) | refine aF rfl (Cont.aE _) ?_ | refine aB ?_ ?_)))
   all_goals exact Ty.au (Mv d _)
  have ht := t.2
  refine aG (aA (bF rfl rfl rfl (aD (aC (aG ?_)))))
  refine aq rfl (fun hc9 => ?_) (fun hc9 => ?_)
  ·
   refine aj (aC (aG (ak (aG (aA (bQ rfl (cE rfl (aD (aC ?_)))))))))
   refine aA (bQ rfl ?_)
   refine bS rfl rfl (by decide) rfl rfl (by exact Nat.le_of_ble_eq_true rfl) ?_
   refine bS rfl rfl (by decide) rfl rfl (by exact Nat.le_of_ble_eq_true rfl) ?_
   refine bQ rfl (bQ rfl ?_)
   refine dX [49] (iH ⟨d.D, (d.hs k.1).1, d.fM, []⟩ d.real (w7 hd) ((k.1 : Nat) : Int) ((t.1 : Nat) : Int) (Int.natCast_nonneg _) (by show ((k.1 : Nat) : Int).toNat < d.first.length; omega)) rfl (aM (gQ (aM (af (bI rfl rfl)) (aM (gY rfl g1 (by decide) rfl) (aM (af (bI rfl rfl)) (aM (af pL) bf))))) (aM (af (bI rfl rfl)) (aM (af (bI rfl rfl)) (aM (af (bI rfl rfl)) bf)))) (by exact dL _ _) ?_
   refine ue rfl rfl (cE rfl (aD (bX (aC (aA ?_)))))
   refine cD rfl rfl (by omega) (by omega) ?_
   refine bQ rfl (aD ?_)
   refine bl (⟨t.1 + 1, by omega⟩) ?_ (by show (d.D + 1).toNat - (t.1 + 1) < (d.D + 1).toNat - t.1; omega)
   (refine dG.mk' ?_ ?_ <;> (repeat' (first | exact aI | exact aJ | refine aB ?_ (Ty.aU _) | refine aB ?_ (Ty.aE _) | refine aF rfl (Cont.aE _) ?_ | refine aB ?_ ?_)))
   all_goals skip
   all_goals exact Ty.au (NC d _ _)
  refine cZ (aQ (aQ (ay rfl (aC ?_))))
  obtain ⟨t, ht⟩ := t
  obtain rfl : t = (d.D + 1).toNat := by have h1 : ¬ (t : Int) < d.D + 1 := hc9; have h2 : t ≤ (d.D + 1).toNat := ht; omega
  refine gT (s := 22) rfl (Ty.au (show d.most k.1 (d.D + 1).toNat = d.most k.1 (d.D + 1).toNat from rfl)) ?_
  have g5 := g4.2.2 fun t => (d.vW hd k.1 t (by omega)).2
  refine cW mixed rfl ?_
  refine aK rfl rfl rfl rfl rfl (by decide) ?_
  refine aS rfl rfl (by decide) rfl rfl rfl ?_
  refine bQ rfl (bQ rfl (oV rfl ?_))
  refine bk [(1000, 1000)] [] [(1000, Cont.cells 149 (cX (aY (d.hs k.1).2)))] (iV (d.hs k.1).2 ⟨by omega, by omega⟩ 30) rfl rfl (by repeat (first | exact bD | refine aH ?_ ?_ | exact dU List.mem_cons_self | exact aN rfl rfl)) (b8 (a := 1000) (b := 1000) (by exact List.mem_cons_self) rfl (bA (by exact List.mem_cons_self) rfl rfl rfl) pre_nil) (bG (a := 1000) (b := 1000) (by exact List.mem_cons_self) rfl (bA (by exact List.mem_cons_self) rfl rfl rfl) post_nil) (aN rfl rfl) ?_
  refine cD rfl rfl (by omega) (by omega) ?_
  refine uV rfl rfl ?_
  refine eR rfl rfl rfl rfl rfl (by omega) ?_
  refine aK rfl rfl rfl rfl rfl (by decide) ?_
  refine Am (E := dO) (z := ⟨min 300 (d.most k.1 (d.D + 1).toNat + bZ (d.hs k.1).2 30), (nth (d.hs k.1).1 k.1).first⟩) rfl rfl rfl (by decide) rfl rfl (by exact (rfl : _ = Ty.int _ _)) rfl (by omega) (by decide) rfl rfl ?_
  refine aD ?_
  refine ⟨by kernel_rfl, ?_⟩
  refine bX (aC (aA ?_))
  refine cD rfl rfl (by omega) (by omega) ?_
  refine bQ rfl (aD ?_)
  refine bl (⟨k.1 + 1, by omega⟩) ?_ (by show d.nb - (k.1 + 1) < d.nb - k.1; omega)
  (refine dG.mk' ?_ ?_ <;> (repeat' (first | exact aI | exact aJ | exact dS | refine aB ?_ (Ty.aU _) | refine aB ?_ (Ty.aE _) | refine aF rfl (Cont.aE _) ?_ | refine aF rfl (Cont.dV ?_) ?_ | refine bu ?_ ?_ | refine aF rfl ?_ ?_)))
  all_goals skip
  all_goals first | exact Cont.dW (congrArg Prod.fst (LH d _)) | exact Ty.au (congrArg (fun p => p.2.mixed) (LH d _)) | exact Ty.au (congrArg (fun p => p.2.taken) (LH d _)) | exact Ty.hH (congrArg (fun p => p.2.grain) (LH d _))
 refine cZ (aQ (aQ (ay rfl (aC (aG (aG ?_))))))
 obtain ⟨k, hk⟩ := k
 obtain rfl : k = d.nb := by have h1 : ¬ (k : Int) < (d.nb : Int) := hc8; have h2 : k ≤ d.nb := hk; omega
 have H := d.yX d.nb (Nat.le_refl _)
 have g1 := H.len
 have g2 := H.taken
 have b5 : d.jw.length = d.nb := by unfold Md.jw; exact g1
 have g6 := cr (d.hs d.nb).2
 refine fV (tg := 49) rfl (Cont.dW (show (d.hs d.nb).1 = d.jw by unfold Md.jw; rfl)) ?_
 refine iX (tg := 49) [] [(13, Cont.cells 27 [Ty.int .i64 d.D, Ty.sl dO d.jw, Ty.sl cR d.fM, Ty.ex (.slice none 0 0)])] (by decide) rfl trivial ⟨eP rfl rfl ⟨bP rfl, gu rfl b5 (by decide), bP rfl, bP rfl, trivial⟩, trivial⟩ ?_
 refine c9 (B := live [(0, Ty.ptr 1000 0), (4, Ty.int .i64 d.levels), (10, Ty.ptr 11 0), (11, Ty.ptr 12 0), (12, Ty.ptr 13 0), (13, Ty.ptr 14 0)] [(11, Cont.cells 27 [Ty.int .i64 0, Ty.ex (.slice none 0 0), Ty.ex (.slice none 0 0), Ty.ex (.slice none 0 0)]), (12, Cont.cells 30 [Ty.ex (.slice none 0 0), Ty.ex (.slice none 0 0)]), (13, Cont.cells 27 [Ty.int .i64 d.D, Ty.sl dO d.jw, Ty.sl cR d.fM, Ty.ex (.slice none 0 0)]), (14, Cont.cells 30 [Ty.sl cS d.first, Ty.sl cS d.bg]), (1000, Cont.cells 149 (cX (d.hs d.nb).2))]) ?_ ?_
 ·(refine dG.mk' ?_ ?_ <;> (repeat' (first | exact aI | exact aJ | refine aB ?_ (Ty.aU _) | refine aB ?_ (Ty.aE _) | refine aF rfl (Cont.aE _) ?_)))
 refine aA (oV rfl (bQ rfl ?_))
 refine cD rfl rfl (by omega) (by omega) ?_
 refine bk [(1000, 1000)] [] [(1000, Cont.cells 149 (cX (aY (d.hs d.nb).2)))] (iV (d.hs d.nb).2 ⟨by omega, by omega⟩ _) rfl rfl (by repeat (first | exact bD | refine aH ?_ ?_ | exact dU List.mem_cons_self | exact aN rfl rfl)) (b8 (a := 1000) (b := 1000) (by exact List.mem_cons_self) rfl (bA (by exact List.mem_cons_self) rfl rfl rfl) pre_nil) (bG (a := 1000) (b := 1000) (by exact List.mem_cons_self) rfl (bA (by exact List.mem_cons_self) rfl rfl rfl) post_nil) (aN rfl rfl) ?_
 refine bQ rfl (aD (aC ?_))
 refine gT (s := 218) rfl (Ty.au (show bZ (d.hs d.nb).2 (d.levels + 1) = ((d.nl : Nat) : Int) from hnl.2 ▸ (by unfold Md.Nx; rfl))) ?_
 refine ak ?_
 refine cg (fun (k : {k : Nat // k ≤ d.nl}) => live [(0, Ty.ptr 1000 0), (10, Ty.ptr 11 0), (11, Ty.ptr 12 0), (12, Ty.ptr 13 0), (13, Ty.ptr 14 0), (218, Ty.int .i64 (d.nl : Nat)), (219, Ty.int .i64 (k.1 : Nat))] [(11, Cont.cells 27 [Ty.int .i64 0, Ty.ex (.slice none 0 0), Ty.ex (.slice none 0 0), Ty.ex (.slice none 0 0)]), (12, Cont.cells 30 [Ty.ex (.slice none 0 0), Ty.ex (.slice none 0 0)]), (13, Cont.cells 27 [Ty.int .i64 d.D, Ty.sl dO d.jw, Ty.sl cR d.fM, Ty.row ct 102 246 (d.ls k.1).1]), (14, Cont.cells 30 [Ty.sl cS d.first, Ty.sl cS d.bg]), (1000, Cont.cells 149 (cX (d.ls k.1).2))]) (fun k => d.nl - k.1) (⟨0, by omega⟩) ?_ fun k => ?_
 ·(refine dG.mk' ?_ ?_ <;> (repeat' (first | exact aI | exact aJ | exact dS | refine aB ?_ (Ty.aU _) | refine aB ?_ (Ty.aE _) | refine aF rfl (Cont.aE _) ?_ | refine aF rfl (Cont.dV ?_) ?_ | refine bu ?_ (Ty.aE _) | refine bu ?_ ?_)))
  all_goals first | exact Ty.au (congrArg (fun p => p.2.mixed) (KW d)) | exact Ty.au (congrArg (fun p => p.2.taken) (KW d)) | exact Ty.hH (congrArg (fun p => p.2.grain) (KW d)) | exact mD (congrArg Prod.fst (KW d)).symm
 have hk := k.2
 have L := d.BJ hd k.1
 have f1 := L.len
 have f2 := L.taken
 have f3 := cr (d.ls k.1).2
 have f4 := cr (aY (d.ls k.1).2)
 have f5 := cT (d.ls k.1).2 (d.D + 1)
 have f6 := cT (aY (d.ls k.1).2) d.nb
 refine aG (aA (bF rfl rfl rfl (aD (aC (aG ?_)))))
 refine aq rfl (fun hc10 => ?_) (fun hc10 => ?_)
 ·
  refine aj (aC (aG (ak (aG (cW mixed rfl (oV rfl ?_))))))
  refine aK rfl rfl rfl rfl rfl (by decide) ?_
  refine aS rfl rfl (by decide) rfl rfl rfl ?_
  refine cD rfl rfl (by omega) (by omega) ?_
  refine bk [(1000, 1000)] [] [(1000, Cont.cells 149 (cX (aY (d.ls k.1).2)))] (iV (d.ls k.1).2 ⟨by omega, by omega⟩ _) rfl rfl (by repeat (first | exact bD | refine aH ?_ ?_ | exact dU List.mem_cons_self | exact aN rfl rfl)) (b8 (a := 1000) (b := 1000) (by exact List.mem_cons_self) rfl (bA (by exact List.mem_cons_self) rfl rfl rfl) pre_nil) (bG (a := 1000) (b := 1000) (by exact List.mem_cons_self) rfl (bA (by exact List.mem_cons_self) rfl rfl rfl) post_nil) (aN rfl rfl) ?_
  refine oV rfl ?_
  refine aK rfl rfl rfl rfl rfl (by decide) ?_
  refine aS rfl rfl (by decide) rfl rfl rfl ?_
  refine cY rfl rfl rfl ?_
  refine bk [(1000, 1000)] [] [(1000, Cont.cells 149 (cX (aY (aY (d.ls k.1).2))))] (iV (aY (d.ls k.1).2) ⟨by omega, by omega⟩ _) rfl rfl (by repeat (first | exact bD | refine aH ?_ ?_ | exact dU List.mem_cons_self | exact aN rfl rfl)) (b8 (a := 1000) (b := 1000) (by exact List.mem_cons_self) rfl (bA (by exact List.mem_cons_self) rfl rfl rfl) pre_nil) (bG (a := 1000) (b := 1000) (by exact List.mem_cons_self) rfl (bA (by exact List.mem_cons_self) rfl rfl rfl) post_nil) (aN rfl rfl) ?_
  refine dB rfl rfl (by exact List.cons_ne_nil _ _) rfl (by repeat (first | exact (aX.nil : aX _ _ [] _) | (show aX _ _ ((_, _) :: _) _; apply aX.one; (· exact (rfl : _ = Ty.int _ _)); (· exact rfl)))) (by exact (rfl : _ = some [_, _, _, _])) ?_
  refine b9 rfl (by exact List.cons_ne_nil _ _) rfl ?_
  refine bp rfl rfl (by decide) rfl rfl rfl rfl rfl rfl ?_
  refine aD ?_
  refine ⟨by kernel_rfl, ?_⟩
  refine aC (aG ?_)
  have hcl : 0 ≤ cz d.y0 d.real (bZ (aY (d.ls k.1).2) d.nb) (bZ (d.ls k.1).2 (d.D + 1)) ∧ cz d.y0 d.real (bZ (aY (d.ls k.1).2) d.nb) (bZ (d.ls k.1).2 (d.D + 1)) ≤ 300 := by
   have := d.vW hd (bZ (aY (d.ls k.1).2) d.nb).toNat (bZ (d.ls k.1).2 (d.D + 1)) (by omega)
   rwa [Int.toNat_of_nonneg f6.1] at this
  have hce : ∀ b t, cz ⟨d.D, d.jw, d.fM, (d.ls k.1).1⟩ d.real b t = cz d.y0 d.real b t := fun b t => uF (y := d.y0)
  have hcb : -1000000 ≤ cz ⟨d.D, d.jw, d.fM, (d.ls k.1).1⟩ d.real (bZ (aY (d.ls k.1).2) d.nb) (bZ (d.ls k.1).2 (d.D + 1)) ∧ cz ⟨d.D, d.jw, d.fM, (d.ls k.1).1⟩ d.real (bZ (aY (d.ls k.1).2) d.nb) (bZ (d.ls k.1).2 (d.D + 1)) ≤ 1000000 := by rw [hce]; omega
  refine fV (tg := 25) rfl (Cont.dY (l' := [Ty.int .i64 (bZ (d.ls k.1).2 (d.D + 1)), Ty.int .i64 (bZ (aY (d.ls k.1).2) d.nb), Ty.int .i64 0, Ty.int .i64 0]) ⟨Ty.aE _, Ty.au (by rw [b5]), Ty.aE _, Ty.aE _, trivial⟩) ?_
  refine c9 (B := live [(0, Ty.ptr 1000 0), (10, Ty.ptr 11 0), (11, Ty.ptr 12 0), (12, Ty.ptr 13 0), (13, Ty.ptr 14 0), (24, Ty.ptr 25 0), (218, Ty.int .i64 (d.nl : Nat)), (219, Ty.int .i64 (k.1 : Nat))] [(11, Cont.cells 27 [Ty.int .i64 0, Ty.ex (.slice none 0 0), Ty.ex (.slice none 0 0), Ty.ex (.slice none 0 0)]), (12, Cont.cells 30 [Ty.ex (.slice none 0 0), Ty.ex (.slice none 0 0)]), (13, Cont.cells 27 [Ty.int .i64 d.D, Ty.sl dO d.jw, Ty.sl cR d.fM, Ty.row ct 102 246 (d.ls k.1).1]), (14, Cont.cells 30 [Ty.sl cS d.first, Ty.sl cS d.bg]), (25, Cont.cells 102 [Ty.int .i64 (bZ (d.ls k.1).2 (d.D + 1)), Ty.int .i64 (bZ (aY (d.ls k.1).2) d.nb), Ty.int .i64 0, Ty.int .i64 0]), (1000, Cont.cells 149 (cX (aY (aY (d.ls k.1).2))))]) ?_ ?_
  ·refine dG.mk' ?_ ?_
   ·(repeat (first | refine aB ?_ (Ty.aU _) | refine aB ?_ (Ty.aE _))); exact aI
   refine aF rfl (Cont.aE _) ?_; refine aF rfl (Cont.aE _) ?_; refine aF rfl (Cont.aE _) ?_; refine aF rfl (Cont.aE _) ?_; refine aF rfl (Cont.aE _) ?_; refine aF rfl (Cont.aE _) ?_; exact aJ
  refine aA (oV rfl ?_)
  refine bS rfl rfl (by decide) rfl rfl (by exact Nat.le_of_ble_eq_true rfl) ?_
  refine bS rfl rfl (by decide) rfl rfl (by exact Nat.le_of_ble_eq_true rfl) ?_
  refine aK rfl rfl rfl rfl rfl (by decide) ?_
  refine aS rfl rfl (by decide) rfl rfl rfl ?_
  refine aK rfl rfl rfl rfl rfl (by decide) ?_
  refine aS rfl rfl (by decide) rfl rfl rfl ?_
  refine dX [246] (iH ⟨d.D, d.jw, d.fM, (d.ls k.1).1⟩ d.real (w7 hd) (bZ (aY (d.ls k.1).2) d.nb) (bZ (d.ls k.1).2 (d.D + 1)) f6.1 (by show _ < d.first.length; omega)) rfl (aM (gQ (aM (af (bI rfl rfl)) (aM (af (bI rfl rfl)) (aM (af (bI rfl rfl)) (aM (af (fL rfl)) bf))))) (aM (af (bI rfl rfl)) (aM (af (bI rfl rfl)) (aM (af (bI rfl rfl)) bf)))) (by exact dL _ _) ?_
  refine bk [(1000, 1000)] [] [(1000, Cont.cells 149 (cX (aY (aY (aY (aY (d.ls k.1).2))))))] (D4 (aY (aY (d.ls k.1).2)) ⟨by omega, by omega⟩ (cz ⟨d.D, d.jw, d.fM, (d.ls k.1).1⟩ d.real (bZ (aY (d.ls k.1).2) d.nb) (bZ (d.ls k.1).2 (d.D + 1))) 8 hcb (by omega)) rfl rfl (by repeat (first | exact bD | refine aH ?_ ?_ | exact dU List.mem_cons_self | exact aN rfl rfl)) (b8 (a := 1000) (b := 1000) (by exact List.mem_cons_self) rfl (bA (by exact List.mem_cons_self) rfl rfl rfl) pre_nil) (bG (a := 1000) (b := 1000) (by exact List.mem_cons_self) rfl (bA (by exact List.mem_cons_self) rfl rfl rfl) post_nil) (aN rfl rfl) ?_
  refine aK rfl rfl rfl rfl rfl (by decide) ?_
  refine zR (lr := [Ty.int .i64 (bZ (d.ls k.1).2 (d.D + 1)), Ty.int .i64 (bZ (aY (d.ls k.1).2) d.nb), Ty.int .i64 (hO (aY (aY (d.ls k.1).2)) (cz ⟨d.D, d.jw, d.fM, (d.ls k.1).1⟩ d.real (bZ (aY (d.ls k.1).2) d.nb) (bZ (d.ls k.1).2 (d.D + 1))) 8).lo, Ty.int .i64 (hO (aY (aY (d.ls k.1).2)) (cz ⟨d.D, d.jw, d.fM, (d.ls k.1).1⟩ d.real (bZ (aY (d.ls k.1).2) d.nb) (bZ (d.ls k.1).2 (d.D + 1))) 8).hi]) rfl rfl (by decide) rfl rfl rfl (by exact Nat.le_of_ble_eq_true rfl) rfl rfl rfl ?_
  refine aD (aC ?_)
  refine fV (tg := 25) rfl (Cont.dY (l' := ct.tys (d.Ls (d.ls k.1).2)) ⟨Ty.aE _, Ty.aE _, Ty.au (by rw [hce]; rfl), Ty.au (by rw [hce]; rfl), trivial⟩) ?_
  refine c9 (B := live [(0, Ty.ptr 1000 0), (10, Ty.ptr 11 0), (11, Ty.ptr 12 0), (12, Ty.ptr 13 0), (13, Ty.ptr 14 0), (24, Ty.ptr 25 0), (218, Ty.int .i64 (d.nl : Nat)), (219, Ty.int .i64 (k.1 : Nat))] [(11, Cont.cells 27 [Ty.int .i64 0, Ty.ex (.slice none 0 0), Ty.ex (.slice none 0 0), Ty.ex (.slice none 0 0)]), (12, Cont.cells 30 [Ty.ex (.slice none 0 0), Ty.ex (.slice none 0 0)]), (13, Cont.cells 27 [Ty.int .i64 d.D, Ty.sl dO d.jw, Ty.sl cR d.fM, Ty.row ct 102 246 (d.ls k.1).1]), (14, Cont.cells 30 [Ty.sl cS d.first, Ty.sl cS d.bg]), (25, Cont.cells 102 (ct.tys (d.Ls (d.ls k.1).2))), (1000, Cont.cells 149 (cX (aY (aY (aY (aY (d.ls k.1).2))))))]) ?_ ?_
  ·refine dG.mk' ?_ ?_
   ·(repeat (first | refine aB ?_ (Ty.aU _) | refine aB ?_ (Ty.aE _))); exact aI
   refine aF rfl (Cont.aE _) ?_; refine aF rfl (Cont.aE _) ?_; refine aF rfl (Cont.aE _) ?_; refine aF rfl (Cont.aE _) ?_; refine aF rfl (Cont.aE _) ?_; refine aF rfl (Cont.aE _) ?_; exact aJ
  refine aA ?_
  refine aK rfl rfl rfl rfl rfl (by decide) ?_
  refine aS rfl rfl (by decide) rfl rfl rfl ?_
  refine bS rfl rfl (by decide) rfl rfl (by exact Nat.le_of_ble_eq_true rfl) ?_
  refine bw (E := ct) (xs := [d.Ls (d.ls k.1).2]) rfl rfl rfl rfl rfl (by decide) (by decide) (by repeat (first | exact (aX.nil : aX _ _ [] _) | (show aX _ _ ((_, _) :: _) _; apply aX.agg; (· exact (rfl : _ = Ty.agg _))))) (by exact rfl) rfl ?_
  refine eN rfl rfl (by decide) rfl rfl rfl rfl rfl rfl (by decide) (by (simp <;> omega)) (by (simp <;> omega)) ?_
  refine aK rfl rfl rfl rfl rfl (by decide) ?_
  refine cq rfl rfl (by decide) rfl rfl (by exact (rfl : _ = Ty.row _ _ _ _)) rfl (by exact Nat.le_of_ble_eq_true rfl) rfl rfl (by exact rfl) ?_
  refine aD (bX (aC (aA ?_)))
  refine cD rfl rfl (by omega) (by omega) ?_
  refine bQ rfl (aD ?_)
  refine bl (⟨k.1 + 1, by omega⟩) ?_ (by show d.nl - (k.1 + 1) < d.nl - k.1; omega)
  (refine dG.mk' ?_ ?_ <;> (repeat' (first | exact aI | exact aJ | exact dS | refine aB ?_ (Ty.aU _) | refine aB ?_ (Ty.aE _) | refine aF rfl (Cont.aE _) ?_ | refine aF rfl (Cont.dV ?_) ?_ | refine bu ?_ (Ty.aE _) | refine bu ?_ ?_)))
  all_goals skip
  all_goals first | exact Ty.au (congrArg (fun p => p.2.mixed) (Kx d _)) | exact Ty.au (congrArg (fun p => p.2.taken) (Kx d _)) | exact Ty.hH (congrArg (fun p => p.2.grain) (Kx d _)) | exact Ty.gL (congrArg Prod.fst (Kx d _))
 refine cZ (aQ (aQ (ay rfl (aC (aG ?_)))))
 obtain ⟨k, hk⟩ := k
 obtain rfl : k = d.nl := by have h1 : ¬ (k : Int) < (d.nl : Int) := hc10; have h2 : k ≤ d.nl := hk; omega
 refine iX (tg := 246) [] [(13, Cont.cells 27 (bK d.mm))] (by decide) rfl trivial ⟨eP rfl rfl ⟨bP rfl, bP rfl, bP rfl, AZ (show (d.ls d.nl).1 = d.ve by unfold Md.ve; rfl), trivial⟩, trivial⟩ ?_
 refine cW mixed rfl ?_
 refine bS rfl rfl (by decide) rfl rfl (by exact Nat.le_of_ble_eq_true rfl) ?_
 refine bS rfl rfl (by decide) rfl rfl (by exact Nat.le_of_ble_eq_true rfl) ?_
 refine bp rfl rfl (by decide) rfl rfl rfl rfl rfl rfl ?_
 refine bp rfl rfl (by decide) rfl rfl rfl rfl rfl rfl ?_
 refine aD ?_
 refine ⟨by kernel_rfl, ?_⟩
 refine aC (av ?_)
 refine MT [1000] rfl rfl rfl rfl rfl (by decide) rfl rfl rfl rfl rfl (by decide) rfl rfl rfl (by decide) (by repeat (first | exact dR | refine c7 rfl (bA (by decide) rfl rfl rfl) ?_)) ?_ ?_
 all_goals exact eA (aN rfl rfl)
 all_goals trace_state
end Go.Proofs.YtelbollidfdcjaaGreat
namespace Go.Proofs.YtelbollidfdcjaaGreat
open Go Go.T
set_option maxHeartbeats 8000000
structure OS (a : eM) : Prop where
  pT : a.bg.length ≤ 1000
  first : ∀ x ∈ a.first, -1000 ≤ x ∧ x ≤ 1000
  bg : ∀ x ∈ a.bg, -1000 ≤ x ∧ x ≤ 1000
open Classical in
noncomputable def mT (y : ah) (a : eM) : Bool := decide (eT y (fun _ => true) a)
section
variable {y : ah} {a : eM} {b t k : Nat}
open Classical in
theorem y6 (h : eT y (fun _ => true) a) : mT y a = true := by unfold mT; exact decide_eq_true h
open Classical in
theorem l9 (h : ¬ eT y (fun _ => true) a) : mT y a = false := by unfold mT; exact decide_eq_false h
theorem vO {n : Int} {s : Span} (h : (!r6 n s) = false) : s.lo ≤ n ∧ n ≤ s.hi := by
 unfold r6 at h; simpa using h
theorem AA {n : Int} {s : Span} (h : (!r6 n s) = true) : ¬ (s.lo ≤ n ∧ n ≤ s.hi) := by
 unfold r6 at h; simp at h; omega
theorem OO (h : (!decide ((a.first.length : Int) = y.bins.length) || !decide ((a.bg.length : Int) = y.moves.length)) = true) : false = mT y a := by
 refine (l9 fun hf => ?_).symm
 have h1 := hf.lens.first
 have h2 := hf.lens.bg
 rw [decide_eq_true (by omega), decide_eq_true (by omega)] at h; cases h
theorem Gn (h : (!decide ((a.first.length : Int) = y.bins.length) || !decide ((a.bg.length : Int) = y.moves.length)) = false) : AX y a := by
 rw [Bool.or_eq_false_iff, Bool.not_eq_false', Bool.not_eq_false', decide_eq_true_eq, decide_eq_true_eq] at h
 exact ⟨by omega, by omega⟩
theorem OC (hb : b < y.bins.length) (h : (!r6 (nth a.first b) (nth y.bins b).first) = true) : false = mT y a :=
 (l9 fun hf => AA h (hf.first b hb)).symm
theorem OM (hb : b < y.bins.length) (ht : t ≤ y.D) (h : (!r6 (cz y a (b : Nat) (t : Nat)) ⟨0, (nth y.bins b).holds⟩) = true) : false = mT y a :=
 (l9 fun hf => AA h (by rw [ou]; exact hf.cont b t hb ht)).symm
theorem NZ (hk : k < y.moves.length) (h : (!r6 (nth a.bg k) (nth y.moves k).sacks) = true) : false = mT y a :=
 (l9 fun hf => AA h (hf.bg k hk)).symm
theorem N7 (hr : y.cI) (hl : AX y a) (h1 : ∀ b, b < y.bins.length → ((nth y.bins b).first.lo ≤ nth a.first b ∧ nth a.first b ≤ (nth y.bins b).first.hi) ∧ ∀ t : Nat, t ≤ y.D → 0 ≤ cz y a (b : Nat) (t : Nat) ∧ cz y a (b : Nat) (t : Nat) ≤ (nth y.bins b).holds)
    (h2 : ∀ k, k < y.moves.length → (nth y.moves k).sacks.lo ≤ nth a.bg k ∧ nth a.bg k ≤ (nth y.moves k).sacks.hi) : (!(y.levels.any fun l => !r6 (cz y a l.bin l.day) l.sacks)) = mT y a := by
  have key : ∀ i, i < y.levels.length → cz y a (nth y.levels i).bin (nth y.levels i).day = dN y a (nth y.levels i).bin.toNat (nth y.levels i).day.toNat := fun i hi => by
    obtain ⟨g1, g2, _⟩ := hr.level _ (cL hi)
    rw [← ou, Int.toNat_of_nonneg g1.1, Int.toNat_of_nonneg g2.1]
  cases e : y.levels.any fun l => !r6 (cz y a l.bin l.day) l.sacks with
  | true =>
    refine (l9 fun hf => ?_).symm
    obtain ⟨l, hl', h⟩ := List.any_eq_true.1 e
    obtain ⟨i, hi, rfl⟩ := jk hl'
    exact AA h (by rw [key i hi]; exact hf.level i hi rfl)
  | false =>
    refine (y6 ⟨hl, fun b hb => (h1 b hb).1, fun b t hb ht => by rw [← ou]; exact (h1 b hb).2 t ht, h2, fun i hi _ => ?_⟩).symm
    rw [List.any_eq_false] at e
    rw [← key i hi]
    exact vO (by rw [← Bool.not_eq_true]; exact e _ (cL hi))
end
attribute [local irreducible] cz r6 mT
attribute [local irreducible] iN fQ m5 qc ir iW ij iy iw qY iZ qW dz ga qV gG qd nth fP dh aa dy bodyPost Exit.then Exit.inBlock Code.wp Code.wpIn qh iq qb qU ia dn cU cj bodyPostM eF
set_option maxRecDepth 100000 in
theorem Jr (y : ah) (a : eM) (ha : Li y a) (l : Level) (h0 : 0 ≤ l.bin) (h1 : l.bin.toNat < a.first.length) : dy Tryz.prog 85 [Ty.agg (ct.tys l), Ty.pp (bK y), Ty.pp (dJ a)] (Ty.bool (!r6 (cz y a l.bin l.day) l.sacks)) := by
 refine bC Tryz.func85 rfl (by decide) Tryz.ntmps85 (by exact Nat.le_of_ble_eq_true rfl) fun w0 M0 => ?_
 refine aG (aA (bM rfl (dw rfl (aD (aC (aG (cW mixed rfl ?_)))))))
 refine aZ rfl rfl rfl (by exact Nat.le_of_ble_eq_true rfl) ?_
 refine aZ rfl rfl rfl (by exact Nat.le_of_ble_eq_true rfl) ?_
 refine aO rfl rfl rfl rfl rfl (by decide) ?_
 refine aL rfl rfl rfl rfl ?_
 refine aO rfl rfl rfl rfl rfl (by decide) ?_
 refine aL rfl rfl rfl rfl (az (iH y a ha l.bin l.day h0 h1) rfl rfl rfl rfl rfl ?_)
 refine aO rfl rfl rfl rfl rfl (by decide) ?_
 refine aZ rfl rfl rfl (by exact Nat.le_of_ble_eq_true rfl) ?_
 refine az (ry _ _) rfl rfl rfl rfl rfl (eE rfl (dw rfl (aD ?_)))
 refine ⟨by kernel_rfl, ?_⟩
 refine aC (av (bz rfl rfl ?_))
 all_goals exact cV rfl rfl
set_option maxRecDepth 100000 in
theorem Ml (y : ah) (a : eM) (hr : y.cI) (hb : OS a) : dy Tryz.prog 20 [fI y, qn a] (Ty.bool (mT y a)) := by
 refine bC Tryz.func20 rfl (by decide) Tryz.ntmps20 (by exact Nat.le_of_ble_eq_true rfl) fun w0 M0 => ?_
 have hs1 := hr.bins
 have hs2 := hr.moves
 have hs3 := hr.days
 have hs4 := hr.levels
 have hD := D_eq hr
 have hfew := hb.pT
 refine aG (aA (bM rfl (bM rfl (dw rfl (aD (aC (aG (aG (aA ?_)))))))))
 refine aO rfl rfl rfl rfl rfl (by decide) ?_
 refine aL rfl rfl rfl rfl (cY rfl rfl rfl ?_)
 refine aO rfl rfl rfl rfl rfl (by decide) ?_
 refine aL rfl rfl rfl rfl (cY rfl rfl rfl (bF rfl rfl rfl (g8 rfl ?_)))
 apply aT (s := 17) rfl rfl rfl
 ·intro hg; apply aV; (refine aO rfl rfl rfl rfl rfl (by decide) ?_); refine aD ?_; exact rfl
 ·exact rfl
 ·exact rfl
 apply aT (s := 17) rfl rfl rfl
 ·intro hg; apply aR (s := 18) rfl (by (rw [hg]; rfl)); apply aV; (refine aL rfl rfl rfl rfl ?_); refine aD ?_; exact rfl
 ·exact rfl
 ·exact rfl
 apply aT (s := 17) rfl rfl rfl
 ·intro hg; apply aR (s := 19) rfl (by (rw [hg]; rfl)); apply aV; (refine cY rfl rfl rfl ?_); refine aD ?_; exact rfl
 ·exact rfl
 ·exact rfl
 apply aT (s := 17) rfl rfl rfl
 ·intro hg; apply aV; (refine aO rfl rfl rfl rfl rfl (by decide) ?_); refine aD ?_; exact rfl
 ·exact rfl
 ·exact rfl
 apply aT (s := 17) rfl rfl rfl
 ·intro hg; apply aR (s := 21) rfl (by (rw [hg]; rfl)); apply aV; (refine aL rfl rfl rfl rfl ?_); refine aD ?_; exact rfl
 ·exact rfl
 ·exact rfl
 apply aT (s := 17) rfl rfl rfl
 ·intro hg; apply aR (s := 22) rfl (by (rw [hg]; rfl)); apply aV; (refine cY rfl rfl rfl ?_); refine aD ?_; exact rfl
 ·exact rfl
 ·exact rfl
 apply aT (s := 17) rfl rfl rfl
 ·intro hg; apply aR (s := 20) rfl (by (rw [hg]; rfl)); apply aR (s := 23) rfl (by (rw [hg]; rfl)); apply aV; (refine bF rfl rfl rfl ?_); refine aD ?_; exact rfl
 ·exact rfl
 ·exact rfl
 refine qi rfl rfl (aD (aC ?_))
 refine cx rfl (fun hc1 => ?_) (fun hc1 => ?_)
 ·
  refine aG (aA (dw rfl (aD (aC (av (aW (bz rfl rfl ?_)))))))
  all_goals skip
  exact bE rfl rfl (congrArg Ty.bool (OO hc1))
 refine aj (aC (aG (aG ?_)))
 have hl := Gn hc1
 have hl1 := hl.first
 have hl2 := hl.bg
 have ha : Li y a := ⟨by omega, hb.pT, hb.first, hb.bg⟩
 refine aA ?_
 refine aO rfl rfl rfl rfl rfl (by decide) ?_
 refine aL rfl rfl rfl rfl (cY rfl rfl rfl (bQ rfl (aD (aC (ak ?_)))))
 refine cg (fun (k : {k : Nat // k ≤ y.bins.length ∧ ∀ b, b < k → ((nth y.bins b).first.lo ≤ nth a.first b ∧ nth a.first b ≤ (nth y.bins b).first.hi) ∧ ∀ t : Nat, t ≤ y.D → 0 ≤ cz y a (b : Nat) (t : Nat) ∧ cz y a (b : Nat) (t : Nat) ≤ (nth y.bins b).holds}) => live [(2, Ty.pp (bK y)), (3, Ty.pp (dJ a)), (27, Ty.sl dO y.bins), (28, Ty.int .i64 y.bins.length), (29, Ty.int .i64 (k.1 : Nat))] []) (fun k => y.bins.length - k.1) (⟨0, Nat.zero_le _, fun b h => absurd h (Nat.not_lt_zero b)⟩) ?_ fun k => ?_
 ·(refine dG.mk' ?_ ?_ <;> (repeat' (first | exact aI | exact aJ | refine aB ?_ (Ty.aU _) | refine aB ?_ (Ty.aE _))))
 have hk := k.2.1
 refine aG (aA (bF rfl rfl rfl (aD (aC (aG ?_)))))
 refine aq rfl (fun hc2 => ?_) (fun hc2 => ?_)
 ·
  refine aj (aC (aG (ak (aG (aA (bQ rfl ?_))))))
  refine bH rfl rfl rfl rfl rfl rfl (by omega) ?_
  refine aZ rfl rfl rfl (by exact Nat.le_of_ble_eq_true rfl) ?_
  refine b9 rfl (by exact List.cons_ne_nil _ _) rfl ?_
  refine cE rfl ?_
  refine bp rfl rfl (by decide) rfl rfl rfl rfl rfl rfl ?_
  refine aD (aC (aG (aG (cW mixed rfl ?_))))
  refine aO rfl rfl rfl rfl rfl (by decide) ?_
  refine aL rfl rfl rfl rfl (bQ rfl ?_)
  refine bH rfl rfl rfl rfl rfl rfl (by omega) ?_
  refine aL rfl rfl rfl rfl ?_
  refine aK rfl rfl rfl rfl rfl (by decide) ?_
  refine bS rfl rfl (by decide) rfl rfl (by exact Nat.le_of_ble_eq_true rfl) ?_
  refine az (ry _ _) rfl rfl rfl rfl rfl (eE rfl (aD ?_))
  refine ⟨by kernel_rfl, ?_⟩
  refine aC ?_
  refine cx rfl (fun hc3 => ?_) (fun hc3 => ?_)
  ·
   refine aG (aA (dw rfl (aD (aC (av (aW (bJ (aW (aW ?_)))))))))
   refine bJ (aW (bz rfl rfl ?_))
   all_goals skip
   exact bE rfl rfl (congrArg Ty.bool (OC (b := k.1) (by omega) hc3))
  refine aj (aC (aG (aA ?_)))
  refine aO rfl rfl rfl rfl rfl (by decide) ?_
  refine aL rfl rfl rfl rfl ?_
  refine cD rfl rfl (by omega) (by omega) ?_
  refine bQ rfl (aD (aC (ak ?_)))
  refine cg (fun (t : {t : Nat // t ≤ y.D + 1 ∧ ∀ s : Nat, s < t → 0 ≤ cz y a (k.1 : Nat) (s : Nat) ∧ cz y a (k.1 : Nat) (s : Nat) ≤ (nth y.bins k.1).holds}) => live [(2, Ty.pp (bK y)), (3, Ty.pp (dJ a)), (5, Ty.int .i64 (k.1 : Nat)), (6, Ty.ptr 7 0), (27, Ty.sl dO y.bins), (28, Ty.int .i64 y.bins.length), (29, Ty.int .i64 (k.1 : Nat)), (45, Ty.int .i64 (y.days + 1)), (46, Ty.int .i64 (t.1 : Nat))] [(7, Cont.cells 39 (dO.tys (nth y.bins k.1)))]) (fun t => y.D + 1 - t.1) (⟨0, Nat.zero_le _, fun s h => absurd h (Nat.not_lt_zero s)⟩) ?_ fun t => ?_
  ·(refine dG.mk' ?_ ?_ <;> (repeat' (first | exact aI | exact aJ | refine aB ?_ (Ty.aU _) | refine aB ?_ (Ty.aE _) | refine aF rfl (Cont.aE _) ?_)))
  have ht := t.2.1
  refine aG (aA (bF rfl rfl rfl (aD (aC (aG ?_)))))
  refine aq rfl (fun hc4 => ?_) (fun hc4 => ?_)
  ·
   refine aj (aC (aG (ak (aG (aA (bQ rfl (cE rfl (aD (aC ?_)))))))))
   refine aG (cW mixed rfl ?_)
   refine aZ rfl rfl rfl (by exact Nat.le_of_ble_eq_true rfl) ?_
   refine aZ rfl rfl rfl (by exact Nat.le_of_ble_eq_true rfl) ?_
   refine bQ rfl (bQ rfl ?_)
   refine az (iH y a ha ((k.1 : Nat) : Int) ((t.1 : Nat) : Int) (Int.natCast_nonneg _) (by omega)) rfl rfl rfl rfl rfl ?_
   refine aK rfl rfl rfl rfl rfl (by decide) ?_
   refine aS rfl rfl (by decide) rfl rfl rfl ?_
   refine az (ig _ _) rfl rfl rfl rfl rfl (az (ry _ _) rfl rfl rfl rfl rfl (eE rfl (aD ?_)))
   refine ⟨by kernel_rfl, ?_⟩
   refine aC ?_
   refine cx rfl (fun hc5 => ?_) (fun hc5 => ?_)
   ·
    refine aG (aA (dw rfl (aD (aC (av (bJ (aW (aW (bJ ?_)))))))))
    refine bJ (aW (aW (bJ (aW (bz rfl rfl ?_)))))
    all_goals skip
    exact bE rfl rfl (congrArg Ty.bool (OM (b := k.1) (t := t.1) (by omega) (by omega) hc5))
   refine aj (bX (aC (aA ?_)))
   refine cD rfl rfl (by omega) (by omega) ?_
   refine bQ rfl (aD ?_)
   refine bl (⟨t.1 + 1, by omega, fun s h => (Nat.lt_succ_iff_lt_or_eq.1 h).elim (t.2.2 s) fun e => by subst e; exact vO hc5⟩) ?_ (by show y.D + 1 - (t.1 + 1) < y.D + 1 - t.1; omega)
   (refine dG.mk' ?_ ?_ <;> (repeat' (first | exact aI | exact aJ | refine aB ?_ (Ty.aU _) | refine aB ?_ (Ty.aE _) | refine aF rfl (Cont.aE _) ?_)))
   all_goals skip
  refine cZ (aQ (aQ (ay rfl (bX (aC (aA ?_))))))
  refine cD rfl rfl (by omega) (by omega) ?_
  refine bQ rfl (aD ?_)
  refine bl (⟨k.1 + 1, by omega, fun b h => (Nat.lt_succ_iff_lt_or_eq.1 h).elim (k.2.2 b) fun e => by subst e; exact ⟨vO hc3, fun s h => t.2.2 s (by omega)⟩⟩) ?_ (by show y.bins.length - (k.1 + 1) < y.bins.length - k.1; omega)
  (refine dG.mk' ?_ ?_ <;> (repeat' (first | exact aI | exact aJ | refine aB ?_ (Ty.aU _) | refine aB ?_ (Ty.aE _))))
  all_goals skip
 refine cZ (aQ (aQ (ay rfl (aC (aG (aG (aA ?_)))))))
 refine aO rfl rfl rfl rfl rfl (by decide) ?_
 refine aL rfl rfl rfl rfl (cY rfl rfl rfl (bQ rfl (aD (aC (ak ?_)))))
 refine cg (fun (m : {k : Nat // k ≤ y.moves.length ∧ ∀ i, i < k → (nth y.moves i).sacks.lo ≤ nth a.bg i ∧ nth a.bg i ≤ (nth y.moves i).sacks.hi}) => live [(2, Ty.pp (bK y)), (3, Ty.pp (dJ a)), (62, Ty.sl cR y.moves), (63, Ty.int .i64 y.moves.length), (64, Ty.int .i64 (m.1 : Nat))] []) (fun m => y.moves.length - m.1) (⟨0, Nat.zero_le _, fun b h => absurd h (Nat.not_lt_zero b)⟩) ?_ fun m => ?_
 ·(refine dG.mk' ?_ ?_ <;> (repeat' (first | exact aI | exact aJ | refine aB ?_ (Ty.aU _) | refine aB ?_ (Ty.aE _))))
 have hm := m.2.1
 refine aG (aA (bF rfl rfl rfl (aD (aC (aG ?_)))))
 refine aq rfl (fun hc6 => ?_) (fun hc6 => ?_)
 ·
  refine aj (aC (aG (ak (aG (aA (bQ rfl ?_))))))
  refine bH rfl rfl rfl rfl rfl rfl (by omega) ?_
  refine aZ rfl rfl rfl (by exact Nat.le_of_ble_eq_true rfl) ?_
  refine b9 rfl (by exact List.cons_ne_nil _ _) rfl ?_
  refine cE rfl ?_
  refine bp rfl rfl (by decide) rfl rfl rfl rfl rfl rfl ?_
  refine aD (aC (aG (cW mixed rfl ?_)))
  refine aO rfl rfl rfl rfl rfl (by decide) ?_
  refine aL rfl rfl rfl rfl (bQ rfl ?_)
  refine bH rfl rfl rfl rfl rfl rfl (by omega) ?_
  refine aL rfl rfl rfl rfl ?_
  refine aK rfl rfl rfl rfl rfl (by decide) ?_
  refine bS rfl rfl (by decide) rfl rfl (by exact Nat.le_of_ble_eq_true rfl) ?_
  refine az (ry _ _) rfl rfl rfl rfl rfl (eE rfl (aD ?_))
  refine ⟨by kernel_rfl, ?_⟩
  refine aC ?_
  refine cx rfl (fun hc7 => ?_) (fun hc7 => ?_)
  ·
   refine aG (aA (dw rfl (aD (aC (av (bJ (aW (aW (bJ ?_)))))))))
   refine aW (bz rfl rfl ?_)
   all_goals skip
   exact bE rfl rfl (congrArg Ty.bool (NZ (k := m.1) (by omega) hc7))
  refine aj (bX (aC (aA ?_)))
  refine cD rfl rfl (by omega) (by omega) ?_
  refine bQ rfl (aD ?_)
  refine bl (⟨m.1 + 1, by omega, fun i h => (Nat.lt_succ_iff_lt_or_eq.1 h).elim (m.2.2 i) fun e => by subst e; exact vO hc7⟩) ?_ (by show y.moves.length - (m.1 + 1) < y.moves.length - m.1; omega)
  (refine dG.mk' ?_ ?_ <;> (repeat' (first | exact aI | exact aJ | refine aB ?_ (Ty.aU _) | refine aB ?_ (Ty.aE _))))
  all_goals skip
 refine cZ (aQ (aQ (ay rfl (aC (aG (aA ?_))))))
 refine aO rfl rfl rfl rfl rfl (by decide) ?_
 refine aL rfl rfl rfl rfl (dP rfl ?_)
 refine az (lu y.levels (Ty.jC 85 [Ty.pp (bK y), Ty.pp (dJ a)]) rfl (fun l => !r6 (cz y a l.bin l.day) l.sacks) rfl rfl (fun l h => dZ (Jr y a ha l (hr.level l h).2.1.1 (by have := (hr.level l h).2.1; omega)) rfl rfl rfl rfl rfl rfl)) rfl rfl rfl rfl rfl ?_
 refine eE rfl (dw rfl (aD (aC (av (bz rfl rfl ?_)))))
 all_goals skip
 exact bE rfl rfl (congrArg Ty.bool (N7 hr hl (fun b hb => k.2.2 b (by omega)) (fun i hi => m.2.2 i (by omega))))
end Go.Proofs.YtelbollidfdcjaaGreat
namespace Go.Proofs.YtelbollidfdcjaaGreat
open Go Go.T
section
variable {d : Md} {v : Bool} {c : Nat → Bool} {y : ah} {b t k n : Nat} {l : List vE}
variable {f : Nat → Nat → Int}
end
end Go.Proofs.YtelbollidfdcjaaGreat
namespace Go.Proofs.YtelbollidfdcjaaGreat
open Go Go.T
set_option maxHeartbeats 4000000
section
variable {α : Type} {p : α → Bool} {l : List α} {k : Nat}
end
section
variable {y : ah} {b c : Bool}
end
attribute [local irreducible] iN fQ m5 qc ir iW ij iy iw qY iZ qW dz ga qV gG qd nth fP dh aa dy bodyPost Exit.then Exit.inBlock Code.wp Code.wpIn qh iq qb qU ia dn cU cj bodyPostM eF
end Go.Proofs.YtelbollidfdcjaaGreat
namespace Go.Proofs.YtelbollidfdcjaaGreat
open Go Go.T
set_option maxHeartbeats 6000000
def yD (s t u : Nat) (y : ah) : List Ty := [Ty.int .i64 y.days, Ty.vs s y.bins.length, Ty.vs t y.moves.length, Ty.vs u y.levels.length]
abbrev Cf (s t u : Nat) (y : ah) : List (Nat × Cont) := [(s, Cont.vec dO 39 y.bins), (t, Cont.vec cR 41 y.moves), (u, Cont.vec ct 102 y.levels)]
def yz : ah := ⟨0, [], [], []⟩
def KM (y : ah) : ah := if bT y = 0 then y else yz
theorem zq {y : ah} (h : bT y = 0) : y = KM y := (if_pos h).symm
theorem EN {y : ah} (h : ¬ bT y = 0) : yz = KM y := (if_neg h).symm
theorem JD {x : ah} (h : x = yz) : sJ [21, 22, 23] (Ty.agg [Ty.int .i64 0, Ty.ex (.slice none 0 0), Ty.ex (.slice none 0 0), Ty.ex (.slice none 0 0)]) (Ty.agg (yD 21 22 23 x)) := by
 subst h; exact eA (n8 (aH (aH (aH (aH bD vu) vu) vu) (aN rfl rfl)))
theorem I5 {x y : ah} (h : x = y) : sJ [21, 22, 23] (Ty.agg (yD 21 22 23 x)) (Ty.agg (yD 21 22 23 y)) := by
 subst h; exact eA (n8 (aH (aH (aH (aH bD (dj (by decide))) (dj (by decide))) (dj (by decide))) (aN rfl rfl)))
section
variable {y : ah} {l : Level}
end
def jX (y : ah) (m : Move) : ah := { y with moves := y.moves ++ [m] }
def mQ (y : ah) (m : Move) : Int := if bT y = 0 then (if (y.moves.length : Int) = 10 then 9 else bT (jX y m)) else bT y
def oX (y : ah) (m : Move) : ah := if mQ y m = 0 then jX y m else yz
theorem DZ {y : ah} (h : y.Small) (m : Move) (h2 : y.moves.length ≤ 999 := by omega) : (jX y m).Small := ⟨h.bins, by show (y.moves ++ [m]).length ≤ 1000; rw [List.length_append]; show y.moves.length + 1 ≤ 1000; omega, h.levels⟩
section
variable {y : ah} {m : Move}
theorem wZ (h : ¬ bT y = 0) : yz = oX y m ∧ bT y = mQ y m := by
 have e : bT y = mQ y m := (if_neg h).symm
 exact ⟨by unfold oX; rw [← e, if_neg h], e⟩
theorem xV (h : bT y = 0) (h2 : (y.moves.length : Int) = 10) : yz = oX y m ∧ 9 = mQ y m := by
 have e : 9 = mQ y m := by unfold mQ; rw [if_pos h, if_pos h2]
 exact ⟨by unfold oX; rw [← e, if_neg (by decide)], e⟩
theorem xW (h : bT y = 0) (h2 : ¬ (y.moves.length : Int) = 10) : KM (jX y m) = oX y m ∧ bT (jX y m) = mQ y m := by
 have e : bT (jX y m) = mQ y m := by unfold mQ; rw [if_pos h, if_neg h2]
 exact ⟨by unfold oX KM; rw [← e], e⟩
end
theorem JP {α : Type} {l : List α} {x : α} : l ++ List.drop l.length (List.replicate ((l.length : Int)).toNat x) = l := by rw [List.drop_of_length_le (by simp), List.append_nil]
theorem Nk : Tryz.prog.underlying 23 = some (.slice 39) := by kernel_rfl
theorem OG : Tryz.prog.underlying 24 = some (.slice 41) := by kernel_rfl
attribute [local irreducible] bT KM
attribute [local irreducible] iN fQ m5 qc ir iW ij iy iw qY iZ qW dz ga qV gG qd nth fP dh aa dy bodyPost Exit.then Exit.inBlock Code.wp Code.wpIn qh iq qb qU ia dn cU cj bodyPostM eF
set_option maxRecDepth 100000 in
theorem Ba (l : List vE) (h : l.length ≤ 1000) : dn Tryz.prog 174 [] [] [Ty.sl dO l] [] (Ty.row dO 39 6 l) := by
 refine c6 Tryz.func174 rfl (by decide) Tryz.ntmps174 (by exact Nat.le_of_ble_eq_true rfl) fun w0 M0 => ?_
 refine aG (aA (lB rfl (aD (aC (aG (aG (aA (fU rfl (vY Nk rfl ?_)))))))))
 refine aD (aC ?_)
 refine pq rfl (fun hc1 => ?_) (fun hc1 => ?_)
 ·
  refine aG (aA (lB rfl (aD (aC (av (aW ?_))))))
  refine ew [6] rfl rfl (by decide) (by repeat (exact dR)) ?_
  all_goals skip
  all_goals (obtain rfl : l = [] := hc1; exact eA qD)
 refine aj (aC (aG (aA ?_)))
 refine n6 (E := dO) rfl rfl rfl rfl ?_
 refine fU rfl ?_
 refine eN rfl rfl (by decide) rfl rfl rfl rfl rfl rfl (by decide) (by (simp <;> omega)) (by (simp <;> omega)) ?_
 refine A4 rfl (aD (aC (av ?_)))
 refine ew [6] rfl rfl (by decide) (by repeat (exact dR)) ?_
 all_goals skip
 all_goals exact eA (fF (by decide))
set_option maxRecDepth 100000 in
theorem Bo (l : List Move) (h : l.length ≤ 1000) : dn Tryz.prog 175 [] [] [Ty.sl cR l] [] (Ty.row cR 41 6 l) := by
 refine c6 Tryz.func175 rfl (by decide) Tryz.ntmps175 (by exact Nat.le_of_ble_eq_true rfl) fun w0 M0 => ?_
 refine aG (aA (lB rfl (aD (aC (aG (aG (aA (fU rfl (vY OG rfl ?_)))))))))
 refine aD (aC ?_)
 refine pq rfl (fun hc1 => ?_) (fun hc1 => ?_)
 ·
  refine aG (aA (lB rfl (aD (aC (av (aW ?_))))))
  refine ew [6] rfl rfl (by decide) (by repeat (exact dR)) ?_
  all_goals skip
  all_goals (obtain rfl : l = [] := hc1; exact eA qD)
 refine aj (aC (aG (aA ?_)))
 refine n6 (E := cR) rfl rfl rfl rfl ?_
 refine fU rfl ?_
 refine eN rfl rfl (by decide) rfl rfl rfl rfl rfl rfl (by decide) (by (simp <;> omega)) (by (simp <;> omega)) ?_
 refine A4 rfl (aD (aC (av ?_)))
 refine ew [6] rfl rfl (by decide) (by repeat (exact dR)) ?_
 all_goals skip
 all_goals exact eA (fF (by decide))
set_option maxRecDepth 100000 in
theorem L5 (y : ah) (hs : y.Small) : dn Tryz.prog 124 [] [] [fI y] [] (Ty.agg [Ty.int .i64 y.days, Ty.row dO 39 21 y.bins, Ty.row cR 41 22 y.moves, Ty.row ct 102 12 y.levels]) := by
 refine c6 Tryz.func124 rfl (by decide) Tryz.ntmps124 (by exact Nat.le_of_ble_eq_true rfl) fun w0 M0 => ?_
 have hs1 := hs.bins
 have hs2 := hs.moves
 have hs3 := hs.levels
 refine aG (aA (bM rfl ?_))
 refine b9 rfl (by exact List.cons_ne_nil _ _) rfl ?_
 refine aD (aC (aG (aA ?_)))
 refine aO rfl rfl rfl rfl rfl (by decide) ?_
 refine aL rfl rfl rfl rfl (cY rfl rfl rfl ?_)
 refine aO rfl rfl rfl rfl rfl (by decide) ?_
 refine aL rfl rfl rfl rfl (cY rfl rfl rfl ?_)
 refine cD rfl rfl (by omega) (by omega) ?_
 refine HC (E := ct) (x0 := ⟨0, 0, ⟨0, 0⟩⟩) rfl rfl rfl rfl rfl rfl rfl (by decide) rfl (by omega) (by omega) (by (dsimp only; omega)) (by omega) ?_
 refine fX rfl (aD (aC (aG (aA (eK rfl ?_)))))
 refine aO rfl rfl rfl rfl rfl (by decide) ?_
 refine aL rfl rfl rfl rfl ?_
 refine Hr (E := ct) (ys := y.levels) rfl rfl rfl (by decide) rfl rfl rfl rfl (by simp) (by simp) ?_
 refine aD (aC (aG ?_))
 refine fV (tg := 12) rfl (Cont.Km JP) ?_
 refine JQ (s := 3) rfl (by decide) rfl rfl ?_
 refine cW mixed rfl ?_
 refine aO rfl rfl rfl rfl rfl (by decide) ?_
 refine aL rfl rfl rfl rfl ?_
 refine aO rfl rfl rfl rfl rfl (by decide) ?_
 refine aL rfl rfl rfl rfl ?_
 refine bk [(21, 6)] [21] [] (Ba y.bins (by omega)) rfl rfl (by repeat (first | exact bD | refine aH ?_ ?_ | exact aN rfl rfl)) pre_nil post_nil (fF (by exact List.mem_cons_self)) ?_
 refine aO rfl rfl rfl rfl rfl (by decide) ?_
 refine aL rfl rfl rfl rfl ?_
 refine bk [(22, 6)] [22] [] (Bo y.moves (by omega)) rfl rfl (by repeat (first | exact bD | refine aH ?_ ?_ | exact aN rfl rfl)) pre_nil post_nil (fF (by exact List.mem_cons_self)) ?_
 refine I6 rfl ?_
 refine dB rfl rfl (by exact List.cons_ne_nil _ _) rfl (by repeat (first | exact (aX.nil : aX _ _ [] _) | (show aX _ _ ((_, _) :: _) _; apply aX.one; (· first | exact (rfl : _ = Ty.int _ _) | exact (rfl : _ = Ty.row _ _ _ _)); (· exact rfl)))) (by exact (rfl : _ = some [_, _, _, _])) ?_
 refine bp rfl rfl (by decide) rfl rfl rfl rfl rfl rfl ?_
 refine aD ?_
 refine ⟨by kernel_rfl, ?_⟩
 refine aC (av ?_)
 refine vl [21, 22, 12] rfl rfl rfl rfl (by decide) rfl rfl rfl (by decide) (by repeat (exact dR)) ?_
 all_goals skip
 all_goals exact eA (n8 (aH (aH (aH (aH bD (fF (by decide))) (fF (by decide))) (fF (by decide))) (aN rfl rfl)))
set_option maxRecDepth 100000 in
theorem K0 (y : ah) (hs : y.Small) : dn Tryz.prog 125 [21, 22, 23] (Cf 21 22 23 y) [Ty.agg (yD 21 22 23 y)] (Cf 21 22 23 (KM y)) (Ty.ju [Ty.agg (yD 21 22 23 (KM y)), Ty.int .i64 (bT y)]) := by
 refine c6 Tryz.func125 rfl (by decide) Tryz.ntmps125 (by exact Nat.le_of_ble_eq_true rfl) fun w0 M0 => ?_
 refine aG (aA (bM rfl ?_))
 refine b9 rfl (by exact List.cons_ne_nil _ _) rfl ?_
 refine cE rfl (aD (aC (aG (aG (aA ?_)))))
 refine aZ rfl rfl rfl (by exact Nat.le_of_ble_eq_true rfl) ?_
 refine dX [21, 22, 23] (jo y hs) rfl (aM (gQ (aM (af (bI rfl rfl)) (aM (gY rfl rfl (by decide) rfl) (aM (gY rfl rfl (by decide) rfl) (aM (gY rfl rfl (by decide) rfl) bf))))) bf) (by exact dL _ _) ?_
 refine cE rfl (aD (aC (aG (aA (bQ rfl (bF rfl rfl rfl (aD (aC ?_))))))))
 refine dM rfl (fun hc1 => ?_) (fun hc1 => ?_)
 ·
  refine aG ?_
  refine oI (E := dO) 39 21 ?_
  refine oI (E := cR) 41 22 ?_
  refine oI (E := ct) 102 23 ?_
  refine aA ?_
  refine dB rfl rfl (by exact List.cons_ne_nil _ _) rfl (by repeat (exact (aX.nil : aX _ _ [] _))) (by exact (rfl : _ = some [_, _, _, _])) ?_
  refine bQ rfl ?_
  refine bp rfl rfl (by decide) rfl rfl rfl rfl rfl rfl ?_
  refine cE rfl (aD (aC (av (aW ?_))))
  refine oq [21, 22, 23] rfl rfl rfl rfl rfl (by decide) rfl rfl rfl (by decide) ?_ ?_ ?_
  ·exact c7 rfl (bW (by decide) (congrArg ah.bins (EN hc1))) (c7 rfl (bW (by decide) (congrArg ah.moves (EN hc1))) (c7 rfl (bW (by decide) (congrArg ah.levels (EN hc1))) dR))
  all_goals first | exact eA (aN rfl rfl) | skip
  all_goals exact JD (EN hc1).symm
 refine aj (aC (aG (aA ?_)))
 refine aZ rfl rfl rfl (by exact Nat.le_of_ble_eq_true rfl) ?_
 refine bp rfl rfl (by decide) rfl rfl rfl rfl rfl rfl ?_
 refine cE rfl (aD (aC (av ?_)))
 refine oq [21, 22, 23] rfl rfl rfl rfl rfl (by decide) rfl rfl rfl (by decide) ?_ ?_ ?_
 ·exact c7 rfl (bW (by decide) (congrArg ah.bins (zq hc1))) (c7 rfl (bW (by decide) (congrArg ah.moves (zq hc1))) (c7 rfl (bW (by decide) (congrArg ah.levels (zq hc1))) dR))
 all_goals skip
 all_goals first | exact I5 (zq hc1) | exact eA (lA rfl rfl (congrArg (Ty.int .i64) hc1.symm))
set_option maxRecDepth 100000 in
theorem J8 (y : ah) (hs : y.Small) (m : Move) : dn Tryz.prog 71 [] [] [fI y, Ty.agg (cR.tys m)] (Cf 21 22 23 (oX y m)) (Ty.ju [Ty.agg (yD 21 22 23 (oX y m)), Ty.int .i64 (mQ y m)]) := by
 refine c6 Tryz.func71 rfl (by decide) Tryz.ntmps71 (by exact Nat.le_of_ble_eq_true rfl) fun w0 M0 => ?_
 have hs1 := hs.bins
 have hs2 := hs.moves
 have hs3 := hs.levels
 refine aG (aA (bM rfl (bM rfl ?_)))
 refine b9 rfl (by exact List.cons_ne_nil _ _) rfl ?_
 refine cE rfl (aD (aC (aG (aG (aA ?_)))))
 refine aZ rfl rfl rfl (by exact Nat.le_of_ble_eq_true rfl) ?_
 refine az (jo y hs) rfl rfl rfl rfl rfl (cE rfl (aD (aC (aG (aA (bQ rfl (bF rfl rfl rfl (aD (aC ?_)))))))))
 refine dM rfl (fun hc1 => ?_) (fun hc1 => ?_)
 ·
  refine aG ?_
  refine oI (E := dO) 39 21 ?_
  refine oI (E := cR) 41 22 ?_
  refine oI (E := ct) 102 23 ?_
  refine aA ?_
  refine dB rfl rfl (by exact List.cons_ne_nil _ _) rfl (by repeat (exact (aX.nil : aX _ _ [] _))) (by exact (rfl : _ = some [_, _, _, _])) ?_
  refine bQ rfl ?_
  refine bp rfl rfl (by decide) rfl rfl rfl rfl rfl rfl ?_
  refine cE rfl (aD (aC (av (aW ?_))))
  refine oq [21, 22, 23] rfl rfl rfl rfl rfl (by decide) rfl rfl rfl (by decide) ?_ ?_ ?_
  ·exact c7 rfl (bW (by decide) (congrArg ah.bins (wZ hc1).1)) (c7 rfl (bW (by decide) (congrArg ah.moves (wZ hc1).1)) (c7 rfl (bW (by decide) (congrArg ah.levels (wZ hc1).1)) dR))
  all_goals skip
  all_goals first | exact JD (wZ hc1).1.symm | exact eA (lA rfl rfl (congrArg (Ty.int .i64) (wZ hc1).2))
 refine aj (aC (aG (aG ?_)))
 have hck : bT y = 0 := hc1
 refine aA ?_
 refine aO rfl rfl rfl rfl rfl (by decide) ?_
 refine aL rfl rfl rfl rfl (cY rfl rfl rfl (bF rfl rfl rfl (aD (aC ?_))))
 refine aq rfl (fun hc2 => ?_) (fun hc2 => ?_)
 ·
  refine aG ?_
  refine oI (E := dO) 39 21 ?_
  refine oI (E := cR) 41 22 ?_
  refine oI (E := ct) 102 23 ?_
  refine aA ?_
  refine dB rfl rfl (by exact List.cons_ne_nil _ _) rfl (by repeat (exact (aX.nil : aX _ _ [] _))) (by exact (rfl : _ = some [_, _, _, _])) ?_
  refine bp rfl rfl (by decide) rfl rfl rfl rfl rfl rfl ?_
  refine cE rfl (aD (aC (av (aW ?_))))
  refine oq [21, 22, 23] rfl rfl rfl rfl rfl (by decide) rfl rfl rfl (by decide) ?_ ?_ ?_
  ·exact c7 rfl (bW (by decide) (congrArg ah.bins (xV hck hc2).1)) (c7 rfl (bW (by decide) (congrArg ah.moves (xV hck hc2).1)) (c7 rfl (bW (by decide) (congrArg ah.levels (xV hck hc2).1)) dR))
  all_goals skip
  all_goals first | exact JD (xV hck hc2).1.symm | exact eA (lA rfl rfl (congrArg (Ty.int .i64) (xV hck hc2).2))
 refine aj (aC (aG ?_))
 have hr := dQ hck
 have hl1 := hr.bins
 have hl2 := hr.moves
 have hl3 := hr.levels
 refine aA ?_
 refine aZ rfl rfl rfl (by exact Nat.le_of_ble_eq_true rfl) ?_
 refine bk (res' := Ty.agg [Ty.int .i64 y.days, Ty.row dO 39 21 y.bins, Ty.row cR 41 22 y.moves, Ty.row ct 102 23 y.levels]) [(21, 21), (22, 22), (23, 12)] [21, 22, 23] [] (L5 y hs) rfl rfl (by repeat (first | exact bD | refine aH ?_ ?_ | exact aN rfl rfl)) pre_nil post_nil (n8 (aH (aH (aH (aH bD (fF (by decide))) (fF (by decide))) (fF (by decide))) (aN rfl rfl))) ?_
 refine b9 rfl (by exact List.cons_ne_nil _ _) rfl ?_
 refine bp rfl rfl (by decide) rfl rfl rfl rfl rfl rfl ?_
 refine aD (aC (aG (aA ?_)))
 refine aK rfl rfl rfl rfl rfl (by decide) ?_
 refine aS rfl rfl (by decide) rfl rfl rfl ?_
 refine aZ rfl rfl rfl (by exact Nat.le_of_ble_eq_true rfl) ?_
 refine bw (E := cR) (xs := [m]) rfl rfl rfl rfl rfl (by decide) (by decide) (by repeat (first | exact (aX.nil : aX _ _ [] _) | (show aX _ _ ((_, _) :: _) _; apply aX.agg; (· exact (rfl : _ = Ty.agg _))))) (by exact rfl) rfl ?_
 refine eN rfl rfl (by decide) rfl rfl rfl rfl rfl rfl (by decide) (by (simp <;> omega)) (by (simp <;> omega)) ?_
 refine aK rfl rfl rfl rfl rfl (by decide) ?_
 refine cq rfl rfl (by decide) rfl rfl (by exact (rfl : _ = Ty.row _ _ _ _)) rfl (by exact Nat.le_of_ble_eq_true rfl) rfl rfl (by exact rfl) ?_
 refine aD (aC (aG ?_))
 refine gW (c0 := 8) 1 rfl rfl ?_
 refine gW (c0 := 8) 2 rfl rfl ?_
 refine gW (c0 := 8) 3 rfl rfl ?_
 refine fV (tg := 8) rfl (Cont.dY (l' := yD 21 22 23 (jX y m)) ⟨Ty.aE _, Ty.mF rfl, Ty.mF rfl, Ty.mF rfl, trivial⟩) ?_
 refine c9 (B := live [(4, Ty.ptr 5 0), (7, Ty.ptr 8 0)] [(5, Cont.cells 27 [Ty.int .i64 0, Ty.ex (.slice none 0 0), Ty.ex (.slice none 0 0), Ty.ex (.slice none 0 0)]), (8, Cont.cells 27 (yD 21 22 23 (jX y m))), (21, Cont.vec dO 39 (jX y m).bins), (22, Cont.vec cR 41 (jX y m).moves), (23, Cont.vec ct 102 (jX y m).levels)]) ?_ ?_
 ·(refine dG.mk' ?_ ?_ <;> (repeat' (first | exact aI | exact aJ | refine aB ?_ (Ty.aU _) | refine aB ?_ (Ty.aE _) | refine aF rfl (Cont.aE _) ?_)))
 refine aA ?_
 refine bS rfl rfl (by decide) rfl rfl (by exact Nat.le_of_ble_eq_true rfl) ?_
 refine bk (res' := Ty.ju [Ty.agg (yD 21 22 23 (KM (jX y m))), Ty.int .i64 (bT (jX y m))]) [(21, 21), (22, 22), (23, 23)] [] (Cf 21 22 23 (KM (jX y m))) (K0 (jX y m) (DZ hs m)) rfl rfl (aH bD (n8 (aH (aH (aH (aH bD (dj (by decide))) (dj (by decide))) (dj (by decide))) (aN rfl rfl)))) (b8 (a := 21) (b := 21) (by decide) rfl (bW (by decide) rfl) (b8 (a := 22) (b := 22) (by decide) rfl (bW (by decide) rfl) (b8 (a := 23) (b := 23) (by decide) rfl (bW (by decide) rfl) pre_nil))) (bG (a := 21) (b := 21) (by decide) rfl (bW (by decide) rfl) (bG (a := 22) (b := 22) (by decide) rfl (bW (by decide) rfl) (bG (a := 23) (b := 23) (by decide) rfl (bW (by decide) rfl) post_nil))) (wu (aH (aH bD (aN rfl rfl)) (n8 (aH (aH (aH (aH bD (dj (by decide))) (dj (by decide))) (dj (by decide))) (aN rfl rfl))))) ?_
 refine bL rfl rfl (bL rfl rfl ?_)
 refine bp rfl rfl (by decide) rfl rfl rfl rfl rfl rfl ?_
 refine cE rfl (aD (aC (av ?_)))
 refine oq [21, 22, 23] rfl rfl rfl rfl rfl (by decide) rfl rfl rfl (by decide) ?_ ?_ ?_
 ·exact c7 rfl (bW (by decide) (congrArg ah.bins (xW hck hc2).1)) (c7 rfl (bW (by decide) (congrArg ah.moves (xW hck hc2).1)) (c7 rfl (bW (by decide) (congrArg ah.levels (xW hck hc2).1)) dR))
 all_goals skip
 all_goals first | exact I5 (xW hck hc2).1 | exact eA (lA rfl rfl (congrArg (Ty.int .i64) (xW hck hc2).2))
end Go.Proofs.YtelbollidfdcjaaGreat
namespace Go.Proofs.YtelbollidfdcjaaGreat
open Go Go.T
section
variable {y : ah} {c : Nat → Bool} {a : eM} {l : Level} {b t k : Nat} {s s' : Span} {f : eM → Int}
theorem sV {i : Nat} (h : i < 8) : nth bh i = true := by
 unfold bh; rw [g9 (by rw [List.length_replicate]; exact h), List.getElem_replicate]
theorem A6 (hr : y.cI) : eT y (nth bh) a ↔ eT y (fun _ => true) a := by
 have h8 := hr.levels
 refine ⟨fun h => ⟨h.lens, h.first, h.cont, h.bg, fun i hi _ => h.level i hi (sV (by omega))⟩, fun h => ⟨h.lens, h.first, h.cont, h.bg, fun i hi _ => h.level i hi rfl⟩⟩
structure Oq (y : ah) (l : Level) : Prop where
  day : 0 ≤ l.day ∧ l.day ≤ y.days
  bin : 0 ≤ l.bin ∧ l.bin < y.bins.length
  num : 0 ≤ l.sacks.lo ∧ l.sacks.hi ≤ 300
  ord : l.sacks.lo ≤ l.sacks.hi
theorem z8.le {y' : ah} {c' : Nat → Bool} {g : eM → Int} (h : z8 y c f s) (h' : z8 y' c' g s') (sub : ∀ a, eT y' c' a → eT y c a ∧ g a = f a) : s.lo ≤ s'.lo ∧ s'.hi ≤ s.hi := by
 obtain ⟨a1, f1, e1⟩ := h'.lo
 obtain ⟨a2, f2, e2⟩ := h'.hi
 have h1 := h.all a1 (sub a1 f1).1
 have h2 := h.all a2 (sub a2 f2).1
 rw [← (sub a1 f1).2] at h1
 rw [← (sub a2 f2).2] at h2
 omega
structure zG (y z : ah) : Prop where
  days : z.days = y.days
  bins : z.bins = y.bins
  moves : z.moves = y.moves
  less : ∀ a, eT z (fun _ => true) a → eT y (fun _ => true) a
variable {z : ah}
theorem zG.D (h : zG y z) : z.D = y.D := by unfold ah.D; rw [h.days]
theorem zG.cont (h : zG y z) : dN z a b t = dN y a b t := by unfold dN nk; rw [h.moves]
theorem zG.fits (h : zG y z) (hy : y.cI) (hz : z.cI) (ha : eT z (nth bh) a) : eT y (nth bh) a := (A6 hy).2 (h.less a ((A6 hz).1 ha))
end
end Go.Proofs.YtelbollidfdcjaaGreat
namespace Go.Proofs.YtelbollidfdcjaaGreat
open Go Go.T
def gB : Nat → Nat → List Int → Prop
  | _, _, [] => True
  | i, n, x :: xs => ∃ k : Nat, x = k ∧ i ≤ k ∧ k < n ∧ gB (k + 1) n xs
section
variable {h : List Int → Bool} {many lim n d i k : Nat} {l o w s x : List Int} {v : Int}
theorem gB.low : ∀ {l : List Int} {i : Nat}, gB (i + 1) n l → gB i n l
  | [], _, _ => trivial
  | _ :: _, _, ⟨k, e, h1, h2, h3⟩ => ⟨k, e, by omega, h2, h3⟩
theorem gB.low' : ∀ {l : List Int} {i k : Nat}, i ≤ k → gB k n l → gB i n l
  | [], _, _, _, _ => trivial
  | _ :: _, _, _, h, ⟨k, e, h1, h2, h3⟩ => ⟨k, e, by omega, h2, h3⟩
theorem gB.len : ∀ {l : List Int} {i : Nat}, gB i n l → l.length ≤ n - i
  | [], _, _ => Nat.zero_le _
  | _ :: xs, i, ⟨k, _, h1, h2, h3⟩ => by
    have := gB.len h3
    show xs.length + 1 ≤ n - i; omega
theorem gB.mem : ∀ {l : List Int} {i : Nat}, gB i n l → ∀ v ∈ l, ∃ k : Nat, v = k ∧ i ≤ k ∧ k < n
  | [], _, _, _, hv => by cases hv
  | _ :: _, i, ⟨k, e, h1, h2, h3⟩, v, hv => by
    rcases List.mem_cons.1 hv with rfl | hv
    · exact ⟨k, e, h1, h2⟩
    · obtain ⟨j, e, h4, h5⟩ := gB.mem h3 v hv
      exact ⟨j, e, by omega, h5⟩
theorem gB.nodup : ∀ {l : List Int} {i : Nat}, gB i n l → l.Nodup
  | [], _, _ => List.nodup_nil
  | x :: xs, i, ⟨k, e, h1, h2, h3⟩ => by
    refine List.nodup_cons.2 ⟨fun hm => ?_, gB.nodup h3⟩
    obtain ⟨j, e2, h4, _⟩ := gB.mem h3 _ hm
    omega
theorem gB.sub : ∀ {l k : List Int} {i : Nat}, k.Sublist l → gB i n l → gB i n k
  | _, _, _, .slnil, _ => trivial
  | _ :: _, _, _, .cons _ h, ⟨k, _, h1, _, h3⟩ => (gB.sub h h3).low' (by omega)
  | _ :: _, _ :: _, _, .cons_cons _ h, ⟨k, e, h1, h2, h3⟩ => ⟨k, e, h1, h2, gB.sub h h3⟩
theorem pZ : ∀ (d : Nat) (l : List Int) (i : Nat), l.length < many → (x ∈ wB many d l i ↔ ∃ s, gB i (i + d) s ∧ x = l ++ s ∧ x.length = many)
  | 0, l, i, hl => by
    constructor
    · intro h; exact absurd h List.not_mem_nil
    · rintro ⟨s, hs, rfl, e⟩
      have := hs.len
      rw [List.length_append] at e; omega
  | d + 1, l, i, hl => by
    unfold wB
    rw [List.mem_append]
    constructor
    · rintro (h1 | h1)
      · by_cases e : (l ++ [(i : Int)]).length = many
        · rw [if_pos e] at h1
          have h1 := List.mem_singleton.1 h1
          exact ⟨[(i : Int)], ⟨i, rfl, Nat.le_refl _, by omega, trivial⟩, h1, by rw [h1]; exact e⟩
        · rw [if_neg e] at h1
          obtain ⟨s, hs, e1, e2⟩ := (pZ d _ (i + 1) (by rw [List.length_append] at e ⊢; have e : ¬ l.length + 1 = many := e; show l.length + 1 < many; omega)).1 h1
          refine ⟨(i : Int) :: s, ⟨i, rfl, Nat.le_refl _, by omega, ?_⟩, by rw [e1, List.append_assoc]; rfl, e2⟩
          rwa [show i + (d + 1) = i + 1 + d by omega]
      · obtain ⟨s, hs, e1, e2⟩ := (pZ d l (i + 1) hl).1 h1
        refine ⟨s, ?_, e1, e2⟩
        rw [show i + (d + 1) = i + 1 + d by omega]
        exact hs.low
    · rintro ⟨s, hs, ex, e0⟩
      have e2 : (l ++ s).length = many := by rw [← ex]; exact e0
      match s, hs, ex, e2 with
      | [], _, _, e2 => rw [List.append_nil] at e2; omega
      | y :: s, ⟨k, e, h1, h2, h3⟩, ex, e2 =>
        by_cases e3 : k = i
        · refine .inl ?_
          rw [← e3]
          rw [e] at ex
          by_cases e4 : (l ++ [(k : Int)]).length = many
          · rw [if_pos e4]
            have : s = [] := by
              rw [List.length_append] at e2 e4
              have e2 : l.length + (s.length + 1) = many := e2
              have e4 : l.length + 1 = many := e4
              exact List.length_eq_zero_iff.1 (by omega)
            rw [ex, this]
            exact List.mem_singleton.2 rfl
          · rw [if_neg e4]
            refine (pZ d _ (k + 1) ?_).2 ⟨s, ?_, by rw [ex, List.append_assoc]; rfl, e0⟩
            · rw [List.length_append] at e2 e4 ⊢
              have e2 : l.length + (s.length + 1) = many := e2
              have e4 : ¬ l.length + 1 = many := e4
              show l.length + 1 < many; omega
            · rwa [show k + 1 + d = i + (d + 1) by omega]
        · refine .inr ((pZ d l (i + 1) hl).2 ⟨y :: s, ⟨k, e, by omega, by omega, ?_⟩, ex, e0⟩)
          rwa [show i + 1 + d = i + (d + 1) by omega]
theorem BQ : x ∈ Ao many lim ↔ gB 0 lim x ∧ x.length = many := by
 unfold Ao
 by_cases e : many = 0
 ·rw [if_pos e, List.mem_singleton]
  subst e
  exact ⟨fun h => by subst h; exact ⟨trivial, rfl⟩, fun h => List.length_eq_zero_iff.1 h.2⟩
 rw [if_neg e, pZ lim [] 0 (by show 0 < many; omega), Nat.zero_add]
 exact ⟨fun ⟨s, h1, h2, h3⟩ => by rw [List.nil_append] at h2; subst h2; exact ⟨h1, h3⟩, fun h => ⟨x, h.1, rfl, h.2⟩⟩
theorem rQ : x ∈ (List.range k).flatMap (fun k => Ao k lim) ↔ gB 0 lim x ∧ x.length < k := by
 rw [List.mem_flatMap]
 refine ⟨fun ⟨j, hj, h1⟩ => ?_, fun ⟨h1, h2⟩ => ⟨x.length, List.mem_range.2 h2, BQ.2 ⟨h1, rfl⟩⟩⟩
 have h2 := BQ.1 h1
 exact ⟨h2.1, by rw [h2.2]; exact List.mem_range.1 hj⟩
theorem BO (hs : fT h lim = some l) : gB 0 lim l ∧ h l = true ∧ ∀ x, gB 0 lim x → h x = true → l.length ≤ x.length := by
  unfold fT at hs
  have h1 := rQ.1 (List.mem_of_find?_eq_some hs)
  refine ⟨h1.1, List.find?_some hs, fun x hx e => ?_⟩
  refine Decidable.byContradiction fun hn => ?_
  obtain ⟨r, hr⟩ := range_split (show l.length < lim + 1 from h1.2)
  rw [hr, List.flatMap_append, List.find?_append] at hs
  cases e2 : List.find? h ((List.range l.length).flatMap fun k => Ao k lim) with
  | some u =>
    rw [e2] at hs
    have hs : some u = some l := hs
    cases hs
    have := (rQ.1 (List.mem_of_find?_eq_some e2)).2
    omega
  | none =>
    have := List.find?_eq_none.1 e2 x (rQ.2 ⟨hx, by omega⟩)
    exact this e
theorem zM (hs : fT h lim = none) : ∀ x, gB 0 lim x → h x = false := fun x hx => by
 unfold fT at hs
 have := List.find?_eq_none.1 hs x (rQ.2 ⟨hx, by have := hx.len; omega⟩)
 exact Bool.eq_false_iff.2 this
theorem yF (hh : ∀ x, gB 0 lim x → h x = false) : fT h lim = none := by
 unfold fT
 rw [List.find?_eq_none]
 intro x hx e
 rw [hh x (rQ.1 hx).1] at e; cases e
def jV (w : List Int) (n : Nat) : List Int := ((List.range n).filter fun i : Nat => !decide ((i : Int) ∈ w)).map fun i : Nat => (i : Int)
theorem GS (h : (n : Int) ∈ w) : jV w (n + 1) = jV w n := by
 unfold jV; rw [List.range_succ, List.filter_append, List.filter_cons_of_neg (by simp [h]), List.filter_nil, List.append_nil]
theorem Iw (h : ¬ (n : Int) ∈ w) : jV w (n + 1) = jV w n ++ [(n : Int)] := by
 unfold jV; rw [List.range_succ, List.filter_append, List.filter_cons_of_pos (by simp [h]), List.filter_nil, List.map_append]; rfl
theorem kE : v ∈ jV w n ↔ (∃ k : Nat, v = k ∧ k < n) ∧ ¬ v ∈ w := by
 unfold jV
 rw [List.mem_map]
 constructor
 ·rintro ⟨k, hk, rfl⟩
  rw [List.mem_filter, List.mem_range] at hk
  exact ⟨⟨k, rfl, hk.1⟩, by simpa using hk.2⟩
 rintro ⟨⟨k, rfl, hk⟩, h2⟩
 exact ⟨k, List.mem_filter.2 ⟨List.mem_range.2 hk, by simpa using h2⟩, rfl⟩
theorem wK : ∀ {l : List Int} {i : Nat}, gB i n l → i ≤ n → gB i (n + 1) (l ++ [(n : Int)])
  | [], _, _, h => ⟨n, rfl, h, by omega, trivial⟩
  | _ :: _, _, ⟨k, e, h1, h2, h3⟩, _ => ⟨k, e, h1, by omega, wK h3 (by omega)⟩
theorem gB.up : ∀ {l : List Int} {i : Nat}, gB i n l → gB i (n + 1) l
  | [], _, _ => trivial
  | _ :: _, _, ⟨k, e, h1, h2, h3⟩ => ⟨k, e, h1, by omega, gB.up h3⟩
theorem kg : ∀ n, gB 0 n (jV w n)
  | 0 => trivial
  | n + 1 => by
    by_cases h : (n : Int) ∈ w
    · rw [GS h]; exact (kg n).up
    · rw [Iw h]; exact wK (kg n) (by omega)
theorem wP {α : Type} [DecidableEq α] : ∀ {l k : List α}, l.Nodup → (∀ x ∈ l, x ∈ k) → l.length ≤ k.length
  | [], _, _, _ => Nat.zero_le _
  | x :: l, k, h, hs => by
    have h1 := List.nodup_cons.1 h
    have h2 : x ∈ k := hs x List.mem_cons_self
    have h3 := wP (l := l) (k := k.erase x) h1.2 fun z hz => (List.mem_erase_of_ne (fun e => h1.1 (by rw [← e]; exact hz))).2 (hs z (List.mem_cons_of_mem _ hz))
    rw [List.length_erase_of_mem h2] at h3
    have := List.length_pos_of_mem h2
    show l.length + 1 ≤ k.length; omega
theorem Gl (hw : gB 0 n w) : (jV w n).length + w.length = n := by
  have h1 : (jV w n ++ w).length ≤ ((List.range n).map fun i : Nat => (i : Int)).length := by
    refine wP (List.nodup_append.2 ⟨(kg n).nodup, hw.nodup, fun a ha b hb e => ?_⟩) fun x hx => ?_
    · subst e; exact (kE.1 ha).2 hb
    · rw [List.mem_map]
      rcases List.mem_append.1 hx with h | h
      · obtain ⟨⟨k, rfl, hk⟩, _⟩ := kE.1 h
        exact ⟨k, List.mem_range.2 hk, rfl⟩
      · obtain ⟨k, rfl, _, hk⟩ := hw.mem x h
        exact ⟨k, List.mem_range.2 hk, rfl⟩
  have h2 : ((List.range n).map fun i : Nat => (i : Int)).length ≤ (jV w n ++ w).length := by
    have hnd : ∀ n, gB 0 n ((List.range n).map fun i : Nat => (i : Int)) := fun n => by
      induction n with
      | zero => exact trivial
      | succ n ih => rw [List.range_succ, List.map_append]; exact wK ih (by omega)
    refine wP (hnd n).nodup fun x hx => ?_
    obtain ⟨k, hk, rfl⟩ := List.mem_map.1 hx
    rw [List.mem_append]
    by_cases e : (k : Int) ∈ w
    · exact .inr e
    · exact .inl (kE.2 ⟨⟨k, rfl, List.mem_range.1 hk⟩, e⟩)
  rw [List.length_append, List.length_map, List.length_range] at h1 h2
  omega
end
section
variable {y : ah} {l k w : List Int} {o o' : Bool} {i n : Nat} {a : eM} {v : Int}
theorem zH (h : i < 8) : nth (bq l o) i = jF l o i := by unfold bq; rw [gM _ h]
theorem oa (hr : y.cI) : dH y (bq l o) = true ↔ ∃ a, eT y (jF l o) a := by
 have h8 := hr.levels
 rw [uH hr]
 constructor
 ·exact fun ⟨a, h⟩ => ⟨a, h.lens, h.first, h.cont, h.bg, fun i hi e => h.level i hi (by rw [zH (by omega)]; exact e)⟩
 exact fun ⟨a, h⟩ => ⟨a, h.lens, h.first, h.cont, h.bg, fun i hi e => h.level i hi (by rw [zH (by omega)] at e; exact e)⟩
theorem o7 (hr : y.cI) (h : ∀ i, i < y.levels.length → jF k o' i = true → jF l o i = true) (ha : dH y (bq l o) = true) : dH y (bq k o') = true := by
 obtain ⟨a, f⟩ := (oa hr).1 ha
 exact (oa hr).2 ⟨a, f.lens, f.first, f.cont, f.bg, fun i hi e => f.level i hi (h i hi e)⟩
theorem Ev : jF l false i = decide ((i : Int) ∈ l) := by unfold jF; cases decide ((i : Int) ∈ l) <;> rfl
theorem AU : jF l true i = !decide ((i : Int) ∈ l) := by unfold jF; cases decide ((i : Int) ∈ l) <;> rfl
theorem nr (hr : y.cI) : cN y = 0 ↔ dH y (bq [] true) = true := by
 rw [HM (gy hr), oa hr]
 have h8 := hr.levels
 constructor
 ·exact fun ⟨a, h⟩ => ⟨a, h.lens, h.first, h.cont, h.bg, fun i hi _ => h.level i hi (sV (by omega))⟩
 exact fun ⟨a, h⟩ => ⟨a, h.lens, h.first, h.cont, h.bg, fun i hi _ => h.level i hi (by rw [AU]; rfl)⟩
noncomputable def m4 (y : ah) (l : List Int) : Bool := !dH y (bq l false)
noncomputable def DT (y : ah) (l : List Int) : Bool := dH y (bq l true)
theorem Dc (hr : y.cI) (ho : cN y = 0) : fT (m4 y) y.levels.length = none :=
 yF fun x _ => by
  unfold m4
  rw [o7 hr (fun i hi _ => by rw [AU]; rfl) ((nr hr).1 ho)]; rfl
theorem DK (hr : y.cI) (ho : ¬ cN y = 0) : ∃ l, fT (m4 y) y.levels.length = some l := by
  cases e : fT (m4 y) y.levels.length with
  | some l => exact ⟨l, rfl⟩
  | none =>
    have h1 := zM e _ (kg (w := []) y.levels.length)
    unfold m4 at h1
    have h1 : dH y (bq (jV [] y.levels.length) false) = true := by
      cases h2 : dH y (bq (jV [] y.levels.length) false) with
      | true => rfl
      | false => rw [h2] at h1; cases h1
    exact absurd ((nr hr).2 (o7 hr (fun i hi _ => by rw [Ev, decide_eq_true_eq]; exact kE.2 ⟨⟨i, rfl, hi⟩, List.not_mem_nil⟩) h1)) ho
end
end Go.Proofs.YtelbollidfdcjaaGreat
namespace Go.Proofs.YtelbollidfdcjaaGreat
open Go Go.T
structure On where
  ls : List Level
  q : Sk
  bad : Nat
section
variable {ls : List Level} {q : Sk} {k i n : Nat} {s : On}
structure Ot (ls : List Level) (q : Sk) (k : Nat) (s : On) : Prop where
  len : s.ls.length = ls.length
  low : q.taken ≤ s.q.taken
  high : s.q.taken ≤ q.taken + 3 * k
  Ls : ∀ i, i < ls.length → ((nth s.ls i).day = (nth ls i).day ∧ (nth s.ls i).bin = (nth ls i).bin) ∧ ((nth s.ls i).sacks = (nth ls i).sacks ∨ (0 ≤ (nth s.ls i).sacks.lo ∧ (nth s.ls i).sacks.hi ≤ 300) ∧ (nth s.ls i).sacks.lo ≤ (nth s.ls i).sacks.hi)
  diff : ∃ B : List Int, gB 0 k B ∧ B.length = s.bad ∧ ∀ i, i < ls.length → ¬ (i : Int) ∈ B → nth s.ls i = nth ls i
end
section
variable {y : ah} {q : Sk} {a : eM} {l w : List Int} {k i : Nat} {v : Int}
theorem JE (hr : y.cI) (hn : l.Nodup) (hm : ∀ x ∈ l, ∃ k : Nat, x = k ∧ k < y.levels.length) : Jg y l = 0 ∧ Lp y l = dH y (bq l false) := by
 have h := Oi (gy hr) (l := l) (List.all_eq_true.2 fun x hx => by
  obtain ⟨k, rfl, hk⟩ := hm x hx
  unfold N3
  rw [Bool.and_eq_true, decide_eq_true_eq, decide_eq_true_eq]; omega) hn
 exact ⟨h.1.symm, h.2.symm⟩
structure td (z : ah) (n bad : Nat) : Prop where
  right : z.cI
  len : z.levels.length = n
  free : ∃ B a, gB 0 n B ∧ B.length = bad ∧ eT z (jF B true) a
variable {z : ah} {n bad : Nat}
theorem td.Bk (h : td z n bad) : jJ z = 0 ∧ gB 0 n (eJ z) ∧ dH z (bq (eJ z) true) = true ∧ (∀ x, gB 0 n x → dH z (bq x true) = true → (eJ z).length ≤ x.length) ∧ (eJ z).length ≤ bad := by
  obtain ⟨B, a, hB, hl, hf⟩ := h.free
  have hag : dH z (bq B true) = true := (oa h.right).2 ⟨a, hf⟩
  have hn := h.len
  cases e : fT (DT z) z.levels.length with
  | none =>
    have h1 := zM e B (by rw [hn]; exact hB)
    have h1 : dH z (bq B true) = false := h1
    rw [hag] at h1; cases h1
  | some w =>
    have hw := vL (gy h.right) (by
      show (!(fT (DT z) z.levels.length).isSome) = false
      rw [e]; rfl)
    have e2 : eJ z = w := by
      rw [← hw.2]
      show A5 (DT z) z.levels.length = w
      unfold A5; rw [e]; rfl
    have hs := BO e
    rw [hn] at hs
    rw [e2]
    exact ⟨hw.1.symm, hs.1, hs.2.1, hs.2.2, by rw [← hl]; exact hs.2.2 B hB hag⟩
theorem td.nT (h : td z n bad) (ho : cN z = 0) : (jg z = 6 ∧ gD z = []) ∧ (eJ z).length = 0 := by
 have h1 := Dc h.right ho
 have h2 := Aj (gy h.right) (by show (!(fT (m4 z) z.levels.length).isSome) = true; rw [h1]; rfl)
 have h3 := h.Bk.2.2.2.1 [] trivial ((nr h.right).1 ho)
 exact ⟨⟨h2.1.symm, h2.2.symm⟩, Nat.le_zero.1 h3⟩
theorem td.LF (h : td z n bad) (ho : ¬ cN z = 0) : jg z = 0 ∧ (gB 0 n (gD z) ∧ dH z (bq (gD z) false) = false ∧ ∀ x, gB 0 n x → x.length < (gD z).length → dH z (bq x false) = true) ∧ ¬ (eJ z).length = 0 ∧ ¬ (gD z).length = 0 := by
  obtain ⟨l, e⟩ := DK h.right ho
  have hw := vi (gy h.right) (by show (!(fT (m4 z) z.levels.length).isSome) = false; rw [e]; rfl)
  have e2 : gD z = l := by
    rw [← hw.2]
    show A5 (m4 z) z.levels.length = l
    unfold A5; rw [e]; rfl
  have hs := BO e
  rw [h.len] at hs
  have hb : ∀ x, m4 z x = true ↔ dH z (bq x false) = false := fun x => by unfold m4; cases dH z (bq x false) <;> simp
  have h0 : ¬ l.length = 0 := fun hl => by
    obtain rfl := List.length_eq_zero_iff.1 hl
    obtain ⟨B, a, _, _, hf⟩ := h.free
    have h1 := (hb []).1 hs.2.1
    rw [o7 (l := B) (o := true) h.right (fun i _ hc => by rw [Ev] at hc; simp at hc) ((oa h.right).2 ⟨a, hf⟩)] at h1
    cases h1
  rw [e2]
  refine ⟨hw.1.symm, ⟨hs.1, (hb l).1 hs.2.1, fun x hx hlt => ?_⟩, fun hl => ?_, h0⟩
  · cases e3 : dH z (bq x false) with
    | true => rfl
    | false => have := hs.2.2 x hx ((hb x).2 e3); omega
  · have := h.Bk.2.2.1
    rw [List.length_eq_zero_iff.1 hl] at this
    exact ho ((nr h.right).2 this)
theorem td.rest (h : td z n bad) : Jg z (jV (eJ z) n) = 0 ∧ Lp z (jV (eJ z) n) = true ∧ (jV (eJ z) n).length + (eJ z).length = n := by
 have hw := h.Bk
 have h1 := JE h.right (kg (w := eJ z) n).nodup fun x hx => by
  obtain ⟨k, e, _, hk⟩ := (kg n).mem x hx
  exact ⟨k, e, by rw [h.len]; exact hk⟩
 refine ⟨h1.1, ?_, Gl hw.2.1⟩
 rw [h1.2]
 exact o7 h.right (fun i _ hc => by
  rw [Ev, decide_eq_true_eq] at hc
  rw [AU]
  simpa using (kE.1 hc).2) hw.2.2.1
theorem td.more (h : td z n bad) (hv : v ∈ eJ z) : Jg z (jV (eJ z) n ++ [v]) = 0 ∧ Lp z (jV (eJ z) n ++ [v]) = false := by
 have hw := h.Bk
 have hna := hw.2.1.nodup
 have h1 := JE (l := jV (eJ z) n ++ [v]) h.right (DQ (kg (w := eJ z) n).nodup fun hm => (kE.1 hm).2 hv) fun x hx => by
  rcases List.mem_append.1 hx with hx | hx
  ·obtain ⟨k, e, _, hk⟩ := (kg n).mem x hx
   exact ⟨k, e, by rw [h.len]; exact hk⟩
  obtain rfl := List.mem_singleton.1 hx
  obtain ⟨k, e, _, hk⟩ := hw.2.1.mem x hv
  exact ⟨k, e, by rw [h.len]; exact hk⟩
 refine ⟨h1.1, ?_⟩
 rw [h1.2, Bool.eq_false_iff]
 intro hc
 have h2 := hw.2.2.2.1 ((eJ z).erase v) (hw.2.1.sub List.erase_sublist) (o7 h.right (fun i hi hc => by
  rw [h.len] at hi
  rw [AU] at hc
  have hc : ¬ (i : Int) ∈ (eJ z).erase v := by simpa using hc
  rw [Ev, decide_eq_true_eq, List.mem_append]
  by_cases e : (i : Int) = v
  ·exact .inr (List.mem_singleton.2 e)
  exact .inl (kE.2 ⟨⟨i, rfl, hi⟩, fun hm => hc ((List.mem_erase_of_ne e).2 hm)⟩)) hc)
 rw [List.length_erase_of_mem hv] at h2
 have := List.length_pos_of_mem hv
 omega
theorem td.less (h : td z n bad) (ho : ¬ cN z = 0) (hk : k < (gD z).length) : Jg z ((gD z).eraseIdx k) = 0 ∧ Lp z ((gD z).eraseIdx k) = true := by
 have hc := (h.LF ho).2.1
 have hs := hc.1.sub (List.eraseIdx_sublist (gD z) k)
 have h1 := JE (l := (gD z).eraseIdx k) h.right hs.nodup fun x hx => by
  obtain ⟨k, e, _, hk⟩ := hs.mem x hx
  exact ⟨k, e, by rw [h.len]; exact hk⟩
 exact ⟨h1.1, by rw [h1.2]; exact hc.2.2 _ hs (by rw [List.length_eraseIdx_of_lt hk]; omega)⟩
end
end Go.Proofs.YtelbollidfdcjaaGreat
namespace Go.Proofs.YtelbollidfdcjaaGreat
open Go Go.T
theorem HK {f : Nat → Int} {m m' : Nat → Nat} {n : Nat} (h1 : ∀ i, i < n → m i < n ∧ m' (m i) = i) (h2 : ∀ j, j < n → m' j < n ∧ m (m' j) = j) : cy f n = cy (fun i => f (m i)) n := by
 have e1 : cy (fun j => cy (fun i => if m i = j then f j else 0) n) n = cy f n := eD fun j hj => by
  rw [iE (k := m' j) (h2 j hj).1 (fun i hi hne => if_neg fun e => hne (by rw [← e, (h1 i hi).2])), if_pos (h2 j hj).2]
 have e2 : cy (fun i => cy (fun j => if m i = j then f j else 0) n) n = cy (fun i => f (m i)) n := eD fun i hi => by
  rw [iE (k := m i) (h1 i hi).1 (fun j hj hne => if_neg fun e => hne e.symm), if_pos rfl]
 rw [← e1, ← e2, tH]
structure Inv (n : Nat) (f g : Nat → Nat) : Prop where
  to : ∀ i, i < n → f i < n ∧ g (f i) = i
  back : ∀ j, j < n → g j < n ∧ f (g j) = j
theorem Inv.symm {n : Nat} {f g : Nat → Nat} (h : Inv n f g) : Inv n g f := ⟨h.back, h.to⟩
def m6 (f : Nat → Nat) (x : Int) : Int := if x < 0 then x else (f x.toNat : Int)
def Kc (f : Nat → Nat) (m : Move) : Move := ⟨m.day, m6 f m.src, m6 f m.dst, m.sacks⟩
def Jt (f : Nat → Nat) (l : Level) : Level := ⟨l.day, m6 f l.bin, l.sacks⟩
section
variable {n : Nat} {f g : Nat → Nat} {x z : Int}
theorem sA (h : x < 0) : m6 f x = x := if_pos h
theorem lg (h : 0 ≤ x) : m6 f x = (f x.toNat : Int) := if_neg (by omega)
theorem AI (h : Inv n f g) (hx : -1 ≤ x ∧ x < n) : -1 ≤ m6 f x ∧ m6 f x < n := by
 by_cases e : x < 0
 ·rw [sA e]; exact hx
 rw [lg (by omega)]
 have := (h.to x.toNat (by omega)).1
 omega
theorem pM (h : Inv n f g) (hx : -1 ≤ x ∧ x < n) : m6 g (m6 f x) = x := by
 by_cases e : x < 0
 ·rw [sA e, sA e]
 rw [lg (x := x) (by omega), lg (by omega), Int.toNat_natCast]
 have := (h.to x.toNat (by omega)).2
 rw [this]; omega
theorem FJ (h : Inv n f g) (hx : -1 ≤ x ∧ x < n) (hz : -1 ≤ z ∧ z < n) : m6 f x = m6 f z ↔ x = z :=
 ⟨fun e => by rw [← pM h hx, e, pM h hz], fun e => by rw [e]⟩
theorem CC (h : Inv n f g) {k : Nat} (hk : k < n) (hx : -1 ≤ x ∧ x < n) : m6 f x = (f k : Int) ↔ x = k := by
 have e : m6 f (k : Int) = (f k : Int) := by rw [lg (by omega), Int.toNat_natCast]
 rw [← e]; exact FJ h hx (by omega)
theorem Eo {p q : Prop} [Decidable p] [Decidable q] (h : p ↔ q) : ind p = ind q := by
 by_cases e : p
 ·rw [fR e, fR (h.1 e)]
 rw [fH e, fH fun e' => e (h.2 e')]
end
structure nE (y o : ah) (b b' m m' l l' : Nat → Nat) : Prop where
  days : o.days = y.days
  nb : o.bins.length = y.bins.length
  nm : o.moves.length = y.moves.length
  nl : o.levels.length = y.levels.length
  ib : Inv y.bins.length b b'
  im : Inv y.moves.length m m'
  il : Inv y.levels.length l l'
  bin : ∀ k, k < y.bins.length → nth o.bins (b k) = nth y.bins k
  mov : ∀ i, i < y.moves.length → nth o.moves (m i) = Kc b (nth y.moves i)
  Ls : ∀ i, i < y.levels.length → nth o.levels (l i) = Jt b (nth y.levels i)
def Jh (y : ah) (b' m' : Nat → Nat) (a : eM) : eM := ⟨(List.range y.bins.length).map fun k => nth a.first (b' k), (List.range y.moves.length).map fun k => nth a.bg (m' k)⟩
section
variable {y o : ah} {b b' m m' l l' : Nat → Nat} {a : eM} {c c' : Nat → Bool} {k t i : Nat}
theorem nE.D (h : nE y o b b' m m' l l') : o.D = y.D := by unfold ah.D; rw [h.days]
theorem nE.Kr (h : nE y o b b' m m' l l') (hk : k < y.bins.length) : nth o.bins k = nth y.bins (b' k) := by
 have h1 := h.ib.back k hk
 rw [← h.bin _ h1.1, h1.2]
theorem nE.MU (h : nE y o b b' m m' l l') (hk : k < y.moves.length) : nth o.moves k = Kc b (nth y.moves (m' k)) := by
 have h1 := h.im.back k hk
 rw [← h.mov _ h1.1, h1.2]
theorem nE.Mf (h : nE y o b b' m m' l l') (hk : k < y.levels.length) : nth o.levels k = Jt b (nth y.levels (l' k)) := by
 have h1 := h.il.back k hk
 rw [← h.Ls _ h1.1, h1.2]
theorem nE.right (h : nE y o b b' m m' l l') (hr : y.cI) : o.cI := by
 refine ⟨by rw [h.days]; exact hr.days, by rw [h.nb]; exact hr.bins, by rw [h.nm]; exact hr.moves, by rw [h.nl]; exact hr.levels, fun x hx => ?_, fun x hx => ?_, fun x hx => ?_⟩
 ·obtain ⟨k, hk, rfl⟩ := jk hx
  rw [h.nb] at hk
  rw [h.Kr hk]; exact hr.bin _ (cL (h.ib.back k hk).1)
 ·obtain ⟨k, hk, rfl⟩ := jk hx
  rw [h.nm] at hk
  rw [h.MU hk, h.days, h.nb]
  obtain ⟨h1, h2, h3, h4, h5⟩ := hr.move _ (cL (h.im.back k hk).1)
  exact ⟨h1, AI h.ib h2, AI h.ib h3, fun e => h4 ((FJ h.ib h2 h3).1 e), h5⟩
 obtain ⟨k, hk, rfl⟩ := jk hx
 rw [h.nl] at hk
 rw [h.Mf hk, h.days, h.nb]
 obtain ⟨h1, h2, h3⟩ := hr.level _ (cL (h.il.back k hk).1)
 refine ⟨h1, ?_, h3⟩
 show 0 ≤ m6 b _ ∧ m6 b _ < _
 have := AI h.ib (x := (nth y.levels (l' k)).bin) ⟨by omega, h2.2⟩
 rw [lg h2.1] at this ⊢
 omega
theorem nE.symm (h : nE y o b b' m m' l l') (hr : y.cI) : nE o y b' b m' m l' l := by
 refine ⟨h.days.symm, h.nb.symm, h.nm.symm, h.nl.symm, by rw [h.nb]; exact h.ib.symm, by rw [h.nm]; exact h.im.symm, by rw [h.nl]; exact h.il.symm, fun k hk => ?_, fun i hi => ?_, fun i hi => ?_⟩
 ·rw [h.nb] at hk; exact (h.Kr hk).symm
 ·rw [h.nm] at hi
  obtain ⟨h1, h2, h3, h4, h5⟩ := hr.move _ (cL (h.im.back i hi).1)
  rw [h.MU hi]
  unfold Kc
  rw [pM h.ib h2, pM h.ib h3]
 rw [h.nl] at hi
 obtain ⟨h1, h2, h3⟩ := hr.level _ (cL (h.il.back i hi).1)
 rw [h.Mf hi]
 unfold Jt
 rw [pM h.ib ⟨by omega, h2.2⟩]
theorem sO (h : nE y o b b' m m' l l') (hr : y.cI) (hk : k < y.bins.length) : dN o (Jh y b' m' a) (b k) t = dN y a k t := by
 unfold dN
 have e1 : nth (Jh y b' m' a).first (b k) = nth a.first k := by
  show nth (List.map _ _) _ = _
  rw [gM _ (h.ib.to k hk).1, (h.ib.to k hk).2]
 rw [e1, h.nm, HK (m := m) (m' := m') h.im.to h.im.back]
 congr 1
 refine eD fun i hi => ?_
 obtain ⟨h1, h2, h3, h4, h5⟩ := hr.move _ (cL hi)
 have e2 : nth (Jh y b' m' a).bg (m i) = nth a.bg i := by
  show nth (List.map _ _) _ = _
  rw [gM _ (h.im.to i hi).1, (h.im.to i hi).2]
 unfold nk
 rw [e2, h.mov i hi]
 show (if (nth y.moves i).day < _ then (ind (m6 b (nth y.moves i).dst = (b k : Nat)) - ind (m6 b (nth y.moves i).src = (b k : Nat))) * _ else 0) = _
 rw [Eo (CC h.ib hk h3), Eo (CC h.ib hk h2)]
theorem HP (h : nE y o b b' m m' l l') (hr : y.cI) (hc : ∀ i, i < y.levels.length → c' (l i) = true → c i = true) (f : eT y c a) : eT o c' (Jh y b' m' a) := by
 have ec : ∀ k t, k < y.bins.length → dN o (Jh y b' m' a) k t = dN y a (b' k) t := fun k t hk => by
  have h1 := h.ib.back k hk
  have := sO (a := a) (t := t) h hr h1.1
  rwa [h1.2] at this
 refine ⟨⟨by rw [h.nb]; simp [Jh], by rw [h.nm]; simp [Jh]⟩, fun k hk => ?_, fun k t hk ht => ?_, fun i hi => ?_, fun i hi e => ?_⟩
 ·rw [h.nb] at hk
  have e1 : nth (Jh y b' m' a).first k = nth a.first (b' k) := gM _ hk
  rw [h.Kr hk, e1]
  exact f.first _ (h.ib.back k hk).1
 ·rw [h.nb] at hk
  rw [h.D] at ht
  rw [h.Kr hk, ec _ _ hk]
  exact f.cont _ _ (h.ib.back k hk).1 ht
 ·rw [h.nm] at hi
  have e1 : nth (Jh y b' m' a).bg i = nth a.bg (m' i) := gM _ hi
  rw [h.MU hi, e1]
  exact f.bg _ (h.im.back i hi).1
 rw [h.nl] at hi
 have h1 := h.il.back i hi
 have h2 := (hr.level _ (cL h1.1)).2.1
 have h3 := f.level (l' i) h1.1 (hc _ h1.1 (by rw [h1.2]; exact e))
 rw [h.Mf hi]
 show _ ≤ dN o _ (m6 b (nth y.levels (l' i)).bin).toNat (nth y.levels (l' i)).day.toNat ∧ dN o _ (m6 b (nth y.levels (l' i)).bin).toNat (nth y.levels (l' i)).day.toNat ≤ _
 rw [lg h2.1, Int.toNat_natCast, sO h hr (by omega)]
 exact h3
theorem xh {z : ah} {f g : eM → Int} {s s' : Span} (h : z8 y c f s) (h' : z8 z c' g s') (F : ∀ a, eT y c a → ∃ a', eT z c' a' ∧ g a' = f a) : s'.lo ≤ s.lo ∧ s.hi ≤ s'.hi := by
 obtain ⟨a1, f1, e1⟩ := h.lo
 obtain ⟨a2, f2, e2⟩ := h.hi
 obtain ⟨x1, g1, d1⟩ := F a1 f1
 obtain ⟨x2, g2, d2⟩ := F a2 f2
 have h1 := h'.all x1 g1
 have h2 := h'.all x2 g2
 omega
theorem uO (h : nE y o b b' m m' l l') (hr : y.cI) (f : eT y (nth bh) a) : eT o (nth bh) (Jh y b' m' a) :=
 HP h hr (fun i hi _ => sV (by have := hr.levels; omega)) f
theorem Cx (h : nE y o b b' m m' l l') (hr : y.cI) (ho : cN y = 0) : cN o = 0 := by
 obtain ⟨a, f⟩ := j3 ho
 exact nT (gy (h.right hr)) ⟨_, uO h hr f⟩
theorem Jk (h : nE y o b b' m m' l l') (hr : y.cI) (ho : cN y = 0) (hk : k < y.bins.length) : eV o (b k : Nat) = eV y (k : Nat) := by
 have ho' := Cx h hr ho
 have hk' : b k < o.bins.length := by rw [h.nb]; exact (h.ib.to k hk).1
 have hs := h.symm hr
 refine yW (by rw [m7 ho hk, m7 ho' hk', h.D]) fun t ht => ?_
 rw [m7 ho' hk', h.D] at ht
 have i1 := sD ho hk (t := t) (by omega)
 have i2 := sD ho' hk' (t := t) (by rw [h.D]; omega)
 have g1 := xh i1 i2 fun a f => ⟨_, uO h hr f, sO h hr hk⟩
 have g2 := xh i2 i1 fun a f => ⟨_, uO hs (h.right hr) f, by
  have := sO (a := a) (t := t) hs (h.right hr) hk'
  rwa [(h.ib.to k hk).2] at this⟩
 generalize nth (eV o (b k : Nat)) t = u at *
 generalize nth (eV y (k : Nat)) t = v at *
 cases u; cases v
 simp only at g1 g2
 congr 1 <;> omega
theorem nx (hr : y.cI) (ho : cN y = 0) : jJ y = 0 ∧ (eJ y).length = 0 := by
 obtain ⟨a, f⟩ := j3 ho
 have hw : td y y.levels.length 0 := ⟨hr, rfl, [], a, trivial, rfl, f.lens, f.first, f.cont, f.bg, fun i hi _ => f.level i hi (sV (by have := hr.levels; omega))⟩
 have := hw.Bk
 exact ⟨this.1, Nat.le_zero.1 this.2.2.2.2⟩
end
section
variable {y : ah} {a : eM} {c : Nat → Bool} {x : Move} {b t : Nat}
structure B2 (y : ah) (x : Move) : Prop where
  day : 0 ≤ x.day ∧ x.day < y.days
  src : -1 ≤ x.src ∧ x.src < y.bins.length
  dst : -1 ≤ x.dst ∧ x.dst < y.bins.length
  ne : x.src ≠ x.dst
  num : 0 ≤ x.sacks.lo ∧ x.sacks.hi ≤ 300
  ord : x.sacks.lo ≤ x.sacks.hi
theorem rJ (hr : y.cI) (h9 : y.moves.length ≤ 9) (hx : B2 y x) : (jX y x).cI := by
 refine ⟨hr.days, hr.bins, ?_, hr.levels, hr.bin, fun z hz => ?_, hr.level⟩
 ·show (y.moves ++ [x]).length ≤ 10
  rw [List.length_append]; show y.moves.length + 1 ≤ 10; omega
 rcases List.mem_append.1 hz with h | h
 ·exact hr.move z h
 obtain rfl := List.mem_singleton.1 h
 exact ⟨hx.day, hx.src, hx.dst, hx.ne, hx.num, hx.ord⟩
theorem IW (hr : y.cI) (h9 : y.moves.length ≤ 9) (hx : B2 y x) : mQ y x = 0 ∧ oX y x = jX y x := by
 have h0 := gy hr
 have h1 := gy (rJ hr h9 hx)
 have : mQ y x = 0 := by
  unfold mQ
  rw [if_pos h0, if_neg (by omega), h1]
 exact ⟨this, by unfold oX; rw [if_pos this]⟩
def Dj (a : eM) : eM := ⟨a.first, a.bg ++ [0]⟩
theorem wY (hl : a.bg.length = y.moves.length) : dN (jX y x) (Dj a) b t = dN y a b t := by
 unfold dN
 have e0 : (jX y x).moves = y.moves ++ [x] := rfl
 have e1 : (y.moves ++ [x]).length = y.moves.length + 1 := by rw [List.length_append]; rfl
 have e2 : nth (a.bg ++ [0]) y.moves.length = 0 := by rw [← hl]; exact kF (i := 0)
 show nth a.first b + _ = _
 congr 1
 rw [e0, e1]
 show cy _ y.moves.length + _ = _
 have e3 : ∀ i, i < y.moves.length → (if (nth (y.moves ++ [x]) i).day < (t : Int) then nk (jX y x) (Dj a).bg b i else 0) = if (nth y.moves i).day < (t : Int) then nk y a.bg b i else 0 := fun i hi => by
  unfold nk
  show (if _ then (ind ((nth (y.moves ++ [x]) i).dst = _) - ind ((nth (y.moves ++ [x]) i).src = _)) * nth (a.bg ++ [0]) i else 0) = _
  rw [gV hi, gV (by omega)]
 rw [eD e3]
 have e4 : nk (jX y x) (Dj a).bg b y.moves.length = 0 := by
  unfold nk
  show _ * nth (a.bg ++ [0]) y.moves.length = 0
  rw [e2, Int.mul_zero]
 show _ + (if _ then nk (jX y x) (Dj a).bg b y.moves.length else 0) = _
 rw [e4]; simp
theorem xM (hx : x.sacks.lo = 0) (hx2 : 0 ≤ x.sacks.hi) (f : eT y c a) : eT (jX y x) c (Dj a) := by
 have hl := f.lens.bg
 have e1 : (y.moves ++ [x]).length = y.moves.length + 1 := by rw [List.length_append]; rfl
 refine ⟨⟨f.lens.first, ?_⟩, f.first, fun b t hb ht => ?_, fun i hi => ?_, fun i hi e => ?_⟩
 ·show (a.bg ++ [0]).length = (y.moves ++ [x]).length
  rw [e1, List.length_append, hl]; rfl
 ·rw [wY hl]; exact f.cont b t hb ht
 ·have hi : i < (y.moves ++ [x]).length := hi
  rw [e1] at hi
  show (nth (y.moves ++ [x]) i).sacks.lo ≤ nth (a.bg ++ [0]) i ∧ nth (a.bg ++ [0]) i ≤ (nth (y.moves ++ [x]) i).sacks.hi
  by_cases e : i < y.moves.length
  ·rw [gV e, gV (by omega)]; exact f.bg i e
  obtain rfl : i = y.moves.length := by omega
  have e2 : nth (a.bg ++ [0]) y.moves.length = 0 := by rw [← hl]; exact kF (i := 0)
  have e3 : nth (y.moves ++ [x]) y.moves.length = x := kF (i := 0)
  rw [e2, e3]; omega
 rw [wY hl]; exact f.level i hi e
theorem ym (hr : y.cI) (h9 : y.moves.length ≤ 9) (hx : B2 y x) (h0 : x.sacks.lo = 0) (ho : cN y = 0) : cN (jX y x) = 0 := by
 obtain ⟨a, f⟩ := j3 ho
 have := hx.ord
 exact nT (gy (rJ hr h9 hx)) ⟨_, xM h0 (by omega) f⟩
theorem He (hr : y.cI) (h9 : y.moves.length ≤ 9) (hx : B2 y x) (h0 : x.sacks.lo = 0) (ho : cN y = 0) (hb : b < y.bins.length) (ht : t ≤ y.D) : (nth (eV (jX y x) (b : Nat)) t).lo ≤ (nth (eV y (b : Nat)) t).lo ∧ (nth (eV y (b : Nat)) t).hi ≤ (nth (eV (jX y x) (b : Nat)) t).hi := by
 have := hx.ord
 exact xh (sD ho hb ht) (sD (ym hr h9 hx h0 ho) (b := b) (t := t) hb ht) fun a f => ⟨_, xM h0 (by omega) f, wY f.lens.bg⟩
end
end Go.Proofs.YtelbollidfdcjaaGreat
namespace Go.Proofs.YtelbollidfdcjaaGreat
open Go Go.T
def A7 {α : Type} (xs : List α) (l : List Int) (v : Nat → α) : Nat → List α
  | 0 => xs
  | k + 1 => (A7 xs l v k).set (nth l k).toNat (v k)
theorem y5 {α : Type} (xs : List α) (l : List Int) (v : Nat → α) (k : Nat) : (A7 xs l v k).set (nth l k).toNat (v k) = A7 xs l v (k + 1) := rfl
theorem oY {α : Type} (xs : List α) (l : List Int) (v : Nat → α) : ∀ k, (A7 xs l v k).length = xs.length
  | 0 => rfl
  | k + 1 => by rw [← y5, List.length_set]; exact oY xs l v k
theorem zj {l : List Int} (h : l.Nodup) {i k : Nat} (hi : i < l.length) (hk : k < l.length) (e : nth l i = nth l k) : i = k := by
 rw [g9 hi, g9 hk] at e
 rw [List.nodup_iff_pairwise_ne, List.pairwise_iff_getElem] at h
 rcases Nat.lt_trichotomy i k with c | c | c
 ·exact absurd e (h i k hi hk c)
 ·exact c
 exact absurd e.symm (h k i hk hi c)
structure pG (n : Nat) (l : List Int) : Prop where
  len : l.length = n
  nodup : l.Nodup
  mem : ∀ x, x ∈ l ↔ 0 ≤ x ∧ x < (n : Int)
theorem Ff (s : Sk) (n : Nat) : pG n (gm s n).1 := by
 obtain ⟨h1, h2, h3, _⟩ := qN s n
 exact ⟨h1, h2, h3⟩
section
variable {n : Nat} {l : List Int}
theorem pG.MC (h : pG n l) {k : Nat} (hk : k < n) : 0 ≤ nth l k ∧ nth l k < (n : Int) := (h.mem _).1 (cL (by rw [h.len]; exact hk))
theorem r9 {α : Type} [Inhabited α] {xs : List α} {v : Nat → α} (h : pG n l) (hx : xs.length = n) : ∀ k, k ≤ n → ∀ j, j < k → nth (A7 xs l v k) (nth l j).toNat = v j
  | 0, _, j, hj => by omega
  | k + 1, hk, j, hj => by
    have h1 := h.MC (k := j) (by omega)
    have h2 := h.MC (k := k) (by omega)
    rw [← y5, jf (by rw [oY]; omega)]
    by_cases e : j = k
    · subst e; rw [if_pos rfl]
    · rw [if_neg]
      · exact r9 h hx k (by omega) j (by omega)
      · intro e'
        exact e (zj h.nodup (by rw [h.len]; omega) (by rw [h.len]; omega) (by omega))
def qa (l : List Int) (k : Nat) : Nat := (nth l k).toNat
noncomputable def yA (l : List Int) (x : Nat) : Nat := if h : ∃ k, k < l.length ∧ nth l k = (x : Int) then h.choose else 0
theorem pG.inv (h : pG n l) : Inv n (qa l) (yA l) := by
 have hb : ∀ j, j < n → yA l j < n ∧ nth l (yA l j) = (j : Int) := fun j hj => by
  have hm := (h.mem (j : Int)).2 (by omega)
  obtain ⟨k, hk, e⟩ := jk hm
  have hx : ∃ k, k < l.length ∧ nth l k = (j : Int) := ⟨k, hk, e.symm⟩
  unfold yA
  rw [dif_pos hx]
  have := hx.choose_spec
  exact ⟨by rw [← h.len]; exact this.1, this.2⟩
 refine ⟨fun i hi => ?_, fun j hj => ?_⟩
 ·have h1 := h.MC hi
  have h2 : qa l i < n := by unfold qa; omega
  refine ⟨h2, ?_⟩
  have h3 := hb _ h2
  exact zj h.nodup (by rw [h.len]; exact h3.1) (by rw [h.len]; exact hi) (by rw [h3.2]; unfold qa; omega)
 have h3 := hb j hj
 exact ⟨h3.1, by unfold qa; rw [h3.2]; rfl⟩
end
def De (l : List Int) (x : Int) : Int := if x < 0 then x else nth l x.toNat
def KL (l : List Int) (m : Move) : Move := ⟨m.day, De l m.src, De l m.dst, m.sacks⟩
def KO (l : List Int) (v : Level) : Level := ⟨v.day, De l v.bin, v.sacks⟩
def bU (y : ah) (p : List Int) (k : Nat) : List vE := A7 y.bins p (nth y.bins) k
def mU (y : ah) (p q : List Int) (k : Nat) : List Move := A7 y.moves q (fun i => KL p (nth y.moves i)) k
def lU (y : ah) (p r : List Int) (k : Nat) : List Level := A7 y.levels r (fun i => KO p (nth y.levels i)) k
def OQ (y : ah) (p q r : List Int) : ah := ⟨y.days, bU y p y.bins.length, mU y p q y.moves.length, lU y p r y.levels.length⟩
section
variable {y : ah} {p q r : List Int} {x : Int} {k n : Nat}
theorem D8 : (bU y p k).length = y.bins.length := by unfold bU; exact oY _ _ _ _
theorem DC : (mU y p q k).length = y.moves.length := by unfold mU; exact oY _ _ _ _
theorem D1 : (lU y p r k).length = y.levels.length := by unfold lU; exact oY _ _ _ _
theorem KS : y.bins = bU y p 0 := rfl
theorem Kk : y.moves = mU y p q 0 := rfl
theorem J6 : y.levels = lU y p r 0 := rfl
theorem Jn : (bU y p k).set (nth p k).toNat (nth y.bins k) = bU y p (k + 1) := rfl
theorem Kz : (mU y p q k).set (nth q k).toNat (KL p (nth y.moves k)) = mU y p q (k + 1) := rfl
theorem LA : (lU y p r k).set (nth r k).toNat (KO p (nth y.levels k)) = lU y p r (k + 1) := rfl
theorem BI (h : x < 0) : x = De p x := (if_pos h).symm
theorem C1 (h : ¬ x < 0) : nth p x.toNat = De p x := (if_neg h).symm
theorem AR (h : pG n p) (hx : -1 ≤ x ∧ x < n) : De p x = m6 (qa p) x := by
 by_cases e : x < 0
 ·rw [← BI e, sA e]
 rw [← C1 e, lg (by omega)]
 have := h.MC (k := x.toNat) (by omega)
 unfold qa; omega
theorem L0 (hr : y.cI) (hp : pG y.bins.length p) (hq : pG y.moves.length q) (hl : pG y.levels.length r) : nE y (OQ y p q r) (qa p) (yA p) (qa q) (yA q) (qa r) (yA r) := by
 refine ⟨rfl, D8, DC, D1, hp.inv, hq.inv, hl.inv, fun k hk => r9 hp rfl _ (Nat.le_refl _) k hk, fun i hi => ?_, fun i hi => ?_⟩
 ·refine (r9 hq rfl _ (Nat.le_refl _) i hi).trans ?_
  obtain ⟨h1, h2, h3, h4, h5⟩ := hr.move _ (cL hi)
  unfold KL Kc
  rw [AR hp h2, AR hp h3]
 refine (r9 hl rfl _ (Nat.le_refl _) i hi).trans ?_
 obtain ⟨h1, h2, h3⟩ := hr.level _ (cL hi)
 unfold KO Jt
 rw [AR hp ⟨by omega, h2.2⟩]
end
end Go.Proofs.YtelbollidfdcjaaGreat
namespace Go.Proofs.YtelbollidfdcjaaGreat
open Go Go.T
set_option maxHeartbeats 8000000
section
variable {y : ah} {b : Nat} {n w : Int} {p q : Span → Bool}
end
attribute [local irreducible] Md.mm Md.real eV jY cN nZ kT
attribute [local irreducible] iN fQ m5 qc ir iW ij iy iw qY iZ qW dz ga qV gG qd nth fP dh aa dy bodyPost Exit.then Exit.inBlock Code.wp Code.wpIn qh iq qb qU ia dn cU cj bodyPostM eF
end Go.Proofs.YtelbollidfdcjaaGreat
namespace Go.Proofs.YtelbollidfdcjaaGreat
open Go Go.T
set_option maxHeartbeats 8000000
section
variable {y : ah} {a : eM} {b t k : Nat} {v : Bool}
end
attribute [local irreducible] Md.mm Md.real eV jY r5 cN mT cz r6
attribute [local irreducible] iN fQ m5 qc ir iW ij iy iw qY iZ qW dz ga qV gG qd nth fP dh aa dy bodyPost Exit.then Exit.inBlock Code.wp Code.wpIn qh iq qb qU ia dn cU cj bodyPostM eF
set_option maxRecDepth 100000 in
theorem F4 (l : List vE) (h : l.length ≤ 1000) : dn Tryz.prog 19 [] [] [Ty.sl dO l] [] (Ty.row dO 39 6 l) := by
 refine c6 Tryz.func19 rfl (by decide) Tryz.ntmps19 (by exact Nat.le_of_ble_eq_true rfl) fun w0 M0 => ?_
 refine aG (aA (lB rfl (aD (aC (aG (aA (fU rfl (cY rfl rfl rfl ?_))))))))
 refine vh (E := dO) rfl rfl rfl rfl rfl rfl rfl (by decide) rfl (by omega) (by (dsimp only; omega)) (by omega) ?_
 refine fU rfl ?_
 refine eN rfl rfl (by decide) rfl rfl rfl rfl rfl rfl (by decide) (by (simp <;> omega)) (by (simp <;> omega)) ?_
 refine A4 rfl (aD (aC (av ?_)))
 refine ew [6] rfl rfl (by decide) (by repeat (exact dR)) ?_
 all_goals skip
 all_goals exact eA (fF (by decide))
end Go.Proofs.YtelbollidfdcjaaGreat
namespace Go.Proofs.YtelbollidfdcjaaGreat
open Go Go.T Go.RowKit Go.Shelf
def Dv : Ren := ⟨fun n => if n = 21 then 162 else if n = 27 then 193 else if n = 28 then 194 else if n = 35 then 201 else if n = 39 then 204 else n, fun n => if n = 22 then 28 else n, fun n => n⟩
theorem K3 {t : Nat} {D : TypeDesc} (h : Tryz.prog.underlying t = some D) (hd : (match D with | .struct _ => false | .array _ _ => false | _ => true) = true) : ∀ w, (isAgg t).run Tryz.prog w = .ok false w := fun w => by
 cases D <;> simp_all [isAgg, run_underlying h]
set_option maxRecDepth 100000 in
theorem Es : Lays2.n21 Tryz.prog Dv where
 mixed := by kernel_rfl
 f21 := by kernel_rfl
 f27 := by kernel_rfl
 f28 := by kernel_rfl
 f35 := by kernel_rfl
 f39 := by kernel_rfl
 t0 := by kernel_rfl
 a0 := K3 (D := TypeDesc.tuple #[]) (by kernel_rfl) rfl
 z0 := fun w => dD (P := Tryz.prog) (t := 0) rfl w
 v0 := fun w => jL (by kernel_rfl) w
 t3 := by kernel_rfl
 a3 := K3 (D := TypeDesc.int IntKind.i64) (by kernel_rfl) rfl
 z3 := fun w => dD (P := Tryz.prog) (t := 3) rfl w
 v3 := fun w => jL (by kernel_rfl) w
 t4 := by kernel_rfl
 a4 := K3 (D := TypeDesc.bool) (by kernel_rfl) rfl
 z4 := fun w => dD (P := Tryz.prog) (t := 4) rfl w
 v4 := fun w => jL (by kernel_rfl) w
 t22 := by kernel_rfl
 a22 := K3 (D := TypeDesc.slice 3) (by kernel_rfl) rfl
 z22 := fun w => dD (P := Tryz.prog) (t := 28) rfl w
 v22 := fun w => jL (by kernel_rfl) w
 i3 := by kernel_rfl
def wV (l : List Value) (o : Nat) (vs : List Value) : List Value := l.take o ++ vs ++ l.drop (o + vs.length)
theorem JM {l : List Value} {o : Nat} {vs : List Value} (h : o + vs.length ≤ l.length) : (wV l o vs).length = l.length := by
 simp [wV]; omega
theorem F9 {l : List Value} {o : Nat} {v : Value} {vs : List Value} (h : o < l.length) : wV (l.set o v) (o + 1) vs = wV l o (v :: vs) := by
 have e : l.set o v = l.take o ++ v :: l.drop (o + 1) := by rw [List.set_eq_take_append_cons_drop, if_pos h]
 have h1 : (l.take o).length = o := by simp; omega
 unfold wV
 rw [e]
 have t1 : (l.take o ++ v :: l.drop (o + 1)).take (o + 1) = l.take o ++ [v] := by
  rw [List.take_append, h1, show o + 1 - o = 1 by omega, List.take_of_length_le (by omega)]; rfl
 have t2 : (l.take o ++ v :: l.drop (o + 1)).drop (o + 1 + vs.length) = l.drop (o + (v :: vs).length) := by
  rw [List.drop_append, h1, List.drop_eq_nil_of_le (by omega), List.nil_append, show o + 1 + vs.length - o = vs.length + 1 by omega, List.drop_succ_cons, List.drop_drop, List.length_cons]
  congr 1; omega
 rw [t1, t2]; simp
theorem size_put {c d : Array Value} {o : Nat} {vs : List Value} (h : d.toList = wV c.toList o vs) (hb : o + vs.length ≤ c.size) : d.size = c.size := by
 have := congrArg List.length h
 rw [JM (by simpa using hb)] at this
 simpa using this
theorem lW {b T : Nat} : ∀ (vs : List Value) (o : Nat) (w : World) (cs : Array Value), w.heap[b]? = some (.cells cs T (0, 0)) → o + vs.length ≤ cs.size →
    ∃ cs' : Array Value, (w.setCells b o vs).heap[b]? = some (.cells cs' T (0, 0)) ∧ cs'.toList = wV cs.toList o vs ∧ (w.setCells b o vs).heap.size = w.heap.size ∧
      (w.setCells b o vs).os = w.os ∧ (w.setCells b o vs).tape = w.tape ∧ (w.setCells b o vs).output = w.output ∧ ∀ k, k ≠ b → (w.setCells b o vs).heap[k]? = w.heap[k]?
  | [], o, w, cs, h, _ => ⟨cs, h, by simp [wV], rfl, rfl, rfl, rfl, fun _ _ => rfl⟩
  | v :: vs, o, w, cs, h, hl => by
    have hl : o + (vs.length + 1) ≤ cs.size := hl
    have hb : b < w.heap.size := (Array.getElem?_eq_some_iff.1 h).1
    have e := kJ (off := o) h v
    have h1 : (w.setCell ⟨b, o, none⟩ v).heap[b]? = some (.cells (cs.setIfInBounds o v) T (0, 0)) := by rw [e]; simp [hb]
    obtain ⟨cs', g1, g2, g3, g4, g5, g6, g7⟩ := lW vs (o + 1) (w.setCell ⟨b, o, none⟩ v) (cs.setIfInBounds o v) h1 (by simp; omega)
    refine ⟨cs', g1, ?_, g3.trans (by rw [e]; simp), g4.trans (by rw [e]), g5.trans (by rw [e]), g6.trans (by rw [e]), fun k hk => (g7 k hk).trans ?_⟩
    · rw [g2, Array.toList_setIfInBounds, F9 (by simp; omega)]
    · rw [e]; exact Array.getElem?_setIfInBounds_ne (Ne.symm hk)
def Om (T : Nat) (cs : Array Value) (w : World) (M : bB) (v : Value) : Prop := ∃ b, v = .slice (some ⟨b, 0, none⟩) cs.size cs.size ∧ M b = none ∧ w.heap[b]? = some (.cells cs T (0, 0))
def J2 (T : Nat) (cs : Array Value) : Ty := { den := Om T cs, mono := fun le _ _ ⟨b, e, h1, h2⟩ => let ⟨h3, h4⟩ := le.qB b (Array.getElem?_eq_some_iff.1 h2).1 h1; ⟨b, e, h3, h4.trans h2⟩ }
def ints (l : List Int) : List Value := l.map fun n => .int .i64 n
theorem zO {w : World} {M : bB} : ∀ {xs : List Int} {cs : List Value}, cK w M (xs.flatMap cS.tys) cs → cs = ints xs
  | [], [], _ => rfl
  | x :: xs, c :: cs, ⟨h, h'⟩ => by
    have h : c = .int .i64 x := h
    rw [zO h', h]; rfl
theorem p8 {w : World} {M : bB} : ∀ xs : List Int, cK w M (xs.flatMap cS.tys) (ints xs)
  | [] => trivial
  | _ :: xs => ⟨rfl, p8 xs⟩
def vf (w w' : World) (v v' : Value) (l : List Value) : Prop :=
  w'.ownsRow 0 3 1 v' l.length l ∧ w.grownBy w' v.ownBlock ∧ (v'.ownBlock = v.ownBlock ∨ v'.ownBlock = some w.heap.size)
theorem Cs (l : List Int) : ∀ v ∈ ints l, v.oneCell' = true := fun v hv => by obtain ⟨n, _, rfl⟩ := List.mem_map.1 hv; rfl
theorem DN {w : World} {g c : Nat} {cs : Array Value} {l : List Value} (h : w.heap[g]? = some (.cells cs 3 (0, 0))) (hs : cs.size = c) (hl : cs.toList.take l.length = l) (hc : l.length ≤ c) (hm : c ≤ maxLen) : w.ownsRow 0 3 1 (.slice (some ⟨g, 0, none⟩) l.length c) l.length l :=
 ⟨(Nat.mul_one _).symm, .inr ⟨g, c, cs, rfl, Nat.zero_le _, h, hc, hm, by rw [hs, Nat.mul_one], by rw [Nat.mul_one]; exact hl⟩⟩
theorem cell_of {w : World} {b T : Nat} {cs : Array Value} (h : w.heap[b]? = some (.cells cs T (0, 0))) {j : Nat} {v : Value} (hj : cs.toList[j]? = some v) : w.cell? ⟨b, j, none⟩ = some v := by
 simpa [World.cell?, h] using hj
theorem vS {w : World} {b T : Nat} {cs : Array Value} (h : w.heap[b]? = some (.cells cs T (0, 0))) (j : Nat) : w.frozen? ⟨b, j, none⟩ = false := by simp [World.frozen?, h]
theorem BU {w : World} {b T : Nat} {cs : Array Value} (h : w.heap[b]? = some (.cells cs T (0, 0))) : w.shape? b = some (T, cs.size) := by simp [World.shape?, h]
theorem Jl {w : World} {v : Value} {l : List Value} {cs : Array Value} {c : Nat} (hs : cs.size = c) (hl : cs.toList.take l.length = l) (hc : l.length ≤ c) (hm : c ≤ maxLen) : vf w (w.drew.alloc (.cells cs 3)) v (.slice (some ⟨w.heap.size, 0, none⟩) l.length c) l :=
 ⟨DN (fO w.drew _) hs hl hc hm, ⟨rfl, rfl, rfl, by show w.heap.size ≤ (w.heap.push _).size; simp, fun k hk _ => Below.heap_alloc w.drew _ k hk⟩, .inr rfl⟩
theorem tC (xs : List Int) (i : Nat) (k : Int) : ints (nD xs i k) = (ints xs).take i ++ .int .i64 k :: (ints xs).drop i := by simp [ints, nD]
theorem gx (l : List Int) : (ints l).length = l.length := by simp [ints]
set_option maxRecDepth 100000 in
theorem Ki {w : World} {M : bB} {tg : Nat} {xs : List Int} {v u : Value} {i : Nat} {k : Int} (h1 : 1 ≤ tg) (hrow : gG cS 3 tg xs w M v) (hu : Om 3 #[.int .i64 k] w M u) (hi : i ≤ xs.length) (hlen : xs.length ≤ 1000000) :
 Calls Tryz.prog 162 #[v, .int .i64 i, u] w fun e w' => ∃ v', e = .returned v' ∧ vf w w' v v' (ints (nD xs i k)) := by
 obtain ⟨vb, rfl, hM, hvb⟩ := hu
 obtain ⟨cs, ⟨hcl, hown⟩, hd, hg⟩ := hrow
 obtain rfl := zO hd
 have hil := CU hi k
 have hiL : (ints (nD xs i k)).length = xs.length + 1 := by rw [gx, hil]
 have hmax : (1000001 : Nat) ≤ maxLen := by simp [maxLen]
 have hvs : ∀ j x, [Value.int .i64 k][j]? = some x → w.cell? ⟨vb, 0 + j, none⟩ = some x := fun j x hj => by rw [Nat.zero_add]; exact cell_of hvb (by simpa using hj)
 have h1v : ∀ x ∈ [Value.int .i64 k], x.oneCell' = true := fun x hx => by rw [List.mem_singleton.1 hx]; rfl
 have hgrow : ∀ (base : Option Addr) (c : Nat), xs.length ≤ c → c < xs.length + 1 → i = xs.length → (base = none → xs.length = 0) → (∀ a, base = some a → ∀ j x, (ints xs)[j]? = some x → w.cell? (a.add j) = some x) →
  Calls Tryz.prog 162 #[.slice base xs.length c, .int .i64 i, .slice (some ⟨vb, 0, none⟩) 1 1] w fun e w' => ∃ v', e = .returned v' ∧ vf w w' (.slice base xs.length c) v' (ints (nD xs i k)) := by
  intro base c hnc hroom hin hnil hcs
  subst hin
  refine (Any2.slices_Insert_int_end_grow Es base xs.length c vb 0 1 1 (ints xs) [.int .i64 k] w (by omega) hnc hroom (by omega) (gx xs) rfl hnil hcs hvs h1v).mono fun e w' ⟨he, hw⟩ => ?_
  refine ⟨_, he, ?_⟩
  have hge := grownCap_ge w (xs.length + 1) c (Dv.t 3)
  have hle := grownCap_le_maxLen w (xs.length + 1) c (Dv.t 3) (by omega)
  generalize grownCap w (xs.length + 1) c (Dv.t 3) = C at *
  have hz : ∀ n, (Builtin.zeroCells (Value.int .i64 0).cells n).size = n := fun n => by rw [size_zeroCells]; simp [Value.cells]
  have hsz : ((ints xs ++ [Value.int .i64 k]).toArray ++ Builtin.zeroCells (Value.int .i64 0).cells (C - (xs.length + 1))).size = C := by
   rw [Array.size_append, hz, List.size_toArray, List.length_append, gx, List.length_singleton]; omega
  have l2 := gx xs
  have hnr := Jl (w := w) (v := .slice base xs.length c) (l := ints (nD xs xs.length k)) hsz (by rw [hiL, tC, Array.toList_append, List.take_append_of_le_length (by simp [l2]), List.take_of_length_le (by simp [l2]), List.take_of_length_le (l := ints xs) (by omega), List.drop_of_length_le (l := ints xs) (by omega)]) (by omega) hle
  rw [hiL] at hnr
  rw [hw]; exact hnr
 rcases hown with ⟨rfl, hn⟩ | ⟨g, c, cur, rfl, _, hh, hnc, hcm, hsz, htk⟩
 ·have := hgrow none 0 (by omega) (by omega) (by omega) (fun _ => hn) (fun a ha => by cases ha)
  rw [hn] at this; exact this
 have h64 : cS.size = 1 := rfl
 rw [h64, Nat.mul_one] at hsz htk
 have hMg : M g = some tg := hg g rfl
 have hne : vb ≠ g := fun e => by rw [e, hMg] at hM; cases hM
 have hcell : ∀ j x, (ints xs)[j]? = some x → w.cell? ⟨g, 0 + j, none⟩ = some x := fun j x hj => by
  rw [Nat.zero_add]
  refine cell_of hh ?_
  rw [← htk, List.getElem?_take] at hj
  split at hj
  ·exact hj
  cases hj
 by_cases hroom : xs.length + 1 ≤ c
 ·have hspare : ∀ j, j < c → (w.cell? ⟨g, 0 + j, none⟩).isSome = true := fun j hj => by simp [World.cell?, hh, hsz, hj]
  have hdone : ∀ (w' : World) (cur' : Array Value), w'.heap[g]? = some (.cells cur' 3 (0, 0)) → cur'.size = c → cur'.toList.take (xs.length + 1) = ints (nD xs i k) → w.grownBy w' (some g) → vf w w' (.slice (some ⟨g, 0, none⟩) xs.length c) (.slice (some ⟨g, 0, none⟩) (xs.length + 1) c) (ints (nD xs i k)) := fun w' cur' e1 e2 e3 e4 => by
   rw [← hiL] at e3 ⊢
   exact ⟨DN e1 e2 e3 (by omega) hcm, e4, .inl rfl⟩
  have hc63 : c ≤ 9223372036854775807 := by simpa [maxLen] using hcm
  by_cases hlt : i < xs.length
  ·refine (Any2.slices_Insert_int_shift Es g 0 xs.length c i vb 0 1 1 (ints xs) [.int .i64 k] w hlt (by omega) hroom hc63 hne (gx xs) rfl hcell (fun j hj => hspare j (by omega)) (fun j _ => vS hh _) hvs (Cs xs) h1v 3 3 1 c (BU hvb) (by rw [BU hh, hsz]) (by omega) (vS hvb _) (vS hvb _)).mono fun e w' ⟨he, hw⟩ => ?_
   refine ⟨_, he, ?_⟩
   have hdl : (List.drop i (ints xs)).length = xs.length - i := by rw [List.length_drop, gx]
   obtain ⟨c1, a1, a2, a3, a4, a5, a6, a7⟩ := lW (b := g) (T := 3) ((ints xs).drop i) (0 + (i + 1)) w.drew cur hh (by rw [hdl]; omega)
   have hs1 : c1.size = c := by rw [size_put a2 (by rw [hdl]; omega), hsz]
   obtain ⟨c2, b1, b2, b3, b4, b5, b6, b7⟩ := lW (b := g) (T := 3) [.int .i64 k] (0 + i) (w.drew.setCells g (0 + (i + 1)) ((ints xs).drop i)) c1 a1 (by rw [hs1]; simp; omega)
   rw [hw]
   refine hdone _ c2 b1 (by rw [size_put b2 (by rw [hs1]; simp; omega), hs1]) ?_ ⟨b4.trans a4, b5.trans a5, b6.trans a6, by rw [b3, a3]; exact Nat.le_refl _, fun j hj hne' => ?_⟩
   ·have hcu : cur.toList.length = c := by rw [Array.length_toList, hsz]
    have ht : cur.toList.take i = (ints xs).take i := by rw [← htk, List.take_take, Nat.min_eq_left (by omega)]
    rw [b2, a2, tC]
    unfold wV
    simp only [Nat.zero_add, hdl, List.length_singleton]
    have l1 : (cur.toList.take (i + 1)).length = i + 1 := by rw [List.length_take, hcu]; omega
    have e1 : ((cur.toList.take (i + 1) ++ (ints xs).drop i ++ cur.toList.drop (i + 1 + (xs.length - i)))).take i = (ints xs).take i := by
     rw [List.append_assoc, List.take_append_of_le_length (by omega), List.take_take, Nat.min_eq_left (by omega), ht]
    have e2 : ((cur.toList.take (i + 1) ++ (ints xs).drop i ++ cur.toList.drop (i + 1 + (xs.length - i)))).drop (i + 1) = (ints xs).drop i ++ cur.toList.drop (i + 1 + (xs.length - i)) := by
     rw [List.append_assoc, List.drop_append_of_le_length (by omega), List.drop_of_length_le (by omega), List.nil_append]
    rw [e1, e2]
    have l2 : ((ints xs).take i).length = i := by rw [List.length_take, gx]; omega
    rw [← List.append_assoc, List.take_append_of_le_length (by simp only [List.length_append, l2, hdl, List.length_singleton]; omega), List.take_of_length_le (by simp only [List.length_append, l2, hdl, List.length_singleton]; omega), List.append_assoc]; rfl
   have hj' : j ≠ g := fun e => hne' (by rw [e])
   rw [b7 j hj', a7 j hj']; rfl
  obtain rfl : i = xs.length := by omega
  refine (Any2.slices_Insert_int_end_room Es g 0 xs.length c vb 0 1 1 [.int .i64 k] w (by omega) hroom hc63 rfl (fun j hj => by rw [Nat.add_assoc]; exact hspare _ (by omega)) (fun j _ => vS hh _) hvs h1v).mono fun e w' ⟨he, hw⟩ => ?_
  refine ⟨_, he, ?_⟩
  obtain ⟨c1, a1, a2, a3, a4, a5, a6, a7⟩ := lW (b := g) (T := 3) [.int .i64 k] (0 + xs.length) w cur hh (by simp; omega)
  rw [hw]
  refine hdone _ c1 a1 (by rw [size_put a2 (by simp; omega), hsz]) ?_ ⟨a4, a5, a6, by rw [a3]; exact Nat.le_refl _, fun j hj hne' => a7 j fun e => hne' (by rw [e])⟩
  have l2 : (ints xs).length = xs.length := gx xs
  rw [a2, tC]
  unfold wV
  simp only [Nat.zero_add, List.length_singleton]
  rw [htk, List.take_of_length_le (l := ints xs) (by omega), List.drop_of_length_le (l := ints xs) (by omega), List.take_append_of_le_length (by simp; omega), List.take_of_length_le (by simp; omega)]
 by_cases hlt : i < xs.length
 ·refine (Any2.slices_Insert_int_grow Es g 0 xs.length c i vb 0 1 1 (ints xs) [.int .i64 k] w hlt (by omega) hnc (by omega) (by omega) (gx xs) rfl hcell hvs (Cs xs) h1v).mono fun e w' ⟨he, hw⟩ => ?_
  refine ⟨_, he, ?_⟩
  have hge := grownCap_ge w (xs.length + 1) c (Dv.t 3)
  have hle := grownCap_le_maxLen w (xs.length + 1) c (Dv.t 3) (by omega)
  generalize grownCap w (xs.length + 1) c (Dv.t 3) = C at *
  have hz : ∀ n, (Builtin.zeroCells (Value.int .i64 0).cells n).size = n := fun n => by rw [size_zeroCells]; simp [Value.cells]
  have hdl : (List.drop i (ints xs)).length = xs.length - i := by rw [List.length_drop, gx]
  have htl : (List.take i (ints xs)).length = i := by rw [List.length_take, gx]; omega
  obtain ⟨nb, hnb⟩ : ∃ nb, nb = ((ints xs).take i).toArray ++ Builtin.zeroCells (Value.int .i64 0).cells (xs.length + 1 - i) ++ Builtin.zeroCells (Value.int .i64 0).cells (C - (xs.length + 1)) := ⟨_, rfl⟩
  have hns : nb.size = C := by rw [hnb]; simp only [Array.size_append, hz]; simp only [List.size_toArray, htl]; omega
  have hnt : nb.toList.take i = (ints xs).take i := by rw [hnb]; simp only [Array.toList_append, List.append_assoc]; rw [List.take_append_of_le_length (by simp only [htl]; exact Nat.le_refl _), List.take_of_length_le (by simp only [htl]; exact Nat.le_refl _)]
  rw [← hnb] at hw
  have h0 : (w.alloc (.cells nb 3)).drew.heap[w.heap.size]? = some (.cells nb 3 (0, 0)) := fO w _
  obtain ⟨c1, a1, a2, a3, a4, a5, a6, a7⟩ := lW (b := w.heap.size) (T := 3) [.int .i64 k] i (w.alloc (.cells nb 3)).drew nb h0 (by rw [hns]; simp; omega)
  have hs1 : c1.size = C := by rw [size_put a2 (by rw [hns]; simp; omega), hns]
  obtain ⟨c2, b1, b2, b3, b4, b5, b6, b7⟩ := lW (b := w.heap.size) (T := 3) ((ints xs).drop i) (i + 1) ((w.alloc (.cells nb 3)).drew.setCells w.heap.size i [.int .i64 k]).drew c1 a1 (by rw [hs1, hdl]; omega)
  rw [hw, ← hiL]
  rw [← hiL] at hge
  have hal : (w.alloc (.cells nb 3)).drew.heap.size = w.heap.size + 1 := by show (w.heap.push _).size = _; simp
  refine ⟨DN b1 (by rw [size_put b2 (by rw [hs1, hdl]; omega), hs1]) ?_ hge hle, ⟨b4.trans a4, b5.trans a5, b6.trans a6, ?_, fun j hj _ => ?_⟩, .inr rfl⟩
  ·have hcu : nb.toList.length = C := by rw [Array.length_toList, hns]
   rw [hiL, b2, a2, tC]
   unfold wV
   simp only [hdl, List.length_singleton]
   have l1 : (nb.toList.take i).length = i := by rw [List.length_take, hcu]; omega
   have e1 : ((nb.toList.take i ++ [Value.int .i64 k] ++ nb.toList.drop (i + 1))).take (i + 1) = (ints xs).take i ++ [.int .i64 k] := by
    rw [List.take_append_of_le_length (by simp; omega), List.take_of_length_le (by simp; omega), hnt]
   rw [e1]
   rw [List.take_append_of_le_length (by simp only [List.length_append, htl, hdl, List.length_singleton]; omega), List.take_of_length_le (by simp only [List.length_append, htl, hdl, List.length_singleton]; omega), List.append_assoc]; rfl
  ·exact Nat.le_trans (Nat.le_succ _) (Nat.le_of_eq (b3.trans (a3.trans hal)).symm)
  have hjn : j ≠ w.heap.size := by omega
  exact (b7 j hjn).trans ((a7 j hjn).trans (Below.heap_alloc w _ j hj))
 refine hgrow (some ⟨g, 0, none⟩) c hnc (by omega) (by omega) (fun h => by cases h) (fun a ha j x hj => ?_)
 obtain rfl := Option.some.inj ha
 rw [Addr.add_lit]
 exact hcell j x hj
end Go.Proofs.YtelbollidfdcjaaGreat
namespace Go.Proofs.YtelbollidfdcjaaGreat
open Go Go.T Go.RowKit
theorem KH {w : World} {v : Value} {n m : Nat} {l : List Value} (e : n = m) (h1 : l.length = n * 1) (h2 : (v = .slice none 0 0 ∧ n = 0) ∨ ∃ g cap cur, v = .slice (some ⟨g, 0, none⟩) n cap ∧ 0 ≤ g ∧ w.heap[g]? = some (.cells cur 3 (0, 0)) ∧ n ≤ cap ∧ cap ≤ maxLen ∧ cur.size = cap * 1 ∧ cur.toList.take (n * 1) = l) : w.ownsRow 0 3 1 v m l := e ▸ ⟨h1, h2⟩
section
variable {fr : Fr} {ops : Array Oper} {A : As} {rest : List Oper} {K : As → List (As × Fx) → Prop} {d : Nat} {t ty' : TypeId} {p : String} {e : Array Edge} {x y z : Operand}
theorem Cp (vs : Array Value) (w : World) : (callFunc 162 vs).run Tryz.prog w = .ok (.enter 162 vs) w := by
 have hn' : Tryz.f162.name ≠ "runtime.NumGoroutine" := by
  have h : (Tryz.f162.name == "runtime.NumGoroutine") = false := by kernel_rfl
  simpa using h
 have hb' : Tryz.f162.body ≠ none := fun h => by
  have hb : Tryz.f162.body.isNone = false := by kernel_rfl
  rw [h] at hb; cases hb
 simp [callFunc, Tryz.func162, hn', hb']
theorem Bf (tg : Nat) {xs : List Int} {i : Nat} {k : Int} {ats : Array TypeId} (hx : (A.op fr x).Sub (.row cS 3 tg xs)) (hy : A.op fr y = .int .i64 (i : Nat)) (hz : A.op fr z = J2 3 #[.int .i64 k]) (hi : i ≤ xs.length) (hl : xs.length ≤ 1000000) (h1 : 1 ≤ tg) (hp : fr.pass.contains tg = false)
 (h : aa Tryz.prog fr ops rest (A.after { d := some d, ty := .row cS 3 tg (nD xs i k), K := [tg], rs := cF x ++ (cF y ++ cF z) }) fun A' l => K A' ((A, { d := some d, ty := .row cS 3 tg (nD xs i k), K := [tg], rs := cF x ++ (cF y ++ cF z) }) :: l)) :
 aa Tryz.prog fr ops (⟨some d, .call ⟨.value (.func 162), #[x, y, z], ats⟩, t, p, e, none⟩ :: rest) A K := by
 refine ⟨_, ⟨rfl, by simp, by simp, by simp only [List.mem_singleton]; intro u hu; subst hu; exact ⟨h1, by simpa using hp⟩, fun a w M wf _ hrd _ => ?_⟩, h⟩
 rw [if_pos (by simp [Region.wanted])]
 have hdx := cP (x := x) (fun _ h => List.mem_append_left _ h) hrd
 have hdy := cP (x := y) (fun _ h => List.mem_append_right _ (List.mem_append_left _ h)) hrd
 have hdz := cP (x := z) (fun _ h => List.mem_append_right _ (List.mem_append_right _ h)) hrd
 rw [hy] at hdy
 rw [hz] at hdz
 have ey : a.eval y = .int .i64 (i : Nat) := hdy
 have hrow : gG cS 3 tg xs w M (a.eval x) := hx _ _ _ hdx
 have hc := Ki h1 hrow hdz hi hl
 have hrun : (execOp a.eval ⟨some d, .call ⟨.value (.func 162), #[x, y, z], ats⟩, t, p, e, none⟩).run Tryz.prog w = .ok (.enter 162 #[a.eval x, .int .i64 i, a.eval z]) w := by
  rw [← ey]
  simp [execOp, resolve, Act.eval, Deferred.ofValue, invoke, Cp]
 refine jO hrun ?_
 refine hc.mono fun en w' ⟨v', he, hown, hgr, hob⟩ => ?_
 obtain ⟨cs0, _, _, hM⟩ := hrow
 have hb : ∀ b, v'.ownBlock = some b → b < w'.heap.size := by
  intro b hb
  rcases hown.2 with ⟨rfl, _⟩ | ⟨g, cap, cur, rfl, _, hh, _⟩
  ·simp [Value.ownBlock] at hb
  simp [Value.ownBlock] at hb; subst hb; exact (Array.getElem?_eq_some_iff.1 hh).1
 have hle := xD (t := tg) (g := v'.ownBlock) hgr.size hgr.os hgr.tape hgr.output (fun b hb hlt => by
  rcases hob with e | e
  ·exact hM b (e ▸ hb)
  exact absurd hlt (by rw [← Option.some.inj (e.symm.trans hb)]; exact Nat.lt_irrefl _)) (fun b hlt hne => hgr.block b hlt (fun e => hne (hM b e.symm))) wf
 refine ⟨v', he, v', rfl, lp M tg v'.ownBlock, xZ wf hgr.size hb, hle, ⟨ints (nD xs i k), ?_, p8 _, fun g hg => by simp [lp, hg]⟩, by simp⟩
 exact KH (gx _) hown.1 hown.2
theorem F1 {k : Int} (hx : A.op fr x = .int .i64 k)
 (h : aa Tryz.prog fr ops rest (A.set d (J2 3 #[.int .i64 k])) fun A' l' => K A' ((A, { d := some d, ty := J2 3 #[.int .i64 k], rs := cF x }) :: l')) : aa Tryz.prog fr ops (⟨some d, .buildSlice 28 1 #[(0, x)], t, p, e, none⟩ :: rest) A K := by
 refine ⟨_, ff (f := { d := some d, ty := J2 3 #[.int .i64 k], rs := cF x }) rfl rfl (by simp) (by simp) (by simp) fun a w M wf hr _ => ?_, h⟩
 have hd := cP (x := x) (fun _ h => h) hr
 rw [hx] at hd
 have ex : a.eval x = .int .i64 k := hd
 obtain ⟨h3, h4, h5⟩ := tN wf (.cells #[.int .i64 k] 3)
 refine ⟨.slice (some ⟨w.heap.size, 0, none⟩) 1 1, w.alloc (.cells #[.int .i64 k] 3), ?_, M, h3, h4, ⟨w.heap.size, rfl, h5, fO _ _⟩, by simp⟩
 have hu : Tryz.prog.underlying 28 = some (.slice 3) := by kernel_rfl
 have hz : ∀ w, (zeroValue 3).run Tryz.prog w = .ok (.int .i64 0) w := fun w => jL (by kernel_rfl) w
 have hs : ∀ w, (sizeOf 3).run Tryz.prog w = .ok 1 w := fun w => dD (P := Tryz.prog) (t := 3) rfl w
 simp [execOp, Instr.buildSlice, run_underlying hu, hs, hz, ex, newRow, newObj, Sem.run, Value.cells, Instr.fill, Sem.new, show Array.range 1 = #[0] from rfl]
end
end Go.Proofs.YtelbollidfdcjaaGreat
namespace Go.Proofs.YtelbollidfdcjaaGreat
open Go Go.T
set_option maxHeartbeats 4000000
attribute [local irreducible] iN fQ m5 qc ir iW ij iy iw qY iZ qW dz ga qV gG qd nth fP dh aa dy bodyPost Exit.then Exit.inBlock Code.wp Code.wpIn qh iq qb qU ia dn cU cj bodyPostM eF
attribute [local irreducible] OX MR
set_option maxRecDepth 100000 in
theorem GI (s : Sk) (n : Nat) (hn : n ≤ 1000) (h : s.Ok (n + 1)) : dn Tryz.prog 77 [1000] [(1000, Cont.cells 149 (cX s))] [Ty.ptr 1000 0, Ty.int .i64 (n : Nat)] [(1000, Cont.cells 149 (cX (gm s n).2))] (Ty.sl cS (gm s n).1) := by
 refine c6 Tryz.func77 rfl (by decide) Tryz.ntmps77 (by exact Nat.le_of_ble_eq_true rfl) fun w0 M0 => ?_
 have h0 : 0 ≤ s.taken ∧ s.taken + (n + 1) ≤ 4611686018427387904 := h
 refine aG (aA (lB rfl (aD (aC (aG (aA (lB rfl (aD (aC ?_)))))))))
 refine aG (aG (aA (bQ rfl (bQ rfl (aD (aC (ak ?_)))))))
 refine cg (fun (k : {k : Nat // k ≤ n}) => live [(0, Ty.ptr 1000 0), (5, Ty.row cS 3 19 (gm s k.1).1), (7, Ty.int .i64 (n : Nat)), (8, Ty.int .i64 (k.1 : Nat))] [(1000, Cont.cells 149 (cX (gm s k.1).2))]) (fun k => n - k.1) (⟨0, by omega⟩) ?_ fun k => ?_
 ·(refine dG.mk' ?_ ?_ <;> (repeat' (first | exact aI | exact aJ | refine aB ?_ (Ty.aU _) | refine aB ?_ (Ty.aE _) | refine aB ?_ Ty.kN | refine aF rfl (Cont.aE _) ?_)))
 obtain ⟨hs1, _, _, hs4⟩ := qN s k.1
 have hk2 := k.2
 refine aG (aA (bF rfl rfl rfl (aD (aC (aG ?_)))))
 refine aq rfl (fun hc1 => ?_) (fun hc1 => ?_)
 ·
  refine aj (aC (aG (ak (aG (aA (bQ rfl (cE rfl (aD (aC ?_)))))))))
  have hok : (gm s k.1).2.Ok 1 := ⟨by omega, by omega⟩
  have hb := cT (gm s k.1).2 ((k.1 : Int) + 1)
  refine aA (I6 rfl (oV rfl (bQ rfl ?_)))
  refine cD rfl rfl (by omega) (by omega) ?_
  refine bk [(1000, 1000)] [] [(1000, Cont.cells 149 (cX (aY (gm s k.1).2)))] (iV (gm s k.1).2 hok _) rfl rfl (by repeat (first | exact bD | refine aH ?_ ?_ | exact dU List.mem_cons_self | exact aN rfl rfl)) (b8 (a := 1000) (b := 1000) (by exact List.mem_cons_self) rfl (bA (by exact List.mem_cons_self) rfl rfl rfl) pre_nil) (bG (a := 1000) (b := 1000) (by exact List.mem_cons_self) rfl (bA (by exact List.mem_cons_self) rfl rfl rfl) post_nil) (aN rfl rfl) ?_
  refine bQ rfl (F1 rfl ?_)
  refine Bf 19 (i := (bZ (gm s k.1).2 ((k.1 : Int) + 1)).toNat) (k := (k.1 : Nat)) (Ty.aE _) (congrArg (Ty.int .i64) (Int.toNat_of_nonneg hb.1).symm) rfl (by omega) (by omega) (by decide) rfl ?_
  refine A4 rfl (aD (bX (aC (aA ?_))))
  refine cD rfl rfl (by omega) (by omega) ?_
  refine bQ rfl (aD ?_)
  refine bl (⟨k.1 + 1, by omega⟩) ?_ (by show n - (k.1 + 1) < n - k.1; omega)
  (refine dG.mk' ?_ ?_ <;> (repeat' (first | exact aI | exact aJ | refine aB ?_ (Ty.aU _) | refine aB ?_ (Ty.aE _) | refine aF rfl (Cont.aE _) ?_)))
  all_goals skip
 refine cZ (aQ (aQ (ay rfl (aC (aG ?_)))))
 obtain ⟨k, hk⟩ := k
 obtain rfl : k = n := by have h1 : ¬ (k : Int) < (n : Int) := hc1; have h2 : k ≤ n := hk; omega
 refine aA (I6 rfl (A4 rfl (aD (aC (av ?_)))))
 refine ew [1000] rfl rfl (by decide) (by repeat (first | exact dR | refine c7 rfl (bA (by decide) rfl rfl rfl) ?_)) ?_
 all_goals exact z6 (by decide) rfl rfl
 all_goals exact z6 (by decide) rfl rfl
set_option maxRecDepth 100000 in
theorem GC (l : List Move) (h : l.length ≤ 1000) : dn Tryz.prog 95 [] [] [Ty.sl cR l] [] (Ty.row cR 41 6 l) := by
 refine c6 Tryz.func95 rfl (by decide) Tryz.ntmps95 (by exact Nat.le_of_ble_eq_true rfl) fun w0 M0 => ?_
 refine aG (aA (lB rfl (aD (aC (aG (aA (fU rfl (cY rfl rfl rfl ?_))))))))
 refine vh (E := cR) rfl rfl rfl rfl rfl rfl rfl (by decide) rfl (by omega) (by (dsimp only; omega)) (by omega) ?_
 refine fU rfl ?_
 refine eN rfl rfl (by decide) rfl rfl rfl rfl rfl rfl (by decide) (by (simp <;> omega)) (by (simp <;> omega)) ?_
 refine A4 rfl (aD (aC (av ?_)))
 refine ew [6] rfl rfl (by decide) (by repeat (exact dR)) ?_
 all_goals skip
 all_goals exact eA (fF (by decide))
set_option maxRecDepth 100000 in
theorem FZ (l : List Level) (h : l.length ≤ 1000) : dn Tryz.prog 96 [] [] [Ty.sl ct l] [] (Ty.row ct 102 6 l) := by
 refine c6 Tryz.func96 rfl (by decide) Tryz.ntmps96 (by exact Nat.le_of_ble_eq_true rfl) fun w0 M0 => ?_
 refine aG (aA (lB rfl (aD (aC (aG (aA (fU rfl (cY rfl rfl rfl ?_))))))))
 refine vh (E := ct) rfl rfl rfl rfl rfl rfl rfl (by decide) rfl (by omega) (by (dsimp only; omega)) (by omega) ?_
 refine fU rfl ?_
 refine eN rfl rfl (by decide) rfl rfl rfl rfl rfl rfl (by decide) (by (simp <;> omega)) (by (simp <;> omega)) ?_
 refine A4 rfl (aD (aC (av ?_)))
 refine ew [6] rfl rfl (by decide) (by repeat (exact dR)) ?_
 all_goals skip
 all_goals exact eA (fF (by decide))
set_option maxRecDepth 100000 in
theorem MJ (y : ah) (hs : y.Small) : dn Tryz.prog 29 [] [] [fI y] [] (Ty.agg [Ty.int .i64 y.days, Ty.row dO 39 21 y.bins, Ty.row cR 41 22 y.moves, Ty.row ct 102 23 y.levels]) := by
 refine c6 Tryz.func29 rfl (by decide) Tryz.ntmps29 (by exact Nat.le_of_ble_eq_true rfl) fun w0 M0 => ?_
 refine aG (aA (bM rfl ?_))
 refine b9 rfl (by exact List.cons_ne_nil _ _) rfl ?_
 refine aD (aC (aG (cW mixed rfl ?_)))
 refine aO rfl rfl rfl rfl rfl (by decide) ?_
 refine aL rfl rfl rfl rfl ?_
 refine aO rfl rfl rfl rfl rfl (by decide) ?_
 refine aL rfl rfl rfl rfl ?_
 refine bk [(21, 6)] [21] [] (F4 y.bins hs.bins) rfl rfl (by repeat (first | exact bD | refine aH ?_ ?_ | exact aN rfl rfl)) pre_nil post_nil (fF (by exact List.mem_cons_self)) ?_
 refine aO rfl rfl rfl rfl rfl (by decide) ?_
 refine aL rfl rfl rfl rfl ?_
 refine bk [(22, 6)] [22] [] (GC y.moves hs.moves) rfl rfl (by repeat (first | exact bD | refine aH ?_ ?_ | exact aN rfl rfl)) pre_nil post_nil (fF (by exact List.mem_cons_self)) ?_
 refine aO rfl rfl rfl rfl rfl (by decide) ?_
 refine aL rfl rfl rfl rfl ?_
 refine bk [(23, 6)] [23] [] (FZ y.levels hs.levels) rfl rfl (by repeat (first | exact bD | refine aH ?_ ?_ | exact aN rfl rfl)) pre_nil post_nil (fF (by exact List.mem_cons_self)) ?_
 refine dB rfl rfl (by exact List.cons_ne_nil _ _) rfl (by repeat (first | exact (aX.nil : aX _ _ [] _) | (show aX _ _ ((_, _) :: _) _; apply aX.one; (· first | exact (rfl : _ = Ty.int _ _) | exact (rfl : _ = Ty.row _ _ _ _)); (· exact rfl)))) (by exact (rfl : _ = some [_, _, _, _])) ?_
 refine bp rfl rfl (by decide) rfl rfl rfl rfl rfl rfl ?_
 refine aD ?_
 refine ⟨by kernel_rfl, ?_⟩
 refine aC (av ?_)
 refine vl [21, 22, 23] rfl rfl rfl rfl (by decide) rfl rfl rfl (by decide) (by repeat (exact dR)) ?_
 all_goals skip
 all_goals exact eA (n8 (aH (aH (aH (aH bD (fF (by decide))) (fF (by decide))) (fF (by decide))) (aN rfl rfl)))
end Go.Proofs.YtelbollidfdcjaaGreat
namespace Go.T
open Go Go.RowKit
section
variable {P : Program} {fr : Fr} {ops : Array Oper} {A : As} {rest : List Oper} {K : As → List (As × Fx) → Prop} {d : Nat} {t ty' : TypeId} {p : String} {e : Array Edge} [T : lC P]
end
end Go.T
namespace Go.T
open Go Go.RowKit
section
variable {P : Program} {fr : Fr} {ops : Array Oper} {A : As} {rest : List Oper} {K : As → List (As × Fx) → Prop} {d : Nat} {t ty' : TypeId} {p : String} {e : Array Edge} [T : lC P]
end
end Go.T
namespace Go.Proofs.YtelbollidfdcjaaGreat
open Go Go.T
set_option maxHeartbeats 8000000
attribute [local irreducible] iN fQ m5 qc ir iW ij iy iw qY iZ qW dz ga qV gG qd nth fP dh aa dy bodyPost Exit.then Exit.inBlock Code.wp Code.wpIn qh iq qb qU ia dn cU cj bodyPostM eF
set_option maxRecDepth 100000 in
theorem GB (l : List Int) (h : l.length ≤ 1000) : dn Tryz.prog 39 [] [] [Ty.sl cS l] [] (Ty.row cS 3 6 l) := by
 refine c6 Tryz.func39 rfl (by decide) Tryz.ntmps39 (by exact Nat.le_of_ble_eq_true rfl) fun w0 M0 => ?_
 refine aG (aA (lB rfl (aD (aC (aG (aA (fU rfl (cY rfl rfl rfl ?_))))))))
 refine vh (E := cS) rfl rfl rfl rfl rfl rfl rfl (by decide) rfl (by omega) (by (dsimp only; omega)) (by omega) ?_
 refine fU rfl ?_
 refine eN rfl rfl (by decide) rfl rfl rfl rfl rfl rfl (by decide) (by (simp <;> omega)) (by (simp <;> omega)) ?_
 refine A4 rfl (aD (aC (av ?_)))
 refine ew [6] rfl rfl (by decide) (by repeat (exact dR)) ?_
 all_goals skip
 all_goals exact eA (fF (by decide))
end Go.Proofs.YtelbollidfdcjaaGreat
namespace Go.Proofs.YtelbollidfdcjaaGreat
open Go Go.T
set_option maxHeartbeats 8000000
def AN (g : List Int) : Md := ⟨oB g, 4, 3, 6, 5⟩
theorem w9 (g : List Int) : (AN g).Ok := ⟨by show (1 : Int) ≤ 4 ∧ (4 : Int) ≤ 5; omega, by show (1 : Int) ≤ 3 ∧ (3 : Int) ≤ 4; omega, by show (0 : Int) ≤ 6 ∧ (6 : Int) ≤ 10; omega, by show (0 : Int) ≤ 5 ∧ (5 : Int) ≤ 8; omega⟩
theorem MK (g : List Int) : ∃ y a s, ah.cI y ∧ (∀ c, eT y c a) ∧ dn Tryz.prog 17 [1000] [(1000, Cont.cells 149 (cX (oB g)))] [Ty.ptr 1000 0, Ty.int .i64 4, Ty.int .i64 3, Ty.int .i64 6, Ty.int .i64 5] [(1000, Cont.cells 149 (cX s))] (Ty.ju [fI y, qn a]) :=
 ⟨_, _, _, (AN g).right (w9 g), (AN g).fits (w9 g), MW (AN g) (w9 g) (by have := zF g; exact ⟨this.1, by have := this.2; show (oB g).taken + 1000 ≤ _; omega⟩)⟩
theorem DX (s : Sk) (n : Nat) (hn : n ≤ 1000) (h : s.Ok (n + 1)) : ∃ p s1, pG n p ∧ Sk.taken s1 = s.taken + n ∧ dn Tryz.prog 77 [1000] [(1000, Cont.cells 149 (cX s))] [Ty.ptr 1000 0, Ty.int .i64 (n : Nat)] [(1000, Cont.cells 149 (cX s1))] (Ty.sl cS p) :=
 ⟨_, _, Ff s n, (qN s n).2.2.2, GI s n hn h⟩
theorem JC {y : ah} {a : eM} (hr : y.cI) {c : Nat → Bool} (h : eT y c a) : OS a := by
 have h1 := hr.moves
 have h2 := h.lens.bg
 have h3 := h.lens.first
 have k1 : ∀ x ∈ a.first, 0 ≤ x ∧ x ≤ 300 := fun x hx => by
  obtain ⟨i, hi, rfl⟩ := jk hx
  have := h.first i (by omega)
  have := (hr.bin _ (cL (show i < y.bins.length by omega))).2
  omega
 have k2 : ∀ x ∈ a.bg, 0 ≤ x ∧ x ≤ 300 := fun x hx => by
  obtain ⟨i, hi, rfl⟩ := jk hx
  have := h.bg i (by omega)
  have := (hr.move _ (cL (show i < y.moves.length by omega))).2.2.2.2
  omega
 exact ⟨by omega, fun x hx => (by have := k1 x hx; omega), fun x hx => (by have := k2 x hx; omega)⟩
section
variable {y z o : ah} {a : eM} {b t : Nat} {x : Int} {p q r : List Int}
structure Bt (y z : ah) (a : eM) : Prop where
  right : z.cI
  opn : cN z = 0
  fits : eT z (fun _ => true) (Dj a)
  bins : z.bins = y.bins
  days : z.days = y.days
  wide : ∀ b t, b < y.bins.length → t ≤ y.D → (nth (eV z (b : Nat)) t).lo ≤ (nth (eV y (b : Nat)) t).lo ∧ (nth (eV y (b : Nat)) t).hi ≤ (nth (eV z (b : Nat)) t).hi
def wC (m : Move) : Move := ⟨m.day, m.src, m.dst, ⟨0, m.sacks.hi⟩⟩
theorem HH (hr : y.cI) (ho : cN y = 0) (hf : eT y (fun _ => true) a) {j : Nat} (hj : j < y.moves.length) (h9 : y.moves.length ≤ 9) : (mQ y (wC (nth y.moves j)) = 0 ∧ oX y (wC (nth y.moves j)) = jX y (wC (nth y.moves j))) ∧ Bt y (jX y (wC (nth y.moves j))) a := by
 obtain ⟨h1, h2, h3, h4, h5, h6⟩ := hr.move _ (cL hj)
 have hx : B2 y (wC (nth y.moves j)) := ⟨h1, h2, h3, h4, ⟨Int.le_refl _, h5.2⟩, by show 0 ≤ (nth y.moves j).sacks.hi; omega⟩
 exact ⟨IW hr h9 hx, rJ hr h9 hx, ym hr h9 hx rfl ho, xM rfl hx.ord hf, rfl, rfl, fun b t hb ht => He hr h9 hx rfl ho hb ht⟩
theorem Bt.len (h : Bt y z a) (hb : b < y.bins.length) : (eV z (b : Nat)).length = y.D + 1 := by
 rw [m7 h.opn (by rw [h.bins]; exact hb)]
 unfold ah.D; rw [h.days]
theorem n30 : ((!decide ((0 : Int) = 0) || !decide ((0 : Int) = 0)) || !decide (eV y x = eV y x)) = false := by simp
theorem O7 (h : Bt y z a) (ho : cN y = 0) (hb : b < y.bins.length) : (((!decide ((0 : Int) = 0) || !decide ((0 : Int) = 0)) || !decide (((eV y (b : Nat)).length : Int) = ((eV z (b : Nat)).length : Int))) || !mT z (Dj a)) = false := by
 rw [y6 h.fits, h.len hb, m7 ho hb]; simp
theorem O8 (h : Bt y z a) (hb : b < y.bins.length) (ht : t ≤ y.D) : (decide ((nth (eV z (b : Nat)) t).lo > (nth (eV y (b : Nat)) t).lo) || decide ((nth (eV z (b : Nat)) t).hi < (nth (eV y (b : Nat)) t).hi)) = false := by
 have := h.wide b t hb ht
 rw [decide_eq_false (by omega), decide_eq_false (by omega)]; rfl
theorem O0 (hy : y.cI) (ho : cN y = 0) (hz : o.cI) (hzo : cN o = 0) : (((decide ((0 : Int) = 0) && decide ((0 : Int) = 0)) && decide (((eJ y).length : Int) = ((eJ o).length : Int))) && true) = true := by
 rw [(nx hy ho).2, (nx hz hzo).2]; simp
end
attribute [local irreducible] eV jY cN mT bU mU lU OQ eJ jJ jX Dj aY bZ
attribute [local irreducible] iN fQ m5 qc ir iW ij iy iw qY iZ qW dz ga qV gG qd nth fP dh aa dy bodyPost Exit.then Exit.inBlock Code.wp Code.wpIn qh iq qb qU ia dn cU cj bodyPostM eF
attribute [local irreducible] OX MR
set_option maxRecDepth 100000 in
theorem I8 (x : Int) (p : List Int) (h : -1 ≤ x ∧ x < p.length) : dy Tryz.prog 78 [Ty.int .i64 x, Ty.pp [Ty.sl cS p]] (Ty.int .i64 (De p x)) := by
 refine bC Tryz.func78 rfl (by decide) Tryz.ntmps78 (by exact Nat.le_of_ble_eq_true rfl) fun w0 M0 => ?_
 refine aG (aA (cE rfl (aD (aC (aG (aG (aA (bQ rfl (bF rfl rfl rfl ?_)))))))))
 refine aD (aC ?_)
 refine aq rfl (fun hc1 => ?_) (fun hc1 => ?_)
 ·
  refine aG (aA (bQ rfl (cE rfl (aD (aC (av (aW (bz rfl rfl ?_))))))))
  all_goals skip
  all_goals exact bE rfl rfl (congrArg (Ty.int .i64) (BI hc1))
 refine aj (aC (aG (aA (aL rfl rfl rfl rfl (bQ rfl ?_)))))
 refine j5 rfl rfl rfl rfl rfl rfl (by omega) (by omega) ?_
 refine aL rfl rfl rfl rfl (cE rfl (aD (aC (av (bz rfl rfl ?_)))))
 all_goals skip
 all_goals exact bE rfl rfl (congrArg (Ty.int .i64) (C1 hc1))
set_option maxRecDepth 100000 in
theorem Ay (g h : List Int) : dy Tryz.prog 15 [Ty.sl U8 g, Ty.sl U8 h] (Ty.bool true) := by
 refine bC Tryz.func15 rfl (by decide) Tryz.ntmps15 (by exact Nat.le_of_ble_eq_true rfl) fun w0 M0 => ?_
 obtain ⟨y, a, s0, hr, hfa, kM⟩ := MK g
 have ho := nT (gy hr) ⟨a, hfa _⟩
 have hyb := hr.bins
 have hym := hr.moves
 have hyl := hr.levels
 have hyd := hr.days
 have hs : y.Small := ⟨by omega, by omega, by omega⟩
 have hD := D_eq hr
 have hab : OS a := JC hr (hfa (nth bh))
 have hfl := (hfa (nth bh)).lens.first
 have hml := (hfa (nth bh)).lens.bg
 have hsk := zF h
 have hsk0 := hsk.1
 have hsk1 := hsk.2
 obtain ⟨p, s1, hp, hs1, kP⟩ := DX (oB h) y.bins.length (by omega) ⟨hsk0, by omega⟩
 obtain ⟨q, s2, hq, hs2, kQ⟩ := DX s1 y.moves.length (by omega) ⟨by omega, by omega⟩
 obtain ⟨r, s3, hrr, hs3, kR⟩ := DX s2 y.levels.length (by omega) ⟨by omega, by omega⟩
 have hpl := hp.len
 have hql := hq.len
 have hrl := hrr.len
 have hpi : ∀ k, k < y.bins.length → 0 ≤ nth p k ∧ nth p k < (y.bins.length : Int) := fun k hk => hp.MC hk
 have hqi : ∀ k, k < y.moves.length → 0 ≤ nth q k ∧ nth q k < (y.moves.length : Int) := fun k hk => hq.MC hk
 have hri : ∀ k, k < y.levels.length → 0 ≤ nth r k ∧ nth r k < (y.levels.length : Int) := fun k hk => hrr.MC hk
 have hbl : ∀ k, (bU y p k).length = y.bins.length := fun k => D8
 have hmU : ∀ k, (mU y p q k).length = y.moves.length := fun k => DC
 have hlU : ∀ k, (lU y p r k).length = y.levels.length := fun k => D1
 obtain ⟨o, eo, hRen⟩ : ∃ o, [Ty.int .i64 y.days, Ty.sl dO (bU y p y.bins.length), Ty.sl cR (mU y p q y.moves.length), Ty.sl ct (lU y p r y.levels.length)] = bK o ∧ nE y o (qa p) (yA p) (qa q) (yA q) (qa r) (yA r) := ⟨OQ y p q r, by unfold OQ; rfl, L0 hr hp hq hrr⟩
 have hor := hRen.right hr
 have hoo := Cx hRen hr ho
 have hob := hor.bins
 have hos : o.Small := ⟨by omega, by have := hor.moves; omega, by have := hor.levels; omega⟩
 refine aG (aA (dw rfl (aD (aC (aG (aA (fU rfl ?_)))))))
 refine bk [(41, 10)] [41] [(41, Cont.cells 149 (cX (oB g)))] (Ia g) rfl rfl (by repeat (first | exact bD | refine aH ?_ ?_ | exact aN rfl rfl)) pre_nil (bG (a := 41) (b := 10) (by exact List.mem_cons_self) rfl (bA (by exact List.mem_cons_self) rfl rfl rfl) post_nil) (dU (by exact List.mem_cons_self)) ?_
 refine bk (res' := Ty.ju [fI y, qn a]) [(41, 1000)] [] [(41, Cont.cells 149 (cX s0))] kM rfl rfl (by repeat (first | exact bD | refine aH ?_ ?_ | exact dU List.mem_cons_self | exact aN rfl rfl)) (b8 (a := 41) (b := 1000) (by exact List.mem_cons_self) rfl (bA (by exact List.mem_cons_self) rfl rfl rfl) pre_nil) (bG (a := 41) (b := 1000) (by exact List.mem_cons_self) rfl (bA (by exact List.mem_cons_self) rfl rfl rfl) post_nil) (aN rfl rfl) ?_
 refine qq rfl (bL rfl rfl (bL rfl rfl ?_))
 refine b9 rfl (by exact List.cons_ne_nil _ _) rfl ?_
 refine b9 rfl (by exact List.cons_ne_nil _ _) rfl ?_
 refine bp rfl rfl (by decide) rfl rfl rfl rfl rfl rfl ?_
 refine bp rfl rfl (by decide) rfl rfl rfl rfl rfl rfl ?_
 refine aD (aC (aG ?_))
 refine c9 (B := live [(1, Ty.sl U8 h), (5, Ty.ptr 6 0), (6, Ty.ptr 7 0)] [(6, Cont.cells 27 (bK y)), (7, Cont.cells 30 (dJ a))]) ?_ ?_
 ·refine dG.mk' ?_ ?_
  ·(repeat (first | refine aB ?_ (Ty.aU _) | refine aB ?_ (Ty.aE _))); exact aI
  refine aF rfl (Cont.dY ⟨Ty.aE _, Ty.aE _, Ty.aE _, Ty.aE _, trivial⟩) ?_; refine aF rfl (Cont.dY ⟨Ty.aE _, Ty.aE _, trivial⟩) ?_; exact aJ
 refine aA (fU rfl ?_)
 refine bk [(46, 10)] [46] [(46, Cont.cells 149 (cX (oB h)))] (Ia h) rfl rfl (by repeat (first | exact bD | refine aH ?_ ?_ | exact aN rfl rfl)) pre_nil (bG (a := 46) (b := 10) (by exact List.mem_cons_self) rfl (bA (by exact List.mem_cons_self) rfl rfl rfl) post_nil) (dU (by exact List.mem_cons_self)) ?_
 refine Ol rfl (aD (aC (aG (aA (oV rfl ?_)))))
 refine aK rfl rfl rfl rfl rfl (by decide) ?_
 refine aS rfl rfl (by decide) rfl rfl rfl ?_
 refine cY rfl rfl rfl ?_
 refine bk [(46, 1000)] [] [(46, Cont.cells 149 (cX s1))] kP rfl rfl (by repeat (first | exact bD | refine aH ?_ ?_ | exact dU List.mem_cons_self | exact aN rfl rfl)) (b8 (a := 46) (b := 1000) (by exact List.mem_cons_self) rfl (bA (by exact List.mem_cons_self) rfl rfl rfl) pre_nil) (bG (a := 46) (b := 1000) (by exact List.mem_cons_self) rfl (bA (by exact List.mem_cons_self) rfl rfl rfl) post_nil) (aN rfl rfl) ?_
 refine b9 rfl (by exact List.cons_ne_nil _ _) rfl ?_
 refine cq rfl rfl (by decide) rfl rfl (by exact (rfl : _ = Ty.sl _ _)) rfl (by exact Nat.le_of_ble_eq_true rfl) rfl rfl (by exact (rfl : _ = [_])) ?_
 refine aD (aC (aG ?_))
 refine lF (tg := 9) [(8, Ty.pp [Ty.sl cS p])] (by decide) rfl ⟨lK (T := 28) (tg := 9) (off := 0) (l := [Ty.sl cS p]) rfl rfl rfl (by decide), trivial⟩ ?_
 refine c9 (B := live [(5, Ty.ptr 6 0), (6, Ty.ptr 7 0), (7, Ty.ptr 46 0), (8, Ty.pp [Ty.sl cS p])] [(6, Cont.cells 27 (bK y)), (7, Cont.cells 30 (dJ a)), (46, Cont.cells 149 (cX s1))]) ?_ ?_
 ·refine dG.mk' ?_ ?_
  ·(repeat (first | refine aB ?_ (Ty.aU _) | refine aB ?_ (Ty.aE _))); exact aI
  refine aF rfl (Cont.aE _) ?_; refine aF rfl (Cont.aE _) ?_; refine aF rfl (Cont.aE _) ?_; exact aJ
 refine aA (dP rfl (Oj rfl (aD (aC (aG ?_)))))
 refine c9 (B := live [(5, Ty.ptr 6 0), (6, Ty.ptr 7 0), (7, Ty.ptr 46 0), (8, Ty.pp [Ty.sl cS p]), (9, Ty.jC 78 [Ty.pp [Ty.sl cS p]])] [(6, Cont.cells 27 (bK y)), (7, Cont.cells 30 (dJ a)), (46, Cont.cells 149 (cX s1))]) ?_ ?_
 ·refine dG.mk' ?_ ?_
  ·(repeat (first | refine aB ?_ (Ty.aU _) | refine aB ?_ (Ty.aE _))); exact aI
  refine aF rfl (Cont.aE _) ?_; refine aF rfl (Cont.aE _) ?_; refine aF rfl (Cont.aE _) ?_; exact aJ
 refine aA ?_
 refine bS rfl rfl (by decide) rfl rfl (by exact Nat.le_of_ble_eq_true rfl) ?_
 refine bk (res' := Ty.agg [Ty.int .i64 y.days, Ty.row dO 39 721 y.bins, Ty.row cR 41 722 y.moves, Ty.row ct 102 723 y.levels]) [(721, 21), (722, 22), (723, 23)] [721, 722, 723] [] (MJ y hs) rfl rfl (by repeat (first | exact bD | refine aH ?_ ?_ | exact aN rfl rfl)) pre_nil post_nil (n8 (aH (aH (aH (aH bD (fF (by decide))) (fF (by decide))) (fF (by decide))) (aN rfl rfl))) ?_
 refine b9 rfl (by exact List.cons_ne_nil _ _) rfl ?_
 refine bp rfl rfl (by decide) rfl rfl rfl rfl rfl rfl ?_
 refine aD (aC (aG (aG ?_)))
 refine gW (c0 := 11) 1 rfl rfl ?_
 refine gW (c0 := 11) 2 rfl rfl ?_
 refine gW (c0 := 11) 3 rfl rfl ?_
 refine fV (tg := 11) rfl (Cont.dY (l' := [Ty.int .i64 y.days, Ty.vs 721 y.bins.length, Ty.vs 722 y.moves.length, Ty.vs 723 y.levels.length]) ⟨Ty.aE _, Ty.mF rfl, Ty.mF rfl, Ty.mF rfl, trivial⟩) ?_
 refine c9 (B := live [(5, Ty.ptr 6 0), (6, Ty.ptr 7 0), (7, Ty.ptr 46 0), (8, Ty.pp [Ty.sl cS p]), (9, Ty.jC 78 [Ty.pp [Ty.sl cS p]]), (10, Ty.ptr 11 0)] [(6, Cont.cells 27 (bK y)), (7, Cont.cells 30 (dJ a)), (11, Cont.cells 27 [Ty.int .i64 y.days, Ty.vs 721 y.bins.length, Ty.vs 722 y.moves.length, Ty.vs 723 y.levels.length]), (46, Cont.cells 149 (cX s1)), (721, Cont.vec dO 39 y.bins), (722, Cont.vec cR 41 y.moves), (723, Cont.vec ct 102 y.levels)]) ?_ ?_
 ·refine dG.mk' ?_ ?_
  ·(repeat (first | refine aB ?_ (Ty.aU _) | refine aB ?_ (Ty.aE _))); exact aI
  refine aF rfl (Cont.aE _) ?_; refine aF rfl (Cont.aE _) ?_; refine aF rfl (Cont.aE _) ?_; refine aF rfl (Cont.aE _) ?_; refine aF rfl (Cont.aE _) ?_; refine aF rfl (Cont.aE _) ?_; refine aF rfl (Cont.aE _) ?_; exact aJ
 refine aA (aL rfl rfl rfl rfl (cY rfl rfl rfl (bQ rfl (aD (aC (ak ?_))))))
 refine cg (fun (k : {k : Nat // k ≤ p.length}) => live [(5, Ty.ptr 6 0), (6, Ty.ptr 7 0), (7, Ty.ptr 46 0), (8, Ty.pp [Ty.sl cS p]), (9, Ty.jC 78 [Ty.pp [Ty.sl cS p]]), (10, Ty.ptr 11 0), (55, Ty.sl cS p), (56, Ty.int .i64 p.length), (57, Ty.int .i64 (k.1 : Nat))] [(6, Cont.cells 27 (bK y)), (7, Cont.cells 30 (dJ a)), (11, Cont.cells 27 [Ty.int .i64 y.days, Ty.vs 721 y.bins.length, Ty.vs 722 y.moves.length, Ty.vs 723 y.levels.length]), (46, Cont.cells 149 (cX s1)), (721, Cont.vec dO 39 (bU y p k.1)), (722, Cont.vec cR 41 y.moves), (723, Cont.vec ct 102 y.levels)]) (fun k => p.length - k.1) (⟨0, by omega⟩) ?_ fun k => ?_
 ·(refine dG.mk' ?_ ?_ <;> (repeat' (first | exact aI | exact aJ | refine aB ?_ (Ty.aU _) | refine aB ?_ (Ty.aE _) | refine aF rfl (Cont.aE _) ?_ | refine aF rfl ?_ ?_)))
  all_goals exact Cont.dW KS
 have hk := k.2
 refine aG (aA (bF rfl rfl rfl (aD (aC (aG ?_)))))
 refine aq rfl (fun hc1 => ?_) (fun hc1 => ?_)
 ·
  refine aj (aC (aG (ak (aG (aA (bQ rfl ?_))))))
  refine bH rfl rfl rfl rfl rfl rfl (by omega) ?_
  refine aL rfl rfl rfl rfl (cE rfl (cE rfl (aD (aC ?_))))
  have hk2 : k.1 < y.bins.length := by omega
  have hpk := hpi k.1 hk2
  have hbk := hbl k.1
  refine cW mixed rfl ?_
  refine aK rfl rfl rfl rfl rfl (by decide) ?_
  refine aS rfl rfl (by decide) rfl rfl rfl ?_
  refine bQ rfl ?_
  refine aK rfl rfl rfl rfl rfl (by decide) ?_
  refine aS rfl rfl (by decide) rfl rfl rfl ?_
  refine bQ rfl (bH rfl rfl rfl rfl rfl rfl hk2 ?_)
  refine aZ rfl rfl rfl (by exact Nat.le_of_ble_eq_true rfl) ?_
  refine fK rfl rfl rfl rfl rfl (by omega) (by omega) ?_
  refine lJ (E := dO) (z := nth y.bins k.1) (nth p k.1).toNat rfl rfl rfl (by decide) rfl rfl rfl (by omega) ?_
  refine aD ?_
  refine ⟨by kernel_rfl, ?_⟩
  refine bX (aC (aA ?_))
  refine cD rfl rfl (by omega) (by omega) ?_
  refine bQ rfl (aD ?_)
  refine bl (⟨k.1 + 1, by omega⟩) ?_ (by show p.length - (k.1 + 1) < p.length - k.1; omega)
  (refine dG.mk' ?_ ?_ <;> (repeat' (first | exact aI | exact aJ | refine aB ?_ (Ty.aU _) | refine aB ?_ (Ty.aE _) | refine aF rfl (Cont.aE _) ?_ | refine aF rfl ?_ ?_)))
  all_goals skip
  all_goals exact Cont.dW Jn
 refine cZ (aQ (aQ (ay rfl (aC (aG (aG ?_))))))
 obtain ⟨k, hk⟩ := k
 obtain rfl : k = p.length := by have h1 : ¬ (k : Int) < (p.length : Int) := hc1; have h2 : k ≤ p.length := hk; omega
 refine fV (tg := 721) rfl (Cont.dW (show bU y p p.length = bU y p y.bins.length by rw [hpl])) ?_
 refine c9 (B := live [(5, Ty.ptr 6 0), (6, Ty.ptr 7 0), (7, Ty.ptr 46 0), (8, Ty.pp [Ty.sl cS p]), (9, Ty.jC 78 [Ty.pp [Ty.sl cS p]]), (10, Ty.ptr 11 0)] [(6, Cont.cells 27 (bK y)), (7, Cont.cells 30 (dJ a)), (11, Cont.cells 27 [Ty.int .i64 y.days, Ty.vs 721 y.bins.length, Ty.vs 722 y.moves.length, Ty.vs 723 y.levels.length]), (46, Cont.cells 149 (cX s1)), (721, Cont.vec dO 39 (bU y p y.bins.length)), (722, Cont.vec cR 41 y.moves), (723, Cont.vec ct 102 y.levels)]) ?_ ?_
 ·refine dG.mk' ?_ ?_
  ·(repeat (first | refine aB ?_ (Ty.aU _) | refine aB ?_ (Ty.aE _))); exact aI
  refine aF rfl (Cont.aE _) ?_; refine aF rfl (Cont.aE _) ?_; refine aF rfl (Cont.aE _) ?_; refine aF rfl (Cont.aE _) ?_; refine aF rfl (Cont.aE _) ?_; refine aF rfl (Cont.aE _) ?_; refine aF rfl (Cont.aE _) ?_; exact aJ
 refine aA (oV rfl ?_)
 refine aK rfl rfl rfl rfl rfl (by decide) ?_
 refine aS rfl rfl (by decide) rfl rfl rfl ?_
 refine cY rfl rfl rfl ?_
 refine bk [(46, 1000)] [] [(46, Cont.cells 149 (cX s2))] kQ rfl rfl (by repeat (first | exact bD | refine aH ?_ ?_ | exact dU List.mem_cons_self | exact aN rfl rfl)) (b8 (a := 46) (b := 1000) (by exact List.mem_cons_self) rfl (bA (by exact List.mem_cons_self) rfl rfl rfl) pre_nil) (bG (a := 46) (b := 1000) (by exact List.mem_cons_self) rfl (bA (by exact List.mem_cons_self) rfl rfl rfl) post_nil) (aN rfl rfl) ?_
 refine cY rfl rfl rfl (bQ rfl (aD (aC (ak ?_))))
 refine cg (fun (i : {i : Nat // i ≤ q.length}) => live [(5, Ty.ptr 6 0), (6, Ty.ptr 7 0), (7, Ty.ptr 46 0), (8, Ty.pp [Ty.sl cS p]), (9, Ty.jC 78 [Ty.pp [Ty.sl cS p]]), (10, Ty.ptr 11 0), (76, Ty.sl cS q), (77, Ty.int .i64 q.length), (78, Ty.int .i64 (i.1 : Nat))] [(6, Cont.cells 27 (bK y)), (7, Cont.cells 30 (dJ a)), (11, Cont.cells 27 [Ty.int .i64 y.days, Ty.vs 721 y.bins.length, Ty.vs 722 y.moves.length, Ty.vs 723 y.levels.length]), (46, Cont.cells 149 (cX s2)), (721, Cont.vec dO 39 (bU y p y.bins.length)), (722, Cont.vec cR 41 (mU y p q i.1)), (723, Cont.vec ct 102 y.levels)]) (fun i => q.length - i.1) (⟨0, by omega⟩) ?_ fun i => ?_
 ·(refine dG.mk' ?_ ?_ <;> (repeat' (first | exact aI | exact aJ | refine aB ?_ (Ty.aU _) | refine aB ?_ (Ty.aE _) | refine aF rfl (Cont.aE _) ?_ | refine aF rfl ?_ ?_)))
  all_goals exact Cont.dW Kk
 have hi := i.2
 refine aG (aA (bF rfl rfl rfl (aD (aC (aG ?_)))))
 refine aq rfl (fun hc2 => ?_) (fun hc2 => ?_)
 ·
  refine aj (aC (aG (ak (aG (aA (bQ rfl ?_))))))
  refine bH rfl rfl rfl rfl rfl rfl (by omega) ?_
  refine aL rfl rfl rfl rfl (cE rfl (cE rfl (aD (aC (aG ?_)))))
  have hi2 : i.1 < y.moves.length := by omega
  have hqi2 := hqi i.1 hi2
  have hmU2 := hmU i.1
  have hmv := hr.move _ (cL hi2)
  refine aA ?_
  refine aK rfl rfl rfl rfl rfl (by decide) ?_
  refine aS rfl rfl (by decide) rfl rfl rfl ?_
  refine bQ rfl (bH rfl rfl rfl rfl rfl rfl hi2 ?_)
  refine aZ rfl rfl rfl (by exact Nat.le_of_ble_eq_true rfl) ?_
  refine b9 rfl (by exact List.cons_ne_nil _ _) rfl ?_
  refine bp rfl rfl (by decide) rfl rfl rfl rfl rfl rfl ?_
  refine aD (aC (aG (cW mixed rfl (NM rfl ?_))))
  refine aK rfl rfl rfl rfl rfl (by decide) ?_
  refine aS rfl rfl (by decide) rfl rfl rfl ?_
  refine zw rfl (I8 (nth y.moves i.1).src p (by omega)) rfl rfl rfl rfl rfl ?_
  refine NM rfl ?_
  refine aK rfl rfl rfl rfl rfl (by decide) ?_
  refine aS rfl rfl (by decide) rfl rfl rfl ?_
  refine zw rfl (I8 (nth y.moves i.1).dst p (by omega)) rfl rfl rfl rfl rfl ?_
  refine aK rfl rfl rfl rfl rfl (by decide) ?_
  refine cq rfl rfl (by decide) rfl rfl (by exact (rfl : _ = Ty.int _ _)) rfl (by exact Nat.le_of_ble_eq_true rfl) rfl rfl (by exact rfl) ?_
  refine aK rfl rfl rfl rfl rfl (by decide) ?_
  refine cq rfl rfl (by decide) rfl rfl (by exact (rfl : _ = Ty.int _ _)) rfl (by exact Nat.le_of_ble_eq_true rfl) rfl rfl (by exact rfl) ?_
  refine aD ?_
  refine ⟨by kernel_rfl, ?_⟩
  refine aC (aA ?_)
  refine aK rfl rfl rfl rfl rfl (by decide) ?_
  refine aS rfl rfl (by decide) rfl rfl rfl ?_
  refine bQ rfl ?_
  refine bS rfl rfl (by decide) rfl rfl (by exact Nat.le_of_ble_eq_true rfl) ?_
  refine fK rfl rfl rfl rfl rfl (by omega) (by omega) ?_
  refine lJ (E := cR) (z := KL p (nth y.moves i.1)) (nth q i.1).toNat rfl rfl rfl (by decide) rfl rfl rfl (by omega) ?_
  refine aD (bX (aC (aA ?_)))
  refine cD rfl rfl (by omega) (by omega) ?_
  refine bQ rfl (aD ?_)
  refine bl (⟨i.1 + 1, by omega⟩) ?_ (by show q.length - (i.1 + 1) < q.length - i.1; omega)
  (refine dG.mk' ?_ ?_ <;> (repeat' (first | exact aI | exact aJ | refine aB ?_ (Ty.aU _) | refine aB ?_ (Ty.aE _) | refine aF rfl (Cont.aE _) ?_ | refine aF rfl ?_ ?_)))
  all_goals skip
  all_goals exact Cont.dW Kz
 refine cZ (aQ (aQ (ay rfl (aC (aG (aG ?_))))))
 obtain ⟨i, hi⟩ := i
 obtain rfl : i = q.length := by have h1 : ¬ (i : Int) < (q.length : Int) := hc2; have h2 : i ≤ q.length := hi; omega
 refine fV (tg := 722) rfl (Cont.dW (show mU y p q q.length = mU y p q y.moves.length by rw [hql])) ?_
 refine c9 (B := live [(5, Ty.ptr 6 0), (6, Ty.ptr 7 0), (7, Ty.ptr 46 0), (8, Ty.pp [Ty.sl cS p]), (9, Ty.jC 78 [Ty.pp [Ty.sl cS p]]), (10, Ty.ptr 11 0)] [(6, Cont.cells 27 (bK y)), (7, Cont.cells 30 (dJ a)), (11, Cont.cells 27 [Ty.int .i64 y.days, Ty.vs 721 y.bins.length, Ty.vs 722 y.moves.length, Ty.vs 723 y.levels.length]), (46, Cont.cells 149 (cX s2)), (721, Cont.vec dO 39 (bU y p y.bins.length)), (722, Cont.vec cR 41 (mU y p q y.moves.length)), (723, Cont.vec ct 102 y.levels)]) ?_ ?_
 ·refine dG.mk' ?_ ?_
  ·(repeat (first | refine aB ?_ (Ty.aU _) | refine aB ?_ (Ty.aE _))); exact aI
  refine aF rfl (Cont.aE _) ?_; refine aF rfl (Cont.aE _) ?_; refine aF rfl (Cont.aE _) ?_; refine aF rfl (Cont.aE _) ?_; refine aF rfl (Cont.aE _) ?_; refine aF rfl (Cont.aE _) ?_; refine aF rfl (Cont.aE _) ?_; exact aJ
 refine aA (oV rfl ?_)
 refine aK rfl rfl rfl rfl rfl (by decide) ?_
 refine aS rfl rfl (by decide) rfl rfl rfl ?_
 refine cY rfl rfl rfl ?_
 refine bk [(46, 1000)] [] [(46, Cont.cells 149 (cX s3))] kR rfl rfl (by repeat (first | exact bD | refine aH ?_ ?_ | exact dU List.mem_cons_self | exact aN rfl rfl)) (b8 (a := 46) (b := 1000) (by exact List.mem_cons_self) rfl (bA (by exact List.mem_cons_self) rfl rfl rfl) pre_nil) (bG (a := 46) (b := 1000) (by exact List.mem_cons_self) rfl (bA (by exact List.mem_cons_self) rfl rfl rfl) post_nil) (aN rfl rfl) ?_
 refine cY rfl rfl rfl (bQ rfl (aD (aC (ak ?_))))
 refine cg (fun (u : {u : Nat // u ≤ r.length}) => live [(5, Ty.ptr 6 0), (6, Ty.ptr 7 0), (7, Ty.ptr 46 0), (8, Ty.pp [Ty.sl cS p]), (9, Ty.jC 78 [Ty.pp [Ty.sl cS p]]), (10, Ty.ptr 11 0), (108, Ty.sl cS r), (109, Ty.int .i64 r.length), (110, Ty.int .i64 (u.1 : Nat))] [(6, Cont.cells 27 (bK y)), (7, Cont.cells 30 (dJ a)), (11, Cont.cells 27 [Ty.int .i64 y.days, Ty.vs 721 y.bins.length, Ty.vs 722 y.moves.length, Ty.vs 723 y.levels.length]), (46, Cont.cells 149 (cX s3)), (721, Cont.vec dO 39 (bU y p y.bins.length)), (722, Cont.vec cR 41 (mU y p q y.moves.length)), (723, Cont.vec ct 102 (lU y p r u.1))]) (fun u => r.length - u.1) (⟨0, by omega⟩) ?_ fun u => ?_
 ·(refine dG.mk' ?_ ?_ <;> (repeat' (first | exact aI | exact aJ | refine aB ?_ (Ty.aU _) | refine aB ?_ (Ty.aE _) | refine aF rfl (Cont.aE _) ?_ | refine aF rfl ?_ ?_)))
  all_goals exact Cont.dW J6
 have hu := u.2
 refine aG (aA (bF rfl rfl rfl (aD (aC (aG ?_)))))
 refine aq rfl (fun hc3 => ?_) (fun hc3 => ?_)
 ·
  refine aj (aC (aG (ak (aG (aA (bQ rfl ?_))))))
  refine bH rfl rfl rfl rfl rfl rfl (by omega) ?_
  refine aL rfl rfl rfl rfl (cE rfl (cE rfl (aD (aC (aG ?_)))))
  have hu2 : u.1 < y.levels.length := by omega
  have hri2 := hri u.1 hu2
  have hlU2 := hlU u.1
  have hlv := hr.level _ (cL hu2)
  refine aA ?_
  refine aK rfl rfl rfl rfl rfl (by decide) ?_
  refine aS rfl rfl (by decide) rfl rfl rfl ?_
  refine bQ rfl (bH rfl rfl rfl rfl rfl rfl hu2 ?_)
  refine aZ rfl rfl rfl (by exact Nat.le_of_ble_eq_true rfl) ?_
  refine b9 rfl (by exact List.cons_ne_nil _ _) rfl ?_
  refine bp rfl rfl (by decide) rfl rfl rfl rfl rfl rfl ?_
  refine aD (aC (aG (aA (NM rfl ?_))))
  refine aK rfl rfl rfl rfl rfl (by decide) ?_
  refine aS rfl rfl (by decide) rfl rfl rfl ?_
  refine zw rfl (I8 (nth y.levels u.1).bin p (by omega)) rfl rfl rfl rfl rfl ?_
  refine aK rfl rfl rfl rfl rfl (by decide) ?_
  refine cq rfl rfl (by decide) rfl rfl (by exact (rfl : _ = Ty.int _ _)) rfl (by exact Nat.le_of_ble_eq_true rfl) rfl rfl (by exact rfl) ?_
  refine aD (aC (aA ?_))
  refine aK rfl rfl rfl rfl rfl (by decide) ?_
  refine aS rfl rfl (by decide) rfl rfl rfl ?_
  refine bQ rfl ?_
  refine bS rfl rfl (by decide) rfl rfl (by exact Nat.le_of_ble_eq_true rfl) ?_
  refine fK rfl rfl rfl rfl rfl (by omega) (by omega) ?_
  refine lJ (E := ct) (z := KO p (nth y.levels u.1)) (nth r u.1).toNat rfl rfl rfl (by decide) rfl rfl rfl (by omega) ?_
  refine aD (bX (aC (aA ?_)))
  refine cD rfl rfl (by omega) (by omega) ?_
  refine bQ rfl (aD ?_)
  refine bl (⟨u.1 + 1, by omega⟩) ?_ (by show r.length - (u.1 + 1) < r.length - u.1; omega)
  (refine dG.mk' ?_ ?_ <;> (repeat' (first | exact aI | exact aJ | refine aB ?_ (Ty.aU _) | refine aB ?_ (Ty.aE _) | refine aF rfl (Cont.aE _) ?_ | refine aF rfl ?_ ?_)))
  all_goals skip
  all_goals exact Cont.dW LA
 refine cZ (aQ (aQ (ay rfl (aC (aG (aG ?_))))))
 obtain ⟨u, hu⟩ := u
 obtain rfl : u = r.length := by have h1 : ¬ (u : Int) < (r.length : Int) := hc3; have h2 : u ≤ r.length := hu; omega
 refine fV (tg := 723) rfl (Cont.dW (show lU y p r r.length = lU y p r y.levels.length by rw [hrl])) ?_
 refine c9 (B := live [(5, Ty.ptr 6 0), (6, Ty.ptr 7 0), (7, Ty.ptr 46 0), (8, Ty.pp [Ty.sl cS p]), (10, Ty.ptr 11 0)] [(6, Cont.cells 27 (bK y)), (7, Cont.cells 30 (dJ a)), (11, Cont.cells 27 [Ty.int .i64 y.days, Ty.vs 721 y.bins.length, Ty.vs 722 y.moves.length, Ty.vs 723 y.levels.length]), (46, Cont.cells 149 (cX s3)), (721, Cont.vec dO 39 (bU y p y.bins.length)), (722, Cont.vec cR 41 (mU y p q y.moves.length)), (723, Cont.vec ct 102 (lU y p r y.levels.length))]) ?_ ?_
 ·refine dG.mk' ?_ ?_
  ·(repeat (first | refine aB ?_ (Ty.aU _) | refine aB ?_ (Ty.aE _))); exact aI
  refine aF rfl (Cont.aE _) ?_; refine aF rfl (Cont.aE _) ?_; refine aF rfl (Cont.aE _) ?_; refine aF rfl (Cont.aE _) ?_; refine aF rfl (Cont.aE _) ?_; refine aF rfl (Cont.aE _) ?_; refine aF rfl (Cont.aE _) ?_; exact aJ
 refine iX (tg := 721) [] [(11, Cont.cells 27 [Ty.int .i64 y.days, Ty.sl dO (bU y p y.bins.length), Ty.vs 722 y.moves.length, Ty.vs 723 y.levels.length])] (by decide) rfl trivial ⟨eP rfl rfl ⟨bP rfl, gu rfl D8 (by decide), bP rfl, bP rfl, trivial⟩, trivial⟩ ?_
 refine c9 (B := live [(5, Ty.ptr 6 0), (6, Ty.ptr 7 0), (7, Ty.ptr 46 0), (8, Ty.pp [Ty.sl cS p]), (10, Ty.ptr 11 0)] [(6, Cont.cells 27 (bK y)), (7, Cont.cells 30 (dJ a)), (11, Cont.cells 27 [Ty.int .i64 y.days, Ty.sl dO (bU y p y.bins.length), Ty.vs 722 y.moves.length, Ty.vs 723 y.levels.length]), (46, Cont.cells 149 (cX s3)), (722, Cont.vec cR 41 (mU y p q y.moves.length)), (723, Cont.vec ct 102 (lU y p r y.levels.length))]) ?_ ?_
 ·refine dG.mk' ?_ ?_
  ·(repeat (first | refine aB ?_ (Ty.aU _) | refine aB ?_ (Ty.aE _))); exact aI
  refine aF rfl (Cont.aE _) ?_; refine aF rfl (Cont.aE _) ?_; refine aF rfl (Cont.aE _) ?_; refine aF rfl (Cont.aE _) ?_; refine aF rfl (Cont.aE _) ?_; refine aF rfl (Cont.aE _) ?_; exact aJ
 refine iX (tg := 722) [] [(11, Cont.cells 27 [Ty.int .i64 y.days, Ty.sl dO (bU y p y.bins.length), Ty.sl cR (mU y p q y.moves.length), Ty.vs 723 y.levels.length])] (by decide) rfl trivial ⟨eP rfl rfl ⟨bP rfl, bP rfl, gu rfl DC (by decide), bP rfl, trivial⟩, trivial⟩ ?_
 refine c9 (B := live [(5, Ty.ptr 6 0), (6, Ty.ptr 7 0), (7, Ty.ptr 46 0), (8, Ty.pp [Ty.sl cS p]), (10, Ty.ptr 11 0)] [(6, Cont.cells 27 (bK y)), (7, Cont.cells 30 (dJ a)), (11, Cont.cells 27 [Ty.int .i64 y.days, Ty.sl dO (bU y p y.bins.length), Ty.sl cR (mU y p q y.moves.length), Ty.vs 723 y.levels.length]), (46, Cont.cells 149 (cX s3)), (723, Cont.vec ct 102 (lU y p r y.levels.length))]) ?_ ?_
 ·refine dG.mk' ?_ ?_
  ·(repeat (first | refine aB ?_ (Ty.aU _) | refine aB ?_ (Ty.aE _))); exact aI
  refine aF rfl (Cont.aE _) ?_; refine aF rfl (Cont.aE _) ?_; refine aF rfl (Cont.aE _) ?_; refine aF rfl (Cont.aE _) ?_; refine aF rfl (Cont.aE _) ?_; exact aJ
 refine iX (tg := 723) [] [(11, Cont.cells 27 [Ty.int .i64 y.days, Ty.sl dO (bU y p y.bins.length), Ty.sl cR (mU y p q y.moves.length), Ty.sl ct (lU y p r y.levels.length)])] (by decide) rfl trivial ⟨eP rfl rfl ⟨bP rfl, bP rfl, bP rfl, gu rfl D1 (by decide), trivial⟩, trivial⟩ ?_
 refine fV (tg := 11) rfl (Cont.jz eo) ?_
 refine c9 (B := live [(5, Ty.ptr 6 0), (6, Ty.ptr 7 0), (7, Ty.ptr 46 0), (8, Ty.pp [Ty.sl cS p]), (10, Ty.ptr 11 0)] [(6, Cont.cells 27 (bK y)), (7, Cont.cells 30 (dJ a)), (11, Cont.cells 27 (bK o)), (46, Cont.cells 149 (cX s3))]) ?_ ?_
 ·refine dG.mk' ?_ ?_
  ·(repeat (first | refine aB ?_ (Ty.aU _) | refine aB ?_ (Ty.aE _))); exact aI
  refine aF rfl (Cont.aE _) ?_; refine aF rfl (Cont.aE _) ?_; refine aF rfl (Cont.aE _) ?_; refine aF rfl (Cont.aE _) ?_; exact aJ
 refine aA (aL rfl rfl rfl rfl (cY rfl rfl rfl (bQ rfl (aD (aC (ak ?_))))))
 refine cg (fun (k : {k : Nat // k ≤ p.length}) => live [(5, Ty.ptr 6 0), (6, Ty.ptr 7 0), (7, Ty.ptr 46 0), (8, Ty.pp [Ty.sl cS p]), (10, Ty.ptr 11 0), (131, Ty.sl cS p), (132, Ty.int .i64 p.length), (133, Ty.int .i64 (k.1 : Nat))] [(6, Cont.cells 27 (bK y)), (7, Cont.cells 30 (dJ a)), (11, Cont.cells 27 (bK o)), (46, Cont.cells 149 (cX s3))]) (fun k => p.length - k.1) (⟨0, by omega⟩) ?_ fun k => ?_
 ·(refine dG.mk' ?_ ?_ <;> (repeat' (first | exact aI | exact aJ | refine aB ?_ (Ty.aU _) | refine aB ?_ (Ty.aE _) | refine aF rfl (Cont.aE _) ?_)))
  all_goals trace_state
 have hk := k.2
 refine aG (aA (bF rfl rfl rfl (aD (aC (aG ?_)))))
 refine aq rfl (fun hc4 => ?_) (fun hc4 => ?_)
 ·
  refine aj (aC (aG (ak (aG (aA (bQ rfl ?_))))))
  refine bH rfl rfl rfl rfl rfl rfl (by omega) ?_
  refine aL rfl rfl rfl rfl (cE rfl (cE rfl (aD (aC (aG ?_)))))
  have hk2 : k.1 < y.bins.length := by omega
  have hpk := hpi k.1 hk2
  have ef : nth p k.1 = ((qa p k.1 : Nat) : Int) := by unfold qa; omega
  have hbn := Jk hRen hr ho hk2
  rw [← ef] at hbn
  refine aA ?_
  refine bS rfl rfl (by decide) rfl rfl (by exact Nat.le_of_ble_eq_true rfl) ?_
  refine bQ rfl ?_
  refine az (nJ y hs ((k.1 : Nat) : Int)) rfl rfl rfl rfl rfl ?_
  refine qq rfl (bL rfl rfl (bL rfl rfl (zE rfl (cE rfl (aD (aC (aG ?_)))))))
  refine gT (s := 22) rfl (Ty.au (pz ho hk2)) ?_
  refine aA ?_
  refine bS rfl rfl (by decide) rfl rfl (by exact Nat.le_of_ble_eq_true rfl) ?_
  refine bQ rfl (az (nJ o hos (nth p k.1)) rfl rfl rfl rfl rfl (qq rfl (bL rfl rfl (bL rfl rfl (zE rfl (cE rfl (aD (aC (aG ?_)))))))))
  refine gT (s := 24) rfl (Ty.au (show jY o (nth p k.1) = 0 by rw [ef]; exact pz hoo (by have := hRen.nb; unfold qa; omega))) ?_
  refine gT (s := 23) rfl (Ty.hH hbn) ?_
  refine aA (bQ rfl (bF rfl rfl rfl (g8 rfl ?_)))
  apply aT (s := 152) rfl rfl rfl
  ·intro hg; apply aV; (refine bQ rfl ?_); refine aD ?_; exact rfl
  ·exact rfl
  ·exact rfl
  apply aT (s := 152) rfl rfl rfl
  ·intro hg; apply aR (s := 153) rfl (by (rw [hg]; rfl)); apply aV; (refine bF rfl rfl rfl ?_); refine aD ?_; exact rfl
  ·exact rfl
  ·exact rfl
  refine qi rfl rfl (g8 rfl ?_)
  apply aT (s := 156) rfl rfl rfl
  ·intro hg; apply aV; (refine fU rfl ?_); refine aD ?_; exact rfl
  ·exact rfl
  ·exact rfl
  apply aT (s := 156) rfl rfl rfl
  ·intro hg; apply aV; (refine fU rfl ?_); refine aD ?_; exact rfl
  ·exact rfl
  ·exact rfl
  apply aT (s := 156) rfl rfl rfl
  ·intro hg; apply aR (s := 157) rfl (by (rw [hg]; rfl)); apply aR (s := 158) rfl (by (rw [hg]; rfl)); apply aV; (refine az (xd _ _) rfl rfl rfl rfl rfl ?_); refine aD ?_; exact rfl
  ·exact rfl
  ·exact rfl
  apply aT (s := 156) rfl rfl rfl
  ·intro hg; apply aR (s := 159) rfl (by (rw [hg]; rfl)); apply aV; (refine eE rfl ?_); refine aD ?_; exact rfl
  ·exact rfl
  ·exact rfl
  refine qi rfl rfl (aD (aC (iP rfl (n30) (aj (bX (aC (aA ?_)))))))
  refine cD rfl rfl (by omega) (by omega) ?_
  refine bQ rfl (aD ?_)
  refine bl (⟨k.1 + 1, by omega⟩) ?_ (by show p.length - (k.1 + 1) < p.length - k.1; omega)
  (refine dG.mk' ?_ ?_ <;> (repeat' (first | exact aI | exact aJ | refine aB ?_ (Ty.aU _) | refine aB ?_ (Ty.aE _) | refine aF rfl (Cont.aE _) ?_)))
  all_goals skip
  all_goals trace_state
 refine cZ (aQ (aQ (ay rfl (aC ?_))))
 refine k7 (J := live [(5, Ty.ptr 6 0), (6, Ty.ptr 7 0), (10, Ty.ptr 11 0)] [(6, Cont.cells 27 (bK y)), (7, Cont.cells 30 (dJ a)), (11, Cont.cells 27 (bK o))]) ?_ ?_
 ·
  refine aG ?_
  refine c9 (B := live [(5, Ty.ptr 6 0), (6, Ty.ptr 7 0), (7, Ty.ptr 46 0), (8, Ty.pp [Ty.sl cS p]), (10, Ty.ptr 11 0)] [(6, Cont.cells 27 (bK y)), (7, Cont.cells 30 (dJ a)), (11, Cont.cells 27 (bK o)), (46, Cont.cells 149 (cX s3))]) ?_ ?_
  ·refine dG.mk' ?_ ?_
   ·(repeat (first | refine aB ?_ (Ty.aU _) | refine aB ?_ (Ty.aE _))); exact aI
   refine aF rfl (Cont.aE _) ?_; refine aF rfl (Cont.aE _) ?_; refine aF rfl (Cont.aE _) ?_; refine aF rfl (Cont.aE _) ?_; exact aJ
  refine aA ?_
  refine aK rfl rfl rfl rfl rfl (by decide) ?_
  refine aS rfl rfl (by decide) rfl rfl rfl ?_
  refine cY rfl rfl rfl (bF rfl rfl rfl (g8 rfl ?_))
  apply aT (s := 167) rfl rfl rfl
  ·intro hg; apply aV; (refine aK rfl rfl rfl rfl rfl (by decide) ?_); refine aD ?_; exact rfl
  ·exact rfl
  ·exact rfl
  apply aT (s := 167) rfl rfl rfl
  ·intro hg; apply aR (s := 168) rfl (by (rw [hg]; rfl)); apply aV; (refine aS rfl rfl (by decide) rfl rfl rfl ?_); refine aD ?_; exact rfl
  ·exact rfl
  ·exact rfl
  apply aT (s := 167) rfl rfl rfl
  ·intro hg; apply aR (s := 169) rfl (by (rw [hg]; rfl)); apply aV; (refine cY rfl rfl rfl ?_); refine aD ?_; exact rfl
  ·exact rfl
  ·exact rfl
  apply aT (s := 167) rfl rfl rfl
  ·intro hg; apply aR (s := 170) rfl (by (rw [hg]; rfl)); apply aV; (refine bF rfl rfl rfl ?_); refine aD ?_; exact rfl
  ·exact rfl
  ·exact rfl
  refine eX rfl rfl (aD (aC ?_))
  refine cx rfl (fun hc6 => ?_) (fun hc6 => ?_)
  ·
   refine aG ?_
   have h6 := hc6
   have hmm : 0 < y.moves.length ∧ y.moves.length ≤ 9 := by simp at h6; omega
   have hjb := cT s3 (y.moves.length : Int)
   obtain ⟨j, ej, hj⟩ : ∃ j : Nat, bZ s3 (y.moves.length : Int) = j ∧ j < y.moves.length := ⟨(bZ s3 (y.moves.length : Int)).toNat, by omega, by omega⟩
   have kC := J8 y hs (wC (nth y.moves j))
   obtain ⟨hc0, hz⟩ := HH hr ho (hfa _) hj hmm.2
   rw [hc0.1, hc0.2] at kC
   obtain ⟨Z, eZ⟩ : ∃ Z, Z = jX y (wC (nth y.moves j)) := ⟨_, rfl⟩
   rw [← eZ] at kC hz
   have hzb : Z.bins.length = y.bins.length := congrArg List.length hz.bins
   have hzr := hz.right
   have hzs : Z.Small := ⟨by omega, by have := hzr.moves; omega, by have := hzr.levels; omega⟩
   refine aA (oV rfl ?_)
   refine aK rfl rfl rfl rfl rfl (by decide) ?_
   refine aS rfl rfl (by decide) rfl rfl rfl ?_
   refine cY rfl rfl rfl ?_
   refine bk [(46, 1000)] [] [(46, Cont.cells 149 (cX (aY s3)))] (iV s3 ⟨by omega, by omega⟩ _) rfl rfl (by repeat (first | exact bD | refine aH ?_ ?_ | exact dU List.mem_cons_self | exact aN rfl rfl)) (b8 (a := 46) (b := 1000) (by exact List.mem_cons_self) rfl (bA (by exact List.mem_cons_self) rfl rfl rfl) pre_nil) (bG (a := 46) (b := 1000) (by exact List.mem_cons_self) rfl (bA (by exact List.mem_cons_self) rfl rfl rfl) post_nil) (aN rfl rfl) ?_
   refine cE rfl (aD (aC (aG ?_)))
   refine gT (s := 25) rfl (Ty.au ej) ?_
   refine c9 (B := live [(5, Ty.ptr 6 0), (6, Ty.ptr 7 0), (7, Ty.ptr 46 0), (8, Ty.pp [Ty.sl cS p]), (10, Ty.ptr 11 0), (25, Ty.int .i64 (j : Nat))] [(6, Cont.cells 27 (bK y)), (7, Cont.cells 30 (dJ a)), (11, Cont.cells 27 (bK o))]) ?_ ?_
   ·refine dG.mk' ?_ ?_
    ·(repeat (first | refine aB ?_ (Ty.aU _) | refine aB ?_ (Ty.aE _))); exact aI
    refine aF rfl (Cont.aE _) ?_; refine aF rfl (Cont.aE _) ?_; refine aF rfl (Cont.aE _) ?_; exact aJ
   refine cW mixed rfl ?_
   refine bS rfl rfl (by decide) rfl rfl (by exact Nat.le_of_ble_eq_true rfl) ?_
   refine aK rfl rfl rfl rfl rfl (by decide) ?_
   refine aS rfl rfl (by decide) rfl rfl rfl ?_
   refine bQ rfl (bH rfl rfl rfl rfl rfl rfl hj ?_)
   refine aO rfl rfl rfl rfl rfl (by decide) ?_
   refine aL rfl rfl rfl rfl ?_
   refine aK rfl rfl rfl rfl rfl (by decide) ?_
   refine aS rfl rfl (by decide) rfl rfl rfl ?_
   refine bQ rfl (bH rfl rfl rfl rfl rfl rfl hj ?_)
   refine aO rfl rfl rfl rfl rfl (by decide) ?_
   refine aL rfl rfl rfl rfl ?_
   refine aK rfl rfl rfl rfl rfl (by decide) ?_
   refine aS rfl rfl (by decide) rfl rfl rfl ?_
   refine bQ rfl (bH rfl rfl rfl rfl rfl rfl hj ?_)
   refine aO rfl rfl rfl rfl rfl (by decide) ?_
   refine aL rfl rfl rfl rfl ?_
   refine aK rfl rfl rfl rfl rfl (by decide) ?_
   refine aS rfl rfl (by decide) rfl rfl rfl ?_
   refine bQ rfl (bH rfl rfl rfl rfl rfl rfl hj ?_)
   refine aO rfl rfl rfl rfl rfl (by decide) ?_
   refine aO rfl rfl rfl rfl rfl (by decide) ?_
   refine aL rfl rfl rfl rfl (az (ig _ _) rfl rfl rfl rfl rfl ?_)
   refine dB rfl rfl (by exact List.cons_ne_nil _ _) rfl (by repeat (first | exact (aX.nil : aX _ _ [] _) | (show aX _ _ ((_, _) :: _) _; apply aX.one; (· exact (rfl : _ = Ty.int _ _)); (· exact rfl)) | (show aX _ _ ((_, _) :: _) _; apply aX.agg; (· exact (rfl : _ = Ty.agg _))))) (by exact rfl) ?_
   refine bk (res' := Ty.ju [Ty.agg (yD 821 822 823 Z), Ty.int .i64 0]) [(821, 21), (822, 22), (823, 23)] [821, 822, 823] (Cf 821 822 823 Z) kC rfl rfl (by repeat (first | exact bD | refine aH ?_ ?_ | exact aN rfl rfl)) pre_nil (bG (a := 821) (b := 21) (by decide) rfl (bW (by decide) rfl) (bG (a := 822) (b := 22) (by decide) rfl (bW (by decide) rfl) (bG (a := 823) (b := 23) (by decide) rfl (bW (by decide) rfl) post_nil))) (wu (aH (aH bD (aN rfl rfl)) (n8 (aH (aH (aH (aH bD (dj (by decide))) (dj (by decide))) (dj (by decide))) (aN rfl rfl))))) ?_
   refine qq rfl (bL rfl rfl (bL rfl rfl ?_))
   refine b9 rfl (by exact List.cons_ne_nil _ _) rfl ?_
   refine bp rfl rfl (by decide) rfl rfl rfl rfl rfl rfl ?_
   refine cE rfl (aD ?_)
   refine ⟨by kernel_rfl, ?_⟩
   refine aC (aG (aG ?_))
   refine c9 (B := live [(5, Ty.ptr 6 0), (6, Ty.ptr 7 0), (10, Ty.ptr 11 0), (26, Ty.ptr 27 0), (27, Ty.int .i64 0)] [(6, Cont.cells 27 (bK y)), (7, Cont.cells 30 (dJ a)), (11, Cont.cells 27 (bK o)), (27, Cont.cells 27 [Ty.int .i64 Z.days, Ty.vs 821 Z.bins.length, Ty.vs 822 Z.moves.length, Ty.vs 823 Z.levels.length]), (821, Cont.vec dO 39 Z.bins), (822, Cont.vec cR 41 Z.moves), (823, Cont.vec ct 102 Z.levels)]) ?_ ?_
   ·refine dG.mk' ?_ ?_
    ·(repeat (first | refine aB ?_ (Ty.aU _) | refine aB ?_ (Ty.aE _))); exact aI
    refine aF rfl (Cont.aE _) ?_; refine aF rfl (Cont.aE _) ?_; refine aF rfl (Cont.aE _) ?_; refine aF rfl (Cont.aE _) ?_; refine aF rfl (Cont.aE _) ?_; refine aF rfl (Cont.aE _) ?_; refine aF rfl (Cont.aE _) ?_; exact aJ
   refine iX (tg := 821) [] [(27, Cont.cells 27 [Ty.int .i64 Z.days, Ty.sl dO Z.bins, Ty.vs 822 Z.moves.length, Ty.vs 823 Z.levels.length])] (by decide) rfl trivial ⟨eP rfl rfl ⟨bP rfl, gu rfl rfl (by decide), bP rfl, bP rfl, trivial⟩, trivial⟩ ?_
   refine c9 (B := live [(5, Ty.ptr 6 0), (6, Ty.ptr 7 0), (10, Ty.ptr 11 0), (26, Ty.ptr 27 0), (27, Ty.int .i64 0)] [(6, Cont.cells 27 (bK y)), (7, Cont.cells 30 (dJ a)), (11, Cont.cells 27 (bK o)), (27, Cont.cells 27 [Ty.int .i64 Z.days, Ty.sl dO Z.bins, Ty.vs 822 Z.moves.length, Ty.vs 823 Z.levels.length]), (822, Cont.vec cR 41 Z.moves), (823, Cont.vec ct 102 Z.levels)]) ?_ ?_
   ·refine dG.mk' ?_ ?_
    ·(repeat (first | refine aB ?_ (Ty.aU _) | refine aB ?_ (Ty.aE _))); exact aI
    refine aF rfl (Cont.aE _) ?_; refine aF rfl (Cont.aE _) ?_; refine aF rfl (Cont.aE _) ?_; refine aF rfl (Cont.aE _) ?_; refine aF rfl (Cont.aE _) ?_; refine aF rfl (Cont.aE _) ?_; exact aJ
   refine iX (tg := 822) [] [(27, Cont.cells 27 [Ty.int .i64 Z.days, Ty.sl dO Z.bins, Ty.sl cR Z.moves, Ty.vs 823 Z.levels.length])] (by decide) rfl trivial ⟨eP rfl rfl ⟨bP rfl, bP rfl, gu rfl rfl (by decide), bP rfl, trivial⟩, trivial⟩ ?_
   refine c9 (B := live [(5, Ty.ptr 6 0), (6, Ty.ptr 7 0), (10, Ty.ptr 11 0), (26, Ty.ptr 27 0), (27, Ty.int .i64 0)] [(6, Cont.cells 27 (bK y)), (7, Cont.cells 30 (dJ a)), (11, Cont.cells 27 (bK o)), (27, Cont.cells 27 [Ty.int .i64 Z.days, Ty.sl dO Z.bins, Ty.sl cR Z.moves, Ty.vs 823 Z.levels.length]), (823, Cont.vec ct 102 Z.levels)]) ?_ ?_
   ·refine dG.mk' ?_ ?_
    ·(repeat (first | refine aB ?_ (Ty.aU _) | refine aB ?_ (Ty.aE _))); exact aI
    refine aF rfl (Cont.aE _) ?_; refine aF rfl (Cont.aE _) ?_; refine aF rfl (Cont.aE _) ?_; refine aF rfl (Cont.aE _) ?_; refine aF rfl (Cont.aE _) ?_; exact aJ
   refine iX (tg := 823) [] [(27, Cont.cells 27 [Ty.int .i64 Z.days, Ty.sl dO Z.bins, Ty.sl cR Z.moves, Ty.sl ct Z.levels])] (by decide) rfl trivial ⟨eP rfl rfl ⟨bP rfl, bP rfl, bP rfl, gu rfl rfl (by decide), trivial⟩, trivial⟩ ?_
   refine fV (tg := 27) rfl (Cont.dY (l' := bK Z) ⟨Ty.aE _, Ty.aE _, Ty.aE _, Ty.aE _, trivial⟩) ?_
   refine c9 (B := live [(5, Ty.ptr 6 0), (6, Ty.ptr 7 0), (10, Ty.ptr 11 0), (26, Ty.ptr 27 0), (27, Ty.int .i64 0)] [(6, Cont.cells 27 (bK y)), (7, Cont.cells 30 (dJ a)), (11, Cont.cells 27 (bK o)), (27, Cont.cells 27 (bK Z))]) ?_ ?_
   ·refine dG.mk' ?_ ?_
    ·(repeat (first | refine aB ?_ (Ty.aU _) | refine aB ?_ (Ty.aE _))); exact aI
    refine aF rfl (Cont.aE _) ?_; refine aF rfl (Cont.aE _) ?_; refine aF rfl (Cont.aE _) ?_; refine aF rfl (Cont.aE _) ?_; exact aJ
   refine aA (bQ rfl (bF rfl rfl rfl (aD (aC ?_))))
   refine iP rfl (by simp) ?_
   refine aj (aC (aG ?_))
   refine c9 (B := live [(5, Ty.ptr 6 0), (6, Ty.ptr 7 0), (10, Ty.ptr 11 0), (26, Ty.ptr 27 0)] [(6, Cont.cells 27 (bK y)), (7, Cont.cells 30 (dJ a)), (11, Cont.cells 27 (bK o)), (27, Cont.cells 27 (bK Z))]) ?_ ?_
   ·refine dG.mk' ?_ ?_
    ·(repeat (first | refine aB ?_ (Ty.aU _) | refine aB ?_ (Ty.aE _))); exact aI
    refine aF rfl (Cont.aE _) ?_; refine aF rfl (Cont.aE _) ?_; refine aF rfl (Cont.aE _) ?_; refine aF rfl (Cont.aE _) ?_; exact aJ
   refine cW mixed rfl ?_
   refine aK rfl rfl rfl rfl rfl (by decide) ?_
   refine aS rfl rfl (by decide) rfl rfl rfl ?_
   refine aK rfl rfl rfl rfl rfl (by decide) ?_
   refine aS rfl rfl (by decide) rfl rfl rfl ?_
   refine bk (res' := Ty.row cS 3 50 a.bg) [(50, 6)] [50] [] (GB a.bg (by omega)) rfl rfl (by repeat (first | exact bD | refine aH ?_ ?_ | exact aN rfl rfl)) pre_nil post_nil (fF (by exact List.mem_cons_self)) ?_
   refine bw (E := cS) (xs := [0]) rfl rfl rfl rfl rfl (by decide) (by decide) (by repeat (first | exact (aX.nil : aX _ _ [] _) | (show aX _ _ ((_, _) :: _) _; apply aX.one; (· exact (rfl : _ = Ty.int _ _)); (· exact rfl)))) (by exact rfl) rfl ?_
   refine eN rfl rfl (by decide) rfl rfl rfl rfl rfl rfl (by decide) (by (simp <;> omega)) (by (simp <;> omega)) ?_
   refine dB rfl rfl (by exact List.cons_ne_nil _ _) rfl (by repeat (first | exact (aX.nil : aX _ _ [] _) | (show aX _ _ ((_, _) :: _) _; apply aX.one; (· first | exact (rfl : _ = Ty.sl _ _) | exact (rfl : _ = Ty.row _ _ _ _)); (· exact rfl)))) (by exact (rfl : _ = some [_, _])) ?_
   refine b9 rfl (by exact List.cons_ne_nil _ _) rfl ?_
   refine bp rfl rfl (by decide) rfl rfl rfl rfl rfl rfl ?_
   refine aD ?_
   refine ⟨by kernel_rfl, ?_⟩
   refine aC (aG ?_)
   refine iX (tg := 50) [] [(29, Cont.cells 30 [Ty.sl cS a.first, Ty.sl cS (a.bg ++ [0])])] (by decide) rfl trivial ⟨eP rfl rfl ⟨bP rfl, m9, trivial⟩, trivial⟩ ?_
   refine fV (tg := 29) rfl (Cont.jz (show [Ty.sl cS a.first, Ty.sl cS (a.bg ++ [0])] = dJ (Dj a) by unfold Dj; rfl)) ?_
   refine c9 (B := live [(5, Ty.ptr 6 0), (6, Ty.ptr 7 0), (10, Ty.ptr 11 0), (26, Ty.ptr 27 0), (28, Ty.ptr 29 0)] [(6, Cont.cells 27 (bK y)), (7, Cont.cells 30 (dJ a)), (11, Cont.cells 27 (bK o)), (27, Cont.cells 27 (bK Z)), (29, Cont.cells 30 (dJ (Dj a)))]) ?_ ?_
   ·refine dG.mk' ?_ ?_
    ·(repeat (first | refine aB ?_ (Ty.aU _) | refine aB ?_ (Ty.aE _))); exact aI
    refine aF rfl (Cont.aE _) ?_; refine aF rfl (Cont.aE _) ?_; refine aF rfl (Cont.aE _) ?_; refine aF rfl (Cont.aE _) ?_; refine aF rfl (Cont.aE _) ?_; exact aJ
   have hab0 : OS (Dj a) := JC hzr hz.fits
   refine aA ?_
   refine aK rfl rfl rfl rfl rfl (by decide) ?_
   refine aS rfl rfl (by decide) rfl rfl rfl ?_
   refine cY rfl rfl rfl (bQ rfl (aD (aC (ak ?_))))
   refine cg (fun (b : {b : Nat // b ≤ y.bins.length}) => live [(5, Ty.ptr 6 0), (6, Ty.ptr 7 0), (10, Ty.ptr 11 0), (26, Ty.ptr 27 0), (28, Ty.ptr 29 0), (222, Ty.int .i64 y.bins.length), (223, Ty.int .i64 (b.1 : Nat))] [(6, Cont.cells 27 (bK y)), (7, Cont.cells 30 (dJ a)), (11, Cont.cells 27 (bK o)), (27, Cont.cells 27 (bK Z)), (29, Cont.cells 30 (dJ (Dj a)))]) (fun b => y.bins.length - b.1) (⟨0, by omega⟩) ?_ fun b => ?_
   ·(refine dG.mk' ?_ ?_ <;> (repeat' (first | exact aI | exact aJ | refine aB ?_ (Ty.aU _) | refine aB ?_ (Ty.aE _) | refine aF rfl (Cont.aE _) ?_)))
    all_goals trace_state
   have hb := b.2
   refine aG (aA (bF rfl rfl rfl (aD (aC (aG ?_)))))
   refine aq rfl (fun hc8 => ?_) (fun hc8 => ?_)
   ·
    refine aj (aC (aG (ak (aG (aA (bQ rfl (cE rfl (aD (aC ?_)))))))))
    refine aG ?_
    have hb2 : b.1 < y.bins.length := by omega
    refine aA ?_
    refine bS rfl rfl (by decide) rfl rfl (by exact Nat.le_of_ble_eq_true rfl) ?_
    refine bQ rfl ?_
    refine az (nJ y hs ((b.1 : Nat) : Int)) rfl rfl rfl rfl rfl ?_
    refine qq rfl (bL rfl rfl (bL rfl rfl (zE rfl (cE rfl (aD (aC (aG ?_)))))))
    refine gT (s := 31) rfl (Ty.au (pz ho hb2)) ?_
    refine aA ?_
    refine bS rfl rfl (by decide) rfl rfl (by exact Nat.le_of_ble_eq_true rfl) ?_
    refine bQ rfl ?_
    refine az (nJ Z hzs ((b.1 : Nat) : Int)) rfl rfl rfl rfl rfl ?_
    refine qq rfl (bL rfl rfl (bL rfl rfl (zE rfl (cE rfl (aD (aC (aG (aG ?_))))))))
    refine gT (s := 33) rfl (Ty.au (pz hz.opn (by omega))) ?_
    refine aA (bQ rfl (bF rfl rfl rfl (g8 rfl ?_)))
    apply aT (s := 240) rfl rfl rfl
    ·intro hg; apply aV; (refine bQ rfl ?_); refine aD ?_; exact rfl
    ·exact rfl
    ·exact rfl
    apply aT (s := 240) rfl rfl rfl
    ·intro hg; apply aR (s := 241) rfl (by (rw [hg]; rfl)); apply aV; (refine bF rfl rfl rfl ?_); refine aD ?_; exact rfl
    ·exact rfl
    ·exact rfl
    refine qi rfl rfl (g8 rfl ?_)
    apply aT (s := 244) rfl rfl rfl
    ·intro hg; apply aV; (refine fU rfl ?_); refine aD ?_; exact rfl
    ·exact rfl
    ·exact rfl
    apply aT (s := 244) rfl rfl rfl
    ·intro hg; apply aR (s := 245) rfl (by (rw [hg]; rfl)); apply aV; (refine cY rfl rfl rfl ?_); refine aD ?_; exact rfl
    ·exact rfl
    ·exact rfl
    apply aT (s := 244) rfl rfl rfl
    ·intro hg; apply aV; (refine fU rfl ?_); refine aD ?_; exact rfl
    ·exact rfl
    ·exact rfl
    apply aT (s := 244) rfl rfl rfl
    ·intro hg; apply aR (s := 247) rfl (by (rw [hg]; rfl)); apply aV; (refine cY rfl rfl rfl ?_); refine aD ?_; exact rfl
    ·exact rfl
    ·exact rfl
    apply aT (s := 244) rfl rfl rfl
    ·intro hg; apply aR (s := 246) rfl (by (rw [hg]; rfl)); apply aR (s := 248) rfl (by (rw [hg]; rfl)); apply aV; (refine bF rfl rfl rfl ?_); refine aD ?_; exact rfl
    ·exact rfl
    ·exact rfl
    refine qi rfl rfl (g8 rfl ?_)
    apply aT (s := 251) rfl rfl rfl
    ·intro hg; apply aV; (refine bS rfl rfl (by decide) rfl rfl (by exact Nat.le_of_ble_eq_true rfl) ?_); refine aD ?_; exact rfl
    ·exact rfl
    ·exact rfl
    apply aT (s := 251) rfl rfl rfl
    ·intro hg; apply aV; (refine bS rfl rfl (by decide) rfl rfl (by exact Nat.le_of_ble_eq_true rfl) ?_); refine aD ?_; exact rfl
    ·exact rfl
    ·exact rfl
    apply aT (s := 251) rfl rfl rfl
    ·intro hg; apply aR (s := 252) rfl (by (rw [hg]; rfl)); apply aR (s := 253) rfl (by (rw [hg]; rfl)); apply aV; (refine az (Ml Z (Dj a) hzr hab0) rfl rfl rfl rfl rfl ?_); refine aD ?_; exact rfl
    ·exact rfl
    ·exact rfl
    apply aT (s := 251) rfl rfl rfl
    ·intro hg; apply aR (s := 254) rfl (by (rw [hg]; rfl)); apply aV; (refine eE rfl ?_); refine aD ?_; exact rfl
    ·exact rfl
    ·exact rfl
    refine qi rfl rfl (aD (aC (iP rfl (O7 hz ho hb2) (aj (aC (aG (aA (fU rfl (cY rfl rfl rfl ?_)))))))))
    refine bQ rfl (aD (aC (ak ?_)))
    refine cg (fun (t : {t : Nat // t ≤ (eV y ((b.1 : Nat) : Int)).length}) => live [(5, Ty.ptr 6 0), (6, Ty.ptr 7 0), (10, Ty.ptr 11 0), (26, Ty.ptr 27 0), (28, Ty.ptr 29 0), (30, Ty.sl dm (eV y ((b.1 : Nat) : Int))), (32, Ty.sl dm (eV Z ((b.1 : Nat) : Int))), (222, Ty.int .i64 y.bins.length), (223, Ty.int .i64 (b.1 : Nat)), (258, Ty.int .i64 (eV y ((b.1 : Nat) : Int)).length), (259, Ty.int .i64 (t.1 : Nat))] [(6, Cont.cells 27 (bK y)), (7, Cont.cells 30 (dJ a)), (11, Cont.cells 27 (bK o)), (27, Cont.cells 27 (bK Z)), (29, Cont.cells 30 (dJ (Dj a)))]) (fun t => (eV y ((b.1 : Nat) : Int)).length - t.1) (⟨0, by omega⟩) ?_ fun t => ?_
    ·(refine dG.mk' ?_ ?_ <;> (repeat' (first | exact aI | exact aJ | refine aB ?_ (Ty.aU _) | refine aB ?_ (Ty.aE _) | refine aF rfl (Cont.aE _) ?_)))
     all_goals trace_state
    have ht := t.2
    have hyn := m7 ho hb2
    have hzn := hz.len hb2
    refine aG (aA (bF rfl rfl rfl (aD (aC (aG ?_)))))
    refine aq rfl (fun hc10 => ?_) (fun hc10 => ?_)
    ·
     refine aj (aC (aG (ak (aG (aA (bQ rfl (cE rfl (aD (aC ?_)))))))))
     refine aG (cW mixed rfl (fU rfl (bQ rfl ?_)))
     refine bH rfl rfl rfl rfl rfl rfl (by omega) ?_
     refine aO rfl rfl rfl rfl rfl (by decide) ?_
     refine aL rfl rfl rfl rfl (fU rfl (bQ rfl ?_))
     refine bH rfl rfl rfl rfl rfl rfl (by omega) ?_
     refine aO rfl rfl rfl rfl rfl (by decide) ?_
     refine aL rfl rfl rfl rfl (bF rfl rfl rfl (g8 rfl ?_))
     apply aT (s := 273) rfl rfl rfl
     ·intro hg; apply aV; (refine fU rfl ?_); refine aD ?_; exact rfl
     ·exact rfl
     ·exact rfl
     apply aT (s := 273) rfl rfl rfl
     ·intro hg; apply aV; (refine bQ rfl ?_); refine aD ?_; exact rfl
     ·exact rfl
     ·exact rfl
     apply aT (s := 273) rfl rfl rfl
     ·intro hg; apply aR (s := 274) rfl (by (rw [hg]; rfl)); apply aR (s := 275) rfl (by (rw [hg]; rfl)); apply aV; (refine bH rfl rfl rfl rfl rfl rfl (by omega) ?_); refine aD ?_; exact rfl
     ·exact rfl
     ·exact rfl
     apply aT (s := 273) rfl rfl rfl
     ·intro hg; apply aR (s := 276) rfl (by (rw [hg]; rfl)); apply aV; (refine aO rfl rfl rfl rfl rfl (by decide) ?_); refine aD ?_; exact rfl
     ·exact rfl
     ·exact rfl
     apply aT (s := 273) rfl rfl rfl
     ·intro hg; apply aR (s := 277) rfl (by (rw [hg]; rfl)); apply aV; (refine aL rfl rfl rfl rfl ?_); refine aD ?_; exact rfl
     ·exact rfl
     ·exact rfl
     apply aT (s := 273) rfl rfl rfl
     ·intro hg; apply aV; (refine fU rfl ?_); refine aD ?_; exact rfl
     ·exact rfl
     ·exact rfl
     apply aT (s := 273) rfl rfl rfl
     ·intro hg; apply aV; (refine bQ rfl ?_); refine aD ?_; exact rfl
     ·exact rfl
     ·exact rfl
     apply aT (s := 273) rfl rfl rfl
     ·intro hg; apply aR (s := 279) rfl (by (rw [hg]; rfl)); apply aR (s := 280) rfl (by (rw [hg]; rfl)); apply aV; (refine bH rfl rfl rfl rfl rfl rfl (by omega) ?_); refine aD ?_; exact rfl
     ·exact rfl
     ·exact rfl
     apply aT (s := 273) rfl rfl rfl
     ·intro hg; apply aR (s := 281) rfl (by (rw [hg]; rfl)); apply aV; (refine aO rfl rfl rfl rfl rfl (by decide) ?_); refine aD ?_; exact rfl
     ·exact rfl
     ·exact rfl
     apply aT (s := 273) rfl rfl rfl
     ·intro hg; apply aR (s := 282) rfl (by (rw [hg]; rfl)); apply aV; (refine aL rfl rfl rfl rfl ?_); refine aD ?_; exact rfl
     ·exact rfl
     ·exact rfl
     apply aT (s := 273) rfl rfl rfl
     ·intro hg; apply aR (s := 278) rfl (by (rw [hg]; rfl)); apply aR (s := 283) rfl (by (rw [hg]; rfl)); apply aV; (refine bF rfl rfl rfl ?_); refine aD ?_; exact rfl
     ·exact rfl
     ·exact rfl
     refine qi rfl rfl (aD ?_)
     refine ⟨by kernel_rfl, ?_⟩
     refine aC ?_
     refine iP rfl (O8 hz hb2 (by omega)) ?_
     refine aj (bX (aC (aA ?_)))
     refine cD rfl rfl (by omega) (by omega) ?_
     refine bQ rfl (aD ?_)
     refine bl (⟨t.1 + 1, by omega⟩) ?_ (by show (eV y ((b.1 : Nat) : Int)).length - (t.1 + 1) < (eV y ((b.1 : Nat) : Int)).length - t.1; omega)
     (refine dG.mk' ?_ ?_ <;> (repeat' (first | exact aI | exact aJ | refine aB ?_ (Ty.aU _) | refine aB ?_ (Ty.aE _) | refine aF rfl (Cont.aE _) ?_)))
     all_goals skip
     all_goals trace_state
    refine cZ (aQ (aQ (ay rfl (bX (aC (aA ?_))))))
    refine cD rfl rfl (by omega) (by omega) ?_
    refine bQ rfl (aD ?_)
    refine bl (⟨b.1 + 1, by omega⟩) ?_ (by show y.bins.length - (b.1 + 1) < y.bins.length - b.1; omega)
    (refine dG.mk' ?_ ?_ <;> (repeat' (first | exact aI | exact aJ | refine aB ?_ (Ty.aU _) | refine aB ?_ (Ty.aE _) | refine aF rfl (Cont.aE _) ?_)))
    all_goals skip
    all_goals trace_state
   refine cZ (aQ (aQ (ay rfl (fJ ?_))))
   (refine dG.mk' ?_ ?_ <;> (repeat' (first | exact aI | exact aJ | refine aB ?_ (Ty.aU _) | refine aB ?_ (Ty.aE _) | refine aF rfl (Cont.aE _) ?_)))
   all_goals trace_state
  refine aj (fJ ?_)
  (refine dG.mk' ?_ ?_ <;> (repeat' (first | exact aI | exact aJ | refine aB ?_ (Ty.aU _) | refine aB ?_ (Ty.aE _) | refine aF rfl (Cont.aE _) ?_)))
  all_goals trace_state
 refine aG (aA ?_)
 refine bS rfl rfl (by decide) rfl rfl (by exact Nat.le_of_ble_eq_true rfl) ?_
 refine az (Av y hs) rfl rfl rfl rfl rfl (qq rfl (bL rfl rfl (bL rfl rfl (zE rfl (cE rfl (aD (aC (aG ?_))))))))
 refine gT (s := 36) rfl (Ty.au (nx hr ho).1) ?_
 refine aA ?_
 refine bS rfl rfl (by decide) rfl rfl (by exact Nat.le_of_ble_eq_true rfl) ?_
 refine az (Av o hos) rfl rfl rfl rfl rfl (qq rfl (bL rfl rfl (bL rfl rfl (zE rfl (cE rfl (aD (aC (aG ?_))))))))
 refine gT (s := 38) rfl (Ty.au (nx hor hoo).1) ?_
 refine aA (bQ rfl (bF rfl rfl rfl (g8 rfl ?_)))
 apply aT (s := 300) rfl rfl rfl
 ·intro hg; apply aV; (refine bQ rfl ?_); refine aD ?_; exact rfl
 ·exact rfl
 ·exact rfl
 apply aT (s := 300) rfl rfl rfl
 ·intro hg; apply aR (s := 301) rfl (by exact hg); apply aV; (refine bF rfl rfl rfl ?_); refine aD ?_; exact rfl
 ·exact rfl
 ·exact rfl
 refine eX rfl rfl (g8 rfl ?_)
 apply aT (s := 304) rfl rfl rfl
 ·intro hg; apply aV; (refine fU rfl ?_); refine aD ?_; exact rfl
 ·exact rfl
 ·exact rfl
 apply aT (s := 304) rfl rfl rfl
 ·intro hg; apply aR (s := 305) rfl (by exact hg); apply aV; (refine cY rfl rfl rfl ?_); refine aD ?_; exact rfl
 ·exact rfl
 ·exact rfl
 apply aT (s := 304) rfl rfl rfl
 ·intro hg; apply aV; (refine fU rfl ?_); refine aD ?_; exact rfl
 ·exact rfl
 ·exact rfl
 apply aT (s := 304) rfl rfl rfl
 ·intro hg; apply aR (s := 307) rfl (by exact hg); apply aV; (refine cY rfl rfl rfl ?_); refine aD ?_; exact rfl
 ·exact rfl
 ·exact rfl
 apply aT (s := 304) rfl rfl rfl
 ·intro hg; apply aR (s := 306) rfl (by exact hg); apply aR (s := 308) rfl (by exact hg); apply aV; (refine bF rfl rfl rfl ?_); refine aD ?_; exact rfl
 ·exact rfl
 ·exact rfl
 refine eX rfl rfl (g8 rfl ?_)
 apply aT (s := 311) rfl rfl rfl
 ·intro hg; apply aV; (refine az (K5) rfl rfl rfl rfl rfl ?_); refine aD ?_; exact rfl
 ·exact rfl
 ·exact rfl
 refine eX rfl rfl (dw rfl (aD (aC (av (bz rfl rfl ?_)))))
 all_goals skip
 all_goals exact bE rfl rfl (congrArg Ty.bool (O0 hr ho hor hoo))
end Go.Proofs.YtelbollidfdcjaaGreat
namespace Go.T
open Go Go.RowKit Go.ChangeShapes Go.WideShapes Go.ChangeAt
def oT : bB := fun _ => none
theorem Jo (w : World) : Wf w oT := ⟨fun _ _ h => (by cases h), fun _ _ _ _ h => (by cases h)⟩
theorem GR : ∀ b t, oT b = some t → t = 0 := fun _ _ h => by cases h
structure Rd {α : Type} (P : Program) (e : TypeId) (E : El α) : Prop where
  size : P.cellsOf e = E.size
  pos : 0 < E.size
  rd : ∀ {H : Type} {enc : TypeId × Value → H} {w : World} {base : Nat} {held : Bool} {n : Nat} {cs : List Value} {y : DataW H × List MemPlace}, DataW.trod enc P w base (fun _ => true) held n e cs = some y → ∃ x, cK w oT (E.tys x) cs
section
variable {H : Type} {enc : TypeId × Value → H} {P : Program} {w : World} {base : Nat} {held : Bool} {α : Type} {E : El α} {t e : TypeId} {n : Nat} {cs : List Value} {y : DataW H × List MemPlace}
theorem Nf (hR : Rd P e E) (ht : P.underlying t = some (.slice e)) (h : DataW.trod enc P w base (fun _ => true) held n t cs = some y) : ∃ v xs, cs = [v] ∧ (Ty.sl E xs).den w oT v := by
 rcases Go.Deep.open_slice ht h with ⟨rfl, _⟩ | ⟨a, len, cap, m, k, D, Pl, rfl, _, hl, hm, hmm, _, hel⟩
 ·exact ⟨_, [], rfl, none, 0, rfl, Nat.le_refl _, Nat.zero_le _, fun h => absurd h (Nat.lt_irrefl _)⟩
 have hlm : len ≤ m := by rw [hmm]; simpa using hl
 have hX : ∀ i : Fin len, ∃ x : α, ∃ cs', w.cells? base (a.add (i.1 * P.cellsOf e)) (P.cellsOf e) = some cs' ∧ cK w oT (E.tys x) cs' := fun i => by
  obtain ⟨cs', h1, h2⟩ := hel i.1 (Nat.lt_of_lt_of_le i.2 hlm)
  obtain ⟨x, hx⟩ := hR.rd h2
  exact ⟨x, cs', h1, hx⟩
 let X : Fin len → α := fun i => (hX i).choose
 have hXs : ∀ i : Fin len, ∃ cs', w.cells? base (a.add (i.1 * P.cellsOf e)) (P.cellsOf e) = some cs' ∧ cK w oT (E.tys (X i)) cs' := fun i => (hX i).choose_spec
 have hlen : (List.ofFn X).length = len := by simp
 refine ⟨_, List.ofFn X, rfl, some a, cap, by rw [hlen], by rw [hlen]; exact hl, hm, fun h0 => ?_⟩
 rw [hlen] at h0
 have hcell : ∀ (i : Fin len) (j : Nat) (u : Ty), (E.tys (X i))[j]? = some u → ∃ v, w.cell? (a.add (i.1 * E.size + j)) = some v ∧ u.den w oT v := fun i j u hu => by
  obtain ⟨cs', h1, h2⟩ := hXs i
  obtain ⟨v, hv, hd⟩ := dg h2 j u hu
  obtain ⟨_, g1, g2⟩ := World.cells?_some h1
  have hj : j < P.cellsOf e := by
   rw [hR.size, ← E.len (X i)]
   exact (List.getElem?_eq_some_iff.1 hu).1
  refine ⟨v, ?_, hd⟩
  have := g2 j hj
  rw [Go.Deep.add_add, hv, hR.size] at this
  exact this
 have hsz := hR.pos
 have hfirst : ∃ v, w.cell? (a.add 0) = some v := by
  obtain ⟨u, hu⟩ : ∃ u, (E.tys (X ⟨0, h0⟩))[0]? = some u := ⟨_, List.getElem?_eq_getElem (by rw [E.len]; exact hsz)⟩
  obtain ⟨v, hv, _⟩ := hcell ⟨0, h0⟩ 0 u hu
  exact ⟨v, by simpa using hv⟩
 obtain ⟨b, off, sp⟩ := a
 obtain ⟨v0, hv0⟩ := hfirst
 have hsp : sp = none := by simpa [Addr.add] using World.cell?_spot hv0
 subst hsp
 have hb : b < w.heap.size := by
  obtain ⟨cs', h1, _⟩ := hXs ⟨0, h0⟩
  have := World.cells?_block h1 (by rw [hR.size]; exact hsz)
  simpa [Addr.add] using this
 refine ⟨b, off, rfl, rfl, hb, fun i u hu => ?_⟩
 have hi : i < len * E.size := by
  have := (List.getElem?_eq_some_iff.1 hu).1
  rw [dA, hlen] at this; exact this
 have hk : i / E.size < len := Nat.div_lt_of_lt_mul (by rw [Nat.mul_comm]; exact hi)
 have hj : i % E.size < E.size := Nat.mod_lt _ hsz
 have hij : i / E.size * E.size + i % E.size = i := by rw [Nat.mul_comm]; exact Nat.div_add_mod i E.size
 have hu2 := hu
 rw [← hij, om E _ _ _ (by rw [hlen]; exact hk) hj, List.getElem?_ofFn, dif_pos hk] at hu2
 obtain ⟨v, hv, hd⟩ := hcell ⟨i / E.size, hk⟩ (i % E.size) u hu2
 refine ⟨v, ?_, hd⟩
 rw [← Go.WideShapes.add_plain]
 rw [hij] at hv
 exact hv
theorem MH {c : Value} (hR : Rd P e E) (ht : P.underlying t = some (.slice e)) (h : DataW.trod enc P w base (fun _ => true) held n t [c] = some y) : ∃ xs, (Ty.sl E xs).den w oT c := by
 obtain ⟨v, xs, e, hd⟩ := Nf hR ht h
 exact ⟨xs, by rw [show c = v by simpa using e]; exact hd⟩
end
section
variable {w w' : World} {S K : Nat → Prop} {M' : bB}
theorem sX (le : Le S K w oT w' M') {b : Nat} (hb : b < w.heap.size) : w'.heap[b]? = w.heap[b]? := (le.qB b hb rfl).2
theorem LM (le : Le S K w oT w' M') {p : MemPlace} (hp : p.block < w.heap.size) : w.sameAt w' p := by
  cases p with
  | cell b o => exact World.cell?_of_block (w := w) (sX le hp)
  | map b => exact sX le hp
theorem J7 (le : Le S K w oT w' M') (may : MemPlace → Prop) : w.keptBut w' may := by
 refine ⟨le.os, le.out, fun i hi => ?_⟩
 have e := sX le hi
 rw [e]
 split
 ·rename_i h1 h2
  rw [h1] at h2
  simp only [Option.some.injEq, Obj.cells.injEq] at h2
  obtain ⟨rfl, rfl, rfl⟩ := h2
  exact ⟨rfl, rfl, rfl, fun _ _ => rfl⟩
 ·rename_i h1 h2
  rw [h1] at h2
  simp only [Option.some.injEq, Obj.map.injEq] at h2
  exact Or.inr ⟨h2.1.symm, h2.2.symm⟩
 rfl
theorem Fp (le : Le S K w oT w' M') {a : Addr} (ha : a.block < w.heap.size) : w'.frozen? a = w.frozen? a := by
 unfold World.frozen?
 rw [sX le ha]
end
section
variable {H : Type} {enc : TypeId × Value → H} {P : Program}
theorem qw (hl : laidOutB P = true) {w w' : World} {sp : Nat → Bool} : ∀ {ts : List TypeId} {vs : List Value} {ds : List (DataW H)} {ps : List MemPlace}, (∀ t ∈ ts, P.readableRec t = true ∧ t < P.types.size) →
    DataW.TrodAll enc P w 0 (fun _ => true) true ts vs ds ps → (∀ p ∈ ps, w.sameAt w' p) → (∀ p ∈ ps, sp p.block = true) → DataW.TrodAll enc P w' 0 sp true ts vs ds ps
  | [], [], [], _, _, h, _, _ => h
  | t :: ts, v :: vs, d :: ds, _, ht, ⟨p, q, h1, h2, e⟩, hs, hsp => by
    subst e
    have h0 := ht t List.mem_cons_self
    exact ⟨p, q, Go.WideElems.Trod_stays hl h0.1 h0.2 h1 (fun x hx => hs x (List.mem_append_left _ hx)) (fun x hx => hsp x (List.mem_append_left _ hx)),
      qw hl (fun t h => ht t (List.mem_cons_of_mem _ h)) h2 (fun x hx => hs x (List.mem_append_right _ hx)) (fun x hx => hsp x (List.mem_append_right _ hx)), rfl⟩
theorem Fb {f : Func} {s : ChangeSpec} {apart fresh handsOn again : Bool} {W W' : World} {args : Array Value} {ds : List (DataW H)} {before : List MemPlace} {S K : Nat → Prop} {M' : bB}
 (hl : laidOutB P = true) (hv : s.vars = []) (hrd : ∀ t ∈ f.params.toList, P.readableRec t = true ∧ t < P.types.size) {tb : TypeId} (htb : P.underlying tb = some .bool) (hrt : f.resultTypes = #[tb])
 (hW : DataW.Whole enc P f.params.toList s.vars apart W args.toList ds [] before) (hres : (s.fn H (ds ++ [])).results = [.lit (.bool true)]) (hargs : (s.fn H (ds ++ [])).args = ds) (hvars : (s.fn H (ds ++ [])).vars = [])
 (le : Le S K W oT W' M') : s.post enc P f apart fresh handsOn again W args (.bool true) W' := by
 have hW0 := hW
 obtain ⟨p, q, hA, hV, hb, hfz, hn⟩ := hW0
 have hlt := DataW.TrodAll.lt hA
 have hq : q = [] := by rw [hv] at hV; exact (trodVars_none hV).2
 subst hq
 have hbp : before = p := by rw [hb]; simp
 have hre : ∀ (b : Nat) (sp : Nat → Bool) (hd : Bool), DataW.TrodAll enc P W' b sp hd f.resultTypes.toList ((Value.bool true).resultList f.resultTypes.size) (s.fn H (ds ++ [])).results [] := fun b sp hd => by
  rw [hrt, hres]; exact trodAll_mk1 (shut_bool htb true)
 have har : ∀ sp : Nat → Bool, (∀ x ∈ p, sp x.block = true) → DataW.TrodAll enc P W' 0 sp true f.params.toList args.toList (s.fn H (ds ++ [])).args p := fun sp hsp => by
  rw [hargs]; exact qw hl hrd hA (fun x hx => LM le (hlt x hx)) hsp
 have hva : ∀ sp : Nat → Bool, DataW.TrodVars enc P W' sp s.vars (s.fn H (ds ++ [])).vars [] := fun sp => by
  rw [hvars, hv]; exact rfl
 have hok : ∀ (j : Nat) (t : TypeId) (r : Value), f.resultTypes[j]? = some t → ((Value.bool true).resultList f.resultTypes.size)[j]? = some r → Value.okWide P W' .any 0 t r := by
  exact ok_one (by rw [hrt]) rfl (okWide_bool_mk htb true)
 refine ⟨ds, [], before, [], p, [], hW, hre _ _ _, har _ (fun x hx => by simpa using hlt x hx), hva _, World.keptBut_mono (fun x hx => hx) (J7 le _), fun _ => ?_⟩
 refine ⟨hok, _, _, ([] ++ p) ++ [], ⟨[] ++ p, [], trodAll_append (har _ (fun _ _ => rfl)) (hre _ _ _), hva _, rfl, ?_, ?_⟩, ?_⟩
 ·intro b off hp
  have hp' : MemPlace.cell b off ∈ p := by simpa using hp
  rw [Fp le (hlt _ hp')]
  exact hfz b off (by rw [hbp]; exact hp')
 ·intro ha
  have := hn ha
  rw [hbp] at this
  simpa using this
 intro x hx _
 rw [hbp]
 simpa using hx
end
end Go.T
namespace Go.Proofs.YtelbollidfdcjaaGreat
open Go Go.T Go.RowKit Go.ChangeShapes Go.WideShapes Go.ChangeAt
theorem OZ : Rd Tryz.prog 5 U8 := ⟨by kernel_rfl, by decide, fun h => by
 obtain ⟨i, rfl, _⟩ := DataW.trod_int Tryz.underlying5 h
 exact ⟨i, rfl, trivial⟩⟩
section
variable {H : Type} {enc : TypeId × Value → H} {W : World} {base : Nat} {held : Bool} {v : Value} {d : DataW H} {p : List MemPlace}
set_option maxRecDepth 100000 in
theorem BW (hv : Value.okWide Tryz.prog W .any base 22 v) (h : DataW.Trod enc Tryz.prog W 0 (fun _ => true) held 22 v d p) : ∃ l, (Ty.sl U8 l).den W oT v := by
 obtain ⟨a, len, cap, rfl⟩ := okWide_slice Tryz.underlying22 hv
 obtain ⟨n, hn⟩ := h
 exact MH OZ Tryz.underlying22 (by simpa [Value.cells] using hn)
end
end Go.Proofs.YtelbollidfdcjaaGreat
namespace Go.Proofs.YtelbollidfdcjaaGreat
open Go Go.T Go.RowKit Go.ChangeShapes Go.WideShapes Go.ChangeAt
section
variable {H : Type} {enc : TypeId × Value → H} {W : World} {base : Nat} {held : Bool} {v : Value} {d : DataW H} {p : List MemPlace}
end
end Go.Proofs.YtelbollidfdcjaaGreat
