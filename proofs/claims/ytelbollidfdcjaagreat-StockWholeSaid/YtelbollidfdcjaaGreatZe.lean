/- Lemmas: the program and the reference walked, plain laws. -/
import Derived.Test.YtelbollidfdcjaaGreatZd
namespace Go.Proofs.YtelbollidfdcjaaGreat
open Go Go.T
set_option maxHeartbeats 8000000
section
variable {d : Md} {s : Sk} {k i : Nat} {p : (List Move × List Int) × Sk} {y : bB} {a : eK} {m : Move} {n : Int}
theorem HG (d : Md) (k : Nat) : (((d.bs k).1.1 ++ [bf (d.bs k).2 60], (d.bs k).1.2 ++ [⟨300, gp (aZ (d.bs k).2) (bf (d.bs k).2 60) 12⟩]), aZ (aZ (aZ (d.bs k).2))) = d.bs (k + 1) := rfl
theorem Gp (d : Md) : (([], []), aZ (aZ d.s)) = d.bs 0 := rfl
theorem Fk (d : Md) (i : Nat) : (((d.ms i).1.1 ++ [d.full (d.ms i) i], (d.ms i).1.2 ++ [d.num (d.ms i) i]), aZ (aZ (aZ (d.pL (d.ms i).2)))) = d.ms (i + 1) := rfl
theorem GW (d : Md) : (([], []), aZ (d.bs d.nb).2) = d.ms 0 := rfl
theorem I9 (d : Md) (k : Nat) : ((d.ls k).1 ++ [d.MJ (d.ls k).2], aZ (aZ (aZ (aZ (d.ls k).2)))) = d.ls (k + 1) := rfl
theorem Il (d : Md) : ([], aZ (d.hs d.nb).2) = d.ls 0 := rfl
theorem JW (d : Md) (k : Nat) : ((d.hs k).1.set k ⟨min 300 (d.most k (d.D + 1).toNat + bf (d.hs k).2 30), (nth (d.hs k).1 k).first⟩, aZ (d.hs k).2) = d.hs (k + 1) := rfl
theorem IX (d : Md) : (d.gK, (d.ms d.many).2) = d.hs 0 := rfl
theorem oH (hd : d.Ok) (hi : i ≤ d.many) (hp : KA d i p) : ID (d.yd p.1.1) (d.am p.1.2) := by
 have h := (d.pO d.nb).first
 have hl := hp.len1
 refine ⟨by have := hp.len2; show p.1.1.length ≤ p.1.2.length; omega, ?_, fun x hx => ?_, fun x hx => ?_⟩
 ·have h1 := (d.uP hd).1; have h2 := hp.len2; show p.1.2.length ≤ 1000; omega
 ·have := h x hx; omega
 have := hp.num x hx; omega
theorem Lb (h : d.src s = -1) : n = kr y a (d.mv s i) n := (if_pos h).symm
theorem LF (h : ¬ d.src s = -1) : min n (cX y a (d.src s) (d.day i)) = kr y a (d.mv s i) n := (if_neg h).symm
theorem LZ (h : d.dst s = -1) : n = mY y a (d.mv s i) n := (if_pos h).symm
theorem KP (h : ¬ d.dst s = -1) : min n (300 - cX y a (d.dst s) (d.day i + 1)) = mY y a (d.mv s i) n := (if_neg h).symm
theorem Mk : n = lV y a m n 0 := rfl
theorem LN (h : ((decide ((nth y.moves k).day = m.day) && decide ((nth y.moves k).src = m.src)) && !decide (m.src = -1)) = true) : ¬ m.src = -1 := by simp only [Bool.and_eq_true, Bool.not_eq_true', decide_eq_false_iff_not] at h; exact h.2
theorem num_eq (d : Md) (p : (List Move × List Int) × Sk) (i : Nat) : max 0 (min (lV (d.yd p.1.1) (d.am p.1.2) (d.mv p.2 i) (mY (d.yd p.1.1) (d.am p.1.2) (d.mv p.2 i) (kr (d.yd p.1.1) (d.am p.1.2) (d.mv p.2 i) (bf (d.pL p.2) 40))) (d.yd p.1.1).moves.length) (Ai (d.yd p.1.1) (d.am p.1.2) (d.mv p.2 i))) = d.num p i := rfl
theorem IW {α : Type} {E : El α} {T tg n : Nat} {xs : List α} (h : xs.length = n) : (Ty.row E T tg xs).Sub (Ty.vs tg n) := by subst h; exact Ty.sD rfl
theorem Kl (d : Md) (b : Nat) : 0 = d.most b 0 := rfl
theorem LI (d : Md) (b t : Nat) {bs : List s7} : max (d.most b t) (cX ⟨d.D, bs, d.fF, []⟩ d.real (b : Nat) (t : Nat)) = d.most b (t + 1) := by
 have e : cX ⟨d.D, bs, d.fF, []⟩ d.real (b : Nat) (t : Nat) = cX d.y0 d.real (b : Nat) (t : Nat) := sG (y := d.y0)
 rw [e]; rfl
theorem ur (hd : d.Ok) {bs : List s7} {l : List Level} : ID ⟨d.D, bs, d.fF, l⟩ d.real := by
 have h := oH hd (Nat.le_refl _) (d.pU hd d.many (Nat.le_refl _))
 exact ⟨h.len, h.nk, h.first, h.b8⟩
theorem L5 (h : ((decide ((nth y.moves k).day = m.day) && decide ((nth y.moves k).src = m.src)) && !decide (m.src = -1)) = false) : lV y a m n k = lV y a m n (k + 1) := (if_neg (by rw [h]; decide)).symm
theorem K7 (h : ((decide ((nth y.moves k).day = m.day) && decide ((nth y.moves k).src = m.src)) && !decide (m.src = -1)) = true) : min (lV y a m n k) (cX y a m.src m.day - nth a.b8 k) = lV y a m n (k + 1) := (if_pos h).symm
theorem AD (h : d.uB s = d.uH s) : (-1 = d.src s ∧ bf (aZ (aZ s)) d.nb = d.dst s) ∧ aZ (aZ (aZ s)) = d.pL s := ⟨⟨(if_pos h).symm, (if_pos h).symm⟩, (if_pos h).symm⟩
theorem Ba (h : ¬ d.uB s = d.uH s) : (d.uB s = d.src s ∧ d.uH s = d.dst s) ∧ aZ (aZ s) = d.pL s := ⟨⟨(if_neg h).symm, (if_neg h).symm⟩, (if_neg h).symm⟩
theorem zg {l : List Int} (hd : d.Ok) (h2 : ¬ d.src s = -1) (hl : l.length = d.nb) : 0 ≤ d.src s ∧ (d.src s).toNat < l.length := by
 have h1 := (d.yU (s := s) hd).1
 omega
theorem zK {l : List Int} (hd : d.Ok) (h2 : ¬ d.dst s = -1) (hl : l.length = d.nb) : 0 ≤ d.dst s ∧ (d.dst s).toNat < l.length := by
 have h1 := (d.yU (s := s) hd).2.1
 omega
end
attribute [local irreducible] Md.D Md.LR Md.nb Md.bs Md.first Md.gK Md.Ah Md.many Md.src Md.dst Md.pL Md.day Md.num Md.ms Md.b8 Md.fF Md.most Md.hs Md.jV Md.Lc Md.nl Md.ls Md.ug cX kr mY lV rF gp aZ bf iQ Ai Md.uB Md.uH
attribute [local irreducible] iw fu nh ru jS jR jO jN jQ rZ jL rj eO gy rY g9 rX nth fT dg aq eA bodyPost Exit.then Exit.inBlock Code.wp Code.wpIn rm jU rq rW jP eT ct cx bodyPostM eU
set_option maxRecDepth 100000 in
theorem KN (d : Md) (hd : d.Ok) (h : d.s.Ok 1000) : eT Tryz.prog 17 [1000] [(1000, Cont.cells 149 (dK d.s))] [Ty.ptr 1000 0, Ty.int .i64 d.days, Ty.int .i64 d.bins, Ty.int .i64 d.moves, Ty.int .i64 d.levels] [(1000, Cont.cells 149 (dK d.sk))] (Ty.j3 [fK d.dP, pR d.real]) := by
 refine dj Tryz.func17 rfl (by decide) Tryz.ntmps17 (by exact Nat.le_of_ble_eq_true rfl) fun w0 M0 => ?_
 have h0 : 0 ≤ d.s.taken ∧ d.s.taken + 1000 ≤ 4611686018427387904 := h
 have o1 := hd.days
 have o2 := hd.bins
 have o3 := hd.moves
 have o4 := hd.levels
 have hD := d.FI hd
 have hnb := d.Dj hd
 have hmn := d.uP hd
 have hnl := d.Jc hd
 have hs1 := cY d.s
 have hs2 := cY (aZ d.s)
 have B := d.pO d.nb
 have b1 : d.first.length = d.nb := by unfold Md.first; exact B.len1
 have b2 : d.gK.length = d.nb := by unfold Md.gK; exact B.len2
 refine aE (aA ?_)
 refine bz rfl (by exact List.cons_ne_nil _ _) rfl ?_
 refine bz rfl (by exact List.cons_ne_nil _ _) rfl ?_
 refine aD (aC (aE (aA (qH rfl (bO rfl ?_)))))
 refine cD [(1000, 1000)] [] [(1000, Cont.cells 149 (dK (aZ d.s)))] (ud d.s ⟨by omega, by omega⟩ 1 d.days (by omega) (by omega)) rfl rfl (by repeat (first | exact bK | refine aJ ?_ ?_ | exact dr List.mem_cons_self | exact aO rfl rfl)) (cC (a := 1000) (b := 1000) (by exact List.mem_cons_self) rfl (bH (by exact List.mem_cons_self) rfl rfl rfl) pre_nil) (bL (a := 1000) (b := 1000) (by exact List.mem_cons_self) rfl (bH (by exact List.mem_cons_self) rfl rfl rfl) post_nil) (aO rfl rfl) ?_
 refine dD rfl rfl (by exact List.cons_ne_nil _ _) rfl (by repeat (first | exact (aY.nil : aY _ _ [] _) | (show aY _ _ ((_, _) :: _) _; apply aY.one; (· exact (rfl : _ = Ty.int _ _)); (· exact rfl)))) (by exact (rfl : _ = some [_, _, _, _])) ?_
 refine bz rfl (by exact List.cons_ne_nil _ _) rfl ?_
 refine bu rfl rfl (by decide) rfl rfl rfl rfl rfl rfl ?_
 refine aD (aC (aE ?_))
 refine eS (B := live [(0, Ty.ptr 1000 0), (2, Ty.int .i64 d.bins), (3, Ty.int .i64 d.moves), (4, Ty.int .i64 d.levels), (10, Ty.ptr 11 0), (11, Ty.ptr 12 0), (12, Ty.ptr 13 0)] [(11, Cont.cells 27 [Ty.int .i64 0, Ty.ex (.slice none 0 0), Ty.ex (.slice none 0 0), Ty.ex (.slice none 0 0)]), (12, Cont.cells 30 [Ty.ex (.slice none 0 0), Ty.ex (.slice none 0 0)]), (13, Cont.cells 27 [Ty.int .i64 (iQ d.s 1 d.days), Ty.ex (.slice none 0 0), Ty.ex (.slice none 0 0), Ty.ex (.slice none 0 0)]), (1000, Cont.cells 149 (dK (aZ d.s)))]) ?_ ?_
 ·refine c9.mk' ?_ ?_
  ·(repeat (first | refine aB ?_ (Ty.aW _) | refine aB ?_ (Ty.aF _))); exact aH
  refine aG rfl (Cont.aF _) ?_; refine aG rfl (Cont.aF _) ?_; refine aG rfl (Cont.eM ⟨Ty.aF _, Ty.aF _, Ty.aF _, Ty.aF _, trivial⟩) ?_; refine aG rfl (Cont.aF _) ?_; exact aI
 refine aA ?_
 refine bz rfl (by exact List.cons_ne_nil _ _) rfl ?_
 refine aD (aC (aE (aE ?_)))
 refine eS (B := live [(0, Ty.ptr 1000 0), (2, Ty.int .i64 d.bins), (3, Ty.int .i64 d.moves), (4, Ty.int .i64 d.levels), (10, Ty.ptr 11 0), (11, Ty.ptr 12 0), (12, Ty.ptr 13 0), (13, Ty.ptr 14 0)] [(11, Cont.cells 27 [Ty.int .i64 0, Ty.ex (.slice none 0 0), Ty.ex (.slice none 0 0), Ty.ex (.slice none 0 0)]), (12, Cont.cells 30 [Ty.ex (.slice none 0 0), Ty.ex (.slice none 0 0)]), (13, Cont.cells 27 [Ty.int .i64 (iQ d.s 1 d.days), Ty.ex (.slice none 0 0), Ty.ex (.slice none 0 0), Ty.ex (.slice none 0 0)]), (14, Cont.cells 30 [Ty.ex (.slice none 0 0), Ty.ex (.slice none 0 0)]), (1000, Cont.cells 149 (dK (aZ d.s)))]) ?_ ?_
 ·refine c9.mk' ?_ ?_
  ·(repeat (first | refine aB ?_ (Ty.aW _) | refine aB ?_ (Ty.aF _))); exact aH
  refine aG rfl (Cont.aF _) ?_; refine aG rfl (Cont.aF _) ?_; refine aG rfl (Cont.aF _) ?_; refine aG rfl (Cont.aF _) ?_; refine aG rfl (Cont.aF _) ?_; exact aI
 refine aA (qH rfl (bO rfl ?_))
 refine cD [(1000, 1000)] [] [(1000, Cont.cells 149 (dK (aZ (aZ d.s))))] (ud (aZ d.s) ⟨by omega, by omega⟩ 1 d.bins (by omega) (by omega)) rfl rfl (by repeat (first | exact bK | refine aJ ?_ ?_ | exact dr List.mem_cons_self | exact aO rfl rfl)) (cC (a := 1000) (b := 1000) (by exact List.mem_cons_self) rfl (bH (by exact List.mem_cons_self) rfl rfl rfl) pre_nil) (bL (a := 1000) (b := 1000) (by exact List.mem_cons_self) rfl (bH (by exact List.mem_cons_self) rfl rfl rfl) post_nil) (aO rfl rfl) ?_
 refine bO rfl (aD (aC ?_))
 refine gl (s := 31) rfl (Ty.ah (show iQ (aZ d.s) 1 d.bins = ((d.nb : Nat) : Int) from (show d.LR = _ from hnb.2) ▸ (by unfold Md.LR; rfl))) ?_
 refine gL (tg := 13) rfl (Cont.eM (l' := [Ty.int .i64 d.D, Ty.ex (.slice none 0 0), Ty.ex (.slice none 0 0), Ty.ex (.slice none 0 0)]) ⟨Ty.ah (by unfold Md.D; rfl), Ty.aF _, Ty.aF _, Ty.aF _, trivial⟩) ?_
 refine ak ?_
 refine cV (fun (k : {k : Nat // k ≤ d.nb}) => live [(0, Ty.ptr 1000 0), (3, Ty.int .i64 d.moves), (4, Ty.int .i64 d.levels), (10, Ty.ptr 11 0), (11, Ty.ptr 12 0), (12, Ty.ptr 13 0), (13, Ty.ptr 14 0), (31, Ty.int .i64 (d.nb : Nat)), (32, Ty.int .i64 (k.1 : Nat))] [(11, Cont.cells 27 [Ty.int .i64 0, Ty.ex (.slice none 0 0), Ty.ex (.slice none 0 0), Ty.ex (.slice none 0 0)]), (12, Cont.cells 30 [Ty.ex (.slice none 0 0), Ty.ex (.slice none 0 0)]), (13, Cont.cells 27 [Ty.int .i64 d.D, Ty.row eG 39 49 (d.bs k.1).1.2, Ty.ex (.slice none 0 0), Ty.ex (.slice none 0 0)]), (14, Cont.cells 30 [Ty.row cj 3 40 (d.bs k.1).1.1, Ty.ex (.slice none 0 0)]), (1000, Cont.cells 149 (dK (d.bs k.1).2))]) (fun k => d.nb - k.1) (⟨0, by omega⟩) ?_ fun k => ?_
 ·(refine c9.mk' ?_ ?_ <;> (repeat' (first | exact aH | exact aI | exact c7 | refine aB ?_ (Ty.aW _) | refine aB ?_ (Ty.aF _) | refine aG rfl (Cont.aF _) ?_ | refine aG rfl (Cont.c6 ?_) ?_ | refine bS ?_ (Ty.aF _) | refine bS ?_ ?_)))
  all_goals first | exact Ty.ah (congrArg (fun p => p.2.mixed) (Gp d)) | exact Ty.ah (congrArg (fun p => p.2.taken) (Gp d)) | exact Ty.fG (congrArg (fun p => p.2.grain) (Gp d)) | exact jc (congrArg (fun p => p.1.1) (Gp d)).symm | exact jc (congrArg (fun p => p.1.2) (Gp d)).symm
 have hk := k.2
 have BK := d.pO k.1
 have c1 := BK.len1
 have c2 := BK.len2
 have c3 := BK.taken
 have c4 := cq (d.bs k.1).2 60
 have c5 := cY (d.bs k.1).2
 refine aE (aA (bD rfl rfl rfl (aD (aC (aE ?_)))))
 refine av rfl (fun hc1 => ?_) (fun hc1 => ?_)
 ·
  refine aj (aC (aE (ak (aE (aA (qH rfl ?_))))))
  refine cD [(1000, 1000)] [] [(1000, Cont.cells 149 (dK (aZ (d.bs k.1).2)))] (jE (d.bs k.1).2 ⟨by omega, by omega⟩ 60) rfl rfl (by repeat (first | exact bK | refine aJ ?_ ?_ | exact dr List.mem_cons_self | exact aO rfl rfl)) (cC (a := 1000) (b := 1000) (by exact List.mem_cons_self) rfl (bH (by exact List.mem_cons_self) rfl rfl rfl) pre_nil) (bL (a := 1000) (b := 1000) (by exact List.mem_cons_self) rfl (bH (by exact List.mem_cons_self) rfl rfl rfl) post_nil) (aO rfl rfl) ?_
  refine cF rfl (aD (aC (aE (aA ?_))))
  refine aK rfl rfl rfl rfl rfl (by decide) ?_
  refine aP rfl rfl (by decide) rfl rfl rfl ?_
  refine bO rfl ?_
  refine bp (E := cj) (xs := [bf (d.bs k.1).2 60]) rfl rfl rfl rfl rfl (by decide) (by decide) (by repeat (first | exact (aY.nil : aY _ _ [] _) | (show aY _ _ ((_, _) :: _) _; apply aY.one; (· exact (rfl : _ = Ty.int _ _)); (· exact rfl)))) (by exact rfl) rfl ?_
  refine fO rfl rfl (by decide) rfl rfl rfl rfl rfl rfl (by decide) (by (simp <;> omega)) (by (simp <;> omega)) ?_
  refine aK rfl rfl rfl rfl rfl (by decide) ?_
  refine cZ rfl rfl (by decide) rfl rfl (by exact (rfl : _ = Ty.row _ _ _ _)) rfl (by exact Nat.le_of_ble_eq_true rfl) rfl rfl (by exact rfl) ?_
  refine aD (aC ?_)
  refine eS (B := live [(0, Ty.ptr 1000 0), (3, Ty.int .i64 d.moves), (4, Ty.int .i64 d.levels), (10, Ty.ptr 11 0), (11, Ty.ptr 12 0), (12, Ty.ptr 13 0), (13, Ty.ptr 14 0), (14, Ty.int .i64 (bf (d.bs k.1).2 60)), (31, Ty.int .i64 (d.nb : Nat)), (32, Ty.int .i64 (k.1 : Nat))] [(11, Cont.cells 27 [Ty.int .i64 0, Ty.ex (.slice none 0 0), Ty.ex (.slice none 0 0), Ty.ex (.slice none 0 0)]), (12, Cont.cells 30 [Ty.ex (.slice none 0 0), Ty.ex (.slice none 0 0)]), (13, Cont.cells 27 [Ty.int .i64 d.D, Ty.row eG 39 49 (d.bs k.1).1.2, Ty.ex (.slice none 0 0), Ty.ex (.slice none 0 0)]), (14, Cont.cells 30 [Ty.row cj 3 40 ((d.bs k.1).1.1 ++ [bf (d.bs k.1).2 60]), Ty.ex (.slice none 0 0)]), (1000, Cont.cells 149 (dK (aZ (d.bs k.1).2)))]) ?_ ?_
  ·refine c9.mk' ?_ ?_
   ·(repeat (first | refine aB ?_ (Ty.aW _) | refine aB ?_ (Ty.aF _))); exact aH
   refine aG rfl (Cont.aF _) ?_; refine aG rfl (Cont.aF _) ?_; refine aG rfl (Cont.aF _) ?_; refine aG rfl (Cont.eM ⟨Ty.aF _, Ty.aF _, trivial⟩) ?_; refine aG rfl (Cont.aF _) ?_; exact aI
  refine cN mixed rfl ?_
  refine aK rfl rfl rfl rfl rfl (by decide) ?_
  refine aP rfl rfl (by decide) rfl rfl rfl ?_
  refine qH rfl (bO rfl ?_)
  refine cD [(1000, 1000)] [] [(1000, Cont.cells 149 (dK (aZ (aZ (aZ (d.bs k.1).2)))))] (CD (aZ (d.bs k.1).2) ⟨by omega, by omega⟩ (bf (d.bs k.1).2 60) 12 (by omega) (by omega)) rfl rfl (by repeat (first | exact bK | refine aJ ?_ ?_ | exact dr List.mem_cons_self | exact aO rfl rfl)) (cC (a := 1000) (b := 1000) (by exact List.mem_cons_self) rfl (bH (by exact List.mem_cons_self) rfl rfl rfl) pre_nil) (bL (a := 1000) (b := 1000) (by exact List.mem_cons_self) rfl (bH (by exact List.mem_cons_self) rfl rfl rfl) post_nil) (aO rfl rfl) ?_
  refine dD rfl rfl (by exact List.cons_ne_nil _ _) rfl (by repeat (first | exact (aY.nil : aY _ _ [] _) | (show aY _ _ ((_, _) :: _) _; apply aY.one; (· exact (rfl : _ = Ty.int _ _)); (· exact rfl)) | (show aY _ _ ((_, _) :: _) _; apply aY.agg; (· exact (rfl : _ = Ty.agg _))))) (by exact (rfl : _ = some [_, _, _])) ?_
  refine bp (E := eG) (xs := [⟨300, gp (aZ (d.bs k.1).2) (bf (d.bs k.1).2 60) 12⟩]) rfl rfl rfl rfl rfl (by decide) (by decide) (by repeat (first | exact (aY.nil : aY _ _ [] _) | (show aY _ _ ((_, _) :: _) _; apply aY.agg; (· exact (rfl : _ = Ty.agg _))))) (by exact rfl) rfl ?_
  refine fO rfl rfl (by decide) rfl rfl rfl rfl rfl rfl (by decide) (by (simp <;> omega)) (by (simp <;> omega)) ?_
  refine aK rfl rfl rfl rfl rfl (by decide) ?_
  refine cZ rfl rfl (by decide) rfl rfl (by exact (rfl : _ = Ty.row _ _ _ _)) rfl (by exact Nat.le_of_ble_eq_true rfl) rfl rfl (by exact rfl) ?_
  refine aD ?_
  refine ⟨by kernel_rfl, ?_⟩
  refine bQ (aC (aA ?_))
  refine bg rfl rfl (by omega) (by omega) ?_
  refine bO rfl (aD ?_)
  refine bV (⟨k.1 + 1, by omega⟩) ?_ (by show d.nb - (k.1 + 1) < d.nb - k.1; omega)
  (refine c9.mk' ?_ ?_ <;> (repeat' (first | exact aH | exact aI | exact c7 | refine aB ?_ (Ty.aW _) | refine aB ?_ (Ty.aF _) | refine aG rfl (Cont.aF _) ?_ | refine aG rfl (Cont.c6 ?_) ?_ | refine bS ?_ (Ty.aF _) | refine bS ?_ ?_)))
  all_goals skip
  all_goals first | exact Ty.ah (congrArg (fun p => p.2.mixed) (HG d _)) | exact Ty.ah (congrArg (fun p => p.2.taken) (HG d _)) | exact Ty.fG (congrArg (fun p => p.2.grain) (HG d _)) | exact Ty.fS (congrArg (fun p => p.1.1) (HG d _)) | exact Ty.fS (congrArg (fun p => p.1.2) (HG d _))
 refine cQ (aR (aR (au rfl (aC (aE ?_)))))
 obtain ⟨k, hk⟩ := k
 obtain rfl : k = d.nb := by have h1 : ¬ (k : Int) < (d.nb : Int) := hc1; have h2 : k ≤ d.nb := hk; omega
 have b3 := B.taken
 have b4 := cY (d.bs d.nb).2
 refine aA (qH rfl (bO rfl ?_))
 refine bg rfl rfl (by omega) (by omega) ?_
 refine cD [(1000, 1000)] [] [(1000, Cont.cells 149 (dK (aZ (d.bs d.nb).2)))] (jE (d.bs d.nb).2 ⟨by omega, by omega⟩ _) rfl rfl (by repeat (first | exact bK | refine aJ ?_ ?_ | exact dr List.mem_cons_self | exact aO rfl rfl)) (cC (a := 1000) (b := 1000) (by exact List.mem_cons_self) rfl (bH (by exact List.mem_cons_self) rfl rfl rfl) pre_nil) (bL (a := 1000) (b := 1000) (by exact List.mem_cons_self) rfl (bH (by exact List.mem_cons_self) rfl rfl rfl) post_nil) (aO rfl rfl) ?_
 refine cF rfl (aD (aC (aE (aE ?_))))
 refine gl (s := 15) rfl (Ty.ah (show bf (d.bs d.nb).2 (d.moves + 1) = ((d.many : Nat) : Int) from hmn.2 ▸ (by unfold Md.Ah; rfl))) ?_
 refine gL (tg := 13) rfl (Cont.eM (l' := [Ty.int .i64 d.D, Ty.row eG 39 49 d.gK, Ty.ex (.slice none 0 0), Ty.ex (.slice none 0 0)]) ⟨Ty.aF _, Ty.fS (by unfold Md.gK; rfl), Ty.aF _, Ty.aF _, trivial⟩) ?_
 refine gL (tg := 14) rfl (Cont.eM (l' := [Ty.row cj 3 40 d.first, Ty.ex (.slice none 0 0)]) ⟨Ty.fS (by unfold Md.first; rfl), Ty.aF _, trivial⟩) ?_
 refine aA (bO rfl (bO rfl (aD (aC (ak ?_)))))
 refine cV (fun (i : {i : Nat // i ≤ d.many}) => live [(0, Ty.ptr 1000 0), (4, Ty.int .i64 d.levels), (10, Ty.ptr 11 0), (11, Ty.ptr 12 0), (12, Ty.ptr 13 0), (13, Ty.ptr 14 0), (15, Ty.int .i64 (d.many : Nat)), (56, Ty.int .i64 (d.many : Nat)), (57, Ty.int .i64 (i.1 : Nat))] [(11, Cont.cells 27 [Ty.int .i64 0, Ty.ex (.slice none 0 0), Ty.ex (.slice none 0 0), Ty.ex (.slice none 0 0)]), (12, Cont.cells 30 [Ty.ex (.slice none 0 0), Ty.ex (.slice none 0 0)]), (13, Cont.cells 27 [Ty.int .i64 d.D, Ty.row eG 39 49 d.gK, Ty.row dN 41 175 (d.ms i.1).1.1, Ty.ex (.slice none 0 0)]), (14, Cont.cells 30 [Ty.row cj 3 40 d.first, Ty.row cj 3 180 (d.ms i.1).1.2]), (1000, Cont.cells 149 (dK (d.ms i.1).2))]) (fun i => d.many - i.1) (⟨0, by omega⟩) ?_ fun i => ?_
 ·(refine c9.mk' ?_ ?_ <;> (repeat' (first | exact aH | exact aI | exact c7 | refine aB ?_ (Ty.aW _) | refine aB ?_ (Ty.aF _) | refine aG rfl (Cont.aF _) ?_ | refine aG rfl (Cont.c6 ?_) ?_ | refine bS ?_ (Ty.aF _) | refine bS ?_ ?_)))
  all_goals first | exact Ty.ah (congrArg (fun p => p.2.mixed) (GW d)) | exact Ty.ah (congrArg (fun p => p.2.taken) (GW d)) | exact Ty.fG (congrArg (fun p => p.2.grain) (GW d)) | exact jc (congrArg (fun p => p.1.1) (GW d)).symm | exact jc (congrArg (fun p => p.1.2) (GW d)).symm
 have hi := i.2
 have hP := d.pU hd i.1 hi
 have e1 := hP.len1
 have e2 := hP.len2
 have e3 := hP.taken
 have e4 := d.yT (d.ms i.1).2
 have e5 := cY (d.pL (d.ms i.1).2)
 have e6 := cq (d.pL (d.ms i.1).2) 40
 have e7 := cY (d.ms i.1).2
 have e8 := cY (aZ (d.ms i.1).2)
 refine aE (aA (bD rfl rfl rfl (aD (aC (aE ?_)))))
 refine av rfl (fun hc2 => ?_) (fun hc2 => ?_)
 ·
  refine aj (aC (aE (ak (aE (aA (bO rfl (cF rfl (aD (aC ?_)))))))))
  refine aE ?_
  have hdv := vC (D := d.D) (i := i.1) (n := d.many) hD.1 (by omega)
  have hmul : 0 ≤ (i.1 : Int) * d.D ∧ (i.1 : Int) * d.D ≤ 10 * 5 := ⟨Int.mul_nonneg (by omega) (by omega), Int.mul_le_mul (by omega) hD.2 (by omega) (by omega)⟩
  have hday : 0 ≤ d.day i.1 ∧ d.day i.1 < d.D := by unfold Md.day; exact hdv.1
  have hCI : ∀ (b t : Int), 0 ≤ b → b.toNat < d.first.length → 0 ≤ cX (d.yd (d.ms i.1).1.1) (d.am (d.ms i.1).1.2) b t ∧ cX (d.yd (d.ms i.1).1.1) (d.am (d.ms i.1).1.2) b t ≤ 300 := fun b t g0 g1 => by
   have := hP.cont b.toNat t (by omega)
   rwa [Int.toNat_of_nonneg g0] at this
  refine cN mixed rfl (bO rfl ?_)
  refine aK rfl rfl rfl rfl rfl (by decide) ?_
  refine aP rfl rfl (by decide) rfl rfl rfl ?_
  refine DE rfl rfl (by omega) (by omega) ?_
  refine bO rfl ?_
  refine Lr rfl rfl (by omega) ?_
  refine qH rfl ?_
  refine aK rfl rfl rfl rfl rfl (by decide) ?_
  refine aP rfl rfl (by decide) rfl rfl rfl ?_
  refine mJ rfl rfl rfl ?_
  refine fU rfl rfl (by omega) (by omega) ?_
  refine cD [(1000, 1000)] [] [(1000, Cont.cells 149 (dK (aZ (d.ms i.1).2)))] (ud (d.ms i.1).2 ⟨by omega, by omega⟩ (-1) ((d.gK.length : Int) - 1) (by omega) (by omega)) rfl rfl (by repeat (first | exact bK | refine aJ ?_ ?_ | exact dr List.mem_cons_self | exact aO rfl rfl)) (cC (a := 1000) (b := 1000) (by exact List.mem_cons_self) rfl (bH (by exact List.mem_cons_self) rfl rfl rfl) pre_nil) (bL (a := 1000) (b := 1000) (by exact List.mem_cons_self) rfl (bH (by exact List.mem_cons_self) rfl rfl rfl) post_nil) (aO rfl rfl) ?_
  refine qH rfl ?_
  refine aK rfl rfl rfl rfl rfl (by decide) ?_
  refine aP rfl rfl (by decide) rfl rfl rfl ?_
  refine mJ rfl rfl rfl ?_
  refine fU rfl rfl (by omega) (by omega) ?_
  refine cD [(1000, 1000)] [] [(1000, Cont.cells 149 (dK (aZ (aZ (d.ms i.1).2))))] (ud (aZ (d.ms i.1).2) ⟨by omega, by omega⟩ (-1) ((d.gK.length : Int) - 1) (by omega) (by omega)) rfl rfl (by repeat (first | exact bK | refine aJ ?_ ?_ | exact dr List.mem_cons_self | exact aO rfl rfl)) (cC (a := 1000) (b := 1000) (by exact List.mem_cons_self) rfl (bH (by exact List.mem_cons_self) rfl rfl rfl) pre_nil) (bL (a := 1000) (b := 1000) (by exact List.mem_cons_self) rfl (bH (by exact List.mem_cons_self) rfl rfl rfl) post_nil) (aO rfl rfl) ?_
  refine dD rfl rfl (by exact List.cons_ne_nil _ _) rfl (by repeat (first | exact (aY.nil : aY _ _ [] _) | (show aY _ _ ((_, _) :: _) _; apply aY.one; (· exact (rfl : _ = Ty.int _ _)); (· exact rfl)))) (by exact rfl) ?_
  refine bz rfl (by exact List.cons_ne_nil _ _) rfl ?_
  refine bu rfl rfl (by decide) rfl rfl rfl rfl rfl rfl ?_
  refine aD ?_
  refine ⟨by kernel_rfl, ?_⟩
  refine aC ?_
  refine j9 (J := live [(0, Ty.ptr 1000 0), (4, Ty.int .i64 d.levels), (10, Ty.ptr 11 0), (11, Ty.ptr 12 0), (12, Ty.ptr 13 0), (13, Ty.ptr 14 0), (15, Ty.int .i64 (d.many : Nat)), (56, Ty.int .i64 (d.many : Nat)), (57, Ty.int .i64 (i.1 : Nat)), (17, Ty.ptr 18 0)] [(11, Cont.cells 27 [Ty.int .i64 0, Ty.ex (.slice none 0 0), Ty.ex (.slice none 0 0), Ty.ex (.slice none 0 0)]), (12, Cont.cells 30 [Ty.ex (.slice none 0 0), Ty.ex (.slice none 0 0)]), (13, Cont.cells 27 [Ty.int .i64 d.D, Ty.row eG 39 49 d.gK, Ty.row dN 41 175 (d.ms i.1).1.1, Ty.ex (.slice none 0 0)]), (14, Cont.cells 30 [Ty.row cj 3 40 d.first, Ty.row cj 3 180 (d.ms i.1).1.2]), (18, Cont.cells 41 [Ty.int .i64 (d.day i.1), Ty.int .i64 (d.src (d.ms i.1).2), Ty.int .i64 (d.dst (d.ms i.1).2), Ty.int .i64 0, Ty.int .i64 0]), (1000, Cont.cells 149 (dK (d.pL (d.ms i.1).2)))]) ?_ ?_
  ·
   refine aE ?_
   refine gL (tg := 18) rfl (Cont.eM (l' := [Ty.int .i64 (d.day i.1), Ty.int .i64 (d.uB (d.ms i.1).2), Ty.int .i64 (d.uH (d.ms i.1).2), Ty.int .i64 0, Ty.int .i64 0]) ⟨Ty.ah (by unfold Md.day; exact IntWalk.i64_in _ (by have := hdv.1; omega)), Ty.ah (by unfold Md.uB; rw [b2]), Ty.ah (by unfold Md.uH; rw [b2]), Ty.aF _, Ty.aF _, trivial⟩) ?_
   refine eS (B := live [(0, Ty.ptr 1000 0), (4, Ty.int .i64 d.levels), (10, Ty.ptr 11 0), (11, Ty.ptr 12 0), (12, Ty.ptr 13 0), (13, Ty.ptr 14 0), (15, Ty.int .i64 (d.many : Nat)), (56, Ty.int .i64 (d.many : Nat)), (57, Ty.int .i64 (i.1 : Nat)), (17, Ty.ptr 18 0)] [(11, Cont.cells 27 [Ty.int .i64 0, Ty.ex (.slice none 0 0), Ty.ex (.slice none 0 0), Ty.ex (.slice none 0 0)]), (12, Cont.cells 30 [Ty.ex (.slice none 0 0), Ty.ex (.slice none 0 0)]), (13, Cont.cells 27 [Ty.int .i64 d.D, Ty.row eG 39 49 d.gK, Ty.row dN 41 175 (d.ms i.1).1.1, Ty.ex (.slice none 0 0)]), (14, Cont.cells 30 [Ty.row cj 3 40 d.first, Ty.row cj 3 180 (d.ms i.1).1.2]), (18, Cont.cells 41 [Ty.int .i64 (d.day i.1), Ty.int .i64 (d.uB (d.ms i.1).2), Ty.int .i64 (d.uH (d.ms i.1).2), Ty.int .i64 0, Ty.int .i64 0]), (1000, Cont.cells 149 (dK (aZ (aZ (d.ms i.1).2))))]) ?_ ?_
   ·refine c9.mk' ?_ ?_
    ·(repeat (first | refine aB ?_ (Ty.aW _) | refine aB ?_ (Ty.aF _))); exact aH
    refine aG rfl (Cont.aF _) ?_; refine aG rfl (Cont.aF _) ?_; refine aG rfl (Cont.aF _) ?_; refine aG rfl (Cont.aF _) ?_; refine aG rfl (Cont.aF _) ?_; refine aG rfl (Cont.aF _) ?_; exact aI
   refine aA ?_
   refine aK rfl rfl rfl rfl rfl (by decide) ?_
   refine aP rfl rfl (by decide) rfl rfl rfl ?_
   refine aK rfl rfl rfl rfl rfl (by decide) ?_
   refine aP rfl rfl (by decide) rfl rfl rfl ?_
   refine bD rfl rfl rfl (aD (aC ?_))
   refine av rfl (fun hc3 => ?_) (fun hc3 => ?_)
   ·
    refine aA (qH rfl ?_)
    refine aK rfl rfl rfl rfl rfl (by decide) ?_
    refine aP rfl rfl (by decide) rfl rfl rfl ?_
    refine mJ rfl rfl rfl ?_
    refine cD [(1000, 1000)] [] [(1000, Cont.cells 149 (dK (aZ (aZ (aZ (d.ms i.1).2)))))] (jE (aZ (aZ (d.ms i.1).2)) ⟨by omega, by omega⟩ _) rfl rfl (by repeat (first | exact bK | refine aJ ?_ ?_ | exact dr List.mem_cons_self | exact aO rfl rfl)) (cC (a := 1000) (b := 1000) (by exact List.mem_cons_self) rfl (bH (by exact List.mem_cons_self) rfl rfl rfl) pre_nil) (bL (a := 1000) (b := 1000) (by exact List.mem_cons_self) rfl (bH (by exact List.mem_cons_self) rfl rfl rfl) post_nil) (aO rfl rfl) ?_
    refine aK rfl rfl rfl rfl rfl (by decide) ?_
    refine cZ rfl rfl (by decide) rfl rfl (by exact (rfl : _ = Ty.int _ _)) rfl (by exact Nat.le_of_ble_eq_true rfl) rfl rfl (by exact rfl) ?_
    refine aK rfl rfl rfl rfl rfl (by decide) ?_
    refine cZ rfl rfl (by decide) rfl rfl (by exact (rfl : _ = Ty.int _ _)) rfl (by exact Nat.le_of_ble_eq_true rfl) rfl rfl (by exact rfl) ?_
    refine aD (fJ ?_)
    (refine c9.mk' ?_ ?_ <;> (repeat' (first | exact aH | exact aI | exact c7 | refine aB ?_ (Ty.aW _) | refine aB ?_ (Ty.aF _) | refine aG rfl (Cont.aF _) ?_ | refine aG rfl (Cont.c6 ?_) ?_ | refine bS ?_ (Ty.aF _) | refine bS ?_ ?_)))
    all_goals first | exact Ty.ah (AD hc3).1.1 | exact Ty.ah (by rw [b2]; exact (AD hc3).1.2) | exact Ty.ah (congrArg (fun p => p.mixed) (AD hc3).2) | exact Ty.ah (congrArg (fun p => p.taken) (AD hc3).2) | exact Ty.fG (congrArg (fun p => p.grain) (AD hc3).2)
   refine aj (fJ ?_)
   (refine c9.mk' ?_ ?_ <;> (repeat' (first | exact aH | exact aI | exact c7 | refine aB ?_ (Ty.aW _) | refine aB ?_ (Ty.aF _) | refine aG rfl (Cont.aF _) ?_ | refine aG rfl (Cont.c6 ?_) ?_ | refine bS ?_ (Ty.aF _) | refine bS ?_ ?_)))
   all_goals first | exact Ty.ah (Ba hc3).1.1 | exact Ty.ah (Ba hc3).1.2 | exact Ty.ah (congrArg (fun p => p.mixed) (Ba hc3).2) | exact Ty.ah (congrArg (fun p => p.taken) (Ba hc3).2) | exact Ty.fG (congrArg (fun p => p.grain) (Ba hc3).2)
  refine aE (aA (qH rfl ?_))
  refine cD [(1000, 1000)] [] [(1000, Cont.cells 149 (dK (aZ (d.pL (d.ms i.1).2))))] (jE (d.pL (d.ms i.1).2) ⟨by omega, by omega⟩ 40) rfl rfl (by repeat (first | exact bK | refine aJ ?_ ?_ | exact dr List.mem_cons_self | exact aO rfl rfl)) (cC (a := 1000) (b := 1000) (by exact List.mem_cons_self) rfl (bH (by exact List.mem_cons_self) rfl rfl rfl) pre_nil) (bL (a := 1000) (b := 1000) (by exact List.mem_cons_self) rfl (bH (by exact List.mem_cons_self) rfl rfl rfl) post_nil) (aO rfl rfl) ?_
  refine cF rfl (aD (aC ?_))
  refine j9 (J := live [(0, Ty.ptr 1000 0), (4, Ty.int .i64 d.levels), (10, Ty.ptr 11 0), (11, Ty.ptr 12 0), (12, Ty.ptr 13 0), (13, Ty.ptr 14 0), (15, Ty.int .i64 (d.many : Nat)), (56, Ty.int .i64 (d.many : Nat)), (57, Ty.int .i64 (i.1 : Nat)), (17, Ty.ptr 18 0), (18, Ty.int .i64 (kr (d.yd (d.ms i.1).1.1) (d.am (d.ms i.1).1.2) (d.mv (d.ms i.1).2 i.1) (bf (d.pL (d.ms i.1).2) 40)))] [(11, Cont.cells 27 [Ty.int .i64 0, Ty.ex (.slice none 0 0), Ty.ex (.slice none 0 0), Ty.ex (.slice none 0 0)]), (12, Cont.cells 30 [Ty.ex (.slice none 0 0), Ty.ex (.slice none 0 0)]), (13, Cont.cells 27 [Ty.int .i64 d.D, Ty.row eG 39 49 d.gK, Ty.row dN 41 175 (d.ms i.1).1.1, Ty.ex (.slice none 0 0)]), (14, Cont.cells 30 [Ty.row cj 3 40 d.first, Ty.row cj 3 180 (d.ms i.1).1.2]), (18, Cont.cells 41 [Ty.int .i64 (d.day i.1), Ty.int .i64 (d.src (d.ms i.1).2), Ty.int .i64 (d.dst (d.ms i.1).2), Ty.int .i64 0, Ty.int .i64 0]), (1000, Cont.cells 149 (dK (aZ (d.pL (d.ms i.1).2))))]) ?_ ?_
  ·
   refine aE (aA ?_)
   refine aK rfl rfl rfl rfl rfl (by decide) ?_
   refine aP rfl rfl (by decide) rfl rfl rfl ?_
   refine bD rfl rfl rfl (aD (aC ?_))
   refine dL rfl (fun hc4 => ?_) (fun hc4 => ?_)
   ·
    refine aA (bO rfl ?_)
    refine bT rfl rfl (by decide) rfl rfl (by exact Nat.le_of_ble_eq_true rfl) ?_
    refine bT rfl rfl (by decide) rfl rfl (by exact Nat.le_of_ble_eq_true rfl) ?_
    refine aK rfl rfl rfl rfl rfl (by decide) ?_
    refine aP rfl rfl (by decide) rfl rfl rfl ?_
    refine aK rfl rfl rfl rfl rfl (by decide) ?_
    refine aP rfl rfl (by decide) rfl rfl rfl ?_
    refine dV [49, 175, 40, 180] (gV (d.yd (d.ms i.1).1.1) (d.am (d.ms i.1).1.2) (oH hd hi hP) (d.src (d.ms i.1).2) (d.day i.1) (zg hd hc4 b1).1 (zg hd hc4 b1).2) rfl (aL (gk (aL (af (bF rfl rfl)) (aL (af (fI rfl)) (aL (af (fI rfl)) (aL (af oX) bX))))) (aL (gk (aL (af (fI rfl)) (aL (af (fI rfl)) bX))) (aL (af (bF rfl rfl)) (aL (af (bF rfl rfl)) bX)))) (by exact dG _ _) ?_
    refine td rfl rfl (cF rfl (aD (fJ ?_)))
    (refine c9.mk' ?_ ?_ <;> (repeat' (first | exact aH | exact aI | refine aB ?_ (Ty.aW _) | refine aB ?_ (Ty.aF _) | refine aG rfl (Cont.aF _) ?_ | refine aB ?_ ?_)))
    all_goals exact Ty.ah (LF hc4)
   refine aj (fJ ?_)
   (refine c9.mk' ?_ ?_ <;> (repeat' (first | exact aH | exact aI | refine aB ?_ (Ty.aW _) | refine aB ?_ (Ty.aF _) | refine aG rfl (Cont.aF _) ?_ | refine aB ?_ ?_)))
   all_goals exact Ty.ah (Lb hc4)
  refine j9 (J := live [(0, Ty.ptr 1000 0), (4, Ty.int .i64 d.levels), (10, Ty.ptr 11 0), (11, Ty.ptr 12 0), (12, Ty.ptr 13 0), (13, Ty.ptr 14 0), (15, Ty.int .i64 (d.many : Nat)), (56, Ty.int .i64 (d.many : Nat)), (57, Ty.int .i64 (i.1 : Nat)), (17, Ty.ptr 18 0), (18, Ty.int .i64 (mY (d.yd (d.ms i.1).1.1) (d.am (d.ms i.1).1.2) (d.mv (d.ms i.1).2 i.1) (kr (d.yd (d.ms i.1).1.1) (d.am (d.ms i.1).1.2) (d.mv (d.ms i.1).2 i.1) (bf (d.pL (d.ms i.1).2) 40))))] [(11, Cont.cells 27 [Ty.int .i64 0, Ty.ex (.slice none 0 0), Ty.ex (.slice none 0 0), Ty.ex (.slice none 0 0)]), (12, Cont.cells 30 [Ty.ex (.slice none 0 0), Ty.ex (.slice none 0 0)]), (13, Cont.cells 27 [Ty.int .i64 d.D, Ty.row eG 39 49 d.gK, Ty.row dN 41 175 (d.ms i.1).1.1, Ty.ex (.slice none 0 0)]), (14, Cont.cells 30 [Ty.row cj 3 40 d.first, Ty.row cj 3 180 (d.ms i.1).1.2]), (18, Cont.cells 41 [Ty.int .i64 (d.day i.1), Ty.int .i64 (d.src (d.ms i.1).2), Ty.int .i64 (d.dst (d.ms i.1).2), Ty.int .i64 0, Ty.int .i64 0]), (1000, Cont.cells 149 (dK (aZ (d.pL (d.ms i.1).2))))]) ?_ ?_
  ·
   refine aE (aA ?_)
   refine aK rfl rfl rfl rfl rfl (by decide) ?_
   refine aP rfl rfl (by decide) rfl rfl rfl ?_
   refine bD rfl rfl rfl (aD (aC ?_))
   refine dL rfl (fun hc5 => ?_) (fun hc5 => ?_)
   ·
    have hq := hCI (d.dst (d.ms i.1).2) (d.day i.1 + 1) (zK hd hc5 b1).1 (zK hd hc5 b1).2
    refine aA (bO rfl ?_)
    refine bT rfl rfl (by decide) rfl rfl (by exact Nat.le_of_ble_eq_true rfl) ?_
    refine bT rfl rfl (by decide) rfl rfl (by exact Nat.le_of_ble_eq_true rfl) ?_
    refine aK rfl rfl rfl rfl rfl (by decide) ?_
    refine aP rfl rfl (by decide) rfl rfl rfl ?_
    refine aK rfl rfl rfl rfl rfl (by decide) ?_
    refine aP rfl rfl (by decide) rfl rfl rfl ?_
    refine bg rfl rfl (by omega) (by omega) ?_
    refine dV [49, 175, 40, 180] (gV (d.yd (d.ms i.1).1.1) (d.am (d.ms i.1).1.2) (oH hd hi hP) (d.dst (d.ms i.1).2) (d.day i.1 + 1) (zK hd hc5 b1).1 (zK hd hc5 b1).2) rfl (aL (gk (aL (af (bF rfl rfl)) (aL (af (fI rfl)) (aL (af (fI rfl)) (aL (af oX) bX))))) (aL (gk (aL (af (fI rfl)) (aL (af (fI rfl)) bX))) (aL (af (bF rfl rfl)) (aL (af (bF rfl rfl)) bX)))) (by exact dG _ _) ?_
    refine fU rfl rfl (by omega) (by omega) ?_
    refine td rfl rfl (cF rfl (aD (fJ ?_)))
    (refine c9.mk' ?_ ?_ <;> (repeat' (first | exact aH | exact aI | refine aB ?_ (Ty.aW _) | refine aB ?_ (Ty.aF _) | refine aG rfl (Cont.aF _) ?_ | refine aB ?_ ?_)))
    all_goals exact Ty.ah (KP hc5)
   refine aj (fJ ?_)
   (refine c9.mk' ?_ ?_ <;> (repeat' (first | exact aH | exact aI | refine aB ?_ (Ty.aW _) | refine aB ?_ (Ty.aF _) | refine aG rfl (Cont.aF _) ?_ | refine aB ?_ ?_)))
   all_goals exact Ty.ah (LZ hc5)
  refine aE (aE (aA ?_))
  refine aK rfl rfl rfl rfl rfl (by decide) ?_
  refine aP rfl rfl (by decide) rfl rfl rfl ?_
  refine mJ rfl rfl rfl (bO rfl (aD (aC (ak ?_))))
  refine cV (fun (k : {k : Nat // k ≤ (d.ms i.1).1.1.length}) => live [(0, Ty.ptr 1000 0), (4, Ty.int .i64 d.levels), (10, Ty.ptr 11 0), (11, Ty.ptr 12 0), (12, Ty.ptr 13 0), (13, Ty.ptr 14 0), (15, Ty.int .i64 (d.many : Nat)), (56, Ty.int .i64 (d.many : Nat)), (57, Ty.int .i64 (i.1 : Nat)), (17, Ty.ptr 18 0), (18, Ty.int .i64 (lV (d.yd (d.ms i.1).1.1) (d.am (d.ms i.1).1.2) (d.mv (d.ms i.1).2 i.1) (mY (d.yd (d.ms i.1).1.1) (d.am (d.ms i.1).1.2) (d.mv (d.ms i.1).2 i.1) (kr (d.yd (d.ms i.1).1.1) (d.am (d.ms i.1).1.2) (d.mv (d.ms i.1).2 i.1) (bf (d.pL (d.ms i.1).2) 40))) k.1)), (120, Ty.row dN 41 175 (d.ms i.1).1.1), (121, Ty.int .i64 (d.ms i.1).1.1.length), (122, Ty.int .i64 (k.1 : Nat))] [(11, Cont.cells 27 [Ty.int .i64 0, Ty.ex (.slice none 0 0), Ty.ex (.slice none 0 0), Ty.ex (.slice none 0 0)]), (12, Cont.cells 30 [Ty.ex (.slice none 0 0), Ty.ex (.slice none 0 0)]), (13, Cont.cells 27 [Ty.int .i64 d.D, Ty.row eG 39 49 d.gK, Ty.row dN 41 175 (d.ms i.1).1.1, Ty.ex (.slice none 0 0)]), (14, Cont.cells 30 [Ty.row cj 3 40 d.first, Ty.row cj 3 180 (d.ms i.1).1.2]), (18, Cont.cells 41 [Ty.int .i64 (d.day i.1), Ty.int .i64 (d.src (d.ms i.1).2), Ty.int .i64 (d.dst (d.ms i.1).2), Ty.int .i64 0, Ty.int .i64 0]), (1000, Cont.cells 149 (dK (aZ (d.pL (d.ms i.1).2))))]) (fun k => (d.ms i.1).1.1.length - k.1) (⟨0, by omega⟩) ?_ fun k => ?_
  ·(refine c9.mk' ?_ ?_ <;> (repeat' (first | exact aH | exact aI | refine aB ?_ (Ty.aW _) | refine aB ?_ (Ty.aF _) | refine aG rfl (Cont.aF _) ?_ | refine aB ?_ ?_)))
   all_goals exact Ty.ah Mk
  have hk := k.2
  refine aE (aA (bD rfl rfl rfl (aD (aC (aE ?_)))))
  refine av rfl (fun hc6 => ?_) (fun hc6 => ?_)
  ·
   refine aj (aC (aE (ak (aE (aA (bO rfl ?_))))))
   refine qZ rfl rfl rfl rfl rfl rfl (by omega) ?_
   refine B9 rfl rfl rfl (by exact Nat.le_of_ble_eq_true rfl) ?_
   refine bz rfl (by exact List.cons_ne_nil _ _) rfl ?_
   refine cF rfl ?_
   refine bu rfl rfl (by decide) rfl rfl rfl rfl rfl rfl ?_
   refine aD (aC (aE (aA ?_)))
   refine aK rfl rfl rfl rfl rfl (by decide) ?_
   refine aP rfl rfl (by decide) rfl rfl rfl ?_
   refine aK rfl rfl rfl rfl rfl (by decide) ?_
   refine aP rfl rfl (by decide) rfl rfl rfl ?_
   refine bD rfl rfl rfl (gO rfl ?_)
   apply aT (s := 132) rfl rfl rfl
   ·intro hg; apply aU; (refine aK rfl rfl rfl rfl rfl (by decide) ?_); refine aD ?_; exact rfl
   ·exact rfl
   ·exact rfl
   apply aT (s := 132) rfl rfl rfl
   ·intro hg; apply aN (s := 133) rfl (by (rw [hg]; rfl)); apply aU; (refine aP rfl rfl (by decide) rfl rfl rfl ?_); refine aD ?_; exact rfl
   ·exact rfl
   ·exact rfl
   apply aT (s := 132) rfl rfl rfl
   ·intro hg; apply aU; (refine aK rfl rfl rfl rfl rfl (by decide) ?_); refine aD ?_; exact rfl
   ·exact rfl
   ·exact rfl
   apply aT (s := 132) rfl rfl rfl
   ·intro hg; apply aN (s := 135) rfl (by (rw [hg]; rfl)); apply aU; (refine aP rfl rfl (by decide) rfl rfl rfl ?_); refine aD ?_; exact rfl
   ·exact rfl
   ·exact rfl
   apply aT (s := 132) rfl rfl rfl
   ·intro hg; apply aN (s := 134) rfl (by (rw [hg]; rfl)); apply aN (s := 136) rfl (by (rw [hg]; rfl)); apply aU; (refine bD rfl rfl rfl ?_); refine aD ?_; exact rfl
   ·exact rfl
   ·exact rfl
   refine eL rfl rfl (gO rfl ?_)
   apply aT (s := 139) rfl rfl rfl
   ·intro hg; apply aU; (refine aK rfl rfl rfl rfl rfl (by decide) ?_); refine aD ?_; exact rfl
   ·exact rfl
   ·exact rfl
   apply aT (s := 139) rfl rfl rfl
   ·intro hg; apply aN (s := 140) rfl (by (rw [hg]; rfl)); apply aU; (refine aP rfl rfl (by decide) rfl rfl rfl ?_); refine aD ?_; exact rfl
   ·exact rfl
   ·exact rfl
   apply aT (s := 139) rfl rfl rfl
   ·intro hg; apply aN (s := 141) rfl (by (rw [hg]; rfl)); apply aU; (refine bD rfl rfl rfl ?_); refine aD ?_; exact rfl
   ·exact rfl
   ·exact rfl
   refine eL rfl rfl (aD (aC ?_))
   refine cW rfl (fun hc7 => ?_) (fun hc7 => ?_)
   ·
    have hsr := zg hd (LN (y := (d.yd (d.ms i.1).1.1)) (m := (d.mv (d.ms i.1).2 i.1)) hc7) b1
    have hq := hCI (d.src (d.ms i.1).2) (d.day i.1) hsr.1 hsr.2
    have hmk := hP.num _ (cM (show k.1 < (d.ms i.1).1.2.length by omega))
    refine cN mixed rfl (bO rfl ?_)
    refine bT rfl rfl (by decide) rfl rfl (by exact Nat.le_of_ble_eq_true rfl) ?_
    refine bT rfl rfl (by decide) rfl rfl (by exact Nat.le_of_ble_eq_true rfl) ?_
    refine aK rfl rfl rfl rfl rfl (by decide) ?_
    refine aP rfl rfl (by decide) rfl rfl rfl ?_
    refine aK rfl rfl rfl rfl rfl (by decide) ?_
    refine aP rfl rfl (by decide) rfl rfl rfl ?_
    refine dV [49, 175, 40, 180] (gV (d.yd (d.ms i.1).1.1) (d.am (d.ms i.1).1.2) (oH hd hi hP) (d.src (d.ms i.1).2) (d.day i.1) hsr.1 hsr.2) rfl (aL (gk (aL (af (bF rfl rfl)) (aL (af (fI rfl)) (aL (af (fI rfl)) (aL (af oX) bX))))) (aL (gk (aL (af (fI rfl)) (aL (af (fI rfl)) bX))) (aL (af (bF rfl rfl)) (aL (af (bF rfl rfl)) bX)))) (by exact dG _ _) ?_
    refine aK rfl rfl rfl rfl rfl (by decide) ?_
    refine aP rfl rfl (by decide) rfl rfl rfl ?_
    refine bO rfl ?_
    refine qZ rfl rfl rfl rfl rfl rfl (by omega) ?_
    refine xO rfl rfl rfl rfl ?_
    refine fU rfl rfl (by omega) (by omega) ?_
    refine td rfl rfl (cF rfl (aD ?_))
    refine ⟨by kernel_rfl, ?_⟩
    refine bQ (aC (aA ?_))
    refine bg rfl rfl (by omega) (by omega) ?_
    refine bO rfl (aD ?_)
    refine bV (⟨k.1 + 1, by omega⟩) ?_ (by show (d.ms i.1).1.1.length - (k.1 + 1) < (d.ms i.1).1.1.length - k.1; omega)
    (refine c9.mk' ?_ ?_ <;> (repeat' (first | exact aH | exact aI | refine aB ?_ (Ty.aW _) | refine aB ?_ (Ty.aF _) | refine aG rfl (Cont.aF _) ?_ | refine aB ?_ ?_)))
    all_goals skip
    all_goals exact Ty.ah (K7 (y := (d.yd (d.ms i.1).1.1)) (a := (d.am (d.ms i.1).1.2)) (m := (d.mv (d.ms i.1).2 i.1)) hc7)
   refine aj (bQ (aC (aA ?_)))
   refine bg rfl rfl (by omega) (by omega) ?_
   refine bO rfl (aD ?_)
   refine bV (⟨k.1 + 1, by omega⟩) ?_ (by show (d.ms i.1).1.1.length - (k.1 + 1) < (d.ms i.1).1.1.length - k.1; omega)
   (refine c9.mk' ?_ ?_ <;> (repeat' (first | exact aH | exact aI | refine aB ?_ (Ty.aW _) | refine aB ?_ (Ty.aF _) | refine aG rfl (Cont.aF _) ?_ | refine aB ?_ ?_)))
   all_goals skip
   all_goals exact Ty.ah (L5 (y := (d.yd (d.ms i.1).1.1)) (a := (d.am (d.ms i.1).1.2)) (m := (d.mv (d.ms i.1).2 i.1)) hc7)
  refine cQ (aR (aR (au rfl (aC (aE ?_)))))
  obtain ⟨k, hk⟩ := k
  obtain rfl : k = (d.ms i.1).1.1.length := by have h1 : ¬ (k : Int) < ((d.ms i.1).1.1.length : Int) := hc6; have h2 : k ≤ (d.ms i.1).1.1.length := hk; omega
  refine eS (B := live [(0, Ty.ptr 1000 0), (4, Ty.int .i64 d.levels), (10, Ty.ptr 11 0), (11, Ty.ptr 12 0), (12, Ty.ptr 13 0), (13, Ty.ptr 14 0), (15, Ty.int .i64 (d.many : Nat)), (56, Ty.int .i64 (d.many : Nat)), (57, Ty.int .i64 (i.1 : Nat)), (17, Ty.ptr 18 0), (18, Ty.int .i64 (lV (d.yd (d.ms i.1).1.1) (d.am (d.ms i.1).1.2) (d.mv (d.ms i.1).2 i.1) (mY (d.yd (d.ms i.1).1.1) (d.am (d.ms i.1).1.2) (d.mv (d.ms i.1).2 i.1) (kr (d.yd (d.ms i.1).1.1) (d.am (d.ms i.1).1.2) (d.mv (d.ms i.1).2 i.1) (bf (d.pL (d.ms i.1).2) 40))) (d.yd (d.ms i.1).1.1).moves.length))] [(11, Cont.cells 27 [Ty.int .i64 0, Ty.ex (.slice none 0 0), Ty.ex (.slice none 0 0), Ty.ex (.slice none 0 0)]), (12, Cont.cells 30 [Ty.ex (.slice none 0 0), Ty.ex (.slice none 0 0)]), (13, Cont.cells 27 [Ty.int .i64 d.D, Ty.row eG 39 49 d.gK, Ty.row dN 41 175 (d.ms i.1).1.1, Ty.ex (.slice none 0 0)]), (14, Cont.cells 30 [Ty.row cj 3 40 d.first, Ty.row cj 3 180 (d.ms i.1).1.2]), (18, Cont.cells 41 [Ty.int .i64 (d.day i.1), Ty.int .i64 (d.src (d.ms i.1).2), Ty.int .i64 (d.dst (d.ms i.1).2), Ty.int .i64 0, Ty.int .i64 0]), (1000, Cont.cells 149 (dK (aZ (d.pL (d.ms i.1).2))))]) ?_ ?_
  ·(refine c9.mk' ?_ ?_ <;> (repeat' (first | exact aH | exact aI | refine aB ?_ (Ty.aW _) | refine aB ?_ (Ty.aF _) | refine aG rfl (Cont.aF _) ?_)))
  refine aA (bO rfl ?_)
  refine bT rfl rfl (by decide) rfl rfl (by exact Nat.le_of_ble_eq_true rfl) ?_
  refine bT rfl rfl (by decide) rfl rfl (by exact Nat.le_of_ble_eq_true rfl) ?_
  refine bT rfl rfl (by decide) rfl rfl (by exact Nat.le_of_ble_eq_true rfl) ?_
  refine dV [49, 175, 40, 180] (JH (d.yd (d.ms i.1).1.1) (d.am (d.ms i.1).1.2) (oH hd hi hP) (d.mv (d.ms i.1).2 i.1) (by show -1000000 ≤ d.day i.1 ∧ d.day i.1 ≤ 1000000; omega) (fun g => zg hd g b1)) rfl (aL (gk (aL (af (bF rfl rfl)) (aL (af (fI rfl)) (aL (af (fI rfl)) (aL (af oX) bX))))) (aL (gk (aL (af (fI rfl)) (aL (af (fI rfl)) bX))) (aL (af (bF rfl rfl)) bX))) (by exact dG _ _) ?_
  refine td rfl rfl (tJ rfl rfl (cF rfl (aD (aC (aE ?_)))))
  have hnm := d.FN hd hP
  refine gl (s := 18) rfl (Ty.ah (num_eq d (d.ms i.1) i.1)) ?_
  refine eS (B := live [(0, Ty.ptr 1000 0), (4, Ty.int .i64 d.levels), (10, Ty.ptr 11 0), (11, Ty.ptr 12 0), (12, Ty.ptr 13 0), (13, Ty.ptr 14 0), (15, Ty.int .i64 (d.many : Nat)), (56, Ty.int .i64 (d.many : Nat)), (57, Ty.int .i64 (i.1 : Nat)), (17, Ty.ptr 18 0), (18, Ty.int .i64 (d.num (d.ms i.1) i.1))] [(11, Cont.cells 27 [Ty.int .i64 0, Ty.ex (.slice none 0 0), Ty.ex (.slice none 0 0), Ty.ex (.slice none 0 0)]), (12, Cont.cells 30 [Ty.ex (.slice none 0 0), Ty.ex (.slice none 0 0)]), (13, Cont.cells 27 [Ty.int .i64 d.D, Ty.row eG 39 49 d.gK, Ty.row dN 41 175 (d.ms i.1).1.1, Ty.ex (.slice none 0 0)]), (14, Cont.cells 30 [Ty.row cj 3 40 d.first, Ty.row cj 3 180 (d.ms i.1).1.2]), (18, Cont.cells 41 [Ty.int .i64 (d.day i.1), Ty.int .i64 (d.src (d.ms i.1).2), Ty.int .i64 (d.dst (d.ms i.1).2), Ty.int .i64 0, Ty.int .i64 0]), (1000, Cont.cells 149 (dK (aZ (d.pL (d.ms i.1).2))))]) ?_ ?_
  ·(refine c9.mk' ?_ ?_ <;> (repeat' (first | exact aH | exact aI | refine aB ?_ (Ty.aW _) | refine aB ?_ (Ty.aF _) | refine aG rfl (Cont.aF _) ?_)))
  refine aA (qH rfl (bO rfl ?_))
  refine cD [(1000, 1000)] [] [(1000, Cont.cells 149 (dK (aZ (aZ (aZ (d.pL (d.ms i.1).2))))))] (CD (aZ (d.pL (d.ms i.1).2)) ⟨by omega, by omega⟩ (d.num (d.ms i.1) i.1) 15 (by omega) (by omega)) rfl rfl (by repeat (first | exact bK | refine aJ ?_ ?_ | exact dr List.mem_cons_self | exact aO rfl rfl)) (cC (a := 1000) (b := 1000) (by exact List.mem_cons_self) rfl (bH (by exact List.mem_cons_self) rfl rfl rfl) pre_nil) (bL (a := 1000) (b := 1000) (by exact List.mem_cons_self) rfl (bH (by exact List.mem_cons_self) rfl rfl rfl) post_nil) (aO rfl rfl) ?_
  refine aK rfl rfl rfl rfl rfl (by decide) ?_
  refine xe (lr := dN.tys (d.full (d.ms i.1) i.1)) rfl rfl (by decide) rfl rfl rfl (by exact Nat.le_of_ble_eq_true rfl) rfl rfl rfl ?_
  refine aD (aC ?_)
  refine eS (B := live [(0, Ty.ptr 1000 0), (4, Ty.int .i64 d.levels), (10, Ty.ptr 11 0), (11, Ty.ptr 12 0), (12, Ty.ptr 13 0), (13, Ty.ptr 14 0), (15, Ty.int .i64 (d.many : Nat)), (56, Ty.int .i64 (d.many : Nat)), (57, Ty.int .i64 (i.1 : Nat)), (17, Ty.ptr 18 0), (18, Ty.int .i64 (d.num (d.ms i.1) i.1))] [(11, Cont.cells 27 [Ty.int .i64 0, Ty.ex (.slice none 0 0), Ty.ex (.slice none 0 0), Ty.ex (.slice none 0 0)]), (12, Cont.cells 30 [Ty.ex (.slice none 0 0), Ty.ex (.slice none 0 0)]), (13, Cont.cells 27 [Ty.int .i64 d.D, Ty.row eG 39 49 d.gK, Ty.row dN 41 175 (d.ms i.1).1.1, Ty.ex (.slice none 0 0)]), (14, Cont.cells 30 [Ty.row cj 3 40 d.first, Ty.row cj 3 180 (d.ms i.1).1.2]), (18, Cont.cells 41 (dN.tys (d.full (d.ms i.1) i.1))), (1000, Cont.cells 149 (dK (aZ (aZ (aZ (d.pL (d.ms i.1).2))))))]) ?_ ?_
  ·(refine c9.mk' ?_ ?_ <;> (repeat' (first | exact aH | exact aI | refine aB ?_ (Ty.aW _) | refine aB ?_ (Ty.aF _) | refine aG rfl (Cont.aF _) ?_)))
  refine cN mixed rfl ?_
  refine aK rfl rfl rfl rfl rfl (by decide) ?_
  refine aP rfl rfl (by decide) rfl rfl rfl ?_
  refine bT rfl rfl (by decide) rfl rfl (by exact Nat.le_of_ble_eq_true rfl) ?_
  refine bp (E := dN) (xs := [d.full (d.ms i.1) i.1]) rfl rfl rfl rfl rfl (by decide) (by decide) (by repeat (first | exact (aY.nil : aY _ _ [] _) | (show aY _ _ ((_, _) :: _) _; apply aY.agg; (· exact (rfl : _ = Ty.agg _))))) (by exact rfl) rfl ?_
  refine fO rfl rfl (by decide) rfl rfl rfl rfl rfl rfl (by decide) (by (simp <;> omega)) (by (simp <;> omega)) ?_
  refine aK rfl rfl rfl rfl rfl (by decide) ?_
  refine aP rfl rfl (by decide) rfl rfl rfl ?_
  refine bO rfl ?_
  refine bp (E := cj) (xs := [d.num (d.ms i.1) i.1]) rfl rfl rfl rfl rfl (by decide) (by decide) (by repeat (first | exact (aY.nil : aY _ _ [] _) | (show aY _ _ ((_, _) :: _) _; apply aY.one; (· exact (rfl : _ = Ty.int _ _)); (· exact rfl)))) (by exact rfl) rfl ?_
  refine fO rfl rfl (by decide) rfl rfl rfl rfl rfl rfl (by decide) (by (simp <;> omega)) (by (simp <;> omega)) ?_
  refine aK rfl rfl rfl rfl rfl (by decide) ?_
  refine cZ rfl rfl (by decide) rfl rfl (by exact (rfl : _ = Ty.row _ _ _ _)) rfl (by exact Nat.le_of_ble_eq_true rfl) rfl rfl (by exact rfl) ?_
  refine aK rfl rfl rfl rfl rfl (by decide) ?_
  refine cZ rfl rfl (by decide) rfl rfl (by exact (rfl : _ = Ty.row _ _ _ _)) rfl (by exact Nat.le_of_ble_eq_true rfl) rfl rfl (by exact rfl) ?_
  refine aD ?_
  refine ⟨by kernel_rfl, ?_⟩
  refine bQ (aC (aA ?_))
  refine bg rfl rfl (by omega) (by omega) ?_
  refine bO rfl (aD ?_)
  refine bV (⟨i.1 + 1, by omega⟩) ?_ (by show d.many - (i.1 + 1) < d.many - i.1; omega)
  (refine c9.mk' ?_ ?_ <;> (repeat' (first | exact aH | exact aI | exact c7 | refine aB ?_ (Ty.aW _) | refine aB ?_ (Ty.aF _) | refine aG rfl (Cont.aF _) ?_ | refine aG rfl (Cont.c6 ?_) ?_ | refine bS ?_ (Ty.aF _) | refine bS ?_ ?_)))
  all_goals skip
  all_goals first | exact Ty.ah (congrArg (fun p => p.2.mixed) (Fk d _)) | exact Ty.ah (congrArg (fun p => p.2.taken) (Fk d _)) | exact Ty.fG (congrArg (fun p => p.2.grain) (Fk d _)) | exact Ty.fS (congrArg (fun p => p.1.1) (Fk d _)) | exact Ty.fS (congrArg (fun p => p.1.2) (Fk d _))
 refine cQ (aR (aR (au rfl (aC (aE (aE ?_))))))
 obtain ⟨i, hi⟩ := i
 obtain rfl : i = d.many := by have h1 : ¬ (i : Int) < (d.many : Int) := hc2; have h2 : i ≤ d.many := hi; omega
 have hP := d.pU hd d.many (Nat.le_refl _)
 have e3 := hP.taken
 refine gL (tg := 13) rfl (Cont.eM (l' := [Ty.int .i64 d.D, Ty.row eG 39 49 d.gK, Ty.row dN 41 175 d.fF, Ty.ex (.slice none 0 0)]) ⟨Ty.aF _, Ty.aF _, Ty.fS (by unfold Md.fF; rfl), Ty.aF _, trivial⟩) ?_
 refine gL (tg := 14) rfl (Cont.eM (l' := [Ty.row cj 3 40 d.first, Ty.row cj 3 180 d.b8]) ⟨Ty.aF _, Ty.fS (by unfold Md.b8; rfl), trivial⟩) ?_
 refine k6 (tg := 175) [] [(13, Cont.cells 27 [Ty.int .i64 d.D, Ty.row eG 39 49 d.gK, Ty.sl dN d.fF, Ty.ex (.slice none 0 0)])] (by decide) rfl trivial ⟨fP rfl rfl ⟨bY rfl, bY rfl, o7, bY rfl, trivial⟩, trivial⟩ ?_
 refine k6 (tg := 40) [] [(14, Cont.cells 30 [Ty.sl cj d.first, Ty.row cj 3 180 d.b8])] (by decide) rfl trivial ⟨fP rfl rfl ⟨o7, bY rfl, trivial⟩, trivial⟩ ?_
 refine k6 (tg := 180) [] [(14, Cont.cells 30 [Ty.sl cj d.first, Ty.sl cj d.b8])] (by decide) rfl trivial ⟨fP rfl rfl ⟨bY rfl, o7, trivial⟩, trivial⟩ ?_
 refine kU (c0 := 13) 1 rfl rfl ?_
 refine gL (tg := 13) rfl (Cont.eM (l' := [Ty.int .i64 d.D, Ty.vs 49 d.nb, Ty.sl dN d.fF, Ty.ex (.slice none 0 0)]) ⟨Ty.aF _, IW b2, Ty.aF _, Ty.aF _, trivial⟩) ?_
 refine eS (B := live [(0, Ty.ptr 1000 0), (4, Ty.int .i64 d.levels), (10, Ty.ptr 11 0), (11, Ty.ptr 12 0), (12, Ty.ptr 13 0), (13, Ty.ptr 14 0)] [(11, Cont.cells 27 [Ty.int .i64 0, Ty.ex (.slice none 0 0), Ty.ex (.slice none 0 0), Ty.ex (.slice none 0 0)]), (12, Cont.cells 30 [Ty.ex (.slice none 0 0), Ty.ex (.slice none 0 0)]), (13, Cont.cells 27 [Ty.int .i64 d.D, Ty.vs 49 d.nb, Ty.sl dN d.fF, Ty.ex (.slice none 0 0)]), (14, Cont.cells 30 [Ty.sl cj d.first, Ty.sl cj d.b8]), (49, Cont.vec eG 39 d.gK), (1000, Cont.cells 149 (dK (d.ms d.many).2))]) ?_ ?_
 ·(refine c9.mk' ?_ ?_ <;> (repeat' (first | exact aH | exact aI | refine aB ?_ (Ty.aW _) | refine aB ?_ (Ty.aF _) | refine aG rfl (Cont.aF _) ?_)))
 refine aA ?_
 refine aK rfl rfl rfl rfl rfl (by decide) ?_
 refine aP rfl rfl (by decide) rfl rfl rfl ?_
 refine va rfl rfl rfl (bO rfl (aD (aC (ak ?_))))
 refine cV (fun (k : {k : Nat // k ≤ d.nb}) => live [(0, Ty.ptr 1000 0), (4, Ty.int .i64 d.levels), (10, Ty.ptr 11 0), (11, Ty.ptr 12 0), (12, Ty.ptr 13 0), (13, Ty.ptr 14 0), (186, Ty.int .i64 (d.nb : Nat)), (187, Ty.int .i64 (k.1 : Nat))] [(11, Cont.cells 27 [Ty.int .i64 0, Ty.ex (.slice none 0 0), Ty.ex (.slice none 0 0), Ty.ex (.slice none 0 0)]), (12, Cont.cells 30 [Ty.ex (.slice none 0 0), Ty.ex (.slice none 0 0)]), (13, Cont.cells 27 [Ty.int .i64 d.D, Ty.vs 49 d.nb, Ty.sl dN d.fF, Ty.ex (.slice none 0 0)]), (14, Cont.cells 30 [Ty.sl cj d.first, Ty.sl cj d.b8]), (49, Cont.vec eG 39 (d.hs k.1).1), (1000, Cont.cells 149 (dK (d.hs k.1).2))]) (fun k => d.nb - k.1) (⟨0, by omega⟩) ?_ fun k => ?_
 ·(refine c9.mk' ?_ ?_ <;> (repeat' (first | exact aH | exact aI | exact c7 | refine aB ?_ (Ty.aW _) | refine aB ?_ (Ty.aF _) | refine aG rfl (Cont.aF _) ?_ | refine aG rfl (Cont.c6 ?_) ?_ | refine bS ?_ ?_ | refine aG rfl ?_ ?_)))
  all_goals first | exact Cont.dR (congrArg Prod.fst (IX d)) | exact Ty.ah (congrArg (fun p => p.2.mixed) (IX d)) | exact Ty.ah (congrArg (fun p => p.2.taken) (IX d)) | exact Ty.fG (congrArg (fun p => p.2.grain) (IX d))
 have hk := k.2
 have H := d.xT k.1 hk
 have g1 := H.len
 have g2 := H.taken
 have g3 := cq (d.hs k.1).2 30
 have g4 := (d.uX k.1 (d.D + 1).toNat)
 have g40 := g4.1
 refine aE (aA (bD rfl rfl rfl (aD (aC (aE ?_)))))
 refine av rfl (fun hc8 => ?_) (fun hc8 => ?_)
 ·
  refine aj (aC (aE (ak (aE (aA (bO rfl (cF rfl (aD (aC ?_)))))))))
  refine aE (aA (cF rfl (aD (aC (aE (aE (aA ?_)))))))
  refine aK rfl rfl rfl rfl rfl (by decide) ?_
  refine aP rfl rfl (by decide) rfl rfl rfl ?_
  refine bg rfl rfl (by omega) (by omega) ?_
  refine bO rfl (aD (aC (ak ?_)))
  refine cV (fun (t : {t : Nat // t ≤ (d.D + 1).toNat}) => live [(0, Ty.ptr 1000 0), (4, Ty.int .i64 d.levels), (10, Ty.ptr 11 0), (11, Ty.ptr 12 0), (12, Ty.ptr 13 0), (13, Ty.ptr 14 0), (21, Ty.int .i64 (k.1 : Nat)), (22, Ty.int .i64 (d.most k.1 t.1)), (186, Ty.int .i64 (d.nb : Nat)), (187, Ty.int .i64 (k.1 : Nat)), (192, Ty.int .i64 (d.D + 1)), (193, Ty.int .i64 (t.1 : Nat))] [(11, Cont.cells 27 [Ty.int .i64 0, Ty.ex (.slice none 0 0), Ty.ex (.slice none 0 0), Ty.ex (.slice none 0 0)]), (12, Cont.cells 30 [Ty.ex (.slice none 0 0), Ty.ex (.slice none 0 0)]), (13, Cont.cells 27 [Ty.int .i64 d.D, Ty.vs 49 d.nb, Ty.sl dN d.fF, Ty.ex (.slice none 0 0)]), (14, Cont.cells 30 [Ty.sl cj d.first, Ty.sl cj d.b8]), (49, Cont.vec eG 39 (d.hs k.1).1), (1000, Cont.cells 149 (dK (d.hs k.1).2))]) (fun t => (d.D + 1).toNat - t.1) (⟨0, by omega⟩) ?_ fun t => ?_
  ·(refine c9.mk' ?_ ?_ <;> (repeat' (first | exact aH | exact aI | refine aB ?_ (Ty.aW _) | refine aB ?_ (Ty.aF _) | refine aG rfl (Cont.aF _) ?_ | refine aB ?_ ?_)))
   all_goals exact Ty.ah (Kl d _)
  have ht := t.2
  refine aE (aA (bD rfl rfl rfl (aD (aC (aE ?_)))))
  refine av rfl (fun hc9 => ?_) (fun hc9 => ?_)
  ·
   refine aj (aC (aE (ak (aE (aA (bO rfl (cF rfl (aD (aC ?_)))))))))
   refine aA (bO rfl ?_)
   refine bT rfl rfl (by decide) rfl rfl (by exact Nat.le_of_ble_eq_true rfl) ?_
   refine bT rfl rfl (by decide) rfl rfl (by exact Nat.le_of_ble_eq_true rfl) ?_
   refine bO rfl (bO rfl ?_)
   refine dV [49] (gV ⟨d.D, (d.hs k.1).1, d.fF, []⟩ d.real (ur hd) ((k.1 : Nat) : Int) ((t.1 : Nat) : Int) (Int.natCast_nonneg _) (by show ((k.1 : Nat) : Int).toNat < d.first.length; omega)) rfl (aL (gk (aL (af (bF rfl rfl)) (aL (iL rfl g1 (by decide) rfl) (aL (af (bF rfl rfl)) (aL (af oX) bX))))) (aL (af (bF rfl rfl)) (aL (af (bF rfl rfl)) (aL (af (bF rfl rfl)) bX)))) (by exact dG _ _) ?_
   refine tJ rfl rfl (cF rfl (aD (bQ (aC (aA ?_)))))
   refine bg rfl rfl (by omega) (by omega) ?_
   refine bO rfl (aD ?_)
   refine bV (⟨t.1 + 1, by omega⟩) ?_ (by show (d.D + 1).toNat - (t.1 + 1) < (d.D + 1).toNat - t.1; omega)
   (refine c9.mk' ?_ ?_ <;> (repeat' (first | exact aH | exact aI | refine aB ?_ (Ty.aW _) | refine aB ?_ (Ty.aF _) | refine aG rfl (Cont.aF _) ?_ | refine aB ?_ ?_)))
   all_goals skip
   all_goals exact Ty.ah (LI d _ _)
  refine cQ (aR (aR (au rfl (aC ?_))))
  obtain ⟨t, ht⟩ := t
  obtain rfl : t = (d.D + 1).toNat := by have h1 : ¬ (t : Int) < d.D + 1 := hc9; have h2 : t ≤ (d.D + 1).toNat := ht; omega
  refine gl (s := 22) rfl (Ty.ah (show d.most k.1 (d.D + 1).toNat = d.most k.1 (d.D + 1).toNat from rfl)) ?_
  have g5 := g4.2.2 fun t => (d.uh hd k.1 t (by omega)).2
  refine cN mixed rfl ?_
  refine aK rfl rfl rfl rfl rfl (by decide) ?_
  refine aP rfl rfl (by decide) rfl rfl rfl ?_
  refine bO rfl (bO rfl (qH rfl ?_))
  refine cD [(1000, 1000)] [] [(1000, Cont.cells 149 (dK (aZ (d.hs k.1).2)))] (jE (d.hs k.1).2 ⟨by omega, by omega⟩ 30) rfl rfl (by repeat (first | exact bK | refine aJ ?_ ?_ | exact dr List.mem_cons_self | exact aO rfl rfl)) (cC (a := 1000) (b := 1000) (by exact List.mem_cons_self) rfl (bH (by exact List.mem_cons_self) rfl rfl rfl) pre_nil) (bL (a := 1000) (b := 1000) (by exact List.mem_cons_self) rfl (bH (by exact List.mem_cons_self) rfl rfl rfl) post_nil) (aO rfl rfl) ?_
  refine bg rfl rfl (by omega) (by omega) ?_
  refine td rfl rfl ?_
  refine dF rfl rfl rfl rfl rfl (by omega) ?_
  refine aK rfl rfl rfl rfl rfl (by decide) ?_
  refine qj (E := eG) (z := ⟨min 300 (d.most k.1 (d.D + 1).toNat + bf (d.hs k.1).2 30), (nth (d.hs k.1).1 k.1).first⟩) rfl rfl rfl (by decide) rfl rfl (by exact (rfl : _ = Ty.int _ _)) rfl (by omega) (by decide) rfl rfl ?_
  refine aD ?_
  refine ⟨by kernel_rfl, ?_⟩
  refine bQ (aC (aA ?_))
  refine bg rfl rfl (by omega) (by omega) ?_
  refine bO rfl (aD ?_)
  refine bV (⟨k.1 + 1, by omega⟩) ?_ (by show d.nb - (k.1 + 1) < d.nb - k.1; omega)
  (refine c9.mk' ?_ ?_ <;> (repeat' (first | exact aH | exact aI | exact c7 | refine aB ?_ (Ty.aW _) | refine aB ?_ (Ty.aF _) | refine aG rfl (Cont.aF _) ?_ | refine aG rfl (Cont.c6 ?_) ?_ | refine bS ?_ ?_ | refine aG rfl ?_ ?_)))
  all_goals skip
  all_goals first | exact Cont.dR (congrArg Prod.fst (JW d _)) | exact Ty.ah (congrArg (fun p => p.2.mixed) (JW d _)) | exact Ty.ah (congrArg (fun p => p.2.taken) (JW d _)) | exact Ty.fG (congrArg (fun p => p.2.grain) (JW d _))
 refine cQ (aR (aR (au rfl (aC (aE (aE ?_))))))
 obtain ⟨k, hk⟩ := k
 obtain rfl : k = d.nb := by have h1 : ¬ (k : Int) < (d.nb : Int) := hc8; have h2 : k ≤ d.nb := hk; omega
 have H := d.xT d.nb (Nat.le_refl _)
 have g1 := H.len
 have g2 := H.taken
 have b5 : d.jV.length = d.nb := by unfold Md.jV; exact g1
 have g6 := cY (d.hs d.nb).2
 refine gL (tg := 49) rfl (Cont.dR (show (d.hs d.nb).1 = d.jV by unfold Md.jV; rfl)) ?_
 refine k6 (tg := 49) [] [(13, Cont.cells 27 [Ty.int .i64 d.D, Ty.sl eG d.jV, Ty.sl dN d.fF, Ty.ex (.slice none 0 0)])] (by decide) rfl trivial ⟨fP rfl rfl ⟨bY rfl, jr rfl b5 (by decide), bY rfl, bY rfl, trivial⟩, trivial⟩ ?_
 refine eS (B := live [(0, Ty.ptr 1000 0), (4, Ty.int .i64 d.levels), (10, Ty.ptr 11 0), (11, Ty.ptr 12 0), (12, Ty.ptr 13 0), (13, Ty.ptr 14 0)] [(11, Cont.cells 27 [Ty.int .i64 0, Ty.ex (.slice none 0 0), Ty.ex (.slice none 0 0), Ty.ex (.slice none 0 0)]), (12, Cont.cells 30 [Ty.ex (.slice none 0 0), Ty.ex (.slice none 0 0)]), (13, Cont.cells 27 [Ty.int .i64 d.D, Ty.sl eG d.jV, Ty.sl dN d.fF, Ty.ex (.slice none 0 0)]), (14, Cont.cells 30 [Ty.sl cj d.first, Ty.sl cj d.b8]), (1000, Cont.cells 149 (dK (d.hs d.nb).2))]) ?_ ?_
 ·(refine c9.mk' ?_ ?_ <;> (repeat' (first | exact aH | exact aI | refine aB ?_ (Ty.aW _) | refine aB ?_ (Ty.aF _) | refine aG rfl (Cont.aF _) ?_)))
 refine aA (qH rfl (bO rfl ?_))
 refine bg rfl rfl (by omega) (by omega) ?_
 refine cD [(1000, 1000)] [] [(1000, Cont.cells 149 (dK (aZ (d.hs d.nb).2)))] (jE (d.hs d.nb).2 ⟨by omega, by omega⟩ _) rfl rfl (by repeat (first | exact bK | refine aJ ?_ ?_ | exact dr List.mem_cons_self | exact aO rfl rfl)) (cC (a := 1000) (b := 1000) (by exact List.mem_cons_self) rfl (bH (by exact List.mem_cons_self) rfl rfl rfl) pre_nil) (bL (a := 1000) (b := 1000) (by exact List.mem_cons_self) rfl (bH (by exact List.mem_cons_self) rfl rfl rfl) post_nil) (aO rfl rfl) ?_
 refine bO rfl (aD (aC ?_))
 refine gl (s := 218) rfl (Ty.ah (show bf (d.hs d.nb).2 (d.levels + 1) = ((d.nl : Nat) : Int) from hnl.2 ▸ (by unfold Md.Lc; rfl))) ?_
 refine ak ?_
 refine cV (fun (k : {k : Nat // k ≤ d.nl}) => live [(0, Ty.ptr 1000 0), (10, Ty.ptr 11 0), (11, Ty.ptr 12 0), (12, Ty.ptr 13 0), (13, Ty.ptr 14 0), (218, Ty.int .i64 (d.nl : Nat)), (219, Ty.int .i64 (k.1 : Nat))] [(11, Cont.cells 27 [Ty.int .i64 0, Ty.ex (.slice none 0 0), Ty.ex (.slice none 0 0), Ty.ex (.slice none 0 0)]), (12, Cont.cells 30 [Ty.ex (.slice none 0 0), Ty.ex (.slice none 0 0)]), (13, Cont.cells 27 [Ty.int .i64 d.D, Ty.sl eG d.jV, Ty.sl dN d.fF, Ty.row ej 102 246 (d.ls k.1).1]), (14, Cont.cells 30 [Ty.sl cj d.first, Ty.sl cj d.b8]), (1000, Cont.cells 149 (dK (d.ls k.1).2))]) (fun k => d.nl - k.1) (⟨0, by omega⟩) ?_ fun k => ?_
 ·(refine c9.mk' ?_ ?_ <;> (repeat' (first | exact aH | exact aI | exact c7 | refine aB ?_ (Ty.aW _) | refine aB ?_ (Ty.aF _) | refine aG rfl (Cont.aF _) ?_ | refine aG rfl (Cont.c6 ?_) ?_ | refine bS ?_ (Ty.aF _) | refine bS ?_ ?_)))
  all_goals first | exact Ty.ah (congrArg (fun p => p.2.mixed) (Il d)) | exact Ty.ah (congrArg (fun p => p.2.taken) (Il d)) | exact Ty.fG (congrArg (fun p => p.2.grain) (Il d)) | exact jc (congrArg Prod.fst (Il d)).symm
 have hk := k.2
 have L := d.BJ hd k.1
 have f1 := L.len
 have f2 := L.taken
 have f3 := cY (d.ls k.1).2
 have f4 := cY (aZ (d.ls k.1).2)
 have f5 := cq (d.ls k.1).2 (d.D + 1)
 have f6 := cq (aZ (d.ls k.1).2) d.nb
 refine aE (aA (bD rfl rfl rfl (aD (aC (aE ?_)))))
 refine av rfl (fun hc10 => ?_) (fun hc10 => ?_)
 ·
  refine aj (aC (aE (ak (aE (cN mixed rfl (qH rfl ?_))))))
  refine aK rfl rfl rfl rfl rfl (by decide) ?_
  refine aP rfl rfl (by decide) rfl rfl rfl ?_
  refine bg rfl rfl (by omega) (by omega) ?_
  refine cD [(1000, 1000)] [] [(1000, Cont.cells 149 (dK (aZ (d.ls k.1).2)))] (jE (d.ls k.1).2 ⟨by omega, by omega⟩ _) rfl rfl (by repeat (first | exact bK | refine aJ ?_ ?_ | exact dr List.mem_cons_self | exact aO rfl rfl)) (cC (a := 1000) (b := 1000) (by exact List.mem_cons_self) rfl (bH (by exact List.mem_cons_self) rfl rfl rfl) pre_nil) (bL (a := 1000) (b := 1000) (by exact List.mem_cons_self) rfl (bH (by exact List.mem_cons_self) rfl rfl rfl) post_nil) (aO rfl rfl) ?_
  refine qH rfl ?_
  refine aK rfl rfl rfl rfl rfl (by decide) ?_
  refine aP rfl rfl (by decide) rfl rfl rfl ?_
  refine cz rfl rfl rfl ?_
  refine cD [(1000, 1000)] [] [(1000, Cont.cells 149 (dK (aZ (aZ (d.ls k.1).2))))] (jE (aZ (d.ls k.1).2) ⟨by omega, by omega⟩ _) rfl rfl (by repeat (first | exact bK | refine aJ ?_ ?_ | exact dr List.mem_cons_self | exact aO rfl rfl)) (cC (a := 1000) (b := 1000) (by exact List.mem_cons_self) rfl (bH (by exact List.mem_cons_self) rfl rfl rfl) pre_nil) (bL (a := 1000) (b := 1000) (by exact List.mem_cons_self) rfl (bH (by exact List.mem_cons_self) rfl rfl rfl) post_nil) (aO rfl rfl) ?_
  refine dD rfl rfl (by exact List.cons_ne_nil _ _) rfl (by repeat (first | exact (aY.nil : aY _ _ [] _) | (show aY _ _ ((_, _) :: _) _; apply aY.one; (· exact (rfl : _ = Ty.int _ _)); (· exact rfl)))) (by exact (rfl : _ = some [_, _, _, _])) ?_
  refine bz rfl (by exact List.cons_ne_nil _ _) rfl ?_
  refine bu rfl rfl (by decide) rfl rfl rfl rfl rfl rfl ?_
  refine aD ?_
  refine ⟨by kernel_rfl, ?_⟩
  refine aC (aE ?_)
  have hcl : 0 ≤ cX d.y0 d.real (bf (aZ (d.ls k.1).2) d.nb) (bf (d.ls k.1).2 (d.D + 1)) ∧ cX d.y0 d.real (bf (aZ (d.ls k.1).2) d.nb) (bf (d.ls k.1).2 (d.D + 1)) ≤ 300 := by
   have := d.uh hd (bf (aZ (d.ls k.1).2) d.nb).toNat (bf (d.ls k.1).2 (d.D + 1)) (by omega)
   rwa [Int.toNat_of_nonneg f6.1] at this
  have hce : ∀ b t, cX ⟨d.D, d.jV, d.fF, (d.ls k.1).1⟩ d.real b t = cX d.y0 d.real b t := fun b t => sG (y := d.y0)
  have hcb : -1000000 ≤ cX ⟨d.D, d.jV, d.fF, (d.ls k.1).1⟩ d.real (bf (aZ (d.ls k.1).2) d.nb) (bf (d.ls k.1).2 (d.D + 1)) ∧ cX ⟨d.D, d.jV, d.fF, (d.ls k.1).1⟩ d.real (bf (aZ (d.ls k.1).2) d.nb) (bf (d.ls k.1).2 (d.D + 1)) ≤ 1000000 := by rw [hce]; omega
  refine gL (tg := 25) rfl (Cont.eM (l' := [Ty.int .i64 (bf (d.ls k.1).2 (d.D + 1)), Ty.int .i64 (bf (aZ (d.ls k.1).2) d.nb), Ty.int .i64 0, Ty.int .i64 0]) ⟨Ty.aF _, Ty.ah (by rw [b5]), Ty.aF _, Ty.aF _, trivial⟩) ?_
  refine eS (B := live [(0, Ty.ptr 1000 0), (10, Ty.ptr 11 0), (11, Ty.ptr 12 0), (12, Ty.ptr 13 0), (13, Ty.ptr 14 0), (24, Ty.ptr 25 0), (218, Ty.int .i64 (d.nl : Nat)), (219, Ty.int .i64 (k.1 : Nat))] [(11, Cont.cells 27 [Ty.int .i64 0, Ty.ex (.slice none 0 0), Ty.ex (.slice none 0 0), Ty.ex (.slice none 0 0)]), (12, Cont.cells 30 [Ty.ex (.slice none 0 0), Ty.ex (.slice none 0 0)]), (13, Cont.cells 27 [Ty.int .i64 d.D, Ty.sl eG d.jV, Ty.sl dN d.fF, Ty.row ej 102 246 (d.ls k.1).1]), (14, Cont.cells 30 [Ty.sl cj d.first, Ty.sl cj d.b8]), (25, Cont.cells 102 [Ty.int .i64 (bf (d.ls k.1).2 (d.D + 1)), Ty.int .i64 (bf (aZ (d.ls k.1).2) d.nb), Ty.int .i64 0, Ty.int .i64 0]), (1000, Cont.cells 149 (dK (aZ (aZ (d.ls k.1).2))))]) ?_ ?_
  ·refine c9.mk' ?_ ?_
   ·(repeat (first | refine aB ?_ (Ty.aW _) | refine aB ?_ (Ty.aF _))); exact aH
   refine aG rfl (Cont.aF _) ?_; refine aG rfl (Cont.aF _) ?_; refine aG rfl (Cont.aF _) ?_; refine aG rfl (Cont.aF _) ?_; refine aG rfl (Cont.aF _) ?_; refine aG rfl (Cont.aF _) ?_; exact aI
  refine aA (qH rfl ?_)
  refine bT rfl rfl (by decide) rfl rfl (by exact Nat.le_of_ble_eq_true rfl) ?_
  refine bT rfl rfl (by decide) rfl rfl (by exact Nat.le_of_ble_eq_true rfl) ?_
  refine aK rfl rfl rfl rfl rfl (by decide) ?_
  refine aP rfl rfl (by decide) rfl rfl rfl ?_
  refine aK rfl rfl rfl rfl rfl (by decide) ?_
  refine aP rfl rfl (by decide) rfl rfl rfl ?_
  refine dV [246] (gV ⟨d.D, d.jV, d.fF, (d.ls k.1).1⟩ d.real (ur hd) (bf (aZ (d.ls k.1).2) d.nb) (bf (d.ls k.1).2 (d.D + 1)) f6.1 (by show _ < d.first.length; omega)) rfl (aL (gk (aL (af (bF rfl rfl)) (aL (af (bF rfl rfl)) (aL (af (bF rfl rfl)) (aL (af (fI rfl)) bX))))) (aL (af (bF rfl rfl)) (aL (af (bF rfl rfl)) (aL (af (bF rfl rfl)) bX)))) (by exact dG _ _) ?_
  refine cD [(1000, 1000)] [] [(1000, Cont.cells 149 (dK (aZ (aZ (aZ (aZ (d.ls k.1).2))))))] (CD (aZ (aZ (d.ls k.1).2)) ⟨by omega, by omega⟩ (cX ⟨d.D, d.jV, d.fF, (d.ls k.1).1⟩ d.real (bf (aZ (d.ls k.1).2) d.nb) (bf (d.ls k.1).2 (d.D + 1))) 8 hcb (by omega)) rfl rfl (by repeat (first | exact bK | refine aJ ?_ ?_ | exact dr List.mem_cons_self | exact aO rfl rfl)) (cC (a := 1000) (b := 1000) (by exact List.mem_cons_self) rfl (bH (by exact List.mem_cons_self) rfl rfl rfl) pre_nil) (bL (a := 1000) (b := 1000) (by exact List.mem_cons_self) rfl (bH (by exact List.mem_cons_self) rfl rfl rfl) post_nil) (aO rfl rfl) ?_
  refine aK rfl rfl rfl rfl rfl (by decide) ?_
  refine xe (lr := [Ty.int .i64 (bf (d.ls k.1).2 (d.D + 1)), Ty.int .i64 (bf (aZ (d.ls k.1).2) d.nb), Ty.int .i64 (gp (aZ (aZ (d.ls k.1).2)) (cX ⟨d.D, d.jV, d.fF, (d.ls k.1).1⟩ d.real (bf (aZ (d.ls k.1).2) d.nb) (bf (d.ls k.1).2 (d.D + 1))) 8).lo, Ty.int .i64 (gp (aZ (aZ (d.ls k.1).2)) (cX ⟨d.D, d.jV, d.fF, (d.ls k.1).1⟩ d.real (bf (aZ (d.ls k.1).2) d.nb) (bf (d.ls k.1).2 (d.D + 1))) 8).hi]) rfl rfl (by decide) rfl rfl rfl (by exact Nat.le_of_ble_eq_true rfl) rfl rfl rfl ?_
  refine aD (aC ?_)
  refine gL (tg := 25) rfl (Cont.eM (l' := ej.tys (d.MJ (d.ls k.1).2)) ⟨Ty.aF _, Ty.aF _, Ty.ah (by rw [hce]; rfl), Ty.ah (by rw [hce]; rfl), trivial⟩) ?_
  refine eS (B := live [(0, Ty.ptr 1000 0), (10, Ty.ptr 11 0), (11, Ty.ptr 12 0), (12, Ty.ptr 13 0), (13, Ty.ptr 14 0), (24, Ty.ptr 25 0), (218, Ty.int .i64 (d.nl : Nat)), (219, Ty.int .i64 (k.1 : Nat))] [(11, Cont.cells 27 [Ty.int .i64 0, Ty.ex (.slice none 0 0), Ty.ex (.slice none 0 0), Ty.ex (.slice none 0 0)]), (12, Cont.cells 30 [Ty.ex (.slice none 0 0), Ty.ex (.slice none 0 0)]), (13, Cont.cells 27 [Ty.int .i64 d.D, Ty.sl eG d.jV, Ty.sl dN d.fF, Ty.row ej 102 246 (d.ls k.1).1]), (14, Cont.cells 30 [Ty.sl cj d.first, Ty.sl cj d.b8]), (25, Cont.cells 102 (ej.tys (d.MJ (d.ls k.1).2))), (1000, Cont.cells 149 (dK (aZ (aZ (aZ (aZ (d.ls k.1).2))))))]) ?_ ?_
  ·refine c9.mk' ?_ ?_
   ·(repeat (first | refine aB ?_ (Ty.aW _) | refine aB ?_ (Ty.aF _))); exact aH
   refine aG rfl (Cont.aF _) ?_; refine aG rfl (Cont.aF _) ?_; refine aG rfl (Cont.aF _) ?_; refine aG rfl (Cont.aF _) ?_; refine aG rfl (Cont.aF _) ?_; refine aG rfl (Cont.aF _) ?_; exact aI
  refine aA ?_
  refine aK rfl rfl rfl rfl rfl (by decide) ?_
  refine aP rfl rfl (by decide) rfl rfl rfl ?_
  refine bT rfl rfl (by decide) rfl rfl (by exact Nat.le_of_ble_eq_true rfl) ?_
  refine bp (E := ej) (xs := [d.MJ (d.ls k.1).2]) rfl rfl rfl rfl rfl (by decide) (by decide) (by repeat (first | exact (aY.nil : aY _ _ [] _) | (show aY _ _ ((_, _) :: _) _; apply aY.agg; (· exact (rfl : _ = Ty.agg _))))) (by exact rfl) rfl ?_
  refine fO rfl rfl (by decide) rfl rfl rfl rfl rfl rfl (by decide) (by (simp <;> omega)) (by (simp <;> omega)) ?_
  refine aK rfl rfl rfl rfl rfl (by decide) ?_
  refine cZ rfl rfl (by decide) rfl rfl (by exact (rfl : _ = Ty.row _ _ _ _)) rfl (by exact Nat.le_of_ble_eq_true rfl) rfl rfl (by exact rfl) ?_
  refine aD (bQ (aC (aA ?_)))
  refine bg rfl rfl (by omega) (by omega) ?_
  refine bO rfl (aD ?_)
  refine bV (⟨k.1 + 1, by omega⟩) ?_ (by show d.nl - (k.1 + 1) < d.nl - k.1; omega)
  (refine c9.mk' ?_ ?_ <;> (repeat' (first | exact aH | exact aI | exact c7 | refine aB ?_ (Ty.aW _) | refine aB ?_ (Ty.aF _) | refine aG rfl (Cont.aF _) ?_ | refine aG rfl (Cont.c6 ?_) ?_ | refine bS ?_ (Ty.aF _) | refine bS ?_ ?_)))
  all_goals skip
  all_goals first | exact Ty.ah (congrArg (fun p => p.2.mixed) (I9 d _)) | exact Ty.ah (congrArg (fun p => p.2.taken) (I9 d _)) | exact Ty.fG (congrArg (fun p => p.2.grain) (I9 d _)) | exact Ty.fS (congrArg Prod.fst (I9 d _))
 refine cQ (aR (aR (au rfl (aC (aE ?_)))))
 obtain ⟨k, hk⟩ := k
 obtain rfl : k = d.nl := by have h1 : ¬ (k : Int) < (d.nl : Int) := hc10; have h2 : k ≤ d.nl := hk; omega
 refine k6 (tg := 246) [] [(13, Cont.cells 27 (bk d.dP))] (by decide) rfl trivial ⟨fP rfl rfl ⟨bY rfl, bY rfl, bY rfl, rR (show (d.ls d.nl).1 = d.ug by unfold Md.ug; rfl), trivial⟩, trivial⟩ ?_
 refine cN mixed rfl ?_
 refine bT rfl rfl (by decide) rfl rfl (by exact Nat.le_of_ble_eq_true rfl) ?_
 refine bT rfl rfl (by decide) rfl rfl (by exact Nat.le_of_ble_eq_true rfl) ?_
 refine bu rfl rfl (by decide) rfl rfl rfl rfl rfl rfl ?_
 refine bu rfl rfl (by decide) rfl rfl rfl rfl rfl rfl ?_
 refine aD ?_
 refine ⟨by kernel_rfl, ?_⟩
 refine aC (bC ?_)
 refine KU [1000] rfl rfl rfl rfl rfl (by decide) rfl rfl rfl rfl rfl (by decide) rfl rfl rfl (by decide) (by repeat (first | exact fB | refine eD rfl (bH (by decide) rfl rfl rfl) ?_)) ?_ ?_
 all_goals exact fQ (aO rfl rfl)
 all_goals trace_state
end Go.Proofs.YtelbollidfdcjaaGreat
namespace Go.Proofs.YtelbollidfdcjaaGreat
open Go Go.T
set_option maxHeartbeats 8000000
structure Mn (a : eK) : Prop where
  nk : a.b8.length ≤ 1000
  first : ∀ x ∈ a.first, -1000 ≤ x ∧ x ≤ 1000
  b8 : ∀ x ∈ a.b8, -1000 ≤ x ∧ x ≤ 1000
open Classical in
noncomputable def nP (y : bB) (a : eK) : Bool := decide (gQ y (fun _ => true) a)
section
variable {y : bB} {a : eK} {b t k : Nat}
open Classical in
theorem yO (h : gQ y (fun _ => true) a) : nP y a = true := by unfold nP; exact decide_eq_true h
open Classical in
theorem k5 (h : ¬ gQ y (fun _ => true) a) : nP y a = false := by unfold nP; exact decide_eq_false h
theorem uM {n : Int} {s : Span} (h : (!oS n s) = false) : s.lo ≤ n ∧ n ≤ s.hi := by
 unfold oS at h; simpa using h
theorem zh {n : Int} {s : Span} (h : (!oS n s) = true) : ¬ (s.lo ≤ n ∧ n ≤ s.hi) := by
 unfold oS at h; simp at h; omega
theorem Lh (h : (!decide ((a.first.length : Int) = y.bins.length) || !decide ((a.b8.length : Int) = y.moves.length)) = true) : false = nP y a := by
 refine (k5 fun hf => ?_).symm
 have h1 := hf.lens.first
 have h2 := hf.lens.b8
 rw [decide_eq_true (by omega), decide_eq_true (by omega)] at h; cases h
theorem Hv (h : (!decide ((a.first.length : Int) = y.bins.length) || !decide ((a.b8.length : Int) = y.moves.length)) = false) : zb y a := by
 rw [Bool.or_eq_false_iff, Bool.not_eq_false', Bool.not_eq_false', decide_eq_true_eq, decide_eq_true_eq] at h
 exact ⟨by omega, by omega⟩
theorem LW (hb : b < y.bins.length) (h : (!oS (nth a.first b) (nth y.bins b).first) = true) : false = nP y a :=
 (k5 fun hf => zh h (hf.first b hb)).symm
theorem MF (hb : b < y.bins.length) (ht : t ≤ y.D) (h : (!oS (cX y a (b : Nat) (t : Nat)) ⟨0, (nth y.bins b).holds⟩) = true) : false = nP y a :=
 (k5 fun hf => zh h (by rw [kj]; exact hf.cont b t hb ht)).symm
theorem MC (hk : k < y.moves.length) (h : (!oS (nth a.b8 k) (nth y.moves k).sacks) = true) : false = nP y a :=
 (k5 fun hf => zh h (hf.b8 k hk)).symm
theorem L9 (hr : y.cm) (hl : zb y a) (h1 : ∀ b, b < y.bins.length → ((nth y.bins b).first.lo ≤ nth a.first b ∧ nth a.first b ≤ (nth y.bins b).first.hi) ∧ ∀ t : Nat, t ≤ y.D → 0 ≤ cX y a (b : Nat) (t : Nat) ∧ cX y a (b : Nat) (t : Nat) ≤ (nth y.bins b).holds)
    (h2 : ∀ k, k < y.moves.length → (nth y.moves k).sacks.lo ≤ nth a.b8 k ∧ nth a.b8 k ≤ (nth y.moves k).sacks.hi) : (!(y.levels.any fun l => !oS (cX y a l.bin l.day) l.sacks)) = nP y a := by
  have key : ∀ i, i < y.levels.length → cX y a (nth y.levels i).bin (nth y.levels i).day = dQ y a (nth y.levels i).bin.toNat (nth y.levels i).day.toNat := fun i hi => by
    obtain ⟨g1, g2, _⟩ := hr.level _ (cM hi)
    rw [← kj, Int.toNat_of_nonneg g1.1, Int.toNat_of_nonneg g2.1]
  cases e : y.levels.any fun l => !oS (cX y a l.bin l.day) l.sacks with
  | true =>
    refine (k5 fun hf => ?_).symm
    obtain ⟨l, hl', h⟩ := List.any_eq_true.1 e
    obtain ⟨i, hi, rfl⟩ := qn hl'
    exact zh h (by rw [key i hi]; exact hf.level i hi rfl)
  | false =>
    refine (yO ⟨hl, fun b hb => (h1 b hb).1, fun b t hb ht => by rw [← kj]; exact (h1 b hb).2 t ht, h2, fun i hi _ => ?_⟩).symm
    rw [List.any_eq_false] at e
    rw [← key i hi]
    exact uM (by rw [← Bool.not_eq_true]; exact e _ (cM hi))
end
attribute [local irreducible] cX oS nP
attribute [local irreducible] iw fu nh ru jS jR jO jN jQ rZ jL rj eO gy rY g9 rX nth fT dg aq eA bodyPost Exit.then Exit.inBlock Code.wp Code.wpIn rm jU rq rW jP eT ct cx bodyPostM eU
set_option maxRecDepth 100000 in
theorem Io (y : bB) (a : eK) (ha : ID y a) (l : Level) (h0 : 0 ≤ l.bin) (h1 : l.bin.toNat < a.first.length) : eA Tryz.prog 85 [Ty.agg (ej.tys l), Ty.pp (bk y), Ty.pp (fD a)] (Ty.bool (!oS (cX y a l.bin l.day) l.sacks)) := by
 refine az Tryz.func85 rfl (by decide) Tryz.ntmps85 (by exact Nat.le_of_ble_eq_true rfl) fun w0 M0 => ?_
 refine aE (aA (bM rfl (dZ rfl (aD (aC (aE (cN mixed rfl ?_)))))))
 refine aa rfl rfl rfl (by exact Nat.le_of_ble_eq_true rfl) ?_
 refine aa rfl rfl rfl (by exact Nat.le_of_ble_eq_true rfl) ?_
 refine aS rfl rfl rfl rfl rfl (by decide) ?_
 refine aM rfl rfl rfl rfl ?_
 refine aS rfl rfl rfl rfl rfl (by decide) ?_
 refine aM rfl rfl rfl rfl (ay (gV y a ha l.bin l.day h0 h1) rfl rfl rfl rfl rfl ?_)
 refine aS rfl rfl rfl rfl rfl (by decide) ?_
 refine aa rfl rfl rfl (by exact Nat.le_of_ble_eq_true rfl) ?_
 refine ay (oB _ _) rfl rfl rfl rfl rfl (dn rfl (dZ rfl (aD ?_)))
 refine ⟨by kernel_rfl, ?_⟩
 refine aC (bC (bl rfl rfl ?_))
 all_goals exact cI rfl rfl
set_option maxRecDepth 100000 in
theorem Kw (y : bB) (a : eK) (hr : y.cm) (hb : Mn a) : eA Tryz.prog 20 [fK y, pR a] (Ty.bool (nP y a)) := by
 refine az Tryz.func20 rfl (by decide) Tryz.ntmps20 (by exact Nat.le_of_ble_eq_true rfl) fun w0 M0 => ?_
 have hs1 := hr.bins
 have hs2 := hr.moves
 have hs3 := hr.days
 have hs4 := hr.levels
 have hD := D_eq hr
 have hfew := hb.nk
 refine aE (aA (bM rfl (bM rfl (dZ rfl (aD (aC (aE (aE (aA ?_)))))))))
 refine aS rfl rfl rfl rfl rfl (by decide) ?_
 refine aM rfl rfl rfl rfl (cz rfl rfl rfl ?_)
 refine aS rfl rfl rfl rfl rfl (by decide) ?_
 refine aM rfl rfl rfl rfl (cz rfl rfl rfl (bD rfl rfl rfl (gO rfl ?_)))
 apply aT (s := 17) rfl rfl rfl
 ·intro hg; apply aU; (refine aS rfl rfl rfl rfl rfl (by decide) ?_); refine aD ?_; exact rfl
 ·exact rfl
 ·exact rfl
 apply aT (s := 17) rfl rfl rfl
 ·intro hg; apply aN (s := 18) rfl (by (rw [hg]; rfl)); apply aU; (refine aM rfl rfl rfl rfl ?_); refine aD ?_; exact rfl
 ·exact rfl
 ·exact rfl
 apply aT (s := 17) rfl rfl rfl
 ·intro hg; apply aN (s := 19) rfl (by (rw [hg]; rfl)); apply aU; (refine cz rfl rfl rfl ?_); refine aD ?_; exact rfl
 ·exact rfl
 ·exact rfl
 apply aT (s := 17) rfl rfl rfl
 ·intro hg; apply aU; (refine aS rfl rfl rfl rfl rfl (by decide) ?_); refine aD ?_; exact rfl
 ·exact rfl
 ·exact rfl
 apply aT (s := 17) rfl rfl rfl
 ·intro hg; apply aN (s := 21) rfl (by (rw [hg]; rfl)); apply aU; (refine aM rfl rfl rfl rfl ?_); refine aD ?_; exact rfl
 ·exact rfl
 ·exact rfl
 apply aT (s := 17) rfl rfl rfl
 ·intro hg; apply aN (s := 22) rfl (by (rw [hg]; rfl)); apply aU; (refine cz rfl rfl rfl ?_); refine aD ?_; exact rfl
 ·exact rfl
 ·exact rfl
 apply aT (s := 17) rfl rfl rfl
 ·intro hg; apply aN (s := 20) rfl (by (rw [hg]; rfl)); apply aN (s := 23) rfl (by (rw [hg]; rfl)); apply aU; (refine bD rfl rfl rfl ?_); refine aD ?_; exact rfl
 ·exact rfl
 ·exact rfl
 refine n4 rfl rfl (aD (aC ?_))
 refine cW rfl (fun hc1 => ?_) (fun hc1 => ?_)
 ·
  refine aE (aA (dZ rfl (aD (aC (bC (aX (bl rfl rfl ?_)))))))
  all_goals skip
  exact bE rfl rfl (congrArg Ty.bool (Lh hc1))
 refine aj (aC (aE (aE ?_)))
 have hl := Hv hc1
 have hl1 := hl.first
 have hl2 := hl.b8
 have ha : ID y a := ⟨by omega, hb.nk, hb.first, hb.b8⟩
 refine aA ?_
 refine aS rfl rfl rfl rfl rfl (by decide) ?_
 refine aM rfl rfl rfl rfl (cz rfl rfl rfl (bO rfl (aD (aC (ak ?_)))))
 refine cV (fun (k : {k : Nat // k ≤ y.bins.length ∧ ∀ b, b < k → ((nth y.bins b).first.lo ≤ nth a.first b ∧ nth a.first b ≤ (nth y.bins b).first.hi) ∧ ∀ t : Nat, t ≤ y.D → 0 ≤ cX y a (b : Nat) (t : Nat) ∧ cX y a (b : Nat) (t : Nat) ≤ (nth y.bins b).holds}) => live [(2, Ty.pp (bk y)), (3, Ty.pp (fD a)), (27, Ty.sl eG y.bins), (28, Ty.int .i64 y.bins.length), (29, Ty.int .i64 (k.1 : Nat))] []) (fun k => y.bins.length - k.1) (⟨0, Nat.zero_le _, fun b h => absurd h (Nat.not_lt_zero b)⟩) ?_ fun k => ?_
 ·(refine c9.mk' ?_ ?_ <;> (repeat' (first | exact aH | exact aI | refine aB ?_ (Ty.aW _) | refine aB ?_ (Ty.aF _))))
 have hk := k.2.1
 refine aE (aA (bD rfl rfl rfl (aD (aC (aE ?_)))))
 refine av rfl (fun hc2 => ?_) (fun hc2 => ?_)
 ·
  refine aj (aC (aE (ak (aE (aA (bO rfl ?_))))))
  refine bN rfl rfl rfl rfl rfl rfl (by omega) ?_
  refine aa rfl rfl rfl (by exact Nat.le_of_ble_eq_true rfl) ?_
  refine bz rfl (by exact List.cons_ne_nil _ _) rfl ?_
  refine cF rfl ?_
  refine bu rfl rfl (by decide) rfl rfl rfl rfl rfl rfl ?_
  refine aD (aC (aE (aE (cN mixed rfl ?_))))
  refine aS rfl rfl rfl rfl rfl (by decide) ?_
  refine aM rfl rfl rfl rfl (bO rfl ?_)
  refine bN rfl rfl rfl rfl rfl rfl (by omega) ?_
  refine aM rfl rfl rfl rfl ?_
  refine aK rfl rfl rfl rfl rfl (by decide) ?_
  refine bT rfl rfl (by decide) rfl rfl (by exact Nat.le_of_ble_eq_true rfl) ?_
  refine ay (oB _ _) rfl rfl rfl rfl rfl (dn rfl (aD ?_))
  refine ⟨by kernel_rfl, ?_⟩
  refine aC ?_
  refine cW rfl (fun hc3 => ?_) (fun hc3 => ?_)
  ·
   refine aE (aA (dZ rfl (aD (aC (bC (aX (bG (aX (aX ?_)))))))))
   refine bG (aX (bl rfl rfl ?_))
   all_goals skip
   exact bE rfl rfl (congrArg Ty.bool (LW (b := k.1) (by omega) hc3))
  refine aj (aC (aE (aA ?_)))
  refine aS rfl rfl rfl rfl rfl (by decide) ?_
  refine aM rfl rfl rfl rfl ?_
  refine bg rfl rfl (by omega) (by omega) ?_
  refine bO rfl (aD (aC (ak ?_)))
  refine cV (fun (t : {t : Nat // t ≤ y.D + 1 ∧ ∀ s : Nat, s < t → 0 ≤ cX y a (k.1 : Nat) (s : Nat) ∧ cX y a (k.1 : Nat) (s : Nat) ≤ (nth y.bins k.1).holds}) => live [(2, Ty.pp (bk y)), (3, Ty.pp (fD a)), (5, Ty.int .i64 (k.1 : Nat)), (6, Ty.ptr 7 0), (27, Ty.sl eG y.bins), (28, Ty.int .i64 y.bins.length), (29, Ty.int .i64 (k.1 : Nat)), (45, Ty.int .i64 (y.days + 1)), (46, Ty.int .i64 (t.1 : Nat))] [(7, Cont.cells 39 (eG.tys (nth y.bins k.1)))]) (fun t => y.D + 1 - t.1) (⟨0, Nat.zero_le _, fun s h => absurd h (Nat.not_lt_zero s)⟩) ?_ fun t => ?_
  ·(refine c9.mk' ?_ ?_ <;> (repeat' (first | exact aH | exact aI | refine aB ?_ (Ty.aW _) | refine aB ?_ (Ty.aF _) | refine aG rfl (Cont.aF _) ?_)))
  have ht := t.2.1
  refine aE (aA (bD rfl rfl rfl (aD (aC (aE ?_)))))
  refine av rfl (fun hc4 => ?_) (fun hc4 => ?_)
  ·
   refine aj (aC (aE (ak (aE (aA (bO rfl (cF rfl (aD (aC ?_)))))))))
   refine aE (cN mixed rfl ?_)
   refine aa rfl rfl rfl (by exact Nat.le_of_ble_eq_true rfl) ?_
   refine aa rfl rfl rfl (by exact Nat.le_of_ble_eq_true rfl) ?_
   refine bO rfl (bO rfl ?_)
   refine ay (gV y a ha ((k.1 : Nat) : Int) ((t.1 : Nat) : Int) (Int.natCast_nonneg _) (by omega)) rfl rfl rfl rfl rfl ?_
   refine aK rfl rfl rfl rfl rfl (by decide) ?_
   refine aP rfl rfl (by decide) rfl rfl rfl ?_
   refine ay (iW _ _) rfl rfl rfl rfl rfl (ay (oB _ _) rfl rfl rfl rfl rfl (dn rfl (aD ?_)))
   refine ⟨by kernel_rfl, ?_⟩
   refine aC ?_
   refine cW rfl (fun hc5 => ?_) (fun hc5 => ?_)
   ·
    refine aE (aA (dZ rfl (aD (aC (bC (bG (aX (aX (bG ?_)))))))))
    refine bG (aX (aX (bG (aX (bl rfl rfl ?_)))))
    all_goals skip
    exact bE rfl rfl (congrArg Ty.bool (MF (b := k.1) (t := t.1) (by omega) (by omega) hc5))
   refine aj (bQ (aC (aA ?_)))
   refine bg rfl rfl (by omega) (by omega) ?_
   refine bO rfl (aD ?_)
   refine bV (⟨t.1 + 1, by omega, fun s h => (Nat.lt_succ_iff_lt_or_eq.1 h).elim (t.2.2 s) fun e => by subst e; exact uM hc5⟩) ?_ (by show y.D + 1 - (t.1 + 1) < y.D + 1 - t.1; omega)
   (refine c9.mk' ?_ ?_ <;> (repeat' (first | exact aH | exact aI | refine aB ?_ (Ty.aW _) | refine aB ?_ (Ty.aF _) | refine aG rfl (Cont.aF _) ?_)))
   all_goals skip
  refine cQ (aR (aR (au rfl (bQ (aC (aA ?_))))))
  refine bg rfl rfl (by omega) (by omega) ?_
  refine bO rfl (aD ?_)
  refine bV (⟨k.1 + 1, by omega, fun b h => (Nat.lt_succ_iff_lt_or_eq.1 h).elim (k.2.2 b) fun e => by subst e; exact ⟨uM hc3, fun s h => t.2.2 s (by omega)⟩⟩) ?_ (by show y.bins.length - (k.1 + 1) < y.bins.length - k.1; omega)
  (refine c9.mk' ?_ ?_ <;> (repeat' (first | exact aH | exact aI | refine aB ?_ (Ty.aW _) | refine aB ?_ (Ty.aF _))))
  all_goals skip
 refine cQ (aR (aR (au rfl (aC (aE (aE (aA ?_)))))))
 refine aS rfl rfl rfl rfl rfl (by decide) ?_
 refine aM rfl rfl rfl rfl (cz rfl rfl rfl (bO rfl (aD (aC (ak ?_)))))
 refine cV (fun (m : {k : Nat // k ≤ y.moves.length ∧ ∀ i, i < k → (nth y.moves i).sacks.lo ≤ nth a.b8 i ∧ nth a.b8 i ≤ (nth y.moves i).sacks.hi}) => live [(2, Ty.pp (bk y)), (3, Ty.pp (fD a)), (62, Ty.sl dN y.moves), (63, Ty.int .i64 y.moves.length), (64, Ty.int .i64 (m.1 : Nat))] []) (fun m => y.moves.length - m.1) (⟨0, Nat.zero_le _, fun b h => absurd h (Nat.not_lt_zero b)⟩) ?_ fun m => ?_
 ·(refine c9.mk' ?_ ?_ <;> (repeat' (first | exact aH | exact aI | refine aB ?_ (Ty.aW _) | refine aB ?_ (Ty.aF _))))
 have hm := m.2.1
 refine aE (aA (bD rfl rfl rfl (aD (aC (aE ?_)))))
 refine av rfl (fun hc6 => ?_) (fun hc6 => ?_)
 ·
  refine aj (aC (aE (ak (aE (aA (bO rfl ?_))))))
  refine bN rfl rfl rfl rfl rfl rfl (by omega) ?_
  refine aa rfl rfl rfl (by exact Nat.le_of_ble_eq_true rfl) ?_
  refine bz rfl (by exact List.cons_ne_nil _ _) rfl ?_
  refine cF rfl ?_
  refine bu rfl rfl (by decide) rfl rfl rfl rfl rfl rfl ?_
  refine aD (aC (aE (cN mixed rfl ?_)))
  refine aS rfl rfl rfl rfl rfl (by decide) ?_
  refine aM rfl rfl rfl rfl (bO rfl ?_)
  refine bN rfl rfl rfl rfl rfl rfl (by omega) ?_
  refine aM rfl rfl rfl rfl ?_
  refine aK rfl rfl rfl rfl rfl (by decide) ?_
  refine bT rfl rfl (by decide) rfl rfl (by exact Nat.le_of_ble_eq_true rfl) ?_
  refine ay (oB _ _) rfl rfl rfl rfl rfl (dn rfl (aD ?_))
  refine ⟨by kernel_rfl, ?_⟩
  refine aC ?_
  refine cW rfl (fun hc7 => ?_) (fun hc7 => ?_)
  ·
   refine aE (aA (dZ rfl (aD (aC (bC (bG (aX (aX (bG ?_)))))))))
   refine aX (bl rfl rfl ?_)
   all_goals skip
   exact bE rfl rfl (congrArg Ty.bool (MC (k := m.1) (by omega) hc7))
  refine aj (bQ (aC (aA ?_)))
  refine bg rfl rfl (by omega) (by omega) ?_
  refine bO rfl (aD ?_)
  refine bV (⟨m.1 + 1, by omega, fun i h => (Nat.lt_succ_iff_lt_or_eq.1 h).elim (m.2.2 i) fun e => by subst e; exact uM hc7⟩) ?_ (by show y.moves.length - (m.1 + 1) < y.moves.length - m.1; omega)
  (refine c9.mk' ?_ ?_ <;> (repeat' (first | exact aH | exact aI | refine aB ?_ (Ty.aW _) | refine aB ?_ (Ty.aF _))))
  all_goals skip
 refine cQ (aR (aR (au rfl (aC (aE (aA ?_))))))
 refine aS rfl rfl rfl rfl rfl (by decide) ?_
 refine aM rfl rfl rfl rfl (dH rfl ?_)
 refine ay (ko y.levels (Ty.jM 85 [Ty.pp (bk y), Ty.pp (fD a)]) rfl (fun l => !oS (cX y a l.bin l.day) l.sacks) rfl rfl (fun l h => dO (Io y a ha l (hr.level l h).2.1.1 (by have := (hr.level l h).2.1; omega)) rfl rfl rfl rfl rfl rfl)) rfl rfl rfl rfl rfl ?_
 refine dn rfl (dZ rfl (aD (aC (bC (bl rfl rfl ?_)))))
 all_goals skip
 exact bE rfl rfl (congrArg Ty.bool (L9 hr hl (fun b hb => k.2.2 b (by omega)) (fun i hi => m.2.2 i (by omega))))
end Go.Proofs.YtelbollidfdcjaaGreat
namespace Go.Proofs.YtelbollidfdcjaaGreat
open Go Go.T
def aV (g : List Int) : Md := ⟨n7 g, 5, 4, 8, 6⟩
theorem AH (g : List Int) : (aV g).Ok := ⟨by show (1 : Int) ≤ 5 ∧ (5 : Int) ≤ 5; omega, by show (1 : Int) ≤ 4 ∧ (4 : Int) ≤ 4; omega, by show (0 : Int) ≤ 8 ∧ (8 : Int) ≤ 10; omega, by show (0 : Int) ≤ 6 ∧ (6 : Int) ≤ 8; omega⟩
def wY (v : Bool) (d : Md) : bB := if v = true then qA d.dP else d.dP
def wA (v : Bool) (d : Md) : eK := if v = true then An d.dP d.real else d.real
section
variable {d : Md} {v : Bool} {c : Nat → Bool} {y : bB} {b t k n : Nat} {l : List s7}
theorem zF (h : v = true) : qA d.dP = wY v d := (if_pos h).symm
theorem DV (h : v = false) : d.dP = wY v d := (if_neg (by rw [h]; decide)).symm
theorem Hg (h : v = true) : An d.dP d.real = wA v d := (if_pos h).symm
theorem J4 (h : v = false) : d.real = wA v d := (if_neg (by rw [h]; decide)).symm
theorem uy (d : Md) : ∀ x ∈ d.real.first, 0 ≤ x ∧ x ≤ 59 := (d.pO d.nb).first
theorem CB (hd : d.Ok) : ∀ x ∈ d.real.b8, 0 ≤ x ∧ x ≤ 39 := (d.pU hd d.many (Nat.le_refl _)).num
theorem Fv (hd : d.Ok) : (wY v d).cm := by
  cases v with
  | true => exact yD (d.right hd)
  | false => exact d.right hd
theorem Cq (hd : d.Ok) : gQ (wY v d) c (wA v d) := by
  cases v with
  | true => exact Ft (d.right hd) (d.fits hd (fun _ => true)) (fun x hx => by have := uy d x hx; omega) c
  | false => exact d.fits hd c
theorem IA (hd : d.Ok) : Mn (wA v d) := by
  have h1 := uy d
  have h2 := CB hd
  have h3 := (d.lens hd).2.2.2
  have h4 := (d.uP hd).1
  have h5 := (d.lens hd).1.2
  cases v with
  | true =>
    refine ⟨?_, fun x hx => ?_, fun x hx => ?_⟩
    · show (List.replicate _ 0).length ≤ 1000; rw [List.length_replicate]; have := rD d.dP.moves; omega
    · have := h1 x hx; omega
    · have := (List.mem_replicate.1 hx).2; omega
  | false =>
    refine ⟨?_, fun x hx => ?_, fun x hx => ?_⟩
    · show d.real.b8.length ≤ 1000; omega
    · have := h1 x hx; omega
    · have := h2 x hx; omega
theorem Kr (h : v = true) : ∀ i, i < (wY v d).moves.length → (nth (wY v d).moves i).src ≠ -1 ∧ (nth (wY v d).moves i).dst ≠ -1 := by
 subst h; exact Fa
def lM (l : List s7) (k : Nat) : List s7 := (l.take k).map q7 ++ l.drop k
theorem CN : l = lM l 0 := rfl
theorem E0 : (lM l k).length = l.length := by unfold lM; rw [List.length_append, List.length_map, List.length_take, List.length_drop]; omega
theorem Dv (h : l.length ≤ k) : lM l k = l.map q7 := by unfold lM; rw [List.take_of_length_le h, List.drop_of_length_le h, List.append_nil]
theorem Eb (h : k < l.length) : (lM l k).set k ⟨300, (nth (lM l k) k).first⟩ = lM l (k + 1) := by
 have e : ((l.take k).map q7).length = k := by rw [List.length_map, List.length_take]; omega
 have e2 : l.drop k = nth l k :: l.drop (k + 1) := by rw [iI h]; exact List.drop_eq_getElem_cons h
 have e3 : nth (lM l k) k = nth l k := by
  unfold lM
  rw [e2]
  have h2 := mH (l := (l.take k).map q7) (k := nth l k :: l.drop (k + 1)) (i := 0)
  rw [e, Nat.add_zero] at h2
  exact h2
 rw [e3]
 unfold lM
 rw [List.set_append_right _ _ (by omega), e, Nat.sub_self, e2, List.set_cons_zero, dS h, List.map_append, List.append_assoc]; rfl
def jD (f : Nat → Nat → Int) (n b t : Nat) : List Int := (List.range n).map fun s => if s < t then f (b + 1) s else f b s
variable {f : Nat → Nat → Int}
theorem jH : (jD f n b t).length = n := by unfold jD; rw [List.length_map, List.length_range]
theorem rU (h : k < n) : nth (jD f n b t) k = if k < t then f (b + 1) k else f b k := by unfold jD; rw [ia _ h]
theorem z4 (h : t < n) : nth (jD f n b t) t = f b t := by rw [rU h, if_neg (Nat.lt_irrefl _)]
theorem x8 (h : k < n) : nth (jD f n b 0) k = f b k := by rw [rU h, if_neg (Nat.not_lt_zero _)]
theorem BQ (h : t < n) : (jD f n b t).set t (f (b + 1) t) = jD f n b (t + 1) := by
 refine s9 (by rw [List.length_set, jH, jH]) fun i hi => ?_
 rw [List.length_set, jH] at hi
 rw [iz (by rw [jH]; exact hi), rU hi, rU hi]
 by_cases e : t = i
 ·subst e; rw [if_pos rfl, if_pos (Nat.lt_succ_self _)]
 rw [if_neg e]
 by_cases e2 : i < t
 ·rw [if_pos e2, if_pos (by omega)]
 rw [if_neg e2, if_neg (by omega)]
theorem HB (h : n ≤ t) : jD f n b t = jD f n (b + 1) 0 := by
 unfold jD
 refine List.map_congr_left fun s hs => ?_
 have := List.mem_range.1 hs
 rw [if_pos (by omega), if_neg (Nat.not_lt_zero _)]
theorem yQ (h : ∀ s, f 0 s = 0) : List.replicate n (0 : Int) = jD f n 0 0 := by
 refine s9 (by rw [jH, List.length_replicate]) fun i hi => ?_
 rw [List.length_replicate] at hi
 rw [rU hi, if_neg (Nat.not_lt_zero _), h, vS]
noncomputable def uN (y : bB) (b t : Nat) : Int := cg (fun b => (nth (eN y (b : Nat)) t).lo) b
noncomputable def uO (y : bB) (b t : Nat) : Int := cg (fun b => (nth (eN y (b : Nat)) t).hi) b
theorem Dh (ho : cO y = 0) (hb : b < y.bins.length) (ht : t ≤ y.D) : 0 ≤ (nth (eN y (b : Nat)) t).lo ∧ (nth (eN y (b : Nat)) t).lo ≤ 300 ∧ 0 ≤ (nth (eN y (b : Nat)) t).hi ∧ (nth (eN y (b : Nat)) t).hi ≤ 300 := by
 have h := nq ho hb ht
 have hh := ((cr (dM ho)).bin _ (cM hb)).1
 obtain ⟨a, ha, e⟩ := h.lo
 obtain ⟨a', ha', e'⟩ := h.hi
 have h1 := ha.cont b t hb ht
 have h2 := ha'.cont b t hb ht
 rw [← e, ← e']
 omega
theorem Gx (ho : cO y = 0) (ht : t ≤ y.D) : ∀ k, k ≤ y.bins.length → (0 ≤ uN y k t ∧ uN y k t ≤ 300 * (k : Int)) ∧ 0 ≤ uO y k t ∧ uO y k t ≤ 300 * (k : Int)
  | 0, _ => by show (0 ≤ (0 : Int) ∧ (0 : Int) ≤ 300 * ((0 : Nat) : Int)) ∧ 0 ≤ (0 : Int) ∧ (0 : Int) ≤ 300 * ((0 : Nat) : Int); omega
  | k + 1, hk => by
    have ih := Gx ho ht k (by omega)
    have h := Dh ho (b := k) (t := t) (by omega) ht
    show (0 ≤ uN y k t + (nth (eN y (k : Nat)) t).lo ∧ uN y k t + (nth (eN y (k : Nat)) t).lo ≤ _) ∧ 0 ≤ uO y k t + (nth (eN y (k : Nat)) t).hi ∧ uO y k t + (nth (eN y (k : Nat)) t).hi ≤ _
    omega
end
end Go.Proofs.YtelbollidfdcjaaGreat
namespace Go.Proofs.YtelbollidfdcjaaGreat
open Go Go.T
set_option maxHeartbeats 8000000
section
variable {y : bB} {b : Nat} {n w : Int} {p q : Span → Bool}
theorem Hl (ho : cO y = 0) (hb : b < y.bins.length) : (!decide ((0 : Int) = 0) || !decide (((eN y (b : Nat)).length : Int) = y.days + 1)) = false := by
 rw [uo ho hb]
 have := D_eq (cr (dM ho))
 simp; omega
end
attribute [local irreducible] Md.dP Md.real eN jT cO m4 j5
attribute [local irreducible] iw fu nh ru jS jR jO jN jQ rZ jL rj eO gy rY g9 rX nth fT dg aq eA bodyPost Exit.then Exit.inBlock Code.wp Code.wpIn rm jU rq rW jP eT ct cx bodyPostM eU
end Go.Proofs.YtelbollidfdcjaaGreat
namespace Go.Proofs.YtelbollidfdcjaaGreat
open Go Go.T
set_option maxHeartbeats 8000000
theorem Iu (g : List Int) : eT Tryz.prog 17 [1000] [(1000, Cont.cells 149 (dK (n7 g)))] [Ty.ptr 1000 0, Ty.int .i64 5, Ty.int .i64 4, Ty.int .i64 8, Ty.int .i64 6] [(1000, Cont.cells 149 (dK (aV g).sk))] (Ty.j3 [fK (aV g).dP, pR (aV g).real]) :=
 KN (aV g) (AH g) (by have := E7 g; exact ⟨this.1, by have := this.2; show (n7 g).taken + 1000 ≤ _; omega⟩)
section
variable {y : bB} {a : eK} {b t k : Nat} {v : Bool}
theorem Gk (ho : cO y = 0) : (!decide ((0 : Int) = 0) || !decide (((eH y).length : Int) = y.days + 1)) = false := by
 rw [AB ho]
 have := D_eq (cr (dM ho))
 simp; omega
theorem Fg {l : List Move} {b : Nat} (h : (!(l.any fun m => decide (m.src = (b : Int)) || decide (m.dst = (b : Int)))) = true) : ∀ i, i < l.length → (nth l i).src ≠ (b : Int) ∧ (nth l i).dst ≠ (b : Int) := fun i hi => by
 rw [Bool.not_eq_true', List.any_eq_false] at h
 have := h _ (cM hi)
 simpa using this
theorem Lf (ho : cO y = 0) (hb : b < y.bins.length) (ht : t ≤ y.D) {q : Bool} (hq : q = !(y.moves.any fun m => decide (m.src = (b : Int)) || decide (m.dst = (b : Int)))) : (q && !(decide ((nth (eN y (b : Nat)) t).lo = (nth (eN y (b : Nat)) 0).lo) && decide ((nth (eN y (b : Nat)) t).hi = (nth (eN y (b : Nat)) 0).hi))) = false := by
  cases q with
  | false => rfl
  | true => rw [GK ho hb ht (Fg hq.symm)]; simp
end
theorem HP (y : bB) : y.days = (qA y).days := rfl
theorem EK (y : bB) (a : eK) : a.first = (An y a).first := rfl
theorem KZ {α : Type} {E : El α} {xs : List α} (h : [] = xs) : (Ty.ex (.slice none 0 0)).Sub (Ty.sl E xs) := by subst h; exact Ty.sv
def cS (y : bB) (a : eK) (s : Nat) : Nat → Int := cg fun b => cX y a ((b : Nat) : Int) ((s : Nat) : Int)
theorem F9 {y : bB} {a : eK} {s : Nat} : cS y a s y.bins.length = sQ y a s := dw fun b _ => kj
theorem A4 {y : bB} {a : eK} {s : Nat} {c : Nat → Bool} (hr : y.cm) (hf : gQ y c a) (hs : s ≤ y.D) : ∀ k, k ≤ y.bins.length → 0 ≤ cS y a s k ∧ cS y a s k ≤ 300 * (k : Int)
  | 0, _ => by show 0 ≤ (0 : Int) ∧ (0 : Int) ≤ 300 * ((0 : Nat) : Int); omega
  | k + 1, hk => by
    have ih := A4 hr hf hs k (by omega)
    have h := hf.cont k s (by omega) hs
    have hh := (hr.bin _ (cM (show k < y.bins.length by omega))).1
    rw [← kj] at h
    show 0 ≤ cS y a s k + cX y a ((k : Nat) : Int) ((s : Nat) : Int) ∧ cS y a s k + cX y a ((k : Nat) : Int) ((s : Nat) : Int) ≤ 300 * ((k + 1 : Nat) : Int)
    omega
theorem GQ {y : bB} {t : Int} (hr : y.cm) : ∀ k, k ≤ y.moves.length → (0 ≤ qQ y t k ∧ qQ y t k ≤ 300 * (k : Int)) ∧ 0 ≤ lA y t k ∧ lA y t k ≤ 300 * (k : Int)
  | 0, _ => by show (0 ≤ (0 : Int) ∧ (0 : Int) ≤ 300 * ((0 : Nat) : Int)) ∧ 0 ≤ (0 : Int) ∧ (0 : Int) ≤ 300 * ((0 : Nat) : Int); omega
  | k + 1, hk => by
    have ih := GQ (t := t) hr k (by omega)
    have h := hr.move _ (cM (show k < y.moves.length by omega))
    refine ⟨?_, ?_⟩
    · show 0 ≤ qQ y t k + (if _ then _ else _) ∧ qQ y t k + (if _ then _ else _) ≤ _
      split <;> omega
    · show 0 ≤ lA y t k + (if _ then _ else _) ∧ lA y t k + (if _ then _ else _) ≤ _
      split <;> omega
theorem Gr {y : bB} {t : Int} {k : Nat} (h : (decide ((nth y.moves k).day = t) && decide ((nth y.moves k).src = -1)) = true) : qQ y t k + (nth y.moves k).sacks.hi = qQ y t (k + 1) := by show _ = qQ y t k + (if _ then _ else _); rw [if_pos h]
theorem Jf {y : bB} {t : Int} {k : Nat} (h : (decide ((nth y.moves k).day = t) && decide ((nth y.moves k).src = -1)) = false) : qQ y t k = qQ y t (k + 1) := by show _ = qQ y t k + (if _ then _ else _); rw [if_neg (by rw [h]; decide), Int.add_zero]
theorem C7 {y : bB} {t : Int} {k : Nat} (h : (decide ((nth y.moves k).day = t) && decide ((nth y.moves k).dst = -1)) = true) : lA y t k + (nth y.moves k).sacks.hi = lA y t (k + 1) := by show _ = lA y t k + (if _ then _ else _); rw [if_pos h]
theorem H6 {y : bB} {t : Int} {k : Nat} (h : (decide ((nth y.moves k).day = t) && decide ((nth y.moves k).dst = -1)) = false) : lA y t k = lA y t (k + 1) := by show _ = lA y t k + (if _ then _ else _); rw [if_neg (by rw [h]; decide), Int.add_zero]
theorem MM {y : bB} {a : eK} {v : Bool} {s : Nat} (ho : cO y = 0) (hs : s ≤ y.D) (hf : gQ y (nth bZ) a) (hv : v = true → ∀ i, i < y.moves.length → (nth y.moves i).src ≠ -1 ∧ (nth y.moves i).dst ≠ -1) : (((decide ((nth (eH y) s).lo < nth (jD (uN y) (y.D + 1) y.bins.length 0) s) || decide ((nth (eH y) s).hi > nth (jD (uO y) (y.D + 1) y.bins.length 0) s)) || !oS (cS y a s y.bins.length) (nth (eH y) s)) || (v && !(decide ((nth (eH y) s).lo = (nth (eH y) 0).lo) && decide ((nth (eH y) s).hi = (nth (eH y) 0).hi)))) = false := by
  have h1 := F7 ho hs
  have h2 := Bq ho hs hf
  rw [x8 (by omega), x8 (by omega), F9]
  have e1 : decide ((nth (eH y) s).lo < uN y y.bins.length s) = false := decide_eq_false (by unfold uN; omega)
  have e2 : decide ((nth (eH y) s).hi > uO y y.bins.length s) = false := decide_eq_false (by unfold uO; omega)
  have e3 : oS (sQ y a s) (nth (eH y) s) = true := by unfold oS; simp; exact h2
  rw [e1, e2, e3]
  cases v with
  | false => rfl
  | true => rw [EY ho hs (hv rfl)]; simp
theorem I2 {y : bB} {s : Nat} (ho : cO y = 0) (hs : s ≤ y.D) : (0 ≤ (nth (eH y) s).lo ∧ (nth (eH y) s).lo ≤ 1200) ∧ 0 ≤ (nth (eH y) s).hi ∧ (nth (eH y) s).hi ≤ 1200 := by
 have hr := cr (dM ho)
 have hb := hr.bins
 obtain ⟨a, ha, e⟩ := (kf ho hs).lo
 obtain ⟨a', ha', e'⟩ := (kf ho hs).hi
 have h1 := A4 hr ha hs y.bins.length (Nat.le_refl _)
 have h2 := A4 hr ha' hs y.bins.length (Nat.le_refl _)
 rw [F9] at h1 h2
 have e : sQ y a s = _ := e
 have e' : sQ y a' s = _ := e'
 rw [← e, ← e']; omega
theorem LU {y : bB} {s : Nat} (ho : cO y = 0) (h1 : ¬ ((s : Nat) : Int) = 0) (hs : s ≤ y.D) : (decide ((nth (eH y) s).hi > (nth (eH y) (((s : Nat) : Int) - 1).toNat).hi + qQ y (((s : Nat) : Int) - 1) y.moves.length) || decide ((nth (eH y) s).lo < (nth (eH y) (((s : Nat) : Int) - 1).toNat).lo - lA y (((s : Nat) : Int) - 1) y.moves.length)) = false := by
 obtain ⟨t, rfl⟩ : ∃ t, s = t + 1 := ⟨s - 1, by omega⟩
 have e : ((t + 1 : Nat) : Int) - 1 = t := by omega
 rw [e, Int.toNat_natCast]
 have := Gs ho hs
 rw [decide_eq_false (by omega), decide_eq_false (by omega)]; rfl
attribute [local irreducible] Md.dP Md.real eN jT eH cO aV wY wA jD uN uO nP cX nX lM oS
attribute [local irreducible] iw fu nh ru jS jR jO jN jQ rZ jL rj eO gy rY g9 rX nth fT dg aq eA bodyPost Exit.then Exit.inBlock Code.wp Code.wpIn rm jU rq rW jP eT ct cx bodyPostM eU
set_option maxRecDepth 100000 in
theorem EF (l : List s7) (h : l.length ≤ 1000) : eT Tryz.prog 19 [] [] [Ty.sl eG l] [] (Ty.row eG 39 6 l) := by
 refine dj Tryz.func19 rfl (by decide) Tryz.ntmps19 (by exact Nat.le_of_ble_eq_true rfl) fun w0 M0 => ?_
 refine aE (aA (mI rfl (aD (aC (aE (aA (gC rfl (cz rfl rfl rfl ?_))))))))
 refine IM (E := eG) rfl rfl rfl rfl rfl rfl rfl (by decide) rfl (by omega) (by (dsimp only; omega)) (by omega) ?_
 refine gC rfl ?_
 refine fO rfl rfl (by decide) rfl rfl rfl rfl rfl rfl (by decide) (by (simp <;> omega)) (by (simp <;> omega)) ?_
 refine G4 rfl (aD (aC (bC ?_)))
 refine fm [6] rfl rfl (by decide) (by repeat (exact fB)) ?_
 all_goals skip
 all_goals exact fQ (wQ (by decide))
set_option maxRecDepth 100000 in
theorem KY (m : Move) (b : Int) : eA Tryz.prog 24 [Ty.agg (dN.tys m), Ty.pp [Ty.int .i64 b]] (Ty.bool (decide (m.src = b) || decide (m.dst = b))) := by
 refine az Tryz.func24 rfl (by decide) Tryz.ntmps24 (by exact Nat.le_of_ble_eq_true rfl) fun w0 M0 => ?_
 refine aE (aA (bM rfl (dZ rfl (aD (aC (aE (aA ?_)))))))
 refine aS rfl rfl rfl rfl rfl (by decide) ?_
 refine aM rfl rfl rfl rfl (aM rfl rfl rfl rfl (bD rfl rfl rfl (gO rfl ?_)))
 apply aT (s := 8) rfl rfl rfl
 ·intro hg; apply aU; (refine aS rfl rfl rfl rfl rfl (by decide) ?_); refine aD ?_; exact rfl
 ·exact rfl
 ·exact rfl
 apply aT (s := 8) rfl rfl rfl
 ·intro hg; apply aN (s := 9) rfl (by (rw [hg]; rfl)); apply aU; (refine aM rfl rfl rfl rfl ?_); refine aD ?_; exact rfl
 ·exact rfl
 ·exact rfl
 apply aT (s := 8) rfl rfl rfl
 ·intro hg; apply aU; (refine aM rfl rfl rfl rfl ?_); refine aD ?_; exact rfl
 ·exact rfl
 ·exact rfl
 apply aT (s := 8) rfl rfl rfl
 ·intro hg; apply aN (s := 10) rfl (by (rw [hg]; rfl)); apply aN (s := 11) rfl (by (rw [hg]; rfl)); apply aU; (refine bD rfl rfl rfl ?_); refine aD ?_; exact rfl
 ·exact rfl
 ·exact rfl
 refine n4 rfl rfl (dZ rfl (aD (aC (bC (bl rfl rfl ?_)))))
 all_goals exact cI rfl rfl
set_option maxRecDepth 100000 in
theorem zQ (g : List Int) (v : Bool) : eA Tryz.prog 3 [Ty.sl U8 g, Ty.bool v] (Ty.bool true) := by
 refine az Tryz.func3 rfl (by decide) Tryz.ntmps3 (by exact Nat.le_of_ble_eq_true rfl) fun w0 M0 => ?_
 have hd := AH g
 have hr0 := (aV g).right hd
 have z1 := hr0.bins
 have z2 := hr0.moves
 have hr : (wY v (aV g)).cm := Fv hd
 have hf := Cq (v := v) (c := nth bZ) hd
 have hfT := Cq (v := v) (c := fun _ => true) hd
 have ho := BV (D1 hr) ⟨_, hf⟩
 have hyb := hr.bins
 have hym := hr.moves
 have hyl := hr.levels
 have hyd := hr.days
 have hs : (wY v (aV g)).Small := ⟨by omega, by omega, by omega⟩
 have hD := D_eq hr
 have hds : (aV g).s = n7 g := by unfold aV; rfl
 refine aE (aA (dZ rfl (aD (aC (aE (aA (gC rfl ?_)))))))
 refine cD [(31, 10)] [31] [(31, Cont.cells 149 (dK (n7 g)))] (LL g) rfl rfl (by repeat (first | exact bK | refine aJ ?_ ?_ | exact aO rfl rfl)) pre_nil (bL (a := 31) (b := 10) (by exact List.mem_cons_self) rfl (bH (by exact List.mem_cons_self) rfl rfl rfl) post_nil) (dr (by exact List.mem_cons_self)) ?_
 refine cD (res' := Ty.j3 [fK (aV g).dP, pR (aV g).real]) [(31, 1000)] [] [(31, Cont.cells 149 (dK (aV g).sk))] (Iu g) rfl rfl (by repeat (first | exact bK | refine aJ ?_ ?_ | exact dr List.mem_cons_self | exact aO rfl rfl)) (cC (a := 31) (b := 1000) (by exact List.mem_cons_self) rfl (bH (by exact List.mem_cons_self) rfl rfl rfl) pre_nil) (bL (a := 31) (b := 1000) (by exact List.mem_cons_self) rfl (bH (by exact List.mem_cons_self) rfl rfl rfl) post_nil) (aO rfl rfl) ?_
 refine sX rfl (bR rfl rfl (bR rfl rfl ?_))
 refine bz rfl (by exact List.cons_ne_nil _ _) rfl ?_
 refine bz rfl (by exact List.cons_ne_nil _ _) rfl ?_
 refine bu rfl rfl (by decide) rfl rfl rfl rfl rfl rfl ?_
 refine bu rfl rfl (by decide) rfl rfl rfl rfl rfl rfl ?_
 refine aD (aC ?_)
 refine j9 (J := live [(1, Ty.bool v), (5, Ty.ptr 6 0), (6, Ty.ptr 7 0)] [(6, Cont.cells 27 (bk (wY v (aV g)))), (7, Cont.cells 30 (fD (wA v (aV g))))]) ?_ ?_
 ·
  refine aE ?_
  refine eS (B := live [(1, Ty.bool v), (5, Ty.ptr 6 0), (6, Ty.ptr 7 0)] [(6, Cont.cells 27 (bk (aV g).dP)), (7, Cont.cells 30 (fD (aV g).real))]) ?_ ?_
  ·(refine c9.mk' ?_ ?_ <;> (repeat' (first | exact aH | exact aI | refine aB ?_ (Ty.aW _) | refine aB ?_ (Ty.aF _) | refine aG rfl (Cont.aF _) ?_)))
  refine aA (gO rfl (aD (aC ?_)))
  refine cW rfl (fun hc1 => ?_) (fun hc1 => ?_)
  ·
   refine aE (cN mixed rfl ?_)
   refine aK rfl rfl rfl rfl rfl (by decide) ?_
   refine aP rfl rfl (by decide) rfl rfl rfl ?_
   refine aK rfl rfl rfl rfl rfl (by decide) ?_
   refine aP rfl rfl (by decide) rfl rfl rfl ?_
   refine cD (res' := Ty.row eG 39 40 (aV g).dP.bins) [(40, 6)] [40] [] (EF (aV g).dP.bins (by omega)) rfl rfl (by repeat (first | exact bK | refine aJ ?_ ?_ | exact aO rfl rfl)) pre_nil post_nil (wQ (by exact List.mem_cons_self)) ?_
   refine dD rfl rfl (by exact List.cons_ne_nil _ _) rfl (by repeat (first | exact (aY.nil : aY _ _ [] _) | (show aY _ _ ((_, _) :: _) _; apply aY.one; (· first | exact (rfl : _ = Ty.int _ _) | exact (rfl : _ = Ty.row _ _ _ _)); (· exact rfl)))) (by exact (rfl : _ = some [_, _, _, _])) ?_
   refine bz rfl (by exact List.cons_ne_nil _ _) rfl ?_
   refine bu rfl rfl (by decide) rfl rfl rfl rfl rfl rfl ?_
   refine aD ?_
   refine ⟨by kernel_rfl, ?_⟩
   refine aC (aE (aE ?_))
   refine kU (c0 := 8) 1 rfl rfl ?_
   refine gL (tg := 8) rfl (Cont.eM (l' := [Ty.int .i64 (aV g).dP.days, Ty.vs 40 (aV g).dP.bins.length, Ty.ex (.slice none 0 0), Ty.ex (.slice none 0 0)]) ⟨Ty.aF _, Ty.sD rfl, Ty.aF _, Ty.aF _, trivial⟩) ?_
   refine eS (B := live [(1, Ty.bool v), (5, Ty.ptr 6 0), (6, Ty.ptr 7 0), (7, Ty.ptr 8 0)] [(6, Cont.cells 27 (bk (aV g).dP)), (7, Cont.cells 30 (fD (aV g).real)), (8, Cont.cells 27 [Ty.int .i64 (aV g).dP.days, Ty.vs 40 (aV g).dP.bins.length, Ty.ex (.slice none 0 0), Ty.ex (.slice none 0 0)]), (40, Cont.vec eG 39 (aV g).dP.bins)]) ?_ ?_
   ·refine c9.mk' ?_ ?_
    ·(repeat (first | refine aB ?_ (Ty.aW _) | refine aB ?_ (Ty.aF _))); exact aH
    refine aG rfl (Cont.aF _) ?_; refine aG rfl (Cont.aF _) ?_; refine aG rfl (Cont.aF _) ?_; refine aG rfl (Cont.aF _) ?_; exact aI
   refine aA ?_
   refine aK rfl rfl rfl rfl rfl (by decide) ?_
   refine aP rfl rfl (by decide) rfl rfl rfl ?_
   refine va rfl rfl rfl (bO rfl (aD (aC (ak ?_))))
   refine cV (fun (k : {k : Nat // k ≤ (aV g).dP.bins.length}) => live [(1, Ty.bool v), (5, Ty.ptr 6 0), (6, Ty.ptr 7 0), (7, Ty.ptr 8 0), (44, Ty.int .i64 (aV g).dP.bins.length), (45, Ty.int .i64 (k.1 : Nat))] [(6, Cont.cells 27 (bk (aV g).dP)), (7, Cont.cells 30 (fD (aV g).real)), (8, Cont.cells 27 [Ty.int .i64 (aV g).dP.days, Ty.vs 40 (aV g).dP.bins.length, Ty.ex (.slice none 0 0), Ty.ex (.slice none 0 0)]), (40, Cont.vec eG 39 (lM (aV g).dP.bins k.1))]) (fun k => (aV g).dP.bins.length - k.1) (⟨0, by omega⟩) ?_ fun k => ?_
   ·(refine c9.mk' ?_ ?_ <;> (repeat' (first | exact aH | exact aI | refine aB ?_ (Ty.aW _) | refine aB ?_ (Ty.aF _) | refine aG rfl (Cont.aF _) ?_ | refine aG rfl ?_ ?_)))
    all_goals exact Cont.dR CN
   have hk := k.2
   have hwl := E0 (l := (aV g).dP.bins) (k := k.1)
   refine aE (aA (bD rfl rfl rfl (aD (aC (aE ?_)))))
   refine av rfl (fun hc2 => ?_) (fun hc2 => ?_)
   ·
    refine aj (aC (aE (ak (aE (aA (bO rfl (cF rfl (aD (aC ?_)))))))))
    refine aA ?_
    refine aK rfl rfl rfl rfl rfl (by decide) ?_
    refine aP rfl rfl (by decide) rfl rfl rfl ?_
    refine bO rfl ?_
    refine dF rfl rfl rfl rfl rfl (by omega) ?_
    refine aK rfl rfl rfl rfl rfl (by decide) ?_
    refine qj (E := eG) (z := ⟨300, (nth (lM (aV g).dP.bins k.1) k.1).first⟩) rfl rfl rfl (by decide) rfl rfl (by exact (rfl : _ = Ty.int _ _)) rfl (by omega) (by decide) rfl rfl ?_
    refine aD (bQ (aC (aA ?_)))
    refine bg rfl rfl (by omega) (by omega) ?_
    refine bO rfl (aD ?_)
    refine bV (⟨k.1 + 1, by omega⟩) ?_ (by show (aV g).dP.bins.length - (k.1 + 1) < (aV g).dP.bins.length - k.1; omega)
    (refine c9.mk' ?_ ?_ <;> (repeat' (first | exact aH | exact aI | refine aB ?_ (Ty.aW _) | refine aB ?_ (Ty.aF _) | refine aG rfl (Cont.aF _) ?_ | refine aG rfl ?_ ?_)))
    all_goals skip
    all_goals exact Cont.dR (Eb (by omega))
   refine cQ (aR (aR (au rfl (aC (aE (aE ?_))))))
   obtain ⟨k, hk⟩ := k
   obtain rfl : k = (aV g).dP.bins.length := by have h1 : ¬ (k : Int) < ((aV g).dP.bins.length : Int) := hc2; have h2 : k ≤ (aV g).dP.bins.length := hk; omega
   refine gL (tg := 40) rfl (Cont.dR (Dv (Nat.le_refl _))) ?_
   refine k6 (tg := 40) [] [(8, Cont.cells 27 [Ty.int .i64 (aV g).dP.days, Ty.sl eG ((aV g).dP.bins.map q7), Ty.ex (.slice none 0 0), Ty.ex (.slice none 0 0)])] (by decide) rfl trivial ⟨fP rfl rfl ⟨bY rfl, jr rfl (List.length_map _) (by decide), bY rfl, bY rfl, trivial⟩, trivial⟩ ?_
   refine aA ?_
   refine aK rfl rfl rfl rfl rfl (by decide) ?_
   refine aP rfl rfl (by decide) rfl rfl rfl ?_
   refine cz rfl rfl rfl (bO rfl (aD (aC (ak ?_))))
   refine cV (fun (k : {k : Nat // k ≤ (aV g).dP.moves.length}) => live [(1, Ty.bool v), (5, Ty.ptr 6 0), (6, Ty.ptr 7 0), (7, Ty.ptr 8 0), (55, Ty.sl dN (aV g).dP.moves), (56, Ty.int .i64 (aV g).dP.moves.length), (57, Ty.int .i64 (k.1 : Nat))] [(6, Cont.cells 27 (bk (aV g).dP)), (7, Cont.cells 30 (fD (aV g).real)), (8, Cont.cells 27 [Ty.int .i64 (aV g).dP.days, Ty.sl eG ((aV g).dP.bins.map q7), Ty.row dN 41 75 (nX ((aV g).dP.moves.take k.1)), Ty.ex (.slice none 0 0)])]) (fun k => (aV g).dP.moves.length - k.1) (⟨0, by omega⟩) ?_ fun k => ?_
   ·(refine c9.mk' ?_ ?_ <;> (repeat' (first | exact aH | exact aI | exact c7 | refine aB ?_ (Ty.aW _) | refine aB ?_ (Ty.aF _) | refine aG rfl (Cont.aF _) ?_ | refine aG rfl (Cont.c6 ?_) ?_ | refine bS ?_ (Ty.aF _) | refine bS ?_ ?_)))
    all_goals exact jc (by unfold nX; rfl)
   have hk := k.2
   have hil := rD ((aV g).dP.moves.take k.1)
   have hil2 : ((aV g).dP.moves.take k.1).length ≤ k.1 := by rw [List.length_take]; omega
   refine aE (aA (bD rfl rfl rfl (aD (aC (aE ?_)))))
   refine av rfl (fun hc3 => ?_) (fun hc3 => ?_)
   ·
    refine aj (aC (aE (ak (aE (aA ?_)))))
    refine bN rfl rfl rfl rfl rfl rfl (by omega) ?_
    refine aa rfl rfl rfl (by exact Nat.le_of_ble_eq_true rfl) ?_
    refine bz rfl (by exact List.cons_ne_nil _ _) rfl ?_
    refine bu rfl rfl (by decide) rfl rfl rfl rfl rfl rfl ?_
    refine aD (aC (aE (aA ?_)))
    refine aK rfl rfl rfl rfl rfl (by decide) ?_
    refine aP rfl rfl (by decide) rfl rfl rfl ?_
    refine bD rfl rfl rfl (gO rfl ?_)
    apply aT (s := 64) rfl rfl rfl
    ·intro hg; apply aU; (refine aK rfl rfl rfl rfl rfl (by decide) ?_); refine aD ?_; exact rfl
    ·exact rfl
    ·exact rfl
    apply aT (s := 64) rfl rfl rfl
    ·intro hg; apply aN (s := 65) rfl (by (rw [hg]; rfl)); apply aU; (refine aP rfl rfl (by decide) rfl rfl rfl ?_); refine aD ?_; exact rfl
    ·exact rfl
    ·exact rfl
    apply aT (s := 64) rfl rfl rfl
    ·intro hg; apply aN (s := 66) rfl (by (rw [hg]; rfl)); apply aU; (refine bD rfl rfl rfl ?_); refine aD ?_; exact rfl
    ·exact rfl
    ·exact rfl
    refine eL rfl rfl (aD (aC ?_))
    refine cW rfl (fun hc4 => ?_) (fun hc4 => ?_)
    ·
     refine aE (aA ?_)
     refine aK rfl rfl rfl rfl rfl (by decide) ?_
     refine aK rfl rfl rfl rfl rfl (by decide) ?_
     refine cZ rfl rfl (by decide) rfl rfl (by exact (rfl : _ = Ty.int _ _)) rfl (by exact Nat.le_of_ble_eq_true rfl) rfl rfl (by exact rfl) ?_
     refine aD (aC (aA ?_))
     refine aK rfl rfl rfl rfl rfl (by decide) ?_
     refine aP rfl rfl (by decide) rfl rfl rfl ?_
     refine bT rfl rfl (by decide) rfl rfl (by exact Nat.le_of_ble_eq_true rfl) ?_
     refine bp (E := dN) (xs := [EL (nth (aV g).dP.moves k.1)]) rfl rfl rfl rfl rfl (by decide) (by decide) (by repeat (first | exact (aY.nil : aY _ _ [] _) | (show aY _ _ ((_, _) :: _) _; apply aY.agg; (· exact (rfl : _ = Ty.agg _))))) (by exact rfl) rfl ?_
     refine fO rfl rfl (by decide) rfl rfl rfl rfl rfl rfl (by decide) (by (simp <;> omega)) (by (simp <;> omega)) ?_
     refine aK rfl rfl rfl rfl rfl (by decide) ?_
     refine cZ rfl rfl (by decide) rfl rfl (by exact (rfl : _ = Ty.row _ _ _ _)) rfl (by exact Nat.le_of_ble_eq_true rfl) rfl rfl (by exact rfl) ?_
     refine aD (bQ (aC (aA ?_)))
     refine bg rfl rfl (by omega) (by omega) ?_
     refine bO rfl (aD ?_)
     refine bV (⟨k.1 + 1, by omega⟩) ?_ (by show (aV g).dP.moves.length - (k.1 + 1) < (aV g).dP.moves.length - k.1; omega)
     (refine c9.mk' ?_ ?_ <;> (repeat' (first | exact aH | exact aI | exact c7 | refine aB ?_ (Ty.aW _) | refine aB ?_ (Ty.aF _) | refine aG rfl (Cont.aF _) ?_ | refine aG rfl (Cont.c6 ?_) ?_ | refine bS ?_ (Ty.aF _) | refine bS ?_ ?_)))
     all_goals skip
     all_goals exact Ty.fS (by rw [dS (by omega), wZ (show CE (nth (aV g).dP.moves k.1) = true from hc4)])
    refine aj (bQ (aC (aA ?_)))
    refine bg rfl rfl (by omega) (by omega) ?_
    refine bO rfl (aD ?_)
    refine bV (⟨k.1 + 1, by omega⟩) ?_ (by show (aV g).dP.moves.length - (k.1 + 1) < (aV g).dP.moves.length - k.1; omega)
    (refine c9.mk' ?_ ?_ <;> (repeat' (first | exact aH | exact aI | exact c7 | refine aB ?_ (Ty.aW _) | refine aB ?_ (Ty.aF _) | refine aG rfl (Cont.aF _) ?_ | refine aG rfl (Cont.c6 ?_) ?_ | refine bS ?_ (Ty.aF _) | refine bS ?_ ?_)))
    all_goals skip
    all_goals exact Ty.fS (by rw [dS (by omega), zU (show CE (nth (aV g).dP.moves k.1) = false from hc4)])
   refine cQ (aR (aR (au rfl (aC ?_))))
   obtain ⟨k, hk⟩ := k
   obtain rfl : k = (aV g).dP.moves.length := by have h1 : ¬ (k : Int) < ((aV g).dP.moves.length : Int) := hc3; have h2 : k ≤ (aV g).dP.moves.length := hk; omega
   have hil := rD (aV g).dP.moves
   refine k6 (tg := 75) [] [(8, Cont.cells 27 [Ty.int .i64 (aV g).dP.days, Ty.sl eG ((aV g).dP.bins.map q7), Ty.sl dN (nX (aV g).dP.moves), Ty.ex (.slice none 0 0)])] (by decide) rfl trivial ⟨fP rfl rfl ⟨bY rfl, bY rfl, rR (congrArg nX (List.take_of_length_le (Nat.le_refl _))), bY rfl, trivial⟩, trivial⟩ ?_
   refine cN mixed rfl ?_
   refine bT rfl rfl (by decide) rfl rfl (by exact Nat.le_of_ble_eq_true rfl) ?_
   refine aK rfl rfl rfl rfl rfl (by decide) ?_
   refine aP rfl rfl (by decide) rfl rfl rfl ?_
   refine aK rfl rfl rfl rfl rfl (by decide) ?_
   refine aP rfl rfl (by decide) rfl rfl rfl ?_
   refine cz rfl rfl rfl ?_
   refine oa (E := cj) (x0 := 0) rfl rfl rfl rfl rfl rfl rfl (by decide) rfl (by omega) (by (dsimp only; omega)) (by omega) ?_
   refine dD rfl rfl (by exact List.cons_ne_nil _ _) rfl (by repeat (first | exact (aY.nil : aY _ _ [] _) | (show aY _ _ ((_, _) :: _) _; apply aY.one; (· first | exact (rfl : _ = Ty.sl _ _) | exact (rfl : _ = Ty.vs _ _)); (· exact rfl)))) (by exact (rfl : _ = some [_, _])) ?_
   refine bu rfl rfl (by decide) rfl rfl rfl rfl rfl rfl ?_
   refine bu rfl rfl (by decide) rfl rfl rfl rfl rfl rfl ?_
   refine aD ?_
   refine ⟨by kernel_rfl, ?_⟩
   refine K4 (tg := 85) [] [(7, Cont.cells 30 [Ty.sl cj (aV g).real.first, Ty.sl cj (List.replicate (((nX (aV g).dP.moves).length : Int)).toNat 0)])] (by decide) rfl trivial ⟨fP rfl rfl ⟨bY rfl, jr rfl (by simp) (by decide), trivial⟩, trivial⟩ ?_
   refine fJ ?_
   (refine c9.mk' ?_ ?_ <;> (repeat' (first | exact aH | exact aI | exact c7 | refine aB ?_ (Ty.aW _) | refine aB ?_ (Ty.aF _) | refine aG rfl (Cont.c6 ?_) ?_ | refine bS ?_ ?_)))
   all_goals first | exact KZ (congrArg bB.levels (zF hc1)) | exact Ty.fG (congrArg bB.moves (zF hc1)) | exact Ty.fG (congrArg bB.bins (zF hc1)) | exact Ty.ah ((HP _).trans (congrArg bB.days (zF hc1))) | exact Ty.fG ((EK _ _).trans (congrArg eK.first (Hg hc1))) | exact Ty.fG ((congrArg (fun n => List.replicate n (0 : Int)) (Int.toNat_natCast _)).trans (congrArg eK.b8 (Hg hc1)))
  refine aj ?_
  skip
  refine fJ ?_
  (refine c9.mk' ?_ ?_ <;> (repeat' (first | exact aH | exact aI | exact c7 | refine aB ?_ (Ty.aW _) | refine aB ?_ (Ty.aF _) | refine aG rfl (Cont.c6 ?_) ?_ | refine bS ?_ ?_)))
  all_goals first | exact Ty.fG (congrArg bB.moves (DV hc1)) | exact Ty.fG (congrArg bB.bins (DV hc1)) | exact Ty.fG (congrArg bB.levels (DV hc1)) | exact Ty.ah (congrArg bB.days (DV hc1)) | exact Ty.fG (congrArg eK.first (J4 hc1)) | exact Ty.fG (congrArg eK.b8 (J4 hc1))
 refine aE (aE (aA ?_))
 refine bT rfl rfl (by decide) rfl rfl (by exact Nat.le_of_ble_eq_true rfl) ?_
 refine bT rfl rfl (by decide) rfl rfl (by exact Nat.le_of_ble_eq_true rfl) ?_
 refine ay (Kw (wY v (aV g)) (wA v (aV g)) hr (IA hd)) rfl rfl rfl rfl rfl (dn rfl (aD (aC ?_)))
 refine gG rfl (by rw [yO hfT]; rfl) ?_
 refine aj (aC (aE (aA ?_)))
 refine bT rfl rfl (by decide) rfl rfl (by exact Nat.le_of_ble_eq_true rfl) ?_
 refine ay (DA (wY v (aV g)) hs) rfl rfl rfl rfl rfl (sX rfl (bR rfl rfl (bR rfl rfl (Bk rfl (cF rfl (aD (aC (aE (aE ?_)))))))))
 refine gl (s := 12) rfl (Ty.ah ho) ?_
 refine aA (bO rfl (bD rfl rfl rfl (gO rfl ?_)))
 apply aT (s := 97) rfl rfl rfl
 ·intro hg; apply aU; (refine gC rfl ?_); refine aD ?_; exact rfl
 ·exact rfl
 ·exact rfl
 apply aT (s := 97) rfl rfl rfl
 ·intro hg; apply aN (s := 98) rfl (by (rw [hg]; rfl)); apply aU; (refine cz rfl rfl rfl ?_); refine aD ?_; exact rfl
 ·exact rfl
 ·exact rfl
 apply aT (s := 97) rfl rfl rfl
 ·intro hg; apply aU; (refine aK rfl rfl rfl rfl rfl (by decide) ?_); refine aD ?_; exact rfl
 ·exact rfl
 ·exact rfl
 apply aT (s := 97) rfl rfl rfl
 ·intro hg; apply aN (s := 100) rfl (by (rw [hg]; rfl)); apply aU; (refine aP rfl rfl (by decide) rfl rfl rfl ?_); refine aD ?_; exact rfl
 ·exact rfl
 ·exact rfl
 apply aT (s := 97) rfl rfl rfl
 ·intro hg; apply aN (s := 101) rfl (by (rw [hg]; rfl)); apply aU; (refine bg rfl rfl (by omega) (by omega) ?_); refine aD ?_; exact rfl
 ·exact rfl
 ·exact rfl
 apply aT (s := 97) rfl rfl rfl
 ·intro hg; apply aN (s := 99) rfl (by (rw [hg]; rfl)); apply aN (s := 102) rfl (by (rw [hg]; rfl)); apply aU; (refine bD rfl rfl rfl ?_); refine aD ?_; exact rfl
 ·exact rfl
 ·exact rfl
 refine n4 rfl rfl (aD (aC (gG rfl (Gk ho) (aj (aC (aE (cN mixed rfl ?_)))))))
 refine aK rfl rfl rfl rfl rfl (by decide) ?_
 refine aP rfl rfl (by decide) rfl rfl rfl ?_
 refine bg rfl rfl (by omega) (by omega) ?_
 refine oa (E := cj) (x0 := 0) rfl rfl rfl rfl rfl rfl rfl (by decide) rfl (by omega) (by (dsimp only; omega)) (by omega) ?_
 refine aK rfl rfl rfl rfl rfl (by decide) ?_
 refine aP rfl rfl (by decide) rfl rfl rfl ?_
 refine bg rfl rfl (by omega) (by omega) ?_
 refine oa (E := cj) (x0 := 0) rfl rfl rfl rfl rfl rfl rfl (by decide) rfl (by omega) (by (dsimp only; omega)) (by omega) ?_
 refine Ll rfl (Ll rfl (aD ?_))
 refine ⟨by kernel_rfl, ?_⟩
 refine aC (aE (aE ?_))
 have hDn : (((wY v (aV g)).days + 1)).toNat = ((wY v (aV g)).D + 1) := by omega
 refine gL (tg := 109) rfl (Cont.dR ((congrArg (fun n => List.replicate n (0 : Int)) hDn).trans (yQ (f := uN (wY v (aV g))) fun s => by unfold uN; rfl))) ?_
 refine gL (tg := 113) rfl (Cont.dR ((congrArg (fun n => List.replicate n (0 : Int)) hDn).trans (yQ (f := uO (wY v (aV g))) fun s => by unfold uO; rfl))) ?_
 refine gl (s := 13) rfl (Ty.sub_eq (congrArg (Ty.vs 109) hDn)) ?_
 refine gl (s := 14) rfl (Ty.sub_eq (congrArg (Ty.vs 113) hDn)) ?_
 refine eS (B := live [(1, Ty.bool v), (5, Ty.ptr 6 0), (6, Ty.ptr 7 0), (11, Ty.sl dA (eH (wY v (aV g)))), (13, Ty.vs 109 ((wY v (aV g)).D + 1)), (14, Ty.vs 113 ((wY v (aV g)).D + 1))] [(6, Cont.cells 27 (bk (wY v (aV g)))), (7, Cont.cells 30 (fD (wA v (aV g)))), (109, Cont.vec cj 3 (jD (uN (wY v (aV g))) ((wY v (aV g)).D + 1) 0 0)), (113, Cont.vec cj 3 (jD (uO (wY v (aV g))) ((wY v (aV g)).D + 1) 0 0))]) ?_ ?_
 ·refine c9.mk' ?_ ?_
  ·(repeat (first | refine aB ?_ (Ty.aW _) | refine aB ?_ (Ty.aF _))); exact aH
  refine aG rfl (Cont.aF _) ?_; refine aG rfl (Cont.aF _) ?_; refine aG rfl (Cont.aF _) ?_; refine aG rfl (Cont.aF _) ?_; exact aI
 refine aA ?_
 refine aK rfl rfl rfl rfl rfl (by decide) ?_
 refine aP rfl rfl (by decide) rfl rfl rfl ?_
 refine cz rfl rfl rfl (bO rfl (aD (aC (ak ?_))))
 refine cV (fun (b : {b : Nat // b ≤ (wY v (aV g)).bins.length}) => live [(1, Ty.bool v), (5, Ty.ptr 6 0), (6, Ty.ptr 7 0), (11, Ty.sl dA (eH (wY v (aV g)))), (13, Ty.vs 109 ((wY v (aV g)).D + 1)), (14, Ty.vs 113 ((wY v (aV g)).D + 1)), (115, Ty.int .i64 (wY v (aV g)).bins.length), (116, Ty.int .i64 (b.1 : Nat))] [(6, Cont.cells 27 (bk (wY v (aV g)))), (7, Cont.cells 30 (fD (wA v (aV g)))), (109, Cont.vec cj 3 (jD (uN (wY v (aV g))) ((wY v (aV g)).D + 1) b.1 0)), (113, Cont.vec cj 3 (jD (uO (wY v (aV g))) ((wY v (aV g)).D + 1) b.1 0))]) (fun b => (wY v (aV g)).bins.length - b.1) (⟨0, by omega⟩) ?_ fun b => ?_
 ·(refine c9.mk' ?_ ?_ <;> (repeat' (first | exact aH | exact aI | refine aB ?_ (Ty.aW _) | refine aB ?_ (Ty.aF _) | refine aG rfl (Cont.aF _) ?_)))
  all_goals trace_state
 have hb := b.2
 refine aE (aA (bD rfl rfl rfl (aD (aC (aE ?_)))))
 refine av rfl (fun hc7 => ?_) (fun hc7 => ?_)
 ·
  refine aj (aC (aE (ak (aE (aA (bO rfl ?_))))))
  refine bz rfl (by exact List.cons_ne_nil _ _) rfl ?_
  refine cZ rfl rfl (by decide) rfl rfl (by exact (rfl : _ = Ty.int _ _)) rfl (by exact Nat.le_of_ble_eq_true rfl) rfl rfl (by exact (rfl : _ = [_])) ?_
  refine aD (aC (aE ?_))
  have hb2 : b.1 < (wY v (aV g)).bins.length := by omega
  refine kK (tg := 16) [(15, Ty.pp [Ty.int .i64 ((b.1 : Nat) : Int)])] (by decide) rfl ⟨kL (T := 3) (off := 0) (l := [Ty.int .i64 ((b.1 : Nat) : Int)]) rfl rfl rfl (by decide), trivial⟩ ?_
  refine aA ?_
  refine bT rfl rfl (by decide) rfl rfl (by exact Nat.le_of_ble_eq_true rfl) ?_
  refine aM rfl rfl rfl rfl ?_
  refine ay (vR (wY v (aV g)) hs ((b.1 : Nat) : Int)) rfl rfl rfl rfl rfl ?_
  refine sX rfl (bR rfl rfl (bR rfl rfl (Bk rfl (cF rfl (aD (aC (aE (aE ?_))))))))
  refine gl (s := 17) rfl (Ty.ah (zV ho hb2)) ?_
  refine aA (bO rfl (bD rfl rfl rfl (gO rfl ?_)))
  apply aT (s := 127) rfl rfl rfl
  ·intro hg; apply aU; (refine gC rfl ?_); refine aD ?_; exact rfl
  ·exact rfl
  ·exact rfl
  apply aT (s := 127) rfl rfl rfl
  ·intro hg; apply aN (s := 128) rfl (by (rw [hg]; rfl)); apply aU; (refine cz rfl rfl rfl ?_); refine aD ?_; exact rfl
  ·exact rfl
  ·exact rfl
  apply aT (s := 127) rfl rfl rfl
  ·intro hg; apply aU; (refine aK rfl rfl rfl rfl rfl (by decide) ?_); refine aD ?_; exact rfl
  ·exact rfl
  ·exact rfl
  apply aT (s := 127) rfl rfl rfl
  ·intro hg; apply aN (s := 130) rfl (by (rw [hg]; rfl)); apply aU; (refine aP rfl rfl (by decide) rfl rfl rfl ?_); refine aD ?_; exact rfl
  ·exact rfl
  ·exact rfl
  apply aT (s := 127) rfl rfl rfl
  ·intro hg; apply aN (s := 131) rfl (by (rw [hg]; rfl)); apply aU; (refine bg rfl rfl (by omega) (by omega) ?_); refine aD ?_; exact rfl
  ·exact rfl
  ·exact rfl
  apply aT (s := 127) rfl rfl rfl
  ·intro hg; apply aN (s := 129) rfl (by (rw [hg]; rfl)); apply aN (s := 132) rfl (by (rw [hg]; rfl)); apply aU; (refine bD rfl rfl rfl ?_); refine aD ?_; exact rfl
  ·exact rfl
  ·exact rfl
  refine n4 rfl rfl (aD (aC (gG rfl (Hl ho hb2) (aj (aC (aE (aA ?_)))))))
  refine aK rfl rfl rfl rfl rfl (by decide) ?_
  refine aP rfl rfl (by decide) rfl rfl rfl ?_
  refine dH rfl ?_
  refine ay (lE (wY v (aV g)).moves (Ty.jM 24 [Ty.pp [Ty.int .i64 ((b.1 : Nat) : Int)]]) rfl (fun m => decide (m.src = ((b.1 : Nat) : Int)) || decide (m.dst = ((b.1 : Nat) : Int))) rfl rfl (fun m _ => dO (KY m _) rfl rfl rfl rfl rfl rfl)) rfl rfl rfl rfl rfl ?_
  refine dn rfl (dZ rfl (aD (aC (aE (aA (gC rfl (cz rfl rfl rfl (bO rfl (aD ?_)))))))))
  refine aC (ak ?_)
  refine cV (fun (t : {t : Nat // t ≤ (eN (wY v (aV g)) (b.1 : Nat)).length}) => live [(1, Ty.bool v), (5, Ty.ptr 6 0), (6, Ty.ptr 7 0), (11, Ty.sl dA (eH (wY v (aV g)))), (13, Ty.vs 109 ((wY v (aV g)).D + 1)), (14, Ty.vs 113 ((wY v (aV g)).D + 1)), (16, Ty.sl dA (eN (wY v (aV g)) (b.1 : Nat))), (18, Ty.bool (!((wY v (aV g)).moves.any fun m => decide (m.src = ((b.1 : Nat) : Int)) || decide (m.dst = ((b.1 : Nat) : Int))))), (115, Ty.int .i64 (wY v (aV g)).bins.length), (116, Ty.int .i64 (b.1 : Nat)), (140, Ty.sl dA (eN (wY v (aV g)) (b.1 : Nat))), (141, Ty.int .i64 (eN (wY v (aV g)) (b.1 : Nat)).length), (142, Ty.int .i64 (t.1 : Nat))] [(6, Cont.cells 27 (bk (wY v (aV g)))), (7, Cont.cells 30 (fD (wA v (aV g)))), (109, Cont.vec cj 3 (jD (uN (wY v (aV g))) ((wY v (aV g)).D + 1) b.1 t.1)), (113, Cont.vec cj 3 (jD (uO (wY v (aV g))) ((wY v (aV g)).D + 1) b.1 t.1))]) (fun t => (eN (wY v (aV g)) (b.1 : Nat)).length - t.1) (⟨0, by omega⟩) ?_ fun t => ?_
  ·(refine c9.mk' ?_ ?_ <;> (repeat' (first | exact aH | exact aI | refine aB ?_ (Ty.aW _) | refine aB ?_ (Ty.aF _) | refine aG rfl (Cont.aF _) ?_)))
   all_goals trace_state
  have ht := t.2
  have hbl := uo ho hb2
  have q1 := jH (f := uN (wY v (aV g))) (n := ((wY v (aV g)).D + 1)) (b := b.1) (t := t.1)
  have q2 := jH (f := uO (wY v (aV g))) (n := ((wY v (aV g)).D + 1)) (b := b.1) (t := t.1)
  refine aE (aA (bD rfl rfl rfl (aD (aC (aE ?_)))))
  refine av rfl (fun hc9 => ?_) (fun hc9 => ?_)
  ·
   refine aj (aC (aE (ak (aE (aA (bO rfl ?_))))))
   refine bN rfl rfl rfl rfl rfl rfl (by omega) ?_
   refine aa rfl rfl rfl (by exact Nat.le_of_ble_eq_true rfl) ?_
   refine bz rfl (by exact List.cons_ne_nil _ _) rfl ?_
   refine cF rfl ?_
   refine bu rfl rfl (by decide) rfl rfl rfl rfl rfl rfl ?_
   refine aD (aC (aE ?_))
   have ht2 : t.1 < ((wY v (aV g)).D + 1) := by omega
   have q3 := Gx ho (t := t.1) (by omega) b.1 (by omega)
   have q4 := Dh ho hb2 (t := t.1) (by omega)
   have q5 := z4 (f := uN (wY v (aV g))) (b := b.1) ht2
   have q6 := z4 (f := uO (wY v (aV g))) (b := b.1) ht2
   refine cN mixed rfl (Bj rfl (bO rfl (Bj rfl (bO rfl (Bj rfl (bO rfl ?_))))))
   refine dF rfl rfl rfl rfl rfl (by omega) ?_
   refine dY rfl rfl rfl (by decide) rfl rfl (by omega) rfl ?_
   refine aK rfl rfl rfl rfl rfl (by decide) ?_
   refine aP rfl rfl (by decide) rfl rfl rfl ?_
   refine bg (a := uN (wY v (aV g)) b.1 t.1) (b := (nth (eN (wY v (aV g)) (b.1 : Nat)) t.1).lo) (show _ = _ from congrArg (Ty.int .i64) q5) rfl (by omega) (by omega) ?_
   refine Bj rfl (bO rfl ?_)
   refine dF rfl rfl rfl rfl rfl (by omega) ?_
   refine dY rfl rfl rfl (by decide) rfl rfl (by omega) rfl ?_
   refine aK rfl rfl rfl rfl rfl (by decide) ?_
   refine aP rfl rfl (by decide) rfl rfl rfl ?_
   refine bg (a := uO (wY v (aV g)) b.1 t.1) (b := (nth (eN (wY v (aV g)) (b.1 : Nat)) t.1).hi) (show _ = _ from congrArg (Ty.int .i64) q6) rfl (by omega) (by omega) ?_
   refine dF rfl rfl rfl rfl rfl (by omega) ?_
   refine gT (E := cj) (z := uN (wY v (aV g)) (b.1 + 1) t.1) rfl rfl rfl (by decide) rfl rfl (by exact (rfl : _ = Ty.int _ _)) rfl (by omega) (by decide) rfl (by unfold uN; rfl) ?_
   refine dF rfl rfl rfl rfl rfl (by omega) ?_
   refine gT (E := cj) (z := uO (wY v (aV g)) (b.1 + 1) t.1) rfl rfl rfl (by decide) rfl rfl (by exact (rfl : _ = Ty.int _ _)) rfl (by omega) (by decide) rfl (by unfold uO; rfl) ?_
   refine aD ?_
   refine ⟨by kernel_rfl, ?_⟩
   refine aC (aE (cN mixed rfl (gO rfl (gO rfl ?_))))
   apply aT (s := 168) rfl rfl rfl
   ·intro hg; apply aU; (refine bT rfl rfl (by decide) rfl rfl (by exact Nat.le_of_ble_eq_true rfl) ?_); refine aD ?_; exact rfl
   ·exact rfl
   ·exact rfl
   apply aT (s := 168) rfl rfl rfl
   ·intro hg; apply aU; (refine gC rfl ?_); refine aD ?_; exact rfl
   ·exact rfl
   ·exact rfl
   apply aT (s := 168) rfl rfl rfl
   ·intro hg; apply aN (s := 170) rfl (by (rw [hg]; rfl)); apply aU; (refine bN rfl rfl rfl rfl rfl rfl (by (dsimp only; omega)) ?_); refine aD ?_; exact rfl
   ·exact rfl
   ·exact rfl
   apply aT (s := 168) rfl rfl rfl
   ·intro hg; apply aN (s := 171) rfl (by (rw [hg]; rfl)); apply aU; (refine aa rfl rfl rfl (by exact Nat.le_of_ble_eq_true rfl) ?_); refine aD ?_; exact rfl
   ·exact rfl
   ·exact rfl
   apply aT (s := 168) rfl rfl rfl
   ·intro hg; apply aN (s := 169) rfl (by (rw [hg]; rfl)); apply aN (s := 172) rfl (by (rw [hg]; rfl)); apply aU; (refine uK (Dq _ _ _ _) rfl rfl ?_); refine aD ?_; exact rfl
   ·exact rfl
   ·exact rfl
   refine eL rfl rfl (aD ?_)
   refine ⟨by kernel_rfl, ?_⟩
   refine aC ?_
   refine gG rfl (Lf ho hb2 (by omega) rfl) ?_
   refine aj (bQ (aC (aA ?_)))
   refine bg rfl rfl (by omega) (by omega) ?_
   refine bO rfl (aD ?_)
   refine bV (⟨t.1 + 1, by omega⟩) ?_ (by show (eN (wY v (aV g)) (b.1 : Nat)).length - (t.1 + 1) < (eN (wY v (aV g)) (b.1 : Nat)).length - t.1; omega)
   (refine c9.mk' ?_ ?_ <;> (repeat' (first | exact aH | exact aI | refine aB ?_ (Ty.aW _) | refine aB ?_ (Ty.aF _) | refine aG rfl (Cont.aF _) ?_ | refine aG rfl ?_ ?_)))
   all_goals skip
   all_goals first | exact Cont.dR (BQ (f := uN (wY v (aV g))) (by omega)) | exact Cont.dR (BQ (f := uO (wY v (aV g))) (by omega))
  refine cQ (aR (aR (au rfl (bQ (aC (aA ?_))))))
  refine bg rfl rfl (by omega) (by omega) ?_
  refine bO rfl (aD ?_)
  refine bV (⟨b.1 + 1, by omega⟩) ?_ (by show (wY v (aV g)).bins.length - (b.1 + 1) < (wY v (aV g)).bins.length - b.1; omega)
  (refine c9.mk' ?_ ?_ <;> (repeat' (first | exact aH | exact aI | refine aB ?_ (Ty.aW _) | refine aB ?_ (Ty.aF _) | refine aG rfl (Cont.aF _) ?_ | refine aG rfl ?_ ?_)))
  all_goals skip
  all_goals exact Cont.dR (HB (by have h1 := uo ho hb2; have h2 := t.2; omega))
 refine cQ (aR (aR (au rfl (aC (aE (aE ?_))))))
 obtain ⟨b, hb⟩ := b
 obtain rfl : b = (wY v (aV g)).bins.length := by have h1 : ¬ (b : Int) < ((wY v (aV g)).bins.length : Int) := hc7; have h2 : b ≤ (wY v (aV g)).bins.length := hb; omega
 have hwl := AB ho
 have ha : ID (wY v (aV g)) (wA v (aV g)) := ⟨by have := hfT.lens.b8; omega, (IA hd).nk, (IA hd).first, (IA hd).b8⟩
 have hfl := hfT.lens.first
 refine eS (B := live [(1, Ty.bool v), (5, Ty.ptr 6 0), (6, Ty.ptr 7 0), (11, Ty.sl dA (eH (wY v (aV g)))), (13, Ty.vs 109 ((wY v (aV g)).D + 1)), (14, Ty.vs 113 ((wY v (aV g)).D + 1))] [(6, Cont.cells 27 (bk (wY v (aV g)))), (7, Cont.cells 30 (fD (wA v (aV g)))), (109, Cont.vec cj 3 (jD (uN (wY v (aV g))) ((wY v (aV g)).D + 1) (wY v (aV g)).bins.length 0)), (113, Cont.vec cj 3 (jD (uO (wY v (aV g))) ((wY v (aV g)).D + 1) (wY v (aV g)).bins.length 0))]) ?_ ?_
 ·refine c9.mk' ?_ ?_
  ·(repeat (first | refine aB ?_ (Ty.aW _) | refine aB ?_ (Ty.aF _))); exact aH
  refine aG rfl (Cont.aF _) ?_; refine aG rfl (Cont.aF _) ?_; refine aG rfl (Cont.aF _) ?_; refine aG rfl (Cont.aF _) ?_; exact aI
 refine aA (gC rfl (cz rfl rfl rfl (bO rfl (aD (aC (ak ?_))))))
 refine cV (fun (s : {s : Nat // s ≤ (eH (wY v (aV g))).length}) => live [(1, Ty.bool v), (5, Ty.ptr 6 0), (6, Ty.ptr 7 0), (11, Ty.sl dA (eH (wY v (aV g)))), (13, Ty.vs 109 ((wY v (aV g)).D + 1)), (14, Ty.vs 113 ((wY v (aV g)).D + 1)), (177, Ty.sl dA (eH (wY v (aV g)))), (178, Ty.int .i64 (eH (wY v (aV g))).length), (179, Ty.int .i64 (s.1 : Nat))] [(6, Cont.cells 27 (bk (wY v (aV g)))), (7, Cont.cells 30 (fD (wA v (aV g)))), (109, Cont.vec cj 3 (jD (uN (wY v (aV g))) ((wY v (aV g)).D + 1) (wY v (aV g)).bins.length 0)), (113, Cont.vec cj 3 (jD (uO (wY v (aV g))) ((wY v (aV g)).D + 1) (wY v (aV g)).bins.length 0))]) (fun s => (eH (wY v (aV g))).length - s.1) (⟨0, by omega⟩) ?_ fun s => ?_
 ·(refine c9.mk' ?_ ?_ <;> (repeat' (first | exact aH | exact aI | refine aB ?_ (Ty.aW _) | refine aB ?_ (Ty.aF _) | refine aG rfl (Cont.aF _) ?_)))
  all_goals trace_state
 have hs5 := s.2
 refine aE (aA (bD rfl rfl rfl (aD (aC (aE ?_)))))
 refine av rfl (fun hc11 => ?_) (fun hc11 => ?_)
 ·
  refine aj (aC (aE (ak (aE (aA (bO rfl ?_))))))
  refine bN rfl rfl rfl rfl rfl rfl (by omega) ?_
  refine aa rfl rfl rfl (by exact Nat.le_of_ble_eq_true rfl) ?_
  refine bz rfl (by exact List.cons_ne_nil _ _) rfl ?_
  refine cF rfl ?_
  refine bu rfl rfl (by decide) rfl rfl rfl rfl rfl rfl ?_
  refine aD (aC (aE (aA (cF rfl (aD (aC (aE (aE (aA ?_)))))))))
  refine aK rfl rfl rfl rfl rfl (by decide) ?_
  refine aP rfl rfl (by decide) rfl rfl rfl ?_
  refine cz rfl rfl rfl (bO rfl (aD (aC (ak ?_))))
  refine cV (fun (c : {c : Nat // c ≤ (wY v (aV g)).bins.length}) => live [(1, Ty.bool v), (5, Ty.ptr 6 0), (6, Ty.ptr 7 0), (11, Ty.sl dA (eH (wY v (aV g)))), (13, Ty.vs 109 ((wY v (aV g)).D + 1)), (14, Ty.vs 113 ((wY v (aV g)).D + 1)), (177, Ty.sl dA (eH (wY v (aV g)))), (178, Ty.int .i64 (eH (wY v (aV g))).length), (179, Ty.int .i64 (s.1 : Nat)), (21, Ty.int .i64 (s.1 : Nat)), (22, Ty.ptr 23 0), (23, Ty.int .i64 (cS (wY v (aV g)) (wA v (aV g)) s.1 c.1)), (186, Ty.int .i64 (wY v (aV g)).bins.length), (187, Ty.int .i64 (c.1 : Nat))] [(6, Cont.cells 27 (bk (wY v (aV g)))), (7, Cont.cells 30 (fD (wA v (aV g)))), (23, Cont.cells 37 (dA.tys (nth (eH (wY v (aV g))) s.1))), (109, Cont.vec cj 3 (jD (uN (wY v (aV g))) ((wY v (aV g)).D + 1) (wY v (aV g)).bins.length 0)), (113, Cont.vec cj 3 (jD (uO (wY v (aV g))) ((wY v (aV g)).D + 1) (wY v (aV g)).bins.length 0))]) (fun c => (wY v (aV g)).bins.length - c.1) (⟨0, by omega⟩) ?_ fun c => ?_
  ·(refine c9.mk' ?_ ?_ <;> (repeat' (first | exact aH | exact aI | refine aB ?_ (Ty.aW _) | refine aB ?_ (Ty.aF _) | refine aG rfl (Cont.aF _) ?_)))
   all_goals trace_state
  have hc5 := c.2
  have hs6 : s.1 ≤ (wY v (aV g)).D := by omega
  have hci := A4 hr hf hs6 c.1 hc5
  refine aE (aA (bD rfl rfl rfl (aD (aC (aE ?_)))))
  refine av rfl (fun hc12 => ?_) (fun hc12 => ?_)
  ·
   refine aj (aC (aE (ak (aE (aA (bO rfl (cF rfl (aD (aC ?_)))))))))
   have hcc := A4 hr hf hs6 (c.1 + 1) (by omega)
   have hcs : cS (wY v (aV g)) (wA v (aV g)) s.1 (c.1 + 1) = cS (wY v (aV g)) (wA v (aV g)) s.1 c.1 + cX (wY v (aV g)) (wA v (aV g)) ((c.1 : Nat) : Int) ((s.1 : Nat) : Int) := rfl
   refine aA (bO rfl ?_)
   refine bT rfl rfl (by decide) rfl rfl (by exact Nat.le_of_ble_eq_true rfl) ?_
   refine bT rfl rfl (by decide) rfl rfl (by exact Nat.le_of_ble_eq_true rfl) ?_
   refine bO rfl (bO rfl ?_)
   refine ay (gV (wY v (aV g)) (wA v (aV g)) ha ((c.1 : Nat) : Int) ((s.1 : Nat) : Int) (Int.natCast_nonneg _) (by omega)) rfl rfl rfl rfl rfl ?_
   refine bg rfl rfl (by omega) (by omega) ?_
   refine cF rfl (aD (bQ (aC (aA ?_))))
   refine bg rfl rfl (by omega) (by omega) ?_
   refine bO rfl (aD ?_)
   refine bV (⟨c.1 + 1, by omega⟩) ?_ (by show (wY v (aV g)).bins.length - (c.1 + 1) < (wY v (aV g)).bins.length - c.1; omega)
   (refine c9.mk' ?_ ?_ <;> (repeat' (first | exact aH | exact aI | refine aB ?_ (Ty.aW _) | refine aB ?_ (Ty.aF _) | refine aG rfl (Cont.aF _) ?_)))
   all_goals skip
   all_goals trace_state
  refine cQ (aR (aR (au rfl (aC (aE (aE ?_))))))
  obtain ⟨c, hc5⟩ := c
  obtain rfl : c = (wY v (aV g)).bins.length := by have h1 : ¬ (c : Int) < ((wY v (aV g)).bins.length : Int) := hc12; have h2 : c ≤ (wY v (aV g)).bins.length := hc5; omega
  have hs6 : s.1 ≤ (wY v (aV g)).D := by omega
  have q1 := jH (f := uN (wY v (aV g))) (n := ((wY v (aV g)).D + 1)) (b := (wY v (aV g)).bins.length) (t := 0)
  have q2 := jH (f := uO (wY v (aV g))) (n := ((wY v (aV g)).D + 1)) (b := (wY v (aV g)).bins.length) (t := 0)
  refine cN mixed rfl ?_
  refine aK rfl rfl rfl rfl rfl (by decide) ?_
  refine aP rfl rfl (by decide) rfl rfl rfl ?_
  refine Bj rfl (bO rfl ?_)
  refine dF rfl rfl rfl rfl rfl (by omega) ?_
  refine dY rfl rfl rfl (by decide) rfl rfl (by omega) rfl ?_
  refine bD rfl rfl rfl (gO rfl ?_)
  apply aT (s := 205) rfl rfl rfl
  ·intro hg; apply aU; (refine aK rfl rfl rfl rfl rfl (by decide) ?_); refine aD ?_; exact rfl
  ·exact rfl
  ·exact rfl
  apply aT (s := 205) rfl rfl rfl
  ·intro hg; apply aN (s := 206) rfl (by (rw [hg]; rfl)); apply aU; (refine aP rfl rfl (by decide) rfl rfl rfl ?_); refine aD ?_; exact rfl
  ·exact rfl
  ·exact rfl
  apply aT (s := 205) rfl rfl rfl
  ·intro hg; apply aU; (refine Bj rfl ?_); refine aD ?_; exact rfl
  ·exact rfl
  ·exact rfl
  apply aT (s := 205) rfl rfl rfl
  ·intro hg; apply aU; (refine bO rfl ?_); refine aD ?_; exact rfl
  ·exact rfl
  ·exact rfl
  apply aT (s := 205) rfl rfl rfl
  ·intro hg; apply aN (s := 208) rfl (by (rw [hg]; rfl)); apply aN (s := 209) rfl (by (rw [hg]; rfl)); apply aU; (refine dF rfl rfl rfl rfl rfl (by omega) ?_); refine aD ?_; exact rfl
  ·exact rfl
  ·exact rfl
  apply aT (s := 205) rfl rfl rfl
  ·intro hg; apply aN (s := 210) rfl (by (rw [hg]; rfl)); apply aU; (refine dY rfl rfl rfl (by decide) rfl rfl (by omega) rfl ?_); refine aD ?_; exact rfl
  ·exact rfl
  ·exact rfl
  apply aT (s := 205) rfl rfl rfl
  ·intro hg; apply aN (s := 207) rfl (by (rw [hg]; rfl)); apply aN (s := 211) rfl (by (rw [hg]; rfl)); apply aU; (refine bD rfl rfl rfl ?_); refine aD ?_; exact rfl
  ·exact rfl
  ·exact rfl
  refine n4 rfl rfl (gO rfl ?_)
  apply aT (s := 214) rfl rfl rfl
  ·intro hg; apply aU; (refine bO rfl ?_); refine aD ?_; exact rfl
  ·exact rfl
  ·exact rfl
  apply aT (s := 214) rfl rfl rfl
  ·intro hg; apply aU; (refine bT rfl rfl (by decide) rfl rfl (by exact Nat.le_of_ble_eq_true rfl) ?_); refine aD ?_; exact rfl
  ·exact rfl
  ·exact rfl
  apply aT (s := 214) rfl rfl rfl
  ·intro hg; apply aN (s := 215) rfl (by (rw [hg]; rfl)); apply aN (s := 216) rfl (by (rw [hg]; rfl)); apply aU; (refine ay (oB _ _) rfl rfl rfl rfl rfl ?_); refine aD ?_; exact rfl
  ·exact rfl
  ·exact rfl
  apply aT (s := 214) rfl rfl rfl
  ·intro hg; apply aN (s := 217) rfl (by (rw [hg]; rfl)); apply aU; (refine dn rfl ?_); refine aD ?_; exact rfl
  ·exact rfl
  ·exact rfl
  refine n4 rfl rfl (gO rfl ?_)
  apply aT (s := 220) rfl rfl rfl
  ·intro hg; apply aU; (refine gO rfl ?_); refine aD ?_; exact rfl
  ·exact rfl
  ·exact rfl
  apply aT (s := 220) rfl rfl rfl
  ·intro hg; apply aN (s := 221) rfl (by (rw [hg]; rfl)); apply aU; (refine gO rfl ?_); refine aD ?_; exact rfl
  ·exact rfl
  ·exact rfl
  apply fE (s := 222) rfl rfl rfl
  ·intro hg1 hg2; apply aU; (refine bT rfl rfl (by decide) rfl rfl (by exact Nat.le_of_ble_eq_true rfl) ?_); refine aD ?_; exact rfl
  ·exact rfl
  ·exact rfl
  apply fE (s := 222) rfl rfl rfl
  ·intro hg1 hg2; apply aU; (refine gC rfl ?_); refine aD ?_; exact rfl
  ·exact rfl
  ·exact rfl
  apply fE (s := 222) rfl rfl rfl
  ·intro hg1 hg2; apply aN (s := 224) rfl (by (rw [hg1, hg2]; rfl)); apply aU; (refine bN rfl rfl rfl rfl rfl rfl (by (dsimp only; omega)) ?_); refine aD ?_; exact rfl
  ·exact rfl
  ·exact rfl
  apply fE (s := 222) rfl rfl rfl
  ·intro hg1 hg2; apply aN (s := 225) rfl (by (rw [hg1, hg2]; rfl)); apply aU; (refine aa rfl rfl rfl (by exact Nat.le_of_ble_eq_true rfl) ?_); refine aD ?_; exact rfl
  ·exact rfl
  ·exact rfl
  apply fE (s := 222) rfl rfl rfl
  ·intro hg1 hg2; apply aN (s := 223) rfl (by (rw [hg1, hg2]; rfl)); apply aN (s := 226) rfl (by (rw [hg1, hg2]; rfl)); apply aU; (refine uK (Dq _ _ _ _) rfl rfl ?_); refine aD ?_; exact rfl
  ·exact rfl
  ·exact rfl
  apply aT (s := 220) rfl rfl rfl
  ·intro hg; apply aN (s := 222) rfl (by (rw [hg]; rfl)); apply p7 (s := 227) rfl (by (rw [hg]; rfl)); apply aU; (refine eL rfl rfl ?_); refine aD ?_; exact rfl
  ·exact rfl
  ·exact rfl
  refine n4 rfl rfl (aD ?_)
  refine ⟨by kernel_rfl, ?_⟩
  refine aC (gG rfl (MM ho hs6 hf Kr) (aj (aC (aE (aE (aA (bO rfl (bD rfl rfl rfl (aD ?_)))))))))
  refine aC ?_
  refine av rfl (fun hc14 => ?_) (fun hc14 => ?_)
  ·
   refine cQ (aR (au rfl (aC (aA ?_))))
   refine bg rfl rfl (by omega) (by omega) ?_
   refine bO rfl (aD ?_)
   refine bV (⟨s.1 + 1, by omega⟩) ?_ (by show (eH (wY v (aV g))).length - (s.1 + 1) < (eH (wY v (aV g))).length - s.1; omega)
   (refine c9.mk' ?_ ?_ <;> (repeat' (first | exact aH | exact aI | refine aB ?_ (Ty.aW _) | refine aB ?_ (Ty.aF _) | refine aG rfl (Cont.aF _) ?_)))
   all_goals skip
   all_goals trace_state
  refine aj (aC (aE (aA (cF rfl (cF rfl (aD (aC (aE (aE ?_)))))))))
  refine aA ?_
  refine aK rfl rfl rfl rfl rfl (by decide) ?_
  refine aP rfl rfl (by decide) rfl rfl rfl ?_
  refine cz rfl rfl rfl (bO rfl (aD (aC (ak ?_))))
  refine cV (fun (m : {m : Nat // m ≤ (wY v (aV g)).moves.length}) => live [(1, Ty.bool v), (5, Ty.ptr 6 0), (6, Ty.ptr 7 0), (11, Ty.sl dA (eH (wY v (aV g)))), (13, Ty.vs 109 ((wY v (aV g)).D + 1)), (14, Ty.vs 113 ((wY v (aV g)).D + 1)), (177, Ty.sl dA (eH (wY v (aV g)))), (178, Ty.int .i64 (eH (wY v (aV g))).length), (179, Ty.int .i64 (s.1 : Nat)), (21, Ty.int .i64 (s.1 : Nat)), (22, Ty.ptr 23 0), (25, Ty.int .i64 (qQ (wY v (aV g)) (((s.1 : Nat) : Int) - 1) m.1)), (26, Ty.int .i64 (lA (wY v (aV g)) (((s.1 : Nat) : Int) - 1) m.1)), (233, Ty.sl dN (wY v (aV g)).moves), (234, Ty.int .i64 (wY v (aV g)).moves.length), (235, Ty.int .i64 (m.1 : Nat))] [(6, Cont.cells 27 (bk (wY v (aV g)))), (7, Cont.cells 30 (fD (wA v (aV g)))), (23, Cont.cells 37 (dA.tys (nth (eH (wY v (aV g))) s.1))), (109, Cont.vec cj 3 (jD (uN (wY v (aV g))) ((wY v (aV g)).D + 1) (wY v (aV g)).bins.length 0)), (113, Cont.vec cj 3 (jD (uO (wY v (aV g))) ((wY v (aV g)).D + 1) (wY v (aV g)).bins.length 0))]) (fun m => (wY v (aV g)).moves.length - m.1) (⟨0, by omega⟩) ?_ fun m => ?_
  ·(refine c9.mk' ?_ ?_ <;> (repeat' (first | exact aH | exact aI | refine aB ?_ (Ty.aW _) | refine aB ?_ (Ty.aF _) | refine aG rfl (Cont.aF _) ?_)))
   all_goals trace_state
  have hm5 := m.2
  have hui := GQ (t := ((s.1 : Nat) : Int) - 1) hr m.1 hm5
  refine aE (aA (bD rfl rfl rfl (aD (aC (aE ?_)))))
  refine av rfl (fun hc15 => ?_) (fun hc15 => ?_)
  ·
   refine aj (aC (aE (ak (aE (aA ?_)))))
   refine bN rfl rfl rfl rfl rfl rfl (by omega) ?_
   refine aa rfl rfl rfl (by exact Nat.le_of_ble_eq_true rfl) ?_
   refine bz rfl (by exact List.cons_ne_nil _ _) rfl ?_
   refine bu rfl rfl (by decide) rfl rfl rfl rfl rfl rfl ?_
   refine aD (aC (aE (aE (aA ?_))))
   refine aK rfl rfl rfl rfl rfl (by decide) ?_
   refine aP rfl rfl (by decide) rfl rfl rfl ?_
   refine bO rfl ?_
   refine fU rfl rfl (by omega) (by omega) ?_
   refine bD rfl rfl rfl (gO rfl ?_)
   apply aT (s := 244) rfl rfl rfl
   ·intro hg; apply aU; (refine aK rfl rfl rfl rfl rfl (by decide) ?_); refine aD ?_; exact rfl
   ·exact rfl
   ·exact rfl
   apply aT (s := 244) rfl rfl rfl
   ·intro hg; apply aN (s := 245) rfl (by (rw [hg]; rfl)); apply aU; (refine aP rfl rfl (by decide) rfl rfl rfl ?_); refine aD ?_; exact rfl
   ·exact rfl
   ·exact rfl
   apply aT (s := 244) rfl rfl rfl
   ·intro hg; apply aN (s := 246) rfl (by (rw [hg]; rfl)); apply aU; (refine bD rfl rfl rfl ?_); refine aD ?_; exact rfl
   ·exact rfl
   ·exact rfl
   refine eL rfl rfl (aD (aC ?_))
   refine cW rfl (fun hc16 => ?_) (fun hc16 => ?_)
   ·
    have hmv := hr.move _ (cM (show m.1 < (wY v (aV g)).moves.length by omega))
    refine aA (bO rfl ?_)
    refine aK rfl rfl rfl rfl rfl (by decide) ?_
    refine aK rfl rfl rfl rfl rfl (by decide) ?_
    refine aP rfl rfl (by decide) rfl rfl rfl ?_
    refine bg rfl rfl (by omega) (by omega) ?_
    refine cF rfl (aD (aC (aE (aA ?_))))
    refine aK rfl rfl rfl rfl rfl (by decide) ?_
    refine aP rfl rfl (by decide) rfl rfl rfl ?_
    refine bO rfl ?_
    refine fU rfl rfl (by omega) (by omega) ?_
    refine bD rfl rfl rfl (gO rfl ?_)
    apply aT (s := 259) rfl rfl rfl
    ·intro hg; apply aU; (refine aK rfl rfl rfl rfl rfl (by decide) ?_); refine aD ?_; exact rfl
    ·exact rfl
    ·exact rfl
    apply aT (s := 259) rfl rfl rfl
    ·intro hg; apply aN (s := 260) rfl (by (rw [hg]; rfl)); apply aU; (refine aP rfl rfl (by decide) rfl rfl rfl ?_); refine aD ?_; exact rfl
    ·exact rfl
    ·exact rfl
    apply aT (s := 259) rfl rfl rfl
    ·intro hg; apply aN (s := 261) rfl (by (rw [hg]; rfl)); apply aU; (refine bD rfl rfl rfl ?_); refine aD ?_; exact rfl
    ·exact rfl
    ·exact rfl
    refine eL rfl rfl (aD (aC ?_))
    refine cW rfl (fun hc17 => ?_) (fun hc17 => ?_)
    ·
     have hmv := hr.move _ (cM (show m.1 < (wY v (aV g)).moves.length by omega))
     refine aA (bO rfl ?_)
     refine aK rfl rfl rfl rfl rfl (by decide) ?_
     refine aK rfl rfl rfl rfl rfl (by decide) ?_
     refine aP rfl rfl (by decide) rfl rfl rfl ?_
     refine bg rfl rfl (by omega) (by omega) ?_
     refine cF rfl (aD (bQ (aC (aA ?_))))
     refine bg rfl rfl (by omega) (by omega) ?_
     refine bO rfl (aD ?_)
     refine bV (⟨m.1 + 1, by omega⟩) ?_ (by show (wY v (aV g)).moves.length - (m.1 + 1) < (wY v (aV g)).moves.length - m.1; omega)
     (refine c9.mk' ?_ ?_ <;> (repeat' (first | exact aH | exact aI | refine aB ?_ (Ty.aW _) | refine aB ?_ (Ty.aF _) | refine aG rfl (Cont.aF _) ?_ | refine aB ?_ ?_)))
     all_goals skip
     all_goals first | exact Ty.ah (Gr (by assumption)) | exact Ty.ah (C7 (by assumption))
    refine aj (bQ (aC (aA ?_)))
    refine bg rfl rfl (by omega) (by omega) ?_
    refine bO rfl (aD ?_)
    refine bV (⟨m.1 + 1, by omega⟩) ?_ (by show (wY v (aV g)).moves.length - (m.1 + 1) < (wY v (aV g)).moves.length - m.1; omega)
    (refine c9.mk' ?_ ?_ <;> (repeat' (first | exact aH | exact aI | refine aB ?_ (Ty.aW _) | refine aB ?_ (Ty.aF _) | refine aG rfl (Cont.aF _) ?_ | refine aB ?_ ?_)))
    all_goals skip
    all_goals first | exact Ty.ah (Gr (by assumption)) | exact Ty.ah (H6 (by assumption))
   refine aj (aC (aE (aA ?_)))
   refine aK rfl rfl rfl rfl rfl (by decide) ?_
   refine aP rfl rfl (by decide) rfl rfl rfl ?_
   refine bO rfl ?_
   refine fU rfl rfl (by omega) (by omega) ?_
   refine bD rfl rfl rfl (gO rfl ?_)
   apply aT (s := 259) rfl rfl rfl
   ·intro hg; apply aU; (refine aK rfl rfl rfl rfl rfl (by decide) ?_); refine aD ?_; exact rfl
   ·exact rfl
   ·exact rfl
   apply aT (s := 259) rfl rfl rfl
   ·intro hg; apply aN (s := 260) rfl (by (rw [hg]; rfl)); apply aU; (refine aP rfl rfl (by decide) rfl rfl rfl ?_); refine aD ?_; exact rfl
   ·exact rfl
   ·exact rfl
   apply aT (s := 259) rfl rfl rfl
   ·intro hg; apply aN (s := 261) rfl (by (rw [hg]; rfl)); apply aU; (refine bD rfl rfl rfl ?_); refine aD ?_; exact rfl
   ·exact rfl
   ·exact rfl
   refine eL rfl rfl (aD (aC ?_))
   refine cW rfl (fun hc18 => ?_) (fun hc18 => ?_)
   ·
    have hmv := hr.move _ (cM (show m.1 < (wY v (aV g)).moves.length by omega))
    refine aA (bO rfl ?_)
    refine aK rfl rfl rfl rfl rfl (by decide) ?_
    refine aK rfl rfl rfl rfl rfl (by decide) ?_
    refine aP rfl rfl (by decide) rfl rfl rfl ?_
    refine bg rfl rfl (by omega) (by omega) ?_
    refine cF rfl (aD (bQ (aC (aA ?_))))
    refine bg rfl rfl (by omega) (by omega) ?_
    refine bO rfl (aD ?_)
    refine bV (⟨m.1 + 1, by omega⟩) ?_ (by show (wY v (aV g)).moves.length - (m.1 + 1) < (wY v (aV g)).moves.length - m.1; omega)
    (refine c9.mk' ?_ ?_ <;> (repeat' (first | exact aH | exact aI | refine aB ?_ (Ty.aW _) | refine aB ?_ (Ty.aF _) | refine aG rfl (Cont.aF _) ?_ | refine aB ?_ ?_)))
    all_goals skip
    all_goals first | exact Ty.ah (Jf (by assumption)) | exact Ty.ah (C7 (by assumption))
   refine aj (bQ (aC (aA ?_)))
   refine bg rfl rfl (by omega) (by omega) ?_
   refine bO rfl (aD ?_)
   refine bV (⟨m.1 + 1, by omega⟩) ?_ (by show (wY v (aV g)).moves.length - (m.1 + 1) < (wY v (aV g)).moves.length - m.1; omega)
   (refine c9.mk' ?_ ?_ <;> (repeat' (first | exact aH | exact aI | refine aB ?_ (Ty.aW _) | refine aB ?_ (Ty.aF _) | refine aG rfl (Cont.aF _) ?_ | refine aB ?_ ?_)))
   all_goals skip
   all_goals first | exact Ty.ah (Jf (by assumption)) | exact Ty.ah (H6 (by assumption))
  refine cQ (aR (aR (au rfl (aC (aE ?_)))))
  obtain ⟨m, hm5⟩ := m
  obtain rfl : m = (wY v (aV g)).moves.length := by have h1 : ¬ (m : Int) < ((wY v (aV g)).moves.length : Int) := hc15; have h2 : m ≤ (wY v (aV g)).moves.length := hm5; omega
  have hs6 : s.1 ≤ (wY v (aV g)).D := by omega
  have hui := GQ (t := ((s.1 : Nat) : Int) - 1) hr (wY v (aV g)).moves.length (Nat.le_refl _)
  have hw1 := I2 ho (s := (((s.1 : Nat) : Int) - 1).toNat) (by omega)
  refine cN mixed rfl ?_
  refine aK rfl rfl rfl rfl rfl (by decide) ?_
  refine aP rfl rfl (by decide) rfl rfl rfl ?_
  refine gC rfl (bO rfl ?_)
  refine fU rfl rfl (by omega) (by omega) ?_
  refine iT rfl rfl rfl rfl rfl rfl (by omega) (by omega) ?_
  refine aS rfl rfl rfl rfl rfl (by decide) ?_
  refine aM rfl rfl rfl rfl (bO rfl ?_)
  refine bg rfl rfl (by omega) (by omega) ?_
  refine bD rfl rfl rfl (gO rfl ?_)
  apply aT (s := 281) rfl rfl rfl
  ·intro hg; apply aU; (refine aK rfl rfl rfl rfl rfl (by decide) ?_); refine aD ?_; exact rfl
  ·exact rfl
  ·exact rfl
  apply aT (s := 281) rfl rfl rfl
  ·intro hg; apply aN (s := 282) rfl (by (rw [hg]; rfl)); apply aU; (refine aP rfl rfl (by decide) rfl rfl rfl ?_); refine aD ?_; exact rfl
  ·exact rfl
  ·exact rfl
  apply aT (s := 281) rfl rfl rfl
  ·intro hg; apply aU; (refine gC rfl ?_); refine aD ?_; exact rfl
  ·exact rfl
  ·exact rfl
  apply aT (s := 281) rfl rfl rfl
  ·intro hg; apply aU; (refine bO rfl ?_); refine aD ?_; exact rfl
  ·exact rfl
  ·exact rfl
  apply aT (s := 281) rfl rfl rfl
  ·intro hg; apply aN (s := 285) rfl (by (rw [hg]; rfl)); apply aU; (refine fU rfl rfl (by omega) (by omega) ?_); refine aD ?_; exact rfl
  ·exact rfl
  ·exact rfl
  apply aT (s := 281) rfl rfl rfl
  ·intro hg; apply aN (s := 284) rfl (by (rw [hg]; rfl)); apply aN (s := 286) rfl (by (rw [hg]; rfl)); apply aU; (refine iT rfl rfl rfl rfl rfl rfl (by omega) (by omega) ?_); refine aD ?_; exact rfl
  ·exact rfl
  ·exact rfl
  apply aT (s := 281) rfl rfl rfl
  ·intro hg; apply aN (s := 287) rfl (by (rw [hg]; rfl)); apply aU; (refine aS rfl rfl rfl rfl rfl (by decide) ?_); refine aD ?_; exact rfl
  ·exact rfl
  ·exact rfl
  apply aT (s := 281) rfl rfl rfl
  ·intro hg; apply aN (s := 288) rfl (by (rw [hg]; rfl)); apply aU; (refine aM rfl rfl rfl rfl ?_); refine aD ?_; exact rfl
  ·exact rfl
  ·exact rfl
  apply aT (s := 281) rfl rfl rfl
  ·intro hg; apply aU; (refine bO rfl ?_); refine aD ?_; exact rfl
  ·exact rfl
  ·exact rfl
  apply aT (s := 281) rfl rfl rfl
  ·intro hg; apply aN (s := 289) rfl (by (rw [hg]; rfl)); apply aN (s := 290) rfl (by (rw [hg]; rfl)); apply aU; (refine fU rfl rfl (by omega) (by omega) ?_); refine aD ?_; exact rfl
  ·exact rfl
  ·exact rfl
  apply aT (s := 281) rfl rfl rfl
  ·intro hg; apply aN (s := 283) rfl (by (rw [hg]; rfl)); apply aN (s := 291) rfl (by (rw [hg]; rfl)); apply aU; (refine bD rfl rfl rfl ?_); refine aD ?_; exact rfl
  ·exact rfl
  ·exact rfl
  refine n4 rfl rfl (aD ?_)
  refine ⟨by kernel_rfl, ?_⟩
  refine aC (gG rfl (LU ho hc14 hs6) (aj (bQ (aC (aA ?_)))))
  refine bg rfl rfl (by omega) (by omega) ?_
  refine bO rfl (aD ?_)
  refine bV (⟨s.1 + 1, by omega⟩) ?_ (by show (eH (wY v (aV g))).length - (s.1 + 1) < (eH (wY v (aV g))).length - s.1; omega)
  (refine c9.mk' ?_ ?_ <;> (repeat' (first | exact aH | exact aI | refine aB ?_ (Ty.aW _) | refine aB ?_ (Ty.aF _) | refine aG rfl (Cont.aF _) ?_)))
  all_goals skip
  all_goals trace_state
 refine cQ (aR (aR (au rfl (aC (aE (aA (ay (JU) rfl rfl rfl rfl rfl (dZ rfl (aD ?_)))))))))
 refine aC (bC (bl rfl rfl ?_))
 all_goals exact cI rfl rfl
 all_goals trace_state
end Go.Proofs.YtelbollidfdcjaaGreat
namespace Go.T
open Go Go.RowKit Go.ChangeShapes Go.WideShapes Go.ChangeAt
def nL : bA := fun _ => none
theorem JT (w : World) : Wf w nL := ⟨fun _ _ h => (by cases h), fun _ _ _ _ h => (by cases h)⟩
theorem E8 : ∀ b t, nL b = some t → t = 0 := fun _ _ h => by cases h
structure Rd {α : Type} (P : Program) (e : TypeId) (E : El α) : Prop where
  size : P.cellsOf e = E.size
  pos : 0 < E.size
  rd : ∀ {H : Type} {enc : TypeId × Value → H} {w : World} {base : Nat} {held : Bool} {n : Nat} {cs : List Value} {y : DataW H × List MemPlace}, DataW.trod enc P w base (fun _ => true) held n e cs = some y → ∃ x, cL w nL (E.tys x) cs
section
variable {H : Type} {enc : TypeId × Value → H} {P : Program} {w : World} {base : Nat} {held : Bool} {α : Type} {E : El α} {t e : TypeId} {n : Nat} {cs : List Value} {y : DataW H × List MemPlace}
theorem Lu (hR : Rd P e E) (ht : P.underlying t = some (.slice e)) (h : DataW.trod enc P w base (fun _ => true) held n t cs = some y) : ∃ v xs, cs = [v] ∧ (Ty.sl E xs).den w nL v := by
 rcases Go.Deep.open_slice ht h with ⟨rfl, _⟩ | ⟨a, len, cap, m, k, D, Pl, rfl, _, hl, hm, hmm, _, hel⟩
 ·exact ⟨_, [], rfl, none, 0, rfl, Nat.le_refl _, Nat.zero_le _, fun h => absurd h (Nat.lt_irrefl _)⟩
 have hlm : len ≤ m := by rw [hmm]; simpa using hl
 have hX : ∀ i : Fin len, ∃ x : α, ∃ cs', w.cells? base (a.add (i.1 * P.cellsOf e)) (P.cellsOf e) = some cs' ∧ cL w nL (E.tys x) cs' := fun i => by
  obtain ⟨cs', h1, h2⟩ := hel i.1 (Nat.lt_of_lt_of_le i.2 hlm)
  obtain ⟨x, hx⟩ := hR.rd h2
  exact ⟨x, cs', h1, hx⟩
 let X : Fin len → α := fun i => (hX i).choose
 have hXs : ∀ i : Fin len, ∃ cs', w.cells? base (a.add (i.1 * P.cellsOf e)) (P.cellsOf e) = some cs' ∧ cL w nL (E.tys (X i)) cs' := fun i => (hX i).choose_spec
 have hlen : (List.ofFn X).length = len := by simp
 refine ⟨_, List.ofFn X, rfl, some a, cap, by rw [hlen], by rw [hlen]; exact hl, hm, fun h0 => ?_⟩
 rw [hlen] at h0
 have hcell : ∀ (i : Fin len) (j : Nat) (u : Ty), (E.tys (X i))[j]? = some u → ∃ v, w.cell? (a.add (i.1 * E.size + j)) = some v ∧ u.den w nL v := fun i j u hu => by
  obtain ⟨cs', h1, h2⟩ := hXs i
  obtain ⟨v, hv, hd⟩ := dU h2 j u hu
  obtain ⟨_, g1, g2⟩ := World.cells?_some h1
  have hj : j < P.cellsOf e := by
   rw [hR.size, ← E.len (X i)]
   exact (List.getElem?_eq_some_iff.1 hu).1
  refine ⟨v, ?_, hd⟩
  have := g2 j hj
  rw [Go.Deep.add_add, hv, hR.size] at this
  exact this
 have hsz := hR.pos
 have hfirst : ∃ v, w.cell? (a.add 0) = some v := by
  obtain ⟨u, hu⟩ : ∃ u, (E.tys (X ⟨0, h0⟩))[0]? = some u := ⟨_, List.getElem?_eq_getElem (by rw [E.len]; exact hsz)⟩
  obtain ⟨v, hv, _⟩ := hcell ⟨0, h0⟩ 0 u hu
  exact ⟨v, by simpa using hv⟩
 obtain ⟨b, off, sp⟩ := a
 obtain ⟨v0, hv0⟩ := hfirst
 have hsp : sp = none := by simpa [Addr.add] using World.cell?_spot hv0
 subst hsp
 have hb : b < w.heap.size := by
  obtain ⟨cs', h1, _⟩ := hXs ⟨0, h0⟩
  have := World.cells?_block h1 (by rw [hR.size]; exact hsz)
  simpa [Addr.add] using this
 refine ⟨b, off, rfl, rfl, hb, fun i u hu => ?_⟩
 have hi : i < len * E.size := by
  have := (List.getElem?_eq_some_iff.1 hu).1
  rw [dJ, hlen] at this; exact this
 have hk : i / E.size < len := Nat.div_lt_of_lt_mul (by rw [Nat.mul_comm]; exact hi)
 have hj : i % E.size < E.size := Nat.mod_lt _ hsz
 have hij : i / E.size * E.size + i % E.size = i := by rw [Nat.mul_comm]; exact Nat.div_add_mod i E.size
 have hu2 := hu
 rw [← hij, qp E _ _ _ (by rw [hlen]; exact hk) hj, List.getElem?_ofFn, dif_pos hk] at hu2
 obtain ⟨v, hv, hd⟩ := hcell ⟨i / E.size, hk⟩ (i % E.size) u hu2
 refine ⟨v, ?_, hd⟩
 rw [← Go.WideShapes.add_plain]
 rw [hij] at hv
 exact hv
theorem Kn {c : Value} (hR : Rd P e E) (ht : P.underlying t = some (.slice e)) (h : DataW.trod enc P w base (fun _ => true) held n t [c] = some y) : ∃ xs, (Ty.sl E xs).den w nL c := by
 obtain ⟨v, xs, e, hd⟩ := Lu hR ht h
 exact ⟨xs, by rw [show c = v by simpa using e]; exact hd⟩
end
section
variable {w w' : World} {S K : Nat → Prop} {M' : bA}
theorem qV (le : Le S K w nL w' M') {b : Nat} (hb : b < w.heap.size) : w'.heap[b]? = w.heap[b]? := (le.ni b hb rfl).2
theorem IE (le : Le S K w nL w' M') {p : MemPlace} (hp : p.block < w.heap.size) : w.sameAt w' p := by
  cases p with
  | cell b o => exact World.cell?_of_block (w := w) (qV le hp)
  | map b => exact qV le hp
theorem Ij (le : Le S K w nL w' M') (may : MemPlace → Prop) : w.keptBut w' may := by
 refine ⟨le.os, le.out, fun i hi => ?_⟩
 have e := qV le hi
 rw [e]
 split
 ·rename_i h1 h2
  rw [h1] at h2
  simp only [Option.some.injEq, Obj.cells.injEq] at h2
  obtain ⟨rfl, rfl, rfl⟩ := h2
  exact ⟨rfl, rfl, rfl, fun _ _ => rfl⟩
 ·rename_i h1 h2
  rw [h1] at h2
  simp only [Option.some.injEq, Obj.map.injEq] at h2
  exact Or.inr ⟨h2.1.symm, h2.2.symm⟩
 rfl
theorem Eh (le : Le S K w nL w' M') {a : Addr} (ha : a.block < w.heap.size) : w'.frozen? a = w.frozen? a := by
 unfold World.frozen?
 rw [qV le ha]
end
section
variable {H : Type} {enc : TypeId × Value → H} {P : Program}
theorem pY (hl : laidOutB P = true) {w w' : World} {sp : Nat → Bool} : ∀ {ts : List TypeId} {vs : List Value} {ds : List (DataW H)} {ps : List MemPlace}, (∀ t ∈ ts, P.readableRec t = true ∧ t < P.types.size) →
    DataW.TrodAll enc P w 0 (fun _ => true) true ts vs ds ps → (∀ p ∈ ps, w.sameAt w' p) → (∀ p ∈ ps, sp p.block = true) → DataW.TrodAll enc P w' 0 sp true ts vs ds ps
  | [], [], [], _, _, h, _, _ => h
  | t :: ts, v :: vs, d :: ds, _, ht, ⟨p, q, h1, h2, e⟩, hs, hsp => by
    subst e
    have h0 := ht t List.mem_cons_self
    exact ⟨p, q, Go.WideElems.Trod_stays hl h0.1 h0.2 h1 (fun x hx => hs x (List.mem_append_left _ hx)) (fun x hx => hsp x (List.mem_append_left _ hx)),
      pY hl (fun t h => ht t (List.mem_cons_of_mem _ h)) h2 (fun x hx => hs x (List.mem_append_right _ hx)) (fun x hx => hsp x (List.mem_append_right _ hx)), rfl⟩
theorem Dx {f : Func} {s : ChangeSpec} {apart fresh handsOn again : Bool} {W W' : World} {args : Array Value} {ds : List (DataW H)} {before : List MemPlace} {S K : Nat → Prop} {M' : bA}
 (hl : laidOutB P = true) (hv : s.vars = []) (hrd : ∀ t ∈ f.params.toList, P.readableRec t = true ∧ t < P.types.size) {tb : TypeId} (htb : P.underlying tb = some .bool) (hrt : f.resultTypes = #[tb])
 (hW : DataW.Whole enc P f.params.toList s.vars apart W args.toList ds [] before) (hres : (s.fn H (ds ++ [])).results = [.lit (.bool true)]) (hargs : (s.fn H (ds ++ [])).args = ds) (hvars : (s.fn H (ds ++ [])).vars = [])
 (le : Le S K W nL W' M') : s.post enc P f apart fresh handsOn again W args (.bool true) W' := by
 have hW0 := hW
 obtain ⟨p, q, hA, hV, hb, hfz, hn⟩ := hW0
 have hlt := DataW.TrodAll.lt hA
 have hq : q = [] := by rw [hv] at hV; exact (trodVars_none hV).2
 subst hq
 have hbp : before = p := by rw [hb]; simp
 have hre : ∀ (b : Nat) (sp : Nat → Bool) (hd : Bool), DataW.TrodAll enc P W' b sp hd f.resultTypes.toList ((Value.bool true).resultList f.resultTypes.size) (s.fn H (ds ++ [])).results [] := fun b sp hd => by
  rw [hrt, hres]; exact trodAll_mk1 (shut_bool htb true)
 have har : ∀ sp : Nat → Bool, (∀ x ∈ p, sp x.block = true) → DataW.TrodAll enc P W' 0 sp true f.params.toList args.toList (s.fn H (ds ++ [])).args p := fun sp hsp => by
  rw [hargs]; exact pY hl hrd hA (fun x hx => IE le (hlt x hx)) hsp
 have hva : ∀ sp : Nat → Bool, DataW.TrodVars enc P W' sp s.vars (s.fn H (ds ++ [])).vars [] := fun sp => by
  rw [hvars, hv]; exact rfl
 have hok : ∀ (j : Nat) (t : TypeId) (r : Value), f.resultTypes[j]? = some t → ((Value.bool true).resultList f.resultTypes.size)[j]? = some r → Value.okWide P W' .any 0 t r := by
  exact ok_one (by rw [hrt]) rfl (okWide_bool_mk htb true)
 refine ⟨ds, [], before, [], p, [], hW, hre _ _ _, har _ (fun x hx => by simpa using hlt x hx), hva _, World.keptBut_mono (fun x hx => hx) (Ij le _), fun _ => ?_⟩
 refine ⟨hok, _, _, ([] ++ p) ++ [], ⟨[] ++ p, [], trodAll_append (har _ (fun _ _ => rfl)) (hre _ _ _), hva _, rfl, ?_, ?_⟩, ?_⟩
 ·intro b off hp
  have hp' : MemPlace.cell b off ∈ p := by simpa using hp
  rw [Eh le (hlt _ hp')]
  exact hfz b off (by rw [hbp]; exact hp')
 ·intro ha
  have := hn ha
  rw [hbp] at this
  simpa using this
 intro x hx _
 rw [hbp]
 simpa using hx
end
end Go.T
namespace Go.Proofs.YtelbollidfdcjaaGreat
open Go Go.T Go.RowKit Go.ChangeShapes Go.WideShapes Go.ChangeAt
theorem Mj : Rd Tryz.prog 5 U8 := ⟨by kernel_rfl, by decide, fun h => by
 obtain ⟨i, rfl, _⟩ := DataW.trod_int Tryz.underlying5 h
 exact ⟨i, rfl, trivial⟩⟩
section
variable {H : Type} {enc : TypeId × Value → H} {W : World} {base : Nat} {held : Bool} {v : Value} {d : DataW H} {p : List MemPlace}
set_option maxRecDepth 100000 in
theorem G2 (hv : Value.okWide Tryz.prog W .any base 22 v) (h : DataW.Trod enc Tryz.prog W 0 (fun _ => true) held 22 v d p) : ∃ l, (Ty.sl U8 l).den W nL v := by
 obtain ⟨a, len, cap, rfl⟩ := okWide_slice Tryz.underlying22 hv
 obtain ⟨n, hn⟩ := h
 exact Kn Mj Tryz.underlying22 (by simpa [Value.cells] using hn)
end
end Go.Proofs.YtelbollidfdcjaaGreat
namespace Go.Proofs.YtelbollidfdcjaaGreat
open Go Go.T Go.RowKit Go.ChangeShapes Go.WideShapes Go.ChangeAt
section
variable {H : Type} {enc : TypeId × Value → H} {W : World} {base : Nat} {held : Bool} {v : Value} {d : DataW H} {p : List MemPlace}
end
end Go.Proofs.YtelbollidfdcjaaGreat
namespace Go.Proofs.YtelbollidfdcjaaGreat
open Go Go.T Go.RowKit Go.ChangeShapes Go.WideShapes Go.ChangeAt
section
variable {H : Type} {enc : TypeId × Value → H} {W : World} {base : Nat} {held : Bool} {v : Value} {d : DataW H} {p : List MemPlace}
set_option maxRecDepth 100000 in
theorem IU (hv : Value.okWide Tryz.prog W .any base 4 v) (h : DataW.Trod enc Tryz.prog W 0 (fun _ => true) held 4 v d p) : ∃ n : Bool, (Ty.bool n).den W nL v := by
 obtain ⟨n, rfl, _⟩ := open_bool Tryz.underlying4 hv h
 exact ⟨n, rfl⟩
end
end Go.Proofs.YtelbollidfdcjaaGreat
