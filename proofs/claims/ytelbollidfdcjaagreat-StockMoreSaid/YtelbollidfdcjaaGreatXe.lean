/- Lemmas: the program and the reference walked, plain laws. -/
import Derived.Test.YtelbollidfdcjaaGreatXd
namespace Go.Proofs.YtelbollidfdcjaaGreat
open Go Go.T
set_option maxHeartbeats 8000000
section
variable {d : Md} {s : Sk} {k i : Nat} {p : (List Move × List Int) × Sk} {y : aq} {a : eV} {m : Move} {n : Int}
theorem FR (d : Md) (k : Nat) : (((d.bs k).1.1 ++ [bg (d.bs k).2 60], (d.bs k).1.2 ++ [⟨300, gw (aY (d.bs k).2) (bg (d.bs k).2 60) 12⟩]), aY (aY (aY (d.bs k).2))) = d.bs (k + 1) := rfl
theorem Fo (d : Md) : (([], []), aY (aY d.s)) = d.bs 0 := rfl
theorem G3 (d : Md) (i : Nat) : (((d.ms i).1.1 ++ [d.full (d.ms i) i], (d.ms i).1.2 ++ [d.num (d.ms i) i]), aY (aY (aY (d.pY (d.ms i).2)))) = d.ms (i + 1) := rfl
theorem F3 (d : Md) : (([], []), aY (d.bs d.nb).2) = d.ms 0 := rfl
theorem I6 (d : Md) (k : Nat) : ((d.ls k).1 ++ [d.LD (d.ls k).2], aY (aY (aY (aY (d.ls k).2)))) = d.ls (k + 1) := rfl
theorem Ib (d : Md) : ([], aY (d.hs d.nb).2) = d.ls 0 := rfl
theorem Il (d : Md) (k : Nat) : ((d.hs k).1.set k ⟨min 300 (d.most k (d.D + 1).toNat + bg (d.hs k).2 30), (nth (d.hs k).1 k).first⟩, aY (d.hs k).2) = d.hs (k + 1) := rfl
theorem I1 (d : Md) : (d.gM, (d.ms d.many).2) = d.hs 0 := rfl
theorem oP (hd : d.Ok) (hi : i ≤ d.many) (hp : Kh d i p) : IY (d.yd p.1.1) (d.am p.1.2) := by
 have h := (d.pz d.nb).first
 have hl := hp.len1
 refine ⟨by have := hp.len2; show p.1.1.length ≤ p.1.2.length; omega, ?_, fun x hx => ?_, fun x hx => ?_⟩
 ·have h1 := (d.uT hd).1; have h2 := hp.len2; show p.1.2.length ≤ 1000; omega
 ·have := h x hx; omega
 have := hp.num x hx; omega
theorem L6 (h : d.src s = -1) : n = lN y a (d.mv s i) n := (if_pos h).symm
theorem Kl (h : ¬ d.src s = -1) : min n (cB y a (d.src s) (d.day i)) = lN y a (d.mv s i) n := (if_neg h).symm
theorem LI (h : d.dst s = -1) : n = mV y a (d.mv s i) n := (if_pos h).symm
theorem KA (h : ¬ d.dst s = -1) : min n (300 - cB y a (d.dst s) (d.day i + 1)) = mV y a (d.mv s i) n := (if_neg h).symm
theorem MM : n = lY y a m n 0 := rfl
theorem KN (h : ((decide ((nth y.moves k).day = m.day) && decide ((nth y.moves k).src = m.src)) && !decide (m.src = -1)) = true) : ¬ m.src = -1 := by simp only [Bool.and_eq_true, Bool.not_eq_true', decide_eq_false_iff_not] at h; exact h.2
theorem num_eq (d : Md) (p : (List Move × List Int) × Sk) (i : Nat) : max 0 (min (lY (d.yd p.1.1) (d.am p.1.2) (d.mv p.2 i) (mV (d.yd p.1.1) (d.am p.1.2) (d.mv p.2 i) (lN (d.yd p.1.1) (d.am p.1.2) (d.mv p.2 i) (bg (d.pY p.2) 40))) (d.yd p.1.1).moves.length) (Be (d.yd p.1.1) (d.am p.1.2) (d.mv p.2 i))) = d.num p i := rfl
theorem IS {α : Type} {E : El α} {T tg n : Nat} {xs : List α} (h : xs.length = n) : (Ty.row E T tg xs).Sub (Ty.vs tg n) := by subst h; exact Ty.oX rfl
theorem Kc (d : Md) (b : Nat) : 0 = d.most b 0 := rfl
theorem Ka (d : Md) (b t : Nat) {bs : List wD} : max (d.most b t) (cB ⟨d.D, bs, d.fG, []⟩ d.real (b : Nat) (t : Nat)) = d.most b (t + 1) := by
 have e : cB ⟨d.D, bs, d.fG, []⟩ d.real (b : Nat) (t : Nat) = cB d.y0 d.real (b : Nat) (t : Nat) := sY (y := d.y0)
 rw [e]; rfl
theorem vf (hd : d.Ok) {bs : List wD} {l : List Level} : IY ⟨d.D, bs, d.fG, l⟩ d.real := by
 have h := oP hd (Nat.le_refl _) (d.qC hd d.many (Nat.le_refl _))
 exact ⟨h.len, h.nx, h.first, h.cA⟩
theorem LX (h : ((decide ((nth y.moves k).day = m.day) && decide ((nth y.moves k).src = m.src)) && !decide (m.src = -1)) = false) : lY y a m n k = lY y a m n (k + 1) := (if_neg (by rw [h]; decide)).symm
theorem J4 (h : ((decide ((nth y.moves k).day = m.day) && decide ((nth y.moves k).src = m.src)) && !decide (m.src = -1)) = true) : min (lY y a m n k) (cB y a m.src m.day - nth a.cA k) = lY y a m n (k + 1) := (if_pos h).symm
theorem Ao (h : d.uJ s = d.uL s) : (-1 = d.src s ∧ bg (aY (aY s)) d.nb = d.dst s) ∧ aY (aY (aY s)) = d.pY s := ⟨⟨(if_pos h).symm, (if_pos h).symm⟩, (if_pos h).symm⟩
theorem BJ (h : ¬ d.uJ s = d.uL s) : (d.uJ s = d.src s ∧ d.uL s = d.dst s) ∧ aY (aY s) = d.pY s := ⟨⟨(if_neg h).symm, (if_neg h).symm⟩, (if_neg h).symm⟩
theorem yY {l : List Int} (hd : d.Ok) (h2 : ¬ d.src s = -1) (hl : l.length = d.nb) : 0 ≤ d.src s ∧ (d.src s).toNat < l.length := by
 have h1 := (d.xV (s := s) hd).1
 omega
theorem yh {l : List Int} (hd : d.Ok) (h2 : ¬ d.dst s = -1) (hl : l.length = d.nb) : 0 ≤ d.dst s ∧ (d.dst s).toNat < l.length := by
 have h1 := (d.xV (s := s) hd).2.1
 omega
end
attribute [local irreducible] Md.D Md.K8 Md.nb Md.bs Md.first Md.gM Md.Au Md.many Md.src Md.dst Md.pY Md.day Md.num Md.ms Md.cA Md.fG Md.most Md.hs Md.jh Md.LA Md.nl Md.ls Md.uc cB lN mV lY rP gw aY bg iX Be Md.uJ Md.uL
attribute [local irreducible] iP fT nJ qo jJ jK jE jM jG qi jI qn eG gx qg gm qj nth fM dm aj dz bodyPost Exit.then Exit.inBlock Code.wp Code.wpIn qm jL ql qd jH eJ cV cm bodyPostM eN
set_option maxRecDepth 100000 in
theorem KO (d : Md) (hd : d.Ok) (h : d.s.Ok 1000) : eJ Tryz.prog 17 [1000] [(1000, Cont.cells 149 (dP d.s))] [Ty.ptr 1000 0, Ty.int .i64 d.days, Ty.int .i64 d.bins, Ty.int .i64 d.moves, Ty.int .i64 d.levels] [(1000, Cont.cells 149 (dP d.sk))] (Ty.jR [fE d.cJ, p8 d.real]) := by
 refine dN Tryz.func17 rfl (by decide) Tryz.ntmps17 (by exact Nat.le_of_ble_eq_true rfl) fun w0 M0 => ?_
 have h0 : 0 ≤ d.s.taken ∧ d.s.taken + 1000 ≤ 4611686018427387904 := h
 have o1 := hd.days
 have o2 := hd.bins
 have o3 := hd.moves
 have o4 := hd.levels
 have hD := d.Fk hd
 have hnb := d.Cp hd
 have hmn := d.uT hd
 have hnl := d.Gm hd
 have hs1 := cY d.s
 have hs2 := cY (aY d.s)
 have B := d.pz d.nb
 have b1 : d.first.length = d.nb := by unfold Md.first; exact B.len1
 have b2 : d.gM.length = d.nb := by unfold Md.gM; exact B.len2
 refine aE (aA ?_)
 refine bw rfl (by exact List.cons_ne_nil _ _) rfl ?_
 refine bw rfl (by exact List.cons_ne_nil _ _) rfl ?_
 refine aD (aC (aE (aA (qP rfl (bR rfl ?_)))))
 refine b9 [(1000, 1000)] [] [(1000, Cont.cells 149 (dP (aY d.s)))] (ue d.s ⟨by omega, by omega⟩ 1 d.days (by omega) (by omega)) rfl rfl (by repeat (first | exact bH | refine aH ?_ ?_ | exact dx List.mem_cons_self | exact aR rfl rfl)) (cC (a := 1000) (b := 1000) (by exact List.mem_cons_self) rfl (bM (by exact List.mem_cons_self) rfl rfl rfl) pre_nil) (bI (a := 1000) (b := 1000) (by exact List.mem_cons_self) rfl (bM (by exact List.mem_cons_self) rfl rfl rfl) post_nil) (aR rfl rfl) ?_
 refine c6 rfl rfl (by exact List.cons_ne_nil _ _) rfl (by repeat (first | exact (aW.nil : aW _ _ [] _) | (show aW _ _ ((_, _) :: _) _; apply aW.one; (· exact (rfl : _ = Ty.int _ _)); (· exact rfl)))) (by exact (rfl : _ = some [_, _, _, _])) ?_
 refine bw rfl (by exact List.cons_ne_nil _ _) rfl ?_
 refine bk rfl rfl (by decide) rfl rfl rfl rfl rfl rfl ?_
 refine aD (aC (aE ?_))
 refine dO (B := live [(0, Ty.ptr 1000 0), (2, Ty.int .i64 d.bins), (3, Ty.int .i64 d.moves), (4, Ty.int .i64 d.levels), (10, Ty.ptr 11 0), (11, Ty.ptr 12 0), (12, Ty.ptr 13 0)] [(11, Cont.cells 27 [Ty.int .i64 0, Ty.ex (.slice none 0 0), Ty.ex (.slice none 0 0), Ty.ex (.slice none 0 0)]), (12, Cont.cells 30 [Ty.ex (.slice none 0 0), Ty.ex (.slice none 0 0)]), (13, Cont.cells 27 [Ty.int .i64 (iX d.s 1 d.days), Ty.ex (.slice none 0 0), Ty.ex (.slice none 0 0), Ty.ex (.slice none 0 0)]), (1000, Cont.cells 149 (dP (aY d.s)))]) ?_ ?_
 ·refine dG.mk' ?_ ?_
  ·(repeat (first | refine aB ?_ (Ty.aX _) | refine aB ?_ (Ty.aF _))); exact aJ
  refine aG rfl (Cont.aF _) ?_; refine aG rfl (Cont.aF _) ?_; refine aG rfl (Cont.dM ⟨Ty.aF _, Ty.aF _, Ty.aF _, Ty.aF _, trivial⟩) ?_; refine aG rfl (Cont.aF _) ?_; exact aI
 refine aA ?_
 refine bw rfl (by exact List.cons_ne_nil _ _) rfl ?_
 refine aD (aC (aE (aE ?_)))
 refine dO (B := live [(0, Ty.ptr 1000 0), (2, Ty.int .i64 d.bins), (3, Ty.int .i64 d.moves), (4, Ty.int .i64 d.levels), (10, Ty.ptr 11 0), (11, Ty.ptr 12 0), (12, Ty.ptr 13 0), (13, Ty.ptr 14 0)] [(11, Cont.cells 27 [Ty.int .i64 0, Ty.ex (.slice none 0 0), Ty.ex (.slice none 0 0), Ty.ex (.slice none 0 0)]), (12, Cont.cells 30 [Ty.ex (.slice none 0 0), Ty.ex (.slice none 0 0)]), (13, Cont.cells 27 [Ty.int .i64 (iX d.s 1 d.days), Ty.ex (.slice none 0 0), Ty.ex (.slice none 0 0), Ty.ex (.slice none 0 0)]), (14, Cont.cells 30 [Ty.ex (.slice none 0 0), Ty.ex (.slice none 0 0)]), (1000, Cont.cells 149 (dP (aY d.s)))]) ?_ ?_
 ·refine dG.mk' ?_ ?_
  ·(repeat (first | refine aB ?_ (Ty.aX _) | refine aB ?_ (Ty.aF _))); exact aJ
  refine aG rfl (Cont.aF _) ?_; refine aG rfl (Cont.aF _) ?_; refine aG rfl (Cont.aF _) ?_; refine aG rfl (Cont.aF _) ?_; refine aG rfl (Cont.aF _) ?_; exact aI
 refine aA (qP rfl (bR rfl ?_))
 refine b9 [(1000, 1000)] [] [(1000, Cont.cells 149 (dP (aY (aY d.s))))] (ue (aY d.s) ⟨by omega, by omega⟩ 1 d.bins (by omega) (by omega)) rfl rfl (by repeat (first | exact bH | refine aH ?_ ?_ | exact dx List.mem_cons_self | exact aR rfl rfl)) (cC (a := 1000) (b := 1000) (by exact List.mem_cons_self) rfl (bM (by exact List.mem_cons_self) rfl rfl rfl) pre_nil) (bI (a := 1000) (b := 1000) (by exact List.mem_cons_self) rfl (bM (by exact List.mem_cons_self) rfl rfl rfl) post_nil) (aR rfl rfl) ?_
 refine bR rfl (aD (aC ?_))
 refine fq (s := 31) rfl (Ty.af (show iX (aY d.s) 1 d.bins = ((d.nb : Nat) : Int) from (show d.K8 = _ from hnb.2) ▸ (by unfold Md.K8; rfl))) ?_
 refine gI (tg := 13) rfl (Cont.dM (l' := [Ty.int .i64 d.D, Ty.ex (.slice none 0 0), Ty.ex (.slice none 0 0), Ty.ex (.slice none 0 0)]) ⟨Ty.af (by unfold Md.D; rfl), Ty.aF _, Ty.aF _, Ty.aF _, trivial⟩) ?_
 refine au ?_
 refine cZ (fun (k : {k : Nat // k ≤ d.nb}) => live [(0, Ty.ptr 1000 0), (3, Ty.int .i64 d.moves), (4, Ty.int .i64 d.levels), (10, Ty.ptr 11 0), (11, Ty.ptr 12 0), (12, Ty.ptr 13 0), (13, Ty.ptr 14 0), (31, Ty.int .i64 (d.nb : Nat)), (32, Ty.int .i64 (k.1 : Nat))] [(11, Cont.cells 27 [Ty.int .i64 0, Ty.ex (.slice none 0 0), Ty.ex (.slice none 0 0), Ty.ex (.slice none 0 0)]), (12, Cont.cells 30 [Ty.ex (.slice none 0 0), Ty.ex (.slice none 0 0)]), (13, Cont.cells 27 [Ty.int .i64 d.D, Ty.row dY 39 49 (d.bs k.1).1.2, Ty.ex (.slice none 0 0), Ty.ex (.slice none 0 0)]), (14, Cont.cells 30 [Ty.row c7 3 40 (d.bs k.1).1.1, Ty.ex (.slice none 0 0)]), (1000, Cont.cells 149 (dP (d.bs k.1).2))]) (fun k => d.nb - k.1) (⟨0, by omega⟩) ?_ fun k => ?_
 ·(refine dG.mk' ?_ ?_ <;> (repeat' (first | exact aJ | exact aI | exact dQ | refine aB ?_ (Ty.aX _) | refine aB ?_ (Ty.aF _) | refine aG rfl (Cont.aF _) ?_ | refine aG rfl (Cont.dS ?_) ?_ | refine bh ?_ (Ty.aF _) | refine bh ?_ ?_)))
  all_goals first | exact Ty.af (congrArg (fun p => p.2.mixed) (Fo d)) | exact Ty.af (congrArg (fun p => p.2.taken) (Fo d)) | exact Ty.iE (congrArg (fun p => p.2.grain) (Fo d)) | exact k9 (congrArg (fun p => p.1.1) (Fo d)).symm | exact k9 (congrArg (fun p => p.1.2) (Fo d)).symm
 have hk := k.2
 have BK := d.pz k.1
 have c1 := BK.len1
 have c2 := BK.len2
 have c3 := BK.taken
 have c4 := cX (d.bs k.1).2 60
 have c5 := cY (d.bs k.1).2
 refine aE (aA (bC rfl rfl rfl (aD (aC (aE ?_)))))
 refine av rfl (fun hc1 => ?_) (fun hc1 => ?_)
 ·
  refine ak (aC (aE (au (aE (aA (qP rfl ?_))))))
  refine b9 [(1000, 1000)] [] [(1000, Cont.cells 149 (dP (aY (d.bs k.1).2)))] (jU (d.bs k.1).2 ⟨by omega, by omega⟩ 60) rfl rfl (by repeat (first | exact bH | refine aH ?_ ?_ | exact dx List.mem_cons_self | exact aR rfl rfl)) (cC (a := 1000) (b := 1000) (by exact List.mem_cons_self) rfl (bM (by exact List.mem_cons_self) rfl rfl rfl) pre_nil) (bI (a := 1000) (b := 1000) (by exact List.mem_cons_self) rfl (bM (by exact List.mem_cons_self) rfl rfl rfl) post_nil) (aR rfl rfl) ?_
  refine cE rfl (aD (aC (aE (aA ?_))))
  refine aO rfl rfl rfl rfl rfl (by decide) ?_
  refine aU rfl rfl (by decide) rfl rfl rfl ?_
  refine bR rfl ?_
  refine bt (E := c7) (xs := [bg (d.bs k.1).2 60]) rfl rfl rfl rfl rfl (by decide) (by decide) (by repeat (first | exact (aW.nil : aW _ _ [] _) | (show aW _ _ ((_, _) :: _) _; apply aW.one; (· exact (rfl : _ = Ty.int _ _)); (· exact rfl)))) (by exact rfl) rfl ?_
  refine fJ rfl rfl (by decide) rfl rfl rfl rfl rfl rfl (by decide) (by (simp <;> omega)) (by (simp <;> omega)) ?_
  refine aO rfl rfl rfl rfl rfl (by decide) ?_
  refine cq rfl rfl (by decide) rfl rfl (by exact (rfl : _ = Ty.row _ _ _ _)) rfl (by exact Nat.le_of_ble_eq_true rfl) rfl rfl (by exact rfl) ?_
  refine aD (aC ?_)
  refine dO (B := live [(0, Ty.ptr 1000 0), (3, Ty.int .i64 d.moves), (4, Ty.int .i64 d.levels), (10, Ty.ptr 11 0), (11, Ty.ptr 12 0), (12, Ty.ptr 13 0), (13, Ty.ptr 14 0), (14, Ty.int .i64 (bg (d.bs k.1).2 60)), (31, Ty.int .i64 (d.nb : Nat)), (32, Ty.int .i64 (k.1 : Nat))] [(11, Cont.cells 27 [Ty.int .i64 0, Ty.ex (.slice none 0 0), Ty.ex (.slice none 0 0), Ty.ex (.slice none 0 0)]), (12, Cont.cells 30 [Ty.ex (.slice none 0 0), Ty.ex (.slice none 0 0)]), (13, Cont.cells 27 [Ty.int .i64 d.D, Ty.row dY 39 49 (d.bs k.1).1.2, Ty.ex (.slice none 0 0), Ty.ex (.slice none 0 0)]), (14, Cont.cells 30 [Ty.row c7 3 40 ((d.bs k.1).1.1 ++ [bg (d.bs k.1).2 60]), Ty.ex (.slice none 0 0)]), (1000, Cont.cells 149 (dP (aY (d.bs k.1).2)))]) ?_ ?_
  ·refine dG.mk' ?_ ?_
   ·(repeat (first | refine aB ?_ (Ty.aX _) | refine aB ?_ (Ty.aF _))); exact aJ
   refine aG rfl (Cont.aF _) ?_; refine aG rfl (Cont.aF _) ?_; refine aG rfl (Cont.aF _) ?_; refine aG rfl (Cont.dM ⟨Ty.aF _, Ty.aF _, trivial⟩) ?_; refine aG rfl (Cont.aF _) ?_; exact aI
  refine cQ mixed rfl ?_
  refine aO rfl rfl rfl rfl rfl (by decide) ?_
  refine aU rfl rfl (by decide) rfl rfl rfl ?_
  refine qP rfl (bR rfl ?_)
  refine b9 [(1000, 1000)] [] [(1000, Cont.cells 149 (dP (aY (aY (aY (d.bs k.1).2)))))] (CA (aY (d.bs k.1).2) ⟨by omega, by omega⟩ (bg (d.bs k.1).2 60) 12 (by omega) (by omega)) rfl rfl (by repeat (first | exact bH | refine aH ?_ ?_ | exact dx List.mem_cons_self | exact aR rfl rfl)) (cC (a := 1000) (b := 1000) (by exact List.mem_cons_self) rfl (bM (by exact List.mem_cons_self) rfl rfl rfl) pre_nil) (bI (a := 1000) (b := 1000) (by exact List.mem_cons_self) rfl (bM (by exact List.mem_cons_self) rfl rfl rfl) post_nil) (aR rfl rfl) ?_
  refine c6 rfl rfl (by exact List.cons_ne_nil _ _) rfl (by repeat (first | exact (aW.nil : aW _ _ [] _) | (show aW _ _ ((_, _) :: _) _; apply aW.one; (· exact (rfl : _ = Ty.int _ _)); (· exact rfl)) | (show aW _ _ ((_, _) :: _) _; apply aW.agg; (· exact (rfl : _ = Ty.agg _))))) (by exact (rfl : _ = some [_, _, _])) ?_
  refine bt (E := dY) (xs := [⟨300, gw (aY (d.bs k.1).2) (bg (d.bs k.1).2 60) 12⟩]) rfl rfl rfl rfl rfl (by decide) (by decide) (by repeat (first | exact (aW.nil : aW _ _ [] _) | (show aW _ _ ((_, _) :: _) _; apply aW.agg; (· exact (rfl : _ = Ty.agg _))))) (by exact rfl) rfl ?_
  refine fJ rfl rfl (by decide) rfl rfl rfl rfl rfl rfl (by decide) (by (simp <;> omega)) (by (simp <;> omega)) ?_
  refine aO rfl rfl rfl rfl rfl (by decide) ?_
  refine cq rfl rfl (by decide) rfl rfl (by exact (rfl : _ = Ty.row _ _ _ _)) rfl (by exact Nat.le_of_ble_eq_true rfl) rfl rfl (by exact rfl) ?_
  refine aD ?_
  refine ⟨by kernel_rfl, ?_⟩
  refine bf (aC (aA ?_))
  refine cD rfl rfl (by omega) (by omega) ?_
  refine bR rfl (aD ?_)
  refine bp (⟨k.1 + 1, by omega⟩) ?_ (by show d.nb - (k.1 + 1) < d.nb - k.1; omega)
  (refine dG.mk' ?_ ?_ <;> (repeat' (first | exact aJ | exact aI | exact dQ | refine aB ?_ (Ty.aX _) | refine aB ?_ (Ty.aF _) | refine aG rfl (Cont.aF _) ?_ | refine aG rfl (Cont.dS ?_) ?_ | refine bh ?_ (Ty.aF _) | refine bh ?_ ?_)))
  all_goals skip
  all_goals first | exact Ty.af (congrArg (fun p => p.2.mixed) (FR d _)) | exact Ty.af (congrArg (fun p => p.2.taken) (FR d _)) | exact Ty.iE (congrArg (fun p => p.2.grain) (FR d _)) | exact Ty.gF (congrArg (fun p => p.1.1) (FR d _)) | exact Ty.gF (congrArg (fun p => p.1.2) (FR d _))
 refine cg (aT (aT (bA rfl (aC (aE ?_)))))
 obtain ⟨k, hk⟩ := k
 obtain rfl : k = d.nb := by have h1 : ¬ (k : Int) < (d.nb : Int) := hc1; have h2 : k ≤ d.nb := hk; omega
 have b3 := B.taken
 have b4 := cY (d.bs d.nb).2
 refine aA (qP rfl (bR rfl ?_))
 refine cD rfl rfl (by omega) (by omega) ?_
 refine b9 [(1000, 1000)] [] [(1000, Cont.cells 149 (dP (aY (d.bs d.nb).2)))] (jU (d.bs d.nb).2 ⟨by omega, by omega⟩ _) rfl rfl (by repeat (first | exact bH | refine aH ?_ ?_ | exact dx List.mem_cons_self | exact aR rfl rfl)) (cC (a := 1000) (b := 1000) (by exact List.mem_cons_self) rfl (bM (by exact List.mem_cons_self) rfl rfl rfl) pre_nil) (bI (a := 1000) (b := 1000) (by exact List.mem_cons_self) rfl (bM (by exact List.mem_cons_self) rfl rfl rfl) post_nil) (aR rfl rfl) ?_
 refine cE rfl (aD (aC (aE (aE ?_))))
 refine fq (s := 15) rfl (Ty.af (show bg (d.bs d.nb).2 (d.moves + 1) = ((d.many : Nat) : Int) from hmn.2 ▸ (by unfold Md.Au; rfl))) ?_
 refine gI (tg := 13) rfl (Cont.dM (l' := [Ty.int .i64 d.D, Ty.row dY 39 49 d.gM, Ty.ex (.slice none 0 0), Ty.ex (.slice none 0 0)]) ⟨Ty.aF _, Ty.gF (by unfold Md.gM; rfl), Ty.aF _, Ty.aF _, trivial⟩) ?_
 refine gI (tg := 14) rfl (Cont.dM (l' := [Ty.row c7 3 40 d.first, Ty.ex (.slice none 0 0)]) ⟨Ty.gF (by unfold Md.first; rfl), Ty.aF _, trivial⟩) ?_
 refine aA (bR rfl (bR rfl (aD (aC (au ?_)))))
 refine cZ (fun (i : {i : Nat // i ≤ d.many}) => live [(0, Ty.ptr 1000 0), (4, Ty.int .i64 d.levels), (10, Ty.ptr 11 0), (11, Ty.ptr 12 0), (12, Ty.ptr 13 0), (13, Ty.ptr 14 0), (15, Ty.int .i64 (d.many : Nat)), (56, Ty.int .i64 (d.many : Nat)), (57, Ty.int .i64 (i.1 : Nat))] [(11, Cont.cells 27 [Ty.int .i64 0, Ty.ex (.slice none 0 0), Ty.ex (.slice none 0 0), Ty.ex (.slice none 0 0)]), (12, Cont.cells 30 [Ty.ex (.slice none 0 0), Ty.ex (.slice none 0 0)]), (13, Cont.cells 27 [Ty.int .i64 d.D, Ty.row dY 39 49 d.gM, Ty.row cy 41 175 (d.ms i.1).1.1, Ty.ex (.slice none 0 0)]), (14, Cont.cells 30 [Ty.row c7 3 40 d.first, Ty.row c7 3 180 (d.ms i.1).1.2]), (1000, Cont.cells 149 (dP (d.ms i.1).2))]) (fun i => d.many - i.1) (⟨0, by omega⟩) ?_ fun i => ?_
 ·(refine dG.mk' ?_ ?_ <;> (repeat' (first | exact aJ | exact aI | exact dQ | refine aB ?_ (Ty.aX _) | refine aB ?_ (Ty.aF _) | refine aG rfl (Cont.aF _) ?_ | refine aG rfl (Cont.dS ?_) ?_ | refine bh ?_ (Ty.aF _) | refine bh ?_ ?_)))
  all_goals first | exact Ty.af (congrArg (fun p => p.2.mixed) (F3 d)) | exact Ty.af (congrArg (fun p => p.2.taken) (F3 d)) | exact Ty.iE (congrArg (fun p => p.2.grain) (F3 d)) | exact k9 (congrArg (fun p => p.1.1) (F3 d)).symm | exact k9 (congrArg (fun p => p.1.2) (F3 d)).symm
 have hi := i.2
 have hP := d.qC hd i.1 hi
 have e1 := hP.len1
 have e2 := hP.len2
 have e3 := hP.taken
 have e4 := d.yC (d.ms i.1).2
 have e5 := cY (d.pY (d.ms i.1).2)
 have e6 := cX (d.pY (d.ms i.1).2) 40
 have e7 := cY (d.ms i.1).2
 have e8 := cY (aY (d.ms i.1).2)
 refine aE (aA (bC rfl rfl rfl (aD (aC (aE ?_)))))
 refine av rfl (fun hc2 => ?_) (fun hc2 => ?_)
 ·
  refine ak (aC (aE (au (aE (aA (bR rfl (cE rfl (aD (aC ?_)))))))))
  refine aE ?_
  have hdv := wL (D := d.D) (i := i.1) (n := d.many) hD.1 (by omega)
  have hmul : 0 ≤ (i.1 : Int) * d.D ∧ (i.1 : Int) * d.D ≤ 10 * 5 := ⟨Int.mul_nonneg (by omega) (by omega), Int.mul_le_mul (by omega) hD.2 (by omega) (by omega)⟩
  have hday : 0 ≤ d.day i.1 ∧ d.day i.1 < d.D := by unfold Md.day; exact hdv.1
  have hCI : ∀ (b t : Int), 0 ≤ b → b.toNat < d.first.length → 0 ≤ cB (d.yd (d.ms i.1).1.1) (d.am (d.ms i.1).1.2) b t ∧ cB (d.yd (d.ms i.1).1.1) (d.am (d.ms i.1).1.2) b t ≤ 300 := fun b t g0 g1 => by
   have := hP.cont b.toNat t (by omega)
   rwa [Int.toNat_of_nonneg g0] at this
  refine cQ mixed rfl (bR rfl ?_)
  refine aO rfl rfl rfl rfl rfl (by decide) ?_
  refine aU rfl rfl (by decide) rfl rfl rfl ?_
  refine Cr rfl rfl (by omega) (by omega) ?_
  refine bR rfl ?_
  refine JQ rfl rfl (by omega) ?_
  refine qP rfl ?_
  refine aO rfl rfl rfl rfl rfl (by decide) ?_
  refine aU rfl rfl (by decide) rfl rfl rfl ?_
  refine mW rfl rfl rfl ?_
  refine gz rfl rfl (by omega) (by omega) ?_
  refine b9 [(1000, 1000)] [] [(1000, Cont.cells 149 (dP (aY (d.ms i.1).2)))] (ue (d.ms i.1).2 ⟨by omega, by omega⟩ (-1) ((d.gM.length : Int) - 1) (by omega) (by omega)) rfl rfl (by repeat (first | exact bH | refine aH ?_ ?_ | exact dx List.mem_cons_self | exact aR rfl rfl)) (cC (a := 1000) (b := 1000) (by exact List.mem_cons_self) rfl (bM (by exact List.mem_cons_self) rfl rfl rfl) pre_nil) (bI (a := 1000) (b := 1000) (by exact List.mem_cons_self) rfl (bM (by exact List.mem_cons_self) rfl rfl rfl) post_nil) (aR rfl rfl) ?_
  refine qP rfl ?_
  refine aO rfl rfl rfl rfl rfl (by decide) ?_
  refine aU rfl rfl (by decide) rfl rfl rfl ?_
  refine mW rfl rfl rfl ?_
  refine gz rfl rfl (by omega) (by omega) ?_
  refine b9 [(1000, 1000)] [] [(1000, Cont.cells 149 (dP (aY (aY (d.ms i.1).2))))] (ue (aY (d.ms i.1).2) ⟨by omega, by omega⟩ (-1) ((d.gM.length : Int) - 1) (by omega) (by omega)) rfl rfl (by repeat (first | exact bH | refine aH ?_ ?_ | exact dx List.mem_cons_self | exact aR rfl rfl)) (cC (a := 1000) (b := 1000) (by exact List.mem_cons_self) rfl (bM (by exact List.mem_cons_self) rfl rfl rfl) pre_nil) (bI (a := 1000) (b := 1000) (by exact List.mem_cons_self) rfl (bM (by exact List.mem_cons_self) rfl rfl rfl) post_nil) (aR rfl rfl) ?_
  refine c6 rfl rfl (by exact List.cons_ne_nil _ _) rfl (by repeat (first | exact (aW.nil : aW _ _ [] _) | (show aW _ _ ((_, _) :: _) _; apply aW.one; (· exact (rfl : _ = Ty.int _ _)); (· exact rfl)))) (by exact rfl) ?_
  refine bw rfl (by exact List.cons_ne_nil _ _) rfl ?_
  refine bk rfl rfl (by decide) rfl rfl rfl rfl rfl rfl ?_
  refine aD ?_
  refine ⟨by kernel_rfl, ?_⟩
  refine aC ?_
  refine lD (J := live [(0, Ty.ptr 1000 0), (4, Ty.int .i64 d.levels), (10, Ty.ptr 11 0), (11, Ty.ptr 12 0), (12, Ty.ptr 13 0), (13, Ty.ptr 14 0), (15, Ty.int .i64 (d.many : Nat)), (56, Ty.int .i64 (d.many : Nat)), (57, Ty.int .i64 (i.1 : Nat)), (17, Ty.ptr 18 0)] [(11, Cont.cells 27 [Ty.int .i64 0, Ty.ex (.slice none 0 0), Ty.ex (.slice none 0 0), Ty.ex (.slice none 0 0)]), (12, Cont.cells 30 [Ty.ex (.slice none 0 0), Ty.ex (.slice none 0 0)]), (13, Cont.cells 27 [Ty.int .i64 d.D, Ty.row dY 39 49 d.gM, Ty.row cy 41 175 (d.ms i.1).1.1, Ty.ex (.slice none 0 0)]), (14, Cont.cells 30 [Ty.row c7 3 40 d.first, Ty.row c7 3 180 (d.ms i.1).1.2]), (18, Cont.cells 41 [Ty.int .i64 (d.day i.1), Ty.int .i64 (d.src (d.ms i.1).2), Ty.int .i64 (d.dst (d.ms i.1).2), Ty.int .i64 0, Ty.int .i64 0]), (1000, Cont.cells 149 (dP (d.pY (d.ms i.1).2)))]) ?_ ?_
  ·
   refine aE ?_
   refine gI (tg := 18) rfl (Cont.dM (l' := [Ty.int .i64 (d.day i.1), Ty.int .i64 (d.uJ (d.ms i.1).2), Ty.int .i64 (d.uL (d.ms i.1).2), Ty.int .i64 0, Ty.int .i64 0]) ⟨Ty.af (by unfold Md.day; exact IntWalk.i64_in _ (by have := hdv.1; omega)), Ty.af (by unfold Md.uJ; rw [b2]), Ty.af (by unfold Md.uL; rw [b2]), Ty.aF _, Ty.aF _, trivial⟩) ?_
   refine dO (B := live [(0, Ty.ptr 1000 0), (4, Ty.int .i64 d.levels), (10, Ty.ptr 11 0), (11, Ty.ptr 12 0), (12, Ty.ptr 13 0), (13, Ty.ptr 14 0), (15, Ty.int .i64 (d.many : Nat)), (56, Ty.int .i64 (d.many : Nat)), (57, Ty.int .i64 (i.1 : Nat)), (17, Ty.ptr 18 0)] [(11, Cont.cells 27 [Ty.int .i64 0, Ty.ex (.slice none 0 0), Ty.ex (.slice none 0 0), Ty.ex (.slice none 0 0)]), (12, Cont.cells 30 [Ty.ex (.slice none 0 0), Ty.ex (.slice none 0 0)]), (13, Cont.cells 27 [Ty.int .i64 d.D, Ty.row dY 39 49 d.gM, Ty.row cy 41 175 (d.ms i.1).1.1, Ty.ex (.slice none 0 0)]), (14, Cont.cells 30 [Ty.row c7 3 40 d.first, Ty.row c7 3 180 (d.ms i.1).1.2]), (18, Cont.cells 41 [Ty.int .i64 (d.day i.1), Ty.int .i64 (d.uJ (d.ms i.1).2), Ty.int .i64 (d.uL (d.ms i.1).2), Ty.int .i64 0, Ty.int .i64 0]), (1000, Cont.cells 149 (dP (aY (aY (d.ms i.1).2))))]) ?_ ?_
   ·refine dG.mk' ?_ ?_
    ·(repeat (first | refine aB ?_ (Ty.aX _) | refine aB ?_ (Ty.aF _))); exact aJ
    refine aG rfl (Cont.aF _) ?_; refine aG rfl (Cont.aF _) ?_; refine aG rfl (Cont.aF _) ?_; refine aG rfl (Cont.aF _) ?_; refine aG rfl (Cont.aF _) ?_; refine aG rfl (Cont.aF _) ?_; exact aI
   refine aA ?_
   refine aO rfl rfl rfl rfl rfl (by decide) ?_
   refine aU rfl rfl (by decide) rfl rfl rfl ?_
   refine aO rfl rfl rfl rfl rfl (by decide) ?_
   refine aU rfl rfl (by decide) rfl rfl rfl ?_
   refine bC rfl rfl rfl (aD (aC ?_))
   refine av rfl (fun hc3 => ?_) (fun hc3 => ?_)
   ·
    refine aA (qP rfl ?_)
    refine aO rfl rfl rfl rfl rfl (by decide) ?_
    refine aU rfl rfl (by decide) rfl rfl rfl ?_
    refine mW rfl rfl rfl ?_
    refine b9 [(1000, 1000)] [] [(1000, Cont.cells 149 (dP (aY (aY (aY (d.ms i.1).2)))))] (jU (aY (aY (d.ms i.1).2)) ⟨by omega, by omega⟩ _) rfl rfl (by repeat (first | exact bH | refine aH ?_ ?_ | exact dx List.mem_cons_self | exact aR rfl rfl)) (cC (a := 1000) (b := 1000) (by exact List.mem_cons_self) rfl (bM (by exact List.mem_cons_self) rfl rfl rfl) pre_nil) (bI (a := 1000) (b := 1000) (by exact List.mem_cons_self) rfl (bM (by exact List.mem_cons_self) rfl rfl rfl) post_nil) (aR rfl rfl) ?_
    refine aO rfl rfl rfl rfl rfl (by decide) ?_
    refine cq rfl rfl (by decide) rfl rfl (by exact (rfl : _ = Ty.int _ _)) rfl (by exact Nat.le_of_ble_eq_true rfl) rfl rfl (by exact rfl) ?_
    refine aO rfl rfl rfl rfl rfl (by decide) ?_
    refine cq rfl rfl (by decide) rfl rfl (by exact (rfl : _ = Ty.int _ _)) rfl (by exact Nat.le_of_ble_eq_true rfl) rfl rfl (by exact rfl) ?_
    refine aD (fO ?_)
    (refine dG.mk' ?_ ?_ <;> (repeat' (first | exact aJ | exact aI | exact dQ | refine aB ?_ (Ty.aX _) | refine aB ?_ (Ty.aF _) | refine aG rfl (Cont.aF _) ?_ | refine aG rfl (Cont.dS ?_) ?_ | refine bh ?_ (Ty.aF _) | refine bh ?_ ?_)))
    all_goals first | exact Ty.af (Ao hc3).1.1 | exact Ty.af (by rw [b2]; exact (Ao hc3).1.2) | exact Ty.af (congrArg (fun p => p.mixed) (Ao hc3).2) | exact Ty.af (congrArg (fun p => p.taken) (Ao hc3).2) | exact Ty.iE (congrArg (fun p => p.grain) (Ao hc3).2)
   refine ak (fO ?_)
   (refine dG.mk' ?_ ?_ <;> (repeat' (first | exact aJ | exact aI | exact dQ | refine aB ?_ (Ty.aX _) | refine aB ?_ (Ty.aF _) | refine aG rfl (Cont.aF _) ?_ | refine aG rfl (Cont.dS ?_) ?_ | refine bh ?_ (Ty.aF _) | refine bh ?_ ?_)))
   all_goals first | exact Ty.af (BJ hc3).1.1 | exact Ty.af (BJ hc3).1.2 | exact Ty.af (congrArg (fun p => p.mixed) (BJ hc3).2) | exact Ty.af (congrArg (fun p => p.taken) (BJ hc3).2) | exact Ty.iE (congrArg (fun p => p.grain) (BJ hc3).2)
  refine aE (aA (qP rfl ?_))
  refine b9 [(1000, 1000)] [] [(1000, Cont.cells 149 (dP (aY (d.pY (d.ms i.1).2))))] (jU (d.pY (d.ms i.1).2) ⟨by omega, by omega⟩ 40) rfl rfl (by repeat (first | exact bH | refine aH ?_ ?_ | exact dx List.mem_cons_self | exact aR rfl rfl)) (cC (a := 1000) (b := 1000) (by exact List.mem_cons_self) rfl (bM (by exact List.mem_cons_self) rfl rfl rfl) pre_nil) (bI (a := 1000) (b := 1000) (by exact List.mem_cons_self) rfl (bM (by exact List.mem_cons_self) rfl rfl rfl) post_nil) (aR rfl rfl) ?_
  refine cE rfl (aD (aC ?_))
  refine lD (J := live [(0, Ty.ptr 1000 0), (4, Ty.int .i64 d.levels), (10, Ty.ptr 11 0), (11, Ty.ptr 12 0), (12, Ty.ptr 13 0), (13, Ty.ptr 14 0), (15, Ty.int .i64 (d.many : Nat)), (56, Ty.int .i64 (d.many : Nat)), (57, Ty.int .i64 (i.1 : Nat)), (17, Ty.ptr 18 0), (18, Ty.int .i64 (lN (d.yd (d.ms i.1).1.1) (d.am (d.ms i.1).1.2) (d.mv (d.ms i.1).2 i.1) (bg (d.pY (d.ms i.1).2) 40)))] [(11, Cont.cells 27 [Ty.int .i64 0, Ty.ex (.slice none 0 0), Ty.ex (.slice none 0 0), Ty.ex (.slice none 0 0)]), (12, Cont.cells 30 [Ty.ex (.slice none 0 0), Ty.ex (.slice none 0 0)]), (13, Cont.cells 27 [Ty.int .i64 d.D, Ty.row dY 39 49 d.gM, Ty.row cy 41 175 (d.ms i.1).1.1, Ty.ex (.slice none 0 0)]), (14, Cont.cells 30 [Ty.row c7 3 40 d.first, Ty.row c7 3 180 (d.ms i.1).1.2]), (18, Cont.cells 41 [Ty.int .i64 (d.day i.1), Ty.int .i64 (d.src (d.ms i.1).2), Ty.int .i64 (d.dst (d.ms i.1).2), Ty.int .i64 0, Ty.int .i64 0]), (1000, Cont.cells 149 (dP (aY (d.pY (d.ms i.1).2))))]) ?_ ?_
  ·
   refine aE (aA ?_)
   refine aO rfl rfl rfl rfl rfl (by decide) ?_
   refine aU rfl rfl (by decide) rfl rfl rfl ?_
   refine bC rfl rfl rfl (aD (aC ?_))
   refine dI rfl (fun hc4 => ?_) (fun hc4 => ?_)
   ·
    refine aA (bR rfl ?_)
    refine bL rfl rfl (by decide) rfl rfl (by exact Nat.le_of_ble_eq_true rfl) ?_
    refine bL rfl rfl (by decide) rfl rfl (by exact Nat.le_of_ble_eq_true rfl) ?_
    refine aO rfl rfl rfl rfl rfl (by decide) ?_
    refine aU rfl rfl (by decide) rfl rfl rfl ?_
    refine aO rfl rfl rfl rfl rfl (by decide) ?_
    refine aU rfl rfl (by decide) rfl rfl rfl ?_
    refine dU [49, 175, 40, 180] (gB (d.yd (d.ms i.1).1.1) (d.am (d.ms i.1).1.2) (oP hd hi hP) (d.src (d.ms i.1).2) (d.day i.1) (yY hd hc4 b1).1 (yY hd hc4 b1).2) rfl (aM (gQ (aM (aa (bG rfl rfl)) (aM (aa (fF rfl)) (aM (aa (fF rfl)) (aM (aa oD) bY))))) (aM (gQ (aM (aa (fF rfl)) (aM (aa (fF rfl)) bY))) (aM (aa (bG rfl rfl)) (aM (aa (bG rfl rfl)) bY)))) (by exact dH _ _) ?_
    refine rR rfl rfl (cE rfl (aD (fO ?_)))
    (refine dG.mk' ?_ ?_ <;> (repeat' (first | exact aJ | exact aI | refine aB ?_ (Ty.aX _) | refine aB ?_ (Ty.aF _) | refine aG rfl (Cont.aF _) ?_ | refine aB ?_ ?_)))
    all_goals exact Ty.af (Kl hc4)
   refine ak (fO ?_)
   (refine dG.mk' ?_ ?_ <;> (repeat' (first | exact aJ | exact aI | refine aB ?_ (Ty.aX _) | refine aB ?_ (Ty.aF _) | refine aG rfl (Cont.aF _) ?_ | refine aB ?_ ?_)))
   all_goals exact Ty.af (L6 hc4)
  refine lD (J := live [(0, Ty.ptr 1000 0), (4, Ty.int .i64 d.levels), (10, Ty.ptr 11 0), (11, Ty.ptr 12 0), (12, Ty.ptr 13 0), (13, Ty.ptr 14 0), (15, Ty.int .i64 (d.many : Nat)), (56, Ty.int .i64 (d.many : Nat)), (57, Ty.int .i64 (i.1 : Nat)), (17, Ty.ptr 18 0), (18, Ty.int .i64 (mV (d.yd (d.ms i.1).1.1) (d.am (d.ms i.1).1.2) (d.mv (d.ms i.1).2 i.1) (lN (d.yd (d.ms i.1).1.1) (d.am (d.ms i.1).1.2) (d.mv (d.ms i.1).2 i.1) (bg (d.pY (d.ms i.1).2) 40))))] [(11, Cont.cells 27 [Ty.int .i64 0, Ty.ex (.slice none 0 0), Ty.ex (.slice none 0 0), Ty.ex (.slice none 0 0)]), (12, Cont.cells 30 [Ty.ex (.slice none 0 0), Ty.ex (.slice none 0 0)]), (13, Cont.cells 27 [Ty.int .i64 d.D, Ty.row dY 39 49 d.gM, Ty.row cy 41 175 (d.ms i.1).1.1, Ty.ex (.slice none 0 0)]), (14, Cont.cells 30 [Ty.row c7 3 40 d.first, Ty.row c7 3 180 (d.ms i.1).1.2]), (18, Cont.cells 41 [Ty.int .i64 (d.day i.1), Ty.int .i64 (d.src (d.ms i.1).2), Ty.int .i64 (d.dst (d.ms i.1).2), Ty.int .i64 0, Ty.int .i64 0]), (1000, Cont.cells 149 (dP (aY (d.pY (d.ms i.1).2))))]) ?_ ?_
  ·
   refine aE (aA ?_)
   refine aO rfl rfl rfl rfl rfl (by decide) ?_
   refine aU rfl rfl (by decide) rfl rfl rfl ?_
   refine bC rfl rfl rfl (aD (aC ?_))
   refine dI rfl (fun hc5 => ?_) (fun hc5 => ?_)
   ·
    have hq := hCI (d.dst (d.ms i.1).2) (d.day i.1 + 1) (yh hd hc5 b1).1 (yh hd hc5 b1).2
    refine aA (bR rfl ?_)
    refine bL rfl rfl (by decide) rfl rfl (by exact Nat.le_of_ble_eq_true rfl) ?_
    refine bL rfl rfl (by decide) rfl rfl (by exact Nat.le_of_ble_eq_true rfl) ?_
    refine aO rfl rfl rfl rfl rfl (by decide) ?_
    refine aU rfl rfl (by decide) rfl rfl rfl ?_
    refine aO rfl rfl rfl rfl rfl (by decide) ?_
    refine aU rfl rfl (by decide) rfl rfl rfl ?_
    refine cD rfl rfl (by omega) (by omega) ?_
    refine dU [49, 175, 40, 180] (gB (d.yd (d.ms i.1).1.1) (d.am (d.ms i.1).1.2) (oP hd hi hP) (d.dst (d.ms i.1).2) (d.day i.1 + 1) (yh hd hc5 b1).1 (yh hd hc5 b1).2) rfl (aM (gQ (aM (aa (bG rfl rfl)) (aM (aa (fF rfl)) (aM (aa (fF rfl)) (aM (aa oD) bY))))) (aM (gQ (aM (aa (fF rfl)) (aM (aa (fF rfl)) bY))) (aM (aa (bG rfl rfl)) (aM (aa (bG rfl rfl)) bY)))) (by exact dH _ _) ?_
    refine gz rfl rfl (by omega) (by omega) ?_
    refine rR rfl rfl (cE rfl (aD (fO ?_)))
    (refine dG.mk' ?_ ?_ <;> (repeat' (first | exact aJ | exact aI | refine aB ?_ (Ty.aX _) | refine aB ?_ (Ty.aF _) | refine aG rfl (Cont.aF _) ?_ | refine aB ?_ ?_)))
    all_goals exact Ty.af (KA hc5)
   refine ak (fO ?_)
   (refine dG.mk' ?_ ?_ <;> (repeat' (first | exact aJ | exact aI | refine aB ?_ (Ty.aX _) | refine aB ?_ (Ty.aF _) | refine aG rfl (Cont.aF _) ?_ | refine aB ?_ ?_)))
   all_goals exact Ty.af (LI hc5)
  refine aE (aE (aA ?_))
  refine aO rfl rfl rfl rfl rfl (by decide) ?_
  refine aU rfl rfl (by decide) rfl rfl rfl ?_
  refine mW rfl rfl rfl (bR rfl (aD (aC (au ?_))))
  refine cZ (fun (k : {k : Nat // k ≤ (d.ms i.1).1.1.length}) => live [(0, Ty.ptr 1000 0), (4, Ty.int .i64 d.levels), (10, Ty.ptr 11 0), (11, Ty.ptr 12 0), (12, Ty.ptr 13 0), (13, Ty.ptr 14 0), (15, Ty.int .i64 (d.many : Nat)), (56, Ty.int .i64 (d.many : Nat)), (57, Ty.int .i64 (i.1 : Nat)), (17, Ty.ptr 18 0), (18, Ty.int .i64 (lY (d.yd (d.ms i.1).1.1) (d.am (d.ms i.1).1.2) (d.mv (d.ms i.1).2 i.1) (mV (d.yd (d.ms i.1).1.1) (d.am (d.ms i.1).1.2) (d.mv (d.ms i.1).2 i.1) (lN (d.yd (d.ms i.1).1.1) (d.am (d.ms i.1).1.2) (d.mv (d.ms i.1).2 i.1) (bg (d.pY (d.ms i.1).2) 40))) k.1)), (120, Ty.row cy 41 175 (d.ms i.1).1.1), (121, Ty.int .i64 (d.ms i.1).1.1.length), (122, Ty.int .i64 (k.1 : Nat))] [(11, Cont.cells 27 [Ty.int .i64 0, Ty.ex (.slice none 0 0), Ty.ex (.slice none 0 0), Ty.ex (.slice none 0 0)]), (12, Cont.cells 30 [Ty.ex (.slice none 0 0), Ty.ex (.slice none 0 0)]), (13, Cont.cells 27 [Ty.int .i64 d.D, Ty.row dY 39 49 d.gM, Ty.row cy 41 175 (d.ms i.1).1.1, Ty.ex (.slice none 0 0)]), (14, Cont.cells 30 [Ty.row c7 3 40 d.first, Ty.row c7 3 180 (d.ms i.1).1.2]), (18, Cont.cells 41 [Ty.int .i64 (d.day i.1), Ty.int .i64 (d.src (d.ms i.1).2), Ty.int .i64 (d.dst (d.ms i.1).2), Ty.int .i64 0, Ty.int .i64 0]), (1000, Cont.cells 149 (dP (aY (d.pY (d.ms i.1).2))))]) (fun k => (d.ms i.1).1.1.length - k.1) (⟨0, by omega⟩) ?_ fun k => ?_
  ·(refine dG.mk' ?_ ?_ <;> (repeat' (first | exact aJ | exact aI | refine aB ?_ (Ty.aX _) | refine aB ?_ (Ty.aF _) | refine aG rfl (Cont.aF _) ?_ | refine aB ?_ ?_)))
   all_goals exact Ty.af MM
  have hk := k.2
  refine aE (aA (bC rfl rfl rfl (aD (aC (aE ?_)))))
  refine av rfl (fun hc6 => ?_) (fun hc6 => ?_)
  ·
   refine ak (aC (aE (au (aE (aA (bR rfl ?_))))))
   refine rQ rfl rfl rfl rfl rfl rfl (by omega) ?_
   refine CX rfl rfl rfl (by exact Nat.le_of_ble_eq_true rfl) ?_
   refine bw rfl (by exact List.cons_ne_nil _ _) rfl ?_
   refine cE rfl ?_
   refine bk rfl rfl (by decide) rfl rfl rfl rfl rfl rfl ?_
   refine aD (aC (aE (aA ?_)))
   refine aO rfl rfl rfl rfl rfl (by decide) ?_
   refine aU rfl rfl (by decide) rfl rfl rfl ?_
   refine aO rfl rfl rfl rfl rfl (by decide) ?_
   refine aU rfl rfl (by decide) rfl rfl rfl ?_
   refine bC rfl rfl rfl (fu rfl ?_)
   apply aL (s := 132) rfl rfl rfl
   ·intro hg; apply aP; (refine aO rfl rfl rfl rfl rfl (by decide) ?_); refine aD ?_; exact rfl
   ·exact rfl
   ·exact rfl
   apply aL (s := 132) rfl rfl rfl
   ·intro hg; apply aK (s := 133) rfl (by (rw [hg]; rfl)); apply aP; (refine aU rfl rfl (by decide) rfl rfl rfl ?_); refine aD ?_; exact rfl
   ·exact rfl
   ·exact rfl
   apply aL (s := 132) rfl rfl rfl
   ·intro hg; apply aP; (refine aO rfl rfl rfl rfl rfl (by decide) ?_); refine aD ?_; exact rfl
   ·exact rfl
   ·exact rfl
   apply aL (s := 132) rfl rfl rfl
   ·intro hg; apply aK (s := 135) rfl (by (rw [hg]; rfl)); apply aP; (refine aU rfl rfl (by decide) rfl rfl rfl ?_); refine aD ?_; exact rfl
   ·exact rfl
   ·exact rfl
   apply aL (s := 132) rfl rfl rfl
   ·intro hg; apply aK (s := 134) rfl (by (rw [hg]; rfl)); apply aK (s := 136) rfl (by (rw [hg]; rfl)); apply aP; (refine bC rfl rfl rfl ?_); refine aD ?_; exact rfl
   ·exact rfl
   ·exact rfl
   refine fD rfl rfl (fu rfl ?_)
   apply aL (s := 139) rfl rfl rfl
   ·intro hg; apply aP; (refine aO rfl rfl rfl rfl rfl (by decide) ?_); refine aD ?_; exact rfl
   ·exact rfl
   ·exact rfl
   apply aL (s := 139) rfl rfl rfl
   ·intro hg; apply aK (s := 140) rfl (by (rw [hg]; rfl)); apply aP; (refine aU rfl rfl (by decide) rfl rfl rfl ?_); refine aD ?_; exact rfl
   ·exact rfl
   ·exact rfl
   apply aL (s := 139) rfl rfl rfl
   ·intro hg; apply aK (s := 141) rfl (by (rw [hg]; rfl)); apply aP; (refine bC rfl rfl rfl ?_); refine aD ?_; exact rfl
   ·exact rfl
   ·exact rfl
   refine fD rfl rfl (aD (aC ?_))
   refine cr rfl (fun hc7 => ?_) (fun hc7 => ?_)
   ·
    have hsr := yY hd (KN (y := (d.yd (d.ms i.1).1.1)) (m := (d.mv (d.ms i.1).2 i.1)) hc7) b1
    have hq := hCI (d.src (d.ms i.1).2) (d.day i.1) hsr.1 hsr.2
    have hmk := hP.num _ (dA (show k.1 < (d.ms i.1).1.2.length by omega))
    refine cQ mixed rfl (bR rfl ?_)
    refine bL rfl rfl (by decide) rfl rfl (by exact Nat.le_of_ble_eq_true rfl) ?_
    refine bL rfl rfl (by decide) rfl rfl (by exact Nat.le_of_ble_eq_true rfl) ?_
    refine aO rfl rfl rfl rfl rfl (by decide) ?_
    refine aU rfl rfl (by decide) rfl rfl rfl ?_
    refine aO rfl rfl rfl rfl rfl (by decide) ?_
    refine aU rfl rfl (by decide) rfl rfl rfl ?_
    refine dU [49, 175, 40, 180] (gB (d.yd (d.ms i.1).1.1) (d.am (d.ms i.1).1.2) (oP hd hi hP) (d.src (d.ms i.1).2) (d.day i.1) hsr.1 hsr.2) rfl (aM (gQ (aM (aa (bG rfl rfl)) (aM (aa (fF rfl)) (aM (aa (fF rfl)) (aM (aa oD) bY))))) (aM (gQ (aM (aa (fF rfl)) (aM (aa (fF rfl)) bY))) (aM (aa (bG rfl rfl)) (aM (aa (bG rfl rfl)) bY)))) (by exact dH _ _) ?_
    refine aO rfl rfl rfl rfl rfl (by decide) ?_
    refine aU rfl rfl (by decide) rfl rfl rfl ?_
    refine bR rfl ?_
    refine rQ rfl rfl rfl rfl rfl rfl (by omega) ?_
    refine yT rfl rfl rfl rfl ?_
    refine gz rfl rfl (by omega) (by omega) ?_
    refine rR rfl rfl (cE rfl (aD ?_))
    refine ⟨by kernel_rfl, ?_⟩
    refine bf (aC (aA ?_))
    refine cD rfl rfl (by omega) (by omega) ?_
    refine bR rfl (aD ?_)
    refine bp (⟨k.1 + 1, by omega⟩) ?_ (by show (d.ms i.1).1.1.length - (k.1 + 1) < (d.ms i.1).1.1.length - k.1; omega)
    (refine dG.mk' ?_ ?_ <;> (repeat' (first | exact aJ | exact aI | refine aB ?_ (Ty.aX _) | refine aB ?_ (Ty.aF _) | refine aG rfl (Cont.aF _) ?_ | refine aB ?_ ?_)))
    all_goals skip
    all_goals exact Ty.af (J4 (y := (d.yd (d.ms i.1).1.1)) (a := (d.am (d.ms i.1).1.2)) (m := (d.mv (d.ms i.1).2 i.1)) hc7)
   refine ak (bf (aC (aA ?_)))
   refine cD rfl rfl (by omega) (by omega) ?_
   refine bR rfl (aD ?_)
   refine bp (⟨k.1 + 1, by omega⟩) ?_ (by show (d.ms i.1).1.1.length - (k.1 + 1) < (d.ms i.1).1.1.length - k.1; omega)
   (refine dG.mk' ?_ ?_ <;> (repeat' (first | exact aJ | exact aI | refine aB ?_ (Ty.aX _) | refine aB ?_ (Ty.aF _) | refine aG rfl (Cont.aF _) ?_ | refine aB ?_ ?_)))
   all_goals skip
   all_goals exact Ty.af (LX (y := (d.yd (d.ms i.1).1.1)) (a := (d.am (d.ms i.1).1.2)) (m := (d.mv (d.ms i.1).2 i.1)) hc7)
  refine cg (aT (aT (bA rfl (aC (aE ?_)))))
  obtain ⟨k, hk⟩ := k
  obtain rfl : k = (d.ms i.1).1.1.length := by have h1 : ¬ (k : Int) < ((d.ms i.1).1.1.length : Int) := hc6; have h2 : k ≤ (d.ms i.1).1.1.length := hk; omega
  refine dO (B := live [(0, Ty.ptr 1000 0), (4, Ty.int .i64 d.levels), (10, Ty.ptr 11 0), (11, Ty.ptr 12 0), (12, Ty.ptr 13 0), (13, Ty.ptr 14 0), (15, Ty.int .i64 (d.many : Nat)), (56, Ty.int .i64 (d.many : Nat)), (57, Ty.int .i64 (i.1 : Nat)), (17, Ty.ptr 18 0), (18, Ty.int .i64 (lY (d.yd (d.ms i.1).1.1) (d.am (d.ms i.1).1.2) (d.mv (d.ms i.1).2 i.1) (mV (d.yd (d.ms i.1).1.1) (d.am (d.ms i.1).1.2) (d.mv (d.ms i.1).2 i.1) (lN (d.yd (d.ms i.1).1.1) (d.am (d.ms i.1).1.2) (d.mv (d.ms i.1).2 i.1) (bg (d.pY (d.ms i.1).2) 40))) (d.yd (d.ms i.1).1.1).moves.length))] [(11, Cont.cells 27 [Ty.int .i64 0, Ty.ex (.slice none 0 0), Ty.ex (.slice none 0 0), Ty.ex (.slice none 0 0)]), (12, Cont.cells 30 [Ty.ex (.slice none 0 0), Ty.ex (.slice none 0 0)]), (13, Cont.cells 27 [Ty.int .i64 d.D, Ty.row dY 39 49 d.gM, Ty.row cy 41 175 (d.ms i.1).1.1, Ty.ex (.slice none 0 0)]), (14, Cont.cells 30 [Ty.row c7 3 40 d.first, Ty.row c7 3 180 (d.ms i.1).1.2]), (18, Cont.cells 41 [Ty.int .i64 (d.day i.1), Ty.int .i64 (d.src (d.ms i.1).2), Ty.int .i64 (d.dst (d.ms i.1).2), Ty.int .i64 0, Ty.int .i64 0]), (1000, Cont.cells 149 (dP (aY (d.pY (d.ms i.1).2))))]) ?_ ?_
  ·(refine dG.mk' ?_ ?_ <;> (repeat' (first | exact aJ | exact aI | refine aB ?_ (Ty.aX _) | refine aB ?_ (Ty.aF _) | refine aG rfl (Cont.aF _) ?_)))
  refine aA (bR rfl ?_)
  refine bL rfl rfl (by decide) rfl rfl (by exact Nat.le_of_ble_eq_true rfl) ?_
  refine bL rfl rfl (by decide) rfl rfl (by exact Nat.le_of_ble_eq_true rfl) ?_
  refine bL rfl rfl (by decide) rfl rfl (by exact Nat.le_of_ble_eq_true rfl) ?_
  refine dU [49, 175, 40, 180] (JA (d.yd (d.ms i.1).1.1) (d.am (d.ms i.1).1.2) (oP hd hi hP) (d.mv (d.ms i.1).2 i.1) (by show -1000000 ≤ d.day i.1 ∧ d.day i.1 ≤ 1000000; omega) (fun g => yY hd g b1)) rfl (aM (gQ (aM (aa (bG rfl rfl)) (aM (aa (fF rfl)) (aM (aa (fF rfl)) (aM (aa oD) bY))))) (aM (gQ (aM (aa (fF rfl)) (aM (aa (fF rfl)) bY))) (aM (aa (bG rfl rfl)) bY))) (by exact dH _ _) ?_
  refine rR rfl rfl (rj rfl rfl (cE rfl (aD (aC (aE ?_)))))
  have hnm := d.GA hd hP
  refine fq (s := 18) rfl (Ty.af (num_eq d (d.ms i.1) i.1)) ?_
  refine dO (B := live [(0, Ty.ptr 1000 0), (4, Ty.int .i64 d.levels), (10, Ty.ptr 11 0), (11, Ty.ptr 12 0), (12, Ty.ptr 13 0), (13, Ty.ptr 14 0), (15, Ty.int .i64 (d.many : Nat)), (56, Ty.int .i64 (d.many : Nat)), (57, Ty.int .i64 (i.1 : Nat)), (17, Ty.ptr 18 0), (18, Ty.int .i64 (d.num (d.ms i.1) i.1))] [(11, Cont.cells 27 [Ty.int .i64 0, Ty.ex (.slice none 0 0), Ty.ex (.slice none 0 0), Ty.ex (.slice none 0 0)]), (12, Cont.cells 30 [Ty.ex (.slice none 0 0), Ty.ex (.slice none 0 0)]), (13, Cont.cells 27 [Ty.int .i64 d.D, Ty.row dY 39 49 d.gM, Ty.row cy 41 175 (d.ms i.1).1.1, Ty.ex (.slice none 0 0)]), (14, Cont.cells 30 [Ty.row c7 3 40 d.first, Ty.row c7 3 180 (d.ms i.1).1.2]), (18, Cont.cells 41 [Ty.int .i64 (d.day i.1), Ty.int .i64 (d.src (d.ms i.1).2), Ty.int .i64 (d.dst (d.ms i.1).2), Ty.int .i64 0, Ty.int .i64 0]), (1000, Cont.cells 149 (dP (aY (d.pY (d.ms i.1).2))))]) ?_ ?_
  ·(refine dG.mk' ?_ ?_ <;> (repeat' (first | exact aJ | exact aI | refine aB ?_ (Ty.aX _) | refine aB ?_ (Ty.aF _) | refine aG rfl (Cont.aF _) ?_)))
  refine aA (qP rfl (bR rfl ?_))
  refine b9 [(1000, 1000)] [] [(1000, Cont.cells 149 (dP (aY (aY (aY (d.pY (d.ms i.1).2))))))] (CA (aY (d.pY (d.ms i.1).2)) ⟨by omega, by omega⟩ (d.num (d.ms i.1) i.1) 15 (by omega) (by omega)) rfl rfl (by repeat (first | exact bH | refine aH ?_ ?_ | exact dx List.mem_cons_self | exact aR rfl rfl)) (cC (a := 1000) (b := 1000) (by exact List.mem_cons_self) rfl (bM (by exact List.mem_cons_self) rfl rfl rfl) pre_nil) (bI (a := 1000) (b := 1000) (by exact List.mem_cons_self) rfl (bM (by exact List.mem_cons_self) rfl rfl rfl) post_nil) (aR rfl rfl) ?_
  refine aO rfl rfl rfl rfl rfl (by decide) ?_
  refine xk (lr := cy.tys (d.full (d.ms i.1) i.1)) rfl rfl (by decide) rfl rfl rfl (by exact Nat.le_of_ble_eq_true rfl) rfl rfl rfl ?_
  refine aD (aC ?_)
  refine dO (B := live [(0, Ty.ptr 1000 0), (4, Ty.int .i64 d.levels), (10, Ty.ptr 11 0), (11, Ty.ptr 12 0), (12, Ty.ptr 13 0), (13, Ty.ptr 14 0), (15, Ty.int .i64 (d.many : Nat)), (56, Ty.int .i64 (d.many : Nat)), (57, Ty.int .i64 (i.1 : Nat)), (17, Ty.ptr 18 0), (18, Ty.int .i64 (d.num (d.ms i.1) i.1))] [(11, Cont.cells 27 [Ty.int .i64 0, Ty.ex (.slice none 0 0), Ty.ex (.slice none 0 0), Ty.ex (.slice none 0 0)]), (12, Cont.cells 30 [Ty.ex (.slice none 0 0), Ty.ex (.slice none 0 0)]), (13, Cont.cells 27 [Ty.int .i64 d.D, Ty.row dY 39 49 d.gM, Ty.row cy 41 175 (d.ms i.1).1.1, Ty.ex (.slice none 0 0)]), (14, Cont.cells 30 [Ty.row c7 3 40 d.first, Ty.row c7 3 180 (d.ms i.1).1.2]), (18, Cont.cells 41 (cy.tys (d.full (d.ms i.1) i.1))), (1000, Cont.cells 149 (dP (aY (aY (aY (d.pY (d.ms i.1).2))))))]) ?_ ?_
  ·(refine dG.mk' ?_ ?_ <;> (repeat' (first | exact aJ | exact aI | refine aB ?_ (Ty.aX _) | refine aB ?_ (Ty.aF _) | refine aG rfl (Cont.aF _) ?_)))
  refine cQ mixed rfl ?_
  refine aO rfl rfl rfl rfl rfl (by decide) ?_
  refine aU rfl rfl (by decide) rfl rfl rfl ?_
  refine bL rfl rfl (by decide) rfl rfl (by exact Nat.le_of_ble_eq_true rfl) ?_
  refine bt (E := cy) (xs := [d.full (d.ms i.1) i.1]) rfl rfl rfl rfl rfl (by decide) (by decide) (by repeat (first | exact (aW.nil : aW _ _ [] _) | (show aW _ _ ((_, _) :: _) _; apply aW.agg; (· exact (rfl : _ = Ty.agg _))))) (by exact rfl) rfl ?_
  refine fJ rfl rfl (by decide) rfl rfl rfl rfl rfl rfl (by decide) (by (simp <;> omega)) (by (simp <;> omega)) ?_
  refine aO rfl rfl rfl rfl rfl (by decide) ?_
  refine aU rfl rfl (by decide) rfl rfl rfl ?_
  refine bR rfl ?_
  refine bt (E := c7) (xs := [d.num (d.ms i.1) i.1]) rfl rfl rfl rfl rfl (by decide) (by decide) (by repeat (first | exact (aW.nil : aW _ _ [] _) | (show aW _ _ ((_, _) :: _) _; apply aW.one; (· exact (rfl : _ = Ty.int _ _)); (· exact rfl)))) (by exact rfl) rfl ?_
  refine fJ rfl rfl (by decide) rfl rfl rfl rfl rfl rfl (by decide) (by (simp <;> omega)) (by (simp <;> omega)) ?_
  refine aO rfl rfl rfl rfl rfl (by decide) ?_
  refine cq rfl rfl (by decide) rfl rfl (by exact (rfl : _ = Ty.row _ _ _ _)) rfl (by exact Nat.le_of_ble_eq_true rfl) rfl rfl (by exact rfl) ?_
  refine aO rfl rfl rfl rfl rfl (by decide) ?_
  refine cq rfl rfl (by decide) rfl rfl (by exact (rfl : _ = Ty.row _ _ _ _)) rfl (by exact Nat.le_of_ble_eq_true rfl) rfl rfl (by exact rfl) ?_
  refine aD ?_
  refine ⟨by kernel_rfl, ?_⟩
  refine bf (aC (aA ?_))
  refine cD rfl rfl (by omega) (by omega) ?_
  refine bR rfl (aD ?_)
  refine bp (⟨i.1 + 1, by omega⟩) ?_ (by show d.many - (i.1 + 1) < d.many - i.1; omega)
  (refine dG.mk' ?_ ?_ <;> (repeat' (first | exact aJ | exact aI | exact dQ | refine aB ?_ (Ty.aX _) | refine aB ?_ (Ty.aF _) | refine aG rfl (Cont.aF _) ?_ | refine aG rfl (Cont.dS ?_) ?_ | refine bh ?_ (Ty.aF _) | refine bh ?_ ?_)))
  all_goals skip
  all_goals first | exact Ty.af (congrArg (fun p => p.2.mixed) (G3 d _)) | exact Ty.af (congrArg (fun p => p.2.taken) (G3 d _)) | exact Ty.iE (congrArg (fun p => p.2.grain) (G3 d _)) | exact Ty.gF (congrArg (fun p => p.1.1) (G3 d _)) | exact Ty.gF (congrArg (fun p => p.1.2) (G3 d _))
 refine cg (aT (aT (bA rfl (aC (aE (aE ?_))))))
 obtain ⟨i, hi⟩ := i
 obtain rfl : i = d.many := by have h1 : ¬ (i : Int) < (d.many : Int) := hc2; have h2 : i ≤ d.many := hi; omega
 have hP := d.qC hd d.many (Nat.le_refl _)
 have e3 := hP.taken
 refine gI (tg := 13) rfl (Cont.dM (l' := [Ty.int .i64 d.D, Ty.row dY 39 49 d.gM, Ty.row cy 41 175 d.fG, Ty.ex (.slice none 0 0)]) ⟨Ty.aF _, Ty.aF _, Ty.gF (by unfold Md.fG; rfl), Ty.aF _, trivial⟩) ?_
 refine gI (tg := 14) rfl (Cont.dM (l' := [Ty.row c7 3 40 d.first, Ty.row c7 3 180 d.cA]) ⟨Ty.aF _, Ty.gF (by unfold Md.cA; rfl), trivial⟩) ?_
 refine ig (tg := 175) [] [(13, Cont.cells 27 [Ty.int .i64 d.D, Ty.row dY 39 49 d.gM, Ty.sl cy d.fG, Ty.ex (.slice none 0 0)])] (by decide) rfl trivial ⟨eW rfl rfl ⟨bS rfl, bS rfl, oy, bS rfl, trivial⟩, trivial⟩ ?_
 refine ig (tg := 40) [] [(14, Cont.cells 30 [Ty.sl c7 d.first, Ty.row c7 3 180 d.cA])] (by decide) rfl trivial ⟨eW rfl rfl ⟨oy, bS rfl, trivial⟩, trivial⟩ ?_
 refine ig (tg := 180) [] [(14, Cont.cells 30 [Ty.sl c7 d.first, Ty.sl c7 d.cA])] (by decide) rfl trivial ⟨eW rfl rfl ⟨bS rfl, oy, trivial⟩, trivial⟩ ?_
 refine jB (c0 := 13) 1 rfl rfl ?_
 refine gI (tg := 13) rfl (Cont.dM (l' := [Ty.int .i64 d.D, Ty.vs 49 d.nb, Ty.sl cy d.fG, Ty.ex (.slice none 0 0)]) ⟨Ty.aF _, IS b2, Ty.aF _, Ty.aF _, trivial⟩) ?_
 refine dO (B := live [(0, Ty.ptr 1000 0), (4, Ty.int .i64 d.levels), (10, Ty.ptr 11 0), (11, Ty.ptr 12 0), (12, Ty.ptr 13 0), (13, Ty.ptr 14 0)] [(11, Cont.cells 27 [Ty.int .i64 0, Ty.ex (.slice none 0 0), Ty.ex (.slice none 0 0), Ty.ex (.slice none 0 0)]), (12, Cont.cells 30 [Ty.ex (.slice none 0 0), Ty.ex (.slice none 0 0)]), (13, Cont.cells 27 [Ty.int .i64 d.D, Ty.vs 49 d.nb, Ty.sl cy d.fG, Ty.ex (.slice none 0 0)]), (14, Cont.cells 30 [Ty.sl c7 d.first, Ty.sl c7 d.cA]), (49, Cont.vec dY 39 d.gM), (1000, Cont.cells 149 (dP (d.ms d.many).2))]) ?_ ?_
 ·(refine dG.mk' ?_ ?_ <;> (repeat' (first | exact aJ | exact aI | refine aB ?_ (Ty.aX _) | refine aB ?_ (Ty.aF _) | refine aG rfl (Cont.aF _) ?_)))
 refine aA ?_
 refine aO rfl rfl rfl rfl rfl (by decide) ?_
 refine aU rfl rfl (by decide) rfl rfl rfl ?_
 refine AL rfl rfl rfl (bR rfl (aD (aC (au ?_))))
 refine cZ (fun (k : {k : Nat // k ≤ d.nb}) => live [(0, Ty.ptr 1000 0), (4, Ty.int .i64 d.levels), (10, Ty.ptr 11 0), (11, Ty.ptr 12 0), (12, Ty.ptr 13 0), (13, Ty.ptr 14 0), (186, Ty.int .i64 (d.nb : Nat)), (187, Ty.int .i64 (k.1 : Nat))] [(11, Cont.cells 27 [Ty.int .i64 0, Ty.ex (.slice none 0 0), Ty.ex (.slice none 0 0), Ty.ex (.slice none 0 0)]), (12, Cont.cells 30 [Ty.ex (.slice none 0 0), Ty.ex (.slice none 0 0)]), (13, Cont.cells 27 [Ty.int .i64 d.D, Ty.vs 49 d.nb, Ty.sl cy d.fG, Ty.ex (.slice none 0 0)]), (14, Cont.cells 30 [Ty.sl c7 d.first, Ty.sl c7 d.cA]), (49, Cont.vec dY 39 (d.hs k.1).1), (1000, Cont.cells 149 (dP (d.hs k.1).2))]) (fun k => d.nb - k.1) (⟨0, by omega⟩) ?_ fun k => ?_
 ·(refine dG.mk' ?_ ?_ <;> (repeat' (first | exact aJ | exact aI | exact dQ | refine aB ?_ (Ty.aX _) | refine aB ?_ (Ty.aF _) | refine aG rfl (Cont.aF _) ?_ | refine aG rfl (Cont.dS ?_) ?_ | refine bh ?_ ?_ | refine aG rfl ?_ ?_)))
  all_goals first | exact Cont.eY (congrArg Prod.fst (I1 d)) | exact Ty.af (congrArg (fun p => p.2.mixed) (I1 d)) | exact Ty.af (congrArg (fun p => p.2.taken) (I1 d)) | exact Ty.iE (congrArg (fun p => p.2.grain) (I1 d))
 have hk := k.2
 have H := d.xq k.1 hk
 have g1 := H.len
 have g2 := H.taken
 have g3 := cX (d.hs k.1).2 30
 have g4 := (d.uR k.1 (d.D + 1).toNat)
 have g40 := g4.1
 refine aE (aA (bC rfl rfl rfl (aD (aC (aE ?_)))))
 refine av rfl (fun hc8 => ?_) (fun hc8 => ?_)
 ·
  refine ak (aC (aE (au (aE (aA (bR rfl (cE rfl (aD (aC ?_)))))))))
  refine aE (aA (cE rfl (aD (aC (aE (aE (aA ?_)))))))
  refine aO rfl rfl rfl rfl rfl (by decide) ?_
  refine aU rfl rfl (by decide) rfl rfl rfl ?_
  refine cD rfl rfl (by omega) (by omega) ?_
  refine bR rfl (aD (aC (au ?_)))
  refine cZ (fun (t : {t : Nat // t ≤ (d.D + 1).toNat}) => live [(0, Ty.ptr 1000 0), (4, Ty.int .i64 d.levels), (10, Ty.ptr 11 0), (11, Ty.ptr 12 0), (12, Ty.ptr 13 0), (13, Ty.ptr 14 0), (21, Ty.int .i64 (k.1 : Nat)), (22, Ty.int .i64 (d.most k.1 t.1)), (186, Ty.int .i64 (d.nb : Nat)), (187, Ty.int .i64 (k.1 : Nat)), (192, Ty.int .i64 (d.D + 1)), (193, Ty.int .i64 (t.1 : Nat))] [(11, Cont.cells 27 [Ty.int .i64 0, Ty.ex (.slice none 0 0), Ty.ex (.slice none 0 0), Ty.ex (.slice none 0 0)]), (12, Cont.cells 30 [Ty.ex (.slice none 0 0), Ty.ex (.slice none 0 0)]), (13, Cont.cells 27 [Ty.int .i64 d.D, Ty.vs 49 d.nb, Ty.sl cy d.fG, Ty.ex (.slice none 0 0)]), (14, Cont.cells 30 [Ty.sl c7 d.first, Ty.sl c7 d.cA]), (49, Cont.vec dY 39 (d.hs k.1).1), (1000, Cont.cells 149 (dP (d.hs k.1).2))]) (fun t => (d.D + 1).toNat - t.1) (⟨0, by omega⟩) ?_ fun t => ?_
  ·(refine dG.mk' ?_ ?_ <;> (repeat' (first | exact aJ | exact aI | refine aB ?_ (Ty.aX _) | refine aB ?_ (Ty.aF _) | refine aG rfl (Cont.aF _) ?_ | refine aB ?_ ?_)))
   all_goals exact Ty.af (Kc d _)
  have ht := t.2
  refine aE (aA (bC rfl rfl rfl (aD (aC (aE ?_)))))
  refine av rfl (fun hc9 => ?_) (fun hc9 => ?_)
  ·
   refine ak (aC (aE (au (aE (aA (bR rfl (cE rfl (aD (aC ?_)))))))))
   refine aA (bR rfl ?_)
   refine bL rfl rfl (by decide) rfl rfl (by exact Nat.le_of_ble_eq_true rfl) ?_
   refine bL rfl rfl (by decide) rfl rfl (by exact Nat.le_of_ble_eq_true rfl) ?_
   refine bR rfl (bR rfl ?_)
   refine dU [49] (gB ⟨d.D, (d.hs k.1).1, d.fG, []⟩ d.real (vf hd) ((k.1 : Nat) : Int) ((t.1 : Nat) : Int) (Int.natCast_nonneg _) (by show ((k.1 : Nat) : Int).toNat < d.first.length; omega)) rfl (aM (gQ (aM (aa (bG rfl rfl)) (aM (gO rfl g1 (by decide) rfl) (aM (aa (bG rfl rfl)) (aM (aa oD) bY))))) (aM (aa (bG rfl rfl)) (aM (aa (bG rfl rfl)) (aM (aa (bG rfl rfl)) bY)))) (by exact dH _ _) ?_
   refine rj rfl rfl (cE rfl (aD (bf (aC (aA ?_)))))
   refine cD rfl rfl (by omega) (by omega) ?_
   refine bR rfl (aD ?_)
   refine bp (⟨t.1 + 1, by omega⟩) ?_ (by show (d.D + 1).toNat - (t.1 + 1) < (d.D + 1).toNat - t.1; omega)
   (refine dG.mk' ?_ ?_ <;> (repeat' (first | exact aJ | exact aI | refine aB ?_ (Ty.aX _) | refine aB ?_ (Ty.aF _) | refine aG rfl (Cont.aF _) ?_ | refine aB ?_ ?_)))
   all_goals skip
   all_goals exact Ty.af (Ka d _ _)
  refine cg (aT (aT (bA rfl (aC ?_))))
  obtain ⟨t, ht⟩ := t
  obtain rfl : t = (d.D + 1).toNat := by have h1 : ¬ (t : Int) < d.D + 1 := hc9; have h2 : t ≤ (d.D + 1).toNat := ht; omega
  refine fq (s := 22) rfl (Ty.af (show d.most k.1 (d.D + 1).toNat = d.most k.1 (d.D + 1).toNat from rfl)) ?_
  have g5 := g4.2.2 fun t => (d.o8 hd k.1 t (by omega)).2
  refine cQ mixed rfl ?_
  refine aO rfl rfl rfl rfl rfl (by decide) ?_
  refine aU rfl rfl (by decide) rfl rfl rfl ?_
  refine bR rfl (bR rfl (qP rfl ?_))
  refine b9 [(1000, 1000)] [] [(1000, Cont.cells 149 (dP (aY (d.hs k.1).2)))] (jU (d.hs k.1).2 ⟨by omega, by omega⟩ 30) rfl rfl (by repeat (first | exact bH | refine aH ?_ ?_ | exact dx List.mem_cons_self | exact aR rfl rfl)) (cC (a := 1000) (b := 1000) (by exact List.mem_cons_self) rfl (bM (by exact List.mem_cons_self) rfl rfl rfl) pre_nil) (bI (a := 1000) (b := 1000) (by exact List.mem_cons_self) rfl (bM (by exact List.mem_cons_self) rfl rfl rfl) post_nil) (aR rfl rfl) ?_
  refine cD rfl rfl (by omega) (by omega) ?_
  refine rR rfl rfl ?_
  refine eP rfl rfl rfl rfl rfl (by omega) ?_
  refine aO rfl rfl rfl rfl rfl (by decide) ?_
  refine y8 (E := dY) (z := ⟨min 300 (d.most k.1 (d.D + 1).toNat + bg (d.hs k.1).2 30), (nth (d.hs k.1).1 k.1).first⟩) rfl rfl rfl (by decide) rfl rfl (by exact (rfl : _ = Ty.int _ _)) rfl (by omega) (by decide) rfl rfl ?_
  refine aD ?_
  refine ⟨by kernel_rfl, ?_⟩
  refine bf (aC (aA ?_))
  refine cD rfl rfl (by omega) (by omega) ?_
  refine bR rfl (aD ?_)
  refine bp (⟨k.1 + 1, by omega⟩) ?_ (by show d.nb - (k.1 + 1) < d.nb - k.1; omega)
  (refine dG.mk' ?_ ?_ <;> (repeat' (first | exact aJ | exact aI | exact dQ | refine aB ?_ (Ty.aX _) | refine aB ?_ (Ty.aF _) | refine aG rfl (Cont.aF _) ?_ | refine aG rfl (Cont.dS ?_) ?_ | refine bh ?_ ?_ | refine aG rfl ?_ ?_)))
  all_goals skip
  all_goals first | exact Cont.eY (congrArg Prod.fst (Il d _)) | exact Ty.af (congrArg (fun p => p.2.mixed) (Il d _)) | exact Ty.af (congrArg (fun p => p.2.taken) (Il d _)) | exact Ty.iE (congrArg (fun p => p.2.grain) (Il d _))
 refine cg (aT (aT (bA rfl (aC (aE (aE ?_))))))
 obtain ⟨k, hk⟩ := k
 obtain rfl : k = d.nb := by have h1 : ¬ (k : Int) < (d.nb : Int) := hc8; have h2 : k ≤ d.nb := hk; omega
 have H := d.xq d.nb (Nat.le_refl _)
 have g1 := H.len
 have g2 := H.taken
 have b5 : d.jh.length = d.nb := by unfold Md.jh; exact g1
 have g6 := cY (d.hs d.nb).2
 refine gI (tg := 49) rfl (Cont.eY (show (d.hs d.nb).1 = d.jh by unfold Md.jh; rfl)) ?_
 refine ig (tg := 49) [] [(13, Cont.cells 27 [Ty.int .i64 d.D, Ty.sl dY d.jh, Ty.sl cy d.fG, Ty.ex (.slice none 0 0)])] (by decide) rfl trivial ⟨eW rfl rfl ⟨bS rfl, gk rfl b5 (by decide), bS rfl, bS rfl, trivial⟩, trivial⟩ ?_
 refine dO (B := live [(0, Ty.ptr 1000 0), (4, Ty.int .i64 d.levels), (10, Ty.ptr 11 0), (11, Ty.ptr 12 0), (12, Ty.ptr 13 0), (13, Ty.ptr 14 0)] [(11, Cont.cells 27 [Ty.int .i64 0, Ty.ex (.slice none 0 0), Ty.ex (.slice none 0 0), Ty.ex (.slice none 0 0)]), (12, Cont.cells 30 [Ty.ex (.slice none 0 0), Ty.ex (.slice none 0 0)]), (13, Cont.cells 27 [Ty.int .i64 d.D, Ty.sl dY d.jh, Ty.sl cy d.fG, Ty.ex (.slice none 0 0)]), (14, Cont.cells 30 [Ty.sl c7 d.first, Ty.sl c7 d.cA]), (1000, Cont.cells 149 (dP (d.hs d.nb).2))]) ?_ ?_
 ·(refine dG.mk' ?_ ?_ <;> (repeat' (first | exact aJ | exact aI | refine aB ?_ (Ty.aX _) | refine aB ?_ (Ty.aF _) | refine aG rfl (Cont.aF _) ?_)))
 refine aA (qP rfl (bR rfl ?_))
 refine cD rfl rfl (by omega) (by omega) ?_
 refine b9 [(1000, 1000)] [] [(1000, Cont.cells 149 (dP (aY (d.hs d.nb).2)))] (jU (d.hs d.nb).2 ⟨by omega, by omega⟩ _) rfl rfl (by repeat (first | exact bH | refine aH ?_ ?_ | exact dx List.mem_cons_self | exact aR rfl rfl)) (cC (a := 1000) (b := 1000) (by exact List.mem_cons_self) rfl (bM (by exact List.mem_cons_self) rfl rfl rfl) pre_nil) (bI (a := 1000) (b := 1000) (by exact List.mem_cons_self) rfl (bM (by exact List.mem_cons_self) rfl rfl rfl) post_nil) (aR rfl rfl) ?_
 refine bR rfl (aD (aC ?_))
 refine fq (s := 218) rfl (Ty.af (show bg (d.hs d.nb).2 (d.levels + 1) = ((d.nl : Nat) : Int) from hnl.2 ▸ (by unfold Md.LA; rfl))) ?_
 refine au ?_
 refine cZ (fun (k : {k : Nat // k ≤ d.nl}) => live [(0, Ty.ptr 1000 0), (10, Ty.ptr 11 0), (11, Ty.ptr 12 0), (12, Ty.ptr 13 0), (13, Ty.ptr 14 0), (218, Ty.int .i64 (d.nl : Nat)), (219, Ty.int .i64 (k.1 : Nat))] [(11, Cont.cells 27 [Ty.int .i64 0, Ty.ex (.slice none 0 0), Ty.ex (.slice none 0 0), Ty.ex (.slice none 0 0)]), (12, Cont.cells 30 [Ty.ex (.slice none 0 0), Ty.ex (.slice none 0 0)]), (13, Cont.cells 27 [Ty.int .i64 d.D, Ty.sl dY d.jh, Ty.sl cy d.fG, Ty.row dF 102 246 (d.ls k.1).1]), (14, Cont.cells 30 [Ty.sl c7 d.first, Ty.sl c7 d.cA]), (1000, Cont.cells 149 (dP (d.ls k.1).2))]) (fun k => d.nl - k.1) (⟨0, by omega⟩) ?_ fun k => ?_
 ·(refine dG.mk' ?_ ?_ <;> (repeat' (first | exact aJ | exact aI | exact dQ | refine aB ?_ (Ty.aX _) | refine aB ?_ (Ty.aF _) | refine aG rfl (Cont.aF _) ?_ | refine aG rfl (Cont.dS ?_) ?_ | refine bh ?_ (Ty.aF _) | refine bh ?_ ?_)))
  all_goals first | exact Ty.af (congrArg (fun p => p.2.mixed) (Ib d)) | exact Ty.af (congrArg (fun p => p.2.taken) (Ib d)) | exact Ty.iE (congrArg (fun p => p.2.grain) (Ib d)) | exact k9 (congrArg Prod.fst (Ib d)).symm
 have hk := k.2
 have L := d.BH hd k.1
 have f1 := L.len
 have f2 := L.taken
 have f3 := cY (d.ls k.1).2
 have f4 := cY (aY (d.ls k.1).2)
 have f5 := cX (d.ls k.1).2 (d.D + 1)
 have f6 := cX (aY (d.ls k.1).2) d.nb
 refine aE (aA (bC rfl rfl rfl (aD (aC (aE ?_)))))
 refine av rfl (fun hc10 => ?_) (fun hc10 => ?_)
 ·
  refine ak (aC (aE (au (aE (cQ mixed rfl (qP rfl ?_))))))
  refine aO rfl rfl rfl rfl rfl (by decide) ?_
  refine aU rfl rfl (by decide) rfl rfl rfl ?_
  refine cD rfl rfl (by omega) (by omega) ?_
  refine b9 [(1000, 1000)] [] [(1000, Cont.cells 149 (dP (aY (d.ls k.1).2)))] (jU (d.ls k.1).2 ⟨by omega, by omega⟩ _) rfl rfl (by repeat (first | exact bH | refine aH ?_ ?_ | exact dx List.mem_cons_self | exact aR rfl rfl)) (cC (a := 1000) (b := 1000) (by exact List.mem_cons_self) rfl (bM (by exact List.mem_cons_self) rfl rfl rfl) pre_nil) (bI (a := 1000) (b := 1000) (by exact List.mem_cons_self) rfl (bM (by exact List.mem_cons_self) rfl rfl rfl) post_nil) (aR rfl rfl) ?_
  refine qP rfl ?_
  refine aO rfl rfl rfl rfl rfl (by decide) ?_
  refine aU rfl rfl (by decide) rfl rfl rfl ?_
  refine ct rfl rfl rfl ?_
  refine b9 [(1000, 1000)] [] [(1000, Cont.cells 149 (dP (aY (aY (d.ls k.1).2))))] (jU (aY (d.ls k.1).2) ⟨by omega, by omega⟩ _) rfl rfl (by repeat (first | exact bH | refine aH ?_ ?_ | exact dx List.mem_cons_self | exact aR rfl rfl)) (cC (a := 1000) (b := 1000) (by exact List.mem_cons_self) rfl (bM (by exact List.mem_cons_self) rfl rfl rfl) pre_nil) (bI (a := 1000) (b := 1000) (by exact List.mem_cons_self) rfl (bM (by exact List.mem_cons_self) rfl rfl rfl) post_nil) (aR rfl rfl) ?_
  refine c6 rfl rfl (by exact List.cons_ne_nil _ _) rfl (by repeat (first | exact (aW.nil : aW _ _ [] _) | (show aW _ _ ((_, _) :: _) _; apply aW.one; (· exact (rfl : _ = Ty.int _ _)); (· exact rfl)))) (by exact (rfl : _ = some [_, _, _, _])) ?_
  refine bw rfl (by exact List.cons_ne_nil _ _) rfl ?_
  refine bk rfl rfl (by decide) rfl rfl rfl rfl rfl rfl ?_
  refine aD ?_
  refine ⟨by kernel_rfl, ?_⟩
  refine aC (aE ?_)
  have hcl : 0 ≤ cB d.y0 d.real (bg (aY (d.ls k.1).2) d.nb) (bg (d.ls k.1).2 (d.D + 1)) ∧ cB d.y0 d.real (bg (aY (d.ls k.1).2) d.nb) (bg (d.ls k.1).2 (d.D + 1)) ≤ 300 := by
   have := d.o8 hd (bg (aY (d.ls k.1).2) d.nb).toNat (bg (d.ls k.1).2 (d.D + 1)) (by omega)
   rwa [Int.toNat_of_nonneg f6.1] at this
  have hce : ∀ b t, cB ⟨d.D, d.jh, d.fG, (d.ls k.1).1⟩ d.real b t = cB d.y0 d.real b t := fun b t => sY (y := d.y0)
  have hcb : -1000000 ≤ cB ⟨d.D, d.jh, d.fG, (d.ls k.1).1⟩ d.real (bg (aY (d.ls k.1).2) d.nb) (bg (d.ls k.1).2 (d.D + 1)) ∧ cB ⟨d.D, d.jh, d.fG, (d.ls k.1).1⟩ d.real (bg (aY (d.ls k.1).2) d.nb) (bg (d.ls k.1).2 (d.D + 1)) ≤ 1000000 := by rw [hce]; omega
  refine gI (tg := 25) rfl (Cont.dM (l' := [Ty.int .i64 (bg (d.ls k.1).2 (d.D + 1)), Ty.int .i64 (bg (aY (d.ls k.1).2) d.nb), Ty.int .i64 0, Ty.int .i64 0]) ⟨Ty.aF _, Ty.af (by rw [b5]), Ty.aF _, Ty.aF _, trivial⟩) ?_
  refine dO (B := live [(0, Ty.ptr 1000 0), (10, Ty.ptr 11 0), (11, Ty.ptr 12 0), (12, Ty.ptr 13 0), (13, Ty.ptr 14 0), (24, Ty.ptr 25 0), (218, Ty.int .i64 (d.nl : Nat)), (219, Ty.int .i64 (k.1 : Nat))] [(11, Cont.cells 27 [Ty.int .i64 0, Ty.ex (.slice none 0 0), Ty.ex (.slice none 0 0), Ty.ex (.slice none 0 0)]), (12, Cont.cells 30 [Ty.ex (.slice none 0 0), Ty.ex (.slice none 0 0)]), (13, Cont.cells 27 [Ty.int .i64 d.D, Ty.sl dY d.jh, Ty.sl cy d.fG, Ty.row dF 102 246 (d.ls k.1).1]), (14, Cont.cells 30 [Ty.sl c7 d.first, Ty.sl c7 d.cA]), (25, Cont.cells 102 [Ty.int .i64 (bg (d.ls k.1).2 (d.D + 1)), Ty.int .i64 (bg (aY (d.ls k.1).2) d.nb), Ty.int .i64 0, Ty.int .i64 0]), (1000, Cont.cells 149 (dP (aY (aY (d.ls k.1).2))))]) ?_ ?_
  ·refine dG.mk' ?_ ?_
   ·(repeat (first | refine aB ?_ (Ty.aX _) | refine aB ?_ (Ty.aF _))); exact aJ
   refine aG rfl (Cont.aF _) ?_; refine aG rfl (Cont.aF _) ?_; refine aG rfl (Cont.aF _) ?_; refine aG rfl (Cont.aF _) ?_; refine aG rfl (Cont.aF _) ?_; refine aG rfl (Cont.aF _) ?_; exact aI
  refine aA (qP rfl ?_)
  refine bL rfl rfl (by decide) rfl rfl (by exact Nat.le_of_ble_eq_true rfl) ?_
  refine bL rfl rfl (by decide) rfl rfl (by exact Nat.le_of_ble_eq_true rfl) ?_
  refine aO rfl rfl rfl rfl rfl (by decide) ?_
  refine aU rfl rfl (by decide) rfl rfl rfl ?_
  refine aO rfl rfl rfl rfl rfl (by decide) ?_
  refine aU rfl rfl (by decide) rfl rfl rfl ?_
  refine dU [246] (gB ⟨d.D, d.jh, d.fG, (d.ls k.1).1⟩ d.real (vf hd) (bg (aY (d.ls k.1).2) d.nb) (bg (d.ls k.1).2 (d.D + 1)) f6.1 (by show _ < d.first.length; omega)) rfl (aM (gQ (aM (aa (bG rfl rfl)) (aM (aa (bG rfl rfl)) (aM (aa (bG rfl rfl)) (aM (aa (fF rfl)) bY))))) (aM (aa (bG rfl rfl)) (aM (aa (bG rfl rfl)) (aM (aa (bG rfl rfl)) bY)))) (by exact dH _ _) ?_
  refine b9 [(1000, 1000)] [] [(1000, Cont.cells 149 (dP (aY (aY (aY (aY (d.ls k.1).2))))))] (CA (aY (aY (d.ls k.1).2)) ⟨by omega, by omega⟩ (cB ⟨d.D, d.jh, d.fG, (d.ls k.1).1⟩ d.real (bg (aY (d.ls k.1).2) d.nb) (bg (d.ls k.1).2 (d.D + 1))) 8 hcb (by omega)) rfl rfl (by repeat (first | exact bH | refine aH ?_ ?_ | exact dx List.mem_cons_self | exact aR rfl rfl)) (cC (a := 1000) (b := 1000) (by exact List.mem_cons_self) rfl (bM (by exact List.mem_cons_self) rfl rfl rfl) pre_nil) (bI (a := 1000) (b := 1000) (by exact List.mem_cons_self) rfl (bM (by exact List.mem_cons_self) rfl rfl rfl) post_nil) (aR rfl rfl) ?_
  refine aO rfl rfl rfl rfl rfl (by decide) ?_
  refine xk (lr := [Ty.int .i64 (bg (d.ls k.1).2 (d.D + 1)), Ty.int .i64 (bg (aY (d.ls k.1).2) d.nb), Ty.int .i64 (gw (aY (aY (d.ls k.1).2)) (cB ⟨d.D, d.jh, d.fG, (d.ls k.1).1⟩ d.real (bg (aY (d.ls k.1).2) d.nb) (bg (d.ls k.1).2 (d.D + 1))) 8).lo, Ty.int .i64 (gw (aY (aY (d.ls k.1).2)) (cB ⟨d.D, d.jh, d.fG, (d.ls k.1).1⟩ d.real (bg (aY (d.ls k.1).2) d.nb) (bg (d.ls k.1).2 (d.D + 1))) 8).hi]) rfl rfl (by decide) rfl rfl rfl (by exact Nat.le_of_ble_eq_true rfl) rfl rfl rfl ?_
  refine aD (aC ?_)
  refine gI (tg := 25) rfl (Cont.dM (l' := dF.tys (d.LD (d.ls k.1).2)) ⟨Ty.aF _, Ty.aF _, Ty.af (by rw [hce]; rfl), Ty.af (by rw [hce]; rfl), trivial⟩) ?_
  refine dO (B := live [(0, Ty.ptr 1000 0), (10, Ty.ptr 11 0), (11, Ty.ptr 12 0), (12, Ty.ptr 13 0), (13, Ty.ptr 14 0), (24, Ty.ptr 25 0), (218, Ty.int .i64 (d.nl : Nat)), (219, Ty.int .i64 (k.1 : Nat))] [(11, Cont.cells 27 [Ty.int .i64 0, Ty.ex (.slice none 0 0), Ty.ex (.slice none 0 0), Ty.ex (.slice none 0 0)]), (12, Cont.cells 30 [Ty.ex (.slice none 0 0), Ty.ex (.slice none 0 0)]), (13, Cont.cells 27 [Ty.int .i64 d.D, Ty.sl dY d.jh, Ty.sl cy d.fG, Ty.row dF 102 246 (d.ls k.1).1]), (14, Cont.cells 30 [Ty.sl c7 d.first, Ty.sl c7 d.cA]), (25, Cont.cells 102 (dF.tys (d.LD (d.ls k.1).2))), (1000, Cont.cells 149 (dP (aY (aY (aY (aY (d.ls k.1).2))))))]) ?_ ?_
  ·refine dG.mk' ?_ ?_
   ·(repeat (first | refine aB ?_ (Ty.aX _) | refine aB ?_ (Ty.aF _))); exact aJ
   refine aG rfl (Cont.aF _) ?_; refine aG rfl (Cont.aF _) ?_; refine aG rfl (Cont.aF _) ?_; refine aG rfl (Cont.aF _) ?_; refine aG rfl (Cont.aF _) ?_; refine aG rfl (Cont.aF _) ?_; exact aI
  refine aA ?_
  refine aO rfl rfl rfl rfl rfl (by decide) ?_
  refine aU rfl rfl (by decide) rfl rfl rfl ?_
  refine bL rfl rfl (by decide) rfl rfl (by exact Nat.le_of_ble_eq_true rfl) ?_
  refine bt (E := dF) (xs := [d.LD (d.ls k.1).2]) rfl rfl rfl rfl rfl (by decide) (by decide) (by repeat (first | exact (aW.nil : aW _ _ [] _) | (show aW _ _ ((_, _) :: _) _; apply aW.agg; (· exact (rfl : _ = Ty.agg _))))) (by exact rfl) rfl ?_
  refine fJ rfl rfl (by decide) rfl rfl rfl rfl rfl rfl (by decide) (by (simp <;> omega)) (by (simp <;> omega)) ?_
  refine aO rfl rfl rfl rfl rfl (by decide) ?_
  refine cq rfl rfl (by decide) rfl rfl (by exact (rfl : _ = Ty.row _ _ _ _)) rfl (by exact Nat.le_of_ble_eq_true rfl) rfl rfl (by exact rfl) ?_
  refine aD (bf (aC (aA ?_)))
  refine cD rfl rfl (by omega) (by omega) ?_
  refine bR rfl (aD ?_)
  refine bp (⟨k.1 + 1, by omega⟩) ?_ (by show d.nl - (k.1 + 1) < d.nl - k.1; omega)
  (refine dG.mk' ?_ ?_ <;> (repeat' (first | exact aJ | exact aI | exact dQ | refine aB ?_ (Ty.aX _) | refine aB ?_ (Ty.aF _) | refine aG rfl (Cont.aF _) ?_ | refine aG rfl (Cont.dS ?_) ?_ | refine bh ?_ (Ty.aF _) | refine bh ?_ ?_)))
  all_goals skip
  all_goals first | exact Ty.af (congrArg (fun p => p.2.mixed) (I6 d _)) | exact Ty.af (congrArg (fun p => p.2.taken) (I6 d _)) | exact Ty.iE (congrArg (fun p => p.2.grain) (I6 d _)) | exact Ty.gF (congrArg Prod.fst (I6 d _))
 refine cg (aT (aT (bA rfl (aC (aE ?_)))))
 obtain ⟨k, hk⟩ := k
 obtain rfl : k = d.nl := by have h1 : ¬ (k : Int) < (d.nl : Int) := hc10; have h2 : k ≤ d.nl := hk; omega
 refine ig (tg := 246) [] [(13, Cont.cells 27 (bO d.cJ))] (by decide) rfl trivial ⟨eW rfl rfl ⟨bS rfl, bS rfl, bS rfl, zU (show (d.ls d.nl).1 = d.uc by unfold Md.uc; rfl), trivial⟩, trivial⟩ ?_
 refine cQ mixed rfl ?_
 refine bL rfl rfl (by decide) rfl rfl (by exact Nat.le_of_ble_eq_true rfl) ?_
 refine bL rfl rfl (by decide) rfl rfl (by exact Nat.le_of_ble_eq_true rfl) ?_
 refine bk rfl rfl (by decide) rfl rfl rfl rfl rfl rfl ?_
 refine bk rfl rfl (by decide) rfl rfl rfl rfl rfl rfl ?_
 refine aD ?_
 refine ⟨by kernel_rfl, ?_⟩
 refine aC (az ?_)
 refine K7 [1000] rfl rfl rfl rfl rfl (by decide) rfl rfl rfl rfl rfl (by decide) rfl rfl rfl (by decide) (by repeat (first | exact dn | refine cw rfl (bM (by decide) rfl rfl rfl) ?_)) ?_ ?_
 all_goals exact eM (aR rfl rfl)
 all_goals trace_state
end Go.Proofs.YtelbollidfdcjaaGreat
namespace Go.Proofs.YtelbollidfdcjaaGreat
open Go Go.T
set_option maxHeartbeats 8000000
structure MA (a : eV) : Prop where
  nx : a.cA.length ≤ 1000
  first : ∀ x ∈ a.first, -1000 ≤ x ∧ x ≤ 1000
  cA : ∀ x ∈ a.cA, -1000 ≤ x ∧ x ≤ 1000
open Classical in
noncomputable def nZ (y : aq) (a : eV) : Bool := decide (eR y (fun _ => true) a)
section
variable {y : aq} {a : eV} {b t k : Nat}
open Classical in
theorem sE (h : eR y (fun _ => true) a) : nZ y a = true := by unfold nZ; exact decide_eq_true h
open Classical in
theorem lG (h : ¬ eR y (fun _ => true) a) : nZ y a = false := by unfold nZ; exact decide_eq_false h
theorem uY {n : Int} {s : Span} (h : (!nP n s) = false) : s.lo ≤ n ∧ n ≤ s.hi := by
 unfold nP at h; simpa using h
theorem zF {n : Int} {s : Span} (h : (!nP n s) = true) : ¬ (s.lo ≤ n ∧ n ≤ s.hi) := by
 unfold nP at h; simp at h; omega
theorem Lx (h : (!decide ((a.first.length : Int) = y.bins.length) || !decide ((a.cA.length : Int) = y.moves.length)) = true) : false = nZ y a := by
 refine (lG fun hf => ?_).symm
 have h1 := hf.lens.first
 have h2 := hf.lens.cA
 rw [decide_eq_true (by omega), decide_eq_true (by omega)] at h; cases h
theorem Gz (h : (!decide ((a.first.length : Int) = y.bins.length) || !decide ((a.cA.length : Int) = y.moves.length)) = false) : y4 y a := by
 rw [Bool.or_eq_false_iff, Bool.not_eq_false', Bool.not_eq_false', decide_eq_true_eq, decide_eq_true_eq] at h
 exact ⟨by omega, by omega⟩
theorem LV (hb : b < y.bins.length) (h : (!nP (nth a.first b) (nth y.bins b).first) = true) : false = nZ y a :=
 (lG fun hf => zF h (hf.first b hb)).symm
theorem Ll (hb : b < y.bins.length) (ht : t ≤ y.D) (h : (!nP (cB y a (b : Nat) (t : Nat)) ⟨0, (nth y.bins b).holds⟩) = true) : false = nZ y a :=
 (lG fun hf => zF h (by rw [kF]; exact hf.cont b t hb ht)).symm
theorem Ln (hk : k < y.moves.length) (h : (!nP (nth a.cA k) (nth y.moves k).sacks) = true) : false = nZ y a :=
 (lG fun hf => zF h (hf.cA k hk)).symm
theorem Lm (hr : y.cx) (hl : y4 y a) (h1 : ∀ b, b < y.bins.length → ((nth y.bins b).first.lo ≤ nth a.first b ∧ nth a.first b ≤ (nth y.bins b).first.hi) ∧ ∀ t : Nat, t ≤ y.D → 0 ≤ cB y a (b : Nat) (t : Nat) ∧ cB y a (b : Nat) (t : Nat) ≤ (nth y.bins b).holds)
    (h2 : ∀ k, k < y.moves.length → (nth y.moves k).sacks.lo ≤ nth a.cA k ∧ nth a.cA k ≤ (nth y.moves k).sacks.hi) : (!(y.levels.any fun l => !nP (cB y a l.bin l.day) l.sacks)) = nZ y a := by
  have key : ∀ i, i < y.levels.length → cB y a (nth y.levels i).bin (nth y.levels i).day = dK y a (nth y.levels i).bin.toNat (nth y.levels i).day.toNat := fun i hi => by
    obtain ⟨g1, g2, _⟩ := hr.level _ (dA hi)
    rw [← kF, Int.toNat_of_nonneg g1.1, Int.toNat_of_nonneg g2.1]
  cases e : y.levels.any fun l => !nP (cB y a l.bin l.day) l.sacks with
  | true =>
    refine (lG fun hf => ?_).symm
    obtain ⟨l, hl', h⟩ := List.any_eq_true.1 e
    obtain ⟨i, hi, rfl⟩ := ru hl'
    exact zF h (by rw [key i hi]; exact hf.level i hi rfl)
  | false =>
    refine (sE ⟨hl, fun b hb => (h1 b hb).1, fun b t hb ht => by rw [← kF]; exact (h1 b hb).2 t ht, h2, fun i hi _ => ?_⟩).symm
    rw [List.any_eq_false] at e
    rw [← key i hi]
    exact uY (by rw [← Bool.not_eq_true]; exact e _ (dA hi))
end
attribute [local irreducible] cB nP nZ
attribute [local irreducible] iP fT nJ qo jJ jK jE jM jG qi jI qn eG gx qg gm qj nth fM dm aj dz bodyPost Exit.then Exit.inBlock Code.wp Code.wpIn qm jL ql qd jH eJ cV cm bodyPostM eN
set_option maxRecDepth 100000 in
theorem Iz (y : aq) (a : eV) (ha : IY y a) (l : Level) (h0 : 0 ≤ l.bin) (h1 : l.bin.toNat < a.first.length) : dz Tryz.prog 85 [Ty.agg (dF.tys l), Ty.pp (bO y), Ty.pp (eK a)] (Ty.bool (!nP (cB y a l.bin l.day) l.sacks)) := by
 refine bB Tryz.func85 rfl (by decide) Tryz.ntmps85 (by exact Nat.le_of_ble_eq_true rfl) fun w0 M0 => ?_
 refine aE (aA (bN rfl (dr rfl (aD (aC (aE (cQ mixed rfl ?_)))))))
 refine aZ rfl rfl rfl (by exact Nat.le_of_ble_eq_true rfl) ?_
 refine aZ rfl rfl rfl (by exact Nat.le_of_ble_eq_true rfl) ?_
 refine aQ rfl rfl rfl rfl rfl (by decide) ?_
 refine aN rfl rfl rfl rfl ?_
 refine aQ rfl rfl rfl rfl rfl (by decide) ?_
 refine aN rfl rfl rfl rfl (ah (gB y a ha l.bin l.day h0 h1) rfl rfl rfl rfl rfl ?_)
 refine aQ rfl rfl rfl rfl rfl (by decide) ?_
 refine aZ rfl rfl rfl (by exact Nat.le_of_ble_eq_true rfl) ?_
 refine ah (mM _ _) rfl rfl rfl rfl rfl (dh rfl (dr rfl (aD ?_)))
 refine ⟨by kernel_rfl, ?_⟩
 refine aC (az (bq rfl rfl ?_))
 all_goals exact cP rfl rfl
set_option maxRecDepth 100000 in
theorem E9 (y : aq) (a : eV) (hr : y.cx) (hb : MA a) : dz Tryz.prog 20 [fE y, p8 a] (Ty.bool (nZ y a)) := by
 refine bB Tryz.func20 rfl (by decide) Tryz.ntmps20 (by exact Nat.le_of_ble_eq_true rfl) fun w0 M0 => ?_
 have hs1 := hr.bins
 have hs2 := hr.moves
 have hs3 := hr.days
 have hs4 := hr.levels
 have hD := D_eq hr
 have hfew := hb.nx
 refine aE (aA (bN rfl (bN rfl (dr rfl (aD (aC (aE (aE (aA ?_)))))))))
 refine aQ rfl rfl rfl rfl rfl (by decide) ?_
 refine aN rfl rfl rfl rfl (ct rfl rfl rfl ?_)
 refine aQ rfl rfl rfl rfl rfl (by decide) ?_
 refine aN rfl rfl rfl rfl (ct rfl rfl rfl (bC rfl rfl rfl (fu rfl ?_)))
 apply aL (s := 17) rfl rfl rfl
 ·intro hg; apply aP; (refine aQ rfl rfl rfl rfl rfl (by decide) ?_); refine aD ?_; exact rfl
 ·exact rfl
 ·exact rfl
 apply aL (s := 17) rfl rfl rfl
 ·intro hg; apply aK (s := 18) rfl (by (rw [hg]; rfl)); apply aP; (refine aN rfl rfl rfl rfl ?_); refine aD ?_; exact rfl
 ·exact rfl
 ·exact rfl
 apply aL (s := 17) rfl rfl rfl
 ·intro hg; apply aK (s := 19) rfl (by (rw [hg]; rfl)); apply aP; (refine ct rfl rfl rfl ?_); refine aD ?_; exact rfl
 ·exact rfl
 ·exact rfl
 apply aL (s := 17) rfl rfl rfl
 ·intro hg; apply aP; (refine aQ rfl rfl rfl rfl rfl (by decide) ?_); refine aD ?_; exact rfl
 ·exact rfl
 ·exact rfl
 apply aL (s := 17) rfl rfl rfl
 ·intro hg; apply aK (s := 21) rfl (by (rw [hg]; rfl)); apply aP; (refine aN rfl rfl rfl rfl ?_); refine aD ?_; exact rfl
 ·exact rfl
 ·exact rfl
 apply aL (s := 17) rfl rfl rfl
 ·intro hg; apply aK (s := 22) rfl (by (rw [hg]; rfl)); apply aP; (refine ct rfl rfl rfl ?_); refine aD ?_; exact rfl
 ·exact rfl
 ·exact rfl
 apply aL (s := 17) rfl rfl rfl
 ·intro hg; apply aK (s := 20) rfl (by (rw [hg]; rfl)); apply aK (s := 23) rfl (by (rw [hg]; rfl)); apply aP; (refine bC rfl rfl rfl ?_); refine aD ?_; exact rfl
 ·exact rfl
 ·exact rfl
 refine iQ rfl rfl (aD (aC ?_))
 refine cr rfl (fun hc1 => ?_) (fun hc1 => ?_)
 ·
  refine aE (aA (dr rfl (aD (aC (az (aV (bq rfl rfl ?_)))))))
  all_goals skip
  exact bE rfl rfl (congrArg Ty.bool (Lx hc1))
 refine ak (aC (aE (aE ?_)))
 have hl := Gz hc1
 have hl1 := hl.first
 have hl2 := hl.cA
 have ha : IY y a := ⟨by omega, hb.nx, hb.first, hb.cA⟩
 refine aA ?_
 refine aQ rfl rfl rfl rfl rfl (by decide) ?_
 refine aN rfl rfl rfl rfl (ct rfl rfl rfl (bR rfl (aD (aC (au ?_)))))
 refine cZ (fun (k : {k : Nat // k ≤ y.bins.length ∧ ∀ b, b < k → ((nth y.bins b).first.lo ≤ nth a.first b ∧ nth a.first b ≤ (nth y.bins b).first.hi) ∧ ∀ t : Nat, t ≤ y.D → 0 ≤ cB y a (b : Nat) (t : Nat) ∧ cB y a (b : Nat) (t : Nat) ≤ (nth y.bins b).holds}) => live [(2, Ty.pp (bO y)), (3, Ty.pp (eK a)), (27, Ty.sl dY y.bins), (28, Ty.int .i64 y.bins.length), (29, Ty.int .i64 (k.1 : Nat))] []) (fun k => y.bins.length - k.1) (⟨0, Nat.zero_le _, fun b h => absurd h (Nat.not_lt_zero b)⟩) ?_ fun k => ?_
 ·(refine dG.mk' ?_ ?_ <;> (repeat' (first | exact aJ | exact aI | refine aB ?_ (Ty.aX _) | refine aB ?_ (Ty.aF _))))
 have hk := k.2.1
 refine aE (aA (bC rfl rfl rfl (aD (aC (aE ?_)))))
 refine av rfl (fun hc2 => ?_) (fun hc2 => ?_)
 ·
  refine ak (aC (aE (au (aE (aA (bR rfl ?_))))))
  refine bK rfl rfl rfl rfl rfl rfl (by omega) ?_
  refine aZ rfl rfl rfl (by exact Nat.le_of_ble_eq_true rfl) ?_
  refine bw rfl (by exact List.cons_ne_nil _ _) rfl ?_
  refine cE rfl ?_
  refine bk rfl rfl (by decide) rfl rfl rfl rfl rfl rfl ?_
  refine aD (aC (aE (aE (cQ mixed rfl ?_))))
  refine aQ rfl rfl rfl rfl rfl (by decide) ?_
  refine aN rfl rfl rfl rfl (bR rfl ?_)
  refine bK rfl rfl rfl rfl rfl rfl (by omega) ?_
  refine aN rfl rfl rfl rfl ?_
  refine aO rfl rfl rfl rfl rfl (by decide) ?_
  refine bL rfl rfl (by decide) rfl rfl (by exact Nat.le_of_ble_eq_true rfl) ?_
  refine ah (mM _ _) rfl rfl rfl rfl rfl (dh rfl (aD ?_))
  refine ⟨by kernel_rfl, ?_⟩
  refine aC ?_
  refine cr rfl (fun hc3 => ?_) (fun hc3 => ?_)
  ·
   refine aE (aA (dr rfl (aD (aC (az (aV (bJ (aV (aV ?_)))))))))
   refine bJ (aV (bq rfl rfl ?_))
   all_goals skip
   exact bE rfl rfl (congrArg Ty.bool (LV (b := k.1) (by omega) hc3))
  refine ak (aC (aE (aA ?_)))
  refine aQ rfl rfl rfl rfl rfl (by decide) ?_
  refine aN rfl rfl rfl rfl ?_
  refine cD rfl rfl (by omega) (by omega) ?_
  refine bR rfl (aD (aC (au ?_)))
  refine cZ (fun (t : {t : Nat // t ≤ y.D + 1 ∧ ∀ s : Nat, s < t → 0 ≤ cB y a (k.1 : Nat) (s : Nat) ∧ cB y a (k.1 : Nat) (s : Nat) ≤ (nth y.bins k.1).holds}) => live [(2, Ty.pp (bO y)), (3, Ty.pp (eK a)), (5, Ty.int .i64 (k.1 : Nat)), (6, Ty.ptr 7 0), (27, Ty.sl dY y.bins), (28, Ty.int .i64 y.bins.length), (29, Ty.int .i64 (k.1 : Nat)), (45, Ty.int .i64 (y.days + 1)), (46, Ty.int .i64 (t.1 : Nat))] [(7, Cont.cells 39 (dY.tys (nth y.bins k.1)))]) (fun t => y.D + 1 - t.1) (⟨0, Nat.zero_le _, fun s h => absurd h (Nat.not_lt_zero s)⟩) ?_ fun t => ?_
  ·(refine dG.mk' ?_ ?_ <;> (repeat' (first | exact aJ | exact aI | refine aB ?_ (Ty.aX _) | refine aB ?_ (Ty.aF _) | refine aG rfl (Cont.aF _) ?_)))
  have ht := t.2.1
  refine aE (aA (bC rfl rfl rfl (aD (aC (aE ?_)))))
  refine av rfl (fun hc4 => ?_) (fun hc4 => ?_)
  ·
   refine ak (aC (aE (au (aE (aA (bR rfl (cE rfl (aD (aC ?_)))))))))
   refine aE (cQ mixed rfl ?_)
   refine aZ rfl rfl rfl (by exact Nat.le_of_ble_eq_true rfl) ?_
   refine aZ rfl rfl rfl (by exact Nat.le_of_ble_eq_true rfl) ?_
   refine bR rfl (bR rfl ?_)
   refine ah (gB y a ha ((k.1 : Nat) : Int) ((t.1 : Nat) : Int) (Int.natCast_nonneg _) (by omega)) rfl rfl rfl rfl rfl ?_
   refine aO rfl rfl rfl rfl rfl (by decide) ?_
   refine aU rfl rfl (by decide) rfl rfl rfl ?_
   refine ah (iN _ _) rfl rfl rfl rfl rfl (ah (mM _ _) rfl rfl rfl rfl rfl (dh rfl (aD ?_)))
   refine ⟨by kernel_rfl, ?_⟩
   refine aC ?_
   refine cr rfl (fun hc5 => ?_) (fun hc5 => ?_)
   ·
    refine aE (aA (dr rfl (aD (aC (az (bJ (aV (aV (bJ ?_)))))))))
    refine bJ (aV (aV (bJ (aV (bq rfl rfl ?_)))))
    all_goals skip
    exact bE rfl rfl (congrArg Ty.bool (Ll (b := k.1) (t := t.1) (by omega) (by omega) hc5))
   refine ak (bf (aC (aA ?_)))
   refine cD rfl rfl (by omega) (by omega) ?_
   refine bR rfl (aD ?_)
   refine bp (⟨t.1 + 1, by omega, fun s h => (Nat.lt_succ_iff_lt_or_eq.1 h).elim (t.2.2 s) fun e => by subst e; exact uY hc5⟩) ?_ (by show y.D + 1 - (t.1 + 1) < y.D + 1 - t.1; omega)
   (refine dG.mk' ?_ ?_ <;> (repeat' (first | exact aJ | exact aI | refine aB ?_ (Ty.aX _) | refine aB ?_ (Ty.aF _) | refine aG rfl (Cont.aF _) ?_)))
   all_goals skip
  refine cg (aT (aT (bA rfl (bf (aC (aA ?_))))))
  refine cD rfl rfl (by omega) (by omega) ?_
  refine bR rfl (aD ?_)
  refine bp (⟨k.1 + 1, by omega, fun b h => (Nat.lt_succ_iff_lt_or_eq.1 h).elim (k.2.2 b) fun e => by subst e; exact ⟨uY hc3, fun s h => t.2.2 s (by omega)⟩⟩) ?_ (by show y.bins.length - (k.1 + 1) < y.bins.length - k.1; omega)
  (refine dG.mk' ?_ ?_ <;> (repeat' (first | exact aJ | exact aI | refine aB ?_ (Ty.aX _) | refine aB ?_ (Ty.aF _))))
  all_goals skip
 refine cg (aT (aT (bA rfl (aC (aE (aE (aA ?_)))))))
 refine aQ rfl rfl rfl rfl rfl (by decide) ?_
 refine aN rfl rfl rfl rfl (ct rfl rfl rfl (bR rfl (aD (aC (au ?_)))))
 refine cZ (fun (m : {k : Nat // k ≤ y.moves.length ∧ ∀ i, i < k → (nth y.moves i).sacks.lo ≤ nth a.cA i ∧ nth a.cA i ≤ (nth y.moves i).sacks.hi}) => live [(2, Ty.pp (bO y)), (3, Ty.pp (eK a)), (62, Ty.sl cy y.moves), (63, Ty.int .i64 y.moves.length), (64, Ty.int .i64 (m.1 : Nat))] []) (fun m => y.moves.length - m.1) (⟨0, Nat.zero_le _, fun b h => absurd h (Nat.not_lt_zero b)⟩) ?_ fun m => ?_
 ·(refine dG.mk' ?_ ?_ <;> (repeat' (first | exact aJ | exact aI | refine aB ?_ (Ty.aX _) | refine aB ?_ (Ty.aF _))))
 have hm := m.2.1
 refine aE (aA (bC rfl rfl rfl (aD (aC (aE ?_)))))
 refine av rfl (fun hc6 => ?_) (fun hc6 => ?_)
 ·
  refine ak (aC (aE (au (aE (aA (bR rfl ?_))))))
  refine bK rfl rfl rfl rfl rfl rfl (by omega) ?_
  refine aZ rfl rfl rfl (by exact Nat.le_of_ble_eq_true rfl) ?_
  refine bw rfl (by exact List.cons_ne_nil _ _) rfl ?_
  refine cE rfl ?_
  refine bk rfl rfl (by decide) rfl rfl rfl rfl rfl rfl ?_
  refine aD (aC (aE (cQ mixed rfl ?_)))
  refine aQ rfl rfl rfl rfl rfl (by decide) ?_
  refine aN rfl rfl rfl rfl (bR rfl ?_)
  refine bK rfl rfl rfl rfl rfl rfl (by omega) ?_
  refine aN rfl rfl rfl rfl ?_
  refine aO rfl rfl rfl rfl rfl (by decide) ?_
  refine bL rfl rfl (by decide) rfl rfl (by exact Nat.le_of_ble_eq_true rfl) ?_
  refine ah (mM _ _) rfl rfl rfl rfl rfl (dh rfl (aD ?_))
  refine ⟨by kernel_rfl, ?_⟩
  refine aC ?_
  refine cr rfl (fun hc7 => ?_) (fun hc7 => ?_)
  ·
   refine aE (aA (dr rfl (aD (aC (az (bJ (aV (aV (bJ ?_)))))))))
   refine aV (bq rfl rfl ?_)
   all_goals skip
   exact bE rfl rfl (congrArg Ty.bool (Ln (k := m.1) (by omega) hc7))
  refine ak (bf (aC (aA ?_)))
  refine cD rfl rfl (by omega) (by omega) ?_
  refine bR rfl (aD ?_)
  refine bp (⟨m.1 + 1, by omega, fun i h => (Nat.lt_succ_iff_lt_or_eq.1 h).elim (m.2.2 i) fun e => by subst e; exact uY hc7⟩) ?_ (by show y.moves.length - (m.1 + 1) < y.moves.length - m.1; omega)
  (refine dG.mk' ?_ ?_ <;> (repeat' (first | exact aJ | exact aI | refine aB ?_ (Ty.aX _) | refine aB ?_ (Ty.aF _))))
  all_goals skip
 refine cg (aT (aT (bA rfl (aC (aE (aA ?_))))))
 refine aQ rfl rfl rfl rfl rfl (by decide) ?_
 refine aN rfl rfl rfl rfl (dR rfl ?_)
 refine ah (lK y.levels (Ty.jf 85 [Ty.pp (bO y), Ty.pp (eK a)]) rfl (fun l => !nP (cB y a l.bin l.day) l.sacks) rfl rfl (fun l h => dX (Iz y a ha l (hr.level l h).2.1.1 (by have := (hr.level l h).2.1; omega)) rfl rfl rfl rfl rfl rfl)) rfl rfl rfl rfl rfl ?_
 refine dh rfl (dr rfl (aD (aC (az (bq rfl rfl ?_)))))
 all_goals skip
 exact bE rfl rfl (congrArg Ty.bool (Lm hr hl (fun b hb => k.2.2 b (by omega)) (fun i hi => m.2.2 i (by omega))))
end Go.Proofs.YtelbollidfdcjaaGreat
namespace Go.Proofs.YtelbollidfdcjaaGreat
open Go Go.T
def wA (v : Bool) (d : Md) : eV := if v = true then MU d.cJ d.real else d.real
section
variable {d : Md} {v : Bool} {c : Nat → Bool} {y : aq} {b t k n : Nat} {l : List wD}
theorem Bs (d : Md) : ∀ x ∈ d.real.first, 0 ≤ x ∧ x ≤ 59 := (d.pz d.nb).first
theorem By (hd : d.Ok) : ∀ x ∈ d.real.cA, 0 ≤ x ∧ x ≤ 39 := (d.qC hd d.many (Nat.le_refl _)).num
theorem MP (hd : d.Ok) : MA (wA v d) := by
  have h1 := Bs d
  have h2 := By hd
  have h3 := (d.lens hd).2.2.2
  have h4 := (d.uT hd).1
  have h5 := (d.lens hd).1.2
  cases v with
  | true =>
    refine ⟨?_, fun x hx => ?_, fun x hx => ?_⟩
    · show (List.replicate _ 0).length ≤ 1000; rw [List.length_replicate]; have := Ga d.cJ.moves; omega
    · have := h1 x hx; omega
    · have := (List.mem_replicate.1 hx).2; omega
  | false =>
    refine ⟨?_, fun x hx => ?_, fun x hx => ?_⟩
    · show d.real.cA.length ≤ 1000; omega
    · have := h1 x hx; omega
    · have := h2 x hx; omega
variable {f : Nat → Nat → Int}
theorem Hy (ho : cH y = 0) (hb : b < y.bins.length) (ht : t ≤ y.D) : 0 ≤ (nth (dZ y (b : Nat)) t).lo ∧ (nth (dZ y (b : Nat)) t).lo ≤ 300 ∧ 0 ≤ (nth (dZ y (b : Nat)) t).hi ∧ (nth (dZ y (b : Nat)) t).hi ≤ 300 := by
 have h := kD ho hb ht
 have hh := ((cR (dD ho)).bin _ (dA hb)).1
 obtain ⟨a, ha, e⟩ := h.lo
 obtain ⟨a', ha', e'⟩ := h.hi
 have h1 := ha.cont b t hb ht
 have h2 := ha'.cont b t hb ht
 rw [← e, ← e']
 omega
end
end Go.Proofs.YtelbollidfdcjaaGreat
namespace Go.Proofs.YtelbollidfdcjaaGreat
open Go Go.T
set_option maxHeartbeats 4000000
section
variable {α : Type} {p : α → Bool} {l : List α} {k : Nat}
end
section
variable {y : aq} {b c : Bool}
end
attribute [local irreducible] iP fT nJ qo jJ jK jE jM jG qi jI qn eG gx qg gm qj nth fM dm aj dz bodyPost Exit.then Exit.inBlock Code.wp Code.wpIn qm jL ql qd jH eJ cV cm bodyPostM eN
end Go.Proofs.YtelbollidfdcjaaGreat
namespace Go.Proofs.YtelbollidfdcjaaGreat
open Go Go.T
set_option maxHeartbeats 6000000
def wE (s t u : Nat) (y : aq) : List Ty := [Ty.int .i64 y.days, Ty.vs s y.bins.length, Ty.vs t y.moves.length, Ty.vs u y.levels.length]
abbrev xN (s t u : Nat) (y : aq) : List (Nat × Cont) := [(s, Cont.vec dY 39 y.bins), (t, Cont.vec cy 41 y.moves), (u, Cont.vec dF 102 y.levels)]
def yz : aq := ⟨0, [], [], []⟩
def Hw (y : aq) : aq := if bU y = 0 then y else yz
theorem zj {y : aq} (h : bU y = 0) : y = Hw y := (if_pos h).symm
theorem Cm {y : aq} (h : ¬ bU y = 0) : yz = Hw y := (if_neg h).symm
theorem Fu {x : aq} (h : x = yz) : rZ [21, 22, 23] (Ty.agg [Ty.int .i64 0, Ty.ex (.slice none 0 0), Ty.ex (.slice none 0 0), Ty.ex (.slice none 0 0)]) (Ty.agg (wE 21 22 23 x)) := by
 subst h; exact eM (oE (aH (aH (aH (aH bH vC) vC) vC) (aR rfl rfl)))
theorem Gs {x y : aq} (h : x = y) : rZ [21, 22, 23] (Ty.agg (wE 21 22 23 x)) (Ty.agg (wE 21 22 23 y)) := by
 subst h; exact eM (oE (aH (aH (aH (aH bH (dV (by decide))) (dV (by decide))) (dV (by decide))) (aR rfl rfl)))
def g8 (y : aq) (l : Level) : aq := { y with levels := y.levels ++ [l] }
def lq (y : aq) (l : Level) : Int := if bU y = 0 then (if (y.levels.length : Int) = 8 then 9 else bU (g8 y l)) else bU y
def oN (y : aq) (l : Level) : aq := if lq y l = 0 then g8 y l else yz
theorem CC {y : aq} (h : y.Small) (l : Level) (h2 : y.levels.length ≤ 999 := by omega) : (g8 y l).Small := ⟨h.bins, h.moves, by show (y.levels ++ [l]).length ≤ 1000; rw [List.length_append]; show y.levels.length + 1 ≤ 1000; omega⟩
section
variable {y : aq} {l : Level}
theorem wM (h : ¬ bU y = 0) : yz = oN y l ∧ bU y = lq y l := by
 have e : bU y = lq y l := (if_neg h).symm
 exact ⟨by unfold oN; rw [← e, if_neg h], e⟩
theorem vD (h : bU y = 0) (h2 : (y.levels.length : Int) = 8) : yz = oN y l ∧ 9 = lq y l := by
 have e : 9 = lq y l := by unfold lq; rw [if_pos h, if_pos h2]
 exact ⟨by unfold oN; rw [← e, if_neg (by decide)], e⟩
theorem vo (h : bU y = 0) (h2 : ¬ (y.levels.length : Int) = 8) : Hw (g8 y l) = oN y l ∧ bU (g8 y l) = lq y l := by
 have e : bU (g8 y l) = lq y l := by unfold lq; rw [if_pos h, if_neg h2]
 exact ⟨by unfold oN Hw; rw [← e], e⟩
end
section
variable {y : aq} {m : Move}
end
theorem GF {α : Type} {l : List α} {x : α} : l ++ List.drop l.length (List.replicate ((l.length : Int)).toNat x) = l := by rw [List.drop_of_length_le (by simp), List.append_nil]
theorem LN : Tryz.prog.underlying 23 = some (.slice 39) := by kernel_rfl
theorem Lc : Tryz.prog.underlying 24 = some (.slice 41) := by kernel_rfl
attribute [local irreducible] bU Hw
attribute [local irreducible] iP fT nJ qo jJ jK jE jM jG qi jI qn eG gx qg gm qj nth fM dm aj dz bodyPost Exit.then Exit.inBlock Code.wp Code.wpIn qm jL ql qd jH eJ cV cm bodyPostM eN
set_option maxRecDepth 100000 in
theorem BQ (l : List wD) (h : l.length ≤ 1000) : eJ Tryz.prog 174 [] [] [Ty.sl dY l] [] (Ty.row dY 39 6 l) := by
 refine dN Tryz.func174 rfl (by decide) Tryz.ntmps174 (by exact Nat.le_of_ble_eq_true rfl) fun w0 M0 => ?_
 refine aE (aA (l9 rfl (aD (aC (aE (aE (aA (fK rfl (uX LN rfl ?_)))))))))
 refine aD (aC ?_)
 refine pI rfl (fun hc1 => ?_) (fun hc1 => ?_)
 ·
  refine aE (aA (l9 rfl (aD (aC (az (aV ?_))))))
  refine fN [6] rfl rfl (by decide) (by repeat (exact dn)) ?_
  all_goals skip
  all_goals (obtain rfl : l = [] := hc1; exact eM o7)
 refine ak (aC (aE (aA ?_)))
 refine m4 (E := dY) rfl rfl rfl rfl ?_
 refine fK rfl ?_
 refine fJ rfl rfl (by decide) rfl rfl rfl rfl rfl rfl (by decide) (by (simp <;> omega)) (by (simp <;> omega)) ?_
 refine Ew rfl (aD (aC (az ?_)))
 refine fN [6] rfl rfl (by decide) (by repeat (exact dn)) ?_
 all_goals skip
 all_goals exact eM (jw (by decide))
set_option maxRecDepth 100000 in
theorem Af (l : List Move) (h : l.length ≤ 1000) : eJ Tryz.prog 175 [] [] [Ty.sl cy l] [] (Ty.row cy 41 6 l) := by
 refine dN Tryz.func175 rfl (by decide) Tryz.ntmps175 (by exact Nat.le_of_ble_eq_true rfl) fun w0 M0 => ?_
 refine aE (aA (l9 rfl (aD (aC (aE (aE (aA (fK rfl (uX Lc rfl ?_)))))))))
 refine aD (aC ?_)
 refine pI rfl (fun hc1 => ?_) (fun hc1 => ?_)
 ·
  refine aE (aA (l9 rfl (aD (aC (az (aV ?_))))))
  refine fN [6] rfl rfl (by decide) (by repeat (exact dn)) ?_
  all_goals skip
  all_goals (obtain rfl : l = [] := hc1; exact eM o7)
 refine ak (aC (aE (aA ?_)))
 refine m4 (E := cy) rfl rfl rfl rfl ?_
 refine fK rfl ?_
 refine fJ rfl rfl (by decide) rfl rfl rfl rfl rfl rfl (by decide) (by (simp <;> omega)) (by (simp <;> omega)) ?_
 refine Ew rfl (aD (aC (az ?_)))
 refine fN [6] rfl rfl (by decide) (by repeat (exact dn)) ?_
 all_goals skip
 all_goals exact eM (jw (by decide))
set_option maxRecDepth 100000 in
theorem KZ (y : aq) (hs : y.Small) : eJ Tryz.prog 124 [] [] [fE y] [] (Ty.agg [Ty.int .i64 y.days, Ty.row dY 39 21 y.bins, Ty.row cy 41 22 y.moves, Ty.row dF 102 12 y.levels]) := by
 refine dN Tryz.func124 rfl (by decide) Tryz.ntmps124 (by exact Nat.le_of_ble_eq_true rfl) fun w0 M0 => ?_
 have hs1 := hs.bins
 have hs2 := hs.moves
 have hs3 := hs.levels
 refine aE (aA (bN rfl ?_))
 refine bw rfl (by exact List.cons_ne_nil _ _) rfl ?_
 refine aD (aC (aE (aA ?_)))
 refine aQ rfl rfl rfl rfl rfl (by decide) ?_
 refine aN rfl rfl rfl rfl (ct rfl rfl rfl ?_)
 refine aQ rfl rfl rfl rfl rfl (by decide) ?_
 refine aN rfl rfl rfl rfl (ct rfl rfl rfl ?_)
 refine cD rfl rfl (by omega) (by omega) ?_
 refine G8 (E := dF) (x0 := ⟨0, 0, ⟨0, 0⟩⟩) rfl rfl rfl rfl rfl rfl rfl (by decide) rfl (by omega) (by omega) (by (dsimp only; omega)) (by omega) ?_
 refine fQ rfl (aD (aC (aE (aA (eD rfl ?_)))))
 refine aQ rfl rfl rfl rfl rfl (by decide) ?_
 refine aN rfl rfl rfl rfl ?_
 refine Gv (E := dF) (ys := y.levels) rfl rfl rfl (by decide) rfl rfl rfl rfl (by simp) (by simp) ?_
 refine aD (aC (aE ?_))
 refine gI (tg := 12) rfl (Cont.H8 GF) ?_
 refine GJ (s := 3) rfl (by decide) rfl rfl ?_
 refine cQ mixed rfl ?_
 refine aQ rfl rfl rfl rfl rfl (by decide) ?_
 refine aN rfl rfl rfl rfl ?_
 refine aQ rfl rfl rfl rfl rfl (by decide) ?_
 refine aN rfl rfl rfl rfl ?_
 refine b9 [(21, 6)] [21] [] (BQ y.bins (by omega)) rfl rfl (by repeat (first | exact bH | refine aH ?_ ?_ | exact aR rfl rfl)) pre_nil post_nil (jw (by exact List.mem_cons_self)) ?_
 refine aQ rfl rfl rfl rfl rfl (by decide) ?_
 refine aN rfl rfl rfl rfl ?_
 refine b9 [(22, 6)] [22] [] (Af y.moves (by omega)) rfl rfl (by repeat (first | exact bH | refine aH ?_ ?_ | exact aR rfl rfl)) pre_nil post_nil (jw (by exact List.mem_cons_self)) ?_
 refine IN rfl ?_
 refine c6 rfl rfl (by exact List.cons_ne_nil _ _) rfl (by repeat (first | exact (aW.nil : aW _ _ [] _) | (show aW _ _ ((_, _) :: _) _; apply aW.one; (· first | exact (rfl : _ = Ty.int _ _) | exact (rfl : _ = Ty.row _ _ _ _)); (· exact rfl)))) (by exact (rfl : _ = some [_, _, _, _])) ?_
 refine bk rfl rfl (by decide) rfl rfl rfl rfl rfl rfl ?_
 refine aD ?_
 refine ⟨by kernel_rfl, ?_⟩
 refine aC (az ?_)
 refine zO [21, 22, 12] rfl rfl rfl rfl (by decide) rfl rfl rfl (by decide) (by repeat (exact dn)) ?_
 all_goals skip
 all_goals exact eM (oE (aH (aH (aH (aH bH (jw (by decide))) (jw (by decide))) (jw (by decide))) (aR rfl rfl)))
set_option maxRecDepth 100000 in
theorem Hz (y : aq) (hs : y.Small) : eJ Tryz.prog 125 [21, 22, 23] (xN 21 22 23 y) [Ty.agg (wE 21 22 23 y)] (xN 21 22 23 (Hw y)) (Ty.jR [Ty.agg (wE 21 22 23 (Hw y)), Ty.int .i64 (bU y)]) := by
 refine dN Tryz.func125 rfl (by decide) Tryz.ntmps125 (by exact Nat.le_of_ble_eq_true rfl) fun w0 M0 => ?_
 refine aE (aA (bN rfl ?_))
 refine bw rfl (by exact List.cons_ne_nil _ _) rfl ?_
 refine cE rfl (aD (aC (aE (aE (aA ?_)))))
 refine aZ rfl rfl rfl (by exact Nat.le_of_ble_eq_true rfl) ?_
 refine dU [21, 22, 23] (jV y hs) rfl (aM (gQ (aM (aa (bG rfl rfl)) (aM (gO rfl rfl (by decide) rfl) (aM (gO rfl rfl (by decide) rfl) (aM (gO rfl rfl (by decide) rfl) bY))))) bY) (by exact dH _ _) ?_
 refine cE rfl (aD (aC (aE (aA (bR rfl (bC rfl rfl rfl (aD (aC ?_))))))))
 refine dI rfl (fun hc1 => ?_) (fun hc1 => ?_)
 ·
  refine aE ?_
  refine m5 (E := dY) 39 21 ?_
  refine m5 (E := cy) 41 22 ?_
  refine m5 (E := dF) 102 23 ?_
  refine aA ?_
  refine c6 rfl rfl (by exact List.cons_ne_nil _ _) rfl (by repeat (exact (aW.nil : aW _ _ [] _))) (by exact (rfl : _ = some [_, _, _, _])) ?_
  refine bR rfl ?_
  refine bk rfl rfl (by decide) rfl rfl rfl rfl rfl rfl ?_
  refine cE rfl (aD (aC (az (aV ?_))))
  refine oS [21, 22, 23] rfl rfl rfl rfl rfl (by decide) rfl rfl rfl (by decide) ?_ ?_ ?_
  ·exact cw rfl (bV (by decide) (congrArg aq.bins (Cm hc1))) (cw rfl (bV (by decide) (congrArg aq.moves (Cm hc1))) (cw rfl (bV (by decide) (congrArg aq.levels (Cm hc1))) dn))
  all_goals first | exact eM (aR rfl rfl) | skip
  all_goals exact Fu (Cm hc1).symm
 refine ak (aC (aE (aA ?_)))
 refine aZ rfl rfl rfl (by exact Nat.le_of_ble_eq_true rfl) ?_
 refine bk rfl rfl (by decide) rfl rfl rfl rfl rfl rfl ?_
 refine cE rfl (aD (aC (az ?_)))
 refine oS [21, 22, 23] rfl rfl rfl rfl rfl (by decide) rfl rfl rfl (by decide) ?_ ?_ ?_
 ·exact cw rfl (bV (by decide) (congrArg aq.bins (zj hc1))) (cw rfl (bV (by decide) (congrArg aq.moves (zj hc1))) (cw rfl (bV (by decide) (congrArg aq.levels (zj hc1))) dn))
 all_goals skip
 all_goals first | exact Gs (zj hc1) | exact eM (kR rfl rfl (congrArg (Ty.int .i64) hc1.symm))
set_option maxRecDepth 100000 in
theorem yH (y : aq) (hs : y.Small) (l : Level) : eJ Tryz.prog 55 [] [] [fE y, Ty.agg (dF.tys l)] (xN 21 22 23 (oN y l)) (Ty.jR [Ty.agg (wE 21 22 23 (oN y l)), Ty.int .i64 (lq y l)]) := by
 refine dN Tryz.func55 rfl (by decide) Tryz.ntmps55 (by exact Nat.le_of_ble_eq_true rfl) fun w0 M0 => ?_
 have hs1 := hs.bins
 have hs2 := hs.moves
 have hs3 := hs.levels
 refine aE (aA (bN rfl (bN rfl ?_)))
 refine bw rfl (by exact List.cons_ne_nil _ _) rfl ?_
 refine cE rfl (aD (aC (aE (aE (aA ?_)))))
 refine aZ rfl rfl rfl (by exact Nat.le_of_ble_eq_true rfl) ?_
 refine ah (jV y hs) rfl rfl rfl rfl rfl (cE rfl (aD (aC (aE (aA (bR rfl (bC rfl rfl rfl (aD (aC ?_)))))))))
 refine dI rfl (fun hc1 => ?_) (fun hc1 => ?_)
 ·
  refine aE ?_
  refine m5 (E := dY) 39 21 ?_
  refine m5 (E := cy) 41 22 ?_
  refine m5 (E := dF) 102 23 ?_
  refine aA ?_
  refine c6 rfl rfl (by exact List.cons_ne_nil _ _) rfl (by repeat (exact (aW.nil : aW _ _ [] _))) (by exact (rfl : _ = some [_, _, _, _])) ?_
  refine bR rfl ?_
  refine bk rfl rfl (by decide) rfl rfl rfl rfl rfl rfl ?_
  refine cE rfl (aD (aC (az (aV ?_))))
  refine oS [21, 22, 23] rfl rfl rfl rfl rfl (by decide) rfl rfl rfl (by decide) ?_ ?_ ?_
  ·exact cw rfl (bV (by decide) (congrArg aq.bins (wM hc1).1)) (cw rfl (bV (by decide) (congrArg aq.moves (wM hc1).1)) (cw rfl (bV (by decide) (congrArg aq.levels (wM hc1).1)) dn))
  all_goals skip
  all_goals first | exact Fu (wM hc1).1.symm | exact eM (kR rfl rfl (congrArg (Ty.int .i64) (wM hc1).2))
 refine ak (aC (aE (aE ?_)))
 have hck : bU y = 0 := hc1
 refine aA ?_
 refine aQ rfl rfl rfl rfl rfl (by decide) ?_
 refine aN rfl rfl rfl rfl (ct rfl rfl rfl (bC rfl rfl rfl (aD (aC ?_))))
 refine av rfl (fun hc2 => ?_) (fun hc2 => ?_)
 ·
  refine aE ?_
  refine m5 (E := dY) 39 21 ?_
  refine m5 (E := cy) 41 22 ?_
  refine m5 (E := dF) 102 23 ?_
  refine aA ?_
  refine c6 rfl rfl (by exact List.cons_ne_nil _ _) rfl (by repeat (exact (aW.nil : aW _ _ [] _))) (by exact (rfl : _ = some [_, _, _, _])) ?_
  refine bk rfl rfl (by decide) rfl rfl rfl rfl rfl rfl ?_
  refine cE rfl (aD (aC (az (aV ?_))))
  refine oS [21, 22, 23] rfl rfl rfl rfl rfl (by decide) rfl rfl rfl (by decide) ?_ ?_ ?_
  ·exact cw rfl (bV (by decide) (congrArg aq.bins (vD hck hc2).1)) (cw rfl (bV (by decide) (congrArg aq.moves (vD hck hc2).1)) (cw rfl (bV (by decide) (congrArg aq.levels (vD hck hc2).1)) dn))
  all_goals skip
  all_goals first | exact Fu (vD hck hc2).1.symm | exact eM (kR rfl rfl (congrArg (Ty.int .i64) (vD hck hc2).2))
 refine ak (aC (aE ?_))
 have hr := cR hck
 have hl1 := hr.bins
 have hl2 := hr.moves
 have hl3 := hr.levels
 refine aA ?_
 refine aZ rfl rfl rfl (by exact Nat.le_of_ble_eq_true rfl) ?_
 refine b9 (res' := Ty.agg [Ty.int .i64 y.days, Ty.row dY 39 21 y.bins, Ty.row cy 41 22 y.moves, Ty.row dF 102 23 y.levels]) [(21, 21), (22, 22), (23, 12)] [21, 22, 23] [] (KZ y hs) rfl rfl (by repeat (first | exact bH | refine aH ?_ ?_ | exact aR rfl rfl)) pre_nil post_nil (oE (aH (aH (aH (aH bH (jw (by decide))) (jw (by decide))) (jw (by decide))) (aR rfl rfl))) ?_
 refine bw rfl (by exact List.cons_ne_nil _ _) rfl ?_
 refine bk rfl rfl (by decide) rfl rfl rfl rfl rfl rfl ?_
 refine aD (aC (aE (aA ?_)))
 refine aO rfl rfl rfl rfl rfl (by decide) ?_
 refine aU rfl rfl (by decide) rfl rfl rfl ?_
 refine aZ rfl rfl rfl (by exact Nat.le_of_ble_eq_true rfl) ?_
 refine bt (E := dF) (xs := [l]) rfl rfl rfl rfl rfl (by decide) (by decide) (by repeat (first | exact (aW.nil : aW _ _ [] _) | (show aW _ _ ((_, _) :: _) _; apply aW.agg; (· exact (rfl : _ = Ty.agg _))))) (by exact rfl) rfl ?_
 refine fJ rfl rfl (by decide) rfl rfl rfl rfl rfl rfl (by decide) (by (simp <;> omega)) (by (simp <;> omega)) ?_
 refine aO rfl rfl rfl rfl rfl (by decide) ?_
 refine cq rfl rfl (by decide) rfl rfl (by exact (rfl : _ = Ty.row _ _ _ _)) rfl (by exact Nat.le_of_ble_eq_true rfl) rfl rfl (by exact rfl) ?_
 refine aD (aC (aE ?_))
 refine jB (c0 := 8) 1 rfl rfl ?_
 refine jB (c0 := 8) 2 rfl rfl ?_
 refine jB (c0 := 8) 3 rfl rfl ?_
 refine gI (tg := 8) rfl (Cont.dM (l' := wE 21 22 23 (g8 y l)) ⟨Ty.aF _, Ty.oX rfl, Ty.oX rfl, Ty.oX rfl, trivial⟩) ?_
 refine dO (B := live [(4, Ty.ptr 5 0), (7, Ty.ptr 8 0)] [(5, Cont.cells 27 [Ty.int .i64 0, Ty.ex (.slice none 0 0), Ty.ex (.slice none 0 0), Ty.ex (.slice none 0 0)]), (8, Cont.cells 27 (wE 21 22 23 (g8 y l))), (21, Cont.vec dY 39 (g8 y l).bins), (22, Cont.vec cy 41 (g8 y l).moves), (23, Cont.vec dF 102 (g8 y l).levels)]) ?_ ?_
 ·(refine dG.mk' ?_ ?_ <;> (repeat' (first | exact aJ | exact aI | refine aB ?_ (Ty.aX _) | refine aB ?_ (Ty.aF _) | refine aG rfl (Cont.aF _) ?_)))
 refine aA ?_
 refine bL rfl rfl (by decide) rfl rfl (by exact Nat.le_of_ble_eq_true rfl) ?_
 refine b9 (res' := Ty.jR [Ty.agg (wE 21 22 23 (Hw (g8 y l))), Ty.int .i64 (bU (g8 y l))]) [(21, 21), (22, 22), (23, 23)] [] (xN 21 22 23 (Hw (g8 y l))) (Hz (g8 y l) (CC hs l)) rfl rfl (aH bH (oE (aH (aH (aH (aH bH (dV (by decide))) (dV (by decide))) (dV (by decide))) (aR rfl rfl)))) (cC (a := 21) (b := 21) (by decide) rfl (bV (by decide) rfl) (cC (a := 22) (b := 22) (by decide) rfl (bV (by decide) rfl) (cC (a := 23) (b := 23) (by decide) rfl (bV (by decide) rfl) pre_nil))) (bI (a := 21) (b := 21) (by decide) rfl (bV (by decide) rfl) (bI (a := 22) (b := 22) (by decide) rfl (bV (by decide) rfl) (bI (a := 23) (b := 23) (by decide) rfl (bV (by decide) rfl) post_nil))) (tJ (aH (aH bH (aR rfl rfl)) (oE (aH (aH (aH (aH bH (dV (by decide))) (dV (by decide))) (dV (by decide))) (aR rfl rfl))))) ?_
 refine bD rfl rfl (bD rfl rfl ?_)
 refine bk rfl rfl (by decide) rfl rfl rfl rfl rfl rfl ?_
 refine cE rfl (aD (aC (az ?_)))
 refine oS [21, 22, 23] rfl rfl rfl rfl rfl (by decide) rfl rfl rfl (by decide) ?_ ?_ ?_
 ·exact cw rfl (bV (by decide) (congrArg aq.bins (vo hck hc2).1)) (cw rfl (bV (by decide) (congrArg aq.moves (vo hck hc2).1)) (cw rfl (bV (by decide) (congrArg aq.levels (vo hck hc2).1)) dn))
 all_goals skip
 all_goals first | exact Gs (vo hck hc2).1 | exact eM (kR rfl rfl (congrArg (Ty.int .i64) (vo hck hc2).2))
end Go.Proofs.YtelbollidfdcjaaGreat
namespace Go.Proofs.YtelbollidfdcjaaGreat
open Go Go.T
section
variable {y : aq} {c : Nat → Bool} {a : eV} {l : Level} {b t k : Nat} {s s' : Span} {f : eV → Int}
theorem FA {i : Nat} (h : i < 8) : nth bZ i = true := by
 unfold bZ; rw [iM (by rw [List.length_replicate]; exact h), List.getElem_replicate]
theorem iS (hr : y.cx) : eR y (nth bZ) a ↔ eR y (fun _ => true) a := by
 have h8 := hr.levels
 refine ⟨fun h => ⟨h.lens, h.first, h.cont, h.cA, fun i hi _ => h.level i hi (FA (by omega))⟩, fun h => ⟨h.lens, h.first, h.cont, h.cA, fun i hi _ => h.level i hi rfl⟩⟩
structure Gg (y : aq) (l : Level) : Prop where
  day : 0 ≤ l.day ∧ l.day ≤ y.days
  bin : 0 ≤ l.bin ∧ l.bin < y.bins.length
  num : 0 ≤ l.sacks.lo ∧ l.sacks.hi ≤ 300
  ord : l.sacks.lo ≤ l.sacks.hi
theorem vn (hr : y.cx) (h7 : y.levels.length ≤ 7) (hl : Gg y l) : (g8 y l).cx := by
 refine ⟨hr.days, hr.bins, hr.moves, ?_, hr.bin, hr.move, fun x hx => ?_⟩
 ·show (y.levels ++ [l]).length ≤ 8
  rw [List.length_append]; show y.levels.length + 1 ≤ 8; omega
 rcases List.mem_append.1 hx with h | h
 ·exact hr.level x h
 obtain rfl := List.mem_singleton.1 h
 exact ⟨hl.day, hl.bin, hl.num, hl.ord⟩
theorem tD : eR (g8 y l) (fun _ => true) a ↔ eR y (fun _ => true) a ∧ l.sacks.lo ≤ dK y a l.bin.toNat l.day.toNat ∧ dK y a l.bin.toNat l.day.toNat ≤ l.sacks.hi := by
 have e0 : (g8 y l).levels = y.levels ++ [l] := rfl
 have e1 : nth (y.levels ++ [l]) y.levels.length = l := mz (i := 0)
 constructor
 ·intro h
  refine ⟨⟨⟨h.lens.first, h.lens.cA⟩, h.first, h.cont, h.cA, fun i hi _ => ?_⟩, ?_⟩
  ·have h1 := h.level i (by rw [e0, List.length_append]; omega) rfl
   rw [e0, hO hi] at h1
   exact h1
  have h1 := h.level y.levels.length (by rw [e0, List.length_append]; show _ < _ + 1; omega) rfl
  rw [e0, e1] at h1
  exact h1
 intro ⟨h, h2⟩
 refine ⟨⟨h.lens.first, h.lens.cA⟩, h.first, h.cont, h.cA, fun i hi _ => ?_⟩
 rw [e0, List.length_append] at hi
 have hi : i < y.levels.length + 1 := hi
 rw [e0]
 by_cases e : i < y.levels.length
 ·rw [hO e]; exact h.level i e rfl
 obtain rfl : i = y.levels.length := by omega
 rw [e1]; exact h2
theorem JB (hr : y.cx) (h7 : y.levels.length ≤ 7) (hl : Gg y l) : lq y l = 0 ∧ oN y l = g8 y l := by
 have h0 := pN hr
 have h1 := pN (vn hr h7 hl)
 have : lq y l = 0 := by
  unfold lq
  rw [if_pos h0, if_neg (by omega), h1]
 exact ⟨this, by unfold oN; rw [if_pos this]⟩
theorem wo.le {y' : aq} {c' : Nat → Bool} {g : eV → Int} (h : wo y c f s) (h' : wo y' c' g s') (sub : ∀ a, eR y' c' a → eR y c a ∧ g a = f a) : s.lo ≤ s'.lo ∧ s'.hi ≤ s.hi := by
 obtain ⟨a1, f1, e1⟩ := h'.lo
 obtain ⟨a2, f2, e2⟩ := h'.hi
 have h1 := h.all a1 (sub a1 f1).1
 have h2 := h.all a2 (sub a2 f2).1
 rw [← (sub a1 f1).2] at h1
 rw [← (sub a2 f2).2] at h2
 omega
theorem wo.MY {y' : aq} {c' : Nat → Bool} {g : eV → Int} (h : wo y c f s) (h' : wo y' c' g s') (sub : ∀ a, eR y' c' a ↔ eR y c a) (e : ∀ a, g a = f a) : s = s' := by
 have h1 := h.le h' fun a ha => ⟨(sub a).1 ha, e a⟩
 have h2 := h'.le h fun a ha => ⟨(sub a).2 ha, (e a).symm⟩
 have e1 : s.lo = s'.lo := by omega
 have e2 : s.hi = s'.hi := by omega
 cases s; cases s'
 cases e1; cases e2; rfl
structure n7 (y z : aq) : Prop where
  days : z.days = y.days
  bins : z.bins = y.bins
  moves : z.moves = y.moves
  less : ∀ a, eR z (fun _ => true) a → eR y (fun _ => true) a
theorem Eb : n7 y (g8 y l) := ⟨rfl, rfl, rfl, fun _ h => (tD.1 h).1⟩
variable {z : aq}
theorem n7.D (h : n7 y z) : z.D = y.D := by unfold aq.D; rw [h.days]
theorem n7.cont (h : n7 y z) : dK z a b t = dK y a b t := by unfold dK uI; rw [h.moves]
theorem n7.fits (h : n7 y z) (hy : y.cx) (hz : z.cx) (ha : eR z (nth bZ) a) : eR y (nth bZ) a := (iS hy).2 (h.less a ((iS hz).1 ha))
theorem Fp (h : n7 y z) (ho : cH y = 0) (hz : cH z = 0) (hb : b < y.bins.length) (ht : t ≤ y.D) : (nth (dZ y (b : Nat)) t).lo ≤ (nth (dZ z (b : Nat)) t).lo ∧ (nth (dZ z (b : Nat)) t).hi ≤ (nth (dZ y (b : Nat)) t).hi :=
 (kD ho hb ht).le (kD hz (by rw [h.bins]; exact hb) (by rw [h.D]; exact ht)) fun _ ha => ⟨h.fits (cR (dD ho)) (cR (dD hz)) ha, h.cont⟩
theorem E8 (h : n7 y z) (ho : cH y = 0) (hz : cH z = 0) (ht : t ≤ y.D) : (nth (gb y) t).lo ≤ (nth (gb z) t).lo ∧ (nth (gb z) t).hi ≤ (nth (gb y) t).hi :=
 (rN ho ht).le (rN hz (by rw [h.D]; exact ht)) fun _ ha => ⟨h.fits (cR (dD ho)) (cR (dD hz)) ha, by rw [h.bins]; exact eU fun _ _ => h.cont⟩
theorem Ff (h : n7 y z) (ho : cH y = 0) (hz : cH z = 0) (hk : k < y.moves.length) : (gC y (k : Nat)).lo ≤ (gC z (k : Nat)).lo ∧ (gC z (k : Nat)).hi ≤ (gC y (k : Nat)).hi :=
 (oJ ho hk).le (oJ hz (by rw [h.moves]; exact hk)) fun _ ha => ⟨h.fits (cR (dD ho)) (cR (dD hz)) ha, rfl⟩
theorem D6 (hl : l = ⟨t, b, nth (dZ y (b : Nat)) t⟩) (ho : cH y = 0) (hz : cH (g8 y l) = 0) (hb : b < y.bins.length) (ht : t ≤ y.D) : ∀ a, eR (g8 y l) (nth bZ) a ↔ eR y (nth bZ) a := fun a => by
 have hr := cR (dD ho)
 have hr2 := cR (dD hz)
 rw [iS hr2, iS hr, tD]
 refine ⟨fun h => h.1, fun h => ⟨h, ?_⟩⟩
 subst hl
 have := (kD ho hb ht).all a ((iS hr).2 h)
 show _ ≤ dK y a ((b : Nat) : Int).toNat ((t : Nat) : Int).toNat ∧ _
 rw [Int.toNat_natCast, Int.toNat_natCast]
 exact this
theorem E4 {i k : Nat} (hs : ∀ a, eR (g8 y l) (nth bZ) a ↔ eR y (nth bZ) a) (ho : cH y = 0) (hz : cH (g8 y l) = 0) (hb : k < y.bins.length) (ht : i ≤ y.D) : nth (dZ y (k : Nat)) i = nth (dZ (g8 y l) (k : Nat)) i :=
 (kD ho hb ht).MY (kD hz hb ht) hs fun _ => rfl
theorem GW {k : Nat} (hs : ∀ a, eR (g8 y l) (nth bZ) a ↔ eR y (nth bZ) a) (ho : cH y = 0) (hz : cH (g8 y l) = 0) (hb : k < y.bins.length) : dZ y (k : Nat) = dZ (g8 y l) (k : Nat) := by
 have h1 := kG ho hb
 have h2 := kG (b := k) hz hb
 refine sL (by rw [h1, h2]; rfl) fun i hi => ?_
 exact E4 hs ho hz hb (by omega)
theorem ET (hs : ∀ a, eR (g8 y l) (nth bZ) a ↔ eR y (nth bZ) a) (ho : cH y = 0) (hz : cH (g8 y l) = 0) : gb y = gb (g8 y l) := by
 have h1 := mj ho
 have h2 := mj hz
 refine sL (by rw [h1, h2]; rfl) fun i hi => ?_
 exact (rN ho (by omega)).MY (rN hz (by show i ≤ y.D; omega)) hs fun _ => rfl
theorem GX {n u v : Int} (hn : 0 ≤ n ∧ n ≤ 300) (hu : 0 ≤ u) (hv : 0 ≤ v) : (0 ≤ max 0 (n - u) ∧ min 300 (n + v) ≤ 300) ∧ max 0 (n - u) ≤ n ∧ n ≤ min 300 (n + v) ∧ max 0 (n - u) ≤ min 300 (n + v) := by omega
theorem o8 (hr : y.cx) (hf : eR y c a) (hb : b < y.bins.length) (ht : t ≤ y.D) : 0 ≤ dK y a b t ∧ dK y a b t ≤ 300 := by
 have h := hf.cont b t hb ht
 have hh := (hr.bin _ (dA hb)).1
 omega
theorem KS (ho : cH y = 0) (hk : k < y.moves.length) : (nth y.moves k).sacks.lo ≤ (gC y (k : Nat)).lo ∧ (gC y (k : Nat)).hi ≤ (nth y.moves k).sacks.hi := by
 have h := oJ ho hk
 obtain ⟨a1, f1, e1⟩ := h.lo
 obtain ⟨a2, f2, e2⟩ := h.hi
 have h1 := f1.cA k hk
 have h2 := f2.cA k hk
 omega
end
end Go.Proofs.YtelbollidfdcjaaGreat
namespace Go.Proofs.YtelbollidfdcjaaGreat
open Go Go.T
set_option maxHeartbeats 8000000
section
variable {y : aq} {b : Nat} {n w : Int} {p q : Span → Bool}
theorem GH (ho : cH y = 0) (hb : b < y.bins.length) : (!decide ((0 : Int) = 0) || !decide (((dZ y (b : Nat)).length : Int) = y.days + 1)) = false := by
 rw [kG ho hb]
 have := D_eq (cR (dD ho))
 simp; omega
end
attribute [local irreducible] Md.cJ Md.real dZ jc cH m8 j8
attribute [local irreducible] iP fT nJ qo jJ jK jE jM jG qi jI qn eG gx qg gm qj nth fM dm aj dz bodyPost Exit.then Exit.inBlock Code.wp Code.wpIn qm jL ql qd jH eJ cV cm bodyPostM eN
end Go.Proofs.YtelbollidfdcjaaGreat
namespace Go.Proofs.YtelbollidfdcjaaGreat
open Go Go.T
set_option maxHeartbeats 8000000
def bF (g : List Int) : Md := ⟨oV g, 4, 3, 7, 6⟩
theorem DX (g : List Int) : (bF g).Ok := ⟨by show (1 : Int) ≤ 4 ∧ (4 : Int) ≤ 5; omega, by show (1 : Int) ≤ 3 ∧ (3 : Int) ≤ 4; omega, by show (0 : Int) ≤ 7 ∧ (7 : Int) ≤ 10; omega, by show (0 : Int) ≤ 6 ∧ (6 : Int) ≤ 8; omega⟩
theorem Is (g : List Int) : eJ Tryz.prog 17 [1000] [(1000, Cont.cells 149 (dP (oV g)))] [Ty.ptr 1000 0, Ty.int .i64 4, Ty.int .i64 3, Ty.int .i64 7, Ty.int .i64 6] [(1000, Cont.cells 149 (dP (bF g).sk))] (Ty.jR [fE (bF g).cJ, p8 (bF g).real]) :=
 KO (bF g) (DX g) (by have := D4 g; exact ⟨this.1, by have := this.2; show (oV g).taken + 1000 ≤ _; omega⟩)
structure vE (y z : aq) (a : eV) : Prop where
  right : z.cx
  small : z.Small
  fits : eR z (fun _ => true) a
  opn : cH z = 0
  less : n7 y z
section
variable {y z : aq} {a : eV} {l : Level} {b t k i : Nat}
theorem DB (hr : y.cx) (hf : eR y (fun _ => true) a) (h7 : y.levels.length ≤ 7) (hl : Gg y l) (hc : l.sacks.lo ≤ dK y a l.bin.toNat l.day.toNat ∧ dK y a l.bin.toNat l.day.toNat ≤ l.sacks.hi) : vE y (g8 y l) a ∧ lq y l = 0 ∧ oN y l = g8 y l := by
 have h1 := vn hr h7 hl
 have h2 := tD.2 ⟨hf, hc⟩
 exact ⟨⟨h1, ⟨by have := h1.bins; omega, by have := h1.moves; omega, by have := h1.levels; omega⟩, h2, vX (pN h1) ⟨_, (iS h1).2 h2⟩, Eb⟩, JB hr h7 hl⟩
theorem Md.Kp {d : Md} (hd : d.Ok) : (d.cJ.levels.length : Int) ≤ d.levels := by
 rw [(d.lens hd).2.1, ← (d.Gm hd).2]
 have := cX (d.hs d.nb).2 (d.levels + 1)
 have := hd.levels
 unfold Md.LA; omega
theorem J2 {d : Md} (hd : d.Ok) : MA d.real := MP (v := false) hd
theorem Mo (ho : cH y = 0) (h : vE y z a) {q : Bool} (hq : q = true) : (((((!decide ((0 : Int) = 0) || !decide ((0 : Int) = 0)) || !decide ((0 : Int) = 0)) || !decide (((gb y).length : Int) = y.days + 1)) || !decide (((gb z).length : Int) = ((gb y).length : Int))) || !q) = false := by
 subst hq
 rw [mj ho, mj h.opn, h.less.D]
 have := D_eq (cR (dD ho))
 simp; omega
theorem Ml (ho : cH y = 0) (h : vE y z a) (ht : t ≤ y.D) : (decide ((nth (gb z) t).lo < (nth (gb y) t).lo) || decide ((nth (gb z) t).hi > (nth (gb y) t).hi)) = false := by
 have := E8 h.less ho h.opn ht
 rw [decide_eq_false (by omega), decide_eq_false (by omega)]; rfl
theorem Mq (ho : cH y = 0) (h : vE y z a) (hb : b < y.bins.length) {q : Bool} (hq : q = true) : ((((!decide ((0 : Int) = 0) || !decide ((0 : Int) = 0)) || !decide ((0 : Int) = 0)) || !decide (((dZ y (b : Nat)).length : Int) = ((dZ z (b : Nat)).length : Int))) || !q) = false := by
 subst hq
 rw [kG ho hb, kG h.opn (by rw [h.less.bins]; exact hb), h.less.D]
 simp
theorem Mr (ho : cH y = 0) (h : vE y z a) (hb : b < y.bins.length) (ht : t ≤ y.D) : ((decide ((nth (dZ z (b : Nat)) t).lo < (nth (dZ y (b : Nat)) t).lo) || decide ((nth (dZ z (b : Nat)) t).hi > (nth (dZ y (b : Nat)) t).hi)) || !nP (cB y a (b : Nat) (t : Nat)) (nth (dZ z (b : Nat)) t)) = false := by
 have h1 := Fp h.less ho h.opn hb ht
 have h2 := (kD h.opn (b := b) (t := t) (by rw [h.less.bins]; exact hb) (by rw [h.less.D]; exact ht)).all a ((iS h.right).2 h.fits)
 rw [h.less.cont] at h2
 rw [kF, decide_eq_false (by omega), decide_eq_false (by omega)]
 unfold nP; simp; exact h2
theorem Mp (ho : cH y = 0) (h : vE y z a) (hk : k < y.moves.length) : ((((((!decide ((0 : Int) = 0) || !decide ((0 : Int) = 0)) || decide ((gC z (k : Nat)).lo < (gC y (k : Nat)).lo)) || decide ((gC z (k : Nat)).hi > (gC y (k : Nat)).hi)) || !nP (nth a.cA k) (gC z (k : Nat))) || decide ((gC y (k : Nat)).lo < (nth y.moves k).sacks.lo)) || decide ((gC y (k : Nat)).hi > (nth y.moves k).sacks.hi)) = false := by
 have h1 := Ff h.less ho h.opn hk
 have h2 := (oJ h.opn (k := k) (by rw [h.less.moves]; exact hk)).all a ((iS h.right).2 h.fits)
 have h3 := KS ho hk
 have h2 : (gC z (k : Nat)).lo ≤ nth a.cA k ∧ nth a.cA k ≤ (gC z (k : Nat)).hi := h2
 have e1 : decide ((gC z (k : Nat)).lo < (gC y (k : Nat)).lo) = false := decide_eq_false (by omega)
 have e2 : decide ((gC z (k : Nat)).hi > (gC y (k : Nat)).hi) = false := decide_eq_false (by omega)
 have e3 : decide ((gC y (k : Nat)).lo < (nth y.moves k).sacks.lo) = false := decide_eq_false (by omega)
 have e4 : decide ((gC y (k : Nat)).hi > (nth y.moves k).sacks.hi) = false := decide_eq_false (by omega)
 have e5 : nP (nth a.cA k) (gC z (k : Nat)) = true := by unfold nP; simp; exact h2
 rw [e1, e2, e3, e4, e5]; rfl
end
attribute [local irreducible] Md.cJ Md.real dZ jc gb cH bF nZ cB nP gC j9
attribute [local irreducible] iP fT nJ qo jJ jK jE jM jG qi jI qn eG gx qg gm qj nth fM dm aj dz bodyPost Exit.then Exit.inBlock Code.wp Code.wpIn qm jL ql qd jH eJ cV cm bodyPostM eN
set_option maxRecDepth 100000 in
theorem AN (g : List Int) (u v w : Int) (hu : 0 ≤ u ∧ u ≤ 255) (hv : 0 ≤ v ∧ v ≤ 255) (hw : 0 ≤ w ∧ w ≤ 255) : dz Tryz.prog 8 [Ty.sl U8 g, Ty.int .u8 u, Ty.int .u8 v, Ty.int .u8 w] (Ty.bool true) := by
 refine bB Tryz.func8 rfl (by decide) Tryz.ntmps8 (by exact Nat.le_of_ble_eq_true rfl) fun w0 M0 => ?_
 have hd := DX g
 have hyr := (bF g).right hd
 have hf := (bF g).fits hd (fun _ => true)
 have ho := vX (pN hyr) ⟨_, (bF g).fits hd _⟩
 have hyb := hyr.bins
 have hym := hyr.moves
 have hyl := hyr.levels
 have hyd := hyr.days
 have hs : (bF g).cJ.Small := ⟨by omega, by omega, by omega⟩
 have hD := D_eq hyr
 have hds : (bF g).s = oV g := by unfold bF; rfl
 have h6 : (bF g).cJ.levels.length ≤ 7 := by have h := Md.Kp hd; have e : (bF g).levels = 6 := (by unfold bF; rfl); omega
 have hab : MA (bF g).real := J2 hd
 have ha : IY (bF g).cJ (bF g).real := ⟨by have := hf.lens.cA; omega, hab.nx, hab.first, hab.cA⟩
 have hfl := hf.lens.first
 have hml := hf.lens.cA
 refine aE (aA (dr rfl (aD (aC (aE (aA (fK rfl ?_)))))))
 refine b9 [(40, 10)] [40] [(40, Cont.cells 149 (dP (oV g)))] (J7 g) rfl rfl (by repeat (first | exact bH | refine aH ?_ ?_ | exact aR rfl rfl)) pre_nil (bI (a := 40) (b := 10) (by exact List.mem_cons_self) rfl (bM (by exact List.mem_cons_self) rfl rfl rfl) post_nil) (dx (by exact List.mem_cons_self)) ?_
 refine b9 (res' := Ty.jR [fE (bF g).cJ, p8 (bF g).real]) [(40, 1000)] [] [(40, Cont.cells 149 (dP (bF g).sk))] (Is g) rfl rfl (by repeat (first | exact bH | refine aH ?_ ?_ | exact dx List.mem_cons_self | exact aR rfl rfl)) (cC (a := 40) (b := 1000) (by exact List.mem_cons_self) rfl (bM (by exact List.mem_cons_self) rfl rfl rfl) pre_nil) (bI (a := 40) (b := 1000) (by exact List.mem_cons_self) rfl (bM (by exact List.mem_cons_self) rfl rfl rfl) post_nil) (aR rfl rfl) ?_
 refine ny rfl (bD rfl rfl (bD rfl rfl ?_))
 refine bw rfl (by exact List.cons_ne_nil _ _) rfl ?_
 refine bw rfl (by exact List.cons_ne_nil _ _) rfl ?_
 refine bk rfl rfl (by decide) rfl rfl rfl rfl rfl rfl ?_
 refine bk rfl rfl (by decide) rfl rfl rfl rfl rfl rfl ?_
 refine aD (aC (aE ?_))
 refine dO (B := live [(1, Ty.int .u8 u), (2, Ty.int .u8 v), (3, Ty.int .u8 w), (9, Ty.ptr 10 0), (10, Ty.ptr 11 0)] [(10, Cont.cells 27 (bO (bF g).cJ)), (11, Cont.cells 30 (eK (bF g).real))]) ?_ ?_
 ·refine dG.mk' ?_ ?_
  ·(repeat (first | refine aB ?_ (Ty.aX _) | refine aB ?_ (Ty.aF _))); exact aJ
  refine aG rfl (Cont.dM ⟨Ty.aF _, Ty.aF _, Ty.aF _, Ty.aF _, trivial⟩) ?_; refine aG rfl (Cont.dM ⟨Ty.aF _, Ty.aF _, trivial⟩) ?_; exact aI
 refine cQ mixed rfl (bR rfl (qW rfl rfl rfl rfl ?_))
 refine aO rfl rfl rfl rfl rfl (by decide) ?_
 refine aU rfl rfl (by decide) rfl rfl rfl ?_
 refine ct rfl rfl rfl ?_
 refine xX rfl rfl (by omega) ?_
 refine bR rfl (qW rfl rfl rfl rfl ?_)
 refine aO rfl rfl rfl rfl rfl (by decide) ?_
 refine aU rfl rfl (by decide) rfl rfl rfl ?_
 refine cD rfl rfl (by omega) (by omega) ?_
 refine xX rfl rfl (by omega) ?_
 refine cE rfl (cE rfl (aD ?_))
 refine ⟨by kernel_rfl, ?_⟩
 refine aC (aE ?_)
 have hbm := q7 (a := u) (b := ((bF g).cJ.bins.length : Int)) hu.1 (by omega)
 obtain ⟨b, eb, hb⟩ : ∃ b : Nat, u.tmod ((bF g).cJ.bins.length : Int) = b ∧ b < (bF g).cJ.bins.length := ⟨(u.tmod ((bF g).cJ.bins.length : Int)).toNat, by omega, by omega⟩
 have htm := q7 (a := v) (b := (bF g).cJ.days + 1) hv.1 (by omega)
 obtain ⟨t, et, ht⟩ : ∃ t : Nat, v.tmod ((bF g).cJ.days + 1) = t ∧ t ≤ (bF g).cJ.D := ⟨(v.tmod ((bF g).cJ.days + 1)).toNat, by omega, by omega⟩
 have eu : IntKind.i64.wrap u = u := IntWalk.i64_in _ (by omega)
 have ev : IntKind.i64.wrap v = v := IntWalk.i64_in _ (by omega)
 have ew : IntKind.i64.wrap w = w := IntWalk.i64_in _ (by omega)
 refine fq (s := 11) rfl (Ty.af (b := ((b : Nat) : Int)) (by (rw [eu]; exact eb))) ?_
 refine fq (s := 12) rfl (Ty.af (b := ((t : Nat) : Int)) (by (rw [ev]; exact et))) ?_
 refine dO (B := live [(3, Ty.int .u8 w), (9, Ty.ptr 10 0), (10, Ty.ptr 11 0), (11, Ty.int .i64 ((b : Nat) : Int)), (12, Ty.int .i64 ((t : Nat) : Int))] [(10, Cont.cells 27 (bO (bF g).cJ)), (11, Cont.cells 30 (eK (bF g).real))]) ?_ ?_
 ·refine dG.mk' ?_ ?_
  ·(repeat (first | refine aB ?_ (Ty.aX _) | refine aB ?_ (Ty.aF _))); exact aJ
  refine aG rfl (Cont.dM ⟨Ty.aF _, Ty.aF _, Ty.aF _, Ty.aF _, trivial⟩) ?_; refine aG rfl (Cont.dM ⟨Ty.aF _, Ty.aF _, trivial⟩) ?_; exact aI
 refine aA ?_
 refine bL rfl rfl (by decide) rfl rfl (by exact Nat.le_of_ble_eq_true rfl) ?_
 refine bL rfl rfl (by decide) rfl rfl (by exact Nat.le_of_ble_eq_true rfl) ?_
 refine bR rfl (bR rfl ?_)
 refine ah (gB (bF g).cJ (bF g).real ha ((b : Nat) : Int) ((t : Nat) : Int) (Int.natCast_nonneg _) (by omega)) rfl rfl rfl rfl rfl ?_
 refine cE rfl (aD (aC (aE ?_)))
 have hcn := o8 hyr hf hb ht
 rw [← kF] at hcn
 have hbl0 := kG ho hb
 refine aA ?_
 refine bL rfl rfl (by decide) rfl rfl (by exact Nat.le_of_ble_eq_true rfl) ?_
 refine bR rfl ?_
 refine ah (mR (bF g).cJ hs ((b : Nat) : Int)) rfl rfl rfl rfl rfl ?_
 refine ny rfl (bD rfl rfl (bD rfl rfl (wq rfl (cE rfl (aD (aC (aE (aE ?_))))))))
 refine fq (s := 15) rfl (Ty.af (ou ho hb)) ?_
 refine aA (bR rfl (bC rfl rfl rfl (fu rfl ?_)))
 apply aL (s := 68) rfl rfl rfl
 ·intro hg; apply aP; (refine fK rfl ?_); refine aD ?_; exact rfl
 ·exact rfl
 ·exact rfl
 apply aL (s := 68) rfl rfl rfl
 ·intro hg; apply aK (s := 69) rfl (by (rw [hg]; rfl)); apply aP; (refine ct rfl rfl rfl ?_); refine aD ?_; exact rfl
 ·exact rfl
 ·exact rfl
 apply aL (s := 68) rfl rfl rfl
 ·intro hg; apply aP; (refine aO rfl rfl rfl rfl rfl (by decide) ?_); refine aD ?_; exact rfl
 ·exact rfl
 ·exact rfl
 apply aL (s := 68) rfl rfl rfl
 ·intro hg; apply aK (s := 71) rfl (by (rw [hg]; rfl)); apply aP; (refine aU rfl rfl (by decide) rfl rfl rfl ?_); refine aD ?_; exact rfl
 ·exact rfl
 ·exact rfl
 apply aL (s := 68) rfl rfl rfl
 ·intro hg; apply aK (s := 72) rfl (by (rw [hg]; rfl)); apply aP; (refine cD rfl rfl (by omega) (by omega) ?_); refine aD ?_; exact rfl
 ·exact rfl
 ·exact rfl
 apply aL (s := 68) rfl rfl rfl
 ·intro hg; apply aK (s := 70) rfl (by (rw [hg]; rfl)); apply aK (s := 73) rfl (by (rw [hg]; rfl)); apply aP; (refine bC rfl rfl rfl ?_); refine aD ?_; exact rfl
 ·exact rfl
 ·exact rfl
 refine iQ rfl rfl (aD (aC (fZ rfl (GH ho hb) (ak (aC (aE ?_))))))
 have hw1 := q7 (a := w) (b := 7) hw.1 (by omega)
 have hw2 : w.tdiv 7 = w / 7 := Int.tdiv_eq_ediv_of_nonneg hw.1
 have hw3 := q7 (a := w.tdiv 7) (b := 7) (by omega) (by omega)
 have eL : max 0 (IntKind.i64.wrap (cB (bF g).cJ (bF g).real ((b : Nat) : Int) ((t : Nat) : Int) - (IntKind.i64.wrap w).tmod 7)) = max 0 (cB (bF g).cJ (bF g).real ((b : Nat) : Int) ((t : Nat) : Int) - w.tmod 7) := by rw [ew, IntWalk.i64_in _ (by omega)]
 have eH : min 300 (IntKind.i64.wrap (cB (bF g).cJ (bF g).real ((b : Nat) : Int) ((t : Nat) : Int) + (IntKind.i64.wrap ((IntKind.i64.wrap w).tdiv 7)).tmod 7)) = min 300 (cB (bF g).cJ (bF g).real ((b : Nat) : Int) ((t : Nat) : Int) + (w.tdiv 7).tmod 7) := by rw [ew, IntWalk.i64_in (w.tdiv 7) (by omega), IntWalk.i64_in _ (by omega)]
 have hnr : (0 ≤ max 0 (IntKind.i64.wrap (cB (bF g).cJ (bF g).real ((b : Nat) : Int) ((t : Nat) : Int) - (IntKind.i64.wrap w).tmod 7)) ∧ min 300 (IntKind.i64.wrap (cB (bF g).cJ (bF g).real ((b : Nat) : Int) ((t : Nat) : Int) + (IntKind.i64.wrap ((IntKind.i64.wrap w).tdiv 7)).tmod 7)) ≤ 300) ∧ max 0 (IntKind.i64.wrap (cB (bF g).cJ (bF g).real ((b : Nat) : Int) ((t : Nat) : Int) - (IntKind.i64.wrap w).tmod 7)) ≤ cB (bF g).cJ (bF g).real ((b : Nat) : Int) ((t : Nat) : Int) ∧ cB (bF g).cJ (bF g).real ((b : Nat) : Int) ((t : Nat) : Int) ≤ min 300 (IntKind.i64.wrap (cB (bF g).cJ (bF g).real ((b : Nat) : Int) ((t : Nat) : Int) + (IntKind.i64.wrap ((IntKind.i64.wrap w).tdiv 7)).tmod 7)) ∧ max 0 (IntKind.i64.wrap (cB (bF g).cJ (bF g).real ((b : Nat) : Int) ((t : Nat) : Int) - (IntKind.i64.wrap w).tmod 7)) ≤ min 300 (IntKind.i64.wrap (cB (bF g).cJ (bF g).real ((b : Nat) : Int) ((t : Nat) : Int) + (IntKind.i64.wrap ((IntKind.i64.wrap w).tdiv 7)).tmod 7)) := by rw [eL, eH]; exact GX hcn hw1.1 hw3.1
 obtain ⟨Z1, eZ1⟩ : ∃ z, z = g8 (bF g).cJ (⟨t, b, ⟨max 0 (IntKind.i64.wrap (cB (bF g).cJ (bF g).real ((b : Nat) : Int) ((t : Nat) : Int) - (IntKind.i64.wrap w).tmod 7)), min 300 (IntKind.i64.wrap (cB (bF g).cJ (bF g).real ((b : Nat) : Int) ((t : Nat) : Int) + (IntKind.i64.wrap ((IntKind.i64.wrap w).tdiv 7)).tmod 7))⟩⟩ : Level) := ⟨_, rfl⟩
 have hq1 := DB hyr hf h6 (l := (⟨t, b, ⟨max 0 (IntKind.i64.wrap (cB (bF g).cJ (bF g).real ((b : Nat) : Int) ((t : Nat) : Int) - (IntKind.i64.wrap w).tmod 7)), min 300 (IntKind.i64.wrap (cB (bF g).cJ (bF g).real ((b : Nat) : Int) ((t : Nat) : Int) + (IntKind.i64.wrap ((IntKind.i64.wrap w).tdiv 7)).tmod 7))⟩⟩ : Level)) ⟨by show (0 : Int) ≤ (t : Nat) ∧ ((t : Nat) : Int) ≤ _; omega, by show (0 : Int) ≤ (b : Nat) ∧ ((b : Nat) : Int) < _; omega, hnr.1, hnr.2.2.2⟩ (by rw [show ((⟨t, b, ⟨max 0 (IntKind.i64.wrap (cB (bF g).cJ (bF g).real ((b : Nat) : Int) ((t : Nat) : Int) - (IntKind.i64.wrap w).tmod 7)), min 300 (IntKind.i64.wrap (cB (bF g).cJ (bF g).real ((b : Nat) : Int) ((t : Nat) : Int) + (IntKind.i64.wrap ((IntKind.i64.wrap w).tdiv 7)).tmod 7))⟩⟩ : Level)).bin.toNat = b from Int.toNat_natCast _, show ((⟨t, b, ⟨max 0 (IntKind.i64.wrap (cB (bF g).cJ (bF g).real ((b : Nat) : Int) ((t : Nat) : Int) - (IntKind.i64.wrap w).tmod 7)), min 300 (IntKind.i64.wrap (cB (bF g).cJ (bF g).real ((b : Nat) : Int) ((t : Nat) : Int) + (IntKind.i64.wrap ((IntKind.i64.wrap w).tdiv 7)).tmod 7))⟩⟩ : Level)).day.toNat = t from Int.toNat_natCast _, ← kF]; exact ⟨hnr.2.1, hnr.2.2.1⟩)
 have kM1 := yH (bF g).cJ hs (⟨t, b, ⟨max 0 (IntKind.i64.wrap (cB (bF g).cJ (bF g).real ((b : Nat) : Int) ((t : Nat) : Int) - (IntKind.i64.wrap w).tmod 7)), min 300 (IntKind.i64.wrap (cB (bF g).cJ (bF g).real ((b : Nat) : Int) ((t : Nat) : Int) + (IntKind.i64.wrap ((IntKind.i64.wrap w).tdiv 7)).tmod 7))⟩⟩ : Level)
 rw [hq1.2.1, hq1.2.2] at kM1
 have hz1 := hq1.1
 rw [← eZ1] at hz1 kM1
 clear hq1 eZ1
 have hbi := kD ho hb ht
 have hbn : (0 ≤ (nth (dZ (bF g).cJ (b : Nat)) t).lo ∧ (nth (dZ (bF g).cJ (b : Nat)) t).hi ≤ 300) ∧ (nth (dZ (bF g).cJ (b : Nat)) t).lo ≤ (nth (dZ (bF g).cJ (b : Nat)) t).hi := by
  have := Hy ho hb ht
  have h2 := hbi.all (bF g).real ((iS hyr).2 hf)
  omega
 obtain ⟨Z2, eZ2⟩ : ∃ z, z = g8 (bF g).cJ (⟨t, b, nth (dZ (bF g).cJ (b : Nat)) t⟩ : Level) := ⟨_, rfl⟩
 have hq2 := DB hyr hf h6 (l := (⟨t, b, nth (dZ (bF g).cJ (b : Nat)) t⟩ : Level)) ⟨by show (0 : Int) ≤ (t : Nat) ∧ ((t : Nat) : Int) ≤ _; omega, by show (0 : Int) ≤ (b : Nat) ∧ ((b : Nat) : Int) < _; omega, hbn.1, hbn.2⟩ (by rw [show ((⟨t, b, nth (dZ (bF g).cJ (b : Nat)) t⟩ : Level)).bin.toNat = b from Int.toNat_natCast _, show ((⟨t, b, nth (dZ (bF g).cJ (b : Nat)) t⟩ : Level)).day.toNat = t from Int.toNat_natCast _]; exact hbi.all (bF g).real ((iS hyr).2 hf))
 have kM2 := yH (bF g).cJ hs (⟨t, b, nth (dZ (bF g).cJ (b : Nat)) t⟩ : Level)
 rw [hq2.2.1, hq2.2.2] at kM2
 have hkn := D6 rfl ho hq2.1.opn hb ht
 have hkw := ET hkn ho hq2.1.opn
 have hkb : ∀ k : Nat, k < (bF g).cJ.bins.length → dZ (bF g).cJ (k : Nat) = dZ (g8 (bF g).cJ (⟨t, b, nth (dZ (bF g).cJ (b : Nat)) t⟩ : Level)) (k : Nat) := fun k hk => GW hkn ho hq2.1.opn hk
 have hz2 := hq2.1
 rw [← eZ2] at hz2 kM2 hkw hkb
 clear hq2 eZ2 hkn
 refine cQ mixed rfl ?_
 refine bL rfl rfl (by decide) rfl rfl (by exact Nat.le_of_ble_eq_true rfl) ?_
 refine bR rfl (bR rfl (bR rfl (bR rfl (qW rfl rfl rfl rfl ?_))))
 refine xX rfl rfl (by omega) ?_
 refine bC rfl rfl rfl (rj rfl rfl (bR rfl (bR rfl (qW rfl rfl rfl rfl ?_))))
 refine JQ rfl rfl (by omega) ?_
 refine xX rfl rfl (by omega) ?_
 refine bC rfl rfl rfl (rR rfl rfl (ah (iN _ _) rfl rfl rfl rfl rfl ?_))
 refine c6 rfl rfl (by exact List.cons_ne_nil _ _) rfl (by repeat (first | exact (aW.nil : aW _ _ [] _) | (show aW _ _ ((_, _) :: _) _; apply aW.one; (· exact (rfl : _ = Ty.int _ _)); (· exact rfl)) | (show aW _ _ ((_, _) :: _) _; apply aW.agg; (· exact (rfl : _ = Ty.agg _))))) (by exact (rfl : _ = some [_, _, _, _])) ?_
 refine b9 (res' := Ty.jR [Ty.agg (wE 721 722 723 Z1), Ty.int .i64 0]) [(721, 21), (722, 22), (723, 23)] [721, 722, 723] (xN 721 722 723 Z1) kM1 rfl rfl (by repeat (first | exact bH | refine aH ?_ ?_ | exact aR rfl rfl)) pre_nil (bI (a := 721) (b := 21) (by decide) rfl (bV (by decide) rfl) (bI (a := 722) (b := 22) (by decide) rfl (bV (by decide) rfl) (bI (a := 723) (b := 23) (by decide) rfl (bV (by decide) rfl) post_nil))) (tJ (aH (aH bH (aR rfl rfl)) (oE (aH (aH (aH (aH bH (dV (by decide))) (dV (by decide))) (dV (by decide))) (aR rfl rfl))))) ?_
 refine ny rfl (bD rfl rfl (bD rfl rfl ?_))
 refine bw rfl (by exact List.cons_ne_nil _ _) rfl ?_
 refine bk rfl rfl (by decide) rfl rfl rfl rfl rfl rfl ?_
 refine cE rfl (aD ?_)
 refine ⟨by kernel_rfl, ?_⟩
 refine aC (aE ?_)
 refine dO (B := live [(9, Ty.ptr 10 0), (10, Ty.ptr 11 0), (11, Ty.int .i64 ((b : Nat) : Int)), (12, Ty.int .i64 ((t : Nat) : Int)), (13, Ty.int .i64 (cB (bF g).cJ (bF g).real (b : Nat) (t : Nat))), (14, Ty.sl dL (dZ (bF g).cJ (b : Nat))), (15, Ty.int .i64 0), (16, Ty.ptr 17 0)] [(10, Cont.cells 27 (bO (bF g).cJ)), (11, Cont.cells 30 (eK (bF g).real)), (17, Cont.cells 27 [Ty.int .i64 (Z1).days, Ty.vs 721 (Z1).bins.length, Ty.vs 722 (Z1).moves.length, Ty.vs 723 (Z1).levels.length]), (721, Cont.vec dY 39 (Z1).bins), (722, Cont.vec cy 41 (Z1).moves), (723, Cont.vec dF 102 (Z1).levels)]) ?_ ?_
 ·refine dG.mk' ?_ ?_
  ·(repeat (first | refine aB ?_ (Ty.aX _) | refine aB ?_ (Ty.aF _))); exact aJ
  refine aG rfl (Cont.aF _) ?_; refine aG rfl (Cont.aF _) ?_; refine aG rfl (Cont.aF _) ?_; refine aG rfl (Cont.aF _) ?_; refine aG rfl (Cont.aF _) ?_; refine aG rfl (Cont.aF _) ?_; exact aI
 refine ig (tg := 721) [] [(17, Cont.cells 27 [Ty.int .i64 (Z1).days, Ty.sl dY (Z1).bins, Ty.vs 722 (Z1).moves.length, Ty.vs 723 (Z1).levels.length])] (by decide) rfl trivial ⟨eW rfl rfl ⟨bS rfl, gk rfl rfl (by decide), bS rfl, bS rfl, trivial⟩, trivial⟩ ?_
 refine dO (B := live [(9, Ty.ptr 10 0), (10, Ty.ptr 11 0), (11, Ty.int .i64 ((b : Nat) : Int)), (12, Ty.int .i64 ((t : Nat) : Int)), (13, Ty.int .i64 (cB (bF g).cJ (bF g).real (b : Nat) (t : Nat))), (14, Ty.sl dL (dZ (bF g).cJ (b : Nat))), (15, Ty.int .i64 0), (16, Ty.ptr 17 0)] [(10, Cont.cells 27 (bO (bF g).cJ)), (11, Cont.cells 30 (eK (bF g).real)), (17, Cont.cells 27 [Ty.int .i64 (Z1).days, Ty.sl dY (Z1).bins, Ty.vs 722 (Z1).moves.length, Ty.vs 723 (Z1).levels.length]), (722, Cont.vec cy 41 (Z1).moves), (723, Cont.vec dF 102 (Z1).levels)]) ?_ ?_
 ·refine dG.mk' ?_ ?_
  ·(repeat (first | refine aB ?_ (Ty.aX _) | refine aB ?_ (Ty.aF _))); exact aJ
  refine aG rfl (Cont.aF _) ?_; refine aG rfl (Cont.aF _) ?_; refine aG rfl (Cont.aF _) ?_; refine aG rfl (Cont.aF _) ?_; refine aG rfl (Cont.aF _) ?_; exact aI
 refine ig (tg := 722) [] [(17, Cont.cells 27 [Ty.int .i64 (Z1).days, Ty.sl dY (Z1).bins, Ty.sl cy (Z1).moves, Ty.vs 723 (Z1).levels.length])] (by decide) rfl trivial ⟨eW rfl rfl ⟨bS rfl, bS rfl, gk rfl rfl (by decide), bS rfl, trivial⟩, trivial⟩ ?_
 refine dO (B := live [(9, Ty.ptr 10 0), (10, Ty.ptr 11 0), (11, Ty.int .i64 ((b : Nat) : Int)), (12, Ty.int .i64 ((t : Nat) : Int)), (13, Ty.int .i64 (cB (bF g).cJ (bF g).real (b : Nat) (t : Nat))), (14, Ty.sl dL (dZ (bF g).cJ (b : Nat))), (15, Ty.int .i64 0), (16, Ty.ptr 17 0)] [(10, Cont.cells 27 (bO (bF g).cJ)), (11, Cont.cells 30 (eK (bF g).real)), (17, Cont.cells 27 [Ty.int .i64 (Z1).days, Ty.sl dY (Z1).bins, Ty.sl cy (Z1).moves, Ty.vs 723 (Z1).levels.length]), (723, Cont.vec dF 102 (Z1).levels)]) ?_ ?_
 ·refine dG.mk' ?_ ?_
  ·(repeat (first | refine aB ?_ (Ty.aX _) | refine aB ?_ (Ty.aF _))); exact aJ
  refine aG rfl (Cont.aF _) ?_; refine aG rfl (Cont.aF _) ?_; refine aG rfl (Cont.aF _) ?_; refine aG rfl (Cont.aF _) ?_; exact aI
 refine ig (tg := 723) [] [(17, Cont.cells 27 [Ty.int .i64 (Z1).days, Ty.sl dY (Z1).bins, Ty.sl cy (Z1).moves, Ty.sl dF (Z1).levels])] (by decide) rfl trivial ⟨eW rfl rfl ⟨bS rfl, bS rfl, bS rfl, gk rfl rfl (by decide), trivial⟩, trivial⟩ ?_
 refine gI (tg := 17) rfl (Cont.dM (l' := bO Z1) ⟨Ty.aF _, Ty.aF _, Ty.aF _, Ty.aF _, trivial⟩) ?_
 refine dO (B := live [(9, Ty.ptr 10 0), (10, Ty.ptr 11 0), (11, Ty.int .i64 ((b : Nat) : Int)), (12, Ty.int .i64 ((t : Nat) : Int)), (13, Ty.int .i64 (cB (bF g).cJ (bF g).real (b : Nat) (t : Nat))), (14, Ty.sl dL (dZ (bF g).cJ (b : Nat))), (15, Ty.int .i64 0), (16, Ty.ptr 17 0)] [(10, Cont.cells 27 (bO (bF g).cJ)), (11, Cont.cells 30 (eK (bF g).real)), (17, Cont.cells 27 (bO Z1))]) ?_ ?_
 ·refine dG.mk' ?_ ?_
  ·(repeat (first | refine aB ?_ (Ty.aX _) | refine aB ?_ (Ty.aF _))); exact aJ
  refine aG rfl (Cont.aF _) ?_; refine aG rfl (Cont.aF _) ?_; refine aG rfl (Cont.aF _) ?_; exact aI
 refine cQ mixed rfl ?_
 refine bL rfl rfl (by decide) rfl rfl (by exact Nat.le_of_ble_eq_true rfl) ?_
 refine bR rfl (bR rfl (fK rfl (bR rfl ?_)))
 refine bK rfl rfl rfl rfl rfl rfl (by omega) ?_
 refine aZ rfl rfl rfl (by exact Nat.le_of_ble_eq_true rfl) ?_
 refine c6 rfl rfl (by exact List.cons_ne_nil _ _) rfl (by repeat (first | exact (aW.nil : aW _ _ [] _) | (show aW _ _ ((_, _) :: _) _; apply aW.one; (· exact (rfl : _ = Ty.int _ _)); (· exact rfl)) | (show aW _ _ ((_, _) :: _) _; apply aW.agg; (· exact (rfl : _ = Ty.agg _))))) (by exact (rfl : _ = some [_, _, _, _])) ?_
 refine b9 (res' := Ty.jR [Ty.agg (wE 821 822 823 Z2), Ty.int .i64 0]) [(821, 21), (822, 22), (823, 23)] [821, 822, 823] (xN 821 822 823 Z2) kM2 rfl rfl (by repeat (first | exact bH | refine aH ?_ ?_ | exact aR rfl rfl)) pre_nil (bI (a := 821) (b := 21) (by decide) rfl (bV (by decide) rfl) (bI (a := 822) (b := 22) (by decide) rfl (bV (by decide) rfl) (bI (a := 823) (b := 23) (by decide) rfl (bV (by decide) rfl) post_nil))) (tJ (aH (aH bH (aR rfl rfl)) (oE (aH (aH (aH (aH bH (dV (by decide))) (dV (by decide))) (dV (by decide))) (aR rfl rfl))))) ?_
 refine ny rfl (bD rfl rfl (bD rfl rfl ?_))
 refine bw rfl (by exact List.cons_ne_nil _ _) rfl ?_
 refine bk rfl rfl (by decide) rfl rfl rfl rfl rfl rfl ?_
 refine cE rfl (aD ?_)
 refine ⟨by kernel_rfl, ?_⟩
 refine aC (aE (aE ?_))
 refine dO (B := live [(9, Ty.ptr 10 0), (10, Ty.ptr 11 0), (15, Ty.int .i64 0), (16, Ty.ptr 17 0), (17, Ty.ptr 18 0), (18, Ty.int .i64 0)] [(10, Cont.cells 27 (bO (bF g).cJ)), (11, Cont.cells 30 (eK (bF g).real)), (17, Cont.cells 27 (bO Z1)), (18, Cont.cells 27 [Ty.int .i64 (Z2).days, Ty.vs 821 (Z2).bins.length, Ty.vs 822 (Z2).moves.length, Ty.vs 823 (Z2).levels.length]), (821, Cont.vec dY 39 (Z2).bins), (822, Cont.vec cy 41 (Z2).moves), (823, Cont.vec dF 102 (Z2).levels)]) ?_ ?_
 ·refine dG.mk' ?_ ?_
  ·(repeat (first | refine aB ?_ (Ty.aX _) | refine aB ?_ (Ty.aF _))); exact aJ
  refine aG rfl (Cont.aF _) ?_; refine aG rfl (Cont.aF _) ?_; refine aG rfl (Cont.aF _) ?_; refine aG rfl (Cont.aF _) ?_; refine aG rfl (Cont.aF _) ?_; refine aG rfl (Cont.aF _) ?_; refine aG rfl (Cont.aF _) ?_; exact aI
 refine ig (tg := 821) [] [(18, Cont.cells 27 [Ty.int .i64 (Z2).days, Ty.sl dY (Z2).bins, Ty.vs 822 (Z2).moves.length, Ty.vs 823 (Z2).levels.length])] (by decide) rfl trivial ⟨eW rfl rfl ⟨bS rfl, gk rfl rfl (by decide), bS rfl, bS rfl, trivial⟩, trivial⟩ ?_
 refine dO (B := live [(9, Ty.ptr 10 0), (10, Ty.ptr 11 0), (15, Ty.int .i64 0), (16, Ty.ptr 17 0), (17, Ty.ptr 18 0), (18, Ty.int .i64 0)] [(10, Cont.cells 27 (bO (bF g).cJ)), (11, Cont.cells 30 (eK (bF g).real)), (17, Cont.cells 27 (bO Z1)), (18, Cont.cells 27 [Ty.int .i64 (Z2).days, Ty.sl dY (Z2).bins, Ty.vs 822 (Z2).moves.length, Ty.vs 823 (Z2).levels.length]), (822, Cont.vec cy 41 (Z2).moves), (823, Cont.vec dF 102 (Z2).levels)]) ?_ ?_
 ·refine dG.mk' ?_ ?_
  ·(repeat (first | refine aB ?_ (Ty.aX _) | refine aB ?_ (Ty.aF _))); exact aJ
  refine aG rfl (Cont.aF _) ?_; refine aG rfl (Cont.aF _) ?_; refine aG rfl (Cont.aF _) ?_; refine aG rfl (Cont.aF _) ?_; refine aG rfl (Cont.aF _) ?_; refine aG rfl (Cont.aF _) ?_; exact aI
 refine ig (tg := 822) [] [(18, Cont.cells 27 [Ty.int .i64 (Z2).days, Ty.sl dY (Z2).bins, Ty.sl cy (Z2).moves, Ty.vs 823 (Z2).levels.length])] (by decide) rfl trivial ⟨eW rfl rfl ⟨bS rfl, bS rfl, gk rfl rfl (by decide), bS rfl, trivial⟩, trivial⟩ ?_
 refine dO (B := live [(9, Ty.ptr 10 0), (10, Ty.ptr 11 0), (15, Ty.int .i64 0), (16, Ty.ptr 17 0), (17, Ty.ptr 18 0), (18, Ty.int .i64 0)] [(10, Cont.cells 27 (bO (bF g).cJ)), (11, Cont.cells 30 (eK (bF g).real)), (17, Cont.cells 27 (bO Z1)), (18, Cont.cells 27 [Ty.int .i64 (Z2).days, Ty.sl dY (Z2).bins, Ty.sl cy (Z2).moves, Ty.vs 823 (Z2).levels.length]), (823, Cont.vec dF 102 (Z2).levels)]) ?_ ?_
 ·refine dG.mk' ?_ ?_
  ·(repeat (first | refine aB ?_ (Ty.aX _) | refine aB ?_ (Ty.aF _))); exact aJ
  refine aG rfl (Cont.aF _) ?_; refine aG rfl (Cont.aF _) ?_; refine aG rfl (Cont.aF _) ?_; refine aG rfl (Cont.aF _) ?_; refine aG rfl (Cont.aF _) ?_; exact aI
 refine ig (tg := 823) [] [(18, Cont.cells 27 [Ty.int .i64 (Z2).days, Ty.sl dY (Z2).bins, Ty.sl cy (Z2).moves, Ty.sl dF (Z2).levels])] (by decide) rfl trivial ⟨eW rfl rfl ⟨bS rfl, bS rfl, bS rfl, gk rfl rfl (by decide), trivial⟩, trivial⟩ ?_
 refine gI (tg := 18) rfl (Cont.dM (l' := bO Z2) ⟨Ty.aF _, Ty.aF _, Ty.aF _, Ty.aF _, trivial⟩) ?_
 refine dO (B := live [(9, Ty.ptr 10 0), (10, Ty.ptr 11 0), (15, Ty.int .i64 0), (16, Ty.ptr 17 0), (17, Ty.ptr 18 0), (18, Ty.int .i64 0)] [(10, Cont.cells 27 (bO (bF g).cJ)), (11, Cont.cells 30 (eK (bF g).real)), (17, Cont.cells 27 (bO Z1)), (18, Cont.cells 27 (bO Z2))]) ?_ ?_
 ·refine dG.mk' ?_ ?_
  ·(repeat (first | refine aB ?_ (Ty.aX _) | refine aB ?_ (Ty.aF _))); exact aJ
  refine aG rfl (Cont.aF _) ?_; refine aG rfl (Cont.aF _) ?_; refine aG rfl (Cont.aF _) ?_; refine aG rfl (Cont.aF _) ?_; exact aI
 have hb1 : Z1.bins.length = (bF g).cJ.bins.length := congrArg List.length hz1.less.bins
 have hb2 : Z2.bins.length = (bF g).cJ.bins.length := congrArg List.length hz2.less.bins
 have hm1 : Z1.moves.length = (bF g).cJ.moves.length := congrArg List.length hz1.less.moves
 refine aA (bR rfl (bC rfl rfl rfl (fu rfl ?_)))
 apply aL (s := 112) rfl rfl rfl
 ·intro hg; apply aP; (refine bR rfl ?_); refine aD ?_; exact rfl
 ·exact rfl
 ·exact rfl
 apply aL (s := 112) rfl rfl rfl
 ·intro hg; apply aK (s := 113) rfl (by (rw [hg]; rfl)); apply aP; (refine bC rfl rfl rfl ?_); refine aD ?_; exact rfl
 ·exact rfl
 ·exact rfl
 refine iQ rfl rfl (fu rfl ?_)
 apply aL (s := 116) rfl rfl rfl
 ·intro hg; apply aP; (refine bL rfl rfl (by decide) rfl rfl (by exact Nat.le_of_ble_eq_true rfl) ?_); refine aD ?_; exact rfl
 ·exact rfl
 ·exact rfl
 apply aL (s := 116) rfl rfl rfl
 ·intro hg; apply aP; (refine bL rfl rfl (by decide) rfl rfl (by exact Nat.le_of_ble_eq_true rfl) ?_); refine aD ?_; exact rfl
 ·exact rfl
 ·exact rfl
 apply aL (s := 116) rfl rfl rfl
 ·intro hg; apply aK (s := 117) rfl (by (rw [hg]; rfl)); apply aK (s := 118) rfl (by (rw [hg]; rfl)); apply aP; (refine ah (E9 Z1 (bF g).real hz1.right hab) rfl rfl rfl rfl rfl ?_); refine aD ?_; exact rfl
 ·exact rfl
 ·exact rfl
 apply aL (s := 116) rfl rfl rfl
 ·intro hg; apply aK (s := 119) rfl (by (rw [hg]; rfl)); apply aP; (refine dh rfl ?_); refine aD ?_; exact rfl
 ·exact rfl
 ·exact rfl
 refine iQ rfl rfl (fu rfl ?_)
 apply aL (s := 122) rfl rfl rfl
 ·intro hg; apply aP; (refine bL rfl rfl (by decide) rfl rfl (by exact Nat.le_of_ble_eq_true rfl) ?_); refine aD ?_; exact rfl
 ·exact rfl
 ·exact rfl
 apply aL (s := 122) rfl rfl rfl
 ·intro hg; apply aP; (refine bL rfl rfl (by decide) rfl rfl (by exact Nat.le_of_ble_eq_true rfl) ?_); refine aD ?_; exact rfl
 ·exact rfl
 ·exact rfl
 apply aL (s := 122) rfl rfl rfl
 ·intro hg; apply aK (s := 123) rfl (by (rw [hg]; rfl)); apply aK (s := 124) rfl (by (rw [hg]; rfl)); apply aP; (refine ah (E9 Z2 (bF g).real hz2.right hab) rfl rfl rfl rfl rfl ?_); refine aD ?_; exact rfl
 ·exact rfl
 ·exact rfl
 apply aL (s := 122) rfl rfl rfl
 ·intro hg; apply aK (s := 125) rfl (by (rw [hg]; rfl)); apply aP; (refine dh rfl ?_); refine aD ?_; exact rfl
 ·exact rfl
 ·exact rfl
 refine iQ rfl rfl (aD (aC ?_))
 refine fZ rfl (by rw [sE hz1.fits, sE hz2.fits]; rfl) ?_
 refine ak (aC (aE (aA ?_)))
 refine bL rfl rfl (by decide) rfl rfl (by exact Nat.le_of_ble_eq_true rfl) ?_
 refine ah (um (bF g).cJ hs) rfl rfl rfl rfl rfl (ny rfl (bD rfl rfl (bD rfl rfl (wq rfl (cE rfl (aD (aC (aE ?_))))))))
 refine fq (s := 15) rfl (Ty.af ho) ?_
 refine aA ?_
 refine bL rfl rfl (by decide) rfl rfl (by exact Nat.le_of_ble_eq_true rfl) ?_
 refine ah (um Z1 hz1.small) rfl rfl rfl rfl rfl (ny rfl (bD rfl rfl (bD rfl rfl (wq rfl (cE rfl (aD (aC (aE ?_))))))))
 refine fq (s := 18) rfl (Ty.af hz1.opn) ?_
 refine aA ?_
 refine bL rfl rfl (by decide) rfl rfl (by exact Nat.le_of_ble_eq_true rfl) ?_
 refine ah (um Z2 hz2.small) rfl rfl rfl rfl rfl (ny rfl (bD rfl rfl (bD rfl rfl (wq rfl (cE rfl (aD (aC (aE (aE ?_)))))))))
 refine fq (s := 22) rfl (Ty.af hz2.opn) ?_
 refine aA (bR rfl (bC rfl rfl rfl (fu rfl ?_)))
 apply aL (s := 145) rfl rfl rfl
 ·intro hg; apply aP; (refine bR rfl ?_); refine aD ?_; exact rfl
 ·exact rfl
 ·exact rfl
 apply aL (s := 145) rfl rfl rfl
 ·intro hg; apply aK (s := 146) rfl (by (rw [hg]; rfl)); apply aP; (refine bC rfl rfl rfl ?_); refine aD ?_; exact rfl
 ·exact rfl
 ·exact rfl
 refine iQ rfl rfl (fu rfl ?_)
 apply aL (s := 149) rfl rfl rfl
 ·intro hg; apply aP; (refine bR rfl ?_); refine aD ?_; exact rfl
 ·exact rfl
 ·exact rfl
 apply aL (s := 149) rfl rfl rfl
 ·intro hg; apply aK (s := 150) rfl (by (rw [hg]; rfl)); apply aP; (refine bC rfl rfl rfl ?_); refine aD ?_; exact rfl
 ·exact rfl
 ·exact rfl
 refine iQ rfl rfl (fu rfl ?_)
 apply aL (s := 153) rfl rfl rfl
 ·intro hg; apply aP; (refine fK rfl ?_); refine aD ?_; exact rfl
 ·exact rfl
 ·exact rfl
 apply aL (s := 153) rfl rfl rfl
 ·intro hg; apply aK (s := 154) rfl (by (rw [hg]; rfl)); apply aP; (refine ct rfl rfl rfl ?_); refine aD ?_; exact rfl
 ·exact rfl
 ·exact rfl
 apply aL (s := 153) rfl rfl rfl
 ·intro hg; apply aP; (refine aO rfl rfl rfl rfl rfl (by decide) ?_); refine aD ?_; exact rfl
 ·exact rfl
 ·exact rfl
 apply aL (s := 153) rfl rfl rfl
 ·intro hg; apply aK (s := 156) rfl (by (rw [hg]; rfl)); apply aP; (refine aU rfl rfl (by decide) rfl rfl rfl ?_); refine aD ?_; exact rfl
 ·exact rfl
 ·exact rfl
 apply aL (s := 153) rfl rfl rfl
 ·intro hg; apply aK (s := 157) rfl (by (rw [hg]; rfl)); apply aP; (refine cD rfl rfl (by omega) (by omega) ?_); refine aD ?_; exact rfl
 ·exact rfl
 ·exact rfl
 apply aL (s := 153) rfl rfl rfl
 ·intro hg; apply aK (s := 155) rfl (by (rw [hg]; rfl)); apply aK (s := 158) rfl (by (rw [hg]; rfl)); apply aP; (refine bC rfl rfl rfl ?_); refine aD ?_; exact rfl
 ·exact rfl
 ·exact rfl
 refine iQ rfl rfl (fu rfl ?_)
 apply aL (s := 161) rfl rfl rfl
 ·intro hg; apply aP; (refine fK rfl ?_); refine aD ?_; exact rfl
 ·exact rfl
 ·exact rfl
 apply aL (s := 161) rfl rfl rfl
 ·intro hg; apply aK (s := 162) rfl (by (rw [hg]; rfl)); apply aP; (refine ct rfl rfl rfl ?_); refine aD ?_; exact rfl
 ·exact rfl
 ·exact rfl
 apply aL (s := 161) rfl rfl rfl
 ·intro hg; apply aP; (refine fK rfl ?_); refine aD ?_; exact rfl
 ·exact rfl
 ·exact rfl
 apply aL (s := 161) rfl rfl rfl
 ·intro hg; apply aK (s := 164) rfl (by (rw [hg]; rfl)); apply aP; (refine ct rfl rfl rfl ?_); refine aD ?_; exact rfl
 ·exact rfl
 ·exact rfl
 apply aL (s := 161) rfl rfl rfl
 ·intro hg; apply aK (s := 163) rfl (by (rw [hg]; rfl)); apply aK (s := 165) rfl (by (rw [hg]; rfl)); apply aP; (refine bC rfl rfl rfl ?_); refine aD ?_; exact rfl
 ·exact rfl
 ·exact rfl
 refine iQ rfl rfl (fu rfl ?_)
 apply aL (s := 168) rfl rfl rfl
 ·intro hg; apply aP; (refine fK rfl ?_); refine aD ?_; exact rfl
 ·exact rfl
 ·exact rfl
 apply aL (s := 168) rfl rfl rfl
 ·intro hg; apply aP; (refine fK rfl ?_); refine aD ?_; exact rfl
 ·exact rfl
 ·exact rfl
 apply aL (s := 168) rfl rfl rfl
 ·intro hg; apply aK (s := 169) rfl (by (rw [hg]; rfl)); apply aK (s := 170) rfl (by (rw [hg]; rfl)); apply aP; (refine ah (qx _ _) rfl rfl rfl rfl rfl ?_); refine aD ?_; exact rfl
 ·exact rfl
 ·exact rfl
 apply aL (s := 168) rfl rfl rfl
 ·intro hg; apply aK (s := 171) rfl (by (rw [hg]; rfl)); apply aP; (refine dh rfl ?_); refine aD ?_; exact rfl
 ·exact rfl
 ·exact rfl
 refine iQ rfl rfl (aD (aC ?_))
 refine fZ rfl (Mo ho hz1 (by rw [← hkw]; simp)) ?_
 refine ak (aC (aE (aE ?_)))
 refine dO (B := live [(9, Ty.ptr 10 0), (10, Ty.ptr 11 0), (16, Ty.ptr 17 0), (17, Ty.ptr 18 0), (19, Ty.sl dL (gb (bF g).cJ)), (20, Ty.sl dL (gb Z1))] [(10, Cont.cells 27 (bO (bF g).cJ)), (11, Cont.cells 30 (eK (bF g).real)), (17, Cont.cells 27 (bO Z1)), (18, Cont.cells 27 (bO Z2))]) ?_ ?_
 ·refine dG.mk' ?_ ?_
  ·(repeat (first | refine aB ?_ (Ty.aX _) | refine aB ?_ (Ty.aF _))); exact aJ
  refine aG rfl (Cont.aF _) ?_; refine aG rfl (Cont.aF _) ?_; refine aG rfl (Cont.aF _) ?_; refine aG rfl (Cont.aF _) ?_; exact aI
 have hwl := mj ho
 have hwl1 : (gb Z1).length = (bF g).cJ.D + 1 := by rw [mj hz1.opn, hz1.less.D]
 refine aA (fK rfl (ct rfl rfl rfl (bR rfl (aD (aC (au ?_))))))
 refine cZ (fun (i : {i : Nat // i ≤ (gb (bF g).cJ).length}) => live [(9, Ty.ptr 10 0), (10, Ty.ptr 11 0), (16, Ty.ptr 17 0), (17, Ty.ptr 18 0), (19, Ty.sl dL (gb (bF g).cJ)), (20, Ty.sl dL (gb Z1)), (175, Ty.int .i64 (gb (bF g).cJ).length), (176, Ty.int .i64 (i.1 : Nat))] [(10, Cont.cells 27 (bO (bF g).cJ)), (11, Cont.cells 30 (eK (bF g).real)), (17, Cont.cells 27 (bO Z1)), (18, Cont.cells 27 (bO Z2))]) (fun i => (gb (bF g).cJ).length - i.1) (⟨0, by omega⟩) ?_ fun i => ?_
 ·(refine dG.mk' ?_ ?_ <;> (repeat' (first | exact aJ | exact aI | refine aB ?_ (Ty.aX _) | refine aB ?_ (Ty.aF _) | refine aG rfl (Cont.aF _) ?_)))
  all_goals trace_state
 have hi := i.2
 refine aE (aA (bC rfl rfl rfl (aD (aC (aE ?_)))))
 refine av rfl (fun hc4 => ?_) (fun hc4 => ?_)
 ·
  refine ak (aC (aE (au (aE (aA (bR rfl (cE rfl (aD (aC ?_)))))))))
  refine aE (cQ mixed rfl (fK rfl (bR rfl ?_)))
  refine bK rfl rfl rfl rfl rfl rfl (by omega) ?_
  refine aQ rfl rfl rfl rfl rfl (by decide) ?_
  refine aN rfl rfl rfl rfl (fK rfl (bR rfl ?_))
  refine bK rfl rfl rfl rfl rfl rfl (by omega) ?_
  refine aQ rfl rfl rfl rfl rfl (by decide) ?_
  refine aN rfl rfl rfl rfl (bC rfl rfl rfl (fu rfl ?_))
  apply aL (s := 190) rfl rfl rfl
  ·intro hg; apply aP; (refine fK rfl ?_); refine aD ?_; exact rfl
  ·exact rfl
  ·exact rfl
  apply aL (s := 190) rfl rfl rfl
  ·intro hg; apply aP; (refine bR rfl ?_); refine aD ?_; exact rfl
  ·exact rfl
  ·exact rfl
  apply aL (s := 190) rfl rfl rfl
  ·intro hg; apply aK (s := 191) rfl (by (rw [hg]; rfl)); apply aK (s := 192) rfl (by (rw [hg]; rfl)); apply aP; (refine bK rfl rfl rfl rfl rfl rfl (by omega) ?_); refine aD ?_; exact rfl
  ·exact rfl
  ·exact rfl
  apply aL (s := 190) rfl rfl rfl
  ·intro hg; apply aK (s := 193) rfl (by (rw [hg]; rfl)); apply aP; (refine aQ rfl rfl rfl rfl rfl (by decide) ?_); refine aD ?_; exact rfl
  ·exact rfl
  ·exact rfl
  apply aL (s := 190) rfl rfl rfl
  ·intro hg; apply aK (s := 194) rfl (by (rw [hg]; rfl)); apply aP; (refine aN rfl rfl rfl rfl ?_); refine aD ?_; exact rfl
  ·exact rfl
  ·exact rfl
  apply aL (s := 190) rfl rfl rfl
  ·intro hg; apply aP; (refine fK rfl ?_); refine aD ?_; exact rfl
  ·exact rfl
  ·exact rfl
  apply aL (s := 190) rfl rfl rfl
  ·intro hg; apply aP; (refine bR rfl ?_); refine aD ?_; exact rfl
  ·exact rfl
  ·exact rfl
  apply aL (s := 190) rfl rfl rfl
  ·intro hg; apply aK (s := 196) rfl (by (rw [hg]; rfl)); apply aK (s := 197) rfl (by (rw [hg]; rfl)); apply aP; (refine bK rfl rfl rfl rfl rfl rfl (by omega) ?_); refine aD ?_; exact rfl
  ·exact rfl
  ·exact rfl
  apply aL (s := 190) rfl rfl rfl
  ·intro hg; apply aK (s := 198) rfl (by (rw [hg]; rfl)); apply aP; (refine aQ rfl rfl rfl rfl rfl (by decide) ?_); refine aD ?_; exact rfl
  ·exact rfl
  ·exact rfl
  apply aL (s := 190) rfl rfl rfl
  ·intro hg; apply aK (s := 199) rfl (by (rw [hg]; rfl)); apply aP; (refine aN rfl rfl rfl rfl ?_); refine aD ?_; exact rfl
  ·exact rfl
  ·exact rfl
  apply aL (s := 190) rfl rfl rfl
  ·intro hg; apply aK (s := 195) rfl (by (rw [hg]; rfl)); apply aK (s := 200) rfl (by (rw [hg]; rfl)); apply aP; (refine bC rfl rfl rfl ?_); refine aD ?_; exact rfl
  ·exact rfl
  ·exact rfl
  refine iQ rfl rfl (aD ?_)
  refine ⟨by kernel_rfl, ?_⟩
  refine aC ?_
  refine fZ rfl (Ml ho hz1 (by omega)) ?_
  refine ak (bf (aC (aA ?_)))
  refine cD rfl rfl (by omega) (by omega) ?_
  refine bR rfl (aD ?_)
  refine bp (⟨i.1 + 1, by omega⟩) ?_ (by show (gb (bF g).cJ).length - (i.1 + 1) < (gb (bF g).cJ).length - i.1; omega)
  (refine dG.mk' ?_ ?_ <;> (repeat' (first | exact aJ | exact aI | refine aB ?_ (Ty.aX _) | refine aB ?_ (Ty.aF _) | refine aG rfl (Cont.aF _) ?_)))
  all_goals skip
  all_goals trace_state
 refine cg (aT (aT (bA rfl (aC (aE (aE ?_))))))
 refine dO (B := live [(9, Ty.ptr 10 0), (10, Ty.ptr 11 0), (16, Ty.ptr 17 0), (17, Ty.ptr 18 0)] [(10, Cont.cells 27 (bO (bF g).cJ)), (11, Cont.cells 30 (eK (bF g).real)), (17, Cont.cells 27 (bO Z1)), (18, Cont.cells 27 (bO Z2))]) ?_ ?_
 ·refine dG.mk' ?_ ?_
  ·(repeat (first | refine aB ?_ (Ty.aX _) | refine aB ?_ (Ty.aF _))); exact aJ
  refine aG rfl (Cont.aF _) ?_; refine aG rfl (Cont.aF _) ?_; refine aG rfl (Cont.aF _) ?_; refine aG rfl (Cont.aF _) ?_; exact aI
 refine aA ?_
 refine aO rfl rfl rfl rfl rfl (by decide) ?_
 refine aU rfl rfl (by decide) rfl rfl rfl ?_
 refine ct rfl rfl rfl (bR rfl (aD (aC (au ?_))))
 refine cZ (fun (k : {k : Nat // k ≤ (bF g).cJ.bins.length}) => live [(9, Ty.ptr 10 0), (10, Ty.ptr 11 0), (16, Ty.ptr 17 0), (17, Ty.ptr 18 0), (206, Ty.int .i64 (bF g).cJ.bins.length), (207, Ty.int .i64 (k.1 : Nat))] [(10, Cont.cells 27 (bO (bF g).cJ)), (11, Cont.cells 30 (eK (bF g).real)), (17, Cont.cells 27 (bO Z1)), (18, Cont.cells 27 (bO Z2))]) (fun k => (bF g).cJ.bins.length - k.1) (⟨0, by omega⟩) ?_ fun k => ?_
 ·(refine dG.mk' ?_ ?_ <;> (repeat' (first | exact aJ | exact aI | refine aB ?_ (Ty.aX _) | refine aB ?_ (Ty.aF _) | refine aG rfl (Cont.aF _) ?_)))
  all_goals trace_state
 have hk := k.2
 refine aE (aA (bC rfl rfl rfl (aD (aC (aE ?_)))))
 refine av rfl (fun hc6 => ?_) (fun hc6 => ?_)
 ·
  refine ak (aC (aE (au (aE (aA (bR rfl (cE rfl (aD (aC ?_)))))))))
  refine aE ?_
  have hk2 : k.1 < (bF g).cJ.bins.length := by omega
  refine aA ?_
  refine bL rfl rfl (by decide) rfl rfl (by exact Nat.le_of_ble_eq_true rfl) ?_
  refine bR rfl ?_
  refine ah (mR (bF g).cJ hs ((k.1 : Nat) : Int)) rfl rfl rfl rfl rfl ?_
  refine ny rfl (bD rfl rfl (bD rfl rfl (wq rfl (cE rfl (aD (aC (aE ?_)))))))
  refine fq (s := 26) rfl (Ty.af (ou ho hk2)) ?_
  refine aA ?_
  refine bL rfl rfl (by decide) rfl rfl (by exact Nat.le_of_ble_eq_true rfl) ?_
  refine bR rfl ?_
  refine ah (mR Z1 hz1.small ((k.1 : Nat) : Int)) rfl rfl rfl rfl rfl ?_
  refine ny rfl (bD rfl rfl (bD rfl rfl (wq rfl (cE rfl (aD (aC (aE ?_)))))))
  refine fq (s := 28) rfl (Ty.af (ou hz1.opn (by omega))) ?_
  refine aA ?_
  refine bL rfl rfl (by decide) rfl rfl (by exact Nat.le_of_ble_eq_true rfl) ?_
  refine bR rfl ?_
  refine ah (mR Z2 hz2.small ((k.1 : Nat) : Int)) rfl rfl rfl rfl rfl ?_
  refine ny rfl (bD rfl rfl (bD rfl rfl (wq rfl (cE rfl (aD (aC (aE (aE ?_))))))))
  refine fq (s := 30) rfl (Ty.af (ou hz2.opn (by omega))) ?_
  refine aA (bR rfl (bC rfl rfl rfl (fu rfl ?_)))
  apply aL (s := 230) rfl rfl rfl
  ·intro hg; apply aP; (refine bR rfl ?_); refine aD ?_; exact rfl
  ·exact rfl
  ·exact rfl
  apply aL (s := 230) rfl rfl rfl
  ·intro hg; apply aK (s := 231) rfl (by (rw [hg]; rfl)); apply aP; (refine bC rfl rfl rfl ?_); refine aD ?_; exact rfl
  ·exact rfl
  ·exact rfl
  refine iQ rfl rfl (fu rfl ?_)
  apply aL (s := 234) rfl rfl rfl
  ·intro hg; apply aP; (refine bR rfl ?_); refine aD ?_; exact rfl
  ·exact rfl
  ·exact rfl
  apply aL (s := 234) rfl rfl rfl
  ·intro hg; apply aK (s := 235) rfl (by (rw [hg]; rfl)); apply aP; (refine bC rfl rfl rfl ?_); refine aD ?_; exact rfl
  ·exact rfl
  ·exact rfl
  refine iQ rfl rfl (fu rfl ?_)
  apply aL (s := 238) rfl rfl rfl
  ·intro hg; apply aP; (refine fK rfl ?_); refine aD ?_; exact rfl
  ·exact rfl
  ·exact rfl
  apply aL (s := 238) rfl rfl rfl
  ·intro hg; apply aK (s := 239) rfl (by (rw [hg]; rfl)); apply aP; (refine ct rfl rfl rfl ?_); refine aD ?_; exact rfl
  ·exact rfl
  ·exact rfl
  apply aL (s := 238) rfl rfl rfl
  ·intro hg; apply aP; (refine fK rfl ?_); refine aD ?_; exact rfl
  ·exact rfl
  ·exact rfl
  apply aL (s := 238) rfl rfl rfl
  ·intro hg; apply aK (s := 241) rfl (by (rw [hg]; rfl)); apply aP; (refine ct rfl rfl rfl ?_); refine aD ?_; exact rfl
  ·exact rfl
  ·exact rfl
  apply aL (s := 238) rfl rfl rfl
  ·intro hg; apply aK (s := 240) rfl (by (rw [hg]; rfl)); apply aK (s := 242) rfl (by (rw [hg]; rfl)); apply aP; (refine bC rfl rfl rfl ?_); refine aD ?_; exact rfl
  ·exact rfl
  ·exact rfl
  refine iQ rfl rfl (fu rfl ?_)
  apply aL (s := 245) rfl rfl rfl
  ·intro hg; apply aP; (refine fK rfl ?_); refine aD ?_; exact rfl
  ·exact rfl
  ·exact rfl
  apply aL (s := 245) rfl rfl rfl
  ·intro hg; apply aP; (refine fK rfl ?_); refine aD ?_; exact rfl
  ·exact rfl
  ·exact rfl
  apply aL (s := 245) rfl rfl rfl
  ·intro hg; apply aK (s := 246) rfl (by (rw [hg]; rfl)); apply aK (s := 247) rfl (by (rw [hg]; rfl)); apply aP; (refine ah (qx _ _) rfl rfl rfl rfl rfl ?_); refine aD ?_; exact rfl
  ·exact rfl
  ·exact rfl
  apply aL (s := 245) rfl rfl rfl
  ·intro hg; apply aK (s := 248) rfl (by (rw [hg]; rfl)); apply aP; (refine dh rfl ?_); refine aD ?_; exact rfl
  ·exact rfl
  ·exact rfl
  refine iQ rfl rfl (aD (aC ?_))
  refine fZ rfl (Mq ho hz1 hk2 (by rw [← hkb _ hk2]; simp)) ?_
  refine ak (aC (aE (aA (fK rfl (ct rfl rfl rfl (bR rfl (aD (aC (au ?_)))))))))
  refine cZ (fun (i : {i : Nat // i ≤ (dZ (bF g).cJ ((k.1 : Nat) : Int)).length}) => live [(9, Ty.ptr 10 0), (10, Ty.ptr 11 0), (16, Ty.ptr 17 0), (17, Ty.ptr 18 0), (24, Ty.int .i64 (k.1 : Nat)), (25, Ty.sl dL (dZ (bF g).cJ ((k.1 : Nat) : Int))), (27, Ty.sl dL (dZ Z1 ((k.1 : Nat) : Int))), (206, Ty.int .i64 (bF g).cJ.bins.length), (207, Ty.int .i64 (k.1 : Nat)), (252, Ty.int .i64 (dZ (bF g).cJ ((k.1 : Nat) : Int)).length), (253, Ty.int .i64 (i.1 : Nat))] [(10, Cont.cells 27 (bO (bF g).cJ)), (11, Cont.cells 30 (eK (bF g).real)), (17, Cont.cells 27 (bO Z1)), (18, Cont.cells 27 (bO Z2))]) (fun i => (dZ (bF g).cJ ((k.1 : Nat) : Int)).length - i.1) (⟨0, by omega⟩) ?_ fun i => ?_
  ·(refine dG.mk' ?_ ?_ <;> (repeat' (first | exact aJ | exact aI | refine aB ?_ (Ty.aX _) | refine aB ?_ (Ty.aF _) | refine aG rfl (Cont.aF _) ?_)))
   all_goals trace_state
  have hi := i.2
  have hbl := kG ho hk2
  have hbl1 : (dZ Z1 ((k.1 : Nat) : Int)).length = (bF g).cJ.D + 1 := by rw [kG hz1.opn (by omega), hz1.less.D]
  refine aE (aA (bC rfl rfl rfl (aD (aC (aE ?_)))))
  refine av rfl (fun hc8 => ?_) (fun hc8 => ?_)
  ·
   refine ak (aC (aE (au (aE (aA (bR rfl (cE rfl (aD (aC ?_)))))))))
   refine aE (cQ mixed rfl (fK rfl (bR rfl ?_)))
   refine bK rfl rfl rfl rfl rfl rfl (by omega) ?_
   refine aQ rfl rfl rfl rfl rfl (by decide) ?_
   refine aN rfl rfl rfl rfl (fK rfl (bR rfl ?_))
   refine bK rfl rfl rfl rfl rfl rfl (by omega) ?_
   refine aQ rfl rfl rfl rfl rfl (by decide) ?_
   refine aN rfl rfl rfl rfl (bC rfl rfl rfl (fu rfl ?_))
   apply aL (s := 267) rfl rfl rfl
   ·intro hg; apply aP; (refine fK rfl ?_); refine aD ?_; exact rfl
   ·exact rfl
   ·exact rfl
   apply aL (s := 267) rfl rfl rfl
   ·intro hg; apply aP; (refine bR rfl ?_); refine aD ?_; exact rfl
   ·exact rfl
   ·exact rfl
   apply aL (s := 267) rfl rfl rfl
   ·intro hg; apply aK (s := 268) rfl (by (rw [hg]; rfl)); apply aK (s := 269) rfl (by (rw [hg]; rfl)); apply aP; (refine bK rfl rfl rfl rfl rfl rfl (by omega) ?_); refine aD ?_; exact rfl
   ·exact rfl
   ·exact rfl
   apply aL (s := 267) rfl rfl rfl
   ·intro hg; apply aK (s := 270) rfl (by (rw [hg]; rfl)); apply aP; (refine aQ rfl rfl rfl rfl rfl (by decide) ?_); refine aD ?_; exact rfl
   ·exact rfl
   ·exact rfl
   apply aL (s := 267) rfl rfl rfl
   ·intro hg; apply aK (s := 271) rfl (by (rw [hg]; rfl)); apply aP; (refine aN rfl rfl rfl rfl ?_); refine aD ?_; exact rfl
   ·exact rfl
   ·exact rfl
   apply aL (s := 267) rfl rfl rfl
   ·intro hg; apply aP; (refine fK rfl ?_); refine aD ?_; exact rfl
   ·exact rfl
   ·exact rfl
   apply aL (s := 267) rfl rfl rfl
   ·intro hg; apply aP; (refine bR rfl ?_); refine aD ?_; exact rfl
   ·exact rfl
   ·exact rfl
   apply aL (s := 267) rfl rfl rfl
   ·intro hg; apply aK (s := 273) rfl (by (rw [hg]; rfl)); apply aK (s := 274) rfl (by (rw [hg]; rfl)); apply aP; (refine bK rfl rfl rfl rfl rfl rfl (by omega) ?_); refine aD ?_; exact rfl
   ·exact rfl
   ·exact rfl
   apply aL (s := 267) rfl rfl rfl
   ·intro hg; apply aK (s := 275) rfl (by (rw [hg]; rfl)); apply aP; (refine aQ rfl rfl rfl rfl rfl (by decide) ?_); refine aD ?_; exact rfl
   ·exact rfl
   ·exact rfl
   apply aL (s := 267) rfl rfl rfl
   ·intro hg; apply aK (s := 276) rfl (by (rw [hg]; rfl)); apply aP; (refine aN rfl rfl rfl rfl ?_); refine aD ?_; exact rfl
   ·exact rfl
   ·exact rfl
   apply aL (s := 267) rfl rfl rfl
   ·intro hg; apply aK (s := 272) rfl (by (rw [hg]; rfl)); apply aK (s := 277) rfl (by (rw [hg]; rfl)); apply aP; (refine bC rfl rfl rfl ?_); refine aD ?_; exact rfl
   ·exact rfl
   ·exact rfl
   refine iQ rfl rfl (fu rfl ?_)
   apply aL (s := 280) rfl rfl rfl
   ·intro hg; apply aP; (refine bL rfl rfl (by decide) rfl rfl (by exact Nat.le_of_ble_eq_true rfl) ?_); refine aD ?_; exact rfl
   ·exact rfl
   ·exact rfl
   apply aL (s := 280) rfl rfl rfl
   ·intro hg; apply aP; (refine bL rfl rfl (by decide) rfl rfl (by exact Nat.le_of_ble_eq_true rfl) ?_); refine aD ?_; exact rfl
   ·exact rfl
   ·exact rfl
   apply aL (s := 280) rfl rfl rfl
   ·intro hg; apply aP; (refine bR rfl ?_); refine aD ?_; exact rfl
   ·exact rfl
   ·exact rfl
   apply aL (s := 280) rfl rfl rfl
   ·intro hg; apply aP; (refine bR rfl ?_); refine aD ?_; exact rfl
   ·exact rfl
   ·exact rfl
   apply aL (s := 280) rfl rfl rfl
   ·intro hg; apply aK (s := 281) rfl (by (rw [hg]; rfl)); apply aK (s := 282) rfl (by (rw [hg]; rfl)); apply aK (s := 283) rfl (by (rw [hg]; rfl)); apply aK (s := 284) rfl (by (rw [hg]; rfl)); apply aP; (refine ah (gB (bF g).cJ (bF g).real ha ((k.1 : Nat) : Int) ((i.1 : Nat) : Int) (Int.natCast_nonneg _) (by omega)) rfl rfl rfl rfl rfl ?_); refine aD ?_; exact rfl
   ·exact rfl
   ·exact rfl
   apply aL (s := 280) rfl rfl rfl
   ·intro hg; apply aP; (refine fK rfl ?_); refine aD ?_; exact rfl
   ·exact rfl
   ·exact rfl
   apply aL (s := 280) rfl rfl rfl
   ·intro hg; apply aP; (refine bR rfl ?_); refine aD ?_; exact rfl
   ·exact rfl
   ·exact rfl
   apply aL (s := 280) rfl rfl rfl
   ·intro hg; apply aK (s := 286) rfl (by (rw [hg]; rfl)); apply aK (s := 287) rfl (by (rw [hg]; rfl)); apply aP; (refine bK rfl rfl rfl rfl rfl rfl (by omega) ?_); refine aD ?_; exact rfl
   ·exact rfl
   ·exact rfl
   apply aL (s := 280) rfl rfl rfl
   ·intro hg; apply aK (s := 288) rfl (by (rw [hg]; rfl)); apply aP; (refine aZ rfl rfl rfl (by exact Nat.le_of_ble_eq_true rfl) ?_); refine aD ?_; exact rfl
   ·exact rfl
   ·exact rfl
   apply aL (s := 280) rfl rfl rfl
   ·intro hg; apply aK (s := 285) rfl (by (rw [hg]; rfl)); apply aK (s := 289) rfl (by (rw [hg]; rfl)); apply aP; (refine ah (mM _ _) rfl rfl rfl rfl rfl ?_); refine aD ?_; exact rfl
   ·exact rfl
   ·exact rfl
   apply aL (s := 280) rfl rfl rfl
   ·intro hg; apply aK (s := 290) rfl (by (rw [hg]; rfl)); apply aP; (refine dh rfl ?_); refine aD ?_; exact rfl
   ·exact rfl
   ·exact rfl
   refine iQ rfl rfl (aD ?_)
   refine ⟨by kernel_rfl, ?_⟩
   refine aC ?_
   refine fZ rfl (Mr ho hz1 hk2 (by omega)) ?_
   refine ak (bf (aC (aA ?_)))
   refine cD rfl rfl (by omega) (by omega) ?_
   refine bR rfl (aD ?_)
   refine bp (⟨i.1 + 1, by omega⟩) ?_ (by show (dZ (bF g).cJ ((k.1 : Nat) : Int)).length - (i.1 + 1) < (dZ (bF g).cJ ((k.1 : Nat) : Int)).length - i.1; omega)
   (refine dG.mk' ?_ ?_ <;> (repeat' (first | exact aJ | exact aI | refine aB ?_ (Ty.aX _) | refine aB ?_ (Ty.aF _) | refine aG rfl (Cont.aF _) ?_)))
   all_goals skip
   all_goals trace_state
  refine cg (aT (aT (bA rfl (bf (aC (aA ?_))))))
  refine cD rfl rfl (by omega) (by omega) ?_
  refine bR rfl (aD ?_)
  refine bp (⟨k.1 + 1, by omega⟩) ?_ (by show (bF g).cJ.bins.length - (k.1 + 1) < (bF g).cJ.bins.length - k.1; omega)
  (refine dG.mk' ?_ ?_ <;> (repeat' (first | exact aJ | exact aI | refine aB ?_ (Ty.aX _) | refine aB ?_ (Ty.aF _) | refine aG rfl (Cont.aF _) ?_)))
  all_goals skip
  all_goals trace_state
 refine cg (aT (aT (bA rfl (aC (aE (aE (aA ?_)))))))
 refine aO rfl rfl rfl rfl rfl (by decide) ?_
 refine aU rfl rfl (by decide) rfl rfl rfl ?_
 refine ct rfl rfl rfl (bR rfl (aD (aC (au ?_))))
 refine cZ (fun (m : {m : Nat // m ≤ (bF g).cJ.moves.length}) => live [(9, Ty.ptr 10 0), (10, Ty.ptr 11 0), (16, Ty.ptr 17 0), (17, Ty.ptr 18 0), (297, Ty.int .i64 (bF g).cJ.moves.length), (298, Ty.int .i64 (m.1 : Nat))] [(10, Cont.cells 27 (bO (bF g).cJ)), (11, Cont.cells 30 (eK (bF g).real)), (17, Cont.cells 27 (bO Z1)), (18, Cont.cells 27 (bO Z2))]) (fun m => (bF g).cJ.moves.length - m.1) (⟨0, by omega⟩) ?_ fun m => ?_
 ·(refine dG.mk' ?_ ?_ <;> (repeat' (first | exact aJ | exact aI | refine aB ?_ (Ty.aX _) | refine aB ?_ (Ty.aF _) | refine aG rfl (Cont.aF _) ?_)))
  all_goals trace_state
 have hm := m.2
 refine aE (aA (bC rfl rfl rfl (aD (aC (aE ?_)))))
 refine av rfl (fun hc10 => ?_) (fun hc10 => ?_)
 ·
  refine ak (aC (aE (au (aE (aA (bR rfl (cE rfl (aD (aC ?_)))))))))
  refine aE ?_
  have hm2 : m.1 < (bF g).cJ.moves.length := by omega
  refine aA ?_
  refine bL rfl rfl (by decide) rfl rfl (by exact Nat.le_of_ble_eq_true rfl) ?_
  refine bR rfl ?_
  refine ah (zN (bF g).cJ hs ((m.1 : Nat) : Int)) rfl rfl rfl rfl rfl ?_
  refine ny rfl (bD rfl rfl (bD rfl rfl ?_))
  refine bw rfl (by exact List.cons_ne_nil _ _) rfl ?_
  refine bk rfl rfl (by decide) rfl rfl rfl rfl rfl rfl ?_
  refine cE rfl (aD (aC (aE ?_)))
  refine fq (s := 34) rfl (Ty.af (yW ho hm2)) ?_
  refine aA ?_
  refine bL rfl rfl (by decide) rfl rfl (by exact Nat.le_of_ble_eq_true rfl) ?_
  refine bR rfl ?_
  refine ah (zN Z1 hz1.small ((m.1 : Nat) : Int)) rfl rfl rfl rfl rfl ?_
  refine ny rfl (bD rfl rfl (bD rfl rfl ?_))
  refine bw rfl (by exact List.cons_ne_nil _ _) rfl ?_
  refine bk rfl rfl (by decide) rfl rfl rfl rfl rfl rfl ?_
  refine cE rfl (aD (aC (aE ?_)))
  refine fq (s := 36) rfl (Ty.af (yW hz1.opn (by omega))) ?_
  refine cQ mixed rfl (bR rfl (bC rfl rfl rfl (fu rfl ?_)))
  apply aL (s := 315) rfl rfl rfl
  ·intro hg; apply aP; (refine bR rfl ?_); refine aD ?_; exact rfl
  ·exact rfl
  ·exact rfl
  apply aL (s := 315) rfl rfl rfl
  ·intro hg; apply aK (s := 316) rfl (by (rw [hg]; rfl)); apply aP; (refine bC rfl rfl rfl ?_); refine aD ?_; exact rfl
  ·exact rfl
  ·exact rfl
  refine iQ rfl rfl (fu rfl ?_)
  apply aL (s := 319) rfl rfl rfl
  ·intro hg; apply aP; (refine aO rfl rfl rfl rfl rfl (by decide) ?_); refine aD ?_; exact rfl
  ·exact rfl
  ·exact rfl
  apply aL (s := 319) rfl rfl rfl
  ·intro hg; apply aK (s := 320) rfl (by (rw [hg]; rfl)); apply aP; (refine aU rfl rfl (by decide) rfl rfl rfl ?_); refine aD ?_; exact rfl
  ·exact rfl
  ·exact rfl
  apply aL (s := 319) rfl rfl rfl
  ·intro hg; apply aP; (refine aO rfl rfl rfl rfl rfl (by decide) ?_); refine aD ?_; exact rfl
  ·exact rfl
  ·exact rfl
  apply aL (s := 319) rfl rfl rfl
  ·intro hg; apply aK (s := 322) rfl (by (rw [hg]; rfl)); apply aP; (refine aU rfl rfl (by decide) rfl rfl rfl ?_); refine aD ?_; exact rfl
  ·exact rfl
  ·exact rfl
  apply aL (s := 319) rfl rfl rfl
  ·intro hg; apply aK (s := 321) rfl (by (rw [hg]; rfl)); apply aK (s := 323) rfl (by (rw [hg]; rfl)); apply aP; (refine bC rfl rfl rfl ?_); refine aD ?_; exact rfl
  ·exact rfl
  ·exact rfl
  refine iQ rfl rfl (fu rfl ?_)
  apply aL (s := 326) rfl rfl rfl
  ·intro hg; apply aP; (refine aO rfl rfl rfl rfl rfl (by decide) ?_); refine aD ?_; exact rfl
  ·exact rfl
  ·exact rfl
  apply aL (s := 326) rfl rfl rfl
  ·intro hg; apply aK (s := 327) rfl (by (rw [hg]; rfl)); apply aP; (refine aU rfl rfl (by decide) rfl rfl rfl ?_); refine aD ?_; exact rfl
  ·exact rfl
  ·exact rfl
  apply aL (s := 326) rfl rfl rfl
  ·intro hg; apply aP; (refine aO rfl rfl rfl rfl rfl (by decide) ?_); refine aD ?_; exact rfl
  ·exact rfl
  ·exact rfl
  apply aL (s := 326) rfl rfl rfl
  ·intro hg; apply aK (s := 329) rfl (by (rw [hg]; rfl)); apply aP; (refine aU rfl rfl (by decide) rfl rfl rfl ?_); refine aD ?_; exact rfl
  ·exact rfl
  ·exact rfl
  apply aL (s := 326) rfl rfl rfl
  ·intro hg; apply aK (s := 328) rfl (by (rw [hg]; rfl)); apply aK (s := 330) rfl (by (rw [hg]; rfl)); apply aP; (refine bC rfl rfl rfl ?_); refine aD ?_; exact rfl
  ·exact rfl
  ·exact rfl
  refine iQ rfl rfl (fu rfl ?_)
  apply aL (s := 333) rfl rfl rfl
  ·intro hg; apply aP; (refine aO rfl rfl rfl rfl rfl (by decide) ?_); refine aD ?_; exact rfl
  ·exact rfl
  ·exact rfl
  apply aL (s := 333) rfl rfl rfl
  ·intro hg; apply aK (s := 334) rfl (by (rw [hg]; rfl)); apply aP; (refine aU rfl rfl (by decide) rfl rfl rfl ?_); refine aD ?_; exact rfl
  ·exact rfl
  ·exact rfl
  apply aL (s := 333) rfl rfl rfl
  ·intro hg; apply aP; (refine bR rfl ?_); refine aD ?_; exact rfl
  ·exact rfl
  ·exact rfl
  apply aL (s := 333) rfl rfl rfl
  ·intro hg; apply aK (s := 335) rfl (by (rw [hg]; rfl)); apply aK (s := 336) rfl (by (rw [hg]; rfl)); apply aP; (refine bK rfl rfl rfl rfl rfl rfl (by omega) ?_); refine aD ?_; exact rfl
  ·exact rfl
  ·exact rfl
  apply aL (s := 333) rfl rfl rfl
  ·intro hg; apply aK (s := 337) rfl (by (rw [hg]; rfl)); apply aP; (refine aN rfl rfl rfl rfl ?_); refine aD ?_; exact rfl
  ·exact rfl
  ·exact rfl
  apply aL (s := 333) rfl rfl rfl
  ·intro hg; apply aP; (refine bL rfl rfl (by decide) rfl rfl (by exact Nat.le_of_ble_eq_true rfl) ?_); refine aD ?_; exact rfl
  ·exact rfl
  ·exact rfl
  apply aL (s := 333) rfl rfl rfl
  ·intro hg; apply aK (s := 338) rfl (by (rw [hg]; rfl)); apply aK (s := 339) rfl (by (rw [hg]; rfl)); apply aP; (refine ah (mM _ _) rfl rfl rfl rfl rfl ?_); refine aD ?_; exact rfl
  ·exact rfl
  ·exact rfl
  apply aL (s := 333) rfl rfl rfl
  ·intro hg; apply aK (s := 340) rfl (by (rw [hg]; rfl)); apply aP; (refine dh rfl ?_); refine aD ?_; exact rfl
  ·exact rfl
  ·exact rfl
  refine iQ rfl rfl (fu rfl ?_)
  apply aL (s := 343) rfl rfl rfl
  ·intro hg; apply aP; (refine aO rfl rfl rfl rfl rfl (by decide) ?_); refine aD ?_; exact rfl
  ·exact rfl
  ·exact rfl
  apply aL (s := 343) rfl rfl rfl
  ·intro hg; apply aK (s := 344) rfl (by (rw [hg]; rfl)); apply aP; (refine aU rfl rfl (by decide) rfl rfl rfl ?_); refine aD ?_; exact rfl
  ·exact rfl
  ·exact rfl
  apply aL (s := 343) rfl rfl rfl
  ·intro hg; apply aP; (refine aO rfl rfl rfl rfl rfl (by decide) ?_); refine aD ?_; exact rfl
  ·exact rfl
  ·exact rfl
  apply aL (s := 343) rfl rfl rfl
  ·intro hg; apply aK (s := 346) rfl (by (rw [hg]; rfl)); apply aP; (refine aU rfl rfl (by decide) rfl rfl rfl ?_); refine aD ?_; exact rfl
  ·exact rfl
  ·exact rfl
  apply aL (s := 343) rfl rfl rfl
  ·intro hg; apply aP; (refine bR rfl ?_); refine aD ?_; exact rfl
  ·exact rfl
  ·exact rfl
  apply aL (s := 343) rfl rfl rfl
  ·intro hg; apply aK (s := 347) rfl (by (rw [hg]; rfl)); apply aK (s := 348) rfl (by (rw [hg]; rfl)); apply aP; (refine bK rfl rfl rfl rfl rfl rfl (by omega) ?_); refine aD ?_; exact rfl
  ·exact rfl
  ·exact rfl
  apply aL (s := 343) rfl rfl rfl
  ·intro hg; apply aK (s := 349) rfl (by (rw [hg]; rfl)); apply aP; (refine aQ rfl rfl rfl rfl rfl (by decide) ?_); refine aD ?_; exact rfl
  ·exact rfl
  ·exact rfl
  apply aL (s := 343) rfl rfl rfl
  ·intro hg; apply aK (s := 350) rfl (by (rw [hg]; rfl)); apply aP; (refine aQ rfl rfl rfl rfl rfl (by decide) ?_); refine aD ?_; exact rfl
  ·exact rfl
  ·exact rfl
  apply aL (s := 343) rfl rfl rfl
  ·intro hg; apply aK (s := 351) rfl (by (rw [hg]; rfl)); apply aP; (refine aN rfl rfl rfl rfl ?_); refine aD ?_; exact rfl
  ·exact rfl
  ·exact rfl
  apply aL (s := 343) rfl rfl rfl
  ·intro hg; apply aK (s := 345) rfl (by (rw [hg]; rfl)); apply aK (s := 352) rfl (by (rw [hg]; rfl)); apply aP; (refine bC rfl rfl rfl ?_); refine aD ?_; exact rfl
  ·exact rfl
  ·exact rfl
  refine iQ rfl rfl (fu rfl ?_)
  apply aL (s := 355) rfl rfl rfl
  ·intro hg; apply aP; (refine aO rfl rfl rfl rfl rfl (by decide) ?_); refine aD ?_; exact rfl
  ·exact rfl
  ·exact rfl
  apply aL (s := 355) rfl rfl rfl
  ·intro hg; apply aK (s := 356) rfl (by (rw [hg]; rfl)); apply aP; (refine aU rfl rfl (by decide) rfl rfl rfl ?_); refine aD ?_; exact rfl
  ·exact rfl
  ·exact rfl
  apply aL (s := 355) rfl rfl rfl
  ·intro hg; apply aP; (refine aO rfl rfl rfl rfl rfl (by decide) ?_); refine aD ?_; exact rfl
  ·exact rfl
  ·exact rfl
  apply aL (s := 355) rfl rfl rfl
  ·intro hg; apply aK (s := 358) rfl (by (rw [hg]; rfl)); apply aP; (refine aU rfl rfl (by decide) rfl rfl rfl ?_); refine aD ?_; exact rfl
  ·exact rfl
  ·exact rfl
  apply aL (s := 355) rfl rfl rfl
  ·intro hg; apply aP; (refine bR rfl ?_); refine aD ?_; exact rfl
  ·exact rfl
  ·exact rfl
  apply aL (s := 355) rfl rfl rfl
  ·intro hg; apply aK (s := 359) rfl (by (rw [hg]; rfl)); apply aK (s := 360) rfl (by (rw [hg]; rfl)); apply aP; (refine bK rfl rfl rfl rfl rfl rfl (by omega) ?_); refine aD ?_; exact rfl
  ·exact rfl
  ·exact rfl
  apply aL (s := 355) rfl rfl rfl
  ·intro hg; apply aK (s := 361) rfl (by (rw [hg]; rfl)); apply aP; (refine aQ rfl rfl rfl rfl rfl (by decide) ?_); refine aD ?_; exact rfl
  ·exact rfl
  ·exact rfl
  apply aL (s := 355) rfl rfl rfl
  ·intro hg; apply aK (s := 362) rfl (by (rw [hg]; rfl)); apply aP; (refine aQ rfl rfl rfl rfl rfl (by decide) ?_); refine aD ?_; exact rfl
  ·exact rfl
  ·exact rfl
  apply aL (s := 355) rfl rfl rfl
  ·intro hg; apply aK (s := 363) rfl (by (rw [hg]; rfl)); apply aP; (refine aN rfl rfl rfl rfl ?_); refine aD ?_; exact rfl
  ·exact rfl
  ·exact rfl
  apply aL (s := 355) rfl rfl rfl
  ·intro hg; apply aK (s := 357) rfl (by (rw [hg]; rfl)); apply aK (s := 364) rfl (by (rw [hg]; rfl)); apply aP; (refine bC rfl rfl rfl ?_); refine aD ?_; exact rfl
  ·exact rfl
  ·exact rfl
  refine iQ rfl rfl (aD ?_)
  refine ⟨by kernel_rfl, ?_⟩
  refine aC (fZ rfl (Mp ho hz1 hm2) (ak (bf (aC (aA ?_)))))
  refine cD rfl rfl (by omega) (by omega) ?_
  refine bR rfl (aD ?_)
  refine bp (⟨m.1 + 1, by omega⟩) ?_ (by show (bF g).cJ.moves.length - (m.1 + 1) < (bF g).cJ.moves.length - m.1; omega)
  (refine dG.mk' ?_ ?_ <;> (repeat' (first | exact aJ | exact aI | refine aB ?_ (Ty.aX _) | refine aB ?_ (Ty.aF _) | refine aG rfl (Cont.aF _) ?_)))
  all_goals skip
  all_goals trace_state
 refine cg (aT (aT (bA rfl (aC (aE (aA (ah (IL) rfl rfl rfl rfl rfl (dr rfl (aD ?_)))))))))
 refine aC (az (bq rfl rfl ?_))
 all_goals exact cP rfl rfl
 all_goals trace_state
end Go.Proofs.YtelbollidfdcjaaGreat
namespace Go.T
open Go Go.RowKit Go.ChangeShapes Go.WideShapes Go.ChangeAt
def nW : ay := fun _ => none
theorem I3 (w : World) : Wf w nW := ⟨fun _ _ h => (by cases h), fun _ _ _ _ h => (by cases h)⟩
theorem En : ∀ b t, nW b = some t → t = 0 := fun _ _ h => by cases h
structure Rd {α : Type} (P : Program) (e : TypeId) (E : El α) : Prop where
  size : P.cellsOf e = E.size
  pos : 0 < E.size
  rd : ∀ {H : Type} {enc : TypeId × Value → H} {w : World} {base : Nat} {held : Bool} {n : Nat} {cs : List Value} {y : DataW H × List MemPlace}, DataW.trod enc P w base (fun _ => true) held n e cs = some y → ∃ x, cM w nW (E.tys x) cs
section
variable {H : Type} {enc : TypeId × Value → H} {P : Program} {w : World} {base : Nat} {held : Bool} {α : Type} {E : El α} {t e : TypeId} {n : Nat} {cs : List Value} {y : DataW H × List MemPlace}
theorem Lo (hR : Rd P e E) (ht : P.underlying t = some (.slice e)) (h : DataW.trod enc P w base (fun _ => true) held n t cs = some y) : ∃ v xs, cs = [v] ∧ (Ty.sl E xs).den w nW v := by
 rcases Go.Deep.open_slice ht h with ⟨rfl, _⟩ | ⟨a, len, cap, m, k, D, Pl, rfl, _, hl, hm, hmm, _, hel⟩
 ·exact ⟨_, [], rfl, none, 0, rfl, Nat.le_refl _, Nat.zero_le _, fun h => absurd h (Nat.lt_irrefl _)⟩
 have hlm : len ≤ m := by rw [hmm]; simpa using hl
 have hX : ∀ i : Fin len, ∃ x : α, ∃ cs', w.cells? base (a.add (i.1 * P.cellsOf e)) (P.cellsOf e) = some cs' ∧ cM w nW (E.tys x) cs' := fun i => by
  obtain ⟨cs', h1, h2⟩ := hel i.1 (Nat.lt_of_lt_of_le i.2 hlm)
  obtain ⟨x, hx⟩ := hR.rd h2
  exact ⟨x, cs', h1, hx⟩
 let X : Fin len → α := fun i => (hX i).choose
 have hXs : ∀ i : Fin len, ∃ cs', w.cells? base (a.add (i.1 * P.cellsOf e)) (P.cellsOf e) = some cs' ∧ cM w nW (E.tys (X i)) cs' := fun i => (hX i).choose_spec
 have hlen : (List.ofFn X).length = len := by simp
 refine ⟨_, List.ofFn X, rfl, some a, cap, by rw [hlen], by rw [hlen]; exact hl, hm, fun h0 => ?_⟩
 rw [hlen] at h0
 have hcell : ∀ (i : Fin len) (j : Nat) (u : Ty), (E.tys (X i))[j]? = some u → ∃ v, w.cell? (a.add (i.1 * E.size + j)) = some v ∧ u.den w nW v := fun i j u hu => by
  obtain ⟨cs', h1, h2⟩ := hXs i
  obtain ⟨v, hv, hd⟩ := dg h2 j u hu
  obtain ⟨_, g1, g2⟩ := World.cells?_some h1
  have hj : j < P.cellsOf e := by
   rw [hR.size, ← E.len (X i)]
   exact (List.getElem?_eq_some_iff.1 hu).1
  refine ⟨v, ?_, hd⟩
  have := g2 j hj
  rw [Go.Deep.add_add, hv, hR.size] at this
  exact this
 have hsz := hR.pos
 have hfirst : ∃ v, w.cell? (a.add 0) = some v := by
  obtain ⟨u, hu⟩ : ∃ u, (E.tys (X ⟨0, h0⟩))[0]? = some u := ⟨_, List.getElem?_eq_getElem (by rw [E.len]; exact hsz)⟩
  obtain ⟨v, hv, _⟩ := hcell ⟨0, h0⟩ 0 u hu
  exact ⟨v, by simpa using hv⟩
 obtain ⟨b, off, sp⟩ := a
 obtain ⟨v0, hv0⟩ := hfirst
 have hsp : sp = none := by simpa [Addr.add] using World.cell?_spot hv0
 subst hsp
 have hb : b < w.heap.size := by
  obtain ⟨cs', h1, _⟩ := hXs ⟨0, h0⟩
  have := World.cells?_block h1 (by rw [hR.size]; exact hsz)
  simpa [Addr.add] using this
 refine ⟨b, off, rfl, rfl, hb, fun i u hu => ?_⟩
 have hi : i < len * E.size := by
  have := (List.getElem?_eq_some_iff.1 hu).1
  rw [cv, hlen] at this; exact this
 have hk : i / E.size < len := Nat.div_lt_of_lt_mul (by rw [Nat.mul_comm]; exact hi)
 have hj : i % E.size < E.size := Nat.mod_lt _ hsz
 have hij : i / E.size * E.size + i % E.size = i := by rw [Nat.mul_comm]; exact Nat.div_add_mod i E.size
 have hu2 := hu
 rw [← hij, oC E _ _ _ (by rw [hlen]; exact hk) hj, List.getElem?_ofFn, dif_pos hk] at hu2
 obtain ⟨v, hv, hd⟩ := hcell ⟨i / E.size, hk⟩ (i % E.size) u hu2
 refine ⟨v, ?_, hd⟩
 rw [← Go.WideShapes.add_plain]
 rw [hij] at hv
 exact hv
theorem KB {c : Value} (hR : Rd P e E) (ht : P.underlying t = some (.slice e)) (h : DataW.trod enc P w base (fun _ => true) held n t [c] = some y) : ∃ xs, (Ty.sl E xs).den w nW c := by
 obtain ⟨v, xs, e, hd⟩ := Lo hR ht h
 exact ⟨xs, by rw [show c = v by simpa using e]; exact hd⟩
end
section
variable {w w' : World} {S K : Nat → Prop} {M' : ay}
theorem q9 (le : Le S K w nW w' M') {b : Nat} (hb : b < w.heap.size) : w'.heap[b]? = w.heap[b]? := (le.pZ b hb rfl).2
theorem JI (le : Le S K w nW w' M') {p : MemPlace} (hp : p.block < w.heap.size) : w.sameAt w' p := by
  cases p with
  | cell b o => exact World.cell?_of_block (w := w) (q9 le hp)
  | map b => exact q9 le hp
theorem IX (le : Le S K w nW w' M') (may : MemPlace → Prop) : w.keptBut w' may := by
 refine ⟨le.os, le.out, fun i hi => ?_⟩
 have e := q9 le hi
 rw [e]
 split
 ·rename_i h1 h2
  rw [h1] at h2
  simp only [Option.some.injEq, Obj.cells.injEq] at h2
  obtain ⟨rfl, rfl, rfl⟩ := h2
  exact ⟨rfl, rfl, rfl, fun _ _ => rfl⟩
 ·rename_i h1 h2
  rw [h1] at h2
  simp only [Option.some.injEq, Obj.map.injEq] at h2
  exact Or.inr ⟨h2.1.symm, h2.2.symm⟩
 rfl
theorem Dl (le : Le S K w nW w' M') {a : Addr} (ha : a.block < w.heap.size) : w'.frozen? a = w.frozen? a := by
 unfold World.frozen?
 rw [q9 le ha]
end
section
variable {H : Type} {enc : TypeId × Value → H} {P : Program}
theorem p7 (hl : laidOutB P = true) {w w' : World} {sp : Nat → Bool} : ∀ {ts : List TypeId} {vs : List Value} {ds : List (DataW H)} {ps : List MemPlace}, (∀ t ∈ ts, P.readableRec t = true ∧ t < P.types.size) →
    DataW.TrodAll enc P w 0 (fun _ => true) true ts vs ds ps → (∀ p ∈ ps, w.sameAt w' p) → (∀ p ∈ ps, sp p.block = true) → DataW.TrodAll enc P w' 0 sp true ts vs ds ps
  | [], [], [], _, _, h, _, _ => h
  | t :: ts, v :: vs, d :: ds, _, ht, ⟨p, q, h1, h2, e⟩, hs, hsp => by
    subst e
    have h0 := ht t List.mem_cons_self
    exact ⟨p, q, Go.WideElems.Trod_stays hl h0.1 h0.2 h1 (fun x hx => hs x (List.mem_append_left _ hx)) (fun x hx => hsp x (List.mem_append_left _ hx)),
      p7 hl (fun t h => ht t (List.mem_cons_of_mem _ h)) h2 (fun x hx => hs x (List.mem_append_right _ hx)) (fun x hx => hsp x (List.mem_append_right _ hx)), rfl⟩
theorem EM {f : Func} {s : ChangeSpec} {apart fresh handsOn again : Bool} {W W' : World} {args : Array Value} {ds : List (DataW H)} {before : List MemPlace} {S K : Nat → Prop} {M' : ay}
 (hl : laidOutB P = true) (hv : s.vars = []) (hrd : ∀ t ∈ f.params.toList, P.readableRec t = true ∧ t < P.types.size) {tb : TypeId} (htb : P.underlying tb = some .bool) (hrt : f.resultTypes = #[tb])
 (hW : DataW.Whole enc P f.params.toList s.vars apart W args.toList ds [] before) (hres : (s.fn H (ds ++ [])).results = [.lit (.bool true)]) (hargs : (s.fn H (ds ++ [])).args = ds) (hvars : (s.fn H (ds ++ [])).vars = [])
 (le : Le S K W nW W' M') : s.post enc P f apart fresh handsOn again W args (.bool true) W' := by
 have hW0 := hW
 obtain ⟨p, q, hA, hV, hb, hfz, hn⟩ := hW0
 have hlt := DataW.TrodAll.lt hA
 have hq : q = [] := by rw [hv] at hV; exact (trodVars_none hV).2
 subst hq
 have hbp : before = p := by rw [hb]; simp
 have hre : ∀ (b : Nat) (sp : Nat → Bool) (hd : Bool), DataW.TrodAll enc P W' b sp hd f.resultTypes.toList ((Value.bool true).resultList f.resultTypes.size) (s.fn H (ds ++ [])).results [] := fun b sp hd => by
  rw [hrt, hres]; exact trodAll_mk1 (shut_bool htb true)
 have har : ∀ sp : Nat → Bool, (∀ x ∈ p, sp x.block = true) → DataW.TrodAll enc P W' 0 sp true f.params.toList args.toList (s.fn H (ds ++ [])).args p := fun sp hsp => by
  rw [hargs]; exact p7 hl hrd hA (fun x hx => JI le (hlt x hx)) hsp
 have hva : ∀ sp : Nat → Bool, DataW.TrodVars enc P W' sp s.vars (s.fn H (ds ++ [])).vars [] := fun sp => by
  rw [hvars, hv]; exact rfl
 have hok : ∀ (j : Nat) (t : TypeId) (r : Value), f.resultTypes[j]? = some t → ((Value.bool true).resultList f.resultTypes.size)[j]? = some r → Value.okWide P W' .any 0 t r := by
  exact ok_one (by rw [hrt]) rfl (okWide_bool_mk htb true)
 refine ⟨ds, [], before, [], p, [], hW, hre _ _ _, har _ (fun x hx => by simpa using hlt x hx), hva _, World.keptBut_mono (fun x hx => hx) (IX le _), fun _ => ?_⟩
 refine ⟨hok, _, _, ([] ++ p) ++ [], ⟨[] ++ p, [], trodAll_append (har _ (fun _ _ => rfl)) (hre _ _ _), hva _, rfl, ?_, ?_⟩, ?_⟩
 ·intro b off hp
  have hp' : MemPlace.cell b off ∈ p := by simpa using hp
  rw [Dl le (hlt _ hp')]
  exact hfz b off (by rw [hbp]; exact hp')
 ·intro ha
  have := hn ha
  rw [hbp] at this
  simpa using this
 intro x hx _
 rw [hbp]
 simpa using hx
end
end Go.T
namespace Go.Proofs.YtelbollidfdcjaaGreat
open Go Go.T Go.RowKit Go.ChangeShapes Go.WideShapes Go.ChangeAt
theorem MN : Rd Tryz.prog 5 U8 := ⟨by kernel_rfl, by decide, fun h => by
 obtain ⟨i, rfl, _⟩ := DataW.trod_int Tryz.underlying5 h
 exact ⟨i, rfl, trivial⟩⟩
section
variable {H : Type} {enc : TypeId × Value → H} {W : World} {base : Nat} {held : Bool} {v : Value} {d : DataW H} {p : List MemPlace}
set_option maxRecDepth 100000 in
theorem FI (hv : Value.okWide Tryz.prog W .any base 5 v) (h : DataW.Trod enc Tryz.prog W 0 (fun _ => true) held 5 v d p) : ∃ n : Int, (0 ≤ n ∧ n ≤ 255) ∧ (Ty.int .u8 n).den W nW v := by
 obtain ⟨n, rfl, _, _, hw⟩ := open_int Tryz.underlying5 hv h
 refine ⟨n, ?_, rfl⟩
 simp [Lit.wf, IntKind.wrap] at hw
 have e1 : IntKind.u8.min = 0 := rfl
 have e2 : IntKind.u8.max = 255 := rfl
 omega
set_option maxRecDepth 100000 in
theorem G4 (hv : Value.okWide Tryz.prog W .any base 22 v) (h : DataW.Trod enc Tryz.prog W 0 (fun _ => true) held 22 v d p) : ∃ l, (Ty.sl U8 l).den W nW v := by
 obtain ⟨a, len, cap, rfl⟩ := okWide_slice Tryz.underlying22 hv
 obtain ⟨n, hn⟩ := h
 exact KB MN Tryz.underlying22 (by simpa [Value.cells] using hn)
end
end Go.Proofs.YtelbollidfdcjaaGreat
namespace Go.Proofs.YtelbollidfdcjaaGreat
open Go Go.T Go.RowKit Go.ChangeShapes Go.WideShapes Go.ChangeAt
section
variable {H : Type} {enc : TypeId × Value → H} {W : World} {base : Nat} {held : Bool} {v : Value} {d : DataW H} {p : List MemPlace}
end
end Go.Proofs.YtelbollidfdcjaaGreat
