/- Lemmas: the program and the reference walked, plain laws. -/
import Derived.Test.YtelbollidfdcjaaGreatGd
namespace Go.Proofs.YtelbollidfdcjaaGreat
open Go Go.T
def ND (s : List Level × Sk) (k : Nat) : Level := ⟨(nth s.1 k).day, (nth s.1 k).bin, ⟨min 300 ((nth s.1 k).sacks.lo + bF (aP s.2) 40), min 300 ((nth s.1 k).sacks.hi + bF (aP s.2) 40)⟩⟩
def KG (k : Nat) (s : List Level × Sk) : List Level × Sk := if bF s.2 3 = 0 then (s.1.set k (ND s k), aP (aP s.2)) else (s.1, aP s.2)
def c9 (ls : List Level) (q : Sk) : Nat → List Level × Sk
  | 0 => (ls, q)
  | k + 1 => KG k (c9 ls q k)
section
variable {ls : List Level} {q : Sk} {k i n : Nat} {s : List Level × Sk} {y : ay}
theorem uw : (ls, q) = c9 ls q 0 := rfl
theorem z6 (h : bF (c9 ls q k).2 3 = 0) : ((c9 ls q k).1.set k (ND (c9 ls q k) k), aP (aP (c9 ls q k).2)) = c9 ls q (k + 1) := by
 show _ = KG k (c9 ls q k); unfold KG; rw [if_pos h]
theorem DK (h : ¬ bF (c9 ls q k).2 3 = 0) : ((c9 ls q k).1, aP (c9 ls q k).2) = c9 ls q (k + 1) := by
 show _ = KG k (c9 ls q k); unfold KG; rw [if_neg h]
def DV (y : ay) (l : Level) : Prop := (0 ≤ l.day ∧ l.day ≤ y.days) ∧ (0 ≤ l.bin ∧ l.bin < y.bins.length) ∧ (0 ≤ l.sacks.lo ∧ l.sacks.hi ≤ 300) ∧ l.sacks.lo ≤ l.sacks.hi
structure Ku (y : ay) (q : Sk) (k : Nat) (s : List Level × Sk) : Prop where
  len : s.1.length = y.levels.length
  low : q.taken ≤ s.2.taken
  high : s.2.taken ≤ q.taken + 2 * k
  Fc : ∀ i, i < y.levels.length → DV y (nth s.1 i)
theorem BR (hr : y.cU) : ∀ k, k ≤ y.levels.length → Ku y q k (c9 y.levels q k)
  | 0, _ => ⟨rfl, Int.le_refl _, by show q.taken ≤ q.taken + _; omega, fun i hi => hr.level _ (cx hi)⟩
  | k + 1, hk => by
    have h : Ku y q k (c9 y.levels q k) := BR hr k (by omega)
    show Ku y q (k + 1) (KG k (c9 y.levels q k))
    generalize c9 y.levels q k = s at h
    have h1 := h.low; have h2 := h.high; have hlen := h.len
    have g1 := cG s.2
    have g2 := cG (aP s.2)
    unfold KG
    split
    · have v1 := cP (aP s.2) 40
      refine ⟨by rw [List.length_set]; exact hlen, by show _ ≤ (aP _).taken; omega, by show (aP _).taken ≤ _; omega, fun i hi => ?_⟩
      show DV y (nth (s.1.set k _) i)
      rw [iL (by omega)]
      by_cases e : k = i
      · subst e
        rw [if_pos rfl]
        obtain ⟨l1, l2, l3, l4⟩ := h.Fc k hi
        exact ⟨l1, l2, ⟨by show 0 ≤ min 300 (_ + _); omega, by show min 300 (_ + _) ≤ 300; omega⟩, by show min 300 (_ + _) ≤ min 300 (_ + _); omega⟩
      · rw [if_neg e]; exact h.Fc i hi
    · exact ⟨hlen, by show _ ≤ (aP _).taken; omega, by show (aP _).taken ≤ _; omega, h.Fc⟩
end
def EJ (s : List uV × Sk) : List uV × Sk := if bF s.2 3 = 0 then (s.1.set (bF (aP s.2) s.1.length).toNat ⟨bF (aP (aP s.2)) 60, (nth s.1 (bF (aP s.2) s.1.length).toNat).first⟩, aP (aP (aP s.2))) else (s.1, aP s.2)
def Iu (y : ay) (q : Sk) : ay := ⟨y.days, (EJ (y.bins, (c9 y.levels q y.levels.length).2)).1, y.moves, (c9 y.levels q y.levels.length).1⟩
section
variable {y : ay} {q : Sk} {s : List uV × Sk} {k : Nat}
theorem LL (h : bF s.2 3 = 0) : (s.1.set (bF (aP s.2) s.1.length).toNat ⟨bF (aP (aP s.2)) 60, (nth s.1 (bF (aP s.2) s.1.length).toNat).first⟩, aP (aP (aP s.2))) = EJ s := (if_pos h).symm
theorem MK (h : ¬ bF s.2 3 = 0) : (s.1, aP s.2) = EJ s := (if_neg h).symm
theorem G2 : (EJ s).1.length = s.1.length := by
 unfold EJ; split
 ·exact List.length_set
 rfl
theorem E3 (hr : y.cU) : (Iu y q).cU := by
 have h := BR (q := q) hr _ (Nat.le_refl _)
 have hb : (Iu y q).bins.length = y.bins.length := G2
 have hl : (Iu y q).levels.length = y.levels.length := h.len
 refine ⟨hr.days, by rw [hb]; exact hr.bins, hr.moves, by rw [hl]; exact hr.levels, fun b hm => ?_, fun m hm => by rw [hb]; exact hr.move m hm, fun l hm => ?_⟩
 ·have hm : b ∈ (EJ (y.bins, (c9 y.levels q y.levels.length).2)).1 := hm
  unfold EJ at hm
  split at hm
  ·have hp : (bF (aP (c9 y.levels q y.levels.length).2) ((y.bins.length : Nat) : Int)).toNat < y.bins.length := by
    have := cP (aP (c9 y.levels q y.levels.length).2) ((y.bins.length : Nat) : Int)
    have := hr.bins
    omega
   have hv := cP (aP (aP (c9 y.levels q y.levels.length).2)) 60
   change b ∈ y.bins.set (bF (aP (c9 y.levels q y.levels.length).2) ((y.bins.length : Nat) : Int)).toNat ⟨bF (aP (aP (c9 y.levels q y.levels.length).2)) 60, (nth y.bins (bF (aP (c9 y.levels q y.levels.length).2) ((y.bins.length : Nat) : Int)).toNat).first⟩ at hm
   generalize (bF (aP (c9 y.levels q y.levels.length).2) ((y.bins.length : Nat) : Int)).toNat = p at hp hm
   generalize bF (aP (aP (c9 y.levels q y.levels.length).2)) 60 = v at hv hm
   obtain ⟨i, hi, rfl⟩ := kK hm
   rw [List.length_set] at hi
   rw [iL hi]
   by_cases e : p = i
   ·rw [if_pos e]
    exact ⟨⟨hv.1, by show v ≤ 300; omega⟩, (hr.bin _ (cx hp)).2⟩
   rw [if_neg e]; exact hr.bin _ (cx hi)
  exact hr.bin _ hm
 obtain ⟨i, hi, rfl⟩ := kK hm
 rw [hl] at hi
 have := h.Fc i hi
 unfold DV at this
 rw [hb]; exact this
end
def fD (b : Nat) : Nat → List ku × Sk → List ku × Sk
  | 0, s => s
  | t + 1, s => if bF (fD b t s).2 2 = 0 then ((fD b t s).1 ++ [⟨(b : Int), (t : Int)⟩], aP (fD b t s).2) else ((fD b t s).1, aP (fD b t s).2)
def tryAll (D : Nat) (s : List ku × Sk) : Nat → List ku × Sk
  | 0 => s
  | b + 1 => fD b D (tryAll D s b)
section
variable {D b t k n : Nat} {s : List ku × Sk} {y : ay}
theorem uh (h : bF (fD b t s).2 2 = 0) : ((fD b t s).1 ++ [⟨(b : Int), (t : Int)⟩], aP (fD b t s).2) = fD b (t + 1) s := by
 show _ = if _ then _ else _; rw [if_pos h]
theorem AG (h : ¬ bF (fD b t s).2 2 = 0) : ((fD b t s).1, aP (fD b t s).2) = fD b (t + 1) s := by
 show _ = if _ then _ else _; rw [if_neg h]
structure x9 (y : ay) (q : Sk) (b t : Nat) (s : List ku × Sk) : Prop where
  sort : s.1.Pairwise fun a b => fm a b = true
  cell : ∀ x ∈ s.1, ∃ c d : Nat, x = ⟨(c : Int), (d : Int)⟩ ∧ d < y.D ∧ (c < b ∨ c = b ∧ d < t)
  taken : s.2.taken = q.taken + (b * y.D + t : Nat)
  nJ : s.1.length ≤ b * y.D + t
theorem zn {q : Sk} (h : x9 y q b 0 s) : ∀ t, t ≤ y.D → x9 y q b t (fD b t s)
  | 0, _ => h
  | t + 1, ht => by
    have ih := zn h t (by omega)
    generalize hs : fD b t s = r at ih
    have e : fD b (t + 1) s = if bF r.2 2 = 0 then (r.1 ++ [⟨(b : Int), (t : Int)⟩], aP r.2) else (r.1, aP r.2) := by rw [← hs]; rfl
    rw [e]
    have g := cG r.2
    have g2 := ih.taken
    have g3 := ih.nJ
    split
    · refine ⟨List.pairwise_append.2 ⟨ih.sort, List.pairwise_singleton _ _, fun x hx z hz => ?_⟩, fun x hx => ?_, by show (aP r.2).taken = _; omega, by show (r.1 ++ [_]).length ≤ _; rw [List.length_append]; show r.1.length + 1 ≤ _; omega⟩
      · rw [List.mem_singleton.1 hz]
        obtain ⟨c, d, rfl, h1, h2⟩ := ih.cell x hx
        rcases h2 with h2 | ⟨rfl, h2⟩
        · exact vo h2
        · exact wu h2
      · rcases List.mem_append.1 hx with hx | hx
        · obtain ⟨c, d, e, h1, h2⟩ := ih.cell x hx
          exact ⟨c, d, e, h1, by omega⟩
        · exact ⟨b, t, List.mem_singleton.1 hx, by omega, .inr ⟨rfl, by omega⟩⟩
    · refine ⟨ih.sort, fun x hx => ?_, by show (aP r.2).taken = _; omega, by show r.1.length ≤ _; omega⟩
      obtain ⟨c, d, e, h1, h2⟩ := ih.cell x hx
      exact ⟨c, d, e, h1, by omega⟩
theorem Gs {q : Sk} (h : x9 y q b y.D s) : x9 y q (b + 1) 0 s := by
 refine ⟨h.sort, fun x hx => ?_, by rw [h.taken, Nat.succ_mul]; omega, by have := h.nJ; rw [Nat.succ_mul]; omega⟩
 obtain ⟨c, d, e, h1, h2⟩ := h.cell x hx
 exact ⟨c, d, e, h1, by omega⟩
theorem ug (q : Sk) : ∀ b, x9 y q b 0 (tryAll y.D ([], q) b)
  | 0 => ⟨List.Pairwise.nil, fun x hx => (by cases hx), by show q.taken = q.taken + ((0 * y.D + 0 : Nat) : Int); rw [Nat.zero_mul]; omega, Nat.zero_le _⟩
  | b + 1 => Gs (zn (ug q b) y.D (Nat.le_refl _))
theorem LJ (hr : y.cU) {q : Sk} (h : x9 y q y.bins.length 0 s) : ∀ x ∈ s.1, AL y x = true := fun x hx => by
 obtain ⟨c, d, rfl, h1, h2⟩ := h.cell x hx
 have := D_eq hr
 have hc : c < y.bins.length := by omega
 have hd : ((d : Nat) : Int) < y.D := by omega
 unfold AL ay.bin
 rw [Bool.and_eq_true, gV, Bool.and_eq_true, decide_eq_true_eq, decide_eq_true_eq]
 show (0 ≤ ((c : Nat) : Int) ∧ ((c : Nat) : Int) ≤ _) ∧ ((d : Nat) : Int) ≥ 0 ∧ ((d : Nat) : Int) ≤ _
 omega
end
def mX (y : ay) (q : Sk) : Nat → Sk
  | 0 => q
  | k + 1 => aP (tryAll y.D ([], mX y q k) y.bins.length).2
theorem yf {y : ay} {q : Sk} : ∀ k, (mX y q k).taken = q.taken + (k * (y.bins.length * y.D + 1) : Nat)
  | 0 => by show q.taken = q.taken + ((0 * _ : Nat) : Int); rw [Nat.zero_mul]; omega
  | k + 1 => by
    show (aP _).taken = _
    rw [cG, (ug (y := y) (mX y q k) y.bins.length).taken, yf k, Nat.succ_mul]
    omega
end Go.Proofs.YtelbollidfdcjaaGreat
namespace Go.Proofs.YtelbollidfdcjaaGreat
open Go Go.T
set_option maxHeartbeats 8000000
def ownB (t u : Nat) (y : ay) : List Ty := [Ty.int .i64 y.days, Ty.vs t y.bins.length, Ty.sl dJ y.moves, Ty.vs u y.levels.length]
attribute [local irreducible] Md.D Md.K4 Md.nb Md.bs Md.first Md.gU Md.xX Md.many Md.src Md.dst Md.qA Md.day Md.num Md.ms Md.cM Md.fE Md.most Md.hs Md.iA Md.MB Md.nl Md.ls Md.mD cz k9 mA lT qH gp aP bF iT yU Md.tK Md.sv
attribute [local irreducible] ir fj nK qW jL jQ jI jN jJ q3 jR qd eI gu qj gx qy nth fV dm ak eB bodyPost Exit.then Exit.inBlock Code.wp Code.wpIn qg jT qZ q6 jM eR cm cq bodyPostM eM
set_option maxRecDepth 100000 in
theorem LQ (d : Md) (hd : d.Ok) (h : d.s.Ok 1000) : eR Tryz.prog 17 [1000] [(1000, Cont.cells 149 (cW d.s))] [Ty.ptr 1000 0, Ty.int .i64 d.days, Ty.int .i64 d.bins, Ty.int .i64 d.moves, Ty.int .i64 d.levels] [(1000, Cont.cells 149 (cW d.sk)), (49, Cont.vec dr 39 d.iA), (246, Cont.vec dK 102 d.mD)] (Ty.kH [Ty.agg (ownB 49 246 d.bY), qT d.real]) := by
 refine dw Tryz.func17 rfl (by decide) Tryz.ntmps17 (by exact Nat.le_of_ble_eq_true rfl) fun w0 M0 => ?_
 have h0 : 0 ≤ d.s.taken ∧ d.s.taken + 1000 ≤ 4611686018427387904 := h
 have o1 := hd.days
 have o2 := hd.bins
 have o3 := hd.moves
 have o4 := hd.levels
 have hD := d.Ja hd
 have hnb := d.DJ hd
 have hmn := d.za hd
 have hnl := d.KL hd
 have hs1 := cG d.s
 have hs2 := cG (aP d.s)
 have B := d.uG d.nb
 have b1 : d.first.length = d.nb := by unfold Md.first; exact B.len1
 have b2 : d.gU.length = d.nb := by unfold Md.gU; exact B.len2
 refine aG (aA ?_)
 refine cE rfl (by exact List.cons_ne_nil _ _) rfl ?_
 refine cE rfl (by exact List.cons_ne_nil _ _) rfl ?_
 refine aD (aC (aG (aA (mS rfl (bS rfl ?_)))))
 refine bu [(1000, 1000)] [] [(1000, Cont.cells 149 (cW (aP d.s)))] (uq d.s ⟨by omega, by omega⟩ 1 d.days (by omega) (by omega)) rfl rfl (by repeat (first | exact bK | refine aH ?_ ?_ | exact dN List.mem_cons_self | exact aM rfl rfl)) (bq (a := 1000) (b := 1000) (by exact List.mem_cons_self) rfl (ah (by exact List.mem_cons_self) rfl rfl rfl) pre_nil) (bG (a := 1000) (b := 1000) (by exact List.mem_cons_self) rfl (ah (by exact List.mem_cons_self) rfl rfl rfl) post_nil) (aM rfl rfl) ?_
 refine dD rfl rfl (by exact List.cons_ne_nil _ _) rfl (by repeat (first | exact (aY.nil : aY _ _ [] _) | (show aY _ _ ((_, _) :: _) _; apply aY.one; (· exact (rfl : _ = Ty.int _ _)); (· exact rfl)))) (by exact (rfl : _ = some [_, _, _, _])) ?_
 refine cE rfl (by exact List.cons_ne_nil _ _) rfl ?_
 refine b8 rfl rfl (by decide) rfl rfl rfl rfl rfl rfl ?_
 refine aD (aC (aG ?_))
 refine cr (B := live [(0, Ty.ptr 1000 0), (2, Ty.int .i64 d.bins), (3, Ty.int .i64 d.moves), (4, Ty.int .i64 d.levels), (10, Ty.ptr 11 0), (11, Ty.ptr 12 0), (12, Ty.ptr 13 0)] [(11, Cont.cells 27 [Ty.int .i64 0, Ty.ex (.slice none 0 0), Ty.ex (.slice none 0 0), Ty.ex (.slice none 0 0)]), (12, Cont.cells 30 [Ty.ex (.slice none 0 0), Ty.ex (.slice none 0 0)]), (13, Cont.cells 27 [Ty.int .i64 (iT d.s 1 d.days), Ty.ex (.slice none 0 0), Ty.ex (.slice none 0 0), Ty.ex (.slice none 0 0)]), (1000, Cont.cells 149 (cW (aP d.s)))]) ?_ ?_
 ·refine dG.mk' ?_ ?_
  ·(repeat (first | refine aB ?_ (Ty.aT _) | refine aB ?_ (Ty.aE _))); exact aI
  refine aF rfl (Cont.aE _) ?_; refine aF rfl (Cont.aE _) ?_; refine aF rfl (Cont.eA ⟨Ty.aE _, Ty.aE _, Ty.aE _, Ty.aE _, trivial⟩) ?_; refine aF rfl (Cont.aE _) ?_; exact aJ
 refine aA ?_
 refine cE rfl (by exact List.cons_ne_nil _ _) rfl ?_
 refine aD (aC (aG (aG ?_)))
 refine cr (B := live [(0, Ty.ptr 1000 0), (2, Ty.int .i64 d.bins), (3, Ty.int .i64 d.moves), (4, Ty.int .i64 d.levels), (10, Ty.ptr 11 0), (11, Ty.ptr 12 0), (12, Ty.ptr 13 0), (13, Ty.ptr 14 0)] [(11, Cont.cells 27 [Ty.int .i64 0, Ty.ex (.slice none 0 0), Ty.ex (.slice none 0 0), Ty.ex (.slice none 0 0)]), (12, Cont.cells 30 [Ty.ex (.slice none 0 0), Ty.ex (.slice none 0 0)]), (13, Cont.cells 27 [Ty.int .i64 (iT d.s 1 d.days), Ty.ex (.slice none 0 0), Ty.ex (.slice none 0 0), Ty.ex (.slice none 0 0)]), (14, Cont.cells 30 [Ty.ex (.slice none 0 0), Ty.ex (.slice none 0 0)]), (1000, Cont.cells 149 (cW (aP d.s)))]) ?_ ?_
 ·refine dG.mk' ?_ ?_
  ·(repeat (first | refine aB ?_ (Ty.aT _) | refine aB ?_ (Ty.aE _))); exact aI
  refine aF rfl (Cont.aE _) ?_; refine aF rfl (Cont.aE _) ?_; refine aF rfl (Cont.aE _) ?_; refine aF rfl (Cont.aE _) ?_; refine aF rfl (Cont.aE _) ?_; exact aJ
 refine aA (mS rfl (bS rfl ?_))
 refine bu [(1000, 1000)] [] [(1000, Cont.cells 149 (cW (aP (aP d.s))))] (uq (aP d.s) ⟨by omega, by omega⟩ 1 d.bins (by omega) (by omega)) rfl rfl (by repeat (first | exact bK | refine aH ?_ ?_ | exact dN List.mem_cons_self | exact aM rfl rfl)) (bq (a := 1000) (b := 1000) (by exact List.mem_cons_self) rfl (ah (by exact List.mem_cons_self) rfl rfl rfl) pre_nil) (bG (a := 1000) (b := 1000) (by exact List.mem_cons_self) rfl (ah (by exact List.mem_cons_self) rfl rfl rfl) post_nil) (aM rfl rfl) ?_
 refine bS rfl (aD (aC ?_))
 refine iF (s := 31) rfl (Ty.aa (show iT (aP d.s) 1 d.bins = ((d.nb : Nat) : Int) from (show d.K4 = _ from hnb.2) ▸ (by unfold Md.K4; rfl))) ?_
 refine gT (tg := 13) rfl (Cont.eA (l' := [Ty.int .i64 d.D, Ty.ex (.slice none 0 0), Ty.ex (.slice none 0 0), Ty.ex (.slice none 0 0)]) ⟨Ty.aa (by unfold Md.D; rfl), Ty.aE _, Ty.aE _, Ty.aE _, trivial⟩) ?_
 refine au ?_
 refine cg (fun (k : {k : Nat // k ≤ d.nb}) => live [(0, Ty.ptr 1000 0), (3, Ty.int .i64 d.moves), (4, Ty.int .i64 d.levels), (10, Ty.ptr 11 0), (11, Ty.ptr 12 0), (12, Ty.ptr 13 0), (13, Ty.ptr 14 0), (31, Ty.int .i64 (d.nb : Nat)), (32, Ty.int .i64 (k.1 : Nat))] [(11, Cont.cells 27 [Ty.int .i64 0, Ty.ex (.slice none 0 0), Ty.ex (.slice none 0 0), Ty.ex (.slice none 0 0)]), (12, Cont.cells 30 [Ty.ex (.slice none 0 0), Ty.ex (.slice none 0 0)]), (13, Cont.cells 27 [Ty.int .i64 d.D, Ty.row dr 39 49 (d.bs k.1).1.2, Ty.ex (.slice none 0 0), Ty.ex (.slice none 0 0)]), (14, Cont.cells 30 [Ty.row cy 3 40 (d.bs k.1).1.1, Ty.ex (.slice none 0 0)]), (1000, Cont.cells 149 (cW (d.bs k.1).2))]) (fun k => d.nb - k.1) (⟨0, by omega⟩) ?_ fun k => ?_
 ·(refine dG.mk' ?_ ?_ <;> (repeat' (first | exact aI | exact aJ | exact cT | refine aB ?_ (Ty.aT _) | refine aB ?_ (Ty.aE _) | refine aF rfl (Cont.aE _) ?_ | refine aF rfl (Cont.cS ?_) ?_ | refine bM ?_ (Ty.aE _) | refine bM ?_ ?_)))
  all_goals first | exact Ty.aa (congrArg (fun p => p.2.mixed) (Gw d)) | exact Ty.aa (congrArg (fun p => p.2.taken) (Gw d)) | exact Ty.eV (congrArg (fun p => p.2.grain) (Gw d)) | exact lY (congrArg (fun p => p.1.1) (Gw d)).symm | exact lY (congrArg (fun p => p.1.2) (Gw d)).symm
 have hk := k.2
 have BK := d.uG k.1
 have c1 := BK.len1
 have c2 := BK.len2
 have c3 := BK.taken
 have c4 := cP (d.bs k.1).2 60
 have c5 := cG (d.bs k.1).2
 refine aG (aA (bJ rfl rfl rfl (aD (aC (aG ?_)))))
 refine aj rfl (fun hc1 => ?_) (fun hc1 => ?_)
 ·
  refine aq (aC (aG (au (aG (aA (mS rfl ?_))))))
  refine bu [(1000, 1000)] [] [(1000, Cont.cells 149 (cW (aP (d.bs k.1).2)))] (gq (d.bs k.1).2 ⟨by omega, by omega⟩ 60) rfl rfl (by repeat (first | exact bK | refine aH ?_ ?_ | exact dN List.mem_cons_self | exact aM rfl rfl)) (bq (a := 1000) (b := 1000) (by exact List.mem_cons_self) rfl (ah (by exact List.mem_cons_self) rfl rfl rfl) pre_nil) (bG (a := 1000) (b := 1000) (by exact List.mem_cons_self) rfl (ah (by exact List.mem_cons_self) rfl rfl rfl) post_nil) (aM rfl rfl) ?_
  refine cJ rfl (aD (aC (aG (aA ?_))))
  refine aN rfl rfl rfl rfl rfl (by decide) ?_
  refine aU rfl rfl (by decide) rfl rfl rfl ?_
  refine bS rfl ?_
  refine bt (E := cy) (xs := [bF (d.bs k.1).2 60]) rfl rfl rfl rfl rfl (by decide) (by decide) (by repeat (first | exact (aY.nil : aY _ _ [] _) | (show aY _ _ ((_, _) :: _) _; apply aY.one; (· exact (rfl : _ = Ty.int _ _)); (· exact rfl)))) (by exact rfl) rfl ?_
  refine fZ rfl rfl (by decide) rfl rfl rfl rfl rfl rfl (by decide) (by (simp <;> omega)) (by (simp <;> omega)) ?_
  refine aN rfl rfl rfl rfl rfl (by decide) ?_
  refine cw rfl rfl (by decide) rfl rfl (by exact (rfl : _ = Ty.row _ _ _ _)) rfl (by exact Nat.le_of_ble_eq_true rfl) rfl rfl (by exact rfl) ?_
  refine aD (aC ?_)
  refine cr (B := live [(0, Ty.ptr 1000 0), (3, Ty.int .i64 d.moves), (4, Ty.int .i64 d.levels), (10, Ty.ptr 11 0), (11, Ty.ptr 12 0), (12, Ty.ptr 13 0), (13, Ty.ptr 14 0), (14, Ty.int .i64 (bF (d.bs k.1).2 60)), (31, Ty.int .i64 (d.nb : Nat)), (32, Ty.int .i64 (k.1 : Nat))] [(11, Cont.cells 27 [Ty.int .i64 0, Ty.ex (.slice none 0 0), Ty.ex (.slice none 0 0), Ty.ex (.slice none 0 0)]), (12, Cont.cells 30 [Ty.ex (.slice none 0 0), Ty.ex (.slice none 0 0)]), (13, Cont.cells 27 [Ty.int .i64 d.D, Ty.row dr 39 49 (d.bs k.1).1.2, Ty.ex (.slice none 0 0), Ty.ex (.slice none 0 0)]), (14, Cont.cells 30 [Ty.row cy 3 40 ((d.bs k.1).1.1 ++ [bF (d.bs k.1).2 60]), Ty.ex (.slice none 0 0)]), (1000, Cont.cells 149 (cW (aP (d.bs k.1).2)))]) ?_ ?_
  ·refine dG.mk' ?_ ?_
   ·(repeat (first | refine aB ?_ (Ty.aT _) | refine aB ?_ (Ty.aE _))); exact aI
   refine aF rfl (Cont.aE _) ?_; refine aF rfl (Cont.aE _) ?_; refine aF rfl (Cont.aE _) ?_; refine aF rfl (Cont.eA ⟨Ty.aE _, Ty.aE _, trivial⟩) ?_; refine aF rfl (Cont.aE _) ?_; exact aJ
  refine cZ mixed rfl ?_
  refine aN rfl rfl rfl rfl rfl (by decide) ?_
  refine aU rfl rfl (by decide) rfl rfl rfl ?_
  refine mS rfl (bS rfl ?_)
  refine bu [(1000, 1000)] [] [(1000, Cont.cells 149 (cW (aP (aP (aP (d.bs k.1).2)))))] (Cx (aP (d.bs k.1).2) ⟨by omega, by omega⟩ (bF (d.bs k.1).2 60) 12 (by omega) (by omega)) rfl rfl (by repeat (first | exact bK | refine aH ?_ ?_ | exact dN List.mem_cons_self | exact aM rfl rfl)) (bq (a := 1000) (b := 1000) (by exact List.mem_cons_self) rfl (ah (by exact List.mem_cons_self) rfl rfl rfl) pre_nil) (bG (a := 1000) (b := 1000) (by exact List.mem_cons_self) rfl (ah (by exact List.mem_cons_self) rfl rfl rfl) post_nil) (aM rfl rfl) ?_
  refine dD rfl rfl (by exact List.cons_ne_nil _ _) rfl (by repeat (first | exact (aY.nil : aY _ _ [] _) | (show aY _ _ ((_, _) :: _) _; apply aY.one; (· exact (rfl : _ = Ty.int _ _)); (· exact rfl)) | (show aY _ _ ((_, _) :: _) _; apply aY.agg; (· exact (rfl : _ = Ty.agg _))))) (by exact (rfl : _ = some [_, _, _])) ?_
  refine bt (E := dr) (xs := [⟨300, gp (aP (d.bs k.1).2) (bF (d.bs k.1).2 60) 12⟩]) rfl rfl rfl rfl rfl (by decide) (by decide) (by repeat (first | exact (aY.nil : aY _ _ [] _) | (show aY _ _ ((_, _) :: _) _; apply aY.agg; (· exact (rfl : _ = Ty.agg _))))) (by exact rfl) rfl ?_
  refine fZ rfl rfl (by decide) rfl rfl rfl rfl rfl rfl (by decide) (by (simp <;> omega)) (by (simp <;> omega)) ?_
  refine aN rfl rfl rfl rfl rfl (by decide) ?_
  refine cw rfl rfl (by decide) rfl rfl (by exact (rfl : _ = Ty.row _ _ _ _)) rfl (by exact Nat.le_of_ble_eq_true rfl) rfl rfl (by exact rfl) ?_
  refine aD ?_
  refine ⟨by kernel_rfl, ?_⟩
  refine bV (aC (aA ?_))
  refine cD rfl rfl (by omega) (by omega) ?_
  refine bS rfl (aD ?_)
  refine bk (⟨k.1 + 1, by omega⟩) ?_ (by show d.nb - (k.1 + 1) < d.nb - k.1; omega)
  (refine dG.mk' ?_ ?_ <;> (repeat' (first | exact aI | exact aJ | exact cT | refine aB ?_ (Ty.aT _) | refine aB ?_ (Ty.aE _) | refine aF rfl (Cont.aE _) ?_ | refine aF rfl (Cont.cS ?_) ?_ | refine bM ?_ (Ty.aE _) | refine bM ?_ ?_)))
  all_goals skip
  all_goals first | exact Ty.aa (congrArg (fun p => p.2.mixed) (Hx d _)) | exact Ty.aa (congrArg (fun p => p.2.taken) (Hx d _)) | exact Ty.eV (congrArg (fun p => p.2.grain) (Hx d _)) | exact Ty.eU (congrArg (fun p => p.1.1) (Hx d _)) | exact Ty.eU (congrArg (fun p => p.1.2) (Hx d _))
 refine cj (aQ (aQ (av rfl (aC (aG ?_)))))
 obtain ⟨k, hk⟩ := k
 obtain rfl : k = d.nb := by have h1 : ¬ (k : Int) < (d.nb : Int) := hc1; have h2 : k ≤ d.nb := hk; omega
 have b3 := B.taken
 have b4 := cG (d.bs d.nb).2
 refine aA (mS rfl (bS rfl ?_))
 refine cD rfl rfl (by omega) (by omega) ?_
 refine bu [(1000, 1000)] [] [(1000, Cont.cells 149 (cW (aP (d.bs d.nb).2)))] (gq (d.bs d.nb).2 ⟨by omega, by omega⟩ _) rfl rfl (by repeat (first | exact bK | refine aH ?_ ?_ | exact dN List.mem_cons_self | exact aM rfl rfl)) (bq (a := 1000) (b := 1000) (by exact List.mem_cons_self) rfl (ah (by exact List.mem_cons_self) rfl rfl rfl) pre_nil) (bG (a := 1000) (b := 1000) (by exact List.mem_cons_self) rfl (ah (by exact List.mem_cons_self) rfl rfl rfl) post_nil) (aM rfl rfl) ?_
 refine cJ rfl (aD (aC (aG (aG ?_))))
 refine iF (s := 15) rfl (Ty.aa (show bF (d.bs d.nb).2 (d.moves + 1) = ((d.many : Nat) : Int) from hmn.2 ▸ (by unfold Md.xX; rfl))) ?_
 refine gT (tg := 13) rfl (Cont.eA (l' := [Ty.int .i64 d.D, Ty.row dr 39 49 d.gU, Ty.ex (.slice none 0 0), Ty.ex (.slice none 0 0)]) ⟨Ty.aE _, Ty.eU (by unfold Md.gU; rfl), Ty.aE _, Ty.aE _, trivial⟩) ?_
 refine gT (tg := 14) rfl (Cont.eA (l' := [Ty.row cy 3 40 d.first, Ty.ex (.slice none 0 0)]) ⟨Ty.eU (by unfold Md.first; rfl), Ty.aE _, trivial⟩) ?_
 refine aA (bS rfl (bS rfl (aD (aC (au ?_)))))
 refine cg (fun (i : {i : Nat // i ≤ d.many}) => live [(0, Ty.ptr 1000 0), (4, Ty.int .i64 d.levels), (10, Ty.ptr 11 0), (11, Ty.ptr 12 0), (12, Ty.ptr 13 0), (13, Ty.ptr 14 0), (15, Ty.int .i64 (d.many : Nat)), (56, Ty.int .i64 (d.many : Nat)), (57, Ty.int .i64 (i.1 : Nat))] [(11, Cont.cells 27 [Ty.int .i64 0, Ty.ex (.slice none 0 0), Ty.ex (.slice none 0 0), Ty.ex (.slice none 0 0)]), (12, Cont.cells 30 [Ty.ex (.slice none 0 0), Ty.ex (.slice none 0 0)]), (13, Cont.cells 27 [Ty.int .i64 d.D, Ty.row dr 39 49 d.gU, Ty.row dJ 41 175 (d.ms i.1).1.1, Ty.ex (.slice none 0 0)]), (14, Cont.cells 30 [Ty.row cy 3 40 d.first, Ty.row cy 3 180 (d.ms i.1).1.2]), (1000, Cont.cells 149 (cW (d.ms i.1).2))]) (fun i => d.many - i.1) (⟨0, by omega⟩) ?_ fun i => ?_
 ·(refine dG.mk' ?_ ?_ <;> (repeat' (first | exact aI | exact aJ | exact cT | refine aB ?_ (Ty.aT _) | refine aB ?_ (Ty.aE _) | refine aF rfl (Cont.aE _) ?_ | refine aF rfl (Cont.cS ?_) ?_ | refine bM ?_ (Ty.aE _) | refine bM ?_ ?_)))
  all_goals first | exact Ty.aa (congrArg (fun p => p.2.mixed) (G4 d)) | exact Ty.aa (congrArg (fun p => p.2.taken) (G4 d)) | exact Ty.eV (congrArg (fun p => p.2.grain) (G4 d)) | exact lY (congrArg (fun p => p.1.1) (G4 d)).symm | exact lY (congrArg (fun p => p.1.2) (G4 d)).symm
 have hi := i.2
 have hP := d.uA hd i.1 hi
 have e1 := hP.len1
 have e2 := hP.len2
 have e3 := hP.taken
 have e4 := d.y4 (d.ms i.1).2
 have e5 := cG (d.qA (d.ms i.1).2)
 have e6 := cP (d.qA (d.ms i.1).2) 40
 have e7 := cG (d.ms i.1).2
 have e8 := cG (aP (d.ms i.1).2)
 refine aG (aA (bJ rfl rfl rfl (aD (aC (aG ?_)))))
 refine aj rfl (fun hc2 => ?_) (fun hc2 => ?_)
 ·
  refine aq (aC (aG (au (aG (aA (bS rfl (cJ rfl (aD (aC ?_)))))))))
  refine aG ?_
  have hdv := wX (D := d.D) (i := i.1) (n := d.many) hD.1 (by omega)
  have hmul : 0 ≤ (i.1 : Int) * d.D ∧ (i.1 : Int) * d.D ≤ 10 * 5 := ⟨Int.mul_nonneg (by omega) (by omega), Int.mul_le_mul (by omega) hD.2 (by omega) (by omega)⟩
  have hday : 0 ≤ d.day i.1 ∧ d.day i.1 < d.D := by unfold Md.day; exact hdv.1
  have hCI : ∀ (b t : Int), 0 ≤ b → b.toNat < d.first.length → 0 ≤ cz (d.yd (d.ms i.1).1.1) (d.am (d.ms i.1).1.2) b t ∧ cz (d.yd (d.ms i.1).1.1) (d.am (d.ms i.1).1.2) b t ≤ 300 := fun b t g0 g1 => by
   have := hP.cont b.toNat t (by omega)
   rwa [Int.toNat_of_nonneg g0] at this
  refine cZ mixed rfl (bS rfl ?_)
  refine aN rfl rfl rfl rfl rfl (by decide) ?_
  refine aU rfl rfl (by decide) rfl rfl rfl ?_
  refine D8 rfl rfl (by omega) (by omega) ?_
  refine bS rfl ?_
  refine Mm rfl rfl (by omega) ?_
  refine mS rfl ?_
  refine aN rfl rfl rfl rfl rfl (by decide) ?_
  refine aU rfl rfl (by decide) rfl rfl rfl ?_
  refine m6 rfl rfl rfl ?_
  refine iC rfl rfl (by omega) (by omega) ?_
  refine bu [(1000, 1000)] [] [(1000, Cont.cells 149 (cW (aP (d.ms i.1).2)))] (uq (d.ms i.1).2 ⟨by omega, by omega⟩ (-1) ((d.gU.length : Int) - 1) (by omega) (by omega)) rfl rfl (by repeat (first | exact bK | refine aH ?_ ?_ | exact dN List.mem_cons_self | exact aM rfl rfl)) (bq (a := 1000) (b := 1000) (by exact List.mem_cons_self) rfl (ah (by exact List.mem_cons_self) rfl rfl rfl) pre_nil) (bG (a := 1000) (b := 1000) (by exact List.mem_cons_self) rfl (ah (by exact List.mem_cons_self) rfl rfl rfl) post_nil) (aM rfl rfl) ?_
  refine mS rfl ?_
  refine aN rfl rfl rfl rfl rfl (by decide) ?_
  refine aU rfl rfl (by decide) rfl rfl rfl ?_
  refine m6 rfl rfl rfl ?_
  refine iC rfl rfl (by omega) (by omega) ?_
  refine bu [(1000, 1000)] [] [(1000, Cont.cells 149 (cW (aP (aP (d.ms i.1).2))))] (uq (aP (d.ms i.1).2) ⟨by omega, by omega⟩ (-1) ((d.gU.length : Int) - 1) (by omega) (by omega)) rfl rfl (by repeat (first | exact bK | refine aH ?_ ?_ | exact dN List.mem_cons_self | exact aM rfl rfl)) (bq (a := 1000) (b := 1000) (by exact List.mem_cons_self) rfl (ah (by exact List.mem_cons_self) rfl rfl rfl) pre_nil) (bG (a := 1000) (b := 1000) (by exact List.mem_cons_self) rfl (ah (by exact List.mem_cons_self) rfl rfl rfl) post_nil) (aM rfl rfl) ?_
  refine dD rfl rfl (by exact List.cons_ne_nil _ _) rfl (by repeat (first | exact (aY.nil : aY _ _ [] _) | (show aY _ _ ((_, _) :: _) _; apply aY.one; (· exact (rfl : _ = Ty.int _ _)); (· exact rfl)))) (by exact rfl) ?_
  refine cE rfl (by exact List.cons_ne_nil _ _) rfl ?_
  refine b8 rfl rfl (by decide) rfl rfl rfl rfl rfl rfl ?_
  refine aD ?_
  refine ⟨by kernel_rfl, ?_⟩
  refine aC ?_
  refine kC (J := live [(0, Ty.ptr 1000 0), (4, Ty.int .i64 d.levels), (10, Ty.ptr 11 0), (11, Ty.ptr 12 0), (12, Ty.ptr 13 0), (13, Ty.ptr 14 0), (15, Ty.int .i64 (d.many : Nat)), (56, Ty.int .i64 (d.many : Nat)), (57, Ty.int .i64 (i.1 : Nat)), (17, Ty.ptr 18 0)] [(11, Cont.cells 27 [Ty.int .i64 0, Ty.ex (.slice none 0 0), Ty.ex (.slice none 0 0), Ty.ex (.slice none 0 0)]), (12, Cont.cells 30 [Ty.ex (.slice none 0 0), Ty.ex (.slice none 0 0)]), (13, Cont.cells 27 [Ty.int .i64 d.D, Ty.row dr 39 49 d.gU, Ty.row dJ 41 175 (d.ms i.1).1.1, Ty.ex (.slice none 0 0)]), (14, Cont.cells 30 [Ty.row cy 3 40 d.first, Ty.row cy 3 180 (d.ms i.1).1.2]), (18, Cont.cells 41 [Ty.int .i64 (d.day i.1), Ty.int .i64 (d.src (d.ms i.1).2), Ty.int .i64 (d.dst (d.ms i.1).2), Ty.int .i64 0, Ty.int .i64 0]), (1000, Cont.cells 149 (cW (d.qA (d.ms i.1).2)))]) ?_ ?_
  ·
   refine aG ?_
   refine gT (tg := 18) rfl (Cont.eA (l' := [Ty.int .i64 (d.day i.1), Ty.int .i64 (d.tK (d.ms i.1).2), Ty.int .i64 (d.sv (d.ms i.1).2), Ty.int .i64 0, Ty.int .i64 0]) ⟨Ty.aa (by unfold Md.day; exact IntWalk.i64_in _ (by have := hdv.1; omega)), Ty.aa (by unfold Md.tK; rw [b2]), Ty.aa (by unfold Md.sv; rw [b2]), Ty.aE _, Ty.aE _, trivial⟩) ?_
   refine cr (B := live [(0, Ty.ptr 1000 0), (4, Ty.int .i64 d.levels), (10, Ty.ptr 11 0), (11, Ty.ptr 12 0), (12, Ty.ptr 13 0), (13, Ty.ptr 14 0), (15, Ty.int .i64 (d.many : Nat)), (56, Ty.int .i64 (d.many : Nat)), (57, Ty.int .i64 (i.1 : Nat)), (17, Ty.ptr 18 0)] [(11, Cont.cells 27 [Ty.int .i64 0, Ty.ex (.slice none 0 0), Ty.ex (.slice none 0 0), Ty.ex (.slice none 0 0)]), (12, Cont.cells 30 [Ty.ex (.slice none 0 0), Ty.ex (.slice none 0 0)]), (13, Cont.cells 27 [Ty.int .i64 d.D, Ty.row dr 39 49 d.gU, Ty.row dJ 41 175 (d.ms i.1).1.1, Ty.ex (.slice none 0 0)]), (14, Cont.cells 30 [Ty.row cy 3 40 d.first, Ty.row cy 3 180 (d.ms i.1).1.2]), (18, Cont.cells 41 [Ty.int .i64 (d.day i.1), Ty.int .i64 (d.tK (d.ms i.1).2), Ty.int .i64 (d.sv (d.ms i.1).2), Ty.int .i64 0, Ty.int .i64 0]), (1000, Cont.cells 149 (cW (aP (aP (d.ms i.1).2))))]) ?_ ?_
   ·refine dG.mk' ?_ ?_
    ·(repeat (first | refine aB ?_ (Ty.aT _) | refine aB ?_ (Ty.aE _))); exact aI
    refine aF rfl (Cont.aE _) ?_; refine aF rfl (Cont.aE _) ?_; refine aF rfl (Cont.aE _) ?_; refine aF rfl (Cont.aE _) ?_; refine aF rfl (Cont.aE _) ?_; refine aF rfl (Cont.aE _) ?_; exact aJ
   refine aA ?_
   refine aN rfl rfl rfl rfl rfl (by decide) ?_
   refine aU rfl rfl (by decide) rfl rfl rfl ?_
   refine aN rfl rfl rfl rfl rfl (by decide) ?_
   refine aU rfl rfl (by decide) rfl rfl rfl ?_
   refine bJ rfl rfl rfl (aD (aC ?_))
   refine aj rfl (fun hc3 => ?_) (fun hc3 => ?_)
   ·
    refine aA (mS rfl ?_)
    refine aN rfl rfl rfl rfl rfl (by decide) ?_
    refine aU rfl rfl (by decide) rfl rfl rfl ?_
    refine m6 rfl rfl rfl ?_
    refine bu [(1000, 1000)] [] [(1000, Cont.cells 149 (cW (aP (aP (aP (d.ms i.1).2)))))] (gq (aP (aP (d.ms i.1).2)) ⟨by omega, by omega⟩ _) rfl rfl (by repeat (first | exact bK | refine aH ?_ ?_ | exact dN List.mem_cons_self | exact aM rfl rfl)) (bq (a := 1000) (b := 1000) (by exact List.mem_cons_self) rfl (ah (by exact List.mem_cons_self) rfl rfl rfl) pre_nil) (bG (a := 1000) (b := 1000) (by exact List.mem_cons_self) rfl (ah (by exact List.mem_cons_self) rfl rfl rfl) post_nil) (aM rfl rfl) ?_
    refine aN rfl rfl rfl rfl rfl (by decide) ?_
    refine cw rfl rfl (by decide) rfl rfl (by exact (rfl : _ = Ty.int _ _)) rfl (by exact Nat.le_of_ble_eq_true rfl) rfl rfl (by exact rfl) ?_
    refine aN rfl rfl rfl rfl rfl (by decide) ?_
    refine cw rfl rfl (by decide) rfl rfl (by exact (rfl : _ = Ty.int _ _)) rfl (by exact Nat.le_of_ble_eq_true rfl) rfl rfl (by exact rfl) ?_
    refine aD (ew ?_)
    (refine dG.mk' ?_ ?_ <;> (repeat' (first | exact aI | exact aJ | exact cT | refine aB ?_ (Ty.aT _) | refine aB ?_ (Ty.aE _) | refine aF rfl (Cont.aE _) ?_ | refine aF rfl (Cont.cS ?_) ?_ | refine bM ?_ (Ty.aE _) | refine bM ?_ ?_)))
    all_goals first | exact Ty.aa (Av hc3).1.1 | exact Ty.aa (by rw [b2]; exact (Av hc3).1.2) | exact Ty.aa (congrArg (fun p => p.mixed) (Av hc3).2) | exact Ty.aa (congrArg (fun p => p.taken) (Av hc3).2) | exact Ty.eV (congrArg (fun p => p.grain) (Av hc3).2)
   refine aq (ew ?_)
   (refine dG.mk' ?_ ?_ <;> (repeat' (first | exact aI | exact aJ | exact cT | refine aB ?_ (Ty.aT _) | refine aB ?_ (Ty.aE _) | refine aF rfl (Cont.aE _) ?_ | refine aF rfl (Cont.cS ?_) ?_ | refine bM ?_ (Ty.aE _) | refine bM ?_ ?_)))
   all_goals first | exact Ty.aa (BL hc3).1.1 | exact Ty.aa (BL hc3).1.2 | exact Ty.aa (congrArg (fun p => p.mixed) (BL hc3).2) | exact Ty.aa (congrArg (fun p => p.taken) (BL hc3).2) | exact Ty.eV (congrArg (fun p => p.grain) (BL hc3).2)
  refine aG (aA (mS rfl ?_))
  refine bu [(1000, 1000)] [] [(1000, Cont.cells 149 (cW (aP (d.qA (d.ms i.1).2))))] (gq (d.qA (d.ms i.1).2) ⟨by omega, by omega⟩ 40) rfl rfl (by repeat (first | exact bK | refine aH ?_ ?_ | exact dN List.mem_cons_self | exact aM rfl rfl)) (bq (a := 1000) (b := 1000) (by exact List.mem_cons_self) rfl (ah (by exact List.mem_cons_self) rfl rfl rfl) pre_nil) (bG (a := 1000) (b := 1000) (by exact List.mem_cons_self) rfl (ah (by exact List.mem_cons_self) rfl rfl rfl) post_nil) (aM rfl rfl) ?_
  refine cJ rfl (aD (aC ?_))
  refine kC (J := live [(0, Ty.ptr 1000 0), (4, Ty.int .i64 d.levels), (10, Ty.ptr 11 0), (11, Ty.ptr 12 0), (12, Ty.ptr 13 0), (13, Ty.ptr 14 0), (15, Ty.int .i64 (d.many : Nat)), (56, Ty.int .i64 (d.many : Nat)), (57, Ty.int .i64 (i.1 : Nat)), (17, Ty.ptr 18 0), (18, Ty.int .i64 (k9 (d.yd (d.ms i.1).1.1) (d.am (d.ms i.1).1.2) (d.mv (d.ms i.1).2 i.1) (bF (d.qA (d.ms i.1).2) 40)))] [(11, Cont.cells 27 [Ty.int .i64 0, Ty.ex (.slice none 0 0), Ty.ex (.slice none 0 0), Ty.ex (.slice none 0 0)]), (12, Cont.cells 30 [Ty.ex (.slice none 0 0), Ty.ex (.slice none 0 0)]), (13, Cont.cells 27 [Ty.int .i64 d.D, Ty.row dr 39 49 d.gU, Ty.row dJ 41 175 (d.ms i.1).1.1, Ty.ex (.slice none 0 0)]), (14, Cont.cells 30 [Ty.row cy 3 40 d.first, Ty.row cy 3 180 (d.ms i.1).1.2]), (18, Cont.cells 41 [Ty.int .i64 (d.day i.1), Ty.int .i64 (d.src (d.ms i.1).2), Ty.int .i64 (d.dst (d.ms i.1).2), Ty.int .i64 0, Ty.int .i64 0]), (1000, Cont.cells 149 (cW (aP (d.qA (d.ms i.1).2))))]) ?_ ?_
  ·
   refine aG (aA ?_)
   refine aN rfl rfl rfl rfl rfl (by decide) ?_
   refine aU rfl rfl (by decide) rfl rfl rfl ?_
   refine bJ rfl rfl rfl (aD (aC ?_))
   refine dL rfl (fun hc4 => ?_) (fun hc4 => ?_)
   ·
    refine aA (bS rfl ?_)
    refine bh rfl rfl (by decide) rfl rfl (by exact Nat.le_of_ble_eq_true rfl) ?_
    refine bh rfl rfl (by decide) rfl rfl (by exact Nat.le_of_ble_eq_true rfl) ?_
    refine aN rfl rfl rfl rfl rfl (by decide) ?_
    refine aU rfl rfl (by decide) rfl rfl rfl ?_
    refine aN rfl rfl rfl rfl rfl (by decide) ?_
    refine aU rfl rfl (by decide) rfl rfl rfl ?_
    refine dO [49, 175, 40, 180] (iH (d.yd (d.ms i.1).1.1) (d.am (d.ms i.1).1.2) (oU hd hi hP) (d.src (d.ms i.1).2) (d.day i.1) (AA hd hc4 b1).1 (AA hd hc4 b1).2) rfl (aL (hH (aL (af (bI rfl rfl)) (aL (af (fI rfl)) (aL (af (fI rfl)) (aL (af o7) bU))))) (aL (hH (aL (af (fI rfl)) (aL (af (fI rfl)) bU))) (aL (af (bI rfl rfl)) (aL (af (bI rfl rfl)) bU)))) (by exact dA _ _) ?_
    refine qL rfl rfl (cJ rfl (aD (ew ?_)))
    (refine dG.mk' ?_ ?_ <;> (repeat' (first | exact aI | exact aJ | refine aB ?_ (Ty.aT _) | refine aB ?_ (Ty.aE _) | refine aF rfl (Cont.aE _) ?_ | refine aB ?_ ?_)))
    all_goals exact Ty.aa (L7 hc4)
   refine aq (ew ?_)
   (refine dG.mk' ?_ ?_ <;> (repeat' (first | exact aI | exact aJ | refine aB ?_ (Ty.aT _) | refine aB ?_ (Ty.aE _) | refine aF rfl (Cont.aE _) ?_ | refine aB ?_ ?_)))
   all_goals exact Ty.aa (Mq hc4)
  refine kC (J := live [(0, Ty.ptr 1000 0), (4, Ty.int .i64 d.levels), (10, Ty.ptr 11 0), (11, Ty.ptr 12 0), (12, Ty.ptr 13 0), (13, Ty.ptr 14 0), (15, Ty.int .i64 (d.many : Nat)), (56, Ty.int .i64 (d.many : Nat)), (57, Ty.int .i64 (i.1 : Nat)), (17, Ty.ptr 18 0), (18, Ty.int .i64 (mA (d.yd (d.ms i.1).1.1) (d.am (d.ms i.1).1.2) (d.mv (d.ms i.1).2 i.1) (k9 (d.yd (d.ms i.1).1.1) (d.am (d.ms i.1).1.2) (d.mv (d.ms i.1).2 i.1) (bF (d.qA (d.ms i.1).2) 40))))] [(11, Cont.cells 27 [Ty.int .i64 0, Ty.ex (.slice none 0 0), Ty.ex (.slice none 0 0), Ty.ex (.slice none 0 0)]), (12, Cont.cells 30 [Ty.ex (.slice none 0 0), Ty.ex (.slice none 0 0)]), (13, Cont.cells 27 [Ty.int .i64 d.D, Ty.row dr 39 49 d.gU, Ty.row dJ 41 175 (d.ms i.1).1.1, Ty.ex (.slice none 0 0)]), (14, Cont.cells 30 [Ty.row cy 3 40 d.first, Ty.row cy 3 180 (d.ms i.1).1.2]), (18, Cont.cells 41 [Ty.int .i64 (d.day i.1), Ty.int .i64 (d.src (d.ms i.1).2), Ty.int .i64 (d.dst (d.ms i.1).2), Ty.int .i64 0, Ty.int .i64 0]), (1000, Cont.cells 149 (cW (aP (d.qA (d.ms i.1).2))))]) ?_ ?_
  ·
   refine aG (aA ?_)
   refine aN rfl rfl rfl rfl rfl (by decide) ?_
   refine aU rfl rfl (by decide) rfl rfl rfl ?_
   refine bJ rfl rfl rfl (aD (aC ?_))
   refine dL rfl (fun hc5 => ?_) (fun hc5 => ?_)
   ·
    have hq := hCI (d.dst (d.ms i.1).2) (d.day i.1 + 1) (zS hd hc5 b1).1 (zS hd hc5 b1).2
    refine aA (bS rfl ?_)
    refine bh rfl rfl (by decide) rfl rfl (by exact Nat.le_of_ble_eq_true rfl) ?_
    refine bh rfl rfl (by decide) rfl rfl (by exact Nat.le_of_ble_eq_true rfl) ?_
    refine aN rfl rfl rfl rfl rfl (by decide) ?_
    refine aU rfl rfl (by decide) rfl rfl rfl ?_
    refine aN rfl rfl rfl rfl rfl (by decide) ?_
    refine aU rfl rfl (by decide) rfl rfl rfl ?_
    refine cD rfl rfl (by omega) (by omega) ?_
    refine dO [49, 175, 40, 180] (iH (d.yd (d.ms i.1).1.1) (d.am (d.ms i.1).1.2) (oU hd hi hP) (d.dst (d.ms i.1).2) (d.day i.1 + 1) (zS hd hc5 b1).1 (zS hd hc5 b1).2) rfl (aL (hH (aL (af (bI rfl rfl)) (aL (af (fI rfl)) (aL (af (fI rfl)) (aL (af o7) bU))))) (aL (hH (aL (af (fI rfl)) (aL (af (fI rfl)) bU))) (aL (af (bI rfl rfl)) (aL (af (bI rfl rfl)) bU)))) (by exact dA _ _) ?_
    refine iC rfl rfl (by omega) (by omega) ?_
    refine qL rfl rfl (cJ rfl (aD (ew ?_)))
    (refine dG.mk' ?_ ?_ <;> (repeat' (first | exact aI | exact aJ | refine aB ?_ (Ty.aT _) | refine aB ?_ (Ty.aE _) | refine aF rfl (Cont.aE _) ?_ | refine aB ?_ ?_)))
    all_goals exact Ty.aa (Kx hc5)
   refine aq (ew ?_)
   (refine dG.mk' ?_ ?_ <;> (repeat' (first | exact aI | exact aJ | refine aB ?_ (Ty.aT _) | refine aB ?_ (Ty.aE _) | refine aF rfl (Cont.aE _) ?_ | refine aB ?_ ?_)))
   all_goals exact Ty.aa (Ml hc5)
  refine aG (aG (aA ?_))
  refine aN rfl rfl rfl rfl rfl (by decide) ?_
  refine aU rfl rfl (by decide) rfl rfl rfl ?_
  refine m6 rfl rfl rfl (bS rfl (aD (aC (au ?_))))
  refine cg (fun (k : {k : Nat // k ≤ (d.ms i.1).1.1.length}) => live [(0, Ty.ptr 1000 0), (4, Ty.int .i64 d.levels), (10, Ty.ptr 11 0), (11, Ty.ptr 12 0), (12, Ty.ptr 13 0), (13, Ty.ptr 14 0), (15, Ty.int .i64 (d.many : Nat)), (56, Ty.int .i64 (d.many : Nat)), (57, Ty.int .i64 (i.1 : Nat)), (17, Ty.ptr 18 0), (18, Ty.int .i64 (lT (d.yd (d.ms i.1).1.1) (d.am (d.ms i.1).1.2) (d.mv (d.ms i.1).2 i.1) (mA (d.yd (d.ms i.1).1.1) (d.am (d.ms i.1).1.2) (d.mv (d.ms i.1).2 i.1) (k9 (d.yd (d.ms i.1).1.1) (d.am (d.ms i.1).1.2) (d.mv (d.ms i.1).2 i.1) (bF (d.qA (d.ms i.1).2) 40))) k.1)), (120, Ty.row dJ 41 175 (d.ms i.1).1.1), (121, Ty.int .i64 (d.ms i.1).1.1.length), (122, Ty.int .i64 (k.1 : Nat))] [(11, Cont.cells 27 [Ty.int .i64 0, Ty.ex (.slice none 0 0), Ty.ex (.slice none 0 0), Ty.ex (.slice none 0 0)]), (12, Cont.cells 30 [Ty.ex (.slice none 0 0), Ty.ex (.slice none 0 0)]), (13, Cont.cells 27 [Ty.int .i64 d.D, Ty.row dr 39 49 d.gU, Ty.row dJ 41 175 (d.ms i.1).1.1, Ty.ex (.slice none 0 0)]), (14, Cont.cells 30 [Ty.row cy 3 40 d.first, Ty.row cy 3 180 (d.ms i.1).1.2]), (18, Cont.cells 41 [Ty.int .i64 (d.day i.1), Ty.int .i64 (d.src (d.ms i.1).2), Ty.int .i64 (d.dst (d.ms i.1).2), Ty.int .i64 0, Ty.int .i64 0]), (1000, Cont.cells 149 (cW (aP (d.qA (d.ms i.1).2))))]) (fun k => (d.ms i.1).1.1.length - k.1) (⟨0, by omega⟩) ?_ fun k => ?_
  ·(refine dG.mk' ?_ ?_ <;> (repeat' (first | exact aI | exact aJ | refine aB ?_ (Ty.aT _) | refine aB ?_ (Ty.aE _) | refine aF rfl (Cont.aE _) ?_ | refine aB ?_ ?_)))
   all_goals exact Ty.aa NR
  have hk := k.2
  refine aG (aA (bJ rfl rfl rfl (aD (aC (aG ?_)))))
  refine aj rfl (fun hc6 => ?_) (fun hc6 => ?_)
  ·
   refine aq (aC (aG (au (aG (aA (bS rfl ?_))))))
   refine sK rfl rfl rfl rfl rfl rfl (by omega) ?_
   refine Ci rfl rfl rfl (by exact Nat.le_of_ble_eq_true rfl) ?_
   refine cE rfl (by exact List.cons_ne_nil _ _) rfl ?_
   refine cJ rfl ?_
   refine b8 rfl rfl (by decide) rfl rfl rfl rfl rfl rfl ?_
   refine aD (aC (aG (aA ?_)))
   refine aN rfl rfl rfl rfl rfl (by decide) ?_
   refine aU rfl rfl (by decide) rfl rfl rfl ?_
   refine aN rfl rfl rfl rfl rfl (by decide) ?_
   refine aU rfl rfl (by decide) rfl rfl rfl ?_
   refine bJ rfl rfl rfl (gj rfl ?_)
   apply aV (s := 132) rfl rfl rfl
   ·intro hg; apply aX; (refine aN rfl rfl rfl rfl rfl (by decide) ?_); refine aD ?_; exact rfl
   ·exact rfl
   ·exact rfl
   apply aV (s := 132) rfl rfl rfl
   ·intro hg; apply aS (s := 133) rfl (by (rw [hg]; rfl)); apply aX; (refine aU rfl rfl (by decide) rfl rfl rfl ?_); refine aD ?_; exact rfl
   ·exact rfl
   ·exact rfl
   apply aV (s := 132) rfl rfl rfl
   ·intro hg; apply aX; (refine aN rfl rfl rfl rfl rfl (by decide) ?_); refine aD ?_; exact rfl
   ·exact rfl
   ·exact rfl
   apply aV (s := 132) rfl rfl rfl
   ·intro hg; apply aS (s := 135) rfl (by (rw [hg]; rfl)); apply aX; (refine aU rfl rfl (by decide) rfl rfl rfl ?_); refine aD ?_; exact rfl
   ·exact rfl
   ·exact rfl
   apply aV (s := 132) rfl rfl rfl
   ·intro hg; apply aS (s := 134) rfl (by (rw [hg]; rfl)); apply aS (s := 136) rfl (by (rw [hg]; rfl)); apply aX; (refine bJ rfl rfl rfl ?_); refine aD ?_; exact rfl
   ·exact rfl
   ·exact rfl
   refine ep rfl rfl (gj rfl ?_)
   apply aV (s := 139) rfl rfl rfl
   ·intro hg; apply aX; (refine aN rfl rfl rfl rfl rfl (by decide) ?_); refine aD ?_; exact rfl
   ·exact rfl
   ·exact rfl
   apply aV (s := 139) rfl rfl rfl
   ·intro hg; apply aS (s := 140) rfl (by (rw [hg]; rfl)); apply aX; (refine aU rfl rfl (by decide) rfl rfl rfl ?_); refine aD ?_; exact rfl
   ·exact rfl
   ·exact rfl
   apply aV (s := 139) rfl rfl rfl
   ·intro hg; apply aS (s := 141) rfl (by (rw [hg]; rfl)); apply aX; (refine bJ rfl rfl rfl ?_); refine aD ?_; exact rfl
   ·exact rfl
   ·exact rfl
   refine ep rfl rfl (aD (aC ?_))
   refine ct rfl (fun hc7 => ?_) (fun hc7 => ?_)
   ·
    have hsr := AA hd (Ll (y := (d.yd (d.ms i.1).1.1)) (m := (d.mv (d.ms i.1).2 i.1)) hc7) b1
    have hq := hCI (d.src (d.ms i.1).2) (d.day i.1) hsr.1 hsr.2
    have hmk := hP.num _ (cx (show k.1 < (d.ms i.1).1.2.length by omega))
    refine cZ mixed rfl (bS rfl ?_)
    refine bh rfl rfl (by decide) rfl rfl (by exact Nat.le_of_ble_eq_true rfl) ?_
    refine bh rfl rfl (by decide) rfl rfl (by exact Nat.le_of_ble_eq_true rfl) ?_
    refine aN rfl rfl rfl rfl rfl (by decide) ?_
    refine aU rfl rfl (by decide) rfl rfl rfl ?_
    refine aN rfl rfl rfl rfl rfl (by decide) ?_
    refine aU rfl rfl (by decide) rfl rfl rfl ?_
    refine dO [49, 175, 40, 180] (iH (d.yd (d.ms i.1).1.1) (d.am (d.ms i.1).1.2) (oU hd hi hP) (d.src (d.ms i.1).2) (d.day i.1) hsr.1 hsr.2) rfl (aL (hH (aL (af (bI rfl rfl)) (aL (af (fI rfl)) (aL (af (fI rfl)) (aL (af o7) bU))))) (aL (hH (aL (af (fI rfl)) (aL (af (fI rfl)) bU))) (aL (af (bI rfl rfl)) (aL (af (bI rfl rfl)) bU)))) (by exact dA _ _) ?_
    refine aN rfl rfl rfl rfl rfl (by decide) ?_
    refine aU rfl rfl (by decide) rfl rfl rfl ?_
    refine bS rfl ?_
    refine sK rfl rfl rfl rfl rfl rfl (by omega) ?_
    refine xq rfl rfl rfl rfl ?_
    refine iC rfl rfl (by omega) (by omega) ?_
    refine qL rfl rfl (cJ rfl (aD ?_))
    refine ⟨by kernel_rfl, ?_⟩
    refine bV (aC (aA ?_))
    refine cD rfl rfl (by omega) (by omega) ?_
    refine bS rfl (aD ?_)
    refine bk (⟨k.1 + 1, by omega⟩) ?_ (by show (d.ms i.1).1.1.length - (k.1 + 1) < (d.ms i.1).1.1.length - k.1; omega)
    (refine dG.mk' ?_ ?_ <;> (repeat' (first | exact aI | exact aJ | refine aB ?_ (Ty.aT _) | refine aB ?_ (Ty.aE _) | refine aF rfl (Cont.aE _) ?_ | refine aB ?_ ?_)))
    all_goals skip
    all_goals exact Ty.aa (Lw (y := (d.yd (d.ms i.1).1.1)) (a := (d.am (d.ms i.1).1.2)) (m := (d.mv (d.ms i.1).2 i.1)) hc7)
   refine aq (bV (aC (aA ?_)))
   refine cD rfl rfl (by omega) (by omega) ?_
   refine bS rfl (aD ?_)
   refine bk (⟨k.1 + 1, by omega⟩) ?_ (by show (d.ms i.1).1.1.length - (k.1 + 1) < (d.ms i.1).1.1.length - k.1; omega)
   (refine dG.mk' ?_ ?_ <;> (repeat' (first | exact aI | exact aJ | refine aB ?_ (Ty.aT _) | refine aB ?_ (Ty.aE _) | refine aF rfl (Cont.aE _) ?_ | refine aB ?_ ?_)))
   all_goals skip
   all_goals exact Ty.aa (Me (y := (d.yd (d.ms i.1).1.1)) (a := (d.am (d.ms i.1).1.2)) (m := (d.mv (d.ms i.1).2 i.1)) hc7)
  refine cj (aQ (aQ (av rfl (aC (aG ?_)))))
  obtain ⟨k, hk⟩ := k
  obtain rfl : k = (d.ms i.1).1.1.length := by have h1 : ¬ (k : Int) < ((d.ms i.1).1.1.length : Int) := hc6; have h2 : k ≤ (d.ms i.1).1.1.length := hk; omega
  refine cr (B := live [(0, Ty.ptr 1000 0), (4, Ty.int .i64 d.levels), (10, Ty.ptr 11 0), (11, Ty.ptr 12 0), (12, Ty.ptr 13 0), (13, Ty.ptr 14 0), (15, Ty.int .i64 (d.many : Nat)), (56, Ty.int .i64 (d.many : Nat)), (57, Ty.int .i64 (i.1 : Nat)), (17, Ty.ptr 18 0), (18, Ty.int .i64 (lT (d.yd (d.ms i.1).1.1) (d.am (d.ms i.1).1.2) (d.mv (d.ms i.1).2 i.1) (mA (d.yd (d.ms i.1).1.1) (d.am (d.ms i.1).1.2) (d.mv (d.ms i.1).2 i.1) (k9 (d.yd (d.ms i.1).1.1) (d.am (d.ms i.1).1.2) (d.mv (d.ms i.1).2 i.1) (bF (d.qA (d.ms i.1).2) 40))) (d.yd (d.ms i.1).1.1).moves.length))] [(11, Cont.cells 27 [Ty.int .i64 0, Ty.ex (.slice none 0 0), Ty.ex (.slice none 0 0), Ty.ex (.slice none 0 0)]), (12, Cont.cells 30 [Ty.ex (.slice none 0 0), Ty.ex (.slice none 0 0)]), (13, Cont.cells 27 [Ty.int .i64 d.D, Ty.row dr 39 49 d.gU, Ty.row dJ 41 175 (d.ms i.1).1.1, Ty.ex (.slice none 0 0)]), (14, Cont.cells 30 [Ty.row cy 3 40 d.first, Ty.row cy 3 180 (d.ms i.1).1.2]), (18, Cont.cells 41 [Ty.int .i64 (d.day i.1), Ty.int .i64 (d.src (d.ms i.1).2), Ty.int .i64 (d.dst (d.ms i.1).2), Ty.int .i64 0, Ty.int .i64 0]), (1000, Cont.cells 149 (cW (aP (d.qA (d.ms i.1).2))))]) ?_ ?_
  ·(refine dG.mk' ?_ ?_ <;> (repeat' (first | exact aI | exact aJ | refine aB ?_ (Ty.aT _) | refine aB ?_ (Ty.aE _) | refine aF rfl (Cont.aE _) ?_)))
  refine aA (bS rfl ?_)
  refine bh rfl rfl (by decide) rfl rfl (by exact Nat.le_of_ble_eq_true rfl) ?_
  refine bh rfl rfl (by decide) rfl rfl (by exact Nat.le_of_ble_eq_true rfl) ?_
  refine bh rfl rfl (by decide) rfl rfl (by exact Nat.le_of_ble_eq_true rfl) ?_
  refine dO [49, 175, 40, 180] (JC (d.yd (d.ms i.1).1.1) (d.am (d.ms i.1).1.2) (oU hd hi hP) (d.mv (d.ms i.1).2 i.1) (by show -1000000 ≤ d.day i.1 ∧ d.day i.1 ≤ 1000000; omega) (fun g => AA hd g b1)) rfl (aL (hH (aL (af (bI rfl rfl)) (aL (af (fI rfl)) (aL (af (fI rfl)) (aL (af o7) bU))))) (aL (hH (aL (af (fI rfl)) (aL (af (fI rfl)) bU))) (aL (af (bI rfl rfl)) bU))) (by exact dA _ _) ?_
  refine qL rfl rfl (td rfl rfl (cJ rfl (aD (aC (aG ?_)))))
  have hnm := d.Gd hd hP
  refine iF (s := 18) rfl (Ty.aa (num_eq d (d.ms i.1) i.1)) ?_
  refine cr (B := live [(0, Ty.ptr 1000 0), (4, Ty.int .i64 d.levels), (10, Ty.ptr 11 0), (11, Ty.ptr 12 0), (12, Ty.ptr 13 0), (13, Ty.ptr 14 0), (15, Ty.int .i64 (d.many : Nat)), (56, Ty.int .i64 (d.many : Nat)), (57, Ty.int .i64 (i.1 : Nat)), (17, Ty.ptr 18 0), (18, Ty.int .i64 (d.num (d.ms i.1) i.1))] [(11, Cont.cells 27 [Ty.int .i64 0, Ty.ex (.slice none 0 0), Ty.ex (.slice none 0 0), Ty.ex (.slice none 0 0)]), (12, Cont.cells 30 [Ty.ex (.slice none 0 0), Ty.ex (.slice none 0 0)]), (13, Cont.cells 27 [Ty.int .i64 d.D, Ty.row dr 39 49 d.gU, Ty.row dJ 41 175 (d.ms i.1).1.1, Ty.ex (.slice none 0 0)]), (14, Cont.cells 30 [Ty.row cy 3 40 d.first, Ty.row cy 3 180 (d.ms i.1).1.2]), (18, Cont.cells 41 [Ty.int .i64 (d.day i.1), Ty.int .i64 (d.src (d.ms i.1).2), Ty.int .i64 (d.dst (d.ms i.1).2), Ty.int .i64 0, Ty.int .i64 0]), (1000, Cont.cells 149 (cW (aP (d.qA (d.ms i.1).2))))]) ?_ ?_
  ·(refine dG.mk' ?_ ?_ <;> (repeat' (first | exact aI | exact aJ | refine aB ?_ (Ty.aT _) | refine aB ?_ (Ty.aE _) | refine aF rfl (Cont.aE _) ?_)))
  refine aA (mS rfl (bS rfl ?_))
  refine bu [(1000, 1000)] [] [(1000, Cont.cells 149 (cW (aP (aP (aP (d.qA (d.ms i.1).2))))))] (Cx (aP (d.qA (d.ms i.1).2)) ⟨by omega, by omega⟩ (d.num (d.ms i.1) i.1) 15 (by omega) (by omega)) rfl rfl (by repeat (first | exact bK | refine aH ?_ ?_ | exact dN List.mem_cons_self | exact aM rfl rfl)) (bq (a := 1000) (b := 1000) (by exact List.mem_cons_self) rfl (ah (by exact List.mem_cons_self) rfl rfl rfl) pre_nil) (bG (a := 1000) (b := 1000) (by exact List.mem_cons_self) rfl (ah (by exact List.mem_cons_self) rfl rfl rfl) post_nil) (aM rfl rfl) ?_
  refine aN rfl rfl rfl rfl rfl (by decide) ?_
  refine x7 (lr := dJ.tys (d.full (d.ms i.1) i.1)) rfl rfl (by decide) rfl rfl rfl (by exact Nat.le_of_ble_eq_true rfl) rfl rfl rfl ?_
  refine aD (aC ?_)
  refine cr (B := live [(0, Ty.ptr 1000 0), (4, Ty.int .i64 d.levels), (10, Ty.ptr 11 0), (11, Ty.ptr 12 0), (12, Ty.ptr 13 0), (13, Ty.ptr 14 0), (15, Ty.int .i64 (d.many : Nat)), (56, Ty.int .i64 (d.many : Nat)), (57, Ty.int .i64 (i.1 : Nat)), (17, Ty.ptr 18 0), (18, Ty.int .i64 (d.num (d.ms i.1) i.1))] [(11, Cont.cells 27 [Ty.int .i64 0, Ty.ex (.slice none 0 0), Ty.ex (.slice none 0 0), Ty.ex (.slice none 0 0)]), (12, Cont.cells 30 [Ty.ex (.slice none 0 0), Ty.ex (.slice none 0 0)]), (13, Cont.cells 27 [Ty.int .i64 d.D, Ty.row dr 39 49 d.gU, Ty.row dJ 41 175 (d.ms i.1).1.1, Ty.ex (.slice none 0 0)]), (14, Cont.cells 30 [Ty.row cy 3 40 d.first, Ty.row cy 3 180 (d.ms i.1).1.2]), (18, Cont.cells 41 (dJ.tys (d.full (d.ms i.1) i.1))), (1000, Cont.cells 149 (cW (aP (aP (aP (d.qA (d.ms i.1).2))))))]) ?_ ?_
  ·(refine dG.mk' ?_ ?_ <;> (repeat' (first | exact aI | exact aJ | refine aB ?_ (Ty.aT _) | refine aB ?_ (Ty.aE _) | refine aF rfl (Cont.aE _) ?_)))
  refine cZ mixed rfl ?_
  refine aN rfl rfl rfl rfl rfl (by decide) ?_
  refine aU rfl rfl (by decide) rfl rfl rfl ?_
  refine bh rfl rfl (by decide) rfl rfl (by exact Nat.le_of_ble_eq_true rfl) ?_
  refine bt (E := dJ) (xs := [d.full (d.ms i.1) i.1]) rfl rfl rfl rfl rfl (by decide) (by decide) (by repeat (first | exact (aY.nil : aY _ _ [] _) | (show aY _ _ ((_, _) :: _) _; apply aY.agg; (· exact (rfl : _ = Ty.agg _))))) (by exact rfl) rfl ?_
  refine fZ rfl rfl (by decide) rfl rfl rfl rfl rfl rfl (by decide) (by (simp <;> omega)) (by (simp <;> omega)) ?_
  refine aN rfl rfl rfl rfl rfl (by decide) ?_
  refine aU rfl rfl (by decide) rfl rfl rfl ?_
  refine bS rfl ?_
  refine bt (E := cy) (xs := [d.num (d.ms i.1) i.1]) rfl rfl rfl rfl rfl (by decide) (by decide) (by repeat (first | exact (aY.nil : aY _ _ [] _) | (show aY _ _ ((_, _) :: _) _; apply aY.one; (· exact (rfl : _ = Ty.int _ _)); (· exact rfl)))) (by exact rfl) rfl ?_
  refine fZ rfl rfl (by decide) rfl rfl rfl rfl rfl rfl (by decide) (by (simp <;> omega)) (by (simp <;> omega)) ?_
  refine aN rfl rfl rfl rfl rfl (by decide) ?_
  refine cw rfl rfl (by decide) rfl rfl (by exact (rfl : _ = Ty.row _ _ _ _)) rfl (by exact Nat.le_of_ble_eq_true rfl) rfl rfl (by exact rfl) ?_
  refine aN rfl rfl rfl rfl rfl (by decide) ?_
  refine cw rfl rfl (by decide) rfl rfl (by exact (rfl : _ = Ty.row _ _ _ _)) rfl (by exact Nat.le_of_ble_eq_true rfl) rfl rfl (by exact rfl) ?_
  refine aD ?_
  refine ⟨by kernel_rfl, ?_⟩
  refine bV (aC (aA ?_))
  refine cD rfl rfl (by omega) (by omega) ?_
  refine bS rfl (aD ?_)
  refine bk (⟨i.1 + 1, by omega⟩) ?_ (by show d.many - (i.1 + 1) < d.many - i.1; omega)
  (refine dG.mk' ?_ ?_ <;> (repeat' (first | exact aI | exact aJ | exact cT | refine aB ?_ (Ty.aT _) | refine aB ?_ (Ty.aE _) | refine aF rfl (Cont.aE _) ?_ | refine aF rfl (Cont.cS ?_) ?_ | refine bM ?_ (Ty.aE _) | refine bM ?_ ?_)))
  all_goals skip
  all_goals first | exact Ty.aa (congrArg (fun p => p.2.mixed) (GP d _)) | exact Ty.aa (congrArg (fun p => p.2.taken) (GP d _)) | exact Ty.eV (congrArg (fun p => p.2.grain) (GP d _)) | exact Ty.eU (congrArg (fun p => p.1.1) (GP d _)) | exact Ty.eU (congrArg (fun p => p.1.2) (GP d _))
 refine cj (aQ (aQ (av rfl (aC (aG (aG ?_))))))
 obtain ⟨i, hi⟩ := i
 obtain rfl : i = d.many := by have h1 : ¬ (i : Int) < (d.many : Int) := hc2; have h2 : i ≤ d.many := hi; omega
 have hP := d.uA hd d.many (Nat.le_refl _)
 have e3 := hP.taken
 refine gT (tg := 13) rfl (Cont.eA (l' := [Ty.int .i64 d.D, Ty.row dr 39 49 d.gU, Ty.row dJ 41 175 d.fE, Ty.ex (.slice none 0 0)]) ⟨Ty.aE _, Ty.aE _, Ty.eU (by unfold Md.fE; rfl), Ty.aE _, trivial⟩) ?_
 refine gT (tg := 14) rfl (Cont.eA (l' := [Ty.row cy 3 40 d.first, Ty.row cy 3 180 d.cM]) ⟨Ty.aE _, Ty.eU (by unfold Md.cM; rfl), trivial⟩) ?_
 refine nN (tg := 175) [] [(13, Cont.cells 27 [Ty.int .i64 d.D, Ty.row dr 39 49 d.gU, Ty.sl dJ d.fE, Ty.ex (.slice none 0 0)])] (by decide) rfl trivial ⟨iP rfl rfl ⟨cH rfl, cH rfl, tJ, cH rfl, trivial⟩, trivial⟩ ?_
 refine nN (tg := 40) [] [(14, Cont.cells 30 [Ty.sl cy d.first, Ty.row cy 3 180 d.cM])] (by decide) rfl trivial ⟨iP rfl rfl ⟨tJ, cH rfl, trivial⟩, trivial⟩ ?_
 refine nN (tg := 180) [] [(14, Cont.cells 30 [Ty.sl cy d.first, Ty.sl cy d.cM])] (by decide) rfl trivial ⟨iP rfl rfl ⟨cH rfl, tJ, trivial⟩, trivial⟩ ?_
 refine lK (c0 := 13) 1 rfl rfl ?_
 refine gT (tg := 13) rfl (Cont.eA (l' := [Ty.int .i64 d.D, Ty.vs 49 d.nb, Ty.sl dJ d.fE, Ty.ex (.slice none 0 0)]) ⟨Ty.aE _, Df b2, Ty.aE _, Ty.aE _, trivial⟩) ?_
 refine cr (B := live [(0, Ty.ptr 1000 0), (4, Ty.int .i64 d.levels), (10, Ty.ptr 11 0), (11, Ty.ptr 12 0), (12, Ty.ptr 13 0), (13, Ty.ptr 14 0)] [(11, Cont.cells 27 [Ty.int .i64 0, Ty.ex (.slice none 0 0), Ty.ex (.slice none 0 0), Ty.ex (.slice none 0 0)]), (12, Cont.cells 30 [Ty.ex (.slice none 0 0), Ty.ex (.slice none 0 0)]), (13, Cont.cells 27 [Ty.int .i64 d.D, Ty.vs 49 d.nb, Ty.sl dJ d.fE, Ty.ex (.slice none 0 0)]), (14, Cont.cells 30 [Ty.sl cy d.first, Ty.sl cy d.cM]), (49, Cont.vec dr 39 d.gU), (1000, Cont.cells 149 (cW (d.ms d.many).2))]) ?_ ?_
 ·(refine dG.mk' ?_ ?_ <;> (repeat' (first | exact aI | exact aJ | refine aB ?_ (Ty.aT _) | refine aB ?_ (Ty.aE _) | refine aF rfl (Cont.aE _) ?_)))
 refine aA ?_
 refine aN rfl rfl rfl rfl rfl (by decide) ?_
 refine aU rfl rfl (by decide) rfl rfl rfl ?_
 refine ow rfl rfl rfl (bS rfl (aD (aC (au ?_))))
 refine cg (fun (k : {k : Nat // k ≤ d.nb}) => live [(0, Ty.ptr 1000 0), (4, Ty.int .i64 d.levels), (10, Ty.ptr 11 0), (11, Ty.ptr 12 0), (12, Ty.ptr 13 0), (13, Ty.ptr 14 0), (186, Ty.int .i64 (d.nb : Nat)), (187, Ty.int .i64 (k.1 : Nat))] [(11, Cont.cells 27 [Ty.int .i64 0, Ty.ex (.slice none 0 0), Ty.ex (.slice none 0 0), Ty.ex (.slice none 0 0)]), (12, Cont.cells 30 [Ty.ex (.slice none 0 0), Ty.ex (.slice none 0 0)]), (13, Cont.cells 27 [Ty.int .i64 d.D, Ty.vs 49 d.nb, Ty.sl dJ d.fE, Ty.ex (.slice none 0 0)]), (14, Cont.cells 30 [Ty.sl cy d.first, Ty.sl cy d.cM]), (49, Cont.vec dr 39 (d.hs k.1).1), (1000, Cont.cells 149 (cW (d.hs k.1).2))]) (fun k => d.nb - k.1) (⟨0, by omega⟩) ?_ fun k => ?_
 ·(refine dG.mk' ?_ ?_ <;> (repeat' (first | exact aI | exact aJ | exact cT | refine aB ?_ (Ty.aT _) | refine aB ?_ (Ty.aE _) | refine aF rfl (Cont.aE _) ?_ | refine aF rfl (Cont.cS ?_) ?_ | refine bM ?_ ?_ | refine aF rfl ?_ ?_)))
  all_goals first | exact Cont.dn (congrArg Prod.fst (Iy d)) | exact Ty.aa (congrArg (fun p => p.2.mixed) (Iy d)) | exact Ty.aa (congrArg (fun p => p.2.taken) (Iy d)) | exact Ty.eV (congrArg (fun p => p.2.grain) (Iy d))
 have hk := k.2
 have H := d.Ao k.1 hk
 have g1 := H.len
 have g2 := H.taken
 have g3 := cP (d.hs k.1).2 30
 have g4 := (d.zV k.1 (d.D + 1).toNat)
 have g40 := g4.1
 refine aG (aA (bJ rfl rfl rfl (aD (aC (aG ?_)))))
 refine aj rfl (fun hc8 => ?_) (fun hc8 => ?_)
 ·
  refine aq (aC (aG (au (aG (aA (bS rfl (cJ rfl (aD (aC ?_)))))))))
  refine aG (aA (cJ rfl (aD (aC (aG (aG (aA ?_)))))))
  refine aN rfl rfl rfl rfl rfl (by decide) ?_
  refine aU rfl rfl (by decide) rfl rfl rfl ?_
  refine cD rfl rfl (by omega) (by omega) ?_
  refine bS rfl (aD (aC (au ?_)))
  refine cg (fun (t : {t : Nat // t ≤ (d.D + 1).toNat}) => live [(0, Ty.ptr 1000 0), (4, Ty.int .i64 d.levels), (10, Ty.ptr 11 0), (11, Ty.ptr 12 0), (12, Ty.ptr 13 0), (13, Ty.ptr 14 0), (21, Ty.int .i64 (k.1 : Nat)), (22, Ty.int .i64 (d.most k.1 t.1)), (186, Ty.int .i64 (d.nb : Nat)), (187, Ty.int .i64 (k.1 : Nat)), (192, Ty.int .i64 (d.D + 1)), (193, Ty.int .i64 (t.1 : Nat))] [(11, Cont.cells 27 [Ty.int .i64 0, Ty.ex (.slice none 0 0), Ty.ex (.slice none 0 0), Ty.ex (.slice none 0 0)]), (12, Cont.cells 30 [Ty.ex (.slice none 0 0), Ty.ex (.slice none 0 0)]), (13, Cont.cells 27 [Ty.int .i64 d.D, Ty.vs 49 d.nb, Ty.sl dJ d.fE, Ty.ex (.slice none 0 0)]), (14, Cont.cells 30 [Ty.sl cy d.first, Ty.sl cy d.cM]), (49, Cont.vec dr 39 (d.hs k.1).1), (1000, Cont.cells 149 (cW (d.hs k.1).2))]) (fun t => (d.D + 1).toNat - t.1) (⟨0, by omega⟩) ?_ fun t => ?_
  ·(refine dG.mk' ?_ ?_ <;> (repeat' (first | exact aI | exact aJ | refine aB ?_ (Ty.aT _) | refine aB ?_ (Ty.aE _) | refine aF rfl (Cont.aE _) ?_ | refine aB ?_ ?_)))
   all_goals exact Ty.aa (LA d _)
  have ht := t.2
  refine aG (aA (bJ rfl rfl rfl (aD (aC (aG ?_)))))
  refine aj rfl (fun hc9 => ?_) (fun hc9 => ?_)
  ·
   refine aq (aC (aG (au (aG (aA (bS rfl (cJ rfl (aD (aC ?_)))))))))
   refine aA (bS rfl ?_)
   refine bh rfl rfl (by decide) rfl rfl (by exact Nat.le_of_ble_eq_true rfl) ?_
   refine bh rfl rfl (by decide) rfl rfl (by exact Nat.le_of_ble_eq_true rfl) ?_
   refine bS rfl (bS rfl ?_)
   refine dO [49] (iH ⟨d.D, (d.hs k.1).1, d.fE, []⟩ d.real (wg hd) ((k.1 : Nat) : Int) ((t.1 : Nat) : Int) (Int.natCast_nonneg _) (by show ((k.1 : Nat) : Int).toNat < d.first.length; omega)) rfl (aL (hH (aL (af (bI rfl rfl)) (aL (g7 rfl g1 (by decide) rfl) (aL (af (bI rfl rfl)) (aL (af o7) bU))))) (aL (af (bI rfl rfl)) (aL (af (bI rfl rfl)) (aL (af (bI rfl rfl)) bU)))) (by exact dA _ _) ?_
   refine td rfl rfl (cJ rfl (aD (bV (aC (aA ?_)))))
   refine cD rfl rfl (by omega) (by omega) ?_
   refine bS rfl (aD ?_)
   refine bk (⟨t.1 + 1, by omega⟩) ?_ (by show (d.D + 1).toNat - (t.1 + 1) < (d.D + 1).toNat - t.1; omega)
   (refine dG.mk' ?_ ?_ <;> (repeat' (first | exact aI | exact aJ | refine aB ?_ (Ty.aT _) | refine aB ?_ (Ty.aE _) | refine aF rfl (Cont.aE _) ?_ | refine aB ?_ ?_)))
   all_goals skip
   all_goals exact Ty.aa (Lg d _ _)
  refine cj (aQ (aQ (av rfl (aC ?_))))
  obtain ⟨t, ht⟩ := t
  obtain rfl : t = (d.D + 1).toNat := by have h1 : ¬ (t : Int) < d.D + 1 := hc9; have h2 : t ≤ (d.D + 1).toNat := ht; omega
  refine iF (s := 22) rfl (Ty.aa (show d.most k.1 (d.D + 1).toNat = d.most k.1 (d.D + 1).toNat from rfl)) ?_
  have g5 := g4.2.2 fun t => (d.u9 hd k.1 t (by omega)).2
  refine cZ mixed rfl ?_
  refine aN rfl rfl rfl rfl rfl (by decide) ?_
  refine aU rfl rfl (by decide) rfl rfl rfl ?_
  refine bS rfl (bS rfl (mS rfl ?_))
  refine bu [(1000, 1000)] [] [(1000, Cont.cells 149 (cW (aP (d.hs k.1).2)))] (gq (d.hs k.1).2 ⟨by omega, by omega⟩ 30) rfl rfl (by repeat (first | exact bK | refine aH ?_ ?_ | exact dN List.mem_cons_self | exact aM rfl rfl)) (bq (a := 1000) (b := 1000) (by exact List.mem_cons_self) rfl (ah (by exact List.mem_cons_self) rfl rfl rfl) pre_nil) (bG (a := 1000) (b := 1000) (by exact List.mem_cons_self) rfl (ah (by exact List.mem_cons_self) rfl rfl rfl) post_nil) (aM rfl rfl) ?_
  refine cD rfl rfl (by omega) (by omega) ?_
  refine qL rfl rfl ?_
  refine eJ rfl rfl rfl rfl rfl (by omega) ?_
  refine aN rfl rfl rfl rfl rfl (by decide) ?_
  refine nR (E := dr) (z := ⟨min 300 (d.most k.1 (d.D + 1).toNat + bF (d.hs k.1).2 30), (nth (d.hs k.1).1 k.1).first⟩) rfl rfl rfl (by decide) rfl rfl (by exact (rfl : _ = Ty.int _ _)) rfl (by omega) (by decide) rfl rfl ?_
  refine aD ?_
  refine ⟨by kernel_rfl, ?_⟩
  refine bV (aC (aA ?_))
  refine cD rfl rfl (by omega) (by omega) ?_
  refine bS rfl (aD ?_)
  refine bk (⟨k.1 + 1, by omega⟩) ?_ (by show d.nb - (k.1 + 1) < d.nb - k.1; omega)
  (refine dG.mk' ?_ ?_ <;> (repeat' (first | exact aI | exact aJ | exact cT | refine aB ?_ (Ty.aT _) | refine aB ?_ (Ty.aE _) | refine aF rfl (Cont.aE _) ?_ | refine aF rfl (Cont.cS ?_) ?_ | refine bM ?_ ?_ | refine aF rfl ?_ ?_)))
  all_goals skip
  all_goals first | exact Cont.dn (congrArg Prod.fst (Ie d _)) | exact Ty.aa (congrArg (fun p => p.2.mixed) (Ie d _)) | exact Ty.aa (congrArg (fun p => p.2.taken) (Ie d _)) | exact Ty.eV (congrArg (fun p => p.2.grain) (Ie d _))
 refine cj (aQ (aQ (av rfl (aC (aG (aG ?_))))))
 obtain ⟨k, hk⟩ := k
 obtain rfl : k = d.nb := by have h1 : ¬ (k : Int) < (d.nb : Int) := hc8; have h2 : k ≤ d.nb := hk; omega
 have H := d.Ao d.nb (Nat.le_refl _)
 have g1 := H.len
 have g2 := H.taken
 have b5 : d.iA.length = d.nb := by unfold Md.iA; exact g1
 have g6 := cG (d.hs d.nb).2
 refine gT (tg := 49) rfl (Cont.dn (show (d.hs d.nb).1 = d.iA by unfold Md.iA; rfl)) ?_
 refine gT (tg := 13) rfl (Cont.eA (l' := [Ty.int .i64 d.D, Ty.vs 49 d.iA.length, Ty.sl dJ d.fE, Ty.ex (.slice none 0 0)]) ⟨Ty.aE _, Ty.sub_eq (by rw [b5]), Ty.aE _, Ty.aE _, trivial⟩) ?_
 refine cr (B := live [(0, Ty.ptr 1000 0), (4, Ty.int .i64 d.levels), (10, Ty.ptr 11 0), (11, Ty.ptr 12 0), (12, Ty.ptr 13 0), (13, Ty.ptr 14 0)] [(11, Cont.cells 27 [Ty.int .i64 0, Ty.ex (.slice none 0 0), Ty.ex (.slice none 0 0), Ty.ex (.slice none 0 0)]), (12, Cont.cells 30 [Ty.ex (.slice none 0 0), Ty.ex (.slice none 0 0)]), (13, Cont.cells 27 [Ty.int .i64 d.D, Ty.vs 49 d.iA.length, Ty.sl dJ d.fE, Ty.ex (.slice none 0 0)]), (14, Cont.cells 30 [Ty.sl cy d.first, Ty.sl cy d.cM]), (49, Cont.vec dr 39 d.iA), (1000, Cont.cells 149 (cW (d.hs d.nb).2))]) ?_ ?_
 ·(refine dG.mk' ?_ ?_ <;> (repeat' (first | exact aI | exact aJ | refine aB ?_ (Ty.aT _) | refine aB ?_ (Ty.aE _) | refine aF rfl (Cont.aE _) ?_)))
 refine aA (mS rfl (bS rfl ?_))
 refine cD rfl rfl (by omega) (by omega) ?_
 refine bu [(1000, 1000)] [] [(1000, Cont.cells 149 (cW (aP (d.hs d.nb).2)))] (gq (d.hs d.nb).2 ⟨by omega, by omega⟩ _) rfl rfl (by repeat (first | exact bK | refine aH ?_ ?_ | exact dN List.mem_cons_self | exact aM rfl rfl)) (bq (a := 1000) (b := 1000) (by exact List.mem_cons_self) rfl (ah (by exact List.mem_cons_self) rfl rfl rfl) pre_nil) (bG (a := 1000) (b := 1000) (by exact List.mem_cons_self) rfl (ah (by exact List.mem_cons_self) rfl rfl rfl) post_nil) (aM rfl rfl) ?_
 refine bS rfl (aD (aC ?_))
 refine iF (s := 218) rfl (Ty.aa (show bF (d.hs d.nb).2 (d.levels + 1) = ((d.nl : Nat) : Int) from hnl.2 ▸ (by unfold Md.MB; rfl))) ?_
 refine au ?_
 refine cg (fun (k : {k : Nat // k ≤ d.nl}) => live [(0, Ty.ptr 1000 0), (10, Ty.ptr 11 0), (11, Ty.ptr 12 0), (12, Ty.ptr 13 0), (13, Ty.ptr 14 0), (218, Ty.int .i64 (d.nl : Nat)), (219, Ty.int .i64 (k.1 : Nat))] [(11, Cont.cells 27 [Ty.int .i64 0, Ty.ex (.slice none 0 0), Ty.ex (.slice none 0 0), Ty.ex (.slice none 0 0)]), (12, Cont.cells 30 [Ty.ex (.slice none 0 0), Ty.ex (.slice none 0 0)]), (13, Cont.cells 27 [Ty.int .i64 d.D, Ty.vs 49 d.iA.length, Ty.sl dJ d.fE, Ty.row dK 102 246 (d.ls k.1).1]), (14, Cont.cells 30 [Ty.sl cy d.first, Ty.sl cy d.cM]), (49, Cont.vec dr 39 d.iA), (1000, Cont.cells 149 (cW (d.ls k.1).2))]) (fun k => d.nl - k.1) (⟨0, by omega⟩) ?_ fun k => ?_
 ·(refine dG.mk' ?_ ?_ <;> (repeat' (first | exact aI | exact aJ | exact cT | refine aB ?_ (Ty.aT _) | refine aB ?_ (Ty.aE _) | refine aF rfl (Cont.aE _) ?_ | refine aF rfl (Cont.cS ?_) ?_ | refine bM ?_ (Ty.aE _) | refine bM ?_ ?_)))
  all_goals first | exact Ty.aa (congrArg (fun p => p.2.mixed) (Jd d)) | exact Ty.aa (congrArg (fun p => p.2.taken) (Jd d)) | exact Ty.eV (congrArg (fun p => p.2.grain) (Jd d)) | exact lY (congrArg Prod.fst (Jd d)).symm
 have hk := k.2
 have L := d.DS hd k.1
 have f1 := L.len
 have f2 := L.taken
 have f3 := cG (d.ls k.1).2
 have f4 := cG (aP (d.ls k.1).2)
 have f5 := cP (d.ls k.1).2 (d.D + 1)
 have f6 := cP (aP (d.ls k.1).2) d.nb
 refine aG (aA (bJ rfl rfl rfl (aD (aC (aG ?_)))))
 refine aj rfl (fun hc10 => ?_) (fun hc10 => ?_)
 ·
  refine aq (aC (aG (au (aG (cZ mixed rfl (mS rfl ?_))))))
  refine aN rfl rfl rfl rfl rfl (by decide) ?_
  refine aU rfl rfl (by decide) rfl rfl rfl ?_
  refine cD rfl rfl (by omega) (by omega) ?_
  refine bu [(1000, 1000)] [] [(1000, Cont.cells 149 (cW (aP (d.ls k.1).2)))] (gq (d.ls k.1).2 ⟨by omega, by omega⟩ _) rfl rfl (by repeat (first | exact bK | refine aH ?_ ?_ | exact dN List.mem_cons_self | exact aM rfl rfl)) (bq (a := 1000) (b := 1000) (by exact List.mem_cons_self) rfl (ah (by exact List.mem_cons_self) rfl rfl rfl) pre_nil) (bG (a := 1000) (b := 1000) (by exact List.mem_cons_self) rfl (ah (by exact List.mem_cons_self) rfl rfl rfl) post_nil) (aM rfl rfl) ?_
  refine mS rfl ?_
  refine aN rfl rfl rfl rfl rfl (by decide) ?_
  refine aU rfl rfl (by decide) rfl rfl rfl ?_
  refine ow rfl rfl rfl ?_
  refine bu [(1000, 1000)] [] [(1000, Cont.cells 149 (cW (aP (aP (d.ls k.1).2))))] (gq (aP (d.ls k.1).2) ⟨by omega, by omega⟩ _) rfl rfl (by repeat (first | exact bK | refine aH ?_ ?_ | exact dN List.mem_cons_self | exact aM rfl rfl)) (bq (a := 1000) (b := 1000) (by exact List.mem_cons_self) rfl (ah (by exact List.mem_cons_self) rfl rfl rfl) pre_nil) (bG (a := 1000) (b := 1000) (by exact List.mem_cons_self) rfl (ah (by exact List.mem_cons_self) rfl rfl rfl) post_nil) (aM rfl rfl) ?_
  refine dD rfl rfl (by exact List.cons_ne_nil _ _) rfl (by repeat (first | exact (aY.nil : aY _ _ [] _) | (show aY _ _ ((_, _) :: _) _; apply aY.one; (· exact (rfl : _ = Ty.int _ _)); (· exact rfl)))) (by exact (rfl : _ = some [_, _, _, _])) ?_
  refine cE rfl (by exact List.cons_ne_nil _ _) rfl ?_
  refine b8 rfl rfl (by decide) rfl rfl rfl rfl rfl rfl ?_
  refine aD ?_
  refine ⟨by kernel_rfl, ?_⟩
  refine aC (aG ?_)
  have hcl : 0 ≤ cz d.y0 d.real (bF (aP (d.ls k.1).2) d.nb) (bF (d.ls k.1).2 (d.D + 1)) ∧ cz d.y0 d.real (bF (aP (d.ls k.1).2) d.nb) (bF (d.ls k.1).2 (d.D + 1)) ≤ 300 := by
   have := d.u9 hd (bF (aP (d.ls k.1).2) d.nb).toNat (bF (d.ls k.1).2 (d.D + 1)) (by omega)
   rwa [Int.toNat_of_nonneg f6.1] at this
  have hce : ∀ b t, cz ⟨d.D, d.iA, d.fE, (d.ls k.1).1⟩ d.real b t = cz d.y0 d.real b t := fun b t => yN (y := d.y0)
  have hcb : -1000000 ≤ cz ⟨d.D, d.iA, d.fE, (d.ls k.1).1⟩ d.real (bF (aP (d.ls k.1).2) d.nb) (bF (d.ls k.1).2 (d.D + 1)) ∧ cz ⟨d.D, d.iA, d.fE, (d.ls k.1).1⟩ d.real (bF (aP (d.ls k.1).2) d.nb) (bF (d.ls k.1).2 (d.D + 1)) ≤ 1000000 := by rw [hce]; omega
  refine gT (tg := 25) rfl (Cont.eA (l' := [Ty.int .i64 (bF (d.ls k.1).2 (d.D + 1)), Ty.int .i64 (bF (aP (d.ls k.1).2) d.nb), Ty.int .i64 0, Ty.int .i64 0]) ⟨Ty.aE _, Ty.aa (by rw [b5]), Ty.aE _, Ty.aE _, trivial⟩) ?_
  refine cr (B := live [(0, Ty.ptr 1000 0), (10, Ty.ptr 11 0), (11, Ty.ptr 12 0), (12, Ty.ptr 13 0), (13, Ty.ptr 14 0), (24, Ty.ptr 25 0), (218, Ty.int .i64 (d.nl : Nat)), (219, Ty.int .i64 (k.1 : Nat))] [(11, Cont.cells 27 [Ty.int .i64 0, Ty.ex (.slice none 0 0), Ty.ex (.slice none 0 0), Ty.ex (.slice none 0 0)]), (12, Cont.cells 30 [Ty.ex (.slice none 0 0), Ty.ex (.slice none 0 0)]), (13, Cont.cells 27 [Ty.int .i64 d.D, Ty.vs 49 d.iA.length, Ty.sl dJ d.fE, Ty.row dK 102 246 (d.ls k.1).1]), (14, Cont.cells 30 [Ty.sl cy d.first, Ty.sl cy d.cM]), (49, Cont.vec dr 39 d.iA), (25, Cont.cells 102 [Ty.int .i64 (bF (d.ls k.1).2 (d.D + 1)), Ty.int .i64 (bF (aP (d.ls k.1).2) d.nb), Ty.int .i64 0, Ty.int .i64 0]), (1000, Cont.cells 149 (cW (aP (aP (d.ls k.1).2))))]) ?_ ?_
  ·refine dG.mk' ?_ ?_
   ·(repeat (first | refine aB ?_ (Ty.aT _) | refine aB ?_ (Ty.aE _))); exact aI
   refine aF rfl (Cont.aE _) ?_; refine aF rfl (Cont.aE _) ?_; refine aF rfl (Cont.aE _) ?_; refine aF rfl (Cont.aE _) ?_; refine aF rfl (Cont.aE _) ?_; refine aF rfl (Cont.aE _) ?_; refine aF rfl (Cont.aE _) ?_; exact aJ
  refine aA (mS rfl ?_)
  refine bh rfl rfl (by decide) rfl rfl (by exact Nat.le_of_ble_eq_true rfl) ?_
  refine bh rfl rfl (by decide) rfl rfl (by exact Nat.le_of_ble_eq_true rfl) ?_
  refine aN rfl rfl rfl rfl rfl (by decide) ?_
  refine aU rfl rfl (by decide) rfl rfl rfl ?_
  refine aN rfl rfl rfl rfl rfl (by decide) ?_
  refine aU rfl rfl (by decide) rfl rfl rfl ?_
  refine dO [49, 246] (iH ⟨d.D, d.iA, d.fE, (d.ls k.1).1⟩ d.real (wg hd) (bF (aP (d.ls k.1).2) d.nb) (bF (d.ls k.1).2 (d.D + 1)) f6.1 (by show _ < d.first.length; omega)) rfl (aL (hH (aL (af (bI rfl rfl)) (aL (g7 rfl rfl (by decide) rfl) (aL (af (bI rfl rfl)) (aL (af (fI rfl)) bU))))) (aL (af (bI rfl rfl)) (aL (af (bI rfl rfl)) (aL (af (bI rfl rfl)) bU)))) (by exact dA _ _) ?_
  refine bu [(1000, 1000)] [] [(1000, Cont.cells 149 (cW (aP (aP (aP (aP (d.ls k.1).2))))))] (Cx (aP (aP (d.ls k.1).2)) ⟨by omega, by omega⟩ (cz ⟨d.D, d.iA, d.fE, (d.ls k.1).1⟩ d.real (bF (aP (d.ls k.1).2) d.nb) (bF (d.ls k.1).2 (d.D + 1))) 8 hcb (by omega)) rfl rfl (by repeat (first | exact bK | refine aH ?_ ?_ | exact dN List.mem_cons_self | exact aM rfl rfl)) (bq (a := 1000) (b := 1000) (by exact List.mem_cons_self) rfl (ah (by exact List.mem_cons_self) rfl rfl rfl) pre_nil) (bG (a := 1000) (b := 1000) (by exact List.mem_cons_self) rfl (ah (by exact List.mem_cons_self) rfl rfl rfl) post_nil) (aM rfl rfl) ?_
  refine aN rfl rfl rfl rfl rfl (by decide) ?_
  refine x7 (lr := [Ty.int .i64 (bF (d.ls k.1).2 (d.D + 1)), Ty.int .i64 (bF (aP (d.ls k.1).2) d.nb), Ty.int .i64 (gp (aP (aP (d.ls k.1).2)) (cz ⟨d.D, d.iA, d.fE, (d.ls k.1).1⟩ d.real (bF (aP (d.ls k.1).2) d.nb) (bF (d.ls k.1).2 (d.D + 1))) 8).lo, Ty.int .i64 (gp (aP (aP (d.ls k.1).2)) (cz ⟨d.D, d.iA, d.fE, (d.ls k.1).1⟩ d.real (bF (aP (d.ls k.1).2) d.nb) (bF (d.ls k.1).2 (d.D + 1))) 8).hi]) rfl rfl (by decide) rfl rfl rfl (by exact Nat.le_of_ble_eq_true rfl) rfl rfl rfl ?_
  refine aD (aC ?_)
  refine gT (tg := 25) rfl (Cont.eA (l' := dK.tys (d.Fc (d.ls k.1).2)) ⟨Ty.aE _, Ty.aE _, Ty.aa (by rw [hce]; rfl), Ty.aa (by rw [hce]; rfl), trivial⟩) ?_
  refine cr (B := live [(0, Ty.ptr 1000 0), (10, Ty.ptr 11 0), (11, Ty.ptr 12 0), (12, Ty.ptr 13 0), (13, Ty.ptr 14 0), (24, Ty.ptr 25 0), (218, Ty.int .i64 (d.nl : Nat)), (219, Ty.int .i64 (k.1 : Nat))] [(11, Cont.cells 27 [Ty.int .i64 0, Ty.ex (.slice none 0 0), Ty.ex (.slice none 0 0), Ty.ex (.slice none 0 0)]), (12, Cont.cells 30 [Ty.ex (.slice none 0 0), Ty.ex (.slice none 0 0)]), (13, Cont.cells 27 [Ty.int .i64 d.D, Ty.vs 49 d.iA.length, Ty.sl dJ d.fE, Ty.row dK 102 246 (d.ls k.1).1]), (14, Cont.cells 30 [Ty.sl cy d.first, Ty.sl cy d.cM]), (49, Cont.vec dr 39 d.iA), (25, Cont.cells 102 (dK.tys (d.Fc (d.ls k.1).2))), (1000, Cont.cells 149 (cW (aP (aP (aP (aP (d.ls k.1).2))))))]) ?_ ?_
  ·refine dG.mk' ?_ ?_
   ·(repeat (first | refine aB ?_ (Ty.aT _) | refine aB ?_ (Ty.aE _))); exact aI
   refine aF rfl (Cont.aE _) ?_; refine aF rfl (Cont.aE _) ?_; refine aF rfl (Cont.aE _) ?_; refine aF rfl (Cont.aE _) ?_; refine aF rfl (Cont.aE _) ?_; refine aF rfl (Cont.aE _) ?_; refine aF rfl (Cont.aE _) ?_; exact aJ
  refine aA ?_
  refine aN rfl rfl rfl rfl rfl (by decide) ?_
  refine aU rfl rfl (by decide) rfl rfl rfl ?_
  refine bh rfl rfl (by decide) rfl rfl (by exact Nat.le_of_ble_eq_true rfl) ?_
  refine bt (E := dK) (xs := [d.Fc (d.ls k.1).2]) rfl rfl rfl rfl rfl (by decide) (by decide) (by repeat (first | exact (aY.nil : aY _ _ [] _) | (show aY _ _ ((_, _) :: _) _; apply aY.agg; (· exact (rfl : _ = Ty.agg _))))) (by exact rfl) rfl ?_
  refine fZ rfl rfl (by decide) rfl rfl rfl rfl rfl rfl (by decide) (by (simp <;> omega)) (by (simp <;> omega)) ?_
  refine aN rfl rfl rfl rfl rfl (by decide) ?_
  refine cw rfl rfl (by decide) rfl rfl (by exact (rfl : _ = Ty.row _ _ _ _)) rfl (by exact Nat.le_of_ble_eq_true rfl) rfl rfl (by exact rfl) ?_
  refine aD (bV (aC (aA ?_)))
  refine cD rfl rfl (by omega) (by omega) ?_
  refine bS rfl (aD ?_)
  refine bk (⟨k.1 + 1, by omega⟩) ?_ (by show d.nl - (k.1 + 1) < d.nl - k.1; omega)
  (refine dG.mk' ?_ ?_ <;> (repeat' (first | exact aI | exact aJ | exact cT | refine aB ?_ (Ty.aT _) | refine aB ?_ (Ty.aE _) | refine aF rfl (Cont.aE _) ?_ | refine aF rfl (Cont.cS ?_) ?_ | refine bM ?_ (Ty.aE _) | refine bM ?_ ?_)))
  all_goals skip
  all_goals first | exact Ty.aa (congrArg (fun p => p.2.mixed) (JU d _)) | exact Ty.aa (congrArg (fun p => p.2.taken) (JU d _)) | exact Ty.eV (congrArg (fun p => p.2.grain) (JU d _)) | exact Ty.eU (congrArg Prod.fst (JU d _))
 refine cj (aQ (aQ (av rfl (aC (aG ?_)))))
 obtain ⟨k, hk⟩ := k
 obtain rfl : k = d.nl := by have h1 : ¬ (k : Int) < (d.nl : Int) := hc10; have h2 : k ≤ d.nl := hk; omega
 refine lK (c0 := 13) 3 rfl rfl ?_
 refine gT (tg := 246) rfl (Cont.dn (show (d.ls d.nl).1 = d.mD by unfold Md.mD; rfl)) ?_
 refine gT (tg := 13) rfl (Cont.eA (l' := ownB 49 246 d.bY) ⟨Ty.aE _, Ty.aE _, Ty.aE _, Df (show (d.ls d.nl).1.length = d.mD.length by unfold Md.mD; rfl), trivial⟩) ?_
 refine cZ mixed rfl ?_
 refine bh rfl rfl (by decide) rfl rfl (by exact Nat.le_of_ble_eq_true rfl) ?_
 refine bh rfl rfl (by decide) rfl rfl (by exact Nat.le_of_ble_eq_true rfl) ?_
 refine b8 rfl rfl (by decide) rfl rfl rfl rfl rfl rfl ?_
 refine b8 rfl rfl (by decide) rfl rfl rfl rfl rfl rfl ?_
 refine aD ?_
 refine ⟨by kernel_rfl, ?_⟩
 refine aC (bE ?_)
 refine Lu [1000, 49, 246] rfl rfl rfl rfl rfl (by decide) rfl rfl rfl rfl rfl (by decide) rfl rfl rfl (by decide) (by repeat (first | exact fC | refine dy rfl (cA (by decide) rfl) ?_ | refine dy rfl (ah (by decide) rfl rfl rfl) ?_)) ?_ ?_
 all_goals first | exact fS (aM rfl rfl) | skip
 all_goals exact fS (IU (aH (aH (aH (aH bK (eF (by decide))) (aM rfl rfl)) (eF (by decide))) (aM rfl rfl)))
end Go.Proofs.YtelbollidfdcjaaGreat
namespace Go.T
open Go Go.RowKit
section
variable {P : Program} {fr : Fr} {ops : Array Oper} {A : As} {rest : List Oper} {K : As → List (As × Fx) → Prop} {d : Nat} {t ty' : TypeId} {p : String} {e : Array Edge} [T : k8 P]
end
end Go.T
namespace Go.T
open Go Go.RowKit
section
variable {P : Program} {fr : Fr} {ops : Array Oper} {A : As} {rest : List Oper} {K : As → List (As × Fx) → Prop} {d : Nat} {t ty' : TypeId} {p : String} {e : Array Edge} [T : k8 P]
end
end Go.T
namespace Go.Proofs.YtelbollidfdcjaaGreat
open Go Go.T
set_option maxHeartbeats 8000000
def bD (g : List Int) : Md := ⟨bN g, 5, 4, 10, 8⟩
theorem EC (g : List Int) : (bD g).Ok := ⟨by show (1 : Int) ≤ 5 ∧ (5 : Int) ≤ 5; omega, by show (1 : Int) ≤ 4 ∧ (4 : Int) ≤ 4; omega, by show (0 : Int) ≤ 10 ∧ (10 : Int) ≤ 10; omega, by show (0 : Int) ≤ 8 ∧ (8 : Int) ≤ 8; omega⟩
theorem Ic (g : List Int) : eR Tryz.prog 17 [1000] [(1000, Cont.cells 149 (cW (bN g)))] [Ty.ptr 1000 0, Ty.int .i64 5, Ty.int .i64 4, Ty.int .i64 10, Ty.int .i64 8] [(1000, Cont.cells 149 (cW (bD g).sk)), (49, Cont.vec dr 39 (bD g).bY.bins), (246, Cont.vec dK 102 (bD g).bY.levels)] (Ty.kH [Ty.agg (ownB 49 246 (bD g).bY), qT (bD g).real]) :=
 LQ (bD g) (EC g) (by have := tC g; exact ⟨this.1, by have := this.2; show (bN g).taken + 1000 ≤ _; omega⟩)
section
variable {y : ay} {q : Sk} {n v : Int}
theorem F5 : (nH y).cells.length ≤ y.bins.length * y.D := by
 unfold nH
 split
 ·split
  ·exact Nat.zero_le _
  split
  ·exact zo _
  exact Nat.zero_le _
 exact Nat.zero_le _
theorem Bc (hr : y.cU) (ho : cL y = 0) : gB y (nth az) (lp y) := by
 have h2 := (jP hr).2 (j8 ho)
 rw [← Fh (ia hr) h2]
 exact nF hr (tE (gz hr) (fun h => (iy hr).inb h) h2)
theorem K1 (hr : y.cU) (ho : cL y = 0) : NW (lp y) := by
 have h := Bc hr ho
 have h1 := hr.moves
 have h2 := h.lens.cM
 have h3 := h.lens.first
 refine ⟨by omega, fun x hx => ?_, fun x hx => ?_⟩
 ·obtain ⟨i, hi, rfl⟩ := kK hx
  have := h.first i (by omega)
  have := (hr.bin _ (cx (show i < y.bins.length by omega))).2
  omega
 obtain ⟨i, hi, rfl⟩ := kK hx
 have := h.cM i (by omega)
 have := (hr.move _ (cx (show i < y.moves.length by omega))).2.2.2.2
 omega
theorem Ng (hr : y.cU) (ho : cL y = 0) : (!decide ((6 : Int) = 6) || !mq y (lp y)) = false := by
 rw [yE ((HV hr).1 (Bc hr ho))]; rfl
theorem No (hr : y.cU) (ho : ¬ cL y = 0) : (((!decide (cL y = 7) || !decide (qp y = 0)) || !decide (jj y (nH y) = 0)) || decide (mQ y (nH y) < 1)) = false := by
 obtain ⟨e1, e2, e3, e4⟩ := JK hr ho
 rw [e1, e2, e3, decide_eq_false (p := mQ y (nH y) < 1) (by omega)]; rfl
theorem Nr {p : rX} (hr : y.cU) (hc : ∀ x ∈ p.cells, AL y x = true) (hs : p.cells.Pairwise fun a b => fm a b = true) : ((decide (jj y p = 0) && (decide (cL y = 0) || decide (mQ y p < 1))) || (!decide (jj y p = 0) && !decide (jj y p = 6))) = false := by
 obtain ⟨h1, h2⟩ := Jn hr hc hs
 rcases h1 with h1 | ⟨h1, h3⟩
 ·rw [h1]; rfl
 have h4 : ¬ cL y = 0 := fun ho => by rw [h2 ho] at h1; cases h1
 rw [h1, decide_eq_false h4, decide_eq_false (p := mQ y p < 1) (by omega)]; rfl
end
section
variable {D b d : Nat} {s : List ku × Sk} {y : ay} {q : Sk} {k : Nat}
theorem Lj : q = mX y q 0 := rfl
theorem Kz : aP (tryAll y.D ([], mX y q k) y.bins.length).2 = mX y q (k + 1) := rfl
theorem LH : s = tryAll D s 0 := rfl
theorem JL : s = fD b 0 s := rfl
theorem NM : ([] : List ku) = (tryAll D ([], q) 0).1 := rfl
theorem Lz (h : ¬ bF (fD b k s).2 2 = 0) : (fD b k s).1 = (fD b (k + 1) s).1 := by have e := congrArg (fun s : List ku × Sk => s.1) (AG h); exact e
theorem Jl : fD b D (tryAll D s b) = tryAll D s (b + 1) := rfl
end
section
variable {ls : List Level} {q : Sk} {k : Nat}
theorem K0 (h : bF (c9 ls q k).2 3 = 0) : (aP (aP (c9 ls q k).2)).mixed = (c9 ls q (k + 1)).2.mixed := by have e := congrArg (fun s : List Level × Sk => s.2.mixed) (z6 h); exact e
theorem Lb (h : bF (c9 ls q k).2 3 = 0) : (aP (aP (c9 ls q k).2)).taken = (c9 ls q (k + 1)).2.taken := by have e := congrArg (fun s : List Level × Sk => s.2.taken) (z6 h); exact e
theorem Kh (h : bF (c9 ls q k).2 3 = 0) : (aP (aP (c9 ls q k).2)).grain = (c9 ls q (k + 1)).2.grain := by have e := congrArg (fun s : List Level × Sk => s.2.grain) (z6 h); exact e
theorem Ke (h : bF (c9 ls q k).2 3 = 0) : (c9 ls q k).1.set k (ND (c9 ls q k) k) = (c9 ls q (k + 1)).1 := by have e := congrArg (fun s : List Level × Sk => s.1) (z6 h); exact e
theorem LR (h : ¬ bF (c9 ls q k).2 3 = 0) : (aP (c9 ls q k).2).mixed = (c9 ls q (k + 1)).2.mixed := by have e := congrArg (fun s : List Level × Sk => s.2.mixed) (DK h); exact e
theorem LO (h : ¬ bF (c9 ls q k).2 3 = 0) : (aP (c9 ls q k).2).taken = (c9 ls q (k + 1)).2.taken := by have e := congrArg (fun s : List Level × Sk => s.2.taken) (DK h); exact e
theorem Ly (h : ¬ bF (c9 ls q k).2 3 = 0) : (aP (c9 ls q k).2).grain = (c9 ls q (k + 1)).2.grain := by have e := congrArg (fun s : List Level × Sk => s.2.grain) (DK h); exact e
theorem Ln (h : ¬ bF (c9 ls q k).2 3 = 0) : (c9 ls q k).1 = (c9 ls q (k + 1)).1 := by have e := congrArg (fun s : List Level × Sk => s.1) (DK h); exact e
end
attribute [local irreducible] Md.bY Md.real cL bD mq qp nH jj mQ lp Iu c9 KG EJ tryAll fD mX aP bF
attribute [local irreducible] ir fj nK qW jL jQ jI jN jJ q3 jR qd eI gu qj gx qy nth fV dm ak eB bodyPost Exit.then Exit.inBlock Code.wp Code.wpIn qg jT qZ q6 jM eR cm cq bodyPostM eM
set_option maxRecDepth 100000 in
theorem xL (g h u : List Int) : eB Tryz.prog 10 [Ty.sl U8 g, Ty.sl U8 h, Ty.sl U8 u] (Ty.bool true) := by
 refine bC Tryz.func10 rfl (by decide) Tryz.ntmps10 (by exact Nat.le_of_ble_eq_true rfl) fun w0 M0 => ?_
 have hd := EC g
 have hyr := (bD g).right hd
 have hyb := hyr.bins
 have hym := hyr.moves
 have hyl := hyr.levels
 have hyd := hyr.days
 have hds : (bD g).s = bN g := by unfold bD; rfl
 have hq0 := tC h
 have hq1 : (bN h).taken + 4000000000000000000 ≤ 4611686018427387904 := hq0.2
 have hq2 : 0 ≤ (bN h).taken := hq0.1
 have hu0 := tC u
 have hu1 : (bN u).taken + 4000000000000000000 ≤ 4611686018427387904 := hu0.2
 have hu2 : 0 ≤ (bN u).taken := hu0.1
 refine aG (aA (dg rfl (aD (aC (aG (aA (gw rfl ?_)))))))
 refine bu [(29, 10)] [29] [(29, Cont.cells 149 (cW (bN g)))] (C1 g) rfl rfl (by repeat (first | exact bK | refine aH ?_ ?_ | exact aM rfl rfl)) pre_nil (bG (a := 29) (b := 10) (by exact List.mem_cons_self) rfl (ah (by exact List.mem_cons_self) rfl rfl rfl) post_nil) (dN (by exact List.mem_cons_self)) ?_
 refine bu (res' := Ty.kH [Ty.agg (ownB 749 746 (bD g).bY), qT (bD g).real]) [(29, 1000), (749, 49), (746, 246)] [749, 746] [(29, Cont.cells 149 (cW (bD g).sk)), (749, Cont.vec dr 39 (bD g).bY.bins), (746, Cont.vec dK 102 (bD g).bY.levels)] (Ic g) rfl rfl (by repeat (first | exact bK | refine aH ?_ ?_ | exact dN List.mem_cons_self | exact aM rfl rfl)) (bq (a := 29) (b := 1000) (by exact List.mem_cons_self) rfl (ah (by exact List.mem_cons_self) rfl rfl rfl) pre_nil) (bG (a := 29) (b := 1000) (by decide) rfl (ah (by decide) rfl rfl rfl) (bG (a := 749) (b := 49) (by decide) rfl (cA (by decide) rfl) (bG (a := 746) (b := 246) (by decide) rfl (cA (by decide) rfl) post_nil))) (zw (aH (aH bK (aM rfl rfl)) (IU (aH (aH (aH (aH bK (eF (by decide))) (aM rfl rfl)) (eF (by decide))) (aM rfl rfl))))) ?_
 refine qJ rfl (bO rfl rfl (bO rfl rfl ?_))
 refine cE rfl (by exact List.cons_ne_nil _ _) rfl ?_
 refine cE rfl (by exact List.cons_ne_nil _ _) rfl ?_
 refine b8 rfl rfl (by decide) rfl rfl rfl rfl rfl rfl ?_
 refine b8 rfl rfl (by decide) rfl rfl rfl rfl rfl rfl ?_
 refine aD (aC (aG ?_))
 refine cr (B := live [(1, Ty.sl U8 h), (2, Ty.sl U8 u), (7, Ty.ptr 8 0)] [(8, Cont.cells 27 [Ty.int .i64 (bD g).bY.days, Ty.vs 749 (bD g).bY.bins.length, Ty.sl dJ (bD g).bY.moves, Ty.vs 746 (bD g).bY.levels.length]), (749, Cont.vec dr 39 (bD g).bY.bins), (746, Cont.vec dK 102 (bD g).bY.levels)]) ?_ ?_
 ·refine dG.mk' ?_ ?_
  ·(repeat (first | refine aB ?_ (Ty.aT _) | refine aB ?_ (Ty.aE _))); exact aI
  refine aF rfl (Cont.aE _) ?_; refine aF rfl (Cont.aE _) ?_; refine aF rfl (Cont.aE _) ?_; exact aJ
 refine aA (gw rfl ?_)
 refine bu [(34, 10)] [34] [(34, Cont.cells 149 (cW (bN h)))] (C1 h) rfl rfl (by repeat (first | exact bK | refine aH ?_ ?_ | exact aM rfl rfl)) pre_nil (bG (a := 34) (b := 10) (by exact List.mem_cons_self) rfl (ah (by exact List.mem_cons_self) rfl rfl rfl) post_nil) (dN (by exact List.mem_cons_self)) ?_
 refine NA rfl (aD (aC (aG (aG ?_))))
 refine cr (B := live [(2, Ty.sl U8 u), (7, Ty.ptr 8 0), (9, Ty.ptr 34 0)] [(8, Cont.cells 27 [Ty.int .i64 (bD g).bY.days, Ty.vs 749 (bD g).bY.bins.length, Ty.sl dJ (bD g).bY.moves, Ty.vs 746 (bD g).bY.levels.length]), (34, Cont.cells 149 (cW (bN h))), (749, Cont.vec dr 39 (bD g).bY.bins), (746, Cont.vec dK 102 (bD g).bY.levels)]) ?_ ?_
 ·refine dG.mk' ?_ ?_
  ·(repeat (first | refine aB ?_ (Ty.aT _) | refine aB ?_ (Ty.aE _))); exact aI
  refine aF rfl (Cont.aE _) ?_; refine aF rfl (Cont.aE _) ?_; refine aF rfl (Cont.aE _) ?_; refine aF rfl (Cont.aE _) ?_; exact aJ
 refine aA ?_
 refine aN rfl rfl rfl rfl rfl (by decide) ?_
 refine aU rfl rfl (by decide) rfl rfl rfl ?_
 refine ow rfl rfl rfl (bS rfl (aD (aC (au ?_))))
 refine cg (fun (k : {k : Nat // k ≤ (bD g).bY.levels.length}) => live [(2, Ty.sl U8 u), (7, Ty.ptr 8 0), (9, Ty.ptr 34 0), (36, Ty.int .i64 (bD g).bY.levels.length), (37, Ty.int .i64 (k.1 : Nat))] [(8, Cont.cells 27 [Ty.int .i64 (bD g).bY.days, Ty.vs 749 (bD g).bY.bins.length, Ty.sl dJ (bD g).bY.moves, Ty.vs 746 (bD g).bY.levels.length]), (34, Cont.cells 149 (cW (c9 (bD g).bY.levels (bN h) k.1).2)), (749, Cont.vec dr 39 (bD g).bY.bins), (746, Cont.vec dK 102 (c9 (bD g).bY.levels (bN h) k.1).1)]) (fun k => (bD g).bY.levels.length - k.1) (⟨0, by omega⟩) ?_ fun k => ?_
 ·(refine dG.mk' ?_ ?_ <;> (repeat' (first | exact aI | exact aJ | exact cT | refine aB ?_ (Ty.aT _) | refine aB ?_ (Ty.aE _) | refine aF rfl (Cont.aE _) ?_ | refine aF rfl (Cont.cS ?_) ?_ | refine bM ?_ ?_ | refine aF rfl ?_ ?_)))
  all_goals first | exact Ty.aa (congrArg (fun s => s.2.mixed) (uw (ls := (bD g).bY.levels) (q := (bN h)))) | exact Ty.aa (congrArg (fun s => s.2.taken) (uw (ls := (bD g).bY.levels) (q := (bN h)))) | exact Ty.eV (congrArg (fun s => s.2.grain) (uw (ls := (bD g).bY.levels) (q := (bN h)))) | exact Cont.dn (congrArg Prod.fst (uw (ls := (bD g).bY.levels) (q := (bN h))))
 have hk := k.2
 have hP := BR (q := (bN h)) hyr k.1 hk
 have c1 := hP.len
 have c2 := hP.low
 have c3 := hP.high
 have c4 := cG (c9 (bD g).bY.levels (bN h) k.1).2
 have c7 := cP (aP (c9 (bD g).bY.levels (bN h) k.1).2) 40
 refine aG (aA (bJ rfl rfl rfl (aD (aC (aG ?_)))))
 refine aj rfl (fun hc1 => ?_) (fun hc1 => ?_)
 ·
  refine aq (aC (aG (au (aG (aA (bS rfl (cJ rfl (aD (aC ?_)))))))))
  refine aG (aA (mS rfl ?_))
  refine bu [(34, 1000)] [] [(34, Cont.cells 149 (cW (aP (c9 (bD g).bY.levels (bN h) k.1).2)))] (zM (c9 (bD g).bY.levels (bN h) k.1).2 ⟨by omega, by omega⟩ 3) rfl rfl (by repeat (first | exact bK | refine aH ?_ ?_ | exact dN List.mem_cons_self | exact aM rfl rfl)) (bq (a := 34) (b := 1000) (by exact List.mem_cons_self) rfl (ah (by exact List.mem_cons_self) rfl rfl rfl) pre_nil) (bG (a := 34) (b := 1000) (by exact List.mem_cons_self) rfl (ah (by exact List.mem_cons_self) rfl rfl rfl) post_nil) (aM rfl rfl) ?_
  refine aD (aC ?_)
  refine aj rfl (fun hc2 => ?_) (fun hc2 => ?_)
  ·
   refine aG ?_
   refine cr (B := live [(2, Ty.sl U8 u), (7, Ty.ptr 8 0), (9, Ty.ptr 34 0), (10, Ty.int .i64 (k.1 : Nat)), (36, Ty.int .i64 (bD g).bY.levels.length), (37, Ty.int .i64 (k.1 : Nat))] [(8, Cont.cells 27 [Ty.int .i64 (bD g).bY.days, Ty.vs 749 (bD g).bY.bins.length, Ty.sl dJ (bD g).bY.moves, Ty.vs 746 (bD g).bY.levels.length]), (34, Cont.cells 149 (cW (aP (c9 (bD g).bY.levels (bN h) k.1).2))), (749, Cont.vec dr 39 (bD g).bY.bins), (746, Cont.vec dK 102 (c9 (bD g).bY.levels (bN h) k.1).1)]) ?_ ?_
   ·refine dG.mk' ?_ ?_
    ·(repeat (first | refine aB ?_ (Ty.aT _) | refine aB ?_ (Ty.aE _))); exact aI
    refine aF rfl (Cont.aE _) ?_; refine aF rfl (Cont.aE _) ?_; refine aF rfl (Cont.aE _) ?_; refine aF rfl (Cont.aE _) ?_; exact aJ
   refine aA (mS rfl ?_)
   refine bu [(34, 1000)] [] [(34, Cont.cells 149 (cW (aP (aP (c9 (bD g).bY.levels (bN h) k.1).2))))] (gq (aP (c9 (bD g).bY.levels (bN h) k.1).2) ⟨by omega, by omega⟩ 40) rfl rfl (by repeat (first | exact bK | refine aH ?_ ?_ | exact dN List.mem_cons_self | exact aM rfl rfl)) (bq (a := 34) (b := 1000) (by exact List.mem_cons_self) rfl (ah (by exact List.mem_cons_self) rfl rfl rfl) pre_nil) (bG (a := 34) (b := 1000) (by exact List.mem_cons_self) rfl (ah (by exact List.mem_cons_self) rfl rfl rfl) post_nil) (aM rfl rfl) ?_
   refine cJ rfl (aD (aC (aG ?_)))
   refine cr (B := live [(2, Ty.sl U8 u), (7, Ty.ptr 8 0), (9, Ty.ptr 34 0), (10, Ty.int .i64 (k.1 : Nat)), (36, Ty.int .i64 (bD g).bY.levels.length), (37, Ty.int .i64 (k.1 : Nat)), (11, Ty.int .i64 (bF (aP (c9 (bD g).bY.levels (bN h) k.1).2) 40))] [(8, Cont.cells 27 [Ty.int .i64 (bD g).bY.days, Ty.vs 749 (bD g).bY.bins.length, Ty.sl dJ (bD g).bY.moves, Ty.vs 746 (bD g).bY.levels.length]), (34, Cont.cells 149 (cW (aP (aP (c9 (bD g).bY.levels (bN h) k.1).2)))), (749, Cont.vec dr 39 (bD g).bY.bins), (746, Cont.vec dK 102 (c9 (bD g).bY.levels (bN h) k.1).1)]) ?_ ?_
   ·refine dG.mk' ?_ ?_
    ·(repeat (first | refine aB ?_ (Ty.aT _) | refine aB ?_ (Ty.aE _))); exact aI
    refine aF rfl (Cont.aE _) ?_; refine aF rfl (Cont.aE _) ?_; refine aF rfl (Cont.aE _) ?_; refine aF rfl (Cont.aE _) ?_; exact aJ
   have hlv := hP.Fc k.1 (by omega)
   unfold DV at hlv
   refine aA ?_
   refine aN rfl rfl rfl rfl rfl (by decide) ?_
   refine aU rfl rfl (by decide) rfl rfl rfl ?_
   refine bS rfl ?_
   refine eJ rfl rfl rfl rfl rfl (by omega) ?_
   refine aN rfl rfl rfl rfl rfl (by decide) ?_
   refine NA rfl (aD (aC ?_))
   refine iF (s := 12) rfl (Ty.sub_eq (congrArg (Ty.ptr 746) (show _ = k.1 * 4 + 2 by rfl))) ?_
   refine cr (B := live [(2, Ty.sl U8 u), (7, Ty.ptr 8 0), (9, Ty.ptr 34 0), (10, Ty.int .i64 (k.1 : Nat)), (36, Ty.int .i64 (bD g).bY.levels.length), (37, Ty.int .i64 (k.1 : Nat)), (11, Ty.int .i64 (bF (aP (c9 (bD g).bY.levels (bN h) k.1).2) 40)), (12, Ty.ptr 746 (k.1 * 4 + 2))] [(8, Cont.cells 27 [Ty.int .i64 (bD g).bY.days, Ty.vs 749 (bD g).bY.bins.length, Ty.sl dJ (bD g).bY.moves, Ty.vs 746 (bD g).bY.levels.length]), (34, Cont.cells 149 (cW (aP (aP (c9 (bD g).bY.levels (bN h) k.1).2)))), (749, Cont.vec dr 39 (bD g).bY.bins), (746, Cont.vec dK 102 (c9 (bD g).bY.levels (bN h) k.1).1)]) ?_ ?_
   ·refine dG.mk' ?_ ?_
    ·(repeat (first | refine aB ?_ (Ty.aT _) | refine aB ?_ (Ty.aE _))); exact aI
    refine aF rfl (Cont.aE _) ?_; refine aF rfl (Cont.aE _) ?_; refine aF rfl (Cont.aE _) ?_; refine aF rfl (Cont.aE _) ?_; exact aJ
   refine cZ mixed rfl (mS rfl (mS rfl (mS rfl (cC rfl ?_))))
   refine aN rfl rfl rfl rfl rfl (by decide) ?_
   refine uM (E := dK) (i := k.1) (o := 2) (s := 4) rfl rfl rfl (by decide) rfl rfl (by omega) rfl ?_
   refine bS rfl ?_
   refine cD rfl rfl (by omega) (by omega) ?_
   refine qL rfl rfl (mS rfl (cC rfl ?_))
   refine aN rfl rfl rfl rfl rfl (by decide) ?_
   refine uM (E := dK) (i := k.1) (o := 3) (s := 4) rfl rfl rfl (by decide) rfl rfl (by omega) rfl ?_
   refine bS rfl ?_
   refine cD rfl rfl (by omega) (by omega) ?_
   refine qL rfl rfl (cC rfl ?_)
   refine aN rfl rfl rfl rfl rfl (by decide) ?_
   refine nR (E := dK) (i := k.1) (o := 2) (s := 4) (z := ⟨(nth (c9 (bD g).bY.levels (bN h) k.1).1 k.1).day, (nth (c9 (bD g).bY.levels (bN h) k.1).1 k.1).bin, ⟨min 300 ((nth (c9 (bD g).bY.levels (bN h) k.1).1 k.1).sacks.lo + bF (aP (c9 (bD g).bY.levels (bN h) k.1).2) 40), (nth (c9 (bD g).bY.levels (bN h) k.1).1 k.1).sacks.hi⟩⟩) rfl rfl rfl (by decide) rfl rfl rfl rfl (by omega) (by decide) rfl rfl ?_
   refine cC rfl ?_
   refine aN rfl rfl rfl rfl rfl (by decide) ?_
   refine nR (E := dK) (i := k.1) (o := 3) (s := 4) (z := ND (c9 (bD g).bY.levels (bN h) k.1) k.1) rfl rfl rfl (by decide) rfl rfl rfl rfl (by rw [List.length_set]; omega) (by decide) rfl (by rw [iL (by omega), if_pos rfl]; rfl) ?_
   refine aD ?_
   refine ⟨by kernel_rfl, ?_⟩
   refine bV (aC (aA ?_))
   refine cD rfl rfl (by omega) (by omega) ?_
   refine bS rfl (aD ?_)
   refine bk (⟨k.1 + 1, by omega⟩) ?_ (by show (bD g).bY.levels.length - (k.1 + 1) < (bD g).bY.levels.length - k.1; omega)
   (refine dG.mk' ?_ ?_ <;> (repeat' (first | exact aI | exact aJ | exact cT | refine aB ?_ (Ty.aT _) | refine aB ?_ (Ty.aE _) | refine aF rfl (Cont.aE _) ?_ | refine aF rfl (Cont.cS ?_) ?_ | refine bM ?_ ?_ | refine aF rfl ?_ ?_)))
   all_goals skip
   all_goals first | (refine Cont.dn ?_; rw [List.set_set]; exact Ke (by assumption)) | exact Ty.aa (K0 (by assumption)) | exact Ty.aa (Lb (by assumption)) | exact Ty.eV (Kh (by assumption))
  refine aq (bV (aC (aA ?_)))
  refine cD rfl rfl (by omega) (by omega) ?_
  refine bS rfl (aD ?_)
  refine bk (⟨k.1 + 1, by omega⟩) ?_ (by show (bD g).bY.levels.length - (k.1 + 1) < (bD g).bY.levels.length - k.1; omega)
  (refine dG.mk' ?_ ?_ <;> (repeat' (first | exact aI | exact aJ | exact cT | refine aB ?_ (Ty.aT _) | refine aB ?_ (Ty.aE _) | refine aF rfl (Cont.aE _) ?_ | refine aF rfl (Cont.cS ?_) ?_ | refine bM ?_ ?_ | refine aF rfl ?_ ?_)))
  all_goals skip
  all_goals first | exact Cont.dn (Ln (by assumption)) | exact Ty.aa (LR (by assumption)) | exact Ty.aa (LO (by assumption)) | exact Ty.eV (Ly (by assumption))
 refine cj (aQ (aQ (av rfl (aC ?_))))
 refine kC (J := live [(2, Ty.sl U8 u), (7, Ty.ptr 8 0)] [(8, Cont.cells 27 [Ty.int .i64 (bD g).bY.days, Ty.vs 749 (bD g).bY.bins.length, Ty.sl dJ (bD g).bY.moves, Ty.vs 746 (bD g).bY.levels.length]), (749, Cont.vec dr 39 (EJ ((bD g).bY.bins, (c9 (bD g).bY.levels (bN h) (bD g).bY.levels.length).2)).1), (746, Cont.vec dK 102 (c9 (bD g).bY.levels (bN h) (bD g).bY.levels.length).1)]) ?_ ?_
 ·
  refine aG ?_
  obtain ⟨k, hk⟩ := k
  obtain rfl : k = (bD g).bY.levels.length := by have h1 : ¬ (k : Int) < ((bD g).bY.levels.length : Int) := hc1; have h2 : k ≤ (bD g).bY.levels.length := hk; omega
  have hP := BR (q := (bN h)) hyr (bD g).bY.levels.length (Nat.le_refl _)
  have c1 := hP.len
  have c2 := hP.low
  have c3 := hP.high
  have c4 := cG (c9 (bD g).bY.levels (bN h) (bD g).bY.levels.length).2
  have c5 := cG (aP (c9 (bD g).bY.levels (bN h) (bD g).bY.levels.length).2)
  have c6 := cP (aP (c9 (bD g).bY.levels (bN h) (bD g).bY.levels.length).2) ((bD g).bY.bins.length : Nat)
  refine aA (mS rfl ?_)
  refine bu [(34, 1000)] [] [(34, Cont.cells 149 (cW (aP (c9 (bD g).bY.levels (bN h) (bD g).bY.levels.length).2)))] (zM (c9 (bD g).bY.levels (bN h) (bD g).bY.levels.length).2 ⟨by omega, by omega⟩ 3) rfl rfl (by repeat (first | exact bK | refine aH ?_ ?_ | exact dN List.mem_cons_self | exact aM rfl rfl)) (bq (a := 34) (b := 1000) (by exact List.mem_cons_self) rfl (ah (by exact List.mem_cons_self) rfl rfl rfl) pre_nil) (bG (a := 34) (b := 1000) (by exact List.mem_cons_self) rfl (ah (by exact List.mem_cons_self) rfl rfl rfl) post_nil) (aM rfl rfl) ?_
  refine aD (aC ?_)
  refine aj rfl (fun hc3 => ?_) (fun hc3 => ?_)
  ·
   refine aG ?_
   refine cr (B := live [(2, Ty.sl U8 u), (7, Ty.ptr 8 0), (9, Ty.ptr 34 0)] [(8, Cont.cells 27 [Ty.int .i64 (bD g).bY.days, Ty.vs 749 (bD g).bY.bins.length, Ty.sl dJ (bD g).bY.moves, Ty.vs 746 (bD g).bY.levels.length]), (34, Cont.cells 149 (cW (aP (c9 (bD g).bY.levels (bN h) (bD g).bY.levels.length).2))), (749, Cont.vec dr 39 (bD g).bY.bins), (746, Cont.vec dK 102 (c9 (bD g).bY.levels (bN h) (bD g).bY.levels.length).1)]) ?_ ?_
   ·refine dG.mk' ?_ ?_
    ·(repeat (first | refine aB ?_ (Ty.aT _) | refine aB ?_ (Ty.aE _))); exact aI
    refine aF rfl (Cont.aE _) ?_; refine aF rfl (Cont.aE _) ?_; refine aF rfl (Cont.aE _) ?_; refine aF rfl (Cont.aE _) ?_; exact aJ
   refine aA (mS rfl ?_)
   refine aN rfl rfl rfl rfl rfl (by decide) ?_
   refine aU rfl rfl (by decide) rfl rfl rfl ?_
   refine ow rfl rfl rfl ?_
   refine bu [(34, 1000)] [] [(34, Cont.cells 149 (cW (aP (aP (c9 (bD g).bY.levels (bN h) (bD g).bY.levels.length).2))))] (gq (aP (c9 (bD g).bY.levels (bN h) (bD g).bY.levels.length).2) ⟨by omega, by omega⟩ _) rfl rfl (by repeat (first | exact bK | refine aH ?_ ?_ | exact dN List.mem_cons_self | exact aM rfl rfl)) (bq (a := 34) (b := 1000) (by exact List.mem_cons_self) rfl (ah (by exact List.mem_cons_self) rfl rfl rfl) pre_nil) (bG (a := 34) (b := 1000) (by exact List.mem_cons_self) rfl (ah (by exact List.mem_cons_self) rfl rfl rfl) post_nil) (aM rfl rfl) ?_
   refine cJ rfl (aD (aC ?_))
   refine cr (B := live [(2, Ty.sl U8 u), (7, Ty.ptr 8 0), (9, Ty.ptr 34 0), (13, Ty.int .i64 (bF (aP (c9 (bD g).bY.levels (bN h) (bD g).bY.levels.length).2) ((bD g).bY.bins.length : Nat)))] [(8, Cont.cells 27 [Ty.int .i64 (bD g).bY.days, Ty.vs 749 (bD g).bY.bins.length, Ty.sl dJ (bD g).bY.moves, Ty.vs 746 (bD g).bY.levels.length]), (34, Cont.cells 149 (cW (aP (aP (c9 (bD g).bY.levels (bN h) (bD g).bY.levels.length).2)))), (749, Cont.vec dr 39 (bD g).bY.bins), (746, Cont.vec dK 102 (c9 (bD g).bY.levels (bN h) (bD g).bY.levels.length).1)]) ?_ ?_
   ·refine dG.mk' ?_ ?_
    ·(repeat (first | refine aB ?_ (Ty.aT _) | refine aB ?_ (Ty.aE _))); exact aI
    refine aF rfl (Cont.aE _) ?_; refine aF rfl (Cont.aE _) ?_; refine aF rfl (Cont.aE _) ?_; refine aF rfl (Cont.aE _) ?_; exact aJ
   refine cZ mixed rfl ?_
   refine aN rfl rfl rfl rfl rfl (by decide) ?_
   refine aU rfl rfl (by decide) rfl rfl rfl ?_
   refine bS rfl (mS rfl ?_)
   refine bu [(34, 1000)] [] [(34, Cont.cells 149 (cW (aP (aP (aP (c9 (bD g).bY.levels (bN h) (bD g).bY.levels.length).2)))))] (gq (aP (aP (c9 (bD g).bY.levels (bN h) (bD g).bY.levels.length).2)) ⟨by omega, by omega⟩ 60) rfl rfl (by repeat (first | exact bK | refine aH ?_ ?_ | exact dN List.mem_cons_self | exact aM rfl rfl)) (bq (a := 34) (b := 1000) (by exact List.mem_cons_self) rfl (ah (by exact List.mem_cons_self) rfl rfl rfl) pre_nil) (bG (a := 34) (b := 1000) (by exact List.mem_cons_self) rfl (ah (by exact List.mem_cons_self) rfl rfl rfl) post_nil) (aM rfl rfl) ?_
   refine gC rfl rfl rfl rfl rfl (by omega) (by omega) ?_
   refine aN rfl rfl rfl rfl rfl (by decide) ?_
   refine iU (E := dr) (i := (bF (aP (c9 (bD g).bY.levels (bN h) (bD g).bY.levels.length).2) ((bD g).bY.bins.length : Nat)).toNat) (z := ⟨bF (aP (aP (c9 (bD g).bY.levels (bN h) (bD g).bY.levels.length).2)) 60, (nth (bD g).bY.bins (bF (aP (c9 (bD g).bY.levels (bN h) (bD g).bY.levels.length).2) ((bD g).bY.bins.length : Nat)).toNat).first⟩) rfl rfl rfl (by decide) rfl rfl rfl rfl (by omega) (by decide) rfl rfl ?_
   refine aD ?_
   refine ⟨by kernel_rfl, ?_⟩
   refine ew ?_
   (refine dG.mk' ?_ ?_ <;> (repeat' (first | exact aI | exact aJ | refine aB ?_ (Ty.aT _) | refine aB ?_ (Ty.aE _) | refine aF rfl (Cont.aE _) ?_ | refine aF rfl ?_ ?_)))
   all_goals exact Cont.dn (congrArg Prod.fst (LL (s := ((bD g).bY.bins, (c9 (bD g).bY.levels (bN h) (bD g).bY.levels.length).2)) (by assumption)))
  refine aq (ew ?_)
  (refine dG.mk' ?_ ?_ <;> (repeat' (first | exact aI | exact aJ | refine aB ?_ (Ty.aT _) | refine aB ?_ (Ty.aE _) | refine aF rfl (Cont.aE _) ?_ | refine aF rfl ?_ ?_)))
  all_goals exact Cont.dn (congrArg Prod.fst (MK (s := ((bD g).bY.bins, (c9 (bD g).bY.levels (bN h) (bD g).bY.levels.length).2)) (by assumption)))
 refine aG ?_
 have c1 := (BR (q := (bN h)) hyr (bD g).bY.levels.length (Nat.le_refl _)).len
 have hHl : (EJ ((bD g).bY.bins, (c9 (bD g).bY.levels (bN h) (bD g).bY.levels.length).2)).1.length = (bD g).bY.bins.length := G2
 refine cr (B := live [(2, Ty.sl U8 u), (7, Ty.ptr 8 0)] [(8, Cont.cells 27 [Ty.int .i64 (bD g).bY.days, Ty.vs 749 (bD g).bY.bins.length, Ty.sl dJ (bD g).bY.moves, Ty.vs 746 (bD g).bY.levels.length]), (749, Cont.vec dr 39 (EJ ((bD g).bY.bins, (c9 (bD g).bY.levels (bN h) (bD g).bY.levels.length).2)).1), (746, Cont.vec dK 102 (c9 (bD g).bY.levels (bN h) (bD g).bY.levels.length).1)]) ?_ ?_
 ·refine dG.mk' ?_ ?_
  ·(repeat (first | refine aB ?_ (Ty.aT _) | refine aB ?_ (Ty.aE _))); exact aI
  refine aF rfl (Cont.aE _) ?_; refine aF rfl (Cont.aE _) ?_; refine aF rfl (Cont.aE _) ?_; exact aJ
 refine nN (tg := 749) [] [(8, Cont.cells 27 [Ty.int .i64 (bD g).bY.days, Ty.sl dr (EJ ((bD g).bY.bins, (c9 (bD g).bY.levels (bN h) (bD g).bY.levels.length).2)).1, Ty.sl dJ (bD g).bY.moves, Ty.vs 746 (bD g).bY.levels.length])] (by decide) rfl trivial ⟨iP rfl rfl ⟨cH rfl, lW rfl hHl (by decide), cH rfl, cH rfl, trivial⟩, trivial⟩ ?_
 refine cr (B := live [(2, Ty.sl U8 u), (7, Ty.ptr 8 0)] [(8, Cont.cells 27 [Ty.int .i64 (bD g).bY.days, Ty.sl dr (EJ ((bD g).bY.bins, (c9 (bD g).bY.levels (bN h) (bD g).bY.levels.length).2)).1, Ty.sl dJ (bD g).bY.moves, Ty.vs 746 (bD g).bY.levels.length]), (746, Cont.vec dK 102 (c9 (bD g).bY.levels (bN h) (bD g).bY.levels.length).1)]) ?_ ?_
 ·refine dG.mk' ?_ ?_
  ·(repeat (first | refine aB ?_ (Ty.aT _) | refine aB ?_ (Ty.aE _))); exact aI
  refine aF rfl (Cont.aE _) ?_; refine aF rfl (Cont.aE _) ?_; exact aJ
 refine nN (tg := 746) [] [(8, Cont.cells 27 [Ty.int .i64 (bD g).bY.days, Ty.sl dr (EJ ((bD g).bY.bins, (c9 (bD g).bY.levels (bN h) (bD g).bY.levels.length).2)).1, Ty.sl dJ (bD g).bY.moves, Ty.sl dK (c9 (bD g).bY.levels (bN h) (bD g).bY.levels.length).1])] (by decide) rfl trivial ⟨iP rfl rfl ⟨cH rfl, cH rfl, cH rfl, lW rfl c1 (by decide), trivial⟩, trivial⟩ ?_
 obtain ⟨Z, eZ⟩ : ∃ z, z = Iu (bD g).bY (bN h) := ⟨_, rfl⟩
 refine gT (tg := 8) rfl (Cont.eA (l' := bZ Z) ⟨Ty.aa (by rw [eZ]; unfold Iu; rfl), Ty.eV (by rw [eZ]; unfold Iu; rfl), Ty.eV (by rw [eZ]; unfold Iu; rfl), Ty.eV (by rw [eZ]; unfold Iu; rfl), trivial⟩) ?_
 refine cr (B := live [(2, Ty.sl U8 u), (7, Ty.ptr 8 0)] [(8, Cont.cells 27 (bZ Z))]) ?_ ?_
 ·refine dG.mk' ?_ ?_
  ·(repeat (first | refine aB ?_ (Ty.aT _) | refine aB ?_ (Ty.aE _))); exact aI
  refine aF rfl (Cont.aE _) ?_; exact aJ
 have hzr : Z.cU := by rw [eZ]; exact E3 hyr
 clear eZ hHl
 have hzb := hzr.bins
 have hzm := hzr.moves
 have hzl := hzr.levels
 have hzd := hzr.days
 have hzD := D_eq hzr
 have hzs : Z.Small := ⟨by omega, by omega, by omega⟩
 have hpl := F5 (y := Z)
 have hbD : Z.bins.length * Z.D ≤ 20 := Nat.le_trans (Nat.mul_le_mul hzb.2 (show Z.D ≤ 5 by omega)) (by decide)
 refine aA ?_
 refine bh rfl rfl (by decide) rfl rfl (by exact Nat.le_of_ble_eq_true rfl) ?_
 refine bA (GF Z hzs) rfl rfl rfl rfl rfl (qJ rfl (bO rfl rfl (bO rfl rfl ?_)))
 refine cE rfl (by exact List.cons_ne_nil _ _) rfl ?_
 refine b8 rfl rfl (by decide) rfl rfl rfl rfl rfl rfl ?_
 refine cJ rfl (aD (aC (aG ?_)))
 refine cr (B := live [(2, Ty.sl U8 u), (7, Ty.ptr 8 0), (14, Ty.ptr 15 0), (15, Ty.int .i64 (cL Z))] [(8, Cont.cells 27 (bZ Z)), (15, Cont.cells 30 (jo (lp Z)))]) ?_ ?_
 ·refine dG.mk' ?_ ?_
  ·(repeat (first | refine aB ?_ (Ty.aT _) | refine aB ?_ (Ty.aE _))); exact aI
  refine aF rfl (Cont.aE _) ?_; refine aF rfl (Cont.aE _) ?_; exact aJ
 refine aA ?_
 refine bh rfl rfl (by decide) rfl rfl (by exact Nat.le_of_ble_eq_true rfl) ?_
 refine bA (I0 Z hzs) rfl rfl rfl rfl rfl (qJ rfl (bO rfl rfl (bO rfl rfl ?_)))
 refine cE rfl (by exact List.cons_ne_nil _ _) rfl ?_
 refine b8 rfl rfl (by decide) rfl rfl rfl rfl rfl rfl ?_
 refine cJ rfl (aD (aC ?_))
 refine kC (J := live [(2, Ty.sl U8 u), (7, Ty.ptr 8 0), (15, Ty.int .i64 (cL Z))] [(8, Cont.cells 27 (bZ Z))]) ?_ ?_
 ·
  refine aG ?_
  refine cr (B := live [(2, Ty.sl U8 u), (7, Ty.ptr 8 0), (14, Ty.ptr 15 0), (15, Ty.int .i64 (cL Z)), (16, Ty.ptr 17 0), (17, Ty.int .i64 (qp Z))] [(8, Cont.cells 27 (bZ Z)), (15, Cont.cells 30 (jo (lp Z))), (17, Cont.cells 106 (iq (nH Z)))]) ?_ ?_
  ·refine dG.mk' ?_ ?_
   ·(repeat (first | refine aB ?_ (Ty.aT _) | refine aB ?_ (Ty.aE _))); exact aI
   refine aF rfl (Cont.aE _) ?_; refine aF rfl (Cont.aE _) ?_; refine aF rfl (Cont.aE _) ?_; exact aJ
  refine aA (bS rfl (bJ rfl rfl rfl (aD (aC ?_))))
  refine aj rfl (fun hc4 => ?_) (fun hc4 => ?_)
  ·
   refine aG ?_
   have ho1 : cL Z = 0 := hc4
   refine iF (s := 17) rfl (Ty.aa (Fi hzr ho1)) ?_
   refine aA (bS rfl (bJ rfl rfl rfl (gj rfl ?_)))
   apply aV (s := 98) rfl rfl rfl
   ·intro hg; apply aX; (refine bh rfl rfl (by decide) rfl rfl (by exact Nat.le_of_ble_eq_true rfl) ?_); refine aD ?_; exact rfl
   ·exact rfl
   ·exact rfl
   apply aV (s := 98) rfl rfl rfl
   ·intro hg; apply aX; (refine bh rfl rfl (by decide) rfl rfl (by exact Nat.le_of_ble_eq_true rfl) ?_); refine aD ?_; exact rfl
   ·exact rfl
   ·exact rfl
   apply aV (s := 98) rfl rfl rfl
   ·intro hg; apply aS (s := 99) rfl (by (rw [hg]; rfl)); apply aS (s := 100) rfl (by (rw [hg]; rfl)); apply aX; (refine bA (Kv Z (lp Z) hzr (K1 hzr ho1)) rfl rfl rfl rfl rfl ?_); refine aD ?_; exact rfl
   ·exact rfl
   ·exact rfl
   apply aV (s := 98) rfl rfl rfl
   ·intro hg; apply aS (s := 101) rfl (by (rw [hg]; rfl)); apply aX; (refine eD rfl ?_); refine aD ?_; exact rfl
   ·exact rfl
   ·exact rfl
   refine oK rfl rfl (aD (aC (je rfl (Ng hzr ho1) (aq (ew ?_)))))
   (refine dG.mk' ?_ ?_ <;> (repeat' (first | exact aI | exact aJ | refine aB ?_ (Ty.aT _) | refine aB ?_ (Ty.aE _) | refine aF rfl (Cont.aE _) ?_)))
   all_goals trace_state
  refine aG (aA ?_)
  refine bh rfl rfl (by decide) rfl rfl (by exact Nat.le_of_ble_eq_true rfl) ?_
  refine bh rfl rfl (by decide) rfl rfl (by exact Nat.le_of_ble_eq_true rfl) ?_
  refine bA (wW Z hzs (nH Z) (by omega)) rfl rfl rfl rfl rfl ?_
  refine qJ rfl (bO rfl rfl (bO rfl rfl (cJ rfl (cJ rfl (aD (aC (aG (aA (bS rfl ?_)))))))))
  refine bJ rfl rfl rfl (gj rfl ?_)
  apply aV (s := 112) rfl rfl rfl
  ·intro hg; apply aX; (refine bS rfl ?_); refine aD ?_; exact rfl
  ·exact rfl
  ·exact rfl
  apply aV (s := 112) rfl rfl rfl
  ·intro hg; apply aS (s := 113) rfl (by (rw [hg]; rfl)); apply aX; (refine bJ rfl rfl rfl ?_); refine aD ?_; exact rfl
  ·exact rfl
  ·exact rfl
  refine oK rfl rfl (gj rfl ?_)
  apply aV (s := 116) rfl rfl rfl
  ·intro hg; apply aX; (refine bS rfl ?_); refine aD ?_; exact rfl
  ·exact rfl
  ·exact rfl
  apply aV (s := 116) rfl rfl rfl
  ·intro hg; apply aS (s := 117) rfl (by (rw [hg]; rfl)); apply aX; (refine bJ rfl rfl rfl ?_); refine aD ?_; exact rfl
  ·exact rfl
  ·exact rfl
  refine oK rfl rfl (gj rfl ?_)
  apply aV (s := 120) rfl rfl rfl
  ·intro hg; apply aX; (refine bS rfl ?_); refine aD ?_; exact rfl
  ·exact rfl
  ·exact rfl
  apply aV (s := 120) rfl rfl rfl
  ·intro hg; apply aS (s := 121) rfl (by (rw [hg]; rfl)); apply aX; (refine bJ rfl rfl rfl ?_); refine aD ?_; exact rfl
  ·exact rfl
  ·exact rfl
  refine oK rfl rfl (aD (aC (je rfl (No hzr hc4) (aq (ew ?_)))))
  (refine dG.mk' ?_ ?_ <;> (repeat' (first | exact aI | exact aJ | refine aB ?_ (Ty.aT _) | refine aB ?_ (Ty.aE _) | refine aF rfl (Cont.aE _) ?_)))
  all_goals trace_state
 refine aG (aA (gw rfl ?_))
 refine bu [(126, 10)] [126] [(126, Cont.cells 149 (cW (bN u)))] (C1 u) rfl rfl (by repeat (first | exact bK | refine aH ?_ ?_ | exact aM rfl rfl)) pre_nil (bG (a := 126) (b := 10) (by exact List.mem_cons_self) rfl (ah (by exact List.mem_cons_self) rfl rfl rfl) post_nil) (dN (by exact List.mem_cons_self)) ?_
 refine NA rfl (aD (aC (aG (aG ?_))))
 refine cr (B := live [(7, Ty.ptr 8 0), (15, Ty.int .i64 (cL Z)), (20, Ty.ptr 126 0)] [(8, Cont.cells 27 (bZ Z)), (126, Cont.cells 149 (cW (bN u)))]) ?_ ?_
 ·refine dG.mk' ?_ ?_
  ·(repeat (first | refine aB ?_ (Ty.aT _) | refine aB ?_ (Ty.aE _))); exact aI
  refine aF rfl (Cont.aE _) ?_; refine aF rfl (Cont.aE _) ?_; exact aJ
 refine aA (bS rfl (aD (aC (au ?_))))
 refine cg (fun (i : {i : Nat // i ≤ 8}) => live [(7, Ty.ptr 8 0), (15, Ty.int .i64 (cL Z)), (20, Ty.ptr 126 0), (126, Ty.int .i64 (i.1 : Nat))] [(8, Cont.cells 27 (bZ Z)), (126, Cont.cells 149 (cW (mX Z (bN u) i.1)))]) (fun i => 8 - i.1) (⟨0, by omega⟩) ?_ fun i => ?_
 ·(refine dG.mk' ?_ ?_ <;> (repeat' (first | exact aI | exact aJ | exact cT | refine aB ?_ (Ty.aT _) | refine aB ?_ (Ty.aE _) | refine aF rfl (Cont.aE _) ?_ | refine aF rfl (Cont.cS ?_) ?_ | refine bM ?_ ?_)))
  all_goals first | exact Ty.aa (congrArg (fun s : Sk => s.mixed) (Lj (y := Z) (q := (bN u)))) | exact Ty.aa (congrArg (fun s : Sk => s.taken) (Lj (y := Z) (q := (bN u)))) | exact Ty.eV (congrArg (fun s : Sk => s.grain) (Lj (y := Z) (q := (bN u))))
 have hi := i.2
 have t1 := yf (y := Z) (q := (bN u)) i.1
 have t2 : i.1 * (Z.bins.length * Z.D + 1) ≤ 8 * 21 := Nat.mul_le_mul hi (by omega)
 refine aG (aA (bJ rfl rfl rfl (aD (aC (aG ?_)))))
 refine aj rfl (fun hc7 => ?_) (fun hc7 => ?_)
 ·
  refine aq (aC (aG (au (aG (aA (nC rfl (aD (aC (aG ?_)))))))))
  refine aG (aA ?_)
  refine aN rfl rfl rfl rfl rfl (by decide) ?_
  refine aU rfl rfl (by decide) rfl rfl rfl ?_
  refine dP rfl rfl rfl (bS rfl (aD (aC (au ?_))))
  refine cg (fun (b : {b : Nat // b ≤ Z.bins.length}) => live [(7, Ty.ptr 8 0), (15, Ty.int .i64 (cL Z)), (20, Ty.ptr 126 0), (126, Ty.int .i64 (i.1 : Nat)), (21, Ty.row ke 109 147 (tryAll Z.D ([], (mX Z (bN u) i.1)) b.1).1), (130, Ty.int .i64 Z.bins.length), (131, Ty.int .i64 (b.1 : Nat))] [(8, Cont.cells 27 (bZ Z)), (126, Cont.cells 149 (cW (tryAll Z.D ([], (mX Z (bN u) i.1)) b.1).2))]) (fun b => Z.bins.length - b.1) (⟨0, by omega⟩) ?_ fun b => ?_
  ·(refine dG.mk' ?_ ?_ <;> (repeat' (first | exact aI | exact aJ | exact cT | refine aB ?_ (Ty.aT _) | refine aB ?_ (Ty.aE _) | refine aF rfl (Cont.aE _) ?_ | refine aF rfl (Cont.cS ?_) ?_ | refine bM ?_ ?_ | refine aB ?_ ?_)))
   all_goals first | exact Bx (NM (D := Z.D) (q := (mX Z (bN u) i.1))).symm | exact Ty.aa (congrArg (fun s : List ku × Sk => s.2.mixed) (LH (D := Z.D) (s := ([], (mX Z (bN u) i.1))))) | exact Ty.aa (congrArg (fun s : List ku × Sk => s.2.taken) (LH (D := Z.D) (s := ([], (mX Z (bN u) i.1))))) | exact Ty.eV (congrArg (fun s : List ku × Sk => s.2.grain) (LH (D := Z.D) (s := ([], (mX Z (bN u) i.1)))))
  have hb := b.2
  have hA := ug (y := Z) (mX Z (bN u) i.1) b.1
  refine aG (aA (bJ rfl rfl rfl (aD (aC (aG ?_)))))
  refine aj rfl (fun hc8 => ?_) (fun hc8 => ?_)
  ·
   refine aq (aC (aG (au (aG (aA (bS rfl (cJ rfl (aD (aC ?_)))))))))
   refine aG (aA ?_)
   refine aN rfl rfl rfl rfl rfl (by decide) ?_
   refine aU rfl rfl (by decide) rfl rfl rfl ?_
   refine bS rfl (aD (aC (au ?_)))
   refine cg (fun (d : {d : Nat // d ≤ Z.D}) => live [(7, Ty.ptr 8 0), (15, Ty.int .i64 (cL Z)), (20, Ty.ptr 126 0), (126, Ty.int .i64 (i.1 : Nat)), (21, Ty.row ke 109 147 (fD b.1 d.1 (tryAll Z.D ([], (mX Z (bN u) i.1)) b.1)).1), (22, Ty.int .i64 (b.1 : Nat)), (130, Ty.int .i64 Z.bins.length), (131, Ty.int .i64 (b.1 : Nat)), (135, Ty.int .i64 Z.days), (136, Ty.int .i64 (d.1 : Nat))] [(8, Cont.cells 27 (bZ Z)), (126, Cont.cells 149 (cW (fD b.1 d.1 (tryAll Z.D ([], (mX Z (bN u) i.1)) b.1)).2))]) (fun d => Z.D - d.1) (⟨0, by omega⟩) ?_ fun d => ?_
   ·(refine dG.mk' ?_ ?_ <;> (repeat' (first | exact aI | exact aJ | exact cT | refine aB ?_ (Ty.aT _) | refine aB ?_ (Ty.aE _) | refine aF rfl (Cont.aE _) ?_ | refine aF rfl (Cont.cS ?_) ?_ | refine bM ?_ ?_ | refine aB ?_ ?_)))
    all_goals first | exact Ty.eU (congrArg Prod.fst (JL (b := b.1) (s := (tryAll Z.D ([], (mX Z (bN u) i.1)) b.1)))) | exact Ty.aa (congrArg (fun s : List ku × Sk => s.2.mixed) (JL (b := b.1) (s := (tryAll Z.D ([], (mX Z (bN u) i.1)) b.1)))) | exact Ty.aa (congrArg (fun s : List ku × Sk => s.2.taken) (JL (b := b.1) (s := (tryAll Z.D ([], (mX Z (bN u) i.1)) b.1)))) | exact Ty.eV (congrArg (fun s : List ku × Sk => s.2.grain) (JL (b := b.1) (s := (tryAll Z.D ([], (mX Z (bN u) i.1)) b.1))))
   have hd4 := d.2
   have hb4 : b.1 < Z.bins.length := by omega
   have hR := zn hA d.1 hd4
   have r1 := hR.taken
   have r2 := hR.nJ
   have r3 : b.1 * Z.D ≤ 20 := Nat.le_trans (Nat.mul_le_mul (Nat.le_of_lt hb4) (Nat.le_refl _)) hbD
   refine aG (aA (bJ rfl rfl rfl (aD (aC (aG ?_)))))
   refine aj rfl (fun hc9 => ?_) (fun hc9 => ?_)
   ·
    refine aq (aC (aG (au (aG (aA (bS rfl (cJ rfl (aD (aC ?_)))))))))
    refine aG (aA (mS rfl ?_))
    refine bu [(126, 1000)] [] [(126, Cont.cells 149 (cW (aP (fD b.1 d.1 (tryAll Z.D ([], (mX Z (bN u) i.1)) b.1)).2)))] (zM (fD b.1 d.1 (tryAll Z.D ([], (mX Z (bN u) i.1)) b.1)).2 ⟨by omega, by omega⟩ 2) rfl rfl (by repeat (first | exact bK | refine aH ?_ ?_ | exact dN List.mem_cons_self | exact aM rfl rfl)) (bq (a := 126) (b := 1000) (by exact List.mem_cons_self) rfl (ah (by exact List.mem_cons_self) rfl rfl rfl) pre_nil) (bG (a := 126) (b := 1000) (by exact List.mem_cons_self) rfl (ah (by exact List.mem_cons_self) rfl rfl rfl) post_nil) (aM rfl rfl) ?_
    refine aD (aC ?_)
    refine aj rfl (fun hc10 => ?_) (fun hc10 => ?_)
    ·
     refine aA (Jw rfl (bS rfl (bS rfl ?_)))
     refine dD rfl rfl (by exact List.cons_ne_nil _ _) rfl (by repeat (first | exact (aY.nil : aY _ _ [] _) | (show aY _ _ ((_, _) :: _) _; apply aY.one; (· exact (rfl : _ = Ty.int _ _)); (· exact rfl)))) (by exact (rfl : _ = some [_, _])) ?_
     refine bt (E := ke) (xs := [⟨((b.1 : Nat) : Int), ((d.1 : Nat) : Int)⟩]) rfl rfl rfl rfl rfl (by decide) (by decide) (by repeat (first | exact (aY.nil : aY _ _ [] _) | (show aY _ _ ((_, _) :: _) _; apply aY.agg; (· exact (rfl : _ = Ty.agg _))))) (by exact rfl) rfl ?_
     refine fZ rfl rfl (by decide) rfl rfl rfl rfl rfl rfl (by decide) (by (simp <;> omega)) (by (simp <;> omega)) ?_
     refine GV rfl (aD (bV (aC (aA ?_))))
     refine cD rfl rfl (by omega) (by omega) ?_
     refine bS rfl (aD ?_)
     refine bk (⟨d.1 + 1, by omega⟩) ?_ (by show Z.D - (d.1 + 1) < Z.D - d.1; omega)
     (refine dG.mk' ?_ ?_ <;> (repeat' (first | exact aI | exact aJ | exact cT | refine aB ?_ (Ty.aT _) | refine aB ?_ (Ty.aE _) | refine aF rfl (Cont.aE _) ?_ | refine aF rfl (Cont.cS ?_) ?_ | refine bM ?_ ?_ | refine aB ?_ ?_)))
     all_goals skip
     all_goals first | exact Ty.eU (congrArg Prod.fst (uh (by assumption))) | exact Ty.aa (congrArg (fun s : List ku × Sk => s.2.mixed) (uh (by assumption))) | exact Ty.aa (congrArg (fun s : List ku × Sk => s.2.taken) (uh (by assumption))) | exact Ty.eV (congrArg (fun s : List ku × Sk => s.2.grain) (uh (by assumption)))
    refine aq (bV (aC (aA ?_)))
    refine cD rfl rfl (by omega) (by omega) ?_
    refine bS rfl (aD ?_)
    refine bk (⟨d.1 + 1, by omega⟩) ?_ (by show Z.D - (d.1 + 1) < Z.D - d.1; omega)
    (refine dG.mk' ?_ ?_ <;> (repeat' (first | exact aI | exact aJ | exact cT | refine aB ?_ (Ty.aT _) | refine aB ?_ (Ty.aE _) | refine aF rfl (Cont.aE _) ?_ | refine aF rfl (Cont.cS ?_) ?_ | refine bM ?_ ?_ | refine aB ?_ ?_)))
    all_goals skip
    all_goals first | exact Ty.eU (Lz (by assumption)) | exact Ty.aa (congrArg (fun s : List ku × Sk => s.2.mixed) (AG (by assumption))) | exact Ty.aa (congrArg (fun s : List ku × Sk => s.2.taken) (AG (by assumption))) | exact Ty.eV (congrArg (fun s : List ku × Sk => s.2.grain) (AG (by assumption)))
   refine cj (aQ (aQ (av rfl (bV (aC ?_)))))
   obtain ⟨d, hd4⟩ := d
   obtain rfl : d = Z.D := by have h1 : ¬ (d : Int) < Z.days := hc9; have h2 : d ≤ Z.D := hd4; omega
   refine aA ?_
   refine cD rfl rfl (by omega) (by omega) ?_
   refine bS rfl (aD ?_)
   refine bk (⟨b.1 + 1, by omega⟩) ?_ (by show Z.bins.length - (b.1 + 1) < Z.bins.length - b.1; omega)
   (refine dG.mk' ?_ ?_ <;> (repeat' (first | exact aI | exact aJ | exact cT | refine aB ?_ (Ty.aT _) | refine aB ?_ (Ty.aE _) | refine aF rfl (Cont.aE _) ?_ | refine aF rfl (Cont.cS ?_) ?_ | refine bM ?_ ?_ | refine aB ?_ ?_)))
   all_goals skip
   all_goals first | exact Ty.eU (congrArg Prod.fst (Jl (D := Z.D) (s := ([], (mX Z (bN u) i.1))))) | exact Ty.aa (congrArg (fun s : List ku × Sk => s.2.mixed) (Jl (D := Z.D) (s := ([], (mX Z (bN u) i.1))))) | exact Ty.aa (congrArg (fun s : List ku × Sk => s.2.taken) (Jl (D := Z.D) (s := ([], (mX Z (bN u) i.1))))) | exact Ty.eV (congrArg (fun s : List ku × Sk => s.2.grain) (Jl (D := Z.D) (s := ([], (mX Z (bN u) i.1)))))
  refine cj (aQ (aQ (av rfl (aC (aG ?_)))))
  obtain ⟨b, hb⟩ := b
  obtain rfl : b = Z.bins.length := by have h1 : ¬ (b : Int) < (Z.bins.length : Int) := hc8; have h2 : b ≤ Z.bins.length := hb; omega
  have hA := ug (y := Z) (mX Z (bN u) i.1) Z.bins.length
  have a1 := hA.taken
  have a2 := hA.nJ
  refine cr (B := live [(7, Ty.ptr 8 0), (15, Ty.int .i64 (cL Z)), (20, Ty.ptr 126 0), (126, Ty.int .i64 (i.1 : Nat)), (21, Ty.row ke 109 147 (tryAll Z.D ([], (mX Z (bN u) i.1)) Z.bins.length).1)] [(8, Cont.cells 27 (bZ Z)), (126, Cont.cells 149 (cW (tryAll Z.D ([], (mX Z (bN u) i.1)) Z.bins.length).2))]) ?_ ?_
  ·refine dG.mk' ?_ ?_
   ·(repeat (first | refine aB ?_ (Ty.aT _) | refine aB ?_ (Ty.aE _))); exact aI
   refine aF rfl (Cont.aE _) ?_; refine aF rfl (Cont.aE _) ?_; exact aJ
  refine k6 (tg := 147) [(21, Ty.sl ke (tryAll Z.D ([], (mX Z (bN u) i.1)) Z.bins.length).1)] (by decide) rfl ⟨AH rfl, trivial⟩ ?_
  refine cr (B := live [(7, Ty.ptr 8 0), (15, Ty.int .i64 (cL Z)), (20, Ty.ptr 126 0), (126, Ty.int .i64 (i.1 : Nat)), (21, Ty.sl ke (tryAll Z.D ([], (mX Z (bN u) i.1)) Z.bins.length).1)] [(8, Cont.cells 27 (bZ Z)), (126, Cont.cells 149 (cW (tryAll Z.D ([], (mX Z (bN u) i.1)) Z.bins.length).2))]) ?_ ?_
  ·refine dG.mk' ?_ ?_
   ·(repeat (first | refine aB ?_ (Ty.aT _) | refine aB ?_ (Ty.aE _))); exact aI
   refine aF rfl (Cont.aE _) ?_; refine aF rfl (Cont.aE _) ?_; exact aJ
  refine cZ mixed rfl ?_
  refine bh rfl rfl (by decide) rfl rfl (by exact Nat.le_of_ble_eq_true rfl) ?_
  refine gw rfl (mS rfl ?_)
  refine bu [(126, 1000)] [] [(126, Cont.cells 149 (cW (aP (tryAll Z.D ([], (mX Z (bN u) i.1)) Z.bins.length).2)))] (zM (tryAll Z.D ([], (mX Z (bN u) i.1)) Z.bins.length).2 ⟨by omega, by omega⟩ 2) rfl rfl (by repeat (first | exact bK | refine aH ?_ ?_ | exact dN List.mem_cons_self | exact aM rfl rfl)) (bq (a := 126) (b := 1000) (by exact List.mem_cons_self) rfl (ah (by exact List.mem_cons_self) rfl rfl rfl) pre_nil) (bG (a := 126) (b := 1000) (by exact List.mem_cons_self) rfl (ah (by exact List.mem_cons_self) rfl rfl rfl) post_nil) (aM rfl rfl) ?_
  refine dD rfl rfl (by exact List.cons_ne_nil _ _) rfl (by repeat (first | exact (aY.nil : aY _ _ [] _) | (show aY _ _ ((_, _) :: _) _; apply aY.one; (· first | exact (rfl : _ = Ty.sl _ _) | exact (rfl : _ = Ty.bool _)); (· exact rfl)))) (by exact (rfl : _ = some [_, _])) ?_
  refine bA (wW Z hzs ⟨(tryAll Z.D ([], (mX Z (bN u) i.1)) Z.bins.length).1, zF (tryAll Z.D ([], (mX Z (bN u) i.1)) Z.bins.length).2 2⟩ (by show (tryAll Z.D ([], (mX Z (bN u) i.1)) Z.bins.length).1.length ≤ 1000; omega)) rfl rfl rfl rfl rfl ?_
  refine qJ rfl (bO rfl rfl (bO rfl rfl (cJ rfl (cJ rfl (aD ?_)))))
  refine ⟨by kernel_rfl, ?_⟩
  refine aC (aG ?_)
  refine cr (B := live [(7, Ty.ptr 8 0), (15, Ty.int .i64 (cL Z)), (20, Ty.ptr 126 0), (126, Ty.int .i64 (i.1 : Nat)), (24, Ty.int .i64 (mQ Z ⟨(tryAll Z.D ([], (mX Z (bN u) i.1)) Z.bins.length).1, zF (tryAll Z.D ([], (mX Z (bN u) i.1)) Z.bins.length).2 2⟩)), (25, Ty.int .i64 (jj Z ⟨(tryAll Z.D ([], (mX Z (bN u) i.1)) Z.bins.length).1, zF (tryAll Z.D ([], (mX Z (bN u) i.1)) Z.bins.length).2 2⟩))] [(8, Cont.cells 27 (bZ Z)), (126, Cont.cells 149 (cW (aP (tryAll Z.D ([], (mX Z (bN u) i.1)) Z.bins.length).2)))]) ?_ ?_
  ·refine dG.mk' ?_ ?_
   ·(repeat (first | refine aB ?_ (Ty.aT _) | refine aB ?_ (Ty.aE _))); exact aI
   refine aF rfl (Cont.aE _) ?_; refine aF rfl (Cont.aE _) ?_; exact aJ
  refine aA (bS rfl (bJ rfl rfl rfl (gj rfl ?_)))
  apply aV (s := 160) rfl rfl rfl
  ·intro hg; apply aX; (refine bS rfl ?_); refine aD ?_; exact rfl
  ·exact rfl
  ·exact rfl
  apply aV (s := 160) rfl rfl rfl
  ·intro hg; apply aS (s := 161) rfl (by (rw [hg]; rfl)); apply aX; (refine bJ rfl rfl rfl ?_); refine aD ?_; exact rfl
  ·exact rfl
  ·exact rfl
  apply aV (s := 160) rfl rfl rfl
  ·intro hg; apply aS (s := 162) rfl (by (rw [hg]; rfl)); apply aX; (refine gj rfl ?_); refine aD ?_; exact rfl
  ·exact rfl
  ·exact rfl
  apply fN (s := 163) rfl rfl rfl
  ·intro hg1 hg2; apply aX; (refine bS rfl ?_); refine aD ?_; exact rfl
  ·exact rfl
  ·exact rfl
  apply fN (s := 163) rfl rfl rfl
  ·intro hg1 hg2; apply aS (s := 164) rfl (by (rw [hg1, hg2]; rfl)); apply aX; (refine bJ rfl rfl rfl ?_); refine aD ?_; exact rfl
  ·exact rfl
  ·exact rfl
  apply aV (s := 160) rfl rfl rfl
  ·intro hg; apply aS (s := 163) rfl (by (rw [hg]; rfl)); apply nk (s := 165) rfl (by (rw [hg]; rfl)); apply aX; (refine oK rfl rfl ?_); refine aD ?_; exact rfl
  ·exact rfl
  ·exact rfl
  refine ep rfl rfl (gj rfl ?_)
  apply aV (s := 168) rfl rfl rfl
  ·intro hg; apply aX; (refine bS rfl ?_); refine aD ?_; exact rfl
  ·exact rfl
  ·exact rfl
  apply aV (s := 168) rfl rfl rfl
  ·intro hg; apply aS (s := 169) rfl (by (rw [hg]; rfl)); apply aX; (refine bJ rfl rfl rfl ?_); refine aD ?_; exact rfl
  ·exact rfl
  ·exact rfl
  apply aV (s := 168) rfl rfl rfl
  ·intro hg; apply aS (s := 170) rfl (by (rw [hg]; rfl)); apply aX; (refine gj rfl ?_); refine aD ?_; exact rfl
  ·exact rfl
  ·exact rfl
  apply fN (s := 171) rfl rfl rfl
  ·intro hg1 hg2; apply aX; (refine bS rfl ?_); refine aD ?_; exact rfl
  ·exact rfl
  ·exact rfl
  apply fN (s := 171) rfl rfl rfl
  ·intro hg1 hg2; apply aS (s := 172) rfl (by (rw [hg1, hg2]; rfl)); apply aX; (refine bJ rfl rfl rfl ?_); refine aD ?_; exact rfl
  ·exact rfl
  ·exact rfl
  apply aV (s := 168) rfl rfl rfl
  ·intro hg; apply aS (s := 171) rfl (by (rw [hg]; rfl)); apply nk (s := 173) rfl (by (rw [hg]; rfl)); apply aX; (refine ep rfl rfl ?_); refine aD ?_; exact rfl
  ·exact rfl
  ·exact rfl
  refine oK rfl rfl (aD (aC (je rfl (Nr hzr (LJ hzr hA) hA.sort) (aq (bV (aC (aA ?_)))))))
  refine cD rfl rfl (by omega) (by omega) ?_
  refine bS rfl (aD ?_)
  refine bk (⟨i.1 + 1, by omega⟩) ?_ (by show 8 - (i.1 + 1) < 8 - i.1; omega)
  (refine dG.mk' ?_ ?_ <;> (repeat' (first | exact aI | exact aJ | exact cT | refine aB ?_ (Ty.aT _) | refine aB ?_ (Ty.aE _) | refine aF rfl (Cont.aE _) ?_ | refine aF rfl (Cont.cS ?_) ?_ | refine bM ?_ ?_)))
  all_goals skip
  all_goals first | exact Ty.aa (congrArg (fun s : Sk => s.mixed) (Kz (y := Z) (q := (bN u)))) | exact Ty.aa (congrArg (fun s : Sk => s.taken) (Kz (y := Z) (q := (bN u)))) | exact Ty.eV (congrArg (fun s : Sk => s.grain) (Kz (y := Z) (q := (bN u))))
 refine cj (aQ (aQ (av rfl (aC (aG (aA (bA (Jq) rfl rfl rfl rfl rfl (dg rfl (aD ?_)))))))))
 refine aC (bE (bz rfl rfl ?_))
 all_goals exact cQ rfl rfl
 all_goals trace_state
end Go.Proofs.YtelbollidfdcjaaGreat
namespace Go.T
open Go Go.RowKit Go.ChangeShapes Go.WideShapes Go.ChangeAt
def oN : bB := fun _ => none
theorem Jj (w : World) : Wf w oN := ⟨fun _ _ h => (by cases h), fun _ _ _ _ h => (by cases h)⟩
theorem E0 : ∀ b t, oN b = some t → t = 0 := fun _ _ h => by cases h
structure Rd {α : Type} (P : Program) (e : TypeId) (E : El α) : Prop where
  size : P.cellsOf e = E.size
  pos : 0 < E.size
  rd : ∀ {H : Type} {enc : TypeId × Value → H} {w : World} {base : Nat} {held : Bool} {n : Nat} {cs : List Value} {y : DataW H × List MemPlace}, DataW.trod enc P w base (fun _ => true) held n e cs = some y → ∃ x, cV w oN (E.tys x) cs
section
variable {H : Type} {enc : TypeId × Value → H} {P : Program} {w : World} {base : Nat} {held : Bool} {α : Type} {E : El α} {t e : TypeId} {n : Nat} {cs : List Value} {y : DataW H × List MemPlace}
theorem MV (hR : Rd P e E) (ht : P.underlying t = some (.slice e)) (h : DataW.trod enc P w base (fun _ => true) held n t cs = some y) : ∃ v xs, cs = [v] ∧ (Ty.sl E xs).den w oN v := by
 rcases Go.Deep.open_slice ht h with ⟨rfl, _⟩ | ⟨a, len, cap, m, k, D, Pl, rfl, _, hl, hm, hmm, _, hel⟩
 ·exact ⟨_, [], rfl, none, 0, rfl, Nat.le_refl _, Nat.zero_le _, fun h => absurd h (Nat.lt_irrefl _)⟩
 have hlm : len ≤ m := by rw [hmm]; simpa using hl
 have hX : ∀ i : Fin len, ∃ x : α, ∃ cs', w.cells? base (a.add (i.1 * P.cellsOf e)) (P.cellsOf e) = some cs' ∧ cV w oN (E.tys x) cs' := fun i => by
  obtain ⟨cs', h1, h2⟩ := hel i.1 (Nat.lt_of_lt_of_le i.2 hlm)
  obtain ⟨x, hx⟩ := hR.rd h2
  exact ⟨x, cs', h1, hx⟩
 let X : Fin len → α := fun i => (hX i).choose
 have hXs : ∀ i : Fin len, ∃ cs', w.cells? base (a.add (i.1 * P.cellsOf e)) (P.cellsOf e) = some cs' ∧ cV w oN (E.tys (X i)) cs' := fun i => (hX i).choose_spec
 have hlen : (List.ofFn X).length = len := by simp
 refine ⟨_, List.ofFn X, rfl, some a, cap, by rw [hlen], by rw [hlen]; exact hl, hm, fun h0 => ?_⟩
 rw [hlen] at h0
 have hcell : ∀ (i : Fin len) (j : Nat) (u : Ty), (E.tys (X i))[j]? = some u → ∃ v, w.cell? (a.add (i.1 * E.size + j)) = some v ∧ u.den w oN v := fun i j u hu => by
  obtain ⟨cs', h1, h2⟩ := hXs i
  obtain ⟨v, hv, hd⟩ := dc h2 j u hu
  obtain ⟨_, g1, g2⟩ := World.cells?_some h1
  have hj : j < P.cellsOf e := by
   rw [hR.size, ← E.len (X i)]
   exact (List.getElem?_eq_some_iff.1 hu).1
  refine ⟨v, ?_, hd⟩
  have := g2 j hj
  rw [Go.Deep.add_add, hv, hR.size] at this
  exact this
 have hsz := hR.pos
 have hfirst : ∃ v, w.cell? (a.add 0) = some v := by
  obtain ⟨u, hu⟩ : ∃ u, (E.tys (X ⟨0, h0⟩))[0]? = some u := ⟨_, List.getElem?_eq_getElem (by rw [E.len]; exact hsz)⟩
  obtain ⟨v, hv, _⟩ := hcell ⟨0, h0⟩ 0 u hu
  exact ⟨v, by simpa using hv⟩
 obtain ⟨b, off, sp⟩ := a
 obtain ⟨v0, hv0⟩ := hfirst
 have hsp : sp = none := by simpa [Addr.add] using World.cell?_spot hv0
 subst hsp
 have hb : b < w.heap.size := by
  obtain ⟨cs', h1, _⟩ := hXs ⟨0, h0⟩
  have := World.cells?_block h1 (by rw [hR.size]; exact hsz)
  simpa [Addr.add] using this
 refine ⟨b, off, rfl, rfl, hb, fun i u hu => ?_⟩
 have hi : i < len * E.size := by
  have := (List.getElem?_eq_some_iff.1 hu).1
  rw [dR, hlen] at this; exact this
 have hk : i / E.size < len := Nat.div_lt_of_lt_mul (by rw [Nat.mul_comm]; exact hi)
 have hj : i % E.size < E.size := Nat.mod_lt _ hsz
 have hij : i / E.size * E.size + i % E.size = i := by rw [Nat.mul_comm]; exact Nat.div_add_mod i E.size
 have hu2 := hu
 rw [← hij, rU E _ _ _ (by rw [hlen]; exact hk) hj, List.getElem?_ofFn, dif_pos hk] at hu2
 obtain ⟨v, hv, hd⟩ := hcell ⟨i / E.size, hk⟩ (i % E.size) u hu2
 refine ⟨v, ?_, hd⟩
 rw [← Go.WideShapes.add_plain]
 rw [hij] at hv
 exact hv
theorem Lr {c : Value} (hR : Rd P e E) (ht : P.underlying t = some (.slice e)) (h : DataW.trod enc P w base (fun _ => true) held n t [c] = some y) : ∃ xs, (Ty.sl E xs).den w oN c := by
 obtain ⟨v, xs, e, hd⟩ := MV hR ht h
 exact ⟨xs, by rw [show c = v by simpa using e]; exact hd⟩
end
section
variable {w w' : World} {S K : Nat → Prop} {M' : bB}
theorem rP (le : Le S K w oN w' M') {b : Nat} (hb : b < w.heap.size) : w'.heap[b]? = w.heap[b]? := (le.qG b hb rfl).2
theorem JX (le : Le S K w oN w' M') {p : MemPlace} (hp : p.block < w.heap.size) : w.sameAt w' p := by
  cases p with
  | cell b o => exact World.cell?_of_block (w := w) (rP le hp)
  | map b => exact rP le hp
theorem Ju (le : Le S K w oN w' M') (may : MemPlace → Prop) : w.keptBut w' may := by
 refine ⟨le.os, le.out, fun i hi => ?_⟩
 have e := rP le hi
 rw [e]
 split
 ·rename_i h1 h2
  rw [h1] at h2
  simp only [Option.some.injEq, Obj.cells.injEq] at h2
  obtain ⟨rfl, rfl, rfl⟩ := h2
  exact ⟨rfl, rfl, rfl, fun _ _ => rfl⟩
 ·rename_i h1 h2
  rw [h1] at h2
  simp only [Option.some.injEq, Obj.map.injEq] at h2
  exact Or.inr ⟨h2.1.symm, h2.2.symm⟩
 rfl
theorem EX (le : Le S K w oN w' M') {a : Addr} (ha : a.block < w.heap.size) : w'.frozen? a = w.frozen? a := by
 unfold World.frozen?
 rw [rP le ha]
end
section
variable {H : Type} {enc : TypeId × Value → H} {P : Program}
theorem qQ (hl : laidOutB P = true) {w w' : World} {sp : Nat → Bool} : ∀ {ts : List TypeId} {vs : List Value} {ds : List (DataW H)} {ps : List MemPlace}, (∀ t ∈ ts, P.readableRec t = true ∧ t < P.types.size) →
    DataW.TrodAll enc P w 0 (fun _ => true) true ts vs ds ps → (∀ p ∈ ps, w.sameAt w' p) → (∀ p ∈ ps, sp p.block = true) → DataW.TrodAll enc P w' 0 sp true ts vs ds ps
  | [], [], [], _, _, h, _, _ => h
  | t :: ts, v :: vs, d :: ds, _, ht, ⟨p, q, h1, h2, e⟩, hs, hsp => by
    subst e
    have h0 := ht t List.mem_cons_self
    exact ⟨p, q, Go.WideElems.Trod_stays hl h0.1 h0.2 h1 (fun x hx => hs x (List.mem_append_left _ hx)) (fun x hx => hsp x (List.mem_append_left _ hx)),
      qQ hl (fun t h => ht t (List.mem_cons_of_mem _ h)) h2 (fun x hx => hs x (List.mem_append_right _ hx)) (fun x hx => hsp x (List.mem_append_right _ hx)), rfl⟩
theorem EW {f : Func} {s : ChangeSpec} {apart fresh handsOn again : Bool} {W W' : World} {args : Array Value} {ds : List (DataW H)} {before : List MemPlace} {S K : Nat → Prop} {M' : bB}
 (hl : laidOutB P = true) (hv : s.vars = []) (hrd : ∀ t ∈ f.params.toList, P.readableRec t = true ∧ t < P.types.size) {tb : TypeId} (htb : P.underlying tb = some .bool) (hrt : f.resultTypes = #[tb])
 (hW : DataW.Whole enc P f.params.toList s.vars apart W args.toList ds [] before) (hres : (s.fn H (ds ++ [])).results = [.lit (.bool true)]) (hargs : (s.fn H (ds ++ [])).args = ds) (hvars : (s.fn H (ds ++ [])).vars = [])
 (le : Le S K W oN W' M') : s.post enc P f apart fresh handsOn again W args (.bool true) W' := by
 have hW0 := hW
 obtain ⟨p, q, hA, hV, hb, hfz, hn⟩ := hW0
 have hlt := DataW.TrodAll.lt hA
 have hq : q = [] := by rw [hv] at hV; exact (trodVars_none hV).2
 subst hq
 have hbp : before = p := by rw [hb]; simp
 have hre : ∀ (b : Nat) (sp : Nat → Bool) (hd : Bool), DataW.TrodAll enc P W' b sp hd f.resultTypes.toList ((Value.bool true).resultList f.resultTypes.size) (s.fn H (ds ++ [])).results [] := fun b sp hd => by
  rw [hrt, hres]; exact trodAll_mk1 (shut_bool htb true)
 have har : ∀ sp : Nat → Bool, (∀ x ∈ p, sp x.block = true) → DataW.TrodAll enc P W' 0 sp true f.params.toList args.toList (s.fn H (ds ++ [])).args p := fun sp hsp => by
  rw [hargs]; exact qQ hl hrd hA (fun x hx => JX le (hlt x hx)) hsp
 have hva : ∀ sp : Nat → Bool, DataW.TrodVars enc P W' sp s.vars (s.fn H (ds ++ [])).vars [] := fun sp => by
  rw [hvars, hv]; exact rfl
 have hok : ∀ (j : Nat) (t : TypeId) (r : Value), f.resultTypes[j]? = some t → ((Value.bool true).resultList f.resultTypes.size)[j]? = some r → Value.okWide P W' .any 0 t r := by
  exact ok_one (by rw [hrt]) rfl (okWide_bool_mk htb true)
 refine ⟨ds, [], before, [], p, [], hW, hre _ _ _, har _ (fun x hx => by simpa using hlt x hx), hva _, World.keptBut_mono (fun x hx => hx) (Ju le _), fun _ => ?_⟩
 refine ⟨hok, _, _, ([] ++ p) ++ [], ⟨[] ++ p, [], trodAll_append (har _ (fun _ _ => rfl)) (hre _ _ _), hva _, rfl, ?_, ?_⟩, ?_⟩
 ·intro b off hp
  have hp' : MemPlace.cell b off ∈ p := by simpa using hp
  rw [EX le (hlt _ hp')]
  exact hfz b off (by rw [hbp]; exact hp')
 ·intro ha
  have := hn ha
  rw [hbp] at this
  simpa using this
 intro x hx _
 rw [hbp]
 simpa using hx
end
end Go.T
namespace Go.Proofs.YtelbollidfdcjaaGreat
open Go Go.T Go.RowKit Go.ChangeShapes Go.WideShapes Go.ChangeAt
theorem NQ : Rd Tryz.prog 5 U8 := ⟨by kernel_rfl, by decide, fun h => by
 obtain ⟨i, rfl, _⟩ := DataW.trod_int Tryz.underlying5 h
 exact ⟨i, rfl, trivial⟩⟩
section
variable {H : Type} {enc : TypeId × Value → H} {W : World} {base : Nat} {held : Bool} {v : Value} {d : DataW H} {p : List MemPlace}
set_option maxRecDepth 100000 in
theorem vn (hv : Value.okWide Tryz.prog W .any base 22 v) (h : DataW.Trod enc Tryz.prog W 0 (fun _ => true) held 22 v d p) : ∃ l, (Ty.sl U8 l).den W oN v := by
 obtain ⟨a, len, cap, rfl⟩ := okWide_slice Tryz.underlying22 hv
 obtain ⟨n, hn⟩ := h
 exact Lr NQ Tryz.underlying22 (by simpa [Value.cells] using hn)
end
end Go.Proofs.YtelbollidfdcjaaGreat
namespace Go.Proofs.YtelbollidfdcjaaGreat
open Go Go.T Go.RowKit Go.ChangeShapes Go.WideShapes Go.ChangeAt
section
variable {H : Type} {enc : TypeId × Value → H} {W : World} {base : Nat} {held : Bool} {v : Value} {d : DataW H} {p : List MemPlace}
end
end Go.Proofs.YtelbollidfdcjaaGreat
