/- Lemmas: the program and the reference walked, plain laws. -/
import Derived.Test.YtpnndljmhpepgaaGreatQd
namespace Go.Proofs.YtpnndljmhpepgaaGreat
open Go Go.T
variable {b : aT} {p q : Pl} {g : Int} {l : List bX} {t : bX}
theorem FL {s : bX} (h : gq b p g (l ++ [s])) : gq b p g l := ⟨by have := h.len; rw [List.length_append] at this; simp at this; omega, fun s hs => h.ok s (List.mem_append.2 (.inl hs)), (List.pairwise_append.1 h.apart).1⟩
theorem Jr (h6 : b.aO.length ≤ 6) : ∀ (l : List bX), gq b p g l → ∀ t ∈ l, nth (bM p l).1 t.bN.toNat = t.aim := by
 refine ju (fun _ t ht => by cases ht) fun l s ih h t ht => ?_
 have hs := h.ok s (List.mem_append.2 (.inr (List.mem_singleton.2 rfl)))
 have htk := h.ok t ht
 rw [ia, sj (by have := htk.1; omega)]
 rcases List.mem_append.1 ht with hm | hm
 ·have hlt := ((List.pairwise_append.1 h.apart).2.2 t hm s (List.mem_singleton.2 rfl)).1
  rw [if_neg (by have := htk.1; have := hs.1; omega)]
  exact ih (FL h) t hm
 rw [List.mem_singleton.1 hm, if_pos rfl]
theorem Gp (h6 : b.aO.length ≤ 6) (h : gq b p g l) (k bN : Nat) : zM b (gA b p) (gA b (bM p l)) bN k = oS b p l k bN := by
  unfold zM oS
  rw [xh, xh]
  have hh : decide (nth b.sizes k < (nth b.aO bN).bh) = !b.hold k bN := by
    unfold aT.hold
    rw [Bool.eq_iff_iff, decide_eq_true_eq, Bool.not_eq_true', decide_eq_false_iff_not]
    show _ ↔ ¬ ((nth b.aO bN).bh ≤ nth b.sizes k)
    omega
  rw [hh]
  cases hp : gh b p k with
  | true => simp
  | false =>
    have e : gh b (bM p l) k = l.any fun t => decide (t.aim = (k : Int)) := by
      rw [Bool.eq_iff_iff, lA h6, List.any_eq_true]
      constructor
      · rintro ⟨i, hi, e⟩
        rcases Hf l h i aE with h1 | ⟨t, ht, h1⟩
        · have := (lA h6).2 ⟨i, hi, h1.symm.trans e⟩
          rw [hp] at this; cases this
        · exact ⟨t, ht, decide_eq_true (h1.symm.trans e)⟩
      · rintro ⟨t, ht, e⟩
        have h1 := (h.ok t ht).1
        exact ⟨t.bN.toNat, by omega, (Jr h6 l h t ht).trans (of_decide_eq_true e)⟩
    rw [e]
    simp [Bool.or_comm]
theorem wQ (h6 : b.aO.length ≤ 6) : ∀ (m bN : Nat) (l0 : List bX) (q : List Int), bN + m = b.aO.length → gq b p g l0 → (∀ t ∈ l0, t.bN < bN) →
    (q ∈ gz b (gA b p) m (gA b (bM p l0)) bN (g - (l0.length : Int)) ↔ ∃ l, l ∈ fQ b p g l0 bN ∧ q = gA b (bM p l))
  | 0, bN, l0, q, hm, h0, hl0 => by
    rw [jz Ov]
    show q ∈ [_] ↔ _
    rw [List.mem_singleton]
    constructor
    · intro e; exact ⟨l0, List.mem_singleton.2 rfl, e⟩
    · rintro ⟨l, hl, e⟩; rw [List.mem_singleton.1 hl] at e; exact e
  | m + 1, bN, l0, q, hm, h0, hl0 => by
    have ih := wQ h6 m (bN + 1) l0 q aE h0 (fun t ht => by have := hl0 t ht; omega)
    show q ∈ gz b (gA b p) m (gA b (bM p l0)) (bN + 1) (g - (l0.length : Int)) ++ _ ↔ _
    rw [List.mem_append, ih]
    have hlen := h0.len
    by_cases hg : (l0.length : Int) = g
    · rw [if_neg aE, jz Lz, jz Lz]
      constructor
      · rintro (h | h)
        · exact h
        · cases h
      · exact .inl
    · rw [if_pos aE, p7 (bN := bN) (l := l0) aE hg]
      have step : ∀ k, k < b.sizes.length → oS b p l0 k bN = false → (q ∈ gz b (gA b p) m ((gA b (bM p l0)).set bN k) (bN + 1) (g - (l0.length : Int) - 1) ↔ ∃ l, l ∈ fQ b p g (l0 ++ [⟨bN, k⟩]) (bN + 1) ∧ q = gA b (bM p l)) := fun k hk hs => by
        obtain ⟨⟨e1, e2⟩, e3⟩ := Bl.1 hs
        have hok : gq b p g (l0 ++ [⟨bN, k⟩]) := by
          refine ⟨by rw [List.length_append]; simp; omega, fun t ht => ?_, ?_⟩
          · rcases List.mem_append.1 ht with ht | ht
            · exact h0.ok t ht
            · rw [List.mem_singleton.1 ht]
              exact ⟨⟨by show 0 ≤ (bN : Int); omega, by show (bN : Int) < _; omega⟩, ⟨by show 0 ≤ (k : Int); omega, by show (k : Int) < _; omega⟩, e1, e2⟩
          · rw [List.pairwise_append]
            refine ⟨h0.apart, List.pairwise_singleton _ _, fun s hs t ht => ?_⟩
            rw [List.mem_singleton.1 ht]
            exact ⟨hl0 s hs, e3 s hs⟩
        have ih2 := wQ h6 m (bN + 1) (l0 ++ [⟨bN, k⟩]) q aE hok (fun t ht => by
          rcases List.mem_append.1 ht with ht | ht
          · have := hl0 t ht; omega
          · rw [List.mem_singleton.1 ht]; show (bN : Int) < _; omega)
        rw [ia, AN] at ih2
        rw [← ih2, List.length_append, List.length_singleton]
        rw [show g - ((l0.length + 1 : Nat) : Int) = g - (l0.length : Int) - 1 by omega]
        exact Iff.rfl
      constructor
      · rintro (⟨l, h1, h2⟩ | h)
        · exact ⟨l, List.mem_append_right _ h1, h2⟩
        · obtain ⟨k, hk, h⟩ := List.mem_flatMap.1 h
          have hk := List.mem_range.1 hk
          rw [Gp h6 h0] at h
          cases hs : oS b p l0 k bN with
          | true => rw [hs, if_pos rfl] at h; cases h
          | false =>
            rw [hs, if_neg aB] at h
            obtain ⟨l, h1, h2⟩ := (step k hk hs).1 h
            refine ⟨l, List.mem_append_left _ (List.mem_flatMap.2 ⟨k, List.mem_range.2 hk, ?_⟩), h2⟩
            rw [k8 hs]; exact h1
      · rintro ⟨l, h1, h2⟩
        rcases List.mem_append.1 h1 with h1 | h1
        · obtain ⟨k, hk, h1⟩ := List.mem_flatMap.1 h1
          have hk := List.mem_range.1 hk
          cases hs : oS b p l0 k bN with
          | true => rw [vn hs] at h1; cases h1
          | false =>
            rw [k8 hs] at h1
            refine .inr (List.mem_flatMap.2 ⟨k, List.mem_range.2 hk, ?_⟩)
            rw [Gp h6 h0, hs, if_neg aB]
            exact (step k hk hs).2 ⟨l, h1, h2⟩
        · exact .inl ⟨l, h1, h2⟩
def eR (b : aT) (g : Int) (x : List Int) : List (List Int) := gz b x b.aO.length x 0 g
theorem uI (h6 : b.aO.length ≤ 6) (hg : 0 ≤ g) {y : List Int} : y ∈ eR b g (gA b p) ↔ ∃ l, l ∈ dB b p g ∧ y = gA b (bM p l) := by
 have h := wQ (p := p) (g := g) h6 b.aO.length 0 [] y aE ⟨by simp; exact hg, (fun t h => by cases h), List.Pairwise.nil⟩ (fun t h => by cases h)
 rw [CI, List.length_nil, show g - ((0 : Nat) : Int) = g by omega] at h
 exact h
def n6 (b : aT) (g : Int) (n : Nat) (x : List Int) : Prop := ∃ rs p, qp b g (bJ b) rs = some p ∧ gA b p = x ∧ rs.length ≤ n
theorem n6.next (h6 : b.aO.length ≤ 6) (hg : 0 ≤ g) {n : Nat} {x y : List Int} (h : n6 b g n x) (hy : y ∈ eR b g x) : n6 b g (n + 1) y := by
 obtain ⟨rs, p, h1, h2, h3⟩ := h
 rw [← h2] at hy
 obtain ⟨l, hl, e⟩ := (uI h6 hg).1 hy
 exact ⟨rs ++ [l], bM p l, DX h1 hl, e.symm, by rw [List.length_append, List.length_singleton]; omega⟩
theorem n6.iJ (hr : b.cQ) (hg : 0 ≤ g) {n : Nat} {x : List Int} (h : n6 b g n x) : x.length = b.aO.length ∧ ∀ k ∈ x, 0 ≤ k ∧ k < 7 := by
 obtain ⟨rs, p, h1, h2, h3⟩ := h
 have h6 := hr.aO
 have hl := qT h6 p
 rw [← h2]
 refine ⟨hl, fun k hk => ?_⟩
 obtain ⟨i, hi, rfl⟩ := fP hk
 rw [hl] at hi
 have := C4 h6 _ (Dv hr) (vP h6 hg _ h1) i hi
 have h7 := hr.iJ.2
 unfold gA
 rw [rV hi]
 omega
structure Lv (b : aT) (g : Int) (all : List (List Int)) (fr n : Nat) : Prop where
  pos : 0 < all.length
  nodup : all.Nodup
  fle : fr ≤ all.length
  nle : n ≤ fr
  reach : ∀ x ∈ all, n6 b g n x
  old : ∀ rs p, rs.length < n → qp b g (bJ b) rs = some p → ∃ i, i < fr ∧ nth all i = gA b p
  cur : ∀ rs p, rs.length ≤ n → qp b g (bJ b) rs = some p → gA b p ∈ all
  closed : ∀ i, i < fr → ∀ y ∈ eR b g (nth all i), y ∈ all
  no : ∀ i, i < fr → gI b (nth all i) = false
theorem Rm (hr : b.cQ) (g : Int) : Lv b g [dL b] 0 0 :=
 ⟨Nat.zero_lt_one, by simp, Nat.zero_le _, Nat.le_refl _, fun x hx => ⟨[], bJ b, rfl, by rw [List.mem_singleton.1 hx]; exact wj hr.aO, Nat.le_refl _⟩, fun rs p h => by omega, fun rs p h e => by
  have : rs = [] := List.length_eq_zero_iff.1 aE
  subst this; injection e with e
  rw [← e, wj hr.aO]; exact List.mem_singleton.2 rfl, fun i h => by omega, fun i h => by omega⟩
theorem HP (hr : b.cQ) (hg : 0 ≤ g) {n : Nat} {all : List (List Int)} (hn : all.Nodup) (h : ∀ x ∈ all, n6 b g n x) : all.length ≤ 117649 := by
 have h6 := hr.aO
 have h1 := iE hn (L := Eh b.aO.length) fun x hx => vT ((h x hx).iJ hr hg).1 ((h x hx).iJ hr hg).2
 rw [vC] at h1
 exact Nat.le_trans h1 (Nat.le_trans (Nat.pow_le_pow_right aB h6) aB)
noncomputable def lG (b : aT) (g : Int) : Int := if ew b g = 0 then ((dV b g).length : Nat) else -1
section
variable {all : List (List Int)} {fr n : Nat} (h : Lv b g all fr n)
include h
theorem Lv.found (hr : b.cQ) (hg : 1 ≤ g ∧ g ≤ 3) {i : Nat} (hi : i < all.length) (hm : gI b (nth all i) = true) : (n : Int) = lG b g := by
 have hR := PL hr hg
 obtain ⟨rs, p, h1, h2, h3⟩ := h.reach _ (cD hi)
 rw [← h2, uf hr] at hm
 unfold lG
 rcases hR.err with e | e
 ·rw [if_pos e]
  obtain ⟨q, k1, k2, k3⟩ := hR.yes e
  have k4 := k3 rs p h1 hm
  by_cases c : (dV b g).length < n
  ·obtain ⟨j, j1, j2⟩ := h.old _ q c k1
   have := h.no j j1
   rw [j2, uf hr, k2] at this; cases this
  omega
 have := (hR.no e).2 rs p h1
 rw [hm] at this; cases this
theorem Lv.none (hr : b.cQ) (hg : 1 ≤ g ∧ g ≤ 3) (hf : all.length ≤ fr) : -1 = lG b g := by
 have hR := PL hr hg
 have h6 := hr.aO
 have hall : ∀ (rs : List (List bX)) (p : Pl), qp b g (bJ b) rs = some p → gA b p ∈ all := by
  refine ju (fun p hp => h.cur [] p (Nat.zero_le _) hp) fun rs l ih p hp => ?_
  obtain ⟨p', h1, h2, rfl⟩ := mQ hp
  obtain ⟨i, hi, e⟩ := fP (ih p' h1)
  refine h.closed i aE _ ?_
  rw [← e]
  exact (uI h6 aE).2 ⟨l, h2, rfl⟩
 unfold lG
 rcases hR.err with e | e
 ·exfalso
  obtain ⟨q, k1, k2, _⟩ := hR.yes e
  obtain ⟨i, hi, e2⟩ := fP (hall _ q k1)
  have := h.no i aE
  rw [← e2, uf hr, k2] at this; cases this
 rw [if_neg CL]
end
structure Ex (b : aT) (g : Int) (all0 all : List (List Int)) (fr n i k : Nat) : Prop where
  pre : ∃ r, all = all0 ++ r
  nodup : all.Nodup
  fi : fr ≤ i ∧ i ≤ all0.length
  reach : ∀ x ∈ all, n6 b g (n + 1) x
  done : ∀ j, fr ≤ j → j < i → ∀ y ∈ eR b g (nth all0 j), y ∈ all
  part : ∀ y ∈ (eR b g (nth all0 i)).take k, y ∈ all
section
variable {all0 all : List (List Int)} {fr n i k : Nat}
theorem n6.more {m : Nat} {x : List Int} (h : n6 b g n x) (hm : n ≤ m) : n6 b g m x := let ⟨rs, p, h1, h2, h3⟩ := h; ⟨rs, p, h1, h2, by omega⟩
theorem Rw (h : Lv b g all fr n) : Ex b g all all fr n fr 0 := ⟨⟨[], (List.append_nil _).symm⟩, h.nodup, ⟨Nat.le_refl _, h.fle⟩, fun x hx => (h.reach x hx).more aE, fun j h1 h2 => by omega, fun y hy => by rw [List.take_zero] at hy; cases hy⟩
theorem xw {r : List (List Int)} (e : all = all0 ++ r) {j : Nat} (hj : j < all0.length) : nth all j = nth all0 j := by
 rw [e]; unfold nth; rw [List.getD_eq_getElem?_getD, List.getD_eq_getElem?_getD, List.getElem?_append_left hj]
variable (h : Ex b g all0 all fr n i k)
include h
theorem Ex.at_ (hi : i < all0.length) : i < all.length ∧ nth all i = nth all0 i := by
 obtain ⟨r, e⟩ := h.pre
 exact ⟨by rw [e, List.length_append]; omega, xw e hi⟩
theorem Ex.old (hl : Lv b g all0 fr n) (hk : k < (eR b g (nth all0 i)).length) (hm : nth (eR b g (nth all0 i)) k ∈ all) : Ex b g all0 all fr n i (k + 1) := by
 refine ⟨h.pre, h.nodup, h.fi, h.reach, h.done, fun y hy => ?_⟩
 rw [cg hk] at hy
 rcases List.mem_append.1 hy with hy | hy
 ·exact h.part y hy
 rw [List.mem_singleton.1 hy]; exact hm
theorem Ex.new (hl : Lv b g all0 fr n) (h6 : b.aO.length ≤ 6) (hg : 0 ≤ g) (hi : i < all0.length) (hk : k < (eR b g (nth all0 i)).length) (hm : nth (eR b g (nth all0 i)) k ∉ all) : Ex b g all0 (all ++ [nth (eR b g (nth all0 i)) k]) fr n i (k + 1) := by
 obtain ⟨r, e⟩ := h.pre
 refine ⟨⟨r ++ [nth (eR b g (nth all0 i)) k], by rw [← List.append_assoc, ← e]⟩, ?_, h.fi, fun x hx => ?_, fun j h1 h2 y hy => List.mem_append_left _ (h.done j h1 h2 y hy), fun y hy => ?_⟩
 ·rw [List.nodup_append]
  exact ⟨h.nodup, by simp, fun x hx y hy e => hm (by rw [List.mem_singleton.1 hy] at e; rw [← e]; exact hx)⟩
 ·rcases List.mem_append.1 hx with hx | hx
  ·exact h.reach x hx
  rw [List.mem_singleton.1 hx]
  exact (hl.reach _ (cD hi)).next h6 hg (cD hk)
 rw [cg hk] at hy
 rcases List.mem_append.1 hy with hy | hy
 ·exact List.mem_append_left _ (h.part y hy)
 exact List.mem_append_right _ hy
theorem Ex.next (hi : i < all0.length) (hk : (eR b g (nth all0 i)).length ≤ k) : Ex b g all0 all fr n (i + 1) 0 := by
 refine ⟨h.pre, h.nodup, ⟨by have := h.fi; omega, hi⟩, h.reach, fun j h1 h2 y hy => ?_, fun y hy => by rw [List.take_zero] at hy; cases hy⟩
 by_cases e : j = i
 ·subst e; exact h.part y (by rw [List.take_of_length_le hk]; exact hy)
 exact h.done j h1 aE y hy
theorem Ex.end (hl : Lv b g all0 fr n) (h6 : b.aO.length ≤ 6) (hg : 0 ≤ g) (hi : all0.length ≤ i) (hf : fr < all0.length) (hno : ∀ j, fr ≤ j → j < all0.length → gI b (nth all0 j) = false) : Lv b g all all0.length (n + 1) := by
 obtain ⟨r, e⟩ := h.pre
 have hsub : ∀ x ∈ all0, x ∈ all := fun x hx => by rw [e]; exact List.mem_append_left _ hx
 have hcl : ∀ j, j < all0.length → ∀ y ∈ eR b g (nth all0 j), y ∈ all := fun j hj y hy => by
  by_cases c : j < fr
  ·exact hsub y (hl.closed j c y hy)
  exact h.done j aE aE y hy
 refine ⟨by rw [e, List.length_append]; have := hl.pos; omega, h.nodup, by rw [e, List.length_append]; omega, by have := hl.nle; omega, h.reach, fun rs p hlt hp => ?_, fun rs p hle hp => ?_, fun j hj y hy => hcl j hj y (by rw [← xw e hj]; exact hy), fun j hj => ?_⟩
 ·obtain ⟨j, hj, e2⟩ := fP (hl.cur rs p aE hp)
  exact ⟨j, hj, by rw [xw e hj, e2]⟩
 ·by_cases c : rs.length ≤ n
  ·exact hsub _ (hl.cur rs p c hp)
  have hne : rs ≠ [] := by rintro rfl; simp at c
  have hd := List.dropLast_concat_getLast hne
  rw [← hd] at hp hle
  obtain ⟨p', h1, h2, rfl⟩ := mQ hp
  rw [List.length_append, List.length_singleton] at hle
  obtain ⟨j, hj, e2⟩ := fP (hl.cur _ p' aE h1)
  refine hcl j hj _ ?_
  rw [← e2]
  exact (uI h6 hg).2 ⟨_, h2, rfl⟩
 rw [xw e hj]
 by_cases c : j < fr
 ·exact hl.no j c
 exact hno j aE hj
end
end Go.Proofs.YtpnndljmhpepgaaGreat
namespace Go.T
open Go Go.RowKit
section
variable {P : Program} {fr : Fr} {ops : Array Oper} {A : As} {rest : List Oper} {K : As → List (As × Fx) → Prop} {d : Nat} {t : TypeId} {p : String} {e : Array Edge} {y : Operand}
theorem Gm {c : Operand} {b : Bool} (hc : A.op fr c = .bool false) (hy : A.op fr y = .bool b)
 (h : ay P fr ops rest (A.set d (.bool b)) fun A' l' => K A' ((A, { d := some d, ty := .bool b, rs := cA c ++ cA y }) :: l')) : ay P fr ops (⟨some d, .pick c (.const (.bool true)) y, t, p, e, none⟩ :: rest) A K :=
 bR (bl rfl rfl fun a w M _ hrd _ => by
  obtain ⟨hdc, hdy⟩ := op2 hrd
  rw [hc] at hdc; rw [hy] at hdy
  have ec : a.eval c = .bool false := hdc
  have ey : a.eval y = .bool b := hdy
  exact ⟨.bool b, by simp only [execOp, ec, ey]; simp [asBool], rfl⟩) h
theorem H9 {c : Operand} (hc : A.op fr c = .bool true)
 (h : ay P fr ops rest (A.set d (.bool true)) fun A' l' => K A' ((A, { d := some d, ty := .bool true, rs := cA c ++ cA y }) :: l')) : ay P fr ops (⟨some d, .pick c (.const (.bool true)) y, t, p, e, none⟩ :: rest) A K :=
 bR (bl rfl rfl fun a w M _ hrd _ => by
  obtain ⟨hdc, _⟩ := op2 hrd
  rw [hc] at hdc
  have ec : a.eval c = .bool true := hdc
  exact ⟨.bool true, by simp only [execOp, ec]; simp [asBool, Act.eval], rfl⟩) h
theorem wJ {op : Op} {j s : Nat} {want : Bool} (hs : oV ops j = some s) (hn : Nat.blt s fr.n = true) (hc : A.slots s = .ex undef)
 (h : ay P fr ops rest (A.set d (.ex undef)) fun A' l' => K A' ((A, { d := some d, ty := .ex undef, rs := [s] }) :: l')) : ay P fr ops (⟨some d, op, t, p, e, some (j, want)⟩ :: rest) A K := by
 refine ⟨{ d := some d, ty := .ex undef, rs := [s] }, ⟨rfl, bB, bB, bB, fun a w M wf hsz hrd htg => ?_⟩, h⟩
 have hv := hrd s List.mem_cons_self Bo
 rw [hc] at hv
 have hy := s9 (ops := ops) hs B9 hv
 have hw : Region.wanted ⟨some d, op, t, p, e, some (j, want)⟩ (yielded ops a.tmps) = false := by
  simp only [Region.wanted, hy]
  cases want <;> simp_all
 rw [if_neg (by rw [hw]; simp)]
 exact ⟨M, wf, Le.refl _ _ _ _, rfl, by simp⟩
end
section
variable {P : Program} {fr : Fr} {A : As} {Q : Exit → Act → World → Prop} {code : Code}
theorem DE {α : Type} {E : El α} {T tg s n : Nat} {xs : List α} {c : Option Nat} (hs : Nat.blt s fr.n = true) (h1 : fR tg) (hx : A.slots s = .rc tg n c) (hc : A.tag tg = some (.FN E T xs c)) (hn : n = xs.length)
 (h : fS P fr code ⟨fun i => bif Nat.beq i s then .row E T tg xs else A.slots i, A.tags⟩ Q) : fS P fr code A Q := by
 subst hn; exact D2 hs h1 hx hc h
end
end Go.T
namespace Go.T
open Go Go.RowKit
section
variable {P : Program} {fr : Fr} {A : As} {Q : Exit → Act → World → Prop}
theorem BX (n : Nat) {α : Type} {S : α → Prop} {T : α → Ty} {hd : ∀ x, (T x).deps = [] ∧ (T x).cdeps = []} {s : Nat} {id : Nat} {l : List Oper} (hs : Nat.blt s fr.n = true)
    (h : ay P fr l.toArray (l.take n) A fun A1 _ => A1.slots s = Ty.Q1 S T hd ∧ ∀ x, S x → ay P fr l.toArray (l.drop n) (A1.set s (T x)) fun A' _ => dG fr A' (Q .normal)) :
    fS P fr (.region id l.toArray false) A Q := by
  intro a w ha
  have e : l.take n ++ l.drop n = l := List.take_append_drop n l
  have key : ∀ l1 l2 : List Oper, l1 ++ l2 = l → (ay P fr (l1 ++ l2).toArray l1 A fun A1 _ => A1.slots s = Ty.Q1 S T hd ∧ ∀ x, S x → ay P fr (l1 ++ l2).toArray l2 (A1.set s (T x)) fun A' _ => dG fr A' (Q .normal)) → (Code.region id (l1 ++ l2).toArray false).wpIn fr.kd.g9 0 P Q a w := by
    intro l1 l2 _ h
    refine wpIn_region_lit (rP l1 A _ a w h ha fun A1 sl a w ⟨hx, hk⟩ ⟨M, ok, hsl, ht⟩ => ?_)
    have hd := hsl s yO
    rw [hx] at hd
    obtain ⟨x, hS, hT⟩ := hd
    refine lM l2 _ _ _ _ (hk x hS) ⟨M, ok, fun i hi => ?_, ht⟩ fun _ _ _ _ hk hA => hk _ _ hA
    show ((A1.set s (T x)).slots i).den w M _
    simp only [As.set]
    cases hb : Nat.beq i s with
    | false => exact hsl i hi
    | true =>
      have : i = s := Nat.eq_of_beq_eq_true hb
      subst this
      exact hT
  have := key (l.take n) (l.drop n) e (by rw [e]; exact h)
  rwa [e] at this
end
end Go.T
namespace Go.T
open Go Go.RowKit
section
variable {P : Program} {fr : Fr} {ops : Array Oper} {A : As} {rest : List Oper} {K : As → List (As × Fx) → Prop} {d : Nat} {t ty' : TypeId} {p : String} {e : Array Edge} [T : lq P]
theorem L9 (L : List Nat) {α : Type} {E : El α} {zs ys : List α} {x y : Operand} {tg n el st st' Tb : Nat} {ti te : TI} (hx : A.op fr x = .vs tg n) {s : Ty} (hy : A.op fr y = s) (hl : zX A L s (.sl E ys)) (hEp : ∀ x, ∀ t ∈ E.tys x, t.Plain) (hc : A.tag tg = some (.vec E Tb zs)) (h1 : fR tg) (hT : T.dz[st]? = some ti) (hk : ti.k = .slice el) (hE : T.dz[el]? = some te) (hs : te.size = E.size) (hn : zs.length = n) (hle : ys.length ≤ n)
 (h : ay P fr ops rest (A.after { d := some d, ty := .int .i64 (ys.length : Nat), S := [tg], sets := [(tg, .vec E Tb (ys ++ zs.drop ys.length))], rs := cA x ++ cA y, rt := tg :: L }) fun A' l'' => K A' ((A, { d := some d, ty := .int .i64 (ys.length : Nat), S := [tg], sets := [(tg, .vec E Tb (ys ++ zs.drop ys.length))], rs := cA x ++ cA y, rt := tg :: L }) :: l'')) :
 ay P fr ops (⟨some d, .call ⟨.builtin .copy, #[x, y], #[st, st']⟩, t, p, e, none⟩ :: rest) A K := by
 refine ⟨_, fk rfl rfl bB lC bB fun a w M wf hr ht => ?_, h⟩
 obtain ⟨hdx, hdy⟩ := op2 hr
 rw [hx] at hdx; rw [hy] at hdy
 have hdy := hl w M _ wf (fun x hx hxL => ht x hx (List.mem_cons_of_mem _ hxL)) hdy
 have htg1 : ∀ x ∈ A.tags, x.1 ∈ [tg] → x.2.den w M x.1 := fun x hx h => ht x hx (by rw [List.mem_singleton.1 h]; exact List.mem_cons_self)
 obtain ⟨_, D, _, hD, hkd, _⟩ := cP hT
 rw [hk] at hkd
 cases D <;> simp only [TK.of, reduceCtorEq, TK.slice.injEq] at hkd
 subst hkd
 rename_i el
 have hsz := fun w => cq (P := P) hE w
 obtain ⟨ad, c, ey, hc1, hc2, hp⟩ := hdy
 have hmin : Nat.min ys.length n = ys.length := Nat.min_eq_left hle
 by_cases hys : ys = []
 ·subst hys
  have hl : ∀ (q : Addr), (loadCells q 0).run P w = .ok #[] w := fun q => by simpa using run_loadCells_list (P := P) w q [] bB
  have hrun : (Builtin.copy_ #[st, st'] t #[a.eval x, a.eval y]).run P w = .ok (goInt 0) w := by
   rw [ey]
   rcases hdx with ⟨_, ex⟩ | ⟨b, c', _, ex, _⟩ <;> rw [ex] <;> cases ad <;> simp [Builtin.copy_, run_underlying hD, Builtin.lenOf, Builtin.firstCells, hsz, storeCells, hl]
  refine ⟨goInt 0, w, by simp [execOp, resolve, invoke, builtin, hrun], M, wf, (Le.refl _ _ w M), rfl, ?_⟩
  intro z' hz'
  simp only [List.mem_singleton] at hz'
  subst hz'
  have hv : (Cont.vec E Tb zs).den w M tg := mU hc w M htg1
  simpa using hv
 have hpos : 0 < ys.length := List.length_pos_iff.2 hys
 obtain ⟨b', off, rfl, hp'⟩ := hp hpos
 obtain ⟨news, hn1, hn2, hn3⟩ := mW hp' _ (Nat.le_refl _)
 rw [List.take_length] at hn2
 have hn2 : cS w M (ys.flatMap E.tys) news := zY (fun t ht => by obtain ⟨x, _, hx⟩ := List.mem_flatMap.1 ht; exact hEp x t hx) hn2
 rw [cz] at hn1
 rcases hdx with ⟨h0, _⟩ | ⟨b, c', hb, ex, _⟩
 ·omega
 rcases mU hc w M htg1 with rfl | ⟨b2, cs, hb2, hh, hd⟩
 ·simp at hn; omega
 obtain ⟨u, rfl⟩ : ∃ u, tg = u + 1 := ⟨tg - 1, by omega⟩
 have := wf.inj b b2 u aE hb hb2
 subst this
 have hlen := cO hd
 have hm : ys.length * E.size ≤ zs.length * E.size := Nat.mul_le_mul_right _ aE
 have hoff : ys.length * E.size ≤ cs.size := by
  rw [cz, List.length_take] at hlen
  simp at hlen; omega
 have hst := run_storeCells_at (P := P) b 0 Tb news 0 cs w hh aE (nE hn2 (mw E ys))
 rw [j7 _ hh] at hst
 obtain ⟨h1', h2', h3'⟩ := iW (cs' := (cs.toList.take (0 + 0) ++ news ++ cs.toList.drop (0 + 0 + news.length)).toArray) (Tb := Tb) wf hb _ rfl
 have hld : (loadCells ⟨b', off, none⟩ (ys.length * E.size)).run P w = .ok news.toArray w := by
  rw [← hn1]
  exact run_loadCells_list (P := P) w _ news (fun j v hj => by rw [Addr.add_lit]; exact hn3 j v hj)
 have hrun : (Builtin.copy_ #[st, st'] t #[a.eval x, a.eval y]).run P w = .ok (goInt ys.length) { w with heap := w.heap.setIfInBounds b (.cells (cs.toList.take (0 + 0) ++ news ++ cs.toList.drop (0 + 0 + news.length)).toArray Tb (0, 0)) } := by
  rw [ex, ey]
  simp only [Builtin.copy_, run_underlying hD, Builtin.lenOf, Builtin.firstCells, hsz, hs, hmin, hld, Sem.run_bind, Sem.run_pure, Result.andThen_ok]
  simp [run_underlying hD, hsz, hs, hmin, hld]
  simp at hst
  rw [hst]
  simp
 refine ⟨goInt ys.length, _, by simp [execOp, resolve, invoke, builtin, hrun], M, h1', h2', rfl, ?_⟩
 intro z' hz'
 simp only [List.mem_singleton] at hz'
 subst hz'
 refine .inr ⟨b, _, hb, h3', ?_⟩
 have hq := Ca (xs := zs) (ys := ys) (vs := news) (i := 0) hd hn2 aE
 rw [List.take_zero, List.nil_append, Nat.zero_add, Nat.zero_mul] at hq
 exact b7 h2' j4 jm (by simpa using hq)
end
section
open Go.RowKit
variable {P : Program} {A : As} {fn : Func} {n : Nat} {w0 : World} {M0 : bI} {F : List Nat} {post : List (Nat × Cont)} [T : lq P]
theorem vF (L : List Nat) {tm ty tg Tb t2 t3 : Nat} {l : List Ty} {ti : TI} {r1 r2 r3 : Ty} (hr : fn.results = #[.cell tm ty, .tmp t2, .tmp t3]) (ht : Nat.blt tm n = true) (ht2 : Nat.blt t2 n = true) (ht3 : Nat.blt t3 n = true) (hx : A.slots tm = .ptr tg 0) (hc : A.tag tg = some (.cells Tb l)) (h1 : fR tg) (hT : T.dz[ty]? = some ti) (ha : ti.k.agg = true) (hl : l.length = ti.size)
 (hL : ∀ t ∈ F, t ∈ L) (hp : rM A L post) (hs : mO L (.agg l) r1) (hs2 : mO L (A.slots t2) r2) (hs3 : mO L (A.slots t3) r3) :
 dG ⟨n, w0, M0, F, .plain⟩ A (bodyPost P fn (cT F post w0 M0 (Ty.iF [r1, r2, r3])) .ret) := by
 intro a w ⟨M, ok, hsl, htg⟩
 have hd := hsl tm rz
 rw [hx] at hd
 obtain ⟨b, hb, e⟩ := hd
 obtain ⟨b', cs, hb', hh, hds⟩ := htg _ (cj hc)
 obtain ⟨u, rfl⟩ : ∃ u, tg = u + 1 := ⟨tg - 1, by omega⟩
 have := ok.wf.inj b b' u aE hb hb'
 subst this
 have hlen := cO hds
 have hload := iB (P := P) hT ha (w := w) (b := b) (off := 0) (cs := cs.toList) ve (fun j v hj => by simpa [World.cell?, hh] using hj)
 have hload' : (loadVar ty ⟨b, 0, none⟩).run P w = .ok (.agg cs) w := by simpa [Instr.loadAt, Instr.sureAddr] using hload
 refine ⟨ok.eH bB, .tuple #[.agg cs, a.tmps.getD t2 undef, a.tmps.getD t3 undef], ?_, _, pI L M, rfl, mI ok.wf, mY hL ok.base, ⟨_, rfl, hs _ _ _ ok.wf ⟨cs, rfl, hds⟩, hs2 _ _ _ ok.wf (hsl t2 (by simpa using ht2)), hs3 _ _ _ ok.wf (hsl t3 (by simpa using ht3)), trivial⟩, tj ok.wf htg hp⟩
 have e' : a.tmps.getD tm undef = .pointer (some ⟨b, 0, none⟩) := e
 have e'' : a.tmps[tm]?.getD undef = .pointer (some ⟨b, 0, none⟩) := by rw [← Array.getD_eq_getD_getElem?]; exact e'
 simp [results, hr, e'', asAddr, hload']
end
def E9 (tg tg' : Nat) (ρ : List (Nat × Nat)) : Bool := ρ.all fun x => (Nat.beq x.1 tg && Nat.beq x.2 tg') || (Nat.beq x.1 x.2 && !Nat.beq x.1 tg && !Nat.beq x.1 tg')
theorem QD {tg tg' : Nat} {ρ : List (Nat × Nat)} (h : E9 tg tg' ρ = true) (M : bI) : Re ρ M (HV M tg tg') := by
 refine ⟨fun b hm => by simp [HV, hm], fun x hx b hb => ?_⟩
 have := List.all_eq_true.1 h x hx
 simp only [Bool.or_eq_true, Bool.and_eq_true, Bool.not_eq_true', Nat.beq_eq_true_eq, Nat.beq_eq] at this
 rcases this with ⟨e1, e2⟩ | ⟨⟨e1, e2⟩, e3⟩
 ·rw [HV, hb, e1, if_pos rfl, e2]
 have n2 : x.1 ≠ tg := fun e => by rw [e] at e2; simp at e2
 have n3 : x.1 ≠ tg' := fun e => by rw [e] at e3; simp at e3
 rw [HV, hb, if_neg (by simpa using n2), if_neg (by simpa using n3), e1]
section
variable {P : Program} {fr : Fr} {A : As}
def Jn (A : As) (ρ : List (Nat × Nat)) : List (Nat × Ty) → Prop
  | [] => True
  | x :: l => Conv ρ (A.slots x.1) x.2 ∧ Jn A ρ l
def As.Rb (A : As) (tg tg' : Nat) (l : List (Nat × Ty)) (lc : List (Nat × Cont)) : As := ⟨nZ l (eT [] [tg, tg'] A.slots), lc ++ nF [] [tg, tg'] A.tags⟩
theorem JK {tg tg' : Nat} {ρ : List (Nat × Nat)} {l : List (Nat × Ty)} {lc : List (Nat × Cont)} (h1 : fR tg) (h1' : 1 ≤ tg') (hp : fr.pass.contains tg = false) (hp' : fr.pass.contains tg' = false) (hρ : E9 tg tg' ρ = true) (hl : Jn A ρ l) (hlc : vS A ρ lc) {a : Act} {w : World} (h : A.holds fr a w) : (A.Rb tg tg' l lc).holds fr a w := by
  obtain ⟨M, ok, hsl, ht⟩ := h
  have le : Le (· ∈ ([] : List Nat)) (· ∈ [tg, tg']) w M w (HV M tg tg') := Pa
  have wf' : Wf w (HV M tg tg') := QK h1 ok.wf
  have hre := QD hρ M
  refine ⟨HV M tg tg', ⟨wf', Fr.ij ok.base pE (fun t ht => by simp only [List.mem_cons, List.not_mem_nil, or_false] at ht; rcases ht with rfl | rfl; exact ⟨h1.1, by simpa using hp⟩; exact ⟨h1', by simpa using hp'⟩) le, ok.size, ok.defers.step pE (fun t ht => by simp only [List.mem_cons, List.not_mem_nil, or_false] at ht; rcases ht with rfl | rfl; exact h1.1; exact h1') le⟩, fun i hi => ?_, fun x hx => ?_⟩
  · have base : (eT [] [tg, tg'] A.slots i).den w (HV M tg tg') (a.tmps.getD i undef) := by
      rcases eo [] [tg, tg'] A.slots i with ⟨e, hdj⟩ | ⟨_, e⟩
      · rw [e]; exact (A.slots i).mono le (eF hdj).1 (eF hdj).2 (hsl i hi)
      · rw [e]; trivial
    show (nZ l (eT [] [tg, tg'] A.slots) i).den _ _ _
    induction l with
    | nil => exact base
    | cons x l ih =>
      obtain ⟨d, t⟩ := x
      unfold nZ
      cases hb : Nat.beq i d with
      | false => simp only [cond_false]; exact ih hl.2
      | true =>
        have : i = d := Nat.eq_of_beq_eq_true hb
        subst this
        simp only [cond_true]
        exact hl.1 w M _ _ ok.wf wf' hre (hsl i hi)
  · rcases List.mem_append.1 hx with hx | hx
    · exact vA ok.wf wf' hre (fun y hy _ => ht y hy) hlc x hx
    · exact gE le hx fun y hy _ => ht y hy
theorem Kl {R : Act → World → Prop} (tg tg' : Nat) (ρ : List (Nat × Nat)) (l : List (Nat × Ty)) (lc : List (Nat × Cont)) (h1 : fR tg) (h1' : 1 ≤ tg') (hp : fr.pass.contains tg = false) (hp' : fr.pass.contains tg' = false) (hρ : E9 tg tg' ρ = true) (hl : Jn A ρ l) (hlc : vS A ρ lc) (h : dG fr (A.Rb tg tg' l lc) R) : dG fr A R := fun a w ha => h a w (JK h1 h1' hp hp' hρ hl hlc ha)
end
end Go.T
namespace Go.T
open Go Go.RowKit
section
variable {P : Program} {fr : Fr} {A : As}
theorem PM {R : Act → World → Prop} {tg : Nat} (l : List (Nat × Ty)) (lt : List (Nat × Cont)) (h1 : 1 ≤ tg) (hp : fr.pass.contains tg = false) (hl : Bu A tg l) (hlt : OG A tg lt) (h : dG fr ⟨(A.o8 tg l).slots, lt ++ (A.o8 tg l).tags⟩ R) : dG fr A R := fun a w ⟨M, ok, hsl, ht⟩ => by
  have le : Le (· ∈ ([] : List Nat)) (· ∈ [tg]) w M w (fH M tg) := jc
  refine h a w ⟨fH M tg, ⟨wL ok.wf, Fr.ij ok.base pE (fun t ht => by simp only [List.mem_singleton] at ht; subst ht; exact ⟨h1, by simpa using hp⟩) le, ok.size, ok.defers.step pE (fun t ht => by simp only [List.mem_singleton] at ht; subst ht; exact h1) le⟩, fun i hi => ?_, fun x hx => ?_⟩
  · have base : (eT [] [tg] A.slots i).den w (fH M tg) (a.tmps.getD i undef) := by
      rcases eo [] [tg] A.slots i with ⟨e, hdj⟩ | ⟨_, e⟩
      · rw [e]; exact (A.slots i).mono le (eF hdj).1 (eF hdj).2 (hsl i hi)
      · rw [e]; trivial
    show (nZ l (eT [] [tg] A.slots) i).den _ _ _
    clear h
    induction l with
    | nil => exact base
    | cons x l ih =>
      obtain ⟨d, t⟩ := x
      unfold nZ
      cases hb : Nat.beq i d with
      | false => simp only [cond_false]; exact ih hl.2
      | true =>
        have : i = d := Nat.eq_of_beq_eq_true hb
        subst this
        simp only [cond_true]
        exact hl.1 w M _ ok.wf ht (hsl i hi)
  · rcases List.mem_append.1 (show x ∈ lt ++ (A.o8 tg l).tags from hx) with hx | hx
    · exact zk ok.wf ht hlt hx
    · exact gE le hx fun y hy _ => ht y hy
end
end Go.T
namespace Go.T
open Go Go.RowKit
theorem H6 {P : Program} {f : FuncId} {args : List Ty} {α : Type} {E : El α} {T tg : Nat} {xs : List α} (h1 : 1 ≤ tg) (h : fG P f [] [] args [] (.row E T tg xs)) : dO P f args (.sl E xs) := by
 refine ⟨h.1, fun w M vs wf hz hd => (h.2 w M vs wf hd (by intro x hx; cases hx)).mono fun e w' ⟨r, M', he, wf', le, hr, _⟩ => ?_⟩
 refine ⟨r, pI [] M', he, mI wf', ⟨le.size, le.os, le.tape, le.out, fun b hlt hm => ⟨sO (le.o8 b hlt hm).1, (le.o8 b hlt hm).2⟩, fun b t hm ht => ?_⟩, P3 h1 (by rfl) ν _ _ _ wf' hr⟩
 have h0 := hz b t hm
 subst h0
 obtain ⟨a1, a2⟩ := le.own b 0 hm (fun hk => ht hk.1)
 exact ⟨B3 a1 (.inl rfl), a2⟩
end Go.T
namespace Go.Proofs.YtpnndljmhpepgaaGreat
open Go Go.T
set_option maxRecDepth 100000
set_option maxHeartbeats 2000000
section
variable {b : aT} {p : Pl} {g : Int} {l : List bX} {k : Nat}
theorem AY (b : aT) (t : bX) : (fZ t.bN 0 (b.aO.length - 1) || fZ t.aim 0 (b.sizes.length - 1)) = !(b.bN t.bN && b.bin t.aim) := by
 unfold aT.bN aT.bin; rw [Bool.not_and, oX, oX]
theorem Po (h : ∀ t ∈ l.take k, (fZ t.bN 0 (b.aO.length - 1) || fZ t.aim 0 (b.sizes.length - 1)) = false) (hk : l.length ≤ k) : (!l.all fun t => b.bN t.bN && b.bin t.aim) = false := by
 rw [Bool.not_eq_false', List.all_eq_true]
 intro t ht
 have := h t (by rw [List.take_of_length_le hk]; exact ht)
 rw [AY, Bool.not_eq_false'] at this; exact this
theorem L3 (hk : k < l.length) (h : (fZ (nth l k).bN 0 (b.aO.length - 1) || fZ (nth l k).aim 0 (b.sizes.length - 1)) = true) : (!l.all fun t => b.bN t.bN && b.bin t.aim) = true := by
 rw [Bool.not_eq_true', List.all_eq_false]
 refine ⟨nth l k, cD hk, ?_⟩
 rw [AY, Bool.not_eq_true'] at h
 rw [h]; decide
theorem KC {j : Nat} (hk : k < l.length) (hj : ∀ i, i < j → decide ((nth l k).aim = (nth l i).aim) = false) (hjk : k ≤ j) (h8 : ¬ (nth l k).aim ∈ gA b p) : E2 b p l k = false := by
 unfold E2
 rw [Bool.or_eq_false_iff, ← xh, decide_eq_false_iff_not, List.any_eq_false]
 refine ⟨h8, fun u hu => ?_⟩
 obtain ⟨i, hi, rfl⟩ := fP hu
 rw [List.length_take] at hi
 have h1 := hj i aE
 have e : nth (l.take k) i = nth l i := by unfold nth; rw [List.getD_eq_getElem?_getD, List.getD_eq_getElem?_getD, List.getElem?_take_of_lt aE]
 rw [e, decide_eq_true_eq]
 rw [decide_eq_false_iff_not] at h1
 exact fun e => h1 e.symm
theorem HX {j : Nat} (hk : k < l.length) (hj : j < k) (h : (nth l k).aim = (nth l j).aim) : E2 b p l k = true := by
 unfold E2
 rw [Bool.or_eq_true, List.any_eq_true]
 refine .inr ⟨nth l j, ?_, decide_eq_true h.symm⟩
 have e : nth (l.take k) j = nth l j := by unfold nth; rw [List.getD_eq_getElem?_getD, List.getD_eq_getElem?_getD, List.getElem?_take_of_lt hj]
 rw [← e]
 exact cD zu
theorem Hw (h : (nth l k).aim ∈ gA b p) : E2 b p l k = true := by
 unfold E2; rw [← xh, decide_eq_true h]; rfl
theorem Hh (b : aT) (t : bX) : decide (nth b.sizes t.aim.toNat < (nth b.aO t.bN.toNat).bh) = !b.hold t.aim t.bN := by
 unfold aT.hold
 rw [Bool.eq_iff_iff, decide_eq_true_eq, Bool.not_eq_true', decide_eq_false_iff_not]
 omega
theorem My (h : ∀ t ∈ l.take k, decide (nth b.sizes t.aim.toNat < (nth b.aO t.bN.toNat).bh) = false) (hk : l.length ≤ k) : (!l.all fun t => b.hold t.aim t.bN) = false := by
 rw [Bool.not_eq_false', List.all_eq_true]
 intro t ht
 have := h t (by rw [List.take_of_length_le hk]; exact ht)
 rw [Hh, Bool.not_eq_false'] at this; exact this
theorem Gc (hk : k < l.length) (h : nth b.sizes (nth l k).aim.toNat < (nth b.aO (nth l k).bN.toNat).bh) : (!l.all fun t => b.hold t.aim t.bN) = true := by
 rw [Bool.not_eq_true', List.all_eq_false]
 refine ⟨nth l k, cD hk, ?_⟩
 have := Hh b (nth l k)
 rw [decide_eq_true h] at this
 rw [Bool.not_eq_true, ← Bool.not_eq_true']; exact this.symm
theorem Ph (hk : k < l.length) : (gA b (qx p l k)).set (nth l k).bN.toNat (nth l k).aim = gA b (qx p l (k + 1)) := by rw [← AN, AK hk]
end
theorem Kt {tg n m : Nat} (h : n = m) : (Ty.vs tg n).Sub (Ty.vs tg m) := h ▸ Ty.aM _
theorem sM {k s : Nat} {left : Int} (h : (decide ((k : Int) < (s : Int)) && decide (left > 0)) = true) : k < s ∧ 0 < left := by
 simp only [Bool.and_eq_true, decide_eq_true_eq] at h; omega
theorem Mn {k s : Nat} {left : Int} (h : (decide ((k : Int) < (s : Int)) && decide (left > 0)) = false) : ¬ ((k : Int) < (s : Int) ∧ 0 < left) := fun ⟨h1, h2⟩ => by
 rw [decide_eq_true h1, decide_eq_true (show left > 0 from h2)] at h; cases h
theorem Bc {α : Type} {E : El α} {T a c : Nat} {xs ys : List α} {ρ : List (Nat × Nat)} (h : (a, c) ∈ ρ) (e : xs = ys) : Conv ρ (Ty.row E T a xs) (Ty.row E T c ys) := e ▸ fD h
theorem QI {b : aT} {all : List (List Int)} {fr i : Nat} (h : ∀ j, fr ≤ j → j < i → gI b (nth all j) = false) (hi : gI b (nth all i) = false) : ∀ j, fr ≤ j → j < i + 1 → gI b (nth all j) = false := fun j h1 h2 => by
 by_cases e : j = i
 ·subst e; exact hi
 exact h j h1 aE
theorem J3 {l : List (List Int)} {p : List Int} (h : ¬ gP l p < 0) : p ∈ l := by
 obtain ⟨h1, h2⟩ := Dt h
 rw [← h2]; exact cD h1.2
theorem Fq {b : aT} {pp now : List Int} {bN : Nat} {left : Int} : [now] = gz b pp 0 now bN left := rfl
theorem FP {b : aT} {g : Int} {x : List Int} : Ty.sl cY (gz b x b.aO.length x 0 g) = Ty.sl cY (eR b g x) := rfl
theorem GB {b : aT} (h7 : b.sizes.length ≤ 7) (g : Int) (x : List Int) : (eR b g x).length ≤ 8 ^ b.aO.length := nA h7 b.aO.length x 0 g
attribute [local irreducible] eR gz iN lG gP gA xZ gy aT.hold aT.bN aT.bin j3 gI
attribute [local irreducible] iL fu pJ r9 jY jQ jL jI jT rF jJ q5 dy g6 q2 g7 r8 nth fS dG ay dO bodyPost Exit.then Exit.inBlock Code.wp Code.wpIn fy rS rB rq rL jU r5 fG iT qd cT cX bodyPostM eE
theorem GS (l : List (List bX)) (hn : l.length ≤ 400000000) (h : ∀ x ∈ l, x.length ≤ 400000000) : dO Tryz.prog 13 [Ty.sl eG l] (Ty.sl eG l) := by
 refine az Tryz.func13 ν aB Tryz.ntmps13 aP fun w0 M0 => ?_
 refine aF (aA (fm ν (aD (aC (aF (aA (fm ν (aD (aC (aF (aF (aA (cM ν (bU ν ν ν (bA ν (aD (aC (aV ?_))))))))))))))))))
 refine bf (fun (k : {k : Nat // k ≤ l.length}) => live [(3, Ty.row eG 85 17 (l.take k.1)), (6, Ty.sl eG l), (7, Ty.int .i64 l.length), (8, Ty.int .i64 (k.1 : Nat))] []) (fun k => l.length - k.1) (⟨0, by omega⟩) ?_ fun k => ?_
 ·exact Ob
 have hk := k.2
 refine aF (aA (ah ν ν ν (aD (aC (aF ?_)))))
 refine aU ν (fun hc1 => ?_) (fun hc1 => ?_)
 ·refine aX (aC (aF (aV (aF (aA (af ν ν ν ν ν ν aE (aJ ν ν ν ν (iX ν (aD (aC (aA (iy ν (cM ν (aa (u6 (nth l k.1) (h _ (cD aE))) ν ν ν ν ν ?_))))))))))))))
  refine bD (E := eG) (xs := [nth l k.1]) ν ν ν ν ν aB aB oD bn ν ?_
  refine cG ν ν aB ν ν ν ν ν ν aB bp bp (iY ν (aD (bE (aC (aA (bY ν ν aE aE (bA ν (aD ?_))))))))
  refine bG (⟨k.1 + 1, by omega⟩) ?_ pV
  (refine dw.mk' ?_ ?_ <;> (repeat' (first | exact aQ | exact aR | refine aG ?_ (Ty.bC _) | refine aG ?_ (Ty.aM _) | refine aG ?_ ?_)))
  all_goals exact Ty.cv (cg aE).symm
 refine bQ (aI (aI (aS ν (aC (aF (aA (iy ν (iY ν (aD (aC (au (bg ν ν ?_))))))))))))
 all_goals exact gB aB (List.take_of_length_le wR)
theorem Ln (b : aT) (hs : b.Small) (h6 : b.aO.length ≤ 6) (p : Pl) (g : Int) (l : List bX) (hl : l.length ≤ 400000000) : dO Tryz.prog 42 [cU b, Ty.sl cL (gA b p), Ty.int .i64 g, Ty.sl bq l] (Ty.iF [Ty.sl cL (xZ b p g l), Ty.int .i64 (gy b p g l)]) := by
 refine az Tryz.func42 ν aB Tryz.ntmps42 aP fun w0 M0 => ?_
 have hs1 := hs.sizes
 have hcl := qT h6 p
 refine aF (aA (bF ν (fm ν (bS ν (aD (aC (aF (aF (aA (bS ν (aD (aC (aV ?_)))))))))))))
 refine bf (fun (k : {k : Nat // ∀ t ∈ l.take k, (fZ t.bN 0 (b.aO.length - 1) || fZ t.aim 0 (b.sizes.length - 1)) = false}) => live [(1, Ty.sl cL (gA b p)), (2, Ty.int .i64 g), (3, Ty.sl bq l), (4, Ty.pp (bL b)), (10, Ty.int .i64 (k.1 : Nat))] []) (fun k => l.length - k.1) (⟨0, by simp⟩) ?_ fun k => ?_
 ·exact bt
 refine aF (aF (aA (bA ν (cM ν (bU ν ν ν (ah ν ν ν (aD (aC ?_))))))))
 refine aU ν (fun hc1 => ?_) (fun hc1 => ?_)
 ·refine aX (aC (aF (aV (aF (cH mixed ν (cM ν (bA ν (af ν ν ν ν ν ν aE (aN ν ν ν ν ν aB (aJ ν ν ν ν (aN ν ν ν ν ν aB (aJ ν ν ν ν (bU ν ν ν (ga ν ν aE aE (aa (sv _ _ _) ν ν ν ν ν (dm ν ?_))))))))))))))))
  refine bT 32 ν (fun hg => aH (cM ν (aD ν))) ?_
  refine bT 32 ν (fun hg => aH (bA ν (aD ν))) ?_
  refine bT 32 ν (fun hg => cJ 33 hg ν (cJ 34 hg ν (aH (af ν ν ν ν ν ν aE (aD ν))))) ?_
  refine bT 32 ν (fun hg => cJ 35 hg ν (aH (aN ν ν ν ν ν aB (aD ν)))) ?_
  refine bT 32 ν (fun hg => cJ 36 hg ν (aH (aJ ν ν ν ν (aD ν)))) ?_
  refine bT 32 ν (fun hg => aH (aN ν ν ν ν ν aB (aD ν))) ?_
  refine bT 32 ν (fun hg => cJ 38 hg ν (aH (aJ ν ν ν ν (aD ν)))) ?_
  refine bT 32 ν (fun hg => cJ 39 hg ν (aH (bU ν ν ν (aD ν)))) ?_
  refine bT 32 ν (fun hg => cJ 40 hg ν (aH (ga ν ν aE aE (aD ν)))) ?_
  refine bT 32 ν (fun hg => cJ 37 hg ν (cJ 41 hg ν (aH (aa (sv _ _ _) ν ν ν ν ν (aD ν))))) ?_
  refine eJ ν ν (aD ?_)
  refine ⟨by kernel_rfl, ?_⟩
  refine aC ?_
  refine cI ν (fun hc2 => ?_) (fun hc2 => ?_)
  ·refine aF (aA (fm ν (bS ν (aD (aC (au (aZ (aK (aK (aZ (aK ?_)))))))))))
   refine dc ν ν ν ?_ ?_
   all_goals first | exact cy (mm (by rw [RB (L3 aE hc2)]; decide)) | exact av rfl rfl (congrArg (Ty.int .i64) (RB (L3 aE hc2)).symm)
  refine aX (bE (aC (aA (bA ν (bY ν ν aE aE (bS ν (aD ?_)))))))
  refine bG (⟨k.1 + 1, gJ k.2 aE hc2⟩) ?_ pV
  exact bt
 refine bQ (aI (aI (aS ν (aC (aF (aF ?_))))))
 have hall : (!l.all fun t => b.bN t.bN && b.bin t.aim) = false := Po k.2 aE
 have har := HK hall
 refine aA (bS ν (aD (aC (aV ?_))))
 refine bf (fun (i : {i : Nat // MY l i}) => live [(1, Ty.sl cL (gA b p)), (2, Ty.int .i64 g), (3, Ty.sl bq l), (4, Ty.pp (bL b)), (11, Ty.int .i64 (i.1 : Nat))] []) (fun i => l.length - i.1) (⟨1, Qi l⟩) ?_ fun i => ?_
 ·exact bt
 have hi1 := i.2.pos
 refine aF (aF (aA (bA ν (cM ν (bU ν ν ν (ah ν ν ν (aD (aC ?_))))))))
 refine aU ν (fun hc3 => ?_) (fun hc3 => ?_)
 ·refine aX (aC (aF (aV (aF (cH mixed ν (cM ν (bA ν (af ν ν ν ν ν ν aE (aN ν ν ν ν ν aB (aJ ν ν ν ν (cM ν (bA ν (ga ν ν aE aE (dR ν ν ν ν ν ν aE aE (aN ν ν ν ν ν aB (aJ ν ν ν ν (ah ν ν ν (aD ?_))))))))))))))))))
  refine ⟨by kernel_rfl, ?_⟩
  refine aC ?_
  refine aU ν (fun hc4 => ?_) (fun hc4 => ?_)
  ·refine aF (aA (fm ν (bS ν (aD (aC (au (aZ (aK (aK (aZ (aK ?_)))))))))))
   refine dc ν ν ν ?_ ?_
   all_goals first | exact cy (mm (by rw [RD hall (i.2.yes aE hc4)]; decide)) | exact av rfl rfl (congrArg (Ty.int .i64) (RD hall (i.2.yes aE hc4)).symm)
  refine aX (bE (aC (aA (bA ν (bY ν ν aE aE (bS ν (aD ?_)))))))
  refine bG (⟨i.1 + 1, i.2.next hc4⟩) ?_ OS
  exact bt
 refine bQ (aI (aI (aS ν (aC (aF ?_)))))
 have hor := i.2.end aE
 refine aA ?_
 refine jM (E := cL) ν ν ν ν ?_
 refine cM ν (cG ν ν aB ν ν ν ν ν ν aB bp bp (iY ν (aD (aC (aF (aF ?_))))))
 refine zq (s := 12) ν ν ?_
 refine fK (s := 12) rfl (Kt (show ([] ++ gA b p).length = b.aO.length by rw [List.nil_append]; exact hcl)) ?_
 refine kr (tg := 63) rfl (Cont.jB (show [] ++ gA b p = gA b (qx p l 0) by rw [List.nil_append, JX])) ?_
 refine aA (bS ν (aD (aC (aV ?_))))
 refine bf (fun (k3 : {k : Nat // ∀ i, i < k → E2 b p l i = false}) => live [(1, Ty.sl cL (gA b p)), (2, Ty.int .i64 g), (3, Ty.sl bq l), (4, Ty.pp (bL b)), (12, Ty.vs 63 b.aO.length), (13, Ty.int .i64 (k3.1 : Nat))] [(63, Cont.vec cL 3 (gA b (qx p l k3.1)))]) (fun k3 => l.length - k3.1) (⟨0, fun i hi => absurd hi (Nat.not_lt_zero i)⟩) ?_ fun k3 => ?_
 ·exact dK
 have hcu := qT h6 (qx p l k3.1)
 refine aF (aF (aA (bA ν (cM ν (bU ν ν ν (ah ν ν ν (aD (aC ?_))))))))
 refine aU ν (fun hc5 => ?_) (fun hc5 => ?_)
 ·refine aX (aC (aF (aV (aF (aF (aA (bS ν (aD (aC (aV ?_))))))))))
  refine bf (fun (j : {j : Nat // ∀ i, i < j → decide ((nth l k3.1).aim = (nth l i).aim) = false}) => live [(1, Ty.sl cL (gA b p)), (2, Ty.int .i64 g), (3, Ty.sl bq l), (4, Ty.pp (bL b)), (12, Ty.vs 63 b.aO.length), (13, Ty.int .i64 (k3.1 : Nat)), (14, Ty.int .i64 (j.1 : Nat))] [(63, Cont.vec cL 3 (gA b (qx p l k3.1)))]) (fun j => k3.1 - j.1) (⟨0, fun i hi => absurd hi (Nat.not_lt_zero i)⟩) ?_ fun j => ?_
  ·exact dK
  refine aF (aF (aA (bA ν (bA ν (ah ν ν ν (aD (aC ?_)))))))
  refine aU ν (fun hc6 => ?_) (fun hc6 => ?_)
  ·refine aX (aC (aF (aV (aF (cH mixed ν (cM ν (bA ν (af ν ν ν ν ν ν aE (aN ν ν ν ν ν aB (aJ ν ν ν ν (cM ν (bA ν (af ν ν ν ν ν ν aE (aN ν ν ν ν ν aB (aJ ν ν ν ν (ah ν ν ν (aD ?_)))))))))))))))))
   refine ⟨by kernel_rfl, ?_⟩
   refine aC ?_
   refine aU ν (fun hc7 => ?_) (fun hc7 => ?_)
   ·refine aF (aA (fm ν (bS ν (aD (aC (au (aZ (aK (aK (aZ (aK (aZ (aK (aK (aZ (aK ?_))))))))))))))))
    refine dc ν ν ν ?_ ?_
    all_goals first | exact cy (mm (by rw [Qb hall hor (yd aE (HX aE aE hc7))]; decide)) | exact av rfl rfl (congrArg (Ty.int .i64) (Qb hall hor (yd aE (HX aE aE hc7))).symm)
   refine aX (bE (aC (aA (bA ν (bY ν ν aE aE (bS ν (aD ?_)))))))
   refine bG (⟨j.1 + 1, kS j.2 (decide_eq_false hc7)⟩) ?_ (by show k3.1 - (j.1 + 1) < k3.1 - j.1; omega)
   exact dK
  refine bQ (aI (aI (aS ν (aC (aF (aF (aA (cM ν (cM ν (bA ν (af ν ν ν ν ν ν aE (aN ν ν ν ν ν aB (aJ ν ν ν ν (aa (EN (gA b p) (nth l k3.1).aim) ν ν ν ν ν (aD (aC ?_))))))))))))))))
  refine aU ν (fun hc8 => ?_) (fun hc8 => ?_)
  ·refine aF (aA (fm ν (bS ν (aD (aC (au (aK (aZ (aK (aK (aZ (aK ?_))))))))))))
   refine dc ν ν ν ?_ ?_
   all_goals first | exact cy (mm (by rw [Qb hall hor (yd aE (Hw hc8))]; decide)) | exact av rfl rfl (congrArg (Ty.int .i64) (Qb hall hor (yd aE (Hw hc8))).symm)
  refine aX (aC ?_)
  have hkr := har _ (cD (xs := l) (k := k3.1) aE)
  refine cH mixed ν (vZ ν (cM ν (bA ν (af ν ν ν ν ν ν aE (aN ν ν ν ν ν aB (aJ ν ν ν ν (cM ν (bA ν (af ν ν ν ν ν ν aE (aN ν ν ν ν ν aB (aJ ν ν ν ν (eZ ν ν ν ν ν hkr.1.1 aE ?_))))))))))))
  refine iV (E := cL) (z := (nth l k3.1).aim) ν ν ν aB ν ν gR ν aE aB ν ν ?_
  refine aD ?_
  refine ⟨by kernel_rfl, ?_⟩
  refine bE (aC (aA (bA ν (bY ν ν aE aE (bS ν (aD ?_))))))
  refine bG (⟨k3.1 + 1, kS k3.2 (KC aE j.2 aE hc8)⟩) ?_ (by show l.length - (k3.1 + 1) < l.length - k3.1; omega)
  (refine dw.mk' ?_ ?_ <;> (repeat' (first | exact aQ | exact aR | refine aG ?_ (Ty.bC _) | refine aG ?_ (Ty.aM _) | refine aL rfl ?_ ?_)))
  all_goals exact Cont.jB (Ph aE)
 refine bQ (aI (aI (aS ν (aC (aF (aF ?_))))))
 have htw := O0 k3.2 (show l.length ≤ k3.1 by omega)
 have hcu := qT h6 (qx p l k3.1)
 refine aA (bS ν (aD (aC (aV ?_))))
 refine bf (fun (k5 : {k : Nat // ∀ t ∈ l.take k, decide (nth b.sizes t.aim.toNat < (nth b.aO t.bN.toNat).bh) = false}) => live [(1, Ty.sl cL (gA b p)), (2, Ty.int .i64 g), (3, Ty.sl bq l), (4, Ty.pp (bL b)), (12, Ty.vs 63 b.aO.length), (15, Ty.int .i64 (k5.1 : Nat))] [(63, Cont.vec cL 3 (gA b (qx p l k3.1)))]) (fun k5 => l.length - k5.1) (⟨0, by simp⟩) ?_ fun k5 => ?_
 ·exact dK
 refine aF (aF (aA (bA ν (cM ν (bU ν ν ν (ah ν ν ν (aD (aC ?_))))))))
 refine aU ν (fun hc9 => ?_) (fun hc9 => ?_)
 ·refine aX (aC (aF (aV (aF ?_))))
  have hkr := har _ (cD (xs := l) (k := k5.1) aE)
  refine cH mixed ν (aN ν ν ν ν ν aB (aJ ν ν ν ν (cM ν (bA ν (af ν ν ν ν ν ν aE (aN ν ν ν ν ν aB (aJ ν ν ν ν (dR ν ν ν ν ν ν hkr.2.1 aE (aJ ν ν ν ν (aN ν ν ν ν ν aB (aJ ν ν ν ν (cM ν (bA ν (af ν ν ν ν ν ν aE (aN ν ν ν ν ν aB (aJ ν ν ν ν (dR ν ν ν ν ν ν hkr.1.1 aE (aN ν ν ν ν ν aB (aJ ν ν ν ν (ah ν ν ν (aD ?_)))))))))))))))))))))
  refine ⟨by kernel_rfl, ?_⟩
  refine aC ?_
  refine aU ν (fun hc10 => ?_) (fun hc10 => ?_)
  ·refine aF (aA (fm ν (bS ν (aD (aC (au (aZ (aK (aK (aZ (aK ?_)))))))))))
   refine dc ν ν ν ?_ ?_
   all_goals first | exact cy (mm (by rw [RM hall hor htw (Gc aE hc10)]; decide)) | exact av rfl rfl (congrArg (Ty.int .i64) (RM hall hor htw (Gc aE hc10)).symm)
  refine aX (bE (aC (aA (bA ν (bY ν ν aE aE (bS ν (aD ?_)))))))
  refine bG (⟨k5.1 + 1, gJ k5.2 aE (decide_eq_false hc10)⟩) ?_ (by show l.length - (k5.1 + 1) < l.length - k5.1; omega)
  exact dK
 refine bQ (aI (aI (aS ν (aC (aF (aF ?_))))))
 have hho := My k5.2 (show l.length ≤ k5.1 by omega)
 refine aA (cM ν (bU ν ν ν (bA ν (ah ν ν ν (aD (aC ?_))))))
 refine aU ν (fun hc11 => ?_) (fun hc11 => ?_)
 ·refine aF (aA (fm ν (bS ν (aD (aC (au (aK ?_)))))))
  refine dc ν ν ν ?_ ?_
  all_goals first | exact cy (mm (by rw [RK hall hor htw hho hc11]; decide)) | exact av rfl rfl (congrArg (Ty.int .i64) (RK hall hor htw hho hc11).symm)
 refine aX (aC (aF ?_))
 refine jA (tg := 63) [(12, Ty.sl cL (gA b (qx p l k3.1)))] aB rfl ⟨l6 rfl rfl hcu aB, trivial⟩ ?_
 refine aA (cM ν (iX ν (bS ν (aD (aC (au ?_))))))
 refine dc ν ν ν ?_ ?_
 all_goals first | exact av rfl rfl (congrArg (Ty.int .i64) (Q6 hall hor htw hho hc11).symm) | exact av rfl rfl (congrArg (Ty.sl cL) ((congrArg (gA b) (Ea (show l.length ≤ k3.1 by omega))).trans (AJ (Q6 hall hor htw hho hc11)).symm))
theorem za (b : aT) (hr : b.cQ) (g : Int) (ha : hH b g = 0) (rs : List (List bX)) (hl : ∀ l ∈ rs, l.length ≤ 400000000) : dO Tryz.prog 12 [cU b, Ty.int .i64 g, Ty.sl eG rs] (Ty.iF [Ty.bool (j3 b g rs).1, Ty.int .i64 (j3 b g rs).2]) := by
 refine az Tryz.func12 ν aB Tryz.ntmps12 aP fun w0 M0 => ?_
 refine fV (s := 2) ν ν fY fun hln => ?_
 have hs := iI hr
 have h6 := hr.aO
 refine aF (aA (bF ν (dN ν (bS ν (aD (aC (aF (aF (aA (cM ν (bU ν ν ν (ah ν ν ν (aD (aC ?_))))))))))))))
 refine aU ν (fun hc1 => ?_) (fun hc1 => ?_)
 ·refine aF (aA (dN ν (bS ν (aD (aC (au (aK ?_)))))))
  refine dc ν ν ν ?_ ?_
  all_goals first | exact av rfl rfl (congrArg (fun z : Bool × Int => Ty.bool z.1) (ur ha hc1).symm) | exact av rfl rfl (congrArg (fun z : Bool × Int => Ty.int .i64 z.2) (ur ha hc1).symm)
 refine aX (aC (aF (aA (aY ν ν ν aP (aa (rK b hs) ν ν ν ν ν (iX ν (aD (aC (aF (aF (aA (bS ν (aD (aC (aV ?_)))))))))))))))
 refine bf (fun (x : {x : Nat × Pl // MZ b g rs x.1 x.2}) => live [(1, Ty.int .i64 g), (2, Ty.sl eG rs), (3, Ty.pp (bL b)), (8, Ty.sl cL (gA b x.1.2)), (9, Ty.int .i64 (x.1.1 : Nat))] []) (fun x => rs.length - x.1.1) (⟨(0, bJ b), Q0 b g rs⟩) ?_ fun x => ?_
 ·(refine dw.mk' ?_ ?_ <;> (repeat' (first | exact aQ | exact aR | refine aG ?_ (Ty.bC _) | refine aG ?_ (Ty.aM _) | refine aG ?_ ?_)))
  all_goals exact Ty.fq ((HH b).trans (wj h6).symm)
 have hxe := x.2.le
 refine aF (aF (aA (bA ν (cM ν (bU ν ν ν (ah ν ν ν (aD (aC ?_))))))))
 refine aU ν (fun hc2 => ?_) (fun hc2 => ?_)
 ·refine aX (aC (aF (aV (aF (cH mixed ν (aY ν ν ν aP (cM ν (bA ν (cM ν (bA ν (af ν ν ν ν ν ν aE (aJ ν ν ν ν (aa (Ln b hs h6 x.1.2 g (nth rs x.1.1) (hl _ (cD aE))) ν ν ν ν ν (ke ν (aj ν ν (aj ν ν (iX ν (bS ν (aD ?_)))))))))))))))))))
  refine ⟨by kernel_rfl, ?_⟩
  refine aC (aF (aF (aA (bA ν (ah ν ν ν (aD (aC ?_)))))))
  refine bw ν (fun hc3 => ?_) (fun hc3 => ?_)
  ·refine aF (aA (bA ν (dN ν (bS ν (aD (aC (au (aK (aZ (aK (aK (aZ (aK ?_)))))))))))))
   refine dc ν ν ν ?_ ?_
   all_goals first | exact av rfl rfl (congrArg (fun z : Bool × Int => Ty.bool z.1) (ld ha hc1 (x.2.stop aE hc3)).symm) | exact av rfl rfl (congrArg (fun z : Bool × Int => Ty.int .i64 z.2) (ld ha hc1 (x.2.stop aE hc3)).symm)
  refine aX (aC (aA (cM ν (iX ν (aD (bE (aC (aA (bA ν (bY ν ν aE aE (bS ν (aD ?_))))))))))))
  refine bG (⟨(x.1.1 + 1, bM x.1.2 (nth rs x.1.1)), x.2.next aE hc3⟩) ?_ PD
  (refine dw.mk' ?_ ?_ <;> (repeat' (first | exact aQ | exact aR | refine aG ?_ (Ty.bC _) | refine aG ?_ (Ty.aM _) | refine aG ?_ ?_)))
  all_goals exact Ty.fq (AJ hc3)
 refine bQ (aI (aI (aS ν (aC (aF (aA (aY ν ν ν aP (cM ν (aa (og b hs (gA b x.1.2) (Nat.le_of_eq (qT h6 _))) ν ν ν ν ν (dN ν (bS ν (aD (aC (au ?_))))))))))))))
 refine dc ν ν ν ?_ ?_
 all_goals first | exact av rfl rfl (congrArg Ty.bool ((uf hr x.1.2).trans (congrArg Prod.fst (ld ha hc1 (x.2.end aE))).symm)) | exact av rfl rfl (congrArg (fun z : Bool × Int => Ty.int .i64 z.2) (ld ha hc1 (x.2.end aE)).symm)
theorem C9 (b : aT) (hr : b.cQ) (pp : List Int) (hp : pp.length = b.aO.length) (m : Nat) (ih : ∀ m', m = m' + 1 → ∀ (now : List Int) (bN : Nat) (left : Int), bN + m' = b.aO.length → now.length = b.aO.length → 0 ≤ left ∧ left ≤ 3 → fG Tryz.prog 40 [] [] [cU b, Ty.sl cL pp, Ty.sl cL now, Ty.int .i64 (bN : Nat), Ty.int .i64 left] [] (Ty.row cY 22 20 (gz b pp m' now bN left))) (now : List Int) (bN : Nat) (left : Int) (hlot : bN + m = b.aO.length) (hnow : now.length = b.aO.length) (hleft : 0 ≤ left ∧ left ≤ 3) : fG Tryz.prog 40 [] [] [cU b, Ty.sl cL pp, Ty.sl cL now, Ty.int .i64 (bN : Nat), Ty.int .i64 left] [] (Ty.row cY 22 20 (gz b pp m now bN left)) := by
 refine ej Tryz.func40 ν aB Tryz.ntmps40 aP fun w0 M0 => ?_
 have h6 := hr.aO
 have h7 := hr.iJ
 refine aF (aA (bF ν (fm ν (aD (aC (aF (aF (aA (bA ν (cM ν (bU ν ν ν (ah ν ν ν (aD (aC ?_))))))))))))))
 refine aU ν (fun hc1 => ?_) (fun hc1 => ?_)
 ·refine aF (aA (cM ν ?_))
  refine dx (E := cY) (xs := [now]) ν ν ν ν ν aB aB oD bn ν ν ?_
  refine iY ν (aD (aC (au (aK (l9 [20] ν ν aB iS ?_)))))
  all_goals (obtain rfl : m = 0 := aE; exact e8 (Bc aB Fq))
 refine aX (aC (aF ?_))
 obtain ⟨m', rfl⟩ : ∃ m', m = m' + 1 := ⟨m - 1, by omega⟩
 have hpw : 8 ^ (m' + 1) ≤ 8 ^ 6 := Nat.pow_le_pow_right aB aE
 have hpw2 : 8 ^ m' ≤ 8 ^ 6 := Nat.pow_le_pow_right aB aE
 have hp6 : 8 ^ 6 = 262144 := by decide
 refine aA (aY ν ν ν aP (cM ν (cM ν (bA ν (bY ν ν aE aE (bA ν (fM [(20, 20)] [20] [] (ih m' ν now (bN + 1) left aE hnow hleft) ν ν n9 pre_nil post_nil (fD gU) ?_)))))))
 refine iY ν (aD (aC (aF (aF (aA (bS ν (aD (aC (aV ?_)))))))))
 refine bf (fun (k : {k : Nat // k ≤ b.sizes.length ∧ (left ≤ 0 → k = 0)}) => live [(1, Ty.sl cL pp), (2, Ty.sl cL now), (3, Ty.int .i64 (bN : Nat)), (4, Ty.int .i64 left), (5, Ty.pp (bL b)), (11, Ty.row cY 22 20 (iN b pp m' now bN left k.1)), (12, Ty.int .i64 (k.1 : Nat))] []) (fun k => b.sizes.length - k.1) (⟨0, Nat.zero_le _, fun _ => rfl⟩) ?_ fun k => ?_
 ·(refine dw.mk' ?_ ?_ <;> (repeat' (first | exact aQ | exact aR | refine aG ?_ (Ty.bC _) | refine aG ?_ (Ty.aM _) | refine aG ?_ ?_)))
  all_goals exact Ty.cv CN
 have hk := k.2.1
 have hau := DN (b := b) (pp := pp) (m := m') (now := now) (bN := bN) (left := left) h7.2 hk
 refine aF (aF (aA (bA ν (aN ν ν ν ν ν aB (aJ ν ν ν ν (bU ν ν ν (ah ν ν ν (dm ν ?_))))))))
 refine bT 32 ν (fun hg => aH (bA ν (aD ν))) ?_
 refine bT 32 ν (fun hg => cJ 33 hg ν (aH (ah ν ν ν (aD ν)))) ?_
 refine dA ν ν (aD (aC ?_))
 refine cI ν (fun hc2 => ?_) (fun hc2 => ?_)
 ·refine aX (aC (aF (aV (aF (aF ?_)))))
  have hcd := sM hc2
  refine cH mixed ν (cM ν (bA ν (aa (EN _ _) ν ν ν ν ν (dm ν ?_))))
  refine bT 41 ν (fun hg => aH (cM ν (aD ν))) ?_
  refine bT 41 ν (fun hg => aH (bA ν (aD ν))) ?_
  refine bT 41 ν (fun hg => cJ 42 hg ν (cJ 43 hg ν (aH (aa (EN _ _) ν ν ν ν ν (aD ν))))) ?_
  refine eJ ν ν (dm ν ?_)
  refine bT 46 ν (fun hg => aH (aN ν ν ν ν ν aB (aD ν))) ?_
  refine bT 46 ν (fun hg => cJ 47 hg ν (aH (aJ ν ν ν ν (aD ν)))) ?_
  refine bT 46 ν (fun hg => aH (bA ν (aD ν))) ?_
  refine bT 46 ν (fun hg => cJ 48 hg ν (cJ 49 hg ν (aH (af ν ν ν ν ν ν aE (aD ν))))) ?_
  refine bT 46 ν (fun hg => cJ 50 hg ν (aH (aJ ν ν ν ν (aD ν)))) ?_
  refine bT 46 ν (fun hg => aH (aN ν ν ν ν ν aB (aD ν))) ?_
  refine bT 46 ν (fun hg => cJ 52 hg ν (aH (aJ ν ν ν ν (aD ν)))) ?_
  refine bT 46 ν (fun hg => aH (bA ν (aD ν))) ?_
  refine bT 46 ν (fun hg => cJ 53 hg ν (cJ 54 hg ν (aH (af ν ν ν ν ν ν aE (aD ν))))) ?_
  refine bT 46 ν (fun hg => cJ 55 hg ν (aH (aN ν ν ν ν ν aB (aD ν)))) ?_
  refine bT 46 ν (fun hg => cJ 56 hg ν (aH (aJ ν ν ν ν (aD ν)))) ?_
  refine bT 46 ν (fun hg => cJ 51 hg ν (cJ 57 hg ν (aH (ah ν ν ν (aD ν))))) ?_
  refine eJ ν ν (aD ?_)
  refine ⟨by kernel_rfl, ?_⟩
  refine aC ?_
  refine cI ν (fun hc3 => ?_) (fun hc3 => ?_)
  ·refine bQ (aI (aS ν (aC (aA (bA ν (bY ν ν aE aE (bS ν (aD ?_))))))))
   refine bG (⟨k.1 + 1, by have := sM hc2; omega, fun h => by have := sM hc2; omega⟩) ?_ Oc
   (refine dw.mk' ?_ ?_ <;> (repeat' (first | exact aQ | exact aR | refine aG ?_ (Ty.bC _) | refine aG ?_ (Ty.aM _) | refine aG ?_ ?_)))
   all_goals exact Ty.cv (Fg hc3)
  refine aX (aC (aF (aA ?_)))
  refine jM (E := cL) ν ν ν ν ?_
  refine cM ν (cG ν ν aB ν ν ν ν ν ν aB bp bp (iY ν (aD (aC (aF ?_)))))
  refine zq (s := 13) ν ν ?_
  refine fK (s := 13) rfl (Kt (show ([] ++ now).length = b.aO.length by rw [List.nil_append]; exact hnow)) ?_
  refine kr (tg := 61) ν (Cont.jB (List.nil_append now)) ?_
  refine aA (vZ ν (bA ν (bA ν (eZ ν ν ν ν ν aE aE ?_))))
  refine iV (E := cL) (z := (k.1 : Int)) ν ν ν aB ν ν gR ν aE aB ν ν ?_
  refine aD (aC ?_)
  refine jA (tg := 61) [(13, Ty.sl cL (now.set bN k.1))] aB rfl ⟨l6 rfl rfl (by rw [List.length_set]; exact hnow) aB, trivial⟩ ?_
  have hal := nA (b := b) (pp := pp) h7.2 m' (now.set bN k.1) (bN + 1) (left - 1)
  refine aA (iy ν (aY ν ν ν aP (cM ν (cM ν (bA ν (bY ν ν aE aE (bA ν (ga ν ν aE aE ?_))))))))
  refine aa (H6 aB (ih m' rfl (now.set bN k.1) (bN + 1) (left - 1) aE (by rw [List.length_set]; exact hnow) aE)) rfl rfl rfl rfl rfl ?_
  refine cG ν ν aB ν ν ν ν ν ν aB l5 aE (iY ν (aD (bE (aC (aA (bA ν (bY ν ν aE aE (bS ν (aD ?_)))))))))
  refine bG (⟨k.1 + 1, by have := sM hc2; omega, fun h => by have := sM hc2; omega⟩) ?_ Oc
  (refine dw.mk' ?_ ?_ <;> (repeat' (first | exact aQ | exact aR | refine aG ?_ (Ty.bC _) | refine aG ?_ (Ty.aM _) | refine aG ?_ ?_)))
  all_goals exact Ty.cv (Dz hc3)
 refine bQ (aI (aI (aS ν (aC (aF (aA (iy ν (iY ν (aD (aC (au (l9 [20] ν ν aB iS ?_))))))))))))
 all_goals exact e8 (Bc aB (JD k.2.1 (fun h => Mn hc2 ⟨by omega, h.2⟩) k.2.2))
theorem G1 (b : aT) (hr : b.cQ) (pp : List Int) (hp : pp.length = b.aO.length) : ∀ (m : Nat) (now : List Int) (bN : Nat) (left : Int), bN + m = b.aO.length → now.length = b.aO.length → 0 ≤ left ∧ left ≤ 3 → fG Tryz.prog 40 [] [] [cU b, Ty.sl cL pp, Ty.sl cL now, Ty.int .i64 (bN : Nat), Ty.int .i64 left] [] (Ty.row cY 22 20 (gz b pp m now bN left))
  | 0, now, bN, left, h1, h2, h3 => C9 b hr pp hp 0 (fun m' e => by cases e) now bN left h1 h2 h3
  | m + 1, now, bN, left, h1, h2, h3 => C9 b hr pp hp (m + 1) (fun m' e now bN left => by
      injection e with e; subst e; exact G1 b hr pp hp m now bN left) now bN left h1 h2 h3
theorem LU (b : aT) (hr : b.cQ) (g : Int) (hg : 1 ≤ g ∧ g ≤ 3) (x : List Int) (hx : x.length = b.aO.length) : dO Tryz.prog 40 [cU b, Ty.sl cL x, Ty.sl cL x, Ty.int .i64 0, Ty.int .i64 g] (Ty.sl cY (eR b g x)) := by
 have h := H6 aB (G1 b hr x hx b.aO.length x 0 g aE hx aE)
 rw [Int.natCast_zero, FP] at h
 exact h
theorem Ky (b : aT) (hr : b.cQ) (g : Int) (hg : 1 ≤ g ∧ g ≤ 3) : dO Tryz.prog 11 [cU b, Ty.int .i64 g] (Ty.int .i64 (lG b g)) := by
 refine az Tryz.func11 ν aB Tryz.ntmps11 aP fun w0 M0 => ?_
 have hs := iI hr
 have h6 := hr.aO
 have h7 := hr.iJ
 have hg0 : 0 ≤ g := by omega
 have hpw : 8 ^ b.aO.length ≤ 8 ^ 6 := Nat.pow_le_pow_right aB aE
 have hp6 : 8 ^ 6 = 262144 := by decide
 refine aF (aA (bF ν (bS ν (aD (aC (aF (aA (aY ν ν ν aP (aa (rK b hs) ν ν ν ν ν ?_)))))))))
 refine dx (E := cY) (xs := [dL b]) ν ν ν ν ν aB aB oD bn ν ν ?_
 refine iY ν (aD (aC (aF (aA (bS ν (aD (aC (aF (aF (aA (bS ν (aD (aC (aV ?_))))))))))))))
 refine bf (fun (x : {x : List (List Int) × Nat × Nat // Lv b g x.1 x.2.1 x.2.2}) => live [(1, Ty.int .i64 g), (2, Ty.pp (bL b)), (5, Ty.row cY 22 16 x.1.1), (6, Ty.int .i64 (x.1.2.1 : Nat)), (7, Ty.int .i64 (x.1.2.2 : Nat))] []) (fun x => 117649 - x.1.2.1) (⟨([dL b], 0, 0), Rm hr g⟩) ?_ fun x => ?_
 ·exact bt
 have hxf := HP hr hg0 x.2.nodup x.2.reach
 have hxn := x.2.nle
 have hxl := x.2.fle
 refine aF (aF (aA (bA ν (iy ν (gL ν ν ν (ah ν ν ν (aD (aC ?_))))))))
 refine aU ν (fun hc1 => ?_) (fun hc1 => ?_)
 ·refine aX (aC (aF (aV (aF (aA (iy ν (gL ν ν ν (bS ν (aD (aC (aF (aF (aA (bA ν (bS ν (aD (aC (aV ?_))))))))))))))))))
  refine bf (fun (i : {i : Nat // x.1.2.1 ≤ i ∧ i ≤ x.1.1.length ∧ ∀ j, x.1.2.1 ≤ j → j < i → gI b (nth x.1.1 j) = false}) => live [(1, Ty.int .i64 g), (2, Ty.pp (bL b)), (5, Ty.row cY 22 16 x.1.1), (6, Ty.int .i64 (x.1.2.1 : Nat)), (7, Ty.int .i64 (x.1.2.2 : Nat)), (8, Ty.int .i64 x.1.1.length), (9, Ty.int .i64 (i.1 : Nat))] []) (fun i => x.1.1.length - i.1) (⟨x.1.2.1, Nat.le_refl _, x.2.fle, fun j h1 h2 => by omega⟩) ?_ fun i => ?_
  ·exact bt
  have hi1 := i.2.1
  have hi2 := i.2.2.1
  refine aF (aF (aA (bA ν (bA ν (ah ν ν ν (aD (aC ?_)))))))
  refine aU ν (fun hc2 => ?_) (fun hc2 => ?_)
  ·refine aX (aC (aF (aV (aF (cH mixed ν (aY ν ν ν aP (iy ν (bA ν (fN ν ν ν ν ν ν aE aE (hU ν ν ν ν (aa (og b hs (nth x.1.1 i.1) (Nat.le_of_eq ((x.2.reach _ (cD aE)).iJ hr hg0).1)) ν ν ν ν ν (aD ?_))))))))))))
   refine ⟨by kernel_rfl, ?_⟩
   refine aC ?_
   refine cI ν (fun hc3 => ?_) (fun hc3 => ?_)
   ·refine aF (aA (bA ν (bS ν (aD (aC (au (aZ (aK (aK (aZ (aK (aZ (aK (aK (aZ (aK (bg ν ν ?_)))))))))))))))))
    all_goals exact av rfl rfl (congrArg (Ty.int .i64) (x.2.found hr hg aE hc3))
   refine aX (bE (aC (aA (bA ν (bY ν ν aE aE (bS ν (aD ?_)))))))
   refine bG (⟨i.1 + 1, by have := i.2.1; omega, by omega, QI i.2.2.2 hc3⟩) ?_ (by show x.1.1.length - (i.1 + 1) < x.1.1.length - i.1; omega)
   exact bt
  refine bQ (aI (aI (aS ν (aC (aF (aF (aA (bA ν (bS ν (aD (aC (aV ?_))))))))))))
  refine bf (fun (y : {y : List (List Int) × Nat // Ex b g x.1.1 y.1 x.1.2.1 x.1.2.2 y.2 0}) => live [(1, Ty.int .i64 g), (2, Ty.pp (bL b)), (5, Ty.row cY 22 16 y.1.1), (6, Ty.int .i64 (x.1.2.1 : Nat)), (7, Ty.int .i64 (x.1.2.2 : Nat)), (8, Ty.int .i64 x.1.1.length), (10, Ty.int .i64 (y.1.2 : Nat))] []) (fun y => x.1.1.length - y.1.2) (⟨(x.1.1, x.1.2.1), Rw x.2⟩) ?_ fun y => ?_
  ·exact bt
  have hy1 := y.2.fi
  refine aF (aF (aA (bA ν (bA ν (ah ν ν ν (aD (aC ?_)))))))
  refine aU ν (fun hc4 => ?_) (fun hc4 => ?_)
  ·refine aX (aC (aF (aV (aF ?_))))
   obtain ⟨hya, hyb⟩ := y.2.at_ (show y.1.2 < x.1.1.length by omega)
   have hyl := ((x.2.reach _ (cD (xs := x.1.1) (k := y.1.2) aE)).iJ hr hg0).1
   refine cH mixed ν (aY ν ν ν aP (iy ν (bA ν (fN ν ν ν ν ν ν aE aE (hU ν ν ν ν (iy ν (bA ν (fN ν ν ν ν ν ν aE aE (hU ν ν ν ν (bA ν ?_))))))))))
   refine aa (LU b hr g hg (nth y.1.1 y.1.2) (by rw [hyb]; exact hyl)) rfl rfl rfl rfl rfl ?_
   refine iX ν (aD ?_)
   refine ⟨by kernel_rfl, ?_⟩
   refine aC (aF ?_)
   refine fK (s := 11) ν (Ty.fq (congrArg (eR b g) hyb)) ?_
   have hal : (eR b g (nth x.1.1 y.1.2)).length ≤ 262144 := Nat.le_trans (GB h7.2 g _) aE
   refine aA (bS ν (aD (aC (aV ?_))))
   refine bf (fun (z : {z : List (List Int) × Nat // Ex b g x.1.1 z.1 x.1.2.1 x.1.2.2 y.1.2 z.2}) => live [(1, Ty.int .i64 g), (2, Ty.pp (bL b)), (5, Ty.row cY 22 16 z.1.1), (6, Ty.int .i64 (x.1.2.1 : Nat)), (7, Ty.int .i64 (x.1.2.2 : Nat)), (8, Ty.int .i64 x.1.1.length), (10, Ty.int .i64 (y.1.2 : Nat)), (11, Ty.sl cY (eR b g (nth x.1.1 y.1.2))), (12, Ty.int .i64 (z.1.2 : Nat))] []) (fun z => (eR b g (nth x.1.1 y.1.2)).length - z.1.2) (⟨(y.1.1, 0), y.2⟩) ?_ fun z => ?_
   ·exact bt
   have hzf := HP hr hg0 z.2.nodup z.2.reach
   refine aF (aF (aA (bA ν (cM ν (bU ν ν ν (ah ν ν ν (aD (aC ?_))))))))
   refine aU ν (fun hc5 => ?_) (fun hc5 => ?_)
   ·refine aX (aC (aF (aV (aF ?_))))
    have hnx := (((x.2.reach _ (cD (xs := x.1.1) (k := y.1.2) aE)).next h6 hg0 (cD (xs := eR b g (nth x.1.1 y.1.2)) (k := z.1.2) aE)).iJ hr hg0).1
    refine aA (iy ν (cM ν (bA ν (af ν ν ν ν ν ν aE (aJ ν ν ν ν ?_)))))
    refine x8 [16] (Dg z.1.1 (nth (eR b g (nth x.1.1 y.1.2)) z.1.2) (fun q hq => (((z.2.reach q hq).iJ hr hg0).1).trans hnx.symm)) ν DR (by exact mz _ _) ?_
    refine ah ν ν ν (aD (aC ?_))
    refine aU ν (fun hc6 => ?_) (fun hc6 => ?_)
    ·refine aA (iy ν (cM ν (bA ν (af ν ν ν ν ν ν aE (aJ ν ν ν ν ?_)))))
     refine bD (E := cY) (xs := [nth (eR b g (nth x.1.1 y.1.2)) z.1.2]) ν ν ν ν ν aB aB oD bn ν ?_
     refine cG ν ν aB ν ν ν ν ν ν aB bp bp (iY ν (aD (bE (aC (aA (bA ν (bY ν ν aE aE (bS ν (aD ?_)))))))))
     refine bG (⟨(z.1.1 ++ [nth (eR b g (nth x.1.1 y.1.2)) z.1.2], z.1.2 + 1), z.2.new x.2 h6 hg0 aE aE (EA hc6)⟩) ?_ OT
     exact bt
    refine aX (bE (aC (aA (bA ν (bY ν ν aE aE (bS ν (aD ?_)))))))
    refine bG (⟨(z.1.1, z.1.2 + 1), z.2.old x.2 aE (J3 hc6)⟩) ?_ OT
    exact bt
   refine bQ (aI (aI (aS ν (bE (aC (aA (bA ν (bY ν ν aE aE (bS ν (aD ?_))))))))))
   refine bG (⟨(z.1.1, y.1.2 + 1), z.2.next aE aE⟩) ?_ (by show x.1.1.length - (y.1.2 + 1) < x.1.1.length - y.1.2; omega)
   exact bt
  refine bQ (aI (aI (aS ν (aC (aA (bA ν (bS ν (aD (bE (aC (aA (bA ν (bY ν ν aE aE (bS ν (aD ?_)))))))))))))))
  refine bG (⟨(y.1.1, x.1.1.length, x.1.2.2 + 1), y.2.end x.2 h6 hg0 aE aE (fun j h1 h2 => i.2.2.2 j h1 (by have := i.2.2.1; omega))⟩) ?_ (by show 117649 - x.1.1.length < 117649 - x.1.2.1; omega)
  exact bt
 refine bQ (aI (aI (aS ν (aC (aF (aA (bS ν (aD (aC (au (bg ν ν ?_)))))))))))
 all_goals exact av rfl rfl (congrArg (Ty.int .i64) (x.2.none hr hg aE))
end Go.Proofs.YtpnndljmhpepgaaGreat
namespace Go.Proofs.YtpnndljmhpepgaaGreat
open Go Go.T
set_option maxRecDepth 100000
set_option maxHeartbeats 6000000
theorem K0 {b : aT} (h : jr b = true) : true = rE b := by unfold rE; rw [h]; rfl
theorem Pv {b : aT} (h : jr b = false) (h2 : decide (iO b = 0) = false) : false = rE b := by
 unfold rE; rw [check_eq] at h2; rw [h, h2]; rfl
theorem QS {b : aT} (h : jr b = false) (h2 : decide (iO b = 0) = true) : decide (150 < q6 b) = rE b := by
 unfold rE; rw [check_eq] at h2; rw [h, h2]; rfl
theorem Gx {b : aT} {x : jq} {v : List Int} {k : Nat} {n : Int} (h : IZ b x v k n) (hk : x.all.length ≤ k) : IZ b x v x.all.length n := by
 have := h.le
 rwa [show k = x.all.length by omega] at h
theorem Rn {i n : Nat} (h : (i : Int) < (n : Int)) : i < n := by omega
theorem L8 {n m n' m' : Int} (h : (decide (n < n') || decide (m < m')) = true) : n < n' ∨ m < m' := by
 simpa only [Bool.or_eq_true, decide_eq_true_eq] using h
theorem D9 {n m n' m' : Int} (h : (decide (n < n') || decide (m < m')) = false) : ¬ n < n' ∧ ¬ m < m' := by
 simpa only [Bool.or_eq_false_iff, decide_eq_false_iff_not] using h
attribute [local irreducible] dX gI iM HJ gP jr iO bH
attribute [local irreducible] iL fu pJ r9 jY jQ jL jI jT rF jJ q5 dy g6 q2 g7 r8 nth fS dG ay dO bodyPost Exit.then Exit.inBlock Code.wp Code.wpIn fy rS rB rq rL jU r5 fG iT qd cT cX bodyPostM eE
theorem L7 (b : aT) (hs1 : b.aO.length * 24 ≤ 140737488355328) : dO Tryz.prog 5 [cU b] (Ty.bool (rE b)) := by
 refine az Tryz.func5 ν aB Tryz.ntmps5 aP fun w0 M0 => ?_
 refine aF (aA (bF ν (dN ν (aD (aC (aF (aA (aY ν ν ν aP (aa (IU b hs1) ν ν ν ν ν (bZ ν bW ν ?_))))))))))
 refine bK ν ν aB ν ν ν ν ν ν (aD (aC (aF (aA (aY ν ν ν aP (aa (CY b) ν ν ν ν ν (dm ν ?_)))))))
 cases hsp : (jr b)
 ·(refine tQ ν ν ν O7 ?_)
  (refine tQ ν ν ν (by apply aH; (refine aa (p5 b (oZ hsp)) ν ν ν ν ν ?_); refine aD ?_; exact ν) ?_)
  (refine tQ ν ν ν PB ?_)
  (refine tQ ν ν ν (by apply aH; (refine dm ν ?_); refine aD ?_; exact ν) ?_)
  cases hsp : (decide (iO b = 0))
  ·refine nK ν ν ν ν (nK ν ν ν ν (nK ν ν ν ν ?_))
   (refine tQ ν ν ν (by apply aH; (refine N4 ν ?_); refine aD ?_; exact ν) ?_)
   refine Gm ν ν (dN ν (aD (aC (au (bg ν ν ?_)))))
   all_goals exact av rfl rfl (congrArg Ty.bool (Pv ‹jr b = false› hsp))
  (refine tQ ν ν ν O7 ?_)
  (refine tQ ν ν ν (by apply aH; (refine aa (Mw b (c8 ((check_eq b).symm.trans (of_decide_eq_true hsp)))) ν ν ν ν ν ?_); refine aD ?_; exact ν) ?_)
  (refine tQ ν ν ν PB ?_)
  (refine tQ ν ν ν (by apply aH; (refine M9 ν ν ?_); refine aD ?_; exact ν) ?_)
  refine Gm ν ν (dN ν (aD (aC (au (bg ν ν ?_)))))
  all_goals exact av rfl rfl (congrArg Ty.bool (QS ‹jr b = false› hsp))
 refine nK ν ν ν ν (nK ν ν ν ν (nK ν ν ν ν (nK ν ν ν ν ?_)))
 cases hsp : (decide (iO b = 0))
 ·refine wJ ν ν ν (wJ ν ν ν (wJ ν ν ν (nK ν ν ν ν (H9 ν (dN ν (aD (aC (au (bg ν ν ?_)))))))))
  all_goals exact av rfl rfl (congrArg Ty.bool (K0 ‹jr b = true›))
 refine wJ ν ν ν (wJ ν ν ν (wJ ν ν ν (nK ν ν ν ν (H9 ν (dN ν (aD (aC (au (bg ν ν ?_)))))))))
 all_goals exact av rfl rfl (congrArg Ty.bool (K0 ‹jr b = true›))
theorem yT (b : aT) (hr : b.cQ) : dO Tryz.prog 64 [cU b] (Ty.Q1 (nx b) (fun x => Ty.iF [Ty.sl cY x.all, Ty.sl cL x.turns, Ty.sl cL x.bh]) (fun _ => ⟨rfl, rfl⟩)) := by
 refine az Tryz.func64 ν aB Tryz.ntmps64 aP fun w0 M0 => ?_
 have hs := iI hr
 have h1 := hr.iJ
 have h2 := hr.aO
 refine aF (aA (bF ν (fm ν (fm ν (fm ν (aD (aC (aF (aA (aY ν ν ν aP (aa (rK b hs) ν ν ν ν ν ?_)))))))))))
 refine dx (E := cY) (xs := [dL b]) ν ν ν ν ν aB aB oD bn ν ν ?_
 refine dx (E := cL) (xs := [0]) ν ν ν ν ν aB aB dn bn ν ν ?_
 refine dx (E := cL) (xs := [0]) ν ν ν ν ν aB aB dn bn ν ν ?_
 refine iY ν (iY ν (iY ν (aD (aC (aF (aF (aA (dN ν (aD (aC (aV ?_)))))))))))
 refine bf (fun (x : {x : jq × Bool // RS b x.1 ∧ (x.2 = false → nx b x.1)}) => live [(1, Ty.pp (bL b)), (5, Ty.row cY 22 20 x.1.1.all), (6, Ty.row cL 3 21 x.1.1.turns), (7, Ty.row cL 3 22 x.1.1.bh), (8, Ty.bool x.1.2)] []) (fun x => 2 * HJ x.1.1 + (if x.1.2 = true then 1 else 0)) (⟨(⟨[dL b], [0], [0]⟩, true), Ri hr, fun h => by cases h⟩) ?_ fun x => ?_
 ·exact bt
 refine aF (aF (aA (dm ν (aD (aC ?_)))))
 refine cI ν (fun hc1 => ?_) (fun hc1 => ?_)
 ·refine aX (aC (aV (aF (aA (dN ν (aD (aC (aF (aA (bS ν (aD (aC (aV ?_)))))))))))))
  refine bf (fun (y : {y : jq × Bool × Nat // g8 b x.1.1 y.1 y.2.1 y.2.2 0 0}) => live [(1, Ty.pp (bL b)), (5, Ty.row cY 22 20 y.1.1.all), (6, Ty.row cL 3 21 y.1.1.turns), (7, Ty.row cL 3 22 y.1.1.bh), (8, Ty.bool y.1.2.1), (9, Ty.int .i64 (y.1.2.2 : Nat))] []) (fun y => 117649 - y.1.2.2) (⟨(x.1.1, false, 0), Qs x.2.1⟩) ?_ fun y => ?_
  ·exact bt
  have hfy := y.2.rs.z7 hr
  refine aF (aF (aA (bA ν (iy ν (gL ν ν ν (ah ν ν ν (aD (aC ?_))))))))
  refine aU ν (fun hc2 => ?_) (fun hc2 => ?_)
  ·refine aX (aC (aF (aV (aF (aA (bS ν (aD (aC (aV ?_)))))))))
   refine bf (fun (z : {z : jq × Bool × Nat // g8 b x.1.1 z.1 z.2.1 y.1.2.2 z.2.2 0 ∧ y.1.2.2 < z.1.all.length ∧ z.2.2 ≤ b.aO.length}) => live [(1, Ty.pp (bL b)), (5, Ty.row cY 22 20 z.1.1.all), (6, Ty.row cL 3 21 z.1.1.turns), (7, Ty.row cL 3 22 z.1.1.bh), (8, Ty.bool z.1.2.1), (9, Ty.int .i64 (y.1.2.2 : Nat)), (10, Ty.int .i64 (z.1.2.2 : Nat))] []) (fun z => b.aO.length - z.1.2.2) (⟨(y.1.1, y.1.2.1, 0), y.2, Rn hc2, Nat.zero_le _⟩) ?_ fun z => ?_
   ·exact bt
   have hzl := z.2.2.2
   have hfz := z.2.1.rs.z7 hr
   have hzi := z.2.2.1
   refine aF (aF (aA (bA ν (aN ν ν ν ν ν aB (aJ ν ν ν ν (bU ν ν ν (ah ν ν ν (aD (aC ?_)))))))))
   refine aU ν (fun hc3 => ?_) (fun hc3 => ?_)
   ·refine aX (aC (aF (aV (aF (aA (bS ν (aD (aC (aV ?_)))))))))
    refine bf (fun (u : {u : jq × Bool × Nat // g8 b x.1.1 u.1 u.2.1 y.1.2.2 z.1.2.2 u.2.2 ∧ y.1.2.2 < u.1.all.length ∧ u.2.2 ≤ b.sizes.length}) => live [(1, Ty.pp (bL b)), (5, Ty.row cY 22 20 u.1.1.all), (6, Ty.row cL 3 21 u.1.1.turns), (7, Ty.row cL 3 22 u.1.1.bh), (8, Ty.bool u.1.2.1), (9, Ty.int .i64 (y.1.2.2 : Nat)), (10, Ty.int .i64 (z.1.2.2 : Nat)), (11, Ty.int .i64 (u.1.2.2 : Nat))] []) (fun u => b.sizes.length - u.1.2.2) (⟨(z.1.1, z.1.2.1, 0), z.2.1, z.2.2.1, Nat.zero_le _⟩) ?_ fun u => ?_
    ·exact bt
    have hul := u.2.2.2
    have hui := u.2.2.1
    have hfu := u.2.1.rs.z7 hr
    have hcap := u.2.1.rs.cap _ hui
    have hcat : (0 ≤ nth u.1.1.turns (y.1.2.2 : Int).toNat ∧ nth u.1.1.turns (y.1.2.2 : Int).toNat ≤ y.1.2.2) ∧ 0 ≤ nth u.1.1.bh (y.1.2.2 : Int).toNat ∧ nth u.1.1.bh (y.1.2.2 : Int).toNat ≤ 300 * y.1.2.2 := hcap
    have hlt := u.2.1.rs.lt
    have hls := u.2.1.rs.ls
    refine aF (aF (aA (bA ν (aN ν ν ν ν ν aB (aJ ν ν ν ν (bU ν ν ν (ah ν ν ν (aD (aC ?_)))))))))
    refine aU ν (fun hc4 => ?_) (fun hc4 => ?_)
    ·refine aX (aC (aF (aV (aF (cH mixed ν (aY ν ν ν aP (iy ν (bA ν (fN ν ν ν ν ν ν aE aE (hU ν ν ν ν (bA ν (bA ν (cC ν ν bW ν dn eU ?_)))))))))))))
     refine aa (Aa b hs (nth u.1.1.all y.1.2.2) (u.2.1.rs.len _ (cD hui)) ⟨z.1.2.2, u.1.2.2⟩) ν ν ν ν ν (ke ν (aj ν ν (aj ν ν (iX ν (bS ν (aD ?_))))))
     refine ⟨by kernel_rfl, ?_⟩
     refine aC (aF (aF (aA (bA ν (ah ν ν ν (aD (aC ?_)))))))
     refine bw ν (fun hc5 => ?_) (fun hc5 => ?_)
     ·refine bQ (aI (aS ν (aC (aA (bA ν (bY ν ν aE aE (bS ν (aD ?_))))))))
      refine bG (⟨(u.1.1, u.1.2.1, u.1.2.2 + 1), u.2.1.skip hc5, hui, by show u.1.2.2 + 1 ≤ _; omega⟩) ?_ G3
      exact bt
     refine aX (aC (aF ?_))
     have hsb : 1 ≤ (nth b.aO z.1.2.2).bh ∧ (nth b.aO z.1.2.2).bh ≤ 300 := k7 hr (i := (z.1.2.2 : Int)) ⟨by omega, by omega⟩
     have hst : 1 ≤ (nth b.aO (z.1.2.2 : Int).toNat).bh ∧ (nth b.aO (z.1.2.2 : Int).toNat).bh ≤ 300 := hsb
     have htl := u.2.1.rs.JW hr hui hc5
     refine cH mixed ν (iy ν (bA ν (fN ν ν ν ν ν ν aE aE (hU ν ν ν ν (bY ν ν aE aE (iy ν (bA ν (fN ν ν ν ν ν ν aE aE (hU ν ν ν ν (aN ν ν ν ν ν aB (aJ ν ν ν ν (bA ν (af ν ν ν ν ν ν aE (aN ν ν ν ν ν aB (aJ ν ν ν ν (bY ν ν aE aE (bS ν (bS ν (aD ?_)))))))))))))))))))
     refine ⟨by kernel_rfl, ?_⟩
     refine aC (aF (aA (iy ν (cM ν ?_))))
     refine x8 [20] (Dg u.1.1.all (dX b (nth u.1.1.all y.1.2.2) ⟨z.1.2.2, u.1.2.2⟩).1 (fun q hq => by rw [u.2.1.rs.len q hq, htl.2.1, List.length_set]; exact (u.2.1.rs.len _ (cD hui)).symm)) rfl DR (by exact mz _ _) ?_
     refine bS ν (aD (aC (aF (aF (aA (bA ν (ah ν ν ν (aD (aC ?_)))))))))
     refine aU ν (fun hc6 => ?_) (fun hc6 => ?_)
     ·refine aF (aA (iy ν (cM ν ?_)))
      refine bD (E := cY) (xs := [(dX b (nth u.1.1.all y.1.2.2) ⟨z.1.2.2, u.1.2.2⟩).1]) ν ν ν ν ν aB aB oD bn ν ?_
      refine cG ν ν aB ν ν ν ν ν ν aB bp bp (iy ν (bA ν ?_))
      refine bD (E := cL) (xs := [_]) ν ν ν ν ν aB aB dn bn ν ?_
      refine cG ν ν aB ν ν ν ν ν ν aB bp bp (iy ν (bA ν ?_))
      refine bD (E := cL) (xs := [_]) ν ν ν ν ν aB aB dn bn ν ?_
      refine cG ν ν aB ν ν ν ν ν ν aB bp bp (iY ν (iY ν (iY ν (aD (aC (aF (aA (dN ν (aD (aC (bQ (aI (aS ν (aC (aA (bA ν (bY ν ν aE aE (bS ν (aD ?_)))))))))))))))))))
      refine bG (⟨(⟨u.1.1.all ++ [(dX b (nth u.1.1.all y.1.2.2) ⟨z.1.2.2, u.1.2.2⟩).1], u.1.1.turns ++ [nth u.1.1.turns y.1.2.2 + 1], u.1.1.bh ++ [nth u.1.1.bh y.1.2.2 + dM b ⟨z.1.2.2, u.1.2.2⟩]⟩, true, u.1.2.2 + 1), u.2.1.add hr hui hc5 (EA hc6), by show _ < (u.1.1.all ++ [_]).length; rw [List.length_append]; exact Nat.lt_of_lt_of_le hui (Nat.le_add_right _ _), by show u.1.2.2 + 1 ≤ _; omega⟩) ?_ G3
      exact bt
     refine aX (aC (aF ?_))
     have hpl := Dt hc6
     have hp2 := hpl.1.2
     have hp1 := hpl.1.1
     refine aA (bA ν (iy ν (bA ν (fN ν ν ν ν ν ν aE aE (hU ν ν ν ν (ah ν ν ν (dm ν ?_)))))))
     refine bT 96 ν (fun hg => aH (bA ν (aD ν))) ?_
     refine bT 96 ν (fun hg => aH (iy ν (aD ν))) ?_
     refine bT 96 ν (fun hg => aH (bA ν (aD ν))) ?_
     refine bT 96 ν (fun hg => cJ 98 hg ν (cJ 99 hg ν (aH (fN ν ν ν ν ν ν aE aE (aD ν))))) ?_
     refine bT 96 ν (fun hg => cJ 100 hg ν (aH (hU ν ν ν ν (aD ν)))) ?_
     refine bT 96 ν (fun hg => cJ 97 hg ν (cJ 101 hg ν (aH (ah ν ν ν (aD ν))))) ?_
     refine eJ ν ν (aD (aC ?_))
     refine cI ν (fun hc7 => ?_) (fun hc7 => ?_)
     ·refine aF ?_
      refine fK (s := 16) ν (Ty.bO (show gP u.1.1.all (dX b (nth u.1.1.all y.1.2.2) ⟨z.1.2.2, u.1.2.2⟩).1 = ((gP u.1.1.all (dX b (nth u.1.1.all y.1.2.2) ⟨z.1.2.2, u.1.2.2⟩).1).toNat : Nat) by omega)) ?_
      refine FY (s := 6) ν ν fun c6 => ?_
      refine FY (s := 7) ν ν fun c7 => ?_
      refine cH mixed ν (Mb ν (bA ν (Mb ν (bA ν (bA ν (Mb ν (bA ν ?_)))))))
      refine jX (i := (gP u.1.1.all (dX b (nth u.1.1.all y.1.2.2) ⟨z.1.2.2, u.1.2.2⟩).1).toNat) ν ν ν ν ν aE ?_
      refine sK (E := cL) (o := 0) (tg := 21) ν ν aB ν ν aE ν ?_
      refine Jv ν ν (bA ν (Mb ν (bA ν ?_)))
      refine jX (i := (gP u.1.1.all (dX b (nth u.1.1.all y.1.2.2) ⟨z.1.2.2, u.1.2.2⟩).1).toNat) ν ν ν ν ν aE ?_
      refine sK (E := cL) (o := 0) (tg := 22) ν ν aB ν ν aE ν ?_
      refine Jv ν ν ?_
      refine jX (i := (gP u.1.1.all (dX b (nth u.1.1.all y.1.2.2) ⟨z.1.2.2, u.1.2.2⟩).1).toNat) ν ν ν ν ν aE ?_
      refine qC (E := cL) (o := 0) (tg := 21) (z := min (nth u.1.1.turns y.1.2.2 + 1) (nth u.1.1.turns (gP u.1.1.all (dX b (nth u.1.1.all y.1.2.2) ⟨z.1.2.2, u.1.2.2⟩).1).toNat)) ν ν aB ν ν ν ν aE aB ν ν ?_
      refine jX (i := (gP u.1.1.all (dX b (nth u.1.1.all y.1.2.2) ⟨z.1.2.2, u.1.2.2⟩).1).toNat) ν ν ν ν ν aE ?_
      refine qC (E := cL) (o := 0) (tg := 22) (z := min (nth u.1.1.bh y.1.2.2 + dM b ⟨z.1.2.2, u.1.2.2⟩) (nth u.1.1.bh (gP u.1.1.all (dX b (nth u.1.1.all y.1.2.2) ⟨z.1.2.2, u.1.2.2⟩).1).toNat)) ν ν aB ν ν ν ν aE aB ν ν ?_
      refine aD ?_
      refine ⟨by kernel_rfl, ?_⟩
      refine aC ?_
      refine DE (s := 6) ν aB ν ν List.length_set.symm ?_
      refine DE (s := 7) ν aB ν ν List.length_set.symm ?_
      refine aA (dN ν (aD (bE (aC (aA (bA ν (bY ν ν aE aE (bS ν (aD ?_)))))))))
      refine bG (⟨(⟨u.1.1.all, u.1.1.turns.set (gP u.1.1.all (dX b (nth u.1.1.all y.1.2.2) ⟨z.1.2.2, u.1.2.2⟩).1).toNat (min (nth u.1.1.turns y.1.2.2 + 1) (nth u.1.1.turns (gP u.1.1.all (dX b (nth u.1.1.all y.1.2.2) ⟨z.1.2.2, u.1.2.2⟩).1).toNat)), u.1.1.bh.set (gP u.1.1.all (dX b (nth u.1.1.all y.1.2.2) ⟨z.1.2.2, u.1.2.2⟩).1).toNat (min (nth u.1.1.bh y.1.2.2 + dM b ⟨z.1.2.2, u.1.2.2⟩) (nth u.1.1.bh (gP u.1.1.all (dX b (nth u.1.1.all y.1.2.2) ⟨z.1.2.2, u.1.2.2⟩).1).toNat))⟩, true, u.1.2.2 + 1), u.2.1.low hr hui hc5 hpl.1.2 hpl.2 (L8 hc7), hui, by show u.1.2.2 + 1 ≤ _; omega⟩) ?_ G3
      exact bt
     refine aX (bE (aC (aA (bA ν (bY ν ν aE aE (bS ν (aD ?_)))))))
     refine bG (⟨(u.1.1, u.1.2.1, u.1.2.2 + 1), u.2.1.known hpl.1.2 hpl.2 (D9 hc7).1 (D9 hc7).2, hui, by show u.1.2.2 + 1 ≤ _; omega⟩) ?_ G3
     exact bt
    refine bQ (aI (aI (aS ν (bE (aC (aA (bA ν (bY ν ν aE aE (bS ν (aD ?_))))))))))
    refine bG (⟨(u.1.1, u.1.2.1, z.1.2.2 + 1), u.2.1.aO aE, u.2.2.1, by show z.1.2.2 + 1 ≤ _; omega⟩) ?_ (by show b.aO.length - (z.1.2.2 + 1) < b.aO.length - z.1.2.2; omega)
    exact bt
   refine bQ (aI (aI (aS ν (bE (aC (aA (bA ν (bY ν ν aE aE (bS ν (aD ?_))))))))))
   refine bG (⟨(z.1.1, z.1.2.1, y.1.2.2 + 1), z.2.1.next aE⟩) ?_ (by show 117649 - (y.1.2.2 + 1) < 117649 - y.1.2.2; omega)
   exact bt
  refine bQ (aI (aI (aS ν (bE ?_))))
  refine bG (⟨(y.1.1, y.1.2.1), y.2.rs, fun h => y.2.done' h hr aE⟩) ?_ (by exact y.2.mu hc1)
  exact bt
 refine bQ (aI (aI (aS ν (aC (aF (aA (iy ν (iy ν (iy ν (iY ν (iY ν (iY ν (aD (aC (au ?_)))))))))))))))
 refine P7 (S := nx b) (r1 := fun x => Ty.sl cY x.all) (r2 := fun x => Ty.sl cL x.turns) (r3 := fun x => Ty.sl cL x.bh) x.1.1 (x.2.2 hc1) ν ν ν ν ?_ ?_ ?_
 all_goals exact qD aB
theorem Nb (b : aT) (hr : b.cQ) : dO Tryz.prog 65 [cU b] (Ty.iF [Ty.int .i64 (pz (dY b dh) (eA b dh)), Ty.int .i64 (pz (dY b dh) (eA b (dM b)))]) := by
 refine az Tryz.func65 ν aB Tryz.ntmps65 aP fun w0 M0 => ?_
 have hs := iI hr
 refine aF (aA (bF ν (bS ν (bS ν (aD (aC (aF ?_)))))))
 refine BX 2 (s := 12) (S := nx b) (T := fun x => Ty.iF [Ty.sl cY x.all, Ty.sl cL x.turns, Ty.sl cL x.bh]) (hd := fun _ => ⟨rfl, rfl⟩) rfl ?_
 refine aY ν ν ν aP (aa (yT b hr) ν ν ν ν ν (aD ?_))
 refine ⟨rfl, fun xr hxr => ?_⟩
 refine ke ν (aj ν ν (aj ν ν (aj ν ν (iX ν (iX ν (iX ν (aD (aC (aF ?_)))))))))
 have hfx := hxr.rs.z7 hr
 have hlt := hxr.rs.lt
 have hls := hxr.rs.ls
 refine aA (bS ν (bS ν (aD (aC (aF (aF (aA (bS ν (aD (aC (aV ?_)))))))))))
 refine bf (fun (k : {k : Nat × Int × Int // IZ b xr xr.turns k.1 k.2.1 ∧ IZ b xr xr.bh k.1 k.2.2}) => live [(1, Ty.pp (bL b)), (4, Ty.sl cY xr.all), (5, Ty.sl cL xr.turns), (6, Ty.sl cL xr.bh), (7, Ty.int .i64 k.1.2.1), (8, Ty.int .i64 k.1.2.2), (9, Ty.int .i64 (k.1.1 : Nat))] []) (fun k => xr.all.length - k.1.1) (⟨(0, -1, -1), Qg b xr _, Qg b xr _⟩) ?_ fun k => ?_
 ·exact bt
 have hkl := k.2.1.le
 refine aF (aF (aA (bA ν (cM ν (bU ν ν ν (ah ν ν ν (aD (aC ?_))))))))
 refine aU ν (fun hc1 => ?_) (fun hc1 => ?_)
 ·refine aX (aC (aF (aV (aF (aF ?_)))))
  have hk : k.1.1 < xr.all.length := by omega
  have hcap := hxr.rs.cap _ hk
  have hv1 := hcap.1.1
  have hv2 := hcap.2.1
  have hpl := hxr.rs.len _ (cD hk)
  refine cH mixed ν (aY ν ν ν aP (cM ν (bA ν (af ν ν ν ν ν ν aE (aJ ν ν ν ν (aa (og b hs (nth xr.all k.1.1) (Nat.le_of_eq hpl)) ν ν ν ν ν (dm ν ?_)))))))
  refine bT 28 ν (fun hg => aH (bA ν (aD ν))) ?_
  refine bT 28 ν (fun hg => cJ 29 hg ν (aH (ah ν ν ν (aD ν)))) ?_
  refine bT 28 ν (fun hg => cJ 30 hg ν (aH (dm ν (aD ν)))) ?_
  refine gi 31 ν (fun hg1 hg2 => aH (cM ν (aD ν))) ?_
  refine gi 31 ν (fun hg1 hg2 => aH (bA ν (aD ν))) ?_
  refine gi 31 ν (fun hg1 hg2 => jS 32 hg1 hg2 ν (jS 33 hg1 hg2 ν (aH (af ν ν ν ν ν ν aE (aD ν))))) ?_
  refine gi 31 ν (fun hg1 hg2 => jS 34 hg1 hg2 ν (aH (aJ ν ν ν ν (aD ν)))) ?_
  refine gi 31 ν (fun hg1 hg2 => aH (bA ν (aD ν))) ?_
  refine gi 31 ν (fun hg1 hg2 => jS 35 hg1 hg2 ν (jS 36 hg1 hg2 ν (aH (ah ν ν ν (aD ν))))) ?_
  refine bT 28 ν (by intro hg; apply bV (s := 31) ν dF; apply fW (s := 37) ν dF; apply aH; (refine eJ ν ν ?_); refine aD ?_; exact ν) ?_
  refine dA ν ν (aD ?_)
  refine ⟨by kernel_rfl, ?_⟩
  refine aC ?_
  refine cI ν (fun hc2 => ?_) (fun hc2 => ?_)
  ·refine aA (cM ν (bA ν (af ν ν ν ν ν ν aE (aJ ν ν ν ν (bS ν (aD (aC (aF (cH mixed ν (aY ν ν ν aP (cM ν (bA ν (af ν ν ν ν ν ν aE (aJ ν ν ν ν (aa (og b hs (nth xr.all k.1.1) (Nat.le_of_eq hpl)) ν ν ν ν ν (dm ν ?_))))))))))))))))
   refine bT 50 ν (fun hg => aH (bA ν (aD ν))) ?_
   refine bT 50 ν (fun hg => cJ 51 hg ν (aH (ah ν ν ν (aD ν)))) ?_
   refine bT 50 ν (fun hg => cJ 52 hg ν (aH (dm ν (aD ν)))) ?_
   refine gi 53 ν (fun hg1 hg2 => aH (cM ν (aD ν))) ?_
   refine gi 53 ν (fun hg1 hg2 => aH (bA ν (aD ν))) ?_
   refine gi 53 ν (fun hg1 hg2 => jS 54 hg1 hg2 ν (jS 55 hg1 hg2 ν (aH (af ν ν ν ν ν ν aE (aD ν))))) ?_
   refine gi 53 ν (fun hg1 hg2 => jS 56 hg1 hg2 ν (aH (aJ ν ν ν ν (aD ν)))) ?_
   refine gi 53 ν (fun hg1 hg2 => aH (bA ν (aD ν))) ?_
   refine gi 53 ν (fun hg1 hg2 => jS 57 hg1 hg2 ν (jS 58 hg1 hg2 ν (aH (ah ν ν ν (aD ν))))) ?_
   refine bT 50 ν Qh ?_
   refine dA ν ν (aD ?_)
   refine ⟨by kernel_rfl, ?_⟩
   refine aC ?_
   refine cI ν (fun hc3 => ?_) (fun hc3 => ?_)
   ·refine aA (cM ν (bA ν (af ν ν ν ν ν ν aE (aJ ν ν ν ν (bS ν (aD (bE (aC (aA (bA ν (bY ν ν aE aE (bS ν (aD ?_)))))))))))))
    refine bG (⟨(k.1.1 + 1, nth xr.turns k.1.1, nth xr.bh k.1.1), k.2.1.yes hk hv1 hc2, k.2.2.yes hk hv2 hc3⟩) ?_ Hi
    exact bt
   refine aX (bE (aC (aA (bA ν (bY ν ν aE aE (bS ν (aD ?_)))))))
   refine bG (⟨(k.1.1 + 1, nth xr.turns k.1.1, k.1.2.2), k.2.1.yes hk hv1 hc2, k.2.2.no hk hc3⟩) ?_ Hi
   exact bt
  refine aX (aC (aF (cH mixed ν (aY ν ν ν aP (cM ν (bA ν (af ν ν ν ν ν ν aE (aJ ν ν ν ν (aa (og b hs (nth xr.all k.1.1) (Nat.le_of_eq hpl)) ν ν ν ν ν (dm ν ?_))))))))))
  refine bT 50 ν (fun hg => aH (bA ν (aD ν))) ?_
  refine bT 50 ν (fun hg => cJ 51 hg ν (aH (ah ν ν ν (aD ν)))) ?_
  refine bT 50 ν (fun hg => cJ 52 hg ν (aH (dm ν (aD ν)))) ?_
  refine gi 53 ν (fun hg1 hg2 => aH (cM ν (aD ν))) ?_
  refine gi 53 ν (fun hg1 hg2 => aH (bA ν (aD ν))) ?_
  refine gi 53 ν (fun hg1 hg2 => jS 54 hg1 hg2 ν (jS 55 hg1 hg2 ν (aH (af ν ν ν ν ν ν aE (aD ν))))) ?_
  refine gi 53 ν (fun hg1 hg2 => jS 56 hg1 hg2 ν (aH (aJ ν ν ν ν (aD ν)))) ?_
  refine gi 53 ν (fun hg1 hg2 => aH (bA ν (aD ν))) ?_
  refine gi 53 ν (fun hg1 hg2 => jS 57 hg1 hg2 ν (jS 58 hg1 hg2 ν (aH (ah ν ν ν (aD ν))))) ?_
  refine bT 50 ν Qh ?_
  refine dA ν ν (aD ?_)
  refine ⟨by kernel_rfl, ?_⟩
  refine aC ?_
  refine cI ν (fun hc4 => ?_) (fun hc4 => ?_)
  ·refine aA (cM ν (bA ν (af ν ν ν ν ν ν aE (aJ ν ν ν ν (bS ν (aD (bE (aC (aA (bA ν (bY ν ν aE aE (bS ν (aD ?_)))))))))))))
   refine bG (⟨(k.1.1 + 1, k.1.2.1, nth xr.bh k.1.1), k.2.1.no hk hc2, k.2.2.yes hk hv2 hc4⟩) ?_ Hi
   exact bt
  refine aX (bE (aC (aA (bA ν (bY ν ν aE aE (bS ν (aD ?_)))))))
  refine bG (⟨(k.1.1 + 1, k.1.2.1, k.1.2.2), k.2.1.no hk hc2, k.2.2.no hk hc4⟩) ?_ Hi
  exact bt
 refine bQ (aI (aI (aS ν (aC (aF (aA (bA ν (bA ν (bS ν (bS ν (aD (aC (au ?_)))))))))))))
 refine dc ν ν ν ?_ ?_
 all_goals first | exact av rfl rfl (congrArg (Ty.int .i64) (hxr.turns hr (Gx k.2.1 aE))) | exact av rfl rfl (congrArg (Ty.int .i64) (hxr.bh hr (Gx k.2.2 aE)))
end Go.Proofs.YtpnndljmhpepgaaGreat
namespace Go.Proofs.YtpnndljmhpepgaaGreat
open Go Go.T
set_option maxRecDepth 100000
set_option maxHeartbeats 6000000
section
variable {b : aT}
theorem Ko {b : aT} (h : rE b = false) : b.Small ∧ (bH b = 0 → q6 b ≤ 150) := by
 unfold rE at h
 rw [Bool.or_eq_false_iff] at h
 refine ⟨oZ h.1, fun h0 => ?_⟩
 have h2 := h.2
 rw [decide_eq_true h0, Bool.true_and, decide_eq_false_iff_not] at h2
 omega
theorem K6 (hr : b.cQ) (h : dY b dh = 0) : 0 ≤ eA b dh := by
 obtain ⟨_, h2, _⟩ := (cheap hr (jy b)).yes h
 rw [nh] at h2; omega
theorem zS (hr : b.cQ) (h : pz (dY b dh) (eA b dh) < 0) : 7 = dY b dh ∧ 0 = eA b dh ∧ 0 = eA b (dM b) := by
 have hO := cheap hr (jy b)
 have hL := cheap hr (qF hr)
 rcases hO.err with e | e
 ·have := K6 hr e
  unfold pz at h; rw [if_pos e] at h; omega
 have e2 := (tZ hL hO).trans e
 exact ⟨e.symm, (hO.no e).2.1.symm, (hL.no e2).2.1.symm⟩
theorem C3 (hr : b.cQ) (h : ¬ pz (dY b dh) (eA b dh) < 0) : dY b dh = 0 ∧ pz (dY b dh) (eA b dh) = eA b dh ∧ pz (dY b dh) (eA b (dM b)) = eA b (dM b) := by
 rcases (cheap hr (jy b)).err with e | e
 ·exact ⟨e, if_pos e, if_pos e⟩
 exfalso; apply h; unfold pz; rw [e, if_neg aB]; decide
theorem Cj (h : ¬ bH b = 0) (c : bX → Int) : bH b = dY b c := (if_neg h).symm
theorem Gt (h : ¬ bH b = 0) (c : bX → Int) : 0 = eA b c := (if_neg h).symm
theorem JV (h : ¬ bH b = 0) : 0 = e7 b := (if_neg h).symm
theorem Qz (h : dY b dh = 0) : bH b = 0 := Classical.byContradiction fun hn => by rw [← Cj hn] at h; exact hn h
theorem xx (b : aT) : dY b (dM b) = dY b dh := by
 by_cases h : bH b = 0
 ·have hr := c8 h
  exact tZ (cheap hr (qF hr)) (cheap hr (jy b))
 rw [← Cj h, ← Cj h]
theorem Ki (b : aT) : ((gZ b dh).length : Int) = eA b dh := by
 by_cases h : bH b = 0
 ·have hr := c8 h
  have hO := cheap hr (jy b)
  rcases hO.err with e | e
  ·rw [← (hO.yes e).2.1, nh]
  rw [(hO.no e).1, (hO.no e).2.1]; rfl
 rw [← Gt h]; unfold gZ; rw [if_neg h]; rfl
theorem EK (hm : bH b = 0 → q6 b ≤ 150) : (gZ b (dM b)).length ≤ 200 ∧ (gZ b dh).length ≤ 200 ∧ (¬ dY b dh = 0 → gZ b (dM b) = []) := by
 by_cases h : bH b = 0
 ·have hr := c8 h
  have hO := cheap hr (jy b)
  have hL := cheap hr (qF hr)
  have h150 := hm h
  rcases hO.err with e | e
  ·have e2 := (xx b).trans e
   have h1 := JC hr hL e2
   have h2 := Ht hr hO e
   exact ⟨by omega, by omega, fun hn => absurd e hn⟩
  have e2 := (xx b).trans e
  rw [(hO.no e).1, (hL.no e2).1]
  exact ⟨by decide, by decide, fun _ => rfl⟩
 unfold gZ; rw [if_neg h, if_neg h]; exact ⟨by decide, by decide, fun _ => rfl⟩
theorem QN (hm : bH b = 0 → q6 b ≤ 150) : (((((((((!decide (dY b dh = dY b dh) || !decide (dY b dh = dY b dh)) || !decide (dY b dh = dY b dh)) || !decide (bH b = bH b)) || !decide (eA b dh = eA b dh)) || !decide (eA b (dM b) = eA b (dM b))) || !decide (e7 b = e7 b)) || !decide (((gZ b dh).length : Int) = eA b dh)) || decide (((gZ b (dM b)).length : Int) > 200)) || (!decide (dY b dh = 0) && decide (((gZ b (dM b)).length : Int) > 0))) = false := by
 obtain ⟨h1, _, h3⟩ := EK hm
 rw [decide_eq_true (Ki b), decide_eq_false (show ¬ ((gZ b (dM b)).length : Int) > 200 by omega)]
 by_cases e : dY b dh = 0
 ·rw [decide_eq_true e]; simp
 rw [h3 e]; simp
end
attribute [local irreducible] dY gZ eA e7 bH iO gI gW q4 rE pz
attribute [local irreducible] iL fu pJ r9 jY jQ jL jI jT rF jJ q5 dy g6 q2 g7 r8 nth fS dG ay dO bodyPost Exit.then Exit.inBlock Code.wp Code.wpIn fy rS rB rq rL jU r5 fG iT qd cT cX bodyPostM eE
theorem uT (b : aT) (hb : b.aO.length * 24 ≤ 140737488355328) : dO Tryz.prog 24 [cU b] (Ty.bool true) := by
 refine az Tryz.func24 ν aB Tryz.ntmps24 aP fun w0 M0 => ?_
 refine aF (aA (bF ν (dN ν (aD (aC (aF (aF (aA (aY ν ν ν aP (aa (L7 b hb) ν ν ν ν ν (aD (aC ?_))))))))))))
 refine cI ν (fun hc1 => ?_) (fun hc1 => ?_)
 ·refine aF (aA (aa (je) ν ν ν ν ν (dN ν (aD (aC (au (aK (bg ν ν ?_))))))))
  all_goals exact b9 rfl rfl
 refine aX (aC (aF ?_))
 obtain ⟨hs, hmany⟩ := Ko hc1
 have hsh := EK hmany
 refine cH mixed ν (aY ν ν ν aP (aa (H7 b hs) ν ν ν ν ν (aY ν ν ν aP (aa (rU b hs) ν ν ν ν ν (bZ ν bW ν (bZ ν bW ν (bK ν ν aB ν ν ν ν ν ν (bK ν ν aB ν ν ν ν ν ν (aD ?_)))))))))
 refine ⟨by kernel_rfl, ?_⟩
 refine aC (aF (aA (aW ν ν aB ν ν aP (aa (p5 b hs) ν ν ν ν ν (bS ν (aD (aC (aF ?_))))))))
 refine fK (s := 5) ν (Ty.bO (check_eq b)) ?_
 refine aA (bA ν (bS ν (bS ν (bS ν (bS ν (aD (aC ?_)))))))
 refine l8 (J := live [(1, Ty.pp (bL b)), (3, Ty.ptr 4 0), (4, Ty.ptr 5 0), (5, Ty.int .i64 (bH b)), (6, Ty.int .i64 (dY b dh)), (7, Ty.int .i64 (eA b dh)), (8, Ty.int .i64 (eA b (dM b))), (9, Ty.int .i64 (e7 b))] [(4, Cont.cells 25 (bL b)), (5, Cont.cells 33 (bL b))]) ?_ ?_
 ·refine aF (aA (bA ν (ah ν ν ν (aD (aC ?_)))))
  refine aU ν (fun hc2 => ?_) (fun hc2 => ?_)
  ·refine aF ?_
   have hr := c8 hc2
   refine BX 2 (s := 44) (S := nx b) (T := fun x => Ty.iF [Ty.sl cY x.all, Ty.sl cL x.turns, Ty.sl cL x.bh]) (hd := fun _ => ⟨rfl, rfl⟩) rfl ?_
   refine aW ν ν aB ν ν aP (aa (yT b hr) ν ν ν ν ν (aD ?_))
   refine ⟨rfl, fun xr hxr => ?_⟩
   refine ke ν (aj ν ν (aj ν ν (aj ν ν (iX ν (iX ν (iX ν (aD (aC (aF (aA (cM ν (bU ν ν ν (bS ν (aD (aC (aF ?_))))))))))))))))
   refine fK (s := 9) ν (Ty.bO (hxr.count hr)) ?_
   refine aA (aW ν ν aB ν ν aP (aa (Nb b hr) ν ν ν ν ν (ke ν (aj ν ν (aj ν ν (bS ν (bS ν (aD (aC (aF (aA (bA ν (ah ν ν ν (aD (aC ?_)))))))))))))))
   refine aU ν (fun hc3 => ?_) (fun hc3 => ?_)
   ·refine aA (bS ν (bS ν (bS ν (aD (fB ?_)))))
    (refine dw.mk' ?_ ?_ <;> (repeat' (first | exact aQ | exact aR | refine aG ?_ (Ty.bC _) | refine aG ?_ (Ty.aM _) | refine aL rfl (Cont.aM _) ?_ | refine aG ?_ ?_)))
    all_goals first | exact Ty.bO (zS hr hc3).1 | exact Ty.bO (zS hr hc3).2.1 | exact Ty.bO (zS hr hc3).2.2
   refine aX (fB ?_)
   (refine dw.mk' ?_ ?_ <;> (repeat' (first | exact aQ | exact aR | refine aG ?_ (Ty.bC _) | refine aG ?_ (Ty.aM _) | refine aL rfl (Cont.aM _) ?_ | refine aG ?_ ?_)))
   all_goals first | exact Ty.bO (hc2.trans (C3 hr hc3).1.symm) | exact Ty.bO (C3 hr hc3).2.1 | exact Ty.bO (C3 hr hc3).2.2
  refine aX (fB ?_)
  (refine dw.mk' ?_ ?_ <;> (repeat' (first | exact aQ | exact aR | refine aG ?_ (Ty.bC _) | refine aG ?_ (Ty.aM _) | refine aL rfl (Cont.aM _) ?_ | refine aG ?_ ?_)))
  all_goals first | exact Ty.bO (Cj hc2 _) | exact Ty.bO (Gt hc2 _) | exact Ty.bO (JV hc2)
 refine aF (aA (aW ν ν aB ν ν aP (aa (zo b hs) ν ν ν ν ν (ke ν (aj ν ν (aj ν ν (bS ν (bS ν (aD (aC (aF (aA (aW ν ν aB ν ν aP (aa (Jt b hs) ν ν ν ν ν (ke ν (aj ν ν (aj ν ν (iX ν (bS ν (aD (aC (aF (aA ?_)))))))))))))))))))))))
 refine aW ν ν aB ν ν aP (aa (y6 b hs) ν ν ν ν ν (ke ν (aj ν ν (aj ν ν (aj ν ν (iX ν (bS ν (bS ν (aD (aC (aF ?_)))))))))))
 refine fK (s := 19) ν (Ty.bO (xx b)) ?_
 refine aA (aW ν ν aB ν ν aP (aa (DQ b hs) ν ν ν ν ν (ke ν (aj ν ν (aj ν ν (bS ν (bS ν (aD (aC (aF (aF (aA (bA ν (bA ν (ah ν ν ν (dm ν ?_))))))))))))))))
 refine bT 81 ν (fun hg => aH (bA ν (aD ν))) ?_
 refine bT 81 ν (fun hg => aH (bA ν (aD ν))) ?_
 refine bT 81 ν (fun hg => cJ 82 hg ν (cJ 83 hg ν (aH (ah ν ν ν (aD ν))))) ?_
 refine eJ ν ν (dm ν ?_)
 refine bT 86 ν (fun hg => aH (bA ν (aD ν))) ?_
 refine bT 86 ν (fun hg => aH (bA ν (aD ν))) ?_
 refine bT 86 ν (fun hg => cJ 87 hg ν (cJ 88 hg ν (aH (ah ν ν ν (aD ν))))) ?_
 refine eJ ν ν (dm ν ?_)
 refine bT 91 ν (fun hg => aH (bA ν (aD ν))) ?_
 refine bT 91 ν (fun hg => aH (bA ν (aD ν))) ?_
 refine bT 91 ν (fun hg => cJ 92 hg ν (cJ 93 hg ν (aH (ah ν ν ν (aD ν))))) ?_
 refine eJ ν ν (dm ν ?_)
 refine bT 96 ν (fun hg => aH (bA ν (aD ν))) ?_
 refine bT 96 ν (fun hg => aH (bA ν (aD ν))) ?_
 refine bT 96 ν (fun hg => cJ 97 hg ν (cJ 98 hg ν (aH (ah ν ν ν (aD ν))))) ?_
 refine eJ ν ν (dm ν ?_)
 refine bT 101 ν (fun hg => aH (bA ν (aD ν))) ?_
 refine bT 101 ν (fun hg => aH (bA ν (aD ν))) ?_
 refine bT 101 ν (fun hg => cJ 102 hg ν (cJ 103 hg ν (aH (ah ν ν ν (aD ν))))) ?_
 refine eJ ν ν (dm ν ?_)
 refine bT 106 ν (fun hg => aH (bA ν (aD ν))) ?_
 refine bT 106 ν (fun hg => aH (bA ν (aD ν))) ?_
 refine bT 106 ν (fun hg => cJ 107 hg ν (cJ 108 hg ν (aH (ah ν ν ν (aD ν))))) ?_
 refine eJ ν ν (dm ν ?_)
 refine bT 111 ν (fun hg => aH (cM ν (aD ν))) ?_
 refine bT 111 ν (fun hg => cJ 112 hg ν (aH (bU ν ν ν (aD ν)))) ?_
 refine bT 111 ν (fun hg => aH (bA ν (aD ν))) ?_
 refine bT 111 ν (fun hg => cJ 113 hg ν (cJ 114 hg ν (aH (ah ν ν ν (aD ν))))) ?_
 refine eJ ν ν (dm ν ?_)
 refine bT 117 ν (fun hg => aH (cM ν (aD ν))) ?_
 refine bT 117 ν (fun hg => cJ 118 hg ν (aH (bU ν ν ν (aD ν)))) ?_
 refine bT 117 ν (fun hg => cJ 119 hg ν (aH (ah ν ν ν (aD ν)))) ?_
 refine eJ ν ν (dm ν ?_)
 refine bT 122 ν (fun hg => aH (bA ν (aD ν))) ?_
 refine bT 122 ν (fun hg => cJ 123 hg ν (aH (ah ν ν ν (aD ν)))) ?_
 refine bT 122 ν (fun hg => cJ 124 hg ν (aH (dm ν (aD ν)))) ?_
 refine gi 125 ν (fun hg1 hg2 => aH (cM ν (aD ν))) ?_
 refine gi 125 ν (fun hg1 hg2 => jS 126 hg1 hg2 ν (aH (bU ν ν ν (aD ν)))) ?_
 refine gi 125 ν (fun hg1 hg2 => jS 127 hg1 hg2 ν (aH (ah ν ν ν (aD ν)))) ?_
 refine bT 122 ν (by intro hg; apply bV (s := 125) ν dF; apply fW (s := 128) ν dF; apply aH; (refine dA ν ν ?_); refine aD ?_; exact ν) ?_
 refine eJ ν ν (aD (aC (eP ν (QN hmany) (aX (aC (aF (aF (aA (bA ν (ah ν ν ν (aD (aC ?_))))))))))))
 refine bw ν (fun hc5 => ?_) (fun hc5 => ?_)
 ·refine aF (aA (aW ν ν aB ν ν aP (aY ν ν ν aP (aa (rY b b) ν ν ν ν ν (dm ν ?_)))))
  refine bT 136 ν (fun hg => aH (aa (je) ν ν ν ν ν (aD ν))) ?_
  refine dA ν ν (dN ν (aD (aC (au (aK (bg ν ν ?_))))))
  all_goals exact av rfl rfl (congrArg Ty.bool (by rw [j5]; rfl))
 refine aX (aC (aF ?_))
 have hok := Qz hc5
 have hr := c8 hok
 have hO := cheap hr (jy b)
 have hL := cheap hr (qF hr)
 have hLe := (xx b).trans hc5
 obtain ⟨p1, k1, ea1, em1, el1⟩ := w9 hr (hO.yes hc5).1 aE
 obtain ⟨p2, k2, ea2, em2, el2⟩ := w9 hr (hL.yes hLe).1 aE
 rw [(hL.yes hLe).2.1] at ea2
 refine cH mixed ν (aW ν ν aB ν ν aP (cM ν (aa (u6 (gZ b dh) aE) ν ν ν ν ν (aa (yQ b hr (gZ b dh)) ν ν ν ν ν (ke ν (aj ν ν (aj ν ν (aj ν ν (aj ν ν (iX ν (iX ν (bS ν (bS ν (aD ?_))))))))))))))
 refine ⟨by kernel_rfl, ?_⟩
 refine aC (aF (cH mixed ν (aW ν ν aB ν ν aP (cM ν (aa (u6 (gZ b (dM b)) aE) ν ν ν ν ν (aa (yQ b hr (gZ b (dM b))) ν ν ν ν ν (ke ν (aj ν ν (aj ν ν (aj ν ν (aj ν ν (iX ν (iX ν (bS ν (bS ν (aD ?_))))))))))))))))
 refine ⟨by kernel_rfl, ?_⟩
 refine aC (aF ?_)
 refine fK (s := 22) ν (Ty.fq (congrArg (fun z : List Int × List bX × Int × Int => z.1) ea1)) ?_
 refine fK (s := 25) ν (Ty.bO (congrArg (fun z : List Int × List bX × Int × Int => z.2.2.2) ea1)) ?_
 refine fK (s := 26) ν (Ty.fq (congrArg (fun z : List Int × List bX × Int × Int => z.1) ea2)) ?_
 refine fK (s := 28) ν (Ty.bO (congrArg (fun z : List Int × List bX × Int × Int => z.2.2.1) ea2)) ?_
 refine fK (s := 29) ν (Ty.bO (congrArg (fun z : List Int × List bX × Int × Int => z.2.2.2) ea2)) ?_
 refine aA (bA ν (ah ν ν ν (dm ν ?_)))
 refine bT 159 ν (fun hg => aH (bA ν (aD ν))) ?_
 refine bT 159 ν (by intro hg; apply bV (s := 160) ν gx; apply aH; (refine ah ν ν ν ?_); refine aD ?_; exact ν) ?_
 refine dA ν ν (dm ν ?_)
 refine bT 163 ν (fun hg => aH (bA ν (aD ν))) ?_
 refine bT 163 ν (fun hg => aH (bA ν (aD ν))) ?_
 refine bT 163 ν (by intro hg; apply bV (s := 164) ν gx; apply bV (s := 165) ν gx; apply aH; (refine ah ν ν ν ?_); refine aD ?_; exact ν) ?_
 refine dA ν ν (dm ν ?_)
 refine bT 168 ν (fun hg => aH (aW ν ν aB ν ν aP (aD ν))) ?_
 refine bT 168 ν (fun hg => aH (cM ν (aD ν))) ?_
 refine bT 168 ν (fun hg => cJ 169 hg ν (cJ 170 hg ν (aH (aa (og b hs p1 (Nat.le_of_eq el1)) ν ν ν ν ν (aD ν))))) ?_
 refine dA ν ν (dm ν ?_)
 refine bT 173 ν (fun hg => aH (aW ν ν aB ν ν aP (aD ν))) ?_
 refine bT 173 ν (fun hg => aH (cM ν (aD ν))) ?_
 refine bT 173 ν (fun hg => cJ 174 hg ν (cJ 175 hg ν (aH (aa (og b hs p2 (Nat.le_of_eq el2)) ν ν ν ν ν (aD ν))))) ?_
 refine dA ν ν (dm ν ?_)
 refine bT 178 ν (fun hg => aH (aW ν ν aB ν ν aP (aD ν))) ?_
 refine bT 178 ν (fun hg => aH (aY ν ν ν aP (aD ν))) ?_
 refine bT 178 ν (fun hg => cJ 179 hg ν (cJ 180 hg ν (aH (aa (rY b b) ν ν ν ν ν (aD ν))))) ?_
 refine dA ν ν (dm ν ?_)
 refine bT 183 ν (fun hg => aH (aa (je) ν ν ν ν ν (aD ν))) ?_
 refine dA ν ν (dN ν (aD (aC (au (bg ν ν ?_)))))
 all_goals exact av rfl rfl (congrArg Ty.bool (by rw [em1, em2, j5]; simp))
end Go.Proofs.YtpnndljmhpepgaaGreat
namespace Go.Proofs.YtpnndljmhpepgaaGreat
open Go Go.T
set_option maxRecDepth 100000
set_option maxHeartbeats 6000000
def Qr (x : Option (List bX)) : List Ty := match x with | none => [Ty.ex (.slice none 0 0)] | some l => [Ty.sl bq l]
def rT : El (Option (List bX)) := El.mk' 1 Qr (fun x => by cases x <;> rfl) (fun x => by cases x <;> exact ⟨rfl, rfl, rfl⟩)
instance : Inhabited (Option (List bX)) := ⟨none⟩
theorem FO (l : List (List bX)) : (l.map some).flatMap rT.tys = l.flatMap eG.tys := by
  induction l with
  | nil => rfl
  | cons x l ih => rw [List.map_cons, List.flatMap_cons, List.flatMap_cons, ih]; rfl
theorem Js (l : List (List bX)) : (Ty.sl rT (l.map some)).Sub (Ty.sl eG l) := fun w M v ⟨a, c, e, h1, h2, h3⟩ => by
 rw [List.length_map] at e h1 h3
 exact ⟨a, c, e, h1, h2, fun h0 => by
  obtain ⟨b, off, e1, h4⟩ := h3 h0
  rw [FO] at h4
  exact ⟨b, off, e1, h4⟩⟩
def uz (l : List (List bX)) (k : Nat) : List (Option (List bX)) := (l.take k).map some ++ List.replicate (l.length - k) none
theorem K1 (x : Option (List bX)) (l : List bX) : (rT.tys x).set 0 (Ty.sl bq l) = rT.tys (some l) := by cases x <;> rfl
theorem BU {l : List (List bX)} {k : Nat} (h : k ≤ l.length) : (uz l k).length = l.length := by unfold uz; simp; omega
theorem FT {l : List (List bX)} {k : Nat} (h : k < l.length) : (uz l k).set k (some (nth l k)) = uz l (k + 1) := by
 unfold uz
 have e : ((l.take k).map some).length = k := by rw [List.length_map, List.length_take]; omega
 rw [List.set_append_right _ _ aE, e, Nat.sub_self, cg h, List.map_append, List.append_assoc, show l.length - k = (l.length - (k + 1)) + 1 by omega, List.replicate_succ]; rfl
theorem Jf {l : List (List bX)} {k : Nat} (h : l.length = k) : uz l k = l.map some := by
 unfold uz; rw [List.take_of_length_le aE, show l.length - k = 0 by omega]; simp
section
variable {b : aT} {g : Int} {rs : List (List bX)}
theorem Da (b : aT) (g : Int) : (decide (bH b = 0) && (decide (g < 1) || decide (g > 3))) = (decide (bH b = 0) && !Ac g 1 3) := by
 have : (decide (g < 1) || decide (g > 3)) = !Ac g 1 3 := by
  rw [Bool.eq_iff_iff, Bool.or_eq_true, decide_eq_true_eq, decide_eq_true_eq, Bool.not_eq_true', ← Bool.not_eq_true, fE]; omega
 rw [this]
theorem RR (h : (decide (bH b = 0) && (decide (g < 1) || decide (g > 3))) = true) : 3 = hH b g := (KY (by rw [← Da]; exact h)).symm
theorem Qa (h : (decide (bH b = 0) && (decide (g < 1) || decide (g > 3))) = false) : bH b = hH b g := (GV (by rw [← Da]; exact h)).symm
theorem C0 (h : ¬ hH b g = 0) : hH b g = ew b g ∧ hH b g = (j3 b g rs).2 ∧ (0 : Int) = (dV b g).length ∧ false = (j3 b g rs).1 := by
 rw [wD h, sY h, zj h]; exact ⟨rfl, rfl, rfl, rfl⟩
theorem CG (h : hH b g = 0) : wG b g (ew b g) (dV b g) := PL (c8 (kT h).1) (kT h).2
theorem Hp (h : hH b g = 0) (hl : lG b g < 0) : 7 = ew b g ∧ (0 : Int) = (dV b g).length := by
 have hR := CG h
 rcases hR.err with e | e
 ·unfold lG at hl; rw [if_pos e] at hl; omega
 exact ⟨e.symm, by rw [(hR.no e).1]; rfl⟩
theorem HW (h : hH b g = 0) (hl : ¬ lG b g < 0) : hH b g = ew b g ∧ lG b g = (dV b g).length := by
 rcases (CG h).err with e | e
 ·exact ⟨h.trans e.symm, by unfold lG; rw [if_pos e]⟩
 exfalso; apply hl; unfold lG; rw [if_neg CL]; decide
theorem Kj (h : ew b g = 0) : hH b g = 0 := Classical.byContradiction fun hn => by rw [sY hn] at h; exact hn h
theorem Jz (hm : bH b = 0 → q6 b ≤ 150) (h : ew b g = 0) : (dV b g).length ≤ 150 ∧ (∀ l ∈ dV b g, l.length ≤ 3) ∧ j3 b g (dV b g) = (true, 0) := by
 have ha := Kj h
 obtain ⟨h0, hg⟩ := kT ha
 have hr := c8 h0
 have hR := CG ha
 rw [h] at hR
 have hO := cheap hr (jy b)
 have hE := hR.same hr.aO hg.1 hO
 have hO' := hO
 rw [← hE] at hO'
 have hf := (hR.z7 hr.aO hg.1 hO').2
 have h1 := Ht hr hO hE.symm
 have h2 := Ki b
 have h3 := hm h0
 have hlen : (dV b g).length ≤ 150 := by omega
 refine ⟨hlen, fun l hl => by have := (hR.rows hg.1 l hl).2; omega, ?_⟩
 obtain ⟨q, k1, k2, _⟩ := hR.yes rfl
 unfold j3
 rw [if_pos ha, if_neg aE, DM aE _ k1, k2]
end
attribute [local irreducible] ew dV j3 lG hH bH iO q4 rE
attribute [local irreducible] iL fu pJ r9 jY jQ jL jI jT rF jJ q5 dy g6 q2 g7 r8 nth fS dG ay dO bodyPost Exit.then Exit.inBlock Code.wp Code.wpIn fy rS rB rq rL jU r5 fG iT qd cT cX bodyPostM eE
theorem GJ (l : List (List bX)) (hn : l.length ≤ 1000) (hl : ∀ x ∈ l, x.length ≤ 1000) : dO Tryz.prog 9 [Ty.sl eG l] (Ty.sl eG l) := by
 refine az Tryz.func9 ν aB Tryz.ntmps9 aP fun w0 M0 => ?_
 refine aF (aA (fm ν (aD (aC (aF (aA (cM ν (bU ν ν ν ?_))))))))
 refine xd (E := rT) (x0 := none) ν ν ν ν ν ν ν aB ν aE l5 aE ?_
 refine Pe ν (aD (aC (aF (aF (aA (cM ν (bU ν ν ν (bA ν (aD (aC (aV ?_)))))))))))
 refine bf (fun (k : {k : Nat // k ≤ l.length}) => live [(3, Ty.vs 9 l.length), (9, Ty.sl eG l), (10, Ty.int .i64 l.length), (11, Ty.int .i64 (k.1 : Nat))] [(9, Cont.vec rT 29 (uz l k.1))]) (fun k => l.length - k.1) (⟨0, by omega⟩) ?_ fun k => ?_
 ·exact dK
 have hk := k.2
 have hul := BU hk
 refine aF (aA (ah ν ν ν (aD (aC (aF ?_)))))
 refine aU ν (fun hc1 => ?_) (fun hc1 => ?_)
 ·refine aX (aC (aF (aV (aF (aA (bA ν (af ν ν ν ν ν ν aE (aJ ν ν ν ν (bS ν (iX ν (aD (aC (aA (vZ ν (bA ν (cM ν (aa (AP (nth l k.1) (hl _ (cD aE))) ν ν ν ν ν (dU ν ν ν ν ν aE ?_))))))))))))))))))
  refine iV (E := rT) (z := some (nth l k.1)) ν ν ν aB ν ν HT ν aE aB ν (K1 _ _) ?_
  refine aD (bE (aC (aA (bY ν ν aE aE (bA ν (aD ?_))))))
  refine bG (⟨k.1 + 1, by omega⟩) ?_ pV
  (refine dw.mk' ?_ ?_ <;> (repeat' (first | exact aQ | exact aR | refine aG ?_ (Ty.bC _) | refine aG ?_ (Ty.aM _) | refine aL rfl ?_ ?_)))
  all_goals exact Cont.jB (FT aE)
 refine bQ (aI (aI (aS ν (aC (aF ?_)))))
 obtain ⟨k, hk⟩ := k
 obtain rfl : k = l.length := by have h1 : ¬ (k : Int) < (l.length : Int) := hc1; have h2 : k ≤ l.length := hk; omega
 refine jA (tg := 9) [(3, Ty.sl rT (uz l l.length))] aB rfl ⟨l6 rfl rfl (BU (Nat.le_refl _)) aB, trivial⟩ ?_
 refine aA (cM ν (iX ν (aD (aC (au (bg ν ν ?_))))))
 all_goals exact vX rfl rfl (by rw [Jf rfl]; exact Js l)
theorem BH (a b : List (List bX)) : dO Tryz.prog 18 [Ty.sl eG a, Ty.sl eG b] (Ty.bool (decide (a = b))) := by
 refine az Tryz.func18 ν aB Tryz.ntmps18 aP fun w0 M0 => ?_
 refine fV (s := 0) ν ν fY fun ha => ?_
 refine fV (s := 1) ν ν fY fun hb => ?_
 refine aF (aA (dN ν (aD (aC (aF (aF (aA (cM ν (bU ν ν ν (cM ν (bU ν ν ν (ah ν ν ν (aD (aC ?_))))))))))))))
 refine bw ν (fun hc1 => ?_) (fun hc1 => ?_)
 ·refine aF (aA (dN ν (aD (aC (au (aK (bg ν ν ?_)))))))
  exact av rfl rfl (congrArg Ty.bool AG)
 refine aX (aC (aF (aF (aA (cM ν (bU ν ν ν (bA ν (aD (aC (aV ?_))))))))))
 refine bf (fun (k : {k : Nat // a.take k = b.take k}) => live [(0, Ty.sl eG a), (1, Ty.sl eG b), (12, Ty.sl eG a), (13, Ty.int .i64 a.length), (14, Ty.int .i64 (k.1 : Nat))] []) (fun k => a.length - k.1) (⟨0, by simp⟩) ?_ fun k => ?_
 ·exact bt
 have hlen : a.length = b.length := by omega
 refine aF (aA (ah ν ν ν (aD (aC (aF ?_)))))
 refine aU ν (fun hc2 => ?_) (fun hc2 => ?_)
 ·refine aX (aC (aF (aV (aF (aA (bA ν (af ν ν ν ν ν ν aE (aJ ν ν ν ν (bS ν (iX ν (aD (aC (aF (aA (cM ν (cM ν (bA ν (af ν ν ν ν ν ν aE (aJ ν ν ν ν (aa (xG _ _) ν ν ν ν ν (dW ν (aD (aC ?_)))))))))))))))))))))))
  refine bw ν (fun hc3 => ?_) (fun hc3 => ?_)
  ·refine aF (aA (dN ν (aD (aC (au (aZ (aK (aK (aZ (aK (bg ν ν ?_)))))))))))
   exact av rfl rfl (congrArg Ty.bool O3)
  refine aX (bE (aC (aA (bY ν ν aE aE (bA ν (aD ?_))))))
  refine bG (⟨k.1 + 1, by have e : nth a k.1 = nth b k.1 := hc3; rw [cg aE, cg aE, k.2, e]⟩) ?_ zQ
  exact bt
 refine bQ (aI (aI (aS ν (aC (aF (aA (dN ν (aD (aC (au (bg ν ν ?_)))))))))))
 exact av rfl rfl (congrArg Ty.bool zB)
theorem ux (b : aT) (hb : b.aO.length * 24 ≤ 140737488355328) (g : Int) (rs : List (List bX)) : dO Tryz.prog 3 [cU b, Ty.int .i64 g, Ty.sl eG rs] (Ty.bool true) := by
 refine az Tryz.func3 ν aB Tryz.ntmps3 aP fun w0 M0 => ?_
 refine fV (s := 2) ν ν fY fun hln => ?_
 refine aF (aA (bF ν (dN ν (aD (aC (aF (aF (aA (aY ν ν ν aP (aa (L7 b hb) ν ν ν ν ν (dm ν ?_)))))))))))
 refine bT 26 ν (fun hg => aH (cM ν (aD ν))) ?_
 refine bT 26 ν (fun hg => cJ 27 hg ν (aH (bU ν ν ν (aD ν)))) ?_
 refine bT 26 ν (fun hg => cJ 28 hg ν (aH (ah ν ν ν (aD ν)))) ?_
 refine eJ ν ν (aD (aC ?_))
 refine cI ν (fun hc1 => ?_) (fun hc1 => ?_)
 ·refine aF (aA (aa (je) ν ν ν ν ν (dN ν (aD (aC (au (aK (bg ν ν ?_))))))))
  all_goals exact b9 rfl rfl
 refine aX (aC (aF (aF ?_)))
 rw [Bool.or_eq_false_iff, decide_eq_false_iff_not] at hc1
 obtain ⟨hs, hmany⟩ := Ko hc1.1
 have hn20 := hc1.2
 refine aA (cM ν (bU ν ν ν (bA ν (aD (aC (aV ?_))))))
 refine bf (fun (m : {m : Nat // ∀ l ∈ rs.take m, decide ((l.length : Int) > 10) = false}) => live [(1, Ty.int .i64 g), (2, Ty.sl eG rs), (3, Ty.pp (bL b)), (32, Ty.sl eG rs), (33, Ty.int .i64 rs.length), (34, Ty.int .i64 (m.1 : Nat))] []) (fun m => rs.length - m.1) (⟨0, by simp⟩) ?_ fun m => ?_
 ·exact bt
 refine aF (aA (ah ν ν ν (aD (aC (aF ?_)))))
 refine aU ν (fun hc2 => ?_) (fun hc2 => ?_)
 ·refine aX (aC (aF (aV (aF (aA (af ν ν ν ν ν ν aE (aJ ν ν ν ν (iX ν (aD (aC (aF (aA (cM ν (bU ν ν ν (ah ν ν ν (aD (aC ?_)))))))))))))))))
  refine aU ν (fun hc3 => ?_) (fun hc3 => ?_)
  ·refine aF (aA (aa (je) ν ν ν ν ν (dN ν (aD (aC (au (aZ (aK (aK (aZ (aK (bg ν ν ?_))))))))))))
   all_goals exact b9 rfl rfl
  refine aX (bE (aC (aA (bY ν ν aE aE (bA ν (aD ?_))))))
  refine bG (⟨m.1 + 1, gJ m.2 aE (decide_eq_false hc3)⟩) ?_ (by show rs.length - (m.1 + 1) < rs.length - m.1; omega)
  exact bt
 refine bQ (aI (aI (aS ν (aC (aF ?_)))))
 have hr10 : ∀ l ∈ rs, l.length ≤ 10 := fun l hl => by have h := m.2 l K7; rw [decide_eq_false_iff_not] at h; omega
 have hrL : ∀ l ∈ rs, l.length ≤ 400000000 := fun l hl => by have := hr10 l hl; omega
 refine cH mixed ν (aY ν ν ν aP (aa (H7 b hs) ν ν ν ν ν (aY ν ν ν aP (aa (rU b hs) ν ν ν ν ν (cM ν ?_)))))
 refine aa (GJ rs aE (fun x hx => by have := hr10 x hx; omega)) ν ν ν ν ν ?_
 refine bZ ν bW ν (bZ ν bW ν (bK ν ν aB ν ν ν ν ν ν (bK ν ν aB ν ν ν ν ν ν (iX ν (aD ?_)))))
 refine ⟨by kernel_rfl, ?_⟩
 refine aC (aF (aA (aW ν ν aB ν ν aP (aa (p5 b hs) ν ν ν ν ν (bS ν (aD (aC ?_)))))))
 refine l8 (J := live [(1, Ty.int .i64 g), (2, Ty.sl eG rs), (3, Ty.pp (bL b)), (9, Ty.ptr 10 0), (10, Ty.ptr 11 0), (11, Ty.sl eG rs), (12, Ty.int .i64 (hH b g))] [(10, Cont.cells 25 (bL b)), (11, Cont.cells 33 (bL b))]) ?_ ?_
 ·refine aF ?_
  refine fK (s := 12) ν (Ty.bO (check_eq b)) ?_
  refine aA (bA ν (ah ν ν ν (dm ν ?_)))
  refine bT 53 ν (fun hg => aH (bA ν (aD ν))) ?_
  refine bT 53 ν (fun hg => cJ 54 hg ν (aH (ah ν ν ν (aD ν)))) ?_
  refine bT 53 ν (fun hg => cJ 55 hg ν (aH (dm ν (aD ν)))) ?_
  refine gi 56 ν (fun hg1 hg2 => aH (bA ν (aD ν))) ?_
  refine gi 56 ν (fun hg1 hg2 => jS 57 hg1 hg2 ν (aH (ah ν ν ν (aD ν)))) ?_
  refine bT 53 ν (by intro hg; apply bV (s := 56) ν dF; apply fW (s := 58) ν dF; apply aH; (refine eJ ν ν ?_); refine aD ?_; exact ν) ?_
  refine dA ν ν (aD (aC ?_))
  refine cI ν (fun hc4 => ?_) (fun hc4 => ?_)
  ·refine aA (bS ν (aD (fB ?_)))
   (refine dw.mk' ?_ ?_ <;> (repeat' (first | exact aQ | exact aR | refine aG ?_ (Ty.bC _) | refine aG ?_ (Ty.aM _) | refine aL rfl (Cont.aM _) ?_ | refine aG ?_ ?_)))
   all_goals exact Ty.bO (RR hc4)
  refine aX (fB ?_)
  (refine dw.mk' ?_ ?_ <;> (repeat' (first | exact aQ | exact aR | refine aG ?_ (Ty.bC _) | refine aG ?_ (Ty.aM _) | refine aL rfl (Cont.aM _) ?_ | refine aG ?_ ?_)))
  all_goals exact Ty.bO (Qa hc4)
 refine aF (aA (bA ν (bS ν (bS ν (dN ν (aD (aC ?_)))))))
 refine l8 (J := live [(1, Ty.int .i64 g), (2, Ty.sl eG rs), (3, Ty.pp (bL b)), (9, Ty.ptr 10 0), (10, Ty.ptr 11 0), (11, Ty.sl eG rs), (12, Ty.int .i64 (ew b g)), (13, Ty.int .i64 (j3 b g rs).2), (14, Ty.int .i64 (dV b g).length), (15, Ty.bool (j3 b g rs).1)] [(10, Cont.cells 25 (bL b)), (11, Cont.cells 33 (bL b))]) ?_ ?_
 ·refine aF (aA (bA ν (ah ν ν ν (aD (aC ?_)))))
  refine aU ν (fun hc5 => ?_) (fun hc5 => ?_)
  ·refine aF (aF ?_)
   obtain ⟨h0, hg⟩ := kT hc5
   have hr := c8 h0
   refine aA (aW ν ν aB ν ν aP (bA ν (aa (Ky b hr g hg) ν ν ν ν ν (bS ν (aD (aC (aF (aA (bA ν (ah ν ν ν (aD (aC ?_))))))))))))
   refine aU ν (fun hc6 => ?_) (fun hc6 => ?_)
   ·refine aA (bS ν (bS ν (aD (aC (cH mixed ν (aW ν ν aB ν ν aP (bA ν (cM ν (aa (GS rs aE hrL) ν ν ν ν ν (aa (za b hr g hc5 rs hrL) ν ν ν ν ν (ke ν (aj ν ν (aj ν ν (dN ν (bS ν (aD ?_))))))))))))))))
    refine ⟨by kernel_rfl, ?_⟩
    refine fB ?_
    (refine dw.mk' ?_ ?_ <;> (repeat' (first | exact aQ | exact aR | refine aG ?_ (Ty.bC _) | refine aG ?_ (Ty.aM _) | refine aL rfl (Cont.aM _) ?_ | refine aG ?_ ?_)))
    all_goals first | exact Ty.bO (Hp hc5 hc6).1 | exact Ty.bO (Hp hc5 hc6).2
   refine aX (aC (cH mixed ν (aW ν ν aB ν ν aP (bA ν (cM ν (aa (GS rs aE hrL) ν ν ν ν ν (aa (za b hr g hc5 rs hrL) ν ν ν ν ν (ke ν (aj ν ν (aj ν ν (dN ν (bS ν (aD ?_)))))))))))))
   refine ⟨by kernel_rfl, ?_⟩
   refine fB ?_
   (refine dw.mk' ?_ ?_ <;> (repeat' (first | exact aQ | exact aR | refine aG ?_ (Ty.bC _) | refine aG ?_ (Ty.aM _) | refine aL rfl (Cont.aM _) ?_ | refine aG ?_ ?_)))
   all_goals first | exact Ty.bO (HW hc5 hc6).1 | exact Ty.bO (HW hc5 hc6).2
  refine aX (fB ?_)
  (refine dw.mk' ?_ ?_ <;> (repeat' (first | exact aQ | exact aR | refine aG ?_ (Ty.bC _) | refine aG ?_ (Ty.aM _) | refine aL rfl (Cont.aM _) ?_ | refine aG ?_ ?_)))
  all_goals first | exact Ty.bO (C0 (rs := rs) hc5).1 | exact Ty.bO (C0 (rs := rs) hc5).2.1 | exact Ty.bO (C0 (rs := rs) hc5).2.2.1 | exact Ty.jv (C0 (rs := rs) hc5).2.2.2
 refine aF (aA (aW ν ν aB ν ν aP (bA ν (aa (Ei b hs g) ν ν ν ν ν (ke ν (aj ν ν (aj ν ν (iX ν (bS ν (aD (aC (aF (aA (aW ν ν aB ν ν aP (bA ν (aa (Gv b hs g) ν ν ν ν ν (ke ν (aj ν ν (aj ν ν (bS ν (bS ν (aD (aC ?_)))))))))))))))))))))))
 refine aF (aA (aW ν ν aB ν ν aP (bA ν (cM ν (aa (Nu b hs g rs hrL) ν ν ν ν ν (ke ν (aj ν ν (aj ν ν (dN ν (bS ν (aD (aC (aF (aF (aA (bA ν (bA ν (ah ν ν ν (dm ν ?_)))))))))))))))))))
 refine bT 99 ν (fun hg => aH (bA ν (aD ν))) ?_
 refine bT 99 ν (fun hg => aH (bA ν (aD ν))) ?_
 refine bT 99 ν (fun hg => cJ 100 hg ν (cJ 101 hg ν (aH (ah ν ν ν (aD ν))))) ?_
 refine eJ ν ν (dm ν ?_)
 refine bT 104 ν (fun hg => aH (bA ν (aD ν))) ?_
 refine bT 104 ν (fun hg => aH (bA ν (aD ν))) ?_
 refine bT 104 ν (fun hg => cJ 105 hg ν (cJ 106 hg ν (aH (ah ν ν ν (aD ν))))) ?_
 refine eJ ν ν (dm ν ?_)
 refine bT 109 ν (fun hg => aH (cM ν (aD ν))) ?_
 refine bT 109 ν (fun hg => cJ 110 hg ν (aH (bU ν ν ν (aD ν)))) ?_
 refine bT 109 ν (fun hg => aH (bA ν (aD ν))) ?_
 refine bT 109 ν (fun hg => cJ 111 hg ν (cJ 112 hg ν (aH (ah ν ν ν (aD ν))))) ?_
 refine eJ ν ν (dm ν ?_)
 refine bT 115 ν (fun hg => aH (bA ν (aD ν))) ?_
 refine bT 115 ν (fun hg => aH (bA ν (aD ν))) ?_
 refine bT 115 ν (fun hg => cJ 116 hg ν (cJ 117 hg ν (aH (ah ν ν ν (aD ν))))) ?_
 refine eJ ν ν (dm ν ?_)
 refine bT 120 ν (fun hg => aH (dm ν (aD ν))) ?_
 refine bT 120 ν (fun hg => aH (dm ν (aD ν))) ?_
 refine bT 120 ν (fun hg => cJ 121 hg ν (cJ 122 hg ν (aH (xq N0 ν ν (aD ν))))) ?_
 refine eJ ν ν (aD (aC (eP ν bB (aX (aC (aF (aF (aA (bA ν (ah ν ν ν (aD (aC ?_))))))))))))
 refine aU ν (fun hc8 => ?_) (fun hc8 => ?_)
 ·refine aF ?_
  have ha := Kj hc8
  obtain ⟨h0, hg⟩ := kT ha
  have hr := c8 h0
  obtain ⟨hv1, hv2, hv3⟩ := Jz hmany hc8
  have hvL : ∀ l ∈ dV b g, l.length ≤ 400000000 := fun l hl => by have := hv2 l hl; omega
  refine cH mixed ν (aW ν ν aB ν ν aP (bA ν (cM ν (aa (GS (dV b g) aE hvL) ν ν ν ν ν (aa (za b hr g ha (dV b g) hvL) ν ν ν ν ν (ke ν (aj ν ν (aj ν ν (dN ν (bS ν (aD ?_)))))))))))
  refine ⟨by kernel_rfl, ?_⟩
  refine aC (aF ?_)
  refine fK (s := 22) ν (Ty.jv (congrArg Prod.fst hv3)) ?_
  refine fK (s := 23) ν (Ty.bO (congrArg Prod.snd hv3)) ?_
  refine aA (bA ν (ah ν ν ν (dm ν ?_)))
  refine bT 137 ν (fun hg => aH (dm ν (aD ν))) ?_
  refine bT 137 ν (fun hg => cJ 138 hg ν (aH (dW ν (aD ν)))) ?_
  refine eJ ν ν (aD (aC (eP ν (ν) (aX (aC (aF (aA (aW ν ν aB ν ν aP (aY ν ν ν aP (aa (rY b b) ν ν ν ν ν (dm ν ?_)))))))))))
  refine bT 144 ν (fun hg => aH (cM ν (aD ν))) ?_
  refine bT 144 ν (fun hg => aH (cM ν (aD ν))) ?_
  refine bT 144 ν (fun hg => cJ 145 hg ν (cJ 146 hg ν (aH (aa (BH rs rs) ν ν ν ν ν (aD ν))))) ?_
  refine dA ν ν (dm ν ?_)
  refine bT 149 ν (fun hg => aH (aa (je) ν ν ν ν ν (aD ν))) ?_
  refine dA ν ν (dN ν (aD (aC (au (bg ν ν ?_)))))
  all_goals exact av rfl rfl (congrArg Ty.bool O9)
 refine aX (aC (aF (aA (aW ν ν aB ν ν aP (aY ν ν ν aP (aa (rY b b) ν ν ν ν ν (dm ν ?_)))))))
 refine bT 144 ν (fun hg => aH (cM ν (aD ν))) ?_
 refine bT 144 ν (fun hg => aH (cM ν (aD ν))) ?_
 refine bT 144 ν (fun hg => cJ 145 hg ν (cJ 146 hg ν (aH (aa (BH rs rs) ν ν ν ν ν (aD ν))))) ?_
 refine dA ν ν (dm ν ?_)
 refine bT 149 ν (fun hg => aH (aa (je) ν ν ν ν ν (aD ν))) ?_
 refine dA ν ν (dN ν (aD (aC (au (bg ν ν ?_)))))
 all_goals exact av rfl rfl (congrArg Ty.bool O9)
end Go.Proofs.YtpnndljmhpepgaaGreat
namespace Go.Proofs.YtpnndljmhpepgaaGreat
open Go Go.T
set_option maxRecDepth 100000
set_option maxHeartbeats 1000000
def iD (s t : Nat) (b : aT) : List Ty := [Ty.vs s b.sizes.length, Ty.vs t b.aO.length]
theorem F7 (x : oF) : ∀ t ∈ cZ.tys x, t.Plain := tJ (mz _ _) (tJ (mz _ _) (tJ (mz _ _) I5))
theorem rN {A : As} {L : List Nat} {s t : Nat} {b : aT} (h1 : A.tag s = some (.vec cL 3 b.sizes)) (h2 : A.tag t = some (.vec cZ 58 b.aO)) (hs : fR s) (ht : fR t) (hL1 : L.contains s = true) (hL2 : L.contains t = true) : zX A L (Ty.agg (iD s t b)) (cU b) :=
 wZ (c9 (rW h1 rfl hs hL1) (c9 (rW h2 rfl ht hL2) gN))
theorem sF {L : List Nat} {s t : Nat} {x : aT} (h : x = tX) : mO L (Ty.agg [Ty.ex (.slice none 0 0), Ty.ex (.slice none 0 0)]) (Ty.agg (iD s t x)) := by
 subst h; exact e8 (jK (cV (cV fT zb) zb))
theorem GD {x b : aT} {t : bX} (h : x = ⟨b.sizes, fU b t⟩) : mO [1000, 1001, 41] (Ty.agg [Ty.vs 1000 b.sizes.length, Ty.vs 41 b.aO.length]) (Ty.agg (iD 1000 41 x)) := by
 subst h
 have e : (fU b t).length = b.aO.length := by unfold fU; exact List.length_set
 show mO _ _ (Ty.agg [Ty.vs 1000 b.sizes.length, Ty.vs 41 (fU b t).length])
 rw [e]
 exact e8 (jK (cV (cV fT (kO aB)) (kO aB)))
theorem P0 {x b : aT} (h : x = b) : mO [50, 51] (Ty.agg (iD 50 51 b)) (Ty.agg (iD 50 51 x)) := by
 subst h; exact e8 (jK (cV (cV fT (kO aB)) (kO aB)))
theorem Fm {L : List Nat} {α : Type} {E : El α} {xs : List α} (h : xs = []) : mO L (Ty.ex (.slice none 0 0)) (Ty.sl E xs) := by
 subst h; exact fun w M v _ hs => Ty.nv w (pI L M) v hs
attribute [local irreducible] bu bz aT.free aT.hold aT.bN aT.bin bH
attribute [local irreducible] iL fu pJ r9 jY jQ jL jI jT rF jJ q5 dy g6 q2 g7 r8 nth fS dG ay dO bodyPost Exit.then Exit.inBlock Code.wp Code.wpIn fy rS rB rq rL jU r5 fG iT qd cT cX bodyPostM eE
theorem KN (b : aT) (hs : b.Small) (t : bX) : fG Tryz.prog 126 [1000, 1001] [(1000, Cont.vec cL 3 b.sizes), (1001, Cont.vec cZ 58 b.aO)] [Ty.agg (iD 1000 1001 b), Ty.agg (bq.tys t)] [(1000, Cont.vec cL 3 b.sizes), (1001, Cont.vec cZ 58 b.aO), (41, Cont.vec cZ 58 (bu b t).1.aO)] (Ty.iF [Ty.agg (iD 1000 41 (bu b t).1), Ty.int .i64 (bu b t).2]) := by
 refine ej Tryz.func126 ν aB Tryz.ntmps126 aP fun w0 M0 => ?_
 refine aF (aA (bF ν (bF ν (bZ ν bW ν (bS ν (aD (aC (aF (aV (aF (aA (aY ν ν ν aP (aN ν ν ν ν ν aB (aJ ν ν ν ν ?_))))))))))))))
 refine kL [1000, 1001] (EC b hs t.bN) ν (c9 (rN (s := 1000) (t := 1001) ν ν aB aB ν ν) (c9 (jV (jP ν ν)) gN)) o9 ?_
 refine dW ν (dm ν ?_)
 refine bT 13 ν (fun hg => aH (aY ν ν ν aP (aD ν))) ?_
 refine bT 13 ν (fun hg => aH (aN ν ν ν ν ν aB (aD ν))) ?_
 refine bT 13 ν (fun hg => cJ 15 hg ν (aH (aJ ν ν ν ν (aD ν)))) ?_
 refine bT 13 ν (by intro hg; apply bV (s := 14) ν dF; apply bV (s := 16) ν dF; apply aH; (refine kL [1000, 1001] (DF b hs t.aim) ν (c9 (rN (s := 1000) (t := 1001) ν ν aB aB ν ν) (c9 (jV (jP ν ν)) gN)) o9 ?_); refine aD ?_; exact ν) ?_
 refine bT 13 ν (fun hg => cJ 17 hg ν (aH (dW ν (aD ν)))) ?_
 refine eJ ν ν (dN ν (aD (aC ?_)))
 refine cI ν (fun hc1 => ?_) (fun hc1 => ?_)
 ·refine aF ?_
  refine oA (E := cZ) 58 41 ?_
  refine aA (cC ν ν bW ν kf eU ?_)
  refine bK ν ν aB ν ν ν ν ν ν (bS ν (aD (aC (au (aZ (aK ?_))))))
  refine lX [1000, 1001, 41] ν ν ν ν ν aB ν ν ν aB ?_ ?_ ?_
  ·exact eS rfl (dP aB rfl) (eS rfl (dP aB rfl) (eS rfl (dP aB (congrArg (fun x => x.1.aO) (nS hc1)).symm) jt))
  all_goals first | exact sF (congrArg Prod.fst (nS hc1)) | exact e8 (mB rfl rfl (congrArg (fun z : aT × Int => Ty.int .i64 z.2) (nS hc1).symm))
 refine aF (aA (aY ν ν ν aP (aN ν ν ν ν ν aB (aJ ν ν ν ν ?_))))
 refine kL [1000, 1001] (GQ b t.aim) ν (c9 (rN (s := 1000) (t := 1001) ν ν aB aB ν ν) (c9 (jV (jP ν ν)) gN)) o9 ?_
 refine dW ν (dN ν (aD (aC ?_)))
 refine cI ν (fun hc2 => ?_) (fun hc2 => ?_)
 ·refine aF ?_
  refine oA (E := cZ) 58 41 ?_
  refine aA (cC ν ν bW ν kf eU ?_)
  refine bK ν ν aB ν ν ν ν ν ν (bS ν (aD (aC (au (aZ (aK ?_))))))
  refine lX [1000, 1001, 41] ν ν ν ν ν aB ν ν ν aB ?_ ?_ ?_
  ·exact eS rfl (dP aB rfl) (eS rfl (dP aB rfl) (eS rfl (dP aB (congrArg (fun x => x.1.aO) (nM hc1 (oL hc2))).symm) jt))
  all_goals first | exact sF (congrArg Prod.fst (nM hc1 (oL hc2))) | exact e8 (mB rfl rfl (congrArg (fun z : aT × Int => Ty.int .i64 z.2) (nM hc1 (oL hc2)).symm))
 refine aF ?_
 have hkn := pS hc1
 have hs1 := hs.aO
 refine aA (aY ν ν ν aP (aN ν ν ν ν ν aB (aJ ν ν ν ν (aN ν ν ν ν ν aB (aJ ν ν ν ν ?_)))))
 refine kL [1000, 1001] (oN b t.aim t.bN hkn.2 hkn.1) ν (c9 (rN (s := 1000) (t := 1001) ν ν aB aB ν ν) (c9 (jV (jP ν ν)) (c9 (jV (jP ν ν)) gN))) o9 ?_
 refine dW ν (dN ν (aD (aC ?_)))
 refine cI ν (fun hc3 => ?_) (fun hc3 => ?_)
 ·refine aF ?_
  refine oA (E := cZ) 58 41 ?_
  refine aA (cC ν ν bW ν kf eU ?_)
  refine bK ν ν aB ν ν ν ν ν ν (bS ν (aD (aC (au (aZ (aK ?_))))))
  refine lX [1000, 1001, 41] ν ν ν ν ν aB ν ν ν aB ?_ ?_ ?_
  ·exact eS rfl (dP aB rfl) (eS rfl (dP aB rfl) (eS rfl (dP aB (congrArg (fun x => x.1.aO) (n8 hc1 (dg hc2) (oL hc3))).symm) jt))
  all_goals first | exact sF (congrArg Prod.fst (n8 hc1 (dg hc2) (oL hc3))) | exact e8 (mB rfl rfl (congrArg (fun z : aT × Int => Ty.int .i64 z.2) (n8 hc1 (dg hc2) (oL hc3)).symm))
 refine aX (bE (aC (aF ?_)))
 have hkn := pS hc1
 have hs1 := hs.aO
 refine aA (aN ν ν ν ν ν aB (aJ ν ν ν ν (yj ν ν ν ?_)))
 refine xd (E := cZ) (x0 := ⟨0, 0, 0⟩) ν ν ν ν ν ν ν aB ν aE l5 aE ?_
 refine Pe ν (aD (aC (aF (aA (vZ ν (aN ν ν ν ν ν aB (aJ ν ν ν ν ?_)))))))
 refine L9 [1001] (E := cZ) (ys := b.aO) ν ν (rW ν ν aB ν) F7 ν aB ν ν ν ν bB aE ?_
 refine aD (aC (aF ?_))
 refine kr (tg := 41) rfl (Cont.jB (show b.aO ++ List.drop b.aO.length (List.replicate ((b.aO.length : Int)).toNat (⟨0, 0, 0⟩ : oF)) = b.aO by rw [List.drop_of_length_le bB, List.append_nil])) ?_
 refine aA (vZ ν (aN ν ν ν ν ν aB (aJ ν ν ν ν (aN ν ν ν ν ν aB (aJ ν ν ν ν (eZ ν ν ν ν ν hkn.1.1 aE (ak ν ν ν ν ν aB ?_)))))))
 refine kU (E := cZ) (z := ⟨(nth b.aO t.bN.toNat).bh, t.aim, (nth b.aO t.bN.toNat).aim⟩) ν ν ν aB ν ν gR ν aE aB ν ν ?_
 refine aD (aC (aF (aA (aN ν ν ν ν ν aB (aJ ν ν ν ν (vZ ν (cC ν ν bW ν Qv eU ?_)))))))
 refine bK ν ν aB ν ν ν ν ν ν (bS ν (aD (aC (au ?_))))
 refine lX [1000, 1001, 41] ν ν ν ν ν aB ν ν ν aB ?_ ?_ ?_
 ·exact eS rfl (dP aB rfl) (eS rfl (dP aB rfl) (eS rfl (dP aB (congrArg (fun x => x.1.aO) (lS hc1 (dg hc2) (dg hc3))).symm) jt))
 all_goals first | exact GD (congrArg Prod.fst (lS hc1 (dg hc2) (dg hc3))) | exact e8 (mB rfl rfl (congrArg (fun z : aT × Int => Ty.int .i64 z.2) (lS hc1 (dg hc2) (dg hc3)).symm))
theorem PN (b : aT) (hs : b.Small) (plan : List bX) (hp : plan.length ≤ 1000000) : fG Tryz.prog 89 [] [] [cU b, Ty.sl bq plan] [(50, Cont.vec cL 3 (bz b plan).1.sizes), (51, Cont.vec cZ 58 (bz b plan).1.aO)] (Ty.iF [Ty.agg (iD 50 51 (bz b plan).1), Ty.sl bq (bz b plan).2.1, Ty.int .i64 (bz b plan).2.2]) := by
 refine ej Tryz.func89 ν aB Tryz.ntmps89 aP fun w0 M0 => ?_
 have hs1 := hs.aO
 have hs2 := hs.sizes
 refine aF (aA (bF ν (bZ ν bW ν (fm ν (bS ν (aD (aC (aF (aF (aA (aY ν ν ν aP (aa (jC b hs) ν ν ν ν ν (bS ν (aD (aC (aF (aA (bA ν (ah ν ν ν (aD (aC ?_)))))))))))))))))))))
 refine bw ν (fun hc1 => ?_) (fun hc1 => ?_)
 ·refine aF ?_
  refine oA (E := cL) 3 50 ?_
  refine oA (E := cZ) 58 51 ?_
  refine aA (cC ν ν bW ν kf eU ?_)
  refine bA ν (bK ν ν aB ν ν ν ν ν ν (fm ν (bS ν (aD (aC (au (aK ?_)))))))
  refine vF [50, 51] ν ν ν ν ν ν aB ν ν ν aB ?_ ?_ ?_ ?_
  ·exact eS rfl (dP aB (congrArg (fun x => x.1.sizes) (gM hc1)).symm) (eS rfl (dP aB (congrArg (fun x => x.1.aO) (gM hc1)).symm) jt)
  all_goals first | exact sF (congrArg Prod.fst (gM hc1)) | exact Fm (congrArg (fun z : aT × List bX × Int => z.2.1) (gM hc1)) | exact e8 (mB rfl rfl (congrArg (fun z : aT × List bX × Int => Ty.int .i64 z.2.2) (gM hc1).symm))
 refine aX (aC (aF (aF (aA (cM ν (bU ν ν ν (ah ν ν ν (aD (aC ?_)))))))))
 refine aU ν (fun hc2 => ?_) (fun hc2 => ?_)
 ·refine aF ?_
  refine oA (E := cL) 3 50 ?_
  refine oA (E := cZ) 58 51 ?_
  refine aA (cC ν ν bW ν kf eU ?_)
  refine bK ν ν aB ν ν ν ν ν ν (fm ν (bS ν (aD (aC (au (aK ?_))))))
  refine vF [50, 51] ν ν ν ν ν ν aB ν ν ν aB ?_ ?_ ?_ ?_
  ·exact eS rfl (dP aB (congrArg (fun x => x.1.sizes) (fC hc1 hc2)).symm) (eS rfl (dP aB (congrArg (fun x => x.1.aO) (fC hc1 hc2)).symm) jt)
  all_goals first | exact sF (congrArg Prod.fst (fC hc1 hc2)) | exact Fm (congrArg (fun z : aT × List bX × Int => z.2.1) (fC hc1 hc2)) | exact e8 (mB rfl rfl (congrArg (fun z : aT × List bX × Int => Ty.int .i64 z.2.2) (fC hc1 hc2).symm))
 refine aX (aC (aF (aA (fm ν (aD (aC (aF (cH mixed ν (aN ν ν ν ν ν aB (aJ ν ν ν ν (fM [(50, 6)] [50] [] (wq b.sizes aE) ν ν n9 pre_nil post_nil (fD gU) ?_)))))))))))
 refine aN ν ν ν ν ν aB (aJ ν ν ν ν (fM [(51, 6)] [51] [] (wv b.aO aE) ν ν n9 pre_nil post_nil (fD gU) ?_))
 refine cC ν ν bW ν PS eU ?_
 refine bZ ν bW ν (bK ν ν aB ν ν ν ν ν ν (aD ?_))
 refine ⟨by kernel_rfl, ?_⟩
 refine aC (aF (aF ?_))
 refine nD (c0 := 10) 0 ν ν ?_
 refine nD (c0 := 10) 1 ν ν ?_
 refine kr (tg := 10) rfl (Cont.lK (l' := iD 50 51 b) ⟨Ty.td rfl, Ty.td rfl, trivial⟩) ?_
 refine cK (B := live [(1, Ty.sl bq plan), (4, Ty.ptr 5 0), (8, Ty.ex (.slice none 0 0)), (9, Ty.ptr 10 0)] [(5, Cont.cells 25 [Ty.ex (.slice none 0 0), Ty.ex (.slice none 0 0)]), (10, Cont.cells 25 (iD 50 51 b)), (50, Cont.vec cL 3 b.sizes), (51, Cont.vec cZ 58 b.aO)]) ?_ ?_
 ·exact dK
 refine aA (cM ν (bU ν ν ν (bA ν (aD (aC (aV ?_))))))
 refine bf (fun (x : {x : Nat × aT × List bX // Me b plan x.1 x.2.1 x.2.2}) => live [(4, Ty.ptr 5 0), (8, Ty.row bq 37 60 x.1.2.2), (9, Ty.ptr 10 0), (31, Ty.sl bq plan), (32, Ty.int .i64 plan.length), (33, Ty.int .i64 (x.1.1 : Nat))] [(5, Cont.cells 25 [Ty.ex (.slice none 0 0), Ty.ex (.slice none 0 0)]), (10, Cont.cells 25 (iD 50 51 x.1.2.1)), (50, Cont.vec cL 3 x.1.2.1.sizes), (51, Cont.vec cZ 58 x.1.2.1.aO)]) (fun x => plan.length - x.1.1) (⟨(0, b, []), PV b plan⟩) ?_ fun x => ?_
 ·exact BD
 have hxl := x.2.len
 have hxe := x.2.le
 refine aF (aA (ah ν ν ν (aD (aC (aF ?_)))))
 refine aU ν (fun hc3 => ?_) (fun hc3 => ?_)
 ·refine aX (aC (aF (aV (aF (aA (af ν ν ν ν ν ν aE (aY ν ν ν aP (bZ ν bW ν ?_))))))))
  refine bK ν ν aB ν ν ν ν ν ν (aD (aC (aF (aA (aW ν ν aB ν ν aP (aW ν ν aB ν ν aP ?_))))))
  refine fM (res' := Ty.iF [Ty.agg (iD 50 52 (bu x.1.2.1 (nth plan x.1.1)).1), Ty.int .i64 (bu x.1.2.1 (nth plan x.1.1)).2]) [(50, 1000), (51, 1001), (52, 41)] [52] [(50, Cont.vec cL 3 x.1.2.1.sizes), (51, Cont.vec cZ 58 x.1.2.1.aO), (52, Cont.vec cZ 58 (bu x.1.2.1 (nth plan x.1.1)).1.aO)] (KN x.1.2.1 (x.2.small hs) (nth plan x.1.1)) ν ν (cV (cV fT (iC ν ν)) (jK (cV (cV fT (kO aB)) (kO aB)))) (lf (a := 50) (b := 1000) aB ν (dP aB ν) (lf (a := 51) (b := 1001) aB ν (dP aB ν) pre_nil)) (gj (a := 50) (b := 1000) aB ν (dP aB ν) (gj (a := 51) (b := 1001) aB ν (dP aB ν) (gj (a := 52) (b := 41) aB ν (dP aB ν) post_nil))) (va (cV (cV fT (iC ν ν)) (jK (cV (cV fT (kO aB)) (kO aB))))) ?_
  refine ke ν (aj ν ν (aj ν ν (bZ ν bW ν (bK ν ν aB ν ν ν ν ν ν (bS ν (aD (aC (aF (aF ?_)))))))))
  refine cK (B := live [(4, Ty.ptr 5 0), (8, Ty.row bq 37 60 x.1.2.2), (9, Ty.ptr 10 0), (11, Ty.ptr 12 0), (12, Ty.ptr 13 0), (13, Ty.int .i64 (bu x.1.2.1 (nth plan x.1.1)).2), (31, Ty.sl bq plan), (32, Ty.int .i64 plan.length), (33, Ty.int .i64 (x.1.1 : Nat))] [(5, Cont.cells 25 [Ty.ex (.slice none 0 0), Ty.ex (.slice none 0 0)]), (10, Cont.cells 25 (iD 50 51 x.1.2.1)), (12, Cont.cells 37 (bq.tys (nth plan x.1.1))), (13, Cont.cells 25 (iD 50 52 (bu x.1.2.1 (nth plan x.1.1)).1)), (50, Cont.vec cL 3 x.1.2.1.sizes), (51, Cont.vec cZ 58 x.1.2.1.aO), (52, Cont.vec cZ 58 (bu x.1.2.1 (nth plan x.1.1)).1.aO)]) ?_ ?_
  ·exact dK
  refine aA (bA ν (ah ν ν ν (aD (aC ?_))))
  refine bw ν (fun hc4 => ?_) (fun hc4 => ?_)
  ·refine aF ?_
   refine oA (E := cL) 3 50 ?_
   refine oA (E := cZ) 58 51 ?_
   refine aA (cC ν ν bW ν kf eU ?_)
   refine bA ν (bK ν ν aB ν ν ν ν ν ν (fm ν (bS ν (aD (aC (au (aK (aZ (aK (aK (aZ (aK ?_))))))))))))
   refine vF [50, 51] ν ν ν ν ν ν aB ν ν ν aB ?_ ?_ ?_ ?_
   ·exact eS rfl (dP aB (congrArg (fun x => x.1.sizes) (eB hc1 hc2 (x.2.stop aE hc4))).symm) (eS rfl (dP aB (congrArg (fun x => x.1.aO) (eB hc1 hc2 (x.2.stop aE hc4))).symm) jt)
   all_goals first | exact sF (congrArg Prod.fst (eB hc1 hc2 (x.2.stop aE hc4))) | exact Fm (congrArg (fun z : aT × List bX × Int => z.2.1) (eB hc1 hc2 (x.2.stop aE hc4))) | exact e8 (mB rfl rfl (congrArg (fun z : aT × List bX × Int => Ty.int .i64 z.2.2) (eB hc1 hc2 (x.2.stop aE hc4)).symm))
  refine aX (aC (aF ?_))
  obtain ⟨hk1, hk2, hk3, hk4, hk5⟩ := lI hc4
  refine cH mixed ν (iy ν (ak ν ν ν ν ν aB (aq ν ν aB ν ν ν (ak ν ν ν ν ν aB (aq ν ν aB ν ν ν (ak ν ν ν ν ν aB (aq ν ν aB ν ν ν (eZ ν ν ν ν ν hk1.1 aE (ak ν ν ν ν ν aB (ED ν ν ν aB ν ν aE ν (cC ν ν bW ν dn eU ?_)))))))))))
  refine bD (E := bq) (xs := [⟨(nth plan x.1.1).bN, (nth x.1.2.1.aO (nth plan x.1.1).bN.toNat).inn⟩]) ν ν ν ν ν aB aB mH bn ν ?_
  refine cG ν ν aB ν ν ν ν ν ν aB bp bp (iY ν (aD ?_))
  refine ⟨by kernel_rfl, ?_⟩
  refine aC (aA (aW ν ν aB ν ν aP ?_))
  refine bK ν ν aB ν ν ν ν ν ν (aD (bE (aC ?_)))
  refine cK (B := live [(4, Ty.ptr 5 0), (8, Ty.row bq 37 60 (x.1.2.2 ++ [⟨(nth plan x.1.1).bN, (nth x.1.2.1.aO (nth plan x.1.1).bN.toNat).inn⟩])), (9, Ty.ptr 10 0), (31, Ty.sl bq plan), (32, Ty.int .i64 plan.length), (33, Ty.int .i64 (x.1.1 : Nat))] [(5, Cont.cells 25 [Ty.ex (.slice none 0 0), Ty.ex (.slice none 0 0)]), (10, Cont.cells 25 (iD 50 52 (bu x.1.2.1 (nth plan x.1.1)).1)), (50, Cont.vec cL 3 x.1.2.1.sizes), (52, Cont.vec cZ 58 (bu x.1.2.1 (nth plan x.1.1)).1.aO)]) ?_ ?_
  ·exact dK
  refine aA (bY ν ν aE aE (bA ν (aD ?_)))
  refine Kl 52 51 [(50, 50), (52, 51), (10, 10)] [] [(10, Cont.cells 25 (iD 50 51 (bu x.1.2.1 (nth plan x.1.1)).1)), (51, Cont.vec cZ 58 (bu x.1.2.1 (nth plan x.1.1)).1.aO)] aB aB ν ν ν trivial (lf (a := 10) (b := 10) aB ν (Ke aB (cV (cV fT (kO aB)) (kO aB))) (lf (a := 52) (b := 51) aB ν (dP aB ν) pre_nil)) ?_
  refine bG (⟨(x.1.1 + 1, (bu x.1.2.1 (nth plan x.1.1)).1, x.1.2.2 ++ [⟨(nth plan x.1.1).bN, (nth x.1.2.1.aO (nth plan x.1.1).bN.toNat).inn⟩]), x.2.next aE hc4⟩) ?_ Jp
  (refine dw.mk' ?_ ?_ <;> (repeat' (first | exact aQ | exact aR | refine aG ?_ (Ty.bC _) | refine aG ?_ (Ty.aM _) | refine aL rfl (Cont.aM _) ?_ | refine aL rfl ?_ ?_)))
  all_goals exact Cont.jB (congrArg aT.sizes hk5).symm
 refine bQ (aI (aI (aS ν (aC (aF ?_)))))
 refine zq (s := 8) ν ν ?_
 refine aA (vZ ν ?_)
 refine fM [(60, 1000)] [] [(60, Cont.vec bq 37 x.1.2.2.reverse)] (s6 x.1.2.2 aE) ν ν LC (lf (a := 60) (b := 1000) aB ν (dP aB ν) pre_nil) (gj (a := 60) (b := 1000) aB ν (dP aB ν) post_nil) (iC ν ν) ?_
 refine aD (aC (aF ?_))
 refine jA (tg := 60) [(8, Ty.sl bq x.1.2.2.reverse)] aB rfl ⟨l6 rfl rfl E8 aB, trivial⟩ ?_
 refine aA (aW ν ν aB ν ν aP (cM ν (bK ν ν aB ν ν ν ν ν ν (iX ν (bS ν (aD (aC (au ?_))))))))
 refine vF [50, 51] ν ν ν ν ν ν aB ν ν ν aB ?_ ?_ ?_ ?_
 ·exact eS rfl (dP aB (congrArg (fun x => x.1.sizes) (eB hc1 hc2 (x.2.end aE))).symm) (eS rfl (dP aB (congrArg (fun x => x.1.aO) (eB hc1 hc2 (x.2.end aE))).symm) jt)
 all_goals first | exact P0 (congrArg Prod.fst (eB hc1 hc2 (x.2.end aE))) | exact e8 (mB rfl rfl (congrArg (fun z : aT × List bX × Int => Ty.sl bq z.2.1) (eB hc1 hc2 (x.2.end aE)).symm)) | exact e8 (mB rfl rfl (congrArg (fun z : aT × List bX × Int => Ty.int .i64 z.2.2) (eB hc1 hc2 (x.2.end aE)).symm))
end Go.Proofs.YtpnndljmhpepgaaGreat
namespace Go.Proofs.YtpnndljmhpepgaaGreat
open Go Go.T
variable {b cur : aT} {plan : List bX}
structure Dl (b cur : aT) : Prop where
  sizes : cur.sizes = b.sizes
  len : cur.aO.length = b.aO.length
  bN : ∀ i, i < b.aO.length → (nth cur.aO i).bh = (nth b.aO i).bh ∧ (nth cur.aO i).aim = (nth b.aO i).aim
theorem JA (b : aT) : Dl b b := ⟨rfl, rfl, fun _ _ => ⟨rfl, rfl⟩⟩
theorem JN (h : Dl b cur) {t : bX} (h0 : (bu cur t).2 = 0) : Dl b (bu cur t).1 := by
 obtain ⟨h1, _, _, _, e⟩ := lI h0
 rw [e]
 refine ⟨h.sizes, by show (fU cur t).length = _; unfold fU; rw [List.length_set]; exact h.len, fun i hi => ?_⟩
 show (nth (fU cur t) i).bh = _ ∧ (nth (fU cur t) i).aim = _
 unfold fU
 rw [jE (by rw [h.len]; exact hi)]
 by_cases c : t.bN.toNat = i
 ·rw [if_pos c, ← c]
  have := h.bN t.bN.toNat aE
  exact this
 rw [if_neg c]; exact h.bN i hi
theorem Al : ∀ (l : List bX) {cur : aT} (back : List bX), Dl b cur → (e9 cur back l).2.2 = 0 → Dl b (e9 cur back l).1
  | [], _, _, h, _ => h
  | t :: l, cur, back, h, he => by
    have hd : e9 cur back (t :: l) = if (bu cur t).2 = 0 then e9 (bu cur t).1 (back ++ [⟨t.bN, (nth cur.aO t.bN.toNat).inn⟩]) l else (tX, [], (bu cur t).2) := rfl
    rw [hd] at he ⊢
    by_cases c : (bu cur t).2 = 0
    · rw [if_pos c] at he ⊢; exact Al l _ (JN h c) he
    · rw [if_neg c] at he; exact absurd he c
theorem Bp : ∀ (l : List bX) (cur : aT) (back : List bX), ¬ (e9 cur back l).2.2 = 0 → (e9 cur back l).1 = tX ∧ (e9 cur back l).2.1 = []
  | [], _, _, h => absurd rfl h
  | t :: l, cur, back, he => by
    have hd : e9 cur back (t :: l) = if (bu cur t).2 = 0 then e9 (bu cur t).1 (back ++ [⟨t.bN, (nth cur.aO t.bN.toNat).inn⟩]) l else (tX, [], (bu cur t).2) := rfl
    rw [hd] at he ⊢
    by_cases c : (bu cur t).2 = 0
    · rw [if_pos c] at he ⊢; exact Bp l _ _ he
    · rw [if_neg c]; exact ⟨rfl, rfl⟩
theorem OU (h : ¬ (bz b plan).2.2 = 0) : (bz b plan).1 = tX ∧ (bz b plan).2.1 = [] := by
 by_cases c : bH b = 0
 ·by_cases c2 : (plan.length : Int) > 6000
  ·rw [fC c c2]; exact ⟨rfl, rfl⟩
  rw [eB c c2 rfl] at h ⊢; exact Bp _ _ _ h
 rw [gM c]; exact ⟨rfl, rfl⟩
theorem Pr (h0 : bH b = 0) : (gW b plan).2.2.2 = (bz b plan).2.2 := by
 unfold gW
 by_cases c2 : (plan.length : Int) > 6000
 ·rw [if_pos c2, fC h0 c2]
 rw [if_neg c2, eB h0 c2 rfl]
 by_cases c : (e9 b [] plan).2.2 = 0
 ·rw [if_pos c, c]
 rw [if_neg c]
theorem OF (h0 : bH b = 0) : (gW b plan).2.1 = (bz b plan).2.1 := by
 unfold gW
 by_cases c2 : (plan.length : Int) > 6000
 ·rw [if_pos c2, fC h0 c2]
 rw [if_neg c2, eB h0 c2 rfl]
 by_cases c : (e9 b [] plan).2.2 = 0
 ·rw [if_pos c]
 rw [if_neg c]; exact (Bp _ _ _ c).2.symm
theorem P2 (h0 : bH b = 0) : (gW b plan).2.2.1 = (hG b plan).1 := by
 unfold gW hG
 by_cases c2 : (plan.length : Int) > 6000
 ·rw [if_pos c2, fC h0 c2]; rfl
 rw [if_neg c2, eB h0 c2 rfl]
 by_cases c : (e9 b [] plan).2.2 = 0
 ·rw [if_pos c, if_pos c]
 rw [if_neg c, if_neg c]
theorem OI (b : aT) (plan : List bX) : (hG b plan).2 = (bz b plan).2.2 := by
 unfold hG
 by_cases c : (bz b plan).2.2 = 0
 ·rw [if_pos c, c]
 rw [if_neg c]
theorem OO (h0 : bH b = 0) (he : (bz b plan).2.2 = 0) : (gW b plan).1 = dL (bz b plan).1 ∧ Dl b (bz b plan).1 := by
 unfold gW
 by_cases c2 : (plan.length : Int) > 6000
 ·rw [fC h0 c2] at he; cases he
 rw [eB h0 c2 rfl] at he
 rw [if_neg c2, eB h0 c2 rfl, if_pos he]
 exact ⟨rfl, Al _ _ (JA b) he⟩
theorem NB (hr : b.cQ) (h : Dl b cur) : gI b (dL cur) = Co cur := by
 have hl : (dL cur).length = cur.aO.length := by unfold dL; rw [List.length_map]
 unfold gI Co
 rw [Bool.eq_iff_iff, Bool.not_eq_true', List.any_eq_false, List.all_eq_true]
 have key : ∀ i, i < cur.aO.length → (¬ rH b (dL cur) i = true ↔ (decide ((nth cur.aO i).aim = -1) || decide ((nth cur.aO i).aim = (nth cur.aO i).inn)) = true) := fun i hi => by
  have hi' : i < b.aO.length := by rw [← h.len]; exact hi
  have ha := hr.aim _ (cD hi')
  rw [(h.bN i hi').2]
  unfold rH
  rw [yH hi]
  simp only [Bool.and_eq_true, Bool.not_eq_true', decide_eq_true_eq, decide_eq_false_iff_not, Bool.or_eq_true]
  constructor
  ·intro hn
   by_cases c : (nth b.aO i).aim = -1
   ·exact .inl c
   exact .inr (Classical.byContradiction fun e => hn ⟨by omega, e⟩)
  rintro (e | e) ⟨h1, h2⟩
  ·omega
  exact h2 e
 constructor
 ·intro hh x hx
  obtain ⟨i, hi, rfl⟩ := fP hx
  exact (key i hi).1 (hh i (List.mem_range.2 (by rw [hl]; exact hi)))
 intro hh i hi
 have hi := List.mem_range.1 hi
 rw [hl] at hi
 exact (key i hi).2 (hh _ (cD hi))
theorem MJ (h0 : bH b = 0) (he : (bz b plan).2.2 = 0) : gI b (dL (bz b plan).1) = iR b plan := by
 rw [NB (c8 h0) (OO h0 he).2]
 unfold iR
 rw [decide_eq_true he, Bool.true_and]
theorem AR (he : ¬ (bz b plan).2.2 = 0) : false = iR b plan := by
 unfold iR; rw [decide_eq_false he, Bool.false_and]
def mA (b : aT) (p : List Int) (k : Nat) : List oF := (List.range b.aO.length).map fun i => if i < k then ⟨(nth b.aO i).bh, nth p i, (nth b.aO i).aim⟩ else nth b.aO i
theorem ig (b : aT) (p : List Int) (k : Nat) : (mA b p k).length = b.aO.length := by unfold mA; rw [List.length_map, List.length_range]
theorem pK {p : List Int} {k i : Nat} (hi : i < b.aO.length) : nth (mA b p k) i = if i < k then ⟨(nth b.aO i).bh, nth p i, (nth b.aO i).aim⟩ else nth b.aO i := by
 rw [dS (by rw [ig]; exact hi)]; unfold mA; rw [List.getElem_map, List.getElem_range]
theorem Ff (b : aT) (p : List Int) : b.aO = mA b p 0 := mS (ig b p 0).symm fun i hi => by rw [pK hi, if_neg aE]
theorem GK {p : List Int} {k : Nat} (hk : k < b.aO.length) : (mA b p k).set k ⟨(nth (mA b p k) k).bh, nth p k, (nth (mA b p k) k).aim⟩ = mA b p (k + 1) := by
 refine mS (by rw [List.length_set, ig, ig]) fun i hi => ?_
 rw [List.length_set, ig] at hi
 rw [jE (by rw [ig]; exact hi), pK hi, pK hi, pK hk]
 by_cases c : k = i
 ·subst c; rw [if_pos rfl, if_neg aE, if_pos aE]
 rw [if_neg c]
 by_cases c2 : i < k
 ·rw [if_pos c2, if_pos aE]
 rw [if_neg c2, if_neg aE]
theorem Ja (h : Dl b cur) {k : Nat} (hk : b.aO.length ≤ k) : mA b (dL cur) k = cur.aO := by
 refine mS (by rw [ig, h.len]) fun i hi => ?_
 rw [ig] at hi
 rw [pK hi, if_pos aE, yH (by rw [h.len]; exact hi), ← (h.bN i hi).1, ← (h.bN i hi).2]
end Go.Proofs.YtpnndljmhpepgaaGreat
namespace Go.Proofs.YtpnndljmhpepgaaGreat
open Go Go.T
set_option maxRecDepth 100000
set_option maxHeartbeats 2000000
theorem La {b : aT} {n : Int} (h : (jr b || decide (n > 40)) = false) : b.Small ∧ n ≤ 40 := by
 rw [Bool.or_eq_false_iff, decide_eq_false_iff_not] at h
 exact ⟨oZ h.1, by omega⟩
section
variable {b : aT} {plan : List bX}
theorem OC (h : ¬ bH b = 0) : bH b = (bz b plan).2.2 := by rw [gM h]
theorem uP (h : ¬ bH b = 0) : ¬ (bz b plan).2.2 = 0 := by rw [gM h]; exact h
theorem Np (h : ¬ (bz b plan).2.2 = 0) : 0 = (hG b plan).1 := by rw [Br h]
theorem xp (h : ¬ (bz b plan).2.2 = 0) : (bz b plan).1.sizes = [] ∧ (bz b plan).1.aO = [] := by rw [(OU h).1]; exact ⟨rfl, rfl⟩
theorem Ey : ∀ (l : List bX) (cur : aT) (back : List bX), (e9 cur back l).2.1.length ≤ back.length + l.length
  | [], cur, back => by show back.reverse.length ≤ _; rw [List.length_reverse]; exact Nat.le_refl _
  | t :: l, cur, back => by
    show (if (bu cur t).2 = 0 then e9 (bu cur t).1 (back ++ [⟨t.bN, (nth cur.aO t.bN.toNat).inn⟩]) l else (tX, [], (bu cur t).2)).2.1.length ≤ _
    by_cases c : (bu cur t).2 = 0
    · rw [if_pos c]
      have := Ey l (bu cur t).1 (back ++ [⟨t.bN, (nth cur.aO t.bN.toNat).inn⟩])
      rw [List.length_append, List.length_singleton] at this
      rw [List.length_cons]; omega
    · rw [if_neg c]; exact Nat.zero_le _
theorem MD (b : aT) (plan : List bX) (h : plan.length ≤ 1000000) : (bz b plan).2.1.length ≤ 400000000 := by
 by_cases c : bH b = 0
 ·by_cases c2 : (plan.length : Int) > 6000
  ·rw [fC c c2]; exact Nat.zero_le _
  rw [eB c c2 rfl]
  have := Ey plan b []
  rw [List.length_nil] at this; omega
 rw [gM c]; exact Nat.zero_le _
theorem Pb : (((((((!decide ((bz b plan).2.2 = (bz b plan).2.2) || !decide ((bz b plan).2.2 = (bz b plan).2.2)) || !decide ((bz b plan).2.2 = (bz b plan).2.2)) || !decide ((bz b plan).2.2 = (bz b plan).2.2)) || !q4 (bz b plan).1 (bz b plan).1) || !(iR b plan == iR b plan)) || !decide ((bz b plan).2.1 = (bz b plan).2.1)) || !decide ((hG b plan).1 = (hG b plan).1)) = false := by
 rw [j5]; simp
end
theorem vW {α : Type} {E : El α} {xs : List α} (e : xs = []) : (Ty.ex (.slice none 0 0)).Sub (Ty.sl E xs) := by subst e; exact Ty.nv
attribute [local irreducible] bz hG iR gW gI dL mA bH iO q4 jr
attribute [local irreducible] iL fu pJ r9 jY jQ jL jI jT rF jJ q5 dy g6 q2 g7 r8 nth fS dG ay dO bodyPost Exit.then Exit.inBlock Code.wp Code.wpIn fy rS rB rq rL jU r5 fG iT qd cT cX bodyPostM eE
theorem NS (b : aT) (hs : b.Small) (plan : List bX) (hp : plan.length ≤ 1000000) : fG Tryz.prog 67 [] [] [cU b, Ty.sl bq plan] [(70, Cont.vec cL 3 (bz b plan).1.sizes), (71, Cont.vec cZ 58 (bz b plan).1.aO)] (Ty.iF [Ty.agg (iD 70 71 (bz b plan).1), Ty.int .i64 (bz b plan).2.2]) := by
 refine ej Tryz.func67 ν aB Tryz.ntmps67 aP fun w0 M0 => ?_
 refine aF (aA (bF ν (bZ ν bW ν (bS ν (aD (aC (aF (aA (aY ν ν ν aP (cM ν ?_))))))))))
 refine fM (res' := Ty.iF [Ty.agg (iD 70 71 (bz b plan).1), Ty.sl bq (bz b plan).2.1, Ty.int .i64 (bz b plan).2.2]) [(70, 50), (71, 51)] [70, 71] [(70, Cont.vec cL 3 (bz b plan).1.sizes), (71, Cont.vec cZ 58 (bz b plan).1.aO)] (PN b hs plan hp) ν ν ME pre_nil (gj (a := 70) (b := 50) aB ν (dP aB ν) (gj (a := 71) (b := 51) aB ν (dP aB ν) post_nil)) (va (cV (cV (cV fT (iC ν ν)) (iC ν ν)) (jK (cV (cV fT (kO aB)) (kO aB))))) ?_
 refine ke ν (aj ν ν (aj ν ν (aj ν ν (bZ ν bW ν (bK ν ν aB ν ν ν ν ν ν (iX ν (bS ν (aD (aC (aF (aA (aW ν ν aB ν ν aP (bA ν ?_)))))))))))))
 refine bK ν ν aB ν ν ν ν ν ν (bS ν (aD (aC (au ?_))))
 refine lX [70, 71] ν ν ν ν ν aB ν ν ν aB (by repeat (first | exact jt | refine eS ν (dP aB ν) ?_)) ?_ ?_
 all_goals first | exact e8 (iC rfl rfl) | skip
 all_goals exact e8 (jK (cV (cV fT (kO aB)) (kO aB)))
theorem xL (b : aT) (plan : List bX) : dO Tryz.prog 25 [cU b, Ty.sl bq plan] (Ty.bool true) := by
 refine az Tryz.func25 ν aB Tryz.ntmps25 aP fun w0 M0 => ?_
 refine fV (s := 1) ν ν fY fun hl => ?_
 refine aF (aA (bF ν (dN ν (aD (aC (aF (aF (aA (aY ν ν ν aP (aa (CY b) ν ν ν ν ν (dm ν ?_)))))))))))
 refine bT 26 ν (fun hg => aH (cM ν (aD ν))) ?_
 refine bT 26 ν (fun hg => cJ 27 hg ν (aH (bU ν ν ν (aD ν)))) ?_
 refine bT 26 ν (fun hg => cJ 28 hg ν (aH (ah ν ν ν (aD ν)))) ?_
 refine eJ ν ν (aD (aC ?_))
 refine cI ν (fun hc1 => ?_) (fun hc1 => ?_)
 ·refine aF (aA (aa (je) ν ν ν ν ν (dN ν (aD (aC (au (aK (bg ν ν ?_))))))))
  all_goals exact b9 rfl rfl
 refine aX (aC (aF ?_))
 obtain ⟨hs, hn40⟩ := La hc1
 have hs1 := hs.sizes
 have hs2 := hs.aO
 refine cH mixed ν (aY ν ν ν aP (aa (H7 b hs) ν ν ν ν ν (aY ν ν ν aP (aa (rU b hs) ν ν ν ν ν (cM ν (aa (AP plan aE) ν ν ν ν ν (bZ ν bW ν (bZ ν bW ν (bK ν ν aB ν ν ν ν ν ν (bK ν ν aB ν ν ν ν ν ν (iX ν (aD ?_))))))))))))
 refine ⟨by kernel_rfl, ?_⟩
 refine aC (aF (aA (aW ν ν aB ν ν aP (aa (p5 b hs) ν ν ν ν ν (bS ν (aD (aC (aF ?_))))))))
 refine fK (s := 8) ν (Ty.bO (check_eq b)) ?_
 refine aA (dN ν (bS ν (aD (aC (aF (aA (bZ ν bW ν (aD (aC (aF (aA (fm ν (aD (aC ?_))))))))))))))
 refine l8 (J := live [(1, Ty.sl bq plan), (2, Ty.pp (bL b)), (5, Ty.ptr 6 0), (7, Ty.sl bq plan), (8, Ty.int .i64 (bz b plan).2.2), (9, Ty.bool (iR b plan)), (10, Ty.int .i64 (hG b plan).1), (11, Ty.ptr 12 0), (12, Ty.sl bq (bz b plan).2.1)] [(6, Cont.cells 25 (bL b)), (12, Cont.cells 25 (bL (bz b plan).1))]) ?_ ?_
 ·refine aF (aA (bA ν (ah ν ν ν (aD (aC ?_)))))
  refine aU ν (fun hc2 => ?_) (fun hc2 => ?_)
  ·refine aF ?_
   have hr := c8 hc2
   refine aA (fm ν (aD (aC (aF (cH mixed ν (aW ν ν aB ν ν aP (cM ν (aa (u6 plan aE) ν ν ν ν ν (aa (yQ b hr plan) ν ν ν ν ν (ke ν (aj ν ν (aj ν ν (aj ν ν (aj ν ν (iX ν (iX ν (bS ν (bS ν (aD ?_)))))))))))))))))))
   refine ⟨by kernel_rfl, ?_⟩
   refine aC (aF ?_)
   refine fK (s := 8) ν (Ty.bO (Pr hc2)) ?_
   refine fK (s := 10) ν (Ty.bO (P2 hc2)) ?_
   refine fK (s := 12) ν (Ty.fq (OF hc2)) ?_
   refine cK (B := live [(1, Ty.sl bq plan), (2, Ty.pp (bL b)), (5, Ty.ptr 6 0), (6, Ty.ptr 7 0), (7, Ty.sl bq plan), (8, Ty.int .i64 (bz b plan).2.2), (9, Ty.bool false), (10, Ty.int .i64 (hG b plan).1), (11, Ty.ptr 12 0), (12, Ty.sl bq (bz b plan).2.1), (13, Ty.sl cL (gW b plan).1)] [(6, Cont.cells 25 (bL b)), (7, Cont.cells 33 (bL b)), (12, Cont.cells 25 [Ty.ex (.slice none 0 0), Ty.ex (.slice none 0 0)])]) ?_ ?_
   ·exact dK
   refine aA (bA ν (ah ν ν ν (aD (aC ?_))))
   refine aU ν (fun hc3 => ?_) (fun hc3 => ?_)
   ·refine aF ?_
    obtain ⟨hpi, hlk⟩ := OO hc2 hc3
    have hil : (dL (bz b plan).1).length = b.aO.length := by rw [← hlk.len]; unfold dL; rw [List.length_map]
    refine fK (s := 13) ν (Ty.fq hpi) ?_
    refine cH mixed ν (aY ν ν ν aP ?_)
    refine fM (res' := Ty.agg [Ty.sl cL b.sizes, Ty.row cZ 58 149 b.aO]) [(149, 9)] [149] [] (LM b hs) ν ν n9 pre_nil post_nil (jK (cV (cV fT (fD aB)) (iC ν ν))) ?_
    refine aW ν ν aB ν ν aP (cM ν (aa (og b hs (dL (bz b plan).1) (Nat.le_of_eq hil)) ν ν ν ν ν (bK ν ν aB ν ν ν ν ν ν (dN ν (aD ?_)))))
    refine ⟨by kernel_rfl, ?_⟩
    refine aC (aF ?_)
    refine fK (s := 9) ν (Ty.jv (MJ hc2 hc3)) ?_
    refine nD (c0 := 12) 1 ν ν ?_
    refine kr (tg := 12) rfl (Cont.lK (l' := [Ty.sl cL b.sizes, Ty.vs 149 b.aO.length]) ⟨Ty.aM _, Ty.td rfl, trivial⟩) ?_
    refine kr (tg := 149) ν (Cont.jB (Ff b (dL (bz b plan).1))) ?_
    refine cK (B := live [(1, Ty.sl bq plan), (2, Ty.pp (bL b)), (5, Ty.ptr 6 0), (7, Ty.sl bq plan), (8, Ty.int .i64 (bz b plan).2.2), (9, Ty.bool (iR b plan)), (10, Ty.int .i64 (hG b plan).1), (11, Ty.ptr 12 0), (12, Ty.sl bq (bz b plan).2.1), (13, Ty.sl cL (dL (bz b plan).1))] [(6, Cont.cells 25 (bL b)), (12, Cont.cells 25 [Ty.sl cL b.sizes, Ty.vs 149 b.aO.length]), (149, Cont.vec cZ 58 (mA b (dL (bz b plan).1) 0))]) ?_ ?_
    ·exact dK
    refine aA (cM ν (bU ν ν ν (bA ν (aD (aC (aV ?_))))))
    refine bf (fun (k : {k : Nat // k ≤ (dL (bz b plan).1).length}) => live [(1, Ty.sl bq plan), (2, Ty.pp (bL b)), (5, Ty.ptr 6 0), (7, Ty.sl bq plan), (8, Ty.int .i64 (bz b plan).2.2), (9, Ty.bool (iR b plan)), (10, Ty.int .i64 (hG b plan).1), (11, Ty.ptr 12 0), (12, Ty.sl bq (bz b plan).2.1), (58, Ty.sl cL (dL (bz b plan).1)), (59, Ty.int .i64 (dL (bz b plan).1).length), (60, Ty.int .i64 (k.1 : Nat))] [(6, Cont.cells 25 (bL b)), (12, Cont.cells 25 [Ty.sl cL b.sizes, Ty.vs 149 b.aO.length]), (149, Cont.vec cZ 58 (mA b (dL (bz b plan).1) k.1))]) (fun k => (dL (bz b plan).1).length - k.1) (⟨0, by omega⟩) ?_ fun k => ?_
    ·exact dK
    have hk := k.2
    have hpul := ig b (dL (bz b plan).1) k.1
    refine aF (aA (ah ν ν ν (aD (aC (aF ?_)))))
    refine aU ν (fun hc4 => ?_) (fun hc4 => ?_)
    ·refine aX (aC (aF (aV (aF (aA (bA ν (af ν ν ν ν ν ν aE (aJ ν ν ν ν (bS ν (bS ν (aD (aC (aA (ak ν ν ν ν ν aB (aq ν ν aB ν ν ν (bA ν (bA ν (eZ ν ν ν ν ν aE aE (ak ν ν ν ν ν aB ?_)))))))))))))))))))
     refine kU (E := cZ) (z := ⟨(nth (mA b (dL (bz b plan).1) k.1) k.1).bh, nth (dL (bz b plan).1) k.1, (nth (mA b (dL (bz b plan).1) k.1) k.1).aim⟩) ν ν ν aB ν ν gR ν aE aB ν ν ?_
     refine aD (bE (aC (aA (bY ν ν aE aE (bA ν (aD ?_))))))
     refine bG (⟨k.1 + 1, by omega⟩) ?_ (by show (dL (bz b plan).1).length - (k.1 + 1) < (dL (bz b plan).1).length - k.1; omega)
     (refine dw.mk' ?_ ?_ <;> (repeat' (first | exact aQ | exact aR | refine aG ?_ (Ty.bC _) | refine aG ?_ (Ty.aM _) | refine aL rfl (Cont.aM _) ?_ | refine aL rfl ?_ ?_)))
     all_goals exact Cont.jB (GK aE)
    refine bQ (aI (aI (aS ν ?_)))
    refine PM (tg := 149) [] [(12, Cont.cells 25 (bL ⟨b.sizes, mA b (dL (bz b plan).1) k.1⟩))] aB rfl trivial ⟨eW rfl rfl ⟨cF rfl, pW rfl (ig b _ _) aB, trivial⟩, trivial⟩ ?_
    refine fB ?_
    (refine dw.mk' ?_ ?_ <;> (repeat' (first | exact aQ | exact aR | exact eC | refine aG ?_ (Ty.bC _) | refine aG ?_ (Ty.aM _) | refine aL rfl (Cont.aM _) ?_ | refine aL rfl (Cont.eD ?_) ?_ | refine dD ?_ ?_)))
    all_goals first | exact Ty.fq hlk.sizes.symm | exact Ty.fq (Ja hlk aE)
   refine aX ?_
   skip
   refine fB ?_
   (refine dw.mk' ?_ ?_ <;> (repeat' (first | exact aQ | exact aR | exact eC | refine aG ?_ (Ty.bC _) | refine aG ?_ (Ty.aM _) | refine aL rfl (Cont.aM _) ?_ | refine aL rfl (Cont.eD ?_) ?_ | refine dD ?_ ?_ | refine aG ?_ ?_)))
   all_goals first | exact Ty.jv (AR hc3) | exact vW (xp hc3).1 | exact vW (xp hc3).2
  refine aX ?_
  skip
  refine fB ?_
  (refine dw.mk' ?_ ?_ <;> (repeat' (first | exact aQ | exact aR | exact eC | refine aG ?_ (Ty.bC _) | refine aG ?_ (Ty.aM _) | refine aL rfl (Cont.aM _) ?_ | refine aL rfl (Cont.eD ?_) ?_ | refine dD ?_ ?_ | refine aG ?_ ?_)))
  all_goals first | exact Ty.bO (OC hc2) | exact Ty.jv (AR (uP hc2)) | exact Ty.bO (Np (uP hc2)) | exact vW (OU (uP hc2)).2 | exact vW (xp (uP hc2)).1 | exact vW (xp (uP hc2)).2
 refine aF (aA (aW ν ν aB ν ν aP (cM ν ?_)))
 refine fM (res' := Ty.iF [Ty.agg (iD 971 972 (bz b plan).1), Ty.int .i64 (bz b plan).2.2]) [(971, 70), (972, 71)] [971, 972] [(971, Cont.vec cL 3 (bz b plan).1.sizes), (972, Cont.vec cZ 58 (bz b plan).1.aO)] (NS b hs plan aE) ν ν ME pre_nil (gj (a := 971) (b := 70) aB ν (dP aB ν) (gj (a := 972) (b := 71) aB ν (dP aB ν) post_nil)) (va (cV (cV fT (iC ν ν)) (jK (cV (cV fT (kO aB)) (kO aB))))) ?_
 refine ke ν (aj ν ν (aj ν ν (bZ ν bW ν (bK ν ν aB ν ν ν ν ν ν (bS ν (aD (aC (aF (aA (aW ν ν aB ν ν aP (cM ν (aa (Gr b hs plan aE) ν ν ν ν ν (ke ν (aj ν ν (aj ν ν (dN ν (bS ν (aD (aC (aF (aA (aW ν ν aB ν ν aP (cM ν ?_)))))))))))))))))))))))
 refine aa (Pt b hs plan aE) ν ν ν ν ν (ke ν (aj ν ν (aj ν ν (iX ν (bS ν (aD (aC (aF (aA (aW ν ν aB ν ν aP (cM ν (aa (NP b hs plan aE) ν ν ν ν ν (ke ν (aj ν ν (aj ν ν (bS ν (bS ν (aD (aC (aF (aF ?_)))))))))))))))))))))
 refine fK (s := 23) ν (Ty.bO (OI b plan)) ?_
 refine cK (B := live [(1, Ty.sl bq plan), (2, Ty.pp (bL b)), (5, Ty.ptr 6 0), (7, Ty.sl bq plan), (8, Ty.int .i64 (bz b plan).2.2), (9, Ty.bool (iR b plan)), (10, Ty.int .i64 (hG b plan).1), (11, Ty.ptr 12 0), (12, Ty.sl bq (bz b plan).2.1), (16, Ty.ptr 17 0), (17, Ty.int .i64 (bz b plan).2.2), (18, Ty.bool (iR b plan)), (19, Ty.int .i64 (bz b plan).2.2), (20, Ty.sl bq (bz b plan).2.1), (21, Ty.int .i64 (bz b plan).2.2), (22, Ty.int .i64 (hG b plan).1), (23, Ty.int .i64 (bz b plan).2.2)] [(6, Cont.cells 25 (bL b)), (12, Cont.cells 25 (bL (bz b plan).1)), (17, Cont.cells 25 (iD 971 972 (bz b plan).1)), (971, Cont.vec cL 3 (bz b plan).1.sizes), (972, Cont.vec cZ 58 (bz b plan).1.aO)]) ?_ ?_
 ·exact dK
 refine aA (bA ν (bA ν (ah ν ν ν (dm ν ?_))))
 refine bT 99 ν (fun hg => aH (bA ν (aD ν))) ?_
 refine bT 99 ν (fun hg => aH (bA ν (aD ν))) ?_
 refine bT 99 ν (fun hg => cJ 100 hg ν (cJ 101 hg ν (aH (ah ν ν ν (aD ν))))) ?_
 refine eJ ν ν (dm ν ?_)
 refine bT 104 ν (fun hg => aH (bA ν (aD ν))) ?_
 refine bT 104 ν (fun hg => aH (bA ν (aD ν))) ?_
 refine bT 104 ν (fun hg => cJ 105 hg ν (cJ 106 hg ν (aH (ah ν ν ν (aD ν))))) ?_
 refine eJ ν ν (dm ν ?_)
 refine bT 109 ν (fun hg => aH (bA ν (aD ν))) ?_
 refine bT 109 ν (fun hg => aH (bA ν (aD ν))) ?_
 refine bT 109 ν (fun hg => cJ 110 hg ν (cJ 111 hg ν (aH (ah ν ν ν (aD ν))))) ?_
 refine eJ ν ν (dm ν ?_)
 refine bT 114 ν (fun hg => aH (aW ν ν aB ν ν aP (aD ν))) ?_
 refine bT 114 ν (fun hg => aH (aW ν ν aB ν ν aP (aD ν))) ?_
 refine bT 114 ν (by intro hg; apply bV (s := 115) ν dF; apply bV (s := 116) ν dF; apply aH; (refine kL [971, 972] (rY (bz b plan).1 (bz b plan).1) ν (c9 (rN (s := 971) (t := 972) ν ν aB aB ν ν) (c9 (jV (jP ν ν)) gN)) o9 ?_); refine aD ?_; exact ν) ?_
 refine bT 114 ν (fun hg => cJ 117 hg ν (aH (dW ν (aD ν)))) ?_
 refine eJ ν ν (dm ν ?_)
 refine bT 120 ν (fun hg => aH (dm ν (aD ν))) ?_
 refine bT 120 ν (fun hg => aH (dm ν (aD ν))) ?_
 refine bT 120 ν (fun hg => cJ 121 hg ν (cJ 122 hg ν (aH (xq N0 ν ν (aD ν))))) ?_
 refine eJ ν ν (dm ν ?_)
 refine bT 125 ν (fun hg => aH (cM ν (aD ν))) ?_
 refine bT 125 ν (fun hg => cJ 126 hg ν (aH (aa (u6 (bz b plan).2.1 (MD b plan aE)) ν ν ν ν ν (aD ν)))) ?_
 refine bT 125 ν (fun hg => aH (cM ν (aD ν))) ?_
 refine bT 125 ν (fun hg => cJ 127 hg ν (cJ 128 hg ν (aH (aa (IQ (bz b plan).2.1 (bz b plan).2.1) ν ν ν ν ν (aD ν))))) ?_
 refine bT 125 ν (fun hg => cJ 129 hg ν (aH (dW ν (aD ν)))) ?_
 refine eJ ν ν (dm ν ?_)
 refine bT 132 ν (fun hg => aH (bA ν (aD ν))) ?_
 refine bT 132 ν (fun hg => aH (bA ν (aD ν))) ?_
 refine bT 132 ν (fun hg => cJ 133 hg ν (cJ 134 hg ν (aH (ah ν ν ν (aD ν))))) ?_
 refine eJ ν ν (aD (aC (eP ν (Pb) (aX (aC (aF (aA (ak ν ν ν ν ν aB (aq ν ν aB ν ν ν (vw ν ν aE aB ν ν ν ν ν aB ν (aD (aC (aF (aA (ak ν ν ν ν ν aB (aq ν ν aB ν ν ν (vw ν ν aE aB ν ν ν ν ν aB ν (aD (aC (aF (aA (aW ν ν aB ν ν aP (aY ν ν ν aP ?_)))))))))))))))))))))))
 refine aa (rY b b) ν ν ν ν ν (dm ν ?_)
 refine bT 144 ν (fun hg => aH (cM ν (aD ν))) ?_
 refine bT 144 ν (fun hg => aH (cM ν (aD ν))) ?_
 refine bT 144 ν (fun hg => cJ 145 hg ν (cJ 146 hg ν (aH (aa (MB plan plan) ν ν ν ν ν (aD ν))))) ?_
 refine dA ν ν (dm ν ?_)
 refine bT 149 ν (fun hg => aH (aa (je) ν ν ν ν ν (aD ν))) ?_
 refine dA ν ν (dN ν (aD (aC (au (bg ν ν ?_)))))
 all_goals exact av rfl rfl (congrArg Ty.bool (by rw [j5]; simp))
end Go.Proofs.YtpnndljmhpepgaaGreat
namespace Go.T
open Go Go.RowKit
theorem Qk {ρ : List (Nat × Nat)} {a b n : Nat} {c : Option Nat} (h : (a, b) ∈ ρ) : Conv ρ (.rc a n c) (.rc b n c) := fun _ _ _ _ _ _ hre hv => by
  cases c with
  | none => exact hv
  | some c => obtain ⟨k, hk, e, h1, h2⟩ := hv; exact ⟨k, hre.some _ h k hk, e, h1, h2⟩
theorem Fh {ρ : List (Nat × Nat)} {a b T : Nat} {α : Type} {E : El α} {xs ys : List α} {c : Option Nat} (h : (a, b) ∈ ρ) (e : xs = ys) : uj ρ a (.FN E T xs c) b (.FN E T ys c) := fun _ _ _ _ _ hre hd => by
  subst e
  cases c with
  | none => exact hd
  | some c => obtain ⟨k, cs, h1, h2, h3, h4⟩ := hd; exact ⟨k, cs, hre.some _ h k h1, h2, h3, ef hre.none (E.jd _) (E.kA _) h4⟩
theorem NI {tg n m : Nat} {c : Option Nat} (h : n = m) : (Ty.rc tg n c).Sub (Ty.rc tg m c) := h ▸ Ty.aM _
section
variable {P : Program} {fr : Fr} {ops : Array Oper} {A : As} {rest : List Oper} {K : As → List (As × Fx) → Prop} {d : Nat} {t ty' : TypeId} {p : String} {e : Array Edge} [T : lq P]
theorem EW {parts : Array (Nat × Operand)} {ti te : TI} {n el : Nat} {ls : List (Nat × List Ty)} {out : List Ty} (hT : T.dz[ty']? = some ti) (hk : ti.k = .array n el) (hE : T.dz[el]? = some te) (hz : ti.zero ≠ []) (hp : dJ A fr parts.toList ls) (hf : rO (fun i => some (i * te.size, te.size)) (ti.zero.map Ty.mC) ls = some out)
 (h : ay P fr ops rest (A.set d (.agg out)) fun A' l => K A' ((A, { d := some d, ty := .agg out, rs := parts.toList.flatMap fun x => cA x.2 }) :: l)) : ay P fr ops (⟨some d, .build ty' parts, t, p, e, none⟩ :: rest) A K :=
 bR (bl rfl rfl fun a w M _ hr _ => by
  obtain ⟨z, hz1, hz2⟩ := nP hT hz w
  obtain ⟨i, D, _, hD, hkd, _⟩ := cP hT
  rw [hk] at hkd
  cases D <;> simp only [TK.of, reduceCtorEq, TK.array.injEq] at hkd
  obtain ⟨rfl, rfl⟩ := hkd
  obtain ⟨cs', h1, h2⟩ := pQ hr hp (place := fun i => some (i * te.size, te.size)) (cs := z.cells) (fun x hx c hc => List.mem_flatMap.2 ⟨x, hx, hc⟩) (by rw [hz2]; exact oa _ _ _) hf
  refine ⟨.agg cs', ?_, cs', rfl, h2⟩
  have hparts : (parts.map fun x => (x.1, a.eval x.2)).toList = parts.toList.map fun x => (x.1, a.eval x.2) := by simp
  simp only [execOp, Instr.build, Sem.run_bind, hz1, Result.andThen_ok, run_underlying hD, cq hE, hparts, h1]
  simp) h
end
inductive EH (P : Program) (fr : Fr) (ops : Array Oper) (R : Act → World → Prop) : List Oper → As → Prop
  | last {l : List Oper} {A : As} (h : ay P fr ops l A fun A' _ => dG fr A' R) : EH P fr ops R l A
  | cut {l : List Oper} {A : As} (n : Nat) (B : As) (h : ay P fr ops (l.take n) A fun A1 _ => dw fr A1 B) (h' : EH P fr ops R (l.drop n) B) : EH P fr ops R l A
theorem Lc {P : Program} {fr : Fr} {ops : Array Oper} {Q : Exit → Act → World → Prop} {l : List Oper} {A : As} (h : EH P fr ops (Q .normal) l A) : ∀ {a : Act} {w : World}, A.holds fr a w → wpListIn fr.kd.g9 0 P ops Q l a w := by
  induction h with
  | last h => exact fun ha => lM _ _ _ _ _ h ha fun _ _ _ _ hk hA => hk _ _ hA
  | @cut l A n B h h' ih =>
    intro a w ha
    have := rP (rest := l.drop n) (l.take n) A _ a w h ha fun A1 _ a w hE hA => ih (hE.holds hA)
    rwa [List.take_append_drop] at this
theorem JR {P : Program} {fr : Fr} {A : As} {Q : Exit → Act → World → Prop} {id : Nat} {l : List Oper} (h : EH P fr l.toArray (Q .normal) l A) : fS P fr (.region id l.toArray false) A Q := fun _ _ ha => wpIn_region_lit (Lc h ha)
end Go.T
namespace Go.Proofs.YtpnndljmhpepgaaGreat
open Go Go.T
set_option maxRecDepth 100000
set_option maxHeartbeats 16000000
theorem Nm {xs : List (List Int)} (h : xs = []) : mO [42] (Ty.ex (.slice none 0 0)) (Ty.row cY 22 42 xs) := by subst h; exact e8 mq
theorem Mh {xs ys : List (List Int)} (h : xs = ys) : mO [42] (Ty.row cY 22 42 xs) (Ty.row cY 22 42 ys) := by subst h; exact e8 (fD aB)
theorem Mq {xs ys : List (List bX)} (h : xs = ys) : mO [25] (Ty.row eG 29 25 xs) (Ty.row eG 29 25 ys) := by subst h; exact e8 (fD aB)
theorem Gj {xs : List (List bX)} (h : xs = []) : mO [103] (Ty.ex (.slice none 0 0)) (Ty.row eG 29 103 xs) := by subst h; exact e8 mq
theorem Nk {xs ys : List (List bX)} (h : xs = ys) : mO [103] (Ty.row eG 29 103 xs) (Ty.row eG 29 103 ys) := by subst h; exact e8 (fD aB)
attribute [local irreducible] eA dY e7 kV dV ew iR bz gZ dM
attribute [local irreducible] iL fu pJ r9 jY jQ jL jI jT rF jJ q5 dy g6 q2 g7 r8 nth fS dG ay dO bodyPost Exit.then Exit.inBlock Code.wp Code.wpIn fy rS rB rq rL jU r5 fG iT qd cT cX bodyPostM eE
theorem N5 (l : List Int) (h : l.length ≤ 9) : fG Tryz.prog 19 [] [] [Ty.sl cL l] [] (Ty.agg [Ty.row cL 3 4 ([50, 50, 50] ++ l), Ty.row cZ 58 10 [⟨30, 0, 1⟩, ⟨20, 1, 0⟩, ⟨40, 2, 2⟩]]) := by
 refine ej Tryz.func19 ν aB Tryz.ntmps19 aP fun w0 M0 => ?_
 refine aF (aA (bZ ν bW ν (aD (aC (aF (aA ?_))))))
 refine dx (E := cL) (xs := [50, 50, 50]) ν ν ν ν ν aB aB dn bn ν ν ?_
 refine cM ν (cG ν ν aB ν ν ν ν ν ν aB bp bp (cC ν ν bW ν dn xO ?_))
 refine cC ν ν bW ν dn xO ?_
 refine cC ν ν bW ν dn xO ?_
 refine dx (E := cZ) (xs := [⟨30, 0, 1⟩, ⟨20, 1, 0⟩, ⟨40, 2, 2⟩]) ν ν ν ν ν aB aB mH bn ν ν ?_
 refine cC ν ν bW ν PS eU ?_
 refine bK ν ν aB ν ν ν ν ν ν (aD (aC (au (Hv [4, 10] ν ν ν ν aB ν ν ν aB iS ?_))))
 all_goals exact e8 (jK (cV (cV fT (fD aB)) (fD aB)))
theorem Mg (b : aT) (hs : b.Small) : fG Tryz.prog 21 [] [] [cU b] [] (Ty.iF [Ty.row cY 22 42 (if bH b = 0 then l7 b else []), Ty.int .i64 (bH b)]) := by
 refine ej Tryz.func21 ν aB Tryz.ntmps21 aP fun w0 M0 => ?_
 have hs1 := hs.aO
 refine aF (aA (bF ν (fm ν (bS ν (aD (aC (aF (aF (aA (aY ν ν ν aP (aa (jC b hs) ν ν ν ν ν (bS ν (aD (aC (aF (aA (bA ν (ah ν ν ν (aD (aC ?_))))))))))))))))))))
 refine bw ν (fun hc1 => ?_) (fun hc1 => ?_)
 ·refine aF (aA (bA ν (fm ν (bS ν (aD (aC (au (aK ?_))))))))
  refine zh [42] ν ν ν aB iS ?_ ?_
  all_goals first | exact e8 (iC rfl rfl) | skip
  all_goals exact Nm (if_neg hc1)
 refine aX (aC (aF (aA (fm ν (aD (aC (aF (aF (aA (aN ν ν ν ν ν aB (aJ ν ν ν ν (bU ν ν ν (bA ν (aD (aC (aV ?_))))))))))))))))
 refine bf (fun (k : {k : Nat // k ≤ b.aO.length}) => live [(1, Ty.pp (bL b)), (5, Ty.row cY 22 42 (fO b k.1)), (16, Ty.int .i64 b.aO.length), (17, Ty.int .i64 (k.1 : Nat))] []) (fun k => b.aO.length - k.1) (⟨0, by omega⟩) ?_ fun k => ?_
 ·(refine dw.mk' ?_ ?_ <;> (repeat' (first | exact aQ | exact aR | refine aG ?_ (Ty.bC _) | refine aG ?_ (Ty.aM _) | refine aG ?_ Ty.gr)))
  all_goals exact gD rfl
 have hk := k.2
 have hl := oW b k.1
 refine aF (aA (ah ν ν ν (aD (aC (aF ?_)))))
 refine aU ν (fun hc2 => ?_) (fun hc2 => ?_)
 ·refine aX (aC (aF (aV (aF (aA (bA ν (bS ν (aD (aC (aF (aA (bA ν ?_))))))))))))
  refine dx (E := cL) (xs := [(k.1 : Int)]) ν ν ν ν ν aB aB dn bn ν ν ?_
  refine iY ν (aD (aC (aV ?_)))
  refine bf (fun (x : {l : List Int // Gb b k.1 l}) => live [(1, Ty.pp (bL b)), (5, Ty.row cY 22 42 (fO b k.1)), (6, Ty.int .i64 (k.1 : Nat)), (7, Ty.row cL 3 22 x.1), (16, Ty.int .i64 b.aO.length), (17, Ty.int .i64 (k.1 : Nat))] []) (fun x => b.aO.length + 1 - x.1.length) (⟨_, ER aE⟩) ?_ fun x => ?_
  ·exact bt
  have hx1 := x.2.pos
  have hx2 := x.2.len
  have hx3 := x.2.last
  refine aV (aF (cH mixed ν (aY ν ν ν aP (iy ν (iy ν (gL ν ν ν (ga ν ν aE aE (fN ν ν ν ν ν ν aE aE (hU ν ν ν ν ?_)))))))))
  refine aa (wF b (nth x.1 ((x.1.length : Int) - 1).toNat) PK) ν ν ν ν ν ?_
  refine bS ν (aD ?_)
  refine ⟨by kernel_rfl, ?_⟩
  refine aC (aF (aF ?_))
  refine fK (s := 8) ν (Ty.bO (congrArg (fun n => follows b (nth x.1 n)) (show ((x.1.length : Int) - 1).toNat = x.1.length - 1 by omega))) ?_
  refine aA (bA ν (bA ν (ah ν ν ν (dm ν ?_))))
  refine bT 33 ν (fun hg => aH (iy ν (aD ν))) ?_
  refine bT 33 ν (fun hg => cJ 34 hg ν (aH (gL ν ν ν (aD ν)))) ?_
  refine bT 33 ν (fun hg => cJ 35 hg ν (aH (ah ν ν ν (aD ν)))) ?_
  refine dA ν ν (aD (aC ?_))
  refine cI ν (fun hc3 => ?_) (fun hc3 => ?_)
  ·refine jA (tg := 22) [(7, Ty.sl cL x.1)] aB rfl ⟨oQ rfl, trivial⟩ ?_
   refine aA (iy ν (cM ν ?_))
   refine bD (E := cY) (xs := [_]) ν ν ν ν ν aB aB oD bn ν ?_
   refine cG ν ν aB ν ν ν ν ν ν aB bp bp (iY ν (aD (aC (aF (aF (aA (bA ν (bA ν (ah ν ν ν (aD (aC (mj ν OL ?_))))))))))))
   refine bQ (aI (ep ν (aI (aS ν (bE (aC (aA (bY ν ν aE aE (bA ν (aD ?_))))))))))
   refine bG (⟨k.1 + 1, by omega⟩) ?_ ko
   (refine dw.mk' ?_ ?_ <;> (repeat' (first | exact aQ | exact aR | refine aG ?_ (Ty.bC _) | refine aG ?_ (Ty.aM _) | refine aG ?_ ?_)))
   all_goals exact Ty.cv (wz x.2 hc3)
  refine aX (aC (aF (aF (aA (bA ν (bA ν (ah ν ν ν (aD (aC ?_)))))))))
  refine aU ν (fun hc5 => ?_) (fun hc5 => ?_)
  ·refine bQ (aI (ep ν (aI (aS ν (bE (aC (aA (bY ν ν aE aE (bA ν (aD ?_))))))))))
   refine bG (⟨k.1 + 1, by omega⟩) ?_ ko
   (refine dw.mk' ?_ ?_ <;> (repeat' (first | exact aQ | exact aR | refine aG ?_ (Ty.bC _) | refine aG ?_ (Ty.aM _) | refine aG ?_ ?_)))
   all_goals exact Ty.cv (zW x.2 hc3 hc5)
  refine aX (aC (aF (aA (iy ν (bA ν ?_)))))
  refine bD (E := cL) (xs := [_]) ν ν ν ν ν aB aB dn bn ν ?_
  refine cG ν ν aB ν ν ν ν ν ν aB bp bp (iY ν (aD (aC (aF (aA (iy ν (gL ν ν ν (aN ν ν ν ν ν aB (aJ ν ν ν ν (bU ν ν ν (ah ν ν ν (aD (aC ?_)))))))))))))
  refine aU ν (fun hc6 => ?_) (fun hc6 => ?_)
  ·refine bQ (ep ν (aI (aS ν (bE (aC (aA (bY ν ν aE aE (bA ν (aD ?_)))))))))
   refine bG (⟨k.1 + 1, by omega⟩) ?_ ko
   (refine dw.mk' ?_ ?_ <;> (repeat' (first | exact aQ | exact aR | refine aG ?_ (Ty.bC _) | refine aG ?_ (Ty.aM _) | refine aG ?_ ?_)))
   all_goals exact Ty.cv (zP x.2 hc3 hc5 hc6)
  refine aX (bE ?_)
  refine bG (⟨_, x.2.next (fun h => by have h9 := hc3; rw [decide_eq_true h.1, decide_eq_true (show (1 : Int) < x.1.length by omega)] at h9; cases h9) hc5 (by have h9 := hc6; simp at h9; omega)⟩) ?_ Kw
  exact bt
 refine bQ (aI (aI (aS ν (aC (aF (aA (iy ν (iY ν (bS ν (aD (aC (au ?_))))))))))))
 refine zh [42] ν ν ν aB iS ?_ ?_
 all_goals first | exact Mh Ot | exact e8 (mB rfl rfl (congrArg (Ty.int .i64) hc1.symm))
theorem zE (xs : List (List bX)) (c : Option Nat) (hn : xs.length ≤ 400000000) : fG Tryz.prog 99 [1000] [(1000, Cont.FN eG 29 xs c)] [Ty.rc 1000 xs.length c] [(1000, Cont.FN eG 29 xs.reverse c)] (Ty.iF []) := by
 refine ej Tryz.func99 ν aB Tryz.ntmps99 aP fun w0 M0 => ?_
 refine aF (aA (Mb ν (KR ν ν ν (ga ν ν aE aE (bS ν (bS ν (aD (aC (aV ?_)))))))))
 refine bf (fun (k : {k : Nat // k = 0 ∨ 2 * k ≤ xs.length}) => live [(0, Ty.rc 1000 xs.length c), (2, Ty.int .i64 (k.1 : Nat)), (3, Ty.int .i64 ((xs.length : Int) - 1 - k.1))] [(1000, Cont.FN eG 29 (mE xs k.1) c)]) (fun k => xs.length - k.1) (⟨0, .inl rfl⟩) ?_ fun k => ?_
 ·(refine dw.mk' ?_ ?_ <;> (repeat' (first | exact aQ | exact aR | refine aG ?_ (Ty.bC _) | refine aG ?_ (Ty.aM _) | refine aL rfl ?_ ?_ | refine aG ?_ ?_)))
  all_goals first | exact Ty.bO (show (xs.length : Int) - 1 = (xs.length : Int) - 1 - ((0 : Nat) : Int) by omega) | exact Cont.G6 (tY xs).symm
 have hk := k.2
 have hrl := iZ xs k.1
 refine aF (aF (aA (bA ν (bA ν (ah ν ν ν (aD (aC ?_)))))))
 refine aU ν (fun hc1 => ?_) (fun hc1 => ?_)
 ·refine aX (aC (aF (aV ?_)))
  have hlt : (k.1 : Int) < (xs.length : Int) - 1 - k.1 := hc1
  refine fK (s := 3) ν (Ty.bO (show (xs.length : Int) - 1 - k.1 = ((xs.length - 1 - k.1 : Nat) : Int) by omega)) ?_
  refine cH mixed ν (Mb ν (bA ν (Mb ν (bA ν (Mb ν (bA ν (jX ν ν ν ν ν aE ?_)))))))
  refine sK (E := eG) (tg := 1000) (i := xs.length - 1 - k.1) (o := 0) ν ν aB ν ν aE ν ?_
  refine Mb ν (bA ν (jX ν ν ν ν ν aE ?_))
  refine sK (E := eG) (tg := 1000) (i := k.1) (o := 0) ν ν aB ν ν aE ν ?_
  refine jX ν ν ν ν ν aE ?_
  refine qC (E := eG) (tg := 1000) (i := k.1) (o := 0) (z := nth (mE xs k.1) (xs.length - 1 - k.1)) ν ν aB ν ν ν ν aE aB ν ν ?_
  refine jX ν ν ν ν ν aE ?_
  refine qC (E := eG) (tg := 1000) (i := xs.length - 1 - k.1) (o := 0) (z := nth (mE xs k.1) k.1) rfl rfl aB rfl rfl rfl rfl (by rw [List.length_set]; omega) aB rfl rfl ?_
  refine aD ?_
  refine ⟨by kernel_rfl, ?_⟩
  refine bE (aC (aA (bA ν (bY ν ν aE aE (bA ν (ga ν ν aE aE (bS ν (bS ν (aD ?_)))))))))
  refine bG (⟨k.1 + 1, by omega⟩) ?_ MA
  (refine dw.mk' ?_ ?_ <;> (repeat' (first | exact aQ | exact aR | refine aG ?_ (Ty.bC _) | refine aG ?_ (Ty.aM _) | refine aL rfl ?_ ?_ | refine aG ?_ ?_)))
  all_goals first | exact Ty.bO J4 | exact Cont.G6 (y4 aE)
 refine bQ (aI (aI (aS ν (HD (FJ [1000] ν aB ?_)))))
 refine eS ν (Fh aB (wI aE)) jt
theorem Pf (f : Found) (first : Pl) (L : List (List bX)) (hL : iG f.ways first f.last L) (hlen : L.length ≤ 40000000) : fG Tryz.prog 47 [] [] [CT f, Ty.agg (j6 first)] [] (Ty.row eG 29 25 L) := by
 refine ej Tryz.func47 ν aB Tryz.ntmps47 aP fun w0 M0 => ?_
 refine aF (aA (bF ν (bF ν (fm ν (aD (aC (aF (aA (fm ν (aD (aC (aF (aF (aA (aN ν ν ν ν ν aB (aY ν ν ν aP (bZ ν bW ν ?_)))))))))))))))))
 refine bK ν ν aB ν ν ν ν ν ν (aD (aC (aV ?_)))
 refine bf (fun (x : {x : Pl × List (List bX) × List (List bX) // iG f.ways first x.1 x.2.1 ∧ L = x.2.1 ++ x.2.2.reverse}) => live [(2, Ty.pp (rI f)), (3, Ty.pp (j6 first)), (5, Ty.row eG 29 25 x.1.2.2), (6, Ty.ptr 7 0)] [(7, Cont.cells 91 (j6 x.1.1))]) (fun x => x.1.2.1.length) (⟨(f.last, L, []), hL, by simp⟩) ?_ fun x => ?_
 ·exact BD
 have hxl : x.1.2.2.length ≤ L.length := by rw [congrArg List.length x.2.2, List.length_append, List.length_reverse]; omega
 refine aF (aF (aA (aW ν ν aB ν ν aP (aY ν ν ν aP (ug (O5 x.1.1 first) ν ν (aD (aC ?_)))))))
 refine bw ν (fun hc1 => ?_) (fun hc1 => ?_)
 ·refine aX (aC (aF (aV (aA (iy ν (aN ν ν ν ν ν aB (aJ ν ν ν ν (aW ν ν aB ν ν aP ?_))))))))
  refine pT mD (k := x.1.1) (z0 := jD) ν ν (jo x.1.1) gX oJ lY ?_
  refine sG ν ν ν ν ν ν ν ?_
  refine bD (E := eG) (xs := [((b8 f.ways x.1.1).getD jD).byT]) ν ν ν ν ν aB aB oD bn ν ?_
  refine cG ν ν aB ν ν ν ν ν ν aB bp bp (iY ν (aD (bE (aC (aF (aF (aA (aW ν ν aB ν ν aP (aD (aC (aA (bZ ν bW ν ?_))))))))))))
  refine bK ν ν aB ν ν ν ν ν ν (aD (aC (aA (aN ν ν ν ν ν aB (aJ ν ν ν ν (aW ν ν aB ν ν aP ?_))))))
  refine pT mD (k := x.1.1) (z0 := jD) ν ν (jo x.1.1) gX oJ lY ?_
  refine Be ν ν ν ν ν ν (bK ν ν aB ν ν ν ν ν ν (aD ?_))
  refine bG (⟨(((b8 f.ways x.1.1).getD jD).frm, x.1.2.1.dropLast, x.1.2.2 ++ [((b8 f.ways x.1.1).getD jD).byT]), (x.2.1.step hc1).1, by have h1 := x.2.2; rw [(x.2.1.step hc1).2] at h1; exact h1.trans bB⟩) ?_ Om
  exact dK
 refine bQ (aI (aI (aS ν (aC (aF ?_)))))
 have hx0 : x.1.2.1 = [] := by
  have h := x.2.1
  have e : x.1.1 = first := hc1
  rw [e] at h; exact h.yW
 have hL2 : L = x.1.2.2.reverse := by
  have h := x.2.2
  rw [hx0] at h; exact h
 refine FY (s := 5) ν ν fun c => ?_
 refine aA (Mb ν ?_)
 refine fM [(25, 1000)] [] [(25, Cont.FN eG 29 x.1.2.2.reverse c)] (zE x.1.2.2 c aE) ν ν (cV fT (Qk gU)) (lf (a := 25) (b := 1000) gU ν (Fh gU ν) pre_nil) (gj (a := 25) (b := 1000) gU ν (Fh gU ν) post_nil) (iC ν ν) ?_
 refine aD (aC (aF ?_))
 refine fK (s := 5) rfl (NI (show x.1.2.2.length = x.1.2.2.reverse.length by rw [List.length_reverse])) ?_
 refine D2 (s := 5) ν aB ν ν ?_
 refine aA (iy ν (iY ν (aD (aC (au (l9 [25] ν ν aB iS ?_))))))
 all_goals exact Mq hL2.symm
theorem Kq (b : aT) (hs : b.Small) (g : Int) : fG Tryz.prog 14 [] [] [cU b, Ty.int .i64 g] [] (Ty.iF [Ty.row eG 29 103 (dV b g), Ty.int .i64 (ew b g)]) := by
 refine E5 Tryz.func14 ν aB Tryz.ntmps14 aP fun w0 M0 => ?_
 refine aF (aA (bF ν (fm ν (bS ν (aD (aC (aF (aA (aY ν ν ν aP (bA ν (aa (B4 b hs g) ν ν ν ν ν (ke ν (aj ν ν (aj ν ν (QT ν (bS ν (aD (aC (aF (aF (aA (bA ν (ah ν ν ν ?_)))))))))))))))))))))))
 refine aD (aC ?_)
 refine bw ν (fun hc1 => ?_) (fun hc1 => ?_)
 ·refine aF (aA (bA ν (fm ν (bS ν (aD (aC (au (aK (xD ν ?_)))))))))
  refine zh [103] ν ν ν aB iS ?_ ?_
  all_goals first | exact Gj (wD hc1) | exact e8 (mB rfl rfl (congrArg (Ty.int .i64) (sY hc1).symm))
 refine aX (aC (aF ?_))
 have hask := kT hc1
 have hr := c8 hask.1
 have h6 := hr.aO
 have hg : 0 ≤ g := by omega
 have hN := n4
 refine fK (s := 6) ν (Ty.pU (decide_eq_true hc1)) ?_
 refine aA (sQ (fI 6) iU gX ν (nN ν (cW ν (cr ν ν ν ν ν aB (eV ν ν ν ν ν (cC ν ν bW ν kf bn ?_))))))
 refine vU (qb mD (k := bJ b) (v := jD) ν ν aB ν (jo (bJ b)) ν yp gX ?_)
 refine QV ν (cC ν ν bW ν QB bn ?_)
 refine bZ ν bW ν (bK ν ν aB ν ν ν ν ν ν (aD (aC (aF ?_))))
 refine cK (B := live [(1, Ty.int .i64 g), (6, Ty.pe dI ⟨b, bJ b⟩ 0), (8, Ty.ptr 9 0)] [(9, Cont.cells 98 [Ty.mp 27, Ty.int .i64 0, Ty.int .i64 0, Ty.int .i64 0, Ty.int .i64 0, Ty.int .i64 0, Ty.int .i64 0, Ty.bool false]), (27, Cont.mp (fI 6) iU (mM b).ways)]) ?_ ?_
 ·exact dK
 refine aA (nN ν (cW ν (cr ν ν ν ν ν aB (eV ν ν ν ν ν ?_))))
 refine dx (E := oC) (xs := [bJ b]) ν ν ν ν ν aB aB mH bn ν ν ?_
 refine bZ ν bW ν (dH ν ν aB ν ν xS ν aP ν ν jF ?_)
 refine aD (aC (aF ?_))
 refine Oe (J := 4100) (tg := 39) (c0 := 10) ν aB ν aB ν ?_
 refine aV ?_
 refine bf (fun (x : {x : rX // Cr b g x ∧ x.queue.length ≤ x.ways.length + 1}) => live [(1, Ty.int .i64 g), (6, Ty.pe dI ⟨b, bJ b⟩ 0), (8, Ty.ptr 9 0), (9, Ty.ptr 10 0)] [(9, Cont.cells 98 [Ty.mp 27, Ty.int .i64 0, Ty.int .i64 0, Ty.int .i64 0, Ty.int .i64 0, Ty.int .i64 0, Ty.int .i64 0, Ty.bool false]), (10, Cont.cells 99 [Ty.gG oC 91 4100 x.1.queue]), (27, Cont.mp (fI 6) iU x.1.ways)]) (fun x => Oa x.1) (⟨mM b, Oj hr, by simp [mM]⟩) ?_ fun x => ?_
 ·exact dK
 refine aF (aF (aA (aq ν ν aB ν ν ν (Kf ν ν ν (ah ν ν ν (dm ν ?_))))))
 refine bT 42 ν (fun hg => aH (ak ν ν ν ν ν aB (aD ν))) ?_
 refine bT 42 ν (fun hg => cJ 43 hg ν (aH (aq ν ν aB ν ν ν (aD ν)))) ?_
 refine bT 42 ν (fun hg => cJ 44 hg ν (aH (dW ν (aD ν)))) ?_
 refine dA ν ν (aD (aC ?_))
 refine cI ν (fun hc2 => ?_) (fun hc2 => ?_)
 ·refine aX (aC (aV (aF ?_)))
  have hlen : 0 < x.1.queue.length := AX hc2
  refine aA (aq ν ν aB ν ν ν ?_)
  refine Dc (i := 0) ν ν ν ν ν ν hlen ?_
  refine tq ν ν ν aP (bZ ν bW ν (bK ν ν aB ν ν ν ν ν ν (aD (aC (aF (aA (aq ν ν aB ν ν ν ?_)))))))
  refine MV (lo := 1) ν ν ν ν ν ν hlen hlen ?_
  refine dH (ty := Ty.gG oC 91 4100 (x.1.queue.drop 1)) ν ν aB ν ν ν ν aP ν ν jF ?_
  refine aD (aC (aF (aF ?_)))
  refine cK (B := live [(1, Ty.int .i64 g), (6, Ty.pe dI ⟨b, bJ b⟩ 0), (8, Ty.ptr 9 0), (9, Ty.ptr 10 0), (10, Ty.ptr 11 0)] [(9, Cont.cells 98 [Ty.mp 27, Ty.int .i64 0, Ty.int .i64 0, Ty.int .i64 0, Ty.int .i64 0, Ty.int .i64 0, Ty.int .i64 0, Ty.bool false]), (10, Cont.cells 99 [Ty.gG oC 91 4100 (gV x.1).queue]), (11, Cont.cells 91 (j6 (bk x.1))), (27, Cont.mp (fI 6) iU x.1.ways)]) ?_ ?_
  ·exact dK
  refine aA (nN ν (aW ν ν aB ν ν aP (aa (Bq ⟨b, bJ b⟩ h6 (bk x.1)) ν ν ν ν ν (aD (aC ?_)))))
  refine cI ν (fun hc3 => ?_) (fun hc3 => ?_)
  ·refine aF (aA (aW ν ν aB ν ν aP (ak ν ν ν ν ν aB (y8 ν ν aB ν ν ν aP ν ν ν ν (ak ν ν ν ν ν aB (dH ν ν aB ν ν Lp ν aP ν ν bn ?_))))))
   refine aD (aC (bQ (aI (ep ν (aI (aS ν (aC (aF (aF (aA (ak ν ν ν ν ν aB (aq ν ν aB ν ν ν (dW ν (aD (aC (eP ν (ν) (aX (aC (aF ?_)))))))))))))))))))
   have hfm : gH b g = ⟨x.1.ways, bk x.1, true⟩ := x.2.1.same.stop (sA (Jj hlen) hc3)
   have hch := sE hr hg hfm rfl
   refine j8 (tg := 27) [] [(9, Cont.cells 98 [Ty.pm (fI 6) iU x.1.ways, Ty.int .i64 (nth (bk x.1).1 0), Ty.int .i64 (nth (bk x.1).1 1), Ty.int .i64 (nth (bk x.1).1 2), Ty.int .i64 (nth (bk x.1).1 3), Ty.int .i64 (nth (bk x.1).1 4), Ty.int .i64 (nth (bk x.1).1 5), Ty.bool true])] aB rfl trivial ⟨eW rfl rfl ⟨uL rfl aB, cF rfl, cF rfl, cF rfl, cF rfl, cF rfl, cF rfl, cF rfl, trivial⟩, trivial⟩ ?_
   refine cK (B := live [(6, Ty.pe dI ⟨b, bJ b⟩ 0), (8, Ty.ptr 9 0)] [(9, Cont.cells 98 (rI ⟨x.1.ways, bk x.1, true⟩))]) ?_ ?_
   ·exact dK
   refine cH mixed ν (aW ν ν aB ν ν aP (nN ν (cW ν (cr ν ν ν ν ν aB (eV ν ν ν ν ν ?_)))))
   refine fM (res' := Ty.row eG 29 103 (qJ x.1.ways (bJ b) (bk x.1))) [(103, 25)] [103] [] (Pf ⟨x.1.ways, bk x.1, true⟩ (bJ b) _ hch.1 hch.2) ν ν n9 pre_nil post_nil (fD gU) ?_
   refine iY ν (bS ν (aD ?_))
   refine ⟨by kernel_rfl, ?_⟩
   refine aC (au (xD ν ?_))
   refine zh [103] ν ν ν aB iS ?_ ?_
   all_goals first | exact Nk (BN hc1 hfm rfl) | exact e8 (mB rfl rfl (congrArg (Ty.int .i64) (BP hc1 hfm rfl).symm))
  refine aX (aC (aF (aA (nN ν (aW ν ν aB ν ν aP (bA ν (aa (D0 ⟨b, bJ b⟩ (bk x.1) g) ν ν ν ν ν (aD (aC (aV ?_))))))))))
  refine ry (ps := [62]) (lk [(1, Ty.int .i64 g), (6, Ty.pe dI ⟨b, bJ b⟩ 0), (8, Ty.ptr 9 0), (9, Ty.ptr 10 0), (10, Ty.ptr 11 0)]) (fun k => [(9, Cont.cells 98 [Ty.mp 27, Ty.int .i64 0, Ty.int .i64 0, Ty.int .i64 0, Ty.int .i64 0, Ty.int .i64 0, Ty.int .i64 0, Ty.bool false]), (10, Cont.cells 99 [Ty.gG oC 91 4100 (dj b g (bk x.1) (gV x.1) k).queue]), (11, Cont.cells 91 (j6 (bk x.1))), (27, Cont.mp (fI 6) iU (dj b g (bk x.1) (gV x.1) k).ways)]) false [] [9, 10, 11, 27] ν ν (Ad ⟨b, bJ b⟩ (iI hr) h6 g (bk x.1)) ν ν aB MQ ν ν (fun _ => ν) ν ?_ ?_ ?_ (by intro h; cases h)
  ·exact dK
  ·intro k tys hk
   obtain ⟨hk1, rfl⟩ := Ck hk
   have hk1 : k < (dB b (bk x.1) g).length := hk1
   have hok := (kM hg).1 (cD (xs := dB b (bk x.1) g) hk1)
   have hlg := hok.len
   have hfw := AH x.2.1 hr hg hlen hc3 (Nat.le_of_lt hk1)
   have hql := qI (x := gV x.1) (b := b) (g := g) HN (bk x.1) k
   refine ⟨live [(1, Ty.int .i64 g), (6, Ty.pe dI ⟨b, bJ b⟩ 0), (8, Ty.ptr 9 0), (9, Ty.ptr 10 0), (10, Ty.ptr 11 0), (11, Ty.sl bq (nth (dB b (bk x.1) g) k))] [(9, Cont.cells 98 [Ty.mp 27, Ty.int .i64 0, Ty.int .i64 0, Ty.int .i64 0, Ty.int .i64 0, Ty.int .i64 0, Ty.int .i64 0, Ty.bool false]), (10, Cont.cells 99 [Ty.gG oC 91 4100 (dj b g (bk x.1) (gV x.1) k).queue]), (11, Cont.cells 91 (j6 (bk x.1))), (27, Cont.mp (fI 6) iU (dj b g (bk x.1) (gV x.1) k).ways)], fun l w M => ?_, fun l w M => ?_⟩
   ·refine aA (iX ν (aD (fB ?_)))
    exact dK
   refine aV (aF (aA (aW ν ν aB ν ν aP (bZ ν bW ν (bK ν ν aB ν ν ν ν ν ν (aD (aC (aF (aF (aA (cM ν (bU ν ν ν (bA ν (aD (aC (aV ?_))))))))))))))))
   refine bf (fun (j : {j : Nat // j ≤ (nth (dB b (bk x.1) g) k).length}) => live [(1, Ty.int .i64 g), (6, Ty.pe dI ⟨b, bJ b⟩ 0), (8, Ty.ptr 9 0), (9, Ty.ptr 10 0), (10, Ty.ptr 11 0), (11, Ty.sl bq (nth (dB b (bk x.1) g) k)), (12, Ty.ptr 13 0), (64, Ty.sl bq (nth (dB b (bk x.1) g) k)), (65, Ty.int .i64 (nth (dB b (bk x.1) g) k).length), (66, Ty.int .i64 (j.1 : Nat))] [(9, Cont.cells 98 [Ty.mp 27, Ty.int .i64 0, Ty.int .i64 0, Ty.int .i64 0, Ty.int .i64 0, Ty.int .i64 0, Ty.int .i64 0, Ty.bool false]), (10, Cont.cells 99 [Ty.gG oC 91 4100 (dj b g (bk x.1) (gV x.1) k).queue]), (11, Cont.cells 91 (j6 (bk x.1))), (13, Cont.cells 91 (j6 (bM (bk x.1) ((nth (dB b (bk x.1) g) k).take j.1)))), (27, Cont.mp (fI 6) iU (dj b g (bk x.1) (gV x.1) k).ways)]) (fun j => (nth (dB b (bk x.1) g) k).length - j.1) (⟨0, by omega⟩) ?_ fun j => ?_
   ·exact dK
   refine aF (aA (ah ν ν ν (aD (aC (aF ?_)))))
   refine aU ν (fun hc5 => ?_) (fun hc5 => ?_)
   ·refine aX (aC (aF (aV (aF (aA (af ν ν ν ν ν ν aE (aY ν ν ν aP (bZ ν bW ν ?_))))))))
    refine bK ν ν aB ν ν ν ν ν ν (aD (aC ?_))
    have htk := hok.ok _ (cD (xs := nth (dB b (bk x.1) g) k) (k := j.1) aE)
    have htm := yf (p := bk x.1) (l := nth (dB b (bk x.1) g) k) (j := j.1) aE
    have htl : (0 : Int) ≤ (nth (nth (dB b (bk x.1) g) k) j.1).bN ∧ (nth (nth (dB b (bk x.1) g) k) j.1).bN < b.aO.length := htk.1
    refine aA (ak ν ν ν ν ν aB (aq ν ν aB ν ν ν (ak ν ν ν ν ν aB (aq ν ν aB ν ν ν ?_))))
    refine mK (n := 6) ν ν ν ν ν htl.1 aE ?_
    refine dH (l' := j6 (cm (bM (bk x.1) ((nth (dB b (bk x.1) g) k).take j.1)) (nth (nth (dB b (bk x.1) g) k) j.1))) ν ν aB ν ν gR ν CV ν ν (vK _ _ aE) ?_
    refine aD (bE (aC (aA (bY ν ν aE aE (bA ν (aD ?_))))))
    refine bG (⟨j.1 + 1, by omega⟩) ?_ Ow
    (refine dw.mk' ?_ ?_ <;> (repeat' (first | exact aQ | exact aR | exact eC | refine aG ?_ (Ty.bC _) | refine aG ?_ (Ty.aM _) | refine aL rfl (Cont.aM _) ?_ | refine aL rfl (Cont.eD ?_) ?_ | refine dD ?_ ?_)))
    all_goals first | exact Ty.bO (congrArg (fun p : Pl => nth p.1 0) htm) | exact Ty.bO (congrArg (fun p : Pl => nth p.1 1) htm) | exact Ty.bO (congrArg (fun p : Pl => nth p.1 2) htm) | exact Ty.bO (congrArg (fun p : Pl => nth p.1 3) htm) | exact Ty.bO (congrArg (fun p : Pl => nth p.1 4) htm) | exact Ty.bO (congrArg (fun p : Pl => nth p.1 5) htm)
   refine bQ (aI (aI (aS ν (aC (aF ?_)))))
   refine cK (B := live [(1, Ty.int .i64 g), (6, Ty.pe dI ⟨b, bJ b⟩ 0), (8, Ty.ptr 9 0), (9, Ty.ptr 10 0), (10, Ty.ptr 11 0), (11, Ty.sl bq (nth (dB b (bk x.1) g) k)), (12, Ty.ptr 13 0)] [(9, Cont.cells 98 [Ty.mp 27, Ty.int .i64 0, Ty.int .i64 0, Ty.int .i64 0, Ty.int .i64 0, Ty.int .i64 0, Ty.int .i64 0, Ty.bool false]), (10, Cont.cells 99 [Ty.gG oC 91 4100 (dj b g (bk x.1) (gV x.1) k).queue]), (11, Cont.cells 91 (j6 (bk x.1))), (13, Cont.cells 91 (j6 (bM (bk x.1) ((nth (dB b (bk x.1) g) k).take j.1)))), (27, Cont.mp (fI 6) iU (dj b g (bk x.1) (gV x.1) k).ways)]) ?_ ?_
   ·exact dK
   refine kr (tg := 13) rfl (Cont.p8 (congrArg j6 (show bM (bk x.1) ((nth (dB b (bk x.1) g) k).take j.1) = bM (bk x.1) (nth (dB b (bk x.1) g) k) by rw [List.take_of_length_le aE]))) ?_
   refine aA (ak ν ν ν ν ν aB (aq ν ν aB ν ν ν (aW ν ν aB ν ν aP ?_)))
   refine v9 mD (k := bM (bk x.1) (nth (dB b (bk x.1) g) k)) (z0 := jD) ν ν aB ν (jo _) gX oJ lY ?_
   refine ke ν (aj ν ν (aj ν ν (bZ ν bW ν (bK ν ν aB ν ν ν ν ν ν (dN ν (aD (aC (aF (aA (dm ν (dW ν (aD (aC ?_)))))))))))))
   refine cI ν (fun hc6 => ?_) (fun hc6 => ?_)
   ·refine aF (aA (ak ν ν ν ν ν aB (aq ν ν aB ν ν ν (aW ν ν aB ν ν aP (aW ν ν aB ν ν aP (cM ν (cC ν ν bW ν P8 bn ?_)))))))
    refine oq mD (k := bM (bk x.1) (nth (dB b (bk x.1) g) k)) (v := ⟨bk x.1, nth (dB b (bk x.1) g) k, 0⟩) ν ν aB ν (jo _) ν ν gX ?_
    refine aD (aC (aA (aq ν ν aB ν ν ν (aW ν ν aB ν ν aP ?_))))
    refine bD (E := oC) (xs := [bM (bk x.1) (nth (dB b (bk x.1) g) k)]) ν ν ν ν ν aB aB mH bn ν ?_
    refine A7 ν ν aB ν (by show 0 < 1; decide) ν ν ν ν ν aB J7 FF ?_
    refine dH (ty := Ty.gG oC 91 4100 ((dj b g (bk x.1) (gV x.1) k).queue ++ [bM (bk x.1) (nth (dB b (bk x.1) g) k)])) ν ν aB ν ν ν ν aP ν ν jF ?_
    refine aD (bE (p4 ?_))
    (refine dw.mk' ?_ ?_ <;> (repeat' (first | exact aQ | exact aR | exact eC | refine aG ?_ (Ty.bC _) | refine aL rfl (Cont.aM _) ?_ | refine aL rfl (Cont.eD ?_) ?_ | refine dD ?_ ?_ | refine aL rfl ?_ ?_)))
    all_goals first | exact Ty.sub_eq (congrArg (Ty.gG oC 91 4100) (CQ hk1 (CC hc6)).2) | exact Cont.nU (CQ hk1 (CC hc6)).1
   refine aX (bE (p4 ?_))
   (refine dw.mk' ?_ ?_ <;> (repeat' (first | exact aQ | exact aR | exact eC | refine aG ?_ (Ty.bC _) | refine aL rfl (Cont.aM _) ?_ | refine aL rfl (Cont.eD ?_) ?_ | refine dD ?_ ?_ | refine aL rfl ?_ ?_)))
   all_goals first | exact Ty.sub_eq (congrArg (fun z : rX => Ty.gG oC 91 4100 z.queue) (x6 hk1 (Bs hc6))) | exact Cont.nU (congrArg rX.ways (x6 hk1 (Bs hc6)))
  refine bE (bE ?_)
  refine bG (⟨dj b g (bk x.1) (gV x.1) (dB b (bk x.1) g).length, (x.2.1.next hr hg hlen hc3).1, qI HN _ _⟩) ?_ (by exact (x.2.1.next hr hg hlen hc3).2)
  (refine dw.mk' ?_ ?_ <;> (repeat' (first | exact aQ | exact aR | exact eC | refine aG ?_ (Ty.bC _) | refine aG ?_ (Ty.aM _) | refine aL rfl (Cont.aM _) ?_ | refine aL rfl (Cont.eD ?_) ?_ | refine dD ?_ ?_ | refine aL rfl ?_ ?_)))
  all_goals first | exact Cont.nU (congrArg (fun n => (dj b g (bk x.1) (gV x.1) n).ways) (List.length_map _)) | exact Ty.sub_eq (congrArg (fun n => Ty.gG oC 91 4100 (dj b g (bk x.1) (gV x.1) n).queue) (List.length_map _))
 refine bQ (aI (aI (aS ν (aC (aF (aF (aA (ak ν ν ν ν ν aB (aq ν ν aB ν ν ν (dW ν (aD (aC (mj ν (ν) (aF (aA (fm ν (bS ν (aD (aC (au (aK (xD ν ?_))))))))))))))))))))))
 refine zh [103] ν ν ν aB iS ?_ ?_
 all_goals first | exact Gj (BE hc1 (x.2.1.same.stop (stepR_end (List.length_eq_zero_iff.1 (uX hc2)))) rfl) | exact e8 (mB rfl rfl (congrArg (Ty.int .i64) (AV hc1 (x.2.1.same.stop (stepR_end (List.length_eq_zero_iff.1 (uX hc2)))) rfl).symm))
end Go.Proofs.YtpnndljmhpepgaaGreat
namespace Go.T
open Go Go.RowKit
section
variable {P : Program} {fr : Fr} {ops : Array Oper} {A : As} {rest : List Oper} {K : As → List (As × Fx) → Prop} {d : Nat} {t ty' ty2 : TypeId} {p : String} {e : Array Edge}
end
end Go.T
namespace Go.T
open Go Go.RowKit
section
variable {P : Program} {fr : Fr} {ops : Array Oper} {A : As} {rest : List Oper} {K : As → List (As × Fx) → Prop} {d : Nat} {t ty' : TypeId} {p : String} {e : Array Edge} [T : lq P]
theorem lE (tg : Nat) {l : List Ty} {el m : Nat} {parts : Array (Nat × Operand)} {ti te : TI} {ls : List (Nat × List Ty)} (hT : T.dz[ty']? = some ti) (hk : ti.k = .slice el) (hE : T.dz[el]? = some te) (hz : te.zero.length = te.size) (h0 : 0 < te.size) (hm0 : 0 < m) (hle : m * te.size ≤ 16777216) (hml : m ≤ maxLen) (hg : 1 ≤ tg) (hpp : fr.pass.contains tg = false) (hdl : (cR l).contains tg = false) (hp : dJ A fr parts.toList ls)
 (hf : rO (fun i => some (i * te.size, te.size)) ((List.range (m * te.size)).map fun j => Ty.mC (te.zero.getD (j % te.size) undef)) ls = some l)
 (h : ay P fr ops rest (A.after { d := some d, ty := .vs tg m, K := [tg], sets := [(tg, .cells el l)], rs := parts.toList.flatMap fun x => cA x.2 }) fun A' l' => K A' ((A, { d := some d, ty := .vs tg m, K := [tg], sets := [(tg, .cells el l)], rs := parts.toList.flatMap fun x => cA x.2 }) :: l')) : ay P fr ops (⟨some d, .buildSlice ty' m parts, t, p, e, none⟩ :: rest) A K := by
 refine ⟨_, fk (f := { d := some d, ty := .vs tg m, K := [tg], sets := [(tg, .cells el l)], rs := parts.toList.flatMap fun x => cA x.2 }) rfl rfl bB bB (by simp at hpp ⊢; exact ⟨hg, hpp⟩) fun a w M wf hr _ => ?_, h⟩
 obtain ⟨z, hz1, hz2⟩ := nP hE HM w
 obtain ⟨_, D, _, hD, hkd, _⟩ := cP hT
 rw [hk] at hkd
 cases D <;> simp only [TK.of, reduceCtorEq, TK.slice.injEq] at hkd
 rename_i el0
 have hel : el0 = el := hkd
 subst hel
 have hzs : z.cells.size = te.size := by rw [← hz, ← hz2]; simp
 have hpos : 0 < m * te.size := Nat.mul_pos hm0 h0
 let zs : Array Value := if m * te.size = 0 then #[] else z.cells
 have hcells : cS w M ((List.range (m * te.size)).map fun j => Ty.mC (te.zero.getD (j % te.size) undef)) ((Array.range (m * te.size)).map (zs[· % zs.size]!)).toList := by
  refine iH bB fun i u hi => ?_
  rw [List.getElem?_map] at hi
  simp only [Option.map_eq_some_iff] at hi
  obtain ⟨j, hj, rfl⟩ := hi
  have hlt : i < m * te.size := by have := (List.getElem?_eq_some_iff.1 hj).1; simpa using this
  rw [List.getElem?_range hlt] at hj
  injection hj with hj
  subst hj
  have hne : ¬ m * te.size = 0 := by omega
  refine ⟨te.zero.getD (i % te.size) undef, ?_, m7 _ _ _⟩
  have hm : i % te.size < z.cells.size := by rw [hzs]; exact Nat.mod_lt _ h0
  have e1 : zs[i % zs.size]! = te.zero.getD (i % te.size) undef := by
   simp only [zs, if_neg hne, hzs]
   rw [getElem!_pos z.cells _ hm, ← hz2, List.getD_eq_getElem?_getD, List.getElem?_eq_getElem (by simpa using hm)]
   simp
  simp [List.getElem?_range hlt, e1]
 obtain ⟨cs', h1, h2⟩ := pQ hr hp (place := fun i => some (i * te.size, te.size)) (cs := (Array.range (m * te.size)).map (zs[· % zs.size]!)) (fun x hx c hc => List.mem_flatMap.2 ⟨x, hx, hc⟩) hcells hf
 have hparts : (parts.map fun x => (x.1, a.eval x.2)).toList = parts.toList.map fun x => (x.1, a.eval x.2) := by simp
 obtain ⟨h3, h4, h5⟩ := kP wf (.cells cs' el0) tg
 refine ⟨.slice (some ⟨w.heap.size, 0, none⟩) m m, w.alloc (.cells cs' el0), ?_, _, h3, h4, .inr ⟨w.heap.size, m, h5, rfl, Nat.le_refl _, hml⟩, ?_⟩
 ·have hbig' : ¬ (2 ^ 24 < m * te.size) := by omega
  simp only [execOp, Instr.buildSlice, Sem.run_bind, run_underlying hD, Result.andThen_ok, cq hE]
  simp only [hbig', gt_iff_lt, if_false]
  have hn : ¬ m * te.size = 0 := by omega
  have : zs = z.cells := if_neg hn
  rw [this] at h1
  simp only [if_neg hn, Sem.run_pure, Sem.run_bind, Result.andThen_ok, hz1]
  simp only [hparts, h1]
  simp [newRow, newObj, Sem.run]
 intro x hx
 simp only [List.mem_singleton] at hx
 subst hx
 refine ⟨w.heap.size, cs', h5, iA _ _, ?_⟩
 refine b7 h4 (fun u hu hk => ?_) (fun u _ hs => by cases hs) h2
 simp only [List.mem_singleton] at hk
 subst hk
 rw [List.contains_eq_mem, decide_eq_false_iff_not] at hdl
 exact hdl hu
end
end Go.T
namespace Go.T
open Go Go.RowKit
section
variable {P : Program} {fr : Fr} {ops : Array Oper} {A : As} {rest : List Oper} {K : As → List (As × Fx) → Prop} {d : Nat} {t ty' : TypeId} {p : String} {e : Array Edge} [T : lq P]
end
end Go.T
namespace Go.T
open Go Go.RowKit
section
variable {P : Program} {fr : Fr} {A : As} {Q : Exit → Act → World → Prop} {c : Code}
end
section
variable {P : Program} {fr : Fr} {ops : Array Oper} {A : As} {rest : List Oper} {K : As → List (As × Fx) → Prop} {d : Nat} {t ty' : TypeId} {p : String} {e : Array Edge} [T : lq P]
end
end Go.T
namespace Go.T
open Go Go.RowKit
section
variable {P : Program} {A : As} {fn : Func} {n : Nat} {w0 : World} {M0 : bI} {F : List Nat} {post : List (Nat × Cont)} [T : lq P]
end
end Go.T
namespace Go.T
open Go Go.RowKit
section
variable {P : Program} {fr : Fr} {ops : Array Oper} {A : As} {rest : List Oper} {K : As → List (As × Fx) → Prop} {d : Nat} {t ty' : TypeId} {p : String} {e : Array Edge} [T : lq P]
end
end Go.T
namespace Go.T
open Go Go.RowKit
section
variable {P : Program} {fr : Fr} {ops : Array Oper} {A : As} {rest : List Oper} {K : As → List (As × Fx) → Prop} {d : Nat} {t ty' : TypeId} {p : String} {e : Array Edge} [T : lq P]
end
end Go.T
namespace Go.T
open Go Go.RowKit
section
variable {P : Program} {fr : Fr} {ops : Array Oper} {A : As} {rest : List Oper} {K : As → List (As × Fx) → Prop} {d : Nat} {t ty' : TypeId} {p : String} {e : Array Edge} [T : lq P]
end
end Go.T
namespace Go.T
open Go Go.RowKit
section
variable {P : Program}
variable {fr : Fr} {ops : Array Oper} {A : As} {rest : List Oper} {K : As → List (As × Fx) → Prop} {d : Nat} {t ty' : TypeId} {p : String} {e : Array Edge} [T : lq P]
end
section
variable {P : Program} {fr : Fr} {A : As} {Q : Exit → Act → World → Prop} {c : Code}
end
end Go.T
namespace Go.T
open Go Go.RowKit
section
variable {A : As}
end
section
variable {P : Program} {fr : Fr} {A : As} {c : Code} {Q : Exit → Act → World → Prop}
end
end Go.T
namespace Go.T
open Go Go.RowKit
section
variable {α : Type}
end
section
variable {P : Program} {fr : Fr} {ops : Array Oper} {A : As} {rest : List Oper} {K : As → List (As × Fx) → Prop} {d : Nat} {t ty' : TypeId} {p : String} {e : Array Edge} [T : lq P]
variable {α : Type} {E : El α} {Tb J tg i : Nat} {q : List (List α)} {xs ys : List α}
end
end Go.T
namespace Go.T
open Go Go.RowKit
section
variable {P : Program} {fr : Fr} {A : As} {c : Code} {Q : Exit → Act → World → Prop}
end
section
variable {P : Program} {fr : Fr} {ops : Array Oper} {A : As} {rest : List Oper} {K : As → List (As × Fx) → Prop} {d : Nat} {t ty' : TypeId} {p : String} {e : Array Edge} [T : lq P]
theorem jf {α : Type} [Inhabited α] {E : El α} {xs : List α} {x y : Operand} {tg off Tb : Nat} {ti : TI} {ty : Ty} {z : α} (i o : Nat) (hx : A.op fr x = .ptr tg off) (he : off = i * E.size + o) (hc : A.tag tg = some (.vec E Tb xs)) (h1 : fR tg) (hT : T.dz[ty']? = some ti) (hsz : ti.size = 1) (hy : A.op fr y = ty) (ho : ty.one = true) (hi : i < xs.length) (hoe : o < E.size)
 (hdt : lp ty.cdeps [tg] = true) (hl : (E.tys (nth xs i)).set o ty = E.tys z)
 (h : ay P fr ops rest (A.after { d := none, S := [tg], sets := [(tg, .vec E Tb (xs.set i z))], rs := cA x ++ cA y, rt := [tg] }) fun A' l'' => K A' ((A, { d := none, S := [tg], sets := [(tg, .vec E Tb (xs.set i z))], rs := cA x ++ cA y, rt := [tg] }) :: l'')) :
 ay P fr ops (⟨none, .store ty' x y, t, p, e, none⟩ :: rest) A K :=
 ow (by rw [hx, he]) hc h1 hT hsz hy ho hi hoe hdt hl h
variable {α : Type} {E : El α} {Tb J tg i : Nat} {q : List (List α)} {xs : List α}
end
end Go.T
namespace Go.Proofs.YtpnndljmhpepgaaGreat
open Go Go.T
set_option maxRecDepth 100000
set_option maxHeartbeats 16000000
theorem vo {α : Type} {E : El α} {T : Nat} {l : List Ty} {xs : List α} (h : l = xs.flatMap E.tys) : (Cont.cells T l).Sub (Cont.vec E T xs) := by subst h; exact fun _ _ _ h => Hs h
def gw : List (List Int) := [[-1, 0, 29, 30, 300, 301], [-1, 0, 19, 20, 29, 30, 301], [0, 1, 50, 51, 300, 301], [-1, 0, 1, 2, 3, 4, 5], [-2, -1, 0, 2, 3, 4, 5], [-2, -1, 0, 1, 3, 4], [-1, 0, 2, 3], [-2, -1, 0, 2, 3, 4, 5], [-1, 0, 1, 3, 4], [-1, 0, 2, 3], [-1, 0, 2, 3], [-1, 0, 2, 4, 5], [-1, 0, 2, 3], [-1, 0, 1, 3, 5]]
def qw (i : Nat) : List Int := [9223372036854775807, -9223372036854775808] ++ nth gw i
theorem Nr : ∀ i, i < 14 → (nth gw i).length ≤ 7 := by decide
def Jc (i : Nat) (x : Int) : List Int := if i = 0 then [x, 50, 50, 50, 25] else if i = 1 then [50, 50, 50, x, 25] else [50, 50, 50, 50, 25]
def Ip (i : Nat) (x : Int) : List oF := if i = 2 then [⟨x, 0, 1⟩, ⟨20, 1, 0⟩, ⟨40, 2, 2⟩] else if i = 3 then [⟨30, x, 1⟩, ⟨20, 1, 0⟩, ⟨40, 2, 2⟩] else if i = 4 then [⟨30, 0, x⟩, ⟨20, 1, 0⟩, ⟨40, 2, 2⟩] else if i = 5 then [⟨30, 0, 1⟩, ⟨20, 1, 0⟩, ⟨40, 2, x⟩] else [⟨30, 0, 1⟩, ⟨20, 1, 0⟩, ⟨40, 2, 2⟩]
def nT (j : Nat) (v : Int) (i : Nat) (x : Int) : Int := if i = j then x else v
def Gd (i : Nat) (x : Int) : List Int := if i = 9 then [0, x] else [0, 1]
def xV (i : Nat) (x : Int) : List bX := if i = 10 then [⟨1, 3⟩, ⟨x, 1⟩, ⟨1, 0⟩] else if i = 11 then [⟨1, 3⟩, ⟨0, x⟩, ⟨1, 0⟩] else [⟨1, 3⟩, ⟨0, 1⟩, ⟨1, 0⟩]
def Hj (i : Nat) (x : Int) : List bX := if i = 12 then [⟨0, 3⟩, ⟨x, 4⟩] else if i = 13 then [⟨0, 3⟩, ⟨1, x⟩] else [⟨0, 3⟩, ⟨1, 4⟩]
section
variable {i : Nat} {x : Int}
theorem Nj : (Jc i x).length = 5 := by (unfold Jc; repeat' split) <;> rfl
theorem HF : (Ip i x).length = 3 := by (unfold Ip; repeat' split) <;> rfl
theorem Mr : (Gd i x).length = 2 := by (unfold Gd; repeat' split) <;> rfl
theorem MM : (xV i x).length = 3 := by (unfold xV; repeat' split) <;> rfl
theorem Mz : (Hj i x).length = 2 := by (unfold Hj; repeat' split) <;> rfl
end
theorem Qj (a b : Nat) : (a : Int).tmod (b : Int) = ((a % b : Nat) : Int) := (Int.ofNat_tmod a b).symm
theorem R7 (a b : Nat) : (a : Int).tdiv (b : Int) = ((a / b : Nat) : Int) := (Int.ofNat_tdiv a b).symm
theorem HU {a b : Int} (ha : 0 ≤ a ∧ a ≤ 80) (hb : 0 ≤ b ∧ b ≤ 10) : 0 ≤ a * b ∧ a * b ≤ 800 := by
 have := Int.mul_le_mul ha.2 hb.2 hb.1 aB
 exact ⟨Int.mul_nonneg ha.1 hb.1, by omega⟩
theorem yU {a b : Int} (ha : 0 ≤ a) (hb : 0 < b) : 0 ≤ a.tmod b ∧ a.tmod b < b := ⟨Int.tmod_nonneg _ ha, Int.tmod_lt_of_pos _ hb⟩
def QW (n : Nat) : Nat → List Int
  | 0 => []
  | k + 1 => QW n k ++ [4 + ((n : Int) * ((k : Int) + 1)).tmod 7]
theorem Cw (n : Nat) : ∀ k, (QW n k).length = k
  | 0 => rfl
  | k + 1 => by show (QW n k ++ [_]).length = _; rw [List.length_append, Cw n k]; rfl
def PG (n : Nat) (sz : List Int) : Nat → List oF
  | 0 => []
  | m + 1 => PG n sz m ++ [⟨1 + ((n : Int) + (m : Int)).tmod 6, (m : Int).tmod (sz.length : Int), ((n : Int) + (m : Int) * (2 + (n : Int).tmod 2)).tmod ((sz.length : Int) + 1) - 1⟩]
theorem Cl (n : Nat) (sz : List Int) : ∀ k, (PG n sz k).length = k
  | 0 => rfl
  | k + 1 => by show (PG n sz k ++ [_]).length = _; rw [List.length_append, Cl n sz k]; rfl
theorem IS {b : aT} (h : b.aO.length ≤ 4) : (if bH b = 0 then l7 b else []).length ≤ 4 := by
 split
 ·exact Nat.le_trans (oW b b.aO.length) h
 exact Nat.zero_le _
theorem F2 (b : aT) (g : Int) : (dV b g).length ≤ 40000000 := by
 unfold dV
 split
 ·rename_i ha
  split
  ·rename_i hf
   have h := kT ha
   exact (sE (c8 h.1) (by have := h.2; omega) rfl hf).2
  exact Nat.zero_le _
 exact Nat.zero_le _
def Q2 (c : Bool) (l : List bX) : List bX := if c = true then l.drop 1 else l
def Q5 (c : Bool) (l : List (List bX)) : List (List bX) := if c = true then l ++ [nth l 0] else l
def Q4 (c : Bool) (v : Int) (l : List (List Int)) : List (List Int) := if c = true then l ++ [[v, 1]] else l
def G0 : Nat → List Int
  | 0 => []
  | k + 1 => G0 k ++ [(k : Int)]
theorem Bi : ∀ k, (G0 k).length = k
  | 0 => rfl
  | k + 1 => by show (G0 k ++ [_]).length = _; rw [List.length_append, Bi k]; rfl
def HA : Nat → List oF
  | 0 => []
  | k + 1 => HA k ++ [⟨1, (k : Int).tmod 7, (k : Int).tmod 7⟩]
theorem CD : ∀ k, (HA k).length = k
  | 0 => rfl
  | k + 1 => by show (HA k ++ [_]).length = _; rw [List.length_append, CD k]; rfl
theorem RH : ∀ j, j < 9 → ((!decide (decide (bH ⟨G0 j, []⟩ = 0) = (decide ((j : Int) > 0) && decide ((j : Int) < 8)))) || !decide (decide (bH ⟨[1, 1, 1, 1, 1, 1, 1], HA j⟩ = 0) = decide ((j : Int) < 7))) = false := by decide
attribute [local irreducible] eA dY e7 kV dV ew iR bz gZ dM l7
attribute [local irreducible] iL fu pJ r9 jY jQ jL jI jT rF jJ q5 dy g6 q2 g7 r8 nth fS dG ay dO bodyPost Exit.then Exit.inBlock Code.wp Code.wpIn fy rS rB rq rL jU r5 fG iT qd cT cX bodyPostM eE
theorem DL (b : aT) (u v w : Int) (rings : List (List Int)) (plan : List bX) (rounds : List (List bX)) (hb : b.aO.length * 24 ≤ 140737488355328) : dO Tryz.prog 20 [cU b, Ty.agg [Ty.int .i64 u, Ty.int .i64 v, Ty.int .i64 w], Ty.sl cY rings, Ty.sl bq plan, Ty.sl eG rounds] (Ty.bool true) := by
 refine az Tryz.func20 ν aB Tryz.ntmps20 aP fun w0 M0 => ?_
 refine aF (aA (bF ν (bF ν (dN ν (aD (aC (aF (aA (aY ν ν ν aP ?_)))))))))
 refine tH (i := 0) ν ν ν ν ν aB ?_
 refine aJ ν ν ν ν ?_
 refine tH (i := 1) ν ν ν ν ν aB ?_
 refine aJ ν ν ν ν (cM ν (aa (qE b u v rings) ν ν ν ν ν (dm ν ?_)))
 refine bT 18 ν (fun hg => aH (aY ν ν ν aP (aD ν))) ?_
 refine bT 18 ν (fun hg => aH (cM ν (aD ν))) ?_
 refine bT 18 ν (by intro hg; apply bV (s := 19) ν gx; apply bV (s := 20) ν gx; apply aH; (refine aa (xL b plan) ν ν ν ν ν ?_); refine aD ?_; exact ν) ?_
 refine dA ν ν (dm ν ?_)
 refine bT 23 ν (fun hg => aH (aY ν ν ν aP (aD ν))) ?_
 refine bT 23 ν (by intro hg; apply bV (s := 24) ν gx; apply aH; (refine aa (uT b hb) ν ν ν ν ν ?_); refine aD ?_; exact ν) ?_
 refine dA ν ν (dm ν ?_)
 refine bT 27 ν (fun hg => aH (aY ν ν ν aP (aD ν))) ?_
 refine bT 27 ν (by intro hg; apply aH; (refine tH (i := 2) ν ν ν ν ν aB ?_); refine aD ?_; exact ν) ?_
 refine bT 27 ν (by intro hg; apply bV (s := 29) ν gx; apply aH; (refine aJ ν ν ν ν ?_); refine aD ?_; exact ν) ?_
 refine bT 27 ν (fun hg => aH (cM ν (aD ν))) ?_
 refine bT 27 ν (by intro hg; apply bV (s := 28) ν gx; apply bV (s := 30) ν gx; apply bV (s := 31) ν gx; apply aH; (refine aa (ux b hb w rounds) ν ν ν ν ν ?_); refine aD ?_; exact ν) ?_
 refine dA ν ν (dN ν (aD (aC (au (bg ν ν ?_)))))
 all_goals exact b9 rfl rfl
theorem DO : dO Tryz.prog 4 [] (Ty.bool true) := by
 refine az Tryz.func4 ν aB Tryz.ntmps4 aP fun w0 M0 => ?_
 refine aF (aA (dN ν (aD (aC (aF (aA ?_))))))
 refine bD (E := cL) (xs := [_, _, _, _, _, _]) ν ν ν ν ν aB aB dn bn ν ?_
 refine bD (E := cL) (xs := [_, _, _, _, _, _, _]) ν ν ν ν ν aB aB dn bn ν ?_
 refine bD (E := cL) (xs := [_, _, _, _, _, _]) ν ν ν ν ν aB aB dn bn ν ?_
 refine bD (E := cL) (xs := [_, _, _, _, _, _, _]) ν ν ν ν ν aB aB dn bn ν ?_
 refine bD (E := cL) (xs := [_, _, _, _, _, _, _]) ν ν ν ν ν aB aB dn bn ν ?_
 refine bD (E := cL) (xs := [_, _, _, _, _, _]) ν ν ν ν ν aB aB dn bn ν ?_
 refine bD (E := cL) (xs := [_, _, _, _]) ν ν ν ν ν aB aB dn bn ν ?_
 refine bD (E := cL) (xs := [_, _, _, _, _, _, _]) ν ν ν ν ν aB aB dn bn ν ?_
 refine bD (E := cL) (xs := [_, _, _, _, _]) ν ν ν ν ν aB aB dn bn ν ?_
 refine bD (E := cL) (xs := [_, _, _, _]) ν ν ν ν ν aB aB dn bn ν ?_
 refine bD (E := cL) (xs := [_, _, _, _]) ν ν ν ν ν aB aB dn bn ν ?_
 refine bD (E := cL) (xs := [_, _, _, _, _]) ν ν ν ν ν aB aB dn bn ν ?_
 refine bD (E := cL) (xs := [_, _, _, _]) ν ν ν ν ν aB aB dn bn ν ?_
 refine bD (E := cL) (xs := [_, _, _, _, _]) ν ν ν ν ν aB aB dn bn ν ?_
 refine bD (E := cY) (xs := [_, _, _, _, _, _, _, _, _, _, _, _, _, _]) ν ν ν ν ν aB aB oD bn ν ?_
 refine iX ν (aD (aC (aF (aF ?_))))
 refine fK (s := 1) ν (Ty.fq (show _ = gw from ν)) ?_
 refine cK (B := live [(1, Ty.sl cY gw)] []) ?_ ?_
 ·refine dw.mk' ?_ ?_
  ·(repeat (first | refine aG ?_ (Ty.bC _) | refine aG ?_ (Ty.aM _))); exact aQ
  exact aR
 refine aA (cM ν (bU ν ν ν (bA ν (aD (aC (aV ?_))))))
 refine bf (fun (i : {i : Nat // i ≤ gw.length}) => live [(41, Ty.sl cY gw), (42, Ty.int .i64 gw.length), (43, Ty.int .i64 (i.1 : Nat))] []) (fun i => gw.length - i.1) (⟨0, by omega⟩) ?_ fun i => ?_
 ·exact bt
 have hi := i.2
 refine aF (aA (ah ν ν ν (aD (aC (aF ?_)))))
 refine aU ν (fun hc1 => ?_) (fun hc1 => ?_)
 ·refine aX (aC (aF (aV (aF (aA (bA ν (af ν ν ν ν ν ν aE (aJ ν ν ν ν (bS ν (iX ν (aD (aC (aF ?_)))))))))))))
  have hi14 : i.1 < 14 := by have h1 : (i.1 : Int) < (gw.length : Int) := hc1; have : gw.length = 14 := rfl; omega
  have hl7 := Nr i.1 hi14
  have hlx : (qw i.1).length ≤ 9 := by { show ([9223372036854775807, -9223372036854775808] ++ nth gw i.1).length ≤ 9; rw [List.length_append]; show 2 + _ ≤ 9; omega }
  refine aA ?_
  refine dx (E := cL) (xs := [9223372036854775807, -9223372036854775808]) ν ν ν ν ν aB aB dn bn ν ν ?_
  refine cM ν (cG ν ν aB ν ν ν ν ν ν aB bp bp (gL ν ν ν (bA ν (aD (aC ?_)))))
  refine jA (tg := 49) [(50, Ty.sl cL (qw i.1))] aB rfl ⟨oQ rfl, trivial⟩ ?_
  refine aV ?_
  refine bf (fun (k : {k : Nat // k ≤ (qw i.1).length}) => live [(2, Ty.int .i64 (i.1 : Nat)), (41, Ty.sl cY gw), (42, Ty.int .i64 gw.length), (43, Ty.int .i64 (i.1 : Nat)), (50, Ty.sl cL (qw i.1)), (51, Ty.int .i64 (qw i.1).length), (52, Ty.int .i64 (k.1 : Nat))] []) (fun k => (qw i.1).length - k.1) (⟨0, by omega⟩) ?_ fun k => ?_
  ·exact bt
  have hk := k.2
  refine aF (aA (ah ν ν ν (aD (aC (aF ?_)))))
  refine aU ν (fun hc2 => ?_) (fun hc2 => ?_)
  ·refine aX (aC (aF (aV (aF (aA (af ν ν ν ν ν ν aE (aJ ν ν ν ν (bS ν (aD (aC (aF ?_)))))))))))
   obtain ⟨x, ex⟩ : ∃ x, nth (qw i.1) k.1 = x := ⟨_, rfl⟩
   refine fK (s := 5) ν (Ty.bO ex) ?_
   refine cK (B := live [(5, Ty.int .i64 x), (2, Ty.int .i64 (i.1 : Nat)), (41, Ty.sl cY gw), (42, Ty.int .i64 gw.length), (43, Ty.int .i64 (i.1 : Nat)), (50, Ty.sl cL (qw i.1)), (51, Ty.int .i64 (qw i.1).length), (52, Ty.int .i64 (k.1 : Nat))] []) ?_ ?_
   ·refine dw.mk' ?_ ?_
    ·(repeat (first | refine aG ?_ (Ty.bC _) | refine aG ?_ (Ty.aM _))); exact aQ
    exact aR
   refine JR ?_
   refine EH.cut 2 (live [(5, Ty.int .i64 x), (2, Ty.int .i64 (i.1 : Nat)), (41, Ty.sl cY gw), (42, Ty.int .i64 gw.length), (43, Ty.int .i64 (i.1 : Nat)), (50, Ty.sl cL (qw i.1)), (51, Ty.int .i64 (qw i.1).length), (52, Ty.int .i64 (k.1 : Nat)), (57, Ty.agg [Ty.row cL 3 91 [50, 50, 50, 50, 25], Ty.row cZ 58 92 [⟨30, 0, 1⟩, ⟨20, 1, 0⟩, ⟨40, 2, 2⟩]])] []) ?_ ?_
   ·refine bD (E := cL) (xs := [_, _]) ν ν ν ν ν aB aB dn bn ν ?_
    refine fM (res' := Ty.agg [Ty.row cL 3 91 [50, 50, 50, 50, 25], Ty.row cZ 58 92 [⟨30, 0, 1⟩, ⟨20, 1, 0⟩, ⟨40, 2, 2⟩]]) [(91, 4), (92, 10)] [91, 92] [] (N5 [50, 25] aB) ν ν n9 pre_nil post_nil (jK (cV (cV fT (fD aB)) (fD aB))) ?_
    refine aD ?_
    refine dw.mk' ?_ ?_
    ·(repeat (first | refine aG ?_ (Ty.bC _) | refine aG ?_ (Ty.aM _))); exact aQ
    exact aR
   refine EH.cut 3 (live [(5, Ty.int .i64 x), (2, Ty.int .i64 (i.1 : Nat)), (41, Ty.sl cY gw), (42, Ty.int .i64 gw.length), (43, Ty.int .i64 (i.1 : Nat)), (50, Ty.sl cL (qw i.1)), (51, Ty.int .i64 (qw i.1).length), (52, Ty.int .i64 (k.1 : Nat)), (57, Ty.agg [Ty.row cL 3 91 [50, 50, 50, 50, 25], Ty.row cZ 58 92 [⟨30, 0, 1⟩, ⟨20, 1, 0⟩, ⟨40, 2, 2⟩]]), (58, Ty.agg [Ty.int .i64 2, Ty.int .i64 3, Ty.int .i64 2]), (60, Ty.vs 60 1)] [(59, Cont.cells 3 [Ty.int .i64 0, Ty.int .i64 1]), (60, Cont.cells 22 [Ty.vs 59 2])]) ?_ ?_
   ·refine EW ν ν ν bW dn ν ?_
    refine lE 59 (l := [Ty.int .i64 0, Ty.int .i64 1]) ν ν ν ν aB aB aB aB aB ν ν dn ν ?_
    refine lE 60 (l := [Ty.vs 59 2]) ν ν ν ν aB aB aB aB aB ν ν Qv ν ?_
    refine aD ?_
    refine dw.mk' ?_ ?_
    ·(repeat (first | refine aG ?_ (Ty.bC _) | refine aG ?_ (Ty.aM _))); exact aQ
    refine aL ν (Cont.aM _) ?_; refine aL ν (Cont.aM _) ?_; exact aR
   refine EH.last (bZ ν bW ν (bZ ν bW ν (bK ν ν aB ν ν ν ν ν ν (bK ν ν aB ν ν ν ν ν ν (Pe ν (aD (aC (aF ?_))))))))
   refine nD (c0 := 7) 0 ν ν ?_
   refine nD (c0 := 7) 1 ν ν ?_
   refine kr (tg := 7) rfl (Cont.lK (l' := [Ty.vs 91 5, Ty.vs 92 3]) ⟨Ty.td rfl, Ty.td rfl, trivial⟩) ?_
   refine cK (B := live [(5, Ty.int .i64 x), (6, Ty.ptr 7 0), (7, Ty.ptr 8 0), (8, Ty.vs 60 1), (2, Ty.int .i64 (i.1 : Nat)), (41, Ty.sl cY gw), (42, Ty.int .i64 gw.length), (43, Ty.int .i64 (i.1 : Nat)), (50, Ty.sl cL (qw i.1)), (51, Ty.int .i64 (qw i.1).length), (52, Ty.int .i64 (k.1 : Nat))] [(7, Cont.cells 25 [Ty.vs 91 5, Ty.vs 92 3]), (8, Cont.cells 55 [Ty.int .i64 2, Ty.int .i64 3, Ty.int .i64 2]), (59, Cont.cells 3 [Ty.int .i64 0, Ty.int .i64 1]), (60, Cont.cells 22 [Ty.vs 59 2]), (91, Cont.vec cL 3 [50, 50, 50, 50, 25]), (92, Cont.vec cZ 58 [⟨30, 0, 1⟩, ⟨20, 1, 0⟩, ⟨40, 2, 2⟩])]) ?_ ?_
   ·refine dw.mk' ?_ ?_
    ·(repeat (first | refine aG ?_ (Ty.bC _) | refine aG ?_ (Ty.aM _))); exact aQ
    refine aL ν (Cont.aM _) ?_; refine aL ν (Cont.aM _) ?_; refine aL ν (Cont.aM _) ?_; refine aL ν (Cont.aM _) ?_; refine aL ν (Cont.aM _) ?_; refine aL ν (Cont.aM _) ?_; exact aR
   refine aA (cC ν ν bW ν dn eU ?_)
   refine cC ν ν bW ν dn eU ?_
   refine cC ν ν bW ν dn eU ?_
   refine lE 64 (l := [Ty.int .i64 1, Ty.int .i64 3, Ty.int .i64 0, Ty.int .i64 1, Ty.int .i64 1, Ty.int .i64 0]) ν ν ν ν aB aB aB aB aB ν ν mH ν ?_
   refine Pe ν (aD (aC (aF ?_)))
   refine cK (B := live [(5, Ty.int .i64 x), (6, Ty.ptr 7 0), (7, Ty.ptr 8 0), (8, Ty.vs 60 1), (9, Ty.vs 64 3), (2, Ty.int .i64 (i.1 : Nat)), (41, Ty.sl cY gw), (42, Ty.int .i64 gw.length), (43, Ty.int .i64 (i.1 : Nat)), (50, Ty.sl cL (qw i.1)), (51, Ty.int .i64 (qw i.1).length), (52, Ty.int .i64 (k.1 : Nat))] [(7, Cont.cells 25 [Ty.vs 91 5, Ty.vs 92 3]), (8, Cont.cells 55 [Ty.int .i64 2, Ty.int .i64 3, Ty.int .i64 2]), (59, Cont.cells 3 [Ty.int .i64 0, Ty.int .i64 1]), (60, Cont.cells 22 [Ty.vs 59 2]), (64, Cont.cells 37 [Ty.int .i64 1, Ty.int .i64 3, Ty.int .i64 0, Ty.int .i64 1, Ty.int .i64 1, Ty.int .i64 0]), (91, Cont.vec cL 3 [50, 50, 50, 50, 25]), (92, Cont.vec cZ 58 [⟨30, 0, 1⟩, ⟨20, 1, 0⟩, ⟨40, 2, 2⟩])]) ?_ ?_
   ·refine dw.mk' ?_ ?_
    ·(repeat (first | refine aG ?_ (Ty.bC _) | refine aG ?_ (Ty.aM _))); exact aQ
    refine aL ν (Cont.aM _) ?_; refine aL ν (Cont.aM _) ?_; refine aL ν (Cont.aM _) ?_; refine aL ν (Cont.aM _) ?_; refine aL ν (Cont.aM _) ?_; refine aL ν (Cont.aM _) ?_; refine aL ν (Cont.aM _) ?_; exact aR
   refine aA (cC ν ν bW ν dn eU ?_)
   refine cC ν ν bW ν dn eU ?_
   refine lE 67 (l := [Ty.int .i64 0, Ty.int .i64 3, Ty.int .i64 1, Ty.int .i64 4]) ν ν ν ν aB aB aB aB aB ν ν mH ν ?_
   refine cC ν ν bW ν dn eU ?_
   refine cC ν ν bW ν dn eU ?_
   refine bD (E := bq) (xs := [⟨0, 1⟩, ⟨1, 0⟩]) ν ν ν ν ν aB aB mH bn ν ?_
   refine lE 71 (l := [Ty.vs 67 2, Ty.sl bq [⟨0, 1⟩, ⟨1, 0⟩]]) ν ν ν ν aB aB aB aB aB ν ν (by repeat (first | exact (dJ.nil : dJ _ _ [] _) | (show dJ _ _ ((_, _) :: _) _; apply dJ.one; (· first | exact (ν : _ = Ty.sl _ _) | exact (ν : _ = Ty.vs _ _)); (· exact ν)))) ν ?_
   refine Pe ν (aD (aC ?_))
   refine l8 (J := live [(6, Ty.ptr 7 0), (7, Ty.ptr 8 0), (8, Ty.vs 60 1), (9, Ty.vs 64 3), (10, Ty.vs 71 2), (2, Ty.int .i64 (i.1 : Nat)), (41, Ty.sl cY gw), (42, Ty.int .i64 gw.length), (43, Ty.int .i64 (i.1 : Nat)), (50, Ty.sl cL (qw i.1)), (51, Ty.int .i64 (qw i.1).length), (52, Ty.int .i64 (k.1 : Nat))] [(7, Cont.cells 25 [Ty.vs 91 5, Ty.vs 92 3]), (8, Cont.cells 55 [Ty.int .i64 (nT 6 2 i.1 x), Ty.int .i64 (nT 7 3 i.1 x), Ty.int .i64 (nT 8 2 i.1 x)]), (59, Cont.vec cL 3 (Gd i.1 x)), (60, Cont.cells 22 [Ty.vs 59 2]), (64, Cont.vec bq 37 (xV i.1 x)), (67, Cont.vec bq 37 (Hj i.1 x)), (71, Cont.cells 29 [Ty.vs 67 2, Ty.sl bq [⟨0, 1⟩, ⟨1, 0⟩]]), (91, Cont.vec cL 3 (Jc i.1 x)), (92, Cont.vec cZ 58 (Ip i.1 x))]) ?_ ?_
   ·refine cK (B := live [(5, Ty.int .i64 x), (6, Ty.ptr 7 0), (7, Ty.ptr 8 0), (8, Ty.vs 60 1), (9, Ty.vs 64 3), (10, Ty.vs 71 2), (2, Ty.int .i64 (i.1 : Nat)), (41, Ty.sl cY gw), (42, Ty.int .i64 gw.length), (43, Ty.int .i64 (i.1 : Nat)), (50, Ty.sl cL (qw i.1)), (51, Ty.int .i64 (qw i.1).length), (52, Ty.int .i64 (k.1 : Nat))] [(7, Cont.cells 25 [Ty.vs 91 5, Ty.vs 92 3]), (8, Cont.cells 55 [Ty.int .i64 2, Ty.int .i64 3, Ty.int .i64 2]), (59, Cont.cells 3 [Ty.int .i64 0, Ty.int .i64 1]), (60, Cont.cells 22 [Ty.vs 59 2]), (64, Cont.cells 37 [Ty.int .i64 1, Ty.int .i64 3, Ty.int .i64 0, Ty.int .i64 1, Ty.int .i64 1, Ty.int .i64 0]), (67, Cont.cells 37 [Ty.int .i64 0, Ty.int .i64 3, Ty.int .i64 1, Ty.int .i64 4]), (71, Cont.cells 29 [Ty.vs 67 2, Ty.sl bq [⟨0, 1⟩, ⟨1, 0⟩]]), (91, Cont.vec cL 3 [50, 50, 50, 50, 25]), (92, Cont.vec cZ 58 [⟨30, 0, 1⟩, ⟨20, 1, 0⟩, ⟨40, 2, 2⟩])]) ?_ ?_
    ·refine dw.mk' ?_ ?_
     ·(repeat (first | refine aG ?_ (Ty.bC _) | refine aG ?_ (Ty.aM _))); exact aQ
     refine aL ν (Cont.aM _) ?_; refine aL ν (Cont.aM _) ?_; refine aL ν (Cont.aM _) ?_; refine aL ν (Cont.aM _) ?_; refine aL ν (Cont.aM _) ?_; refine aL ν (Cont.aM _) ?_; refine aL ν (Cont.aM _) ?_; refine aL ν (Cont.aM _) ?_; refine aL ν (Cont.aM _) ?_; exact aR
    obtain ⟨i, hi0⟩ := i
    have hi14' : i < 14 := hi14
    clear hi14
    rcases (show i = 0 ∨ i = 1 ∨ i = 2 ∨ i = 3 ∨ i = 4 ∨ i = 5 ∨ i = 6 ∨ i = 7 ∨ i = 8 ∨ i = 9 ∨ i = 10 ∨ i = 11 ∨ i = 12 ∨ i = 13 by omega) with rfl | rfl | rfl | rfl | rfl | rfl | rfl | rfl | rfl | rfl | rfl | rfl | rfl | rfl
    all_goals
     refine cH mixed ν (ak ν ν ν ν ν aB (aq ν ν aB ν ν ν ?_))
     refine dU (i := 0) ν ν ν ν ν aB ?_
     refine ak ν ν ν ν ν aB (aq ν ν aB ν ν ν ?_)
     refine dU (i := 3) ν ν ν ν ν aB ?_
     refine ak ν ν ν ν ν aB (aq ν ν aB ν ν ν ?_)
     refine dU (i := 0) ν ν ν ν ν aB ?_
     refine ak ν ν ν ν ν aB (ak ν ν ν ν ν aB (aq ν ν aB ν ν ν ?_))
     refine dU (i := 0) ν ν ν ν ν aB ?_
     refine ak ν ν ν ν ν aB (ak ν ν ν ν ν aB (aq ν ν aB ν ν ν ?_))
     refine dU (i := 0) ν ν ν ν ν aB ?_
     refine ak ν ν ν ν ν aB (ak ν ν ν ν ν aB (aq ν ν aB ν ν ν ?_))
     refine dU (i := 2) ν ν ν ν ν aB ?_
     refine ak ν ν ν ν ν aB ?_
     refine oI (i := 0) ν ν ν ν ν aB ?_
     refine oI (i := 1) ν ν ν ν ν aB ?_
     refine oI (i := 2) ν ν ν ν ν aB ?_
     refine vZ ν ?_
     refine dU (i := 0) ν ν ν ν ν aB ?_
     refine aq ν ν aB ν ν ν ?_
     refine dU (i := 1) ν ν ν ν ν aB ?_
     refine vZ ν ?_
     refine dU (i := 1) ν ν ν ν ν aB ?_
     refine ak ν ν ν ν ν aB (vZ ν ?_)
     refine dU (i := 1) ν ν ν ν ν aB ?_
     refine ak ν ν ν ν ν aB (vZ ν ?_)
     refine dU (i := 0) ν ν ν ν ν aB ?_
     refine aq ν ν aB ν ν ν ?_
     refine dU (i := 1) ν ν ν ν ν aB ?_
     refine ak ν ν ν ν ν aB (vZ ν ?_)
     refine dU (i := 0) ν ν ν ν ν aB ?_
     refine aq ν ν aB ν ν ν ?_
     refine dU (i := 1) ν ν ν ν ν aB ?_
     refine ak ν ν ν ν ν aB ?_
     refine lE 118 (l := [Ty.ptr 91 0, Ty.ptr 91 3, Ty.ptr 92 0, Ty.ptr 92 1, Ty.ptr 92 2, Ty.ptr 92 8, Ty.ptr 8 0, Ty.ptr 8 1, Ty.ptr 8 2, Ty.ptr 59 1, Ty.ptr 64 2, Ty.ptr 64 3, Ty.ptr 67 2, Ty.ptr 67 3]) ν ν ν ν aB aB aB aB aB ν ν (by repeat (first | exact (dJ.nil : dJ _ _ [] _) | (show dJ _ _ ((_, _) :: _) _; apply dJ.one; (· exact (ν : _ = Ty.ptr _ _)); (· exact ν)))) ν ?_
     refine bA ν (dU ν ν ν ν ν aE (aq ν ν aB ν ν ν (bA ν (rG ν ?_))))
     first | refine dH rfl rfl aB rfl rfl rfl rfl aB rfl rfl rfl ?_ | refine jf (E := cL) (z := x) 0 0 rfl rfl rfl aB rfl rfl gR rfl aB aB rfl (by rfl) ?_ | refine jf (E := cL) (z := x) 3 0 rfl rfl rfl aB rfl rfl gR rfl aB aB rfl (by rfl) ?_ | refine jf (E := cZ) (z := ⟨x, 0, 1⟩) 0 0 rfl rfl rfl aB rfl rfl gR rfl aB aB rfl Gw ?_ | refine jf (E := cZ) (z := ⟨30, x, 1⟩) 0 1 rfl rfl rfl aB rfl rfl gR rfl aB aB rfl Gw ?_ | refine jf (E := cZ) (z := ⟨30, 0, x⟩) 0 2 rfl rfl rfl aB rfl rfl gR rfl aB aB rfl Gw ?_ | refine jf (E := cZ) (z := ⟨40, 2, x⟩) 2 2 rfl rfl rfl aB rfl rfl gR rfl aB aB rfl Gw ?_
     refine aD ?_
     refine ⟨by kernel_rfl, ?_⟩
     refine fB ?_
     (refine dw.mk' ?_ ?_ <;> (repeat' (first | exact aQ | exact aR | refine aG ?_ (Ty.bC _) | refine aG ?_ (Ty.aM _) | refine aL rfl (Cont.aM _) ?_ | refine aL rfl ?_ ?_)))
     all_goals exact vo rfl
   refine aF ?_
   refine j8 (tg := 91) [] [(7, Cont.cells 25 [Ty.sl cL (Jc i.1 x), Ty.vs 92 3])] aB rfl trivial ⟨eW rfl rfl ⟨pW rfl Nj aB, cF rfl, trivial⟩, trivial⟩ ?_
   refine cK (B := live [(6, Ty.ptr 7 0), (7, Ty.ptr 8 0), (8, Ty.vs 60 1), (9, Ty.vs 64 3), (10, Ty.vs 71 2), (2, Ty.int .i64 (i.1 : Nat)), (41, Ty.sl cY gw), (42, Ty.int .i64 gw.length), (43, Ty.int .i64 (i.1 : Nat)), (50, Ty.sl cL (qw i.1)), (51, Ty.int .i64 (qw i.1).length), (52, Ty.int .i64 (k.1 : Nat))] [(7, Cont.cells 25 [Ty.sl cL (Jc i.1 x), Ty.vs 92 3]), (8, Cont.cells 55 [Ty.int .i64 (nT 6 2 i.1 x), Ty.int .i64 (nT 7 3 i.1 x), Ty.int .i64 (nT 8 2 i.1 x)]), (59, Cont.vec cL 3 (Gd i.1 x)), (60, Cont.cells 22 [Ty.vs 59 2]), (64, Cont.vec bq 37 (xV i.1 x)), (67, Cont.vec bq 37 (Hj i.1 x)), (71, Cont.cells 29 [Ty.vs 67 2, Ty.sl bq [⟨0, 1⟩, ⟨1, 0⟩]]), (92, Cont.vec cZ 58 (Ip i.1 x))]) ?_ ?_
   ·refine dw.mk' ?_ ?_
    ·(repeat (first | refine aG ?_ (Ty.bC _) | refine aG ?_ (Ty.aM _))); exact aQ
    refine aL ν (Cont.aM _) ?_; refine aL ν (Cont.aM _) ?_; refine aL ν (Cont.aM _) ?_; refine aL ν (Cont.aM _) ?_; refine aL ν (Cont.aM _) ?_; refine aL ν (Cont.aM _) ?_; refine aL ν (Cont.aM _) ?_; refine aL ν (Cont.aM _) ?_; exact aR
   refine j8 (tg := 92) [] [(7, Cont.cells 25 [Ty.sl cL (Jc i.1 x), Ty.sl cZ (Ip i.1 x)])] aB rfl trivial ⟨eW rfl rfl ⟨cF rfl, pW rfl HF aB, trivial⟩, trivial⟩ ?_
   refine cK (B := live [(6, Ty.ptr 7 0), (7, Ty.ptr 8 0), (8, Ty.vs 60 1), (9, Ty.vs 64 3), (10, Ty.vs 71 2), (2, Ty.int .i64 (i.1 : Nat)), (41, Ty.sl cY gw), (42, Ty.int .i64 gw.length), (43, Ty.int .i64 (i.1 : Nat)), (50, Ty.sl cL (qw i.1)), (51, Ty.int .i64 (qw i.1).length), (52, Ty.int .i64 (k.1 : Nat))] [(7, Cont.cells 25 [Ty.sl cL (Jc i.1 x), Ty.sl cZ (Ip i.1 x)]), (8, Cont.cells 55 [Ty.int .i64 (nT 6 2 i.1 x), Ty.int .i64 (nT 7 3 i.1 x), Ty.int .i64 (nT 8 2 i.1 x)]), (59, Cont.vec cL 3 (Gd i.1 x)), (60, Cont.cells 22 [Ty.vs 59 2]), (64, Cont.vec bq 37 (xV i.1 x)), (67, Cont.vec bq 37 (Hj i.1 x)), (71, Cont.cells 29 [Ty.vs 67 2, Ty.sl bq [⟨0, 1⟩, ⟨1, 0⟩]])]) ?_ ?_
   ·refine dw.mk' ?_ ?_
    ·(repeat (first | refine aG ?_ (Ty.bC _) | refine aG ?_ (Ty.aM _))); exact aQ
    refine aL ν (Cont.aM _) ?_; refine aL ν (Cont.aM _) ?_; refine aL ν (Cont.aM _) ?_; refine aL ν (Cont.aM _) ?_; refine aL ν (Cont.aM _) ?_; refine aL ν (Cont.aM _) ?_; refine aL ν (Cont.aM _) ?_; exact aR
   refine j8 (tg := 59) [] [(60, Cont.cells 22 [Ty.sl cL (Gd i.1 x)])] aB rfl trivial ⟨eW rfl rfl ⟨pW rfl Mr aB, trivial⟩, trivial⟩ ?_
   refine cK (B := live [(6, Ty.ptr 7 0), (7, Ty.ptr 8 0), (8, Ty.vs 60 1), (9, Ty.vs 64 3), (10, Ty.vs 71 2), (2, Ty.int .i64 (i.1 : Nat)), (41, Ty.sl cY gw), (42, Ty.int .i64 gw.length), (43, Ty.int .i64 (i.1 : Nat)), (50, Ty.sl cL (qw i.1)), (51, Ty.int .i64 (qw i.1).length), (52, Ty.int .i64 (k.1 : Nat))] [(7, Cont.cells 25 [Ty.sl cL (Jc i.1 x), Ty.sl cZ (Ip i.1 x)]), (8, Cont.cells 55 [Ty.int .i64 (nT 6 2 i.1 x), Ty.int .i64 (nT 7 3 i.1 x), Ty.int .i64 (nT 8 2 i.1 x)]), (60, Cont.cells 22 [Ty.sl cL (Gd i.1 x)]), (64, Cont.vec bq 37 (xV i.1 x)), (67, Cont.vec bq 37 (Hj i.1 x)), (71, Cont.cells 29 [Ty.vs 67 2, Ty.sl bq [⟨0, 1⟩, ⟨1, 0⟩]])]) ?_ ?_
   ·refine dw.mk' ?_ ?_
    ·(repeat (first | refine aG ?_ (Ty.bC _) | refine aG ?_ (Ty.aM _))); exact aQ
    refine aL ν (Cont.aM _) ?_; refine aL ν (Cont.aM _) ?_; refine aL ν (Cont.aM _) ?_; refine aL ν (Cont.aM _) ?_; refine aL ν (Cont.aM _) ?_; refine aL ν (Cont.aM _) ?_; exact aR
   refine kr (tg := 60) ν (vo (E := cY) (xs := [Gd i.1 x]) ν) ?_
   refine jA (tg := 60) [(8, Ty.sl cY [Gd i.1 x])] aB rfl ⟨l6 rfl rfl rfl aB, trivial⟩ ?_
   refine cK (B := live [(6, Ty.ptr 7 0), (7, Ty.ptr 8 0), (8, Ty.sl cY [Gd i.1 x]), (9, Ty.vs 64 3), (10, Ty.vs 71 2), (2, Ty.int .i64 (i.1 : Nat)), (41, Ty.sl cY gw), (42, Ty.int .i64 gw.length), (43, Ty.int .i64 (i.1 : Nat)), (50, Ty.sl cL (qw i.1)), (51, Ty.int .i64 (qw i.1).length), (52, Ty.int .i64 (k.1 : Nat))] [(7, Cont.cells 25 [Ty.sl cL (Jc i.1 x), Ty.sl cZ (Ip i.1 x)]), (8, Cont.cells 55 [Ty.int .i64 (nT 6 2 i.1 x), Ty.int .i64 (nT 7 3 i.1 x), Ty.int .i64 (nT 8 2 i.1 x)]), (64, Cont.vec bq 37 (xV i.1 x)), (67, Cont.vec bq 37 (Hj i.1 x)), (71, Cont.cells 29 [Ty.vs 67 2, Ty.sl bq [⟨0, 1⟩, ⟨1, 0⟩]])]) ?_ ?_
   ·refine dw.mk' ?_ ?_
    ·(repeat (first | refine aG ?_ (Ty.bC _) | refine aG ?_ (Ty.aM _))); exact aQ
    refine aL ν (Cont.aM _) ?_; refine aL ν (Cont.aM _) ?_; refine aL ν (Cont.aM _) ?_; refine aL ν (Cont.aM _) ?_; refine aL ν (Cont.aM _) ?_; exact aR
   refine jA (tg := 64) [(9, Ty.sl bq (xV i.1 x))] aB rfl ⟨l6 rfl rfl MM aB, trivial⟩ ?_
   refine cK (B := live [(6, Ty.ptr 7 0), (7, Ty.ptr 8 0), (8, Ty.sl cY [Gd i.1 x]), (9, Ty.sl bq (xV i.1 x)), (10, Ty.vs 71 2), (2, Ty.int .i64 (i.1 : Nat)), (41, Ty.sl cY gw), (42, Ty.int .i64 gw.length), (43, Ty.int .i64 (i.1 : Nat)), (50, Ty.sl cL (qw i.1)), (51, Ty.int .i64 (qw i.1).length), (52, Ty.int .i64 (k.1 : Nat))] [(7, Cont.cells 25 [Ty.sl cL (Jc i.1 x), Ty.sl cZ (Ip i.1 x)]), (8, Cont.cells 55 [Ty.int .i64 (nT 6 2 i.1 x), Ty.int .i64 (nT 7 3 i.1 x), Ty.int .i64 (nT 8 2 i.1 x)]), (67, Cont.vec bq 37 (Hj i.1 x)), (71, Cont.cells 29 [Ty.vs 67 2, Ty.sl bq [⟨0, 1⟩, ⟨1, 0⟩]])]) ?_ ?_
   ·refine dw.mk' ?_ ?_
    ·(repeat (first | refine aG ?_ (Ty.bC _) | refine aG ?_ (Ty.aM _))); exact aQ
    refine aL ν (Cont.aM _) ?_; refine aL ν (Cont.aM _) ?_; refine aL ν (Cont.aM _) ?_; refine aL ν (Cont.aM _) ?_; exact aR
   refine j8 (tg := 67) [] [(71, Cont.cells 29 [Ty.sl bq (Hj i.1 x), Ty.sl bq [⟨0, 1⟩, ⟨1, 0⟩]])] aB rfl trivial ⟨eW rfl rfl ⟨pW rfl Mz aB, cF rfl, trivial⟩, trivial⟩ ?_
   refine cK (B := live [(6, Ty.ptr 7 0), (7, Ty.ptr 8 0), (8, Ty.sl cY [Gd i.1 x]), (9, Ty.sl bq (xV i.1 x)), (10, Ty.vs 71 2), (2, Ty.int .i64 (i.1 : Nat)), (41, Ty.sl cY gw), (42, Ty.int .i64 gw.length), (43, Ty.int .i64 (i.1 : Nat)), (50, Ty.sl cL (qw i.1)), (51, Ty.int .i64 (qw i.1).length), (52, Ty.int .i64 (k.1 : Nat))] [(7, Cont.cells 25 [Ty.sl cL (Jc i.1 x), Ty.sl cZ (Ip i.1 x)]), (8, Cont.cells 55 [Ty.int .i64 (nT 6 2 i.1 x), Ty.int .i64 (nT 7 3 i.1 x), Ty.int .i64 (nT 8 2 i.1 x)]), (71, Cont.cells 29 [Ty.sl bq (Hj i.1 x), Ty.sl bq [⟨0, 1⟩, ⟨1, 0⟩]])]) ?_ ?_
   ·refine dw.mk' ?_ ?_
    ·(repeat (first | refine aG ?_ (Ty.bC _) | refine aG ?_ (Ty.aM _))); exact aQ
    refine aL ν (Cont.aM _) ?_; refine aL ν (Cont.aM _) ?_; refine aL ν (Cont.aM _) ?_; exact aR
   refine kr (tg := 71) ν (vo (E := eG) (xs := [Hj i.1 x, [⟨0, 1⟩, ⟨1, 0⟩]]) ν) ?_
   refine jA (tg := 71) [(10, Ty.sl eG [Hj i.1 x, [⟨0, 1⟩, ⟨1, 0⟩]])] aB rfl ⟨l6 rfl rfl rfl aB, trivial⟩ ?_
   refine cK (B := live [(6, Ty.ptr 7 0), (7, Ty.ptr 8 0), (8, Ty.sl cY [Gd i.1 x]), (9, Ty.sl bq (xV i.1 x)), (10, Ty.sl eG [Hj i.1 x, [⟨0, 1⟩, ⟨1, 0⟩]]), (2, Ty.int .i64 (i.1 : Nat)), (41, Ty.sl cY gw), (42, Ty.int .i64 gw.length), (43, Ty.int .i64 (i.1 : Nat)), (50, Ty.sl cL (qw i.1)), (51, Ty.int .i64 (qw i.1).length), (52, Ty.int .i64 (k.1 : Nat))] [(7, Cont.cells 25 [Ty.sl cL (Jc i.1 x), Ty.sl cZ (Ip i.1 x)]), (8, Cont.cells 55 [Ty.int .i64 (nT 6 2 i.1 x), Ty.int .i64 (nT 7 3 i.1 x), Ty.int .i64 (nT 8 2 i.1 x)])]) ?_ ?_
   ·refine dw.mk' ?_ ?_
    ·(repeat (first | refine aG ?_ (Ty.bC _) | refine aG ?_ (Ty.aM _))); exact aQ
    refine aL ν (Cont.aM _) ?_; refine aL ν (Cont.aM _) ?_; exact aR
   refine aA (aW ν ν aB ν ν aP (aW ν ν aB ν ν aP (cM ν (cM ν (cM ν ?_)))))
   refine aa (DL ⟨Jc i.1 x, Ip i.1 x⟩ (nT 6 2 i.1 x) (nT 7 3 i.1 x) (nT 8 2 i.1 x) [Gd i.1 x] (xV i.1 x) [Hj i.1 x, [⟨0, 1⟩, ⟨1, 0⟩]] (by show (Ip i.1 x).length * 24 ≤ _; rw [HF]; decide)) rfl rfl rfl rfl rfl ?_
   refine dW ν (aD (aC (eP ν (ν) (aX (bE (aC (aA (bY ν ν aE aE (bA ν (aD ?_))))))))))
   refine bG (⟨k.1 + 1, by omega⟩) ?_ (by show (qw i.1).length - (k.1 + 1) < (qw i.1).length - k.1; omega)
   exact bt
  refine bQ (aI (aI (aS ν (bE (aC (aA (bY ν ν aE aE (bA ν (aD ?_)))))))))
  refine bG (⟨i.1 + 1, by omega⟩) ?_ (by show gw.length - (i.1 + 1) < gw.length - i.1; omega)
  exact bt
 refine bQ (aI (aI (aS ν (aC (aF (aF ?_))))))
 refine cK (B := live [] []) ?_ ?_
 ·refine dw.mk' ?_ ?_
  ·(repeat (refine aG ?_ (Ty.bC _))); exact aQ
  exact aR
 refine aA (bA ν (aD (aC (aV ?_))))
 refine bf (fun (n : {n : Nat // n ≤ 80}) => live [(132, Ty.int .i64 (n.1 : Nat))] []) (fun n => 80 - n.1) (⟨0, by omega⟩) ?_ fun n => ?_
 ·exact bt
 have hn := n.2
 refine aF (aA (ah ν ν ν (aD (aC (aF ?_)))))
 refine aU ν (fun hc4 => ?_) (fun hc4 => ?_)
 ·refine aX (aC (aF (aV (aF (aA (bA ν (bS ν (aD (aC (aF (aA (bZ ν bW ν (aD (aC (aF (aF ?_))))))))))))))))
  have hn8 : n.1 < 80 := by omega
  have h2 : ((n.1 : Nat) : Int).tmod 2 = ((n.1 % 2 : Nat) : Int) := Qj n.1 2
  have h3 : ((n.1 : Nat) : Int).tmod 3 = ((n.1 % 3 : Nat) : Int) := Qj n.1 3
  have h4 : ((n.1 : Nat) : Int).tmod 4 = ((n.1 % 4 : Nat) : Int) := Qj n.1 4
  have h6 : ((n.1 : Nat) : Int).tmod 6 = ((n.1 % 6 : Nat) : Int) := Qj n.1 6
  obtain ⟨L, eL, hL⟩ : ∃ L : Nat, 2 + ((n.1 : Nat) : Int).tmod 4 = (L : Nat) ∧ 2 ≤ L ∧ L ≤ 5 := ⟨2 + n.1 % 4, by omega, by omega⟩
  obtain ⟨M, eM, hM⟩ : ∃ M : Nat, (IntKind.i64.wrap (((n.1 : Nat) : Int).tdiv 2)).tmod 4 = (M : Nat) ∧ M ≤ 3 := ⟨n.1 / 2 % 4, by rw [show ((n.1 : Nat) : Int).tdiv 2 = ((n.1 / 2 : Nat) : Int) from R7 n.1 2, IntWalk.i64_in _ aE]; exact Qj _ 4, by omega⟩
  refine aA (bA ν (kj ν ν aE (bY ν ν aE aE (bA ν (aD (aC ?_))))))
  refine fK (s := 137) ν (Ty.bO eL) ?_
  refine aV ?_
  refine bf (fun (j : {j : Nat // j ≤ L}) => live [(11, Ty.int .i64 (n.1 : Nat)), (12, Ty.ptr 13 0), (132, Ty.int .i64 (n.1 : Nat)), (137, Ty.int .i64 (L : Nat)), (138, Ty.int .i64 (j.1 : Nat))] [(13, Cont.cells 25 [Ty.row cL 3 151 (QW n.1 j.1), Ty.ex (.slice none 0 0)])]) (fun j => L - j.1) (⟨0, by omega⟩) ?_ fun j => ?_
  ·exact KI
  have hj := j.2
  have hsl := Cw n.1 j.1
  refine aF (aA (ah ν ν ν (aD (aC (aF ?_)))))
  refine aU ν (fun hc5 => ?_) (fun hc5 => ?_)
  ·refine aX (aC (aF (aV (aF (aA (bA ν (bS ν (aD (aC ?_)))))))))
   have hjm := HU (a := ((n.1 : Nat) : Int)) (b := ((j.1 : Nat) : Int) + 1) aE aE
   have hjt := yU (a := ((n.1 : Nat) : Int) * (((j.1 : Nat) : Int) + 1)) (b := 7) hjm.1 aB
   refine aA (ak ν ν ν ν ν aB (aq ν ν aB ν ν ν (bA ν (bA ν (bY ν ν aE aE (L4 ν ν aE aE (kj ν ν aE (bY ν ν aE aE ?_))))))))
   refine bD (E := cL) (xs := [_]) ν ν ν ν ν aB aB dn bn ν ?_
   refine cG ν ν aB ν ν ν ν ν ν aB bp bp (ak ν ν ν ν ν aB (dH ν ν aB ν ν xS ν aP ν ν bn ?_))
   refine aD (bE (aC (aA (bY ν ν aE aE (bA ν (aD ?_))))))
   refine bG (⟨j.1 + 1, by omega⟩) ?_ (by show L - (j.1 + 1) < L - j.1; omega)
   exact dK
  refine bQ (aI (aI (aS ν (aC (aF (aF ?_))))))
  obtain ⟨j, hj⟩ := j
  obtain rfl : j = L := by have h1 : ¬ (j : Int) < (L : Int) := hc5; have h2 : j ≤ L := hj; omega
  refine j8 (tg := 151) [] [(13, Cont.cells 25 [Ty.sl cL (QW n.1 j), Ty.ex (.slice none 0 0)])] aB rfl trivial ⟨eW rfl rfl ⟨m9, cF rfl, trivial⟩, trivial⟩ ?_
  obtain ⟨sz, esz, hsz⟩ : ∃ sz, QW n.1 j = sz ∧ sz.length = j := ⟨_, rfl, Cw _ _⟩
  refine kr (tg := 13) ν (Cont.p8 (congrArg (fun l => [Ty.sl cL l, Ty.ex (.slice none 0 0)]) esz)) ?_
  refine cK (B := live [(11, Ty.int .i64 (n.1 : Nat)), (12, Ty.ptr 13 0), (132, Ty.int .i64 (n.1 : Nat))] [(13, Cont.cells 25 [Ty.sl cL sz, Ty.ex (.slice none 0 0)])]) ?_ ?_
  ·refine dw.mk' ?_ ?_
   ·(repeat (first | refine aG ?_ (Ty.bC _) | refine aG ?_ (Ty.aM _))); exact aQ
   refine aL ν (Cont.aM _) ?_; exact aR
  refine aA (bA ν (Qc ν ν aE (kj ν ν aE (bA ν (aD (aC ?_))))))
  refine fK (s := 155) ν (Ty.bO eM) ?_
  refine aV ?_
  refine bf (fun (m : {m : Nat // m ≤ M}) => live [(11, Ty.int .i64 (n.1 : Nat)), (12, Ty.ptr 13 0), (132, Ty.int .i64 (n.1 : Nat)), (155, Ty.int .i64 (M : Nat)), (156, Ty.int .i64 (m.1 : Nat))] [(13, Cont.cells 25 [Ty.sl cL sz, Ty.row cZ 58 188 (PG n.1 sz m.1)])]) (fun m => M - m.1) (⟨0, by omega⟩) ?_ fun m => ?_
  ·exact KI
  have hm := m.2
  have hll := Cl n.1 sz m.1
  refine aF (aA (ah ν ν ν (aD (aC (aF ?_)))))
  refine aU ν (fun hc6 => ?_) (fun hc6 => ?_)
  ·refine aX (aC (aF (aV (aF (aA (bA ν (bS ν (aD (aC (aF ?_))))))))))
   have hmm := HU (a := ((m.1 : Nat) : Int)) (b := 2 + ((n.1 : Nat) : Int).tmod 2) aE aE
   have hmt := yU (a := ((n.1 : Nat) : Int) + ((m.1 : Nat) : Int) * (2 + ((n.1 : Nat) : Int).tmod 2)) (b := (sz.length : Int) + 1) aE aE
   have hm6 := yU (a := ((n.1 : Nat) : Int) + ((m.1 : Nat) : Int)) (b := 6) aE aB
   refine aA (bA ν (bA ν (bA ν (kj ν ν aE (bY ν ν aE aE (L4 ν ν aE aE (bY ν ν aE aE (ak ν ν ν ν ν aB (aq ν ν aB ν ν ν (bU ν ν ν (bY ν ν aE aE (kj ν ν aE (ga ν ν aE aE (bS ν (aD (aC (cH mixed ν (ak ν ν ν ν ν aB (aq ν ν aB ν ν ν (bA ν (bA ν (bY ν ν aE aE (kj ν ν aE ?_)))))))))))))))))))))))
   refine bY ν ν aE aE (bA ν (ak ν ν ν ν ν aB (aq ν ν aB ν ν ν (bU ν ν ν (kj ν ν aE (bA ν (cC ν ν bW ν dn xO ?_)))))))
   refine bD (E := cZ) (xs := [⟨1 + (((n.1 : Nat) : Int) + ((m.1 : Nat) : Int)).tmod 6, ((m.1 : Nat) : Int).tmod (sz.length : Int), (((n.1 : Nat) : Int) + ((m.1 : Nat) : Int) * (2 + ((n.1 : Nat) : Int).tmod 2)).tmod ((sz.length : Int) + 1) - 1⟩]) ν ν ν ν ν aB aB mH bn ν ?_
   refine cG ν ν aB ν ν ν ν ν ν aB bp bp (ak ν ν ν ν ν aB (dH ν ν aB ν ν xS ν aP ν ν bn ?_))
   refine aD ?_
   refine ⟨by kernel_rfl, ?_⟩
   refine bE (aC (aA (bY ν ν aE aE (bA ν (aD ?_)))))
   refine bG (⟨m.1 + 1, by omega⟩) ?_ (by show M - (m.1 + 1) < M - m.1; omega)
   exact dK
  refine bQ (aI (aI (aS ν (aC (aF ?_)))))
  obtain ⟨m, hm⟩ := m
  obtain rfl : m = M := by have h1 : ¬ (m : Int) < (M : Int) := hc6; have h2 : m ≤ M := hm; omega
  refine j8 (tg := 188) [] [(13, Cont.cells 25 [Ty.sl cL sz, Ty.sl cZ (PG n.1 sz m)])] aB rfl trivial ⟨eW rfl rfl ⟨cF rfl, m9, trivial⟩, trivial⟩ ?_
  obtain ⟨b, eb, hb1⟩ : ∃ b : aT, [Ty.sl cL sz, Ty.sl cZ (PG n.1 sz m)] = bL b ∧ b.aO.length ≤ 4 ∧ b.sizes.length ≤ 5 := ⟨⟨sz, PG n.1 sz m⟩, rfl, (by show (PG n.1 sz m).length ≤ 4; rw [Cl]; omega), (by show sz.length ≤ 5; omega)⟩
  have hbs : b.Small := ⟨by omega, by omega⟩
  refine kr (tg := 13) ν (Cont.p8 eb) ?_
  refine cK (B := live [(11, Ty.int .i64 (n.1 : Nat)), (12, Ty.ptr 13 0), (132, Ty.int .i64 (n.1 : Nat))] [(13, Cont.cells 25 (bL b))]) ?_ ?_
  ·refine dw.mk' ?_ ?_
   ·(repeat (first | refine aG ?_ (Ty.bC _) | refine aG ?_ (Ty.aM _))); exact aQ
   refine aL ν (Cont.aM _) ?_; exact aR
  refine aA (aW ν ν aB ν ν aP ?_)
  refine fM (res' := Ty.iF [Ty.row cY 22 193 (if bH b = 0 then l7 b else []), Ty.int .i64 (bH b)]) [(193, 42)] [193] [] (Mg b hbs) ν ν n9 pre_nil post_nil (va (cV (cV fT (iC ν ν)) (fD aB))) ?_
  refine ke ν (aj ν ν (aj ν ν (iY ν (bS ν (aD (aC (aF ?_)))))))
  obtain ⟨rg, erg, hrg⟩ : ∃ l, (if bH b = 0 then l7 b else []) = l ∧ l.length ≤ 4 := ⟨_, rfl, IS hb1.1⟩
  refine fK (s := 16) ν (Ty.cv erg) ?_
  refine cK (B := live [(11, Ty.int .i64 (n.1 : Nat)), (12, Ty.ptr 13 0), (132, Ty.int .i64 (n.1 : Nat)), (16, Ty.row cY 22 193 rg)] [(13, Cont.cells 25 (bL b))]) ?_ ?_
  ·refine dw.mk' ?_ ?_
   ·(repeat (first | refine aG ?_ (Ty.bC _) | refine aG ?_ (Ty.aM _))); exact aQ
   refine aL ν (Cont.aM _) ?_; exact aR
  refine aA (aW ν ν aB ν ν aP (aa (Jt b hbs) ν ν ν ν ν (ke ν (aj ν ν (aj ν ν (iX ν (bS ν (aD (aC (aF ?_))))))))))
  obtain ⟨rd, erd, hrdf⟩ : ∃ l, dV b (1 + ((n.1 : Nat) : Int).tmod 3) = l ∧ l.length ≤ 40000000 := ⟨_, rfl, F2 _ _⟩
  obtain ⟨rd2, erd2⟩ : ∃ l, Q5 (decide (((n.1 : Nat) : Int).tmod 4 = 0) && decide ((rd.length : Int) > 0)) rd = l := ⟨_, rfl⟩
  obtain ⟨rg2, erg2⟩ : ∃ l, Q4 (decide (((n.1 : Nat) : Int).tmod 5 = 0) && decide ((rg.length : Int) > 0)) (((n.1 : Nat) : Int).tmod 4) rg = l := ⟨_, rfl⟩
  obtain ⟨pl, epl⟩ : ∃ l, gZ b dh = l := ⟨_, rfl⟩
  obtain ⟨pl2, epl2⟩ : ∃ l, Q2 (decide (((n.1 : Nat) : Int).tmod 3 = 0) && decide ((pl.length : Int) > 1)) pl = l := ⟨_, rfl⟩
  refine fK (s := 18) ν (Ty.fq epl) ?_
  refine cK (B := live [(11, Ty.int .i64 (n.1 : Nat)), (12, Ty.ptr 13 0), (132, Ty.int .i64 (n.1 : Nat)), (16, Ty.row cY 22 193 rg), (18, Ty.sl bq pl)] [(13, Cont.cells 25 (bL b))]) ?_ ?_
  ·refine dw.mk' ?_ ?_
   ·(repeat (first | refine aG ?_ (Ty.bC _) | refine aG ?_ (Ty.aM _))); exact aQ
   refine aL ν (Cont.aM _) ?_; exact aR
  refine aA (aW ν ν aB ν ν aP (bA ν (kj ν ν aE (bY ν ν aE aE ?_))))
  refine fM (res' := Ty.iF [Ty.row eG 29 206 (dV b (1 + ((n.1 : Nat) : Int).tmod 3)), Ty.int .i64 (ew b (1 + ((n.1 : Nat) : Int).tmod 3))]) [(206, 103)] [206] [] (Kq b hbs (1 + ((n.1 : Nat) : Int).tmod 3)) ν ν n9 pre_nil post_nil (va (cV (cV fT (iC ν ν)) (fD aB))) ?_
  refine ke ν (aj ν ν (aj ν ν (iY ν (bS ν (aD (aC ?_))))))
  refine l8 (J := live [(11, Ty.int .i64 (n.1 : Nat)), (12, Ty.ptr 13 0), (132, Ty.int .i64 (n.1 : Nat)), (16, Ty.row cY 22 193 rg), (18, Ty.sl bq (Q2 (decide (((n.1 : Nat) : Int).tmod 3 = 0) && decide ((pl.length : Int) > 1)) pl)), (20, Ty.row eG 29 206 rd)] [(13, Cont.cells 25 (bL b))]) ?_ ?_
  ·refine aF ?_
   refine fK (s := 20) ν (Ty.cv erd) ?_
   refine cK (B := live [(11, Ty.int .i64 (n.1 : Nat)), (12, Ty.ptr 13 0), (132, Ty.int .i64 (n.1 : Nat)), (16, Ty.row cY 22 193 rg), (18, Ty.sl bq pl), (20, Ty.row eG 29 206 rd)] [(13, Cont.cells 25 (bL b))]) ?_ ?_
   ·refine dw.mk' ?_ ?_
    ·(repeat (first | refine aG ?_ (Ty.bC _) | refine aG ?_ (Ty.aM _))); exact aQ
    refine aL ν (Cont.aM _) ?_; exact aR
   refine aA (bA ν (kj ν ν aE (ah ν ν ν (dm ν ?_))))
   refine bT 211 ν (fun hg => aH (cM ν (aD ν))) ?_
   refine bT 211 ν (fun hg => cJ 212 hg ν (aH (bU ν ν ν (aD ν)))) ?_
   refine bT 211 ν (fun hg => cJ 213 hg ν (aH (ah ν ν ν (aD ν)))) ?_
   refine dA ν ν (aD (aC ?_))
   refine cI ν (fun hc7 => ?_) (fun hc7 => ?_)
   ·have h := hc7
    have hpl : 1 ≤ pl.length := by simp at h; omega
    refine aA (cM ν (LI ν ν ν ν ν ν aE (iX ν (aD (fB ?_)))))
    (refine dw.mk' ?_ ?_ <;> (repeat' (first | exact aQ | exact aR | refine aG ?_ (Ty.bC _) | refine aG ?_ (Ty.aM _) | refine aL rfl (Cont.aM _) ?_ | refine aG ?_ ?_)))
    all_goals exact Ty.fq (by unfold Q2; rw [hc7]; rfl)
   refine aX (fB ?_)
   (refine dw.mk' ?_ ?_ <;> (repeat' (first | exact aQ | exact aR | refine aG ?_ (Ty.bC _) | refine aG ?_ (Ty.aM _) | refine aL rfl (Cont.aM _) ?_ | refine aG ?_ ?_)))
   all_goals exact Ty.fq (by unfold Q2; rw [hc7]; rfl)
  refine l8 (J := live [(11, Ty.int .i64 (n.1 : Nat)), (12, Ty.ptr 13 0), (132, Ty.int .i64 (n.1 : Nat)), (16, Ty.row cY 22 193 rg), (18, Ty.sl bq pl2), (20, Ty.row eG 29 206 (Q5 (decide (((n.1 : Nat) : Int).tmod 4 = 0) && decide ((rd.length : Int) > 0)) rd))] [(13, Cont.cells 25 (bL b))]) ?_ ?_
  ·refine aF ?_
   refine fK (s := 18) ν (Ty.fq epl2) ?_
   refine aA (bA ν (kj ν ν aE (ah ν ν ν (dm ν ?_))))
   refine bT 221 ν (fun hg => aH (iy ν (aD ν))) ?_
   refine bT 221 ν (fun hg => cJ 222 hg ν (aH (gL ν ν ν (aD ν)))) ?_
   refine bT 221 ν (fun hg => cJ 223 hg ν (aH (ah ν ν ν (aD ν)))) ?_
   refine dA ν ν (aD (aC ?_))
   refine cI ν (fun hc8 => ?_) (fun hc8 => ?_)
   ·have h := hc8
    have hrd : 0 < rd.length := by simp at h; omega
    refine aA (iy ν (iy ν ?_))
    refine fN (i := 0) ν ν ν ν ν ν aB aE ?_
    refine hU ν ν ν ν ?_
    refine bD (E := eG) (xs := [nth rd 0]) ν ν ν ν ν aB aB oD bn ν ?_
    refine cG ν ν aB ν ν ν ν ν ν aB bp bp (iY ν (aD (fB ?_)))
    (refine dw.mk' ?_ ?_ <;> (repeat' (first | exact aQ | exact aR | refine aG ?_ (Ty.bC _) | refine aG ?_ (Ty.aM _) | refine aL rfl (Cont.aM _) ?_ | refine aG ?_ ?_)))
    all_goals exact Ty.cv (by unfold Q5; rw [hc8]; rfl)
   refine aX (fB ?_)
   (refine dw.mk' ?_ ?_ <;> (repeat' (first | exact aQ | exact aR | refine aG ?_ (Ty.bC _) | refine aG ?_ (Ty.aM _) | refine aL rfl (Cont.aM _) ?_ | refine aG ?_ ?_)))
   all_goals exact Ty.cv (by unfold Q5; rw [hc8]; rfl)
  refine l8 (J := live [(11, Ty.int .i64 (n.1 : Nat)), (12, Ty.ptr 13 0), (132, Ty.int .i64 (n.1 : Nat)), (16, Ty.row cY 22 193 (Q4 (decide (((n.1 : Nat) : Int).tmod 5 = 0) && decide ((rg.length : Int) > 0)) (((n.1 : Nat) : Int).tmod 4) rg)), (18, Ty.sl bq pl2), (20, Ty.row eG 29 206 rd2)] [(13, Cont.cells 25 (bL b))]) ?_ ?_
  ·refine aF ?_
   refine fK (s := 20) ν (Ty.cv erd2) ?_
   refine aA (bA ν (kj ν ν aE (ah ν ν ν (dm ν ?_))))
   refine bT 235 ν (fun hg => aH (iy ν (aD ν))) ?_
   refine bT 235 ν (fun hg => cJ 236 hg ν (aH (gL ν ν ν (aD ν)))) ?_
   refine bT 235 ν (fun hg => cJ 237 hg ν (aH (ah ν ν ν (aD ν)))) ?_
   refine dA ν ν (aD (aC ?_))
   refine cI ν (fun hc9 => ?_) (fun hc9 => ?_)
   ·refine aA (iy ν (bA ν (kj ν ν aE ?_)))
    refine bD (E := cL) (xs := [_, _]) ν ν ν ν ν aB aB dn bn ν ?_
    refine bD (E := cY) (xs := [_]) ν ν ν ν ν aB aB oD bn ν ?_
    refine cG ν ν aB ν ν ν ν ν ν aB bp bp (iY ν (aD (fB ?_)))
    (refine dw.mk' ?_ ?_ <;> (repeat' (first | exact aQ | exact aR | refine aG ?_ (Ty.bC _) | refine aG ?_ (Ty.aM _) | refine aL rfl (Cont.aM _) ?_ | refine aG ?_ ?_)))
    all_goals exact Ty.cv (by unfold Q4; rw [hc9]; rfl)
   refine aX (fB ?_)
   (refine dw.mk' ?_ ?_ <;> (repeat' (first | exact aQ | exact aR | refine aG ?_ (Ty.bC _) | refine aG ?_ (Ty.aM _) | refine aL rfl (Cont.aM _) ?_ | refine aG ?_ ?_)))
   all_goals exact Ty.cv (by unfold Q4; rw [hc9]; rfl)
  refine aF ?_
  refine fK (s := 16) ν (Ty.cv erg2) ?_
  refine jA (tg := 193) [(16, Ty.sl cY rg2)] aB rfl ⟨oQ rfl, trivial⟩ ?_
  refine jA (tg := 206) [(20, Ty.sl eG rd2)] aB rfl ⟨oQ rfl, trivial⟩ ?_
  refine cK (B := live [(11, Ty.int .i64 (n.1 : Nat)), (12, Ty.ptr 13 0), (132, Ty.int .i64 (n.1 : Nat)), (16, Ty.sl cY rg2), (18, Ty.sl bq pl2), (20, Ty.sl eG rd2)] [(13, Cont.cells 25 (bL b))]) ?_ ?_
  ·refine dw.mk' ?_ ?_
   ·(repeat (first | refine aG ?_ (Ty.bC _) | refine aG ?_ (Ty.aM _))); exact aQ
   refine aL ν (Cont.aM _) ?_; exact aR
  refine aA (aW ν ν aB ν ν aP (bA ν (kj ν ν aE (bA ν (kj ν ν aE (ga ν ν aE aE (bA ν (kj ν ν aE (bY ν ν aE aE (EW ν ν ν bW dn ν ?_))))))))))
  refine cM ν (cM ν (cM ν ?_))
  refine aa (DL b (((n.1 : Nat) : Int).tmod 4) (((n.1 : Nat) : Int).tmod 6 - 1) (1 + ((n.1 : Nat) : Int).tmod 3) rg2 pl2 rd2 aE) ν ν ν ν ν ?_
  refine dW ν (aD (aC (eP ν (ν) (aX (bE (aC (aA (bY ν ν aE aE (bA ν (aD ?_))))))))))
  refine bG (⟨n.1 + 1, by omega⟩) ?_ (by show 80 - (n.1 + 1) < 80 - n.1; omega)
  exact bt
 refine bQ (aI (aI (aS ν (aC (aF (aF ?_))))))
 refine cK (B := live [] []) ?_ ?_
 ·refine dw.mk' ?_ ?_
  ·(repeat (refine aG ?_ (Ty.bC _))); exact aQ
  exact aR
 refine aA (bA ν (aD (aC (aV ?_))))
 refine bf (fun (n : {n : Nat // n ≤ 9}) => live [(262, Ty.int .i64 (n.1 : Nat))] []) (fun n => 9 - n.1) (⟨0, by omega⟩) ?_ fun n => ?_
 ·exact bt
 have hn := n.2
 refine aF (aA (ah ν ν ν (aD (aC (aF ?_)))))
 refine aU ν (fun hc11 => ?_) (fun hc11 => ?_)
 ·refine aX (aC (aF (aV (aF (aA (bA ν (bS ν (aD (aC (aF (aA (bZ ν bW ν (aD (aC (aF (aA ?_))))))))))))))))
  refine bD (E := cL) (xs := [_, _, _, _, _, _, _]) ν ν ν ν ν aB aB dn bn ν ?_
  refine cC ν ν bW ν oD eU ?_
  refine bZ ν bW ν (bK ν ν aB ν ν ν ν ν ν (aD (aC (aF (aF (aA (bA ν (bA ν (aD (aC (aV ?_)))))))))))
  refine bf (fun (j : {j : Nat // j ≤ n.1}) => live [(22, Ty.int .i64 (n.1 : Nat)), (23, Ty.ptr 24 0), (24, Ty.ptr 25 0), (262, Ty.int .i64 (n.1 : Nat)), (267, Ty.int .i64 (n.1 : Nat)), (268, Ty.int .i64 (j.1 : Nat))] [(24, Cont.cells 25 [Ty.row cL 3 276 (G0 j.1), Ty.ex (.slice none 0 0)]), (25, Cont.cells 25 [Ty.sl cL [1, 1, 1, 1, 1, 1, 1], Ty.row cZ 58 286 (HA j.1)])]) (fun j => n.1 - j.1) (⟨0, by omega⟩) ?_ fun j => ?_
  ·exact KI
  have hj := j.2
  have hsl := Bi j.1
  have hll := CD j.1
  refine aF (aA (ah ν ν ν (aD (aC (aF ?_)))))
  refine aU ν (fun hc12 => ?_) (fun hc12 => ?_)
  ·refine aX (aC (aF (aV (aF (aA (bA ν (bS ν (aD (aC (aF (aA (ak ν ν ν ν ν aB (aq ν ν aB ν ν ν (bA ν ?_))))))))))))))
   refine bD (E := cL) (xs := [_]) ν ν ν ν ν aB aB dn bn ν ?_
   refine cG ν ν aB ν ν ν ν ν ν aB bp bp (ak ν ν ν ν ν aB (dH ν ν aB ν ν xS ν aP ν ν bn ?_))
   refine aD (aC (aA (ak ν ν ν ν ν aB (aq ν ν aB ν ν ν (bA ν (kj ν ν aE (bA ν (kj ν ν aE (cC ν ν bW ν dn xO ?_)))))))))
   refine bD (E := cZ) (xs := [⟨1, ((j.1 : Nat) : Int).tmod 7, ((j.1 : Nat) : Int).tmod 7⟩]) ν ν ν ν ν aB aB mH bn ν ?_
   refine cG ν ν aB ν ν ν ν ν ν aB bp bp (ak ν ν ν ν ν aB (dH ν ν aB ν ν xS ν aP ν ν bn ?_))
   refine aD (bE (aC (aA (bY ν ν aE aE (bA ν (aD ?_))))))
   refine bG (⟨j.1 + 1, by omega⟩) ?_ (by show n.1 - (j.1 + 1) < n.1 - j.1; omega)
   exact dK
  refine bQ (aI (aI (aS ν (aC (aF (aF ?_))))))
  obtain ⟨j, hj⟩ := j
  obtain rfl : j = n.1 := by have h1 : ¬ (j : Int) < (n.1 : Int) := hc12; have h2 : j ≤ n.1 := hj; omega
  have hn9 : n.1 < 9 := by have h1 : (n.1 : Int) < 9 := hc11; omega
  refine j8 (tg := 276) [] [(24, Cont.cells 25 [Ty.sl cL (G0 n.1), Ty.ex (.slice none 0 0)])] aB rfl trivial ⟨eW rfl rfl ⟨m9, cF rfl, trivial⟩, trivial⟩ ?_
  refine j8 (tg := 286) [] [(25, Cont.cells 25 [Ty.sl cL [1, 1, 1, 1, 1, 1, 1], Ty.sl cZ (HA n.1)])] aB rfl trivial ⟨eW rfl rfl ⟨cF rfl, m9, trivial⟩, trivial⟩ ?_
  refine kr (tg := 24) ν (Cont.lK (l' := bL ⟨G0 n.1, []⟩) ⟨Ty.aM _, Ty.nv, trivial⟩) ?_
  refine kr (tg := 25) ν (Cont.p8 (show _ = bL ⟨[1, 1, 1, 1, 1, 1, 1], HA n.1⟩ from ν)) ?_
  have hlj : (HA n.1).length ≤ 9 := by rw [CD]; omega
  have hs1 : (⟨G0 n.1, []⟩ : aT).Small := ⟨(by show (G0 n.1).length ≤ 12; rw [Bi]; omega), (by show 0 ≤ 10; decide)⟩
  have hs2 : (⟨[1, 1, 1, 1, 1, 1, 1], HA n.1⟩ : aT).Small := ⟨(by show 7 ≤ 12; decide), (by show (HA n.1).length ≤ 10; omega)⟩
  refine cK (B := live [(22, Ty.int .i64 (n.1 : Nat)), (23, Ty.ptr 24 0), (24, Ty.ptr 25 0), (262, Ty.int .i64 (n.1 : Nat))] [(24, Cont.cells 25 (bL ⟨G0 n.1, []⟩)), (25, Cont.cells 25 (bL ⟨[1, 1, 1, 1, 1, 1, 1], HA n.1⟩))]) ?_ ?_
  ·refine dw.mk' ?_ ?_
   ·(repeat (first | refine aG ?_ (Ty.bC _) | refine aG ?_ (Ty.aM _))); exact aQ
   refine aL ν (Cont.aM _) ?_; refine aL ν (Cont.aM _) ?_; exact aR
  refine aA (aW ν ν aB ν ν aP (kL [] (qE ⟨G0 n.1, []⟩ 0 0 []) ν OM o9 ?_))
  refine dW ν (dm ν ?_)
  refine bT 291 ν (fun hg => aH (aW ν ν aB ν ν aP (aD ν))) ?_
  refine bT 291 ν (fun hg => aH (bA ν (aD ν))) ?_
  refine bT 291 ν (fun hg => cJ 293 hg ν (aH (ga ν ν aE aE (aD ν)))) ?_
  refine bT 291 ν (by intro hg; apply aH; (refine bD (E := cL) (xs := [_]) ν ν ν ν ν aB aB dn bn ν ?_); refine aD ?_; exact ν) ?_
  refine bT 291 ν (by intro hg; apply bV (s := 295) ν dF; apply aH; (refine bD (E := cY) (xs := [_]) ν ν ν ν ν aB aB oD bn ν ?_); refine aD ?_; exact ν) ?_
  refine bT 291 ν (fun hg => cJ 292 hg ν (cJ 294 hg ν (cJ 296 hg ν (aH (aa (qE ⟨[1, 1, 1, 1, 1, 1, 1], HA n.1⟩ (((n.1 : Nat) : Int) - 1) 6 [[0]]) ν ν ν ν ν (aD ν)))))) ?_
  refine bT 291 ν (fun hg => cJ 297 hg ν (aH (dW ν (aD ν)))) ?_
  refine eJ ν ν (dm ν ?_)
  refine bT 300 ν (fun hg => aH (aW ν ν aB ν ν aP (aD ν))) ?_
  refine bT 300 ν (by intro hg; apply bV (s := 301) ν dF; apply aH; (refine aa (uT ⟨G0 n.1, []⟩ (by show 0 * 24 ≤ 140737488355328; decide)) ν ν ν ν ν ?_); refine aD ?_; exact ν) ?_
  refine bT 300 ν (fun hg => cJ 302 hg ν (aH (dW ν (aD ν)))) ?_
  refine eJ ν ν (dm ν ?_)
  refine bT 305 ν (fun hg => aH (aW ν ν aB ν ν aP (aD ν))) ?_
  refine bT 305 ν (by intro hg; apply bV (s := 306) ν dF; apply aH; (refine kL [] (ux ⟨G0 n.1, []⟩ (by show 0 * 24 ≤ 140737488355328; decide) 3 []) ν OM o9 ?_); refine aD ?_; exact ν) ?_
  refine bT 305 ν (fun hg => cJ 307 hg ν (aH (dW ν (aD ν)))) ?_
  refine eJ ν ν (dm ν ?_)
  refine bT 310 ν (fun hg => aH (aW ν ν aB ν ν aP (aD ν))) ?_
  refine bT 310 ν (fun hg => aH (bA ν (aD ν))) ?_
  refine bT 310 ν (fun hg => cJ 312 hg ν (aH (ga ν ν aE aE (aD ν)))) ?_
  refine bT 310 ν (by intro hg; apply bV (s := 313) ν dF; apply aH; (refine cC ν ν bW ν dn eU ?_); refine aD ?_; exact ν) ?_
  refine bT 310 ν (by intro hg; apply bV (s := 314) ν dF; apply aH; (refine bD (E := bq) (xs := [⟨((n.1 : Nat) : Int) - 1, 6⟩]) ν ν ν ν ν aB aB mH bn ν ?_); refine aD ?_; exact ν) ?_
  refine bT 310 ν (fun hg => cJ 311 hg ν (cJ 315 hg ν (aH (aa (xL ⟨[1, 1, 1, 1, 1, 1, 1], HA n.1⟩ [⟨((n.1 : Nat) : Int) - 1, 6⟩]) ν ν ν ν ν (aD ν))))) ?_
  refine bT 310 ν (fun hg => cJ 316 hg ν (aH (dW ν (aD ν)))) ?_
  refine eJ ν ν (aD (aC (eP ν (ν) (aX (aC (aF (aA (aW ν ν aB ν ν aP (aa (jC ⟨G0 n.1, []⟩ hs1) ν ν ν ν ν (ah ν ν ν (bA ν (ah ν ν ν (dm ν ?_)))))))))))))
  refine bT 324 ν (fun hg => aH (bA ν (aD ν))) ?_
  refine bT 324 ν (fun hg => cJ 325 hg ν (aH (ah ν ν ν (aD ν)))) ?_
  refine dA ν ν (xq N0 ν ν (dm ν ?_))
  refine bT 329 ν (fun hg => aH (aW ν ν aB ν ν aP (aD ν))) ?_
  refine bT 329 ν (fun hg => cJ 330 hg ν (aH (aa (jC ⟨[1, 1, 1, 1, 1, 1, 1], HA n.1⟩ hs2) ν ν ν ν ν (aD ν)))) ?_
  refine bT 329 ν (fun hg => cJ 331 hg ν (aH (ah ν ν ν (aD ν)))) ?_
  refine bT 329 ν (fun hg => aH (bA ν (aD ν))) ?_
  refine bT 329 ν (fun hg => cJ 333 hg ν (aH (ah ν ν ν (aD ν)))) ?_
  refine bT 329 ν (fun hg => cJ 332 hg ν (cJ 334 hg ν (aH (xq N0 ν ν (aD ν))))) ?_
  refine eJ ν ν (aD (aC ?_))
  refine eP ν ((by have := RH n.1 hn9; exact this)) ?_
  refine aX (bE (aC (aA (bY ν ν aE aE (bA ν (aD ?_))))))
  refine bG (⟨n.1 + 1, by omega⟩) ?_ (by show 9 - (n.1 + 1) < 9 - n.1; omega)
  exact bt
 refine bQ (aI (aI (aS ν (aC (aF (aA (aa (je) ν ν ν ν ν (dN ν (aD (aC (au (bg ν ν ?_))))))))))))
 all_goals exact b9 rfl rfl
end Go.Proofs.YtpnndljmhpepgaaGreat
namespace Go.T
open Go Go.RowKit Go.ChangeShapes Go.WideShapes Go.ChangeAt
def B2 : bI := fun _ => none
theorem OE (w : World) : Wf w B2 := ⟨fun _ _ h => tK, fun _ _ _ _ h => tK⟩
theorem IJ : ∀ b t, B2 b = some t → t = 0 := fun _ _ h => by cases h
structure Rd {α : Type} (P : Program) (e : TypeId) (E : El α) : Prop where
  size : P.cellsOf e = E.size
  pos : 0 < E.size
  rd : ∀ {H : Type} {enc : TypeId × Value → H} {w : World} {base : Nat} {held : Bool} {n : Nat} {cs : List Value} {y : DataW H × List MemPlace}, DataW.trod enc P w base (fun _ => true) held n e cs = some y → ∃ x, cS w B2 (E.tys x) cs
section
variable {H : Type} {enc : TypeId × Value → H} {P : Program} {w : World} {base : Nat} {held : Bool} {α : Type} {E : El α} {t e : TypeId} {n : Nat} {cs : List Value} {y : DataW H × List MemPlace}
end
section
variable {w w' : World} {S K : Nat → Prop} {M' : bI}
theorem vO (le : Le S K w B2 w' M') {b : Nat} (hb : b < w.heap.size) : w'.heap[b]? = w.heap[b]? := (le.o8 b hb rfl).2
theorem NH (le : Le S K w B2 w' M') {p : MemPlace} (hp : p.block < w.heap.size) : w.sameAt w' p := by
  cases p with
  | cell b o => exact World.cell?_of_block (w := w) (vO le hp)
  | map b => exact vO le hp
theorem N2 (le : Le S K w B2 w' M') (may : MemPlace → Prop) : w.keptBut w' may := by
 refine ⟨le.os, le.out, fun i hi => ?_⟩
 have e := vO le hi
 rw [e]
 split
 ·rename_i h1 h2
  rw [h1] at h2
  simp only [Option.some.injEq, Obj.cells.injEq] at h2
  obtain ⟨rfl, rfl, rfl⟩ := h2
  exact ⟨rfl, rfl, rfl, fun _ _ => rfl⟩
 ·rename_i h1 h2
  rw [h1] at h2
  simp only [Option.some.injEq, Obj.map.injEq] at h2
  exact Or.inr ⟨h2.1.symm, h2.2.symm⟩
 rfl
theorem IW (le : Le S K w B2 w' M') {a : Addr} (ha : a.block < w.heap.size) : w'.frozen? a = w.frozen? a := by
 unfold World.frozen?
 rw [vO le ha]
end
section
variable {H : Type} {enc : TypeId × Value → H} {P : Program}
theorem s7 (hl : laidOutB P = true) {w w' : World} {sp : Nat → Bool} : ∀ {ts : List TypeId} {vs : List Value} {ds : List (DataW H)} {ps : List MemPlace}, (∀ t ∈ ts, P.readableRec t = true ∧ t < P.types.size) →
    DataW.TrodAll enc P w 0 (fun _ => true) true ts vs ds ps → (∀ p ∈ ps, w.sameAt w' p) → (∀ p ∈ ps, sp p.block = true) → DataW.TrodAll enc P w' 0 sp true ts vs ds ps
  | [], [], [], _, _, h, _, _ => h
  | t :: ts, v :: vs, d :: ds, _, ht, ⟨p, q, h1, h2, e⟩, hs, hsp => by
    subst e
    have h0 := ht t List.mem_cons_self
    exact ⟨p, q, Go.WideElems.Trod_stays hl h0.1 h0.2 h1 (fun x hx => hs x (List.mem_append_left _ hx)) (fun x hx => hsp x (List.mem_append_left _ hx)),
      s7 hl (fun t h => ht t (List.mem_cons_of_mem _ h)) h2 (fun x hx => hs x (List.mem_append_right _ hx)) (fun x hx => hsp x (List.mem_append_right _ hx)), rfl⟩
theorem JI {f : Func} {s : ChangeSpec} {apart fresh handsOn again : Bool} {W W' : World} {args : Array Value} {ds : List (DataW H)} {before : List MemPlace} {S K : Nat → Prop} {M' : bI}
 (hl : laidOutB P = true) (hv : s.vars = []) (hrd : ∀ t ∈ f.params.toList, P.readableRec t = true ∧ t < P.types.size) {tb : TypeId} (htb : P.underlying tb = some .bool) (hrt : f.resultTypes = #[tb])
 (hW : DataW.Whole enc P f.params.toList s.vars apart W args.toList ds [] before) (hres : (s.fn H (ds ++ [])).results = [.lit (.bool true)]) (hargs : (s.fn H (ds ++ [])).args = ds) (hvars : (s.fn H (ds ++ [])).vars = [])
 (le : Le S K W B2 W' M') : s.post enc P f apart fresh handsOn again W args (.bool true) W' := by
 have hW0 := hW
 obtain ⟨p, q, hA, hV, hb, hfz, hn⟩ := hW0
 have hlt := DataW.TrodAll.lt hA
 have hq : q = [] := by rw [hv] at hV; exact (trodVars_none hV).2
 subst hq
 have hbp : before = p := by rw [hb]; simp
 have hre : ∀ (b : Nat) (sp : Nat → Bool) (hd : Bool), DataW.TrodAll enc P W' b sp hd f.resultTypes.toList ((Value.bool true).resultList f.resultTypes.size) (s.fn H (ds ++ [])).results [] := fun b sp hd => by
  rw [hrt, hres]; exact trodAll_mk1 (shut_bool htb true)
 have har : ∀ sp : Nat → Bool, (∀ x ∈ p, sp x.block = true) → DataW.TrodAll enc P W' 0 sp true f.params.toList args.toList (s.fn H (ds ++ [])).args p := fun sp hsp => by
  rw [hargs]; exact s7 hl hrd hA (fun x hx => NH le (hlt x hx)) hsp
 have hva : ∀ sp : Nat → Bool, DataW.TrodVars enc P W' sp s.vars (s.fn H (ds ++ [])).vars [] := fun sp => by
  rw [hvars, hv]; exact rfl
 have hok : ∀ (j : Nat) (t : TypeId) (r : Value), f.resultTypes[j]? = some t → ((Value.bool true).resultList f.resultTypes.size)[j]? = some r → Value.okWide P W' .any 0 t r := by
  exact ok_one (by rw [hrt]) rfl (okWide_bool_mk htb true)
 refine ⟨ds, [], before, [], p, [], hW, hre _ _ _, har _ (fun x hx => by simpa using hlt x hx), hva _, World.keptBut_mono (fun x hx => hx) (N2 le _), fun _ => ?_⟩
 refine ⟨hok, _, _, ([] ++ p) ++ [], ⟨[] ++ p, [], trodAll_append (har _ (fun _ _ => rfl)) (hre _ _ _), hva _, rfl, ?_, ?_⟩, ?_⟩
 ·intro b off hp
  have hp' : MemPlace.cell b off ∈ p := by simpa using hp
  rw [IW le (hlt _ hp')]
  exact hfz b off (by rw [hbp]; exact hp')
 ·intro ha
  have := hn ha
  rw [hbp] at this
  simpa using this
 intro x hx _
 rw [hbp]
 simpa using hx
end
end Go.T
