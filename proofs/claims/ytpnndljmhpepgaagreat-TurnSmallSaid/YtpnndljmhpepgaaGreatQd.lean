/- Lemmas: the program and the reference walked, plain laws. -/
import Derived.Test.YtpnndljmhpepgaaGreatQc
namespace Go.Proofs.YtpnndljmhpepgaaGreat
open Go Go.T
def RZ (b : aT) (p : Pl) (t : bX) : Prop := (0 ≤ t.bN ∧ t.bN < b.aO.length) ∧ (0 ≤ t.aim ∧ t.aim < b.sizes.length) ∧ gh b p t.aim = false ∧ b.hold t.aim t.bN = true
structure gq (b : aT) (p : Pl) (g : Int) (l : List bX) : Prop where
  len : (l.length : Int) ≤ g
  ok : ∀ t ∈ l, RZ b p t
  apart : l.Pairwise fun s t => s.bN < t.bN ∧ s.aim ≠ t.aim
theorem Bl {b : aT} {p : Pl} {l : List bX} {k bN : Nat} : oS b p l k bN = false ↔ (gh b p k = false ∧ b.hold k bN = true) ∧ ∀ t ∈ l, t.aim ≠ (k : Int) := by
 unfold oS
 simp only [Bool.or_eq_false_iff, Bool.not_eq_false', List.any_eq_false, decide_eq_true_eq]
theorem qY {b : aT} {p : Pl} {g : Int} : ∀ (m bN : Nat) (l0 l : List bX), bN + m = b.aO.length → gq b p g l0 → (∀ t ∈ l0, t.bN < bN) →
    (l ∈ fQ b p g l0 bN ↔ ∃ r, l = l0 ++ r ∧ gq b p g l ∧ ∀ t ∈ r, (bN : Int) ≤ t.bN)
  | 0, bN, l0, l, hm, h0, hl0 => by
    rw [jz Ov, List.mem_singleton]
    constructor
    · rintro rfl; exact ⟨[], (List.append_nil _).symm, h0, fun t h => by cases h⟩
    · rintro ⟨r, rfl, h1, h2⟩
      cases r with
      | nil => exact List.append_nil _
      | cons t r =>
        have := h1.ok t (List.mem_append.2 (.inr List.mem_cons_self))
        have := h2 t List.mem_cons_self
        have := this; have := ‹RZ b p t›.1; omega
  | m + 1, bN, l0, l, hm, h0, hl0 => by
    by_cases hg : (l0.length : Int) = g
    · rw [jz Lz, List.mem_singleton]
      constructor
      · rintro rfl; exact ⟨[], (List.append_nil _).symm, h0, fun t h => by cases h⟩
      · rintro ⟨r, rfl, h1, h2⟩
        have := h1.len
        rw [List.length_append] at this
        have : r = [] := List.length_eq_zero_iff.1 aE
        rw [this, List.append_nil]
    · have hlen := h0.len
      rw [p7 aE hg, List.mem_append, qY m (bN + 1) l0 l aE h0 (fun t ht => by have := hl0 t ht; omega)]
      unfold roundUp
      rw [List.mem_flatMap]
      constructor
      · rintro (⟨k, hk, h⟩ | ⟨r, h1, h2, h3⟩)
        · rw [List.mem_range] at hk
          cases hs : oS b p l0 k bN with
          | true => rw [vn hs] at h; cases h
          | false =>
            rw [k8 hs] at h
            obtain ⟨⟨e1, e2⟩, e3⟩ := Bl.1 hs
            have hok : gq b p g (l0 ++ [⟨bN, k⟩]) := by
              refine ⟨by rw [List.length_append]; simp; omega, fun t ht => ?_, ?_⟩
              · rcases List.mem_append.1 ht with ht | ht
                · exact h0.ok t ht
                · rw [List.mem_singleton.1 ht]
                  exact ⟨⟨by show 0 ≤ (bN : Int); omega, by show (bN : Int) < _; omega⟩, ⟨by show 0 ≤ (k : Int); omega, by show (k : Int) < _; omega⟩, e1, e2⟩
              · rw [List.pairwise_append]
                refine ⟨h0.apart, List.pairwise_singleton _ _, fun s hs t ht => ?_⟩
                rw [List.mem_singleton.1 ht]
                exact ⟨hl0 s hs, e3 s hs⟩
            obtain ⟨r, f1, f2, f3⟩ := (qY m (bN + 1) (l0 ++ [⟨bN, k⟩]) l aE hok (fun t ht => by
              rcases List.mem_append.1 ht with ht | ht
              · have := hl0 t ht; omega
              · rw [List.mem_singleton.1 ht]; show (bN : Int) < _; omega)).1 h
            refine ⟨⟨bN, k⟩ :: r, by rw [f1, List.append_assoc]; rfl, f2, fun t ht => ?_⟩
            rcases List.mem_cons.1 ht with rfl | ht
            · exact Int.le_refl _
            · have := f3 t ht; omega
        · exact ⟨r, h1, h2, fun t ht => by have := h3 t ht; omega⟩
      · rintro ⟨r, h1, h2, h3⟩
        cases r with
        | nil => exact .inr ⟨[], h1, h2, fun t ht => by cases ht⟩
        | cons t r =>
          subst h1
          have ht := h2.ok t (List.mem_append.2 (.inr List.mem_cons_self))
          have hge := h3 t List.mem_cons_self
          have hap := h2.apart
          rw [List.pairwise_append, List.pairwise_cons] at hap
          obtain ⟨a1, ⟨a2, a3⟩, a4⟩ := hap
          by_cases e : t.bN = bN
          · refine .inl ⟨t.aim.toNat, List.mem_range.2 (by have := ht.2.1; omega), ?_⟩
            have ek : ((t.aim.toNat : Nat) : Int) = t.aim := by have := ht.2.1; omega
            have ee : (⟨(bN : Int), ((t.aim.toNat : Nat) : Int)⟩ : bX) = t := by cases t; simp only [bX.mk.injEq] at *; exact ⟨e.symm, ek⟩
            have hs : oS b p l0 t.aim.toNat bN = false := Bl.2 ⟨⟨by rw [ek]; exact ht.2.2.1, by rw [ek, ← e]; exact ht.2.2.2⟩, fun s hs => by rw [ek]; exact (a4 s hs t List.mem_cons_self).2⟩
            rw [k8 hs, ee]
            have hok : gq b p g (l0 ++ [t]) := by
              refine ⟨by have := h2.len; rw [List.length_append, List.length_cons] at this; rw [List.length_append]; simp; omega, fun s hs => h2.ok s ?_, ?_⟩
              · rcases List.mem_append.1 hs with hs | hs
                · exact List.mem_append.2 (.inl hs)
                · exact List.mem_append.2 (.inr (by rw [List.mem_singleton.1 hs]; exact List.mem_cons_self))
              · rw [List.pairwise_append]
                exact ⟨h0.apart, List.pairwise_singleton _ _, fun s hs u hu => by rw [List.mem_singleton.1 hu]; exact a4 s hs t List.mem_cons_self⟩
            refine (qY m (bN + 1) (l0 ++ [t]) _ aE hok (fun s hs => ?_)).2 ⟨r, by rw [List.append_assoc]; rfl, h2, fun s hs => ?_⟩
            · rcases List.mem_append.1 hs with hs | hs
              · have := hl0 s hs; omega
              · rw [List.mem_singleton.1 hs, e]; omega
            · have := (a2 s hs).1; omega
          · refine .inr ⟨t :: r, rfl, h2, fun s hs => ?_⟩
            rcases List.mem_cons.1 hs with rfl | hs
            · omega
            · have := (a2 s hs).1; omega
theorem kM {b : aT} {p : Pl} {g : Int} (hg : 0 ≤ g) {l : List bX} : l ∈ dB b p g ↔ gq b p g l := by
 unfold dB
 rw [qY b.aO.length 0 [] l aE ⟨by simp; exact hg, (fun t h => by cases h), List.Pairwise.nil⟩ (fun t h => by cases h)]
 constructor
 ·rintro ⟨r, _, h, _⟩; exact h
 intro h; exact ⟨l, rfl, h, fun t ht => by have := (h.ok t ht).1.1; omega⟩
def bM (p : Pl) (l : List bX) : Pl := l.foldl cm p
theorem ia (p : Pl) (l : List bX) (t : bX) : bM p (l ++ [t]) = cm (bM p l) t := by unfold bM; rw [List.foldl_append]; rfl
theorem sj {p : Pl} {t : bX} {i : Nat} (h : i < 6) : nth (cm p t).1 i = if t.bN.toNat = i then t.aim else nth p.1 i := jE (by rw [p.2]; exact h)
theorem Hf {b : aT} {p : Pl} {g : Int} : ∀ (l : List bX), gq b p g l → ∀ i, i < 6 → nth (bM p l).1 i = nth p.1 i ∨ ∃ t ∈ l, nth (bM p l).1 i = t.aim := by
 refine ju (fun _ i _ => .inl ν) fun l t ih h i hi => ?_
 rw [ia, sj hi]
 by_cases e : t.bN.toNat = i
 ·rw [if_pos e]; exact .inr ⟨t, List.mem_append.2 (.inr (List.mem_singleton.2 rfl)), rfl⟩
 rw [if_neg e]
 have hl : gq b p g l := ⟨by have := h.len; rw [List.length_append] at this; simp at this; omega, fun s hs => h.ok s (List.mem_append.2 (.inl hs)), (List.pairwise_append.1 h.apart).1⟩
 rcases ih hl i hi with h1 | ⟨s, hs, h1⟩
 ·exact .inl h1
 exact .inr ⟨s, List.mem_append.2 (.inl hs), h1⟩
theorem C5 {b : aT} {p : Pl} {g : Int} (h6 : b.aO.length ≤ 6) : ∀ (l : List bX), gq b p g l → mR b p l = some (bM p l) := by
 refine ju (fun _ => ν) fun l t ih h => ?_
 have hl : gq b p g l := ⟨by have := h.len; rw [List.length_append] at this; simp at this; omega, fun s hs => h.ok s (List.mem_append.2 (.inl hs)), (List.pairwise_append.1 h.apart).1⟩
 have ht := h.ok t (List.mem_append.2 (.inr (List.mem_singleton.2 rfl)))
 have hap := (List.pairwise_append.1 h.apart).2.2
 rw [ia]
 refine zA (ih hl) (gQ.2 ⟨ht.1.1, ht.1.2, ht.2.1.1, ht.2.1.2, ?_, ht.2.2.2⟩)
 rw [Bool.eq_false_iff]
 intro hc
 obtain ⟨i, hi, e⟩ := (lA h6).1 hc
 rcases Hf l hl i aE with h1 | ⟨s, hs, h1⟩
 ·have := (lA h6).2 ⟨i, hi, h1.symm.trans e⟩
  rw [ht.2.2.1] at this; cases this
 exact (hap s hs t (List.mem_singleton.2 rfl)).2 (h1.symm.trans e)
def qp (b : aT) (g : Int) : Pl → List (List bX) → Option Pl
  | p, [] => some p
  | p, l :: rs => if l ∈ dB b p g then qp b g (bM p l) rs else none
theorem tN (b : aT) (g : Int) : ∀ (rs : List (List bX)) (p : Pl) (rs' : List (List bX)), qp b g p (rs ++ rs') = (qp b g p rs).bind fun q => qp b g q rs'
  | [], p, rs' => rfl
  | l :: rs, p, rs' => by
    show (if l ∈ dB b p g then qp b g (bM p l) (rs ++ rs') else none) = Option.bind (if l ∈ dB b p g then qp b g (bM p l) rs else none) _
    by_cases h : l ∈ dB b p g
    · rw [if_pos h, if_pos h, tN b g rs (bM p l) rs']
    · rw [if_neg h, if_neg h]; rfl
theorem M6 {b : aT} {g : Int} {p : Pl} {l : List bX} (h : l ∈ dB b p g) : qp b g p [l] = some (bM p l) := if_pos h
theorem DX {b : aT} {g : Int} {p q : Pl} {rs : List (List bX)} {l : List bX} (h1 : qp b g p rs = some q) (h2 : l ∈ dB b q g) : qp b g p (rs ++ [l]) = some (bM q l) := by
 rw [tN, h1]; exact M6 h2
theorem mQ {b : aT} {g : Int} {p r : Pl} {rs : List (List bX)} {l : List bX} (h : qp b g p (rs ++ [l]) = some r) : ∃ q, qp b g p rs = some q ∧ l ∈ dB b q g ∧ r = bM q l := by
  rw [tN] at h
  cases h1 : qp b g p rs with
  | none => rw [h1] at h; cases h
  | some q =>
    rw [h1] at h
    have h : (if l ∈ dB b q g then some (bM q l) else none) = some r := h
    by_cases h2 : l ∈ dB b q g
    · rw [if_pos h2] at h; injection h with h; exact ⟨q, rfl, h2, h.symm⟩
    · rw [if_neg h2] at h; cases h
structure rX where
  ways : List (Pl × Way)
  queue : List Pl
def qG (p : Pl) (x : rX) (l : List bX) : rX := if (b8 x.ways (bM p l)).isSome = true then x else ⟨dQ x.ways (bM p l) ⟨p, l, 0⟩, x.queue ++ [bM p l]⟩
theorem tW {p : Pl} {x : rX} {l : List bX} (h : (b8 x.ways (bM p l)).isSome = true) : qG p x l = x := if_pos h
theorem vq {p : Pl} {x : rX} {l : List bX} (h : (b8 x.ways (bM p l)).isSome = false) : qG p x l = ⟨dQ x.ways (bM p l) ⟨p, l, 0⟩, x.queue ++ [bM p l]⟩ := if_neg oz
structure oE (b : aT) (g : Int) (dep : Pl → Nat) (D : Nat) (cur : Option (Pl × List (List bX))) (x : rX) : Prop where
  start : b8 x.ways (bJ b) = some jD
  dep0 : dep (bJ b) = 0
  keys : (x.ways.map Prod.fst).Nodup
  via : ∀ q w, b8 x.ways q = some w → q = bJ b ∨ (w.byT ∈ dB b w.frm g ∧ q = bM w.frm w.byT ∧ (∃ w', b8 x.ways w.frm = some w') ∧ dep q = dep w.frm + 1)
  depl : ∀ q w, b8 x.ways q = some w → dep q < x.ways.length
  iJ : ∀ q w, b8 x.ways q = some w → tO q
  qin : ∀ q ∈ x.queue, (∃ w, b8 x.ways q = some w) ∧ D ≤ dep q ∧ dep q ≤ D + 1
  srt : x.queue.Pairwise fun s t => dep s ≤ dep t
  old : ∀ q w, b8 x.ways q = some w → q ∈ x.queue ∨ (dep q ≤ D ∧ eN b q = false ∧ ((∃ ls, cur = some (q, ls)) ∨ ∀ l ∈ dB b q g, (∃ w', b8 x.ways (bM q l) = some w') ∧ dep (bM q l) ≤ dep q + 1))
  curs : ∀ p ls, cur = some (p, ls) → (∃ w, b8 x.ways p = some w) ∧ dep p = D ∧ ∀ l ∈ ls, (∃ w', b8 x.ways (bM p l) = some w') ∧ dep (bM p l) ≤ dep p + 1
def GH (dep : Pl → Nat) (q : Pl) (n : Nat) : Pl → Nat := fun r => if r = q then n else dep r
variable {b : aT} {g : Int} {dep : Pl → Nat} {D : Nat} {x : rX} {p : Pl}
theorem FQ (hr : b.cQ) (hg : 0 ≤ g) {ls : List (List bX)} {l : List bX} (h : oE b g dep D (some (p, ls)) x) (hl : l ∈ dB b p g) : ∃ dep', oE b g dep' D (some (p, ls ++ [l])) (qG p x l) := by
  obtain ⟨⟨wp, hwp⟩, hpD, hps⟩ := h.curs p ls rfl
  cases hm : (b8 x.ways (bM p l)).isSome with
  | true =>
    rw [tW hm]
    obtain ⟨w0, hw0⟩ := Option.isSome_iff_exists.1 hm
    refine ⟨dep, { h with old := fun q w hq => ?_, curs := fun p' ls' e => ?_ }⟩
    · rcases h.old q w hq with h1 | ⟨h1, h2, h3⟩
      · exact .inl h1
      · refine .inr ⟨h1, h2, ?_⟩
        rcases h3 with ⟨ls', e⟩ | h3
        · injection e with e; injection e with e1 e2; exact .inl ⟨_, by rw [e1]⟩
        · exact .inr h3
    · injection e with e; injection e with e1 e2; subst e1; subst e2
      refine ⟨⟨wp, hwp⟩, hpD, fun l' hl' => ?_⟩
      rcases List.mem_append.1 hl' with hl' | hl'
      · exact hps l' hl'
      · rw [List.mem_singleton.1 hl']
        refine ⟨⟨w0, hw0⟩, ?_⟩
        rcases h.old _ w0 hw0 with h1 | ⟨h1, _⟩
        · have := (h.qin _ h1).2.2; omega
        · omega
  | false =>
    rw [vq hm]
    have hnone : b8 x.ways (bM p l) = none := by
      cases e : b8 x.ways (bM p l) with
      | none => rfl
      | some w => rw [e] at hm; cases hm
    have hne : ∀ r w, b8 x.ways r = some w → r ≠ bM p l := fun r w hw e => by rw [e, hnone] at hw; cases hw
    have hget : ∀ r, b8 (dQ x.ways (bM p l) ⟨p, l, 0⟩) r = if bM p l = r then some ⟨p, l, 0⟩ else b8 x.ways r := fun r => sJ _ _ _ _
    have hold : ∀ r w, b8 x.ways r = some w → b8 (dQ x.ways (bM p l) ⟨p, l, 0⟩) r = some w := fun r w hw => by rw [hget, if_neg (fun e => hne r w hw e.symm)]; exact hw
    have hdep : ∀ r w, b8 x.ways r = some w → GH dep (bM p l) (D + 1) r = dep r := fun r w hw => if_neg (hne r w hw)
    have hnew : GH dep (bM p l) (D + 1) (bM p l) = D + 1 := if_pos rfl
    have hlen : (dQ x.ways (bM p l) ⟨p, l, 0⟩).length = x.ways.length + 1 := uO _ _ _ hnone
    have split : ∀ r w, b8 (dQ x.ways (bM p l) ⟨p, l, 0⟩) r = some w → (r = bM p l ∧ w = ⟨p, l, 0⟩) ∨ b8 x.ways r = some w := fun r w hw => by
      rw [hget] at hw
      by_cases e : bM p l = r
      · rw [if_pos e] at hw; injection hw with hw; exact .inl ⟨e.symm, hw.symm⟩
      · rw [if_neg e] at hw; exact .inr hw
    refine ⟨GH dep (bM p l) (D + 1), hold _ _ h.start, (hdep _ _ h.start).trans h.dep0, lH _ _ _ h.keys, fun q w hw => ?_, fun q w hw => ?_, fun q w hw => ?_, fun q hq => ?_, ?_, fun q w hw => ?_, fun p' ls' e => ?_⟩
    · rcases split q w hw with ⟨rfl, rfl⟩ | hw
      · exact .inr ⟨hl, rfl, ⟨wp, hold _ _ hwp⟩, by rw [hnew, hdep _ _ hwp, hpD]⟩
      · rcases h.via q w hw with h1 | ⟨h1, h2, ⟨w', h3⟩, h4⟩
        · exact .inl h1
        · exact .inr ⟨h1, h2, ⟨w', hold _ _ h3⟩, by rw [hdep _ _ hw, hdep _ _ h3]; exact h4⟩
    · rw [hlen]
      rcases split q w hw with ⟨rfl, rfl⟩ | hw
      · have := h.depl p wp hwp; rw [hnew]; omega
      · have := h.depl q w hw; rw [hdep _ _ hw]; omega
    · rcases split q w hw with ⟨rfl, rfl⟩ | hw
      · exact yA hr l (h.iJ p wp hwp) (C5 hr.aO l ((kM hg).1 hl))
      · exact h.iJ q w hw
    · rcases List.mem_append.1 hq with hq | hq
      · obtain ⟨⟨w, hw⟩, h2⟩ := h.qin q hq
        exact ⟨⟨w, hold _ _ hw⟩, by rw [hdep _ _ hw]; exact h2⟩
      · rw [List.mem_singleton.1 hq, hnew]
        exact ⟨⟨_, by rw [hget, if_pos rfl]⟩, by omega, by omega⟩
    · rw [List.pairwise_append]
      refine ⟨h.srt.imp_of_mem fun {s t} hs ht hst => ?_, List.pairwise_singleton _ _, fun s hs t ht => ?_⟩
      · obtain ⟨⟨ws, h1⟩, _⟩ := h.qin s hs
        obtain ⟨⟨wt, h2⟩, _⟩ := h.qin t ht
        rw [hdep _ _ h1, hdep _ _ h2]; exact hst
      · obtain ⟨⟨ws, h1⟩, _, h2⟩ := h.qin s hs
        rw [List.mem_singleton.1 ht, hnew, hdep _ _ h1]; exact h2
    · rcases split q w hw with ⟨rfl, rfl⟩ | hw
      · exact .inl (List.mem_append.2 (.inr (List.mem_singleton.2 rfl)))
      · rcases h.old q w hw with h1 | ⟨h1, h2, h3⟩
        · exact .inl (List.mem_append.2 (.inl h1))
        · refine .inr ⟨by rw [hdep _ _ hw]; exact h1, h2, ?_⟩
          rcases h3 with ⟨ls', e⟩ | h3
          · injection e with e; injection e with e1 e2; exact .inl ⟨_, by rw [e1]⟩
          · refine .inr fun l' hl' => ?_
            obtain ⟨⟨w', h4⟩, h5⟩ := h3 l' hl'
            exact ⟨⟨w', hold _ _ h4⟩, by rw [hdep _ _ h4, hdep _ _ hw]; exact h5⟩
    · injection e with e; injection e with e1 e2; subst e1; subst e2
      refine ⟨⟨wp, hold _ _ hwp⟩, by rw [hdep _ _ hwp]; exact hpD, fun l' hl' => ?_⟩
      rcases List.mem_append.1 hl' with hl' | hl'
      · obtain ⟨⟨w', h4⟩, h5⟩ := hps l' hl'
        exact ⟨⟨w', hold _ _ h4⟩, by rw [hdep _ _ h4, hdep _ _ hwp]; exact h5⟩
      · rw [List.mem_singleton.1 hl', hnew, hdep _ _ hwp]
        exact ⟨⟨_, by rw [hget, if_pos rfl]⟩, by omega⟩
def dj (b : aT) (g : Int) (p : Pl) (z : rX) (k : Nat) : rX := ((dB b p g).take k).foldl (qG p) z
theorem tB {z : rX} {k : Nat} (hk : k < (dB b p g).length) : dj b g p z (k + 1) = qG p (dj b g p z k) (nth (dB b p g) k) := by
 unfold dj; rw [cg hk, List.foldl_append]; rfl
theorem wP (hr : b.cQ) (hg : 0 ≤ g) {z : rX} (h : oE b g dep D (some (p, [])) z) : ∀ k, k ≤ (dB b p g).length → ∃ dep', oE b g dep' D (some (p, (dB b p g).take k)) (dj b g p z k)
  | 0, _ => ⟨dep, by rw [List.take_zero]; exact h⟩
  | k + 1, hk => by
    obtain ⟨dep', h1⟩ := wP hr hg h k aE
    rw [tB aE, cg aE]
    exact FQ hr hg h1 (cD aE)
theorem DI {rest : List Pl} (h : oE b g dep D none x) (hq : x.queue = p :: rest) (hm : eN b p = false) : oE b g dep (dep p) (some (p, [])) ⟨x.ways, rest⟩ := by
 have hp := h.qin p EG
 have hs := h.srt
 rw [hq, List.pairwise_cons] at hs
 refine ⟨h.start, h.dep0, h.keys, h.via, h.depl, h.iJ, fun q hq' => ?_, hs.2, fun q w hw => ?_, fun p' ls e => ?_⟩
 ·have h1 := h.qin q (by rw [hq]; exact List.mem_cons_of_mem _ hq')
  have := hs.1 q hq'
  exact ⟨h1.1, this, by omega⟩
 ·rcases h.old q w hw with h1 | ⟨h1, h2, h3⟩
  ·rw [hq] at h1
   rcases List.mem_cons.1 h1 with rfl | h1
   ·exact .inr ⟨Nat.le_refl _, hm, .inl ⟨[], rfl⟩⟩
   exact .inl h1
  refine .inr ⟨by omega, h2, ?_⟩
  rcases h3 with ⟨ls, e⟩ | h3
  ·cases e
  exact .inr h3
 injection e with e; injection e with e1 e2; subst e1; subst e2
 exact ⟨hp.1, rfl, fun l hl => by cases hl⟩
theorem Jb (h : oE b g dep D (some (p, dB b p g)) x) : oE b g dep D none x :=
 { h with
  old := fun q w hw => by
   rcases h.old q w hw with h1 | ⟨h1, h2, h3⟩
   ·exact .inl h1
   refine .inr ⟨h1, h2, .inr ?_⟩
   rcases h3 with ⟨ls, e⟩ | h3
   ·injection e with e; injection e with e1 e2; subst e1
    exact (h.curs p _ rfl).2.2
   exact h3
  curs := fun _ _ e => by cases e }
def mM (b : aT) : rX := ⟨[(bJ b, jD)], [bJ b]⟩
theorem OY (hr : b.cQ) : oE b g (fun _ => 0) 0 none (mM b) := by
 have key : ∀ q w, b8 (mM b).ways q = some w → q = bJ b := fun q w h => by
  simp only [mM, b8] at h
  by_cases e : bJ b = q
  ·exact e.symm
  rw [if_neg e] at h; cases h
 refine ⟨by simp [mM, b8], rfl, by simp [mM], fun q w h => .inl (key q w h), fun q w h => by simp [mM], fun q w h => by rw [key q w h]; exact yq hr, fun q hq => ?_, by simp [mM], fun q w h => .inl (by rw [key q w h]; simp [mM]), fun _ _ e => by cases e⟩
 rw [List.mem_singleton.1 hq]
 exact ⟨⟨jD, by simp [mM, b8]⟩, Nat.le_refl _, by omega⟩
def qq (b : aT) (g : Int) (x : rX) : rX ⊕ Found :=
  match x.queue with
  | [] => .inr ⟨x.ways, Jm, false⟩
  | p :: rest => if eN b p = true then .inr ⟨x.ways, p, true⟩ else .inl (dj b g p ⟨x.ways, rest⟩ (dB b p g).length)
def Bm (b : aT) (g : Int) : Nat → rX → Option Found
  | 0, _ => none
  | n + 1, x => match qq b g x with
    | .inr f => some f
    | .inl y => Bm b g n y
def ou (b : aT) (g : Int) (x : rX) (f : Found) : Prop := ∃ n, Bm b g n x = some f
theorem EI : ∀ {n m : Nat} {x : rX} {f f' : Found}, Bm b g n x = some f → Bm b g m x = some f' → f = f'
  | 0, _, _, _, _, h, _ => by cases h
  | _, 0, _, _, _, _, h => by cases h
  | n + 1, m + 1, x, f, f', h, h' => by
    unfold Bm at h h'
    cases e : qq b g x with
    | inr y => rw [e] at h h'; injection h with h; injection h' with h'; rw [← h, ← h']
    | inl y => rw [e] at h h'; exact EI h h'
theorem ou.QU {f f' : Found} (h : ou b g x f) (h' : ou b g x f') : f = f' := let ⟨_, h⟩ := h; let ⟨_, h'⟩ := h'; EI h h'
theorem ou.step {y : rX} {f : Found} (e : qq b g x = .inl y) (h : ou b g y f) : ou b g x f := by
 obtain ⟨n, h⟩ := h
 exact ⟨n + 1, by unfold Bm; rw [e]; exact h⟩
theorem ou.stop {f : Found} (e : qq b g x = .inr f) : ou b g x f := ⟨1, by unfold Bm; rw [e]⟩
open Classical in
noncomputable def gH (b : aT) (g : Int) : Found := if h : ∃ f, ou b g (mM b) f then h.choose else default
theorem uA {f : Found} (h : ou b g (mM b) f) : gH b g = f := by
 unfold gH
 rw [dif_pos ⟨f, h⟩]
 exact (Exists.choose_spec (⟨f, h⟩ : ∃ f, ou b g (mM b) f)).QU h
theorem stepR_end (h : x.queue = []) : qq b g x = .inr ⟨x.ways, Jm, false⟩ := by unfold qq; rw [h]
theorem sA {rest : List Pl} (hq : x.queue = p :: rest) (hm : eN b p = true) : qq b g x = .inr ⟨x.ways, p, true⟩ := by unfold qq; rw [hq]; exact if_pos hm
theorem Am {rest : List Pl} (hq : x.queue = p :: rest) (hm : eN b p = false) : qq b g x = .inl (dj b g p ⟨x.ways, rest⟩ (dB b p g).length) := by unfold qq; rw [hq]; exact if_neg (by rw [hm]; decide)
theorem oE.z7 {cur : Option (Pl × List (List bX))} (h : oE b g dep D cur x) : x.ways.length ≤ dZ := by
 have := yV h.keys fun p hp => by
  obtain ⟨w, hw⟩ := uw hp
  exact h.iJ p w hw
 rwa [List.length_map] at this
noncomputable def Oa (x : rX) : Nat := (dZ - x.ways.length) * 2 + x.queue.length
theorem Ay (z : rX) : ∀ (l : List (List bX)), (l.foldl (qG p) z).ways.length ≥ z.ways.length ∧ (l.foldl (qG p) z).queue.length + z.ways.length ≤ z.queue.length + (l.foldl (qG p) z).ways.length := by
  intro l
  induction l generalizing z with
  | nil => exact ⟨Nat.le_refl _, Nat.le_refl _⟩
  | cons t l ih =>
    rw [List.foldl_cons]
    obtain ⟨h1, h2⟩ := ih (qG p z t)
    cases hm : (b8 z.ways (bM p t)).isSome with
    | true => rw [tW hm] at h1 h2 ⊢; exact ⟨h1, h2⟩
    | false =>
      have hn : b8 z.ways (bM p t) = none := by
        cases e : b8 z.ways (bM p t) with
        | none => rfl
        | some w => rw [e] at hm; cases hm
      rw [vq hm] at h1 h2 ⊢
      have := uO z.ways (bM p t) ⟨p, t, 0⟩ hn
      simp only [List.length_append, List.length_singleton] at h1 h2
      rw [this] at h1 h2
      exact ⟨by omega, by omega⟩
theorem G2 {rest : List Pl} {dep' : Pl → Nat} {D' : Nat} {cur' : Option (Pl × List (List bX))} (hq : x.queue = p :: rest) (h : oE b g dep' D' cur' (dj b g p ⟨x.ways, rest⟩ (dB b p g).length)) : Oa (dj b g p ⟨x.ways, rest⟩ (dB b p g).length) < Oa x := by
 have h1 := h.z7
 have h2 := Ay (p := p) ⟨x.ways, rest⟩ ((dB b p g).take (dB b p g).length)
 unfold Oa
 rw [hq, List.length_cons]
 have h2 : (dj b g p ⟨x.ways, rest⟩ (dB b p g).length).ways.length ≥ x.ways.length ∧ (dj b g p ⟨x.ways, rest⟩ (dB b p g).length).queue.length + x.ways.length ≤ rest.length + (dj b g p ⟨x.ways, rest⟩ (dB b p g).length).ways.length := h2
 omega
theorem EU (hr : b.cQ) (hg : 0 ≤ g) {rest : List Pl} (h : oE b g dep D none x) (hq : x.queue = p :: rest) (hm : eN b p = false) : ∃ dep' D', oE b g dep' D' none (dj b g p ⟨x.ways, rest⟩ (dB b p g).length) := by
 obtain ⟨dep', h1⟩ := wP hr hg (DI h hq hm) _ (Nat.le_refl _)
 rw [List.take_length] at h1
 exact ⟨dep', _, Jb h1⟩
structure Ho (b : aT) (g : Int) (f : Found) : Prop where
  yes : f.is = true → ∃ L, iG f.ways (bJ b) f.last L ∧ qp b g (bJ b) L = some f.last ∧ eN b f.last = true ∧ (L.length ≤ 40000000) ∧ ∀ rs q, qp b g (bJ b) rs = some q → eN b q = true → L.length ≤ rs.length
  no : f.is = false → ∀ rs q, qp b g (bJ b) rs = some q → eN b q = false
theorem oE.near (h : oE b g dep D none x) (hq : ∀ q ∈ x.queue, D ≤ dep q) : ∀ (rs : List (List bX)) (q : Pl), qp b g (bJ b) rs = some q → (rs.length ≤ D ∨ x.queue = []) → ∃ w, b8 x.ways q = some w ∧ dep q ≤ rs.length := by
 refine ju (fun q e _ => ?_) fun rs l ih q e hl => ?_
 ·injection e with e; subst e; exact ⟨_, h.start, by rw [h.dep0]; exact Nat.zero_le _⟩
 obtain ⟨r, e1, e2, e3⟩ := mQ e
 rw [List.length_append, List.length_singleton] at hl ⊢
 obtain ⟨w, hw, hd⟩ := ih r e1 (hl.imp (fun h => by omega) id)
 rcases h.old r w hw with h1 | ⟨_, _, h3⟩
 ·rcases hl with hl | hl
  ·have := hq r h1; omega
  rw [hl] at h1; cases h1
 rcases h3 with ⟨ls, e⟩ | h3
 ·cases e
 obtain ⟨⟨w', h4⟩, h5⟩ := h3 l e2
 subst e3; exact ⟨w', h4, by omega⟩
theorem oE.chain (h : oE b g dep D none x) : ∀ (n : Nat) (p : Pl) (w : Way), b8 x.ways p = some w → dep p ≤ n → ∃ A, iG x.ways (bJ b) p A ∧ qp b g (bJ b) A = some p ∧ A.length = dep p := by
  intro n
  induction n with
  | zero =>
    intro p w hw hn
    rcases h.via p w hw with e | ⟨_, _, _, h4⟩
    · subst e; exact ⟨[], .nil, rfl, h.dep0.symm⟩
    · omega
  | succ n ih =>
    intro p w hw hn
    by_cases e : p = bJ b
    · subst e; exact ⟨[], .nil, rfl, h.dep0.symm⟩
    rcases h.via p w hw with e' | ⟨h1, h2, ⟨w', h3⟩, h4⟩
    · exact absurd e' e
    · obtain ⟨A, g1, g2, g3⟩ := ih w.frm w' h3 aE
      exact ⟨A ++ [w.byT], .snoc e hw g1, by rw [h2]; exact DX g2 h1, by rw [List.length_append, g3, h4]; rfl⟩
theorem Ig (h : oE b g dep D none x) (hq : x.queue = []) : Ho b g ⟨x.ways, Jm, false⟩ := by
 refine ⟨(fun e => by cases e), fun _ rs q e => ?_⟩
 obtain ⟨w, hw, _⟩ := h.near (fun q hq' => by rw [hq] at hq'; cases hq') rs q e (.inr hq)
 rcases h.old q w hw with h1 | ⟨_, h2, _⟩
 ·rw [hq] at h1; cases h1
 exact h2
theorem EX {rest : List Pl} (h : oE b g dep D none x) (hq : x.queue = p :: rest) (hm : eN b p = true) : Ho b g ⟨x.ways, p, true⟩ := by
 obtain ⟨⟨w, hw⟩, h1, h2⟩ := h.qin p EG
 refine ⟨fun _ => ?_, (fun e => by cases e)⟩
 obtain ⟨A, g1, g2, g3⟩ := h.chain _ p w hw (Nat.le_refl _)
 have hd := h.depl p w hw
 have hf := h.z7
 have hN := n4
 refine ⟨A, g1, g2, hm, by omega, fun rs q e hq' => ?_⟩
 have hs := h.srt
 rw [hq, List.pairwise_cons] at hs
 -- those of the queue are no nearer than p
 have hmin : ∀ r ∈ x.queue, dep p ≤ dep r := fun r hr => by
  rw [hq] at hr
  rcases List.mem_cons.1 hr with rfl | hr
  ·exact Nat.le_refl _
  exact hs.1 r hr
 refine Nat.le_of_not_lt fun hlt => ?_
 have key : ∀ (rs : List (List bX)) (q : Pl), qp b g (bJ b) rs = some q → rs.length < dep p → (∃ w, b8 x.ways q = some w) ∧ dep q ≤ rs.length := by
  refine ju (fun q e _ => ?_) fun rs l ih q e hl => ?_
  ·injection e with e; subst e; exact ⟨⟨_, h.start⟩, by rw [h.dep0]; exact Nat.zero_le _⟩
  obtain ⟨r, e1, e2, e3⟩ := mQ e
  rw [List.length_append, List.length_singleton] at hl ⊢
  obtain ⟨⟨w, hw⟩, hd⟩ := ih r e1 aE
  rcases h.old r w hw with h1 | ⟨_, _, h3⟩
  ·have := hmin r h1; omega
  rcases h3 with ⟨ls, e⟩ | h3
  ·cases e
  obtain ⟨h4, h5⟩ := h3 l e2
  subst e3; exact ⟨h4, by omega⟩
 obtain ⟨⟨w', hw'⟩, hd'⟩ := key rs q e aE
 rcases h.old q w' hw' with h1 | ⟨_, h2, _⟩
 ·have := hmin q h1; omega
 rw [hq'] at h2; cases h2
theorem DB (hr : b.cQ) (hg : 0 ≤ g) : ∀ (n : Nat) (x : rX) (dep : Pl → Nat) (D : Nat), Oa x < n → oE b g dep D none x → ∃ f, ou b g x f ∧ Ho b g f := by
  intro n
  induction n with
  | zero => intro x _ _ hx _; omega
  | succ n ih =>
    intro x dep D hx h
    cases hq : x.queue with
    | nil => exact ⟨_, .stop (stepR_end hq), Ig h hq⟩
    | cons p rest =>
      cases hm : eN b p with
      | true => exact ⟨_, .stop (sA hq hm), EX h hq hm⟩
      | false =>
        obtain ⟨dep', D', h'⟩ := EU hr hg h hq hm
        obtain ⟨f, h1, h2⟩ := ih _ dep' D' (by have := G2 hq h'; omega) h'
        exact ⟨f, h1.step (Am hq hm), h2⟩
theorem w8 (hr : b.cQ) (hg : 0 ≤ g) : Ho b g (gH b g) ∧ ou b g (mM b) (gH b g) := by
 obtain ⟨f, h1, h2⟩ := DB hr hg _ (mM b) _ 0 (Nat.lt_succ_self _) (OY hr)
 rw [uA h1]; exact ⟨h2, h1⟩
def zD (b : aT) (g : Int) (x : rX) : Prop := ∀ f, ou b g x f → gH b g = f
theorem Py : zD b g (mM b) := fun _ h => uA h
theorem zD.step {y : rX} (h : zD b g x) (e : qq b g x = .inl y) : zD b g y := fun f hf => h f (hf.step e)
theorem zD.stop {f : Found} (h : zD b g x) (e : qq b g x = .inr f) : gH b g = f := h f (.stop e)
def hH (b : aT) (g : Int) : Int := if bH b = 0 then if Ac g 1 3 = true then 0 else 3 else bH b
theorem kT {b : aT} {g : Int} (h : hH b g = 0) : bH b = 0 ∧ 1 ≤ g ∧ g ≤ 3 := by
 unfold hH at h
 split at h
 ·rename_i h1
  split at h
  ·rename_i h2; exact ⟨h1, fE.1 h2⟩
  cases h
 rename_i h1; exact absurd h h1
theorem KY {b : aT} {g : Int} (h : (decide (bH b = 0) && !Ac g 1 3) = true) : hH b g = 3 := by
 simp only [Bool.and_eq_true, decide_eq_true_eq, Bool.not_eq_true'] at h
 unfold hH; rw [if_pos h.1, if_neg (by rw [h.2]; decide)]
theorem GV {b : aT} {g : Int} (h : (decide (bH b = 0) && !Ac g 1 3) = false) : hH b g = bH b := by
 unfold hH
 split
 ·rename_i h1
  rw [decide_eq_true h1, Bool.true_and, Bool.not_eq_false'] at h
  rw [if_pos h, h1]
 rfl
noncomputable def dV (b : aT) (g : Int) : List (List bX) := if hH b g = 0 then if (gH b g).is = true then qJ (gH b g).ways (bJ b) (gH b g).last else [] else []
noncomputable def ew (b : aT) (g : Int) : Int := if hH b g = 0 then if (gH b g).is = true then 0 else 7 else hH b g
theorem yf {p : Pl} {l : List bX} {j : Nat} (h : j < l.length) : cm (bM p (l.take j)) (nth l j) = bM p (l.take (j + 1)) := by rw [cg h, ia]
def bk (x : rX) : Pl := nth x.queue 0
def gV (x : rX) : rX := ⟨x.ways, x.queue.drop 1⟩
theorem Jj {x : rX} (h : 0 < x.queue.length) : x.queue = bk x :: x.queue.drop 1 := by
 have := lu h
 rw [List.drop_zero] at this
 exact this
theorem x6 {p : Pl} {z : rX} {k : Nat} (hk : k < (dB b p g).length) (h : (b8 (dj b g p z k).ways (bM p (nth (dB b p g) k))).isSome = true) : dj b g p z k = dj b g p z (k + 1) := by rw [tB hk, tW h]
theorem CQ {p : Pl} {z : rX} {k : Nat} (hk : k < (dB b p g).length) (h : (b8 (dj b g p z k).ways (bM p (nth (dB b p g) k))).isSome = false) :
 dQ (dj b g p z k).ways (bM p (nth (dB b p g) k)) ⟨p, nth (dB b p g) k, 0⟩ = (dj b g p z (k + 1)).ways ∧ (dj b g p z k).queue ++ [bM p (nth (dB b p g) k)] = (dj b g p z (k + 1)).queue := by
 rw [tB hk, vq h]; exact ⟨rfl, rfl⟩
structure Cr (b : aT) (g : Int) (x : rX) : Prop where
  inv : ∃ dep D, oE b g dep D none x
  same : zD b g x
theorem Oj (hr : b.cQ) : Cr b g (mM b) := ⟨⟨_, 0, OY hr⟩, Py⟩
theorem Cr.len (h : Cr b g x) : x.ways.length ≤ dZ := let ⟨_, _, h⟩ := h.inv; h.z7
theorem Cr.next (h : Cr b g x) (hr : b.cQ) (hg : 0 ≤ g) (hq : 0 < x.queue.length) (hm : eN b (bk x) = false) : Cr b g (dj b g (bk x) (gV x) (dB b (bk x) g).length) ∧ Oa (dj b g (bk x) (gV x) (dB b (bk x) g).length) < Oa x := by
 obtain ⟨dep, D, h1⟩ := h.inv
 obtain ⟨dep', D', h2⟩ := EU hr hg h1 (Jj hq) hm
 exact ⟨⟨⟨dep', D', h2⟩, h.same.step (Am (Jj hq) hm)⟩, G2 (Jj hq) h2⟩
theorem qI (h : x.queue.length ≤ x.ways.length + 1) (p : Pl) (k : Nat) : (dj b g p x k).queue.length ≤ (dj b g p x k).ways.length + 1 := by
 have h2 := Ay (p := p) x ((dB b p g).take k)
 have h2 : (dj b g p x k).ways.length ≥ x.ways.length ∧ (dj b g p x k).queue.length + x.ways.length ≤ x.queue.length + (dj b g p x k).ways.length := h2
 omega
theorem AH (h : Cr b g x) (hr : b.cQ) (hg : 0 ≤ g) (hq : 0 < x.queue.length) (hm : eN b (bk x) = false) {k : Nat} (hk : k ≤ (dB b (bk x) g).length) : (dj b g (bk x) (gV x) k).ways.length ≤ dZ := by
 obtain ⟨dep, D, h1⟩ := h.inv
 obtain ⟨dep', h2⟩ := wP hr hg (DI h1 (Jj hq) hm) k hk
 exact h2.z7
end Go.Proofs.YtpnndljmhpepgaaGreat
namespace Go.T
open Go Go.RowKit
section
variable {P : Program} {fr : Fr} {ops : Array Oper} {A : As} {rest : List Oper} {K : As → List (As × Fx) → Prop} {d : Nat} {t ty' : TypeId} {p : String} {e : Array Edge} [T : lq P]
variable {α : Type} {E : El α} {Tb J : Nat} {xs ys : List α}
theorem Kf {x : Operand} {ti : TI} {el : Nat} (hx : A.op fr x = .gG E Tb J xs) (hT : T.dz[ty']? = some ti) (hk : ti.k = .slice el)
 (h : ay P fr ops rest (A.set d (.int .i64 (xs.length : Nat))) fun A' l => K A' ((A, { d := some d, ty := .int .i64 (xs.length : Nat), rs := cA x }) :: l)) :
 ay P fr ops (⟨some d, .call ⟨.builtin .len, #[x], #[ty']⟩, t, p, e, none⟩ :: rest) A K :=
 bR (bl rfl rfl fun a w M _ hr _ => by
  have := cN (x := x) (fun _ h => h) hr
  rw [hx] at this
  have h1 := this
  obtain ⟨_, D, _, hD, hkd, _⟩ := cP hT
  rw [hk] at hkd
  cases D <;> simp only [TK.of, reduceCtorEq, TK.slice.injEq] at hkd
  refine ⟨.int .i64 xs.length, ?_, rfl⟩
  rcases h1 with ⟨hn, ex⟩ | ⟨g, off, c, cur, ex, _⟩
  ·simp [execOp, ex, resolve, invoke, builtin, Builtin.len_, run_underlying hD, hn, goInt]
  simp [execOp, ex, resolve, invoke, builtin, Builtin.len_, run_underlying hD, goInt]) h
theorem Dc [Inhabited α] {x y : Operand} {kd : IntKind} {i : Nat} {ti te : TI} {el : Nat} (hx : A.op fr x = .gG E Tb J xs) (hy : A.op fr y = .int kd i) (hT : T.dz[ty']? = some ti) (hk : ti.k = .slice el) (hE : T.dz[el]? = some te) (hs : te.size = E.size) (hi : i < xs.length)
 (h : ay P fr ops rest (A.set d (.op J (E.tys (nth xs i)))) fun A' l' => K A' ((A, { d := some d, ty := .op J (E.tys (nth xs i)), rs := cA x ++ cA y }) :: l')) : ay P fr ops (⟨some d, .indexAddr ty' x y, t, p, e, none⟩ :: rest) A K :=
 bR (bl rfl rfl fun a w M _ hr _ => by
  obtain ⟨hdx, hdy⟩ := op2 hr
  rw [hx] at hdx; rw [hy] at hdy
  have h1 := hdx
  have ey : a.eval y = .int kd i := hdy
  rcases h1 with ⟨h0, _⟩ | ⟨g, off, c, cur, ex, hg, hh, hn, _, _, hd⟩
  ·subst h0; simp at hi
  refine ⟨_, by simp only [execOp, ex, ey, Sem.run_bind, gk hT hk hE (Int.natCast_nonneg i) (show (i : Int).toNat < xs.length from hi)]; rfl, g, off + i * te.size, by simp, hg, fun j ty hj => ?_⟩
  rw [hs]
  exact Au hh hd hi hj) h
theorem MV {x y : Operand} {kd : IntKind} {lo : Nat} {ti te : TI} {el : Nat} (hx : A.op fr x = .gG E Tb J xs) (hy : A.op fr y = .int kd lo) (hT : T.dz[ty']? = some ti) (hk : ti.k = .slice el) (hE : T.dz[el]? = some te) (hs : te.size = E.size) (hlo : lo ≤ xs.length) (h0 : 0 < xs.length)
 (h : ay P fr ops rest (A.set d (.gG E Tb J (xs.drop lo))) fun A' l' => K A' ((A, { d := some d, ty := .gG E Tb J (xs.drop lo), rs := cA x ++ cA y }) :: l')) : ay P fr ops (⟨some d, .slice ty' x (some y) none none, t, p, e, none⟩ :: rest) A K :=
 bR (bl rfl rfl fun a w M _ hr _ => by
  obtain ⟨hdx, hdy⟩ := op2 hr
  rw [hx] at hdx; rw [hy] at hdy
  have h1 := hdx
  have ey : a.eval y = .int kd lo := hdy
  obtain ⟨_, D, _, hD, hkd, _⟩ := cP hT
  rw [hk] at hkd
  cases D <;> simp only [TK.of, reduceCtorEq, TK.slice.injEq] at hkd
  subst hkd
  have hsz := fun w => cq (P := P) hE w
  rcases h1 with ⟨hn, _⟩ | ⟨g, off, c, cur, ex, hg, hh, hn, hc, hsz2, hd⟩
  ·subst hn; simp at h0
  have hlc : lo ≤ c := by omega
  have hrun : ∃ ad, (execOp a.eval ⟨some d, .slice ty' x (some y) none none, t, p, e, none⟩).run P w = .ok (.value (.slice (some ad) (xs.length - lo) (c - lo))) w ∧ ad = (if c = lo then (⟨g, off, none⟩ : Addr) else ⟨g, off + lo * E.size, none⟩) := by
   refine ⟨_, ?_, rfl⟩
   simp [execOp, ex, ey, Instr.sliceAt, Instr.slice, run_underlying hD, Instr.sliceBounds, Instr.sliceBound, asIntOf, hsz, hs, hn, hlo]
   by_cases hcl : c = lo
   ·simp [hcl]
   simp [hcl]; exact Addr.add_lit _ _ _
  obtain ⟨ad, hrun, had⟩ := hrun
  have hlen : (xs.drop lo).length = xs.length - lo := List.length_drop
  have key : cS w M ((xs.drop lo).flatMap E.tys) ((cur.toList.drop (off + lo * E.size)).take ((xs.drop lo).length * E.size)) := by
   have := jk (lo * E.size) hd
   rw [List.drop_take, List.drop_drop, ← Nat.sub_mul] at this
   have e1 : (xs.flatMap E.tys).drop (lo * E.size) = (xs.drop lo).flatMap E.tys := by
    have : xs.flatMap E.tys = (xs.take lo).flatMap E.tys ++ (xs.drop lo).flatMap E.tys := by rw [← List.flatMap_append, List.take_append_drop]
    rw [this, List.drop_left' PC]
   rw [e1] at this
   rw [hlen]; exact this
  by_cases hcl : c = lo
  ·rw [if_pos hcl] at had
   subst had
   refine ⟨_, hrun, .inr ⟨g, off, c - lo, cur, by rw [hlen], hg, hh, by rw [hlen]; omega, by omega, ?_, ?_⟩⟩
   ·have : c - lo = 0 := by omega
    rw [this]; omega
   have h0' : xs.drop lo = [] := List.eq_nil_of_length_eq_zero (by rw [hlen]; omega)
   rw [h0']; simp [cS]
  rw [if_neg hcl] at had
  subst had
  refine ⟨_, hrun, .inr ⟨g, off + lo * E.size, c - lo, cur, by rw [hlen], hg, hh, by rw [hlen]; omega, by omega, ?_, key⟩⟩
  rw [Nat.add_assoc, ← Nat.add_mul, show lo + (c - lo) = c by omega]; exact hsz2) h
theorem A7 {x y : Operand} {st el : Nat} {ti te : TI} (hx : A.op fr x = .gG E el J xs) (hy : A.op fr y = .sl E ys) (hJ : 4096 ≤ J) (hp : fr.pass.contains J = false) (hpos : 0 < ys.length) (hT : T.dz[st]? = some ti) (hk : ti.k = .slice el) (hE : T.dz[el]? = some te) (hs : te.size = E.size) (hz : te.zero.length = te.size) (h0 : 0 < te.size)
    (hlen : (xs.length + ys.length) * te.bytes ≤ 140737488355328) (hlen' : xs.length + ys.length ≤ 9223372036854775807)
    (h : ay P fr ops rest (A.after { d := some d, ty := .gG E el J (xs ++ ys), S := [J], rs := cA x ++ cA y }) fun A' l' => K A' ((A, { d := some d, ty := .gG E el J (xs ++ ys), S := [J], rs := cA x ++ cA y }) :: l')) :
    ay P fr ops (⟨some d, .call ⟨.builtin .append, #[x, y], #[st, st]⟩, t, p, e, none⟩ :: rest) A K := by
  refine ⟨_, fk rfl rfl bB x9 bB fun a w M wf hr htg => ?_, h⟩
  obtain ⟨hdx, hdy⟩ := op2 hr
  rw [hx] at hdx; rw [hy] at hdy
  have hrow := hdx
  obtain ⟨_, D, _, hD, hkd, _⟩ := cP hT
  rw [hk] at hkd
  cases D <;> simp only [TK.of, reduceCtorEq, TK.slice.injEq] at hkd
  subst hkd
  rename_i el
  obtain ⟨i, _, hi, _, _, hsz, hby, hze⟩ := cP hE
  obtain ⟨zz, hiz, hzc⟩ : ∃ z, i.zero = some z ∧ z.cells.size = i.size := by
    cases hiz : i.zero with
    | none => rw [hiz] at hze; rw [← hze] at hz; simp at hz; omega
    | some z => rw [hiz] at hze; exact ⟨z, rfl, by simp at hze; rw [hsz, ← hz, ← hze]; simp⟩
  obtain ⟨ad, c', ey, hc1, hc2, hpp⟩ := hdy
  obtain ⟨b', off', rfl, hp'⟩ := hpp hpos
  obtain ⟨news, hn1, hn2, hn3⟩ := mW hp' _ (Nat.le_refl _)
  rw [List.take_length] at hn2
  have hnl : news.length = ys.length * i.size := by rw [hn1, cz, hsz, hs]
  have hnews : ∀ j u, news[j]? = some u → w.cell? ((⟨b', off', none⟩ : Addr).add j) = some u := fun j u hj => by rw [Addr.add_lit]; exact hn3 j u hj
  have hones := nE hn2 (mw E ys)
  have hesz : E.size = i.size := by rw [hsz, hs]
  -- behind a growth
  have grown : ∀ (olds : List Value) (cap : Nat), cS w M (xs.flatMap E.tys) olds → cap < xs.length + ys.length →
      (Builtin.append_ #[st, st] t #[a.eval x, a.eval y]).run P w = .ok (.slice (some ⟨w.heap.size, 0, none⟩) (xs.length + ys.length) (grownCap w (xs.length + ys.length) cap el)) (w.drew.alloc (.cells (olds.toArray ++ news.toArray ++ Builtin.zeroCells zz.cells (grownCap w (xs.length + ys.length) cap el - (xs.length + ys.length))) el)) →
      ∃ v w', (execOp a.eval ⟨some d, .call ⟨.builtin .append, #[x, y], #[st, st]⟩, t, p, e, none⟩).run P w = .ok (.value v) w' ∧ Fx.left { d := some d, ty := .gG E el J (xs ++ ys), S := [J], rs := cA x ++ cA y } w M w' v := by
    intro olds cap hdo hcap hrun
    have holen : olds.length = xs.length * i.size := by rw [cO hdo, cz, hesz]
    have hge := grownCap_ge w (xs.length + ys.length) cap el
    have hcm : grownCap w (xs.length + ys.length) cap el ≤ maxLen := grownCap_le_maxLen w (xs.length + ys.length) cap el Bv
    have hsize : (w.drew.alloc (.cells (olds.toArray ++ news.toArray ++ Builtin.zeroCells zz.cells (grownCap w (xs.length + ys.length) cap el - (xs.length + ys.length))) el)).heap.size = w.heap.size + 1 := by simp
    have hold : ∀ b2, b2 < w.heap.size → (w.drew.alloc (.cells (olds.toArray ++ news.toArray ++ Builtin.zeroCells zz.cells (grownCap w (xs.length + ys.length) cap el - (xs.length + ys.length))) el)).heap[b2]? = w.heap[b2]? := fun b2 h => Below.heap_alloc w.drew _ b2 h
    have hnew : (w.drew.alloc (.cells (olds.toArray ++ news.toArray ++ Builtin.zeroCells zz.cells (grownCap w (xs.length + ys.length) cap el - (xs.length + ys.length))) el)).heap[w.heap.size]? = some (.cells (olds.toArray ++ news.toArray ++ Builtin.zeroCells zz.cells (grownCap w (xs.length + ys.length) cap el - (xs.length + ys.length))) el (0, 0)) := iA w.drew _
    have hos : (w.drew.alloc (.cells (olds.toArray ++ news.toArray ++ Builtin.zeroCells zz.cells (grownCap w (xs.length + ys.length) cap el - (xs.length + ys.length))) el)).os = w.os ∧ (w.drew.alloc (.cells (olds.toArray ++ news.toArray ++ Builtin.zeroCells zz.cells (grownCap w (xs.length + ys.length) cap el - (xs.length + ys.length))) el)).tape = w.tape ∧ (w.drew.alloc (.cells (olds.toArray ++ news.toArray ++ Builtin.zeroCells zz.cells (grownCap w (xs.length + ys.length) cap el - (xs.length + ys.length))) el)).output = w.output := ⟨rfl, rfl, rfl⟩
    have hcs : (olds.toArray ++ news.toArray ++ Builtin.zeroCells zz.cells (grownCap w (xs.length + ys.length) cap el - (xs.length + ys.length))).size = grownCap w (xs.length + ys.length) cap el * i.size := by
      simp only [Array.size_append, List.size_toArray, size_zeroCells, hzc, holen, hnl, ← Nat.add_mul]
      congr 1
      omega
    have htk : ((olds.toArray ++ news.toArray ++ Builtin.zeroCells zz.cells (grownCap w (xs.length + ys.length) cap el - (xs.length + ys.length))).toList.drop 0).take ((xs ++ ys).length * E.size) = olds ++ news := by
      rw [List.drop_zero]
      simp only [Array.toList_append]
      rw [List.take_left' Ox]
    generalize hw' : (w.drew.alloc (.cells (olds.toArray ++ news.toArray ++ Builtin.zeroCells zz.cells (grownCap w (xs.length + ys.length) cap el - (xs.length + ys.length))) el)) = w' at *
    generalize hcu : (olds.toArray ++ news.toArray ++ Builtin.zeroCells zz.cells (grownCap w (xs.length + ys.length) cap el - (xs.length + ys.length))) = cu at *
    have le : Le (· ∈ [J]) (· ∈ ([] : List Nat)) w M w' (fun b2 => if b2 = w.heap.size then some J else M b2) :=
      ⟨by omega, hos.1, hos.2.1, hos.2.2, fun b2 hb2 hm => ⟨by rw [if_neg aE]; exact hm, hold b2 hb2⟩, fun b2 u hm _ => by
        have := wf.lt b2 u hm
        exact ⟨by rw [if_neg aE]; exact hm, fun _ => hold b2 this⟩⟩
    have le0 : Le (· ∈ ([] : List Nat)) (· ∈ ([] : List Nat)) w M w' (fun b2 => if b2 = w.heap.size then some J else M b2) :=
      ⟨by omega, hos.1, hos.2.1, hos.2.2, fun b2 hb2 hm => ⟨by rw [if_neg aE]; exact hm, hold b2 hb2⟩, fun b2 u hm _ => by
        have := wf.lt b2 u hm
        exact ⟨by rw [if_neg aE]; exact hm, fun _ => hold b2 this⟩⟩
    have wf' : Wf w' (fun b2 => if b2 = w.heap.size then some J else M b2) := by
      refine ⟨fun b2 u hm => ?_, fun b2 b3 u ht1 hm hm' => ?_⟩
      · split at hm
        · omega
        · have := wf.lt b2 u hm; omega
      · split at hm
        · injection hm with hm; omega
        · split at hm'
          · injection hm' with hm'; omega
          · exact wf.inj b2 b3 u ht1 hm hm'
    refine ⟨.slice (some ⟨w.heap.size, 0, none⟩) (xs.length + ys.length) (grownCap w (xs.length + ys.length) cap el), w', by simp [execOp, resolve, invoke, builtin, hrun], _, wf', le, .inr ⟨w.heap.size, 0, grownCap w (xs.length + ys.length) cap el, cu, by rw [List.length_append], by simp, hnew, by rw [List.length_append]; exact hge, hcm, by rw [hcs, hesz]; omega, ?_⟩, by simp⟩
    rw [htk, List.flatMap_append]
    exact lZ (b7 le0 lV jm hdo) (b7 le0 lV jm hn2)
  rcases hrow with ⟨hxe, ex⟩ | ⟨g, off, cap, cur, ex, hg, hh, hxc, hcm, hfit, hdx⟩
  · have hrn := run_append_nil (P := P) w st t el i zz hD hi hiz ⟨b', off', none⟩ ys.length c' news hnl hnews hpos aE PJ
    subst hxe
    refine grown [] 0 trivial (by simpa using hpos) ?_
    rw [ex, ey]
    simpa using hrn
  · by_cases hroom : xs.length + ys.length ≤ cap
    · -- in place
      have hm : (xs.length + ys.length) * E.size ≤ cap * E.size := Nat.mul_le_mul_right _ hroom
      rw [Nat.add_mul] at hm
      have hcf : off + xs.length * i.size + news.length ≤ cur.size := by rw [hnl, ← hesz]; omega
      have hf := run_firstCells_some (P := P) w i.size ys.length ⟨b', off', none⟩ ys.length c' news hnl hnews
      have hst := run_storeCells_at (P := P) g (off + xs.length * i.size) el news 0 cur w hh yP hones
      rw [j7 _ hh] at hst
      simp only [Nat.add_zero] at hst
      obtain ⟨h1', h2', h3'⟩ := iW (cs' := (cur.toList.take (off + xs.length * i.size) ++ news ++ cur.toList.drop (off + xs.length * i.size + news.length)).toArray) (Tb := el) wf hg _ rfl
      have hrun : (Builtin.append_ #[st, st] t #[a.eval x, a.eval y]).run P w = .ok (.slice (some ⟨g, off, none⟩) (xs.length + ys.length) cap) { w with heap := w.heap.setIfInBounds g (.cells (cur.toList.take (off + xs.length * i.size) ++ news ++ cur.toList.drop (off + xs.length * i.size + news.length)).toArray el (0, 0)) } := by
        rw [ex, ey]
        simp [Builtin.append_, run_underlying hD, sizeOf, typeInfo, hi, Builtin.lenOf, hroom, hf, Addr.add_lit, hst]
      have le : Le (· ∈ [J]) (· ∈ ([] : List Nat)) w M { w with heap := w.heap.setIfInBounds g (.cells (cur.toList.take (off + xs.length * i.size) ++ news ++ cur.toList.drop (off + xs.length * i.size + news.length)).toArray el (0, 0)) } M :=
        h2'.weaken (fun u hu => by simp only [List.mem_singleton] at hu; subst hu; simp) (fun _ h => by cases h)
      refine ⟨.slice (some ⟨g, off, none⟩) (xs.length + ys.length) cap, _, by simp [execOp, resolve, invoke, builtin, hrun], M, h1', le, .inr ⟨g, off, cap, _, by rw [List.length_append], hg, h3', by rw [List.length_append]; exact hroom, hcm, ?_, ?_⟩, by simp⟩
      · simp only [List.size_toArray, List.length_append, List.length_take, List.length_drop, Array.length_toList]
        omega
      · rw [List.length_append, Nat.add_mul, hesz, ← hnl, List.toList_toArray, EM _ _ _ _ yP, List.flatMap_append]
        refine b7 h2' OZ Ou (lZ ?_ hn2)
        rw [← hesz]; exact hdx
    · have holds : ∀ j u, ((cur.toList.drop off).take (xs.length * E.size))[j]? = some u → w.cell? ((⟨g, off, none⟩ : Addr).add j) = some u := fun j u hj => by
        rw [List.getElem?_take] at hj
        split at hj
        · rw [List.getElem?_drop] at hj
          rw [Addr.add_lit]
          simpa [World.cell?, hh] using hj
        · cases hj
      have hol : ((cur.toList.drop off).take (xs.length * E.size)).length = xs.length * i.size := by rw [cO hdx, cz, hesz]
      have hrn := run_append_grow (P := P) w st t el i zz hD hi hiz ⟨g, off, none⟩ xs.length cap _ hol holds ⟨b', off', none⟩ ys.length c' news hnl hnews aE aE (growslice_fits aE vp)
      refine grown _ cap hdx aE ?_
      rw [ex, ey]
      exact hrn
end
section
variable {P : Program} {fr : Fr} {A : As} {c : Code} {Q : Exit → Act → World → Prop}
theorem Oe {α : Type} {E : El α} {T Tc J tg c0 : Nat} {xs : List α} (hc : A.tag c0 = some (.cells Tc [.row E T tg xs])) (h1 : fR tg) (hne : Nat.beq c0 tg = false) (hJ : 4096 ≤ J) (hp : fr.pass.contains tg = false)
    (h : fS P fr c ⟨eT [] [tg] A.slots, (c0, .cells Tc [.gG E T J xs]) :: nF [] [tg] A.tags⟩ Q) : fS P fr c A Q := fun a w ⟨M, ok, hsl, ht⟩ => by
  have le : Le (· ∈ ([] : List Nat)) (· ∈ [tg]) w M w (kW M tg J) := rQ
  refine h a w ⟨kW M tg J, ⟨C7 hJ ok.wf, Fr.ij ok.base pE (fun t ht => by simp only [List.mem_singleton] at ht; subst ht; exact ⟨h1.1, by simpa using hp⟩) le, ok.size, ok.defers.step pE (fun t ht => by simp only [List.mem_singleton] at ht; subst ht; exact h1.1) le⟩, fun i hi => ?_, fun x hx => ?_⟩
  · rcases eo [] [tg] A.slots i with ⟨e, hdj⟩ | ⟨_, e⟩
    · show (eT [] [tg] A.slots i).den _ _ _
      rw [e]; exact (A.slots i).mono le (eF hdj).1 (eF hdj).2 (hsl i hi)
    · show (eT [] [tg] A.slots i).den _ _ _
      rw [e]; trivial
  · rcases List.mem_cons.1 hx with rfl | hx
    · obtain ⟨b, cs, hb, hh, hd⟩ := ht _ (cj hc)
      refine ⟨b, cs, ?_, hh, ?_⟩
      · unfold kW
        rw [if_neg]
        · exact hb
        · rw [hb]; intro e; injection e with e; have e : c0 = tg := e; rw [e] at hne; simp at hne
      · obtain ⟨cs⟩ := cs
        match cs, hd with
        | [v], ⟨⟨vs, hown, hcs, hM⟩, _⟩ =>
          refine ⟨?_, trivial⟩
          rcases hown.2 with ⟨ez, h0⟩ | ⟨g, cap, cur, ez, _, hh, hnc, hcap, hsz, htk⟩
          · exact .inl ⟨List.length_eq_zero_iff.1 h0, ez⟩
          · have hg : M g = some tg := hM g (by rw [ez]; rfl)
            refine .inr ⟨g, 0, cap, cur, ez, by simp [kW, hg], hh, hnc, hcap, by omega, ?_⟩
            rw [List.drop_zero, htk]
            exact b7 (rQ (w := w)) lV jm hcs
    · exact gE le hx fun y hy _ => ht y hy
end
end Go.T
namespace Go.Proofs.YtpnndljmhpepgaaGreat
open Go Go.T
set_option maxRecDepth 100000
set_option maxHeartbeats 16000000
theorem wD {b : aT} {g : Int} (h : ¬ hH b g = 0) : dV b g = [] := if_neg h
theorem sY {b : aT} {g : Int} (h : ¬ hH b g = 0) : ew b g = hH b g := if_neg h
theorem BN {b : aT} {g : Int} {f : Found} (h : hH b g = 0) (e : gH b g = f) (hf : f.is = true) : qJ f.ways (bJ b) f.last = dV b g := by unfold dV; rw [if_pos h, e, if_pos hf]
theorem BP {b : aT} {g : Int} {f : Found} (h : hH b g = 0) (e : gH b g = f) (hf : f.is = true) : ew b g = 0 := by unfold ew; rw [if_pos h, e, if_pos hf]
theorem BE {b : aT} {g : Int} {f : Found} (h : hH b g = 0) (e : gH b g = f) (hf : f.is = false) : dV b g = [] := by unfold dV; rw [if_pos h, e, if_neg (by rw [hf]; decide)]
theorem AV {b : aT} {g : Int} {f : Found} (h : hH b g = 0) (e : gH b g = f) (hf : f.is = false) : ew b g = 7 := by unfold ew; rw [if_pos h, e, if_neg (by rw [hf]; decide)]
theorem sE {b : aT} {g : Int} {f : Found} (hr : b.cQ) (hg : 0 ≤ g) (e : gH b g = f) (hf : f.is = true) : iG f.ways (bJ b) f.last (qJ f.ways (bJ b) f.last) ∧ (qJ f.ways (bJ b) f.last).length ≤ 40000000 := by
 obtain ⟨h, _⟩ := w8 (g := g) hr hg
 rw [e] at h
 obtain ⟨L, h1, _, _, h2, _⟩ := h.yes hf
 rw [oO h1]; exact ⟨h1, h2⟩
theorem AX {n : Nat} (h : (decide ((n : Int) > 0) && !false) = true) : 0 < n := by
 simp only [Bool.and_eq_true, decide_eq_true_eq] at h; omega
theorem uX {n : Nat} (h : (decide ((n : Int) > 0) && !false) = false) : n = 0 := by
 simp only [Bool.not_false, Bool.and_true, decide_eq_false_iff_not] at h; omega
theorem Bs {b : Bool} (h : (!b) = false) : b = true := by cases b <;> first | rfl | cases h
theorem CC {b : Bool} (h : (!b) = true) : b = false := by cases b <;> first | rfl | cases h
attribute [local irreducible] iL fu pJ r9 jY jQ jL jI jT rF jJ q5 dy g6 q2 g7 r8 nth fS dG ay dO bodyPost Exit.then Exit.inBlock Code.wp Code.wpIn fy rS rB rq rL jU r5 fG iT qd cT cX bodyPostM eE
theorem B4 (b : aT) (hs : b.Small) (g : Int) : dO Tryz.prog 44 [cU b, Ty.int .i64 g] (Ty.iF [Ty.when (decide (hH b g = 0)) (Ty.pe dI ⟨b, bJ b⟩ 0), Ty.int .i64 (hH b g)]) := by
 refine az Tryz.func44 ν aB Tryz.ntmps44 aP fun w0 M0 => ?_
 refine aF (aA (bF ν (fm ν (bS ν (aD (aC (aF (aA (aY ν ν ν aP (aa (FA b hs) ν ν ν ν ν (ke ν (aj ν ν (aj ν ν (QT ν (bS ν (aD (aC (aF (aF (aA (bA ν (ah ν ν ν (dm ν ?_)))))))))))))))))))))))
 refine bT 15 ν (fun hg => aH (bA ν (aD ν))) ?_
 refine bT 15 ν (fun hg => cJ 16 hg ν (aH (aa (IN _ _ _) ν ν ν ν ν (aD ν)))) ?_
 refine bT 15 ν (fun hg => cJ 17 hg ν (aH (dW ν (aD ν)))) ?_
 refine dA ν ν (aD (aC ?_))
 refine cI ν (fun hc1 => ?_) (fun hc1 => ?_)
 ·refine aF (aA (fm ν (bS ν (aD (aC (au (aK ?_)))))))
  refine dc ν ν ν ?_ ?_
  all_goals first | exact vX rfl rfl (Ty.uy rfl fun h => absurd (of_decide_eq_true h) (by rw [KY hc1]; decide)) | exact av rfl rfl (congrArg (Ty.int .i64) (KY hc1).symm)
 refine aX (aC (aF (aA (R4 ν (bA ν (QT ν (bS ν (aD (aC (au ?_))))))))))
 refine dc ν ν ν ?_ ?_
 all_goals first | exact vX rfl rfl (Ty.uy rfl fun h => Ty.pU (by rw [← GV hc1]; exact h)) | exact av rfl rfl (congrArg (Ty.int .i64) (GV hc1).symm)
theorem Ei (b : aT) (hs : b.Small) (g : Int) : dO Tryz.prog 14 [cU b, Ty.int .i64 g] (Ty.iF [Ty.sl eG (dV b g), Ty.int .i64 (ew b g)]) := by
 refine AM Tryz.func14 ν aB Tryz.ntmps14 aP fun w0 M0 => ?_
 refine aF (aA (bF ν (fm ν (bS ν (aD (aC (aF (aA (aY ν ν ν aP (bA ν (aa (B4 b hs g) ν ν ν ν ν (ke ν (aj ν ν (aj ν ν (QT ν (bS ν (aD (aC (aF (aF (aA (bA ν (ah ν ν ν ?_)))))))))))))))))))))))
 refine aD (aC ?_)
 refine bw ν (fun hc1 => ?_) (fun hc1 => ?_)
 ·refine aF (aA (bA ν (fm ν (bS ν (aD (aC (au (aK (xD ν ?_)))))))))
  refine dc ν ν ν ?_ ?_
  all_goals first | exact cy (wD hc1) | exact av rfl rfl (congrArg (Ty.int .i64) (sY hc1).symm)
 refine aX (aC (aF ?_))
 have hask := kT hc1
 have hr := c8 hask.1
 have h6 := hr.aO
 have hg : 0 ≤ g := by omega
 have hN := n4
 refine fK (s := 6) ν (Ty.pU (decide_eq_true hc1)) ?_
 refine aA (sQ (fI 6) iU gX ν (nN ν (cW ν (cr ν ν ν ν ν aB (eV ν ν ν ν ν (cC ν ν bW ν kf bn ?_))))))
 refine vU (qb mD (k := bJ b) (v := jD) ν ν aB ν (jo (bJ b)) ν yp gX ?_)
 refine QV ν (cC ν ν bW ν QB bn ?_)
 refine bZ ν bW ν (bK ν ν aB ν ν ν ν ν ν (aD (aC (aF ?_))))
 refine cK (B := live [(1, Ty.int .i64 g), (6, Ty.pe dI ⟨b, bJ b⟩ 0), (8, Ty.ptr 9 0)] [(9, Cont.cells 98 [Ty.mp 27, Ty.int .i64 0, Ty.int .i64 0, Ty.int .i64 0, Ty.int .i64 0, Ty.int .i64 0, Ty.int .i64 0, Ty.bool false]), (27, Cont.mp (fI 6) iU (mM b).ways)]) ?_ ?_
 ·exact dK
 refine aA (nN ν (cW ν (cr ν ν ν ν ν aB (eV ν ν ν ν ν ?_))))
 refine dx (E := oC) (xs := [bJ b]) ν ν ν ν ν aB aB mH bn ν ν ?_
 refine bZ ν bW ν (dH ν ν aB ν ν xS ν aP ν ν jF ?_)
 refine aD (aC (aF ?_))
 refine Oe (J := 4100) (tg := 39) (c0 := 10) ν aB ν aB ν ?_
 refine aV ?_
 refine bf (fun (x : {x : rX // Cr b g x ∧ x.queue.length ≤ x.ways.length + 1}) => live [(1, Ty.int .i64 g), (6, Ty.pe dI ⟨b, bJ b⟩ 0), (8, Ty.ptr 9 0), (9, Ty.ptr 10 0)] [(9, Cont.cells 98 [Ty.mp 27, Ty.int .i64 0, Ty.int .i64 0, Ty.int .i64 0, Ty.int .i64 0, Ty.int .i64 0, Ty.int .i64 0, Ty.bool false]), (10, Cont.cells 99 [Ty.gG oC 91 4100 x.1.queue]), (27, Cont.mp (fI 6) iU x.1.ways)]) (fun x => Oa x.1) (⟨mM b, Oj hr, by simp [mM]⟩) ?_ fun x => ?_
 ·exact dK
 refine aF (aF (aA (aq ν ν aB ν ν ν (Kf ν ν ν (ah ν ν ν (dm ν ?_))))))
 refine bT 42 ν (fun hg => aH (ak ν ν ν ν ν aB (aD ν))) ?_
 refine bT 42 ν (fun hg => cJ 43 hg ν (aH (aq ν ν aB ν ν ν (aD ν)))) ?_
 refine bT 42 ν (fun hg => cJ 44 hg ν (aH (dW ν (aD ν)))) ?_
 refine dA ν ν (aD (aC ?_))
 refine cI ν (fun hc2 => ?_) (fun hc2 => ?_)
 ·refine aX (aC (aV (aF ?_)))
  have hlen : 0 < x.1.queue.length := AX hc2
  refine aA (aq ν ν aB ν ν ν ?_)
  refine Dc (i := 0) ν ν ν ν ν ν hlen ?_
  refine tq ν ν ν aP (bZ ν bW ν (bK ν ν aB ν ν ν ν ν ν (aD (aC (aF (aA (aq ν ν aB ν ν ν ?_)))))))
  refine MV (lo := 1) ν ν ν ν ν ν hlen hlen ?_
  refine dH (ty := Ty.gG oC 91 4100 (x.1.queue.drop 1)) ν ν aB ν ν ν ν aP ν ν jF ?_
  refine aD (aC (aF (aF ?_)))
  refine cK (B := live [(1, Ty.int .i64 g), (6, Ty.pe dI ⟨b, bJ b⟩ 0), (8, Ty.ptr 9 0), (9, Ty.ptr 10 0), (10, Ty.ptr 11 0)] [(9, Cont.cells 98 [Ty.mp 27, Ty.int .i64 0, Ty.int .i64 0, Ty.int .i64 0, Ty.int .i64 0, Ty.int .i64 0, Ty.int .i64 0, Ty.bool false]), (10, Cont.cells 99 [Ty.gG oC 91 4100 (gV x.1).queue]), (11, Cont.cells 91 (j6 (bk x.1))), (27, Cont.mp (fI 6) iU x.1.ways)]) ?_ ?_
  ·exact dK
  refine aA (nN ν (aW ν ν aB ν ν aP (aa (Bq ⟨b, bJ b⟩ h6 (bk x.1)) ν ν ν ν ν (aD (aC ?_)))))
  refine cI ν (fun hc3 => ?_) (fun hc3 => ?_)
  ·refine aF (aA (aW ν ν aB ν ν aP (ak ν ν ν ν ν aB (y8 ν ν aB ν ν ν aP ν ν ν ν (ak ν ν ν ν ν aB (dH ν ν aB ν ν Lp ν aP ν ν bn ?_))))))
   refine aD (aC (bQ (aI (ep ν (aI (aS ν (aC (aF (aF (aA (ak ν ν ν ν ν aB (aq ν ν aB ν ν ν (dW ν (aD (aC (eP ν (ν) (aX (aC (aF ?_)))))))))))))))))))
   have hfm : gH b g = ⟨x.1.ways, bk x.1, true⟩ := x.2.1.same.stop (sA (Jj hlen) hc3)
   have hch := sE hr hg hfm rfl
   refine j8 (tg := 27) [] [(9, Cont.cells 98 [Ty.pm (fI 6) iU x.1.ways, Ty.int .i64 (nth (bk x.1).1 0), Ty.int .i64 (nth (bk x.1).1 1), Ty.int .i64 (nth (bk x.1).1 2), Ty.int .i64 (nth (bk x.1).1 3), Ty.int .i64 (nth (bk x.1).1 4), Ty.int .i64 (nth (bk x.1).1 5), Ty.bool true])] aB rfl trivial ⟨eW rfl rfl ⟨uL rfl aB, cF rfl, cF rfl, cF rfl, cF rfl, cF rfl, cF rfl, cF rfl, trivial⟩, trivial⟩ ?_
   refine cK (B := live [(6, Ty.pe dI ⟨b, bJ b⟩ 0), (8, Ty.ptr 9 0)] [(9, Cont.cells 98 (rI ⟨x.1.ways, bk x.1, true⟩))]) ?_ ?_
   ·exact dK
   refine cH mixed ν (aW ν ν aB ν ν aP (nN ν (cW ν (cr ν ν ν ν ν aB (eV ν ν ν ν ν (aa (L0 ⟨x.1.ways, bk x.1, true⟩ (bJ b) _ hch.1 hch.2) ν ν ν ν ν (iX ν (bS ν (aD ?_)))))))))
   refine ⟨by kernel_rfl, ?_⟩
   refine aC (au (xD ν ?_))
   refine dc ν ν ν ?_ ?_
   all_goals first | exact av rfl rfl (congrArg (Ty.sl eG) (BN hc1 hfm rfl)) | exact av rfl rfl (congrArg (Ty.int .i64) (BP hc1 hfm rfl).symm)
  refine aX (aC (aF (aA (nN ν (aW ν ν aB ν ν aP (bA ν (aa (D0 ⟨b, bJ b⟩ (bk x.1) g) ν ν ν ν ν (aD (aC (aV ?_))))))))))
  refine ry (ps := [62]) (lk [(1, Ty.int .i64 g), (6, Ty.pe dI ⟨b, bJ b⟩ 0), (8, Ty.ptr 9 0), (9, Ty.ptr 10 0), (10, Ty.ptr 11 0)]) (fun k => [(9, Cont.cells 98 [Ty.mp 27, Ty.int .i64 0, Ty.int .i64 0, Ty.int .i64 0, Ty.int .i64 0, Ty.int .i64 0, Ty.int .i64 0, Ty.bool false]), (10, Cont.cells 99 [Ty.gG oC 91 4100 (dj b g (bk x.1) (gV x.1) k).queue]), (11, Cont.cells 91 (j6 (bk x.1))), (27, Cont.mp (fI 6) iU (dj b g (bk x.1) (gV x.1) k).ways)]) false [] [9, 10, 11, 27] ν ν (Ad ⟨b, bJ b⟩ (iI hr) h6 g (bk x.1)) ν ν aB MQ ν ν (fun _ => ν) ν ?_ ?_ ?_ (by intro h; cases h)
  ·exact dK
  ·intro k tys hk
   obtain ⟨hk1, rfl⟩ := Ck hk
   have hk1 : k < (dB b (bk x.1) g).length := hk1
   have hok := (kM hg).1 (cD (xs := dB b (bk x.1) g) hk1)
   have hlg := hok.len
   have hfw := AH x.2.1 hr hg hlen hc3 (Nat.le_of_lt hk1)
   have hql := qI (x := gV x.1) (b := b) (g := g) HN (bk x.1) k
   refine ⟨live [(1, Ty.int .i64 g), (6, Ty.pe dI ⟨b, bJ b⟩ 0), (8, Ty.ptr 9 0), (9, Ty.ptr 10 0), (10, Ty.ptr 11 0), (11, Ty.sl bq (nth (dB b (bk x.1) g) k))] [(9, Cont.cells 98 [Ty.mp 27, Ty.int .i64 0, Ty.int .i64 0, Ty.int .i64 0, Ty.int .i64 0, Ty.int .i64 0, Ty.int .i64 0, Ty.bool false]), (10, Cont.cells 99 [Ty.gG oC 91 4100 (dj b g (bk x.1) (gV x.1) k).queue]), (11, Cont.cells 91 (j6 (bk x.1))), (27, Cont.mp (fI 6) iU (dj b g (bk x.1) (gV x.1) k).ways)], fun l w M => ?_, fun l w M => ?_⟩
   ·refine aA (iX ν (aD (fB ?_)))
    exact dK
   refine aV (aF (aA (aW ν ν aB ν ν aP (bZ ν bW ν (bK ν ν aB ν ν ν ν ν ν (aD (aC (aF (aF (aA (cM ν (bU ν ν ν (bA ν (aD (aC (aV ?_))))))))))))))))
   refine bf (fun (j : {j : Nat // j ≤ (nth (dB b (bk x.1) g) k).length}) => live [(1, Ty.int .i64 g), (6, Ty.pe dI ⟨b, bJ b⟩ 0), (8, Ty.ptr 9 0), (9, Ty.ptr 10 0), (10, Ty.ptr 11 0), (11, Ty.sl bq (nth (dB b (bk x.1) g) k)), (12, Ty.ptr 13 0), (64, Ty.sl bq (nth (dB b (bk x.1) g) k)), (65, Ty.int .i64 (nth (dB b (bk x.1) g) k).length), (66, Ty.int .i64 (j.1 : Nat))] [(9, Cont.cells 98 [Ty.mp 27, Ty.int .i64 0, Ty.int .i64 0, Ty.int .i64 0, Ty.int .i64 0, Ty.int .i64 0, Ty.int .i64 0, Ty.bool false]), (10, Cont.cells 99 [Ty.gG oC 91 4100 (dj b g (bk x.1) (gV x.1) k).queue]), (11, Cont.cells 91 (j6 (bk x.1))), (13, Cont.cells 91 (j6 (bM (bk x.1) ((nth (dB b (bk x.1) g) k).take j.1)))), (27, Cont.mp (fI 6) iU (dj b g (bk x.1) (gV x.1) k).ways)]) (fun j => (nth (dB b (bk x.1) g) k).length - j.1) (⟨0, by omega⟩) ?_ fun j => ?_
   ·exact dK
   refine aF (aA (ah ν ν ν (aD (aC (aF ?_)))))
   refine aU ν (fun hc5 => ?_) (fun hc5 => ?_)
   ·refine aX (aC (aF (aV (aF (aA (af ν ν ν ν ν ν aE (aY ν ν ν aP (bZ ν bW ν ?_))))))))
    refine bK ν ν aB ν ν ν ν ν ν (aD (aC ?_))
    have htk := hok.ok _ (cD (xs := nth (dB b (bk x.1) g) k) (k := j.1) aE)
    have htm := yf (p := bk x.1) (l := nth (dB b (bk x.1) g) k) (j := j.1) aE
    have htl : (0 : Int) ≤ (nth (nth (dB b (bk x.1) g) k) j.1).bN ∧ (nth (nth (dB b (bk x.1) g) k) j.1).bN < b.aO.length := htk.1
    refine aA (ak ν ν ν ν ν aB (aq ν ν aB ν ν ν (ak ν ν ν ν ν aB (aq ν ν aB ν ν ν ?_))))
    refine mK (n := 6) ν ν ν ν ν htl.1 aE ?_
    refine dH (l' := j6 (cm (bM (bk x.1) ((nth (dB b (bk x.1) g) k).take j.1)) (nth (nth (dB b (bk x.1) g) k) j.1))) ν ν aB ν ν gR ν CV ν ν (vK _ _ aE) ?_
    refine aD (bE (aC (aA (bY ν ν aE aE (bA ν (aD ?_))))))
    refine bG (⟨j.1 + 1, by omega⟩) ?_ Ow
    (refine dw.mk' ?_ ?_ <;> (repeat' (first | exact aQ | exact aR | exact eC | refine aG ?_ (Ty.bC _) | refine aG ?_ (Ty.aM _) | refine aL rfl (Cont.aM _) ?_ | refine aL rfl (Cont.eD ?_) ?_ | refine dD ?_ ?_)))
    all_goals first | exact Ty.bO (congrArg (fun p : Pl => nth p.1 0) htm) | exact Ty.bO (congrArg (fun p : Pl => nth p.1 1) htm) | exact Ty.bO (congrArg (fun p : Pl => nth p.1 2) htm) | exact Ty.bO (congrArg (fun p : Pl => nth p.1 3) htm) | exact Ty.bO (congrArg (fun p : Pl => nth p.1 4) htm) | exact Ty.bO (congrArg (fun p : Pl => nth p.1 5) htm)
   refine bQ (aI (aI (aS ν (aC (aF ?_)))))
   refine cK (B := live [(1, Ty.int .i64 g), (6, Ty.pe dI ⟨b, bJ b⟩ 0), (8, Ty.ptr 9 0), (9, Ty.ptr 10 0), (10, Ty.ptr 11 0), (11, Ty.sl bq (nth (dB b (bk x.1) g) k)), (12, Ty.ptr 13 0)] [(9, Cont.cells 98 [Ty.mp 27, Ty.int .i64 0, Ty.int .i64 0, Ty.int .i64 0, Ty.int .i64 0, Ty.int .i64 0, Ty.int .i64 0, Ty.bool false]), (10, Cont.cells 99 [Ty.gG oC 91 4100 (dj b g (bk x.1) (gV x.1) k).queue]), (11, Cont.cells 91 (j6 (bk x.1))), (13, Cont.cells 91 (j6 (bM (bk x.1) ((nth (dB b (bk x.1) g) k).take j.1)))), (27, Cont.mp (fI 6) iU (dj b g (bk x.1) (gV x.1) k).ways)]) ?_ ?_
   ·exact dK
   refine kr (tg := 13) rfl (Cont.p8 (congrArg j6 (show bM (bk x.1) ((nth (dB b (bk x.1) g) k).take j.1) = bM (bk x.1) (nth (dB b (bk x.1) g) k) by rw [List.take_of_length_le aE]))) ?_
   refine aA (ak ν ν ν ν ν aB (aq ν ν aB ν ν ν (aW ν ν aB ν ν aP ?_)))
   refine v9 mD (k := bM (bk x.1) (nth (dB b (bk x.1) g) k)) (z0 := jD) ν ν aB ν (jo _) gX oJ lY ?_
   refine ke ν (aj ν ν (aj ν ν (bZ ν bW ν (bK ν ν aB ν ν ν ν ν ν (dN ν (aD (aC (aF (aA (dm ν (dW ν (aD (aC ?_)))))))))))))
   refine cI ν (fun hc6 => ?_) (fun hc6 => ?_)
   ·refine aF (aA (ak ν ν ν ν ν aB (aq ν ν aB ν ν ν (aW ν ν aB ν ν aP (aW ν ν aB ν ν aP (cM ν (cC ν ν bW ν P8 bn ?_)))))))
    refine oq mD (k := bM (bk x.1) (nth (dB b (bk x.1) g) k)) (v := ⟨bk x.1, nth (dB b (bk x.1) g) k, 0⟩) ν ν aB ν (jo _) ν ν gX ?_
    refine aD (aC (aA (aq ν ν aB ν ν ν (aW ν ν aB ν ν aP ?_))))
    refine bD (E := oC) (xs := [bM (bk x.1) (nth (dB b (bk x.1) g) k)]) ν ν ν ν ν aB aB mH bn ν ?_
    refine A7 ν ν aB ν (by show 0 < 1; decide) ν ν ν ν ν aB J7 FF ?_
    refine dH (ty := Ty.gG oC 91 4100 ((dj b g (bk x.1) (gV x.1) k).queue ++ [bM (bk x.1) (nth (dB b (bk x.1) g) k)])) ν ν aB ν ν ν ν aP ν ν jF ?_
    refine aD (bE (p4 ?_))
    (refine dw.mk' ?_ ?_ <;> (repeat' (first | exact aQ | exact aR | exact eC | refine aG ?_ (Ty.bC _) | refine aL rfl (Cont.aM _) ?_ | refine aL rfl (Cont.eD ?_) ?_ | refine dD ?_ ?_ | refine aL rfl ?_ ?_)))
    all_goals first | exact Ty.sub_eq (congrArg (Ty.gG oC 91 4100) (CQ hk1 (CC hc6)).2) | exact Cont.nU (CQ hk1 (CC hc6)).1
   refine aX (bE (p4 ?_))
   (refine dw.mk' ?_ ?_ <;> (repeat' (first | exact aQ | exact aR | exact eC | refine aG ?_ (Ty.bC _) | refine aL rfl (Cont.aM _) ?_ | refine aL rfl (Cont.eD ?_) ?_ | refine dD ?_ ?_ | refine aL rfl ?_ ?_)))
   all_goals first | exact Ty.sub_eq (congrArg (fun z : rX => Ty.gG oC 91 4100 z.queue) (x6 hk1 (Bs hc6))) | exact Cont.nU (congrArg rX.ways (x6 hk1 (Bs hc6)))
  refine bE (bE ?_)
  refine bG (⟨dj b g (bk x.1) (gV x.1) (dB b (bk x.1) g).length, (x.2.1.next hr hg hlen hc3).1, qI HN _ _⟩) ?_ (by exact (x.2.1.next hr hg hlen hc3).2)
  (refine dw.mk' ?_ ?_ <;> (repeat' (first | exact aQ | exact aR | exact eC | refine aG ?_ (Ty.bC _) | refine aG ?_ (Ty.aM _) | refine aL rfl (Cont.aM _) ?_ | refine aL rfl (Cont.eD ?_) ?_ | refine dD ?_ ?_ | refine aL rfl ?_ ?_)))
  all_goals first | exact Cont.nU (congrArg (fun n => (dj b g (bk x.1) (gV x.1) n).ways) (List.length_map _)) | exact Ty.sub_eq (congrArg (fun n => Ty.gG oC 91 4100 (dj b g (bk x.1) (gV x.1) n).queue) (List.length_map _))
 refine bQ (aI (aI (aS ν (aC (aF (aF (aA (ak ν ν ν ν ν aB (aq ν ν aB ν ν ν (dW ν (aD (aC (mj ν (ν) (aF (aA (fm ν (bS ν (aD (aC (au (aK (xD ν ?_))))))))))))))))))))))
 refine dc ν ν ν ?_ ?_
 all_goals first | exact cy (BE hc1 (x.2.1.same.stop (stepR_end (List.length_eq_zero_iff.1 (uX hc2)))) rfl) | exact av rfl rfl (congrArg (Ty.int .i64) (AV hc1 (x.2.1.same.stop (stepR_end (List.length_eq_zero_iff.1 (uX hc2)))) rfl).symm)
theorem Gv (b : aT) (hs : b.Small) (g : Int) : dO Tryz.prog 15 [cU b, Ty.int .i64 g] (Ty.iF [Ty.int .i64 (dV b g).length, Ty.int .i64 (ew b g)]) := by
 refine az Tryz.func15 ν aB Tryz.ntmps15 aP fun w0 M0 => ?_
 refine aF (aA (bF ν (bS ν (bS ν (aD (aC (aF (aA (aY ν ν ν aP (bA ν (aa (Ei b hs g) ν ν ν ν ν (ke ν (aj ν ν (aj ν ν (iX ν (bS ν (aD (aC (aF (aA (cM ν (bU ν ν ν (bA ν ?_)))))))))))))))))))))))
 refine bS ν (bS ν (aD (aC (au ?_))))
 refine dc ν ν ν ?_ ?_
 all_goals exact b9 rfl rfl
end Go.Proofs.YtpnndljmhpepgaaGreat
namespace Go.Proofs.YtpnndljmhpepgaaGreat
open Go Go.T
def three (l : List Int) : aT := ⟨[50, 50, 50] ++ l, [⟨30, 0, 1⟩, ⟨20, 1, 0⟩, ⟨40, 2, 2⟩]⟩
def Ax (b : aT) (c : bX → Int) (all : Bool) (n : Nat) (P : Found → Bool) : Bool := match runN b c all n (uh b) with
  | some f => P f
  | none => false
theorem wK {b : aT} {c : bX → Int} {all : Bool} {n : Nat} {P : Found → Bool} (h : Ax b c all n P = true) : P (cw b c all) = true := by
  unfold Ax at h
  cases e : runN b c all n (uh b) with
  | none => rw [e] at h; cases h
  | some f => rw [e] at h; rw [tL ⟨n, e⟩]; exact h
def Ft (b : aT) (g : Int) (n : Nat) (P : Found → Bool) : Bool := match Bm b g n (mM b) with
  | some f => P f
  | none => false
theorem Gq {b : aT} {g : Int} {n : Nat} {P : Found → Bool} (h : Ft b g n P = true) : P (gH b g) = true := by
  unfold Ft at h
  cases e : Bm b g n (mM b) with
  | none => rw [e] at h; cases h
  | some f => rw [e] at h; rw [uA ⟨n, e⟩]; exact h
theorem sW : bH (three [50]) = 0 := by decide
theorem vv : bH (three [15]) = 0 := by decide
theorem Rf : Ax (three [50]) dh false 100 (fun f => f.is && decide (((b8 f.ways f.last).getD jD).all = 3)) = true := by kernel_rfl
theorem Rc : Ax (three [50]) (dM (three [50])) false 400 (fun f => f.is && decide (((b8 f.ways f.last).getD jD).all = 70)) = true := by kernel_rfl
theorem Rp : Ax (three [15]) dh false 100 (fun f => !f.is) = true := by kernel_rfl
theorem R5 : Ax (three [15]) dh true 100 (fun f => decide (f.ways.length = 1)) = true := by kernel_rfl
def wU (ways : List (Pl × Way)) (first : Pl) : Nat → Pl → Option (List (List bX))
  | 0, p => if p = first then some [] else none
  | n + 1, p => if p = first then some [] else match b8 ways p with
    | none => none
    | some w => (wU ways first n w.frm).map fun A => A ++ [w.byT]
theorem w5 {ways : List (Pl × Way)} {first : Pl} : ∀ {n : Nat} {p : Pl} {A : List (List bX)}, wU ways first n p = some A → iG ways first p A
  | 0, p, A, h => by
    unfold wU at h
    by_cases e : p = first
    · rw [if_pos e] at h; injection h with h; subst h; subst e; exact .nil
    · rw [if_neg e] at h; cases h
  | n + 1, p, A, h => by
    unfold wU at h
    by_cases e : p = first
    · rw [if_pos e] at h; injection h with h; subst h; subst e; exact .nil
    · rw [if_neg e] at h
      cases hw : b8 ways p with
      | none => rw [hw] at h; cases h
      | some w =>
        rw [hw] at h
        obtain ⟨B, hB, rfl⟩ := Option.map_eq_some_iff.1 h
        exact .snoc e hw (w5 hB)
def KW (b : aT) (f : Found) (n : Nat) : Bool := match wU f.ways (bJ b) 20 f.last with
  | some A => decide (A.length = n)
  | none => false
theorem Fa {b : aT} {f : Found} {n : Nat} (h : KW b f n = true) : (qJ f.ways (bJ b) f.last).length = n := by
  unfold KW at h
  cases e : wU f.ways (bJ b) 20 f.last with
  | none => rw [e] at h; cases h
  | some A => rw [e] at h; rw [oO (w5 e)]; exact of_decide_eq_true h
theorem Ra : Ft (three [50, 50]) 2 200 (fun f => f.is && KW (three [50, 50]) f 2) = true := by kernel_rfl
theorem wm {a b : Bool} (h : (a && b) = true) : a = true ∧ b = true := by simpa using h
theorem Ry : eA (three [50]) dh = 3 := by
 have h := wm (wK Rf)
 unfold eA vM; rw [if_pos sW, if_pos h.1]; exact of_decide_eq_true h.2
theorem Rh : dY (three [50]) dh = 0 := by
 have h := wm (wK Rf)
 unfold dY; rw [if_pos sW, if_pos h.1]
theorem Rv : eA (three [50]) (dM (three [50])) = 70 := by
 have h := wm (wK Rc)
 unfold eA vM; rw [if_pos sW, if_pos h.1]; exact of_decide_eq_true h.2
theorem Ro : dY (three [50]) (dM (three [50])) = 0 := by
 have h := wm (wK Rc)
 unfold dY; rw [if_pos sW, if_pos h.1]
theorem Rt : dY (three [15]) dh = 7 := by
 have h := wK Rp
 unfold dY; rw [if_pos vv, if_neg nq]
theorem Rs : e7 (three [15]) = 1 := by
 have h := wK R5
 unfold e7; rw [if_pos vv, of_decide_eq_true h]; rfl
theorem RX : kV (three [50]) [[1, 0]] = (3, 0) := by kernel_rfl
theorem Rk : ((dV (three [50, 50]) 2).length : Int) = 2 := by
 have h := wm (Gq Ra)
 have ha : hH (three [50, 50]) 2 = 0 := by decide
 unfold dV; rw [if_pos ha, if_pos h.1, Fa h.2]; rfl
theorem R2 : ew (three [50, 50]) 2 = 0 := by
 have h := wm (Gq Ra)
 have ha : hH (three [50, 50]) 2 = 0 := by decide
 unfold ew; rw [if_pos ha, if_pos h.1]
def Cm : List bX := [⟨1, 3⟩, ⟨0, 1⟩, ⟨1, 0⟩]
theorem RF : iR (three [25]) Cm = true := by kernel_rfl
theorem RE : (bz (three [25]) Cm).2.2 = 0 := by kernel_rfl
theorem jO {l : List Int} (h : l.length ≤ 9) : (three l).Small := ⟨by show ([50, 50, 50] ++ l).length ≤ 12; rw [List.length_append]; simp; omega, by show 3 ≤ 10; decide⟩
end Go.Proofs.YtpnndljmhpepgaaGreat
namespace Go.Proofs.YtpnndljmhpepgaaGreat
open Go Go.T
set_option maxRecDepth 100000
set_option maxHeartbeats 4000000
attribute [local irreducible] eA dY e7 kV dV ew iR bz gZ dM
attribute [local irreducible] iL fu pJ r9 jY jQ jL jI jT rF jJ q5 dy g6 q2 g7 r8 nth fS dG ay dO bodyPost Exit.then Exit.inBlock Code.wp Code.wpIn fy rS rB rq rL jU r5 fG iT qd cT cX bodyPostM eE
theorem qK (l : List Int) (h : l.length ≤ 9) : dO Tryz.prog 19 [Ty.sl cL l] (cU (three l)) := by
 refine az Tryz.func19 ν aB Tryz.ntmps19 aP fun w0 M0 => ?_
 refine aF (aA (bZ ν bW ν (aD (aC (aF (aA ?_))))))
 refine dx (E := cL) (xs := [50, 50, 50]) ν ν ν ν ν aB aB dn bn ν ν ?_
 refine cM ν (cG ν ν aB ν ν ν ν ν ν aB bp bp (cC ν ν bW ν dn xO ?_))
 refine cC ν ν bW ν dn xO ?_
 refine cC ν ν bW ν dn xO ?_
 refine bD (E := cZ) (xs := [⟨30, 0, 1⟩, ⟨20, 1, 0⟩, ⟨40, 2, 2⟩]) ν ν ν ν ν aB aB mH bn ν ?_
 refine cC ν ν bW ν Qn eU ?_
 refine bK ν ν aB ν ν ν ν ν ν (aD (aC (au (sH ν ν ν ν aB ν ν ν ?_))))
 exact Nn ⟨gB aB rfl, av rfl rfl rfl, trivial⟩
theorem je : dO Tryz.prog 6 [] (Ty.bool true) := by
 refine az Tryz.func6 ν aB Tryz.ntmps6 aP fun w0 M0 => ?_
 refine aF (aA (dN ν (aD (aC (aF (aA ?_))))))
 refine bD (E := cL) (xs := [_]) ν ν ν ν ν aB aB dn bn ν ?_
 refine aa (qK [50] aB) ν ν ν ν ν (aa (zo (three [50]) (jO aB)) ν ν ν ν ν (ke ν (aj ν ν (aj ν ν (bS ν (bS ν (aD (aC (aF (aA ?_))))))))))
 refine bD (E := cL) (xs := [_]) ν ν ν ν ν aB aB dn bn ν ?_
 refine aa (qK [50] aB) ν ν ν ν ν (aa (y6 (three [50]) (jO aB)) ν ν ν ν ν (ke ν (aj ν ν (aj ν ν (aj ν ν (iX ν (bS ν (bS ν (aD (aC (aF (aA ?_))))))))))))
 refine bD (E := cL) (xs := [_]) ν ν ν ν ν aB aB dn bn ν ?_
 refine aa (qK [15] aB) ν ν ν ν ν (aa (zo (three [15]) (jO aB)) ν ν ν ν ν (ke ν (aj ν ν (aj ν ν (bS ν (bS ν (aD (aC (aF (aA ?_))))))))))
 refine bD (E := cL) (xs := [_]) ν ν ν ν ν aB aB dn bn ν ?_
 refine aa (qK [15] aB) ν ν ν ν ν (aa (DQ (three [15]) (jO aB)) ν ν ν ν ν (ke ν (aj ν ν (aj ν ν (bS ν (bS ν (aD (aC (aF (aA ?_))))))))))
 refine bD (E := cL) (xs := [_]) ν ν ν ν ν aB aB dn bn ν ?_
 refine aa (qK [50] aB) ν ν ν ν ν ?_
 refine bD (E := cL) (xs := [_, _]) ν ν ν ν ν aB aB dn bn ν ?_
 refine bD (E := cY) (xs := [[1, 0]]) ν ν ν ν ν aB aB oD bn ν ?_
 refine aa (Gh (three [50]) (jO aB) [[1, 0]] aB aB) ν ν ν ν ν (ke ν (aj ν ν (aj ν ν (bS ν (bS ν (aD (aC (aF (aA ?_)))))))))
 refine bD (E := cL) (xs := [_, _]) ν ν ν ν ν aB aB dn bn ν ?_
 refine aa (qK [50, 50] aB) ν ν ν ν ν (aa (Gv (three [50, 50]) (jO aB) 2) ν ν ν ν ν (ke ν (aj ν ν (aj ν ν (bS ν (bS ν (aD (aC (aF (aA ?_))))))))))
 refine bD (E := cL) (xs := [_]) ν ν ν ν ν aB aB dn bn ν ?_
 refine aa (qK [25] aB) ν ν ν ν ν (cC ν ν bW ν dn eU ?_)
 refine cC ν ν bW ν dn eU ?_
 refine cC ν ν bW ν dn eU ?_
 refine bD (E := bq) (xs := Cm) ν ν ν ν ν aB aB mH bn ν ?_
 refine aa (Gr (three [25]) (jO aB) Cm aB) ν ν ν ν ν (ke ν (aj ν ν (aj ν ν (dN ν (bS ν (aD (aC (aF ?_))))))))
 refine fK (s := 1) ν (Ty.bO Ry) ?_
 refine fK (s := 2) ν (Ty.bO Rh) ?_
 refine fK (s := 4) ν (Ty.bO Rv) ?_
 refine fK (s := 5) ν (Ty.bO Ro) ?_
 refine fK (s := 7) ν (Ty.bO Rt) ?_
 refine fK (s := 8) ν (Ty.bO Rs) ?_
 refine fK (s := 9) ν (Ty.bO vv) ?_
 refine fK (s := 10) ν (Ty.bO (congrArg Prod.fst RX)) ?_
 refine fK (s := 11) ν (Ty.bO (congrArg Prod.snd RX)) ?_
 refine fK (s := 12) ν (Ty.bO Rk) ?_
 refine fK (s := 13) ν (Ty.bO R2) ?_
 refine fK (s := 14) ν (Ty.jv RF) ?_
 refine fK (s := 15) ν (Ty.bO RE) ?_
 refine cK (B := live [(1, Ty.int .i64 3), (2, Ty.int .i64 0), (4, Ty.int .i64 70), (5, Ty.int .i64 0), (7, Ty.int .i64 7), (8, Ty.int .i64 1), (9, Ty.int .i64 0), (10, Ty.int .i64 3), (11, Ty.int .i64 0), (12, Ty.int .i64 2), (13, Ty.int .i64 0), (14, Ty.bool true), (15, Ty.int .i64 0)] []) ?_ ?_
 ·exact bt
 refine aA (bA ν (ah ν ν ν (dm ν ?_)))
 refine bT 67 ν (fun hg => aH (bA ν (aD ν))) ?_
 refine bT 67 ν (by intro hg; apply bV (s := 68) ν gx; apply aH; (refine ah ν ν ν ?_); refine aD ?_; exact ν) ?_
 refine dA ν ν (dm ν ?_)
 refine bT 71 ν (fun hg => aH (bA ν (aD ν))) ?_
 refine bT 71 ν (by intro hg; apply bV (s := 72) ν gx; apply aH; (refine ah ν ν ν ?_); refine aD ?_; exact ν) ?_
 refine dA ν ν (dm ν ?_)
 refine bT 75 ν (fun hg => aH (bA ν (aD ν))) ?_
 refine bT 75 ν (by intro hg; apply bV (s := 76) ν gx; apply aH; (refine ah ν ν ν ?_); refine aD ?_; exact ν) ?_
 refine dA ν ν (dm ν ?_)
 refine bT 79 ν (fun hg => aH (bA ν (aD ν))) ?_
 refine bT 79 ν (by intro hg; apply bV (s := 80) ν gx; apply aH; (refine ah ν ν ν ?_); refine aD ?_; exact ν) ?_
 refine dA ν ν (dm ν ?_)
 refine bT 83 ν (fun hg => aH (bA ν (aD ν))) ?_
 refine bT 83 ν (by intro hg; apply bV (s := 84) ν gx; apply aH; (refine ah ν ν ν ?_); refine aD ?_; exact ν) ?_
 refine dA ν ν (dm ν ?_)
 refine bT 87 ν (fun hg => aH (bA ν (aD ν))) ?_
 refine bT 87 ν (by intro hg; apply bV (s := 88) ν gx; apply aH; (refine ah ν ν ν ?_); refine aD ?_; exact ν) ?_
 refine dA ν ν (dm ν ?_)
 refine bT 91 ν (fun hg => aH (bA ν (aD ν))) ?_
 refine bT 91 ν (by intro hg; apply bV (s := 92) ν gx; apply aH; (refine ah ν ν ν ?_); refine aD ?_; exact ν) ?_
 refine dA ν ν (dm ν ?_)
 refine bT 95 ν (fun hg => aH (bA ν (aD ν))) ?_
 refine bT 95 ν (by intro hg; apply bV (s := 96) ν gx; apply aH; (refine ah ν ν ν ?_); refine aD ?_; exact ν) ?_
 refine dA ν ν (dm ν ?_)
 refine bT 99 ν (fun hg => aH (bA ν (aD ν))) ?_
 refine bT 99 ν (by intro hg; apply bV (s := 100) ν gx; apply aH; (refine ah ν ν ν ?_); refine aD ?_; exact ν) ?_
 refine dA ν ν (dm ν ?_)
 refine bT 103 ν (fun hg => aH (bA ν (aD ν))) ?_
 refine bT 103 ν (by intro hg; apply bV (s := 104) ν gx; apply aH; (refine ah ν ν ν ?_); refine aD ?_; exact ν) ?_
 refine dA ν ν (dm ν ?_)
 refine bT 107 ν (fun hg => aH (bA ν (aD ν))) ?_
 refine bT 107 ν (by intro hg; apply bV (s := 108) ν gx; apply aH; (refine ah ν ν ν ?_); refine aD ?_; exact ν) ?_
 refine dA ν ν (dm ν ?_)
 refine bT 111 ν (fun hg => aH (dm ν (aD ν))) ?_
 refine dA ν ν (dN ν (aD (aC (au (bg ν ν ?_)))))
 all_goals exact b9 rfl rfl
 skip
end Go.Proofs.YtpnndljmhpepgaaGreat
namespace Go.Proofs.YtpnndljmhpepgaaGreat
open Go Go.T
structure Sk where
  grain : List Int
  taken : Int
  mixed : Int
def RC (s : Sk) : Int := IntKind.u32.wrap (bits .xor .u32 s.mixed (IntKind.u32.wrap (nth s.grain (s.taken.tmod s.grain.length).toNat)) * 16777619)
def GU (s : Sk) : Sk := if (s.grain.length : Int) > 0 then { s with mixed := RC s } else s
def Kv (s : Sk) : Sk := { s with taken := s.taken + 1 }
def RP (s : Sk) : Int := IntKind.u32.wrap (IntKind.u32.wrap (s.mixed * 1664525) + 1013904223)
def F0 (s : Sk) : Sk := if s.taken > (s.grain.length : Int) then { s with mixed := RP s } else s
def ff (s : Sk) : Sk := F0 (Kv (GU s))
def pP (s : Sk) : Int := IntKind.i64.wrap (bits .and .u32 (bits .xor .u32 s.mixed (s.mixed / 2 ^ (15 : Int).toNat) / 2 ^ (8 : Int).toNat) 65535)
def Sk.Ok (s : Sk) (n : Int) : Prop := 0 ≤ s.taken ∧ s.taken + n ≤ 4611686018427387904
theorem Bx (s : Sk) : (GU s).taken = s.taken := by unfold GU; split <;> rfl
theorem CK (s : Sk) : (F0 s).taken = s.taken := by unfold F0; split <;> rfl
theorem jj (s : Sk) : (ff s).taken = s.taken + 1 := by unfold ff; rw [CK, Kv, Bx]
theorem AE (a : Int) : 0 ≤ bits .and .u32 a 65535 ∧ bits .and .u32 a 65535 ≤ 65535 := by
 have e : bits .and .u32 a 65535 = IntKind.u32.wrap (((BitVec.ofInt 32 a &&& BitVec.ofInt 32 65535).toNat : Nat) : Int) := rfl
 have h1 : (BitVec.ofInt 32 a &&& BitVec.ofInt 32 65535).toNat ≤ 65535 := by
  rw [BitVec.toNat_and]
  exact Nat.and_le_right
 rw [e]
 generalize (BitVec.ofInt 32 a &&& BitVec.ofInt 32 65535).toNat = n at h1
 have : IntKind.u32.wrap (n : Int) = (n : Int) % 4294967296 := rfl
 rw [this]; omega
theorem Eu (s : Sk) : 0 ≤ pP s ∧ pP s ≤ 65535 := by
 have h := AE (bits .xor .u32 s.mixed (s.mixed / 2 ^ (15 : Int).toNat) / 2 ^ (8 : Int).toNat)
 unfold pP
 rw [IntWalk.i64_in _ aE]; exact h
def mP (s : Sk) (n : Int) : Int := (pP (ff s)).tmod (max 1 n)
theorem ox (s : Sk) (n : Int) : 0 ≤ mP s n ∧ mP s n < max 1 n ∧ mP s n ≤ 65535 := by
 have h := Eu (ff s)
 unfold mP
 have h1 : (pP (ff s)).tmod (max 1 n) = pP (ff s) % max 1 n := Int.tmod_eq_emod_of_nonneg h.1
 have h2 := Int.emod_lt_of_pos (pP (ff s)) (show 0 < max 1 n by omega)
 have h3 := Int.emod_nonneg (pP (ff s)) (show max 1 n ≠ 0 by omega)
 have h4 : pP (ff s) % max 1 n ≤ pP (ff s) := by
  have := Int.mul_ediv_add_emod (pP (ff s)) (max 1 n)
  have hq : 0 ≤ pP (ff s) / max 1 n := Int.ediv_nonneg h.1 aE
  have : 0 ≤ max 1 n * (pP (ff s) / max 1 n) := Int.mul_nonneg aE hq
  omega
 omega
def oU (s : Sk) (lo hi : Int) : Int := lo + mP s (hi - lo + 1)
def LA (s : Sk) (n : Int) : Bool := decide (mP s n = 0)
def B6 (xs : List Int) (i : Nat) (k : Int) : List Int := xs.take i ++ k :: xs.drop i
theorem LS {xs : List Int} {i : Nat} (h : i ≤ xs.length) (k : Int) : (B6 xs i k).length = xs.length + 1 := by simp [B6]; omega
theorem KE {xs : List Int} {i : Nat} {k x : Int} : x ∈ B6 xs i k ↔ x = k ∨ x ∈ xs := by
 unfold B6
 rw [List.mem_append, List.mem_cons]
 constructor
 ·rintro (h | rfl | h)
  ·exact .inr (List.mem_of_mem_take h)
  ·exact .inl rfl
  exact .inr (List.mem_of_mem_drop h)
 rintro (rfl | h)
 ·exact .inr (.inl rfl)
 rw [← List.take_append_drop i xs, List.mem_append] at h
 exact h.imp id .inr
theorem GA {xs : List Int} {i : Nat} {k : Int} (h : xs.Nodup) (hk : k ∉ xs) : (B6 xs i k).Nodup := by
 unfold B6
 have h2 : (xs.take i ++ xs.drop i).Nodup := by rw [List.take_append_drop]; exact h
 rw [List.nodup_append] at h2 ⊢
 obtain ⟨a, b, c⟩ := h2
 refine ⟨a, List.nodup_cons.2 ⟨fun h => hk (List.mem_of_mem_drop h), b⟩, fun x hx y hy => ?_⟩
 rcases List.mem_cons.1 hy with rfl | hy
 ·rintro rfl; exact hk (List.mem_of_mem_take hx)
 exact c x hx y hy
def kR (s : Sk) : Nat → List Int × Sk
  | 0 => ([], s)
  | k + 1 => (B6 (kR s k).1 (mP (kR s k).2 ((k : Int) + 1)).toNat k, ff (kR s k).2)
theorem v8 (s : Sk) : ∀ k, (kR s k).1.length = k ∧ (kR s k).1.Nodup ∧ (∀ x, x ∈ (kR s k).1 ↔ 0 ≤ x ∧ x < (k : Int)) ∧ (kR s k).2.taken = s.taken + k
  | 0 => ⟨rfl, List.nodup_nil, fun x => ⟨fun h => tK, fun h => by omega⟩, by simp [kR]⟩
  | k + 1 => by
    obtain ⟨h1, h2, h3, h4⟩ := v8 s k
    have hb := ox (kR s k).2 ((k : Int) + 1)
    refine ⟨?_, GA h2 (fun h => by have := (h3 _).1 h; omega), fun x => ?_, ?_⟩
    · show (B6 _ _ _).length = _
      rw [LS aE, h1]
    · show x ∈ B6 _ _ _ ↔ _
      rw [KE, h3]; omega
    · show (ff _).taken = _
      rw [jj, h4]; omega
end Go.Proofs.YtpnndljmhpepgaaGreat
namespace Go.Proofs.YtpnndljmhpepgaaGreat
open Go Go.T
set_option maxHeartbeats 2000000
attribute [local irreducible] iL fu pJ r9 jY jQ jL jI jT rF jJ q5 dy g6 q2 g7 r8 nth fS dG ay dO bodyPost Exit.then Exit.inBlock Code.wp Code.wpIn fy rS rB rq rL jU r5 fG iT qd cT cX bodyPostM eE
end Go.Proofs.YtpnndljmhpepgaaGreat
namespace Go.Proofs.YtpnndljmhpepgaaGreat
open Go Go.T
theorem uB (s : Sk) {lo hi : Int} (h : lo ≤ hi) : lo ≤ oU s lo hi ∧ oU s lo hi ≤ hi := by
 have := ox s (hi - lo + 1)
 unfold oU; omega
theorem rD {b : aT} (h : b.cQ) : bH b = 0 := by
 have hb := h.iJ
 have h1 : pM b = false := by
  unfold pM
  rw [Bool.or_eq_false_iff, Bool.not_eq_false', fE, decide_eq_false_iff_not]
  have := h.aO; omega
 have h2 : nI b = false := by
  unfold nI
  rw [Bool.or_eq_false_iff, Bool.not_eq_false', Bool.not_eq_false', List.all_eq_true, List.all_eq_true]
  exact ⟨fun n hn => fE.2 (h.size n hn), fun l hl => fE.2 (h.bh l hl)⟩
 have h3 : vL b = false := by
  unfold vL
  rw [Bool.not_eq_false', List.all_eq_true]
  intro l hl
  have e1 := h.inn l hl
  have e2 := h.aim l hl
  simp only [Bool.and_eq_true, Bool.or_eq_true, decide_eq_true_eq, aT.bin, fE]
  omega
 have h4 : pF b = false := by
  unfold pF
  rw [eI]
  intro i hi
  unfold vl
  rw [List.any_eq_false]
  intro x hx
  rw [List.mem_take_iff_getElem] at hx
  obtain ⟨k, hk, rfl⟩ := hx
  rw [← dS]
  obtain ⟨e1, e2⟩ := h.apart i k aE hi
  simp only [vg, Bool.or_eq_true, Bool.and_eq_true, decide_eq_true_eq, Bool.not_eq_true', decide_eq_false_iff_not, not_or, not_and]
  exact ⟨e1, fun e => by have := e2 e; omega⟩
 have h5 : xK b = false := by
  unfold xK
  rw [eI]
  intro i hi
  obtain ⟨e1, e2⟩ := h.holds i hi
  simp only [AQ, aT.hold, Bool.or_eq_false_iff, Bool.not_eq_false', decide_eq_true_eq, Bool.and_eq_false_iff, Int.toNat_natCast]
  refine ⟨e1, ?_⟩
  by_cases e : (nth b.aO i).aim = -1
  ·exact .inl e
  exact .inr (e2 e)
 unfold bH
 rw [if_neg (by rw [h1]; decide), if_neg (by rw [h2]; decide), if_neg (by rw [h3]; decide), if_neg (by rw [h4]; decide), if_neg (by rw [h5]; decide)]
def nW (s : Sk) : Nat → List Int × Sk
  | 0 => ([], s)
  | k + 1 => ((nW s k).1 ++ [oU (nW s k).2 20 60], ff (nW s k).2)
theorem sX (s : Sk) : ∀ k, (nW s k).1.length = k ∧ (∀ x ∈ (nW s k).1, 20 ≤ x ∧ x ≤ 60) ∧ (nW s k).2.taken = s.taken + k
  | 0 => ⟨rfl, fun x h => tK, by simp [nW]⟩
  | k + 1 => by
    obtain ⟨h1, h2, h3⟩ := sX s k
    refine ⟨by show ((nW s k).1 ++ [_]).length = _; rw [List.length_append, h1]; rfl, fun x hx => ?_, by show (ff _).taken = _; rw [jj, h3]; omega⟩
    rcases List.mem_append.1 (show x ∈ (nW s k).1 ++ [oU (nW s k).2 20 60] from hx) with hx | hx
    · exact h2 x hx
    · rw [List.mem_singleton.1 hx]; exact uB _ aE
structure Md where
  s : Sk
  iJ : Int
  aO : Int
def Md.n (d : Md) : Nat := (oU d.s 2 d.iJ).toNat
def Md.up (d : Md) (k : Nat) : List Int × Sk := nW (ff d.s) k
def Md.sizes (d : Md) : List Int := (d.up d.n).1
def Md.many (d : Md) : Nat := (mP (d.up d.n).2 (min d.aO (d.n : Nat) + 1)).toNat
def Md.to (d : Md) : List Int × Sk := kR (ff (d.up d.n).2) d.n
def Md.ks (d : Md) : List Int × Sk := kR d.to.2 d.n
def Md.gF (d : Md) (s : Sk) (k : Nat) : Int := if LA (ff s) 4 = true then -1 else nth d.to.1 k
def Md.hG (d : Md) (s : Sk) (k : Nat) : Int := oU s 1 (nth d.sizes (nth d.ks.1 k).toNat)
def Md.we (d : Md) (s : Sk) (k : Nat) : oF := ⟨if d.gF s k ≠ -1 ∧ nth d.sizes (d.gF s k).toNat < d.hG s k then nth d.sizes (d.gF s k).toNat else d.hG s k, nth d.ks.1 k, d.gF s k⟩
def Md.lt (d : Md) : Nat → List oF × Sk
  | 0 => ([], d.ks.2)
  | k + 1 => ((d.lt k).1 ++ [d.we (d.lt k).2 k], ff (ff (d.lt k).2))
def Md.GO (d : Md) : aT := ⟨d.sizes, (d.lt d.many).1⟩
structure Md.Ok (d : Md) : Prop where
  iJ : 2 ≤ d.iJ ∧ d.iJ ≤ 7
  aO : 0 ≤ d.aO ∧ d.aO ≤ 6
variable {d : Md}
theorem Md.RQ (h : d.Ok) : 2 ≤ d.n ∧ d.n ≤ 7 ∧ (d.n : Int) ≤ d.iJ ∧ (d.n : Int) = oU d.s 2 d.iJ := by
 have h1 := uB d.s h.iJ.1
 have h2 := h.iJ
 unfold Md.n; omega
theorem Md.yR (d : Md) : d.sizes.length = d.n ∧ (∀ x ∈ d.sizes, 20 ≤ x ∧ x ≤ 60) := ⟨(sX _ _).1, (sX _ _).2.1⟩
theorem Md.MX (d : Md) (k : Nat) : (d.up k).2.taken = d.s.taken + 1 + k := by
 have := (sX (ff d.s) k).2.2
 rw [jj] at this; exact this
theorem Md.Nd (h : d.Ok) : d.many ≤ d.n ∧ (d.many : Int) ≤ d.aO ∧ (d.many : Int) = mP (d.up d.n).2 (min d.aO (d.n : Nat) + 1) := by
 have h1 := ox (d.up d.n).2 (min d.aO (d.n : Nat) + 1)
 have h2 := h.aO
 unfold Md.many; omega
theorem Md.AO (d : Md) : d.to.1.length = d.n ∧ d.to.1.Nodup ∧ (∀ x ∈ d.to.1, 0 ≤ x ∧ x < (d.n : Int)) ∧ d.to.2.taken = d.s.taken + 2 + 2 * d.n := by
 obtain ⟨h1, h2, h3, h4⟩ := v8 (ff (d.up d.n).2) d.n
 refine ⟨h1, h2, fun x hx => (h3 x).1 hx, ?_⟩
 show (kR _ _).2.taken = _
 rw [h4, jj, d.MX]; omega
theorem Md.An (d : Md) : d.ks.1.length = d.n ∧ d.ks.1.Nodup ∧ (∀ x ∈ d.ks.1, 0 ≤ x ∧ x < (d.n : Int)) ∧ d.ks.2.taken = d.s.taken + 2 + 3 * d.n := by
 obtain ⟨h1, h2, h3, h4⟩ := v8 d.to.2 d.n
 refine ⟨h1, h2, fun x hx => (h3 x).1 hx, ?_⟩
 show (kR _ _).2.taken = _
 rw [h4, d.AO.2.2.2]; omega
theorem Md.F3 (d : Md) : ∀ k, (d.lt k).1.length = k ∧ (d.lt k).2.taken = d.s.taken + 2 + 3 * d.n + 2 * k
  | 0 => ⟨rfl, by show d.ks.2.taken = _; rw [d.An.2.2.2]; simp⟩
  | k + 1 => by
    obtain ⟨h1, h2⟩ := d.F3 k
    refine ⟨by show ((d.lt k).1 ++ [_]).length = _; rw [List.length_append, h1]; rfl, ?_⟩
    show (ff (ff _)).taken = _
    rw [jj, jj, h2]; omega
theorem Md.zG (d : Md) : ∀ k i, i < k → nth (d.lt k).1 i = d.we (d.lt i).2 i
  | 0, i, h => by omega
  | k + 1, i, h => by
    have hl := (d.F3 k).1
    show nth ((d.lt k).1 ++ [d.we (d.lt k).2 k]) i = _
    unfold nth
    by_cases e : i < k
    · rw [List.getD_eq_getElem?_getD, List.getElem?_append_left aE, ← List.getD_eq_getElem?_getD]
      exact d.zG k i e
    · have e : i = k := by omega
      subst e
      rw [List.getD_eq_getElem?_getD, List.getElem?_append_right aE, hl]; simp
theorem Md.Cf (d : Md) {x : Int} (h : 0 ≤ x ∧ x < (d.n : Int)) : 20 ≤ nth d.sizes x.toNat ∧ nth d.sizes x.toNat ≤ 60 := d.yR.2 _ (cD (by rw [d.yR.1]; omega))
theorem sL {l : List Int} (h : l.Nodup) {i k : Nat} (hi : i < l.length) (hk : k < l.length) (e : nth l i = nth l k) : i = k := by
 rw [dS hi, dS hk] at e
 rw [List.nodup_iff_pairwise_ne, List.pairwise_iff_getElem] at h
 rcases Nat.lt_trichotomy i k with c | c | c
 ·exact absurd e (h i k hi hk c)
 ·exact c
 exact absurd e.symm (h k i hk hi c)
theorem Md.wh (d : Md) (s : Sk) {k : Nat} (hk : k < d.n) : (0 ≤ nth d.ks.1 k ∧ nth d.ks.1 k < (d.n : Int)) ∧ (d.gF s k = -1 ∨ (d.gF s k = nth d.to.1 k ∧ 0 ≤ nth d.to.1 k ∧ nth d.to.1 k < (d.n : Int))) ∧ 1 ≤ d.hG s k ∧ d.hG s k ≤ nth d.sizes (nth d.ks.1 k).toNat := by
 have h1 := d.An.2.2.1 _ (cD (xs := d.ks.1) (k := k) (by rw [d.An.1]; exact hk))
 have h2 := d.AO.2.2.1 _ (cD (xs := d.to.1) (k := k) (by rw [d.AO.1]; exact hk))
 have h3 := d.Cf h1
 refine ⟨h1, ?_, ?_⟩
 ·unfold Md.gF
  by_cases e : LA (ff s) 4 = true
  ·exact .inl (if_pos e)
  exact .inr ⟨if_neg e, h2⟩
 exact uB s aE
theorem Md.right (h : d.Ok) : d.GO.cQ := by
 have hn := d.RQ h
 have hm := d.Nd h
 have hs := d.yR
 have hl := (d.F3 d.many).1
 have hlots : d.GO.aO.length = d.many := hl
 have hsz : d.GO.sizes.length = d.n := hs.1
 have key : ∀ l ∈ d.GO.aO, ∃ i, i < d.many ∧ l = d.we (d.lt i).2 i := fun l hl' => by
  obtain ⟨i, hi, rfl⟩ := fP hl'
  rw [hlots] at hi
  exact ⟨i, hi, d.zG _ i hi⟩
 have hlo := h.aO
 have hsack : ∀ i, i < d.many → 1 ≤ (d.we (d.lt i).2 i).bh ∧ (d.we (d.lt i).2 i).bh ≤ nth d.sizes (nth d.ks.1 i).toNat ∧ ((d.we (d.lt i).2 i).aim ≠ -1 → (d.we (d.lt i).2 i).bh ≤ nth d.sizes (d.we (d.lt i).2 i).aim.toNat) := fun i hi => by
  obtain ⟨e1, e2, e3, e4⟩ := d.wh (d.lt i).2 (k := i) aE
  unfold Md.we
  show 1 ≤ ite _ _ _ ∧ ite _ _ _ ≤ _ ∧ (d.gF _ _ ≠ -1 → ite _ _ _ ≤ _)
  by_cases c : d.gF (d.lt i).2 i ≠ -1 ∧ nth d.sizes (d.gF (d.lt i).2 i).toNat < d.hG (d.lt i).2 i
  ·rw [if_pos c]
   rcases e2 with e2 | ⟨e2, e5⟩
   ·exact absurd e2 c.1
   have := d.Cf (x := d.gF (d.lt i).2 i) aE
   exact ⟨by omega, by omega, fun _ => Int.le_refl _⟩
  rw [if_neg c]
  refine ⟨e3, e4, fun hne => ?_⟩
  show d.hG (d.lt i).2 i ≤ nth d.sizes (d.gF (d.lt i).2 i).toNat
  ·by_cases c2 : nth d.sizes (d.gF (d.lt i).2 i).toNat < d.hG (d.lt i).2 i
   ·exact absurd ⟨hne, c2⟩ c
   omega
 refine ⟨by omega, by omega, fun x hx => by have := hs.2 x hx; omega, fun l hl' => ?_, fun l hl' => ?_, fun l hl' => ?_, fun i k hk hi => ?_, fun i hi => ?_⟩
 ·obtain ⟨i, hi, rfl⟩ := key l hl'
  have h1 := hsack i hi
  have h2 := d.Cf (d.wh (d.lt i).2 (k := i) aE).1
  omega
 ·obtain ⟨i, hi, rfl⟩ := key l hl'
  have h2 := (d.wh (d.lt i).2 (k := i) aE).1
  show 0 ≤ nth d.ks.1 i ∧ nth d.ks.1 i < _
  rw [hsz]; exact h2
 ·obtain ⟨i, hi, rfl⟩ := key l hl'
  have h2 := (d.wh (d.lt i).2 (k := i) aE).2.1
  show -1 ≤ d.gF _ _ ∧ d.gF _ _ < _
  rw [hsz]; omega
 ·rw [hlots] at hi
  have e1 : nth d.GO.aO i = d.we (d.lt i).2 i := d.zG _ i hi
  have e2 : nth d.GO.aO k = d.we (d.lt k).2 k := d.zG _ k aE
  rw [e1, e2]
  refine ⟨fun e => ?_, fun e => ?_⟩
  ·have := sL d.An.2.1 (i := i) (k := k) (by rw [d.An.1]; omega) (by rw [d.An.1]; omega) e
   omega
  have e : d.gF (d.lt i).2 i = d.gF (d.lt k).2 k := e
  show d.gF (d.lt i).2 i = -1
  rcases (d.wh (d.lt i).2 (k := i) aE).2.1 with h1 | ⟨h1, h1'⟩
  ·exact h1
  rcases (d.wh (d.lt k).2 (k := k) aE).2.1 with h2 | ⟨h2, h2'⟩
  ·omega
  have := sL d.AO.2.1 (i := i) (k := k) (by rw [d.AO.1]; omega) (by rw [d.AO.1]; omega) aE
  omega
 rw [hlots] at hi
 have e1 : nth d.GO.aO i = d.we (d.lt i).2 i := d.zG _ i hi
 rw [e1]
 exact ⟨(hsack i hi).2.1, (hsack i hi).2.2⟩
end Go.Proofs.YtpnndljmhpepgaaGreat
namespace Go.Proofs.YtpnndljmhpepgaaGreat
open Go Go.T
set_option maxHeartbeats 4000000
attribute [local irreducible] iL fu pJ r9 jY jQ jL jI jT rF jJ q5 dy g6 q2 g7 r8 nth fS dG ay dO bodyPost Exit.then Exit.inBlock Code.wp Code.wpIn fy rS rB rq rL jU r5 fG iT qd cT cX bodyPostM eE
attribute [local irreducible] Md.up Md.to Md.ks Md.lt Md.gF Md.hG kR Md.n Md.many Md.sizes
end Go.Proofs.YtpnndljmhpepgaaGreat
namespace Go.T
open Go Go.RowKit
section
variable {P : Program} {fr : Fr} {ops : Array Oper} {A : As} {rest : List Oper} {K : As → List (As × Fx) → Prop} {d : Nat} {t : TypeId} {p : String} {e : Array Edge}
end
end Go.T
namespace Go.Proofs.YtpnndljmhpepgaaGreat
open Go Go.T
def dL (b : aT) : List Int := b.aO.map fun l => l.inn
def vY (b : aT) (p : List Int) (t : bX) : Bool := decide (t.bN < 0) || decide (t.bN ≥ p.length) || decide (t.aim < 0) || decide (t.aim ≥ b.sizes.length) || decide (t.aim ∈ p) || decide (nth b.sizes t.aim.toNat < (nth b.aO t.bN.toNat).bh)
theorem jZ {b : aT} {p : List Int} {t : bX} : vY b p t = false ↔ (0 ≤ t.bN ∧ t.bN < p.length) ∧ (0 ≤ t.aim ∧ t.aim < b.sizes.length) ∧ t.aim ∉ p ∧ (nth b.aO t.bN.toNat).bh ≤ nth b.sizes t.aim.toNat := by
 unfold vY
 simp only [Bool.or_eq_false_iff, decide_eq_false_iff_not]
 constructor
 ·rintro ⟨⟨⟨⟨⟨h1, h2⟩, h3⟩, h4⟩, h5⟩, h6⟩; exact ⟨by omega, by omega, h5, by omega⟩
 rintro ⟨h1, h2, h3, h4⟩; exact ⟨⟨⟨⟨⟨by omega, by omega⟩, by omega⟩, by omega⟩, h3⟩, by omega⟩
def eK (b : aT) : List Int → List bX → Option (List Int)
  | p, [] => some p
  | p, t :: l => if vY b p t = true then none else eK b (p.set t.bN.toNat t.aim) l
def qa (b : aT) (plan : List bX) : List Int × Bool := match eK b (dL b) plan with
  | some p => (p, true)
  | none => ([], false)
structure Pj (b : aT) (plan : List bX) (k : Nat) (p : List Int) : Prop where
  same : eK b (dL b) plan = eK b p (plan.drop k)
  len : p.length = b.aO.length
  le : k ≤ plan.length
section
variable {b : aT} {plan : List bX} {k : Nat} {p : List Int}
theorem Pj.stop (h : Pj b plan k p) (hk : k < plan.length) (hn : vY b p (nth plan k) = true) : qa b plan = ([], false) := by
 have e : eK b (dL b) plan = none := by rw [h.same, lu hk]; exact if_pos hn
 unfold qa; rw [e]
theorem Pj.next (h : Pj b plan k p) (hk : k < plan.length) (hn : vY b p (nth plan k) = false) : Pj b plan (k + 1) (p.set (nth plan k).bN.toNat (nth plan k).aim) := by
 refine ⟨?_, by rw [List.length_set]; exact h.len, hk⟩
 rw [h.same, lu hk]
 exact if_neg (by rw [hn]; decide)
theorem Pj.end (h : Pj b plan k p) (hk : plan.length ≤ k) : qa b plan = (p, true) := by
 unfold qa
 rw [h.same, List.drop_of_length_le hk]; rfl
end
theorem GW {b : aT} {P : Pl} {x : Int} : gh b P x = false ↔ x ∉ P.1.take b.aO.length := by
 unfold gh; rw [List.any_eq_false]; simp only [decide_eq_true_eq]
 exact ⟨fun h hm => h _ hm rfl, fun h y hy e => h (e ▸ hy)⟩
theorem A4 {b : aT} {P : Pl} (h6 : b.aO.length ≤ 6) {t : bX} : vY b (P.1.take b.aO.length) t = false ↔ t ∈ bP b P := by
 rw [jZ, gQ]
 have hl : (P.1.take b.aO.length).length = b.aO.length := by rw [List.length_take, P.2]; omega
 rw [hl, GW]; unfold aT.hold; rw [decide_eq_true_eq]
 constructor
 ·rintro ⟨⟨h1, h2⟩, ⟨h3, h4⟩, h5, h6⟩; exact ⟨h1, h2, h3, h4, h5, h6⟩
 rintro ⟨h1, h2, h3, h4, h5, h6⟩; exact ⟨⟨h1, h2⟩, ⟨h3, h4⟩, h5, h6⟩
theorem Lq {P : Pl} {t : bX} {n : Nat} : (P.1.take n).set t.bN.toNat t.aim = (cm P t).1.take n := by
 unfold cm; rw [List.take_set]
theorem K3 {b : aT} (h6 : b.aO.length ≤ 6) : ∀ (l : List bX) (P : Pl), eK b (P.1.take b.aO.length) l = (mR b P l).map fun q => q.1.take b.aO.length
  | [], P => rfl
  | t :: l, P => by
    show (if vY b (P.1.take b.aO.length) t = true then none else eK b ((P.1.take b.aO.length).set t.bN.toNat t.aim) l) = Option.map _ (if t ∈ bP b P then mR b (cm P t) l else none)
    by_cases h : t ∈ bP b P
    · rw [if_pos h, if_neg (by rw [(A4 h6).2 h]; decide), Lq, K3 h6 l]
    · rw [if_neg h, if_pos (by
        cases e : vY b (P.1.take b.aO.length) t with
        | true => rfl
        | false => exact absurd ((A4 h6).1 e) h)]; rfl
theorem vm {b : aT} (h6 : b.aO.length ≤ 6) : (bJ b).1.take b.aO.length = dL b := by
 unfold bJ dL
 show List.take _ (List.take 6 _) = _
 rw [List.take_take, Nat.min_eq_left h6, List.take_append_of_le_length bB]
 exact List.take_of_length_le bB
theorem zZ {b : aT} (h6 : b.aO.length ≤ 6) (l : List bX) : eK b (dL b) l = (mR b (bJ b) l).map fun q => q.1.take b.aO.length := by rw [← vm h6, K3 h6]
theorem Il {b : aT} (h6 : b.aO.length ≤ 6) {l : List bX} {q : Pl} (h : mR b (bJ b) l = some q) : qa b l = (q.1.take b.aO.length, true) := by
 unfold qa; rw [zZ h6, h]; rfl
theorem IC {b : aT} (h6 : b.aO.length ≤ 6) {l : List bX} (h : mR b (bJ b) l = none) : qa b l = ([], false) := by
 unfold qa; rw [zZ h6, h]; rfl
def NU (b : aT) (p : List Int) (i : Nat) : Bool := decide ((nth b.aO i).aim = -1) || decide ((nth b.aO i).aim = nth p i)
def NC (b : aT) (plan : List bX) (k : Nat) : Bool := (qa b plan).2 && (List.range k).all (NU b (qa b plan).1)
def ir (b : aT) (plan : List bX) : Bool := NC b plan (qa b plan).1.length
theorem rV {l : List Int} {n i : Nat} (h : i < n) : nth (l.take n) i = nth l i := by
 unfold nth; rw [List.getD_eq_getElem?_getD, List.getD_eq_getElem?_getD, List.getElem?_take_of_lt h]
theorem lN {b : aT} (h6 : b.aO.length ≤ 6) {l : List bX} : ir b l = true ↔ ∃ q, mR b (bJ b) l = some q ∧ eN b q = true := by
  unfold ir NC
  cases h : mR b (bJ b) l with
  | none => rw [IC h6 h]; exact ⟨(fun h => by cases h), fun ⟨_, h, _⟩ => by cases h⟩
  | some q =>
    rw [Il h6 h]
    have hl : (q.1.take b.aO.length).length = b.aO.length := by rw [List.length_take, q.2]; omega
    have e : (true && (List.range (q.1.take b.aO.length).length).all (NU b (q.1.take b.aO.length))) = eN b q := by
      rw [hl, Bool.true_and]
      unfold eN
      rw [Bool.eq_iff_iff, List.all_eq_true, List.all_eq_true]
      have key : ∀ i, i ∈ List.range b.aO.length → NU b (q.1.take b.aO.length) i = (decide ((nth b.aO i).aim = -1) || decide ((nth b.aO i).aim = nth q.1 i)) := fun i hi => by
        unfold NU; rw [rV (List.mem_range.1 hi)]
      exact ⟨fun H i hi => by rw [← key i hi]; exact H i hi, fun H i hi => by rw [key i hi]; exact H i hi⟩
    show (true && _) = true ↔ _
    rw [e]
    exact ⟨fun h => ⟨q, rfl, h⟩, fun ⟨q', h1, h2⟩ => by injection h1 with h1; rw [h1]; exact h2⟩
structure RG (b : aT) (s : Sk) (most : Int) (l : List bX) (e : Sk) : Prop where
  len : (l.length : Int) ≤ most
  taken : s.taken ≤ e.taken ∧ e.taken ≤ s.taken + 1 + 2 * most
  ok : (qa b l).2 = true
end Go.Proofs.YtpnndljmhpepgaaGreat
namespace Go.Proofs.YtpnndljmhpepgaaGreat
open Go Go.T
set_option maxHeartbeats 4000000
attribute [local irreducible] iL fu pJ r9 jY jQ jL jI jT rF jJ q5 dy g6 q2 g7 r8 nth fS dG ay dO bodyPost Exit.then Exit.inBlock Code.wp Code.wpIn fy rS rB rq rL jU r5 fG iT qd cT cX bodyPostM eE
end Go.Proofs.YtpnndljmhpepgaaGreat
namespace Go.Proofs.YtpnndljmhpepgaaGreat
open Go Go.T
def PY (b : aT) (p : Pl) : Prop := ∀ i k, i < b.aO.length → k < b.aO.length → nth p.1 i = nth p.1 k → i = k
theorem vB {b : aT} {p q : Pl} {t : bX} {l : List bX} (h : mR b p (t :: l) = some q) : t ∈ bP b p ∧ mR b (cm p t) l = some q := by
 have h : (if t ∈ bP b p then mR b (cm p t) l else none) = some q := h
 by_cases hu : t ∈ bP b p
 ·rw [if_pos hu] at h; exact ⟨hu, h⟩
 rw [if_neg hu] at h; cases h
theorem BJ {b : aT} (h6 : b.aO.length ≤ 6) {i : Nat} (hi : i < b.aO.length) : nth (bJ b).1 i = (nth b.aO i).inn := by
 rw [← rV (n := b.aO.length) hi, vm h6]
 unfold dL
 rw [dS (by rw [List.length_map]; exact hi), dS hi, List.getElem_map]
theorem lg : ∀ (l : List Int), (∀ x ∈ l, 0 ≤ x) → 0 ≤ l.sum
  | [], _ => Int.le_refl _
  | x :: l, h => by
    rw [List.sum_cons]
    have h1 := h x List.mem_cons_self
    have h2 := lg l fun y hy => h y (List.mem_cons_of_mem _ hy)
    omega
structure sq (b : aT) (c : bX → Int) (e : Int) (l : List bX) (n : Int) : Prop where
  err : e = 0 ∨ e = 7
  yes : e = 0 → ir b l = true ∧ fF c l = n ∧ ∀ x, ir b x = true → n ≤ fF c x
  no : e = 7 → l = [] ∧ n = 0 ∧ ∀ x, ir b x = false
theorem cheap {b : aT} {c : bX → Int} (hr : b.cQ) (hc : iw b c) : sq b c (dY b c) (gZ b c) (eA b c) := by
  have h0 := rD hr
  have hp := sn hr hc
  have h6 := hr.aO
  unfold dY gZ eA
  rw [if_pos h0, if_pos h0, if_pos h0]
  cases hi : (cw b c false).is with
  | true =>
    rw [if_pos rfl]
    refine ⟨.inl rfl, fun _ => ?_, fun e => by cases e⟩
    obtain ⟨q, h1, h2, h3, h4⟩ := hp.yes hi
    refine ⟨(lN h6).2 ⟨q, h1, h2⟩, h3, fun x hx => ?_⟩
    obtain ⟨q', g1, g2⟩ := (lN h6).1 hx
    exact h4 x q' g1 g2
  | false =>
    rw [if_neg aB]
    refine ⟨.inr rfl, (fun e => by cases e), fun _ => ⟨if_neg yF, if_neg yF, fun x => ?_⟩⟩
    rw [Bool.eq_false_iff]; intro hx
    obtain ⟨q', g1, g2⟩ := (lN h6).1 hx
    have := hp.no hi x q' g1
    rw [g2] at this; cases this
theorem tZ {b : aT} {c c' : bX → Int} {e e' : Int} {l l' : List bX} {n n' : Int} (h : sq b c e l n) (h' : sq b c' e' l' n') : e = e' := by
 rcases h.err with rfl | rfl
 ·rcases h'.err with rfl | rfl
  ·rfl
  have := (h.yes rfl).1; rw [(h'.no rfl).2.2] at this; cases this
 rcases h'.err with rfl | rfl
 ·have := (h'.yes rfl).1; rw [(h.no rfl).2.2] at this; cases this
 rfl
theorem nh (l : List bX) : fF dh l = l.length := by
  unfold fF dh
  induction l with
  | nil => rfl
  | cons t l ih => rw [List.map_cons, List.sum_cons, ih, List.length_cons]; omega
theorem Jh {b : aT} {l : List bX} (h : ir b l = true) : (qa b l).2 = true := by
 unfold ir NC at h
 rw [Bool.and_eq_true] at h; exact h.1
theorem k7 {b : aT} (hr : b.cQ) {i : Int} (hi : 0 ≤ i ∧ i < b.aO.length) : 1 ≤ (nth b.aO i.toNat).bh ∧ (nth b.aO i.toNat).bh ≤ 300 := hr.bh _ (cD aE)
end Go.Proofs.YtpnndljmhpepgaaGreat
namespace Go.Proofs.YtpnndljmhpepgaaGreat
open Go Go.T
set_option maxHeartbeats 4000000
theorem qW (b : aT) (l : List bX) : kg b l 0 = 0 := by unfold kg; rw [List.take_zero]; rfl
attribute [local irreducible] gZ dY eA kg ir pN bH
attribute [local irreducible] iL fu pJ r9 jY jQ jL jI jT rF jJ q5 dy g6 q2 g7 r8 nth fS dG ay dO bodyPost Exit.then Exit.inBlock Code.wp Code.wpIn fy rS rB rq rL jU r5 fG iT qd cT cX bodyPostM eE
end Go.Proofs.YtpnndljmhpepgaaGreat
namespace Go.Proofs.YtpnndljmhpepgaaGreat
open Go Go.T
variable {b : aT} {g : Int}
theorem pR {p q : Pl} {l : List bX} {rs : List (List bX)} (h : qp b g p (l :: rs) = some q) : l ∈ dB b p g ∧ qp b g (bM p l) rs = some q := by
 have h : (if l ∈ dB b p g then qp b g (bM p l) rs else none) = some q := h
 by_cases hu : l ∈ dB b p g
 ·rw [if_pos hu] at h; exact ⟨hu, h⟩
 rw [if_neg hu] at h; cases h
theorem wC {p : Pl} {l : List bX} {rs : List (List bX)} (h : l ∈ dB b p g) : qp b g p (l :: rs) = qp b g (bM p l) rs := if_pos h
theorem vP (h6 : b.aO.length ≤ 6) (hg : 0 ≤ g) : ∀ (rs : List (List bX)) {p q : Pl}, qp b g p rs = some q → mR b p rs.flatten = some q
  | [], p, q, h => h
  | l :: rs, p, q, h => by
    obtain ⟨h1, h2⟩ := pR h
    rw [List.flatten_cons, qR, C5 h6 l ((kM hg).1 h1)]
    exact vP h6 hg rs h2
theorem I4 {p : Pl} {t : bX} (hg : 1 ≤ g) (h : t ∈ bP b p) : [t] ∈ dB b p g := by
 rw [kM aE]
 have := gQ.1 h
 refine ⟨by simpa using hg, fun u hu => ?_, List.pairwise_singleton _ _⟩
 rw [List.mem_singleton.1 hu]
 exact ⟨⟨this.1, this.2.1⟩, ⟨this.2.2.1, this.2.2.2.1⟩, this.2.2.2.2.1, this.2.2.2.2.2⟩
theorem sC (hg : 1 ≤ g) : ∀ (l : List bX) {p q : Pl}, mR b p l = some q → qp b g p (l.map fun t => [t]) = some q
  | [], p, q, h => h
  | t :: l, p, q, h => by
    obtain ⟨h1, h2⟩ := vB h
    rw [List.map_cons, wC (I4 hg h1)]
    exact sC hg l h2
theorem Es {g' : Int} (hg : 0 ≤ g) (hgg : g ≤ g') : ∀ (rs : List (List bX)) {p q : Pl}, qp b g p rs = some q → qp b g' p rs = some q
  | [], p, q, h => h
  | l :: rs, p, q, h => by
    obtain ⟨h1, h2⟩ := pR h
    have h3 := (kM hg).1 h1
    rw [wC ((kM aE).2 ⟨by have := h3.len; omega, h3.ok, h3.apart⟩)]
    exact Es hg hgg rs h2
theorem zO (hg : 0 ≤ g) : ∀ (rs : List (List bX)) {p q : Pl}, qp b g p rs = some q → ∀ l ∈ rs, (l.length : Int) ≤ g
  | [], p, q, _, l, hl => by cases hl
  | r :: rs, p, q, h, l, hl => by
    obtain ⟨h1, h2⟩ := pR h
    rcases List.mem_cons.1 hl with rfl | hl
    · exact ((kM hg).1 h1).len
    · exact zO hg rs h2 l hl
theorem HO (hg : 0 ≤ g) : ∀ (rs : List (List bX)), (∀ l ∈ rs, (l.length : Int) ≤ g) → (rs.flatten.length : Int) ≤ rs.length * g
  | [], _ => by simp
  | l :: rs, h => by
    have h1 := h l List.mem_cons_self
    have h2 := HO hg rs fun r hr => h r (List.mem_cons_of_mem _ hr)
    rw [List.flatten_cons, List.length_append, List.length_cons]
    have e : (((rs.length + 1 : Nat) : Int)) * g = rs.length * g + g := by rw [Int.natCast_add, Int.add_mul]; simp
    rw [e]; omega
structure wG (b : aT) (g e : Int) (rs : List (List bX)) : Prop where
  err : e = 0 ∨ e = 7
  yes : e = 0 → ∃ q, qp b g (bJ b) rs = some q ∧ eN b q = true ∧ ∀ rs' q', qp b g (bJ b) rs' = some q' → eN b q' = true → rs.length ≤ rs'.length
  no : e = 7 → rs = [] ∧ ∀ rs' q, qp b g (bJ b) rs' = some q → eN b q = false
theorem PL (hr : b.cQ) (hg : 1 ≤ g ∧ g ≤ 3) : wG b g (ew b g) (dV b g) := by
  have h0 := rD hr
  obtain ⟨hs, _⟩ := w8 hr (show 0 ≤ g by omega)
  have ha : hH b g = 0 := by unfold hH; rw [if_pos h0, if_pos (fE.2 hg)]
  unfold ew dV
  rw [if_pos ha, if_pos ha]
  cases hi : (gH b g).is with
  | true =>
    rw [if_pos rfl, if_pos rfl]
    refine ⟨.inl rfl, fun _ => ?_, fun e => by cases e⟩
    obtain ⟨L, h1, h2, h3, _, h4⟩ := hs.yes hi
    rw [oO h1]
    exact ⟨_, h2, h3, h4⟩
  | false =>
    rw [if_neg aB, if_neg aB]
    exact ⟨.inr rfl, (fun e => by cases e), fun _ => ⟨rfl, hs.no hi⟩⟩
section
variable {e e' n : Int} {l : List bX} {rs rs' : List (List bX)}
theorem wG.same (h : wG b g e' rs) (h6 : b.aO.length ≤ 6) (hg : 1 ≤ g) (hc : sq b dh e l n) : e' = e := by
 rcases h.err with rfl | rfl
 ·rcases hc.err with rfl | rfl
  ·rfl
  obtain ⟨q, h1, h2, _⟩ := h.yes rfl
  have := (hc.no rfl).2.2 rs.flatten
  rw [(lN h6).2 ⟨q, vP h6 aE rs h1, h2⟩] at this; cases this
 rcases hc.err with rfl | rfl
 ·obtain ⟨q, h1, h2⟩ := (lN h6).1 (hc.yes rfl).1
  have := (h.no rfl).2 _ q (sC hg l h1)
  rw [h2] at this; cases this
 rfl
theorem wG.right (h : wG b g 0 rs) (h6 : b.aO.length ≤ 6) (hg : 1 ≤ g) : ir b rs.flatten = true := by
 obtain ⟨q, h1, h2, _⟩ := h.yes rfl
 exact (lN h6).2 ⟨q, vP h6 aE rs h1, h2⟩
theorem wG.z7 (h : wG b g 0 rs) (h6 : b.aO.length ≤ 6) (hg : 1 ≤ g) (hc : sq b dh 0 l n) : n ≤ rs.length * g ∧ (rs.length : Int) ≤ n := by
 obtain ⟨q, h1, h2, h3⟩ := h.yes rfl
 obtain ⟨c1, c2, c3⟩ := hc.yes rfl
 rw [nh] at c2
 constructor
 ·have h4 := c3 _ (h.right h6 hg)
  rw [nh] at h4
  have := HO aE rs (zO aE rs h1)
  omega
 obtain ⟨q', g1, g2⟩ := (lN h6).1 c1
 have := h3 _ q' (sC hg l g1) g2
 rw [List.length_map] at this; omega
theorem wG.less (h : wG b g 0 rs) (h' : wG b (g + 1) 0 rs') (hg : 1 ≤ g) : rs'.length ≤ rs.length := by
 obtain ⟨q, h1, h2, _⟩ := h.yes rfl
 obtain ⟨_, _, _, h3⟩ := h'.yes rfl
 exact h3 _ q (Es aE aE rs h1) h2
theorem DP (hg : 0 ≤ g) : ∀ (rs1 : List (List bX)) {rs2 : List (List bX)} {p q : Pl}, qp b g p (rs1 ++ [] :: rs2) = some q → qp b g p (rs1 ++ rs2) = some q
  | [], rs2, p, q, h => (pR h).2
  | r :: rs1, rs2, p, q, h => by
    obtain ⟨h1, h2⟩ := pR h
    rw [List.cons_append, wC h1]
    exact DP hg rs1 h2
theorem wG.rows (h : wG b g 0 rs) (hg : 1 ≤ g) : ∀ l ∈ rs, 0 < l.length ∧ (l.length : Int) ≤ g := fun l hl => by
  obtain ⟨q, h1, h2, h3⟩ := h.yes rfl
  refine ⟨?_, zO aE rs h1 l hl⟩
  cases l with
  | cons t l => exact Nat.zero_lt_succ _
  | nil =>
    obtain ⟨s, r, e⟩ := List.append_of_mem hl
    rw [e] at h1
    have := h3 _ q (DP aE s h1) h2
    rw [e] at this; simp at this
    omega
end
theorem Ce {b : aT} : ∀ (l : List bX) {p q : Pl}, mR b p l = some q → q.1.drop b.aO.length = p.1.drop b.aO.length
  | [], p, q, h => by injection h with h; rw [h]
  | t :: l, p, q, h => by
    obtain ⟨h1, h2⟩ := vB h
    have h3 := gQ.1 h1
    rw [Ce l h2]
    unfold cm
    exact List.drop_set_of_lt aE
theorem C4 {b : aT} (h6 : b.aO.length ≤ 6) : ∀ (l : List bX) {p q : Pl}, (∀ i, i < b.aO.length → 0 ≤ nth p.1 i ∧ nth p.1 i < b.sizes.length) → mR b p l = some q → ∀ i, i < b.aO.length → 0 ≤ nth q.1 i ∧ nth q.1 i < b.sizes.length
  | [], p, q, hp, h => by injection h with h; rw [← h]; exact hp
  | t :: l, p, q, hp, h => by
    obtain ⟨h1, h2⟩ := vB h
    have h3 := gQ.1 h1
    refine C4 h6 l (fun i hi => ?_) h2
    rw [sj aE]
    by_cases e : t.bN.toNat = i
    · rw [if_pos e]; exact ⟨h3.2.2.1, h3.2.2.2.1⟩
    · rw [if_neg e]; exact hp i hi
theorem Dv {b : aT} (hr : b.cQ) : ∀ i, i < b.aO.length → 0 ≤ nth (bJ b).1 i ∧ nth (bJ b).1 i < b.sizes.length := fun i hi => by
 rw [BJ hr.aO hi]; exact hr.inn _ (cD hi)
def CX (l : List bX) : Bool := (List.range (l.length - 1)).any fun i => decide ((nth l (i + 1)).bN ≤ (nth l i).bN)
def E2 (b : aT) (p : Pl) (l : List bX) (i : Nat) : Bool := gh b p (nth l i).aim || (l.take i).any fun u => decide (u.aim = (nth l i).aim)
def Pp (b : aT) (p : Pl) (l : List bX) : Bool := (List.range l.length).any fun i => E2 b p l i
def gy (b : aT) (p : Pl) (g : Int) (l : List bX) : Int :=
  if (!l.all fun t => b.bN t.bN && b.bin t.aim) = true then 1 else if CX l = true then 4 else if Pp b p l = true then 5 else if (!l.all fun t => b.hold t.aim t.bN) = true then 9 else if (l.length : Int) > g then 2 else 0
theorem Ah {p : Pl} {l : List bX} : gy b p g l = 0 ↔ gq b p g l := by
  unfold gy
  constructor
  · intro h
    split at h
    · cases h
    rename_i h1
    split at h
    · cases h
    rename_i h2
    split at h
    · cases h
    rename_i h3
    split at h
    · cases h
    rename_i h4
    split at h
    · cases h
    rename_i h5
    have h1' : ∀ t ∈ l, (0 ≤ t.bN ∧ t.bN < b.aO.length) ∧ 0 ≤ t.aim ∧ t.aim < b.sizes.length := fun t ht => by
      simp only [Bool.not_eq_true, Bool.not_eq_false', List.all_eq_true, Bool.and_eq_true, aT.bN, aT.bin, fE] at h1
      have := h1 t ht; omega
    have h4' : ∀ t ∈ l, b.hold t.aim t.bN = true := fun t ht => by
      simp only [Bool.not_eq_true, Bool.not_eq_false', List.all_eq_true] at h4
      exact h4 t ht
    have h3' : ∀ i, i < l.length → E2 b p l i = false := by
      rw [Bool.not_eq_true] at h3
      exact eI.1 h3
    have h2' : ∀ i, i < l.length - 1 → (nth l i).bN < (nth l (i + 1)).bN := fun i hi => by
      rw [Bool.not_eq_true] at h2
      have := eI.1 h2 i hi
      simpa using this
    have h2'' : ∀ i k, i < k → k < l.length → (nth l i).bN < (nth l k).bN := fun i k hik hk => by
      induction k with
      | zero => omega
      | succ k ih =>
        have := h2' k aE
        by_cases e : i = k
        · subst e; exact this
        · have := ih aE aE; omega
    refine ⟨by omega, fun t ht => ?_, ?_⟩
    · obtain ⟨i, hi, rfl⟩ := fP ht
      have := h3' i hi
      unfold E2 at this
      rw [Bool.or_eq_false_iff] at this
      have e := h1' _ ht
      exact ⟨e.1, e.2, this.1, h4' _ ht⟩
    · rw [List.pairwise_iff_getElem]
      intro i k hi hk hik
      rw [← dS hi, ← dS hk]
      refine ⟨h2'' i k hik hk, fun e => ?_⟩
      have := h3' k hk
      unfold E2 at this
      rw [Bool.or_eq_false_iff, List.any_eq_false] at this
      exact this.2 (nth l i) (by rw [List.mem_take_iff_getElem]; exact ⟨i, by omega, (dS hi).symm⟩) (decide_eq_true e)
  · intro h
    rw [if_neg, if_neg, if_neg, if_neg, if_neg]
    · have := h.len; omega
    · simp only [Bool.not_eq_true, Bool.not_eq_false', List.all_eq_true]
      exact fun t ht => (h.ok t ht).2.2.2
    · rw [Bool.not_eq_true]
      refine eI.2 fun i hi => ?_
      unfold E2
      rw [Bool.or_eq_false_iff, List.any_eq_false]
      refine ⟨(h.ok _ (cD hi)).2.2.1, fun u hu e => ?_⟩
      rw [List.mem_take_iff_getElem] at hu
      obtain ⟨k, hk, rfl⟩ := hu
      have := List.pairwise_iff_getElem.1 h.apart k i aE hi aE
      rw [← dS, ← dS] at this
      rw [← dS] at e
      exact this.2 (of_decide_eq_true e)
    · rw [Bool.not_eq_true]
      refine eI.2 fun i hi => ?_
      rw [decide_eq_false_iff_not]
      have := List.pairwise_iff_getElem.1 h.apart i (i + 1) aE aE aE
      rw [← dS, ← dS] at this
      omega
    · simp only [Bool.not_eq_true, Bool.not_eq_false', List.all_eq_true, Bool.and_eq_true, aT.bN, aT.bin, fE]
      intro t ht
      have := h.ok t ht
      have h1 := this.1
      have h2 := this.2.1
      omega
def mN (b : aT) (g : Int) : Pl → List (List bX) → Bool × Int
  | p, [] => (eN b p, 0)
  | p, l :: rs => if gy b p g l = 0 then mN b g (bM p l) rs else (false, gy b p g l)
def j3 (b : aT) (g : Int) (rs : List (List bX)) : Bool × Int := if hH b g = 0 then if (rs.length : Int) > 6000 then (false, 2) else mN b g (bJ b) rs else (false, hH b g)
theorem DM (hg : 0 ≤ g) : ∀ (rs : List (List bX)) {p q : Pl}, qp b g p rs = some q → mN b g p rs = (eN b q, 0)
  | [], p, q, h => by injection h with h; rw [← h]; rfl
  | l :: rs, p, q, h => by
    obtain ⟨h1, h2⟩ := pR h
    have h3 := Ah.2 ((kM hg).1 h1)
    show (if gy b p g l = 0 then mN b g (bM p l) rs else (false, gy b p g l)) = _
    rw [if_pos h3]; exact DM hg rs h2
structure MZ (b : aT) (g : Int) (rs : List (List bX)) (k : Nat) (p : Pl) : Prop where
  same : mN b g (bJ b) rs = mN b g p (rs.drop k)
  le : k ≤ rs.length
theorem Q0 (b : aT) (g : Int) (rs : List (List bX)) : MZ b g rs 0 (bJ b) := ⟨by rw [List.drop_zero], Nat.zero_le _⟩
theorem MZ.stop {rs : List (List bX)} {k : Nat} {p : Pl} (h : MZ b g rs k p) (hk : k < rs.length) (he : ¬ gy b p g (nth rs k) = 0) : mN b g (bJ b) rs = (false, gy b p g (nth rs k)) := by
 rw [h.same, lu hk]; exact if_neg he
theorem MZ.next {rs : List (List bX)} {k : Nat} {p : Pl} (h : MZ b g rs k p) (hk : k < rs.length) (he : gy b p g (nth rs k) = 0) : MZ b g rs (k + 1) (bM p (nth rs k)) :=
 ⟨by rw [h.same, lu hk]; exact if_pos he, hk⟩
theorem MZ.end {rs : List (List bX)} {k : Nat} {p : Pl} (h : MZ b g rs k p) (hk : rs.length ≤ k) : mN b g (bJ b) rs = (eN b p, 0) := by
 rw [h.same, List.drop_of_length_le hk]; rfl
end Go.Proofs.YtpnndljmhpepgaaGreat
namespace Go.Proofs.YtpnndljmhpepgaaGreat
open Go Go.T
def qz (b : aT) (p : Pl) : aT := ⟨b.sizes, (List.range b.aO.length).map fun i => ⟨(nth b.aO i).bh, nth p.1 i, (nth b.aO i).aim⟩⟩
variable {b : aT} {p q : Pl} {t : bX}
theorem oH (b : aT) (p : Pl) : (qz b p).aO.length = b.aO.length := by simp [qz]
theorem qi {i : Nat} (hi : i < b.aO.length) : nth (qz b p).aO i = ⟨(nth b.aO i).bh, nth p.1 i, (nth b.aO i).aim⟩ := by
 unfold qz
 show nth ((List.range b.aO.length).map _) i = _
 rw [dS zw, List.getElem_map, List.getElem_range]
theorem Im (h6 : b.aO.length ≤ 6) : qz b (bJ b) = b := by
  have e : (qz b (bJ b)).aO = b.aO := mS (oH _ _) fun i hi => by
    rw [oH] at hi
    rw [qi hi, BJ h6 hi]
  cases b with
  | mk s l => exact congrArg (aT.mk s) e
theorem GN (h6 : b.aO.length ≤ 6) (ht : t ∈ bP b p) : bu (qz b p) t = (qz b (cm p t), 0) := by
 obtain ⟨h1, h2, h3, h4, h5, h7⟩ := gQ.1 ht
 rw [lS]
 ·congr 1
  have e : fU (qz b p) t = (qz b (cm p t)).aO := mS (by unfold fU; rw [List.length_set, oH, oH]) fun i hi => by
   unfold fU at hi ⊢
   rw [List.length_set, oH] at hi
   rw [jE (by rw [oH]; exact hi), qi hi, qi hi, sj aE]
   by_cases e : t.bN.toNat = i
   ·rw [if_pos e, if_pos e, qi aE, e]
   rw [if_neg e, if_neg e]
  rw [e]; rfl
 ·simp only [Bool.or_eq_false_iff, Bool.not_eq_false', aT.bN, aT.bin, fE, oH]
  refine ⟨by omega, ?_⟩
  show 0 ≤ t.aim ∧ t.aim ≤ (b.sizes.length : Int) - 1
  omega
 ·unfold aT.free
  rw [List.all_eq_true]
  intro l hl
  obtain ⟨i, hi, rfl⟩ := fP hl
  rw [oH] at hi
  rw [qi hi, Bool.not_eq_true', decide_eq_false_iff_not]
  intro e
  have := (lA h6).2 ⟨i, hi, e⟩
  rw [h5] at this; cases this
 unfold aT.hold at h7 ⊢
 rw [qi aE]; exact h7
def HL : Pl → List bX → List bX
  | _, [] => []
  | p, t :: l => ⟨t.bN, nth p.1 t.bN.toNat⟩ :: HL (cm p t) l
theorem Em (h6 : b.aO.length ≤ 6) : ∀ (l : List bX) {p q : Pl} (acc : List bX), mR b p l = some q → e9 (qz b p) acc l = (qz b q, (acc ++ HL p l).reverse, 0)
  | [], p, q, acc, h => by injection h with h; subst h; show (qz b p, acc.reverse, 0) = _; rw [show HL p [] = [] from rfl, List.append_nil]
  | t :: l, p, q, acc, h => by
    obtain ⟨h1, h2⟩ := vB h
    have e := GN h6 h1
    have h3 := gQ.1 h1
    show (if (bu (qz b p) t).2 = 0 then e9 (bu (qz b p) t).1 (acc ++ [⟨t.bN, (nth (qz b p).aO t.bN.toNat).inn⟩]) l else _) = _
    rw [e, if_pos rfl, qi aE, Em h6 l _ h2, List.append_assoc]; rfl
structure VP (b : aT) (p : Pl) : Prop where
  apart : PY b p
  named : ∀ i, i < b.aO.length → 0 ≤ nth p.1 i ∧ nth p.1 i < b.sizes.length
  holds : ∀ i, i < b.aO.length → (nth b.aO i).bh ≤ nth b.sizes (nth p.1 i).toNat
theorem IP {c : aT} (hr : c.cQ) {L : List Pl} (hn : L.Nodup) (h : ∀ r, r ∈ L ↔ ∃ l, mR c (bJ c) l = some r) : e7 c = (L.length : Nat) := by
 unfold e7
 rw [if_pos (rD hr)]
 obtain ⟨hs, _⟩ := rJ hr (jy c) true
 have hw := (hs.whole rfl).2
 have e1 := iE hs.keys (L := L) fun r hr' => by
  obtain ⟨w, hw'⟩ := uw hr'
  obtain ⟨l, hl, _⟩ := hs.walk r w hw'
  exact (h r).2 ⟨l, hl⟩
 have e2 := iE hn (L := (cw c dh true).ways.map Prod.fst) fun r hr' => by
  obtain ⟨l, hl⟩ := (h r).1 hr'
  obtain ⟨w, hw'⟩ := hw l r hl
  exact oy hw'
 rw [List.length_map] at e1 e2
 congr 1
 omega
theorem N9 (hr : b.cQ) : ∃ L : List Pl, L.Nodup ∧ (∀ r, r ∈ L ↔ ∃ l, mR b (bJ b) l = some r) ∧ e7 b = (L.length : Nat) := by
 obtain ⟨hs, _⟩ := rJ hr (jy b) true
 have hw := (hs.whole rfl).2
 have h : ∀ r, r ∈ (cw b dh true).ways.map Prod.fst ↔ ∃ l, mR b (bJ b) l = some r := fun r => by
  constructor
  ·intro hr'
   obtain ⟨w, hw'⟩ := uw hr'
   obtain ⟨l, hl, _⟩ := hs.walk r w hw'
   exact ⟨l, hl⟩
  rintro ⟨l, hl⟩
  obtain ⟨w, hw'⟩ := hw l r hl
  exact oy hw'
 exact ⟨_, hs.keys, h, IP hr hs.keys h⟩
structure RY (b : aT) (plan : List bX) (a : aT) (back : List bX) (p : List Int) : Prop where
  done : bz b plan = (a, back, 0)
  home : bz a back = (b, plan, 0)
  right : a.cQ
  cost : fF (dM a) back = fF (dM b) plan
  ok : (qa a back).2 = true
  at_ : qa b plan = (p, true)
  sizes : a.sizes = b.sizes
  len : a.aO.length = b.aO.length
  plen : p.length = b.aO.length
  bN : ∀ i, i < b.aO.length → nth a.aO i = ⟨(nth b.aO i).bh, nth p i, (nth b.aO i).aim⟩
  places : e7 a = e7 b
  one : 1 ≤ e7 b
  makes : iR b plan = ir b plan
  z7 : ∀ e l n e' l' n', sq b dh e l n → sq a dh e' l' n' → e = e' ∧ (e = 0 → n ≤ n' + plan.length ∧ n' ≤ n + plan.length)
end Go.Proofs.YtpnndljmhpepgaaGreat
namespace Go.Proofs.YtpnndljmhpepgaaGreat
open Go Go.T
def B0 (b : aT) (n : Int) : aT := ⟨b.sizes ++ [n], b.aO⟩
def Ga (b : aT) (i : Nat) : aT := ⟨b.sizes, b.aO.set i ⟨(nth b.aO i).bh, (nth b.aO i).inn, -1⟩⟩
variable {b : aT} {n : Int} {i : Nat}
theorem Ir (hr : b.cQ) : (dL b).Nodup := by
 rw [List.nodup_iff_pairwise_ne, List.pairwise_iff_getElem]
 intro i k hi hk hik e
 unfold dL at hi hk e
 rw [List.length_map] at hi hk
 rw [List.getElem_map, List.getElem_map, ← dS hi, ← dS hk] at e
 exact (hr.apart k i hik hk).1 e.symm
theorem Db {k : Int} : b.free k = true ↔ k ∉ dL b := by
 unfold aT.free dL
 rw [List.all_eq_true, List.mem_map]
 constructor
 ·rintro h ⟨l, hl, e⟩
  have := h l hl
  rw [decide_eq_true e] at this; cases this
 intro h l hl
 rw [decide_eq_false fun e => h ⟨l, hl, e⟩]; rfl
structure Roomy (b : aT) (n : Int) : Prop where
  free : ((yL b).length : Int) = b.sizes.length - b.aO.length
  places : (yL b).length = 0 → e7 b = 1
  cost : (yL b).length = 0 → dY b dh = 0 → eA b dh = 0
  right : (B0 b n).cQ
  more : e7 b ≤ e7 (B0 b n)
  z7 : dY b dh = 0 → dY (B0 b n) dh = 0 ∧ eA (B0 b n) dh ≤ eA b dh
  none : b.aO.length = 0 → dY b dh = 0 ∧ eA b dh = 0
  loose : ∀ i, dY b dh = 0 → dY (Ga b i) dh = 0 ∧ eA (Ga b i) dh ≤ eA b dh
end Go.Proofs.YtpnndljmhpepgaaGreat
namespace Go.T
open Go Go.RowKit
theorem Ty.td {α : Type} {E : El α} {T tg n : Nat} {xs : List α} (hn : xs.length = n) : (Ty.row E T tg xs).Sub (Ty.vs tg n) := fun w M v ⟨cs, h1, h2, h3⟩ => by
 subst hn
 rcases h1.2 with ⟨e, h0⟩ | ⟨g, cap, cur, ex, _, hh, hn1, hcap, _, htk⟩
 ·exact .inl ⟨h0, e⟩
 exact .inr ⟨g, cap, h3 g r6, ex, hn1, hcap⟩
theorem Cont.lK {T : Nat} {l l' : List Ty} (h : NV l l') : (Cont.cells T l).Sub (Cont.cells T l') := fun w M v ⟨b, cs, h1, h2, h3⟩ => ⟨b, cs, h1, h2, wT h h3⟩
end Go.T
namespace Go.Proofs.YtpnndljmhpepgaaGreat
open Go Go.T
set_option maxRecDepth 100000
set_option maxHeartbeats 4000000
def gO (b : aT) (i k : Int) : aT := ⟨b.sizes, b.aO.set i.toNat ⟨(nth b.aO i.toNat).bh, (nth b.aO i.toNat).inn, k⟩⟩
def gF (b : aT) (i k : Int) : aT × Int := if fL b i = 0 then if bH (gO b i k) = 0 then (gO b i k, 0) else (tX, bH (gO b i k)) else (tX, fL b i)
theorem DT {b : aT} {i k : Int} (h : ¬ fL b i = 0) : gF b i k = (tX, fL b i) := if_neg h
theorem GY {b : aT} {i k : Int} (h : fL b i = 0) (h2 : ¬ bH (gO b i k) = 0) : gF b i k = (tX, bH (gO b i k)) := (if_pos h).trans (if_neg h2)
theorem HY {b : aT} {i k : Int} (h : fL b i = 0) (h2 : bH (gO b i k) = 0) : gF b i k = (gO b i k, 0) := (if_pos h).trans (if_pos h2)
theorem q9 {b : aT} (hs : b.Small) (i k : Int) : (gO b i k).Small := ⟨hs.sizes, by show (b.aO.set _ _).length ≤ 10; rw [List.length_set]; exact hs.aO⟩
attribute [local irreducible] dY eA e7 bH yL
attribute [local irreducible] iL fu pJ r9 jY jQ jL jI jT rF jJ q5 dy g6 q2 g7 r8 nth fS dG ay dO bodyPost Exit.then Exit.inBlock Code.wp Code.wpIn fy rS rB rq rL jU r5 fG iT qd cT cX bodyPostM eE
theorem wv (l : List oF) (h : l.length ≤ 1000) : fG Tryz.prog 114 [] [] [Ty.sl cZ l] [] (Ty.row cZ 58 6 l) := by
 refine ej Tryz.func114 ν aB Tryz.ntmps114 aP fun w0 M0 => ?_
 refine aF (aA (fm ν (aD (aC (aF (aF (aA (cM ν (uS OQ ν (aD (aC ?_)))))))))))
 refine pZ ν (fun hc1 => ?_) (fun hc1 => ?_)
 ·refine aF (aA (fm ν (aD (aC (au (aK (l9 [6] ν ν aB iS ?_)))))))
  all_goals (obtain rfl : l = [] := hc1; exact e8 mq)
 refine aX (aC (aF (aA ?_)))
 refine jM (E := cZ) ν ν ν ν ?_
 refine cM ν (cG ν ν aB ν ν ν ν ν ν aB bp bp (iY ν (aD (aC (au (l9 [6] ν ν aB iS ?_))))))
 all_goals exact e8 (fD aB)
end Go.Proofs.YtpnndljmhpepgaaGreat
namespace Go.Proofs.YtpnndljmhpepgaaGreat
open Go Go.T
set_option maxRecDepth 100000
set_option maxHeartbeats 4000000
theorem N0 : Tryz.prog.underlying 4 = some .bool := Tryz.underlying4
theorem zJ : ∀ (l : List bX) {cur : aT} {back : List bX}, (e9 cur back l).2.2 = 0 → ∀ t ∈ l, 0 ≤ t.bN ∧ t.bN < cur.aO.length
  | [], _, _, _, t, ht => by cases ht
  | u :: l, cur, back, h, t, ht => by
    have h : (if (bu cur u).2 = 0 then e9 (bu cur u).1 (back ++ [⟨u.bN, (nth cur.aO u.bN.toNat).inn⟩]) l else (tX, [], (bu cur u).2)).2.2 = 0 := h
    by_cases c : (bu cur u).2 = 0
    · rw [if_pos c] at h
      obtain ⟨h1, _, _, _, e⟩ := lI c
      rcases List.mem_cons.1 ht with rfl | ht
      · exact h1
      · have := zJ l h t ht
        rw [e] at this
        have e2 : (fU cur u).length = cur.aO.length := by unfold fU; rw [List.length_set]
        rw [← e2]; exact this
    · rw [if_neg c] at h; exact absurd h c
theorem LQ {b : aT} {plan : List bX} (h : (bz b plan).2.2 = 0) : bH b = 0 ∧ plan.length ≤ 6000 ∧ ∀ t ∈ plan, 0 ≤ t.bN ∧ t.bN < b.aO.length := by
 by_cases c : bH b = 0
 ·by_cases c2 : (plan.length : Int) > 6000
  ·rw [fC c c2] at h; cases h
  rw [eB c c2 rfl] at h
  exact ⟨c, by omega, zJ plan h⟩
 rw [gM c] at h; exact absurd h c
theorem Ba {b : aT} (hr : b.cQ) {l : List bX} (h : ∀ t ∈ l, 0 ≤ t.bN ∧ t.bN < b.aO.length) : ∀ k, k ≤ l.length → 0 ≤ kg b l k ∧ kg b l k ≤ 300 * k
  | 0, _ => by rw [qW]; exact ⟨Int.le_refl _, Int.le_refl _⟩
  | k + 1, hk => by
    have h1 := Ba hr h k aE
    have h3 := k7 hr (h _ (cD (xs := l) (k := k) aE))
    rw [qO aE]; omega
def hG (b : aT) (plan : List bX) : Int × Int := if (bz b plan).2.2 = 0 then (fF (dM b) plan, 0) else (0, (bz b plan).2.2)
theorem Br {b : aT} {plan : List bX} (h : ¬ (bz b plan).2.2 = 0) : hG b plan = (0, (bz b plan).2.2) := if_neg h
theorem G9 {b : aT} {plan : List bX} (h : (bz b plan).2.2 = 0) {k : Nat} (hk : plan.length ≤ k) : hG b plan = (kg b plan k, 0) := by
 unfold hG kg; rw [if_pos h, List.take_of_length_le hk]
def q4 (a b : aT) : Bool := decide (a.sizes = b.sizes) && decide (a.aO = b.aO)
theorem j5 (b : aT) : q4 b b = true := by unfold q4; simp
section
variable {b a : aT} {P back : List bX} {p : List Int}
end
attribute [local irreducible] dY eA e7 bH bz fF dM ir iR qa kg q4
attribute [local irreducible] iL fu pJ r9 jY jQ jL jI jT rF jJ q5 dy g6 q2 g7 r8 nth fS dG ay dO bodyPost Exit.then Exit.inBlock Code.wp Code.wpIn fy rS rB rq rL jU r5 fG iT qd cT cX bodyPostM eE
theorem rY (a b : aT) : dO Tryz.prog 17 [cU a, cU b] (Ty.bool (q4 a b)) := by
 refine az Tryz.func17 ν aB Tryz.ntmps17 aP fun w0 M0 => ?_
 refine aF (aA (bF ν (bF ν (dN ν (aD (aC (aF (aA (aN ν ν ν ν ν aB (aJ ν ν ν ν (aN ν ν ν ν ν aB (aJ ν ν ν ν (aa (vV a.sizes b.sizes) ν ν ν ν ν (dm ν ?_))))))))))))))
 refine bT 10 ν (fun hg => aH (aN ν ν ν ν ν aB (aD ν))) ?_
 refine bT 10 ν (fun hg => cJ 11 hg ν (aH (aJ ν ν ν ν (aD ν)))) ?_
 refine bT 10 ν (fun hg => aH (aN ν ν ν ν ν aB (aD ν))) ?_
 refine bT 10 ν (fun hg => cJ 13 hg ν (aH (aJ ν ν ν ν (aD ν)))) ?_
 refine bT 10 ν (fun hg => cJ 12 hg ν (cJ 14 hg ν (aH (aa (KX a.aO b.aO) ν ν ν ν ν (aD ν))))) ?_
 refine dA ν ν (dN ν (aD (aC (au (bg ν ν ?_)))))
 all_goals exact av rfl rfl (congrArg Ty.bool (by unfold q4; rfl))
theorem NP (b : aT) (hs : b.Small) (plan : List bX) (hp : plan.length ≤ 1000000) : dO Tryz.prog 69 [cU b, Ty.sl bq plan] (Ty.iF [Ty.int .i64 (hG b plan).1, Ty.int .i64 (hG b plan).2]) := by
 refine az Tryz.func69 ν aB Tryz.ntmps69 aP fun w0 M0 => ?_
 refine aF (aA (bF ν (bS ν (bS ν (aD (aC (aF (aF (aA (aY ν ν ν aP (cM ν (aa (GR b hs plan hp) ν ν ν ν ν (ke ν (aj ν ν (aj ν ν (aj ν ν (bZ ν bW ν ?_)))))))))))))))))
 refine bK ν ν aB ν ν ν ν ν ν (iX ν (bS ν (aD (aC (aF ?_)))))
 refine aA (bA ν (ah ν ν ν (aD (aC ?_))))
 refine bw ν (fun hc1 => ?_) (fun hc1 => ?_)
 ·refine aF (aA (bA ν (bS ν (bS ν (aD (aC (au (aK ?_))))))))
  refine dc ν ν ν ?_ ?_
  all_goals first | exact av rfl rfl (congrArg (fun z : Int × Int => Ty.int .i64 z.1) (Br hc1).symm) | exact av rfl rfl (congrArg (fun z : Int × Int => Ty.int .i64 z.2) (Br hc1).symm)
 refine aX (aC (aF ?_))
 obtain ⟨hd1, hd2, hd3⟩ := LQ hc1
 have hr := c8 hd1
 refine aA (bS ν (aD (aC (aF (aF (aA (cM ν (bU ν ν ν (bA ν (aD (aC (aV ?_))))))))))))
 refine bf (fun (k : {k : Nat // k ≤ plan.length}) => live [(2, Ty.pp (bL b)), (9, Ty.int .i64 (kg b plan k.1)), (22, Ty.sl bq plan), (23, Ty.int .i64 plan.length), (24, Ty.int .i64 (k.1 : Nat))] []) (fun k => plan.length - k.1) (⟨0, by omega⟩) ?_ fun k => ?_
 ·(refine dw.mk' ?_ ?_ <;> (repeat' (first | exact aQ | exact aR | refine aG ?_ (Ty.bC _) | refine aG ?_ (Ty.aM _) | refine aG ?_ ?_)))
  all_goals exact Ty.bO (qW b _).symm
 have hk := k.2
 have hsu := Ba hr hd3 k.1 hk
 refine aF (aA (ah ν ν ν (aD (aC (aF ?_)))))
 refine aU ν (fun hc2 => ?_) (fun hc2 => ?_)
 ·refine aX (aC (aF (aV (aF (aA (af ν ν ν ν ν ν aE (aY ν ν ν aP (bZ ν bW ν ?_))))))))
  refine bK ν ν aB ν ν ν ν ν ν (aD (aC ?_))
  have hlo := hd3 _ (cD (xs := plan) (k := k.1) aE)
  have hsb := k7 hr hlo
  refine aA (bA ν (aN ν ν ν ν ν aB (aJ ν ν ν ν (ak ν ν ν ν ν aB (aq ν ν aB ν ν ν (dR ν ν ν ν ν ν hlo.1 aE (aN ν ν ν ν ν aB (aJ ν ν ν ν (bY ν ν aE aE (bS ν (aD (bE (aC (aA (bY ν ν aE aE (bA ν (aD ?_)))))))))))))))))
  refine bG (⟨k.1 + 1, by omega⟩) ?_ (by show plan.length - (k.1 + 1) < plan.length - k.1; omega)
  (refine dw.mk' ?_ ?_ <;> (repeat' (first | exact aQ | exact aR | refine aG ?_ (Ty.bC _) | refine aG ?_ (Ty.aM _) | refine aG ?_ ?_)))
  all_goals exact Ty.bO (qO aE).symm
 refine bQ (aI (aI (aS ν (aC (aF (aA (bA ν (bS ν (bS ν (aD (aC (au ?_))))))))))))
 refine dc ν ν ν ?_ ?_
 all_goals first | exact av rfl rfl (congrArg (fun z : Int × Int => Ty.int .i64 z.1) (G9 hc1 aE).symm) | exact av rfl rfl (congrArg (fun z : Int × Int => Ty.int .i64 z.2) (G9 hc1 (Nat.le_refl _)).symm)
section
variable {b a : aT} {P back : List bX}
end
end Go.Proofs.YtpnndljmhpepgaaGreat
namespace Go.Proofs.YtpnndljmhpepgaaGreat
open Go Go.T
set_option maxRecDepth 100000
set_option maxHeartbeats 4000000
def gG (x : Option (List Int)) : List Ty := match x with | none => [Ty.ex (.slice none 0 0)] | some l => [Ty.sl cL l]
def xJ : El (Option (List Int)) := El.mk' 1 gG (fun x => by cases x <;> rfl) (fun x => by cases x <;> exact ⟨rfl, rfl, rfl⟩)
instance : Inhabited (Option (List Int)) := ⟨none⟩
theorem JO (l : List (List Int)) : (l.map some).flatMap xJ.tys = l.flatMap cY.tys := by
  induction l with
  | nil => rfl
  | cons x l ih => rw [List.map_cons, List.flatMap_cons, List.flatMap_cons, ih]; rfl
theorem Nq (l : List (List Int)) : (Ty.sl xJ (l.map some)).Sub (Ty.sl cY l) := fun w M v ⟨a, c, e, h1, h2, h3⟩ => by
 rw [List.length_map] at e h1 h3
 exact ⟨a, c, e, h1, h2, fun h0 => by
  obtain ⟨b, off, e1, h4⟩ := h3 h0
  rw [JO] at h4
  exact ⟨b, off, e1, h4⟩⟩
def Cq (l : List (List Int)) (k : Nat) : List (Option (List Int)) := (l.take k).map some ++ List.replicate (l.length - k) none
theorem Nv (x : Option (List Int)) (l : List Int) : (xJ.tys x).set 0 (Ty.sl cL l) = xJ.tys (some l) := by cases x <;> rfl
theorem DA {l : List (List Int)} {k : Nat} (h : k ≤ l.length) : (Cq l k).length = l.length := by unfold Cq; simp; omega
theorem I6 {l : List (List Int)} {k : Nat} (h : k < l.length) : (Cq l k).set k (some (nth l k)) = Cq l (k + 1) := by
 unfold Cq
 have e : ((l.take k).map some).length = k := by rw [List.length_map, List.length_take]; omega
 rw [List.set_append_right _ _ aE, e, Nat.sub_self, cg h, List.map_append, List.append_assoc, show l.length - k = (l.length - (k + 1)) + 1 by omega, List.replicate_succ]; rfl
theorem Ku {l : List (List Int)} {k : Nat} (h : l.length = k) : Cq l k = l.map some := by
 unfold Cq; rw [List.take_of_length_le aE, show l.length - k = 0 by omega]; simp
def jr (b : aT) : Bool := decide ((b.sizes.length : Int) > 12) || decide ((b.aO.length : Int) > 10)
theorem oZ {b : aT} (h : jr b = false) : b.Small := by
 unfold jr at h
 simp only [Bool.or_eq_false_iff, decide_eq_false_iff_not] at h
 exact ⟨by omega, by omega⟩
def yx (s t : Nat) (b : aT) : List Ty := [Ty.row cL 3 s b.sizes, Ty.vs t b.aO.length]
theorem Gk {L : List Nat} {x : aT} (h : x = tX) : mO L (Ty.agg [Ty.ex (.slice none 0 0), Ty.ex (.slice none 0 0)]) (Ty.agg (yx 21 24 x)) := by
 subst h; exact e8 (jK (cV (cV fT zb) mq))
theorem Mt {b : aT} {i k : Int} (h : gF b i k = (gO b i k, 0)) : mO [21, 24] (Ty.agg [Ty.row cL 3 21 b.sizes, Ty.vs 24 b.aO.length]) (Ty.agg (yx 21 24 (gF b i k).1)) := by
 rw [h]
 have e : (gO b i k).aO.length = b.aO.length := List.length_set
 show mO [21, 24] _ (Ty.agg [Ty.row cL 3 21 b.sizes, Ty.vs 24 (gO b i k).aO.length])
 rw [e]
 exact e8 (jK (cV (cV fT (kO aB)) (fD aB)))
attribute [local irreducible] iL fu pJ r9 jY jQ jL jI jT rF jJ q5 dy g6 q2 g7 r8 nth fS dG ay dO bodyPost Exit.then Exit.inBlock Code.wp Code.wpIn fy rS rB rq rL jU r5 fG iT qd cT cX bodyPostM eE
theorem CY (b : aT) : dO Tryz.prog 27 [cU b] (Ty.bool (jr b)) := by
 refine az Tryz.func27 ν aB Tryz.ntmps27 aP fun w0 M0 => ?_
 refine aF (aA (bF ν (dN ν (aD (aC (aF (aA (aN ν ν ν ν ν aB (aJ ν ν ν ν (bU ν ν ν (ah ν ν ν (dm ν ?_))))))))))))
 refine bT 7 ν (fun hg => aH (aN ν ν ν ν ν aB (aD ν))) ?_
 refine bT 7 ν (fun hg => cJ 8 hg ν (aH (aJ ν ν ν ν (aD ν)))) ?_
 refine bT 7 ν (fun hg => cJ 9 hg ν (aH (bU ν ν ν (aD ν)))) ?_
 refine bT 7 ν (fun hg => cJ 10 hg ν (aH (ah ν ν ν (aD ν)))) ?_
 refine eJ ν ν (dN ν (aD (aC (au (bg ν ν ?_)))))
 all_goals exact b9 rfl rfl
theorem rU (b : aT) (hs : b.Small) : dO Tryz.prog 8 [cU b] (cU b) := by
 refine az Tryz.func8 ν aB Tryz.ntmps8 aP fun w0 M0 => ?_
 have hs1 := hs.aO
 refine aF (aA (bF ν (bZ ν bW ν (aD (aC (aF (aA (aN ν ν ν ν ν aB (aJ ν ν ν ν (cC ν ν bW ν oD eU ?_))))))))))
 refine bZ ν bW ν (bK ν ν aB ν ν ν ν ν ν (aD (aC (aF (aF (aA (aN ν ν ν ν ν aB (aJ ν ν ν ν (bU ν ν ν (bA ν (aD (aC (aV ?_)))))))))))))
 refine bf (fun (k : {k : Nat // k ≤ b.aO.length}) => live [(2, Ty.ptr 3 0), (3, Ty.ptr 4 0), (10, Ty.sl cZ b.aO), (11, Ty.int .i64 b.aO.length), (12, Ty.int .i64 (k.1 : Nat))] [(3, Cont.cells 33 [Ty.ex (.slice none 0 0), Ty.ex (.slice none 0 0)]), (4, Cont.cells 33 [Ty.sl cL b.sizes, Ty.row cZ 76 21 (b.aO.take k.1)])]) (fun k => b.aO.length - k.1) (⟨0, by omega⟩) ?_ fun k => ?_
 ·exact Oy
 have hk := k.2
 refine aF (aA (ah ν ν ν (aD (aC (aF ?_)))))
 refine aU ν (fun hc1 => ?_) (fun hc1 => ?_)
 ·refine aX (aC (aF (aV (aF (aA (af ν ν ν ν ν ν aE (aY ν ν ν aP (bZ ν bW ν ?_))))))))
  refine bK ν ν aB ν ν ν ν ν ν (aD (aC (aA (ak ν ν ν ν ν aB (aq ν ν aB ν ν ν (aW ν ν aB ν ν aP ?_))))))
  refine bD (E := cZ) (xs := [nth b.aO k.1]) ν ν ν ν ν aB aB mH bn ν ?_
  refine cG ν ν aB ν ν ν ν ν ν aB bp bp (ak ν ν ν ν ν aB (dH ν ν aB ν ν xS ν aP ν ν bn ?_))
  refine aD (bE (aC (aA (bY ν ν aE aE (bA ν (aD ?_))))))
  refine bG (⟨k.1 + 1, by omega⟩) ?_ ko
  (refine dw.mk' ?_ ?_ <;> (repeat' (first | exact aQ | exact aR | exact eC | refine aG ?_ (Ty.bC _) | refine aG ?_ (Ty.aM _) | refine aL rfl (Cont.aM _) ?_ | refine aL rfl (Cont.eD ?_) ?_ | refine dD ?_ (Ty.aM _) | refine dD ?_ ?_)))
  all_goals exact Ty.cv (cg aE).symm
 refine bQ (aI (aI (aS ν (aC (aF ?_)))))
 refine j8 (tg := 21) [] [(4, Cont.cells 33 [Ty.sl cL b.sizes, Ty.sl cZ (b.aO.take k.1)])] aB rfl trivial ⟨eW rfl rfl ⟨cF rfl, m9, trivial⟩, trivial⟩ ?_
 refine aA (aW ν ν aB ν ν aP (bK ν ν aB ν ν ν ν ν ν (aD (aC (au (sH ν ν ν ν aB ν ν ν ?_))))))
 all_goals exact av rfl rfl (congrArg (fun l => cU ⟨b.sizes, l⟩) (show b.aO.take k.1 = b.aO from List.take_of_length_le wR))
theorem Is (l : List (List Int)) (hn : l.length ≤ 1000) (hl : ∀ x ∈ l, x.length ≤ 1000) : dO Tryz.prog 55 [Ty.sl cY l] (Ty.sl cY l) := by
 refine az Tryz.func55 ν aB Tryz.ntmps55 aP fun w0 M0 => ?_
 refine aF (aA (fm ν (aD (aC (aF (aA (cM ν (bU ν ν ν ?_))))))))
 refine xd (E := xJ) (x0 := none) ν ν ν ν ν ν ν aB ν aE l5 aE ?_
 refine Pe ν (aD (aC (aF (aF (aA (cM ν (bU ν ν ν (bA ν (aD (aC (aV ?_)))))))))))
 refine bf (fun (k : {k : Nat // k ≤ l.length}) => live [(3, Ty.vs 9 l.length), (9, Ty.sl cY l), (10, Ty.int .i64 l.length), (11, Ty.int .i64 (k.1 : Nat))] [(9, Cont.vec xJ 22 (Cq l k.1))]) (fun k => l.length - k.1) (⟨0, by omega⟩) ?_ fun k => ?_
 ·exact dK
 have hk := k.2
 have hul := DA hk
 refine aF (aA (ah ν ν ν (aD (aC (aF ?_)))))
 refine aU ν (fun hc1 => ?_) (fun hc1 => ?_)
 ·refine aX (aC (aF (aV (aF (aA (bA ν (af ν ν ν ν ν ν aE (aJ ν ν ν ν (bS ν (iX ν (aD (aC (aA (vZ ν (bA ν (cM ν (aa (wM (nth l k.1) (hl _ (cD aE))) ν ν ν ν ν (dU ν ν ν ν ν aE ?_))))))))))))))))))
  refine iV (E := xJ) (z := some (nth l k.1)) ν ν ν aB ν ν HT ν aE aB ν (Nv _ _) ?_
  refine aD (bE (aC (aA (bY ν ν aE aE (bA ν (aD ?_))))))
  refine bG (⟨k.1 + 1, by omega⟩) ?_ pV
  (refine dw.mk' ?_ ?_ <;> (repeat' (first | exact aQ | exact aR | refine aG ?_ (Ty.bC _) | refine aG ?_ (Ty.aM _) | refine aL rfl ?_ ?_)))
  all_goals exact Cont.jB (I6 aE)
 refine bQ (aI (aI (aS ν (aC (aF ?_)))))
 obtain ⟨k, hk⟩ := k
 obtain rfl : k = l.length := by have h1 : ¬ (k : Int) < (l.length : Int) := hc1; have h2 : k ≤ l.length := hk; omega
 refine jA (tg := 9) [(3, Ty.sl xJ (Cq l l.length))] aB rfl ⟨l6 rfl rfl (DA (Nat.le_refl _)) aB, trivial⟩ ?_
 refine aA (cM ν (iX ν (aD (aC (au (bg ν ν ?_))))))
 all_goals exact vX rfl rfl (by rw [Ku rfl]; exact Nq l)
theorem DZ (a b : List (List Int)) : dO Tryz.prog 63 [Ty.sl cY a, Ty.sl cY b] (Ty.bool (decide (a = b))) := by
 refine az Tryz.func63 ν aB Tryz.ntmps63 aP fun w0 M0 => ?_
 refine fV (s := 0) ν ν fY fun ha => ?_
 refine fV (s := 1) ν ν fY fun hb => ?_
 refine aF (aA (dN ν (aD (aC (aF (aF (aA (cM ν (bU ν ν ν (cM ν (bU ν ν ν (ah ν ν ν (aD (aC ?_))))))))))))))
 refine bw ν (fun hc1 => ?_) (fun hc1 => ?_)
 ·refine aF (aA (dN ν (aD (aC (au (aK (bg ν ν ?_)))))))
  exact av rfl rfl (congrArg Ty.bool AG)
 refine aX (aC (aF (aF (aA (cM ν (bU ν ν ν (bA ν (aD (aC (aV ?_))))))))))
 refine bf (fun (k : {k : Nat // a.take k = b.take k}) => live [(0, Ty.sl cY a), (1, Ty.sl cY b), (12, Ty.sl cY a), (13, Ty.int .i64 a.length), (14, Ty.int .i64 (k.1 : Nat))] []) (fun k => a.length - k.1) (⟨0, by simp⟩) ?_ fun k => ?_
 ·exact bt
 have hlen : a.length = b.length := by omega
 refine aF (aA (ah ν ν ν (aD (aC (aF ?_)))))
 refine aU ν (fun hc2 => ?_) (fun hc2 => ?_)
 ·refine aX (aC (aF (aV (aF (aA (bA ν (af ν ν ν ν ν ν aE (aJ ν ν ν ν (bS ν (iX ν (aD (aC (aF (aA (cM ν (cM ν (bA ν (af ν ν ν ν ν ν aE (aJ ν ν ν ν (aa (xB _ _) ν ν ν ν ν (dW ν (aD (aC ?_)))))))))))))))))))))))
  refine bw ν (fun hc3 => ?_) (fun hc3 => ?_)
  ·refine aF (aA (dN ν (aD (aC (au (aZ (aK (aK (aZ (aK (bg ν ν ?_)))))))))))
   exact av rfl rfl (congrArg Ty.bool O3)
  refine aX (bE (aC (aA (bY ν ν aE aE (bA ν (aD ?_))))))
  refine bG (⟨k.1 + 1, by have e : nth a k.1 = nth b k.1 := hc3; rw [cg aE, cg aE, k.2, e]⟩) ?_ zQ
  exact bt
 refine bQ (aI (aI (aS ν (aC (aF (aA (dN ν (aD (aC (au (bg ν ν ?_)))))))))))
 exact av rfl rfl (congrArg Ty.bool zB)
theorem wq (l : List Int) (h : l.length ≤ 1000) : fG Tryz.prog 113 [] [] [Ty.sl cL l] [] (Ty.row cL 3 6 l) := by
 refine ej Tryz.func113 ν aB Tryz.ntmps113 aP fun w0 M0 => ?_
 refine aF (aA (fm ν (aD (aC (aF (aF (aA (cM ν (uS Ol ν (aD (aC ?_)))))))))))
 refine pZ ν (fun hc1 => ?_) (fun hc1 => ?_)
 ·refine aF (aA (fm ν (aD (aC (au (aK (l9 [6] ν ν aB iS ?_)))))))
  all_goals (obtain rfl : l = [] := hc1; exact e8 mq)
 refine aX (aC (aF (aA ?_)))
 refine jM (E := cL) ν ν ν ν ?_
 refine cM ν (cG ν ν aB ν ν ν ν ν ν aB bp bp (iY ν (aD (aC (au (l9 [6] ν ν aB iS ?_))))))
 all_goals exact e8 (fD aB)
theorem I0 (l : List oF) (h : l.length ≤ 1000) : fG Tryz.prog 35 [] [] [Ty.sl cZ l] [] (Ty.row cZ 58 6 l) := by
 refine ej Tryz.func35 ν aB Tryz.ntmps35 aP fun w0 M0 => ?_
 refine aF (aA (fm ν (aD (aC (aF (aA (cM ν (bU ν ν ν ?_))))))))
 refine x7 (E := cZ) ν ν ν ν ν ν ν aB ν aE l5 aE ?_
 refine cM ν (cG ν ν aB ν ν ν ν ν ν aB bp bp (iY ν (aD (aC (au (l9 [6] ν ν aB iS ?_))))))
 all_goals exact e8 (fD aB)
theorem H7 (b : aT) (hs : b.Small) : dO Tryz.prog 7 [cU b] (cU b) := by
 refine az Tryz.func7 ν aB Tryz.ntmps7 aP fun w0 M0 => ?_
 refine aF (aA (bF ν (bZ ν bW ν (aD (aC (aF (cH mixed ν (aN ν ν ν ν ν aB (aJ ν ν ν ν (aa (wM b.sizes E7) ν ν ν ν ν ?_))))))))))
 refine aN ν ν ν ν ν aB (aJ ν ν ν ν (aa (I3 b.aO Fu) ν ν ν ν ν ?_))
 refine cC ν ν bW ν oD eU ?_
 refine bK ν ν aB ν ν ν ν ν ν (aD ?_)
 refine ⟨by kernel_rfl, ?_⟩
 refine aC (au (sH ν ν ν ν aB ν ν ν ?_))
 all_goals exact av rfl rfl rfl
theorem LM (b : aT) (hs : b.Small) : fG Tryz.prog 7 [] [] [cU b] [] (Ty.agg [Ty.sl cL b.sizes, Ty.row cZ 58 9 b.aO]) := by
 refine ej Tryz.func7 ν aB Tryz.ntmps7 aP fun w0 M0 => ?_
 refine aF (aA (bF ν (bZ ν bW ν (aD (aC (aF (cH mixed ν (aN ν ν ν ν ν aB (aJ ν ν ν ν (aa (wM b.sizes E7) ν ν ν ν ν ?_))))))))))
 refine aN ν ν ν ν ν aB (aJ ν ν ν ν (fM [(9, 6)] [9] [] (I0 b.aO Fu) ν ν n9 pre_nil post_nil (fD gU) ?_))
 refine cC ν ν bW ν Qn eU ?_
 refine bK ν ν aB ν ν ν ν ν ν (aD ?_)
 refine ⟨by kernel_rfl, ?_⟩
 refine aC (au (Hv [9] ν ν ν ν aB ν ν ν aB iS ?_))
 all_goals exact e8 (jK (cV (cV fT (fD aB)) (iC rfl rfl)))
theorem Qu (b : aT) (hs : b.Small) (i k : Int) : fG Tryz.prog 62 [] [] [cU b, Ty.int .i64 i, Ty.int .i64 k] [(24, Cont.vec cZ 58 (gF b i k).1.aO)] (Ty.iF [Ty.agg (yx 21 24 (gF b i k).1), Ty.int .i64 (gF b i k).2]) := by
 refine ej Tryz.func62 ν aB Tryz.ntmps62 aP fun w0 M0 => ?_
 have hs1 := hs.aO
 have hs2 := hs.sizes
 refine aF (aA (bF ν (bZ ν bW ν (bS ν (aD (aC (aF (aF (aA (aY ν ν ν aP (bA ν (aa (Hl b hs i) ν ν ν ν ν (bS ν (aD (aC (aF (aA (bA ν (ah ν ν ν (aD (aC ?_)))))))))))))))))))))
 refine bw ν (fun hc1 => ?_) (fun hc1 => ?_)
 ·refine aF ?_
  refine oA (E := cZ) 58 24 ?_
  refine aA (cC ν ν bW ν kf eU ?_)
  refine bA ν (bK ν ν aB ν ν ν ν ν ν (bS ν (aD (aC (au (aK ?_))))))
  refine lX [21, 24] ν ν ν ν ν aB ν ν ν aB ?_ ?_ ?_
  ·exact eS rfl (dP aB (congrArg (fun x => x.1.aO) (DT (k := k) hc1)).symm) jt
  all_goals first | exact Gk (congrArg Prod.fst (DT hc1)) | exact e8 (mB rfl rfl (congrArg (Ty.int .i64) (congrArg Prod.snd (DT hc1)).symm))
 refine aX (aC (aF ?_))
 have hkn := yC hc1
 refine cH mixed ν (aN ν ν ν ν ν aB (aJ ν ν ν ν (fM [(21, 6)] [21] [] (wq b.sizes aE) ν ν n9 pre_nil post_nil (fD gU) ?_)))
 refine aN ν ν ν ν ν aB (aJ ν ν ν ν (fM [(24, 6)] [24] [] (wv b.aO aE) ν ν n9 pre_nil post_nil (fD gU) ?_))
 refine cC ν ν bW ν PS eU ?_
 refine bZ ν bW ν (bK ν ν aB ν ν ν ν ν ν (aD ?_))
 refine ⟨by kernel_rfl, ?_⟩
 refine aC (aF ?_)
 refine zq (s := 23) ν ν ?_
 refine kr (tg := 10) rfl (Cont.lK (l' := [Ty.row cL 3 21 b.sizes, Ty.vs 24 b.aO.length]) ⟨Ty.aM _, Ty.td rfl, trivial⟩) ?_
 refine aA (ak ν ν ν ν ν aB (aq ν ν aB ν ν ν (bA ν (bA ν (eZ ν ν ν ν ν hkn.2.1 aE (ak ν ν ν ν ν aB ?_))))))
 refine kU (E := cZ) (z := ⟨(nth b.aO i.toNat).bh, (nth b.aO i.toNat).inn, k⟩) ν ν ν aB ν ν gR ν aE aB ν ν ?_
 refine aD (aC (aF (aF ?_)))
 refine cK (B := live [(6, Ty.ptr 7 0), (9, Ty.ptr 10 0)] [(7, Cont.cells 25 [Ty.ex (.slice none 0 0), Ty.ex (.slice none 0 0)]), (10, Cont.cells 25 [Ty.row cL 3 21 b.sizes, Ty.vs 24 b.aO.length]), (24, Cont.vec cZ 58 (gO b i k).aO)]) ?_ ?_
 ·exact dK
 refine aA (aW ν ν aB ν ν aP ?_)
 refine kL [21, 24] (jC (gO b i k) (q9 hs i k)) ν (c9 (wZ (c9 (jV (yS ν)) (c9 (rW ν List.length_set aB ν) gN))) gN) (by exact mz _ _) ?_
 refine bS ν (aD (aC (aF (aA (bA ν (ah ν ν ν (aD (aC ?_))))))))
 refine bw ν (fun hc2 => ?_) (fun hc2 => ?_)
 ·refine aF ?_
  refine oA (E := cZ) 58 24 ?_
  refine aA (cC ν ν bW ν kf eU ?_)
  refine bA ν (bK ν ν aB ν ν ν ν ν ν (bS ν (aD (aC (au (aK ?_))))))
  refine lX [21, 24] ν ν ν ν ν aB ν ν ν aB ?_ ?_ ?_
  ·exact eS rfl (dP aB (congrArg (fun x => x.1.aO) (GY hc1 hc2)).symm) jt
  all_goals first | exact Gk (congrArg Prod.fst (GY hc1 hc2)) | exact e8 (mB rfl rfl (congrArg (Ty.int .i64) (congrArg Prod.snd (GY hc1 hc2)).symm))
 refine aX (aC (aF (aA (aW ν ν aB ν ν aP ?_))))
 refine bK ν ν aB ν ν ν ν ν ν (bS ν (aD (aC (au ?_))))
 refine lX [21, 24] ν ν ν ν ν aB ν ν ν aB ?_ ?_ ?_
 ·exact eS rfl (dP aB (congrArg (fun x => x.1.aO) (HY hc1 hc2)).symm) jt
 all_goals first | exact Mt (HY hc1 hc2) | exact e8 (mB rfl rfl (congrArg (Ty.int .i64) (congrArg Prod.snd (HY hc1 hc2)).symm))
end Go.Proofs.YtpnndljmhpepgaaGreat
namespace Go.T
open Go Go.RowKit
end Go.T
namespace Go.T
open Go Go.RowKit
section
variable {P : Program} {fr : Fr} {A : As} {c : Code} {Q : Exit → Act → World → Prop}
theorem nD {α : Type} {E : El α} {T Tc tg c0 : Nat} {l : List Ty} {xs : List α} (i : Nat) (hc : A.tag c0 = some (.cells Tc l)) (hi : l[i]? = some (.row E T tg xs))
 (h : fS P fr c ⟨A.slots, (tg, .vec E T xs) :: A.tags⟩ Q) : fS P fr c A Q := fun a w ⟨M, ok, hsl, ht⟩ => by
 refine h a w ⟨M, ok, hsl, fun x hx => ?_⟩
 rcases List.mem_cons.1 hx with rfl | hx
 ·obtain ⟨b, cs, hb, hh, hd⟩ := ht _ (cj hc)
  obtain ⟨v, _, ⟨ds, h1, h2, h3⟩⟩ := dr hd i _ hi
  rcases h1.2 with ⟨e, h0⟩ | ⟨g, cap, cur, ex, _, hh, hn1, hcap, _, htk⟩
  ·exact .inl (List.length_eq_zero_iff.1 h0)
  have hg : M g = some tg := h3 g r6
  exact .inr ⟨g, cur, hg, hh, by rw [cz, htk]; exact h2⟩
 exact ht x hx
end
end Go.T
namespace Go.Proofs.YtpnndljmhpepgaaGreat
open Go Go.T
set_option maxRecDepth 100000
set_option maxHeartbeats 6000000
def qV (b : aT) (k : Int) (j : Nat) : Bool := ((b.aO.map (·.inn)).take j).any fun n => decide (n = k)
theorem Dx (b : aT) (k : Int) : qV b k 0 = false := rfl
theorem DD {b : aT} {k : Int} {j : Nat} (hj : j < (b.aO.map (·.inn)).length) : (qV b k j || decide (nth (b.aO.map (·.inn)) j = k)) = qV b k (j + 1) := by
 unfold qV; rw [cg hj, List.any_append]; simp
theorem F6 {b : aT} {k : Int} {j : Nat} (hj : (b.aO.map (·.inn)).length ≤ j) : (!qV b k j) = b.free k := by
 unfold qV aT.free
 rw [List.take_of_length_le hj, List.any_map, Bool.eq_iff_iff, Bool.not_eq_true', List.any_eq_false, List.all_eq_true]
 simp
theorem HZ {b : aT} {k j : Nat} {v : Bool} (hj : (b.aO.map (·.inn)).length ≤ j) (h : (!qV b k j) = v) : b.free (k : Int) = v := (F6 hj).symm.trans h
theorem pO {b : aT} {i : Int} (h0 : bH b = 0) (h : (decide (i ≥ 0) && decide (i < (b.aO.length : Int))) = true) : 0 = fL b i ∧ 0 ≤ i ∧ i < b.aO.length := by
 simp only [Bool.and_eq_true, decide_eq_true_eq] at h
 have hl : b.bN i = true := by unfold aT.bN; rw [fE]; omega
 unfold fL
 rw [h0, hl, if_neg bB]
 omega
theorem vk {b : aT} {i : Int} (h0 : bH b = 0) (h : (decide (i ≥ 0) && decide (i < (b.aO.length : Int))) = false) : 1 = fL b i := by
 have hl : b.bN i = false := by
  rw [Bool.eq_false_iff]; intro hl
  unfold aT.bN at hl; rw [fE] at hl
  rw [Bool.and_eq_false_iff, decide_eq_false_iff_not, decide_eq_false_iff_not] at h
  omega
 unfold fL
 rw [if_pos ⟨h0, hl⟩]
theorem wY {b : aT} {i : Int} (h0 : ¬ bH b = 0) : bH b = fL b i := by unfold fL; rw [if_neg fun h => h0 h.1]
def u7 (b : aT) : List Int := if bH b = 0 then yL b else []
def su (b : aT) (i : Int) : List Int := if fL b i = 0 then LJ b i else []
def uW (b : aT) : List Int := if bH b = 0 then pN b else []
def vE (b : aT) : List (List Int) := if bH b = 0 then l7 b else []
theorem EJ {b : aT} (hr : b.cQ) : ∀ l ∈ b.aO, 0 ≤ l.inn ∧ -1 ≤ l.aim := fun l hl => ⟨(hr.inn l hl).1, (hr.aim l hl).1⟩
theorem JG {l : List (List Int)} (h1 : l.length ≤ 10) (h2 : ∀ x ∈ l, x.length ≤ 10) : l.flatten.length ≤ 1000000 := by
  have key : ∀ (l : List (List Int)), (∀ x ∈ l, x.length ≤ 10) → l.flatten.length ≤ 10 * l.length := by
    intro l
    induction l with
    | nil => intro _; simp
    | cons x l ih =>
      intro h
      have a := h x List.mem_cons_self
      have c := ih fun y hy => h y (List.mem_cons_of_mem _ hy)
      rw [List.flatten_cons, List.length_append, List.length_cons]; omega
  have := key l h2
  omega
theorem KA {b : aT} {n : Int} (h : (jr b || decide (n > 10)) = false) : b.Small ∧ n ≤ 10 := by
 rw [Bool.or_eq_false_iff, decide_eq_false_iff_not] at h
 exact ⟨oZ h.1, by omega⟩
theorem RT {b : aT} {i k : Int} {rings : List (List Int)} : ((((((((((((!decide (bH b = bH b) || !decide (fL b i = fL b i)) || !decide (bH b = bH b)) || !decide (bH b = bH b)) || !decide ((kV b rings).2 = (kV b rings).2)) || !decide ((gF b i k).2 = (gF b i k).2)) || !decide (u7 b = u7 b)) || !decide (su b i = su b i)) || !decide (uW b = uW b)) || !decide (vE b = vE b)) || !decide ((kV b rings).1 = (kV b rings).1)) || !q4 (gF b i k).1 (gF b i k).1)) = false := by
 rw [j5]; simp
section
variable {b : aT} {i k : Int} {rings : List (List Int)}
theorem GM (h : ¬ bH b = 0) : gF b i k = (tX, bH b) := by
 have e := wY (i := i) h
 rw [e]; exact DT (by rw [← e]; exact h)
theorem FW (h0 : bH b = 0) (h : (decide (i ≥ 0) && decide (i < (b.aO.length : Int))) = false) : gF b i k = (tX, 1) := by
 have e := vk h0 h
 have := DT (b := b) (i := i) (k := k) (by rw [← e]; decide)
 rw [← e] at this; exact this
theorem MW (h0 : bH b = 0) (h : (decide (i ≥ 0) && decide (i < (b.aO.length : Int))) = true) (h2 : ¬ bH (gO b i k) = 0) : gF b i k = (tX, bH (gO b i k)) := GY (pO h0 h).1.symm h2
theorem Jq (h0 : bH b = 0) (h : (decide (i ≥ 0) && decide (i < (b.aO.length : Int))) = true) (h2 : bH (gO b i k) = 0) : gF b i k = (gO b i k, bH (gO b i k)) := by rw [h2]; exact HY (pO h0 h).1.symm h2
theorem KT (h : ¬ bH b = 0) : [] = u7 b := (if_neg h).symm
theorem Ci (h : bH b = 0) {q : Nat} (hq : q = b.sizes.length) : eO (fun k => b.free k) q = u7 b := by subst hq; exact (if_pos h).symm
theorem MI (h : ¬ bH b = 0) : [] = su b i := (if_neg (by rw [← wY h]; exact h)).symm
theorem Ld (h0 : bH b = 0) (h : (decide (i ≥ 0) && decide (i < (b.aO.length : Int))) = false) : [] = su b i := (if_neg (by rw [← vk h0 h]; decide)).symm
theorem G8 (h0 : bH b = 0) (h : (decide (i ≥ 0) && decide (i < (b.aO.length : Int))) = true) {z : Nat} (hz : z = b.sizes.length) : eO (fun k => b.hold k i) z = su b i := by subst hz; exact (if_pos (pO h0 h).1.symm).symm
theorem Kx (h : ¬ bH b = 0) : uW b = [] := if_neg h
theorem zy (h : bH b = 0) : pN b = uW b := (if_pos h).symm
theorem Ka (h : ¬ bH b = 0) : vE b = [] := if_neg h
theorem yt (h : bH b = 0) : l7 b = vE b := (if_pos h).symm
theorem Bd {x : aT × Int} {e : Int} (h : x = (tX, e)) : x.1.sizes = [] ∧ x.1.aO = [] := by subst h; exact ⟨rfl, rfl⟩
end
theorem kE {α : Type} {E : El α} {xs : List α} (e : xs = []) : (Ty.ex (.slice none 0 0)).Sub (Ty.sl E xs) := by subst e; exact Ty.nv
attribute [local irreducible] gF fL kV ku yL LJ pN l7 bH iO q4 qV aT.free aT.hold
attribute [local irreducible] iL fu pJ r9 jY jQ jL jI jT rF jJ q5 dy g6 q2 g7 r8 nth fS dG ay dO bodyPost Exit.then Exit.inBlock Code.wp Code.wpIn fy rS rB rq rL jU r5 fG iT qd cT cX bodyPostM eE
theorem qE (b : aT) (i k : Int) (rings : List (List Int)) : dO Tryz.prog 23 [cU b, Ty.int .i64 i, Ty.int .i64 k, Ty.sl cY rings] (Ty.bool true) := by
 refine az Tryz.func23 ν aB Tryz.ntmps23 aP fun w0 M0 => ?_
 refine fV (s := 3) ν ν fY fun hl => ?_
 refine aF (aA (bF ν (dN ν (aD (aC (aF (aF (aA (aY ν ν ν aP (aa (CY b) ν ν ν ν ν (dm ν ?_)))))))))))
 refine bT 45 ν (fun hg => aH (cM ν (aD ν))) ?_
 refine bT 45 ν (fun hg => cJ 46 hg ν (aH (bU ν ν ν (aD ν)))) ?_
 refine bT 45 ν (fun hg => cJ 47 hg ν (aH (ah ν ν ν (aD ν)))) ?_
 refine eJ ν ν (aD (aC ?_))
 refine cI ν (fun hc1 => ?_) (fun hc1 => ?_)
 ·refine aF (aA (aa (je) ν ν ν ν ν (dN ν (aD (aC (au (aK (bg ν ν ?_))))))))
  all_goals exact b9 rfl rfl
 refine aX (aC (aF (aF ?_)))
 obtain ⟨hs, hn10⟩ := KA hc1
 have hs1 := hs.sizes
 have hs2 := hs.aO
 refine aA (cM ν (bU ν ν ν (bA ν (aD (aC (aV ?_))))))
 refine bf (fun (m : {m : Nat // ∀ l ∈ rings.take m, decide ((l.length : Int) > 10) = false}) => live [(1, Ty.int .i64 i), (2, Ty.int .i64 k), (3, Ty.sl cY rings), (4, Ty.pp (bL b)), (51, Ty.sl cY rings), (52, Ty.int .i64 rings.length), (53, Ty.int .i64 (m.1 : Nat))] []) (fun m => rings.length - m.1) (⟨0, by simp⟩) ?_ fun m => ?_
 ·exact bt
 refine aF (aA (ah ν ν ν (aD (aC (aF ?_)))))
 refine aU ν (fun hc2 => ?_) (fun hc2 => ?_)
 ·refine aX (aC (aF (aV (aF (aA (af ν ν ν ν ν ν aE (aJ ν ν ν ν (iX ν (aD (aC (aF (aA (cM ν (bU ν ν ν (ah ν ν ν (aD (aC ?_)))))))))))))))))
  refine aU ν (fun hc3 => ?_) (fun hc3 => ?_)
  ·refine aF (aA (aa (je) ν ν ν ν ν (dN ν (aD (aC (au (aZ (aK (aK (aZ (aK (bg ν ν ?_))))))))))))
   all_goals exact b9 rfl rfl
  refine aX (bE (aC (aA (bY ν ν aE aE (bA ν (aD ?_))))))
  refine bG (⟨m.1 + 1, gJ m.2 aE (decide_eq_false hc3)⟩) ?_ KZ
  exact bt
 refine bQ (aI (aI (aS ν (aC (aF ?_)))))
 have hr10 : ∀ l ∈ rings, l.length ≤ 10 := fun l hl => by have h := m.2 l K7; rw [decide_eq_false_iff_not] at h; omega
 have hfl := JG aE hr10
 refine cH mixed ν (aY ν ν ν aP (aa (H7 b hs) ν ν ν ν ν (aY ν ν ν aP (aa (rU b hs) ν ν ν ν ν (cM ν ?_)))))
 refine aa (Is rings aE (fun x hx => by have := hr10 x hx; omega)) ν ν ν ν ν ?_
 refine bZ ν bW ν (bZ ν bW ν (bK ν ν aB ν ν ν ν ν ν (bK ν ν aB ν ν ν ν ν ν (iX ν (aD ?_)))))
 refine ⟨by kernel_rfl, ?_⟩
 refine aC (aF (aA (aW ν ν aB ν ν aP (aa (p5 b hs) ν ν ν ν ν (bS ν (aD (aC (aF (aF ?_)))))))))
 refine fK (s := 14) ν (Ty.bO (check_eq b)) ?_
 refine aA (aW ν ν aB ν ν aP (aa (jC b hs) ν ν ν ν ν (bA ν (ah ν ν ν (aD (aC (eP ν bB (aX (aC (aF (aA (bA ν (bA ν (bA ν (bS ν (bS ν (bS ν (aD (aC (aF (aA (fm ν (fm ν ?_)))))))))))))))))))))))
 refine fm ν (aD (aC (aF (aA (fm ν (aD (aC (aF (aA (bS ν (aD (aC (aF (aA (bZ ν bW ν (aD (aC ?_)))))))))))))))))
 refine l8 (J := live [(1, Ty.int .i64 i), (2, Ty.int .i64 k), (3, Ty.sl cY rings), (4, Ty.pp (bL b)), (11, Ty.ptr 12 0), (13, Ty.sl cY rings), (14, Ty.int .i64 (bH b)), (15, Ty.int .i64 (fL b i)), (16, Ty.int .i64 (gF b i k).2), (17, Ty.int .i64 (kV b rings).2), (18, Ty.row cL 3 106 (u7 b)), (19, Ty.row cL 3 146 (su b i)), (20, Ty.sl cL (uW b)), (21, Ty.sl cY (vE b)), (22, Ty.int .i64 (kV b rings).1), (23, Ty.ptr 24 0)] [(12, Cont.cells 25 (bL b)), (24, Cont.cells 25 (bL (gF b i k).1))]) ?_ ?_
 ·refine aF (aA (bA ν (ah ν ν ν (aD (aC ?_)))))
  refine aU ν (fun hc5 => ?_) (fun hc5 => ?_)
  ·refine aF ?_
   have hr := c8 hc5
   refine aA (aW ν ν aB ν ν aP (aa (rK b hs) ν ν ν ν ν (iX ν (aD (aC (aF (aF (aA (aN ν ν ν ν ν aB (aJ ν ν ν ν (bU ν ν ν (bA ν (aD (aC (aV ?_)))))))))))))))
   refine bf (fun (q : {q : Nat // q ≤ b.sizes.length}) => live [(1, Ty.int .i64 i), (2, Ty.int .i64 k), (3, Ty.sl cY rings), (4, Ty.pp (bL b)), (11, Ty.ptr 12 0), (12, Ty.ptr 13 0), (13, Ty.sl cY rings), (14, Ty.int .i64 (bH b)), (18, Ty.row cL 3 106 (eO (fun k => b.free k) q.1)), (19, Ty.ex (.slice none 0 0)), (23, Ty.ptr 24 0), (24, Ty.sl cL (b.aO.map (·.inn))), (82, Ty.sl cL b.sizes), (83, Ty.int .i64 b.sizes.length), (84, Ty.int .i64 (q.1 : Nat))] [(12, Cont.cells 25 (bL b)), (13, Cont.cells 33 (bL b)), (24, Cont.cells 25 [Ty.ex (.slice none 0 0), Ty.ex (.slice none 0 0)])]) (fun q => b.sizes.length - q.1) (⟨0, by omega⟩) ?_ fun q => ?_
   ·exact BD
   have hq := q.2
   have hfu := jW (fun k => b.free k) q.1
   refine aF (aA (ah ν ν ν (aD (aC (aF ?_)))))
   refine aU ν (fun hc6 => ?_) (fun hc6 => ?_)
   ·refine aX (aC (aF (aV (aF (aA (bA ν (bS ν (aD (aC (aF (aA (dN ν (aD (aC (aF (aF (aA (cM ν (bU ν ν ν (bA ν (aD (aC (aV ?_)))))))))))))))))))))))
    refine bf (fun (j : {j : Nat // j ≤ (b.aO.map (·.inn)).length}) => live [(1, Ty.int .i64 i), (2, Ty.int .i64 k), (3, Ty.sl cY rings), (4, Ty.pp (bL b)), (11, Ty.ptr 12 0), (12, Ty.ptr 13 0), (13, Ty.sl cY rings), (14, Ty.int .i64 (bH b)), (18, Ty.row cL 3 106 (eO (fun k => b.free k) q.1)), (19, Ty.ex (.slice none 0 0)), (23, Ty.ptr 24 0), (24, Ty.sl cL (b.aO.map (·.inn))), (25, Ty.int .i64 (q.1 : Nat)), (26, Ty.bool (qV b q.1 j.1)), (82, Ty.sl cL b.sizes), (83, Ty.int .i64 b.sizes.length), (84, Ty.int .i64 (q.1 : Nat)), (87, Ty.sl cL (b.aO.map (·.inn))), (88, Ty.int .i64 (b.aO.map (·.inn)).length), (89, Ty.int .i64 (j.1 : Nat))] [(12, Cont.cells 25 (bL b)), (13, Cont.cells 33 (bL b)), (24, Cont.cells 25 [Ty.ex (.slice none 0 0), Ty.ex (.slice none 0 0)])]) (fun j => (b.aO.map (·.inn)).length - j.1) (⟨0, by omega⟩) ?_ fun j => ?_
    ·(refine dw.mk' ?_ ?_ <;> (repeat' (first | exact aQ | exact aR | refine aG ?_ (Ty.bC _) | refine aG ?_ (Ty.aM _) | refine aL rfl (Cont.aM _) ?_ | refine aG ?_ ?_)))
     all_goals exact Ty.jv (Dx b _).symm
    have hj := j.2
    have hml : (b.aO.map (·.inn)).length ≤ 10 := by rw [List.length_map]; exact hs2
    refine aF (aA (ah ν ν ν (aD (aC (aF ?_)))))
    refine aU ν (fun hc7 => ?_) (fun hc7 => ?_)
    ·refine aX (aC (aF (aV (aF (aA (af ν ν ν ν ν ν aE (aJ ν ν ν ν (bS ν (aD (aC (aA (dm ν (dm ν ?_)))))))))))))
     refine bT 94 ν (fun hg => aH (bA ν (aD ν))) ?_
     refine bT 94 ν (fun hg => aH (bA ν (aD ν))) ?_
     refine bT 94 ν (fun hg => cJ 95 hg ν (cJ 96 hg ν (aH (ah ν ν ν (aD ν))))) ?_
     refine eJ ν ν (dN ν (aD (bE (aC (aA (bY ν ν aE aE (bA ν (aD ?_))))))))
     refine bG (⟨j.1 + 1, by omega⟩) ?_ (by show (b.aO.map (·.inn)).length - (j.1 + 1) < (b.aO.map (·.inn)).length - j.1; omega)
     (refine dw.mk' ?_ ?_ <;> (repeat' (first | exact aQ | exact aR | refine aG ?_ (Ty.bC _) | refine aG ?_ (Ty.aM _) | refine aL rfl (Cont.aM _) ?_ | refine aG ?_ ?_)))
     all_goals exact Ty.jv (DD aE)
    refine bQ (aI (aI (aS ν (aC (aF (aA (dm ν (dW ν (aD (aC ?_))))))))))
    refine cI ν (fun hc8 => ?_) (fun hc8 => ?_)
    ·refine aA (iy ν (bA ν ?_))
     refine bD (E := cL) (xs := [(q.1 : Int)]) ν ν ν ν ν aB aB dn bn ν ?_
     refine cG ν ν aB ν ν ν ν ν ν aB bp bp (iY ν (aD (bE (aC (aA (bY ν ν aE aE (bA ν (aD ?_))))))))
     refine bG (⟨q.1 + 1, by omega⟩) ?_ OV
     (refine dw.mk' ?_ ?_ <;> (repeat' (first | exact aQ | exact aR | refine aG ?_ (Ty.bC _) | refine aG ?_ (Ty.aM _) | refine aL rfl (Cont.aM _) ?_ | refine aG ?_ ?_)))
     all_goals exact Ty.cv (nX (p := fun k => b.free k) (n := q.1) (HZ aE hc8))
    refine aX (bE (aC (aA (bY ν ν aE aE (bA ν (aD ?_))))))
    refine bG (⟨q.1 + 1, by omega⟩) ?_ OV
    (refine dw.mk' ?_ ?_ <;> (repeat' (first | exact aQ | exact aR | refine aG ?_ (Ty.bC _) | refine aG ?_ (Ty.aM _) | refine aL rfl (Cont.aM _) ?_ | refine aG ?_ ?_)))
    all_goals exact Ty.cv (p6 (p := fun k => b.free k) (n := q.1) (HZ aE hc8))
   refine bQ (aI (aI (aS ν (aC (aF (cH mixed ν (aW ν ν aB ν ν aP (aa (Hq b hs (EJ hr)) ν ν ν ν ν (aW ν ν aB ν ν aP (aa (KG b hs) ν ν ν ν ν (iX ν (iX ν (aD ?_)))))))))))))
   refine ⟨by kernel_rfl, ?_⟩
   refine aC (aF (aA (aW ν ν aB ν ν aP (cM ν (aa (LV b hs (EJ hr) rings aE hfl) ν ν ν ν ν (ke ν (aj ν ν (aj ν ν (bS ν (bS ν (aD (aC (aF (aA (bS ν (bS ν (aD (aC (aF (aA (bA ν (ah ν ν ν (dm ν ?_)))))))))))))))))))))))
   refine bT 119 ν (fun hg => aH (bA ν (aD ν))) ?_
   refine bT 119 ν (fun hg => aH (aN ν ν ν ν ν aB (aD ν))) ?_
   refine bT 119 ν (fun hg => cJ 121 hg ν (aH (aJ ν ν ν ν (aD ν)))) ?_
   refine bT 119 ν (fun hg => cJ 122 hg ν (aH (bU ν ν ν (aD ν)))) ?_
   refine bT 119 ν (fun hg => cJ 120 hg ν (cJ 123 hg ν (aH (ah ν ν ν (aD ν))))) ?_
   refine dA ν ν (aD (aC ?_))
   refine cI ν (fun hc9 => ?_) (fun hc9 => ?_)
   ·refine aF ?_
    obtain ⟨hk0, hki⟩ := pO hc5 hc9
    refine aA (bS ν (aD (aC (aF (aF (aA (aN ν ν ν ν ν aB (aJ ν ν ν ν (bU ν ν ν (bA ν (aD (aC (aV ?_)))))))))))))
    refine bf (fun (z : {z : Nat // z ≤ b.sizes.length}) => live [(1, Ty.int .i64 i), (2, Ty.int .i64 k), (3, Ty.sl cY rings), (4, Ty.pp (bL b)), (11, Ty.ptr 12 0), (13, Ty.sl cY rings), (14, Ty.int .i64 (bH b)), (15, Ty.int .i64 0), (17, Ty.int .i64 (ku b rings).2), (18, Ty.row cL 3 106 (eO (fun k => b.free k) q.1)), (19, Ty.row cL 3 146 (eO (fun k => b.hold k i) z.1)), (20, Ty.sl cL (pN b)), (21, Ty.sl cY (l7 b)), (22, Ty.int .i64 (ku b rings).1), (23, Ty.ptr 24 0), (127, Ty.sl cL b.sizes), (128, Ty.int .i64 b.sizes.length), (129, Ty.int .i64 (z.1 : Nat))] [(12, Cont.cells 25 (bL b)), (24, Cont.cells 25 [Ty.ex (.slice none 0 0), Ty.ex (.slice none 0 0)])]) (fun z => b.sizes.length - z.1) (⟨0, by omega⟩) ?_ fun z => ?_
    ·exact BD
    have hz := z.2
    have hfz := jW (fun k => b.hold k i) z.1
    refine aF (aA (ah ν ν ν (aD (aC (aF ?_)))))
    refine aU ν (fun hc10 => ?_) (fun hc10 => ?_)
    ·refine aX (aC (aF (aV (aF (aA (bA ν (af ν ν ν ν ν ν aE (aJ ν ν ν ν (bS ν (bS ν (aD (aC (aF (aA (bA ν (aN ν ν ν ν ν aB (aJ ν ν ν ν (bA ν (dR ν ν ν ν ν ν hki.1 aE (aN ν ν ν ν ν aB (aJ ν ν ν ν (ah ν ν ν (aD ?_)))))))))))))))))))))))
     refine aC ?_
     refine aU ν (fun hc11 => ?_) (fun hc11 => ?_)
     ·refine aA (iy ν (bA ν ?_))
      refine bD (E := cL) (xs := [(z.1 : Int)]) ν ν ν ν ν aB aB dn bn ν ?_
      refine cG ν ν aB ν ν ν ν ν ν aB bp bp (iY ν (aD (bE (aC (aA (bY ν ν aE aE (bA ν (aD ?_))))))))
      refine bG (⟨z.1 + 1, by omega⟩) ?_ Og
      (refine dw.mk' ?_ ?_ <;> (repeat' (first | exact aQ | exact aR | refine aG ?_ (Ty.bC _) | refine aG ?_ (Ty.aM _) | refine aL rfl (Cont.aM _) ?_ | refine aG ?_ ?_)))
      all_goals exact Ty.cv (D6 (b := b) (i := i) (n := z.1) (by unfold aT.hold; exact decide_eq_true hc11))
     refine aX (bE (aC (aA (bY ν ν aE aE (bA ν (aD ?_))))))
     refine bG (⟨z.1 + 1, by omega⟩) ?_ Og
     (refine dw.mk' ?_ ?_ <;> (repeat' (first | exact aQ | exact aR | refine aG ?_ (Ty.bC _) | refine aG ?_ (Ty.aM _) | refine aL rfl (Cont.aM _) ?_ | refine aG ?_ ?_)))
     all_goals exact Ty.cv (HR (b := b) (i := i) (n := z.1) (by unfold aT.hold; exact decide_eq_false hc11))
    refine bQ (aI (aI (aS ν (aC (aF (aA (aY ν ν ν aP ?_)))))))
    refine fM (res' := Ty.agg [Ty.sl cL b.sizes, Ty.row cZ 58 149 b.aO]) [(149, 9)] [149] [] (LM b hs) ν ν n9 pre_nil post_nil (jK (cV (cV fT (fD aB)) (iC ν ν))) ?_
    refine bK ν ν aB ν ν ν ν ν ν (aD (aC (aF ?_)))
    refine nD (c0 := 24) 1 ν ν ?_
    refine kr (tg := 24) rfl (Cont.lK (l' := [Ty.sl cL b.sizes, Ty.vs 149 b.aO.length]) ⟨Ty.aM _, Ty.td rfl, trivial⟩) ?_
    refine aA (ak ν ν ν ν ν aB (aq ν ν aB ν ν ν (bA ν (bA ν (eZ ν ν ν ν ν hki.1 aE (ak ν ν ν ν ν aB ?_))))))
    refine kU (E := cZ) (z := ⟨(nth b.aO i.toNat).bh, (nth b.aO i.toNat).inn, k⟩) ν ν ν aB ν ν gR ν aE aB ν ν ?_
    refine aD (aC (aF ?_))
    refine j8 (tg := 149) [] [(24, Cont.cells 25 (bL (gO b i k)))] aB rfl trivial ⟨eW rfl rfl ⟨cF rfl, pW rfl List.length_set aB, trivial⟩, trivial⟩ ?_
    refine cK (B := live [(1, Ty.int .i64 i), (2, Ty.int .i64 k), (3, Ty.sl cY rings), (4, Ty.pp (bL b)), (11, Ty.ptr 12 0), (13, Ty.sl cY rings), (14, Ty.int .i64 (bH b)), (15, Ty.int .i64 0), (17, Ty.int .i64 (ku b rings).2), (18, Ty.row cL 3 106 (eO (fun k => b.free k) q.1)), (19, Ty.row cL 3 146 (eO (fun k => b.hold k i) z.1)), (20, Ty.sl cL (pN b)), (21, Ty.sl cY (l7 b)), (22, Ty.int .i64 (ku b rings).1), (23, Ty.ptr 24 0)] [(12, Cont.cells 25 (bL b)), (24, Cont.cells 25 (bL (gO b i k)))]) ?_ ?_
    ·exact dK
    refine aA (aW ν ν aB ν ν aP (aa (rU (gO b i k) (q9 hs i k)) ν ν ν ν ν (aa (p5 (gO b i k) (q9 hs i k)) ν ν ν ν ν (bS ν (aD (aC (aF ?_)))))))
    refine fK (s := 16) ν (Ty.bO (check_eq (gO b i k))) ?_
    refine aA (bA ν (ah ν ν ν (aD (aC ?_))))
    refine bw ν (fun hc12 => ?_) (fun hc12 => ?_)
    ·refine aA (cC ν ν bW ν kf eU ?_)
     refine bK ν ν aB ν ν ν ν ν ν (aD (fB ?_))
     (refine dw.mk' ?_ ?_ <;> (repeat' (first | exact aQ | exact aR | exact eC | refine aG ?_ (Ty.bC _) | refine aG ?_ (Ty.aM _) | refine aL rfl (Cont.aM _) ?_ | refine aL rfl (Cont.eD ?_) ?_ | refine dD ?_ ?_ | refine aG ?_ ?_)))
     all_goals first | exact Ty.bO ((pO hc5 hc9).1) | exact Ty.bO (congrArg Prod.snd (MW hc5 hc9 hc12)).symm | exact Ty.bO (congrArg Prod.snd (eX hc5 rfl)).symm | exact Ty.bO (congrArg Prod.fst (eX hc5 rfl)).symm | exact Ty.cv (Ci hc5 (by have := q.2; omega)) | exact Ty.cv (G8 hc5 hc9 (by have := z.2; omega)) | exact Ty.fq (zy hc5) | exact Ty.fq (yt hc5) | exact kE (Bd (MW hc5 hc9 hc12)).1 | exact kE (Bd (MW hc5 hc9 hc12)).2
    refine aX (fB ?_)
    (refine dw.mk' ?_ ?_ <;> (repeat' (first | exact aQ | exact aR | exact eC | refine aG ?_ (Ty.bC _) | refine aG ?_ (Ty.aM _) | refine aL rfl (Cont.aM _) ?_ | refine aL rfl (Cont.eD ?_) ?_ | refine dD ?_ ?_ | refine aG ?_ ?_)))
    all_goals first | exact Ty.bO ((pO hc5 hc9).1) | exact Ty.bO (congrArg Prod.snd (Jq hc5 hc9 hc12)).symm | exact Ty.bO (congrArg Prod.snd (eX hc5 rfl)).symm | exact Ty.bO (congrArg Prod.fst (eX hc5 rfl)).symm | exact Ty.cv (Ci hc5 (by have := q.2; omega)) | exact Ty.cv (G8 hc5 hc9 (by have := z.2; omega)) | exact Ty.fq (zy hc5) | exact Ty.fq (yt hc5) | exact Ty.fq (congrArg (fun x : aT × Int => x.1.sizes) (Jq hc5 hc9 hc12)).symm | exact Ty.fq (congrArg (fun x : aT × Int => x.1.aO) (Jq hc5 hc9 hc12)).symm
   refine aX (fB ?_)
   (refine dw.mk' ?_ ?_ <;> (repeat' (first | exact aQ | exact aR | exact eC | refine aG ?_ (Ty.bC _) | refine aG ?_ (Ty.aM _) | refine aL rfl (Cont.aM _) ?_ | refine aL rfl (Cont.eD ?_) ?_ | refine dD ?_ ?_ | refine aG ?_ ?_)))
   all_goals first | exact Ty.bO (vk hc5 hc9) | exact Ty.bO (congrArg Prod.snd (FW hc5 hc9)).symm | exact Ty.bO (congrArg Prod.snd (eX hc5 rfl)).symm | exact Ty.bO (congrArg Prod.fst (eX hc5 rfl)).symm | exact gD (Ld hc5 hc9) | exact Ty.cv (Ci hc5 (by have := q.2; omega)) | exact Ty.fq (zy hc5) | exact Ty.fq (yt hc5) | exact kE (Bd (FW hc5 hc9)).1 | exact kE (Bd (FW hc5 hc9)).2
  refine aX (fB ?_)
  (refine dw.mk' ?_ ?_ <;> (repeat' (first | exact aQ | exact aR | exact eC | refine aG ?_ (Ty.bC _) | refine aG ?_ (Ty.aM _) | refine aL rfl (Cont.aM _) ?_ | refine aL rfl (Cont.eD ?_) ?_ | refine dD ?_ ?_ | refine aG ?_ ?_)))
  all_goals first | exact Ty.bO (wY hc5) | exact Ty.bO (congrArg Prod.snd (GM hc5)).symm | exact Ty.bO (congrArg Prod.snd (sP hc5)).symm | exact Ty.bO (congrArg Prod.fst (sP hc5)).symm | exact gD (KT hc5) | exact gD (MI hc5) | exact kE (Kx hc5) | exact kE (Ka hc5) | exact kE (Bd (GM hc5)).1 | exact kE (Bd (GM hc5)).2
 refine aF (aA (aW ν ν aB ν ν aP (aa (PO b hs) ν ν ν ν ν (ke ν (aj ν ν (aj ν ν (iX ν (bS ν (aD (aC (aF (aA (aW ν ν aB ν ν aP (bA ν (aa (NW b hs i) ν ν ν ν ν (ke ν (aj ν ν (aj ν ν (iX ν (bS ν (aD (aC (aF ?_)))))))))))))))))))))))
 refine aA (aW ν ν aB ν ν aP (aa (Pd b hs) ν ν ν ν ν (ke ν (aj ν ν (aj ν ν (iX ν (bS ν (aD (aC (aF (aA (aW ν ν aB ν ν aP (aa (M7 b hs) ν ν ν ν ν (ke ν (aj ν ν (aj ν ν (iX ν (bS ν (aD (aC (aF (aA (aW ν ν aB ν ν aP ?_)))))))))))))))))))))))
 refine cM ν (aa (Gh b hs rings aE hfl) ν ν ν ν ν (ke ν (aj ν ν (aj ν ν (bS ν (bS ν (aD (aC (aF (aA (aW ν ν aB ν ν aP (bA ν (bA ν ?_)))))))))))))
 refine fM (res' := Ty.iF [Ty.agg (yx 921 924 (gF b i k).1), Ty.int .i64 (gF b i k).2]) [(921, 21), (924, 24)] [921, 924] [(924, Cont.vec cZ 58 (gF b i k).1.aO)] (Qu b hs i k) ν ν ME pre_nil (gj (a := 924) (b := 24) aB ν (dP aB ν) post_nil) (by repeat (first | exact fT | refine cV ?_ ?_ | refine va ?_ | refine jK ?_ | exact fD aB | exact kO aB | exact iC ν ν)) ?_
 refine ke ν (aj ν ν (aj ν ν (bZ ν bW ν (bK ν ν aB ν ν ν ν ν ν (bS ν (aD (aC (aF (aF ?_)))))))))
 refine cK (B := live [(3, Ty.sl cY rings), (4, Ty.pp (bL b)), (11, Ty.ptr 12 0), (13, Ty.sl cY rings), (14, Ty.int .i64 (bH b)), (15, Ty.int .i64 (fL b i)), (16, Ty.int .i64 (gF b i k).2), (17, Ty.int .i64 (kV b rings).2), (18, Ty.row cL 3 106 (u7 b)), (19, Ty.row cL 3 146 (su b i)), (20, Ty.sl cL (uW b)), (21, Ty.sl cY (vE b)), (22, Ty.int .i64 (kV b rings).1), (23, Ty.ptr 24 0), (31, Ty.sl cL (u7 b)), (32, Ty.int .i64 (bH b)), (33, Ty.sl cL (su b i)), (34, Ty.int .i64 (fL b i)), (35, Ty.sl cL (uW b)), (36, Ty.int .i64 (bH b)), (37, Ty.sl cY (vE b)), (38, Ty.int .i64 (bH b)), (39, Ty.int .i64 (kV b rings).1), (40, Ty.int .i64 (kV b rings).2), (41, Ty.ptr 42 0), (42, Ty.int .i64 (gF b i k).2)] [(12, Cont.cells 25 (bL b)), (24, Cont.cells 25 (bL (gF b i k).1)), (42, Cont.cells 25 (yx 921 924 (gF b i k).1)), (924, Cont.vec cZ 58 (gF b i k).1.aO)]) ?_ ?_
 ·exact dK
 refine aA (bA ν (bA ν (ah ν ν ν (dm ν ?_))))
 refine bT 198 ν (fun hg => aH (bA ν (aD ν))) ?_
 refine bT 198 ν (fun hg => aH (bA ν (aD ν))) ?_
 refine bT 198 ν (fun hg => cJ 199 hg ν (cJ 200 hg ν (aH (ah ν ν ν (aD ν))))) ?_
 refine eJ ν ν (dm ν ?_)
 refine bT 203 ν (fun hg => aH (bA ν (aD ν))) ?_
 refine bT 203 ν (fun hg => aH (bA ν (aD ν))) ?_
 refine bT 203 ν (fun hg => cJ 204 hg ν (cJ 205 hg ν (aH (ah ν ν ν (aD ν))))) ?_
 refine eJ ν ν (dm ν ?_)
 refine bT 208 ν (fun hg => aH (bA ν (aD ν))) ?_
 refine bT 208 ν (fun hg => aH (bA ν (aD ν))) ?_
 refine bT 208 ν (fun hg => cJ 209 hg ν (cJ 210 hg ν (aH (ah ν ν ν (aD ν))))) ?_
 refine eJ ν ν (dm ν ?_)
 refine bT 213 ν (fun hg => aH (bA ν (aD ν))) ?_
 refine bT 213 ν (fun hg => aH (bA ν (aD ν))) ?_
 refine bT 213 ν (fun hg => cJ 214 hg ν (cJ 215 hg ν (aH (ah ν ν ν (aD ν))))) ?_
 refine eJ ν ν (dm ν ?_)
 refine bT 218 ν (fun hg => aH (bA ν (aD ν))) ?_
 refine bT 218 ν (fun hg => aH (bA ν (aD ν))) ?_
 refine bT 218 ν (fun hg => cJ 219 hg ν (cJ 220 hg ν (aH (ah ν ν ν (aD ν))))) ?_
 refine eJ ν ν (dm ν ?_)
 refine bT 223 ν (fun hg => aH (cM ν (aD ν))) ?_
 refine bT 223 ν (fun hg => aH (iy ν (aD ν))) ?_
 refine bT 223 ν (by intro hg; apply bV (s := 224) ν dF; apply bV (s := 225) ν dF; apply aH; (refine x8 [106] (vV (u7 b) (u7 b)) ν DR o9 ?_); refine aD ?_; exact ν) ?_
 refine bT 223 ν (fun hg => cJ 226 hg ν (aH (dW ν (aD ν)))) ?_
 refine eJ ν ν (dm ν ?_)
 refine bT 229 ν (fun hg => aH (cM ν (aD ν))) ?_
 refine bT 229 ν (fun hg => aH (iy ν (aD ν))) ?_
 refine bT 229 ν (by intro hg; apply bV (s := 230) ν dF; apply bV (s := 231) ν dF; apply aH; (refine x8 [146] (vV (su b i) (su b i)) ν DR o9 ?_); refine aD ?_; exact ν) ?_
 refine bT 229 ν (fun hg => cJ 232 hg ν (aH (dW ν (aD ν)))) ?_
 refine eJ ν ν (dm ν ?_)
 refine bT 235 ν (fun hg => aH (cM ν (aD ν))) ?_
 refine bT 235 ν (fun hg => aH (cM ν (aD ν))) ?_
 refine bT 235 ν (fun hg => cJ 236 hg ν (cJ 237 hg ν (aH (aa (vV (uW b) (uW b)) ν ν ν ν ν (aD ν))))) ?_
 refine bT 235 ν (fun hg => cJ 238 hg ν (aH (dW ν (aD ν)))) ?_
 refine eJ ν ν (dm ν ?_)
 refine bT 241 ν (fun hg => aH (cM ν (aD ν))) ?_
 refine bT 241 ν (fun hg => aH (cM ν (aD ν))) ?_
 refine bT 241 ν (fun hg => cJ 242 hg ν (cJ 243 hg ν (aH (aa (DZ (vE b) (vE b)) ν ν ν ν ν (aD ν))))) ?_
 refine bT 241 ν (fun hg => cJ 244 hg ν (aH (dW ν (aD ν)))) ?_
 refine eJ ν ν (dm ν ?_)
 refine bT 247 ν (fun hg => aH (bA ν (aD ν))) ?_
 refine bT 247 ν (fun hg => aH (bA ν (aD ν))) ?_
 refine bT 247 ν (fun hg => cJ 248 hg ν (cJ 249 hg ν (aH (ah ν ν ν (aD ν))))) ?_
 refine eJ ν ν (dm ν ?_)
 refine bT 252 ν (fun hg => aH (aW ν ν aB ν ν aP (aD ν))) ?_
 refine bT 252 ν (fun hg => aH (aW ν ν aB ν ν aP (aD ν))) ?_
 refine bT 252 ν (by intro hg; apply bV (s := 253) ν dF; apply bV (s := 254) ν dF; apply aH; (refine kL [921, 924] (rY (gF b i k).1 (gF b i k).1) ν (c9 (wZ (c9 (jV (yS ν)) (c9 (rW ν ν aB ν) gN))) (c9 (jV (jP ν ν)) gN)) o9 ?_); refine aD ?_; exact ν) ?_
 refine bT 252 ν (fun hg => cJ 255 hg ν (aH (dW ν (aD ν)))) ?_
 refine eJ ν ν (aD (aC (eP ν (RT) (aX (aC (aF (aA (ak ν ν ν ν ν aB (aq ν ν aB ν ν ν (GF ν aB ν ν ν ν ν aB ν (aD (aC (aF (aA (ak ν ν ν ν ν aB (aq ν ν aB ν ν ν (vw ν ν aE aB ν ν ν ν ν aB ν (aD (aC (aF (aA (aW ν ν aB ν ν aP (aY ν ν ν aP ?_)))))))))))))))))))))))
 refine aa (rY b b) ν ν ν ν ν (dm ν ?_)
 refine bT 265 ν (fun hg => aH (cM ν (aD ν))) ?_
 refine bT 265 ν (fun hg => aH (cM ν (aD ν))) ?_
 refine bT 265 ν (fun hg => cJ 266 hg ν (cJ 267 hg ν (aH (aa (DZ rings rings) ν ν ν ν ν (aD ν))))) ?_
 refine dA ν ν (dm ν ?_)
 refine bT 270 ν (fun hg => aH (aa (je) ν ν ν ν ν (aD ν))) ?_
 refine dA ν ν (dN ν (aD (aC (au (bg ν ν ?_)))))
 all_goals exact av rfl rfl (congrArg Ty.bool (by rw [j5]; simp))
end Go.Proofs.YtpnndljmhpepgaaGreat
namespace Go.T
open Go Go.RowKit
section
variable {P : Program} {A : As} {fn : Func} {n : Nat} {w0 : World} {M0 : bI}
theorem KV {t1 t2 t3 t4 : Nat} {r1 r2 r3 r4 : Ty} (hr : fn.results = #[.tmp t1, .tmp t2, .tmp t3, .tmp t4]) (h1 : Nat.blt t1 n = true) (h2 : Nat.blt t2 n = true) (h3 : Nat.blt t3 n = true) (h4 : Nat.blt t4 n = true) (hs1 : fJ (A.slots t1) r1) (hs2 : fJ (A.slots t2) r2) (hs3 : fJ (A.slots t3) r3) (hs4 : fJ (A.slots t4) r4) :
 dG ⟨n, w0, M0, [], .plain⟩ A (bodyPost P fn (kX w0 M0 (Ty.iF [r1, r2, r3, r4])) .ret) := by
 intro a w ⟨M, ok, hsl, _⟩
 exact ⟨ok.eH bB, .tuple #[a.tmps.getD t1 undef, a.tmps.getD t2 undef, a.tmps.getD t3 undef, a.tmps.getD t4 undef], by simp [results, hr], _, pg M, rfl, oT ok.wf, lR (fr := ⟨n, w0, M0, [], .plain⟩) (fun _ h => h) ok.base, _, rfl, hs1 _ _ _ ok.wf (hsl t1 y9), hs2 _ _ _ ok.wf (hsl t2 tv), hs3 _ _ _ ok.wf (hsl t3 B8), hs4 _ _ _ ok.wf (hsl t4 (by simpa using h4)), trivial⟩
end
end Go.T
namespace Go.Proofs.YtpnndljmhpepgaaGreat
open Go Go.T
set_option maxRecDepth 100000
set_option maxHeartbeats 4000000
def dX (b : aT) (p : List Int) (t : bX) : List Int × Int :=
  if (fZ t.bN 0 (b.aO.length - 1) || fZ t.aim 0 (b.sizes.length - 1)) = true then ([], 1) else if t.aim ∈ p then ([], 5) else if nth b.sizes t.aim.toNat < (nth b.aO t.bN.toNat).bh then ([], 9) else (p.set t.bN.toNat t.aim, 0)
section
variable {b cur : aT} {p : List Int} {t : bX}
theorem xY (h : (fZ t.bN 0 (b.aO.length - 1) || fZ t.aim 0 (b.sizes.length - 1)) = true) : dX b p t = ([], 1) := if_pos h
theorem xj (h : (fZ t.bN 0 (b.aO.length - 1) || fZ t.aim 0 (b.sizes.length - 1)) = false) (h2 : t.aim ∈ p) : dX b p t = ([], 5) := (if_neg (ng h)).trans (if_pos h2)
theorem xy (h : (fZ t.bN 0 (b.aO.length - 1) || fZ t.aim 0 (b.sizes.length - 1)) = false) (h2 : t.aim ∉ p) (h3 : nth b.sizes t.aim.toNat < (nth b.aO t.bN.toNat).bh) : dX b p t = ([], 9) := (if_neg (ng h)).trans ((if_neg h2).trans (if_pos h3))
theorem xu (h : (fZ t.bN 0 (b.aO.length - 1) || fZ t.aim 0 (b.sizes.length - 1)) = false) (h2 : t.aim ∉ p) (h3 : ¬ nth b.sizes t.aim.toNat < (nth b.aO t.bN.toNat).bh) : dX b p t = (p.set t.bN.toNat t.aim, 0) := (if_neg (ng h)).trans ((if_neg h2).trans (if_neg h3))
theorem Cc (h : (fZ t.bN 0 (b.aO.length - 1) || fZ t.aim 0 (b.sizes.length - 1)) = false) : (0 ≤ t.bN ∧ t.bN < b.aO.length) ∧ 0 ≤ t.aim ∧ t.aim < b.sizes.length := by
 rw [Bool.or_eq_false_iff, lD, lD] at h; omega
structure Kept (b cur : aT) : Prop where
  sizes : cur.sizes = b.sizes
  len : cur.aO.length = b.aO.length
  bh : ∀ i, i < b.aO.length → (nth cur.aO i).bh = (nth b.aO i).bh
theorem PT (hl : 0 ≤ t.bN ∧ t.bN < cur.aO.length) : dL ⟨cur.sizes, fU cur t⟩ = (dL cur).set t.bN.toNat t.aim := by
 unfold dL fU
 show (cur.aO.set _ _).map _ = _
 rw [List.map_set]
theorem DW (h : Kept b cur) : dX b (dL cur) t = if (bu cur t).2 = 0 then (dL (bu cur t).1, 0) else ([], (bu cur t).2) := by
  have e : (!cur.bN t.bN || !cur.bin t.aim) = (fZ t.bN 0 (b.aO.length - 1) || fZ t.aim 0 (b.sizes.length - 1)) := by
    unfold aT.bN aT.bin; rw [oX, oX, h.len, h.sizes]
  cases h1 : (fZ t.bN 0 (b.aO.length - 1) || fZ t.aim 0 (b.sizes.length - 1)) with
  | true => rw [xY h1, nS (e.trans h1)]; rfl
  | false =>
    have hr := Cc h1
    by_cases h2 : t.aim ∈ dL cur
    · have hf : cur.free t.aim = false := by rw [Bool.eq_false_iff]; intro hc; exact Db.1 hc h2
      rw [xj h1 h2, nM (e.trans h1) hf]; rfl
    · have hf : cur.free t.aim = true := Db.2 h2
      have hs := h.bh t.bN.toNat aE
      by_cases h3 : nth b.sizes t.aim.toNat < (nth b.aO t.bN.toNat).bh
      · have hh : cur.hold t.aim t.bN = false := by unfold aT.hold; rw [hs, h.sizes]; exact decide_eq_false aE
        rw [xy h1 h2 h3, n8 (e.trans h1) hf hh]; rfl
      · have hh : cur.hold t.aim t.bN = true := by unfold aT.hold; rw [hs, h.sizes]; exact decide_eq_true aE
        rw [xu h1 h2 h3, lS (e.trans h1) hf hh, if_pos rfl, PT (by rw [h.len]; exact hr.1)]
theorem BM (h : Kept b cur) (h0 : (bu cur t).2 = 0) : Kept b (bu cur t).1 ∧ 0 ≤ t.bN ∧ t.bN < b.aO.length := by
 obtain ⟨h1, _, _, _, e⟩ := lI h0
 rw [h.len] at h1
 refine ⟨?_, h1⟩
 rw [e]
 refine ⟨h.sizes, by show (fU cur t).length = _; unfold fU; rw [List.length_set]; exact h.len, fun i hi => ?_⟩
 show (nth (fU cur t) i).bh = _
 unfold fU
 rw [jE (by rw [h.len]; exact hi)]
 by_cases c : t.bN.toNat = i
 ·rw [if_pos c, ← h.bh i hi, c]
 rw [if_neg c]; exact h.bh i hi
def gW (b : aT) (plan : List bX) : List Int × List bX × Int × Int :=
  if (plan.length : Int) > 6000 then ([], [], 0, 2) else if (e9 b [] plan).2.2 = 0 then (dL (e9 b [] plan).1, (e9 b [] plan).2.1, fF (dM b) plan, 0) else ([], [], 0, (e9 b [] plan).2.2)
variable {plan : List bX}
theorem vR (h : (plan.length : Int) > 6000) : gW b plan = ([], [], 0, 2) := if_pos h
theorem Kc (h : ¬ (plan.length : Int) > 6000) {e : Int} (he : ¬ e = 0) (hd : e9 b [] plan = (tX, [], e)) : gW b plan = ([], [], 0, e) := by
 unfold gW; rw [if_neg h, hd]; exact if_neg he
theorem vJ (h : ¬ (plan.length : Int) > 6000) {back : List bX} {k : Nat} (hk : plan.length ≤ k) (hd : e9 b [] plan = (cur, back, 0)) : gW b plan = (dL cur, back, kg b plan k, 0) := by
 unfold gW kg; rw [if_neg h, hd, if_pos rfl, List.take_of_length_le hk]
structure QM (b : aT) (plan : List bX) (k : Nat) (cur : aT) (back : List bX) : Prop where
  ix : Me b plan k cur back
  kept : Kept b cur
  sum : 0 ≤ kg b plan k ∧ kg b plan k ≤ 300 * k
theorem Q9 (b : aT) (plan : List bX) : QM b plan 0 b [] := ⟨PV b plan, ⟨rfl, rfl, fun _ _ => rfl⟩, by rw [qW]; exact ⟨Int.le_refl _, Int.le_refl _⟩⟩
variable {k : Nat} {back : List bX}
theorem QM.next (h : QM b plan k cur back) (hr : b.cQ) (hk : k < plan.length) (he : (bu cur (nth plan k)).2 = 0) : QM b plan (k + 1) (bu cur (nth plan k)).1 (back ++ [⟨(nth plan k).bN, (nth cur.aO (nth plan k).bN.toNat).inn⟩]) := by
 obtain ⟨h1, h2⟩ := BM h.kept he
 have h3 := k7 hr h2
 have h4 := h.sum
 refine ⟨h.ix.next hk he, h1, ?_⟩
 rw [qO hk]; omega
theorem yH {i : Nat} (hi : i < cur.aO.length) : nth (dL cur) i = (nth cur.aO i).inn := by
 unfold dL; rw [dS (by rw [List.length_map]; exact hi), List.getElem_map, ← dS hi]
theorem HC (h : Kept b cur) (he : (dX b (dL cur) t).2 = 0) : (bu cur t).2 = 0 ∧ (dX b (dL cur) t).1 = dL (bu cur t).1 := by
 rw [DW h] at he ⊢
 by_cases c : (bu cur t).2 = 0
 ·rw [if_pos c]; exact ⟨c, rfl⟩
 rw [if_neg c] at he; exact absurd he c
theorem QL (h : Kept b cur) (he : ¬ (dX b (dL cur) t).2 = 0) : ¬ (bu cur t).2 = 0 ∧ (dX b (dL cur) t).2 = (bu cur t).2 := by
 rw [DW h] at he ⊢
 by_cases c : (bu cur t).2 = 0
 ·rw [if_pos c] at he; exact absurd rfl he
 rw [if_neg c]; exact ⟨c, rfl⟩
theorem QM.halt (h : QM b plan k cur back) (h1 : ¬ (plan.length : Int) > 6000) (hk : k < plan.length) (he : ¬ (dX b (dL cur) (nth plan k)).2 = 0) : gW b plan = ([], [], 0, (dX b (dL cur) (nth plan k)).2) := by
 obtain ⟨h2, h3⟩ := QL h.kept he
 rw [h3]
 exact Kc h1 h2 (h.ix.stop hk h2)
theorem HH (b : aT) : (b.aO.map fun x => x.inn) = dL b := rfl
theorem Ji (h : Kept b cur) (hl : 0 ≤ t.bN ∧ t.bN < b.aO.length) : [(⟨t.bN, nth (dL cur) t.bN.toNat⟩ : bX)] ++ back.reverse = (back ++ [(⟨t.bN, (nth cur.aO t.bN.toNat).inn⟩ : bX)]).reverse := by
 rw [List.reverse_append, yH (by rw [h.len]; omega)]; rfl
def rH (b : aT) (p : List Int) (i : Nat) : Bool := decide ((nth b.aO i).aim ≥ 0) && !decide ((nth b.aO i).aim = nth p i)
def gI (b : aT) (p : List Int) : Bool := !(List.range p.length).any (rH b p)
end
attribute [local irreducible] dX bu kg dL
attribute [local irreducible] iL fu pJ r9 jY jQ jL jI jT rF jJ q5 dy g6 q2 g7 r8 nth fS dG ay dO bodyPost Exit.then Exit.inBlock Code.wp Code.wpIn fy rS rB rq rL jU r5 fG iT qd cT cX bodyPostM eE
theorem Aa (b : aT) (hs : b.Small) (p : List Int) (hp : p.length = b.aO.length) (t : bX) : dO Tryz.prog 115 [cU b, Ty.sl cL p, Ty.agg (bq.tys t)] (Ty.iF [Ty.sl cL (dX b p t).1, Ty.int .i64 (dX b p t).2]) := by
 refine az Tryz.func115 ν aB Tryz.ntmps115 aP fun w0 M0 => ?_
 have hs1 := hs.sizes
 have hs2 := hs.aO
 refine aF (aA (bF ν (bF ν (fm ν (bS ν (aD (aC (aF (aF (aA (aN ν ν ν ν ν aB (aJ ν ν ν ν (aN ν ν ν ν ν aB (aJ ν ν ν ν (bU ν ν ν (ga ν ν aE aE (aa (sv _ _ _) ν ν ν ν ν (dm ν ?_))))))))))))))))))
 refine bT 16 ν (fun hg => aH (aN ν ν ν ν ν aB (aD ν))) ?_
 refine bT 16 ν (fun hg => cJ 17 hg ν (aH (aJ ν ν ν ν (aD ν)))) ?_
 refine bT 16 ν (fun hg => aH (aN ν ν ν ν ν aB (aD ν))) ?_
 refine bT 16 ν (fun hg => cJ 19 hg ν (aH (aJ ν ν ν ν (aD ν)))) ?_
 refine bT 16 ν (fun hg => cJ 20 hg ν (aH (bU ν ν ν (aD ν)))) ?_
 refine bT 16 ν (fun hg => cJ 21 hg ν (aH (ga ν ν aE aE (aD ν)))) ?_
 refine bT 16 ν (fun hg => cJ 18 hg ν (cJ 22 hg ν (aH (aa (sv _ _ _) ν ν ν ν ν (aD ν))))) ?_
 refine eJ ν ν (aD (aC ?_))
 refine cI ν (fun hc1 => ?_) (fun hc1 => ?_)
 ·refine aF (aA (fm ν (bS ν (aD (aC (au (aK ?_)))))))
  refine dc ν ν ν ?_ ?_
  all_goals first | exact cy (congrArg Prod.fst (xY hc1)) | exact av rfl rfl (congrArg (fun z : List Int × Int => Ty.int .i64 z.2) (xY hc1).symm)
 refine aX (aC (aF (aF ?_)))
 have hof := Cc hc1
 refine aA (cM ν (aN ν ν ν ν ν aB (aJ ν ν ν ν (aa (EN _ _) ν ν ν ν ν (aD (aC ?_))))))
 refine aU ν (fun hc2 => ?_) (fun hc2 => ?_)
 ·refine aF (aA (fm ν (bS ν (aD (aC (au (aK ?_)))))))
  refine dc ν ν ν ?_ ?_
  all_goals first | exact cy (congrArg Prod.fst (xj hc1 hc2)) | exact av rfl rfl (congrArg (fun z : List Int × Int => Ty.int .i64 z.2) (xj hc1 hc2).symm)
 refine aX (aC (aF (aF (cH mixed ν (aN ν ν ν ν ν aB (aJ ν ν ν ν (aN ν ν ν ν ν aB (aJ ν ν ν ν (dR ν ν ν ν ν ν hof.2.1 aE (aJ ν ν ν ν (aN ν ν ν ν ν aB (aJ ν ν ν ν (aN ν ν ν ν ν aB (aJ ν ν ν ν (dR ν ν ν ν ν ν hof.1.1 aE (aN ν ν ν ν ν aB (aJ ν ν ν ν (ah ν ν ν (aD ?_)))))))))))))))))))
 refine ⟨by kernel_rfl, ?_⟩
 refine aC ?_
 refine aU ν (fun hc3 => ?_) (fun hc3 => ?_)
 ·refine aF (aA (fm ν (bS ν (aD (aC (au (aK ?_)))))))
  refine dc ν ν ν ?_ ?_
  all_goals first | exact cy (congrArg Prod.fst (xy hc1 hc2 hc3)) | exact av rfl rfl (congrArg (fun z : List Int × Int => Ty.int .i64 z.2) (xy hc1 hc2 hc3).symm)
 refine aX (aC (aF (aA ?_)))
 refine jM (E := cL) ν ν ν ν ?_
 refine cM ν (cG ν ν aB ν ν ν ν ν ν aB bp bp (iY ν (aD (aC (aF ?_)))))
 refine zq (s := 8) ν ν ?_
 refine aA (vZ ν (aN ν ν ν ν ν aB (aJ ν ν ν ν (aN ν ν ν ν ν aB (aJ ν ν ν ν (eZ ν ν ν ν ν hof.1.1 Oh ?_))))))
 refine iV (E := cL) (z := t.aim) ν ν ν aB ν ν gR ν Oh aB ν ν ?_
 refine aD (aC (aF ?_))
 refine jA (tg := 44) [(8, Ty.sl cL (([] ++ p).set t.bN.toNat t.aim))] aB rfl ⟨l6 rfl rfl (by rw [List.length_set]) aB, trivial⟩ ?_
 refine aA (cM ν (iX ν (bS ν (aD (aC (au ?_))))))
 refine dc ν ν ν ?_ ?_
 all_goals first | exact av rfl rfl (congrArg (fun z : List Int × Int => Ty.sl cL z.1) (xu hc1 hc2 hc3).symm) | exact av rfl rfl (congrArg (fun z : List Int × Int => Ty.int .i64 z.2) (xu hc1 hc2 hc3).symm)
theorem yQ (b : aT) (hr : b.cQ) (plan : List bX) : dO Tryz.prog 66 [cU b, Ty.sl bq plan] (Ty.iF [Ty.sl cL (gW b plan).1, Ty.sl bq (gW b plan).2.1, Ty.int .i64 (gW b plan).2.2.1, Ty.int .i64 (gW b plan).2.2.2]) := by
 refine az Tryz.func66 ν aB Tryz.ntmps66 aP fun w0 M0 => ?_
 have hs := iI hr
 refine aF (aA (bF ν (fm ν (fm ν (bS ν (bS ν (aD (aC (aF (aF (aA (cM ν (bU ν ν ν (ah ν ν ν (aD (aC ?_))))))))))))))))
 refine aU ν (fun hc1 => ?_) (fun hc1 => ?_)
 ·refine aF (aA (fm ν (fm ν (bS ν (bS ν (aD (aC (au (aK ?_)))))))))
  refine KV ν ν ν ν ν ?_ ?_ ?_ ?_
  all_goals first | exact cy (congrArg (fun z : List Int × List bX × Int × Int => z.1) (vR hc1)) | exact cy (congrArg (fun z : List Int × List bX × Int × Int => z.2.1) (vR hc1)) | exact av rfl rfl (congrArg (fun z : List Int × List bX × Int × Int => Ty.int .i64 z.2.2.1) (vR hc1).symm) | exact av rfl rfl (congrArg (fun z : List Int × List bX × Int × Int => Ty.int .i64 z.2.2.2) (vR hc1).symm)
 refine aX (aC (aF (aA (aY ν ν ν aP (aa (rK b hs) ν ν ν ν ν (iX ν (bS ν (aD (aC (aF (aA (fm ν (aD (aC (aF (aF (aA (bS ν (aD (aC (aV ?_)))))))))))))))))))))
 refine bf (fun (x : {x : Nat × aT × List bX // QM b plan x.1 x.2.1 x.2.2}) => live [(1, Ty.sl bq plan), (2, Ty.pp (bL b)), (8, Ty.sl cL (dL x.1.2.1)), (9, Ty.int .i64 (kg b plan x.1.1)), (10, Ty.sl bq x.1.2.2.reverse), (11, Ty.int .i64 (x.1.1 : Nat))] []) (fun x => plan.length - x.1.1) (⟨(0, b, []), Q9 b plan⟩) ?_ fun x => ?_
 ·(refine dw.mk' ?_ ?_ <;> (repeat' (first | exact aQ | exact aR | refine aG ?_ (Ty.bC _) | refine aG ?_ (Ty.aM _) | refine aG ?_ ?_)))
  all_goals first | exact Ty.fq (HH b) | exact Ty.bO (qW b plan).symm | exact Ty.nv
 have hxl := x.2.ix.len
 have hxe := x.2.ix.le
 have hxs := x.2.sum
 have hxk := x.2.kept.len
 have hil : (dL x.1.2.1).length = b.aO.length := by unfold dL; rw [List.length_map]; exact hxk
 refine aF (aF (aA (bA ν (cM ν (bU ν ν ν (ah ν ν ν (aD (aC ?_))))))))
 refine aU ν (fun hc2 => ?_) (fun hc2 => ?_)
 ·refine aX (aC (aF (aV (aF (cH mixed ν (aY ν ν ν aP (cM ν (cM ν (bA ν (af ν ν ν ν ν ν aE (aY ν ν ν aP (aa (Aa b hs (dL x.1.2.1) hil (nth plan x.1.1)) ν ν ν ν ν (ke ν (aj ν ν (aj ν ν (iX ν (bS ν (aD ?_))))))))))))))))))
  refine ⟨by kernel_rfl, ?_⟩
  refine aC (aF (aF (aA (bA ν (ah ν ν ν (aD (aC ?_)))))))
  refine bw ν (fun hc3 => ?_) (fun hc3 => ?_)
  ·refine aF (aA (bA ν (fm ν (fm ν (bS ν (bS ν (aD (aC (au (aK (aZ (aK (aK (aZ (aK ?_)))))))))))))))
   refine KV ν ν ν ν ν ?_ ?_ ?_ ?_
   all_goals first | exact cy (congrArg (fun z : List Int × List bX × Int × Int => z.1) (x.2.halt hc1 aE hc3)) | exact cy (congrArg (fun z : List Int × List bX × Int × Int => z.2.1) (x.2.halt hc1 aE hc3)) | exact av rfl rfl (congrArg (fun z : List Int × List bX × Int × Int => Ty.int .i64 z.2.2.1) (x.2.halt hc1 aE hc3).symm) | exact av rfl rfl (congrArg (fun z : List Int × List bX × Int × Int => Ty.int .i64 z.2.2.2) (x.2.halt hc1 aE hc3).symm)
  refine aX (aC (aF ?_))
  obtain ⟨hz1, hz2⟩ := HC x.2.kept hc3
  have hlt := (BM x.2.kept hz1).2
  have hsb := k7 hr hlt
  refine cH mixed ν (cM ν (bA ν (af ν ν ν ν ν ν aE (aN ν ν ν ν ν aB (aJ ν ν ν ν (cM ν (cM ν (bA ν (af ν ν ν ν ν ν aE (aN ν ν ν ν ν aB (aJ ν ν ν ν (dR ν ν ν ν ν ν hlt.1 aE (aJ ν ν ν ν (cC ν ν bW ν dn eU ?_))))))))))))))
  refine dx (E := bq) (xs := [⟨(nth plan x.1.1).bN, nth (dL x.1.2.1) (nth plan x.1.1).bN.toNat⟩]) ν ν ν ν ν aB aB mH bn ν ν ?_
  refine cM ν (cG ν ν aB ν ν ν ν ν ν aB bp bp (iY ν (aD ?_)))
  refine ⟨by kernel_rfl, ?_⟩
  refine aC (aF (cH mixed ν (bA ν (aN ν ν ν ν ν aB (aJ ν ν ν ν (cM ν (bA ν (af ν ν ν ν ν ν aE (aN ν ν ν ν ν aB (aJ ν ν ν ν (dR ν ν ν ν ν ν hlt.1 aE (aN ν ν ν ν ν aB (aJ ν ν ν ν (bY ν ν aE aE (bS ν (aD ?_))))))))))))))))
  refine ⟨by kernel_rfl, ?_⟩
  refine aC ?_
  refine jA (tg := 53) [(10, Ty.sl bq ([⟨(nth plan x.1.1).bN, nth (dL x.1.2.1) (nth plan x.1.1).bN.toNat⟩] ++ x.1.2.2.reverse))] aB rfl ⟨oQ rfl, trivial⟩ ?_
  refine aA (cM ν (iX ν (aD (bE (aC (aA (bA ν (bY ν ν aE aE (bS ν (aD ?_))))))))))
  refine bG (⟨(x.1.1 + 1, (bu x.1.2.1 (nth plan x.1.1)).1, x.1.2.2 ++ [⟨(nth plan x.1.1).bN, (nth x.1.2.1.aO (nth plan x.1.1).bN.toNat).inn⟩]), x.2.next hr aE (HC x.2.kept hc3).1⟩) ?_ Jp
  (refine dw.mk' ?_ ?_ <;> (repeat' (first | exact aQ | exact aR | refine aG ?_ (Ty.bC _) | refine aG ?_ (Ty.aM _) | refine aG ?_ ?_)))
  all_goals first | exact Ty.fq hz2 | exact Ty.bO (qO aE).symm | exact Ty.fq (Ji x.2.kept hlt)
 refine bQ (aI (aI (aS ν (aC (aF (aA (cM ν (cM ν (bA ν (iX ν (iX ν (bS ν (bS ν (aD (aC (au ?_))))))))))))))))
 refine KV ν ν ν ν ν ?_ ?_ ?_ ?_
 all_goals first | exact av rfl rfl (congrArg (fun z : List Int × List bX × Int × Int => Ty.int .i64 z.2.2.1) (vJ hc1 aE (x.2.ix.end aE)).symm) | exact av rfl rfl (congrArg (fun z : List Int × List bX × Int × Int => Ty.sl cL z.1) (vJ hc1 (Nat.le_refl _) (x.2.ix.end aE)).symm) | exact av rfl rfl (congrArg (fun z : List Int × List bX × Int × Int => Ty.sl bq z.2.1) (vJ hc1 (Nat.le_refl _) (x.2.ix.end aE)).symm) | exact av rfl rfl (congrArg (fun z : List Int × List bX × Int × Int => Ty.int .i64 z.2.2.2) (vJ hc1 (Nat.le_refl _) (x.2.ix.end aE)).symm)
theorem og (b : aT) (hs : b.Small) (p : List Int) (hp : p.length ≤ b.aO.length) : dO Tryz.prog 39 [cU b, Ty.sl cL p] (Ty.bool (gI b p)) := by
 refine az Tryz.func39 ν aB Tryz.ntmps39 aP fun w0 M0 => ?_
 have hs2 := hs.aO
 refine aF (aA (bF ν (dN ν (aD (aC (aF (aF (aA (bS ν (aD (aC (aV ?_))))))))))))
 refine bf (fun (k : {k : Nat // ∀ j, j < k → rH b p j = false}) => live [(1, Ty.sl cL p), (2, Ty.pp (bL b)), (5, Ty.int .i64 (k.1 : Nat))] []) (fun k => p.length - k.1) (⟨0, fun i hi => absurd hi (Nat.not_lt_zero i)⟩) ?_ fun k => ?_
 ·exact bt
 refine aF (aF (aA (bA ν (cM ν (bU ν ν ν (ah ν ν ν (aD (aC ?_))))))))
 refine aU ν (fun hc1 => ?_) (fun hc1 => ?_)
 ·refine aX (aC (aF (aV (aF (cH mixed ν (aN ν ν ν ν ν aB (aJ ν ν ν ν (bA ν (af ν ν ν ν ν ν aE (aN ν ν ν ν ν aB (aJ ν ν ν ν (ah ν ν ν (dm ν ?_)))))))))))))
  refine bT 19 ν (fun hg => aH (aN ν ν ν ν ν aB (aD ν))) ?_
  refine bT 19 ν (fun hg => cJ 20 hg ν (aH (aJ ν ν ν ν (aD ν)))) ?_
  refine bT 19 ν (fun hg => aH (bA ν (aD ν))) ?_
  refine bT 19 ν (fun hg => cJ 21 hg ν (cJ 22 hg ν (aH (af ν ν ν ν ν ν aE (aD ν))))) ?_
  refine bT 19 ν (fun hg => cJ 23 hg ν (aH (aN ν ν ν ν ν aB (aD ν)))) ?_
  refine bT 19 ν (fun hg => cJ 24 hg ν (aH (aJ ν ν ν ν (aD ν)))) ?_
  refine bT 19 ν (fun hg => aH (cM ν (aD ν))) ?_
  refine bT 19 ν (fun hg => aH (bA ν (aD ν))) ?_
  refine bT 19 ν (fun hg => cJ 26 hg ν (cJ 27 hg ν (aH (af ν ν ν ν ν ν aE (aD ν))))) ?_
  refine bT 19 ν (fun hg => cJ 28 hg ν (aH (aJ ν ν ν ν (aD ν)))) ?_
  refine bT 19 ν (fun hg => cJ 25 hg ν (cJ 29 hg ν (aH (ah ν ν ν (aD ν))))) ?_
  refine dA ν ν (aD ?_)
  refine ⟨by kernel_rfl, ?_⟩
  refine aC ?_
  refine cI ν (fun hc2 => ?_) (fun hc2 => ?_)
  ·refine aF (aA (dN ν (aD (aC (au (aZ (aK (aK (aZ (aK (bg ν ν ?_)))))))))))
   all_goals exact av rfl rfl (congrArg Ty.bool (by unfold gI; rw [nr (q := rH b p) (k := k.1) aE hc2]; rfl))
  refine aX (bE (aC (aA (bA ν (bY ν ν aE aE (bS ν (aD ?_)))))))
  refine bG (⟨k.1 + 1, kS k.2 hc2⟩) ?_ (by show p.length - (k.1 + 1) < p.length - k.1; omega)
  exact bt
 refine bQ (aI (aI (aS ν (aC (aF (aA (dN ν (aD (aC (au (bg ν ν ?_)))))))))))
 all_goals exact av rfl rfl (congrArg Ty.bool (by unfold gI; rw [mT (q := rH b p) k.2 aE]; rfl))
theorem u6 (l : List bX) (h : l.length ≤ 400000000) : dO Tryz.prog 43 [Ty.sl bq l] (Ty.sl bq l) := by
 refine az Tryz.func43 ν aB Tryz.ntmps43 aP fun w0 M0 => ?_
 refine aF (aA (fm ν (aD (aC (aF (aA (fm ν (aD (aC (aF (aF (aA (cM ν (bU ν ν ν (bA ν (aD (aC (aV ?_))))))))))))))))))
 refine bf (fun (k : {k : Nat // k ≤ l.length}) => live [(3, Ty.row bq 133 16 (l.take k.1)), (6, Ty.sl bq l), (7, Ty.int .i64 l.length), (8, Ty.int .i64 (k.1 : Nat))] []) (fun k => l.length - k.1) (⟨0, by omega⟩) ?_ fun k => ?_
 ·exact Ob
 have hk := k.2
 refine aF (aA (ah ν ν ν (aD (aC (aF ?_)))))
 refine aU ν (fun hc1 => ?_) (fun hc1 => ?_)
 ·refine aX (aC (aF (aV (aF (aA (af ν ν ν ν ν ν aE (aY ν ν ν aP (bZ ν bW ν ?_))))))))
  refine bK ν ν aB ν ν ν ν ν ν (aD (aC (aA (iy ν (aW ν ν aB ν ν aP ?_)))))
  refine bD (E := bq) (xs := [nth l k.1]) ν ν ν ν ν aB aB mH bn ν ?_
  refine cG ν ν aB ν ν ν ν ν ν aB bp bp (iY ν (aD (bE (aC (aA (bY ν ν aE aE (bA ν (aD ?_))))))))
  refine bG (⟨k.1 + 1, by omega⟩) ?_ pV
  (refine dw.mk' ?_ ?_ <;> (repeat' (first | exact aQ | exact aR | refine aG ?_ (Ty.bC _) | refine aG ?_ (Ty.aM _) | refine aG ?_ ?_)))
  all_goals exact Ty.cv (cg aE).symm
 refine bQ (aI (aI (aS ν (aC (aF (aA (iy ν (iY ν (aD (aC (au (bg ν ν ?_))))))))))))
 all_goals exact gB aB (List.take_of_length_le wR)
end Go.Proofs.YtpnndljmhpepgaaGreat
namespace Go.Proofs.YtpnndljmhpepgaaGreat
open Go Go.T
variable {b : aT}
theorem Eb {p : List Int} (hp : p.length = b.aO.length) (t : bX) : (vY b p t = false ∧ dX b p t = (p.set t.bN.toNat t.aim, 0)) ∨ (vY b p t = true ∧ (dX b p t).2 ≠ 0) := by
  cases h1 : (fZ t.bN 0 (b.aO.length - 1) || fZ t.aim 0 (b.sizes.length - 1)) with
  | true =>
    refine .inr ⟨?_, by rw [xY h1]; decide⟩
    cases hn : vY b p t with
    | true => rfl
    | false =>
      obtain ⟨a1, a2, _, _⟩ := jZ.1 hn
      rw [Bool.or_eq_true] at h1
      have e1 : fZ t.bN 0 (b.aO.length - 1) = false := lD.2 aE
      have e2 : fZ t.aim 0 (b.sizes.length - 1) = false := lD.2 aE
      rw [e1, e2] at h1; rcases h1 with h | h <;> cases h
  | false =>
    have hr := Cc h1
    by_cases h2 : t.aim ∈ p
    · refine .inr ⟨?_, by rw [xj h1 h2]; decide⟩
      cases hn : vY b p t with
      | true => rfl
      | false => exact absurd h2 (jZ.1 hn).2.2.1
    · by_cases h3 : nth b.sizes t.aim.toNat < (nth b.aO t.bN.toNat).bh
      · refine .inr ⟨?_, by rw [xy h1 h2 h3]; decide⟩
        cases hn : vY b p t with
        | true => rfl
        | false => have := (jZ.1 hn).2.2.2; omega
      · exact .inl ⟨jZ.2 ⟨by omega, hr.2, h2, by omega⟩, xu h1 h2 h3⟩
theorem jh : ∀ (l : List bX) (p : List Int) (l' : List bX), eK b p (l ++ l') = (eK b p l).bind fun q => eK b q l'
  | [], p, l' => rfl
  | t :: l, p, l' => by
    show (if vY b p t = true then none else eK b (p.set t.bN.toNat t.aim) (l ++ l')) = Option.bind (if vY b p t = true then none else eK b (p.set t.bN.toNat t.aim) l) _
    by_cases h : vY b p t = true
    · rw [if_pos h, if_pos h]; rfl
    · rw [if_neg h, if_neg h, jh l]
theorem qQ {l : List bX} {p q : List Int} {t : bX} (h : eK b p l = some q) (hn : vY b q t = false) : eK b p (l ++ [t]) = some (q.set t.bN.toNat t.aim) := by
 rw [jh, h]
 show (if vY b q t = true then none else some (q.set t.bN.toNat t.aim)) = _
 rw [if_neg (by rw [hn]; decide)]
theorem BK {l : List bX} {p r : List Int} {t : bX} (h : eK b p (l ++ [t]) = some r) : ∃ q, eK b p l = some q ∧ vY b q t = false ∧ r = q.set t.bN.toNat t.aim := by
  rw [jh] at h
  cases hq : eK b p l with
  | none => rw [hq] at h; cases h
  | some q =>
    rw [hq] at h
    have h : (if vY b q t = true then none else some (q.set t.bN.toNat t.aim)) = some r := h
    cases hn : vY b q t with
    | true => rw [hn, if_pos rfl] at h; cases h
    | false => rw [hn, if_neg aB] at h; injection h with h; exact ⟨q, rfl, hn, h.symm⟩
structure jq where
  all : List (List Int)
  turns : List Int
  bh : List Int
  deriving Inhabited
structure RS (b : aT) (x : jq) : Prop where
  lt : x.turns.length = x.all.length
  ls : x.bh.length = x.all.length
  pos : 0 < x.all.length
  start : nth x.all 0 = dL b
  nodup : x.all.Nodup
  len : ∀ p ∈ x.all, p.length = b.aO.length
  iJ : ∀ p ∈ x.all, ∀ k ∈ p, 0 ≤ k ∧ k < 7
  walk : ∀ i, i < x.all.length → (∃ l, eK b (dL b) l = some (nth x.all i) ∧ (l.length : Int) = nth x.turns i) ∧ ∃ l, eK b (dL b) l = some (nth x.all i) ∧ fF (dM b) l = nth x.bh i
  cap : ∀ i, i < x.all.length → (0 ≤ nth x.turns i ∧ nth x.turns i ≤ i) ∧ 0 ≤ nth x.bh i ∧ nth x.bh i ≤ 300 * i
theorem m6 {α : Type} [Inhabited α] {l : List α} {x : α} {j : Nat} (hj : j < l.length + 1) : nth (l ++ [x]) j = if j = l.length then x else nth l j := by
 unfold nth
 by_cases e : j = l.length
 ·subst e; rw [if_pos rfl, List.getD_eq_getElem?_getD, List.getElem?_append_right aE]; simp
 rw [if_neg e, List.getD_eq_getElem?_getD, List.getElem?_append_left aE, ← List.getD_eq_getElem?_getD]
theorem Ri (hr : b.cQ) : RS b ⟨[dL b], [0], [0]⟩ := by
 have hz : ∀ i, i < 1 → i = 0 := fun i h => by omega
 refine ⟨rfl, rfl, Nat.zero_lt_one, rfl, by simp, fun p hp => ?_, fun p hp k hk => ?_, fun i hi => ?_, fun i hi => ?_⟩
 ·rw [List.mem_singleton.1 hp]; unfold dL; rw [List.length_map]
 ·rw [List.mem_singleton.1 hp] at hk
  obtain ⟨l, hl, rfl⟩ := List.mem_map.1 hk
  have h1 := hr.inn l hl
  have h2 := hr.iJ
  omega
 ·rw [hz i hi]; exact ⟨⟨[], rfl, rfl⟩, [], rfl, rfl⟩
 rw [hz i hi]; exact ⟨⟨Int.le_refl _, Int.le_refl _⟩, Int.le_refl _, by show (0 : Int) ≤ 300 * 0; decide⟩
variable {x : jq} {i : Nat} {t : bX}
theorem RS.JW (h : RS b x) (hr : b.cQ) (hi : i < x.all.length) (ho : (dX b (nth x.all i) t).2 = 0) : vY b (nth x.all i) t = false ∧ (dX b (nth x.all i) t).1 = (nth x.all i).set t.bN.toNat t.aim ∧ (0 ≤ t.bN ∧ t.bN < b.aO.length) ∧ (0 ≤ t.aim ∧ t.aim < b.sizes.length) ∧ 1 ≤ dM b t ∧ dM b t ≤ 300 := by
 have hl := h.len _ (cD hi)
 rcases Eb hl t with ⟨h1, h2⟩ | ⟨_, h2⟩
 ·obtain ⟨a1, a2, _, _⟩ := jZ.1 h1
  have h3 : 0 ≤ t.bN ∧ t.bN < b.aO.length := by omega
  exact ⟨h1, by rw [h2], h3, a2, k7 hr h3⟩
 exact absurd ho h2
theorem RS.add (h : RS b x) (hr : b.cQ) (hi : i < x.all.length) (ho : (dX b (nth x.all i) t).2 = 0) (hn : (dX b (nth x.all i) t).1 ∉ x.all) : RS b ⟨x.all ++ [(dX b (nth x.all i) t).1], x.turns ++ [nth x.turns i + 1], x.bh ++ [nth x.bh i + dM b t]⟩ := by
 obtain ⟨h1, h2, h3, h4, h5⟩ := h.JW hr hi ho
 have hb := hr.iJ
 have hp := h.pos
 refine ⟨by simp [h.lt], by simp [h.ls], by simp, ?_, ?_, fun p hp => ?_, fun p hp k hk => ?_, fun j hj => ?_, fun j hj => ?_⟩
 ·show nth (x.all ++ [(dX b (nth x.all i) t).1]) 0 = _
  rw [m6 aE, if_neg aE]; exact h.start
 ·rw [List.nodup_append]
  exact ⟨h.nodup, by simp, fun p hp q hq e => hn (by rw [List.mem_singleton.1 hq] at e; rw [← e]; exact hp)⟩
 ·rcases List.mem_append.1 hp with hp | hp
  ·exact h.len p hp
  rw [List.mem_singleton.1 hp, h2, List.length_set]; exact h.len _ (cD hi)
 ·rcases List.mem_append.1 hp with hp | hp
  ·exact h.iJ p hp k hk
  rw [List.mem_singleton.1 hp, h2] at hk
  rcases List.mem_or_eq_of_mem_set hk with hk | hk
  ·exact h.iJ _ (cD hi) k hk
  omega
 ·have hj : j < x.all.length + 1 := by simpa using hj
  show (∃ l, eK b (dL b) l = some (nth (x.all ++ [(dX b (nth x.all i) t).1]) j) ∧ (l.length : Int) = nth (x.turns ++ [nth x.turns i + 1]) j) ∧ ∃ l, eK b (dL b) l = some (nth (x.all ++ [(dX b (nth x.all i) t).1]) j) ∧ fF (dM b) l = nth (x.bh ++ [nth x.bh i + dM b t]) j
  rw [m6 hj, m6 Cx, m6 Bg, h.lt, h.ls]
  by_cases e : j = x.all.length
  ·rw [if_pos e, if_pos e, if_pos e, h2]
   obtain ⟨⟨l, a1, a2⟩, l', a3, a4⟩ := h.walk i hi
   exact ⟨⟨l ++ [t], qQ a1 h1, by rw [List.length_append, List.length_singleton]; omega⟩, l' ++ [t], qQ a3 h1, by rw [e6, jg, a4]⟩
  rw [if_neg e, if_neg e, if_neg e]; exact h.walk j aE
 have hj : j < x.all.length + 1 := by simpa using hj
 show (0 ≤ nth (x.turns ++ [nth x.turns i + 1]) j ∧ nth (x.turns ++ [nth x.turns i + 1]) j ≤ j) ∧ 0 ≤ nth (x.bh ++ [nth x.bh i + dM b t]) j ∧ nth (x.bh ++ [nth x.bh i + dM b t]) j ≤ 300 * j
 rw [m6 Cx, m6 Bg, h.lt, h.ls]
 by_cases e : j = x.all.length
 ·rw [if_pos e, if_pos e]
  have := h.cap i hi
  omega
 rw [if_neg e, if_neg e]; exact h.cap j aE
theorem RS.low (h : RS b x) (hr : b.cQ) (hi : i < x.all.length) (ho : (dX b (nth x.all i) t).2 = 0) {a : Nat} (ha : a < x.all.length) (e : nth x.all a = (dX b (nth x.all i) t).1) : RS b ⟨x.all, x.turns.set a (min (nth x.turns i + 1) (nth x.turns a)), x.bh.set a (min (nth x.bh i + dM b t) (nth x.bh a))⟩ := by
 obtain ⟨h1, h2, h3, h4, h5⟩ := h.JW hr hi ho
 refine ⟨by rw [List.length_set]; exact h.lt, by rw [List.length_set]; exact h.ls, h.pos, h.start, h.nodup, h.len, h.iJ, fun j hj => ?_, fun j hj => ?_⟩
 ·have hj : j < x.all.length := hj
  show (∃ l, eK b (dL b) l = some (nth x.all j) ∧ (l.length : Int) = nth (x.turns.set a _) j) ∧ ∃ l, eK b (dL b) l = some (nth x.all j) ∧ fF (dM b) l = nth (x.bh.set a _) j
  rw [jE Cx, jE Bg]
  by_cases c : a = j
  ·subst c
   rw [if_pos rfl, if_pos rfl]
   obtain ⟨⟨l, a1, a2⟩, l', a3, a4⟩ := h.walk i hi
   obtain ⟨⟨m, b1, b2⟩, m', b3, b4⟩ := h.walk a hj
   rw [e, h2]
   rw [e, h2] at b1 b3
   constructor
   ·rcases Int.le_total (nth x.turns i + 1) (nth x.turns a) with c | c
    ·exact ⟨l ++ [t], qQ a1 h1, by rw [List.length_append, List.length_singleton]; omega⟩
    exact ⟨m, b1, by omega⟩
   rcases Int.le_total (nth x.bh i + dM b t) (nth x.bh a) with c | c
   ·exact ⟨l' ++ [t], qQ a3 h1, by rw [e6, jg, a4]; omega⟩
   exact ⟨m', b3, by omega⟩
  rw [if_neg c, if_neg c]; exact h.walk j hj
 have hj : j < x.all.length := hj
 show (0 ≤ nth (x.turns.set a _) j ∧ nth (x.turns.set a _) j ≤ j) ∧ 0 ≤ nth (x.bh.set a _) j ∧ nth (x.bh.set a _) j ≤ 300 * j
 rw [jE Cx, jE Bg]
 have c1 := h.cap j hj
 have c2 := h.cap i hi
 by_cases c : a = j
 ·subst c; rw [if_pos rfl, if_pos rfl]; omega
 rw [if_neg c, if_neg c]; exact c1
theorem RS.z7 (h : RS b x) (hr : b.cQ) : x.all.length ≤ 117649 := by
 have h6 := hr.aO
 have h1 := iE h.nodup (L := Eh b.aO.length) fun p hp => vT (h.len p hp) (h.iJ p hp)
 rw [vC] at h1
 exact Nat.le_trans h1 (Nat.le_trans (Nat.pow_le_pow_right aB h6) aB)
theorem RS.Qe (h : RS b x) : 0 ≤ x.turns.sum ∧ 0 ≤ x.bh.sum := by
 constructor
 ·refine lg _ fun y hy => ?_
  obtain ⟨j, hj, rfl⟩ := fP hy
  exact (h.cap j (by rw [← h.lt]; exact hj)).1.1
 refine lg _ fun y hy => ?_
 obtain ⟨j, hj, rfl⟩ := fP hy
 exact (h.cap j (by rw [← h.ls]; exact hj)).2.1
def HJ (x : jq) : Nat := (117649 - x.all.length) * 40000000 + (x.turns.sum + x.bh.sum).toNat
theorem q3 : ∀ (l : List Int) (i : Nat) (v : Int), i < l.length → (l.set i v).sum = l.sum - nth l i + v
  | [], i, v, h => by cases h
  | y :: l, 0, v, _ => by
    show (v :: l).sum = (y :: l).sum - y + v
    rw [List.sum_cons, List.sum_cons]; omega
  | y :: l, i + 1, v, h => by
    show (y :: l.set i v).sum = (y :: l).sum - nth l i + v
    rw [List.sum_cons, List.sum_cons, q3 l i v nq]; omega
theorem RS.QE (h : RS b x) (hr : b.cQ) (hi : i < x.all.length) (ho : (dX b (nth x.all i) t).2 = 0) (hn : (dX b (nth x.all i) t).1 ∉ x.all) : HJ ⟨x.all ++ [(dX b (nth x.all i) t).1], x.turns ++ [nth x.turns i + 1], x.bh ++ [nth x.bh i + dM b t]⟩ < HJ x := by
 have h1 := (h.add hr hi ho hn).z7 hr
 have h2 := h.Qe
 have h3 := h.cap i hi
 have h4 := (h.JW hr hi ho).2.2.2.2
 have h1 : x.all.length + 1 ≤ 117649 := by simpa using h1
 unfold HJ
 simp only [List.length_append, List.length_singleton, List.sum_append, List.sum_cons, List.sum_nil]
 omega
theorem RS.QO (h : RS b x) {a : Nat} (ha : a < x.all.length) {n m : Int} (hn : 0 ≤ n) (hm : 0 ≤ m) (hc : n < nth x.turns a ∨ m < nth x.bh a) : HJ ⟨x.all, x.turns.set a (min n (nth x.turns a)), x.bh.set a (min m (nth x.bh a))⟩ < HJ x := by
 have h2 := h.Qe
 have h3 := h.cap a ha
 have e1 := q3 x.turns a (min n (nth x.turns a)) (by rw [h.lt]; exact ha)
 have e2 := q3 x.bh a (min m (nth x.bh a)) (by rw [h.ls]; exact ha)
 have k1 : 0 ≤ (x.turns.set a (min n (nth x.turns a))).sum := by
  refine lg _ fun y hy => ?_
  rcases List.mem_or_eq_of_mem_set hy with hy | hy
  ·obtain ⟨j, hj, rfl⟩ := fP hy
   exact (h.cap j (by rw [← h.lt]; exact hj)).1.1
  omega
 have k2 : 0 ≤ (x.bh.set a (min m (nth x.bh a))).sum := by
  refine lg _ fun y hy => ?_
  rcases List.mem_or_eq_of_mem_set hy with hy | hy
  ·obtain ⟨j, hj, rfl⟩ := fP hy
   exact (h.cap j (by rw [← h.ls]; exact hj)).2.1
  omega
 unfold HJ
 show (117649 - x.all.length) * 40000000 + ((x.turns.set a _).sum + (x.bh.set a _).sum).toNat < _
 omega
def EF (b : aT) (x : jq) (i : Nat) (t : bX) : Prop := (dX b (nth x.all i) t).2 = 0 → ∃ a, a < x.all.length ∧ nth x.all a = (dX b (nth x.all i) t).1 ∧ nth x.turns a ≤ nth x.turns i + 1 ∧ nth x.bh a ≤ nth x.bh i + dM b t
def Qd (b : aT) (i bN to j : Nat) (t : bX) : Prop := (0 ≤ t.bN ∧ t.bN < b.aO.length) ∧ (0 ≤ t.aim ∧ t.aim < b.sizes.length) ∧ (j < i ∨ (j = i ∧ (t.bN < bN ∨ (t.bN = bN ∧ t.aim < to))))
structure g8 (b : aT) (x0 x : jq) (ch : Bool) (i bN to : Nat) : Prop where
  rs : RS b x
  less : ch = true → HJ x < HJ x0
  same : ch = false → x = x0
  ok : ch = false → ∀ j t, j < x0.all.length → Qd b i bN to j t → EF b x0 j t
theorem Qs (h : RS b x) : g8 b x x false 0 0 0 := ⟨h, (fun h => by cases h), fun _ => rfl, fun _ j t _ ⟨_, _, hs⟩ => by omega⟩
variable {x0 : jq} {ch : Bool} {bN to : Nat}
theorem g8.skip (h : g8 b x0 x ch i bN to) (hn : ¬ (dX b (nth x.all i) ⟨bN, to⟩).2 = 0) : g8 b x0 x ch i bN (to + 1) := by
 refine ⟨h.rs, h.less, h.same, fun hc j t hj ⟨s1, s2, s3⟩ => ?_⟩
 by_cases c : j = i ∧ t.bN = bN ∧ t.aim = to
 ·obtain ⟨c1, c2, c3⟩ := c
  have et : t = ⟨bN, to⟩ := by cases t; simp only [bX.mk.injEq] at *; exact ⟨c2, c3⟩
  have ex := h.same hc
  rw [et, c1, ← ex]
  exact fun h0 => absurd h0 hn
 exact h.ok hc j t hj ⟨s1, s2, by omega⟩
theorem g8.add (h : g8 b x0 x ch i bN to) (hr : b.cQ) (hi : i < x.all.length) (ho : (dX b (nth x.all i) ⟨bN, to⟩).2 = 0) (hn : (dX b (nth x.all i) ⟨bN, to⟩).1 ∉ x.all) : g8 b x0 ⟨x.all ++ [(dX b (nth x.all i) ⟨bN, to⟩).1], x.turns ++ [nth x.turns i + 1], x.bh ++ [nth x.bh i + dM b ⟨bN, to⟩]⟩ true i bN (to + 1) := by
  have h1 := h.rs.QE hr hi ho hn
  refine ⟨h.rs.add hr hi ho hn, fun _ => ?_, (fun h => by cases h), fun h => by cases h⟩
  cases hc : ch with
  | true => have := h.less hc; omega
  | false => rw [h.same hc] at h1 ⊢; exact h1
theorem g8.low (h : g8 b x0 x ch i bN to) (hr : b.cQ) (hi : i < x.all.length) (ho : (dX b (nth x.all i) ⟨bN, to⟩).2 = 0) {a : Nat} (ha : a < x.all.length) (e : nth x.all a = (dX b (nth x.all i) ⟨bN, to⟩).1) (hc : nth x.turns i + 1 < nth x.turns a ∨ nth x.bh i + dM b ⟨bN, to⟩ < nth x.bh a) : g8 b x0 ⟨x.all, x.turns.set a (min (nth x.turns i + 1) (nth x.turns a)), x.bh.set a (min (nth x.bh i + dM b ⟨bN, to⟩) (nth x.bh a))⟩ true i bN (to + 1) := by
  have h2 := h.rs.cap i hi
  have h3 := (h.rs.JW hr hi ho).2.2.2.2
  have h1 := h.rs.QO ha (n := nth x.turns i + 1) (m := nth x.bh i + dM b ⟨bN, to⟩) aE aE hc
  refine ⟨h.rs.low hr hi ho ha e, fun _ => ?_, (fun h => by cases h), fun h => by cases h⟩
  cases hc : ch with
  | true => have := h.less hc; omega
  | false => rw [h.same hc] at h1 ⊢; exact h1
theorem g8.known (h : g8 b x0 x ch i bN to) {a : Nat} (ha : a < x.all.length) (e : nth x.all a = (dX b (nth x.all i) ⟨bN, to⟩).1) (h1 : ¬ nth x.turns i + 1 < nth x.turns a) (h2 : ¬ nth x.bh i + dM b ⟨bN, to⟩ < nth x.bh a) : g8 b x0 x ch i bN (to + 1) := by
 refine ⟨h.rs, h.less, h.same, fun hc j t hj ⟨s1, s2, s3⟩ => ?_⟩
 by_cases c : j = i ∧ t.bN = bN ∧ t.aim = to
 ·obtain ⟨c1, c2, c3⟩ := c
  have et : t = ⟨bN, to⟩ := by cases t; simp only [bX.mk.injEq] at *; exact ⟨c2, c3⟩
  have ex := h.same hc
  rw [et, c1, ← ex]
  exact fun _ => ⟨a, ha, e, by omega, by omega⟩
 exact h.ok hc j t hj ⟨s1, s2, by omega⟩
theorem g8.aO (h : g8 b x0 x ch i bN to) (hto : b.sizes.length ≤ to) : g8 b x0 x ch i (bN + 1) 0 :=
 ⟨h.rs, h.less, h.same, fun hc j t hj ⟨s1, s2, s3⟩ => h.ok hc j t hj ⟨s1, s2, by omega⟩⟩
theorem g8.next (h : g8 b x0 x ch i bN to) (hl : b.aO.length ≤ bN) : g8 b x0 x ch (i + 1) 0 0 :=
 ⟨h.rs, h.less, h.same, fun hc j t hj ⟨s1, s2, s3⟩ => h.ok hc j t hj ⟨s1, s2, by omega⟩⟩
structure nx (b : aT) (x : jq) : Prop where
  rs : RS b x
  closed : ∀ j t, j < x.all.length → EF b x j t
theorem g8.done (h : g8 b x0 x false i 0 0) (hr : b.cQ) (hi : x.all.length ≤ i) : nx b x := by
 have e := h.same rfl
 refine ⟨h.rs, fun j t hj ho => ?_⟩
 obtain ⟨_, _, h3, h4, _⟩ := h.rs.JW hr hj ho
 have := h.ok rfl j t (by rw [← e]; exact hj) ⟨h3, h4, .inl aE⟩
 rw [← e] at this
 exact this ho
theorem nx.least (h : nx b x) : ∀ (l : List bX) (p : List Int), eK b (dL b) l = some p → ∃ a, a < x.all.length ∧ nth x.all a = p ∧ nth x.turns a ≤ l.length ∧ nth x.bh a ≤ fF (dM b) l := by
 refine ju (fun p hp => ?_) fun l t ih p hp => ?_
 ·injection hp with hp
  obtain ⟨⟨m, a1, a2⟩, m', a3, a4⟩ := h.rs.walk 0 h.rs.pos
  have := h.rs.cap 0 h.rs.pos
  exact ⟨0, h.rs.pos, h.rs.start.trans hp, by rw [List.length_nil]; omega, by rw [IT]; omega⟩
 obtain ⟨q, h1, h2, rfl⟩ := BK hp
 obtain ⟨a, a1, a2, a3, a4⟩ := ih q h1
 have hl := h.rs.len _ (cD a1)
 rw [← a2] at h2 ⊢
 rcases Eb hl t with ⟨_, e⟩ | ⟨e, _⟩
 ·obtain ⟨c, c1, c2, c3, c4⟩ := h.closed a t a1 (by rw [e])
  refine ⟨c, c1, by rw [c2, e], ?_, ?_⟩
  ·rw [List.length_append, List.length_singleton]; omega
  rw [e6, jg]; omega
 rw [h2] at e; cases e
theorem nx.count (h : nx b x) (hr : b.cQ) : (x.all.length : Int) = e7 b := by
  have h6 := hr.aO
  obtain ⟨L, h1, h2, h3⟩ := N9 hr
  have hn : (L.map fun q => q.1.take b.aO.length).Nodup := by
    rw [List.nodup_iff_pairwise_ne, List.pairwise_map]
    refine (List.nodup_iff_pairwise_ne.1 h1).imp_of_mem fun {p q} hp hq hne e => hne ?_
    obtain ⟨l, hl⟩ := (h2 p).1 hp
    obtain ⟨l', hl'⟩ := (h2 q).1 hq
    apply Subtype.ext
    rw [← List.take_append_drop b.aO.length p.1, ← List.take_append_drop b.aO.length q.1, e, Ce l hl, Ce l' hl']
  have e1 := iE hn (L := x.all) fun p hp => by
    obtain ⟨q, hq, rfl⟩ := List.mem_map.1 hp
    obtain ⟨l, hl⟩ := (h2 q).1 hq
    obtain ⟨a, a1, a2, _⟩ := h.least l _ (by rw [zZ h6, hl]; rfl)
    have a2 : nth x.all a = q.1.take b.aO.length := a2
    show q.1.take b.aO.length ∈ x.all
    rw [← a2]; exact cD a1
  have e2 := iE h.rs.nodup (L := L.map fun q => q.1.take b.aO.length) fun p hp => by
    obtain ⟨j, hj, rfl⟩ := fP hp
    obtain ⟨⟨l, a1, _⟩, _⟩ := h.rs.walk j hj
    rw [zZ h6] at a1
    cases hq : mR b (bJ b) l with
    | none => rw [hq] at a1; cases a1
    | some q =>
      rw [hq] at a1; injection a1 with a1
      exact List.mem_map.2 ⟨q, (h2 q).2 ⟨l, hq⟩, a1⟩
  rw [List.length_map] at e1 e2
  rw [h3]; omega
theorem Eg (hr : b.cQ) {p : List Int} (hp : p.length = b.aO.length) : gI b p = (List.range p.length).all (NU b p) := by
 unfold gI
 rw [Bool.eq_iff_iff, Bool.not_eq_true', List.any_eq_false, List.all_eq_true]
 have key : ∀ j, j ∈ List.range p.length → (¬ rH b p j = true ↔ NU b p j = true) := fun j hj => by
  have hj := List.mem_range.1 hj
  have ha := hr.aim _ (cD (xs := b.aO) (k := j) aE)
  unfold rH NU
  simp only [Bool.and_eq_true, Bool.not_eq_true', decide_eq_true_eq, decide_eq_false_iff_not, Bool.or_eq_true]
  constructor
  ·intro h
   by_cases c : (nth b.aO j).aim = -1
   ·exact .inl c
   exact .inr (Classical.byContradiction fun e => h ⟨by omega, e⟩)
  rintro (e | e) ⟨h1, h2⟩
  ·omega
  exact h2 e
 exact ⟨fun h j hj => (key j hj).1 (h j hj), fun h j hj => (key j hj).2 (h j hj)⟩
theorem Cs {l : List bX} : ∀ {p q : List Int}, eK b p l = some q → q.length = p.length := by
  induction l with
  | nil => intro p q h; injection h with h; rw [h]
  | cons t l ih =>
    intro p q h
    have h : (if vY b p t = true then none else eK b (p.set t.bN.toNat t.aim) l) = some q := h
    by_cases c : vY b p t = true
    · rw [if_pos c] at h; cases h
    · rw [if_neg c] at h; rw [ih h, List.length_set]
theorem xz (b : aT) : (dL b).length = b.aO.length := by unfold dL; rw [List.length_map]
theorem ji (hr : b.cQ) {l : List bX} {p : List Int} (h : eK b (dL b) l = some p) : ir b l = gI b p := by
 have hp : p.length = b.aO.length := (Cs h).trans (xz b)
 have e : qa b l = (p, true) := by unfold qa; rw [h]
 unfold ir NC
 rw [e, Eg hr hp]; rfl
theorem qc {l : List bX} (h : ir b l = true) : ∃ p, eK b (dL b) l = some p := by
  have h1 := Jh h
  unfold qa at h1
  cases hp : eK b (dL b) l with
  | none => rw [hp] at h1; cases h1
  | some p => exact ⟨p, rfl⟩
structure IZ (b : aT) (x : jq) (v : List Int) (k : Nat) (n : Int) : Prop where
  le : k ≤ x.all.length
  val : (n = -1 ∧ ∀ j, j < k → gI b (nth x.all j) = false) ∨ (0 ≤ n ∧ (∃ j, j < k ∧ gI b (nth x.all j) = true ∧ n = nth v j) ∧ ∀ j, j < k → gI b (nth x.all j) = true → n ≤ nth v j)
variable {v : List Int} {k : Nat} {n : Int}
theorem Qg (b : aT) (x : jq) (v : List Int) : IZ b x v 0 (-1) := ⟨Nat.zero_le _, .inl ⟨rfl, fun j hj => by omega⟩⟩
theorem IZ.yes (h : IZ b x v k n) (hk : k < x.all.length) (hv : 0 ≤ nth v k) (hc : (gI b (nth x.all k) && (decide (n < 0) || decide (nth v k < n))) = true) : IZ b x v (k + 1) (nth v k) := by
 simp only [Bool.and_eq_true, Bool.or_eq_true, decide_eq_true_eq] at hc
 refine ⟨hk, .inr ⟨hv, ⟨k, by omega, hc.1, rfl⟩, fun j hj hm => ?_⟩⟩
 by_cases e : j = k
 ·rw [e]; exact Int.le_refl _
 rcases h.val with ⟨_, h2⟩ | ⟨h1, _, h3⟩
 ·rw [h2 j aE] at hm; cases hm
 have := h3 j aE hm
 omega
theorem IZ.no (h : IZ b x v k n) (hk : k < x.all.length) (hc : (gI b (nth x.all k) && (decide (n < 0) || decide (nth v k < n))) = false) : IZ b x v (k + 1) n := by
  refine ⟨hk, ?_⟩
  rcases h.val with ⟨h1, h2⟩ | ⟨h1, ⟨j0, h2, h3, h4⟩, h5⟩
  · refine .inl ⟨h1, fun j hj => ?_⟩
    by_cases e : j = k
    · rw [e]
      cases hm : gI b (nth x.all k) with
      | false => rfl
      | true => rw [hm, h1] at hc; cases hc
    · exact h2 j aE
  · refine .inr ⟨h1, ⟨j0, by omega, h3, h4⟩, fun j hj hm => ?_⟩
    by_cases e : j = k
    · rw [e] at hm ⊢
      rw [hm, Bool.true_and, Bool.or_eq_false_iff, decide_eq_false_iff_not, decide_eq_false_iff_not] at hc
      omega
    · exact h5 j aE hm
def pz (e n : Int) : Int := if e = 0 then n else -1
theorem nx.turns (h : nx b x) (hr : b.cQ) (hm : IZ b x x.turns x.all.length n) : n = pz (dY b dh) (eA b dh) := by
 have hc := cheap hr (jy b)
 unfold pz
 rcases hc.err with e | e
 ·rw [if_pos e]
  obtain ⟨c1, c2, c3⟩ := hc.yes e
  rw [nh] at c2
  obtain ⟨p, hp⟩ := qc c1
  obtain ⟨a, a1, a2, a3, _⟩ := h.least _ _ hp
  have hmade : gI b (nth x.all a) = true := by rw [a2, ← ji hr hp]; exact c1
  rcases hm.val with ⟨_, m2⟩ | ⟨_, ⟨j, m2, m3, m4⟩, m5⟩
  ·rw [m2 a a1] at hmade; cases hmade
  obtain ⟨⟨l, w1, w2⟩, _⟩ := h.rs.walk j m2
  have hr1 : ir b l = true := by rw [ji hr w1]; exact m3
  have k1 := c3 l hr1
  have k2 := m5 a a1 hmade
  rw [nh] at k1
  omega
 rw [if_neg CL]
 rcases hm.val with ⟨m1, _⟩ | ⟨_, ⟨j, m2, m3, _⟩, _⟩
 ·exact m1
 obtain ⟨⟨l, w1, _⟩, _⟩ := h.rs.walk j m2
 have := (hc.no e).2.2 l
 rw [ji hr w1, m3] at this; cases this
theorem nx.bh (h : nx b x) (hr : b.cQ) (hm : IZ b x x.bh x.all.length n) : n = pz (dY b dh) (eA b (dM b)) := by
 have hc := cheap hr (qF hr)
 have he := tZ hc (cheap hr (jy b))
 rw [he] at hc
 unfold pz
 rcases hc.err with e | e
 ·rw [if_pos e]
  obtain ⟨c1, c2, c3⟩ := hc.yes e
  obtain ⟨p, hp⟩ := qc c1
  obtain ⟨a, a1, a2, _, a3⟩ := h.least _ _ hp
  have hmade : gI b (nth x.all a) = true := by rw [a2, ← ji hr hp]; exact c1
  rcases hm.val with ⟨_, m2⟩ | ⟨_, ⟨j, m2, m3, m4⟩, m5⟩
  ·rw [m2 a a1] at hmade; cases hmade
  obtain ⟨_, l, w1, w2⟩ := h.rs.walk j m2
  have hr1 : ir b l = true := by rw [ji hr w1]; exact m3
  have k1 := c3 l hr1
  have k2 := m5 a a1 hmade
  omega
 rw [if_neg CL]
 rcases hm.val with ⟨m1, _⟩ | ⟨_, ⟨j, m2, m3, _⟩, _⟩
 ·exact m1
 obtain ⟨⟨l, w1, _⟩, _⟩ := h.rs.walk j m2
 have := (hc.no e).2.2 l
 rw [ji hr w1, m3] at this; cases this
end Go.Proofs.YtpnndljmhpepgaaGreat
namespace Go.Proofs.YtpnndljmhpepgaaGreat
open Go Go.T
def iM (s : Nat) : Nat → Int
  | 0 => 1
  | k + 1 => iM s k * ((s : Int) - (k : Int))
theorem wA {s : Nat} : ∀ k, s < k → iM s k = 0
  | 0, h => by omega
  | k + 1, h => by
    show iM s k * ((s : Int) - (k : Int)) = 0
    by_cases e : s = k
    · subst e; rw [Int.sub_self, Int.mul_zero]
    · rw [wA k aE, Int.zero_mul]
def nk (s : Nat) : List Int := (List.range s).map fun n : Nat => (n : Int)
theorem tC {s : Nat} {x : Int} : x ∈ nk s ↔ 0 ≤ x ∧ x < s := by
 unfold nk
 rw [List.mem_map]
 constructor
 ·rintro ⟨n, hn, rfl⟩; have := List.mem_range.1 hn; omega
 rintro ⟨h1, h2⟩; exact ⟨x.toNat, List.mem_range.2 aE, by omega⟩
theorem FG (s : Nat) : (nk s).length = s := by unfold nk; rw [List.length_map, List.length_range]
theorem CZ (s : Nat) : (nk s).Nodup := by
 unfold nk
 rw [List.nodup_iff_pairwise_ne, List.pairwise_map]
 exact (List.nodup_iff_pairwise_ne.1 List.nodup_range).imp fun h e => h aE
def vI (s : Nat) : Nat → List (List Int)
  | 0 => [[]]
  | k + 1 => (vI s k).flatMap fun q => ((nk s).filter fun x => decide (x ∉ q)).map fun x => q ++ [x]
theorem sV {s : Nat} : ∀ k (p : List Int), p ∈ vI s k ↔ p.length = k ∧ p.Nodup ∧ ∀ x ∈ p, 0 ≤ x ∧ x < s
  | 0, p => by
    show p ∈ [[]] ↔ _
    rw [List.mem_singleton]
    constructor
    · rintro rfl; exact ⟨rfl, List.nodup_nil, fun _ h => by cases h⟩
    · rintro ⟨h, _⟩; exact List.length_eq_zero_iff.1 h
  | k + 1, p => by
    show p ∈ (vI s k).flatMap _ ↔ _
    rw [List.mem_flatMap]
    constructor
    · rintro ⟨q, hq, hp⟩
      obtain ⟨x, hx, rfl⟩ := List.mem_map.1 hp
      obtain ⟨h1, h2, h3⟩ := (sV k q).1 hq
      rw [List.mem_filter, tC, decide_eq_true_eq] at hx
      refine ⟨by rw [List.length_append, List.length_singleton, h1], ?_, fun y hy => ?_⟩
      · rw [List.nodup_append]
        exact ⟨h2, by simp, fun y hy z hz e => hx.2 (by rw [List.mem_singleton.1 hz] at e; rw [← e]; exact hy)⟩
      · rcases List.mem_append.1 hy with hy | hy
        · exact h3 y hy
        · rw [List.mem_singleton.1 hy]; exact hx.1
    · rintro ⟨h1, h2, h3⟩
      have hp : p.dropLast ++ [p.getLast (by rintro rfl; cases h1)] = p := List.dropLast_concat_getLast _
      rw [← hp] at h2 h3
      rw [List.nodup_append] at h2
      refine ⟨p.dropLast, (sV k _).2 ⟨by rw [List.length_dropLast, h1]; rfl, h2.1, fun x hx => h3 x (List.mem_append_left _ hx)⟩, ?_⟩
      rw [List.mem_map]
      refine ⟨p.getLast (by rintro rfl; cases h1), ?_, hp⟩
      rw [List.mem_filter, tC, decide_eq_true_eq]
      exact ⟨h3 _ (List.mem_append_right _ (List.mem_singleton.2 rfl)), fun hm => h2.2.2 _ hm _ (List.mem_singleton.2 rfl) rfl⟩
theorem KF {s k : Nat} {q : List Int} (h : q ∈ vI s k) : ((nk s).filter fun x => decide (x ∉ q)).length + k ≤ s := by
 obtain ⟨h1, h2, h3⟩ := (sV k q).1 h
 have e : (((nk s).filter fun x => decide (x ∉ q)) ++ q).length ≤ (nk s).length := by
  refine iE ?_ fun x hx => ?_
  ·rw [List.nodup_append]
   refine ⟨(CZ s).filter _, h2, fun x hx y hy e => ?_⟩
   rw [List.mem_filter, decide_eq_true_eq] at hx
   exact hx.2 (e ▸ hy)
  rcases List.mem_append.1 hx with hx | hx
  ·exact (List.mem_filter.1 hx).1
  exact tC.2 (h3 x hx)
 rw [List.length_append, FG, h1] at e
 exact e
theorem xN {α β : Type} {f : α → List β} {d : Nat} : ∀ {l : List α}, (∀ x ∈ l, (f x).length ≤ d) → (l.flatMap f).length ≤ l.length * d
  | [], _ => by simp
  | x :: l, h => by
    rw [List.flatMap_cons, List.length_append, List.length_cons, Nat.succ_mul]
    have h1 := h x List.mem_cons_self
    have h2 := xN (f := f) (d := d) (l := l) fun y hy => h y (List.mem_cons_of_mem _ hy)
    omega
theorem G7 {s : Nat} : ∀ k, ((vI s k).length : Int) ≤ iM s k
  | 0 => by show ((1 : Nat) : Int) ≤ 1; decide
  | k + 1 => by
    have h1 := G7 (s := s) k
    show (((vI s k).flatMap _).length : Int) ≤ iM s k * ((s : Int) - (k : Int))
    have h2 : ((vI s k).flatMap fun q => ((nk s).filter fun x => decide (x ∉ q)).map fun x => q ++ [x]).length ≤ (vI s k).length * (s - k) := xN fun q hq => by
      rw [List.length_map]
      have := KF hq
      omega
    by_cases c : s < k
    · rw [wA k c, Int.zero_mul]
      rw [wA k c] at h1
      have : (vI s k).length = 0 := by omega
      rw [this, Nat.zero_mul] at h2
      omega
    · have e : (((vI s k).length * (s - k) : Nat) : Int) = ((vI s k).length : Int) * ((s : Int) - (k : Int)) := by
        rw [Int.natCast_mul, Int.natCast_sub aE]
      have h3 : ((vI s k).length : Int) * ((s : Int) - (k : Int)) ≤ iM s k * ((s : Int) - (k : Int)) := Int.mul_le_mul_of_nonneg_right h1 aE
      omega
def q6 (b : aT) : Int := iM b.sizes.length b.aO.length
variable {b : aT}
theorem IM {p : List Int} {i : Nat} {a : Int} (h : p.Nodup) (ha : a ∉ p) : (p.set i a).Nodup := by
 rw [List.nodup_iff_pairwise_ne, List.pairwise_iff_getElem] at h ⊢
 intro x y hx hy hxy e
 rw [List.length_set] at hx hy
 rw [List.getElem_set, List.getElem_set] at e
 split at e
 ·split at e
  ·omega
  exact ha (e ▸ List.getElem_mem _)
 split at e
 ·exact ha (e ▸ List.getElem_mem _)
 exact h x y hx hy hxy e
theorem Ms (hr : b.cQ) : ∀ (l : List bX) (p : List Int), eK b (dL b) l = some p → p ∈ vI b.sizes.length b.aO.length := by
 refine ju (fun p hp => ?_) fun l t ih p hp => ?_
 ·injection hp with hp
  rw [← hp, sV]
  refine ⟨xz b, Ir hr, fun x hx => ?_⟩
  obtain ⟨y, hy, rfl⟩ := List.mem_map.1 hx
  exact hr.inn y hy
 obtain ⟨q, h1, h2, rfl⟩ := BK hp
 obtain ⟨g1, g2, g3⟩ := (sV _ _).1 (ih q h1)
 obtain ⟨_, a2, a3, _⟩ := jZ.1 h2
 rw [sV]
 refine ⟨by rw [List.length_set]; exact g1, IM g2 a3, fun x hx => ?_⟩
 rcases List.mem_or_eq_of_mem_set hx with hx | hx
 ·exact g3 x hx
 rw [hx]; exact a2
theorem Jw {l : List bX} {p : List Int} (h : eK b (dL b) l = some p) (k : Nat) : ∃ q, eK b (dL b) (l.take k) = some q ∧ eK b q (l.drop k) = some p := by
  rw [← List.take_append_drop k l, jh] at h
  cases hq : eK b (dL b) (l.take k) with
  | none => rw [hq] at h; cases h
  | some q => rw [hq] at h; exact ⟨q, rfl, h⟩
theorem DU (hr : b.cQ) : ∀ (l : List bX) (p q : List Int), p.length = b.aO.length → eK b p l = some q → (l.length : Int) ≤ fF (dM b) l
  | [], _, _, _, _ => Int.le_refl _
  | t :: l, p, q, hp, h => by
    have h : (if vY b p t = true then none else eK b (p.set t.bN.toNat t.aim) l) = some q := h
    by_cases c : vY b p t = true
    · rw [if_pos c] at h; cases h
    · rw [if_neg c] at h
      have h1 := DU hr l _ q (by rw [List.length_set]; exact hp) h
      have c : vY b p t = false := by cases e : vY b p t with | false => rfl | true => exact absurd e c
      have h2 := (qF hr) t (by have := (jZ.1 c).1; omega) (by have := (jZ.1 c).1; omega)
      show ((t :: l).length : Int) ≤ fF (dM b) ([t] ++ l)
      rw [e6, jg, List.length_cons]
      omega
theorem AL (hr : b.cQ) {c : bX → Int} {e : Int} {l : List bX} {n : Int} (hc : sq b c e l n) (he : e = 0) (hpos : ∀ (l : List bX) (p q : List Int), p.length = b.aO.length → eK b p l = some q → (l.length : Int) ≤ fF c l) : ((l.length + 1 : Nat) : Int) ≤ q6 b := by
  obtain ⟨h1, h2, h3⟩ := hc.yes he
  obtain ⟨p, hp⟩ := qc h1
  have hat : ∀ k, ∃ q, eK b (dL b) (l.take k) = some q ∧ eK b q (l.drop k) = some p := Jw hp
  let f : Nat → List Int := fun k => (hat k).choose
  have hf : ∀ k, eK b (dL b) (l.take k) = some (f k) ∧ eK b (f k) (l.drop k) = some p := fun k => (hat k).choose_spec
  have hne : ∀ i j, i < j → j ≤ l.length → f i ≠ f j := fun i j hij hj ee => by
    have g1 : eK b (dL b) (l.take i ++ l.drop j) = some p := by
      rw [jh, (hf i).1]
      show eK b (f i) (l.drop j) = some p
      rw [ee]; exact (hf j).2
    have g2 : ir b (l.take i ++ l.drop j) = true := by rw [ji hr g1, ← ji hr hp]; exact h1
    have g3 := h3 _ g2
    have e1 : l = l.take i ++ ((l.drop i).take (j - i) ++ l.drop j) := by
      conv => lhs; rw [← List.take_append_drop i l, ← List.take_append_drop (j - i) (l.drop i), List.drop_drop]
      rw [show i + (j - i) = j by omega]
    obtain ⟨q, g4, _⟩ : ∃ q, eK b (f i) ((l.drop i).take (j - i)) = some q ∧ True := by
      have := (hf i).2
      rw [← List.take_append_drop (j - i) (l.drop i), jh] at this
      cases hq : eK b (f i) ((l.drop i).take (j - i)) with
      | none => rw [hq] at this; cases this
      | some q => exact ⟨q, rfl, trivial⟩
    have g5 := hpos _ _ _ ((Cs (hf i).1).trans (xz b)) g4
    have e2 : fF c l = fF c (l.take i) + (fF c ((l.drop i).take (j - i)) + fF c (l.drop j)) := by
      conv => lhs; rw [e1, e6, e6]
    rw [e6] at g3
    have e3 : ((l.drop i).take (j - i)).length = j - i := by rw [List.length_take, List.length_drop]; omega
    rw [e3] at g5
    omega
  have hn : ((List.range (l.length + 1)).map f).Nodup := by
    rw [List.nodup_iff_pairwise_ne, List.pairwise_map, List.pairwise_iff_getElem]
    intro i j hi hj hij
    rw [List.length_range] at hi hj
    rw [List.getElem_range, List.getElem_range]
    exact hne i j hij aE
  have e4 := iE hn (L := vI b.sizes.length b.aO.length) fun q hq => by
    obtain ⟨k, _, rfl⟩ := List.mem_map.1 hq
    exact Ms hr _ _ (hf k).1
  rw [List.length_map, List.length_range] at e4
  have := G7 (s := b.sizes.length) b.aO.length
  unfold q6
  omega
theorem JC (hr : b.cQ) {e : Int} {l : List bX} {n : Int} (hc : sq b (dM b) e l n) (he : e = 0) : ((l.length + 1 : Nat) : Int) ≤ q6 b := AL hr hc he (DU hr)
theorem Ht (hr : b.cQ) {e : Int} {l : List bX} {n : Int} (hc : sq b dh e l n) (he : e = 0) : ((l.length + 1 : Nat) : Int) ≤ q6 b := AL hr hc he fun l _ _ _ _ => by rw [nh]; exact Int.le_refl _
theorem w9 (hr : b.cQ) {l : List bX} (h : ir b l = true) (hl : l.length ≤ 6000) : ∃ p back, gW b l = (p, back, fF (dM b) l, 0) ∧ gI b p = true ∧ p.length = b.aO.length := by
  have h6 := hr.aO
  obtain ⟨p, hp⟩ := qc h
  have hm : gI b p = true := by rw [← ji hr hp]; exact h
  have hpl := (Cs hp).trans (xz b)
  rw [zZ h6] at hp
  cases hq : mR b (bJ b) l with
  | none => rw [hq] at hp; cases hp
  | some q =>
    rw [hq] at hp; injection hp with hp
    have hd := Em h6 l [] hq
    rw [Im h6] at hd
    refine ⟨p, ([] ++ HL (bJ b) l).reverse, ?_, hm, hpl⟩
    have e1 : dL (qz b q) = p := by
      rw [← hp]
      unfold dL qz
      refine mS (by rw [List.length_map, List.length_map, List.length_range, List.length_take, q.2]; omega) fun i hi => ?_
      simp only [List.length_map, List.length_range] at hi
      rw [rV hi, dS zw]
      simp
    unfold gW
    rw [if_neg aE, hd, if_pos rfl, e1]
end Go.Proofs.YtpnndljmhpepgaaGreat
namespace Go.T
open Go Go.RowKit
def RJ {α : Type} (S : α → Prop) (T : α → Ty) (w : World) (M : bI) (v : Value) : Prop := ∃ x, S x ∧ (T x).den w M v
def Ty.Q1 {α : Type} (S : α → Prop) (T : α → Ty) (h : ∀ x, (T x).deps = [] ∧ (T x).cdeps = []) : Ty :=
  { den := RJ S T, mono := fun le _ _ ⟨x, hx, hd⟩ => ⟨x, hx, (T x).mono le (by rw [(h x).1]; intro _ h; cases h) (by rw [(h x).2]; intro _ h; cases h) hd⟩ }
section
variable {P : Program} {fr : Fr} {A : As} {c : Code} {Q : Exit → Act → World → Prop}
end
section
variable {P : Program} {A : As} {fn : Func} {n : Nat} {w0 : World} {M0 : bI}
theorem P7 {α : Type} {S : α → Prop} {r1 r2 r3 : α → Ty} {h : ∀ x, (Ty.iF [r1 x, r2 x, r3 x]).deps = [] ∧ (Ty.iF [r1 x, r2 x, r3 x]).cdeps = []} (x : α) (hS : S x) {t1 t2 t3 : Nat} (hr : fn.results = #[.tmp t1, .tmp t2, .tmp t3]) (h1 : Nat.blt t1 n = true) (h2 : Nat.blt t2 n = true) (h3 : Nat.blt t3 n = true) (hs1 : fJ (A.slots t1) (r1 x)) (hs2 : fJ (A.slots t2) (r2 x)) (hs3 : fJ (A.slots t3) (r3 x)) :
 dG ⟨n, w0, M0, [], .plain⟩ A (bodyPost P fn (kX w0 M0 (Ty.Q1 S (fun x => Ty.iF [r1 x, r2 x, r3 x]) h)) .ret) := by
 intro a w ⟨M, ok, hsl, _⟩
 exact ⟨ok.eH bB, .tuple #[a.tmps.getD t1 undef, a.tmps.getD t2 undef, a.tmps.getD t3 undef], by simp [results, hr], _, pg M, rfl, oT ok.wf, lR (fr := ⟨n, w0, M0, [], .plain⟩) (fun _ h => h) ok.base, x, hS, _, rfl, hs1 _ _ _ ok.wf (hsl t1 y9), hs2 _ _ _ ok.wf (hsl t2 tv), hs3 _ _ _ ok.wf (hsl t3 B8), trivial⟩
end
end Go.T
namespace Go.Proofs.YtpnndljmhpepgaaGreat
open Go Go.T
theorem Gi {α : Type} [Inhabited α] {p : α → Bool} {l : List α} (h : 0 ≤ fidx p l) : (fidx p l).toNat < l.length ∧ p (nth l (fidx p l).toNat) = true := by
  unfold fidx at *
  cases e : l.findIdx? p with
  | none => rw [e] at h; exact absurd h aB
  | some i =>
    obtain ⟨h1, h2, _⟩ := List.findIdx?_eq_some_iff_getElem.1 e
    show (Int.toNat (i : Int)) < _ ∧ p (nth l (Int.toNat (i : Int))) = true
    rw [Int.toNat_natCast, dS h1]; exact ⟨h1, h2⟩
variable {b : aT}
abbrev aT.at (b : aT) (i : Int) : oF := nth b.aO i.toNat
def aT.is (b : aT) (i : Int) : Prop := 0 ≤ i ∧ i < b.aO.length
theorem LG {i : Int} (h : 0 ≤ follows b i) : b.is (follows b i) ∧ (b.at (follows b i)).inn = (b.at i).aim := by
 have h1 := Gi (p := fun l : oF => decide (l.inn = (nth b.aO i.toNat).aim)) (l := b.aO) h
 have h2 := lP b i
 exact ⟨⟨h, h2.2⟩, of_decide_eq_true h1.2⟩
theorem QG (hr : b.cQ) {i : Int} (hi : b.is i) : 0 ≤ (b.at i).inn ∧ (b.at i).inn < b.sizes.length := hr.inn _ (cD (by unfold aT.is at hi; omega))
theorem Nx (hr : b.cQ) {i : Int} (h : 0 ≤ follows b i) : (b.at i).aim ≠ -1 := by
 obtain ⟨h1, h2⟩ := LG h
 have := QG hr h1
 omega
structure Ring (b : aT) (i : Int) (l : List Int) : Prop where
  two : 2 ≤ l.length
  head : nth l 0 = i
  rng : ∀ x ∈ l, i ≤ x ∧ x < b.aO.length
  zero : 0 ≤ i
  fol : ∀ j, j + 1 < l.length → follows b (nth l j) = nth l (j + 1)
  last : follows b (nth l (l.length - 1)) = i
  nodup : l.Nodup
structure Path (b : aT) (i : Int) (l : List Int) : Prop where
  pos : 1 ≤ l.length
  head : nth l 0 = i
  is : b.is i
  up : ∀ j, 1 ≤ j → j < l.length → i < nth l j ∧ nth l j < b.aO.length
  fol : ∀ j, j + 1 < l.length → follows b (nth l j) = nth l (j + 1)
theorem Path.at_ {i : Int} {l : List Int} (h : Path b i l) {j : Nat} (hj : j < l.length) : i ≤ nth l j ∧ b.is (nth l j) := by
  have h1 := h.is
  cases j with
  | zero => rw [h.head]; exact ⟨Int.le_refl _, h1⟩
  | succ j =>
    have := h.up (j + 1) aE hj
    unfold aT.is at *; omega
theorem Ring.at_ {i : Int} {l : List Int} (h : Ring b i l) {j : Nat} (hj : j < l.length) : i ≤ nth l j ∧ b.is (nth l j) := by
 have h1 := h.rng _ (cD hj)
 have h2 := h.zero
 exact ⟨h1.1, by unfold aT.is; omega⟩
theorem P6 {l : List Int} (hn : l.Nodup) (h : ∀ x ∈ l, b.is x) : l.length ≤ b.aO.length := by
 have := iE hn (L := (List.range b.aO.length).map fun (k : Nat) => (k : Int)) fun x hx => by
  have := h x hx
  unfold aT.is at this
  exact List.mem_map.2 ⟨x.toNat, List.mem_range.2 aE, by omega⟩
 rwa [List.length_map, List.length_range] at this
theorem Ring.len {i : Int} {l : List Int} (h : Ring b i l) : l.length ≤ b.aO.length := P6 h.nodup fun x hx => by
 have h1 := h.rng x hx
 have h2 := h.zero
 unfold aT.is; omega
theorem Ring.next {i : Int} {l : List Int} (h : Ring b i l) {x : Int} (hx : x ∈ l) : follows b x ∈ l := by
 obtain ⟨j, hj, rfl⟩ := fP hx
 by_cases c : j + 1 < l.length
 ·rw [h.fol j c]; exact cD c
 rw [show j = l.length - 1 by omega, h.last, ← h.head]; exact cD (by have := h.two; omega)
theorem Ring.reach {i : Int} {l : List Int} (h : Ring b i l) {C : Int → Prop} (hC : ∀ x, C x → C (follows b x)) {x : Int} (hx : x ∈ l) (hc : C x) : C i := by
  obtain ⟨j, hj, rfl⟩ := fP hx
  have key : ∀ m j, m = l.length - j → j < l.length → C (nth l j) → C i := by
    intro m
    induction m with
    | zero => intro j hm hj; omega
    | succ m ih =>
      intro j hm hj hc
      have h1 := hC _ hc
      by_cases c : j + 1 < l.length
      · rw [h.fol j c] at h1; exact ih (j + 1) aE c h1
      · rw [show j = l.length - 1 by omega, h.last] at h1; exact h1
  exact key _ j rfl hj hc
theorem Ring.same {i k : Int} {l r : List Int} (h : Ring b i l) (h' : Ring b k r) {x : Int} (hx : x ∈ l) (hx' : x ∈ r) : i = k := by
 have h1 := h.reach (C := fun y => y ∈ r) (fun y hy => h'.next hy) hx hx'
 have h2 := h'.reach (C := fun y => y ∈ l) (fun y hy => h.next hy) hx' hx
 have h3 := h'.rng _ h1
 have h4 := h.rng _ h2
 omega
theorem Ring.bN {i : Int} {l : List Int} (hr : b.cQ) (h : Ring b i l) {x : Int} (hx : x ∈ l) : b.is x ∧ b.is (follows b x) ∧ (b.at (follows b x)).inn = (b.at x).aim ∧ (b.at x).aim ≠ -1 ∧ follows b x ≠ x := by
 have hz := h.zero
 have is : ∀ y ∈ l, b.is y := fun y hy => by have := h.rng y hy; unfold aT.is; omega
 have h1 := is _ (h.next hx)
 refine ⟨is x hx, h1, (LG h1.1).2, Nx hr h1.1, fun e => ?_⟩
 obtain ⟨j, hj, rfl⟩ := fP hx
 have two := h.two
 by_cases c : j + 1 < l.length
 ·rw [h.fol j c] at e
  have := sL h.nodup c hj e; omega
 rw [show j = l.length - 1 by omega, h.last, ← h.head] at e
 have := sL h.nodup aE aE e; omega
inductive Pg {α β : Type} (P : α → β → Prop) : List α → List β → Prop
  | nil : Pg P [] []
  | cons {a : α} {c : β} {l : List α} {r : List β} : P a c → Pg P l r → Pg P (a :: l) (c :: r)
end Go.Proofs.YtpnndljmhpepgaaGreat
namespace Go.Proofs.YtpnndljmhpepgaaGreat
open Go Go.T
set_option maxRecDepth 100000
set_option maxHeartbeats 4000000
theorem Ep {s : Nat} (h : s ≤ 7) : ∀ k, k ≤ 6 → (iM s k).natAbs ≤ 7 ^ k
  | 0, _ => Nat.le_refl _
  | k + 1, hk => by
    have h1 := Ep h k aE
    show (iM s k * ((s : Int) - (k : Int))).natAbs ≤ _
    rw [Int.natAbs_mul, Nat.pow_succ]
    exact Nat.mul_le_mul h1 aE
theorem yu {s k : Nat} (h : s ≤ 7) (hk : k ≤ 6) : -117649 ≤ iM s k ∧ iM s k ≤ 117649 := by
 have h1 := Ep h k hk
 have h2 : 7 ^ k ≤ 7 ^ 6 := Nat.pow_le_pow_right aB hk
 have h3 : 7 ^ 6 = 117649 := by decide
 omega
theorem IA {s k : Nat} (h : s ≤ 7) (hk : k < 6) : -117649 ≤ iM s k * ((s : Int) - (k : Int)) ∧ iM s k * ((s : Int) - (k : Int)) ≤ 117649 := yu h (k := k + 1) hk
def rE (b : aT) : Bool := jr b || (decide (bH b = 0) && decide (q6 b > 150))
def gP (l : List (List Int)) (p : List Int) : Int := fidx (fun q => decide (q = p)) l
theorem EA {l : List (List Int)} {p : List Int} (h : gP l p < 0) : p ∉ l := fun hm => by
 have h1 : decide (0 ≤ gP l p) = l.any fun q => decide (q = p) := uk _ _
 have h2 : (l.any fun q => decide (q = p)) = true := List.any_eq_true.2 ⟨p, hm, decide_eq_true rfl⟩
 rw [h2, decide_eq_true_eq] at h1
 omega
theorem Dt {l : List (List Int)} {p : List Int} (h : ¬ gP l p < 0) : (0 ≤ gP l p ∧ (gP l p).toNat < l.length) ∧ nth l (gP l p).toNat = p := by
 have h1 := Gi (p := fun q => decide (q = p)) (l := l) (show 0 ≤ gP l p by omega)
 exact ⟨⟨by omega, h1.1⟩, of_decide_eq_true h1.2⟩
theorem g8.done' {b : aT} {x0 x : jq} {ch : Bool} {i : Nat} (h : g8 b x0 x ch i 0 0) (hc : ch = false) (hr : b.cQ) (hi : x.all.length ≤ i) : nx b x := by
 subst hc; exact h.done hr hi
theorem QJ {m m0 : Nat} {ch : Bool} (h1 : ch = true → m < m0) (h2 : ch = false → m = m0) : 2 * m + (if ch = true then 1 else 0) < 2 * m0 + 1 := by
  cases ch with
  | true => have := h1 rfl; simp; omega
  | false => have := h2 rfl; simp; omega
theorem g8.mu {b : aT} {x0 x : jq} {c0 ch : Bool} {i : Nat} (h : g8 b x0 x ch i 0 0) (h0 : c0 = true) : 2 * HJ x + (if ch = true then 1 else 0) < 2 * HJ x0 + (if c0 = true then 1 else 0) := by
 rw [if_pos h0]
 exact QJ h.less fun e => congrArg HJ (h.same e)
attribute [local irreducible] dX gI iM HJ
attribute [local irreducible] iL fu pJ r9 jY jQ jL jI jT rF jJ q5 dy g6 q2 g7 r8 nth fS dG ay dO bodyPost Exit.then Exit.inBlock Code.wp Code.wpIn fy rS rB rq rL jU r5 fG iT qd cT cX bodyPostM eE
theorem Mw (b : aT) (hr : b.cQ) : dO Tryz.prog 28 [cU b] (Ty.int .i64 (q6 b)) := by
 refine az Tryz.func28 ν aB Tryz.ntmps28 aP fun w0 M0 => ?_
 have hs1 := hr.iJ
 have hs2 := hr.aO
 refine aF (aA (bF ν (bS ν (aD (aC (aF (aA (bS ν (aD (aC (aF (aF (aA (bS ν (aD (aC (aV ?_)))))))))))))))))
 refine bf (fun (k : {k : Nat // k ≤ b.aO.length}) => live [(1, Ty.pp (bL b)), (3, Ty.int .i64 (iM b.sizes.length k.1)), (4, Ty.int .i64 (k.1 : Nat))] []) (fun k => b.aO.length - k.1) (⟨0, by omega⟩) ?_ fun k => ?_
 ·(refine dw.mk' ?_ ?_ <;> (repeat' (first | exact aQ | exact aR | refine aG ?_ (Ty.bC _) | refine aG ?_ (Ty.aM _) | refine aG ?_ ?_)))
  all_goals exact Ty.bO (by unfold iM; rfl)
 have hk := k.2
 have hm := yu hs1.2 (k := k.1) aE
 refine aF (aF (aA (bA ν (aN ν ν ν ν ν aB (aJ ν ν ν ν (bU ν ν ν (ah ν ν ν (aD (aC ?_)))))))))
 refine aU ν (fun hc1 => ?_) (fun hc1 => ?_)
 ·refine aX (aC (aF (aV ?_)))
  have hm2 := IA hs1.2 (k := k.1) aE
  refine aA (bA ν (aN ν ν ν ν ν aB (aJ ν ν ν ν (bU ν ν ν (bA ν (ga ν ν aE aE (L4 ν ν aE aE (bS ν (aD (bE (aC (aA (bA ν (bY ν ν aE aE (bS ν (aD ?_))))))))))))))))
  refine bG (⟨k.1 + 1, by omega⟩) ?_ ko
  (refine dw.mk' ?_ ?_ <;> (repeat' (first | exact aQ | exact aR | refine aG ?_ (Ty.bC _) | refine aG ?_ (Ty.aM _) | refine aG ?_ ?_)))
  all_goals exact Ty.bO (by rw [iM])
 refine bQ (aI (aI (aS ν (aC (aF (aA (bA ν (bS ν (aD (aC (au (bg ν ν ?_))))))))))))
 all_goals exact av rfl rfl (congrArg (fun n => Ty.int .i64 (iM b.sizes.length n)) (show k.1 = b.aO.length by have := k.2; omega))
theorem Mo (a b : List Int) (h : a.length = b.length) : dO Tryz.prog 92 [Ty.sl cL a, Ty.sl cL b] (Ty.bool (decide (a = b))) := by
 refine az Tryz.func92 ν aB Tryz.ntmps92 aP fun w0 M0 => ?_
 refine fV (s := 0) ν ν fY fun ha => ?_
 refine aF (aA (dN ν (aD (aC (aF (aF (aA (bS ν (aD (aC (aV ?_)))))))))))
 refine bf (fun (k : {k : Nat // a.take k = b.take k}) => live [(0, Ty.sl cL a), (1, Ty.sl cL b), (5, Ty.int .i64 (k.1 : Nat))] []) (fun k => a.length - k.1) (⟨0, by simp⟩) ?_ fun k => ?_
 ·exact bt
 refine aF (aF (aA (bA ν (cM ν (bU ν ν ν (ah ν ν ν (aD (aC ?_))))))))
 refine aU ν (fun hc1 => ?_) (fun hc1 => ?_)
 ·refine aX (aC (aF (aV (aF (cH mixed ν (cM ν (bA ν (af ν ν ν ν ν ν aE (aJ ν ν ν ν (cM ν (bA ν (af ν ν ν ν ν ν aE (aJ ν ν ν ν (ah ν ν ν (aD ?_)))))))))))))))
  refine ⟨by kernel_rfl, ?_⟩
  refine aC ?_
  refine bw ν (fun hc2 => ?_) (fun hc2 => ?_)
  ·refine aF (aA (dN ν (aD (aC (au (aZ (aK (aK (aZ (aK (bg ν ν ?_)))))))))))
   exact av rfl rfl (congrArg Ty.bool (by rw [eq_comm, decide_eq_false_iff_not]; exact mg (k := k.1) hc2))
  refine aX (bE (aC (aA (bA ν (bY ν ν aE aE (bS ν (aD ?_)))))))
  refine bG (⟨k.1 + 1, by have e : nth a k.1 = nth b k.1 := hc2; rw [cg aE, cg aE, k.2, e]⟩) ?_ zQ
  exact bt
 refine bQ (aI (aI (aS ν (aC (aF (aA (dN ν (aD (aC (au (bg ν ν ?_)))))))))))
 exact av rfl rfl (congrArg Ty.bool zB)
theorem Dg (l : List (List Int)) (p : List Int) (h : ∀ q ∈ l, q.length = p.length) : dO Tryz.prog 41 [Ty.sl cY l, Ty.sl cL p] (Ty.int .i64 (gP l p)) := by
 refine az Tryz.func41 ν aB Tryz.ntmps41 aP fun w0 M0 => ?_
 refine fV (s := 0) ν ν fY fun hl => ?_
 refine aF (aA (bS ν (aD (aC (aF (aF (aA (bS ν (aD (aC (aV ?_)))))))))))
 refine bf (fun (k : {k : Nat // ∀ q ∈ l.take k, decide (q = p) = false}) => live [(0, Ty.sl cY l), (1, Ty.sl cL p), (5, Ty.int .i64 (k.1 : Nat))] []) (fun k => l.length - k.1) (⟨0, by simp⟩) ?_ fun k => ?_
 ·exact bt
 refine aF (aF (aA (bA ν (cM ν (bU ν ν ν (ah ν ν ν (aD (aC ?_))))))))
 refine aU ν (fun hc1 => ?_) (fun hc1 => ?_)
 ·refine aX (aC (aF (aV (aF (aA (cM ν (bA ν (af ν ν ν ν ν ν aE (aJ ν ν ν ν (cM ν (aa (Mo (nth l k.1) p (h _ (cD aE))) ν ν ν ν ν (aD (aC ?_)))))))))))))
  refine aU ν (fun hc2 => ?_) (fun hc2 => ?_)
  ·refine aF (aA (bA ν (bS ν (aD (aC (au (aZ (aK (aK (aZ (aK (bg ν ν ?_))))))))))))
   exact av rfl rfl (congrArg (Ty.int .i64) (lB (p := fun q => decide (q = p)) aE k.2 (decide_eq_true C2)).symm)
  refine aX (bE (aC (aA (bA ν (bY ν ν aE aE (bS ν (aD ?_)))))))
  refine bG (⟨k.1 + 1, gJ k.2 aE (decide_eq_false hc2)⟩) ?_ pV
  exact bt
 refine bQ (aI (aI (aS ν (aC (aF (aA (bS ν (aD (aC (au (bg ν ν ?_)))))))))))
 exact av rfl rfl (congrArg (Ty.int .i64) (nC (p := fun q => decide (q = p)) D4).symm)
theorem IU (b : aT) (hs1 : b.aO.length * 24 ≤ 140737488355328) : dO Tryz.prog 8 [cU b] (cU b) := by
 refine az Tryz.func8 ν aB Tryz.ntmps8 aP fun w0 M0 => ?_
 refine aF (aA (bF ν (bZ ν bW ν (aD (aC (aF (aA (aN ν ν ν ν ν aB (aJ ν ν ν ν (cC ν ν bW ν oD eU ?_))))))))))
 refine bZ ν bW ν (bK ν ν aB ν ν ν ν ν ν (aD (aC (aF (aF (aA (aN ν ν ν ν ν aB (aJ ν ν ν ν (bU ν ν ν (bA ν (aD (aC (aV ?_)))))))))))))
 refine bf (fun (k : {k : Nat // k ≤ b.aO.length}) => live [(2, Ty.ptr 3 0), (3, Ty.ptr 4 0), (10, Ty.sl cZ b.aO), (11, Ty.int .i64 b.aO.length), (12, Ty.int .i64 (k.1 : Nat))] [(3, Cont.cells 33 [Ty.ex (.slice none 0 0), Ty.ex (.slice none 0 0)]), (4, Cont.cells 33 [Ty.sl cL b.sizes, Ty.row cZ 76 21 (b.aO.take k.1)])]) (fun k => b.aO.length - k.1) (⟨0, by omega⟩) ?_ fun k => ?_
 ·exact Oy
 have hk := k.2
 refine aF (aA (ah ν ν ν (aD (aC (aF ?_)))))
 refine aU ν (fun hc1 => ?_) (fun hc1 => ?_)
 ·refine aX (aC (aF (aV (aF (aA (af ν ν ν ν ν ν aE (aY ν ν ν aP (bZ ν bW ν ?_))))))))
  refine bK ν ν aB ν ν ν ν ν ν (aD (aC (aA (ak ν ν ν ν ν aB (aq ν ν aB ν ν ν (aW ν ν aB ν ν aP ?_))))))
  refine bD (E := cZ) (xs := [nth b.aO k.1]) ν ν ν ν ν aB aB mH bn ν ?_
  refine cG ν ν aB ν ν ν ν ν ν aB bp bp (ak ν ν ν ν ν aB (dH ν ν aB ν ν xS ν aP ν ν bn ?_))
  refine aD (bE (aC (aA (bY ν ν aE aE (bA ν (aD ?_))))))
  refine bG (⟨k.1 + 1, by omega⟩) ?_ ko
  (refine dw.mk' ?_ ?_ <;> (repeat' (first | exact aQ | exact aR | exact eC | refine aG ?_ (Ty.bC _) | refine aG ?_ (Ty.aM _) | refine aL rfl (Cont.aM _) ?_ | refine aL rfl (Cont.eD ?_) ?_ | refine dD ?_ (Ty.aM _) | refine dD ?_ ?_)))
  all_goals exact Ty.cv (cg aE).symm
 refine bQ (aI (aI (aS ν (aC (aF ?_)))))
 refine j8 (tg := 21) [] [(4, Cont.cells 33 [Ty.sl cL b.sizes, Ty.sl cZ (b.aO.take k.1)])] aB rfl trivial ⟨eW rfl rfl ⟨cF rfl, m9, trivial⟩, trivial⟩ ?_
 refine aA (aW ν ν aB ν ν aP (bK ν ν aB ν ν ν ν ν ν (aD (aC (au (sH ν ν ν ν aB ν ν ν ?_))))))
 all_goals exact av rfl rfl (congrArg (fun l => cU ⟨b.sizes, l⟩) (show b.aO.take k.1 = b.aO from List.take_of_length_le wR))
end Go.Proofs.YtpnndljmhpepgaaGreat
namespace Go.Proofs.YtpnndljmhpepgaaGreat
open Go Go.T
set_option maxRecDepth 100000
set_option maxHeartbeats 4000000
structure MY (l : List bX) (i : Nat) : Prop where
  pos : 1 ≤ i
  no : ∀ j, j + 1 < i → ¬ (nth l (j + 1)).bN ≤ (nth l j).bN
theorem Qi (l : List bX) : MY l 1 := ⟨Nat.le_refl _, fun j h => by omega⟩
theorem MY.next {l : List bX} {i : Nat} (h : MY l i) (hc : ¬ (nth l i).bN ≤ (nth l ((i : Int) - 1).toNat).bN) : MY l (i + 1) := by
 have hp := h.pos
 refine ⟨by omega, fun j hj => ?_⟩
 by_cases e : j + 1 = i
 ·rw [show ((i : Int) - 1).toNat = j by omega, ← e] at hc; exact hc
 exact h.no j aE
theorem MY.yes {l : List bX} {i : Nat} (h : MY l i) (hi : i < l.length) (hc : (nth l i).bN ≤ (nth l ((i : Int) - 1).toNat).bN) : CX l = true := by
 have hp := h.pos
 refine nr (k := i - 1) aE (decide_eq_true ?_)
 rw [show ((i : Int) - 1).toNat = i - 1 by omega] at hc
 rw [show i - 1 + 1 = i by omega]; exact hc
theorem MY.end {l : List bX} {i : Nat} (h : MY l i) (hi : l.length ≤ i) : CX l = false := by
 unfold CX
 exact eI.2 fun j hj => decide_eq_false (h.no j aE)
section
variable {b : aT} {p : Pl} {g : Int} {l : List bX}
theorem RB (h : (!l.all fun t => b.bN t.bN && b.bin t.aim) = true) : gy b p g l = 1 := if_pos h
theorem RD (h1 : (!l.all fun t => b.bN t.bN && b.bin t.aim) = false) (h : CX l = true) : gy b p g l = 4 := (if_neg (ng h1)).trans (if_pos h)
theorem Qb (h1 : (!l.all fun t => b.bN t.bN && b.bin t.aim) = false) (h2 : CX l = false) (h : Pp b p l = true) : gy b p g l = 5 := (if_neg (ng h1)).trans ((if_neg (ng h2)).trans (if_pos h))
theorem RM (h1 : (!l.all fun t => b.bN t.bN && b.bin t.aim) = false) (h2 : CX l = false) (h3 : Pp b p l = false) (h : (!l.all fun t => b.hold t.aim t.bN) = true) : gy b p g l = 9 := (if_neg (ng h1)).trans ((if_neg (ng h2)).trans ((if_neg (ng h3)).trans (if_pos h)))
theorem RK (h1 : (!l.all fun t => b.bN t.bN && b.bin t.aim) = false) (h2 : CX l = false) (h3 : Pp b p l = false) (h4 : (!l.all fun t => b.hold t.aim t.bN) = false) (h : (l.length : Int) > g) : gy b p g l = 2 := (if_neg (ng h1)).trans ((if_neg (ng h2)).trans ((if_neg (ng h3)).trans ((if_neg (ng h4)).trans (if_pos h))))
theorem Q6 (h1 : (!l.all fun t => b.bN t.bN && b.bin t.aim) = false) (h2 : CX l = false) (h3 : Pp b p l = false) (h4 : (!l.all fun t => b.hold t.aim t.bN) = false) (h : ¬ (l.length : Int) > g) : gy b p g l = 0 := (if_neg (ng h1)).trans ((if_neg (ng h2)).trans ((if_neg (ng h3)).trans ((if_neg (ng h4)).trans (if_neg h))))
theorem HK (h1 : (!l.all fun t => b.bN t.bN && b.bin t.aim) = false) : ∀ t ∈ l, (0 ≤ t.bN ∧ t.bN < b.aO.length) ∧ 0 ≤ t.aim ∧ t.aim < b.sizes.length := fun t ht => by
 simp only [Bool.not_eq_false', List.all_eq_true, Bool.and_eq_true, aT.bN, aT.bin, fE] at h1
 have := h1 t ht; omega
theorem O0 {k : Nat} (h : ∀ i, i < k → E2 b p l i = false) (hk : l.length ≤ k) : Pp b p l = false := eI.2 fun i hi => h i aE
theorem yd {k : Nat} (hk : k < l.length) (h : E2 b p l k = true) : Pp b p l = true := nr (q := E2 b p l) hk h
theorem zj {rs : List (List bX)} (h : ¬ hH b g = 0) : j3 b g rs = (false, hH b g) := if_neg h
theorem ur {rs : List (List bX)} (h : hH b g = 0) (h2 : (rs.length : Int) > 6000) : j3 b g rs = (false, 2) := (if_pos h).trans (if_pos h2)
theorem ld {rs : List (List bX)} (h : hH b g = 0) (h2 : ¬ (rs.length : Int) > 6000) {x : Bool × Int} (e : mN b g (bJ b) rs = x) : j3 b g rs = x := (if_pos h).trans ((if_neg h2).trans e)
theorem LX {p q : Pl} (h : p = q) (i : Nat) : (Ty.int .i64 (nth p.1 i)).Sub (Ty.int .i64 (nth q.1 i)) := Ty.bO (by rw [h])
def qx (p : Pl) (l : List bX) (k : Nat) : Pl := bM p (l.take k)
theorem JX (p : Pl) (l : List bX) : qx p l 0 = p := by unfold qx; rw [List.take_zero]; rfl
theorem AK {k : Nat} (hk : k < l.length) : cm (qx p l k) (nth l k) = qx p l (k + 1) := by unfold qx; rw [cg hk, ia]
theorem Ea {k : Nat} (hk : l.length ≤ k) : qx p l k = bM p l := by unfold qx; rw [List.take_of_length_le hk]
end
attribute [local irreducible] iL fu pJ r9 jY jQ jL jI jT rF jJ q5 dy g6 q2 g7 r8 nth fS dG ay dO bodyPost Exit.then Exit.inBlock Code.wp Code.wpIn fy rS rB rq rL jU r5 fG iT qd cT cX bodyPostM eE
theorem KQ (d : tS) (hs : d.b.Small) (t : bX) : dO Tryz.prog 101 [Ty.agg (bq.tys t), Ty.pp [Ty.pe dI d 0]] (Ty.bool (d.b.bN t.bN && d.b.bin t.aim)) := by
 refine az Tryz.func101 ν aB Tryz.ntmps101 aP fun w0 M0 => ?_
 refine aF (aA (bF ν (dN ν (aD (aC (aF (cH mixed ν (aJ ν ν ν ν (cW ν (cr ν ν ν ν ν aB (eV ν ν ν ν ν (aN ν ν ν ν ν aB (aJ ν ν ν ν (aa (EC d.b hs _) ν ν ν ν ν (dm ν ?_)))))))))))))))
 refine bT 11 ν (fun hg => aH (aJ ν ν ν ν (aD ν))) ?_
 refine bT 11 ν (fun hg => cJ 12 hg ν (aH (cW ν (aD ν)))) ?_
 refine bT 11 ν (fun hg => cJ 13 hg ν (aH (cr ν ν ν ν ν aB (aD ν)))) ?_
 refine bT 11 ν (fun hg => cJ 14 hg ν (aH (eV ν ν ν ν ν (aD ν)))) ?_
 refine bT 11 ν (fun hg => aH (aN ν ν ν ν ν aB (aD ν))) ?_
 refine bT 11 ν (fun hg => cJ 16 hg ν (aH (aJ ν ν ν ν (aD ν)))) ?_
 refine bT 11 ν (fun hg => cJ 15 hg ν (cJ 17 hg ν (aH (aa (DF d.b hs _) ν ν ν ν ν (aD ν))))) ?_
 refine dA ν ν (dN ν (aD ?_))
 refine ⟨by kernel_rfl, ?_⟩
 refine aC (au (bg ν ν ?_))
 all_goals exact b9 rfl rfl
theorem K9 (t u : bX) : dO Tryz.prog 102 [Ty.agg (bq.tys u), Ty.pp (bq.tys t)] (Ty.bool (decide (u.aim = t.aim))) := by
 refine az Tryz.func102 ν aB Tryz.ntmps102 aP fun w0 M0 => ?_
 refine aF (aA (bF ν (dN ν (aD (aC (aF (aA (aN ν ν ν ν ν aB (aJ ν ν ν ν (aN ν ν ν ν ν aB (aJ ν ν ν ν (ah ν ν ν (dN ν (aD (aC (au (bg ν ν ?_)))))))))))))))))
 all_goals exact b9 rfl rfl
theorem MP (d : tS) (t : bX) (h : (0 ≤ t.bN ∧ t.bN < d.b.aO.length) ∧ 0 ≤ t.aim ∧ t.aim < d.b.sizes.length) : dO Tryz.prog 103 [Ty.agg (bq.tys t), Ty.pp [Ty.pe dI d 0]] (Ty.bool (d.b.hold t.aim t.bN)) := by
 refine az Tryz.func103 ν aB Tryz.ntmps103 aP fun w0 M0 => ?_
 refine aF (aA (bF ν (dN ν (aD (aC (aF (cH mixed ν (aJ ν ν ν ν (cW ν (cr ν ν ν ν ν aB (eV ν ν ν ν ν (aN ν ν ν ν ν aB (aJ ν ν ν ν (aN ν ν ν ν ν aB (aJ ν ν ν ν (aa (oN d.b t.aim t.bN h.2 h.1) ν ν ν ν ν (dN ν (aD ?_))))))))))))))))))
 refine ⟨by kernel_rfl, ?_⟩
 refine aC (au (bg ν ν ?_))
 all_goals exact b9 rfl rfl
theorem OK (d : tS) (hs : d.b.Small) (h6 : d.b.aO.length ≤ 6) (p : Pl) (g : Int) (l : List bX) (hl : l.length ≤ 400000000) : dO Tryz.prog 48 [Ty.pe dI d 0, Ty.agg (j6 p), Ty.int .i64 g, Ty.sl bq l] (Ty.int .i64 (gy d.b p g l)) := by
 refine az Tryz.func48 ν aB Tryz.ntmps48 aP fun w0 M0 => ?_
 refine aF (aA (iq LP ν ?_))
 refine bF ν (bS ν (aD (aC (aF (aF (aA (cM ν (fA ν ?_))))))))
 refine aa (xH l (Ty.so 101 [Ty.pp [Ty.pe dI d 0]]) ν (fun t => d.b.bN t.bN && d.b.bin t.aim) ν ν fun x _ => gY (KQ d hs x) ν ν ν ν ν ν) ν ν ν ν ν ?_
 refine dW ν (aD (aC ?_))
 refine cI ν (fun hc1 => ?_) (fun hc1 => ?_)
 ·refine aF (aA (bS ν (aD (aC (au (aK (bg ν ν ?_)))))))
  all_goals exact av rfl rfl (congrArg (Ty.int .i64) (RB hc1).symm)
 refine aX (aC (aF (aF ?_)))
 have har := HK hc1
 refine aA (bS ν (aD (aC (aV ?_))))
 refine bf (fun (i : {i : Nat // MY l i}) => live [(2, Ty.int .i64 g), (3, Ty.sl bq l), (4, Ty.pp [Ty.pe dI d 0]), (5, Ty.pp (j6 p)), (9, Ty.int .i64 (i.1 : Nat))] []) (fun i => l.length - i.1) (⟨1, Qi l⟩) ?_ fun i => ?_
 ·exact bt
 have hi1 := i.2.pos
 refine aF (aF (aA (bA ν (cM ν (bU ν ν ν (ah ν ν ν (aD (aC ?_))))))))
 refine aU ν (fun hc2 => ?_) (fun hc2 => ?_)
 ·refine aX (aC (aF (aV (aF (cH mixed ν (cM ν (bA ν (af ν ν ν ν ν ν aE (aN ν ν ν ν ν aB (aJ ν ν ν ν (cM ν (bA ν (ga ν ν aE aE (dR ν ν ν ν ν ν aE aE (aN ν ν ν ν ν aB (aJ ν ν ν ν (ah ν ν ν (aD ?_))))))))))))))))))
  refine ⟨by kernel_rfl, ?_⟩
  refine aC ?_
  refine aU ν (fun hc3 => ?_) (fun hc3 => ?_)
  ·refine aF (aA (bS ν (aD (aC (au (aZ (aK (aK (aZ (aK (bg ν ν ?_)))))))))))
   all_goals exact av rfl rfl (congrArg (Ty.int .i64) (RD hc1 (i.2.yes aE hc3)).symm)
  refine aX (bE (aC (aA (bA ν (bY ν ν aE aE (bS ν (aD ?_)))))))
  refine bG (⟨i.1 + 1, i.2.next hc3⟩) ?_ OS
  exact bt
 refine bQ (aI (aI (aS ν (aC (aF (aF ?_))))))
 have hor := i.2.end aE
 refine aA (cM ν (bU ν ν ν (bA ν (aD (aC (aV ?_))))))
 refine bf (fun (k : {k : Nat // ∀ i, i < k → E2 d.b p l i = false}) => live [(2, Ty.int .i64 g), (3, Ty.sl bq l), (4, Ty.pp [Ty.pe dI d 0]), (5, Ty.pp (j6 p)), (34, Ty.sl bq l), (35, Ty.int .i64 l.length), (36, Ty.int .i64 (k.1 : Nat))] []) (fun k => l.length - k.1) (⟨0, fun i hi => absurd hi (Nat.not_lt_zero i)⟩) ?_ fun k => ?_
 ·exact bt
 refine aF (aA (ah ν ν ν (aD (aC (aF ?_)))))
 refine aU ν (fun hc4 => ?_) (fun hc4 => ?_)
 ·refine aX (aC (aF (aV (aF (aA (bA ν (af ν ν ν ν ν ν aE (aY ν ν ν aP (bZ ν bW ν (bS ν ?_))))))))))
  refine bK ν ν aB ν ν ν ν ν ν (aD (aC (aF ?_)))
  refine jA (tg := 12) [(11, Ty.pp (bq.tys (nth l k.1)))] aB rfl ⟨Bh (T := 37) (tg := 12) (off := 0) (l := bq.tys (nth l k.1)) rfl rfl rfl aB, trivial⟩ ?_
  refine aA (aJ ν ν ν ν (aY ν ν ν aP (aN ν ν ν ν ν aB (aJ ν ν ν ν (aa (CB d h6 p (nth l k.1).aim) ν ν ν ν ν (dm ν ?_))))))
  refine bT 46 ν (fun hg => aH (cM ν (aD ν))) ?_
  refine bT 46 ν (fun hg => aH (bA ν (aD ν))) ?_
  refine bT 46 ν (by intro hg; apply bV (s := 47) ν dF; apply bV (s := 48) ν dF; apply aH; (refine vD ν ν ν ν ν ν (show k.1 ≤ l.length by omega) ?_); refine aD ?_; exact ν) ?_
  refine bT 46 ν (fun hg => aH (fA ν (aD ν))) ?_
  refine bT 46 ν (by intro hg; apply bV (s := 49) ν dF; apply bV (s := 50) ν dF; apply aH; (refine aa (j9 (l.take k.1) (Ty.so 102 [Ty.pp (bq.tys (nth l k.1))]) ν (fun u => decide (u.aim = (nth l k.1).aim)) ν ν fun x _ => gY (K9 _ x) ν ν ν ν ν ν) ν ν ν ν ν ?_); refine aD ?_; exact ν) ?_
  refine eJ ν ν (aD (aC ?_))
  refine cI ν (fun hc5 => ?_) (fun hc5 => ?_)
  ·refine aF (aA (bS ν (aD (aC (au (aZ (aK (aK (aZ (aK (bg ν ν ?_)))))))))))
   all_goals exact av rfl rfl (congrArg (Ty.int .i64) (Qb hc1 hor (yd aE hc5)).symm)
  refine aX (bE (aC (aA (bY ν ν aE aE (bA ν (aD ?_))))))
  refine bG (⟨k.1 + 1, kS k.2 hc5⟩) ?_ pV
  exact bt
 refine bQ (aI (aI (aS ν (aC (aF (aF ?_))))))
 have htw := O0 k.2 aE
 refine aA (cM ν (fA ν ?_))
 refine aa (xH l (Ty.so 103 [Ty.pp [Ty.pe dI d 0]]) ν (fun t => d.b.hold t.aim t.bN) ν ν fun x hx => gY (MP d x (har x hx)) ν ν ν ν ν ν) ν ν ν ν ν ?_
 refine dW ν (aD (aC ?_))
 refine cI ν (fun hc6 => ?_) (fun hc6 => ?_)
 ·refine aF (aA (bS ν (aD (aC (au (aK (bg ν ν ?_)))))))
  all_goals exact av rfl rfl (congrArg (Ty.int .i64) (RM hc1 hor htw hc6).symm)
 refine aX (aC (aF (aF (aA (cM ν (bU ν ν ν (bA ν (ah ν ν ν (aD (aC ?_))))))))))
 refine aU ν (fun hc7 => ?_) (fun hc7 => ?_)
 ·refine aF (aA (bS ν (aD (aC (au (aK (bg ν ν ?_)))))))
  all_goals exact av rfl rfl (congrArg (Ty.int .i64) (RK hc1 hor htw hc6 hc7).symm)
 refine aX (aC (aF (aA (bS ν (aD (aC (au (bg ν ν ?_))))))))
 all_goals exact av rfl rfl (congrArg (Ty.int .i64) (Q6 hc1 hor htw hc6 hc7).symm)
theorem Nu (b : aT) (hs : b.Small) (g : Int) (rs : List (List bX)) (hl : ∀ l ∈ rs, l.length ≤ 400000000) : dO Tryz.prog 16 [cU b, Ty.int .i64 g, Ty.sl eG rs] (Ty.iF [Ty.bool (j3 b g rs).1, Ty.int .i64 (j3 b g rs).2]) := by
 refine az Tryz.func16 ν aB Tryz.ntmps16 aP fun w0 M0 => ?_
 refine aF (aA (bF ν (dN ν (bS ν (aD (aC (aF (aA (aY ν ν ν aP (bA ν (aa (B4 b hs g) ν ν ν ν ν (ke ν (aj ν ν (aj ν ν (QT ν (bS ν (aD (aC (aF (aF (aA (bA ν (ah ν ν ν ?_)))))))))))))))))))))))
 refine aD (aC ?_)
 refine bw ν (fun hc1 => ?_) (fun hc1 => ?_)
 ·refine aF (aA (bA ν (dN ν (bS ν (aD (aC (au (aK ?_))))))))
  refine dc ν ν ν ?_ ?_
  all_goals first | exact av rfl rfl (congrArg (fun z : Bool × Int => Ty.bool z.1) (zj hc1).symm) | exact av rfl rfl (congrArg (fun z : Bool × Int => Ty.int .i64 z.2) (zj hc1).symm)
 refine aX (aC (aF (aF ?_)))
 have hask := kT hc1
 have hr := c8 hask.1
 have h6 := hr.aO
 refine fK (s := 8) ν (Ty.pU (decide_eq_true hc1)) ?_
 refine aA (cM ν (bU ν ν ν (ah ν ν ν (aD (aC ?_)))))
 refine aU ν (fun hc2 => ?_) (fun hc2 => ?_)
 ·refine aF (aA (dN ν (bS ν (aD (aC (au (aK ?_)))))))
  refine dc ν ν ν ?_ ?_
  all_goals first | exact av rfl rfl (congrArg (fun z : Bool × Int => Ty.bool z.1) (ur hc1 hc2).symm) | exact av rfl rfl (congrArg (fun z : Bool × Int => Ty.int .i64 z.2) (ur hc1 hc2).symm)
 refine aX (aC (aF (aA (nN ν (cW ν (cr ν ν ν ν ν aB (eV ν ν ν ν ν (bZ ν bW ν ?_))))))))
 refine bK ν ν aB ν ν ν ν ν ν (aD (aC (aF (aF (aA (cM ν (bU ν ν ν (bA ν (aD (aC (aV ?_)))))))))))
 refine bf (fun (x : {x : Nat × Pl // MZ b g rs x.1 x.2}) => live [(1, Ty.int .i64 g), (8, Ty.pe dI ⟨b, bJ b⟩ 0), (10, Ty.ptr 11 0), (32, Ty.sl eG rs), (33, Ty.int .i64 rs.length), (34, Ty.int .i64 (x.1.1 : Nat))] [(11, Cont.cells 91 (j6 x.1.2))]) (fun x => rs.length - x.1.1) (⟨(0, bJ b), Q0 b g rs⟩) ?_ fun x => ?_
 ·exact dK
 have hxe := x.2.le
 refine aF (aA (ah ν ν ν (aD (aC (aF ?_)))))
 refine aU ν (fun hc3 => ?_) (fun hc3 => ?_)
 ·refine aX (aC (aF (aV (aF (aA (af ν ν ν ν ν ν aE (aJ ν ν ν ν (iX ν (aD (aC (aF (aF (aA (nN ν (aW ν ν aB ν ν aP (bA ν (cM ν (aa (OK ⟨b, bJ b⟩ hs h6 x.1.2 g (nth rs x.1.1) (hl _ (cD aE))) ν ν ν ν ν (bS ν (aD (aC (aF (aA ?_)))))))))))))))))))))))
  refine bA ν (ah ν ν ν (aD (aC ?_)))
  refine bw ν (fun hc4 => ?_) (fun hc4 => ?_)
  ·refine aF (aA (bA ν (dN ν (bS ν (aD (aC (au (aK (aZ (aK (aK (aZ (aK ?_)))))))))))))
   refine dc ν ν ν ?_ ?_
   all_goals first | exact av rfl rfl (congrArg (fun z : Bool × Int => Ty.bool z.1) (ld hc1 hc2 (x.2.stop aE hc4)).symm) | exact av rfl rfl (congrArg (fun z : Bool × Int => Ty.int .i64 z.2) (ld hc1 hc2 (x.2.stop aE hc4)).symm)
  refine aX (aC (aF ?_))
  have hRo : gq b x.1.2 g (nth rs x.1.1) := Ah.1 hc4
  have hll := hl _ (cD (xs := rs) (k := x.1.1) aE)
  refine aA (cM ν (bU ν ν ν (bA ν (aD (aC (aV ?_))))))
  refine bf (fun (j : {j : Nat // j ≤ (nth rs x.1.1).length}) => live [(1, Ty.int .i64 g), (8, Ty.pe dI ⟨b, bJ b⟩ 0), (10, Ty.ptr 11 0), (32, Ty.sl eG rs), (33, Ty.int .i64 rs.length), (34, Ty.int .i64 (x.1.1 : Nat)), (46, Ty.sl bq (nth rs x.1.1)), (47, Ty.int .i64 (nth rs x.1.1).length), (48, Ty.int .i64 (j.1 : Nat))] [(11, Cont.cells 91 (j6 (qx x.1.2 (nth rs x.1.1) j.1)))]) (fun j => (nth rs x.1.1).length - j.1) (⟨0, by omega⟩) ?_ fun j => ?_
  ·exact dK
  have hj := j.2
  refine aF (aA (ah ν ν ν (aD (aC (aF ?_)))))
  refine aU ν (fun hc5 => ?_) (fun hc5 => ?_)
  ·refine aX (aC (aF (aV (aF (aA (af ν ν ν ν ν ν aE (aY ν ν ν aP (bZ ν bW ν ?_))))))))
   refine bK ν ν aB ν ν ν ν ν ν (aD (aC ?_))
   have hto := hRo.ok _ (cD (xs := nth rs x.1.1) (k := j.1) aE)
   have htl := hto.1
   refine aA (ak ν ν ν ν ν aB (aq ν ν aB ν ν ν (ak ν ν ν ν ν aB (aq ν ν aB ν ν ν ?_))))
   refine mK (n := 6) ν ν ν ν ν htl.1 aE ?_
   refine dH (l' := j6 (cm (qx x.1.2 (nth rs x.1.1) j.1) (nth (nth rs x.1.1) j.1))) ν ν aB ν ν gR ν CV ν ν (vK _ _ aE) ?_
   refine aD (bE (aC (aA (bY ν ν aE aE (bA ν (aD ?_))))))
   refine bG (⟨j.1 + 1, by omega⟩) ?_ (by show (nth rs x.1.1).length - (j.1 + 1) < (nth rs x.1.1).length - j.1; omega)
   (refine dw.mk' ?_ ?_ <;> (repeat' (first | exact aQ | exact aR | exact eC | refine aG ?_ (Ty.bC _) | refine aG ?_ (Ty.aM _) | refine aL rfl (Cont.eD ?_) ?_ | refine dD ?_ ?_)))
   all_goals exact LX (AK aE) _
  refine bQ (aI (aI (aS ν (bE (aC (aA (bY ν ν aE aE (bA ν (aD ?_)))))))))
  refine bG (⟨(x.1.1 + 1, bM x.1.2 (nth rs x.1.1)), x.2.next aE hc4⟩) ?_ PD
  (refine dw.mk' ?_ ?_ <;> (repeat' (first | exact aQ | exact aR | exact eC | refine aG ?_ (Ty.bC _) | refine aG ?_ (Ty.aM _) | refine aL rfl (Cont.eD ?_) ?_ | refine dD ?_ ?_)))
  all_goals exact LX (Ea aE) _
 refine bQ (aI (aI (aS ν (aC (aF (aA (nN ν (aW ν ν aB ν ν aP (aa (Bq ⟨b, bJ b⟩ h6 x.1.2) ν ν ν ν ν (dN ν (bS ν (aD (aC (au ?_))))))))))))))
 refine dc ν ν ν ?_ ?_
 all_goals first | exact av rfl rfl (congrArg (fun z : Bool × Int => Ty.bool z.1) (ld hc1 hc2 (x.2.end aE)).symm) | exact av rfl rfl (congrArg (fun z : Bool × Int => Ty.int .i64 z.2) (ld hc1 hc2 (x.2.end aE)).symm)
end Go.Proofs.YtpnndljmhpepgaaGreat
namespace Go.Proofs.YtpnndljmhpepgaaGreat
open Go Go.T
variable {b : aT} {p q : Pl} {g : Int} {l : List bX} {t : bX}
def gA (b : aT) (p : Pl) : List Int := p.1.take b.aO.length
theorem qT (h6 : b.aO.length ≤ 6) (p : Pl) : (gA b p).length = b.aO.length := by unfold gA; rw [List.length_take, p.2]; omega
theorem wj (h6 : b.aO.length ≤ 6) : gA b (bJ b) = dL b := vm h6
theorem xh (b : aT) (p : Pl) (k : Int) : decide (k ∈ gA b p) = gh b p k := by
 unfold gA gh
 rw [Bool.eq_iff_iff, decide_eq_true_eq, List.any_eq_true]
 constructor
 ·intro h; exact ⟨k, h, decide_eq_true rfl⟩
 rintro ⟨x, hx, e⟩; rw [← of_decide_eq_true e]; exact hx
theorem AN (b : aT) (p : Pl) (t : bX) : gA b (cm p t) = (gA b p).set t.bN.toNat t.aim := by
 unfold gA
 show (p.1.set t.bN.toNat t.aim).take _ = _
 rw [List.take_set]
theorem uf (hr : b.cQ) (p : Pl) : gI b (gA b p) = eN b p := by
 have h6 := hr.aO
 rw [Eg hr (qT h6 p), qT h6 p]
 unfold eN
 rw [Bool.eq_iff_iff, List.all_eq_true, List.all_eq_true]
 have key : ∀ i, i ∈ List.range b.aO.length → NU b (gA b p) i = (decide ((nth b.aO i).aim = -1) || decide ((nth b.aO i).aim = nth p.1 i)) := fun i hi => by
  unfold NU gA; rw [rV (List.mem_range.1 hi)]
 exact ⟨fun h i hi => by rw [← key i hi]; exact h i hi, fun h i hi => by rw [key i hi]; exact h i hi⟩
theorem CI (p : Pl) : bM p [] = p := rfl
def xZ (b : aT) (p : Pl) (g : Int) (l : List bX) : List Int := if gy b p g l = 0 then gA b (bM p l) else []
theorem mm (h : ¬ gy b p g l = 0) : xZ b p g l = [] := if_neg h
theorem AJ (h : gy b p g l = 0) : xZ b p g l = gA b (bM p l) := if_pos h
def zM (b : aT) (p now : List Int) (bN k : Nat) : Bool := (decide ((k : Int) ∈ p) || decide ((k : Int) ∈ now)) || decide (nth b.sizes k < (nth b.aO bN).bh)
def gz (b : aT) (p : List Int) : Nat → List Int → Nat → Int → List (List Int)
  | 0, now, _, _ => [now]
  | m + 1, now, bN, left => gz b p m now (bN + 1) left ++ (if 0 < left then (List.range b.sizes.length).flatMap fun k => if zM b p now bN k = true then [] else gz b p m (now.set bN k) (bN + 1) (left - 1) else [])
def vu (b : aT) (p : List Int) (m : Nat) (now : List Int) (bN : Nat) (left : Int) (k : Nat) : List (List Int) := if zM b p now bN k = true then [] else gz b p m (now.set bN k) (bN + 1) (left - 1)
def iN (b : aT) (p : List Int) (m : Nat) (now : List Int) (bN : Nat) (left : Int) (n : Nat) : List (List Int) := gz b p m now (bN + 1) left ++ (List.range n).flatMap (vu b p m now bN left)
theorem qZ {α β : Type} {f : α → List β} {d : Nat} : ∀ {l : List α}, (∀ x ∈ l, (f x).length ≤ d) → (l.flatMap f).length ≤ l.length * d
  | [], _ => by simp
  | x :: l, h => by
    rw [List.flatMap_cons, List.length_append, List.length_cons, Nat.succ_mul]
    have h1 := h x List.mem_cons_self
    have h2 := qZ (f := f) (d := d) (l := l) fun y hy => h y (List.mem_cons_of_mem _ hy)
    omega
section
variable {m : Nat} {now pp : List Int} {bN k n : Nat} {left : Int}
theorem CN : gz b pp m now (bN + 1) left = iN b pp m now bN left 0 := by unfold iN; simp
theorem uQ : iN b pp m now bN left (n + 1) = iN b pp m now bN left n ++ vu b pp m now bN left n := by
 unfold iN; rw [List.range_succ, List.flatMap_append, List.append_assoc]; simp
theorem Dz (h : zM b pp now bN n = false) : iN b pp m now bN left n ++ gz b pp m (now.set bN n) (bN + 1) (left - 1) = iN b pp m now bN left (n + 1) := by
 rw [uQ]; unfold vu; rw [if_neg oz]
theorem Fg (h : zM b pp now bN n = true) : iN b pp m now bN left n = iN b pp m now bN left (n + 1) := by
 rw [uQ]; unfold vu; rw [if_pos h, List.append_nil]
theorem JD (hn : n ≤ b.sizes.length) (h : ¬ ((n : Int) < b.sizes.length ∧ 0 < left)) (h0 : left ≤ 0 → n = 0) : iN b pp m now bN left n = gz b pp (m + 1) now bN left := by
 show _ = gz b pp m now (bN + 1) left ++ _
 unfold iN
 by_cases c : 0 < left
 ·rw [if_pos c, show n = b.sizes.length by omega]; rfl
 rw [if_neg c, h0 aE]; rfl
theorem nA (hs : b.sizes.length ≤ 7) : ∀ (m : Nat) (now : List Int) (bN : Nat) (left : Int), (gz b pp m now bN left).length ≤ 8 ^ m
  | 0, _, _, _ => Nat.le_refl _
  | m + 1, now, bN, left => by
    show (gz b pp m now (bN + 1) left ++ _).length ≤ _
    rw [List.length_append, Nat.pow_succ]
    have h1 := nA hs m now (bN + 1) left
    have h2 : (if 0 < left then (List.range b.sizes.length).flatMap fun k => if zM b pp now bN k = true then [] else gz b pp m (now.set bN k) (bN + 1) (left - 1) else []).length ≤ 7 * 8 ^ m := by
      split
      · refine Nat.le_trans (qZ (d := 8 ^ m) fun x _ => ?_) (Nat.mul_le_mul_right _ (by rw [List.length_range]; exact hs))
        split
        · exact Nat.zero_le _
        · exact nA hs m _ _ _
      · exact Nat.zero_le _
    omega
theorem DN (hs : b.sizes.length ≤ 7) (hn : n ≤ b.sizes.length) : (iN b pp m now bN left n).length ≤ 8 ^ (m + 1) := by
 unfold iN
 rw [List.length_append, Nat.pow_succ]
 have h1 := nA (pp := pp) hs m now (bN + 1) left
 have h2 : ((List.range n).flatMap (vu b pp m now bN left)).length ≤ 7 * 8 ^ m := by
  refine Nat.le_trans (qZ (d := 8 ^ m) fun x _ => ?_) (Nat.mul_le_mul_right _ (by rw [List.length_range]; omega))
  unfold vu
  split
  ·exact Nat.zero_le _
  exact nA hs m _ _ _
 omega
end
end Go.Proofs.YtpnndljmhpepgaaGreat
