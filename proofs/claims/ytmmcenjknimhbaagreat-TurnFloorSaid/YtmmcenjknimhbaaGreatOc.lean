/- Lemmas: the program and the reference walked, plain laws. -/
import Derived.Test.YtmmcenjknimhbaaGreatOb
namespace Go.Proofs.YtmmcenjknimhbaaGreat
open Go Go.T
structure Way where
  frm : Pl
  byT : List bu
  all : Int
  deriving Inhabited
structure Found where
  ways : List (Pl × Way)
  last : Pl
  is : Bool
  deriving Inhabited
def KM : Pl := ⟨[0, 0, 0, 0, 0, 0], rfl⟩
def jj : Way := ⟨KM, [], 0⟩
structure St where
  ways : List (Pl × Way)
  queue : List (Int × List Pl)
  left : Int
  done : List (Pl × Bool)
  now : Int
def vU (ways : List (Pl × Way)) (q : Pl) (n : Int) : Bool := (bU ways q).isSome && decide (min n ((bU ways q).getD jj).all = ((bU ways q).getD jj).all)
theorem It {ways : List (Pl × Way)} {q : Pl} {n : Int} (h : vU ways q n = true) : ∃ w, bU ways q = some w ∧ w.all ≤ n := by
  unfold vU at h
  rw [Bool.and_eq_true] at h
  cases e : bU ways q with
  | none => rw [e] at h; exact absurd h.1 (by decide)
  | some w => rw [e] at h; have := of_decide_eq_true h.2; simp only [Option.getD_some] at this; exact ⟨w, rfl, by omega⟩
theorem sM {ways : List (Pl × Way)} {q : Pl} {n : Int} (h : vU ways q n = false) {w : Way} (e : bU ways q = some w) : n < w.all := by
 unfold vU at h
 rw [e] at h
 simp only [Option.isSome_some, Bool.true_and, Option.getD_some, decide_eq_false_iff_not] at h; omega
def mu (c : bu → Int) (p : Pl) (x : St) (t : bu) : St :=
  if vU x.ways (bf p t) (x.now + c t) = true then x else
    { x with ways := cz x.ways (bf p t) ⟨p, [t], x.now + c t⟩, queue := cz x.queue (x.now + c t) (rowAt x.queue (x.now + c t) ++ [bf p t]), left := x.left + 1 }
theorem Bj {c : bu → Int} {p : Pl} {x : St} {t : bu} (h : vU x.ways (bf p t) (x.now + c t) = true) : mu c p x t = x := if_pos h
theorem EM {c : bu → Int} {p : Pl} {x : St} {t : bu} (h : vU x.ways (bf p t) (x.now + c t) = false) : mu c p x t = { x with ways := cz x.ways (bf p t) ⟨p, [t], x.now + c t⟩, queue := cz x.queue (x.now + c t) (rowAt x.queue (x.now + c t) ++ [bf p t]), left := x.left + 1 } := if_neg (by rw [h]; decide)
theorem Gm (c : bu → Int) (p : Pl) (x : St) (t : bu) : (mu c p x t).done = x.done := by unfold mu; split <;> rfl
theorem Jl (c : bu → Int) (p : Pl) (x : St) (t : bu) : (mu c p x t).now = x.now := by unfold mu; split <;> rfl
structure Inv (b : aW) (c : bu → Int) (all : Bool) (F : Pl → List bu) (R : Int) (x : St) : Prop where
  now0 : 0 ≤ x.now
  start : bU x.ways (bE b) = some jj
  keys : (x.ways.map Prod.fst).Nodup
  qkeys : (x.queue.map Prod.fst).Nodup
  dkeys : (x.done.map Prod.fst).Nodup
  dval : ∀ p v, bU x.done p = some v → v = true
  via : ∀ q w, bU x.ways q = some w → q = bE b ∨ ∃ t w', w.byT = [t] ∧ t ∈ ay b w.frm ∧ q = bf w.frm t ∧ bU x.done w.frm = some true ∧ bU x.ways w.frm = some w' ∧ w.all = w'.all + c t
  walk : ∀ q w, bU x.ways q = some w → ∃ l, mw b (bE b) l = some q ∧ gz c l = w.all
  fin : ∀ p, bU x.done p = some true → ∃ w, bU x.ways p = some w ∧ w.all ≤ x.now ∧ ∀ t ∈ F p, ∃ w', bU x.ways (bf p t) = some w' ∧ w'.all ≤ w.all + c t
  wait : ∀ q w, bU x.ways q = some w → bU x.done q = none → x.now ≤ w.all ∧ q ∈ rowAt x.queue w.all
  que : ∀ m q, q ∈ rowAt x.queue m → x.now ≤ m ∧ m ≤ 300 * x.done.length ∧ ∃ w, bU x.ways q = some w ∧ w.all ≤ m
  left : x.left = m5 x.queue
  lim : x.left + R ≤ 1 + 42 * x.done.length
  no : all = false → ∀ p, bU x.done p = some true → dj b p = false
  cap : ∀ q w, bU x.ways q = some w → w.all ≤ 300 * x.done.length
structure At (b : aW) (p : Pl) (x : St) : Prop where
  done : bU x.done p = some true
  way : ∃ w, bU x.ways p = some w ∧ w.all = x.now
  cap : x.now + 300 ≤ 300 * x.done.length
variable {b : aW} {c : bu → Int} {all : Bool} {F : Pl → List bu} {R : Int} {x : St} {p : Pl} {t : bu}
theorem Inv.weaken {R' : Int} (h : Inv b c all F R x) (hR : R' ≤ R) : Inv b c all F R' x := { h with lim := by have := h.lim; omega }
theorem Inv.RF {F' : Pl → List bu} (h : Inv b c all F R x) (hF : ∀ p, bU x.done p = some true → ∀ t ∈ F' p, t ∈ F p) : Inv b c all F' R x :=
 { h with fin := fun p hp => let ⟨w, h1, h2, h3⟩ := h.fin p hp; ⟨w, h1, h2, fun t ht => h3 t (hF p hp t ht)⟩ }
theorem EU (h : Inv b c all F R x) (hp : At b p x) (hct : 1 ≤ c t) (hm : vU x.ways (bf p t) (x.now + c t) = false) {r : Pl} {w : Way} (hw : bU x.ways r = some w) (hle : w.all ≤ x.now) : bf p t ≠ r := fun e => by
 subst e
 have := sM hm hw
 omega
theorem Iw (h : Inv b c all F R x) (hp : At b p x) (ht : t ∈ ay b p) (hct : 1 ≤ c t ∧ c t ≤ 300) : Inv b c all (fun r => if r = p then F r ++ [t] else F r) (R - 1) (mu c p x t) ∧ At b p (mu c p x t) := by
  obtain ⟨hpd, ⟨wp, hwp, hwn⟩, hcap⟩ := hp
  have hp : At b p x := ⟨hpd, ⟨wp, hwp, hwn⟩, hcap⟩
  have h0 := h.now0
  cases hm : vU x.ways (bf p t) (x.now + c t) with
  | true =>
    rw [Bj hm]
    refine ⟨{ h with fin := fun r hr => ?_, lim := by have := h.lim; omega }, hp⟩
    obtain ⟨w, h1, h2, h3⟩ := h.fin r hr
    refine ⟨w, h1, h2, fun u hu => ?_⟩
    by_cases e : r = p
    · subst e
      rw [if_pos rfl, List.mem_append, List.mem_singleton] at hu
      rcases hu with hu | hu
      · exact h3 u hu
      · subst hu
        obtain ⟨w', e1, e2⟩ := It hm
        rw [hwp] at h1; injection h1 with h1
        exact ⟨w', e1, by rw [← h1, hwn]; exact e2⟩
    · rw [if_neg e] at hu; exact h3 u hu
  | false =>
    rw [EM hm]
    have hnf : bf p t ≠ bE b := EU h hp hct.1 hm h.start h0
    have hnd : ∀ r, bU x.done r = some true → bf p t ≠ r := fun r hr => by
      obtain ⟨w, h1, h2, _⟩ := h.fin r hr
      exact EU h hp hct.1 hm h1 h2
    have hget : ∀ r, bU (cz x.ways (bf p t) ⟨p, [t], x.now + c t⟩) r = if bf p t = r then some ⟨p, [t], x.now + c t⟩ else bU x.ways r := fun r => q4 _ _ _ _
    refine ⟨⟨h0, by rw [hget, if_neg hnf]; exact h.start, jz _ _ _ h.keys, jz _ _ _ h.qkeys, h.dkeys, h.dval, fun q w hq => ?_, fun q w hq => ?_, fun r hr => ?_, fun q w hq hqd => ?_, fun m q hq => ?_, ?_, ?_, h.no, fun q w hq => ?_⟩, hpd, ⟨wp, by rw [hget, if_neg (hnd p hpd)]; exact hwp, hwn⟩, hcap⟩
    · rw [hget] at hq
      by_cases e : bf p t = q
      · rw [if_pos e] at hq; injection hq with hq; subst hq
        exact .inr ⟨t, wp, rfl, ht, e.symm, hpd, by rw [hget, if_neg (hnd p hpd)]; exact hwp, by show x.now + c t = wp.all + c t; omega⟩
      · rw [if_neg e] at hq
        rcases h.via q w hq with h1 | ⟨u, w', h1, h2, h3, h4, h5, h6⟩
        · exact .inl h1
        · exact .inr ⟨u, w', h1, h2, h3, h4, by rw [hget, if_neg (hnd _ h4)]; exact h5, h6⟩
    · rw [hget] at hq
      by_cases e : bf p t = q
      · rw [if_pos e] at hq; injection hq with hq; subst hq
        obtain ⟨l, h1, h2⟩ := h.walk p wp hwp
        exact ⟨l ++ [t], by rw [← e]; exact yW h1 ht, by rw [lQ, rJ, h2, hwn]⟩
      · rw [if_neg e] at hq; exact h.walk q w hq
    · obtain ⟨w, h1, h2, h3⟩ := h.fin r hr
      refine ⟨w, by rw [hget, if_neg (hnd r hr)]; exact h1, h2, fun u hu => ?_⟩
      have old : (∃ w', bU x.ways (bf r u) = some w' ∧ w'.all ≤ w.all + c u) → ∃ w', bU (cz x.ways (bf p t) ⟨p, [t], x.now + c t⟩) (bf r u) = some w' ∧ w'.all ≤ w.all + c u := fun ⟨w', g1, g2⟩ => by
        rw [hget]
        by_cases e : bf p t = bf r u
        · rw [if_pos e]; refine ⟨_, rfl, ?_⟩
          have := sM hm (by rw [e]; exact g1)
          show x.now + c t ≤ _; omega
        · rw [if_neg e]; exact ⟨w', g1, g2⟩
      by_cases e : r = p
      · subst e
        rw [if_pos rfl, List.mem_append, List.mem_singleton] at hu
        rcases hu with hu | hu
        · exact old (h3 u hu)
        · subst hu
          rw [hwp] at h1; injection h1 with h1
          exact ⟨_, by rw [hget, if_pos rfl], by show x.now + c u ≤ _; rw [← h1, hwn]; omega⟩
      · rw [if_neg e] at hu; exact old (h3 u hu)
    · rw [hget] at hq
      show x.now ≤ w.all ∧ q ∈ rowAt (cz x.queue (x.now + c t) (rowAt x.queue (x.now + c t) ++ [bf p t])) w.all
      rw [l8]
      by_cases e : bf p t = q
      · rw [if_pos e] at hq; injection hq with hq; subst hq
        rw [if_pos rfl]
        exact ⟨by show x.now ≤ x.now + c t; omega, List.mem_append.2 (.inr (List.mem_singleton.2 e.symm))⟩
      · rw [if_neg e] at hq
        obtain ⟨h1, h2⟩ := h.wait q w hq hqd
        refine ⟨h1, ?_⟩
        by_cases e2 : x.now + c t = w.all
        · rw [if_pos e2, e2]; exact List.mem_append.2 (.inl h2)
        · rw [if_neg e2]; exact h2
    · have hq : q ∈ rowAt (cz x.queue (x.now + c t) (rowAt x.queue (x.now + c t) ++ [bf p t])) m := hq
      rw [l8] at hq
      show x.now ≤ m ∧ m ≤ 300 * x.done.length ∧ ∃ w, bU (cz x.ways (bf p t) ⟨p, [t], x.now + c t⟩) q = some w ∧ w.all ≤ m
      rw [hget]
      have old : q ∈ rowAt x.queue m → x.now ≤ m ∧ m ≤ 300 * x.done.length ∧ ∃ w, (if bf p t = q then some ⟨p, [t], x.now + c t⟩ else bU x.ways q) = some w ∧ w.all ≤ m := fun hq => by
        obtain ⟨h1, h2, w, h3, h4⟩ := h.que m q hq
        refine ⟨h1, h2, ?_⟩
        by_cases e : bf p t = q
        · rw [if_pos e]
          have := sM hm (by rw [e]; exact h3)
          exact ⟨_, rfl, by show x.now + c t ≤ m; omega⟩
        · rw [if_neg e]; exact ⟨w, h3, h4⟩
      by_cases e2 : x.now + c t = m
      · rw [if_pos e2, List.mem_append, List.mem_singleton] at hq
        rcases hq with hq | hq
        · exact old (by rw [← e2]; exact hq)
        · subst hq
          rw [if_pos rfl]
          exact ⟨by omega, by omega, _, rfl, by show x.now + c t ≤ m; omega⟩
      · rw [if_neg e2] at hq; exact old hq
    · show x.left + 1 = m5 (cz _ _ _)
      rw [zq, List.length_append, List.length_singleton, h.left]; omega
    · show x.left + 1 + (R - 1) ≤ 1 + 42 * x.done.length
      have := h.lim; omega
    · rw [hget] at hq
      show w.all ≤ 300 * x.done.length
      by_cases e : bf p t = q
      · rw [if_pos e] at hq; injection hq with hq; subst hq
        show x.now + c t ≤ _; omega
      · rw [if_neg e] at hq; exact h.cap q w hq
def upTo (b : aW) (p : Pl) (k : Nat) (r : Pl) : List bu := if r = p then (ay b p).take k else ay b r
def cV (b : aW) (c : bu → Int) (p : Pl) (z : St) (k : Nat) : St := ((ay b p).take k).foldl (mu c p) z
theorem su {z : St} {k : Nat} (hk : k < (ay b p).length) : cV b c p z (k + 1) = mu c p (cV b c p z k) (nth (ay b p) k) := by
 unfold cV; rw [cE hk, List.foldl_append]; rfl
theorem sj (z : St) (k : Nat) : (cV b c p z k).done = z.done := by
  unfold cV
  generalize (ay b p).take k = l
  induction l generalizing z with
  | nil => rfl
  | cons t l ih => rw [List.foldl_cons, ih, Gm]
theorem rD (z : St) (k : Nat) : (cV b c p z k).now = z.now := by
  unfold cV
  generalize (ay b p).take k = l
  induction l generalizing z with
  | nil => rfl
  | cons t l ih => rw [List.foldl_cons, ih, Jl]
def iC (b : aW) (c : bu → Int) : Prop := ∀ t : bu, 0 ≤ t.cJ → t.cJ < b.lots.length → 1 ≤ c t ∧ c t ≤ 300
theorem iC.at (hc : iC b c) (ht : t ∈ ay b p) : 1 ≤ c t ∧ c t ≤ 300 := hc t (eG.1 ht).1 (eG.1 ht).2.1
theorem za (hc : iC b c) {z : St} (h : Inv b c all (upTo b p 0) 42 z) (hp : At b p z) : ∀ k, k ≤ (ay b p).length → Inv b c all (upTo b p k) (42 - k) (cV b c p z k) ∧ At b p (cV b c p z k)
  | 0, _ => ⟨h, hp⟩
  | k + 1, hk => by
    obtain ⟨h1, h2⟩ := za hc h hp k (by omega)
    have hm : nth (ay b p) k ∈ ay b p := bh (by omega)
    obtain ⟨h3, h4⟩ := Iw h1 h2 hm (hc.at hm)
    rw [su (by omega)]
    refine ⟨?_, h4⟩
    have h5 : Inv b c all (fun r => if r = p then upTo b p k r ++ [nth (ay b p) k] else upTo b p k r) (42 - (k + 1 : Nat)) (mu c p (cV b c p z k) (nth (ay b p) k)) := h3.weaken (by omega)
    refine h5.RF fun r _ u hu => ?_
    unfold upTo at hu ⊢
    by_cases e : r = p
    · rw [if_pos e] at hu; rw [if_pos e, if_pos e, ← cE (by omega)]; exact hu
    · rw [if_neg e] at hu; rw [if_neg e, if_neg e]; exact hu
def eN (x : St) (rest : List Pl) : St := { x with queue := cz x.queue x.now rest, left := x.left - 1 }
def marked (x : St) (p : Pl) : St := { x with done := cz x.done p true }
def later (x : St) : St := { x with queue := lH x.queue x.now, now := x.now + 1 }
def jf (x : St) (p : Pl) : Bool := (bU x.done p).getD false
theorem Inv.tU (h : Inv b c all F R x) (p : Pl) : (jf x p = true ↔ bU x.done p = some true) ∧ (jf x p = false ↔ bU x.done p = none) := by
  unfold jf
  cases e : bU x.done p with
  | none => simp
  | some v => rw [h.dval p v e]; simp
theorem NN {rest : List Pl} (h : Inv b c all F R x) (hq : rowAt x.queue x.now = p :: rest) (hd : ∀ w, bU x.ways p = some w → bU x.done p = none → False) : Inv b c all F R (eN x rest) where
 now0 := h.now0
 start := h.start
 keys := h.keys
 qkeys := jz _ _ _ h.qkeys
 dkeys := h.dkeys
 dval := h.dval
 via := h.via
 walk := h.walk
 fin := h.fin
 wait := fun q w hw hn => by
  obtain ⟨h1, h2⟩ := h.wait q w hw hn
  refine ⟨h1, ?_⟩
  show q ∈ rowAt (cz x.queue x.now rest) w.all
  rw [l8]
  by_cases e : x.now = w.all
  ·rw [if_pos e]
   rw [← e, hq, List.mem_cons] at h2
   rcases h2 with h2 | h2
   ·subst h2; exact (hd w hw hn).elim
   exact h2
  rw [if_neg e]; exact h2
 que := fun m q hq' => by
  have hq' : q ∈ rowAt (cz x.queue x.now rest) m := hq'
  rw [l8] at hq'
  refine h.que m q ?_
  by_cases e : x.now = m
  ·rw [if_pos e] at hq'; rw [← e, hq]; exact List.mem_cons_of_mem _ hq'
  rw [if_neg e] at hq'; exact hq'
 left := by
  show x.left - 1 = m5 (cz x.queue x.now rest)
  rw [zq, hq, List.length_cons, h.left]; omega
 lim := by show x.left - 1 + R ≤ 1 + 42 * x.done.length; have := h.lim; omega
 no := h.no
 cap := h.cap
theorem Ey {rest : List Pl} (h : Inv b c all F R x) (hq : rowAt x.queue x.now = p :: rest) (hd : jf (eN x rest) p = true) : Inv b c all F R (eN x rest) :=
 NN h hq fun w _ hn => by rw [((h.tU p).1.1 hd)] at hn; cases hn
theorem zc {rest : List Pl} (h : Inv b c all (ay b) 0 x) (hq : rowAt x.queue x.now = p :: rest) (hd : jf (eN x rest) p = false) (hm : all = false → dj b p = false) :
 Inv b c all (upTo b p 0) 42 (marked (eN x rest) p) ∧ At b p (marked (eN x rest) p) := by
 have hn : bU x.done p = none := (h.tU p).2.1 hd
 obtain ⟨g1, g2, w, hw, g3⟩ := h.que x.now p (by rw [hq]; exact List.mem_cons_self)
 obtain ⟨g4, g5⟩ := h.wait p w hw hn
 have hlen : (cz x.done p true).length = x.done.length + 1 := tP _ _ _ hn
 have hget : ∀ r, bU (cz x.done p true) r = if p = r then some true else bU x.done r := fun r => q4 _ _ _ _
 refine ⟨{ now0 := h.now0, start := h.start, keys := h.keys, qkeys := jz _ _ _ h.qkeys, dkeys := jz _ _ _ h.dkeys, dval := fun r v hv => ?_, via := fun q w' hq' => ?_, walk := h.walk, fin := fun r hr => ?_, wait := fun q w' hw' hn' => ?_, que := fun m q hq' => ?_, left := ?_, lim := ?_, no := fun ha r hr => ?_, cap := fun q w' hq' => ?_ }, ⟨?_, ⟨w, hw, by show w.all = x.now; omega⟩, ?_⟩⟩
 ·have hv : bU (cz x.done p true) r = some v := hv
  rw [hget] at hv
  by_cases e : p = r
  ·rw [if_pos e] at hv; injection hv with hv; exact hv.symm
  rw [if_neg e] at hv; exact h.dval r v hv
 ·rcases h.via q w' hq' with h1 | ⟨u, w2, h1, h2, h3, h4, h5, h6⟩
  ·exact .inl h1
  exact .inr ⟨u, w2, h1, h2, h3, by show bU (cz x.done p true) w'.frm = some true; rw [hget]; split <;> first | rfl | exact h4, h5, h6⟩
 ·have hr : bU (cz x.done p true) r = some true := hr
  rw [hget] at hr
  by_cases e : p = r
  ·subst e; exact ⟨w, hw, g3, fun u hu => by unfold upTo at hu; rw [if_pos rfl] at hu; cases hu⟩
  rw [if_neg e] at hr
  obtain ⟨w', e1, e2, e3⟩ := h.fin r hr
  exact ⟨w', e1, e2, fun u hu => by unfold upTo at hu; rw [if_neg (fun e' => e e'.symm)] at hu; exact e3 u hu⟩
 ·have hn' : bU (cz x.done p true) q = none := hn'
  rw [hget] at hn'
  by_cases e : p = q
  ·rw [if_pos e] at hn'; cases hn'
  rw [if_neg e] at hn'
  obtain ⟨h1, h2⟩ := h.wait q w' hw' hn'
  refine ⟨h1, ?_⟩
  show q ∈ rowAt (cz x.queue x.now rest) w'.all
  rw [l8]
  by_cases e2 : x.now = w'.all
  ·rw [if_pos e2]; rw [← e2, hq, List.mem_cons] at h2
   exact h2.resolve_left fun h => e h.symm
  rw [if_neg e2]; exact h2
 ·have hq' : q ∈ rowAt (cz x.queue x.now rest) m := hq'
  rw [l8] at hq'
  have : q ∈ rowAt x.queue m := by
   by_cases e : x.now = m
   ·rw [if_pos e] at hq'; rw [← e, hq]; exact List.mem_cons_of_mem _ hq'
   rw [if_neg e] at hq'; exact hq'
  obtain ⟨h1, h2, h3⟩ := h.que m q this
  exact ⟨h1, by show m ≤ 300 * ((cz x.done p true).length : Int); rw [hlen]; omega, h3⟩
 ·show x.left - 1 = m5 (cz x.queue x.now rest)
  rw [zq, hq, List.length_cons, h.left]; omega
 ·show x.left - 1 + 42 ≤ 1 + 42 * ((cz x.done p true).length : Int)
  rw [hlen]; have := h.lim; omega
 ·have hr : bU (cz x.done p true) r = some true := hr
  rw [hget] at hr
  by_cases e : p = r
  ·subst e; exact hm ha
  rw [if_neg e] at hr; exact h.no ha r hr
 ·show w'.all ≤ 300 * ((cz x.done p true).length : Int)
  rw [hlen]; have := h.cap q w' hq'; omega
 ·show bU (cz x.done p true) p = some true
  rw [hget, if_pos rfl]
 show x.now + 300 ≤ 300 * ((cz x.done p true).length : Int)
 rw [hlen]; omega
theorem CC (h : Inv b c all F R x) (hq : rowAt x.queue x.now = []) : Inv b c all F R (later x) where
 now0 := by show 0 ≤ x.now + 1; have := h.now0; omega
 start := h.start
 keys := h.keys
 qkeys := Gn _ _ h.qkeys
 dkeys := h.dkeys
 dval := h.dval
 via := h.via
 walk := h.walk
 fin := fun p hp => by
  obtain ⟨w, h1, h2, h3⟩ := h.fin p hp
  exact ⟨w, h1, by show w.all ≤ x.now + 1; omega, h3⟩
 wait := fun q w hw hn => by
  obtain ⟨h1, h2⟩ := h.wait q w hw hn
  have hne : x.now ≠ w.all := fun e => by rw [← e, hq] at h2; cases h2
  refine ⟨by show x.now + 1 ≤ w.all; omega, ?_⟩
  show q ∈ rowAt (lH x.queue x.now) w.all
  rw [BW _ _ _ h.qkeys, if_neg hne]; exact h2
 que := fun m q hq' => by
  have hq' : q ∈ rowAt (lH x.queue x.now) m := hq'
  rw [BW _ _ _ h.qkeys] at hq'
  by_cases e : x.now = m
  ·rw [if_pos e] at hq'; cases hq'
  rw [if_neg e] at hq'
  obtain ⟨h1, h2⟩ := h.que m q hq'
  exact ⟨by show x.now + 1 ≤ m; omega, h2⟩
 left := by show x.left = m5 (lH x.queue x.now); rw [E2, hq, h.left]; simp
 lim := h.lim
 no := h.no
 cap := h.cap
def tV (b : aW) : St := ⟨[(bE b, jj)], [(0, [bE b])], 1, [], 0⟩
theorem Q5 (b : aW) (c : bu → Int) (all : Bool) : Inv b c all (ay b) 0 (tV b) where
 now0 := Int.le_refl _
 start := by simp [tV, bU]
 keys := by simp [tV]
 qkeys := by simp [tV]
 dkeys := by simp [tV]
 dval := fun p v h => by cases h
 via := fun q w h => by
  simp only [tV, bU] at h
  by_cases e : bE b = q
  ·exact .inl e.symm
  rw [if_neg e] at h; cases h
 walk := fun q w h => by
  simp only [tV, bU] at h
  by_cases e : bE b = q
  ·rw [if_pos e] at h; injection h with h; subst h; exact ⟨[], by rw [← e]; rfl, rfl⟩
  rw [if_neg e] at h; cases h
 fin := fun p h => by cases h
 wait := fun q w h _ => by
  simp only [tV, bU] at h
  by_cases e : bE b = q
  ·rw [if_pos e] at h; injection h with h; subst h; exact ⟨Int.le_refl _, by simp [tV, rowAt, bU, jj, e]⟩
  rw [if_neg e] at h; cases h
 que := fun m q h => by
  simp only [tV, rowAt, bU] at h
  by_cases e : (0 : Int) = m
  ·subst e; rw [if_pos rfl] at h
   rw [List.mem_singleton.1 h]
   exact ⟨Int.le_refl _, by simp [tV], jj, by simp [tV, bU], Int.le_refl _⟩
  rw [if_neg e] at h; cases h
 left := rfl
 lim := by simp [tV]
 no := fun _ p h => by cases h
 cap := fun q w h => by
  simp only [tV, bU] at h
  by_cases e : bE b = q
  ·rw [if_pos e] at h; injection h with h; subst h; exact Int.le_refl _
  rw [if_neg e] at h; cases h
def mE (b : aW) (c : bu → Int) (all : Bool) (x : St) : St ⊕ Found :=
  if x.left ≤ 0 then .inr ⟨x.ways, KM, false⟩ else
  match rowAt x.queue x.now with
  | [] => .inl (later x)
  | p :: rest =>
    if jf (eN x rest) p = true then .inl (eN x rest) else
    if (!all && dj b p) = true then .inr ⟨x.ways, p, true⟩ else .inl (cV b c p (marked (eN x rest) p) (ay b p).length)
def runN (b : aW) (c : bu → Int) (all : Bool) : Nat → St → Option Found
  | 0, _ => none
  | n + 1, x => match mE b c all x with
    | .inr f => some f
    | .inl y => runN b c all n y
def Ends (b : aW) (c : bu → Int) (all : Bool) (x : St) (f : Found) : Prop := ∃ n, runN b c all n x = some f
theorem EK : ∀ {n m : Nat} {x : St} {f f' : Found}, runN b c all n x = some f → runN b c all m x = some f' → f = f'
  | 0, _, _, _, _, h, _ => by cases h
  | _, 0, _, _, _, _, h => by cases h
  | n + 1, m + 1, x, f, f', h, h' => by
    unfold runN at h h'
    cases e : mE b c all x with
    | inr g => rw [e] at h h'; injection h with h; injection h' with h'; rw [← h, ← h']
    | inl y => rw [e] at h h'; exact EK h h'
theorem Ends.QK {f f' : Found} (h : Ends b c all x f) (h' : Ends b c all x f') : f = f' := let ⟨_, h⟩ := h; let ⟨_, h'⟩ := h'; EK h h'
theorem Ends.step {y : St} {f : Found} (e : mE b c all x = .inl y) (h : Ends b c all y f) : Ends b c all x f := by
 obtain ⟨n, h⟩ := h
 exact ⟨n + 1, by unfold runN; rw [e]; exact h⟩
theorem Ends.stop {f : Found} (e : mE b c all x = .inr f) : Ends b c all x f := ⟨1, by unfold runN; rw [e]⟩
open Classical in
noncomputable def cZ (b : aW) (c : bu → Int) (all : Bool) : Found := if h : ∃ f, Ends b c all (tV b) f then h.choose else default
theorem sE {f : Found} (h : Ends b c all (tV b) f) : cZ b c all = f := by
 unfold cZ
 rw [dif_pos ⟨f, h⟩]
 exact (Exists.choose_spec (⟨f, h⟩ : ∃ f, Ends b c all (tV b) f)).QK h
theorem step_end (h : x.left ≤ 0) : mE b c all x = .inr ⟨x.ways, KM, false⟩ := if_pos h
theorem zW (h : 0 < x.left) (hq : rowAt x.queue x.now = []) : mE b c all x = .inl (later x) := by
 unfold mE; rw [if_neg (by omega), hq]
theorem FN {rest : List Pl} (h : 0 < x.left) (hq : rowAt x.queue x.now = p :: rest) (hd : jf (eN x rest) p = true) : mE b c all x = .inl (eN x rest) := by
 unfold mE; rw [if_neg (by omega), hq]; exact if_pos hd
theorem zK {rest : List Pl} (h : 0 < x.left) (hq : rowAt x.queue x.now = p :: rest) (hd : jf (eN x rest) p = false) (hm : (!all && dj b p) = true) : mE b c all x = .inr ⟨x.ways, p, true⟩ := by
 unfold mE; rw [if_neg (by omega), hq]
 show (if jf (eN x rest) p = true then _ else _) = _
 rw [if_neg (by rw [hd]; decide), if_pos hm]
theorem FM {rest : List Pl} (h : 0 < x.left) (hq : rowAt x.queue x.now = p :: rest) (hd : jf (eN x rest) p = false) (hm : (!all && dj b p) = false) : mE b c all x = .inl (cV b c p (marked (eN x rest) p) (ay b p).length) := by
 unfold mE; rw [if_neg (by omega), hq]
 show (if jf (eN x rest) p = true then _ else _) = _
 rw [if_neg (by rw [hd]; decide), if_neg (by rw [hm]; decide)]
theorem s9 {rest : List Pl} (h : Inv b c all F R x) (hq : rowAt x.queue x.now = p :: rest) : 0 < x.left := by
 have := zO x.queue x.now
 rw [hq, List.length_cons, ← h.left] at this; omega
noncomputable def AL (x : St) : Nat := (dA - x.done.length) * 43 + (300 * dA - x.now).toNat + x.left.toNat
theorem Inv.IF (h : Inv b c all F R x) (hr : b.dD) : x.done.length ≤ dA := by
 have := zI h.dkeys fun p hp => by
  obtain ⟨v, hv⟩ := EP hp
  rw [h.dval p v hv] at hv
  obtain ⟨w, hw, _⟩ := h.fin p hv
  obtain ⟨l, hl, _⟩ := h.walk p w hw
  exact zG hr l (yH hr) hl
 rwa [List.length_map] at this
theorem Inv.Rm (h : Inv b c all F R x) (hr : b.dD) (hl : 0 < x.left) (hq : rowAt x.queue x.now = []) : x.now < 300 * dA := by
  obtain ⟨m, hm⟩ := E1 x.queue (by rw [← h.left]; exact hl) h.qkeys
  have h1 := h.IF hr
  cases e : rowAt x.queue m with
  | nil => exact absurd e hm
  | cons q r =>
    obtain ⟨h2, h3, _⟩ := h.que m q (by rw [e]; exact List.mem_cons_self)
    have : x.now ≠ m := fun e' => by rw [← e', hq] at e; cases e
    omega
theorem Ee (h : Inv b c all F R x) (hr : b.dD) (hl : 0 < x.left) (hq : rowAt x.queue x.now = []) : AL (later x) < AL x := by
 have h1 := h.Rm hr hl hq
 have h2 := h.now0
 show (dA - x.done.length) * 43 + (300 * dA - (x.now + 1)).toNat + x.left.toNat < (dA - x.done.length) * 43 + (300 * dA - x.now).toNat + x.left.toNat
 omega
theorem FI (x : St) : AL (later x) ≤ AL x := by
 show (dA - x.done.length) * 43 + (300 * dA - (x.now + 1)).toNat + x.left.toNat ≤ (dA - x.done.length) * 43 + (300 * dA - x.now).toNat + x.left.toNat
 omega
theorem Gk {rest : List Pl} (h : Inv b c all F R x) (hq : rowAt x.queue x.now = p :: rest) : AL (eN x rest) < AL x := by
 have := s9 h hq
 show (dA - x.done.length) * 43 + (300 * dA - x.now).toNat + (x.left - 1).toNat < (dA - x.done.length) * 43 + (300 * dA - x.now).toNat + x.left.toNat
 omega
theorem GQ (c : bu → Int) (p : Pl) (x : St) (t : bu) : (mu c p x t).left ≤ x.left + 1 := by
 unfold mu; split
 ·omega
 exact Int.le_refl _
theorem GU (z : St) : ∀ k, (cV b c p z k).left ≤ z.left + k := by
  intro k
  have : ∀ (l : List bu) (z : St), (l.foldl (mu c p) z).left ≤ z.left + l.length := by
    intro l
    induction l with
    | nil => intro z; simp
    | cons t l ih =>
      intro z
      have h1 := ih (mu c p z t)
      have h2 := GQ c p z t
      rw [List.foldl_cons, List.length_cons]; omega
  have h1 := this ((ay b p).take k) z
  have h2 := List.length_take_le k (ay b p)
  unfold cV; omega
theorem G0 {rest : List Pl} (h : Inv b c all (ay b) 0 x) (hr : b.dD) (hq : rowAt x.queue x.now = p :: rest) (hd : jf (eN x rest) p = false) (hi : Inv b c all (upTo b p 0) 42 (marked (eN x rest) p)) : AL (cV b c p (marked (eN x rest) p) (ay b p).length) < AL x := by
 have h1 := s9 h hq
 have h2 := GU (b := b) (c := c) (p := p) (marked (eN x rest) p) (ay b p).length
 have h3 := sH hr p
 have h4 := hi.IF hr
 have h5 : (cz x.done p true).length = x.done.length + 1 := tP _ _ _ ((h.tU p).2.1 hd)
 unfold AL
 rw [sj, rD]
 have h4 : (cz x.done p true).length ≤ dA := h4
 have h2 : (cV b c p (marked (eN x rest) p) (ay b p).length).left ≤ x.left - 1 + (ay b p).length := h2
 show (dA - (cz x.done p true).length) * 43 + (300 * dA - x.now).toNat + _ < _
 rw [h5] at h4 ⊢
 omega
theorem H7 {rest : List Pl} (hr : b.dD) (hc : iC b c) (h : Inv b c all (ay b) 0 x) (hq : rowAt x.queue x.now = p :: rest) (hd : jf (eN x rest) p = false) (hm : (!all && dj b p) = false) : Inv b c all (ay b) 0 (cV b c p (marked (eN x rest) p) (ay b p).length) := by
 obtain ⟨h1, h2⟩ := zc h hq hd (fun ha => by rw [ha] at hm; simpa using hm)
 obtain ⟨h3, _⟩ := za hc h1 h2 _ (Nat.le_refl _)
 have := sH hr p
 refine (h3.weaken (R' := 0) (by omega)).RF fun r _ u hu => ?_
 unfold upTo
 by_cases e : r = p
 ·rw [if_pos e, List.take_length, ← e]; exact hu
 rw [if_neg e]; exact hu
structure Found.Spec (b : aW) (c : bu → Int) (all : Bool) (f : Found) : Prop where
  start : bU f.ways (bE b) = some jj
  keys : (f.ways.map Prod.fst).Nodup
  via : ∀ q w, bU f.ways q = some w → q = bE b ∨ ∃ t w', w.byT = [t] ∧ t ∈ ay b w.frm ∧ q = bf w.frm t ∧ bU f.ways w.frm = some w' ∧ w.all = w'.all + c t
  walk : ∀ q w, bU f.ways q = some w → ∃ l, mw b (bE b) l = some q ∧ gz c l = w.all
  yes : f.is = true → dj b f.last = true ∧ ∃ w, bU f.ways f.last = some w ∧ ∀ l q, mw b (bE b) l = some q → dj b q = true → w.all ≤ gz c l
  no : f.is = false → all = false → ∀ l q, mw b (bE b) l = some q → dj b q = false
  cap : ∀ q w, bU f.ways q = some w → w.all ≤ 300 * dA
  whole : all = true → f.is = false ∧ ∀ l q, mw b (bE b) l = some q → ∃ w, bU f.ways q = some w
theorem yu (hc : iC b c) : ∀ (l : List bu) {p q : Pl}, mw b p l = some q → 0 ≤ gz c l
  | [], _, _, _ => Int.le_refl _
  | t :: l, p, q, h => by
    have h : (if t ∈ ay b p then mw b (bf p t) l else none) = some q := h
    by_cases ht : t ∈ ay b p
    · rw [if_pos ht] at h
      have h1 := yu hc l h
      have h2 := hc.at ht
      show 0 ≤ gz c ([t] ++ l)
      rw [lQ, rJ]; omega
    · rw [if_neg ht] at h; cases h
theorem Inv.near (hc : iC b c) (h : Inv b c all (ay b) 0 x) : ∀ (l : List bu) (q : Pl), mw b (bE b) l = some q → gz c l < x.now → bU x.done q = some true ∧ ∃ w, bU x.ways q = some w ∧ w.all ≤ gz c l := by
  have key : ∀ q w k, bU x.ways q = some w → w.all ≤ k → k < x.now → bU x.done q = some true := fun q w k hw h1 h2 => by
    cases e : bU x.done q with
    | none => have := (h.wait q w hw e).1; omega
    | some v => rw [h.dval q v e]
  refine nk (fun q e hl => ?_) fun l t ih q e hl => ?_
  · injection e with e; subst e
    exact ⟨key _ _ _ h.start (Int.le_refl _) hl, _, h.start, Int.le_refl _⟩
  · obtain ⟨r, e1, e2, e3⟩ := oU e
    rw [lQ, rJ] at hl ⊢
    have := hc.at e2
    obtain ⟨h1, w, h2, h3⟩ := ih r e1 (by omega)
    obtain ⟨w0, g1, g2, g3⟩ := h.fin r h1
    rw [h2] at g1; injection g1 with g1; subst g1
    obtain ⟨w', g4, g5⟩ := g3 t e2
    subst e3
    exact ⟨key _ _ _ g4 (by omega) hl, w', g4, by omega⟩
theorem Inv.closed (h : Inv b c all (ay b) 0 x) (hl : x.left ≤ 0) : ∀ (l : List bu) (q : Pl), mw b (bE b) l = some q → bU x.done q = some true := by
  have hz : ∀ m, rowAt x.queue m = [] := fun m => by
    have := zO x.queue m
    rw [← h.left] at this
    exact List.length_eq_zero_iff.1 (by omega)
  have key : ∀ q w, bU x.ways q = some w → bU x.done q = some true := fun q w hw => by
    cases e : bU x.done q with
    | none => have := (h.wait q w hw e).2; rw [hz] at this; cases this
    | some v => rw [h.dval q v e]
  refine nk (fun q e => ?_) fun l t ih q e => ?_
  · injection e with e; subst e; exact key _ _ h.start
  · obtain ⟨r, e1, e2, e3⟩ := oU e
    obtain ⟨w, h1, h2, h3⟩ := h.fin r (ih r e1)
    obtain ⟨w', h4, _⟩ := h3 t e2
    subst e3; exact key _ _ h4
theorem Eo (hr : b.dD) (h : Inv b c all (ay b) 0 x) (hl : x.left ≤ 0) : Found.Spec b c all ⟨x.ways, KM, false⟩ where
 start := h.start
 keys := h.keys
 via := fun q w hw => (h.via q w hw).imp id fun ⟨t, w', h1, h2, h3, _, h5, h6⟩ => ⟨t, w', h1, h2, h3, h5, h6⟩
 walk := h.walk
 yes := fun e => by cases e
 no := fun _ ha l q e => h.no ha q (h.closed hl l q e)
 cap := fun q w hw => by have h1 := h.cap q w hw; have h2 := h.IF hr; omega
 whole := fun _ => ⟨rfl, fun l q e => let ⟨w, h1, _⟩ := h.fin q (h.closed hl l q e); ⟨w, h1⟩⟩
theorem Gp {rest : List Pl} (hr : b.dD) (hc : iC b c) (h : Inv b c all (ay b) 0 x) (hq : rowAt x.queue x.now = p :: rest) (hd : jf (eN x rest) p = false) (hm : (!all && dj b p) = true) : Found.Spec b c all ⟨x.ways, p, true⟩ := by
 simp only [Bool.and_eq_true, Bool.not_eq_true'] at hm
 have hn : bU x.done p = none := (h.tU p).2.1 hd
 obtain ⟨g1, g2, w, hw, g3⟩ := h.que x.now p (by rw [hq]; exact List.mem_cons_self)
 refine ⟨h.start, h.keys, fun q w hw => (h.via q w hw).imp id fun ⟨t, w', h1, h2, h3, _, h5, h6⟩ => ⟨t, w', h1, h2, h3, h5, h6⟩, h.walk, fun _ => ⟨hm.2, w, hw, fun l q e hq => ?_⟩, (fun e => by cases e), (fun q w hw => by have h1 := h.cap q w hw; have h2 := h.IF hr; omega), (fun e => by rw [hm.1] at e; cases e)⟩
 rcases Int.lt_or_le (gz c l) x.now with h1 | h1
 ·have := h.no hm.1 q (h.near hc l q e h1).1
  rw [hq] at this; cases this
 omega
theorem Dd (hr : b.dD) (hc : iC b c) : ∀ (n : Nat) (x : St), AL x ≤ n → Inv b c all (ay b) 0 x → ∃ f, Ends b c all x f ∧ f.Spec b c all := by
  intro n
  induction n with
  | zero =>
    intro x hx h
    have hl : x.left ≤ 0 := by unfold AL at hx; omega
    exact ⟨_, .stop (step_end hl), Eo hr h hl⟩
  | succ n ih =>
    intro x hx h
    rcases Int.lt_or_le 0 x.left with hl | hl
    · cases hq : rowAt x.queue x.now with
      | nil =>
        obtain ⟨f, h1, h2⟩ := ih (later x) (by have := Ee h hr hl hq; omega) (CC h hq)
        exact ⟨f, h1.step (zW hl hq), h2⟩
      | cons p rest =>
        cases hd : jf (eN x rest) p with
        | true =>
          obtain ⟨f, h1, h2⟩ := ih _ (by have := Gk h hq; omega) (Ey h hq hd)
          exact ⟨f, h1.step (FN hl hq hd), h2⟩
        | false =>
          cases hm : !all && dj b p with
          | true => exact ⟨_, .stop (zK hl hq hd hm), Gp hr hc h hq hd hm⟩
          | false =>
            obtain ⟨f, h1, h2⟩ := ih _ (by have := G0 h hr hq hd (zc h hq hd (fun ha => by rw [ha] at hm; simpa using hm)).1; omega) (H7 hr hc h hq hd hm)
            exact ⟨f, h1.step (FM hl hq hd hm), h2⟩
    · exact ⟨_, .stop (step_end hl), Eo hr h hl⟩
theorem Ff (hr : b.dD) (hc : iC b c) (all : Bool) : (cZ b c all).Spec b c all ∧ Ends b c all (tV b) (cZ b c all) := by
 obtain ⟨f, h1, h2⟩ := Dd (all := all) hr hc _ (tV b) (Nat.le_refl _) (Q5 b c all)
 rw [sE h1]; exact ⟨h2, h1⟩
def pZ (b : aW) (c : bu → Int) (all : Bool) (x : St) : Prop := ∀ f, Ends b c all x f → cZ b c all = f
theorem RD : pZ b c all (tV b) := fun _ h => sE h
theorem pZ.step {y : St} (h : pZ b c all x) (e : mE b c all x = .inl y) : pZ b c all y := fun f hf => h f (hf.step e)
theorem pZ.stop {f : Found} (h : pZ b c all x) (e : mE b c all x = .inr f) : cZ b c all = f := h f (.stop e)
end Go.Proofs.YtmmcenjknimhbaaGreat
namespace Go.T
open Go Go.RowKit Go.Lib
def R7 (T size tg n : Nat) (w : World) (M : ah) (v : Value) : Prop :=
  ∃ (b c : Nat) (cur : Array Value), v = .slice (some ⟨b, 0, none⟩) n c ∧ n ≤ c ∧ c ≤ maxLen ∧ M b = some tg ∧ w.heap[b]? = some (.cells cur T (0, 0)) ∧ cur.size = c * size
def Ty.rm (T size tg n : Nat) : Ty :=
  ⟨R7 T size tg n, [tg], [tg], fun le hk hs ⟨b, c, cur, h1, h2, h3, h4, h5, h6⟩ =>
    have h := le.own b tg h4 (hk tg (by simp))
    ⟨b, c, cur, h1, h2, h3, h.1, (h.2 (hs tg (by simp))).trans h5, h6⟩, true, fun _ ⟨_, _, _, h1, _⟩ => by subst h1; rfl⟩
section
variable {P : Program} {fr : Fr} {ops : Array Oper} {A : As} {rest : List Oper} {K : As → List (As × Fx) → Prop} {d : Nat} {t ty' ty2 : TypeId} {p : String} {e : Array Edge} [T : k5 P]
theorem A5 {x y : Operand} {k : IntKind} {n : Int} {st it el : Nat} {ti te tn : TI} {kn : IntKind} (hx : A.op fr x = .ex (.slice none 0 0)) (hy : A.op fr y = .int k n) (hT : T.tab[st]? = some ti) (hk : ti.k = .slice el) (hI : T.tab[it]? = some tn) (hkn : tn.k = .int kn) (hE : T.tab[el]? = some te) (hz : te.zero.length = te.size) (hzp : 0 < te.size) (hp : fr.pass.contains (d + 1) = false)
    (hn : 0 < n) (hlen : n.toNat * te.bytes ≤ 140737488355328) (hlen' : n.toNat ≤ 4611686018427387904)
    (h : aV P fr ops rest (A.after { d := some d, ty := .rm el te.size (d + 1) n.toNat, K := [d + 1], rs := bR x ++ bR y }) fun A' l' => K A' ((A, { d := some d, ty := .rm el te.size (d + 1) n.toNat, K := [d + 1], rs := bR x ++ bR y }) :: l')) :
    aV P fr ops (⟨some d, .call ⟨.builtin .append, #[x, y], #[st, it]⟩, t, p, e, none⟩ :: rest) A K := by
  refine ⟨_, fH rfl rfl (by simp) (by simp) (by simp at hp ⊢; exact hp) fun a w M wf hr _ => ?_, h⟩
  obtain ⟨hdx, hdy⟩ := op2 hr
  rw [hx] at hdx; rw [hy] at hdy
  have ex : a.eval x = .slice none 0 0 := hdx
  have ey : a.eval y = .int k n := hdy
  obtain ⟨_, D, _, hD, hkd, _⟩ := cF hT
  rw [hk] at hkd
  cases D <;> simp only [TK.of, reduceCtorEq, TK.slice.injEq] at hkd
  rename_i el0
  have hel : el0 = el := hkd
  subst hel
  obtain ⟨_, D', _, hD', hkd', _⟩ := cF hI
  rw [hkn] at hkd'
  cases D' <;> simp only [TK.of, reduceCtorEq, TK.int.injEq] at hkd'
  subst hkd'
  rename_i kk
  obtain ⟨i, _, hi, _, _, hsz, hby, hze⟩ := cF hE
  obtain ⟨z, hiz⟩ : ∃ z, i.zero = some z := by
    cases hiz : i.zero with
    | none => rw [hiz] at hze; rw [← hze] at hz; simp at hz; omega
    | some z => exact ⟨z, rfl⟩
  rw [hiz] at hze
  have hzs : z.cells.size = i.size := by rw [hsz, ← hz, ← hze]; simp
  have hnn : ((n.toNat : Nat) : Int) = n := by omega
  have hfit := growslice_fits (need := n.toNat) (old := 0) (bytes := i.bytes) (by omega) (by rw [hby]; exact hlen)
  have hrun := run_append_grow_zeros (P := P) w st it t _ i z k kk hD hD' hi hiz none 0 0 [] (run_firstCells_none w.drew i.size 0 0 0) n.toNat (by omega) (by omega) (by omega) (by omega) (by rw [hby]; omega) (by simpa using hfit)
  rw [hnn] at hrun
  simp only [Nat.zero_add] at hrun
  have hge := grownCap_ge w n.toNat 0 el0
  have hle := grownCap_le_maxLen w n.toNat 0 el0 (by simp only [maxLen]; omega)
  generalize grownCap w n.toNat 0 el0 = C at *
  have wf' : Wf w.drew M := ⟨wf.lt, wf.inj⟩
  have hcs : (([] : List Value).toArray ++ Builtin.zeroCells z.cells n.toNat ++ Builtin.zeroCells z.cells (C - n.toNat)).size = C * te.size := by
    simp only [Array.size_append, Builtin.zeroCells, Array.size_map, Array.size_range, hzs, hsz, List.size_toArray, List.length_nil, Nat.zero_add]
    rw [← Nat.add_mul]; congr 1; omega
  generalize ([] : List Value).toArray ++ Builtin.zeroCells z.cells n.toNat ++ Builtin.zeroCells z.cells (C - n.toNat) = cur at *
  obtain ⟨h1, h2, h3⟩ := jS wf' (.cells cur el0) (d + 1)
  refine ⟨_, _, by simp [execOp, resolve, invoke, builtin, ex, ey, hrun], lF M (d + 1) (some w.heap.size), h1, ⟨h2.size, h2.os, h2.tape, h2.out, h2.oK, h2.own⟩, ⟨w.heap.size, C, cur, rfl, hge, hle, h3, fD w.drew _, hcs⟩, by simp⟩
theorem B6 {α : Type} (E : El α) {x y : Operand} {k : IntKind} {el tg n : Nat} {ti te : TI} (hx : A.op fr x = .rm el te.size tg n) (hy : A.op fr y = .int k 0) (h1 : 1 ≤ tg) (hp : fr.pass.contains tg = false) (hT : T.tab[ty']? = some ti) (hk : ti.k = .slice el) (hE : T.tab[el]? = some te) (hs : te.size = E.size)
 (h : aV P fr ops rest (A.after { d := some d, ty := .row E el tg [], K := [tg], rs := bR x ++ bR y }) fun A' l' => K A' ((A, { d := some d, ty := .row E el tg [], K := [tg], rs := bR x ++ bR y }) :: l')) :
 aV P fr ops (⟨some d, .slice ty' x none (some y) none, t, p, e, none⟩ :: rest) A K := by
 refine ⟨_, fH rfl rfl (by simp) (by simp) (by simp at hp ⊢; exact ⟨h1, hp⟩) fun a w M wf hr _ => ?_, h⟩
 obtain ⟨hdx, hdy⟩ := op2 hr
 rw [hx] at hdx; rw [hy] at hdy
 obtain ⟨b, c, cur, ex, g1, g2, g3, g4, g5⟩ := hdx
 have ey : a.eval y = .int k 0 := hdy
 obtain ⟨_, D, _, hD, hkd, _⟩ := cF hT
 rw [hk] at hkd
 cases D <;> simp only [TK.of, reduceCtorEq, TK.slice.injEq] at hkd
 rename_i el0
 have hel : el0 = el := hkd
 subst hel
 obtain ⟨i, _, hi, _, _, hsz, hby, hze⟩ := cF hE
 refine ⟨.slice (some ⟨b, 0, none⟩) 0 c, w, ?_, M, wf, Le.refl _ _ _ _, ⟨[], ⟨by simp, .inr ⟨b, c, cur, rfl, Nat.zero_le _, g4, Nat.zero_le _, g2, by rw [g5, hs], by simp⟩⟩, trivial, fun g hg => by simp [Value.ownBlock] at hg; rw [← hg]; exact g3⟩, by simp⟩
 have hsz2 := fun w => bz (P := P) hE w
 simp [execOp, ex, ey, Instr.sliceAt, Instr.slice, run_underlying hD, Instr.sliceBounds, Instr.sliceBound, asIntOf, hsz2]
 exact fun _ => rfl
theorem q8 {x : Operand} {ti : TI} {el : Nat} (hx : A.op fr x = .ex (.slice none 0 0)) (hT : T.tab[ty']? = some ti) (hk : ti.k = .slice el)
 (h : aV P fr ops rest (A.set d (.int .i64 0)) fun A' l' => K A' ((A, { d := some d, ty := .int .i64 0, rs := bR x }) :: l')) :
 aV P fr ops (⟨some d, .call ⟨.builtin .cap, #[x], #[ty']⟩, t, p, e, none⟩ :: rest) A K :=
 bB (bH rfl rfl fun a w M _ hrd _ => by
  have hdx := bk (x := x) (fun _ h => h) hrd
  rw [hx] at hdx
  have ex : a.eval x = .slice none 0 0 := hdx
  obtain ⟨_, D, _, hD, hkd, _⟩ := cF hT
  rw [hk] at hkd
  cases D <;> simp only [TK.of, reduceCtorEq, TK.slice.injEq] at hkd
  exact ⟨.int .i64 0, by simp [execOp, resolve, invoke, builtin, ex, Builtin.cap_, run_underlying hD, goInt], rfl⟩) h
theorem BY {x y : Operand} {k : IntKind} {ti te : TI} {el : Nat} (hx : A.op fr x = .ex (.slice none 0 0)) (hy : A.op fr y = .int k 0) (hT : T.tab[ty']? = some ti) (hk : ti.k = .slice el) (hE : T.tab[el]? = some te)
 (h : aV P fr ops rest (A.set d (.ex (.slice none 0 0))) fun A' l' => K A' ((A, { d := some d, ty := .ex (.slice none 0 0), rs := bR x ++ bR y }) :: l')) :
 aV P fr ops (⟨some d, .slice ty' x none (some y) none, t, p, e, none⟩ :: rest) A K :=
 bB (bH rfl rfl fun a w M _ hr _ => by
  obtain ⟨hdx, hdy⟩ := op2 hr
  rw [hx] at hdx; rw [hy] at hdy
  have ex : a.eval x = .slice none 0 0 := hdx
  have ey : a.eval y = .int k 0 := hdy
  obtain ⟨_, D, _, hD, hkd, _⟩ := cF hT
  rw [hk] at hkd
  cases D <;> simp only [TK.of, reduceCtorEq, TK.slice.injEq] at hkd
  subst hkd
  have hsz2 := fun w => bz (P := P) hE w
  exact ⟨.slice none 0 0, by simp [execOp, ex, ey, Instr.sliceAt, Instr.slice, run_underlying hD, Instr.sliceBounds, Instr.sliceBound, asIntOf, hsz2], rfl⟩) h
omit T in
theorem Pt {x y : Operand} {k n : Nat} (hx : A.op fr x = .int .i64 ((k : Int) + 1)) (hy : A.op fr y = .int .i64 (n : Int)) (h0 : n ≠ 0)
 (h : aV P fr ops rest (A.set d (.int .i64 ((k + 1) % n : Nat))) fun A' l' => K A' ((A, { d := some d, ty := .int .i64 ((k + 1) % n : Nat), rs := bR x ++ bR y }) :: l')) : aV P fr ops (⟨some d, .binOp .rem ty' x y ty2, t, p, e, none⟩ :: rest) A K := by
 have e0 : ((k : Int) + 1).tmod (n : Int) = ((k + 1) % n : Nat) := by rw [Int.ofNat_tmod]; rfl
 exact L3 hx hy (by omega) (by rw [e0]; exact h)
end
end Go.T
namespace Go.T
open Go Go.RowKit
section
variable {P : Program} {fr : Fr} {ops : Array Oper} {A : As} {rest : List Oper} {K : As → List (As × Fx) → Prop} {t mt : TypeId} {p : String} {e : Array Edge} {d : Option Nat} {x y z : Operand}
theorem qA (h : aV P fr ops (⟨d, .mapUpdate mt x y z, t, p, e, none⟩ :: rest) A K) : aV P fr ops (⟨d, .insert mt x y z, t, p, e, none⟩ :: rest) A K := by
  obtain ⟨f, ⟨h1, h2, h3, h4, h5⟩, hr⟩ := h
  refine ⟨f, ⟨h1, h2, h3, h4, fun a w M wf hs hrd htg => ?_⟩, hr⟩
  have := h5 a w M wf hs hrd htg
  rw [if_pos (by simp [Region.wanted])] at this ⊢
  obtain ⟨_, g2⟩ := this
  refine ⟨fun f _ => fr.kd.oW f, ?_⟩
  rw [Oper.semAt_eq _ _ _ (by simp)] at g2 ⊢
  have e1 : execOp a.eval ⟨d, .insert mt x y z, t, p, e, none⟩ = execOp a.eval ⟨d, .mapUpdate mt x y z, t, p, e, none⟩ := rfl
  rw [e1]
  generalize (execOp a.eval ⟨d, .mapUpdate mt x y z, t, p, e, none⟩).run P w = r at *
  cases r with
  | ok n w' => cases n <;> exact g2
  | halt x w' => cases x <;> exact g2
end
section
variable {P : Program} {fr : Fr} {ops : Array Oper} {A : As} {rest : List Oper} {K : As → List (As × Fx) → Prop} {d : Nat} {t mt kt et : TypeId} {p : String} {e : Array Edge}
variable {κ β : Type} [DecidableEq κ]
theorem uD {x y z : Operand} {tg : Nat} {kty vty : Ty} {k : κ} {v : β} (KK : sF P kt κ) {V : VT β} {kvs : List (κ × β)} (hx : A.op fr x = .mp tg) (hc : A.tag tg = some (.mp KK.enc V kvs)) (h1 : e8 tg) (hy : A.op fr y = kty) (hk : pU kty (KK.enc k)) (hz : A.op fr z = vty) (hv : vty.Sub (V.ty v)) (hm : mapOf P mt = some (kt, et))
 (h : aV P fr ops rest (A.after { d := none, S := [tg], sets := [(tg, .mp KK.enc V (cz kvs k v))], rs := bR x ++ (bR y ++ bR z), rt := [tg] }) fun A' l' => K A' ((A, { d := none, S := [tg], sets := [(tg, .mp KK.enc V (cz kvs k v))], rs := bR x ++ (bR y ++ bR z), rt := [tg] }) :: l')) :
 aV P fr ops (⟨none, .mapUpdate mt x y z, t, p, e, none⟩ :: rest) A K := by
 refine ⟨_, ⟨rfl, (fun x hx => .inl (by rw [List.mem_singleton.1 hx]; exact List.mem_singleton.2 rfl)), (fun u hu => by rw [List.mem_singleton.1 hu]; exact h1.1), (by simp), fun a w M wf _ hrd htg => ?_⟩, h⟩
 rw [if_pos (by simp [Region.wanted])]
 obtain ⟨b, e1, e2, es, clock, h3, h4, h5⟩ := IW hx hc h1 wf (fun c hc => List.mem_append_left _ hc) hrd htg
 have hyd := bk (fun c hc => List.mem_append_right (bR x) (List.mem_append_left (bR z) hc)) hrd
 have hzd := bk (fun c hc => List.mem_append_right (bR x) (List.mem_append_right (bR y) hc)) hrd
 rw [hy] at hyd
 rw [hz] at hzd
 have hzd := hv _ _ _ hzd
 have hu := jO hm
 have hblt : b < w.heap.size := wf.lt b _ e2
 -- whatever is put there
 have fin : ∀ (es' : Array MapEntry) (clock' : Nat), es'.toList.map (·.key) = (cz kvs k v).map (fun x => KK.enc x.1) → bt w M ((cz kvs k v).map fun x => V.ty x.2) (es'.toList.map (·.val)) →
  (Instr.mapUpdate mt (.map (some b)) (KK.enc k) (a.eval z)).run P w = .ok () { w with heap := w.heap.setIfInBounds b (.map es' clock') } →
  Oper.wpIn fr.kd.gT 0 P ⟨none, .mapUpdate mt x y z, t, p, e, none⟩ a w (fun a' w' => ∃ v', a' = a.put none v' ∧ Fx.left { d := none, S := [tg], sets := [(tg, .mp KK.enc V (cz kvs k v))], rs := bR x ++ (bR y ++ bR z), rt := [tg] } w M w' v') (fun _ _ _ => False) := by
  intro es' clock' hk' hd' hrun
  have hr : (execOp a.eval ⟨none, .mapUpdate mt x y z, t, p, e, none⟩).run P w = .ok .skip { w with heap := w.heap.setIfInBounds b (.map es' clock') } := by
   simp only [execOp, e1, hk _ _ _ hyd]
   simp [hrun]
  refine tF hr ?_
  have le : Le (· ∈ [tg]) (· ∈ ([] : List Nat)) w M { w with heap := w.heap.setIfInBounds b (.map es' clock') } M := by
   refine ⟨by simp, rfl, rfl, rfl, fun b2 hlt hm2 => ⟨hm2, ?_⟩, fun b2 u hm2 _ => ⟨hm2, fun hs => ?_⟩⟩
   ·have : b ≠ b2 := fun h => by subst h; rw [e2] at hm2; cases hm2
    simp [Array.getElem?_setIfInBounds, this]
   have : b ≠ b2 := fun h => by subst h; rw [e2] at hm2; injection hm2 with hm2; exact hs (by simp [hm2])
   simp [Array.getElem?_setIfInBounds, this]
  refine ⟨undef, rfl, M, ⟨fun b2 u h => by simpa using wf.lt b2 u h, wf.inj⟩, le, trivial, fun x hx => ?_⟩
  rw [List.mem_singleton.1 hx]
  refine ⟨b, e2, es', clock', by simp [hblt], hk', ?_⟩
  refine bV le (fun _ _ => by simp) (fun u hu => ?_) hd'
  simp only [bL, List.mem_flatMap, List.mem_map] at hu
  obtain ⟨t', ⟨x', _, rfl⟩, hu⟩ := hu
  rw [(V.nodeps x'.2).2] at hu; cases hu
 rcases mY KK h4 h5 k with ⟨i, v0, en, hi, hg, hen, hkey, hd, hf⟩ | ⟨hi, hg, hf⟩
 ·obtain ⟨v1, hv1, _, hput⟩ := mG kvs k i hi
  have hil : i < es.size := (Array.getElem?_eq_some_iff.1 hen).1
  refine fin (es.modify i fun e => { e with key := KK.enc k, val := a.eval z }) clock ?_ ?_ ?_
  ·rw [hput, List.map_set]
   have : (es.modify i fun e => { e with key := KK.enc k, val := a.eval z }).toList = es.toList.set i { en with key := KK.enc k, val := a.eval z } := by
    rw [Array.toList_modify, List.modify_eq_set, Array.getElem?_toList, hen]; rfl
   rw [this, List.map_set, h4]
  ·rw [hput, List.map_set]
   have : (es.modify i fun e => { e with key := KK.enc k, val := a.eval z }).toList = es.toList.set i { en with key := KK.enc k, val := a.eval z } := by
    rw [Array.toList_modify, List.modify_eq_set, Array.getElem?_toList, hen]; rfl
   rw [this, List.map_set]
   exact ny h5 hzd
  simp [Instr.mapUpdate, underlying, hu, getObj, setObj, Sem.run, h3, KK.check, hf, hen, hkey, Instr.keyThatStays, KK.same]
 obtain ⟨_, hput⟩ := l5 kvs k hi
 refine fin (es.push { key := KK.enc k, val := a.eval z, born := clock }) (clock + 1) ?_ ?_ ?_
 ·rw [hput]; simp [h4]
 ·rw [hput]; simp only [Array.toList_push, List.map_append, List.map_cons, List.map_nil]
  exact dO h5 ⟨hzd, trivial⟩
 simp [Instr.mapUpdate, underlying, hu, getObj, setObj, Sem.run, h3, KK.check, hf]
end
section
variable {A : As} {κ β : Type} [DecidableEq κ]
theorem yG {enc : κ → Value} {V : VT β} {kvs : List (κ × β)} {tg : Nat} (hc : A.tag tg = some (.mp enc V kvs)) (h1 : e8 tg) : Fg A tg (.mp tg) (.pm enc V kvs) := by
 intro w M v wf ht hv
 obtain ⟨b, e1, e2⟩ := hv
 obtain ⟨b', h2, h3⟩ := ht _ (cM hc)
 obtain ⟨u, rfl⟩ : ∃ u, tg = u + 1 := ⟨tg - 1, by omega⟩
 have : b = b' := wf.inj b b' u (by omega) e2 h2
 subst this
 exact ⟨b, e1, by simp [eK, e2], wf.lt b _ e2, tL V.nodeps (iI (tg := u + 1)) rfl h3⟩
end
section
variable {P : Program} {fr : Fr} {ops : Array Oper} {A : As} {rest : List Oper} {K : As → List (As × Fx) → Prop} {t ty' : TypeId} {p : String} {e : Array Edge} [T : k5 P]
theorem Dy {x y : Operand} {tg off Tb : Nat} {l m : List Ty} {ti : TI} {l' : List Ty} (hx : A.op fr x = .ptr tg off) (hc : A.tag tg = some (.cells Tb l)) (h1 : e8 tg) (hT : T.tab[ty']? = some ti) (hy : A.op fr y = .agg m) (hsz : ti.size = m.length) (hoff : off + m.length ≤ l.length) (ho : m.all Ty.one = true) (hdl : kJ (bL l) [tg] = true) (hdt : kJ (bL m) [tg] = true) (hl : l.take off ++ m ++ l.drop (off + m.length) = l')
 (h : aV P fr ops rest (A.after { d := none, S := [tg], sets := [(tg, .cells Tb l')], rs := bR x ++ bR y, rt := [tg] }) fun A' l'' => K A' ((A, { d := none, S := [tg], sets := [(tg, .cells Tb l')], rs := bR x ++ bR y, rt := [tg] }) :: l'')) :
 aV P fr ops (⟨none, .store ty' x y, t, p, e, none⟩ :: rest) A K := by
 refine ⟨_, kf rfl rfl rfl (by simp) (by simpa using h1.1) (by simp) fun a w M wf hr ht => ?_, h⟩
 obtain ⟨hdx, hdy⟩ := op2 hr
 rw [hx] at hdx; rw [hy] at hdy
 obtain ⟨b, hb, ex⟩ := hdx
 obtain ⟨vs, ey, hvs⟩ := hdy
 obtain ⟨b', cs, hb', hh, hd⟩ := ht _ (cM hc) (by simp)
 obtain ⟨u, rfl⟩ : ∃ u, tg = u + 1 := ⟨tg - 1, by omega⟩
 have := wf.inj b b' u (by omega) hb hb'
 subst this
 have hl1 := bw hd
 have hl2 := bw hvs
 simp only [Array.length_toList] at hl1 hl2
 have hones : ∀ v ∈ vs.toList, v.oneCell' = true := fun v hv => by
  obtain ⟨i, hi, hvi⟩ := List.getElem_of_mem hv
  have hi' : i < vs.size := by simpa using hi
  have hlt : i < m.length := by omega
  obtain ⟨u', hu', hdu⟩ := dF hvs i m[i] (List.getElem?_eq_getElem hlt)
  rw [List.getElem?_eq_getElem hi, hvi] at hu'
  injection hu' with hu'
  subst hu'
  exact (m[i]).isOne (List.all_eq_true.1 ho _ (List.getElem_mem hlt)) hdu
 have hst := run_storeCells_at (P := P) b off Tb vs.toList 0 cs w hh (by simp; omega) hones
 rw [mI _ hh] at hst
 obtain ⟨h1', h2', h3'⟩ := jW (cs' := (cs.toList.take (off + 0) ++ vs.toList ++ cs.toList.drop (off + 0 + vs.toList.length)).toArray) (Tb := Tb) wf hb _ rfl
 refine ⟨_, ?_, M, h1', h2', trivial, ?_⟩
 ·have hvz : vs.size = ti.size := by omega
  simp only [execOp, Instr.storeAt, Instr.sureAddr, ex, ey, storeVar, Value.cells, bz hT, Sem.run_bind, Sem.run_pure, Result.andThen_ok, hvz, hst]
  simp [hst]
 intro z hz
 simp only [List.mem_singleton] at hz
 subst hz
 refine ⟨b, _, hb, h3', ?_⟩
 subst hl
 rw [List.toList_toArray, show off + m.length = off + 0 + vs.toList.length by simp; omega]
 have g1 := bV h2' (by intro _ _ h; cases h) (fK hdl) hd
 have g2 := bV h2' (by intro _ _ h; cases h) (fK hdt) hvs
 exact dO (dO (ju (off + 0) g1) g2) (iN _ g1)
end
section
variable {P : Program} {fr : Fr} {ops : Array Oper} {A : As} {rest : List Oper} {K : As → List (As × Fx) → Prop} {d : Nat} {t ty' : TypeId} {p : String} {e : Array Edge} [T : k5 P]
theorem wR {α : Type} [Inhabited α] {E : El α} {xs : List α} {x : Operand} {tg off Tb : Nat} {ti : TI} (i : Nat) (hx : A.op fr x = .ptr tg off) (he : off = i * E.size) (hc : A.tag tg = some (.vec E Tb xs)) (h1 : e8 tg) (hT : T.tab[ty']? = some ti) (ha : ti.k.agg = true) (hsz : ti.size = E.size) (hi : i < xs.length)
 (h : aV P fr ops rest (A.set d (.agg (E.tys (nth xs i)))) fun A' l => K A' ((A, { d := some d, ty := .agg (E.tys (nth xs i)), rs := bR x, rt := [tg] }) :: l)) : aV P fr ops (⟨some d, .load ty' x, t, p, e, none⟩ :: rest) A K :=
 bB (bH rfl rfl fun a w M wf hr ht => by
  have := bk (x := x) (fun _ h => h) hr
  rw [hx] at this
  obtain ⟨b, hb, e⟩ := this
  obtain ⟨cs, g1, g2, g3⟩ := sL (l := E.tys (nth xs i)) (b := b) (q := off) (off := 0) (n := ti.size) (m := E.tys (nth xs i)) (fun j t hj => kg wf h1 hb (nL hc w M ht) (by
   rw [he]; exact l6 E xs hi j t hj)) (by rw [List.drop_zero, hsz, ← E.len (nth xs i), List.take_length]) (by rw [E.len, hsz])
  exact ⟨.agg cs.toArray, by simp only [execOp, e]; rw [Sem.run_bind, fX (off := off) hT ha g1 (by simpa using g3)]; rfl, cs.toArray, rfl, by simpa using g2⟩) h
end
section
variable {P : Program} {A : As} {fn : Func} {n : Nat} {w0 : World} {M0 : ah} [T : k5 P]
theorem ug {tm ty tg Tb t2 t3 : Nat} {l : List Ty} {ti : TI} {r1 r2 r3 : Ty} (hr : fn.results = #[.cell tm ty, .tmp t2, .tmp t3]) (ht : Nat.blt tm n = true) (h2 : Nat.blt t2 n = true) (h3 : Nat.blt t3 n = true) (hx : A.slots tm = .ptr tg 0) (hc : A.tag tg = some (.cells Tb l)) (h1 : e8 tg) (hT : T.tab[ty]? = some ti) (ha : ti.k.agg = true) (hl : l.length = ti.size) (hs : eu (.agg l) r1) (hs2 : eu (A.slots t2) r2) (hs3 : eu (A.slots t3) r3) :
 cm ⟨n, w0, M0, [], .plain⟩ A (bodyPost P fn (jY w0 M0 (Ty.jk [r1, r2, r3])) .ret) := by
 intro a w ⟨M, ok, hsl, htg⟩
 have hd := hsl tm (by simpa using ht)
 rw [hx] at hd
 obtain ⟨b, hb, e⟩ := hd
 obtain ⟨b', cs, hb', hh, hds⟩ := htg _ (cM hc)
 obtain ⟨u, rfl⟩ : ∃ u, tg = u + 1 := ⟨tg - 1, by omega⟩
 have := ok.wf.inj b b' u (by omega) hb hb'
 subst this
 have hlen := bw hds
 have hload := fX (P := P) hT ha (w := w) (b := b) (off := 0) (cs := cs.toList) (by rw [hlen, hl]) (fun j v hj => by simpa [World.cell?, hh] using hj)
 have hload' : (loadVar ty ⟨b, 0, none⟩).run P w = .ok (.agg cs) w := by simpa [Instr.loadAt, Instr.sureAddr] using hload
 refine ⟨ok.eD (by simp), .tuple #[.agg cs, a.tmps.getD t2 undef, a.tmps.getD t3 undef], ?_, _, oz M, rfl, ot ok.wf, mN (fr := ⟨n, w0, M0, [], .plain⟩) (fun _ h => h) ok.base, _, rfl, hs _ _ _ ok.wf ⟨cs, rfl, hds⟩, hs2 _ _ _ ok.wf (hsl t2 (by simpa using h2)), hs3 _ _ _ ok.wf (hsl t3 (by simpa using h3)), trivial⟩
 have e' : a.tmps.getD tm undef = .pointer (some ⟨b, 0, none⟩) := e
 have e'' : a.tmps[tm]?.getD undef = .pointer (some ⟨b, 0, none⟩) := by rw [← Array.getD_eq_getD_getElem?]; exact e'
 simp [results, hr, e'', asAddr, hload']
end
section
variable {P : Program} {fr : Fr} {A : As} {c : Code} {Q : Exit → Act → World → Prop}
theorem wz {tg : Nat} {C D : Cont} (hc : A.tag tg = some C) (h : C.Sub D) (h' : eU P fr c ⟨A.slots, (tg, D) :: A.tags⟩ Q) : eU P fr c A Q := fun a w ⟨M, ok, hsl, ht⟩ =>
 h' a w ⟨M, ok, hsl, fun x hx => by
  rcases List.mem_cons.1 hx with rfl | hx
  ·exact h _ _ _ (ht _ (cM hc))
  exact ht x hx⟩
end
section
variable {P : Program} {fr : Fr} {ops : Array Oper} {A : As} {rest : List Oper} {K : As → List (As × Fx) → Prop} {d : Nat} {t mt kt et : TypeId} {p : String} {e : Array Edge} {κ β : Type} [DecidableEq κ]
theorem OY {x : Operand} {enc : κ → Value} {V : VT β} {kvs : List (κ × β)} (hx : A.op fr x = .pm enc V kvs) (hm : mapOf P mt = some (kt, et))
 (h : aV P fr ops rest (A.set d (.int .i64 kvs.length)) fun A' l' => K A' ((A, { d := some d, ty := .int .i64 kvs.length, rs := bR x }) :: l')) :
 aV P fr ops (⟨some d, .call ⟨.builtin .len, #[x], #[mt]⟩, t, p, e, none⟩ :: rest) A K :=
 bB (bH rfl rfl fun a w M _ hrd _ => by
  have hdx := bk (x := x) (fun _ h => h) hrd
  rw [hx] at hdx
  obtain ⟨b, ex, _, _, es, clock, h3, h4, _⟩ := hdx
  have hl : es.size = kvs.length := by have := congrArg List.length h4; simpa using this
  exact ⟨.int .i64 kvs.length, by simp [execOp, resolve, invoke, builtin, ex, Builtin.len_, run_underlying (jO hm), getObj, Sem.run, h3, goInt, hl], rfl⟩) h
end
theorem Ty.ME {α : Type} {E : El α} {o : α} : (Ty.pp (E.tys o)).Sub (Ty.pe E o 0) := fun _ _ _ ⟨b, q, h1, h2⟩ => ⟨b, q, h1, h2⟩
end Go.T
namespace Go.Proofs.YtmmcenjknimhbaaGreat
open Go Go.T Go.RowKit
def m3 (p : Pl) : List Ty := [Ty.int .i64 (nth p.1 0), Ty.int .i64 (nth p.1 1), Ty.int .i64 (nth p.1 2), Ty.int .i64 (nth p.1 3), Ty.int .i64 (nth p.1 4), Ty.int .i64 (nth p.1 5)]
theorem NW (p : Pl) {i : Nat} (h : i < 6) : (m3 p)[i]? = some (Ty.int .i64 (nth p.1 i)) := by
  match i, h with
  | 0, _ => rfl
  | 1, _ => rfl
  | 2, _ => rfl
  | 3, _ => rfl
  | 4, _ => rfl
  | 5, _ => rfl
theorem Me (p : Pl) : m3 p = p.1.flatMap eB.tys := by
  obtain ⟨l, h⟩ := p
  match l, h with
  | [a, b, c, d, e, f], _ => rfl
def Pe (p : Pl) (i : Nat) (v : Int) : Pl := ⟨p.1.set i v, by rw [List.length_set]; exact p.2⟩
theorem OX (p : Pl) {i : Nat} (v : Int) (h : i < 6) : (m3 p).set i (Ty.int .i64 v) = m3 (Pe p i v) := by
  obtain ⟨l, hl⟩ := p
  match l, hl with
  | [a, b, c, d, e, f], _ =>
    match i, h with
    | 0, _ => rfl
    | 1, _ => rfl
    | 2, _ => rfl
    | 3, _ => rfl
    | 4, _ => rfl
    | 5, _ => rfl
def r9 : El Pl := El.mk' 6 m3 (fun _ => rfl) (fun _ => ⟨rfl, rfl, rfl⟩)
structure xK where
  b : aW
  first : Pl
  deriving Inhabited
def NK (d : xK) : List Ty := [Ty.sl eB d.b.sizes, Ty.sl gC d.b.lots, Ty.int .i64 (nth d.first.1 0), Ty.int .i64 (nth d.first.1 1), Ty.int .i64 (nth d.first.1 2), Ty.int .i64 (nth d.first.1 3), Ty.int .i64 (nth d.first.1 4), Ty.int .i64 (nth d.first.1 5)]
def dS : El xK := El.mk' 8 NK (fun _ => rfl) (fun _ => ⟨rfl, rfl, rfl⟩)
theorem LI (d : xK) {i : Nat} (v : Int) (h : i < 6) : (dS.tys d).set (2 + i) (Ty.int .i64 v) = dS.tys ⟨d.b, Pe d.first i v⟩ := by
  obtain ⟨b, l, hl⟩ := d
  match l, hl with
  | [a, b, c, d, e, f], _ =>
    match i, h with
    | 0, _ => rfl
    | 1, _ => rfl
    | 2, _ => rfl
    | 3, _ => rfl
    | 4, _ => rfl
    | 5, _ => rfl
def Qc (w : Way) : List Ty := [Ty.int .i64 (nth w.frm.1 0), Ty.int .i64 (nth w.frm.1 1), Ty.int .i64 (nth w.frm.1 2), Ty.int .i64 (nth w.frm.1 3), Ty.int .i64 (nth w.frm.1 4), Ty.int .i64 (nth w.frm.1 5), Ty.sl cv w.byT, Ty.int .i64 w.all]
def jQ : VT Way := ⟨fun w => Ty.agg (Qc w), fun _ => ⟨rfl, rfl⟩⟩
def zy (f : Found) : List Ty := [Ty.pm (fF 6) jQ f.ways, Ty.int .i64 (nth f.last.1 0), Ty.int .i64 (nth f.last.1 1), Ty.int .i64 (nth f.last.1 2), Ty.int .i64 (nth f.last.1 3), Ty.int .i64 (nth f.last.1 4), Ty.int .i64 (nth f.last.1 5), Ty.bool f.is]
def G4 (f : Found) : Ty := Ty.agg (zy f)
theorem mU (p : Pl) : pU (.agg (m3 p)) (fF 6 p) := by rw [Me]; exact Og p
theorem Fq : Tryz.prog.underlying 188 = some (.array 6 3) := by kernel_rfl
theorem MG (a0 a1 a2 a3 a4 a5 b0 b1 b2 b3 b4 b5 : Int) (w : World) : (Op.equal 188 (.agg #[.int .i64 a0, .int .i64 a1, .int .i64 a2, .int .i64 a3, .int .i64 a4, .int .i64 a5]) (.agg #[.int .i64 b0, .int .i64 b1, .int .i64 b2, .int .i64 b3, .int .i64 b4, .int .i64 b5])).run Tryz.prog w = .ok ((decide (a0 = b0) && (decide (a1 = b1) && (decide (a2 = b2) && (decide (a3 = b3) && (decide (a4 = b4) && decide (a5 = b5))))))) w := by
 have hs : Tryz.prog.stoodInHeld 188 = false := by kernel_rfl
 have e3 : ∀ (x y : Int) (w : World), (Op.equalIn 9999 3 (.int .i64 x) (.int .i64 y)).run Tryz.prog w = .ok (decide (x = y)) w := fun x y w => yz 9998 Tryz.underlying3
 have g3 : ∀ w, (isAgg 3).run Tryz.prog w = .ok false w := fun w => by simp [isAgg, run_underlying Tryz.underlying3]
 unfold Op.equal Op.maxDepth
 rw [Op.equalIn]
 simp only [Sem.run_bind, run_underlying Fq, Result.andThen_ok]
 simp [hs, part, g3, e3]
 rw [show List.range' 0 6 = [0, 1, 2, 3, 4, 5] from rfl]
 simp [List.forIn_cons, g3, e3]
 by_cases h0 : a0 = b0
 case neg => simp [h0]
 rw [if_pos h0]
 by_cases h1 : a1 = b1
 case neg => simp [h1]
 rw [if_pos h1]
 by_cases h2 : a2 = b2
 case neg => simp [h2]
 rw [if_pos h2]
 by_cases h3 : a3 = b3
 case neg => simp [h3]
 rw [if_pos h3]
 by_cases h4 : a4 = b4
 case neg => simp [h4]
 rw [if_pos h4]
 by_cases h5 : a5 = b5
 case neg => simp [h5]
 rw [if_pos h5]
 simp [h0, h1, h2, h3, h4, h5]
theorem QB (p q : Pl) : QI Tryz.prog 188 (m3 p) (m3 q) (decide (p = q)) := by
  obtain ⟨l, hl⟩ := p
  obtain ⟨k, hk⟩ := q
  match l, hl with
  | [a0, a1, a2, a3, a4, a5], _ =>
    match k, hk with
    | [b0, b1, b2, b3, b4, b5], _ =>
      refine ⟨by kernel_rfl, fun w M cs ds h1 h2 => ?_⟩
      obtain ⟨cs⟩ := cs
      obtain ⟨ds⟩ := ds
      match cs, ds, h1, h2 with
      | [u0, u1, u2, u3, u4, u5], [v0, v1, v2, v3, v4, v5], h1, h2 =>
        change bt w M [Ty.int .i64 a0, Ty.int .i64 a1, Ty.int .i64 a2, Ty.int .i64 a3, Ty.int .i64 a4, Ty.int .i64 a5] _ at h1
        change bt w M [Ty.int .i64 b0, Ty.int .i64 b1, Ty.int .i64 b2, Ty.int .i64 b3, Ty.int .i64 b4, Ty.int .i64 b5] _ at h2
        simp only [bt, Ty.int, fL, and_true] at h1 h2
        obtain ⟨rfl, rfl, rfl, rfl, rfl, rfl⟩ := h1
        obtain ⟨rfl, rfl, rfl, rfl, rfl, rfl⟩ := h2
        rw [MG]
        congr 1
        simp only [Subtype.mk.injEq, List.cons.injEq, and_true, Bool.decide_and]
theorem PM (x y : Pl) (w : World) : (Op.equal 188 (fF 6 x) (fF 6 y)).run Tryz.prog w = .ok (decide (x = y)) w := by
  obtain ⟨l, hl⟩ := x
  obtain ⟨k, hk⟩ := y
  match l, hl with
  | [a0, a1, a2, a3, a4, a5], _ =>
    match k, hk with
    | [b0, b1, b2, b3, b4, b5], _ =>
      show (Op.equal 188 (.agg #[.int .i64 a0, .int .i64 a1, .int .i64 a2, .int .i64 a3, .int .i64 a4, .int .i64 a5]) (.agg #[.int .i64 b0, .int .i64 b1, .int .i64 b2, .int .i64 b3, .int .i64 b4, .int .i64 b5])).run Tryz.prog w = _
      rw [MG]
      congr 1
      simp only [Subtype.mk.injEq, List.cons.injEq, and_true, Bool.decide_and]
theorem KI (b : Bool) (x : Pl) (w : World) : (Instr.checkKey b 10000 188 (fF 6 x)).run Tryz.prog w = .ok () w := by
  obtain ⟨l, hl⟩ := x
  have h3 : ∀ (v : Value) (w : World), (Instr.checkKey b 9999 3 v).run Tryz.prog w = .ok () w := fun v w => by
    rw [show (9999 : Nat) = 9998 + 1 from rfl, Instr.checkKey]
    simp only [Sem.run_bind, run_underlying Tryz.underlying3, Result.andThen_ok]; rfl
  match l, hl with
  | [a0, a1, a2, a3, a4, a5], _ =>
    have g3 : ∀ w, (isAgg 3).run Tryz.prog w = .ok false w := fun w => by simp [isAgg, run_underlying Tryz.underlying3]
    have s3 : ∀ w, (sizeOf 3).run Tryz.prog w = .ok 1 w := fun w => bz (T := inferInstance) (x := ⟨.int .i64, 1, 8, [.int .i64 0]⟩) rfl w
    rw [show (10000 : Nat) = 9999 + 1 from rfl, Instr.checkKey]
    simp only [Sem.run_bind, run_underlying Fq, Result.andThen_ok, fF]
    simp [s3, part, g3, h3]
    rw [show List.range' 0 6 = [0, 1, 2, 3, 4, 5] from rfl]
    simp [List.forIn_cons, s3, g3, h3]
def qt : sF Tryz.prog 188 Pl := PU Tryz.prog 188 6 3 Fq PM KI
def xB : sF Tryz.prog 3 Int := PX Tryz.prog 3 .i64 Tryz.underlying3
theorem ia : mapOf Tryz.prog 186 = some (188, 220) := by kernel_rfl
theorem lO : mapOf Tryz.prog 222 = some (3, 221) := by kernel_rfl
theorem DB : mapOf Tryz.prog 223 = some (188, 4) := by kernel_rfl
theorem xd : zeroOf Tryz.prog 221 = some (.slice none 0 0) := by kernel_rfl
theorem QV : zeroOf Tryz.prog 4 = some (.bool false) := by kernel_rfl
theorem td : zeroOf Tryz.prog 220 = some (.agg #[.int .i64 0, .int .i64 0, .int .i64 0, .int .i64 0, .int .i64 0, .int .i64 0, .slice none 0 0, .int .i64 0]) := by kernel_rfl
theorem yD : ∀ w M, (n9.ty false).den w M (.bool false) := fun _ _ => rfl
theorem OZ (w : World) (M : ah) : (Ty.sl cv []).den w M (.slice none 0 0) := Ty.qp w M _ rfl
theorem qT : ∀ w M, (jQ.ty jj).den w M (.agg #[.int .i64 0, .int .i64 0, .int .i64 0, .int .i64 0, .int .i64 0, .int .i64 0, .slice none 0 0, .int .i64 0]) := fun w M =>
 ⟨_, rfl, rfl, rfl, rfl, rfl, rfl, rfl, OZ w M, rfl, trivial⟩
theorem Da : (Ty.agg [Ty.int .i64 0, Ty.int .i64 0, Ty.int .i64 0, Ty.int .i64 0, Ty.int .i64 0, Ty.int .i64 0, Ty.ex (.slice none 0 0), Ty.int .i64 0]).Sub (jQ.ty jj) := fun w M v hd => by
  obtain ⟨cs, e, h⟩ := hd
  obtain ⟨cs⟩ := cs
  match cs, h with
  | [_, _, _, _, _, _, _, _], ⟨h1, h2, h3, h4, h5, h6, h7, h8, _⟩ => exact ⟨_, e, h1, h2, h3, h4, h5, h6, Ty.qp w M _ h7, h8, trivial⟩
end Go.Proofs.YtmmcenjknimhbaaGreat
namespace Go.Proofs.YtmmcenjknimhbaaGreat
open Go Go.T
theorem Ge {α : Type} [Inhabited α] {A B : List α} {x : α} (h : (A ++ [x]) <+: B) : A.length < B.length ∧ nth B A.length = x := by
 obtain ⟨C, rfl⟩ := h
 refine ⟨by simp, ?_⟩
 unfold nth
 rw [List.getD_eq_getElem?_getD, List.getElem?_append_left (by simp), List.getElem?_append_right (Nat.le_refl _)]
 simp
def gW (b : aW) (p : Pl) (k : Nat) : List bu := (List.range k).flatMap (ir b p)
def iG (b : aW) (k m : Nat) : List bu := ((List.range m).filter fun (i : Nat) => b.hold k i).map fun (i : Nat) => ⟨i, k⟩
theorem oo (b : aW) (p : Pl) (k : Nat) : gW b p (k + 1) = gW b p k ++ ir b p k := by
 unfold gW; rw [List.range_succ, List.flatMap_append]; simp
theorem Gv {b : aW} {p : Pl} {k : Nat} (h : gZ b p k = true) : ir b p k = [] := by unfold ir; rw [if_pos h]
theorem wW {b : aW} {p : Pl} {k : Nat} (h : gZ b p k = false) : ir b p k = iG b k b.lots.length := by unfold ir iG; rw [if_neg (by rw [h]; decide)]
theorem zN {b : aW} {k m : Nat} (h : b.hold k m = true) : iG b k (m + 1) = iG b k m ++ [⟨m, k⟩] := by
 unfold iG
 rw [List.range_succ, List.filter_append, List.map_append, List.filter_cons, if_pos h]; rfl
theorem J3 {b : aW} {k m : Nat} (h : b.hold k m = false) : iG b k (m + 1) = iG b k m := by
 unfold iG
 rw [List.range_succ, List.filter_append, List.map_append, List.filter_cons, if_neg (by rw [h]; decide)]; simp
theorem range_split {n k : Nat} (h : k ≤ n) : ∃ l, List.range n = List.range k ++ l := ⟨(List.range n).drop k, by
 have := List.take_append_drop k (List.range n)
 rw [List.take_range, show min k n = k by omega] at this; exact this.symm⟩
theorem D0 {b : aW} {p : Pl} {k : Nat} (h : k ≤ b.sizes.length) : gW b p k <+: ay b p := by
 obtain ⟨l, e⟩ := range_split h
 unfold ay gW
 rw [e, List.flatMap_append]; exact List.prefix_append _ _
theorem Gi {b : aW} {k m n : Nat} (h : m ≤ n) : iG b k m <+: iG b k n := by
 obtain ⟨l, e⟩ := range_split h
 unfold iG
 rw [e, List.filter_append, List.map_append]; exact List.prefix_append _ _
theorem Bg {b : aW} {p : Pl} {k m : Nat} (hk : k < b.sizes.length) (ht : gZ b p k = false) (hm : m < b.lots.length) (hh : b.hold k m = true) :
 (gW b p k).length + (iG b k m).length < (ay b p).length ∧ nth (ay b p) ((gW b p k).length + (iG b k m).length) = ⟨m, k⟩ := by
 rw [← List.length_append]
 refine Ge (List.IsPrefix.trans ?_ (D0 (k := k + 1) (by omega)))
 rw [oo, wW ht, List.append_assoc, List.prefix_append_right_inj, ← zN hh]
 exact Gi (by omega)
theorem uC {p : Pl} {n : Nat} {x : Int} (hn : n ≤ 6) : x ∈ p.1.take n ↔ ∃ i, i < n ∧ nth p.1 i = x := by
 rw [List.mem_take_iff_getElem]
 have := p.2
 constructor
 ·rintro ⟨i, hi, rfl⟩
  exact ⟨i, by omega, cL (by omega)⟩
 rintro ⟨i, hi, rfl⟩
 exact ⟨i, by omega, (cL (by omega)).symm⟩
theorem jx {b : aW} {p : Pl} {k : Int} (hl : b.lots.length ≤ 6) : gZ b p k = true ↔ ∃ i, i < b.lots.length ∧ nth p.1 i = k := by
 unfold gZ
 rw [List.any_eq_true]
 constructor
 ·rintro ⟨x, hx, h⟩
  obtain ⟨i, hi, e⟩ := (uC hl).1 hx
  exact ⟨i, hi, by rw [e]; exact of_decide_eq_true h⟩
 rintro ⟨i, hi, e⟩
 exact ⟨_, (uC hl).2 ⟨i, hi, rfl⟩, decide_eq_true e⟩
theorem MK {b : aW} {p : Pl} {k : Int} {i : Nat} (hl : b.lots.length ≤ 6) (hi : i < b.lots.length) (h : nth p.1 i = k) : true = gZ b p k := ((jx hl).2 ⟨i, hi, h⟩).symm
theorem KE {b : aW} {p : Pl} {k : Int} (hl : b.lots.length ≤ 6) (h : ∀ i, i < b.lots.length → nth p.1 i ≠ k) : false = gZ b p k := by
 symm; rw [Bool.eq_false_iff]; intro h2
 obtain ⟨i, hi, e⟩ := (jx hl).1 h2
 exact h i hi e
theorem Gs {q : Nat → Prop} {k : Nat} (h : ∀ i, i < k → q i) (hk : q k) : ∀ i, i < k + 1 → q i := fun i hi => by
 by_cases e : i = k
 ·subst e; exact hk
 exact h i (by omega)
def B3 (b : aW) (p : Pl) (i : Nat) : Bool := decide ((nth b.lots i).aim = -1) || decide ((nth b.lots i).aim = nth p.1 i)
theorem Kt {b : aW} {p : Pl} {i : Nat} (hi : i < b.lots.length) (h : B3 b p i = false) : false = dj b p := by
 symm; unfold dj
 rw [List.all_eq_false]
 exact ⟨i, List.mem_range.2 hi, by show ¬ B3 b p i = true; rw [h]; decide⟩
theorem Ka {b : aW} {p : Pl} (h : ∀ i, i < b.lots.length → B3 b p i = true) : true = dj b p := by
 symm; unfold dj
 rw [List.all_eq_true]
 exact fun i hi => h i (List.mem_range.1 hi)
theorem Fb {b : aW} {p : Pl} {i : Nat} : (!decide ((nth b.lots i).aim = -1) && !decide ((nth b.lots i).aim = nth p.1 i)) = !B3 b p i := by
 unfold B3; rw [Bool.not_or]
def kS (b : aW) (k : Nat) : Pl := ⟨(((b.lots.take k).map fun (l : p4) => l.inn) ++ List.replicate 6 (0 : Int)).take 6, by rw [List.length_take, List.length_append, List.length_replicate]; omega⟩
theorem D9 {b : aW} {k : Nat} (h : b.lots.length ≤ k) : kS b k = bE b := by
 unfold kS bE; simp only [List.take_of_length_le h]
theorem Jc {L : List Int} {k : Nat} (hL : L.length = k) (hk : k < 6) (v : Int) : ((L ++ List.replicate 6 (0 : Int)).take 6).set k v = ((L ++ [v]) ++ List.replicate 6 (0 : Int)).take 6 := by
 rw [List.append_assoc, List.take_append, List.take_append, hL, List.take_of_length_le (by omega), List.set_append_right _ _ (by omega), hL, Nat.sub_self]
 congr 1
 obtain ⟨m, hm⟩ : ∃ m, 6 - k = m + 1 := ⟨5 - k, by omega⟩
 rw [hm]
 show v :: List.take m (List.replicate 5 (0 : Int)) = v :: List.take m (List.replicate 6 (0 : Int))
 rw [List.take_replicate, List.take_replicate, show min m 5 = m by omega, show min m 6 = m by omega]
theorem DO {b : aW} {k : Nat} (hk : k < b.lots.length) (h6 : b.lots.length ≤ 6) : Pe (kS b k) k (nth b.lots k).inn = kS b (k + 1) := by
 apply Subtype.ext
 show (((b.lots.take k).map (fun (l : p4) => l.inn) ++ List.replicate 6 (0 : Int)).take 6).set k (nth b.lots k).inn = ((b.lots.take (k + 1)).map (fun (l : p4) => l.inn) ++ List.replicate 6 (0 : Int)).take 6
 rw [cE hk, List.map_append, Jc (by rw [List.length_map, List.length_take]; omega) (by omega)]
 rfl
end Go.Proofs.YtmmcenjknimhbaaGreat
namespace Go.Proofs.YtmmcenjknimhbaaGreat
open Go Go.T
theorem En : ∀ n, (Ig n).length = 7 ^ n
  | 0 => rfl
  | n + 1 => by
    show ((List.range 7).flatMap fun (k : Nat) => (Ig n).map fun l => (k : Int) :: l).length = _
    rw [show List.range 7 = [0, 1, 2, 3, 4, 5, 6] from rfl]
    simp only [List.flatMap_cons, List.flatMap_nil, List.length_append, List.length_map, List.length_nil, En n, Nat.pow_succ]
    omega
theorem oa : dA = 117649 := by
 unfold dA; rw [En]
def bZ (y : St) : Pl := nth (rowAt y.queue y.now) 0
def O4 (y : St) : List Pl := (rowAt y.queue y.now).drop 1
theorem mq {y : St} (h : 0 < (rowAt y.queue y.now).length) : rowAt y.queue y.now = bZ y :: O4 y := by
 have := kr h
 rw [List.drop_zero] at this
 exact this
def Ag (y : St) : St := eN y (O4 y)
def eW (y : St) : St := marked (Ag y) (bZ y)
structure Fj (b : aW) (c : bu → Int) (all : Bool) (x y : St) : Prop where
  inv : Inv b c all (ay b) 0 y
  same : pZ b c all y
  le : AL y ≤ AL x
  lt : y.left ≤ 0 → AL y < AL x
  now : y.now = x.now
variable {b : aW} {c : bu → Int} {all : Bool} {x y : St}
theorem Inv.MZ {F : Pl → List bu} {R : Int} (h : Inv b c all F R x) (hr : b.dD) (hl : 0 < x.left) : x.now ≤ 300 * dA := by
  cases hq : rowAt x.queue x.now with
  | nil => have := h.Rm hr hl hq; omega
  | cons p r =>
    have h1 := (h.que x.now p (by rw [hq]; exact List.mem_cons_self)).2.1
    have h2 := h.IF hr
    omega
theorem Inv.CY {F : Pl → List bu} {R : Int} (h : Inv b c all F R x) (hr : b.dD) : x.left + R ≤ 1 + 42 * dA := by
 have h1 := h.lim
 have h2 := h.IF hr
 omega
theorem Inv.P4 {F : Pl → List bu} {R : Int} (h : Inv b c all F R x) (hr : b.dD) (m : Int) : (rowAt x.queue m).length + R ≤ 1 + 42 * dA := by
 have h1 := h.CY hr
 have h2 := zO x.queue m
 have h3 := h.left
 omega
theorem IY (h : Inv b c all (ay b) 0 x) (hs : pZ b c all x) (hl : 0 < x.left) : Fj b c all x x := ⟨h, hs, Nat.le_refl _, fun h => by omega, rfl⟩
theorem Fj.pos (h : Fj b c all x y) (hq : 0 < (rowAt y.queue y.now).length) : 0 < y.left := s9 h.inv (mq hq)
theorem Fj.old (h : Fj b c all x y) (hq : 0 < (rowAt y.queue y.now).length) (hd : jf (Ag y) (bZ y) = true) : Fj b c all x (Ag y) := by
 have hr := mq hq
 have hm : AL (Ag y) < AL y := Gk h.inv hr
 have hl := h.le
 exact ⟨Ey h.inv hr hd, h.same.step (FN (h.pos hq) hr hd), by omega, fun _ => by omega, h.now⟩
theorem Fj.mark (h : Fj b c all x y) (hq : 0 < (rowAt y.queue y.now).length) (hd : jf (Ag y) (bZ y) = false) (hm : (!all && dj b (bZ y)) = false) : Inv b c all (upTo b (bZ y) 0) 42 (eW y) ∧ At b (bZ y) (eW y) :=
 zc h.inv (mq hq) hd (fun ha => by rw [ha] at hm; simpa using hm)
theorem Fj.new (h : Fj b c all x y) (hr : b.dD) (hc : iC b c) (hq : 0 < (rowAt y.queue y.now).length) (hd : jf (Ag y) (bZ y) = false) (hm : (!all && dj b (bZ y)) = false) : Fj b c all x (cV b c (bZ y) (eW y) (ay b (bZ y)).length) := by
 have he := mq hq
 have hlt : AL (cV b c (bZ y) (eW y) (ay b (bZ y)).length) < AL y := G0 h.inv hr he hd (h.mark hq hd hm).1
 have hl := h.le
 exact ⟨H7 hr hc h.inv he hd hm, h.same.step (FM (h.pos hq) he hd hm), by omega, fun _ => by omega, by rw [rD]; exact h.now⟩
theorem Fj.found (h : Fj b c all x y) (hq : 0 < (rowAt y.queue y.now).length) (hd : jf (Ag y) (bZ y) = false) (hm : (!all && dj b (bZ y)) = true) : cZ b c all = ⟨y.ways, bZ y, true⟩ :=
 h.same.stop (zK (h.pos hq) (mq hq) hd hm)
theorem Gd (h : Inv b c all (ay b) 0 y) (hs : pZ b c all y) (hq : rowAt y.queue y.now = []) : pZ b c all (later y) := by
 rcases Int.lt_or_le 0 y.left with hl | hl
 ·exact hs.step (zW hl hq)
 intro f hf
 have h1 : Ends b c all (later y) ⟨y.ways, KM, false⟩ := .stop (step_end hl)
 rw [hf.QK h1]
 exact hs.stop (step_end hl)
theorem Fj.later (h : Fj b c all x y) (hr : b.dD) (hq : rowAt y.queue y.now = []) : Inv b c all (ay b) 0 (later y) ∧ pZ b c all (later y) ∧ AL (later y) < AL x := by
 refine ⟨CC h.inv hq, Gd h.inv h.same hq, ?_⟩
 have h1 := h.le
 rcases Int.lt_or_le 0 y.left with hl | hl
 ·have := Ee h.inv hr hl hq; omega
 have := h.lt hl
 have := FI y; omega
theorem Ew (p : Pl) (t : bu) (h : t.cJ.toNat < 6) : (m3 p).set (0 + t.cJ.toNat * 1) (Ty.int .i64 t.aim) = m3 (bf p t) := by
 rw [show 0 + t.cJ.toNat * 1 = t.cJ.toNat by omega]; exact OX p t.aim h
theorem J4 {p : Pl} {z : St} {k : Nat} (hk : k < (ay b p).length) (h : vU (cV b c p z k).ways (bf p (nth (ay b p) k)) ((cV b c p z k).now + c (nth (ay b p) k)) = true) : cV b c p z (k + 1) = cV b c p z k := by
 rw [su hk, Bj h]
theorem LN {p : Pl} {z : St} {k : Nat} (hk : k < (ay b p).length) (h : vU (cV b c p z k).ways (bf p (nth (ay b p) k)) ((cV b c p z k).now + c (nth (ay b p) k)) = false) :
 (cV b c p z (k + 1)).ways = cz (cV b c p z k).ways (bf p (nth (ay b p) k)) ⟨p, [nth (ay b p) k], (cV b c p z k).now + c (nth (ay b p) k)⟩ ∧
 (cV b c p z (k + 1)).queue = cz (cV b c p z k).queue ((cV b c p z k).now + c (nth (ay b p) k)) (rowAt (cV b c p z k).queue ((cV b c p z k).now + c (nth (ay b p) k)) ++ [bf p (nth (ay b p) k)]) ∧
 (cV b c p z (k + 1)).left = (cV b c p z k).left + 1 := by
 rw [su hk, EM h]; exact ⟨rfl, rfl, rfl⟩
theorem F4 {p : Pl} {z : St} {k : Nat} {n : Int} (hk : k < (ay b p).length) (hn : (cV b c p z k).now = n) (h : vU (cV b c p z k).ways (bf p (nth (ay b p) k)) (n + c (nth (ay b p) k)) = true) : cV b c p z k = cV b c p z (k + 1) :=
 (J4 hk (by rw [hn]; exact h)).symm
theorem KX {p : Pl} {z : St} {k : Nat} {n : Int} (hk : k < (ay b p).length) (hn : (cV b c p z k).now = n) (h : vU (cV b c p z k).ways (bf p (nth (ay b p) k)) (n + c (nth (ay b p) k)) = false) :
 cz (cV b c p z k).ways (bf p (nth (ay b p) k)) ⟨p, [nth (ay b p) k], n + c (nth (ay b p) k)⟩ = (cV b c p z (k + 1)).ways ∧
 cz (cV b c p z k).queue (n + c (nth (ay b p) k)) (rowAt (cV b c p z k).queue (n + c (nth (ay b p) k)) ++ [bf p (nth (ay b p) k)]) = (cV b c p z (k + 1)).queue ∧
 (cV b c p z k).left + 1 = (cV b c p z (k + 1)).left := by
 obtain ⟨h1, h2, h3⟩ := LN hk (by rw [hn]; exact h)
 rw [h1, h2, h3, hn]; exact ⟨rfl, rfl, rfl⟩
end Go.Proofs.YtmmcenjknimhbaaGreat
namespace Go.Proofs.YtmmcenjknimhbaaGreat
open Go Go.T
theorem uh {α : Type} [Inhabited α] {a b : List α} (hl : a.length = b.length) (h : ∀ i, i < a.length → nth a i = nth b i) : a = b :=
 List.ext_getElem hl fun i h1 h2 => by rw [← cL h1, ← cL h2]; exact h i h1
theorem uW {α : Type} [Inhabited α] {l : List α} {i j : Nat} {v : α} (h : j < l.length) : nth (l.set i v) j = if i = j then v else nth l j := by
 unfold nth
 rw [List.getD_eq_getElem?_getD, List.getD_eq_getElem?_getD, List.getElem?_set]
 by_cases e : i = j
 ·subst e; rw [if_pos rfl, if_pos rfl, if_pos h]; rfl
 rw [if_neg e, if_neg e]
section
variable {α : Type} [Inhabited α]
def oC (xs : List α) (k : Nat) : List α := (List.range xs.length).map fun p => if p < k ∨ xs.length ≤ p + k then nth xs (xs.length - 1 - p) else nth xs p
theorem iL (xs : List α) (k : Nat) : (oC xs k).length = xs.length := by unfold oC; rw [List.length_map, List.length_range]
theorem lf {xs : List α} {k p : Nat} (h : p < xs.length) : nth (oC xs k) p = if p < k ∨ xs.length ≤ p + k then nth xs (xs.length - 1 - p) else nth xs p := by
 rw [cL (by rw [iL]; exact h)]; unfold oC; rw [List.getElem_map, List.getElem_range]
theorem z8 (xs : List α) : oC xs 0 = xs := uh (iL _ _) fun i hi => by
 rw [iL] at hi
 rw [lf hi, if_neg (by omega)]
theorem yO {xs : List α} {k : Nat} (h : k + 1 < xs.length - k) : ((oC xs k).set k (nth (oC xs k) (xs.length - 1 - k))).set (xs.length - 1 - k) (nth (oC xs k) k) = oC xs (k + 1) := by
 have hl := iL xs k
 refine uh (by rw [List.length_set, List.length_set, hl, iL]) fun i hi => ?_
 rw [List.length_set, List.length_set, hl] at hi
 rw [uW (by rw [List.length_set, hl]; exact hi), uW (by rw [hl]; exact hi), lf hi, lf hi, lf (by omega), lf (by omega)]
 by_cases e1 : xs.length - 1 - k = i
 ·rw [if_pos e1, if_neg (by omega), if_pos (by omega), ← e1]; congr 1; omega
 rw [if_neg e1]
 by_cases e2 : k = i
 ·rw [if_pos e2, if_neg (by omega), if_pos (by omega), ← e2]
 rw [if_neg e2]
 by_cases e3 : i < k ∨ xs.length ≤ i + k
 ·rw [if_pos e3, if_pos (by omega)]
 rw [if_neg e3, if_neg (by omega)]
theorem BU {xs : List α} {k : Nat} (h : ¬ k + 1 < xs.length - k) : oC xs k = xs.reverse := by
 refine uh (by rw [iL, List.length_reverse]) fun i hi => ?_
 rw [iL] at hi
 rw [lf hi, cL (xs := xs.reverse) (by rw [List.length_reverse]; exact hi), List.getElem_reverse, ← cL]
 by_cases e : i < k ∨ xs.length ≤ i + k
 ·rw [if_pos e]
 rw [if_neg e]; congr 1; omega
end
theorem ga {α : Type} (l : List (List α)) (k : Nat) : (l.take k).flatten.length ≤ l.flatten.length := by
 conv => rhs; rw [← List.take_append_drop k l, List.flatten_append, List.length_append]
 omega
theorem eF {α : Type} {l : List (List α)} {k : Nat} (h : k < l.length) : (l.take (k + 1)).flatten = (l.take k).flatten ++ nth l k := by
 rw [cE h, List.flatten_append]; simp
inductive gx (ways : List (Pl × Way)) (first : Pl) : Pl → List (List bu) → Prop
  | nil : gx ways first first []
  | snoc {p : Pl} {w : Way} {A : List (List bu)} : p ≠ first → bU ways p = some w → gx ways first w.frm A → gx ways first p (A ++ [w.byT])
theorem gx.EE {ways : List (Pl × Way)} {first : Pl} {A : List (List bu)} (h : gx ways first first A) : A = [] := by
  generalize hp : first = p at h
  have : ∀ {q A}, gx ways first q A → q = first → A = [] := fun {q A} h e => by
    cases h with
    | nil => rfl
    | snoc h1 _ _ => exact absurd e h1
  subst hp
  exact this h rfl
theorem gx.step {ways : List (Pl × Way)} {first p : Pl} {A : List (List bu)} (h : gx ways first p A) (hp : p ≠ first) : gx ways first ((bU ways p).getD jj).frm A.dropLast ∧ A = A.dropLast ++ [((bU ways p).getD jj).byT] := by
  cases h with
  | nil => exact absurd rfl hp
  | snoc h1 h2 h3 => rw [h2, List.dropLast_concat]; exact ⟨h3, rfl⟩
theorem gx.QK {ways : List (Pl × Way)} {first : Pl} : ∀ {p : Pl} {A B : List (List bu)}, gx ways first p A → gx ways first p B → A = B := by
  intro p A B h
  induction h generalizing B with
  | nil => exact fun h' => h'.EE.symm
  | snoc h1 h2 _ ih =>
    intro h'
    cases h' with
    | nil => exact absurd rfl h1
    | snoc g1 g2 g3 => rw [h2] at g2; injection g2 with g2; subst g2; rw [ih g3]
open Classical in
noncomputable def qJ (ways : List (Pl × Way)) (first p : Pl) : List (List bu) := if h : ∃ A, gx ways first p A then h.choose else []
theorem qC {ways : List (Pl × Way)} {first p : Pl} {A : List (List bu)} (h : gx ways first p A) : qJ ways first p = A := by
 unfold qJ
 rw [dif_pos ⟨A, h⟩]
 exact (Exists.choose_spec (⟨A, h⟩ : ∃ A, gx ways first p A)).QK h
variable {b : aW} {c : bu → Int} {all : Bool}
theorem Found.Spec.chain {f : Found} (h : f.Spec b c all) (hr : b.dD) (hc : iC b c) : ∀ (n : Nat) (p : Pl) (w : Way), bU f.ways p = some w → w.all.toNat ≤ n →
    ∃ A, gx f.ways (bE b) p A ∧ mw b (bE b) A.flatten = some p ∧ gz c A.flatten = w.all ∧ A.flatten.length = A.length ∧ (A.length : Int) ≤ w.all := by
  intro n
  induction n with
  | zero =>
    intro p w hw hn
    rcases h.via p w hw with e | ⟨t, w', h1, h2, h3, h4, h5⟩
    · subst e
      rw [h.start] at hw; injection hw with hw; subst hw
      exact ⟨[], .nil, rfl, rfl, rfl, Int.le_refl _⟩
    · obtain ⟨l, hl, hcl⟩ := h.walk _ _ h4
      have := yu hc l hl
      have := hc.at h2
      omega
  | succ n ih =>
    intro p w hw hn
    by_cases e : p = bE b
    · subst e
      rw [h.start] at hw; injection hw with hw; subst hw
      exact ⟨[], .nil, rfl, rfl, rfl, Int.le_refl _⟩
    rcases h.via p w hw with e' | ⟨t, w', h1, h2, h3, h4, h5⟩
    · exact absurd e' e
    · have := hc.at h2
      obtain ⟨l, hl, hcl⟩ := h.walk _ _ h4
      have := yu hc l hl
      obtain ⟨A, g1, g2, g3, g4, g5⟩ := ih w.frm w' h4 (by omega)
      refine ⟨A ++ [w.byT], .snoc e hw g1, ?_, ?_, ?_, ?_⟩
      · rw [List.flatten_append, h1, h3]; simp only [List.flatten_cons, List.flatten_nil, List.append_nil]; exact yW g2 h2
      · rw [List.flatten_append, h1, lQ, g3]; simp only [List.flatten_cons, List.flatten_nil, List.append_nil]; rw [rJ]; omega
      · rw [List.flatten_append, h1]; simp [g4]
      · rw [List.length_append]; simp; omega
noncomputable def kX (b : aW) (c : bu → Int) : List (List bu) := qJ (cZ b c false).ways (bE b) (cZ b c false).last
noncomputable def BR (b : aW) (c : bu → Int) : List bu := if (cZ b c false).is = true then (kX b c).flatten else []
noncomputable def uN (b : aW) (c : bu → Int) : Int := if (cZ b c false).is = true then ((bU (cZ b c false).ways (cZ b c false).last).getD jj).all else 0
structure Mv (b : aW) (c : bu → Int) : Prop where
  chain : (cZ b c false).is = true → gx (cZ b c false).ways (bE b) (cZ b c false).last (kX b c)
  len : (cZ b c false).is = true → (kX b c).length ≤ 40000000 ∧ (kX b c).flatten.length = (kX b c).length
  yes : (cZ b c false).is = true → ∃ q, mw b (bE b) (BR b c) = some q ∧ dj b q = true ∧ gz c (BR b c) = uN b c ∧ ∀ l q, mw b (bE b) l = some q → dj b q = true → uN b c ≤ gz c l
  no : (cZ b c false).is = false → ∀ l q, mw b (bE b) l = some q → dj b q = false
theorem vp (hr : b.dD) (hc : iC b c) : Mv b c := by
 obtain ⟨h, _⟩ := Ff hr hc false
 have key : (cZ b c false).is = true → ∃ w, bU (cZ b c false).ways (cZ b c false).last = some w ∧ gx (cZ b c false).ways (bE b) (cZ b c false).last (kX b c) ∧ mw b (bE b) (kX b c).flatten = some (cZ b c false).last ∧ gz c (kX b c).flatten = w.all ∧ (kX b c).flatten.length = (kX b c).length ∧ ((kX b c).length : Int) ≤ w.all := fun hi => by
  obtain ⟨_, w, hw, _⟩ := h.yes hi
  obtain ⟨A, g1, g2, g3, g4, g5⟩ := h.chain hr hc _ _ w hw (Nat.le_refl _)
  have e : kX b c = A := qC g1
  rw [e]; exact ⟨w, hw, g1, g2, g3, g4, g5⟩
 refine ⟨fun hi => ?_, fun hi => ?_, fun hi => ?_, fun hi => h.no hi rfl⟩
 ·obtain ⟨w, hw, g1, _⟩ := key hi; exact g1
 ·obtain ⟨w, hw, _, _, _, g4, g5⟩ := key hi
  have h1 := h.cap _ _ hw
  have h2 := oa
  exact ⟨by omega, g4⟩
 obtain ⟨w, hw, _, g2, g3, _, _⟩ := key hi
 obtain ⟨h1, w', hw', h2⟩ := h.yes hi
 rw [hw] at hw'; injection hw' with hw'; subst hw'
 have e1 : BR b c = (kX b c).flatten := if_pos hi
 have e2 : uN b c = w.all := by unfold uN; rw [if_pos hi, hw]; rfl
 exact ⟨_, by rw [e1]; exact g2, h1, by rw [e1, e2]; exact g3, fun l q hl hq => by rw [e2]; exact h2 l q hl hq⟩
noncomputable def mh (b : aW) (c : bu → Int) : Int := if cS b = 0 then if (cZ b c false).is = true then 0 else 7 else cS b
noncomputable def xD (b : aW) (c : bu → Int) : List bu := if cS b = 0 then BR b c else []
noncomputable def oB (b : aW) (c : bu → Int) : Int := if cS b = 0 then uN b c else 0
def pL (_ : bu) : Int := 1
def pY (b : aW) (t : bu) : Int := (nth b.lots t.cJ.toNat).sacks
theorem LF (b : aW) : iC b pL := fun t _ _ => by unfold pL; omega
theorem NU {b : aW} (h : b.dD) : iC b (pY b) := fun t h1 h2 => h.sacks _ (bh (by omega))
noncomputable def lP (b : aW) : Int := if cS b = 0 then ((cZ b pL true).ways.length : Nat) else 0
end Go.Proofs.YtmmcenjknimhbaaGreat
namespace Go.Proofs.YtmmcenjknimhbaaGreat
open Go Go.T
def H6 : aW := ⟨[], []⟩
def nU (b : aW) (t : bu) : List p4 := b.lots.set t.cJ.toNat { nth b.lots t.cJ.toNat with inn := t.aim }
def eL (b : aW) (t : bu) : aW × Int :=
  if (!b.cJ t.cJ || !b.bin t.aim) = true then (H6, 1) else if b.free t.aim = false then (H6, 5) else if b.hold t.aim t.cJ = false then (H6, 9) else (⟨b.sizes, nU b t⟩, 0)
theorem yp {b : aW} {t : bu} (h : (!b.cJ t.cJ || !b.bin t.aim) = true) : eL b t = (H6, 1) := if_pos h
theorem zf {b : aW} {t : bu} (h : (!b.cJ t.cJ || !b.bin t.aim) = false) (h2 : b.free t.aim = false) : eL b t = (H6, 5) := by unfold eL; rw [if_neg (by rw [h]; decide), if_pos h2]
theorem zR {b : aW} {t : bu} (h : (!b.cJ t.cJ || !b.bin t.aim) = false) (h2 : b.free t.aim = true) (h3 : b.hold t.aim t.cJ = false) : eL b t = (H6, 9) := by unfold eL; rw [if_neg (by rw [h]; decide), if_neg (by rw [h2]; decide), if_pos h3]
theorem tT {b : aW} {t : bu} (h : (!b.cJ t.cJ || !b.bin t.aim) = false) (h2 : b.free t.aim = true) (h3 : b.hold t.aim t.cJ = true) : eL b t = (⟨b.sizes, nU b t⟩, 0) := by unfold eL; rw [if_neg (by rw [h]; decide), if_neg (by rw [h2]; decide), if_neg (by rw [h3]; decide)]
theorem vW {b : aW} {t : bu} (h : (!b.cJ t.cJ || !b.bin t.aim) = false) : (0 ≤ t.cJ ∧ t.cJ < b.lots.length) ∧ 0 ≤ t.aim ∧ t.aim < b.sizes.length := by
 simp only [Bool.or_eq_false_iff, Bool.not_eq_false', aW.cJ, aW.bin, iD] at h; omega
theorem yQ {b : aW} {t : bu} : (eL b t).2 = 0 → (0 ≤ t.cJ ∧ t.cJ < b.lots.length) ∧ (0 ≤ t.aim ∧ t.aim < b.sizes.length) ∧ b.free t.aim = true ∧ b.hold t.aim t.cJ = true ∧ (eL b t).1 = ⟨b.sizes, nU b t⟩ := by
  intro h
  cases h1 : (!b.cJ t.cJ || !b.bin t.aim) with
  | true => rw [yp h1] at h; cases h
  | false =>
    cases h2 : b.free t.aim with
    | false => rw [zf h1 h2] at h; cases h
    | true =>
      cases h3 : b.hold t.aim t.cJ with
      | false => rw [zR h1 h2 h3] at h; cases h
      | true => have := vW h1; rw [tT h1 h2 h3]; exact ⟨this.1, this.2, rfl, rfl, rfl⟩
def oV (cur : aW) (back : List bu) : List bu → aW × List bu × Int
  | [] => (cur, back.reverse, 0)
  | t :: l => if (eL cur t).2 = 0 then oV (eL cur t).1 (back ++ [⟨t.cJ, (nth cur.lots t.cJ.toNat).inn⟩]) l else (H6, [], (eL cur t).2)
def iR (b : aW) (plan : List bu) : aW × List bu × Int :=
  if cS b = 0 then if (plan.length : Int) > 6000 then (H6, [], 2) else oV b [] plan else (H6, [], cS b)
structure O0 (b : aW) (plan : List bu) (k : Nat) (cur : aW) (back : List bu) : Prop where
  same : oV b [] plan = oV cur back (plan.drop k)
  sizes : cur.sizes = b.sizes
  lots : cur.lots.length = b.lots.length
  len : back.length = k
  le : k ≤ plan.length
theorem RR (b : aW) (plan : List bu) : O0 b plan 0 b [] := ⟨by rw [List.drop_zero], rfl, rfl, rfl, Nat.zero_le _⟩
section
variable {b : aW} {plan : List bu} {k : Nat} {cur : aW} {back : List bu} (h : O0 b plan k cur back)
include h
theorem O0.small (hs : b.Small) : cur.Small := ⟨by rw [h.sizes]; exact hs.sizes, by rw [h.lots]; exact hs.lots⟩
theorem O0.stop (hk : k < plan.length) (he : ¬ (eL cur (nth plan k)).2 = 0) : oV b [] plan = (H6, [], (eL cur (nth plan k)).2) := by
 rw [h.same, kr hk]; exact if_neg he
theorem O0.next (hk : k < plan.length) (he : (eL cur (nth plan k)).2 = 0) : O0 b plan (k + 1) (eL cur (nth plan k)).1 (back ++ [⟨(nth plan k).cJ, (nth cur.lots (nth plan k).cJ.toNat).inn⟩]) := by
 obtain ⟨_, _, _, _, e⟩ := yQ he
 refine ⟨?_, by rw [e]; exact h.sizes, by rw [e]; show (nU _ _).length = _; unfold nU; rw [List.length_set]; exact h.lots, by rw [List.length_append, h.len]; rfl, by omega⟩
 rw [h.same, kr hk]; exact if_pos he
theorem O0.end (hk : plan.length ≤ k) : oV b [] plan = (cur, back.reverse, 0) := by
 rw [h.same, List.drop_of_length_le hk]; rfl
end
theorem vI {b : aW} {plan : List bu} (h : ¬ cS b = 0) : iR b plan = (H6, [], cS b) := if_neg h
theorem tG {b : aW} {plan : List bu} (h : cS b = 0) (h2 : (plan.length : Int) > 6000) : iR b plan = (H6, [], 2) := (if_pos h).trans (if_pos h2)
theorem mJ {b : aW} {plan : List bu} (h : cS b = 0) (h2 : ¬ (plan.length : Int) > 6000) {x : aW × List bu × Int} (e : oV b [] plan = x) : iR b plan = x := (if_pos h).trans ((if_neg h2).trans e)
def K8 (b : aW) : Bool := b.lots.all fun l => decide (l.aim = -1) || decide (l.aim = l.inn)
def DH (b : aW) (plan : List bu) : Bool := decide ((iR b plan).2.2 = 0) && K8 (iR b plan).1
end Go.Proofs.YtmmcenjknimhbaaGreat
namespace Go.Proofs.YtmmcenjknimhbaaGreat
open Go Go.T
theorem oT {α : Type} [Inhabited α] {l : List α} {x : α} (h : x ∈ l) : ∃ m, m < l.length ∧ x = nth l m := by
 obtain ⟨m, hm, e⟩ := List.getElem_of_mem h
 exact ⟨m, hm, by rw [cL hm]; exact e.symm⟩
theorem qy : ∀ {n : Nat} {l : List Nat}, l.Nodup → (∀ y ∈ l, y < n) → l.length ≤ n
  | 0, l, _, hr => by
    cases l with
    | nil => simp
    | cons a _ => exact absurd (hr a List.mem_cons_self) (by omega)
  | n + 1, l, hn, hr => by
    by_cases h : n ∈ l
    · have h1 := List.length_erase_of_mem h
      have h2 := qy (n := n) (l := l.erase n) (hn.erase n) fun y hy => by
        have h3 := (hn.mem_erase_iff (a := y) (b := n)).1 hy
        have := hr y h3.2
        have := h3.1
        omega
      omega
    · have h2 := qy (n := n) (l := l) hn fun y hy => by
        have := hr y hy
        have : y ≠ n := fun e => h (e ▸ hy)
        omega
      omega
def sY (b : aW) (l : List Int) (k : Nat) : Bool := decide (follows b (nth l k) = nth l ((k + 1) % l.length))
def lE (b : aW) (l : List Int) : Bool := decide (1 < l.length) && (List.range l.length).all fun k => sY b l k
theorem qw {b : aW} {l : List Int} {k : Nat} (hk : k < l.length) (h : sY b l k = false) : lE b l = false := by
 unfold lE
 rw [Bool.and_eq_false_iff]
 right
 rw [List.all_eq_false]
 exact ⟨k, List.mem_range.2 hk, by rw [h]; decide⟩
theorem zk {b : aW} {l : List Int} (h : ∀ k, k < l.length → sY b l k = true) : lE b l = decide (1 < l.length) := by
 unfold lE
 rw [List.all_eq_true.2 fun k hk => h k (List.mem_range.1 hk), Bool.and_true]
theorem wq {b : aW} {l : List Int} (h : l.length < 2) : lE b l = false := by
 unfold lE; rw [decide_eq_false (by omega)]; rfl
structure QE (b : aW) (i : Nat) (l : List Int) : Prop where
  pos : 1 ≤ l.length
  len : l.length ≤ b.lots.length + 1
  head : nth l 0 = i
  rng : ∀ k, k < l.length → (i : Int) ≤ nth l k ∧ nth l k < b.lots.length
  above : ∀ k, 1 ≤ k → k < l.length → (i : Int) < nth l k
  chain : ∀ k, k + 1 < l.length → follows b (nth l k) = nth l (k + 1)
  same : tI b i = if l.length ≤ b.lots.length then zJ b i (b.lots.length + 2 - l.length) l else none
theorem oF {l : List Int} {x : Int} {k : Nat} (h : k < l.length) : nth (l ++ [x]) k = nth l k := by
 unfold nth; rw [List.getD_eq_getElem?_getD, List.getD_eq_getElem?_getD, List.getElem?_append_left h]
theorem yc {l : List Int} {x : Int} : nth (l ++ [x]) l.length = x := by
 unfold nth; rw [List.getD_eq_getElem?_getD, List.getElem?_append_right (Nat.le_refl _)]; simp
section
variable {b : aW} {i : Nat} {l : List Int} (x : QE b i l)
include x
theorem QE.next (h1 : (i : Int) < follows b (nth l (l.length - 1))) (h2 : l.length ≤ b.lots.length) : QE b i (l ++ [follows b (nth l (l.length - 1))]) := by
 have hp := x.pos
 have hr := rj b (nth l (l.length - 1))
 have hl : (l ++ [follows b (nth l (l.length - 1))]).length = l.length + 1 := by simp
 refine ⟨by omega, by omega, by rw [oF hp]; exact x.head, fun k hk => ?_, fun k hk hk' => ?_, fun k hk => ?_, ?_⟩
 ·by_cases h : k < l.length
  ·rw [oF h]; exact x.rng k h
  obtain rfl : k = l.length := by omega
  rw [yc]; omega
 ·by_cases h : k < l.length
  ·rw [oF h]; exact x.above k hk h
  obtain rfl : k = l.length := by omega
  rw [yc]; exact h1
 ·by_cases h : k + 1 < l.length
  ·rw [oF h, oF (by omega)]; exact x.chain k h
  have h9 : k + 1 = l.length := by omega
  rw [h9, yc, oF (by omega), show k = l.length - 1 by omega]
 rw [x.same, if_pos h2, hl]
 rw [show b.lots.length + 2 - l.length = (b.lots.length + 1 - l.length) + 1 by omega]
 show (if _ then _ else _) = _
 rw [if_neg (by omega), if_neg (by omega)]
 by_cases h : l.length + 1 ≤ b.lots.length
 ·rw [if_neg (by omega), if_pos h, show b.lots.length + 2 - (l.length + 1) = b.lots.length + 1 - l.length by omega]
 rw [if_pos (by omega), if_neg h]
theorem QE.ring (h : follows b (nth l (l.length - 1)) = i) : lE b l = decide (1 < l.length) := zk fun k hk => by
 unfold sY
 by_cases h1 : k + 1 < l.length
 ·rw [Nat.mod_eq_of_lt h1]; exact decide_eq_true (x.chain k h1)
 have h9 : k + 1 = l.length := by omega
 rw [h9, Nat.mod_self, x.head, show k = l.length - 1 by omega]; exact decide_eq_true h
theorem QE.no (h : follows b (nth l (l.length - 1)) ≠ i) : lE b l = false := qw (k := l.length - 1) (by have := x.pos; omega) (by
 unfold sY
 have := x.pos
 rw [show l.length - 1 + 1 = l.length by omega, Nat.mod_self, x.head]; exact decide_eq_false h)
theorem QE.QS (h : l.length = b.lots.length + 1) : follows b (nth l (l.length - 1)) ≠ i := by
  intro he
  have hnd : ¬ ((List.range l.length).map fun k => (nth l k).toNat).Nodup := fun hnd => by
    have := qy hnd (n := b.lots.length) (fun y hy => by
      obtain ⟨k, hk, rfl⟩ := List.mem_map.1 hy
      have := x.rng k (List.mem_range.1 hk); omega)
    simp at this; omega
  obtain ⟨p, q, hpq, hq, heq⟩ : ∃ p q, p < q ∧ q < l.length ∧ nth l p = nth l q := by
    apply Classical.byContradiction
    intro hno
    apply hnd
    rw [List.nodup_iff_pairwise_ne, List.pairwise_map]
    refine List.Pairwise.imp_of_mem (R := fun a c => a < c) (fun {a c} ha hc hac e => hno ⟨a, c, hac, List.mem_range.1 hc, ?_⟩) List.pairwise_lt_range
    have h1 := x.rng a (List.mem_range.1 ha)
    have h2 := x.rng c (List.mem_range.1 hc)
    omega
  have key : ∀ t, q + t < l.length → nth l (p + t) = nth l (q + t) := by
    intro t
    induction t with
    | zero => intro _; exact heq
    | succ t ih =>
      intro ht
      have := ih (by omega)
      rw [← Nat.add_assoc, ← Nat.add_assoc, ← x.chain (p + t) (by omega), ← x.chain (q + t) (by omega), this]
  have h1 := key (l.length - 1 - q) (by omega)
  rw [show q + (l.length - 1 - q) = l.length - 1 by omega] at h1
  have h2 := x.chain (p + (l.length - 1 - q)) (by omega)
  rw [h1, he] at h2
  have := x.above (p + (l.length - 1 - q) + 1) (by omega) (by omega)
  omega
theorem QE.done (h : ¬ ((i : Int) < follows b (nth l (l.length - 1)) ∧ l.length ≤ b.lots.length)) : tI b i = if lE b l = true then some l else none := by
 have hlen := x.len
 have hp := x.pos
 by_cases h2 : l.length ≤ b.lots.length
 ·rw [x.same, if_pos h2, show b.lots.length + 2 - l.length = (b.lots.length + 1 - l.length) + 1 by omega]
  show (if _ then _ else _) = _
  by_cases h1 : follows b (nth l (l.length - 1)) = i
  ·rw [x.ring h1]
   by_cases h3 : 1 < l.length
   ·rw [if_pos ⟨h1, h3⟩, if_pos (decide_eq_true h3)]
   rw [if_neg (fun h => h3 h.2), if_pos (by omega), if_neg (by rw [decide_eq_false h3]; decide)]
  rw [x.no h1, if_neg (fun h => h1 h.1), if_pos (by omega), if_neg (by decide)]
 rw [x.same, if_neg h2, x.no (x.QS (by omega)), if_neg (by decide)]
end
def uz (b : aW) (rings : List (List Int)) : Int × Int :=
  if (rings.flatten.any fun n => HA n 0 (b.lots.length - 1)) = true then (0, 1) else
  if ((List.range rings.flatten.length).any fun k => decide (nth rings.flatten k ∈ rings.flatten.take k)) = true then (0, 5) else
  if (rings.any fun l => !lE b l) = true then (0, 8) else ((IE b).length + rings.length, 0)
end Go.Proofs.YtmmcenjknimhbaaGreat
namespace Go.Proofs.YtmmcenjknimhbaaGreat
open Go Go.T
def mK (b : aW) (rings : List (List Int)) : Bool := rings.flatten.any fun n => HA n 0 (b.lots.length - 1)
def vM (l : List Int) : Bool := (List.range l.length).any fun k => decide (nth l k ∈ l.take k)
def wC (b : aW) (rings : List (List Int)) : Bool := rings.any fun l => !lE b l
def Ar (b : aW) (rings : List (List Int)) : Int × Int := if cS b = 0 then uz b rings else (0, cS b)
variable {b : aW} {rings : List (List Int)}
theorem BG (h : mK b rings = true) : uz b rings = (0, 1) := if_pos h
theorem xH (h0 : mK b rings = false) (h : vM rings.flatten = true) : uz b rings = (0, 5) := (if_neg (by show ¬ mK b rings = true; rw [h0]; decide)).trans (if_pos h)
theorem nT (h0 : mK b rings = false) (h1 : vM rings.flatten = false) (h : wC b rings = true) : uz b rings = (0, 8) :=
 (if_neg (by show ¬ mK b rings = true; rw [h0]; decide)).trans ((if_neg (by show ¬ vM rings.flatten = true; rw [h1]; decide)).trans (if_pos h))
theorem ER (h0 : mK b rings = false) (h1 : vM rings.flatten = false) (h2 : wC b rings = false) : uz b rings = (((IE b).length + rings.length : Int), (0 : Int)) :=
 (if_neg (by show ¬ mK b rings = true; rw [h0]; decide)).trans ((if_neg (by show ¬ vM rings.flatten = true; rw [h1]; decide)).trans (if_neg (by show ¬ wC b rings = true; rw [h2]; decide)))
theorem Am (h : ¬ cS b = 0) : Ar b rings = (0, cS b) := if_neg h
theorem gF (h : cS b = 0) {x : Int × Int} (e : uz b rings = x) : Ar b rings = x := (if_pos h).trans e
theorem Nr (n : Int) : (!b.cJ n) = HA n 0 (b.lots.length - 1) := by unfold aW.cJ; rw [Nc]
theorem vD (v : Bool) (h : (!rings.flatten.all fun n => b.cJ n) = v) : mK b rings = v := by
 rw [← h]; unfold mK; rw [Od _ _ _ (fun n => Nr n)]
theorem NX (h : mK b rings = false) {m i : Nat} (hm : m < rings.length) (hi : i < (nth rings m).length) : 0 ≤ nth (nth rings m) i ∧ nth (nth rings m) i < b.lots.length := by
 have h1 := any_none h (x := nth (nth rings m) i) (List.mem_flatten.2 ⟨_, bh hm, bh hi⟩)
 rw [Gz] at h1; omega
theorem MW {m : Nat} (hm : m < rings.length) : (nth rings m).length ≤ rings.flatten.length := by
 have h1 := ga rings (m + 1)
 rw [eF hm, List.length_append] at h1; omega
theorem uI {m : Nat} (hm : m < rings.length) (h : lE b (nth rings m) = false) : wC b rings = true := Lp hm (by rw [h]; rfl)
theorem Ju {m : Nat} (hm : m < rings.length) (h : ∀ l ∈ rings.take m, (!lE b l) = false) (h2 : ¬ (nth rings m).length < 2) (h3 : ∀ j, j < (nth rings m).length → sY b (nth rings m) j = true) : ∀ l ∈ rings.take (m + 1), (!lE b l) = false :=
 CH h hm (by rw [zk h3, decide_eq_true (by omega)]; rfl)
theorem F9 {m : Nat} (hm : rings.length ≤ m) (h : ∀ l ∈ rings.take m, (!lE b l) = false) : wC b rings = false := Hu h hm
theorem CN (l : List Int) (x : Int) : decide (0 ≤ fidx (fun y => decide (x = y)) l) = decide (x ∈ l) := by
 rw [nO, Bool.eq_iff_iff, List.any_eq_true, decide_eq_true_eq]
 constructor
 ·rintro ⟨y, hy, h⟩; rw [of_decide_eq_true h]; exact hy
 intro h; exact ⟨x, h, decide_eq_true rfl⟩
end Go.Proofs.YtmmcenjknimhbaaGreat
namespace Go.Proofs.YtmmcenjknimhbaaGreat
open Go Go.T
theorem sI (s : Sk) {lo hi : Int} (h : lo ≤ hi) : lo ≤ kM s lo hi ∧ kM s lo hi ≤ hi := by
 have := gD s (hi - lo + 1)
 unfold kM; omega
theorem FL {b : aW} (h : b.dD) : cS b = 0 := by
 have hb := h.bins
 have h1 : rX b = false := by
  unfold rX
  rw [Bool.or_eq_false_iff, Bool.not_eq_false', iD, decide_eq_false_iff_not]
  have := h.lots; omega
 have h2 : oy b = false := by
  unfold oy
  rw [Bool.or_eq_false_iff, Bool.not_eq_false', Bool.not_eq_false', List.all_eq_true, List.all_eq_true]
  exact ⟨fun n hn => iD.2 (h.size n hn), fun l hl => iD.2 (h.sacks l hl)⟩
 have h3 : AP b = false := by
  unfold AP
  rw [Bool.not_eq_false', List.all_eq_true]
  intro l hl
  have e1 := h.inn l hl
  have e2 := h.aim l hl
  simp only [Bool.and_eq_true, Bool.or_eq_true, decide_eq_true_eq, aW.bin, iD]
  omega
 have h4 : sZ b = false := by
  unfold sZ
  rw [iZ]
  intro i hi
  unfold C1
  rw [List.any_eq_false]
  intro x hx
  rw [List.mem_take_iff_getElem] at hx
  obtain ⟨k, hk, rfl⟩ := hx
  rw [← cL]
  obtain ⟨e1, e2⟩ := h.apart i k (by omega) hi
  simp only [Ct, Bool.or_eq_true, Bool.and_eq_true, decide_eq_true_eq, Bool.not_eq_true', decide_eq_false_iff_not, not_or, not_and]
  exact ⟨e1, fun e => by have := e2 e; omega⟩
 have h5 : Ax b = false := by
  unfold Ax
  rw [iZ]
  intro i hi
  obtain ⟨e1, e2⟩ := h.holds i hi
  simp only [IK, aW.hold, Bool.or_eq_false_iff, Bool.not_eq_false', decide_eq_true_eq, Bool.and_eq_false_iff, Int.toNat_natCast]
  refine ⟨e1, ?_⟩
  by_cases e : (nth b.lots i).aim = -1
  ·exact .inl e
  exact .inr (e2 e)
 unfold cS
 rw [if_neg (by rw [h1]; decide), if_neg (by rw [h2]; decide), if_neg (by rw [h3]; decide), if_neg (by rw [h4]; decide), if_neg (by rw [h5]; decide)]
def mj (s : Sk) : Nat → List Int × Sk
  | 0 => ([], s)
  | k + 1 => ((mj s k).1 ++ [kM (mj s k).2 20 60], bN (mj s k).2)
theorem oD (s : Sk) : ∀ k, (mj s k).1.length = k ∧ (∀ x ∈ (mj s k).1, 20 ≤ x ∧ x ≤ 60) ∧ (mj s k).2.taken = s.taken + k
  | 0 => ⟨rfl, fun x h => (by cases h), by simp [mj]⟩
  | k + 1 => by
    obtain ⟨h1, h2, h3⟩ := oD s k
    refine ⟨by show ((mj s k).1 ++ [_]).length = _; rw [List.length_append, h1]; rfl, fun x hx => ?_, by show (bN _).taken = _; rw [dG, h3]; omega⟩
    rcases List.mem_append.1 (show x ∈ (mj s k).1 ++ [kM (mj s k).2 20 60] from hx) with hx | hx
    · exact h2 x hx
    · rw [List.mem_singleton.1 hx]; exact sI _ (by omega)
structure Md where
  s : Sk
  bins : Int
  lots : Int
def Md.n (d : Md) : Nat := (kM d.s 2 d.bins).toNat
def Md.up (d : Md) (k : Nat) : List Int × Sk := mj (bN d.s) k
def Md.sizes (d : Md) : List Int := (d.up d.n).1
def Md.many (d : Md) : Nat := (gI (d.up d.n).2 (min d.lots (d.n : Nat) + 1)).toNat
def Md.to (d : Md) : List Int × Sk := dx (bN (d.up d.n).2) d.n
def Md.ks (d : Md) : List Int × Sk := dx d.to.2 d.n
def Md.jB (d : Md) (s : Sk) (k : Nat) : Int := if zM (bN s) 4 = true then -1 else nth d.to.1 k
def Md.nC (d : Md) (s : Sk) (k : Nat) : Int := kM s 1 (nth d.sizes (nth d.ks.1 k).toNat)
def Md.p6 (d : Md) (s : Sk) (k : Nat) : p4 := ⟨if d.jB s k ≠ -1 ∧ nth d.sizes (d.jB s k).toNat < d.nC s k then nth d.sizes (d.jB s k).toNat else d.nC s k, nth d.ks.1 k, d.jB s k⟩
def Md.lt (d : Md) : Nat → List p4 × Sk
  | 0 => ([], d.ks.2)
  | k + 1 => ((d.lt k).1 ++ [d.p6 (d.lt k).2 k], bN (bN (d.lt k).2))
def Md.EC (d : Md) : aW := ⟨d.sizes, (d.lt d.many).1⟩
def Md.sk (d : Md) : Sk := (d.lt d.many).2
structure Md.Ok (d : Md) : Prop where
  bins : 2 ≤ d.bins ∧ d.bins ≤ 7
  lots : 0 ≤ d.lots ∧ d.lots ≤ 6
variable {d : Md}
theorem Md.GN (h : d.Ok) : 2 ≤ d.n ∧ d.n ≤ 7 ∧ (d.n : Int) ≤ d.bins ∧ (d.n : Int) = kM d.s 2 d.bins := by
 have h1 := sI d.s h.bins.1
 have h2 := h.bins
 unfold Md.n; omega
theorem Md.n7 (d : Md) : d.sizes.length = d.n ∧ (∀ x ∈ d.sizes, 20 ≤ x ∧ x ≤ 60) := ⟨(oD _ _).1, (oD _ _).2.1⟩
theorem Md.Eu (d : Md) (k : Nat) : (d.up k).2.taken = d.s.taken + 1 + k := by
 have := (oD (bN d.s) k).2.2
 rw [dG] at this; exact this
theorem Md.Cl (h : d.Ok) : d.many ≤ d.n ∧ (d.many : Int) ≤ d.lots ∧ (d.many : Int) = gI (d.up d.n).2 (min d.lots (d.n : Nat) + 1) := by
 have h1 := gD (d.up d.n).2 (min d.lots (d.n : Nat) + 1)
 have h2 := h.lots
 unfold Md.many; omega
theorem Md.yY (d : Md) : d.to.1.length = d.n ∧ d.to.1.Nodup ∧ (∀ x ∈ d.to.1, 0 ≤ x ∧ x < (d.n : Int)) ∧ d.to.2.taken = d.s.taken + 2 + 2 * d.n := by
 obtain ⟨h1, h2, h3, h4⟩ := rI (bN (d.up d.n).2) d.n
 refine ⟨h1, h2, fun x hx => (h3 x).1 hx, ?_⟩
 show (dx _ _).2.taken = _
 rw [h4, dG, d.Eu]; omega
theorem Md.y9 (d : Md) : d.ks.1.length = d.n ∧ d.ks.1.Nodup ∧ (∀ x ∈ d.ks.1, 0 ≤ x ∧ x < (d.n : Int)) ∧ d.ks.2.taken = d.s.taken + 2 + 3 * d.n := by
 obtain ⟨h1, h2, h3, h4⟩ := rI d.to.2 d.n
 refine ⟨h1, h2, fun x hx => (h3 x).1 hx, ?_⟩
 show (dx _ _).2.taken = _
 rw [h4, d.yY.2.2.2]; omega
theorem Md.vX (d : Md) : ∀ k, (d.lt k).1.length = k ∧ (d.lt k).2.taken = d.s.taken + 2 + 3 * d.n + 2 * k
  | 0 => ⟨rfl, by show d.ks.2.taken = _; rw [d.y9.2.2.2]; simp⟩
  | k + 1 => by
    obtain ⟨h1, h2⟩ := d.vX k
    refine ⟨by show ((d.lt k).1 ++ [_]).length = _; rw [List.length_append, h1]; rfl, ?_⟩
    show (bN (bN _)).taken = _
    rw [dG, dG, h2]; omega
theorem Md.zA (d : Md) : ∀ k i, i < k → nth (d.lt k).1 i = d.p6 (d.lt i).2 i
  | 0, i, h => by omega
  | k + 1, i, h => by
    have hl := (d.vX k).1
    show nth ((d.lt k).1 ++ [d.p6 (d.lt k).2 k]) i = _
    unfold nth
    by_cases e : i < k
    · rw [List.getD_eq_getElem?_getD, List.getElem?_append_left (by omega), ← List.getD_eq_getElem?_getD]
      exact d.zA k i e
    · have e : i = k := by omega
      subst e
      rw [List.getD_eq_getElem?_getD, List.getElem?_append_right (by omega), hl]; simp
theorem Md.xu (d : Md) {x : Int} (h : 0 ≤ x ∧ x < (d.n : Int)) : 20 ≤ nth d.sizes x.toNat ∧ nth d.sizes x.toNat ≤ 60 := d.n7.2 _ (bh (by rw [d.n7.1]; omega))
theorem BB {l : List Int} (h : l.Nodup) {i k : Nat} (hi : i < l.length) (hk : k < l.length) (e : nth l i = nth l k) : i = k := by
 rw [cL hi, cL hk] at e
 rw [List.nodup_iff_pairwise_ne, List.pairwise_iff_getElem] at h
 rcases Nat.lt_trichotomy i k with c | c | c
 ·exact absurd e (h i k hi hk c)
 ·exact c
 exact absurd e.symm (h k i hk hi c)
theorem Md.qx (d : Md) (s : Sk) {k : Nat} (hk : k < d.n) : (0 ≤ nth d.ks.1 k ∧ nth d.ks.1 k < (d.n : Int)) ∧ (d.jB s k = -1 ∨ (d.jB s k = nth d.to.1 k ∧ 0 ≤ nth d.to.1 k ∧ nth d.to.1 k < (d.n : Int))) ∧ 1 ≤ d.nC s k ∧ d.nC s k ≤ nth d.sizes (nth d.ks.1 k).toNat := by
 have h1 := d.y9.2.2.1 _ (bh (xs := d.ks.1) (k := k) (by rw [d.y9.1]; exact hk))
 have h2 := d.yY.2.2.1 _ (bh (xs := d.to.1) (k := k) (by rw [d.yY.1]; exact hk))
 have h3 := d.xu h1
 refine ⟨h1, ?_, ?_⟩
 ·unfold Md.jB
  by_cases e : zM (bN s) 4 = true
  ·exact .inl (if_pos e)
  exact .inr ⟨if_neg e, h2⟩
 exact sI s (by omega)
theorem Md.right (h : d.Ok) : d.EC.dD := by
 have hn := d.GN h
 have hm := d.Cl h
 have hs := d.n7
 have hl := (d.vX d.many).1
 have hlots : d.EC.lots.length = d.many := hl
 have hsz : d.EC.sizes.length = d.n := hs.1
 have key : ∀ l ∈ d.EC.lots, ∃ i, i < d.many ∧ l = d.p6 (d.lt i).2 i := fun l hl' => by
  obtain ⟨i, hi, rfl⟩ := oT hl'
  rw [hlots] at hi
  exact ⟨i, hi, d.zA _ i hi⟩
 have hlo := h.lots
 have hsack : ∀ i, i < d.many → 1 ≤ (d.p6 (d.lt i).2 i).sacks ∧ (d.p6 (d.lt i).2 i).sacks ≤ nth d.sizes (nth d.ks.1 i).toNat ∧ ((d.p6 (d.lt i).2 i).aim ≠ -1 → (d.p6 (d.lt i).2 i).sacks ≤ nth d.sizes (d.p6 (d.lt i).2 i).aim.toNat) := fun i hi => by
  obtain ⟨e1, e2, e3, e4⟩ := d.qx (d.lt i).2 (k := i) (by omega)
  unfold Md.p6
  show 1 ≤ ite _ _ _ ∧ ite _ _ _ ≤ _ ∧ (d.jB _ _ ≠ -1 → ite _ _ _ ≤ _)
  by_cases c : d.jB (d.lt i).2 i ≠ -1 ∧ nth d.sizes (d.jB (d.lt i).2 i).toNat < d.nC (d.lt i).2 i
  ·rw [if_pos c]
   rcases e2 with e2 | ⟨e2, e5⟩
   ·exact absurd e2 c.1
   have := d.xu (x := d.jB (d.lt i).2 i) (by omega)
   exact ⟨by omega, by omega, fun _ => Int.le_refl _⟩
  rw [if_neg c]
  refine ⟨e3, e4, fun hne => ?_⟩
  show d.nC (d.lt i).2 i ≤ nth d.sizes (d.jB (d.lt i).2 i).toNat
  ·by_cases c2 : nth d.sizes (d.jB (d.lt i).2 i).toNat < d.nC (d.lt i).2 i
   ·exact absurd ⟨hne, c2⟩ c
   omega
 refine ⟨by omega, by omega, fun x hx => by have := hs.2 x hx; omega, fun l hl' => ?_, fun l hl' => ?_, fun l hl' => ?_, fun i k hk hi => ?_, fun i hi => ?_⟩
 ·obtain ⟨i, hi, rfl⟩ := key l hl'
  have h1 := hsack i hi
  have h2 := d.xu (d.qx (d.lt i).2 (k := i) (by omega)).1
  omega
 ·obtain ⟨i, hi, rfl⟩ := key l hl'
  have h2 := (d.qx (d.lt i).2 (k := i) (by omega)).1
  show 0 ≤ nth d.ks.1 i ∧ nth d.ks.1 i < _
  rw [hsz]; exact h2
 ·obtain ⟨i, hi, rfl⟩ := key l hl'
  have h2 := (d.qx (d.lt i).2 (k := i) (by omega)).2.1
  show -1 ≤ d.jB _ _ ∧ d.jB _ _ < _
  rw [hsz]; omega
 ·rw [hlots] at hi
  have e1 : nth d.EC.lots i = d.p6 (d.lt i).2 i := d.zA _ i hi
  have e2 : nth d.EC.lots k = d.p6 (d.lt k).2 k := d.zA _ k (by omega)
  rw [e1, e2]
  refine ⟨fun e => ?_, fun e => ?_⟩
  ·have := BB d.y9.2.1 (i := i) (k := k) (by rw [d.y9.1]; omega) (by rw [d.y9.1]; omega) e
   omega
  have e : d.jB (d.lt i).2 i = d.jB (d.lt k).2 k := e
  show d.jB (d.lt i).2 i = -1
  rcases (d.qx (d.lt i).2 (k := i) (by omega)).2.1 with h1 | ⟨h1, h1'⟩
  ·exact h1
  rcases (d.qx (d.lt k).2 (k := k) (by omega)).2.1 with h2 | ⟨h2, h2'⟩
  ·omega
  have := BB d.yY.2.1 (i := i) (k := k) (by rw [d.yY.1]; omega) (by rw [d.yY.1]; omega) (by omega)
  omega
 rw [hlots] at hi
 have e1 : nth d.EC.lots i = d.p6 (d.lt i).2 i := d.zA _ i hi
 rw [e1]
 exact ⟨(hsack i hi).2.1, (hsack i hi).2.2⟩
end Go.Proofs.YtmmcenjknimhbaaGreat
namespace Go.Proofs.YtmmcenjknimhbaaGreat
open Go Go.T
def tZ (b : aW) (p : Pl) (l : List bu) (k cJ : Nat) : Bool := (gZ b p k || !b.hold k cJ) || l.any fun t => decide (t.aim = (k : Int))
def C9 (b : aW) (p : Pl) (g : Int) : Nat → List bu → Nat → List (List bu)
  | 0, l, _ => [l]
  | m + 1, l, cJ => if (l.length : Int) = g then [l] else ((List.range b.sizes.length).flatMap fun k => if tZ b p l k cJ = true then [] else C9 b p g m (l ++ [⟨cJ, k⟩]) (cJ + 1)) ++ C9 b p g m l (cJ + 1)
def fB (b : aW) (p : Pl) (g : Int) (l : List bu) (cJ : Nat) : List (List bu) := C9 b p g (b.lots.length - cJ) l cJ
def vH (b : aW) (p : Pl) (g : Int) (l : List bu) (cJ k : Nat) : List (List bu) := if tZ b p l k cJ = true then [] else fB b p g (l ++ [⟨cJ, k⟩]) (cJ + 1)
def roundUp (b : aW) (p : Pl) (g : Int) (l : List bu) (cJ n : Nat) : List (List bu) := (List.range n).flatMap (vH b p g l cJ)
variable {b : aW} {p : Pl} {g : Int} {l : List bu} {cJ : Nat}
theorem pJ (h : (decide ((cJ : Int) = b.lots.length) || decide ((l.length : Int) = g)) = true) : fB b p g l cJ = [l] := by
 simp only [Bool.or_eq_true, decide_eq_true_eq] at h
 unfold fB
 by_cases e : b.lots.length - cJ = 0
 ·rw [e]; rfl
 obtain ⟨m, hm⟩ : ∃ m, b.lots.length - cJ = m + 1 := ⟨b.lots.length - cJ - 1, by omega⟩
 rw [hm]; exact if_pos (by omega)
theorem rM (hl : cJ < b.lots.length) (h : ¬ (l.length : Int) = g) : fB b p g l cJ = roundUp b p g l cJ b.sizes.length ++ fB b p g l (cJ + 1) := by
 unfold fB
 obtain ⟨m, hm⟩ : ∃ m, b.lots.length - cJ = m + 1 := ⟨b.lots.length - cJ - 1, by omega⟩
 have hm' : b.lots.length - (cJ + 1) = m := by omega
 rw [hm, hm']
 show (if (l.length : Int) = g then _ else _) = _
 rw [if_neg h]
 congr 1
 unfold roundUp
 congr 1
 funext k
 unfold vH fB
 rw [hm']
theorem oZ (n : Nat) : roundUp b p g l cJ (n + 1) = roundUp b p g l cJ n ++ vH b p g l cJ n := by
 unfold roundUp; rw [List.range_succ, List.flatMap_append]; simp
theorem BH {k : Nat} (h : tZ b p l k cJ = true) : vH b p g l cJ k = [] := if_pos h
theorem pR {k : Nat} (h : tZ b p l k cJ = false) : vH b p g l cJ k = fB b p g (l ++ [⟨cJ, k⟩]) (cJ + 1) := if_neg (by rw [h]; decide)
theorem FT {n : Nat} (h : n ≤ b.sizes.length) : roundUp b p g l cJ n <+: roundUp b p g l cJ b.sizes.length := by
 obtain ⟨r, e⟩ := range_split h
 unfold roundUp
 rw [e, List.flatMap_append]; exact List.prefix_append _ _
def dI (b : aW) (p : Pl) (g : Int) : List (List bu) := fB b p g [] 0
theorem Ko {α : Type} {A B R : List α} {k : Nat} (h : (A ++ B) <+: R.drop k) : B <+: R.drop (k + A.length) := by
 obtain ⟨C, e⟩ := h
 refine ⟨C, ?_⟩
 rw [← List.drop_drop, ← e, List.append_assoc, List.drop_left]
theorem xY {α : Type} {x : α} {R : List α} {k : Nat} (h : [x] <+: R.drop k) : R[k]? = some x := by
 obtain ⟨C, e⟩ := h
 have := congrArg (fun l => l[0]?) e
 simp only [List.singleton_append, List.getElem?_cons_zero, List.getElem?_drop, Nat.add_zero] at this
 exact this.symm
theorem J7 {R : List (List bu)} {k n : Nat} (hl : cJ < b.lots.length) (h : ¬ (l.length : Int) = g) (hp : fB b p g l cJ <+: R.drop k) (hn : n < b.sizes.length) : vH b p g l cJ n <+: R.drop (k + (roundUp b p g l cJ n).length) := by
 refine Ko (List.IsPrefix.trans ?_ hp)
 rw [rM hl h, ← oZ]
 exact List.IsPrefix.trans (FT (by omega)) (List.prefix_append _ _)
theorem Lc {R : List (List bu)} {k : Nat} (hl : cJ < b.lots.length) (h : ¬ (l.length : Int) = g) (hp : fB b p g l cJ <+: R.drop k) : fB b p g l (cJ + 1) <+: R.drop (k + (roundUp b p g l cJ b.sizes.length).length) := by
 refine Ko ?_
 rw [← rM hl h]; exact hp
theorem OE (h : (decide ((cJ : Int) = b.lots.length) || decide ((l.length : Int) = g)) = false) (hle : cJ ≤ b.lots.length) : cJ < b.lots.length ∧ ¬ (l.length : Int) = g := by
 simp only [Bool.or_eq_false_iff, decide_eq_false_iff_not] at h; omega
end Go.Proofs.YtmmcenjknimhbaaGreat
namespace Go.Proofs.YtmmcenjknimhbaaGreat
open Go Go.T
def Ru (b : aW) (p : Pl) (t : bu) : Prop := (0 ≤ t.cJ ∧ t.cJ < b.lots.length) ∧ (0 ≤ t.aim ∧ t.aim < b.sizes.length) ∧ gZ b p t.aim = false ∧ b.hold t.aim t.cJ = true
structure lK (b : aW) (p : Pl) (g : Int) (l : List bu) : Prop where
  len : (l.length : Int) ≤ g
  ok : ∀ t ∈ l, Ru b p t
  apart : l.Pairwise fun s t => s.cJ < t.cJ ∧ s.aim ≠ t.aim
theorem IM {b : aW} {p : Pl} {l : List bu} {k cJ : Nat} : tZ b p l k cJ = false ↔ (gZ b p k = false ∧ b.hold k cJ = true) ∧ ∀ t ∈ l, t.aim ≠ (k : Int) := by
 unfold tZ
 simp only [Bool.or_eq_false_iff, Bool.not_eq_false', List.any_eq_false, decide_eq_true_eq]
theorem pS {b : aW} {p : Pl} {g : Int} : ∀ (m cJ : Nat) (l0 l : List bu), cJ + m = b.lots.length → lK b p g l0 → (∀ t ∈ l0, t.cJ < cJ) →
    (l ∈ fB b p g l0 cJ ↔ ∃ r, l = l0 ++ r ∧ lK b p g l ∧ ∀ t ∈ r, (cJ : Int) ≤ t.cJ)
  | 0, cJ, l0, l, hm, h0, hl0 => by
    rw [pJ (by rw [decide_eq_true (show (cJ : Int) = b.lots.length by omega)]; rfl), List.mem_singleton]
    constructor
    · rintro rfl; exact ⟨[], (List.append_nil _).symm, h0, fun t h => by cases h⟩
    · rintro ⟨r, rfl, h1, h2⟩
      cases r with
      | nil => exact List.append_nil _
      | cons t r =>
        have := h1.ok t (List.mem_append.2 (.inr List.mem_cons_self))
        have := h2 t List.mem_cons_self
        have := this; have := ‹Ru b p t›.1; omega
  | m + 1, cJ, l0, l, hm, h0, hl0 => by
    by_cases hg : (l0.length : Int) = g
    · rw [pJ (by rw [decide_eq_true hg, Bool.or_true]), List.mem_singleton]
      constructor
      · rintro rfl; exact ⟨[], (List.append_nil _).symm, h0, fun t h => by cases h⟩
      · rintro ⟨r, rfl, h1, h2⟩
        have := h1.len
        rw [List.length_append] at this
        have : r = [] := List.length_eq_zero_iff.1 (by omega)
        rw [this, List.append_nil]
    · have hlen := h0.len
      rw [rM (by omega) hg, List.mem_append, pS m (cJ + 1) l0 l (by omega) h0 (fun t ht => by have := hl0 t ht; omega)]
      unfold roundUp
      rw [List.mem_flatMap]
      constructor
      · rintro (⟨k, hk, h⟩ | ⟨r, h1, h2, h3⟩)
        · rw [List.mem_range] at hk
          cases hs : tZ b p l0 k cJ with
          | true => rw [BH hs] at h; cases h
          | false =>
            rw [pR hs] at h
            obtain ⟨⟨e1, e2⟩, e3⟩ := IM.1 hs
            have hok : lK b p g (l0 ++ [⟨cJ, k⟩]) := by
              refine ⟨by rw [List.length_append]; simp; omega, fun t ht => ?_, ?_⟩
              · rcases List.mem_append.1 ht with ht | ht
                · exact h0.ok t ht
                · rw [List.mem_singleton.1 ht]
                  exact ⟨⟨by show 0 ≤ (cJ : Int); omega, by show (cJ : Int) < _; omega⟩, ⟨by show 0 ≤ (k : Int); omega, by show (k : Int) < _; omega⟩, e1, e2⟩
              · rw [List.pairwise_append]
                refine ⟨h0.apart, List.pairwise_singleton _ _, fun s hs t ht => ?_⟩
                rw [List.mem_singleton.1 ht]
                exact ⟨hl0 s hs, e3 s hs⟩
            obtain ⟨r, f1, f2, f3⟩ := (pS m (cJ + 1) (l0 ++ [⟨cJ, k⟩]) l (by omega) hok (fun t ht => by
              rcases List.mem_append.1 ht with ht | ht
              · have := hl0 t ht; omega
              · rw [List.mem_singleton.1 ht]; show (cJ : Int) < _; omega)).1 h
            refine ⟨⟨cJ, k⟩ :: r, by rw [f1, List.append_assoc]; rfl, f2, fun t ht => ?_⟩
            rcases List.mem_cons.1 ht with rfl | ht
            · exact Int.le_refl _
            · have := f3 t ht; omega
        · exact ⟨r, h1, h2, fun t ht => by have := h3 t ht; omega⟩
      · rintro ⟨r, h1, h2, h3⟩
        cases r with
        | nil => exact .inr ⟨[], h1, h2, fun t ht => by cases ht⟩
        | cons t r =>
          subst h1
          have ht := h2.ok t (List.mem_append.2 (.inr List.mem_cons_self))
          have hge := h3 t List.mem_cons_self
          have hap := h2.apart
          rw [List.pairwise_append, List.pairwise_cons] at hap
          obtain ⟨a1, ⟨a2, a3⟩, a4⟩ := hap
          by_cases e : t.cJ = cJ
          · refine .inl ⟨t.aim.toNat, List.mem_range.2 (by have := ht.2.1; omega), ?_⟩
            have ek : ((t.aim.toNat : Nat) : Int) = t.aim := by have := ht.2.1; omega
            have ee : (⟨(cJ : Int), ((t.aim.toNat : Nat) : Int)⟩ : bu) = t := by cases t; simp only [bu.mk.injEq] at *; exact ⟨e.symm, ek⟩
            have hs : tZ b p l0 t.aim.toNat cJ = false := IM.2 ⟨⟨by rw [ek]; exact ht.2.2.1, by rw [ek, ← e]; exact ht.2.2.2⟩, fun s hs => by rw [ek]; exact (a4 s hs t List.mem_cons_self).2⟩
            rw [pR hs, ee]
            have hok : lK b p g (l0 ++ [t]) := by
              refine ⟨by have := h2.len; rw [List.length_append, List.length_cons] at this; rw [List.length_append]; simp; omega, fun s hs => h2.ok s ?_, ?_⟩
              · rcases List.mem_append.1 hs with hs | hs
                · exact List.mem_append.2 (.inl hs)
                · exact List.mem_append.2 (.inr (by rw [List.mem_singleton.1 hs]; exact List.mem_cons_self))
              · rw [List.pairwise_append]
                exact ⟨h0.apart, List.pairwise_singleton _ _, fun s hs u hu => by rw [List.mem_singleton.1 hu]; exact a4 s hs t List.mem_cons_self⟩
            refine (pS m (cJ + 1) (l0 ++ [t]) _ (by omega) hok (fun s hs => ?_)).2 ⟨r, by rw [List.append_assoc]; rfl, h2, fun s hs => ?_⟩
            · rcases List.mem_append.1 hs with hs | hs
              · have := hl0 s hs; omega
              · rw [List.mem_singleton.1 hs, e]; omega
            · have := (a2 s hs).1; omega
          · refine .inr ⟨t :: r, rfl, h2, fun s hs => ?_⟩
            rcases List.mem_cons.1 hs with rfl | hs
            · omega
            · have := (a2 s hs).1; omega
theorem mO {b : aW} {p : Pl} {g : Int} (hg : 0 ≤ g) {l : List bu} : l ∈ dI b p g ↔ lK b p g l := by
 unfold dI
 rw [pS b.lots.length 0 [] l (by omega) ⟨by simp; exact hg, (fun t h => by cases h), List.Pairwise.nil⟩ (fun t h => by cases h)]
 constructor
 ·rintro ⟨r, _, h, _⟩; exact h
 intro h; exact ⟨l, rfl, h, fun t ht => by have := (h.ok t ht).1.1; omega⟩
def bK (p : Pl) (l : List bu) : Pl := l.foldl bf p
theorem nX (p : Pl) (l : List bu) (t : bu) : bK p (l ++ [t]) = bf (bK p l) t := by unfold bK; rw [List.foldl_append]; rfl
theorem jK {p : Pl} {t : bu} {i : Nat} (h : i < 6) : nth (bf p t).1 i = if t.cJ.toNat = i then t.aim else nth p.1 i := uW (by rw [p.2]; exact h)
theorem OH {b : aW} {p : Pl} {g : Int} : ∀ (l : List bu), lK b p g l → ∀ i, i < 6 → nth (bK p l).1 i = nth p.1 i ∨ ∃ t ∈ l, nth (bK p l).1 i = t.aim := by
 refine nk (fun _ i _ => .inl rfl) fun l t ih h i hi => ?_
 rw [nX, jK hi]
 by_cases e : t.cJ.toNat = i
 ·rw [if_pos e]; exact .inr ⟨t, List.mem_append.2 (.inr (List.mem_singleton.2 rfl)), rfl⟩
 rw [if_neg e]
 have hl : lK b p g l := ⟨by have := h.len; rw [List.length_append] at this; simp at this; omega, fun s hs => h.ok s (List.mem_append.2 (.inl hs)), (List.pairwise_append.1 h.apart).1⟩
 rcases ih hl i hi with h1 | ⟨s, hs, h1⟩
 ·exact .inl h1
 exact .inr ⟨s, List.mem_append.2 (.inl hs), h1⟩
theorem EV {b : aW} {p : Pl} {g : Int} (h6 : b.lots.length ≤ 6) : ∀ (l : List bu), lK b p g l → mw b p l = some (bK p l) := by
 refine nk (fun _ => rfl) fun l t ih h => ?_
 have hl : lK b p g l := ⟨by have := h.len; rw [List.length_append] at this; simp at this; omega, fun s hs => h.ok s (List.mem_append.2 (.inl hs)), (List.pairwise_append.1 h.apart).1⟩
 have ht := h.ok t (List.mem_append.2 (.inr (List.mem_singleton.2 rfl)))
 have hap := (List.pairwise_append.1 h.apart).2.2
 rw [nX]
 refine yW (ih hl) (eG.2 ⟨ht.1.1, ht.1.2, ht.2.1.1, ht.2.1.2, ?_, ht.2.2.2⟩)
 rw [Bool.eq_false_iff]
 intro hc
 obtain ⟨i, hi, e⟩ := (jx h6).1 hc
 rcases OH l hl i (by omega) with h1 | ⟨s, hs, h1⟩
 ·have := (jx h6).2 ⟨i, hi, h1.symm.trans e⟩
  rw [ht.2.2.1] at this; cases this
 exact (hap s hs t (List.mem_singleton.2 rfl)).2 (h1.symm.trans e)
def rU (b : aW) (g : Int) : Pl → List (List bu) → Option Pl
  | p, [] => some p
  | p, l :: rs => if l ∈ dI b p g then rU b g (bK p l) rs else none
theorem tN (b : aW) (g : Int) : ∀ (rs : List (List bu)) (p : Pl) (rs' : List (List bu)), rU b g p (rs ++ rs') = (rU b g p rs).bind fun q => rU b g q rs'
  | [], p, rs' => rfl
  | l :: rs, p, rs' => by
    show (if l ∈ dI b p g then rU b g (bK p l) (rs ++ rs') else none) = Option.bind (if l ∈ dI b p g then rU b g (bK p l) rs else none) _
    by_cases h : l ∈ dI b p g
    · rw [if_pos h, if_pos h, tN b g rs (bK p l) rs']
    · rw [if_neg h, if_neg h]; rfl
theorem OR {b : aW} {g : Int} {p : Pl} {l : List bu} (h : l ∈ dI b p g) : rU b g p [l] = some (bK p l) := if_pos h
theorem MN {b : aW} {g : Int} {p q : Pl} {rs : List (List bu)} {l : List bu} (h1 : rU b g p rs = some q) (h2 : l ∈ dI b q g) : rU b g p (rs ++ [l]) = some (bK q l) := by
 rw [tN, h1]; exact OR h2
theorem tq {b : aW} {g : Int} {p r : Pl} {rs : List (List bu)} {l : List bu} (h : rU b g p (rs ++ [l]) = some r) : ∃ q, rU b g p rs = some q ∧ l ∈ dI b q g ∧ r = bK q l := by
  rw [tN] at h
  cases h1 : rU b g p rs with
  | none => rw [h1] at h; cases h
  | some q =>
    rw [h1] at h
    have h : (if l ∈ dI b q g then some (bK q l) else none) = some r := h
    by_cases h2 : l ∈ dI b q g
    · rw [if_pos h2] at h; injection h with h; exact ⟨q, rfl, h2, h.symm⟩
    · rw [if_neg h2] at h; cases h
structure rW where
  ways : List (Pl × Way)
  queue : List Pl
def oR (p : Pl) (x : rW) (l : List bu) : rW := if (bU x.ways (bK p l)).isSome = true then x else ⟨cz x.ways (bK p l) ⟨p, l, 0⟩, x.queue ++ [bK p l]⟩
theorem tH {p : Pl} {x : rW} {l : List bu} (h : (bU x.ways (bK p l)).isSome = true) : oR p x l = x := if_pos h
theorem vm {p : Pl} {x : rW} {l : List bu} (h : (bU x.ways (bK p l)).isSome = false) : oR p x l = ⟨cz x.ways (bK p l) ⟨p, l, 0⟩, x.queue ++ [bK p l]⟩ := if_neg (by rw [h]; decide)
structure mz (b : aW) (g : Int) (dep : Pl → Nat) (D : Nat) (cur : Option (Pl × List (List bu))) (x : rW) : Prop where
  start : bU x.ways (bE b) = some jj
  dep0 : dep (bE b) = 0
  keys : (x.ways.map Prod.fst).Nodup
  via : ∀ q w, bU x.ways q = some w → q = bE b ∨ (w.byT ∈ dI b w.frm g ∧ q = bK w.frm w.byT ∧ (∃ w', bU x.ways w.frm = some w') ∧ dep q = dep w.frm + 1)
  depl : ∀ q w, bU x.ways q = some w → dep q < x.ways.length
  bins : ∀ q w, bU x.ways q = some w → sW q
  qin : ∀ q ∈ x.queue, (∃ w, bU x.ways q = some w) ∧ D ≤ dep q ∧ dep q ≤ D + 1
  srt : x.queue.Pairwise fun s t => dep s ≤ dep t
  old : ∀ q w, bU x.ways q = some w → q ∈ x.queue ∨ (dep q ≤ D ∧ dj b q = false ∧ ((∃ ls, cur = some (q, ls)) ∨ ∀ l ∈ dI b q g, (∃ w', bU x.ways (bK q l) = some w') ∧ dep (bK q l) ≤ dep q + 1))
  curs : ∀ p ls, cur = some (p, ls) → (∃ w, bU x.ways p = some w) ∧ dep p = D ∧ ∀ l ∈ ls, (∃ w', bU x.ways (bK p l) = some w') ∧ dep (bK p l) ≤ dep p + 1
def GF (dep : Pl → Nat) (q : Pl) (n : Nat) : Pl → Nat := fun r => if r = q then n else dep r
variable {b : aW} {g : Int} {dep : Pl → Nat} {D : Nat} {x : rW} {p : Pl}
theorem Gx (hr : b.dD) (hg : 0 ≤ g) {ls : List (List bu)} {l : List bu} (h : mz b g dep D (some (p, ls)) x) (hl : l ∈ dI b p g) : ∃ dep', mz b g dep' D (some (p, ls ++ [l])) (oR p x l) := by
  obtain ⟨⟨wp, hwp⟩, hpD, hps⟩ := h.curs p ls rfl
  cases hm : (bU x.ways (bK p l)).isSome with
  | true =>
    rw [tH hm]
    obtain ⟨w0, hw0⟩ := Option.isSome_iff_exists.1 hm
    refine ⟨dep, { h with old := fun q w hq => ?_, curs := fun p' ls' e => ?_ }⟩
    · rcases h.old q w hq with h1 | ⟨h1, h2, h3⟩
      · exact .inl h1
      · refine .inr ⟨h1, h2, ?_⟩
        rcases h3 with ⟨ls', e⟩ | h3
        · injection e with e; injection e with e1 e2; exact .inl ⟨_, by rw [e1]⟩
        · exact .inr h3
    · injection e with e; injection e with e1 e2; subst e1; subst e2
      refine ⟨⟨wp, hwp⟩, hpD, fun l' hl' => ?_⟩
      rcases List.mem_append.1 hl' with hl' | hl'
      · exact hps l' hl'
      · rw [List.mem_singleton.1 hl']
        refine ⟨⟨w0, hw0⟩, ?_⟩
        rcases h.old _ w0 hw0 with h1 | ⟨h1, _⟩
        · have := (h.qin _ h1).2.2; omega
        · omega
  | false =>
    rw [vm hm]
    have hnone : bU x.ways (bK p l) = none := by
      cases e : bU x.ways (bK p l) with
      | none => rfl
      | some w => rw [e] at hm; cases hm
    have hne : ∀ r w, bU x.ways r = some w → r ≠ bK p l := fun r w hw e => by rw [e, hnone] at hw; cases hw
    have hget : ∀ r, bU (cz x.ways (bK p l) ⟨p, l, 0⟩) r = if bK p l = r then some ⟨p, l, 0⟩ else bU x.ways r := fun r => q4 _ _ _ _
    have hold : ∀ r w, bU x.ways r = some w → bU (cz x.ways (bK p l) ⟨p, l, 0⟩) r = some w := fun r w hw => by rw [hget, if_neg (fun e => hne r w hw e.symm)]; exact hw
    have hdep : ∀ r w, bU x.ways r = some w → GF dep (bK p l) (D + 1) r = dep r := fun r w hw => if_neg (hne r w hw)
    have hnew : GF dep (bK p l) (D + 1) (bK p l) = D + 1 := if_pos rfl
    have hlen : (cz x.ways (bK p l) ⟨p, l, 0⟩).length = x.ways.length + 1 := tP _ _ _ hnone
    have split : ∀ r w, bU (cz x.ways (bK p l) ⟨p, l, 0⟩) r = some w → (r = bK p l ∧ w = ⟨p, l, 0⟩) ∨ bU x.ways r = some w := fun r w hw => by
      rw [hget] at hw
      by_cases e : bK p l = r
      · rw [if_pos e] at hw; injection hw with hw; exact .inl ⟨e.symm, hw.symm⟩
      · rw [if_neg e] at hw; exact .inr hw
    refine ⟨GF dep (bK p l) (D + 1), hold _ _ h.start, (hdep _ _ h.start).trans h.dep0, jz _ _ _ h.keys, fun q w hw => ?_, fun q w hw => ?_, fun q w hw => ?_, fun q hq => ?_, ?_, fun q w hw => ?_, fun p' ls' e => ?_⟩
    · rcases split q w hw with ⟨rfl, rfl⟩ | hw
      · exact .inr ⟨hl, rfl, ⟨wp, hold _ _ hwp⟩, by rw [hnew, hdep _ _ hwp, hpD]⟩
      · rcases h.via q w hw with h1 | ⟨h1, h2, ⟨w', h3⟩, h4⟩
        · exact .inl h1
        · exact .inr ⟨h1, h2, ⟨w', hold _ _ h3⟩, by rw [hdep _ _ hw, hdep _ _ h3]; exact h4⟩
    · rw [hlen]
      rcases split q w hw with ⟨rfl, rfl⟩ | hw
      · have := h.depl p wp hwp; rw [hnew]; omega
      · have := h.depl q w hw; rw [hdep _ _ hw]; omega
    · rcases split q w hw with ⟨rfl, rfl⟩ | hw
      · exact zG hr l (h.bins p wp hwp) (EV hr.lots l ((mO hg).1 hl))
      · exact h.bins q w hw
    · rcases List.mem_append.1 hq with hq | hq
      · obtain ⟨⟨w, hw⟩, h2⟩ := h.qin q hq
        exact ⟨⟨w, hold _ _ hw⟩, by rw [hdep _ _ hw]; exact h2⟩
      · rw [List.mem_singleton.1 hq, hnew]
        exact ⟨⟨_, by rw [hget, if_pos rfl]⟩, by omega, by omega⟩
    · rw [List.pairwise_append]
      refine ⟨h.srt.imp_of_mem fun {s t} hs ht hst => ?_, List.pairwise_singleton _ _, fun s hs t ht => ?_⟩
      · obtain ⟨⟨ws, h1⟩, _⟩ := h.qin s hs
        obtain ⟨⟨wt, h2⟩, _⟩ := h.qin t ht
        rw [hdep _ _ h1, hdep _ _ h2]; exact hst
      · obtain ⟨⟨ws, h1⟩, _, h2⟩ := h.qin s hs
        rw [List.mem_singleton.1 ht, hnew, hdep _ _ h1]; exact h2
    · rcases split q w hw with ⟨rfl, rfl⟩ | hw
      · exact .inl (List.mem_append.2 (.inr (List.mem_singleton.2 rfl)))
      · rcases h.old q w hw with h1 | ⟨h1, h2, h3⟩
        · exact .inl (List.mem_append.2 (.inl h1))
        · refine .inr ⟨by rw [hdep _ _ hw]; exact h1, h2, ?_⟩
          rcases h3 with ⟨ls', e⟩ | h3
          · injection e with e; injection e with e1 e2; exact .inl ⟨_, by rw [e1]⟩
          · refine .inr fun l' hl' => ?_
            obtain ⟨⟨w', h4⟩, h5⟩ := h3 l' hl'
            exact ⟨⟨w', hold _ _ h4⟩, by rw [hdep _ _ h4, hdep _ _ hw]; exact h5⟩
    · injection e with e; injection e with e1 e2; subst e1; subst e2
      refine ⟨⟨wp, hold _ _ hwp⟩, by rw [hdep _ _ hwp]; exact hpD, fun l' hl' => ?_⟩
      rcases List.mem_append.1 hl' with hl' | hl'
      · obtain ⟨⟨w', h4⟩, h5⟩ := hps l' hl'
        exact ⟨⟨w', hold _ _ h4⟩, by rw [hdep _ _ h4, hdep _ _ hwp]; exact h5⟩
      · rw [List.mem_singleton.1 hl', hnew, hdep _ _ hwp]
        exact ⟨⟨_, by rw [hget, if_pos rfl]⟩, by omega⟩
def eA (b : aW) (g : Int) (p : Pl) (z : rW) (k : Nat) : rW := ((dI b p g).take k).foldl (oR p) z
theorem tE {z : rW} {k : Nat} (hk : k < (dI b p g).length) : eA b g p z (k + 1) = oR p (eA b g p z k) (nth (dI b p g) k) := by
 unfold eA; rw [cE hk, List.foldl_append]; rfl
theorem vV (hr : b.dD) (hg : 0 ≤ g) {z : rW} (h : mz b g dep D (some (p, [])) z) : ∀ k, k ≤ (dI b p g).length → ∃ dep', mz b g dep' D (some (p, (dI b p g).take k)) (eA b g p z k)
  | 0, _ => ⟨dep, by rw [List.take_zero]; exact h⟩
  | k + 1, hk => by
    obtain ⟨dep', h1⟩ := vV hr hg h k (by omega)
    rw [tE (by omega), cE (by omega)]
    exact Gx hr hg h1 (bh (by omega))
theorem FU {rest : List Pl} (h : mz b g dep D none x) (hq : x.queue = p :: rest) (hm : dj b p = false) : mz b g dep (dep p) (some (p, [])) ⟨x.ways, rest⟩ := by
 have hp := h.qin p (by rw [hq]; exact List.mem_cons_self)
 have hs := h.srt
 rw [hq, List.pairwise_cons] at hs
 refine ⟨h.start, h.dep0, h.keys, h.via, h.depl, h.bins, fun q hq' => ?_, hs.2, fun q w hw => ?_, fun p' ls e => ?_⟩
 ·have h1 := h.qin q (by rw [hq]; exact List.mem_cons_of_mem _ hq')
  have := hs.1 q hq'
  exact ⟨h1.1, this, by omega⟩
 ·rcases h.old q w hw with h1 | ⟨h1, h2, h3⟩
  ·rw [hq] at h1
   rcases List.mem_cons.1 h1 with rfl | h1
   ·exact .inr ⟨Nat.le_refl _, hm, .inl ⟨[], rfl⟩⟩
   exact .inl h1
  refine .inr ⟨by omega, h2, ?_⟩
  rcases h3 with ⟨ls, e⟩ | h3
  ·cases e
  exact .inr h3
 injection e with e; injection e with e1 e2; subst e1; subst e2
 exact ⟨hp.1, rfl, fun l hl => by cases hl⟩
theorem Iu (h : mz b g dep D (some (p, dI b p g)) x) : mz b g dep D none x :=
 { h with
  old := fun q w hw => by
   rcases h.old q w hw with h1 | ⟨h1, h2, h3⟩
   ·exact .inl h1
   refine .inr ⟨h1, h2, .inr ?_⟩
   rcases h3 with ⟨ls, e⟩ | h3
   ·injection e with e; injection e with e1 e2; subst e1
    exact (h.curs p _ rfl).2.2
   exact h3
  curs := fun _ _ e => by cases e }
def nW (b : aW) : rW := ⟨[(bE b, jj)], [bE b]⟩
theorem Oy (hr : b.dD) : mz b g (fun _ => 0) 0 none (nW b) := by
 have key : ∀ q w, bU (nW b).ways q = some w → q = bE b := fun q w h => by
  simp only [nW, bU] at h
  by_cases e : bE b = q
  ·exact e.symm
  rw [if_neg e] at h; cases h
 refine ⟨by simp [nW, bU], rfl, by simp [nW], fun q w h => .inl (key q w h), fun q w h => by simp [nW], fun q w h => by rw [key q w h]; exact yH hr, fun q hq => ?_, by simp [nW], fun q w h => .inl (by rw [key q w h]; simp [nW]), fun _ _ e => by cases e⟩
 rw [List.mem_singleton.1 hq]
 exact ⟨⟨jj, by simp [nW, bU]⟩, Nat.le_refl _, by omega⟩
def pV (b : aW) (g : Int) (x : rW) : rW ⊕ Found :=
  match x.queue with
  | [] => .inr ⟨x.ways, KM, false⟩
  | p :: rest => if dj b p = true then .inr ⟨x.ways, p, true⟩ else .inl (eA b g p ⟨x.ways, rest⟩ (dI b p g).length)
def Cq (b : aW) (g : Int) : Nat → rW → Option Found
  | 0, _ => none
  | n + 1, x => match pV b g x with
    | .inr f => some f
    | .inl y => Cq b g n y
def nJ (b : aW) (g : Int) (x : rW) (f : Found) : Prop := ∃ n, Cq b g n x = some f
theorem EB : ∀ {n m : Nat} {x : rW} {f f' : Found}, Cq b g n x = some f → Cq b g m x = some f' → f = f'
  | 0, _, _, _, _, h, _ => by cases h
  | _, 0, _, _, _, _, h => by cases h
  | n + 1, m + 1, x, f, f', h, h' => by
    unfold Cq at h h'
    cases e : pV b g x with
    | inr y => rw [e] at h h'; injection h with h; injection h' with h'; rw [← h, ← h']
    | inl y => rw [e] at h h'; exact EB h h'
theorem nJ.QK {f f' : Found} (h : nJ b g x f) (h' : nJ b g x f') : f = f' := let ⟨_, h⟩ := h; let ⟨_, h'⟩ := h'; EB h h'
theorem nJ.step {y : rW} {f : Found} (e : pV b g x = .inl y) (h : nJ b g y f) : nJ b g x f := by
 obtain ⟨n, h⟩ := h
 exact ⟨n + 1, by unfold Cq; rw [e]; exact h⟩
theorem nJ.stop {f : Found} (e : pV b g x = .inr f) : nJ b g x f := ⟨1, by unfold Cq; rw [e]⟩
open Classical in
noncomputable def fk (b : aW) (g : Int) : Found := if h : ∃ f, nJ b g (nW b) f then h.choose else default
theorem sx {f : Found} (h : nJ b g (nW b) f) : fk b g = f := by
 unfold fk
 rw [dif_pos ⟨f, h⟩]
 exact (Exists.choose_spec (⟨f, h⟩ : ∃ f, nJ b g (nW b) f)).QK h
theorem stepR_end (h : x.queue = []) : pV b g x = .inr ⟨x.ways, KM, false⟩ := by unfold pV; rw [h]
theorem w8 {rest : List Pl} (hq : x.queue = p :: rest) (hm : dj b p = true) : pV b g x = .inr ⟨x.ways, p, true⟩ := by unfold pV; rw [hq]; exact if_pos hm
theorem B8 {rest : List Pl} (hq : x.queue = p :: rest) (hm : dj b p = false) : pV b g x = .inl (eA b g p ⟨x.ways, rest⟩ (dI b p g).length) := by unfold pV; rw [hq]; exact if_neg (by rw [hm]; decide)
theorem mz.IF {cur : Option (Pl × List (List bu))} (h : mz b g dep D cur x) : x.ways.length ≤ dA := by
 have := zI h.keys fun p hp => by
  obtain ⟨w, hw⟩ := EP hp
  exact h.bins p w hw
 rwa [List.length_map] at this
noncomputable def PK (x : rW) : Nat := (dA - x.ways.length) * 2 + x.queue.length
theorem Bc (z : rW) : ∀ (l : List (List bu)), (l.foldl (oR p) z).ways.length ≥ z.ways.length ∧ (l.foldl (oR p) z).queue.length + z.ways.length ≤ z.queue.length + (l.foldl (oR p) z).ways.length := by
  intro l
  induction l generalizing z with
  | nil => exact ⟨Nat.le_refl _, Nat.le_refl _⟩
  | cons t l ih =>
    rw [List.foldl_cons]
    obtain ⟨h1, h2⟩ := ih (oR p z t)
    cases hm : (bU z.ways (bK p t)).isSome with
    | true => rw [tH hm] at h1 h2 ⊢; exact ⟨h1, h2⟩
    | false =>
      have hn : bU z.ways (bK p t) = none := by
        cases e : bU z.ways (bK p t) with
        | none => rfl
        | some w => rw [e] at hm; cases hm
      rw [vm hm] at h1 h2 ⊢
      have := tP z.ways (bK p t) ⟨p, t, 0⟩ hn
      simp only [List.length_append, List.length_singleton] at h1 h2
      rw [this] at h1 h2
      exact ⟨by omega, by omega⟩
theorem HO {rest : List Pl} {dep' : Pl → Nat} {D' : Nat} {cur' : Option (Pl × List (List bu))} (hq : x.queue = p :: rest) (h : mz b g dep' D' cur' (eA b g p ⟨x.ways, rest⟩ (dI b p g).length)) : PK (eA b g p ⟨x.ways, rest⟩ (dI b p g).length) < PK x := by
 have h1 := h.IF
 have h2 := Bc (p := p) ⟨x.ways, rest⟩ ((dI b p g).take (dI b p g).length)
 unfold PK
 rw [hq, List.length_cons]
 have h2 : (eA b g p ⟨x.ways, rest⟩ (dI b p g).length).ways.length ≥ x.ways.length ∧ (eA b g p ⟨x.ways, rest⟩ (dI b p g).length).queue.length + x.ways.length ≤ rest.length + (eA b g p ⟨x.ways, rest⟩ (dI b p g).length).ways.length := h2
 omega
theorem Ep (hr : b.dD) (hg : 0 ≤ g) {rest : List Pl} (h : mz b g dep D none x) (hq : x.queue = p :: rest) (hm : dj b p = false) : ∃ dep' D', mz b g dep' D' none (eA b g p ⟨x.ways, rest⟩ (dI b p g).length) := by
 obtain ⟨dep', h1⟩ := vV hr hg (FU h hq hm) _ (Nat.le_refl _)
 rw [List.take_length] at h1
 exact ⟨dep', _, Iu h1⟩
structure IQ (b : aW) (g : Int) (f : Found) : Prop where
  yes : f.is = true → ∃ L, gx f.ways (bE b) f.last L ∧ rU b g (bE b) L = some f.last ∧ dj b f.last = true ∧ (L.length ≤ 40000000) ∧ ∀ rs q, rU b g (bE b) rs = some q → dj b q = true → L.length ≤ rs.length
  no : f.is = false → ∀ rs q, rU b g (bE b) rs = some q → dj b q = false
theorem mz.near (h : mz b g dep D none x) (hq : ∀ q ∈ x.queue, D ≤ dep q) : ∀ (rs : List (List bu)) (q : Pl), rU b g (bE b) rs = some q → (rs.length ≤ D ∨ x.queue = []) → ∃ w, bU x.ways q = some w ∧ dep q ≤ rs.length := by
 refine nk (fun q e _ => ?_) fun rs l ih q e hl => ?_
 ·injection e with e; subst e; exact ⟨_, h.start, by rw [h.dep0]; exact Nat.zero_le _⟩
 obtain ⟨r, e1, e2, e3⟩ := tq e
 rw [List.length_append, List.length_singleton] at hl ⊢
 obtain ⟨w, hw, hd⟩ := ih r e1 (hl.imp (fun h => by omega) id)
 rcases h.old r w hw with h1 | ⟨_, _, h3⟩
 ·rcases hl with hl | hl
  ·have := hq r h1; omega
  rw [hl] at h1; cases h1
 rcases h3 with ⟨ls, e⟩ | h3
 ·cases e
 obtain ⟨⟨w', h4⟩, h5⟩ := h3 l e2
 subst e3; exact ⟨w', h4, by omega⟩
theorem mz.chain (h : mz b g dep D none x) : ∀ (n : Nat) (p : Pl) (w : Way), bU x.ways p = some w → dep p ≤ n → ∃ A, gx x.ways (bE b) p A ∧ rU b g (bE b) A = some p ∧ A.length = dep p := by
  intro n
  induction n with
  | zero =>
    intro p w hw hn
    rcases h.via p w hw with e | ⟨_, _, _, h4⟩
    · subst e; exact ⟨[], .nil, rfl, h.dep0.symm⟩
    · omega
  | succ n ih =>
    intro p w hw hn
    by_cases e : p = bE b
    · subst e; exact ⟨[], .nil, rfl, h.dep0.symm⟩
    rcases h.via p w hw with e' | ⟨h1, h2, ⟨w', h3⟩, h4⟩
    · exact absurd e' e
    · obtain ⟨A, g1, g2, g3⟩ := ih w.frm w' h3 (by omega)
      exact ⟨A ++ [w.byT], .snoc e hw g1, by rw [h2]; exact MN g2 h1, by rw [List.length_append, g3, h4]; rfl⟩
theorem Ip (h : mz b g dep D none x) (hq : x.queue = []) : IQ b g ⟨x.ways, KM, false⟩ := by
 refine ⟨(fun e => by cases e), fun _ rs q e => ?_⟩
 obtain ⟨w, hw, _⟩ := h.near (fun q hq' => by rw [hq] at hq'; cases hq') rs q e (.inr hq)
 rcases h.old q w hw with h1 | ⟨_, h2, _⟩
 ·rw [hq] at h1; cases h1
 exact h2
theorem FA {rest : List Pl} (h : mz b g dep D none x) (hq : x.queue = p :: rest) (hm : dj b p = true) : IQ b g ⟨x.ways, p, true⟩ := by
 obtain ⟨⟨w, hw⟩, h1, h2⟩ := h.qin p (by rw [hq]; exact List.mem_cons_self)
 refine ⟨fun _ => ?_, (fun e => by cases e)⟩
 obtain ⟨A, g1, g2, g3⟩ := h.chain _ p w hw (Nat.le_refl _)
 have hd := h.depl p w hw
 have hf := h.IF
 have hN := oa
 refine ⟨A, g1, g2, hm, by omega, fun rs q e hq' => ?_⟩
 have hs := h.srt
 rw [hq, List.pairwise_cons] at hs
 -- those of the queue are no nearer than p
 have hmin : ∀ r ∈ x.queue, dep p ≤ dep r := fun r hr => by
  rw [hq] at hr
  rcases List.mem_cons.1 hr with rfl | hr
  ·exact Nat.le_refl _
  exact hs.1 r hr
 refine Nat.le_of_not_lt fun hlt => ?_
 have key : ∀ (rs : List (List bu)) (q : Pl), rU b g (bE b) rs = some q → rs.length < dep p → (∃ w, bU x.ways q = some w) ∧ dep q ≤ rs.length := by
  refine nk (fun q e _ => ?_) fun rs l ih q e hl => ?_
  ·injection e with e; subst e; exact ⟨⟨_, h.start⟩, by rw [h.dep0]; exact Nat.zero_le _⟩
  obtain ⟨r, e1, e2, e3⟩ := tq e
  rw [List.length_append, List.length_singleton] at hl ⊢
  obtain ⟨⟨w, hw⟩, hd⟩ := ih r e1 (by omega)
  rcases h.old r w hw with h1 | ⟨_, _, h3⟩
  ·have := hmin r h1; omega
  rcases h3 with ⟨ls, e⟩ | h3
  ·cases e
  obtain ⟨h4, h5⟩ := h3 l e2
  subst e3; exact ⟨h4, by omega⟩
 obtain ⟨⟨w', hw'⟩, hd'⟩ := key rs q e (by omega)
 rcases h.old q w' hw' with h1 | ⟨_, h2, _⟩
 ·have := hmin q h1; omega
 rw [hq'] at h2; cases h2
theorem FD (hr : b.dD) (hg : 0 ≤ g) : ∀ (n : Nat) (x : rW) (dep : Pl → Nat) (D : Nat), PK x < n → mz b g dep D none x → ∃ f, nJ b g x f ∧ IQ b g f := by
  intro n
  induction n with
  | zero => intro x _ _ hx _; omega
  | succ n ih =>
    intro x dep D hx h
    cases hq : x.queue with
    | nil => exact ⟨_, .stop (stepR_end hq), Ip h hq⟩
    | cons p rest =>
      cases hm : dj b p with
      | true => exact ⟨_, .stop (w8 hq hm), FA h hq hm⟩
      | false =>
        obtain ⟨dep', D', h'⟩ := Ep hr hg h hq hm
        obtain ⟨f, h1, h2⟩ := ih _ dep' D' (by have := HO hq h'; omega) h'
        exact ⟨f, h1.step (B8 hq hm), h2⟩
theorem EX (hr : b.dD) (hg : 0 ≤ g) : IQ b g (fk b g) ∧ nJ b g (nW b) (fk b g) := by
 obtain ⟨f, h1, h2⟩ := FD hr hg _ (nW b) _ 0 (Nat.lt_succ_self _) (Oy hr)
 rw [sx h1]; exact ⟨h2, h1⟩
def AA (b : aW) (g : Int) (x : rW) : Prop := ∀ f, nJ b g x f → fk b g = f
theorem P9 : AA b g (nW b) := fun _ h => sx h
theorem AA.step {y : rW} (h : AA b g x) (e : pV b g x = .inl y) : AA b g y := fun f hf => h f (hf.step e)
theorem AA.stop {f : Found} (h : AA b g x) (e : pV b g x = .inr f) : fk b g = f := h f (.stop e)
def n8 (b : aW) (g : Int) : Int := if cS b = 0 then if Eb g 1 3 = true then 0 else 3 else cS b
theorem LG {b : aW} {g : Int} (h : n8 b g = 0) : cS b = 0 ∧ 1 ≤ g ∧ g ≤ 3 := by
 unfold n8 at h
 split at h
 ·rename_i h1
  split at h
  ·rename_i h2; exact ⟨h1, iD.1 h2⟩
  cases h
 rename_i h1; exact absurd h h1
theorem O5 {b : aW} {g : Int} (h : (decide (cS b = 0) && !Eb g 1 3) = true) : n8 b g = 3 := by
 simp only [Bool.and_eq_true, decide_eq_true_eq, Bool.not_eq_true'] at h
 unfold n8; rw [if_pos h.1, if_neg (by rw [h.2]; decide)]
theorem Kr {b : aW} {g : Int} (h : (decide (cS b = 0) && !Eb g 1 3) = false) : n8 b g = cS b := by
 unfold n8
 split
 ·rename_i h1
  rw [decide_eq_true h1, Bool.true_and, Bool.not_eq_false'] at h
  rw [if_pos h, h1]
 rfl
noncomputable def kN (b : aW) (g : Int) : List (List bu) := if n8 b g = 0 then if (fk b g).is = true then qJ (fk b g).ways (bE b) (fk b g).last else [] else []
noncomputable def kK (b : aW) (g : Int) : Int := if n8 b g = 0 then if (fk b g).is = true then 0 else 7 else n8 b g
theorem F8 {p : Pl} {l : List bu} {j : Nat} (h : j < l.length) : bf (bK p (l.take j)) (nth l j) = bK p (l.take (j + 1)) := by rw [cE h, nX]
def cN (x : rW) : Pl := nth x.queue 0
def kT (x : rW) : rW := ⟨x.ways, x.queue.drop 1⟩
theorem MH {x : rW} (h : 0 < x.queue.length) : x.queue = cN x :: x.queue.drop 1 := by
 have := kr h
 rw [List.drop_zero] at this
 exact this
theorem HS {p : Pl} {z : rW} {k : Nat} (hk : k < (dI b p g).length) (h : (bU (eA b g p z k).ways (bK p (nth (dI b p g) k))).isSome = true) : eA b g p z k = eA b g p z (k + 1) := by rw [tE hk, tH h]
theorem LR {p : Pl} {z : rW} {k : Nat} (hk : k < (dI b p g).length) (h : (bU (eA b g p z k).ways (bK p (nth (dI b p g) k))).isSome = false) :
 cz (eA b g p z k).ways (bK p (nth (dI b p g) k)) ⟨p, nth (dI b p g) k, 0⟩ = (eA b g p z (k + 1)).ways ∧ (eA b g p z k).queue ++ [bK p (nth (dI b p g) k)] = (eA b g p z (k + 1)).queue := by
 rw [tE hk, vm h]; exact ⟨rfl, rfl⟩
structure EW (b : aW) (g : Int) (x : rW) : Prop where
  inv : ∃ dep D, mz b g dep D none x
  same : AA b g x
theorem RG (hr : b.dD) : EW b g (nW b) := ⟨⟨_, 0, Oy hr⟩, P9⟩
theorem EW.len (h : EW b g x) : x.ways.length ≤ dA := let ⟨_, _, h⟩ := h.inv; h.IF
theorem EW.next (h : EW b g x) (hr : b.dD) (hg : 0 ≤ g) (hq : 0 < x.queue.length) (hm : dj b (cN x) = false) : EW b g (eA b g (cN x) (kT x) (dI b (cN x) g).length) ∧ PK (eA b g (cN x) (kT x) (dI b (cN x) g).length) < PK x := by
 obtain ⟨dep, D, h1⟩ := h.inv
 obtain ⟨dep', D', h2⟩ := Ep hr hg h1 (MH hq) hm
 exact ⟨⟨⟨dep', D', h2⟩, h.same.step (B8 (MH hq) hm)⟩, HO (MH hq) h2⟩
theorem AN (h : x.queue.length ≤ x.ways.length + 1) (p : Pl) (k : Nat) : (eA b g p x k).queue.length ≤ (eA b g p x k).ways.length + 1 := by
 have h2 := Bc (p := p) x ((dI b p g).take k)
 have h2 : (eA b g p x k).ways.length ≥ x.ways.length ∧ (eA b g p x k).queue.length + x.ways.length ≤ x.queue.length + (eA b g p x k).ways.length := h2
 omega
theorem I3 (h : EW b g x) (hr : b.dD) (hg : 0 ≤ g) (hq : 0 < x.queue.length) (hm : dj b (cN x) = false) {k : Nat} (hk : k ≤ (dI b (cN x) g).length) : (eA b g (cN x) (kT x) k).ways.length ≤ dA := by
 obtain ⟨dep, D, h1⟩ := h.inv
 obtain ⟨dep', h2⟩ := vV hr hg (FU h1 (MH hq) hm) k hk
 exact h2.IF
end Go.Proofs.YtmmcenjknimhbaaGreat
namespace Go.Proofs.YtmmcenjknimhbaaGreat
open Go Go.T
def ze (b : aW) : List Int := b.lots.map fun l => l.inn
def Nt (b : aW) (p : List Int) (t : bu) : Bool := decide (t.cJ < 0) || decide (t.cJ ≥ p.length) || decide (t.aim < 0) || decide (t.aim ≥ b.sizes.length) || decide (t.aim ∈ p) || decide (nth b.sizes t.aim.toNat < (nth b.lots t.cJ.toNat).sacks)
theorem CF {b : aW} {p : List Int} {t : bu} : Nt b p t = false ↔ (0 ≤ t.cJ ∧ t.cJ < p.length) ∧ (0 ≤ t.aim ∧ t.aim < b.sizes.length) ∧ t.aim ∉ p ∧ (nth b.lots t.cJ.toNat).sacks ≤ nth b.sizes t.aim.toNat := by
 unfold Nt
 simp only [Bool.or_eq_false_iff, decide_eq_false_iff_not]
 constructor
 ·rintro ⟨⟨⟨⟨⟨h1, h2⟩, h3⟩, h4⟩, h5⟩, h6⟩; exact ⟨by omega, by omega, h5, by omega⟩
 rintro ⟨h1, h2, h3, h4⟩; exact ⟨⟨⟨⟨⟨by omega, by omega⟩, by omega⟩, by omega⟩, h3⟩, by omega⟩
def xJ (b : aW) : List Int → List bu → Option (List Int)
  | p, [] => some p
  | p, t :: l => if Nt b p t = true then none else xJ b (p.set t.cJ.toNat t.aim) l
def jm (b : aW) (plan : List bu) : List Int × Bool := match xJ b (ze b) plan with
  | some p => (p, true)
  | none => ([], false)
structure NI (b : aW) (plan : List bu) (k : Nat) (p : List Int) : Prop where
  same : xJ b (ze b) plan = xJ b p (plan.drop k)
  len : p.length = b.lots.length
  le : k ≤ plan.length
theorem RS (b : aW) (plan : List bu) : NI b plan 0 (ze b) := ⟨by rw [List.drop_zero], by unfold ze; rw [List.length_map], Nat.zero_le _⟩
section
variable {b : aW} {plan : List bu} {k : Nat} {p : List Int}
theorem NI.stop (h : NI b plan k p) (hk : k < plan.length) (hn : Nt b p (nth plan k) = true) : jm b plan = ([], false) := by
 have e : xJ b (ze b) plan = none := by rw [h.same, kr hk]; exact if_pos hn
 unfold jm; rw [e]
theorem NI.next (h : NI b plan k p) (hk : k < plan.length) (hn : Nt b p (nth plan k) = false) : NI b plan (k + 1) (p.set (nth plan k).cJ.toNat (nth plan k).aim) := by
 refine ⟨?_, by rw [List.length_set]; exact h.len, hk⟩
 rw [h.same, kr hk]
 exact if_neg (by rw [hn]; decide)
theorem NI.end (h : NI b plan k p) (hk : plan.length ≤ k) : jm b plan = (p, true) := by
 unfold jm
 rw [h.same, List.drop_of_length_le hk]; rfl
end
theorem Gb {b : aW} {P : Pl} {x : Int} : gZ b P x = false ↔ x ∉ P.1.take b.lots.length := by
 unfold gZ; rw [List.any_eq_false]; simp only [decide_eq_true_eq]
 exact ⟨fun h hm => h _ hm rfl, fun h y hy e => h (e ▸ hy)⟩
theorem Br {b : aW} {P : Pl} (h6 : b.lots.length ≤ 6) {t : bu} : Nt b (P.1.take b.lots.length) t = false ↔ t ∈ ay b P := by
 rw [CF, eG]
 have hl : (P.1.take b.lots.length).length = b.lots.length := by rw [List.length_take, P.2]; omega
 rw [hl, Gb]; unfold aW.hold; rw [decide_eq_true_eq]
 constructor
 ·rintro ⟨⟨h1, h2⟩, ⟨h3, h4⟩, h5, h6⟩; exact ⟨h1, h2, h3, h4, h5, h6⟩
 rintro ⟨h1, h2, h3, h4, h5, h6⟩; exact ⟨⟨h1, h2⟩, ⟨h3, h4⟩, h5, h6⟩
theorem ML {P : Pl} {t : bu} {n : Nat} : (P.1.take n).set t.cJ.toNat t.aim = (bf P t).1.take n := by
 unfold bf; rw [List.take_set]
theorem Ky {b : aW} (h6 : b.lots.length ≤ 6) : ∀ (l : List bu) (P : Pl), xJ b (P.1.take b.lots.length) l = (mw b P l).map fun q => q.1.take b.lots.length
  | [], P => rfl
  | t :: l, P => by
    show (if Nt b (P.1.take b.lots.length) t = true then none else xJ b ((P.1.take b.lots.length).set t.cJ.toNat t.aim) l) = Option.map _ (if t ∈ ay b P then mw b (bf P t) l else none)
    by_cases h : t ∈ ay b P
    · rw [if_pos h, if_neg (by rw [(Br h6).2 h]; decide), ML, Ky h6 l]
    · rw [if_neg h, if_pos (by
        cases e : Nt b (P.1.take b.lots.length) t with
        | true => rfl
        | false => exact absurd ((Br h6).1 e) h)]; rfl
theorem BP {b : aW} (h6 : b.lots.length ≤ 6) : (bE b).1.take b.lots.length = ze b := by
 unfold bE ze
 show List.take _ (List.take 6 _) = _
 rw [List.take_take, Nat.min_eq_left h6, List.take_append_of_le_length (by simp)]
 exact List.take_of_length_le (by simp)
theorem GH {b : aW} (h6 : b.lots.length ≤ 6) (l : List bu) : xJ b (ze b) l = (mw b (bE b) l).map fun q => q.1.take b.lots.length := by rw [← BP h6, Ky h6]
theorem ND {b : aW} (h6 : b.lots.length ≤ 6) {l : List bu} : (jm b l).2 = true ↔ ∃ q, mw b (bE b) l = some q := by
  unfold jm
  rw [GH h6]
  cases mw b (bE b) l with
  | none => exact ⟨(fun h => by cases h), fun ⟨_, h⟩ => by cases h⟩
  | some q => exact ⟨fun _ => ⟨q, rfl⟩, fun _ => rfl⟩
theorem Jm {b : aW} (h6 : b.lots.length ≤ 6) {l : List bu} {q : Pl} (h : mw b (bE b) l = some q) : jm b l = (q.1.take b.lots.length, true) := by
 unfold jm; rw [GH h6, h]; rfl
theorem JA {b : aW} (h6 : b.lots.length ≤ 6) {l : List bu} (h : mw b (bE b) l = none) : jm b l = ([], false) := by
 unfold jm; rw [GH h6, h]; rfl
def RH (b : aW) (p : List Int) (i : Nat) : Bool := decide ((nth b.lots i).aim = -1) || decide ((nth b.lots i).aim = nth p i)
def Qr (b : aW) (plan : List bu) (k : Nat) : Bool := (jm b plan).2 && (List.range k).all (RH b (jm b plan).1)
def so (b : aW) (plan : List bu) : Bool := Qr b plan (jm b plan).1.length
theorem ED {l : List Int} {n i : Nat} (h : i < n) : nth (l.take n) i = nth l i := by
 unfold nth; rw [List.getD_eq_getElem?_getD, List.getD_eq_getElem?_getD, List.getElem?_take_of_lt h]
theorem rO {b : aW} (h6 : b.lots.length ≤ 6) {l : List bu} : so b l = true ↔ ∃ q, mw b (bE b) l = some q ∧ dj b q = true := by
  unfold so Qr
  cases h : mw b (bE b) l with
  | none => rw [JA h6 h]; exact ⟨(fun h => by cases h), fun ⟨_, h, _⟩ => by cases h⟩
  | some q =>
    rw [Jm h6 h]
    have hl : (q.1.take b.lots.length).length = b.lots.length := by rw [List.length_take, q.2]; omega
    have e : (true && (List.range (q.1.take b.lots.length).length).all (RH b (q.1.take b.lots.length))) = dj b q := by
      rw [hl, Bool.true_and]
      unfold dj
      rw [Bool.eq_iff_iff, List.all_eq_true, List.all_eq_true]
      have key : ∀ i, i ∈ List.range b.lots.length → RH b (q.1.take b.lots.length) i = (decide ((nth b.lots i).aim = -1) || decide ((nth b.lots i).aim = nth q.1 i)) := fun i hi => by
        unfold RH; rw [ED (List.mem_range.1 hi)]
      exact ⟨fun H i hi => by rw [← key i hi]; exact H i hi, fun H i hi => by rw [key i hi]; exact H i hi⟩
    show (true && _) = true ↔ _
    rw [e]
    exact ⟨fun h => ⟨q, rfl, h⟩, fun ⟨q', h1, h2⟩ => by injection h1 with h1; rw [h1]; exact h2⟩
def yS (b : aW) (s : Sk) : bu := ⟨gI s b.lots.length, gI (bN s) b.sizes.length⟩
def dm (b : aW) (s : Sk) : Nat → List bu × Sk
  | 0 => ([], s)
  | k + 1 => (if (jm b ((dm b s k).1 ++ [yS b (dm b s k).2])).2 = true then (dm b s k).1 ++ [yS b (dm b s k).2] else (dm b s k).1, bN (bN (dm b s k).2))
def jt (s : Sk) (most : Int) : Nat := (gI s (most + 1)).toNat
def Dr (b : aW) (s : Sk) (most : Int) : List bu := (dm b (bN s) (jt s most)).1
def E6 (b : aW) (s : Sk) (most : Int) : Sk := (dm b (bN s) (jt s most)).2
theorem E9 {b : aW} {s : Sk} {k : Nat} (h : (jm b ((dm b s k).1 ++ [yS b (dm b s k).2])).2 = true) : (dm b s k).1 ++ [yS b (dm b s k).2] = (dm b s (k + 1)).1 := (if_pos h).symm
theorem HN {b : aW} {s : Sk} {k : Nat} (h : (jm b ((dm b s k).1 ++ [yS b (dm b s k).2])).2 = false) : (dm b s k).1 = (dm b s (k + 1)).1 := (if_neg (by rw [h]; decide)).symm
theorem MM (s : Sk) {most : Int} : ((jt s most : Nat) : Int) = gI s (most + 1) := by
 have := gD s (most + 1)
 unfold jt; omega
theorem Dz (s : Sk) {most : Int} (h : 0 ≤ most) : (jt s most : Int) ≤ most := by
 have := gD s (most + 1)
 unfold jt; omega
theorem y7 (b : aW) (s : Sk) : ∀ k, (dm b s k).1.length ≤ k ∧ (dm b s k).2.taken = s.taken + 2 * k ∧ (jm b (dm b s k).1).2 = true
  | 0 => ⟨Nat.le_refl _, by simp [dm], rfl⟩
  | k + 1 => by
    obtain ⟨h1, h2, h3⟩ := y7 b s k
    have h4 : (dm b s (k + 1)).2.taken = s.taken + 2 * ((k + 1 : Nat) : Int) := by
      show (bN (bN (dm b s k).2)).taken = _
      rw [dG, dG, h2]; omega
    cases e : (jm b ((dm b s k).1 ++ [yS b (dm b s k).2])).2 with
    | true => rw [← E9 e]; exact ⟨by rw [List.length_append, List.length_singleton]; omega, h4, e⟩
    | false => rw [← HN e]; exact ⟨by omega, h4, h3⟩
structure Pw (b : aW) (s : Sk) (most : Int) (l : List bu) (e : Sk) : Prop where
  len : (l.length : Int) ≤ most
  taken : s.taken ≤ e.taken ∧ e.taken ≤ s.taken + 1 + 2 * most
  ok : (jm b l).2 = true
theorem Oh (b : aW) (s : Sk) {most : Int} (h : 0 ≤ most) : Pw b s most (Dr b s most) (E6 b s most) := by
 obtain ⟨h1, h2, h3⟩ := y7 b (bN s) (jt s most)
 have h4 := Dz s h
 have h5 := dG s
 unfold Dr E6
 exact ⟨by omega, by omega, h3⟩
end Go.Proofs.YtmmcenjknimhbaaGreat
namespace Go.Proofs.YtmmcenjknimhbaaGreat
open Go Go.T
def Cz (b : aW) (p : Pl) : Prop := ∀ i k, i < b.lots.length → k < b.lots.length → nth p.1 i = nth p.1 k → i = k
theorem EJ {b : aW} (h6 : b.lots.length ≤ 6) {p : Pl} {t : bu} (h : Cz b p) (ht : t ∈ ay b p) : Cz b (bf p t) := fun i k hi hk e => by
 rw [jK (by omega), jK (by omega)] at e
 have h1 := eG.1 ht
 have hn : ∀ j, j < b.lots.length → nth p.1 j ≠ t.aim := fun j hj e => by
  have := (jx h6).2 ⟨j, hj, e⟩
  rw [h1.2.2.2.2.1] at this; cases this
 by_cases e1 : t.cJ.toNat = i
 ·by_cases e2 : t.cJ.toNat = k
  ·omega
  rw [if_pos e1, if_neg e2] at e; exact absurd e.symm (hn k hk)
 by_cases e2 : t.cJ.toNat = k
 ·rw [if_neg e1, if_pos e2] at e; exact absurd e (hn i hi)
 rw [if_neg e1, if_neg e2] at e; exact h i k hi hk e
theorem ue {b : aW} {p q : Pl} {t : bu} {l : List bu} (h : mw b p (t :: l) = some q) : t ∈ ay b p ∧ mw b (bf p t) l = some q := by
 have h : (if t ∈ ay b p then mw b (bf p t) l else none) = some q := h
 by_cases hu : t ∈ ay b p
 ·rw [if_pos hu] at h; exact ⟨hu, h⟩
 rw [if_neg hu] at h; cases h
theorem n4 {b : aW} (h6 : b.lots.length ≤ 6) {i : Nat} (hi : i < b.lots.length) : nth (bE b).1 i = (nth b.lots i).inn := by
 rw [← ED (n := b.lots.length) hi, BP h6]
 unfold ze
 rw [cL (by rw [List.length_map]; exact hi), cL hi, List.getElem_map]
theorem Di {b : aW} (hr : b.dD) : Cz b (bE b) := fun i k hi hk e => by
 rw [n4 hr.lots hi, n4 hr.lots hk] at e
 rcases Nat.lt_trichotomy i k with h | h | h
 ·exact absurd e.symm (hr.apart k i h hk).1
 ·exact h
 exact absurd e (hr.apart i k h hi).1
structure IV (b : aW) (c : bu → Int) (e : Int) (l : List bu) (n : Int) : Prop where
  err : e = 0 ∨ e = 7
  yes : e = 0 → so b l = true ∧ gz c l = n ∧ ∀ x, so b x = true → n ≤ gz c x
  no : e = 7 → l = [] ∧ n = 0 ∧ ∀ x, so b x = false
theorem FQ (l : List bu) : gz pL l = l.length := by
  unfold gz pL
  induction l with
  | nil => rfl
  | cons t l ih => rw [List.map_cons, List.sum_cons, ih, List.length_cons]; omega
end Go.Proofs.YtmmcenjknimhbaaGreat
namespace Go.Proofs.YtmmcenjknimhbaaGreat
open Go Go.T
variable {b : aW} {g : Int}
theorem qD {p q : Pl} {l : List bu} {rs : List (List bu)} (h : rU b g p (l :: rs) = some q) : l ∈ dI b p g ∧ rU b g (bK p l) rs = some q := by
 have h : (if l ∈ dI b p g then rU b g (bK p l) rs else none) = some q := h
 by_cases hu : l ∈ dI b p g
 ·rw [if_pos hu] at h; exact ⟨hu, h⟩
 rw [if_neg hu] at h; cases h
theorem vf {p : Pl} {l : List bu} {rs : List (List bu)} (h : l ∈ dI b p g) : rU b g p (l :: rs) = rU b g (bK p l) rs := if_pos h
theorem zQ (h6 : b.lots.length ≤ 6) (hg : 0 ≤ g) : ∀ (rs : List (List bu)) {p q : Pl}, rU b g p rs = some q → mw b p rs.flatten = some q
  | [], p, q, h => h
  | l :: rs, p, q, h => by
    obtain ⟨h1, h2⟩ := qD h
    rw [List.flatten_cons, mW, EV h6 l ((mO hg).1 h1)]
    exact zQ h6 hg rs h2
theorem KC {p : Pl} {t : bu} (hg : 1 ≤ g) (h : t ∈ ay b p) : [t] ∈ dI b p g := by
 rw [mO (by omega)]
 have := eG.1 h
 refine ⟨by simpa using hg, fun u hu => ?_, List.pairwise_singleton _ _⟩
 rw [List.mem_singleton.1 hu]
 exact ⟨⟨this.1, this.2.1⟩, ⟨this.2.2.1, this.2.2.2.1⟩, this.2.2.2.2.1, this.2.2.2.2.2⟩
theorem qK (hg : 1 ≤ g) : ∀ (l : List bu) {p q : Pl}, mw b p l = some q → rU b g p (l.map fun t => [t]) = some q
  | [], p, q, h => h
  | t :: l, p, q, h => by
    obtain ⟨h1, h2⟩ := ue h
    rw [List.map_cons, vf (KC hg h1)]
    exact qK hg l h2
theorem Fi {g' : Int} (hg : 0 ≤ g) (hgg : g ≤ g') : ∀ (rs : List (List bu)) {p q : Pl}, rU b g p rs = some q → rU b g' p rs = some q
  | [], p, q, h => h
  | l :: rs, p, q, h => by
    obtain ⟨h1, h2⟩ := qD h
    have h3 := (mO hg).1 h1
    rw [vf ((mO (by omega)).2 ⟨by have := h3.len; omega, h3.ok, h3.apart⟩)]
    exact Fi hg hgg rs h2
theorem z7 (hg : 0 ≤ g) : ∀ (rs : List (List bu)) {p q : Pl}, rU b g p rs = some q → ∀ l ∈ rs, (l.length : Int) ≤ g
  | [], p, q, _, l, hl => by cases hl
  | r :: rs, p, q, h, l, hl => by
    obtain ⟨h1, h2⟩ := qD h
    rcases List.mem_cons.1 hl with rfl | hl
    · exact ((mO hg).1 h1).len
    · exact z7 hg rs h2 l hl
theorem HY (hg : 0 ≤ g) : ∀ (rs : List (List bu)), (∀ l ∈ rs, (l.length : Int) ≤ g) → (rs.flatten.length : Int) ≤ rs.length * g
  | [], _ => by simp
  | l :: rs, h => by
    have h1 := h l List.mem_cons_self
    have h2 := HY hg rs fun r hr => h r (List.mem_cons_of_mem _ hr)
    rw [List.flatten_cons, List.length_append, List.length_cons]
    have e : (((rs.length + 1 : Nat) : Int)) * g = rs.length * g + g := by rw [Int.natCast_add, Int.add_mul]; simp
    rw [e]; omega
structure yx (b : aW) (g e : Int) (rs : List (List bu)) : Prop where
  err : e = 0 ∨ e = 7
  yes : e = 0 → ∃ q, rU b g (bE b) rs = some q ∧ dj b q = true ∧ ∀ rs' q', rU b g (bE b) rs' = some q' → dj b q' = true → rs.length ≤ rs'.length
  no : e = 7 → rs = [] ∧ ∀ rs' q, rU b g (bE b) rs' = some q → dj b q = false
section
variable {e e' n : Int} {l : List bu} {rs rs' : List (List bu)}
theorem yx.same (h : yx b g e' rs) (h6 : b.lots.length ≤ 6) (hg : 1 ≤ g) (hc : IV b pL e l n) : e' = e := by
 rcases h.err with rfl | rfl
 ·rcases hc.err with rfl | rfl
  ·rfl
  obtain ⟨q, h1, h2, _⟩ := h.yes rfl
  have := (hc.no rfl).2.2 rs.flatten
  rw [(rO h6).2 ⟨q, zQ h6 (by omega) rs h1, h2⟩] at this; cases this
 rcases hc.err with rfl | rfl
 ·obtain ⟨q, h1, h2⟩ := (rO h6).1 (hc.yes rfl).1
  have := (h.no rfl).2 _ q (qK hg l h1)
  rw [h2] at this; cases this
 rfl
theorem yx.right (h : yx b g 0 rs) (h6 : b.lots.length ≤ 6) (hg : 1 ≤ g) : so b rs.flatten = true := by
 obtain ⟨q, h1, h2, _⟩ := h.yes rfl
 exact (rO h6).2 ⟨q, zQ h6 (by omega) rs h1, h2⟩
theorem yx.IF (h : yx b g 0 rs) (h6 : b.lots.length ≤ 6) (hg : 1 ≤ g) (hc : IV b pL 0 l n) : n ≤ rs.length * g ∧ (rs.length : Int) ≤ n := by
 obtain ⟨q, h1, h2, h3⟩ := h.yes rfl
 obtain ⟨c1, c2, c3⟩ := hc.yes rfl
 rw [FQ] at c2
 constructor
 ·have h4 := c3 _ (h.right h6 hg)
  rw [FQ] at h4
  have := HY (by omega) rs (z7 (by omega) rs h1)
  omega
 obtain ⟨q', g1, g2⟩ := (rO h6).1 c1
 have := h3 _ q' (qK hg l g1) g2
 rw [List.length_map] at this; omega
theorem yx.less (h : yx b g 0 rs) (h' : yx b (g + 1) 0 rs') (hg : 1 ≤ g) : rs'.length ≤ rs.length := by
 obtain ⟨q, h1, h2, _⟩ := h.yes rfl
 obtain ⟨_, _, _, h3⟩ := h'.yes rfl
 exact h3 _ q (Fi (by omega) (by omega) rs h1) h2
theorem FC (hg : 0 ≤ g) : ∀ (rs1 : List (List bu)) {rs2 : List (List bu)} {p q : Pl}, rU b g p (rs1 ++ [] :: rs2) = some q → rU b g p (rs1 ++ rs2) = some q
  | [], rs2, p, q, h => (qD h).2
  | r :: rs1, rs2, p, q, h => by
    obtain ⟨h1, h2⟩ := qD h
    rw [List.cons_append, vf h1]
    exact FC hg rs1 h2
theorem yx.rows (h : yx b g 0 rs) (hg : 1 ≤ g) : ∀ l ∈ rs, 0 < l.length ∧ (l.length : Int) ≤ g := fun l hl => by
  obtain ⟨q, h1, h2, h3⟩ := h.yes rfl
  refine ⟨?_, z7 (by omega) rs h1 l hl⟩
  cases l with
  | cons t l => exact Nat.zero_lt_succ _
  | nil =>
    obtain ⟨s, r, e⟩ := List.append_of_mem hl
    rw [e] at h1
    have := h3 _ q (FC (by omega) s h1) h2
    rw [e] at this; simp at this
    omega
end
theorem D8 {b : aW} (hr : b.dD) : ∀ i, i < b.lots.length → 0 ≤ nth (bE b).1 i ∧ nth (bE b).1 i < b.sizes.length := fun i hi => by
 rw [n4 hr.lots hi]; exact hr.inn _ (bh hi)
def RN (l : List bu) : Bool := (List.range (l.length - 1)).any fun i => decide ((nth l (i + 1)).cJ ≤ (nth l i).cJ)
def SE (b : aW) (p : Pl) (l : List bu) (i : Nat) : Bool := gZ b p (nth l i).aim || (l.take i).any fun u => decide (u.aim = (nth l i).aim)
def Ry (b : aW) (p : Pl) (l : List bu) : Bool := (List.range l.length).any fun i => SE b p l i
def AK (b : aW) (p : Pl) (g : Int) (l : List bu) : Int :=
  if (!l.all fun t => b.cJ t.cJ && b.bin t.aim) = true then 1 else if RN l = true then 4 else if Ry b p l = true then 5 else if (!l.all fun t => b.hold t.aim t.cJ) = true then 9 else if (l.length : Int) > g then 2 else 0
def uP (b : aW) (g : Int) : Pl → List (List bu) → Bool × Int
  | p, [] => (dj b p, 0)
  | p, l :: rs => if AK b p g l = 0 then uP b g (bK p l) rs else (false, AK b p g l)
structure Py (b : aW) (g : Int) (rs : List (List bu)) (k : Nat) (p : Pl) : Prop where
  same : uP b g (bE b) rs = uP b g p (rs.drop k)
  le : k ≤ rs.length
theorem Py.stop {rs : List (List bu)} {k : Nat} {p : Pl} (h : Py b g rs k p) (hk : k < rs.length) (he : ¬ AK b p g (nth rs k) = 0) : uP b g (bE b) rs = (false, AK b p g (nth rs k)) := by
 rw [h.same, kr hk]; exact if_neg he
theorem Py.next {rs : List (List bu)} {k : Nat} {p : Pl} (h : Py b g rs k p) (hk : k < rs.length) (he : AK b p g (nth rs k) = 0) : Py b g rs (k + 1) (bK p (nth rs k)) :=
 ⟨by rw [h.same, kr hk]; exact if_pos he, hk⟩
theorem Py.end {rs : List (List bu)} {k : Nat} {p : Pl} (h : Py b g rs k p) (hk : rs.length ≤ k) : uP b g (bE b) rs = (dj b p, 0) := by
 rw [h.same, List.drop_of_length_le hk]; rfl
end Go.Proofs.YtmmcenjknimhbaaGreat
namespace Go.Proofs.YtmmcenjknimhbaaGreat
open Go Go.T
def cU (b : aW) (p : Pl) : aW := ⟨b.sizes, (List.range b.lots.length).map fun i => ⟨(nth b.lots i).sacks, nth p.1 i, (nth b.lots i).aim⟩⟩
variable {b : aW} {p q : Pl} {t : bu}
theorem gV (b : aW) (p : Pl) : (cU b p).lots.length = b.lots.length := by simp [cU]
theorem fT {i : Nat} (hi : i < b.lots.length) : nth (cU b p).lots i = ⟨(nth b.lots i).sacks, nth p.1 i, (nth b.lots i).aim⟩ := by
 unfold cU
 show nth ((List.range b.lots.length).map _) i = _
 rw [cL (by simpa using hi), List.getElem_map, List.getElem_range]
theorem JL (h6 : b.lots.length ≤ 6) : cU b (bE b) = b := by
  have e : (cU b (bE b)).lots = b.lots := uh (gV _ _) fun i hi => by
    rw [gV] at hi
    rw [fT hi, n4 h6 hi]
  cases b with
  | mk s l => exact congrArg (aW.mk s) e
theorem Fv (h6 : b.lots.length ≤ 6) (ht : t ∈ ay b p) : eL (cU b p) t = (cU b (bf p t), 0) := by
 obtain ⟨h1, h2, h3, h4, h5, h7⟩ := eG.1 ht
 rw [tT]
 ·congr 1
  have e : nU (cU b p) t = (cU b (bf p t)).lots := uh (by unfold nU; rw [List.length_set, gV, gV]) fun i hi => by
   unfold nU at hi ⊢
   rw [List.length_set, gV] at hi
   rw [uW (by rw [gV]; exact hi), fT hi, fT hi, jK (by omega)]
   by_cases e : t.cJ.toNat = i
   ·rw [if_pos e, if_pos e, fT (by omega), e]
   rw [if_neg e, if_neg e]
  rw [e]; rfl
 ·simp only [Bool.or_eq_false_iff, Bool.not_eq_false', aW.cJ, aW.bin, iD, gV]
  refine ⟨by omega, ?_⟩
  show 0 ≤ t.aim ∧ t.aim ≤ (b.sizes.length : Int) - 1
  omega
 ·unfold aW.free
  rw [List.all_eq_true]
  intro l hl
  obtain ⟨i, hi, rfl⟩ := oT hl
  rw [gV] at hi
  rw [fT hi, Bool.not_eq_true', decide_eq_false_iff_not]
  intro e
  have := (jx h6).2 ⟨i, hi, e⟩
  rw [h5] at this; cases this
 unfold aW.hold at h7 ⊢
 rw [fT (by omega)]; exact h7
def Lt : Pl → List bu → List bu
  | _, [] => []
  | p, t :: l => ⟨t.cJ, nth p.1 t.cJ.toNat⟩ :: Lt (bf p t) l
theorem Fa (h6 : b.lots.length ≤ 6) : ∀ (l : List bu) {p q : Pl} (acc : List bu), mw b p l = some q → oV (cU b p) acc l = (cU b q, (acc ++ Lt p l).reverse, 0)
  | [], p, q, acc, h => by injection h with h; subst h; show (cU b p, acc.reverse, 0) = _; rw [show Lt p [] = [] from rfl, List.append_nil]
  | t :: l, p, q, acc, h => by
    obtain ⟨h1, h2⟩ := ue h
    have e := Fv h6 h1
    have h3 := eG.1 h1
    show (if (eL (cU b p) t).2 = 0 then oV (eL (cU b p) t).1 (acc ++ [⟨t.cJ, (nth (cU b p).lots t.cJ.toNat).inn⟩]) l else _) = _
    rw [e, if_pos rfl, fT (by omega), Fa h6 l _ h2, List.append_assoc]; rfl
structure VP (b : aW) (p : Pl) : Prop where
  apart : Cz b p
  named : ∀ i, i < b.lots.length → 0 ≤ nth p.1 i ∧ nth p.1 i < b.sizes.length
  holds : ∀ i, i < b.lots.length → (nth b.lots i).sacks ≤ nth b.sizes (nth p.1 i).toNat
theorem NB (hr : b.dD) : VP b (bE b) := ⟨Di hr, D8 hr, fun i hi => by rw [n4 hr.lots hi]; exact (hr.holds i hi).1⟩
theorem y6 (h6 : b.lots.length ≤ 6) (h : VP b p) (ht : t ∈ ay b p) : VP b (bf p t) := by
 have h3 := eG.1 ht
 refine ⟨EJ h6 h.apart ht, fun i hi => ?_, fun i hi => ?_⟩
 ·rw [jK (by omega)]
  by_cases e : t.cJ.toNat = i
  ·rw [if_pos e]; exact ⟨h3.2.2.1, h3.2.2.2.1⟩
  rw [if_neg e]; exact h.named i hi
 rw [jK (by omega)]
 by_cases e : t.cJ.toNat = i
 ·rw [if_pos e]
  have := h3.2.2.2.2.2
  unfold aW.hold at this
  rw [e] at this
  exact of_decide_eq_true this
 rw [if_neg e]; exact h.holds i hi
theorem Ou (h6 : b.lots.length ≤ 6) : ∀ (l : List bu) {p q : Pl}, VP b p → mw b p l = some q → VP b q
  | [], p, q, h, e => by injection e with e; rw [← e]; exact h
  | t :: l, p, q, h, e => Ou h6 l (y6 h6 h (ue e).1) (ue e).2
theorem ld (hr : b.dD) (hv : VP b p) : (cU b p).dD := by
 have hl := gV b p
 have key : ∀ l ∈ (cU b p).lots, ∃ i, i < b.lots.length ∧ l = ⟨(nth b.lots i).sacks, nth p.1 i, (nth b.lots i).aim⟩ := fun l h => by
  obtain ⟨i, hi, rfl⟩ := oT h
  rw [hl] at hi
  exact ⟨i, hi, fT hi⟩
 refine ⟨hr.bins, by rw [hl]; exact hr.lots, hr.size, fun l h => ?_, fun l h => ?_, fun l h => ?_, fun i k hk hi => ?_, fun i hi => ?_⟩
 ·obtain ⟨i, hi, rfl⟩ := key l h; exact hr.sacks (nth b.lots i) (bh hi)
 ·obtain ⟨i, hi, rfl⟩ := key l h; exact hv.named i hi
 ·obtain ⟨i, hi, rfl⟩ := key l h; exact hr.aim (nth b.lots i) (bh hi)
 ·rw [hl] at hi
  rw [fT hi, fT (by omega)]
  exact ⟨fun e => by have := hv.apart i k hi (by omega) e; omega, (hr.apart i k hk hi).2⟩
 rw [hl] at hi
 rw [fT hi]
 exact ⟨hv.holds i hi, (hr.holds i hi).2⟩
structure Rs (b : aW) (plan : List bu) (a : aW) (back : List bu) (p : List Int) : Prop where
  done : iR b plan = (a, back, 0)
  home : iR a back = (b, plan, 0)
  right : a.dD
  cost : gz (pY a) back = gz (pY b) plan
  ok : (jm a back).2 = true
  at_ : jm b plan = (p, true)
  sizes : a.sizes = b.sizes
  len : a.lots.length = b.lots.length
  plen : p.length = b.lots.length
  cJ : ∀ i, i < b.lots.length → nth a.lots i = ⟨(nth b.lots i).sacks, nth p i, (nth b.lots i).aim⟩
  places : lP a = lP b
  one : 1 ≤ lP b
  makes : DH b plan = so b plan
  IF : ∀ e l n e' l' n', IV b pL e l n → IV a pL e' l' n' → e = e' ∧ (e = 0 → n ≤ n' + plan.length ∧ n' ≤ n + plan.length)
end Go.Proofs.YtmmcenjknimhbaaGreat
namespace Go.Proofs.YtmmcenjknimhbaaGreat
def xy (n : Nat) : List Int := (List.range n).map fun (k : Nat) => (k : Int)
theorem gK {n : Nat} {x : Int} : x ∈ xy n ↔ 0 ≤ x ∧ x < n := by
 simp only [xy, List.mem_map, List.mem_range]
 constructor
 ·rintro ⟨k, hk, rfl⟩; omega
 rintro ⟨h1, h2⟩; exact ⟨x.toNat, by omega, by omega⟩
def LQ (rules : List jq) (known : List Int) : Nat := rules.countP fun r => decide (r.fst ∉ known)
def jU (rec : Int → List Int → List Int) (t : Int) (kn : List Int) (r : jq) : List Int := if r.nxt = t ∧ r.fst ∉ kn then rec r.fst (kn ++ [r.fst]) else kn
def gP (rules : List jq) : Nat → Int → List Int → List Int
  | 0, _, known => known
  | n + 1, t, known => rules.foldl (jU (gP rules n) t) known
theorem Dg {rules : List jq} {a b : List Int} (h : ∀ x ∈ a, x ∈ b) : LQ rules b ≤ LQ rules a := by
 refine List.countP_mono_left fun r _ hr => ?_
 simp only [decide_eq_true_eq] at hr ⊢
 exact fun hx => hr (h _ hx)
theorem Hi {rules : List jq} {kn : List Int} {r : jq} (hr : r ∈ rules) (h : r.fst ∉ kn) : LQ rules (kn ++ [r.fst]) + 1 ≤ LQ rules kn := by
  unfold LQ
  induction rules with
  | nil => cases hr
  | cons q l ih =>
    simp only [List.countP_cons]
    have hle : List.countP (fun r_1 => decide (r_1.fst ∉ kn ++ [r.fst])) l ≤ List.countP (fun r => decide (r.fst ∉ kn)) l := Dg (rules := l) fun x hx => List.mem_append_left _ hx
    rcases List.mem_cons.1 hr with rfl | hr
    · rw [if_neg (by simp), if_pos (by simpa using h)]; omega
    · have := ih hr
      have : (if decide (q.fst ∉ kn ++ [r.fst]) = true then 1 else 0) ≤ (if decide (q.fst ∉ kn) = true then 1 else 0) := by
        by_cases h1 : q.fst ∈ kn
        · rw [if_neg (by simp [h1]), if_neg (by simp [h1])]; omega
        · rw [if_pos (show decide (q.fst ∉ kn) = true by simpa using h1)]; split <;> omega
      omega
def xP (rules : List jq) (a b : List Int) : Prop := (∀ x ∈ a, x ∈ b) ∧ b.length + LQ rules b ≤ a.length + LQ rules a
theorem xP.refl (rules : List jq) (a : List Int) : xP rules a a := ⟨fun _ h => h, Nat.le_refl _⟩
theorem xP.trans {rules : List jq} {a b c : List Int} (h : xP rules a b) (h' : xP rules b c) : xP rules a c := ⟨fun x hx => h'.1 x (h.1 x hx), Nat.le_trans h'.2 h.2⟩
theorem Dh {rules : List jq} {kn : List Int} {r : jq} (hr : r ∈ rules) (h : r.fst ∉ kn) : xP rules kn (kn ++ [r.fst]) :=
 ⟨fun x hx => List.mem_append_left _ hx, by have := Hi hr h; simp; omega⟩
theorem vA {rules : List jq} {rec : Int → List Int → List Int} {t : Int} (hrec : ∀ t kn, xP rules kn (rec t kn)) : ∀ (l : List jq), (∀ r ∈ l, r ∈ rules) → ∀ kn, xP rules kn (l.foldl (jU rec t) kn)
  | [], _, kn => .refl _ _
  | r :: l, hl, kn => by
    refine xP.trans ?_ (vA hrec l (fun x hx => hl x (List.mem_cons_of_mem _ hx)) _)
    unfold jU
    split
    · rename_i h
      exact (Dh (hl r List.mem_cons_self) h.2).trans (hrec _ _)
    · exact .refl _ _
theorem pQ (rules : List jq) : ∀ (n : Nat) (t : Int) (kn : List Int), xP rules kn (gP rules n t kn)
  | 0, _, _ => .refl _ _
  | n + 1, _, kn => vA (pQ rules n) rules (fun _ h => h) kn
def uf (f : cG) (t : Int) : List Int := gP f.rules (f.rules.length + 1) t []
def hH (f : cG) (t : Int) : List Int := (xy f.turnings.length).filter fun k => decide (k ∈ uf f t)
theorem PO (rules : List jq) (kn : List Int) : LQ rules kn ≤ rules.length := List.countP_le_length
end Go.Proofs.YtmmcenjknimhbaaGreat
namespace Go.Proofs.YtmmcenjknimhbaaGreat
theorem E7 {α : Type} {q : α → Bool} {l : List α} {x : α} (hx : x ∈ l) (h : q x = true) : l.any q = true := List.any_eq_true.2 ⟨x, hx, h⟩
theorem j8 {α : Type} {q : α → Bool} {l : List α} (h : l.any q = false) {x : α} (hx : x ∈ l) : q x = false := by
  cases hq : q x with
  | false => rfl
  | true => rw [E7 hx hq] at h; cases h
def dr (n lo hi : Int) : Bool := decide (n < lo) || decide (n > hi)
def cG.many (f : cG) : Bool := dr f.bears.length 1 4 || decide ((f.bins.length : Int) > 6) || decide ((f.turnings.length : Int) > 8) || decide ((f.rules.length : Int) > 16)
def j5 (f : cG) (ts : List tO) (i : Int) : Int := (ts.map fun t => if t.src = i then t.sacks else 0).sum
def cG.nS (f : cG) (i : Nat) (b : p5) : Bool := !decide (b.shares.sum = 4) || decide (j5 f f.turnings i > b.has)
def xW (f : cG) : Int :=
  if f.turnings.any fun t => dr t.src (-1) (f.bins.length - 1) || dr t.dst (-1) (f.bins.length - 1) then 1
  else if f.rules.any fun r => dr r.fst 0 (f.turnings.length - 1) || dr r.nxt 0 (f.turnings.length - 1) then 1
  else if f.turnings.any fun t => decide (t.src = t.dst) then 5
  else if (xy f.bins.length).any fun i => f.nS i.toNat (f.bins.getD i.toNat default) then 8
  else if (xy f.turnings.length).any fun t => decide (t ∈ hH f t) then 7
  else 0
def gO (f : cG) : Int :=
  if f.many then 2
  else if f.bins.any fun b => !decide ((b.shares.length : Int) = f.bears.length) then 2
  else if f.bears.any fun n => dr n 0 4000 then 3
  else if f.bins.any fun b => dr b.has 0 300 || b.shares.any fun n => dr n 0 4 then 3
  else if f.turnings.any fun t => dr t.sacks 1 300 then 3
  else xW f
structure cG.mD (f : cG) : Prop where
  bears1 : 1 ≤ f.bears.length
  bears : f.bears.length ≤ 4
  bins : f.bins.length ≤ 6
  turnings : f.turnings.length ≤ 8
  rules : f.rules.length ≤ 16
  shares : ∀ b ∈ f.bins, b.shares.length = f.bears.length
  bearsR : ∀ n ∈ f.bears, 0 ≤ n ∧ n ≤ 4000
  hasR : ∀ b ∈ f.bins, 0 ≤ b.has ∧ b.has ≤ 300
  sharesR : ∀ b ∈ f.bins, ∀ n ∈ b.shares, 0 ≤ n ∧ n ≤ 4
  sacksR : ∀ t ∈ f.turnings, 1 ≤ t.sacks ∧ t.sacks ≤ 300
theorem wA {l : List Int} {lo hi : Int} (h : ∀ n ∈ l, lo ≤ n ∧ n ≤ hi) : lo * l.length ≤ l.sum ∧ l.sum ≤ hi * l.length := by
  induction l with
  | nil => simp
  | cons a l ih =>
    obtain ⟨h1, h2⟩ := h a List.mem_cons_self
    obtain ⟨h3, h4⟩ := ih fun n hn => h n (List.mem_cons_of_mem _ hn)
    simp only [List.sum_cons, List.length_cons, Int.natCast_add, Int.mul_add, Int.natCast_one, Int.mul_one]
    omega
theorem Dj {f : cG} (hr : f.mD) (k : Nat) (i : Int) : 0 ≤ j5 f (f.turnings.take k) i ∧ j5 f (f.turnings.take k) i ≤ 2400 := by
 have h := wA (l := (f.turnings.take k).map fun t => if t.src = i then t.sacks else 0) (lo := 0) (hi := 300) fun n hn => by
  obtain ⟨t, ht, rfl⟩ := List.mem_map.1 hn
  have := hr.sacksR t (List.mem_of_mem_take ht)
  split <;> omega
 have := hr.turnings
 simp only [List.length_map, List.length_take] at h
 unfold j5; omega
theorem GJ {l : List Int} {lo hi : Int} (h : ∀ n ∈ l, lo ≤ n ∧ n ≤ hi) (k : Nat) : lo * (l.take k).length ≤ (l.take k).sum ∧ (l.take k).sum ≤ hi * (l.take k).length :=
 wA fun n hn => h n (List.mem_of_mem_take hn)
end Go.Proofs.YtmmcenjknimhbaaGreat
namespace Go.Proofs.YtmmcenjknimhbaaGreat
open Go.T
def jc (f : cG) (order : List Int) : Int :=
  if (order.length : Int) ≠ f.turnings.length then 2
  else if order.any fun x => decide (x < 0 ∨ x ≥ f.turnings.length) then 1
  else if (xy order.length).any fun i => decide (nth order i.toNat ∈ order.take i.toNat) then 5
  else if (xy order.length).any fun i => (hH f (nth order i.toNat)).any fun y => !decide (y ∈ order.take i.toNat) then 4
  else 0
def cG.BQ (f : cG) : Prop := ∀ t ∈ f.turnings, (-1 ≤ t.src ∧ t.src < f.bins.length) ∧ (-1 ≤ t.dst ∧ t.dst < f.bins.length)
def mR (t : tO) (s : List Int) : List Int := if t.src ≥ 0 then s.set t.src.toNat (nth s t.src.toNat - t.sacks) else s
def zn (t : tO) (s : List Int) : List Int := if t.dst ≥ 0 then s.set t.dst.toNat (nth s t.dst.toNat + t.sacks) else s
def nh (f : cG) (s : List Int) (i : Int) : List Int := zn (nth f.turnings i.toNat) (mR (nth f.turnings i.toNat) s)
theorem vh (t : tO) (s : List Int) : (mR t s).length = s.length := by unfold mR; split <;> simp
theorem I9 (t : tO) (s : List Int) : (zn t s).length = s.length := by unfold zn; split <;> simp
def j6 (f : cG) (order : List Int) (k : Nat) : List Int := (order.take k).foldl (nh f) (f.bins.map p5.has)
theorem BF (f : cG) (s : List Int) (i : Int) : (nh f s i).length = s.length := by
 rw [nh, I9, vh]
theorem Bn (f : cG) : ∀ (l : List Int) (s : List Int), (l.foldl (nh f) s).length = s.length
  | [], _ => rfl
  | i :: l, s => by rw [List.foldl_cons, Bn f l, BF]
theorem GX (f : cG) (order : List Int) (k : Nat) : (j6 f order k).length = f.bins.length := by simp [j6, Bn]
theorem wu {f : cG} {order : List Int} {k : Nat} (h : k < order.length) : j6 f order (k + 1) = nh f (j6 f order k) (nth order k) := by
 simp only [j6]; rw [cE h, List.foldl_append]; rfl
def oG (f : cG) (s : List Int) (i b : Nat) : Int := ((List.range i).map fun q => nth s q * nth (nth f.bins q).shares b).sum
theorem wD (f : cG) (s : List Int) (i b : Nat) : oG f s (i + 1) b = oG f s i b + nth s i * nth (nth f.bins i).shares b := by
 simp [oG, List.range_succ]
theorem qX {f : cG} (hr : f.mD) {i b : Nat} (hi : i < f.bins.length) : 0 ≤ nth (nth f.bins i).shares b ∧ nth (nth f.bins i).shares b ≤ 4 := by
 rcases Nat.lt_or_ge b (nth f.bins i).shares.length with hk | hk
 ·exact hr.sharesR _ (bh hi) _ (bh hk)
 have : nth (nth f.bins i).shares b = 0 := by
  show (nth f.bins i).shares.getD b default = 0
  rw [List.getD_eq_getElem?_getD, List.getElem?_eq_none hk]; rfl
 omega
def xA (f : cG) (s : List Int) : List Int := (List.range f.bears.length).map fun b => oG f s f.bins.length b
def fS (f : cG) (order : List Int) : List (List Int) := (List.range (order.length + 1)).map fun k => xA f (j6 f order k)
end Go.Proofs.YtmmcenjknimhbaaGreat
namespace Go.Proofs.YtmmcenjknimhbaaGreat
open Go.T
theorem dQ {α : Type} [Inhabited α] {n k : Nat} (g : Nat → α) (h : k < n) : nth ((List.range n).map g) k = g k := by
 rw [cL (by simpa using h)]; simp
theorem kG {f : cG} {order : List Int} {k : Nat} (h : k ≤ order.length) : nth (fS f order) k = xA f (j6 f order k) := dQ _ (by omega)
theorem vv (f : cG) (s : List Int) : (xA f s).length = f.bears.length := by simp [xA]
theorem x6 {f : cG} {order : List Int} {k : Nat} (h : k ≤ order.length) : (nth (fS f order) k).length = f.bears.length := by rw [kG h, vv]
theorem DJ {l : List Int} {k : Nat} (h : l.length ≤ k) : nth l k = 0 := by
 show l.getD k default = 0
 rw [List.getD_eq_getElem?_getD, List.getElem?_eq_none h]; rfl
theorem F1 {f : cG} (hr : f.mD) (b : Nat) : 0 ≤ nth f.bears b ∧ nth f.bears b ≤ 4000 := by
 rcases Nat.lt_or_ge b f.bears.length with hb | hb
 ·exact hr.bearsR _ (bh hb)
 rw [DJ hb]; omega
def P8 (f : cG) (t : Int) (b : Nat) : Int := nth (nth (fS f [t]) 1) b - nth (nth (fS f [t]) 0) b
def MP (f : cG) (l : List Int) (j : Nat) (n : Int) : Int := (List.range j).foldl (fun n b => min n (nth f.bears b - nth l b)) n
def Lu (f : cG) (ls : List (List Int)) (k : Nat) : Int := (ls.take k).foldl (fun n l => MP f l f.bears.length n) (nth f.bears 0 - nth (nth ls 0) 0)
def nP (f : cG) (order : List Int) : Int := Lu f (fS f order) (order.length + 1)
def Mm (f : cG) (l : List Int) : Option Nat := (List.range f.bears.length).find? fun b => decide (nth l b > nth f.bears b)
def Gq (f : cG) (order : List Int) : Option (Nat × Nat) := (List.range (order.length + 1)).findSome? fun k => (Mm f (nth (fS f order) k)).map fun b => (k, b)
def breakT (f : cG) (order : List Int) : Int := match Gq f order with | some x => (x.1 : Int) | none => 0
def MO (f : cG) (order : List Int) : Int := match Gq f order with | some x => (x.2 : Int) | none => 0
end Go.Proofs.YtmmcenjknimhbaaGreat
namespace Go.Proofs.YtmmcenjknimhbaaGreat
open Go.T
def pF (f : cG) (done : List Int) (t : Int) : Bool := !decide (t ∈ done) && (hH f t).all fun a => decide (a ∈ done)
def IB (f : cG) : Nat → List Int → List (List Int)
  | 0, _ => []
  | n + 1, done => if done.length = f.turnings.length then [done] else (xy f.turnings.length).flatMap fun t => if pF f done t = true then IB f n (done ++ [t]) else []
def Q8 (f : cG) (orders : List (List Int)) : List (List Int) := orders.filter fun l => decide (nP f l ≥ 0)
end Go.Proofs.YtmmcenjknimhbaaGreat
namespace Go.Proofs.YtmmcenjknimhbaaGreat
open Go.T
end Go.Proofs.YtmmcenjknimhbaaGreat
namespace Go.Proofs.YtmmcenjknimhbaaGreat
open Go.T
def mo (s k : Nat) : List Int := ((List.range k).filter fun i => s.testBit i).map fun (i : Nat) => (i : Int)
def cB (s : Nat) : List Int := mo s 8
theorem qW (s k : Nat) : mo s (k + 1) = mo s k ++ if s.testBit k = true then [(k : Int)] else [] := by
 unfold mo
 rw [List.range_succ, List.filter_append, List.map_append]
 congr 1
 by_cases h : s.testBit k = true
 ·simp [h]
 simp [h]
theorem rL (s i : Nat) : ((s >>> i) &&& 1 = 1) ↔ s.testBit i = true := by
 rw [Nat.testBit, Nat.and_comm]
 have : (1 &&& s >>> i) = s >>> i % 2 := by rw [Nat.and_comm]; exact Nat.and_one_is_mod _
 rw [this]
 have := Nat.mod_two_eq_zero_or_one (s >>> i)
 constructor
 ·intro h; rw [h]; rfl
 intro h
 rcases this with h0 | h1
 ·rw [h0] at h; cases h
 exact h1
theorem Mz {s i : Nat} (h : s >>> i = 0) : ∀ j, i ≤ j → s.testBit j = false := by
 intro j hj
 have : s.testBit j = (s >>> i).testBit (j - i) := by rw [Nat.testBit_shiftRight]; congr 1; omega
 rw [this, h, Nat.zero_testBit]
theorem HD {s i : Nat} (h : s >>> i = 0) : ∀ k, i ≤ k → mo s k = mo s i := by
  intro k hk
  induction k with
  | zero => rw [show i = 0 by omega]
  | succ k ih =>
    rcases Nat.lt_or_ge k i with h1 | h1
    · rw [show k + 1 = i by omega]
    · rw [qW, ih h1, if_neg (by rw [Mz h k h1]; decide), List.append_nil]
theorem CX {s i : Nat} (hs : s < 256) (h : s >>> i > 0) : i < 8 := by
 rcases Nat.lt_or_ge i 8 with h1 | h1
 ·exact h1
 exfalso
 have : s >>> i = 0 := by
  rw [Nat.shiftRight_eq_div_pow]
  exact Nat.div_eq_of_lt (Nat.lt_of_lt_of_le hs (Nat.le_trans (by decide : 256 ≤ 2 ^ 8) (Nat.pow_le_pow_right (by omega) h1)))
 omega
theorem zS (s k : Nat) : (mo s k).length ≤ k := by
 have := List.length_filter_le (fun i => s.testBit i) (List.range k)
 simpa [mo] using this
def fG (n lo hi : Int) : Bool := decide (n ≥ lo) && decide (n ≤ hi)
end Go.Proofs.YtmmcenjknimhbaaGreat
namespace Go.Proofs.YtmmcenjknimhbaaGreat
open Go.T
def kF (f : cG) : Bool := !fG f.bears.length 1 4 || decide ((f.bins.length : Int) > 6) || decide ((f.turnings.length : Int) > 8) || decide ((f.rules.length : Int) > 16) || !f.bins.all fun b => decide ((b.shares.length : Int) = f.bears.length)
def lA (f : cG) : Bool := (!f.bears.all fun n => fG n 0 4000) || !f.turnings.all fun t => fG t.sacks 1 300
def mV (f : cG) : Bool := !f.bins.all fun b => fG b.has 0 300 && b.shares.all fun n => fG n 0 4
def oO (f : cG) : Bool := (!f.turnings.all fun t => fG t.src (-1) (f.bins.length - 1) && fG t.dst (-1) (f.bins.length - 1)) || !f.rules.all fun r => fG r.fst 0 (f.turnings.length - 1) && fG r.nxt 0 (f.turnings.length - 1)
def sU (f : cG) : Bool := !f.turnings.all fun t => !decide (t.src = t.dst)
def qP (f : cG) : Bool := !f.bins.all fun b => decide (b.shares.sum = 4)
def wE (f : cG) : Bool := (xy f.bins.length).any fun i => decide (j5 f f.turnings i > (nth f.bins i.toNat).has)
def hO (f : cG) : Int := if kF f then 2 else if lA f then 3 else if mV f then 3 else if oO f then 1 else if sU f then 5 else if qP f then 8 else if wE f then 8 else 0
theorem gL {n lo hi : Int} (h : fG n lo hi = true) : lo ≤ n ∧ n ≤ hi := by
 simp only [fG, Bool.and_eq_true, decide_eq_true_eq] at h; exact h
theorem uB {f : cG} (h1 : kF f = false) (h2 : lA f = false) (h3 : mV f = false) : f.mD := by
 simp only [kF, Bool.or_eq_false_iff, decide_eq_false_iff_not, Bool.not_eq_false'] at h1
 simp only [lA, Bool.or_eq_false_iff, Bool.not_eq_false', List.all_eq_true] at h2
 simp only [mV, Bool.not_eq_false', List.all_eq_true, Bool.and_eq_true] at h3
 obtain ⟨⟨⟨⟨a, b⟩, c⟩, d⟩, e⟩ := h1
 have ha := gL a
 simp only [List.all_eq_true, decide_eq_true_eq] at e
 exact ⟨by omega, by omega, by omega, by omega, by omega, fun x hx => by have := e x hx; omega, fun n hn => gL (h2.1 n hn), fun x hx => gL (h3 x hx).1, fun x hx n hn => gL ((h3 x hx).2 n hn), fun t ht => gL (h2.2 t ht)⟩
end Go.Proofs.YtmmcenjknimhbaaGreat
namespace Go.Proofs.YtmmcenjknimhbaaGreat
open Go.T
def xS : El Nat := El.mk' 1 (fun n => [Ty.int .i64 (n : Nat)]) (fun _ => rfl) (fun _ => ⟨rfl, rfl, rfl⟩)
def fE (out : List Nat) (r : jq) : List Nat := out.set r.nxt.toNat (nth out r.nxt.toNat ||| (nth out r.fst.toNat ||| 1 <<< r.fst.toNat))
def k9 (f : cG) (out : List Nat) : List Nat := f.rules.foldl fE out
def lD (f : cG) : Nat → List Nat → List Nat
  | 0, out => out
  | n + 1, out => if k9 f out = out then out else lD f n (k9 f out)
def gQ (f : cG) : List Nat := lD f 2041 (List.replicate 8 0)
def cG.iQ (f : cG) : Prop := f.turnings.length ≤ 8 ∧ ∀ r ∈ f.rules, (0 ≤ r.fst ∧ r.fst < f.turnings.length) ∧ (0 ≤ r.nxt ∧ r.nxt < f.turnings.length)
structure Sets (out : List Nat) : Prop where
  len : out.length = 8
  lt : ∀ e ∈ out, e < 256
theorem Sets.nth {out : List Nat} (h : Sets out) (k : Nat) : T.nth out k < 256 := by
 rcases Nat.lt_or_ge k out.length with hk | hk
 ·exact h.lt _ (bh hk)
 have : T.nth out k = 0 := by
  show out.getD k default = 0
  rw [List.getD_eq_getElem?_getD, List.getElem?_eq_none hk]; rfl
 omega
theorem Nk {out : List Nat} (h : Sets out) {a b : Nat} (hb : b < 8) : T.nth out a ||| (T.nth out b ||| 1 <<< b) < 256 := by
 refine Nat.or_lt_two_pow (n := 8) (h.nth a) (Nat.or_lt_two_pow (h.nth b) ?_)
 rw [Nat.shiftLeft_eq, Nat.one_mul]
 exact Nat.pow_lt_pow_right (by omega) hb
theorem Bm {out : List Nat} (h : Sets out) {r : jq} (hr : r.fst.toNat < 8) : Sets (fE out r) :=
 ⟨by rw [fE, List.length_set, h.len], fun e he => by
  rcases List.mem_or_eq_of_mem_set he with h1 | rfl
  ·exact h.lt e h1
  exact Nk h hr⟩
theorem RB (a b : Nat) : a ≤ a ||| b := Nat.left_le_or
theorem N6 {l : List Nat} {k v : Nat} (hk : k < l.length) (h : nth l k ≤ v) : l.sum ≤ (l.set k v).sum ∧ ((l.set k v).sum = l.sum → l.set k v = l) := by
  induction l generalizing k with
  | nil => simp at hk
  | cons x l ih =>
    cases k with
    | zero =>
      have h : x ≤ v := h
      simp only [List.set_cons_zero, List.sum_cons]
      exact ⟨by omega, fun e => by rw [show v = x by omega]⟩
    | succ k =>
      obtain ⟨h1, h2⟩ := ih (k := k) (by simpa using hk) h
      simp only [List.set_cons_succ, List.sum_cons]
      exact ⟨by omega, fun e => by rw [h2 (by omega)]⟩
theorem B7 {out : List Nat} (h : Sets out) {r : jq} (hr : r.nxt.toNat < 8) : out.sum ≤ (fE out r).sum ∧ ((fE out r).sum = out.sum → fE out r = out) :=
 N6 (by rw [h.len]; exact hr) (RB _ _)
theorem lg : ∀ (l : List jq) (out : List Nat), Sets out → (∀ r ∈ l, r.fst.toNat < 8 ∧ r.nxt.toNat < 8) → Sets (l.foldl fE out) ∧ out.sum ≤ (l.foldl fE out).sum ∧ ((l.foldl fE out).sum = out.sum → l.foldl fE out = out)
  | [], out, h, _ => ⟨h, Nat.le_refl _, fun _ => rfl⟩
  | r :: l, out, h, hl => by
    have hr := hl r List.mem_cons_self
    obtain ⟨a1, a2⟩ := B7 h hr.2
    obtain ⟨b1, b2, b3⟩ := lg l (fE out r) (Bm h hr.1) fun x hx => hl x (List.mem_cons_of_mem _ hx)
    rw [List.foldl_cons]
    refine ⟨b1, by omega, fun e => ?_⟩
    have e1 := a2 (by omega)
    rw [e1] at b3 e ⊢
    exact b3 e
theorem sV {f : cG} (h : f.iQ) : ∀ r ∈ f.rules, r.fst.toNat < 8 ∧ r.nxt.toNat < 8 := fun r hr => by
 have := h.2 r hr; have := h.1; omega
theorem tY {out : List Nat} (h : Sets out) : out.sum ≤ 2040 := by
  have : ∀ l : List Nat, (∀ e ∈ l, e < 256) → l.sum ≤ 255 * l.length := fun l => by
    induction l with
    | nil => intro _; simp
    | cons x l ih => intro hl; have := ih fun e he => hl e (List.mem_cons_of_mem _ he); have := hl x List.mem_cons_self; simp only [List.sum_cons, List.length_cons]; omega
  have := this out h.lt
  rw [h.len] at this; omega
theorem BV {f : cG} (hf : f.iQ) {n : Nat} {out : List Nat} (h : Sets out) (hn : 2040 < n + out.sum) (hne : k9 f out ≠ out) : ∃ m, n = m + 1 ∧ lD f n out = lD f m (k9 f out) ∧ Sets (k9 f out) ∧ 2040 < m + (k9 f out).sum := by
 obtain ⟨a, b, c⟩ := lg f.rules out h (sV hf)
 have hs := tY h
 have hlt : out.sum < (k9 f out).sum := Nat.lt_of_le_of_ne b fun e => hne (c e.symm)
 obtain ⟨m, rfl⟩ : ∃ m, n = m + 1 := ⟨n - 1, by omega⟩
 exact ⟨m, rfl, by rw [lD, if_neg hne], a, by omega⟩
theorem MS {f : cG} {n : Nat} {out : List Nat} (h : Sets out) (hn : 2040 < n + out.sum) (he : k9 f out = out) : lD f n out = out := by
  cases n with
  | zero => have := tY h; omega
  | succ n => rw [lD, if_pos he]
theorem sw : Sets (List.replicate 8 0) := ⟨rfl, by decide⟩
end Go.Proofs.YtmmcenjknimhbaaGreat
namespace Go.Proofs.YtmmcenjknimhbaaGreat
open Go Go.T
def rP : El tO := El.mk' 3 (fun x => [Ty.int .i64 x.src, Ty.int .i64 x.dst, Ty.int .i64 x.sacks]) (fun _ => rfl) (fun _ => ⟨rfl, rfl, rfl⟩)
def xM : El jq := El.mk' 2 (fun x => [Ty.int .i64 x.fst, Ty.int .i64 x.nxt]) (fun _ => rfl) (fun _ => ⟨rfl, rfl, rfl⟩)
def n6 : El p5 := El.mk' 2 (fun x => [Ty.int .i64 x.has, Ty.sl eB x.shares]) (fun _ => rfl) (fun _ => ⟨rfl, rfl, rfl⟩)
def Bp : El (List Int) := El.mk' 1 (fun x => [Ty.sl eB x]) (fun _ => rfl) (fun _ => ⟨rfl, rfl, rfl⟩)
def eT (f : cG) : List Ty := [Ty.sl eB f.bears, Ty.sl n6 f.bins, Ty.sl rP f.turnings, Ty.sl xM f.rules]
def mB (f : cG) : Ty := Ty.agg (eT f)
end Go.Proofs.YtmmcenjknimhbaaGreat
namespace Go.Proofs.YtmmcenjknimhbaaGreat
open Go Go.T
structure IJ where
  f : cG
  before : List Nat
  adds : List Int
  first : List Int
def fO (b : IJ) : List Ty := eT b.f ++ (b.before.flatMap xS.tys ++ (b.adds.flatMap eB.tys ++ b.first.flatMap eB.tys))
structure IJ.wS (b : IJ) : Prop where
  before : b.before.length = 8
  adds : b.adds.length = 32
  first : b.first.length = 4
theorem CS : ∀ xs : List Nat, xs.flatMap xS.tys = xs.map fun n => Ty.int .i64 (n : Nat)
  | [] => rfl
  | x :: xs => by rw [List.flatMap_cons, CS xs]; rfl
theorem uV : ∀ xs : List Int, xs.flatMap eB.tys = xs.map fun n => Ty.int .i64 n
  | [] => rfl
  | x :: xs => by rw [List.flatMap_cons, uV xs]; rfl
theorem iJ (b : IJ) : fO b = eT b.f ++ ((b.before.map fun n => Ty.int .i64 (n : Nat)) ++ ((b.adds.map fun n => Ty.int .i64 n) ++ b.first.map fun n => Ty.int .i64 n)) := by
 unfold fO; rw [CS, uV, uV]
theorem CV {α : Type} [Inhabited α] {l : List α} (g : α → Ty) {k : Nat} (h : k < l.length) : (l.map g)[k]? = some (g (nth l k)) := by
 rw [List.getElem?_map, List.getElem?_eq_getElem h, cL h]; rfl
theorem eO (f : cG) : (eT f).length = 4 := rfl
theorem Fo {b : IJ} (h : b.wS) {i : Nat} (hi : i < 8) : (fO b)[4 + i]? = some (Ty.int .i64 (nth b.before i : Nat)) := by
 rw [iJ, List.getElem?_append_right (by rw [eO]; omega), eO, List.getElem?_append_left (by simp [h.before]; omega), show 4 + i - 4 = i by omega]
 exact CV _ (by rw [h.before]; exact hi)
theorem MX {b : IJ} (h : b.wS) {i : Nat} (hi : i < 32) : (fO b)[12 + i]? = some (Ty.int .i64 (nth b.adds i)) := by
 rw [iJ, List.getElem?_append_right (by rw [eO]; omega), eO, List.getElem?_append_right (by simp [h.before]; omega), List.getElem?_append_left (by simp [h.before, h.adds]; omega)]
 simp only [List.length_map, h.before]
 rw [show 12 + i - 4 - 8 = i by omega]
 exact CV _ (by rw [h.adds]; exact hi)
theorem Bh {b : IJ} (h : b.wS) {i : Nat} (hi : i < 4) : (fO b)[44 + i]? = some (Ty.int .i64 (nth b.first i)) := by
 rw [iJ, List.getElem?_append_right (by rw [eO]; omega), eO, List.getElem?_append_right (by simp [h.before]; omega), List.getElem?_append_right (by simp [h.before, h.adds]; omega)]
 simp only [List.length_map, h.before, h.adds]
 rw [show 44 + i - 4 - 8 - 32 = i by omega]
 exact CV _ (by rw [h.first]; exact hi)
theorem No {b : IJ} (h : b.wS) : (fO b).length = 48 := by rw [iJ]; simp [eO, h.before, h.adds, h.first]
theorem CU {b : IJ} (h : b.wS) {i : Nat} (hi : i < 32) (v : Int) : (fO b).set (12 + i) (Ty.int .i64 v) = fO { b with adds := b.adds.set i v } := by
 rw [iJ, iJ, List.set_append_right _ _ (by rw [eO]; omega), eO, List.set_append_right _ _ (by simp [h.before]; omega), List.set_append_left _ _ (by simp [h.before, h.adds]; omega)]
 simp only [List.length_map, h.before]
 rw [show 12 + i - 4 - 8 = i by omega, List.map_set]
theorem Ah {b : IJ} (h : b.wS) {i : Nat} (hi : i < 4) (v : Int) : (fO b).set (44 + i) (Ty.int .i64 v) = fO { b with first := b.first.set i v } := by
 rw [iJ, iJ, List.set_append_right _ _ (by rw [eO]; omega), eO, List.set_append_right _ _ (by simp [h.before]; omega), List.set_append_right _ _ (by simp [h.before, h.adds]; omega)]
 simp only [List.length_map, h.before, h.adds]
 rw [show 44 + i - 4 - 8 - 32 = i by omega, List.map_set]
def vB (f : cG) : Bool := (List.range 8).any fun t => (nth (gQ f) t).testBit t
def cA (f : cG) : Int := if hO f ≠ 0 then hO f else if vB f then 7 else 0
def gM (f : cG) (bad : Bool) : Int := if cA f ≠ 0 then cA f else if bad then 1 else 0
structure cG.dD (f : cG) : Prop where
  ranged : f.mD
  named : f.BQ
  ruled : f.iQ
theorem qL {f : cG} (h : hO f = 0) : f.dD := by
 unfold hO at h
 split at h
 ·cases h
 rename_i h1
 split at h
 ·cases h
 rename_i h2
 split at h
 ·cases h
 rename_i h3
 split at h
 ·cases h
 rename_i h4
 have hr := uB (Bool.eq_false_iff.2 h1) (Bool.eq_false_iff.2 h2) (Bool.eq_false_iff.2 h3)
 have h4 := Bool.eq_false_iff.2 h4
 simp only [oO, Bool.or_eq_false_iff, Bool.not_eq_false', List.all_eq_true, Bool.and_eq_true] at h4
 refine ⟨hr, fun t ht => ?_, ⟨hr.turnings, fun r hr => ?_⟩⟩
 ·have := gL (h4.1 t ht).1; have := gL (h4.1 t ht).2; omega
 have := gL (h4.2 r hr).1; have := gL (h4.2 r hr).2; omega
theorem cK {f : cG} (h : cA f = 0) : f.dD := by
 unfold cA at h
 split at h
 ·exact absurd h ‹_›
 exact qL (Classical.byContradiction fun e => ‹¬ hO f ≠ 0› e)
theorem kC {f : cG} (hf : f.iQ) : Sets (gQ f) := by
  have : ∀ n out, Sets out → Sets (lD f n out) := by
    intro n
    induction n with
    | zero => intro out h; exact h
    | succ n ih => intro out h; rw [lD]; split
                   · exact h
                   · exact ih _ (lg f.rules out h (sV hf)).1
  exact this _ _ sw
def gU (f : cG) (bin : Int) (b : Nat) : Int := if bin = -1 then 0 else nth (nth f.bins bin.toNat).shares b
def oM (f : cG) (t b : Nat) : Int := (nth f.turnings t).sacks * (gU f (nth f.turnings t).dst b - gU f (nth f.turnings t).src b)
def fR (f : cG) (b q : Nat) : Int := ((f.bins.take q).map fun x => x.has * nth x.shares b).sum
def ym (f : cG) (k a j : Nat) : Int := if j / 4 < f.turnings.length ∧ (j % 4 < k ∨ (j % 4 = k ∧ j / 4 < a)) then oM f (j / 4) (j % 4) else 0
def lC (f : cG) (k q j : Nat) : Int := if j < k then fR f j f.bins.length else if j = k then fR f k q else 0
def nZ (f : cG) (k q a : Nat) : IJ := { f := f, before := gQ f, adds := (List.range 32).map (ym f k a), first := (List.range 4).map (lC f k q) }
theorem pI {f : cG} (hf : f.iQ) (k q a : Nat) : (nZ f k q a).wS := ⟨(kC hf).len, by simp [nZ], by simp [nZ]⟩
theorem qz {α : Type} (n i : Nat) (g g' : Nat → α) (v : α) (h : ∀ j, j < n → g' j = if j = i then v else g j) : ((List.range n).map g).set i v = (List.range n).map g' := by
 apply List.ext_getElem?
 intro j
 rw [List.getElem?_set]
 by_cases e : i = j
 ·subst e
  by_cases hi : i < n
  ·simp [hi, h i hi]
  simp [hi]
 rw [if_neg e]
 simp only [List.getElem?_map]
 by_cases hj : j < n
 ·rw [List.getElem?_range hj]; simp only [Option.map_some]; rw [h j hj, if_neg (fun x => e x.symm)]
 rw [List.getElem?_eq_none (by simpa using hj)]; rfl
theorem qZ (f : cG) (b : Nat) {q : Nat} (h : q < f.bins.length) : fR f b (q + 1) = fR f b q + (nth f.bins q).has * nth (nth f.bins q).shares b := by
 unfold fR
 rw [cE h, List.map_append, List.sum_append]; simp
theorem Fk {f : cG} {k q a : Nat} (hk : k < 4) : nth (nZ f k q a).first k = fR f k q := by
 show nth ((List.range 4).map (lC f k q)) k = _
 rw [dQ _ hk]; simp [lC]
theorem yT {f : cG} (hf : f.iQ) {k q a : Nat} (hk : k < 4) (hq : q < f.bins.length) :
 (fO (nZ f k q a)).set (44 + k) (Ty.int .i64 (fR f k q + (nth f.bins q).has * nth (nth f.bins q).shares k)) = fO (nZ f k (q + 1) a) := by
 rw [Ah (pI hf k q a) hk, ← qZ f k hq]
 have e : (nZ f k q a).first.set k (fR f k (q + 1)) = (nZ f k (q + 1) a).first := qz 4 k (lC f k q) (lC f k (q + 1)) _ fun j _ => by
  unfold lC
  by_cases e : j = k
  ·subst e; simp
  simp [e]
 show fO ⟨f, gQ f, _, (nZ f k q a).first.set k (fR f k (q + 1))⟩ = _
 rw [e]; rfl
theorem AS {f : cG} (hf : f.iQ) {k q a : Nat} (hk : k < 4) (ha : a < f.turnings.length) :
 (fO (nZ f k q a)).set (12 + (a * 4 + k)) (Ty.int .i64 (oM f a k)) = fO (nZ f k q (a + 1)) := by
 have h8 := hf.1
 rw [CU (pI hf k q a) (by omega)]
 have e : (nZ f k q a).adds.set (a * 4 + k) (oM f a k) = (nZ f k q (a + 1)).adds := qz 32 (a * 4 + k) (ym f k a) (ym f k (a + 1)) _ fun j _ => by
  unfold ym
  by_cases e : j = a * 4 + k
  ·subst e
   rw [if_pos rfl, if_pos ⟨by omega, .inr ⟨by omega, by omega⟩⟩, show (a * 4 + k) / 4 = a by omega, show (a * 4 + k) % 4 = k by omega]
  rw [if_neg e]
  by_cases h1 : j / 4 < f.turnings.length ∧ (j % 4 < k ∨ (j % 4 = k ∧ j / 4 < a))
  ·rw [if_pos h1, if_pos (by omega)]
  rw [if_neg h1, if_neg (by omega)]
 unfold nZ at e ⊢
 simp only at e ⊢
 rw [e]
theorem JU (f : cG) (k : Nat) : nZ f k f.bins.length f.turnings.length = nZ f (k + 1) 0 0 := by
 unfold nZ
 congr 1
 ·refine List.map_congr_left fun j _ => ?_
  unfold ym
  by_cases h1 : j / 4 < f.turnings.length ∧ (j % 4 < k ∨ (j % 4 = k ∧ j / 4 < f.turnings.length))
  ·rw [if_pos h1, if_pos (by omega)]
  rw [if_neg h1, if_neg (by omega)]
 refine List.map_congr_left fun j _ => ?_
 unfold lC
 by_cases h1 : j < k
 ·rw [if_pos h1, if_pos (by omega)]
 rw [if_neg h1]
 by_cases h2 : j = k
 ·subst h2; rw [if_pos rfl, if_pos (by omega)]
 rw [if_neg h2, if_neg (by omega)]
 by_cases h3 : j = k + 1
 ·subst h3; rw [if_pos rfl]; simp [fR]
 rw [if_neg h3]
theorem Jz (f : cG) : nZ f 0 0 0 = { f := f, before := gQ f, adds := List.replicate 32 0, first := List.replicate 4 0 } := by
 unfold nZ
 congr 1
 ·refine List.ext_getElem? fun j => ?_
  simp only [List.getElem?_map, List.getElem?_replicate]
  by_cases h : j < 32
  ·rw [List.getElem?_range h, if_pos h]; simp [ym]
  rw [List.getElem?_eq_none (by simpa using h), if_neg h]; rfl
theorem Qi {a c : Int} {A : Int} (ha : 0 ≤ a ∧ a ≤ A) (hc : 0 ≤ c ∧ c ≤ 4) : 0 ≤ a * c ∧ a * c ≤ 4 * A := by
 have : c = 0 ∨ c = 1 ∨ c = 2 ∨ c = 3 ∨ c = 4 := by omega
 rcases this with rfl | rfl | rfl | rfl | rfl <;> omega
theorem QM {a c : Int} {A : Int} (ha : 0 ≤ a ∧ a ≤ A) (hc : -4 ≤ c ∧ c ≤ 4) : -(4 * A) ≤ a * c ∧ a * c ≤ 4 * A := by
 have : c = -4 ∨ c = -3 ∨ c = -2 ∨ c = -1 ∨ c = 0 ∨ c = 1 ∨ c = 2 ∨ c = 3 ∨ c = 4 := by omega
 rcases this with rfl | rfl | rfl | rfl | rfl | rfl | rfl | rfl | rfl <;> omega
theorem lI {f : cG} (hr : f.mD) (b : Nat) : ∀ q, q ≤ f.bins.length → 0 ≤ fR f b q ∧ fR f b q ≤ 1200 * q
  | 0, _ => by simp [fR]
  | q + 1, h => by
    rw [qZ f b h]
    have h1 := lI hr b q (by omega)
    have h2 := Qi (hr.hasR _ (bh h)) (qX hr (b := b) h)
    omega
theorem lJ {f : cG} (hr : f.mD) {i : Int} (hi : -1 ≤ i ∧ i < f.bins.length) (b : Nat) : 0 ≤ gU f i b ∧ gU f i b ≤ 4 := by
 unfold gU
 split
 ·omega
 exact qX hr (by omega)
theorem zD {f : cG} (hr : f.mD) (hn : f.BQ) {t : Nat} (ht : t < f.turnings.length) (b : Nat) : -1200 ≤ oM f t b ∧ oM f t b ≤ 1200 := by
 have h1 := hn _ (bh ht)
 have h2 := lJ hr h1.1 b
 have h3 := lJ hr h1.2 b
 have h4 := hr.sacksR _ (bh ht)
 exact QM (A := 300) (by omega) (by omega)
abbrev SB := { b : IJ // b.wS }
theorem qY {l l' : List Ty} : bl (l ++ l') = bl l ++ bl l' := by simp [bl]
theorem pK {l l' : List Ty} : bL (l ++ l') = bL l ++ bL l' := by simp [bL]
theorem Kn (b : IJ) : bl (fO b) = [] := by unfold fO; rw [qY, qY, qY, El.cW, El.cW, El.cW]; rfl
theorem JH (b : IJ) : bL (fO b) = [] := by unfold fO; rw [pK, pK, pK, El.cC, El.cC, El.cC]; rfl
def iH : El SB := ⟨48, fun b => fO b.1, fun b => No b.2, fun b => Kn b.1, fun b => JH b.1, fun b => by
  rw [List.all_eq_true]
  intro t ht
  unfold fO at ht
  simp only [List.mem_append] at ht
  rcases ht with h | h | h | h
  · simp only [eT, List.mem_cons, List.not_mem_nil, or_false] at h
    rcases h with rfl | rfl | rfl | rfl <;> rfl
  · exact iO _ _ t h
  · exact iO _ _ t h
  · exact iO _ _ t h⟩
def DU (f : cG) (hf : f.iQ) (k q a : Nat) : SB := ⟨nZ f k q a, pI hf k q a⟩
def RJ (f : cG) (hf : f.iQ) : SB := DU f hf f.bears.length 0 0
theorem AU {f : cG} {hf : f.iQ} {k q a : Nat} (hk : k < 4) : (iH.tys (DU f hf k q a))[0 + 44 + k * 1]? = some (Ty.int .i64 (fR f k q)) := by
 rw [show 0 + 44 + k * 1 = 44 + k by omega]
 exact (Bh (pI hf k q a) hk).trans (by rw [Fk hk])
theorem Co {f : cG} {hf : f.iQ} {k q a : Nat} (hk : k < 4) (hq : q < f.bins.length) :
 (iH.tys (DU f hf k q a)).set (0 + 44 + k * 1) (Ty.int .i64 (fR f k q + (nth f.bins q).has * nth (nth f.bins q).shares k)) = iH.tys (DU f hf k (q + 1) a) := by
 rw [show 0 + 44 + k * 1 = 44 + k by omega]
 exact yT hf hk hq
theorem Dw {f : cG} {hf : f.iQ} {k q a : Nat} (hk : k < 4) (ha : a < f.turnings.length) :
 (iH.tys (DU f hf k q a)).set (0 + 12 + a * 4 + k * 1) (Ty.int .i64 (oM f a k)) = iH.tys (DU f hf k q (a + 1)) := by
 rw [show 0 + 12 + a * 4 + k * 1 = 12 + (a * 4 + k) by omega]
 exact AS hf hk ha
theorem Oe (f : cG) (hf : f.iQ) (k : Nat) : DU f hf k f.bins.length f.turnings.length = DU f hf (k + 1) 0 0 := Subtype.ext (JU f k)
theorem Rb {α : Type} {l : List α} (h : l.length = 8) : ∃ a b c d e f g i, l = [a, b, c, d, e, f, g, i] := by
  match l, h with
  | [a, b, c, d, e, f, g, i], _ => exact ⟨a, b, c, d, e, f, g, i, rfl⟩
theorem Ki (f : cG) (hf : f.iQ) (place : Nat → Option (Nat × Nat)) (h0 : place 0 = some (0, 4)) (h1 : place 1 = some (4, 8)) :
 qj place ((List.replicate 4 (Ty.ex (.slice none 0 0))) ++ List.replicate 44 (Ty.int .i64 0)) [(0, eT f), (1, (gQ f).flatMap xS.tys)] = some (iH.tys (DU f hf 0 0 0)) := by
 have hl : ((gQ f).flatMap xS.tys).length = 8 := by rw [CS, List.length_map, (kC hf).len]
 have e : iH.tys (DU f hf 0 0 0) = eT f ++ ((gQ f).flatMap xS.tys ++ (List.replicate 36 (Ty.int .i64 0))) := by
  show fO (nZ f 0 0 0) = _
  rw [Jz]; rfl
 rw [e]
 obtain ⟨a, b, c, d, x, y, g, i, h⟩ := Rb hl
 rw [h]
 simp only [qj, h0, h1]
 rfl
end Go.Proofs.YtmmcenjknimhbaaGreat
namespace Go.Proofs.YtmmcenjknimhbaaGreat
open Go Go.T
structure GV (b : SB) : Prop where
  nb1 : 1 ≤ b.1.f.bears.length
  nb : b.1.f.bears.length ≤ 4
  nt : b.1.f.turnings.length ≤ 8
  bears : ∀ k, 0 ≤ nth b.1.f.bears k ∧ nth b.1.f.bears k ≤ 4000
  before : ∀ k, nth b.1.before k < 256
  adds : ∀ k, -1200 ≤ nth b.1.adds k ∧ nth b.1.adds k ≤ 1200
  first : ∀ k, 0 ≤ nth b.1.first k ∧ nth b.1.first k ≤ 7200
theorem EL {α : Type} [Inhabited α] {l : List α} {k : Nat} (h : l.length ≤ k) : nth l k = default := by
 show l.getD k default = default
 rw [List.getD_eq_getElem?_getD, List.getElem?_eq_none h]; rfl
theorem OW {f : cG} (h : f.dD) : GV (RJ f h.ruled) := by
 have hr := h.ranged
 have h4 := hr.bears
 have h6 := hr.bins
 refine ⟨hr.bears1, hr.bears, hr.turnings, fun k => F1 hr k, fun k => (kC h.ruled).nth k, fun k => ?_, fun k => ?_⟩
 ·show -1200 ≤ nth ((List.range 32).map (ym f f.bears.length 0)) k ∧ nth ((List.range 32).map (ym f f.bears.length 0)) k ≤ 1200
  rcases Nat.lt_or_ge k 32 with hk | hk
  ·rw [dQ _ hk]
   unfold ym
   split
   ·rename_i hc; exact zD hr h.named hc.1 _
   omega
  rw [DJ (by simpa using hk)]; omega
 show 0 ≤ nth ((List.range 4).map (lC f f.bears.length 0)) k ∧ nth ((List.range 4).map (lC f f.bears.length 0)) k ≤ 7200
 rcases Nat.lt_or_ge k 4 with hk | hk
 ·rw [dQ _ hk]
  unfold lC
  split
  ·have := lI hr k f.bins.length (Nat.le_refl _); omega
  split
  ·have := lI hr f.bears.length 0 (Nat.zero_le _); omega
  omega
 rw [DJ (by simpa using hk)]; omega
def loadAt (b : SB) (ms : List Int) (i : Nat) : Int := nth b.1.first i + (ms.map fun t => nth b.1.adds (t.toNat * 4 + i)).sum
def gl (b : SB) (s : Nat) : List Int := (List.range 4).map (loadAt b (cB s))
def nA (b : SB) (ms : List Int) (k j : Nat) : List Int := (List.range 4).map fun i => if i < j then loadAt b (ms.take (k + 1)) i else loadAt b (ms.take k) i
theorem E4 (b : SB) {ms : List Int} {k : Nat} (h : k < ms.length) (i : Nat) : loadAt b (ms.take (k + 1)) i = loadAt b (ms.take k) i + nth b.1.adds ((nth ms k).toNat * 4 + i) := by
 unfold loadAt
 rw [cE h, List.map_append, List.sum_append]; simp; omega
theorem Cg {b : SB} (h : GV b) (ms : List Int) (i : Nat) : -(1200 * ms.length) ≤ loadAt b ms i ∧ loadAt b ms i ≤ 7200 + 1200 * ms.length := by
 have h1 := h.first i
 have h2 := wA (l := ms.map fun t => nth b.1.adds (t.toNat * 4 + i)) (lo := -1200) (hi := 1200) fun n hn => by
  obtain ⟨t, _, rfl⟩ := List.mem_map.1 hn
  exact h.adds _
 rw [List.length_map] at h2
 unfold loadAt; omega
theorem DY (s : Nat) : (cB s).length ≤ 8 := zS s 8
theorem kE (b : SB) (ms : List Int) (k j : Nat) : (nA b ms k j).length = 4 := by simp [nA]
theorem CD (b : SB) (ms : List Int) (k : Nat) {j : Nat} (h : j < 4) : nth (nA b ms k j) j = loadAt b (ms.take k) j := by
 rw [nA, dQ _ h]; simp
theorem KD (b : SB) {ms : List Int} {k j : Nat} (hk : k < ms.length) (hj : j < 4) : (nA b ms k j).set j (nth (nA b ms k j) j + nth b.1.adds ((nth ms k).toNat * 4 + j)) = nA b ms k (j + 1) := by
 rw [CD b ms k hj, ← E4 b hk]
 exact qz 4 j (fun i => if i < j then loadAt b (ms.take (k + 1)) i else loadAt b (ms.take k) i) (fun i => if i < j + 1 then loadAt b (ms.take (k + 1)) i else loadAt b (ms.take k) i) _ fun i _ => by
  by_cases e : i = j
  ·subst e; simp
  by_cases h1 : i < j
  ·rw [if_pos (by omega), if_neg e, if_pos h1]
  rw [if_neg (by omega), if_neg e, if_neg h1]
theorem GG (b : SB) (ms : List Int) (k : Nat) : nA b ms k 4 = nA b ms (k + 1) 0 := List.map_congr_left fun i hi => by
 have := List.mem_range.1 hi
 rw [if_pos this, if_neg (by omega)]
theorem Fh (b : SB) (ms : List Int) : b.1.first = nA b ms 0 0 := by
 apply List.ext_getElem?
 intro i
 have h4 := b.2.first
 by_cases h : i < 4
 ·rw [List.getElem?_eq_getElem (by omega), nA, List.getElem?_map, List.getElem?_range h]
  simp only [Option.map_some, Nat.not_lt_zero, if_false]
  simp [loadAt, cL (show i < b.1.first.length by omega)]
 rw [List.getElem?_eq_none (by omega), List.getElem?_eq_none (by rw [kE]; omega)]
theorem I1 (b : SB) (s k : Nat) (h : (cB s).length ≤ k) : nA b (cB s) k 0 = gl b s := List.map_congr_left fun i _ => by
 rw [if_neg (by omega), List.take_of_length_le h]
theorem q9 (b : SB) (s : Nat) : (gl b s).length = 4 := by simp [gl]
theorem u9 (b : SB) (s : Nat) {i : Nat} (h : i < 4) : nth (gl b s) i = loadAt b (cB s) i := dQ _ h
def HU (b : SB) (l : List Int) : Int := MP b.1.f l b.1.f.bears.length (nth b.1.f.bears 0 - nth l 0)
def eR (b : SB) (s : Nat) : Bool := (cB s).all fun t => decide (ij (nth b.1.before t.toNat) s = 0)
theorem zY {s : Nat} : ∀ t ∈ cB s, 0 ≤ t ∧ t < 8 := by
 intro t ht
 obtain ⟨i, hi, rfl⟩ := List.mem_map.1 ht
 have := List.mem_range.1 (List.mem_filter.1 hi).1
 omega
def gh (b : SB) (k : Nat) : List Nat := (List.range k).filter (eR b)
def jV (b : SB) : List Nat := gh b (1 <<< b.1.f.turnings.length)
theorem sN {b : SB} {k : Nat} (h : eR b k = true) : gh b (k + 1) = gh b k ++ [k] := by simp [gh, List.range_succ, List.filter_append, h]
theorem Ba {b : SB} {k : Nat} (h : eR b k = false) : gh b (k + 1) = gh b k := by simp [gh, List.range_succ, List.filter_append, h]
theorem yU {b : SB} {k m : Nat} (hk : k < m) (h : eR b k = true) : nth (gh b m) (gh b k).length = k ∧ (gh b k).length < (gh b m).length := by
  have : ∀ m, k + 1 ≤ m → ∃ r, gh b m = (gh b k ++ [k]) ++ r := by
    intro m hm
    induction m with
    | zero => omega
    | succ m ih =>
      rcases Nat.lt_or_ge m (k + 1) with h1 | h1
      · rw [show m + 1 = k + 1 by omega]; exact ⟨[], by rw [sN h, List.append_nil]⟩
      · obtain ⟨r, hr⟩ := ih h1
        cases hw : eR b m with
        | true => exact ⟨r ++ [m], by rw [sN hw, hr, List.append_assoc]⟩
        | false => exact ⟨r, by rw [Ba hw, hr]⟩
  obtain ⟨r, hr⟩ := this m hk
  refine ⟨?_, ?_⟩
  · rw [hr, cL (by simp)]; simp
  · rw [hr]; simp
theorem xp (n : Nat) : 1 <<< n = 2 ^ n := by rw [Nat.shiftLeft_eq, Nat.one_mul]
theorem M7 {n : Nat} (h : n ≤ 8) : 1 <<< n ≤ 256 ∧ 1 ≤ 1 <<< n := by
 rw [xp]
 exact ⟨Nat.pow_le_pow_right (n := 2) (by omega) h, Nat.one_le_two_pow⟩
def tD (b : SB) (bay : Nat) (st : Int × Int) (s : Nat) : Int × Int := if nth (gl b s) bay > st.2 then ((s : Int), nth (gl b s) bay) else st
def fj (b : SB) (bay k : Nat) : Int × Int := ((jV b).take k).foldl (tD b bay) (0, nth b.1.first bay)
def qd (b : SB) (bay : Nat) : Int × Int := (jV b).foldl (tD b bay) (0, nth b.1.first bay)
theorem lV {b : SB} {bay k : Nat} (h : k < (jV b).length) : fj b bay (k + 1) = tD b bay (fj b bay k) (nth (jV b) k) := by
 unfold fj; rw [cE h, List.foldl_append]; rfl
abbrev KV := List (Int × Int)
def mg (m : KV) (k : Int) : Int := (bU m k).getD 0
def pop (s : Nat) : Nat := (cB s).length
theorem HF : ((List.range 256).all fun s => (List.range 8).all fun t => s.testBit t || (pop (s ||| 1 <<< t) == pop s + 1 && Nat.blt (s ||| 1 <<< t) 256)) = true := by decide +kernel
theorem Mf {s t : Nat} (hs : s < 256) (ht : t < 8) (h : s.testBit t = false) : pop (s ||| 1 <<< t) = pop s + 1 ∧ (s ||| 1 <<< t) < 256 := by
 have h1 := List.all_eq_true.1 (List.all_eq_true.1 HF s (List.mem_range.2 hs)) t (List.mem_range.2 ht)
 rw [h, Bool.false_or, Bool.and_eq_true, beq_iff_eq, Nat.blt_eq] at h1
 exact h1
def Small (m : KV) : Prop := ∀ s : Nat, s < 256 → 0 ≤ mg m s ∧ mg m s ≤ 8 ^ (8 - pop s)
structure Clean (n k : Nat) (m : KV) : Prop where
  small : ∀ s : Nat, s < 256 → 0 ≤ mg m s ∧ mg m s ≤ 8 ^ (8 - pop s)
  zero : ∀ s : Nat, s + k < n → mg m s = 0
end Go.Proofs.YtmmcenjknimhbaaGreat
namespace Go.Proofs.YtmmcenjknimhbaaGreat
open Go Go.T
def SI (f : cG) : SB := ⟨{ f := f, before := List.replicate 8 0, adds := List.replicate 32 0, first := List.replicate 4 0 }, ⟨rfl, rfl, rfl⟩⟩
def bO (f : cG) : SB := if h : cA f = 0 then RJ f (cK h).ruled else SI f
theorem kV {f : cG} (h : cA f = 0) : bO f = RJ f (cK h).ruled := dif_pos h
theorem nV {f : cG} (h : cA f = 0) : GV (bO f) := by rw [kV h]; exact OW (cK h)
theorem AH (f : cG) : (bO f).1.f = f := by
 unfold bO; split <;> rfl
theorem yg {f : cG} {b : Bool} (h : gM f b = 0) : cA f = 0 ∧ b = false := by
 unfold gM at h
 split at h
 ·exact absurd h ‹_›
 split at h
 ·cases h
 rename_i h1 h2
 exact ⟨Classical.byContradiction fun e => h1 e, Bool.eq_false_iff.2 h2⟩
def pz (f : cG) (bay : Int) : Int × Int :=
  if gM f (!fG bay 0 (f.bears.length - 1)) ≠ 0 then (0, gM f (!fG bay 0 (f.bears.length - 1))) else ((qd (bO f) bay.toNat).2, 0)
end Go.Proofs.YtmmcenjknimhbaaGreat
namespace Go.Proofs.YtmmcenjknimhbaaGreat
open Go Go.T
def zu (b : SB) (bay j : Nat) : Int := nth b.1.adds (j * 4 + bay)
structure RL where
  adds : List Int
  less : List Int
  bound : Int
structure RL.GV (st : RL) (k : Nat) : Prop where
  la : st.adds.length = 8
  ll : st.less.length = 8
  adds : ∀ j, 0 ≤ nth st.adds j ∧ nth st.adds j ≤ 1200
  less : ∀ j, 0 ≤ nth st.less j ∧ nth st.less j ≤ 1200
  bound : -(1200 * k) ≤ st.bound ∧ st.bound ≤ 20000
theorem jJ {l : List Int} {i : Nat} (v : Int) (j : Nat) : nth (l.set i v) j = if i = j ∧ i < l.length then v else nth l j := by
 show (l.set i v).getD j default = _
 rw [List.getD_eq_getElem?_getD, List.getElem?_set]
 by_cases e : i = j
 ·subst e
  by_cases h : i < l.length
  ·simp [h]
  rw [if_pos rfl, if_neg h, if_neg (by simp [h]), EL (by omega)]; rfl
 rw [if_neg e, if_neg (by simp [e])]
 show _ = l.getD j default
 rw [List.getD_eq_getElem?_getD]
theorem NA {s t n : Nat} (hs : s < 2 ^ n) (ht : t < n) : s ||| 1 <<< t < 2 ^ n := Nat.or_lt_two_pow hs (by rw [xp]; exact Nat.pow_lt_pow_right (by omega) ht)
theorem DR : ((List.range 9).all fun n => pop (2 ^ n - 1) == n) = true := by decide +kernel
theorem Lb {n : Nat} (h : n ≤ 8) : pop (2 ^ n - 1) = n := by
 have := List.all_eq_true.1 DR n (List.mem_range.2 (by omega))
 simpa using this
theorem zH {n s : Nat} (h : n ≤ 8) (hs : s < 2 ^ n) : s < 256 := Nat.lt_of_lt_of_le hs (Nat.pow_le_pow_right (n := 2) (by omega) h)
structure RO where
  best : KV
  next : KV
  found : Bool
def Qq (b : SB) (own : Int) (s : Nat) (st : RO) (t : Nat) : RO :=
  if s.testBit t || !eR b (s ||| 1 <<< t) then st
  else if !st.found || decide (min own (mg st.best ((s ||| 1 <<< t : Nat) : Int)) > mg st.best s) then ⟨cz st.best s (min own (mg st.best ((s ||| 1 <<< t : Nat) : Int))), cz st.next s t, true⟩
  else st
def LL (b : SB) (s : Nat) (m n : KV) (j : Nat) : RO := (List.range j).foldl (Qq b (HU b (gl b s)) s) ⟨cz m s (HU b (gl b s)), n, false⟩
def Q1 (b : SB) (s : Nat) (x : KV × KV) : KV × KV := if !eR b s then x else ((LL b s x.1 x.2 b.1.f.turnings.length).best, (LL b s x.1 x.2 b.1.f.turnings.length).next)
def LO (b : SB) (n : Nat) : Nat → KV × KV
  | 0 => ([], [])
  | k + 1 => Q1 b (n - (k + 1)) (LO b n k)
def PA (b : SB) : KV × KV := LO b (1 <<< b.1.f.turnings.length) (1 <<< b.1.f.turnings.length)
def Lr (next : KV) : Nat → List Int × Nat
  | 0 => ([], 0)
  | i + 1 => let st := Lr next i; (st.1 ++ [mg next st.2], st.2 ||| 1 <<< (mg next st.2).toNat)
def Hz (f : cG) : List Int × Int × Int :=
  if gM f false ≠ 0 then ([], 0, gM f false) else ((Lr (PA (bO f)).2 f.turnings.length).1, mg (PA (bO f)).1 0, 0)
end Go.Proofs.YtmmcenjknimhbaaGreat
namespace Go.Proofs.YtmmcenjknimhbaaGreat
open Go Go.T
inductive lS (rules : List jq) : Int → Int → Prop
  | one {r : jq} : r ∈ rules → lS rules r.fst r.nxt
  | step {r : jq} {a : Int} : r ∈ rules → lS rules a r.fst → lS rules a r.nxt
theorem lS.trans {rules : List jq} {a b c : Int} (h1 : lS rules a b) (h2 : lS rules b c) : lS rules a c := by
  induction h2 with
  | one hr => exact .step hr h1
  | step hr _ ih => exact .step hr (ih h1)
theorem wh {rules : List jq} : ∀ (n : Nat) (t : Int) (kn : List Int), ∀ x ∈ gP rules n t kn, x ∈ kn ∨ lS rules x t
  | 0, _, _, _, h => .inl h
  | n + 1, t, kn, x, h => by
    have : ∀ (l : List jq), (∀ r ∈ l, r ∈ rules) → ∀ kn, x ∈ l.foldl (jU (gP rules n) t) kn → x ∈ kn ∨ lS rules x t := by
      intro l
      induction l with
      | nil => intro _ kn h; exact .inl h
      | cons r l ih =>
        intro hl kn h
        rcases ih (fun r hr => hl r (List.mem_cons_of_mem _ hr)) _ h with h | h
        · unfold jU at h
          split at h
          · rename_i hc
            have hr := hl r List.mem_cons_self
            rcases wh n r.fst (kn ++ [r.fst]) x h with h | h
            · rcases List.mem_append.1 h with h | h
              · exact .inl h
              · rw [List.mem_singleton.1 h, ← hc.1]; exact .inr (.one hr)
            · rw [← hc.1]; exact .inr (.step hr h)
          · exact .inl h
        · exact .inr h
    exact this rules (fun _ h => h) kn h
def HG (rules : List jq) (l : List Int) (x : Int) : Prop := ∀ r ∈ rules, r.nxt = x → r.fst ∈ l
theorem uF {rules : List jq} : ∀ (n : Nat) (t : Int) (kn : List Int), LQ rules kn < n →
    HG rules (gP rules n t kn) t ∧ ∀ x ∈ gP rules n t kn, x ∈ kn ∨ HG rules (gP rules n t kn) x
  | 0, _, _, h => by omega
  | n + 1, t, kn, hn => by
    have : ∀ (l : List jq), (∀ r ∈ l, r ∈ rules) → ∀ kn, LQ rules kn < n + 1 →
        (∀ r ∈ l, r.nxt = t → r.fst ∈ l.foldl (jU (gP rules n) t) kn) ∧ ∀ x ∈ l.foldl (jU (gP rules n) t) kn, x ∈ kn ∨ HG rules (l.foldl (jU (gP rules n) t) kn) x := by
      intro l
      induction l with
      | nil => intro _ kn _; exact ⟨fun _ h => (List.not_mem_nil h).elim, fun x h => .inl h⟩
      | cons r l ih =>
        intro hl kn hk
        have hr := hl r List.mem_cons_self
        have hl' : ∀ r ∈ l, r ∈ rules := fun r hr => hl r (List.mem_cons_of_mem _ hr)
        rw [List.foldl_cons]
        have hgr : xP rules kn (jU (gP rules n) t kn r) := by
          unfold jU; split
          · rename_i hc; exact (Dh hr hc.2).trans (pQ rules n _ _)
          · exact .refl _ _
        have hk' : LQ rules (jU (gP rules n) t kn r) < n + 1 := Nat.lt_of_le_of_lt (Dg hgr.1) hk
        obtain ⟨i1, i2⟩ := ih hl' _ hk'
        have hgf := vA (rules := rules) (rec := gP rules n) (t := t) (fun t kn => pQ rules n t kn) l hl' (jU (gP rules n) t kn r)
        have hmono : ∀ x ∈ jU (gP rules n) t kn r, x ∈ l.foldl (jU (gP rules n) t) (jU (gP rules n) t kn r) := hgf.1
        refine ⟨fun q hq hqt => ?_, fun x hx => ?_⟩
        · rcases List.mem_cons.1 hq with rfl | hq
          · refine hmono _ ?_
            unfold jU
            by_cases hc : q.nxt = t ∧ q.fst ∉ kn
            · rw [if_pos hc]; exact (pQ rules n _ _).1 _ (by simp)
            · rw [if_neg hc]; exact Classical.byContradiction fun h => hc ⟨hqt, h⟩
          · exact i1 q hq hqt
        · rcases i2 x hx with h | h
          · unfold jU at h
            split at h
            · rename_i hc
              have hu := Hi hr hc.2
              obtain ⟨c1, c2⟩ := uF (rules := rules) n r.fst (kn ++ [r.fst]) (by omega)
              have e : jU (gP rules n) t kn r = gP rules n r.fst (kn ++ [r.fst]) := by unfold jU; rw [if_pos hc]
              rcases c2 x h with h | h
              · rcases List.mem_append.1 h with h | h
                · exact .inl h
                · rw [List.mem_singleton.1 h]
                  exact .inr fun q hq hqt => hmono _ (by rw [e]; exact c1 q hq hqt)
              · exact .inr fun q hq hqt => hmono _ (by rw [e]; exact h q hq hqt)
            · exact .inl h
          · exact .inr h
    obtain ⟨h1, h2⟩ := this rules (fun _ h => h) kn hn
    exact ⟨h1, h2⟩
theorem Ck {f : cG} {a t : Int} : a ∈ uf f t ↔ lS f.rules a t := by
  constructor
  · intro h
    rcases wh _ _ _ a h with h | h
    · cases h
    · exact h
  · intro h
    obtain ⟨c1, c2⟩ := uF (f.rules.length + 1) t [] (Nat.lt_succ_of_le (PO f.rules []))
    have : ∀ {a y : Int}, lS f.rules a y → (y = t ∨ y ∈ uf f t) → a ∈ uf f t := by
      intro a y hl
      induction hl with
      | @one r hr =>
        rintro (e | hy)
        · exact c1 _ hr e
        · rcases c2 _ hy with h | h
          · cases h
          · exact h _ hr rfl
      | @step r a hr _ ih =>
        intro hy
        refine ih (.inr ?_)
        rcases hy with e | hy
        · exact c1 _ hr e
        · rcases c2 _ hy with h | h
          · cases h
          · exact h _ hr rfl
    exact this h (.inl rfl)
theorem jC {f : cG} {a t : Int} : a ∈ hH f t ↔ (0 ≤ a ∧ a < f.turnings.length) ∧ lS f.rules a t := by
 unfold hH
 rw [List.mem_filter, gK, decide_eq_true_eq, Ck]
theorem k7 {i j : Nat} : (1 <<< i).testBit j = decide (i = j) := by
 rw [Nat.shiftLeft_eq, Nat.one_mul, Nat.testBit_two_pow]
theorem p9 {l : List Nat} {i : Nat} (v : Nat) (j : Nat) : nth (l.set i v) j = if i = j ∧ i < l.length then v else nth l j := by
 show (l.set i v).getD j default = _
 rw [List.getD_eq_getElem?_getD, List.getElem?_set]
 by_cases e : i = j
 ·subst e
  by_cases h : i < l.length
  ·simp [h]
  rw [if_pos rfl, if_neg h, if_neg (by simp [h]), EL (by omega)]; rfl
 rw [if_neg e, if_neg (by simp [e])]
 show _ = l.getD j default
 rw [List.getD_eq_getElem?_getD]
def J6 (f : cG) (out : List Nat) : Prop := ∀ t a : Nat, (nth out t).testBit a = true → lS f.rules a t
theorem JF {f : cG} (hf : f.iQ) {out : List Nat} (h : J6 f out) {r : jq} (hr : r ∈ f.rules) : J6 f (fE out r) := by
 intro t a hb
 have h0 := hf.2 r hr
 unfold fE at hb
 rw [p9] at hb
 split at hb
 ·rename_i e
  have e1 : ((t : Nat) : Int) = r.nxt := by omega
  rw [Nat.testBit_or, Nat.testBit_or, k7, Bool.or_eq_true, Bool.or_eq_true, decide_eq_true_eq] at hb
  rcases hb with hb | hb | hb
  ·have := h _ _ hb; rwa [show ((r.nxt.toNat : Nat) : Int) = t by omega] at this
  ·have := h _ _ hb
   rw [show ((r.fst.toNat : Nat) : Int) = r.fst by omega] at this
   rw [e1]; exact .step hr this
  rw [e1, show (a : Int) = r.fst by omega]; exact .one hr
 exact h _ _ hb
theorem CG {f : cG} (hf : f.iQ) : ∀ (l : List jq), (∀ r ∈ l, r ∈ f.rules) → ∀ out, J6 f out → J6 f (l.foldl fE out)
  | [], _, _, h => h
  | r :: l, hl, out, h => CG hf l (fun r hr => hl r (List.mem_cons_of_mem _ hr)) _ (JF hf h (hl r List.mem_cons_self))
theorem B4 {f : cG} (hf : f.iQ) : ∀ n out, J6 f out → J6 f (lD f n out)
  | 0, _, h => h
  | n + 1, out, h => by
    rw [lD]; split
    · exact h
    · exact B4 hf n _ (CG hf f.rules (fun _ h => h) out h)
theorem Dm {f : cG} (hf : f.iQ) : ∀ n out, Sets out → 2040 < n + out.sum → k9 f (lD f n out) = lD f n out
  | 0, out, h, hn => by have := tY h; omega
  | n + 1, out, h, hn => by
    rw [lD]; split
    · assumption
    · rename_i hne
      obtain ⟨m, e, _, h2, h3⟩ := BV hf h hn hne
      have : m = n := by omega
      subst this
      exact Dm hf _ _ h2 h3
theorem Ed : ∀ (l : List jq) (out : List Nat), Sets out → (∀ r ∈ l, r.fst.toNat < 8 ∧ r.nxt.toNat < 8) → l.foldl fE out = out → ∀ r ∈ l, fE out r = out
  | [], _, _, _, _, _, h => by cases h
  | r :: l, out, h, hl, he, q, hq => by
    have hr := hl r List.mem_cons_self
    obtain ⟨a1, a2⟩ := B7 h hr.2
    obtain ⟨_, b2, _⟩ := lg l (fE out r) (Bm h hr.1) fun x hx => hl x (List.mem_cons_of_mem _ hx)
    rw [List.foldl_cons] at he
    have e1 : fE out r = out := a2 (by rw [he] at b2; omega)
    rcases List.mem_cons.1 hq with rfl | hq
    · exact e1
    · rw [e1] at he
      exact Ed l out h (fun x hx => hl x (List.mem_cons_of_mem _ hx)) he q hq
theorem tK {f : cG} (hf : f.iQ) {a t : Int} (h : lS f.rules a t) : (0 ≤ a ∧ a < f.turnings.length) ∧ (0 ≤ t ∧ t < f.turnings.length) := by
  induction h with
  | one hr => exact hf.2 _ hr
  | step hr _ ih => exact ⟨ih.1, (hf.2 _ hr).2⟩
theorem nx {f : cG} (hf : f.iQ) (t a : Nat) : (nth (gQ f) t).testBit a = true ↔ lS f.rules a t := by
  constructor
  · refine B4 hf _ _ (fun t a hb => ?_) t a
    have h0 : nth (List.replicate 8 0) t = 0 := by
      show (List.replicate 8 0).getD t default = 0
      rw [List.getD_eq_getElem?_getD, List.getElem?_replicate]; split <;> rfl
    rw [h0, Nat.zero_testBit] at hb; cases hb
  · have hs := kC hf
    have hfix : k9 f (gQ f) = gQ f := Dm hf _ _ sw (by decide)
    have hstep := Ed f.rules (gQ f) hs (sV hf) hfix
    have key : ∀ {a t : Int}, lS f.rules a t → (nth (gQ f) t.toNat).testBit a.toNat = true := by
      intro a t hl
      induction hl with
      | @one r hr =>
        have h8 := sV hf r hr
        have e := congrArg (fun l => nth l r.nxt.toNat) (hstep r hr)
        simp only [fE] at e
        rw [p9, if_pos ⟨rfl, by rw [hs.len]; exact h8.2⟩] at e
        rw [← e, Nat.testBit_or, Nat.testBit_or, k7]; simp
      | @step r a hr _ ih =>
        have h8 := sV hf r hr
        have e := congrArg (fun l => nth l r.nxt.toNat) (hstep r hr)
        simp only [fE] at e
        rw [p9, if_pos ⟨rfl, by rw [hs.len]; exact h8.2⟩] at e
        rw [← e, Nat.testBit_or, Nat.testBit_or, ih]; simp
    intro h
    simpa using key h
theorem KO {f : cG} (hf : f.iQ) : vB f = (xy f.turnings.length).any fun t => decide (t ∈ hH f t) := by
 rw [Bool.eq_iff_iff, vB, List.any_eq_true, List.any_eq_true]
 constructor
 ·rintro ⟨t, ht, hb⟩
  have hl := (nx hf t t).1 hb
  have hn := tK hf hl
  exact ⟨(t : Int), gK.2 hn.1, by rw [decide_eq_true_eq, jC]; exact ⟨hn.1, hl⟩⟩
 rintro ⟨t, ht, hb⟩
 rw [decide_eq_true_eq, jC] at hb
 obtain ⟨n, rfl⟩ := Int.eq_ofNat_of_zero_le hb.1.1
 have := hf.1
 exact ⟨n, List.mem_range.2 (by omega), (nx hf n n).2 hb.2⟩
theorem iU {α : Type} (q p : α → Bool) (l : List α) (h : ∀ x, q x = !p x) : (!l.all q) = l.any p := by
 rw [List.all_eq_not_any_not, Bool.not_not]
 congr 1
 funext x; rw [h, Bool.not_not]
theorem jd (n lo hi : Int) : fG n lo hi = !dr n lo hi := by
 rw [fG, dr, Bool.eq_iff_iff]
 simp only [Bool.and_eq_true, decide_eq_true_eq, Bool.not_eq_true', Bool.or_eq_false_iff, decide_eq_false_iff_not]
 omega
theorem On {α : Type} [Inhabited α] (p : α → Bool) (l : List α) : ((xy l.length).any fun i => p (nth l i.toNat)) = l.any p := by
 rw [Bool.eq_iff_iff, List.any_eq_true, List.any_eq_true]
 constructor
 ·rintro ⟨x, hx, h⟩
  have := gK.1 hx
  exact ⟨_, bh (by omega), h⟩
 rintro ⟨x, hx, h⟩
 obtain ⟨i, hi, rfl⟩ := List.getElem_of_mem hx
 exact ⟨(i : Int), gK.2 ⟨by omega, by omega⟩, by rw [show ((i : Int)).toNat = i from rfl, cL hi]; exact h⟩
theorem OD {α : Type} (p q : α → Bool) (l : List α) : (l.any fun x => p x || q x) = (l.any p || l.any q) := by
  induction l with
  | nil => rfl
  | cons x l ih => simp only [List.any_cons, ih]; cases p x <;> cases q x <;> simp
theorem lp (f : cG) : cA f = gO f := by
 have e1 : kF f = (f.many || f.bins.any fun b => !decide ((b.shares.length : Int) = f.bears.length)) := by
  rw [kF, cG.many, jd, Bool.not_not, iU _ (fun b : p5 => !decide ((b.shares.length : Int) = f.bears.length)) _ (fun _ => by rw [Bool.not_not])]
 have e2 : lA f = ((f.bears.any fun n => dr n 0 4000) || f.turnings.any fun t => dr t.sacks 1 300) := by
  rw [lA, iU _ (fun n => dr n 0 4000) _ (fun _ => jd _ _ _), iU _ (fun t : tO => dr t.sacks 1 300) _ (fun _ => jd _ _ _)]
 have e3 : mV f = f.bins.any fun b => dr b.has 0 300 || b.shares.any fun n => dr n 0 4 := by
  rw [mV, iU _ (fun b : p5 => dr b.has 0 300 || b.shares.any fun n => dr n 0 4) _ fun b : p5 => by rw [Bool.not_or, jd, ← iU (fun n => fG n 0 4) (fun n => dr n 0 4) b.shares (fun _ => jd _ _ _), Bool.not_not]]
 have e4 : oO f = ((f.turnings.any fun t => dr t.src (-1) (f.bins.length - 1) || dr t.dst (-1) (f.bins.length - 1)) || f.rules.any fun r => dr r.fst 0 (f.turnings.length - 1) || dr r.nxt 0 (f.turnings.length - 1)) := by
  rw [oO, iU _ (fun t : tO => dr t.src (-1) (f.bins.length - 1) || dr t.dst (-1) (f.bins.length - 1)) _ (fun _ => by rw [Bool.not_or, jd, jd]), iU _ (fun r : jq => dr r.fst 0 (f.turnings.length - 1) || dr r.nxt 0 (f.turnings.length - 1)) _ (fun _ => by rw [Bool.not_or, jd, jd])]
 have e5 : sU f = f.turnings.any fun t => decide (t.src = t.dst) := by rw [sU, iU _ _ _ fun _ => rfl]
 have e6 : (qP f || wE f) = (xy f.bins.length).any fun i => f.nS i.toNat (f.bins.getD i.toNat default) := by
  have h6 : qP f = (xy f.bins.length).any fun i => !decide ((nth f.bins i.toNat).shares.sum = 4) := by
   rw [qP, iU _ (fun b : p5 => !decide (b.shares.sum = 4)) _ (fun _ => by rw [Bool.not_not]), On (fun b : p5 => !decide (b.shares.sum = 4))]
  rw [h6, wE, ← OD, Bool.eq_iff_iff, List.any_eq_true, List.any_eq_true]
  have : ∀ i ∈ xy f.bins.length, f.nS i.toNat (f.bins.getD i.toNat default) = (!decide ((nth f.bins i.toNat).shares.sum = 4) || decide (j5 f f.turnings i > (nth f.bins i.toNat).has)) := fun i hi => by
   have := gK.1 hi
   rw [cG.nS, show ((i.toNat : Nat) : Int) = i by omega]; rfl
  exact ⟨fun ⟨i, hi, h⟩ => ⟨i, hi, by rw [this i hi]; exact h⟩, fun ⟨i, hi, h⟩ => ⟨i, hi, by rw [← this i hi]; exact h⟩⟩
 have e7 : hO f = 0 → vB f = (xy f.turnings.length).any fun t => decide (t ∈ hH f t) := fun h => KO (qL h).ruled
 rw [cA, gO, xW]
 rw [← e6]
 unfold hO at e7 ⊢
 rw [e1, e2, e3, e4, e5] at e7 ⊢
 revert e7
 generalize (f.bins.any fun b => !decide ((b.shares.length : Int) = f.bears.length)) = b2
 generalize f.many = b1
 generalize (f.bears.any fun n => dr n 0 4000) = b3
 generalize (f.turnings.any fun t => dr t.sacks 1 300) = b5
 generalize (f.bins.any fun b => dr b.has 0 300 || b.shares.any fun n => dr n 0 4) = b4
 generalize (f.turnings.any fun t => dr t.src (-1) (f.bins.length - 1) || dr t.dst (-1) (f.bins.length - 1)) = c1
 generalize (f.rules.any fun r => dr r.fst 0 (f.turnings.length - 1) || dr r.nxt 0 (f.turnings.length - 1)) = c2
 generalize (f.turnings.any fun t => decide (t.src = t.dst)) = c3
 generalize qP f = c4
 generalize wE f = c5
 generalize vB f = d1
 generalize ((xy f.turnings.length).any fun t => decide (t ∈ hH f t)) = d2
 cases b1 <;> cases b2 <;> (try (intro _; rfl)) <;> cases b3 <;> cases b5 <;> cases b4 <;> (try (intro _; rfl)) <;> cases c1 <;> cases c2 <;> (try (intro _; rfl)) <;> cases c3 <;> cases c4 <;> cases c5 <;> (try (intro _; rfl)) <;> (intro h; rw [h (by simp)]; rfl)
end Go.Proofs.YtmmcenjknimhbaaGreat
namespace Go.Proofs.YtmmcenjknimhbaaGreat
open Go Go.T
def Px (l : List RA) (t : Int) : Int := (l.map fun p => if p.src = t then p.much else 0).sum
def Po (l : List RA) (t : Int) : Int := (l.map fun p => if p.dst = t then p.much else 0).sum
def Pos (l : List RA) : Prop := ∀ p ∈ l, 1 ≤ p.much
theorem gR (n : Nat) (g : Nat → Int) : ((List.range (n + 1)).map g).sum = ((List.range n).map g).sum + g n := by simp [List.range_succ]
theorem Ai (n : Nat) (g h : Nat → Int) : ((List.range n).map fun i => g i + h i).sum = ((List.range n).map g).sum + ((List.range n).map h).sum := by
  induction n with
  | zero => rfl
  | succ n ih => rw [gR, gR, gR, ih]; omega
theorem mQ : ∀ n, ((List.range n).map fun _ => (0 : Int)).sum = 0
  | 0 => rfl
  | n + 1 => by rw [gR, mQ n]; rfl
theorem Aa (n : Nat) (x m : Int) (h : 0 ≤ x ∧ x < n) : ((List.range n).map fun (t : Nat) => if x = (t : Int) then m else 0).sum = m := by
  induction n with
  | zero => omega
  | succ n ih =>
    rw [gR]
    by_cases e : x = (n : Int)
    · have : ((List.range n).map fun (t : Nat) => if x = (t : Int) then m else 0).sum = 0 := by
        have : ((List.range n).map fun (t : Nat) => if x = (t : Int) then m else 0) = (List.range n).map fun _ => 0 := List.map_congr_left fun t ht => by
          have := List.mem_range.1 ht
          rw [if_neg (by omega)]
        rw [this, mQ]
      rw [this, if_pos e]; omega
    · rw [ih (by omega), if_neg e]; omega
structure RL.Ok (st : RL) : Prop where
  la : st.adds.length = 8
  ll : st.less.length = 8
  adds : ∀ t, 0 ≤ nth st.adds t
  less : ∀ t, 0 ≤ nth st.less t
theorem qO (f : cG) {s : List Int} {i : Nat} (v : Int) (hi : i < s.length) (b : Nat) : ∀ n, oG f (s.set i v) n b = oG f s n b + if i < n then (v - nth s i) * nth (nth f.bins i).shares b else 0
  | 0 => by simp [oG]
  | n + 1 => by
    rw [wD, wD, qO f v hi b n, jJ]
    by_cases e : i = n
    · subst e
      rw [if_neg (by omega), if_pos ⟨rfl, hi⟩, if_pos (by omega), Int.sub_mul]; omega
    · have h2 : (if i = n ∧ i < s.length then v else nth s n) = nth s n := if_neg (fun x => e x.1)
      rw [h2]
      by_cases h : i < n
      · rw [if_pos h, if_pos (by omega)]; omega
      · rw [if_neg h, if_neg (by omega)]; omega
theorem kH (f : cG) (s : List Int) {b : Nat} (hb : b < f.bears.length) : nth (xA f s) b = oG f s f.bins.length b := dQ _ hb
theorem first_eq (f : cG) {b : Nat} (hb : b < f.bears.length) : nth (nth (fS f []) 0) b = fR f b f.bins.length := by
  rw [kG (order := []) (k := 0) (Nat.zero_le _), kH f _ hb]
  have : ∀ n, n ≤ f.bins.length → oG f (j6 f [] 0) n b = fR f b n := by
    intro n
    induction n with
    | zero => intro _; rfl
    | succ n ih =>
      intro hn
      rw [wD, qZ f b hn, ih (by omega)]
      have : nth (j6 f [] 0) n = (nth f.bins n).has := by
        show nth (f.bins.map p5.has) n = _
        rw [cL (by rw [List.length_map]; exact hn), cL hn]; simp
      rw [this]
  exact this _ (Nat.le_refl _)
theorem Ce {f : cG} (hn : f.BQ) {t : Nat} (ht : t < f.turnings.length) {b : Nat} (hb : b < f.bears.length) : P8 f t b = oM f t b := by
 have h := hn _ (bh ht)
 unfold P8
 rw [kG (order := [(t : Int)]) (k := 1) (Nat.le_refl _), kG (order := [(t : Int)]) (k := 0) (Nat.zero_le _), kH f _ hb, kH f _ hb]
 have e0 : j6 f [(t : Int)] 0 = f.bins.map p5.has := rfl
 have e1 : j6 f [(t : Int)] 1 = nh f (f.bins.map p5.has) (t : Int) := rfl
 rw [e0, e1, nh, show ((t : Int)).toNat = t from rfl, oM]
 have hl : (f.bins.map p5.has).length = f.bins.length := by simp
 generalize f.bins.map p5.has = s at hl
 generalize nth f.turnings t = u at h
 have h1 : oG f (mR u s) f.bins.length b = oG f s f.bins.length b - u.sacks * gU f u.src b := by
  unfold mR gU
  by_cases e : u.src ≥ 0
  ·rw [if_pos e, if_neg (by omega), qO f _ (by omega) b, if_pos (by omega)]
   rw [show nth s u.src.toNat - u.sacks - nth s u.src.toNat = -u.sacks by omega, Int.neg_mul]; omega
  rw [if_neg e, if_pos (by omega), Int.mul_zero]; omega
 have h2 : oG f (zn u (mR u s)) f.bins.length b = oG f (mR u s) f.bins.length b + u.sacks * gU f u.dst b := by
  have hl1 := vh u s
  unfold zn gU
  by_cases e : u.dst ≥ 0
  ·rw [if_pos e, if_neg (by omega), qO f _ (by omega) b, if_pos (by omega)]
   rw [show nth (mR u s) u.dst.toNat + u.sacks - nth (mR u s) u.dst.toNat = u.sacks by omega]
  rw [if_neg e, if_pos (by omega), Int.mul_zero]; omega
 rw [h2, h1, Int.mul_sub]; omega
theorem IC {f : cG} (h : cA f = 0) {t n : Nat} (ht : t < f.turnings.length) (hn : n < f.bears.length) : zu (bO f) n t = P8 f t n := by
 have hr := (cK h).ranged
 have h4 := hr.bears
 have h8 := hr.turnings
 rw [zu, kV h, Ce (cK h).named ht hn]
 show nth ((List.range 32).map (ym f f.bears.length 0)) (t * 4 + n) = _
 rw [dQ _ (by omega), ym, show (t * 4 + n) / 4 = t by omega, show (t * 4 + n) % 4 = n by omega, if_pos ⟨ht, .inl hn⟩]
theorem Az {f : cG} (h : cA f = 0) {n : Nat} (hn : n < f.bears.length) : nth (bO f).1.first n = nth (nth (fS f []) 0) n := by
 have h4 := (cK h).ranged.bears
 rw [kV h, first_eq f hn]
 show nth ((List.range 4).map (lC f f.bears.length 0)) n = _
 rw [dQ _ (by omega), lC, if_pos hn]
end Go.Proofs.YtmmcenjknimhbaaGreat
namespace Go.Proofs.YtmmcenjknimhbaaGreat
open Go Go.T
end Go.Proofs.YtmmcenjknimhbaaGreat
namespace Go.Proofs.YtmmcenjknimhbaaGreat
open Go Go.T
theorem jD {s : Nat} {t : Int} : t ∈ cB s ↔ ∃ i : Nat, i < 8 ∧ s.testBit i = true ∧ t = i := by
 constructor
 ·intro h
  obtain ⟨i, hi, rfl⟩ := List.mem_map.1 h
  obtain ⟨h1, h2⟩ := List.mem_filter.1 hi
  exact ⟨i, List.mem_range.1 h1, h2, rfl⟩
 rintro ⟨i, hi, hb, rfl⟩
 exact List.mem_map.2 ⟨i, List.mem_filter.2 ⟨List.mem_range.2 hi, hb⟩, rfl⟩
theorem oX {s i n : Nat} (h : s < 2 ^ n) (hb : s.testBit i = true) : i < n := by
 rcases Nat.lt_or_ge i n with h1 | h1
 ·exact h1
 rw [Nat.testBit_lt_two_pow (Nat.lt_of_lt_of_le h (Nat.pow_le_pow_right (by omega) h1))] at hb; cases hb
theorem Jj {f : cG} (h : cA f = 0) : (bO f).1.before = gQ f := by rw [kV h]; rfl
theorem Pn {f : cG} (h : cA f = 0) : f.turnings.length ≤ 8 := (cK h).ruled.1
theorem rK {f : cG} (h : cA f = 0) {s : Nat} (hs : s < 2 ^ f.turnings.length) : eR (bO f) s = true ↔ ∀ t a : Nat, s.testBit t = true → lS f.rules a t → s.testBit a = true := by
 have hr := (cK h).ruled
 have hn := Pn h
 have h256 := zH hn hs
 have hst := kC hr
 unfold eR
 rw [List.all_eq_true, Jj h]
 constructor
 ·intro hw t a ht hl
  have ht8 : t < 8 := by have := oX hs ht; omega
  have := of_decide_eq_true (hw (t : Int) (jD.2 ⟨t, ht8, ht, rfl⟩))
  rw [Int.toNat_natCast, xE (by have := hst.nth t; omega) (by omega)] at this
  exact this a ((nx hr t a).2 hl)
 intro hw x hx
 obtain ⟨t, ht8, ht, rfl⟩ := jD.1 hx
 rw [Int.toNat_natCast]
 refine decide_eq_true ((xE (by have := hst.nth t; omega) (by omega)).2 fun a ha => hw t a ht ((nx hr t a).1 ha))
theorem Dn {f : cG} (h : cA f = 0) (t : Int) : ¬ lS f.rules t t := by
 intro hl
 have hr := (cK h).ruled
 have hc : vB f = false := by
  unfold cA at h
  split at h
  ·exact absurd h ‹_›
  split at h
  ·cases h
  exact Bool.eq_false_iff.2 ‹_›
 have hin := tK hr hl
 obtain ⟨k, rfl⟩ := Int.eq_ofNat_of_zero_le hin.1.1
 have := j8 hc (List.mem_range.2 (show k < 8 by have := hr.1; omega))
 rw [(nx hr k k).2 hl] at this
 cases this
theorem sX {s t a : Nat} : (s ||| 1 <<< t).testBit a = (s.testBit a || decide (t = a)) := by rw [Nat.testBit_or, k7]
structure G8 (f : cG) (done : List Int) (s : Nat) : Prop where
  rng : ∀ t ∈ done, 0 ≤ t ∧ t < f.turnings.length
  nodup : done.Nodup
  bit : ∀ a : Nat, s.testBit a = true ↔ (a : Int) ∈ done
  lt : s < 2 ^ f.turnings.length
  pop : pop s = done.length
  whole : eR (bO f) s = true
theorem C7 {f : cG} (h : cA f = 0) : G8 f [] 0 where
 rng _ h := by cases h
 nodup := List.nodup_nil
 bit a := by simp
 lt := Nat.two_pow_pos _
 pop := by decide +kernel
 whole := (rK h (Nat.two_pow_pos _)).2 fun t a ht => by simp at ht
theorem ux {f : cG} (h : cA f = 0) {done : List Int} {s : Nat} (hr : G8 f done s) {t : Nat} (ht : t < f.turnings.length) : pF f done t = true ↔ s.testBit t = false ∧ eR (bO f) (s ||| 1 <<< t) = true := by
 have hru := (cK h).ruled
 unfold pF
 rw [rK h (NA hr.lt ht), Bool.and_eq_true, Bool.not_eq_true', decide_eq_false_iff_not, List.all_eq_true]
 have hb : s.testBit t = false ↔ ¬ (t : Int) ∈ done := by rw [← hr.bit t, Bool.not_eq_true]
 rw [hb]
 refine and_congr_right fun hnd => ⟨fun hall u a hu hl => ?_, fun hall x hx => ?_⟩
 ·rw [sX] at hu ⊢
  rw [Bool.or_eq_true] at hu ⊢
  rcases hu with hu | hu
  ·exact .inl ((rK h hr.lt).1 hr.whole u a hu hl)
  obtain rfl : t = u := of_decide_eq_true hu
  have hl' := tK hru hl
  have := of_decide_eq_true (hall (a : Int) (jC.2 ⟨hl'.1, hl⟩))
  exact .inl ((hr.bit a).2 this)
 obtain ⟨hx1, hx2⟩ := jC.1 hx
 obtain ⟨a, rfl⟩ := Int.eq_ofNat_of_zero_le hx1.1
 have := hall t a (by rw [sX]; simp) hx2
 rw [sX, Bool.or_eq_true] at this
 rcases this with h1 | h1
 ·exact decide_eq_true ((hr.bit a).1 h1)
 obtain rfl : t = a := of_decide_eq_true h1
 exact absurd hx2 (Dn h _)
theorem C3 {f : cG} (h : cA f = 0) {done : List Int} {s : Nat} (hr : G8 f done s) {t : Nat} (ht : t < f.turnings.length) (hb : s.testBit t = false) (hw : eR (bO f) (s ||| 1 <<< t) = true) : G8 f (done ++ [(t : Int)]) (s ||| 1 <<< t) where
 rng x hx := by
  rcases List.mem_append.1 hx with h1 | h1
  ·exact hr.rng x h1
  rw [List.mem_singleton.1 h1]; omega
 nodup := by
  rw [List.nodup_append]
  refine ⟨hr.nodup, by simp, fun x hx y hy => ?_⟩
  rw [List.mem_singleton.1 hy]
  rintro rfl
  rw [(hr.bit t).2 hx] at hb; cases hb
 bit a := by
  rw [sX, Bool.or_eq_true, hr.bit a, List.mem_append, List.mem_singleton, decide_eq_true_eq]
  exact or_congr_right ⟨fun e => by rw [e], fun e => by omega⟩
 lt := NA hr.lt ht
 pop := by
  rw [(Mf (zH (Pn h) hr.lt) (by have := Pn h; omega) hb).1, hr.pop]; simp
 whole := hw
theorem Kc : ((List.range 9).all fun n => (List.range (2 ^ n)).all fun s => !(pop s == n) || s + 1 == 2 ^ n) = true := by decide +kernel
theorem Lh {n s : Nat} (hn : n ≤ 8) (hs : s < 2 ^ n) (h : pop s = n) : s + 1 = 2 ^ n := by
 have := List.all_eq_true.1 (List.all_eq_true.1 Kc n (List.mem_range.2 (by omega))) s (List.mem_range.2 hs)
 rw [h] at this; simpa using this
theorem Gh : ((List.range 9).all fun n => (List.range (2 ^ n)).all fun s => Nat.ble (pop s) n) = true := by decide +kernel
theorem G8.le {f : cG} (h : cA f = 0) {done : List Int} {s : Nat} (hr : G8 f done s) : done.length ≤ f.turnings.length := by
 have := List.all_eq_true.1 (List.all_eq_true.1 Gh f.turnings.length (List.mem_range.2 (by have := Pn h; omega))) s (List.mem_range.2 hr.lt)
 rw [Nat.ble_eq, hr.pop] at this; exact this
end Go.Proofs.YtmmcenjknimhbaaGreat
namespace Go.Proofs.YtmmcenjknimhbaaGreat
open Go Go.T
end Go.Proofs.YtmmcenjknimhbaaGreat
namespace Go.Proofs.YtmmcenjknimhbaaGreat
open Go Go.T
theorem Av {f : cG} (hn : f.BQ) {t : Nat} (ht : t < f.turnings.length) {s : List Int} (hl : s.length = f.bins.length) (b : Nat) : oG f (nh f s (t : Int)) f.bins.length b = oG f s f.bins.length b + oM f t b := by
 have h := hn _ (bh ht)
 rw [nh, show ((t : Int)).toNat = t from rfl, oM]
 generalize nth f.turnings t = u at h
 have h1 : oG f (mR u s) f.bins.length b = oG f s f.bins.length b - u.sacks * gU f u.src b := by
  unfold mR gU
  by_cases e : u.src ≥ 0
  ·rw [if_pos e, if_neg (by omega), qO f _ (by omega) b, if_pos (by omega)]
   rw [show nth s u.src.toNat - u.sacks - nth s u.src.toNat = -u.sacks by omega, Int.neg_mul]; omega
  rw [if_neg e, if_pos (by omega), Int.mul_zero]; omega
 have h2 : oG f (zn u (mR u s)) f.bins.length b = oG f (mR u s) f.bins.length b + u.sacks * gU f u.dst b := by
  have hl1 := vh u s
  unfold zn gU
  by_cases e : u.dst ≥ 0
  ·rw [if_pos e, if_neg (by omega), qO f _ (by omega) b, if_pos (by omega)]
   rw [show nth (mR u s) u.dst.toNat + u.sacks - nth (mR u s) u.dst.toNat = u.sacks by omega]
  rw [if_neg e, if_pos (by omega), Int.mul_zero]; omega
 rw [h2, h1, Int.mul_sub]; omega
theorem AE {α : Type} (p : α → Bool) (g : α → Int) : ∀ l : List α, ((l.filter p).map g).sum = (l.map fun x => if p x = true then g x else 0).sum
  | [] => rfl
  | x :: l => by
    rw [List.filter_cons]
    cases hp : p x <;> simp [hp, AE p g l]
theorem nF (b : SB) (s i : Nat) : loadAt b (cB s) i = nth b.1.first i + ((List.range 8).map fun t => if s.testBit t = true then nth b.1.adds (t * 4 + i) else 0).sum := by
 unfold loadAt cB mo
 rw [List.map_map, ← AE]; rfl
theorem Gf (b : SB) {s t i : Nat} (ht : t < 8) (hi : i < 4) (hb : s.testBit t = false) : nth (gl b (s ||| 1 <<< t)) i = nth (gl b s) i + nth b.1.adds (t * 4 + i) := by
 rw [u9 b _ hi, u9 b _ hi, nF, nF]
 have : ((List.range 8).map fun u => if (s ||| 1 <<< t).testBit u = true then nth b.1.adds (u * 4 + i) else 0) = (List.range 8).map fun u => (if s.testBit u = true then nth b.1.adds (u * 4 + i) else 0) + (if (t : Int) = (u : Int) then nth b.1.adds (t * 4 + i) else 0) := by
  refine List.map_congr_left fun u _ => ?_
  rw [sX]
  by_cases e : t = u
  ·subst e; simp [hb]
  rw [decide_eq_false e, Bool.or_false, if_neg (c := (t : Int) = (u : Int)) (by omega)]; omega
 rw [this, Ai, Aa 8 _ _ (by omega)]; omega
def Agree (f : cG) (st : List Int) (s : Nat) : Prop := st.length = f.bins.length ∧ ∀ b, b < f.bears.length → nth (xA f st) b = nth (gl (bO f) s) b
theorem GD {f : cG} (h : cA f = 0) : Agree f (f.bins.map p5.has) 0 := by
 refine ⟨by simp, fun b hb => ?_⟩
 have h4 := (cK h).ranged.bears
 rw [u9 _ _ (by omega), nF, Az h hb, kG (order := []) (k := 0) (Nat.zero_le _)]
 have : ((List.range 8).map fun t => if (0 : Nat).testBit t = true then nth (bO f).1.adds (t * 4 + b) else 0) = (List.range 8).map fun _ => (0 : Int) := List.map_congr_left fun t _ => by simp
 rw [this, mQ, Int.add_zero]; rfl
theorem GR {f : cG} (h : cA f = 0) {st : List Int} {s t : Nat} (ha : Agree f st s) (ht : t < f.turnings.length) (hb : s.testBit t = false) : Agree f (nh f st (t : Int)) (s ||| 1 <<< t) := by
 have hrt := cK h
 refine ⟨by rw [BF, ha.1], fun b hbb => ?_⟩
 have h4 := hrt.ranged.bears
 have h8 := hrt.ranged.turnings
 rw [Gf _ (by omega) (by omega) hb, ← ha.2 b hbb, kH f _ hbb, kH f _ hbb, Av hrt.named ht ha.1 b, ← Ce hrt.named ht hbb, ← IC h ht hbb]; rfl
def xq (f : cG) : List (List Int) := IB f (f.turnings.length + 1) []
end Go.Proofs.YtmmcenjknimhbaaGreat
namespace Go.Proofs.YtmmcenjknimhbaaGreat
open Go Go.T
def yJ (f : cG) : Int := (xq f).foldl (fun n l => max n (nP f l)) (nP f (nth (xq f) 0))
structure Rf (f : cG) (l : List Int) : Prop where
  mem : l ∈ xq f
  rep : ∃ s, G8 f l s
  len : l.length = f.turnings.length
  right : jc f l = 0
  margin : nP f l = yJ f
def Hy (f : cG) : List (List Int) := if gO f ≠ 0 then [] else Q8 f (xq f)
def PC (f : cG) : Int := if gO f ≠ 0 then gO f else if ((Hy f).length : Int) > 0 then 0 else 6
def Ov (f : cG) : List Int := nth (Hy f) 0
def tW (f : cG) : Int := if gO f ≠ 0 then 0 else yJ f
theorem Gg (f : cG) : gM f false = gO f := by
 unfold gM
 rw [lp]
 by_cases h : gO f ≠ 0
 ·rw [if_pos h]
 rw [if_neg h, if_neg (by simp)]; omega
end Go.Proofs.YtmmcenjknimhbaaGreat
namespace Go.Proofs.YtmmcenjknimhbaaGreat
open Go Go.T
def setOf (l : List Int) : Nat := l.foldl (fun s t => s ||| 1 <<< t.toNat) 0
def dY (l : List Int) : List Nat := (List.range (l.length + 1)).map fun k => setOf (l.take k)
def fP (f : cG) (order : List Int) : Int :=
  if gM f false ≠ 0 then gM f false else if (order.length : Int) ≠ f.turnings.length then 2
  else if !order.all (fun t => fG t 0 (f.turnings.length - 1)) then 1
  else if ¬ (((setOf order : Nat) : Int) = ((1 <<< order.length : Nat) : Int) - 1) then 5
  else if !(dY order).all (eR (bO f)) then 4 else 0
def gN (f : cG) (order : List Int) : Int := if gO f ≠ 0 then gO f else jc f order
theorem kI {l : List Int} {k : Nat} (h : k < l.length) : setOf (l.take (k + 1)) = setOf (l.take k) ||| 1 <<< (nth l k).toNat := by
 unfold setOf; rw [cE h, List.foldl_append]; rfl
theorem l7 (l : List Int) : (dY l).length = l.length + 1 := by simp [dY]
theorem rG {l : List Int} {k : Nat} (h : k ≤ l.length) : nth (dY l) k = setOf (l.take k) := dQ _ (by omega)
theorem nj {l : List Int} (h : ∀ x ∈ l, 0 ≤ x) (a : Nat) : ∀ k, k ≤ l.length → ((setOf (l.take k)).testBit a = true ↔ (a : Int) ∈ l.take k)
  | 0, _ => by simp [setOf]
  | k + 1, hk => by
    have ht := h _ (bh (xs := l) (k := k) (by omega))
    rw [kI (by omega), cE (by omega), sX, Bool.or_eq_true, nj h a k (by omega), List.mem_append, List.mem_singleton, decide_eq_true_eq]
    exact or_congr_right ⟨fun e => by omega, fun e => by omega⟩
theorem oA {l : List Int} {n : Nat} (h : ∀ x ∈ l, 0 ≤ x ∧ x < (n : Int)) : ∀ k, k ≤ l.length → setOf (l.take k) < 2 ^ n
  | 0, _ => Nat.two_pow_pos _
  | k + 1, hk => by
    have ht := h _ (bh (xs := l) (k := k) (by omega))
    rw [kI (by omega)]
    exact NA (oA h k (by omega)) (by omega)
theorem OO {s t : Nat} (h : s.testBit t = true) : s ||| 1 <<< t = s := by
 apply Nat.eq_of_testBit_eq
 intro i
 rw [sX]
 by_cases e : t = i
 ·subst e; simp [h]
 simp [e]
theorem Aq {l : List Int} {n : Nat} (hn : n ≤ 8) (h : ∀ x ∈ l, 0 ≤ x ∧ x < (n : Int)) : ∀ k, k ≤ l.length → pop (setOf (l.take k)) ≤ k ∧ (pop (setOf (l.take k)) = k ↔ ∀ i, i < k → nth l i ∉ l.take i)
  | 0, _ => by
    have e : pop (setOf (l.take 0)) = 0 := by rw [List.take_zero]; decide +kernel
    exact ⟨by omega, fun _ i hi => by omega, fun _ => e⟩
  | k + 1, hk => by
    obtain ⟨h1, h2⟩ := Aq hn h k (by omega)
    have ht := h _ (bh (xs := l) (k := k) (by omega))
    have hb := nj (fun x hx => (h x hx).1) (nth l k).toNat k (by omega)
    have e : (((nth l k).toNat : Nat) : Int) = nth l k := by omega
    rw [e] at hb
    rw [kI (by omega)]
    cases hc : (setOf (l.take k)).testBit (nth l k).toNat with
    | true =>
      rw [OO hc]
      exact ⟨by omega, fun hx => by omega, fun hx => absurd (hb.1 hc) (hx k (by omega))⟩
    | false =>
      have hp := (Mf (zH hn (oA h k (by omega))) (by omega) hc).1
      rw [hp]
      refine ⟨by omega, fun hx i hi => ?_, fun hx => ?_⟩
      · rcases Nat.lt_or_ge i k with h3 | h3
        · exact h2.1 (by omega) i h3
        · rw [show i = k by omega]; intro hm; rw [hb.2 hm] at hc; cases hc
      · rw [h2.2 fun i hi => hx i (by omega)]
theorem y8 {f : cG} (h : cA f = 0) {l : List Int} (hrg : ∀ x ∈ l, 0 ≤ x ∧ x < (f.turnings.length : Int)) (hnd : ∀ i, i < l.length → nth l i ∉ l.take i) (hah : ∀ i, i < l.length → ∀ a ∈ hH f (nth l i), a ∈ l.take i) : ∀ k, k ≤ l.length → G8 f (l.take k) (setOf (l.take k))
  | 0, _ => by rw [List.take_zero]; exact C7 h
  | k + 1, hk => by
    have ih := y8 h hrg hnd hah k (by omega)
    have ht := hrg _ (bh (xs := l) (k := k) (by omega))
    obtain ⟨t, e⟩ := Int.eq_ofNat_of_zero_le ht.1
    have hrd : pF f (l.take k) (t : Int) = true := by
      unfold pF
      rw [Bool.and_eq_true, Bool.not_eq_true', decide_eq_false_iff_not, List.all_eq_true, ← e]
      exact ⟨hnd k (by omega), fun a ha => decide_eq_true (hah k (by omega) a ha)⟩
    have h2 := (ux h ih (show t < f.turnings.length by omega)).1 hrd
    have := C3 h ih (show t < f.turnings.length by omega) h2.1 h2.2
    rw [kI (by omega), cE (by omega), e]; exact this
theorem pO {f : cG} {l : List Int} (h : jc f l = 0) : l.length = f.turnings.length ∧ (∀ x ∈ l, 0 ≤ x ∧ x < (f.turnings.length : Int)) ∧ (∀ i, i < l.length → nth l i ∉ l.take i) ∧ ∀ i, i < l.length → ∀ a ∈ hH f (nth l i), a ∈ l.take i := by
 unfold jc at h
 split at h
 ·cases h
 split at h
 ·cases h
 split at h
 ·cases h
 split at h
 ·cases h
 rename_i h1 h2 h3 h4
 refine ⟨by omega, fun x hx => ?_, fun i hi => ?_, fun i hi a ha => ?_⟩
 ·have := j8 (Bool.eq_false_iff.2 h2) hx
  simp only [decide_eq_false_iff_not] at this
  omega
 ·have := j8 (Bool.eq_false_iff.2 h3) (gK.2 (show (0 : Int) ≤ (i : Nat) ∧ ((i : Nat) : Int) < (l.length : Nat) by omega))
  simpa using this
 have := j8 (Bool.eq_false_iff.2 h4) (gK.2 (show (0 : Int) ≤ (i : Nat) ∧ ((i : Nat) : Int) < (l.length : Nat) by omega))
 have := j8 this ha
 simpa using this
theorem sO (f : cG) (l : List Int) : fP f l = gN f l := by
 unfold fP gN
 rw [Gg]
 by_cases hc : gO f ≠ 0
 ·rw [if_pos hc, if_pos hc]
 have h0 : gO f = 0 := Classical.byContradiction hc
 have h : cA f = 0 := by rw [lp]; exact h0
 have hn := Pn h
 rw [if_neg hc, if_neg hc]
 unfold jc
 by_cases h1 : (l.length : Int) ≠ f.turnings.length
 ·rw [if_pos h1, if_pos h1]
 rw [if_neg h1, if_neg h1]
 have e2 : (!l.all fun t => fG t 0 (f.turnings.length - 1)) = l.any fun x => decide (x < 0 ∨ x ≥ f.turnings.length) := by
  refine iU _ _ _ fun x => ?_
  unfold fG
  rw [← Bool.decide_and, ← decide_not, decide_eq_decide]; omega
 rw [e2]
 by_cases h2 : (l.any fun x => decide (x < 0 ∨ x ≥ f.turnings.length)) = true
 ·rw [if_pos h2, if_pos h2]
 rw [if_neg h2, if_neg h2]
 have hrg : ∀ x ∈ l, 0 ≤ x ∧ x < (f.turnings.length : Int) := fun x hx => by
  have := j8 (Bool.eq_false_iff.2 h2) hx
  simp only [decide_eq_false_iff_not] at this; omega
 obtain ⟨p1, p2⟩ := Aq hn hrg l.length (Nat.le_refl _)
 have hlt := oA hrg l.length (Nat.le_refl _)
 rw [List.take_length] at p1 p2 hlt
 have hlen : l.length = f.turnings.length := by omega
 have e3 : ¬ (((setOf l : Nat) : Int) = ((1 <<< l.length : Nat) : Int) - 1) ↔ ((xy l.length).any fun i => decide (nth l i.toNat ∈ l.take i.toNat)) = true := by
  rw [← Decidable.not_iff_not, Decidable.not_not, Bool.not_eq_true, List.any_eq_false, hlen, xp]
  have hpw := Nat.two_pow_pos f.turnings.length
  constructor
  ·intro e x hx
   have hp : pop (setOf l) = l.length := by
    rw [show setOf l = 2 ^ f.turnings.length - 1 by omega, Lb hn, hlen]
   have hx2 := gK.1 hx
   have := p2.1 hp x.toNat (by omega)
   simpa using this
  intro hall
  have := p2.2 fun i hi => by
   have := hall (i : Int) (gK.2 (by omega))
   simpa using this
  have := Lh hn hlt (by omega)
  omega
 by_cases h3 : ((xy l.length).any fun i => decide (nth l i.toNat ∈ l.take i.toNat)) = true
 ·rw [if_pos (e3.2 h3), if_pos h3]
 rw [if_neg (fun hx => h3 (e3.1 hx)), if_neg h3]
 have hnd : ∀ i, i < l.length → nth l i ∉ l.take i := fun i hi => by
  have := j8 (Bool.eq_false_iff.2 h3) (gK.2 (show (0 : Int) ≤ (i : Nat) ∧ ((i : Nat) : Int) < (l.length : Nat) by omega))
  simpa using this
 have e4 : (!(dY l).all (eR (bO f))) = (xy l.length).any fun i => (hH f (nth l i.toNat)).any fun y => !decide (y ∈ l.take i.toNat) := by
  rw [Bool.eq_iff_iff, Bool.not_eq_true', ← Bool.not_eq_true, ← Decidable.not_iff_not, Decidable.not_not, Bool.not_eq_true, List.any_eq_false, List.all_eq_true]
  constructor
  ·intro hall x hx
   have hx2 := gK.1 hx
   obtain ⟨i, rfl⟩ := Int.eq_ofNat_of_zero_le hx2.1
   rw [Bool.not_eq_true, List.any_eq_false]
   intro a ha
   have ht := hrg _ (bh (xs := l) (k := i) (by omega))
   obtain ⟨⟨ha1, _⟩, hl⟩ := jC.1 ha
   obtain ⟨b, rfl⟩ := Int.eq_ofNat_of_zero_le ha1
   obtain ⟨t, e⟩ := Int.eq_ofNat_of_zero_le ht.1
   have hw := hall (setOf (l.take (i + 1))) (List.mem_map.2 ⟨i + 1, List.mem_range.2 (by omega), rfl⟩)
   have hbt := nj (fun x hx => (hrg x hx).1) t (i + 1) (by omega)
   have hbb := nj (fun x hx => (hrg x hx).1) b (i + 1) (by omega)
   have := (rK h (oA hrg (i + 1) (by omega))).1 hw t b (hbt.2 (by rw [cE (by omega), e]; simp)) (by rw [← e]; exact hl)
   have := hbb.1 this
   rw [cE (by omega), List.mem_append, List.mem_singleton] at this
   rcases this with h5 | h5
   ·simpa using h5
   rw [Int.toNat_natCast] at hl
   rw [← h5] at hl; exact absurd hl (Dn h _)
  intro hall s hs
  obtain ⟨k, hk, rfl⟩ := List.mem_map.1 hs
  have hk := List.mem_range.1 hk
  refine (y8 h hrg hnd (fun i hi a ha => ?_) k (by omega)).whole
  have := hall (i : Int) (gK.2 (by omega))
  rw [Bool.not_eq_true, List.any_eq_false] at this
  have := this a ha
  simpa using this
 rw [e4]
theorem Eh {f : cG} (h : cA f = 0) {l : List Int} (ho : jc f l = 0) : ∀ k, k ≤ l.length → Agree f (j6 f l k) (setOf (l.take k))
  | 0, _ => by rw [List.take_zero]; exact GD h
  | k + 1, hk => by
    have ih := Eh h ho k (by omega)
    obtain ⟨_, hrg, hnd, _⟩ := pO ho
    have ht := hrg _ (bh (xs := l) (k := k) (by omega))
    obtain ⟨t, e⟩ := Int.eq_ofNat_of_zero_le ht.1
    rw [wu (by omega), kI (by omega), e]
    refine GR h ih (by omega) (Bool.eq_false_iff.2 fun hb => ?_)
    have := (nj (fun x hx => (hrg x hx).1) t k (by omega)).1 hb
    rw [← e] at this
    exact hnd k (by omega) this
def rowP (f : cG) (s : Nat) : List Int := (gl (bO f) s).take f.bears.length
theorem row_eq {f : cG} (h : cA f = 0) {st : List Int} {s : Nat} (ha : Agree f st s) : rowP f s = xA f st := by
 have h4 := (cK h).ranged.bears
 unfold rowP
 apply List.ext_getElem?
 intro b
 by_cases hb : b < f.bears.length
 ·have h1 : b < (gl (bO f) s).length := by rw [q9]; omega
  have h2 : b < (xA f st).length := by rw [vv]; omega
  rw [List.getElem?_take, if_pos hb, List.getElem?_eq_getElem h1, List.getElem?_eq_getElem h2, ← cL h1, ← cL h2, ha.2 b hb]
 rw [List.getElem?_eq_none (by simp; omega), List.getElem?_eq_none (by rw [vv]; omega)]
def wm (f : cG) (l : List Int) : List (List Int) := (dY l).map (rowP f)
theorem LX {f : cG} (h : cA f = 0) {l : List Int} (ho : jc f l = 0) : wm f l = fS f l := by
 unfold wm dY fS
 rw [List.map_map]
 refine List.map_congr_left fun k hk => ?_
 have := List.mem_range.1 hk
 exact row_eq h (Eh h ho k (by omega))
def RT (f : cG) (l : List Int) : Int := if gN f l ≠ 0 then gN f l else if (Gq f l).isSome = true then 0 else 6
def Qv (f : cG) (l : List Int) : Int := if gN f l ≠ 0 then 0 else breakT f l
def Qd (f : cG) (l : List Int) : Int := if gN f l ≠ 0 then 0 else MO f l
def wN (f : cG) (l : List Int) : List (List Int) := if gN f l ≠ 0 then [] else fS f l
def Rc (f : cG) (l : List Int) : Int := if gN f l ≠ 0 then 0 else nP f l
theorem FH {f : cG} {l : List Int} (h : gN f l = 0) : gO f = 0 ∧ cA f = 0 ∧ jc f l = 0 := by
 unfold gN at h
 split at h
 ·exact absurd h ‹_›
 have h0 : gO f = 0 := Classical.byContradiction ‹_›
 exact ⟨h0, by rw [lp]; exact h0, h⟩
end Go.Proofs.YtmmcenjknimhbaaGreat
namespace Go.Proofs.YtmmcenjknimhbaaGreat
open Go Go.T
structure lR where
  grain : List Int
  taken : Int
  mixed : Int
def Qn (s : lR) : Int := IntKind.u32.wrap (bits .xor .u32 s.mixed (IntKind.u32.wrap (nth s.grain (s.taken.tmod s.grain.length).toNat)) * 16777619)
def Ci (s : lR) : lR := if (s.grain.length : Int) > 0 then { s with mixed := Qn s } else s
def HX (s : lR) : lR := { s with taken := s.taken + 1 }
def Q4 (s : lR) : Int := IntKind.u32.wrap (IntKind.u32.wrap (s.mixed * 1664525) + 1013904223)
def CQ (s : lR) : lR := if s.taken > (s.grain.length : Int) then { s with mixed := Q4 s } else s
def bp (s : lR) : lR := CQ (HX (Ci s))
def j0 (s : lR) : Int := IntKind.i64.wrap (bits .and .u32 (bits .xor .u32 s.mixed (s.mixed / 2 ^ (15 : Int).toNat) / 2 ^ (8 : Int).toNat) 65535)
def lR.Ok (s : lR) (n : Int) : Prop := 0 ≤ s.taken ∧ s.taken + n ≤ 4611686018427387904
theorem AW (s : lR) : (Ci s).taken = s.taken := by unfold Ci; split <;> rfl
theorem Ab (s : lR) : (CQ s).taken = s.taken := by unfold CQ; split <;> rfl
theorem dR (s : lR) : (bp s).taken = s.taken + 1 := by unfold bp; rw [Ab, HX, AW]
theorem zj (a : Int) : 0 ≤ bits .and .u32 a 65535 ∧ bits .and .u32 a 65535 ≤ 65535 := by
 have e : bits .and .u32 a 65535 = IntKind.u32.wrap (((BitVec.ofInt 32 a &&& BitVec.ofInt 32 65535).toNat : Nat) : Int) := rfl
 have h1 : (BitVec.ofInt 32 a &&& BitVec.ofInt 32 65535).toNat ≤ 65535 := by
  rw [BitVec.toNat_and]
  exact Nat.and_le_right
 rw [e]
 generalize (BitVec.ofInt 32 a &&& BitVec.ofInt 32 65535).toNat = n at h1
 have : IntKind.u32.wrap (n : Int) = (n : Int) % 4294967296 := rfl
 rw [this]; omega
theorem DL (s : lR) : 0 ≤ j0 s ∧ j0 s ≤ 65535 := by
 have h := zj (bits .xor .u32 s.mixed (s.mixed / 2 ^ (15 : Int).toNat) / 2 ^ (8 : Int).toNat)
 unfold j0
 rw [IntWalk.i64_in _ (by omega)]; exact h
def dN (s : lR) (n : Int) : Int := (j0 (bp s)).tmod (max 1 n)
theorem eI (s : lR) (n : Int) : 0 ≤ dN s n ∧ dN s n < max 1 n ∧ dN s n ≤ 65535 := by
 have h := DL (bp s)
 unfold dN
 have h1 : (j0 (bp s)).tmod (max 1 n) = j0 (bp s) % max 1 n := Int.tmod_eq_emod_of_nonneg h.1
 have h2 := Int.emod_lt_of_pos (j0 (bp s)) (show 0 < max 1 n by omega)
 have h3 := Int.emod_nonneg (j0 (bp s)) (show max 1 n ≠ 0 by omega)
 have h4 : j0 (bp s) % max 1 n ≤ j0 (bp s) := by
  have := Int.mul_ediv_add_emod (j0 (bp s)) (max 1 n)
  have hq : 0 ≤ j0 (bp s) / max 1 n := Int.ediv_nonneg h.1 (by omega)
  have : 0 ≤ max 1 n * (j0 (bp s) / max 1 n) := Int.mul_nonneg (by omega) hq
  omega
 omega
def gk (s : lR) (lo hi : Int) : Int := lo + dN s (hi - lo + 1)
def Nf (s : lR) (n : Int) : Bool := decide (dN s n = 0)
def Ei (v n : Int) : Int := if n < 1 then 0 else (v.tmod n + n).tmod n
def uY (xs : List Int) (i : Nat) (k : Int) : List Int := xs.take i ++ k :: xs.drop i
theorem Jk {xs : List Int} {i : Nat} (h : i ≤ xs.length) (k : Int) : (uY xs i k).length = xs.length + 1 := by simp [uY]; omega
theorem JQ {xs : List Int} {i : Nat} {k x : Int} : x ∈ uY xs i k ↔ x = k ∨ x ∈ xs := by
 unfold uY
 rw [List.mem_append, List.mem_cons]
 constructor
 ·rintro (h | rfl | h)
  ·exact .inr (List.mem_of_mem_take h)
  ·exact .inl rfl
  exact .inr (List.mem_of_mem_drop h)
 rintro (rfl | h)
 ·exact .inr (.inl rfl)
 rw [← List.take_append_drop i xs, List.mem_append] at h
 exact h.imp id .inr
theorem Dt {xs : List Int} {i : Nat} {k : Int} (h : xs.Nodup) (hk : k ∉ xs) : (uY xs i k).Nodup := by
 unfold uY
 have h2 : (xs.take i ++ xs.drop i).Nodup := by rw [List.take_append_drop]; exact h
 rw [List.nodup_append] at h2 ⊢
 obtain ⟨a, b, c⟩ := h2
 refine ⟨a, List.nodup_cons.2 ⟨fun h => hk (List.mem_of_mem_drop h), b⟩, fun x hx y hy => ?_⟩
 rcases List.mem_cons.1 hy with rfl | hy
 ·rintro rfl; exact hk (List.mem_of_mem_take hx)
 exact c x hx y hy
def kO (s : lR) : Nat → List Int × lR
  | 0 => ([], s)
  | k + 1 => (uY (kO s k).1 (dN (kO s k).2 ((k : Int) + 1)).toNat k, bp (kO s k).2)
theorem yf (s : lR) : ∀ k, (kO s k).1.length = k ∧ (kO s k).1.Nodup ∧ (∀ x, x ∈ (kO s k).1 ↔ 0 ≤ x ∧ x < (k : Int)) ∧ (kO s k).2.taken = s.taken + k
  | 0 => ⟨rfl, List.nodup_nil, fun x => ⟨fun h => (by cases h), fun h => by omega⟩, by simp [kO]⟩
  | k + 1 => by
    obtain ⟨h1, h2, h3, h4⟩ := yf s k
    have hb := eI (kO s k).2 ((k : Int) + 1)
    refine ⟨?_, Dt h2 (fun h => by have := (h3 _).1 h; omega), fun x => ?_, ?_⟩
    · show (uY _ _ _).length = _
      rw [Jk (by omega), h1]
    · show x ∈ uY _ _ _ ↔ _
      rw [JQ, h3]; omega
    · show (bp _).taken = _
      rw [dR, h4]; omega
end Go.Proofs.YtmmcenjknimhbaaGreat
namespace Go.Proofs.YtmmcenjknimhbaaGreat
open Go Go.T
def wU (l : List Int) (k : Nat) : Int := (l.take k).foldl max (nth l 0)
def MV (l : List Int) : Int := l.foldl max (nth l 0)
theorem F7 {l : List Int} {k : Nat} (h : k < l.length) : wU l (k + 1) = max (wU l k) (nth l k) := by
 unfold wU; rw [cE h, List.foldl_append]; rfl
def dc (f : cG) (l : List Int) (b k : Nat) : Int := fR f b f.bins.length + ((l.take k).map fun t => oM f t.toNat b).sum
def vk (f : cG) (l : List Int) (b : Nat) : List Int := (List.range (l.length + 1)).map (dc f l b)
theorem yF (f : cG) {l : List Int} {k : Nat} (h : k < l.length) (b : Nat) : dc f l b (k + 1) = dc f l b k + oM f (nth l k).toNat b := by
 unfold dc; rw [cE h, List.map_append, List.sum_append]; simp; omega
theorem zb (f : cG) (l : List Int) (b : Nat) : (vk f l b).length = l.length + 1 := by simp [vk]
theorem G9 (f : cG) {l : List Int} (b : Nat) {k : Nat} (h : k ≤ l.length) : nth (vk f l b) k = dc f l b k := dQ _ (by omega)
def Qp (f : cG) (l : List Int) (k : Nat) : Int := (List.range k).foldl (fun n b => min n (nth f.bears b - MV (vk f l b))) 1099511627776
end Go.Proofs.YtmmcenjknimhbaaGreat
namespace Go.Proofs.YtmmcenjknimhbaaGreat
open Go Go.T
def PW (f : cG) (done : List Int) (t : Int) : Bool := !decide (t ∈ done) && !f.rules.any fun r => decide (r.nxt = t) && !decide (r.fst ∈ done)
def Pk (f : cG) (l : List Int) (i : Nat) : Bool := decide (0 ≤ nth l i) && decide (nth l i < f.turnings.length) && PW f (l.take i) (nth l i)
def Dq (f : cG) (l : List Int) : Bool := ((List.range l.length).all (Pk f l)) && decide (l.length = f.turnings.length)
end Go.Proofs.YtmmcenjknimhbaaGreat
namespace Go.Proofs.YtmmcenjknimhbaaGreat
open Go Go.T
theorem Au {l : List Int} (h : l.Nodup) {i : Nat} (hi : i < l.length) : nth l i ∉ l.take i := by
 have h1 : (l.take (i + 1)).Nodup := h.sublist (List.take_sublist _ _)
 rw [cE hi, List.nodup_append] at h1
 exact fun hx => h1.2.2 _ hx _ (List.mem_singleton.2 rfl) rfl
structure R3 (f : cG) (b : Int) (i : Nat) (met : List Int) : Prop where
  has : b ∈ met
  nodup : met.Nodup
  rng : ∀ x ∈ met, 0 ≤ x ∧ x < (f.turnings.length : Int)
  sound : ∀ x ∈ met, x = b ∨ lS f.rules x b
  closed : ∀ j, j < i → ∀ r ∈ f.rules, r.nxt = nth met j → r.fst ∈ met
  le : i ≤ met.length
structure Rp (f : cG) (b : Int) (i : Nat) (k : Nat) (met : List Int) : Prop where
  bfs : R3 f b i met
  lt : i < met.length
  done : ∀ r ∈ f.rules.take k, r.nxt = nth met i → r.fst ∈ met
end Go.Proofs.YtmmcenjknimhbaaGreat
namespace Go.Proofs.YtmmcenjknimhbaaGreat
open Go Go.T
theorem D7 {f : cG} {l : List Int} (ho : jc f l = 0) : ∀ i, i < l.length → pF f (l.take i) (nth l i) = true := fun i hi => by
 obtain ⟨h1, h2, h3, h4⟩ := pO ho
 unfold pF
 rw [Bool.and_eq_true, List.all_eq_true]
 exact ⟨by simpa using h3 i hi, fun a ha => decide_eq_true (h4 i hi a ha)⟩
theorem An {f : cG} (hn : f.BQ) {l : List Int} (hl : ∀ x ∈ l, 0 ≤ x ∧ x < (f.turnings.length : Int)) {b : Nat} (hb : b < f.bears.length) : ∀ k, k ≤ l.length → oG f (j6 f l k) f.bins.length b = dc f l b k
  | 0, _ => by
    have := first_eq f hb
    rw [kG (order := []) (k := 0) (Nat.zero_le _), kH f _ hb] at this
    unfold dc
    rw [List.take_zero]
    simp only [List.map_nil, List.sum_nil, Int.add_zero]
    exact this
  | k + 1, hk => by
    have hx := hl _ (bh (xs := l) (k := k) (by omega))
    obtain ⟨t, e⟩ := Int.eq_ofNat_of_zero_le hx.1
    have ih := An hn hl hb k (by omega)
    rw [wu (by omega), yF f (by omega), e, Av hn (by omega) (GX f l k), ih]; rfl
theorem wj {f : cG} (hn : f.BQ) {l : List Int} (hl : ∀ x ∈ l, 0 ≤ x ∧ x < (f.turnings.length : Int)) {b : Nat} (hb : b < f.bears.length) {k : Nat} (hk : k ≤ l.length) : nth (nth (fS f l) k) b = dc f l b k := by
 rw [kG hk, kH f _ hb, An hn hl hb k hk]
theorem FE {l : List Int} {x : Int} : ∀ k, k ≤ l.length → (wU l k ≤ x ↔ nth l 0 ≤ x ∧ ∀ i, i < k → nth l i ≤ x)
  | 0, _ => ⟨fun h => ⟨by simpa [wU] using h, fun i hi => by omega⟩, fun h => by simpa [wU] using h.1⟩
  | k + 1, hk => by
    rw [F7 (by omega), Int.max_le, FE k (by omega)]
    constructor
    · rintro ⟨⟨h1, h2⟩, h3⟩
      refine ⟨h1, fun i hi => ?_⟩
      rcases Nat.lt_or_ge i k with h | h
      · exact h2 i h
      · rw [show i = k by omega]; exact h3
    · rintro ⟨h1, h2⟩
      exact ⟨⟨h1, fun i hi => h2 i (by omega)⟩, h2 k (by omega)⟩
theorem OS (l : List Int) : MV l = wU l l.length := by unfold MV wU; rw [List.take_length]
theorem Cv {l : List Int} {x : Int} (h : 0 < l.length) : MV l ≤ x ↔ ∀ i, i < l.length → nth l i ≤ x := by
 rw [OS, FE _ (Nat.le_refl _)]
 exact ⟨fun h => h.2, fun h' => ⟨h' 0 h, h'⟩⟩
end Go.Proofs.YtmmcenjknimhbaaGreat
namespace Go.Proofs.YtmmcenjknimhbaaGreat
open Go Go.T
def over (f : cG) (l : List Int) (t b : Nat) : Prop := nth (nth (fS f l) t) b > nth f.bears b
instance (f : cG) (l : List Int) (t b : Nat) : Decidable (over f l t b) := by unfold over; infer_instance
structure RM (f : cG) (l : List Int) : Prop where
  rows : wN f l = fS f l
  ord : gN f l = 0
  mar : Rc f l = nP f l
  marl : Qp f l f.bears.length = nP f l
  brk : RT f l = if nP f l < 0 then 0 else 6
  Qv : Qv f l = breakT f l
  Qd : Qd f l = MO f l
  rng : ∀ x ∈ l, 0 ≤ x ∧ x < (f.turnings.length : Int)
  len : l.length = f.turnings.length
  nodup : l.Nodup
  all : ∀ x, x ∈ l ↔ 0 ≤ x ∧ x < (f.turnings.length : Int)
end Go.Proofs.YtmmcenjknimhbaaGreat
namespace Go.Proofs.YtmmcenjknimhbaaGreat
open Go Go.T
structure RP (f : cG) : Prop where
  mar : tW f = yJ f
  all : Dq f (Hz f).1 = true
  marl : Qp f (Hz f).1 f.bears.length = tW f
  keep : decide (0 < ((Hy f).length : Int)) = decide (0 ≤ tW f)
  err : decide (PC f = 0) = decide (0 ≤ tW f)
  err6 : decide (PC f = 6) = !decide (0 ≤ tW f)
  rng : ∀ x ∈ Ov f, 0 ≤ x ∧ x < (f.turnings.length : Int)
  IF : (Ov f).length ≤ f.turnings.length
end Go.Proofs.YtmmcenjknimhbaaGreat
namespace Go.Proofs.YtmmcenjknimhbaaGreat
open Go Go.T
def IA : cG := ⟨[], [], [], []⟩
def pg (f : cG) (r : jq) : cG := { f with rules := f.rules ++ [r] }
def Oz (f : cG) (r : jq) : cG × Int :=
  if cA f ≠ 0 then (IA, cA f) else if (f.rules.length : Int) = 16 then (IA, 9) else if cA (pg f r) ≠ 0 then (IA, cA (pg f r)) else (pg f r, 0)
section
variable {f : cG} {r : jq}
end
theorem lS.mono {l m : List jq} (h : ∀ r ∈ l, r ∈ m) {x y : Int} (hl : lS l x y) : lS m x y := by
  induction hl with
  | one hr => exact .one (h _ hr)
  | step hr _ ih => exact .step (h _ hr) ih
end Go.Proofs.YtmmcenjknimhbaaGreat
namespace Go.Proofs.YtmmcenjknimhbaaGreat
open Go Go.T
def NS (f : cG) (a b : Int) : Int := if b ∈ hH f a then 0 else ((Hy (pg f ⟨a, b⟩)).length : Int)
def w5 (a b : Int) : List jq := [⟨a, b⟩, ⟨b, a⟩]
def Ql (f : cG) (a b : Int) : Nat → Int
  | 0 => 0
  | 1 => NS f a b
  | _ => NS f a b + NS f b a
structure Rn (f : cG) (a b : Int) (k : Nat) : Prop where
  fst : 0 ≤ (nth (w5 a b) k).fst ∧ (nth (w5 a b) k).fst < f.turnings.length
  nxt : 0 ≤ (nth (w5 a b) k).nxt ∧ (nth (w5 a b) k).nxt < f.turnings.length
  ne : (nth (w5 a b) k).fst ≠ (nth (w5 a b) k).nxt
  sum : Ql f a b (k + 1) = Ql f a b k + NS f (nth (w5 a b) k).fst (nth (w5 a b) k).nxt
end Go.Proofs.YtmmcenjknimhbaaGreat
namespace Go.Proofs.YtmmcenjknimhbaaGreat
open Go Go.T
def Fp (f : cG) (t : Int) : Int := gM f (!fG t 0 (f.turnings.length - 1))
def MR (f : cG) (t : Int) : List Int := if Fp f t = 0 then hH f t else []
theorem EF (s : Nat) : cB s = (xy 8).filter fun k => s.testBit k.toNat := by
 unfold cB mo xy
 rw [List.filter_map]; rfl
theorem uL (b : SB) (bay : Nat) : ∀ k, k ≤ (jV b).length → nth b.1.first bay ≤ (fj b bay k).2 ∧ (∀ i, i < k → nth (gl b (nth (jV b) i)) bay ≤ (fj b bay k).2) ∧ ((fj b bay k).2 = nth b.1.first bay ∨ ∃ i, i < k ∧ (fj b bay k).2 = nth (gl b (nth (jV b) i)) bay)
  | 0, _ => ⟨Int.le_refl _, fun i hi => by omega, .inl rfl⟩
  | k + 1, hk => by
    obtain ⟨h1, h2, h3⟩ := uL b bay k (by omega)
    rw [lV (by omega)]
    unfold tD
    split
    · rename_i hg
      refine ⟨by show _ ≤ nth _ bay; omega, fun i hi => ?_, .inr ⟨k, by omega, rfl⟩⟩
      show _ ≤ nth _ bay
      rcases Nat.lt_or_ge i k with hx | hx
      · have := h2 i hx; omega
      · rw [show i = k by omega]; exact Int.le_refl _
    · rename_i hg
      refine ⟨h1, fun i hi => ?_, h3.imp id fun ⟨i, hi, e⟩ => ⟨i, by omega, e⟩⟩
      rcases Nat.lt_or_ge i k with hx | hx
      · exact h2 i hx
      · rw [show i = k by omega]; omega
def je (f : cG) (bay : Nat) : Int := (qd (bO f) bay).2
theorem oH (b : SB) (bay : Nat) : qd b bay = fj b bay (jV b).length := by unfold qd fj; rw [List.take_length]
theorem Bi {f : cG} {s : Nat} : s ∈ jV (bO f) ↔ s < 2 ^ f.turnings.length ∧ eR (bO f) s = true := by
 unfold jV gh
 rw [AH, List.mem_filter, List.mem_range, xp]
theorem Kp {f : cG} (bay : Nat) {s : Nat} (hs : s < 2 ^ f.turnings.length) (hw : eR (bO f) s = true) : nth (gl (bO f) s) bay ≤ je f bay := by
 obtain ⟨i, hi, e⟩ := List.getElem_of_mem (Bi.2 ⟨hs, hw⟩)
 have := (uL (bO f) bay _ (Nat.le_refl _)).2.1 i hi
 rw [cL hi, e] at this
 unfold je; rw [oH]; exact this
theorem Gt {f : cG} (h : cA f = 0) : eR (bO f) 0 = true := (C7 h).whole
theorem HL {f : cG} (h : cA f = 0) {b : Nat} (hb : b < f.bears.length) : pz f b = (je f b, 0) := by
 unfold pz gM
 have e : fG (b : Int) 0 (f.bears.length - 1) = true := by unfold fG; simp; omega
 rw [if_neg (c := cA f ≠ 0) (fun x => x h), e, if_neg (c := (!true) = true) (by decide), if_neg (fun x => x rfl)]; rfl
structure QN (f : cG) (l : List Int) (a b : Int) : Prop where
  ha : 0 ≤ a ∧ a < f.turnings.length
  hb : 0 ≤ b ∧ b < f.turnings.length
  ne : a ≠ b
  wait : Oz f ⟨a, b⟩ = (pg f ⟨a, b⟩, 0)
  right : cA (pg f ⟨a, b⟩) = 0
  right0 : gO (pg f ⟨a, b⟩) = 0
  allowed : Dq (pg f ⟨a, b⟩) l = true
  back : Oz (pg f ⟨a, b⟩) ⟨b, a⟩ = (IA, 7)
  aE : Fp (pg f ⟨a, b⟩) b = 0 ∧ MR (pg f ⟨a, b⟩) b = hH (pg f ⟨a, b⟩) b
  aE2 : Fp f a = 0 ∧ MR f a = hH f a
section
variable {f : cG} {l : List Int} {a b : Int} (h : cA f = 0) (hf : QN f l a b)
include h hf
end
end Go.Proofs.YtmmcenjknimhbaaGreat
namespace Go.Proofs.YtmmcenjknimhbaaGreat
open Go Go.T
def sm (n : Nat) (g : Nat → Int) : Int := ((List.range n).map g).sum
theorem nK (n : Nat) (g : Nat → Int) : sm (n + 1) g = sm n g + g n := by unfold sm; exact gR n g
theorem tv {g h : Nat → Int} : ∀ n, (∀ i, i < n → g i = h i) → sm n g = sm n h
  | 0, _ => rfl
  | n + 1, e => by rw [nK, nK, tv n fun i hi => e i (by omega), e n (by omega)]
theorem Kq (g h : Nat → Int) : ∀ n, sm n (fun i => g i + h i) = sm n g + sm n h
  | 0 => rfl
  | n + 1 => by rw [nK, nK, nK, Kq g h n]; omega
theorem CM {g : Nat → Int} (n : Nat) (h : ∀ i, i < n → g i = 0) : sm n g = 0 := by
  rw [tv (h := fun _ => 0) n h]
  induction n with
  | zero => rfl
  | succ n ih => rw [nK, ih fun i hi => h i (by omega)]; rfl
theorem PT (m : Int) {n x : Nat} (h : x < n) : sm n (fun i => if x = i then m else 0) = m := by
  induction n with
  | zero => omega
  | succ n ih =>
    rw [nK]
    by_cases e : x = n
    · rw [if_pos e, CM n fun i hi => if_neg (by omega)]; omega
    · rw [if_neg e, ih (by omega)]; omega
theorem BO {f : cG} (h : cA f = 0) (s : Nat) (hs : s < 2 ^ f.turnings.length) {bay : Nat} (hb : bay < f.bears.length) : nth (gl (bO f) s) bay = nth (bO f).1.first bay + sm f.turnings.length fun t => if s.testBit t = true then zu (bO f) bay t else 0 := by
  have hr := cK h
  have hb4 := hr.ranged.bears
  have h8 := hr.ranged.turnings
  unfold gl
  rw [dQ _ (by omega), nF]
  congr 1
  show sm 8 _ = _
  obtain ⟨d, hd⟩ : ∃ d, 8 = f.turnings.length + d := ⟨8 - f.turnings.length, by omega⟩
  rw [hd]
  clear hd
  induction d with
  | zero => rfl
  | succ d ih =>
    rw [show f.turnings.length + (d + 1) = (f.turnings.length + d) + 1 by omega, nK, ih, if_neg (fun hx => by have := oX hs hx; omega)]; omega
structure Holds (f : cG) (bay : Nat) (pays : List RA) : Prop where
  pos : Pos pays
  src : ∀ p ∈ pays, 0 ≤ p.src ∧ p.src < f.turnings.length
  dst : ∀ p ∈ pays, 0 ≤ p.dst ∧ p.dst < f.turnings.length
  lead : ∀ p ∈ pays, lS f.rules p.dst p.src
  fits : ∀ t : Nat, t < f.turnings.length → Px pays t ≤ max 0 (zu (bO f) bay t) ∧ Po pays t ≤ max 0 (-(zu (bO f) bay t))
end Go.Proofs.YtmmcenjknimhbaaGreat
namespace Go.Proofs.YtmmcenjknimhbaaGreat
open Go Go.T
structure ur where
  w : SB
  bay : Nat
  paid : List Int
def ur.P (l : ur) (o t : Nat) : Int := nth l.paid (o * 8 + t)
def ur.add (l : ur) (t : Nat) : Int := zu l.w l.bay t
def ur.T (l : ur) : Nat := l.w.1.f.turnings.length
def Pj (l : ur) (t k : Nat) : Int := -(l.add t) - sm k fun o => l.P o t
def Ay (l : ur) (t : Nat) : Int := Pj l t 8
def yh (l : ur) (f : Nat) : List Int := cB (nth l.w.1.before f)
def vE (m m' : List Bool) : Prop := ∀ c, c < 8 → nth m c = true → nth m' c = true
theorem vE.refl (m : List Bool) : vE m m := fun _ _ h => h
theorem vE.trans {a b c : List Bool} (h : vE a b) (h' : vE b c) : vE a c := fun i hi hx => h' i hi (h i hi hx)
def wZ (l : ur) (o : Nat) (m : List Bool) : Prop := ∀ t ∈ yh l o, l.add t.toNat < 0 → nth m t.toNat = true
theorem wZ.mono {l : ur} {o : Nat} {m m' : List Bool} (h : wZ l o m) (hs : vE m m') : wZ l o m' := fun t ht ha => by
 obtain ⟨i, hi, _, e⟩ := jD.1 ht
 exact hs _ (by omega) (h t ht ha)
inductive uo (l : ur) : List Bool → Nat → List Int → Prop
  | last {m : List Bool} {f : Nat} {t : Int} : t ∈ yh l f → l.add t.toNat < 0 → nth m t.toNat = false → 0 < Ay l t.toNat → uo l m f [(f : Int), t]
  | step {m m' : List Bool} {f o : Nat} {t : Int} {r : List Int} : t ∈ yh l f → l.add t.toNat < 0 → nth m t.toNat = false → o ≠ f → o < l.T → l.P o t.toNat ≠ 0 → vE m m' → nth m' t.toNat = true → uo l m' o r → uo l m f ((f : Int) :: t :: r)
structure Rl (l : ur) (f t : Nat) (L : List Nat) (m : List Bool) (x : List Int × List Bool) : Prop where
  len : x.2.length = 8
  sub : vE m x.2
  yes : x.1 ≠ [] → ∃ o ∈ L, o ≠ f ∧ l.P o t ≠ 0 ∧ ∃ m', vE m m' ∧ uo l m' o x.1
  no : x.1 = [] → (∀ o ∈ L, o ≠ f → l.P o t ≠ 0 → wZ l o x.2) ∧ ∀ c, c < 8 → nth m c = false → nth x.2 c = true → Ay l c ≤ 0 ∧ ∀ o, o < l.T → l.P o c ≠ 0 → wZ l o x.2
structure Rq (l : ur) (m : List Bool) (f : Nat) (x : List Int × List Bool) : Prop where
  len : x.2.length = 8
  sub : vE m x.2
  yes : x.1 ≠ [] → uo l m f x.1
  no : x.1 = [] → wZ l f x.2 ∧ ∀ c, c < 8 → nth m c = false → nth x.2 c = true → Ay l c ≤ 0 ∧ ∀ o, o < l.T → l.P o c ≠ 0 → wZ l o x.2
structure Ro (l : ur) (f : Nat) (L : List Int) (m : List Bool) (x : List Int × List Bool) : Prop where
  len : x.2.length = 8
  sub : vE m x.2
  yes : x.1 ≠ [] → uo l m f x.1
  no : x.1 = [] → (∀ t ∈ L, l.add t.toNat < 0 → nth x.2 t.toNat = true) ∧ ∀ c, c < 8 → nth m c = false → nth x.2 c = true → Ay l c ≤ 0 ∧ ∀ o, o < l.T → l.P o c ≠ 0 → o = f ∨ wZ l o x.2
theorem uo.weaken {l : ur} {m m' : List Bool} {f : Nat} {p : List Int} (hs : vE m m') (h : uo l m' f p) : uo l m f p := by
  have fls : ∀ {t : Int}, t ∈ yh l f → nth m' t.toNat = false → nth m t.toNat = false := fun ht hx => by
    obtain ⟨i, hi, _, e⟩ := jD.1 ht
    cases hm : nth m _ with
    | false => rfl
    | true => rw [hs _ (by omega) hm] at hx; cases hx
  cases h with
  | last h1 h2 h3 h4 => exact .last h1 h2 (fls h1 h3) h4
  | step h1 h2 h3 h4 h5 h6 h7 h8 h9 => exact .step h1 h2 (fls h1 h3) h4 h5 h6 (hs.trans h7) h8 h9
def vo (l : ur) (X : Nat → Prop) : Prop := ∀ x, X x → ∀ t ∈ yh l x, l.add t.toNat < 0 → Ay l t.toNat ≤ 0 ∧ ∀ o, o < l.T → l.P o t.toNat ≠ 0 → X o
end Go.Proofs.YtmmcenjknimhbaaGreat
namespace Go.Proofs.YtmmcenjknimhbaaGreat
open Go Go.T
def wF (p : List Int) (j : Nat) : Nat := (nth p (2 * j)).toNat
def wT (p : List Int) (j : Nat) : Nat := (nth p (2 * j + 1)).toNat
structure R5 (l : ur) (f : Nat) (p : List Int) (K : Nat) : Prop where
  len : p.length = 2 * K
  one : 1 ≤ K
  first : wF p 0 = f
  nat : ∀ j, j < K → nth p (2 * j) = (wF p j : Int)
  tos : ∀ j, j < K → nth p (2 * j + 1) ∈ yh l (wF p j) ∧ l.add (wT p j) < 0
  step : ∀ j, j + 1 < K → wF p (j + 1) < l.T ∧ l.P (wF p (j + 1)) (wT p j) ≠ 0 ∧ wF p (j + 1) ≠ wF p j
  last : 0 < Ay l (wT p (K - 1))
  dist : ∀ i j, i < j → j < K → wT p i ≠ wT p j
section
variable {l : ur} (hl : l.paid.length = 64) {p : List Int} {K : Nat} (hF : ∀ j, j < K → wF p j < 8) (hT : ∀ j, j < K → wT p j < 8) (m : Int) (hK : 1 ≤ K)
include hl hF hT hK
end
structure Pc (f : cG) (bay : Nat) (l : ur) : Prop where
  w : l.w = bO f
  bay : l.bay = bay
  len : l.paid.length = 64
  nn : ∀ o t, o < 8 → t < 8 → 0 ≤ l.P o t
  pos : ∀ o t, o < 8 → t < 8 → 0 < l.P o t → (o < l.T ∧ (t : Int) ∈ yh l o) ∧ 0 < l.add o ∧ l.add t < 0
  col : ∀ t, t < 8 → sm 8 (fun o => l.P o t) ≤ max 0 (-(l.add t))
  row : ∀ o, o < 8 → sm 8 (fun t => l.P o t) ≤ max 0 (l.add o)
structure SP (f : cG) (bay : Nat) (l : ur) (u : Nat) (n : Int) (l' : ur) (m : Int) : Prop where
  inv : Pc f bay l'
  one : 1 ≤ m
  le : m ≤ n
  row : ∀ o, sm 8 (fun t => l'.P o t) = sm 8 (fun t => l.P o t) + if u = o then m else 0
  closed : ∀ X, vo l X → vo l' X
end Go.Proofs.YtmmcenjknimhbaaGreat
namespace Go.Proofs.YtmmcenjknimhbaaGreat
open Go Go.T
def ur.row (l : ur) (o : Nat) : Int := sm 8 fun t => l.P o t
def ur.col (l : ur) (t : Nat) : Int := sm 8 fun o => l.P o t
structure Ri (f : cG) (bay u : Nat) (l l' : ur) : Prop where
  inv : Pc f bay l'
  row : ∀ o, o ≠ u → l'.row o = l.row o
  closed : ∀ X, vo l X → vo l' X
  done : 0 < zu (bO f) bay u → l'.row u = zu (bO f) bay u ∨ ∃ X, vo l' X ∧ X u
structure Rx (f : cG) (bay k : Nat) (l : ur) : Prop where
  inv : Pc f bay l
  rest : ∀ o, k ≤ o → l.row o = 0
  done : ∀ o, o < k → 0 < zu (bO f) bay o → l.row o = zu (bO f) bay o ∨ ∃ X, vo l X ∧ X o
end Go.Proofs.YtmmcenjknimhbaaGreat
namespace Go.Proofs.YtmmcenjknimhbaaGreat
open Go Go.T
end Go.Proofs.YtmmcenjknimhbaaGreat
namespace Go.Proofs.YtmmcenjknimhbaaGreat
open Go Go.T
inductive Ch (f : cG) (s : Nat) : List Int → Nat → Prop
  | nil : Ch f s [] s
  | snoc {l : List Int} {s' t : Nat} : Ch f s l s' → t < f.turnings.length → s'.testBit t = false → eR (bO f) (s' ||| 1 <<< t) = true → Ch f s (l ++ [(t : Int)]) (s' ||| 1 <<< t)
theorem Ch.rep {f : cG} (h : cA f = 0) {s : Nat} {d : List Int} (hd : G8 f d s) {l : List Int} {s' : Nat} (hc : Ch f s l s') : G8 f (d ++ l) s' ∧ ∀ i, i < l.length → (∃ u, G8 f (d ++ l.take i) u) ∧ pF f (d ++ l.take i) (nth l i) = true := by
  induction hc with
  | nil => exact ⟨by rw [List.append_nil]; exact hd, fun i hi => by simp at hi⟩
  | @snoc l s' t hc ht hb hw ih =>
    obtain ⟨h1, h2⟩ := ih
    refine ⟨by rw [← List.append_assoc]; exact C3 h h1 ht hb hw, fun i hi => ?_⟩
    rw [List.length_append] at hi
    rcases Nat.lt_or_ge i l.length with c | c
    · rw [List.take_append_of_le_length (by omega), show nth (l ++ [(t : Int)]) i = nth l i by unfold nth; rw [List.getD_eq_getElem?_getD, List.getD_eq_getElem?_getD, List.getElem?_append_left c]]
      exact h2 i c
    · have e : i = l.length := by simp at hi; omega
      subst e
      rw [List.take_left, show nth (l ++ [(t : Int)]) l.length = t by unfold nth; rw [List.getD_eq_getElem?_getD, List.getElem?_append_right (Nat.le_refl _)]; simp]
      exact ⟨⟨_, h1⟩, (ux h h1 ht).2 ⟨hb, hw⟩⟩
theorem A9 (b : SB) (bay : Nat) : ∀ k, k ≤ (jV b).length → ∃ s : Nat, (fj b bay k).1 = s ∧ ((s = 0 ∧ (fj b bay k).2 = nth b.1.first bay) ∨ (s ∈ jV b ∧ (fj b bay k).2 = nth (gl b s) bay))
  | 0, _ => ⟨0, rfl, .inl ⟨rfl, rfl⟩⟩
  | k + 1, hk => by
    rw [lV (by omega)]
    unfold tD
    split
    · exact ⟨nth (jV b) k, rfl, .inr ⟨bh (by omega), rfl⟩⟩
    · exact A9 b bay k (by omega)
def xT (f : cG) (bay : Nat) : Nat := (qd (bO f) bay).1.toNat
theorem Bz {f : cG} (h : cA f = 0) {bay : Nat} (hb : bay < f.bears.length) : (qd (bO f) bay).1 = xT f bay ∧ xT f bay < 2 ^ f.turnings.length ∧ eR (bO f) (xT f bay) = true ∧ nth (gl (bO f) (xT f bay)) bay = je f bay := by
 obtain ⟨s, e, hs⟩ := A9 (bO f) bay _ (Nat.le_refl _)
 have e2 : xT f bay = s := by unfold xT; rw [oH, e]; rfl
 rw [e2, oH]
 rcases hs with ⟨rfl, hv⟩ | ⟨hm, hv⟩
 ·refine ⟨e, Nat.two_pow_pos _, Gt h, ?_⟩
  unfold je
  rw [oH, hv, BO h 0 (Nat.two_pow_pos _) hb, CM _ (fun i _ => by simp)]; omega
 obtain ⟨h1, h2⟩ := Bi.1 hm
 refine ⟨e, h1, h2, ?_⟩
 unfold je
 rw [oH, hv]
theorem Ad (s : Nat) : (cB s).Nodup := by
 rw [EF]
 refine List.Pairwise.filter _ ?_
 unfold xy
 show List.Pairwise _ _
 rw [List.pairwise_map]
 exact List.Pairwise.imp (fun h e => h (by omega)) List.nodup_range
theorem Es {f : cG} (h : cA f = 0) {s : Nat} (hs : s < 2 ^ f.turnings.length) (hw : eR (bO f) s = true) : G8 f (cB s) s where
 rng t ht := by
  obtain ⟨i, _, hb, rfl⟩ := jD.1 ht
  have := oX hs hb
  omega
 nodup := Ad s
 bit a := by
  rw [jD]
  refine ⟨fun hb => ⟨a, ?_, hb, rfl⟩, fun ⟨i, _, hb, e⟩ => by rw [show a = i by omega]; exact hb⟩
  have := oX hs hb
  have := Pn h; omega
 lt := hs
 pop := rfl
 whole := hw
end Go.Proofs.YtmmcenjknimhbaaGreat
namespace Go.Proofs.YtmmcenjknimhbaaGreat
open Go Go.T
structure SQ (f : cG) (p : RA) : Prop where
  src : 0 ≤ p.src ∧ p.src < f.turnings.length
  dst : 0 ≤ p.dst ∧ p.dst < f.turnings.length
  much : 1 ≤ p.much ∧ p.much ≤ 100000
  ne : p.dst ≠ p.src
  lead : p.dst ∈ hH f p.src
theorem Qe {f : cG} (h : cA f = 0) {t b : Nat} (ht : t < f.turnings.length) (hb : b < f.bears.length) : zu (bO f) b t = oM f t b := (IC h ht hb).trans (Ce (cK h).named ht hb)
theorem q6 (f : cG) (l : List Int) (b : Nat) : dc f l b 0 = fR f b f.bins.length := by simp [dc]
end Go.Proofs.YtmmcenjknimhbaaGreat
namespace Go.Proofs.YtmmcenjknimhbaaGreat
open Go Go.T
theorem A6 (f : cG) (b : Nat) : ∀ l : List Int, l.Nodup → (∀ t ∈ l, 0 ≤ t ∧ t < f.turnings.length) → (l.map fun t => oM f t.toNat b).sum = sm f.turnings.length fun t => if (t : Int) ∈ l then oM f t b else 0
  | [], _, _ => by rw [CM _ (fun i _ => by simp)]; rfl
  | x :: l, hn, hr => by
    have hx := hr x List.mem_cons_self
    obtain ⟨t, rfl⟩ := Int.eq_ofNat_of_zero_le hx.1
    have ih := A6 f b l (List.nodup_cons.1 hn).2 fun y hy => hr y (List.mem_cons_of_mem _ hy)
    have hnt := (List.nodup_cons.1 hn).1
    rw [List.map_cons, List.sum_cons, ih, Int.toNat_natCast, ← PT (oM f t b) (n := f.turnings.length) (x := t) (by omega), ← Kq]
    refine tv _ fun i hi => ?_
    by_cases e : t = i
    · subst e
      rw [if_pos rfl, if_neg hnt, if_pos List.mem_cons_self]; omega
    · rw [if_neg e]
      by_cases h2 : (i : Int) ∈ l
      · rw [if_pos h2, if_pos (List.mem_cons_of_mem _ h2)]; omega
      · rw [if_neg h2, if_neg (fun hx => by rcases List.mem_cons.1 hx with hx | hx; exact e (by omega); exact h2 hx)]; omega
theorem EO {f : cG} (h : cA f = 0) {b : Nat} (hb : b < f.bears.length) {l : List Int} {k s : Nat} (hr : G8 f (l.take k) s) : dc f l b k = nth (gl (bO f) s) b := by
 unfold dc
 rw [BO h s hr.lt hb, Az h hb, first_eq f hb, A6 f b _ hr.nodup hr.rng]
 congr 1
 refine tv _ fun t ht => ?_
 rw [Qe h ht hb]
 by_cases e : s.testBit t = true
 ·rw [if_pos e, if_pos ((hr.bit t).1 e)]
 rw [if_neg e, if_neg (fun hx => e ((hr.bit t).2 hx))]
theorem PJ {f : cG} (h : cA f = 0) {b : Nat} (hb : b < f.bears.length) {l : List Int} {k s : Nat} (hr : G8 f (l.take k) s) : dc f l b k ≤ je f b := by
 rw [EO h hb hr]; exact Kp b hr.lt hr.whole
theorem zm {f : cG} (h : cA f = 0) {l : List Int} (hl : ∀ i, i < l.length → pF f (l.take i) (nth l i) = true) (hr : ∀ x ∈ l, 0 ≤ x ∧ x < (f.turnings.length : Int)) : ∀ k, k ≤ l.length → ∃ s, G8 f (l.take k) s
  | 0, _ => ⟨0, by rw [List.take_zero]; exact C7 h⟩
  | k + 1, hk => by
    obtain ⟨s, hs⟩ := zm h hl hr k (by omega)
    have hx := hr _ (bh (show k < l.length by omega))
    obtain ⟨t, ht⟩ := Int.eq_ofNat_of_zero_le hx.1
    have h1 := hl k (by omega)
    rw [ht] at h1
    obtain ⟨h2, h3⟩ := (ux h hs (t := t) (by omega)).1 h1
    exact ⟨_, by rw [cE (by omega), ht]; exact C3 h hs (by omega) h2 h3⟩
theorem NH {f : cG} (h : cA f = 0) {b : Nat} (hb : b < f.bears.length) {l : List Int} (ho : jc f l = 0) : MV (vk f l b) ≤ je f b := by
 have hs := pO ho
 rw [Cv (by rw [zb]; omega)]
 intro i hi
 rw [zb] at hi
 obtain ⟨s, hr⟩ := zm h (D7 ho) hs.2.1 i (by omega)
 rw [G9 f b (by omega)]
 exact PJ h hb hr
theorem Fm {f : cG} (h : cA f = 0) {b : Nat} (hb : b < f.bears.length) : dc f (cB (xT f b)) b (cB (xT f b)).length = je f b := by
 have hs := Bz h hb
 rw [EO h hb (s := xT f b) (by rw [List.take_length]; exact Es h hs.2.1 hs.2.2.1)]
 exact hs.2.2.2
end Go.Proofs.YtmmcenjknimhbaaGreat
