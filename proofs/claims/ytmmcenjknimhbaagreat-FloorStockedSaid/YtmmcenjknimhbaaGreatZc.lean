/- Lemmas: the program and the reference walked, plain laws. -/
import Derived.Test.YtmmcenjknimhbaaGreatZb
namespace Go.Proofs.YtmmcenjknimhbaaGreat
open Go Go.T
def kY (s : nC) (n w : Int) : Span := ⟨max 0 (n - dL s (w + 1)), min 300 (n + dL (bI s) (w + 1))⟩
def OV (y : bw) (a : eo) (m : Move) : Int := if m.src = -1 then 300 else eU y a m.src (m.day + 1)
theorem D5 {s : nC} {n w : Int} (hn : 0 ≤ n ∧ n ≤ 300) (hw : 0 ≤ w) : (0 ≤ (kY s n w).lo ∧ (kY s n w).hi ≤ 300) ∧ (kY s n w).lo ≤ n ∧ n ≤ (kY s n w).hi := by
 have h1 := dW s (w + 1)
 have h2 := dW (bI s) (w + 1)
 unfold kY
 simp only
 omega
section
variable {y : bw} {a : eo} {m : Move} {n bin time : Int} {k : Nat}
def wP (y : bw) (m : Move) : bw := { y with moves := y.moves ++ [m] }
def yy (a : eo) (n : Int) : eo := { a with bM := a.bM ++ [n] }
theorem Og (hl : a.bM.length = y.moves.length) : ∀ k, k ≤ y.moves.length → gG (wP y m) (yy a n) bin time k = gG y a bin time k
  | 0, _ => rfl
  | k + 1, hk => by
    have ih := Og hl k (by omega)
    show fQ (wP y m) (yy a n) bin time k (gG (wP y m) (yy a n) bin time k) - _ = fQ y a bin time k (gG y a bin time k) - _
    rw [ih]
    unfold fQ
    have e1 : nth (wP y m).moves k = nth y.moves k := ng (by omega)
    have e2 : nth (yy a n).bM k = nth a.bM k := ng (by omega)
    rw [e1, e2]
theorem PE (hl : a.bM.length = y.moves.length) : eU (wP y m) (yy a n) bin time = eU y a bin time + (if xq m bin time = true then n else 0) - if tG m bin time = true then n else 0 := by
 unfold eU
 have e0 : (wP y m).moves.length = y.moves.length + 1 := by show (y.moves ++ [m]).length = _; rw [List.length_append]; rfl
 rw [e0]
 show fQ (wP y m) (yy a n) bin time _ (gG (wP y m) (yy a n) bin time _) - _ = _
 rw [Og hl _ (Nat.le_refl _)]
 unfold fQ
 have e1 : nth (wP y m).moves y.moves.length = m := by
  show nth (y.moves ++ [m]) (y.moves.length + 0) = m; rw [sN]; rfl
 have e2 : nth (yy a n).bM y.moves.length = n := by
  rw [← hl]; show nth (a.bM ++ [n]) (a.bM.length + 0) = n; rw [sN]; rfl
 rw [e1, e2]
theorem Js {dd : Int} (hd : ∀ k, k < y.moves.length → (nth y.moves k).day ≤ dd) (ht : dd + 1 ≤ time) : ∀ k, k ≤ y.moves.length → gG y a bin time k = gG y a bin (dd + 1) k
  | 0, _ => rfl
  | k + 1, hk => by
    have ih := Js hd ht k (by omega)
    have h := hd k (by omega)
    show fQ y a bin time k (gG y a bin time k) - _ = fQ y a bin (dd + 1) k (gG y a bin (dd + 1) k) - _
    rw [ih]
    unfold fQ xq tG
    rw [decide_eq_true (show (nth y.moves k).day < time by omega), decide_eq_true (show (nth y.moves k).day < dd + 1 by omega)]
theorem Li {b : List oc} {l : List Level} {d : Int} : eU ⟨d, b, y.moves, l⟩ a bin time = eU y a bin time := by
  unfold eU
  show gG _ a bin time y.moves.length = _
  generalize y.moves.length = k
  induction k with
  | zero => rfl
  | succ k ih =>
    show fQ _ a bin time k (gG _ a bin time k) - _ = fQ y a bin time k (gG y a bin time k) - _
    rw [ih]; rfl
def yR (y : bw) (a : eo) (m : Move) (n : Int) : Int := if m.src = -1 then n else min n (eU y a m.src m.day)
def Bu (y : bw) (a : eo) (m : Move) (n : Int) : Int := if m.dst = -1 then n else min n (300 - eU y a m.dst (m.day + 1))
def Cw (y : bw) (a : eo) (m : Move) (n : Int) : Nat → Int
  | 0 => n
  | k + 1 => if ((decide ((nth y.moves k).day = m.day) && decide ((nth y.moves k).src = m.src)) && !decide (m.src = -1)) = true then min (Cw y a m n k) (eU y a m.src m.day - nth a.bM k) else Cw y a m n k
def wL (y : bw) (a : eo) (m : Move) (n : Int) : Int := max 0 (min (Cw y a m (Bu y a m (yR y a m n)) y.moves.length) (OV y a m))
theorem G3 : ∀ k, Cw y a m n k ≤ n
  | 0 => Int.le_refl _
  | k + 1 => by
    have := G3 k
    unfold Cw; split <;> omega
theorem PO (hn : 0 ≤ n) (h1 : m.dst ≠ -1 → eU y a m.dst (m.day + 1) ≤ 300) (h2 : m.src ≠ -1 → 0 ≤ eU y a m.src (m.day + 1)) :
 (0 ≤ wL y a m n ∧ wL y a m n ≤ n) ∧ (m.dst ≠ -1 → wL y a m n ≤ 300 - eU y a m.dst (m.day + 1)) ∧ (m.src ≠ -1 → wL y a m n ≤ eU y a m.src (m.day + 1)) := by
 have h3 := G3 (y := y) (a := a) (m := m) (n := Bu y a m (yR y a m n)) y.moves.length
 have h4 : Bu y a m (yR y a m n) ≤ yR y a m n := by unfold Bu; split <;> omega
 have h5 : yR y a m n ≤ n := by unfold yR; split <;> omega
 refine ⟨?_, fun hd => ?_, fun hs => ?_⟩
 ·unfold wL; omega
 ·have h6 : Bu y a m (yR y a m n) ≤ 300 - eU y a m.dst (m.day + 1) := by unfold Bu; rw [if_neg hd]; omega
  have := h1 hd
  unfold wL; omega
 have h6 : OV y a m = eU y a m.src (m.day + 1) := if_neg hs
 have := h2 hs
 unfold wL; rw [h6]; omega
end
structure e9 where
  s : nC
  days : Int
  bins : Int
  moves : Int
  levels : Int
structure e9.Ok (d : e9) : Prop where
  days : 1 ≤ d.days ∧ d.days ≤ 5
  bins : 1 ≤ d.bins ∧ d.bins ≤ 4
  moves : 0 ≤ d.moves ∧ d.moves ≤ 10
  levels : 0 ≤ d.levels ∧ d.levels ≤ 8
namespace e9
def D (d : e9) : Int := l9 d.s 1 d.days
def Uz (d : e9) : Int := l9 (bI d.s) 1 d.bins
def nb (d : e9) : Nat := d.Uz.toNat
def bs (d : e9) : Nat → (List Int × List oc) × nC
  | 0 => (([], []), bI (bI d.s))
  | k + 1 => (((d.bs k).1.1 ++ [dL (d.bs k).2 60], (d.bs k).1.2 ++ [⟨300, kY (bI (d.bs k).2) (dL (d.bs k).2 60) 12⟩]), bI (bI (bI (d.bs k).2)))
def first (d : e9) : List Int := (d.bs d.nb).1.1
def yl (d : e9) : List oc := (d.bs d.nb).1.2
def Ke (d : e9) : Int := dL (d.bs d.nb).2 (d.moves + 1)
def many (d : e9) : Nat := d.Ke.toNat
def MT (d : e9) (s : nC) : Int := l9 s (-1) ((d.nb : Int) - 1)
def Ln (d : e9) (s : nC) : Int := l9 (bI s) (-1) ((d.nb : Int) - 1)
def src (d : e9) (s : nC) : Int := if d.MT s = d.Ln s then -1 else d.MT s
def dst (d : e9) (s : nC) : Int := if d.MT s = d.Ln s then dL (bI (bI s)) d.nb else d.Ln s
def NA (d : e9) (s : nC) : nC := if d.MT s = d.Ln s then bI (bI (bI s)) else bI (bI s)
def day (d : e9) (i : Nat) : Int := ((i : Int) * d.D).tdiv d.many
def mv (d : e9) (s : nC) (i : Nat) : Move := ⟨d.day i, d.src s, d.dst s, ⟨0, 0⟩⟩
def yd (d : e9) (ms : List Move) : bw := ⟨d.D, d.yl, ms, []⟩
def am (d : e9) (l : List Int) : eo := ⟨d.first, l⟩
def num (d : e9) (p : (List Move × List Int) × nC) (i : Nat) : Int := wL (d.yd p.1.1) (d.am p.1.2) (d.mv p.2 i) (dL (d.NA p.2) 40)
def full (d : e9) (p : (List Move × List Int) × nC) (i : Nat) : Move := { d.mv p.2 i with sacks := kY (bI (d.NA p.2)) (d.num p i) 15 }
def ms (d : e9) : Nat → (List Move × List Int) × nC
  | 0 => (([], []), bI (d.bs d.nb).2)
  | i + 1 => (((d.ms i).1.1 ++ [d.full (d.ms i) i], (d.ms i).1.2 ++ [d.num (d.ms i) i]), bI (bI (bI (d.NA (d.ms i).2))))
def bM (d : e9) : List Int := (d.ms d.many).1.2
def I0 (d : e9) : List Move := (d.ms d.many).1.1
def real (d : e9) : eo := ⟨d.first, d.bM⟩
def y0 (d : e9) : bw := d.yd d.I0
def most (d : e9) (b : Nat) : Nat → Int
  | 0 => 0
  | t + 1 => max (d.most b t) (eU d.y0 d.real b t)
def hs (d : e9) : Nat → List oc × nC
  | 0 => (d.yl, (d.ms d.many).2)
  | k + 1 => ((d.hs k).1.set k ⟨min 300 (d.most k (d.D + 1).toNat + dL (d.hs k).2 30), (nth (d.hs k).1 k).first⟩, bI (d.hs k).2)
def R1 (d : e9) : List oc := (d.hs d.nb).1
def Ux (d : e9) : Int := dL (d.hs d.nb).2 (d.levels + 1)
def nl (d : e9) : Nat := d.Ux.toNat
def Vw (d : e9) (s : nC) : Level := ⟨dL s (d.D + 1), dL (bI s) d.nb, kY (bI (bI s)) (eU d.y0 d.real (dL (bI s) d.nb) (dL s (d.D + 1))) 8⟩
def ls (d : e9) : Nat → List Level × nC
  | 0 => ([], bI (d.hs d.nb).2)
  | k + 1 => ((d.ls k).1 ++ [d.Vw (d.ls k).2], bI (bI (bI (bI (d.ls k).2))))
def J5 (d : e9) : List Level := (d.ls d.nl).1
def rE (d : e9) : bw := ⟨d.D, d.R1, d.I0, d.J5⟩
def sk (d : e9) : nC := (d.ls d.nl).2
end e9
end Go.Proofs.YtmmcenjknimhbaaGreat
namespace Go.Proofs.YtmmcenjknimhbaaGreat
open Go Go.T
theorem sO {s : nC} {lo hi : Int} (h : lo ≤ hi) : lo ≤ l9 s lo hi ∧ l9 s lo hi ≤ hi := by
 have := dW s (hi - lo + 1)
 unfold l9; omega
theorem q9 {α : Type} {l : List α} {x z : α} (h : z ∈ l ++ [x]) : z ∈ l ∨ z = x := by
 rcases List.mem_append.1 h with h | h
 ·exact .inl h
 exact .inr (List.mem_singleton.1 h)
theorem vo {α : Type} [Inhabited α] {l : List α} {x : α} {k : Nat} (h : l.length = k) : nth (l ++ [x]) k = x := by
 subst h; exact (sN (l := l) (k := [x]) (i := 0)).trans rfl
theorem F9 {i n : Nat} {D : Int} (hD : 1 ≤ D) (hi : i < n) : (0 ≤ ((i : Int) * D).tdiv n ∧ ((i : Int) * D).tdiv n < D) ∧ ∀ k : Nat, k ≤ i → ((k : Int) * D).tdiv n ≤ ((i : Int) * D).tdiv n := by
 have hn : (0 : Int) < n := by omega
 have h0 : ∀ k : Nat, 0 ≤ (k : Int) * D := fun k => Int.mul_nonneg (by omega) (by omega)
 refine ⟨?_, fun k hk => ?_⟩
 ·rw [Int.tdiv_eq_ediv_of_nonneg (h0 i)]
  refine ⟨Int.ediv_nonneg (h0 i) (by omega), Int.ediv_lt_of_lt_mul hn ?_⟩
  rw [Int.mul_comm D]
  exact Int.mul_lt_mul_of_pos_right (by omega) (by omega)
 rw [Int.tdiv_eq_ediv_of_nonneg (h0 i), Int.tdiv_eq_ediv_of_nonneg (h0 k)]
 exact Int.ediv_le_ediv hn (Int.mul_le_mul_of_nonneg_right (by omega) (by omega))
section
variable {d : e9}
theorem e9.QS (h : d.Ok) : 1 ≤ d.D ∧ d.D ≤ 5 := by
 have := h.days
 have := sO (s := d.s) h.days.1
 unfold e9.D; omega
theorem e9.OY (h : d.Ok) : (1 ≤ d.nb ∧ d.nb ≤ 4) ∧ d.Uz = (d.nb : Nat) := by
 have := h.bins
 have := sO (s := bI d.s) h.bins.1
 unfold e9.nb e9.Uz; omega
theorem e9.Es (h : d.Ok) : d.many ≤ 10 ∧ d.Ke = (d.many : Nat) := by
 have := h.moves
 have := dW (d.bs d.nb).2 (d.moves + 1)
 unfold e9.many e9.Ke; omega
theorem e9.UY (h : d.Ok) : d.nl ≤ 8 ∧ d.Ux = (d.nl : Nat) := by
 have := h.levels
 have := dW (d.hs d.nb).2 (d.levels + 1)
 unfold e9.nl e9.Ux; omega
structure VF (d : e9) (k : Nat) (p : (List Int × List oc) × nC) : Prop where
  len1 : p.1.1.length = k
  len2 : p.1.2.length = k
  taken : p.2.taken = d.s.taken + 2 + 3 * k
  first : ∀ x ∈ p.1.1, 0 ≤ x ∧ x ≤ 59
  bin : ∀ b ∈ p.1.2, b.holds = 300 ∧ (0 ≤ b.first.lo ∧ b.first.hi ≤ 300) ∧ b.first.lo ≤ b.first.hi
  fit : ∀ i, i < k → (nth p.1.2 i).first.lo ≤ nth p.1.1 i ∧ nth p.1.1 i ≤ (nth p.1.2 i).first.hi
theorem e9.Cu (d : e9) : ∀ k, VF d k (d.bs k)
  | 0 => ⟨rfl, rfl, by show (bI (bI d.s)).taken = _; rw [dw, dw]; omega, fun x h => (by cases h), fun b h => (by cases h), fun i h => (by omega)⟩
  | k + 1 => by
    obtain ⟨h1, h2, h3, h4, h5, h6⟩ := e9.Cu d k
    have hb := dW (d.bs k).2 60
    have hn := D5 (s := bI (d.bs k).2) (n := dL (d.bs k).2 60) (w := 12) (by omega) (by omega)
    refine ⟨?_, ?_, ?_, fun x hx => ?_, fun b hb => ?_, fun i hi => ?_⟩
    · show ((d.bs k).1.1 ++ [_]).length = _; rw [List.length_append, h1]; rfl
    · show ((d.bs k).1.2 ++ [_]).length = _; rw [List.length_append, h2]; rfl
    · show (bI (bI (bI (d.bs k).2))).taken = _; rw [dw, dw, dw, h3]; omega
    · rcases q9 hx with hx | rfl
      · exact h4 x hx
      · omega
    · rcases q9 hb with hb | rfl
      · exact h5 b hb
      · exact ⟨rfl, hn.1, by have := hn.2; show (kY _ _ _).lo ≤ (kY _ _ _).hi; omega⟩
    · show (nth ((d.bs k).1.2 ++ [_]) i).first.lo ≤ nth ((d.bs k).1.1 ++ [_]) i ∧ nth ((d.bs k).1.1 ++ [_]) i ≤ (nth ((d.bs k).1.2 ++ [_]) i).first.hi
      by_cases e : i < k
      · rw [ng (by omega), ng (by omega)]; exact h6 i e
      · obtain rfl : i = k := by omega
        rw [vo h1, vo h2]
        exact hn.2
theorem e9.LS (d : e9) (s : nC) : s.taken + 2 ≤ (d.NA s).taken ∧ (d.NA s).taken ≤ s.taken + 3 := by
 unfold e9.NA; split <;> simp only [dw] <;> omega
theorem e9.Rh (h : d.Ok) {s : nC} : (-1 ≤ d.src s ∧ d.src s < d.nb) ∧ (-1 ≤ d.dst s ∧ d.dst s < d.nb) ∧ d.src s ≠ d.dst s := by
 have hn := d.OY h
 have h1 := sO (s := s) (lo := -1) (hi := (d.nb : Int) - 1) (by omega)
 have h2 := sO (s := bI s) (lo := -1) (hi := (d.nb : Int) - 1) (by omega)
 have h3 := dW (bI (bI s)) d.nb
 unfold e9.src e9.dst
 split
 ·omega
 rename_i e; unfold e9.MT e9.Ln at *; omega
structure UB (d : e9) (i : Nat) (p : (List Move × List Int) × nC) : Prop where
  len1 : p.1.1.length = i
  len2 : p.1.2.length = i
  taken : d.s.taken + 3 + 3 * d.nb ≤ p.2.taken ∧ p.2.taken ≤ d.s.taken + 3 + 3 * d.nb + 6 * i
  day : ∀ k, k < i → (nth p.1.1 k).day = d.day k
  move : ∀ m ∈ p.1.1, (-1 ≤ m.src ∧ m.src < d.nb) ∧ (-1 ≤ m.dst ∧ m.dst < d.nb) ∧ m.src ≠ m.dst ∧ (0 ≤ m.sacks.lo ∧ m.sacks.hi ≤ 300) ∧ m.sacks.lo ≤ m.sacks.hi
  num : ∀ x ∈ p.1.2, 0 ≤ x ∧ x ≤ 39
  fit : ∀ k, k < i → (nth p.1.1 k).sacks.lo ≤ nth p.1.2 k ∧ nth p.1.2 k ≤ (nth p.1.1 k).sacks.hi
  cont : ∀ (b : Nat) (t : Int), b < d.nb → 0 ≤ eU (d.yd p.1.1) (d.am p.1.2) b t ∧ eU (d.yd p.1.1) (d.am p.1.2) b t ≤ 300
theorem Vb {x : Int} {n : Nat} (h : -1 ≤ x ∧ x < n) (h1 : x ≠ -1) : ∃ k : Nat, x = k ∧ k < n := ⟨x.toNat, by omega, by omega⟩
theorem e9.S1 (h : d.Ok) {i : Nat} {p : (List Move × List Int) × nC} (hp : UB d i p) : (0 ≤ d.num p i ∧ d.num p i ≤ 39) ∧ (d.dst p.2 ≠ -1 → d.num p i ≤ 300 - eU (d.yd p.1.1) (d.am p.1.2) (d.dst p.2) (d.day i + 1)) ∧ (d.src p.2 ≠ -1 → d.num p i ≤ eU (d.yd p.1.1) (d.am p.1.2) (d.src p.2) (d.day i + 1)) := by
 have hb := dW (d.NA p.2) 40
 obtain ⟨h1, h2, h3⟩ := d.Rh (s := p.2) h
 have := PO (y := d.yd p.1.1) (a := d.am p.1.2) (m := d.mv p.2 i) (n := dL (d.NA p.2) 40) (by omega)
  (fun hd => by obtain ⟨k, e, hk⟩ := Vb h2 hd; show eU _ _ (d.dst p.2) _ ≤ _; rw [e]; exact (hp.cont k _ hk).2)
  (fun hd => by obtain ⟨k, e, hk⟩ := Vb h1 hd; show _ ≤ eU _ _ (d.src p.2) _; rw [e]; exact (hp.cont k _ hk).1)
 exact ⟨⟨this.1.1, by have := this.1.2; unfold e9.num; omega⟩, this.2.1, this.2.2⟩
theorem e9.Da (h : d.Ok) : ∀ i, i ≤ d.many → UB d i (d.ms i)
  | 0, _ => by
    obtain ⟨h1, h2, h3, h4, h5, h6⟩ := d.Cu d.nb
    refine ⟨rfl, rfl, ?_, fun k hk => (by omega), fun m hm => (by cases hm), fun x hx => (by cases hx), fun k hk => (by omega), fun b t hb => ?_⟩
    · show _ ≤ (bI (d.bs d.nb).2).taken ∧ (bI (d.bs d.nb).2).taken ≤ _; rw [dw, h3]; omega
    · have := h4 _ (bL (show b < (d.bs d.nb).1.1.length by omega))
      show 0 ≤ nth d.first ((b : Nat) : Int).toNat ∧ nth d.first ((b : Nat) : Int).toNat ≤ 300
      rw [show ((b : Nat) : Int).toNat = b by omega]; unfold e9.first; omega
  | i + 1, hi => by
    have hp := e9.Da h i (by omega)
    obtain ⟨hn, hnd, hns⟩ := d.S1 h hp
    obtain ⟨h1, h2, h3, h4, h5, h6, h7, h8⟩ := hp
    have hD := d.QS h
    obtain ⟨hd1, hd2⟩ := F9 (D := d.D) (i := i) (n := d.many) hD.1 (by omega)
    obtain ⟨m1, m2, m3⟩ := d.Rh (s := (d.ms i).2) h
    have hnear := D5 (s := bI (d.NA (d.ms i).2)) (n := d.num (d.ms i) i) (w := 15) (by omega) (by omega)
    have hk := d.LS (d.ms i).2
    refine ⟨?_, ?_, ?_, fun k hk => ?_, fun m hm => ?_, fun x hx => ?_, fun k hk => ?_, fun b t hb => ?_⟩
    · show ((d.ms i).1.1 ++ [_]).length = _; rw [List.length_append, h1]; rfl
    · show ((d.ms i).1.2 ++ [_]).length = _; rw [List.length_append, h2]; rfl
    · show _ ≤ (bI (bI (bI (d.NA (d.ms i).2)))).taken ∧ (bI (bI (bI (d.NA (d.ms i).2)))).taken ≤ _
      simp only [dw]; omega
    · show (nth ((d.ms i).1.1 ++ [_]) k).day = _
      by_cases e : k < i
      · rw [ng (by omega)]; exact h4 k e
      · obtain rfl : k = i := by omega
        rw [vo h1]; rfl
    · rcases q9 hm with hm | rfl
      · exact h5 m hm
      · exact ⟨m1, m2, m3, hnear.1, by have := hnear.2; show (kY _ _ _).lo ≤ (kY _ _ _).hi; omega⟩
    · rcases q9 hx with hx | rfl
      · exact h6 x hx
      · exact hn
    · show (nth ((d.ms i).1.1 ++ [_]) k).sacks.lo ≤ nth ((d.ms i).1.2 ++ [_]) k ∧ nth ((d.ms i).1.2 ++ [_]) k ≤ (nth ((d.ms i).1.1 ++ [_]) k).sacks.hi
      by_cases e : k < i
      · rw [ng (by omega), ng (by omega)]; exact h7 k e
      · obtain rfl : k = i := by omega
        rw [vo h1, vo h2]
        exact hnear.2
    · have e0 : eU (d.yd ((d.ms i).1.1 ++ [d.full (d.ms i) i])) (d.am ((d.ms i).1.2 ++ [d.num (d.ms i) i])) b t = _ := PE (y := d.yd (d.ms i).1.1) (a := d.am (d.ms i).1.2) (m := d.full (d.ms i) i) (n := d.num (d.ms i) i) (bin := b) (time := t) (by show (d.ms i).1.2.length = (d.ms i).1.1.length; omega)
      show 0 ≤ eU (d.yd ((d.ms i).1.1 ++ [d.full (d.ms i) i])) (d.am ((d.ms i).1.2 ++ [d.num (d.ms i) i])) b t ∧ eU (d.yd ((d.ms i).1.1 ++ [d.full (d.ms i) i])) (d.am ((d.ms i).1.2 ++ [d.num (d.ms i) i])) b t ≤ 300
      have hc := h8 b t hb
      by_cases ht : d.day i < t
      · have hl : eU (d.yd (d.ms i).1.1) (d.am (d.ms i).1.2) b t = eU (d.yd (d.ms i).1.1) (d.am (d.ms i).1.2) b (d.day i + 1) :=
          Js (dd := d.day i) (fun k hk => by
            have hk : k < (d.ms i).1.1.length := hk
            show (nth (d.ms i).1.1 k).day ≤ _
            rw [h4 k (by omega)]; exact hd2 k (by omega)) (by omega) _ (Nat.le_refl _)
        have e1 : xq (d.full (d.ms i) i) b t = decide (d.dst (d.ms i).2 = (b : Int)) := by
          show (decide (d.day i < t) && _) = _; rw [decide_eq_true ht]; rfl
        have e2 : tG (d.full (d.ms i) i) b t = decide (d.src (d.ms i).2 = (b : Int)) := by
          show (decide (d.day i < t) && _) = _; rw [decide_eq_true ht]; rfl
        rw [e0, e1, e2]
        rw [hl] at hc ⊢
        by_cases q1 : d.dst (d.ms i).2 = (b : Int) <;> by_cases q2 : d.src (d.ms i).2 = (b : Int)
        · exact absurd (q2.trans q1.symm) m3
        · rw [decide_eq_true q1, decide_eq_false q2]
          have := hnd (by omega)
          rw [q1] at this
          simp only [if_true, Bool.false_eq_true, if_false]; omega
        · rw [decide_eq_false q1, decide_eq_true q2]
          have := hns (by omega)
          rw [q2] at this
          simp only [if_true, Bool.false_eq_true, if_false]; omega
        · rw [decide_eq_false q1, decide_eq_false q2]
          simp only [Bool.false_eq_true, if_false]; omega
      · have e1 : xq (d.full (d.ms i) i) b t = false := by show (decide (d.day i < t) && _) = _; rw [decide_eq_false ht]; rfl
        have e2 : tG (d.full (d.ms i) i) b t = false := by show (decide (d.day i < t) && _) = _; rw [decide_eq_false ht]; rfl
        rw [e0, e1, e2]
        simp only [Bool.false_eq_true, if_false]; omega
theorem e9.EJ (b : Nat) : ∀ k, 0 ≤ d.most b k ∧ (∀ t : Nat, t < k → eU d.y0 d.real b t ≤ d.most b k) ∧ ((∀ t : Nat, eU d.y0 d.real b t ≤ 300) → d.most b k ≤ 300)
  | 0 => ⟨Int.le_refl _, fun t h => (by omega), fun _ => (by show (0 : Int) ≤ 300; omega)⟩
  | k + 1 => by
    obtain ⟨h1, h2, h3⟩ := e9.EJ b k
    refine ⟨?_, fun t ht => ?_, fun h => ?_⟩
    · show 0 ≤ max _ _; omega
    · show _ ≤ max _ _
      by_cases e : t < k
      · have := h2 t e; omega
      · obtain rfl : t = k := by omega
        omega
    · have := h3 h; have := h k
      show max _ _ ≤ _; omega
structure VD (d : e9) (k : Nat) (p : List oc × nC) : Prop where
  len : p.1.length = d.nb
  taken : p.2.taken = (d.ms d.many).2.taken + k
  old : ∀ i, i < d.nb → (nth p.1 i).first = (nth d.yl i).first
  holds : ∀ i, i < k → 0 ≤ (nth p.1 i).holds ∧ (nth p.1 i).holds ≤ 300 ∧ min 300 (d.most i (d.D + 1).toNat) ≤ (nth p.1 i).holds
theorem e9.KC (d : e9) : ∀ k, k ≤ d.nb → VD d k (d.hs k)
  | 0, _ => ⟨(d.Cu d.nb).len2, by show (d.ms d.many).2.taken = _; omega, fun i _ => rfl, fun i h => (by omega)⟩
  | k + 1, hk => by
    obtain ⟨h1, h2, h3, h4⟩ := e9.KC d k (by omega)
    have hb := dW (d.hs k).2 30
    have hm := (d.EJ k (d.D + 1).toNat).1
    refine ⟨?_, ?_, fun i hi => ?_, fun i hi => ?_⟩
    · show ((d.hs k).1.set k _).length = _; rw [List.length_set, h1]
    · show (bI (d.hs k).2).taken = _; rw [dw, h2]; omega
    · show (nth ((d.hs k).1.set k _) i).first = _
      rw [nD (by omega)]
      split
      · rename_i e; subst e; exact h3 k hi
      · exact h3 i hi
    · show 0 ≤ (nth ((d.hs k).1.set k _) i).holds ∧ (nth ((d.hs k).1.set k _) i).holds ≤ 300 ∧ _ ≤ (nth ((d.hs k).1.set k _) i).holds
      rw [nD (by omega)]
      split
      · rename_i e; subst e
        show 0 ≤ min 300 (_ + _) ∧ min 300 (_ + _) ≤ 300 ∧ _ ≤ min 300 (_ + _)
        omega
      · exact h4 i (by omega)
structure VC (d : e9) (k : Nat) (p : List Level × nC) : Prop where
  len : p.1.length = k
  taken : p.2.taken = (d.hs d.nb).2.taken + 1 + 4 * k
  level : ∀ l ∈ p.1, (0 ≤ l.day ∧ l.day ≤ d.D) ∧ (0 ≤ l.bin ∧ l.bin < d.nb) ∧ (0 ≤ l.sacks.lo ∧ l.sacks.hi ≤ 300) ∧ l.sacks.lo ≤ eU d.y0 d.real l.bin l.day ∧ eU d.y0 d.real l.bin l.day ≤ l.sacks.hi
theorem e9.vY (h : d.Ok) (b : Nat) (t : Int) (hb : b < d.nb) : 0 ≤ eU d.y0 d.real b t ∧ eU d.y0 d.real b t ≤ 300 := (d.Da h d.many (Nat.le_refl _)).cont b t hb
theorem e9.Ju (h : d.Ok) : ∀ k, VC d k (d.ls k)
  | 0 => ⟨rfl, by show (bI (d.hs d.nb).2).taken = _; rw [dw]; omega, fun l hl => (by cases hl)⟩
  | k + 1 => by
    obtain ⟨h1, h2, h3⟩ := e9.Ju h k
    have hD := d.QS h
    have hn := d.OY h
    have b1 := dW (d.ls k).2 (d.D + 1)
    have b2 := dW (bI (d.ls k).2) d.nb
    obtain ⟨b, eb, hb⟩ : ∃ b : Nat, dL (bI (d.ls k).2) d.nb = b ∧ b < d.nb := ⟨(dL (bI (d.ls k).2) d.nb).toNat, by omega, by omega⟩
    have hc := d.vY h b (dL (d.ls k).2 (d.D + 1)) hb
    rw [← eb] at hc
    have hnear := D5 (s := bI (bI (d.ls k).2)) (w := 8) hc (by omega)
    refine ⟨?_, ?_, fun l hl => ?_⟩
    · show ((d.ls k).1 ++ [_]).length = _; rw [List.length_append, h1]; rfl
    · show (bI (bI (bI (bI (d.ls k).2)))).taken = _; simp only [dw]; omega
    · rcases q9 hl with hl | rfl
      · exact h3 l hl
      · exact ⟨⟨b1.1, by show dL (d.ls k).2 (d.D + 1) ≤ d.D; omega⟩, ⟨b2.1, by show dL (bI (d.ls k).2) d.nb < d.nb; omega⟩, hnear.1, hnear.2⟩
theorem e9.Cx (b t : Int) : eU d.rE d.real b t = eU d.y0 d.real b t := Li (y := d.y0)
theorem e9.lens (h : d.Ok) : (d.rE.bins.length = d.nb ∧ d.rE.moves.length = d.many) ∧ d.rE.levels.length = d.nl ∧ d.real.first.length = d.nb ∧ d.real.bM.length = d.many :=
 ⟨⟨(d.KC d.nb (Nat.le_refl _)).len, (d.Da h d.many (Nat.le_refl _)).len1⟩, (d.Ju h d.nl).len, (d.Cu d.nb).len1, (d.Da h d.many (Nat.le_refl _)).len2⟩
theorem e9.right (h : d.Ok) : d.rE.dj := by
 obtain ⟨⟨l1, l2⟩, l3, l4, l5⟩ := d.lens h
 have hD := d.QS h
 have hn := d.OY h
 have hm := d.Es h
 have hl := d.UY h
 have H := d.KC d.nb (Nat.le_refl _)
 have B := d.Cu d.nb
 have M := d.Da h d.many (Nat.le_refl _)
 have L := d.Ju h d.nl
 refine ⟨hD, by omega, by omega, by omega, fun b hb => ?_, fun m hm' => ?_, fun l hl' => ?_⟩
 ·obtain ⟨i, hi, rfl⟩ := Bm hb
  rw [l1] at hi
  have h1 := H.holds i hi
  have h2 := H.old i hi
  have h3 := B.bin _ (bL (show i < d.yl.length by have := B.len2; unfold e9.yl; omega))
  have e : (nth d.rE.bins i).first = (nth d.yl i).first := h2
  rw [e]
  exact ⟨⟨h1.1, h1.2.1⟩, h3.2.1, h3.2.2⟩
 ·obtain ⟨i, hi, rfl⟩ := Bm hm'
  have h1 := M.move _ hm'
  have h2 : (nth d.rE.moves i).day = d.day i := M.day i (by rw [l2] at hi; exact hi)
  have h3 := (F9 (D := d.D) (i := i) (n := d.many) hD.1 (by rw [l2] at hi; exact hi)).1
  have e : (d.rE.bins.length : Int) = d.nb := by rw [l1]
  rw [h2, e]
  exact ⟨h3, h1.1, h1.2.1, h1.2.2.1, h1.2.2.2.1, h1.2.2.2.2⟩
 have h1 := L.level _ hl'
 have e : (d.rE.bins.length : Int) = d.nb := by rw [l1]
 rw [e]
 exact ⟨h1.1, h1.2.1, h1.2.2.1, by omega⟩
theorem e9.fits (h : d.Ok) (c : Nat → Bool) : Jt d.rE c d.real := by
 obtain ⟨⟨l1, l2⟩, l3, l4, l5⟩ := d.lens h
 have hD := d.QS h
 have H := d.KC d.nb (Nat.le_refl _)
 have B := d.Cu d.nb
 have M := d.Da h d.many (Nat.le_refl _)
 have L := d.Ju h d.nl
 refine ⟨⟨by omega, by omega⟩, fun b hb => ?_, fun b t hb ht => ?_, fun i hi => ?_, fun i hi _ => ?_⟩
 ·rw [l1] at hb
  have e : (nth d.rE.bins b).first = (nth d.yl b).first := H.old b hb
  rw [e]; exact B.fit b hb
 ·rw [l1] at hb
  rw [← Hi, d.Cx]
  have h1 := d.vY h b t hb
  have h2 := H.holds b hb
  have h3 := (d.EJ b (d.D + 1).toNat).2.1 t (by have : t ≤ d.D.toNat := ht; omega)
  refine ⟨h1.1, ?_⟩
  show _ ≤ (nth (d.hs d.nb).1 b).holds
  omega
 ·rw [l2] at hi; exact M.fit i hi
 obtain ⟨h1, h2, _, h3⟩ := L.level _ (bL hi)
 rw [← Hi, d.Cx]
 rw [show (((nth d.rE.levels i).bin.toNat : Nat) : Int) = (nth d.rE.levels i).bin by have : 0 ≤ (nth d.rE.levels i).bin := h2.1; omega,
  show (((nth d.rE.levels i).day.toNat : Nat) : Int) = (nth d.rE.levels i).day by have : 0 ≤ (nth d.rE.levels i).day := h1.1; omega]
 exact h3
end
theorem MX {y : bw} (h : y.dj) : dy y = 0 := by
 have a1 : oR y = false := by
  have h1 := h.days; have h2 := h.bins; have h3 := h.moves; have h4 := h.levels
  simp only [oR, Bool.or_eq_false_iff, Bool.not_eq_false', fK, decide_eq_false_iff_not]
  omega
 have al : ∀ {s : Span}, (0 ≤ s.lo ∧ s.hi ≤ 300) ∧ s.lo ≤ s.hi → gw s = true := fun {s} h => by
  unfold gw; rw [Bool.and_eq_true, fK, fK]; omega
 have all : ∀ {α : Type} {l : List α} {p : α → Bool}, (∀ x ∈ l, p x = true) → (!l.all p) = false := fun h => by rw [Bool.not_eq_false', List.all_eq_true]; exact h
 have a2 : oo y = false := all fun b hb => by
  obtain ⟨h1, h2, h3⟩ := h.bin b hb
  rw [Bool.and_eq_true, fK, al ⟨h2, h3⟩]; exact ⟨by omega, rfl⟩
 have a3 : lR y = false := by
  unfold lR
  rw [all fun m hm => al ⟨(h.move m hm).2.2.2.2.1, (h.move m hm).2.2.2.2.2⟩, all fun l hl => al ⟨(h.level l hl).2.2.1, (h.level l hl).2.2.2⟩]; rfl
 have fin : ∀ {n : Int}, -1 ≤ n ∧ n < y.bins.length → y.fin n = true := fun {n} h => by
  unfold bw.fin bw.bin; rw [Bool.or_eq_true, decide_eq_true_eq, fK]; omega
 have a4 : GU y = false := all fun m hm => by
  obtain ⟨h1, h2, h3, _⟩ := h.move m hm
  rw [Bool.and_eq_true, Bool.and_eq_true, fK, fin h2, fin h3]; exact ⟨⟨by omega, rfl⟩, rfl⟩
 have a5 : A4 y = false := all fun l hl => by
  obtain ⟨h1, h2, _⟩ := h.level l hl
  unfold bw.time bw.bin; rw [Bool.and_eq_true, fK, fK]; omega
 have a6 : xB y = false := all fun m hm => by
  rw [Bool.not_eq_true', decide_eq_false_iff_not]; exact (h.move m hm).2.2.2.1
 have a7 : xA y = false := by
  unfold xA
  rw [all (p := fun b : oc => iV b.first) fun b hb => decide_eq_true (h.bin b hb).2.2, all (p := fun m : Move => iV m.sacks) fun m hm => decide_eq_true (h.move m hm).2.2.2.2.2, all (p := fun l : Level => iV l.sacks) fun l hl => decide_eq_true (h.level l hl).2.2.2]; rfl
 unfold dy
 rw [a1, a2, a3, a4, a5, a6, a7]; rfl
end Go.Proofs.YtmmcenjknimhbaaGreat
namespace Go.Proofs.YtmmcenjknimhbaaGreat
open Go Go.T
structure R2 where
  sacks : Int
  inn : Int
  aim : Int
  deriving Inhabited, DecidableEq
structure bR where
  sizes : List Int
  lots : List R2
  deriving Inhabited, DecidableEq
structure cr where
  dz : Int
  aim : Int
  deriving Inhabited, DecidableEq
def TF (n lo hi : Int) : Bool := decide (n ≥ lo) && decide (n ≤ hi)
theorem P2 {n lo hi : Int} : TF n lo hi = true ↔ lo ≤ n ∧ n ≤ hi := by unfold TF; simp
def bR.bin (b : bR) (n : Int) : Bool := TF n 0 (b.sizes.length - 1)
def bR.dz (b : bR) (n : Int) : Bool := TF n 0 (b.lots.length - 1)
def bR.hold (b : bR) (k i : Int) : Bool := decide (nth b.sizes k.toNat ≥ (nth b.lots i.toNat).sacks)
def UA (b : bR) : Bool := !TF b.sizes.length 1 7 || decide ((b.lots.length : Int) > 6)
def SD (b : bR) : Bool := !(b.sizes.all fun n => TF n 0 300) || !(b.lots.all fun l => TF l.sacks 1 300)
def VA (b : bR) : Bool := !(b.lots.all fun l => b.bin l.inn && (decide (l.aim = -1) || b.bin l.aim))
def SJ (l k : R2) : Bool := decide (l.inn = k.inn) || (decide (l.aim = k.aim) && !decide (l.aim = -1))
def Sm (b : bR) (i : Nat) : Bool := (b.lots.take i).any fun k => SJ (nth b.lots i) k
def Sb (b : bR) : Bool := (List.range b.lots.length).any fun i => Sm b i
def UH (b : bR) (i : Nat) : Bool := !b.hold (nth b.lots i).inn i || (!decide ((nth b.lots i).aim = -1) && !b.hold (nth b.lots i).aim i)
def Tp (b : bR) : Bool := (List.range b.lots.length).any fun i => UH b i
def JU (b : bR) : Int := if UA b then 2 else if SD b then 3 else if VA b then 1 else if Sb b then 5 else if Tp b then 9 else 0
structure bR.Small (b : bR) : Prop where
  sizes : b.sizes.length ≤ 12
  lots : b.lots.length ≤ 10
structure bR.dj (b : bR) : Prop where
  bins : 1 ≤ b.sizes.length ∧ b.sizes.length ≤ 7
  lots : b.lots.length ≤ 6
  size : ∀ n ∈ b.sizes, 0 ≤ n ∧ n ≤ 300
  sacks : ∀ l ∈ b.lots, 1 ≤ l.sacks ∧ l.sacks ≤ 300
  inn : ∀ l ∈ b.lots, 0 ≤ l.inn ∧ l.inn < b.sizes.length
  aim : ∀ l ∈ b.lots, -1 ≤ l.aim ∧ l.aim < b.sizes.length
  apart : ∀ i k, k < i → i < b.lots.length → (nth b.lots i).inn ≠ (nth b.lots k).inn ∧ ((nth b.lots i).aim = (nth b.lots k).aim → (nth b.lots i).aim = -1)
  holds : ∀ i, i < b.lots.length → (nth b.lots i).sacks ≤ nth b.sizes (nth b.lots i).inn.toNat ∧ ((nth b.lots i).aim ≠ -1 → (nth b.lots i).sacks ≤ nth b.sizes (nth b.lots i).aim.toNat)
end Go.Proofs.YtmmcenjknimhbaaGreat
namespace Go.Proofs.YtmmcenjknimhbaaGreat
open Go Go.T
end Go.Proofs.YtmmcenjknimhbaaGreat
namespace Go.T
open Go Go.RowKit
def Zt : Nat := 1000000
def M9 (M : ay) : Prop := ∀ b u, M b = some u → Zt ≤ u → u = Zt + b
def Cb (J : World → ay → Prop) : Prop := ∀ w M w' M', Wf w' M' → Le (fun t => Zt ≤ t) (fun t => Zt ≤ t) w M w' M' → J w M → J w' M'
def UK (P : Program) (l : Nat) (encs : List (List Ty)) (J : Nat → World → ay → Prop) (Jx : World → ay → Prop) : Prop :=
  ∀ (k : Nat) (tys : List Ty), encs[k]? = some tys → ∀ w M vs, Wf w M → M9 M → J k w M → cD w M tys vs →
    YieldAt Fence.wide 0 P l vs.toArray w fun e w' => ∃ M', Wf w' M' ∧ M9 M' ∧ Le (fun t => t < Zt) (fun t => t < Zt) w M w' M' ∧ ((e = .returned (.bool true) ∧ J (k + 1) w' M') ∨ (e = .returned (.bool false) ∧ Jx w' M'))
def fO (P : Program) (f : FuncId) (args : Nat → List Ty) (encs : List (List Ty)) (resD resS : Ty) : Prop :=
  (∃ fn, P.funcs[f]? = some fn ∧ (fn.name == "runtime.NumGoroutine") = false ∧ fn.body.isNone = false) ∧
  ∀ l J Jx, (∀ k, Cb (J k)) → Cb Jx → UK P l encs J Jx → ∀ w M vs, Wf w M → M9 M → cD w M (args l) vs → J 0 w M →
    Calls P f vs.toArray w fun e w' => ∃ r M', e = .returned r ∧ Wf w' M' ∧ M9 M' ∧ ((resD.den w' M' r ∧ J encs.length w' M') ∨ (resS.den w' M' r ∧ Jx w' M'))
def mW (J : World → ay → Prop) (w : World) (M : ay) (_ : Nat) : Prop :=
  ∃ Mc, Wf w Mc ∧ M9 Mc ∧ J w Mc ∧ (∀ b, M b = none → Mc b = none) ∧ ∀ b t, b < w.heap.size → M b = some (t + 1) → Mc b = some (Zt + b)
def CJ {J : World → ay → Prop} (hJ : Cb J) : Cont :=
  { den := mW J, deps := [0], cdeps := [0]
    mono := fun {S K w w' M M' t} le hk hs _ _ ⟨Mc, wf, z, hj, h1, h2⟩ => by
      have hk0 : ¬ K 0 := hk 0 (by simp)
      have hs0 : ¬ S 0 := hs 0 (by simp)
      have zero : ∀ b, M b = some 0 → M' b = some 0 ∧ w'.heap[b]? = w.heap[b]? := fun b h => let ⟨a, c⟩ := le.own b 0 h hk0; ⟨a, c hs0⟩
      have mb : ∀ b t, Mc b = some t → t < Zt → M b = some 0 := fun b t h ht => by
        cases hm : M b with
        | none => rw [h1 b hm] at h; cases h
        | some u =>
          cases u with
          | zero => rfl
          | succ u =>
            have := h2 b u (wf.lt b t h) hm
            rw [this] at h; injection h with h; omega
      have lez : Le (fun t => Zt ≤ t) (fun t => Zt ≤ t) w Mc w' (fun b => if b < w'.heap.size then (match M' b with | none => none | some (_ + 1) => some (Zt + b) | some 0 => if b < w.heap.size ∧ M b = some 0 then Mc b else some (Zt + b)) else none) := by
        refine ⟨le.size, le.os, le.tape, le.out, fun b hb hm => ?_, fun b t hm ht => ?_⟩
        · cases hmb : M b with
          | none =>
            obtain ⟨a, c⟩ := le.qy b hb hmb
            refine ⟨?_, c⟩
            simp only [a]; split <;> rfl
          | some u =>
            cases u with
            | zero =>
              obtain ⟨a, c⟩ := zero b hmb
              refine ⟨?_, c⟩
              simp only [a, hmb, hb, and_self, if_true, hm]; split <;> rfl
            | succ u => rw [h2 b u hb hmb] at hm; cases hm
        · have hlt := wf.lt b t hm
          have h0 := mb b t hm (Nat.lt_of_not_le ht)
          obtain ⟨a, c⟩ := zero b h0
          refine ⟨?_, fun _ => c⟩
          have : b < w'.heap.size := Nat.lt_of_lt_of_le hlt le.size
          simp only [this, if_true, a, h0, hlt, and_self]; exact hm
      have zok : M9 (fun b => if b < w'.heap.size then (match M' b with | none => none | some (_ + 1) => some (Zt + b) | some 0 => if b < w.heap.size ∧ M b = some 0 then Mc b else some (Zt + b)) else none) := by
        intro b u h hu
        simp only at h
        split at h
        · split at h
          · cases h
          · injection h with h; exact h.symm
          · split at h
            · exact z b u h hu
            · injection h with h; exact h.symm
        · cases h
      have wf' : Wf w' (fun b => if b < w'.heap.size then (match M' b with | none => none | some (_ + 1) => some (Zt + b) | some 0 => if b < w.heap.size ∧ M b = some 0 then Mc b else some (Zt + b)) else none) := by
        refine ⟨fun b t h => ?_, fun b b' t ht1 h h' => ?_⟩
        · split at h
          · assumption
          · cases h
        · by_cases hz : Zt ≤ t + 1
          · have e1 := zok b _ h hz
            have e2 := zok b' _ h' hz
            omega
          · have part : ∀ b, (if b < w'.heap.size then (match M' b with | none => none | some (_ + 1) => some (Zt + b) | some 0 => if b < w.heap.size ∧ M b = some 0 then Mc b else some (Zt + b)) else none) = some (t + 1) → Mc b = some (t + 1) := fun b h => by
              split at h
              · split at h
                · cases h
                · injection h with h; omega
                · split at h
                  · exact h
                  · injection h with h; omega
              · cases h
            exact wf.inj b b' t ht1 (part b h) (part b' h')
      refine ⟨_, wf', zok, hJ _ _ _ _ wf' lez hj, fun b h => ?_, fun b t hb h => ?_⟩
      · simp only [h]; split <;> rfl
      · simp only [h, hb, if_true] }
section
variable {P : Program} {fr : Fr} {ops : Array Oper} {A : As} {rest : List Oper} {K : As → List (As × Fx) → Prop} {d : Nat} {t : TypeId} {p : String} {e : Array Edge} {Q : Exit → Act → World → Prop}
def lq (P : Program) (fr : Fr) (ops : Array Oper) (o : Oper) (A : As) (f g : Fx) : Prop :=
  (f.d = o.dst ∧ f.K = []) ∧ (g.d = o.dst ∧ g.K = []) ∧
  ∀ a w M, Wf w M → a.tmps.size = fr.n → (∀ c, c < fr.n → (A.slots c).den w M (a.tmps.getD c undef)) → (∀ x ∈ A.tags, x.2.den w M x.1) →
    Region.wanted o (yielded ops a.tmps) = true ∧ o.wpIn fr.kd.iU 0 P a w (fun a' w' => ∃ v, a' = a.put o.dst v ∧ (f.left w M w' v ∨ g.left w M w' v)) (fun _ _ _ => False)
theorem vq {f : Fx} {a : Act} {w w' : World} {M : ay} {v : Value} (hkd : fr.kd = .iter) (hK : f.K = [])
    (ok : Ok fr a w M) (hs : ∀ c, c < fr.n → (A.slots c).den w M (a.tmps.getD c undef)) (ht : ∀ x ∈ A.tags, x.2.den w M x.1) (hl : f.left w M w' v) : (A.after f).holds fr (a.put f.d v) w' := by
  obtain ⟨M', wf', le, hv, hsets⟩ := hl
  have hnd := ok.iw (by rw [hkd]; simp)
  have hb : fr.base w' M' := (ok.base.trans le).weaken (fun t _ => by rw [hkd]; trivial) (fun t ht => ht.elim id (fun h => by rw [hK] at h; cases h))
  refine ⟨M', ⟨wf', hb, by rw [size_put, ok.size], by rw [vA, hnd]; exact Defs.nil⟩, fun c hc => ?_, fun x hx => ?_⟩
  · rw [AV a f.d v c (by rw [ok.size]; exact hc)]
    have key : (gI f.S f.K A.slots c).den w' M' (a.tmps.getD c undef) := by
      rcases fu f.S f.K A.slots c with ⟨e, hdj⟩ | ⟨_, e⟩
      · rw [e]
        exact (A.slots c).mono le (fL hdj).1 (fL hdj).2 (hs c hc)
      · rw [e]; trivial
    simp only [As.after, p7]
    cases hfd : f.d with
    | none => simpa using key
    | some d =>
      by_cases e : d = c
      · subst e; simpa using hv
      · have e' : Nat.beq c d = false := by cases h : Nat.beq c d with | false => rfl | true => exact absurd (Nat.eq_of_beq_eq_true h).symm e
        simpa [e, e'] using key
  · rcases List.mem_append.1 hx with hx | hx
    · exact hsets x hx
    · exact jJ le hx fun y hy _ => ht y hy
theorem Ah {rest : List Oper} : ∀ (l : List Oper) (A : As) (K : As → List (As × Fx) → Prop) (a : Act) (w : World), aV P fr ops l A K → A.holds fr a w →
    (∀ A' s a w, K A' s → A'.holds fr a w → wpListIn fr.kd.iU 0 P ops Q rest a w) → wpListIn fr.kd.iU 0 P ops Q (l ++ rest) a w
  | [], A, K, a, w, h, ha, hk => hk A [] a w h ha
  | o :: l, A, K, a, w, ⟨f, ⟨hd, hsets, hS, hK, hop⟩, hrest⟩, ⟨M, ok, hs, ht⟩, hk => by
    have h := hop a w M ok.wf ok.size (fun c _ hc => hs c hc) (fun x hx _ => ht x hx)
    rw [List.cons_append]
    unfold wpListIn
    split
    · rename_i hw
      rw [if_pos hw] at h
      refine Oper.pz (fun a' w' ⟨v, e, hl⟩ => ?_) h
      subst e
      rw [← hd]
      exact Ah l _ _ _ _ hrest (oQ hS hK ok hs ht hl) fun A' s a w hk' hA => hk A' _ a w hk' hA
    · rename_i hw
      rw [if_neg hw] at h
      refine ⟨fun f _ => fr.kd.vI f, ?_⟩
      rw [← hd]
      exact Ah l _ _ _ _ hrest (oQ hS hK ok hs ht h) fun A' s a w hk' hA => hk A' _ a w hk' hA
theorem LF {id : Nat} {l1 l2 : List Oper} {o : Oper} (hkd : fr.kd = .iter)
 (h : aV P fr (l1 ++ o :: l2).toArray l1 A fun A1 _ => ∃ f g, lq P fr (l1 ++ o :: l2).toArray o A1 f g ∧ aV P fr (l1 ++ o :: l2).toArray l2 (A1.after f) (fun A' _ => cU fr A' (Q .normal)) ∧ aV P fr (l1 ++ o :: l2).toArray l2 (A1.after g) (fun A' _ => cU fr A' (Q .normal))) :
 eZ P fr (.region id (l1 ++ o :: l2).toArray false) A Q := by
 intro a w ha
 refine wpIn_region_lit (Ah l1 A _ a w h ha fun A1 s a w ⟨f, g, ⟨⟨hf1, hf2⟩, ⟨hg1, hg2⟩, hop⟩, h1, h2⟩ ⟨M, ok, hs, ht⟩ => ?_)
 obtain ⟨hw, hwp⟩ := hop a w M ok.wf ok.size hs ht
 unfold wpListIn
 rw [if_pos hw]
 refine Oper.pz (fun a' w' ⟨v, e, hl⟩ => ?_) hwp
 subst e
 rcases hl with hl | hl
 ·rw [← hf1]; exact pQ l2 _ _ _ _ h1 (vq hkd hf2 ok hs ht hl) fun _ _ _ _ hk hA => hk _ _ hA
 rw [← hg1]; exact pQ l2 _ _ _ _ h2 (vq hkd hg2 ok hs ht hl) fun _ _ _ _ hk hA => hk _ _ hA
theorem SE {op : Op} {dst : Option Nat} {j s : Nat} {want : Bool} {f : Fx} (hs : nY ops j = some s) (hn : Nat.blt s fr.n = true) (hc : A.slots s = .bool want) (h1 : CM P fr ops ⟨dst, op, t, p, e, none⟩ A f) :
 CM P fr ops ⟨dst, op, t, p, e, some (j, want)⟩ A { f with rs := s :: f.rs } := by
 obtain ⟨hd, hsets, hS, hK, hop⟩ := h1
 refine ⟨hd, hsets, hS, hK, fun a w M wf hsz hrd htg => ?_⟩
 have hv := hrd s List.mem_cons_self (by simpa using hn)
 rw [hc] at hv
 have hy := kI (ops := ops) hs (by rw [hsz]; simpa using hn) hv
 have hw : Region.wanted ⟨dst, op, t, p, e, some (j, want)⟩ (yielded ops a.tmps) = true := by simp [Region.wanted, hy]
 have h := hop a w M wf hsz (fun c hc => hrd c (List.mem_cons_of_mem _ hc)) htg
 rw [if_pos (by simp [Region.wanted])] at h
 rw [if_pos hw]
 exact h
theorem IW {op : Op} {dst : Option Nat} {j s : Nat} {want : Bool} {f : Fx} (hs : nY ops j = some s) (hn : Nat.blt s fr.n = true) (hc : A.slots s = .bool want) (h1 : CM P fr ops ⟨dst, op, t, p, e, none⟩ A f)
 (h : aV P fr ops rest (A.after f) fun A' l' => K A' ((A, { f with rs := s :: f.rs }) :: l')) : aV P fr ops (⟨dst, op, t, p, e, some (j, want)⟩ :: rest) A K := ⟨_, SE hs hn hc h1, h⟩
theorem An {op : Op} {j s : Nat} {want c : Bool} (hs : nY ops j = some s) (hn : Nat.blt s fr.n = true) (hc : A.slots s = .bool c) (hne : (c == want) = false)
 (h : aV P fr ops rest (A.set d (.ex undef)) fun A' l' => K A' ((A, { d := some d, ty := .ex undef, rs := [s] }) :: l')) : aV P fr ops (⟨some d, op, t, p, e, some (j, want)⟩ :: rest) A K := by
 refine ⟨{ d := some d, ty := .ex undef, rs := [s] }, ⟨rfl, (by simp), (by simp), (by simp), fun a w M wf hsz hrd htg => ?_⟩, h⟩
 have hv := hrd s List.mem_cons_self (by simpa using hn)
 rw [hc] at hv
 have hy := kI (ops := ops) hs (by rw [hsz]; simpa using hn) hv
 have hw : Region.wanted ⟨some d, op, t, p, e, some (j, want)⟩ (yielded ops a.tmps) = false := by
  simp only [Region.wanted, hy]
  cases c <;> cases want <;> simp_all
 rw [if_neg (by rw [hw]; simp)]
 exact ⟨M, wf, Le.refl _ _ _ _, rfl, by simp⟩
def yv (l : Nat) : Value := .func (.yield l) #[] #[]
theorem S9 {op : Op} {dst : Option Nat} {j s : Nat} {want : Bool} {f g : Fx} (hs : nY ops j = some s) (hn : Nat.blt s fr.n = true) (hc : A.slots s = .bool want) (h1 : lq P fr ops ⟨dst, op, t, p, e, none⟩ A f g) :
 lq P fr ops ⟨dst, op, t, p, e, some (j, want)⟩ A f g := by
 obtain ⟨hf, hg, hop⟩ := h1
 refine ⟨hf, hg, fun a w M wf hsz hrd htg => ?_⟩
 have hv := hrd s (by simpa using hn)
 rw [hc] at hv
 have hy := kI (ops := ops) hs (by rw [hsz]; simpa using hn) hv
 exact ⟨by simp [Region.wanted, hy], (hop a w M wf hsz hrd htg).2⟩
theorem Mf {c l k : Nat} {encs : List (List Ty)} {J : Nat → World → ay → Prop} {Jx : World → ay → Prop} (hJ : ∀ k, Cb (J k)) (hJx : Cb Jx) (hY : UK P l encs J Jx) {xs : List Operand} {ats : Array TypeId} {tys : List Ty} {dst : Option Nat}
    (hkd : fr.kd = .iter) (hc : A.op fr (.tmp c) = .ex (yv l)) (hx : oS A fr xs = tys) (hd : bp tys = []) (hdc : bU tys = []) (hk : encs[k]? = some tys) (ht : A.tag 0 = some (CJ (hJ k))) :
    lq P fr ops ⟨dst, .call ⟨.value (.tmp c), xs.toArray, ats⟩, t, p, e, none⟩ A { d := dst, ty := .bool true, S := [0], sets := [(0, CJ (hJ (k + 1)))] } { d := dst, ty := .bool false, S := [0], sets := [(0, CJ hJx)] } := by
  refine ⟨⟨rfl, rfl⟩, ⟨rfl, rfl⟩, fun a w M wf hsz hrd htg => ⟨by simp [Region.wanted], ?_⟩⟩
  have hcv := cA (x := .tmp c) (rs := c :: xs.flatMap bq) (fun u hu => by exact (List.mem_singleton.1 hu) ▸ List.mem_cons_self) (fun c _ hn => hrd c hn)
  rw [hc] at hcv
  have hcv : a.eval (.tmp c) = yv l := hcv
  obtain ⟨Mc, wfc, z, hj, h1, h2⟩ := htg _ (dD ht)
  have hv : cD w Mc tys (xs.map a.eval) := oH h1 hd hdc (hx ▸ fk (rs := c :: xs.flatMap bq) (fun c _ hn => hrd c hn) fun x hx c hc => List.mem_cons_of_mem _ (List.mem_flatMap.2 ⟨x, hx, hc⟩))
  obtain ⟨fn, tmps, assign, body, hy, hR⟩ := hY k tys hk w Mc _ wfc z hj hv
  refine ⟨fun f _ => fr.kd.vI f, ?_⟩
  have hrun : (execOp a.eval ⟨dst, .call ⟨.value (.tmp c), xs.toArray, ats⟩, t, p, e, none⟩).run P w = .ok (.round l fn tmps assign body) w := by
    simp [execOp, resolve, hcv, yv, Deferred.ofValue, invoke, hy]
  rw [Oper.semAt_eq _ _ _ (by intro c h; cases h), hrun, Oper.uponIn_round]
  refine ⟨fun h => (by rw [fr.kd.AX] at h; cases h), ?_⟩
  have hfe : fr.kd.iU = Fence.wide := by rw [hkd]; rfl
  rw [hfe]
  refine RoundIn.mono hR fun en w' ⟨Mc', wf', z', le, hor⟩ => ?_
  have Mle : Le (· ∈ [0]) (· ∈ ([] : List Nat)) w M w' (fun b => if b < w.heap.size then M b else (Mc' b).map fun _ => 0) := by
    refine ⟨le.size, le.os, le.tape, le.out, fun b hb hm => ⟨by simp [hb, hm], (le.qy b hb (h1 b hm)).2⟩, fun b u hm _ => ⟨by simp [wf.lt b u hm, hm], fun hs => ?_⟩⟩
    cases u with
    | zero => exact absurd (by simp) hs
    | succ u => exact (le.own b _ (h2 b u (wf.lt b _ hm) hm) (by omega)).2 (by omega)
  have Mwf : Wf w' (fun b => if b < w.heap.size then M b else (Mc' b).map fun _ => 0) := by
    refine ⟨fun b u h => ?_, fun b b' u ht1 h h' => ?_⟩
    · split at h
      · exact Nat.lt_of_lt_of_le ‹_› le.size
      · obtain ⟨v, hv, _⟩ := Option.map_eq_some_iff.1 h
        exact wf'.lt b v hv
    · have part : ∀ b, (if b < w.heap.size then M b else (Mc' b).map fun _ => 0) = some (u + 1) → M b = some (u + 1) := fun b h => by
        split at h
        · exact h
        · obtain ⟨v, _, hv⟩ := Option.map_eq_some_iff.1 h
          cases hv
      exact wf.inj b b' u ht1 (part b h) (part b' h')
  have hc1 : ∀ b, (if b < w.heap.size then M b else (Mc' b).map fun _ => 0) = none → Mc' b = none := fun b h => by
    split at h
    · exact (le.qy b ‹_› (h1 b h)).1
    · simpa using h
  have hc2 : ∀ b u, b < w'.heap.size → (if b < w.heap.size then M b else (Mc' b).map fun _ => 0) = some (u + 1) → Mc' b = some (Zt + b) := fun b u _ h => by
    split at h
    · exact (le.own b _ (h2 b u ‹_› h) (by omega)).1
    · obtain ⟨v, _, hv⟩ := Option.map_eq_some_iff.1 h
      cases hv
  rcases hor with ⟨rfl, hj'⟩ | ⟨rfl, hj'⟩
  · exact ⟨.bool true, rfl, .inl ⟨_, Mwf, Mle, rfl, fun x hx => by rw [List.mem_singleton.1 hx]; exact ⟨Mc', wf', z', hj', hc1, hc2⟩⟩⟩
  · exact ⟨.bool false, rfl, .inr ⟨_, Mwf, Mle, rfl, fun x hx => by rw [List.mem_singleton.1 hx]; exact ⟨Mc', wf', z', hj', hc1, hc2⟩⟩⟩
end
def bV (n : Nat) (J : Nat → World → ay → Prop) (Jx : World → ay → Prop) (resD resS : Ty) (e : Ending) (w' : World) : Prop :=
  ∃ r M', e = .returned r ∧ Wf w' M' ∧ M9 M' ∧ ((resD.den w' M' r ∧ J n w' M') ∨ (resS.den w' M' r ∧ Jx w' M'))
section
variable {P : Program} {A : As}
theorem L9 {f : FuncId} {fn : Func} {c : Code} {args : Nat → List Ty} {encs : List (List Ty)} {resD resS : Ty} {n : Nat} (hf : P.funcs[f]? = some fn) (hb : fn.body = some c) (hn : (fn.name == "runtime.NumGoroutine") = false) (hnt : fn.ntmps = n) (hl : ∀ l, (args l).length ≤ n) (hdd : ∀ l, bp (args l) = [] ∧ bU (args l) = [])
    (h : ∀ l J Jx (hJ : ∀ k, Cb (J k)) (hJx : Cb Jx), UK P l encs J Jx → ∀ w0 M0, eZ P ⟨n, w0, M0, [], .iter⟩ c (ED (args l) [(0, CJ (hJ 0))]) (bodyPost P fn (bV encs.length J Jx resD resS))) : fO P f args encs resD resS := by
  refine ⟨⟨fn, hf, hn, by rw [hb]; rfl⟩, fun l J Jx hJ hJx hY w M vs wf z hd hj => calls_of_wp hf hb (wpIn_wide.1 (h l J Jx hJ hJx hY w (Ma M) _ _ ?_))⟩
  have hlen := cI hd
  have hl := hl l
  refine ⟨Ma M, ⟨E0 wf, Le.refl _ _ _ _, by simp [hnt, hlen]; omega, Defs.nil⟩, fun c hc => ?_, fun x hx => ?_⟩
  · simp only [ED]
    cases ha : (args l)[c]? with
    | none => trivial
    | some ty =>
      obtain ⟨v, hv, hdv⟩ := dQ (mX (hdd l).1 (hdd l).2 hd) c ty ha
      have : (vs.toArray ++ Array.replicate (fn.ntmps - vs.toArray.size) undef).getD c undef = v := by
        have hlt : c < vs.length := (List.getElem?_eq_some_iff.1 hv).1
        rw [Array.getD_eq_getD_getElem?, Array.getElem?_append_left (by simpa using hlt)]
        simp [hv]
      rw [this]; exact hdv
  · rw [List.mem_singleton.1 hx]
    refine ⟨M, wf, z, hj, fun b h => ?_, fun b t _ h => ?_⟩
    · unfold Ma at h; simpa using h
    · have := wH b _ h; omega
variable {fn : Func} {n m : Nat} {w0 : World} {M0 : ay} {J : Nat → World → ay → Prop} {Jx : World → ay → Prop} {resD resS : Ty}
theorem SK {hJ : Cb (J m)} (hr : fn.results = #[]) (ht : A.tag 0 = some (CJ hJ)) : cU ⟨n, w0, M0, [], .iter⟩ A (bodyPost P fn (bV m J Jx (Ty.tE []) resS) .ret) := by
 intro a w ⟨M, ok, hsl, htg⟩
 obtain ⟨Mc, wfc, z, hj, h1, h2⟩ := htg _ (dD ht)
 exact ⟨ok.iw (by simp), _, results_none hr _ _ _, _, Mc, rfl, wfc, z, .inl ⟨⟨_, rfl, trivial⟩, hj⟩⟩
theorem RF {hJx : Cb Jx} (hr : fn.results = #[]) (ht : A.tag 0 = some (CJ hJx)) : cU ⟨n, w0, M0, [], .iter⟩ A (bodyPost P fn (bV m J Jx resD (Ty.tE [])) .ret) := by
 intro a w ⟨M, ok, hsl, htg⟩
 obtain ⟨Mc, wfc, z, hj, h1, h2⟩ := htg _ (dD ht)
 exact ⟨ok.iw (by simp), _, results_none hr _ _ _, _, Mc, rfl, wfc, z, .inr ⟨⟨_, rfl, trivial⟩, hj⟩⟩
end
end Go.T
namespace Go.T
open Go Go.RowKit
theorem EK : 1 ≤ Zt := by decide
def gB (M : ay) : ay := fun b => match M b with | none => none | some t => if Zt ≤ t then some 0 else some t
theorem iq {M : ay} {b : Nat} (h : M b = none) : gB M b = none := by simp [gB, h]
theorem fm {M : ay} {b t : Nat} (h : M b = some t) (ht : t < Zt) : gB M b = some t := by
 have : ¬ Zt ≤ t := by omega
 simp [gB, h, this]
theorem BQ {M : ay} {b t : Nat} (h : M b = some t) (ht : Zt ≤ t) : gB M b = some 0 := by simp [gB, h, ht]
theorem p9 {M : ay} {b t : Nat} (h : gB M b = some (t + 1)) : M b = some (t + 1) ∧ t + 1 < Zt := by
 unfold gB at h
 split at h
 ·cases h
 rename_i u hu
 split at h
 ·cases h
 injection h with h; subst h; exact ⟨hu, by omega⟩
theorem rq {w : World} {M : ay} (wf : Wf w M) : Wf w (gB M) :=
  ⟨fun b t h => by
    cases hm : M b with
    | none => rw [iq hm] at h; cases h
    | some u => exact wf.lt b u hm, fun b b' t ht1 h h' => wf.inj b b' t ht1 (p9 h).1 (p9 h').1⟩
theorem EO {M : ay} {b u : Nat} (h : gB M b = some u) : u < Zt := by
 unfold gB at h
 split at h
 ·cases h
 split at h
 ·injection h with h; subst h; decide
 injection h with h; omega
def Dr (n : Nat) (pass : List Nat) (s : Nat → Ty) : Bool := (List.range n).all fun c => (s c).cdeps.isEmpty && (s c).deps.all fun t => pass.contains t
def xH (l l' : List Nat) : Bool := l.all (fun t => l'.contains t) && l'.all fun t => Nat.ble 1 t && Nat.blt t 1000000
def U2 (l : List Nat) : Bool := l.all fun t => Nat.ble 1 t && Nat.blt t 1000000
def qE (l : List (Nat × Cont)) : Bool := l.all fun x => Nat.ble 1 x.1 && (Nat.blt x.1 1000000 && (U2 x.2.deps && U2 x.2.cdeps))
theorem Gb {l : List Nat} (h : U2 l = true) : ∀ t ∈ l, 1 ≤ t ∧ t < Zt := by
 intro t ht
 simp only [U2, List.all_eq_true, Bool.and_eq_true, Nat.ble_eq, Nat.blt_eq] at h
 exact h t ht
theorem lZ {l : List (Nat × Cont)} (h : qE l = true) : ∀ x ∈ l, (1 ≤ x.1 ∧ x.1 < Zt) ∧ (∀ t ∈ x.2.deps, 1 ≤ t ∧ t < Zt) ∧ ∀ t ∈ x.2.cdeps, 1 ≤ t ∧ t < Zt := by
 intro x hx
 simp only [qE, List.all_eq_true, Bool.and_eq_true, Nat.ble_eq, Nat.blt_eq] at h
 obtain ⟨h1, h2, h3, h4⟩ := h x hx
 exact ⟨⟨h1, h2⟩, Gb h3, Gb h4⟩
theorem nL {n : Nat} {pass : List Nat} {s : Nat → Ty} (h : Dr n pass s = true) : ∀ c, c < n → (s c).cdeps = [] ∧ ∀ t ∈ (s c).deps, t ∈ pass := by
 intro c hc
 simp only [Dr, List.all_eq_true, Bool.and_eq_true, List.mem_range, List.isEmpty_iff, List.contains_iff_mem] at h
 exact h c hc
theorem rM {l l' : List Nat} (h : xH l l' = true) : (∀ t ∈ l, t ∈ l') ∧ ∀ t ∈ l', 1 ≤ t ∧ t < Zt := by
 simp only [xH, Bool.and_eq_true, List.all_eq_true, List.contains_iff_mem, Nat.ble_eq, Nat.blt_eq] at h
 exact ⟨h.1, h.2⟩
theorem GL {w : World} {M : ay} {n : Nat} : ∀ (l : List (Nat × Ty)) (vs : List Value) (tm : Array Value) (s : Nat → Ty), (l.map Prod.fst).Nodup → tm.size = n → (∀ c, c < n → (s c).den w M (tm.getD c undef)) → cD w M (l.map Prod.snd) vs →
    (((l.map Prod.fst).zip vs).foldl (fun t (p, v) => t.setIfInBounds p v) tm).size = n ∧ ∀ c, c < n → (qI l s c).den w M ((((l.map Prod.fst).zip vs).foldl (fun t (p, v) => t.setIfInBounds p v) tm).getD c undef)
  | [], [], tm, s, _, hsz, hs, _ => ⟨hsz, hs⟩
  | (d, ty) :: l, v :: vs, tm, s, hnd, hsz, hs, ⟨hv, hvs⟩ => by
    simp only [List.map_cons, List.nodup_cons] at hnd
    have hs' : ∀ c, c < n → ((fun i => bif Nat.beq i d then ty else s i) c).den w M ((tm.setIfInBounds d v).getD c undef) := fun c hc => by
      simp only [Array.getD_eq_getD_getElem?, Array.getElem?_setIfInBounds]
      by_cases e : d = c
      · subst e; simpa [hsz, hc] using hv
      · have e' : Nat.beq c d = false := by cases h : Nat.beq c d with | false => rfl | true => exact absurd (Nat.eq_of_beq_eq_true h).symm e
        simpa [e, e', Array.getD_eq_getD_getElem?] using hs c hc
    obtain ⟨h1, h2⟩ := GL l vs (tm.setIfInBounds d v) (fun i => bif Nat.beq i d then ty else s i) hnd.2 (by simpa using hsz) hs' hvs
    have hset : ∀ c, qI ((d, ty) :: l) s c = qI l (fun i => bif Nat.beq i d then ty else s i) c := by
      intro c
      have hl : ∀ (l : List (Nat × Ty)) (s s' : Nat → Ty), (∀ i, i = c → i ∉ l.map Prod.fst → s i = s' i) → qI l s c = qI l s' c := by
        intro l
        induction l with
        | nil => intro s s' h; exact h c rfl (by simp)
        | cons x l ih =>
          intro s s' h
          simp only [qI]
          cases hb : Nat.beq c x.1 with
          | true => rfl
          | false =>
            simp only [cond_false]
            refine ih s s' fun i hi hm => h i hi fun hm' => ?_
            rw [List.map_cons] at hm'
            rcases List.mem_cons.1 hm' with h1 | h1
            · rw [← h1, hi] at hb; simp at hb
            · exact hm h1
      simp only [qI]
      by_cases e : c = d
      · subst e
        have hb : Nat.beq c c = true := by simp
        rw [hb, cond_true]
        have : ∀ (l : List (Nat × Ty)) (s : Nat → Ty), c ∉ l.map Prod.fst → qI l s c = s c := by
          intro l
          induction l with
          | nil => intro s _; rfl
          | cons x l ih =>
            intro s h
            simp only [List.map_cons, List.mem_cons, not_or] at h
            have hb : Nat.beq c x.1 = false := by cases hb : Nat.beq c x.1 with | false => rfl | true => exact absurd (Nat.eq_of_beq_eq_true hb) h.1
            simp only [qI, hb, cond_false]
            exact ih s h.2
        rw [this l _ hnd.1]
        simp
      · have hb : Nat.beq c d = false := by cases hb : Nat.beq c d with | false => rfl | true => exact absurd (Nat.eq_of_beq_eq_true hb) e
        rw [hb, cond_false]
        exact hl l _ _ fun i hi _ => by subst hi; simp [hb]
    refine ⟨h1, fun c hc => ?_⟩
    rw [hset]; exact h2 c hc
def SH : Nat → Ty := fun _ => Ty.any
def cV (fr : Fr) (B : List (Nat × Cont)) (br : Bool) (tr : List (Nat × Cont)) : Exit → Act → World → Prop
  | .normal, a, w => As.holds fr ⟨SH, B⟩ a w
  | .ret, a, w => br = true ∧ As.holds fr ⟨SH, tr⟩ a w
  | _, _, _ => False
theorem GP {fr : Fr} {A : As} {B : List (Nat × Cont)} {br : Bool} {tr : List (Nat × Cont)} (h : c8 fr A ⟨SH, B⟩) : cU fr A (cV fr B br tr .normal) := fun _ _ ha => h.holds ha
def NZ (P : Program) (n : Nat) (pass : List Nat) (assign body : Code) (A : As) (B : List (Nat × Cont)) (br : Bool) (tr : List (Nat × Cont)) : Prop :=
  ∃ A1 : As, (∀ l w M, eZ P ⟨n, w, M, pass, .round l⟩ assign A (Exit.then (fun a w' => A1.holds ⟨n, w, M, pass, .round l⟩ a w') fun _ _ _ => False)) ∧
    ∀ l w M, eZ P ⟨n, w, M, pass, .round l⟩ body (A1.after { d := none, S := [0] }) (cV ⟨n, w, M, pass, .round l⟩ B br tr)
section
variable {P : Program} {fr : Fr} {A : As} {Q : Exit → Act → World → Prop}
theorem FX {w : World} {M : ay} {l : Nat} {o : Obj} (h0 : fr.w0.heap.size ≤ l) (h1 : ∀ t, ¬ (1 ≤ t ∧ t ∉ fr.pass) → fr.M0 l ≠ some t) (hb : fr.base w M) : fr.base (w.putObj l o) M := by
 refine ⟨by simpa using hb.size, hb.os, hb.tape, hb.out, fun b hlt hm => ⟨(hb.qy b hlt hm).1, ?_⟩, fun b t hm hk => ⟨(hb.own b t hm hk).1, fun hs => ?_⟩⟩
 ·rw [World.putObj_heap_other (by omega)]; exact (hb.qy b hlt hm).2
 rw [World.putObj_heap_other (fun e => h1 t hk (by rw [← e]; exact hm))]; exact (hb.own b t hm hk).2 hs
theorem zJ {w : World} {M : ay} {l : Nat} {o : Obj} (hl : M l = some 0) : Le (· ∈ [0]) (· ∈ ([] : List Nat)) w M (w.putObj l o) M := by
 refine ⟨by simp, rfl, rfl, rfl, fun b hb hm => ⟨hm, World.putObj_heap_other fun e => by rw [e, hl] at hm; cases hm⟩, fun b t hm _ => ⟨hm, fun hs => World.putObj_heap_other fun e => ?_⟩⟩
 rw [e, hl] at hm; injection hm with hm; exact hs (by simp [hm])
def JJ (fr : Fr) (s : Nat → Ty) (tm : Array Value) (ds : List Deferred) (l : Nat) (r : Loop) (tg : List (Nat × Cont)) (w : World) (M : ay) : Prop :=
  fr.base w M ∧ (∀ c, c < fr.n → (s c).den w M (tm.getD c undef)) ∧ (∀ x ∈ tg, x.2.den w M x.1) ∧ M l = some 0 ∧ w.heap[l]? = some (.loop r) ∧ Defs fr w M ds
theorem Rt {s : Nat → Ty} {tm : Array Value} {ds : List Deferred} {l : Nat} {r : Loop} {tg : List (Nat × Cont)} {pass' : List Nat} (hpass : xH fr.pass pass' = true) (hs : Dr fr.n pass' s = true) (ht : qE tg = true) : Cb (JJ fr s tm ds l r tg) := by
 intro w M w' M' wf' le ⟨h1, h2, h3, h4, h5, h6⟩
 obtain ⟨hp1, hp2⟩ := rM hpass
 obtain ⟨a, c⟩ := le.own l 0 h4 (by decide)
 refine ⟨Fr.lK h1 (fun t ht => Nat.le_trans EK ht) (fun t ht => ⟨Nat.le_trans EK ht, fun hm => by have := (hp2 t (hp1 t hm)).2; omega⟩) le, fun c hc => ?_, fun x hx => ?_, a, (c (by decide)).trans h5, h6.step (fun t ht => Nat.le_trans EK ht) (fun t ht => Nat.le_trans EK ht) le⟩
 ·obtain ⟨e1, e2⟩ := nL hs c hc
  exact (s c).mono le (fun t ht hz => by have := (hp2 t (e2 t ht)).2; omega) (by rw [e1]; intro _ h; cases h) (h2 c hc)
 obtain ⟨⟨_, e2⟩, e3, e4⟩ := lZ ht x hx
 exact x.2.mono le (fun t ht hz => by have := (e3 t ht).2; omega) (fun t ht hz => by have := (e4 t ht).2; omega) (by omega) (by omega) (h3 x hx)
def qm (w : World) (M M3 : ay) : ay := fun b => match M b with | some u => if b < w.heap.size ∧ Zt ≤ u then some u else gB M3 b | none => gB M3 b
theorem C4 {s : Nat → Ty} {tm : Array Value} {ds : List Deferred} {l : Nat} {r r3 r4 : Loop} {tg0 tg : List (Nat × Cont)} {pass' : List Nat} (hpass : xH fr.pass pass' = true) (hs : Dr fr.n pass' s = true) (ht : qE tg = true) (hkd : fr.kd = .marks)
    (h0 : fr.w0.heap.size ≤ l) (h1 : ∀ t, ¬ (1 ≤ t ∧ t ∉ fr.pass) → fr.M0 l ≠ some t)
    {w w1 w3 : World} {M M1 M3 : ay} (wf : Wf w M) (z : M9 M) (hj : JJ fr s tm ds l r tg0 w M)
    (le1 : Le (fun t => 1 ≤ t) (fun t => 1 ≤ t ∧ t ∉ pass') w (gB M) w1 M1) (wf3 : Wf w3 M3) (le3 : Le (fun t => 1 ≤ t) (fun t => 1 ≤ t ∧ t ∉ pass') (w1.putObj l (.loop r3)) M1 w3 M3)
    (htg : ∀ x ∈ tg, x.2.den w3 M3 x.1) :
    w3.heap[l]? = some (.loop r3) ∧ ∃ M4, Wf (w3.putObj l (.loop r4)) M4 ∧ M9 M4 ∧ Le (fun t => t < Zt) (fun t => t < Zt) w M (w3.putObj l (.loop r4)) M4 ∧ JJ fr s tm ds l r4 tg (w3.putObj l (.loop r4)) M4 := by
  obtain ⟨hb, hsl, _, hl, hrec, hdef⟩ := hj
  obtain ⟨hp1, hp2⟩ := rM hpass
  have hlt : l < w.heap.size := wf.lt l 0 hl
  have hZ : (1 : Nat) ≤ Zt := by decide
  -- a block whose tag is 0, or another one that stays
  have zero : ∀ b, gB M b = some 0 → M3 b = some 0 ∧ (b ≠ l → w3.heap[b]? = w.heap[b]?) := fun b h => by
    obtain ⟨a, c⟩ := le1.own b 0 h (by omega)
    obtain ⟨a', c'⟩ := le3.own b 0 a (by omega)
    exact ⟨a', fun e => (c' (by omega)).trans ((World.putObj_heap_other e).trans (c (by omega)))⟩
  have pas : ∀ b t, t ∈ pass' → M b = some t → M3 b = some t := fun b t hm h => by
    obtain ⟨a, _⟩ := le1.own b t (fm h (hp2 t hm).2) (fun h => h.2 hm)
    exact (le3.own b t a fun h => h.2 hm).1
  have qy : ∀ b, b < w.heap.size → M b = none → M3 b = none ∧ w3.heap[b]? = w.heap[b]? := fun b hb h => by
    obtain ⟨a, c⟩ := le1.qy b hb (iq h)
    obtain ⟨a', c'⟩ := le3.qy b (by simpa using Nat.lt_of_lt_of_le hb le1.size) a
    exact ⟨a', c'.trans ((World.putObj_heap_other fun e => by rw [e, hl] at h; cases h).trans c)⟩
  have hl0 : gB M l = some 0 := fm hl (by decide)
  have hM1l := (le1.own l 0 hl0 (by omega)).1
  have hl1 : l < w1.heap.size := Nat.lt_of_lt_of_le hlt le1.size
  have hrec3 : w3.heap[l]? = some (.loop r3) := ((le3.own l 0 hM1l (by omega)).2 (by omega)).trans (World.putObj_heap_same hl1)
  have hM3l := (zero l hl0).1
  have hsz3 : w.heap.size ≤ w3.heap.size := Nat.le_trans le1.size (by simpa using le3.size)
  refine ⟨hrec3, qm w M M3, ?_⟩
  -- how the tags are
  have kept : ∀ b u, M b = some u → Zt ≤ u → qm w M M3 b = some u := fun b u h hu => by
    unfold qm; rw [h]; simp [wf.lt b u h, hu]
  have other : ∀ b, (∀ u, M b = some u → u < Zt) → qm w M M3 b = gB M3 b := fun b h => by
    unfold qm
    cases hm : M b with
    | none => rfl
    | some u => have := h u hm; simp only; rw [if_neg (by omega)]
  have from3 : ∀ b t, M3 b = some t → 1 ≤ t → ∀ u, M b = some u → u < Zt := fun b t h h1 u hu => by
    rcases Nat.lt_or_ge u Zt with h2 | h2
    · exact h2
    · have := (zero b (BQ hu h2)).1
      rw [this] at h; injection h with h; omega
  have none3 : ∀ b, M3 b = none → ∀ u, M b = some u → u < Zt := fun b h u hu => by
    rcases Nat.lt_or_ge u Zt with h2 | h2
    · exact h2
    · have := (zero b (BQ hu h2)).1
      rw [this] at h; cases h
  have zok : M9 (qm w M M3) := fun b u h hu => by
    unfold qm at h
    split at h
    · rename_i v hv
      split at h
      · injection h with h; subst h; exact z b v hv hu
      · have := EO h; omega
    · have := EO h; omega
  have wf4 : Wf (w3.putObj l (.loop r4)) (qm w M M3) := by
    refine ⟨fun b t h => ?_, fun b b' t ht1 h h' => ?_⟩
    · rw [World.putObj_size]
      unfold qm at h
      split at h
      · split at h
        · rename_i hc; exact Nat.lt_of_lt_of_le hc.1 hsz3
        · exact (rq wf3).lt b t h
      · exact (rq wf3).lt b t h
    · by_cases hz : Zt ≤ t + 1
      · have e1 := zok b _ h hz
        have e2 := zok b' _ h' hz
        omega
      · have part : ∀ b, qm w M M3 b = some (t + 1) → M3 b = some (t + 1) := fun b h => by
          unfold qm at h
          split at h
          · split at h
            · injection h with h; omega
            · exact (p9 h).1
          · exact (p9 h).1
        exact wf3.inj b b' t ht1 (part b h) (part b' h')
  have le0 : Le (· ∈ [0]) (· ∈ ([] : List Nat)) w3 M3 (w3.putObj l (.loop r4)) M3 := zJ hM3l
  have leZ : Le (fun t => t < Zt) (fun t => t < Zt) w M (w3.putObj l (.loop r4)) (qm w M M3) := by
    refine ⟨by simpa using hsz3, (le0.os.trans (le3.os.trans le1.os)), (le0.tape.trans (le3.tape.trans le1.tape)), (le0.out.trans (le3.out.trans le1.out)), fun b hb hm => ?_, fun b t hm ht => ⟨kept b t hm (by omega), fun _ => ?_⟩⟩
    · obtain ⟨a, c⟩ := qy b hb hm
      refine ⟨by rw [other b (fun u hu => by rw [hm] at hu; cases hu)]; exact iq a, ?_⟩
      rw [World.putObj_heap_other fun e => by rw [e, hl] at hm; cases hm]; exact c
    · have hbl : b ≠ l := fun e => by rw [e, hl] at hm; injection hm with hm; omega
      rw [World.putObj_heap_other hbl]
      exact (zero b (BQ hm (by omega))).2 hbl
  refine ⟨wf4, zok, leZ, ?_, fun c hc => ?_, fun x hx => ?_, ?_, World.putObj_heap_same (Nat.lt_of_lt_of_le hlt hsz3), ?_⟩
  · refine ⟨Nat.le_trans hb.size leZ.size, leZ.os.trans hb.os, leZ.tape.trans hb.tape, leZ.out.trans hb.out, fun b hlt' hm => ?_, fun b t hm hk => ?_⟩
    · obtain ⟨a, c⟩ := hb.qy b hlt' hm
      obtain ⟨a', c'⟩ := leZ.qy b (Nat.lt_of_lt_of_le hlt' hb.size) a
      exact ⟨a', c'.trans c⟩
    · obtain ⟨a, c⟩ := hb.own b t hm hk
      have hbl : b ≠ l := fun e => h1 t hk (e ▸ hm)
      by_cases ht0 : t = 0
      · subst ht0
        obtain ⟨a', c'⟩ := zero b (fm a (by decide))
        refine ⟨by rw [other b (fun u hu => by rw [a] at hu; injection hu with hu; omega)]; exact fm a' (by decide), fun hs => ?_⟩
        rw [World.putObj_heap_other hbl]; exact (c' hbl).trans (c hs)
      · have htp : t ∈ fr.pass := Classical.byContradiction fun h => hk ⟨by omega, h⟩
        have htp' := hp1 t htp
        refine ⟨by rw [other b (fun u hu => by rw [a] at hu; injection hu with hu; have := (hp2 t htp').2; omega)]; exact fm (pas b t htp' a) (hp2 t htp').2, fun hs => absurd (FK.KL (k := fr.kd) (by omega : 1 ≤ t)) hs⟩
  · obtain ⟨e1, e2⟩ := nL hs c hc
    refine (s c).mono (S := fun _ => True) (K := fun t => t ∉ pass') ⟨leZ.size, leZ.os, leZ.tape, leZ.out, leZ.qy, fun b t hm hk => ⟨?_, fun h => absurd trivial h⟩⟩ (fun t ht h => h (e2 t ht)) (by rw [e1]; intro _ h; cases h) (hsl c hc)
    have htp : t ∈ pass' := Classical.byContradiction fun h => hk h
    rw [other b (fun u hu => by rw [hm] at hu; injection hu with hu; have := (hp2 t htp).2; omega)]
    exact fm (pas b t htp hm) (hp2 t htp).2
  · obtain ⟨⟨g1, g2⟩, e3, e4⟩ := lZ ht x hx
    refine x.2.mono (w := w3) (M := M3) (S := fun t => t = 0) (K := fun t => t = 0 ∨ Zt ≤ t) ⟨by simp, rfl, rfl, rfl, fun b hb hm => ⟨?_, ?_⟩, fun b t hm hk => ⟨?_, fun _ => ?_⟩⟩ (fun t ht h => by have := e3 t ht; omega) (fun t ht h => by have := (e4 t ht).1; omega) (by omega) (by omega) (htg x hx)
    · rw [other b (none3 b hm)]; exact iq hm
    · exact World.putObj_heap_other fun e => by rw [e, hM3l] at hm; cases hm
    · have ht1 : 1 ≤ t := Nat.pos_of_ne_zero fun h => hk (.inl h)
      rw [other b (from3 b t hm ht1)]; exact fm hm (Nat.lt_of_not_le fun h => hk (.inr h))
    · exact World.putObj_heap_other fun e => by rw [e, hM3l] at hm; injection hm with hm; exact hk (.inl hm.symm)
  · rw [other l (fun u hu => by rw [hl] at hu; injection hu with hu; omega)]; exact fm hM3l (by decide)
  · obtain ⟨rs, e, g1, g2, g3⟩ := hdef
    refine ⟨rs, e, g1, g2, fun q hq => ?_⟩
    obtain ⟨a, b, c⟩ := g3 q hq
    have hql : q ≠ l := fun e => by rw [e, hrec] at c; cases c
    obtain ⟨a', c'⟩ := zero q (fm a (by decide))
    refine ⟨by rw [other q (fun u hu => by rw [a] at hu; injection hu with hu; omega)]; exact fm a' (by decide), b, ?_⟩
    rw [World.putObj_heap_other hql]; exact (c' hql).trans c
theorem EZ {g : Operand} {ps : List Tmp} {assign body : Code} {gf : FuncId} {caps : List Ty} {encs : List (List Ty)} {resD resS : Ty} (s : Nat → Ty) (tg : Nat → List (Nat × Cont)) (br : Bool) (tr : List (Nat × Cont)) (pass' : List Nat)
    (hkd : fr.kd = .marks) (hg : A.op fr g = .j9 gf caps) (hI1 : ∃ fn, P.funcs[gf]? = some fn ∧ (fn.name == "runtime.NumGoroutine") = false ∧ fn.body.isNone = false) (hI2 : ∀ (l : Nat) (J : Nat → World → ay → Prop) (Jx : World → ay → Prop) (tm : Array Value), (∀ k, Cb (J k)) → Cb Jx → UK P l encs J Jx → (∀ k w M, J k w M → (∀ c, c < fr.n → (s c).den w M (tm.getD c undef)) ∧ ∀ x ∈ tg k, x.2.den w M x.1) → ∀ w M vs, Wf w M → M9 M → cD w M (Ty.ex (yv l) :: caps) vs → J 0 w M → Calls P gf vs.toArray w (bV encs.length J Jx resD resS)) (hcd : ∀ t ∈ bp caps, t < Zt) (hcc : ∀ t ∈ bU caps, t < Zt)
    (hps : ps.Nodup) (hlen : ∀ tys ∈ encs, tys.length = ps.length ∧ bp tys = [] ∧ bU tys = []) (hpass : xH fr.pass pass' = true) (hs : Dr fr.n pass' s = true) (htg : ∀ k, qE (tg k) = true) (htr : qE tr = true)
    (h0 : c8 fr A ⟨s, tg 0⟩)
    (hround : ∀ k tys, encs[k]? = some tys → NZ P fr.n pass' assign body ⟨qI (ps.zip tys) s, tg k⟩ (tg (k + 1)) br tr)
    (hdone : cU fr ⟨s, tg encs.length⟩ (Q .normal)) (hret : br = true → cU fr ⟨s, tr⟩ (Q .ret)) :
    eZ P fr (.rangeFunc g ps.toArray assign body) A Q := by
  intro a w ha
  have hfe : fr.kd.iU = Fence.wide := by rw [hkd]; rfl
  rw [hfe]
  obtain ⟨hp1, hp2⟩ := rM hpass
  have hgv : ∃ cs : Array Value, a.eval g = .func (.func gf) #[] cs ∧ ∃ M, cD w M caps cs.toList := by
    obtain ⟨M, _, hsl, _⟩ := ha
    have := cA (x := g) (rs := bq g) (fun _ h => h) (fun c _ hn => hsl c hn)
    rw [hg] at this
    obtain ⟨cs, e, hd⟩ := this
    exact ⟨cs, e, M, hd⟩
  obtain ⟨M, ok, hsl0, htg0⟩ := id ha
  have hcs : ∃ cs : Array Value, a.eval g = .func (.func gf) #[] cs ∧ cD w M caps cs.toList := by
    have := cA (x := g) (rs := bq g) (fun _ h => h) (fun c _ hn => hsl0 c hn)
    rw [hg] at this
    exact this
  obtain ⟨cs, hev, hcaps⟩ := hcs
  have hB0 := h0.holds (a := a) (w := w) ⟨M, ok, hsl0, htg0⟩
  -- the same tags: the assertion that is forgotten down to holds of them, too
  have hslB : ∀ c, c < fr.n → (s c).den w M (a.tmps.getD c undef) := fun c hc => (uo h0.slots c hc) _ _ _ (hsl0 c hc)
  have htgB : ∀ x ∈ tg 0, x.2.den w M x.1 := fun x hx => by
    obtain ⟨C, hC, hsub⟩ := sB h0.tags x hx
    exact hsub _ _ _ (htg0 _ (dD hC))
  have hZ : (1 : Nat) ≤ Zt := by decide
  refine wpIn_rangeFunc fun fn _ => ?_
  obtain ⟨w1, hw1⟩ : ∃ w1, (w.alloc (.deferred (some []))).alloc (.loop { state := .ready, pending := none, fn, tmps := a.tmps, params := ps.toArray, assign, body, defers := w.heap.size }) = w1 := ⟨_, rfl⟩
  refine ⟨w.heap.size + 1, _, w1, { target := .fn (.func gf) cs, args := #[yv (w.heap.size + 1)] }, w1, gf, (yv (w.heap.size + 1) :: cs.toList).toArray, w1, by rw [← hw1]; exact run_enterLoop_outer fn a.tmps ps.toArray assign body, ?_, fun _ _ => trivial, ?_, (fun h => by cases h), ?_⟩
  · simp [resolve, rangeCall, hev, Deferred.ofValue, yv]; rfl
  · obtain ⟨fn', hf, hn, hb⟩ := hI1
    have hn' : fn'.name ≠ "runtime.NumGoroutine" := by simpa using hn
    have hb' : fn'.body ≠ none := fun h => by rw [h] at hb; cases hb
    simp [invoke, callFunc, hf, hn', hb']
  -- the world in which the iterator is called
  have hnone : ∀ b, w.heap.size ≤ b → M b = none := fun b hb => by
    cases hm : M b with
    | none => rfl
    | some t => have := ok.wf.lt b t hm; omega
  have hsz1 : w1.heap.size = w.heap.size + 2 := by rw [← hw1]; simp
  have hD : w1.heap[w.heap.size]? = some (.deferred (some [])) := by
    rw [← hw1]
    show ((w.heap.push _).push _)[w.heap.size]? = _
    rw [Array.getElem?_push, if_neg (by simp), Array.getElem?_push, if_pos rfl]
  have hL : w1.heap[w.heap.size + 1]? = some (.loop { state := .ready, pending := none, fn, tmps := a.tmps, params := ps.toArray, assign, body, defers := w.heap.size }) := by
    rw [← hw1]
    show ((w.heap.push _).push _)[w.heap.size + 1]? = _
    rw [Array.getElem?_push, if_pos (by simp)]
  have hold : ∀ b, b < w.heap.size → w1.heap[b]? = w.heap[b]? := fun b hb => by
    rw [← hw1]
    show ((w.heap.push _).push _)[b]? = _
    rw [Array.getElem?_push, if_neg (by simp; omega), Array.getElem?_push, if_neg (by omega)]
  have hw1os : w1.os = w.os ∧ w1.tape = w.tape ∧ w1.output = w.output := by rw [← hw1]; exact ⟨rfl, rfl, rfl⟩
  have leN : Le (fun t => Zt ≤ t) (fun t => Zt ≤ t) w M w1 (fun b => if b = w.heap.size ∨ b = w.heap.size + 1 then some 0 else gB M b) := by
    refine ⟨by omega, hw1os.1, hw1os.2.1, hw1os.2.2, fun b hb hm => ⟨?_, hold b hb⟩, fun b t hm ht => ⟨?_, fun _ => hold b (ok.wf.lt b t hm)⟩⟩
    · rw [if_neg (by omega)]; exact iq hm
    · have := ok.wf.lt b t hm
      rw [if_neg (by omega)]; exact fm hm (Nat.lt_of_not_le ht)
  have wf1 : Wf w1 (fun b => if b = w.heap.size ∨ b = w.heap.size + 1 then some 0 else gB M b) := by
    refine ⟨fun b t h => ?_, fun b b' t ht1 h h' => ?_⟩
    · split at h
      · omega
      · have := (rq ok.wf).lt b t h; omega
    · have part : ∀ b, (if b = w.heap.size ∨ b = w.heap.size + 1 then some 0 else gB M b) = some (t + 1) → gB M b = some (t + 1) := fun b h => by
        split at h
        · cases h
        · exact h
      exact (rq ok.wf).inj b b' t ht1 (part b h) (part b' h')
  have z1 : M9 (fun b => if b = w.heap.size ∨ b = w.heap.size + 1 then some 0 else gB M b) := fun b u h hu => by
    simp only at h
    split at h
    · injection h with h; omega
    · have := EO h; omega
  have hbl0 : fr.w0.heap.size ≤ w.heap.size + 1 := Nat.le_succ_of_le ok.base.size
  have hbl1 : ∀ t, ¬ (1 ≤ t ∧ t ∉ fr.pass) → fr.M0 (w.heap.size + 1) ≠ some t := fun t ht h => by
    have := (ok.base.own _ t h ht).1
    rw [hnone _ (by omega)] at this; cases this
  have defs1 : Defs fr w1 (fun b => if b = w.heap.size ∨ b = w.heap.size + 1 then some 0 else gB M b) (xj w.heap.size :: a.defers) := by
    obtain ⟨rs, e, g1, g2, g3⟩ := ok.defers
    refine ⟨w.heap.size :: rs, by rw [e]; rfl, fun _ => hkd, List.nodup_cons.2 ⟨fun h => ?_, g2⟩, fun q hq => ?_⟩
    · have := ok.wf.lt _ _ (g3 _ h).1; omega
    · rcases List.mem_cons.1 hq with rfl | hq
      · refine ⟨by simp, ⟨ok.base.size, fun t ht h => ?_⟩, hD⟩
        have := (ok.base.own _ t h ht).1
        rw [hnone _ (Nat.le_refl _)] at this; cases this
      · obtain ⟨a1, b1, c1⟩ := g3 q hq
        have := ok.wf.lt _ _ a1
        exact ⟨by simp only; rw [if_neg (by omega)]; exact fm a1 (by decide), b1, (hold q this).trans c1⟩
  -- between two rounds
  let R : LoopState → Option Code → Loop := fun st pe => { state := st, pending := pe, fn, tmps := a.tmps, params := ps.toArray, assign, body, defers := w.heap.size }
  let J : Nat → World → ay → Prop := fun k => JJ fr s a.tmps (xj w.heap.size :: a.defers) (w.heap.size + 1) (R .ready none) (tg k)
  let Jx : World → ay → Prop := fun w' M' => br = true ∧ JJ fr s a.tmps (xj w.heap.size :: a.defers) (w.heap.size + 1) (R .done (some .ret)) tr w' M'
  have hJ : ∀ k, Cb (J k) := fun k => Rt hpass hs (htg k)
  have hJx : Cb Jx := fun w M w' M' wf le ⟨h, hj⟩ => ⟨h, Rt hpass hs htr w M w' M' wf le hj⟩
  have hj0 : J 0 w1 (fun b => if b = w.heap.size ∨ b = w.heap.size + 1 then some 0 else gB M b) := by
    refine ⟨Fr.lK ok.base (fun t ht => by omega) (fun t ht => ⟨by omega, fun hm => by have := (hp2 t (hp1 t hm)).2; omega⟩) leN, fun c hc => ?_, fun x hx => ?_, by simp, hL, defs1⟩
    · obtain ⟨e1, e2⟩ := nL hs c hc
      exact (s c).mono leN (fun t ht hz => by have := (hp2 t (e2 t ht)).2; omega) (by rw [e1]; intro _ h; cases h) (hslB c hc)
    · obtain ⟨⟨_, e2⟩, e3, e4⟩ := lZ (htg 0) x hx
      exact x.2.mono leN (fun t ht hz => by have := (e3 t ht).2; omega) (fun t ht hz => by have := (e4 t ht).2; omega) (by omega) (by omega) (htgB x hx)
  have hY : UK P (w.heap.size + 1) encs J Jx := by
    intro k tys hk w2 M2 vs wf2 z2 hj hv
    obtain ⟨jb, jsl, jtg, jl, jrec, jdef⟩ := id hj
    have hvl := cI hv
    obtain ⟨htl, hte, htc⟩ := hlen tys (List.mem_of_getElem? hk)
    have hrunY := run_yield (P := P) (args := vs.toArray) jrec (by simp [R]; omega)
    refine ⟨_, _, _, _, hrunY, roundIn_of_wpIn trivial ?_⟩
    obtain ⟨A1, hassign, hbody⟩ := hround k tys hk
    have hzip : (ps.zip tys).map Prod.fst = ps := by rw [List.map_fst_zip (by omega)]
    have hzip2 : (ps.zip tys).map Prod.snd = tys := by rw [List.map_snd_zip (by omega)]
    have conv : ∀ {t : Ty} {v : Value}, (∀ u ∈ t.deps, u < Zt) → t.den w2 M2 v → t.den w2 (gB M2) v := fun {t v} hd h =>
      t.mono (S := fun _ => False) (K := fun u => Zt ≤ u) ⟨Nat.le_refl _, rfl, rfl, rfl, fun b _ hm => ⟨iq hm, rfl⟩, fun b u hm hk => ⟨fm hm (Nat.lt_of_not_le hk), fun _ => rfl⟩⟩ (fun u hu hz => by have := hd u hu; omega) (fun _ _ h => h) h
    have convC : ∀ {C : Cont} {t : Nat}, (∀ u ∈ C.deps, u < Zt) → t < Zt → C.den w2 M2 t → C.den w2 (gB M2) t := fun {C t} hd ht h =>
      C.mono (S := fun _ => False) (K := fun u => Zt ≤ u) ⟨Nat.le_refl _, rfl, rfl, rfl, fun b _ hm => ⟨iq hm, rfl⟩, fun b u hm hk => ⟨fm hm (Nat.lt_of_not_le hk), fun _ => rfl⟩⟩ (fun u hu hz => by have := hd u hu; omega) (fun _ _ h => h) (fun h => h) (by omega) h
    obtain ⟨fsz, fden⟩ := GL (w := w2) (M := gB M2) (n := fr.n) (ps.zip tys) vs a.tmps s (by rw [hzip]; exact hps) ok.size (fun c hc => conv (fun u hu => (hp2 u ((nL hs c hc).2 u hu)).2) (jsl c hc)) (by rw [hzip2]; exact oH (fun b h => iq h) hte htc hv)
    rw [hzip] at fsz fden
    have htm : ((R .ready none).params.zip vs.toArray).foldl (fun tmps (t, v) => tmps.setIfInBounds t v) a.tmps = (ps.zip vs).foldl (fun t (p, v) => t.setIfInBounds p v) a.tmps := by simp [R]
    have hA0 : As.holds ⟨fr.n, w2, gB M2, pass', .round (w.heap.size + 1)⟩ ⟨qI (ps.zip tys) s, tg k⟩ { tmps := ((R .ready none).params.zip vs.toArray).foldl (fun tmps (t, v) => tmps.setIfInBounds t v) a.tmps, defers := [] } w2 := by
      rw [htm]
      exact ⟨gB M2, ⟨rq wf2, Le.refl _ _ _ _, fsz, Defs.nil⟩, fden, fun x hx => by
        obtain ⟨⟨_, e2⟩, e3, _⟩ := lZ (htg k) x hx
        exact convC (fun u hu => (e3 u hu).2) e2 (jtg x hx)⟩
    have h1 := hassign (w.heap.size + 1) w2 (gB M2) _ _ hA0
    refine Go.wpIn_mono h1 fun e a1 w3 hq => ?_
    cases e with
    | normal =>
      obtain ⟨M3, ok3, hsl3, htg3⟩ := hq
      obtain ⟨l3, l3'⟩ := ok3.base.own (w.heap.size + 1) 0 (fm jl (by decide)) (by simp)
      have rec3 : w3.heap[w.heap.size + 1]? = some (.loop (R .ready none)) := (l3' (by simp [FK.Oj])).trans jrec
      refine ⟨_, run_beginRound rec3 rfl, ?_⟩
      have hkill := zJ (w := w3) (M := M3) (o := .loop { R .ready none with state := .busy }) l3
      have hb0 : As.holds ⟨fr.n, w3.putObj (w.heap.size + 1) (.loop { R .ready none with state := .busy }), M3, pass', .round (w.heap.size + 1)⟩ (A1.after { d := none, S := [0] }) a1 (w3.putObj (w.heap.size + 1) (.loop { R .ready none with state := .busy })) := by
        refine ⟨M3, ⟨⟨fun b t h => by simpa using ok3.wf.lt b t h, ok3.wf.inj⟩, Le.refl _ _ _ _, ok3.size, by rw [ok3.iw (by simp)]; exact Defs.nil⟩, fun c hc => ?_, fun x hx => ?_⟩
        · simp only [As.after, p7]
          rcases fu [0] [] A1.slots c with ⟨e, hdj⟩ | ⟨_, e⟩
          · rw [e]; exact (A1.slots c).mono hkill (fL hdj).1 (fL hdj).2 (hsl3 c hc)
          · rw [e]; trivial
        · exact jJ hkill (by simpa [As.after] using hx) fun y hy _ => htg3 y hy
      have h2 := hbody (w.heap.size + 1) _ M3 _ _ hb0
      refine Go.wpIn_mono h2 fun e a4 w4 hq4 => ?_
      have le1 : Le (fun t => 1 ≤ t) (fun t => 1 ≤ t ∧ t ∉ pass') w2 (gB M2) w3 M3 := ok3.base
      cases e with
      | normal =>
        obtain ⟨M4, ok4, _, htg4⟩ := hq4
        obtain ⟨r4, M5, g1, g2, g3, g4⟩ := C4 (r4 := R .ready none) hpass hs (htg (k + 1)) hkd hbl0 hbl1 wf2 z2 hj le1 ok4.wf ok4.base htg4
        exact ⟨_, _, run_endRound none r4, M5, g1, g2, g3, .inl ⟨rfl, g4⟩⟩
      | ret =>
        obtain ⟨hbr, M4, ok4, _, htg4⟩ := hq4
        obtain ⟨r4, M5, g1, g2, g3, g4⟩ := C4 (r4 := R .done (some .ret)) hpass hs htr hkd hbl0 hbl1 wf2 z2 hj le1 ok4.wf ok4.base htg4
        exact ⟨_, _, run_endRound (some .ret) r4, M5, g1, g2, g3, .inr ⟨rfl, hbr, g4⟩⟩
      | exit id => exact hq4.elim
      | goto l => exact hq4.elim
      | panic c => exact hq4.elim
      | outgrown => exact hq4.elim
    | ret => exact hq.elim
    | exit id => exact hq.elim
    | goto l => exact hq.elim
    | panic c => exact hq.elim
    | outgrown => exact hq.elim
  have fin : ∀ (r : Loop) (tgs : List (Nat × Cont)) (w' : World) (M' : ay) (o : Obj), qE tgs = true → Wf w' M' → JJ fr s a.tmps (xj w.heap.size :: a.defers) (w.heap.size + 1) r tgs w' M' → As.holds fr ⟨s, tgs⟩ { tmps := a.tmps, defers := [{ target := .collected w.heap.size, args := #[] }] ++ a.defers } (w'.putObj (w.heap.size + 1) o) := by
    intro r tgs w' M' o hok wf' ⟨jb, jsl, jtg, jl, jrec, jdef⟩
    have hk0 := zJ (w := w') (M := M') (o := o) jl
    refine ⟨M', ⟨⟨fun b t h => by simpa using wf'.lt b t h, wf'.inj⟩, FX hbl0 hbl1 jb, ok.size, ?_⟩, fun c hc => ?_, fun x hx => ?_⟩
    · obtain ⟨rs, e, g1, g2, g3⟩ := jdef
      refine ⟨rs, e, g1, g2, fun q hq => ?_⟩
      obtain ⟨a1, b1, c1⟩ := g3 q hq
      exact ⟨a1, b1, by rw [World.putObj_heap_other fun e => by rw [e, jrec] at c1; cases c1]; exact c1⟩
    · obtain ⟨e1, e2⟩ := nL hs c hc
      exact (s c).mono hk0 (fun _ _ h => by cases h) (by rw [e1]; intro _ h; cases h) (jsl c hc)
    · obtain ⟨⟨e1, e2⟩, e3, e4⟩ := lZ hok x hx
      exact x.2.mono hk0 (fun _ _ h => by cases h) (fun t ht h => by have := (e4 t ht).1; rw [List.mem_singleton.1 h] at this; omega) (fun h => by rw [List.mem_singleton.1 h] at e1; omega) (fun h => by cases h) (jtg x hx)
  refine CallsIn.mono (callsIn_wide.2 (hI2 (w.heap.size + 1) J Jx a.tmps hJ hJx hY (fun k w M hj => ⟨hj.2.1, hj.2.2.1⟩) w1 _ (yv (w.heap.size + 1) :: cs.toList) wf1 z1 ⟨rfl, ?_⟩ hj0)) ?_
  · exact bY leN (fun t ht hz => Nat.lt_irrefl _ (Nat.lt_of_lt_of_le (hcd t ht) hz)) (fun t ht hz => Nat.lt_irrefl _ (Nat.lt_of_lt_of_le (hcc t ht) hz)) hcaps
  · rintro e w' ⟨r, M', he, wf', z', hor⟩
    subst he
    rcases hor with ⟨_, hj⟩ | ⟨_, hbr, hj⟩
    · refine ⟨none, _, run_endLoop hj.2.2.2.2.1 (by simp [R]), ?_⟩
      exact hdone _ _ (fin _ _ w' M' _ (htg _) wf' hj)
    · refine ⟨some .ret, _, run_endLoop hj.2.2.2.2.1 (by simp [R]), ?_⟩
      exact wpIn_ret (hret hbr _ _ (fin _ _ w' M' _ htr wf' hj))
theorem Gz {g : Operand} {ps : List Tmp} {assign body : Code} {gf : FuncId} {caps : List Ty} {encs : List (List Ty)} {resD resS : Ty} (s : Nat → Ty) (tg : Nat → List (Nat × Cont)) (br : Bool) (tr : List (Nat × Cont)) (pass' : List Nat)
 (hkd : fr.kd = .marks) (hg : A.op fr g = .j9 gf caps) (hI : fO P gf (fun l => Ty.ex (yv l) :: caps) encs resD resS) (hcd : bp caps = []) (hcc : bU caps = [])
 (hps : ps.Nodup) (hlen : ∀ tys ∈ encs, tys.length = ps.length ∧ bp tys = [] ∧ bU tys = []) (hpass : xH fr.pass pass' = true) (hs : Dr fr.n pass' s = true) (htg : ∀ k, qE (tg k) = true) (htr : qE tr = true)
 (h0 : c8 fr A ⟨s, tg 0⟩)
 (hround : ∀ k tys, encs[k]? = some tys → NZ P fr.n pass' assign body ⟨qI (ps.zip tys) s, tg k⟩ (tg (k + 1)) br tr)
 (hdone : cU fr ⟨s, tg encs.length⟩ (Q .normal)) (hret : br = true → cU fr ⟨s, tr⟩ (Q .ret)) :
 eZ P fr (.rangeFunc g ps.toArray assign body) A Q :=
 EZ s tg br tr pass' hkd hg hI.1 (fun l J Jx _ h1 h2 h3 _ w M vs h4 h5 h6 h7 => hI.2 l J Jx h1 h2 h3 w M vs h4 h5 h6 h7) (by rw [hcd]; intro _ h; cases h) (by rw [hcc]; intro _ h; cases h) hps hlen hpass hs htg htr h0 hround hdone hret
end
section
variable {P : Program} {A : As} {fn : Func} {n : Nat} {w0 : World} {M0 : ay} {F : List Nat}
theorem ve {R : Ending → World → Prop} {tm : Array Value} {s : Nat → Ty} {tgs : List (Nat × Cont)} {pass : List Nat} (fr : Fr)
    (hs0 : ∀ c, c < fr.n → ∀ t ∈ (s c).cdeps, t ≠ 0) (ht0 : ∀ x ∈ tgs, x.1 ≠ 0 ∧ ∀ t ∈ x.2.cdeps, t ≠ 0)
    (h : ∀ w M, Wf w M → fr.base w M → (∀ c, c < fr.n → (s c).den w M (tm.getD c undef)) → (∀ x ∈ tgs, x.2.den w M x.1) → ∃ v, (results fn tm).run P w = .ok v w ∧ R (.returned v) w) :
    ∀ (rs : List Nat) (w : World) (M : ay), Wf w M → fr.base w M → (∀ c, c < fr.n → (s c).den w M (tm.getD c undef)) → (∀ x ∈ tgs, x.2.den w M x.1) → rs.Nodup → (∀ r ∈ rs, M r = some 0 ∧ fr.w0.heap.size ≤ r ∧ (∀ t, ¬ (1 ≤ t ∧ t ∉ fr.pass) → fr.M0 r ≠ some t) ∧ w.heap[r]? = some (.deferred (some []))) →
      LeavesInM Fence.wide 0 P fn tm R (rs.map xj) .returning w
  | [], w, M, wf, hb, hs, ht, _, _ => h w M wf hb hs ht
  | r :: rs, w, M, wf, hb, hs, ht, hnd, hr => by
    obtain ⟨a, b, c, d⟩ := hr r List.mem_cons_self
    have le := zJ (w := w) (M := M) (o := .deferred none) a
    refine ⟨by simp, .inl ⟨r, _, rfl, run_takeDeferred d, ?_⟩⟩
    refine ve (pass := pass) fr hs0 ht0 h rs _ M ⟨fun b t h => by simpa using wf.lt b t h, wf.inj⟩ (FX b c hb) (fun c hc => (s c).mono le (fun _ _ h => by cases h) (fun t ht h => hs0 c hc t ht (List.mem_singleton.1 h)) (hs c hc))
      (fun x hx => x.2.mono le (fun _ _ h => by cases h) (fun t htt h => (ht0 x hx).2 t htt (List.mem_singleton.1 h)) (fun h => (ht0 x hx).1 (List.mem_singleton.1 h)) (fun h => by cases h) (ht x hx)) (List.nodup_cons.1 hnd).2 (fun q hq => ?_)
    obtain ⟨a1, b1, c1, d1⟩ := hr q (List.mem_cons_of_mem _ hq)
    refine ⟨a1, b1, c1, ?_⟩
    rw [World.putObj_heap_other fun e => (List.nodup_cons.1 hnd).1 (by rw [← e]; exact hq)]; exact d1
def KP (n : Nat) (A : As) : Bool := ((List.range n).all fun c => (A.slots c).cdeps.all fun t => Nat.ble 1 t) && A.tags.all fun x => Nat.ble 1 x.1 && x.2.cdeps.all fun t => Nat.ble 1 t
theorem T3 {R : Ending → World → Prop} (hz : KP n A = true) (h : cU ⟨n, w0, M0, F, .plain⟩ A (bodyPost P fn R .ret)) : cU ⟨n, w0, M0, F, .marks⟩ A (bodyPostM Fence.wide 0 P fn R .ret) := by
 intro a w ⟨M, ok, hsl, htg⟩
 obtain ⟨rs, e, g1, g2, g3⟩ := ok.defers
 simp only [KP, Bool.and_eq_true, List.all_eq_true, List.mem_range, Nat.ble_eq] at hz
 show LeavesInM Fence.wide 0 P fn a.tmps R a.defers .returning w
 rw [e]
 refine ve (pass := []) (s := A.slots) (tgs := A.tags) ⟨n, w0, M0, F, .marks⟩ (fun c hc t ht => by have := hz.1 c hc t ht; omega) (fun x hx => ⟨by have := (hz.2 x hx).1; omega, fun t ht => by have := (hz.2 x hx).2 t ht; omega⟩) (fun w2 M2 wf hb hs ht => ?_) rs w M ok.wf ok.base hsl htg g2 (fun r hr => ?_)
 ·exact (h { tmps := a.tmps, defers := [] } w2 ⟨M2, ⟨wf, hb, ok.size, Defs.nil⟩, hs, ht⟩).2
 obtain ⟨a1, b1, c1⟩ := g3 r hr
 exact ⟨a1, b1.1, b1.2, c1⟩
theorem Lp {f : FuncId} {fn : Func} {c : Code} {args : List Ty} {res : Ty} {n : Nat} (hf : P.funcs[f]? = some fn) (hb : fn.body = some c) (hn : (fn.name == "runtime.NumGoroutine") = false) (hnt : fn.ntmps = n) (hl : args.length ≤ n)
    (h : ∀ w0 M0, eZ P ⟨n, w0, M0, [], .marks⟩ c (entry args) (bodyPostM Fence.wide 0 P fn (mS w0 M0 res))) : cX P f args res := by
  refine ⟨⟨fn, hf, hn, by rw [hb]; rfl⟩, fun w M vs wf hM hd => callsIn_wide.1 (callsIn_of_wp_marks (n := 0) hf hb trivial (h w M _ _ ?_))⟩
  have hlen := cI hd
  refine ⟨M, ⟨wf, Le.refl _ _ _ _, by simp [hnt, hlen]; omega, Defs.nil⟩, fun c hc => ?_, by simp [entry]⟩
  simp only [entry]
  cases ha : args[c]? with
  | none => trivial
  | some ty =>
    obtain ⟨v, hv, hdv⟩ := dQ hd c ty ha
    have : (vs.toArray ++ Array.replicate (fn.ntmps - vs.toArray.size) undef).getD c undef = v := by
      have hlt : c < vs.length := (List.getElem?_eq_some_iff.1 hv).1
      rw [Array.getD_eq_getD_getElem?, Array.getElem?_append_left (by simpa using hlt)]
      simp [hv]
    rw [this]; exact hdv
theorem Qx {α : Type} [Inhabited α] {xs : List α} {f : α → List Ty} {k : Nat} {t : List Ty} (h : (xs.map f)[k]? = some t) : k < xs.length ∧ t = f (nth xs k) := by
 rw [List.getElem?_map] at h
 obtain ⟨x, hx, rfl⟩ := Option.map_eq_some_iff.1 h
 obtain ⟨hk, e⟩ := List.getElem?_eq_some_iff.1 hx
 exact ⟨hk, by rw [cF hk, e]⟩
theorem RZ {α : Type} [Inhabited α] {xs : List α} {f : α → List Ty} {k : Nat} {t : List Ty} (h : k < xs.length) (e : f (nth xs k) = t) : (xs.map f)[k]? = some t := by
 rw [List.getElem?_map, List.getElem?_eq_getElem h, ← cF h, ← e]; rfl
end
section
variable {P : Program} {fr : Fr} {A : As} {Q : Exit → Act → World → Prop}
theorem JW (n : Nat) {id : Nat} {l : List Oper} {o : Oper} (hl : l[n]? = some o) (hkd : fr.kd = .iter)
 (h : aV P fr l.toArray (l.take n) A fun A1 _ => ∃ f g, lq P fr l.toArray o A1 f g ∧ aV P fr l.toArray (l.drop (n + 1)) (A1.after f) (fun A' _ => cU fr A' (Q .normal)) ∧ aV P fr l.toArray (l.drop (n + 1)) (A1.after g) (fun A' _ => cU fr A' (Q .normal))) :
 eZ P fr (.region id l.toArray false) A Q := by
 have e : l.take n ++ o :: l.drop (n + 1) = l := by
  obtain ⟨hn, he⟩ := List.getElem?_eq_some_iff.1 hl
  rw [← he, List.getElem_cons_drop, List.take_append_drop]
 have := LF (P := P) (fr := fr) (A := A) (Q := Q) (id := id) (l1 := l.take n) (l2 := l.drop (n + 1)) (o := o) hkd
 rw [e] at this
 exact this h
end
section
variable {P : Program} {fr : Fr} {ops : Array Oper} {A : As} {rest : List Oper} {K : As → List (As × Fx) → Prop} {d : Nat} {t ty' : TypeId} {p : String} {e : Array Edge} {x : Operand}
theorem P8 {tg : Nat} (hx : A.op fr x = .mp tg) (h : aV P fr ops rest (A.set d (.mp tg)) fun A' l' => K A' ((A, { d := some d, ty := .mp tg, rs := bq x }) :: l')) : aV P fr ops (⟨some d, .move x, t, p, e, none⟩ :: rest) A K := eN hx h
theorem VG {tg : Nat} (hx : A.op fr x = .mp tg) (h : aV P fr ops rest (A.set d (.mp tg)) fun A' l' => K A' ((A, { d := some d, ty := .mp tg, rs := bq x }) :: l')) : aV P fr ops (⟨some d, .assign x, t, p, e, none⟩ :: rest) A K := iM hx h
theorem Nw {κ β : Type} [DecidableEq κ] {enc : κ → Value} {V : VT β} {kvs : List (κ × β)} (hx : A.op fr x = .pm enc V kvs) (h : aV P fr ops rest (A.set d (.pm enc V kvs)) fun A' l' => K A' ((A, { d := some d, ty := .pm enc V kvs, rs := bq x }) :: l')) : aV P fr ops (⟨some d, .move x, t, p, e, none⟩ :: rest) A K := eN hx h
theorem TM {κ β : Type} [DecidableEq κ] {enc : κ → Value} {V : VT β} {kvs : List (κ × β)} (hx : A.op fr x = .pm enc V kvs) (h : aV P fr ops rest (A.set d (.pm enc V kvs)) fun A' l' => K A' ((A, { d := some d, ty := .pm enc V kvs, rs := bq x }) :: l')) : aV P fr ops (⟨some d, .assign x, t, p, e, none⟩ :: rest) A K := iM hx h
end
section
variable {P : Program} {A : As} {fn : Func} {n : Nat} {w0 : World} {M0 : ay} [T : lQ P]
theorem yB {α : Type} {E : El α} {xs ys : List α} {tm ty tg Tb : Nat} {ti : TI} (e : xs = ys) (hr : fn.results = #[.cell tm ty]) (ht : Nat.blt tm n = true) (hx : A.slots tm = .ptr tg 0) (hc : A.tag tg = some (.vec E Tb xs)) (h1 : ga tg) (hT : T.tab[ty]? = some ti) (ha : ti.k.agg = true) (hsz : xs.length * E.size = ti.size) (hne : xs ≠ []) : cU ⟨n, w0, M0, [], .plain⟩ A (bodyPost P fn (mS w0 M0 (.arr E ys)) .ret) := by
 subst e; exact Nm hr ht hx hc h1 hT ha hsz hne
end
end Go.T
namespace Go.T
open Go Go.RowKit
section
variable {P : Program} {fr : Fr} {ops : Array Oper} {A : As} {rest : List Oper} {K : As → List (As × Fx) → Prop} {d : Nat} {t ty' : TypeId} {p : String} {e : Array Edge} [T : lQ P]
variable {α β : Type} {E : El α} {E' : El β} {x y : Operand} {tg off Tb : Nat} {ti te tf : TI} {ty : Ty} {o z : α}
theorem zn {α : Type} (E : El α) (o : α) : [o].flatMap E.tys = E.tys o := by simp
theorem Mi (hx : A.op fr x = .ptr tg off) (hc : A.tag tg = some (.vec E Tb [o])) (h1 : ga tg) (hT : T.tab[ty']? = some ti) (ha : ti.k.agg = false) (hl : (E.tys o)[off]? = some ty)
 (h : aV P fr ops rest (A.set d ty) fun A' l => K A' ((A, { d := some d, ty := ty, rs := bq x, rt := [tg] }) :: l)) : aV P fr ops (⟨some d, .load ty' x, t, p, e, none⟩ :: rest) A K :=
 bC (bP rfl rfl fun a w M wf hr ht => by
  have := cA (x := x) (fun _ h => h) hr
  rw [hx] at this
  obtain ⟨b, hb, e⟩ := this
  obtain ⟨v, hv, hd⟩ := mD wf h1 hb (qA hc w M ht) (by rw [zn]; exact hl)
  exact ⟨v, by simp [execOp, e, jN hT ha hv], hd⟩) h
theorem Bp {l : List Ty} {off n : Nat} {w : World} {M : ay} {b q : Nat} (h : ∀ (i : Nat) (t : Ty), l[i]? = some t → ∃ v, w.cell? ⟨b, q + i, none⟩ = some v ∧ t.den w M v) {m : List Ty} (hm : (l.drop off).take n = m) (hn : m.length = n) :
 ∃ cs : List Value, cs.length = n ∧ cD w M m cs ∧ ∀ j v, cs[j]? = some v → w.cell? ⟨b, q + off + j, none⟩ = some v := by
 have hget : ∀ (i : Nat) (t : Ty), (l.drop off)[i]? = some t → ∃ u, w.cell? ⟨b, q + off + i, none⟩ = some u ∧ t.den w M u := fun i t hi => by
  rw [List.getElem?_drop] at hi
  obtain ⟨v, hv, hd⟩ := h _ _ hi
  exact ⟨v, by rw [Nat.add_assoc]; exact hv, hd⟩
 have hle : n ≤ (l.drop off).length := by
  have := congrArg List.length hm
  rw [List.length_take, hn] at this; omega
 obtain ⟨cs, h1, h2, h3⟩ := OC hget n hle
 exact ⟨cs, h1, hm ▸ h2, h3⟩
theorem AQ (hx : A.op fr x = .ptr tg off) (hc : A.tag tg = some (.vec E Tb [o])) (h1 : ga tg) (hT : T.tab[ty']? = some ti) (hsz : ti.size = 1) (hy : A.op fr y = ty) (ho : ty.one = true) (hoff : off < E.size) (hdt : nk ty.cdeps [tg] = true) (hl : (E.tys o).set off ty = E.tys z)
 (h : aV P fr ops rest (A.after { d := none, S := [tg], sets := [(tg, .vec E Tb [z])], rs := bq x ++ bq y, rt := [tg] }) fun A' l'' => K A' ((A, { d := none, S := [tg], sets := [(tg, .vec E Tb [z])], rs := bq x ++ bq y, rt := [tg] }) :: l'')) :
 aV P fr ops (⟨none, .store ty' x y, t, p, e, none⟩ :: rest) A K := by
 have hin : Inhabited α := ⟨o⟩
 exact q5 (E := E) (xs := [o]) (i := 0) (o := off) (z := z) (by rw [hx]; congr 1; omega) hc h1 hT hsz hy ho (by simp) hoff hdt (by have : nth [o] 0 = o := rfl; rw [this]; exact hl) h
def m5 (E : El α) (o : α) (w : World) (M : ay) (v : Value) : Prop := ∃ cs : Array Value, v = .agg cs ∧ cD w M (E.tys o) cs.toList
def Ty.ao (E : El α) (o : α) : Ty :=
  { den := m5 E o, mono := fun le _ _ ⟨cs, e, h⟩ => ⟨cs, e, bY le (by rw [E.nodeps]; intro _ h; cases h) (by rw [E.nocdeps]; intro _ h; cases h) h⟩ }
theorem PN (E : El α) (o : α) {parts : Array (Nat × Operand)} {fs : List (Nat × Nat)} {ls : List (Nat × List Ty)} (hT : T.tab[ty']? = some ti) (hk : ti.k = .struct fs) (hz : ti.zero ≠ []) (hfs : (fs.all fun f => (T.tab[f.2]?).isSome) = true) (hp : aT A fr parts.toList ls) (hf : sD (placesOf T.tab fs) (ti.zero.map Ty.oI) ls = some (E.tys o))
 (h : aV P fr ops rest (A.set d (.ao E o)) fun A' l' => K A' ((A, { d := some d, ty := .ao E o, rs := parts.toList.flatMap fun x => bq x.2 }) :: l')) : aV P fr ops (⟨some d, .build ty' parts, t, p, e, none⟩ :: rest) A K := by
 have key : aV P fr ops [⟨some d, .build ty' parts, t, p, e, none⟩] A fun _ l => ∃ f, l = [(A, f)] ∧ f = { d := some d, ty := .agg (E.tys o), rs := parts.toList.flatMap fun x => bq x.2 } := eX hT hk hz hfs hp hf (aD ⟨_, rfl, rfl⟩)
 obtain ⟨f, hop, f', hl, hf'⟩ := key
 have e1 : f = f' := by injection hl with h1 _; injection h1
 subst e1; subst hf'
 obtain ⟨a1, a2, a3, a4, a5⟩ := hop
 refine ⟨{ d := some d, ty := .ao E o, rs := parts.toList.flatMap fun x => bq x.2 }, ⟨a1, a2, a3, a4, fun a w M wf hs hr ht => ?_⟩, h⟩
 exact a5 a w M wf hs hr ht
theorem PS (o : α) (hx : A.op fr x = .ao E o) (hp : fr.pass.contains (d + 1) = false)
 (h : aV P fr ops rest (A.after { d := some d, ty := .ptr (d + 1) 0, K := [d + 1], sets := [(d + 1, .vec E ty' [o])], rs := bq x }) fun A' l' => K A' ((A, { d := some d, ty := .ptr (d + 1) 0, K := [d + 1], sets := [(d + 1, .vec E ty' [o])], rs := bq x }) :: l')) :
 aV P fr ops (⟨some d, .box ty' x, t, p, e, none⟩ :: rest) A K := by
 have _ := T
 refine ⟨_, iD rfl rfl (by simp) (by simp) (by simp at hp ⊢; exact hp) fun a w M wf hr _ => ?_, h⟩
 have hd := cA (x := x) (fun _ h => h) hr
 rw [hx] at hd
 obtain ⟨cs, ex, hds⟩ := hd
 obtain ⟨h1, h2, h3⟩ := nP wf (.cells cs ty') (d + 1)
 refine ⟨.pointer (some ⟨w.heap.size, 0, none⟩), w.alloc (.cells cs ty'), ?_, _, h1, h2, ⟨_, h3, rfl⟩, ?_⟩
 ·simp [execOp, Instr.box, newVar, newRow, newObj, Sem.run, ex, Value.cells]
 intro x hx
 simp only [List.mem_singleton] at hx
 subst hx
 refine .inr ⟨w.heap.size, cs, h3, gu _ _, ?_⟩
 have hlen := cI hds
 rw [zn, ← hlen, List.take_length]
 exact bY h2 (by rw [E.nodeps]; intro _ h; cases h) (by intro _ _ h; cases h) hds
def mm (E : El α) (o : α) (off : Nat) (w : World) (M : ay) (v : Value) : Prop := ∃ b q, v = .pointer (some ⟨b, q + off, none⟩) ∧ oX w M b q (E.tys o)
def Ty.pe (E : El α) (o : α) (off : Nat) : Ty :=
  ⟨mm E o off, [], [], fun le _ _ ⟨b, q, e, h⟩ => ⟨b, q, e, nV le (by rw [E.nodeps]; intro _ h; cases h) (by rw [E.nocdeps]; intro _ h; cases h) h⟩, true, fun _ ⟨_, _, e, _⟩ => e ▸ rfl⟩
theorem gK (hx : A.op fr x = .pe E o off) (hT : T.tab[ty']? = some ti) (ha : ti.k.agg = false) (hl : (E.tys o)[off]? = some ty)
 (h : aV P fr ops rest (A.set d ty) fun A' l => K A' ((A, { d := some d, ty := ty, rs := bq x }) :: l)) : aV P fr ops (⟨some d, .load ty' x, t, p, e, none⟩ :: rest) A K :=
 bC (bP (rt := []) rfl rfl fun a w M _ hr _ => by
  have := cA (x := x) (fun _ h => h) hr
  rw [hx] at this
  obtain ⟨b, q, e, hp⟩ := this
  obtain ⟨v, hv, hd⟩ := hp.2.2 off ty hl
  exact ⟨v, by simp [execOp, e, jN hT ha hv], hd⟩) h
theorem JK {ys : List β} (hx : A.op fr x = .pe E o off) (hT : T.tab[ty']? = some ti) (ha : ti.k.agg = true) (hm : ((E.tys o).drop off).take ti.size = ys.flatMap E'.tys) (hn : (ys.flatMap E'.tys).length = ti.size)
 (h : aV P fr ops rest (A.set d (.arr E' ys)) fun A' l => K A' ((A, { d := some d, ty := .arr E' ys, rs := bq x }) :: l)) : aV P fr ops (⟨some d, .load ty' x, t, p, e, none⟩ :: rest) A K :=
 bC (bP (rt := []) rfl rfl fun a w M _ hr _ => by
  have := cA (x := x) (fun _ h => h) hr
  rw [hx] at this
  obtain ⟨b, q, e, hp⟩ := this
  obtain ⟨cs, g1, g2, g3⟩ := Bp hp.2.2 hm hn
  exact ⟨.agg cs.toArray, by simp only [execOp, e]; rw [Sem.run_bind, jw (off := q + off) hT ha g1 g3]; rfl, cs.toArray, rfl, by simpa using g2⟩) h
theorem dR (hx : A.op fr x = .pe E o off) (h : aV P fr ops rest (A.set d (.pe E o off)) fun A' l' => K A' ((A, { d := some d, ty := .pe E o off, rs := bq x }) :: l')) : aV P fr ops (⟨some d, .nilCheck x, t, p, e, none⟩ :: rest) A K :=
 bC (bP (rt := []) rfl rfl fun a w M _ hr _ => by
  have _ := T
  have := cA (x := x) (fun _ h => h) hr
  rw [hx] at this
  have hd := this
  obtain ⟨b, q, e, hp⟩ := this
  exact ⟨a.eval x, by simp [execOp, e], hd⟩) h
theorem dO {f : Nat} {fs : List (Nat × Nat)} {fo ft : Nat} (hx : A.op fr x = .pe E o off) (hT : T.tab[ty']? = some ti) (hk : ti.k = .struct fs) (hf : fs[f]? = some (fo, ft)) (hF : T.tab[ft]? = some tf) (h0 : tf.size ≠ 0)
 (h : aV P fr ops rest (A.set d (.pe E o (off + fo))) fun A' l' => K A' ((A, { d := some d, ty := .pe E o (off + fo), rs := bq x }) :: l')) : aV P fr ops (⟨some d, .fieldAddr ty' x f, t, p, e, none⟩ :: rest) A K :=
 bC (bP (rt := []) rfl rfl fun a w M _ hr _ => by
  have := cA (x := x) (fun _ h => h) hr
  rw [hx] at this
  obtain ⟨b, q, ex, hp⟩ := this
  refine ⟨_, by simp only [execOp, ex, Sem.run_bind, xp hT hk hf hF h0]; rfl, b, q, by simp [Nat.add_assoc], hp⟩) h
theorem lB {n : Nat} {k : IntKind} {i : Nat} {el : Nat} (hx : A.op fr x = .pe E o off) (hy : A.op fr y = .int k i) (hT : T.tab[ty']? = some ti) (hk : ti.k = .array n el) (hE : T.tab[el]? = some te) (h1 : i < n)
 (h : aV P fr ops rest (A.set d (.pe E o (off + i * te.size))) fun A' l' => K A' ((A, { d := some d, ty := .pe E o (off + i * te.size), rs := bq x ++ bq y }) :: l')) : aV P fr ops (⟨some d, .indexAddr ty' x y, t, p, e, none⟩ :: rest) A K :=
 bC (bP (rt := []) rfl rfl fun a w M _ hr _ => by
  obtain ⟨hdx, hdy⟩ := op2 hr
  rw [hx] at hdx; rw [hy] at hdy
  obtain ⟨b, q, ex, hp⟩ := hdx
  have ey : a.eval y = .int k i := hdy
  refine ⟨_, by simp only [execOp, ex, ey, Sem.run_bind, iH hT hk hE (Int.natCast_nonneg i) (show (i : Int).toNat < n from h1)]; rfl, b, q, by simp [Nat.add_assoc], hp⟩) h
theorem mJ (hx : A.op fr x = .pe E o off) (h : aV P fr ops rest (A.set d (.pe E o off)) fun A' l' => K A' ((A, { d := some d, ty := .pe E o off, rs := bq x }) :: l')) : aV P fr ops (⟨some d, .move x, t, p, e, none⟩ :: rest) A K := by
 have _ := T
 exact eN hx h
theorem UU (hx : A.op fr x = .pe E o off) (h : aV P fr ops rest (A.set d (.pe E o off)) fun A' l' => K A' ((A, { d := some d, ty := .pe E o off, rs := bq x }) :: l')) : aV P fr ops (⟨some d, .assign x, t, p, e, none⟩ :: rest) A K := by
 have _ := T
 exact iM hx h
theorem Sy {s : Nat} (hx : A.slots s = .ptr tg off) (hc : A.tag tg = some (.vec E Tb [o])) (h1 : ga tg) : Bn A tg s (.pe E o off) := by
 intro w M v wf ht hv
 rw [hx] at hv
 obtain ⟨b, hb, e⟩ := hv
 have hv := ht _ (dD hc)
 refine ⟨b, 0, by simpa using e, by simp [dx, hb], wf.lt b _ hb, fun i t hi => ?_⟩
 obtain ⟨u, hu, hd⟩ := mD (E := E) (Tb := Tb) (xs := [o]) wf h1 hb hv (by rw [zn]; exact hi)
 refine ⟨u, by rw [Nat.zero_add]; exact hu, t.mono (iO (w := w) (tg := tg)) ?_ ?_ hd⟩
 ·intro u hu
  have : u ∈ bp (E.tys o) := List.mem_flatMap.2 ⟨t, List.mem_of_getElem? hi, hu⟩
  rw [E.nodeps] at this; cases this
 intro u _ h; cases h
end
theorem cX.mono {P : Program} {f : FuncId} {args : List Ty} {r r' : Ty} (h : cX P f args r) (hs : r.Sub r') : cX P f args r' :=
 ⟨h.1, fun w M vs wf hM hd => (h.2 w M vs wf hM hd).mono fun _ _ ⟨v, M', e, a, b, c⟩ => ⟨v, M', e, a, b, hs _ _ _ c⟩⟩
section
variable {P : Program} {fr : Fr} {A : As} {Q : Exit → Act → World → Prop} {x y : Code}
theorem wm {c : Operand} {b : Bool} (hc : A.op fr c = .bool b) (hb : b = true) (h1 : eZ P fr x A Q) : eZ P fr (.cond c x y) A Q := c9 hc (fun _ => h1) (fun h => by rw [hb] at h; cases h)
theorem iP {c : Operand} {b : Bool} (hc : A.op fr c = .bool b) (hb : b = false) (h1 : eZ P fr y A Q) : eZ P fr (.cond c x y) A Q := c9 hc (fun h => by rw [hb] at h; cases h) (fun _ => h1)
end
end Go.T
namespace Go.T
open Go Go.RowKit
def Ty.nd (t : Ty) (h1 : t.deps = []) (h2 : t.cdeps = []) : Ty := ⟨t.den, [], [], fun le _ _ h => t.mono le (by rw [h1]; intro _ h; cases h) (by rw [h2]; intro _ h; cases h) h, t.one, t.isOne⟩
theorem TO {P : Program} {t : Ty} {args : List Ty} {res : Ty} (h1 : t.deps = []) (h2 : t.cdeps = []) (h : oz P t args res) : oz P (t.nd h1 h2) args res := h
def dS (c : Bool) (t : Ty) (w : World) (M : ay) (v : Value) : Prop := v.oneCell' = true ∧ (c = true → t.den w M v)
def Ty.when (c : Bool) (t : Ty) : Ty := { den := dS c t, deps := t.deps, cdeps := t.cdeps, mono := fun le hk hs h => ⟨h.1, fun hc => t.mono le hk hs (h.2 hc)⟩, one := true, isOne := fun _ h => h.1 }
theorem Ty.lu {c : Bool} {t : Ty} (h : c = true) : (Ty.when c t).Sub t := fun _ _ _ hd => hd.2 h
theorem Ty.rG {c : Bool} {s t : Ty} (ho : s.one = true) (h : c = true → s.Sub t) : s.Sub (Ty.when c t) := fun _ _ _ hd => ⟨s.isOne ho hd, fun hc => h hc _ _ _ hd⟩
theorem Ty.RN {s t : Ty} (h : s.Sub t) : (Ty.pp [s]).Sub (Ty.pp [t]) := fun w M v ⟨b, off, e, h1, h2, h3⟩ => ⟨b, off, e, h1, h2, fun i u hu => by
  cases i with
  | zero =>
    simp at hu; subst hu
    obtain ⟨x, hx, hd⟩ := h3 0 s rfl
    exact ⟨x, hx, h _ _ _ hd⟩
  | succ i => simp at hu⟩
theorem Ty.Aq {a b c d : Ty} (h1 : a.Sub c) (h2 : b.Sub d) : (Ty.tE [a, b]).Sub (Ty.tE [c, d]) := fun _ _ _ ⟨cs, e, hd⟩ => ⟨cs, e, by
  cases h : cs.toList with
  | nil => rw [h] at hd; exact hd.elim
  | cons x l => cases l with
    | nil => rw [h] at hd; exact hd.2.elim
    | cons y l => rw [h] at hd; exact ⟨h1 _ _ _ hd.1, h2 _ _ _ hd.2.1, hd.2.2⟩⟩
section
variable {P : Program} {fr : Fr} {ops : Array Oper} {A : As} {rest : List Oper} {K : As → List (As × Fx) → Prop} {d : Nat} {t ty' : TypeId} {p : String} {e : Array Edge}
variable {α β : Type} {E : El α} {E' : El β} {x y : Operand} {tg off Tb : Nat} {ti te tf : TI} {ty : Ty} {o z : α} {xs : List α}
def mz (E : El α) (xs : List α) (off : Nat) (w : World) (M : ay) (v : Value) : Prop := ∃ b q, v = .pointer (some ⟨b, q + off, none⟩) ∧ oX w M b q (xs.flatMap E.tys)
def Ty.pa (E : El α) (xs : List α) (off : Nat) : Ty :=
  ⟨mz E xs off, [], [], fun le _ _ ⟨b, q, e, h⟩ => ⟨b, q, e, nV le (by rw [E.cT]; intro _ h; cases h) (by rw [E.cL]; intro _ h; cases h) h⟩, true, fun _ ⟨_, _, e, _⟩ => e ▸ rfl⟩
theorem MO (hx : A.op fr x = .arr E xs) (h : aV P fr ops rest (A.set d (.pa E xs 0)) fun A' l' => K A' ((A, { d := some d, ty := .pa E xs 0, rs := bq x }) :: l')) : aV P fr ops (⟨some d, .box ty' x, t, p, e, none⟩ :: rest) A K := by
 refine ⟨_, iD (f := { d := some d, ty := .pa E xs 0, rs := bq x }) rfl rfl (by simp) (by simp) (by simp) fun a w M wf hr _ => ?_, h⟩
 have hd := cA (x := x) (fun _ h => h) hr
 rw [hx] at hd
 obtain ⟨cs, ex, hds⟩ := hd
 obtain ⟨h1, h2, _⟩ := wk wf (.cells cs ty')
 refine ⟨.pointer (some ⟨w.heap.size, 0, none⟩), w.alloc (.cells cs ty'), ?_, M, h1, h2, ⟨_, 0, rfl, ?_⟩, by simp⟩
 ·simp [execOp, Instr.box, newVar, newRow, newObj, Sem.run, ex, Value.cells]
 exact zR (T := ty') wf hds
theorem TR {c : Bool} {ty : Ty} (hx : A.op fr x = .when c ty) (h : aV P fr ops rest (A.set d (.when c ty)) fun A' l' => K A' ((A, { d := some d, ty := .when c ty, rs := bq x }) :: l')) : aV P fr ops (⟨some d, .assign x, t, p, e, none⟩ :: rest) A K := iM hx h
variable [T : lQ P]
theorem Dx [Inhabited α] {i : Nat} (hx : A.op fr x = .pa E xs off) (hT : T.tab[ty']? = some ti) (ha : ti.k.agg = false) (he : off = i * E.size) (hi : i < xs.length) (hl : (E.tys (nth xs i))[0]? = some ty)
 (h : aV P fr ops rest (A.set d ty) fun A' l => K A' ((A, { d := some d, ty := ty, rs := bq x }) :: l)) : aV P fr ops (⟨some d, .load ty' x, t, p, e, none⟩ :: rest) A K :=
 bC (bP (rt := []) rfl rfl fun a w M _ hr _ => by
  have := cA (x := x) (fun _ h => h) hr
  rw [hx] at this
  obtain ⟨b, q, e, hp⟩ := this
  obtain ⟨v, hv, hd⟩ := hp.2.2 off ty (by rw [he]; exact kj E xs hi 0 ty hl)
  exact ⟨v, by simp [execOp, e, jN hT ha hv], hd⟩) h
theorem z8 {n : Nat} {k : IntKind} {i : Nat} {el : Nat} (hx : A.op fr x = .pa E xs off) (hy : A.op fr y = .int k i) (hT : T.tab[ty']? = some ti) (hk : ti.k = .array n el) (hE : T.tab[el]? = some te) (h1 : i < n)
 (h : aV P fr ops rest (A.set d (.pa E xs (off + i * te.size))) fun A' l' => K A' ((A, { d := some d, ty := .pa E xs (off + i * te.size), rs := bq x ++ bq y }) :: l')) : aV P fr ops (⟨some d, .indexAddr ty' x y, t, p, e, none⟩ :: rest) A K :=
 bC (bP (rt := []) rfl rfl fun a w M _ hr _ => by
  obtain ⟨hdx, hdy⟩ := op2 hr
  rw [hx] at hdx; rw [hy] at hdy
  obtain ⟨b, q, ex, hp⟩ := hdx
  have ey : a.eval y = .int k i := hdy
  refine ⟨_, by simp only [execOp, ex, ey, Sem.run_bind, iH hT hk hE (Int.natCast_nonneg i) (show (i : Int).toNat < n from h1)]; rfl, b, q, by simp [Nat.add_assoc], hp⟩) h
theorem yU {n : Nat} {k : IntKind} {i : Int} {el : Nat} (hx : A.op fr x = .pe E o off) (hy : A.op fr y = .int k i) (hT : T.tab[ty']? = some ti) (hk : ti.k = .array n el) (hE : T.tab[el]? = some te) (h0 : 0 ≤ i) (h1 : i.toNat < n)
 (h : aV P fr ops rest (A.set d (.pe E o (off + i.toNat * te.size))) fun A' l' => K A' ((A, { d := some d, ty := .pe E o (off + i.toNat * te.size), rs := bq x ++ bq y }) :: l')) : aV P fr ops (⟨some d, .indexAddr ty' x y, t, p, e, none⟩ :: rest) A K :=
 bC (bP (rt := []) rfl rfl fun a w M _ hr _ => by
  obtain ⟨hdx, hdy⟩ := op2 hr
  rw [hx] at hdx; rw [hy] at hdy
  obtain ⟨b, q, ex, hp⟩ := hdx
  have ey : a.eval y = .int k i := hdy
  refine ⟨_, by simp only [execOp, ex, ey, Sem.run_bind, iH hT hk hE h0 h1]; rfl, b, q, by simp [Nat.add_assoc], hp⟩) h
theorem TS {ty2 : TypeId} {a : Nat} {b : Int} (hx : A.op fr x = .int .i64 (a : Nat)) (hy : A.op fr y = .int .i64 b) (h0 : 0 ≤ b) (h1 : b ≤ 63)
 (h : aV P fr ops rest (A.set d (.int .i64 ((a >>> b.toNat : Nat) : Int))) fun A' l' => K A' ((A, { d := some d, ty := .int .i64 ((a >>> b.toNat : Nat) : Int), rs := bq x ++ bq y }) :: l')) : aV P fr ops (⟨some d, .binOp .shr ty' x y ty2, t, p, e, none⟩ :: rest) A K :=
 by
 have _ := T
 exact uO (b := b.toNat) hx (by rw [hy, Int.toNat_of_nonneg h0]) (by omega) h
end
theorem fy {α : Type} {E : El α} {xs : List α} (e : xs = []) : gU (Ty.ex (.slice none 0 0)) (Ty.sl E xs) := e ▸ QO
theorem gr (w : World) (M : ay) : (qV.ty 0).den w M (.int .i64 0) := rfl
def Qy : List Ty → List Ty → Prop
  | [], [] => True
  | s :: ss, t :: ts => s.Sub t ∧ Qy ss ts
  | _, _ => False
theorem wh {w : World} {M : ay} : ∀ {ss ts : List Ty} {vs : List Value}, Qy ss ts → cD w M ss vs → cD w M ts vs
  | [], [], [], _, _ => trivial
  | _ :: _, _ :: _, _ :: _, ⟨h, h'⟩, ⟨h1, h2⟩ => ⟨h _ _ _ h1, wh h' h2⟩
theorem cX.args {P : Program} {f : FuncId} {a a' : List Ty} {r : Ty} (h : cX P f a r) (hs : Qy a' a) : cX P f a' r :=
 ⟨h.1, fun w M vs wf hM hd => h.2 w M vs wf hM (wh hs hd)⟩
section
variable {P : Program} {A : As} {fn : Func} {n m : Nat} {w0 : World} {M0 : ay} {J : Nat → World → ay → Prop} {Jx : World → ay → Prop} {resD resS : Ty}
theorem RR {k : Nat} {hJ : ∀ k, Cb (J k)} (e : k = m) (hr : fn.results = #[]) (ht : A.tag 0 = some (CJ (hJ k))) : cU ⟨n, w0, M0, [], .iter⟩ A (bodyPost P fn (bV m J Jx (Ty.tE []) resS) .ret) := by
 subst e; exact SK hr ht
end
end Go.T
namespace Go.T
open Go Go.RowKit
section
variable {P : Program} {fr : Fr} {ops : Array Oper} {A : As} {rest : List Oper} {K : As → List (As × Fx) → Prop} {d : Nat} {t ty' ty2 : TypeId} {p : String} {e : Array Edge} {x y : Operand}
section
variable {b : Frame} {a : Act} {k : List Item} {cs : List Frame} {w : World}
end
section
variable {Q : Exit → Act → World → Prop} {c : Code} {i : Nat}
end
def Vo (p : Prop) (_ : World) (_ : ay) (v : Value) : Prop := ∃ c : Bool, v = .bool c ∧ (c = true → p)
def Ty.nb (p : Prop) : Ty := { den := Vo p, mono := fun _ _ _ h => h, one := true, isOne := fun _ ⟨_, e, _⟩ => e ▸ rfl }
theorem K9 {Q : Exit → Act → World → Prop} {c : Operand} {q : Prop} {x y : Code} (hc : A.op fr c = .nb q) (h1 : q → eZ P fr x A Q) (h2 : True → eZ P fr y A Q) : eZ P fr (.cond c x y) A Q := fun a w ha => by
  have hv : ∃ b : Bool, a.eval c = .bool b ∧ (b = true → q) := by
    obtain ⟨M, _, hs, _⟩ := ha
    have := cA (x := c) (rs := bq c) (fun _ h => h) (fun c _ hn => hs c hn)
    rw [hc] at this; exact this
  obtain ⟨b, hv, hq⟩ := hv
  cases b with
  | true => exact wpIn_cond_true hv (h1 (hq rfl) a w ha)
  | false => exact wpIn_cond_false hv (h2 trivial a w ha)
theorem CD {ty' : TypeId} {el : TypeId} (hu : P.underlying ty' = some (.slice el)) (A : Option Addr) (n c : Nat) (w : World) : (Op.equal ty' (.slice A n c) (.slice none 0 0)).run P w = .ok A.isNone w := by
 unfold Op.equal Op.maxDepth
 rw [Op.equalIn]
 simp only [Sem.run_bind, run_underlying hu, Result.andThen_ok]
 cases A <;> rfl
theorem Q9 {α : Type} {E : El α} {xs : List α} {el : TypeId} (hu : P.underlying ty' = some (.slice el)) (hx : A.op fr x = .sl E xs)
    (h : aV P fr ops rest (A.set d (.nb (xs = []))) fun A' l' => K A' ((A, { d := some d, ty := .nb (xs = []), rs := bq x }) :: l')) : aV P fr ops (⟨some d, .binOp .eql ty' x (.const (.slice none 0 0)) ty2, t, p, e, none⟩ :: rest) A K :=
  bC (bP (rt := []) rfl rfl fun a w M _ hr _ => by
    have := cA (x := x) (fun _ h => h) hr
    rw [hx] at this
    obtain ⟨ad, c, ex, _, _, hp⟩ := this
    have ey : a.eval (.const (.slice none 0 0)) = .slice none 0 0 := rfl
    refine ⟨.bool ad.isNone, by simp only [execOp, ex, ey]; simp [eqGuard, binOp, go_sem, CD hu], ad.isNone, rfl, fun hn => ?_⟩
    cases xs with
    | nil => rfl
    | cons y l =>
      obtain ⟨b, off, e, _⟩ := hp (by simp)
      rw [e] at hn; cases hn) h
theorem Kl {α β : Type} {E : El α} {E' : El β} {l : List α} {l' : List β} (h : l.flatMap E.tys = l'.flatMap E'.tys) (hl : l.length = l'.length) : (Ty.sl E l).Sub (Ty.sl E' l') :=
 fun _ _ _ ⟨A, c, e, h1, h2, h3⟩ => ⟨A, c, by rw [← hl]; exact e, by rw [← hl]; exact h1, h2, fun h0 => by rw [← h]; exact h3 (by rw [hl]; exact h0)⟩
theorem wY {α : Type} (E : El α) : ∀ (xs : List α) (n : Nat), (xs.flatMap E.tys).take (n * E.size) = (xs.take n).flatMap E.tys
  | [], n => by simp
  | x :: xs, 0 => by simp
  | x :: xs, n + 1 => by
    rw [List.flatMap_cons, List.take_succ_cons, List.flatMap_cons, ← wY E xs n, List.take_append, E.len, Nat.succ_mul, List.take_of_length_le (by rw [E.len]; omega)]
    congr 2; omega
theorem NW {α : Type} {E : El α} {xs : List α} {n hi el : Nat} {k : IntKind} {ti te : TI} [T : lQ P] (hx : A.op fr x = .pa E xs 0) (hy : A.op fr y = .int k hi) (hT : T.tab[ty']? = some ti) (hk : ti.k = .array n el) (hE : T.tab[el]? = some te) (h1 : n ≤ maxLen) (h2 : hi ≤ n) (h3 : hi ≤ xs.length)
 (h : aV P fr ops rest (A.set d (.sl E (xs.take hi))) fun A' l' => K A' ((A, { d := some d, ty := .sl E (xs.take hi), rs := bq x ++ bq y }) :: l')) : aV P fr ops (⟨some d, .slice ty' x none (some y) none, t, p, e, none⟩ :: rest) A K :=
 bC (bP rfl rfl fun a w M _ hr _ => by
  obtain ⟨hdx, hdy⟩ := op2 hr
  rw [hx] at hdx; rw [hy] at hdy
  obtain ⟨b, q, ex, hp⟩ := hdx
  have ey : a.eval y = .int k hi := hdy
  obtain ⟨_, D, _, hD, hkd, _⟩ := dM hT
  rw [hk] at hkd
  cases D <;> simp only [TK.of, reduceCtorEq, TK.array.injEq] at hkd
  obtain ⟨e1, e2⟩ := hkd
  subst e1; subst e2
  rename_i n el
  have hlen : (xs.take hi).length = hi := by simp; omega
  have hs := fun w => cJ (P := P) hE w
  refine ⟨.slice (some ⟨b, q, none⟩) hi n, ?_, some ⟨b, q, none⟩, n, by rw [hlen], by omega, h1, fun _ => ⟨b, q, rfl, ?_⟩⟩
  ·simp [execOp, ex, ey, Instr.sliceAt, run_underlying hD, Instr.sureAddr, Instr.sliceBounds, Instr.sliceBound, asIntOf, h2, hs]
   intro _; exact Addr.add_lit _ _ _
  have := Bg (hi * E.size) hp
  rw [wY] at this; exact this) h
theorem yJ [T : lQ P] {α : Type} {E : El α} {xs : List α} {len el : Nat} {parts : Array (Nat × Operand)} {ti te : TI} {ls : List (Nat × List Ty)} (hT : T.tab[ty']? = some ti) (hk : ti.k = .slice el) (hE : T.tab[el]? = some te) (hs : te.size = E.size) (hz : te.zero.length = te.size) (h0 : 0 < te.size) (hle : len * te.size ≤ 16777216) (hp : aT A fr parts.toList ls)
 (hf : sD (fun i => some (i * te.size, te.size)) ((List.range (len * te.size)).map fun j => Ty.oI (te.zero.getD (j % te.size) undef)) ls = some (xs.flatMap E.tys)) (hx : xs.length = len) (hpa : fr.pass.contains (d + 1) = false)
 (h : aV P fr ops rest (A.after { d := some d, ty := .row E el (d + 1) xs, K := [d + 1], rs := parts.toList.flatMap fun x => bq x.2 }) fun A' l' => K A' ((A, { d := some d, ty := .row E el (d + 1) xs, K := [d + 1], rs := parts.toList.flatMap fun x => bq x.2 }) :: l')) : aV P fr ops (⟨some d, .buildSlice ty' len parts, t, p, e, none⟩ :: rest) A K := by
 refine ⟨_, iD (f := { d := some d, ty := .row E el (d + 1) xs, K := [d + 1], rs := parts.toList.flatMap fun x => bq x.2 }) rfl rfl (by simp) (by simp) (by simp at hpa ⊢; exact hpa) fun a w M wf hr _ => ?_, h⟩
 obtain ⟨z, hz1, hz2⟩ := o7 hE (by intro hn; rw [hn] at hz; simp at hz; omega) w
 obtain ⟨_, D, _, hD, hkd, _⟩ := dM hT
 rw [hk] at hkd
 cases D <;> simp only [TK.of, reduceCtorEq, TK.slice.injEq] at hkd
 rename_i el0
 have hel : el0 = el := hkd
 subst hel
 have hzs : z.cells.size = te.size := by rw [← hz, ← hz2]; simp
 let zs : Array Value := if len * te.size = 0 then #[] else z.cells
 have hcells : cD w M ((List.range (len * te.size)).map fun j => Ty.oI (te.zero.getD (j % te.size) undef)) ((Array.range (len * te.size)).map (zs[· % zs.size]!)).toList := by
  refine g8 (by simp) fun i u hi => ?_
  rw [List.getElem?_map] at hi
  simp only [Option.map_eq_some_iff] at hi
  obtain ⟨j, hj, rfl⟩ := hi
  have hlt : i < len * te.size := by have := (List.getElem?_eq_some_iff.1 hj).1; simpa using this
  rw [List.getElem?_range hlt] at hj
  injection hj with hj
  subst hj
  have hne : ¬ len * te.size = 0 := by omega
  refine ⟨te.zero.getD (i % te.size) undef, ?_, pg _ _ _⟩
  have hm : i % te.size < z.cells.size := by rw [hzs]; exact Nat.mod_lt _ h0
  have e1 : zs[i % zs.size]! = te.zero.getD (i % te.size) undef := by
   simp only [zs, if_neg hne, hzs]
   rw [getElem!_pos z.cells _ hm, ← hz2, List.getD_eq_getElem?_getD, List.getElem?_eq_getElem (by simpa using hm)]
   simp
  simp [List.getElem?_range hlt, e1]
 obtain ⟨cs', h1, h2⟩ := x6 hr hp (place := fun i => some (i * te.size, te.size)) (cs := (Array.range (len * te.size)).map (zs[· % zs.size]!)) (fun x hx c hc => List.mem_flatMap.2 ⟨x, hx, hc⟩) hcells hf
 have hparts : (parts.map fun x => (x.1, a.eval x.2)).toList = parts.toList.map fun x => (x.1, a.eval x.2) := by simp
 obtain ⟨h3, h4, h5⟩ := nP wf (.cells cs' el0) (d + 1)
 have hcl : cs'.toList.length = len * te.size := by rw [cI h2, c7, hx, hs]
 have hmx : len ≤ maxLen := by
  have : len ≤ len * te.size := Nat.le_mul_of_pos_right _ h0
  simp only [maxLen]; omega
 refine ⟨.slice (some ⟨w.heap.size, 0, none⟩) len len, w.alloc (.cells cs' el0), ?_, _, h3, h4, ⟨cs'.toList, ⟨by rw [hcl, hx, hs], .inr ⟨w.heap.size, len, cs', by rw [hx], Nat.zero_le _, gu _ _, by rw [hx]; exact Nat.le_refl _, hmx, by rw [← hs]; simpa using hcl, by rw [List.take_of_length_le (by rw [hcl, hx, hs]; exact Nat.le_refl _)]⟩⟩, ?_, fun g hg => ?_⟩, by simp⟩
 ·have hbig : ¬ (len * te.size > 2 ^ 24) := by omega
  have hbig' : ¬ (2 ^ 24 < len * te.size) := by omega
  simp only [execOp, Instr.buildSlice, Sem.run_bind, run_underlying hD, Result.andThen_ok, cJ hE]
  simp only [hbig', gt_iff_lt, if_false]
  by_cases hn : len * te.size = 0
  ·have : zs = #[] := if_pos hn
   rw [this] at h1
   simp only [hn, if_true, Sem.run_pure, Sem.run_bind, Result.andThen_ok]
   rw [hn] at h1
   simp only [hparts, h1]
   simp [newRow, newObj, Sem.run]
  have : zs = z.cells := if_neg hn
  rw [this] at h1
  simp only [if_neg hn, Sem.run_pure, Sem.run_bind, Result.andThen_ok, hz1]
  simp only [hparts, h1]
  simp [newRow, newObj, Sem.run]
 ·refine bY h4 (fun u hu => ?_) (fun u hu => ?_) h2
  ·rw [E.cT] at hu; cases hu
  rw [E.cL] at hu; cases hu
 simp [Value.ownBlock] at hg
 subst hg; exact h5
end
end Go.T
namespace Go.T
open Go Go.RowKit
section
variable {A : As} {α : Type} {E : El α} {tg Tb : Nat} {xs : List α}
theorem S2 {s : Nat} (hx : A.slots s = .ptr tg 0) (hc : A.tag tg = some (.vec E Tb xs)) (h1 : ga tg) : Bn A tg s (.pa E xs 0) := by
 intro w M v wf ht hv
 rw [hx] at hv
 obtain ⟨b, hb, e⟩ := hv
 have hv := ht _ (dD hc)
 refine ⟨b, 0, by simpa using e, by simp [dx, hb], wf.lt b _ hb, fun i t hi => ?_⟩
 obtain ⟨u, hu, hd⟩ := mD (E := E) (Tb := Tb) (xs := xs) wf h1 hb hv hi
 refine ⟨u, by rw [Nat.zero_add]; exact hu, t.mono (iO (w := w) (tg := tg)) ?_ ?_ hd⟩
 ·intro u hu
  have : u ∈ bp (xs.flatMap E.tys) := List.mem_flatMap.2 ⟨t, List.mem_of_getElem? hi, hu⟩
  rw [E.cT] at this; cases this
 intro u _ h; cases h
end
section
variable {P : Program} {fr : Fr} {ops : Array Oper} {A : As} {rest : List Oper} {K : As → List (As × Fx) → Prop} {d : Nat} {t ty' ty2 : TypeId} {p : String} {e : Array Edge} [T : lQ P]
variable {α : Type} {E : El α} {xs : List α} {x y : Operand} {tg Tb : Nat} {ti : TI}
end
end Go.T
namespace Go.T
open Go Go.RowKit
section
variable {P : Program} {fr : Fr} {ops : Array Oper} {A : As} {rest : List Oper} {K : As → List (As × Fx) → Prop} {d : Nat} {t ty' ty2 : TypeId} {p : String} {e : Array Edge} [T : lQ P]
variable {x y : Operand} {ti ts : TI}
theorem IV {src : TypeId} {k k0 : IntKind} {n : Int} (hx : A.op fr x = .int k0 n) (hS : T.tab[src]? = some ts) (hT : T.tab[ty']? = some ti) (hk : ti.k = .int k)
 (h : aV P fr ops rest (A.set d (.int k (k.wrap n))) fun A' l' => K A' ((A, { d := some d, ty := .int k (k.wrap n), rs := bq x }) :: l')) : aV P fr ops (⟨some d, .convert src ty' x, t, p, e, none⟩ :: rest) A K :=
 bC (bP (rt := []) rfl rfl fun a w M _ hr _ => by
  have := cA (x := x) (fun _ h => h) hr
  rw [hx] at this
  have ex : a.eval x = .int k0 n := this
  obtain ⟨_, S, _, hS', _, _⟩ := dM hS
  obtain ⟨_, D, _, hD, hkd, _⟩ := dM hT
  rw [hk] at hkd
  cases D <;> simp only [TK.of, reduceCtorEq, TK.int.injEq] at hkd
  subst hkd
  refine ⟨.int _ (IntKind.wrap _ n), ?_, rfl⟩
  simp only [execOp, ex, convert, Sem.run_bind, run_underlying hS', run_underlying hD, Result.andThen_ok]
  cases S <;> rfl) h
theorem Dz {α : Type} [Inhabited α] {x y : Operand} {E : El α} {Te tg : Nat} {xs : List α} {k : IntKind} {i : Int} {ti te : TI} {el : Nat} (hx : A.op fr x = .row E Te tg xs) (hy : A.op fr y = .int k i) (hT : T.tab[ty']? = some ti) (hk : ti.k = .slice el) (hE : T.tab[el]? = some te) (hs : te.size = E.size)
 (h0 : 0 ≤ i) (h1 : i.toNat < xs.length)
 (h : aV P fr ops rest (A.set d (.op tg (E.tys (nth xs i.toNat)))) fun A' l' => K A' ((A, { d := some d, ty := .op tg (E.tys (nth xs i.toNat)), rs := bq x ++ bq y }) :: l')) : aV P fr ops (⟨some d, .indexAddr ty' x y, t, p, e, none⟩ :: rest) A K :=
 bC (bP rfl rfl fun a w M _ hr _ => by
  obtain ⟨hdx, hdy⟩ := op2 hr
  rw [hx] at hdx; rw [hy] at hdy
  obtain ⟨g, cap, ex, hg, hc⟩ := Dn hdx h1
  have ey : a.eval y = .int k i := hdy
  refine ⟨_, by simp only [execOp, ex, ey, Sem.run_bind, iL hT hk hE h0 h1]; rfl, g, 0 + i.toNat * te.size, by simp, hg, fun j ty hj => ?_⟩
  obtain ⟨u, hu, hd⟩ := hc j ty hj
  exact ⟨u, by rw [hs, Nat.zero_add]; exact hu, hd⟩) h
end
end Go.T
namespace Go.T
open Go
section
variable {P : Program} {fr : Fr} {A : As} {c : Code} {Q : Exit → Act → World → Prop}
def KB (A : As) (tg : Nat) (t0 t : Ty) : Prop := ∀ w M v, Wf w M → (∀ x ∈ A.tags, x.2.den w M x.1) → t0.den w M v → t.den w (dx M tg) v
def NJ (A : As) (tg : Nat) : List Ty → List Ty → Prop
  | [], [] => True
  | a :: l, b :: l' => KB A tg a b ∧ NJ A tg l l'
  | _, _ => False
def SA (A : As) (tg : Nat) (x : Nat × Cont) : Prop := ∀ w M, Wf w M → (∀ x ∈ A.tags, x.2.den w M x.1) → x.2.den w (dx M tg) x.1
def TQ (A : As) (tg : Nat) : List (Nat × Cont) → Prop
  | [] => True
  | x :: l => SA A tg x ∧ TQ A tg l
theorem cv {tg : Nat} {t : Ty} (h : nk t.deps [tg] = true) : KB A tg t t := fun w M _ _ _ hd =>
 t.mono (iO (w := w)) (gm h) (fun _ _ h => by cases h) hd
theorem nH {α : Type} {E : El α} {T tg : Nat} {xs : List α} : KB A tg (.row E T tg xs) (.sl E xs) := fun w M v wf _ hd =>
 AU wf hd (fun b hb => by simp [dx, hb]) (fun b hb => by simp [dx, hb])
theorem zW {α : Type} {E : El α} {T tg n : Nat} {xs : List α} (hc : A.tag tg = some (.vec E T xs)) (hn : xs.length = n) (h1 : ga tg) : KB A tg (.vs tg n) (.sl E xs) := fun w M v wf ht hd => by
 have hv : dc E T xs w M tg := ht _ (dD hc)
 subst hn
 rcases hd with ⟨h0, rfl⟩ | ⟨b, cc, hb, e, hn1, hn2⟩
 ·exact ⟨none, 0, by rw [h0], by omega, by simp [maxLen], fun h => absurd h (by omega)⟩
 refine ⟨_, cc, e, hn1, hn2, fun _ => ⟨b, 0, rfl, by simp [dx, hb], wf.lt b _ hb, fun i t hi => ?_⟩⟩
 obtain ⟨u, hu, hdu⟩ := mD wf h1 hb hv hi
 refine ⟨u, by rw [Nat.zero_add]; exact hu, t.mono (iO (w := w)) ?_ ?_ hdu⟩
 ·intro u hu
  have : u ∈ bp (xs.flatMap E.tys) := List.mem_flatMap.2 ⟨t, List.mem_of_getElem? hi, hu⟩
  rw [E.cT] at this; cases this
 intro u _ h; cases h
theorem AH {tg : Nat} {w : World} {M : ay} (wf : Wf w M) (ht : ∀ x ∈ A.tags, x.2.den w M x.1) : ∀ {l l' : List Ty} {vs : List Value}, NJ A tg l l' → cD w M l vs → cD w (dx M tg) l' vs
  | [], [], [], _, _ => trivial
  | _ :: _, _ :: _, _ :: _, ⟨h1, h2⟩, ⟨h3, h4⟩ => ⟨h1 _ _ _ wf ht h3, AH wf ht h2 h4⟩
theorem iG {tg o T : Nat} {l l' : List Ty} (ho : A.tag o = some (.cells T l)) (hne : Nat.beq o tg = false) (h : NJ A tg l l') : SA A tg (o, .cells T l') := fun w M wf ht => by
 obtain ⟨b, cs, hb, hh, hd⟩ := ht _ (dD ho)
 refine ⟨b, cs, ?_, hh, AH wf ht h hd⟩
 unfold dx
 rw [if_neg]
 ·exact hb
 rw [hb]; intro e; injection e with e; subst e; simp at hne
theorem GN {tg : Nat} {w : World} {M : ay} (wf : Wf w M) (ht : ∀ x ∈ A.tags, x.2.den w M x.1) : ∀ {lt : List (Nat × Cont)}, TQ A tg lt → ∀ {x : Nat × Cont}, x ∈ lt → x.2.den w (dx M tg) x.1
  | y :: _, ⟨h1, h2⟩, x, hx => by
    rcases List.mem_cons.1 hx with rfl | hx
    · exact h1 w M wf ht
    · exact GN wf ht h2 hx
theorem ox {tg : Nat} (l : List (Nat × Ty)) (lt : List (Nat × Cont)) (h1 : 1 ≤ tg) (hp : fr.pass.contains tg = false) (hl : Ir A tg l) (hlt : TQ A tg lt) (h : eZ P fr c ⟨(A.qy tg l).slots, lt ++ (A.qy tg l).tags⟩ Q) : eZ P fr c A Q := fun a w ⟨M, ok, hsl, ht⟩ => by
  have le : Le (· ∈ ([] : List Nat)) (· ∈ [tg]) w M w (dx M tg) := iO
  refine h a w ⟨dx M tg, ⟨CR ok.wf, Fr.lK ok.base (by intro _ h; cases h) (fun t ht => by simp only [List.mem_singleton] at ht; subst ht; exact ⟨h1, by simpa using hp⟩) le, ok.size, ok.defers.step (by intro _ h; cases h) (fun t ht => by simp only [List.mem_singleton] at ht; subst ht; exact h1) le⟩, fun i hi => ?_, fun x hx => ?_⟩
  · have base : (gI [] [tg] A.slots i).den w (dx M tg) (a.tmps.getD i undef) := by
      rcases fu [] [tg] A.slots i with ⟨e, hdj⟩ | ⟨_, e⟩
      · rw [e]; exact (A.slots i).mono le (fL hdj).1 (fL hdj).2 (hsl i hi)
      · rw [e]; trivial
    show (qI l (gI [] [tg] A.slots) i).den _ _ _
    clear h
    induction l with
    | nil => exact base
    | cons x l ih =>
      obtain ⟨d, t⟩ := x
      unfold qI
      cases hb : Nat.beq i d with
      | false => simp only [cond_false]; exact ih hl.2
      | true =>
        have : i = d := Nat.eq_of_beq_eq_true hb
        subst this
        simp only [cond_true]
        exact hl.1 w M _ ok.wf ht (hsl i hi)
  · rcases List.mem_append.1 (show x ∈ lt ++ (A.qy tg l).tags from hx) with hx | hx
    · exact GN ok.wf ht hlt hx
    · exact jJ le hx fun y hy _ => ht y hy
end
section
open Go.RowKit
variable {P : Program} {A : As} {fn : Func} {n : Nat} {w0 : World} {M0 : ay} {F : List Nat} {post : List (Nat × Cont)} [T : lQ P]
theorem Qi (L : List Nat) {tm ty tg Tb : Nat} {l : List Ty} {ti : TI} {res : Ty} (hr : fn.results = #[.cell tm ty]) (ht : Nat.blt tm n = true) (hx : A.slots tm = .ptr tg 0) (hc : A.tag tg = some (.cells Tb l)) (h1 : ga tg) (hT : T.tab[ty]? = some ti) (ha : ti.k.agg = true) (hl : l.length = ti.size)
 (hL : ∀ t ∈ F, t ∈ L) (hp : Bb A L post) (hs : Q1 L (.agg l) res) :
 cU ⟨n, w0, M0, F, .plain⟩ A (bodyPost P fn (bW F post w0 M0 res) .ret) := by
 intro a w ⟨M, ok, hsl, htg⟩
 have hd := hsl tm (by simpa using ht)
 rw [hx] at hd
 obtain ⟨b, hb, e⟩ := hd
 obtain ⟨b', cs, hb', hh, hds⟩ := htg _ (dD hc)
 obtain ⟨u, rfl⟩ : ∃ u, tg = u + 1 := ⟨tg - 1, by omega⟩
 have := ok.wf.inj b b' u (by omega) hb hb'
 subst this
 have hlen := cI hds
 have hload := jw (P := P) hT ha (w := w) (b := b) (off := 0) (cs := cs.toList) (by rw [hlen, hl]) (fun j v hj => by simpa [World.cell?, hh] using hj)
 have hload' : (loadVar ty ⟨b, 0, none⟩).run P w = .ok (.agg cs) w := by simpa [Instr.loadAt, Instr.sureAddr] using hload
 refine ⟨ok.iw (by simp), .agg cs, ?_, _, uD L M, rfl, zI ok.wf, Cj hL ok.base, hs _ _ _ ok.wf ⟨cs, rfl, hds⟩, Iz ok.wf htg hp⟩
 have e' : a.tmps.getD tm undef = .pointer (some ⟨b, 0, none⟩) := e
 have e'' : a.tmps[tm]?.getD undef = .pointer (some ⟨b, 0, none⟩) := by rw [← Array.getD_eq_getD_getElem?]; exact e'
 simp [results, hr, e'', asAddr, hload']
end
end Go.T
namespace Go.T
open Go Go.RowKit
theorem uF {w : World} {g : Nat} {old : Array Value} {t : TypeId} (cs : Array Value) (hg : w.heap[g]? = some (.cells old t (0, 0))) : w.setRow g cs = { w with heap := w.heap.setIfInBounds g (.cells cs t (0, 0)) } := by
 unfold World.setRow
 congr 1
 obtain ⟨hlt, hv⟩ := Array.getElem?_eq_some_iff.1 hg
 apply Array.ext_getElem?
 intro i
 by_cases e : g = i
 ·subst e
  rw [Array.getElem?_modify, if_pos rfl, hg, Array.getElem?_setIfInBounds_self_of_lt hlt]; rfl
 rw [Array.getElem?_modify, if_neg e, Array.getElem?_setIfInBounds_ne e]
theorem Df {α : Type} (E : El α) : ∀ (xs : List α) (n : Nat), (xs.flatMap E.tys).drop (n * E.size) = (xs.drop n).flatMap E.tys
  | [], n => by simp
  | x :: xs, 0 => by simp
  | x :: xs, n + 1 => by
    rw [List.flatMap_cons, List.drop_succ_cons, ← Df E xs n, List.drop_append, E.len, Nat.succ_mul, List.drop_of_length_le (by rw [E.len]; omega), List.nil_append]
    congr 1; omega
theorem Ql {α : Type} {E : El α} {xs ys : List α} {w : World} {M : ay} {cur vs : List Value} {i : Nat} (hd : cD w M (xs.flatMap E.tys) (cur.take (xs.flatMap E.tys).length)) (hv : cD w M (ys.flatMap E.tys) vs) (hi : i + ys.length ≤ xs.length) :
 cD w M ((xs.take i ++ (ys ++ xs.drop (i + ys.length))).flatMap E.tys) ((cur.take (i * E.size) ++ vs ++ cur.drop (i * E.size + vs.length)).take ((xs.take i ++ (ys ++ xs.drop (i + ys.length))).flatMap E.tys).length) := by
 have hvl : vs.length = ys.length * E.size := by rw [cI hv, c7]
 have hN : (xs.flatMap E.tys).length = xs.length * E.size := c7 E xs
 have hcl : xs.length * E.size ≤ cur.length := by
  have := cI hd
  rw [List.length_take, hN] at this; omega
 have hm : (i + ys.length) * E.size ≤ xs.length * E.size := Nat.mul_le_mul_right _ hi
 have hm2 : (i + ys.length) * E.size = i * E.size + ys.length * E.size := Nat.add_mul _ _ _
 have hxl : (xs.take i ++ (ys ++ xs.drop (i + ys.length))).length = xs.length := by simp; omega
 rw [c7 E (xs.take i ++ (ys ++ xs.drop (i + ys.length))), hxl, List.flatMap_append, List.flatMap_append]
 have e : (cur.take (i * E.size) ++ vs ++ cur.drop (i * E.size + vs.length)).take (xs.length * E.size) = cur.take (i * E.size) ++ (vs ++ (cur.take (xs.length * E.size)).drop ((i + ys.length) * E.size)) := by
  have l1 : (cur.take (i * E.size)).length = i * E.size := by rw [List.length_take]; omega
  rw [List.append_assoc, List.take_append, List.take_append, l1]
  have e1 : (cur.take (i * E.size)).take (xs.length * E.size) = cur.take (i * E.size) := List.take_of_length_le (by omega)
  have e2 : vs.take (xs.length * E.size - i * E.size) = vs := List.take_of_length_le (by omega)
  rw [e1, e2, hvl, hm2, List.drop_take]
  congr 3; omega
 rw [e]
 rw [hN] at hd
 refine pR ?_ (pR hv ?_)
 ·have := sj (i * E.size) hd
  rw [wY, List.take_take, Nat.min_eq_left (by omega)] at this; exact this
 have := sR ((i + ys.length) * E.size) hd
 rw [Df] at this; exact this
section
variable {P : Program} {fr : Fr} {ops : Array Oper} {A : As} {rest : List Oper} {K : As → List (As × Fx) → Prop} {d : Nat} {t ty' : TypeId} {p : String} {e : Array Edge} [T : lQ P]
theorem Mz {α : Type} {xs : List α} {i : Nat} (h : i < xs.length) (z : α) : xs.take i ++ ([z] ++ xs.drop (i + [z].length)) = xs.set i z := by
 rw [List.set_eq_take_append_cons_drop, if_pos h]; rfl
theorem D7 {α : Type} {E : El α} {xs : List α} {x y : Operand} {tg off Tb : Nat} {ti : TI} {z : α} (i : Nat) (hx : A.op fr x = .ptr tg off) (he : off = i * E.size) (hc : A.tag tg = some (.vec E Tb xs)) (h1 : ga tg) (hT : T.tab[ty']? = some ti) (hsz : ti.size = E.size) (hy : A.op fr y = .agg (E.tys z)) (hi : i < xs.length)
 (h : aV P fr ops rest (A.after { d := none, S := [tg], sets := [(tg, .vec E Tb (xs.set i z))], rs := bq x ++ bq y, rt := [tg] }) fun A' l'' => K A' ((A, { d := none, S := [tg], sets := [(tg, .vec E Tb (xs.set i z))], rs := bq x ++ bq y, rt := [tg] }) :: l'')) :
 aV P fr ops (⟨none, .store ty' x y, t, p, e, none⟩ :: rest) A K := by
 refine ⟨_, ld rfl rfl rfl (by simp) (by simpa using h1.1) (by simp) fun a w M wf hr ht => ?_, h⟩
 obtain ⟨hdx, hdy⟩ := op2 hr
 rw [hx] at hdx; rw [hy] at hdy
 obtain ⟨b, hb, ex⟩ := hdx
 obtain ⟨vs, ey, hvs⟩ := hdy
 rcases qA hc w M ht with rfl | ⟨b', cs, hb', hh, hd⟩
 ·exact absurd hi (Nat.not_lt_zero _)
 obtain ⟨u, rfl⟩ : ∃ u, tg = u + 1 := ⟨tg - 1, by omega⟩
 have := wf.inj b b' u (by omega) hb hb'
 subst this
 have hlen := cI hd
 have hvl : vs.size = E.size := by have := cI hvs; rw [E.len] at this; simpa using this
 have hoff : i * E.size + E.size ≤ cs.size := by
  rw [c7, List.length_take] at hlen
  have : (i + 1) * E.size ≤ xs.length * E.size := Nat.mul_le_mul_right _ hi
  rw [Nat.succ_mul] at this
  simp at hlen; omega
 have hones : ∀ v ∈ vs.toList, v.oneCell' = true := sX hvs (fun t ht => by
  have := kW E [z] t (by simpa using ht)
  exact this)
 have hst := run_storeCells_at (P := P) b off Tb vs.toList 0 cs w hh (by simp [he, hvl]; omega) hones
 rw [uF _ hh] at hst
 obtain ⟨h1', h2', h3'⟩ := jW (cs' := (cs.toList.take (off + 0) ++ vs.toList ++ cs.toList.drop (off + 0 + vs.toList.length)).toArray) (Tb := Tb) wf hb _ rfl
 refine ⟨_, ?_, M, h1', h2', trivial, ?_⟩
 ·simp only [execOp, Instr.storeAt, Instr.sureAddr, ex, ey, storeVar, Value.cells, cJ hT, Sem.run_bind, Sem.run_pure, Result.andThen_ok, hsz, hvl, hst]
  simp [hst]
 intro z' hz'
 simp only [List.mem_singleton] at hz'
 subst hz'
 refine .inr ⟨b, _, hb, h3', ?_⟩
 have hp := Ql (ys := [z]) (vs := vs.toList) (i := i) hd (by simpa using hvs) (by show i + 1 ≤ _; omega)
 rw [Mz hi, ← he] at hp
 exact bY h2' (by intro _ _ h; cases h) (by rw [E.cL]; intro _ h; cases h) (by simpa using hp)
end
section
variable {P : Program} {A : As} {fn : Func} {n : Nat} {w0 : World} {M0 : ay} [T : lQ P]
end
section
variable {P : Program} {fr : Fr} {ops : Array Oper} {A : As} {rest : List Oper} {K : As → List (As × Fx) → Prop} {d : Nat} {t ty' : TypeId} {p : String} {e : Array Edge} [T : lQ P]
end
end Go.T
namespace Go.T
open Go Go.RowKit
section
variable {P : Program} {fr : Fr} {ops : Array Oper} {A : As} {rest : List Oper} {K : As → List (As × Fx) → Prop} {d : Nat} {t ty' ty2 : TypeId} {p : String} {e : Array Edge} {x : Operand}
end
end Go.T
namespace Go.T
open Go Go.RowKit
section
variable {P : Program} {fr : Fr} {A : As} {Q : Exit → Act → World → Prop} {code : Code}
end
section
variable {P : Program} {fr : Fr} {ops : Array Oper} {A : As} {rest : List Oper} {K : As → List (As × Fx) → Prop} {d : Nat} {t ty' ty2 : TypeId} {p : String} {e : Array Edge}
end
section
variable {P : Program} {fr : Fr} {ops : Array Oper} {A : As} {rest : List Oper} {K : As → List (As × Fx) → Prop} {d : Nat} {t ty' ty2 : TypeId} {p : String} {e : Array Edge} [T : lQ P]
end
end Go.T
namespace Go.T
open Go Go.RowKit
section
variable {P : Program} {fr : Fr} {ops : Array Oper} {A : As} {rest : List Oper} {K : As → List (As × Fx) → Prop} {d : Nat} {t : TypeId} {p : String} {e : Array Edge} {y : Operand}
end
end Go.T
namespace Go.T
open Go Go.RowKit
structure Tq (α : Type) where
  E : El α
  own : Nat → α → List Ty
  olen : ∀ J x, (own J x).length = E.size
  deps : ∀ J x, ∀ u ∈ bp (own J x), u = J
  cdeps : ∀ J x, ∀ u ∈ bU (own J x), u = J
  oones : ∀ J x, (own J x).all Ty.one = true
  qy : ∀ J x w M M' vs, Wf w M → (∀ b, M b = some J → M' b = none) → (∀ b, M b = none → M' b = none) → cD w M (own J x) vs → cD w M' (E.tys x) vs
  ren : ∀ J J' x w M M' vs, (∀ b, M b = some J → M' b = some J') → (∀ b, M b = none → M' b = none) → cD w M (own J x) vs → cD w M' (own J' x) vs
  mine : ∀ J x w M vs, cD w M (own J x) vs → ∀ g ∈ vs.filterMap Value.ownBlock, M g = some J
section
variable {α : Type} (E : Tq α)
theorem Tq.cT (J : Nat) (xs : List α) : ∀ u ∈ bp (xs.flatMap (E.own J)), u = J := by
 intro u hu
 simp only [bp, List.mem_flatMap] at hu
 obtain ⟨t, ⟨x, _, hx⟩, hu⟩ := hu
 exact E.deps J x u (List.mem_flatMap.2 ⟨t, hx, hu⟩)
theorem Tq.cL (J : Nat) (xs : List α) : ∀ u ∈ bU (xs.flatMap (E.own J)), u = J := by
 intro u hu
 simp only [bU, List.mem_flatMap] at hu
 obtain ⟨t, ⟨x, _, hx⟩, hu⟩ := hu
 exact E.cdeps J x u (List.mem_flatMap.2 ⟨t, hx, hu⟩)
theorem Tq.c7 (J : Nat) : ∀ xs : List α, (xs.flatMap (E.own J)).length = xs.length * E.E.size
  | [] => by simp
  | x :: xs => by rw [List.flatMap_cons, List.length_append, E.olen, Tq.c7 J xs, List.length_cons, Nat.succ_mul, Nat.add_comm]
end
def Vt (l : List Ty) (w : World) (M : ay) (v : Value) : Prop := ∃ b, v = .slice (some ⟨b, 0, none⟩) 1 1 ∧ oX w M b 0 l
def Ty.ms (l : List Ty) : Ty := ⟨Vt l, bp l, bU l, fun le hk hs ⟨b, e, h⟩ => ⟨b, e, nV le hk hs h⟩, true, fun _ ⟨_, e, _⟩ => e ▸ rfl⟩
section
variable {P : Program} {fr : Fr} {ops : Array Oper} {A : As} {rest : List Oper} {K : As → List (As × Fx) → Prop} {d : Nat} {t ty' : TypeId} {p : String} {e : Array Edge} [T : lQ P]
def pF (M : ay) (tg J : Nat) : ay := fun b => if M b = some tg then some J else M b
theorem z5 {w : World} {M : ay} {tg J : Nat} : Le (· ∈ ([] : List Nat)) (· ∈ [tg]) w M w (pF M tg J) :=
 ⟨Nat.le_refl _, rfl, rfl, rfl, fun b _ hm => ⟨by simp [pF, hm], rfl⟩, fun b t hm hk => ⟨by simp only [List.mem_singleton] at hk; simp [pF, hm, hk], fun _ => rfl⟩⟩
theorem N9 {w : World} {M : ay} {tg J : Nat} (hJ : 4096 ≤ J) (wf : Wf w M) : Wf w (pF M tg J) := by
 have key : ∀ b t, pF M tg J b = some t → (M b = some tg ∧ t = J) ∨ M b = some t := fun b t h => by
  unfold pF at h
  split at h
  ·rename_i hm; injection h with h; exact .inl ⟨hm, h.symm⟩
  exact .inr h
 refine ⟨fun b t h => (key b t h).elim (fun h => wf.lt b _ h.1) (fun h => wf.lt b _ h), fun b b' t ht1 h h' => ?_⟩
 rcases key _ _ h with ⟨_, e⟩ | a
 ·omega
 rcases key _ _ h' with ⟨_, e⟩ | a'
 ·omega
 exact wf.inj b b' t ht1 a a'
end
end Go.T
namespace Go.Proofs.YtmmcenjknimhbaaGreat
open Go Go.T
set_option maxHeartbeats 2000000
attribute [local irreducible] eG cZ jR j6 eP eO eK eM eS j8 eJ j4 b8 dc jz dZ j7 nth eZ cU aV cX bodyPost Exit.then Exit.inBlock Code.wp Code.wpIn dS mz mm m5 fT mq m7 fW mW eB fO lq bW bV bodyPostM cV
end Go.Proofs.YtmmcenjknimhbaaGreat
namespace Go.Proofs.YtmmcenjknimhbaaGreat
open Go Go.T
set_option maxHeartbeats 2000000
attribute [local irreducible] eG cZ jR j6 eP eO eK eM eS j8 eJ j4 b8 dc jz dZ j7 nth eZ cU aV cX bodyPost Exit.then Exit.inBlock Code.wp Code.wpIn dS mz mm m5 fT mq m7 fW mW eB fO lq bW bV bodyPostM cV
theorem UT : Tryz.prog.underlying 23 = some (.slice 3) := by kernel_rfl
end Go.Proofs.YtmmcenjknimhbaaGreat
namespace Go.Proofs.YtmmcenjknimhbaaGreat
open Go Go.T
end Go.Proofs.YtmmcenjknimhbaaGreat
namespace Go.Proofs.YtmmcenjknimhbaaGreat
open Go Go.T
set_option maxHeartbeats 2000000
attribute [local irreducible] eG cZ jR j6 eP eO eK eM eS j8 eJ j4 b8 dc jz dZ j7 nth eZ cU aV cX bodyPost Exit.then Exit.inBlock Code.wp Code.wpIn dS mz mm m5 fT mq m7 fW mW eB fO lq bW bV bodyPostM cV
set_option maxRecDepth 100000 in
theorem x9 (l : List Int) (t : Ty) (h1 : t.one = true) (q : Int → Bool) (hd : t.deps = []) (hc : t.cdeps = []) (hf : ∀ x ∈ l, oz Tryz.prog t [Ty.int .i64 x] (Ty.bool (q x))) : cX Tryz.prog 142 [Ty.sl dN l, t] (Ty.int .i64 (nj q l)) := by
 refine aY Tryz.func142 rfl (by decide) Tryz.ntmps142 (by exact Nat.le_of_ble_eq_true rfl) fun w0 M0 => ?_
 refine ko (s := 0) rfl rfl k8 fun hl => ?_
 refine aF (aA (b9 rfl (aD (aC (aF (aF (aA (gq rfl (cC rfl rfl rfl (bF rfl (aD (aC (af ?_)))))))))))))
 refine cK (fun (k : {k : Nat // ∀ x ∈ l.take k, q x = false}) => live [(0, Ty.sl dN l), (1, t), (7, Ty.int .i64 l.length), (8, Ty.int .i64 (k.1 : Nat))] []) (fun k => l.length - k.1) (⟨0, by simp⟩) ?_ fun k => ?_
 ·(refine c8.mk' ?_ ?_ <;> (repeat' (first | exact aI | exact aH | refine aB ?_ (Ty.aR _) | refine aB ?_ (Ty.aG _))))
 refine aF (aA (ak rfl rfl rfl (aD (aC (aF ?_)))))
 refine aa rfl (fun hc1 => ?_) (fun hc1 => ?_)
 ·refine bA (aC (aF (af (aF (aA (bF rfl (b9 rfl (aD (aC (aF (aA ?_)))))))))))
  refine eN (ty := t) rfl ?_
  refine gq rfl (bF rfl ?_)
  refine bG rfl rfl rfl rfl rfl rfl (by omega) ?_
  refine aK rfl rfl rfl rfl ?_
  refine eA rfl (hf _ (bL (by omega))) rfl ?_
  refine aD (aC ?_)
  refine c9 rfl (fun hc2 => ?_) (fun hc2 => ?_)
  ·refine aF (aA (bF rfl (b9 rfl (aD (aC (au (av (aW (aW (av (aW (bK rfl rfl ?_))))))))))))
   all_goals skip
   exact bE rfl rfl (congrArg (Ty.int .i64) (oF (by omega) k.2 (by rw [← cF]; exact hc2)).symm)
  refine bA (bH (aC (aA ?_)))
  refine bz rfl rfl (by omega) (by omega) ?_
  refine bF rfl (aD ?_)
  refine bO (⟨k.1 + 1, by rw [bh (by omega)]; intro x hx; rcases List.mem_append.1 hx with h | h; exact k.2 x h; rw [List.mem_singleton.1 h]; exact hc2⟩) ?_ (by show l.length - (k.1 + 1) < l.length - k.1; omega)
  (refine c8.mk' ?_ ?_ <;> (repeat' (first | exact aI | exact aH | refine aB ?_ (Ty.aR _) | refine aB ?_ (Ty.aG _))))
  all_goals skip
 refine cE (aL (aL (ah rfl (aC (aF (aA (b9 rfl (aD (aC (au (bK rfl rfl ?_)))))))))))
 all_goals skip
 exact bE rfl rfl (congrArg (Ty.int .i64) (qM (by have := k.2; rwa [List.take_of_length_le (by omega)] at this)).symm)
set_option maxRecDepth 100000 in
theorem tK (l : List Int) (t : Ty) (h1 : t.one = true) (q : Int → Bool) (hd : t.deps = []) (hc : t.cdeps = []) (hf : ∀ x ∈ l, oz Tryz.prog t [Ty.int .i64 x] (Ty.bool (q x))) : cX Tryz.prog 90 [Ty.sl dN l, t] (Ty.bool (l.any q)) := by
 refine aY Tryz.func90 rfl (by decide) Tryz.ntmps90 (by exact Nat.le_of_ble_eq_true rfl) fun w0 M0 => ?_
 refine aF (aA (dG rfl (aD (aC (aF (aA (gq rfl ?_)))))))
 refine eN (ty := t) rfl ?_
 refine aq (x9 l t h1 q hd hc hf) rfl (by exact aZ rfl (aZ hd rfl)) (by exact aU rfl (aU hc rfl)) rfl rfl ?_
 refine ak rfl rfl rfl (dG rfl (aD (aC (au (bK rfl rfl ?_)))))
 all_goals skip
 exact bE rfl rfl (congrArg Ty.bool (wB q l))
set_option maxRecDepth 100000 in
theorem CI (x : Int) (t : Ty) (h1 : t.one = true) (b : Bool) (hd : t.deps = []) (hc : t.cdeps = []) (hf : oz Tryz.prog t [Ty.int .i64 x] (Ty.bool b)) : cX Tryz.prog 91 [Ty.int .i64 x, Ty.pp [t]] (Ty.bool (!b)) := by
 refine aY Tryz.func91 rfl (by decide) Tryz.ntmps91 (by exact Nat.le_of_ble_eq_true rfl) fun w0 M0 => ?_
 refine aF (aA (dG rfl (aD (aC (aF (aA (aK rfl rfl rfl rfl (bF rfl (eA rfl hf rfl (ct rfl (dG rfl (aD (aC (au (bK rfl rfl ?_)))))))))))))))
 all_goals exact bN rfl rfl
set_option maxRecDepth 100000 in
theorem vO (l : List Int) (t : Ty) (h1 : t.one = true) (q : Int → Bool) (hd : t.deps = []) (hc : t.cdeps = []) (hf : ∀ x ∈ l, oz Tryz.prog t [Ty.int .i64 x] (Ty.bool (q x))) : cX Tryz.prog 37 [Ty.sl dN l, t] (Ty.bool (l.all q)) := by
 refine aY Tryz.func37 rfl (by decide) Tryz.ntmps37 (by exact Nat.le_of_ble_eq_true rfl) fun w0 M0 => ?_
 refine aF (aA ?_)
 refine eY (ty := t) rfl h1 ?_
 refine dG rfl (aD (aC (aF (aA (gq rfl (cw rfl ?_))))))
 refine aq (tK l (Ty.j9 _ [Ty.pp [t]]) rfl (fun x => !q x) (by exact aZ (aZ hd rfl) rfl) (by exact aU (aU hc rfl) rfl) fun x hx => cY (CI x t h1 (q x) hd hc (hf x hx)) rfl rfl (by exact aZ (aZ hd rfl) rfl) (by exact aU (aU hc rfl) rfl) rfl rfl) rfl (by exact aZ rfl (aZ (aZ (aZ hd rfl) rfl) rfl)) (by exact aU rfl (aU (aU (aU hc rfl) rfl) rfl)) rfl rfl ?_
 refine ct rfl (dG rfl (aD (aC (au (bK rfl rfl ?_)))))
 all_goals skip
 exact bE rfl rfl (congrArg Ty.bool (vP q l))
set_option maxRecDepth 100000 in
theorem xk (l : List oc) (t : Ty) (h1 : t.one = true) (q : oc → Bool) (hd : t.deps = []) (hc : t.cdeps = []) (hf : ∀ x ∈ l, oz Tryz.prog t [Ty.agg (jo.tys x)] (Ty.bool (q x))) : cX Tryz.prog 179 [Ty.sl jo l, t] (Ty.int .i64 (nj q l)) := by
 refine aY Tryz.func179 rfl (by decide) Tryz.ntmps179 (by exact Nat.le_of_ble_eq_true rfl) fun w0 M0 => ?_
 refine ko (s := 0) rfl rfl k8 fun hl => ?_
 refine aF (aA (b9 rfl (aD (aC (aF (aF (aA (gq rfl (cC rfl rfl rfl (bF rfl (aD (aC (af ?_)))))))))))))
 refine cK (fun (k : {k : Nat // ∀ x ∈ l.take k, q x = false}) => live [(0, Ty.sl jo l), (1, t), (7, Ty.int .i64 l.length), (8, Ty.int .i64 (k.1 : Nat))] []) (fun k => l.length - k.1) (⟨0, by simp⟩) ?_ fun k => ?_
 ·(refine c8.mk' ?_ ?_ <;> (repeat' (first | exact aI | exact aH | refine aB ?_ (Ty.aR _) | refine aB ?_ (Ty.aG _))))
 refine aF (aA (ak rfl rfl rfl (aD (aC (aF ?_)))))
 refine aa rfl (fun hc1 => ?_) (fun hc1 => ?_)
 ·refine bA (aC (aF (af (aF (aA (bF rfl (b9 rfl (aD (aC (aF (aA ?_)))))))))))
  refine eN (ty := t) rfl ?_
  refine gq rfl (bF rfl ?_)
  refine bG rfl rfl rfl rfl rfl rfl (by omega) ?_
  refine az rfl rfl rfl (by exact Nat.le_of_ble_eq_true rfl) ?_
  refine eA rfl (hf _ (bL (by omega))) rfl ?_
  refine aD (aC ?_)
  refine c9 rfl (fun hc2 => ?_) (fun hc2 => ?_)
  ·refine aF (aA (bF rfl (b9 rfl (aD (aC (au (av (aW (aW (av (aW (bK rfl rfl ?_))))))))))))
   all_goals skip
   exact bE rfl rfl (congrArg (Ty.int .i64) (oF (by omega) k.2 (by rw [← cF]; exact hc2)).symm)
  refine bA (bH (aC (aA ?_)))
  refine bz rfl rfl (by omega) (by omega) ?_
  refine bF rfl (aD ?_)
  refine bO (⟨k.1 + 1, by rw [bh (by omega)]; intro x hx; rcases List.mem_append.1 hx with h | h; exact k.2 x h; rw [List.mem_singleton.1 h]; exact hc2⟩) ?_ (by show l.length - (k.1 + 1) < l.length - k.1; omega)
  (refine c8.mk' ?_ ?_ <;> (repeat' (first | exact aI | exact aH | refine aB ?_ (Ty.aR _) | refine aB ?_ (Ty.aG _))))
  all_goals skip
 refine cE (aL (aL (ah rfl (aC (aF (aA (b9 rfl (aD (aC (au (bK rfl rfl ?_)))))))))))
 all_goals skip
 exact bE rfl rfl (congrArg (Ty.int .i64) (qM (by have := k.2; rwa [List.take_of_length_le (by omega)] at this)).symm)
set_option maxRecDepth 100000 in
theorem tQ (l : List oc) (t : Ty) (h1 : t.one = true) (q : oc → Bool) (hd : t.deps = []) (hc : t.cdeps = []) (hf : ∀ x ∈ l, oz Tryz.prog t [Ty.agg (jo.tys x)] (Ty.bool (q x))) : cX Tryz.prog 136 [Ty.sl jo l, t] (Ty.bool (l.any q)) := by
 refine aY Tryz.func136 rfl (by decide) Tryz.ntmps136 (by exact Nat.le_of_ble_eq_true rfl) fun w0 M0 => ?_
 refine aF (aA (dG rfl (aD (aC (aF (aA (gq rfl ?_)))))))
 refine eN (ty := t) rfl ?_
 refine aq (xk l t h1 q hd hc hf) rfl (by exact aZ rfl (aZ hd rfl)) (by exact aU rfl (aU hc rfl)) rfl rfl ?_
 refine ak rfl rfl rfl (dG rfl (aD (aC (au (bK rfl rfl ?_)))))
 all_goals skip
 exact bE rfl rfl (congrArg Ty.bool (wB q l))
set_option maxRecDepth 100000 in
theorem B2 (x : oc) (t : Ty) (h1 : t.one = true) (b : Bool) (hd : t.deps = []) (hc : t.cdeps = []) (hf : oz Tryz.prog t [Ty.agg (jo.tys x)] (Ty.bool b)) : cX Tryz.prog 137 [Ty.agg (jo.tys x), Ty.pp [t]] (Ty.bool (!b)) := by
 refine aY Tryz.func137 rfl (by decide) Tryz.ntmps137 (by exact Nat.le_of_ble_eq_true rfl) fun w0 M0 => ?_
 refine aF (aA (bD rfl (dG rfl (aD (aC (aF (aA (aK rfl rfl rfl rfl ?_))))))))
 refine az rfl rfl rfl (by exact Nat.le_of_ble_eq_true rfl) ?_
 refine eA rfl hf rfl (ct rfl (dG rfl (aD (aC (au (bK rfl rfl ?_))))))
 all_goals exact bN rfl rfl
set_option maxRecDepth 100000 in
theorem vw (l : List oc) (t : Ty) (h1 : t.one = true) (q : oc → Bool) (hd : t.deps = []) (hc : t.cdeps = []) (hf : ∀ x ∈ l, oz Tryz.prog t [Ty.agg (jo.tys x)] (Ty.bool (q x))) : cX Tryz.prog 75 [Ty.sl jo l, t] (Ty.bool (l.all q)) := by
 refine aY Tryz.func75 rfl (by decide) Tryz.ntmps75 (by exact Nat.le_of_ble_eq_true rfl) fun w0 M0 => ?_
 refine aF (aA ?_)
 refine eY (ty := t) rfl h1 ?_
 refine dG rfl (aD (aC (aF (aA (gq rfl (cw rfl ?_))))))
 refine aq (tQ l (Ty.j9 _ [Ty.pp [t]]) rfl (fun x => !q x) (by exact aZ (aZ hd rfl) rfl) (by exact aU (aU hc rfl) rfl) fun x hx => cY (B2 x t h1 (q x) hd hc (hf x hx)) rfl rfl (by exact aZ (aZ hd rfl) rfl) (by exact aU (aU hc rfl) rfl) rfl rfl) rfl (by exact aZ rfl (aZ (aZ (aZ hd rfl) rfl) rfl)) (by exact aU rfl (aU (aU (aU hc rfl) rfl) rfl)) rfl rfl ?_
 refine ct rfl (dG rfl (aD (aC (au (bK rfl rfl ?_)))))
 all_goals skip
 exact bE rfl rfl (congrArg Ty.bool (vP q l))
set_option maxRecDepth 100000 in
theorem zB (l : List Move) (t : Ty) (h1 : t.one = true) (q : Move → Bool) (hd : t.deps = []) (hc : t.cdeps = []) (hf : ∀ x ∈ l, oz Tryz.prog t [Ty.agg (iX.tys x)] (Ty.bool (q x))) : cX Tryz.prog 180 [Ty.sl iX l, t] (Ty.int .i64 (nj q l)) := by
 refine aY Tryz.func180 rfl (by decide) Tryz.ntmps180 (by exact Nat.le_of_ble_eq_true rfl) fun w0 M0 => ?_
 refine ko (s := 0) rfl rfl k8 fun hl => ?_
 refine aF (aA (b9 rfl (aD (aC (aF (aF (aA (gq rfl (cC rfl rfl rfl (bF rfl (aD (aC (af ?_)))))))))))))
 refine cK (fun (k : {k : Nat // ∀ x ∈ l.take k, q x = false}) => live [(0, Ty.sl iX l), (1, t), (7, Ty.int .i64 l.length), (8, Ty.int .i64 (k.1 : Nat))] []) (fun k => l.length - k.1) (⟨0, by simp⟩) ?_ fun k => ?_
 ·(refine c8.mk' ?_ ?_ <;> (repeat' (first | exact aI | exact aH | refine aB ?_ (Ty.aR _) | refine aB ?_ (Ty.aG _))))
 refine aF (aA (ak rfl rfl rfl (aD (aC (aF ?_)))))
 refine aa rfl (fun hc1 => ?_) (fun hc1 => ?_)
 ·refine bA (aC (aF (af (aF (aA (bF rfl (b9 rfl (aD (aC (aF (aA ?_)))))))))))
  refine eN (ty := t) rfl ?_
  refine gq rfl (bF rfl ?_)
  refine bG rfl rfl rfl rfl rfl rfl (by omega) ?_
  refine az rfl rfl rfl (by exact Nat.le_of_ble_eq_true rfl) ?_
  refine eA rfl (hf _ (bL (by omega))) rfl ?_
  refine aD (aC ?_)
  refine c9 rfl (fun hc2 => ?_) (fun hc2 => ?_)
  ·refine aF (aA (bF rfl (b9 rfl (aD (aC (au (av (aW (aW (av (aW (bK rfl rfl ?_))))))))))))
   all_goals skip
   exact bE rfl rfl (congrArg (Ty.int .i64) (oF (by omega) k.2 (by rw [← cF]; exact hc2)).symm)
  refine bA (bH (aC (aA ?_)))
  refine bz rfl rfl (by omega) (by omega) ?_
  refine bF rfl (aD ?_)
  refine bO (⟨k.1 + 1, by rw [bh (by omega)]; intro x hx; rcases List.mem_append.1 hx with h | h; exact k.2 x h; rw [List.mem_singleton.1 h]; exact hc2⟩) ?_ (by show l.length - (k.1 + 1) < l.length - k.1; omega)
  (refine c8.mk' ?_ ?_ <;> (repeat' (first | exact aI | exact aH | refine aB ?_ (Ty.aR _) | refine aB ?_ (Ty.aG _))))
  all_goals skip
 refine cE (aL (aL (ah rfl (aC (aF (aA (b9 rfl (aD (aC (au (bK rfl rfl ?_)))))))))))
 all_goals skip
 exact bE rfl rfl (congrArg (Ty.int .i64) (qM (by have := k.2; rwa [List.take_of_length_le (by omega)] at this)).symm)
set_option maxRecDepth 100000 in
theorem uy (l : List Move) (t : Ty) (h1 : t.one = true) (q : Move → Bool) (hd : t.deps = []) (hc : t.cdeps = []) (hf : ∀ x ∈ l, oz Tryz.prog t [Ty.agg (iX.tys x)] (Ty.bool (q x))) : cX Tryz.prog 138 [Ty.sl iX l, t] (Ty.bool (l.any q)) := by
 refine aY Tryz.func138 rfl (by decide) Tryz.ntmps138 (by exact Nat.le_of_ble_eq_true rfl) fun w0 M0 => ?_
 refine aF (aA (dG rfl (aD (aC (aF (aA (gq rfl ?_)))))))
 refine eN (ty := t) rfl ?_
 refine aq (zB l t h1 q hd hc hf) rfl (by exact aZ rfl (aZ hd rfl)) (by exact aU rfl (aU hc rfl)) rfl rfl ?_
 refine ak rfl rfl rfl (dG rfl (aD (aC (au (bK rfl rfl ?_)))))
 all_goals skip
 exact bE rfl rfl (congrArg Ty.bool (wB q l))
set_option maxRecDepth 100000 in
theorem Ey (x : Move) (t : Ty) (h1 : t.one = true) (b : Bool) (hd : t.deps = []) (hc : t.cdeps = []) (hf : oz Tryz.prog t [Ty.agg (iX.tys x)] (Ty.bool b)) : cX Tryz.prog 139 [Ty.agg (iX.tys x), Ty.pp [t]] (Ty.bool (!b)) := by
 refine aY Tryz.func139 rfl (by decide) Tryz.ntmps139 (by exact Nat.le_of_ble_eq_true rfl) fun w0 M0 => ?_
 refine aF (aA (bD rfl (dG rfl (aD (aC (aF (aA (aK rfl rfl rfl rfl ?_))))))))
 refine az rfl rfl rfl (by exact Nat.le_of_ble_eq_true rfl) ?_
 refine eA rfl hf rfl (ct rfl (dG rfl (aD (aC (au (bK rfl rfl ?_))))))
 all_goals exact bN rfl rfl
set_option maxRecDepth 100000 in
theorem oG (l : List Move) (t : Ty) (h1 : t.one = true) (q : Move → Bool) (hd : t.deps = []) (hc : t.cdeps = []) (hf : ∀ x ∈ l, oz Tryz.prog t [Ty.agg (iX.tys x)] (Ty.bool (q x))) : cX Tryz.prog 78 [Ty.sl iX l, t] (Ty.bool (l.all q)) := by
 refine aY Tryz.func78 rfl (by decide) Tryz.ntmps78 (by exact Nat.le_of_ble_eq_true rfl) fun w0 M0 => ?_
 refine aF (aA ?_)
 refine eY (ty := t) rfl h1 ?_
 refine dG rfl (aD (aC (aF (aA (gq rfl (cw rfl ?_))))))
 refine aq (uy l (Ty.j9 _ [Ty.pp [t]]) rfl (fun x => !q x) (by exact aZ (aZ hd rfl) rfl) (by exact aU (aU hc rfl) rfl) fun x hx => cY (Ey x t h1 (q x) hd hc (hf x hx)) rfl rfl (by exact aZ (aZ hd rfl) rfl) (by exact aU (aU hc rfl) rfl) rfl rfl) rfl (by exact aZ rfl (aZ (aZ (aZ hd rfl) rfl) rfl)) (by exact aU rfl (aU (aU (aU hc rfl) rfl) rfl)) rfl rfl ?_
 refine ct rfl (dG rfl (aD (aC (au (bK rfl rfl ?_)))))
 all_goals skip
 exact bE rfl rfl (congrArg Ty.bool (vP q l))
set_option maxRecDepth 100000 in
theorem y9 (l : List Level) (t : Ty) (h1 : t.one = true) (q : Level → Bool) (hd : t.deps = []) (hc : t.cdeps = []) (hf : ∀ x ∈ l, oz Tryz.prog t [Ty.agg (jf.tys x)] (Ty.bool (q x))) : cX Tryz.prog 181 [Ty.sl jf l, t] (Ty.int .i64 (nj q l)) := by
 refine aY Tryz.func181 rfl (by decide) Tryz.ntmps181 (by exact Nat.le_of_ble_eq_true rfl) fun w0 M0 => ?_
 refine ko (s := 0) rfl rfl k8 fun hl => ?_
 refine aF (aA (b9 rfl (aD (aC (aF (aF (aA (gq rfl (cC rfl rfl rfl (bF rfl (aD (aC (af ?_)))))))))))))
 refine cK (fun (k : {k : Nat // ∀ x ∈ l.take k, q x = false}) => live [(0, Ty.sl jf l), (1, t), (7, Ty.int .i64 l.length), (8, Ty.int .i64 (k.1 : Nat))] []) (fun k => l.length - k.1) (⟨0, by simp⟩) ?_ fun k => ?_
 ·(refine c8.mk' ?_ ?_ <;> (repeat' (first | exact aI | exact aH | refine aB ?_ (Ty.aR _) | refine aB ?_ (Ty.aG _))))
 refine aF (aA (ak rfl rfl rfl (aD (aC (aF ?_)))))
 refine aa rfl (fun hc1 => ?_) (fun hc1 => ?_)
 ·refine bA (aC (aF (af (aF (aA (bF rfl (b9 rfl (aD (aC (aF (aA ?_)))))))))))
  refine eN (ty := t) rfl ?_
  refine gq rfl (bF rfl ?_)
  refine bG rfl rfl rfl rfl rfl rfl (by omega) ?_
  refine az rfl rfl rfl (by exact Nat.le_of_ble_eq_true rfl) ?_
  refine eA rfl (hf _ (bL (by omega))) rfl ?_
  refine aD (aC ?_)
  refine c9 rfl (fun hc2 => ?_) (fun hc2 => ?_)
  ·refine aF (aA (bF rfl (b9 rfl (aD (aC (au (av (aW (aW (av (aW (bK rfl rfl ?_))))))))))))
   all_goals skip
   exact bE rfl rfl (congrArg (Ty.int .i64) (oF (by omega) k.2 (by rw [← cF]; exact hc2)).symm)
  refine bA (bH (aC (aA ?_)))
  refine bz rfl rfl (by omega) (by omega) ?_
  refine bF rfl (aD ?_)
  refine bO (⟨k.1 + 1, by rw [bh (by omega)]; intro x hx; rcases List.mem_append.1 hx with h | h; exact k.2 x h; rw [List.mem_singleton.1 h]; exact hc2⟩) ?_ (by show l.length - (k.1 + 1) < l.length - k.1; omega)
  (refine c8.mk' ?_ ?_ <;> (repeat' (first | exact aI | exact aH | refine aB ?_ (Ty.aR _) | refine aB ?_ (Ty.aG _))))
  all_goals skip
 refine cE (aL (aL (ah rfl (aC (aF (aA (b9 rfl (aD (aC (au (bK rfl rfl ?_)))))))))))
 all_goals skip
 exact bE rfl rfl (congrArg (Ty.int .i64) (qM (by have := k.2; rwa [List.take_of_length_le (by omega)] at this)).symm)
set_option maxRecDepth 100000 in
theorem uw (l : List Level) (t : Ty) (h1 : t.one = true) (q : Level → Bool) (hd : t.deps = []) (hc : t.cdeps = []) (hf : ∀ x ∈ l, oz Tryz.prog t [Ty.agg (jf.tys x)] (Ty.bool (q x))) : cX Tryz.prog 140 [Ty.sl jf l, t] (Ty.bool (l.any q)) := by
 refine aY Tryz.func140 rfl (by decide) Tryz.ntmps140 (by exact Nat.le_of_ble_eq_true rfl) fun w0 M0 => ?_
 refine aF (aA (dG rfl (aD (aC (aF (aA (gq rfl ?_)))))))
 refine eN (ty := t) rfl ?_
 refine aq (y9 l t h1 q hd hc hf) rfl (by exact aZ rfl (aZ hd rfl)) (by exact aU rfl (aU hc rfl)) rfl rfl ?_
 refine ak rfl rfl rfl (dG rfl (aD (aC (au (bK rfl rfl ?_)))))
 all_goals skip
 exact bE rfl rfl (congrArg Ty.bool (wB q l))
set_option maxRecDepth 100000 in
theorem Em (x : Level) (t : Ty) (h1 : t.one = true) (b : Bool) (hd : t.deps = []) (hc : t.cdeps = []) (hf : oz Tryz.prog t [Ty.agg (jf.tys x)] (Ty.bool b)) : cX Tryz.prog 141 [Ty.agg (jf.tys x), Ty.pp [t]] (Ty.bool (!b)) := by
 refine aY Tryz.func141 rfl (by decide) Tryz.ntmps141 (by exact Nat.le_of_ble_eq_true rfl) fun w0 M0 => ?_
 refine aF (aA (bD rfl (dG rfl (aD (aC (aF (aA (aK rfl rfl rfl rfl ?_))))))))
 refine az rfl rfl rfl (by exact Nat.le_of_ble_eq_true rfl) ?_
 refine eA rfl hf rfl (ct rfl (dG rfl (aD (aC (au (bK rfl rfl ?_))))))
 all_goals exact bN rfl rfl
set_option maxRecDepth 100000 in
theorem rW (l : List Level) (t : Ty) (h1 : t.one = true) (q : Level → Bool) (hd : t.deps = []) (hc : t.cdeps = []) (hf : ∀ x ∈ l, oz Tryz.prog t [Ty.agg (jf.tys x)] (Ty.bool (q x))) : cX Tryz.prog 80 [Ty.sl jf l, t] (Ty.bool (l.all q)) := by
 refine aY Tryz.func80 rfl (by decide) Tryz.ntmps80 (by exact Nat.le_of_ble_eq_true rfl) fun w0 M0 => ?_
 refine aF (aA ?_)
 refine eY (ty := t) rfl h1 ?_
 refine dG rfl (aD (aC (aF (aA (gq rfl (cw rfl ?_))))))
 refine aq (uw l (Ty.j9 _ [Ty.pp [t]]) rfl (fun x => !q x) (by exact aZ (aZ hd rfl) rfl) (by exact aU (aU hc rfl) rfl) fun x hx => cY (Em x t h1 (q x) hd hc (hf x hx)) rfl rfl (by exact aZ (aZ hd rfl) rfl) (by exact aU (aU hc rfl) rfl) rfl rfl) rfl (by exact aZ rfl (aZ (aZ (aZ hd rfl) rfl) rfl)) (by exact aU rfl (aU (aU (aU hc rfl) rfl) rfl)) rfl rfl ?_
 refine ct rfl (dG rfl (aD (aC (au (bK rfl rfl ?_)))))
 all_goals skip
 exact bE rfl rfl (congrArg Ty.bool (vP q l))
end Go.Proofs.YtmmcenjknimhbaaGreat
namespace Go.Proofs.YtmmcenjknimhbaaGreat
open Go Go.T
set_option maxHeartbeats 2000000
structure bw.Small (y : bw) : Prop where
  bins : y.bins.length ≤ 1000
  moves : y.moves.length ≤ 1000
  levels : y.levels.length ≤ 1000
def CH (y : bw) : Ty := Ty.M8 73 [BI y]
def L3 (y : bw) : Ty := Ty.pp [Ty.j9 74 [Ty.pp [CH y]]]
theorem Ly {y : bw} (h : oR y = false) : 1 ≤ y.days ∧ y.days ≤ 5 := by
 unfold oR at h
 simp only [Bool.or_eq_false_iff, Bool.not_eq_false', fK] at h
 exact h.1.1.1
attribute [local irreducible] eG cZ jR j6 eP eO eK eM eS j8 eJ j4 b8 dc jz dZ j7 nth eZ cU aV cX bodyPost Exit.then Exit.inBlock Code.wp Code.wpIn dS mz mm m5 fT mq m7 fW mW eB fO lq bW bV bodyPostM cV
set_option maxRecDepth 100000 in
theorem wI (n lo hi : Int) : cX Tryz.prog 35 [Ty.int .i64 n, Ty.int .i64 lo, Ty.int .i64 hi] (Ty.bool (tO n lo hi)) := by
 refine aY Tryz.func35 rfl (by decide) Tryz.ntmps35 (by exact Nat.le_of_ble_eq_true rfl) fun w0 M0 => ?_
 refine aF (aA (dG rfl (aD (aC (aF (aA (bF rfl (bF rfl (ak rfl rfl rfl (kV rfl ?_))))))))))
 apply aN (s := 10) rfl rfl rfl
 ·intro hg; apply aQ; (refine bF rfl ?_); refine aD ?_; exact rfl
 ·exact rfl
 ·exact rfl
 apply aN (s := 10) rfl rfl rfl
 ·intro hg; apply aQ; (refine bF rfl ?_); refine aD ?_; exact rfl
 ·exact rfl
 ·exact rfl
 apply aN (s := 10) rfl rfl rfl
 ·intro hg; apply aM (s := 11) rfl (by (rw [hg]; rfl)); apply aM (s := 12) rfl (by (rw [hg]; rfl)); apply aQ; (refine ak rfl rfl rfl ?_); refine aD ?_; exact rfl
 ·exact rfl
 ·exact rfl
 refine gL rfl rfl (dG rfl (aD (aC (au (bK rfl rfl ?_)))))
 all_goals exact bN rfl rfl
set_option maxRecDepth 100000 in
theorem NX (y : bw) (hs : y.Small) (n : Int) : cX Tryz.prog 73 [BI y, Ty.int .i64 n] (Ty.bool (y.bin n)) := by
 refine aY Tryz.func73 rfl (by decide) Tryz.ntmps73 (by exact Nat.le_of_ble_eq_true rfl) fun w0 M0 => ?_
 have hs1 := hs.bins
 refine aF (aA (bD rfl (dG rfl (aD (aC (aF (aA (bF rfl ?_))))))))
 refine aP rfl rfl rfl rfl rfl (by decide) ?_
 refine aK rfl rfl rfl rfl (cC rfl rfl rfl ?_)
 refine jB rfl rfl (by omega) (by omega) ?_
 refine aq (wI _ _ _) rfl rfl rfl rfl rfl (dG rfl (aD (aC (au (bK rfl rfl ?_)))))
 all_goals exact bN rfl rfl
set_option maxRecDepth 100000 in
theorem Sw (y : bw) (n : Int) : cX Tryz.prog 84 [BI y, Ty.int .i64 n] (Ty.bool (y.time n)) := by
 refine aY Tryz.func84 rfl (by decide) Tryz.ntmps84 (by exact Nat.le_of_ble_eq_true rfl) fun w0 M0 => ?_
 refine aF (aA (bD rfl (dG rfl (aD (aC (aF (aA (bF rfl ?_))))))))
 refine aP rfl rfl rfl rfl rfl (by decide) ?_
 refine aK rfl rfl rfl rfl (aq (wI _ _ _) rfl rfl rfl rfl rfl (dG rfl (aD (aC (au (bK rfl rfl ?_))))))
 all_goals exact bN rfl rfl
set_option maxRecDepth 100000 in
theorem xd (s : Span) : cX Tryz.prog 77 [Ty.agg (Rk.tys s)] (Ty.bool (gw s)) := by
 refine aY Tryz.func77 rfl (by decide) Tryz.ntmps77 (by exact Nat.le_of_ble_eq_true rfl) fun w0 M0 => ?_
 refine aF (aA (bD rfl (dG rfl (aD (aC (aF (aA ?_)))))))
 refine aP rfl rfl rfl rfl rfl (by decide) ?_
 refine aK rfl rfl rfl rfl (aq (wI _ _ _) rfl rfl rfl rfl rfl (kV rfl ?_))
 apply aN (s := 6) rfl rfl rfl
 ·intro hg; apply aQ; (refine aP rfl rfl rfl rfl rfl (by decide) ?_); refine aD ?_; exact rfl
 ·exact rfl
 ·exact rfl
 apply aN (s := 6) rfl rfl rfl
 ·intro hg; apply aM (s := 7) rfl (by (rw [hg]; rfl)); apply aQ; (refine aK rfl rfl rfl rfl ?_); refine aD ?_; exact rfl
 ·exact rfl
 ·exact rfl
 apply aN (s := 6) rfl rfl rfl
 ·intro hg; apply aM (s := 8) rfl (by (rw [hg]; rfl)); apply aQ; (refine aq (wI _ _ _) rfl rfl rfl rfl rfl ?_); refine aD ?_; exact rfl
 ·exact rfl
 ·exact rfl
 refine gL rfl rfl (dG rfl (aD (aC (au (bK rfl rfl ?_)))))
 all_goals exact bN rfl rfl
set_option maxRecDepth 100000 in
theorem AE (s : Span) : cX Tryz.prog 87 [Ty.agg (Rk.tys s)] (Ty.bool (iV s)) := by
 refine aY Tryz.func87 rfl (by decide) Tryz.ntmps87 (by exact Nat.le_of_ble_eq_true rfl) fun w0 M0 => ?_
 refine aF (aA (bD rfl (dG rfl (aD (aC (aF (aA ?_)))))))
 refine aP rfl rfl rfl rfl rfl (by decide) ?_
 refine aK rfl rfl rfl rfl ?_
 refine aP rfl rfl rfl rfl rfl (by decide) ?_
 refine aK rfl rfl rfl rfl (ak rfl rfl rfl (dG rfl (aD (aC (au (bK rfl rfl ?_))))))
 all_goals exact bN rfl rfl
set_option maxRecDepth 100000 in
theorem Cl (y : bw) (hs : y.Small) (n : Int) : cX Tryz.prog 74 [Ty.int .i64 n, Ty.pp [CH y]] (Ty.bool (y.fin n)) := by
 refine aY Tryz.func74 rfl (by decide) Tryz.ntmps74 (by exact Nat.le_of_ble_eq_true rfl) fun w0 M0 => ?_
 refine aF (aA (dG rfl (aD (aC (aF (aA (bF rfl (ak rfl rfl rfl (kV rfl ?_)))))))))
 apply aN (s := 6) rfl rfl rfl
 ·intro hg; apply aQ; (refine aK rfl rfl rfl rfl ?_); refine aD ?_; exact rfl
 ·exact rfl
 ·exact rfl
 apply aN (s := 6) rfl rfl rfl
 ·intro hg; apply aQ; (refine bF rfl ?_); refine aD ?_; exact rfl
 ·exact rfl
 ·exact rfl
 apply aN (s := 6) rfl rfl rfl
 ·intro hg; apply aM (s := 7) rfl (by (rw [hg]; rfl)); apply aM (s := 8) rfl (by (rw [hg]; rfl)); apply aQ; (refine eA rfl (sq (NX y hs n) rfl rfl rfl rfl rfl rfl) rfl ?_); refine aD ?_; exact rfl
 ·exact rfl
 ·exact rfl
 refine oB rfl rfl (dG rfl (aD (aC (au (bK rfl rfl ?_)))))
 all_goals exact bN rfl rfl
set_option maxRecDepth 100000 in
theorem Kv (b : oc) : cX Tryz.prog 76 [Ty.agg (jo.tys b)] (Ty.bool (tO b.holds 0 300 && gw b.first)) := by
 refine aY Tryz.func76 rfl (by decide) Tryz.ntmps76 (by exact Nat.le_of_ble_eq_true rfl) fun w0 M0 => ?_
 refine aF (aA (bD rfl (dG rfl (aD (aC (aF (aA ?_)))))))
 refine aP rfl rfl rfl rfl rfl (by decide) ?_
 refine aK rfl rfl rfl rfl (aq (wI _ _ _) rfl rfl rfl rfl rfl (kV rfl ?_))
 apply aN (s := 6) rfl rfl rfl
 ·intro hg; apply aQ; (refine aP rfl rfl rfl rfl rfl (by decide) ?_); refine aD ?_; exact rfl
 ·exact rfl
 ·exact rfl
 apply aN (s := 6) rfl rfl rfl
 ·intro hg; apply aM (s := 7) rfl (by (rw [hg]; rfl)); apply aQ; (refine az rfl rfl rfl (by exact Nat.le_of_ble_eq_true rfl) ?_); refine aD ?_; exact rfl
 ·exact rfl
 ·exact rfl
 apply aN (s := 6) rfl rfl rfl
 ·intro hg; apply aM (s := 8) rfl (by (rw [hg]; rfl)); apply aQ; (refine aq (xd _) rfl rfl rfl rfl rfl ?_); refine aD ?_; exact rfl
 ·exact rfl
 ·exact rfl
 refine gL rfl rfl (dG rfl (aD (aC (au (bK rfl rfl ?_)))))
 all_goals exact bN rfl rfl
set_option maxRecDepth 100000 in
theorem Mt (m : Move) : cX Tryz.prog 79 [Ty.agg (iX.tys m)] (Ty.bool (gw m.sacks)) := by
 refine aY Tryz.func79 rfl (by decide) Tryz.ntmps79 (by exact Nat.le_of_ble_eq_true rfl) fun w0 M0 => ?_
 refine aF (aA (bD rfl (dG rfl (aD (aC (aF (aA ?_)))))))
 refine aP rfl rfl rfl rfl rfl (by decide) ?_
 refine az rfl rfl rfl (by exact Nat.le_of_ble_eq_true rfl) ?_
 refine aq (xd _) rfl rfl rfl rfl rfl (dG rfl (aD (aC (au (bK rfl rfl ?_)))))
 all_goals exact bN rfl rfl
set_option maxRecDepth 100000 in
theorem Nd (l : Level) : cX Tryz.prog 81 [Ty.agg (jf.tys l)] (Ty.bool (gw l.sacks)) := by
 refine aY Tryz.func81 rfl (by decide) Tryz.ntmps81 (by exact Nat.le_of_ble_eq_true rfl) fun w0 M0 => ?_
 refine aF (aA (bD rfl (dG rfl (aD (aC (aF (aA ?_)))))))
 refine aP rfl rfl rfl rfl rfl (by decide) ?_
 refine az rfl rfl rfl (by exact Nat.le_of_ble_eq_true rfl) ?_
 refine aq (xd _) rfl rfl rfl rfl rfl (dG rfl (aD (aC (au (bK rfl rfl ?_)))))
 all_goals exact bN rfl rfl
set_option maxRecDepth 100000 in
theorem PR (y : bw) (hs : y.Small) (hd : 1 ≤ y.days ∧ y.days ≤ 5) (m : Move) : cX Tryz.prog 82 [Ty.agg (iX.tys m), Ty.pp (iE y), L3 y] (Ty.bool ((tO m.day 0 (y.days - 1) && y.fin m.src) && y.fin m.dst)) := by
 refine aY Tryz.func82 rfl (by decide) Tryz.ntmps82 (by exact Nat.le_of_ble_eq_true rfl) fun w0 M0 => ?_
 refine aF (aA (bD rfl (dG rfl (aD (aC (aF (aA ?_)))))))
 refine aP rfl rfl rfl rfl rfl (by decide) ?_
 refine aK rfl rfl rfl rfl ?_
 refine aP rfl rfl rfl rfl rfl (by decide) ?_
 refine aK rfl rfl rfl rfl ?_
 refine jB rfl rfl (by omega) (by omega) ?_
 refine aq (wI _ _ _) rfl rfl rfl rfl rfl (kV rfl ?_)
 apply aN (s := 11) rfl rfl rfl
 ·intro hg; apply aQ; (refine aK rfl rfl rfl rfl ?_); refine aD ?_; exact rfl
 ·exact rfl
 ·exact rfl
 apply aN (s := 11) rfl rfl rfl
 ·intro hg; apply aQ; (refine aP rfl rfl rfl rfl rfl (by decide) ?_); refine aD ?_; exact rfl
 ·exact rfl
 ·exact rfl
 apply aN (s := 11) rfl rfl rfl
 ·intro hg; apply aM (s := 13) rfl (by (rw [hg]; rfl)); apply aQ; (refine aK rfl rfl rfl rfl ?_); refine aD ?_; exact rfl
 ·exact rfl
 ·exact rfl
 apply aN (s := 11) rfl rfl rfl
 ·intro hg; apply aM (s := 12) rfl (by (rw [hg]; rfl)); apply aM (s := 14) rfl (by (rw [hg]; rfl)); apply aQ; (refine eA rfl (cY (Cl y hs m.src) rfl rfl rfl rfl rfl rfl) rfl ?_); refine aD ?_; exact rfl
 ·exact rfl
 ·exact rfl
 refine gL rfl rfl (kV rfl ?_)
 apply aN (s := 17) rfl rfl rfl
 ·intro hg; apply aQ; (refine aK rfl rfl rfl rfl ?_); refine aD ?_; exact rfl
 ·exact rfl
 ·exact rfl
 apply aN (s := 17) rfl rfl rfl
 ·intro hg; apply aQ; (refine aP rfl rfl rfl rfl rfl (by decide) ?_); refine aD ?_; exact rfl
 ·exact rfl
 ·exact rfl
 apply aN (s := 17) rfl rfl rfl
 ·intro hg; apply aM (s := 19) rfl (by (rw [hg]; rfl)); apply aQ; (refine aK rfl rfl rfl rfl ?_); refine aD ?_; exact rfl
 ·exact rfl
 ·exact rfl
 apply aN (s := 17) rfl rfl rfl
 ·intro hg; apply aM (s := 18) rfl (by (rw [hg]; rfl)); apply aM (s := 20) rfl (by (rw [hg]; rfl)); apply aQ; (refine eA rfl (cY (Cl y hs m.dst) rfl rfl rfl rfl rfl rfl) rfl ?_); refine aD ?_; exact rfl
 ·exact rfl
 ·exact rfl
 refine gL rfl rfl (dG rfl (aD (aC (au (bK rfl rfl ?_)))))
 all_goals exact bN rfl rfl
set_option maxRecDepth 100000 in
theorem PZ (y : bw) (hs : y.Small) (l : Level) : cX Tryz.prog 83 [Ty.agg (jf.tys l), Ty.pp (iE y), Ty.pp [CH y]] (Ty.bool (y.time l.day && y.bin l.bin)) := by
 refine aY Tryz.func83 rfl (by decide) Tryz.ntmps83 (by exact Nat.le_of_ble_eq_true rfl) fun w0 M0 => ?_
 refine aF (aA (bD rfl (dG rfl (aD (aC (aF (aA ?_)))))))
 refine az rfl rfl rfl (by exact Nat.le_of_ble_eq_true rfl) ?_
 refine aP rfl rfl rfl rfl rfl (by decide) ?_
 refine aK rfl rfl rfl rfl (aq (Sw y _) rfl rfl rfl rfl rfl (kV rfl ?_))
 apply aN (s := 9) rfl rfl rfl
 ·intro hg; apply aQ; (refine aK rfl rfl rfl rfl ?_); refine aD ?_; exact rfl
 ·exact rfl
 ·exact rfl
 apply aN (s := 9) rfl rfl rfl
 ·intro hg; apply aQ; (refine aP rfl rfl rfl rfl rfl (by decide) ?_); refine aD ?_; exact rfl
 ·exact rfl
 ·exact rfl
 apply aN (s := 9) rfl rfl rfl
 ·intro hg; apply aM (s := 11) rfl (by (rw [hg]; rfl)); apply aQ; (refine aK rfl rfl rfl rfl ?_); refine aD ?_; exact rfl
 ·exact rfl
 ·exact rfl
 apply aN (s := 9) rfl rfl rfl
 ·intro hg; apply aM (s := 10) rfl (by (rw [hg]; rfl)); apply aM (s := 12) rfl (by (rw [hg]; rfl)); apply aQ; (refine eA rfl (sq (NX y hs l.bin) rfl rfl rfl rfl rfl rfl) rfl ?_); refine aD ?_; exact rfl
 ·exact rfl
 ·exact rfl
 refine gL rfl rfl (dG rfl (aD (aC (au (bK rfl rfl ?_)))))
 all_goals exact bN rfl rfl
set_option maxRecDepth 100000 in
theorem OD (m : Move) : cX Tryz.prog 85 [Ty.agg (iX.tys m)] (Ty.bool (!decide (m.src = m.dst))) := by
 refine aY Tryz.func85 rfl (by decide) Tryz.ntmps85 (by exact Nat.le_of_ble_eq_true rfl) fun w0 M0 => ?_
 refine aF (aA (bD rfl (dG rfl (aD (aC (aF (aA ?_)))))))
 refine aP rfl rfl rfl rfl rfl (by decide) ?_
 refine aK rfl rfl rfl rfl ?_
 refine aP rfl rfl rfl rfl rfl (by decide) ?_
 refine aK rfl rfl rfl rfl (ak rfl rfl rfl (dG rfl (aD (aC (au (bK rfl rfl ?_))))))
 all_goals exact bN rfl rfl
set_option maxRecDepth 100000 in
theorem OR (b : oc) : cX Tryz.prog 86 [Ty.agg (jo.tys b)] (Ty.bool (iV b.first)) := by
 refine aY Tryz.func86 rfl (by decide) Tryz.ntmps86 (by exact Nat.le_of_ble_eq_true rfl) fun w0 M0 => ?_
 refine aF (aA (bD rfl (dG rfl (aD (aC (aF (aA ?_)))))))
 refine aP rfl rfl rfl rfl rfl (by decide) ?_
 refine az rfl rfl rfl (by exact Nat.le_of_ble_eq_true rfl) ?_
 refine aq (AE _) rfl rfl rfl rfl rfl (dG rfl (aD (aC (au (bK rfl rfl ?_)))))
 all_goals exact bN rfl rfl
set_option maxRecDepth 100000 in
theorem O7 (m : Move) : cX Tryz.prog 88 [Ty.agg (iX.tys m)] (Ty.bool (iV m.sacks)) := by
 refine aY Tryz.func88 rfl (by decide) Tryz.ntmps88 (by exact Nat.le_of_ble_eq_true rfl) fun w0 M0 => ?_
 refine aF (aA (bD rfl (dG rfl (aD (aC (aF (aA ?_)))))))
 refine aP rfl rfl rfl rfl rfl (by decide) ?_
 refine az rfl rfl rfl (by exact Nat.le_of_ble_eq_true rfl) ?_
 refine aq (AE _) rfl rfl rfl rfl rfl (dG rfl (aD (aC (au (bK rfl rfl ?_)))))
 all_goals exact bN rfl rfl
set_option maxRecDepth 100000 in
theorem Mq (l : Level) : cX Tryz.prog 89 [Ty.agg (jf.tys l)] (Ty.bool (iV l.sacks)) := by
 refine aY Tryz.func89 rfl (by decide) Tryz.ntmps89 (by exact Nat.le_of_ble_eq_true rfl) fun w0 M0 => ?_
 refine aF (aA (bD rfl (dG rfl (aD (aC (aF (aA ?_)))))))
 refine aP rfl rfl rfl rfl rfl (by decide) ?_
 refine az rfl rfl rfl (by exact Nat.le_of_ble_eq_true rfl) ?_
 refine aq (AE _) rfl rfl rfl rfl rfl (dG rfl (aD (aC (au (bK rfl rfl ?_)))))
 all_goals exact bN rfl rfl
set_option maxRecDepth 100000 in
theorem NL (y : bw) (hs : y.Small) : cX Tryz.prog 36 [BI y] (Ty.int .i64 (dy y)) := by
 refine aY Tryz.func36 rfl (by decide) Tryz.ntmps36 (by exact Nat.le_of_ble_eq_true rfl) fun w0 M0 => ?_
 have hs1 := hs.bins
 have hs2 := hs.moves
 have hs3 := hs.levels
 refine aF (aA (bD rfl (b9 rfl (aD (aC (aF (aA ?_)))))))
 refine az rfl rfl rfl (by exact Nat.le_of_ble_eq_true rfl) ?_
 refine sY (l := [BI y]) rfl ?_
 refine dA rfl (by exact List.cons_ne_nil _ _) rfl ?_
 refine dh rfl rfl (by decide) rfl rfl (by exact (rfl : _ = Ty.M8 _ _)) rfl (by exact Nat.le_of_ble_eq_true rfl) rfl rfl (by exact (rfl : _ = [_])) ?_
 refine aD (aC (aF ?_))
 refine uC (tg := 4) [(3, Ty.pp [CH y])] (by decide) rfl ⟨vM (T := 89) (tg := 4) (off := 0) (l := [CH y]) rfl rfl rfl (by decide), trivial⟩ ?_
 refine aA (cw rfl ?_)
 refine dA rfl (by exact List.cons_ne_nil _ _) rfl ?_
 refine dh rfl rfl (by decide) rfl rfl (by exact (rfl : _ = Ty.j9 _ _)) rfl (by exact Nat.le_of_ble_eq_true rfl) rfl rfl (by exact (rfl : _ = [_])) ?_
 refine aD (aC (aF (af (aF ?_))))
 refine uC (tg := 5) [(4, L3 y)] (by decide) rfl ⟨vM (T := 89) (tg := 5) (off := 0) (l := [Ty.j9 74 [Ty.pp [CH y]]]) rfl rfl rfl (by decide), trivial⟩ ?_
 refine aA ?_
 refine aP rfl rfl rfl rfl rfl (by decide) ?_
 refine aK rfl rfl rfl rfl (aq (wI _ _ _) rfl rfl rfl rfl rfl (ct rfl (kV rfl ?_)))
 apply aN (s := 13) rfl rfl rfl
 ·intro hg; apply aQ; (refine aP rfl rfl rfl rfl rfl (by decide) ?_); refine aD ?_; exact rfl
 ·exact rfl
 ·exact rfl
 apply aN (s := 13) rfl rfl rfl
 ·intro hg; apply aM (s := 14) rfl (by (rw [hg]; rfl)); apply aQ; (refine aK rfl rfl rfl rfl ?_); refine aD ?_; exact rfl
 ·exact rfl
 ·exact rfl
 apply aN (s := 13) rfl rfl rfl
 ·intro hg; apply aM (s := 15) rfl (by (rw [hg]; rfl)); apply aQ; (refine cC rfl rfl rfl ?_); refine aD ?_; exact rfl
 ·exact rfl
 ·exact rfl
 apply aN (s := 13) rfl rfl rfl
 ·intro hg; apply aM (s := 16) rfl (by (rw [hg]; rfl)); apply aQ; (refine aq (wI _ _ _) rfl rfl rfl rfl rfl ?_); refine aD ?_; exact rfl
 ·exact rfl
 ·exact rfl
 apply aN (s := 13) rfl rfl rfl
 ·intro hg; apply aM (s := 17) rfl (by (rw [hg]; rfl)); apply aQ; (refine ct rfl ?_); refine aD ?_; exact rfl
 ·exact rfl
 ·exact rfl
 refine oB rfl rfl (kV rfl ?_)
 apply aN (s := 20) rfl rfl rfl
 ·intro hg; apply aQ; (refine aP rfl rfl rfl rfl rfl (by decide) ?_); refine aD ?_; exact rfl
 ·exact rfl
 ·exact rfl
 apply aN (s := 20) rfl rfl rfl
 ·intro hg; apply aM (s := 21) rfl (by (rw [hg]; rfl)); apply aQ; (refine aK rfl rfl rfl rfl ?_); refine aD ?_; exact rfl
 ·exact rfl
 ·exact rfl
 apply aN (s := 20) rfl rfl rfl
 ·intro hg; apply aM (s := 22) rfl (by (rw [hg]; rfl)); apply aQ; (refine cC rfl rfl rfl ?_); refine aD ?_; exact rfl
 ·exact rfl
 ·exact rfl
 apply aN (s := 20) rfl rfl rfl
 ·intro hg; apply aM (s := 23) rfl (by (rw [hg]; rfl)); apply aQ; (refine ak rfl rfl rfl ?_); refine aD ?_; exact rfl
 ·exact rfl
 ·exact rfl
 refine oB rfl rfl (kV rfl ?_)
 apply aN (s := 26) rfl rfl rfl
 ·intro hg; apply aQ; (refine aP rfl rfl rfl rfl rfl (by decide) ?_); refine aD ?_; exact rfl
 ·exact rfl
 ·exact rfl
 apply aN (s := 26) rfl rfl rfl
 ·intro hg; apply aM (s := 27) rfl (by (rw [hg]; rfl)); apply aQ; (refine aK rfl rfl rfl rfl ?_); refine aD ?_; exact rfl
 ·exact rfl
 ·exact rfl
 apply aN (s := 26) rfl rfl rfl
 ·intro hg; apply aM (s := 28) rfl (by (rw [hg]; rfl)); apply aQ; (refine cC rfl rfl rfl ?_); refine aD ?_; exact rfl
 ·exact rfl
 ·exact rfl
 apply aN (s := 26) rfl rfl rfl
 ·intro hg; apply aM (s := 29) rfl (by (rw [hg]; rfl)); apply aQ; (refine ak rfl rfl rfl ?_); refine aD ?_; exact rfl
 ·exact rfl
 ·exact rfl
 refine oB rfl rfl (dG rfl (aD (aC ?_)))
 refine c9 rfl (fun hc1 => ?_) (fun hc1 => ?_)
 ·refine aF (aA (b9 rfl (aD (aC (au (av (aW (bK rfl rfl ?_))))))))
  all_goals skip
  exact bE rfl rfl (congrArg (Ty.int .i64) (by rw [dy, if_pos (show oR y = true from hc1)]))
 refine aF ?_
 refine kJ (B := live [(1, Ty.pp (iE y)), (3, Ty.pp [CH y]), (4, L3 y)] []) ?_ ?_
 ·(refine c8.mk' ?_ ?_ <;> (repeat' (first | exact aI | exact aH | refine aB ?_ (Ty.aR _) | refine aB ?_ (Ty.aG _))))
 refine aA ?_
 refine aP rfl rfl rfl rfl rfl (by decide) ?_
 refine aK rfl rfl rfl rfl ?_
 refine aq (vw y.bins (Ty.j9 _ []) rfl (fun b => tO b.holds 0 300 && gw b.first) rfl rfl fun b _ => cY (Kv b) rfl rfl rfl rfl rfl rfl) rfl rfl rfl rfl rfl ?_
 refine ct rfl (dG rfl (aD (aC ?_)))
 refine c9 rfl (fun hc2 => ?_) (fun hc2 => ?_)
 ·refine aF (aA (b9 rfl (aD (aC (au (av (aW (bK rfl rfl ?_))))))))
  all_goals skip
  exact bE rfl rfl (congrArg (Ty.int .i64) (by rw [dy, if_neg (wW (show oR y = false from hc1)), if_pos (show oo y = true from hc2)]))
 refine aF (aA ?_)
 refine aP rfl rfl rfl rfl rfl (by decide) ?_
 refine aK rfl rfl rfl rfl ?_
 refine aq (oG y.moves (Ty.j9 _ []) rfl (fun m => gw m.sacks) rfl rfl fun m _ => cY (Mt m) rfl rfl rfl rfl rfl rfl) rfl rfl rfl rfl rfl ?_
 refine ct rfl (kV rfl ?_)
 apply aN (s := 42) rfl rfl rfl
 ·intro hg; apply aQ; (refine aP rfl rfl rfl rfl rfl (by decide) ?_); refine aD ?_; exact rfl
 ·exact rfl
 ·exact rfl
 apply aN (s := 42) rfl rfl rfl
 ·intro hg; apply aM (s := 43) rfl (by (rw [hg]; rfl)); apply aQ; (refine aK rfl rfl rfl rfl ?_); refine aD ?_; exact rfl
 ·exact rfl
 ·exact rfl
 apply aN (s := 42) rfl rfl rfl
 ·intro hg; apply aM (s := 44) rfl (by (rw [hg]; rfl)); apply aQ; (refine aq (rW y.levels (Ty.j9 _ []) rfl (fun l => gw l.sacks) rfl rfl fun l _ => cY (Nd l) rfl rfl rfl rfl rfl rfl) rfl rfl rfl rfl rfl ?_); refine aD ?_; exact rfl
 ·exact rfl
 ·exact rfl
 apply aN (s := 42) rfl rfl rfl
 ·intro hg; apply aM (s := 45) rfl (by (rw [hg]; rfl)); apply aQ; (refine ct rfl ?_); refine aD ?_; exact rfl
 ·exact rfl
 ·exact rfl
 refine oB rfl rfl (dG rfl (aD (aC ?_)))
 refine c9 rfl (fun hc3 => ?_) (fun hc3 => ?_)
 ·refine aF (aA (b9 rfl (aD (aC (au (av (aW (bK rfl rfl ?_))))))))
  all_goals skip
  exact bE rfl rfl (congrArg (Ty.int .i64) (by rw [dy, if_neg (wW (show oR y = false from hc1)), if_neg (wW (show oo y = false from hc2)), if_pos (show lR y = true from hc3)]))
 refine aF ?_
 refine kJ (B := live [(1, Ty.pp (iE y)), (3, Ty.pp [CH y]), (4, L3 y)] []) ?_ ?_
 ·(refine c8.mk' ?_ ?_ <;> (repeat' (first | exact aI | exact aH | refine aB ?_ (Ty.aR _) | refine aB ?_ (Ty.aG _))))
 have hd := Ly hc1
 refine aA ?_
 refine aP rfl rfl rfl rfl rfl (by decide) ?_
 refine aK rfl rfl rfl rfl (cw rfl ?_)
 refine aq (oG y.moves (Ty.j9 _ [Ty.pp (iE y), L3 y]) rfl (fun m => (tO m.day 0 (y.days - 1) && y.fin m.src) && y.fin m.dst) rfl rfl fun m _ => cY (PR y hs hd m) rfl rfl rfl rfl rfl rfl) rfl rfl rfl rfl rfl ?_
 refine ct rfl (dG rfl (aD (aC ?_)))
 refine c9 rfl (fun hc4 => ?_) (fun hc4 => ?_)
 ·refine aF (aA (b9 rfl (aD (aC (au (av (aW (bK rfl rfl ?_))))))))
  all_goals skip
  exact bE rfl rfl (congrArg (Ty.int .i64) (by rw [dy, if_neg (wW (show oR y = false from hc1)), if_neg (wW (show oo y = false from hc2)), if_neg (wW (show lR y = false from hc3)), if_pos (show GU y = true from hc4)]))
 refine aF (aA ?_)
 refine aP rfl rfl rfl rfl rfl (by decide) ?_
 refine aK rfl rfl rfl rfl (cw rfl ?_)
 refine aq (rW y.levels (Ty.j9 _ [Ty.pp (iE y), Ty.pp [CH y]]) rfl (fun l => y.time l.day && y.bin l.bin) rfl rfl fun l _ => cY (PZ y hs l) rfl rfl rfl rfl rfl rfl) rfl rfl rfl rfl rfl ?_
 refine ct rfl (dG rfl (aD (aC ?_)))
 refine c9 rfl (fun hc5 => ?_) (fun hc5 => ?_)
 ·refine aF (aA (b9 rfl (aD (aC (au (av (aW (bK rfl rfl ?_))))))))
  all_goals skip
  exact bE rfl rfl (congrArg (Ty.int .i64) (by rw [dy, if_neg (wW (show oR y = false from hc1)), if_neg (wW (show oo y = false from hc2)), if_neg (wW (show lR y = false from hc3)), if_neg (wW (show GU y = false from hc4)), if_pos (show A4 y = true from hc5)]))
 refine aF ?_
 refine kJ (B := live [(1, Ty.pp (iE y)), (3, Ty.pp [CH y]), (4, L3 y)] []) ?_ ?_
 ·(refine c8.mk' ?_ ?_ <;> (repeat' (first | exact aI | exact aH | refine aB ?_ (Ty.aR _) | refine aB ?_ (Ty.aG _))))
 refine aA ?_
 refine aP rfl rfl rfl rfl rfl (by decide) ?_
 refine aK rfl rfl rfl rfl ?_
 refine aq (oG y.moves (Ty.j9 _ []) rfl (fun m => !decide (m.src = m.dst)) rfl rfl fun m _ => cY (OD m) rfl rfl rfl rfl rfl rfl) rfl rfl rfl rfl rfl ?_
 refine ct rfl (dG rfl (aD (aC ?_)))
 refine c9 rfl (fun hc6 => ?_) (fun hc6 => ?_)
 ·refine aF (aA (b9 rfl (aD (aC (au (av (aW (bK rfl rfl ?_))))))))
  all_goals skip
  exact bE rfl rfl (congrArg (Ty.int .i64) (by rw [dy, if_neg (wW (show oR y = false from hc1)), if_neg (wW (show oo y = false from hc2)), if_neg (wW (show lR y = false from hc3)), if_neg (wW (show GU y = false from hc4)), if_neg (wW (show A4 y = false from hc5)), if_pos (show xB y = true from hc6)]))
 refine aF (aA ?_)
 refine aP rfl rfl rfl rfl rfl (by decide) ?_
 refine aK rfl rfl rfl rfl ?_
 refine aq (vw y.bins (Ty.j9 _ []) rfl (fun b => iV b.first) rfl rfl fun b _ => cY (OR b) rfl rfl rfl rfl rfl rfl) rfl rfl rfl rfl rfl ?_
 refine ct rfl (kV rfl ?_)
 apply aN (s := 70) rfl rfl rfl
 ·intro hg; apply aQ; (refine aP rfl rfl rfl rfl rfl (by decide) ?_); refine aD ?_; exact rfl
 ·exact rfl
 ·exact rfl
 apply aN (s := 70) rfl rfl rfl
 ·intro hg; apply aM (s := 71) rfl (by (rw [hg]; rfl)); apply aQ; (refine aK rfl rfl rfl rfl ?_); refine aD ?_; exact rfl
 ·exact rfl
 ·exact rfl
 apply aN (s := 70) rfl rfl rfl
 ·intro hg; apply aM (s := 72) rfl (by (rw [hg]; rfl)); apply aQ; (refine aq (oG y.moves (Ty.j9 _ []) rfl (fun m => iV m.sacks) rfl rfl fun m _ => cY (O7 m) rfl rfl rfl rfl rfl rfl) rfl rfl rfl rfl rfl ?_); refine aD ?_; exact rfl
 ·exact rfl
 ·exact rfl
 apply aN (s := 70) rfl rfl rfl
 ·intro hg; apply aM (s := 73) rfl (by (rw [hg]; rfl)); apply aQ; (refine ct rfl ?_); refine aD ?_; exact rfl
 ·exact rfl
 ·exact rfl
 refine oB rfl rfl (kV rfl ?_)
 apply aN (s := 76) rfl rfl rfl
 ·intro hg; apply aQ; (refine aP rfl rfl rfl rfl rfl (by decide) ?_); refine aD ?_; exact rfl
 ·exact rfl
 ·exact rfl
 apply aN (s := 76) rfl rfl rfl
 ·intro hg; apply aM (s := 77) rfl (by (rw [hg]; rfl)); apply aQ; (refine aK rfl rfl rfl rfl ?_); refine aD ?_; exact rfl
 ·exact rfl
 ·exact rfl
 apply aN (s := 76) rfl rfl rfl
 ·intro hg; apply aM (s := 78) rfl (by (rw [hg]; rfl)); apply aQ; (refine aq (rW y.levels (Ty.j9 _ []) rfl (fun l => iV l.sacks) rfl rfl fun l _ => cY (Mq l) rfl rfl rfl rfl rfl rfl) rfl rfl rfl rfl rfl ?_); refine aD ?_; exact rfl
 ·exact rfl
 ·exact rfl
 apply aN (s := 76) rfl rfl rfl
 ·intro hg; apply aM (s := 79) rfl (by (rw [hg]; rfl)); apply aQ; (refine ct rfl ?_); refine aD ?_; exact rfl
 ·exact rfl
 ·exact rfl
 refine oB rfl rfl (dG rfl (aD (aC ?_)))
 refine c9 rfl (fun hc7 => ?_) (fun hc7 => ?_)
 ·refine aF (aA (b9 rfl (aD (aC (au (av (aW (bK rfl rfl ?_))))))))
  all_goals skip
  exact bE rfl rfl (congrArg (Ty.int .i64) (by rw [dy, if_neg (wW (show oR y = false from hc1)), if_neg (wW (show oo y = false from hc2)), if_neg (wW (show lR y = false from hc3)), if_neg (wW (show GU y = false from hc4)), if_neg (wW (show A4 y = false from hc5)), if_neg (wW (show xB y = false from hc6)), if_pos (show xA y = true from hc7)]))
 refine bA (bH (aC (aF (aA (b9 rfl (aD (aC (au (bK rfl rfl ?_)))))))))
 all_goals skip
 exact bE rfl rfl (congrArg (Ty.int .i64) (by rw [dy, if_neg (wW (show oR y = false from hc1)), if_neg (wW (show oo y = false from hc2)), if_neg (wW (show lR y = false from hc3)), if_neg (wW (show GU y = false from hc4)), if_neg (wW (show A4 y = false from hc5)), if_neg (wW (show xB y = false from hc6)), if_neg (wW (show xA y = false from hc7))]))
end Go.Proofs.YtmmcenjknimhbaaGreat
namespace Go.T
open Go Go.RowKit
def KQ (A : As) (L : List Nat) (s t : Ty) : Prop := ∀ w M v, Wf w M → (∀ x ∈ A.tags, x.1 ∈ L → x.2.den w M x.1) → s.den w M v → t.den w (qb M L) v
def xz (A : As) (L : List Nat) : List Ty → List Ty → Prop
  | [], [] => True
  | s :: ss, t :: ts => KQ A L s t ∧ xz A L ss ts
  | _, _ => False
theorem I5 {A : As} {L : List Nat} : xz A L [] [] := trivial
theorem yT {A : As} {L : List Nat} {s t : Ty} {ss ts : List Ty} (h : KQ A L s t) (h' : xz A L ss ts) : xz A L (s :: ss) (t :: ts) := ⟨h, h'⟩
theorem yL {A : As} {L : List Nat} {w : World} {M : ay} (wf : Wf w M) (ht : ∀ x ∈ A.tags, x.1 ∈ L → x.2.den w M x.1) : ∀ {ss ts : List Ty} {vs : List Value}, xz A L ss ts → cD w M ss vs → cD w (qb M L) ts vs
  | [], [], [], _, _ => trivial
  | _ :: _, _ :: _, _ :: _, ⟨h, h'⟩, ⟨h1, h2⟩ => ⟨h _ _ _ wf ht h1, yL wf ht h' h2⟩
theorem Nh {A : As} {L : List Nat} {s t : Ty} (h : Kt L s t) : KQ A L s t := fun w M v wf _ hd => h w M v wf hd
theorem Ns {A : As} {L : List Nat} {α : Type} {E : El α} {T tg n : Nat} {xs : List α} (hc : A.tag tg = some (.vec E T xs)) (hn : xs.length = n) (h1 : ga tg) (hL : L.contains tg = true) : KQ A L (.vs tg n) (.sl E xs) := fun w M v wf ht hd => by
 have hL' : tg ∈ L := by simpa using hL
 have hv : dc E T xs w M tg := ht _ (dD hc) hL'
 subst hn
 rcases hd with ⟨h0, rfl⟩ | ⟨b, cc, hb, e, hn1, hn2⟩
 ·exact ⟨none, 0, by rw [h0], by omega, by simp [maxLen], fun h => absurd h (by omega)⟩
 refine ⟨_, cc, e, hn1, hn2, fun _ => ⟨b, 0, rfl, Kp hb hL', wf.lt b _ hb, fun i t hi => ?_⟩⟩
 obtain ⟨u, hu, hdu⟩ := mD wf h1 hb hv hi
 refine ⟨u, by rw [Nat.zero_add]; exact hu, t.mono (S := fun _ => True) (K := fun _ => True) (w := w) ⟨Nat.le_refl _, rfl, rfl, rfl, fun b _ hm => ⟨xK hm, rfl⟩, fun b t _ h => absurd trivial h⟩ ?_ ?_ hdu⟩
 ·intro u hu
  have : u ∈ bp (xs.flatMap E.tys) := List.mem_flatMap.2 ⟨t, List.mem_of_getElem? hi, hu⟩
  rw [E.cT] at this; cases this
 intro u hu
 have : u ∈ bU (xs.flatMap E.tys) := List.mem_flatMap.2 ⟨t, List.mem_of_getElem? hi, hu⟩
 rw [E.cL] at this; cases this
section
variable {P : Program} {fr : Fr} {ops : Array Oper} {A : As} {rest : List Oper} {K : As → List (As × Fx) → Prop} {d : Nat} {t ty' : TypeId} {p : String} {e : Array Edge} {Q : Exit → Act → World → Prop} {c : Code}
theorem Pj (L : List Nat) {f : FuncId} {args : List Ty} {res : Ty} (hF : cX P f args res) {xs : List Operand} {ats : Array TypeId} {ss : List Ty} (hx : oS A fr xs = ss) (hl : xz A L ss args) (hp : res.Plain)
 (h : aV P fr ops rest (A.set d res) fun A' l => K A' ((A, { d := some d, ty := res, rs := xs.flatMap bq, rt := L }) :: l)) : aV P fr ops (⟨some d, .call ⟨.value (.func f), xs.toArray, ats⟩, t, p, e, none⟩ :: rest) A K := by
 refine ⟨{ d := some d, ty := res, rs := xs.flatMap bq, rt := L }, ⟨rfl, by simp, by simp, by simp, fun a w M wf _ hrd htg => ?_⟩, h⟩
 rw [if_pos (by simp [Region.wanted])]
 have hv : cD w M ss (xs.map a.eval) := hx ▸ fk hrd fun x hx c hc => List.mem_flatMap.2 ⟨x, hx, hc⟩
 have hc := hF.2 w _ _ (FP (L := L) wf) m8 (yL wf htg hl hv)
 have hrun : (execOp a.eval ⟨some d, .call ⟨.value (.func f), xs.toArray, ats⟩, t, p, e, none⟩).run P w = .ok (.enter f (xs.map a.eval).toArray) w := by
  simp [execOp, resolve, Act.eval, Deferred.ofValue, invoke, jF hF]
 refine hH hrun ?_
 refine hc.mono fun en w' ⟨r, M', he, wf', le, hden⟩ => ?_
 obtain ⟨h1, h2, h3⟩ := Bs wf le hp hden
 exact ⟨r, he, r, rfl, _, h1, h2, h3, by simp⟩
end
section
open Go.RowKit
variable {P : Program} {A : As} {fn : Func} {n : Nat} {w0 : World} {M0 : ay} {F : List Nat} {post : List (Nat × Cont)} [T : lQ P]
end
section
variable {P : Program} {fr : Fr} {ops : Array Oper} {A : As} {rest : List Oper} {K : As → List (As × Fx) → Prop} {d : Nat} {t ty' : TypeId} {p : String} {e : Array Edge} [T : lQ P]
def VH (w : World) (M : ay) (J : Nat) (v : Value) : Prop := v = .slice none 0 0 ∨ ∃ g n c cur T, v = .slice (some ⟨g, 0, none⟩) n c ∧ M g = some J ∧ w.heap[g]? = some (.cells cur T (0, 0)) ∧ n ≤ cur.size
def Cont.fit (vs : List Value) : Cont :=
  { den := fun w M J => ∀ v ∈ vs, VH w M J v
    mono := fun le _ _ hs hk h v hv => (h v hv).imp id fun ⟨g, n, c, cur, T, e, hg, hh, hn⟩ => let ⟨h1, h2⟩ := le.own g _ hg hk
      ⟨g, n, c, cur, T, e, h1, (h2 hs).trans hh, hn⟩ }
end
instance : Inhabited {v : Value // v.oneCell' = true} := ⟨⟨.bool true, rfl⟩⟩
section
variable {P : Program} {fr : Fr} {A : As} {Q : Exit → Act → World → Prop} {code : Code}
end
end Go.T
namespace Go.T
open Go Go.RowKit
def DU {α : Type} (E : El α) (T J : Nat) (xs : List α) (w : World) (M : ay) (v : Value) : Prop :=
  (xs = [] ∧ v = .slice none 0 0) ∨ ∃ g off c cur, v = .slice (some ⟨g, off, none⟩) xs.length c ∧ M g = some J ∧ w.heap[g]? = some (.cells cur T (0, 0)) ∧ xs.length ≤ c ∧ c ≤ maxLen ∧ off + c * E.size ≤ cur.size ∧ cD w M (xs.flatMap E.tys) ((cur.toList.drop off).take (xs.length * E.size))
def Ty.mB {α : Type} (E : El α) (T J : Nat) (xs : List α) : Ty :=
  ⟨DU E T J xs, [J], [J], fun le hk hs h => h.imp id fun ⟨g, off, c, cur, e, hg, hh, h1, h2, h3, h4⟩ =>
    let ⟨a, b⟩ := le.own g J hg (hk J (by simp))
    ⟨g, off, c, cur, e, a, (b (hs J (by simp))).trans hh, h1, h2, h3, bY le (by rw [E.cT]; intro _ h; cases h) (by rw [E.cL]; intro _ h; cases h) h4⟩, true, fun _ h => by
      rcases h with ⟨_, rfl⟩ | ⟨_, _, _, _, rfl, _⟩ <;> rfl⟩
def kU (size : Nat) : Value → Option (Nat × Nat)
  | .slice (some a) n _ => some (a.block, a.off + n * size)
  | _ => none
def roomy : Value → Bool
  | .slice _ n c => Nat.blt n c
  | _ => false
section
variable {κ α : Type} [DecidableEq κ]
def Kg (size : Nat) (vs : List Value) : Prop := ∀ (i j : Nat) (v u : Value) (g e e' : Nat), vs[i]? = some v → vs[j]? = some u → kU size v = some (g, e) → kU size u = some (g, e') → i = j
def JN (q : List (κ × List α)) (k : κ) : List (κ × List α) := q.eraseIdx ((q.map Prod.fst).findIdx? (fun x => decide (x = k)) |>.getD q.length)
end
section
variable {P : Program} {fr : Fr} {ops : Array Oper} {A : As} {rest : List Oper} {K : As → List (As × Fx) → Prop} {d : Nat} {t ty' mt kt et : TypeId} {p : String} {e : Array Edge}
variable {κ α : Type} [DecidableEq κ] {E : El α} {Tb J tg : Nat} {q : List (κ × List α)} {k : κ} {xs ys : List α}
end
section
variable {P : Program} {fr : Fr} {ops : Array Oper} {A : As} {rest : List Oper} {K : As → List (As × Fx) → Prop} {d : Nat} {t ty' mt kt et : TypeId} {p : String} {e : Array Edge} [T : lQ P]
variable {κ α : Type} [DecidableEq κ] {E : El α} {Tb J tg : Nat} {q : List (κ × List α)} {k : κ} {xs ys : List α}
theorem L7 [Inhabited α] {w : World} {M : ay} {g off i j : Nat} {cur : Array Value} {ty : Ty} (hh : w.heap[g]? = some (.cells cur Tb (0, 0))) (hd : cD w M (xs.flatMap E.tys) ((cur.toList.drop off).take (xs.length * E.size))) (hi : i < xs.length) (hl : (E.tys (nth xs i))[j]? = some ty) :
 ∃ u, w.cell? ⟨g, off + i * E.size + j, none⟩ = some u ∧ ty.den w M u := by
 obtain ⟨u, hu, hdu⟩ := dQ hd _ ty (kj E xs hi j ty hl)
 rw [List.getElem?_take] at hu
 split at hu
 ·rw [List.getElem?_drop] at hu
  exact ⟨u, by rw [Nat.add_assoc]; simpa [World.cell?, hh] using hu, hdu⟩
 cases hu
end
end Go.T
namespace Go.T
open Go Go.RowKit
section
variable {P : Program} {fr : Fr} {ops : Array Oper} {A : As} {rest : List Oper} {K : As → List (As × Fx) → Prop} {d : Nat} {t ty' mt kt et : TypeId} {p : String} {e : Array Edge} [T : lQ P]
variable {κ α : Type} [DecidableEq κ] {E : El α} {Tb J tg : Nat} {q : List (κ × List α)} {k : κ} {xs ys : List α}
theorem No (l news : List Value) (o n m e : Nat) (he : o + n ≤ e) (hl : e + news.length ≤ l.length) : (((l.take e ++ news ++ l.drop (e + news.length)).drop o).take n) = (l.drop o).take n := by
 apply List.ext_getElem?
 intro i
 rw [List.getElem?_take, List.getElem?_take]
 split
 ·rename_i hi
  rw [List.getElem?_drop, List.getElem?_drop, List.append_assoc, List.getElem?_append_left (by rw [List.length_take]; omega), List.getElem?_take, if_pos (by omega)]
 rfl
theorem Oq (l news : List Value) (o n : Nat) (hl : o + n + news.length ≤ l.length) : (((l.take (o + n) ++ news ++ l.drop (o + n + news.length)).drop o).take (n + news.length)) = (l.drop o).take n ++ news := by
 have h1 : (l.take (o + n) ++ news ++ l.drop (o + n + news.length)).drop o = (l.drop o).take n ++ news ++ l.drop (o + n + news.length) := by
  rw [List.append_assoc, List.drop_append_of_le_length (by rw [List.length_take]; omega), List.drop_take, show o + n - o = n by omega, List.append_assoc]
 have h2 : ((l.drop o).take n ++ news).length = n + news.length := by rw [List.length_append, List.length_take, List.length_drop, Nat.min_eq_left (by omega)]
 rw [h1, List.take_left' h2]
end
end Go.T
namespace Go.T
open Go Go.RowKit
abbrev U9 (n : Nat) : Type := {l : List Int // l.length = n}
end Go.T
namespace Go.T
open Go Go.RowKit Go.Lib
section
variable {P : Program} {fr : Fr} {ops : Array Oper} {A : As} {rest : List Oper} {K : As → List (As × Fx) → Prop} {d : Nat} {t ty' ty2 : TypeId} {p : String} {e : Array Edge} [T : lQ P]
end
end Go.T
namespace Go.T
open Go Go.RowKit
section
variable {P : Program} {fr : Fr} {ops : Array Oper} {A : As} {rest : List Oper} {K : As → List (As × Fx) → Prop} {t mt : TypeId} {p : String} {e : Array Edge} {d : Option Nat} {x y z : Operand}
end
section
variable {P : Program} {fr : Fr} {ops : Array Oper} {A : As} {rest : List Oper} {K : As → List (As × Fx) → Prop} {d : Nat} {t mt kt et : TypeId} {p : String} {e : Array Edge}
variable {κ β : Type} [DecidableEq κ]
end
section
variable {A : As} {κ β : Type} [DecidableEq κ]
end
section
variable {P : Program} {fr : Fr} {ops : Array Oper} {A : As} {rest : List Oper} {K : As → List (As × Fx) → Prop} {t ty' : TypeId} {p : String} {e : Array Edge} [T : lQ P]
end
section
variable {P : Program} {fr : Fr} {ops : Array Oper} {A : As} {rest : List Oper} {K : As → List (As × Fx) → Prop} {d : Nat} {t ty' : TypeId} {p : String} {e : Array Edge} [T : lQ P]
theorem Fl {α : Type} [Inhabited α] {E : El α} {xs : List α} {x : Operand} {tg off Tb : Nat} {ti : TI} (i : Nat) (hx : A.op fr x = .ptr tg off) (he : off = i * E.size) (hc : A.tag tg = some (.vec E Tb xs)) (h1 : ga tg) (hT : T.tab[ty']? = some ti) (ha : ti.k.agg = true) (hsz : ti.size = E.size) (hi : i < xs.length)
 (h : aV P fr ops rest (A.set d (.agg (E.tys (nth xs i)))) fun A' l => K A' ((A, { d := some d, ty := .agg (E.tys (nth xs i)), rs := bq x, rt := [tg] }) :: l)) : aV P fr ops (⟨some d, .load ty' x, t, p, e, none⟩ :: rest) A K :=
 bC (bP rfl rfl fun a w M wf hr ht => by
  have := cA (x := x) (fun _ h => h) hr
  rw [hx] at this
  obtain ⟨b, hb, e⟩ := this
  obtain ⟨cs, g1, g2, g3⟩ := Bp (l := E.tys (nth xs i)) (b := b) (q := off) (off := 0) (n := ti.size) (m := E.tys (nth xs i)) (fun j t hj => mD wf h1 hb (qA hc w M ht) (by
   rw [he]; exact kj E xs hi j t hj)) (by rw [List.drop_zero, hsz, ← E.len (nth xs i), List.take_length]) (by rw [E.len, hsz])
  exact ⟨.agg cs.toArray, by simp only [execOp, e]; rw [Sem.run_bind, jw (off := off) hT ha g1 (by simpa using g3)]; rfl, cs.toArray, rfl, by simpa using g2⟩) h
end
section
variable {P : Program} {A : As} {fn : Func} {n : Nat} {w0 : World} {M0 : ay} [T : lQ P]
end
section
variable {P : Program} {fr : Fr} {A : As} {c : Code} {Q : Exit → Act → World → Prop}
theorem jt {tg : Nat} {C D : Cont} (hc : A.tag tg = some C) (h : C.Sub D) (h' : eZ P fr c ⟨A.slots, (tg, D) :: A.tags⟩ Q) : eZ P fr c A Q := fun a w ⟨M, ok, hsl, ht⟩ =>
 h' a w ⟨M, ok, hsl, fun x hx => by
  rcases List.mem_cons.1 hx with rfl | hx
  ·exact h _ _ _ (ht _ (dD hc))
  exact ht x hx⟩
end
section
variable {P : Program} {fr : Fr} {ops : Array Oper} {A : As} {rest : List Oper} {K : As → List (As × Fx) → Prop} {d : Nat} {t mt kt et : TypeId} {p : String} {e : Array Edge} {κ β : Type} [DecidableEq κ]
end
end Go.T
namespace Go.T
open Go Go.RowKit
def Cont.me (g T : Nat) (v : Value) (tys : List Ty) (cs : List Value) (h1 : bp tys = []) (h2 : bU tys = []) : Cont :=
  { den := fun w M _ => M g = some 1000 ∧ w.heap[g]? = some (.cells #[v] T (0, 0)) ∧ cD w M tys cs
    deps := [1000], cdeps := [1000]
    mono := fun le hk hs _ _ ⟨e1, e2, e3⟩ => let ⟨a, c⟩ := le.own g _ e1 (hk 1000 (by simp)); ⟨a, (c (hs 1000 (by simp))).trans e2, bY le (by rw [h1]; intro _ h; cases h) (by rw [h2]; intro _ h; cases h) e3⟩ }
section
variable {P : Program} {fr : Fr} {ops : Array Oper} {A : As} {rest : List Oper} {K : As → List (As × Fx) → Prop} {d : Nat} {t ty' : TypeId} {p : String} {e : Array Edge}
end
section
variable {P : Program} {fr : Fr} {A : As} {Q : Exit → Act → World → Prop} {x y : Code}
end
section
variable {P : Program}
variable {A : As} {fn : Func} {n : Nat} {J1 Jx : World → ay → Prop}
end
end Go.T
namespace Go.T
open Go Go.RowKit
section
variable {P : Program} {fr : Fr} {ops : Array Oper} {A : As} {rest : List Oper} {K : As → List (As × Fx) → Prop} {d : Nat} {t ty' : TypeId} {p : String} {e : Array Edge} [T : lQ P]
variable {α : Type} {E : El α} {Tb J : Nat} {xs ys : List α}
end
section
variable {P : Program} {fr : Fr} {A : As} {c : Code} {Q : Exit → Act → World → Prop}
end
end Go.T
namespace Go.T
open Go Go.RowKit
section
variable {P : Program} {fr : Fr} {ops : Array Oper} {A : As} {rest : List Oper} {K : As → List (As × Fx) → Prop} {d : Nat} {t : TypeId} {p : String} {e : Array Edge}
end
end Go.T
namespace Go.T
open Go Go.RowKit
theorem Ty.SM {α : Type} {E : El α} {T tg n : Nat} {xs : List α} (hn : xs.length = n) : (Ty.row E T tg xs).Sub (Ty.vs tg n) := fun w M v ⟨cs, h1, h2, h3⟩ => by
 subst hn
 rcases h1.2 with ⟨e, h0⟩ | ⟨g, cap, cur, ex, _, hh, hn1, hcap, _, htk⟩
 ·exact .inl ⟨h0, e⟩
 exact .inr ⟨g, cap, h3 g (by rw [ex]; rfl), ex, hn1, hcap⟩
theorem Cont.qc {T : Nat} {l l' : List Ty} (h : Qy l l') : (Cont.cells T l).Sub (Cont.cells T l') := fun w M v ⟨b, cs, h1, h2, h3⟩ => ⟨b, cs, h1, h2, wh h h3⟩
end Go.T
namespace Go.T
open Go Go.RowKit
end Go.T
namespace Go.T
open Go Go.RowKit
section
variable {P : Program} {fr : Fr} {A : As} {c : Code} {Q : Exit → Act → World → Prop}
theorem MA {α : Type} {E : El α} {T Tc tg c0 : Nat} {l : List Ty} {xs : List α} (i : Nat) (hc : A.tag c0 = some (.cells Tc l)) (hi : l[i]? = some (.row E T tg xs))
 (h : eZ P fr c ⟨A.slots, (tg, .vec E T xs) :: A.tags⟩ Q) : eZ P fr c A Q := fun a w ⟨M, ok, hsl, ht⟩ => by
 refine h a w ⟨M, ok, hsl, fun x hx => ?_⟩
 rcases List.mem_cons.1 hx with rfl | hx
 ·obtain ⟨b, cs, hb, hh, hd⟩ := ht _ (dD hc)
  obtain ⟨v, _, ⟨ds, h1, h2, h3⟩⟩ := dQ hd i _ hi
  rcases h1.2 with ⟨e, h0⟩ | ⟨g, cap, cur, ex, _, hh, hn1, hcap, _, htk⟩
  ·exact .inl (List.length_eq_zero_iff.1 h0)
  have hg : M g = some tg := h3 g (by rw [ex]; rfl)
  exact .inr ⟨g, cur, hg, hh, by rw [c7, htk]; exact h2⟩
 exact ht x hx
end
end Go.T
namespace Go.T
open Go Go.RowKit
section
variable {P : Program} {A : As} {fn : Func} {n : Nat} {w0 : World} {M0 : ay}
end
end Go.T
namespace Go.T
open Go Go.RowKit
section
variable {P : Program} {fr : Fr} {A : As} {c : Code} {Q : Exit → Act → World → Prop}
end
section
variable {P : Program} {A : As} {fn : Func} {n : Nat} {w0 : World} {M0 : ay}
end
end Go.T
namespace Go.T
open Go Go.RowKit
section
variable {P : Program} {fr : Fr} {ops : Array Oper} {A : As} {rest : List Oper} {K : As → List (As × Fx) → Prop} {d : Nat} {t : TypeId} {p : String} {e : Array Edge} {y : Operand}
end
section
variable {P : Program} {fr : Fr} {A : As} {Q : Exit → Act → World → Prop} {code : Code}
end
end Go.T
namespace Go.T
open Go Go.RowKit
section
variable {P : Program} {fr : Fr} {A : As} {Q : Exit → Act → World → Prop}
end
end Go.T
namespace Go.T
open Go Go.RowKit
section
variable {P : Program} {fr : Fr} {ops : Array Oper} {A : As} {rest : List Oper} {K : As → List (As × Fx) → Prop} {d : Nat} {t ty' : TypeId} {p : String} {e : Array Edge} [T : lQ P]
end
section
open Go.RowKit
variable {P : Program} {A : As} {fn : Func} {n : Nat} {w0 : World} {M0 : ay} {F : List Nat} {post : List (Nat × Cont)} [T : lQ P]
end
section
variable {P : Program} {fr : Fr} {A : As}
end
end Go.T
namespace Go.T
open Go Go.RowKit
section
variable {P : Program} {fr : Fr} {A : As}
end
end Go.T
namespace Go.T
open Go Go.RowKit
end Go.T
namespace Go.T
open Go Go.RowKit
section
variable {P : Program}
variable {fr : Fr} {ops : Array Oper} {A : As} {rest : List Oper} {K : As → List (As × Fx) → Prop} {d : Nat} {t ty' : TypeId} {p : String} {e : Array Edge} [T : lQ P]
end
section
variable {P : Program} {fr : Fr} {A : As} {Q : Exit → Act → World → Prop} {c : Code}
end
end Go.T
namespace Go.Proofs.YtmmcenjknimhbaaGreat
open Go Go.T
set_option maxHeartbeats 4000000
section
variable {y : bw}
end
attribute [local irreducible] bw.cell bw.kept bw.cells
attribute [local irreducible] eG cZ jR j6 eP eO eK eM eS j8 eJ j4 b8 dc jz dZ j7 nth eZ cU aV cX bodyPost Exit.then Exit.inBlock Code.wp Code.wpIn dS mz mm m5 fT mq m7 fW mW eB fO lq bW bV bodyPostM cV
end Go.Proofs.YtmmcenjknimhbaaGreat
namespace Go.Proofs.YtmmcenjknimhbaaGreat
open Go Go.T
set_option maxHeartbeats 8000000
section
variable {y : bw} {c : Nat → Bool} {b t : Nat}
end
attribute [local irreducible] bw.cell bw.cells
attribute [local irreducible] eG cZ jR j6 eP eO eK eM eS j8 eJ j4 b8 dc jz dZ j7 nth eZ cU aV cX bodyPost Exit.then Exit.inBlock Code.wp Code.wpIn dS mz mm m5 fT mq m7 fW mW eB fO lq bW bV bodyPostM cV
end Go.Proofs.YtmmcenjknimhbaaGreat
namespace Go.T
open Go Go.RowKit
section
variable {A : As}
theorem RX {α : Type} {E : El α} {T J : Nat} {xs : List α} {w : World} {M : ay} {v : Value} (wf : Wf w M) (h : DU E T J xs w M v) : jR E xs w (dx M J) v := by
 rcases h with ⟨rfl, rfl⟩ | ⟨g, off, c, cur, rfl, hg, hh, h1, h2, h3, h4⟩
 ·exact ⟨none, 0, rfl, Nat.le_refl _, by simp [maxLen], fun h => absurd h (by simp)⟩
 refine ⟨_, c, rfl, h1, h2, fun h0 => ⟨g, off, rfl, by simp [dx, hg], wf.lt g _ hg, fun i t hi => ?_⟩⟩
 obtain ⟨u, hu, hdu⟩ := dQ h4 i t hi
 refine ⟨u, ?_, t.mono (iO (w := w)) ?_ (fun _ _ h => by cases h) hdu⟩
 ·have hlt : i < xs.length * E.size := by
   have := (List.getElem?_eq_some_iff.1 hu).1
   rw [List.length_take] at this; omega
  rw [List.getElem?_take, if_pos hlt, List.getElem?_drop] at hu
  simpa [World.cell?, hh] using hu
 intro u hu
 have : u ∈ bp (xs.flatMap E.tys) := List.mem_flatMap.2 ⟨t, List.mem_of_getElem? hi, hu⟩
 rw [E.cT] at this; cases this
end
section
variable {P : Program} {fr : Fr} {A : As} {c : Code} {Q : Exit → Act → World → Prop}
end
end Go.T
namespace Go.Proofs.YtmmcenjknimhbaaGreat
open Go Go.T
set_option maxHeartbeats 8000000
attribute [local irreducible] eG cZ jR j6 eP eO eK eM eS j8 eJ j4 b8 dc jz dZ j7 nth eZ cU aV cX bodyPost Exit.then Exit.inBlock Code.wp Code.wpIn dS mz mm m5 fT mq m7 fW mW eB fO lq bW bV bodyPostM cV
end Go.Proofs.YtmmcenjknimhbaaGreat
namespace Go.Proofs.YtmmcenjknimhbaaGreat
open Go Go.T
section
variable {fl : List c6} {a : List Int} {n k : Nat} {c : Int} {w : bl}
end
end Go.Proofs.YtmmcenjknimhbaaGreat
namespace Go.Proofs.YtmmcenjknimhbaaGreat
open Go Go.T
set_option maxHeartbeats 8000000
section
variable {fl : List c6} {a : List Int} {n : Nat} {w : bl}
structure Vl (y : bw) (fl : List c6) (a : List Int) : Prop where
  right : y.dj
  net : Net fl (y.cells + 1)
  bd : Bd fl
  inb : MV fl a
  zK : fl.length ≤ 34
end
attribute [local irreducible] bl.iZ bl.fin bl.room hO
attribute [local irreducible] eG cZ jR j6 eP eO eK eM eS j8 eJ j4 b8 dc jz dZ j7 nth eZ cU aV cX bodyPost Exit.then Exit.inBlock Code.wp Code.wpIn dS mz mm m5 fT mq m7 fW mW eB fO lq bW bV bodyPostM cV
end Go.Proofs.YtmmcenjknimhbaaGreat
namespace Go.Proofs.YtmmcenjknimhbaaGreat
open Go Go.T
section
variable {fl : List c6} {a : List Int} {n : Nat} {s t : Int} {x : l8}
def mQ (x : l8) : Int := nth x.queue 0
def rj (x : l8) : l8 := ⟨x.by_, x.queue.drop 1⟩
theorem queue_eq (h : 0 < x.queue.length) : x.queue = mQ x :: x.queue.drop 1 := by
  unfold mQ
  cases hq : x.queue with
  | nil => rw [hq] at h; exact absurd h (by simp)
  | cons c r => rfl
structure TC (fl : List c6) (a : List Int) (n : Nat) (s : Int) (x : l8) : Prop where
  inv : nv fl a n s x none
  same : p4 (AJ fl a s) x = dK fl a s
  short : x.queue.length ≤ x.by_.length + 1
theorem NK (h : 0 < x.queue.length) : AJ fl a s x = .inl (jq fl a s (mQ x) (rj x) (bZ fl a (mQ x)).length) := by
 have e := queue_eq h
 unfold AJ
 rw [e]; rfl
theorem TC.fold (hN : Net fl n) (h : TC fl a n s x) (hq : 0 < x.queue.length) {k : Nat} (hk : k ≤ (bZ fl a (mQ x)).length) :
 (jq fl a s (mQ x) (rj x) k).queue.length ≤ n ∧ (jq fl a s (mQ x) (rj x) k).by_.length ≤ n ∧ (jq fl a s (mQ x) (rj x) k).queue.length ≤ (jq fl a s (mQ x) (rj x) k).by_.length := by
 have h1 := (h.inv.pop (queue_eq hq)).fold hN k hk
 have h2 := h1.zK
 have h3 := AK (fl := fl) (a := a) (s := s) (c := mQ x) (x := rj x) k hk
 have h4 := h.short
 have e1 : (rj x).queue.length + 1 = x.queue.length := by show (x.queue.drop 1).length + 1 = _; rw [List.length_drop]; omega
 have e2 : (rj x).by_ = x.by_ := rfl
 rw [e2] at h3
 change (jq fl a s (mQ x) (rj x) k).by_.length ≤ n at h2
 omega
theorem TC.next (hN : Net fl n) (h : TC fl a n s x) (hq : 0 < x.queue.length) : TC fl a n s (jq fl a s (mQ x) (rj x) (bZ fl a (mQ x)).length) ∧ Ti n (jq fl a s (mQ x) (rj x) (bZ fl a (mQ x)).length) < Ti n x := by
 obtain ⟨h1, h2⟩ := Ak hN h.inv (queue_eq hq)
 exact ⟨⟨h1, by rw [← iN (NK hq)]; exact h.same, by have := (h.fold hN hq (Nat.le_refl _)).2.2; omega⟩, h2⟩
theorem TC.end (h : TC fl a n s x) (hq : ¬ 0 < x.queue.length) : x.by_ = dK fl a s := by
 rw [← h.same]
 refine (jm ?_).symm
 unfold AJ
 rw [List.length_eq_zero_iff.1 (show x.queue.length = 0 by omega)]
structure PK (fl : List c6) (n : Nat) (a0 a : List Int) : Prop where
  inb : MV fl a
  same : p4 (IK fl n) a = jc fl n a0
theorem PK.done {a0 : List Int} (h : PK fl n a0 a) (e : mw fl a n < 0) : jc fl n a0 = (0, false, a) := by
 rw [← h.same]; exact jm (if_pos e)
theorem PK.next {a0 : List Int} (hN : Net fl n) (h : PK fl n a0 a) (e : ¬ mw fl a n < 0) (e2 : ¬ mA fl a n (dK fl a (mw fl a n)) < 0) :
 PK fl n a0 (nQ fl a (mw fl a n) (mA fl a n (dK fl a (mw fl a n)))) ∧ Ud fl a n (mw fl a n) (mA fl a n (dK fl a (mw fl a n))) := by
 obtain ⟨s, s1, s2, s3⟩ := Pw e
 obtain ⟨t, t1, t2, t3, t4⟩ := Lw e2
 rw [s2] at t2 t3 ⊢
 rw [t2]
 have hS := sent hN h.inb s1 t1 s3 t3 t4
 refine ⟨⟨hS.inb, ?_⟩, hS⟩
 rw [← h.same]
 refine (iN ?_).symm
 unfold IK
 rw [if_neg e, s2, if_neg (by rw [t2]; omega), t2]
structure Ib (fl : List c6) (a : List Int) (q : List (Int × bl)) (s t : Int) (dep : Int → Nat) (x : Int × List bl) : Prop where
  inv : OF fl a q s t dep x
  same : p4 (Ks fl q s) x = iW fl q s t
theorem Hq {q : List (Int × bl)} {x : Int × List bl} (hx : x.1 = s) : Ks fl q s x = .inr x.2 := if_pos hx
theorem Iv {q : List (Int × bl)} {x : Int × List bl} (hx : ¬ x.1 = s) : Ks fl q s x = .inl ((pP q x.1).iZ fl, x.2 ++ [pP q x.1]) := if_neg hx
theorem Ib.next {dep : Int → Nat} {q : List (Int × bl)} (hd : ∀ c w, bf q c = some w → Open fl a w ∧ w.fin fl = c ∧ C2 q s (w.iZ fl) ∧ dep (w.iZ fl) < dep c ∧ dep c ≤ q.length) {x : Int × List bl} (h : Ib fl a q s t dep x) (hx : ¬ x.1 = s) :
 Ib fl a q s t dep ((pP q x.1).iZ fl, x.2 ++ [pP q x.1]) ∧ dep ((pP q x.1).iZ fl) < dep x.1 ∧ Open fl a (pP q x.1) := by
 obtain ⟨h1, h2⟩ := h.inv.next hd hx
 refine ⟨⟨h1, ?_⟩, h2, h1.ways _ (List.mem_append.2 (.inr (List.mem_singleton.2 rfl)))⟩
 rw [← h.same]
 exact (iN (Iv hx)).symm
theorem Ib.end {dep : Int → Nat} {q : List (Int × bl)} {x : Int × List bl} (h : Ib fl a q s t dep x) (hx : x.1 = s) : x.2 = iW fl q s t := by
 rw [← h.same]; exact (jm (Hq hx)).symm
theorem Ib.zK {dep : Int → Nat} {q : List (Int × bl)} {x : Int × List bl} (h : Ib fl a q s t dep x) : x.2.length ≤ dep t := by
 have := h.inv.zK; omega
end
end Go.Proofs.YtmmcenjknimhbaaGreat
namespace Go.Proofs.YtmmcenjknimhbaaGreat
open Go Go.T
set_option maxHeartbeats 8000000
section
variable {fl : List c6} {a : List Int} {s : Int} {q : List (Int × bl)} {w : bl}
end
attribute [local irreducible] bl.iZ bl.fin bl.room hO bZ jq dK FL mQ
attribute [local irreducible] eG cZ jR j6 eP eO eK eM eS j8 eJ j4 b8 dc jz dZ j7 nth eZ cU aV cX bodyPost Exit.then Exit.inBlock Code.wp Code.wpIn dS mz mm m5 fT mq m7 fW mW eB fO lq bW bV bodyPostM cV
end Go.Proofs.YtmmcenjknimhbaaGreat
namespace Go.Proofs.YtmmcenjknimhbaaGreat
open Go Go.T
section
variable {fl : List c6} {a : List Int} {n : Nat} {q : List (Int × bl)}
end
end Go.Proofs.YtmmcenjknimhbaaGreat
namespace Go.Proofs.YtmmcenjknimhbaaGreat
open Go Go.T
set_option maxHeartbeats 16000000
structure Vc (y : bw) (fl : List c6) (a : List Int) : Prop where
  right : y.dj
  net : Net fl (y.cells + 1)
  bd : Bd fl
  inb : Si fl = true → MV fl a
  zK : fl.length ≤ 34
section
variable {y : bw} {fl : List c6} {a : List Int} {n : Nat}
end
attribute [local irreducible] bl.iZ bl.fin bl.room hO nx cS bZ dK mw mA qq iK iW nQ jc
attribute [local irreducible] eG cZ jR j6 eP eO eK eM eS j8 eJ j4 b8 dc jz dZ j7 nth eZ cU aV cX bodyPost Exit.then Exit.inBlock Code.wp Code.wpIn dS mz mm m5 fT mq m7 fW mW eB fO lq bW bV bodyPostM cV
end Go.Proofs.YtmmcenjknimhbaaGreat
namespace Go.Proofs.YtmmcenjknimhbaaGreat
open Go Go.T
section
variable {fl : List c6} {a : List Int} {n : Nat} {G : Nat → Int} {x : QE}
structure Cz (fl : List c6) (a : List Int) (n : Nat) (G : Nat → Int) (x : QE) : Prop where
  inv : n9 fl a n G x
  same : p4 (oT fl a n G) x = jT fl a n G
theorem Cz.r (h : Cz fl a n G x) : ¬ n ≤ x.r := by have := h.inv.r; omega
theorem Cz.round (h : Cz fl a n G x) (hc : n ≤ x.c) (ha : ¬ x.st.at_ < 0) : Cz fl a n G ⟨x.r + 1, 0, 0, ⟨x.st.worth, x.st.by_, -1⟩⟩ :=
 ⟨h.inv.round hc (fun e => ha (by rw [h.inv.last e]; decide)), by rw [← iN (yV h.r hc ha)]; exact h.same⟩
theorem Cz.stop (h : Cz fl a n G x) (hc : n ≤ x.c) (ha : x.st.at_ < 0) : dP fl a n G = [] := by
 refine yX ?_
 rw [← h.same]; exact jm (AO h.r hc ha)
theorem Cz.cell (h : Cz fl a n G x) (hc : ¬ n ≤ x.c) (hj : (bZ fl a x.c).length ≤ x.j) : Cz fl a n G ⟨x.r, x.c + 1, 0, x.st⟩ :=
 ⟨h.inv.cell hc hj, by rw [← iN (BW h.r hc hj)]; exact h.same⟩
theorem Cz.no (h : Cz fl a n G x) (hc : ¬ n ≤ x.c) (hj : ¬ (bZ fl a x.c).length ≤ x.j) (hg : oW fl G x.st x.c (nth (bZ fl a x.c) x.j) = false) : Cz fl a n G ⟨x.r, x.c, x.j + 1, x.st⟩ :=
 ⟨h.inv.no hc hj hg, by rw [← iN (HZ h.r hc hj hg)]; exact h.same⟩
theorem Cz.yes (hN : Net fl n) (hG : ∀ i, -1 ≤ G i ∧ G i ≤ 1) (h : Cz fl a n G x) (hc : ¬ n ≤ x.c) (hj : ¬ (bZ fl a x.c).length ≤ x.j) (hg : oW fl G x.st x.c (nth (bZ fl a x.c) x.j) = true) (hr : ¬ x.r + 1 = n) : Cz fl a n G ⟨x.r, x.c, x.j + 1, pK fl G x.st x.c (nth (bZ fl a x.c) x.j)⟩ :=
 ⟨h.inv.yes hN hG hc hj hg hr, by rw [← iN (DH h.r hc hj hg hr)]; exact h.same⟩
structure Eb (fl : List c6) (a : List Int) (n : Nat) (G : Nat → Int) (st : zG) (v : Nat) : Prop where
  found : ∃ R T τ, Gh fl a n G (n - 1) st R T τ ∧ v < n ∧ R v = n
  at_ : st.at_ = v
  same : dP fl a n G = tL fl st (gZ (cG fl st) n v)
  len : st.by_.length = n
theorem Cz.last (hN : Net fl n) (hG : ∀ i, -1 ≤ G i ∧ G i ≤ 1) (h : Cz fl a n G x) (hc : ¬ n ≤ x.c) (hj : ¬ (bZ fl a x.c).length ≤ x.j) (hg : oW fl G x.st x.c (nth (bZ fl a x.c) x.j) = true) (hr : x.r + 1 = n) :
    ∃ v : Nat, Eb fl a n G (pK fl G x.st x.c (nth (bZ fl a x.c) x.j)) v := by
  have h1 := h.inv.found hN hG hc hj hg hr
  have h2 : jT fl a n G = some (pK fl G x.st x.c (nth (bZ fl a x.c) x.j)) := by
    rw [← h.same]; exact jm (Br h.r hc hj hg hr)
  cases h1 with
  | some _ R T τ v h3 hv e hR =>
    refine ⟨v, ⟨R, T, τ, h3, hv, hR⟩, e, ?_, h3.len.2⟩
    rw [yE h2, e, Int.toNat_natCast]
theorem n9.small (h : n9 fl a n G x) (hn : n ≤ 21) (hl : fl.length ≤ 34) : x.st.worth.length = n ∧ x.st.by_.length = n ∧ ∀ v, v < n → 0 ≤ nth x.st.worth v ∧ nth x.st.worth v ≤ 40000 := by
 obtain ⟨R, T, τ, h1, h2, _⟩ := h.gh
 refine ⟨h1.len.1, h1.len.2, fun v hv => ?_⟩
 have h3 := h1.le v hv
 have h4 := h.r
 have h5 := h.c
 have h6 := h.j.1
 have e1 : x.r * (n * (2 * fl.length)) ≤ 21 * (21 * 68) := Nat.mul_le_mul (by omega) (Nat.mul_le_mul hn (by omega))
 have e2 : x.c * (2 * fl.length) ≤ 21 * 68 := Nat.mul_le_mul (by omega) (by omega)
 omega
variable {st : zG} {v s p : Nat}
theorem Eb.chain (hN : Net fl n) (h : Eb fl a n G st v) {k : Nat} (hk : k < n) : gZ (cG fl st) k v < n ∧ Open fl a (nth st.by_ (gZ (cG fl st) k v)) ∧ (nth st.by_ (gZ (cG fl st) k v)).iZ fl = (gZ (cG fl st) (k + 1) v : Nat) := by
 obtain ⟨R, T, τ, h1, h2, h3⟩ := h.found
 obtain ⟨a1, a2⟩ := FD hN h1 h2 h3 k (by omega)
 obtain ⟨b1, _⟩ := h1.way _ a1 (by omega)
 refine ⟨a1, b1, ?_⟩
 have := (hN.way b1.1).1
 show _ = ((((nth st.by_ (gZ (cG fl st) k v)).iZ fl).toNat : Nat) : Int)
 omega
structure UC (fl : List c6) (a : List Int) (n : Nat) (st : zG) (s p : Nat) (x : Nat × List bl) : Prop where
  at_ : x.1 < n ∧ Open fl a (nth st.by_ x.1) ∧ (nth st.by_ x.1).iZ fl = (cG fl st x.1 : Nat)
  ix : ∃ i, i ≤ p ∧ x.1 = gZ (cG fl st) i s ∧ x.2.length = i
  same : p4 (Gp fl st s) x = tL fl st s
theorem Tu.iZ {T : Nat → Nat} (hN : Net fl n) (h : Tu fl a n G st T s) (t : Nat) : gZ (cG fl st) t s < n ∧ Open fl a (nth st.by_ (gZ (cG fl st) t s)) ∧ (nth st.by_ (gZ (cG fl st) t s)).iZ fl = (cG fl st (gZ (cG fl st) t s) : Nat) := by
 refine ⟨h.at_ t, (h.way t).1, ?_⟩
 have := (hN.way (h.way t).1.1).1
 show _ = ((((nth st.by_ (gZ (cG fl st) t s)).iZ fl).toNat : Nat) : Int)
 omega
theorem JM {x : Nat × List bl} (h : ¬ (¬ x.2 = [] ∧ x.1 = s)) : Gp fl st s x = .inl (cG fl st x.1, x.2 ++ [nth st.by_ x.1]) := if_neg h
theorem Ip {x : Nat × List bl} (h : ¬ x.2 = [] ∧ x.1 = s) : Gp fl st s x = .inr x.2 := if_pos h
theorem UC.next {T : Nat → Nat} (hN : Net fl n) (hC : Tu fl a n G st T s) (hp : gZ (cG fl st) p s = s) (hp1 : 1 ≤ p) {x : Nat × List bl} (h : UC fl a n st s p x) (hc : ¬ (¬ x.2 = [] ∧ x.1 = s)) :
 UC fl a n st s p (cG fl st x.1, x.2 ++ [nth st.by_ x.1]) ∧ x.2.length < p := by
 obtain ⟨i, h1, h2, h3⟩ := h.ix
 have hi : i < p := by
  by_cases e : i = p
  ·exfalso; apply hc
   subst e
   exact ⟨fun e => by rw [e] at h3; simp at h3; omega, h2.trans hp⟩
  omega
 have e : cG fl st x.1 = gZ (cG fl st) (i + 1) s := by rw [h2]; rfl
 refine ⟨⟨?_, ⟨i + 1, hi, e, by rw [List.length_append, h3]; rfl⟩, ?_⟩, by omega⟩
 ·show cG fl st x.1 < n ∧ Open fl a (nth st.by_ (cG fl st x.1)) ∧ _ = ((cG fl st (cG fl st x.1) : Nat) : Int)
  rw [e]; exact hC.iZ hN (i + 1)
 rw [← iN (JM hc)]; exact h.same
theorem UC.end {x : Nat × List bl} (h : UC fl a n st s p x) (hc : ¬ x.2 = [] ∧ x.1 = s) : x.2 = tL fl st s := by
 rw [← h.same]; exact (jm (Ip hc)).symm
structure To (fl : List c6) (n : Nat) (G : Nat → Int) (a b : List Int) : Prop where
  feas : EI fl n b
  same : p4 (stepG fl n G) b = rH fl n G a
theorem Jc {b : List Int} (e : dP fl b n G = []) : stepG fl n G b = .inr b := if_pos e
theorem IB {b : List Int} (e : ¬ dP fl b n G = []) : stepG fl n G b = .inl (hO b (dP fl b n G) (iK fl b 300 (dP fl b n G))) := if_neg e
theorem To.done {b : List Int} (h : To fl n G a b) (e : dP fl b n G = []) : b = rH fl n G a := by
 rw [← h.same]; exact (jm (Jc e)).symm
theorem To.next {b : List Int} (hN : Net fl n) (hn : 0 < n) (hB : Bd fl) (hG : ∀ i, -1 ≤ G i ∧ G i ≤ 1) (h : To fl n G a b) (e : ¬ dP fl b n G = []) :
 To fl n G a (hO b (dP fl b n G) (iK fl b 300 (dP fl b n G))) ∧ (300 * fl.length - DZ fl G (hO b (dP fl b n G) (iK fl b 300 (dP fl b n G)))).toNat < (300 * fl.length - DZ fl G b).toNat ∧ Kj fl b n G (dP fl b n G) := by
 rcases Gq (a := b) hN hn hG with ⟨e', _⟩ | hc
 ·exact absurd e' e
 have hb := Fk h.feas hc
 refine ⟨⟨hb.feas, ?_⟩, ?_, hc⟩
 ·rw [← h.same]; exact (iN (IB e)).symm
 have h1 := hb.more
 have h2 := Q7 hB hb.feas.1 hG
 omega
end
end Go.Proofs.YtmmcenjknimhbaaGreat
namespace Go.Proofs.YtmmcenjknimhbaaGreat
open Go Go.T
set_option maxHeartbeats 16000000
section
variable {fl : List c6} {a : List Int} {n : Nat} {G : Nat → Int} {st : zG} {r c j : Nat} {w : bl}
theorem Cz.hit (hN : Net fl n) (hG : ∀ i, -1 ≤ G i ∧ G i ≤ 1) (h : Cz fl a n G ⟨r, c, j, st⟩) (hc : c < n) (hj : j < (bZ fl a c).length) (hg : nth st.worth c + lI G (nth (bZ fl a c) j) > nth st.worth ((nth (bZ fl a c) j).fin fl).toNat) (hr : (r : Int) = n - 1) :
 ∃ (v : Nat) (s' : zG), st.worth.set ((nth (bZ fl a c) j).fin fl).toNat (nth st.worth c + lI G (nth (bZ fl a c) j)) = s'.worth ∧ st.by_.set ((nth (bZ fl a c) j).fin fl).toNat (nth (bZ fl a c) j) = s'.by_ ∧ (nth (bZ fl a c) j).fin fl = ((v : Nat) : Int) ∧ Eb fl a n G s' v := by
 obtain ⟨v, hv⟩ := h.last hN hG (Nat.not_le.2 hc) (Nat.not_le.2 hj) (decide_eq_true hg) (by show r + 1 = n; have := h.inv.r; omega)
 exact ⟨v, _, rfl, rfl, hv.at_, hv⟩
end
attribute [local irreducible] bl.iZ bl.fin bl.room hO nx cS bZ dK mw mA qq iK iW nQ jc lI dP rH tL jT pK
attribute [local irreducible] eG cZ jR j6 eP eO eK eM eS j8 eJ j4 b8 dc jz dZ j7 nth eZ cU aV cX bodyPost Exit.then Exit.inBlock Code.wp Code.wpIn dS mz mm m5 fT mq m7 fW mW eB fO lq bW bV bodyPostM cV
end Go.Proofs.YtmmcenjknimhbaaGreat
namespace Go.Proofs.YtmmcenjknimhbaaGreat
open Go Go.T
set_option maxHeartbeats 16000000
section
variable {y : bw} {fl : List c6} {a : List Int} {n : Nat} {has : Nat → Bool} {xs : List Int}
end
attribute [local irreducible] bl.iZ bl.fin bl.room hO nx cS bZ dK mw mA qq iK iW nQ jc lI dP rH tL jT yz td bw.kept
attribute [local irreducible] eG cZ jR j6 eP eO eK eM eS j8 eJ j4 b8 dc jz dZ j7 nth eZ cU aV cX bodyPost Exit.then Exit.inBlock Code.wp Code.wpIn dS mz mm m5 fT mq m7 fW mW eB fO lq bW bV bodyPostM cV
end Go.Proofs.YtmmcenjknimhbaaGreat
namespace Go.Proofs.YtmmcenjknimhbaaGreat
open Go Go.T
set_option maxHeartbeats 16000000
section
variable {y : bw}
end
attribute [local irreducible] bl.iZ bl.fin bl.room hO nx cS bZ dK mw mA qq iK iW nQ jc lI dP rH tL jT yz td bw.kept bw.cells dy
attribute [local irreducible] eG cZ jR j6 eP eO eK eM eS j8 eJ j4 b8 dc jz dZ j7 nth eZ cU aV cX bodyPost Exit.then Exit.inBlock Code.wp Code.wpIn dS mz mm m5 fT mq m7 fW mW eB fO lq bW bV bodyPostM cV
end Go.Proofs.YtmmcenjknimhbaaGreat
namespace Go.Proofs.YtmmcenjknimhbaaGreat
open Go Go.T
set_option maxHeartbeats 16000000
section
variable {y : bw} {fl : List c6} {a : List Int} {n b k : Nat} {q : Int}
end
attribute [local irreducible] bl.iZ bl.fin bl.room hO nx cS bZ dK mw mA qq iK iW nQ jc lI dP rH tL jT yz td bw.kept bw.cells dy
attribute [local irreducible] eG cZ jR j6 eP eO eK eM eS j8 eJ j4 b8 dc jz dZ j7 nth eZ cU aV cX bodyPost Exit.then Exit.inBlock Code.wp Code.wpIn dS mz mm m5 fT mq m7 fW mW eB fO lq bW bV bodyPostM cV
end Go.Proofs.YtmmcenjknimhbaaGreat
namespace Go.T
open Go Go.RowKit
end Go.T
namespace Go.Proofs.YtmmcenjknimhbaaGreat
open Go Go.T
set_option maxHeartbeats 16000000
section
variable {y : bw} {fl : List c6} {a : List Int} {n b k : Nat} {q s : Int} {p : Span → Bool} {i t : Nat}
end
attribute [local irreducible] bl.iZ bl.fin bl.room hO nx cS bZ dK mw mA qq iK iW nQ jc lI dP rH tL jT yz td bw.kept bw.cells dy
attribute [local irreducible] eG cZ jR j6 eP eO eK eM eS j8 eJ j4 b8 dc jz dZ j7 nth eZ cU aV cX bodyPost Exit.then Exit.inBlock Code.wp Code.wpIn dS mz mm m5 fT mq m7 fW mW eB fO lq bW bV bodyPostM cV
end Go.Proofs.YtmmcenjknimhbaaGreat
namespace Go.Proofs.YtmmcenjknimhbaaGreat
open Go Go.T
set_option maxHeartbeats 16000000
structure Vp where
  cells : List V1
  out : Bool
  deriving Inhabited
section
variable {y : bw} {fl : List c6} {a : List Int} {n b k : Nat} {p : Vp} {f : c6} {m : Int}
end
attribute [local irreducible] bl.iZ bl.fin bl.room hO nx cS bZ dK mw mA qq iK iW nQ jc lI dP rH tL jT yz td bw.kept bw.cells dy
attribute [local irreducible] eG cZ jR j6 eP eO eK eM eS j8 eJ j4 b8 dc jz dZ j7 nth eZ cU aV cX bodyPost Exit.then Exit.inBlock Code.wp Code.wpIn dS mz mm m5 fT mq m7 fW mW eB fO lq bW bV bodyPostM cV
end Go.Proofs.YtmmcenjknimhbaaGreat
namespace Go.Proofs.YtmmcenjknimhbaaGreat
open Go Go.T
set_option maxHeartbeats 8000000
attribute [local irreducible] eG cZ jR j6 eP eO eK eM eS j8 eJ j4 b8 dc jz dZ j7 nth eZ cU aV cX bodyPost Exit.then Exit.inBlock Code.wp Code.wpIn dS mz mm m5 fT mq m7 fW mW eB fO lq bW bV bodyPostM cV
end Go.Proofs.YtmmcenjknimhbaaGreat
namespace Go.Proofs.YtmmcenjknimhbaaGreat
open Go Go.T
end Go.Proofs.YtmmcenjknimhbaaGreat
namespace Go.T
open Go Go.RowKit
section
variable {P : Program} {fr : Fr} {ops : Array Oper} {A : As} {rest : List Oper} {K : As → List (As × Fx) → Prop} {d : Nat} {t ty' ty2 : TypeId} {p : String} {e : Array Edge}
end
end Go.T
namespace Go.Proofs.YtmmcenjknimhbaaGreat
open Go Go.T
set_option maxHeartbeats 16000000
section
variable {y : bw} {l : List Int} {o : Bool} {k : Nat}
end
attribute [local irreducible] bl.iZ bl.fin bl.room hO nx cS bZ dK mw mA qq iK iW nQ jc lI dP rH tL jT yz td bw.kept bw.cells dy
attribute [local irreducible] eG cZ jR j6 eP eO eK eM eS j8 eJ j4 b8 dc jz dZ j7 nth eZ cU aV cX bodyPost Exit.then Exit.inBlock Code.wp Code.wpIn dS mz mm m5 fT mq m7 fW mW eB fO lq bW bV bodyPostM cV
end Go.Proofs.YtmmcenjknimhbaaGreat
namespace Go.Proofs.YtmmcenjknimhbaaGreat
open Go Go.T
set_option maxHeartbeats 16000000
section
variable {y : bw} {l : List Int} {i : Nat}
end
attribute [local irreducible] bl.iZ bl.fin bl.room hO nx cS bZ dK mw mA qq iK iW nQ jc lI dP rH tL jT yz td bw.kept bw.cells dy
attribute [local irreducible] eG cZ jR j6 eP eO eK eM eS j8 eJ j4 b8 dc jz dZ j7 nth eZ cU aV cX bodyPost Exit.then Exit.inBlock Code.wp Code.wpIn dS mz mm m5 fT mq m7 fW mW eB fO lq bW bV bodyPostM cV
end Go.Proofs.YtmmcenjknimhbaaGreat
namespace Go.Proofs.YtmmcenjknimhbaaGreat
open Go Go.T
def wu (h : List Int → Bool) (many : Nat) : Nat → List Int → Nat → List Int → Bool × List Int
  | 0, _, _, o => (false, o)
  | d + 1, l, i, o =>
    if (if (l ++ [(i : Int)]).length = many then (h (l ++ [(i : Int)]), l ++ [(i : Int)]) else wu h many d (l ++ [(i : Int)]) (i + 1) o).1 = true then (if (l ++ [(i : Int)]).length = many then (h (l ++ [(i : Int)]), l ++ [(i : Int)]) else wu h many d (l ++ [(i : Int)]) (i + 1) o)
    else wu h many d l (i + 1) (if (l ++ [(i : Int)]).length = many then (h (l ++ [(i : Int)]), l ++ [(i : Int)]) else wu h many d (l ++ [(i : Int)]) (i + 1) o).2
def NB (h : List Int → Bool) (many lim : Nat) (l : List Int) (i : Nat) (o : List Int) : Bool × List Int := if l.length = many then (h l, l) else wu h many (lim - i) l i o
section
variable {h : List Int → Bool} {many lim d i k : Nat} {l o : List Int}
theorem Gf (hi : i < lim) : wu h many (lim - i) l i o = if (NB h many lim (l ++ [(i : Int)]) (i + 1) o).1 = true then NB h many lim (l ++ [(i : Int)]) (i + 1) o else wu h many (lim - (i + 1)) l (i + 1) (NB h many lim (l ++ [(i : Int)]) (i + 1) o).2 := by
 rw [show lim - i = (lim - (i + 1)) + 1 by omega]; rfl
theorem RP (hi : ¬ i < lim) : wu h many (lim - i) l i o = (false, o) := by rw [show lim - i = 0 by omega]; rfl
theorem Rx (e : ¬ l.length = many) : NB h many lim l i o = wu h many (lim - i) l i o := if_neg e
end
end Go.Proofs.YtmmcenjknimhbaaGreat
namespace Go.Proofs.YtmmcenjknimhbaaGreat
open Go Go.T
set_option maxHeartbeats 16000000
structure FF (h : List Int → Bool) (many lim : Nat) (l : List Int) (i0 : Nat) (o0 : List Int) where
  i : Nat
  o : List Int
  ge : i0 ≤ i
  le : i ≤ lim
  same : wu h many (lim - i0) l i0 o0 = wu h many (lim - i) l i o
section
variable {h : List Int → Bool} {many lim i0 k : Nat} {l o0 : List Int}
theorem FF.nat (x : FF h many lim l i0 o0) (hi : (x.i : Int) < (lim : Int)) : x.i < lim := by omega
def FF.next (x : FF h many lim l i0 o0) (hi : (x.i : Int) < (lim : Int)) (hg : (NB h many lim (l ++ [(x.i : Int)]) (x.i + 1) x.o).1 = false) : FF h many lim l i0 o0 :=
  ⟨x.i + 1, (NB h many lim (l ++ [(x.i : Int)]) (x.i + 1) x.o).2, by have := x.ge; omega, by omega, by rw [x.same, Gf (x.nat hi), if_neg (by rw [hg]; decide)]⟩
theorem FF.found (x : FF h many lim l i0 o0) (hm : ¬ l.length = many) (hi : (x.i : Int) < (lim : Int)) (hg : (NB h many lim (l ++ [(x.i : Int)]) (x.i + 1) x.o).1 = true) : NB h many lim l i0 o0 = NB h many lim (l ++ [(x.i : Int)]) (x.i + 1) x.o := by
 rw [Rx hm, x.same, Gf (x.nat hi), if_pos hg]
theorem FF.stop (x : FF h many lim l i0 o0) (hm : ¬ l.length = many) (hi : ¬ (x.i : Int) < (lim : Int)) : NB h many lim l i0 o0 = (false, x.o) := by
 rw [Rx hm, x.same, RP (by omega)]
end
attribute [local irreducible] eG cZ jR j6 eP eO eK eM eS j8 eJ j4 b8 dc jz dZ j7 nth eZ cU aV cX bodyPost Exit.then Exit.inBlock Code.wp Code.wpIn dS mz mm m5 fT mq m7 fW mW eB fO lq bW bV bodyPostM cV
attribute [local irreducible] NB wu
end Go.Proofs.YtmmcenjknimhbaaGreat
namespace Go.Proofs.YtmmcenjknimhbaaGreat
open Go Go.T
set_option maxHeartbeats 16000000
attribute [local irreducible] bl.iZ bl.fin bl.room hO nx cS bZ dK mw mA qq iK iW nQ jc lI dP rH tL jT yz td bw.kept bw.cells dy NB wu
attribute [local irreducible] eG cZ jR j6 eP eO eK eM eS j8 eJ j4 b8 dc jz dZ j7 nth eZ cU aV cX bodyPost Exit.then Exit.inBlock Code.wp Code.wpIn dS mz mm m5 fT mq m7 fW mW eB fO lq bW bV bodyPostM cV
end Go.Proofs.YtmmcenjknimhbaaGreat
namespace Go.Proofs.YtmmcenjknimhbaaGreat
open Go Go.T
section
variable {k : Nat} {c : Nat → Bool} {a : eo} {p q u v w : Int}
structure Vs (k : Nat) (c : Nat → Bool) (p q u v w : Int) : Prop where
  hp : 20 ≤ p ∧ p ≤ 30
  hq : q = 0
  hu : 40 ≤ u ∧ u ≤ 60
  hv : 10 ≤ v ∧ v ≤ 40
  hw : 5 ≤ w ∧ w ≤ 10
  l0 : 0 < k → c 0 = true → 20 ≤ v - w ∧ v - w ≤ 25
  l1 : 1 < k → c 1 = true → 10 ≤ p + u - v ∧ p + u - v ≤ 24
end
end Go.Proofs.YtmmcenjknimhbaaGreat
namespace Go.Proofs.YtmmcenjknimhbaaGreat
open Go Go.T
section
variable {y : bw} {c : Nat → Bool} {a : eo} {b t k : Nat} {s : Span}
end
end Go.Proofs.YtmmcenjknimhbaaGreat
namespace Go.Proofs.YtmmcenjknimhbaaGreat
open Go Go.T
section
variable {y : bw} {c : Nat → Bool} {a : eo} {m : List Int} {b t n : Nat} {x : Int}
theorem Tj.same {f g : eo → Int} {s s' : Span} (h : Tj y c f s) (h' : Tj y c g s') (e : ∀ a, f a = g a) : s = s' := by
 have : f = g := funext e
 subst this; exact h.one h'
end
end Go.Proofs.YtmmcenjknimhbaaGreat
namespace Go.Proofs.YtmmcenjknimhbaaGreat
open Go Go.T
section
variable {y : bw} {a : eo} {c : Nat → Bool}
end
end Go.Proofs.YtmmcenjknimhbaaGreat
namespace Go.Proofs.YtmmcenjknimhbaaGreat
open Go Go.T
end Go.Proofs.YtmmcenjknimhbaaGreat
namespace Go.Proofs.YtmmcenjknimhbaaGreat
open Go Go.T
set_option maxHeartbeats 2000000
attribute [local irreducible] eG cZ jR j6 eP eO eK eM eS j8 eJ j4 b8 dc jz dZ j7 nth eZ cU aV cX bodyPost Exit.then Exit.inBlock Code.wp Code.wpIn dS mz mm m5 fT mq m7 fW mW eB fO lq bW bV bodyPostM cV
end Go.Proofs.YtmmcenjknimhbaaGreat
namespace Go.Proofs.YtmmcenjknimhbaaGreat
open Go Go.T
set_option maxHeartbeats 4000000
attribute [local irreducible] dy
attribute [local irreducible] eG cZ jR j6 eP eO eK eM eS j8 eJ j4 b8 dc jz dZ j7 nth eZ cU aV cX bodyPost Exit.then Exit.inBlock Code.wp Code.wpIn dS mz mm m5 fT mq m7 fW mW eB fO lq bW bV bodyPostM cV
end Go.Proofs.YtmmcenjknimhbaaGreat
namespace Go.Proofs.YtmmcenjknimhbaaGreat
open Go Go.T
set_option maxHeartbeats 2000000
attribute [local irreducible] eG cZ jR j6 eP eO eK eM eS j8 eJ j4 b8 dc jz dZ j7 nth eZ cU aV cX bodyPost Exit.then Exit.inBlock Code.wp Code.wpIn dS mz mm m5 fT mq m7 fW mW eB fO lq bW bV bodyPostM cV
end Go.Proofs.YtmmcenjknimhbaaGreat
namespace Go.Proofs.YtmmcenjknimhbaaGreat
open Go Go.T
set_option maxHeartbeats 4000000
structure Vk (y : bw) (a : eo) : Prop where
  len : y.moves.length ≤ a.bM.length
  zK : a.bM.length ≤ 1000
  first : ∀ x ∈ a.first, -1000 ≤ x ∧ x ≤ 1000
  bM : ∀ x ∈ a.bM, -1000 ≤ x ∧ x ≤ 1000
theorem Vk.up {y : bw} {a : eo} (h : Vk y a) {bin time : Int} (hb : bin.toNat < a.first.length) {k : Nat} (hk : k ≤ y.moves.length) : -3000000 ≤ gG y a bin time k ∧ gG y a bin time k ≤ 3000000 := by
 have h1 := h.len
 have h2 := h.zK
 have := Nn (y := y) (bin := bin) (time := time) (B := 1000) (by omega) h.first h.bM hb k (by omega)
 omega
attribute [local irreducible] eG cZ jR j6 eP eO eK eM eS j8 eJ j4 b8 dc jz dZ j7 nth eZ cU aV cX bodyPost Exit.then Exit.inBlock Code.wp Code.wpIn dS mz mm m5 fT mq m7 fW mW eB fO lq bW bV bodyPostM cV
end Go.Proofs.YtmmcenjknimhbaaGreat
namespace Go.T
open Go Go.RowKit
section
variable {P : Program} {fr : Fr} {ops : Array Oper} {A : As} {rest : List Oper} {K : As → List (As × Fx) → Prop} {d : Nat} {t ty' : TypeId} {p : String} {e : Array Edge} [T : lQ P]
end
end Go.T
namespace Go.T
open Go Go.RowKit
section
variable {P : Program} {fr : Fr} {ops : Array Oper} {A : As} {rest : List Oper} {K : As → List (As × Fx) → Prop} {d : Nat} {t ty' : TypeId} {p : String} {e : Array Edge} [T : lQ P]
end
end Go.T
namespace Go.T
open Go Go.RowKit
section
variable {P : Program} {fr : Fr} {A : As} {Q : Exit → Act → World → Prop} {c : Code}
end
section
variable {P : Program} {fr : Fr} {ops : Array Oper} {A : As} {rest : List Oper} {K : As → List (As × Fx) → Prop} {d : Nat} {t ty' : TypeId} {p : String} {e : Array Edge} [T : lQ P]
end
end Go.T
namespace Go.T
open Go Go.RowKit
section
variable {P : Program} {A : As} {fn : Func} {n : Nat} {w0 : World} {M0 : ay} {F : List Nat} {post : List (Nat × Cont)} [T : lQ P]
end
end Go.T
namespace Go.T
open Go Go.RowKit
section
variable {P : Program} {fr : Fr} {ops : Array Oper} {A : As} {rest : List Oper} {K : As → List (As × Fx) → Prop} {d : Nat} {t ty' : TypeId} {p : String} {e : Array Edge} [T : lQ P]
end
end Go.T
namespace Go.Proofs.YtmmcenjknimhbaaGreat
open Go Go.T
set_option maxHeartbeats 8000000
section
variable {d : e9} {s : nC} {k i : Nat} {p : (List Move × List Int) × nC} {y : bw} {a : eo} {m : Move} {n : Int}
end
attribute [local irreducible] e9.D e9.Uz e9.nb e9.bs e9.first e9.yl e9.Ke e9.many e9.src e9.dst e9.NA e9.day e9.num e9.ms e9.bM e9.I0 e9.most e9.hs e9.R1 e9.Ux e9.nl e9.ls e9.J5 eU yR Bu Cw wL kY bI dL l9 OV e9.MT e9.Ln
attribute [local irreducible] eG cZ jR j6 eP eO eK eM eS j8 eJ j4 b8 dc jz dZ j7 nth eZ cU aV cX bodyPost Exit.then Exit.inBlock Code.wp Code.wpIn dS mz mm m5 fT mq m7 fW mW eB fO lq bW bV bodyPostM cV
end Go.Proofs.YtmmcenjknimhbaaGreat
namespace Go.Proofs.YtmmcenjknimhbaaGreat
open Go Go.T
set_option maxHeartbeats 8000000
structure V5 (a : eo) : Prop where
  zK : a.bM.length ≤ 1000
  first : ∀ x ∈ a.first, -1000 ≤ x ∧ x ≤ 1000
  bM : ∀ x ∈ a.bM, -1000 ≤ x ∧ x ≤ 1000
section
variable {y : bw} {a : eo} {b t k : Nat}
theorem OB (h : (!decide ((a.first.length : Int) = y.bins.length) || !decide ((a.bM.length : Int) = y.moves.length)) = false) : S5 y a := by
 rw [Bool.or_eq_false_iff, Bool.not_eq_false', Bool.not_eq_false', decide_eq_true_eq, decide_eq_true_eq] at h
 exact ⟨by omega, by omega⟩
end
attribute [local irreducible] eU
attribute [local irreducible] eG cZ jR j6 eP eO eK eM eS j8 eJ j4 b8 dc jz dZ j7 nth eZ cU aV cX bodyPost Exit.then Exit.inBlock Code.wp Code.wpIn dS mz mm m5 fT mq m7 fW mW eB fO lq bW bV bodyPostM cV
end Go.Proofs.YtmmcenjknimhbaaGreat
namespace Go.Proofs.YtmmcenjknimhbaaGreat
open Go Go.T
section
variable {d : e9} {v : Bool} {c : Nat → Bool} {y : bw} {b t k n : Nat} {l : List oc}
variable {f : Nat → Nat → Int}
end
end Go.Proofs.YtmmcenjknimhbaaGreat
namespace Go.Proofs.YtmmcenjknimhbaaGreat
open Go Go.T
def jY (y : bw) (a : eo) (b d : Nat) : List Int := (List.range (d + 1)).map fun t => fG y a b t
def hU (y : bw) (a : eo) : List (List Int) := (List.range y.bins.length).map fun b => jY y a b y.D
def E4 (y : bw) (a : eo) (d : Nat) : List (List Int) := (List.range y.bins.length).map fun b => jY y a b d
def AM (y : bw) (a : eo) (k : Nat) : List (List Int) := (List.range y.bins.length).map fun b => if b < k then jY y a b 0 else []
def xE (y : bw) (a : eo) (d k : Nat) : List (List Int) := (List.range y.bins.length).map fun b => if b < k then jY y a b d ++ [fG y a b d] else jY y a b d
def qN (y : bw) (a : eo) (d i b : Nat) : Int := fG y a b d + cm (fun i => if (nth y.moves i).day = d then x8 y a.bM b i else 0) i
def oA (y : bw) (a : eo) (d i : Nat) : List (List Int) := (List.range y.bins.length).map fun b => jY y a b d ++ [qN y a d i b]
def pJ (y : bw) (a : eo) (d i b : Nat) : Int := qN y a d i b - ind ((nth y.moves i).src = b) * nth a.bM i
def ur (y : bw) (a : eo) (d i : Nat) : List (List Int) := (List.range y.bins.length).map fun b => jY y a b d ++ [pJ y a d i b]
section
variable {y : bw} {a : eo} {b d i k : Nat} {f g : Nat → List Int} {n : Nat}
theorem vL (h : k < n) (hf : ∀ b, b < n → b ≠ k → f b = g b) : ((List.range n).map f).set k (g k) = (List.range n).map g := by
 refine C6 (by rw [List.length_set, List.length_map, List.length_map]) fun j hj => ?_
 rw [List.length_set, List.length_map, List.length_range] at hj
 rw [nD (by rw [List.length_map, List.length_range]; exact hj), jK _ hj]
 by_cases e : k = j
 ·subst e; rw [if_pos rfl, jK _ hj]
 rw [if_neg e, jK _ hj]; exact hf j hj (Ne.symm e)
theorem lg : (jY y a b d).length = d + 1 := by unfold jY; rw [List.length_map, List.length_range]
theorem vC (h : k ≤ d) : nth (jY y a b d) k = fG y a b k := by unfold jY; exact jK _ (by omega)
theorem MH : jY y a b d ++ [fG y a b (d + 1)] = jY y a b (d + 1) := by
 unfold jY; rw [List.range_succ (n := d + 1), List.map_append]; rfl
theorem MP (hr : y.dj) : [nth a.first b] = jY y a b 0 := by
 show _ = [fG y a b 0]; rw [Cp hr]
theorem MF : List.replicate y.bins.length ([] : List Int) = AM y a 0 := by
 refine C6 (by unfold AM; rw [List.length_replicate, List.length_map, List.length_range]) fun j hj => ?_
 rw [List.length_replicate] at hj
 unfold AM
 rw [jK _ hj, if_neg (Nat.not_lt_zero _), cF (by rw [List.length_replicate]; exact hj), List.getElem_replicate]
theorem PA : (AM y a k).length = y.bins.length := by unfold AM; rw [List.length_map, List.length_range]
theorem Nl (hr : y.dj) (h : k < y.bins.length) : (AM y a k).set k [nth a.first k] = AM y a (k + 1) := by
 have := vL (f := fun b => if b < k then jY y a b 0 else []) (g := fun b => if b < k + 1 then jY y a b 0 else []) h fun b _ hb => by
  by_cases e : b < k
  ·rw [if_pos e, if_pos (by omega)]
  rw [if_neg e, if_neg (by omega)]
 rw [if_pos (Nat.lt_succ_self k), ← MP hr] at this
 exact this
theorem PJ (h : y.bins.length ≤ k) : AM y a k = E4 y a 0 := by
 unfold AM E4
 refine List.map_congr_left fun b hb => ?_
 rw [if_pos (by have := List.mem_range.1 hb; omega)]
theorem LK : E4 y a d = xE y a d 0 := by
 unfold E4 xE
 exact List.map_congr_left fun b _ => by rw [if_neg (Nat.not_lt_zero _)]
theorem PF : (xE y a d k).length = y.bins.length := by unfold xE; rw [List.length_map, List.length_range]
theorem O0 (h : k < y.bins.length) : nth (xE y a d k) k = jY y a k d := by
 unfold xE; rw [jK _ h, if_neg (Nat.lt_irrefl _)]
theorem OX (h : k < y.bins.length) : (xE y a d k).set k (jY y a k d ++ [fG y a k d]) = xE y a d (k + 1) := by
 have := vL (f := fun b => if b < k then jY y a b d ++ [fG y a b d] else jY y a b d) (g := fun b => if b < k + 1 then jY y a b d ++ [fG y a b d] else jY y a b d) h fun b _ hb => by
  by_cases e : b < k
  ·rw [if_pos e, if_pos (by omega)]
  rw [if_neg e, if_neg (by omega)]
 rw [if_pos (Nat.lt_succ_self k)] at this
 exact this
theorem Oy (h : y.bins.length ≤ k) : xE y a d k = oA y a d 0 := by
 unfold xE oA
 refine List.map_congr_left fun b hb => ?_
 rw [if_pos (by have := List.mem_range.1 hb; omega)]
 show _ = _ ++ [fG y a b d + 0]
 rw [Int.add_zero]
theorem NP : (oA y a d i).length = y.bins.length := by unfold oA; rw [List.length_map, List.length_range]
theorem Gc : (ur y a d i).length = y.bins.length := by unfold ur; rw [List.length_map, List.length_range]
theorem Fj (h : b < y.bins.length) : nth (oA y a d i) b = jY y a b d ++ [qN y a d i b] := by unfold oA; rw [jK _ h]
theorem Gv (h : b < y.bins.length) : nth (ur y a d i) b = jY y a b d ++ [pJ y a d i b] := by unfold ur; rw [jK _ h]
theorem GG {l : List Int} {x : Int} (h : k = l.length) : nth (l ++ [x]) k = x := by subst h; exact sN (i := 0)
theorem Ge {l : List Int} {x z : Int} (h : k = l.length) : (l ++ [x]).set k z = l ++ [z] := by
 subst h; rw [List.set_append_right _ _ (Nat.le_refl _), Nat.sub_self]; rfl
theorem R9 (h : b < y.bins.length) : (nth (oA y a d i) b).length = d + 2 ∧ nth (nth (oA y a d i) b) (d + 1) = qN y a d i b := by
 rw [Fj h]
 exact ⟨by rw [List.length_append, lg]; rfl, GG lg.symm⟩
theorem TD (h : b < y.bins.length) : (nth (ur y a d i) b).length = d + 2 ∧ nth (nth (ur y a d i) b) (d + 1) = pJ y a d i b := by
 rw [Gv h]
 exact ⟨by rw [List.length_append, lg]; rfl, GG lg.symm⟩
theorem Pg (h : ¬ (nth y.moves i).day = d) : oA y a d i = oA y a d (i + 1) := by
 unfold oA
 refine List.map_congr_left fun b _ => ?_
 congr 2
 show _ = fG y a b d + (cm _ i + (if _ then _ else _))
 rw [if_neg h, Int.add_zero]; rfl
theorem Qz (hb : b < y.bins.length) (h : (nth y.moves i).src = b) : (oA y a d i).set b ((nth (oA y a d i) b).set (d + 1) (qN y a d i b - nth a.bM i)) = ur y a d i := by
 have := vL (f := fun b => jY y a b d ++ [qN y a d i b]) (g := fun b => jY y a b d ++ [pJ y a d i b]) hb fun c _ hc => by
  congr 2
  unfold pJ; rw [k7 (by rw [h]; omega)]; omega
 rw [Fj hb, Ge lg.symm]
 have e : pJ y a d i b = qN y a d i b - nth a.bM i := by unfold pJ; rw [lW h]; omega
 rw [← e]; exact this
theorem N8 (h : (nth y.moves i).src = -1) : oA y a d i = ur y a d i := by
 unfold oA ur
 refine List.map_congr_left fun b _ => ?_
 congr 2
 unfold pJ; rw [k7 (by rw [h]; omega)]; omega
theorem D6 (h : (nth y.moves i).day = d) : pJ y a d i b + ind ((nth y.moves i).dst = b) * nth a.bM i = qN y a d (i + 1) b := by
 show _ = fG y a b d + (cm _ i + (if _ then _ else _))
 rw [if_pos h]
 unfold pJ qN x8
 rw [Int.sub_mul]; omega
theorem RQ (hd : (nth y.moves i).day = d) (hb : b < y.bins.length) (h : (nth y.moves i).dst = b) : (ur y a d i).set b ((nth (ur y a d i) b).set (d + 1) (pJ y a d i b + nth a.bM i)) = oA y a d (i + 1) := by
 have := vL (f := fun b => jY y a b d ++ [pJ y a d i b]) (g := fun b => jY y a b d ++ [qN y a d (i + 1) b]) hb fun c _ hc => by
  congr 2
  rw [← D6 hd, k7 (by rw [h]; omega)]; omega
 rw [Gv hb, Ge lg.symm]
 have e : qN y a d (i + 1) b = pJ y a d i b + nth a.bM i := by rw [← D6 hd, lW h]; omega
 rw [← e]; exact this
theorem PG (hd : (nth y.moves i).day = d) (h : (nth y.moves i).dst = -1) : ur y a d i = oA y a d (i + 1) := by
 unfold oA ur
 refine List.map_congr_left fun b _ => ?_
 congr 2
 rw [← D6 hd, k7 (by rw [h]; omega)]; omega
theorem Qt (h : i = y.moves.length) : oA y a d i = E4 y a (d + 1) := by
 subst h
 unfold oA E4
 refine List.map_congr_left fun b _ => ?_
 have e : qN y a d y.moves.length b = fG y a b (d + 1) := MD.symm
 rw [e, MH]
theorem QN (h : d = y.D) : E4 y a d = hU y a := by subst h; rfl
structure uY (y : bw) (a : eo) : Prop where
  lens : S5 y a
  first : ∀ x ∈ a.first, 0 ≤ x ∧ x ≤ 300
  bM : ∀ x ∈ a.bM, 0 ≤ x ∧ x ≤ 300
theorem KA (hr : y.dj) (h : uY y a) (hi : i < y.moves.length) : -300 ≤ x8 y a.bM b i ∧ x8 y a.bM b i ≤ 300 := by
 have hm := h.bM _ (bL (show i < a.bM.length by rw [h.lens.bM]; exact hi))
 have hne := (hr.move _ (bL hi)).2.2.2.1
 unfold x8
 by_cases e1 : (nth y.moves i).dst = b
 ·rw [lW e1, k7 (fun e2 => hne (e2.trans e1.symm))]; omega
 rw [k7 e1]
 by_cases e2 : (nth y.moves i).src = b
 ·rw [lW e2]; omega
 rw [k7 e2]; omega
theorem HW (hr : y.dj) (h : uY y a) (hb : b < y.bins.length) : -3000 ≤ fG y a b d ∧ fG y a b d ≤ 3300 := by
 have h1 := h.first _ (bL (show b < a.first.length by rw [h.lens.first]; exact hb))
 have h2 := vv (f := fun i => if (nth y.moves i).day < d then x8 y a.bM b i else 0) (b := 300) (n := y.moves.length) fun i hi => by
  have := KA (b := b) hr h hi
  split <;> omega
 have h3 := hr.moves
 unfold fG
 omega
theorem J2 (hr : y.dj) (h : uY y a) (hb : b < y.bins.length) (hi : i ≤ y.moves.length) : -6000 ≤ qN y a d i b ∧ qN y a d i b ≤ 6300 := by
 have h1 := HW (d := d) hr h hb
 have h2 := vv (f := fun i => if (nth y.moves i).day = d then x8 y a.bM b i else 0) (b := 300) (n := i) fun j hj => by
  have := KA (b := b) (i := j) hr h (by omega)
  split <;> omega
 have h3 := hr.moves
 unfold qN
 omega
theorem RL (hr : y.dj) (h : uY y a) (hb : b < y.bins.length) (hi : i < y.moves.length) : -6300 ≤ pJ y a d i b ∧ pJ y a d i b ≤ 6300 := by
 have h1 := J2 (d := d) (i := i) hr h hb (by omega)
 have hm := h.bM _ (bL (show i < a.bM.length by rw [h.lens.bM]; exact hi))
 unfold pJ
 by_cases e2 : (nth y.moves i).src = b
 ·rw [lW e2]; omega
 rw [k7 e2]; omega
end
end Go.Proofs.YtmmcenjknimhbaaGreat
namespace Go.T
open Go Go.RowKit
def T4 (tg o n r : Nat) (_ : World) (M : ay) (v : Value) : Prop := ∃ b o' c, M b = some tg ∧ v = .slice (some ⟨b, o', none⟩) n c ∧ n + r ≤ c ∧ c ≤ maxLen ∧ (0 < n + r → o' = o)
def Ty.win (tg o n r : Nat) : Ty := ⟨T4 tg o n r, [tg], [], fun le hk _ ⟨b, o', c, h, e, h1, h2, h3⟩ => ⟨b, o', c, (le.own b tg h (hk tg (by simp))).1, e, h1, h2, h3⟩, true, fun _ ⟨_, _, _, _, e, _⟩ => by rw [e]; rfl⟩
section
variable {P : Program} {fr : Fr} {ops : Array Oper} {A : As} {rest : List Oper} {K : As → List (As × Fx) → Prop} {d : Nat} {t ty' : TypeId} {p : String} {e : Array Edge} [T : lQ P]
theorem IM {w : World} {M : ay} {l : List Ty} {vs : List Value} (k : Nat) (h : cD w M l vs) : cD w M (l.take k) (vs.take k) := by
  induction k generalizing l vs with
  | zero => exact trivial
  | succ k ih =>
    match l, vs, h with
    | [], [], _ => exact trivial
    | _ :: _, _ :: _, h => exact ⟨h.1, ih h.2⟩
end
end Go.T
namespace Go.T
open Go Go.RowKit
section
variable {P : Program} {fr : Fr} {ops : Array Oper} {A : As} {rest : List Oper} {K : As → List (As × Fx) → Prop} {d : Nat} {t ty' : TypeId} {p : String} {e : Array Edge} [T : lQ P]
end
end Go.T
namespace Go.T
open Go Go.RowKit
section
variable {α : Type}
theorem n7 {E : El α} {T J : Nat} {q : List (List α)} : (∀ u ∈ bp (q.map fun x => Ty.mB E T J x), u = J) ∧ ∀ u ∈ bU (q.map fun x => Ty.mB E T J x), u = J := by
 constructor <;>
 ·intro u hu
  simp only [bp, bU, List.mem_flatMap, List.mem_map] at hu
  obtain ⟨t, ⟨x, _, rfl⟩, hu⟩ := hu
  simpa [Ty.mB] using hu
def Uy (E : El α) (T2 T J : Nat) (q : List (List α)) (w : World) (M : ay) (t : Nat) : Prop :=
  ∃ b cs, M b = some t ∧ w.heap[b]? = some (.cells cs T2 (0, 0)) ∧ cD w M (q.map fun x => Ty.mB E T J x) (cs.toList.take q.length) ∧ Kg E.size (cs.toList.take q.length)
def Cont.mx (E : El α) (T2 T J : Nat) (q : List (List α)) : Cont :=
  { den := Uy E T2 T J q, deps := [J], cdeps := [J]
    mono := fun le hk hs hst hkt ⟨b, cs, h1, h2, h4, h5⟩ => let ⟨a, c⟩ := le.own b _ h1 hkt
      ⟨b, cs, a, (c hst).trans h2, bY le (fun u hu => by rw [n7.1 u hu]; exact hk J (by simp)) (fun u hu => by rw [n7.2 u hu]; exact hs J (by simp)) h4, h5⟩ }
theorem Cont.kK {E : El α} {T2 T J : Nat} {q q' : List (List α)} (h : q = q') : (Cont.mx E T2 T J q).Sub (Cont.mx E T2 T J q') := h ▸ Cont.aG _
def TU (size t n i : Nat) (w : World) (M : ay) (v : Value) : Prop :=
  ∀ (g e0 : Nat), kU size v = some (g, e0) → ∃ (b : Nat) (cs : Array Value) (T2 : Nat), M b = some t ∧ w.heap[b]? = some (.cells cs T2 (0, 0)) ∧ ∀ (j : Nat) (u : Value) (e1 : Nat), (cs.toList.take n)[j]? = some u → kU size u = some (g, e1) → j = i ∧ (roomy v = true → e1 ≤ e0)
def Vj (E : El α) (T t J n i : Nat) (xs : List α) (w : World) (M : ay) (v : Value) : Prop := DU E T J xs w M v ∧ TU E.size t n i w M v
def Ty.mv (E : El α) (T t J n i : Nat) (xs : List α) : Ty :=
  ⟨Vj E T t J n i xs, [t, J], [t, J], fun le hk hs ⟨h, h'⟩ => ⟨(Ty.mB E T J xs).mono le (fun u hu => hk u (by simp [Ty.mB] at hu ⊢; exact .inr hu)) (fun u hu => hs u (by simp [Ty.mB] at hu ⊢; exact .inr hu)) h, fun g e0 he =>
    let ⟨b, cs, T2, h1, h2, h3⟩ := h' g e0 he
    let ⟨a, c⟩ := le.own b t h1 (hk t (by simp))
    ⟨b, cs, T2, a, (c (hs t (by simp))).trans h2, h3⟩⟩, true, fun ho h => (Ty.mB E T J xs).isOne ho h.1⟩
def VN (E : El α) (T t J i : Nat) (xs : List α) (w : World) (M : ay) (v : Value) : Prop := DU E T J xs w M v ∧ ∃ (b : Nat) (cs : Array Value) (T2 : Nat), M b = some t ∧ w.heap[b]? = some (.cells cs T2 (0, 0)) ∧ cs.toList[i]? = some v
def Ty.ml (E : El α) (T t J i : Nat) (xs : List α) : Ty :=
  ⟨VN E T t J i xs, [t, J], [t, J], fun le hk hs ⟨h, b, cs, T2, h1, h2, h3⟩ => ⟨(Ty.mB E T J xs).mono le (fun u hu => hk u (by simp [Ty.mB] at hu ⊢; exact .inr hu)) (fun u hu => hs u (by simp [Ty.mB] at hu ⊢; exact .inr hu)) h,
    let ⟨a, c⟩ := le.own b t h1 (hk t (by simp))
    ⟨b, cs, T2, a, (c (hs t (by simp))).trans h2, h3⟩⟩, true, fun ho h => (Ty.mB E T J xs).isOne ho h.1⟩
def Vi (E : El α) (T t J i : Nat) (xs : List α) (k : Nat) (w : World) (M : ay) (v : Value) : Prop := ∃ (u : Value) (g off n c : Nat), VN E T t J i xs w M u ∧ u = .slice (some ⟨g, off, none⟩) n c ∧ v = .pointer (some ⟨g, off + k, none⟩)
def Ty.me (E : El α) (T t J i : Nat) (xs : List α) (k : Nat) : Ty :=
  ⟨Vi E T t J i xs k, [t, J], [t, J], fun le hk hs ⟨u, g, off, n, c, h, e⟩ => ⟨u, g, off, n, c, (Ty.ml E T t J i xs).mono le hk hs h, e⟩, true, fun _ ⟨_, _, _, _, _, _, _, e⟩ => by rw [e]; rfl⟩
end
section
variable {P : Program} {fr : Fr} {ops : Array Oper} {A : As} {rest : List Oper} {K : As → List (As × Fx) → Prop} {d : Nat} {t ty' : TypeId} {p : String} {e : Array Edge} [T : lQ P]
variable {α : Type} {E : El α} {Tb J tg i : Nat} {q : List (List α)} {xs ys : List α}
omit T in
theorem GO {w : World} {M : ay} {vs : List Value} (hd : cD w M (q.map fun x => Ty.mB E Tb J x) vs) {j : Nat} {u : Value} {g e1 : Nat} (hj : vs[j]? = some u) (hu : kU E.size u = some (g, e1)) : M g = some J := by
 have hlen := cI hd
 have hlt := (List.getElem?_eq_some_iff.1 hj).1
 obtain ⟨x, hx, hdx⟩ := dQ hd j (Ty.mB E Tb J (q[j]'(by simpa [hlen] using hlt))) (by rw [List.getElem?_map, List.getElem?_eq_getElem (by simpa [hlen] using hlt)]; rfl)
 rw [hj] at hx
 injection hx with hx
 subst hx
 rcases hdx with ⟨_, e⟩ | ⟨g', off, c, cur, e, hg, _⟩
 ·rw [e] at hu; simp [kU] at hu
 rw [e] at hu
 simp only [kU, Option.some.injEq, Prod.mk.injEq] at hu
 rw [← hu.1]; exact hg
omit T in
theorem NH {x : Operand} {off T2 : Nat} (hx : A.op fr x = .ptr tg off) (hc : A.tag tg = some (.mx E T2 Tb J q)) (h1 : ga tg) {a : Act} {w : World} {M : ay} {rs : List Nat} (wf : Wf w M) (hr : ∀ c ∈ bq x, c ∈ rs) (hrd : ∀ c ∈ rs, c < fr.n → (A.slots c).den w M (a.tmps.getD c undef)) (htg : ∀ y ∈ A.tags, y.1 ∈ [tg] → y.2.den w M y.1) :
 ∃ b cs, a.eval x = .pointer (some ⟨b, off, none⟩) ∧ M b = some tg ∧ w.heap[b]? = some (.cells cs T2 (0, 0)) ∧ cD w M (q.map fun x => Ty.mB E Tb J x) (cs.toList.take q.length) ∧ Kg E.size (cs.toList.take q.length) := by
 have hxd := cA hr hrd
 rw [hx] at hxd
 obtain ⟨b, e2, e1⟩ := hxd
 obtain ⟨b', cs, h2, h3⟩ := htg _ (dD hc) (by simp)
 obtain ⟨u, rfl⟩ : ∃ u, tg = u + 1 := ⟨tg - 1, by have := h1.1; omega⟩
 have : b = b' := wf.inj b b' u (by have := h1.2; omega) e2 h2
 subst this
 exact ⟨b, cs, e1, e2, h3⟩
omit T in
theorem OL {T2 : Nat} {w : World} {M : ay} {v : Value} (wf : Wf w M) (h1 : ga tg) (hi : i < q.length) (hc : Uy E T2 Tb J q w M tg) (hv : ∃ (b : Nat) (cs : Array Value) (T2 : Nat), M b = some tg ∧ w.heap[b]? = some (.cells cs T2 (0, 0)) ∧ cs.toList[i]? = some v) : TU E.size tg q.length i w M v := fun g e0 he => by
 obtain ⟨b, cs, g1, g2, g3, g4⟩ := hc
 obtain ⟨b', cs', T', k1, k2, k3⟩ := hv
 obtain ⟨u, rfl⟩ : ∃ u, tg = u + 1 := ⟨tg - 1, by have := h1.1; omega⟩
 have : b = b' := wf.inj b b' u (by have := h1.2; omega) g1 k1
 subst this
 rw [g2] at k2
 injection k2 with k2
 injection k2 with k2 _
 subst k2
 have hv' : (cs.toList.take q.length)[i]? = some v := by rw [List.getElem?_take, if_pos hi]; exact k3
 refine ⟨b, cs, T2, g1, g2, fun j u e1 hj hju => ?_⟩
 have hij := g4 j i u v g e1 e0 hj hv' hju he
 subst hij
 rw [hv'] at hj
 injection hj with hj
 subst hj
 rw [he] at hju
 injection hju with hju
 injection hju with _ hju
 exact ⟨rfl, fun _ => by omega⟩
theorem s7 [Inhabited α] {x : Operand} {off T2 : Nat} {ti : TI} (i : Nat) (hx : A.op fr x = .ptr tg off) (he : off = i) (hc : A.tag tg = some (.mx E T2 Tb J q)) (h1 : ga tg) (hT : T.tab[ty']? = some ti) (ha : ti.k.agg = false) (hi : i < q.length)
 (h : aV P fr ops rest (A.set d (.ml E Tb tg J i (nth q i))) fun A' l => K A' ((A, { d := some d, ty := .ml E Tb tg J i (nth q i), rs := bq x, rt := [tg] }) :: l)) : aV P fr ops (⟨some d, .load ty' x, t, p, e, none⟩ :: rest) A K :=
 bC (bP rfl rfl fun a w M wf hr ht => by
  subst he
  obtain ⟨b, cs, e1, e2, h3, h4, h5⟩ := NH hx hc h1 wf (fun _ h => h) hr ht
  obtain ⟨v, hv, hdv⟩ := dQ h4 off (Ty.mB E Tb J (nth q off)) (by rw [List.getElem?_map, List.getElem?_eq_getElem hi, cF hi]; rfl)
  rw [List.getElem?_take, if_pos hi] at hv
  have hcell : w.cell? ⟨b, off, none⟩ = some v := by simpa [World.cell?, h3] using hv
  exact ⟨v, by simp [execOp, e1, jN hT ha hcell], hdv, b, cs, T2, e2, h3, hv⟩) h
theorem ny [Inhabited α] {x y : Operand} {kd : IntKind} {j : Nat} {ti te : TI} {el : Nat} (hx : A.op fr x = .ml E Tb tg J i xs) (hy : A.op fr y = .int kd j) (hT : T.tab[ty']? = some ti) (hk : ti.k = .slice el) (hE : T.tab[el]? = some te) (hj : j < xs.length)
 (h : aV P fr ops rest (A.set d (.me E Tb tg J i xs (j * te.size))) fun A' l' => K A' ((A, { d := some d, ty := .me E Tb tg J i xs (j * te.size), rs := bq x ++ bq y }) :: l')) : aV P fr ops (⟨some d, .indexAddr ty' x y, t, p, e, none⟩ :: rest) A K :=
 bC (bP rfl rfl fun a w M _ hr _ => by
  obtain ⟨hdx, hdy⟩ := op2 hr
  rw [hx] at hdx; rw [hy] at hdy
  have ey : a.eval y = .int kd j := hdy
  obtain ⟨h1, h2⟩ := hdx
  have h1' := h1
  rcases h1 with ⟨h0, _⟩ | ⟨g, off, c, cur, ex, hg, hh, hn, _, _, hd⟩
  ·subst h0; simp at hj
  exact ⟨_, by simp only [execOp, ex, ey, Sem.run_bind, iL hT hk hE (Int.natCast_nonneg j) (show (j : Int).toNat < xs.length from hj)]; rfl, _, g, off, xs.length, c, ⟨h1', h2⟩, ex, by simp⟩) h
theorem w6 [Inhabited α] {x : Operand} {k j o : Nat} {ti : TI} {ty : Ty} (hx : A.op fr x = .me E Tb tg J i xs k) (hk : k = j * E.size + o) (hT : T.tab[ty']? = some ti) (ha : ti.k.agg = false) (hj : j < xs.length) (hl : (E.tys (nth xs j))[o]? = some ty)
 (h : aV P fr ops rest (A.set d ty) fun A' l => K A' ((A, { d := some d, ty := ty, rs := bq x }) :: l)) : aV P fr ops (⟨some d, .load ty' x, t, p, e, none⟩ :: rest) A K :=
 bC (bP rfl rfl fun a w M wf hr ht => by
  have hdx := cA (x := x) (fun _ h => h) hr
  rw [hx] at hdx
  obtain ⟨u, g, off, n, c, ⟨h1, _⟩, eu, ex⟩ := hdx
  rcases h1 with ⟨h0, _⟩ | ⟨g', off', c', cur, ex', hg, hh, hn, _, _, hd⟩
  ·subst h0; simp at hj
  rw [eu] at ex'
  simp only [Value.slice.injEq, Option.some.injEq, Addr.mk.injEq, and_true] at ex'
  obtain ⟨⟨rfl, rfl⟩, rfl, rfl⟩ := ex'
  obtain ⟨v, hv, hdv⟩ := L7 hh hd hj hl
  rw [Nat.add_assoc, ← hk] at hv
  exact ⟨v, by simp [execOp, ex, jN hT ha hv], hdv⟩) h
theorem Fg {x y : Operand} {st el T2 : Nat} {ti te : TI} (hi0 : i < q.length) (hx : A.op fr x = .ml E el tg J i xs) (hy : A.op fr y = .sl E ys) (hc : A.tag tg = some (.mx E T2 el J q)) (h1 : ga tg) (hJ : 4096 ≤ J) (hp : fr.pass.contains J = false) (hpos : 0 < ys.length) (hT : T.tab[st]? = some ti) (hk : ti.k = .slice el) (hE : T.tab[el]? = some te) (hs : te.size = E.size) (hz : te.zero.length = te.size) (h0 : 0 < te.size)
    (hlen : (xs.length + ys.length) * te.bytes ≤ 140737488355328) (hlen' : xs.length + ys.length ≤ 9223372036854775807)
    (h : aV P fr ops rest (A.after { d := some d, ty := .mv E el tg J q.length i (xs ++ ys), S := [tg, J], sets := [(tg, .mx E T2 el J q)], rs := bq x ++ bq y, rt := [tg] }) fun A' l' => K A' ((A, { d := some d, ty := .mv E el tg J q.length i (xs ++ ys), S := [tg, J], sets := [(tg, .mx E T2 el J q)], rs := bq x ++ bq y, rt := [tg] }) :: l')) :
    aV P fr ops (⟨some d, .call ⟨.builtin .append, #[x, y], #[st, st]⟩, t, p, e, none⟩ :: rest) A K := by
  refine ⟨_, iD rfl rfl (by simp) (by simp; exact ⟨h1.1, by omega⟩) (by simp) fun a w M wf hr htg => ?_, h⟩
  obtain ⟨hdx, hdy⟩ := op2 hr
  rw [hx] at hdx; rw [hy] at hdy
  obtain ⟨hrow, hlk⟩ := hdx
  have hown : TU E.size tg q.length i w M (a.eval x) := OL wf h1 hi0 (htg _ (dD hc) (by simp)) hlk
  obtain ⟨b, cs0, hb, hhb, hvals, hap⟩ := htg _ (dD hc) (by simp)
  have ownb : ∀ (g e0 : Nat), kU E.size (a.eval x) = some (g, e0) → ∀ (j : Nat) (u : Value) (e1 : Nat), (cs0.toList.take q.length)[j]? = some u → kU E.size u = some (g, e1) → j = i ∧ (roomy (a.eval x) = true → e1 ≤ e0) := fun g e0 he => by
    obtain ⟨b', es', T', g1, g2, g3⟩ := hown g e0 he
    obtain ⟨u', hu'⟩ : ∃ u, tg = u + 1 := ⟨tg - 1, by omega⟩
    have : b = b' := by
      have hb' : M b = some (u' + 1) := hu' ▸ hb
      have g1' : M b' = some (u' + 1) := hu' ▸ g1
      exact wf.inj b b' u' (by omega) hb' g1'
    subst this
    rw [hhb] at g2
    injection g2 with g2
    injection g2 with g2 _
    subst g2
    exact g3
  obtain ⟨_, D, _, hD, hkd, _⟩ := dM hT
  rw [hk] at hkd
  cases D <;> simp only [TK.of, reduceCtorEq, TK.slice.injEq] at hkd
  subst hkd
  rename_i el
  obtain ⟨ii, _, hi, _, _, hsz, hby, hze⟩ := dM hE
  obtain ⟨zz, hiz, hzc⟩ : ∃ z, ii.zero = some z ∧ z.cells.size = ii.size := by
    cases hiz : ii.zero with
    | none => rw [hiz] at hze; rw [← hze] at hz; simp at hz; omega
    | some z => rw [hiz] at hze; exact ⟨z, rfl, by simp at hze; rw [hsz, ← hz, ← hze]; simp⟩
  obtain ⟨ad, c', ey, hc1, hc2, hpp⟩ := hdy
  obtain ⟨b', off', rfl, hp'⟩ := hpp hpos
  obtain ⟨news, hn1, hn2, hn3⟩ := xG hp' _ (Nat.le_refl _)
  rw [List.take_length] at hn2
  have hnl : news.length = ys.length * ii.size := by rw [hn1, c7, hsz, hs]
  have hnews : ∀ j u, news[j]? = some u → w.cell? ((⟨b', off', none⟩ : Addr).add j) = some u := fun j u hj => by rw [Addr.add_lit]; exact hn3 j u hj
  have hones := sX hn2 (kW E ys)
  have hesz : E.size = ii.size := by rw [hsz, hs]
  -- behind a growth
  have grown : ∀ (olds : List Value) (cap : Nat), cD w M (xs.flatMap E.tys) olds → cap < xs.length + ys.length →
      (Builtin.append_ #[st, st] t #[a.eval x, a.eval y]).run P w = .ok (.slice (some ⟨w.heap.size, 0, none⟩) (xs.length + ys.length) (grownCap w (xs.length + ys.length) cap el)) (w.drew.alloc (.cells (olds.toArray ++ news.toArray ++ Builtin.zeroCells zz.cells (grownCap w (xs.length + ys.length) cap el - (xs.length + ys.length))) el)) →
      ∃ v w', (execOp a.eval ⟨some d, .call ⟨.builtin .append, #[x, y], #[st, st]⟩, t, p, e, none⟩).run P w = .ok (.value v) w' ∧ Fx.left { d := some d, ty := .mv E el tg J q.length i (xs ++ ys), S := [tg, J], sets := [(tg, .mx E T2 el J q)], rs := bq x ++ bq y, rt := [tg] } w M w' v := by
    intro olds cap hdo hcap hrun
    have holen : olds.length = xs.length * ii.size := by rw [cI hdo, c7, hesz]
    have hge := grownCap_ge w (xs.length + ys.length) cap el
    have hcm : grownCap w (xs.length + ys.length) cap el ≤ maxLen := grownCap_le_maxLen w (xs.length + ys.length) cap el (by simp only [maxLen]; omega)
    have hsize : (w.drew.alloc (.cells (olds.toArray ++ news.toArray ++ Builtin.zeroCells zz.cells (grownCap w (xs.length + ys.length) cap el - (xs.length + ys.length))) el)).heap.size = w.heap.size + 1 := by simp
    have hold : ∀ b2, b2 < w.heap.size → (w.drew.alloc (.cells (olds.toArray ++ news.toArray ++ Builtin.zeroCells zz.cells (grownCap w (xs.length + ys.length) cap el - (xs.length + ys.length))) el)).heap[b2]? = w.heap[b2]? := fun b2 h => Below.heap_alloc w.drew _ b2 h
    have hnew : (w.drew.alloc (.cells (olds.toArray ++ news.toArray ++ Builtin.zeroCells zz.cells (grownCap w (xs.length + ys.length) cap el - (xs.length + ys.length))) el)).heap[w.heap.size]? = some (.cells (olds.toArray ++ news.toArray ++ Builtin.zeroCells zz.cells (grownCap w (xs.length + ys.length) cap el - (xs.length + ys.length))) el (0, 0)) := gu w.drew _
    have hos : (w.drew.alloc (.cells (olds.toArray ++ news.toArray ++ Builtin.zeroCells zz.cells (grownCap w (xs.length + ys.length) cap el - (xs.length + ys.length))) el)).os = w.os ∧ (w.drew.alloc (.cells (olds.toArray ++ news.toArray ++ Builtin.zeroCells zz.cells (grownCap w (xs.length + ys.length) cap el - (xs.length + ys.length))) el)).tape = w.tape ∧ (w.drew.alloc (.cells (olds.toArray ++ news.toArray ++ Builtin.zeroCells zz.cells (grownCap w (xs.length + ys.length) cap el - (xs.length + ys.length))) el)).output = w.output := ⟨rfl, rfl, rfl⟩
    have hcs : (olds.toArray ++ news.toArray ++ Builtin.zeroCells zz.cells (grownCap w (xs.length + ys.length) cap el - (xs.length + ys.length))).size = grownCap w (xs.length + ys.length) cap el * ii.size := by
      simp only [Array.size_append, List.size_toArray, size_zeroCells, hzc, holen, hnl, ← Nat.add_mul]
      congr 1
      omega
    have htk : ((olds.toArray ++ news.toArray ++ Builtin.zeroCells zz.cells (grownCap w (xs.length + ys.length) cap el - (xs.length + ys.length))).toList.drop 0).take ((xs ++ ys).length * E.size) = olds ++ news := by
      rw [List.drop_zero]
      simp only [Array.toList_append]
      rw [List.take_left' (by rw [List.length_append, holen, hnl, List.length_append, hesz, Nat.add_mul])]
    generalize hw' : (w.drew.alloc (.cells (olds.toArray ++ news.toArray ++ Builtin.zeroCells zz.cells (grownCap w (xs.length + ys.length) cap el - (xs.length + ys.length))) el)) = w' at *
    generalize hcu : (olds.toArray ++ news.toArray ++ Builtin.zeroCells zz.cells (grownCap w (xs.length + ys.length) cap el - (xs.length + ys.length))) = cu at *
    have le : Le (· ∈ [tg, J]) (· ∈ ([] : List Nat)) w M w' (fun b2 => if b2 = w.heap.size then some J else M b2) :=
      ⟨by omega, hos.1, hos.2.1, hos.2.2, fun b2 hb2 hm => ⟨by rw [if_neg (by omega)]; exact hm, hold b2 hb2⟩, fun b2 u hm _ => by
        have := wf.lt b2 u hm
        exact ⟨by rw [if_neg (by omega)]; exact hm, fun _ => hold b2 this⟩⟩
    have le0 : Le (· ∈ ([] : List Nat)) (· ∈ ([] : List Nat)) w M w' (fun b2 => if b2 = w.heap.size then some J else M b2) :=
      ⟨by omega, hos.1, hos.2.1, hos.2.2, fun b2 hb2 hm => ⟨by rw [if_neg (by omega)]; exact hm, hold b2 hb2⟩, fun b2 u hm _ => by
        have := wf.lt b2 u hm
        exact ⟨by rw [if_neg (by omega)]; exact hm, fun _ => hold b2 this⟩⟩
    have wf' : Wf w' (fun b2 => if b2 = w.heap.size then some J else M b2) := by
      refine ⟨fun b2 u hm => ?_, fun b2 b3 u ht1 hm hm' => ?_⟩
      · split at hm
        · omega
        · have := wf.lt b2 u hm; omega
      · split at hm
        · injection hm with hm; omega
        · split at hm'
          · injection hm' with hm'; omega
          · exact wf.inj b2 b3 u ht1 hm hm'
    have hblt := wf.lt b tg hb
    refine ⟨.slice (some ⟨w.heap.size, 0, none⟩) (xs.length + ys.length) (grownCap w (xs.length + ys.length) cap el), w', by simp [execOp, resolve, invoke, builtin, hrun], _, wf', le, ⟨.inr ⟨w.heap.size, 0, grownCap w (xs.length + ys.length) cap el, cu, by rw [List.length_append], by simp, hnew, by rw [List.length_append]; exact hge, hcm, by rw [hcs, hesz]; omega, ?_⟩, fun g e0 he => ?_⟩, fun y hy => ?_⟩
    · rw [htk, List.flatMap_append]
      exact pR (bY le0 (by rw [E.cT]; intro _ h; cases h) (by rw [E.cL]; intro _ h; cases h) hdo) (bY le0 (by rw [E.cT]; intro _ h; cases h) (by rw [E.cL]; intro _ h; cases h) hn2)
    · simp only [kU, Option.some.injEq, Prod.mk.injEq] at he
      obtain ⟨rfl, _⟩ := he
      refine ⟨b, cs0, T2, (if_neg (by omega)).trans hb, (hold b hblt).trans hhb, fun j u e1 hj hju => ?_⟩
      have := wf.lt _ _ (GO hvals hj hju)
      omega
    · rw [List.mem_singleton.1 hy]
      refine ⟨b, cs0, (if_neg (by omega)).trans hb, (hold b hblt).trans hhb, ?_, hap⟩
      exact bY le0 (fun _ _ h => by cases h) (fun _ _ h => by cases h) hvals
  rcases hrow with ⟨hxe, ex⟩ | ⟨g, off, cap, cur, ex, hg, hh, hxc, hcm, hfit, hdx⟩
  · have hrn := run_append_nil (P := P) w st t el ii zz hD hi hiz ⟨b', off', none⟩ ys.length c' news hnl hnews hpos (by omega) (by rw [hby]; have := hlen; rw [Nat.add_mul] at this; omega)
    subst hxe
    refine grown [] 0 trivial (by simpa using hpos) ?_
    rw [ex, ey]
    simpa using hrn
  · by_cases hroom : xs.length + ys.length ≤ cap
    · -- in place
      have hm : (xs.length + ys.length) * E.size ≤ cap * E.size := Nat.mul_le_mul_right _ hroom
      rw [Nat.add_mul] at hm
      have hcf : off + xs.length * ii.size + news.length ≤ cur.size := by rw [hnl, ← hesz]; omega
      have hf := run_firstCells_some (P := P) w ii.size ys.length ⟨b', off', none⟩ ys.length c' news hnl hnews
      have hst := run_storeCells_at (P := P) g (off + xs.length * ii.size) el news 0 cur w hh (by simpa using hcf) hones
      rw [uF _ hh] at hst
      simp only [Nat.add_zero] at hst
      obtain ⟨h1', h2', h3'⟩ := jW (cs' := (cur.toList.take (off + xs.length * ii.size) ++ news ++ cur.toList.drop (off + xs.length * ii.size + news.length)).toArray) (Tb := el) wf hg _ rfl
      have hrun : (Builtin.append_ #[st, st] t #[a.eval x, a.eval y]).run P w = .ok (.slice (some ⟨g, off, none⟩) (xs.length + ys.length) cap) { w with heap := w.heap.setIfInBounds g (.cells (cur.toList.take (off + xs.length * ii.size) ++ news ++ cur.toList.drop (off + xs.length * ii.size + news.length)).toArray el (0, 0)) } := by
        rw [ex, ey]
        simp [Builtin.append_, run_underlying hD, sizeOf, typeInfo, hi, Builtin.lenOf, hroom, hf, Addr.add_lit, hst]
      have le : Le (· ∈ [tg, J]) (· ∈ ([] : List Nat)) w M { w with heap := w.heap.setIfInBounds g (.cells (cur.toList.take (off + xs.length * ii.size) ++ news ++ cur.toList.drop (off + xs.length * ii.size + news.length)).toArray el (0, 0)) } M :=
        h2'.weaken (fun u hu => by simp only [List.mem_singleton] at hu; subst hu; simp) (fun _ h => by cases h)
      have hgb : g ≠ b := fun e => by
        rw [e, hb] at hg; injection hg with hg
        have := h1.2; omega
      have hroomy : roomy (a.eval x) = true := by rw [ex]; simp [roomy]; omega
      have hb' : ({ w with heap := w.heap.setIfInBounds g (.cells (cur.toList.take (off + xs.length * ii.size) ++ news ++ cur.toList.drop (off + xs.length * ii.size + news.length)).toArray el (0, 0)) } : World).heap[b]? = some (.cells cs0 T2 (0, 0)) := by
        show (w.heap.setIfInBounds g _)[b]? = _
        rw [Array.getElem?_setIfInBounds_ne hgb]; exact hhb
      refine ⟨.slice (some ⟨g, off, none⟩) (xs.length + ys.length) cap, _, by simp [execOp, resolve, invoke, builtin, hrun], M, h1', le, ⟨.inr ⟨g, off, cap, _, by rw [List.length_append], hg, h3', by rw [List.length_append]; exact hroom, hcm, ?_, ?_⟩, fun g' e0 he => ?_⟩, fun y hy => ?_⟩
      · simp only [List.size_toArray, List.length_append, List.length_take, List.length_drop, Array.length_toList]
        omega
      · rw [List.length_append, Nat.add_mul, hesz, ← hnl, List.toList_toArray, Oq _ _ _ _ (by simpa using hcf), List.flatMap_append]
        refine bY h2' (by rw [← List.flatMap_append, E.cT]; intro _ h; cases h) (by rw [← List.flatMap_append, E.cL]; intro _ h; cases h) (pR ?_ hn2)
        rw [← hesz]; exact hdx
      · simp only [kU, Option.some.injEq, Prod.mk.injEq] at he
        obtain ⟨rfl, rfl⟩ := he
        refine ⟨b, cs0, T2, hb, hb', fun j u e1 hj hju => ?_⟩
        have := ownb g (off + xs.length * E.size) (by rw [ex]; rfl) j u e1 hj hju
        refine ⟨this.1, fun _ => ?_⟩
        have := this.2 hroomy
        rw [Nat.add_mul]; omega
      · rw [List.mem_singleton.1 hy]
        refine ⟨b, cs0, hb, hb', ?_, hap⟩
        refine g8 (by rw [cI hvals]) fun j ty hj => ?_
        obtain ⟨u, hu, hdu⟩ := dQ hvals j ty hj
        refine ⟨u, hu, ?_⟩
        rw [List.getElem?_map] at hj
        obtain ⟨qe, _, rfl⟩ := Option.map_eq_some_iff.1 hj
        rcases hdu with h | ⟨g2, off2, c2, cur2, e2, hg2, hh2, k1, k2, k3, k4⟩
        · exact .inl h
        · by_cases hgg : g = g2
          · subst hgg
            rw [hh] at hh2
            injection hh2 with hh2
            injection hh2 with ha _
            subst ha
            have hend := (ownb g (off + xs.length * E.size) (by rw [ex]; rfl) j u _ hu (by rw [e2]; rfl)).2 hroomy
            refine .inr ⟨g, off2, c2, _, e2, hg, h3', k1, k2, ?_, ?_⟩
            · simp only [List.size_toArray, List.length_append, List.length_take, List.length_drop, Array.length_toList]
              omega
            · rw [List.toList_toArray, No _ _ _ _ 0 _ (by rw [← hesz]; exact hend) (by simpa using hcf)]
              exact bY h2' (by rw [E.cT]; intro _ h; cases h) (by rw [E.cL]; intro _ h; cases h) k4
          · refine .inr ⟨g2, off2, c2, cur2, e2, hg2, ?_, k1, k2, k3, bY h2' (by rw [E.cT]; intro _ h; cases h) (by rw [E.cL]; intro _ h; cases h) k4⟩
            show (w.heap.setIfInBounds g _)[g2]? = _
            rw [Array.getElem?_setIfInBounds_ne hgg]; exact hh2
    · have holds : ∀ j u, ((cur.toList.drop off).take (xs.length * E.size))[j]? = some u → w.cell? ((⟨g, off, none⟩ : Addr).add j) = some u := fun j u hj => by
        rw [List.getElem?_take] at hj
        split at hj
        · rw [List.getElem?_drop] at hj
          rw [Addr.add_lit]
          simpa [World.cell?, hh] using hj
        · cases hj
      have hol : ((cur.toList.drop off).take (xs.length * E.size)).length = xs.length * ii.size := by rw [cI hdx, c7, hesz]
      have hrn := run_append_grow (P := P) w st t el ii zz hD hi hiz ⟨g, off, none⟩ xs.length cap _ hol holds ⟨b', off', none⟩ ys.length c' news hnl hnews (by omega) (by omega) (growslice_fits (by omega) (by rw [hby]; exact hlen))
      refine grown _ cap hdx (by omega) ?_
      rw [ex, ey]
      exact hrn
omit T in
theorem Ee {cs : Array Value} {off n : Nat} {v : Value} : ((cs.setIfInBounds off v).toList.take n) = (cs.toList.take n).set off v := by
 rw [Array.toList_setIfInBounds, List.take_set]
omit T in
theorem Ce {size n : Nat} {vs : List Value} {v : Value} (h : Kg size vs) (ho : ∀ (g e0 : Nat), kU size v = some (g, e0) → ∀ (j : Nat) (u : Value) (e1 : Nat), vs[j]? = some u → kU size u = some (g, e1) → j = n) : Kg size (vs.set n v) := by
 intro i1 j1 u1 u2 g e' e'' hi1 hj1 hv hu
 rw [List.getElem?_set] at hi1 hj1
 by_cases c1 : n = i1 <;> by_cases c2 : n = j1
 ·omega
 ·rw [if_pos c1] at hi1; rw [if_neg c2] at hj1
  split at hi1
  ·injection hi1 with hi1
   subst hi1
   have := ho g e' hv j1 u2 e'' hj1 hu
   omega
  cases hi1
 ·rw [if_neg c1] at hi1; rw [if_pos c2] at hj1
  split at hj1
  ·injection hj1 with hj1
   subst hj1
   have := ho g e'' hu i1 u1 e' hi1 hv
   omega
  cases hj1
 rw [if_neg c1] at hi1; rw [if_neg c2] at hj1
 exact h i1 j1 u1 u2 g e' e'' hi1 hj1 hv hu
theorem Jb {x y : Operand} {off T2 : Nat} {ti : TI} (hx : A.op fr x = .ptr tg off) (he : off = i) (hc : A.tag tg = some (.mx E T2 Tb J q)) (h1 : ga tg) (hT : T.tab[ty']? = some ti) (hsz : ti.size = 1) (hy : A.op fr y = .mv E Tb tg J q.length i xs) (hi : i < q.length) (hJ : 4096 ≤ J)
 (h : aV P fr ops rest (A.after { d := none, S := [tg], sets := [(tg, .mx E T2 Tb J (q.set i xs))], rs := bq x ++ bq y, rt := [tg] }) fun A' l'' => K A' ((A, { d := none, S := [tg], sets := [(tg, .mx E T2 Tb J (q.set i xs))], rs := bq x ++ bq y, rt := [tg] }) :: l'')) :
 aV P fr ops (⟨none, .store ty' x y, t, p, e, none⟩ :: rest) A K := by
 refine ⟨_, ld rfl rfl rfl (by simp) (by simpa using h1.1) (by simp) fun a w M wf hr ht => ?_, h⟩
 subst he
 obtain ⟨b, cs, ex, e2, h3, h4, h5⟩ := NH hx hc h1 wf (fun _ h => List.mem_append_left _ h) hr ht
 have hdy := cA (fun c hc => List.mem_append_right (bq x) hc) hr
 rw [hy] at hdy
 obtain ⟨hrow, hown⟩ := hdy
 have hone : (a.eval y).oneCell' = true := (Ty.mB E Tb J xs).isOne rfl hrow
 have hcells : (a.eval y).cells = #[a.eval y] := by
  cases hv : a.eval y <;> first | rfl | (rw [hv] at hone; simp [Value.oneCell'] at hone)
 have hlen := cI h4
 have hoff : off < cs.size := by
  rw [List.length_take, List.length_map] at hlen
  have : cs.toList.length = cs.size := Array.length_toList
  omega
 have hcell : w.cell? ⟨b, off, none⟩ = some cs[off] := by simp [World.cell?, h3]
 have hfz : w.frozen? ⟨b, off, none⟩ = false := by simp [World.frozen?, h3]
 obtain ⟨h1', h2', h3'⟩ := jW wf e2 _ (ff h3 (off := off) (a.eval y))
 refine ⟨w.setCell ⟨b, off, none⟩ (a.eval y), ?_, M, h1', h2', trivial, ?_⟩
 ·have hst := run_store P w ⟨b, off, none⟩ (a.eval y) .plain hone
  rw [hcell] at hst
  simp only [hfz] at hst
  simp [execOp, Instr.storeAt, Instr.sureAddr, ex, storeVar, hcells, cJ hT, hsz, storeCells, hst, Addr.add]
 intro z' hz'
 simp only [List.mem_singleton] at hz'
 subst hz'
 refine ⟨b, _, e2, h3', ?_, ?_⟩
 ·rw [List.length_set, Ee, List.map_set]
  have h2 := h1.2
  exact pL (bY h2' (by intro _ _ h; cases h) (fun u hu => by rw [n7.2 u hu]; simp; omega) h4) ((Ty.mB E Tb J xs).mono h2' (by intro _ _ h; cases h) (fun u hu => by simp [Ty.mB] at hu; subst hu; simp; omega) hrow)
 rw [List.length_set, Ee]
 refine Ce h5 fun g e0 he j u e1 hj hju => ?_
 obtain ⟨b', cs', T', k1, k2, k3⟩ := hown g e0 he
 obtain ⟨uu, hu'⟩ : ∃ u, tg = u + 1 := ⟨tg - 1, by have := h1.1; omega⟩
 have : b = b' := wf.inj b b' uu (by have := h1.2; omega) (hu' ▸ e2) (hu' ▸ k1)
 subst this
 rw [h3] at k2
 injection k2 with k2
 injection k2 with k2 _
 subst k2
 exact (k3 j u e1 hj hju).1
theorem Ax [Inhabited α] {x y : Operand} {k j o T2 : Nat} {ti : TI} {ty : Ty} {z : α} (hx : A.op fr x = .me E Tb tg J i xs k) (hk : k = j * E.size + o) (hc : A.tag tg = some (.mx E T2 Tb J q)) (h1 : ga tg) (hT : T.tab[ty']? = some ti) (hsz : ti.size = 1) (hy : A.op fr y = ty) (ho : ty.one = true) (hi : i < q.length) (hj : j < xs.length) (hoe : o < E.size) (hd1 : ty.deps = []) (hd2 : ty.cdeps = []) (hl : (E.tys (nth xs j)).set o ty = E.tys z) (hJ : 4096 ≤ J)
 (h : aV P fr ops rest (A.after { d := none, S := [tg, J], sets := [(tg, .mx E T2 Tb J (q.set i (xs.set j z)))], rs := bq x ++ bq y, rt := [tg] }) fun A' l'' => K A' ((A, { d := none, S := [tg, J], sets := [(tg, .mx E T2 Tb J (q.set i (xs.set j z)))], rs := bq x ++ bq y, rt := [tg] }) :: l'')) :
 aV P fr ops (⟨none, .store ty' x y, t, p, e, none⟩ :: rest) A K := by
 refine ⟨_, ld rfl rfl rfl (by simp) (by simp; exact ⟨h1.1, by omega⟩) (by simp) fun a w M wf hr ht => ?_, h⟩
 subst hk
 obtain ⟨hdx, hdy⟩ := op2 hr
 rw [hx] at hdx; rw [hy] at hdy
 obtain ⟨u, g, off, n, c, ⟨hrow, hlk⟩, eu, ex⟩ := hdx
 have hcont : Uy E T2 Tb J q w M tg := ht _ (dD hc) (by simp)
 have hown := OL wf h1 hi hcont hlk
 obtain ⟨b, cs, hb, hhb, hvals, hap⟩ := hcont
 rcases hrow with ⟨h0, _⟩ | ⟨g', off', c', cur, ex', hg, hh, hn, hcm, hfit, hd⟩
 ·subst h0; simp at hj
 have eu2 := eu
 rw [ex'] at eu2
 simp only [Value.slice.injEq, Option.some.injEq, Addr.mk.injEq, and_true] at eu2
 obtain ⟨⟨rfl, rfl⟩, rfl, rfl⟩ := eu2
 have hone := ty.isOne ho hdy
 have hcells : (a.eval y).cells = #[a.eval y] := by
  cases hv : a.eval y <;> first | rfl | (rw [hv] at hone; simp [Value.oneCell'] at hone)
 have hkx : j * E.size + o < xs.length * E.size := by
  have : (j + 1) * E.size ≤ xs.length * E.size := Nat.mul_le_mul_right _ hj
  rw [Nat.succ_mul] at this; omega
 have hcx : xs.length * E.size ≤ c' * E.size := Nat.mul_le_mul_right _ hn
 have hoff : off' + (j * E.size + o) < cur.size := by omega
 have hcell : w.cell? ⟨g', off' + (j * E.size + o), none⟩ = some cur[off' + (j * E.size + o)] := by simp [World.cell?, hh]
 have hfz : w.frozen? ⟨g', off' + (j * E.size + o), none⟩ = false := by simp [World.frozen?, hh]
 obtain ⟨h1', h2', h3'⟩ := jW wf hg _ (ff hh (off := off' + (j * E.size + o)) (a.eval y))
 have hgb : g' ≠ b := fun e => by
  rw [e, hb] at hg; injection hg with hg
  have := h1.2; omega
 have le : Le (· ∈ [tg, J]) (· ∈ ([] : List Nat)) w M (w.setCell ⟨g', off' + (j * E.size + o), none⟩ (a.eval y)) M :=
  h2'.weaken (fun u hu => by simp only [List.mem_singleton] at hu; subst hu; simp) (fun _ h => by cases h)
 have hoth : ∀ k2, k2 ≠ g' → (w.setCell ⟨g', off' + (j * E.size + o), none⟩ (a.eval y)).heap[k2]? = w.heap[k2]? := fun k2 hne => by
  rw [ff hh]
  show (w.heap.setIfInBounds g' _)[k2]? = _
  rw [Array.getElem?_setIfInBounds_ne (Ne.symm hne)]
 refine ⟨w.setCell ⟨g', off' + (j * E.size + o), none⟩ (a.eval y), ?_, M, h1', le, trivial, ?_⟩
 ·have hst := run_store P w ⟨g', off' + (j * E.size + o), none⟩ (a.eval y) .plain hone
  rw [hcell] at hst
  simp only [hfz] at hst
  simp [execOp, Instr.storeAt, Instr.sureAddr, ex, storeVar, hcells, cJ hT, hsz, storeCells, hst, Addr.add]
 intro z' hz'
 simp only [List.mem_singleton] at hz'
 subst hz'
 refine ⟨b, cs, hb, (hoth b (Ne.symm hgb)).trans hhb, ?_, by rw [List.length_set]; exact hap⟩
 rw [List.length_set]
 refine g8 (by rw [cI hvals, List.length_map, List.length_map, List.length_set]) fun j2 ty2 hj2 => ?_
 rw [List.getElem?_map] at hj2
 obtain ⟨qe, hqe, rfl⟩ := Option.map_eq_some_iff.1 hj2
 rw [List.getElem?_set] at hqe
 by_cases hji : i = j2
 ·subst hji
  rw [if_pos rfl, if_pos hi] at hqe
  injection hqe with hqe
  subst hqe
  obtain ⟨b', cs', T', k1, k2, k3⟩ := hlk
  obtain ⟨uu, hu'⟩ : ∃ u, tg = u + 1 := ⟨tg - 1, by have := h1.1; omega⟩
  have : b = b' := wf.inj b b' uu (by have := h1.2; omega) (hu' ▸ hb) (hu' ▸ k1)
  subst this
  rw [hhb] at k2
  injection k2 with k2
  injection k2 with k2 _
  subst k2
  refine ⟨u, by rw [List.getElem?_take, if_pos hi]; exact k3, .inr ⟨g', off', c', _, by rw [List.length_set]; exact ex', hg, h3', by rw [List.length_set]; exact hn, hcm, by rw [Array.size_setIfInBounds]; exact hfit, ?_⟩⟩
  rw [List.length_set, Array.toList_setIfInBounds, List.drop_set, if_neg (by omega), Nat.add_sub_cancel_left, List.take_set, ← BA E xs j hj hl hoe]
  exact pL (bY h2' (by rw [E.cT]; intro _ h; cases h) (by rw [E.cL]; intro _ h; cases h) hd) (ty.mono h2' (by rw [hd1]; intro _ h; cases h) (by rw [hd2]; intro _ h; cases h) hdy)
 rw [if_neg hji] at hqe
 obtain ⟨u2, hu2, hdu⟩ := dQ hvals j2 (Ty.mB E Tb J qe) (by rw [List.getElem?_map, hqe]; rfl)
 refine ⟨u2, hu2, ?_⟩
 rcases hdu with h | ⟨g2, off2, c2, cur2, e2, hg2, hh2, m1, m2, m3, m4⟩
 ·exact .inl h
 have hgg : g2 ≠ g' := fun e => by
  obtain ⟨b', cs', T', k1, k2, k3⟩ := hown g' (off' + xs.length * E.size) (by rw [ex']; rfl)
  obtain ⟨uu, hu'⟩ : ∃ u, tg = u + 1 := ⟨tg - 1, by have := h1.1; omega⟩
  have : b = b' := wf.inj b b' uu (by have := h1.2; omega) (hu' ▸ hb) (hu' ▸ k1)
  subst this
  rw [hhb] at k2
  injection k2 with k2
  injection k2 with k2 _
  subst k2
  exact hji (k3 j2 u2 (off2 + qe.length * E.size) hu2 (by rw [e2, e]; rfl)).1.symm
 exact .inr ⟨g2, off2, c2, cur2, e2, hg2, (hoth g2 hgg).trans hh2, m1, m2, m3, bY h2' (by rw [E.cT]; intro _ h; cases h) (by rw [E.cL]; intro _ h; cases h) m4⟩
omit T in
theorem y4 {T2 tz : Nat} {w : World} {M : ay} {v : Value} {b : Nat} {cs : Array Value} (hrow : dZ E Tb tz xs w M v) (h4 : cD w M (q.map fun x => Ty.mB E Tb J x) (cs.toList.take q.length)) (hJ : 4096 ≤ J) (h2 : ga tz) : DU E Tb J xs w (pF M tz J) v ∧ ∀ (g e0 : Nat), kU E.size v = some (g, e0) → ∀ (j : Nat) (u : Value) (e' : Nat), (cs.toList.take q.length)[j]? = some u → kU E.size u = some (g, e') → False := by
 obtain ⟨cz, hown, hcs, hM⟩ := hrow
 constructor
 ·rcases hown.2 with ⟨ez, h0⟩ | ⟨g, cap, cur, ez, _, hh, hnc, hcap, hsz, htk⟩
  ·exact .inl ⟨List.length_eq_zero_iff.1 h0, ez⟩
  have hg : M g = some tz := hM g (by rw [ez]; rfl)
  refine .inr ⟨g, 0, cap, cur, ez, by simp [pF, hg], hh, hnc, hcap, by omega, ?_⟩
  rw [List.drop_zero, htk]
  exact bY (z5 (w := w)) (by rw [E.cT]; intro _ h; cases h) (by rw [E.cL]; intro _ h; cases h) hcs
 intro g e0 he j u e' hj hju
 have k1 := GO h4 hj hju
 rcases hown.2 with ⟨ez, _⟩ | ⟨g', cap, cur, ez, _⟩
 ·rw [ez] at he; simp [kU] at he
 have hg : M g' = some tz := hM g' (by rw [ez]; rfl)
 rw [ez] at he
 simp only [kU, Option.some.injEq, Prod.mk.injEq] at he
 obtain ⟨rfl, _⟩ := he
 rw [hg] at k1
 injection k1 with k1
 have := h2.2
 omega
theorem IX {x y : Operand} {off T2 tz : Nat} {ti : TI} (hx : A.op fr x = .ptr tg off) (he : off = i) (hc : A.tag tg = some (.mx E T2 Tb J q)) (h1 : ga tg) (hT : T.tab[ty']? = some ti) (hsz : ti.size = 1) (hy : A.op fr y = .row E Tb tz xs) (hi : i < q.length) (hJ : 4096 ≤ J) (h2 : ga tz) (hne : Nat.beq tz tg = false) (hp : fr.pass.contains tz = false)
 (h : aV P fr ops rest (A.after { d := none, S := [tg], K := [tz], sets := [(tg, .mx E T2 Tb J (q.set i xs))], rs := bq x ++ bq y, rt := [tg] }) fun A' l'' => K A' ((A, { d := none, S := [tg], K := [tz], sets := [(tg, .mx E T2 Tb J (q.set i xs))], rs := bq x ++ bq y, rt := [tg] }) :: l'')) :
 aV P fr ops (⟨none, .store ty' x y, t, p, e, none⟩ :: rest) A K := by
 have hne' : tz ≠ tg := fun h => by subst h; simp at hne
 refine ⟨_, ld rfl rfl rfl (by simp) (by simpa using h1.1) (by simp at hp ⊢; exact ⟨h2.1, hp⟩) fun a w M wf hr ht => ?_, h⟩
 subst he
 obtain ⟨b, cs, ex, e2, h3, h4, h5⟩ := NH hx hc h1 wf (fun _ h => List.mem_append_left _ h) hr ht
 have hdy := cA (fun c hc => List.mem_append_right (bq x) hc) hr
 rw [hy] at hdy
 have hone : (a.eval y).oneCell' = true := (Ty.row E Tb tz xs).isOne rfl hdy
 obtain ⟨hrow, hap⟩ := y4 (T2 := T2) (b := b) (J := J) hdy h4 hJ h2
 have hcells : (a.eval y).cells = #[a.eval y] := by
  cases hv : a.eval y <;> first | rfl | (rw [hv] at hone; simp [Value.oneCell'] at hone)
 have hlen := cI h4
 have hoff : off < cs.size := by
  rw [List.length_take, List.length_map] at hlen
  have : cs.toList.length = cs.size := Array.length_toList
  omega
 have hcell : w.cell? ⟨b, off, none⟩ = some cs[off] := by simp [World.cell?, h3]
 have hfz : w.frozen? ⟨b, off, none⟩ = false := by simp [World.frozen?, h3]
 have wf2 := N9 (tg := tz) hJ wf
 have e2' : pF M tz J b = some tg := by simp [pF, e2, hne'.symm]
 have hvals : cD w (pF M tz J) (q.map fun x => Ty.mB E Tb J x) (cs.toList.take q.length) :=
  bY (z5 (w := w) (tg := tz) (J := J)) (fun u hu => by rw [n7.1 u hu]; have := h2.2; simp; omega) (fun _ _ h => by cases h) h4
 obtain ⟨h1', h2', h3'⟩ := jW wf2 e2' _ (ff h3 (off := off) (a.eval y))
 have le : Le (· ∈ [tg]) (· ∈ [tz]) w M (w.setCell ⟨b, off, none⟩ (a.eval y)) (pF M tz J) :=
  ((z5 (w := w) (M := M) (tg := tz) (J := J)).trans h2').weaken (fun u hu => by rcases hu with h | h; cases h; exact h) (fun u hu => by rcases hu with h | h; exact h; cases h)
 refine ⟨w.setCell ⟨b, off, none⟩ (a.eval y), ?_, pF M tz J, h1', le, trivial, ?_⟩
 ·have hst := run_store P w ⟨b, off, none⟩ (a.eval y) .plain hone
  rw [hcell] at hst
  simp only [hfz] at hst
  simp [execOp, Instr.storeAt, Instr.sureAddr, ex, storeVar, hcells, cJ hT, hsz, storeCells, hst, Addr.add]
 intro z' hz'
 simp only [List.mem_singleton] at hz'
 subst hz'
 refine ⟨b, _, e2', h3', ?_, ?_⟩
 ·rw [List.length_set, Ee, List.map_set]
  have h2 := h1.2
  exact pL (bY h2' (by intro _ _ h; cases h) (fun u hu => by rw [n7.2 u hu]; simp; omega) hvals) ((Ty.mB E Tb J xs).mono h2' (by intro _ _ h; cases h) (fun u hu => by simp [Ty.mB] at hu; subst hu; simp; omega) hrow)
 rw [List.length_set, Ee]
 exact Ce h5 fun g e0 he j u e1 hj hju => absurd hju fun hju => hap g e0 he j u e1 hj hju
omit T in
theorem RU {ER : El (List α)} {T2 m : Nat} (hc : A.tag m = some (.mx E T2 Tb J q)) (hne : Nat.beq m J = false) (hER : ∀ x, ER.tys x = [Ty.sl E x]) : SA A J (m, .vec ER T2 q) := fun w M wf ht => by
  obtain ⟨b, cs, h1, h2, h3, _⟩ := ht _ (dD hc)
  have hmj : m ≠ J := fun h => by subst h; simp at hne
  have hl : ∀ l : List (List α), (l.flatMap ER.tys).length = l.length := fun l => by
    induction l with
    | nil => rfl
    | cons x l ih => rw [List.flatMap_cons, hER, List.length_append, ih]; simp; omega
  have key : ∀ (l : List (List α)) (vs : List Value), cD w M (l.map fun x => Ty.mB E Tb J x) vs → cD w (dx M J) (l.flatMap ER.tys) vs := by
    intro l
    induction l with
    | nil => intro vs h; cases vs with | nil => trivial | cons => cases h
    | cons x l ih =>
      intro vs h
      cases vs with
      | nil => cases h
      | cons v vs => rw [List.flatMap_cons, hER]; exact ⟨RX wf h.1, ih vs h.2⟩
  exact .inr ⟨b, cs, by simp [dx, h1, hmj], h2, by rw [hl]; exact key q _ h3⟩
theorem SC {NE : El Unit} {T2 n : Nat} (hn : 0 < n) (hNE : ∀ x, NE.tys x = [Ty.ex (.slice none 0 0)]) : (Cont.vec NE T2 (List.replicate n ())).Sub (Cont.mx E T2 Tb J (List.replicate n [])) := by
  intro w M t hd
  have hl : ∀ n : Nat, ((List.replicate n ()).flatMap NE.tys).length = n := fun n => by
    induction n with
    | zero => rfl
    | succ n ih => rw [List.replicate_succ, List.flatMap_cons, hNE, List.length_append, ih]; simp; omega
  have key : ∀ (n : Nat) (vs : List Value), cD w M ((List.replicate n ()).flatMap NE.tys) vs → cD w M ((List.replicate n ([] : List α)).map fun x => Ty.mB E Tb J x) vs ∧ ∀ v ∈ vs, v = .slice none 0 0 := by
    intro n
    induction n with
    | zero => intro vs h; cases vs with | nil => exact ⟨trivial, fun v hv => by cases hv⟩ | cons => cases h
    | succ n ih =>
      intro vs h
      rw [List.replicate_succ, List.flatMap_cons, hNE] at h
      cases vs with
      | nil => cases h
      | cons v vs =>
        obtain ⟨h1, h2⟩ := h
        have h1 : v = .slice none 0 0 := h1
        obtain ⟨a, b⟩ := ih vs h2
        refine ⟨⟨.inl ⟨rfl, h1⟩, a⟩, fun u hu => ?_⟩
        rcases List.mem_cons.1 hu with rfl | hu
        · exact h1
        · exact b u hu
  rcases hd with h0 | ⟨b, cs, h1, h2, h3⟩
  · cases n with
    | zero => omega
    | succ n => cases h0
  · rw [hl] at h3
    obtain ⟨a, c⟩ := key n _ h3
    rw [← List.length_replicate (n := n) (a := ([] : List α))] at h3
    refine ⟨b, cs, h1, h2, by rw [List.length_replicate]; exact a, fun i j v u g e e' hi hj hv hu => ?_⟩
    rw [List.length_replicate] at hi
    rw [c v (List.mem_of_getElem? hi)] at hv
    simp [kU] at hv
end
end Go.T
