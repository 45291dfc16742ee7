/- Lemmas: the program and the reference walked, plain laws. -/
import Derived.Test.YtelbollidfdcjaaGreatId
namespace Go.Proofs.YtelbollidfdcjaaGreat
open Go Go.T
def j8 (s : Sk) (n w : Int) : Span := ⟨max 0 (n - dw s (w + 1)), min 300 (n + dw (bl s) (w + 1))⟩
def HI (y : bA) (a : dL) (m : Move) : Int := if m.src = -1 then 300 else dO y a m.src (m.day + 1)
theorem zG {s : Sk} {n w : Int} (hn : 0 ≤ n ∧ n ≤ 300) (hw : 0 ≤ w) : (0 ≤ (j8 s n w).lo ∧ (j8 s n w).hi ≤ 300) ∧ (j8 s n w).lo ≤ n ∧ n ≤ (j8 s n w).hi := by
 have h1 := eD s (w + 1)
 have h2 := eD (bl s) (w + 1)
 unfold j8
 simp only
 omega
section
variable {y : bA} {a : dL} {m : Move} {n bin time : Int} {k : Nat}
def rR (y : bA) (m : Move) : bA := { y with moves := y.moves ++ [m] }
def uP (a : dL) (n : Int) : dL := { a with bN := a.bN ++ [n] }
theorem GB (hl : a.bN.length = y.moves.length) : ∀ k, k ≤ y.moves.length → dy (rR y m) (uP a n) bin time k = dy y a bin time k
  | 0, _ => rfl
  | k + 1, hk => by
    have ih := GB hl k (by omega)
    show dg (rR y m) (uP a n) bin time k (dy (rR y m) (uP a n) bin time k) - _ = dg y a bin time k (dy y a bin time k) - _
    rw [ih]
    unfold dg
    have e1 : nth (rR y m).moves k = nth y.moves k := jQ (by omega)
    have e2 : nth (uP a n).bN k = nth a.bN k := jQ (by omega)
    rw [e1, e2]
theorem Gu (hl : a.bN.length = y.moves.length) : dO (rR y m) (uP a n) bin time = dO y a bin time + (if mV m bin time = true then n else 0) - if kB m bin time = true then n else 0 := by
 unfold dO
 have e0 : (rR y m).moves.length = y.moves.length + 1 := by show (y.moves ++ [m]).length = _; rw [List.length_append]; rfl
 rw [e0]
 show dg (rR y m) (uP a n) bin time _ (dy (rR y m) (uP a n) bin time _) - _ = _
 rw [GB hl _ (Nat.le_refl _)]
 unfold dg
 have e1 : nth (rR y m).moves y.moves.length = m := by
  show nth (y.moves ++ [m]) (y.moves.length + 0) = m; rw [m6]; rfl
 have e2 : nth (uP a n).bN y.moves.length = n := by
  rw [← hl]; show nth (a.bN ++ [n]) (a.bN.length + 0) = n; rw [m6]; rfl
 rw [e1, e2]
theorem DZ {dd : Int} (hd : ∀ k, k < y.moves.length → (nth y.moves k).day ≤ dd) (ht : dd + 1 ≤ time) : ∀ k, k ≤ y.moves.length → dy y a bin time k = dy y a bin (dd + 1) k
  | 0, _ => rfl
  | k + 1, hk => by
    have ih := DZ hd ht k (by omega)
    have h := hd k (by omega)
    show dg y a bin time k (dy y a bin time k) - _ = dg y a bin (dd + 1) k (dy y a bin (dd + 1) k) - _
    rw [ih]
    unfold dg mV kB
    rw [decide_eq_true (show (nth y.moves k).day < time by omega), decide_eq_true (show (nth y.moves k).day < dd + 1 by omega)]
def uM (y : bA) (a : dL) (m : Move) (n : Int) : Int := if m.src = -1 then n else min n (dO y a m.src m.day)
def vv (y : bA) (a : dL) (m : Move) (n : Int) : Int := if m.dst = -1 then n else min n (300 - dO y a m.dst (m.day + 1))
def yM (y : bA) (a : dL) (m : Move) (n : Int) : Nat → Int
  | 0 => n
  | k + 1 => if ((decide ((nth y.moves k).day = m.day) && decide ((nth y.moves k).src = m.src)) && !decide (m.src = -1)) = true then min (yM y a m n k) (dO y a m.src m.day - nth a.bN k) else yM y a m n k
def sG (y : bA) (a : dL) (m : Move) (n : Int) : Int := max 0 (min (yM y a m (vv y a m (uM y a m n)) y.moves.length) (HI y a m))
theorem Bw : ∀ k, yM y a m n k ≤ n
  | 0 => Int.le_refl _
  | k + 1 => by
    have := Bw k
    unfold yM; split <;> omega
theorem IW (hn : 0 ≤ n) (h1 : m.dst ≠ -1 → dO y a m.dst (m.day + 1) ≤ 300) (h2 : m.src ≠ -1 → 0 ≤ dO y a m.src (m.day + 1)) :
 (0 ≤ sG y a m n ∧ sG y a m n ≤ n) ∧ (m.dst ≠ -1 → sG y a m n ≤ 300 - dO y a m.dst (m.day + 1)) ∧ (m.src ≠ -1 → sG y a m n ≤ dO y a m.src (m.day + 1)) := by
 have h3 := Bw (y := y) (a := a) (m := m) (n := vv y a m (uM y a m n)) y.moves.length
 have h4 : vv y a m (uM y a m n) ≤ uM y a m n := by unfold vv; split <;> omega
 have h5 : uM y a m n ≤ n := by unfold uM; split <;> omega
 refine ⟨?_, fun hd => ?_, fun hs => ?_⟩
 ·unfold sG; omega
 ·have h6 : vv y a m (uM y a m n) ≤ 300 - dO y a m.dst (m.day + 1) := by unfold vv; rw [if_neg hd]; omega
  have := h1 hd
  unfold sG; omega
 have h6 : HI y a m = dO y a m.src (m.day + 1) := if_neg hs
 have := h2 hs
 unfold sG; rw [h6]; omega
end
structure Md where
  s : Sk
  days : Int
  bins : Int
  moves : Int
  levels : Int
structure Md.Ok (d : Md) : Prop where
  days : 1 ≤ d.days ∧ d.days ≤ 5
  bins : 1 ≤ d.bins ∧ d.bins ≤ 4
  moves : 0 ≤ d.moves ∧ d.moves ≤ 10
  levels : 0 ≤ d.levels ∧ d.levels ≤ 8
namespace Md
def D (d : Md) : Int := mF d.s 1 d.days
def N0 (d : Md) : Int := mF (bl d.s) 1 d.bins
def nb (d : Md) : Nat := d.N0.toNat
def bs (d : Md) : Nat → (List Int × List sU) × Sk
  | 0 => (([], []), bl (bl d.s))
  | k + 1 => (((d.bs k).1.1 ++ [dw (d.bs k).2 60], (d.bs k).1.2 ++ [⟨300, j8 (bl (d.bs k).2) (dw (d.bs k).2 60) 12⟩]), bl (bl (bl (d.bs k).2)))
def first (d : Md) : List Int := (d.bs d.nb).1.1
def vR (d : Md) : List sU := (d.bs d.nb).1.2
def EI (d : Md) : Int := dw (d.bs d.nb).2 (d.moves + 1)
def many (d : Md) : Nat := d.EI.toNat
def FY (d : Md) (s : Sk) : Int := mF s (-1) ((d.nb : Int) - 1)
def FG (d : Md) (s : Sk) : Int := mF (bl s) (-1) ((d.nb : Int) - 1)
def src (d : Md) (s : Sk) : Int := if d.FY s = d.FG s then -1 else d.FY s
def dst (d : Md) (s : Sk) : Int := if d.FY s = d.FG s then dw (bl (bl s)) d.nb else d.FG s
def Fz (d : Md) (s : Sk) : Sk := if d.FY s = d.FG s then bl (bl (bl s)) else bl (bl s)
def day (d : Md) (i : Nat) : Int := ((i : Int) * d.D).tdiv d.many
def mv (d : Md) (s : Sk) (i : Nat) : Move := ⟨d.day i, d.src s, d.dst s, ⟨0, 0⟩⟩
def yd (d : Md) (ms : List Move) : bA := ⟨d.D, d.vR, ms, []⟩
def am (d : Md) (l : List Int) : dL := ⟨d.first, l⟩
def num (d : Md) (p : (List Move × List Int) × Sk) (i : Nat) : Int := sG (d.yd p.1.1) (d.am p.1.2) (d.mv p.2 i) (dw (d.Fz p.2) 40)
def full (d : Md) (p : (List Move × List Int) × Sk) (i : Nat) : Move := { d.mv p.2 i with sacks := j8 (bl (d.Fz p.2)) (d.num p i) 15 }
def ms (d : Md) : Nat → (List Move × List Int) × Sk
  | 0 => (([], []), bl (d.bs d.nb).2)
  | i + 1 => (((d.ms i).1.1 ++ [d.full (d.ms i) i], (d.ms i).1.2 ++ [d.num (d.ms i) i]), bl (bl (bl (d.Fz (d.ms i).2))))
def bN (d : Md) : List Int := (d.ms d.many).1.2
def Ct (d : Md) : List Move := (d.ms d.many).1.1
def real (d : Md) : dL := ⟨d.first, d.bN⟩
def y0 (d : Md) : bA := d.yd d.Ct
def most (d : Md) (b : Nat) : Nat → Int
  | 0 => 0
  | t + 1 => max (d.most b t) (dO d.y0 d.real b t)
def hs (d : Md) : Nat → List sU × Sk
  | 0 => (d.vR, (d.ms d.many).2)
  | k + 1 => ((d.hs k).1.set k ⟨min 300 (d.most k (d.D + 1).toNat + dw (d.hs k).2 30), (nth (d.hs k).1 k).first⟩, bl (d.hs k).2)
def LK (d : Md) : List sU := (d.hs d.nb).1
def Nz (d : Md) : Int := dw (d.hs d.nb).2 (d.levels + 1)
def nl (d : Md) : Nat := d.Nz.toNat
def OX (d : Md) (s : Sk) : Level := ⟨dw s (d.D + 1), dw (bl s) d.nb, j8 (bl (bl s)) (dO d.y0 d.real (dw (bl s) d.nb) (dw s (d.D + 1))) 8⟩
def ls (d : Md) : Nat → List Level × Sk
  | 0 => ([], bl (d.hs d.nb).2)
  | k + 1 => ((d.ls k).1 ++ [d.OX (d.ls k).2], bl (bl (bl (bl (d.ls k).2))))
def Dk (d : Md) : List Level := (d.ls d.nl).1
def B5 (d : Md) : bA := ⟨d.D, d.LK, d.Ct, d.Dk⟩
end Md
end Go.Proofs.YtelbollidfdcjaaGreat
namespace Go.Proofs.YtelbollidfdcjaaGreat
open Go Go.T
theorem rK {s : Sk} {lo hi : Int} (h : lo ≤ hi) : lo ≤ mF s lo hi ∧ mF s lo hi ≤ hi := by
 have := eD s (hi - lo + 1)
 unfold mF; omega
theorem pL {α : Type} {l : List α} {x z : α} (h : z ∈ l ++ [x]) : z ∈ l ∨ z = x := by
 rcases List.mem_append.1 h with h | h
 ·exact .inl h
 exact .inr (List.mem_singleton.1 h)
theorem sQ {α : Type} [Inhabited α] {l : List α} {x : α} {k : Nat} (h : l.length = k) : nth (l ++ [x]) k = x := by
 subst h; exact (m6 (l := l) (k := [x]) (i := 0)).trans rfl
theorem BS {i n : Nat} {D : Int} (hD : 1 ≤ D) (hi : i < n) : (0 ≤ ((i : Int) * D).tdiv n ∧ ((i : Int) * D).tdiv n < D) ∧ ∀ k : Nat, k ≤ i → ((k : Int) * D).tdiv n ≤ ((i : Int) * D).tdiv n := by
 have hn : (0 : Int) < n := by omega
 have h0 : ∀ k : Nat, 0 ≤ (k : Int) * D := fun k => Int.mul_nonneg (by omega) (by omega)
 refine ⟨?_, fun k hk => ?_⟩
 ·rw [Int.tdiv_eq_ediv_of_nonneg (h0 i)]
  refine ⟨Int.ediv_nonneg (h0 i) (by omega), Int.ediv_lt_of_lt_mul hn ?_⟩
  rw [Int.mul_comm D]
  exact Int.mul_lt_mul_of_pos_right (by omega) (by omega)
 rw [Int.tdiv_eq_ediv_of_nonneg (h0 i), Int.tdiv_eq_ediv_of_nonneg (h0 k)]
 exact Int.ediv_le_ediv hn (Int.mul_le_mul_of_nonneg_right (by omega) (by omega))
section
variable {d : Md}
theorem Md.LS (h : d.Ok) : 1 ≤ d.D ∧ d.D ≤ 5 := by
 have := h.days
 have := rK (s := d.s) h.days.1
 unfold Md.D; omega
theorem Md.GN (h : d.Ok) : (1 ≤ d.nb ∧ d.nb ≤ 4) ∧ d.N0 = (d.nb : Nat) := by
 have := h.bins
 have := rK (s := bl d.s) h.bins.1
 unfold Md.nb Md.N0; omega
theorem Md.KX (h : d.Ok) : d.many ≤ 10 ∧ d.EI = (d.many : Nat) := by
 have := h.moves
 have := eD (d.bs d.nb).2 (d.moves + 1)
 unfold Md.many Md.EI; omega
theorem Md.NJ (h : d.Ok) : d.nl ≤ 8 ∧ d.Nz = (d.nl : Nat) := by
 have := h.levels
 have := eD (d.hs d.nb).2 (d.levels + 1)
 unfold Md.nl Md.Nz; omega
structure OF (d : Md) (k : Nat) (p : (List Int × List sU) × Sk) : Prop where
  len1 : p.1.1.length = k
  len2 : p.1.2.length = k
  taken : p.2.taken = d.s.taken + 2 + 3 * k
  first : ∀ x ∈ p.1.1, 0 ≤ x ∧ x ≤ 59
  bin : ∀ b ∈ p.1.2, b.holds = 300 ∧ (0 ≤ b.first.lo ∧ b.first.hi ≤ 300) ∧ b.first.lo ≤ b.first.hi
  fit : ∀ i, i < k → (nth p.1.2 i).first.lo ≤ nth p.1.1 i ∧ nth p.1.1 i ≤ (nth p.1.2 i).first.hi
theorem Md.Ah (d : Md) : ∀ k, OF d k (d.bs k)
  | 0 => ⟨rfl, rfl, by show (bl (bl d.s)).taken = _; rw [eO, eO]; omega, fun x h => (by cases h), fun b h => (by cases h), fun i h => (by omega)⟩
  | k + 1 => by
    obtain ⟨h1, h2, h3, h4, h5, h6⟩ := Md.Ah d k
    have hb := eD (d.bs k).2 60
    have hn := zG (s := bl (d.bs k).2) (n := dw (d.bs k).2 60) (w := 12) (by omega) (by omega)
    refine ⟨?_, ?_, ?_, fun x hx => ?_, fun b hb => ?_, fun i hi => ?_⟩
    · show ((d.bs k).1.1 ++ [_]).length = _; rw [List.length_append, h1]; rfl
    · show ((d.bs k).1.2 ++ [_]).length = _; rw [List.length_append, h2]; rfl
    · show (bl (bl (bl (d.bs k).2))).taken = _; rw [eO, eO, eO, h3]; omega
    · rcases pL hx with hx | rfl
      · exact h4 x hx
      · omega
    · rcases pL hb with hb | rfl
      · exact h5 b hb
      · exact ⟨rfl, hn.1, by have := hn.2; show (j8 _ _ _).lo ≤ (j8 _ _ _).hi; omega⟩
    · show (nth ((d.bs k).1.2 ++ [_]) i).first.lo ≤ nth ((d.bs k).1.1 ++ [_]) i ∧ nth ((d.bs k).1.1 ++ [_]) i ≤ (nth ((d.bs k).1.2 ++ [_]) i).first.hi
      by_cases e : i < k
      · rw [jQ (by omega), jQ (by omega)]; exact h6 i e
      · obtain rfl : i = k := by omega
        rw [sQ h1, sQ h2]
        exact hn.2
theorem Md.E3 (d : Md) (s : Sk) : s.taken + 2 ≤ (d.Fz s).taken ∧ (d.Fz s).taken ≤ s.taken + 3 := by
 unfold Md.Fz; split <;> simp only [eO] <;> omega
theorem Md.DL (h : d.Ok) {s : Sk} : (-1 ≤ d.src s ∧ d.src s < d.nb) ∧ (-1 ≤ d.dst s ∧ d.dst s < d.nb) ∧ d.src s ≠ d.dst s := by
 have hn := d.GN h
 have h1 := rK (s := s) (lo := -1) (hi := (d.nb : Int) - 1) (by omega)
 have h2 := rK (s := bl s) (lo := -1) (hi := (d.nb : Int) - 1) (by omega)
 have h3 := eD (bl (bl s)) d.nb
 unfold Md.src Md.dst
 split
 ·omega
 rename_i e; unfold Md.FY Md.FG at *; omega
structure NI (d : Md) (i : Nat) (p : (List Move × List Int) × Sk) : Prop where
  len1 : p.1.1.length = i
  len2 : p.1.2.length = i
  taken : d.s.taken + 3 + 3 * d.nb ≤ p.2.taken ∧ p.2.taken ≤ d.s.taken + 3 + 3 * d.nb + 6 * i
  day : ∀ k, k < i → (nth p.1.1 k).day = d.day k
  move : ∀ m ∈ p.1.1, (-1 ≤ m.src ∧ m.src < d.nb) ∧ (-1 ≤ m.dst ∧ m.dst < d.nb) ∧ m.src ≠ m.dst ∧ (0 ≤ m.sacks.lo ∧ m.sacks.hi ≤ 300) ∧ m.sacks.lo ≤ m.sacks.hi
  num : ∀ x ∈ p.1.2, 0 ≤ x ∧ x ≤ 39
  fit : ∀ k, k < i → (nth p.1.1 k).sacks.lo ≤ nth p.1.2 k ∧ nth p.1.2 k ≤ (nth p.1.1 k).sacks.hi
  cont : ∀ (b : Nat) (t : Int), b < d.nb → 0 ≤ dO (d.yd p.1.1) (d.am p.1.2) b t ∧ dO (d.yd p.1.1) (d.am p.1.2) b t ≤ 300
theorem OS {x : Int} {n : Nat} (h : -1 ≤ x ∧ x < n) (h1 : x ≠ -1) : ∃ k : Nat, x = k ∧ k < n := ⟨x.toNat, by omega, by omega⟩
theorem Md.LO (h : d.Ok) {i : Nat} {p : (List Move × List Int) × Sk} (hp : NI d i p) : (0 ≤ d.num p i ∧ d.num p i ≤ 39) ∧ (d.dst p.2 ≠ -1 → d.num p i ≤ 300 - dO (d.yd p.1.1) (d.am p.1.2) (d.dst p.2) (d.day i + 1)) ∧ (d.src p.2 ≠ -1 → d.num p i ≤ dO (d.yd p.1.1) (d.am p.1.2) (d.src p.2) (d.day i + 1)) := by
 have hb := eD (d.Fz p.2) 40
 obtain ⟨h1, h2, h3⟩ := d.DL (s := p.2) h
 have := IW (y := d.yd p.1.1) (a := d.am p.1.2) (m := d.mv p.2 i) (n := dw (d.Fz p.2) 40) (by omega)
  (fun hd => by obtain ⟨k, e, hk⟩ := OS h2 hd; show dO _ _ (d.dst p.2) _ ≤ _; rw [e]; exact (hp.cont k _ hk).2)
  (fun hd => by obtain ⟨k, e, hk⟩ := OS h1 hd; show _ ≤ dO _ _ (d.src p.2) _; rw [e]; exact (hp.cont k _ hk).1)
 exact ⟨⟨this.1.1, by have := this.1.2; unfold Md.num; omega⟩, this.2.1, this.2.2⟩
theorem Md.Af (h : d.Ok) : ∀ i, i ≤ d.many → NI d i (d.ms i)
  | 0, _ => by
    obtain ⟨h1, h2, h3, h4, h5, h6⟩ := d.Ah d.nb
    refine ⟨rfl, rfl, ?_, fun k hk => (by omega), fun m hm => (by cases hm), fun x hx => (by cases hx), fun k hk => (by omega), fun b t hb => ?_⟩
    · show _ ≤ (bl (d.bs d.nb).2).taken ∧ (bl (d.bs d.nb).2).taken ≤ _; rw [eO, h3]; omega
    · have := h4 _ (cR (show b < (d.bs d.nb).1.1.length by omega))
      show 0 ≤ nth d.first ((b : Nat) : Int).toNat ∧ nth d.first ((b : Nat) : Int).toNat ≤ 300
      rw [show ((b : Nat) : Int).toNat = b by omega]; unfold Md.first; omega
  | i + 1, hi => by
    have hp := Md.Af h i (by omega)
    obtain ⟨hn, hnd, hns⟩ := d.LO h hp
    obtain ⟨h1, h2, h3, h4, h5, h6, h7, h8⟩ := hp
    have hD := d.LS h
    obtain ⟨hd1, hd2⟩ := BS (D := d.D) (i := i) (n := d.many) hD.1 (by omega)
    obtain ⟨m1, m2, m3⟩ := d.DL (s := (d.ms i).2) h
    have hnear := zG (s := bl (d.Fz (d.ms i).2)) (n := d.num (d.ms i) i) (w := 15) (by omega) (by omega)
    have hk := d.E3 (d.ms i).2
    refine ⟨?_, ?_, ?_, fun k hk => ?_, fun m hm => ?_, fun x hx => ?_, fun k hk => ?_, fun b t hb => ?_⟩
    · show ((d.ms i).1.1 ++ [_]).length = _; rw [List.length_append, h1]; rfl
    · show ((d.ms i).1.2 ++ [_]).length = _; rw [List.length_append, h2]; rfl
    · show _ ≤ (bl (bl (bl (d.Fz (d.ms i).2)))).taken ∧ (bl (bl (bl (d.Fz (d.ms i).2)))).taken ≤ _
      simp only [eO]; omega
    · show (nth ((d.ms i).1.1 ++ [_]) k).day = _
      by_cases e : k < i
      · rw [jQ (by omega)]; exact h4 k e
      · obtain rfl : k = i := by omega
        rw [sQ h1]; rfl
    · rcases pL hm with hm | rfl
      · exact h5 m hm
      · exact ⟨m1, m2, m3, hnear.1, by have := hnear.2; show (j8 _ _ _).lo ≤ (j8 _ _ _).hi; omega⟩
    · rcases pL hx with hx | rfl
      · exact h6 x hx
      · exact hn
    · show (nth ((d.ms i).1.1 ++ [_]) k).sacks.lo ≤ nth ((d.ms i).1.2 ++ [_]) k ∧ nth ((d.ms i).1.2 ++ [_]) k ≤ (nth ((d.ms i).1.1 ++ [_]) k).sacks.hi
      by_cases e : k < i
      · rw [jQ (by omega), jQ (by omega)]; exact h7 k e
      · obtain rfl : k = i := by omega
        rw [sQ h1, sQ h2]
        exact hnear.2
    · have e0 : dO (d.yd ((d.ms i).1.1 ++ [d.full (d.ms i) i])) (d.am ((d.ms i).1.2 ++ [d.num (d.ms i) i])) b t = _ := Gu (y := d.yd (d.ms i).1.1) (a := d.am (d.ms i).1.2) (m := d.full (d.ms i) i) (n := d.num (d.ms i) i) (bin := b) (time := t) (by show (d.ms i).1.2.length = (d.ms i).1.1.length; omega)
      show 0 ≤ dO (d.yd ((d.ms i).1.1 ++ [d.full (d.ms i) i])) (d.am ((d.ms i).1.2 ++ [d.num (d.ms i) i])) b t ∧ dO (d.yd ((d.ms i).1.1 ++ [d.full (d.ms i) i])) (d.am ((d.ms i).1.2 ++ [d.num (d.ms i) i])) b t ≤ 300
      have hc := h8 b t hb
      by_cases ht : d.day i < t
      · have hl : dO (d.yd (d.ms i).1.1) (d.am (d.ms i).1.2) b t = dO (d.yd (d.ms i).1.1) (d.am (d.ms i).1.2) b (d.day i + 1) :=
          DZ (dd := d.day i) (fun k hk => by
            have hk : k < (d.ms i).1.1.length := hk
            show (nth (d.ms i).1.1 k).day ≤ _
            rw [h4 k (by omega)]; exact hd2 k (by omega)) (by omega) _ (Nat.le_refl _)
        have e1 : mV (d.full (d.ms i) i) b t = decide (d.dst (d.ms i).2 = (b : Int)) := by
          show (decide (d.day i < t) && _) = _; rw [decide_eq_true ht]; rfl
        have e2 : kB (d.full (d.ms i) i) b t = decide (d.src (d.ms i).2 = (b : Int)) := by
          show (decide (d.day i < t) && _) = _; rw [decide_eq_true ht]; rfl
        rw [e0, e1, e2]
        rw [hl] at hc ⊢
        by_cases q1 : d.dst (d.ms i).2 = (b : Int) <;> by_cases q2 : d.src (d.ms i).2 = (b : Int)
        · exact absurd (q2.trans q1.symm) m3
        · rw [decide_eq_true q1, decide_eq_false q2]
          have := hnd (by omega)
          rw [q1] at this
          simp only [if_true, Bool.false_eq_true, if_false]; omega
        · rw [decide_eq_false q1, decide_eq_true q2]
          have := hns (by omega)
          rw [q2] at this
          simp only [if_true, Bool.false_eq_true, if_false]; omega
        · rw [decide_eq_false q1, decide_eq_false q2]
          simp only [Bool.false_eq_true, if_false]; omega
      · have e1 : mV (d.full (d.ms i) i) b t = false := by show (decide (d.day i < t) && _) = _; rw [decide_eq_false ht]; rfl
        have e2 : kB (d.full (d.ms i) i) b t = false := by show (decide (d.day i < t) && _) = _; rw [decide_eq_false ht]; rfl
        rw [e0, e1, e2]
        simp only [Bool.false_eq_true, if_false]; omega
theorem Md.Dz (b : Nat) : ∀ k, 0 ≤ d.most b k ∧ (∀ t : Nat, t < k → dO d.y0 d.real b t ≤ d.most b k) ∧ ((∀ t : Nat, dO d.y0 d.real b t ≤ 300) → d.most b k ≤ 300)
  | 0 => ⟨Int.le_refl _, fun t h => (by omega), fun _ => (by show (0 : Int) ≤ 300; omega)⟩
  | k + 1 => by
    obtain ⟨h1, h2, h3⟩ := Md.Dz b k
    refine ⟨?_, fun t ht => ?_, fun h => ?_⟩
    · show 0 ≤ max _ _; omega
    · show _ ≤ max _ _
      by_cases e : t < k
      · have := h2 t e; omega
      · obtain rfl : t = k := by omega
        omega
    · have := h3 h; have := h k
      show max _ _ ≤ _; omega
structure N7 (d : Md) (k : Nat) (p : List sU × Sk) : Prop where
  len : p.1.length = d.nb
  taken : p.2.taken = (d.ms d.many).2.taken + k
  old : ∀ i, i < d.nb → (nth p.1 i).first = (nth d.vR i).first
  holds : ∀ i, i < k → 0 ≤ (nth p.1 i).holds ∧ (nth p.1 i).holds ≤ 300 ∧ min 300 (d.most i (d.D + 1).toNat) ≤ (nth p.1 i).holds
theorem Md.HU (d : Md) : ∀ k, k ≤ d.nb → N7 d k (d.hs k)
  | 0, _ => ⟨(d.Ah d.nb).len2, by show (d.ms d.many).2.taken = _; omega, fun i _ => rfl, fun i h => (by omega)⟩
  | k + 1, hk => by
    obtain ⟨h1, h2, h3, h4⟩ := Md.HU d k (by omega)
    have hb := eD (d.hs k).2 30
    have hm := (d.Dz k (d.D + 1).toNat).1
    refine ⟨?_, ?_, fun i hi => ?_, fun i hi => ?_⟩
    · show ((d.hs k).1.set k _).length = _; rw [List.length_set, h1]
    · show (bl (d.hs k).2).taken = _; rw [eO, h2]; omega
    · show (nth ((d.hs k).1.set k _) i).first = _
      rw [jd (by omega)]
      split
      · rename_i e; subst e; exact h3 k hi
      · exact h3 i hi
    · show 0 ≤ (nth ((d.hs k).1.set k _) i).holds ∧ (nth ((d.hs k).1.set k _) i).holds ≤ 300 ∧ _ ≤ (nth ((d.hs k).1.set k _) i).holds
      rw [jd (by omega)]
      split
      · rename_i e; subst e
        show 0 ≤ min 300 (_ + _) ∧ min 300 (_ + _) ≤ 300 ∧ _ ≤ min 300 (_ + _)
        omega
      · exact h4 i (by omega)
structure OE (d : Md) (k : Nat) (p : List Level × Sk) : Prop where
  len : p.1.length = k
  taken : p.2.taken = (d.hs d.nb).2.taken + 1 + 4 * k
  level : ∀ l ∈ p.1, (0 ≤ l.day ∧ l.day ≤ d.D) ∧ (0 ≤ l.bin ∧ l.bin < d.nb) ∧ (0 ≤ l.sacks.lo ∧ l.sacks.hi ≤ 300) ∧ l.sacks.lo ≤ dO d.y0 d.real l.bin l.day ∧ dO d.y0 d.real l.bin l.day ≤ l.sacks.hi
theorem Md.JP (h : d.Ok) (b : Nat) (t : Int) (hb : b < d.nb) : 0 ≤ dO d.y0 d.real b t ∧ dO d.y0 d.real b t ≤ 300 := (d.Af h d.many (Nat.le_refl _)).cont b t hb
theorem Md.Gi (h : d.Ok) : ∀ k, OE d k (d.ls k)
  | 0 => ⟨rfl, by show (bl (d.hs d.nb).2).taken = _; rw [eO]; omega, fun l hl => (by cases hl)⟩
  | k + 1 => by
    obtain ⟨h1, h2, h3⟩ := Md.Gi h k
    have hD := d.LS h
    have hn := d.GN h
    have b1 := eD (d.ls k).2 (d.D + 1)
    have b2 := eD (bl (d.ls k).2) d.nb
    obtain ⟨b, eb, hb⟩ : ∃ b : Nat, dw (bl (d.ls k).2) d.nb = b ∧ b < d.nb := ⟨(dw (bl (d.ls k).2) d.nb).toNat, by omega, by omega⟩
    have hc := d.JP h b (dw (d.ls k).2 (d.D + 1)) hb
    rw [← eb] at hc
    have hnear := zG (s := bl (bl (d.ls k).2)) (w := 8) hc (by omega)
    refine ⟨?_, ?_, fun l hl => ?_⟩
    · show ((d.ls k).1 ++ [_]).length = _; rw [List.length_append, h1]; rfl
    · show (bl (bl (bl (bl (d.ls k).2)))).taken = _; simp only [eO]; omega
    · rcases pL hl with hl | rfl
      · exact h3 l hl
      · exact ⟨⟨b1.1, by show dw (d.ls k).2 (d.D + 1) ≤ d.D; omega⟩, ⟨b2.1, by show dw (bl (d.ls k).2) d.nb < d.nb; omega⟩, hnear.1, hnear.2⟩
theorem Md.lens (h : d.Ok) : (d.B5.bins.length = d.nb ∧ d.B5.moves.length = d.many) ∧ d.B5.levels.length = d.nl ∧ d.real.first.length = d.nb ∧ d.real.bN.length = d.many :=
 ⟨⟨(d.HU d.nb (Nat.le_refl _)).len, (d.Af h d.many (Nat.le_refl _)).len1⟩, (d.Gi h d.nl).len, (d.Ah d.nb).len1, (d.Af h d.many (Nat.le_refl _)).len2⟩
theorem Md.right (h : d.Ok) : d.B5.cZ := by
 obtain ⟨⟨l1, l2⟩, l3, l4, l5⟩ := d.lens h
 have hD := d.LS h
 have hn := d.GN h
 have hm := d.KX h
 have hl := d.NJ h
 have H := d.HU d.nb (Nat.le_refl _)
 have B := d.Ah d.nb
 have M := d.Af h d.many (Nat.le_refl _)
 have L := d.Gi h d.nl
 refine ⟨hD, by omega, by omega, by omega, fun b hb => ?_, fun m hm' => ?_, fun l hl' => ?_⟩
 ·obtain ⟨i, hi, rfl⟩ := oA hb
  rw [l1] at hi
  have h1 := H.holds i hi
  have h2 := H.old i hi
  have h3 := B.bin _ (cR (show i < d.vR.length by have := B.len2; unfold Md.vR; omega))
  have e : (nth d.B5.bins i).first = (nth d.vR i).first := h2
  rw [e]
  exact ⟨⟨h1.1, h1.2.1⟩, h3.2.1, h3.2.2⟩
 ·obtain ⟨i, hi, rfl⟩ := oA hm'
  have h1 := M.move _ hm'
  have h2 : (nth d.B5.moves i).day = d.day i := M.day i (by rw [l2] at hi; exact hi)
  have h3 := (BS (D := d.D) (i := i) (n := d.many) hD.1 (by rw [l2] at hi; exact hi)).1
  have e : (d.B5.bins.length : Int) = d.nb := by rw [l1]
  rw [h2, e]
  exact ⟨h3, h1.1, h1.2.1, h1.2.2.1, h1.2.2.2.1, h1.2.2.2.2⟩
 have h1 := L.level _ hl'
 have e : (d.B5.bins.length : Int) = d.nb := by rw [l1]
 rw [e]
 exact ⟨h1.1, h1.2.1, h1.2.2.1, by omega⟩
end
theorem En {y : bA} (h : y.cZ) : bT y = 0 := by
 have a1 : kM y = false := by
  have h1 := h.days; have h2 := h.bins; have h3 := h.moves; have h4 := h.levels
  simp only [kM, Bool.or_eq_false_iff, Bool.not_eq_false', dA, decide_eq_false_iff_not]
  omega
 have al : ∀ {s : Span}, (0 ≤ s.lo ∧ s.hi ≤ 300) ∧ s.lo ≤ s.hi → eo s = true := fun {s} h => by
  unfold eo; rw [Bool.and_eq_true, dA, dA]; omega
 have all : ∀ {α : Type} {l : List α} {p : α → Bool}, (∀ x ∈ l, p x = true) → (!l.all p) = false := fun h => by rw [Bool.not_eq_false', List.all_eq_true]; exact h
 have a2 : jt y = false := all fun b hb => by
  obtain ⟨h1, h2, h3⟩ := h.bin b hb
  rw [Bool.and_eq_true, dA, al ⟨h2, h3⟩]; exact ⟨by omega, rfl⟩
 have a3 : iO y = false := by
  unfold iO
  rw [all fun m hm => al ⟨(h.move m hm).2.2.2.2.1, (h.move m hm).2.2.2.2.2⟩, all fun l hl => al ⟨(h.level l hl).2.2.1, (h.level l hl).2.2.2⟩]; rfl
 have fin : ∀ {n : Int}, -1 ≤ n ∧ n < y.bins.length → y.fin n = true := fun {n} h => by
  unfold bA.fin bA.bin; rw [Bool.or_eq_true, decide_eq_true_eq, dA]; omega
 have a4 : xJ y = false := all fun m hm => by
  obtain ⟨h1, h2, h3, _⟩ := h.move m hm
  rw [Bool.and_eq_true, Bool.and_eq_true, dA, fin h2, fin h3]; exact ⟨⟨by omega, rfl⟩, rfl⟩
 have a5 : qQ y = false := all fun l hl => by
  obtain ⟨h1, h2, _⟩ := h.level l hl
  unfold bA.time bA.bin; rw [Bool.and_eq_true, dA, dA]; omega
 have a6 : oW y = false := all fun m hm => by
  rw [Bool.not_eq_true', decide_eq_false_iff_not]; exact (h.move m hm).2.2.2.1
 have a7 : om y = false := by
  unfold om
  rw [all (p := fun b : sU => fO b.first) fun b hb => decide_eq_true (h.bin b hb).2.2, all (p := fun m : Move => fO m.sacks) fun m hm => decide_eq_true (h.move m hm).2.2.2.2.2, all (p := fun l : Level => fO l.sacks) fun l hl => decide_eq_true (h.level l hl).2.2.2]; rfl
 unfold bT
 rw [a1, a2, a3, a4, a5, a6, a7]; rfl
end Go.Proofs.YtelbollidfdcjaaGreat
namespace Go.Proofs.YtelbollidfdcjaaGreat
open Go Go.T
section
variable {y : bA} {c : Nat → Bool} {a : dL} {m : List Int} {b t n : Nat} {x : Int}
theorem EU.same {f g : dL → Int} {s s' : Span} (h : EU y c f s) (h' : EU y c g s') (e : ∀ a, f a = g a) : s = s' := by
 have : f = g := funext e
 subst this; exact h.one h'
end
end Go.Proofs.YtelbollidfdcjaaGreat
namespace Go.Proofs.YtelbollidfdcjaaGreat
open Go Go.T
section
variable {y : bA} {a : dL} {c : Nat → Bool}
end
end Go.Proofs.YtelbollidfdcjaaGreat
namespace Go.Proofs.YtelbollidfdcjaaGreat
open Go Go.T
set_option maxHeartbeats 2000000
attribute [local irreducible] g6 fS m8 qg iZ iT ij ia ig qM iS qR dY gb qd gV qV nth fU dR av dK bodyPost Exit.then Exit.inBlock Code.wp Code.wpIn fR qb qX qT iw qW qc iY fC cT cU bodyPostM dr
end Go.Proofs.YtelbollidfdcjaaGreat
namespace Go.Proofs.YtelbollidfdcjaaGreat
open Go Go.T
set_option maxHeartbeats 4000000
structure NA (y : bA) (a : dL) : Prop where
  len : y.moves.length ≤ a.bN.length
  qL : a.bN.length ≤ 1000
  first : ∀ x ∈ a.first, -1000 ≤ x ∧ x ≤ 1000
  bN : ∀ x ∈ a.bN, -1000 ≤ x ∧ x ≤ 1000
theorem NA.up {y : bA} {a : dL} (h : NA y a) {bin time : Int} (hb : bin.toNat < a.first.length) {k : Nat} (hk : k ≤ y.moves.length) : -3000000 ≤ dy y a bin time k ∧ dy y a bin time k ≤ 3000000 := by
 have h1 := h.len
 have h2 := h.qL
 have := Gf (y := y) (bin := bin) (time := time) (B := 1000) (by omega) h.first h.bN hb k (by omega)
 omega
attribute [local irreducible] g6 fS m8 qg iZ iT ij ia ig qM iS qR dY gb qd gV qV nth fU dR av dK bodyPost Exit.then Exit.inBlock Code.wp Code.wpIn fR qb qX qT iw qW qc iY fC cT cU bodyPostM dr
end Go.Proofs.YtelbollidfdcjaaGreat
namespace Go.T
open Go Go.RowKit
section
variable {P : Program} {fr : Fr} {ops : Array Oper} {A : As} {rest : List Oper} {K : As → List (As × Fx) → Prop} {d : Nat} {t ty' : TypeId} {p : String} {e : Array Edge} [T : kf P]
end
end Go.T
namespace Go.T
open Go Go.RowKit
section
variable {P : Program} {fr : Fr} {ops : Array Oper} {A : As} {rest : List Oper} {K : As → List (As × Fx) → Prop} {d : Nat} {t ty' : TypeId} {p : String} {e : Array Edge} [T : kf P]
end
end Go.T
namespace Go.T
open Go Go.RowKit
section
variable {P : Program} {fr : Fr} {A : As} {Q : Exit → Act → World → Prop} {c : Code}
end
section
variable {P : Program} {fr : Fr} {ops : Array Oper} {A : As} {rest : List Oper} {K : As → List (As × Fx) → Prop} {d : Nat} {t ty' : TypeId} {p : String} {e : Array Edge} [T : kf P]
end
end Go.T
namespace Go.T
open Go Go.RowKit
section
variable {P : Program} {A : As} {fn : Func} {n : Nat} {w0 : World} {M0 : bB} {F : List Nat} {post : List (Nat × Cont)} [T : kf P]
end
end Go.T
namespace Go.T
open Go Go.RowKit
section
variable {P : Program} {fr : Fr} {ops : Array Oper} {A : As} {rest : List Oper} {K : As → List (As × Fx) → Prop} {d : Nat} {t ty' : TypeId} {p : String} {e : Array Edge} [T : kf P]
end
end Go.T
namespace Go.Proofs.YtelbollidfdcjaaGreat
open Go Go.T
set_option maxHeartbeats 8000000
section
variable {d : Md} {s : Sk} {k i : Nat} {p : (List Move × List Int) × Sk} {y : bA} {a : dL} {m : Move} {n : Int}
end
attribute [local irreducible] Md.D Md.N0 Md.nb Md.bs Md.first Md.vR Md.EI Md.many Md.src Md.dst Md.Fz Md.day Md.num Md.ms Md.bN Md.Ct Md.most Md.hs Md.LK Md.Nz Md.nl Md.ls Md.Dk dO uM vv yM sG j8 bl dw mF HI Md.FY Md.FG
attribute [local irreducible] g6 fS m8 qg iZ iT ij ia ig qM iS qR dY gb qd gV qV nth fU dR av dK bodyPost Exit.then Exit.inBlock Code.wp Code.wpIn fR qb qX qT iw qW qc iY fC cT cU bodyPostM dr
end Go.Proofs.YtelbollidfdcjaaGreat
namespace Go.Proofs.YtelbollidfdcjaaGreat
open Go Go.T
set_option maxHeartbeats 8000000
structure Oh (a : dL) : Prop where
  qL : a.bN.length ≤ 1000
  first : ∀ x ∈ a.first, -1000 ≤ x ∧ x ≤ 1000
  bN : ∀ x ∈ a.bN, -1000 ≤ x ∧ x ≤ 1000
open Classical in
noncomputable def lX (y : bA) (a : dL) : Bool := decide (iV y (fun _ => true) a)
section
variable {y : bA} {a : dL} {b t k : Nat}
open Classical in
theorem yw (h : iV y (fun _ => true) a) : lX y a = true := by unfold lX; exact decide_eq_true h
open Classical in
theorem lu (h : ¬ iV y (fun _ => true) a) : lX y a = false := by unfold lX; exact decide_eq_false h
theorem GP (h : (!decide ((a.first.length : Int) = y.bins.length) || !decide ((a.bN.length : Int) = y.moves.length)) = false) : wX y a := by
 rw [Bool.or_eq_false_iff, Bool.not_eq_false', Bool.not_eq_false', decide_eq_true_eq, decide_eq_true_eq] at h
 exact ⟨by omega, by omega⟩
end
attribute [local irreducible] dO lX
attribute [local irreducible] g6 fS m8 qg iZ iT ij ia ig qM iS qR dY gb qd gV qV nth fU dR av dK bodyPost Exit.then Exit.inBlock Code.wp Code.wpIn fR qb qX qT iw qW qc iY fC cT cU bodyPostM dr
end Go.Proofs.YtelbollidfdcjaaGreat
namespace Go.Proofs.YtelbollidfdcjaaGreat
open Go Go.T
section
variable {d : Md} {v : Bool} {c : Nat → Bool} {y : bA} {b t k n : Nat} {l : List sU}
variable {f : Nat → Nat → Int}
end
end Go.Proofs.YtelbollidfdcjaaGreat
namespace Go.Proofs.YtelbollidfdcjaaGreat
open Go Go.T
def hH (y : bA) (a : dL) (b d : Nat) : List Int := (List.range (d + 1)).map fun t => cV y a b t
def fK (y : bA) (a : dL) : List (List Int) := (List.range y.bins.length).map fun b => hH y a b y.D
def zA (y : bA) (a : dL) (d : Nat) : List (List Int) := (List.range y.bins.length).map fun b => hH y a b d
def vI (y : bA) (a : dL) (k : Nat) : List (List Int) := (List.range y.bins.length).map fun b => if b < k then hH y a b 0 else []
def tW (y : bA) (a : dL) (d k : Nat) : List (List Int) := (List.range y.bins.length).map fun b => if b < k then hH y a b d ++ [cV y a b d] else hH y a b d
def n6 (y : bA) (a : dL) (d i b : Nat) : Int := cV y a b d + cg (fun i => if (nth y.moves i).day = d then oL y a.bN b i else 0) i
def l7 (y : bA) (a : dL) (d i : Nat) : List (List Int) := (List.range y.bins.length).map fun b => hH y a b d ++ [n6 y a d i b]
def nJ (y : bA) (a : dL) (d i b : Nat) : Int := n6 y a d i b - ind ((nth y.moves i).src = b) * nth a.bN i
def rD (y : bA) (a : dL) (d i : Nat) : List (List Int) := (List.range y.bins.length).map fun b => hH y a b d ++ [nJ y a d i b]
section
variable {y : bA} {a : dL} {b d i k : Nat} {f g : Nat → List Int} {n : Nat}
theorem sS (h : k < n) (hf : ∀ b, b < n → b ≠ k → f b = g b) : ((List.range n).map f).set k (g k) = (List.range n).map g := by
 refine s8 (by rw [List.length_set, List.length_map, List.length_map]) fun j hj => ?_
 rw [List.length_set, List.length_map, List.length_range] at hj
 rw [jd (by rw [List.length_map, List.length_range]; exact hj), fL _ hj]
 by_cases e : k = j
 ·subst e; rw [if_pos rfl, fL _ hj]
 rw [if_neg e, fL _ hj]; exact hf j hj (Ne.symm e)
theorem kP : (hH y a b d).length = d + 1 := by unfold hH; rw [List.length_map, List.length_range]
theorem Aj (h : k ≤ d) : nth (hH y a b d) k = cV y a b k := by unfold hH; exact fL _ (by omega)
theorem Fq : hH y a b d ++ [cV y a b (d + 1)] = hH y a b (d + 1) := by
 unfold hH; rw [List.range_succ (n := d + 1), List.map_append]; rfl
theorem FX (hr : y.cZ) : [nth a.first b] = hH y a b 0 := by
 show _ = [cV y a b 0]; rw [nF hr]
theorem FM : List.replicate y.bins.length ([] : List Int) = vI y a 0 := by
 refine s8 (by unfold vI; rw [List.length_replicate, List.length_map, List.length_range]) fun j hj => ?_
 rw [List.length_replicate] at hj
 unfold vI
 rw [fL _ hj, if_neg (Nat.not_lt_zero _), iD (by rw [List.length_replicate]; exact hj), List.getElem_replicate]
theorem Ig : (vI y a k).length = y.bins.length := by unfold vI; rw [List.length_map, List.length_range]
theorem IU (hr : y.cZ) (h : k < y.bins.length) : (vI y a k).set k [nth a.first k] = vI y a (k + 1) := by
 have := sS (f := fun b => if b < k then hH y a b 0 else []) (g := fun b => if b < k + 1 then hH y a b 0 else []) h fun b _ hb => by
  by_cases e : b < k
  ·rw [if_pos e, if_pos (by omega)]
  rw [if_neg e, if_neg (by omega)]
 rw [if_pos (Nat.lt_succ_self k), ← FX hr] at this
 exact this
theorem G0 (h : y.bins.length ≤ k) : vI y a k = zA y a 0 := by
 unfold vI zA
 refine List.map_congr_left fun b hb => ?_
 rw [if_pos (by have := List.mem_range.1 hb; omega)]
theorem FW : zA y a d = tW y a d 0 := by
 unfold zA tW
 exact List.map_congr_left fun b _ => by rw [if_neg (Nat.not_lt_zero _)]
theorem IN : (tW y a d k).length = y.bins.length := by unfold tW; rw [List.length_map, List.length_range]
theorem GX (h : k < y.bins.length) : nth (tW y a d k) k = hH y a k d := by
 unfold tW; rw [fL _ h, if_neg (Nat.lt_irrefl _)]
theorem Ii (h : k < y.bins.length) : (tW y a d k).set k (hH y a k d ++ [cV y a k d]) = tW y a d (k + 1) := by
 have := sS (f := fun b => if b < k then hH y a b d ++ [cV y a b d] else hH y a b d) (g := fun b => if b < k + 1 then hH y a b d ++ [cV y a b d] else hH y a b d) h fun b _ hb => by
  by_cases e : b < k
  ·rw [if_pos e, if_pos (by omega)]
  rw [if_neg e, if_neg (by omega)]
 rw [if_pos (Nat.lt_succ_self k)] at this
 exact this
theorem Iq (h : y.bins.length ≤ k) : tW y a d k = l7 y a d 0 := by
 unfold tW l7
 refine List.map_congr_left fun b hb => ?_
 rw [if_pos (by have := List.mem_range.1 hb; omega)]
 show _ = _ ++ [cV y a b d + 0]
 rw [Int.add_zero]
theorem IC : (l7 y a d i).length = y.bins.length := by unfold l7; rw [List.length_map, List.length_range]
theorem B7 : (rD y a d i).length = y.bins.length := by unfold rD; rw [List.length_map, List.length_range]
theorem A7 (h : b < y.bins.length) : nth (l7 y a d i) b = hH y a b d ++ [n6 y a d i b] := by unfold l7; rw [fL _ h]
theorem CA (h : b < y.bins.length) : nth (rD y a d i) b = hH y a b d ++ [nJ y a d i b] := by unfold rD; rw [fL _ h]
theorem Bj {l : List Int} {x : Int} (h : k = l.length) : nth (l ++ [x]) k = x := by subst h; exact m6 (i := 0)
theorem BB {l : List Int} {x z : Int} (h : k = l.length) : (l ++ [x]).set k z = l ++ [z] := by
 subst h; rw [List.set_append_right _ _ (Nat.le_refl _), Nat.sub_self]; rfl
theorem MZ (h : b < y.bins.length) : (nth (l7 y a d i) b).length = d + 2 ∧ nth (nth (l7 y a d i) b) (d + 1) = n6 y a d i b := by
 rw [A7 h]
 exact ⟨by rw [List.length_append, kP]; rfl, Bj kP.symm⟩
theorem Ll (h : b < y.bins.length) : (nth (rD y a d i) b).length = d + 2 ∧ nth (nth (rD y a d i) b) (d + 1) = nJ y a d i b := by
 rw [CA h]
 exact ⟨by rw [List.length_append, kP]; rfl, Bj kP.symm⟩
theorem GH (h : ¬ (nth y.moves i).day = d) : l7 y a d i = l7 y a d (i + 1) := by
 unfold l7
 refine List.map_congr_left fun b _ => ?_
 congr 2
 show _ = cV y a b d + (cg _ i + (if _ then _ else _))
 rw [if_neg h, Int.add_zero]; rfl
theorem Kh (hb : b < y.bins.length) (h : (nth y.moves i).src = b) : (l7 y a d i).set b ((nth (l7 y a d i) b).set (d + 1) (n6 y a d i b - nth a.bN i)) = rD y a d i := by
 have := sS (f := fun b => hH y a b d ++ [n6 y a d i b]) (g := fun b => hH y a b d ++ [nJ y a d i b]) hb fun c _ hc => by
  congr 2
  unfold nJ; rw [dm (by rw [h]; omega)]; omega
 rw [A7 hb, BB kP.symm]
 have e : nJ y a d i b = n6 y a d i b - nth a.bN i := by unfold nJ; rw [eZ h]; omega
 rw [← e]; exact this
theorem IK (h : (nth y.moves i).src = -1) : l7 y a d i = rD y a d i := by
 unfold l7 rD
 refine List.map_congr_left fun b _ => ?_
 congr 2
 unfold nJ; rw [dm (by rw [h]; omega)]; omega
theorem zN (h : (nth y.moves i).day = d) : nJ y a d i b + ind ((nth y.moves i).dst = b) * nth a.bN i = n6 y a d (i + 1) b := by
 show _ = cV y a b d + (cg _ i + (if _ then _ else _))
 rw [if_pos h]
 unfold nJ n6 oL
 rw [Int.sub_mul]; omega
theorem KR (hd : (nth y.moves i).day = d) (hb : b < y.bins.length) (h : (nth y.moves i).dst = b) : (rD y a d i).set b ((nth (rD y a d i) b).set (d + 1) (nJ y a d i b + nth a.bN i)) = l7 y a d (i + 1) := by
 have := sS (f := fun b => hH y a b d ++ [nJ y a d i b]) (g := fun b => hH y a b d ++ [n6 y a d (i + 1) b]) hb fun c _ hc => by
  congr 2
  rw [← zN hd, dm (by rw [h]; omega)]; omega
 rw [CA hb, BB kP.symm]
 have e : n6 y a d (i + 1) b = nJ y a d i b + nth a.bN i := by rw [← zN hd, eZ h]; omega
 rw [← e]; exact this
theorem It (hd : (nth y.moves i).day = d) (h : (nth y.moves i).dst = -1) : rD y a d i = l7 y a d (i + 1) := by
 unfold l7 rD
 refine List.map_congr_left fun b _ => ?_
 congr 2
 rw [← zN hd, dm (by rw [h]; omega)]; omega
theorem Ji (h : i = y.moves.length) : l7 y a d i = zA y a (d + 1) := by
 subst h
 unfold l7 zA
 refine List.map_congr_left fun b _ => ?_
 have e : n6 y a d y.moves.length b = cV y a b (d + 1) := sx.symm
 rw [e, Fq]
theorem KG (h : d = y.D) : zA y a d = fK y a := by subst h; rfl
structure oR (y : bA) (a : dL) : Prop where
  lens : wX y a
  first : ∀ x ∈ a.first, 0 ≤ x ∧ x ≤ 300
  bN : ∀ x ∈ a.bN, 0 ≤ x ∧ x ≤ 300
theorem ED (hr : y.cZ) (h : oR y a) (hi : i < y.moves.length) : -300 ≤ oL y a.bN b i ∧ oL y a.bN b i ≤ 300 := by
 have hm := h.bN _ (cR (show i < a.bN.length by rw [h.lens.bN]; exact hi))
 have hne := (hr.move _ (cR hi)).2.2.2.1
 unfold oL
 by_cases e1 : (nth y.moves i).dst = b
 ·rw [eZ e1, dm (fun e2 => hne (e2.trans e1.symm))]; omega
 rw [dm e1]
 by_cases e2 : (nth y.moves i).src = b
 ·rw [eZ e2]; omega
 rw [dm e2]; omega
theorem JA (hr : y.cZ) (h : oR y a) (hb : b < y.bins.length) : -3000 ≤ cV y a b d ∧ cV y a b d ≤ 3300 := by
 have h1 := h.first _ (cR (show b < a.first.length by rw [h.lens.first]; exact hb))
 have h2 := nH (f := fun i => if (nth y.moves i).day < d then oL y a.bN b i else 0) (b := 300) (n := y.moves.length) fun i hi => by
  have := ED (b := b) hr h hi
  split <;> omega
 have h3 := hr.moves
 unfold cV
 omega
theorem DX (hr : y.cZ) (h : oR y a) (hb : b < y.bins.length) (hi : i ≤ y.moves.length) : -6000 ≤ n6 y a d i b ∧ n6 y a d i b ≤ 6300 := by
 have h1 := JA (d := d) hr h hb
 have h2 := nH (f := fun i => if (nth y.moves i).day = d then oL y a.bN b i else 0) (b := 300) (n := i) fun j hj => by
  have := ED (b := b) (i := j) hr h (by omega)
  split <;> omega
 have h3 := hr.moves
 unfold n6
 omega
theorem KF (hr : y.cZ) (h : oR y a) (hb : b < y.bins.length) (hi : i < y.moves.length) : -6300 ≤ nJ y a d i b ∧ nJ y a d i b ≤ 6300 := by
 have h1 := DX (d := d) (i := i) hr h hb (by omega)
 have hm := h.bN _ (cR (show i < a.bN.length by rw [h.lens.bN]; exact hi))
 unfold nJ
 by_cases e2 : (nth y.moves i).src = b
 ·rw [eZ e2]; omega
 rw [dm e2]; omega
end
end Go.Proofs.YtelbollidfdcjaaGreat
namespace Go.T
open Go Go.RowKit
section
variable {P : Program} {fr : Fr} {ops : Array Oper} {A : As} {rest : List Oper} {K : As → List (As × Fx) → Prop} {d : Nat} {t ty' : TypeId} {p : String} {e : Array Edge} [T : kf P]
end
end Go.T
namespace Go.T
open Go Go.RowKit
section
variable {P : Program} {fr : Fr} {ops : Array Oper} {A : As} {rest : List Oper} {K : As → List (As × Fx) → Prop} {d : Nat} {t ty' : TypeId} {p : String} {e : Array Edge} [T : kf P]
end
end Go.T
namespace Go.T
open Go Go.RowKit
section
variable {α : Type}
theorem lU {E : El α} {T J : Nat} {q : List (List α)} : (∀ u ∈ cC (q.map fun x => Ty.eL E T J x), u = J) ∧ ∀ u ∈ bX (q.map fun x => Ty.eL E T J x), u = J := by
 constructor <;>
 ·intro u hu
  simp only [cC, bX, List.mem_flatMap, List.mem_map] at hu
  obtain ⟨t, ⟨x, _, rfl⟩, hu⟩ := hu
  simpa [Ty.eL] using hu
def Nx (E : El α) (T2 T J : Nat) (q : List (List α)) (w : World) (M : bB) (t : Nat) : Prop :=
  ∃ b cs, M b = some t ∧ w.heap[b]? = some (.cells cs T2 (0, 0)) ∧ cB w M (q.map fun x => Ty.eL E T J x) (cs.toList.take q.length) ∧ wG E.size (cs.toList.take q.length)
def Cont.mx (E : El α) (T2 T J : Nat) (q : List (List α)) : Cont :=
  { den := Nx E T2 T J q, deps := [J], cdeps := [J]
    mono := fun le hk hs hst hkt ⟨b, cs, h1, h2, h4, h5⟩ => let ⟨a, c⟩ := le.own b _ h1 hkt
      ⟨b, cs, a, (c hst).trans h2, bQ le (fun u hu => by rw [lU.1 u hu]; exact hk J (by simp)) (fun u hu => by rw [lU.2 u hu]; exact hs J (by simp)) h4, h5⟩ }
theorem Cont.jZ {E : El α} {T2 T J : Nat} {q q' : List (List α)} (h : q = q') : (Cont.mx E T2 T J q).Sub (Cont.mx E T2 T J q') := h ▸ Cont.aF _
def MK (size t n i : Nat) (w : World) (M : bB) (v : Value) : Prop :=
  ∀ (g e0 : Nat), ff size v = some (g, e0) → ∃ (b : Nat) (cs : Array Value) (T2 : Nat), M b = some t ∧ w.heap[b]? = some (.cells cs T2 (0, 0)) ∧ ∀ (j : Nat) (u : Value) (e1 : Nat), (cs.toList.take n)[j]? = some u → ff size u = some (g, e1) → j = i ∧ (roomy v = true → e1 ≤ e0)
def OT (E : El α) (T t J n i : Nat) (xs : List α) (w : World) (M : bB) (v : Value) : Prop := xA E T J xs w M v ∧ MK E.size t n i w M v
def Ty.mv (E : El α) (T t J n i : Nat) (xs : List α) : Ty :=
  ⟨OT E T t J n i xs, [t, J], [t, J], fun le hk hs ⟨h, h'⟩ => ⟨(Ty.eL E T J xs).mono le (fun u hu => hk u (by simp [Ty.eL] at hu ⊢; exact .inr hu)) (fun u hu => hs u (by simp [Ty.eL] at hu ⊢; exact .inr hu)) h, fun g e0 he =>
    let ⟨b, cs, T2, h1, h2, h3⟩ := h' g e0 he
    let ⟨a, c⟩ := le.own b t h1 (hk t (by simp))
    ⟨b, cs, T2, a, (c (hs t (by simp))).trans h2, h3⟩⟩, true, fun ho h => (Ty.eL E T J xs).isOne ho h.1⟩
def N6 (E : El α) (T t J i : Nat) (xs : List α) (w : World) (M : bB) (v : Value) : Prop := xA E T J xs w M v ∧ ∃ (b : Nat) (cs : Array Value) (T2 : Nat), M b = some t ∧ w.heap[b]? = some (.cells cs T2 (0, 0)) ∧ cs.toList[i]? = some v
def Ty.ml (E : El α) (T t J i : Nat) (xs : List α) : Ty :=
  ⟨N6 E T t J i xs, [t, J], [t, J], fun le hk hs ⟨h, b, cs, T2, h1, h2, h3⟩ => ⟨(Ty.eL E T J xs).mono le (fun u hu => hk u (by simp [Ty.eL] at hu ⊢; exact .inr hu)) (fun u hu => hs u (by simp [Ty.eL] at hu ⊢; exact .inr hu)) h,
    let ⟨a, c⟩ := le.own b t h1 (hk t (by simp))
    ⟨b, cs, T2, a, (c (hs t (by simp))).trans h2, h3⟩⟩, true, fun ho h => (Ty.eL E T J xs).isOne ho h.1⟩
def OQ (E : El α) (T t J i : Nat) (xs : List α) (k : Nat) (w : World) (M : bB) (v : Value) : Prop := ∃ (u : Value) (g off n c : Nat), N6 E T t J i xs w M u ∧ u = .slice (some ⟨g, off, none⟩) n c ∧ v = .pointer (some ⟨g, off + k, none⟩)
def Ty.me (E : El α) (T t J i : Nat) (xs : List α) (k : Nat) : Ty :=
  ⟨OQ E T t J i xs k, [t, J], [t, J], fun le hk hs ⟨u, g, off, n, c, h, e⟩ => ⟨u, g, off, n, c, (Ty.ml E T t J i xs).mono le hk hs h, e⟩, true, fun _ ⟨_, _, _, _, _, _, _, e⟩ => by rw [e]; rfl⟩
end
section
variable {P : Program} {fr : Fr} {ops : Array Oper} {A : As} {rest : List Oper} {K : As → List (As × Fx) → Prop} {d : Nat} {t ty' : TypeId} {p : String} {e : Array Edge} [T : kf P]
variable {α : Type} {E : El α} {Tb J tg i : Nat} {q : List (List α)} {xs ys : List α}
omit T in
theorem Ap {w : World} {M : bB} {vs : List Value} (hd : cB w M (q.map fun x => Ty.eL E Tb J x) vs) {j : Nat} {u : Value} {g e1 : Nat} (hj : vs[j]? = some u) (hu : ff E.size u = some (g, e1)) : M g = some J := by
 have hlen := cL hd
 have hlt := (List.getElem?_eq_some_iff.1 hj).1
 obtain ⟨x, hx, hdx⟩ := dG hd j (Ty.eL E Tb J (q[j]'(by simpa [hlen] using hlt))) (by rw [List.getElem?_map, List.getElem?_eq_getElem (by simpa [hlen] using hlt)]; rfl)
 rw [hj] at hx
 injection hx with hx
 subst hx
 rcases hdx with ⟨_, e⟩ | ⟨g', off, c, cur, e, hg, _⟩
 ·rw [e] at hu; simp [ff] at hu
 rw [e] at hu
 simp only [ff, Option.some.injEq, Prod.mk.injEq] at hu
 rw [← hu.1]; exact hg
omit T in
theorem HG {x : Operand} {off T2 : Nat} (hx : A.op fr x = .ptr tg off) (hc : A.tag tg = some (.mx E T2 Tb J q)) (h1 : fN tg) {a : Act} {w : World} {M : bB} {rs : List Nat} (wf : Wf w M) (hr : ∀ c ∈ bw x, c ∈ rs) (hrd : ∀ c ∈ rs, c < fr.n → (A.slots c).den w M (a.tmps.getD c undef)) (htg : ∀ y ∈ A.tags, y.1 ∈ [tg] → y.2.den w M y.1) :
 ∃ b cs, a.eval x = .pointer (some ⟨b, off, none⟩) ∧ M b = some tg ∧ w.heap[b]? = some (.cells cs T2 (0, 0)) ∧ cB w M (q.map fun x => Ty.eL E Tb J x) (cs.toList.take q.length) ∧ wG E.size (cs.toList.take q.length) := by
 have hxd := cE hr hrd
 rw [hx] at hxd
 obtain ⟨b, e2, e1⟩ := hxd
 obtain ⟨b', cs, h2, h3⟩ := htg _ (cW hc) (by simp)
 obtain ⟨u, rfl⟩ : ∃ u, tg = u + 1 := ⟨tg - 1, by have := h1.1; omega⟩
 have : b = b' := wf.inj b b' u (by have := h1.2; omega) e2 h2
 subst this
 exact ⟨b, cs, e1, e2, h3⟩
omit T in
theorem G1 {T2 : Nat} {w : World} {M : bB} {v : Value} (wf : Wf w M) (h1 : fN tg) (hi : i < q.length) (hc : Nx E T2 Tb J q w M tg) (hv : ∃ (b : Nat) (cs : Array Value) (T2 : Nat), M b = some tg ∧ w.heap[b]? = some (.cells cs T2 (0, 0)) ∧ cs.toList[i]? = some v) : MK E.size tg q.length i w M v := fun g e0 he => by
 obtain ⟨b, cs, g1, g2, g3, g4⟩ := hc
 obtain ⟨b', cs', T', k1, k2, k3⟩ := hv
 obtain ⟨u, rfl⟩ : ∃ u, tg = u + 1 := ⟨tg - 1, by have := h1.1; omega⟩
 have : b = b' := wf.inj b b' u (by have := h1.2; omega) g1 k1
 subst this
 rw [g2] at k2
 injection k2 with k2
 injection k2 with k2 _
 subst k2
 have hv' : (cs.toList.take q.length)[i]? = some v := by rw [List.getElem?_take, if_pos hi]; exact k3
 refine ⟨b, cs, T2, g1, g2, fun j u e1 hj hju => ?_⟩
 have hij := g4 j i u v g e1 e0 hj hv' hju he
 subst hij
 rw [hv'] at hj
 injection hj with hj
 subst hj
 rw [he] at hju
 injection hju with hju
 injection hju with _ hju
 exact ⟨rfl, fun _ => by omega⟩
theorem pR [Inhabited α] {x : Operand} {off T2 : Nat} {ti : TI} (i : Nat) (hx : A.op fr x = .ptr tg off) (he : off = i) (hc : A.tag tg = some (.mx E T2 Tb J q)) (h1 : fN tg) (hT : T.eE[ty']? = some ti) (ha : ti.k.agg = false) (hi : i < q.length)
 (h : av P fr ops rest (A.set d (.ml E Tb tg J i (nth q i))) fun A' l => K A' ((A, { d := some d, ty := .ml E Tb tg J i (nth q i), rs := bw x, rt := [tg] }) :: l)) : av P fr ops (⟨some d, .load ty' x, t, p, e, none⟩ :: rest) A K :=
 bE (bL rfl rfl fun a w M wf hr ht => by
  subst he
  obtain ⟨b, cs, e1, e2, h3, h4, h5⟩ := HG hx hc h1 wf (fun _ h => h) hr ht
  obtain ⟨v, hv, hdv⟩ := dG h4 off (Ty.eL E Tb J (nth q off)) (by rw [List.getElem?_map, List.getElem?_eq_getElem hi, iD hi]; rfl)
  rw [List.getElem?_take, if_pos hi] at hv
  have hcell : w.cell? ⟨b, off, none⟩ = some v := by simpa [World.cell?, h3] using hv
  exact ⟨v, by simp [execOp, e1, gz hT ha hcell], hdv, b, cs, T2, e2, h3, hv⟩) h
theorem lQ [Inhabited α] {x y : Operand} {kd : IntKind} {j : Nat} {ti te : TI} {el : Nat} (hx : A.op fr x = .ml E Tb tg J i xs) (hy : A.op fr y = .int kd j) (hT : T.eE[ty']? = some ti) (hk : ti.k = .slice el) (hE : T.eE[el]? = some te) (hj : j < xs.length)
 (h : av P fr ops rest (A.set d (.me E Tb tg J i xs (j * te.size))) fun A' l' => K A' ((A, { d := some d, ty := .me E Tb tg J i xs (j * te.size), rs := bw x ++ bw y }) :: l')) : av P fr ops (⟨some d, .indexAddr ty' x y, t, p, e, none⟩ :: rest) A K :=
 bE (bL rfl rfl fun a w M _ hr _ => by
  obtain ⟨hdx, hdy⟩ := op2 hr
  rw [hx] at hdx; rw [hy] at hdy
  have ey : a.eval y = .int kd j := hdy
  obtain ⟨h1, h2⟩ := hdx
  have h1' := h1
  rcases h1 with ⟨h0, _⟩ | ⟨g, off, c, cur, ex, hg, hh, hn, _, _, hd⟩
  ·subst h0; simp at hj
  exact ⟨_, by simp only [execOp, ex, ey, Sem.run_bind, gq hT hk hE (Int.natCast_nonneg j) (show (j : Int).toNat < xs.length from hj)]; rfl, _, g, off, xs.length, c, ⟨h1', h2⟩, ex, by simp⟩) h
theorem tS [Inhabited α] {x : Operand} {k j o : Nat} {ti : TI} {ty : Ty} (hx : A.op fr x = .me E Tb tg J i xs k) (hk : k = j * E.size + o) (hT : T.eE[ty']? = some ti) (ha : ti.k.agg = false) (hj : j < xs.length) (hl : (E.tys (nth xs j))[o]? = some ty)
 (h : av P fr ops rest (A.set d ty) fun A' l => K A' ((A, { d := some d, ty := ty, rs := bw x }) :: l)) : av P fr ops (⟨some d, .load ty' x, t, p, e, none⟩ :: rest) A K :=
 bE (bL rfl rfl fun a w M wf hr ht => by
  have hdx := cE (x := x) (fun _ h => h) hr
  rw [hx] at hdx
  obtain ⟨u, g, off, n, c, ⟨h1, _⟩, eu, ex⟩ := hdx
  rcases h1 with ⟨h0, _⟩ | ⟨g', off', c', cur, ex', hg, hh, hn, _, _, hd⟩
  ·subst h0; simp at hj
  rw [eu] at ex'
  simp only [Value.slice.injEq, Option.some.injEq, Addr.mk.injEq, and_true] at ex'
  obtain ⟨⟨rfl, rfl⟩, rfl, rfl⟩ := ex'
  obtain ⟨v, hv, hdv⟩ := yz hh hd hj hl
  rw [Nat.add_assoc, ← hk] at hv
  exact ⟨v, by simp [execOp, ex, gz hT ha hv], hdv⟩) h
theorem Au {x y : Operand} {st el T2 : Nat} {ti te : TI} (hi0 : i < q.length) (hx : A.op fr x = .ml E el tg J i xs) (hy : A.op fr y = .sl E ys) (hc : A.tag tg = some (.mx E T2 el J q)) (h1 : fN tg) (hJ : 4096 ≤ J) (hp : fr.pass.contains J = false) (hpos : 0 < ys.length) (hT : T.eE[st]? = some ti) (hk : ti.k = .slice el) (hE : T.eE[el]? = some te) (hs : te.size = E.size) (hz : te.zero.length = te.size) (h0 : 0 < te.size)
    (hlen : (xs.length + ys.length) * te.bytes ≤ 140737488355328) (hlen' : xs.length + ys.length ≤ 9223372036854775807)
    (h : av P fr ops rest (A.after { d := some d, ty := .mv E el tg J q.length i (xs ++ ys), S := [tg, J], sets := [(tg, .mx E T2 el J q)], rs := bw x ++ bw y, rt := [tg] }) fun A' l' => K A' ((A, { d := some d, ty := .mv E el tg J q.length i (xs ++ ys), S := [tg, J], sets := [(tg, .mx E T2 el J q)], rs := bw x ++ bw y, rt := [tg] }) :: l')) :
    av P fr ops (⟨some d, .call ⟨.builtin .append, #[x, y], #[st, st]⟩, t, p, e, none⟩ :: rest) A K := by
  refine ⟨_, gC rfl rfl (by simp) (by simp; exact ⟨h1.1, by omega⟩) (by simp) fun a w M wf hr htg => ?_, h⟩
  obtain ⟨hdx, hdy⟩ := op2 hr
  rw [hx] at hdx; rw [hy] at hdy
  obtain ⟨hrow, hlk⟩ := hdx
  have hown : MK E.size tg q.length i w M (a.eval x) := G1 wf h1 hi0 (htg _ (cW hc) (by simp)) hlk
  obtain ⟨b, cs0, hb, hhb, hvals, hap⟩ := htg _ (cW hc) (by simp)
  have ownb : ∀ (g e0 : Nat), ff E.size (a.eval x) = some (g, e0) → ∀ (j : Nat) (u : Value) (e1 : Nat), (cs0.toList.take q.length)[j]? = some u → ff E.size u = some (g, e1) → j = i ∧ (roomy (a.eval x) = true → e1 ≤ e0) := fun g e0 he => by
    obtain ⟨b', es', T', g1, g2, g3⟩ := hown g e0 he
    obtain ⟨u', hu'⟩ : ∃ u, tg = u + 1 := ⟨tg - 1, by omega⟩
    have : b = b' := by
      have hb' : M b = some (u' + 1) := hu' ▸ hb
      have g1' : M b' = some (u' + 1) := hu' ▸ g1
      exact wf.inj b b' u' (by omega) hb' g1'
    subst this
    rw [hhb] at g2
    injection g2 with g2
    injection g2 with g2 _
    subst g2
    exact g3
  obtain ⟨_, D, _, hD, hkd, _⟩ := ct hT
  rw [hk] at hkd
  cases D <;> simp only [TK.of, reduceCtorEq, TK.slice.injEq] at hkd
  subst hkd
  rename_i el
  obtain ⟨ii, _, hi, _, _, hsz, hby, hze⟩ := ct hE
  obtain ⟨zz, hiz, hzc⟩ : ∃ z, ii.zero = some z ∧ z.cells.size = ii.size := by
    cases hiz : ii.zero with
    | none => rw [hiz] at hze; rw [← hze] at hz; simp at hz; omega
    | some z => rw [hiz] at hze; exact ⟨z, rfl, by simp at hze; rw [hsz, ← hz, ← hze]; simp⟩
  obtain ⟨ad, c', ey, hc1, hc2, hpp⟩ := hdy
  obtain ⟨b', off', rfl, hp'⟩ := hpp hpos
  obtain ⟨news, hn1, hn2, hn3⟩ := mm hp' _ (Nat.le_refl _)
  rw [List.take_length] at hn2
  have hnl : news.length = ys.length * ii.size := by rw [hn1, cq, hsz, hs]
  have hnews : ∀ j u, news[j]? = some u → w.cell? ((⟨b', off', none⟩ : Addr).add j) = some u := fun j u hj => by rw [Addr.add_lit]; exact hn3 j u hj
  have hones := lK hn2 (lH E ys)
  have hesz : E.size = ii.size := by rw [hsz, hs]
  -- behind a growth
  have grown : ∀ (olds : List Value) (cap : Nat), cB w M (xs.flatMap E.tys) olds → cap < xs.length + ys.length →
      (Builtin.append_ #[st, st] t #[a.eval x, a.eval y]).run P w = .ok (.slice (some ⟨w.heap.size, 0, none⟩) (xs.length + ys.length) (grownCap w (xs.length + ys.length) cap el)) (w.drew.alloc (.cells (olds.toArray ++ news.toArray ++ Builtin.zeroCells zz.cells (grownCap w (xs.length + ys.length) cap el - (xs.length + ys.length))) el)) →
      ∃ v w', (execOp a.eval ⟨some d, .call ⟨.builtin .append, #[x, y], #[st, st]⟩, t, p, e, none⟩).run P w = .ok (.value v) w' ∧ Fx.left { d := some d, ty := .mv E el tg J q.length i (xs ++ ys), S := [tg, J], sets := [(tg, .mx E T2 el J q)], rs := bw x ++ bw y, rt := [tg] } w M w' v := by
    intro olds cap hdo hcap hrun
    have holen : olds.length = xs.length * ii.size := by rw [cL hdo, cq, hesz]
    have hge := grownCap_ge w (xs.length + ys.length) cap el
    have hcm : grownCap w (xs.length + ys.length) cap el ≤ maxLen := grownCap_le_maxLen w (xs.length + ys.length) cap el (by simp only [maxLen]; omega)
    have hsize : (w.drew.alloc (.cells (olds.toArray ++ news.toArray ++ Builtin.zeroCells zz.cells (grownCap w (xs.length + ys.length) cap el - (xs.length + ys.length))) el)).heap.size = w.heap.size + 1 := by simp
    have hold : ∀ b2, b2 < w.heap.size → (w.drew.alloc (.cells (olds.toArray ++ news.toArray ++ Builtin.zeroCells zz.cells (grownCap w (xs.length + ys.length) cap el - (xs.length + ys.length))) el)).heap[b2]? = w.heap[b2]? := fun b2 h => Below.heap_alloc w.drew _ b2 h
    have hnew : (w.drew.alloc (.cells (olds.toArray ++ news.toArray ++ Builtin.zeroCells zz.cells (grownCap w (xs.length + ys.length) cap el - (xs.length + ys.length))) el)).heap[w.heap.size]? = some (.cells (olds.toArray ++ news.toArray ++ Builtin.zeroCells zz.cells (grownCap w (xs.length + ys.length) cap el - (xs.length + ys.length))) el (0, 0)) := gO w.drew _
    have hos : (w.drew.alloc (.cells (olds.toArray ++ news.toArray ++ Builtin.zeroCells zz.cells (grownCap w (xs.length + ys.length) cap el - (xs.length + ys.length))) el)).os = w.os ∧ (w.drew.alloc (.cells (olds.toArray ++ news.toArray ++ Builtin.zeroCells zz.cells (grownCap w (xs.length + ys.length) cap el - (xs.length + ys.length))) el)).tape = w.tape ∧ (w.drew.alloc (.cells (olds.toArray ++ news.toArray ++ Builtin.zeroCells zz.cells (grownCap w (xs.length + ys.length) cap el - (xs.length + ys.length))) el)).output = w.output := ⟨rfl, rfl, rfl⟩
    have hcs : (olds.toArray ++ news.toArray ++ Builtin.zeroCells zz.cells (grownCap w (xs.length + ys.length) cap el - (xs.length + ys.length))).size = grownCap w (xs.length + ys.length) cap el * ii.size := by
      simp only [Array.size_append, List.size_toArray, size_zeroCells, hzc, holen, hnl, ← Nat.add_mul]
      congr 1
      omega
    have htk : ((olds.toArray ++ news.toArray ++ Builtin.zeroCells zz.cells (grownCap w (xs.length + ys.length) cap el - (xs.length + ys.length))).toList.drop 0).take ((xs ++ ys).length * E.size) = olds ++ news := by
      rw [List.drop_zero]
      simp only [Array.toList_append]
      rw [List.take_left' (by rw [List.length_append, holen, hnl, List.length_append, hesz, Nat.add_mul])]
    generalize hw' : (w.drew.alloc (.cells (olds.toArray ++ news.toArray ++ Builtin.zeroCells zz.cells (grownCap w (xs.length + ys.length) cap el - (xs.length + ys.length))) el)) = w' at *
    generalize hcu : (olds.toArray ++ news.toArray ++ Builtin.zeroCells zz.cells (grownCap w (xs.length + ys.length) cap el - (xs.length + ys.length))) = cu at *
    have le : Le (· ∈ [tg, J]) (· ∈ ([] : List Nat)) w M w' (fun b2 => if b2 = w.heap.size then some J else M b2) :=
      ⟨by omega, hos.1, hos.2.1, hos.2.2, fun b2 hb2 hm => ⟨by rw [if_neg (by omega)]; exact hm, hold b2 hb2⟩, fun b2 u hm _ => by
        have := wf.lt b2 u hm
        exact ⟨by rw [if_neg (by omega)]; exact hm, fun _ => hold b2 this⟩⟩
    have le0 : Le (· ∈ ([] : List Nat)) (· ∈ ([] : List Nat)) w M w' (fun b2 => if b2 = w.heap.size then some J else M b2) :=
      ⟨by omega, hos.1, hos.2.1, hos.2.2, fun b2 hb2 hm => ⟨by rw [if_neg (by omega)]; exact hm, hold b2 hb2⟩, fun b2 u hm _ => by
        have := wf.lt b2 u hm
        exact ⟨by rw [if_neg (by omega)]; exact hm, fun _ => hold b2 this⟩⟩
    have wf' : Wf w' (fun b2 => if b2 = w.heap.size then some J else M b2) := by
      refine ⟨fun b2 u hm => ?_, fun b2 b3 u ht1 hm hm' => ?_⟩
      · split at hm
        · omega
        · have := wf.lt b2 u hm; omega
      · split at hm
        · injection hm with hm; omega
        · split at hm'
          · injection hm' with hm'; omega
          · exact wf.inj b2 b3 u ht1 hm hm'
    have hblt := wf.lt b tg hb
    refine ⟨.slice (some ⟨w.heap.size, 0, none⟩) (xs.length + ys.length) (grownCap w (xs.length + ys.length) cap el), w', by simp [execOp, resolve, invoke, builtin, hrun], _, wf', le, ⟨.inr ⟨w.heap.size, 0, grownCap w (xs.length + ys.length) cap el, cu, by rw [List.length_append], by simp, hnew, by rw [List.length_append]; exact hge, hcm, by rw [hcs, hesz]; omega, ?_⟩, fun g e0 he => ?_⟩, fun y hy => ?_⟩
    · rw [htk, List.flatMap_append]
      exact iW (bQ le0 (by rw [E.cO]; intro _ h; cases h) (by rw [E.cD]; intro _ h; cases h) hdo) (bQ le0 (by rw [E.cO]; intro _ h; cases h) (by rw [E.cD]; intro _ h; cases h) hn2)
    · simp only [ff, Option.some.injEq, Prod.mk.injEq] at he
      obtain ⟨rfl, _⟩ := he
      refine ⟨b, cs0, T2, (if_neg (by omega)).trans hb, (hold b hblt).trans hhb, fun j u e1 hj hju => ?_⟩
      have := wf.lt _ _ (Ap hvals hj hju)
      omega
    · rw [List.mem_singleton.1 hy]
      refine ⟨b, cs0, (if_neg (by omega)).trans hb, (hold b hblt).trans hhb, ?_, hap⟩
      exact bQ le0 (fun _ _ h => by cases h) (fun _ _ h => by cases h) hvals
  rcases hrow with ⟨hxe, ex⟩ | ⟨g, off, cap, cur, ex, hg, hh, hxc, hcm, hfit, hdx⟩
  · have hrn := run_append_nil (P := P) w st t el ii zz hD hi hiz ⟨b', off', none⟩ ys.length c' news hnl hnews hpos (by omega) (by rw [hby]; have := hlen; rw [Nat.add_mul] at this; omega)
    subst hxe
    refine grown [] 0 trivial (by simpa using hpos) ?_
    rw [ex, ey]
    simpa using hrn
  · by_cases hroom : xs.length + ys.length ≤ cap
    · -- in place
      have hm : (xs.length + ys.length) * E.size ≤ cap * E.size := Nat.mul_le_mul_right _ hroom
      rw [Nat.add_mul] at hm
      have hcf : off + xs.length * ii.size + news.length ≤ cur.size := by rw [hnl, ← hesz]; omega
      have hf := run_firstCells_some (P := P) w ii.size ys.length ⟨b', off', none⟩ ys.length c' news hnl hnews
      have hst := run_storeCells_at (P := P) g (off + xs.length * ii.size) el news 0 cur w hh (by simpa using hcf) hones
      rw [nY _ hh] at hst
      simp only [Nat.add_zero] at hst
      obtain ⟨h1', h2', h3'⟩ := iF (cs' := (cur.toList.take (off + xs.length * ii.size) ++ news ++ cur.toList.drop (off + xs.length * ii.size + news.length)).toArray) (Tb := el) wf hg _ rfl
      have hrun : (Builtin.append_ #[st, st] t #[a.eval x, a.eval y]).run P w = .ok (.slice (some ⟨g, off, none⟩) (xs.length + ys.length) cap) { w with heap := w.heap.setIfInBounds g (.cells (cur.toList.take (off + xs.length * ii.size) ++ news ++ cur.toList.drop (off + xs.length * ii.size + news.length)).toArray el (0, 0)) } := by
        rw [ex, ey]
        simp [Builtin.append_, run_underlying hD, sizeOf, typeInfo, hi, Builtin.lenOf, hroom, hf, Addr.add_lit, hst]
      have le : Le (· ∈ [tg, J]) (· ∈ ([] : List Nat)) w M { w with heap := w.heap.setIfInBounds g (.cells (cur.toList.take (off + xs.length * ii.size) ++ news ++ cur.toList.drop (off + xs.length * ii.size + news.length)).toArray el (0, 0)) } M :=
        h2'.weaken (fun u hu => by simp only [List.mem_singleton] at hu; subst hu; simp) (fun _ h => by cases h)
      have hgb : g ≠ b := fun e => by
        rw [e, hb] at hg; injection hg with hg
        have := h1.2; omega
      have hroomy : roomy (a.eval x) = true := by rw [ex]; simp [roomy]; omega
      have hb' : ({ w with heap := w.heap.setIfInBounds g (.cells (cur.toList.take (off + xs.length * ii.size) ++ news ++ cur.toList.drop (off + xs.length * ii.size + news.length)).toArray el (0, 0)) } : World).heap[b]? = some (.cells cs0 T2 (0, 0)) := by
        show (w.heap.setIfInBounds g _)[b]? = _
        rw [Array.getElem?_setIfInBounds_ne hgb]; exact hhb
      refine ⟨.slice (some ⟨g, off, none⟩) (xs.length + ys.length) cap, _, by simp [execOp, resolve, invoke, builtin, hrun], M, h1', le, ⟨.inr ⟨g, off, cap, _, by rw [List.length_append], hg, h3', by rw [List.length_append]; exact hroom, hcm, ?_, ?_⟩, fun g' e0 he => ?_⟩, fun y hy => ?_⟩
      · simp only [List.size_toArray, List.length_append, List.length_take, List.length_drop, Array.length_toList]
        omega
      · rw [List.length_append, Nat.add_mul, hesz, ← hnl, List.toList_toArray, wP _ _ _ _ (by simpa using hcf), List.flatMap_append]
        refine bQ h2' (by rw [← List.flatMap_append, E.cO]; intro _ h; cases h) (by rw [← List.flatMap_append, E.cD]; intro _ h; cases h) (iW ?_ hn2)
        rw [← hesz]; exact hdx
      · simp only [ff, Option.some.injEq, Prod.mk.injEq] at he
        obtain ⟨rfl, rfl⟩ := he
        refine ⟨b, cs0, T2, hb, hb', fun j u e1 hj hju => ?_⟩
        have := ownb g (off + xs.length * E.size) (by rw [ex]; rfl) j u e1 hj hju
        refine ⟨this.1, fun _ => ?_⟩
        have := this.2 hroomy
        rw [Nat.add_mul]; omega
      · rw [List.mem_singleton.1 hy]
        refine ⟨b, cs0, hb, hb', ?_, hap⟩
        refine gB (by rw [cL hvals]) fun j ty hj => ?_
        obtain ⟨u, hu, hdu⟩ := dG hvals j ty hj
        refine ⟨u, hu, ?_⟩
        rw [List.getElem?_map] at hj
        obtain ⟨qe, _, rfl⟩ := Option.map_eq_some_iff.1 hj
        rcases hdu with h | ⟨g2, off2, c2, cur2, e2, hg2, hh2, k1, k2, k3, k4⟩
        · exact .inl h
        · by_cases hgg : g = g2
          · subst hgg
            rw [hh] at hh2
            injection hh2 with hh2
            injection hh2 with ha _
            subst ha
            have hend := (ownb g (off + xs.length * E.size) (by rw [ex]; rfl) j u _ hu (by rw [e2]; rfl)).2 hroomy
            refine .inr ⟨g, off2, c2, _, e2, hg, h3', k1, k2, ?_, ?_⟩
            · simp only [List.size_toArray, List.length_append, List.length_take, List.length_drop, Array.length_toList]
              omega
            · rw [List.toList_toArray, BR _ _ _ _ 0 _ (by rw [← hesz]; exact hend) (by simpa using hcf)]
              exact bQ h2' (by rw [E.cO]; intro _ h; cases h) (by rw [E.cD]; intro _ h; cases h) k4
          · refine .inr ⟨g2, off2, c2, cur2, e2, hg2, ?_, k1, k2, k3, bQ h2' (by rw [E.cO]; intro _ h; cases h) (by rw [E.cD]; intro _ h; cases h) k4⟩
            show (w.heap.setIfInBounds g _)[g2]? = _
            rw [Array.getElem?_setIfInBounds_ne hgg]; exact hh2
    · have holds : ∀ j u, ((cur.toList.drop off).take (xs.length * E.size))[j]? = some u → w.cell? ((⟨g, off, none⟩ : Addr).add j) = some u := fun j u hj => by
        rw [List.getElem?_take] at hj
        split at hj
        · rw [List.getElem?_drop] at hj
          rw [Addr.add_lit]
          simpa [World.cell?, hh] using hj
        · cases hj
      have hol : ((cur.toList.drop off).take (xs.length * E.size)).length = xs.length * ii.size := by rw [cL hdx, cq, hesz]
      have hrn := run_append_grow (P := P) w st t el ii zz hD hi hiz ⟨g, off, none⟩ xs.length cap _ hol holds ⟨b', off', none⟩ ys.length c' news hnl hnews (by omega) (by omega) (growslice_fits (by omega) (by rw [hby]; exact hlen))
      refine grown _ cap hdx (by omega) ?_
      rw [ex, ey]
      exact hrn
omit T in
theorem AH {cs : Array Value} {off n : Nat} {v : Value} : ((cs.setIfInBounds off v).toList.take n) = (cs.toList.take n).set off v := by
 rw [Array.toList_setIfInBounds, List.take_set]
omit T in
theorem xh {size n : Nat} {vs : List Value} {v : Value} (h : wG size vs) (ho : ∀ (g e0 : Nat), ff size v = some (g, e0) → ∀ (j : Nat) (u : Value) (e1 : Nat), vs[j]? = some u → ff size u = some (g, e1) → j = n) : wG size (vs.set n v) := by
 intro i1 j1 u1 u2 g e' e'' hi1 hj1 hv hu
 rw [List.getElem?_set] at hi1 hj1
 by_cases c1 : n = i1 <;> by_cases c2 : n = j1
 ·omega
 ·rw [if_pos c1] at hi1; rw [if_neg c2] at hj1
  split at hi1
  ·injection hi1 with hi1
   subst hi1
   have := ho g e' hv j1 u2 e'' hj1 hu
   omega
  cases hi1
 ·rw [if_neg c1] at hi1; rw [if_pos c2] at hj1
  split at hj1
  ·injection hj1 with hj1
   subst hj1
   have := ho g e'' hu i1 u1 e' hi1 hv
   omega
  cases hj1
 rw [if_neg c1] at hi1; rw [if_neg c2] at hj1
 exact h i1 j1 u1 u2 g e' e'' hi1 hj1 hv hu
theorem CM {x y : Operand} {off T2 : Nat} {ti : TI} (hx : A.op fr x = .ptr tg off) (he : off = i) (hc : A.tag tg = some (.mx E T2 Tb J q)) (h1 : fN tg) (hT : T.eE[ty']? = some ti) (hsz : ti.size = 1) (hy : A.op fr y = .mv E Tb tg J q.length i xs) (hi : i < q.length) (hJ : 4096 ≤ J)
 (h : av P fr ops rest (A.after { d := none, S := [tg], sets := [(tg, .mx E T2 Tb J (q.set i xs))], rs := bw x ++ bw y, rt := [tg] }) fun A' l'' => K A' ((A, { d := none, S := [tg], sets := [(tg, .mx E T2 Tb J (q.set i xs))], rs := bw x ++ bw y, rt := [tg] }) :: l'')) :
 av P fr ops (⟨none, .store ty' x y, t, p, e, none⟩ :: rest) A K := by
 refine ⟨_, jU rfl rfl rfl (by simp) (by simpa using h1.1) (by simp) fun a w M wf hr ht => ?_, h⟩
 subst he
 obtain ⟨b, cs, ex, e2, h3, h4, h5⟩ := HG hx hc h1 wf (fun _ h => List.mem_append_left _ h) hr ht
 have hdy := cE (fun c hc => List.mem_append_right (bw x) hc) hr
 rw [hy] at hdy
 obtain ⟨hrow, hown⟩ := hdy
 have hone : (a.eval y).oneCell' = true := (Ty.eL E Tb J xs).isOne rfl hrow
 have hcells : (a.eval y).cells = #[a.eval y] := by
  cases hv : a.eval y <;> first | rfl | (rw [hv] at hone; simp [Value.oneCell'] at hone)
 have hlen := cL h4
 have hoff : off < cs.size := by
  rw [List.length_take, List.length_map] at hlen
  have : cs.toList.length = cs.size := Array.length_toList
  omega
 have hcell : w.cell? ⟨b, off, none⟩ = some cs[off] := by simp [World.cell?, h3]
 have hfz : w.frozen? ⟨b, off, none⟩ = false := by simp [World.frozen?, h3]
 obtain ⟨h1', h2', h3'⟩ := iF wf e2 _ (gJ h3 (off := off) (a.eval y))
 refine ⟨w.setCell ⟨b, off, none⟩ (a.eval y), ?_, M, h1', h2', trivial, ?_⟩
 ·have hst := run_store P w ⟨b, off, none⟩ (a.eval y) .plain hone
  rw [hcell] at hst
  simp only [hfz] at hst
  simp [execOp, Instr.storeAt, Instr.sureAddr, ex, storeVar, hcells, dH hT, hsz, storeCells, hst, Addr.add]
 intro z' hz'
 simp only [List.mem_singleton] at hz'
 subst hz'
 refine ⟨b, _, e2, h3', ?_, ?_⟩
 ·rw [List.length_set, AH, List.map_set]
  have h2 := h1.2
  exact lR (bQ h2' (by intro _ _ h; cases h) (fun u hu => by rw [lU.2 u hu]; simp; omega) h4) ((Ty.eL E Tb J xs).mono h2' (by intro _ _ h; cases h) (fun u hu => by simp [Ty.eL] at hu; subst hu; simp; omega) hrow)
 rw [List.length_set, AH]
 refine xh h5 fun g e0 he j u e1 hj hju => ?_
 obtain ⟨b', cs', T', k1, k2, k3⟩ := hown g e0 he
 obtain ⟨uu, hu'⟩ : ∃ u, tg = u + 1 := ⟨tg - 1, by have := h1.1; omega⟩
 have : b = b' := wf.inj b b' uu (by have := h1.2; omega) (hu' ▸ e2) (hu' ▸ k1)
 subst this
 rw [h3] at k2
 injection k2 with k2
 injection k2 with k2 _
 subst k2
 exact (k3 j u e1 hj hju).1
theorem wH [Inhabited α] {x y : Operand} {k j o T2 : Nat} {ti : TI} {ty : Ty} {z : α} (hx : A.op fr x = .me E Tb tg J i xs k) (hk : k = j * E.size + o) (hc : A.tag tg = some (.mx E T2 Tb J q)) (h1 : fN tg) (hT : T.eE[ty']? = some ti) (hsz : ti.size = 1) (hy : A.op fr y = ty) (ho : ty.one = true) (hi : i < q.length) (hj : j < xs.length) (hoe : o < E.size) (hd1 : ty.deps = []) (hd2 : ty.cdeps = []) (hl : (E.tys (nth xs j)).set o ty = E.tys z) (hJ : 4096 ≤ J)
 (h : av P fr ops rest (A.after { d := none, S := [tg, J], sets := [(tg, .mx E T2 Tb J (q.set i (xs.set j z)))], rs := bw x ++ bw y, rt := [tg] }) fun A' l'' => K A' ((A, { d := none, S := [tg, J], sets := [(tg, .mx E T2 Tb J (q.set i (xs.set j z)))], rs := bw x ++ bw y, rt := [tg] }) :: l'')) :
 av P fr ops (⟨none, .store ty' x y, t, p, e, none⟩ :: rest) A K := by
 refine ⟨_, jU rfl rfl rfl (by simp) (by simp; exact ⟨h1.1, by omega⟩) (by simp) fun a w M wf hr ht => ?_, h⟩
 subst hk
 obtain ⟨hdx, hdy⟩ := op2 hr
 rw [hx] at hdx; rw [hy] at hdy
 obtain ⟨u, g, off, n, c, ⟨hrow, hlk⟩, eu, ex⟩ := hdx
 have hcont : Nx E T2 Tb J q w M tg := ht _ (cW hc) (by simp)
 have hown := G1 wf h1 hi hcont hlk
 obtain ⟨b, cs, hb, hhb, hvals, hap⟩ := hcont
 rcases hrow with ⟨h0, _⟩ | ⟨g', off', c', cur, ex', hg, hh, hn, hcm, hfit, hd⟩
 ·subst h0; simp at hj
 have eu2 := eu
 rw [ex'] at eu2
 simp only [Value.slice.injEq, Option.some.injEq, Addr.mk.injEq, and_true] at eu2
 obtain ⟨⟨rfl, rfl⟩, rfl, rfl⟩ := eu2
 have hone := ty.isOne ho hdy
 have hcells : (a.eval y).cells = #[a.eval y] := by
  cases hv : a.eval y <;> first | rfl | (rw [hv] at hone; simp [Value.oneCell'] at hone)
 have hkx : j * E.size + o < xs.length * E.size := by
  have : (j + 1) * E.size ≤ xs.length * E.size := Nat.mul_le_mul_right _ hj
  rw [Nat.succ_mul] at this; omega
 have hcx : xs.length * E.size ≤ c' * E.size := Nat.mul_le_mul_right _ hn
 have hoff : off' + (j * E.size + o) < cur.size := by omega
 have hcell : w.cell? ⟨g', off' + (j * E.size + o), none⟩ = some cur[off' + (j * E.size + o)] := by simp [World.cell?, hh]
 have hfz : w.frozen? ⟨g', off' + (j * E.size + o), none⟩ = false := by simp [World.frozen?, hh]
 obtain ⟨h1', h2', h3'⟩ := iF wf hg _ (gJ hh (off := off' + (j * E.size + o)) (a.eval y))
 have hgb : g' ≠ b := fun e => by
  rw [e, hb] at hg; injection hg with hg
  have := h1.2; omega
 have le : Le (· ∈ [tg, J]) (· ∈ ([] : List Nat)) w M (w.setCell ⟨g', off' + (j * E.size + o), none⟩ (a.eval y)) M :=
  h2'.weaken (fun u hu => by simp only [List.mem_singleton] at hu; subst hu; simp) (fun _ h => by cases h)
 have hoth : ∀ k2, k2 ≠ g' → (w.setCell ⟨g', off' + (j * E.size + o), none⟩ (a.eval y)).heap[k2]? = w.heap[k2]? := fun k2 hne => by
  rw [gJ hh]
  show (w.heap.setIfInBounds g' _)[k2]? = _
  rw [Array.getElem?_setIfInBounds_ne (Ne.symm hne)]
 refine ⟨w.setCell ⟨g', off' + (j * E.size + o), none⟩ (a.eval y), ?_, M, h1', le, trivial, ?_⟩
 ·have hst := run_store P w ⟨g', off' + (j * E.size + o), none⟩ (a.eval y) .plain hone
  rw [hcell] at hst
  simp only [hfz] at hst
  simp [execOp, Instr.storeAt, Instr.sureAddr, ex, storeVar, hcells, dH hT, hsz, storeCells, hst, Addr.add]
 intro z' hz'
 simp only [List.mem_singleton] at hz'
 subst hz'
 refine ⟨b, cs, hb, (hoth b (Ne.symm hgb)).trans hhb, ?_, by rw [List.length_set]; exact hap⟩
 rw [List.length_set]
 refine gB (by rw [cL hvals, List.length_map, List.length_map, List.length_set]) fun j2 ty2 hj2 => ?_
 rw [List.getElem?_map] at hj2
 obtain ⟨qe, hqe, rfl⟩ := Option.map_eq_some_iff.1 hj2
 rw [List.getElem?_set] at hqe
 by_cases hji : i = j2
 ·subst hji
  rw [if_pos rfl, if_pos hi] at hqe
  injection hqe with hqe
  subst hqe
  obtain ⟨b', cs', T', k1, k2, k3⟩ := hlk
  obtain ⟨uu, hu'⟩ : ∃ u, tg = u + 1 := ⟨tg - 1, by have := h1.1; omega⟩
  have : b = b' := wf.inj b b' uu (by have := h1.2; omega) (hu' ▸ hb) (hu' ▸ k1)
  subst this
  rw [hhb] at k2
  injection k2 with k2
  injection k2 with k2 _
  subst k2
  refine ⟨u, by rw [List.getElem?_take, if_pos hi]; exact k3, .inr ⟨g', off', c', _, by rw [List.length_set]; exact ex', hg, h3', by rw [List.length_set]; exact hn, hcm, by rw [Array.size_setIfInBounds]; exact hfit, ?_⟩⟩
  rw [List.length_set, Array.toList_setIfInBounds, List.drop_set, if_neg (by omega), Nat.add_sub_cancel_left, List.take_set, ← vT E xs j hj hl hoe]
  exact lR (bQ h2' (by rw [E.cO]; intro _ h; cases h) (by rw [E.cD]; intro _ h; cases h) hd) (ty.mono h2' (by rw [hd1]; intro _ h; cases h) (by rw [hd2]; intro _ h; cases h) hdy)
 rw [if_neg hji] at hqe
 obtain ⟨u2, hu2, hdu⟩ := dG hvals j2 (Ty.eL E Tb J qe) (by rw [List.getElem?_map, hqe]; rfl)
 refine ⟨u2, hu2, ?_⟩
 rcases hdu with h | ⟨g2, off2, c2, cur2, e2, hg2, hh2, m1, m2, m3, m4⟩
 ·exact .inl h
 have hgg : g2 ≠ g' := fun e => by
  obtain ⟨b', cs', T', k1, k2, k3⟩ := hown g' (off' + xs.length * E.size) (by rw [ex']; rfl)
  obtain ⟨uu, hu'⟩ : ∃ u, tg = u + 1 := ⟨tg - 1, by have := h1.1; omega⟩
  have : b = b' := wf.inj b b' uu (by have := h1.2; omega) (hu' ▸ hb) (hu' ▸ k1)
  subst this
  rw [hhb] at k2
  injection k2 with k2
  injection k2 with k2 _
  subst k2
  exact hji (k3 j2 u2 (off2 + qe.length * E.size) hu2 (by rw [e2, e]; rfl)).1.symm
 exact .inr ⟨g2, off2, c2, cur2, e2, hg2, (hoth g2 hgg).trans hh2, m1, m2, m3, bQ h2' (by rw [E.cO]; intro _ h; cases h) (by rw [E.cD]; intro _ h; cases h) m4⟩
omit T in
theorem uf {T2 tz : Nat} {w : World} {M : bB} {v : Value} {b : Nat} {cs : Array Value} (hrow : gV E Tb tz xs w M v) (h4 : cB w M (q.map fun x => Ty.eL E Tb J x) (cs.toList.take q.length)) (hJ : 4096 ≤ J) (h2 : fN tz) : xA E Tb J xs w (kj M tz J) v ∧ ∀ (g e0 : Nat), ff E.size v = some (g, e0) → ∀ (j : Nat) (u : Value) (e' : Nat), (cs.toList.take q.length)[j]? = some u → ff E.size u = some (g, e') → False := by
 obtain ⟨cz, hown, hcs, hM⟩ := hrow
 constructor
 ·rcases hown.2 with ⟨ez, h0⟩ | ⟨g, cap, cur, ez, _, hh, hnc, hcap, hsz, htk⟩
  ·exact .inl ⟨List.length_eq_zero_iff.1 h0, ez⟩
  have hg : M g = some tz := hM g (by rw [ez]; rfl)
  refine .inr ⟨g, 0, cap, cur, ez, by simp [kj, hg], hh, hnc, hcap, by omega, ?_⟩
  rw [List.drop_zero, htk]
  exact bQ (oS (w := w)) (by rw [E.cO]; intro _ h; cases h) (by rw [E.cD]; intro _ h; cases h) hcs
 intro g e0 he j u e' hj hju
 have k1 := Ap h4 hj hju
 rcases hown.2 with ⟨ez, _⟩ | ⟨g', cap, cur, ez, _⟩
 ·rw [ez] at he; simp [ff] at he
 have hg : M g' = some tz := hM g' (by rw [ez]; rfl)
 rw [ez] at he
 simp only [ff, Option.some.injEq, Prod.mk.injEq] at he
 obtain ⟨rfl, _⟩ := he
 rw [hg] at k1
 injection k1 with k1
 have := h2.2
 omega
theorem CW {x y : Operand} {off T2 tz : Nat} {ti : TI} (hx : A.op fr x = .ptr tg off) (he : off = i) (hc : A.tag tg = some (.mx E T2 Tb J q)) (h1 : fN tg) (hT : T.eE[ty']? = some ti) (hsz : ti.size = 1) (hy : A.op fr y = .row E Tb tz xs) (hi : i < q.length) (hJ : 4096 ≤ J) (h2 : fN tz) (hne : Nat.beq tz tg = false) (hp : fr.pass.contains tz = false)
 (h : av P fr ops rest (A.after { d := none, S := [tg], K := [tz], sets := [(tg, .mx E T2 Tb J (q.set i xs))], rs := bw x ++ bw y, rt := [tg] }) fun A' l'' => K A' ((A, { d := none, S := [tg], K := [tz], sets := [(tg, .mx E T2 Tb J (q.set i xs))], rs := bw x ++ bw y, rt := [tg] }) :: l'')) :
 av P fr ops (⟨none, .store ty' x y, t, p, e, none⟩ :: rest) A K := by
 have hne' : tz ≠ tg := fun h => by subst h; simp at hne
 refine ⟨_, jU rfl rfl rfl (by simp) (by simpa using h1.1) (by simp at hp ⊢; exact ⟨h2.1, hp⟩) fun a w M wf hr ht => ?_, h⟩
 subst he
 obtain ⟨b, cs, ex, e2, h3, h4, h5⟩ := HG hx hc h1 wf (fun _ h => List.mem_append_left _ h) hr ht
 have hdy := cE (fun c hc => List.mem_append_right (bw x) hc) hr
 rw [hy] at hdy
 have hone : (a.eval y).oneCell' = true := (Ty.row E Tb tz xs).isOne rfl hdy
 obtain ⟨hrow, hap⟩ := uf (T2 := T2) (b := b) (J := J) hdy h4 hJ h2
 have hcells : (a.eval y).cells = #[a.eval y] := by
  cases hv : a.eval y <;> first | rfl | (rw [hv] at hone; simp [Value.oneCell'] at hone)
 have hlen := cL h4
 have hoff : off < cs.size := by
  rw [List.length_take, List.length_map] at hlen
  have : cs.toList.length = cs.size := Array.length_toList
  omega
 have hcell : w.cell? ⟨b, off, none⟩ = some cs[off] := by simp [World.cell?, h3]
 have hfz : w.frozen? ⟨b, off, none⟩ = false := by simp [World.frozen?, h3]
 have wf2 := Bg (tg := tz) hJ wf
 have e2' : kj M tz J b = some tg := by simp [kj, e2, hne'.symm]
 have hvals : cB w (kj M tz J) (q.map fun x => Ty.eL E Tb J x) (cs.toList.take q.length) :=
  bQ (oS (w := w) (tg := tz) (J := J)) (fun u hu => by rw [lU.1 u hu]; have := h2.2; simp; omega) (fun _ _ h => by cases h) h4
 obtain ⟨h1', h2', h3'⟩ := iF wf2 e2' _ (gJ h3 (off := off) (a.eval y))
 have le : Le (· ∈ [tg]) (· ∈ [tz]) w M (w.setCell ⟨b, off, none⟩ (a.eval y)) (kj M tz J) :=
  ((oS (w := w) (M := M) (tg := tz) (J := J)).trans h2').weaken (fun u hu => by rcases hu with h | h; cases h; exact h) (fun u hu => by rcases hu with h | h; exact h; cases h)
 refine ⟨w.setCell ⟨b, off, none⟩ (a.eval y), ?_, kj M tz J, h1', le, trivial, ?_⟩
 ·have hst := run_store P w ⟨b, off, none⟩ (a.eval y) .plain hone
  rw [hcell] at hst
  simp only [hfz] at hst
  simp [execOp, Instr.storeAt, Instr.sureAddr, ex, storeVar, hcells, dH hT, hsz, storeCells, hst, Addr.add]
 intro z' hz'
 simp only [List.mem_singleton] at hz'
 subst hz'
 refine ⟨b, _, e2', h3', ?_, ?_⟩
 ·rw [List.length_set, AH, List.map_set]
  have h2 := h1.2
  exact lR (bQ h2' (by intro _ _ h; cases h) (fun u hu => by rw [lU.2 u hu]; simp; omega) hvals) ((Ty.eL E Tb J xs).mono h2' (by intro _ _ h; cases h) (fun u hu => by simp [Ty.eL] at hu; subst hu; simp; omega) hrow)
 rw [List.length_set, AH]
 exact xh h5 fun g e0 he j u e1 hj hju => absurd hju fun hju => hap g e0 he j u e1 hj hju
omit T in
theorem JI {ER : El (List α)} {T2 m : Nat} (hc : A.tag m = some (.mx E T2 Tb J q)) (hne : Nat.beq m J = false) (hER : ∀ x, ER.tys x = [Ty.sl E x]) : J2 A J (m, .vec ER T2 q) := fun w M wf ht => by
  obtain ⟨b, cs, h1, h2, h3, _⟩ := ht _ (cW hc)
  have hmj : m ≠ J := fun h => by subst h; simp at hne
  have hl : ∀ l : List (List α), (l.flatMap ER.tys).length = l.length := fun l => by
    induction l with
    | nil => rfl
    | cons x l ih => rw [List.flatMap_cons, hER, List.length_append, ih]; simp; omega
  have key : ∀ (l : List (List α)) (vs : List Value), cB w M (l.map fun x => Ty.eL E Tb J x) vs → cB w (dV M J) (l.flatMap ER.tys) vs := by
    intro l
    induction l with
    | nil => intro vs h; cases vs with | nil => trivial | cons => cases h
    | cons x l ih =>
      intro vs h
      cases vs with
      | nil => cases h
      | cons v vs => rw [List.flatMap_cons, hER]; exact ⟨D8 wf h.1, ih vs h.2⟩
  exact .inr ⟨b, cs, by simp [dV, h1, hmj], h2, by rw [hl]; exact key q _ h3⟩
theorem Lp {NE : El Unit} {T2 n : Nat} (hn : 0 < n) (hNE : ∀ x, NE.tys x = [Ty.ex (.slice none 0 0)]) : (Cont.vec NE T2 (List.replicate n ())).Sub (Cont.mx E T2 Tb J (List.replicate n [])) := by
  intro w M t hd
  have hl : ∀ n : Nat, ((List.replicate n ()).flatMap NE.tys).length = n := fun n => by
    induction n with
    | zero => rfl
    | succ n ih => rw [List.replicate_succ, List.flatMap_cons, hNE, List.length_append, ih]; simp; omega
  have key : ∀ (n : Nat) (vs : List Value), cB w M ((List.replicate n ()).flatMap NE.tys) vs → cB w M ((List.replicate n ([] : List α)).map fun x => Ty.eL E Tb J x) vs ∧ ∀ v ∈ vs, v = .slice none 0 0 := by
    intro n
    induction n with
    | zero => intro vs h; cases vs with | nil => exact ⟨trivial, fun v hv => by cases hv⟩ | cons => cases h
    | succ n ih =>
      intro vs h
      rw [List.replicate_succ, List.flatMap_cons, hNE] at h
      cases vs with
      | nil => cases h
      | cons v vs =>
        obtain ⟨h1, h2⟩ := h
        have h1 : v = .slice none 0 0 := h1
        obtain ⟨a, b⟩ := ih vs h2
        refine ⟨⟨.inl ⟨rfl, h1⟩, a⟩, fun u hu => ?_⟩
        rcases List.mem_cons.1 hu with rfl | hu
        · exact h1
        · exact b u hu
  rcases hd with h0 | ⟨b, cs, h1, h2, h3⟩
  · cases n with
    | zero => omega
    | succ n => cases h0
  · rw [hl] at h3
    obtain ⟨a, c⟩ := key n _ h3
    rw [← List.length_replicate (n := n) (a := ([] : List α))] at h3
    refine ⟨b, cs, h1, h2, by rw [List.length_replicate]; exact a, fun i j v u g e e' hi hj hv hu => ?_⟩
    rw [List.length_replicate] at hi
    rw [c v (List.mem_of_getElem? hi)] at hv
    simp [ff] at hv
end
end Go.T
namespace Go.Proofs.YtelbollidfdcjaaGreat
open Go Go.T
set_option maxHeartbeats 8000000
def OL : El Unit := El.mk' 1 (fun _ => [Ty.ex (.slice none 0 0)]) (fun _ => rfl) (fun _ => ⟨rfl, rfl, rfl⟩)
section
variable {y : bA} {a : dL} {b d i k : Nat}
theorem LQ (hr : y.cZ) (hi : i < y.moves.length) (h : ¬ (nth y.moves i).src = -1) : ∃ f : Nat, (nth y.moves i).src = f ∧ f < y.bins.length := by
 have := (hr.move _ (cR hi)).2.1
 exact ⟨(nth y.moves i).src.toNat, by omega, by omega⟩
theorem Ld (hr : y.cZ) (hi : i < y.moves.length) (h : ¬ (nth y.moves i).dst = -1) : ∃ f : Nat, (nth y.moves i).dst = f ∧ f < y.bins.length := by
 have := (hr.move _ (cR hi)).2.2.1
 exact ⟨(nth y.moves i).dst.toNat, by omega, by omega⟩
end
attribute [local irreducible] cV n6 nJ hH fK zA vI tW l7 rD
attribute [local irreducible] g6 fS m8 qg iZ iT ij ia ig qM iS qR dY gb qd gV qV nth fU dR av dK bodyPost Exit.then Exit.inBlock Code.wp Code.wpIn fR qb qX qT iw qW qc iY fC cT cU bodyPostM dr
attribute [local irreducible] Nx N6 OQ OT xA
set_option maxRecDepth 100000 in
theorem JM (y : bA) (a : dL) (hr : y.cZ) (ha : oR y a) : dK Tryz.prog 158 [eB y, mA a] (Ty.sl lC (fK y a)) := by
 refine aa Tryz.func158 rfl (by decide) Tryz.ntmps158 (by exact Nat.le_of_ble_eq_true rfl) fun w0 M0 => ?_
 have h1 := hr.bins
 have h2 := hr.days
 have h3 := D_eq hr
 have h4 := hr.moves
 have hlf := ha.lens.first
 have hlm := ha.lens.bN
 refine aE (aA (bD rfl (bD rfl (kE rfl (aD (aB (aE (aA ?_))))))))
 refine aI rfl rfl rfl rfl rfl (by decide) ?_
 refine aG rfl rfl rfl rfl (b9 rfl rfl rfl ?_)
 refine ur (E := OL) (x0 := ()) rfl rfl rfl rfl rfl rfl rfl (by decide) rfl (by omega) (by (dsimp only; omega)) (by omega) ?_
 refine Kt rfl (aD (aB (aE (aE ?_))))
 have hDn : ((y.bins.length : Int)).toNat = y.bins.length := Int.toNat_natCast _
 refine g8 (tg := 15) rfl (Cont.fF (congrArg (fun n => List.replicate n ()) hDn)) ?_
 refine g8 (tg := 15) rfl (Lp (E := dD) (Tb := 3) (J := 5000) (by omega) (fun _ => rfl)) ?_
 refine g8 (tg := 15) rfl (Cont.jZ (FM (y := y) (a := a))) ?_
 refine iU (s := 5) rfl (Ty.sub_eq (congrArg (Ty.vs 15) hDn)) ?_
 refine aA (sV rfl (jX rfl rfl rfl (bI rfl (aD (aB (af ?_))))))
 refine cK (fun (k : {k : Nat // k ≤ y.bins.length}) => live [(2, Ty.pp (bS y)), (3, Ty.pp (eP a)), (5, Ty.vs 15 y.bins.length), (16, Ty.int .i64 y.bins.length), (17, Ty.int .i64 (k.1 : Nat))] [(15, Cont.mx dD 28 3 5000 (vI y a k.1))]) (fun k => y.bins.length - k.1) (⟨0, by omega⟩) ?_ fun k => ?_
 ·(refine cv.mk' ?_ ?_ <;> (repeat' (first | exact aM | exact aL | refine aC ?_ (Ty.aV _) | refine aC ?_ (Ty.aF _) | refine aK rfl (Cont.aF _) ?_)))
  all_goals trace_state
 have hk := k.2
 refine aE (aA (bC rfl rfl rfl (aD (aB (aE ?_)))))
 refine az rfl (fun hc1 => ?_) (fun hc1 => ?_)
 ·
  refine aq (aB (aE (af (aE (aA (bI rfl (bk rfl (aD (aB ?_)))))))))
  refine aA (sV rfl (bI rfl ?_))
  refine aI rfl rfl rfl rfl rfl (by decide) ?_
  refine aG rfl rfl rfl rfl (bI rfl ?_)
  refine ak rfl rfl rfl rfl rfl rfl (by omega) ?_
  refine aG rfl rfl rfl rfl ?_
  refine uD (E := dD) (xs := [nth a.first k.1]) rfl rfl rfl rfl rfl (by decide) (by decide) (by repeat (first | exact (aW.nil : aW _ _ [] _) | (show aW _ _ ((_, _) :: _) _; apply aW.one; (· exact (rfl : _ = Ty.int _ _)); (· exact rfl)))) (by exact rfl) rfl rfl ?_
  refine cx rfl rfl rfl rfl rfl (by omega) ?_
  refine CW (i := k.1) rfl (by exact Nat.mul_one _) rfl (by decide) rfl rfl rfl (by rw [Ig]; omega) (by decide) (by decide) rfl rfl ?_
  refine aD (bM (aB (aA ?_)))
  refine b8 rfl rfl (by omega) (by omega) ?_
  refine bI rfl (aD ?_)
  refine bO (⟨k.1 + 1, by omega⟩) ?_ (by show y.bins.length - (k.1 + 1) < y.bins.length - k.1; omega)
  (refine cv.mk' ?_ ?_ <;> (repeat' (first | exact aM | exact aL | refine aC ?_ (Ty.aV _) | refine aC ?_ (Ty.aF _) | refine aK rfl ?_ ?_)))
  all_goals skip
  all_goals exact Cont.jZ (IU hr (by omega))
 refine cI (aP (aP (aj rfl (aB (aE (aE ?_))))))
 obtain ⟨k, hk⟩ := k
 obtain rfl : k = y.bins.length := by have h1 : ¬ (k : Int) < (y.bins.length : Int) := hc1; have h2 : k ≤ y.bins.length := hk; omega
 refine g8 (tg := 15) rfl (Cont.jZ (G0 (y := y) (a := a) (Nat.le_refl _))) ?_
 refine aA ?_
 refine aI rfl rfl rfl rfl rfl (by decide) ?_
 refine aG rfl rfl rfl rfl (bI rfl (aD (aB (af ?_))))
 refine cK (fun (d : {d : Nat // d ≤ y.D}) => live [(2, Ty.pp (bS y)), (3, Ty.pp (eP a)), (5, Ty.vs 15 y.bins.length), (31, Ty.int .i64 y.days), (32, Ty.int .i64 (d.1 : Nat))] [(15, Cont.mx dD 28 3 5000 (zA y a d.1))]) (fun d => y.D - d.1) (⟨0, by omega⟩) ?_ fun d => ?_
 ·(refine cv.mk' ?_ ?_ <;> (repeat' (first | exact aM | exact aL | refine aC ?_ (Ty.aV _) | refine aC ?_ (Ty.aF _) | refine aK rfl (Cont.aF _) ?_)))
  all_goals trace_state
 have hd := d.2
 refine aE (aA (bC rfl rfl rfl (aD (aB (aE ?_)))))
 refine az rfl (fun hc2 => ?_) (fun hc2 => ?_)
 ·
  refine aq (aB (aE (af (aE (aA (bI rfl (bk rfl (aD (aB ?_)))))))))
  refine aE (aE (aA (sV rfl (jX rfl rfl rfl (bI rfl (aD (aB (af ?_))))))))
  refine cK (fun (b : {b : Nat // b ≤ y.bins.length}) => live [(2, Ty.pp (bS y)), (3, Ty.pp (eP a)), (5, Ty.vs 15 y.bins.length), (31, Ty.int .i64 y.days), (32, Ty.int .i64 (d.1 : Nat)), (7, Ty.int .i64 (d.1 : Nat)), (36, Ty.int .i64 y.bins.length), (37, Ty.int .i64 (b.1 : Nat))] [(15, Cont.mx dD 28 3 5000 (tW y a d.1 b.1))]) (fun b => y.bins.length - b.1) (⟨0, by omega⟩) ?_ fun b => ?_
  ·(refine cv.mk' ?_ ?_ <;> (repeat' (first | exact aM | exact aL | refine aC ?_ (Ty.aV _) | refine aC ?_ (Ty.aF _) | refine aK rfl ?_ ?_)))
   all_goals exact Cont.jZ (FW (y := y) (a := a))
  have hb := b.2
  have hml := IN (y := y) (a := a) (d := d.1) (k := b.1)
  refine aE (aA (bC rfl rfl rfl (aD (aB (aE ?_)))))
  refine az rfl (fun hc3 => ?_) (fun hc3 => ?_)
  ·
   refine aq (aB (aE (af (aE (aA (bI rfl (bk rfl (aD (aB ?_)))))))))
   have hb2 : b.1 < y.bins.length := by omega
   have hmn := GX (y := y) (a := a) (d := d.1) hb2
   have hrl := kP (y := y) (a := a) (b := b.1) (d := d.1)
   refine cN mixed rfl (sV rfl (bI rfl (sV rfl (bI rfl ?_))))
   refine cx rfl rfl rfl rfl rfl (by omega) ?_
   refine pR b.1 rfl (by exact Nat.mul_one _) rfl (by decide) rfl rfl (by omega) ?_
   refine sV rfl (bI rfl ?_)
   refine cx rfl rfl rfl rfl rfl (by omega) ?_
   refine pR b.1 rfl (by exact Nat.mul_one _) rfl (by decide) rfl rfl (by omega) ?_
   refine bI rfl ?_
   refine lQ (j := d.1) rfl rfl rfl rfl rfl (by rw [hmn]; omega) ?_
   refine tS (j := d.1) (o := 0) (ty := Ty.int .i64 (cV y a b.1 d.1)) rfl rfl rfl rfl (by rw [hmn]; omega) (by rw [hmn, Aj (Nat.le_refl _)]; rfl) ?_
   refine bg (E := dD) (xs := [cV y a b.1 d.1]) rfl rfl rfl rfl rfl (by decide) (by decide) (by repeat (first | exact (aW.nil : aW _ _ [] _) | (show aW _ _ ((_, _) :: _) _; apply aW.one; (· exact (rfl : _ = Ty.int _ _)); (· exact rfl)))) (by exact rfl) rfl ?_
   refine Au (i := b.1) (by omega) rfl rfl rfl (by decide) (by decide) rfl Nat.zero_lt_one rfl rfl rfl rfl rfl (by decide) (by rw [hmn]; simp only [hrl, List.length_singleton]; show (d.1 + 1 + 1) * 8 ≤ _; omega) (by rw [hmn]; simp only [hrl, List.length_singleton]; omega) ?_
   refine cx rfl rfl rfl rfl rfl (by omega) ?_
   refine CM (i := b.1) rfl (by exact Nat.mul_one _) rfl (by decide) rfl rfl rfl (by omega) (by decide) ?_
   refine aD ?_
   refine ⟨by kernel_rfl, ?_⟩
   refine bM (aB ?_)
   refine g8 (tg := 15) rfl (Cont.jZ (congrArg (fun r => (tW y a d.1 b.1).set b.1 (r ++ [cV y a b.1 d.1])) hmn)) ?_
   refine aA ?_
   refine b8 rfl rfl (by omega) (by omega) ?_
   refine bI rfl (aD ?_)
   refine bO (⟨b.1 + 1, by omega⟩) ?_ (by show y.bins.length - (b.1 + 1) < y.bins.length - b.1; omega)
   (refine cv.mk' ?_ ?_ <;> (repeat' (first | exact aM | exact aL | refine aC ?_ (Ty.aV _) | refine aC ?_ (Ty.aF _) | refine aK rfl ?_ ?_)))
   all_goals skip
   all_goals exact Cont.jZ (Ii (by omega))
  refine cI (aP (aP (aj rfl (aB (aE ?_)))))
  obtain ⟨b, hb⟩ := b
  obtain rfl : b = y.bins.length := by have h1 : ¬ (b : Int) < (y.bins.length : Int) := hc3; have h2 : b ≤ y.bins.length := hb; omega
  refine g8 (tg := 15) rfl (Cont.jZ (Iq (y := y) (a := a) (d := d.1) (Nat.le_refl _))) ?_
  refine aA ?_
  refine aI rfl rfl rfl rfl rfl (by decide) ?_
  refine aG rfl rfl rfl rfl (b9 rfl rfl rfl (bI rfl (aD (aB (af ?_)))))
  refine cK (fun (i : {i : Nat // i ≤ y.moves.length}) => live [(2, Ty.pp (bS y)), (3, Ty.pp (eP a)), (5, Ty.vs 15 y.bins.length), (31, Ty.int .i64 y.days), (32, Ty.int .i64 (d.1 : Nat)), (7, Ty.int .i64 (d.1 : Nat)), (58, Ty.sl eF y.moves), (59, Ty.int .i64 y.moves.length), (60, Ty.int .i64 (i.1 : Nat))] [(15, Cont.mx dD 28 3 5000 (l7 y a d.1 i.1))]) (fun i => y.moves.length - i.1) (⟨0, by omega⟩) ?_ fun i => ?_
  ·(refine cv.mk' ?_ ?_ <;> (repeat' (first | exact aM | exact aL | refine aC ?_ (Ty.aV _) | refine aC ?_ (Ty.aF _) | refine aK rfl (Cont.aF _) ?_)))
   all_goals trace_state
  have hi := i.2
  refine aE (aA (bC rfl rfl rfl (aD (aB (aE ?_)))))
  refine az rfl (fun hc4 => ?_) (fun hc4 => ?_)
  ·
   refine aq (aB (aE (af (aE (aA (bI rfl ?_))))))
   refine ak rfl rfl rfl rfl rfl rfl (by omega) ?_
   refine aU rfl rfl rfl (by exact Nat.le_of_ble_eq_true rfl) ?_
   refine bu rfl (by exact List.cons_ne_nil _ _) rfl ?_
   refine bk rfl ?_
   refine bq rfl rfl (by decide) rfl rfl rfl rfl rfl rfl ?_
   refine aD (aB (aE (aE (aA ?_))))
   refine aS rfl rfl rfl rfl rfl (by decide) ?_
   refine aX rfl rfl (by decide) rfl rfl rfl ?_
   refine bI rfl (bC rfl rfl rfl (aD (aB ?_)))
   refine bz rfl (fun hc5 => ?_) (fun hc5 => ?_)
   ·
    refine cI (aP (aj rfl (aB (aA ?_))))
    refine b8 rfl rfl (by omega) (by omega) ?_
    refine bI rfl (aD ?_)
    refine bO (⟨i.1 + 1, by omega⟩) ?_ (by show y.moves.length - (i.1 + 1) < y.moves.length - i.1; omega)
    (refine cv.mk' ?_ ?_ <;> (repeat' (first | exact aM | exact aL | refine aC ?_ (Ty.aV _) | refine aC ?_ (Ty.aF _) | refine aK rfl ?_ ?_)))
    all_goals skip
    all_goals exact Cont.jZ (GH (by simpa using hc5))
   refine aq (aB ?_)
   refine oq (J := live [(2, Ty.pp (bS y)), (3, Ty.pp (eP a)), (5, Ty.vs 15 y.bins.length), (31, Ty.int .i64 y.days), (32, Ty.int .i64 (d.1 : Nat)), (7, Ty.int .i64 (d.1 : Nat)), (58, Ty.sl eF y.moves), (59, Ty.int .i64 y.moves.length), (60, Ty.int .i64 (i.1 : Nat)), (9, Ty.int .i64 (i.1 : Nat)), (10, Ty.ptr 11 0)] [(11, Cont.cells 41 (eF.tys (nth y.moves i.1))), (15, Cont.mx dD 28 3 5000 (rD y a d.1 i.1))]) ?_ ?_
   ·
    refine aE ?_
    have hde : (nth y.moves i.1).day = (d.1 : Nat) := by simpa using hc5
    have hi2 : i.1 < y.moves.length := by omega
    have hacl := IC (y := y) (a := a) (d := d.1) (i := i.1)
    have hhal := B7 (y := y) (a := a) (d := d.1) (i := i.1)
    have hmv := ha.bN _ (cR (show i.1 < a.bN.length by omega))
    refine aA ?_
    refine aS rfl rfl rfl rfl rfl (by decide) ?_
    refine aX rfl rfl (by decide) rfl rfl rfl ?_
    refine bC rfl rfl rfl (aD (aB ?_))
    refine bz rfl (fun hc6 => ?_) (fun hc6 => ?_)
    ·
     obtain ⟨f, hfe, hf⟩ := LQ hr hi2 (by simpa using hc6)
     have hat := MZ (y := y) (a := a) (d := d.1) (i := i.1) hf
     have hav := DX (d := d.1) (i := i.1) hr ha hf (by omega)
     refine g8 (tg := 11) rfl (Cont.j3 (l' := [Ty.int .i64 (nth y.moves i.1).day, Ty.int .i64 ((f : Nat) : Int), Ty.int .i64 (nth y.moves i.1).dst, Ty.int .i64 (nth y.moves i.1).sacks.lo, Ty.int .i64 (nth y.moves i.1).sacks.hi]) ⟨Ty.aF _, Ty.bU hfe, Ty.aF _, Ty.aF _, Ty.aF _, trivial⟩) ?_
     refine cN mixed rfl (sV rfl ?_)
     refine aS rfl rfl rfl rfl rfl (by decide) ?_
     refine aX rfl rfl (by decide) rfl rfl rfl ?_
     refine cx rfl rfl rfl rfl rfl (by omega) ?_
     refine pR f rfl (by exact Nat.mul_one _) rfl (by decide) rfl rfl (by omega) ?_
     refine bI rfl ?_
     refine b8 rfl rfl (by omega) (by omega) ?_
     refine lQ (j := d.1 + 1) rfl rfl rfl rfl rfl (by omega) ?_
     refine tS (j := d.1 + 1) (o := 0) (ty := Ty.int .i64 (n6 y a d.1 i.1 f)) rfl rfl rfl rfl (by omega) (by rw [hat.2]; rfl) ?_
     refine aI rfl rfl rfl rfl rfl (by decide) ?_
     refine aG rfl rfl rfl rfl (bI rfl ?_)
     refine ak rfl rfl rfl rfl rfl rfl (by omega) ?_
     refine aG rfl rfl rfl rfl ?_
     refine iA rfl rfl (by omega) (by omega) ?_
     refine lQ (j := d.1 + 1) rfl rfl rfl rfl rfl (by omega) ?_
     refine wH (j := d.1 + 1) (o := 0) (ty := Ty.int .i64 (n6 y a d.1 i.1 f - nth a.bN i.1)) (z := n6 y a d.1 i.1 f - nth a.bN i.1) rfl rfl rfl (by decide) rfl rfl rfl rfl (by omega) (by omega) (by decide) rfl rfl rfl (by decide) ?_
     refine aD ?_
     refine ⟨by kernel_rfl, ?_⟩
     refine gl ?_
     (refine cv.mk' ?_ ?_ <;> (repeat' (first | exact aM | exact aL | exact c7 | refine aC ?_ (Ty.aV _) | refine aC ?_ (Ty.aF _) | refine aK rfl (Cont.dB ?_) ?_ | refine bG ?_ (Ty.aF _) | refine bG ?_ ?_ | refine aK rfl ?_ ?_)))
     all_goals first | exact Cont.jZ (Kh hf hfe) | exact Ty.bU hfe.symm
    refine aq (gl ?_)
    (refine cv.mk' ?_ ?_ <;> (repeat' (first | exact aM | exact aL | refine aC ?_ (Ty.aV _) | refine aC ?_ (Ty.aF _) | refine aK rfl (Cont.aF _) ?_ | refine aK rfl ?_ ?_)))
    all_goals exact Cont.jZ (IK (by simpa using hc6))
   refine aE ?_
   have hde : (nth y.moves i.1).day = (d.1 : Nat) := by simpa using hc5
   have hi2 : i.1 < y.moves.length := by omega
   have hhal := B7 (y := y) (a := a) (d := d.1) (i := i.1)
   have hmv := ha.bN _ (cR (show i.1 < a.bN.length by omega))
   refine aA ?_
   refine aS rfl rfl rfl rfl rfl (by decide) ?_
   refine aX rfl rfl (by decide) rfl rfl rfl ?_
   refine bC rfl rfl rfl (aD (aB ?_))
   refine bz rfl (fun hc7 => ?_) (fun hc7 => ?_)
   ·
    obtain ⟨f, hfe, hf⟩ := Ld hr hi2 (by simpa using hc7)
    have hat := Ll (y := y) (a := a) (d := d.1) (i := i.1) hf
    have hav := KF (d := d.1) (i := i.1) hr ha hf (by omega)
    refine g8 (tg := 11) rfl (Cont.j3 (l' := [Ty.int .i64 (nth y.moves i.1).day, Ty.int .i64 (nth y.moves i.1).src, Ty.int .i64 ((f : Nat) : Int), Ty.int .i64 (nth y.moves i.1).sacks.lo, Ty.int .i64 (nth y.moves i.1).sacks.hi]) ⟨Ty.aF _, Ty.aF _, Ty.bU hfe, Ty.aF _, Ty.aF _, trivial⟩) ?_
    refine cN mixed rfl (sV rfl ?_)
    refine aS rfl rfl rfl rfl rfl (by decide) ?_
    refine aX rfl rfl (by decide) rfl rfl rfl ?_
    refine cx rfl rfl rfl rfl rfl (by omega) ?_
    refine pR f rfl (by exact Nat.mul_one _) rfl (by decide) rfl rfl (by omega) ?_
    refine bI rfl ?_
    refine b8 rfl rfl (by omega) (by omega) ?_
    refine lQ (j := d.1 + 1) rfl rfl rfl rfl rfl (by omega) ?_
    refine tS (j := d.1 + 1) (o := 0) (ty := Ty.int .i64 (nJ y a d.1 i.1 f)) rfl rfl rfl rfl (by omega) (by rw [hat.2]; rfl) ?_
    refine aI rfl rfl rfl rfl rfl (by decide) ?_
    refine aG rfl rfl rfl rfl (bI rfl ?_)
    refine ak rfl rfl rfl rfl rfl rfl (by omega) ?_
    refine aG rfl rfl rfl rfl ?_
    refine b8 rfl rfl (by omega) (by omega) ?_
    refine lQ (j := d.1 + 1) rfl rfl rfl rfl rfl (by omega) ?_
    refine wH (j := d.1 + 1) (o := 0) (ty := Ty.int .i64 (nJ y a d.1 i.1 f + nth a.bN i.1)) (z := nJ y a d.1 i.1 f + nth a.bN i.1) rfl rfl rfl (by decide) rfl rfl rfl rfl (by omega) (by omega) (by decide) rfl rfl rfl (by decide) ?_
    refine aD ?_
    refine ⟨by kernel_rfl, ?_⟩
    refine bM (aB (aA ?_))
    refine b8 rfl rfl (by omega) (by omega) ?_
    refine bI rfl (aD ?_)
    refine bO (⟨i.1 + 1, by omega⟩) ?_ (by show y.moves.length - (i.1 + 1) < y.moves.length - i.1; omega)
    (refine cv.mk' ?_ ?_ <;> (repeat' (first | exact aM | exact aL | refine aC ?_ (Ty.aV _) | refine aC ?_ (Ty.aF _) | refine aK rfl ?_ ?_)))
    all_goals skip
    all_goals exact Cont.jZ (KR hde hf hfe)
   refine aq (bM (aB (aA ?_)))
   refine b8 rfl rfl (by omega) (by omega) ?_
   refine bI rfl (aD ?_)
   refine bO (⟨i.1 + 1, by omega⟩) ?_ (by show y.moves.length - (i.1 + 1) < y.moves.length - i.1; omega)
   (refine cv.mk' ?_ ?_ <;> (repeat' (first | exact aM | exact aL | refine aC ?_ (Ty.aV _) | refine aC ?_ (Ty.aF _) | refine aK rfl ?_ ?_)))
   all_goals skip
   all_goals exact Cont.jZ (It hde (by simpa using hc7))
  refine cI (aP (aP (aj rfl (bM (aB ?_)))))
  obtain ⟨i, hi⟩ := i
  obtain rfl : i = y.moves.length := by have h1 : ¬ (i : Int) < (y.moves.length : Int) := hc4; have h2 : i ≤ y.moves.length := hi; omega
  refine g8 (tg := 15) rfl (Cont.jZ (Ji (y := y) (a := a) (d := d.1) rfl)) ?_
  refine aA ?_
  refine b8 rfl rfl (by omega) (by omega) ?_
  refine bI rfl (aD ?_)
  refine bO (⟨d.1 + 1, by omega⟩) ?_ (by show y.D - (d.1 + 1) < y.D - d.1; omega)
  (refine cv.mk' ?_ ?_ <;> (repeat' (first | exact aM | exact aL | refine aC ?_ (Ty.aV _) | refine aC ?_ (Ty.aF _) | refine aK rfl (Cont.aF _) ?_)))
  all_goals skip
  all_goals trace_state
 refine cI (aP (aP (aj rfl (aB (aE ?_)))))
 obtain ⟨d, hd⟩ := d
 obtain rfl : d = y.D := by have h1 : ¬ (d : Int) < y.days := hc2; have h2 : d ≤ y.D := hd; omega
 refine g8 (tg := 15) rfl (Cont.jZ (KG (y := y) (a := a) rfl)) ?_
 refine pJ (tg := 5000) [] [(15, Cont.vec lC 28 (fK y a))] (by decide) rfl trivial ⟨JI rfl rfl (fun _ => rfl), trivial⟩ ?_
 have hcl : (fK y a).length = y.bins.length := by unfold fK; rw [List.length_map, List.length_range]
 refine jO (tg := 15) [(5, Ty.sl lC (fK y a))] (by decide) rfl ⟨IA rfl rfl hcl (by decide), trivial⟩ ?_
 refine aA (ej rfl (xX rfl (aD (aB (ay (bJ rfl rfl ?_))))))
 all_goals exact bY rfl rfl
 all_goals trace_state
end Go.Proofs.YtelbollidfdcjaaGreat
namespace Go.Proofs.YtelbollidfdcjaaGreat
open Go Go.T
set_option maxHeartbeats 8000000
def Fw (n : Int) : Bool := qZ n 0 300
def oJ (y : bA) (a : dL) : Bool := !decide ((a.first.length : Int) = y.bins.length) || !decide ((a.bN.length : Int) = y.moves.length)
def qJ (a : dL) : Bool := !a.first.all Fw || !a.bN.all Fw
def jM (y : bA) (a : dL) : Int := if bT y = 0 then (if oJ y a = true then 2 else if qJ a = true then 3 else 0) else bT y
def qI (y : bA) (a : dL) : List (List Int) := if jM y a = 0 then fK y a else []
noncomputable def BY (y : bA) (a : dL) : Bool := if jM y a = 0 then lX y a else false
section
variable {y : bA} {a : dL} {b t k : Nat} {n : Int}
theorem pM (h : ¬ bT y = 0) : bT y = jM y a ∧ [] = qI y a := by
 have e : bT y = jM y a := by unfold jM; rw [if_neg h]
 exact ⟨e, by unfold qI; rw [← e, if_neg h]⟩
theorem LJ (h : bT y = 0) (h2 : oJ y a = true) : 2 = jM y a ∧ [] = qI y a := by
 have e : 2 = jM y a := by unfold jM; rw [if_pos h, if_pos h2]
 exact ⟨e, by unfold qI; rw [← e, if_neg (by decide)]⟩
theorem Kz (h : bT y = 0) (h2 : oJ y a = false) (h3 : qJ a = true) : 3 = jM y a ∧ [] = qI y a := by
 have e : 3 = jM y a := by unfold jM; rw [if_pos h, if_neg (by rw [h2]; decide), if_pos h3]
 exact ⟨e, by unfold qI; rw [← e, if_neg (by decide)]⟩
theorem HB (h : bT y = 0) (h2 : oJ y a = false) (h3 : qJ a = false) : 0 = jM y a ∧ fK y a = qI y a := by
 have e : 0 = jM y a := by unfold jM; rw [if_pos h, if_neg (by rw [h2]; decide), if_neg (by rw [h3]; decide)]
 exact ⟨e, by unfold qI; rw [← e, if_pos rfl]⟩
theorem A4 (h2 : oJ y a = false) (h3 : qJ a = false) : oR y a := by
 refine ⟨GP h2, ?_, ?_⟩ <;>
 ·unfold qJ at h3
  rw [Bool.or_eq_false_iff, Bool.not_eq_false', Bool.not_eq_false'] at h3
  intro x hx
  first | exact dA.1 (List.all_eq_true.1 h3.1 x hx) | exact dA.1 (List.all_eq_true.1 h3.2 x hx)
theorem IY (h : jM y a = 0) : y.cZ ∧ oR y a := by
  unfold jM at h
  by_cases h0 : bT y = 0
  · rw [if_pos h0] at h
    cases h2 : oJ y a with
    | true => rw [h2, if_pos rfl] at h; cases h
    | false =>
      rw [h2, if_neg (by decide)] at h
      cases h3 : qJ a with
      | true => rw [h3, if_pos rfl] at h; cases h
      | false => exact ⟨cy h0, A4 h2 h3⟩
  · rw [if_neg h0] at h; exact absurd h h0
theorem lJ : (fK y a).length = y.bins.length := by unfold fK; rw [List.length_map, List.length_range]
theorem pV (h : b < y.bins.length) : nth (fK y a) b = hH y a b y.D := by unfold fK; exact fL _ h
theorem D6 {v : Int} : (hH y a b y.D).all (fun n => qZ n 0 v) = true ↔ ∀ t : Nat, t ≤ y.D → 0 ≤ cV y a b t ∧ cV y a b t ≤ v := by
 rw [List.all_eq_true]
 constructor
 ·intro h t ht
  have := h (cV y a b t) (by unfold hH; exact List.mem_map.2 ⟨t, List.mem_range.2 (by omega), rfl⟩)
  exact dA.1 this
 intro h x hx
 unfold hH at hx
 obtain ⟨t, ht, rfl⟩ := List.mem_map.1 hx
 exact dA.2 (h t (by have := List.mem_range.1 ht; omega))
theorem CX (h : ¬ jM y a = 0) : false = BY y a := by unfold BY; rw [if_neg h]
theorem yZ (h : jM y a = 0) : lX y a = BY y a := by unfold BY; rw [if_pos h]
def H8 (y : bA) (a : dL) (b : Nat) : Prop := ((nth y.bins b).first.lo ≤ nth a.first b ∧ nth a.first b ≤ (nth y.bins b).first.hi) ∧ ∀ t : Nat, t ≤ y.D → 0 ≤ cV y a b t ∧ cV y a b t ≤ (nth y.bins b).holds
theorem Lh (hb : b < y.bins.length) (h : (!qZ (nth a.first b) (nth y.bins b).first.lo (nth y.bins b).first.hi || !(nth (fK y a) b).all (fun n => qZ n 0 (nth y.bins b).holds)) = true) : lX y a = false := lu fun hf => by
 rw [Bool.or_eq_true, Bool.not_eq_true', Bool.not_eq_true'] at h
 rcases h with h | h
 ·rw [dA.2 (hf.first b hb)] at h; cases h
 rw [pV hb, D6.2 fun t ht => hf.cont b t hb ht] at h; cases h
theorem Jf (hb : b < y.bins.length) (h : (!qZ (nth a.first b) (nth y.bins b).first.lo (nth y.bins b).first.hi || !(nth (fK y a) b).all (fun n => qZ n 0 (nth y.bins b).holds)) = false) : H8 y a b := by
 rw [Bool.or_eq_false_iff, Bool.not_eq_false', Bool.not_eq_false'] at h
 rw [pV hb] at h
 exact ⟨dA.1 h.1, D6.1 h.2⟩
theorem La (hk : k < y.moves.length) (h : (!qZ (nth a.bN k) (nth y.moves k).sacks.lo (nth y.moves k).sacks.hi) = true) : lX y a = false := lu fun hf => by
 rw [Bool.not_eq_true'] at h
 rw [dA.2 (hf.bN k hk)] at h; cases h
theorem JY (h : (!qZ (nth a.bN k) (nth y.moves k).sacks.lo (nth y.moves k).sacks.hi) = false) : (nth y.moves k).sacks.lo ≤ nth a.bN k ∧ nth a.bN k ≤ (nth y.moves k).sacks.hi := dA.1 (by simpa using h)
def GI (y : bA) (a : dL) (l : Level) : Bool := qZ (cV y a l.bin.toNat l.day.toNat) l.sacks.lo l.sacks.hi
theorem J7 (hl : wX y a) (h1 : ∀ b, b < y.bins.length → H8 y a b) (h2 : ∀ k, k < y.moves.length → (nth y.moves k).sacks.lo ≤ nth a.bN k ∧ nth a.bN k ≤ (nth y.moves k).sacks.hi) : y.levels.all (GI y a) = lX y a := by
  cases e : y.levels.all (GI y a) with
  | true => exact (yw ⟨hl, fun b hb => (h1 b hb).1, fun b t hb ht => (h1 b hb).2 t ht, h2, fun i hi _ => dA.1 (List.all_eq_true.1 e _ (cR hi))⟩).symm
  | false =>
    refine (lu fun hf => ?_).symm
    rw [List.all_eq_false] at e
    obtain ⟨l, hl', h⟩ := e
    obtain ⟨i, hi, rfl⟩ := oA hl'
    exact h (dA.2 (hf.level i hi rfl))
end
attribute [local irreducible] cV hH fK oJ qJ jM qI BY lX bT
attribute [local irreducible] g6 fS m8 qg iZ iT ij ia ig qM iS qR dY gb qd gV qV nth fU dR av dK bodyPost Exit.then Exit.inBlock Code.wp Code.wpIn fR qb qX qT iw qW qc iY fC cT cU bodyPostM dr
set_option maxRecDepth 100000 in
theorem Ij (n : Int) : dK Tryz.prog 157 [Ty.int .i64 n] (Ty.bool (Fw n)) := by
 refine aa Tryz.func157 rfl (by decide) Tryz.ntmps157 (by exact Nat.le_of_ble_eq_true rfl) fun w0 M0 => ?_
 refine aE (aA (cj rfl (aD (aB (aE (aA (bI rfl (aZ (qo _ _ _) rfl rfl rfl rfl rfl (cj rfl ?_)))))))))
 refine aD (aB (ay (bJ rfl rfl ?_)))
 all_goals exact bY rfl rfl
 all_goals trace_state
set_option maxRecDepth 100000 in
theorem vS (y : bA) (hs : y.Small) (a : dL) (h1 : a.first.length ≤ 1000) (h2 : a.bN.length ≤ 1000) : dK Tryz.prog 74 [eB y, mA a] (Ty.kD [Ty.sl lC (qI y a), Ty.int .i64 (jM y a)]) := by
 refine aa Tryz.func74 rfl (by decide) Tryz.ntmps74 (by exact Nat.le_of_ble_eq_true rfl) fun w0 M0 => ?_
 have g1 := hs.bins
 have g2 := hs.moves
 refine aE (aA (bD rfl (bD rfl (kE rfl (bk rfl (aD (aB (aE (aA ?_)))))))))
 refine OB rfl (aD (aB (aE (aA ?_))))
 refine aU rfl rfl rfl (by exact Nat.le_of_ble_eq_true rfl) ?_
 refine aZ (kF y hs) rfl rfl rfl rfl rfl (bk rfl (aD (aB (aE (af (aE (aA (bI rfl (bC rfl rfl rfl ?_)))))))))
 refine cj rfl (aD (aB ?_))
 refine bz rfl (fun hc1 => ?_) (fun hc1 => ?_)
 ·
  refine aE (aA (bI rfl (kE rfl (bk rfl (aD (aB (ay (au (aQ ?_)))))))))
  refine eX rfl rfl rfl ?_ ?_
  all_goals skip
  all_goals first | exact fD (pM hc1).2.symm | exact ah rfl rfl (congrArg (Ty.int .i64) (pM hc1).1)
 refine aE (aA ?_)
 refine aI rfl rfl rfl rfl rfl (by decide) ?_
 refine aG rfl rfl rfl rfl (b9 rfl rfl rfl ?_)
 refine aI rfl rfl rfl rfl rfl (by decide) ?_
 refine aG rfl rfl rfl rfl (b9 rfl rfl rfl (bC rfl rfl rfl (e8 rfl ?_)))
 apply aJ (s := 22) rfl rfl rfl
 ·intro hg; apply aO; (refine aI rfl rfl rfl rfl rfl (by decide) ?_); refine aD ?_; exact rfl
 ·exact rfl
 ·exact rfl
 apply aJ (s := 22) rfl rfl rfl
 ·intro hg; apply aH (s := 23) rfl (by (rw [hg]; rfl)); apply aO; (refine aG rfl rfl rfl rfl ?_); refine aD ?_; exact rfl
 ·exact rfl
 ·exact rfl
 apply aJ (s := 22) rfl rfl rfl
 ·intro hg; apply aH (s := 24) rfl (by (rw [hg]; rfl)); apply aO; (refine b9 rfl rfl rfl ?_); refine aD ?_; exact rfl
 ·exact rfl
 ·exact rfl
 apply aJ (s := 22) rfl rfl rfl
 ·intro hg; apply aO; (refine aI rfl rfl rfl rfl rfl (by decide) ?_); refine aD ?_; exact rfl
 ·exact rfl
 ·exact rfl
 apply aJ (s := 22) rfl rfl rfl
 ·intro hg; apply aH (s := 26) rfl (by (rw [hg]; rfl)); apply aO; (refine aG rfl rfl rfl rfl ?_); refine aD ?_; exact rfl
 ·exact rfl
 ·exact rfl
 apply aJ (s := 22) rfl rfl rfl
 ·intro hg; apply aH (s := 27) rfl (by (rw [hg]; rfl)); apply aO; (refine b9 rfl rfl rfl ?_); refine aD ?_; exact rfl
 ·exact rfl
 ·exact rfl
 apply aJ (s := 22) rfl rfl rfl
 ·intro hg; apply aH (s := 25) rfl (by (rw [hg]; rfl)); apply aH (s := 28) rfl (by (rw [hg]; rfl)); apply aO; (refine bC rfl rfl rfl ?_); refine aD ?_; exact rfl
 ·exact rfl
 ·exact rfl
 refine iC rfl rfl (cj rfl (aD (aB ?_)))
 refine bt rfl (fun hc2 => ?_) (fun hc2 => ?_)
 ·
  refine aE ?_
  have hl2 : oJ y a = true := by unfold oJ; exact hc2
  refine aA (kE rfl (bk rfl (aD (aB (ay (au (aQ ?_)))))))
  refine eX rfl rfl rfl ?_ ?_
  all_goals skip
  all_goals first | exact fD (LJ hc1 hl2).2.symm | exact ah rfl rfl (congrArg (Ty.int .i64) (LJ hc1 hl2).1)
 refine aE ?_
 have hl2 : oJ y a = false := by unfold oJ; exact hc2
 refine aA ?_
 refine aI rfl rfl rfl rfl rfl (by decide) ?_
 refine aG rfl rfl rfl rfl (Mk rfl ?_)
 refine aZ (o9 a.first (Ty.jD 157 []) rfl Fw rfl rfl fun n _ => c9 (Ij n) rfl rfl rfl rfl rfl rfl) rfl rfl rfl rfl rfl ?_
 refine dX rfl (e8 rfl ?_)
 apply aJ (s := 37) rfl rfl rfl
 ·intro hg; apply aO; (refine aI rfl rfl rfl rfl rfl (by decide) ?_); refine aD ?_; exact rfl
 ·exact rfl
 ·exact rfl
 apply aJ (s := 37) rfl rfl rfl
 ·intro hg; apply aH (s := 38) rfl (by (rw [hg]; rfl)); apply aO; (refine aG rfl rfl rfl rfl ?_); refine aD ?_; exact rfl
 ·exact rfl
 ·exact rfl
 apply aJ (s := 37) rfl rfl rfl
 ·intro hg; apply aO; (refine Mk rfl ?_); refine aD ?_; exact rfl
 ·exact rfl
 ·exact rfl
 apply aJ (s := 37) rfl rfl rfl
 ·intro hg; apply aH (s := 39) rfl (by (rw [hg]; rfl)); apply aH (s := 40) rfl (by (rw [hg]; rfl)); apply aO; (refine aZ (o9 a.bN (Ty.jD 157 []) rfl Fw rfl rfl fun n _ => c9 (Ij n) rfl rfl rfl rfl rfl rfl) rfl rfl rfl rfl rfl ?_); refine aD ?_; exact rfl
 ·exact rfl
 ·exact rfl
 apply aJ (s := 37) rfl rfl rfl
 ·intro hg; apply aH (s := 41) rfl (by (rw [hg]; rfl)); apply aO; (refine dX rfl ?_); refine aD ?_; exact rfl
 ·exact rfl
 ·exact rfl
 refine iC rfl rfl (cj rfl (aD (aB ?_)))
 refine bt rfl (fun hc3 => ?_) (fun hc3 => ?_)
 ·
  refine aE ?_
  have hr3 : qJ a = true := by unfold qJ; exact hc3
  refine aA (kE rfl (bk rfl (aD (aB (ay (au (aQ ?_)))))))
  refine eX rfl rfl rfl ?_ ?_
  all_goals skip
  all_goals first | exact fD (Kz hc1 hl2 hr3).2.symm | exact ah rfl rfl (congrArg (Ty.int .i64) (Kz hc1 hl2 hr3).1)
 refine aq (bM (aB (aE ?_)))
 have hr3 : qJ a = false := by unfold qJ; exact hc3
 have hr := cy hc1
 have ha := A4 hl2 hr3
 refine aA ?_
 refine aU rfl rfl rfl (by exact Nat.le_of_ble_eq_true rfl) ?_
 refine aU rfl rfl rfl (by exact Nat.le_of_ble_eq_true rfl) ?_
 refine aZ (JM y a hr ha) rfl rfl rfl rfl rfl (xX rfl (bk rfl (aD (aB (ay ?_)))))
 refine eX rfl rfl rfl ?_ ?_
 all_goals skip
 all_goals first | exact ah rfl rfl (congrArg (Ty.sl lC) (HB hc1 hl2 hr3).2) | exact ah rfl rfl (congrArg (Ty.int .i64) (HB hc1 hl2 hr3).1)
set_option maxRecDepth 100000 in
theorem vQ (n : Int) (s : Span) : dK Tryz.prog 159 [Ty.int .i64 n, Ty.agg (dS.tys s)] (Ty.bool (qZ n s.lo s.hi)) := by
 refine aa Tryz.func159 rfl (by decide) Tryz.ntmps159 (by exact Nat.le_of_ble_eq_true rfl) fun w0 M0 => ?_
 refine aE (aA (bD rfl (cj rfl (aD (aB (aE (aA (bI rfl ?_))))))))
 refine aI rfl rfl rfl rfl rfl (by decide) ?_
 refine aG rfl rfl rfl rfl ?_
 refine aI rfl rfl rfl rfl rfl (by decide) ?_
 refine aG rfl rfl rfl rfl (aZ (qo _ _ _) rfl rfl rfl rfl rfl (cj rfl (aD (aB (ay (bJ rfl rfl ?_))))))
 all_goals exact bY rfl rfl
set_option maxRecDepth 100000 in
theorem Jd (n : Int) (x : sU) : dK Tryz.prog 160 [Ty.int .i64 n, Ty.pp (fJ.tys x)] (Ty.bool (qZ n 0 x.holds)) := by
 refine aa Tryz.func160 rfl (by decide) Tryz.ntmps160 (by exact Nat.le_of_ble_eq_true rfl) fun w0 M0 => ?_
 refine aE (aA (cj rfl (aD (aB (aE (aA (bI rfl ?_)))))))
 refine aI rfl rfl rfl rfl rfl (by decide) ?_
 refine aG rfl rfl rfl rfl (aZ (qo _ _ _) rfl rfl rfl rfl rfl (cj rfl (aD (aB (ay (bJ rfl rfl ?_))))))
 all_goals exact bY rfl rfl
 all_goals trace_state
set_option maxRecDepth 100000 in
theorem J9 (y : bA) (a : dL) (b t : Nat) (s : Span) (hb : b < y.bins.length) (ht : t ≤ y.D) : dK Tryz.prog 161 [Ty.agg (dU.tys ⟨((t : Nat) : Int), ((b : Nat) : Int), s⟩), Ty.pp [Ty.sl lC (fK y a)]] (Ty.bool (GI y a ⟨((t : Nat) : Int), ((b : Nat) : Int), s⟩)) := by
 refine aa Tryz.func161 rfl (by decide) Tryz.ntmps161 (by exact Nat.le_of_ble_eq_true rfl) fun w0 M0 => ?_
 have hml := lJ (y := y) (a := a)
 have hmn := pV (y := y) (a := a) hb
 have hrl := kP (y := y) (a := a) (b := b) (d := y.D)
 have hrn := Aj (y := y) (a := a) (b := b) (k := t) ht
 have hrl2 : (nth (fK y a) b).length = y.D + 1 := by rw [hmn]; exact hrl
 refine aE (aA (bD rfl (cj rfl (aD (aB (aE (cN mixed rfl (aG rfl rfl rfl rfl ?_))))))))
 refine aI rfl rfl rfl rfl rfl (by decide) ?_
 refine aG rfl rfl rfl rfl ?_
 refine ak rfl rfl rfl rfl rfl rfl (by omega) ?_
 refine aG rfl rfl rfl rfl ?_
 refine aI rfl rfl rfl rfl rfl (by decide) ?_
 refine aG rfl rfl rfl rfl ?_
 refine ak rfl rfl rfl rfl rfl rfl (by omega) ?_
 refine aG rfl rfl rfl rfl ?_
 refine aI rfl rfl rfl rfl rfl (by decide) ?_
 refine aU rfl rfl rfl (by exact Nat.le_of_ble_eq_true rfl) ?_
 refine aZ (vQ _ _) rfl rfl rfl rfl rfl (cj rfl (aD ?_))
 refine ⟨by kernel_rfl, ?_⟩
 refine aB (ay (bJ rfl rfl ?_))
 all_goals skip
 all_goals exact ah rfl rfl (congrArg Ty.bool (by unfold GI; rw [hmn, hrn]; rfl))
set_option maxRecDepth 100000 in
theorem Ln (y : bA) (hs : y.Small) (a : dL) (h1 : a.first.length ≤ 1000) (h2 : a.bN.length ≤ 1000) : dK Tryz.prog 75 [eB y, mA a] (Ty.kD [Ty.bool (BY y a), Ty.int .i64 (jM y a)]) := by
 refine aa Tryz.func75 rfl (by decide) Tryz.ntmps75 (by exact Nat.le_of_ble_eq_true rfl) fun w0 M0 => ?_
 have g1 := hs.bins
 have g2 := hs.moves
 refine aE (aA (bD rfl (bD rfl (cj rfl (bk rfl (aD (aB (aE (aA ?_)))))))))
 refine aU rfl rfl rfl (by exact Nat.le_of_ble_eq_true rfl) ?_
 refine aU rfl rfl rfl (by exact Nat.le_of_ble_eq_true rfl) ?_
 refine aZ (vS y hs a h1 h2) rfl rfl rfl rfl rfl (sn rfl (bP rfl rfl (bP rfl rfl ?_)))
 refine bu rfl (by exact List.cons_ne_nil _ _) rfl ?_
 refine dF rfl rfl (by decide) rfl rfl (by exact (rfl : _ = Ty.sl _ _)) rfl (by exact Nat.le_of_ble_eq_true rfl) rfl rfl (by exact (rfl : _ = [_])) ?_
 refine bk rfl (aD (aB (aE (aE (aA (bI rfl (bC rfl rfl rfl (aD (aB ?_)))))))))
 refine bz rfl (fun hc1 => ?_) (fun hc1 => ?_)
 ·
  refine aE (aA (bI rfl (cj rfl (bk rfl (aD (aB (ay (aQ ?_))))))))
  refine eX rfl rfl rfl ?_ ?_
  all_goals first | exact bY rfl rfl | skip
  all_goals exact ah rfl rfl (congrArg Ty.bool (CX hc1))
 refine aq (aB (aE (aE ?_)))
 have hce : jM y a = 0 := hc1
 obtain ⟨hr, ha⟩ := IY hce
 have hv := (HB (En hr) (show oJ y a = false by unfold oJ; rw [decide_eq_true (show (a.first.length : Int) = y.bins.length by have := ha.lens.first; omega), decide_eq_true (show (a.bN.length : Int) = y.moves.length by have := ha.lens.bN; omega)]; rfl) (by unfold qJ; rw [show a.first.all Fw = true from List.all_eq_true.2 fun x hx => dA.2 (ha.first x hx), show a.bN.all Fw = true from List.all_eq_true.2 fun x hx => dA.2 (ha.bN x hx)]; rfl)).2
 have hlf := ha.lens.first
 have hlm := ha.lens.bN
 have hml := lJ (y := y) (a := a)
 refine g8 (tg := 7) rfl (Cont.j3 (l' := [Ty.sl lC (fK y a)]) ⟨Ty.qt hv.symm, trivial⟩) ?_
 refine jO (tg := 7) [(6, Ty.pp [Ty.sl lC (fK y a)])] (by decide) rfl ⟨kC (T := 130) (off := 0) (l := [Ty.sl lC (fK y a)]) rfl rfl rfl (by decide), trivial⟩ ?_
 refine aA ?_
 refine aI rfl rfl rfl rfl rfl (by decide) ?_
 refine aG rfl rfl rfl rfl (b9 rfl rfl rfl (bI rfl (aD (aB (af ?_)))))
 refine cK (fun (k : {k : Nat // k ≤ y.bins.length ∧ ∀ b, b < k → H8 y a b}) => live [(2, Ty.pp (bS y)), (3, Ty.pp (eP a)), (6, Ty.pp [Ty.sl lC (fK y a)]), (22, Ty.sl fJ y.bins), (23, Ty.int .i64 y.bins.length), (24, Ty.int .i64 (k.1 : Nat))] []) (fun k => y.bins.length - k.1) (⟨0, Nat.zero_le _, fun b h => absurd h (Nat.not_lt_zero b)⟩) ?_ fun k => ?_
 ·(refine cv.mk' ?_ ?_ <;> (repeat' (first | exact aM | exact aL | refine aC ?_ (Ty.aV _) | refine aC ?_ (Ty.aF _))))
 have hk := k.2.1
 refine aE (aA (bC rfl rfl rfl (aD (aB (aE ?_)))))
 refine az rfl (fun hc2 => ?_) (fun hc2 => ?_)
 ·
  refine aq (aB (aE (af (aE (aA (bI rfl ?_))))))
  refine ak rfl rfl rfl rfl rfl rfl (by omega) ?_
  refine aU rfl rfl rfl (by exact Nat.le_of_ble_eq_true rfl) ?_
  refine bu rfl (by exact List.cons_ne_nil _ _) rfl ?_
  refine bk rfl ?_
  refine bq rfl rfl (by decide) rfl rfl rfl rfl rfl rfl ?_
  refine aD (aB (aE ?_))
  refine jO (tg := 10) [(9, Ty.pp (fJ.tys (nth y.bins k.1)))] (by decide) rfl ⟨kC (T := 39) (off := 0) (l := fJ.tys (nth y.bins k.1)) rfl rfl rfl (by decide), trivial⟩ ?_
  refine cN mixed rfl ?_
  refine aI rfl rfl rfl rfl rfl (by decide) ?_
  refine aG rfl rfl rfl rfl (bI rfl ?_)
  refine ak rfl rfl rfl rfl rfl rfl (by omega) ?_
  refine aG rfl rfl rfl rfl ?_
  refine aI rfl rfl rfl rfl rfl (by decide) ?_
  refine aU rfl rfl rfl (by exact Nat.le_of_ble_eq_true rfl) ?_
  refine aZ (vQ _ _) rfl rfl rfl rfl rfl (dX rfl (e8 rfl ?_))
  apply aJ (s := 38) rfl rfl rfl
  ·intro hg; apply aO; (refine aG rfl rfl rfl rfl ?_); refine aD ?_; exact rfl
  ·exact rfl
  ·exact rfl
  apply aJ (s := 38) rfl rfl rfl
  ·intro hg; apply aO; (refine bI rfl ?_); refine aD ?_; exact rfl
  ·exact rfl
  ·exact rfl
  apply aJ (s := 38) rfl rfl rfl
  ·intro hg; apply aH (s := 39) rfl (by (rw [hg]; rfl)); apply aH (s := 40) rfl (by (rw [hg]; rfl)); apply aO; (refine ak rfl rfl rfl rfl rfl rfl (by omega) ?_); refine aD ?_; exact rfl
  ·exact rfl
  ·exact rfl
  apply aJ (s := 38) rfl rfl rfl
  ·intro hg; apply aH (s := 41) rfl (by (rw [hg]; rfl)); apply aO; (refine aG rfl rfl rfl rfl ?_); refine aD ?_; exact rfl
  ·exact rfl
  ·exact rfl
  apply aJ (s := 38) rfl rfl rfl
  ·intro hg; apply aO; (refine cw rfl ?_); refine aD ?_; exact rfl
  ·exact rfl
  ·exact rfl
  apply aJ (s := 38) rfl rfl rfl
  ·intro hg; apply aH (s := 42) rfl (by (rw [hg]; rfl)); apply aH (s := 43) rfl (by (rw [hg]; rfl)); apply aO; (refine aZ (o9 (nth (fK y a) k.1) (Ty.jD 160 [Ty.pp (fJ.tys (nth y.bins k.1))]) rfl (fun n => qZ n 0 (nth y.bins k.1).holds) rfl rfl fun n _ => c9 (Jd n (nth y.bins k.1)) rfl rfl rfl rfl rfl rfl) rfl rfl rfl rfl rfl ?_); refine aD ?_; exact rfl
  ·exact rfl
  ·exact rfl
  apply aJ (s := 38) rfl rfl rfl
  ·intro hg; apply aH (s := 44) rfl (by (rw [hg]; rfl)); apply aO; (refine dX rfl ?_); refine aD ?_; exact rfl
  ·exact rfl
  ·exact rfl
  refine iC rfl rfl (aD ?_)
  refine ⟨by kernel_rfl, ?_⟩
  refine aB ?_
  refine bt rfl (fun hc3 => ?_) (fun hc3 => ?_)
  ·
   refine aE (aA (cj rfl (bk rfl (aD (aB (ay (au (aQ (aQ ?_)))))))))
   refine au (aQ ?_)
   refine eX rfl rfl rfl ?_ ?_
   all_goals skip
   all_goals first | exact ah rfl rfl (congrArg Ty.bool ((Lh (b := k.1) (by omega) hc3).symm.trans (yZ hce))) | exact ah rfl rfl (congrArg (Ty.int .i64) hce.symm)
  refine aq (bM (aB (aA ?_)))
  refine b8 rfl rfl (by omega) (by omega) ?_
  refine bI rfl (aD ?_)
  refine bO (⟨k.1 + 1, by omega, fun b h => (Nat.lt_succ_iff_lt_or_eq.1 h).elim (k.2.2 b) fun e => by subst e; exact Jf (by omega) hc3⟩) ?_ (by show y.bins.length - (k.1 + 1) < y.bins.length - k.1; omega)
  (refine cv.mk' ?_ ?_ <;> (repeat' (first | exact aM | exact aL | refine aC ?_ (Ty.aV _) | refine aC ?_ (Ty.aF _))))
  all_goals skip
 refine cI (aP (aP (aj rfl (aB (aE (aE (aA ?_)))))))
 refine aI rfl rfl rfl rfl rfl (by decide) ?_
 refine aG rfl rfl rfl rfl (b9 rfl rfl rfl (bI rfl (aD (aB (af ?_)))))
 refine cK (fun (m : {k : Nat // k ≤ y.moves.length ∧ ∀ i, i < k → (nth y.moves i).sacks.lo ≤ nth a.bN i ∧ nth a.bN i ≤ (nth y.moves i).sacks.hi}) => live [(2, Ty.pp (bS y)), (3, Ty.pp (eP a)), (6, Ty.pp [Ty.sl lC (fK y a)]), (49, Ty.sl eF y.moves), (50, Ty.int .i64 y.moves.length), (51, Ty.int .i64 (m.1 : Nat))] []) (fun m => y.moves.length - m.1) (⟨0, Nat.zero_le _, fun b h => absurd h (Nat.not_lt_zero b)⟩) ?_ fun m => ?_
 ·(refine cv.mk' ?_ ?_ <;> (repeat' (first | exact aM | exact aL | refine aC ?_ (Ty.aV _) | refine aC ?_ (Ty.aF _))))
 have hm := m.2.1
 refine aE (aA (bC rfl rfl rfl (aD (aB (aE ?_)))))
 refine az rfl (fun hc4 => ?_) (fun hc4 => ?_)
 ·
  refine aq (aB (aE (af (aE (aA (bI rfl ?_))))))
  refine ak rfl rfl rfl rfl rfl rfl (by omega) ?_
  refine aU rfl rfl rfl (by exact Nat.le_of_ble_eq_true rfl) ?_
  refine bu rfl (by exact List.cons_ne_nil _ _) rfl ?_
  refine bk rfl ?_
  refine bq rfl rfl (by decide) rfl rfl rfl rfl rfl rfl ?_
  refine aD (aB (aE (cN mixed rfl ?_)))
  refine aI rfl rfl rfl rfl rfl (by decide) ?_
  refine aG rfl rfl rfl rfl (bI rfl ?_)
  refine ak rfl rfl rfl rfl rfl rfl (by omega) ?_
  refine aG rfl rfl rfl rfl ?_
  refine aS rfl rfl rfl rfl rfl (by decide) ?_
  refine bf rfl rfl (by decide) rfl rfl (by exact Nat.le_of_ble_eq_true rfl) ?_
  refine aZ (vQ _ _) rfl rfl rfl rfl rfl (dX rfl (aD ?_))
  refine ⟨by kernel_rfl, ?_⟩
  refine aB ?_
  refine bt rfl (fun hc5 => ?_) (fun hc5 => ?_)
  ·
   refine aE (aA (cj rfl (bk rfl (aD (aB (ay (au (aQ (aQ ?_)))))))))
   refine au (aQ ?_)
   refine eX rfl rfl rfl ?_ ?_
   all_goals skip
   all_goals first | exact ah rfl rfl (congrArg Ty.bool ((La (k := m.1) (by omega) hc5).symm.trans (yZ hce))) | exact ah rfl rfl (congrArg (Ty.int .i64) hce.symm)
  refine aq (bM (aB (aA ?_)))
  refine b8 rfl rfl (by omega) (by omega) ?_
  refine bI rfl (aD ?_)
  refine bO (⟨m.1 + 1, by omega, fun i h => (Nat.lt_succ_iff_lt_or_eq.1 h).elim (m.2.2 i) fun e => by subst e; exact JY hc5⟩) ?_ (by show y.moves.length - (m.1 + 1) < y.moves.length - m.1; omega)
  (refine cv.mk' ?_ ?_ <;> (repeat' (first | exact aM | exact aL | refine aC ?_ (Ty.aV _) | refine aC ?_ (Ty.aF _))))
  all_goals skip
 refine cI (aP (aP (aj rfl (aB (aE (aA ?_))))))
 refine aI rfl rfl rfl rfl rfl (by decide) ?_
 refine aG rfl rfl rfl rfl (cw rfl ?_)
 refine aZ (mN y.levels (Ty.jD 161 [Ty.pp [Ty.sl lC (fK y a)]]) rfl (GI y a) rfl rfl fun l hl => by
  obtain ⟨q1, q2, _⟩ := hr.level l hl
  have hD := D_eq hr
  obtain ⟨ld, lb, ls⟩ := l
  obtain ⟨b, rfl⟩ : ∃ b : Nat, lb = b := ⟨lb.toNat, by have := q2.1; simp at this; omega⟩
  obtain ⟨t, rfl⟩ : ∃ t : Nat, ld = t := ⟨ld.toNat, by have := q1.1; simp at this; omega⟩
  exact c9 (J9 y a b t ls (by have := q2.2; simp at this; omega) (by have := q1.2; simp at this; omega)) rfl rfl rfl rfl rfl rfl) rfl rfl rfl rfl rfl ?_
 refine cj rfl (bk rfl (aD (aB (ay ?_))))
 refine eX rfl rfl rfl ?_ ?_
 all_goals skip
 all_goals first | exact ah rfl rfl (congrArg Ty.bool ((J7 ha.lens (fun b hb => k.2.2 b (by omega)) (fun i hi => m.2.2 i (by omega))).trans (yZ hce))) | exact ah rfl rfl (congrArg (Ty.int .i64) hce.symm)
end Go.Proofs.YtelbollidfdcjaaGreat
namespace Go.Proofs.YtelbollidfdcjaaGreat
open Go Go.T
set_option maxHeartbeats 8000000
def xI (y : bA) (a : dL) : Int := if oJ y a = true then 2 else if qJ a = true then 3 else 0
section
variable {y : bA} {a : dL} {k : Nat}
theorem EP {n : Int} : je n 0 300 = !Fw n := jV n 0 300
theorem M9 (h : oJ y a = true) : 2 = xI y a := by unfold xI; rw [if_pos h]
theorem Nh (h : oJ y a = false) (hk : k < a.first.length) (h3 : je (nth a.first k) 0 300 = true) : 3 = xI y a := by
 have : a.first.all Fw = false := List.all_eq_false.2 ⟨_, cR hk, by rw [EP, Bool.not_eq_true'] at h3; rw [h3]; decide⟩
 unfold xI qJ; rw [if_neg (by rw [h]; decide), this]; rfl
theorem Nr (h : oJ y a = false) (hk : k < a.bN.length) (h3 : je (nth a.bN k) 0 300 = true) : 3 = xI y a := by
 have : a.bN.all Fw = false := List.all_eq_false.2 ⟨_, cR hk, by rw [EP, Bool.not_eq_true'] at h3; rw [h3]; decide⟩
 unfold xI qJ; rw [if_neg (by rw [h]; decide), this, Bool.not_false, Bool.or_true, if_pos rfl]
theorem NL (h : oJ y a = false) (h1 : ∀ i, i < a.first.length → je (nth a.first i) 0 300 = false) (h2 : ∀ i, i < a.bN.length → je (nth a.bN i) 0 300 = false) : 0 = xI y a := by
 have e1 : a.first.all Fw = true := List.all_eq_true.2 fun x hx => by
  obtain ⟨i, hi, rfl⟩ := oA hx
  have := h1 i hi
  rw [EP, Bool.not_eq_false'] at this; exact this
 have e2 : a.bN.all Fw = true := List.all_eq_true.2 fun x hx => by
  obtain ⟨i, hi, rfl⟩ := oA hx
  have := h2 i hi
  rw [EP, Bool.not_eq_false'] at this; exact this
 unfold xI qJ; rw [if_neg (by rw [h]; decide), e1, e2]; rfl
theorem MH (h : bT y = 0) : xI y a = jM y a := by unfold jM; rw [if_pos h]; rfl
end
attribute [local irreducible] g6 fS m8 qg iZ iT ij ia ig qM iS qR dY gb qd gV qV nth fU dR av dK bodyPost Exit.then Exit.inBlock Code.wp Code.wpIn fR qb qX qT iw qW qc iY fC cT cU bodyPostM dr
set_option maxRecDepth 100000 in
theorem Gt (y : bA) (a : dL) (ha : NA y a) (bin time : Int) (h0 : 0 ≤ bin) (h1 : bin.toNat < a.first.length) : dK Tryz.prog 53 [eB y, mA a, Ty.int .i64 bin, Ty.int .i64 time] (Ty.int .i64 (dO y a bin time)) := by
 refine aa Tryz.func53 rfl (by decide) Tryz.ntmps53 (by exact Nat.le_of_ble_eq_true rfl) fun w0 M0 => ?_
 have hl1 := ha.len
 have hl2 := ha.qL
 refine aE (aA (bD rfl (bD rfl (bk rfl (aD (aB (aE (aA ?_))))))))
 refine aI rfl rfl rfl rfl rfl (by decide) ?_
 refine aG rfl rfl rfl rfl (bI rfl (jm rfl rfl rfl rfl rfl rfl h0 h1 (aG rfl rfl rfl rfl (bk rfl (aD (aB (aE (aE (aA ?_)))))))))
 refine bk rfl (aD (aB (af ?_)))
 refine cK (fun (k : {k : Nat // k ≤ y.moves.length}) => live [(2, Ty.int .i64 bin), (3, Ty.int .i64 time), (4, Ty.pp (bS y)), (5, Ty.pp (eP a)), (9, Ty.int .i64 (dy y a bin time k.1)), (10, Ty.int .i64 (k.1 : Nat))] []) (fun k => y.moves.length - k.1) (⟨0, by omega⟩) ?_ fun k => ?_
 ·(refine cv.mk' ?_ ?_ <;> (repeat' (first | exact aM | exact aL | refine aC ?_ (Ty.aV _) | refine aC ?_ (Ty.aF _))))
 have hk := k.2
 have hu := ha.up (time := time) h1 hk
 refine aE (aE (aA (bI rfl ?_)))
 refine aI rfl rfl rfl rfl rfl (by decide) ?_
 refine aG rfl rfl rfl rfl (b9 rfl rfl rfl (bC rfl rfl rfl (aD (aB ?_))))
 refine az rfl (fun hc1 => ?_) (fun hc1 => ?_)
 ·
  refine aq (aB (aE (af (aE (aA ?_)))))
  refine aI rfl rfl rfl rfl rfl (by decide) ?_
  refine aG rfl rfl rfl rfl (bI rfl ?_)
  refine ak rfl rfl rfl rfl rfl rfl (by omega) ?_
  refine aU rfl rfl rfl (by exact Nat.le_of_ble_eq_true rfl) ?_
  refine bu rfl (by exact List.cons_ne_nil _ _) rfl ?_
  refine bq rfl rfl (by decide) rfl rfl rfl rfl rfl rfl ?_
  refine aD (aB (aE (aE (aA ?_))))
  refine aS rfl rfl rfl rfl rfl (by decide) ?_
  refine aX rfl rfl (by decide) rfl rfl rfl ?_
  refine bI rfl (bC rfl rfl rfl (e8 rfl ?_))
  apply aJ (s := 33) rfl rfl rfl
  ·intro hg; apply aO; (refine aS rfl rfl rfl rfl rfl (by decide) ?_); refine aD ?_; exact rfl
  ·exact rfl
  ·exact rfl
  apply aJ (s := 33) rfl rfl rfl
  ·intro hg; apply aH (s := 34) rfl (by (rw [hg]; rfl)); apply aO; (refine aX rfl rfl (by decide) rfl rfl rfl ?_); refine aD ?_; exact rfl
  ·exact rfl
  ·exact rfl
  apply aJ (s := 33) rfl rfl rfl
  ·intro hg; apply aO; (refine bI rfl ?_); refine aD ?_; exact rfl
  ·exact rfl
  ·exact rfl
  apply aJ (s := 33) rfl rfl rfl
  ·intro hg; apply aH (s := 35) rfl (by (rw [hg]; rfl)); apply aH (s := 36) rfl (by (rw [hg]; rfl)); apply aO; (refine bC rfl rfl rfl ?_); refine aD ?_; exact rfl
  ·exact rfl
  ·exact rfl
  refine eC rfl rfl (aD (aB ?_))
  refine bt rfl (fun hc2 => ?_) (fun hc2 => ?_)
  ·
   have hm1 := ha.bN _ (cR (show k.1 < a.bN.length by omega))
   refine aA (bI rfl ?_)
   refine aI rfl rfl rfl rfl rfl (by decide) ?_
   refine aG rfl rfl rfl rfl (bI rfl ?_)
   refine ak rfl rfl rfl rfl rfl rfl (by omega) ?_
   refine aG rfl rfl rfl rfl ?_
   refine b8 rfl rfl (by omega) (by omega) ?_
   refine bk rfl (aD (aB (aE (aA ?_))))
   refine aS rfl rfl rfl rfl rfl (by decide) ?_
   refine aX rfl rfl (by decide) rfl rfl rfl ?_
   refine bI rfl (bC rfl rfl rfl (e8 rfl ?_))
   apply aJ (s := 50) rfl rfl rfl
   ·intro hg; apply aO; (refine aS rfl rfl rfl rfl rfl (by decide) ?_); refine aD ?_; exact rfl
   ·exact rfl
   ·exact rfl
   apply aJ (s := 50) rfl rfl rfl
   ·intro hg; apply aH (s := 51) rfl (by (rw [hg]; rfl)); apply aO; (refine aX rfl rfl (by decide) rfl rfl rfl ?_); refine aD ?_; exact rfl
   ·exact rfl
   ·exact rfl
   apply aJ (s := 50) rfl rfl rfl
   ·intro hg; apply aO; (refine bI rfl ?_); refine aD ?_; exact rfl
   ·exact rfl
   ·exact rfl
   apply aJ (s := 50) rfl rfl rfl
   ·intro hg; apply aH (s := 52) rfl (by (rw [hg]; rfl)); apply aH (s := 53) rfl (by (rw [hg]; rfl)); apply aO; (refine bC rfl rfl rfl ?_); refine aD ?_; exact rfl
   ·exact rfl
   ·exact rfl
   refine eC rfl rfl (aD (aB ?_))
   refine bt rfl (fun hc3 => ?_) (fun hc3 => ?_)
   ·
    have hm2 := ha.bN _ (cR (show k.1 < a.bN.length by omega))
    refine aA (bI rfl ?_)
    refine aI rfl rfl rfl rfl rfl (by decide) ?_
    refine aG rfl rfl rfl rfl (bI rfl ?_)
    refine ak rfl rfl rfl rfl rfl rfl (by omega) ?_
    refine aG rfl rfl rfl rfl ?_
    refine iA rfl rfl (by omega) (by omega) ?_
    refine bk rfl (aD (bM (aB (aA (bI rfl ?_)))))
    refine b8 rfl rfl (by omega) (by omega) ?_
    refine bk rfl (aD ?_)
    refine bO (⟨k.1 + 1, by omega⟩) ?_ (by show y.moves.length - (k.1 + 1) < y.moves.length - k.1; omega)
    (refine cv.mk' ?_ ?_ <;> (repeat' (first | exact aM | exact aL | refine aC ?_ (Ty.aV _) | refine aC ?_ (Ty.aF _) | refine aC ?_ ?_)))
    all_goals skip
    all_goals exact Ty.bU (Ng hc2 hc3)
   refine aq (bM (aB (aA (bI rfl ?_))))
   refine b8 rfl rfl (by omega) (by omega) ?_
   refine bk rfl (aD ?_)
   refine bO (⟨k.1 + 1, by omega⟩) ?_ (by show y.moves.length - (k.1 + 1) < y.moves.length - k.1; omega)
   (refine cv.mk' ?_ ?_ <;> (repeat' (first | exact aM | exact aL | refine aC ?_ (Ty.aV _) | refine aC ?_ (Ty.aF _) | refine aC ?_ ?_)))
   all_goals skip
   all_goals exact Ty.bU (Nf hc2 hc3)
  refine aq (aB (aE (aA ?_)))
  refine aS rfl rfl rfl rfl rfl (by decide) ?_
  refine aX rfl rfl (by decide) rfl rfl rfl ?_
  refine bI rfl (bC rfl rfl rfl (e8 rfl ?_))
  apply aJ (s := 50) rfl rfl rfl
  ·intro hg; apply aO; (refine aS rfl rfl rfl rfl rfl (by decide) ?_); refine aD ?_; exact rfl
  ·exact rfl
  ·exact rfl
  apply aJ (s := 50) rfl rfl rfl
  ·intro hg; apply aH (s := 51) rfl (by (rw [hg]; rfl)); apply aO; (refine aX rfl rfl (by decide) rfl rfl rfl ?_); refine aD ?_; exact rfl
  ·exact rfl
  ·exact rfl
  apply aJ (s := 50) rfl rfl rfl
  ·intro hg; apply aO; (refine bI rfl ?_); refine aD ?_; exact rfl
  ·exact rfl
  ·exact rfl
  apply aJ (s := 50) rfl rfl rfl
  ·intro hg; apply aH (s := 52) rfl (by (rw [hg]; rfl)); apply aH (s := 53) rfl (by (rw [hg]; rfl)); apply aO; (refine bC rfl rfl rfl ?_); refine aD ?_; exact rfl
  ·exact rfl
  ·exact rfl
  refine eC rfl rfl (aD (aB ?_))
  refine bt rfl (fun hc4 => ?_) (fun hc4 => ?_)
  ·
   have hm2 := ha.bN _ (cR (show k.1 < a.bN.length by omega))
   refine aA (bI rfl ?_)
   refine aI rfl rfl rfl rfl rfl (by decide) ?_
   refine aG rfl rfl rfl rfl (bI rfl ?_)
   refine ak rfl rfl rfl rfl rfl rfl (by omega) ?_
   refine aG rfl rfl rfl rfl ?_
   refine iA rfl rfl (by omega) (by omega) ?_
   refine bk rfl (aD (bM (aB (aA (bI rfl ?_)))))
   refine b8 rfl rfl (by omega) (by omega) ?_
   refine bk rfl (aD ?_)
   refine bO (⟨k.1 + 1, by omega⟩) ?_ (by show y.moves.length - (k.1 + 1) < y.moves.length - k.1; omega)
   (refine cv.mk' ?_ ?_ <;> (repeat' (first | exact aM | exact aL | refine aC ?_ (Ty.aV _) | refine aC ?_ (Ty.aF _) | refine aC ?_ ?_)))
   all_goals skip
   all_goals exact Ty.bU (NT hc2 hc4)
  refine aq (bM (aB (aA (bI rfl ?_))))
  refine b8 rfl rfl (by omega) (by omega) ?_
  refine bk rfl (aD ?_)
  refine bO (⟨k.1 + 1, by omega⟩) ?_ (by show y.moves.length - (k.1 + 1) < y.moves.length - k.1; omega)
  (refine cv.mk' ?_ ?_ <;> (repeat' (first | exact aM | exact aL | refine aC ?_ (Ty.aV _) | refine aC ?_ (Ty.aF _) | refine aC ?_ ?_)))
  all_goals skip
  all_goals exact Ty.bU (Na hc2 hc4)
 refine cI (aP (aP (aj rfl (aB (aE (aA (bI rfl (bk rfl (aD ?_)))))))))
 refine aB (ay (bJ rfl rfl ?_))
 all_goals skip
 all_goals exact ah rfl rfl (congrArg (Ty.int .i64) (by unfold dO; rw [show k.1 = y.moves.length by have := k.2; omega]))
set_option maxRecDepth 100000 in
theorem HQ (y : bA) (hs : y.Small) (a : dL) (h1 : a.first.length ≤ 1000) (h2 : a.bN.length ≤ 1000) : dK Tryz.prog 72 [eB y, mA a] (Ty.int .i64 (xI y a)) := by
 refine aa Tryz.func72 rfl (by decide) Tryz.ntmps72 (by exact Nat.le_of_ble_eq_true rfl) fun w0 M0 => ?_
 refine aE (aA (bD rfl (bD rfl (bk rfl (aD (aB (aE (aE (aA ?_)))))))))
 refine aI rfl rfl rfl rfl rfl (by decide) ?_
 refine aG rfl rfl rfl rfl (b9 rfl rfl rfl ?_)
 refine aI rfl rfl rfl rfl rfl (by decide) ?_
 refine aG rfl rfl rfl rfl (b9 rfl rfl rfl (bC rfl rfl rfl (e8 rfl ?_)))
 apply aJ (s := 14) rfl rfl rfl
 ·intro hg; apply aO; (refine aI rfl rfl rfl rfl rfl (by decide) ?_); refine aD ?_; exact rfl
 ·exact rfl
 ·exact rfl
 apply aJ (s := 14) rfl rfl rfl
 ·intro hg; apply aH (s := 15) rfl (by (rw [hg]; rfl)); apply aO; (refine aG rfl rfl rfl rfl ?_); refine aD ?_; exact rfl
 ·exact rfl
 ·exact rfl
 apply aJ (s := 14) rfl rfl rfl
 ·intro hg; apply aH (s := 16) rfl (by (rw [hg]; rfl)); apply aO; (refine b9 rfl rfl rfl ?_); refine aD ?_; exact rfl
 ·exact rfl
 ·exact rfl
 apply aJ (s := 14) rfl rfl rfl
 ·intro hg; apply aO; (refine aI rfl rfl rfl rfl rfl (by decide) ?_); refine aD ?_; exact rfl
 ·exact rfl
 ·exact rfl
 apply aJ (s := 14) rfl rfl rfl
 ·intro hg; apply aH (s := 18) rfl (by (rw [hg]; rfl)); apply aO; (refine aG rfl rfl rfl rfl ?_); refine aD ?_; exact rfl
 ·exact rfl
 ·exact rfl
 apply aJ (s := 14) rfl rfl rfl
 ·intro hg; apply aH (s := 19) rfl (by (rw [hg]; rfl)); apply aO; (refine b9 rfl rfl rfl ?_); refine aD ?_; exact rfl
 ·exact rfl
 ·exact rfl
 apply aJ (s := 14) rfl rfl rfl
 ·intro hg; apply aH (s := 17) rfl (by (rw [hg]; rfl)); apply aH (s := 20) rfl (by (rw [hg]; rfl)); apply aO; (refine bC rfl rfl rfl ?_); refine aD ?_; exact rfl
 ·exact rfl
 ·exact rfl
 refine iC rfl rfl (aD (aB ?_))
 refine bt rfl (fun hc1 => ?_) (fun hc1 => ?_)
 ·
  refine aE (aA (bk rfl (aD (aB (ay (aQ (bJ rfl rfl ?_)))))))
  all_goals skip
  all_goals exact ah rfl rfl (congrArg (Ty.int .i64) (M9 hc1))
 refine aq (aB (aE (aE (aA (bk rfl (aD (aB (af ?_))))))))
 refine cK (fun (k : {k : Nat // k ≤ a.first.length ∧ ∀ i, i < k → je (nth a.first i) 0 300 = false}) => live [(2, Ty.pp (bS y)), (3, Ty.pp (eP a)), (5, Ty.int .i64 (k.1 : Nat))] []) (fun k => a.first.length - k.1) (⟨0, Nat.zero_le _, fun i h => absurd h (Nat.not_lt_zero i)⟩) ?_ fun k => ?_
 ·(refine cv.mk' ?_ ?_ <;> (repeat' (first | exact aM | exact aL | refine aC ?_ (Ty.aV _) | refine aC ?_ (Ty.aF _))))
 have hk := k.2.1
 refine aE (aE (aA (bI rfl ?_)))
 refine aI rfl rfl rfl rfl rfl (by decide) ?_
 refine aG rfl rfl rfl rfl (b9 rfl rfl rfl (bC rfl rfl rfl (aD (aB ?_))))
 refine az rfl (fun hc2 => ?_) (fun hc2 => ?_)
 ·
  refine aq (aB (aE (af (aE (aA ?_)))))
  refine aI rfl rfl rfl rfl rfl (by decide) ?_
  refine aG rfl rfl rfl rfl (bI rfl ?_)
  refine ak rfl rfl rfl rfl rfl rfl (by omega) ?_
  refine aG rfl rfl rfl rfl (aZ (kr _ _ _) rfl rfl rfl rfl rfl (aD (aB ?_)))
  refine bt rfl (fun hc3 => ?_) (fun hc3 => ?_)
  ·
   refine aE (aA (bk rfl (aD (aB (ay (au (aQ (aQ (au ?_)))))))))
   refine aQ (bJ rfl rfl ?_)
   all_goals skip
   all_goals exact ah rfl rfl (congrArg (Ty.int .i64) (Nh hc1 (by omega) hc3))
  refine aq (bM (aB (aA (bI rfl ?_))))
  refine b8 rfl rfl (by omega) (by omega) ?_
  refine bk rfl (aD ?_)
  refine bO (⟨k.1 + 1, by omega, fun i h => (Nat.lt_succ_iff_lt_or_eq.1 h).elim (k.2.2 i) fun e => by subst e; exact hc3⟩) ?_ (by show a.first.length - (k.1 + 1) < a.first.length - k.1; omega)
  (refine cv.mk' ?_ ?_ <;> (repeat' (first | exact aM | exact aL | refine aC ?_ (Ty.aV _) | refine aC ?_ (Ty.aF _))))
  all_goals skip
 refine cI (aP (aP (aj rfl (aB (aE (aE (aA (bk rfl (aD ?_)))))))))
 refine aB (af ?_)
 refine cK (fun (m : {k : Nat // k ≤ a.bN.length ∧ ∀ i, i < k → je (nth a.bN i) 0 300 = false}) => live [(2, Ty.pp (bS y)), (3, Ty.pp (eP a)), (6, Ty.int .i64 (m.1 : Nat))] []) (fun m => a.bN.length - m.1) (⟨0, Nat.zero_le _, fun i h => absurd h (Nat.not_lt_zero i)⟩) ?_ fun m => ?_
 ·(refine cv.mk' ?_ ?_ <;> (repeat' (first | exact aM | exact aL | refine aC ?_ (Ty.aV _) | refine aC ?_ (Ty.aF _))))
 have hm := m.2.1
 refine aE (aE (aA (bI rfl ?_)))
 refine aI rfl rfl rfl rfl rfl (by decide) ?_
 refine aG rfl rfl rfl rfl (b9 rfl rfl rfl (bC rfl rfl rfl (aD (aB ?_))))
 refine az rfl (fun hc4 => ?_) (fun hc4 => ?_)
 ·
  refine aq (aB (aE (af (aE (aA ?_)))))
  refine aI rfl rfl rfl rfl rfl (by decide) ?_
  refine aG rfl rfl rfl rfl (bI rfl ?_)
  refine ak rfl rfl rfl rfl rfl rfl (by omega) ?_
  refine aG rfl rfl rfl rfl (aZ (kr _ _ _) rfl rfl rfl rfl rfl (aD (aB ?_)))
  refine bt rfl (fun hc5 => ?_) (fun hc5 => ?_)
  ·
   refine aE (aA (bk rfl (aD (aB (ay (au (aQ (aQ (au ?_)))))))))
   refine aQ (bJ rfl rfl ?_)
   all_goals skip
   all_goals exact ah rfl rfl (congrArg (Ty.int .i64) (Nr hc1 (by omega) hc5))
  refine aq (bM (aB (aA (bI rfl ?_))))
  refine b8 rfl rfl (by omega) (by omega) ?_
  refine bk rfl (aD ?_)
  refine bO (⟨m.1 + 1, by omega, fun i h => (Nat.lt_succ_iff_lt_or_eq.1 h).elim (m.2.2 i) fun e => by subst e; exact hc5⟩) ?_ (by show a.bN.length - (m.1 + 1) < a.bN.length - m.1; omega)
  (refine cv.mk' ?_ ?_ <;> (repeat' (first | exact aM | exact aL | refine aC ?_ (Ty.aV _) | refine aC ?_ (Ty.aF _))))
  all_goals skip
 refine cI (aP (aP (aj rfl (aB (aE (aA (bk rfl (aD (aB ?_)))))))))
 refine ay (bJ rfl rfl ?_)
 all_goals skip
 all_goals exact ah rfl rfl (congrArg (Ty.int .i64) (NL hc1 (fun i hi => k.2.2 i (by omega)) (fun i hi => m.2.2 i (by omega))))
end Go.Proofs.YtelbollidfdcjaaGreat
namespace Go.Proofs.YtelbollidfdcjaaGreat
open Go Go.T
set_option maxHeartbeats 8000000
def AT (y : bA) (a : dL) (k : Nat) : Bool := je (dO y a (nth y.levels k).bin (nth y.levels k).day) (nth y.levels k).sacks.lo (nth y.levels k).sacks.hi
def DH : Nat → Int
  | 0 => 1
  | k + 1 => 2 * DH k
def g7 (y : bA) (a : dL) : Nat → Int
  | 0 => 0
  | k + 1 => g7 y a k + if AT y a k = true then DH k else 0
open Classical in
noncomputable def oD (y : bA) (a : dL) : Int := if iV y (fun _ => false) a then g7 y a y.levels.length else -1
section
variable {y : bA} {a : dL} {b t k : Nat} {n lo hi : Int}
theorem uq : ∀ k, 1 ≤ DH k
  | 0 => Int.le_refl 1
  | k + 1 => by have := uq k; show 1 ≤ 2 * DH k; omega
theorem L6 : ∀ k, k ≤ 8 → DH k ≤ 256 := by decide
theorem tH : ∀ k, 0 ≤ g7 y a k ∧ g7 y a k < DH k
  | 0 => ⟨Int.le_refl 0, by show (0 : Int) < 1; decide⟩
  | k + 1 => by
    have ih := tH k
    have := uq k
    show 0 ≤ g7 y a k + _ ∧ g7 y a k + _ < 2 * DH k
    split <;> omega
theorem xw (h : AT y a k = true) : g7 y a k + DH k = g7 y a (k + 1) := by
 show _ = g7 y a k + _; rw [if_pos h]
theorem vu (h : AT y a k = false) : g7 y a k = g7 y a (k + 1) := by
 show _ = g7 y a k + _; rw [if_neg (by rw [h]; decide), Int.add_zero]
theorem Jk : 0 = g7 y a 0 := rfl
theorem NF : 1 = DH 0 := rfl
theorem LG : 2 * DH k = DH (k + 1) := rfl
theorem Mu (h : je (dO y a (nth y.levels k).bin (nth y.levels k).day) (nth y.levels k).sacks.lo (nth y.levels k).sacks.hi = true) : g7 y a k + DH k = g7 y a (k + 1) := xw h
theorem Nv (h : je (dO y a (nth y.levels k).bin (nth y.levels k).day) (nth y.levels k).sacks.lo (nth y.levels k).sacks.hi = false) : g7 y a k = g7 y a (k + 1) := vu h
theorem ql : ∀ k, g7 y a k = 0 ↔ ∀ i, i < k → AT y a i = false
  | 0 => ⟨fun _ i h => absurd h (Nat.not_lt_zero i), fun _ => rfl⟩
  | k + 1 => by
    have ih := ql k
    have hb := tH (y := y) (a := a) k
    have hp := uq k
    constructor
    · intro h
      cases hm : AT y a k with
      | true => rw [← xw hm] at h; omega
      | false =>
        rw [← vu hm] at h
        intro i hi
        rcases Nat.lt_succ_iff_lt_or_eq.1 hi with h1 | h1
        · exact ih.1 h i h1
        · rw [h1]; exact hm
    · intro h
      rw [← vu (h k (Nat.lt_succ_self k))]
      exact ih.2 fun i hi => h i (Nat.lt_succ_of_lt hi)
theorem CR (h : je n lo hi = false) : lo ≤ n ∧ n ≤ hi := by
 rw [jV, Bool.not_eq_false'] at h; exact dA.1 h
theorem zZ (h : je n lo hi = true) : ¬ (lo ≤ n ∧ n ≤ hi) := fun hn => by
 rw [jV, dA.2 hn] at h; cases h
theorem Dl (hr : y.cZ) (hk : k < y.levels.length) : AT y a k = false ↔ (nth y.levels k).sacks.lo ≤ cV y a (nth y.levels k).bin.toNat (nth y.levels k).day.toNat ∧ cV y a (nth y.levels k).bin.toNat (nth y.levels k).day.toNat ≤ (nth y.levels k).sacks.hi := by
 obtain ⟨g1, g2, _⟩ := hr.level _ (cR hk)
 have e : dO y a (nth y.levels k).bin (nth y.levels k).day = cV y a (nth y.levels k).bin.toNat (nth y.levels k).day.toNat := by
  rw [← sO, Int.toNat_of_nonneg g1.1, Int.toNat_of_nonneg g2.1]
 unfold AT
 rw [e, jV, Bool.not_eq_false', dA]
theorem um (h : ¬ iV y (fun _ => false) a) : -1 = oD y a := by unfold oD; rw [if_neg h]
theorem AV (h : iV y (fun _ => false) a) : g7 y a y.levels.length = oD y a := by unfold oD; rw [if_pos h]
theorem Ej (hr : y.cZ) : decide (oD y a = 0) = lX y a := by
 by_cases h : iV y (fun _ => false) a
 ·rw [← AV h]
  by_cases h0 : g7 y a y.levels.length = 0
  ·rw [decide_eq_true h0]
   exact (yw ⟨h.lens, h.first, h.cont, h.bN, fun i hi _ => (Dl hr hi).1 ((ql _).1 h0 i hi)⟩).symm
  rw [decide_eq_false h0]
  exact (lu fun hf => h0 ((ql _).2 fun i hi => (Dl hr hi).2 (hf.level i hi rfl))).symm
 rw [← um h]
 exact (lu fun hf => h ⟨hf.lens, hf.first, hf.cont, hf.bN, fun i hi hc => by cases hc⟩).symm
theorem Nd (hb : b < y.bins.length) (h : je (nth a.first b) (nth y.bins b).first.lo (nth y.bins b).first.hi = true) : -1 = oD y a :=
 um fun hf => zZ h (hf.first b hb)
theorem Ms (hb : b < y.bins.length) (ht : t ≤ y.D) (h : je (dO y a (b : Nat) (t : Nat)) 0 (nth y.bins b).holds = true) : -1 = oD y a :=
 um fun hf => zZ h (by rw [sO]; exact hf.cont b t hb ht)
theorem Ns (hk : k < y.moves.length) (h : je (nth a.bN k) (nth y.moves k).sacks.lo (nth y.moves k).sacks.hi = true) : -1 = oD y a :=
 um fun hf => zZ h (hf.bN k hk)
theorem Mo (hl : wX y a) (h1 : ∀ b, b < y.bins.length → ((nth y.bins b).first.lo ≤ nth a.first b ∧ nth a.first b ≤ (nth y.bins b).first.hi) ∧ ∀ t : Nat, t ≤ y.D → 0 ≤ dO y a (b : Nat) (t : Nat) ∧ dO y a (b : Nat) (t : Nat) ≤ (nth y.bins b).holds)
 (h2 : ∀ k, k < y.moves.length → (nth y.moves k).sacks.lo ≤ nth a.bN k ∧ nth a.bN k ≤ (nth y.moves k).sacks.hi) : g7 y a y.levels.length = oD y a :=
 AV ⟨hl, fun b hb => (h1 b hb).1, fun b t hb ht => by rw [← sO]; exact (h1 b hb).2 t ht, h2, fun i hi hc => by cases hc⟩
end
attribute [local irreducible] dO oD g7 DH AT
attribute [local irreducible] g6 fS m8 qg iZ iT ij ia ig qM iS qR dY gb qd gV qV nth fU dR av dK bodyPost Exit.then Exit.inBlock Code.wp Code.wpIn fR qb qX qT iw qW qc iY fC cT cU bodyPostM dr
set_option maxRecDepth 100000 in
theorem Iv (y : bA) (a : dL) (hr : y.cZ) (ha : oR y a) : dK Tryz.prog 73 [eB y, mA a] (Ty.int .i64 (oD y a)) := by
 refine aa Tryz.func73 rfl (by decide) Tryz.ntmps73 (by exact Nat.le_of_ble_eq_true rfl) fun w0 M0 => ?_
 have hl1 := ha.lens.first
 have hl2 := ha.lens.bN
 have hyb := hr.bins
 have hym := hr.moves
 have hyl := hr.levels
 have hyd := hr.days
 have hD := D_eq hr
 have hams : NA y a := ⟨by omega, by omega, fun x hx => by have := ha.first x hx; omega, fun x hx => by have := ha.bN x hx; omega⟩
 refine aE (aA (bD rfl (bD rfl (bk rfl (aD (aB (aE (aE (aA ?_)))))))))
 refine bk rfl (aD (aB (af ?_)))
 refine cK (fun (k : {k : Nat // k ≤ y.bins.length ∧ ∀ b, b < k → ((nth y.bins b).first.lo ≤ nth a.first b ∧ nth a.first b ≤ (nth y.bins b).first.hi) ∧ ∀ t : Nat, t ≤ y.D → 0 ≤ dO y a (b : Nat) (t : Nat) ∧ dO y a (b : Nat) (t : Nat) ≤ (nth y.bins b).holds}) => live [(2, Ty.pp (bS y)), (3, Ty.pp (eP a)), (5, Ty.int .i64 (k.1 : Nat))] []) (fun k => y.bins.length - k.1) (⟨0, Nat.zero_le _, fun i h => absurd h (Nat.not_lt_zero i)⟩) ?_ fun k => ?_
 ·(refine cv.mk' ?_ ?_ <;> (repeat' (first | exact aM | exact aL | refine aC ?_ (Ty.aV _) | refine aC ?_ (Ty.aF _))))
 have hk := k.2.1
 refine aE (aE (aA (bI rfl ?_)))
 refine aI rfl rfl rfl rfl rfl (by decide) ?_
 refine aG rfl rfl rfl rfl (b9 rfl rfl rfl (bC rfl rfl rfl (aD (aB ?_))))
 refine az rfl (fun hc1 => ?_) (fun hc1 => ?_)
 ·
  refine aq (aB (aE (af (aE (aE (cN mixed rfl ?_))))))
  refine aI rfl rfl rfl rfl rfl (by decide) ?_
  refine aG rfl rfl rfl rfl (bI rfl ?_)
  refine ak rfl rfl rfl rfl rfl rfl (by omega) ?_
  refine aG rfl rfl rfl rfl ?_
  refine aI rfl rfl rfl rfl rfl (by decide) ?_
  refine aG rfl rfl rfl rfl (bI rfl ?_)
  refine ak rfl rfl rfl rfl rfl rfl (by omega) ?_
  refine aI rfl rfl rfl rfl rfl (by decide) ?_
  refine aI rfl rfl rfl rfl rfl (by decide) ?_
  refine aG rfl rfl rfl rfl ?_
  refine aI rfl rfl rfl rfl rfl (by decide) ?_
  refine aG rfl rfl rfl rfl (bI rfl ?_)
  refine ak rfl rfl rfl rfl rfl rfl (by omega) ?_
  refine aI rfl rfl rfl rfl rfl (by decide) ?_
  refine aI rfl rfl rfl rfl rfl (by decide) ?_
  refine aG rfl rfl rfl rfl (aZ (kr _ _ _) rfl rfl rfl rfl rfl (aD ?_))
  refine ⟨by kernel_rfl, ?_⟩
  refine aB ?_
  refine bt rfl (fun hc2 => ?_) (fun hc2 => ?_)
  ·
   refine aE (aA (bk rfl (aD (aB (ay (aQ (au (aQ (aQ ?_)))))))))
   refine au (aQ (bJ rfl rfl ?_))
   all_goals skip
   exact ah rfl rfl (congrArg (Ty.int .i64) (Nd (b := k.1) (by omega) hc2))
  refine aq (aB (aE (aA (bk rfl (aD (aB (af ?_)))))))
  refine cK (fun (t : {t : Nat // t ≤ y.D + 1 ∧ ∀ s : Nat, s < t → 0 ≤ dO y a (k.1 : Nat) (s : Nat) ∧ dO y a (k.1 : Nat) (s : Nat) ≤ (nth y.bins k.1).holds}) => live [(2, Ty.pp (bS y)), (3, Ty.pp (eP a)), (5, Ty.int .i64 (k.1 : Nat)), (6, Ty.int .i64 (t.1 : Nat))] []) (fun t => y.D + 1 - t.1) (⟨0, Nat.zero_le _, fun s h => absurd h (Nat.not_lt_zero s)⟩) ?_ fun t => ?_
  ·(refine cv.mk' ?_ ?_ <;> (repeat' (first | exact aM | exact aL | refine aC ?_ (Ty.aV _) | refine aC ?_ (Ty.aF _))))
  have ht := t.2.1
  refine aE (aE (aA (bI rfl ?_)))
  refine aI rfl rfl rfl rfl rfl (by decide) ?_
  refine aG rfl rfl rfl rfl (bC rfl rfl rfl (aD (aB ?_)))
  refine az rfl (fun hc3 => ?_) (fun hc3 => ?_)
  ·
   refine aq (aB (aE (af (aE (cN mixed rfl ?_)))))
   refine aU rfl rfl rfl (by exact Nat.le_of_ble_eq_true rfl) ?_
   refine aU rfl rfl rfl (by exact Nat.le_of_ble_eq_true rfl) ?_
   refine bI rfl (bI rfl ?_)
   refine aZ (Gt y a hams ((k.1 : Nat) : Int) ((t.1 : Nat) : Int) (Int.natCast_nonneg _) (by omega)) rfl rfl rfl rfl rfl ?_
   refine aI rfl rfl rfl rfl rfl (by decide) ?_
   refine aG rfl rfl rfl rfl (bI rfl ?_)
   refine ak rfl rfl rfl rfl rfl rfl (by omega) ?_
   refine aI rfl rfl rfl rfl rfl (by decide) ?_
   refine aG rfl rfl rfl rfl (aZ (kr _ _ _) rfl rfl rfl rfl rfl (aD ?_))
   refine ⟨by kernel_rfl, ?_⟩
   refine aB ?_
   refine bt rfl (fun hc4 => ?_) (fun hc4 => ?_)
   ·
    refine aE (aA (bk rfl (aD (aB (ay (au (aQ (aQ (au ?_)))))))))
    refine au (aQ (aQ (au (aQ (bJ rfl rfl ?_)))))
    all_goals skip
    exact ah rfl rfl (congrArg (Ty.int .i64) (Ms (b := k.1) (t := t.1) (by omega) (by omega) hc4))
   refine aq (bM (aB (aA (bI rfl ?_))))
   refine b8 rfl rfl (by omega) (by omega) ?_
   refine bk rfl (aD ?_)
   refine bO (⟨t.1 + 1, by omega, fun s h => (Nat.lt_succ_iff_lt_or_eq.1 h).elim (t.2.2 s) fun e => by subst e; exact CR hc4⟩) ?_ (by show y.D + 1 - (t.1 + 1) < y.D + 1 - t.1; omega)
   (refine cv.mk' ?_ ?_ <;> (repeat' (first | exact aM | exact aL | refine aC ?_ (Ty.aV _) | refine aC ?_ (Ty.aF _))))
   all_goals skip
  refine cI (aP (aP (aj rfl (bM (aB (aA (bI rfl ?_)))))))
  refine b8 rfl rfl (by omega) (by omega) ?_
  refine bk rfl (aD ?_)
  refine bO (⟨k.1 + 1, by omega, fun i h => (Nat.lt_succ_iff_lt_or_eq.1 h).elim (k.2.2 i) fun e => by subst e; exact ⟨CR hc2, fun s h => t.2.2 s (by omega)⟩⟩) ?_ (by show y.bins.length - (k.1 + 1) < y.bins.length - k.1; omega)
  (refine cv.mk' ?_ ?_ <;> (repeat' (first | exact aM | exact aL | refine aC ?_ (Ty.aV _) | refine aC ?_ (Ty.aF _))))
  all_goals skip
 refine cI (aP (aP (aj rfl (aB (aE (aE (aA (bk rfl (aD ?_)))))))))
 refine aB (af ?_)
 refine cK (fun (m : {k : Nat // k ≤ y.moves.length ∧ ∀ i, i < k → (nth y.moves i).sacks.lo ≤ nth a.bN i ∧ nth a.bN i ≤ (nth y.moves i).sacks.hi}) => live [(2, Ty.pp (bS y)), (3, Ty.pp (eP a)), (7, Ty.int .i64 (m.1 : Nat))] []) (fun m => y.moves.length - m.1) (⟨0, Nat.zero_le _, fun b h => absurd h (Nat.not_lt_zero b)⟩) ?_ fun m => ?_
 ·(refine cv.mk' ?_ ?_ <;> (repeat' (first | exact aM | exact aL | refine aC ?_ (Ty.aV _) | refine aC ?_ (Ty.aF _))))
 have hm := m.2.1
 refine aE (aE (aA (bI rfl ?_)))
 refine aI rfl rfl rfl rfl rfl (by decide) ?_
 refine aG rfl rfl rfl rfl (b9 rfl rfl rfl (bC rfl rfl rfl (aD (aB ?_))))
 refine az rfl (fun hc5 => ?_) (fun hc5 => ?_)
 ·
  refine aq (aB (aE (af (aE (cN mixed rfl ?_)))))
  refine aI rfl rfl rfl rfl rfl (by decide) ?_
  refine aG rfl rfl rfl rfl (bI rfl ?_)
  refine ak rfl rfl rfl rfl rfl rfl (by omega) ?_
  refine aG rfl rfl rfl rfl ?_
  refine aI rfl rfl rfl rfl rfl (by decide) ?_
  refine aG rfl rfl rfl rfl (bI rfl ?_)
  refine ak rfl rfl rfl rfl rfl rfl (by omega) ?_
  refine aI rfl rfl rfl rfl rfl (by decide) ?_
  refine aI rfl rfl rfl rfl rfl (by decide) ?_
  refine aG rfl rfl rfl rfl ?_
  refine aI rfl rfl rfl rfl rfl (by decide) ?_
  refine aG rfl rfl rfl rfl (bI rfl ?_)
  refine ak rfl rfl rfl rfl rfl rfl (by omega) ?_
  refine aI rfl rfl rfl rfl rfl (by decide) ?_
  refine aI rfl rfl rfl rfl rfl (by decide) ?_
  refine aG rfl rfl rfl rfl (aZ (kr _ _ _) rfl rfl rfl rfl rfl (aD ?_))
  refine ⟨by kernel_rfl, ?_⟩
  refine aB ?_
  refine bt rfl (fun hc6 => ?_) (fun hc6 => ?_)
  ·
   refine aE (aA (bk rfl (aD (aB (ay (au (aQ (aQ (au ?_)))))))))
   refine aQ (bJ rfl rfl ?_)
   all_goals skip
   exact ah rfl rfl (congrArg (Ty.int .i64) (Ns (k := m.1) (by omega) hc6))
  refine aq (bM (aB (aA (bI rfl ?_))))
  refine b8 rfl rfl (by omega) (by omega) ?_
  refine bk rfl (aD ?_)
  refine bO (⟨m.1 + 1, by omega, fun i h => (Nat.lt_succ_iff_lt_or_eq.1 h).elim (m.2.2 i) fun e => by subst e; exact CR hc6⟩) ?_ (by show y.moves.length - (m.1 + 1) < y.moves.length - m.1; omega)
  (refine cv.mk' ?_ ?_ <;> (repeat' (first | exact aM | exact aL | refine aC ?_ (Ty.aV _) | refine aC ?_ (Ty.aF _))))
  all_goals skip
 refine cI (aP (aP (aj rfl (aB (aE (aA (bk rfl (bk rfl (aD ?_)))))))))
 refine aB (aE (aE (aA (bk rfl (aD (aB (af ?_)))))))
 refine cK (fun (n : {k : Nat // k ≤ y.levels.length}) => live [(2, Ty.pp (bS y)), (3, Ty.pp (eP a)), (8, Ty.int .i64 (g7 y a n.1)), (9, Ty.int .i64 (DH n.1)), (10, Ty.int .i64 (n.1 : Nat))] []) (fun n => y.levels.length - n.1) (⟨0, Nat.zero_le _⟩) ?_ fun n => ?_
 ·(refine cv.mk' ?_ ?_ <;> (repeat' (first | exact aM | exact aL | refine aC ?_ (Ty.aV _) | refine aC ?_ (Ty.aF _) | refine aC ?_ ?_)))
  all_goals first | exact Ty.bU Jk | exact Ty.bU NF
 have hn := n.2
 have hp1 := uq n.1
 have hp2 := L6 n.1 (by omega)
 have hmb := tH (y := y) (a := a) n.1
 refine aE (aE (aA (bI rfl ?_)))
 refine aI rfl rfl rfl rfl rfl (by decide) ?_
 refine aG rfl rfl rfl rfl (b9 rfl rfl rfl (bC rfl rfl rfl (aD (aB ?_))))
 refine az rfl (fun hc7 => ?_) (fun hc7 => ?_)
 ·
  refine aq (aB (aE (af (aE ?_))))
  have hlv := hr.level _ (cR (show n.1 < y.levels.length by omega))
  refine aA ?_
  refine aI rfl rfl rfl rfl rfl (by decide) ?_
  refine aG rfl rfl rfl rfl (bI rfl ?_)
  refine ak rfl rfl rfl rfl rfl rfl (by omega) ?_
  refine aU rfl rfl rfl (by exact Nat.le_of_ble_eq_true rfl) ?_
  refine bu rfl (by exact List.cons_ne_nil _ _) rfl ?_
  refine bq rfl rfl (by decide) rfl rfl rfl rfl rfl rfl ?_
  refine aD (aB (aE (aE (cN mixed rfl ?_))))
  refine aU rfl rfl rfl (by exact Nat.le_of_ble_eq_true rfl) ?_
  refine aU rfl rfl rfl (by exact Nat.le_of_ble_eq_true rfl) ?_
  refine aS rfl rfl rfl rfl rfl (by decide) ?_
  refine aX rfl rfl (by decide) rfl rfl rfl ?_
  refine aS rfl rfl rfl rfl rfl (by decide) ?_
  refine aX rfl rfl (by decide) rfl rfl rfl ?_
  refine aZ (Gt y a hams (nth y.levels n.1).bin (nth y.levels n.1).day hlv.2.1.1 (by omega)) rfl rfl rfl rfl rfl ?_
  refine aS rfl rfl rfl rfl rfl (by decide) ?_
  refine aS rfl rfl rfl rfl rfl (by decide) ?_
  refine aX rfl rfl (by decide) rfl rfl rfl ?_
  refine aS rfl rfl rfl rfl rfl (by decide) ?_
  refine aS rfl rfl rfl rfl rfl (by decide) ?_
  refine aX rfl rfl (by decide) rfl rfl rfl ?_
  refine aZ (kr _ _ _) rfl rfl rfl rfl rfl (aD ?_)
  refine ⟨by kernel_rfl, ?_⟩
  refine aB ?_
  refine bt rfl (fun hc8 => ?_) (fun hc8 => ?_)
  ·
   refine aA (bI rfl (bI rfl ?_))
   refine b8 rfl rfl (by omega) (by omega) ?_
   refine bk rfl (aD (aB (aA (bI rfl ?_))))
   refine AN rfl rfl (by omega) (by omega) ?_
   refine bk rfl (aD (bM (aB (aA (bI rfl ?_)))))
   refine b8 rfl rfl (by omega) (by omega) ?_
   refine bk rfl (aD ?_)
   refine bO (⟨n.1 + 1, by omega⟩) ?_ (by show y.levels.length - (n.1 + 1) < y.levels.length - n.1; omega)
   (refine cv.mk' ?_ ?_ <;> (repeat' (first | exact aM | exact aL | refine aC ?_ (Ty.aV _) | refine aC ?_ (Ty.aF _) | refine aC ?_ ?_)))
   all_goals skip
   all_goals first | exact Ty.bU (Mu hc8) | exact Ty.bU LG
  refine aq (aB (aA (bI rfl ?_)))
  refine AN rfl rfl (by omega) (by omega) ?_
  refine bk rfl (aD (bM (aB (aA (bI rfl ?_)))))
  refine b8 rfl rfl (by omega) (by omega) ?_
  refine bk rfl (aD ?_)
  refine bO (⟨n.1 + 1, by omega⟩) ?_ (by show y.levels.length - (n.1 + 1) < y.levels.length - n.1; omega)
  (refine cv.mk' ?_ ?_ <;> (repeat' (first | exact aM | exact aL | refine aC ?_ (Ty.aV _) | refine aC ?_ (Ty.aF _) | refine aC ?_ ?_)))
  all_goals skip
  all_goals first | exact Ty.bU (Nv hc8) | exact Ty.bU LG
 refine cI (aP (aP (aj rfl (aB (aE (aA (bI rfl (bk rfl (aD ?_)))))))))
 refine aB (ay (bJ rfl rfl ?_))
 all_goals skip
 exact ah rfl rfl (congrArg (Ty.int .i64) ((congrArg (g7 y a) (show n.1 = y.levels.length by omega)).trans (Mo ha.lens (fun b hb => k.2.2 b (by omega)) (fun i hi => m.2.2 i (by omega)))))
end Go.Proofs.YtelbollidfdcjaaGreat
namespace Go.Proofs.YtelbollidfdcjaaGreat
open Go Go.T
set_option maxHeartbeats 8000000
def uZ (y : bA) (a : dL) (b k : Nat) : List Int := (List.range k).map fun t => dO y a (b : Nat) (t : Nat)
section
variable {y : bA} {a : dL} {b k : Nat}
theorem Fm : [] = uZ y a b 0 := rfl
theorem Ey : uZ y a b k ++ [dO y a (b : Nat) (k : Nat)] = uZ y a b (k + 1) := by
 unfold uZ; rw [List.range_succ, List.map_append]; rfl
theorem F4 (hb : b < y.bins.length) : uZ y a b (y.D + 1) = nth (fK y a) b := by
 rw [pV hb]; unfold uZ hH; exact List.map_congr_left fun t _ => sO
theorem HP : (uZ y a b k).length = k := by unfold uZ; rw [List.length_map, List.length_range]
theorem zQ (h : jM y a = 0) : fK y a = qI y a := by unfold qI; rw [if_pos h]
theorem z6 (h : ¬ jM y a = 0) : [] = qI y a := by unfold qI; rw [if_neg h]
theorem lN {α : Type} {E : El α} {xs : List α} (h : [] = xs) : (Ty.ex (.slice none 0 0)).Sub (Ty.sl E xs) := by subst h; exact Ty.tQ
end
attribute [local irreducible] dO jM qI BY lX oD xI bT jE fK uZ
attribute [local irreducible] g6 fS m8 qg iZ iT ij ia ig qM iS qR dY gb qd gV qV nth fU dR av dK bodyPost Exit.then Exit.inBlock Code.wp Code.wpIn fR qb qX qT iw qW qc iY fC cT cU bodyPostM dr
set_option maxRecDepth 100000 in
theorem Hs (a b : List (List Int)) : dK Tryz.prog 76 [Ty.sl lC a, Ty.sl lC b] (Ty.bool (decide (a = b))) := by
 refine aa Tryz.func76 rfl (by decide) Tryz.ntmps76 (by exact Nat.le_of_ble_eq_true rfl) fun w0 M0 => ?_
 refine gH (s := 0) rfl rfl gD fun ha => ?_
 refine gH (s := 1) rfl rfl gD fun hb => ?_
 refine aE (aA (cj rfl (aD (aB (aE (aE (aA ?_)))))))
 first | refine ej rfl ?_ | refine AL rfl ?_ | refine Fv rfl ?_ | refine sV rfl ?_
 first | refine b9 rfl rfl rfl ?_ | refine ju rfl rfl rfl ?_ | refine jX rfl rfl rfl ?_ | refine j5 rfl rfl rfl ?_ | refine lF rfl rfl rfl ?_
 first | refine ej rfl ?_ | refine AL rfl ?_ | refine Fv rfl ?_ | refine sV rfl ?_
 first | refine b9 rfl rfl rfl ?_ | refine ju rfl rfl rfl ?_ | refine jX rfl rfl rfl ?_ | refine j5 rfl rfl rfl ?_ | refine lF rfl rfl rfl ?_
 refine bC rfl rfl rfl (aD (aB ?_))
 first | refine az rfl (fun hc1 => ?_) (fun hc1 => ?_) | refine bz rfl (fun hc1 => ?_) (fun hc1 => ?_) | refine bt rfl (fun hc1 => ?_) (fun hc1 => ?_) | refine gx rfl (fun hc1 => ?_) (fun hc1 => ?_)
 ·
  refine aE (aA (cj rfl (aD (aB (ay (aQ (bJ rfl rfl ?_)))))))
  all_goals first | exact bY rfl rfl | exact jT (by decide) | exact mE | skip
  exact ah rfl rfl (congrArg Ty.bool (by rw [eq_comm, decide_eq_false_iff_not]; intro e; subst e; exact hc1 rfl))
 refine aq (aB (aE (aE (aA ?_))))
 first | refine ej rfl ?_ | refine AL rfl ?_ | refine Fv rfl ?_ | refine sV rfl ?_
 first | refine b9 rfl rfl rfl ?_ | refine ju rfl rfl rfl ?_ | refine jX rfl rfl rfl ?_ | refine j5 rfl rfl rfl ?_ | refine lF rfl rfl rfl ?_
 refine bI rfl (aD (aB (af ?_)))
 refine cK (fun (k : {k : Nat // a.take k = b.take k}) => live [(0, Ty.sl lC a), (1, Ty.sl lC b), (12, Ty.sl lC a), (13, Ty.int .i64 a.length), (14, Ty.int .i64 (k.1 : Nat))] []) (fun k => a.length - k.1) (⟨0, by simp⟩) ?_ fun k => ?_
 ·(refine cv.mk' ?_ ?_ <;> (repeat' (first | exact aM | exact aL | exact c7 | refine aC ?_ (Ty.aV _) | refine aC ?_ (Ty.aF _) | refine aC ?_ Ty.dQ | refine aK rfl (Cont.aF _) ?_ | refine aK rfl (Cont.dB ?_) ?_ | refine bG ?_ (Ty.aF _) | refine bG ?_ Ty.dQ | refine bG ?_ ?_ | refine aK rfl ?_ ?_ | refine aC ?_ ?_)))
 have hlen : a.length = b.length := by omega
 refine aE (aA (bC rfl rfl rfl (aD (aB (aE ?_)))))
 first | refine az rfl (fun hc2 => ?_) (fun hc2 => ?_) | refine bz rfl (fun hc2 => ?_) (fun hc2 => ?_) | refine bt rfl (fun hc2 => ?_) (fun hc2 => ?_) | refine gx rfl (fun hc2 => ?_) (fun hc2 => ?_)
 ·
  refine aq (aB (aE (af (aE (aA (bI rfl ?_))))))
  first | refine ak rfl rfl rfl rfl rfl rfl (by first | omega | (dsimp only; omega) | (simp <;> omega)) ?_ | refine cx rfl rfl rfl rfl rfl (by first | omega | (dsimp only; omega) | (simp <;> omega)) ?_ | refine fQ rfl rfl rfl rfl rfl (by omega) (by first | omega | (dsimp only; omega) | (simp <;> omega)) ?_ | refine jm rfl rfl rfl rfl rfl rfl (by omega) (by first | omega | (dsimp only; omega) | (simp <;> omega)) ?_ | refine r8 rfl rfl rfl rfl rfl rfl (by first | omega | (dsimp only; omega) | (simp <;> omega)) ?_
  first | refine aG rfl rfl rfl rfl ?_ | refine aX rfl rfl (by decide) rfl rfl rfl ?_ | refine fT rfl rfl rfl rfl ?_ | refine eV rfl rfl rfl (by decide) rfl rfl (by first | omega | (dsimp only; omega) | (simp <;> omega)) rfl ?_ | refine cX rfl rfl rfl (by decide) rfl rfl (by first | omega | (dsimp only; omega) | (simp <;> omega)) rfl ?_ | refine eU rfl rfl rfl (by decide) rfl rfl (by first | omega | (dsimp only; omega) | (simp <;> omega)) rfl ?_ | refine fq rfl rfl rfl rfl ?_ | refine fy rfl rfl (by decide) rfl rfl rfl ?_ | refine fX rfl rfl rfl (Nat.zero_add _) (by first | omega | (dsimp only; omega) | (simp <;> omega)) rfl ?_
  refine bk rfl ?_
  first | refine xX rfl ?_ | refine AK rfl ?_ | refine kE rfl ?_ | refine Kt rfl ?_
  refine aD (aB (aE (aA ?_)))
  first | refine ej rfl ?_ | refine AL rfl ?_ | refine Fv rfl ?_ | refine sV rfl ?_
  first | refine ej rfl ?_ | refine AL rfl ?_ | refine Fv rfl ?_ | refine sV rfl ?_
  refine bI rfl ?_
  first | refine ak rfl rfl rfl rfl rfl rfl (by first | omega | (dsimp only; omega) | (simp <;> omega)) ?_ | refine cx rfl rfl rfl rfl rfl (by first | omega | (dsimp only; omega) | (simp <;> omega)) ?_ | refine fQ rfl rfl rfl rfl rfl (by omega) (by first | omega | (dsimp only; omega) | (simp <;> omega)) ?_ | refine jm rfl rfl rfl rfl rfl rfl (by omega) (by first | omega | (dsimp only; omega) | (simp <;> omega)) ?_ | refine r8 rfl rfl rfl rfl rfl rfl (by first | omega | (dsimp only; omega) | (simp <;> omega)) ?_
  first | refine aG rfl rfl rfl rfl ?_ | refine aX rfl rfl (by decide) rfl rfl rfl ?_ | refine fT rfl rfl rfl rfl ?_ | refine eV rfl rfl rfl (by decide) rfl rfl (by first | omega | (dsimp only; omega) | (simp <;> omega)) rfl ?_ | refine cX rfl rfl rfl (by decide) rfl rfl (by first | omega | (dsimp only; omega) | (simp <;> omega)) rfl ?_ | refine eU rfl rfl rfl (by decide) rfl rfl (by first | omega | (dsimp only; omega) | (simp <;> omega)) rfl ?_ | refine fq rfl rfl rfl rfl ?_ | refine fy rfl rfl (by decide) rfl rfl rfl ?_ | refine fX rfl rfl rfl (Nat.zero_add _) (by first | omega | (dsimp only; omega) | (simp <;> omega)) rfl ?_
  refine aZ (uQ _ _) rfl rfl rfl rfl rfl (dX rfl (aD (aB ?_)))
  first | refine az rfl (fun hc3 => ?_) (fun hc3 => ?_) | refine bz rfl (fun hc3 => ?_) (fun hc3 => ?_) | refine bt rfl (fun hc3 => ?_) (fun hc3 => ?_) | refine gx rfl (fun hc3 => ?_) (fun hc3 => ?_)
  ·
   refine aE (aA (cj rfl (aD (aB (ay (au (aQ (aQ (au ?_)))))))))
   refine aQ (bJ rfl rfl ?_)
   all_goals first | exact bY rfl rfl | exact jT (by decide) | exact mE | skip
   exact ah rfl rfl (congrArg Ty.bool (by rw [eq_comm, decide_eq_false_iff_not]; exact lI (k := k.1) hc3))
  refine aq (bM (aB (aA ?_)))
  first | refine b8 rfl rfl (by omega) (by omega) ?_ | refine bC rfl rfl rfl ?_
  refine bI rfl (aD ?_)
  refine bO (⟨k.1 + 1, by have e : nth a k.1 = nth b k.1 := hc3; rw [cS (by omega), cS (by omega), k.2, e]⟩) ?_ (by show a.length - (k.1 + 1) < a.length - k.1; omega)
  (refine cv.mk' ?_ ?_ <;> (repeat' (first | exact aM | exact aL | exact c7 | refine aC ?_ (Ty.aV _) | refine aC ?_ (Ty.aF _) | refine aC ?_ Ty.dQ | refine aK rfl (Cont.aF _) ?_ | refine aK rfl (Cont.dB ?_) ?_ | refine bG ?_ (Ty.aF _) | refine bG ?_ Ty.dQ | refine bG ?_ ?_ | refine aK rfl ?_ ?_ | refine aC ?_ ?_)))
  all_goals first | exact Ty.gY (cS (by omega)).symm | skip
 refine cI (aP (aP (aj rfl (aB (aE (aA (cj rfl (aD (aB ?_)))))))))
 refine ay (bJ rfl rfl ?_)
 all_goals first | exact bY rfl rfl | exact jT (by decide) | exact mE | skip
 exact ah rfl rfl (congrArg Ty.bool (by rw [eq_comm, decide_eq_true_eq]; have := k.2; rwa [List.take_of_length_le (by omega), List.take_of_length_le (by omega)] at this))
set_option maxRecDepth 100000 in
theorem vo (y : bA) (a : dL) : dK Tryz.prog 13 [eB y, mA a] (Ty.bool true) := by
 refine aa Tryz.func13 rfl (by decide) Tryz.ntmps13 (by exact Nat.le_of_ble_eq_true rfl) fun w0 M0 => ?_
 refine aE (aA ?_)
 first | refine bD rfl ?_ | refine nN rfl ?_ | refine BG rfl ?_
 first | refine bD rfl ?_ | refine nN rfl ?_ | refine BG rfl ?_
 refine cj rfl (aD (aB (aE (aE (aA ?_)))))
 first | refine aU rfl rfl rfl (by exact Nat.le_of_ble_eq_true rfl) ?_ | refine bf rfl rfl (by decide) rfl rfl (by exact Nat.le_of_ble_eq_true rfl) ?_ | refine dj rfl rfl rfl (by exact Nat.le_of_ble_eq_true rfl) ?_ | refine dn rfl rfl rfl rfl rfl ?_ | refine dh rfl rfl (by decide) rfl rfl rfl rfl ?_
 first | refine aZ (EL y) rfl rfl rfl rfl rfl ?_ | refine z9 [6, 7, 8, 80, 85] (EL y) rfl (by repeat (first | exact tZ | refine ga (bR rfl rfl) ?_ | refine ga (wm rfl) ?_ | refine ga wA ?_)) (by first | exact c6 _ _ | exact jv _ | exact j9 (by repeat (first | exact jw | refine jB (by first | exact c6 _ _ | exact jv _) ?_))) ?_
 refine e8 rfl ?_
 apply aJ (s := 20) rfl rfl rfl
 ·intro hg; apply aO; (first | refine aI rfl rfl rfl rfl rfl (by decide) ?_ | refine aS rfl rfl rfl rfl rfl (by decide) ?_ | refine gI rfl rfl rfl rfl rfl (by decide) ?_ | refine gE rfl rfl rfl rfl rfl (by decide) ?_ | refine eH rfl rfl rfl rfl rfl (by decide) ?_); refine aD ?_; exact rfl
 ·exact rfl
 ·exact rfl
 apply aJ (s := 20) rfl rfl rfl
 ·intro hg; apply aH (s := 21) rfl (by first | exact hg | (rw [hg]; done) | (rw [hg]; rfl) | (simp only [*]; done) | (rw [hg1, hg2]; rfl) | (rw [hg2]; rfl) | (rw [hg1]; rfl) | (simp; done) | (simp [*]; done)); apply aO; (first | refine aG rfl rfl rfl rfl ?_ | refine aX rfl rfl (by decide) rfl rfl rfl ?_ | refine fT rfl rfl rfl rfl ?_ | refine eV rfl rfl rfl (by decide) rfl rfl (by first | omega | (dsimp only; omega) | (simp <;> omega)) rfl ?_ | refine cX rfl rfl rfl (by decide) rfl rfl (by first | omega | (dsimp only; omega) | (simp <;> omega)) rfl ?_ | refine eU rfl rfl rfl (by decide) rfl rfl (by first | omega | (dsimp only; omega) | (simp <;> omega)) rfl ?_ | refine fq rfl rfl rfl rfl ?_ | refine fy rfl rfl (by decide) rfl rfl rfl ?_ | refine fX rfl rfl rfl (Nat.zero_add _) (by first | omega | (dsimp only; omega) | (simp <;> omega)) rfl ?_); refine aD ?_; exact rfl
 ·exact rfl
 ·exact rfl
 apply aJ (s := 20) rfl rfl rfl
 ·intro hg; apply aH (s := 22) rfl (by first | exact hg | (rw [hg]; done) | (rw [hg]; rfl) | (simp only [*]; done) | (rw [hg1, hg2]; rfl) | (rw [hg2]; rfl) | (rw [hg1]; rfl) | (simp; done) | (simp [*]; done)); apply aO; (first | refine b9 rfl rfl rfl ?_ | refine ju rfl rfl rfl ?_ | refine jX rfl rfl rfl ?_ | refine j5 rfl rfl rfl ?_ | refine lF rfl rfl rfl ?_); refine aD ?_; exact rfl
 ·exact rfl
 ·exact rfl
 apply aJ (s := 20) rfl rfl rfl
 ·intro hg; apply aH (s := 23) rfl (by first | exact hg | (rw [hg]; done) | (rw [hg]; rfl) | (simp only [*]; done) | (rw [hg1, hg2]; rfl) | (rw [hg2]; rfl) | (rw [hg1]; rfl) | (simp; done) | (simp [*]; done)); apply aO; (refine bC rfl rfl rfl ?_); refine aD ?_; exact rfl
 ·exact rfl
 ·exact rfl
 refine iC rfl rfl (e8 rfl ?_)
 apply aJ (s := 26) rfl rfl rfl
 ·intro hg; apply aO; (first | refine aI rfl rfl rfl rfl rfl (by decide) ?_ | refine aS rfl rfl rfl rfl rfl (by decide) ?_ | refine gI rfl rfl rfl rfl rfl (by decide) ?_ | refine gE rfl rfl rfl rfl rfl (by decide) ?_ | refine eH rfl rfl rfl rfl rfl (by decide) ?_); refine aD ?_; exact rfl
 ·exact rfl
 ·exact rfl
 apply aJ (s := 26) rfl rfl rfl
 ·intro hg; apply aH (s := 27) rfl (by first | exact hg | (rw [hg]; done) | (rw [hg]; rfl) | (simp only [*]; done) | (rw [hg1, hg2]; rfl) | (rw [hg2]; rfl) | (rw [hg1]; rfl) | (simp; done) | (simp [*]; done)); apply aO; (first | refine aG rfl rfl rfl rfl ?_ | refine aX rfl rfl (by decide) rfl rfl rfl ?_ | refine fT rfl rfl rfl rfl ?_ | refine eV rfl rfl rfl (by decide) rfl rfl (by first | omega | (dsimp only; omega) | (simp <;> omega)) rfl ?_ | refine cX rfl rfl rfl (by decide) rfl rfl (by first | omega | (dsimp only; omega) | (simp <;> omega)) rfl ?_ | refine eU rfl rfl rfl (by decide) rfl rfl (by first | omega | (dsimp only; omega) | (simp <;> omega)) rfl ?_ | refine fq rfl rfl rfl rfl ?_ | refine fy rfl rfl (by decide) rfl rfl rfl ?_ | refine fX rfl rfl rfl (Nat.zero_add _) (by first | omega | (dsimp only; omega) | (simp <;> omega)) rfl ?_); refine aD ?_; exact rfl
 ·exact rfl
 ·exact rfl
 apply aJ (s := 26) rfl rfl rfl
 ·intro hg; apply aH (s := 28) rfl (by first | exact hg | (rw [hg]; done) | (rw [hg]; rfl) | (simp only [*]; done) | (rw [hg1, hg2]; rfl) | (rw [hg2]; rfl) | (rw [hg1]; rfl) | (simp; done) | (simp [*]; done)); apply aO; (first | refine b9 rfl rfl rfl ?_ | refine ju rfl rfl rfl ?_ | refine jX rfl rfl rfl ?_ | refine j5 rfl rfl rfl ?_ | refine lF rfl rfl rfl ?_); refine aD ?_; exact rfl
 ·exact rfl
 ·exact rfl
 apply aJ (s := 26) rfl rfl rfl
 ·intro hg; apply aH (s := 29) rfl (by first | exact hg | (rw [hg]; done) | (rw [hg]; rfl) | (simp only [*]; done) | (rw [hg1, hg2]; rfl) | (rw [hg2]; rfl) | (rw [hg1]; rfl) | (simp; done) | (simp [*]; done)); apply aO; (refine bC rfl rfl rfl ?_); refine aD ?_; exact rfl
 ·exact rfl
 ·exact rfl
 refine iC rfl rfl (aD (aB ?_))
 first | refine az rfl (fun hc1 => ?_) (fun hc1 => ?_) | refine bz rfl (fun hc1 => ?_) (fun hc1 => ?_) | refine bt rfl (fun hc1 => ?_) (fun hc1 => ?_) | refine gx rfl (fun hc1 => ?_) (fun hc1 => ?_)
 ·
  refine aE (aA ?_)
  first | refine aZ (vF) rfl rfl rfl rfl rfl ?_ | refine z9 [6, 7, 8, 80, 85] (vF) rfl (by repeat (first | exact tZ | refine ga (bR rfl rfl) ?_ | refine ga (wm rfl) ?_ | refine ga wA ?_)) (by first | exact c6 _ _ | exact jv _ | exact j9 (by repeat (first | exact jw | refine jB (by first | exact c6 _ _ | exact jv _) ?_))) ?_
  refine cj rfl (aD (aB (ay (aQ (bJ rfl rfl ?_)))))
  all_goals first | exact bY rfl rfl | exact jT (by decide) | exact mE | skip
  all_goals first | exact ah rfl rfl (congrArg Ty.bool (by simp [xB])) | exact ah rfl rfl rfl | trace_state
 refine aq (aB (aE ?_))
 have hgr := hc1
 simp only [Bool.or_eq_false_iff, decide_eq_false_iff_not] at hgr
 obtain ⟨⟨hg, hl1⟩, hl2⟩ := hgr
 have hs := CD hg
 refine cN mixed rfl ?_
 first | refine aU rfl rfl rfl (by exact Nat.le_of_ble_eq_true rfl) ?_ | refine bf rfl rfl (by decide) rfl rfl (by exact Nat.le_of_ble_eq_true rfl) ?_ | refine dj rfl rfl rfl (by exact Nat.le_of_ble_eq_true rfl) ?_ | refine dn rfl rfl rfl rfl rfl ?_ | refine dh rfl rfl (by decide) rfl rfl rfl rfl ?_
 refine aZ (Mn y hs) rfl rfl rfl rfl rfl ?_
 first | refine aU rfl rfl rfl (by exact Nat.le_of_ble_eq_true rfl) ?_ | refine bf rfl rfl (by decide) rfl rfl (by exact Nat.le_of_ble_eq_true rfl) ?_ | refine dj rfl rfl rfl (by exact Nat.le_of_ble_eq_true rfl) ?_ | refine dn rfl rfl rfl rfl rfl ?_ | refine dh rfl rfl (by decide) rfl rfl rfl rfl ?_
 refine aZ (IM y hs) rfl rfl rfl rfl rfl ?_
 refine bu rfl (by exact List.cons_ne_nil _ _) rfl ?_
 refine bu rfl (by exact List.cons_ne_nil _ _) rfl ?_
 refine bq rfl rfl (by decide) rfl rfl rfl rfl rfl rfl ?_
 refine bq rfl rfl (by decide) rfl rfl rfl rfl rfl rfl ?_
 refine aD ?_
 refine ⟨by kernel_rfl, ?_⟩
 refine aB (aE (cN mixed rfl ?_))
 first | refine aI rfl rfl rfl rfl rfl (by decide) ?_ | refine aS rfl rfl rfl rfl rfl (by decide) ?_ | refine gI rfl rfl rfl rfl rfl (by decide) ?_ | refine gE rfl rfl rfl rfl rfl (by decide) ?_ | refine eH rfl rfl rfl rfl rfl (by decide) ?_
 first | refine aG rfl rfl rfl rfl ?_ | refine aX rfl rfl (by decide) rfl rfl rfl ?_ | refine fT rfl rfl rfl rfl ?_ | refine eV rfl rfl rfl (by decide) rfl rfl (by first | omega | (dsimp only; omega) | (simp <;> omega)) rfl ?_ | refine cX rfl rfl rfl (by decide) rfl rfl (by first | omega | (dsimp only; omega) | (simp <;> omega)) rfl ?_ | refine eU rfl rfl rfl (by decide) rfl rfl (by first | omega | (dsimp only; omega) | (simp <;> omega)) rfl ?_ | refine fq rfl rfl rfl rfl ?_ | refine fy rfl rfl (by decide) rfl rfl rfl ?_ | refine fX rfl rfl rfl (Nat.zero_add _) (by first | omega | (dsimp only; omega) | (simp <;> omega)) rfl ?_
 refine aZ (pq a.first (by omega)) rfl rfl rfl rfl rfl ?_
 first | refine aI rfl rfl rfl rfl rfl (by decide) ?_ | refine aS rfl rfl rfl rfl rfl (by decide) ?_ | refine gI rfl rfl rfl rfl rfl (by decide) ?_ | refine gE rfl rfl rfl rfl rfl (by decide) ?_ | refine eH rfl rfl rfl rfl rfl (by decide) ?_
 first | refine aG rfl rfl rfl rfl ?_ | refine aX rfl rfl (by decide) rfl rfl rfl ?_ | refine fT rfl rfl rfl rfl ?_ | refine eV rfl rfl rfl (by decide) rfl rfl (by first | omega | (dsimp only; omega) | (simp <;> omega)) rfl ?_ | refine cX rfl rfl rfl (by decide) rfl rfl (by first | omega | (dsimp only; omega) | (simp <;> omega)) rfl ?_ | refine eU rfl rfl rfl (by decide) rfl rfl (by first | omega | (dsimp only; omega) | (simp <;> omega)) rfl ?_ | refine fq rfl rfl rfl rfl ?_ | refine fy rfl rfl (by decide) rfl rfl rfl ?_ | refine fX rfl rfl rfl (Nat.zero_add _) (by first | omega | (dsimp only; omega) | (simp <;> omega)) rfl ?_
 refine aZ (pq a.bN (by omega)) rfl rfl rfl rfl rfl ?_
 refine dJ rfl rfl (by exact List.cons_ne_nil _ _) rfl (by repeat (first | exact (aW.nil : aW _ _ [] _) | (show aW _ _ ((_, _) :: _) _; apply aW.one; (· first | exact (rfl : _ = Ty.int _ _) | exact (rfl : _ = Ty.sl _ _) | exact (rfl : _ = Ty.row _ _ _ _) | exact (rfl : _ = Ty.Kf _ _ _ _ _) | exact (rfl : _ = Ty.vs _ _) | exact (rfl : _ = Ty.op _ _) | exact (rfl : _ = Ty.Ks _ _) | exact (rfl : _ = Ty.bool _) | exact (rfl : _ = Ty.ptr _ _) | exact (rfl : _ = Ty.pp _) | exact (rfl : _ = Ty.kD _) | exact (rfl : _ = Ty.jD _ _) | exact (rfl : _ = Ty.gd _ _) | exact (rfl : _ = Ty.str _) | exact (rfl : _ = Ty.pe _ _ _) | exact (rfl : _ = Ty.pa _ _ _) | exact (rfl : _ = Ty.when _ _) | exact (rfl : _ = Ty.nd _ _ _) | exact (rfl : _ = Ty.ao _ _) | exact (rfl : _ = Ty.mp _) | exact (rfl : _ = Ty.pm _ _ _) | exact (rfl : _ = Ty.arr _ _) | exact (rfl : _ = Ty.ex _)); (· exact rfl)) | (show aW _ _ ((_, _) :: _) _; apply aW.agg; (· exact (rfl : _ = Ty.agg _))) | (show aW _ _ ((_, _) :: _) _; apply aW.arr; (· exact (rfl : _ = Ty.arr _ _))))) (by first | exact (rfl : _ = some []) | exact (rfl : _ = some [_]) | exact (rfl : _ = some [_, _]) | exact (rfl : _ = some [_, _, _]) | exact (rfl : _ = some [_, _, _, _]) | exact rfl) ?_
 refine bu rfl (by exact List.cons_ne_nil _ _) rfl ?_
 refine bq rfl rfl (by decide) rfl rfl rfl rfl rfl rfl ?_
 refine aD ?_
 refine ⟨by kernel_rfl, ?_⟩
 refine aB (aE (aA ?_))
 first | refine aU rfl rfl rfl (by exact Nat.le_of_ble_eq_true rfl) ?_ | refine bf rfl rfl (by decide) rfl rfl (by exact Nat.le_of_ble_eq_true rfl) ?_ | refine dj rfl rfl rfl (by exact Nat.le_of_ble_eq_true rfl) ?_ | refine dn rfl rfl rfl rfl rfl ?_ | refine dh rfl rfl (by decide) rfl rfl rfl rfl ?_
 refine aZ (G6 y hs) rfl rfl rfl rfl rfl (bk rfl (aD (aB (aE ?_))))
 refine iU (s := 8) rfl (Ty.bU (check_eq y)) ?_
 refine aA (cj rfl (aD (aB (aE (aA (kE rfl (aD (aB ?_))))))))
 refine oq (J := live [(2, Ty.pp (bS y)), (3, Ty.pp (eP a)), (5, Ty.ptr 6 0), (6, Ty.ptr 7 0), (7, Ty.ptr 8 0), (8, Ty.int .i64 (jM y a)), (9, Ty.bool (BY y a)), (10, Ty.sl lC (qI y a))] [(6, Cont.cells 27 (bS y)), (7, Cont.cells 60 (bS y)), (8, Cont.cells 30 (eP a))]) ?_ ?_
 ·
  refine aE (aA (bI rfl (bC rfl rfl rfl (aD (aB ?_)))))
  first | refine az rfl (fun hc2 => ?_) (fun hc2 => ?_) | refine bz rfl (fun hc2 => ?_) (fun hc2 => ?_) | refine bt rfl (fun hc2 => ?_) (fun hc2 => ?_) | refine gx rfl (fun hc2 => ?_) (fun hc2 => ?_)
  ·
   refine aE (cN mixed rfl ?_)
   first | refine aU rfl rfl rfl (by exact Nat.le_of_ble_eq_true rfl) ?_ | refine bf rfl rfl (by decide) rfl rfl (by exact Nat.le_of_ble_eq_true rfl) ?_ | refine dj rfl rfl rfl (by exact Nat.le_of_ble_eq_true rfl) ?_ | refine dn rfl rfl rfl rfl rfl ?_ | refine dh rfl rfl (by decide) rfl rfl rfl rfl ?_
   first | refine aU rfl rfl rfl (by exact Nat.le_of_ble_eq_true rfl) ?_ | refine bf rfl rfl (by decide) rfl rfl (by exact Nat.le_of_ble_eq_true rfl) ?_ | refine dj rfl rfl rfl (by exact Nat.le_of_ble_eq_true rfl) ?_ | refine dn rfl rfl rfl rfl rfl ?_ | refine dh rfl rfl (by decide) rfl rfl rfl rfl ?_
   refine aZ (AG a (by omega) (by omega)) rfl rfl rfl rfl rfl ?_
   refine aZ (HQ y hs a (by omega) (by omega)) rfl rfl rfl rfl rfl ?_
   refine bk rfl (aD ?_)
   refine ⟨by kernel_rfl, ?_⟩
   refine aB (aE ?_)
   refine iU (s := 8) rfl (Ty.bU (MH (a := a) hc2)) ?_
   refine aA (bI rfl (bC rfl rfl rfl (aD (aB ?_))))
   first | refine az rfl (fun hc3 => ?_) (fun hc3 => ?_) | refine bz rfl (fun hc3 => ?_) (fun hc3 => ?_) | refine bt rfl (fun hc3 => ?_) (fun hc3 => ?_) | refine gx rfl (fun hc3 => ?_) (fun hc3 => ?_)
   ·
    refine aE ?_
    obtain ⟨hr, hsa⟩ := IY hc3
    have hyb := hr.bins
    have hym := hr.moves
    have hyd := hr.days
    have hD := D_eq hr
    have hfl := hsa.lens.first
    have hml := hsa.lens.bN
    have hams : NA y a := ⟨by omega, by omega, fun x hx => by have := hsa.first x hx; omega, fun x hx => by have := hsa.bN x hx; omega⟩
    refine cN mixed rfl ?_
    first | refine aU rfl rfl rfl (by exact Nat.le_of_ble_eq_true rfl) ?_ | refine bf rfl rfl (by decide) rfl rfl (by exact Nat.le_of_ble_eq_true rfl) ?_ | refine dj rfl rfl rfl (by exact Nat.le_of_ble_eq_true rfl) ?_ | refine dn rfl rfl rfl rfl rfl ?_ | refine dh rfl rfl (by decide) rfl rfl rfl rfl ?_
    first | refine aU rfl rfl rfl (by exact Nat.le_of_ble_eq_true rfl) ?_ | refine bf rfl rfl (by decide) rfl rfl (by exact Nat.le_of_ble_eq_true rfl) ?_ | refine dj rfl rfl rfl (by exact Nat.le_of_ble_eq_true rfl) ?_ | refine dn rfl rfl rfl rfl rfl ?_ | refine dh rfl rfl (by decide) rfl rfl rfl rfl ?_
    refine aZ (AG a (by omega) (by omega)) rfl rfl rfl rfl rfl ?_
    refine aZ (Iv y a hr hsa) rfl rfl rfl rfl rfl (bC rfl rfl rfl (cj rfl (aD ?_)))
    refine ⟨by kernel_rfl, ?_⟩
    refine aB (aE ?_)
    refine iU (s := 9) rfl (Ty.dM (Ej hr)) ?_
    refine aA ?_
    first | refine aI rfl rfl rfl rfl rfl (by decide) ?_ | refine aS rfl rfl rfl rfl rfl (by decide) ?_ | refine gI rfl rfl rfl rfl rfl (by decide) ?_ | refine gE rfl rfl rfl rfl rfl (by decide) ?_ | refine eH rfl rfl rfl rfl rfl (by decide) ?_
    first | refine aG rfl rfl rfl rfl ?_ | refine aX rfl rfl (by decide) rfl rfl rfl ?_ | refine fT rfl rfl rfl rfl ?_ | refine eV rfl rfl rfl (by decide) rfl rfl (by first | omega | (dsimp only; omega) | (simp <;> omega)) rfl ?_ | refine cX rfl rfl rfl (by decide) rfl rfl (by first | omega | (dsimp only; omega) | (simp <;> omega)) rfl ?_ | refine eU rfl rfl rfl (by decide) rfl rfl (by first | omega | (dsimp only; omega) | (simp <;> omega)) rfl ?_ | refine fq rfl rfl rfl rfl ?_ | refine fy rfl rfl (by decide) rfl rfl rfl ?_ | refine fX rfl rfl rfl (Nat.zero_add _) (by first | omega | (dsimp only; omega) | (simp <;> omega)) rfl ?_
    first | refine b9 rfl rfl rfl ?_ | refine ju rfl rfl rfl ?_ | refine jX rfl rfl rfl ?_ | refine j5 rfl rfl rfl ?_ | refine lF rfl rfl rfl ?_
    refine bI rfl (aD (aB (af ?_)))
    refine cK (fun (b : {b : Nat // b ≤ y.bins.length}) => live [(2, Ty.pp (bS y)), (3, Ty.pp (eP a)), (5, Ty.ptr 6 0), (6, Ty.ptr 7 0), (7, Ty.ptr 8 0), (8, Ty.int .i64 (jM y a)), (9, Ty.bool (lX y a)), (61, Ty.int .i64 y.bins.length), (62, Ty.int .i64 (b.1 : Nat)), (10, Ty.row lC 28 85 ((fK y a).take b.1))] [(6, Cont.cells 27 (bS y)), (7, Cont.cells 60 (bS y)), (8, Cont.cells 30 (eP a))]) (fun b => y.bins.length - b.1) (⟨0, Nat.zero_le _⟩) ?_ fun b => ?_
    ·(refine cv.mk' ?_ ?_ <;> (repeat' (first | exact aM | exact aL | exact c7 | refine aC ?_ (Ty.aV _) | refine aC ?_ (Ty.aF _) | refine aC ?_ Ty.dQ | refine aK rfl (Cont.aF _) ?_ | refine aK rfl (Cont.dB ?_) ?_ | refine bG ?_ (Ty.aF _) | refine bG ?_ Ty.dQ | refine bG ?_ ?_ | refine aK rfl ?_ ?_ | refine aC ?_ ?_)))
     all_goals first | exact w8 rfl | trace_state
    have hb := b.2
    refine aE (aA (bC rfl rfl rfl (aD (aB (aE ?_)))))
    first | refine az rfl (fun hc4 => ?_) (fun hc4 => ?_) | refine bz rfl (fun hc4 => ?_) (fun hc4 => ?_) | refine bt rfl (fun hc4 => ?_) (fun hc4 => ?_) | refine gx rfl (fun hc4 => ?_) (fun hc4 => ?_)
    ·
     refine aq (aB (aE (af (aE (aA (bI rfl (bk rfl (aD (aB ?_)))))))))
     refine aE (aA (kE rfl (aD (aB (aE (aE (aA ?_)))))))
     first | refine aI rfl rfl rfl rfl rfl (by decide) ?_ | refine aS rfl rfl rfl rfl rfl (by decide) ?_ | refine gI rfl rfl rfl rfl rfl (by decide) ?_ | refine gE rfl rfl rfl rfl rfl (by decide) ?_ | refine eH rfl rfl rfl rfl rfl (by decide) ?_
     first | refine aG rfl rfl rfl rfl ?_ | refine aX rfl rfl (by decide) rfl rfl rfl ?_ | refine fT rfl rfl rfl rfl ?_ | refine eV rfl rfl rfl (by decide) rfl rfl (by first | omega | (dsimp only; omega) | (simp <;> omega)) rfl ?_ | refine cX rfl rfl rfl (by decide) rfl rfl (by first | omega | (dsimp only; omega) | (simp <;> omega)) rfl ?_ | refine eU rfl rfl rfl (by decide) rfl rfl (by first | omega | (dsimp only; omega) | (simp <;> omega)) rfl ?_ | refine fq rfl rfl rfl rfl ?_ | refine fy rfl rfl (by decide) rfl rfl rfl ?_ | refine fX rfl rfl rfl (Nat.zero_add _) (by first | omega | (dsimp only; omega) | (simp <;> omega)) rfl ?_
     first | refine b8 rfl rfl (by omega) (by omega) ?_ | refine bC rfl rfl rfl ?_
     refine bI rfl (aD (aB (af ?_)))
     refine cK (fun (t : {t : Nat // t ≤ y.D + 1}) => live [(2, Ty.pp (bS y)), (3, Ty.pp (eP a)), (5, Ty.ptr 6 0), (6, Ty.ptr 7 0), (7, Ty.ptr 8 0), (8, Ty.int .i64 (jM y a)), (9, Ty.bool (lX y a)), (61, Ty.int .i64 y.bins.length), (62, Ty.int .i64 (b.1 : Nat)), (10, Ty.row lC 28 85 ((fK y a).take b.1)), (11, Ty.int .i64 (b.1 : Nat)), (12, Ty.row dD 3 80 (uZ y a b.1 t.1)), (67, Ty.int .i64 (y.days + 1)), (68, Ty.int .i64 (t.1 : Nat))] [(6, Cont.cells 27 (bS y)), (7, Cont.cells 60 (bS y)), (8, Cont.cells 30 (eP a))]) (fun t => y.D + 1 - t.1) (⟨0, Nat.zero_le _⟩) ?_ fun t => ?_
     ·(refine cv.mk' ?_ ?_ <;> (repeat' (first | exact aM | exact aL | exact c7 | refine aC ?_ (Ty.aV _) | refine aC ?_ (Ty.aF _) | refine aC ?_ Ty.dQ | refine aK rfl (Cont.aF _) ?_ | refine aK rfl (Cont.dB ?_) ?_ | refine bG ?_ (Ty.aF _) | refine bG ?_ Ty.dQ | refine bG ?_ ?_ | refine aK rfl ?_ ?_ | refine aC ?_ ?_)))
      all_goals first | exact w8 Fm.symm | trace_state
     have ht := t.2
     have htl := HP (y := y) (a := a) (b := b.1) (k := t.1)
     refine aE (aA (bC rfl rfl rfl (aD (aB (aE ?_)))))
     first | refine az rfl (fun hc5 => ?_) (fun hc5 => ?_) | refine bz rfl (fun hc5 => ?_) (fun hc5 => ?_) | refine bt rfl (fun hc5 => ?_) (fun hc5 => ?_) | refine gx rfl (fun hc5 => ?_) (fun hc5 => ?_)
     ·
      refine aq (aB (aE (af (aE (aA (bI rfl (bk rfl (aD (aB ?_)))))))))
      refine cN mixed rfl ?_
      first | refine ej rfl ?_ | refine AL rfl ?_ | refine Fv rfl ?_ | refine sV rfl ?_
      first | refine aU rfl rfl rfl (by exact Nat.le_of_ble_eq_true rfl) ?_ | refine bf rfl rfl (by decide) rfl rfl (by exact Nat.le_of_ble_eq_true rfl) ?_ | refine dj rfl rfl rfl (by exact Nat.le_of_ble_eq_true rfl) ?_ | refine dn rfl rfl rfl rfl rfl ?_ | refine dh rfl rfl (by decide) rfl rfl rfl rfl ?_
      first | refine aU rfl rfl rfl (by exact Nat.le_of_ble_eq_true rfl) ?_ | refine bf rfl rfl (by decide) rfl rfl (by exact Nat.le_of_ble_eq_true rfl) ?_ | refine dj rfl rfl rfl (by exact Nat.le_of_ble_eq_true rfl) ?_ | refine dn rfl rfl rfl rfl rfl ?_ | refine dh rfl rfl (by decide) rfl rfl rfl rfl ?_
      refine aZ (AG a (by omega) (by omega)) rfl rfl rfl rfl rfl ?_
      refine bI rfl (bI rfl ?_)
      refine aZ (Gt y a hams ((b.1 : Nat) : Int) ((t.1 : Nat) : Int) (Int.natCast_nonneg _) (by omega)) rfl rfl rfl rfl rfl ?_
      refine bg (E := dD) (xs := [dO y a ((b.1 : Nat) : Int) ((t.1 : Nat) : Int)]) rfl rfl rfl rfl rfl (by decide) (by decide) (by repeat (first | exact (aW.nil : aW _ _ [] _) | (show aW _ _ ((_, _) :: _) _; apply aW.one; (· first | exact (rfl : _ = Ty.int _ _) | exact (rfl : _ = Ty.sl _ _) | exact (rfl : _ = Ty.row _ _ _ _) | exact (rfl : _ = Ty.Kf _ _ _ _ _) | exact (rfl : _ = Ty.vs _ _) | exact (rfl : _ = Ty.op _ _) | exact (rfl : _ = Ty.Ks _ _) | exact (rfl : _ = Ty.bool _) | exact (rfl : _ = Ty.ptr _ _) | exact (rfl : _ = Ty.pp _) | exact (rfl : _ = Ty.kD _) | exact (rfl : _ = Ty.jD _ _) | exact (rfl : _ = Ty.gd _ _) | exact (rfl : _ = Ty.str _) | exact (rfl : _ = Ty.pe _ _ _) | exact (rfl : _ = Ty.pa _ _ _) | exact (rfl : _ = Ty.when _ _) | exact (rfl : _ = Ty.nd _ _ _) | exact (rfl : _ = Ty.ao _ _) | exact (rfl : _ = Ty.mp _) | exact (rfl : _ = Ty.pm _ _ _) | exact (rfl : _ = Ty.arr _ _) | exact (rfl : _ = Ty.ex _)); (· exact rfl)) | (show aW _ _ ((_, _) :: _) _; apply aW.agg; (· exact (rfl : _ = Ty.agg _))) | (show aW _ _ ((_, _) :: _) _; apply aW.arr; (· exact (rfl : _ = Ty.arr _ _))))) (by exact rfl) rfl ?_
      first | refine fI rfl rfl (by decide) rfl rfl rfl rfl rfl rfl (by decide) (by first | omega | (dsimp only; omega) | (simp <;> omega)) (by first | omega | (dsimp only; omega) | (simp <;> omega)) ?_ | refine yT rfl rfl rfl rfl rfl rfl rfl rfl (by decide) (by first | omega | (dsimp only; omega) | (simp <;> omega)) (by first | omega | (dsimp only; omega) | (simp <;> omega)) ?_
      first | refine xX rfl ?_ | refine AK rfl ?_ | refine kE rfl ?_ | refine Kt rfl ?_
      refine aD ?_
      refine ⟨by kernel_rfl, ?_⟩
      refine bM (aB (aA ?_))
      first | refine b8 rfl rfl (by omega) (by omega) ?_ | refine bC rfl rfl rfl ?_
      refine bI rfl (aD ?_)
      refine bO (⟨t.1 + 1, by omega⟩) ?_ (by show y.D + 1 - (t.1 + 1) < y.D + 1 - t.1; omega)
      (refine cv.mk' ?_ ?_ <;> (repeat' (first | exact aM | exact aL | exact c7 | refine aC ?_ (Ty.aV _) | refine aC ?_ (Ty.aF _) | refine aC ?_ Ty.dQ | refine aK rfl (Cont.aF _) ?_ | refine aK rfl (Cont.dB ?_) ?_ | refine bG ?_ (Ty.aF _) | refine bG ?_ Ty.dQ | refine bG ?_ ?_ | refine aK rfl ?_ ?_ | refine aC ?_ ?_)))
      all_goals first | exact Ty.gY (cS (by omega)).symm | skip
      all_goals first | exact Ty.gY Ey | trace_state
     refine cI (aP (aP (aj rfl (aB ?_))))
     refine jO (tg := 80) [(12, Ty.sl dD (uZ y a b.1 t.1))] (by decide) rfl ⟨pZ rfl, trivial⟩ ?_
     have hcl : ((fK y a).take b.1).length ≤ 4 := by rw [List.length_take]; omega
     refine aA ?_
     first | refine ej rfl ?_ | refine AL rfl ?_ | refine Fv rfl ?_ | refine sV rfl ?_
     first | refine ej rfl ?_ | refine AL rfl ?_ | refine Fv rfl ?_ | refine sV rfl ?_
     refine bg (E := lC) (xs := [uZ y a b.1 t.1]) rfl rfl rfl rfl rfl (by decide) (by decide) (by repeat (first | exact (aW.nil : aW _ _ [] _) | (show aW _ _ ((_, _) :: _) _; apply aW.one; (· first | exact (rfl : _ = Ty.int _ _) | exact (rfl : _ = Ty.sl _ _) | exact (rfl : _ = Ty.row _ _ _ _) | exact (rfl : _ = Ty.Kf _ _ _ _ _) | exact (rfl : _ = Ty.vs _ _) | exact (rfl : _ = Ty.op _ _) | exact (rfl : _ = Ty.Ks _ _) | exact (rfl : _ = Ty.bool _) | exact (rfl : _ = Ty.ptr _ _) | exact (rfl : _ = Ty.pp _) | exact (rfl : _ = Ty.kD _) | exact (rfl : _ = Ty.jD _ _) | exact (rfl : _ = Ty.gd _ _) | exact (rfl : _ = Ty.str _) | exact (rfl : _ = Ty.pe _ _ _) | exact (rfl : _ = Ty.pa _ _ _) | exact (rfl : _ = Ty.when _ _) | exact (rfl : _ = Ty.nd _ _ _) | exact (rfl : _ = Ty.ao _ _) | exact (rfl : _ = Ty.mp _) | exact (rfl : _ = Ty.pm _ _ _) | exact (rfl : _ = Ty.arr _ _) | exact (rfl : _ = Ty.ex _)); (· exact rfl)) | (show aW _ _ ((_, _) :: _) _; apply aW.agg; (· exact (rfl : _ = Ty.agg _))) | (show aW _ _ ((_, _) :: _) _; apply aW.arr; (· exact (rfl : _ = Ty.arr _ _))))) (by exact rfl) rfl ?_
     first | refine fI rfl rfl (by decide) rfl rfl rfl rfl rfl rfl (by decide) (by first | omega | (dsimp only; omega) | (simp <;> omega)) (by first | omega | (dsimp only; omega) | (simp <;> omega)) ?_ | refine yT rfl rfl rfl rfl rfl rfl rfl rfl (by decide) (by first | omega | (dsimp only; omega) | (simp <;> omega)) (by first | omega | (dsimp only; omega) | (simp <;> omega)) ?_
     first | refine xX rfl ?_ | refine AK rfl ?_ | refine kE rfl ?_ | refine Kt rfl ?_
     refine aD (bM (aB (aA ?_)))
     first | refine b8 rfl rfl (by omega) (by omega) ?_ | refine bC rfl rfl rfl ?_
     refine bI rfl (aD ?_)
     refine bO (⟨b.1 + 1, by omega⟩) ?_ (by show y.bins.length - (b.1 + 1) < y.bins.length - b.1; omega)
     (refine cv.mk' ?_ ?_ <;> (repeat' (first | exact aM | exact aL | exact c7 | refine aC ?_ (Ty.aV _) | refine aC ?_ (Ty.aF _) | refine aC ?_ Ty.dQ | refine aK rfl (Cont.aF _) ?_ | refine aK rfl (Cont.dB ?_) ?_ | refine bG ?_ (Ty.aF _) | refine bG ?_ Ty.dQ | refine bG ?_ ?_ | refine aK rfl ?_ ?_ | refine aC ?_ ?_)))
     all_goals first | exact Ty.gY (cS (by omega)).symm | skip
     all_goals first | exact Ty.gY (by rw [cS (by rw [lJ]; omega), ← F4 (by omega), show t.1 = y.D + 1 by omega]) | trace_state
    refine cI (aP (aP (aj rfl ?_)))
    first | refine Cd (tg := 85) [(10, Ty.sl lC ((fK y a).take b.1))] [] (by decide) rfl ⟨pZ rfl, trivial⟩ trivial ?_ | skip
    refine gl ?_
    (refine cv.mk' ?_ ?_ <;> (repeat' (first | exact aM | exact aL | exact c7 | refine aC ?_ (Ty.aV _) | refine aC ?_ (Ty.aF _) | refine aC ?_ Ty.dQ | refine aK rfl (Cont.aF _) ?_ | refine aK rfl (Cont.dB ?_) ?_ | refine bG ?_ (Ty.aF _) | refine bG ?_ Ty.dQ | refine bG ?_ ?_ | refine aK rfl ?_ ?_ | refine aC ?_ ?_)))
    all_goals first | exact Ty.bU (pM hc2).1 | exact Ty.dM (CX (fun h => hc2 ((pM (a := a) hc2).1.trans h))) | exact lN (pM hc2).2 | exact Ty.dM (CX hc3) | exact lN (z6 hc3) | exact Ty.dM (yZ hc3) | exact Ty.qt ((List.take_of_length_le (by rw [lJ]; omega)).trans (zQ hc3)) | trace_state
   refine aq ?_
   first | refine Cd (tg := 85) [(10, Ty.sl lC ((fK y a).take b.1))] [] (by decide) rfl ⟨pZ rfl, trivial⟩ trivial ?_ | skip
   refine gl ?_
   (refine cv.mk' ?_ ?_ <;> (repeat' (first | exact aM | exact aL | exact c7 | refine aC ?_ (Ty.aV _) | refine aC ?_ (Ty.aF _) | refine aC ?_ Ty.dQ | refine aK rfl (Cont.aF _) ?_ | refine aK rfl (Cont.dB ?_) ?_ | refine bG ?_ (Ty.aF _) | refine bG ?_ Ty.dQ | refine bG ?_ ?_ | refine aK rfl ?_ ?_ | refine aC ?_ ?_)))
   all_goals first | exact Ty.bU (pM hc2).1 | exact Ty.dM (CX (fun h => hc2 ((pM (a := a) hc2).1.trans h))) | exact lN (pM hc2).2 | exact Ty.dM (CX hc3) | exact lN (z6 hc3) | exact Ty.dM (yZ hc3) | exact Ty.qt ((List.take_of_length_le (by rw [lJ]; omega)).trans (zQ hc3)) | trace_state
  refine aq ?_
  first | refine Cd (tg := 85) [(10, Ty.sl lC ((fK y a).take b.1))] [] (by decide) rfl ⟨pZ rfl, trivial⟩ trivial ?_ | skip
  refine gl ?_
  (refine cv.mk' ?_ ?_ <;> (repeat' (first | exact aM | exact aL | exact c7 | refine aC ?_ (Ty.aV _) | refine aC ?_ (Ty.aF _) | refine aC ?_ Ty.dQ | refine aK rfl (Cont.aF _) ?_ | refine aK rfl (Cont.dB ?_) ?_ | refine bG ?_ (Ty.aF _) | refine bG ?_ Ty.dQ | refine bG ?_ ?_ | refine aK rfl ?_ ?_ | refine aC ?_ ?_)))
  all_goals first | exact Ty.bU (pM hc2).1 | exact Ty.dM (CX (fun h => hc2 ((pM (a := a) hc2).1.trans h))) | exact lN (pM hc2).2 | exact Ty.dM (CX hc3) | exact lN (z6 hc3) | exact Ty.dM (yZ hc3) | exact Ty.qt ((List.take_of_length_le (by rw [lJ]; omega)).trans (zQ hc3)) | trace_state
 refine aE (aA ?_)
 first | refine aU rfl rfl rfl (by exact Nat.le_of_ble_eq_true rfl) ?_ | refine bf rfl rfl (by decide) rfl rfl (by exact Nat.le_of_ble_eq_true rfl) ?_ | refine dj rfl rfl rfl (by exact Nat.le_of_ble_eq_true rfl) ?_ | refine dn rfl rfl rfl rfl rfl ?_ | refine dh rfl rfl (by decide) rfl rfl rfl rfl ?_
 first | refine aU rfl rfl rfl (by exact Nat.le_of_ble_eq_true rfl) ?_ | refine bf rfl rfl (by decide) rfl rfl (by exact Nat.le_of_ble_eq_true rfl) ?_ | refine dj rfl rfl rfl (by exact Nat.le_of_ble_eq_true rfl) ?_ | refine dn rfl rfl rfl rfl rfl ?_ | refine dh rfl rfl (by decide) rfl rfl rfl rfl ?_
 refine aZ (vS y hs a (by omega) (by omega)) rfl rfl rfl rfl rfl ?_
 refine sn rfl (bP rfl rfl (bP rfl rfl ?_))
 first | refine xX rfl ?_ | refine AK rfl ?_ | refine kE rfl ?_ | refine Kt rfl ?_
 refine bk rfl (aD (aB (aE (aA ?_))))
 first | refine aU rfl rfl rfl (by exact Nat.le_of_ble_eq_true rfl) ?_ | refine bf rfl rfl (by decide) rfl rfl (by exact Nat.le_of_ble_eq_true rfl) ?_ | refine dj rfl rfl rfl (by exact Nat.le_of_ble_eq_true rfl) ?_ | refine dn rfl rfl rfl rfl rfl ?_ | refine dh rfl rfl (by decide) rfl rfl rfl rfl ?_
 first | refine aU rfl rfl rfl (by exact Nat.le_of_ble_eq_true rfl) ?_ | refine bf rfl rfl (by decide) rfl rfl (by exact Nat.le_of_ble_eq_true rfl) ?_ | refine dj rfl rfl rfl (by exact Nat.le_of_ble_eq_true rfl) ?_ | refine dn rfl rfl rfl rfl rfl ?_ | refine dh rfl rfl (by decide) rfl rfl rfl rfl ?_
 refine aZ (Ln y hs a (by omega) (by omega)) rfl rfl rfl rfl rfl ?_
 refine sn rfl (bP rfl rfl (bP rfl rfl (cj rfl (bk rfl (aD (aB (aE (aA (bI rfl ?_)))))))))
 refine bI rfl (bC rfl rfl rfl (e8 rfl ?_))
 apply aJ (s := 101) rfl rfl rfl
 ·intro hg; apply aO; (refine bI rfl ?_); refine aD ?_; exact rfl
 ·exact rfl
 ·exact rfl
 apply aJ (s := 101) rfl rfl rfl
 ·intro hg; apply aO; (refine bI rfl ?_); refine aD ?_; exact rfl
 ·exact rfl
 ·exact rfl
 apply aJ (s := 101) rfl rfl rfl
 ·intro hg; apply aH (s := 102) rfl (by first | exact hg | (rw [hg]; done) | (rw [hg]; rfl) | (simp only [*]; done) | (rw [hg1, hg2]; rfl) | (rw [hg2]; rfl) | (rw [hg1]; rfl) | (simp; done) | (simp [*]; done)); apply aH (s := 103) rfl (by first | exact hg | (rw [hg]; done) | (rw [hg]; rfl) | (simp only [*]; done) | (rw [hg1, hg2]; rfl) | (rw [hg2]; rfl) | (rw [hg1]; rfl) | (simp; done) | (simp [*]; done)); apply aO; (refine bC rfl rfl rfl ?_); refine aD ?_; exact rfl
 ·exact rfl
 ·exact rfl
 refine eC rfl rfl (e8 rfl ?_)
 apply aJ (s := 106) rfl rfl rfl
 ·intro hg; apply aO; (refine e8 rfl ?_); refine aD ?_; exact rfl
 ·exact rfl
 ·exact rfl
 apply aJ (s := 106) rfl rfl rfl
 ·intro hg; apply aO; (refine e8 rfl ?_); refine aD ?_; exact rfl
 ·exact rfl
 ·exact rfl
 apply aJ (s := 106) rfl rfl rfl
 ·intro hg; apply aH (s := 107) rfl (by first | exact hg | (rw [hg]; done) | (rw [hg]; rfl) | (simp only [*]; done) | (rw [hg1, hg2]; rfl) | (rw [hg2]; rfl) | (rw [hg1]; rfl) | (simp; done) | (simp [*]; done)); apply aH (s := 108) rfl (by first | exact hg | (rw [hg]; done) | (rw [hg]; rfl) | (simp only [*]; done) | (rw [hg1, hg2]; rfl) | (rw [hg2]; rfl) | (rw [hg1]; rfl) | (simp; done) | (simp [*]; done)); apply aO; (refine JN MC rfl rfl ?_); refine aD ?_; exact rfl
 ·exact rfl
 ·exact rfl
 refine eC rfl rfl (e8 rfl ?_)
 apply aJ (s := 111) rfl rfl rfl
 ·intro hg; apply aO; (first | refine ej rfl ?_ | refine AL rfl ?_ | refine Fv rfl ?_ | refine sV rfl ?_); refine aD ?_; exact rfl
 ·exact rfl
 ·exact rfl
 apply aJ (s := 111) rfl rfl rfl
 ·intro hg; apply aO; (first | refine ej rfl ?_ | refine AL rfl ?_ | refine Fv rfl ?_ | refine sV rfl ?_); refine aD ?_; exact rfl
 ·exact rfl
 ·exact rfl
 apply aJ (s := 111) rfl rfl rfl
 ·intro hg; apply aH (s := 112) rfl (by first | exact hg | (rw [hg]; done) | (rw [hg]; rfl) | (simp only [*]; done) | (rw [hg1, hg2]; rfl) | (rw [hg2]; rfl) | (rw [hg1]; rfl) | (simp; done) | (simp [*]; done)); apply aH (s := 113) rfl (by first | exact hg | (rw [hg]; done) | (rw [hg]; rfl) | (simp only [*]; done) | (rw [hg1, hg2]; rfl) | (rw [hg2]; rfl) | (rw [hg1]; rfl) | (simp; done) | (simp [*]; done)); apply aO; (refine aZ (Hs _ _) rfl rfl rfl rfl rfl ?_); refine aD ?_; exact rfl
 ·exact rfl
 ·exact rfl
 refine eC rfl rfl (e8 rfl ?_)
 apply aJ (s := 116) rfl rfl rfl
 ·intro hg; apply aO; (first | refine aU rfl rfl rfl (by exact Nat.le_of_ble_eq_true rfl) ?_ | refine bf rfl rfl (by decide) rfl rfl (by exact Nat.le_of_ble_eq_true rfl) ?_ | refine dj rfl rfl rfl (by exact Nat.le_of_ble_eq_true rfl) ?_ | refine dn rfl rfl rfl rfl rfl ?_ | refine dh rfl rfl (by decide) rfl rfl rfl rfl ?_); refine aD ?_; exact rfl
 ·exact rfl
 ·exact rfl
 apply aJ (s := 116) rfl rfl rfl
 ·intro hg; apply aO; (first | refine aU rfl rfl rfl (by exact Nat.le_of_ble_eq_true rfl) ?_ | refine bf rfl rfl (by decide) rfl rfl (by exact Nat.le_of_ble_eq_true rfl) ?_ | refine dj rfl rfl rfl (by exact Nat.le_of_ble_eq_true rfl) ?_ | refine dn rfl rfl rfl rfl rfl ?_ | refine dh rfl rfl (by decide) rfl rfl rfl rfl ?_); refine aD ?_; exact rfl
 ·exact rfl
 ·exact rfl
 apply aJ (s := 116) rfl rfl rfl
 ·intro hg; apply aH (s := 117) rfl (by first | exact hg | (rw [hg]; done) | (rw [hg]; rfl) | (simp only [*]; done) | (rw [hg1, hg2]; rfl) | (rw [hg2]; rfl) | (rw [hg1]; rfl) | (simp; done) | (simp [*]; done)); apply aH (s := 118) rfl (by first | exact hg | (rw [hg]; done) | (rw [hg]; rfl) | (simp only [*]; done) | (rw [hg1, hg2]; rfl) | (rw [hg2]; rfl) | (rw [hg1]; rfl) | (simp; done) | (simp [*]; done)); apply aO; (refine aZ (L5 _ _) rfl rfl rfl rfl rfl ?_); refine aD ?_; exact rfl
 ·exact rfl
 ·exact rfl
 refine eC rfl rfl (e8 rfl ?_)
 apply aJ (s := 121) rfl rfl rfl
 ·intro hg; apply aO; (first | refine aI rfl rfl rfl rfl rfl (by decide) ?_ | refine aS rfl rfl rfl rfl rfl (by decide) ?_ | refine gI rfl rfl rfl rfl rfl (by decide) ?_ | refine gE rfl rfl rfl rfl rfl (by decide) ?_ | refine eH rfl rfl rfl rfl rfl (by decide) ?_); refine aD ?_; exact rfl
 ·exact rfl
 ·exact rfl
 apply aJ (s := 121) rfl rfl rfl
 ·intro hg; apply aH (s := 122) rfl (by first | exact hg | (rw [hg]; done) | (rw [hg]; rfl) | (simp only [*]; done) | (rw [hg1, hg2]; rfl) | (rw [hg2]; rfl) | (rw [hg1]; rfl) | (simp; done) | (simp [*]; done)); apply aO; (first | refine aG rfl rfl rfl rfl ?_ | refine aX rfl rfl (by decide) rfl rfl rfl ?_ | refine fT rfl rfl rfl rfl ?_ | refine eV rfl rfl rfl (by decide) rfl rfl (by first | omega | (dsimp only; omega) | (simp <;> omega)) rfl ?_ | refine cX rfl rfl rfl (by decide) rfl rfl (by first | omega | (dsimp only; omega) | (simp <;> omega)) rfl ?_ | refine eU rfl rfl rfl (by decide) rfl rfl (by first | omega | (dsimp only; omega) | (simp <;> omega)) rfl ?_ | refine fq rfl rfl rfl rfl ?_ | refine fy rfl rfl (by decide) rfl rfl rfl ?_ | refine fX rfl rfl rfl (Nat.zero_add _) (by first | omega | (dsimp only; omega) | (simp <;> omega)) rfl ?_); refine aD ?_; exact rfl
 ·exact rfl
 ·exact rfl
 apply aJ (s := 121) rfl rfl rfl
 ·intro hg; apply aO; (first | refine aI rfl rfl rfl rfl rfl (by decide) ?_ | refine aS rfl rfl rfl rfl rfl (by decide) ?_ | refine gI rfl rfl rfl rfl rfl (by decide) ?_ | refine gE rfl rfl rfl rfl rfl (by decide) ?_ | refine eH rfl rfl rfl rfl rfl (by decide) ?_); refine aD ?_; exact rfl
 ·exact rfl
 ·exact rfl
 apply aJ (s := 121) rfl rfl rfl
 ·intro hg; apply aH (s := 124) rfl (by first | exact hg | (rw [hg]; done) | (rw [hg]; rfl) | (simp only [*]; done) | (rw [hg1, hg2]; rfl) | (rw [hg2]; rfl) | (rw [hg1]; rfl) | (simp; done) | (simp [*]; done)); apply aO; (first | refine aG rfl rfl rfl rfl ?_ | refine aX rfl rfl (by decide) rfl rfl rfl ?_ | refine fT rfl rfl rfl rfl ?_ | refine eV rfl rfl rfl (by decide) rfl rfl (by first | omega | (dsimp only; omega) | (simp <;> omega)) rfl ?_ | refine cX rfl rfl rfl (by decide) rfl rfl (by first | omega | (dsimp only; omega) | (simp <;> omega)) rfl ?_ | refine eU rfl rfl rfl (by decide) rfl rfl (by first | omega | (dsimp only; omega) | (simp <;> omega)) rfl ?_ | refine fq rfl rfl rfl rfl ?_ | refine fy rfl rfl (by decide) rfl rfl rfl ?_ | refine fX rfl rfl rfl (Nat.zero_add _) (by first | omega | (dsimp only; omega) | (simp <;> omega)) rfl ?_); refine aD ?_; exact rfl
 ·exact rfl
 ·exact rfl
 apply aJ (s := 121) rfl rfl rfl
 ·intro hg; apply aH (s := 123) rfl (by first | exact hg | (rw [hg]; done) | (rw [hg]; rfl) | (simp only [*]; done) | (rw [hg1, hg2]; rfl) | (rw [hg2]; rfl) | (rw [hg1]; rfl) | (simp; done) | (simp [*]; done)); apply aH (s := 125) rfl (by first | exact hg | (rw [hg]; done) | (rw [hg]; rfl) | (simp only [*]; done) | (rw [hg1, hg2]; rfl) | (rw [hg2]; rfl) | (rw [hg1]; rfl) | (simp; done) | (simp [*]; done)); apply aO; (refine aZ (sJ _ _) rfl rfl rfl rfl rfl ?_); refine aD ?_; exact rfl
 ·exact rfl
 ·exact rfl
 refine eC rfl rfl (e8 rfl ?_)
 apply aJ (s := 128) rfl rfl rfl
 ·intro hg; apply aO; (first | refine aI rfl rfl rfl rfl rfl (by decide) ?_ | refine aS rfl rfl rfl rfl rfl (by decide) ?_ | refine gI rfl rfl rfl rfl rfl (by decide) ?_ | refine gE rfl rfl rfl rfl rfl (by decide) ?_ | refine eH rfl rfl rfl rfl rfl (by decide) ?_); refine aD ?_; exact rfl
 ·exact rfl
 ·exact rfl
 apply aJ (s := 128) rfl rfl rfl
 ·intro hg; apply aH (s := 129) rfl (by first | exact hg | (rw [hg]; done) | (rw [hg]; rfl) | (simp only [*]; done) | (rw [hg1, hg2]; rfl) | (rw [hg2]; rfl) | (rw [hg1]; rfl) | (simp; done) | (simp [*]; done)); apply aO; (first | refine aG rfl rfl rfl rfl ?_ | refine aX rfl rfl (by decide) rfl rfl rfl ?_ | refine fT rfl rfl rfl rfl ?_ | refine eV rfl rfl rfl (by decide) rfl rfl (by first | omega | (dsimp only; omega) | (simp <;> omega)) rfl ?_ | refine cX rfl rfl rfl (by decide) rfl rfl (by first | omega | (dsimp only; omega) | (simp <;> omega)) rfl ?_ | refine eU rfl rfl rfl (by decide) rfl rfl (by first | omega | (dsimp only; omega) | (simp <;> omega)) rfl ?_ | refine fq rfl rfl rfl rfl ?_ | refine fy rfl rfl (by decide) rfl rfl rfl ?_ | refine fX rfl rfl rfl (Nat.zero_add _) (by first | omega | (dsimp only; omega) | (simp <;> omega)) rfl ?_); refine aD ?_; exact rfl
 ·exact rfl
 ·exact rfl
 apply aJ (s := 128) rfl rfl rfl
 ·intro hg; apply aO; (first | refine aI rfl rfl rfl rfl rfl (by decide) ?_ | refine aS rfl rfl rfl rfl rfl (by decide) ?_ | refine gI rfl rfl rfl rfl rfl (by decide) ?_ | refine gE rfl rfl rfl rfl rfl (by decide) ?_ | refine eH rfl rfl rfl rfl rfl (by decide) ?_); refine aD ?_; exact rfl
 ·exact rfl
 ·exact rfl
 apply aJ (s := 128) rfl rfl rfl
 ·intro hg; apply aH (s := 131) rfl (by first | exact hg | (rw [hg]; done) | (rw [hg]; rfl) | (simp only [*]; done) | (rw [hg1, hg2]; rfl) | (rw [hg2]; rfl) | (rw [hg1]; rfl) | (simp; done) | (simp [*]; done)); apply aO; (first | refine aG rfl rfl rfl rfl ?_ | refine aX rfl rfl (by decide) rfl rfl rfl ?_ | refine fT rfl rfl rfl rfl ?_ | refine eV rfl rfl rfl (by decide) rfl rfl (by first | omega | (dsimp only; omega) | (simp <;> omega)) rfl ?_ | refine cX rfl rfl rfl (by decide) rfl rfl (by first | omega | (dsimp only; omega) | (simp <;> omega)) rfl ?_ | refine eU rfl rfl rfl (by decide) rfl rfl (by first | omega | (dsimp only; omega) | (simp <;> omega)) rfl ?_ | refine fq rfl rfl rfl rfl ?_ | refine fy rfl rfl (by decide) rfl rfl rfl ?_ | refine fX rfl rfl rfl (Nat.zero_add _) (by first | omega | (dsimp only; omega) | (simp <;> omega)) rfl ?_); refine aD ?_; exact rfl
 ·exact rfl
 ·exact rfl
 apply aJ (s := 128) rfl rfl rfl
 ·intro hg; apply aH (s := 130) rfl (by first | exact hg | (rw [hg]; done) | (rw [hg]; rfl) | (simp only [*]; done) | (rw [hg1, hg2]; rfl) | (rw [hg2]; rfl) | (rw [hg1]; rfl) | (simp; done) | (simp [*]; done)); apply aH (s := 132) rfl (by first | exact hg | (rw [hg]; done) | (rw [hg]; rfl) | (simp only [*]; done) | (rw [hg1, hg2]; rfl) | (rw [hg2]; rfl) | (rw [hg1]; rfl) | (simp; done) | (simp [*]; done)); apply aO; (refine aZ (sJ _ _) rfl rfl rfl rfl rfl ?_); refine aD ?_; exact rfl
 ·exact rfl
 ·exact rfl
 refine eC rfl rfl (e8 rfl ?_)
 apply aJ (s := 135) rfl rfl rfl
 ·intro hg; apply aO; (first | refine aZ (vF) rfl rfl rfl rfl rfl ?_ | refine z9 [6, 7, 8, 80, 85] (vF) rfl (by repeat (first | exact tZ | refine ga (bR rfl rfl) ?_ | refine ga (wm rfl) ?_ | refine ga wA ?_)) (by first | exact c6 _ _ | exact jv _ | exact j9 (by repeat (first | exact jw | refine jB (by first | exact c6 _ _ | exact jv _) ?_))) ?_); refine aD ?_; exact rfl
 ·exact rfl
 ·exact rfl
 refine eC rfl rfl (cj rfl (aD (aB (ay (bJ rfl rfl ?_)))))
 all_goals first | exact bY rfl rfl | exact jT (by decide) | exact mE | skip
 all_goals first | exact ah rfl rfl (congrArg Ty.bool (by simp [xB])) | exact ah rfl rfl rfl | trace_state
end Go.Proofs.YtelbollidfdcjaaGreat
namespace Go.T
open Go Go.RowKit Go.ChangeShapes Go.WideShapes Go.ChangeAt
def nO : bB := fun _ => none
theorem Jj (w : World) : Wf w nO := ⟨fun _ _ h => (by cases h), fun _ _ _ _ h => (by cases h)⟩
theorem Fe : ∀ b t, nO b = some t → t = 0 := fun _ _ h => by cases h
structure Rd {α : Type} (P : Program) (e : TypeId) (E : El α) : Prop where
  size : P.cellsOf e = E.size
  pos : 0 < E.size
  rd : ∀ {H : Type} {enc : TypeId × Value → H} {w : World} {base : Nat} {held : Bool} {n : Nat} {cs : List Value} {y : DataW H × List MemPlace}, DataW.trod enc P w base (fun _ => true) held n e cs = some y → ∃ x, cB w nO (E.tys x) cs
section
variable {H : Type} {enc : TypeId × Value → H} {P : Program} {w : World} {base : Nat} {held : Bool} {α : Type} {E : El α} {t e : TypeId} {n : Nat} {cs : List Value} {y : DataW H × List MemPlace}
theorem M8 (hR : Rd P e E) (ht : P.underlying t = some (.slice e)) (h : DataW.trod enc P w base (fun _ => true) held n t cs = some y) : ∃ v xs, cs = [v] ∧ (Ty.sl E xs).den w nO v := by
 rcases Go.Deep.open_slice ht h with ⟨rfl, _⟩ | ⟨a, len, cap, m, k, D, Pl, rfl, _, hl, hm, hmm, _, hel⟩
 ·exact ⟨_, [], rfl, none, 0, rfl, Nat.le_refl _, Nat.zero_le _, fun h => absurd h (Nat.lt_irrefl _)⟩
 have hlm : len ≤ m := by rw [hmm]; simpa using hl
 have hX : ∀ i : Fin len, ∃ x : α, ∃ cs', w.cells? base (a.add (i.1 * P.cellsOf e)) (P.cellsOf e) = some cs' ∧ cB w nO (E.tys x) cs' := fun i => by
  obtain ⟨cs', h1, h2⟩ := hel i.1 (Nat.lt_of_lt_of_le i.2 hlm)
  obtain ⟨x, hx⟩ := hR.rd h2
  exact ⟨x, cs', h1, hx⟩
 let X : Fin len → α := fun i => (hX i).choose
 have hXs : ∀ i : Fin len, ∃ cs', w.cells? base (a.add (i.1 * P.cellsOf e)) (P.cellsOf e) = some cs' ∧ cB w nO (E.tys (X i)) cs' := fun i => (hX i).choose_spec
 have hlen : (List.ofFn X).length = len := by simp
 refine ⟨_, List.ofFn X, rfl, some a, cap, by rw [hlen], by rw [hlen]; exact hl, hm, fun h0 => ?_⟩
 rw [hlen] at h0
 have hcell : ∀ (i : Fin len) (j : Nat) (u : Ty), (E.tys (X i))[j]? = some u → ∃ v, w.cell? (a.add (i.1 * E.size + j)) = some v ∧ u.den w nO v := fun i j u hu => by
  obtain ⟨cs', h1, h2⟩ := hXs i
  obtain ⟨v, hv, hd⟩ := dG h2 j u hu
  obtain ⟨_, g1, g2⟩ := World.cells?_some h1
  have hj : j < P.cellsOf e := by
   rw [hR.size, ← E.len (X i)]
   exact (List.getElem?_eq_some_iff.1 hu).1
  refine ⟨v, ?_, hd⟩
  have := g2 j hj
  rw [Go.Deep.add_add, hv, hR.size] at this
  exact this
 have hsz := hR.pos
 have hfirst : ∃ v, w.cell? (a.add 0) = some v := by
  obtain ⟨u, hu⟩ : ∃ u, (E.tys (X ⟨0, h0⟩))[0]? = some u := ⟨_, List.getElem?_eq_getElem (by rw [E.len]; exact hsz)⟩
  obtain ⟨v, hv, _⟩ := hcell ⟨0, h0⟩ 0 u hu
  exact ⟨v, by simpa using hv⟩
 obtain ⟨b, off, sp⟩ := a
 obtain ⟨v0, hv0⟩ := hfirst
 have hsp : sp = none := by simpa [Addr.add] using World.cell?_spot hv0
 subst hsp
 have hb : b < w.heap.size := by
  obtain ⟨cs', h1, _⟩ := hXs ⟨0, h0⟩
  have := World.cells?_block h1 (by rw [hR.size]; exact hsz)
  simpa [Addr.add] using this
 refine ⟨b, off, rfl, rfl, hb, fun i u hu => ?_⟩
 have hi : i < len * E.size := by
  have := (List.getElem?_eq_some_iff.1 hu).1
  rw [cq, hlen] at this; exact this
 have hk : i / E.size < len := Nat.div_lt_of_lt_mul (by rw [Nat.mul_comm]; exact hi)
 have hj : i % E.size < E.size := Nat.mod_lt _ hsz
 have hij : i / E.size * E.size + i % E.size = i := by rw [Nat.mul_comm]; exact Nat.div_add_mod i E.size
 have hu2 := hu
 rw [← hij, sL E _ _ _ (by rw [hlen]; exact hk) hj, List.getElem?_ofFn, dif_pos hk] at hu2
 obtain ⟨v, hv, hd⟩ := hcell ⟨i / E.size, hk⟩ (i % E.size) u hu2
 refine ⟨v, ?_, hd⟩
 rw [← Go.WideShapes.add_plain]
 rw [hij] at hv
 exact hv
theorem wW {f0 f1 : Field} (hs : P.underlying t = some (.struct #[f0, f1])) (hC : P.cellsOf t = 2) (h0 : f0.offset = 0 ∧ P.cellsOf f0.type = 1) (h1 : f1.offset = 1 ∧ P.cellsOf f1.type = 1) (h : DataW.trod enc P w base (fun _ => true) held n t cs = some y) :
    ∃ c0 c1 y0 y1 m, cs = [c0, c1] ∧ DataW.trod enc P w base (fun _ => true) held m f0.type [c0] = some y0 ∧ DataW.trod enc P w base (fun _ => true) held m f1.type [c1] = some y1 := by
  obtain ⟨y0, y1, m, _, hl, g0, g1⟩ := Go.ChangeShapes.trod_struct2 hs h
  rw [hC] at hl
  match cs, hl with
  | [c0, c1], _ =>
    rw [h0.1, h0.2] at g0
    rw [h1.1, h1.2] at g1
    exact ⟨c0, c1, y0, y1, m, rfl, g0, g1⟩
theorem nZ {k : IntKind} {c : Value} (ht : P.underlying t = some (.int k)) (h : DataW.trod enc P w base (fun _ => true) held n t [c] = some y) : ∃ i, c = .int k i := by
 obtain ⟨i, e, _⟩ := DataW.trod_int ht h
 exact ⟨i, by simpa using e⟩
theorem vi {c : Value} (hR : Rd P e E) (ht : P.underlying t = some (.slice e)) (h : DataW.trod enc P w base (fun _ => true) held n t [c] = some y) : ∃ xs, (Ty.sl E xs).den w nO c := by
 obtain ⟨v, xs, e, hd⟩ := M8 hR ht h
 exact ⟨xs, by rw [show c = v by simpa using e]; exact hd⟩
end
section
variable {w w' : World} {S K : Nat → Prop} {M' : bB}
theorem rN (le : Le S K w nO w' M') {b : Nat} (hb : b < w.heap.size) : w'.heap[b]? = w.heap[b]? := (le.oM b hb rfl).2
theorem JZ (le : Le S K w nO w' M') {p : MemPlace} (hp : p.block < w.heap.size) : w.sameAt w' p := by
  cases p with
  | cell b o => exact World.cell?_of_block (w := w) (rN le hp)
  | map b => exact rN le hp
theorem KT (le : Le S K w nO w' M') (may : MemPlace → Prop) : w.keptBut w' may := by
 refine ⟨le.os, le.out, fun i hi => ?_⟩
 have e := rN le hi
 rw [e]
 split
 ·rename_i h1 h2
  rw [h1] at h2
  simp only [Option.some.injEq, Obj.cells.injEq] at h2
  obtain ⟨rfl, rfl, rfl⟩ := h2
  exact ⟨rfl, rfl, rfl, fun _ _ => rfl⟩
 ·rename_i h1 h2
  rw [h1] at h2
  simp only [Option.some.injEq, Obj.map.injEq] at h2
  exact Or.inr ⟨h2.1.symm, h2.2.symm⟩
 rfl
theorem EV (le : Le S K w nO w' M') {a : Addr} (ha : a.block < w.heap.size) : w'.frozen? a = w.frozen? a := by
 unfold World.frozen?
 rw [rN le ha]
end
section
variable {H : Type} {enc : TypeId × Value → H} {P : Program}
theorem qU (hl : laidOutB P = true) {w w' : World} {sp : Nat → Bool} : ∀ {ts : List TypeId} {vs : List Value} {ds : List (DataW H)} {ps : List MemPlace}, (∀ t ∈ ts, P.readableRec t = true ∧ t < P.types.size) →
    DataW.TrodAll enc P w 0 (fun _ => true) true ts vs ds ps → (∀ p ∈ ps, w.sameAt w' p) → (∀ p ∈ ps, sp p.block = true) → DataW.TrodAll enc P w' 0 sp true ts vs ds ps
  | [], [], [], _, _, h, _, _ => h
  | t :: ts, v :: vs, d :: ds, _, ht, ⟨p, q, h1, h2, e⟩, hs, hsp => by
    subst e
    have h0 := ht t List.mem_cons_self
    exact ⟨p, q, Go.WideElems.Trod_stays hl h0.1 h0.2 h1 (fun x hx => hs x (List.mem_append_left _ hx)) (fun x hx => hsp x (List.mem_append_left _ hx)),
      qU hl (fun t h => ht t (List.mem_cons_of_mem _ h)) h2 (fun x hx => hs x (List.mem_append_right _ hx)) (fun x hx => hsp x (List.mem_append_right _ hx)), rfl⟩
theorem E8 {f : Func} {s : ChangeSpec} {apart fresh handsOn again : Bool} {W W' : World} {args : Array Value} {ds : List (DataW H)} {before : List MemPlace} {S K : Nat → Prop} {M' : bB}
 (hl : laidOutB P = true) (hv : s.vars = []) (hrd : ∀ t ∈ f.params.toList, P.readableRec t = true ∧ t < P.types.size) {tb : TypeId} (htb : P.underlying tb = some .bool) (hrt : f.resultTypes = #[tb])
 (hW : DataW.Whole enc P f.params.toList s.vars apart W args.toList ds [] before) (hres : (s.fn H (ds ++ [])).results = [.lit (.bool true)]) (hargs : (s.fn H (ds ++ [])).args = ds) (hvars : (s.fn H (ds ++ [])).vars = [])
 (le : Le S K W nO W' M') : s.post enc P f apart fresh handsOn again W args (.bool true) W' := by
 have hW0 := hW
 obtain ⟨p, q, hA, hV, hb, hfz, hn⟩ := hW0
 have hlt := DataW.TrodAll.lt hA
 have hq : q = [] := by rw [hv] at hV; exact (trodVars_none hV).2
 subst hq
 have hbp : before = p := by rw [hb]; simp
 have hre : ∀ (b : Nat) (sp : Nat → Bool) (hd : Bool), DataW.TrodAll enc P W' b sp hd f.resultTypes.toList ((Value.bool true).resultList f.resultTypes.size) (s.fn H (ds ++ [])).results [] := fun b sp hd => by
  rw [hrt, hres]; exact trodAll_mk1 (shut_bool htb true)
 have har : ∀ sp : Nat → Bool, (∀ x ∈ p, sp x.block = true) → DataW.TrodAll enc P W' 0 sp true f.params.toList args.toList (s.fn H (ds ++ [])).args p := fun sp hsp => by
  rw [hargs]; exact qU hl hrd hA (fun x hx => JZ le (hlt x hx)) hsp
 have hva : ∀ sp : Nat → Bool, DataW.TrodVars enc P W' sp s.vars (s.fn H (ds ++ [])).vars [] := fun sp => by
  rw [hvars, hv]; exact rfl
 have hok : ∀ (j : Nat) (t : TypeId) (r : Value), f.resultTypes[j]? = some t → ((Value.bool true).resultList f.resultTypes.size)[j]? = some r → Value.okWide P W' .any 0 t r := by
  exact ok_one (by rw [hrt]) rfl (okWide_bool_mk htb true)
 refine ⟨ds, [], before, [], p, [], hW, hre _ _ _, har _ (fun x hx => by simpa using hlt x hx), hva _, World.keptBut_mono (fun x hx => hx) (KT le _), fun _ => ?_⟩
 refine ⟨hok, _, _, ([] ++ p) ++ [], ⟨[] ++ p, [], trodAll_append (har _ (fun _ _ => rfl)) (hre _ _ _), hva _, rfl, ?_, ?_⟩, ?_⟩
 ·intro b off hp
  have hp' : MemPlace.cell b off ∈ p := by simpa using hp
  rw [EV le (hlt _ hp')]
  exact hfz b off (by rw [hbp]; exact hp')
 ·intro ha
  have := hn ha
  rw [hbp] at this
  simpa using this
 intro x hx _
 rw [hbp]
 simpa using hx
end
end Go.T
namespace Go.Proofs.YtelbollidfdcjaaGreat
open Go Go.T Go.RowKit Go.ChangeShapes Go.WideShapes Go.ChangeAt
set_option maxRecDepth 100000 in
theorem Kj : Rd Tryz.prog 3 dD := ⟨by kernel_rfl, by decide, fun h => by
 obtain ⟨i, rfl, _⟩ := DataW.trod_int Tryz.underlying3 h
 exact ⟨i, rfl, trivial⟩⟩
theorem N2 : Tryz.prog.cellsOf 3 = 1 := by kernel_rfl
theorem Hh : Tryz.prog.cellsOf 37 = 2 := by kernel_rfl
theorem Mq : Tryz.prog.cellsOf 39 = 3 := by kernel_rfl
theorem NZ : Tryz.prog.cellsOf 41 = 5 := by kernel_rfl
theorem K0 : Tryz.prog.cellsOf 102 = 4 := by kernel_rfl
set_option maxRecDepth 100000 in
theorem Iy : Rd Tryz.prog 37 dS := ⟨Hh, by decide, fun h => by
 obtain ⟨c0, c1, y0, y1, m, rfl, h0, h1⟩ := wW Tryz.underlying37 Hh ⟨rfl, by kernel_rfl⟩ ⟨rfl, by kernel_rfl⟩ h
 obtain ⟨a, rfl⟩ := nZ Tryz.underlying3 h0
 obtain ⟨b, rfl⟩ := nZ Tryz.underlying3 h1
 exact ⟨⟨a, b⟩, rfl, rfl, trivial⟩⟩
set_option maxRecDepth 100000 in
theorem Mw : Rd Tryz.prog 39 fJ := ⟨Mq, by decide, fun {_ _ _ _ _ _ cs _} h => by
  obtain ⟨y0, y1, m, _, hl, g0, g1⟩ := Go.ChangeShapes.trod_struct2 Tryz.underlying39 h
  rw [Mq] at hl
  match cs, hl with
  | [c0, c1, c2], _ =>
    simp only [N2, Hh] at g0 g1
    obtain ⟨a, rfl⟩ := nZ (c := c0) Tryz.underlying3 g0
    obtain ⟨s, hs⟩ := Iy.rd (cs := [c1, c2]) g1
    exact ⟨⟨a, s⟩, rfl, hs⟩⟩
set_option maxRecDepth 100000 in
theorem Mt : Rd Tryz.prog 41 eF := ⟨NZ, by decide, fun {_ _ _ _ _ _ cs _} h => by
  obtain ⟨y0, y1, y2, y3, m, _, hl, g0, g1, g2, g3⟩ := Go.Joins.trod_struct4 Tryz.underlying41 h
  rw [NZ] at hl
  match cs, hl with
  | [c0, c1, c2, c3, c4], _ =>
    simp only [N2, Hh] at g0 g1 g2 g3
    obtain ⟨a, rfl⟩ := nZ (c := c0) Tryz.underlying3 g0
    obtain ⟨b, rfl⟩ := nZ (c := c1) Tryz.underlying3 g1
    obtain ⟨c, rfl⟩ := nZ (c := c2) Tryz.underlying3 g2
    obtain ⟨s, hs⟩ := Iy.rd (cs := [c3, c4]) g3
    exact ⟨⟨a, b, c, s⟩, rfl, rfl, rfl, hs⟩⟩
set_option maxRecDepth 100000 in
theorem M6 : Rd Tryz.prog 102 dU := ⟨K0, by decide, fun {_ _ _ _ _ _ cs _} h => by
  obtain ⟨y0, y1, y2, m, _, hl, g0, g1, g2⟩ := Go.Deep.trod_struct3 Tryz.underlying102 h
  rw [K0] at hl
  match cs, hl with
  | [c0, c1, c2, c3], _ =>
    simp only [N2, Hh] at g0 g1 g2
    obtain ⟨a, rfl⟩ := nZ (c := c0) Tryz.underlying3 g0
    obtain ⟨b, rfl⟩ := nZ (c := c1) Tryz.underlying3 g1
    obtain ⟨s, hs⟩ := Iy.rd (cs := [c2, c3]) g2
    exact ⟨⟨a, b, s⟩, rfl, rfl, hs⟩⟩
section
variable {H : Type} {enc : TypeId × Value → H} {W : World} {base : Nat} {held : Bool} {v : Value} {d : DataW H} {p : List MemPlace}
set_option maxRecDepth 100000 in
theorem Ka (hv : Value.okWide Tryz.prog W .any base 27 v) (h : DataW.Trod enc Tryz.prog W 0 (fun _ => true) held 27 v d p) : ∃ y, (eB y).den W nO v := by
 obtain ⟨c0, c1, c2, c3, y0, y1, y2, y3, n, rfl, _, _, h0, h1, h2, h3⟩ := Go.Joins.open_agg4 Tryz.underlying27 (by kernel_rfl) (by kernel_rfl) hv h
 obtain ⟨a, rfl⟩ := nZ Tryz.underlying3 h0
 obtain ⟨bs, e1⟩ := vi Mw Tryz.underlying23 h1
 obtain ⟨ms, e2⟩ := vi Mt Tryz.underlying24 h2
 obtain ⟨ls, e3⟩ := vi M6 Tryz.underlying25 h3
 exact ⟨⟨a, bs, ms, ls⟩, _, rfl, rfl, e1, e2, e3, trivial⟩
end
end Go.Proofs.YtelbollidfdcjaaGreat
namespace Go.Proofs.YtelbollidfdcjaaGreat
open Go Go.T Go.RowKit Go.ChangeShapes Go.WideShapes Go.ChangeAt
section
variable {H : Type} {enc : TypeId × Value → H} {W : World} {base : Nat} {held : Bool} {v : Value} {d : DataW H} {p : List MemPlace}
set_option maxRecDepth 100000 in
theorem KL (hv : Value.okWide Tryz.prog W .any base 30 v) (h : DataW.Trod enc Tryz.prog W 0 (fun _ => true) held 30 v d p) : ∃ a, (mA a).den W nO v := by
 obtain ⟨cs, rfl, hsz⟩ := okWide_struct Tryz.underlying30 hv
 obtain ⟨fuel, hf⟩ := h
 obtain ⟨c0, c1, y0, y1, m, e, h0, h1⟩ := wW (cs := cs.toList) Tryz.underlying30 (by kernel_rfl) ⟨rfl, by kernel_rfl⟩ ⟨rfl, by kernel_rfl⟩ (by simpa [Value.cells] using hf)
 obtain ⟨l0, e0⟩ := vi Kj Tryz.underlying28 h0
 obtain ⟨l1, e1⟩ := vi Kj Tryz.underlying28 h1
 exact ⟨⟨l0, l1⟩, cs, rfl, by rw [e]; exact ⟨e0, e1, trivial⟩⟩
end
end Go.Proofs.YtelbollidfdcjaaGreat
