/- Lemmas: the program and the reference walked, plain laws. -/
import Derived.Test.YtmmcenjknimhbaaGreatOc
namespace Go.Proofs.YtmmcenjknimhbaaGreat
open Go Go.T
theorem pN {l : List Int} : ∀ {i : Nat}, i < l.length → ∀ v : Int, (l.set i v).sum = l.sum - nth l i + v := by
  induction l with
  | nil => intro i h; simp at h
  | cons x l ih =>
    intro i h v
    cases i with
    | zero => simp [nth]; omega
    | succ i =>
      have := ih (i := i) (by simpa using h) v
      simp only [List.set_cons_succ, List.sum_cons, this]
      have : nth (x :: l) (i + 1) = nth l i := rfl
      omega
theorem Gl {l : List Int} (h : ∀ x ∈ l, 0 ≤ x) : 0 ≤ l.sum ∧ ∀ x ∈ l, x ≤ l.sum := by
  induction l with
  | nil => simp
  | cons y l ih =>
    have h1 := ih fun x hx => h x (List.mem_cons_of_mem _ hx)
    have h2 := h y List.mem_cons_self
    refine ⟨by rw [List.sum_cons]; omega, fun x hx => ?_⟩
    rw [List.sum_cons]
    rcases List.mem_cons.1 hx with rfl | hx
    · omega
    · have := h1.2 x hx; omega
theorem sS {l : List Int} {P : Int → Prop} (h : ∀ j, j < l.length → P (nth l j)) : ∀ x ∈ l, P x := fun x hx => by
 obtain ⟨i, hi, rfl⟩ := List.getElem_of_mem hx
 have := h i hi
 rwa [cL hi] at this
def oq (n : Nat) (s : lR) : Nat → List Int × lR
  | 0 => (List.replicate n 0, s)
  | k + 1 => ((oq n s k).1.set (dN (oq n s k).2 n).toNat (nth (oq n s k).1 (dN (oq n s k).2 n).toNat + 1), bp (oq n s k).2)
theorem MC {s : lR} {n : Nat} (hn : 1 ≤ n) : 0 ≤ dN s n ∧ dN s n < n := by
 have := eI s n; omega
theorem DE {n : Nat} (hn : 1 ≤ n) (s : lR) : ∀ k, (oq n s k).1.length = n ∧ (oq n s k).1.sum = k ∧ (∀ j, j < n → 0 ≤ nth (oq n s k).1 j) ∧ (oq n s k).2.taken = s.taken + k
  | 0 => ⟨by simp [oq], by simp [oq], fun j hj => by simp [oq, nth, hj], by simp [oq]⟩
  | k + 1 => by
    obtain ⟨h1, h2, h3, h4⟩ := DE hn s k
    have hb := MC (s := (oq n s k).2) hn
    refine ⟨?_, ?_, fun j hj => ?_, ?_⟩
    · show (List.set _ _ _).length = _
      rw [List.length_set, h1]
    · show (List.set _ _ _).sum = _
      rw [pN (by omega), h2]; omega
    · show 0 ≤ nth (List.set _ _ _) j
      have := h3 j hj
      have := h3 (dN (oq n s k).2 n).toNat (by omega)
      rw [jJ]; split <;> omega
    · show (bp _).taken = _
      rw [dR, h4]; omega
def qb (sh : List Int) (has : Int) (bears : List Int) : Nat → List Int
  | 0 => bears
  | k + 1 => (qb sh has bears k).set k (nth (qb sh has bears k) k + nth sh k * has)
theorem A7 (sh : List Int) (has : Int) (bears : List Int) : ∀ k, (qb sh has bears k).length = bears.length ∧ ∀ j, j < bears.length → nth (qb sh has bears k) j = nth bears j + if j < k then nth sh j * has else 0
  | 0 => ⟨rfl, fun j _ => by simp [qb]⟩
  | k + 1 => by
    obtain ⟨h1, h2⟩ := A7 sh has bears k
    refine ⟨by show (List.set _ _ _).length = _; rw [List.length_set, h1], fun j hj => ?_⟩
    show nth (List.set _ _ _) j = _
    rw [jJ]
    by_cases e : k = j
    · subst e
      rw [if_pos ⟨rfl, by omega⟩, h2 k hj, if_neg (by omega), if_pos (by omega)]; omega
    · rw [if_neg (fun h => e h.1), h2 j hj]
      by_cases hjk : j < k
      · rw [if_pos hjk, if_pos (by omega)]
      · rw [if_neg hjk, if_neg (by omega)]
structure Mk where
  bears : List Int
  bins : List p5
  left : List Int
  sk : lR
def mkBin (n : Nat) (p : Mk) : p5 := ⟨dN p.sk 60, (oq n (bp p.sk) 4).1⟩
def fV (n : Nat) (s : lR) : Nat → Mk
  | 0 => ⟨List.replicate n 0, [], [], s⟩
  | k + 1 => ⟨qb (mkBin n (fV n s k)).shares (mkBin n (fV n s k)).has (fV n s k).bears n, (fV n s k).bins ++ [mkBin n (fV n s k)], (fV n s k).left ++ [(mkBin n (fV n s k)).has], (oq n (bp (fV n s k).sk) 4).2⟩
structure PD (n : Nat) (b : p5) : Prop where
  has : 0 ≤ b.has ∧ b.has ≤ 59
  len : b.shares.length = n
  sum : b.shares.sum = 4
  rng : ∀ j, j < n → 0 ≤ nth b.shares j ∧ nth b.shares j ≤ 4
theorem MA {n : Nat} (hn : 1 ≤ n) (p : Mk) : PD n (mkBin n p) := by
 obtain ⟨h1, h2, h3, _⟩ := DE hn (bp p.sk) 4
 have hb := eI p.sk 60
 have h5 : ∀ x ∈ (oq n (bp p.sk) 4).1, 0 ≤ x := sS fun j hj => h3 j (by omega)
 have h6 := (Gl h5).2
 refine ⟨⟨hb.1, ?_⟩, h1, h2, fun j hj => ⟨h3 j hj, ?_⟩⟩
 ·show dN p.sk 60 ≤ 59
  omega
 have := h6 _ (bh (show j < _ by omega))
 rw [h2] at this
 exact this
structure Qj (n k : Nat) (s : lR) (p : Mk) : Prop where
  bears : p.bears.length = n
  bearsR : ∀ j, j < n → 0 ≤ nth p.bears j ∧ nth p.bears j ≤ 236 * k
  bins : p.bins.length = k
  binOk : ∀ b ∈ p.bins, PD n b
  left : p.left = p.bins.map p5.has
  taken : p.sk.taken = s.taken + 5 * k
theorem BM {n : Nat} (hn : 1 ≤ n) (s : lR) : ∀ k, Qj n k s (fV n s k)
  | 0 => ⟨by simp [fV], fun j hj => by simp [fV, nth, hj], rfl, fun b hb => by simp [fV] at hb, rfl, by simp [fV]⟩
  | k + 1 => by
    have h := BM hn s k
    have hb := MA hn (fV n s k)
    have hu := A7 (mkBin n (fV n s k)).shares (mkBin n (fV n s k)).has (fV n s k).bears n
    refine ⟨?_, fun j hj => ?_, ?_, fun b hb' => ?_, ?_, ?_⟩
    · exact hu.1.trans h.bears
    · show 0 ≤ nth (qb _ _ _ _) j ∧ nth (qb _ _ _ _) j ≤ _
      rw [hu.2 j (by rw [h.bears]; exact hj), if_pos hj]
      have h1 := h.bearsR j hj
      have h2 := hb.rng j hj
      have h3 := hb.has
      have h4 : 0 ≤ nth (mkBin n (fV n s k)).shares j * (mkBin n (fV n s k)).has := Int.mul_nonneg h2.1 h3.1
      have h5 : nth (mkBin n (fV n s k)).shares j * (mkBin n (fV n s k)).has ≤ 4 * 59 := Int.mul_le_mul h2.2 h3.2 h3.1 (by omega)
      omega
    · show (_ ++ [_]).length = _
      rw [List.length_append, h.bins]; rfl
    · rcases List.mem_append.1 hb' with hb' | hb'
      · exact h.binOk b hb'
      · rw [List.mem_singleton.1 hb']; exact hb
    · show _ ++ [_] = List.map _ (_ ++ [_])
      rw [List.map_append, h.left]; rfl
    · show (oq _ _ _).2.taken = _
      rw [(DE hn _ 4).2.2.2, dR, h.taken]; omega
def zo (xs : List Int) (s : lR) (k : Nat) : List Int := xs.set k (nth xs k + dN s 90)
def Ca (ys : List Int) (k : Nat) : List Int := ys.set k (max 0 (nth ys k - 60))
def jH (xs : List Int) (s : lR) : Nat → List Int × lR
  | 0 => (xs, s)
  | k + 1 => (if Nf (bp (jH xs s k).2) 9 then Ca (zo (jH xs s k).1 (jH xs s k).2 k) k else zo (jH xs s k).1 (jH xs s k).2 k, bp (bp (jH xs s k).2))
theorem Ex (xs : List Int) (s : lR) (hx : ∀ j, j < xs.length → 0 ≤ nth xs j) : ∀ k, (jH xs s k).1.length = xs.length ∧ (∀ j, j < xs.length → 0 ≤ nth (jH xs s k).1 j ∧ nth (jH xs s k).1 j ≤ nth xs j + if j < k then 90 else 0) ∧ (jH xs s k).2.taken = s.taken + 2 * k
  | 0 => ⟨rfl, fun j hj => by have := hx j hj; simp [jH]; omega, by simp [jH]⟩
  | k + 1 => by
    obtain ⟨h1, h2, h3⟩ := Ex xs s hx k
    have hb := eI (jH xs s k).2 90
    have hy : ∀ j, j < xs.length → 0 ≤ nth (zo (jH xs s k).1 (jH xs s k).2 k) j ∧ nth (zo (jH xs s k).1 (jH xs s k).2 k) j ≤ nth xs j + if j < k + 1 then 90 else 0 := fun j hj => by
      have h4 := h2 j hj
      rw [zo, jJ]
      by_cases e : k = j
      · subst e
        rw [if_neg (by omega)] at h4
        rw [if_pos ⟨rfl, by omega⟩, if_pos (by omega)]; omega
      · rw [if_neg (fun h => e h.1)]
        by_cases hjk : j < k
        · rw [if_pos hjk] at h4; rw [if_pos (by omega)]; exact h4
        · rw [if_neg hjk] at h4; rw [if_neg (by omega)]; exact h4
    have hl : (zo (jH xs s k).1 (jH xs s k).2 k).length = xs.length := by rw [zo, List.length_set, h1]
    refine ⟨?_, fun j hj => ?_, ?_⟩
    · show (if _ then _ else _ : List Int).length = _
      split
      · rw [Ca, List.length_set, hl]
      · exact hl
    · show 0 ≤ nth (if _ then _ else _ : List Int) j ∧ nth (if _ then _ else _ : List Int) j ≤ _
      have h4 := hy j hj
      split
      · rw [Ca, jJ]
        split
        · rename_i e
          obtain ⟨rfl, _⟩ := e
          omega
        · exact h4
      · exact h4
    · show (bp (bp _)).taken = _
      rw [dR, dR, h3]; omega
end Go.Proofs.YtmmcenjknimhbaaGreat
namespace Go.Proofs.YtmmcenjknimhbaaGreat
open Go Go.T
structure Tk where
  left : List Int
  trn : List tO
  sk : lR
def O8 (left : List Int) (a : Int) : Int := if a ≠ -1 ∧ nth left a.toNat = 0 then -1 else a
def nQ (m : Nat) (a b : Int) : Int := if a = b then Ei (a + 1) m else b
def DA (left : List Int) (a n : Int) : Int := if a ≠ -1 then min n (nth left a.toNat) else n
def leftOf (left : List Int) (a n : Int) : List Int := if a ≠ -1 then left.set a.toNat (nth left a.toNat - n) else left
def mS (m : Nat) (p : Tk) : Int := O8 p.left (gk p.sk (-1) ((m : Int) - 1))
def Fe (m : Nat) (p : Tk) : Int := nQ m (mS m p) (gk (bp p.sk) (-1) ((m : Int) - 1))
def kL (m : Nat) (p : Tk) : Int := DA p.left (mS m p) (gk (bp (bp p.sk)) 1 20)
def O7 (m : Nat) (p : Tk) : tO := ⟨mS m p, Fe m p, kL m p⟩
def ef (m : Nat) (left : List Int) (s : lR) : Nat → Tk
  | 0 => ⟨left, [], s⟩
  | k + 1 => ⟨leftOf (ef m left s k).left (mS m (ef m left s k)) (kL m (ef m left s k)), (ef m left s k).trn ++ [O7 m (ef m left s k)], bp (bp (bp (ef m left s k).sk))⟩
def th (ts : List tO) (i : Int) : Int := (ts.map fun t => if t.src = i then t.sacks else 0).sum
structure PB (m : Nat) (t : tO) : Prop where
  src : -1 ≤ t.src ∧ t.src < m
  dst : -1 ≤ t.dst ∧ t.dst < m
  ne : t.src ≠ t.dst
  sacks : 1 ≤ t.sacks ∧ t.sacks ≤ 20
structure QU (m k : Nat) (l0 : List Int) (s : lR) (p : Tk) : Prop where
  left : p.left.length = m
  pos : ∀ j, j < m → 0 ≤ nth p.left j
  took : ∀ j, j < m → nth p.left j + th p.trn j = nth l0 j
  trn : p.trn.length = k
  trnOk : ∀ t ∈ p.trn, PB m t
  taken : p.sk.taken = s.taken + 3 * k
theorem qV {s : lR} {lo hi : Int} (h : lo ≤ hi) : lo ≤ gk s lo hi ∧ gk s lo hi ≤ hi := by
 have := eI s (hi - lo + 1)
 unfold gk; omega
theorem Mw {m : Nat} (hm : 2 ≤ m) {a : Int} (h : -1 ≤ a ∧ a < m) : 0 ≤ Ei (a + 1) m ∧ Ei (a + 1) m < m ∧ Ei (a + 1) m ≠ a := by
 unfold Ei
 have h1 := Int.emod_nonneg (a + 1) (show (m : Int) ≠ 0 by omega)
 rw [if_neg (by omega), Int.tmod_eq_emod_of_nonneg (show 0 ≤ a + 1 by omega), Int.tmod_eq_emod_of_nonneg (show 0 ≤ (a + 1) % (m : Int) + m by omega), Int.add_emod_right, Int.emod_emod]
 by_cases e : a + 1 = m
 ·rw [e, Int.emod_self]; omega
 rw [Int.emod_eq_of_lt (by omega) (by omega)]; omega
theorem K5 {m : Nat} (hm : 2 ≤ m) (p : Tk) : -1 ≤ mS m p ∧ mS m p < m ∧ (mS m p = -1 ∨ nth p.left (mS m p).toNat ≠ 0) := by
 have h := qV (s := p.sk) (show (-1 : Int) ≤ (m : Int) - 1 by omega)
 unfold mS O8
 split
 ·omega
 rename_i hn
 by_cases e : gk p.sk (-1) ((m : Int) - 1) = -1
 ·exact ⟨h.1, by omega, .inl e⟩
 exact ⟨h.1, by omega, .inr fun h0 => hn ⟨e, h0⟩⟩
theorem Lq {m : Nat} (hm : 2 ≤ m) {p : Tk} (hp : ∀ j, j < m → 0 ≤ nth p.left j) : PB m (O7 m p) := by
 have h1 := K5 hm p
 have h2 := qV (s := bp p.sk) (show (-1 : Int) ≤ (m : Int) - 1 by omega)
 have h3 := qV (s := bp (bp p.sk)) (show (1 : Int) ≤ 20 by omega)
 have h4 := Mw hm ⟨h1.1, h1.2.1⟩
 have h5 : (-1 ≤ Fe m p ∧ Fe m p < m) ∧ mS m p ≠ Fe m p := by
  unfold Fe nQ
  split
  ·exact ⟨by omega, fun e => h4.2.2 e.symm⟩
  exact ⟨by omega, by assumption⟩
 refine ⟨⟨h1.1, h1.2.1⟩, h5.1, h5.2, ?_⟩
 show 1 ≤ kL m p ∧ kL m p ≤ 20
 unfold kL DA
 split
 ·rename_i hn
  have h6 := hp (mS m p).toNat (by omega)
  have h7 := h1.2.2.resolve_left hn
  omega
 exact h3
theorem Ij (ts : List tO) (t : tO) (i : Int) : th (ts ++ [t]) i = th ts i + if t.src = i then t.sacks else 0 := by simp [th]
theorem Al {m : Nat} (hm : 2 ≤ m) {left : List Int} (hl : left.length = m) (h0 : ∀ j, j < m → 0 ≤ nth left j) (s : lR) : ∀ k, QU m k left s (ef m left s k)
  | 0 => ⟨hl, h0, fun j _ => by simp [ef, th], rfl, fun t ht => by simp [ef] at ht, by simp [ef]⟩
  | k + 1 => by
    have h := Al hm hl h0 s k
    have ht := Lq hm h.pos
    have h1 := K5 hm (ef m left s k)
    have key : ∀ j, j < m → nth (ef m left s (k + 1)).left j = nth (ef m left s k).left j - if mS m (ef m left s k) = (j : Int) then kL m (ef m left s k) else 0 := fun j hj => by
      show nth (leftOf _ _ _) j = _
      unfold leftOf
      split
      · rw [jJ]
        by_cases e : mS m (ef m left s k) = (j : Int)
        · rw [e, if_pos ⟨by omega, by have := h.left; omega⟩, if_pos rfl]; rfl
        · rw [if_neg (by omega), if_neg e]; omega
      · rw [if_neg (by omega)]; omega
    refine ⟨?_, fun j hj => ?_, fun j hj => ?_, ?_, fun t ht' => ?_, ?_⟩
    · show (leftOf _ _ _).length = _
      unfold leftOf; split
      · rw [List.length_set, h.left]
      · exact h.left
    · rw [key j hj]
      have := h.pos j hj
      split
      · rename_i e
        have h5 : kL m (ef m left s k) = min (gk (bp (bp (ef m left s k).sk)) 1 20) (nth (ef m left s k).left j) := by
          unfold kL DA
          rw [if_pos (by omega), e]; rfl
        omega
      · omega
    · rw [key j hj]
      show _ + th (_ ++ [_]) _ = _
      rw [Ij]
      have := h.took j hj
      show nth (ef m left s k).left j - (if mS m (ef m left s k) = (j : Int) then kL m (ef m left s k) else 0) + (th (ef m left s k).trn j + if mS m (ef m left s k) = (j : Int) then kL m (ef m left s k) else 0) = _
      omega
    · show (_ ++ [_]).length = _
      rw [List.length_append, h.trn]; rfl
    · rcases List.mem_append.1 ht' with ht' | ht'
      · exact h.trnOk t ht'
      · rw [List.mem_singleton.1 ht']; exact ht
    · show (bp (bp (bp _))).taken = _
      rw [dR, dR, dR, h.taken]; omega
def gJ (order : List Int) (T : Nat) (s : lR) : Nat → List jq × lR
  | 0 => ([], s)
  | k + 1 => (if dN (gJ order T s k).2 T < dN (bp (gJ order T s k).2) T then (gJ order T s k).1 ++ [⟨nth order (dN (gJ order T s k).2 T).toNat, nth order (dN (bp (gJ order T s k).2) T).toNat⟩] else (gJ order T s k).1, bp (bp (gJ order T s k).2))
def HZ (order : List Int) (T : Nat) (r : jq) : Prop := ∃ a b : Nat, a < b ∧ b < T ∧ r = ⟨nth order a, nth order b⟩
theorem yy (order : List Int) (T : Nat) (s : lR) : ∀ k, (gJ order T s k).1.length ≤ k ∧ (∀ r ∈ (gJ order T s k).1, HZ order T r) ∧ (gJ order T s k).2.taken = s.taken + 2 * k
  | 0 => ⟨by simp [gJ], fun r hr => by simp [gJ] at hr, by simp [gJ]⟩
  | k + 1 => by
    obtain ⟨h1, h2, h3⟩ := yy order T s k
    have ha := eI (gJ order T s k).2 T
    have hb := eI (bp (gJ order T s k).2) T
    refine ⟨?_, fun r hr => ?_, ?_⟩
    · show (if _ then _ else _ : List jq).length ≤ _
      split
      · simp; omega
      · omega
    · change r ∈ (if _ then _ else _ : List jq) at hr
      split at hr
      · rename_i hlt
        rcases List.mem_append.1 hr with hr | hr
        · exact h2 r hr
        · exact ⟨_, _, by omega, by omega, List.mem_singleton.1 hr⟩
      · exact h2 r hr
    · show (bp (bp _)).taken = _
      rw [dR, dR, h3]; omega
theorem A8 {l : List Int} (h : l.Nodup) {a b : Nat} (ha : a < l.length) (hb : b < l.length) (e : nth l a = nth l b) : a = b := by
 rcases Nat.lt_trichotomy a b with hlt | rfl | hlt
 ·exact absurd (e ▸ (by rw [cL ha]; exact List.mem_take_iff_getElem.2 ⟨a, by omega, rfl⟩ : nth l a ∈ l.take b)) (Au h hb)
 ·rfl
 exact absurd (e ▸ (by rw [cL hb]; exact List.mem_take_iff_getElem.2 ⟨b, by omega, rfl⟩ : nth l b ∈ l.take a)) (Au h ha)
theorem GP {order : List Int} {rules : List jq} (hn : order.Nodup) (h : ∀ r ∈ rules, HZ order order.length r) {x y : Int} (hl : lS rules x y) : ∃ a b : Nat, a < b ∧ b < order.length ∧ x = nth order a ∧ y = nth order b := by
  induction hl with
  | one hr =>
    obtain ⟨a, b, h1, h2, rfl⟩ := h _ hr
    exact ⟨a, b, h1, h2, rfl, rfl⟩
  | step hr _ ih =>
    obtain ⟨a, b, h1, h2, e⟩ := h _ hr
    obtain ⟨c, d, h3, h4, h5, h6⟩ := ih
    rw [e] at h6 ⊢
    have := A8 hn (by omega) h4 h6
    subst this
    exact ⟨c, b, by omega, h2, h5, rfl⟩
end Go.Proofs.YtmmcenjknimhbaaGreat
namespace Go.Proofs.YtmmcenjknimhbaaGreat
open Go Go.T
structure k6 where
  s : lR
  t : Nat
def k6.n (d : k6) : Nat := (gk d.s 1 4).toNat
def k6.m (d : k6) : Nat := (gk (bp d.s) 2 5).toNat
def k6.bn (d : k6) (k : Nat) : Mk := fV d.n (bp (bp d.s)) k
def k6.up (d : k6) (k : Nat) : List Int × lR := jH (d.bn d.m).bears (d.bn d.m).sk k
def k6.T (d : k6) : Nat := (dN (d.up d.n).2 ((d.t : Int) + 1)).toNat
def k6.tk (d : k6) (k : Nat) : Tk := ef d.m (d.bn d.m).left (bp (d.up d.n).2) k
def k6.order (d : k6) : List Int × lR := kO (d.tk d.T).sk d.T
def k6.R (d : k6) : Nat := (dN d.order.2 6).toNat
def k6.ru (d : k6) (k : Nat) : List jq × lR := gJ d.order.1 d.T (bp d.order.2) k
def k6.O1 (d : k6) : cG := ⟨(d.up d.n).1, (d.bn d.m).bins, (d.tk d.T).trn, (d.ru d.R).1⟩
def k6.sk (d : k6) : lR := (d.ru d.R).2
theorem k6.GN (d : k6) : 1 ≤ d.n ∧ d.n ≤ 4 ∧ (d.n : Int) = gk d.s 1 4 := by
 have := qV (s := d.s) (show (1 : Int) ≤ 4 by omega)
 unfold k6.n; omega
theorem k6.Pp (d : k6) : 2 ≤ d.m ∧ d.m ≤ 5 ∧ (d.m : Int) = gk (bp d.s) 2 5 := by
 have := qV (s := bp d.s) (show (2 : Int) ≤ 5 by omega)
 unfold k6.m; omega
theorem k6.RE (d : k6) : d.T ≤ d.t ∧ (d.T : Int) = dN (d.up d.n).2 ((d.t : Int) + 1) := by
 have := eI (d.up d.n).2 ((d.t : Int) + 1)
 unfold k6.T; omega
theorem k6.Qb (d : k6) : d.R ≤ 5 ∧ (d.R : Int) = dN d.order.2 6 := by
 have := eI d.order.2 6
 unfold k6.R; omega
theorem k6.Nd (d : k6) (k : Nat) : Qj d.n k (bp (bp d.s)) (d.bn k) := BM d.GN.1 _ k
theorem k6.QW (d : k6) (k : Nat) : (d.up k).1.length = d.n ∧ (∀ j, j < d.n → 0 ≤ nth (d.up k).1 j ∧ nth (d.up k).1 j ≤ nth (d.bn d.m).bears j + if j < k then 90 else 0) ∧ (d.up k).2.taken = (d.bn d.m).sk.taken + 2 * k := by
 have h := d.Nd d.m
 have := Ex (d.bn d.m).bears (d.bn d.m).sk (fun j hj => (h.bearsR j (by rw [← h.bears]; exact hj)).1) k
 rw [h.bears] at this
 exact this
theorem k6.yN (d : k6) : (d.bn d.m).left.length = d.m ∧ ∀ j, j < d.m → 0 ≤ nth (d.bn d.m).left j ∧ nth (d.bn d.m).left j ≤ 59 ∧ nth (d.bn d.m).left j = (nth (d.bn d.m).bins j).has := by
 have h := d.Nd d.m
 have hl : (d.bn d.m).left.length = d.m := by rw [h.left, List.length_map, h.bins]
 refine ⟨hl, fun j hj => ?_⟩
 have hb : j < (d.bn d.m).bins.length := by rw [h.bins]; exact hj
 have e : nth (d.bn d.m).left j = (nth (d.bn d.m).bins j).has := by
  rw [cL hb, cL (by omega)]
  simp only [h.left, List.getElem_map]
 have := (h.binOk _ (bh hb)).has
 rw [e]; omega
theorem k6.Q0 (d : k6) (k : Nat) : QU d.m k (d.bn d.m).left (bp (d.up d.n).2) (d.tk k) := Al d.Pp.1 d.yN.1 (fun j hj => (d.yN.2 j hj).1) _ k
theorem k6.pM (d : k6) : d.order.1.length = d.T ∧ d.order.1.Nodup ∧ (∀ x, x ∈ d.order.1 ↔ 0 ≤ x ∧ x < (d.T : Int)) ∧ d.order.2.taken = (d.tk d.T).sk.taken + d.T := yf _ _
theorem k6.Qa (d : k6) (k : Nat) : (d.ru k).1.length ≤ k ∧ (∀ r ∈ (d.ru k).1, HZ d.order.1 d.T r) ∧ (d.ru k).2.taken = (bp d.order.2).taken + 2 * k := yy _ _ _ k
theorem k6.taken (d : k6) : d.sk.taken ≤ d.s.taken + (52 + 4 * d.t) := by
 have h1 := (d.Nd d.m).taken
 have h2 := (d.QW d.n).2.2
 have h3 := (d.Q0 d.T).taken
 have h4 := d.pM.2.2.2
 have h5 := (d.Qa d.R).2.2
 have h6 := d.GN
 have h7 := d.Pp
 have h8 := d.RE
 have h9 := d.Qb
 rw [dR] at h3 h5 h1
 rw [dR] at h1
 unfold k6.sk
 omega
theorem OP {d : k6} {r : jq} (h : HZ d.order.1 d.T r) : (0 ≤ r.fst ∧ r.fst < (d.T : Int)) ∧ 0 ≤ r.nxt ∧ r.nxt < (d.T : Int) := by
 obtain ⟨a, b, h1, h2, rfl⟩ := h
 have ho := d.pM
 exact ⟨(ho.2.2.1 _).1 (bh (by omega)), (ho.2.2.1 _).1 (bh (by omega))⟩
theorem c9 {α : Type} {q : α → Bool} {l : List α} (h : ∀ x ∈ l, q x = false) : l.any q = false := by
 rw [Bool.eq_false_iff]; intro hc
 obtain ⟨x, hx, hq⟩ := List.any_eq_true.1 hc
 rw [h x hx] at hq; cases hq
theorem gu {n lo hi : Int} (h : lo ≤ n ∧ n ≤ hi) : dr n lo hi = false := by
 simp only [dr, Bool.or_eq_false_iff, decide_eq_false_iff_not]; omega
theorem k6.right (d : k6) (ht : d.t ≤ 8) : cA d.O1 = 0 := by
 have h1 := d.Nd d.m
 have h2 := d.QW d.n
 have h3 := d.Q0 d.T
 have h4 := d.pM
 have h5 := d.Qa d.R
 have h6 := d.GN
 have h7 := d.Pp
 have h8 := d.RE
 have h9 := d.Qb
 have hB : d.O1.bears.length = d.n := h2.1
 have hb : d.O1.bins.length = d.m := h1.bins
 have hT : d.O1.turnings.length = d.T := h3.trn
 have hR : d.O1.rules.length ≤ 5 := Nat.le_trans h5.1 h9.1
 rw [lp, gO, if_neg, if_neg, if_neg, if_neg, if_neg, xW, if_neg, if_neg, if_neg, if_neg, if_neg]
 ·rw [Bool.not_eq_true]
  refine c9 fun t _ => decide_eq_false fun hm => ?_
  obtain ⟨_, hl⟩ := jC.1 hm
  obtain ⟨a, b, hab, hbt, ea, eb⟩ := GP h4.2.1 (fun r hr => by rw [h4.1]; exact h5.2.1 r hr) hl
  have := A8 h4.2.1 (by omega) hbt (ea.symm.trans eb)
  omega
 ·rw [Bool.not_eq_true]
  refine c9 fun i hi => ?_
  have hi := gK.1 hi
  have hj : i.toNat < d.m := by omega
  have hbk := h1.binOk _ (bh (xs := (d.bn d.m).bins) (k := i.toNat) (by rw [h1.bins]; exact hj))
  show d.O1.nS i.toNat (nth (d.bn d.m).bins i.toNat) = false
  unfold cG.nS
  rw [hbk.sum]
  have hk := h3.took _ hj
  have hp := h3.pos _ hj
  have hl := (d.yN.2 _ hj).2.2
  have e : j5 d.O1 d.O1.turnings i.toNat = th (d.tk d.T).trn i.toNat := rfl
  have hx : ¬ th (d.tk d.T).trn i.toNat > (nth (d.bn d.m).bins i.toNat).has := by omega
  rw [e, decide_eq_false hx]; rfl
 ·rw [Bool.not_eq_true]
  exact c9 fun t hm => decide_eq_false (h3.trnOk t hm).ne
 ·rw [Bool.not_eq_true]
  refine c9 fun r hm => ?_
  have := OP (h5.2.1 r hm)
  rw [hT, gu (by omega), gu (by omega)]; rfl
 ·rw [Bool.not_eq_true]
  refine c9 fun t hm => ?_
  have h := h3.trnOk t hm
  have := h.src
  have := h.dst
  rw [hb, gu (by omega), gu (by omega)]; rfl
 ·rw [Bool.not_eq_true]
  refine c9 fun t hm => ?_
  have := (h3.trnOk t hm).sacks
  exact gu (by omega)
 ·rw [Bool.not_eq_true]
  refine c9 fun b hm => ?_
  have h := h1.binOk b hm
  have := h.has
  rw [gu (by omega), Bool.false_or]
  exact c9 (sS (P := fun n => dr n 0 4 = false) fun j hj => gu (h.rng j (by rw [← h.len]; exact hj)))
 ·rw [Bool.not_eq_true]
  refine c9 (sS (P := fun n => dr n 0 4000 = false) fun j hj => gu ?_)
  have hj : j < d.n := by rw [← hB]; exact hj
  have h := h2.2.1 j hj
  have h0 := h1.bearsR j hj
  rw [if_pos hj] at h
  show 0 ≤ nth (d.up d.n).1 j ∧ nth (d.up d.n).1 j ≤ 4000
  omega
 ·rw [Bool.not_eq_true]
  refine c9 fun b hm => ?_
  rw [(h1.binOk b hm).len, hB]; simp
 rw [Bool.not_eq_true]
 unfold cG.many
 rw [hB, hb, hT, gu (by omega), decide_eq_false (by omega), decide_eq_false (by omega), decide_eq_false (by omega)]; rfl
end Go.Proofs.YtmmcenjknimhbaaGreat
namespace Go.Proofs.YtmmcenjknimhbaaGreat
open Go Go.T
def QH (sh k : Nat) : Nat := (sh >>> (2 * k)) &&& 3
theorem Mo (sh k : Nat) : QH sh k ≤ 3 := Nat.and_le_right
def AX (sh k : Nat) : List Int := [(QH sh k : Nat), 4 - ((QH sh k : Nat) : Int)]
def nE (sh : Nat) : Nat → List p5
  | 0 => []
  | k + 1 => nE sh k ++ [⟨0, AX sh k⟩]
theorem jM (sh : Nat) : ∀ n, (nE sh n).length = n
  | 0 => rfl
  | k + 1 => by show (nE sh k ++ [_]).length = _; rw [List.length_append, jM sh k]; rfl
theorem rB (sh : Nat) : ∀ n, ∀ k, k < n → nth (nE sh n) k = ⟨0, AX sh k⟩
  | n + 1, k, hk => by
    show nth (nE sh n ++ [_]) k = _
    by_cases e : k < n
    · unfold nth
      rw [List.getD_eq_getElem?_getD, List.getElem?_append_left (by rw [jM]; exact e), ← List.getD_eq_getElem?_getD]
      exact rB sh n k e
    · have e : k = n := by omega
      subst e
      unfold nth
      rw [List.getD_eq_getElem?_getD, List.getElem?_append_right (by rw [jM]; exact Nat.le_refl _), jM]
      simp
def HH (l : List p5) (x : p4) : List p5 := l.set x.inn.toNat ⟨x.sacks, (nth l x.inn.toNat).shares⟩
def ku (sh : Nat) (b : aW) : Nat → List p5
  | 0 => nE sh b.sizes.length
  | j + 1 => HH (ku sh b j) (nth b.lots j)
def iW (sh : Nat) (b : aW) (l : List tO) : cG := ⟨[4000, 4000], ku sh b b.lots.length, l, []⟩
theorem Q2 {sh : Nat} {b : aW} : ku sh b 0 = nE sh b.sizes.length := rfl
theorem QZ {sh : Nat} {b : aW} {j : Nat} : ku sh b (j + 1) = (ku sh b j).set (nth b.lots j).inn.toNat ⟨(nth b.lots j).sacks, (nth (ku sh b j) (nth b.lots j).inn.toNat).shares⟩ := rfl
theorem uK {g : p5 → Int} : ∀ (l : List p5), (∀ x ∈ l, g x = 0) → (l.map g).sum = 0
  | [], _ => rfl
  | x :: l, h => by rw [List.map_cons, List.sum_cons, h x List.mem_cons_self, uK l fun y hy => h y (List.mem_cons_of_mem _ hy)]; rfl
def mL (l : List p5) (y : Nat) : Int := (l.map fun x => x.has * nth x.shares y).sum
theorem rH (sh : Nat) (b : aW) : ∀ j, (ku sh b j).length = b.sizes.length
  | 0 => jM _ _
  | j + 1 => by show (HH _ _).length = _; unfold HH; rw [List.length_set, rH sh b j]
structure Q9 (sh : Nat) (b : aW) (j : Nat) : Prop where
  bin : ∀ k, k < b.sizes.length → (nth (ku sh b j) k).shares = AX sh k ∧ 0 ≤ (nth (ku sh b j) k).has ∧ (nth (ku sh b j) k).has ≤ 300
  zero : ∀ k : Nat, k < b.sizes.length → (∀ i, i < j → (nth b.lots i).inn ≠ (k : Int)) → (nth (ku sh b j) k).has = 0
  there : ∀ i, i < j → (nth (ku sh b j) (nth b.lots i).inn.toNat).has = (nth b.lots i).sacks
  sum : ∀ y, mL (ku sh b j) y = ((List.range j).map fun i => (nth b.lots i).sacks * nth (AX sh (nth b.lots i).inn.toNat) y).sum
theorem NT {l : List p5} {x : p4} {k : Nat} (hk : k < l.length) : nth (HH l x) k = if x.inn.toNat = k then ⟨x.sacks, (nth l k).shares⟩ else nth l k := by
 unfold HH
 by_cases e : x.inn.toNat = k
 ·rw [if_pos e]
  subst e
  rw [cL (by rw [List.length_set]; exact hk), List.getElem_set_self]
 rw [if_neg e, cL (by rw [List.length_set]; exact hk), List.getElem_set_ne e, cL hk]
theorem vO (sh : Nat) {b : aW} (hr : b.dD) : ∀ j, j ≤ b.lots.length → Q9 sh b j
  | 0, _ => by
    refine ⟨fun k hk => ?_, fun k hk _ => ?_, fun i hi => absurd hi (by omega), fun y => ?_⟩
    · show (nth (nE sh _) k).shares = _ ∧ _
      show (nth (nE sh _) k).shares = _ ∧ 0 ≤ (nth (nE sh _) k).has ∧ (nth (nE sh _) k).has ≤ 300
      rw [rB sh _ k hk]; exact ⟨rfl, Int.le_refl 0, by show (0 : Int) ≤ 300; decide⟩
    · show (nth (nE sh _) k).has = 0
      rw [rB sh _ k hk]
    · show mL (nE sh _) y = 0
      refine uK _ fun x hx => ?_
      obtain ⟨k, hk, rfl⟩ := oT hx
      rw [jM] at hk
      rw [rB sh _ k hk]
      exact Int.zero_mul _
  | j + 1, hj => by
    have h := vO sh hr j (by omega)
    have hm := bh (xs := b.lots) (k := j) (by omega)
    have hi := hr.inn _ hm
    have hs := hr.sacks _ hm
    have hp : (nth b.lots j).inn.toNat < b.sizes.length := by omega
    have hl := rH sh b j
    have at_ : ∀ k, k < b.sizes.length → nth (ku sh b (j + 1)) k = if (nth b.lots j).inn.toNat = k then ⟨(nth b.lots j).sacks, (nth (ku sh b j) k).shares⟩ else nth (ku sh b j) k := fun k hk => NT (by rw [hl]; exact hk)
    have h0 : (nth (ku sh b j) (nth b.lots j).inn.toNat).has = 0 := h.zero _ hp fun i hij => by
      have := (hr.apart j i hij (by omega)).1
      omega
    refine ⟨fun k hk => ?_, fun k hk hn => ?_, fun i hij => ?_, fun y => ?_⟩
    · rw [at_ k hk]
      have hb := h.bin k hk
      split
      · exact ⟨hb.1, by show 0 ≤ (nth b.lots j).sacks; omega, by show (nth b.lots j).sacks ≤ 300; omega⟩
      · exact hb
    · rw [at_ k hk, if_neg (by have := hn j (by omega); omega)]
      exact h.zero k hk fun i hij => hn i (by omega)
    · have hmi := hr.inn _ (bh (xs := b.lots) (k := i) (by omega))
      rw [at_ _ (by omega)]
      by_cases e : i = j
      · subst e; rw [if_pos rfl]
      · have := (hr.apart j i (by omega) (by omega)).1
        rw [if_neg (by omega)]
        exact h.there i (by omega)
    · show mL (HH (ku sh b j) (nth b.lots j)) y = _
      unfold mL HH
      rw [List.map_set, pN (by rw [List.length_map, hl]; exact hp)]
      have e1 : nth ((ku sh b j).map fun x => x.has * nth x.shares y) (nth b.lots j).inn.toNat = 0 := by
        rw [cL (by rw [List.length_map, hl]; exact hp), List.getElem_map, ← cL (by rw [hl]; exact hp), h0, Int.zero_mul]
      rw [e1, (h.bin _ hp).1, List.range_succ, List.map_append, List.sum_append]
      have := h.sum y
      unfold mL at this
      rw [this]
      simp
theorem Nu {n p : Nat} {f g : Nat → Int} (hp : p < n) (h : ∀ i, i < n → i ≠ p → g i = f i) : ((List.range n).map g).sum = ((List.range n).map f).sum - f p + g p := by
 have e : ((List.range n).map f).set p (g p) = (List.range n).map g := qz n p f g (g p) fun j hj => by
  by_cases e : j = p
  ·rw [if_pos e, e]
  rw [if_neg e]; exact h j hj e
 rw [← e, pN (by simpa using hp), cL (by simpa using hp), List.getElem_map, List.getElem_range]
theorem AG {f : cG} (h : f.rules = []) (t : Int) : hH f t = [] := by
  rw [List.eq_nil_iff_forall_not_mem]
  intro a ha
  have hl := (jC.1 ha).2
  rw [h] at hl
  cases hl with
  | one hm => cases hm
  | step hm _ => cases hm
section
variable {b : aW} {q : Pl} {t : bu} {sh : Nat} (hr : b.dD) (h6 : b.sizes.length ≤ 6) (hv : VP b q) (ht : t ∈ ay b q)
def ke (b : aW) (q : Pl) (t : bu) : tO := ⟨nth q.1 t.cJ.toNat, t.aim, (nth b.lots t.cJ.toNat).sacks⟩
include hr h6 hv
theorem B5 {l : List tO} (hl : l = [] ∨ ∃ u, l = [u] ∧ (0 ≤ u.src ∧ u.src < b.sizes.length) ∧ (0 ≤ u.dst ∧ u.dst < b.sizes.length) ∧ u.src ≠ u.dst ∧ (1 ≤ u.sacks ∧ u.sacks ≤ 300) ∧ u.sacks ≤ (nth (ku sh (cU b q) (cU b q).lots.length) u.src.toNat).has) : gO (iW sh (cU b q) l) = 0 := by
 have hrp := ld hr hv
 have ho := vO sh hrp _ (Nat.le_refl _)
 have hll := rH sh (cU b q) (cU b q).lots.length
 have hs : (cU b q).sizes.length = b.sizes.length := rfl
 have hbin : ∀ x ∈ (iW sh (cU b q) l).bins, x.shares.length = 2 ∧ (0 ≤ x.has ∧ x.has ≤ 300) ∧ x.shares.sum = 4 ∧ ∀ n ∈ x.shares, 0 ≤ n ∧ n ≤ 4 := fun x hx => by
  obtain ⟨k, hk, rfl⟩ := oT hx
  have hk : k < (cU b q).sizes.length := by rw [← hll]; exact hk
  have h := ho.bin k hk
  have e : (nth (iW sh (cU b q) l).bins k).shares = AX sh k := h.1
  have hq := Mo sh k
  rw [e]
  refine ⟨rfl, h.2, ?_, fun n hn => ?_⟩
  ·show ((QH sh k : Nat) : Int) + (4 - ((QH sh k : Nat) : Int) + 0) = 4
   omega
  unfold AX at hn
  rcases List.mem_cons.1 hn with rfl | hn
  ·omega
  rw [List.mem_singleton.1 hn]; omega
 have hmem : ∀ u ∈ l, (0 ≤ u.src ∧ u.src < b.sizes.length) ∧ (0 ≤ u.dst ∧ u.dst < b.sizes.length) ∧ u.src ≠ u.dst ∧ (1 ≤ u.sacks ∧ u.sacks ≤ 300) := fun u hu => by
  rcases hl with rfl | ⟨v, rfl, h1, h2, h3, h4, _⟩
  ·cases hu
  rw [List.mem_singleton.1 hu]; exact ⟨h1, h2, h3, h4⟩
 have hlen : l.length ≤ 1 := by
  rcases hl with rfl | ⟨v, rfl, _⟩
  ·exact Nat.zero_le _
  exact Nat.le_refl _
 have hB : (iW sh (cU b q) l).bins.length = b.sizes.length := hll
 rw [gO, if_neg, if_neg, if_neg, if_neg, if_neg, xW, if_neg, if_neg, if_neg, if_neg, if_neg]
 ·rw [Bool.not_eq_true]
  refine c9 fun i _ => decide_eq_false ?_
  rw [AG rfl]; exact List.not_mem_nil
 ·rw [Bool.not_eq_true]
  refine c9 fun i hi => ?_
  have hi := gK.1 hi
  have hi2 : i.toNat < (iW sh (cU b q) l).bins.length := by omega
  show (iW sh (cU b q) l).nS i.toNat (nth (iW sh (cU b q) l).bins i.toNat) = false
  unfold cG.nS
  have hbk := hbin _ (bh hi2)
  rw [hbk.2.2.1]
  have hx : ¬ j5 (iW sh (cU b q) l) (iW sh (cU b q) l).turnings i.toNat > (nth (iW sh (cU b q) l).bins i.toNat).has := by
   have h0 := hbk.2.1.1
   rcases hl with rfl | ⟨v, rfl, h1, h2, h3, h4, h5⟩
   ·show ¬ (0 : Int) > _; omega
   show ¬ (List.map (fun t : tO => if t.src = (i.toNat : Int) then t.sacks else 0) [v]).sum > _
   rw [List.map_singleton, List.sum_singleton]
   split
   ·rename_i e
    have e : v.src.toNat = i.toNat := by omega
    rw [e] at h5
    exact Int.not_lt.2 h5
   omega
  rw [decide_eq_false hx]; rfl
 ·rw [Bool.not_eq_true]
  exact c9 fun u hu => decide_eq_false (hmem u hu).2.2.1
 ·rw [Bool.not_eq_true]; rfl
 ·rw [Bool.not_eq_true]
  refine c9 fun u hu => ?_
  have := hmem u hu
  rw [hB, gu (by omega), gu (by omega)]; rfl
 ·rw [Bool.not_eq_true]
  refine c9 fun u hu => ?_
  have := (hmem u hu).2.2.2
  exact gu (by omega)
 ·rw [Bool.not_eq_true]
  refine c9 fun x hx => ?_
  have := hbin x hx
  rw [gu (by omega), Bool.false_or]
  exact c9 fun n hn => gu (this.2.2.2 n hn)
 ·rw [Bool.not_eq_true]; show (([4000, 4000] : List Int).any fun n => dr n 0 4000) = false; decide
 ·rw [Bool.not_eq_true]
  refine c9 fun x hx => ?_
  rw [(hbin x hx).1]; rfl
 rw [Bool.not_eq_true]
 unfold cG.many
 have h1 : ((iW sh (cU b q) l).turnings.length : Int) = l.length := rfl
 rw [hB, h1, decide_eq_false (show ¬ ((b.sizes.length : Int) > 6) by omega), decide_eq_false (show ¬ ((l.length : Int) > 8) by omega)]
 show (((dr ((([4000, 4000] : List Int).length : Nat) : Int) 1 4 || false) || false) || decide (((([] : List jq).length : Nat) : Int) > 16)) = false
 decide
include ht
omit h6 in
theorem Pg : (0 ≤ (ke b q t).src ∧ (ke b q t).src < b.sizes.length) ∧ (0 ≤ (ke b q t).dst ∧ (ke b q t).dst < b.sizes.length) ∧ (ke b q t).src ≠ (ke b q t).dst ∧ (1 ≤ (ke b q t).sacks ∧ (ke b q t).sacks ≤ 300) ∧ (ke b q t).sacks ≤ (nth (ku sh (cU b q) (cU b q).lots.length) (ke b q t).src.toNat).has := by
 obtain ⟨h1, h2, h3, h4, h5, _⟩ := eG.1 ht
 have hl : t.cJ.toNat < b.lots.length := by omega
 have hn := hv.named _ hl
 have hs := hr.sacks _ (bh (xs := b.lots) (k := t.cJ.toNat) hl)
 have hth := (vO sh (ld hr hv) _ (Nat.le_refl _)).there t.cJ.toNat (by rw [gV]; exact hl)
 rw [fT hl] at hth
 refine ⟨hn, ⟨h3, h4⟩, fun e => ?_, hs, Int.le_of_eq hth.symm⟩
 have : gZ b q t.aim = true := (jx hr.lots).2 ⟨t.cJ.toNat, hl, e⟩
 rw [h5] at this; cases this
theorem HE : ∃ a0 a1 c0 c1, cA (iW sh (cU b q) [ke b q t]) = 0 ∧ cA (iW sh (cU b (bf q t)) []) = 0
    ∧ wN (iW sh (cU b q) [ke b q t]) [0] = [[a0, a1], [c0, c1]] ∧ gN (iW sh (cU b q) [ke b q t]) [0] = 0
    ∧ wN (iW sh (cU b (bf q t)) []) [] = [[c0, c1]] ∧ gN (iW sh (cU b (bf q t)) []) [] = 0
    ∧ pz (iW sh (cU b q) [ke b q t]) 0 = (max a0 c0, 0) ∧ pz (iW sh (cU b q) [ke b q t]) 1 = (max a1 c1, 0) := by
  have hv2 := y6 hr.lots hv ht
  have hk := Pg (sh := sh) hr hv ht
  have hM1 : gO (iW sh (cU b q) [ke b q t]) = 0 := B5 hr h6 hv (.inr ⟨_, rfl, hk⟩)
  have hM2 : gO (iW sh (cU b (bf q t)) []) = 0 := B5 hr h6 hv2 (.inl rfl)
  have hP1 : cA (iW sh (cU b q) [ke b q t]) = 0 := by rw [lp]; exact hM1
  have hP2 : cA (iW sh (cU b (bf q t)) []) = 0 := by rw [lp]; exact hM2
  generalize hx : iW sh (cU b q) [ke b q t] = x at *
  generalize hy : iW sh (cU b (bf q t)) [] = y at *
  have xt : x.turnings = [ke b q t] := by rw [← hx]; rfl
  have yt : y.turnings = [] := by rw [← hy]; rfl
  have xr : x.rules = [] := by rw [← hx]; rfl
  have xb : x.bears.length = 2 := by rw [← hx]; rfl
  have yb : y.bears.length = 2 := by rw [← hy]; rfl
  have o1 : jc x [0] = 0 := by
    unfold jc
    rw [xt]
    refine (if_neg ?_).trans ((if_neg ?_).trans ((if_neg ?_).trans (if_neg ?_)))
    · exact fun h => h rfl
    · show ¬ ([(0 : Int)].any fun x => decide (x < 0 ∨ x ≥ ((1 : Nat) : Int))) = true
      decide
    · decide
    · rw [Bool.not_eq_true]
      exact c9 fun i _ => by rw [AG xr]; rfl
  have o2 : jc y [] = 0 := by
    unfold jc
    rw [yt]
    refine (if_neg ?_).trans ((if_neg ?_).trans ((if_neg ?_).trans (if_neg ?_)))
    · exact fun h => h rfl
    · decide
    · decide
    · rw [Bool.not_eq_true]
      exact c9 fun i _ => by rw [AG (by rw [← hy]; rfl)]; rfl
  have e1 : gN x [0] = 0 := by unfold gN; rw [if_neg (by rw [hM1]; exact fun h => h rfl)]; exact o1
  have e2 : gN y [] = 0 := by unfold gN; rw [if_neg (by rw [hM2]; exact fun h => h rfl)]; exact o2
  have r1 : wN x [0] = fS x [0] := if_neg (by rw [e1]; exact fun h => h rfl)
  have r2 : wN y [] = fS y [] := if_neg (by rw [e2]; exact fun h => h rfl)
  have n1 := (cK hP1).named
  have n2 := (cK hP2).named
  have in1 : ∀ z ∈ [(0 : Int)], 0 ≤ z ∧ z < (x.turnings.length : Int) := fun z hz => by rw [List.mem_singleton.1 hz, xt]; show (0 : Int) ≤ 0 ∧ (0 : Int) < ((1 : Nat) : Int); decide
  have L1 : ∀ k, k < 2 → k ≤ 1 → ∀ d, d < 2 → nth (nth (fS x [0]) k) d = dc x [0] d k := fun k _ hk d hd => wj n1 in1 (by rw [xb]; exact hd) hk
  have L2 : ∀ d, d < 2 → nth (nth (fS y []) 0) d = dc y [] d 0 := fun d hd => wj n2 (fun z hz => by cases hz) (by rw [yb]; exact hd) (Nat.le_refl _)
  have two : ∀ l : List Int, l.length = 2 → l = [nth l 0, nth l 1] := fun l hl => by
    match l, hl with
    | [_, _], _ => rfl
  have R1 : fS x [0] = [[dc x [0] 0 0, dc x [0] 1 0], [dc x [0] 0 1, dc x [0] 1 1]] := by
    have h0 := two (nth (fS x [0]) 0) ((x6 (f := x) (order := [0]) (k := 0) (by decide)).trans xb)
    have h1 := two (nth (fS x [0]) 1) ((x6 (f := x) (order := [0]) (k := 1) (by decide)).trans xb)
    rw [L1 0 (by omega) (by omega) 0 (by omega), L1 0 (by omega) (by omega) 1 (by omega)] at h0
    rw [L1 1 (by omega) (by omega) 0 (by omega), L1 1 (by omega) (by omega) 1 (by omega)] at h1
    rw [← h0, ← h1]; rfl
  have R2 : fS y [] = [[dc y [] 0 0, dc y [] 1 0]] := by
    have h0 := two (nth (fS y []) 0) ((x6 (f := y) (order := []) (k := 0) (by decide)).trans yb)
    rw [L2 0 (by omega), L2 1 (by omega)] at h0
    rw [← h0]; rfl
  have S : ∀ d, dc y [] d 0 = dc x [0] d 1 := fun d => by
    have ha : dc x [0] d 1 = dc x [0] d 0 + oM x 0 d := yF x (l := [0]) (k := 0) (by decide) d
    rw [ha, q6, q6]
    have f1 : fR x d x.bins.length = mL x.bins d := by unfold fR mL; rw [List.take_length]
    have f2 : fR y d y.bins.length = mL y.bins d := by unfold fR mL; rw [List.take_length]
    have hA := vO sh (ld hr hv) _ (Nat.le_refl _)
    have hB := vO sh (ld hr hv2) _ (Nat.le_refl _)
    have g1 : mL x.bins d = ((List.range (cU b q).lots.length).map fun i => (nth (cU b q).lots i).sacks * nth (AX sh (nth (cU b q).lots i).inn.toNat) d).sum := by rw [← hx]; exact hA.sum d
    have g2 : mL y.bins d = ((List.range (cU b (bf q t)).lots.length).map fun i => (nth (cU b (bf q t)).lots i).sacks * nth (AX sh (nth (cU b (bf q t)).lots i).inn.toNat) d).sum := by rw [← hy]; exact hB.sum d
    obtain ⟨t1, t2, t3, t4, _, _⟩ := eG.1 ht
    have hl : t.cJ.toNat < b.lots.length := by omega
    have sP : ∀ bin : Int, 0 ≤ bin ∧ bin < b.sizes.length → gU x bin d = nth (AX sh bin.toNat) d := fun bin hb => by
      unfold gU
      rw [if_neg (by omega)]
      have : (nth x.bins bin.toNat).shares = AX sh bin.toNat := by rw [← hx]; exact (hA.bin bin.toNat (by show _ < b.sizes.length; omega)).1
      rw [this]
    have hadd : oM x 0 d = (nth b.lots t.cJ.toNat).sacks * (nth (AX sh t.aim.toNat) d - nth (AX sh (nth q.1 t.cJ.toNat).toNat) d) := by
      unfold oM
      rw [xt]
      show (ke b q t).sacks * (gU x (ke b q t).dst d - gU x (ke b q t).src d) = _
      rw [sP _ hk.1, sP _ hk.2.1]; rfl
    rw [f1, f2, g1, g2, hadd, gV, gV]
    rw [Nu (n := b.lots.length) (p := t.cJ.toNat) (f := fun i => (nth (cU b q).lots i).sacks * nth (AX sh (nth (cU b q).lots i).inn.toNat) d) (g := fun i => (nth (cU b (bf q t)).lots i).sacks * nth (AX sh (nth (cU b (bf q t)).lots i).inn.toNat) d) hl fun i hi hne => by
      show (nth (cU b (bf q t)).lots i).sacks * nth (AX sh (nth (cU b (bf q t)).lots i).inn.toNat) d = (nth (cU b q).lots i).sacks * nth (AX sh (nth (cU b q).lots i).inn.toNat) d
      rw [fT hi, fT hi, jK (by have := hr.lots; omega), if_neg (by omega)]]
    show _ - (nth (cU b q).lots t.cJ.toNat).sacks * nth (AX sh (nth (cU b q).lots t.cJ.toNat).inn.toNat) d + (nth (cU b (bf q t)).lots t.cJ.toNat).sacks * nth (AX sh (nth (cU b (bf q t)).lots t.cJ.toNat).inn.toNat) d = _
    rw [fT hl, fT hl, jK (by have := hr.lots; omega), if_pos rfl, Int.mul_sub]
    dsimp only
    omega
  have top : ∀ d, d < 2 → je x d = max (dc x [0] d 0) (dc x [0] d 1) := fun d hd => by
    have hd' : d < x.bears.length := by rw [xb]; exact hd
    have hle := NH hP1 hd' o1
    have hmx : dc x [0] d 0 ≤ je x d ∧ dc x [0] d 1 ≤ je x d := by
      have e : vk x [0] d = [dc x [0] d 0, dc x [0] d 1] := rfl
      rw [e] at hle
      constructor
      · exact (Cv (l := [dc x [0] d 0, dc x [0] d 1]) (by show 0 < 2; decide)).1 hle 0 (by show 0 < 2; decide)
      · exact (Cv (l := [dc x [0] d 0, dc x [0] d 1]) (by show 0 < 2; decide)).1 hle 1 (by show 1 < 2; decide)
    have hh := Fm hP1 hd'
    have hs := (Bz hP1 hd').2.1
    rw [xt] at hs
    have hs : xT x d < 2 := hs
    have hz : dc x [] d 0 = dc x [0] d 0 := by rw [q6, q6]
    rcases (show xT x d = 0 ∨ xT x d = 1 by omega) with e | e
    · rw [e, show cB 0 = [] by decide] at hh
      have hh : dc x [] d 0 = je x d := hh
      rw [← hh, hz]; omega
    · rw [e, show cB 1 = [0] by decide] at hh
      have hh : dc x [0] d 1 = je x d := hh
      rw [← hh]; omega
  refine ⟨dc x [0] 0 0, dc x [0] 1 0, dc x [0] 0 1, dc x [0] 1 1, hP1, hP2, r1.trans R1, e1, ?_, e2, ?_, ?_⟩
  · rw [r2, R2, S 0, S 1]
  · have := HL hP1 (b := 0) (by rw [xb]; decide)
    exact this.trans (by rw [top 0 (by decide)])
  · have := HL hP1 (b := 1) (by rw [xb]; decide)
    exact this.trans (by rw [top 1 (by decide)])
end
theorem Ld {b : aW} (hr : b.dD) {plan : List bu} (hl : plan.length ≤ 6000) (h : (jm b plan).2 = true) {k : Nat} (hk : k < plan.length) : ∃ q, VP b q ∧ nth plan k ∈ ay b q ∧ (iR b (plan.take k)).1 = cU b q ∧ (iR b (plan.take k)).2.2 = 0 ∧ (iR b (plan.take (k + 1))).1 = cU b (bf q (nth plan k)) ∧ (iR b (plan.take (k + 1))).2.2 = 0 := by
 have h6 := hr.lots
 obtain ⟨z, hz⟩ := (ND h6).1 h
 have hsplit : plan.take (k + 1) ++ plan.drop (k + 1) = plan := List.take_append_drop _ _
 rw [← hsplit, mW] at hz
 obtain ⟨r, hr1, _⟩ := Option.bind_eq_some_iff.1 hz
 rw [cE hk] at hr1
 obtain ⟨q, hq, ht, rfl⟩ := oU hr1
 have hv := Ou h6 _ (NB hr) hq
 have dn : ∀ (l : List bu) (p : Pl), l.length ≤ 6000 → mw b (bE b) l = some p → (iR b l).1 = cU b p ∧ (iR b l).2.2 = 0 := fun l p hl hp => by
  have := Fa h6 l [] hp
  rw [JL h6] at this
  have e := mJ (FL hr) (show ¬ (l.length : Int) > 6000 by omega) this
  rw [e]; exact ⟨rfl, rfl⟩
 have d1 := dn _ q (by rw [List.length_take]; omega) hq
 have d2 := dn (plan.take (k + 1)) (bf q (nth plan k)) (by rw [List.length_take]; omega) (by rw [cE hk]; exact hr1)
 exact ⟨q, hv, ht, d1.1, d1.2, d2.1, d2.2⟩
end Go.Proofs.YtmmcenjknimhbaaGreat
namespace Go.Proofs.YtmmcenjknimhbaaGreat
open Go Go.T
set_option maxHeartbeats 2000000
attribute [local irreducible] fL dg lG nG fZ gA fy fm ff nB gB m6 cw fA m4 ew nM nth eU cm aV cy bodyPost Exit.then Exit.inBlock Code.wp Code.wpIn fI ry rq rY iY sB rZ iV sA e9 gr p8 cT cO bodyPostM dW
set_option maxRecDepth 100000 in
theorem xU (l : List Int) (t : Ty) (h1 : t.one = true) (q : Int → Bool) (hd : t.deps = []) (hc : t.cdeps = []) (hf : ∀ x ∈ l, rS Tryz.prog t [Ty.int .i64 x] (Ty.bool (q x))) : cy Tryz.prog 142 [Ty.sl eB l, t] (Ty.int .i64 (fidx q l)) := by
 refine aX Tryz.func142 rfl (by decide) Tryz.ntmps142 (by exact Nat.le_of_ble_eq_true rfl) fun w0 M0 => ?_
 refine jv (s := 0) rfl rfl j9 fun hl => ?_
 refine aF (aA (b8 rfl (aD (aC (aF (aF (aA (eV rfl (bq rfl rfl rfl (bP rfl (aD (aC (aY ?_)))))))))))))
 refine cI (fun (k : {k : Nat // ∀ x ∈ l.take k, q x = false}) => live [(0, Ty.sl eB l), (1, t), (7, Ty.int .i64 l.length), (8, Ty.int .i64 (k.1 : Nat))] []) (fun k => l.length - k.1) (⟨0, by simp⟩) ?_ fun k => ?_
 ·(refine cr.mk' ?_ ?_ <;> (repeat' (first | exact aH | exact aI | refine aB ?_ (Ty.aS _) | refine aB ?_ (Ty.aG _))))
 refine aF (aA (av rfl rfl rfl (aD (aC (aF ?_)))))
 refine aj rfl (fun hc1 => ?_) (fun hc1 => ?_)
 ·refine ak (aC (aF (aY (aF (aA (bP rfl (b8 rfl (aD (aC (aF (aA ?_)))))))))))
  refine ej (ty := t) rfl ?_
  refine eV rfl (bP rfl ?_)
  refine bC rfl rfl rfl rfl rfl rfl (by omega) ?_
  refine aL rfl rfl rfl rfl ?_
  refine gH rfl (hf _ (bh (by omega))) rfl ?_
  refine aD (aC ?_)
  refine c8 rfl (fun hc2 => ?_) (fun hc2 => ?_)
  ·refine aF (aA (bP rfl (b8 rfl (aD (aC (au (af (aP (aP (af (aP (bT rfl rfl ?_))))))))))))
   all_goals skip
   exact bD rfl rfl (congrArg (Ty.int .i64) (iE (by omega) k.2 (by rw [← cL]; exact hc2)).symm)
  refine ak (bJ (aC (aA ?_)))
  refine cD rfl rfl (by omega) (by omega) ?_
  refine bP rfl (aD ?_)
  refine bS (⟨k.1 + 1, by rw [cE (by omega)]; intro x hx; rcases List.mem_append.1 hx with h | h; exact k.2 x h; rw [List.mem_singleton.1 h]; exact hc2⟩) ?_ (by show l.length - (k.1 + 1) < l.length - k.1; omega)
  (refine cr.mk' ?_ ?_ <;> (repeat' (first | exact aH | exact aI | refine aB ?_ (Ty.aS _) | refine aB ?_ (Ty.aG _))))
  all_goals skip
 refine b9 (aN (aN (aZ rfl (aC (aF (aA (b8 rfl (aD (aC (au (bT rfl rfl ?_)))))))))))
 all_goals skip
 exact bD rfl rfl (congrArg (Ty.int .i64) (jN (by have := k.2; rwa [List.take_of_length_le (by omega)] at this)).symm)
set_option maxRecDepth 100000 in
theorem tM (l : List Int) (t : Ty) (h1 : t.one = true) (q : Int → Bool) (hd : t.deps = []) (hc : t.cdeps = []) (hf : ∀ x ∈ l, rS Tryz.prog t [Ty.int .i64 x] (Ty.bool (q x))) : cy Tryz.prog 90 [Ty.sl eB l, t] (Ty.bool (l.any q)) := by
 refine aX Tryz.func90 rfl (by decide) Tryz.ntmps90 (by exact Nat.le_of_ble_eq_true rfl) fun w0 M0 => ?_
 refine aF (aA (dJ rfl (aD (aC (aF (aA (eV rfl ?_)))))))
 refine ej (ty := t) rfl ?_
 refine aq (xU l t h1 q hd hc hf) rfl (by exact bG rfl (bG hd rfl)) (by exact bA rfl (bA hc rfl)) rfl rfl ?_
 refine av rfl rfl rfl (dJ rfl (aD (aC (au (bT rfl rfl ?_)))))
 all_goals skip
 exact bD rfl rfl (congrArg Ty.bool (nO q l))
set_option maxRecDepth 100000 in
theorem Cn (x : Int) (t : Ty) (h1 : t.one = true) (b : Bool) (hd : t.deps = []) (hc : t.cdeps = []) (hf : rS Tryz.prog t [Ty.int .i64 x] (Ty.bool b)) : cy Tryz.prog 166 [Ty.int .i64 x, Ty.pp [t]] (Ty.bool (!b)) := by
 refine aX Tryz.func166 rfl (by decide) Tryz.ntmps166 (by exact Nat.le_of_ble_eq_true rfl) fun w0 M0 => ?_
 refine aF (aA (dJ rfl (aD (aC (aF (aA (aL rfl rfl rfl rfl (bP rfl (gH rfl hf rfl (dK rfl (dJ rfl (aD (aC (au (bT rfl rfl ?_)))))))))))))))
 all_goals exact bQ rfl rfl
set_option maxRecDepth 100000 in
theorem xI (l : List Int) (t : Ty) (h1 : t.one = true) (q : Int → Bool) (hd : t.deps = []) (hc : t.cdeps = []) (hf : ∀ x ∈ l, rS Tryz.prog t [Ty.int .i64 x] (Ty.bool (q x))) : cy Tryz.prog 123 [Ty.sl eB l, t] (Ty.bool (l.all q)) := by
 refine aX Tryz.func123 rfl (by decide) Tryz.ntmps123 (by exact Nat.le_of_ble_eq_true rfl) fun w0 M0 => ?_
 refine aF (aA ?_)
 refine dy (ty := t) rfl h1 ?_
 refine dJ rfl (aD (aC (aF (aA (eV rfl (cx rfl ?_))))))
 refine aq (tM l (Ty.jh _ [Ty.pp [t]]) rfl (fun x => !q x) (by exact bG (bG hd rfl) rfl) (by exact bA (bA hc rfl) rfl) fun x hx => dM (Cn x t h1 (q x) hd hc (hf x hx)) rfl rfl (by exact bG (bG hd rfl) rfl) (by exact bA (bA hc rfl) rfl) rfl rfl) rfl (by exact bG rfl (bG (bG (bG hd rfl) rfl) rfl)) (by exact bA rfl (bA (bA (bA hc rfl) rfl) rfl)) rfl rfl ?_
 refine dK rfl (dJ rfl (aD (aC (au (bT rfl rfl ?_)))))
 all_goals skip
 exact bD rfl rfl (congrArg Ty.bool (rC q l))
set_option maxRecDepth 100000 in
theorem pq (l : List p4) (t : Ty) (h1 : t.one = true) (q : p4 → Bool) (hd : t.deps = []) (hc : t.cdeps = []) (hf : ∀ x ∈ l, rS Tryz.prog t [Ty.agg (gC.tys x)] (Ty.bool (q x))) : cy Tryz.prog 53 [Ty.sl gC l, t] (Ty.int .i64 (fidx q l)) := by
 refine aX Tryz.func53 rfl (by decide) Tryz.ntmps53 (by exact Nat.le_of_ble_eq_true rfl) fun w0 M0 => ?_
 refine jv (s := 0) rfl rfl j9 fun hl => ?_
 refine aF (aA (b8 rfl (aD (aC (aF (aF (aA (eV rfl (bq rfl rfl rfl (bP rfl (aD (aC (aY ?_)))))))))))))
 refine cI (fun (k : {k : Nat // ∀ x ∈ l.take k, q x = false}) => live [(0, Ty.sl gC l), (1, t), (7, Ty.int .i64 l.length), (8, Ty.int .i64 (k.1 : Nat))] []) (fun k => l.length - k.1) (⟨0, by simp⟩) ?_ fun k => ?_
 ·(refine cr.mk' ?_ ?_ <;> (repeat' (first | exact aH | exact aI | refine aB ?_ (Ty.aS _) | refine aB ?_ (Ty.aG _))))
 refine aF (aA (av rfl rfl rfl (aD (aC (aF ?_)))))
 refine aj rfl (fun hc1 => ?_) (fun hc1 => ?_)
 ·refine ak (aC (aF (aY (aF (aA (bP rfl (b8 rfl (aD (aC (aF (aA ?_)))))))))))
  refine ej (ty := t) rfl ?_
  refine eV rfl (bP rfl ?_)
  refine bC rfl rfl rfl rfl rfl rfl (by omega) ?_
  refine aa rfl rfl rfl (by exact Nat.le_of_ble_eq_true rfl) ?_
  refine gH rfl (hf _ (bh (by omega))) rfl ?_
  refine aD (aC ?_)
  refine c8 rfl (fun hc2 => ?_) (fun hc2 => ?_)
  ·refine aF (aA (bP rfl (b8 rfl (aD (aC (au (af (aP (aP (af (aP (bT rfl rfl ?_))))))))))))
   all_goals skip
   exact bD rfl rfl (congrArg (Ty.int .i64) (iE (by omega) k.2 (by rw [← cL]; exact hc2)).symm)
  refine ak (bJ (aC (aA ?_)))
  refine cD rfl rfl (by omega) (by omega) ?_
  refine bP rfl (aD ?_)
  refine bS (⟨k.1 + 1, by rw [cE (by omega)]; intro x hx; rcases List.mem_append.1 hx with h | h; exact k.2 x h; rw [List.mem_singleton.1 h]; exact hc2⟩) ?_ (by show l.length - (k.1 + 1) < l.length - k.1; omega)
  (refine cr.mk' ?_ ?_ <;> (repeat' (first | exact aH | exact aI | refine aB ?_ (Ty.aS _) | refine aB ?_ (Ty.aG _))))
  all_goals skip
 refine b9 (aN (aN (aZ rfl (aC (aF (aA (b8 rfl (aD (aC (au (bT rfl rfl ?_)))))))))))
 all_goals skip
 exact bD rfl rfl (congrArg (Ty.int .i64) (jN (by have := k.2; rwa [List.take_of_length_le (by omega)] at this)).symm)
set_option maxRecDepth 100000 in
theorem iz (l : List p4) (t : Ty) (h1 : t.one = true) (q : p4 → Bool) (hd : t.deps = []) (hc : t.cdeps = []) (hf : ∀ x ∈ l, rS Tryz.prog t [Ty.agg (gC.tys x)] (Ty.bool (q x))) : cy Tryz.prog 18 [Ty.sl gC l, t] (Ty.bool (l.any q)) := by
 refine aX Tryz.func18 rfl (by decide) Tryz.ntmps18 (by exact Nat.le_of_ble_eq_true rfl) fun w0 M0 => ?_
 refine aF (aA (dJ rfl (aD (aC (aF (aA (eV rfl ?_)))))))
 refine ej (ty := t) rfl ?_
 refine aq (pq l t h1 q hd hc hf) rfl (by exact bG rfl (bG hd rfl)) (by exact bA rfl (bA hc rfl)) rfl rfl ?_
 refine av rfl rfl rfl (dJ rfl (aD (aC (au (bT rfl rfl ?_)))))
 all_goals skip
 exact bD rfl rfl (congrArg Ty.bool (nO q l))
set_option maxRecDepth 100000 in
theorem DM (x : p4) (t : Ty) (h1 : t.one = true) (b : Bool) (hd : t.deps = []) (hc : t.cdeps = []) (hf : rS Tryz.prog t [Ty.agg (gC.tys x)] (Ty.bool b)) : cy Tryz.prog 183 [Ty.agg (gC.tys x), Ty.pp [t]] (Ty.bool (!b)) := by
 refine aX Tryz.func183 rfl (by decide) Tryz.ntmps183 (by exact Nat.le_of_ble_eq_true rfl) fun w0 M0 => ?_
 refine aF (aA (az rfl (dJ rfl (aD (aC (aF (aA (aL rfl rfl rfl rfl ?_))))))))
 refine aa rfl rfl rfl (by exact Nat.le_of_ble_eq_true rfl) ?_
 refine gH rfl hf rfl (dK rfl (dJ rfl (aD (aC (au (bT rfl rfl ?_))))))
 all_goals exact bQ rfl rfl
set_option maxRecDepth 100000 in
theorem nD (l : List p4) (t : Ty) (h1 : t.one = true) (q : p4 → Bool) (hd : t.deps = []) (hc : t.cdeps = []) (hf : ∀ x ∈ l, rS Tryz.prog t [Ty.agg (gC.tys x)] (Ty.bool (q x))) : cy Tryz.prog 152 [Ty.sl gC l, t] (Ty.bool (l.all q)) := by
 refine aX Tryz.func152 rfl (by decide) Tryz.ntmps152 (by exact Nat.le_of_ble_eq_true rfl) fun w0 M0 => ?_
 refine aF (aA ?_)
 refine dy (ty := t) rfl h1 ?_
 refine dJ rfl (aD (aC (aF (aA (eV rfl (cx rfl ?_))))))
 refine aq (iz l (Ty.jh _ [Ty.pp [t]]) rfl (fun x => !q x) (by exact bG (bG hd rfl) rfl) (by exact bA (bA hc rfl) rfl) fun x hx => dM (DM x t h1 (q x) hd hc (hf x hx)) rfl rfl (by exact bG (bG hd rfl) rfl) (by exact bA (bA hc rfl) rfl) rfl rfl) rfl (by exact bG rfl (bG (bG (bG hd rfl) rfl) rfl)) (by exact bA rfl (bA (bA (bA hc rfl) rfl) rfl)) rfl rfl ?_
 refine dK rfl (dJ rfl (aD (aC (au (bT rfl rfl ?_)))))
 all_goals skip
 exact bD rfl rfl (congrArg Ty.bool (rC q l))
set_option maxRecDepth 100000 in
theorem xN (l : List bu) (t : Ty) (h1 : t.one = true) (q : bu → Bool) (hd : t.deps = []) (hc : t.cdeps = []) (hf : ∀ x ∈ l, rS Tryz.prog t [Ty.agg (cv.tys x)] (Ty.bool (q x))) : cy Tryz.prog 226 [Ty.sl cv l, t] (Ty.int .i64 (fidx q l)) := by
 refine aX Tryz.func226 rfl (by decide) Tryz.ntmps226 (by exact Nat.le_of_ble_eq_true rfl) fun w0 M0 => ?_
 refine jv (s := 0) rfl rfl j9 fun hl => ?_
 refine aF (aA (b8 rfl (aD (aC (aF (aF (aA (eV rfl (bq rfl rfl rfl (bP rfl (aD (aC (aY ?_)))))))))))))
 refine cI (fun (k : {k : Nat // ∀ x ∈ l.take k, q x = false}) => live [(0, Ty.sl cv l), (1, t), (7, Ty.int .i64 l.length), (8, Ty.int .i64 (k.1 : Nat))] []) (fun k => l.length - k.1) (⟨0, by simp⟩) ?_ fun k => ?_
 ·(refine cr.mk' ?_ ?_ <;> (repeat' (first | exact aH | exact aI | refine aB ?_ (Ty.aS _) | refine aB ?_ (Ty.aG _))))
 refine aF (aA (av rfl rfl rfl (aD (aC (aF ?_)))))
 refine aj rfl (fun hc1 => ?_) (fun hc1 => ?_)
 ·refine ak (aC (aF (aY (aF (aA (bP rfl (b8 rfl (aD (aC (aF (aA ?_)))))))))))
  refine ej (ty := t) rfl ?_
  refine eV rfl (bP rfl ?_)
  refine bC rfl rfl rfl rfl rfl rfl (by omega) ?_
  refine aa rfl rfl rfl (by exact Nat.le_of_ble_eq_true rfl) ?_
  refine gH rfl (hf _ (bh (by omega))) rfl ?_
  refine aD (aC ?_)
  refine c8 rfl (fun hc2 => ?_) (fun hc2 => ?_)
  ·refine aF (aA (bP rfl (b8 rfl (aD (aC (au (af (aP (aP (af (aP (bT rfl rfl ?_))))))))))))
   all_goals skip
   exact bD rfl rfl (congrArg (Ty.int .i64) (iE (by omega) k.2 (by rw [← cL]; exact hc2)).symm)
  refine ak (bJ (aC (aA ?_)))
  refine cD rfl rfl (by omega) (by omega) ?_
  refine bP rfl (aD ?_)
  refine bS (⟨k.1 + 1, by rw [cE (by omega)]; intro x hx; rcases List.mem_append.1 hx with h | h; exact k.2 x h; rw [List.mem_singleton.1 h]; exact hc2⟩) ?_ (by show l.length - (k.1 + 1) < l.length - k.1; omega)
  (refine cr.mk' ?_ ?_ <;> (repeat' (first | exact aH | exact aI | refine aB ?_ (Ty.aS _) | refine aB ?_ (Ty.aG _))))
  all_goals skip
 refine b9 (aN (aN (aZ rfl (aC (aF (aA (b8 rfl (aD (aC (au (bT rfl rfl ?_)))))))))))
 all_goals skip
 exact bD rfl rfl (congrArg (Ty.int .i64) (jN (by have := k.2; rwa [List.take_of_length_le (by omega)] at this)).symm)
set_option maxRecDepth 100000 in
theorem sn (l : List bu) (t : Ty) (h1 : t.one = true) (q : bu → Bool) (hd : t.deps = []) (hc : t.cdeps = []) (hf : ∀ x ∈ l, rS Tryz.prog t [Ty.agg (cv.tys x)] (Ty.bool (q x))) : cy Tryz.prog 207 [Ty.sl cv l, t] (Ty.bool (l.any q)) := by
 refine aX Tryz.func207 rfl (by decide) Tryz.ntmps207 (by exact Nat.le_of_ble_eq_true rfl) fun w0 M0 => ?_
 refine aF (aA (dJ rfl (aD (aC (aF (aA (eV rfl ?_)))))))
 refine ej (ty := t) rfl ?_
 refine aq (xN l t h1 q hd hc hf) rfl (by exact bG rfl (bG hd rfl)) (by exact bA rfl (bA hc rfl)) rfl rfl ?_
 refine av rfl rfl rfl (dJ rfl (aD (aC (au (bT rfl rfl ?_)))))
 all_goals skip
 exact bD rfl rfl (congrArg Ty.bool (nO q l))
end Go.Proofs.YtmmcenjknimhbaaGreat
namespace Go.Proofs.YtmmcenjknimhbaaGreat
open Go Go.T
set_option maxHeartbeats 2000000
attribute [local irreducible] fL dg lG nG fZ gA fy fm ff nB gB m6 cw fA m4 ew nM nth eU cm aV cy bodyPost Exit.then Exit.inBlock Code.wp Code.wpIn fI ry rq rY iY sB rZ iV sA e9 gr p8 cT cO bodyPostM dW
theorem O2 : Tryz.prog.underlying 23 = some (.slice 3) := by kernel_rfl
theorem Q6 : Tryz.prog.underlying 60 = some (.slice 67) := by kernel_rfl
theorem Qs : Tryz.prog.underlying 64 = some (.slice 70) := by kernel_rfl
set_option maxRecDepth 100000 in
theorem Ej (a b : List Int) : cy Tryz.prog 49 [Ty.sl eB a, Ty.sl eB b] (Ty.bool (decide (a = b))) := by
 refine aX Tryz.func49 rfl (by decide) Tryz.ntmps49 (by exact Nat.le_of_ble_eq_true rfl) fun w0 M0 => ?_
 refine jv (s := 0) rfl rfl j9 fun ha => ?_
 refine jv (s := 1) rfl rfl j9 fun hb => ?_
 refine aF (aA (dJ rfl (aD (aC (aF (aF (aA (eV rfl (bq rfl rfl rfl (eV rfl (bq rfl rfl rfl (av rfl rfl rfl (aD (aC ?_))))))))))))))
 refine dB rfl (fun hc1 => ?_) (fun hc1 => ?_)
 ·try (simp only [Classical.not_not] at hc1)
  refine aF (aA (dJ rfl (aD (aC (au (aP (bT rfl rfl ?_)))))))
  all_goals skip
  exact bD rfl rfl (congrArg Ty.bool (by rw [eq_comm, decide_eq_false_iff_not]; intro e; subst e; exact hc1 rfl))
 try (simp only [Classical.not_not] at hc1)
 refine ak (aC (aF (aF (aA (eV rfl (bq rfl rfl rfl (bP rfl (aD (aC (aY ?_))))))))))
 refine cI (fun (k : {k : Nat // a.take k = b.take k}) => live [(0, Ty.sl eB a), (1, Ty.sl eB b), (12, Ty.int .i64 a.length), (13, Ty.int .i64 (k.1 : Nat))] []) (fun k => a.length - k.1) (⟨0, by simp⟩) ?_ fun k => ?_
 ·(refine cr.mk' ?_ ?_ <;> (repeat' (first | exact aH | exact aI | refine aB ?_ (Ty.aS _) | refine aB ?_ (Ty.aG _))))
 have hlen : a.length = b.length := by omega
 refine aF (aA (av rfl rfl rfl (aD (aC (aF ?_)))))
 refine aj rfl (fun hc2 => ?_) (fun hc2 => ?_)
 ·try (simp only [Classical.not_not] at hc2)
  refine ak (aC (aF (aY (aF (aA (bP rfl (b8 rfl (aD (aC (aF (cq mixed rfl (eV rfl (bP rfl ?_)))))))))))))
  refine bC rfl rfl rfl rfl rfl rfl (by omega) ?_
  refine aL rfl rfl rfl rfl (eV rfl (bP rfl ?_))
  refine bC rfl rfl rfl rfl rfl rfl (by omega) ?_
  refine aL rfl rfl rfl rfl (av rfl rfl rfl (aD ?_))
  refine ⟨by kernel_rfl, ?_⟩
  refine aC ?_
  refine dB rfl (fun hc3 => ?_) (fun hc3 => ?_)
  ·try (simp only [Classical.not_not] at hc3)
   refine aF (aA (dJ rfl (aD (aC (au (af (aP (aP (af (aP (bT rfl rfl ?_)))))))))))
   all_goals skip
   exact bD rfl rfl (congrArg Ty.bool (by rw [eq_comm, decide_eq_false_iff_not]; exact Ir (k := k.1) (hc3)))
  try (simp only [Classical.not_not] at hc3)
  refine ak (bJ (aC (aA ?_)))
  refine cD rfl rfl (by omega) (by omega) ?_
  refine bP rfl (aD ?_)
  refine bS (⟨k.1 + 1, by rw [cE (by omega), cE (by omega), k.2, hc3]⟩) ?_ (by show a.length - (k.1 + 1) < a.length - k.1; omega)
  (refine cr.mk' ?_ ?_ <;> (repeat' (first | exact aH | exact aI | refine aB ?_ (Ty.aS _) | refine aB ?_ (Ty.aG _))))
  all_goals skip
 try (simp only [Classical.not_not] at hc2)
 refine b9 (aN (aN (aZ rfl (aC (aF (aA (dJ rfl (aD (aC (au (bT rfl rfl ?_)))))))))))
 all_goals skip
 exact bD rfl rfl (congrArg Ty.bool (by rw [eq_comm, decide_eq_true_eq]; have := k.2; rwa [List.take_of_length_le (by omega), List.take_of_length_le (by omega)] at this))
set_option maxRecDepth 100000 in
theorem MQ (a b : List Int) : cy Tryz.prog 20 [Ty.sl eB a, Ty.sl eB b] (Ty.bool (decide (a = b))) := by
 refine aX Tryz.func20 rfl (by decide) Tryz.ntmps20 (by exact Nat.le_of_ble_eq_true rfl) fun w0 M0 => ?_
 refine aF (aA (dJ rfl (aD (aC (aF (aA (eV rfl (eV rfl (aq (Ej _ _) rfl rfl rfl rfl rfl (dJ rfl (aD (aC (au (bT rfl rfl ?_))))))))))))))
 all_goals exact bQ rfl rfl
set_option maxRecDepth 100000 in
theorem EY (l : List Int) (h : l.length ≤ 1000) : cy Tryz.prog 42 [Ty.sl eB l] (Ty.sl eB l) := by
 refine aX Tryz.func42 rfl (by decide) Tryz.ntmps42 (by exact Nat.le_of_ble_eq_true rfl) fun w0 M0 => ?_
 refine aF (aA (iT rfl (aD (aC (aF (aF (aA (eV rfl (xZ O2 rfl (aD (aC ?_)))))))))))
 refine q5 rfl (fun hc1 => ?_) (fun hc1 => ?_)
 ·refine aF (aA (iT rfl (aD (aC (au (aP (bT rfl rfl ?_)))))))
  all_goals skip
  exact eS hc1
 refine ak (aC (aF (aA ?_)))
 refine ox (E := eB) rfl rfl rfl rfl ?_
 refine eV rfl ?_
 refine dz rfl rfl (by decide) rfl rfl rfl rfl rfl rfl (by decide) (by (simp <;> omega)) (by (simp <;> omega)) ?_
 refine uT rfl (aD (aC (au (bT rfl rfl ?_))))
 all_goals exact xz (by decide)
 skip
set_option maxRecDepth 100000 in
theorem D1 (l : List p4) (h : l.length ≤ 1000) : cy Tryz.prog 108 [Ty.sl gC l] (Ty.sl gC l) := by
 refine aX Tryz.func108 rfl (by decide) Tryz.ntmps108 (by exact Nat.le_of_ble_eq_true rfl) fun w0 M0 => ?_
 refine aF (aA (iT rfl (aD (aC (aF (aF (aA (eV rfl (xZ Q6 rfl (aD (aC ?_)))))))))))
 refine q5 rfl (fun hc1 => ?_) (fun hc1 => ?_)
 ·refine aF (aA (iT rfl (aD (aC (au (aP (bT rfl rfl ?_)))))))
  all_goals skip
  exact eS hc1
 refine ak (aC (aF (aA ?_)))
 refine ox (E := gC) rfl rfl rfl rfl ?_
 refine eV rfl ?_
 refine dz rfl rfl (by decide) rfl rfl rfl rfl rfl rfl (by decide) (by (simp <;> omega)) (by (simp <;> omega)) ?_
 refine uT rfl (aD (aC (au (bT rfl rfl ?_))))
 all_goals exact xz (by decide)
 skip
end Go.Proofs.YtmmcenjknimhbaaGreat
namespace Go.Proofs.YtmmcenjknimhbaaGreat
open Go Go.T
end Go.Proofs.YtmmcenjknimhbaaGreat
namespace Go.Proofs.YtmmcenjknimhbaaGreat
open Go Go.T
attribute [local irreducible] fL dg lG nG fZ gA fy fm ff nB gB m6 cw fA m4 ew nM nth eU cm aV cy bodyPost Exit.then Exit.inBlock Code.wp Code.wpIn
set_option maxRecDepth 100000 in
theorem vT (l : List Int) (t : Ty) (h1 : t.one = true) (q : Int → Bool) (hd : t.deps = []) (hc : t.cdeps = []) (hf : ∀ x ∈ l, rS Tryz.prog t [Ty.int .i64 x] (Ty.bool (q x))) : cy Tryz.prog 142 [Ty.sl eB l, t] (Ty.int .i64 (fidx q l)) := by
 refine aX Tryz.func142 rfl (by decide) Tryz.ntmps142 (by exact Nat.le_of_ble_eq_true rfl) fun w0 M0 => ?_
 refine jv (s := 0) rfl rfl j9 fun hl => ?_
 refine aF (aA (b8 rfl (aD (aC (aF (aF (aA (eV rfl (bq rfl rfl rfl (bP rfl (aD (aC (aY ?_)))))))))))))
 refine cI (fun (k : {k : Nat // ∀ x ∈ l.take k, q x = false}) => live [(0, Ty.sl eB l), (1, t), (7, Ty.int .i64 l.length), (8, Ty.int .i64 (k.1 : Nat))] []) (fun k => l.length - k.1) (⟨0, by simp⟩) ?_ fun k => ?_
 ·(refine cr.mk' ?_ ?_ <;> (repeat' (first | exact aH | exact aI | refine aB ?_ (Ty.aS _) | refine aB ?_ (Ty.aG _))))
 refine aF (aA (av rfl rfl rfl (aD (aC (aF ?_)))))
 refine aj rfl (fun hc1 => ?_) (fun hc1 => ?_)
 ·refine ak (aC (aF (aY (aF (aA (bP rfl (b8 rfl (aD (aC (aF (aA ?_)))))))))))
  refine ej (ty := t) rfl ?_
  refine eV rfl (bP rfl ?_)
  refine bC rfl rfl rfl rfl rfl rfl (by omega) ?_
  refine aL rfl rfl rfl rfl ?_
  refine gH rfl (hf _ (bh (by omega))) rfl ?_
  refine aD (aC ?_)
  refine c8 rfl (fun hc2 => ?_) (fun hc2 => ?_)
  ·refine aF (aA (bP rfl (b8 rfl (aD (aC (au (af (aP (aP (af (aP (bT rfl rfl ?_))))))))))))
   all_goals skip
   exact bD rfl rfl (congrArg (Ty.int .i64) (iE (by omega) k.2 (by rw [← cL]; exact hc2)).symm)
  refine ak (bJ (aC (aA ?_)))
  refine cD rfl rfl (by omega) (by omega) ?_
  refine bP rfl (aD ?_)
  refine bS (⟨k.1 + 1, by rw [cE (by omega)]; intro x hx; rcases List.mem_append.1 hx with h | h; exact k.2 x h; rw [List.mem_singleton.1 h]; exact hc2⟩) ?_ (by show l.length - (k.1 + 1) < l.length - k.1; omega)
  (refine cr.mk' ?_ ?_ <;> (repeat' (first | exact aH | exact aI | refine aB ?_ (Ty.aS _) | refine aB ?_ (Ty.aG _))))
  all_goals skip
 refine b9 (aN (aN (aZ rfl (aC (aF (aA (b8 rfl (aD (aC (au (bT rfl rfl ?_)))))))))))
 all_goals skip
 exact bD rfl rfl (congrArg (Ty.int .i64) (jN (by have := k.2; rwa [List.take_of_length_le (by omega)] at this)).symm)
set_option maxRecDepth 100000 in
theorem rT (l : List Int) (t : Ty) (h1 : t.one = true) (q : Int → Bool) (hd : t.deps = []) (hc : t.cdeps = []) (hf : ∀ x ∈ l, rS Tryz.prog t [Ty.int .i64 x] (Ty.bool (q x))) : cy Tryz.prog 90 [Ty.sl eB l, t] (Ty.bool (l.any q)) := by
 refine aX Tryz.func90 rfl (by decide) Tryz.ntmps90 (by exact Nat.le_of_ble_eq_true rfl) fun w0 M0 => ?_
 refine aF (aA (dJ rfl (aD (aC (aF (aA (eV rfl ?_)))))))
 refine ej (ty := t) rfl ?_
 refine aq (vT l t h1 q hd hc hf) rfl (by exact bG rfl (bG hd rfl)) (by exact bA rfl (bA hc rfl)) rfl rfl ?_
 refine av rfl rfl rfl (dJ rfl (aD (aC (au (bT rfl rfl ?_)))))
 all_goals skip
 exact bD rfl rfl (congrArg Ty.bool (nO q l))
set_option maxRecDepth 100000 in
theorem AZ (x : Int) (t : Ty) (h1 : t.one = true) (b : Bool) (hd : t.deps = []) (hc : t.cdeps = []) (hf : rS Tryz.prog t [Ty.int .i64 x] (Ty.bool b)) : cy Tryz.prog 145 [Ty.int .i64 x, Ty.pp [t]] (Ty.bool (!b)) := by
 refine aX Tryz.func145 rfl (by decide) Tryz.ntmps145 (by exact Nat.le_of_ble_eq_true rfl) fun w0 M0 => ?_
 refine aF (aA (dJ rfl (aD (aC (aF (aA (aL rfl rfl rfl rfl (bP rfl (gH rfl hf rfl (dK rfl (dJ rfl (aD (aC (au (bT rfl rfl ?_)))))))))))))))
 all_goals exact bQ rfl rfl
set_option maxRecDepth 100000 in
theorem jT (l : List Int) (t : Ty) (h1 : t.one = true) (q : Int → Bool) (hd : t.deps = []) (hc : t.cdeps = []) (hf : ∀ x ∈ l, rS Tryz.prog t [Ty.int .i64 x] (Ty.bool (q x))) : cy Tryz.prog 95 [Ty.sl eB l, t] (Ty.bool (l.all q)) := by
 refine aX Tryz.func95 rfl (by decide) Tryz.ntmps95 (by exact Nat.le_of_ble_eq_true rfl) fun w0 M0 => ?_
 refine aF (aA ?_)
 refine dy (ty := t) rfl h1 ?_
 refine dJ rfl (aD (aC (aF (aA (eV rfl (cx rfl ?_))))))
 refine aq (rT l (Ty.jh _ [Ty.pp [t]]) rfl (fun x => !q x) (by exact bG (bG hd rfl) rfl) (by exact bA (bA hc rfl) rfl) fun x hx => dM (AZ x t h1 (q x) hd hc (hf x hx)) rfl rfl (by exact bG (bG hd rfl) rfl) (by exact bA (bA hc rfl) rfl) rfl rfl) rfl (by exact bG rfl (bG (bG (bG hd rfl) rfl) rfl)) (by exact bA rfl (bA (bA (bA hc rfl) rfl) rfl)) rfl rfl ?_
 refine dK rfl (dJ rfl (aD (aC (au (bT rfl rfl ?_)))))
 all_goals skip
 exact bD rfl rfl (congrArg Ty.bool (rC q l))
set_option maxRecDepth 100000 in
theorem xL (l : List p5) (t : Ty) (h1 : t.one = true) (q : p5 → Bool) (hd : t.deps = []) (hc : t.cdeps = []) (hf : ∀ x ∈ l, rS Tryz.prog t [Ty.agg (n6.tys x)] (Ty.bool (q x))) : cy Tryz.prog 229 [Ty.sl n6 l, t] (Ty.int .i64 (fidx q l)) := by
 refine aX Tryz.func229 rfl (by decide) Tryz.ntmps229 (by exact Nat.le_of_ble_eq_true rfl) fun w0 M0 => ?_
 refine jv (s := 0) rfl rfl j9 fun hl => ?_
 refine aF (aA (b8 rfl (aD (aC (aF (aF (aA (eV rfl (bq rfl rfl rfl (bP rfl (aD (aC (aY ?_)))))))))))))
 refine cI (fun (k : {k : Nat // ∀ x ∈ l.take k, q x = false}) => live [(0, Ty.sl n6 l), (1, t), (7, Ty.int .i64 l.length), (8, Ty.int .i64 (k.1 : Nat))] []) (fun k => l.length - k.1) (⟨0, by simp⟩) ?_ fun k => ?_
 ·(refine cr.mk' ?_ ?_ <;> (repeat' (first | exact aH | exact aI | refine aB ?_ (Ty.aS _) | refine aB ?_ (Ty.aG _))))
 refine aF (aA (av rfl rfl rfl (aD (aC (aF ?_)))))
 refine aj rfl (fun hc1 => ?_) (fun hc1 => ?_)
 ·refine ak (aC (aF (aY (aF (aA (bP rfl (b8 rfl (aD (aC (aF (aA ?_)))))))))))
  refine ej (ty := t) rfl ?_
  refine eV rfl (bP rfl ?_)
  refine bC rfl rfl rfl rfl rfl rfl (by omega) ?_
  refine aa rfl rfl rfl (by exact Nat.le_of_ble_eq_true rfl) ?_
  refine gH rfl (hf _ (bh (by omega))) rfl ?_
  refine aD (aC ?_)
  refine c8 rfl (fun hc2 => ?_) (fun hc2 => ?_)
  ·refine aF (aA (bP rfl (b8 rfl (aD (aC (au (af (aP (aP (af (aP (bT rfl rfl ?_))))))))))))
   all_goals skip
   exact bD rfl rfl (congrArg (Ty.int .i64) (iE (by omega) k.2 (by rw [← cL]; exact hc2)).symm)
  refine ak (bJ (aC (aA ?_)))
  refine cD rfl rfl (by omega) (by omega) ?_
  refine bP rfl (aD ?_)
  refine bS (⟨k.1 + 1, by rw [cE (by omega)]; intro x hx; rcases List.mem_append.1 hx with h | h; exact k.2 x h; rw [List.mem_singleton.1 h]; exact hc2⟩) ?_ (by show l.length - (k.1 + 1) < l.length - k.1; omega)
  (refine cr.mk' ?_ ?_ <;> (repeat' (first | exact aH | exact aI | refine aB ?_ (Ty.aS _) | refine aB ?_ (Ty.aG _))))
  all_goals skip
 refine b9 (aN (aN (aZ rfl (aC (aF (aA (b8 rfl (aD (aC (au (bT rfl rfl ?_)))))))))))
 all_goals skip
 exact bD rfl rfl (congrArg (Ty.int .i64) (jN (by have := k.2; rwa [List.take_of_length_le (by omega)] at this)).symm)
set_option maxRecDepth 100000 in
theorem s6 (l : List p5) (t : Ty) (h1 : t.one = true) (q : p5 → Bool) (hd : t.deps = []) (hc : t.cdeps = []) (hf : ∀ x ∈ l, rS Tryz.prog t [Ty.agg (n6.tys x)] (Ty.bool (q x))) : cy Tryz.prog 221 [Ty.sl n6 l, t] (Ty.bool (l.any q)) := by
 refine aX Tryz.func221 rfl (by decide) Tryz.ntmps221 (by exact Nat.le_of_ble_eq_true rfl) fun w0 M0 => ?_
 refine aF (aA (dJ rfl (aD (aC (aF (aA (eV rfl ?_)))))))
 refine ej (ty := t) rfl ?_
 refine aq (xL l t h1 q hd hc hf) rfl (by exact bG rfl (bG hd rfl)) (by exact bA rfl (bA hc rfl)) rfl rfl ?_
 refine av rfl rfl rfl (dJ rfl (aD (aC (au (bT rfl rfl ?_)))))
 all_goals skip
 exact bD rfl rfl (congrArg Ty.bool (nO q l))
set_option maxRecDepth 100000 in
theorem Cx (x : p5) (t : Ty) (h1 : t.one = true) (b : Bool) (hd : t.deps = []) (hc : t.cdeps = []) (hf : rS Tryz.prog t [Ty.agg (n6.tys x)] (Ty.bool b)) : cy Tryz.prog 222 [Ty.agg (n6.tys x), Ty.pp [t]] (Ty.bool (!b)) := by
 refine aX Tryz.func222 rfl (by decide) Tryz.ntmps222 (by exact Nat.le_of_ble_eq_true rfl) fun w0 M0 => ?_
 refine aF (aA (az rfl (dJ rfl (aD (aC (aF (aA (aL rfl rfl rfl rfl ?_))))))))
 refine aa rfl rfl rfl (by exact Nat.le_of_ble_eq_true rfl) ?_
 refine gH rfl hf rfl (dK rfl (dJ rfl (aD (aC (au (bT rfl rfl ?_))))))
 all_goals exact bQ rfl rfl
set_option maxRecDepth 100000 in
theorem qm (l : List p5) (t : Ty) (h1 : t.one = true) (q : p5 → Bool) (hd : t.deps = []) (hc : t.cdeps = []) (hf : ∀ x ∈ l, rS Tryz.prog t [Ty.agg (n6.tys x)] (Ty.bool (q x))) : cy Tryz.prog 185 [Ty.sl n6 l, t] (Ty.bool (l.all q)) := by
 refine aX Tryz.func185 rfl (by decide) Tryz.ntmps185 (by exact Nat.le_of_ble_eq_true rfl) fun w0 M0 => ?_
 refine aF (aA ?_)
 refine dy (ty := t) rfl h1 ?_
 refine dJ rfl (aD (aC (aF (aA (eV rfl (cx rfl ?_))))))
 refine aq (s6 l (Ty.jh _ [Ty.pp [t]]) rfl (fun x => !q x) (by exact bG (bG hd rfl) rfl) (by exact bA (bA hc rfl) rfl) fun x hx => dM (Cx x t h1 (q x) hd hc (hf x hx)) rfl rfl (by exact bG (bG hd rfl) rfl) (by exact bA (bA hc rfl) rfl) rfl rfl) rfl (by exact bG rfl (bG (bG (bG hd rfl) rfl) rfl)) (by exact bA rfl (bA (bA (bA hc rfl) rfl) rfl)) rfl rfl ?_
 refine dK rfl (dJ rfl (aD (aC (au (bT rfl rfl ?_)))))
 all_goals skip
 exact bD rfl rfl (congrArg Ty.bool (rC q l))
set_option maxRecDepth 100000 in
theorem xR (l : List tO) (t : Ty) (h1 : t.one = true) (q : tO → Bool) (hd : t.deps = []) (hc : t.cdeps = []) (hf : ∀ x ∈ l, rS Tryz.prog t [Ty.agg (rP.tys x)] (Ty.bool (q x))) : cy Tryz.prog 33 [Ty.sl rP l, t] (Ty.int .i64 (fidx q l)) := by
 refine aX Tryz.func33 rfl (by decide) Tryz.ntmps33 (by exact Nat.le_of_ble_eq_true rfl) fun w0 M0 => ?_
 refine jv (s := 0) rfl rfl j9 fun hl => ?_
 refine aF (aA (b8 rfl (aD (aC (aF (aF (aA (eV rfl (bq rfl rfl rfl (bP rfl (aD (aC (aY ?_)))))))))))))
 refine cI (fun (k : {k : Nat // ∀ x ∈ l.take k, q x = false}) => live [(0, Ty.sl rP l), (1, t), (7, Ty.int .i64 l.length), (8, Ty.int .i64 (k.1 : Nat))] []) (fun k => l.length - k.1) (⟨0, by simp⟩) ?_ fun k => ?_
 ·(refine cr.mk' ?_ ?_ <;> (repeat' (first | exact aH | exact aI | refine aB ?_ (Ty.aS _) | refine aB ?_ (Ty.aG _))))
 refine aF (aA (av rfl rfl rfl (aD (aC (aF ?_)))))
 refine aj rfl (fun hc1 => ?_) (fun hc1 => ?_)
 ·refine ak (aC (aF (aY (aF (aA (bP rfl (b8 rfl (aD (aC (aF (aA ?_)))))))))))
  refine ej (ty := t) rfl ?_
  refine eV rfl (bP rfl ?_)
  refine bC rfl rfl rfl rfl rfl rfl (by omega) ?_
  refine aa rfl rfl rfl (by exact Nat.le_of_ble_eq_true rfl) ?_
  refine gH rfl (hf _ (bh (by omega))) rfl ?_
  refine aD (aC ?_)
  refine c8 rfl (fun hc2 => ?_) (fun hc2 => ?_)
  ·refine aF (aA (bP rfl (b8 rfl (aD (aC (au (af (aP (aP (af (aP (bT rfl rfl ?_))))))))))))
   all_goals skip
   exact bD rfl rfl (congrArg (Ty.int .i64) (iE (by omega) k.2 (by rw [← cL]; exact hc2)).symm)
  refine ak (bJ (aC (aA ?_)))
  refine cD rfl rfl (by omega) (by omega) ?_
  refine bP rfl (aD ?_)
  refine bS (⟨k.1 + 1, by rw [cE (by omega)]; intro x hx; rcases List.mem_append.1 hx with h | h; exact k.2 x h; rw [List.mem_singleton.1 h]; exact hc2⟩) ?_ (by show l.length - (k.1 + 1) < l.length - k.1; omega)
  (refine cr.mk' ?_ ?_ <;> (repeat' (first | exact aH | exact aI | refine aB ?_ (Ty.aS _) | refine aB ?_ (Ty.aG _))))
  all_goals skip
 refine b9 (aN (aN (aZ rfl (aC (aF (aA (b8 rfl (aD (aC (au (bT rfl rfl ?_)))))))))))
 all_goals skip
 exact bD rfl rfl (congrArg (Ty.int .i64) (jN (by have := k.2; rwa [List.take_of_length_le (by omega)] at this)).symm)
set_option maxRecDepth 100000 in
theorem sv (l : List tO) (t : Ty) (h1 : t.one = true) (q : tO → Bool) (hd : t.deps = []) (hc : t.cdeps = []) (hf : ∀ x ∈ l, rS Tryz.prog t [Ty.agg (rP.tys x)] (Ty.bool (q x))) : cy Tryz.prog 223 [Ty.sl rP l, t] (Ty.bool (l.any q)) := by
 refine aX Tryz.func223 rfl (by decide) Tryz.ntmps223 (by exact Nat.le_of_ble_eq_true rfl) fun w0 M0 => ?_
 refine aF (aA (dJ rfl (aD (aC (aF (aA (eV rfl ?_)))))))
 refine ej (ty := t) rfl ?_
 refine aq (xR l t h1 q hd hc hf) rfl (by exact bG rfl (bG hd rfl)) (by exact bA rfl (bA hc rfl)) rfl rfl ?_
 refine av rfl rfl rfl (dJ rfl (aD (aC (au (bT rfl rfl ?_)))))
 all_goals skip
 exact bD rfl rfl (congrArg Ty.bool (nO q l))
set_option maxRecDepth 100000 in
theorem CR (x : tO) (t : Ty) (h1 : t.one = true) (b : Bool) (hd : t.deps = []) (hc : t.cdeps = []) (hf : rS Tryz.prog t [Ty.agg (rP.tys x)] (Ty.bool b)) : cy Tryz.prog 224 [Ty.agg (rP.tys x), Ty.pp [t]] (Ty.bool (!b)) := by
 refine aX Tryz.func224 rfl (by decide) Tryz.ntmps224 (by exact Nat.le_of_ble_eq_true rfl) fun w0 M0 => ?_
 refine aF (aA (az rfl (dJ rfl (aD (aC (aF (aA (aL rfl rfl rfl rfl ?_))))))))
 refine aa rfl rfl rfl (by exact Nat.le_of_ble_eq_true rfl) ?_
 refine gH rfl hf rfl (dK rfl (dJ rfl (aD (aC (au (bT rfl rfl ?_))))))
 all_goals exact bQ rfl rfl
set_option maxRecDepth 100000 in
theorem qU (l : List tO) (t : Ty) (h1 : t.one = true) (q : tO → Bool) (hd : t.deps = []) (hc : t.cdeps = []) (hf : ∀ x ∈ l, rS Tryz.prog t [Ty.agg (rP.tys x)] (Ty.bool (q x))) : cy Tryz.prog 188 [Ty.sl rP l, t] (Ty.bool (l.all q)) := by
 refine aX Tryz.func188 rfl (by decide) Tryz.ntmps188 (by exact Nat.le_of_ble_eq_true rfl) fun w0 M0 => ?_
 refine aF (aA ?_)
 refine dy (ty := t) rfl h1 ?_
 refine dJ rfl (aD (aC (aF (aA (eV rfl (cx rfl ?_))))))
 refine aq (sv l (Ty.jh _ [Ty.pp [t]]) rfl (fun x => !q x) (by exact bG (bG hd rfl) rfl) (by exact bA (bA hc rfl) rfl) fun x hx => dM (CR x t h1 (q x) hd hc (hf x hx)) rfl rfl (by exact bG (bG hd rfl) rfl) (by exact bA (bA hc rfl) rfl) rfl rfl) rfl (by exact bG rfl (bG (bG (bG hd rfl) rfl) rfl)) (by exact bA rfl (bA (bA (bA hc rfl) rfl) rfl)) rfl rfl ?_
 refine dK rfl (dJ rfl (aD (aC (au (bT rfl rfl ?_)))))
 all_goals skip
 exact bD rfl rfl (congrArg Ty.bool (rC q l))
set_option maxRecDepth 100000 in
theorem xQ (l : List jq) (t : Ty) (h1 : t.one = true) (q : jq → Bool) (hd : t.deps = []) (hc : t.cdeps = []) (hf : ∀ x ∈ l, rS Tryz.prog t [Ty.agg (xM.tys x)] (Ty.bool (q x))) : cy Tryz.prog 144 [Ty.sl xM l, t] (Ty.int .i64 (fidx q l)) := by
 refine aX Tryz.func144 rfl (by decide) Tryz.ntmps144 (by exact Nat.le_of_ble_eq_true rfl) fun w0 M0 => ?_
 refine jv (s := 0) rfl rfl j9 fun hl => ?_
 refine aF (aA (b8 rfl (aD (aC (aF (aF (aA (eV rfl (bq rfl rfl rfl (bP rfl (aD (aC (aY ?_)))))))))))))
 refine cI (fun (k : {k : Nat // ∀ x ∈ l.take k, q x = false}) => live [(0, Ty.sl xM l), (1, t), (7, Ty.int .i64 l.length), (8, Ty.int .i64 (k.1 : Nat))] []) (fun k => l.length - k.1) (⟨0, by simp⟩) ?_ fun k => ?_
 ·(refine cr.mk' ?_ ?_ <;> (repeat' (first | exact aH | exact aI | refine aB ?_ (Ty.aS _) | refine aB ?_ (Ty.aG _))))
 refine aF (aA (av rfl rfl rfl (aD (aC (aF ?_)))))
 refine aj rfl (fun hc1 => ?_) (fun hc1 => ?_)
 ·refine ak (aC (aF (aY (aF (aA (bP rfl (b8 rfl (aD (aC (aF (aA ?_)))))))))))
  refine ej (ty := t) rfl ?_
  refine eV rfl (bP rfl ?_)
  refine bC rfl rfl rfl rfl rfl rfl (by omega) ?_
  refine aa rfl rfl rfl (by exact Nat.le_of_ble_eq_true rfl) ?_
  refine gH rfl (hf _ (bh (by omega))) rfl ?_
  refine aD (aC ?_)
  refine c8 rfl (fun hc2 => ?_) (fun hc2 => ?_)
  ·refine aF (aA (bP rfl (b8 rfl (aD (aC (au (af (aP (aP (af (aP (bT rfl rfl ?_))))))))))))
   all_goals skip
   exact bD rfl rfl (congrArg (Ty.int .i64) (iE (by omega) k.2 (by rw [← cL]; exact hc2)).symm)
  refine ak (bJ (aC (aA ?_)))
  refine cD rfl rfl (by omega) (by omega) ?_
  refine bP rfl (aD ?_)
  refine bS (⟨k.1 + 1, by rw [cE (by omega)]; intro x hx; rcases List.mem_append.1 hx with h | h; exact k.2 x h; rw [List.mem_singleton.1 h]; exact hc2⟩) ?_ (by show l.length - (k.1 + 1) < l.length - k.1; omega)
  (refine cr.mk' ?_ ?_ <;> (repeat' (first | exact aH | exact aI | refine aB ?_ (Ty.aS _) | refine aB ?_ (Ty.aG _))))
  all_goals skip
 refine b9 (aN (aN (aZ rfl (aC (aF (aA (b8 rfl (aD (aC (au (bT rfl rfl ?_)))))))))))
 all_goals skip
 exact bD rfl rfl (congrArg (Ty.int .i64) (jN (by have := k.2; rwa [List.take_of_length_le (by omega)] at this)).symm)
set_option maxRecDepth 100000 in
theorem sD (l : List jq) (t : Ty) (h1 : t.one = true) (q : jq → Bool) (hd : t.deps = []) (hc : t.cdeps = []) (hf : ∀ x ∈ l, rS Tryz.prog t [Ty.agg (xM.tys x)] (Ty.bool (q x))) : cy Tryz.prog 93 [Ty.sl xM l, t] (Ty.bool (l.any q)) := by
 refine aX Tryz.func93 rfl (by decide) Tryz.ntmps93 (by exact Nat.le_of_ble_eq_true rfl) fun w0 M0 => ?_
 refine aF (aA (dJ rfl (aD (aC (aF (aA (eV rfl ?_)))))))
 refine ej (ty := t) rfl ?_
 refine aq (xQ l t h1 q hd hc hf) rfl (by exact bG rfl (bG hd rfl)) (by exact bA rfl (bA hc rfl)) rfl rfl ?_
 refine av rfl rfl rfl (dJ rfl (aD (aC (au (bT rfl rfl ?_)))))
 all_goals skip
 exact bD rfl rfl (congrArg Ty.bool (nO q l))
set_option maxRecDepth 100000 in
theorem C2 (x : jq) (t : Ty) (h1 : t.one = true) (b : Bool) (hd : t.deps = []) (hc : t.cdeps = []) (hf : rS Tryz.prog t [Ty.agg (xM.tys x)] (Ty.bool b)) : cy Tryz.prog 225 [Ty.agg (xM.tys x), Ty.pp [t]] (Ty.bool (!b)) := by
 refine aX Tryz.func225 rfl (by decide) Tryz.ntmps225 (by exact Nat.le_of_ble_eq_true rfl) fun w0 M0 => ?_
 refine aF (aA (az rfl (dJ rfl (aD (aC (aF (aA (aL rfl rfl rfl rfl ?_))))))))
 refine aa rfl rfl rfl (by exact Nat.le_of_ble_eq_true rfl) ?_
 refine gH rfl hf rfl (dK rfl (dJ rfl (aD (aC (au (bT rfl rfl ?_))))))
 all_goals exact bQ rfl rfl
set_option maxRecDepth 100000 in
theorem D5 (l : List jq) (t : Ty) (h1 : t.one = true) (q : jq → Bool) (hd : t.deps = []) (hc : t.cdeps = []) (hf : ∀ x ∈ l, rS Tryz.prog t [Ty.agg (xM.tys x)] (Ty.bool (q x))) : cy Tryz.prog 194 [Ty.sl xM l, t] (Ty.bool (l.all q)) := by
 refine aX Tryz.func194 rfl (by decide) Tryz.ntmps194 (by exact Nat.le_of_ble_eq_true rfl) fun w0 M0 => ?_
 refine aF (aA ?_)
 refine dy (ty := t) rfl h1 ?_
 refine dJ rfl (aD (aC (aF (aA (eV rfl (cx rfl ?_))))))
 refine aq (sD l (Ty.jh _ [Ty.pp [t]]) rfl (fun x => !q x) (by exact bG (bG hd rfl) rfl) (by exact bA (bA hc rfl) rfl) fun x hx => dM (C2 x t h1 (q x) hd hc (hf x hx)) rfl rfl (by exact bG (bG hd rfl) rfl) (by exact bA (bA hc rfl) rfl) rfl rfl) rfl (by exact bG rfl (bG (bG (bG hd rfl) rfl) rfl)) (by exact bA rfl (bA (bA (bA hc rfl) rfl) rfl)) rfl rfl ?_
 refine dK rfl (dJ rfl (aD (aC (au (bT rfl rfl ?_)))))
 all_goals skip
 exact bD rfl rfl (congrArg Ty.bool (rC q l))
end Go.Proofs.YtmmcenjknimhbaaGreat
namespace Go.Proofs.YtmmcenjknimhbaaGreat
open Go Go.T
attribute [local irreducible] fL dg lG nG fZ gA fy fm ff nB gB m6 cw fA m4 ew nM nth eU cm aV cy bodyPost Exit.then Exit.inBlock Code.wp Code.wpIn
structure cG.Small (f : cG) : Prop where
  bears : f.bears.length ≤ 8
  bins : f.bins.length ≤ 9
  turnings : f.turnings.length ≤ 11
  rules : f.rules.length ≤ 21
  shares : ∀ b ∈ f.bins, b.shares.length ≤ 8
end Go.Proofs.YtmmcenjknimhbaaGreat
namespace Go.Proofs.YtmmcenjknimhbaaGreat
open Go Go.T
attribute [local irreducible] fL dg lG nG fZ gA fy fm ff nB gB m6 cw fA m4 ew nM nth eU cm aV cy bodyPost Exit.then Exit.inBlock Code.wp Code.wpIn
def two (r : List jq) : cG := ⟨[400, 300], [⟨60, [4, 0]⟩, ⟨30, [2, 2]⟩, ⟨0, [0, 4]⟩], [⟨0, 1, 40⟩, ⟨1, 2, 30⟩, ⟨-1, 0, 40⟩], r⟩
end Go.Proofs.YtmmcenjknimhbaaGreat
namespace Go.Proofs.YtmmcenjknimhbaaGreat
open Go Go.T
attribute [local irreducible] fL dg lG nG fZ gA fy fm ff nB gB m6 cw fA m4 ew nM nth eU cm aV cy bodyPost Exit.then Exit.inBlock Code.wp Code.wpIn
end Go.Proofs.YtmmcenjknimhbaaGreat
namespace Go.Proofs.YtmmcenjknimhbaaGreat
open Go Go.T
attribute [local irreducible] fL dg lG nG fZ gA fy fm ff nB gB m6 cw fA m4 ew nM nth eU cm aV cy bodyPost Exit.then Exit.inBlock Code.wp Code.wpIn
theorem uu {b : Bool} (h : b = false) : ¬ b = true := by rw [h]; decide
theorem EG {n k : Nat} {q : Int → Bool} (hk : k < n) (h : q k = true) : (xy n).any q = true := E7 (gK.2 ⟨by omega, by omega⟩) h
theorem DW {n : Nat} {q : Int → Bool} (h : ∀ k : Nat, k < n → q k = false) : (xy n).any q = false := by
 rw [Bool.eq_false_iff]; intro hc
 obtain ⟨x, hx, hq⟩ := List.any_eq_true.1 hc
 obtain ⟨h1, h2⟩ := gK.1 hx
 have := h x.toNat (by omega)
 rw [Int.toNat_of_nonneg h1, hq] at this; cases this
theorem P6 {p : Nat → Prop} {k : Nat} (h : ∀ j, j < k → p j) (hk : p k) : ∀ j, j < k + 1 → p j := fun j hj => by
 rcases Nat.lt_or_ge j k with h1 | h1
 ·exact h j h1
 rwa [show j = k by omega]
end Go.Proofs.YtmmcenjknimhbaaGreat
namespace Go.Proofs.YtmmcenjknimhbaaGreat
open Go Go.T
attribute [local irreducible] fL dg lG nG fZ gA fy fm ff nB gB m6 cw fA m4 ew nM nth eU cm aV cy bodyPost Exit.then Exit.inBlock Code.wp Code.wpIn
end Go.Proofs.YtmmcenjknimhbaaGreat
namespace Go.Proofs.YtmmcenjknimhbaaGreat
open Go Go.T
attribute [local irreducible] fL dg lG nG fZ gA fy fm ff nB gB m6 cw fA m4 ew nM nth eU cm aV cy bodyPost Exit.then Exit.inBlock Code.wp Code.wpIn
end Go.Proofs.YtmmcenjknimhbaaGreat
namespace Go.Proofs.YtmmcenjknimhbaaGreat
open Go Go.T
attribute [local irreducible] fL dg lG nG fZ gA fy fm ff nB gB m6 cw fA m4 ew nM nth eU cm aV cy bodyPost Exit.then Exit.inBlock Code.wp Code.wpIn
end Go.Proofs.YtmmcenjknimhbaaGreat
namespace Go.Proofs.YtmmcenjknimhbaaGreat
open Go Go.T
attribute [local irreducible] fL dg lG nG fZ gA fy fm ff nB gB m6 cw fA m4 ew nM nth eU cm aV cy bodyPost Exit.then Exit.inBlock Code.wp Code.wpIn
end Go.Proofs.YtmmcenjknimhbaaGreat
namespace Go.Proofs.YtmmcenjknimhbaaGreat
open Go Go.T
attribute [local irreducible] fL dg lG nG fZ gA fy fm ff nB gB m6 cw fA m4 ew nM nth eU cm aV cy bodyPost Exit.then Exit.inBlock Code.wp Code.wpIn
end Go.Proofs.YtmmcenjknimhbaaGreat
namespace Go.Proofs.YtmmcenjknimhbaaGreat
open Go Go.T
attribute [local irreducible] fL dg lG nG fZ gA fy fm ff nB gB m6 cw fA m4 ew nM nth eU cm aV cy bodyPost Exit.then Exit.inBlock Code.wp Code.wpIn
set_option maxRecDepth 100000 in
theorem wk (n lo hi : Int) : cy Tryz.prog 114 [Ty.int .i64 n, Ty.int .i64 lo, Ty.int .i64 hi] (Ty.bool (fG n lo hi)) := by
 refine aX Tryz.func114 rfl (by decide) Tryz.ntmps114 (by exact Nat.le_of_ble_eq_true rfl) fun w0 M0 => ?_
 refine aF (aA (dJ rfl (aD (aC (aF (aA (bP rfl (bP rfl (av rfl rfl rfl (gw rfl ?_))))))))))
 apply aM (s := 10) rfl rfl rfl
 ·intro hg; apply aO; (refine bP rfl ?_); refine aD ?_; exact rfl
 ·exact rfl
 ·exact rfl
 apply aM (s := 10) rfl rfl rfl
 ·intro hg; apply aO; (refine bP rfl ?_); refine aD ?_; exact rfl
 ·exact rfl
 ·exact rfl
 apply aM (s := 10) rfl rfl rfl
 ·intro hg; apply aJ (s := 11) rfl (by (rw [hg]; rfl)); apply aJ (s := 12) rfl (by (rw [hg]; rfl)); apply aO; (refine av rfl rfl rfl ?_); refine aD ?_; exact rfl
 ·exact rfl
 ·exact rfl
 refine fu rfl rfl (dJ rfl (aD (aC (au (bT rfl rfl ?_)))))
 all_goals exact bQ rfl rfl
set_option maxRecDepth 100000 in
theorem QY (l : List Int) (hl : l.length ≤ 100) (hb : ∀ n ∈ l, 0 ≤ n ∧ n ≤ 4000) : cy Tryz.prog 198 [Ty.sl eB l] (Ty.int .i64 l.sum) := by
 refine aX Tryz.func198 rfl (by decide) Tryz.ntmps198 (by exact Nat.le_of_ble_eq_true rfl) fun w0 M0 => ?_
 refine aF (aA (b8 rfl (aD (aC (aF (aA (b8 rfl (aD (aC (aF (aF (aA (eV rfl (bq rfl rfl rfl (bP rfl ?_)))))))))))))))
 refine aD (aC (aY ?_))
 refine cI (fun (k : Nat) => live [(3, Ty.int .i64 (l.take k).sum), (6, Ty.sl eB l), (7, Ty.int .i64 l.length), (8, Ty.int .i64 k)] []) (fun k => l.length - k) (0) ?_ fun k => ?_
 ·(refine cr.mk' ?_ ?_ <;> (repeat' (first | exact aH | exact aI | refine aB ?_ (Ty.aS _) | refine aB ?_ (Ty.aG _))))
 have hsb := GJ hb k
 rw [List.length_take] at hsb
 refine aF (aA (av rfl rfl rfl (aD (aC (aF ?_)))))
 refine aj rfl (fun hc1 => ?_) (fun hc1 => ?_)
 ·refine ak (aC (aF (aY (aF ?_))))
  have hx := hb _ (bh (xs := l) (k := k) (by omega))
  refine aA ?_
  refine bC rfl rfl rfl rfl rfl rfl (by omega) ?_
  refine aL rfl rfl rfl rfl (b8 rfl (aD (aC (aA (bP rfl (bP rfl ?_))))))
  refine cD rfl rfl (by omega) (by omega) ?_
  refine b8 rfl (aD (bJ (aC (aA ?_))))
  refine cD rfl rfl (by omega) (by omega) ?_
  refine bP rfl (aD ?_)
  refine bS (k + 1) ?_ (by omega)
  (refine cr.mk' ?_ ?_ <;> (repeat' (first | exact aH | exact aI | refine aB ?_ (Ty.aS _) | refine aB ?_ (Ty.aG _) | refine aB ?_ ?_)))
  all_goals skip
  exact Ty.bg (by rw [cE (by omega), List.sum_append]; simp)
 refine b9 (aN (aN (aZ rfl (aC (aF (aA (bP rfl (b8 rfl (aD (aC (au (bT rfl rfl ?_))))))))))))
 all_goals skip
 exact bD rfl rfl (congrArg (Ty.int .i64) (by rw [List.take_of_length_le (by omega)]))
set_option maxRecDepth 100000 in
theorem B9 (s : Nat) (hs : s < 256) : cy Tryz.prog 98 [Ty.int .i64 (s : Nat)] (Ty.sl eB (cB s)) := by
 refine aX Tryz.func98 rfl (by decide) Tryz.ntmps98 (by exact Nat.le_of_ble_eq_true rfl) fun w0 M0 => ?_
 refine aF (aA (iT rfl (aD (aC (aF (aA (iT rfl (aD (aC (aF (aF (aA (b8 rfl (aD (aC ?_)))))))))))))))
 refine aY ?_
 refine cI (fun (i : {i : Nat // i ≤ 8}) => live [(0, Ty.int .i64 (s : Nat)), (3, Ty.row eB 3 20 (mo s i.1)), (4, Ty.int .i64 (i.1 : Nat))] []) (fun i => 8 - i.1) (⟨0, by omega⟩) ?_ fun i => ?_
 ·(refine cr.mk' ?_ ?_ <;> (repeat' (first | exact aH | exact aI | refine aB ?_ (Ty.aS _) | refine aB ?_ (Ty.aG _) | refine aB ?_ Ty.iP)))
 have hbl := zS s i.1
 have hsi : s >>> i.1 ≤ s := Nat.shiftRight_le s i.1
 refine aF (aF (aA (bP rfl (bP rfl ?_))))
 refine CL rfl rfl (by omega) ?_
 refine av rfl rfl rfl (aD (aC ?_))
 refine aj rfl (fun hc1 => ?_) (fun hc1 => ?_)
 ·refine ak (aC (aF (aY (aF (aA (bP rfl (bP rfl ?_)))))))
  refine CL rfl rfl (by omega) ?_
  refine Ft (b := 1) rfl rfl (by omega) (by omega) ?_
  refine av rfl rfl rfl (aD (aC ?_))
  refine aj rfl (fun hc2 => ?_) (fun hc2 => ?_)
  ·refine aA (AO rfl (bP rfl ?_))
   refine bY (E := eB) (xs := [_]) rfl rfl rfl rfl rfl (by decide) (by decide) (by repeat (first | exact (aT.nil : aT _ _ [] _) | (show aT _ _ ((_, _) :: _) _; apply aT.one; (· exact (rfl : _ = Ty.int _ _)); (· exact rfl)))) (by exact rfl) rfl ?_
   refine dz rfl rfl (by decide) rfl rfl rfl rfl rfl rfl (by decide) (by (simp <;> omega)) (by (simp <;> omega)) ?_
   refine uT rfl (aD (bJ (aC (aA (bP rfl ?_)))))
   refine cD rfl rfl (by omega) (by omega) ?_
   refine b8 rfl (aD ?_)
   refine bS (⟨i.1 + 1, by have := CX (i := i.1) hs (Int.natCast_pos.1 hc1); omega⟩) ?_ (by show 8 - (i.1 + 1) < 8 - i.1; have := CX (i := i.1) hs (Int.natCast_pos.1 hc1); omega)
   (refine cr.mk' ?_ ?_ <;> (repeat' (first | exact aH | exact aI | refine aB ?_ (Ty.aS _) | refine aB ?_ (Ty.aG _) | refine aB ?_ ?_)))
   all_goals skip
   refine Ty.gy ?_; rw [qW]; (rw [if_pos ((rL s i.1).1 (by exact_mod_cast hc2))]; done)
  refine ak (bJ (aC (aA (bP rfl ?_))))
  refine cD rfl rfl (by omega) (by omega) ?_
  refine b8 rfl (aD ?_)
  refine bS (⟨i.1 + 1, by have := CX (i := i.1) hs (Int.natCast_pos.1 hc1); omega⟩) ?_ (by show 8 - (i.1 + 1) < 8 - i.1; have := CX (i := i.1) hs (Int.natCast_pos.1 hc1); omega)
  (refine cr.mk' ?_ ?_ <;> (repeat' (first | exact aH | exact aI | refine aB ?_ (Ty.aS _) | refine aB ?_ (Ty.aG _) | refine aB ?_ ?_)))
  all_goals skip
  refine Ty.gy ?_; rw [qW]; (rw [if_neg (fun h => hc2 (by exact_mod_cast (rL s i.1).2 h)), List.append_nil]; done)
 refine b9 (aN (aN (aZ rfl (aC (aF (aA (AO rfl (uT rfl (aD (aC (au (bT rfl rfl ?_))))))))))))
 all_goals skip
 exact j7 (by decide) (HD (Nat.eq_zero_of_not_pos fun h => hc1 (Int.natCast_pos.2 h)) 8 i.2).symm
set_option maxRecDepth 100000 in
theorem uw (f : cG) (hs : f.Small) (t : Int) : cy Tryz.prog 96 [mB f, Ty.int .i64 t] (Ty.bool (fG t 0 (f.turnings.length - 1))) := by
 refine aX Tryz.func96 rfl (by decide) Tryz.ntmps96 (by exact Nat.le_of_ble_eq_true rfl) fun w0 M0 => ?_
 have hs1 := hs.bears; have hs2 := hs.bins; have hs3 := hs.turnings; have hs4 := hs.rules
 refine aF (aA (az rfl (dJ rfl (aD (aC (aF (aA (bP rfl ?_))))))))
 refine aQ rfl rfl rfl rfl rfl (by decide) ?_
 refine aL rfl rfl rfl rfl (bq rfl rfl rfl ?_)
 refine jo rfl rfl (by omega) (by omega) ?_
 refine aq (wk _ _ _) rfl rfl rfl rfl rfl (dJ rfl (aD (aC (au (bT rfl rfl ?_)))))
 all_goals exact bQ rfl rfl
set_option maxRecDepth 100000 in
theorem Qz (f : cG) (hs : f.Small) (t : Int) : cy Tryz.prog 55 [mB f, Ty.int .i64 t] (Ty.bool (fG t 0 (f.bears.length - 1))) := by
 refine aX Tryz.func55 rfl (by decide) Tryz.ntmps55 (by exact Nat.le_of_ble_eq_true rfl) fun w0 M0 => ?_
 have hs1 := hs.bears; have hs2 := hs.bins; have hs3 := hs.turnings; have hs4 := hs.rules
 refine aF (aA (az rfl (dJ rfl (aD (aC (aF (aA (bP rfl ?_))))))))
 refine aQ rfl rfl rfl rfl rfl (by decide) ?_
 refine aL rfl rfl rfl rfl (bq rfl rfl rfl ?_)
 refine jo rfl rfl (by omega) (by omega) ?_
 refine aq (wk _ _ _) rfl rfl rfl rfl rfl (dJ rfl (aD (aC (au (bT rfl rfl ?_)))))
 all_goals exact bQ rfl rfl
set_option maxRecDepth 100000 in
theorem Hj (f : cG) (hs : f.Small) (t : Int) : cy Tryz.prog 193 [mB f, Ty.int .i64 t] (Ty.bool (fG t (-1) (f.bins.length - 1))) := by
 refine aX Tryz.func193 rfl (by decide) Tryz.ntmps193 (by exact Nat.le_of_ble_eq_true rfl) fun w0 M0 => ?_
 have hs1 := hs.bears; have hs2 := hs.bins; have hs3 := hs.turnings; have hs4 := hs.rules
 refine aF (aA (az rfl (dJ rfl (aD (aC (aF (aA (bP rfl ?_))))))))
 refine aQ rfl rfl rfl rfl rfl (by decide) ?_
 refine aL rfl rfl rfl rfl (bq rfl rfl rfl ?_)
 refine jo rfl rfl (by omega) (by omega) ?_
 refine aq (wk _ _ _) rfl rfl rfl rfl rfl (dJ rfl (aD (aC (au (bT rfl rfl ?_)))))
 all_goals exact bQ rfl rfl
set_option maxRecDepth 100000 in
theorem L5 (f : cG) (hs : f.Small) (hr : f.mD) (i : Int) : cy Tryz.prog 199 [mB f, Ty.int .i64 i] (Ty.int .i64 (j5 f f.turnings i)) := by
 refine aX Tryz.func199 rfl (by decide) Tryz.ntmps199 (by exact Nat.le_of_ble_eq_true rfl) fun w0 M0 => ?_
 have hs1 := hs.bears; have hs2 := hs.bins; have hs3 := hs.turnings; have hs4 := hs.rules
 refine aF (aA (az rfl (b8 rfl (aD (aC (aF (aA (b8 rfl (aD (aC (aF (aF (aA ?_)))))))))))))
 refine aQ rfl rfl rfl rfl rfl (by decide) ?_
 refine aL rfl rfl rfl rfl (bq rfl rfl rfl (bP rfl (aD (aC (aY ?_)))))
 refine cI (fun (n : Nat) => live [(1, Ty.int .i64 i), (5, Ty.int .i64 (j5 f (f.turnings.take n) i)), (9, Ty.sl rP f.turnings), (10, Ty.int .i64 f.turnings.length), (11, Ty.int .i64 (n : Nat))] []) (fun n => f.turnings.length - n) (0) ?_ fun n => ?_
 ·(refine cr.mk' ?_ ?_ <;> (repeat' (first | exact aH | exact aI | refine aB ?_ (Ty.aS _) | refine aB ?_ (Ty.aG _))))
 have htb := Dj hr n i
 refine aF (aA (av rfl rfl rfl (aD (aC (aF ?_)))))
 refine aj rfl (fun hc1 => ?_) (fun hc1 => ?_)
 ·refine ak (aC (aF (aY (aF (aA ?_)))))
  refine bC rfl rfl rfl rfl rfl rfl (by omega) ?_
  refine aa rfl rfl rfl (by exact Nat.le_of_ble_eq_true rfl) ?_
  refine bX rfl (by exact List.cons_ne_nil _ _) rfl ?_
  refine bW rfl rfl (by decide) rfl rfl rfl rfl rfl rfl ?_
  refine aD (aC (aF (aA ?_)))
  refine aR rfl rfl rfl rfl rfl (by decide) ?_
  refine aU rfl rfl (by decide) rfl rfl rfl ?_
  refine bP rfl (av rfl rfl rfl (aD (aC ?_)))
  refine aj rfl (fun hc2 => ?_) (fun hc2 => ?_)
  ·have htx := hr.sacksR (nth f.turnings n) (bh (by omega))
   refine aA (bP rfl ?_)
   refine aR rfl rfl rfl rfl rfl (by decide) ?_
   refine aU rfl rfl (by decide) rfl rfl rfl ?_
   refine cD rfl rfl (by omega) (by omega) ?_
   refine b8 rfl (aD (bJ (aC (aA ?_))))
   refine cD rfl rfl (by omega) (by omega) ?_
   refine bP rfl (aD ?_)
   refine bS (n + 1) ?_ (by omega)
   (refine cr.mk' ?_ ?_ <;> (repeat' (first | exact aH | exact aI | refine aB ?_ (Ty.aS _) | refine aB ?_ (Ty.aG _) | refine aB ?_ ?_)))
   all_goals skip
   exact Ty.bg (by simp only [j5]; rw [cE (by omega), List.map_append, List.sum_append]; simp [hc2])
  refine ak (bJ (aC (aA ?_)))
  refine cD rfl rfl (by omega) (by omega) ?_
  refine bP rfl (aD ?_)
  refine bS (n + 1) ?_ (by omega)
  (refine cr.mk' ?_ ?_ <;> (repeat' (first | exact aH | exact aI | refine aB ?_ (Ty.aS _) | refine aB ?_ (Ty.aG _) | refine aB ?_ ?_)))
  all_goals skip
  exact Ty.bg (by simp only [j5]; rw [cE (by omega), List.map_append, List.sum_append]; simp [hc2])
 refine b9 (aN (aN (aZ rfl (aC (aF (aA (bP rfl (b8 rfl (aD (aC (au (bT rfl rfl ?_))))))))))))
 all_goals skip
 exact bD rfl rfl (congrArg (Ty.int .i64) (by rw [List.take_of_length_le (by omega)]))
set_option maxRecDepth 100000 in
theorem HV (f : cG) (hs : f.Small) (hr : f.mD) (i : Int) (b : Nat) (hi : -1 ≤ i ∧ i < f.bins.length) (hb : b < f.bears.length) : cy Tryz.prog 113 [mB f, Ty.int .i64 i, Ty.int .i64 (b : Nat)] (Ty.int .i64 (if i = -1 then 0 else nth (nth f.bins i.toNat).shares b)) := by
 refine aX Tryz.func113 rfl (by decide) Tryz.ntmps113 (by exact Nat.le_of_ble_eq_true rfl) fun w0 M0 => ?_
 have hs1 := hs.bears; have hs2 := hs.bins; have hs3 := hs.turnings; have hs4 := hs.rules
 refine aF (aA (az rfl (b8 rfl (aD (aC (aF (aF (aA (bP rfl (av rfl rfl rfl (aD (aC ?_))))))))))))
 refine aj rfl (fun hc1 => ?_) (fun hc1 => ?_)
 ·refine aF (aA (b8 rfl (aD (aC (au (aP (bT rfl rfl ?_)))))))
  all_goals skip
  exact bD rfl rfl (congrArg (Ty.int .i64) (by rw [if_pos hc1]))
 refine ak (aC (aF ?_))
 have hsl := hr.shares _ (bh (xs := f.bins) (k := i.toNat) (by omega))
 refine aA ?_
 refine aQ rfl rfl rfl rfl rfl (by decide) ?_
 refine aL rfl rfl rfl rfl (bP rfl ?_)
 refine dX rfl rfl rfl rfl rfl rfl (by omega) (by omega) ?_
 refine aQ rfl rfl rfl rfl rfl (by decide) ?_
 refine aL rfl rfl rfl rfl (bP rfl ?_)
 refine bC rfl rfl rfl rfl rfl rfl (by omega) ?_
 refine aL rfl rfl rfl rfl (b8 rfl (aD (aC (au (bT rfl rfl ?_)))))
 all_goals skip
 exact bD rfl rfl (congrArg (Ty.int .i64) (by rw [if_neg hc1]))
set_option maxRecDepth 100000 in
theorem Ik (f : cG) (b : p5) : cy Tryz.prog 186 [Ty.agg (n6.tys b), Ty.pp (eT f)] (Ty.bool (decide ((b.shares.length : Int) = f.bears.length))) := by
 refine aX Tryz.func186 rfl (by decide) Tryz.ntmps186 (by exact Nat.le_of_ble_eq_true rfl) fun w0 M0 => ?_
 refine aF (aA (az rfl (dJ rfl (aD (aC (aF (aA ?_)))))))
 refine aQ rfl rfl rfl rfl rfl (by decide) ?_
 refine aL rfl rfl rfl rfl (bq rfl rfl rfl ?_)
 refine aQ rfl rfl rfl rfl rfl (by decide) ?_
 refine aL rfl rfl rfl rfl (bq rfl rfl rfl (av rfl rfl rfl (dJ rfl (aD (aC (au (bT rfl rfl ?_)))))))
 all_goals exact bQ rfl rfl
set_option maxRecDepth 100000 in
theorem Mi (n : Int) : cy Tryz.prog 187 [Ty.int .i64 n] (Ty.bool (fG n 0 4000)) := by
 refine aX Tryz.func187 rfl (by decide) Tryz.ntmps187 (by exact Nat.le_of_ble_eq_true rfl) fun w0 M0 => ?_
 refine aF (aA (dJ rfl (aD (aC (aF (aA (bP rfl (aq (wk _ _ _) rfl rfl rfl rfl rfl (dJ rfl (aD (aC (au (bT rfl rfl ?_)))))))))))))
 all_goals exact bQ rfl rfl
set_option maxRecDepth 100000 in
theorem LM (t : tO) : cy Tryz.prog 189 [Ty.agg (rP.tys t)] (Ty.bool (fG t.sacks 1 300)) := by
 refine aX Tryz.func189 rfl (by decide) Tryz.ntmps189 (by exact Nat.le_of_ble_eq_true rfl) fun w0 M0 => ?_
 refine aF (aA (az rfl (dJ rfl (aD (aC (aF (aA ?_)))))))
 refine aQ rfl rfl rfl rfl rfl (by decide) ?_
 refine aL rfl rfl rfl rfl (aq (wk _ _ _) rfl rfl rfl rfl rfl (dJ rfl (aD (aC (au (bT rfl rfl ?_))))))
 all_goals exact bQ rfl rfl
set_option maxRecDepth 100000 in
theorem JB (n : Int) : cy Tryz.prog 191 [Ty.int .i64 n] (Ty.bool (fG n 0 4)) := by
 refine aX Tryz.func191 rfl (by decide) Tryz.ntmps191 (by exact Nat.le_of_ble_eq_true rfl) fun w0 M0 => ?_
 refine aF (aA (dJ rfl (aD (aC (aF (aA (bP rfl (aq (wk _ _ _) rfl rfl rfl rfl rfl (dJ rfl (aD (aC (au (bT rfl rfl ?_)))))))))))))
 all_goals exact bQ rfl rfl
set_option maxRecDepth 100000 in
theorem KP (b : p5) : cy Tryz.prog 190 [Ty.agg (n6.tys b)] (Ty.bool (fG b.has 0 300 && b.shares.all fun n => fG n 0 4)) := by
 refine aX Tryz.func190 rfl (by decide) Tryz.ntmps190 (by exact Nat.le_of_ble_eq_true rfl) fun w0 M0 => ?_
 refine aF (aA (az rfl (dJ rfl (aD (aC (aF (aA ?_)))))))
 refine aQ rfl rfl rfl rfl rfl (by decide) ?_
 refine aL rfl rfl rfl rfl (aq (wk _ _ _) rfl rfl rfl rfl rfl (gw rfl ?_))
 apply aM (s := 6) rfl rfl rfl
 ·intro hg; apply aO; (refine aQ rfl rfl rfl rfl rfl (by decide) ?_); refine aD ?_; exact rfl
 ·exact rfl
 ·exact rfl
 apply aM (s := 6) rfl rfl rfl
 ·intro hg; apply aJ (s := 7) rfl (by (rw [hg]; rfl)); apply aO; (refine aL rfl rfl rfl rfl ?_); refine aD ?_; exact rfl
 ·exact rfl
 ·exact rfl
 apply aM (s := 6) rfl rfl rfl
 ·intro hg; apply aJ (s := 8) rfl (by (rw [hg]; rfl)); apply aO; (refine aq (jT b.shares (Ty.jh _ []) rfl (fun n => fG n 0 4) rfl rfl fun n _ => dM (JB n) rfl rfl rfl rfl rfl rfl) rfl rfl rfl rfl rfl ?_); refine aD ?_; exact rfl
 ·exact rfl
 ·exact rfl
 refine fu rfl rfl (dJ rfl (aD (aC (au (bT rfl rfl ?_)))))
 all_goals exact bQ rfl rfl
set_option maxRecDepth 100000 in
theorem Mq (f : cG) (hs : f.Small) (t : tO) : cy Tryz.prog 192 [Ty.agg (rP.tys t), Ty.pp (eT f)] (Ty.bool (fG t.src (-1) (f.bins.length - 1) && fG t.dst (-1) (f.bins.length - 1))) := by
 refine aX Tryz.func192 rfl (by decide) Tryz.ntmps192 (by exact Nat.le_of_ble_eq_true rfl) fun w0 M0 => ?_
 have hs1 := hs.bears; have hs2 := hs.bins; have hs3 := hs.turnings; have hs4 := hs.rules
 refine aF (aA (az rfl (dJ rfl (aD (aC (aF (aA ?_)))))))
 refine aa rfl rfl rfl (by exact Nat.le_of_ble_eq_true rfl) ?_
 refine aQ rfl rfl rfl rfl rfl (by decide) ?_
 refine aL rfl rfl rfl rfl (aq (Hj f hs _) rfl rfl rfl rfl rfl (gw rfl ?_))
 apply aM (s := 8) rfl rfl rfl
 ·intro hg; apply aO; (refine aa rfl rfl rfl (by exact Nat.le_of_ble_eq_true rfl) ?_); refine aD ?_; exact rfl
 ·exact rfl
 ·exact rfl
 apply aM (s := 8) rfl rfl rfl
 ·intro hg; apply aO; (refine aQ rfl rfl rfl rfl rfl (by decide) ?_); refine aD ?_; exact rfl
 ·exact rfl
 ·exact rfl
 apply aM (s := 8) rfl rfl rfl
 ·intro hg; apply aJ (s := 10) rfl (by (rw [hg]; rfl)); apply aO; (refine aL rfl rfl rfl rfl ?_); refine aD ?_; exact rfl
 ·exact rfl
 ·exact rfl
 apply aM (s := 8) rfl rfl rfl
 ·intro hg; apply aJ (s := 9) rfl (by (rw [hg]; rfl)); apply aJ (s := 11) rfl (by (rw [hg]; rfl)); apply aO; (refine aq (Hj f hs _) rfl rfl rfl rfl rfl ?_); refine aD ?_; exact rfl
 ·exact rfl
 ·exact rfl
 refine fu rfl rfl (dJ rfl (aD (aC (au (bT rfl rfl ?_)))))
 all_goals exact bQ rfl rfl
set_option maxRecDepth 100000 in
theorem Lf (t : tO) : cy Tryz.prog 196 [Ty.agg (rP.tys t)] (Ty.bool (!decide (t.src = t.dst))) := by
 refine aX Tryz.func196 rfl (by decide) Tryz.ntmps196 (by exact Nat.le_of_ble_eq_true rfl) fun w0 M0 => ?_
 refine aF (aA (az rfl (dJ rfl (aD (aC (aF (aA ?_)))))))
 refine aQ rfl rfl rfl rfl rfl (by decide) ?_
 refine aL rfl rfl rfl rfl ?_
 refine aQ rfl rfl rfl rfl rfl (by decide) ?_
 refine aL rfl rfl rfl rfl (av rfl rfl rfl (dJ rfl (aD (aC (au (bT rfl rfl ?_))))))
 all_goals exact bQ rfl rfl
set_option maxRecDepth 100000 in
theorem Mj (b : p5) (hl : b.shares.length ≤ 100) (hb : ∀ n ∈ b.shares, 0 ≤ n ∧ n ≤ 4000) : cy Tryz.prog 197 [Ty.agg (n6.tys b)] (Ty.bool (decide (b.shares.sum = 4))) := by
 refine aX Tryz.func197 rfl (by decide) Tryz.ntmps197 (by exact Nat.le_of_ble_eq_true rfl) fun w0 M0 => ?_
 refine aF (aA (az rfl (dJ rfl (aD (aC (aF (aA ?_)))))))
 refine aQ rfl rfl rfl rfl rfl (by decide) ?_
 refine aL rfl rfl rfl rfl (aq (QY b.shares hl hb) rfl rfl rfl rfl rfl (av rfl rfl rfl (dJ rfl (aD (aC (au (bT rfl rfl ?_)))))))
 all_goals exact bQ rfl rfl
end Go.Proofs.YtmmcenjknimhbaaGreat
namespace Go.Proofs.YtmmcenjknimhbaaGreat
open Go Go.T
attribute [local irreducible] fL dg lG nG fZ gA fy fm ff nB gB m6 cw fA m4 ew nM nth eU cm aV cy bodyPost Exit.then Exit.inBlock Code.wp Code.wpIn
set_option maxRecDepth 100000 in
theorem KT (f : cG) (hs : f.Small) (r : jq) : cy Tryz.prog 195 [Ty.agg (xM.tys r), Ty.pp [Ty.Mx 96 [mB f]]] (Ty.bool (fG r.fst 0 (f.turnings.length - 1) && fG r.nxt 0 (f.turnings.length - 1))) := by
 refine aX Tryz.func195 rfl (by decide) Tryz.ntmps195 (by exact Nat.le_of_ble_eq_true rfl) fun w0 M0 => ?_
 have hs1 := hs.bears; have hs2 := hs.bins; have hs3 := hs.turnings; have hs4 := hs.rules
 refine aF (aA (az rfl (dJ rfl (aD (aC (aF (aA (aL rfl rfl rfl rfl ?_))))))))
 refine aQ rfl rfl rfl rfl rfl (by decide) ?_
 refine aL rfl rfl rfl rfl (gH rfl (uE (uw f hs r.fst) rfl rfl rfl rfl rfl rfl) rfl (gw rfl ?_))
 apply aM (s := 8) rfl rfl rfl
 ·intro hg; apply aO; (refine aL rfl rfl rfl rfl ?_); refine aD ?_; exact rfl
 ·exact rfl
 ·exact rfl
 apply aM (s := 8) rfl rfl rfl
 ·intro hg; apply aO; (refine aQ rfl rfl rfl rfl rfl (by decide) ?_); refine aD ?_; exact rfl
 ·exact rfl
 ·exact rfl
 apply aM (s := 8) rfl rfl rfl
 ·intro hg; apply aJ (s := 10) rfl (by (rw [hg]; rfl)); apply aO; (refine aL rfl rfl rfl rfl ?_); refine aD ?_; exact rfl
 ·exact rfl
 ·exact rfl
 apply aM (s := 8) rfl rfl rfl
 ·intro hg; apply aJ (s := 9) rfl (by (rw [hg]; rfl)); apply aJ (s := 11) rfl (by (rw [hg]; rfl)); apply aO; (refine gH rfl (uE (uw f hs r.nxt) rfl rfl rfl rfl rfl rfl) rfl ?_); refine aD ?_; exact rfl
 ·exact rfl
 ·exact rfl
 refine fu rfl rfl (dJ rfl (aD (aC (au (bT rfl rfl ?_)))))
 all_goals exact bQ rfl rfl
set_option maxRecDepth 100000 in
theorem M6 (f : cG) (hs : f.Small) : cy Tryz.prog 158 [mB f] (Ty.int .i64 (hO f)) := by
 refine aX Tryz.func158 rfl (by decide) Tryz.ntmps158 (by exact Nat.le_of_ble_eq_true rfl) fun w0 M0 => ?_
 have hs1 := hs.bears; have hs2 := hs.bins; have hs3 := hs.turnings; have hs4 := hs.rules
 refine aF (aA (az rfl (b8 rfl (aD (aC (aF (aA ?_)))))))
 refine aa rfl rfl rfl (by exact Nat.le_of_ble_eq_true rfl) ?_
 refine rA (l := [mB f]) rfl ?_
 refine bX rfl (by exact List.cons_ne_nil _ _) rfl ?_
 refine cj rfl rfl (by decide) rfl rfl (by exact (rfl : _ = Ty.Mx _ _)) rfl (by exact Nat.le_of_ble_eq_true rfl) rfl rfl (by exact (rfl : _ = [_])) ?_
 refine aD (aC (aF (aY (aF ?_))))
 refine mC (tg := 4) [(3, Ty.pp [Ty.Mx 96 [mB f]])] (by decide) rfl ⟨ow (T := 89) (tg := 4) (off := 0) (l := [Ty.Mx 96 [mB f]]) rfl rfl rfl (by decide), trivial⟩ ?_
 refine aA ?_
 refine aQ rfl rfl rfl rfl rfl (by decide) ?_
 refine aL rfl rfl rfl rfl (bq rfl rfl rfl (aq (wk _ _ _) rfl rfl rfl rfl rfl (dK rfl (gw rfl ?_))))
 apply aM (s := 14) rfl rfl rfl
 ·intro hg; apply aO; (refine aQ rfl rfl rfl rfl rfl (by decide) ?_); refine aD ?_; exact rfl
 ·exact rfl
 ·exact rfl
 apply aM (s := 14) rfl rfl rfl
 ·intro hg; apply aJ (s := 15) rfl (by (rw [hg]; rfl)); apply aO; (refine aL rfl rfl rfl rfl ?_); refine aD ?_; exact rfl
 ·exact rfl
 ·exact rfl
 apply aM (s := 14) rfl rfl rfl
 ·intro hg; apply aJ (s := 16) rfl (by (rw [hg]; rfl)); apply aO; (refine bq rfl rfl rfl ?_); refine aD ?_; exact rfl
 ·exact rfl
 ·exact rfl
 apply aM (s := 14) rfl rfl rfl
 ·intro hg; apply aJ (s := 17) rfl (by (rw [hg]; rfl)); apply aO; (refine av rfl rfl rfl ?_); refine aD ?_; exact rfl
 ·exact rfl
 ·exact rfl
 refine iS rfl rfl (gw rfl ?_)
 apply aM (s := 20) rfl rfl rfl
 ·intro hg; apply aO; (refine aQ rfl rfl rfl rfl rfl (by decide) ?_); refine aD ?_; exact rfl
 ·exact rfl
 ·exact rfl
 apply aM (s := 20) rfl rfl rfl
 ·intro hg; apply aJ (s := 21) rfl (by (rw [hg]; rfl)); apply aO; (refine aL rfl rfl rfl rfl ?_); refine aD ?_; exact rfl
 ·exact rfl
 ·exact rfl
 apply aM (s := 20) rfl rfl rfl
 ·intro hg; apply aJ (s := 22) rfl (by (rw [hg]; rfl)); apply aO; (refine bq rfl rfl rfl ?_); refine aD ?_; exact rfl
 ·exact rfl
 ·exact rfl
 apply aM (s := 20) rfl rfl rfl
 ·intro hg; apply aJ (s := 23) rfl (by (rw [hg]; rfl)); apply aO; (refine av rfl rfl rfl ?_); refine aD ?_; exact rfl
 ·exact rfl
 ·exact rfl
 refine iS rfl rfl (gw rfl ?_)
 apply aM (s := 26) rfl rfl rfl
 ·intro hg; apply aO; (refine aQ rfl rfl rfl rfl rfl (by decide) ?_); refine aD ?_; exact rfl
 ·exact rfl
 ·exact rfl
 apply aM (s := 26) rfl rfl rfl
 ·intro hg; apply aJ (s := 27) rfl (by (rw [hg]; rfl)); apply aO; (refine aL rfl rfl rfl rfl ?_); refine aD ?_; exact rfl
 ·exact rfl
 ·exact rfl
 apply aM (s := 26) rfl rfl rfl
 ·intro hg; apply aJ (s := 28) rfl (by (rw [hg]; rfl)); apply aO; (refine bq rfl rfl rfl ?_); refine aD ?_; exact rfl
 ·exact rfl
 ·exact rfl
 apply aM (s := 26) rfl rfl rfl
 ·intro hg; apply aJ (s := 29) rfl (by (rw [hg]; rfl)); apply aO; (refine av rfl rfl rfl ?_); refine aD ?_; exact rfl
 ·exact rfl
 ·exact rfl
 refine iS rfl rfl (gw rfl ?_)
 apply aM (s := 32) rfl rfl rfl
 ·intro hg; apply aO; (refine aQ rfl rfl rfl rfl rfl (by decide) ?_); refine aD ?_; exact rfl
 ·exact rfl
 ·exact rfl
 apply aM (s := 32) rfl rfl rfl
 ·intro hg; apply aJ (s := 33) rfl (by (rw [hg]; rfl)); apply aO; (refine aL rfl rfl rfl rfl ?_); refine aD ?_; exact rfl
 ·exact rfl
 ·exact rfl
 apply aM (s := 32) rfl rfl rfl
 ·intro hg; apply aO; (refine cx rfl ?_); refine aD ?_; exact rfl
 ·exact rfl
 ·exact rfl
 apply aM (s := 32) rfl rfl rfl
 ·intro hg; apply aJ (s := 34) rfl (by (rw [hg]; rfl)); apply aJ (s := 35) rfl (by (rw [hg]; rfl)); apply aO; (refine aq (qm f.bins (Ty.jh _ [Ty.pp (eT f)]) rfl (fun b => decide ((b.shares.length : Int) = f.bears.length)) rfl rfl fun b _ => dM (Ik f b) rfl rfl rfl rfl rfl rfl) rfl rfl rfl rfl rfl ?_); refine aD ?_; exact rfl
 ·exact rfl
 ·exact rfl
 apply aM (s := 32) rfl rfl rfl
 ·intro hg; apply aJ (s := 36) rfl (by (rw [hg]; rfl)); apply aO; (refine dK rfl ?_); refine aD ?_; exact rfl
 ·exact rfl
 ·exact rfl
 refine iS rfl rfl (dJ rfl (aD (aC ?_)))
 refine c8 rfl (fun hc1 => ?_) (fun hc1 => ?_)
 ·refine aF (aA (b8 rfl (aD (aC (au (af (aP (bT rfl rfl ?_))))))))
  all_goals skip
  exact bD rfl rfl (congrArg (Ty.int .i64) (by rw [hO, if_pos (show kF f = true from hc1)]))
 refine aF (aA ?_)
 refine aQ rfl rfl rfl rfl rfl (by decide) ?_
 refine aL rfl rfl rfl rfl ?_
 refine aq (jT f.bears (Ty.jh _ []) rfl (fun n => fG n 0 4000) rfl rfl fun n _ => dM (Mi n) rfl rfl rfl rfl rfl rfl) rfl rfl rfl rfl rfl ?_
 refine dK rfl (gw rfl ?_)
 apply aM (s := 44) rfl rfl rfl
 ·intro hg; apply aO; (refine aQ rfl rfl rfl rfl rfl (by decide) ?_); refine aD ?_; exact rfl
 ·exact rfl
 ·exact rfl
 apply aM (s := 44) rfl rfl rfl
 ·intro hg; apply aJ (s := 45) rfl (by (rw [hg]; rfl)); apply aO; (refine aL rfl rfl rfl rfl ?_); refine aD ?_; exact rfl
 ·exact rfl
 ·exact rfl
 apply aM (s := 44) rfl rfl rfl
 ·intro hg; apply aJ (s := 46) rfl (by (rw [hg]; rfl)); apply aO; (refine aq (qU f.turnings (Ty.jh _ []) rfl (fun t => fG t.sacks 1 300) rfl rfl fun t _ => dM (LM t) rfl rfl rfl rfl rfl rfl) rfl rfl rfl rfl rfl ?_); refine aD ?_; exact rfl
 ·exact rfl
 ·exact rfl
 apply aM (s := 44) rfl rfl rfl
 ·intro hg; apply aJ (s := 47) rfl (by (rw [hg]; rfl)); apply aO; (refine dK rfl ?_); refine aD ?_; exact rfl
 ·exact rfl
 ·exact rfl
 refine iS rfl rfl (dJ rfl (aD (aC ?_)))
 refine c8 rfl (fun hc2 => ?_) (fun hc2 => ?_)
 ·refine aF (aA (b8 rfl (aD (aC (au (af (aP (bT rfl rfl ?_))))))))
  all_goals skip
  exact bD rfl rfl (congrArg (Ty.int .i64) (by rw [hO, if_neg (uu (show kF f = false from hc1)), if_pos (show lA f = true from hc2)]))
 refine aF (aA ?_)
 refine aQ rfl rfl rfl rfl rfl (by decide) ?_
 refine aL rfl rfl rfl rfl ?_
 refine aq (qm f.bins (Ty.jh _ []) rfl (fun b => fG b.has 0 300 && b.shares.all fun n => fG n 0 4) rfl rfl fun b _ => dM (KP b) rfl rfl rfl rfl rfl rfl) rfl rfl rfl rfl rfl ?_
 refine dK rfl (dJ rfl (aD (aC ?_)))
 refine c8 rfl (fun hc3 => ?_) (fun hc3 => ?_)
 ·refine aF (aA (b8 rfl (aD (aC (au (af (aP (bT rfl rfl ?_))))))))
  all_goals skip
  exact bD rfl rfl (congrArg (Ty.int .i64) (by rw [hO, if_neg (uu (show kF f = false from hc1)), if_neg (uu (show lA f = false from hc2)), if_pos (show mV f = true from hc3)]))
 refine aF (aA ?_)
 refine aQ rfl rfl rfl rfl rfl (by decide) ?_
 refine aL rfl rfl rfl rfl (cx rfl ?_)
 refine aq (qU f.turnings (Ty.jh _ [Ty.pp (eT f)]) rfl (fun t => fG t.src (-1) (f.bins.length - 1) && fG t.dst (-1) (f.bins.length - 1)) rfl rfl fun t _ => dM (Mq f hs t) rfl rfl rfl rfl rfl rfl) rfl rfl rfl rfl rfl ?_
 refine dK rfl (gw rfl ?_)
 apply aM (s := 61) rfl rfl rfl
 ·intro hg; apply aO; (refine aQ rfl rfl rfl rfl rfl (by decide) ?_); refine aD ?_; exact rfl
 ·exact rfl
 ·exact rfl
 apply aM (s := 61) rfl rfl rfl
 ·intro hg; apply aJ (s := 62) rfl (by (rw [hg]; rfl)); apply aO; (refine aL rfl rfl rfl rfl ?_); refine aD ?_; exact rfl
 ·exact rfl
 ·exact rfl
 apply aM (s := 61) rfl rfl rfl
 ·intro hg; apply aO; (refine cx rfl ?_); refine aD ?_; exact rfl
 ·exact rfl
 ·exact rfl
 apply aM (s := 61) rfl rfl rfl
 ·intro hg; apply aJ (s := 63) rfl (by (rw [hg]; rfl)); apply aJ (s := 64) rfl (by (rw [hg]; rfl)); apply aO; (refine aq (D5 f.rules (Ty.jh _ [Ty.pp [Ty.Mx 96 [mB f]]]) rfl (fun r => fG r.fst 0 (f.turnings.length - 1) && fG r.nxt 0 (f.turnings.length - 1)) rfl rfl fun r _ => dM (KT f hs r) rfl rfl rfl rfl rfl rfl) rfl rfl rfl rfl rfl ?_); refine aD ?_; exact rfl
 ·exact rfl
 ·exact rfl
 apply aM (s := 61) rfl rfl rfl
 ·intro hg; apply aJ (s := 65) rfl (by (rw [hg]; rfl)); apply aO; (refine dK rfl ?_); refine aD ?_; exact rfl
 ·exact rfl
 ·exact rfl
 refine iS rfl rfl (dJ rfl (aD (aC ?_)))
 refine c8 rfl (fun hc4 => ?_) (fun hc4 => ?_)
 ·refine aF (aA (b8 rfl (aD (aC (au (af (aP (bT rfl rfl ?_))))))))
  all_goals skip
  exact bD rfl rfl (congrArg (Ty.int .i64) (by rw [hO, if_neg (uu (show kF f = false from hc1)), if_neg (uu (show lA f = false from hc2)), if_neg (uu (show mV f = false from hc3)), if_pos (show oO f = true from hc4)]))
 refine aF (aA ?_)
 refine aQ rfl rfl rfl rfl rfl (by decide) ?_
 refine aL rfl rfl rfl rfl ?_
 refine aq (qU f.turnings (Ty.jh _ []) rfl (fun t => !decide (t.src = t.dst)) rfl rfl fun t _ => dM (Lf t) rfl rfl rfl rfl rfl rfl) rfl rfl rfl rfl rfl ?_
 refine dK rfl (dJ rfl (aD (aC ?_)))
 refine c8 rfl (fun hc5 => ?_) (fun hc5 => ?_)
 ·refine aF (aA (b8 rfl (aD (aC (au (af (aP (bT rfl rfl ?_))))))))
  all_goals skip
  exact bD rfl rfl (congrArg (Ty.int .i64) (by rw [hO, if_neg (uu (show kF f = false from hc1)), if_neg (uu (show lA f = false from hc2)), if_neg (uu (show mV f = false from hc3)), if_neg (uu (show oO f = false from hc4)), if_pos (show sU f = true from hc5)]))
 refine aF ?_
 have hr : f.mD := uB hc1 hc2 hc3
 have hr4 := hr.bears
 refine aA ?_
 refine aQ rfl rfl rfl rfl rfl (by decide) ?_
 refine aL rfl rfl rfl rfl ?_
 refine aq (qm f.bins (Ty.jh _ []) rfl (fun b => decide (b.shares.sum = 4)) rfl rfl fun b hb => dM (Mj b (by have := hr.shares b hb; omega) (fun n hn => by have := hr.sharesR b hb n hn; omega)) rfl rfl rfl rfl rfl rfl) rfl rfl rfl rfl rfl ?_
 refine dK rfl (dJ rfl (aD (aC ?_)))
 refine c8 rfl (fun hc6 => ?_) (fun hc6 => ?_)
 ·refine aF (aA (b8 rfl (aD (aC (au (af (aP (bT rfl rfl ?_))))))))
  all_goals skip
  exact bD rfl rfl (congrArg (Ty.int .i64) (by rw [hO, if_neg (uu (show kF f = false from hc1)), if_neg (uu (show lA f = false from hc2)), if_neg (uu (show mV f = false from hc3)), if_neg (uu (show oO f = false from hc4)), if_neg (uu (show sU f = false from hc5)), if_pos (show qP f = true from hc6)]))
 refine ak (bJ (aC (aF (aF (aA ?_)))))
 refine aQ rfl rfl rfl rfl rfl (by decide) ?_
 refine aL rfl rfl rfl rfl (bq rfl rfl rfl (bP rfl (aD (aC (aY ?_)))))
 refine cI (fun (k : {k : Nat // ∀ j, j < k → decide (j5 f f.turnings j > (nth f.bins j).has) = false}) => live [(1, Ty.pp (eT f)), (79, Ty.sl n6 f.bins), (80, Ty.int .i64 f.bins.length), (81, Ty.int .i64 (k.1 : Nat))] []) (fun k => f.bins.length - k.1) (⟨0, fun j hj => absurd hj (Nat.not_lt_zero _)⟩) ?_ fun k => ?_
 ·(refine cr.mk' ?_ ?_ <;> (repeat' (first | exact aH | exact aI | refine aB ?_ (Ty.aS _) | refine aB ?_ (Ty.aG _))))
 refine aF (aA (av rfl rfl rfl (aD (aC (aF ?_)))))
 refine aj rfl (fun hc7 => ?_) (fun hc7 => ?_)
 ·refine ak (aC (aF (aY (aF (aA (bP rfl ?_))))))
  refine bC rfl rfl rfl rfl rfl rfl (by omega) ?_
  refine aa rfl rfl rfl (by exact Nat.le_of_ble_eq_true rfl) ?_
  refine bX rfl (by exact List.cons_ne_nil _ _) rfl ?_
  refine b8 rfl ?_
  refine bW rfl rfl (by decide) rfl rfl rfl rfl rfl rfl ?_
  refine aD (aC (aF (cq mixed rfl ?_)))
  refine aa rfl rfl rfl (by exact Nat.le_of_ble_eq_true rfl) ?_
  refine bP rfl (aq (L5 f hs hr _) rfl rfl rfl rfl rfl ?_)
  refine aR rfl rfl rfl rfl rfl (by decide) ?_
  refine aU rfl rfl (by decide) rfl rfl rfl ?_
  refine av rfl rfl rfl (aD ?_)
  refine ⟨by kernel_rfl, ?_⟩
  refine aC ?_
  refine aj rfl (fun hc8 => ?_) (fun hc8 => ?_)
  ·refine aF (aA (b8 rfl (aD (aC (au (af (aP (aP (af (aP (bT rfl rfl ?_)))))))))))
   all_goals skip
   exact bD rfl rfl (congrArg (Ty.int .i64) (by rw [hO, if_neg (uu (show kF f = false from hc1)), if_neg (uu (show lA f = false from hc2)), if_neg (uu (show mV f = false from hc3)), if_neg (uu (show oO f = false from hc4)), if_neg (uu (show sU f = false from hc5)), if_neg (uu (show qP f = false from hc6)), if_pos (show wE f = true from EG (k := k.1) (by omega) (by rw [Int.toNat_natCast]; exact decide_eq_true hc8))]))
  refine ak (bJ (aC (aA ?_)))
  refine cD rfl rfl (by omega) (by omega) ?_
  refine bP rfl (aD ?_)
  refine bS (⟨k.1 + 1, P6 k.2 (decide_eq_false hc8)⟩) ?_ (by show f.bins.length - (k.1 + 1) < f.bins.length - k.1; omega)
  (refine cr.mk' ?_ ?_ <;> (repeat' (first | exact aH | exact aI | refine aB ?_ (Ty.aS _) | refine aB ?_ (Ty.aG _))))
  all_goals skip
 refine b9 (aN (aN (aZ rfl (aC (aF (aA (b8 rfl (aD (aC (au (bT rfl rfl ?_)))))))))))
 all_goals skip
 exact bD rfl rfl (congrArg (Ty.int .i64) (by rw [hO, if_neg (uu (show kF f = false from hc1)), if_neg (uu (show lA f = false from hc2)), if_neg (uu (show mV f = false from hc3)), if_neg (uu (show oO f = false from hc4)), if_neg (uu (show sU f = false from hc5)), if_neg (uu (show qP f = false from hc6)), if_neg (uu (show wE f = false from DW fun j hj => by rw [Int.toNat_natCast]; exact k.2 j (by omega)))]))
end Go.Proofs.YtmmcenjknimhbaaGreat
namespace Go.Proofs.YtmmcenjknimhbaaGreat
open Go Go.T Go.RowKit
theorem PN : Tryz.prog.underlying 157 = some (.array 8 3) := by kernel_rfl
theorem Pf (a0 a1 a2 a3 a4 a5 a6 a7 b0 b1 b2 b3 b4 b5 b6 b7 : Int) (w : World) : (Op.equal 157 (.agg #[.int .i64 a0, .int .i64 a1, .int .i64 a2, .int .i64 a3, .int .i64 a4, .int .i64 a5, .int .i64 a6, .int .i64 a7]) (.agg #[.int .i64 b0, .int .i64 b1, .int .i64 b2, .int .i64 b3, .int .i64 b4, .int .i64 b5, .int .i64 b6, .int .i64 b7])).run Tryz.prog w = .ok ((decide (a0 = b0) && (decide (a1 = b1) && (decide (a2 = b2) && (decide (a3 = b3) && (decide (a4 = b4) && (decide (a5 = b5) && (decide (a6 = b6) && decide (a7 = b7))))))))) w := by
 have hs : Tryz.prog.stoodInHeld 157 = false := by kernel_rfl
 have e3 : ∀ (x y : Int) (w : World), (Op.equalIn 9999 3 (.int .i64 x) (.int .i64 y)).run Tryz.prog w = .ok (decide (x = y)) w := fun x y w => yz 9998 Tryz.underlying3
 have g3 : ∀ w, (isAgg 3).run Tryz.prog w = .ok false w := fun w => by simp [isAgg, run_underlying Tryz.underlying3]
 unfold Op.equal Op.maxDepth
 rw [Op.equalIn]
 simp only [Sem.run_bind, run_underlying PN, Result.andThen_ok]
 simp [hs, part, g3, e3]
 rw [show List.range' 0 8 = [0, 1, 2, 3, 4, 5, 6, 7] from rfl]
 simp [List.forIn_cons, g3, e3]
 by_cases h0 : a0 = b0
 case neg => simp [h0]
 rw [if_pos h0]
 by_cases h1 : a1 = b1
 case neg => simp [h1]
 rw [if_pos h1]
 by_cases h2 : a2 = b2
 case neg => simp [h2]
 rw [if_pos h2]
 by_cases h3 : a3 = b3
 case neg => simp [h3]
 rw [if_pos h3]
 by_cases h4 : a4 = b4
 case neg => simp [h4]
 rw [if_pos h4]
 by_cases h5 : a5 = b5
 case neg => simp [h5]
 rw [if_pos h5]
 by_cases h6 : a6 = b6
 case neg => simp [h6]
 rw [if_pos h6]
 by_cases h7 : a7 = b7
 case neg => simp [h7]
 rw [if_pos h7]
 simp [h0, h1, h2, h3, h4, h5, h6, h7]
theorem PF (xs ys : List Nat) (hx : xs.length = 8) (hy : ys.length = 8) : QI Tryz.prog 157 (xs.flatMap xS.tys) (ys.flatMap xS.tys) (decide (xs = ys)) := by
  match xs, hx with
  | [a0, a1, a2, a3, a4, a5, a6, a7], _ =>
    match ys, hy with
    | [b0, b1, b2, b3, b4, b5, b6, b7], _ =>
      refine ⟨by kernel_rfl, fun w M cs ds h1 h2 => ?_⟩
      obtain ⟨cs⟩ := cs
      obtain ⟨ds⟩ := ds
      match cs, ds, h1, h2 with
      | [ua0, ua1, ua2, ua3, ua4, ua5, ua6, ua7], [vb0, vb1, vb2, vb3, vb4, vb5, vb6, vb7], h1, h2 =>
        change bt w M [Ty.int .i64 a0, Ty.int .i64 a1, Ty.int .i64 a2, Ty.int .i64 a3, Ty.int .i64 a4, Ty.int .i64 a5, Ty.int .i64 a6, Ty.int .i64 a7] _ at h1
        change bt w M [Ty.int .i64 b0, Ty.int .i64 b1, Ty.int .i64 b2, Ty.int .i64 b3, Ty.int .i64 b4, Ty.int .i64 b5, Ty.int .i64 b6, Ty.int .i64 b7] _ at h2
        simp only [bt, Ty.int, fL, and_true] at h1 h2
        obtain ⟨rfl, rfl, rfl, rfl, rfl, rfl, rfl, rfl⟩ := h1
        obtain ⟨rfl, rfl, rfl, rfl, rfl, rfl, rfl, rfl⟩ := h2
        rw [Pf]
        congr 1
        simp only [List.cons.injEq, and_true, Bool.decide_and, Int.natCast_inj]
end Go.Proofs.YtmmcenjknimhbaaGreat
namespace Go.Proofs.YtmmcenjknimhbaaGreat
open Go Go.T
attribute [local irreducible] fL dg lG nG fZ gA fy fm ff nB gB m6 cw fA m4 ew nM nth eU cm aV cy bodyPost Exit.then Exit.inBlock Code.wp Code.wpIn fI ry rq rY iY sB rZ iV sA e9 gr p8 cT cO bodyPostM dW
set_option maxRecDepth 100000 in
theorem Hf (f : cG) (hs : f.Small) (hf : f.iQ) : cy Tryz.prog 112 [mB f] (Ty.arr xS (gQ f)) := by
 refine aX Tryz.func112 rfl (by decide) Tryz.ntmps112 (by exact Nat.le_of_ble_eq_true rfl) fun w0 M0 => ?_
 have hs1 := hs.bears; have hs2 := hs.bins; have hs3 := hs.turnings; have hs4 := hs.rules
 refine aF (aA (az rfl ?_))
 refine bX rfl (by exact List.cons_ne_nil _ _) rfl ?_
 refine aD (aC (aF (aA ?_)))
 refine MB (E := xS) (xs := List.replicate 8 0) rfl (by exact List.cons_ne_nil _ _) rfl rfl ?_
 refine aD (aC (aY ?_))
 refine cI (fun (x : {x : Nat × List Nat // lD f x.1 x.2 = gQ f ∧ Sets x.2 ∧ 2040 < x.1 + x.2.sum}) => live [(1, Ty.pp (eT f)), (2, Ty.ptr 3 0), (3, Ty.ptr 4 0)] [(3, Cont.cells 157 [Ty.int .i64 0, Ty.int .i64 0, Ty.int .i64 0, Ty.int .i64 0, Ty.int .i64 0, Ty.int .i64 0, Ty.int .i64 0, Ty.int .i64 0]), (4, Cont.vec xS 157 x.1.2)]) (fun x => x.1.1) (⟨(2041, List.replicate 8 0), rfl, sw, by decide⟩) ?_ fun x => ?_
 ·(refine cr.mk' ?_ ?_ <;> (repeat' (first | exact aH | exact aI | refine aB ?_ (Ty.aS _) | refine aB ?_ (Ty.aG _) | refine aK rfl (Cont.aG _) ?_)))
 obtain ⟨hx1, hx2, hx3⟩ := x.2
 have hxl := hx2.len
 refine aY (aF (aA ?_))
 refine kZ rfl rfl (by decide) rfl rfl (by rw [hxl]; rfl) (fun e => by rw [e] at hxl; cases hxl) ?_
 refine bX rfl (by exact List.cons_ne_nil _ _) rfl ?_
 refine jL rfl rfl (by decide) rfl rfl (by rw [hxl]; rfl) rfl ?_
 refine aD (aC (aF (aF (aA ?_))))
 refine aQ rfl rfl rfl rfl rfl (by decide) ?_
 refine aL rfl rfl rfl rfl (bq rfl rfl rfl (bP rfl (aD (aC (aY ?_)))))
 refine cI (fun (k : Nat) => live [(1, Ty.pp (eT f)), (2, Ty.ptr 3 0), (3, Ty.ptr 4 0), (4, Ty.ptr 5 0), (9, Ty.sl xM f.rules), (10, Ty.int .i64 f.rules.length), (11, Ty.int .i64 (k : Nat))] [(3, Cont.cells 157 [Ty.int .i64 0, Ty.int .i64 0, Ty.int .i64 0, Ty.int .i64 0, Ty.int .i64 0, Ty.int .i64 0, Ty.int .i64 0, Ty.int .i64 0]), (4, Cont.vec xS 157 ((f.rules.take k).foldl fE x.1.2)), (5, Cont.vec xS 157 x.1.2)]) (fun k => f.rules.length - k) (0) ?_ fun k => ?_
 ·(refine cr.mk' ?_ ?_ <;> (repeat' (first | exact aH | exact aI | refine aB ?_ (Ty.aS _) | refine aB ?_ (Ty.aG _) | refine aK rfl (Cont.aG _) ?_)))
 refine aF (aA (av rfl rfl rfl (aD (aC (aF ?_)))))
 refine aj rfl (fun hc1 => ?_) (fun hc1 => ?_)
 ·refine ak (aC (aF (aY (aF (aA ?_)))))
  refine bC rfl rfl rfl rfl rfl rfl (by omega) ?_
  refine aa rfl rfl rfl (by exact Nat.le_of_ble_eq_true rfl) ?_
  refine bX rfl (by exact List.cons_ne_nil _ _) rfl ?_
  refine bW rfl rfl (by decide) rfl rfl rfl rfl rfl rfl ?_
  refine aD (aC ?_)
  have hrk := hf.2 _ (bh (xs := f.rules) (k := k) (by omega))
  have h8 := hf.1
  have hsk := (lg (f.rules.take k) x.1.2 hx2 fun r hr => sV hf r (List.mem_of_mem_take hr)).1
  have hlk := hsk.len
  have hb1 := hsk.nth (nth f.rules k).nxt.toNat
  have hb2 := hsk.nth (nth f.rules k).fst.toNat
  have hsh : 1 <<< (nth f.rules k).fst.toNat < 256 := by rw [Nat.shiftLeft_eq, Nat.one_mul]; exact (Nat.pow_lt_pow_right (by decide) (show (nth f.rules k).fst.toNat < 8 by omega) : 2 ^ _ < 2 ^ 8)
  have hor : nth ((f.rules.take k).foldl fE x.1.2) (nth f.rules k).fst.toNat ||| 1 <<< (nth f.rules k).fst.toNat < 256 := Nat.or_lt_two_pow (n := 8) hb2 hsh
  refine cq mixed rfl ?_
  refine aR rfl rfl rfl rfl rfl (by decide) ?_
  refine aU rfl rfl (by decide) rfl rfl rfl ?_
  refine jX (n := 8) rfl rfl rfl rfl rfl (by omega) (by omega) ?_
  refine ko rfl rfl rfl (by decide) rfl rfl (by omega) rfl ?_
  refine aR rfl rfl rfl rfl rfl (by decide) ?_
  refine aU rfl rfl (by decide) rfl rfl rfl ?_
  refine jX (n := 8) rfl rfl rfl rfl rfl (by omega) (by omega) ?_
  refine ko rfl rfl rfl (by decide) rfl rfl (by omega) rfl ?_
  refine aR rfl rfl rfl rfl rfl (by decide) ?_
  refine aU rfl rfl (by decide) rfl rfl rfl ?_
  refine Lj (a := 1) rfl rfl (by omega) (by omega) (C8 (by omega)) ?_
  refine Kz rfl rfl (by omega) (Nat.lt_trans hsh (by decide)) ?_
  refine Kz rfl rfl (by omega) (Nat.lt_trans hor (by decide)) ?_
  refine jX (n := 8) rfl rfl rfl rfl rfl (by omega) (by omega) ?_
  refine uS (z := nth ((f.rules.take k).foldl fE x.1.2) (nth f.rules k).nxt.toNat ||| (nth ((f.rules.take k).foldl fE x.1.2) (nth f.rules k).fst.toNat ||| 1 <<< (nth f.rules k).fst.toNat)) rfl rfl rfl (by decide) rfl rfl (by exact (rfl : _ = Ty.int _ _)) rfl (by omega) (by decide) rfl rfl ?_
  refine aD ?_
  refine ⟨by kernel_rfl, ?_⟩
  refine bJ (aC (aA ?_))
  refine cD rfl rfl (by omega) (by omega) ?_
  refine bP rfl (aD ?_)
  refine bS (k + 1) ?_ (by omega)
  (refine cr.mk' ?_ ?_ <;> (repeat' (first | exact aH | exact aI | refine aB ?_ (Ty.aS _) | refine aB ?_ (Ty.aG _) | refine aK rfl (Cont.aG _) ?_ | refine aK rfl ?_ ?_)))
  all_goals skip
  exact Cont.iM (by rw [cE (by omega), List.foldl_append]; rfl)
 refine b9 (aN (aN (aZ rfl (aC (aF ?_)))))
 have hsk := (lg (f.rules.take k) x.1.2 hx2 fun r hr => sV hf r (List.mem_of_mem_take hr)).1
 have hlk := hsk.len
 refine aA ?_
 refine kZ rfl rfl (by decide) rfl rfl (by rw [hlk]; rfl) (fun e => by rw [e] at hlk; cases hlk) ?_
 refine kZ rfl rfl (by decide) rfl rfl (by rw [hxl]; rfl) (fun e => by rw [e] at hxl; cases hxl) ?_
 refine PY (PF _ _ hlk hxl) rfl rfl (aD (aC ?_))
 refine aj rfl (fun hc2 => ?_) (fun hc2 => ?_)
 ·refine aF (aA ?_)
  refine kZ rfl rfl (by decide) rfl rfl (by rw [hlk]; rfl) (fun e => by rw [e] at hlk; cases hlk) ?_
  refine jL rfl rfl (by decide) rfl rfl (by rw [hlk]; rfl) rfl ?_
  refine aD (aC (au (af (aP (af ?_)))))
  refine w6 (hc2.trans ((MS hx2 hx3 (by have h := hc2; rw [List.take_of_length_le (by omega)] at h; exact h)).symm.trans hx1)) rfl rfl rfl rfl (by decide) rfl rfl (by rw [hlk]; rfl) (fun e => by rw [e] at hlk; cases hlk)
 refine ak (bJ ?_)
 refine bS (⟨(x.1.1 - 1, k9 f x.1.2), by obtain ⟨m, e1, e2, e3, e4⟩ := BV hf hx2 hx3 (fun e => hc2 (by rw [List.take_of_length_le (by omega)]; exact e)); exact ⟨by show lD f (x.1.1 - 1) _ = _; rw [show x.1.1 - 1 = m by omega, ← e2]; exact hx1, e3, by show 2040 < x.1.1 - 1 + (k9 f x.1.2).sum; omega⟩⟩) ?_ (by show x.1.1 - 1 < x.1.1; have := tY hx2; omega)
 (refine cr.mk' ?_ ?_ <;> (repeat' (first | exact aH | exact aI | refine aB ?_ (Ty.aS _) | refine aB ?_ (Ty.aG _) | refine aK rfl (Cont.aG _) ?_ | refine aK rfl ?_ ?_)))
 all_goals skip
 exact Cont.iM (congrArg (fun l => l.foldl fE x.1.2) (List.take_of_length_le (by omega)))
end Go.Proofs.YtmmcenjknimhbaaGreat
namespace Go.Proofs.YtmmcenjknimhbaaGreat
open Go Go.T
attribute [local irreducible] fL dg lG nG fZ gA fy fm ff nB gB m6 cw fA m4 ew nM nth eU cm aV cy bodyPost Exit.then Exit.inBlock Code.wp Code.wpIn fI ry rq rY iY sB rZ iV sA e9 gr p8 cT cO bodyPostM dW
set_option maxRecDepth 100000 in
theorem yR (f : cG) (hs : f.Small) : cy Tryz.prog 111 [mB f] (Ty.int .i64 (cA f)) := by
 refine aX Tryz.func111 rfl (by decide) Tryz.ntmps111 (by exact Nat.le_of_ble_eq_true rfl) fun w0 M0 => ?_
 have hs1 := hs.bears; have hs2 := hs.bins; have hs3 := hs.turnings; have hs4 := hs.rules
 refine aF (aA (az rfl (b8 rfl (aD (aC (aF (aF (aA ?_))))))))
 refine aa rfl rfl rfl (by exact Nat.le_of_ble_eq_true rfl) ?_
 refine aq (M6 f hs) rfl rfl rfl rfl rfl (b8 rfl (aD (aC (aF (aA (bP rfl (av rfl rfl rfl (aD (aC ?_)))))))))
 refine dB rfl (fun hc1 => ?_) (fun hc1 => ?_)
 ·refine aF (aA (bP rfl (b8 rfl (aD (aC (au (aP (bT rfl rfl ?_))))))))
  all_goals skip
  exact bD rfl rfl (congrArg (Ty.int .i64) (by rw [cA, if_pos hc1]))
 refine ak (aC (aF (aF ?_)))
 have h0 : hO f = 0 := hc1
 have hf := (qL h0).ruled
 have hsa := kC hf
 have hla := hsa.len
 refine aA ?_
 refine aa rfl rfl rfl (by exact Nat.le_of_ble_eq_true rfl) ?_
 refine aq (Hf f hs hf) rfl rfl rfl rfl rfl (bP rfl (aD (aC (aY ?_))))
 refine cI (fun (k : {k : Nat // k ≤ 8 ∧ ∀ j, j < k → (nth (gQ f) j).testBit j = false}) => live [(12, Ty.arr xS (gQ f)), (13, Ty.int .i64 (k.1 : Nat))] []) (fun k => 8 - k.1) (⟨0, by omega, fun j hj => absurd hj (Nat.not_lt_zero _)⟩) ?_ fun k => ?_
 ·(refine cr.mk' ?_ ?_ <;> (repeat' (first | exact aH | exact aI | refine aB ?_ (Ty.aS _) | refine aB ?_ (Ty.aG _))))
 have hk := k.2.1
 refine aF (aA (av rfl rfl rfl (aD (aC (aF ?_)))))
 refine aj rfl (fun hc2 => ?_) (fun hc2 => ?_)
 ·refine ak (aC (aF (aY (aF ?_))))
  have hnk := hsa.nth k.1
  refine aA (bP rfl ?_)
  refine L4 (n := 8) rfl rfl rfl rfl rfl rfl rfl (by omega) (by omega) rfl ?_
  refine b8 rfl (b8 rfl (aD (aC (aF ?_))))
  have hsh := Nat.shiftRight_le (nth (gQ f) k.1) k.1
  refine aA (bP rfl (bP rfl ?_))
  refine CL rfl rfl (by omega) ?_
  refine Ft (b := 1) rfl rfl (by omega) (by omega) ?_
  refine av rfl rfl rfl (aD (aC ?_))
  refine aj rfl (fun hc3 => ?_) (fun hc3 => ?_)
  ·refine aF (aA (b8 rfl (aD (aC (au (af (aP (aP (af (aP (bT rfl rfl ?_)))))))))))
   all_goals skip
   exact bD rfl rfl (congrArg (Ty.int .i64) (by rw [cA, if_neg (fun h => h h0), if_pos]; exact List.any_eq_true.2 ⟨k.1, List.mem_range.2 (by omega), (rL _ _).1 (by omega)⟩))
  refine ak (bJ (aC (aA ?_)))
  refine cD rfl rfl (by omega) (by omega) ?_
  refine bP rfl (aD ?_)
  refine bS (⟨k.1 + 1, by omega, fun j hj => (Nat.lt_or_ge j k.1).elim (k.2.2 j) fun h => by rw [show j = k.1 by omega]; exact Bool.eq_false_iff.2 fun h1 => hc3 (by have := (rL (nth (gQ f) k.1) k.1).2 h1; omega)⟩) ?_ (by show 8 - (k.1 + 1) < 8 - k.1; have := k.2.1; omega)
  (refine cr.mk' ?_ ?_ <;> (repeat' (first | exact aH | exact aI | refine aB ?_ (Ty.aS _) | refine aB ?_ (Ty.aG _))))
  all_goals skip
 refine b9 (aN (aN (aZ rfl (aC (aF (aA (b8 rfl (aD (aC (au (bT rfl rfl ?_)))))))))))
 all_goals skip
 exact bD rfl rfl (congrArg (Ty.int .i64) (by rw [cA, if_neg (fun h => h h0), if_neg]; intro hb; obtain ⟨j, hj, hb⟩ := List.any_eq_true.1 hb; have := List.mem_range.1 hj; rw [k.2.2 j (by omega)] at hb; cases hb))
set_option maxRecDepth 100000 in
theorem Gj (f : cG) (hs : f.Small) (b : Bool) (he : cA f ≠ 0) : cy Tryz.prog 54 [mB f, Ty.bool b] (Ty.jk [Ty.ex (.pointer none), Ty.int .i64 (cA f)]) := by
 refine aX Tryz.func54 rfl (by decide) Tryz.ntmps54 (by exact Nat.le_of_ble_eq_true rfl) fun w0 M0 => ?_
 have hs1 := hs.bears; have hs2 := hs.bins; have hs3 := hs.turnings; have hs4 := hs.rules
 refine aF (aA (az rfl (iT rfl (b8 rfl (aD (aC (aF (aF (aA ?_)))))))))
 refine aa rfl rfl rfl (by exact Nat.le_of_ble_eq_true rfl) ?_
 refine aq (yR f hs) rfl rfl rfl rfl rfl (b8 rfl (aD (aC (aF (aA (bP rfl (av rfl rfl rfl (aD (aC ?_)))))))))
 refine lX rfl (by rw [decide_eq_false he]; rfl) ?_
 refine aF (aA (bP rfl (iT rfl (b8 rfl (aD (aC (au (aP ?_))))))))
 refine gG rfl rfl rfl ?_ ?_
 all_goals exact bQ rfl rfl
 skip
set_option maxRecDepth 100000 in
theorem Gc (f : cG) (hs : f.Small) (h0 : cA f = 0) : cy Tryz.prog 54 [mB f, Ty.bool true] (Ty.jk [Ty.ex (.pointer none), Ty.int .i64 1]) := by
 refine aX Tryz.func54 rfl (by decide) Tryz.ntmps54 (by exact Nat.le_of_ble_eq_true rfl) fun w0 M0 => ?_
 have hs1 := hs.bears; have hs2 := hs.bins; have hs3 := hs.turnings; have hs4 := hs.rules
 refine aF (aA (az rfl (iT rfl (b8 rfl (aD (aC (aF (aF (aA ?_)))))))))
 refine aa rfl rfl rfl (by exact Nat.le_of_ble_eq_true rfl) ?_
 refine aq (yR f hs) rfl rfl rfl rfl rfl (b8 rfl (aD (aC (aF (aA (bP rfl (av rfl rfl rfl (aD (aC ?_)))))))))
 refine dh rfl (by rw [h0]; rfl) ?_
 refine ak (aC (aF (aF (aA (gw rfl (aD (aC (lX rfl (rfl) (aF (aA (iT rfl (b8 rfl (aD (aC (au ?_)))))))))))))))
 refine aP ?_
 refine gG rfl rfl rfl ?_ ?_
 all_goals exact bQ rfl rfl
set_option maxRecDepth 100000 in
theorem M9 (f : cG) (hs : f.Small) (h0 : cA f = 0) : cy Tryz.prog 54 [mB f, Ty.bool false] (Ty.jk [Ty.pe iH (RJ f (cK h0).ruled) 0, Ty.int .i64 0]) := by
 refine aX Tryz.func54 rfl (by decide) Tryz.ntmps54 (by exact Nat.le_of_ble_eq_true rfl) fun w0 M0 => ?_
 have hs1 := hs.bears; have hs2 := hs.bins; have hs3 := hs.turnings; have hs4 := hs.rules
 have hr := (cK h0).ranged
 have hn := (cK h0).named
 have hf := (cK h0).ruled
 have hb4 := hr.bears
 have hr8 := hr.turnings
 have hr6 := hr.bins
 refine aF (aA (az rfl (iT rfl (b8 rfl (aD (aC (aF (aF (aA ?_)))))))))
 refine aa rfl rfl rfl (by exact Nat.le_of_ble_eq_true rfl) ?_
 refine aq (yR f hs) rfl rfl rfl rfl rfl (b8 rfl (aD (aC (aF (aA (bP rfl (av rfl rfl rfl (aD (aC ?_)))))))))
 refine dh rfl (by rw [h0]; rfl) ?_
 refine ak (aC (aF (aF (aA (gw rfl (aD (aC (dh rfl (rfl) (ak (aC (aF (cq mixed rfl ?_))))))))))))
 refine aa rfl rfl rfl (by exact Nat.le_of_ble_eq_true rfl) ?_
 refine aa rfl rfl rfl (by exact Nat.le_of_ble_eq_true rfl) ?_
 refine aq (Hf f hs hf) rfl rfl rfl rfl rfl ?_
 refine D3 iH (DU f hf 0 0 0) rfl rfl (by exact List.cons_ne_nil _ _) rfl (by repeat (first | exact (aT.nil : aT _ _ [] _) | (show aT _ _ ((_, _) :: _) _; apply aT.agg; (· exact (rfl : _ = Ty.agg _))) | (show aT _ _ ((_, _) :: _) _; apply aT.arr; (· exact (rfl : _ = Ty.arr _ _))))) (Ki f hf _ rfl rfl) ?_
 refine FV (E := iH) (DU f hf 0 0 0) rfl rfl ?_
 refine RZ rfl (aD ?_)
 refine ⟨by kernel_rfl, ?_⟩
 refine aC (aF (aF (aA ?_)))
 refine aQ rfl rfl rfl rfl rfl (by decide) ?_
 refine aL rfl rfl rfl rfl (bq rfl rfl rfl (bP rfl (aD (aC (aY ?_)))))
 refine cI (fun (k : {k : Nat // k ≤ f.bears.length}) => live [(2, Ty.pp (eT f)), (7, Ty.ptr 24 0), (26, Ty.int .i64 f.bears.length), (27, Ty.int .i64 (k.1 : Nat))] [(24, Cont.vec iH 160 [DU f hf k.1 0 0])]) (fun k => f.bears.length - k.1) (⟨0, by omega⟩) ?_ fun k => ?_
 ·(refine cr.mk' ?_ ?_ <;> (repeat' (first | exact aH | exact aI | refine aB ?_ (Ty.aS _) | refine aB ?_ (Ty.aG _) | refine aK rfl (Cont.aG _) ?_)))
 refine aF (aA (av rfl rfl rfl (aD (aC (aF ?_)))))
 refine aj rfl (fun hc3 => ?_) (fun hc3 => ?_)
 ·refine ak (aC (aF (aY (aF (aA (bP rfl (b8 rfl (aD (aC (aF (aF (aA ?_))))))))))))
  refine aQ rfl rfl rfl rfl rfl (by decide) ?_
  refine aL rfl rfl rfl rfl (bq rfl rfl rfl (bP rfl (aD (aC (aY ?_)))))
  refine cI (fun (q : {q : Nat // q ≤ f.bins.length}) => live [(2, Ty.pp (eT f)), (7, Ty.ptr 24 0), (8, Ty.int .i64 (k.1 : Nat)), (26, Ty.int .i64 f.bears.length), (27, Ty.int .i64 (k.1 : Nat)), (31, Ty.sl n6 f.bins), (32, Ty.int .i64 f.bins.length), (33, Ty.int .i64 (q.1 : Nat))] [(24, Cont.vec iH 160 [DU f hf k.1 q.1 0])]) (fun q => f.bins.length - q.1) (⟨0, by omega⟩) ?_ fun q => ?_
  ·(refine cr.mk' ?_ ?_ <;> (repeat' (first | exact aH | exact aI | refine aB ?_ (Ty.aS _) | refine aB ?_ (Ty.aG _) | refine aK rfl (Cont.aG _) ?_)))
  refine aF (aA (av rfl rfl rfl (aD (aC (aF ?_)))))
  refine aj rfl (fun hc4 => ?_) (fun hc4 => ?_)
  ·refine ak (aC (aF (aY (aF (aA ?_)))))
   refine bC rfl rfl rfl rfl rfl rfl (by omega) ?_
   refine aa rfl rfl rfl (by exact Nat.le_of_ble_eq_true rfl) ?_
   refine bX rfl (by exact List.cons_ne_nil _ _) rfl ?_
   refine bW rfl rfl (by decide) rfl rfl rfl rfl rfl rfl ?_
   refine aD (aC ?_)
   have hsh := hr.shares _ (bh (xs := f.bins) (k := q.1) (by omega))
   have hm := Qi (hr.hasR _ (bh (xs := f.bins) (k := q.1) (by omega))) (qX hr (i := q.1) (b := k.1) (by omega))
   have hfb := lI hr k.1 q.1 (by omega)
   refine cq mixed rfl (uJ rfl (bP rfl (cX rfl ?_)))
   refine aR rfl rfl rfl rfl rfl (by decide) ?_
   refine fq rfl rfl rfl rfl rfl (by omega) ?_
   refine JP rfl rfl (by decide) rfl rfl (AU (by omega)) ?_
   refine aR rfl rfl rfl rfl rfl (by decide) ?_
   refine aU rfl rfl (by decide) rfl rfl rfl ?_
   refine aR rfl rfl rfl rfl rfl (by decide) ?_
   refine aU rfl rfl (by decide) rfl rfl rfl ?_
   refine bP rfl ?_
   refine bC rfl rfl rfl rfl rfl rfl (by omega) ?_
   refine aL rfl rfl rfl rfl ?_
   refine KN rfl rfl (by omega) (by omega) ?_
   refine cD rfl rfl (by omega) (by omega) ?_
   refine cX rfl ?_
   refine aR rfl rfl rfl rfl rfl (by decide) ?_
   refine fq rfl rfl rfl rfl rfl (by omega) ?_
   refine s8 (z := DU f hf k.1 (q.1 + 1) 0) rfl rfl (by decide) rfl rfl (by exact (rfl : _ = Ty.int _ _)) rfl (show 0 + 44 + k.1 * 1 < 48 by omega) rfl (Co (by omega) (by omega)) ?_
   refine aD ?_
   refine ⟨by kernel_rfl, ?_⟩
   refine bJ (aC (aA ?_))
   refine cD rfl rfl (by omega) (by omega) ?_
   refine bP rfl (aD ?_)
   refine bS (⟨q.1 + 1, by omega⟩) ?_ (by show f.bins.length - (q.1 + 1) < f.bins.length - q.1; omega)
   (refine cr.mk' ?_ ?_ <;> (repeat' (first | exact aH | exact aI | refine aB ?_ (Ty.aS _) | refine aB ?_ (Ty.aG _) | refine aK rfl (Cont.aG _) ?_)))
   all_goals skip
  refine b9 (aN (aN (aZ rfl (aC (aF (aA ?_))))))
  refine aQ rfl rfl rfl rfl rfl (by decide) ?_
  refine aL rfl rfl rfl rfl (bq rfl rfl rfl (bP rfl (aD (aC (aY ?_)))))
  refine cI (fun (a : {a : Nat // a ≤ f.turnings.length}) => live [(2, Ty.pp (eT f)), (7, Ty.ptr 24 0), (8, Ty.int .i64 (k.1 : Nat)), (26, Ty.int .i64 f.bears.length), (27, Ty.int .i64 (k.1 : Nat)), (57, Ty.sl rP f.turnings), (58, Ty.int .i64 f.turnings.length), (59, Ty.int .i64 (a.1 : Nat))] [(24, Cont.vec iH 160 [DU f hf k.1 q.1 a.1])]) (fun a => f.turnings.length - a.1) (⟨0, by omega⟩) ?_ fun a => ?_
  ·(refine cr.mk' ?_ ?_ <;> (repeat' (first | exact aH | exact aI | refine aB ?_ (Ty.aS _) | refine aB ?_ (Ty.aG _) | refine aK rfl (Cont.aG _) ?_)))
  refine aF (aA (av rfl rfl rfl (aD (aC (aF ?_)))))
  refine aj rfl (fun hc5 => ?_) (fun hc5 => ?_)
  ·refine ak (aC (aF (aY (aF (aA (bP rfl ?_))))))
   refine bC rfl rfl rfl rfl rfl rfl (by omega) ?_
   refine aa rfl rfl rfl (by exact Nat.le_of_ble_eq_true rfl) ?_
   refine bX rfl (by exact List.cons_ne_nil _ _) rfl ?_
   refine b8 rfl ?_
   refine bW rfl rfl (by decide) rfl rfl rfl rfl rfl rfl ?_
   refine aD (aC ?_)
   have hna := hn _ (bh (xs := f.turnings) (k := a.1) (by omega))
   have h1 := lJ hr hna.1 k.1
   have h2 := lJ hr hna.2 k.1
   have h3 := zD hr hn (t := a.1) (by omega) k.1
   unfold gU at h1 h2
   unfold oM gU at h3
   refine cq mixed rfl (uJ rfl (bP rfl (bP rfl ?_)))
   refine aR rfl rfl rfl rfl rfl (by decide) ?_
   refine aU rfl rfl (by decide) rfl rfl rfl ?_
   refine aa rfl rfl rfl (by exact Nat.le_of_ble_eq_true rfl) ?_
   refine aR rfl rfl rfl rfl rfl (by decide) ?_
   refine aU rfl rfl (by decide) rfl rfl rfl ?_
   refine bP rfl ?_
   refine aq (HV f hs hr _ k.1 hna.2 (by omega)) rfl rfl rfl rfl rfl ?_
   refine aa rfl rfl rfl (by exact Nat.le_of_ble_eq_true rfl) ?_
   refine aR rfl rfl rfl rfl rfl (by decide) ?_
   refine aU rfl rfl (by decide) rfl rfl rfl ?_
   refine bP rfl ?_
   refine aq (HV f hs hr _ k.1 hna.1 (by omega)) rfl rfl rfl rfl rfl ?_
   refine jo rfl rfl (by omega) (by omega) ?_
   refine KN rfl rfl (by omega) (by omega) ?_
   refine cX rfl ?_
   refine aR rfl rfl rfl rfl rfl (by decide) ?_
   refine fq rfl rfl rfl rfl rfl (by omega) ?_
   refine fq rfl rfl rfl rfl rfl (by omega) ?_
   refine s8 (z := DU f hf k.1 q.1 (a.1 + 1)) rfl rfl (by decide) rfl rfl (by exact (rfl : _ = Ty.int _ _)) rfl (show 0 + 12 + a.1 * 4 + k.1 * 1 < 48 by omega) rfl (Dw (by omega) (by omega)) ?_
   refine aD ?_
   refine ⟨by kernel_rfl, ?_⟩
   refine bJ (aC (aA ?_))
   refine cD rfl rfl (by omega) (by omega) ?_
   refine bP rfl (aD ?_)
   refine bS (⟨a.1 + 1, by omega⟩) ?_ (by show f.turnings.length - (a.1 + 1) < f.turnings.length - a.1; omega)
   (refine cr.mk' ?_ ?_ <;> (repeat' (first | exact aH | exact aI | refine aB ?_ (Ty.aS _) | refine aB ?_ (Ty.aG _) | refine aK rfl (Cont.aG _) ?_)))
   all_goals skip
  refine b9 (aN (aN (aZ rfl (bJ (aC (aA ?_))))))
  refine cD rfl rfl (by omega) (by omega) ?_
  refine bP rfl (aD ?_)
  refine bS (⟨k.1 + 1, by omega⟩) ?_ (by show f.bears.length - (k.1 + 1) < f.bears.length - k.1; omega)
  (refine cr.mk' ?_ ?_ <;> (repeat' (first | exact aH | exact aI | refine aB ?_ (Ty.aS _) | refine aB ?_ (Ty.aG _) | refine aK rfl ?_ ?_)))
  all_goals skip
  exact Cont.iM (by rw [show q.1 = f.bins.length by have := q.2; omega, show a.1 = f.turnings.length by have := a.2; omega, Oe])
 refine b9 (aN (aN (aZ rfl (aC (aF ?_)))))
 refine mC (tg := 24) [(7, Ty.pe iH (DU f hf k.1 0 0) 0)] (by decide) rfl ⟨Ku rfl rfl (by decide), trivial⟩ ?_
 refine aA (lT rfl (Pd rfl (b8 rfl (aD (aC (au ?_))))))
 refine gG rfl rfl rfl ?_ ?_
 all_goals first | exact bQ rfl rfl | skip
 exact bD rfl rfl (by rw [show k.1 = f.bears.length by have := k.2; omega]; rfl)
set_option maxRecDepth 100000 in
theorem Kb (b : SB) (s t : Nat) (hs : s < 256) (ht : t < 8) (hb : ∀ k, nth b.1.before k < 256) : cy Tryz.prog 146 [Ty.int .i64 (t : Nat), Ty.pp [Ty.pe iH b 0], Ty.pp [Ty.int .i64 (s : Nat)]] (Ty.bool (decide (ij (nth b.1.before t) s = 0))) := by
 refine aX Tryz.func146 rfl (by decide) Tryz.ntmps146 (by exact Nat.le_of_ble_eq_true rfl) fun w0 M0 => ?_
 have hbt := hb t
 refine aF (aA (dJ rfl (aD (aC (aF (cq mixed rfl (aL rfl rfl rfl rfl (bP rfl (cP rfl ?_)))))))))
 refine cR rfl rfl rfl rfl rfl (by decide) ?_
 refine mP rfl rfl rfl rfl rfl (by omega) ?_
 refine fW (ty := Ty.int .i64 (nth b.1.before t : Nat)) rfl rfl rfl (by rw [show 0 + 4 + t * 1 = 4 + t by omega]; exact Fo b.2 ht) ?_
 refine aL rfl rfl rfl rfl ?_
 refine I2 rfl rfl (by omega) ?_
 refine av rfl rfl rfl (dJ rfl (aD ?_))
 refine ⟨by kernel_rfl, ?_⟩
 refine aC (au (bT rfl rfl ?_))
 all_goals skip
 exact bD rfl rfl (congrArg Ty.bool (decide_eq_decide.2 (by omega)))
set_option maxRecDepth 100000 in
theorem Hh (b : SB) (s : Nat) (hs : s < 256) (hb : ∀ k, nth b.1.before k < 256) : cy Tryz.prog 97 [Ty.pe iH b 0, Ty.int .i64 (s : Nat)] (Ty.bool (eR b s)) := by
 refine aX Tryz.func97 rfl (by decide) Tryz.ntmps97 (by exact Nat.le_of_ble_eq_true rfl) fun w0 M0 => ?_
 refine aF (aA ?_)
 refine dy (by exact (rfl : _ = Ty.pe _ _ _)) rfl ?_
 refine dy (by exact (rfl : _ = Ty.int _ _)) rfl ?_
 refine dJ rfl (aD (aC (aF (aA (aL rfl rfl rfl rfl (aq (B9 s hs) rfl rfl rfl rfl rfl (cx rfl ?_)))))))
 refine aq (jT (cB s) (Ty.jh _ [Ty.pp [Ty.pe iH b 0], Ty.pp [Ty.int .i64 (s : Nat)]]) rfl (fun t => decide (ij (nth b.1.before t.toNat) s = 0)) rfl rfl fun t ht => by have h := zY t ht; obtain ⟨n, rfl⟩ := Int.eq_ofNat_of_zero_le h.1; exact dM (Kb b s n hs (by omega) hb) rfl rfl rfl rfl rfl rfl) rfl rfl rfl rfl rfl ?_
 refine dJ rfl (aD (aC (au (bT rfl rfl ?_))))
 all_goals exact bQ rfl rfl
set_option maxRecDepth 100000 in
theorem QA (b : SB) : cy Tryz.prog 115 [Ty.pe iH b 0] (Ty.jh 159 [Ty.pp [Ty.pe iH b 0]]) := by
 refine aX Tryz.func115 rfl (by decide) Tryz.ntmps115 (by exact Nat.le_of_ble_eq_true rfl) fun w0 M0 => ?_
 refine aF (aA ?_)
 refine dy (by exact (rfl : _ = Ty.pe _ _ _)) rfl ?_
 refine iT rfl (aD (aC (aF (aA (cx rfl (RK rfl (aD (aC (au (bT rfl rfl ?_))))))))))
 all_goals exact bQ rfl rfl
end Go.Proofs.YtmmcenjknimhbaaGreat
namespace Go.Proofs.YtmmcenjknimhbaaGreat
open Go Go.T
attribute [local irreducible] fL dg lG nG fZ gA fy fm ff nB gB m6 cw fA m4 ew nM nth eU cm aV cy bodyPost Exit.then Exit.inBlock Code.wp Code.wpIn fI ry rq rY iY sB rZ iV sA e9 gr p8 cT cO bodyPostM dW
theorem yV (b : SB) : ((iH.tys b).drop (0 + 44)).take 4 = b.1.first.flatMap eB.tys := by
 show ((fO b.1).drop 44).take 4 = _
 have h1 := b.2.before
 have h2 := b.2.adds
 have h3 := b.2.first
 rw [iJ, uV, List.drop_append, List.drop_append, List.drop_append]
 simp only [eO, List.length_map, h1, h2]
 rw [List.drop_eq_nil_of_le (by rw [eO]; omega), List.drop_eq_nil_of_le (by simp [h1]), List.drop_eq_nil_of_le (by simp [h2])]
 simp only [List.nil_append, Nat.reduceSub, List.drop_zero]
 rw [List.take_of_length_le (by simp [h3])]
set_option maxRecDepth 100000 in
theorem Kl (b : SB) (hb : GV b) (s : Nat) (hs : s < 256) : cy Tryz.prog 41 [Ty.pe iH b 0, Ty.int .i64 (s : Nat)] (Ty.arr eB (gl b s)) := by
 refine aX Tryz.func41 rfl (by decide) Tryz.ntmps41 (by exact Nat.le_of_ble_eq_true rfl) fun w0 M0 => ?_
 have hml := DY s
 have hfl := b.2.first
 refine aF (aA ?_)
 refine bX rfl (by exact List.cons_ne_nil _ _) rfl ?_
 refine aD (aC (aF (aA (lT rfl (cP rfl ?_)))))
 refine cR rfl rfl rfl rfl rfl (by decide) ?_
 refine G5 (E' := eB) (ys := b.1.first) rfl rfl rfl (yV b) (by rw [uV, List.length_map, hfl]) ?_
 refine bX rfl (by exact List.cons_ne_nil _ _) rfl ?_
 refine jL rfl rfl (by decide) rfl rfl (by rw [hfl]; rfl) rfl ?_
 refine aD (aC (aF (aF (aA (bP rfl (aq (B9 s hs) rfl rfl rfl rfl rfl (bq rfl rfl rfl (bP rfl (aD (aC (aY ?_)))))))))))
 refine cI (fun (k : {k : Nat // k ≤ (cB s).length}) => live [(0, Ty.pe iH b 0), (4, Ty.ptr 5 0), (5, Ty.ptr 6 0), (14, Ty.sl eB (cB s)), (15, Ty.int .i64 (cB s).length), (16, Ty.int .i64 (k.1 : Nat))] [(5, Cont.cells 106 [Ty.int .i64 0, Ty.int .i64 0, Ty.int .i64 0, Ty.int .i64 0]), (6, Cont.vec eB 106 (nA b (cB s) k.1 0))]) (fun k => (cB s).length - k.1) (⟨0, by omega⟩) ?_ fun k => ?_
 ·(refine cr.mk' ?_ ?_ <;> (repeat' (first | exact aH | exact aI | refine aB ?_ (Ty.aS _) | refine aB ?_ (Ty.aG _) | refine aK rfl (Cont.aG _) ?_ | refine aK rfl ?_ ?_)))
  exact Cont.iM (Fh b _)
 refine aF (aA (av rfl rfl rfl (aD (aC (aF ?_)))))
 refine aj rfl (fun hc1 => ?_) (fun hc1 => ?_)
 ·refine ak (aC (aF (aY (aF (aA ?_)))))
  refine bC rfl rfl rfl rfl rfl rfl (by omega) ?_
  refine aL rfl rfl rfl rfl (b8 rfl (aD (aC (aF (aA (bP rfl (aD (aC (aY ?_)))))))))
  refine cI (fun (j : {j : Nat // j ≤ 4}) => live [(0, Ty.pe iH b 0), (4, Ty.ptr 5 0), (5, Ty.ptr 6 0), (7, Ty.int .i64 (nth (cB s) k.1)), (14, Ty.sl eB (cB s)), (15, Ty.int .i64 (cB s).length), (16, Ty.int .i64 (k.1 : Nat)), (20, Ty.int .i64 (j.1 : Nat))] [(5, Cont.cells 106 [Ty.int .i64 0, Ty.int .i64 0, Ty.int .i64 0, Ty.int .i64 0]), (6, Cont.vec eB 106 (nA b (cB s) k.1 j.1))]) (fun j => 4 - j.1) (⟨0, by omega⟩) ?_ fun j => ?_
  ·(refine cr.mk' ?_ ?_ <;> (repeat' (first | exact aH | exact aI | refine aB ?_ (Ty.aS _) | refine aB ?_ (Ty.aG _) | refine aK rfl (Cont.aG _) ?_)))
  refine aF (aA (av rfl rfl rfl (aD (aC (aF ?_)))))
  refine aj rfl (fun hc2 => ?_) (fun hc2 => ?_)
  ·refine ak (aC (aF (aY (aF (aA (bP rfl (b8 rfl (aD (aC ?_)))))))))
   have hpl := kE b (cB s) k.1 j.1
   have hmt := zY _ (bh (xs := cB s) (k := k.1) (by omega))
   have hla := Cg hb ((cB s).take k.1) j.1
   have hlt : ((cB s).take k.1).length ≤ 8 := by rw [List.length_take]; omega
   have hnp := CD b (cB s) k.1 (j := j.1) (by omega)
   have had := hb.adds ((nth (cB s) k.1).toNat * 4 + j.1)
   rw [← hnp] at hla
   refine cq mixed rfl (bP rfl ?_)
   refine fq rfl rfl rfl rfl rfl (by omega) ?_
   refine ko rfl rfl rfl (by decide) rfl rfl (by omega) rfl ?_
   refine lT rfl (bP rfl (bP rfl (cP rfl ?_)))
   refine cR rfl rfl rfl rfl rfl (by decide) ?_
   refine Eg (n := 8) rfl rfl rfl rfl rfl (by omega) (by omega) ?_
   refine mP rfl rfl rfl rfl rfl (by omega) ?_
   refine fW (ty := Ty.int .i64 (nth b.1.adds ((nth (cB s) k.1).toNat * 4 + j.1))) rfl rfl rfl (by rw [show 0 + 12 + (nth (cB s) k.1).toNat * 4 + j.1 * 1 = 12 + ((nth (cB s) k.1).toNat * 4 + j.1) by omega]; exact MX b.2 (by omega)) ?_
   refine cD rfl rfl (by omega) (by omega) ?_
   refine fq rfl rfl rfl rfl rfl (by omega) ?_
   refine uS rfl rfl rfl (by decide) rfl rfl (by exact (rfl : _ = Ty.int _ _)) rfl (by omega) (by decide) rfl rfl ?_
   refine aD ?_
   refine ⟨by kernel_rfl, ?_⟩
   refine bJ (aC (aA ?_))
   refine cD rfl rfl (by omega) (by omega) ?_
   refine bP rfl (aD ?_)
   refine bS (⟨j.1 + 1, by omega⟩) ?_ (by show 4 - (j.1 + 1) < 4 - j.1; omega)
   (refine cr.mk' ?_ ?_ <;> (repeat' (first | exact aH | exact aI | refine aB ?_ (Ty.aS _) | refine aB ?_ (Ty.aG _) | refine aK rfl (Cont.aG _) ?_ | refine aK rfl ?_ ?_)))
   all_goals skip
   exact Cont.iM (KD b (by omega) (by omega))
  refine b9 (aN (aN (aZ rfl (bJ (aC (aA ?_))))))
  refine cD rfl rfl (by omega) (by omega) ?_
  refine bP rfl (aD ?_)
  refine bS (⟨k.1 + 1, by omega⟩) ?_ (by show (cB s).length - (k.1 + 1) < (cB s).length - k.1; omega)
  (refine cr.mk' ?_ ?_ <;> (repeat' (first | exact aH | exact aI | refine aB ?_ (Ty.aS _) | refine aB ?_ (Ty.aG _) | refine aK rfl (Cont.aG _) ?_ | refine aK rfl ?_ ?_)))
  all_goals skip
  exact Cont.iM (by rw [show j.1 = 4 by have := j.2; omega, GG])
 refine b9 (aN (aN (aZ rfl (aC (aF (aA ?_))))))
 refine kZ rfl rfl (by decide) rfl rfl (by rw [kE]; rfl) (fun e => by have h := congrArg List.length e; rw [kE] at h; cases h) ?_
 refine jL rfl rfl (by decide) rfl rfl (by rw [kE]; rfl) rfl ?_
 refine aD (aC (au ?_))
 refine w6 (I1 b s k.1 (by omega)) rfl rfl rfl rfl (by decide) rfl rfl (by rw [kE]; rfl) (fun e => by have h := congrArg List.length e; rw [kE] at h; cases h)
theorem y4 (b : SB) (s : Nat) (hs : s < 256) (hb : ∀ k, nth b.1.before k < 256) {v : Bool} (h : eR b s = v) : cy Tryz.prog 97 [Ty.pe iH b 0, Ty.int .i64 (s : Nat)] (Ty.bool v) := h ▸ Hh b s hs hb
def Fw (b : SB) (s : Nat) : List Ty := [Ty.int .i64 (s : Nat), Ty.arr eB (gl b s)]
set_option maxRecDepth 100000 in
theorem Nh (b : SB) (hb : GV b) : gr Tryz.prog 159 (fun l => [Ty.ex (yv l), Ty.pp [Ty.pe iH b 0]]) ((jV b).map (Fw b)) (Ty.jk []) (Ty.jk []) := by
 refine BS Tryz.func159 rfl (by decide) Tryz.ntmps159 (fun _ => by exact Nat.le_of_ble_eq_true rfl) (fun _ => ⟨rfl, rfl⟩) fun l J Jx hJ hJx hY w0 M0 => ?_
 have hnt := hb.nt
 have hsl := M7 hnt
 have hlen : ((jV b).map (Fw b)).length = (jV b).length := List.length_map _
 refine aF (aA (aL rfl rfl rfl rfl (cP rfl ?_)))
 refine cR rfl rfl rfl rfl rfl (by decide) ?_
 refine cR rfl rfl rfl rfl rfl (by decide) ?_
 refine fW rfl rfl rfl rfl (bq rfl rfl rfl ?_)
 refine F0 (a := 1) rfl rfl (by omega) (by omega) ?_
 refine bP rfl (aD (aC (aY ?_)))
 refine cI (fun (k : {k : Nat // k ≤ 1 <<< b.1.f.turnings.length}) => live [(0, Ty.ex (yv l)), (1, Ty.pp [Ty.pe iH b 0]), (10, Ty.int .i64 ((1 <<< b.1.f.turnings.length : Nat) : Int)), (11, Ty.int .i64 (k.1 : Nat))] [(0, CJ (hJ (gh b k.1).length))]) (fun k => 1 <<< b.1.f.turnings.length - k.1) (⟨0, by omega⟩) ?_ fun k => ?_
 ·(refine cr.mk' ?_ ?_ <;> (repeat' (first | exact aH | exact aI | refine aB ?_ (Ty.aS _) | refine aB ?_ (Ty.aG _) | refine aK rfl (Cont.aG _) ?_)))
 refine aF (aA (av rfl rfl rfl (aD (aC (aF ?_)))))
 refine aj rfl (fun hc1 => ?_) (fun hc1 => ?_)
 ·refine ak (aC (aF (aY (aF (aA (bP rfl (b8 rfl (aD (aC (aF ?_))))))))))
  cases hsp : (eR b k.1)
  ·refine aA (aL rfl rfl rfl rfl (bP rfl ?_))
   refine aq (y4 b k.1 (by omega) hb.before hsp) rfl rfl rfl rfl rfl ?_
   refine gw rfl (nv rfl rfl rfl rfl (nv rfl rfl rfl rfl (nv rfl rfl rfl rfl (nv rfl rfl rfl rfl (nv rfl rfl rfl rfl (nv rfl rfl rfl rfl (nv rfl rfl rfl rfl ?_)))))))
   refine vg (ty := Ty.bool false) rfl rfl rfl (fun h => Bool.noConfusion h) (fun _ => Ty.aG _) ?_
   refine aD (aC (dh rfl (rfl) (ak (bJ (aC (aA ?_))))))
   refine cD rfl rfl (by omega) (by omega) ?_
   refine bP rfl (aD ?_)
   refine bS (⟨k.1 + 1, by omega⟩) ?_ (by exact Nat.sub_lt_sub_left (Int.ofNat_lt.1 hc1) (Nat.lt_succ_self _))
   (refine cr.mk' ?_ ?_ <;> (repeat' (first | exact aH | exact aI | refine aB ?_ (Ty.aS _) | refine aB ?_ (Ty.aG _) | refine aK rfl ?_ ?_)))
   all_goals skip
   exact Cont.sub_eq (congrArg (fun n => CJ (hJ n)) (by show (gh b k.1).length = (gh b (k.1 + 1)).length; rw [Ba hsp]))
  refine AJ 9 rfl rfl (aL rfl rfl rfl rfl (bP rfl ?_))
  refine aq (y4 b k.1 (by omega) hb.before hsp) rfl rfl rfl rfl rfl ?_
  refine gw rfl ?_
  (refine wJ rfl rfl rfl (by apply aO; (refine KL rfl ?_); refine aD ?_; exact rfl) ?_)
  (refine wJ rfl rfl rfl (by apply aO; (refine bP rfl ?_); refine aD ?_; exact rfl) ?_)
  (refine wJ rfl rfl rfl (by apply aO; (refine aL rfl rfl rfl rfl ?_); refine aD ?_; exact rfl) ?_)
  (refine wJ rfl rfl rfl (by apply aO; (refine bP rfl ?_); refine aD ?_; exact rfl) ?_)
  (refine wJ rfl rfl rfl (by apply aO; (refine aq (Kl b hb k.1 (by omega)) rfl rfl rfl rfl rfl ?_); refine aD ?_; exact rfl) ?_)
  refine aD ?_
  refine ⟨_, _, Ml rfl rfl rfl (B2 hJ hJx hY rfl rfl rfl rfl rfl (Ht (yU (Int.ofNat_lt.1 hc1) hsp).2 (congrArg (Fw b) (yU (Int.ofNat_lt.1 hc1) hsp).1)) rfl), ?_, ?_⟩
  ·(refine wJ rfl rfl rfl (by apply aO; (refine dK rfl ?_); refine aD ?_; exact rfl) ?_)
   refine vg (ty := Ty.bool false) rfl rfl rfl (fun _ => (Ty.aG _ : Ty.Sub (Ty.bool (!true)) _)) (fun h => Bool.noConfusion h) ?_
   refine aD (aC (dh rfl (rfl) (ak (bJ (aC (aA ?_))))))
   refine cD rfl rfl (by omega) (by omega) ?_
   refine bP rfl (aD ?_)
   refine bS (⟨k.1 + 1, by omega⟩) ?_ (by exact Nat.sub_lt_sub_left (Int.ofNat_lt.1 hc1) (Nat.lt_succ_self _))
   (refine cr.mk' ?_ ?_ <;> (repeat' (first | exact aH | exact aI | refine aB ?_ (Ty.aS _) | refine aB ?_ (Ty.aG _) | refine aK rfl ?_ ?_)))
   all_goals skip
   exact Cont.sub_eq (congrArg (fun n => CJ (hJ n)) (by show (gh b k.1).length + 1 = (gh b (k.1 + 1)).length; rw [sN hsp, List.length_append]; rfl))
  (refine wJ rfl rfl rfl (by apply aO; (refine dK rfl ?_); refine aD ?_; exact rfl) ?_)
  refine vg (ty := Ty.bool true) rfl rfl rfl (fun _ => (Ty.aG _ : Ty.Sub (Ty.bool (!false)) _)) (fun h => Bool.noConfusion h) ?_
  refine aD (aC (lX rfl (rfl) (au (af (aP (aP (af ?_)))))))
  exact HM rfl rfl
 refine b9 (aN (aN (aZ rfl (HT ?_))))
 exact IP (hJ := hJ) (by rw [List.length_map, show k.1 = 1 <<< b.1.f.turnings.length by have := k.2; omega]; rfl) rfl rfl
set_option maxRecDepth 100000 in
theorem GW (b : SB) (hb : GV b) (bay : Nat) (hbay : bay < 4) : cy Tryz.prog 56 [Ty.pe iH b 0, Ty.int .i64 (bay : Nat)] (Ty.jk [Ty.int .i64 (qd b bay).1, Ty.int .i64 (qd b bay).2]) := by
 refine vS Tryz.func56 rfl (by decide) Tryz.ntmps56 (by exact Nat.le_of_ble_eq_true rfl) fun w0 M0 => ?_
 refine aF (aA ?_)
 refine dy (by exact (rfl : _ = Ty.int _ _)) rfl ?_
 refine b8 rfl (b8 rfl (aD (aC (aF (cq mixed rfl (lT rfl (aL rfl rfl rfl rfl (cP rfl ?_))))))))
 refine cR rfl rfl rfl rfl rfl (by decide) ?_
 refine mP rfl rfl rfl rfl rfl hbay ?_
 refine fW (ty := Ty.int .i64 (nth b.1.first bay)) rfl rfl rfl (by rw [show 0 + 44 + bay * 1 = 44 + bay by omega]; exact Bh b.2 hbay) ?_
 refine bX rfl (by exact List.cons_ne_nil _ _) rfl ?_
 refine bX rfl (by exact List.cons_ne_nil _ _) rfl ?_
 refine cj rfl rfl (by decide) rfl rfl (by exact (rfl : _ = Ty.int _ _)) rfl (by exact Nat.le_of_ble_eq_true rfl) rfl rfl (by exact (rfl : _ = [_])) ?_
 refine cj rfl rfl (by decide) rfl rfl (by exact (rfl : _ = Ty.int _ _)) rfl (by exact Nat.le_of_ble_eq_true rfl) rfl rfl (by exact (rfl : _ = [_])) ?_
 refine aD ?_
 refine ⟨by kernel_rfl, ?_⟩
 refine aC (aF (aF (aA (lT rfl (aq (QA b) rfl rfl rfl rfl rfl (aD (aC (aY ?_))))))))
 refine qE (ps := [18, 19]) (lk [(0, Ty.pe iH b 0), (3, Ty.pp [Ty.int .i64 (bay : Nat)]), (6, Ty.ptr 7 0), (7, Ty.ptr 8 0)]) (fun k => [(7, Cont.cells 3 [Ty.int .i64 (fj b bay k).1]), (8, Cont.cells 3 [Ty.int .i64 (fj b bay k).2])]) false [] [7, 8] rfl rfl (Nh b hb) rfl rfl (by decide) (by intro t ht; obtain ⟨x, _, rfl⟩ := List.mem_map.1 ht; exact ⟨rfl, rfl, rfl⟩) rfl rfl (fun _ => rfl) rfl ?_ ?_ ?_ (by intro h; cases h)
 ·(refine cr.mk' ?_ ?_ <;> (repeat' (first | exact aH | exact aI | refine aB ?_ (Ty.aS _) | refine aB ?_ (Ty.aG _) | refine aK rfl (Cont.aG _) ?_)))
 ·intro k tys hk
  obtain ⟨hk1, rfl⟩ := Cy hk
  have hll := q9 b (nth (jV b) k)
  refine ⟨live [(3, Ty.pp [Ty.int .i64 (bay : Nat)]), (6, Ty.ptr 7 0), (7, Ty.ptr 8 0), (8, Ty.int .i64 (nth (jV b) k : Nat)), (9, Ty.ptr 10 0)] [(7, Cont.cells 3 [Ty.int .i64 (fj b bay k).1]), (8, Cont.cells 3 [Ty.int .i64 (fj b bay k).2]), (10, Cont.vec eB 106 (gl b (nth (jV b) k)))], fun l w M => ?_, fun l w M => ?_⟩
  ·refine aF (aA (b8 rfl (aD (aC (aA ?_)))))
   refine bX rfl (by exact List.cons_ne_nil _ _) rfl ?_
   refine jL rfl rfl (by decide) rfl rfl (by rw [hll]; rfl) rfl ?_
   refine aD (iy ?_)
   (refine cr.mk' ?_ ?_ <;> (repeat' (first | exact aH | exact aI | refine aB ?_ (Ty.aS _) | refine aB ?_ (Ty.aG _) | refine aK rfl (Cont.aG _) ?_)))
  refine aY (aF (cq mixed rfl (aL rfl rfl rfl rfl (fq rfl rfl rfl rfl rfl hbay ?_))))
  refine ko rfl rfl rfl (by decide) rfl rfl (by omega) rfl ?_
  refine aU rfl rfl (by decide) rfl rfl rfl ?_
  refine av rfl rfl rfl (aD ?_)
  refine ⟨by kernel_rfl, ?_⟩
  refine aC ?_
  refine aj rfl (fun hc1 => ?_) (fun hc1 => ?_)
  ·refine cq mixed rfl (bP rfl (aL rfl rfl rfl rfl (fq rfl rfl rfl rfl rfl hbay ?_)))
   refine ko rfl rfl rfl (by decide) rfl rfl (by omega) rfl ?_
   refine cj rfl rfl (by decide) rfl rfl (by exact (rfl : _ = Ty.int _ _)) rfl (by exact Nat.le_of_ble_eq_true rfl) rfl rfl (by exact (rfl : _ = [_])) ?_
   refine cj rfl rfl (by decide) rfl rfl (by exact (rfl : _ = Ty.int _ _)) rfl (by exact Nat.le_of_ble_eq_true rfl) rfl rfl (by exact (rfl : _ = [_])) ?_
   refine aD ?_
   refine ⟨by kernel_rfl, ?_⟩
   refine bJ (oL ?_)
   (refine cr.mk' ?_ ?_ <;> (repeat' (first | exact aH | exact aI | exact dU | refine aB ?_ (Ty.aS _) | refine aK rfl (Cont.dV ?_) ?_ | refine cQ ?_ ?_)))
   all_goals exact Ty.bg (by rw [lV hk1, tD, if_pos hc1])
  refine ak (bJ (oL ?_))
  (refine cr.mk' ?_ ?_ <;> (repeat' (first | exact aH | exact aI | exact dU | refine aB ?_ (Ty.aS _) | refine aK rfl (Cont.dV ?_) ?_ | refine cQ ?_ ?_)))
  all_goals exact Ty.bg (by rw [lV hk1, tD, if_neg hc1])
 refine bJ (aC (aF (cq mixed rfl ?_)))
 refine aU rfl rfl (by decide) rfl rfl rfl ?_
 refine aU rfl rfl (by decide) rfl rfl rfl ?_
 refine b8 rfl (b8 rfl (aD ?_))
 refine ⟨by kernel_rfl, ?_⟩
 refine aC (au (Bd rfl ?_))
 refine gG rfl rfl rfl ?_ ?_
 all_goals skip
 all_goals exact bD rfl rfl (congrArg (Ty.int .i64) (by rw [List.length_map, fj, List.take_length]; rfl))
end Go.Proofs.YtmmcenjknimhbaaGreat
namespace Go.Proofs.YtmmcenjknimhbaaGreat
open Go Go.T
attribute [local irreducible] fL dg lG nG fZ gA fy fm ff nB gB m6 cw fA m4 ew nM nth eU cm aV cy bodyPost Exit.then Exit.inBlock Code.wp Code.wpIn fI ry rq rY iY sB rZ iV sA e9 gr p8 cT cO bodyPostM dW
theorem Hp (f : cG) (hs : f.Small) (b : Bool) : cy Tryz.prog 54 [mB f, Ty.bool b] (Ty.jk [Ty.when (decide (gM f b = 0)) (Ty.pe iH (bO f) 0), Ty.int .i64 (gM f b)]) := by
  by_cases h0 : cA f = 0
  · cases b with
    | true =>
      have e : gM f true = 1 := by rw [gM, if_neg (fun h => h h0), if_pos rfl]
      rw [e]
      exact (Gc f hs h0).mono (Ty.qc (Ty.jR rfl fun h => by simp at h) (Ty.aG _))
    | false =>
      have e : gM f false = 0 := by rw [gM, if_neg (fun h => h h0), if_neg (by simp)]
      rw [e, kV h0]
      exact (M9 f hs h0).mono (Ty.qc (Ty.jR rfl fun _ => Ty.aG _) (Ty.aG _))
  · have e : gM f b = cA f := by rw [gM, if_pos h0]
    rw [e]
    exact (Gj f hs b h0).mono (Ty.qc (Ty.jR rfl fun h => by simp [h0] at h) (Ty.aG _))
set_option maxRecDepth 100000 in
theorem Pv (f : cG) (hs : f.Small) (bay : Int) : cy Tryz.prog 21 [mB f, Ty.int .i64 bay] (Ty.jk [Ty.int .i64 (pz f bay).1, Ty.int .i64 (pz f bay).2]) := by
 refine aX Tryz.func21 rfl (by decide) Tryz.ntmps21 (by exact Nat.le_of_ble_eq_true rfl) fun w0 M0 => ?_
 have hs1 := hs.bears; have hs2 := hs.bins; have hs3 := hs.turnings; have hs4 := hs.rules
 refine aF (aA (az rfl (b8 rfl (b8 rfl (aD (aC (aF (cq mixed rfl ?_))))))))
 refine aa rfl rfl rfl (by exact Nat.le_of_ble_eq_true rfl) ?_
 refine aa rfl rfl rfl (by exact Nat.le_of_ble_eq_true rfl) ?_
 refine bP rfl (aq (Qz f hs _) rfl rfl rfl rfl rfl (dK rfl (aq (Hp f hs _) rfl rfl rfl rfl rfl (uq rfl (bF rfl rfl (bF rfl rfl (O3 rfl (b8 rfl (aD ?_)))))))))
 refine ⟨by kernel_rfl, ?_⟩
 refine aC (aF (aF (aA (bP rfl (av rfl rfl rfl (aD (aC ?_)))))))
 refine dB rfl (fun hc1 => ?_) (fun hc1 => ?_)
 ·refine aF (aA (bP rfl (b8 rfl (b8 rfl (aD (aC (au (aP ?_))))))))
  refine gG rfl rfl rfl ?_ ?_
  all_goals skip
  all_goals exact bD rfl rfl (congrArg (Ty.int .i64) (by rw [pz, if_pos hc1]))
 refine ak (aC (aF ?_))
 have h0 := yg hc1
 have hin := gL (n := bay) (lo := 0) (hi := (f.bears.length : Int) - 1) (by have := h0.2; simpa using this)
 obtain ⟨n, rfl⟩ := Int.eq_ofNat_of_zero_le hin.1
 have hr := (cK h0.1).ranged
 have hb4 := hr.bears
 have hfi := nV h0.1
 refine iX (s := 6) rfl (Ty.mZ (decide_eq_true hc1)) ?_
 refine aA (lT rfl (bP rfl ?_))
 refine aq (GW (bO f) hfi n (by omega)) rfl rfl rfl rfl rfl ?_
 refine uq rfl (bF rfl rfl (bF rfl rfl (b8 rfl (b8 rfl (aD (aC (aF (aA (bP rfl (b8 rfl (b8 rfl (aD (aC (au ?_))))))))))))))
 refine gG rfl rfl rfl ?_ ?_
 all_goals skip
 all_goals exact bD rfl rfl (congrArg (Ty.int .i64) (by rw [pz, if_neg (fun h => h hc1)]; try rfl))
end Go.Proofs.YtmmcenjknimhbaaGreat
namespace Go.Proofs.YtmmcenjknimhbaaGreat
open Go Go.T
set_option maxHeartbeats 2000000
attribute [local irreducible] fL dg lG nG fZ gA fy fm ff nB gB m6 cw fA m4 ew nM nth eU cm aV cy bodyPost Exit.then Exit.inBlock Code.wp Code.wpIn fI ry rq rY iY sB rZ iV sA e9 gr p8 cT cO bodyPostM dW
end Go.Proofs.YtmmcenjknimhbaaGreat
namespace Go.Proofs.YtmmcenjknimhbaaGreat
open Go Go.T
set_option maxHeartbeats 2000000
attribute [local irreducible] fL dg lG nG fZ gA fy fm ff nB gB m6 cw fA m4 ew nM nth eU cm aV cy bodyPost Exit.then Exit.inBlock Code.wp Code.wpIn fI ry rq rY iY sB rZ iV sA e9 gr p8 cT cO bodyPostM dW
end Go.Proofs.YtmmcenjknimhbaaGreat
namespace Go.Proofs.YtmmcenjknimhbaaGreat
open Go Go.T
set_option maxHeartbeats 2000000
attribute [local irreducible] fL dg lG nG fZ gA fy fm ff nB gB m6 cw fA m4 ew nM nth eU cm aV cy bodyPost Exit.then Exit.inBlock Code.wp Code.wpIn fI ry rq rY iY sB rZ iV sA e9 gr p8 cT cO bodyPostM dW
def f1 : cG := two [⟨0, 2⟩]
def f2 : cG := two [⟨2, 0⟩, ⟨2, 1⟩]
end Go.Proofs.YtmmcenjknimhbaaGreat
namespace Go.Proofs.YtmmcenjknimhbaaGreat
open Go Go.T
set_option maxHeartbeats 2000000
attribute [local irreducible] fL dg lG nG fZ gA fy fm ff nB gB m6 cw fA m4 ew nM nth eU cm aV cy bodyPost Exit.then Exit.inBlock Code.wp Code.wpIn fI ry rq rY iY sB rZ iV sA e9 gr p8 cT cO bodyPostM dW
end Go.Proofs.YtmmcenjknimhbaaGreat
namespace Go.Proofs.YtmmcenjknimhbaaGreat
open Go Go.T
set_option maxHeartbeats 2000000
attribute [local irreducible] fL dg lG nG fZ gA fy fm ff nB gB m6 cw fA m4 ew nM nth eU cm aV cy bodyPost Exit.then Exit.inBlock Code.wp Code.wpIn fI ry rq rY iY sB rZ iV sA e9 gr p8 cT cO bodyPostM dW
end Go.Proofs.YtmmcenjknimhbaaGreat
namespace Go.Proofs.YtmmcenjknimhbaaGreat
open Go Go.T
set_option maxHeartbeats 2000000
attribute [local irreducible] fL dg lG nG fZ gA fy fm ff nB gB m6 cw fA m4 ew nM nth eU cm aV cy bodyPost Exit.then Exit.inBlock Code.wp Code.wpIn fI ry rq rY iY sB rZ iV sA e9 gr p8 cT cO bodyPostM dW
section
variable {f : cG} {a b : Int}
end
end Go.Proofs.YtmmcenjknimhbaaGreat
namespace Go.Proofs.YtmmcenjknimhbaaGreat
open Go Go.T
set_option maxHeartbeats 2000000
attribute [local irreducible] fL dg lG nG fZ gA fy fm ff nB gB m6 cw fA m4 ew nM nth eU cm aV cy bodyPost Exit.then Exit.inBlock Code.wp Code.wpIn fI ry rq rY iY sB rZ iV sA e9 gr p8 cT cO bodyPostM dW
def xF (l : List Nat) : List Int := l.map fun (n : Nat) => (n : Int)
theorem u7 : ∀ l : List Nat, l.flatMap xS.tys = (xF l).flatMap eB.tys
  | [] => rfl
  | x :: l => by
    have ih := u7 l
    rw [List.flatMap_cons, ih]; rfl
theorem Kh (l : List Nat) : (Ty.sl xS l).Sub (Ty.sl eB (xF l)) := HR (u7 l) (by simp [xF])
theorem GB (l : List Nat) : (Ty.sl eB (xF l)).Sub (Ty.sl xS l) := HR (u7 l).symm (by simp [xF])
theorem all_cast (q : Nat → Bool) (l : List Nat) : (xF l).all (fun x => q x.toNat) = l.all q := by unfold xF; rw [List.all_map]; rfl
set_option maxRecDepth 100000 in
theorem C0 (l : List Int) (h : l.length ≤ 1000) : cy Tryz.prog 42 [Ty.sl eB l] (Ty.sl eB l) := by
 refine aX Tryz.func42 rfl (by decide) Tryz.ntmps42 (by exact Nat.le_of_ble_eq_true rfl) fun w0 M0 => ?_
 refine aF (aA (iT rfl (aD (aC (aF (aF (aA (eV rfl (xZ O2 rfl (aD (aC ?_)))))))))))
 refine q5 rfl (fun hc1 => ?_) (fun hc1 => ?_)
 ·refine aF (aA (iT rfl (aD (aC (au (aP (bT rfl rfl ?_)))))))
  all_goals skip
  exact eS hc1
 refine ak (aC (aF (aA ?_)))
 refine ox (E := eB) rfl rfl rfl rfl ?_
 refine eV rfl ?_
 refine dz rfl rfl (by decide) rfl rfl rfl rfl rfl rfl (by decide) (by (simp <;> omega)) (by (simp <;> omega)) ?_
 refine uT rfl (aD (aC (au (bT rfl rfl ?_))))
 all_goals exact xz (by decide)
 skip
section
variable {f : cG} {l : List Int} {n : Int} {t : Ty}
theorem Qt (h : fP f l = n) (hn : n ≠ 0) : eu (Ty.ex (.pointer none)) (Ty.when (decide (fP f l = 0)) t) :=
 tw rfl rfl (Ty.jR rfl fun hx => absurd (of_decide_eq_true hx) (by rw [h]; exact hn))
theorem Qg (h : fP f l = n) (hn : n ≠ 0) : eu (Ty.ex (.slice none 0 0)) (Ty.sl xS (if fP f l = 0 then dY l else [])) := eS (if_neg (by rw [h]; exact hn))
theorem QJ (h : fP f l = n) : eu (Ty.int .i64 n) (Ty.int .i64 (fP f l)) := bD rfl rfl (congrArg (Ty.int .i64) h.symm)
theorem o1 (h : ¬ gM f false = 0) : fP f l = gM f false := if_pos h
theorem o2 (h : gM f false = 0) (h2 : ¬ (l.length : Int) = f.turnings.length) : fP f l = 2 := by unfold fP; rw [if_neg (fun x => x h), if_pos h2]
theorem o3 (h : gM f false = 0) (h2 : (l.length : Int) = f.turnings.length) (h3 : (!l.all fun t => fG t 0 (f.turnings.length - 1)) = true) : fP f l = 1 := by unfold fP; rw [if_neg (fun x => x h), if_neg (fun x => x h2), if_pos h3]
theorem o4 (h : gM f false = 0) (h2 : (l.length : Int) = f.turnings.length) (h3 : (!l.all fun t => fG t 0 (f.turnings.length - 1)) = false) (h4 : ¬ (((setOf l : Nat) : Int) = ((1 <<< l.length : Nat) : Int) - 1)) : fP f l = 5 := by
 unfold fP; rw [if_neg (fun x => x h), if_neg (fun x => x h2), if_neg (Bool.eq_false_iff.1 h3), if_pos h4]
theorem o5 (h : gM f false = 0) (h2 : (l.length : Int) = f.turnings.length) (h3 : (!l.all fun t => fG t 0 (f.turnings.length - 1)) = false) (h4 : ((setOf l : Nat) : Int) = ((1 <<< l.length : Nat) : Int) - 1) (h5 : (!(dY l).all (eR (bO f))) = true) : fP f l = 4 := by
 unfold fP; rw [if_neg (fun x => x h), if_neg (fun x => x h2), if_neg (Bool.eq_false_iff.1 h3), if_neg (fun x => x h4), if_pos h5]
theorem o6 (h : gM f false = 0) (h2 : (l.length : Int) = f.turnings.length) (h3 : (!l.all fun t => fG t 0 (f.turnings.length - 1)) = false) (h4 : ((setOf l : Nat) : Int) = ((1 <<< l.length : Nat) : Int) - 1) (h5 : (!(dY l).all (eR (bO f))) = false) : fP f l = 0 := by
 unfold fP; rw [if_neg (fun x => x h), if_neg (fun x => x h2), if_neg (Bool.eq_false_iff.1 h3), if_neg (fun x => x h4), if_neg (Bool.eq_false_iff.1 h5)]
end
theorem Jg (l : List Int) : (dY l).take 1 = [0] := by unfold dY; rw [List.range_succ_eq_map]; rfl
theorem rN (f : cG) (l : List Int) : (wm f l).length = (dY l).length := by simp [wm]
theorem Iv {f : cG} {l : List Int} {k : Nat} (h : k < (dY l).length) : nth (wm f l) k = rowP f (nth (dY l) k) := by
 rw [cL (by rw [rN]; exact h), cL h]; simp [wm]
theorem Ii {l : List Int} {k : Nat} (h : k < l.length) : (dY l).take (k + 1) ++ [nth ((dY l).take (k + 1)) k ||| 1 <<< (nth l k).toNat] = (dY l).take (k + 1 + 1) := by
 have hl := l7 l
 have e : nth ((dY l).take (k + 1)) k = setOf (l.take k) := by rw [cL (by rw [List.length_take]; omega), List.getElem_take, ← cL (by omega), rG (by omega)]
 rw [e, ← kI h, ← rG (by omega), ← cE (by omega)]
theorem xG {f : cG} {l : List Int} (hn : f.turnings.length ≤ 8) (hrg : ∀ x ∈ l, 0 ≤ x ∧ x < (f.turnings.length : Int)) {s : Nat} (hs : s ∈ dY l) : s < 256 := by
 obtain ⟨k, hk, rfl⟩ := List.mem_map.1 hs
 exact zH hn (oA hrg k (by have := List.mem_range.1 hk; omega))
set_option maxRecDepth 100000 in
theorem J9 (f : cG) (hs : f.Small) (order : List Int) (hl : order.length ≤ 1000) : cy Tryz.prog 40 [mB f, Ty.sl eB order] (Ty.jk [Ty.when (decide (fP f order = 0)) (Ty.pe iH (bO f) 0), Ty.sl xS (if fP f order = 0 then dY order else []), Ty.int .i64 (fP f order)]) := by
 refine aX Tryz.func40 rfl (by decide) Tryz.ntmps40 (by exact Nat.le_of_ble_eq_true rfl) fun w0 M0 => ?_
 have hs1 := hs.bears; have hs2 := hs.bins; have hs3 := hs.turnings; have hs4 := hs.rules
 refine aF (aA (az rfl (iT rfl (iT rfl (b8 rfl (aD (aC (aF (aA ?_)))))))))
 refine aa rfl rfl rfl (by exact Nat.le_of_ble_eq_true rfl) ?_
 refine aq (Hp f hs _) rfl rfl rfl rfl rfl (uq rfl (bF rfl rfl (bF rfl rfl (O3 rfl (b8 rfl (aD (aC (aF (aY (aF (aA (bP rfl (av rfl rfl rfl (dJ rfl (aD ?_)))))))))))))))
 refine aC ?_
 refine dB rfl (fun hc1 => ?_) (fun hc1 => ?_)
 ·refine aF (aA (bP rfl (iT rfl (iT rfl (b8 rfl (aD (aC (au (af (aP ?_))))))))))
  refine r5 rfl rfl rfl rfl ?_ ?_ ?_
  all_goals skip
  all_goals first | exact Qt (o1 hc1) hc1 | exact Qg (o1 hc1) hc1 | exact QJ (o1 hc1)
 refine aF (aA (eV rfl (bq rfl rfl rfl ?_)))
 refine aQ rfl rfl rfl rfl rfl (by decide) ?_
 refine aL rfl rfl rfl rfl (bq rfl rfl rfl (av rfl rfl rfl (dJ rfl (aD (aC ?_)))))
 refine dB rfl (fun hc2 => ?_) (fun hc2 => ?_)
 ·refine aF (aA (iT rfl (iT rfl (b8 rfl (aD (aC (au (af (aP ?_)))))))))
  refine r5 rfl rfl rfl rfl ?_ ?_ ?_
  all_goals skip
  all_goals first | exact Qt (o2 hc1 hc2) (by decide) | exact Qg (o2 hc1 hc2) (by decide) | exact QJ (o2 hc1 hc2)
 refine aF (aA (eV rfl ?_))
 refine aa rfl rfl rfl (by exact Nat.le_of_ble_eq_true rfl) ?_
 refine rA (l := [mB f]) rfl ?_
 refine aq (jT order (Ty.Mx 96 [mB f]) rfl (fun t => fG t 0 (f.turnings.length - 1)) rfl rfl fun x _ => uE (uw f hs x) rfl rfl rfl rfl rfl rfl) rfl rfl rfl rfl rfl ?_
 refine dK rfl (dJ rfl (aD (aC ?_)))
 refine c8 rfl (fun hc3 => ?_) (fun hc3 => ?_)
 ·refine aF (aA (iT rfl (iT rfl (b8 rfl (aD (aC (au (af (aP ?_)))))))))
  refine r5 rfl rfl rfl rfl ?_ ?_ ?_
  all_goals skip
  all_goals first | exact Qt (o3 hc1 hc2 hc3) (by decide) | exact Qg (o3 hc1 hc2 hc3) (by decide) | exact QJ (o3 hc1 hc2 hc3)
 refine ak (bJ (aC (aF ?_)))
 have h0 := yg hc1
 have hfi := nV h0.1
 have hff := AH f
 have hnt : f.turnings.length ≤ 8 := by have := hfi.nt; rw [hff] at this; exact this
 have hrg : ∀ x ∈ order, 0 ≤ x ∧ x < (f.turnings.length : Int) := fun x hx => by have h := List.all_eq_true.1 (by simpa using hc3) x hx; have := gL h; omega
 have hlen : order.length = f.turnings.length := by omega
 refine iX (s := 7) rfl (Ty.mZ (decide_eq_true hc1)) ?_
 refine aA ?_
 refine m7 (E := xS) (xs := [0]) rfl rfl rfl rfl rfl (by decide) (by decide) (by repeat (first | exact (aT.nil : aT _ _ [] _) | (show aT _ _ ((_, _) :: _) _; apply aT.one; (· exact (rfl : _ = Ty.int _ _)); (· exact rfl)))) (by exact rfl) rfl rfl ?_
 refine uT rfl (aD (aC (aF (aF (aA (eV rfl (bq rfl rfl rfl (bP rfl (aD (aC (aY ?_)))))))))))
 refine cI (fun (k : {k : Nat // k ≤ order.length}) => live [(1, Ty.sl eB order), (2, Ty.pp (eT f)), (7, Ty.pe iH (bO f) 0), (9, Ty.row xS 3 35 ((dY order).take (k.1 + 1))), (35, Ty.sl eB order), (36, Ty.int .i64 order.length), (37, Ty.int .i64 (k.1 : Nat))] []) (fun k => order.length - k.1) (⟨0, by omega⟩) ?_ fun k => ?_
 ·(refine cr.mk' ?_ ?_ <;> (repeat' (first | exact aH | exact aI | refine aB ?_ (Ty.aS _) | refine aB ?_ (Ty.aG _) | refine aB ?_ ?_)))
  all_goals exact Ty.gy (Jg order).symm
 have hk1 : ((dY order).take (k.1 + 1)).length = k.1 + 1 := by rw [List.length_take, l7]; omega
 refine aF (aA (av rfl rfl rfl (aD (aC (aF ?_)))))
 refine aj rfl (fun hc4 => ?_) (fun hc4 => ?_)
 ·refine ak (aC (aF (aY (aF (aA (bP rfl ?_))))))
  refine bC rfl rfl rfl rfl rfl rfl (by omega) ?_
  refine aL rfl rfl rfl rfl (b8 rfl (b8 rfl (aD (aC ?_))))
  have hnk : nth ((dY order).take (k.1 + 1)) k.1 = setOf (order.take k.1) := by rw [cL (by omega), List.getElem_take, ← cL (by rw [l7]; omega), rG (by omega)]
  have hsm := zH hnt (oA hrg k.1 k.2)
  have ht := hrg _ (bh (xs := order) (k := k.1) (by omega))
  have hone := C8 (i := (nth order k.1).toNat) (by omega)
  refine cq mixed rfl (AO rfl (AO rfl (bP rfl ?_)))
  refine DI rfl rfl rfl rfl rfl rfl (by omega) ?_
  refine JK rfl rfl rfl rfl (bP rfl ?_)
  refine Lj (a := 1) rfl rfl (by omega) (by omega) (by omega) ?_
  refine Kz rfl rfl (by omega) (by omega) ?_
  refine bY (E := xS) (xs := [nth ((dY order).take (k.1 + 1)) k.1 ||| 1 <<< (nth order k.1).toNat]) rfl rfl rfl rfl rfl (by decide) (by decide) (by repeat (first | exact (aT.nil : aT _ _ [] _) | (show aT _ _ ((_, _) :: _) _; apply aT.one; (· exact (rfl : _ = Ty.int _ _)); (· exact rfl)))) (by exact rfl) rfl ?_
  refine dz rfl rfl (by decide) rfl rfl rfl rfl rfl rfl (by decide) (by (simp <;> omega)) (by (simp <;> omega)) ?_
  refine uT rfl (aD ?_)
  refine ⟨by kernel_rfl, ?_⟩
  refine bJ (aC (aA ?_))
  refine cD rfl rfl (by omega) (by omega) ?_
  refine bP rfl (aD ?_)
  refine bS (⟨k.1 + 1, by omega⟩) ?_ (by show order.length - (k.1 + 1) < order.length - k.1; omega)
  (refine cr.mk' ?_ ?_ <;> (repeat' (first | exact aH | exact aI | refine aB ?_ (Ty.aS _) | refine aB ?_ (Ty.aG _) | refine aB ?_ ?_)))
  all_goals skip
  all_goals exact Ty.gy (Ii (by omega))
 refine b9 (aN (aN (aZ rfl (aC (aF (aY (aF ?_)))))))
 have hko : k.1 = order.length := by have := k.2; omega
 have hall : (dY order).take (k.1 + 1) = dY order := List.take_of_length_le (by rw [l7]; omega)
 have hnl : nth (dY order) order.length = setOf order := by rw [rG (Nat.le_refl _), List.take_length]
 have hone := C8 (i := order.length) (by omega)
 have hone1 := (M7 (n := order.length) (by omega)).2
 have hsl := l7 order
 refine mC (tg := 35) [(9, Ty.sl xS ((dY order).take (k.1 + 1)))] (by decide) rfl ⟨Of rfl, trivial⟩ ?_
 refine iX (s := 9) rfl (Ty.k8 hall) ?_
 refine cq mixed rfl (eV rfl (eV rfl (bq rfl rfl rfl ?_)))
 refine bC rfl rfl rfl rfl rfl rfl (by omega) ?_
 refine aL rfl rfl rfl rfl (eV rfl (bq rfl rfl rfl ?_))
 refine F0 (a := 1) rfl rfl (by omega) (by omega) ?_
 refine jo rfl rfl (by omega) (by omega) ?_
 refine av rfl rfl rfl (dJ rfl (aD ?_))
 refine ⟨by kernel_rfl, ?_⟩
 refine aC ?_
 refine dB rfl (fun hc5 => ?_) (fun hc5 => ?_)
 ·refine aF (aA (iT rfl (iT rfl (b8 rfl (aD (aC (au (af (aP ?_)))))))))
  refine r5 rfl rfl rfl rfl ?_ ?_ ?_
  all_goals skip
  all_goals first | exact Qt (o4 hc1 hc2 hc3 (fun h => hc5 (by rw [hnl]; exact h))) (by decide) | exact Qg (o4 hc1 hc2 hc3 (fun h => hc5 (by rw [hnl]; exact h))) (by decide) | exact QJ (o4 hc1 hc2 hc3 (fun h => hc5 (by rw [hnl]; exact h)))
 refine aF ?_
 have hfull : ((setOf order : Nat) : Int) = ((1 <<< order.length : Nat) : Int) - 1 := by have h := hc5; rw [hnl] at h; exact h
 refine iX (s := 9) rfl (Kh (dY order)) ?_
 refine aA (eV rfl (lT rfl ?_))
 refine rA (l := [Ty.pe iH (bO f) 0]) rfl ?_
 refine aq (jT (xF (dY order)) (Ty.Mx 97 [Ty.pe iH (bO f) 0]) rfl (fun x => eR (bO f) x.toNat) rfl rfl fun x hx => by obtain ⟨n, hn, rfl⟩ := List.mem_map.1 hx; exact uE (Hh (bO f) n (xG hnt hrg hn) hfi.before) rfl rfl rfl rfl rfl rfl) rfl rfl rfl rfl rfl ?_
 refine dK rfl (dJ rfl (aD (aC ?_)))
 refine c8 rfl (fun hc6 => ?_) (fun hc6 => ?_)
 ·refine aF (aA (iT rfl (iT rfl (b8 rfl (aD (aC (au (af (aP ?_)))))))))
  refine r5 rfl rfl rfl rfl ?_ ?_ ?_
  all_goals skip
  all_goals first | exact Qt (o5 hc1 hc2 hc3 hfull (by have h := hc6; rw [all_cast] at h; exact h)) (by decide) | exact Qg (o5 hc1 hc2 hc3 hfull (by have h := hc6; rw [all_cast] at h; exact h)) (by decide) | exact QJ (o5 hc1 hc2 hc3 hfull (by have h := hc6; rw [all_cast] at h; exact h))
 refine ak (bJ (aC (aF ?_)))
 have hall5 : (!(dY order).all (eR (bO f))) = false := by have h := hc6; rw [all_cast] at h; exact h
 refine iX (s := 9) rfl (GB (dY order)) ?_
 refine aA (lT rfl (eV rfl (Pd rfl (xO rfl (b8 rfl (aD (aC (au ?_))))))))
 refine r5 rfl rfl rfl rfl ?_ ?_ ?_
 all_goals skip
 all_goals first | exact tw rfl rfl (Ty.jR rfl fun _ => Ty.aG _) | exact bD rfl rfl (congrArg (Ty.sl xS) (if_pos (o6 hc1 hc2 hc3 hfull hall5)).symm) | exact QJ (o6 hc1 hc2 hc3 hfull hall5)
set_option maxRecDepth 100000 in
theorem Hs (f : cG) (hs : f.Small) (order : List Int) (hl : order.length ≤ 1000) : cy Tryz.prog 12 [mB f, Ty.sl eB order] (Ty.jk [Ty.sl Bp (wN f order), Ty.int .i64 (gN f order)]) := by
 refine aX Tryz.func12 rfl (by decide) Tryz.ntmps12 (by exact Nat.le_of_ble_eq_true rfl) fun w0 M0 => ?_
 have hs1 := hs.bears; have hs2 := hs.bins; have hs3 := hs.turnings; have hs4 := hs.rules
 refine aF (aA (az rfl (iT rfl (b8 rfl (aD (aC (aF (aA ?_))))))))
 refine aa rfl rfl rfl (by exact Nat.le_of_ble_eq_true rfl) ?_
 refine eV rfl (aq (J9 f hs order hl) rfl rfl rfl rfl rfl (uq rfl (bF rfl rfl (bF rfl rfl (bF rfl rfl (O3 rfl (xO rfl (b8 rfl (aD (aC (aF (aF (aA (bP rfl (av rfl rfl rfl ?_)))))))))))))))
 refine aD (aC ?_)
 refine dB rfl (fun hc1 => ?_) (fun hc1 => ?_)
 ·refine aF (aA (bP rfl (iT rfl (b8 rfl (aD (aC (au (aP ?_))))))))
  refine gG rfl rfl rfl ?_ ?_
  all_goals skip
  all_goals first | exact eS (if_pos (by rw [← sO]; exact hc1)) | exact bD rfl rfl (congrArg (Ty.int .i64) (sO f order))
 refine ak (aC (aF ?_))
 have hoP : fP f order = 0 := hc1
 have hoE : gN f order = 0 := by rw [← sO]; exact hoP
 obtain ⟨hck, hcp, hoM⟩ := FH hoE
 have hfi := nV hcp
 have hnt := Pn hcp
 have hsp := pO hoM
 have hb4 := (cK hcp).ranged.bears
 refine iX (s := 6) rfl (Ty.mZ (decide_eq_true hc1)) ?_
 refine iX (s := 7) rfl (Ty.sub_eq (congrArg (Ty.sl xS) (if_pos hoP))) ?_
 refine aA (iT rfl (aD (aC (aF (aF (aA (eV rfl (bq rfl rfl rfl (bP rfl (aD (aC (aY ?_))))))))))))
 refine cI (fun (k : {k : Nat // k ≤ (dY order).length}) => live [(2, Ty.pp (eT f)), (6, Ty.pe iH (bO f) 0), (9, Ty.row Bp 23 40 ((wm f order).take k.1)), (23, Ty.sl xS (dY order)), (24, Ty.int .i64 (dY order).length), (25, Ty.int .i64 (k.1 : Nat))] []) (fun k => (dY order).length - k.1) (⟨0, by omega⟩) ?_ fun k => ?_
 ·(refine cr.mk' ?_ ?_ <;> (repeat' (first | exact aH | exact aI | refine aB ?_ (Ty.aS _) | refine aB ?_ (Ty.aG _) | refine aB ?_ Ty.iP)))
 have hsl := l7 order
 have hrk : ((wm f order).take k.1).length = k.1 := by rw [List.length_take, rN]; omega
 refine aF (aA (av rfl rfl rfl (aD (aC (aF ?_)))))
 refine aj rfl (fun hc2 => ?_) (fun hc2 => ?_)
 ·refine ak (aC (aF (aY (aF (aA ?_)))))
  refine bC rfl rfl rfl rfl rfl rfl (by omega) ?_
  refine aL rfl rfl rfl rfl (b8 rfl (aD (aC (aF ?_))))
  have hsm : nth (dY order) k.1 < 256 := xG hnt hsp.2.1 (bh (by omega))
  refine aA (lT rfl (bP rfl (aq (Kl (bO f) hfi _ hsm) rfl rfl rfl rfl rfl ?_)))
  refine bX rfl (by exact List.cons_ne_nil _ _) rfl ?_
  refine jL rfl rfl (by decide) rfl rfl (by rw [q9]; rfl) (by rfl) ?_
  refine aD (aC ?_)
  have hl4 := q9 (bO f) (nth (dY order) k.1)
  refine mC (tg := 13) [(12, Ty.pa eB (gl (bO f) (nth (dY order) k.1)) 0)] (by decide) rfl ⟨PZ rfl rfl (by decide), trivial⟩ ?_
  refine aA (AO rfl ?_)
  refine aQ rfl rfl rfl rfl rfl (by decide) ?_
  refine aL rfl rfl rfl rfl (bq rfl rfl rfl ?_)
  refine Kj rfl rfl rfl rfl rfl (by exact Nat.le_of_ble_eq_true rfl) (by omega) (by omega) ?_
  refine aq (C0 _ (by rw [List.length_take]; omega)) rfl rfl rfl rfl rfl ?_
  refine bY (E := Bp) (xs := [rowP f (nth (dY order) k.1)]) rfl rfl rfl rfl rfl (by decide) (by decide) (by repeat (first | exact (aT.nil : aT _ _ [] _) | (show aT _ _ ((_, _) :: _) _; apply aT.one; (· exact (rfl : _ = Ty.sl _ _)); (· exact rfl)))) (by exact rfl) rfl ?_
  refine dz rfl rfl (by decide) rfl rfl rfl rfl rfl rfl (by decide) (by (simp <;> omega)) (by (simp <;> omega)) ?_
  refine uT rfl (aD (bJ (aC (aA ?_))))
  refine cD rfl rfl (by omega) (by omega) ?_
  refine bP rfl (aD ?_)
  refine bS (⟨k.1 + 1, by omega⟩) ?_ (by show (dY order).length - (k.1 + 1) < (dY order).length - k.1; omega)
  (refine cr.mk' ?_ ?_ <;> (repeat' (first | exact aH | exact aI | refine aB ?_ (Ty.aS _) | refine aB ?_ (Ty.aG _) | refine aB ?_ ?_)))
  all_goals skip
  all_goals exact Ty.gy (by rw [cE (by rw [rN]; omega), Iv (by omega)])
 refine b9 (aN (aN (aZ rfl (aC (aF (aA (AO rfl (uT rfl (b8 rfl (aD (aC (au ?_))))))))))))
 refine gG rfl rfl rfl ?_ ?_
 all_goals skip
 all_goals first | exact j7 (by decide) (by rw [wN, if_neg (fun h => h hoE), ← LX hcp hoM, show k.1 = (dY order).length by have := k.2; omega, List.take_of_length_le (by rw [rN]; exact Nat.le_refl _)]) | exact bD rfl rfl (congrArg (Ty.int .i64) hoE.symm)
section
variable {f : cG} {l : List Int}
end
end Go.Proofs.YtmmcenjknimhbaaGreat
namespace Go.Proofs.YtmmcenjknimhbaaGreat
open Go Go.T
set_option maxHeartbeats 2000000
theorem MY {b : aW} (h : AP b = false) : ∀ l ∈ b.lots, (0 ≤ l.inn ∧ l.inn < b.sizes.length) ∧ -1 ≤ l.aim ∧ l.aim < b.sizes.length := by
 unfold AP at h
 simp only [Bool.not_eq_false', List.all_eq_true, Bool.and_eq_true, Bool.or_eq_true, decide_eq_true_eq, aW.bin, iD] at h
 intro l hl
 have := h l hl
 omega
attribute [local irreducible] fL dg lG nG fZ gA fy fm ff nB gB m6 cw fA m4 ew nM nth eU cm aV cy bodyPost Exit.then Exit.inBlock Code.wp Code.wpIn fI ry rq rY iY sB rZ iV sA e9 gr p8 cT cO bodyPostM dW
set_option maxRecDepth 100000 in
theorem KB (n lo hi : Int) : cy Tryz.prog 150 [Ty.int .i64 n, Ty.int .i64 lo, Ty.int .i64 hi] (Ty.bool (Eb n lo hi)) := by
 refine aX Tryz.func150 rfl (by decide) Tryz.ntmps150 (by exact Nat.le_of_ble_eq_true rfl) fun w0 M0 => ?_
 refine aF (aA (dJ rfl (aD (aC (aF (aA (bP rfl (bP rfl (av rfl rfl rfl (gw rfl ?_))))))))))
 apply aM (s := 10) rfl rfl rfl
 ·intro hg; apply aO; (refine bP rfl ?_); refine aD ?_; exact rfl
 ·exact rfl
 ·exact rfl
 apply aM (s := 10) rfl rfl rfl
 ·intro hg; apply aO; (refine bP rfl ?_); refine aD ?_; exact rfl
 ·exact rfl
 ·exact rfl
 apply aM (s := 10) rfl rfl rfl
 ·intro hg; apply aJ (s := 11) rfl (by (rw [hg]; rfl)); apply aJ (s := 12) rfl (by (rw [hg]; rfl)); apply aO; (refine av rfl rfl rfl ?_); refine aD ?_; exact rfl
 ·exact rfl
 ·exact rfl
 refine fu rfl rfl (dJ rfl (aD (aC (au (bT rfl rfl ?_)))))
 all_goals exact bQ rfl rfl
set_option maxRecDepth 100000 in
theorem Km (b : aW) (hs : b.Small) (n : Int) : cy Tryz.prog 155 [eC b, Ty.int .i64 n] (Ty.bool (b.bin n)) := by
 refine aX Tryz.func155 rfl (by decide) Tryz.ntmps155 (by exact Nat.le_of_ble_eq_true rfl) fun w0 M0 => ?_
 have hs1 := hs.sizes
 refine aF (aA (az rfl (dJ rfl (aD (aC (aF (aA (bP rfl ?_))))))))
 refine aQ rfl rfl rfl rfl rfl (by decide) ?_
 refine aL rfl rfl rfl rfl (bq rfl rfl rfl ?_)
 refine jo rfl rfl (by omega) (by omega) ?_
 refine aq (KB _ _ _) rfl rfl rfl rfl rfl (dJ rfl (aD (aC (au (bT rfl rfl ?_)))))
 all_goals exact bQ rfl rfl
set_option maxRecDepth 100000 in
theorem Ot (b : aW) (hs : b.Small) (n : Int) : cy Tryz.prog 124 [eC b, Ty.int .i64 n] (Ty.bool (b.cJ n)) := by
 refine aX Tryz.func124 rfl (by decide) Tryz.ntmps124 (by exact Nat.le_of_ble_eq_true rfl) fun w0 M0 => ?_
 have hs1 := hs.lots
 refine aF (aA (az rfl (dJ rfl (aD (aC (aF (aA (bP rfl ?_))))))))
 refine aQ rfl rfl rfl rfl rfl (by decide) ?_
 refine aL rfl rfl rfl rfl (bq rfl rfl rfl ?_)
 refine jo rfl rfl (by omega) (by omega) ?_
 refine aq (KB _ _ _) rfl rfl rfl rfl rfl (dJ rfl (aD (aC (au (bT rfl rfl ?_)))))
 all_goals exact bQ rfl rfl
set_option maxRecDepth 100000 in
theorem tX (b : aW) (k i : Int) (hk : 0 ≤ k ∧ k < b.sizes.length) (hi : 0 ≤ i ∧ i < b.lots.length) : cy Tryz.prog 156 [eC b, Ty.int .i64 k, Ty.int .i64 i] (Ty.bool (b.hold k i)) := by
 refine aX Tryz.func156 rfl (by decide) Tryz.ntmps156 (by exact Nat.le_of_ble_eq_true rfl) fun w0 M0 => ?_
 refine aF (aA (az rfl (dJ rfl (aD (aC (aF (cq mixed rfl ?_)))))))
 refine aQ rfl rfl rfl rfl rfl (by decide) ?_
 refine aL rfl rfl rfl rfl (bP rfl ?_)
 refine dX rfl rfl rfl rfl rfl rfl (by omega) (by omega) ?_
 refine aL rfl rfl rfl rfl ?_
 refine aQ rfl rfl rfl rfl rfl (by decide) ?_
 refine aL rfl rfl rfl rfl (bP rfl ?_)
 refine dX rfl rfl rfl rfl rfl rfl (by omega) (by omega) ?_
 refine aQ rfl rfl rfl rfl rfl (by decide) ?_
 refine aL rfl rfl rfl rfl (av rfl rfl rfl (dJ rfl (aD ?_)))
 refine ⟨by kernel_rfl, ?_⟩
 refine aC (au (bT rfl rfl ?_))
 all_goals exact bQ rfl rfl
set_option maxRecDepth 100000 in
theorem Mr (n : Int) : cy Tryz.prog 151 [Ty.int .i64 n] (Ty.bool (Eb n 0 300)) := by
 refine aX Tryz.func151 rfl (by decide) Tryz.ntmps151 (by exact Nat.le_of_ble_eq_true rfl) fun w0 M0 => ?_
 refine aF (aA (dJ rfl (aD (aC (aF (aA (bP rfl (aq (KB _ _ _) rfl rfl rfl rfl rfl (dJ rfl (aD (aC (au (bT rfl rfl ?_)))))))))))))
 all_goals exact bQ rfl rfl
set_option maxRecDepth 100000 in
theorem LK (l : p4) : cy Tryz.prog 153 [Ty.agg (gC.tys l)] (Ty.bool (Eb l.sacks 1 300)) := by
 refine aX Tryz.func153 rfl (by decide) Tryz.ntmps153 (by exact Nat.le_of_ble_eq_true rfl) fun w0 M0 => ?_
 refine aF (aA (az rfl (dJ rfl (aD (aC (aF (aA ?_)))))))
 refine aQ rfl rfl rfl rfl rfl (by decide) ?_
 refine aL rfl rfl rfl rfl (aq (KB _ _ _) rfl rfl rfl rfl rfl (dJ rfl (aD (aC (au (bT rfl rfl ?_))))))
 all_goals exact bQ rfl rfl
set_option maxRecDepth 100000 in
theorem NC (b : aW) (hs : b.Small) (l : p4) : cy Tryz.prog 154 [Ty.agg (gC.tys l), Ty.pp (cH b)] (Ty.bool (b.bin l.inn && (decide (l.aim = -1) || b.bin l.aim))) := by
 refine aX Tryz.func154 rfl (by decide) Tryz.ntmps154 (by exact Nat.le_of_ble_eq_true rfl) fun w0 M0 => ?_
 refine aF (aA (az rfl (dJ rfl (aD (aC (aF (aA ?_)))))))
 refine aa rfl rfl rfl (by exact Nat.le_of_ble_eq_true rfl) ?_
 refine aQ rfl rfl rfl rfl rfl (by decide) ?_
 refine aL rfl rfl rfl rfl (aq (Km b hs _) rfl rfl rfl rfl rfl (gw rfl ?_))
 apply aM (s := 8) rfl rfl rfl
 ·intro hg; apply aO; (refine aQ rfl rfl rfl rfl rfl (by decide) ?_); refine aD ?_; exact rfl
 ·exact rfl
 ·exact rfl
 apply aM (s := 8) rfl rfl rfl
 ·intro hg; apply aJ (s := 9) rfl (by (rw [hg]; rfl)); apply aO; (refine aL rfl rfl rfl rfl ?_); refine aD ?_; exact rfl
 ·exact rfl
 ·exact rfl
 apply aM (s := 8) rfl rfl rfl
 ·intro hg; apply aJ (s := 10) rfl (by (rw [hg]; rfl)); apply aO; (refine av rfl rfl rfl ?_); refine aD ?_; exact rfl
 ·exact rfl
 ·exact rfl
 apply aM (s := 8) rfl rfl rfl
 ·intro hg; apply aJ (s := 11) rfl (by (rw [hg]; rfl)); apply aO; (refine gw rfl ?_); refine aD ?_; exact rfl
 ·exact rfl
 ·exact rfl
 apply eo (s := 12) rfl rfl rfl
 ·intro hg1 hg2; apply aO; (refine aa rfl rfl rfl (by exact Nat.le_of_ble_eq_true rfl) ?_); refine aD ?_; exact rfl
 ·exact rfl
 ·exact rfl
 apply eo (s := 12) rfl rfl rfl
 ·intro hg1 hg2; apply aO; (refine aQ rfl rfl rfl rfl rfl (by decide) ?_); refine aD ?_; exact rfl
 ·exact rfl
 ·exact rfl
 apply eo (s := 12) rfl rfl rfl
 ·intro hg1 hg2; apply aJ (s := 14) rfl (by (rw [hg1, hg2]; rfl)); apply aO; (refine aL rfl rfl rfl rfl ?_); refine aD ?_; exact rfl
 ·exact rfl
 ·exact rfl
 apply eo (s := 12) rfl rfl rfl
 ·intro hg1 hg2; apply aJ (s := 13) rfl (by (rw [hg1, hg2]; rfl)); apply aJ (s := 15) rfl (by (rw [hg1, hg2]; rfl)); apply aO; (refine aq (Km b hs _) rfl rfl rfl rfl rfl ?_); refine aD ?_; exact rfl
 ·exact rfl
 ·exact rfl
 apply aM (s := 8) rfl rfl rfl
 ·intro hg; apply aJ (s := 12) rfl (by (rw [hg]; rfl)); apply oP (s := 16) rfl (by (rw [hg]; rfl)); apply aO; (refine iS rfl rfl ?_); refine aD ?_; exact rfl
 ·exact rfl
 ·exact rfl
 refine fu rfl rfl (dJ rfl (aD (aC (au (bT rfl rfl ?_)))))
 all_goals exact bQ rfl rfl
set_option maxRecDepth 100000 in
theorem x8 (b : aW) (hs : b.Small) : cy Tryz.prog 107 [eC b] (Ty.int .i64 (cS b)) := by
 refine aX Tryz.func107 rfl (by decide) Tryz.ntmps107 (by exact Nat.le_of_ble_eq_true rfl) fun w0 M0 => ?_
 have hs1 := hs.sizes
 have hs2 := hs.lots
 refine aF (aA (az rfl (b8 rfl (aD (aC (aF (aY (aF (aA ?_)))))))))
 refine aQ rfl rfl rfl rfl rfl (by decide) ?_
 refine aL rfl rfl rfl rfl (bq rfl rfl rfl (aq (KB _ _ _) rfl rfl rfl rfl rfl (dK rfl (gw rfl ?_))))
 apply aM (s := 15) rfl rfl rfl
 ·intro hg; apply aO; (refine aQ rfl rfl rfl rfl rfl (by decide) ?_); refine aD ?_; exact rfl
 ·exact rfl
 ·exact rfl
 apply aM (s := 15) rfl rfl rfl
 ·intro hg; apply aJ (s := 16) rfl (by (rw [hg]; rfl)); apply aO; (refine aL rfl rfl rfl rfl ?_); refine aD ?_; exact rfl
 ·exact rfl
 ·exact rfl
 apply aM (s := 15) rfl rfl rfl
 ·intro hg; apply aJ (s := 17) rfl (by (rw [hg]; rfl)); apply aO; (refine bq rfl rfl rfl ?_); refine aD ?_; exact rfl
 ·exact rfl
 ·exact rfl
 apply aM (s := 15) rfl rfl rfl
 ·intro hg; apply aJ (s := 18) rfl (by (rw [hg]; rfl)); apply aO; (refine av rfl rfl rfl ?_); refine aD ?_; exact rfl
 ·exact rfl
 ·exact rfl
 refine iS rfl rfl (dJ rfl (aD (aC ?_)))
 refine c8 rfl (fun hc1 => ?_) (fun hc1 => ?_)
 ·refine aF (aA (b8 rfl (aD (aC (au (af (aP (bT rfl rfl ?_))))))))
  all_goals skip
  exact bD rfl rfl (congrArg (Ty.int .i64) (by rw [cS, if_pos (show rX b = true from hc1)]))
 refine aF (aA ?_)
 refine aQ rfl rfl rfl rfl rfl (by decide) ?_
 refine aL rfl rfl rfl rfl ?_
 refine aq (xI b.sizes (Ty.jh _ []) rfl (fun n => Eb n 0 300) rfl rfl fun x _ => dM (Mr x) rfl rfl rfl rfl rfl rfl) rfl rfl rfl rfl rfl ?_
 refine dK rfl (gw rfl ?_)
 apply aM (s := 26) rfl rfl rfl
 ·intro hg; apply aO; (refine aQ rfl rfl rfl rfl rfl (by decide) ?_); refine aD ?_; exact rfl
 ·exact rfl
 ·exact rfl
 apply aM (s := 26) rfl rfl rfl
 ·intro hg; apply aJ (s := 27) rfl (by (rw [hg]; rfl)); apply aO; (refine aL rfl rfl rfl rfl ?_); refine aD ?_; exact rfl
 ·exact rfl
 ·exact rfl
 apply aM (s := 26) rfl rfl rfl
 ·intro hg; apply aJ (s := 28) rfl (by (rw [hg]; rfl)); apply aO; (refine aq (nD b.lots (Ty.jh _ []) rfl (fun l => Eb l.sacks 1 300) rfl rfl fun x _ => dM (LK x) rfl rfl rfl rfl rfl rfl) rfl rfl rfl rfl rfl ?_); refine aD ?_; exact rfl
 ·exact rfl
 ·exact rfl
 apply aM (s := 26) rfl rfl rfl
 ·intro hg; apply aJ (s := 29) rfl (by (rw [hg]; rfl)); apply aO; (refine dK rfl ?_); refine aD ?_; exact rfl
 ·exact rfl
 ·exact rfl
 refine iS rfl rfl (dJ rfl (aD (aC ?_)))
 refine c8 rfl (fun hc2 => ?_) (fun hc2 => ?_)
 ·refine aF (aA (b8 rfl (aD (aC (au (af (aP (bT rfl rfl ?_))))))))
  all_goals skip
  exact bD rfl rfl (congrArg (Ty.int .i64) (by rw [cS, if_neg (ng (show rX b = false from hc1)), if_pos (show oy b = true from hc2)]))
 refine aF (aA ?_)
 refine aQ rfl rfl rfl rfl rfl (by decide) ?_
 refine aL rfl rfl rfl rfl (cx rfl ?_)
 refine aq (nD b.lots (Ty.jh _ [Ty.pp (cH b)]) rfl (fun l => b.bin l.inn && (decide (l.aim = -1) || b.bin l.aim)) rfl rfl fun x _ => dM (NC b hs x) rfl rfl rfl rfl rfl rfl) rfl rfl rfl rfl rfl ?_
 refine dK rfl (dJ rfl (aD (aC ?_)))
 refine c8 rfl (fun hc3 => ?_) (fun hc3 => ?_)
 ·refine aF (aA (b8 rfl (aD (aC (au (af (aP (bT rfl rfl ?_))))))))
  all_goals skip
  exact bD rfl rfl (congrArg (Ty.int .i64) (by rw [cS, if_neg (ng (show rX b = false from hc1)), if_neg (ng (show oy b = false from hc2)), if_pos (show AP b = true from hc3)]))
 refine ak (bJ (aC (aF (aF (aA ?_)))))
 refine aQ rfl rfl rfl rfl rfl (by decide) ?_
 refine aL rfl rfl rfl rfl (bq rfl rfl rfl (bP rfl (aD (aC (aY ?_)))))
 refine cI (fun (i : {i : Nat // ∀ j, j < i → C1 b j = false}) => live [(1, Ty.pp (cH b)), (39, Ty.sl gC b.lots), (40, Ty.int .i64 b.lots.length), (41, Ty.int .i64 (i.1 : Nat))] []) (fun i => b.lots.length - i.1) (⟨0, fun j hj => absurd hj (Nat.not_lt_zero j)⟩) ?_ fun i => ?_
 ·(refine cr.mk' ?_ ?_ <;> (repeat' (first | exact aH | exact aI | refine aB ?_ (Ty.aS _) | refine aB ?_ (Ty.aG _))))
 refine aF (aA (av rfl rfl rfl (aD (aC (aF ?_)))))
 refine aj rfl (fun hc4 => ?_) (fun hc4 => ?_)
 ·refine ak (aC (aF (aY (aF (aA (bP rfl ?_))))))
  refine bC rfl rfl rfl rfl rfl rfl (by omega) ?_
  refine aa rfl rfl rfl (by exact Nat.le_of_ble_eq_true rfl) ?_
  refine bX rfl (by exact List.cons_ne_nil _ _) rfl ?_
  refine b8 rfl ?_
  refine bW rfl rfl (by decide) rfl rfl rfl rfl rfl rfl ?_
  refine aD (aC (aF (aA ?_)))
  refine aQ rfl rfl rfl rfl rfl (by decide) ?_
  refine aL rfl rfl rfl rfl (bP rfl ?_)
  refine qF rfl rfl rfl rfl rfl rfl (by omega) ?_
  refine bq rfl rfl rfl (bP rfl (aD (aC (aY ?_))))
  refine cI (fun (m : {m : Nat // ∀ k ∈ (b.lots.take i.1).take m, Ct (nth b.lots i.1) k = false}) => live [(1, Ty.pp (cH b)), (4, Ty.ptr 5 0), (39, Ty.sl gC b.lots), (40, Ty.int .i64 b.lots.length), (41, Ty.int .i64 (i.1 : Nat)), (49, Ty.sl gC (b.lots.take i.1)), (50, Ty.int .i64 (i.1 : Nat)), (51, Ty.int .i64 (m.1 : Nat))] [(5, Cont.cells 67 (gC.tys (nth b.lots i.1)))]) (fun m => i.1 - m.1) (⟨0, by simp⟩) ?_ fun m => ?_
  ·(refine cr.mk' ?_ ?_ <;> (repeat' (first | exact aH | exact aI | refine aB ?_ (Ty.aS _) | refine aB ?_ (Ty.aG _) | refine aK rfl (Cont.aG _) ?_ | refine aB ?_ ?_)))
   all_goals exact Ty.bg (by rw [List.length_take]; omega)
  refine aF (aA (av rfl rfl rfl (aD (aC (aF ?_)))))
  refine aj rfl (fun hc5 => ?_) (fun hc5 => ?_)
  ·refine ak (aC (aF (aY (aF (aA ?_)))))
   refine bC rfl rfl rfl rfl rfl rfl (by (simp <;> omega)) ?_
   refine aa rfl rfl rfl (by exact Nat.le_of_ble_eq_true rfl) ?_
   refine bX rfl (by exact List.cons_ne_nil _ _) rfl ?_
   refine bW rfl rfl (by decide) rfl rfl rfl rfl rfl rfl ?_
   refine aD (aC (aF (aA ?_)))
   refine aR rfl rfl rfl rfl rfl (by decide) ?_
   refine aU rfl rfl (by decide) rfl rfl rfl ?_
   refine aR rfl rfl rfl rfl rfl (by decide) ?_
   refine aU rfl rfl (by decide) rfl rfl rfl ?_
   refine av rfl rfl rfl (gw rfl ?_)
   apply aM (s := 60) rfl rfl rfl
   ·intro hg; apply aO; (refine aR rfl rfl rfl rfl rfl (by decide) ?_); refine aD ?_; exact rfl
   ·exact rfl
   ·exact rfl
   apply aM (s := 60) rfl rfl rfl
   ·intro hg; apply aJ (s := 61) rfl (by (rw [hg]; rfl)); apply aO; (refine aU rfl rfl (by decide) rfl rfl rfl ?_); refine aD ?_; exact rfl
   ·exact rfl
   ·exact rfl
   apply aM (s := 60) rfl rfl rfl
   ·intro hg; apply aO; (refine aR rfl rfl rfl rfl rfl (by decide) ?_); refine aD ?_; exact rfl
   ·exact rfl
   ·exact rfl
   apply aM (s := 60) rfl rfl rfl
   ·intro hg; apply aJ (s := 63) rfl (by (rw [hg]; rfl)); apply aO; (refine aU rfl rfl (by decide) rfl rfl rfl ?_); refine aD ?_; exact rfl
   ·exact rfl
   ·exact rfl
   apply aM (s := 60) rfl rfl rfl
   ·intro hg; apply aJ (s := 62) rfl (by (rw [hg]; rfl)); apply aJ (s := 64) rfl (by (rw [hg]; rfl)); apply aO; (refine av rfl rfl rfl ?_); refine aD ?_; exact rfl
   ·exact rfl
   ·exact rfl
   apply aM (s := 60) rfl rfl rfl
   ·intro hg; apply aJ (s := 65) rfl (by (rw [hg]; rfl)); apply aO; (refine gw rfl ?_); refine aD ?_; exact rfl
   ·exact rfl
   ·exact rfl
   apply eo (s := 66) rfl rfl rfl
   ·intro hg1 hg2; apply aO; (refine aR rfl rfl rfl rfl rfl (by decide) ?_); refine aD ?_; exact rfl
   ·exact rfl
   ·exact rfl
   apply eo (s := 66) rfl rfl rfl
   ·intro hg1 hg2; apply aJ (s := 67) rfl (by (rw [hg1, hg2]; rfl)); apply aO; (refine aU rfl rfl (by decide) rfl rfl rfl ?_); refine aD ?_; exact rfl
   ·exact rfl
   ·exact rfl
   apply eo (s := 66) rfl rfl rfl
   ·intro hg1 hg2; apply aJ (s := 68) rfl (by (rw [hg1, hg2]; rfl)); apply aO; (refine av rfl rfl rfl ?_); refine aD ?_; exact rfl
   ·exact rfl
   ·exact rfl
   apply aM (s := 60) rfl rfl rfl
   ·intro hg; apply aJ (s := 66) rfl (by (rw [hg]; rfl)); apply oP (s := 69) rfl (by (rw [hg]; rfl)); apply aO; (refine fu rfl rfl ?_); refine aD ?_; exact rfl
   ·exact rfl
   ·exact rfl
   refine iS rfl rfl (aD (aC ?_))
   refine c8 rfl (fun hc6 => ?_) (fun hc6 => ?_)
   ·refine aF (aA (b8 rfl (aD (aC (au (af (aP (aP (af (af (aP (aP (af (aP (bT rfl rfl ?_)))))))))))))))
    all_goals skip
    exact bD rfl rfl (congrArg (Ty.int .i64) (by rw [cS, if_neg (ng (show rX b = false from hc1)), if_neg (ng (show oy b = false from hc2)), if_neg (ng (show AP b = false from hc3)), if_pos (show sZ b = true from CK (k := i.1) (by omega) (Lp (k := m.1) (by rw [List.length_take]; omega) hc6))]))
   refine ak (bJ (aC (aA ?_)))
   refine cD rfl rfl (by omega) (by omega) ?_
   refine bP rfl (aD ?_)
   refine bS (⟨m.1 + 1, CH m.2 (by rw [List.length_take]; omega) hc6⟩) ?_ (by show i.1 - (m.1 + 1) < i.1 - m.1; omega)
   (refine cr.mk' ?_ ?_ <;> (repeat' (first | exact aH | exact aI | refine aB ?_ (Ty.aS _) | refine aB ?_ (Ty.aG _) | refine aK rfl (Cont.aG _) ?_)))
   all_goals skip
  refine b9 (aN (aN (aZ rfl (bJ (aC (aA ?_))))))
  refine cD rfl rfl (by omega) (by omega) ?_
  refine bP rfl (aD ?_)
  refine bS (⟨i.1 + 1, DC i.2 (Hu m.2 (by rw [List.length_take]; omega))⟩) ?_ (by show b.lots.length - (i.1 + 1) < b.lots.length - i.1; omega)
  (refine cr.mk' ?_ ?_ <;> (repeat' (first | exact aH | exact aI | refine aB ?_ (Ty.aS _) | refine aB ?_ (Ty.aG _))))
  all_goals skip
 refine b9 (aN (aN (aZ rfl (aC (aF (aF (aA ?_)))))))
 refine aQ rfl rfl rfl rfl rfl (by decide) ?_
 refine aL rfl rfl rfl rfl (bq rfl rfl rfl (bP rfl (aD (aC (aY ?_)))))
 refine cI (fun (i2 : {i : Nat // ∀ j, j < i → IK b j = false}) => live [(1, Ty.pp (cH b)), (75, Ty.sl gC b.lots), (76, Ty.int .i64 b.lots.length), (77, Ty.int .i64 (i2.1 : Nat))] []) (fun i2 => b.lots.length - i2.1) (⟨0, fun j hj => absurd hj (Nat.not_lt_zero j)⟩) ?_ fun i2 => ?_
 ·(refine cr.mk' ?_ ?_ <;> (repeat' (first | exact aH | exact aI | refine aB ?_ (Ty.aS _) | refine aB ?_ (Ty.aG _))))
 have hi2 := MY (b := b) hc3
 refine aF (aA (av rfl rfl rfl (aD (aC (aF ?_)))))
 refine aj rfl (fun hc7 => ?_) (fun hc7 => ?_)
 ·refine ak (aC (aF (aY (aF ?_))))
  have hn2 := hi2 _ (bh (xs := b.lots) (k := i2.1) (by omega))
  refine aA (bP rfl ?_)
  refine bC rfl rfl rfl rfl rfl rfl (by omega) ?_
  refine aa rfl rfl rfl (by exact Nat.le_of_ble_eq_true rfl) ?_
  refine bX rfl (by exact List.cons_ne_nil _ _) rfl ?_
  refine b8 rfl ?_
  refine bW rfl rfl (by decide) rfl rfl rfl rfl rfl rfl ?_
  refine aD (aC (aF (aA ?_)))
  refine aa rfl rfl rfl (by exact Nat.le_of_ble_eq_true rfl) ?_
  refine aR rfl rfl rfl rfl rfl (by decide) ?_
  refine aU rfl rfl (by decide) rfl rfl rfl ?_
  refine bP rfl ?_
  refine aq (tX b (nth b.lots i2.1).inn i2.1 hn2.1 ⟨by omega, by omega⟩) rfl rfl rfl rfl rfl ?_
  refine dK rfl (gw rfl ?_)
  apply aM (s := 88) rfl rfl rfl
  ·intro hg; apply aO; (refine aR rfl rfl rfl rfl rfl (by decide) ?_); refine aD ?_; exact rfl
  ·exact rfl
  ·exact rfl
  apply aM (s := 88) rfl rfl rfl
  ·intro hg; apply aJ (s := 89) rfl (by (rw [hg]; rfl)); apply aO; (refine aU rfl rfl (by decide) rfl rfl rfl ?_); refine aD ?_; exact rfl
  ·exact rfl
  ·exact rfl
  apply aM (s := 88) rfl rfl rfl
  ·intro hg; apply aJ (s := 90) rfl (by (rw [hg]; rfl)); apply aO; (refine av rfl rfl rfl ?_); refine aD ?_; exact rfl
  ·exact rfl
  ·exact rfl
  apply aM (s := 88) rfl rfl rfl
  ·intro hg; apply aJ (s := 91) rfl (by (rw [hg]; rfl)); apply aO; (refine gw rfl ?_); refine aD ?_; exact rfl
  ·exact rfl
  ·exact rfl
  apply eo (s := 92) rfl rfl rfl
  ·intro hg1 hg2; apply aO; (refine aa rfl rfl rfl (by exact Nat.le_of_ble_eq_true rfl) ?_); refine aD ?_; exact rfl
  ·exact rfl
  ·exact rfl
  apply eo (s := 92) rfl rfl rfl
  ·intro hg1 hg2; apply aO; (refine aR rfl rfl rfl rfl rfl (by decide) ?_); refine aD ?_; exact rfl
  ·exact rfl
  ·exact rfl
  apply eo (s := 92) rfl rfl rfl
  ·intro hg1 hg2; apply aJ (s := 94) rfl (by (rw [hg1, hg2]; rfl)); apply aO; (refine aU rfl rfl (by decide) rfl rfl rfl ?_); refine aD ?_; exact rfl
  ·exact rfl
  ·exact rfl
  apply eo (s := 92) rfl rfl rfl
  ·intro hg1 hg2; apply aO; (refine bP rfl ?_); refine aD ?_; exact rfl
  ·exact rfl
  ·exact rfl
  apply eo (s := 92) rfl rfl rfl
  ·intro hg1 hg2; apply aJ (s := 93) rfl (by (rw [hg1, hg2]; rfl)); apply aJ (s := 95) rfl (by (rw [hg1, hg2]; rfl)); apply aJ (s := 96) rfl (by (rw [hg1, hg2]; rfl)); apply aO; (refine aq (tX b (nth b.lots i2.1).aim i2.1 ⟨by have h9 : (nth b.lots i2.1).aim ≠ -1 := (by simpa using hg2); omega, hn2.2.2⟩ ⟨by omega, by omega⟩) rfl rfl rfl rfl rfl ?_); refine aD ?_; exact rfl
  ·exact rfl
  ·exact rfl
  apply eo (s := 92) rfl rfl rfl
  ·intro hg1 hg2; apply aJ (s := 97) rfl (by (rw [hg1, hg2]; rfl)); apply aO; (refine dK rfl ?_); refine aD ?_; exact rfl
  ·exact rfl
  ·exact rfl
  apply aM (s := 88) rfl rfl rfl
  ·intro hg; apply aJ (s := 92) rfl (by (rw [hg]; rfl)); apply oP (s := 98) rfl (by (rw [hg]; rfl)); apply aO; (refine fu rfl rfl ?_); refine aD ?_; exact rfl
  ·exact rfl
  ·exact rfl
  refine iS rfl rfl (aD (aC ?_))
  refine c8 rfl (fun hc8 => ?_) (fun hc8 => ?_)
  ·refine aF (aA (b8 rfl (aD (aC (au (af (aP (aP (af (aP (bT rfl rfl ?_)))))))))))
   all_goals skip
   exact bD rfl rfl (congrArg (Ty.int .i64) (by rw [cS, if_neg (ng (show rX b = false from hc1)), if_neg (ng (show oy b = false from hc2)), if_neg (ng (show AP b = false from hc3)), if_neg (ng (show sZ b = false from xX i.2 (by omega))), if_pos (show Ax b = true from CK (k := i2.1) (by omega) hc8)]))
  refine ak (bJ (aC (aA ?_)))
  refine cD rfl rfl (by omega) (by omega) ?_
  refine bP rfl (aD ?_)
  refine bS (⟨i2.1 + 1, DC i2.2 hc8⟩) ?_ (by show b.lots.length - (i2.1 + 1) < b.lots.length - i2.1; omega)
  (refine cr.mk' ?_ ?_ <;> (repeat' (first | exact aH | exact aI | refine aB ?_ (Ty.aS _) | refine aB ?_ (Ty.aG _))))
  all_goals skip
 refine b9 (aN (aN (aZ rfl (aC (aF (aA (b8 rfl (aD (aC (au (bT rfl rfl ?_)))))))))))
 all_goals skip
 exact bD rfl rfl (congrArg (Ty.int .i64) (by rw [cS, if_neg (ng (show rX b = false from hc1)), if_neg (ng (show oy b = false from hc2)), if_neg (ng (show AP b = false from hc3)), if_neg (ng (show sZ b = false from xX i.2 (by omega))), if_neg (ng (show Ax b = false from xX i2.2 (by omega)))]))
end Go.Proofs.YtmmcenjknimhbaaGreat
namespace Go.Proofs.YtmmcenjknimhbaaGreat
open Go Go.T
set_option maxHeartbeats 2000000
attribute [local irreducible] fL dg lG nG fZ gA fy fm ff nB gB m6 cw fA m4 ew nM nth eU cm aV cy bodyPost Exit.then Exit.inBlock Code.wp Code.wpIn fI ry rq rY iY sB rZ iV sA e9 gr p8 cT cO bodyPostM dW
theorem sq {α : Type} {E : El α} {T tg : Nat} {xs : List α} (e : [] = xs) : (Ty.ex (.slice none 0 0)).Sub (Ty.row E T tg xs) := by subst e; exact Ty.iP
set_option maxRecDepth 100000 in
theorem Nz (k : Int) (l : p4) : cy Tryz.prog 184 [Ty.agg (gC.tys l), Ty.pp [Ty.int .i64 k]] (Ty.bool (!decide (l.inn = k))) := by
 refine aX Tryz.func184 rfl (by decide) Tryz.ntmps184 (by exact Nat.le_of_ble_eq_true rfl) fun w0 M0 => ?_
 refine aF (aA (az rfl (dJ rfl (aD (aC (aF (aA ?_)))))))
 refine aQ rfl rfl rfl rfl rfl (by decide) ?_
 refine aL rfl rfl rfl rfl (aL rfl rfl rfl rfl (av rfl rfl rfl (dJ rfl (aD (aC (au (bT rfl rfl ?_)))))))
 all_goals exact bQ rfl rfl
set_option maxRecDepth 100000 in
theorem Ph (b : aW) (k : Int) : cy Tryz.prog 157 [eC b, Ty.int .i64 k] (Ty.bool (b.free k)) := by
 refine aX Tryz.func157 rfl (by decide) Tryz.ntmps157 (by exact Nat.le_of_ble_eq_true rfl) fun w0 M0 => ?_
 refine aF (aA (az rfl ?_))
 refine dy (by exact (rfl : _ = Ty.int _ _)) rfl ?_
 refine dJ rfl (aD (aC (aF (aA ?_))))
 refine aQ rfl rfl rfl rfl rfl (by decide) ?_
 refine aL rfl rfl rfl rfl (cx rfl ?_)
 refine aq (nD b.lots (Ty.jh _ [Ty.pp [Ty.int .i64 k]]) rfl (fun l => !decide (l.inn = k)) rfl rfl fun x _ => dM (Nz k x) rfl rfl rfl rfl rfl rfl) rfl rfl rfl rfl rfl ?_
 refine dJ rfl (aD (aC (au (bT rfl rfl ?_))))
 all_goals exact bQ rfl rfl
set_option maxRecDepth 100000 in
theorem JT (k : Int) (l : p4) : cy Tryz.prog 204 [Ty.agg (gC.tys l), Ty.pp [Ty.int .i64 k]] (Ty.bool (decide (l.aim = k))) := by
 refine aX Tryz.func204 rfl (by decide) Tryz.ntmps204 (by exact Nat.le_of_ble_eq_true rfl) fun w0 M0 => ?_
 refine aF (aA (az rfl (dJ rfl (aD (aC (aF (aA ?_)))))))
 refine aQ rfl rfl rfl rfl rfl (by decide) ?_
 refine aL rfl rfl rfl rfl (aL rfl rfl rfl rfl (av rfl rfl rfl (dJ rfl (aD (aC (au (bT rfl rfl ?_)))))))
 all_goals exact bQ rfl rfl
set_option maxRecDepth 100000 in
theorem Kk (b : aW) (k : Int) : cy Tryz.prog 168 [eC b, Ty.int .i64 k] (Ty.bool (b.wanted k)) := by
 refine aX Tryz.func168 rfl (by decide) Tryz.ntmps168 (by exact Nat.le_of_ble_eq_true rfl) fun w0 M0 => ?_
 refine aF (aA (az rfl ?_))
 refine dy (by exact (rfl : _ = Ty.int _ _)) rfl ?_
 refine dJ rfl (aD (aC (aF (aA ?_))))
 refine aQ rfl rfl rfl rfl rfl (by decide) ?_
 refine aL rfl rfl rfl rfl (cx rfl ?_)
 refine aq (iz b.lots (Ty.jh _ [Ty.pp [Ty.int .i64 k]]) rfl (fun l => decide (l.aim = k)) rfl rfl fun x _ => dM (JT k x) rfl rfl rfl rfl rfl rfl) rfl rfl rfl rfl rfl ?_
 refine dJ rfl (aD (aC (au (bT rfl rfl ?_))))
 all_goals exact bQ rfl rfl
set_option maxRecDepth 100000 in
theorem GZ (k : Int) (l : p4) : cy Tryz.prog 167 [Ty.agg (gC.tys l), Ty.pp [Ty.int .i64 k]] (Ty.bool (decide (l.inn = k))) := by
 refine aX Tryz.func167 rfl (by decide) Tryz.ntmps167 (by exact Nat.le_of_ble_eq_true rfl) fun w0 M0 => ?_
 refine aF (aA (az rfl (dJ rfl (aD (aC (aF (aA ?_)))))))
 refine aQ rfl rfl rfl rfl rfl (by decide) ?_
 refine aL rfl rfl rfl rfl (aL rfl rfl rfl rfl (av rfl rfl rfl (dJ rfl (aD (aC (au (bT rfl rfl ?_)))))))
 all_goals exact bQ rfl rfl
set_option maxRecDepth 100000 in
theorem JI (b : aW) (i : Int) (hi : 0 ≤ i ∧ i < b.lots.length) : cy Tryz.prog 125 [eC b, Ty.int .i64 i] (Ty.int .i64 (follows b i)) := by
 refine aX Tryz.func125 rfl (by decide) Tryz.ntmps125 (by exact Nat.le_of_ble_eq_true rfl) fun w0 M0 => ?_
 refine aF (aA (az rfl (b8 rfl (aD (aC (aF (aA ?_)))))))
 refine aQ rfl rfl rfl rfl rfl (by decide) ?_
 refine aL rfl rfl rfl rfl (bP rfl ?_)
 refine dX rfl rfl rfl rfl rfl rfl (by omega) (by omega) ?_
 refine aQ rfl rfl rfl rfl rfl (by decide) ?_
 refine aL rfl rfl rfl rfl ?_
 refine bX rfl (by exact List.cons_ne_nil _ _) rfl ?_
 refine cj rfl rfl (by decide) rfl rfl (by exact (rfl : _ = Ty.int _ _)) rfl (by exact Nat.le_of_ble_eq_true rfl) rfl rfl (by exact (rfl : _ = [_])) ?_
 refine aD (aC (aF ?_))
 refine mC (tg := 6) [(5, Ty.pp [Ty.int .i64 (nth b.lots i.toNat).aim])] (by decide) rfl ⟨ow (T := 3) (tg := 6) (off := 0) (l := [Ty.int .i64 (nth b.lots i.toNat).aim]) rfl rfl rfl (by decide), trivial⟩ ?_
 refine aA ?_
 refine aQ rfl rfl rfl rfl rfl (by decide) ?_
 refine aL rfl rfl rfl rfl (cx rfl ?_)
 refine aq (pq b.lots (Ty.jh _ [Ty.pp [Ty.int .i64 (nth b.lots i.toNat).aim]]) rfl (fun l => decide (l.inn = (nth b.lots i.toNat).aim)) rfl rfl fun x _ => dM (GZ _ x) rfl rfl rfl rfl rfl rfl) rfl rfl rfl rfl rfl ?_
 refine b8 rfl (aD (aC (au (bT rfl rfl ?_))))
 all_goals exact bQ rfl rfl
set_option maxRecDepth 100000 in
theorem PI (b : aW) (hs : b.Small) : cy Tryz.prog 126 [eC b] (Ty.sl eB (IE b)) := by
 refine aX Tryz.func126 rfl (by decide) Tryz.ntmps126 (by exact Nat.le_of_ble_eq_true rfl) fun w0 M0 => ?_
 have hs1 := hs.lots
 refine aF (aA (az rfl (iT rfl (aD (aC (aF (aA (iT rfl (aD (aC (aF (aF (aA ?_)))))))))))))
 refine aQ rfl rfl rfl rfl rfl (by decide) ?_
 refine aL rfl rfl rfl rfl (bq rfl rfl rfl (bP rfl (aD (aC (aY ?_)))))
 refine cI (fun (k : {k : Nat // k ≤ b.lots.length}) => live [(1, Ty.pp (cH b)), (3, Ty.row eB 3 39 (lB (FY b) k.1)), (7, Ty.sl gC b.lots), (8, Ty.int .i64 b.lots.length), (9, Ty.int .i64 (k.1 : Nat))] []) (fun k => b.lots.length - k.1) (⟨0, by omega⟩) ?_ fun k => ?_
 ·(refine cr.mk' ?_ ?_ <;> (repeat' (first | exact aH | exact aI | refine aB ?_ (Ty.aS _) | refine aB ?_ (Ty.aG _) | refine aB ?_ Ty.iP)))
  all_goals exact sq (Er _).symm
 have hk := k.2
 have hl := zw (FY b) k.1
 refine aF (aA (av rfl rfl rfl (aD (aC (aF ?_)))))
 refine aj rfl (fun hc1 => ?_) (fun hc1 => ?_)
 ·refine ak (aC (aF (aY (aF (aA (bP rfl ?_))))))
  refine bC rfl rfl rfl rfl rfl rfl (by omega) ?_
  refine aa rfl rfl rfl (by exact Nat.le_of_ble_eq_true rfl) ?_
  refine bX rfl (by exact List.cons_ne_nil _ _) rfl ?_
  refine b8 rfl ?_
  refine bW rfl rfl (by decide) rfl rfl rfl rfl rfl rfl ?_
  refine aD (aC (aF (aA ?_)))
  refine aR rfl rfl rfl rfl rfl (by decide) ?_
  refine aU rfl rfl (by decide) rfl rfl rfl ?_
  refine av rfl rfl rfl (gw rfl ?_)
  apply aM (s := 17) rfl rfl rfl
  ·intro hg; apply aO; (refine aR rfl rfl rfl rfl rfl (by decide) ?_); refine aD ?_; exact rfl
  ·exact rfl
  ·exact rfl
  apply aM (s := 17) rfl rfl rfl
  ·intro hg; apply aJ (s := 18) rfl (by (rw [hg]; rfl)); apply aO; (refine aU rfl rfl (by decide) rfl rfl rfl ?_); refine aD ?_; exact rfl
  ·exact rfl
  ·exact rfl
  apply aM (s := 17) rfl rfl rfl
  ·intro hg; apply aO; (refine aR rfl rfl rfl rfl rfl (by decide) ?_); refine aD ?_; exact rfl
  ·exact rfl
  ·exact rfl
  apply aM (s := 17) rfl rfl rfl
  ·intro hg; apply aJ (s := 20) rfl (by (rw [hg]; rfl)); apply aO; (refine aU rfl rfl (by decide) rfl rfl rfl ?_); refine aD ?_; exact rfl
  ·exact rfl
  ·exact rfl
  apply aM (s := 17) rfl rfl rfl
  ·intro hg; apply aJ (s := 19) rfl (by (rw [hg]; rfl)); apply aJ (s := 21) rfl (by (rw [hg]; rfl)); apply aO; (refine av rfl rfl rfl ?_); refine aD ?_; exact rfl
  ·exact rfl
  ·exact rfl
  refine fu rfl rfl (gw rfl ?_)
  apply aM (s := 24) rfl rfl rfl
  ·intro hg; apply aO; (refine aR rfl rfl rfl rfl rfl (by decide) ?_); refine aD ?_; exact rfl
  ·exact rfl
  ·exact rfl
  apply aM (s := 24) rfl rfl rfl
  ·intro hg; apply aJ (s := 25) rfl (by (rw [hg]; rfl)); apply aO; (refine aU rfl rfl (by decide) rfl rfl rfl ?_); refine aD ?_; exact rfl
  ·exact rfl
  ·exact rfl
  apply aM (s := 24) rfl rfl rfl
  ·intro hg; apply aJ (s := 26) rfl (by (rw [hg]; rfl)); apply aO; (refine av rfl rfl rfl ?_); refine aD ?_; exact rfl
  ·exact rfl
  ·exact rfl
  apply aM (s := 24) rfl rfl rfl
  ·intro hg; apply aJ (s := 27) rfl (by (rw [hg]; rfl)); apply aO; (refine gw rfl ?_); refine aD ?_; exact rfl
  ·exact rfl
  ·exact rfl
  apply eo (s := 28) rfl rfl rfl
  ·intro hg1 hg2; apply aO; (refine aa rfl rfl rfl (by exact Nat.le_of_ble_eq_true rfl) ?_); refine aD ?_; exact rfl
  ·exact rfl
  ·exact rfl
  apply eo (s := 28) rfl rfl rfl
  ·intro hg1 hg2; apply aO; (refine aR rfl rfl rfl rfl rfl (by decide) ?_); refine aD ?_; exact rfl
  ·exact rfl
  ·exact rfl
  apply eo (s := 28) rfl rfl rfl
  ·intro hg1 hg2; apply aJ (s := 30) rfl (by (rw [hg1, hg2]; rfl)); apply aO; (refine aU rfl rfl (by decide) rfl rfl rfl ?_); refine aD ?_; exact rfl
  ·exact rfl
  ·exact rfl
  apply eo (s := 28) rfl rfl rfl
  ·intro hg1 hg2; apply aJ (s := 29) rfl (by (rw [hg1, hg2]; rfl)); apply aJ (s := 31) rfl (by (rw [hg1, hg2]; rfl)); apply aO; (refine aq (Kk b _) rfl rfl rfl rfl rfl ?_); refine aD ?_; exact rfl
  ·exact rfl
  ·exact rfl
  apply aM (s := 24) rfl rfl rfl
  ·intro hg; apply aJ (s := 28) rfl (by (rw [hg]; rfl)); apply oP (s := 32) rfl (by (rw [hg]; rfl)); apply aO; (refine fu rfl rfl ?_); refine aD ?_; exact rfl
  ·exact rfl
  ·exact rfl
  refine iS rfl rfl (aD (aC ?_))
  refine c8 rfl (fun hc2 => ?_) (fun hc2 => ?_)
  ·refine aA (AO rfl (bP rfl ?_))
   refine bY (E := eB) (xs := [_]) rfl rfl rfl rfl rfl (by decide) (by decide) (by repeat (first | exact (aT.nil : aT _ _ [] _) | (show aT _ _ ((_, _) :: _) _; apply aT.one; (· exact (rfl : _ = Ty.int _ _)); (· exact rfl)))) (by exact rfl) rfl ?_
   refine dz rfl rfl (by decide) rfl rfl rfl rfl rfl rfl (by decide) (by (simp <;> omega)) (by (simp <;> omega)) ?_
   refine uT rfl (aD (bJ (aC (aA ?_))))
   refine cD rfl rfl (by omega) (by omega) ?_
   refine bP rfl (aD ?_)
   refine bS (⟨k.1 + 1, by omega⟩) ?_ (by show b.lots.length - (k.1 + 1) < b.lots.length - k.1; omega)
   (refine cr.mk' ?_ ?_ <;> (repeat' (first | exact aH | exact aI | refine aB ?_ (Ty.aS _) | refine aB ?_ (Ty.aG _) | refine aB ?_ ?_)))
   all_goals skip
   all_goals exact Ty.gy (GA (p := FY b) (n := k.1) hc2)
  refine ak (bJ (aC (aA ?_)))
  refine cD rfl rfl (by omega) (by omega) ?_
  refine bP rfl (aD ?_)
  refine bS (⟨k.1 + 1, by omega⟩) ?_ (by show b.lots.length - (k.1 + 1) < b.lots.length - k.1; omega)
  (refine cr.mk' ?_ ?_ <;> (repeat' (first | exact aH | exact aI | refine aB ?_ (Ty.aS _) | refine aB ?_ (Ty.aG _) | refine aB ?_ ?_)))
  all_goals skip
  all_goals exact Ty.gy (JS (p := FY b) (n := k.1) hc2)
 refine b9 (aN (aN (aZ rfl (aC (aF (aA (AO rfl (uT rfl (aD (aC (au (bT rfl rfl ?_))))))))))))
 all_goals skip
 all_goals exact j7 (by decide) (by rw [show k.1 = b.lots.length by have := k.2; omega]; rfl)
end Go.Proofs.YtmmcenjknimhbaaGreat
namespace Go.Proofs.YtmmcenjknimhbaaGreat
open Go Go.T
set_option maxHeartbeats 2000000
attribute [local irreducible] fL dg lG nG fZ gA fy fm ff nB gB m6 cw fA m4 ew nM nth eU cm aV cy bodyPost Exit.then Exit.inBlock Code.wp Code.wpIn fI ry rq rY iY sB rZ iV sA e9 gr p8 cT cO bodyPostM dW
end Go.Proofs.YtmmcenjknimhbaaGreat
namespace Go.Proofs.YtmmcenjknimhbaaGreat
open Go Go.T
set_option maxHeartbeats 2000000
theorem O6 {p : Pl} {i : Nat} (h : i < 6) : (r9.tys p)[0 + i * 1]? = some (Ty.int .i64 (nth p.1 i)) := by rw [show 0 + i * 1 = i by omega]; exact NW p h
theorem Ia (b : aW) : dS.tys ⟨b, KM⟩ = [Ty.sl eB b.sizes, Ty.sl gC b.lots, Ty.int .i64 0, Ty.int .i64 0, Ty.int .i64 0, Ty.int .i64 0, Ty.int .i64 0, Ty.int .i64 0] := rfl
theorem Jq {b : aW} {k : Nat} (hk : k < b.lots.length) (h6 : b.lots.length ≤ 6) : (dS.tys ⟨b, kS b k⟩).set (0 + 2 + k * 1) (Ty.int .i64 (nth b.lots k).inn) = dS.tys ⟨b, kS b (k + 1)⟩ := by
 rw [show 0 + 2 + k * 1 = 2 + k by omega, LI _ _ (by omega), DO hk h6]
def Li (t : bu) : List Ty := [Ty.agg (cv.tys t)]
attribute [local irreducible] fL dg lG nG fZ gA fy fm ff nB gB m6 cw fA m4 ew nM nth eU cm aV cy bodyPost Exit.then Exit.inBlock Code.wp Code.wpIn fI ry rq rY iY sB rZ iV sA e9 gr p8 cT cO bodyPostM dW
theorem zP (b : aW) (k i : Nat) (hk : k < b.sizes.length) (hi : i < b.lots.length) {v : Bool} (h : b.hold k i = v) : cy Tryz.prog 156 [eC b, Ty.int .i64 (k : Nat), Ty.int .i64 (i : Nat)] (Ty.bool v) := h ▸ tX b k i ⟨by omega, by omega⟩ ⟨by omega, by omega⟩
set_option maxRecDepth 100000 in
theorem HQ (d : xK) (hl : d.b.lots.length ≤ 6) (p : Pl) (n : Int) : cy Tryz.prog 203 [Ty.pe dS d 0, Ty.agg (m3 p), Ty.int .i64 n] (Ty.bool (gZ d.b p n)) := by
 refine aX Tryz.func203 rfl (by decide) Tryz.ntmps203 (by exact Nat.le_of_ble_eq_true rfl) fun w0 M0 => ?_
 refine aF (aA (az rfl (dJ rfl (aD (aC (aF (aF ?_)))))))
 refine iX (s := 4) (ty := Ty.pp (r9.tys p)) rfl Ty.ME ?_
 refine aA (lT rfl (cP rfl ?_))
 refine cR rfl rfl rfl rfl rfl (by decide) ?_
 refine cR rfl rfl rfl rfl rfl (by decide) ?_
 refine fW rfl rfl rfl rfl (bq rfl rfl rfl (bP rfl (aD (aC (aY ?_)))))
 refine cI (fun (k : {k : Nat // ∀ i, i < k → nth p.1 i ≠ n}) => live [(2, Ty.int .i64 n), (4, Ty.pe r9 p 0), (13, Ty.int .i64 d.b.lots.length), (14, Ty.int .i64 (k.1 : Nat))] []) (fun k => d.b.lots.length - k.1) (⟨0, fun i hi => absurd hi (Nat.not_lt_zero i)⟩) ?_ fun k => ?_
 ·(refine cr.mk' ?_ ?_ <;> (repeat' (first | exact aH | exact aI | refine aB ?_ (Ty.aS _) | refine aB ?_ (Ty.aG _))))
 refine aF (aA (av rfl rfl rfl (aD (aC (aF ?_)))))
 refine aj rfl (fun hc1 => ?_) (fun hc1 => ?_)
 ·refine ak (aC (aF (aY (aF (aA (bP rfl (b8 rfl (aD (aC (aF (aA (bP rfl ?_))))))))))))
  refine mP rfl rfl rfl rfl rfl (by omega) ?_
  refine fW rfl rfl rfl (O6 (by omega)) ?_
  refine bP rfl (av rfl rfl rfl (aD (aC ?_)))
  refine aj rfl (fun hc2 => ?_) (fun hc2 => ?_)
  ·refine aF (aA (dJ rfl (aD (aC (au (af (aP (aP (af (aP (bT rfl rfl ?_)))))))))))
   all_goals skip
   exact bD rfl rfl (congrArg Ty.bool (MK hl (by omega) hc2))
  refine ak (bJ (aC (aA ?_)))
  refine cD rfl rfl (by omega) (by omega) ?_
  refine bP rfl (aD ?_)
  refine bS (⟨k.1 + 1, Gs k.2 hc2⟩) ?_ (by show d.b.lots.length - (k.1 + 1) < d.b.lots.length - k.1; omega)
  (refine cr.mk' ?_ ?_ <;> (repeat' (first | exact aH | exact aI | refine aB ?_ (Ty.aS _) | refine aB ?_ (Ty.aG _))))
  all_goals skip
 refine b9 (aN (aN (aZ rfl (aC (aF (aA (dJ rfl (aD (aC (au (bT rfl rfl ?_)))))))))))
 all_goals skip
 exact bD rfl rfl (congrArg Ty.bool (KE hl (fun i hi => k.2 i (by omega))))
set_option maxRecDepth 100000 in
theorem L0 (d : xK) (hl : d.b.lots.length ≤ 6) (p : Pl) : cy Tryz.prog 162 [Ty.pe dS d 0, Ty.agg (m3 p)] (Ty.bool (dj d.b p)) := by
 refine aX Tryz.func162 rfl (by decide) Tryz.ntmps162 (by exact Nat.le_of_ble_eq_true rfl) fun w0 M0 => ?_
 refine aF (aA (az rfl (dJ rfl (aD (aC (aF (aF ?_)))))))
 refine iX (s := 3) (ty := Ty.pp (r9.tys p)) rfl Ty.ME ?_
 refine aA (lT rfl (cP rfl ?_))
 refine cR rfl rfl rfl rfl rfl (by decide) ?_
 refine cR rfl rfl rfl rfl rfl (by decide) ?_
 refine fW rfl rfl rfl rfl (bq rfl rfl rfl (bP rfl (aD (aC (aY ?_)))))
 refine cI (fun (k : {k : Nat // ∀ i, i < k → B3 d.b p i = true}) => live [(3, Ty.pe r9 p 0), (11, Ty.sl gC d.b.lots), (12, Ty.int .i64 d.b.lots.length), (13, Ty.int .i64 (k.1 : Nat))] []) (fun k => d.b.lots.length - k.1) (⟨0, fun i hi => absurd hi (Nat.not_lt_zero i)⟩) ?_ fun k => ?_
 ·(refine cr.mk' ?_ ?_ <;> (repeat' (first | exact aH | exact aI | refine aB ?_ (Ty.aS _) | refine aB ?_ (Ty.aG _))))
 refine aF (aA (av rfl rfl rfl (aD (aC (aF ?_)))))
 refine aj rfl (fun hc1 => ?_) (fun hc1 => ?_)
 ·refine ak (aC (aF (aY (aF (aA (bP rfl ?_))))))
  refine bC rfl rfl rfl rfl rfl rfl (by omega) ?_
  refine aa rfl rfl rfl (by exact Nat.le_of_ble_eq_true rfl) ?_
  refine bX rfl (by exact List.cons_ne_nil _ _) rfl ?_
  refine b8 rfl ?_
  refine bW rfl rfl (by decide) rfl rfl rfl rfl rfl rfl ?_
  refine aD (aC (aF (cq mixed rfl ?_)))
  refine aR rfl rfl rfl rfl rfl (by decide) ?_
  refine aU rfl rfl (by decide) rfl rfl rfl ?_
  refine av rfl rfl rfl (gw rfl ?_)
  apply aM (s := 21) rfl rfl rfl
  ·intro hg; apply aO; (refine aR rfl rfl rfl rfl rfl (by decide) ?_); refine aD ?_; exact rfl
  ·exact rfl
  ·exact rfl
  apply aM (s := 21) rfl rfl rfl
  ·intro hg; apply aJ (s := 22) rfl (by (rw [hg]; rfl)); apply aO; (refine aU rfl rfl (by decide) rfl rfl rfl ?_); refine aD ?_; exact rfl
  ·exact rfl
  ·exact rfl
  apply aM (s := 21) rfl rfl rfl
  ·intro hg; apply aO; (refine bP rfl ?_); refine aD ?_; exact rfl
  ·exact rfl
  ·exact rfl
  apply aM (s := 21) rfl rfl rfl
  ·intro hg; apply aJ (s := 24) rfl (by (rw [hg]; rfl)); apply aO; (refine mP rfl rfl rfl rfl rfl (by omega) ?_); refine aD ?_; exact rfl
  ·exact rfl
  ·exact rfl
  apply aM (s := 21) rfl rfl rfl
  ·intro hg; apply aJ (s := 25) rfl (by (rw [hg]; rfl)); apply aO; (refine fW rfl rfl rfl (O6 (by omega)) ?_); refine aD ?_; exact rfl
  ·exact rfl
  ·exact rfl
  apply aM (s := 21) rfl rfl rfl
  ·intro hg; apply aJ (s := 23) rfl (by (rw [hg]; rfl)); apply aJ (s := 26) rfl (by (rw [hg]; rfl)); apply aO; (refine av rfl rfl rfl ?_); refine aD ?_; exact rfl
  ·exact rfl
  ·exact rfl
  refine fu rfl rfl (aD ?_)
  refine ⟨by kernel_rfl, ?_⟩
  refine aC ?_
  refine c8 rfl (fun hc2 => ?_) (fun hc2 => ?_)
  ·refine aF (aA (dJ rfl (aD (aC (au (af (aP (aP (af (aP (bT rfl rfl ?_)))))))))))
   all_goals skip
   exact bD rfl rfl (congrArg Ty.bool (Kt (i := k.1) (by omega) (by have h := hc2; rw [Fb] at h; simpa using h)))
  refine ak (bJ (aC (aA ?_)))
  refine cD rfl rfl (by omega) (by omega) ?_
  refine bP rfl (aD ?_)
  refine bS (⟨k.1 + 1, Gs k.2 (by have h := hc2; rw [Fb] at h; simpa using h)⟩) ?_ (by show d.b.lots.length - (k.1 + 1) < d.b.lots.length - k.1; omega)
  (refine cr.mk' ?_ ?_ <;> (repeat' (first | exact aH | exact aI | refine aB ?_ (Ty.aS _) | refine aB ?_ (Ty.aG _))))
  all_goals skip
 refine b9 (aN (aN (aZ rfl (aC (aF (aA (dJ rfl (aD (aC (au (bT rfl rfl ?_)))))))))))
 all_goals skip
 exact bD rfl rfl (congrArg Ty.bool (Ka (fun i hi => k.2 i (by omega))))
set_option maxRecDepth 100000 in
theorem OI (n : Int) (l : List Int) : cy Tryz.prog 164 [Ty.int .i64 n, Ty.sl eB l] (Ty.int .i64 (l.foldl min n)) := by
 refine aX Tryz.func164 rfl (by decide) Tryz.ntmps164 (by exact Nat.le_of_ble_eq_true rfl) fun w0 M0 => ?_
 refine jv (s := 1) rfl rfl j9 fun hl => ?_
 refine aF (aA (b8 rfl (aD (aC (aF (aF (aA (eV rfl (bq rfl rfl rfl (bP rfl (aD (aC (aY ?_)))))))))))))
 refine cI (fun (k : Nat) => live [(0, Ty.int .i64 ((l.take k).foldl min n)), (7, Ty.sl eB l), (8, Ty.int .i64 l.length), (9, Ty.int .i64 (k : Nat))] []) (fun k => l.length - k) (0) ?_ fun k => ?_
 ·(refine cr.mk' ?_ ?_ <;> (repeat' (first | exact aH | exact aI | refine aB ?_ (Ty.aS _) | refine aB ?_ (Ty.aG _))))
 refine aF (aA (av rfl rfl rfl (aD (aC (aF ?_)))))
 refine aj rfl (fun hc1 => ?_) (fun hc1 => ?_)
 ·refine ak (aC (aF (aY (aF (aA ?_)))))
  refine bC rfl rfl rfl rfl rfl rfl (by omega) ?_
  refine aL rfl rfl rfl rfl (b8 rfl (aD (aC (aA (bP rfl (bP rfl (Oo rfl rfl (b8 rfl (aD (bJ (aC (aA ?_))))))))))))
  refine cD rfl rfl (by omega) (by omega) ?_
  refine bP rfl (aD ?_)
  refine bS (k + 1) ?_ (by omega)
  (refine cr.mk' ?_ ?_ <;> (repeat' (first | exact aH | exact aI | refine aB ?_ (Ty.aS _) | refine aB ?_ (Ty.aG _) | refine aB ?_ ?_)))
  all_goals skip
  exact Ty.bg (by rw [cE (by omega), List.foldl_append]; rfl)
 refine b9 (aN (aN (aZ rfl (aC (aF (aA (bP rfl (b8 rfl (aD (aC (au (bT rfl rfl ?_))))))))))))
 all_goals skip
 exact bD rfl rfl (congrArg (Ty.int .i64) (by rw [List.take_of_length_le (by omega)]))
set_option maxRecDepth 100000 in
theorem Io (b : aW) (hs : b.Small) (he : cS b ≠ 0) : cy Tryz.prog 119 [eC b] (Ty.jk [Ty.ex (.pointer none), Ty.int .i64 (cS b)]) := by
 refine aX Tryz.func119 rfl (by decide) Tryz.ntmps119 (by exact Nat.le_of_ble_eq_true rfl) fun w0 M0 => ?_
 refine aF (aA (az rfl (iT rfl (b8 rfl (aD (aC (aF (aF (aA ?_)))))))))
 refine aa rfl rfl rfl (by exact Nat.le_of_ble_eq_true rfl) ?_
 refine aq (x8 b hs) rfl rfl rfl rfl rfl (b8 rfl (aD (aC (aF (aA (bP rfl (av rfl rfl rfl (aD (aC ?_)))))))))
 refine lX rfl (by rw [decide_eq_false he]; rfl) ?_
 refine aF (aA (bP rfl (iT rfl (b8 rfl (aD (aC (au (aP ?_))))))))
 refine gG rfl rfl rfl ?_ ?_
 all_goals exact bQ rfl rfl
 skip
set_option maxRecDepth 100000 in
theorem Jo (b : aW) (hs : b.Small) (h0 : cS b = 0) : cy Tryz.prog 119 [eC b] (Ty.jk [Ty.pe dS ⟨b, bE b⟩ 0, Ty.int .i64 0]) := by
 refine aX Tryz.func119 rfl (by decide) Tryz.ntmps119 (by exact Nat.le_of_ble_eq_true rfl) fun w0 M0 => ?_
 have h6 := (kW h0).lots
 refine aF (aA (az rfl (iT rfl (b8 rfl (aD (aC (aF (aF (aA ?_)))))))))
 refine aa rfl rfl rfl (by exact Nat.le_of_ble_eq_true rfl) ?_
 refine aq (x8 b hs) rfl rfl rfl rfl rfl (b8 rfl (aD (aC (aF (aA (bP rfl (av rfl rfl rfl (aD (aC ?_)))))))))
 refine dh rfl (by rw [h0]; rfl) ?_
 refine ak (aC (aF (aA ?_)))
 refine aa rfl rfl rfl (by exact Nat.le_of_ble_eq_true rfl) ?_
 refine D3 dS ⟨b, KM⟩ rfl rfl (by exact List.cons_ne_nil _ _) rfl (by repeat (first | exact (aT.nil : aT _ _ [] _) | (show aT _ _ ((_, _) :: _) _; apply aT.agg; (· exact (rfl : _ = Ty.agg _))))) (by rw [Ia]; rfl) ?_
 refine FV (E := dS) ⟨b, KM⟩ rfl rfl ?_
 refine RZ rfl (aD (aC (aF (aF (aA ?_)))))
 refine aQ rfl rfl rfl rfl rfl (by decide) ?_
 refine aL rfl rfl rfl rfl (bq rfl rfl rfl (bP rfl (aD (aC (aY ?_)))))
 refine cI (fun (k : {k : Nat // k ≤ b.lots.length}) => live [(1, Ty.pp (cH b)), (5, Ty.ptr 16 0), (17, Ty.sl gC b.lots), (18, Ty.int .i64 b.lots.length), (19, Ty.int .i64 (k.1 : Nat))] [(16, Cont.vec dS 218 [⟨b, kS b k.1⟩])]) (fun k => b.lots.length - k.1) (⟨0, by omega⟩) ?_ fun k => ?_
 ·(refine cr.mk' ?_ ?_ <;> (repeat' (first | exact aH | exact aI | refine aB ?_ (Ty.aS _) | refine aB ?_ (Ty.aG _) | refine aK rfl (Cont.aG _) ?_)))
 refine aF (aA (av rfl rfl rfl (aD (aC (aF ?_)))))
 refine aj rfl (fun hc2 => ?_) (fun hc2 => ?_)
 ·refine ak (aC (aF (aY (aF (aA (bP rfl ?_))))))
  refine bC rfl rfl rfl rfl rfl rfl (by omega) ?_
  refine aa rfl rfl rfl (by exact Nat.le_of_ble_eq_true rfl) ?_
  refine bX rfl (by exact List.cons_ne_nil _ _) rfl ?_
  refine b8 rfl ?_
  refine bW rfl rfl (by decide) rfl rfl rfl rfl rfl rfl ?_
  refine aD (aC (cq mixed rfl (uJ rfl (bP rfl ?_))))
  refine aR rfl rfl rfl rfl rfl (by decide) ?_
  refine aU rfl rfl (by decide) rfl rfl rfl ?_
  refine cX rfl ?_
  refine aR rfl rfl rfl rfl rfl (by decide) ?_
  refine fq rfl rfl rfl rfl rfl (by omega) ?_
  refine s8 (E := dS) (o := ⟨b, kS b k.1⟩) (z := ⟨b, kS b (k.1 + 1)⟩) rfl rfl (by decide) rfl rfl (by exact (rfl : _ = Ty.int _ _)) rfl (show 0 + 2 + k.1 * 1 < 8 by omega) rfl (Jq (by omega) h6) ?_
  refine aD ?_
  refine ⟨by kernel_rfl, ?_⟩
  refine bJ (aC (aA ?_))
  refine cD rfl rfl (by omega) (by omega) ?_
  refine bP rfl (aD ?_)
  refine bS (⟨k.1 + 1, by omega⟩) ?_ (by show b.lots.length - (k.1 + 1) < b.lots.length - k.1; omega)
  (refine cr.mk' ?_ ?_ <;> (repeat' (first | exact aH | exact aI | refine aB ?_ (Ty.aS _) | refine aB ?_ (Ty.aG _) | refine aK rfl (Cont.aG _) ?_)))
  all_goals skip
 refine b9 (aN (aN (aZ rfl (aC (aF ?_)))))
 refine mC (tg := 16) [(5, Ty.pe dS ⟨b, kS b k.1⟩ 0)] (by decide) rfl ⟨Ku rfl rfl (by decide), trivial⟩ ?_
 refine aA (lT rfl (Pd rfl (b8 rfl (aD (aC (au ?_))))))
 refine gG rfl rfl rfl ?_ ?_
 all_goals first | exact bQ rfl rfl | skip
 all_goals exact bD rfl rfl (by rw [D9 (by have := k.2; omega)]; rfl)
theorem G2 (b : aW) (hs : b.Small) : cy Tryz.prog 119 [eC b] (Ty.jk [Ty.when (decide (cS b = 0)) (Ty.pe dS ⟨b, bE b⟩ 0), Ty.int .i64 (cS b)]) := by
 by_cases h0 : cS b = 0
 ·have h := Jo b hs h0
  rw [h0]
  exact h.mono (Ty.qc (Ty.jR rfl fun _ => Ty.aG _) (Ty.aG _))
 exact (Io b hs h0).mono (Ty.qc (Ty.jR rfl fun h => by simp [h0] at h) (Ty.aG _))
set_option maxRecDepth 100000 in
theorem Ds (d : xK) (hs : d.b.Small) (h6 : d.b.lots.length ≤ 6) (p : Pl) : gr Tryz.prog 202 (fun l => [Ty.ex (yv l), Ty.pp [Ty.pe dS d 0], Ty.pp (m3 p)]) ((ay d.b p).map Li) (Ty.jk []) (Ty.jk []) := by
 refine BS Tryz.func202 rfl (by decide) Tryz.ntmps202 (fun _ => by exact Nat.le_of_ble_eq_true rfl) (fun _ => ⟨rfl, rfl⟩) fun l J Jx hJ hJx hY w0 M0 => ?_
 have hs1 := hs.sizes
 refine aF (aA (aL rfl rfl rfl rfl (cP rfl ?_)))
 refine cR rfl rfl rfl rfl rfl (by decide) ?_
 refine cR rfl rfl rfl rfl rfl (by decide) ?_
 refine fW rfl rfl rfl rfl (bq rfl rfl rfl (bP rfl (aD (aC (aY ?_)))))
 refine cI (fun (k : {k : Nat // k ≤ d.b.sizes.length}) => live [(0, Ty.ex (yv l)), (1, Ty.pp [Ty.pe dS d 0]), (2, Ty.pp (m3 p)), (11, Ty.int .i64 d.b.sizes.length), (12, Ty.int .i64 (k.1 : Nat))] [(0, CJ (hJ (gW d.b p k.1).length))]) (fun k => d.b.sizes.length - k.1) (⟨0, by omega⟩) ?_ fun k => ?_
 ·(refine cr.mk' ?_ ?_ <;> (repeat' (first | exact aH | exact aI | refine aB ?_ (Ty.aS _) | refine aB ?_ (Ty.aG _) | refine aK rfl (Cont.aG _) ?_)))
 refine aF (aA (av rfl rfl rfl (aD (aC (aF ?_)))))
 refine aj rfl (fun hc1 => ?_) (fun hc1 => ?_)
 ·refine ak (aC (aF (aY (aF (aA (bP rfl (b8 rfl (aD (aC (aF (aF (aA (aL rfl rfl rfl rfl ?_)))))))))))))
  refine aa rfl rfl rfl (by exact Nat.le_of_ble_eq_true rfl) ?_
  refine bP rfl ?_
  refine aq (HQ d h6 p (k.1 : Nat)) rfl rfl rfl rfl rfl ?_
  refine aD (aC ?_)
  refine c8 rfl (fun hc2 => ?_) (fun hc2 => ?_)
  ·refine b9 (aN (aZ rfl (aC (aA ?_))))
   refine cD rfl rfl (by omega) (by omega) ?_
   refine bP rfl (aD ?_)
   refine bS (⟨k.1 + 1, by omega⟩) ?_ (by show d.b.sizes.length - (k.1 + 1) < d.b.sizes.length - k.1; omega)
   (refine cr.mk' ?_ ?_ <;> (repeat' (first | exact aH | exact aI | refine aB ?_ (Ty.aS _) | refine aB ?_ (Ty.aG _) | refine aK rfl ?_ ?_)))
   all_goals skip
   exact Cont.sub_eq (congrArg (fun n => CJ (hJ n)) (by show (gW d.b p k.1).length = (gW d.b p (k.1 + 1)).length; rw [oo, Gv hc2, List.append_nil]))
  refine ak (aC (aF (aA (aL rfl rfl rfl rfl (cP rfl ?_)))))
  refine cR rfl rfl rfl rfl rfl (by decide) ?_
  refine cR rfl rfl rfl rfl rfl (by decide) ?_
  refine fW rfl rfl rfl rfl (bq rfl rfl rfl (bP rfl (aD (aC (aY ?_)))))
  refine cI (fun (m : {m : Nat // m ≤ d.b.lots.length}) => live [(0, Ty.ex (yv l)), (1, Ty.pp [Ty.pe dS d 0]), (2, Ty.pp (m3 p)), (4, Ty.int .i64 (k.1 : Nat)), (11, Ty.int .i64 d.b.sizes.length), (12, Ty.int .i64 (k.1 : Nat)), (24, Ty.int .i64 d.b.lots.length), (25, Ty.int .i64 (m.1 : Nat))] [(0, CJ (hJ ((gW d.b p k.1).length + (iG d.b k.1 m.1).length)))]) (fun m => d.b.lots.length - m.1) (⟨0, by omega⟩) ?_ fun m => ?_
  ·(refine cr.mk' ?_ ?_ <;> (repeat' (first | exact aH | exact aI | refine aB ?_ (Ty.aS _) | refine aB ?_ (Ty.aG _) | refine aK rfl (Cont.aG _) ?_)))
  refine aF (aA (av rfl rfl rfl (aD (aC (aF ?_)))))
  refine aj rfl (fun hc3 => ?_) (fun hc3 => ?_)
  ·refine ak (aC (aF (aY (aF (aA (bP rfl (b8 rfl (aD (aC (aF ?_))))))))))
   cases hsp : (d.b.hold k.1 m.1)
   ·refine aA (aL rfl rfl rfl rfl (cP rfl ?_))
    refine cR rfl rfl rfl rfl rfl (by decide) ?_
    refine gY rfl rfl rfl rfl rfl (bP rfl (bP rfl ?_))
    refine aq (zP d.b k.1 m.1 (by omega) (by omega) hsp) rfl rfl rfl rfl rfl ?_
    refine gw rfl (nv rfl rfl rfl rfl (nv rfl rfl rfl rfl (nv rfl rfl rfl rfl (nv rfl rfl rfl rfl (nv rfl rfl rfl rfl (nv rfl rfl rfl rfl ?_))))))
    refine vg (ty := Ty.bool false) rfl rfl rfl (fun h => Bool.noConfusion h) (fun _ => Ty.aG _) ?_
    refine aD (aC (dh rfl (rfl) (ak (bJ (aC (aA ?_))))))
    refine cD rfl rfl (by omega) (by omega) ?_
    refine bP rfl (aD ?_)
    refine bS (⟨m.1 + 1, by omega⟩) ?_ (by show d.b.lots.length - (m.1 + 1) < d.b.lots.length - m.1; omega)
    (refine cr.mk' ?_ ?_ <;> (repeat' (first | exact aH | exact aI | refine aB ?_ (Ty.aS _) | refine aB ?_ (Ty.aG _) | refine aK rfl ?_ ?_)))
    all_goals skip
    exact Cont.sub_eq (congrArg (fun n => CJ (hJ n)) (by show _ + _ = (gW d.b p k.1).length + (iG d.b k.1 (m.1 + 1)).length; rw [J3 hsp]))
   refine AJ 12 rfl rfl (aL rfl rfl rfl rfl (cP rfl ?_))
   refine cR rfl rfl rfl rfl rfl (by decide) ?_
   refine gY rfl rfl rfl rfl rfl (bP rfl (bP rfl ?_))
   refine aq (zP d.b k.1 m.1 (by omega) (by omega) hsp) rfl rfl rfl rfl rfl ?_
   refine gw rfl ?_
   (refine wJ rfl rfl rfl (by apply aO; (refine KL rfl ?_); refine aD ?_; exact rfl) ?_)
   (refine wJ rfl rfl rfl (by apply aO; (refine bP rfl ?_); refine aD ?_; exact rfl) ?_)
   (refine wJ rfl rfl rfl (by apply aO; (refine bP rfl ?_); refine aD ?_; exact rfl) ?_)
   (refine wJ rfl rfl rfl (by apply aO; (refine c6 rfl rfl (by exact List.cons_ne_nil _ _) rfl (by repeat (first | exact (aT.nil : aT _ _ [] _) | (show aT _ _ ((_, _) :: _) _; apply aT.one; (· exact (rfl : _ = Ty.int _ _)); (· exact rfl)))) (by exact (rfl : _ = some [_, _])) ?_); refine aD ?_; exact rfl) ?_)
   refine aD ?_
   refine ⟨_, _, Ml rfl rfl rfl (B2 hJ hJx hY rfl rfl rfl rfl rfl (Ht (Bg (by omega) hc2 (by omega) hsp).1 (congrArg Li (Bg (by omega) hc2 (by omega) hsp).2)) rfl), ?_, ?_⟩
   ·(refine wJ rfl rfl rfl (by apply aO; (refine dK rfl ?_); refine aD ?_; exact rfl) ?_)
    refine vg (ty := Ty.bool false) rfl rfl rfl (fun _ => (Ty.aG _ : Ty.Sub (Ty.bool (!true)) _)) (fun h => Bool.noConfusion h) ?_
    refine aD (aC (dh rfl (rfl) (ak (bJ (aC (aA ?_))))))
    refine cD rfl rfl (by omega) (by omega) ?_
    refine bP rfl (aD ?_)
    refine bS (⟨m.1 + 1, by omega⟩) ?_ (by show d.b.lots.length - (m.1 + 1) < d.b.lots.length - m.1; omega)
    (refine cr.mk' ?_ ?_ <;> (repeat' (first | exact aH | exact aI | refine aB ?_ (Ty.aS _) | refine aB ?_ (Ty.aG _) | refine aK rfl ?_ ?_)))
    all_goals skip
    exact Cont.sub_eq (congrArg (fun n => CJ (hJ n)) (by show _ + _ + 1 = (gW d.b p k.1).length + (iG d.b k.1 (m.1 + 1)).length; rw [zN hsp, List.length_append]; rfl))
   (refine wJ rfl rfl rfl (by apply aO; (refine dK rfl ?_); refine aD ?_; exact rfl) ?_)
   refine vg (ty := Ty.bool true) rfl rfl rfl (fun _ => (Ty.aG _ : Ty.Sub (Ty.bool (!false)) _)) (fun h => Bool.noConfusion h) ?_
   refine aD (aC (lX rfl (rfl) (au (af (aP (aP (af (af (aP (aP (af ?_)))))))))))
   exact HM rfl rfl
  refine b9 (aN (aN (aZ rfl (bJ (aC (aA ?_))))))
  refine cD rfl rfl (by omega) (by omega) ?_
  refine bP rfl (aD ?_)
  refine bS (⟨k.1 + 1, by omega⟩) ?_ (by show d.b.sizes.length - (k.1 + 1) < d.b.sizes.length - k.1; omega)
  (refine cr.mk' ?_ ?_ <;> (repeat' (first | exact aH | exact aI | refine aB ?_ (Ty.aS _) | refine aB ?_ (Ty.aG _) | refine aK rfl ?_ ?_)))
  all_goals skip
  exact Cont.sub_eq (congrArg (fun n => CJ (hJ n)) (by show (gW d.b p k.1).length + (iG d.b k.1 m.1).length = (gW d.b p (k.1 + 1)).length; rw [oo, wW hc2, List.length_append, show m.1 = d.b.lots.length by have := m.2; omega]))
 refine b9 (aN (aN (aZ rfl (HT ?_))))
 exact IP (hJ := hJ) (by rw [List.length_map, show k.1 = d.b.sizes.length by have := k.2; omega]; rfl) rfl rfl
set_option maxRecDepth 100000 in
theorem HB (d : xK) (p : Pl) : cy Tryz.prog 163 [Ty.pe dS d 0, Ty.agg (m3 p)] (Ty.jh 202 [Ty.pp [Ty.pe dS d 0], Ty.pp (m3 p)]) := by
 refine aX Tryz.func163 rfl (by decide) Tryz.ntmps163 (by exact Nat.le_of_ble_eq_true rfl) fun w0 M0 => ?_
 refine aF (aA ?_)
 refine dy (by exact (rfl : _ = Ty.pe _ _ _)) rfl ?_
 refine az rfl (iT rfl (aD (aC (aF (aA (cx rfl (RK rfl (aD (aC (au (bT rfl rfl ?_)))))))))))
 all_goals exact bQ rfl rfl
 skip
end Go.Proofs.YtmmcenjknimhbaaGreat
namespace Go.Proofs.YtmmcenjknimhbaaGreat
open Go Go.T
set_option maxHeartbeats 4000000
attribute [local irreducible] oC
attribute [local irreducible] fL dg lG nG fZ gA fy fm ff nB gB m6 cw fA m4 ew nM nth eU cm aV cy bodyPost Exit.then Exit.inBlock Code.wp Code.wpIn fI ry rq rY iY sB rZ iV sA e9 gr p8 cT cO bodyPostM dW
set_option maxRecDepth 100000 in
theorem HJ (n : Nat) (h : n ≤ 400000000) : e9 Tryz.prog 200 [] [] [Ty.ex (.slice none 0 0), Ty.int .i64 (n : Nat)] [] (Ty.row cv 70 23 []) := by
 refine fJ Tryz.func200 rfl (by decide) Tryz.ntmps200 (by exact Nat.le_of_ble_eq_true rfl) fun w0 M0 => ?_
 refine aF (aA (iT rfl (aD (aC (aF (aF (aA (bP rfl (av rfl rfl rfl (aD (aC ?_)))))))))))
 refine dh rfl (by exact decide_eq_false (by omega)) ?_
 refine ak (aC ?_)
 refine vG (J := live [(0, Ty.row cv 70 23 [])] []) ?_ ?_
 ·refine aF (aA (bP rfl (KL rfl (q8 rfl rfl rfl (KL rfl (q7 rfl rfl rfl ?_))))))
  refine jo rfl rfl (by omega) (by omega) ?_
  refine jo rfl rfl (by omega) (by omega) ?_
  refine b8 rfl (aD (aC (aF (aA (bP rfl (av rfl rfl rfl (aD (aC ?_))))))))
  refine aj rfl (fun hc2 => ?_) (fun hc2 => ?_)
  ·refine aA (KL rfl (KL rfl (q8 rfl rfl rfl (BY rfl rfl rfl rfl rfl (bP rfl ?_)))))
   refine A5 rfl rfl rfl rfl rfl rfl rfl rfl (by decide) rfl (by omega) (by show _ * 16 ≤ _; omega) (by omega) ?_
   refine KL rfl (q7 rfl rfl rfl ?_)
   refine B6 (tg := 23) cv rfl rfl (by decide) rfl rfl rfl rfl rfl ?_
   refine uT rfl (aD (iy ?_))
   (refine cr.mk' ?_ ?_ <;> (repeat' (first | exact aH | exact aI | refine aB ?_ (Ty.aS _) | refine aB ?_ (Ty.aG _))))
  refine ak (iy ?_)
  (refine cr.mk' ?_ ?_ <;> (repeat' (first | exact aH | exact aI | refine aB ?_ (Ty.aS _) | refine aB ?_ Ty.iP)))
 refine aF (aA (AO rfl (uT rfl (aD (aC (au ?_))))))
 refine mF [23] rfl rfl (by decide) (by repeat (exact ji)) ?_
 all_goals skip
 all_goals exact qo (vJ (by decide))
set_option maxRecDepth 100000 in
theorem GO (n : Nat) (h : n ≤ 400000000) : e9 Tryz.prog 165 [] [] [Ty.ex (.slice none 0 0), Ty.int .i64 (n : Nat)] [] (Ty.row eB 3 23 []) := by
 refine fJ Tryz.func165 rfl (by decide) Tryz.ntmps165 (by exact Nat.le_of_ble_eq_true rfl) fun w0 M0 => ?_
 refine aF (aA (iT rfl (aD (aC (aF (aF (aA (bP rfl (av rfl rfl rfl (aD (aC ?_)))))))))))
 refine dh rfl (by exact decide_eq_false (by omega)) ?_
 refine ak (aC ?_)
 refine vG (J := live [(0, Ty.row eB 3 23 [])] []) ?_ ?_
 ·refine aF (aA (bP rfl (KL rfl (q8 rfl rfl rfl (KL rfl (q7 rfl rfl rfl ?_))))))
  refine jo rfl rfl (by omega) (by omega) ?_
  refine jo rfl rfl (by omega) (by omega) ?_
  refine b8 rfl (aD (aC (aF (aA (bP rfl (av rfl rfl rfl (aD (aC ?_))))))))
  refine aj rfl (fun hc2 => ?_) (fun hc2 => ?_)
  ·refine aA (KL rfl (KL rfl (q8 rfl rfl rfl (BY rfl rfl rfl rfl rfl (bP rfl ?_)))))
   refine A5 rfl rfl rfl rfl rfl rfl rfl rfl (by decide) rfl (by omega) (by show _ * 8 ≤ _; omega) (by omega) ?_
   refine KL rfl (q7 rfl rfl rfl ?_)
   refine B6 (tg := 23) eB rfl rfl (by decide) rfl rfl rfl rfl rfl ?_
   refine uT rfl (aD (iy ?_))
   (refine cr.mk' ?_ ?_ <;> (repeat' (first | exact aH | exact aI | refine aB ?_ (Ty.aS _) | refine aB ?_ (Ty.aG _))))
  refine ak (iy ?_)
  (refine cr.mk' ?_ ?_ <;> (repeat' (first | exact aH | exact aI | refine aB ?_ (Ty.aS _) | refine aB ?_ Ty.iP)))
 refine aF (aA (AO rfl (uT rfl (aD (aC (au ?_))))))
 refine mF [23] rfl rfl (by decide) (by repeat (exact ji)) ?_
 all_goals skip
 all_goals exact qo (vJ (by decide))
set_option maxRecDepth 100000 in
theorem C5 (l : List (List bu)) (h : l.flatten.length ≤ 400000000) : cy Tryz.prog 160 [Ty.sl sJ l] (Ty.sl cv l.flatten) := by
 refine aX Tryz.func160 rfl (by decide) Tryz.ntmps160 (by exact Nat.le_of_ble_eq_true rfl) fun w0 M0 => ?_
 refine jv (s := 0) rfl rfl j9 fun hl => ?_
 refine aF (aA (iT rfl (aD (aC (aF (aA (b8 rfl (aD (aC (aF (aF (aA (eV rfl (bq rfl rfl rfl (bP rfl ?_)))))))))))))))
 refine aD (aC (aY ?_))
 refine cI (fun (k : Nat) => live [(0, Ty.sl sJ l), (3, Ty.int .i64 (l.take k).flatten.length), (9, Ty.sl sJ l), (10, Ty.int .i64 l.length), (11, Ty.int .i64 (k : Nat))] []) (fun k => l.length - k) (0) ?_ fun k => ?_
 ·(refine cr.mk' ?_ ?_ <;> (repeat' (first | exact aH | exact aI | refine aB ?_ (Ty.aS _) | refine aB ?_ (Ty.aG _))))
 refine aF (aA (av rfl rfl rfl (aD (aC (aF ?_)))))
 refine aj rfl (fun hc1 => ?_) (fun hc1 => ?_)
 ·refine ak (aC (aF (aY (aF (aA ?_)))))
  refine bC rfl rfl rfl rfl rfl rfl (by omega) ?_
  refine aL rfl rfl rfl rfl (xO rfl (aD (aC (aF ?_))))
  have hf1 := ga l (k + 1)
  have hf2 : (l.take (k + 1)).flatten.length = (l.take k).flatten.length + (nth l k).length := by rw [eF (by omega), List.length_append]
  refine aA (bP rfl (eV rfl (bq rfl rfl rfl ?_)))
  refine cD rfl rfl (by omega) (by omega) ?_
  refine b8 rfl (aD (aC (aF (aA (bP rfl (av rfl rfl rfl (aD (aC ?_))))))))
  refine dh rfl (by exact decide_eq_false (by omega)) ?_
  refine ak (bJ (aC (aA ?_)))
  refine cD rfl rfl (by omega) (by omega) ?_
  refine bP rfl (aD ?_)
  refine bS (k + 1) ?_ (by omega)
  (refine cr.mk' ?_ ?_ <;> (repeat' (first | exact aH | exact aI | refine aB ?_ (Ty.aS _) | refine aB ?_ (Ty.aG _) | refine aB ?_ ?_)))
  all_goals skip
  all_goals exact Ty.bg (by rw [eF (by omega), List.length_append]; omega)
 refine b9 (aN (aN (aZ rfl (aC (aF (aA (bP rfl ?_)))))))
 refine eH [(25, 23)] [25] [] (HJ (l.take k).flatten.length (by have := ga l k; omega)) rfl rfl (by repeat (first | exact fM | refine eE ?_ ?_ | exact c7 rfl rfl)) pre_nil post_nil (vJ (by exact List.mem_cons_self)) ?_
 refine uT rfl (aD (aC (aF (aF (aA (eV rfl (bq rfl rfl rfl (bP rfl (aD (aC (aY ?_)))))))))))
 refine cI (fun (m : Nat) => live [(6, Ty.row cv 70 25 (l.take m).flatten), (25, Ty.sl sJ l), (26, Ty.int .i64 l.length), (27, Ty.int .i64 (m : Nat))] []) (fun m => l.length - m) (0) ?_ fun m => ?_
 ·(refine cr.mk' ?_ ?_ <;> (repeat' (first | exact aH | exact aI | refine aB ?_ (Ty.aS _) | refine aB ?_ (Ty.aG _))))
 have hm1 := ga l (m + 1)
 refine aF (aA (av rfl rfl rfl (aD (aC (aF ?_)))))
 refine aj rfl (fun hc3 => ?_) (fun hc3 => ?_)
 ·refine ak (aC (aF (aY (aF (aA ?_)))))
  refine bC rfl rfl rfl rfl rfl rfl (by omega) ?_
  refine aL rfl rfl rfl rfl (xO rfl (aD (aC ?_)))
  have hf2 : (l.take (m + 1)).flatten.length = (l.take m).flatten.length + (nth l m).length := by rw [eF (by omega), List.length_append]
  refine aA (AO rfl (eV rfl ?_))
  refine dz rfl rfl (by decide) rfl rfl rfl rfl rfl rfl (by decide) (by (dsimp only; omega)) (by omega) ?_
  refine uT rfl (aD (bJ (aC (aA ?_))))
  refine cD rfl rfl (by omega) (by omega) ?_
  refine bP rfl (aD ?_)
  refine bS (m + 1) ?_ (by omega)
  (refine cr.mk' ?_ ?_ <;> (repeat' (first | exact aH | exact aI | refine aB ?_ (Ty.aS _) | refine aB ?_ (Ty.aG _) | refine aB ?_ ?_)))
  all_goals skip
  all_goals exact Ty.gy (eF (by omega)).symm
 refine b9 (aN (aN (aZ rfl (aC (aF (aA (AO rfl (uT rfl (aD (aC (au (bT rfl rfl ?_))))))))))))
 all_goals skip
 all_goals exact j7 (by decide) (by rw [List.take_of_length_le (by omega)])
set_option maxRecDepth 100000 in
theorem DT (l : List (List Int)) (h : l.flatten.length ≤ 400000000) : cy Tryz.prog 122 [Ty.sl AF l] (Ty.sl eB l.flatten) := by
 refine aX Tryz.func122 rfl (by decide) Tryz.ntmps122 (by exact Nat.le_of_ble_eq_true rfl) fun w0 M0 => ?_
 refine jv (s := 0) rfl rfl j9 fun hl => ?_
 refine aF (aA (iT rfl (aD (aC (aF (aA (b8 rfl (aD (aC (aF (aF (aA (eV rfl (bq rfl rfl rfl (bP rfl ?_)))))))))))))))
 refine aD (aC (aY ?_))
 refine cI (fun (k : Nat) => live [(0, Ty.sl AF l), (3, Ty.int .i64 (l.take k).flatten.length), (9, Ty.sl AF l), (10, Ty.int .i64 l.length), (11, Ty.int .i64 (k : Nat))] []) (fun k => l.length - k) (0) ?_ fun k => ?_
 ·(refine cr.mk' ?_ ?_ <;> (repeat' (first | exact aH | exact aI | refine aB ?_ (Ty.aS _) | refine aB ?_ (Ty.aG _))))
 refine aF (aA (av rfl rfl rfl (aD (aC (aF ?_)))))
 refine aj rfl (fun hc1 => ?_) (fun hc1 => ?_)
 ·refine ak (aC (aF (aY (aF (aA ?_)))))
  refine bC rfl rfl rfl rfl rfl rfl (by omega) ?_
  refine aL rfl rfl rfl rfl (xO rfl (aD (aC (aF ?_))))
  have hf1 := ga l (k + 1)
  have hf2 : (l.take (k + 1)).flatten.length = (l.take k).flatten.length + (nth l k).length := by rw [eF (by omega), List.length_append]
  refine aA (bP rfl (eV rfl (bq rfl rfl rfl ?_)))
  refine cD rfl rfl (by omega) (by omega) ?_
  refine b8 rfl (aD (aC (aF (aA (bP rfl (av rfl rfl rfl (aD (aC ?_))))))))
  refine dh rfl (by exact decide_eq_false (by omega)) ?_
  refine ak (bJ (aC (aA ?_)))
  refine cD rfl rfl (by omega) (by omega) ?_
  refine bP rfl (aD ?_)
  refine bS (k + 1) ?_ (by omega)
  (refine cr.mk' ?_ ?_ <;> (repeat' (first | exact aH | exact aI | refine aB ?_ (Ty.aS _) | refine aB ?_ (Ty.aG _) | refine aB ?_ ?_)))
  all_goals skip
  all_goals exact Ty.bg (by rw [eF (by omega), List.length_append]; omega)
 refine b9 (aN (aN (aZ rfl (aC (aF (aA (bP rfl ?_)))))))
 refine eH [(25, 23)] [25] [] (GO (l.take k).flatten.length (by have := ga l k; omega)) rfl rfl (by repeat (first | exact fM | refine eE ?_ ?_ | exact c7 rfl rfl)) pre_nil post_nil (vJ (by exact List.mem_cons_self)) ?_
 refine uT rfl (aD (aC (aF (aF (aA (eV rfl (bq rfl rfl rfl (bP rfl (aD (aC (aY ?_)))))))))))
 refine cI (fun (m : Nat) => live [(6, Ty.row eB 3 25 (l.take m).flatten), (25, Ty.sl AF l), (26, Ty.int .i64 l.length), (27, Ty.int .i64 (m : Nat))] []) (fun m => l.length - m) (0) ?_ fun m => ?_
 ·(refine cr.mk' ?_ ?_ <;> (repeat' (first | exact aH | exact aI | refine aB ?_ (Ty.aS _) | refine aB ?_ (Ty.aG _))))
 have hm1 := ga l (m + 1)
 refine aF (aA (av rfl rfl rfl (aD (aC (aF ?_)))))
 refine aj rfl (fun hc3 => ?_) (fun hc3 => ?_)
 ·refine ak (aC (aF (aY (aF (aA ?_)))))
  refine bC rfl rfl rfl rfl rfl rfl (by omega) ?_
  refine aL rfl rfl rfl rfl (xO rfl (aD (aC ?_)))
  have hf2 : (l.take (m + 1)).flatten.length = (l.take m).flatten.length + (nth l m).length := by rw [eF (by omega), List.length_append]
  refine aA (AO rfl (eV rfl ?_))
  refine dz rfl rfl (by decide) rfl rfl rfl rfl rfl rfl (by decide) (by (dsimp only; omega)) (by omega) ?_
  refine uT rfl (aD (bJ (aC (aA ?_))))
  refine cD rfl rfl (by omega) (by omega) ?_
  refine bP rfl (aD ?_)
  refine bS (m + 1) ?_ (by omega)
  (refine cr.mk' ?_ ?_ <;> (repeat' (first | exact aH | exact aI | refine aB ?_ (Ty.aS _) | refine aB ?_ (Ty.aG _) | refine aB ?_ ?_)))
  all_goals skip
  all_goals exact Ty.gy (eF (by omega)).symm
 refine b9 (aN (aN (aZ rfl (aC (aF (aA (AO rfl (uT rfl (aD (aC (au (bT rfl rfl ?_))))))))))))
 all_goals skip
 all_goals exact j7 (by decide) (by rw [List.take_of_length_le (by omega)])
set_option maxRecDepth 100000 in
theorem zh (xs : List (List bu)) (hn : xs.length ≤ 400000000) : e9 Tryz.prog 201 [1000] [(1000, Cont.vec sJ 64 xs)] [Ty.vs 1000 xs.length] [(1000, Cont.vec sJ 64 xs.reverse)] (Ty.jk []) := by
 refine fJ Tryz.func201 rfl (by decide) Tryz.ntmps201 (by exact Nat.le_of_ble_eq_true rfl) fun w0 M0 => ?_
 refine aF (aA (FZ rfl (zC rfl rfl rfl ?_)))
 refine jo rfl rfl (by omega) (by omega) ?_
 refine b8 rfl (b8 rfl (aD (aC (aY ?_))))
 refine cI (fun (k : {k : Nat // k = 0 ∨ 2 * k ≤ xs.length}) => live [(0, Ty.vs 1000 xs.length), (2, Ty.int .i64 (k.1 : Nat)), (3, Ty.int .i64 ((xs.length : Int) - 1 - k.1))] [(1000, Cont.vec sJ 64 (oC xs k.1))]) (fun k => xs.length - k.1) (⟨0, .inl rfl⟩) ?_ fun k => ?_
 ·(refine cr.mk' ?_ ?_ <;> (repeat' (first | exact aH | exact aI | refine aB ?_ (Ty.aS _) | refine aB ?_ (Ty.aG _) | refine aK rfl ?_ ?_ | refine aB ?_ ?_)))
  all_goals first | exact Ty.bg (show (xs.length : Int) - 1 = (xs.length : Int) - 1 - ((0 : Nat) : Int) by omega) | exact Cont.iM (z8 xs).symm
 have hk := k.2
 have hrl := iL xs k.1
 refine aF (aF (aA (bP rfl (bP rfl (av rfl rfl rfl (aD (aC ?_)))))))
 refine aj rfl (fun hc1 => ?_) (fun hc1 => ?_)
 ·refine ak (aC (aF (aY ?_)))
  have hlt : (k.1 : Int) < (xs.length : Int) - 1 - k.1 := hc1
  refine cq mixed rfl (FZ rfl (bP rfl (FZ rfl (bP rfl (FZ rfl (bP rfl ?_))))))
  refine gS rfl rfl rfl rfl rfl (by omega) (by omega) ?_
  refine w9 rfl rfl rfl (by decide) rfl rfl (by omega) rfl ?_
  refine FZ rfl (bP rfl ?_)
  refine ou rfl rfl rfl rfl rfl (by omega) ?_
  refine w9 rfl rfl rfl (by decide) rfl rfl (by omega) rfl ?_
  refine ou rfl rfl rfl rfl rfl (by omega) ?_
  refine o8 rfl rfl rfl (by decide) rfl rfl (by exact (rfl : _ = Ty.sl _ _)) rfl (by omega) (by decide) rfl rfl ?_
  refine gS rfl rfl rfl rfl rfl (by omega) (by omega) ?_
  refine o8 rfl rfl rfl (by decide) rfl rfl (by exact (rfl : _ = Ty.sl _ _)) rfl (by (simp <;> omega)) (by decide) rfl rfl ?_
  refine aD ?_
  refine ⟨by kernel_rfl, ?_⟩
  refine bJ (aC (aA (bP rfl ?_)))
  refine cD rfl rfl (by omega) (by omega) ?_
  refine bP rfl ?_
  refine jo rfl rfl (by omega) (by omega) ?_
  refine b8 rfl (b8 rfl (aD ?_))
  refine bS (⟨k.1 + 1, by omega⟩) ?_ (by show xs.length - (k.1 + 1) < xs.length - k.1; omega)
  (refine cr.mk' ?_ ?_ <;> (repeat' (first | exact aH | exact aI | refine aB ?_ (Ty.aS _) | refine aB ?_ (Ty.aG _) | refine aK rfl ?_ ?_ | refine aB ?_ ?_)))
  all_goals skip
  all_goals first | exact Ty.bg (by show _ = (xs.length : Int) - 1 - ((k.1 + 1 : Nat) : Int); omega) | exact Cont.iM (by rw [show ((xs.length : Int) - 1 - k.1).toNat = xs.length - 1 - k.1 by omega]; exact yO (by omega))
 refine b9 (aN (aN (aZ rfl (HT ?_))))
 refine Ks [1000] rfl (by decide) ?_
 refine kR rfl (vn (by decide) (BU (by omega))) ji
 all_goals skip
set_option maxRecDepth 100000 in
theorem Aj (xs : List bu) (hn : xs.length ≤ 400000000) : e9 Tryz.prog 110 [1000] [(1000, Cont.vec cv 70 xs)] [Ty.vs 1000 xs.length] [(1000, Cont.vec cv 70 xs.reverse)] (Ty.jk []) := by
 refine fJ Tryz.func110 rfl (by decide) Tryz.ntmps110 (by exact Nat.le_of_ble_eq_true rfl) fun w0 M0 => ?_
 refine aF (aA (FZ rfl (zC rfl rfl rfl ?_)))
 refine jo rfl rfl (by omega) (by omega) ?_
 refine b8 rfl (b8 rfl (aD (aC (aY ?_))))
 refine cI (fun (k : {k : Nat // k = 0 ∨ 2 * k ≤ xs.length}) => live [(0, Ty.vs 1000 xs.length), (2, Ty.int .i64 (k.1 : Nat)), (3, Ty.int .i64 ((xs.length : Int) - 1 - k.1))] [(1000, Cont.vec cv 70 (oC xs k.1))]) (fun k => xs.length - k.1) (⟨0, .inl rfl⟩) ?_ fun k => ?_
 ·(refine cr.mk' ?_ ?_ <;> (repeat' (first | exact aH | exact aI | refine aB ?_ (Ty.aS _) | refine aB ?_ (Ty.aG _) | refine aK rfl ?_ ?_ | refine aB ?_ ?_)))
  all_goals first | exact Ty.bg (show (xs.length : Int) - 1 = (xs.length : Int) - 1 - ((0 : Nat) : Int) by omega) | exact Cont.iM (z8 xs).symm
 have hk := k.2
 have hrl := iL xs k.1
 refine aF (aF (aA (bP rfl (bP rfl (av rfl rfl rfl (aD (aC ?_)))))))
 refine aj rfl (fun hc1 => ?_) (fun hc1 => ?_)
 ·refine ak (aC (aF (aY ?_)))
  have hlt : (k.1 : Int) < (xs.length : Int) - 1 - k.1 := hc1
  refine cq mixed rfl (FZ rfl (bP rfl (FZ rfl (bP rfl (FZ rfl (bP rfl ?_))))))
  refine gS rfl rfl rfl rfl rfl (by omega) (by omega) ?_
  refine wR ((xs.length : Int) - 1 - k.1).toNat rfl rfl rfl (by decide) rfl rfl rfl (by omega) ?_
  refine FZ rfl (bP rfl ?_)
  refine ou rfl rfl rfl rfl rfl (by omega) ?_
  refine wR k.1 rfl rfl rfl (by decide) rfl rfl rfl (by omega) ?_
  refine ou rfl rfl rfl rfl rfl (by omega) ?_
  refine uM k.1 rfl rfl rfl (by decide) rfl rfl rfl (by omega) ?_
  refine gS rfl rfl rfl rfl rfl (by omega) (by omega) ?_
  refine uM ((xs.length : Int) - 1 - k.1).toNat rfl rfl rfl (by decide) rfl rfl rfl (by rw [List.length_set]; omega) ?_
  refine aD ?_
  refine ⟨by kernel_rfl, ?_⟩
  refine bJ (aC (aA (bP rfl ?_)))
  refine cD rfl rfl (by omega) (by omega) ?_
  refine bP rfl ?_
  refine jo rfl rfl (by omega) (by omega) ?_
  refine b8 rfl (b8 rfl (aD ?_))
  refine bS (⟨k.1 + 1, by omega⟩) ?_ (by show xs.length - (k.1 + 1) < xs.length - k.1; omega)
  (refine cr.mk' ?_ ?_ <;> (repeat' (first | exact aH | exact aI | refine aB ?_ (Ty.aS _) | refine aB ?_ (Ty.aG _) | refine aK rfl ?_ ?_ | refine aB ?_ ?_)))
  all_goals skip
  all_goals first | exact Ty.bg (by show _ = (xs.length : Int) - 1 - ((k.1 + 1 : Nat) : Int); omega) | exact Cont.iM (by rw [show ((xs.length : Int) - 1 - k.1).toNat = xs.length - 1 - k.1 by omega]; exact yO (by omega))
 refine b9 (aN (aN (aZ rfl (HT ?_))))
 refine Ks [1000] rfl (by decide) ?_
 refine kR rfl (vn (by decide) (BU (by omega))) ji
 all_goals skip
set_option maxRecDepth 100000 in
theorem My (f : Found) (first : Pl) (L : List (List bu)) (hL : gx f.ways first f.last L) (hlen : L.length ≤ 40000000) : cy Tryz.prog 161 [G4 f, Ty.agg (m3 first)] (Ty.sl sJ L) := by
 refine aX Tryz.func161 rfl (by decide) Tryz.ntmps161 (by exact Nat.le_of_ble_eq_true rfl) fun w0 M0 => ?_
 refine aF (aA (az rfl (az rfl (iT rfl (aD (aC (aF (aA (iT rfl (aD (aC (aF (aF (aA ?_))))))))))))))
 refine aQ rfl rfl rfl rfl rfl (by decide) ?_
 refine aa rfl rfl rfl (by exact Nat.le_of_ble_eq_true rfl) ?_
 refine bX rfl (by exact List.cons_ne_nil _ _) rfl ?_
 refine bW rfl rfl (by decide) rfl rfl rfl rfl rfl rfl ?_
 refine aD (aC (aY ?_))
 refine cI (fun (x : {x : Pl × List (List bu) × List (List bu) // gx f.ways first x.1 x.2.1 ∧ L = x.2.1 ++ x.2.2.reverse}) => live [(2, Ty.pp (zy f)), (3, Ty.pp (m3 first)), (5, Ty.row sJ 64 25 x.1.2.2), (6, Ty.ptr 7 0)] [(7, Cont.cells 188 (m3 x.1.1))]) (fun x => x.1.2.1.length) (⟨(f.last, L, []), hL, by simp⟩) ?_ fun x => ?_
 ·(refine cr.mk' ?_ ?_ <;> (repeat' (first | exact aH | exact aI | refine aB ?_ (Ty.aS _) | refine aB ?_ (Ty.aG _) | refine aB ?_ Ty.iP | refine aK rfl (Cont.aG _) ?_)))
 have hxl : x.1.2.2.length ≤ L.length := by rw [congrArg List.length x.2.2, List.length_append, List.length_reverse]; omega
 refine aF (aF (aA ?_))
 refine bI rfl rfl (by decide) rfl rfl (by exact Nat.le_of_ble_eq_true rfl) ?_
 refine aa rfl rfl rfl (by exact Nat.le_of_ble_eq_true rfl) ?_
 refine NM (QB x.1.1 first) rfl rfl (aD (aC ?_))
 refine dB rfl (fun hc1 => ?_) (fun hc1 => ?_)
 ·refine ak (aC (aF (aY (aA (AO rfl ?_)))))
  refine aQ rfl rfl rfl rfl rfl (by decide) ?_
  refine aL rfl rfl rfl rfl ?_
  refine bI rfl rfl (by decide) rfl rfl (by exact Nat.le_of_ble_eq_true rfl) ?_
  refine ve qt (k := x.1.1) (z0 := jj) rfl rfl (mU x.1.1) ia td qT ?_
  refine uy rfl rfl rfl rfl rfl rfl rfl ?_
  refine bY (E := sJ) (xs := [((bU f.ways x.1.1).getD jj).byT]) rfl rfl rfl rfl rfl (by decide) (by decide) (by repeat (first | exact (aT.nil : aT _ _ [] _) | (show aT _ _ ((_, _) :: _) _; apply aT.one; (· exact (rfl : _ = Ty.sl _ _)); (· exact rfl)))) (by exact rfl) rfl ?_
  refine dz rfl rfl (by decide) rfl rfl rfl rfl rfl rfl (by decide) (by (simp <;> omega)) (by (simp <;> omega)) ?_
  refine uT rfl (aD (bJ (aC (aF (aF (aA ?_))))))
  refine bI rfl rfl (by decide) rfl rfl (by exact Nat.le_of_ble_eq_true rfl) ?_
  refine aD (aC (aA ?_))
  refine bX rfl (by exact List.cons_ne_nil _ _) rfl ?_
  refine bW rfl rfl (by decide) rfl rfl rfl rfl rfl rfl ?_
  refine aD (aC (aA ?_))
  refine aQ rfl rfl rfl rfl rfl (by decide) ?_
  refine aL rfl rfl rfl rfl ?_
  refine bI rfl rfl (by decide) rfl rfl (by exact Nat.le_of_ble_eq_true rfl) ?_
  refine ve qt (k := x.1.1) (z0 := jj) rfl rfl (mU x.1.1) ia td qT ?_
  refine KH rfl rfl rfl rfl rfl rfl ?_
  refine bW rfl rfl (by decide) rfl rfl rfl rfl rfl rfl ?_
  refine aD ?_
  refine bS (⟨(((bU f.ways x.1.1).getD jj).frm, x.1.2.1.dropLast, x.1.2.2 ++ [((bU f.ways x.1.1).getD jj).byT]), (x.2.1.step hc1).1, by have h1 := x.2.2; rw [(x.2.1.step hc1).2] at h1; exact h1.trans (by simp)⟩) ?_ (by show x.1.2.1.dropLast.length < x.1.2.1.length; rw [congrArg List.length (x.2.1.step hc1).2, List.length_append]; simp)
  (refine cr.mk' ?_ ?_ <;> (repeat' (first | exact aH | exact aI | refine aB ?_ (Ty.aS _) | refine aB ?_ (Ty.aG _) | refine aK rfl (Cont.aG _) ?_)))
  all_goals skip
 refine b9 (aN (aN (aZ rfl (aC (aF ?_)))))
 have hx0 : x.1.2.1 = [] := by
  have h := x.2.1
  have e : x.1.1 = first := hc1
  rw [e] at h; exact h.EE
 have hL2 : L = x.1.2.2.reverse := by
  have h := x.2.2
  rw [hx0] at h; exact h
 refine LP (s := 5) rfl rfl ?_
 refine aA (FZ rfl ?_)
 refine eH [(25, 1000)] [] [(25, Cont.vec sJ 64 x.1.2.2.reverse)] (zh x.1.2.2 (by omega)) rfl rfl (by repeat (first | exact fM | refine eE ?_ ?_ | exact Ow List.mem_cons_self)) (eM (a := 25) (b := 1000) (by exact List.mem_cons_self) rfl (vn (by exact List.mem_cons_self) rfl) pre_nil) (dL (a := 25) (b := 1000) (by exact List.mem_cons_self) rfl (vn (by exact List.mem_cons_self) rfl) post_nil) (c7 rfl rfl) ?_
 refine aD (aC (aF ?_))
 refine mC (tg := 25) [(5, Ty.sl sJ x.1.2.2.reverse)] (by decide) rfl ⟨DK rfl rfl (by rw [List.length_reverse]) (by decide), trivial⟩ ?_
 refine aA (eV rfl (xO rfl (aD (aC (au (bT rfl rfl ?_))))))
 all_goals skip
 all_goals exact bD rfl rfl (congrArg (Ty.sl sJ) hL2.symm)
end Go.Proofs.YtmmcenjknimhbaaGreat
namespace Go.Proofs.YtmmcenjknimhbaaGreat
open Go Go.T
set_option maxHeartbeats 16000000
theorem Ga (w : List (Pl × Way)) : G4 ⟨w, KM, false⟩ = Ty.agg [Ty.pm (fF 6) jQ w, Ty.int .i64 0, Ty.int .i64 0, Ty.int .i64 0, Ty.int .i64 0, Ty.int .i64 0, Ty.int .i64 0, Ty.bool false] := rfl
attribute [local irreducible] fL dg lG nG fZ gA fy fm ff nB gB m6 cw fA m4 ew nM nth eU cm aV cy bodyPost Exit.then Exit.inBlock Code.wp Code.wpIn fI ry rq rY iY sB rZ iV sA e9 gr p8 cT cO bodyPostM dW
set_option maxRecDepth 100000 in
theorem Dx (b : aW) (hr : b.dD) (c : bu → Int) (hc : iC b c) (ct : Ty) (h1 : ct.one = true) (hd : ct.deps = []) (hcd : ct.cdeps = []) (hf : ∀ t : bu, 0 ≤ t.cJ → t.cJ < b.lots.length → rS Tryz.prog ct [Ty.agg (cv.tys t)] (Ty.int .i64 (c t))) (all : Bool) : cy Tryz.prog 120 [Ty.pe dS ⟨b, bE b⟩ 0, Ty.agg [Ty.nd ct hd hcd], Ty.bool all] (G4 (cZ b c all)) := by
 refine vS Tryz.func120 rfl (by decide) Tryz.ntmps120 (by exact Nat.le_of_ble_eq_true rfl) fun w0 M0 => ?_
 have h6 := hr.lots
 have hN := oa
 refine aF (aA (az rfl ?_))
 refine bX rfl (by exact List.cons_ne_nil _ _) rfl ?_
 refine aD (aC (Np (aF (aA (vr (fF 6) jQ ia rfl (lT rfl (cP rfl ?_)))))))
 refine cR rfl rfl rfl rfl rfl (by decide) ?_
 refine gY rfl rfl rfl rfl rfl ?_
 refine c6 rfl rfl (by exact List.cons_ne_nil _ _) rfl (by repeat (exact (aT.nil : aT _ _ [] _))) (by exact rfl) ?_
 refine qA (uD qt (k := bE b) (v := jj) rfl rfl (by decide) rfl (mU (bE b)) rfl Da ia ?_)
 refine Qy rfl ?_
 refine c6 rfl rfl (by exact List.cons_ne_nil _ _) rfl (by repeat (first | exact (aT.nil : aT _ _ [] _) | (show aT _ _ ((_, _) :: _) _; apply aT.one; (· exact (rfl : _ = Ty.mp _)); (· exact rfl)))) (by exact rfl) ?_
 refine bX rfl (by exact List.cons_ne_nil _ _) rfl ?_
 refine bW rfl rfl (by decide) rfl rfl rfl rfl rfl rfl ?_
 refine aD (aC (aF ?_))
 refine dH (B := live [(0, Ty.pe dS ⟨b, bE b⟩ 0), (2, Ty.bool all), (4, Ty.pp [Ty.nd ct hd hcd]), (6, Ty.ptr 7 0), (7, Ty.ptr 8 0)] [(7, Cont.cells 190 [Ty.ex (.map none), Ty.int .i64 0, Ty.int .i64 0, Ty.int .i64 0, Ty.int .i64 0, Ty.int .i64 0, Ty.int .i64 0, Ty.bool false]), (8, Cont.cells 190 [Ty.mp 19, Ty.int .i64 0, Ty.int .i64 0, Ty.int .i64 0, Ty.int .i64 0, Ty.int .i64 0, Ty.int .i64 0, Ty.bool false]), (19, Cont.mp (fF 6) jQ (tV b).ways)]) ?_ ?_
 ·(refine cr.mk' ?_ ?_ <;> (repeat' (first | exact aH | exact aI | refine aB ?_ (Ty.aS _) | refine aB ?_ (Ty.aG _) | refine aK rfl (Cont.aG _) ?_)))
 refine aA (GI (Value.int .i64) r9 188 4096 lO rfl (lT rfl (cP rfl ?_)))
 refine cR rfl rfl rfl rfl rfl (by decide) ?_
 refine gY rfl rfl rfl rfl rfl ?_
 refine m7 (E := r9) (xs := [bE b]) rfl rfl rfl rfl rfl (by decide) (by decide) (by repeat (first | exact (aT.nil : aT _ _ [] _) | (show aT _ _ ((_, _) :: _) _; apply aT.agg; (· exact (rfl : _ = Ty.agg _))))) (by exact rfl) rfl rfl ?_
 refine qA (Jd xB (k := 0) rfl rfl (by decide) rfl nN rfl lO (by decide) (by decide) rfl rfl ?_)
 refine Qy rfl ?_
 refine bX rfl (by exact List.cons_ne_nil _ _) rfl ?_
 refine cj rfl rfl (by decide) rfl rfl (by exact (rfl : _ = Ty.mp _)) rfl (by exact Nat.le_of_ble_eq_true rfl) rfl rfl (by exact (rfl : _ = [_])) ?_
 refine aD (aC (aF ?_))
 refine dH (B := live [(0, Ty.pe dS ⟨b, bE b⟩ 0), (2, Ty.bool all), (4, Ty.pp [Ty.nd ct hd hcd]), (6, Ty.ptr 7 0), (7, Ty.ptr 8 0), (8, Ty.ptr 9 0)] [(7, Cont.cells 190 [Ty.ex (.map none), Ty.int .i64 0, Ty.int .i64 0, Ty.int .i64 0, Ty.int .i64 0, Ty.int .i64 0, Ty.int .i64 0, Ty.bool false]), (8, Cont.cells 190 [Ty.mp 19, Ty.int .i64 0, Ty.int .i64 0, Ty.int .i64 0, Ty.int .i64 0, Ty.int .i64 0, Ty.int .i64 0, Ty.bool false]), (9, Cont.cells 222 [Ty.mp 27]), (19, Cont.mp (fF 6) jQ (tV b).ways), (27, Cont.mr (Value.int .i64) r9 188 4096 (tV b).queue)]) ?_ ?_
 ·(refine cr.mk' ?_ ?_ <;> (repeat' (first | exact aH | exact aI | refine aB ?_ (Ty.aS _) | refine aB ?_ (Ty.aG _) | refine aK rfl (Cont.aG _) ?_)))
 refine aA (vr (fF 6) n9 DB rfl (SD rfl (aD (aC (aF (OL (aC (aF (aF ?_)))))))))
 refine dH (B := live [(0, Ty.pe dS ⟨b, bE b⟩ 0), (2, Ty.bool all), (4, Ty.pp [Ty.nd ct hd hcd]), (6, Ty.ptr 7 0), (7, Ty.ptr 8 0), (8, Ty.ptr 9 0), (9, Ty.mp 34)] [(7, Cont.cells 190 [Ty.ex (.map none), Ty.int .i64 0, Ty.int .i64 0, Ty.int .i64 0, Ty.int .i64 0, Ty.int .i64 0, Ty.int .i64 0, Ty.bool false]), (8, Cont.cells 190 [Ty.mp 19, Ty.int .i64 0, Ty.int .i64 0, Ty.int .i64 0, Ty.int .i64 0, Ty.int .i64 0, Ty.int .i64 0, Ty.bool false]), (9, Cont.cells 222 [Ty.mp 27]), (19, Cont.mp (fF 6) jQ (tV b).ways), (27, Cont.mr (Value.int .i64) r9 188 4096 (tV b).queue), (34, Cont.mp (fF 6) n9 (tV b).done)]) ?_ ?_
 ·(refine cr.mk' ?_ ?_ <;> (repeat' (first | exact aH | exact aI | refine aB ?_ (Ty.aS _) | refine aB ?_ (Ty.aG _) | refine aK rfl (Cont.aG _) ?_)))
 refine aA ?_
 refine bX rfl (by exact List.cons_ne_nil _ _) rfl ?_
 refine bX rfl (by exact List.cons_ne_nil _ _) rfl ?_
 refine cj rfl rfl (by decide) rfl rfl (by exact (rfl : _ = Ty.int _ _)) rfl (by exact Nat.le_of_ble_eq_true rfl) rfl rfl (by exact (rfl : _ = [_])) ?_
 refine cj rfl rfl (by decide) rfl rfl (by exact (rfl : _ = Ty.int _ _)) rfl (by exact Nat.le_of_ble_eq_true rfl) rfl rfl (by exact (rfl : _ = [_])) ?_
 refine aD (aC (aY ?_))
 refine cI (fun (x : {x : St // Inv b c all (ay b) 0 x ∧ pZ b c all x}) => live [(0, Ty.pe dS ⟨b, bE b⟩ 0), (2, Ty.bool all), (4, Ty.pp [Ty.nd ct hd hcd]), (6, Ty.ptr 7 0), (7, Ty.ptr 8 0), (8, Ty.ptr 9 0), (9, Ty.mp 34), (10, Ty.ptr 11 0), (11, Ty.ptr 12 0)] [(7, Cont.cells 190 [Ty.ex (.map none), Ty.int .i64 0, Ty.int .i64 0, Ty.int .i64 0, Ty.int .i64 0, Ty.int .i64 0, Ty.int .i64 0, Ty.bool false]), (8, Cont.cells 190 [Ty.mp 19, Ty.int .i64 0, Ty.int .i64 0, Ty.int .i64 0, Ty.int .i64 0, Ty.int .i64 0, Ty.int .i64 0, Ty.bool false]), (9, Cont.cells 222 [Ty.mp 27]), (11, Cont.cells 3 [Ty.int .i64 x.1.now]), (12, Cont.cells 3 [Ty.int .i64 x.1.left]), (19, Cont.mp (fF 6) jQ x.1.ways), (27, Cont.mr (Value.int .i64) r9 188 4096 x.1.queue), (34, Cont.mp (fF 6) n9 x.1.done)]) (fun x => AL x.1) (⟨tV b, Q5 b c all, RD⟩) ?_ fun x => ?_
 ·(refine cr.mk' ?_ ?_ <;> (repeat' (first | exact aH | exact aI | refine aB ?_ (Ty.aS _) | refine aB ?_ (Ty.aG _) | refine aK rfl (Cont.aG _) ?_)))
 refine aF (aF (aA ?_))
 refine aU rfl rfl (by decide) rfl rfl rfl ?_
 refine av rfl rfl rfl (aD (aC ?_))
 refine aj rfl (fun hc1 => ?_) (fun hc1 => ?_)
 ·refine ak (aC (aF (aY (aF (aY ?_)))))
  refine cI (fun (y : {y : St // Fj b c all x.1 y}) => live [(0, Ty.pe dS ⟨b, bE b⟩ 0), (2, Ty.bool all), (4, Ty.pp [Ty.nd ct hd hcd]), (6, Ty.ptr 7 0), (7, Ty.ptr 8 0), (8, Ty.ptr 9 0), (9, Ty.mp 34), (10, Ty.ptr 11 0), (11, Ty.ptr 12 0)] [(7, Cont.cells 190 [Ty.ex (.map none), Ty.int .i64 0, Ty.int .i64 0, Ty.int .i64 0, Ty.int .i64 0, Ty.int .i64 0, Ty.int .i64 0, Ty.bool false]), (8, Cont.cells 190 [Ty.mp 19, Ty.int .i64 0, Ty.int .i64 0, Ty.int .i64 0, Ty.int .i64 0, Ty.int .i64 0, Ty.int .i64 0, Ty.bool false]), (9, Cont.cells 222 [Ty.mp 27]), (11, Cont.cells 3 [Ty.int .i64 y.1.now]), (12, Cont.cells 3 [Ty.int .i64 y.1.left]), (19, Cont.mp (fF 6) jQ y.1.ways), (27, Cont.mr (Value.int .i64) r9 188 4096 y.1.queue), (34, Cont.mp (fF 6) n9 y.1.done)]) (fun y => AL y.1) (⟨x.1, IY x.2.1 x.2.2 hc1⟩) ?_ fun y => ?_
  ·(refine cr.mk' ?_ ?_ <;> (repeat' (first | exact aH | exact aI | refine aB ?_ (Ty.aS _) | refine aB ?_ (Ty.aG _) | refine aK rfl (Cont.aG _) ?_)))
  refine aF (aF (aA ?_))
  refine aU rfl rfl (by decide) rfl rfl rfl ?_
  refine aU rfl rfl (by decide) rfl rfl rfl ?_
  refine rF xB (k := y.1.now) rfl rfl (by decide) rfl nN lO xd ?_
  refine PG rfl rfl rfl (av rfl rfl rfl (aD (aC ?_)))
  refine aj rfl (fun hc2 => ?_) (fun hc2 => ?_)
  ·refine ak (aC (aY (aF ?_)))
   have hlen : 0 < (rowAt y.1.queue y.1.now).length := Int.natCast_pos.1 hc2
   have hlen' : 0 < ((bU y.1.queue y.1.now).getD []).length := hlen
   refine aA ?_
   refine aU rfl rfl (by decide) rfl rfl rfl ?_
   refine aU rfl rfl (by decide) rfl rfl rfl ?_
   refine rF xB (k := y.1.now) rfl rfl (by decide) rfl nN lO xd ?_
   refine Lg (i := 0) rfl rfl rfl rfl rfl rfl hlen' ?_
   refine zV rfl rfl rfl (by exact Nat.le_of_ble_eq_true rfl) ?_
   refine bX rfl (by exact List.cons_ne_nil _ _) rfl ?_
   refine bW rfl rfl (by decide) rfl rfl rfl rfl rfl rfl ?_
   refine aD (aC (aF ?_))
   refine dH (B := live [(0, Ty.pe dS ⟨b, bE b⟩ 0), (2, Ty.bool all), (4, Ty.pp [Ty.nd ct hd hcd]), (6, Ty.ptr 7 0), (7, Ty.ptr 8 0), (8, Ty.ptr 9 0), (9, Ty.mp 34), (10, Ty.ptr 11 0), (11, Ty.ptr 12 0), (12, Ty.ptr 13 0)] [(7, Cont.cells 190 [Ty.ex (.map none), Ty.int .i64 0, Ty.int .i64 0, Ty.int .i64 0, Ty.int .i64 0, Ty.int .i64 0, Ty.int .i64 0, Ty.bool false]), (8, Cont.cells 190 [Ty.mp 19, Ty.int .i64 0, Ty.int .i64 0, Ty.int .i64 0, Ty.int .i64 0, Ty.int .i64 0, Ty.int .i64 0, Ty.bool false]), (9, Cont.cells 222 [Ty.mp 27]), (11, Cont.cells 3 [Ty.int .i64 y.1.now]), (12, Cont.cells 3 [Ty.int .i64 y.1.left]), (13, Cont.cells 188 (m3 (bZ y.1))), (19, Cont.mp (fF 6) jQ y.1.ways), (27, Cont.mr (Value.int .i64) r9 188 4096 y.1.queue), (34, Cont.mp (fF 6) n9 y.1.done)]) ?_ ?_
   ·(refine cr.mk' ?_ ?_ <;> (repeat' (first | exact aH | exact aI | refine aB ?_ (Ty.aS _) | refine aB ?_ (Ty.aG _) | refine aK rfl (Cont.aG _) ?_)))
   refine cq mixed rfl ?_
   refine aU rfl rfl (by decide) rfl rfl rfl ?_
   refine aU rfl rfl (by decide) rfl rfl rfl ?_
   refine aU rfl rfl (by decide) rfl rfl rfl ?_
   refine aU rfl rfl (by decide) rfl rfl rfl ?_
   refine rF xB (k := y.1.now) rfl rfl (by decide) rfl nN lO xd ?_
   refine P7 (lo := 1) rfl rfl rfl rfl rfl rfl hlen' hlen' ?_
   refine BA xB (k := y.1.now) rfl rfl (by decide) rfl nN rfl lO rfl ?_
   refine aD ?_
   refine ⟨by kernel_rfl, ?_⟩
   refine aC (aF (aF ?_))
   have hpos := y.2.pos hlen
   have hle := y.2.inv.CY hr
   have hnow := y.2.inv.MZ hr hpos
   have hnow0 := y.2.inv.now0
   refine aA ?_
   refine aU rfl rfl (by decide) rfl rfl rfl ?_
   refine jo rfl rfl (by omega) (by omega) ?_
   refine cj rfl rfl (by decide) rfl rfl (by exact (rfl : _ = Ty.int _ _)) rfl (by exact Nat.le_of_ble_eq_true rfl) rfl rfl (by exact (rfl : _ = [_])) ?_
   refine aD (aC (aF (aA (Qy rfl ?_))))
   refine bI rfl rfl (by decide) rfl rfl (by exact Nat.le_of_ble_eq_true rfl) ?_
   refine LH qt (k := bZ y.1) (z0 := false) rfl rfl (by decide) rfl (mU (bZ y.1)) DB QV yD ?_
   refine aD (aC ?_)
   refine c8 rfl (fun hc3 => ?_) (fun hc3 => ?_)
   ·refine b9 (aN (aZ rfl ?_))
    refine bS (⟨Ag y.1, y.2.old hlen hc3⟩) ?_ (by exact Gk y.2.inv (mq hlen))
    (refine cr.mk' ?_ ?_ <;> (repeat' (first | exact aH | exact aI | refine aB ?_ (Ty.aS _) | refine aB ?_ (Ty.aG _) | refine aK rfl (Cont.aG _) ?_)))
    all_goals skip
    all_goals exact Cont.qB (sj (eW y.1) _).symm
   refine ak (aC (aF ?_))
   refine dH (B := live [(0, Ty.pe dS ⟨b, bE b⟩ 0), (2, Ty.bool all), (4, Ty.pp [Ty.nd ct hd hcd]), (6, Ty.ptr 7 0), (7, Ty.ptr 8 0), (8, Ty.ptr 9 0), (9, Ty.mp 34), (10, Ty.ptr 11 0), (11, Ty.ptr 12 0), (12, Ty.ptr 13 0)] [(7, Cont.cells 190 [Ty.ex (.map none), Ty.int .i64 0, Ty.int .i64 0, Ty.int .i64 0, Ty.int .i64 0, Ty.int .i64 0, Ty.int .i64 0, Ty.bool false]), (8, Cont.cells 190 [Ty.mp 19, Ty.int .i64 0, Ty.int .i64 0, Ty.int .i64 0, Ty.int .i64 0, Ty.int .i64 0, Ty.int .i64 0, Ty.bool false]), (9, Cont.cells 222 [Ty.mp 27]), (11, Cont.cells 3 [Ty.int .i64 y.1.now]), (12, Cont.cells 3 [Ty.int .i64 (Ag y.1).left]), (13, Cont.cells 188 (m3 (bZ y.1))), (19, Cont.mp (fF 6) jQ y.1.ways), (27, Cont.mr (Value.int .i64) r9 188 4096 (Ag y.1).queue), (34, Cont.mp (fF 6) n9 y.1.done)]) ?_ ?_
   ·(refine cr.mk' ?_ ?_ <;> (repeat' (first | exact aH | exact aI | refine aB ?_ (Ty.aS _) | refine aB ?_ (Ty.aG _) | refine aK rfl (Cont.aG _) ?_)))
   refine aA (Qy rfl ?_)
   refine bI rfl rfl (by decide) rfl rfl (by exact Nat.le_of_ble_eq_true rfl) ?_
   refine qq qt (k := bZ y.1) (v := true) rfl rfl (by decide) rfl (mU (bZ y.1)) rfl rfl DB ?_
   refine aD (aC (aF (aF (aA (gw rfl (dK rfl (gw rfl ?_)))))))
   apply aM (s := 63) rfl rfl rfl
   ·intro hg; apply aO; (refine lT rfl ?_); refine aD ?_; exact rfl
   ·exact rfl
   ·exact rfl
   apply aM (s := 63) rfl rfl rfl
   ·intro hg; apply aO; (refine bI rfl rfl (by decide) rfl rfl (by exact Nat.le_of_ble_eq_true rfl) ?_); refine aD ?_; exact rfl
   ·exact rfl
   ·exact rfl
   apply aM (s := 63) rfl rfl rfl
   ·intro hg; apply aJ (s := 64) rfl (by (rw [hg]; rfl)); apply aJ (s := 65) rfl (by (rw [hg]; rfl)); apply aO; (refine aq (L0 ⟨b, bE b⟩ h6 (bZ y.1)) rfl rfl rfl rfl rfl ?_); refine aD ?_; exact rfl
   ·exact rfl
   ·exact rfl
   refine fu rfl rfl (aD (aC ?_))
   refine c8 rfl (fun hc4 => ?_) (fun hc4 => ?_)
   ·refine aF (aA ?_)
    refine bI rfl rfl (by decide) rfl rfl (by exact Nat.le_of_ble_eq_true rfl) ?_
    refine aR rfl rfl rfl rfl rfl (by decide) ?_
    refine Dy rfl rfl (by decide) rfl rfl rfl (by exact Nat.le_of_ble_eq_true rfl) rfl rfl rfl rfl ?_
    refine aR rfl rfl rfl rfl rfl (by decide) ?_
    refine cj rfl rfl (by decide) rfl rfl (by exact (rfl : _ = Ty.bool _)) rfl (by exact Nat.le_of_ble_eq_true rfl) rfl rfl (by exact rfl) ?_
    refine aD (aC (b9 (aN (kP rfl (aN (kP rfl (aN (kP rfl (aN (aN (aZ rfl (aC (aF ?_)))))))))))))
    (refine u6 (tg := 19) [] [(8, Cont.cells 190 [Ty.pm (fF 6) jQ y.1.ways, Ty.int .i64 (nth (bZ y.1).1 0), Ty.int .i64 (nth (bZ y.1).1 1), Ty.int .i64 (nth (bZ y.1).1 2), Ty.int .i64 (nth (bZ y.1).1 3), Ty.int .i64 (nth (bZ y.1).1 4), Ty.int .i64 (nth (bZ y.1).1 5), Ty.bool true])] (by decide) rfl trivial ⟨jw rfl rfl ⟨yG rfl (by decide), cY rfl, cY rfl, cY rfl, cY rfl, cY rfl, cY rfl, cY rfl, trivial⟩, trivial⟩ ?_; refine dH (B := live [(6, Ty.ptr 7 0), (7, Ty.ptr 8 0)] [(7, Cont.cells 190 [Ty.ex (.map none), Ty.int .i64 0, Ty.int .i64 0, Ty.int .i64 0, Ty.int .i64 0, Ty.int .i64 0, Ty.int .i64 0, Ty.bool false]), (8, Cont.cells 190 [Ty.pm (fF 6) jQ y.1.ways, Ty.int .i64 (nth (bZ y.1).1 0), Ty.int .i64 (nth (bZ y.1).1 1), Ty.int .i64 (nth (bZ y.1).1 2), Ty.int .i64 (nth (bZ y.1).1 3), Ty.int .i64 (nth (bZ y.1).1 4), Ty.int .i64 (nth (bZ y.1).1 5), Ty.bool true])]) ?_ ?_)
    ·(refine cr.mk' ?_ ?_ <;> (repeat' (first | exact aH | exact aI | refine aB ?_ (Ty.aS _) | refine aB ?_ (Ty.aG _) | refine aK rfl (Cont.aG _) ?_)))
    refine aA ?_
    refine bI rfl rfl (by decide) rfl rfl (by exact Nat.le_of_ble_eq_true rfl) ?_
    refine bW rfl rfl (by decide) rfl rfl rfl rfl rfl rfl ?_
    refine aD (aC (au (wL (Bd rfl ?_))))
    refine xk rfl rfl rfl rfl (by decide) rfl rfl rfl ?_
    exact bD rfl rfl (by rw [y.2.found hlen hc3 hc4]; rfl)
   refine ak (aC (aF ?_))
   have hmk := y.2.mark hlen hc3 hc4
   refine aA (lT rfl ?_)
   refine bI rfl rfl (by decide) rfl rfl (by exact Nat.le_of_ble_eq_true rfl) ?_
   refine aq (HB _ _) rfl rfl rfl rfl rfl (aD (aC (aY ?_)))
   refine qE (ps := [74]) (lk [(0, Ty.pe dS ⟨b, bE b⟩ 0), (2, Ty.bool all), (4, Ty.pp [Ty.nd ct hd hcd]), (6, Ty.ptr 7 0), (7, Ty.ptr 8 0), (8, Ty.ptr 9 0), (9, Ty.mp 34), (10, Ty.ptr 11 0), (11, Ty.ptr 12 0), (12, Ty.ptr 13 0)]) (fun k => [(7, Cont.cells 190 [Ty.ex (.map none), Ty.int .i64 0, Ty.int .i64 0, Ty.int .i64 0, Ty.int .i64 0, Ty.int .i64 0, Ty.int .i64 0, Ty.bool false]), (8, Cont.cells 190 [Ty.mp 19, Ty.int .i64 0, Ty.int .i64 0, Ty.int .i64 0, Ty.int .i64 0, Ty.int .i64 0, Ty.int .i64 0, Ty.bool false]), (9, Cont.cells 222 [Ty.mp 27]), (11, Cont.cells 3 [Ty.int .i64 y.1.now]), (12, Cont.cells 3 [Ty.int .i64 (cV b c (bZ y.1) (eW y.1) k).left]), (13, Cont.cells 188 (m3 (bZ y.1))), (19, Cont.mp (fF 6) jQ (cV b c (bZ y.1) (eW y.1) k).ways), (27, Cont.mr (Value.int .i64) r9 188 4096 (cV b c (bZ y.1) (eW y.1) k).queue), (34, Cont.mp (fF 6) n9 (eW y.1).done)]) false [] [7, 8, 9, 11, 12, 13, 34] rfl rfl (Ds ⟨b, bE b⟩ (qQ hr) h6 (bZ y.1)) rfl rfl (by decide) (by intro t ht; obtain ⟨x, _, rfl⟩ := List.mem_map.1 ht; exact ⟨rfl, rfl, rfl⟩) rfl rfl (fun _ => rfl) rfl ?_ ?_ ?_ (by intro h; cases h)
   ·(refine cr.mk' ?_ ?_ <;> (repeat' (first | exact aH | exact aI | refine aB ?_ (Ty.aS _) | refine aB ?_ (Ty.aG _) | refine aK rfl (Cont.aG _) ?_)))
   ·intro k tys hk
    obtain ⟨hk1, rfl⟩ := Cy hk
    have hk1 : k < (ay b (bZ y.1)).length := hk1
    have hk2 := sH hr (bZ y.1)
    have htm : nth (ay b (bZ y.1)) k ∈ ay b (bZ y.1) := bh hk1
    have htl := eG.1 htm
    have htc := hc.at htm
    have hfk := (za hc hmk.1 hmk.2 k (by omega)).1
    have hfl := hfk.CY hr
    have hf0 : 0 ≤ (cV b c (bZ y.1) (eW y.1) k).left := by rw [hfk.left]; exact qM _
    have hrow := hfk.P4 hr (y.1.now + c (nth (ay b (bZ y.1)) k))
    have hrow' : (((bU (cV b c (bZ y.1) (eW y.1) k).queue (y.1.now + c (nth (ay b (bZ y.1)) k))).getD []).length : Int) + (42 - k) ≤ 1 + 42 * dA := hrow
    have hfn : (cV b c (bZ y.1) (eW y.1) k).now = y.1.now := rD _ _
    refine ⟨live [(0, Ty.pe dS ⟨b, bE b⟩ 0), (2, Ty.bool all), (4, Ty.pp [Ty.nd ct hd hcd]), (6, Ty.ptr 7 0), (7, Ty.ptr 8 0), (8, Ty.ptr 9 0), (9, Ty.mp 34), (10, Ty.ptr 11 0), (11, Ty.ptr 12 0), (12, Ty.ptr 13 0), (13, Ty.ptr 14 0)] [(7, Cont.cells 190 [Ty.ex (.map none), Ty.int .i64 0, Ty.int .i64 0, Ty.int .i64 0, Ty.int .i64 0, Ty.int .i64 0, Ty.int .i64 0, Ty.bool false]), (8, Cont.cells 190 [Ty.mp 19, Ty.int .i64 0, Ty.int .i64 0, Ty.int .i64 0, Ty.int .i64 0, Ty.int .i64 0, Ty.int .i64 0, Ty.bool false]), (9, Cont.cells 222 [Ty.mp 27]), (11, Cont.cells 3 [Ty.int .i64 y.1.now]), (12, Cont.cells 3 [Ty.int .i64 (cV b c (bZ y.1) (eW y.1) k).left]), (13, Cont.cells 188 (m3 (bZ y.1))), (19, Cont.mp (fF 6) jQ (cV b c (bZ y.1) (eW y.1) k).ways), (27, Cont.mr (Value.int .i64) r9 188 4096 (cV b c (bZ y.1) (eW y.1) k).queue), (34, Cont.mp (fF 6) n9 (eW y.1).done), (14, Cont.cells 70 (cv.tys (nth (ay b (bZ y.1)) k)))], fun l w M => ?_, fun l w M => ?_⟩
    ·refine aA ?_
     refine bX rfl (by exact List.cons_ne_nil _ _) rfl ?_
     refine bW rfl rfl (by decide) rfl rfl rfl rfl rfl rfl ?_
     refine aD (iy ?_)
     (refine cr.mk' ?_ ?_ <;> (repeat' (first | exact aH | exact aI | refine aB ?_ (Ty.aS _) | refine aB ?_ (Ty.aG _) | refine aK rfl (Cont.aG _) ?_)))
    refine aY (aF (aA ?_))
    refine bI rfl rfl (by decide) rfl rfl (by exact Nat.le_of_ble_eq_true rfl) ?_
    refine bX rfl (by exact List.cons_ne_nil _ _) rfl ?_
    refine bW rfl rfl (by decide) rfl rfl rfl rfl rfl rfl ?_
    refine aD (aC (aF (aA ?_)))
    refine aR rfl rfl rfl rfl rfl (by decide) ?_
    refine aU rfl rfl (by decide) rfl rfl rfl ?_
    refine aR rfl rfl rfl rfl rfl (by decide) ?_
    refine aU rfl rfl (by decide) rfl rfl rfl ?_
    refine jX (n := 6) rfl rfl rfl rfl rfl htl.1 (by omega) ?_
    refine cj (l' := m3 (bf (bZ y.1) (nth (ay b (bZ y.1)) k))) rfl rfl (by decide) rfl rfl (by exact (rfl : _ = Ty.int _ _)) rfl (by show 0 + _ * 1 < 6; omega) rfl rfl (Ew _ _ (by omega)) ?_
    refine aD (aC (aF ?_))
    refine dH (B := live [(0, Ty.pe dS ⟨b, bE b⟩ 0), (2, Ty.bool all), (4, Ty.pp [Ty.nd ct hd hcd]), (6, Ty.ptr 7 0), (7, Ty.ptr 8 0), (8, Ty.ptr 9 0), (9, Ty.mp 34), (10, Ty.ptr 11 0), (11, Ty.ptr 12 0), (12, Ty.ptr 13 0), (13, Ty.ptr 14 0), (14, Ty.ptr 15 0)] [(7, Cont.cells 190 [Ty.ex (.map none), Ty.int .i64 0, Ty.int .i64 0, Ty.int .i64 0, Ty.int .i64 0, Ty.int .i64 0, Ty.int .i64 0, Ty.bool false]), (8, Cont.cells 190 [Ty.mp 19, Ty.int .i64 0, Ty.int .i64 0, Ty.int .i64 0, Ty.int .i64 0, Ty.int .i64 0, Ty.int .i64 0, Ty.bool false]), (9, Cont.cells 222 [Ty.mp 27]), (11, Cont.cells 3 [Ty.int .i64 y.1.now]), (13, Cont.cells 188 (m3 (bZ y.1))), (34, Cont.mp (fF 6) n9 (eW y.1).done), (12, Cont.cells 3 [Ty.int .i64 (cV b c (bZ y.1) (eW y.1) k).left]), (14, Cont.cells 70 (cv.tys (nth (ay b (bZ y.1)) k))), (15, Cont.cells 188 (m3 (bf (bZ y.1) (nth (ay b (bZ y.1)) k)))), (19, Cont.mp (fF 6) jQ (cV b c (bZ y.1) (eW y.1) k).ways), (27, Cont.mr (Value.int .i64) r9 188 4096 (cV b c (bZ y.1) (eW y.1) k).queue)]) ?_ ?_
    ·(refine cr.mk' ?_ ?_ <;> (repeat' (first | exact aH | exact aI | refine aB ?_ (Ty.aS _) | refine aB ?_ (Ty.aG _) | refine aK rfl (Cont.aG _) ?_)))
    refine cq mixed rfl ?_
    refine aU rfl rfl (by decide) rfl rfl rfl ?_
    refine aQ rfl rfl rfl rfl rfl (by decide) ?_
    refine aL rfl rfl rfl rfl ?_
    refine bI rfl rfl (by decide) rfl rfl (by exact Nat.le_of_ble_eq_true rfl) ?_
    refine gH rfl (PR hd hcd (hf (nth (ay b (bZ y.1)) k) htl.1 htl.2.1)) rfl ?_
    refine cD rfl rfl (by omega) (by omega) ?_
    refine b8 rfl (aD ?_)
    refine ⟨by kernel_rfl, ?_⟩
    refine aC (aF (aF (aA ?_)))
    refine aR rfl rfl rfl rfl rfl (by decide) ?_
    refine aU rfl rfl (by decide) rfl rfl rfl ?_
    refine bI rfl rfl (by decide) rfl rfl (by exact Nat.le_of_ble_eq_true rfl) ?_
    refine A4 qt (k := bf (bZ y.1) (nth (ay b (bZ y.1)) k)) (z0 := jj) rfl rfl (by decide) rfl (mU _) ia td qT ?_
    refine uq rfl (bF rfl rfl (bF rfl rfl ?_))
    refine bX rfl (by exact List.cons_ne_nil _ _) rfl ?_
    refine bW rfl rfl (by decide) rfl rfl rfl rfl rfl rfl ?_
    refine dJ rfl (aD (aC (aF ?_)))
    refine dH (B := live [(0, Ty.pe dS ⟨b, bE b⟩ 0), (2, Ty.bool all), (4, Ty.pp [Ty.nd ct hd hcd]), (6, Ty.ptr 7 0), (7, Ty.ptr 8 0), (8, Ty.ptr 9 0), (9, Ty.mp 34), (10, Ty.ptr 11 0), (11, Ty.ptr 12 0), (12, Ty.ptr 13 0), (13, Ty.ptr 14 0), (14, Ty.ptr 15 0), (15, Ty.int .i64 (y.1.now + c (nth (ay b (bZ y.1)) k))), (16, Ty.ptr 17 0), (17, Ty.bool (bU (cV b c (bZ y.1) (eW y.1) k).ways (bf (bZ y.1) (nth (ay b (bZ y.1)) k))).isSome)] [(7, Cont.cells 190 [Ty.ex (.map none), Ty.int .i64 0, Ty.int .i64 0, Ty.int .i64 0, Ty.int .i64 0, Ty.int .i64 0, Ty.int .i64 0, Ty.bool false]), (8, Cont.cells 190 [Ty.mp 19, Ty.int .i64 0, Ty.int .i64 0, Ty.int .i64 0, Ty.int .i64 0, Ty.int .i64 0, Ty.int .i64 0, Ty.bool false]), (9, Cont.cells 222 [Ty.mp 27]), (11, Cont.cells 3 [Ty.int .i64 y.1.now]), (13, Cont.cells 188 (m3 (bZ y.1))), (34, Cont.mp (fF 6) n9 (eW y.1).done), (12, Cont.cells 3 [Ty.int .i64 (cV b c (bZ y.1) (eW y.1) k).left]), (14, Cont.cells 70 (cv.tys (nth (ay b (bZ y.1)) k))), (15, Cont.cells 188 (m3 (bf (bZ y.1) (nth (ay b (bZ y.1)) k)))), (17, Cont.cells 220 (Qc ((bU (cV b c (bZ y.1) (eW y.1) k).ways (bf (bZ y.1) (nth (ay b (bZ y.1)) k))).getD jj))), (19, Cont.mp (fF 6) jQ (cV b c (bZ y.1) (eW y.1) k).ways), (27, Cont.mr (Value.int .i64) r9 188 4096 (cV b c (bZ y.1) (eW y.1) k).queue)]) ?_ ?_
    ·(refine cr.mk' ?_ ?_ <;> (repeat' (first | exact aH | exact aI | refine aB ?_ (Ty.aS _) | refine aB ?_ (Ty.aG _) | refine aK rfl (Cont.aG _) ?_)))
    refine cq mixed rfl (gw rfl (gw rfl ?_))
    apply aM (s := 95) rfl rfl rfl
    ·intro hg; apply aO; (refine bP rfl ?_); refine aD ?_; exact rfl
    ·exact rfl
    ·exact rfl
    apply aM (s := 95) rfl rfl rfl
    ·intro hg; apply aO; (refine aR rfl rfl rfl rfl rfl (by decide) ?_); refine aD ?_; exact rfl
    ·exact rfl
    ·exact rfl
    apply aM (s := 95) rfl rfl rfl
    ·intro hg; apply aJ (s := 97) rfl (by (rw [hg]; rfl)); apply aO; (refine aU rfl rfl (by decide) rfl rfl rfl ?_); refine aD ?_; exact rfl
    ·exact rfl
    ·exact rfl
    apply aM (s := 95) rfl rfl rfl
    ·intro hg; apply aJ (s := 98) rfl (by (rw [hg]; rfl)); apply aO; (refine bY (E := eB) (xs := [_]) rfl rfl rfl rfl rfl (by decide) (by decide) (by repeat (first | exact (aT.nil : aT _ _ [] _) | (show aT _ _ ((_, _) :: _) _; apply aT.one; (· exact (rfl : _ = Ty.int _ _)); (· exact rfl)))) (by exact rfl) rfl ?_); refine aD ?_; exact rfl
    ·exact rfl
    ·exact rfl
    apply aM (s := 95) rfl rfl rfl
    ·intro hg; apply aJ (s := 96) rfl (by (rw [hg]; rfl)); apply aJ (s := 99) rfl (by (rw [hg]; rfl)); apply aO; (refine aq (OI _ _) rfl rfl rfl rfl rfl ?_); refine aD ?_; exact rfl
    ·exact rfl
    ·exact rfl
    apply aM (s := 95) rfl rfl rfl
    ·intro hg; apply aO; (refine aR rfl rfl rfl rfl rfl (by decide) ?_); refine aD ?_; exact rfl
    ·exact rfl
    ·exact rfl
    apply aM (s := 95) rfl rfl rfl
    ·intro hg; apply aJ (s := 101) rfl (by (rw [hg]; rfl)); apply aO; (refine aU rfl rfl (by decide) rfl rfl rfl ?_); refine aD ?_; exact rfl
    ·exact rfl
    ·exact rfl
    apply aM (s := 95) rfl rfl rfl
    ·intro hg; apply aJ (s := 100) rfl (by (rw [hg]; rfl)); apply aJ (s := 102) rfl (by (rw [hg]; rfl)); apply aO; (refine av rfl rfl rfl ?_); refine aD ?_; exact rfl
    ·exact rfl
    ·exact rfl
    refine fu rfl rfl (aD ?_)
    refine ⟨by kernel_rfl, ?_⟩
    refine aC ?_
    refine c8 rfl (fun hc5 => ?_) (fun hc5 => ?_)
    ·refine b9 (aN (aZ rfl (oL ?_)))
     (refine cr.mk' ?_ ?_ <;> (repeat' (first | exact aH | exact aI | exact dU | refine aB ?_ (Ty.aS _) | refine aK rfl (Cont.aG _) ?_ | refine aK rfl (Cont.dV ?_) ?_ | refine cQ ?_ ?_ | refine aK rfl ?_ ?_)))
     all_goals first | exact Ty.bg (congrArg St.left (F4 hk1 hfn hc5)) | exact Cont.qB (congrArg St.ways (F4 hk1 hfn hc5)) | exact Cont.G7 (congrArg St.queue (F4 hk1 hfn hc5))
    refine ak (aC (aF (aA ?_)))
    refine aR rfl rfl rfl rfl rfl (by decide) ?_
    refine aU rfl rfl (by decide) rfl rfl rfl ?_
    refine bI rfl rfl (by decide) rfl rfl (by exact Nat.le_of_ble_eq_true rfl) ?_
    refine bI rfl rfl (by decide) rfl rfl (by exact Nat.le_of_ble_eq_true rfl) ?_
    refine bI rfl rfl (by decide) rfl rfl (by exact Nat.le_of_ble_eq_true rfl) ?_
    refine bY (E := cv) (xs := [nth (ay b (bZ y.1)) k]) rfl rfl rfl rfl rfl (by decide) (by decide) (by repeat (first | exact (aT.nil : aT _ _ [] _) | (show aT _ _ ((_, _) :: _) _; apply aT.agg; (· exact (rfl : _ = Ty.agg _))))) (by exact rfl) rfl ?_
    refine bP rfl ?_
    refine c6 rfl rfl (by exact List.cons_ne_nil _ _) rfl (by repeat (first | exact (aT.nil : aT _ _ [] _) | (show aT _ _ ((_, _) :: _) _; apply aT.one; (· first | exact (rfl : _ = Ty.int _ _) | exact (rfl : _ = Ty.sl _ _)); (· exact rfl)) | (show aT _ _ ((_, _) :: _) _; apply aT.agg; (· exact (rfl : _ = Ty.agg _))))) (by exact rfl) ?_
    refine qq qt (k := bf (bZ y.1) (nth (ay b (bZ y.1)) k)) (v := ⟨bZ y.1, [nth (ay b (bZ y.1)) k], y.1.now + c (nth (ay b (bZ y.1)) k)⟩) rfl rfl (by decide) rfl (mU _) rfl rfl ia ?_
    refine aD (aC (aF ?_))
    refine dH (B := live [(0, Ty.pe dS ⟨b, bE b⟩ 0), (2, Ty.bool all), (4, Ty.pp [Ty.nd ct hd hcd]), (6, Ty.ptr 7 0), (7, Ty.ptr 8 0), (8, Ty.ptr 9 0), (9, Ty.mp 34), (10, Ty.ptr 11 0), (11, Ty.ptr 12 0), (12, Ty.ptr 13 0), (13, Ty.ptr 14 0), (14, Ty.ptr 15 0), (15, Ty.int .i64 (y.1.now + c (nth (ay b (bZ y.1)) k)))] [(7, Cont.cells 190 [Ty.ex (.map none), Ty.int .i64 0, Ty.int .i64 0, Ty.int .i64 0, Ty.int .i64 0, Ty.int .i64 0, Ty.int .i64 0, Ty.bool false]), (8, Cont.cells 190 [Ty.mp 19, Ty.int .i64 0, Ty.int .i64 0, Ty.int .i64 0, Ty.int .i64 0, Ty.int .i64 0, Ty.int .i64 0, Ty.bool false]), (9, Cont.cells 222 [Ty.mp 27]), (11, Cont.cells 3 [Ty.int .i64 y.1.now]), (13, Cont.cells 188 (m3 (bZ y.1))), (34, Cont.mp (fF 6) n9 (eW y.1).done), (12, Cont.cells 3 [Ty.int .i64 (cV b c (bZ y.1) (eW y.1) k).left]), (14, Cont.cells 70 (cv.tys (nth (ay b (bZ y.1)) k))), (15, Cont.cells 188 (m3 (bf (bZ y.1) (nth (ay b (bZ y.1)) k)))), (19, Cont.mp (fF 6) jQ (cz (cV b c (bZ y.1) (eW y.1) k).ways (bf (bZ y.1) (nth (ay b (bZ y.1)) k)) ⟨bZ y.1, [(nth (ay b (bZ y.1)) k)], (y.1.now + c (nth (ay b (bZ y.1)) k))⟩)), (27, Cont.mr (Value.int .i64) r9 188 4096 (cV b c (bZ y.1) (eW y.1) k).queue)]) ?_ ?_
    ·(refine cr.mk' ?_ ?_ <;> (repeat' (first | exact aH | exact aI | refine aB ?_ (Ty.aS _) | refine aB ?_ (Ty.aG _) | refine aK rfl (Cont.aG _) ?_)))
    refine cq mixed rfl ?_
    refine aU rfl rfl (by decide) rfl rfl rfl ?_
    refine bP rfl ?_
    refine aU rfl rfl (by decide) rfl rfl rfl ?_
    refine bP rfl ?_
    refine rF xB (k := y.1.now + c (nth (ay b (bZ y.1)) k)) rfl rfl (by decide) rfl nN lO xd ?_
    refine bI rfl rfl (by decide) rfl rfl (by exact Nat.le_of_ble_eq_true rfl) ?_
    refine bY (E := r9) (xs := [bf (bZ y.1) (nth (ay b (bZ y.1)) k)]) rfl rfl rfl rfl rfl (by decide) (by decide) (by repeat (first | exact (aT.nil : aT _ _ [] _) | (show aT _ _ ((_, _) :: _) _; apply aT.agg; (· exact (rfl : _ = Ty.agg _))))) (by exact rfl) rfl ?_
    refine J8 rfl rfl rfl (by decide) (by decide) rfl (by show 0 < 1; decide) rfl rfl rfl rfl rfl (by decide) (by show (_ + 1) * 48 ≤ _; omega) (by show _ + 1 ≤ _; omega) ?_
    refine BA xB (k := y.1.now + c (nth (ay b (bZ y.1)) k)) rfl rfl (by decide) rfl nN rfl lO rfl ?_
    refine aD ?_
    refine ⟨by kernel_rfl, ?_⟩
    refine aC (aA ?_)
    refine aU rfl rfl (by decide) rfl rfl rfl ?_
    refine cD rfl rfl (by omega) (by omega) ?_
    refine cj rfl rfl (by decide) rfl rfl (by exact (rfl : _ = Ty.int _ _)) rfl (by exact Nat.le_of_ble_eq_true rfl) rfl rfl (by exact (rfl : _ = [_])) ?_
    refine aD (bJ (oL ?_))
    (refine cr.mk' ?_ ?_ <;> (repeat' (first | exact aH | exact aI | exact dU | refine aB ?_ (Ty.aS _) | refine aK rfl (Cont.aG _) ?_ | refine aK rfl (Cont.dV ?_) ?_ | refine cQ ?_ ?_ | refine aK rfl ?_ ?_)))
    all_goals first | exact Ty.bg (KX hk1 hfn hc5).2.2 | exact Cont.qB (KX hk1 hfn hc5).1 | exact Cont.G7 (KX hk1 hfn hc5).2.1
   refine bJ (bJ ?_)
   refine bS (⟨cV b c (bZ y.1) (eW y.1) (ay b (bZ y.1)).length, y.2.new hr hc hlen hc3 hc4⟩) ?_ (by exact G0 y.2.inv hr (mq hlen) hc3 hmk.1)
   (refine cr.mk' ?_ ?_ <;> (repeat' (first | exact aH | exact aI | exact dU | refine aB ?_ (Ty.aS _) | refine aB ?_ (Ty.aG _) | refine aK rfl (Cont.aG _) ?_ | refine aK rfl (Cont.dV ?_) ?_ | refine cQ ?_ ?_ | refine aK rfl ?_ ?_)))
   all_goals skip
   all_goals first | exact Ty.bg (rD (eW y.1) _).symm | exact Ty.bg (congrArg (fun n => (cV b c (bZ y.1) (eW y.1) n).left) (List.length_map _)) | exact Cont.qB (congrArg (fun n => (cV b c (bZ y.1) (eW y.1) n).ways) (List.length_map _)) | exact Cont.G7 (congrArg (fun n => (cV b c (bZ y.1) (eW y.1) n).queue) (List.length_map _)) | exact Cont.qB (sj (eW y.1) _).symm
  refine b9 (aN (aN (aZ rfl (aC ?_))))
  have hempty : rowAt y.1.queue y.1.now = [] := List.length_eq_zero_iff.1 (by have h := hc2; have h : ¬ (0 : Int) < ((rowAt y.1.queue y.1.now).length : Nat) := h; omega)
  have hlater := y.2.later hr hempty
  have hnx := x.2.1.MZ hr hc1
  have hnx0 := x.2.1.now0
  have hyx := y.2.now
  refine aA ?_
  refine aU rfl rfl (by decide) rfl rfl rfl ?_
  refine aU rfl rfl (by decide) rfl rfl rfl ?_
  refine Ja xB (k := y.1.now) rfl rfl (by decide) rfl nN lO rfl ?_
  refine aD (bJ (aC (aF (aF (aA ?_)))))
  refine aU rfl rfl (by decide) rfl rfl rfl ?_
  refine aU rfl rfl (by decide) rfl rfl rfl ?_
  refine aD (aC (aA ?_))
  refine bX rfl (by exact List.cons_ne_nil _ _) rfl ?_
  refine cj rfl rfl (by decide) rfl rfl (by exact (rfl : _ = Ty.int _ _)) rfl (by exact Nat.le_of_ble_eq_true rfl) rfl rfl (by exact (rfl : _ = [_])) ?_
  refine bX rfl (by exact List.cons_ne_nil _ _) rfl ?_
  refine cj rfl rfl (by decide) rfl rfl (by exact (rfl : _ = Ty.int _ _)) rfl (by exact Nat.le_of_ble_eq_true rfl) rfl rfl (by exact (rfl : _ = [_])) ?_
  refine aD (aC (aA ?_))
  refine aU rfl rfl (by decide) rfl rfl rfl ?_
  refine cD rfl rfl (by omega) (by omega) ?_
  refine cj rfl rfl (by decide) rfl rfl (by exact (rfl : _ = Ty.int _ _)) rfl (by exact Nat.le_of_ble_eq_true rfl) rfl rfl (by exact (rfl : _ = [_])) ?_
  refine aD ?_
  refine bS (⟨later y.1, (hlater).1, (hlater).2.1⟩) ?_ (by exact hlater.2.2)
  (refine cr.mk' ?_ ?_ <;> (repeat' (first | exact aH | exact aI | refine aB ?_ (Ty.aS _) | refine aB ?_ (Ty.aG _) | refine aK rfl (Cont.aG _) ?_)))
  all_goals skip
 refine b9 (aN (aN (aZ rfl (aC (aF ?_)))))
 (refine u6 (tg := 19) [] [(8, Cont.cells 190 [Ty.pm (fF 6) jQ x.1.ways, Ty.int .i64 0, Ty.int .i64 0, Ty.int .i64 0, Ty.int .i64 0, Ty.int .i64 0, Ty.int .i64 0, Ty.bool false])] (by decide) rfl trivial ⟨jw rfl rfl ⟨yG rfl (by decide), cY rfl, cY rfl, cY rfl, cY rfl, cY rfl, cY rfl, cY rfl, trivial⟩, trivial⟩ ?_; refine dH (B := live [(6, Ty.ptr 7 0), (7, Ty.ptr 8 0)] [(7, Cont.cells 190 [Ty.ex (.map none), Ty.int .i64 0, Ty.int .i64 0, Ty.int .i64 0, Ty.int .i64 0, Ty.int .i64 0, Ty.int .i64 0, Ty.bool false]), (8, Cont.cells 190 [Ty.pm (fF 6) jQ x.1.ways, Ty.int .i64 0, Ty.int .i64 0, Ty.int .i64 0, Ty.int .i64 0, Ty.int .i64 0, Ty.int .i64 0, Ty.bool false])]) ?_ ?_)
 ·(refine cr.mk' ?_ ?_ <;> (repeat' (first | exact aH | exact aI | refine aB ?_ (Ty.aS _) | refine aB ?_ (Ty.aG _) | refine aK rfl (Cont.aG _) ?_)))
 refine aA ?_
 refine bI rfl rfl (by decide) rfl rfl (by exact Nat.le_of_ble_eq_true rfl) ?_
 refine bW rfl rfl (by decide) rfl rfl rfl rfl rfl rfl ?_
 refine aD (aC (au (wL (Bd rfl ?_))))
 refine xk rfl rfl rfl rfl (by decide) rfl rfl rfl ?_
 exact bD rfl rfl (by rw [x.2.2.stop (step_end (by omega)), Ga]; rfl)
end Go.Proofs.YtmmcenjknimhbaaGreat
namespace Go.Proofs.YtmmcenjknimhbaaGreat
open Go Go.T
set_option maxHeartbeats 4000000
theorem OG {b : aW} {c : bu → Int} (h : ¬ cS b = 0) : mh b c = cS b := if_neg h
theorem N4 {b : aW} {c : bu → Int} (h : cS b = 0) (hi : (cZ b c false).is = false) : mh b c = 7 := by unfold mh; rw [if_pos h, if_neg (by rw [hi]; decide)]
theorem N3 {b : aW} {c : bu → Int} (h : cS b = 0) (hi : (cZ b c false).is = true) : mh b c = 0 := by unfold mh; rw [if_pos h, if_pos hi]
theorem Oi {b : aW} {c : bu → Int} (h : ¬ cS b = 0) : xD b c = [] := if_neg h
theorem N9 {b : aW} {c : bu → Int} (h : cS b = 0) (hi : (cZ b c false).is = false) : xD b c = [] := by unfold xD BR; rw [if_pos h, if_neg (by rw [hi]; decide)]
theorem Nq {b : aW} {c : bu → Int} (h : cS b = 0) (hi : (cZ b c false).is = true) : (kX b c).flatten = xD b c := by unfold xD BR; rw [if_pos h, if_pos hi]
theorem OA {b : aW} {c : bu → Int} (h : ¬ cS b = 0) : oB b c = 0 := if_neg h
theorem NZ {b : aW} {c : bu → Int} (h : cS b = 0) (hi : (cZ b c false).is = false) : oB b c = 0 := by unfold oB uN; rw [if_pos h, if_neg (by rw [hi]; decide)]
theorem Na {b : aW} {c : bu → Int} (h : cS b = 0) (hi : (cZ b c false).is = true) : ((bU (cZ b c false).ways (cZ b c false).last).getD jj).all = oB b c := by unfold oB uN; rw [if_pos h, if_pos hi]
theorem M8 {b : aW} {c : bu → Int} (h : b.dD) (hc : iC b c) (hi : (cZ b c false).is = true) : (kX b c).flatten.length ≤ 400000000 := by
 have := (vp h hc).len hi; omega
attribute [local irreducible] fL dg lG nG fZ gA fy fm ff nB gB m6 cw fA m4 ew nM nth eU cm aV cy bodyPost Exit.then Exit.inBlock Code.wp Code.wpIn fI ry rq rY iY sB rZ iV sA e9 gr p8 cT cO bodyPostM dW
set_option maxRecDepth 100000 in
theorem Bb (b : aW) (hs : b.Small) (c : bu → Int) (hc : cS b = 0 → iC b c) (ct : Ty) (h1 : ct.one = true) (hd : ct.deps = []) (hcd : ct.cdeps = []) (hf : cS b = 0 → ∀ t : bu, 0 ≤ t.cJ → t.cJ < b.lots.length → rS Tryz.prog ct [Ty.agg (cv.tys t)] (Ty.int .i64 (c t))) : cy Tryz.prog 116 [eC b, Ty.agg [Ty.nd ct hd hcd]] (Ty.jk [Ty.sl cv (xD b c), Ty.int .i64 (oB b c), Ty.int .i64 (mh b c)]) := by
 refine aX Tryz.func116 rfl (by decide) Tryz.ntmps116 (by exact Nat.le_of_ble_eq_true rfl) fun w0 M0 => ?_
 refine aF (aA (az rfl (az rfl (iT rfl (b8 rfl (b8 rfl (aD (aC (aF (aA ?_))))))))))
 refine aa rfl rfl rfl (by exact Nat.le_of_ble_eq_true rfl) ?_
 refine aq (G2 b hs) rfl rfl rfl rfl rfl (uq rfl (bF rfl rfl (bF rfl rfl (O3 rfl (b8 rfl (aD (aC (aF (aF (aA (bP rfl (av rfl rfl rfl (aD (aC ?_))))))))))))))
 refine dB rfl (fun hc1 => ?_) (fun hc1 => ?_)
 ·refine aF (aA (bP rfl (iT rfl (b8 rfl (b8 rfl (aD (aC (au (aP ?_)))))))))
  refine r5 rfl rfl rfl rfl ?_ ?_ ?_
  all_goals skip
  all_goals first | exact eS (Oi hc1) | exact bD rfl rfl (congrArg (Ty.int .i64) (OA hc1).symm) | exact bD rfl rfl (congrArg (Ty.int .i64) (OG hc1).symm)
 refine ak (aC (aF ?_))
 have hr := kW hc1
 refine iX (s := 7) rfl (Ty.mZ (decide_eq_true hc1)) ?_
 refine aA (lT rfl ?_)
 refine aa rfl rfl rfl (by exact Nat.le_of_ble_eq_true rfl) ?_
 refine aq (Dx b hr c (hc hc1) ct h1 hd hcd (hf hc1) false) rfl rfl rfl rfl rfl ?_
 refine bX rfl (by exact List.cons_ne_nil _ _) rfl ?_
 refine bW rfl rfl (by decide) rfl rfl rfl rfl rfl rfl ?_
 refine aD (aC (aF (aF (aA ?_))))
 refine aR rfl rfl rfl rfl rfl (by decide) ?_
 refine aU rfl rfl (by decide) rfl rfl rfl ?_
 refine dK rfl (aD (aC ?_))
 refine c8 rfl (fun hc2 => ?_) (fun hc2 => ?_)
 ·refine aF (aA (iT rfl (b8 rfl (b8 rfl (aD (aC (au (aP ?_))))))))
  refine r5 rfl rfl rfl rfl ?_ ?_ ?_
  all_goals skip
  all_goals first | exact eS (N9 hc1 (E0 hc2)) | exact bD rfl rfl (congrArg (Ty.int .i64) (NZ hc1 (E0 hc2)).symm) | exact bD rfl rfl (congrArg (Ty.int .i64) (N4 hc1 (E0 hc2)).symm)
 refine ak (aC (aF (cq mixed rfl ?_)))
 refine bI rfl rfl (by decide) rfl rfl (by exact Nat.le_of_ble_eq_true rfl) ?_
 refine lT rfl (cP rfl ?_)
 refine cR rfl rfl rfl rfl rfl (by decide) ?_
 refine gY rfl rfl rfl rfl rfl (aq (My (cZ b c false) (bE b) (kX b c) ((vp hr (hc hc1)).chain (gq hc2)) ((vp hr (hc hc1)).len (gq hc2)).1) rfl rfl rfl rfl rfl (aq (C5 (kX b c) (M8 hr (hc hc1) (gq hc2))) rfl rfl rfl rfl rfl ?_))
 refine aR rfl rfl rfl rfl rfl (by decide) ?_
 refine aU rfl rfl (by decide) rfl rfl rfl ?_
 refine aR rfl rfl rfl rfl rfl (by decide) ?_
 refine bI rfl rfl (by decide) rfl rfl (by exact Nat.le_of_ble_eq_true rfl) ?_
 refine ve qt (k := (cZ b c false).last) (z0 := jj) rfl rfl (mU _) ia td qT ?_
 refine uy rfl rfl rfl rfl rfl rfl rfl (xO rfl (b8 rfl (b8 rfl (aD ?_))))
 refine ⟨by kernel_rfl, ?_⟩
 refine aC (au ?_)
 refine r5 rfl rfl rfl rfl ?_ ?_ ?_
 all_goals skip
 all_goals first | exact bD rfl rfl (congrArg (Ty.sl cv) (Nq hc1 (gq hc2))) | exact bD rfl rfl (congrArg (Ty.int .i64) (Na hc1 (gq hc2))) | exact bD rfl rfl (congrArg (Ty.int .i64) (N3 hc1 (gq hc2)).symm)
set_option maxRecDepth 100000 in
theorem Js (t : bu) : cy Tryz.prog 117 [Ty.agg (cv.tys t)] (Ty.int .i64 1) := by
 refine aX Tryz.func117 rfl (by decide) Tryz.ntmps117 (by exact Nat.le_of_ble_eq_true rfl) fun w0 M0 => ?_
 refine aF (aA (az rfl (b8 rfl (aD (aC (aF (aA (b8 rfl (aD (aC (au (bT rfl rfl ?_))))))))))))
 all_goals exact bQ rfl rfl
set_option maxRecDepth 100000 in
theorem I6 (t : bu) : cy Tryz.prog 121 [Ty.agg (cv.tys t)] (Ty.int .i64 1) := by
 refine aX Tryz.func121 rfl (by decide) Tryz.ntmps121 (by exact Nat.le_of_ble_eq_true rfl) fun w0 M0 => ?_
 refine aF (aA (az rfl (b8 rfl (aD (aC (aF (aA (b8 rfl (aD (aC (au (bT rfl rfl ?_))))))))))))
 all_goals exact bQ rfl rfl
set_option maxRecDepth 100000 in
theorem ES (b : aW) (t : bu) (h0 : 0 ≤ t.cJ) (h1 : t.cJ < b.lots.length) : cy Tryz.prog 118 [Ty.agg (cv.tys t), Ty.pp (cH b)] (Ty.int .i64 (pY b t)) := by
 refine aX Tryz.func118 rfl (by decide) Tryz.ntmps118 (by exact Nat.le_of_ble_eq_true rfl) fun w0 M0 => ?_
 refine aF (aA (az rfl (b8 rfl (aD (aC (aF (aA ?_)))))))
 refine aQ rfl rfl rfl rfl rfl (by decide) ?_
 refine aL rfl rfl rfl rfl ?_
 refine aQ rfl rfl rfl rfl rfl (by decide) ?_
 refine aL rfl rfl rfl rfl ?_
 refine dX rfl rfl rfl rfl rfl rfl h0 (by omega) ?_
 refine aQ rfl rfl rfl rfl rfl (by decide) ?_
 refine aL rfl rfl rfl rfl (b8 rfl (aD (aC (au (bT rfl rfl ?_)))))
 all_goals exact bQ rfl rfl
set_option maxRecDepth 100000 in
theorem Dk (b : aW) (hs : b.Small) : cy Tryz.prog 57 [eC b] (Ty.jk [Ty.int .i64 (oB b pL), Ty.int .i64 (mh b pL)]) := by
 refine aX Tryz.func57 rfl (by decide) Tryz.ntmps57 (by exact Nat.le_of_ble_eq_true rfl) fun w0 M0 => ?_
 refine aF (aA (az rfl (b8 rfl (b8 rfl (aD (aC (aF (aA ?_))))))))
 refine aa rfl rfl rfl (by exact Nat.le_of_ble_eq_true rfl) ?_
 refine c6 rfl rfl (by exact List.cons_ne_nil _ _) rfl (by repeat (first | exact (aT.nil : aT _ _ [] _) | (show aT _ _ ((_, _) :: _) _; apply aT.one; (· exact (rfl : _ = Ty.jh _ _)); (· exact rfl)))) (by exact (rfl : _ = some [_])) ?_
 refine aq (Bb b hs pL (fun _ => LF b) (Ty.jh 117 []) rfl rfl rfl (fun _ t _ _ => dM (Js t) rfl rfl rfl rfl rfl rfl)) rfl rfl rfl rfl rfl ?_
 refine uq rfl (bF rfl rfl (bF rfl rfl (bF rfl rfl (xO rfl (b8 rfl (b8 rfl (aD (aC (aF (aA (bP rfl (bP rfl (b8 rfl (b8 rfl (aD ?_)))))))))))))))
 refine aC (au ?_)
 refine gG rfl rfl rfl ?_ ?_
 all_goals exact bQ rfl rfl
set_option maxRecDepth 100000 in
theorem Fy (b : aW) (hs : b.Small) : cy Tryz.prog 59 [eC b] (Ty.jk [Ty.sl cv (xD b (pY b)), Ty.int .i64 (oB b (pY b)), Ty.int .i64 (mh b (pY b))]) := by
 refine aX Tryz.func59 rfl (by decide) Tryz.ntmps59 (by exact Nat.le_of_ble_eq_true rfl) fun w0 M0 => ?_
 refine aF (aA (az rfl (iT rfl (b8 rfl (b8 rfl (aD (aC (aF (aA ?_)))))))))
 refine aa rfl rfl rfl (by exact Nat.le_of_ble_eq_true rfl) ?_
 refine cx rfl ?_
 refine c6 rfl rfl (by exact List.cons_ne_nil _ _) rfl (by repeat (first | exact (aT.nil : aT _ _ [] _) | (show aT _ _ ((_, _) :: _) _; apply aT.one; (· exact (rfl : _ = Ty.jh _ _)); (· exact rfl)))) (by exact (rfl : _ = some [_])) ?_
 refine aq (Bb b hs (pY b) (fun h => NU (kW h)) (Ty.jh 118 [Ty.pp (cH b)]) rfl rfl rfl (fun _ t h0 h1 => dM (ES b t h0 h1) rfl rfl rfl rfl rfl rfl)) rfl rfl rfl rfl rfl ?_
 refine bF rfl rfl (bF rfl rfl (bF rfl rfl (xO rfl (b8 rfl (b8 rfl (aD (aC (au ?_))))))))
 refine r5 rfl rfl rfl rfl ?_ ?_ ?_
 all_goals exact bQ rfl rfl
set_option maxRecDepth 100000 in
theorem LC (b : aW) (hs : b.Small) : cy Tryz.prog 60 [eC b] (Ty.jk [Ty.int .i64 (lP b), Ty.int .i64 (cS b)]) := by
 refine aX Tryz.func60 rfl (by decide) Tryz.ntmps60 (by exact Nat.le_of_ble_eq_true rfl) fun w0 M0 => ?_
 refine aF (aA (az rfl (b8 rfl (b8 rfl (aD (aC (aF (aA ?_))))))))
 refine aa rfl rfl rfl (by exact Nat.le_of_ble_eq_true rfl) ?_
 refine aq (G2 b hs) rfl rfl rfl rfl rfl (uq rfl (bF rfl rfl (bF rfl rfl (O3 rfl (b8 rfl (aD (aC (aF (aF (aA (bP rfl (av rfl rfl rfl (aD (aC ?_))))))))))))))
 refine dB rfl (fun hc1 => ?_) (fun hc1 => ?_)
 ·refine aF (aA (bP rfl (b8 rfl (b8 rfl (aD (aC (au (aP ?_))))))))
  refine gG rfl rfl rfl ?_ ?_
  all_goals first | exact bQ rfl rfl | skip
  all_goals exact bD rfl rfl (congrArg (Ty.int .i64) (if_neg hc1 : lP b = 0).symm)
 refine ak (aC (aF ?_))
 have hr := kW hc1
 refine iX (s := 4) rfl (Ty.mZ (decide_eq_true hc1)) ?_
 refine aA (lT rfl ?_)
 refine c6 rfl rfl (by exact List.cons_ne_nil _ _) rfl (by repeat (first | exact (aT.nil : aT _ _ [] _) | (show aT _ _ ((_, _) :: _) _; apply aT.one; (· exact (rfl : _ = Ty.jh _ _)); (· exact rfl)))) (by exact (rfl : _ = some [_])) ?_
 refine aq (Dx b hr pL (LF b) (Ty.jh 121 []) rfl rfl rfl (fun t _ _ => dM (I6 t) rfl rfl rfl rfl rfl rfl) true) rfl rfl rfl rfl rfl ?_
 refine uy rfl rfl rfl rfl rfl rfl rfl (OY rfl ia (b8 rfl (b8 rfl (aD (aC (au ?_))))))
 refine gG rfl rfl rfl ?_ ?_
 all_goals skip
 all_goals first | exact bD rfl rfl (congrArg (Ty.int .i64) (if_pos hc1 : lP b = _).symm) | exact bD rfl rfl (congrArg (Ty.int .i64) hc1.symm)
end Go.Proofs.YtmmcenjknimhbaaGreat
