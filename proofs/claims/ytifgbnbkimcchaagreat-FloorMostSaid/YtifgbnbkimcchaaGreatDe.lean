/- Lemmas: the program and the reference walked, plain laws. -/
import Derived.Test.YtifgbnbkimcchaaGreatDd
namespace Go.Proofs.YtifgbnbkimcchaaGreat
open Go Go.T
structure Tk where
  left : List Int
  trn : List Trn
  sk : Sk
def srcOf (left : List Int) (a : Int) : Int := if a ≠ -1 ∧ nth left a.toNat = 0 then -1 else a
def dstOf (m : Nat) (a b : Int) : Int := if a = b then modM (a + 1) m else b
def sacksOf (left : List Int) (a n : Int) : Int := if a ≠ -1 then min n (nth left a.toNat) else n
def leftOf (left : List Int) (a n : Int) : List Int := if a ≠ -1 then left.set a.toNat (nth left a.toNat - n) else left
def tkSrc (m : Nat) (p : Tk) : Int := srcOf p.left (skAmong p.sk (-1) ((m : Int) - 1))
def tkDst (m : Nat) (p : Tk) : Int := dstOf m (tkSrc m p) (skAmong (skNext p.sk) (-1) ((m : Int) - 1))
def tkSacks (m : Nat) (p : Tk) : Int := sacksOf p.left (tkSrc m p) (skAmong (skNext (skNext p.sk)) 1 20)
def mkTrn (m : Nat) (p : Tk) : Trn := ⟨tkSrc m p, tkDst m p, tkSacks m p⟩
def trnsUp (m : Nat) (left : List Int) (s : Sk) : Nat → Tk
  | 0 => ⟨left, [], s⟩
  | k + 1 => ⟨leftOf (trnsUp m left s k).left (tkSrc m (trnsUp m left s k)) (tkSacks m (trnsUp m left s k)), (trnsUp m left s k).trn ++ [mkTrn m (trnsUp m left s k)], skNext (skNext (skNext (trnsUp m left s k).sk))⟩
def tookL (ts : List Trn) (i : Int) : Int := (ts.map fun t => if t.src = i then t.sacks else 0).sum
structure TrnOk (m : Nat) (t : Trn) : Prop where
  src : -1 ≤ t.src ∧ t.src < m
  dst : -1 ≤ t.dst ∧ t.dst < m
  ne : t.src ≠ t.dst
  sacks : 1 ≤ t.sacks ∧ t.sacks ≤ 20
structure TkOk (m k : Nat) (l0 : List Int) (s : Sk) (p : Tk) : Prop where
  left : p.left.length = m
  pos : ∀ j, j < m → 0 ≤ nth p.left j
  took : ∀ j, j < m → nth p.left j + tookL p.trn j = nth l0 j
  trn : p.trn.length = k
  trnOk : ∀ t ∈ p.trn, TrnOk m t
  taken : p.sk.taken = s.taken + 3 * k
theorem among_in {s : Sk} {lo hi : Int} (h : lo ≤ hi) : lo ≤ skAmong s lo hi ∧ skAmong s lo hi ≤ hi := by
  have := skBelow_bound s (hi - lo + 1)
  unfold skAmong; omega
theorem mod_next {m : Nat} (hm : 2 ≤ m) {a : Int} (h : -1 ≤ a ∧ a < m) : 0 ≤ modM (a + 1) m ∧ modM (a + 1) m < m ∧ modM (a + 1) m ≠ a := by
  unfold modM
  have h1 := Int.emod_nonneg (a + 1) (show (m : Int) ≠ 0 by omega)
  rw [if_neg (by omega), Int.tmod_eq_emod_of_nonneg (show 0 ≤ a + 1 by omega), Int.tmod_eq_emod_of_nonneg (show 0 ≤ (a + 1) % (m : Int) + m by omega), Int.add_emod_right, Int.emod_emod]
  by_cases e : a + 1 = m
  · rw [e, Int.emod_self]; omega
  · rw [Int.emod_eq_of_lt (by omega) (by omega)]; omega
theorem src_in {m : Nat} (hm : 2 ≤ m) (p : Tk) : -1 ≤ tkSrc m p ∧ tkSrc m p < m ∧ (tkSrc m p = -1 ∨ nth p.left (tkSrc m p).toNat ≠ 0) := by
  have h := among_in (s := p.sk) (show (-1 : Int) ≤ (m : Int) - 1 by omega)
  unfold tkSrc srcOf
  split
  · omega
  · rename_i hn
    by_cases e : skAmong p.sk (-1) ((m : Int) - 1) = -1
    · exact ⟨h.1, by omega, .inl e⟩
    · exact ⟨h.1, by omega, .inr fun h0 => hn ⟨e, h0⟩⟩
theorem mkTrn_ok {m : Nat} (hm : 2 ≤ m) {p : Tk} (hp : ∀ j, j < m → 0 ≤ nth p.left j) : TrnOk m (mkTrn m p) := by
  have h1 := src_in hm p
  have h2 := among_in (s := skNext p.sk) (show (-1 : Int) ≤ (m : Int) - 1 by omega)
  have h3 := among_in (s := skNext (skNext p.sk)) (show (1 : Int) ≤ 20 by omega)
  have h4 := mod_next hm ⟨h1.1, h1.2.1⟩
  have h5 : (-1 ≤ tkDst m p ∧ tkDst m p < m) ∧ tkSrc m p ≠ tkDst m p := by
    unfold tkDst dstOf
    split
    · exact ⟨by omega, fun e => h4.2.2 e.symm⟩
    · exact ⟨by omega, by assumption⟩
  refine ⟨⟨h1.1, h1.2.1⟩, h5.1, h5.2, ?_⟩
  show 1 ≤ tkSacks m p ∧ tkSacks m p ≤ 20
  unfold tkSacks sacksOf
  split
  · rename_i hn
    have h6 := hp (tkSrc m p).toNat (by omega)
    have h7 := h1.2.2.resolve_left hn
    omega
  · exact h3
theorem took_snoc (ts : List Trn) (t : Trn) (i : Int) : tookL (ts ++ [t]) i = tookL ts i + if t.src = i then t.sacks else 0 := by simp [tookL]
theorem trns_spec {m : Nat} (hm : 2 ≤ m) {left : List Int} (hl : left.length = m) (h0 : ∀ j, j < m → 0 ≤ nth left j) (s : Sk) : ∀ k, TkOk m k left s (trnsUp m left s k)
  | 0 => ⟨hl, h0, fun j _ => by simp [trnsUp, tookL], rfl, fun t ht => by simp [trnsUp] at ht, by simp [trnsUp]⟩
  | k + 1 => by
    have h := trns_spec hm hl h0 s k
    have ht := mkTrn_ok hm h.pos
    have h1 := src_in hm (trnsUp m left s k)
    have key : ∀ j, j < m → nth (trnsUp m left s (k + 1)).left j = nth (trnsUp m left s k).left j - if tkSrc m (trnsUp m left s k) = (j : Int) then tkSacks m (trnsUp m left s k) else 0 := fun j hj => by
      show nth (leftOf _ _ _) j = _
      unfold leftOf
      split
      · rw [nth_set_int]
        by_cases e : tkSrc m (trnsUp m left s k) = (j : Int)
        · rw [e, if_pos ⟨by omega, by have := h.left; omega⟩, if_pos rfl]; rfl
        · rw [if_neg (by omega), if_neg e]; omega
      · rw [if_neg (by omega)]; omega
    refine ⟨?_, fun j hj => ?_, fun j hj => ?_, ?_, fun t ht' => ?_, ?_⟩
    · show (leftOf _ _ _).length = _
      unfold leftOf; split
      · rw [List.length_set, h.left]
      · exact h.left
    · rw [key j hj]
      have := h.pos j hj
      split
      · rename_i e
        have h5 : tkSacks m (trnsUp m left s k) = min (skAmong (skNext (skNext (trnsUp m left s k).sk)) 1 20) (nth (trnsUp m left s k).left j) := by
          unfold tkSacks sacksOf
          rw [if_pos (by omega), e]; rfl
        omega
      · omega
    · rw [key j hj]
      show _ + tookL (_ ++ [_]) _ = _
      rw [took_snoc]
      have := h.took j hj
      show nth (trnsUp m left s k).left j - (if tkSrc m (trnsUp m left s k) = (j : Int) then tkSacks m (trnsUp m left s k) else 0) + (tookL (trnsUp m left s k).trn j + if tkSrc m (trnsUp m left s k) = (j : Int) then tkSacks m (trnsUp m left s k) else 0) = _
      omega
    · show (_ ++ [_]).length = _
      rw [List.length_append, h.trn]; rfl
    · rcases List.mem_append.1 ht' with ht' | ht'
      · exact h.trnOk t ht'
      · rw [List.mem_singleton.1 ht']; exact ht
    · show (skNext (skNext (skNext _))).taken = _
      rw [skNext_taken, skNext_taken, skNext_taken, h.taken]; omega
def rulesUp (order : List Int) (T : Nat) (s : Sk) : Nat → List Rul × Sk
  | 0 => ([], s)
  | k + 1 => (if skBelow (rulesUp order T s k).2 T < skBelow (skNext (rulesUp order T s k).2) T then (rulesUp order T s k).1 ++ [⟨nth order (skBelow (rulesUp order T s k).2 T).toNat, nth order (skBelow (skNext (rulesUp order T s k).2) T).toNat⟩] else (rulesUp order T s k).1, skNext (skNext (rulesUp order T s k).2))
def RulOk (order : List Int) (T : Nat) (r : Rul) : Prop := ∃ a b : Nat, a < b ∧ b < T ∧ r = ⟨nth order a, nth order b⟩
theorem rules_spec (order : List Int) (T : Nat) (s : Sk) : ∀ k, (rulesUp order T s k).1.length ≤ k ∧ (∀ r ∈ (rulesUp order T s k).1, RulOk order T r) ∧ (rulesUp order T s k).2.taken = s.taken + 2 * k
  | 0 => ⟨by simp [rulesUp], fun r hr => by simp [rulesUp] at hr, by simp [rulesUp]⟩
  | k + 1 => by
    obtain ⟨h1, h2, h3⟩ := rules_spec order T s k
    have ha := skBelow_bound (rulesUp order T s k).2 T
    have hb := skBelow_bound (skNext (rulesUp order T s k).2) T
    refine ⟨?_, fun r hr => ?_, ?_⟩
    · show (if _ then _ else _ : List Rul).length ≤ _
      split
      · simp; omega
      · omega
    · change r ∈ (if _ then _ else _ : List Rul) at hr
      split at hr
      · rename_i hlt
        rcases List.mem_append.1 hr with hr | hr
        · exact h2 r hr
        · exact ⟨_, _, by omega, by omega, List.mem_singleton.1 hr⟩
      · exact h2 r hr
    · show (skNext (skNext _)).taken = _
      rw [skNext_taken, skNext_taken, h3]; omega
theorem nodup_inj {l : List Int} (h : l.Nodup) {a b : Nat} (ha : a < l.length) (hb : b < l.length) (e : nth l a = nth l b) : a = b := by
  rcases Nat.lt_trichotomy a b with hlt | rfl | hlt
  · exact absurd (e ▸ (by rw [nth_lt ha]; exact List.mem_take_iff_getElem.2 ⟨a, by omega, rfl⟩ : nth l a ∈ l.take b)) (nodup_not h hb)
  · rfl
  · exact absurd (e ▸ (by rw [nth_lt hb]; exact List.mem_take_iff_getElem.2 ⟨b, by omega, rfl⟩ : nth l b ∈ l.take a)) (nodup_not h ha)
theorem lead_order {order : List Int} {rules : List Rul} (hn : order.Nodup) (h : ∀ r ∈ rules, RulOk order order.length r) {x y : Int} (hl : Lead rules x y) : ∃ a b : Nat, a < b ∧ b < order.length ∧ x = nth order a ∧ y = nth order b := by
  induction hl with
  | one hr =>
    obtain ⟨a, b, h1, h2, rfl⟩ := h _ hr
    exact ⟨a, b, h1, h2, rfl, rfl⟩
  | step hr _ ih =>
    obtain ⟨a, b, h1, h2, e⟩ := h _ hr
    obtain ⟨c, d, h3, h4, h5, h6⟩ := ih
    rw [e] at h6 ⊢
    have := nodup_inj hn (by omega) h4 h6
    subst this
    exact ⟨c, b, by omega, h2, h5, rfl⟩
end Go.Proofs.YtifgbnbkimcchaaGreat

namespace Go.Proofs.YtifgbnbkimcchaaGreat
open Go Go.T
structure Md where
  s : Sk
  t : Nat
def Md.n (d : Md) : Nat := (skAmong d.s 1 4).toNat
def Md.m (d : Md) : Nat := (skAmong (skNext d.s) 2 5).toNat
def Md.bn (d : Md) (k : Nat) : Mk := binsUp d.n (skNext (skNext d.s)) k
def Md.up (d : Md) (k : Nat) : List Int × Sk := upsUp (d.bn d.m).bears (d.bn d.m).sk k
def Md.T (d : Md) : Nat := (skBelow (d.up d.n).2 ((d.t : Int) + 1)).toNat
def Md.tk (d : Md) (k : Nat) : Tk := trnsUp d.m (d.bn d.m).left (skNext (d.up d.n).2) k
def Md.order (d : Md) : List Int × Sk := shufUp (d.tk d.T).sk d.T
def Md.R (d : Md) : Nat := (skBelow d.order.2 6).toNat
def Md.ru (d : Md) (k : Nat) : List Rul × Sk := rulesUp d.order.1 d.T (skNext d.order.2) k
def Md.flr (d : Md) : Flr := ⟨(d.up d.n).1, (d.bn d.m).bins, (d.tk d.T).trn, (d.ru d.R).1⟩
def Md.sk (d : Md) : Sk := (d.ru d.R).2
theorem Md.n_in (d : Md) : 1 ≤ d.n ∧ d.n ≤ 4 ∧ (d.n : Int) = skAmong d.s 1 4 := by
  have := among_in (s := d.s) (show (1 : Int) ≤ 4 by omega)
  unfold Md.n; omega
theorem Md.m_in (d : Md) : 2 ≤ d.m ∧ d.m ≤ 5 ∧ (d.m : Int) = skAmong (skNext d.s) 2 5 := by
  have := among_in (s := skNext d.s) (show (2 : Int) ≤ 5 by omega)
  unfold Md.m; omega
theorem Md.T_in (d : Md) : d.T ≤ d.t ∧ (d.T : Int) = skBelow (d.up d.n).2 ((d.t : Int) + 1) := by
  have := skBelow_bound (d.up d.n).2 ((d.t : Int) + 1)
  unfold Md.T; omega
theorem Md.R_in (d : Md) : d.R ≤ 5 ∧ (d.R : Int) = skBelow d.order.2 6 := by
  have := skBelow_bound d.order.2 6
  unfold Md.R; omega
theorem Md.bnOk (d : Md) (k : Nat) : MkOk d.n k (skNext (skNext d.s)) (d.bn k) := bins_spec d.n_in.1 _ k
theorem Md.upOk (d : Md) (k : Nat) : (d.up k).1.length = d.n ∧ (∀ j, j < d.n → 0 ≤ nth (d.up k).1 j ∧ nth (d.up k).1 j ≤ nth (d.bn d.m).bears j + if j < k then 90 else 0) ∧ (d.up k).2.taken = (d.bn d.m).sk.taken + 2 * k := by
  have h := d.bnOk d.m
  have := ups_spec (d.bn d.m).bears (d.bn d.m).sk (fun j hj => (h.bearsR j (by rw [← h.bears]; exact hj)).1) k
  rw [h.bears] at this
  exact this
theorem Md.left_pos (d : Md) : (d.bn d.m).left.length = d.m ∧ ∀ j, j < d.m → 0 ≤ nth (d.bn d.m).left j ∧ nth (d.bn d.m).left j ≤ 59 ∧ nth (d.bn d.m).left j = (nth (d.bn d.m).bins j).has := by
  have h := d.bnOk d.m
  have hl : (d.bn d.m).left.length = d.m := by rw [h.left, List.length_map, h.bins]
  refine ⟨hl, fun j hj => ?_⟩
  have hb : j < (d.bn d.m).bins.length := by rw [h.bins]; exact hj
  have e : nth (d.bn d.m).left j = (nth (d.bn d.m).bins j).has := by
    rw [nth_lt hb, nth_lt (by omega)]
    simp only [h.left, List.getElem_map]
  have := (h.binOk _ (nth_mem hb)).has
  rw [e]; omega
theorem Md.tkOk (d : Md) (k : Nat) : TkOk d.m k (d.bn d.m).left (skNext (d.up d.n).2) (d.tk k) := trns_spec d.m_in.1 d.left_pos.1 (fun j hj => (d.left_pos.2 j hj).1) _ k
theorem Md.orderOk (d : Md) : d.order.1.length = d.T ∧ d.order.1.Nodup ∧ (∀ x, x ∈ d.order.1 ↔ 0 ≤ x ∧ x < (d.T : Int)) ∧ d.order.2.taken = (d.tk d.T).sk.taken + d.T := shuf_spec _ _
theorem Md.ruOk (d : Md) (k : Nat) : (d.ru k).1.length ≤ k ∧ (∀ r ∈ (d.ru k).1, RulOk d.order.1 d.T r) ∧ (d.ru k).2.taken = (skNext d.order.2).taken + 2 * k := rules_spec _ _ _ k
theorem Md.taken (d : Md) : d.sk.taken ≤ d.s.taken + (52 + 4 * d.t) := by
  have h1 := (d.bnOk d.m).taken
  have h2 := (d.upOk d.n).2.2
  have h3 := (d.tkOk d.T).taken
  have h4 := d.orderOk.2.2.2
  have h5 := (d.ruOk d.R).2.2
  have h6 := d.n_in
  have h7 := d.m_in
  have h8 := d.T_in
  have h9 := d.R_in
  rw [skNext_taken] at h3 h5 h1
  rw [skNext_taken] at h1
  unfold Md.sk
  omega
theorem rule_in {d : Md} {r : Rul} (h : RulOk d.order.1 d.T r) : (0 ≤ r.fst ∧ r.fst < (d.T : Int)) ∧ 0 ≤ r.nxt ∧ r.nxt < (d.T : Int) := by
  obtain ⟨a, b, h1, h2, rfl⟩ := h
  have ho := d.orderOk
  exact ⟨(ho.2.2.1 _).1 (nth_mem (by omega)), (ho.2.2.1 _).1 (nth_mem (by omega))⟩
theorem any_not_of {α : Type} {q : α → Bool} {l : List α} (h : ∀ x ∈ l, q x = false) : l.any q = false := by
  rw [Bool.eq_false_iff]; intro hc
  obtain ⟨x, hx, hq⟩ := List.any_eq_true.1 hc
  rw [h x hx] at hq; cases hq
theorem offB_of {n lo hi : Int} (h : lo ≤ n ∧ n ≤ hi) : offB n lo hi = false := by
  simp only [offB, Bool.or_eq_false_iff, decide_eq_false_iff_not]; omega
theorem Md.right (d : Md) (ht : d.t ≤ 8) : checkP d.flr = 0 := by
  have h1 := d.bnOk d.m
  have h2 := d.upOk d.n
  have h3 := d.tkOk d.T
  have h4 := d.orderOk
  have h5 := d.ruOk d.R
  have h6 := d.n_in
  have h7 := d.m_in
  have h8 := d.T_in
  have h9 := d.R_in
  have hB : d.flr.bears.length = d.n := h2.1
  have hb : d.flr.bins.length = d.m := h1.bins
  have hT : d.flr.turnings.length = d.T := h3.trn
  have hR : d.flr.rules.length ≤ 5 := Nat.le_trans h5.1 h9.1
  rw [check_eq, checkM, if_neg, if_neg, if_neg, if_neg, if_neg, linkedM, if_neg, if_neg, if_neg, if_neg, if_neg]
  · rw [Bool.not_eq_true]
    refine any_not_of fun t _ => decide_eq_false fun hm => ?_
    obtain ⟨_, hl⟩ := mem_aheadM.1 hm
    obtain ⟨a, b, hab, hbt, ea, eb⟩ := lead_order h4.2.1 (fun r hr => by rw [h4.1]; exact h5.2.1 r hr) hl
    have := nodup_inj h4.2.1 (by omega) hbt (ea.symm.trans eb)
    omega
  · rw [Bool.not_eq_true]
    refine any_not_of fun i hi => ?_
    have hi := mem_iot.1 hi
    have hj : i.toNat < d.m := by omega
    have hbk := h1.binOk _ (nth_mem (xs := (d.bn d.m).bins) (k := i.toNat) (by rw [h1.bins]; exact hj))
    show d.flr.wrongAt i.toNat (nth (d.bn d.m).bins i.toNat) = false
    unfold Flr.wrongAt
    rw [hbk.sum]
    have hk := h3.took _ hj
    have hp := h3.pos _ hj
    have hl := (d.left_pos.2 _ hj).2.2
    have e : takenM d.flr d.flr.turnings i.toNat = tookL (d.tk d.T).trn i.toNat := rfl
    have hx : ¬ tookL (d.tk d.T).trn i.toNat > (nth (d.bn d.m).bins i.toNat).has := by omega
    rw [e, decide_eq_false hx]; rfl
  · rw [Bool.not_eq_true]
    exact any_not_of fun t hm => decide_eq_false (h3.trnOk t hm).ne
  · rw [Bool.not_eq_true]
    refine any_not_of fun r hm => ?_
    have := rule_in (h5.2.1 r hm)
    rw [hT, offB_of (by omega), offB_of (by omega)]; rfl
  · rw [Bool.not_eq_true]
    refine any_not_of fun t hm => ?_
    have h := h3.trnOk t hm
    have := h.src
    have := h.dst
    rw [hb, offB_of (by omega), offB_of (by omega)]; rfl
  · rw [Bool.not_eq_true]
    refine any_not_of fun t hm => ?_
    have := (h3.trnOk t hm).sacks
    exact offB_of (by omega)
  · rw [Bool.not_eq_true]
    refine any_not_of fun b hm => ?_
    have h := h1.binOk b hm
    have := h.has
    rw [offB_of (by omega), Bool.false_or]
    exact any_not_of (mem_nth_of (P := fun n => offB n 0 4 = false) fun j hj => offB_of (h.rng j (by rw [← h.len]; exact hj)))
  · rw [Bool.not_eq_true]
    refine any_not_of (mem_nth_of (P := fun n => offB n 0 4000 = false) fun j hj => offB_of ?_)
    have hj : j < d.n := by rw [← hB]; exact hj
    have h := h2.2.1 j hj
    have h0 := h1.bearsR j hj
    rw [if_pos hj] at h
    show 0 ≤ nth (d.up d.n).1 j ∧ nth (d.up d.n).1 j ≤ 4000
    omega
  · rw [Bool.not_eq_true]
    refine any_not_of fun b hm => ?_
    rw [(h1.binOk b hm).len, hB]; simp
  · rw [Bool.not_eq_true]
    unfold Flr.many
    rw [hB, hb, hT, offB_of (by omega), decide_eq_false (by omega), decide_eq_false (by omega), decide_eq_false (by omega)]; rfl
end Go.Proofs.YtifgbnbkimcchaaGreat

namespace Go.Proofs.YtifgbnbkimcchaaGreat
open Go Go.T
set_option maxHeartbeats 2000000
attribute [local irreducible] dInt dBool dSl dPp dPtr dAgg dTup dClo dAny dEx dStr dGd dCells dVec dVs dRow dOp nth Tri Into TOps Ctr bodyPost Exit.then Exit.inBlock Code.wp Code.wpIn dWhen dPa dPe dAo dArr dMp dPm dMap dCJ CtrG CtrI OpY keepPost iterPost bodyPostM roundQ
attribute [local irreducible] skNext skBelow skAmong skRare bearUp shUp mkBin
theorem nil_row_eq {α : Type} {E : El α} {T tg : Nat} {xs : List α} (e : [] = xs) : (Ty.ex (.slice none 0 0)).Sub (Ty.row E T tg xs) := by subst e; exact Ty.nil_row
theorem wrap_in {n : Int} (h : -9223372036854775808 ≤ n ∧ n ≤ 9223372036854775807) : IntKind.i64.wrap n = n := IntWalk.i64_in _ (by omega)
section
variable {m L : Nat} (e : L = m) (p : Tk)
include e
end
section
variable {m : Nat} {p : Tk}
end
attribute [local irreducible] Md.bn Md.up Md.tk Md.ru shufUp
end Go.Proofs.YtifgbnbkimcchaaGreat

namespace Go.Proofs.YtifgbnbkimcchaaGreat
open Go Go.T
theorem orders_in {f : Flr} {l : List Int} (hlen : l.length = f.turnings.length) (hr : ∀ i, i < l.length → readyM f (l.take i) (nth l i) = true) (hrg : ∀ x ∈ l, 0 ≤ x ∧ x < (f.turnings.length : Int)) : ∀ m k, k ≤ l.length → l.length < k + m → l ∈ ordersM f m (l.take k)
  | 0, k, h1, h2 => by omega
  | m + 1, k, h1, h2 => by
    rw [ordersM]
    by_cases hk : (l.take k).length = f.turnings.length
    · rw [if_pos hk]
      have : k = l.length := by rw [List.length_take] at hk; omega
      rw [this, List.take_length]; exact List.mem_singleton.2 rfl
    · rw [if_neg hk]
      have hk2 : k < l.length := by
        rcases Nat.lt_or_ge k l.length with h | h
        · exact h
        · rw [List.length_take] at hk; omega
      have hx := hrg _ (nth_mem hk2)
      refine List.mem_flatMap.2 ⟨nth l k, mem_iot.2 hx, ?_⟩
      rw [if_pos (hr k hk2), ← take_nth hk2]
      exact orders_in hlen hr hrg m (k + 1) (by omega) (by omega)
theorem order_ready {f : Flr} {l : List Int} (ho : orderM f l = 0) : ∀ i, i < l.length → readyM f (l.take i) (nth l i) = true := fun i hi => by
  obtain ⟨h1, h2, h3, h4⟩ := order_spec ho
  unfold readyM
  rw [Bool.and_eq_true, List.all_eq_true]
  exact ⟨by simpa using h3 i hi, fun a ha => decide_eq_true (h4 i hi a ha)⟩
theorem orders_all {f : Flr} {l : List Int} (ho : orderM f l = 0) : l ∈ ordersR f := by
  have h := order_spec ho
  have := orders_in h.1 (order_ready ho) h.2.1 (f.turnings.length + 1) 0 (Nat.zero_le _) (by omega)
  rwa [List.take_zero] at this
theorem state_sum {f : Flr} (hn : f.Named) {l : List Int} (hl : ∀ x ∈ l, 0 ≤ x ∧ x < (f.turnings.length : Int)) {b : Nat} (hb : b < f.bears.length) : ∀ k, k ≤ l.length → sumT f (stateM f l k) f.bins.length b = loadO f l b k
  | 0, _ => by
    have := first_eq f hb
    rw [nth_loads (order := []) (k := 0) (Nat.zero_le _), loadM_nth f _ hb] at this
    unfold loadO
    rw [List.take_zero]
    simp only [List.map_nil, List.sum_nil, Int.add_zero]
    exact this
  | k + 1, hk => by
    have hx := hl _ (nth_mem (xs := l) (k := k) (by omega))
    obtain ⟨t, e⟩ := Int.eq_ofNat_of_zero_le hx.1
    have ih := state_sum hn hl hb k (by omega)
    rw [stateM_succ (by omega), loadO_succ f (by omega), e, sumT_step hn (by omega) (stateM_len f l k), ih]; rfl
theorem loads_loadO {f : Flr} (hn : f.Named) {l : List Int} (hl : ∀ x ∈ l, 0 ≤ x ∧ x < (f.turnings.length : Int)) {b : Nat} (hb : b < f.bears.length) {k : Nat} (hk : k ≤ l.length) : nth (nth (loadsM f l) k) b = loadO f l b k := by
  rw [nth_loads hk, loadM_nth f _ hb, state_sum hn hl hb k hk]
theorem maxUp_le {l : List Int} {x : Int} : ∀ k, k ≤ l.length → (maxUp l k ≤ x ↔ nth l 0 ≤ x ∧ ∀ i, i < k → nth l i ≤ x)
  | 0, _ => ⟨fun h => ⟨by simpa [maxUp] using h, fun i hi => by omega⟩, fun h => by simpa [maxUp] using h.1⟩
  | k + 1, hk => by
    rw [maxUp_succ (by omega), Int.max_le, maxUp_le k (by omega)]
    constructor
    · rintro ⟨⟨h1, h2⟩, h3⟩
      refine ⟨h1, fun i hi => ?_⟩
      rcases Nat.lt_or_ge i k with h | h
      · exact h2 i h
      · rw [show i = k by omega]; exact h3
    · rintro ⟨h1, h2⟩
      exact ⟨⟨h1, fun i hi => h2 i (by omega)⟩, h2 k (by omega)⟩
theorem maxM_up (l : List Int) : maxM l = maxUp l l.length := by unfold maxM maxUp; rw [List.take_length]
theorem maxM_le {l : List Int} {x : Int} (h : 0 < l.length) : maxM l ≤ x ↔ ∀ i, i < l.length → nth l i ≤ x := by
  rw [maxM_up, maxUp_le _ (Nat.le_refl _)]
  exact ⟨fun h => h.2, fun h' => ⟨h' 0 h, h'⟩⟩
end Go.Proofs.YtifgbnbkimcchaaGreat

namespace Go.Proofs.YtifgbnbkimcchaaGreat
open Go Go.T
def over (f : Flr) (l : List Int) (t b : Nat) : Prop := nth (nth (loadsM f l) t) b > nth f.bears b
instance (f : Flr) (l : List Int) (t b : Nat) : Decidable (over f l t b) := by unfold over; infer_instance
def clr (f : Flr) (l : List Int) (t b : Nat) : Bool := decide ((∀ j, j < t → breakRow f (nth (loadsM f l) j) = none) ∧ ∀ j, j < b → ¬ over f l t j)
structure Answers (f : Flr) (l : List Int) : Prop where
  rows : rowsE f l = loadsM f l
  ord : orderE f l = 0
  mar : marE f l = marginM f l
  marl : marL f l f.bears.length = marginM f l
  brk : brkE f l = if marginM f l < 0 then 0 else 6
  brkT : brkT f l = breakT f l
  brkB : brkB f l = breakB f l
  rng : ∀ x ∈ l, 0 ≤ x ∧ x < (f.turnings.length : Int)
  len : l.length = f.turnings.length
  nodup : l.Nodup
  all : ∀ x, x ∈ l ↔ 0 ≤ x ∧ x < (f.turnings.length : Int)
end Go.Proofs.YtifgbnbkimcchaaGreat

namespace Go.Proofs.YtifgbnbkimcchaaGreat
open Go Go.T
structure SaferF (f : Flr) : Prop where
  mar : marginR f = marginsR f
  all : allowedL f (safestP f).1 = true
  marl : marL f (safestP f).1 f.bears.length = marginR f
  keep : decide (0 < ((keepR f).length : Int)) = decide (0 ≤ marginR f)
  err : decide (safeE f = 0) = decide (0 ≤ marginR f)
  err6 : decide (safeE f = 6) = !decide (0 ≤ marginR f)
  rng : ∀ x ∈ safeR f, 0 ≤ x ∧ x < (f.turnings.length : Int)
  few : (safeR f).length ≤ f.turnings.length
end Go.Proofs.YtifgbnbkimcchaaGreat

namespace Go.Proofs.YtifgbnbkimcchaaGreat
open Go Go.T
def noFlr : Flr := ⟨[], [], [], []⟩
def moreF (f : Flr) (r : Rul) : Flr := { f with rules := f.rules ++ [r] }
def waitP (f : Flr) (r : Rul) : Flr × Int :=
  if checkP f ≠ 0 then (noFlr, checkP f) else if (f.rules.length : Int) = 16 then (noFlr, 9) else if checkP (moreF f r) ≠ 0 then (noFlr, checkP (moreF f r)) else (moreF f r, 0)
section
variable {f : Flr} {r : Rul}
end
theorem Lead.mono {l m : List Rul} (h : ∀ r ∈ l, r ∈ m) {x y : Int} (hl : Lead l x y) : Lead m x y := by
  induction hl with
  | one hr => exact .one (h _ hr)
  | step hr _ ih => exact .step (h _ hr) ih
def befL (l : List Int) (a b : Int) : Bool := (List.range l.length).all fun i => !decide (nth l i = b) || decide (a ∈ l.take i)
def sideN (f : Flr) (a b : Int) : Nat := ((keepR f).filter fun l => befL l a b).length
end Go.Proofs.YtifgbnbkimcchaaGreat

namespace Go.Proofs.YtifgbnbkimcchaaGreat
open Go Go.T
def cntR (f : Flr) (a b : Int) : Int := if b ∈ aheadM f a then 0 else ((keepR (moreF f ⟨a, b⟩)).length : Int)
def pairR (a b : Int) : List Rul := [⟨a, b⟩, ⟨b, a⟩]
def sumC (f : Flr) (a b : Int) : Nat → Int
  | 0 => 0
  | 1 => cntR f a b
  | _ => cntR f a b + cntR f b a
structure PairF (f : Flr) (a b : Int) (k : Nat) : Prop where
  fst : 0 ≤ (nth (pairR a b) k).fst ∧ (nth (pairR a b) k).fst < f.turnings.length
  nxt : 0 ≤ (nth (pairR a b) k).nxt ∧ (nth (pairR a b) k).nxt < f.turnings.length
  ne : (nth (pairR a b) k).fst ≠ (nth (pairR a b) k).nxt
  sum : sumC f a b (k + 1) = sumC f a b k + cntR f (nth (pairR a b) k).fst (nth (pairR a b) k).nxt
end Go.Proofs.YtifgbnbkimcchaaGreat

namespace Go.Proofs.YtifgbnbkimcchaaGreat
open Go Go.T
def aheadE (f : Flr) (t : Int) : Int := openE f (!inB t 0 (f.turnings.length - 1))
def aheadR (f : Flr) (t : Int) : List Int := if aheadE f t = 0 then aheadM f t else []
theorem members_iot (s : Nat) : membersM s = (iot 8).filter fun k => s.testBit k.toNat := by
  unfold membersM bitsUp iot
  rw [List.filter_map]; rfl
theorem heavyUp_spec (b : SB) (bay : Nat) : ∀ k, k ≤ (setsP b).length → nth b.1.first bay ≤ (heavyUp b bay k).2 ∧ (∀ i, i < k → nth (loadP b (nth (setsP b) i)) bay ≤ (heavyUp b bay k).2) ∧ ((heavyUp b bay k).2 = nth b.1.first bay ∨ ∃ i, i < k ∧ (heavyUp b bay k).2 = nth (loadP b (nth (setsP b) i)) bay)
  | 0, _ => ⟨Int.le_refl _, fun i hi => by omega, .inl rfl⟩
  | k + 1, hk => by
    obtain ⟨h1, h2, h3⟩ := heavyUp_spec b bay k (by omega)
    rw [heavyUp_succ (by omega)]
    unfold heavyS
    split
    · rename_i hg
      refine ⟨by show _ ≤ nth _ bay; omega, fun i hi => ?_, .inr ⟨k, by omega, rfl⟩⟩
      show _ ≤ nth _ bay
      rcases Nat.lt_or_ge i k with hx | hx
      · have := h2 i hx; omega
      · rw [show i = k by omega]; exact Int.le_refl _
    · rename_i hg
      refine ⟨h1, fun i hi => ?_, h3.imp id fun ⟨i, hi, e⟩ => ⟨i, by omega, e⟩⟩
      rcases Nat.lt_or_ge i k with hx | hx
      · exact h2 i hx
      · rw [show i = k by omega]; omega
def heavyV (f : Flr) (bay : Nat) : Int := (heavyP (boardsOf f) bay).2
theorem heavyP_up (b : SB) (bay : Nat) : heavyP b bay = heavyUp b bay (setsP b).length := by unfold heavyP heavyUp; rw [List.take_length]
theorem mem_setsP {f : Flr} {s : Nat} : s ∈ setsP (boardsOf f) ↔ s < 2 ^ f.turnings.length ∧ wholeP (boardsOf f) s = true := by
  unfold setsP setsUp
  rw [boardsOf_f, List.mem_filter, List.mem_range, shl_pow]
theorem heavy_ge {f : Flr} (bay : Nat) {s : Nat} (hs : s < 2 ^ f.turnings.length) (hw : wholeP (boardsOf f) s = true) : nth (loadP (boardsOf f) s) bay ≤ heavyV f bay := by
  obtain ⟨i, hi, e⟩ := List.getElem_of_mem (mem_setsP.2 ⟨hs, hw⟩)
  have := (heavyUp_spec (boardsOf f) bay _ (Nat.le_refl _)).2.1 i hi
  rw [nth_lt hi, e] at this
  unfold heavyV; rw [heavyP_up]; exact this
theorem whole_zero {f : Flr} (h : checkP f = 0) : wholeP (boardsOf f) 0 = true := (rep_nil h).whole
theorem heavy_at {f : Flr} (h : checkP f = 0) (bay : Nat) : ∃ s, s < 2 ^ f.turnings.length ∧ wholeP (boardsOf f) s = true ∧ heavyV f bay = nth (loadP (boardsOf f) s) bay := by
  unfold heavyV
  rw [heavyP_up]
  rcases (heavyUp_spec (boardsOf f) bay _ (Nat.le_refl _)).2.2 with e | ⟨i, hi, e⟩
  · exact ⟨0, Nat.two_pow_pos _, whole_zero h, by rw [e, first_load]⟩
  · obtain ⟨h1, h2⟩ := mem_setsP.1 (nth_mem hi)
    exact ⟨_, h1, h2, e⟩
theorem most_in {f : Flr} (h : checkP f = 0) {b : Nat} (hb : b < f.bears.length) : mostP f b = (heavyV f b, 0) := by
  unfold mostP openE
  have e : inB (b : Int) 0 (f.bears.length - 1) = true := by unfold inB; simp; omega
  rw [if_neg (c := checkP f ≠ 0) (fun x => x h), e, if_neg (c := (!true) = true) (by decide), if_neg (fun x => x rfl)]; rfl
structure RuleF (f : Flr) (l : List Int) (a b : Int) : Prop where
  ha : 0 ≤ a ∧ a < f.turnings.length
  hb : 0 ≤ b ∧ b < f.turnings.length
  ne : a ≠ b
  wait : waitP f ⟨a, b⟩ = (moreF f ⟨a, b⟩, 0)
  right : checkP (moreF f ⟨a, b⟩) = 0
  right0 : checkM (moreF f ⟨a, b⟩) = 0
  allowed : allowedL (moreF f ⟨a, b⟩) l = true
  back : waitP (moreF f ⟨a, b⟩) ⟨b, a⟩ = (noFlr, 7)
  aE : aheadE (moreF f ⟨a, b⟩) b = 0 ∧ aheadR (moreF f ⟨a, b⟩) b = aheadM (moreF f ⟨a, b⟩) b
  aE2 : aheadE f a = 0 ∧ aheadR f a = aheadM f a
section
variable {f : Flr} {l : List Int} {a b : Int} (h : checkP f = 0) (hf : RuleF f l a b)
include h hf
end
end Go.Proofs.YtifgbnbkimcchaaGreat

namespace Go.Proofs.YtifgbnbkimcchaaGreat
open Go Go.T
def sm (n : Nat) (g : Nat → Int) : Int := ((List.range n).map g).sum
theorem sm_zero (g : Nat → Int) : sm 0 g = 0 := rfl
theorem sm_succ (n : Nat) (g : Nat → Int) : sm (n + 1) g = sm n g + g n := by unfold sm; exact sum_range_succ n g
theorem sm_congr {g h : Nat → Int} : ∀ n, (∀ i, i < n → g i = h i) → sm n g = sm n h
  | 0, _ => rfl
  | n + 1, e => by rw [sm_succ, sm_succ, sm_congr n fun i hi => e i (by omega), e n (by omega)]
theorem sm_le {g h : Nat → Int} : ∀ n, (∀ i, i < n → g i ≤ h i) → sm n g ≤ sm n h
  | 0, _ => Int.le_refl _
  | n + 1, e => by
    have h1 := sm_le n fun i hi => e i (by omega)
    have h2 := e n (by omega)
    rw [sm_succ, sm_succ]; omega
theorem sm_add (g h : Nat → Int) : ∀ n, sm n (fun i => g i + h i) = sm n g + sm n h
  | 0 => rfl
  | n + 1 => by rw [sm_succ, sm_succ, sm_succ, sm_add g h n]; omega
theorem sm_sub (g h : Nat → Int) : ∀ n, sm n (fun i => g i - h i) = sm n g - sm n h
  | 0 => rfl
  | n + 1 => by rw [sm_succ, sm_succ, sm_succ, sm_sub g h n]; omega
theorem sm_none {g : Nat → Int} (n : Nat) (h : ∀ i, i < n → g i = 0) : sm n g = 0 := by
  rw [sm_congr (h := fun _ => 0) n h]
  induction n with
  | zero => rfl
  | succ n ih => rw [sm_succ, ih fun i hi => h i (by omega)]; rfl
theorem sm_nonneg {g : Nat → Int} (n : Nat) (h : ∀ i, i < n → 0 ≤ g i) : 0 ≤ sm n g := by
  have := sm_le (g := fun _ => 0) n h
  rwa [sm_none n fun _ _ => rfl] at this
theorem sm_one (m : Int) {n x : Nat} (h : x < n) : sm n (fun i => if x = i then m else 0) = m := by
  induction n with
  | zero => omega
  | succ n ih =>
    rw [sm_succ]
    by_cases e : x = n
    · rw [if_pos e, sm_none n fun i hi => if_neg (by omega)]; omega
    · rw [if_neg e, ih (by omega)]; omega
theorem sm_swap (g : Nat → Nat → Int) : ∀ n m, sm n (fun i => sm m fun j => g i j) = sm m fun j => sm n fun i => g i j
  | 0, m => by rw [sm_zero]; exact (sm_none m fun _ _ => rfl).symm
  | n + 1, m => by
    rw [sm_succ, sm_swap g n m, ← sm_add]
    exact sm_congr m fun j _ => (sm_succ n _).symm
theorem sm_ge {g : Nat → Int} {n i : Nat} (hi : i < n) (h : ∀ j, j < n → 0 ≤ g j) : g i ≤ sm n g := by
  have := sm_le (g := fun j => if i = j then g i else 0) (h := g) n fun j hj => by
    by_cases e : i = j
    · rw [if_pos e, e]; exact Int.le_refl _
    · rw [if_neg e]; exact h j hj
  rwa [sm_one _ hi] at this
theorem load_bits {f : Flr} (h : checkP f = 0) (s : Nat) (hs : s < 2 ^ f.turnings.length) {bay : Nat} (hb : bay < f.bears.length) : nth (loadP (boardsOf f) s) bay = nth (boardsOf f).1.first bay + sm f.turnings.length fun t => if s.testBit t = true then addB (boardsOf f) bay t else 0 := by
  have hr := check_right h
  have hb4 := hr.ranged.bears
  have h8 := hr.ranged.turnings
  unfold loadP
  rw [nth_map_range _ (by omega), loadAt_bits]
  congr 1
  show sm 8 _ = _
  obtain ⟨d, hd⟩ : ∃ d, 8 = f.turnings.length + d := ⟨8 - f.turnings.length, by omega⟩
  rw [hd]
  clear hd
  induction d with
  | zero => rfl
  | succ d ih =>
    rw [show f.turnings.length + (d + 1) = (f.turnings.length + d) + 1 by omega, sm_succ, ih, if_neg (fun hx => by have := testBit_lt hs hx; omega)]; omega
theorem sum_paid_if (pays : List Pay) (q : Nat → Bool) (n : Nat) (hq : ∀ p ∈ pays, 0 ≤ p.src ∧ p.src < n) : sm n (fun t => if q t = true then paidBy pays t else 0) = (pays.map fun p => if q p.src.toNat = true then p.much else 0).sum := by
  induction pays with
  | nil => exact sm_none n fun i _ => by simp [paidBy]
  | cons p l ih =>
    have hp := hq p List.mem_cons_self
    rw [List.map_cons, List.sum_cons, ← ih fun q hq' => hq q (List.mem_cons_of_mem _ hq')]
    have e : sm n (fun t => if q t = true then paidBy (p :: l) t else 0) = sm n fun t => (if p.src.toNat = t then (if q p.src.toNat = true then p.much else 0) else 0) + if q t = true then paidBy l t else 0 := sm_congr n fun t _ => by
      rw [paidBy_cons]
      by_cases hx : p.src.toNat = t
      · have hx2 : p.src = (t : Int) := by omega
        rw [if_pos hx2, if_pos hx, hx]
        split <;> simp
      · have hx2 : ¬ p.src = (t : Int) := by omega
        rw [if_neg hx2, if_neg hx]
        split <;> simp
    rw [e, sm_add, sm_one _ (by omega)]
theorem sum_given_if (pays : List Pay) (q : Nat → Bool) (n : Nat) (hq : ∀ p ∈ pays, 0 ≤ p.dst ∧ p.dst < n) : sm n (fun t => if q t = true then paidTo pays t else 0) = (pays.map fun p => if q p.dst.toNat = true then p.much else 0).sum := by
  induction pays with
  | nil => exact sm_none n fun i _ => by simp [paidTo]
  | cons p l ih =>
    have hp := hq p List.mem_cons_self
    rw [List.map_cons, List.sum_cons, ← ih fun q hq' => hq q (List.mem_cons_of_mem _ hq')]
    have e : sm n (fun t => if q t = true then paidTo (p :: l) t else 0) = sm n fun t => (if p.dst.toNat = t then (if q p.dst.toNat = true then p.much else 0) else 0) + if q t = true then paidTo l t else 0 := sm_congr n fun t _ => by
      rw [paidTo_cons]
      by_cases hx : p.dst.toNat = t
      · have hx2 : p.dst = (t : Int) := by omega
        rw [if_pos hx2, if_pos hx, hx]
        split <;> simp
      · have hx2 : ¬ p.dst = (t : Int) := by omega
        rw [if_neg hx2, if_neg hx]
        split <;> simp
    rw [e, sm_add, sm_one _ (by omega)]
theorem map_sum_le {α : Type} {g h : α → Int} : ∀ l : List α, (∀ x ∈ l, g x ≤ h x) → (l.map g).sum ≤ (l.map h).sum
  | [], _ => Int.le_refl _
  | x :: l, e => by
    have h1 := e x List.mem_cons_self
    have h2 := map_sum_le l fun y hy => e y (List.mem_cons_of_mem _ hy)
    rw [List.map_cons, List.map_cons, List.sum_cons, List.sum_cons]; omega
def boundOf (f : Flr) (bay : Nat) (pays : List Pay) : Int := nth (boardsOf f).1.first bay + (sm f.turnings.length fun t => max 0 (addB (boardsOf f) bay t)) - total pays
structure Holds (f : Flr) (bay : Nat) (pays : List Pay) : Prop where
  pos : Pos pays
  src : ∀ p ∈ pays, 0 ≤ p.src ∧ p.src < f.turnings.length
  dst : ∀ p ∈ pays, 0 ≤ p.dst ∧ p.dst < f.turnings.length
  lead : ∀ p ∈ pays, Lead f.rules p.dst p.src
  fits : ∀ t : Nat, t < f.turnings.length → paidBy pays t ≤ max 0 (addB (boardsOf f) bay t) ∧ paidTo pays t ≤ max 0 (-(addB (boardsOf f) bay t))
theorem weak {f : Flr} (h : checkP f = 0) {bay : Nat} (hb : bay < f.bears.length) {pays : List Pay} (hh : Holds f bay pays) {s : Nat} (hs : s < 2 ^ f.turnings.length) (hw : wholeP (boardsOf f) s = true) : nth (loadP (boardsOf f) s) bay ≤ boundOf f bay pays := by
  rw [load_bits h s hs hb]
  unfold boundOf
  have h1 := sum_paid_if pays s.testBit f.turnings.length hh.src
  have h2 := sum_given_if pays s.testBit f.turnings.length hh.dst
  have h3 : (pays.map fun p => if s.testBit p.src.toNat = true then p.much else 0).sum ≤ (pays.map fun p => if s.testBit p.dst.toNat = true then p.much else 0).sum := map_sum_le _ fun p hp => by
    have hl := hh.lead p hp
    have hs1 := hh.src p hp
    have hd1 := hh.dst p hp
    have hm := hh.pos p hp
    by_cases hx : s.testBit p.src.toNat = true
    · have := (whole_iff h hs).1 hw p.src.toNat p.dst.toNat hx (by rw [Int.toNat_of_nonneg hs1.1, Int.toNat_of_nonneg hd1.1]; exact hl)
      rw [if_pos hx, if_pos this]; exact Int.le_refl _
    · rw [if_neg hx]; split <;> omega
  have h4 : total pays = sm f.turnings.length fun t => paidBy pays t := (paid_total hh.src).symm
  have key : sm f.turnings.length (fun t => if s.testBit t = true then addB (boardsOf f) bay t else 0) ≤ sm f.turnings.length fun t => ((max 0 (addB (boardsOf f) bay t) - paidBy pays t) + (if s.testBit t = true then paidBy pays t else 0)) - (if s.testBit t = true then paidTo pays t else 0) := sm_le _ fun t ht => by
    have hf := hh.fits t ht
    have hp := paidBy_nonneg hh.pos (t : Int)
    split
    · omega
    · omega
  rw [sm_sub, sm_add, sm_sub, h1, h2] at key
  rw [h4]; omega
theorem weak_most {f : Flr} (h : checkP f = 0) {bay : Nat} (hb : bay < f.bears.length) {pays : List Pay} (hh : Holds f bay pays) : heavyV f bay ≤ boundOf f bay pays := by
  obtain ⟨s, hs, hw, e⟩ := heavy_at h bay
  rw [e]; exact weak h hb hh hs hw
end Go.Proofs.YtifgbnbkimcchaaGreat

namespace Go.Proofs.YtifgbnbkimcchaaGreat
open Go Go.T
structure Led where
  w : SB
  bay : Nat
  paid : List Int
def Led.P (l : Led) (o t : Nat) : Int := nth l.paid (o * 8 + t)
def Led.add (l : Led) (t : Nat) : Int := addB l.w l.bay t
def Led.T (l : Led) : Nat := l.w.1.f.turnings.length
def leftUp (l : Led) (t k : Nat) : Int := -(l.add t) - sm k fun o => l.P o t
def leftM (l : Led) (t : Nat) : Int := leftUp l t 8
def tosOf (l : Led) (f : Nat) : List Int := membersM (nth l.w.1.before f)
def othersM (rec : Nat → List Bool → List Int × List Bool) (l : Led) (f t : Nat) : List Nat → List Bool → List Int × List Bool
  | [], m => ([], m)
  | o :: r, m => if (decide (o = f) || decide (l.P o t = 0)) = true then othersM rec l f t r m else if (rec o m).1 = [] then othersM rec l f t r (rec o m).2 else rec o m
def tosM (rec : Nat → List Bool → List Int × List Bool) (l : Led) (f : Nat) : List Int → List Bool → List Int × List Bool
  | [], m => ([], m)
  | t :: r, m => if (decide (0 ≤ l.add t.toNat) || nth m t.toNat) = true then tosM rec l f r m else if 0 < leftM l t.toNat then ([(f : Int), t], m.set t.toNat true)
    else if (othersM rec l f t.toNat (List.range l.T) (m.set t.toNat true)).1 = [] then tosM rec l f r (othersM rec l f t.toNat (List.range l.T) (m.set t.toNat true)).2
    else ((f : Int) :: t :: (othersM rec l f t.toNat (List.range l.T) (m.set t.toNat true)).1, (othersM rec l f t.toNat (List.range l.T) (m.set t.toNat true)).2)
def wayM (l : Led) : Nat → Nat → List Bool → List Int × List Bool
  | 0, _, m => ([], m)
  | k + 1, f, m => tosM (wayM l k) l f (tosOf l f) m
def findM (l : Led) (f : Nat) : List Int := (wayM l 9 f (List.replicate 8 false)).1
def MSub (m m' : List Bool) : Prop := ∀ c, c < 8 → nth m c = true → nth m' c = true
def unm (m : List Bool) : Nat := ((List.range 8).filter fun c => !nth m c).length
theorem MSub.refl (m : List Bool) : MSub m m := fun _ _ h => h
theorem MSub.trans {a b c : List Bool} (h : MSub a b) (h' : MSub b c) : MSub a c := fun i hi hx => h' i hi (h i hi hx)
theorem unm_le {m m' : List Bool} (h : MSub m m') : unm m' ≤ unm m := by
  unfold unm
  have : ∀ l : List Nat, (∀ c ∈ l, c < 8) → (l.filter fun c => !nth m' c).length ≤ (l.filter fun c => !nth m c).length := by
    intro l
    induction l with
    | nil => intro _; exact Nat.le_refl _
    | cons x l ih =>
      intro hl
      have ih := ih fun c hc => hl c (List.mem_cons_of_mem _ hc)
      have hx := h x (hl x List.mem_cons_self)
      cases h1 : nth m x with
      | true =>
        rw [List.filter_cons_of_neg (by rw [hx h1]; decide), List.filter_cons_of_neg (by rw [h1]; decide)]; exact ih
      | false => cases h2 : nth m' x <;> simp [h1, h2] <;> omega
  exact this _ fun c hc => List.mem_range.1 hc
theorem nth_set_bool {l : List Bool} {i : Nat} (v : Bool) (j : Nat) : nth (l.set i v) j = if i = j ∧ i < l.length then v else nth l j := by
  unfold nth
  rw [List.getD_eq_getElem?_getD, List.getD_eq_getElem?_getD, List.getElem?_set]
  by_cases e : i = j
  · subst e
    by_cases h : i < l.length
    · rw [if_pos rfl, if_pos h, if_pos ⟨rfl, h⟩]; rfl
    · rw [if_pos rfl, if_neg h, if_neg (fun x => h x.2), List.getElem?_eq_none (by omega)]
  · rw [if_neg e, if_neg (fun x => e x.1)]
theorem set_sub {m : List Bool} (hm : m.length = 8) {t : Nat} (ht : t < 8) : MSub m (m.set t true) ∧ nth (m.set t true) t = true := by
  refine ⟨fun c _ hx => ?_, ?_⟩
  · rw [nth_set_bool]; split
    · rfl
    · exact hx
  · rw [nth_set_bool, if_pos ⟨rfl, by omega⟩]
theorem unm_lt {m : List Bool} (hm : m.length = 8) {t : Nat} (ht : t < 8) (hf : nth m t = false) : unm (m.set t true) < unm m := by
  unfold unm
  refine filter_less (a := t) (fun c hc hx => ?_) (List.mem_range.2 ht) (by rw [hf]; rfl) (by rw [(set_sub hm ht).2]; rfl)
  have h1 := (set_sub hm ht).1 c (List.mem_range.1 hc)
  cases h2 : nth m c with
  | false => rfl
  | true => rw [h1 h2] at hx; cases hx
theorem unm_start : unm (List.replicate 8 false) = 8 := by decide
def TosIn (l : Led) (o : Nat) (m : List Bool) : Prop := ∀ t ∈ tosOf l o, l.add t.toNat < 0 → nth m t.toNat = true
theorem TosIn.mono {l : Led} {o : Nat} {m m' : List Bool} (h : TosIn l o m) (hs : MSub m m') : TosIn l o m' := fun t ht ha => by
  obtain ⟨i, hi, _, e⟩ := mem_members.1 ht
  exact hs _ (by omega) (h t ht ha)
inductive Way (l : Led) : List Bool → Nat → List Int → Prop
  | last {m : List Bool} {f : Nat} {t : Int} : t ∈ tosOf l f → l.add t.toNat < 0 → nth m t.toNat = false → 0 < leftM l t.toNat → Way l m f [(f : Int), t]
  | step {m m' : List Bool} {f o : Nat} {t : Int} {r : List Int} : t ∈ tosOf l f → l.add t.toNat < 0 → nth m t.toNat = false → o ≠ f → o < l.T → l.P o t.toNat ≠ 0 → MSub m m' → nth m' t.toNat = true → Way l m' o r → Way l m f ((f : Int) :: t :: r)
structure OSpec (l : Led) (f t : Nat) (L : List Nat) (m : List Bool) (x : List Int × List Bool) : Prop where
  len : x.2.length = 8
  sub : MSub m x.2
  yes : x.1 ≠ [] → ∃ o ∈ L, o ≠ f ∧ l.P o t ≠ 0 ∧ ∃ m', MSub m m' ∧ Way l m' o x.1
  no : x.1 = [] → (∀ o ∈ L, o ≠ f → l.P o t ≠ 0 → TosIn l o x.2) ∧ ∀ c, c < 8 → nth m c = false → nth x.2 c = true → leftM l c ≤ 0 ∧ ∀ o, o < l.T → l.P o c ≠ 0 → TosIn l o x.2
structure WSpec (l : Led) (m : List Bool) (f : Nat) (x : List Int × List Bool) : Prop where
  len : x.2.length = 8
  sub : MSub m x.2
  yes : x.1 ≠ [] → Way l m f x.1
  no : x.1 = [] → TosIn l f x.2 ∧ ∀ c, c < 8 → nth m c = false → nth x.2 c = true → leftM l c ≤ 0 ∧ ∀ o, o < l.T → l.P o c ≠ 0 → TosIn l o x.2
theorem others_spec {l : Led} {k f t : Nat} {rec : Nat → List Bool → List Int × List Bool} (hrec : ∀ o m, m.length = 8 → unm m < k → WSpec l m o (rec o m)) : ∀ (L : List Nat) (m : List Bool), m.length = 8 → unm m < k → OSpec l f t L m (othersM rec l f t L m)
  | [], m, hm, _ => ⟨hm, MSub.refl m, fun h => absurd rfl h, fun _ => ⟨fun o ho => (by cases ho), fun c _ h1 h2 => by rw [show (othersM rec l f t [] m).2 = m from rfl, h1] at h2; cases h2⟩⟩
  | o :: r, m, hm, hk => by
    rw [othersM]
    by_cases hc : (decide (o = f) || decide (l.P o t = 0)) = true
    · rw [if_pos hc]
      have ih := others_spec hrec (f := f) (t := t) r m hm hk
      refine ⟨ih.len, ih.sub, fun h => let ⟨q, hq, hx⟩ := ih.yes h; ⟨q, List.mem_cons_of_mem _ hq, hx⟩, fun h => ⟨fun q hq h1 h2 => ?_, (ih.no h).2⟩⟩
      rcases List.mem_cons.1 hq with rfl | hq
      · simp only [Bool.or_eq_true, decide_eq_true_eq] at hc
        rcases hc with hc | hc
        · exact absurd hc h1
        · exact absurd hc h2
      · exact (ih.no h).1 q hq h1 h2
    · rw [if_neg hc]
      have hw := hrec o m hm hk
      simp only [Bool.or_eq_true, decide_eq_true_eq, not_or] at hc
      by_cases he : (rec o m).1 = []
      · rw [if_pos he]
        have ih := others_spec hrec (f := f) (t := t) r (rec o m).2 hw.len (Nat.lt_of_le_of_lt (unm_le hw.sub) hk)
        obtain ⟨w1, w2⟩ := hw.no he
        refine ⟨ih.len, hw.sub.trans ih.sub, fun h => let ⟨q, hq, h1, h2, m', h3, h4⟩ := ih.yes h; ⟨q, List.mem_cons_of_mem _ hq, h1, h2, m', hw.sub.trans h3, h4⟩, fun h => ⟨fun q hq h1 h2 => ?_, fun c hc8 h1 h2 => ?_⟩⟩
        · rcases List.mem_cons.1 hq with rfl | hq
          · exact w1.mono ih.sub
          · exact (ih.no h).1 q hq h1 h2
        · cases hx : nth (rec o m).2 c with
          | false => exact (ih.no h).2 c hc8 hx h2
          | true =>
            obtain ⟨a1, a2⟩ := w2 c hc8 h1 hx
            exact ⟨a1, fun q hq hp => (a2 q hq hp).mono ih.sub⟩
      · rw [if_neg he]
        exact ⟨hw.len, hw.sub, fun _ => ⟨o, List.mem_cons_self, hc.1, hc.2, m, MSub.refl m, hw.yes he⟩, fun h => absurd h he⟩
structure TSpec (l : Led) (f : Nat) (L : List Int) (m : List Bool) (x : List Int × List Bool) : Prop where
  len : x.2.length = 8
  sub : MSub m x.2
  yes : x.1 ≠ [] → Way l m f x.1
  no : x.1 = [] → (∀ t ∈ L, l.add t.toNat < 0 → nth x.2 t.toNat = true) ∧ ∀ c, c < 8 → nth m c = false → nth x.2 c = true → leftM l c ≤ 0 ∧ ∀ o, o < l.T → l.P o c ≠ 0 → o = f ∨ TosIn l o x.2
theorem Way.weaken {l : Led} {m m' : List Bool} {f : Nat} {p : List Int} (hs : MSub m m') (h : Way l m' f p) : Way l m f p := by
  have fls : ∀ {t : Int}, t ∈ tosOf l f → nth m' t.toNat = false → nth m t.toNat = false := fun ht hx => by
    obtain ⟨i, hi, _, e⟩ := mem_members.1 ht
    cases hm : nth m _ with
    | false => rfl
    | true => rw [hs _ (by omega) hm] at hx; cases hx
  cases h with
  | last h1 h2 h3 h4 => exact .last h1 h2 (fls h1 h3) h4
  | step h1 h2 h3 h4 h5 h6 h7 h8 h9 => exact .step h1 h2 (fls h1 h3) h4 h5 h6 (hs.trans h7) h8 h9
theorem tos_spec {l : Led} {k f : Nat} {rec : Nat → List Bool → List Int × List Bool} (hrec : ∀ o m, m.length = 8 → unm m < k → WSpec l m o (rec o m)) : ∀ (L : List Int) (m : List Bool), (∀ t ∈ L, t ∈ tosOf l f) → m.length = 8 → unm m < k + 1 → TSpec l f L m (tosM rec l f L m)
  | [], m, _, hm, _ => ⟨hm, MSub.refl m, fun h => absurd rfl h, fun _ => ⟨fun t ht => (by cases ht), fun c _ h1 h2 => by rw [show (tosM rec l f [] m).2 = m from rfl, h1] at h2; cases h2⟩⟩
  | t :: r, m, hL, hm, hk => by
    have htm := hL t List.mem_cons_self
    have hLr : ∀ t ∈ r, t ∈ tosOf l f := fun q hq => hL q (List.mem_cons_of_mem _ hq)
    obtain ⟨i, hi, _, ei⟩ := mem_members.1 htm
    have ht8 : t.toNat < 8 := by omega
    rw [tosM]
    by_cases hc : (decide (0 ≤ l.add t.toNat) || nth m t.toNat) = true
    · rw [if_pos hc]
      have ih := tos_spec hrec r m hLr hm hk
      refine ⟨ih.len, ih.sub, ih.yes, fun h => ⟨fun q hq ha => ?_, (ih.no h).2⟩⟩
      rcases List.mem_cons.1 hq with rfl | hq
      · simp only [Bool.or_eq_true, decide_eq_true_eq] at hc
        rcases hc with hc | hc
        · omega
        · exact ih.sub _ ht8 hc
      · exact (ih.no h).1 q hq ha
    · rw [if_neg hc]
      simp only [Bool.or_eq_true, decide_eq_true_eq, not_or, Bool.not_eq_true] at hc
      obtain ⟨hc1, hc2⟩ := hc
      have hss := set_sub hm ht8
      have hlt := unm_lt hm ht8 hc2
      by_cases hl : 0 < leftM l t.toNat
      · rw [if_pos hl]
        exact ⟨by simp [hm], hss.1, fun _ => .last htm (by omega) hc2 hl, fun h => by cases h⟩
      · rw [if_neg hl]
        have ho := others_spec (f := f) (t := t.toNat) hrec (List.range l.T) (m.set t.toNat true) (by simp [hm]) (by omega)
        by_cases he : (othersM rec l f t.toNat (List.range l.T) (m.set t.toNat true)).1 = []
        · rw [if_pos he]
          have hsub := hss.1.trans ho.sub
          have ih := tos_spec hrec r (othersM rec l f t.toNat (List.range l.T) (m.set t.toNat true)).2 hLr ho.len (Nat.lt_of_le_of_lt (unm_le hsub) hk)
          obtain ⟨o1, o2⟩ := ho.no he
          refine ⟨ih.len, hsub.trans ih.sub, fun h => (ih.yes h).weaken hsub, fun h => ⟨fun q hq ha => ?_, fun c hc8 h1 h2 => ?_⟩⟩
          · rcases List.mem_cons.1 hq with rfl | hq
            · exact ih.sub _ ht8 (ho.sub _ ht8 hss.2)
            · exact (ih.no h).1 q hq ha
          · by_cases hct : c = t.toNat
            · subst hct
              refine ⟨by omega, fun o hoT hp => ?_⟩
              by_cases hof : o = f
              · exact .inl hof
              · exact .inr ((o1 o (List.mem_range.2 hoT) hof hp).mono ih.sub)
            · cases hx : nth (othersM rec l f t.toNat (List.range l.T) (m.set t.toNat true)).2 c with
              | false => exact (ih.no h).2 c hc8 hx h2
              | true =>
                have hs : nth (m.set t.toNat true) c = false := by rw [nth_set_bool, if_neg (fun e => hct e.1.symm)]; exact h1
                obtain ⟨a1, a2⟩ := o2 c hc8 hs hx
                exact ⟨a1, fun o ho hp => .inr ((a2 o ho hp).mono ih.sub)⟩
        · rw [if_neg he]
          obtain ⟨o, hoL, h1, h2, m', h3, h4⟩ := ho.yes he
          exact ⟨ho.len, hss.1.trans ho.sub, fun _ => .step htm (by omega) hc2 h1 (List.mem_range.1 hoL) h2 (hss.1.trans h3) (h3 _ ht8 hss.2) h4, fun h => by cases h⟩
theorem way_spec (l : Led) : ∀ (k f : Nat) (m : List Bool), m.length = 8 → unm m < k → WSpec l m f (wayM l k f m)
  | 0, _, _, _, h => by omega
  | k + 1, f, m, hm, hk => by
    have h := tos_spec (f := f) (way_spec l k) (tosOf l f) m (fun _ h => h) hm hk
    rw [wayM]
    refine ⟨h.len, h.sub, h.yes, fun he => ?_⟩
    obtain ⟨h1, h2⟩ := h.no he
    refine ⟨h1, fun c hc h3 h4 => ?_⟩
    obtain ⟨a1, a2⟩ := h2 c hc h3 h4
    refine ⟨a1, fun o ho hp => ?_⟩
    rcases a2 o ho hp with rfl | a
    · exact h1
    · exact a
theorem find_way {l : Led} {f : Nat} (h : findM l f ≠ []) : Way l (List.replicate 8 false) f (findM l f) :=
  (way_spec l 9 f _ (by simp) (by rw [unm_start]; omega)).yes h
def Closed (l : Led) (X : Nat → Prop) : Prop := ∀ x, X x → ∀ t ∈ tosOf l x, l.add t.toNat < 0 → leftM l t.toNat ≤ 0 ∧ ∀ o, o < l.T → l.P o t.toNat ≠ 0 → X o
theorem find_none {l : Led} {f : Nat} (h : findM l f = []) : ∃ X, Closed l X ∧ X f := by
  have hs := (way_spec l 9 f (List.replicate 8 false) (by simp) (by rw [unm_start]; omega)).no h
  refine ⟨fun x => TosIn l x (wayM l 9 f (List.replicate 8 false)).2, fun x hx t ht ha => ?_, hs.1⟩
  obtain ⟨i, hi, _, e⟩ := mem_members.1 ht
  have h8 : t.toNat < 8 := by omega
  have hf : nth (List.replicate 8 false) t.toNat = false := by rw [nth_lt (by simpa using h8)]; exact List.getElem_replicate _
  exact hs.2 t.toNat h8 hf (hx t ht ha)
end Go.Proofs.YtifgbnbkimcchaaGreat

namespace Go.Proofs.YtifgbnbkimcchaaGreat
open Go Go.T
def wF (p : List Int) (j : Nat) : Nat := (nth p (2 * j)).toNat
def wT (p : List Int) (j : Nat) : Nat := (nth p (2 * j + 1)).toNat
structure WayF (l : Led) (f : Nat) (p : List Int) (K : Nat) : Prop where
  len : p.length = 2 * K
  one : 1 ≤ K
  first : wF p 0 = f
  nat : ∀ j, j < K → nth p (2 * j) = (wF p j : Int)
  tos : ∀ j, j < K → nth p (2 * j + 1) ∈ tosOf l (wF p j) ∧ l.add (wT p j) < 0
  step : ∀ j, j + 1 < K → wF p (j + 1) < l.T ∧ l.P (wF p (j + 1)) (wT p j) ≠ 0 ∧ wF p (j + 1) ≠ wF p j
  last : 0 < leftM l (wT p (K - 1))
  dist : ∀ i j, i < j → j < K → wT p i ≠ wT p j
theorem way_facts {l : Led} {m : List Bool} {f : Nat} {p : List Int} (h : Way l m f p) : ∃ K, WayF l f p K ∧ ∀ j, j < K → nth m (wT p j) = false := by
  induction h with
  | @last m f t h1 h2 h3 h4 =>
    refine ⟨1, ⟨rfl, Nat.le_refl _, Int.toNat_natCast _, fun j hj => ?_, fun j hj => ?_, fun j hj => by omega, h4, fun i j hi hj => by omega⟩, fun j hj => ?_⟩
    · obtain rfl : j = 0 := by omega
      show (f : Int) = ((f : Int).toNat : Int); omega
    · obtain rfl : j = 0 := by omega
      exact ⟨h1, h2⟩
    · obtain rfl : j = 0 := by omega
      exact h3
  | @step m m' f o t r h1 h2 h3 h4 h5 h6 h7 h8 _ ih =>
    obtain ⟨K, hw, hm⟩ := ih
    obtain ⟨i, hi, _, ei⟩ := mem_members.1 h1
    have ht8 : t.toNat < 8 := by omega
    have hT8 : ∀ j, j < K → wT r j < 8 := fun j hj => by
      obtain ⟨q, hq, _, e⟩ := mem_members.1 (hw.tos j hj).1
      unfold wT; omega
    refine ⟨K + 1, ⟨by simp [hw.len]; omega, by omega, Int.toNat_natCast _, fun j hj => ?_, fun j hj => ?_, fun j hj => ?_, ?_, fun i j hij hj => ?_⟩, fun j hj => ?_⟩
    · cases j with
      | zero => show (f : Int) = ((f : Int).toNat : Int); omega
      | succ j => exact hw.nat j (by omega)
    · cases j with
      | zero => exact ⟨h1, h2⟩
      | succ j => exact hw.tos j (by omega)
    · cases j with
      | zero =>
        have e : wF ((f : Int) :: t :: r) 1 = o := hw.first
        have e0 : wF ((f : Int) :: t :: r) 0 = f := Int.toNat_natCast _
        show wF ((f : Int) :: t :: r) 1 < l.T ∧ l.P (wF ((f : Int) :: t :: r) 1) t.toNat ≠ 0 ∧ wF ((f : Int) :: t :: r) 1 ≠ wF ((f : Int) :: t :: r) 0
        rw [e, e0]; exact ⟨h5, h6, h4⟩
      | succ j => exact hw.step j (by omega)
    · have := hw.last
      have h1 := hw.one
      obtain ⟨q, rfl⟩ : ∃ q, K = q + 1 := ⟨K - 1, by omega⟩
      exact this
    · cases j with
      | zero => omega
      | succ j =>
        cases i with
        | zero =>
          intro e
          have hx := hm j (by omega)
          have e' : t.toNat = wT r j := e
          rw [← e', h8] at hx; cases hx
        | succ i => exact hw.dist i j (by omega) (by omega)
    · cases j with
      | zero => exact h3
      | succ j =>
        have hx := hm j (by omega)
        show nth m (wT r j) = false
        cases hc : nth m (wT r j) with
        | false => rfl
        | true => rw [h7 _ (hT8 j (by omega)) hc] at hx; cases hx
def addP (l : Led) (o t : Nat) (m : Int) : Led := { l with paid := l.paid.set (o * 8 + t) (l.P o t + m) }
theorem P_addP {l : Led} (hl : l.paid.length = 64) {o t o' t' : Nat} (ho : o < 8) (ht : t < 8) (ht' : t' < 8) (m : Int) : (addP l o t m).P o' t' = l.P o' t' + if o = o' ∧ t = t' then m else 0 := by
  unfold addP Led.P
  show nth (l.paid.set _ _) _ = _
  rw [nth_set_int]
  by_cases e : o = o' ∧ t = t'
  · obtain ⟨rfl, rfl⟩ := e
    rw [if_pos ⟨rfl, by omega⟩, if_pos ⟨rfl, rfl⟩]
  · rw [if_neg (fun x => e (by omega)), if_neg e, Int.add_zero]
def augUp (l : Led) (p : List Int) (m : Int) : Nat → Led
  | 0 => l
  | k + 1 => if 0 < k then addP (addP (augUp l p m k) (wF p k) (wT p k) m) (wF p k) (wT p (k - 1)) (-m) else addP (augUp l p m k) (wF p k) (wT p k) m
theorem aug_same (l : Led) (p : List Int) (m : Int) : ∀ k, (augUp l p m k).w = l.w ∧ (augUp l p m k).bay = l.bay ∧ (augUp l p m k).paid.length = l.paid.length
  | 0 => ⟨rfl, rfl, rfl⟩
  | k + 1 => by
    obtain ⟨h1, h2, h3⟩ := aug_same l p m k
    rw [augUp]
    split
    · exact ⟨h1, h2, by show (List.set (List.set _ _ _) _ _).length = _; rw [List.length_set, List.length_set, h3]⟩
    · exact ⟨h1, h2, by show (List.set _ _ _).length = _; rw [List.length_set, h3]⟩
def ups (p : List Int) (m : Int) (o t j : Nat) : Int := if wF p j = o ∧ wT p j = t then m else 0
def downs (p : List Int) (m : Int) (o t j : Nat) : Int := if 0 < j ∧ wF p j = o ∧ wT p (j - 1) = t then m else 0
theorem aug_P {l : Led} (hl : l.paid.length = 64) {p : List Int} {K : Nat} (hF : ∀ j, j < K → wF p j < 8) (hT : ∀ j, j < K → wT p j < 8) (m : Int) {o t : Nat} (ht : t < 8) : ∀ k, k ≤ K → (augUp l p m k).P o t = l.P o t + sm k (ups p m o t) - sm k (downs p m o t)
  | 0, _ => by rw [sm_zero, sm_zero]; show l.P o t = _; omega
  | k + 1, hk => by
    have ih := aug_P hl hF hT m (o := o) ht k (by omega)
    have hlk : (augUp l p m k).paid.length = 64 := (aug_same l p m k).2.2.trans hl
    have hlk2 : (addP (augUp l p m k) (wF p k) (wT p k) m).paid.length = 64 := by show (List.set _ _ _).length = 64; rw [List.length_set]; exact hlk
    rw [augUp, sm_succ, sm_succ]
    split
    · rename_i h0
      rw [P_addP hlk2 (hF k (by omega)) (hT (k - 1) (by omega)) ht, P_addP hlk (hF k (by omega)) (hT k (by omega)) ht, ih]
      unfold ups downs
      have e : (0 < k ∧ wF p k = o ∧ wT p (k - 1) = t) ↔ (wF p k = o ∧ wT p (k - 1) = t) := ⟨fun h => h.2, fun h => ⟨h0, h⟩⟩
      by_cases c1 : wF p k = o ∧ wT p k = t
      · by_cases c2 : wF p k = o ∧ wT p (k - 1) = t
        · rw [if_pos c1, if_pos c2, if_pos (e.2 c2)]; omega
        · rw [if_pos c1, if_neg c2, if_neg (fun x => c2 (e.1 x))]; omega
      · by_cases c2 : wF p k = o ∧ wT p (k - 1) = t
        · rw [if_neg c1, if_pos c2, if_pos (e.2 c2)]; omega
        · rw [if_neg c1, if_neg c2, if_neg (fun x => c2 (e.1 x))]; omega
    · rename_i h0
      rw [P_addP hlk (hF k (by omega)) (hT k (by omega)) ht, ih]
      unfold ups downs
      rw [if_neg (c := 0 < k ∧ _) (fun x => h0 x.1)]; omega
theorem sm_ups_col {p : List Int} {K : Nat} (hF : ∀ j, j < K → wF p j < 8) (m : Int) (t : Nat) {j : Nat} (hj : j < K) : sm 8 (fun o => ups p m o t j) = if wT p j = t then m else 0 := by
  by_cases e : wT p j = t
  · rw [if_pos e]
    refine (sm_congr 8 fun o _ => ?_).trans (sm_one m (hF j hj))
    unfold ups
    by_cases c : wF p j = o
    · rw [if_pos ⟨c, e⟩, if_pos c]
    · rw [if_neg (fun x => c x.1), if_neg c]
  · rw [if_neg e]
    exact sm_none 8 fun o _ => if_neg fun x => e x.2
theorem sm_downs_col {p : List Int} {K : Nat} (hF : ∀ j, j < K → wF p j < 8) (m : Int) (t : Nat) {j : Nat} (hj : j < K) : sm 8 (fun o => downs p m o t j) = if 0 < j ∧ wT p (j - 1) = t then m else 0 := by
  by_cases e : 0 < j ∧ wT p (j - 1) = t
  · rw [if_pos e]
    refine (sm_congr 8 fun o _ => ?_).trans (sm_one m (hF j hj))
    unfold downs
    by_cases c : wF p j = o
    · rw [if_pos ⟨e.1, c, e.2⟩, if_pos c]
    · rw [if_neg (fun x => c x.2.1), if_neg c]
  · rw [if_neg e]
    exact sm_none 8 fun o _ => if_neg fun x => e ⟨x.1, x.2.2⟩
theorem sm_ups_row {p : List Int} {K : Nat} (hT : ∀ j, j < K → wT p j < 8) (m : Int) (o : Nat) {j : Nat} (hj : j < K) : sm 8 (fun t => ups p m o t j) = if wF p j = o then m else 0 := by
  by_cases e : wF p j = o
  · rw [if_pos e]
    refine (sm_congr 8 fun t _ => ?_).trans (sm_one m (hT j hj))
    unfold ups
    by_cases c : wT p j = t
    · rw [if_pos ⟨e, c⟩, if_pos c]
    · rw [if_neg (fun x => c x.2), if_neg c]
  · rw [if_neg e]
    exact sm_none 8 fun t _ => if_neg fun x => e x.1
theorem sm_downs_row {p : List Int} {K : Nat} (hT : ∀ j, j < K → wT p j < 8) (m : Int) (o : Nat) {j : Nat} (hj : j < K) : sm 8 (fun t => downs p m o t j) = if 0 < j ∧ wF p j = o then m else 0 := by
  by_cases e : 0 < j ∧ wF p j = o
  · rw [if_pos e]
    refine (sm_congr 8 fun t _ => ?_).trans (sm_one m (hT (j - 1) (by omega)))
    unfold downs
    by_cases c : wT p (j - 1) = t
    · rw [if_pos ⟨e.1, e.2, c⟩, if_pos c]
    · rw [if_neg (fun x => c x.2.2), if_neg c]
  · rw [if_neg e]
    exact sm_none 8 fun t _ => if_neg fun x => e ⟨x.1, x.2.1⟩
theorem sm_shift (g : Nat → Int) (h : Nat → Int) (hg : g 0 = 0) (e : ∀ j, g (j + 1) = h j) : ∀ k, sm (k + 1) g = sm k h
  | 0 => by rw [sm_succ, sm_zero, sm_zero, hg]; rfl
  | k + 1 => by rw [sm_succ, sm_shift g h hg e k, sm_succ, e]
theorem sm_first (g : Nat → Int) (h : Nat → Int) (hg : g 0 = 0) (e : ∀ j, 0 < j → g j = h j) : ∀ k, 0 < k → sm k g = sm k h - h 0
  | 1, _ => by rw [sm_succ, sm_zero, sm_succ, sm_zero, hg]; omega
  | k + 2, _ => by rw [sm_succ, sm_first g h hg e (k + 1) (by omega), sm_succ (k + 1) h, e (k + 1) (by omega)]; omega
section
variable {l : Led} (hl : l.paid.length = 64) {p : List Int} {K : Nat} (hF : ∀ j, j < K → wF p j < 8) (hT : ∀ j, j < K → wT p j < 8) (m : Int) (hK : 1 ≤ K)
include hl hF hT hK
theorem aug_col {t : Nat} (ht : t < 8) : sm 8 (fun o => (augUp l p m K).P o t) = sm 8 (fun o => l.P o t) + if wT p (K - 1) = t then m else 0 := by
  have e : sm 8 (fun o => (augUp l p m K).P o t) = sm 8 fun o => l.P o t + sm K (ups p m o t) - sm K (downs p m o t) := sm_congr 8 fun o _ => aug_P hl hF hT m ht K (Nat.le_refl _)
  rw [e, sm_sub, sm_add]
  have e1 : sm 8 (fun o => sm K (ups p m o t)) = sm K fun j => if wT p j = t then m else 0 := by
    rw [sm_swap (fun o j => ups p m o t j)]
    exact sm_congr K fun j hj => sm_ups_col hF m t hj
  have e2 : sm 8 (fun o => sm K (downs p m o t)) = sm K fun j => if 0 < j ∧ wT p (j - 1) = t then m else 0 := by
    rw [sm_swap (fun o j => downs p m o t j)]
    exact sm_congr K fun j hj => sm_downs_col hF m t hj
  rw [e1, e2]
  obtain ⟨k, rfl⟩ : ∃ k, K = k + 1 := ⟨K - 1, by omega⟩
  rw [sm_shift (fun j => if 0 < j ∧ wT p (j - 1) = t then m else 0) (fun j => if wT p j = t then m else 0) (if_neg fun x => by omega) (fun j => by
    by_cases c : wT p j = t
    · rw [if_pos c, if_pos ⟨by omega, c⟩]
    · rw [if_neg c, if_neg fun x => c x.2]) k, sm_succ k (fun j => if wT p j = t then m else 0)]
  show _ = _ + if wT p k = t then m else 0
  omega
theorem aug_row (o : Nat) : sm 8 (fun t => (augUp l p m K).P o t) = sm 8 (fun t => l.P o t) + if wF p 0 = o then m else 0 := by
  have e : sm 8 (fun t => (augUp l p m K).P o t) = sm 8 fun t => l.P o t + sm K (ups p m o t) - sm K (downs p m o t) := sm_congr 8 fun t ht => aug_P hl hF hT m ht K (Nat.le_refl _)
  rw [e, sm_sub, sm_add]
  have e1 : sm 8 (fun t => sm K (ups p m o t)) = sm K fun j => if wF p j = o then m else 0 := by
    rw [sm_swap (fun t j => ups p m o t j)]
    exact sm_congr K fun j hj => sm_ups_row hT m o hj
  have e2 : sm 8 (fun t => sm K (downs p m o t)) = sm K fun j => if 0 < j ∧ wF p j = o then m else 0 := by
    rw [sm_swap (fun t j => downs p m o t j)]
    exact sm_congr K fun j hj => sm_downs_row hT m o hj
  rw [e1, e2, sm_first (fun j => if 0 < j ∧ wF p j = o then m else 0) (fun j => if wF p j = o then m else 0) (if_neg fun x => by omega) (fun j hj => by
    by_cases c : wF p j = o
    · rw [if_pos c, if_pos ⟨hj, c⟩]
    · rw [if_neg c, if_neg fun x => c x.2]) K (by omega)]
  have e3 : sm 8 (l.P o) = sm 8 fun t => l.P o t := rfl
  rw [e3]
  omega
end
structure LInv (f : Flr) (bay : Nat) (l : Led) : Prop where
  w : l.w = boardsOf f
  bay : l.bay = bay
  len : l.paid.length = 64
  nn : ∀ o t, o < 8 → t < 8 → 0 ≤ l.P o t
  pos : ∀ o t, o < 8 → t < 8 → 0 < l.P o t → (o < l.T ∧ (t : Int) ∈ tosOf l o) ∧ 0 < l.add o ∧ l.add t < 0
  col : ∀ t, t < 8 → sm 8 (fun o => l.P o t) ≤ max 0 (-(l.add t))
  row : ∀ o, o < 8 → sm 8 (fun t => l.P o t) ≤ max 0 (l.add o)
def muchUp (l : Led) (p : List Int) (n : Int) (K : Nat) : Nat → Int
  | 0 => min n (leftM l (wT p (K - 1)))
  | k + 1 => min (muchUp l p n K k) (l.P (wF p (k + 1)) (wT p k))
def muchM (l : Led) (p : List Int) (n : Int) : Int := muchUp l p n (p.length / 2) (p.length / 2 - 1)
theorem muchUp_le (l : Led) (p : List Int) (n : Int) (K : Nat) : ∀ k, muchUp l p n K k ≤ n ∧ muchUp l p n K k ≤ leftM l (wT p (K - 1)) ∧ ∀ j, j < k → muchUp l p n K k ≤ l.P (wF p (j + 1)) (wT p j)
  | 0 => ⟨by simp only [muchUp]; omega, by simp only [muchUp]; omega, fun j hj => by omega⟩
  | k + 1 => by
    obtain ⟨h1, h2, h3⟩ := muchUp_le l p n K k
    simp only [muchUp]
    refine ⟨by omega, by omega, fun j hj => ?_⟩
    rcases Nat.lt_or_ge j k with hx | hx
    · have := h3 j hx; omega
    · rw [show j = k by omega]; omega
theorem muchUp_pos {l : Led} {p : List Int} {n : Int} {K : Nat} (hn : 1 ≤ n) (hl : 1 ≤ leftM l (wT p (K - 1))) : ∀ k, (∀ j, j < k → 1 ≤ l.P (wF p (j + 1)) (wT p j)) → 1 ≤ muchUp l p n K k
  | 0, _ => by simp only [muchUp]; omega
  | k + 1, h => by
    have h1 := muchUp_pos hn hl k fun j hj => h j (by omega)
    have h2 := h k (by omega)
    simp only [muchUp]; omega
structure Aug (f : Flr) (bay : Nat) (l : Led) (u : Nat) (n : Int) (l' : Led) (m : Int) : Prop where
  inv : LInv f bay l'
  one : 1 ≤ m
  le : m ≤ n
  row : ∀ o, sm 8 (fun t => l'.P o t) = sm 8 (fun t => l.P o t) + if u = o then m else 0
  closed : ∀ X, Closed l X → Closed l' X
theorem tos_lt {l : Led} {o : Nat} {t : Int} (h : t ∈ tosOf l o) : t.toNat < 8 ∧ t = (t.toNat : Int) := by
  obtain ⟨i, hi, _, e⟩ := mem_members.1 h; omega
theorem aug_inv {f : Flr} (h : checkP f = 0) {bay : Nat} {l : Led} (hi : LInv f bay l) {u : Nat} (hu : u < l.T) {n : Int} (hn : 1 ≤ n) (hnr : n + sm 8 (fun t => l.P u t) ≤ l.add u) {p : List Int} {K : Nat} (hw : WayF l u p K) : Aug f bay l u n (augUp l p (muchM l p n) K) (muchM l p n) := by
  have hT8 : l.T ≤ 8 := by unfold Led.T; rw [hi.w, boardsOf_f]; exact nt8 h
  have hKp : p.length / 2 = K := by rw [hw.len]; omega
  have hFT : ∀ j, j < K → wF p j < l.T := fun j hj => by
    cases j with
    | zero => rw [hw.first]; exact hu
    | succ j => exact (hw.step j hj).1
  have hF : ∀ j, j < K → wF p j < 8 := fun j hj => by have := hFT j hj; omega
  have hT : ∀ j, j < K → wT p j < 8 := fun j hj => (tos_lt (hw.tos j hj).1).1
  have hK := hw.one
  have hP : ∀ j, j + 1 < K → 1 ≤ l.P (wF p (j + 1)) (wT p j) := fun j hj => by
    have h1 := hi.nn _ _ (hF (j + 1) hj) (hT j (by omega))
    have h2 := (hw.step j hj).2.1
    omega
  obtain ⟨m, hm⟩ : ∃ m, m = muchM l p n := ⟨_, rfl⟩
  have hm' : m = muchUp l p n K (K - 1) := by rw [hm, muchM, hKp]
  obtain ⟨m1, m2, m3⟩ := muchUp_le l p n K (K - 1)
  have m4 := muchUp_pos (l := l) (p := p) (K := K) hn hw.last (K - 1) fun j hj => hP j (by omega)
  rw [← hm'] at m1 m2 m3 m4
  rw [← hm]
  have hsame := aug_same l p m K
  have hadd : ∀ t, (augUp l p m K).add t = l.add t := fun t => by unfold Led.add; rw [hsame.1, hsame.2.1]
  have htos : ∀ o, tosOf (augUp l p m K) o = tosOf l o := fun o => by unfold tosOf; rw [hsame.1]
  have hTT : (augUp l p m K).T = l.T := by unfold Led.T; rw [hsame.1]
  have hcol : ∀ t, t < 8 → sm 8 (fun o => (augUp l p m K).P o t) = sm 8 (fun o => l.P o t) + if wT p (K - 1) = t then m else 0 := fun t ht => aug_col hi.len hF hT m hK ht
  have hrow : ∀ o, sm 8 (fun t => (augUp l p m K).P o t) = sm 8 (fun t => l.P o t) + if u = o then m else 0 := fun o => by rw [aug_row hi.len hF hT m hK o, hw.first]
  have hups : ∀ o t, 0 ≤ sm K (ups p m o t) := fun o t => sm_nonneg K fun j _ => by unfold ups; split <;> omega
  have hdn0 : ∀ o t, (∀ j, j < K → 0 < j → ¬ (wF p j = o ∧ wT p (j - 1) = t)) → sm K (downs p m o t) = 0 := fun o t hx => sm_none K fun j hj => if_neg fun y => hx j hj y.1 y.2
  have hPn : ∀ o t, t < 8 → (augUp l p m K).P o t = l.P o t + sm K (ups p m o t) - sm K (downs p m o t) := fun o t ht => aug_P hi.len hF hT m ht K (Nat.le_refl _)
  have addF : ∀ j, j < K → 0 < l.add (wF p j) := fun j hj => by
    cases j with
    | zero =>
      rw [hw.first]
      have := sm_nonneg (g := fun t => l.P u t) 8 fun t ht => hi.nn u t (by omega) ht
      omega
    | succ j =>
      have h1 := hP j hj
      exact (hi.pos _ _ (hF _ hj) (hT j (by omega)) (by omega)).2.1
  refine ⟨⟨hsame.1.trans hi.w, hsame.2.1.trans hi.bay, hsame.2.2.trans hi.len, fun o t ho ht => ?_, fun o t ho ht hp => ?_, fun t ht => ?_, fun o ho => ?_⟩, m4, m1, hrow, fun X hX => ?_⟩
  · rw [hPn o t ht]
    have h0 := hi.nn o t ho ht
    have hu0 := hups o t
    by_cases hx : ∃ j, j < K ∧ 0 < j ∧ wF p j = o ∧ wT p (j - 1) = t
    · obtain ⟨j, hj, hj0, e1, e2⟩ := hx
      have hone : sm K (downs p m o t) = m := by
        refine (sm_congr K fun i hi' => ?_).trans (sm_one m hj)
        unfold downs
        by_cases c : j = i
        · subst c; rw [if_pos ⟨hj0, e1, e2⟩, if_pos rfl]
        · rw [if_neg c, if_neg]
          rintro ⟨hi0, _, hb⟩
          rcases Nat.lt_or_gt_of_ne c with hlt | hlt
          · exact hw.dist (j - 1) (i - 1) (by omega) (by omega) (by rw [e2, hb])
          · exact hw.dist (i - 1) (j - 1) (by omega) (by omega) (by rw [e2, hb])
      have := m3 (j - 1) (by omega)
      rw [show j - 1 + 1 = j by omega, e1, e2] at this
      omega
    · rw [hdn0 o t fun j hj hj0 hc => hx ⟨j, hj, hj0, hc⟩]; omega
  · rw [hTT, htos, hadd, hadd]
    by_cases h0 : 0 < l.P o t
    · exact hi.pos o t ho ht h0
    · by_cases hx : ∃ j, j < K ∧ wF p j = o ∧ wT p j = t
      · obtain ⟨j, hj, e1, e2⟩ := hx
        have htj := hw.tos j hj
        have e3 : nth p (2 * j + 1) = (t : Int) := by rw [(tos_lt htj.1).2]; unfold wT at e2; rw [e2]
        rw [e3, e1, e2] at htj
        exact ⟨⟨e1 ▸ hFT j hj, htj.1⟩, e1 ▸ addF j hj, htj.2⟩
      · have hz : sm K (ups p m o t) = 0 := sm_none K fun j hj => if_neg fun y => hx ⟨j, hj, y⟩
        have hd : 0 ≤ sm K (downs p m o t) := sm_nonneg K fun j _ => by unfold downs; split <;> omega
        rw [hPn o t ht, hz] at hp
        omega
  · rw [hcol t ht, hadd]
    have hc := hi.col t ht
    by_cases e : wT p (K - 1) = t
    · rw [if_pos e]
      have := m2
      rw [e] at this
      unfold leftM leftUp at this
      omega
    · rw [if_neg e]; omega
  · rw [hrow o, hadd]
    have hr := hi.row o ho
    by_cases e : u = o
    · subst e; rw [if_pos rfl]; omega
    · rw [if_neg e]; omega
  · -- ways keep off what is closed
    have off : ∀ d j, d + j + 1 = K → ¬ X (wF p j) := by
      intro d
      induction d with
      | zero =>
        intro j hj hx
        have := (hX _ hx _ (hw.tos j (by omega)).1 (hw.tos j (by omega)).2).1
        have hl := hw.last
        rw [show K - 1 = j by omega] at hl
        unfold wT at hl; omega
      | succ d ih =>
        intro j hj hx
        have := (hX _ hx _ (hw.tos j (by omega)).1 (hw.tos j (by omega)).2).2 (wF p (j + 1)) (hFT _ (by omega)) (hw.step j (by omega)).2.1
        exact ih (j + 1) (by omega) this
    have offF : ∀ j, j < K → ¬ X (wF p j) := fun j hj => off (K - 1 - j) j (by omega)
    intro x hx t ht ha
    rw [htos] at ht
    rw [hadd] at ha
    obtain ⟨c1, c2⟩ := hX x hx t ht ha
    have ht8 := (tos_lt ht).1
    have offT : ∀ j, j < K → wT p j ≠ t.toNat := fun j hj e => by
      by_cases hl : j + 1 < K
      · exact offF (j + 1) hl (c2 _ (hFT _ hl) (by rw [← e]; exact (hw.step j hl).2.1))
      · have := hw.last
        rw [show K - 1 = j by omega, e] at this
        omega
    have hsm : ∀ o, (augUp l p m K).P o t.toNat = l.P o t.toNat := fun o => by
      have hz : sm K (ups p m o t.toNat) = 0 := sm_none K fun j hj => if_neg fun y => offT j hj y.2
      rw [hPn o _ ht8, hdn0 o _ fun j hj hj0 hc => offT (j - 1) (by omega) hc.2, hz]; omega
    refine ⟨?_, fun o ho hp => c2 o (by rw [hTT] at ho; exact ho) (by rw [← hsm o]; exact hp)⟩
    unfold leftM leftUp
    rw [hadd, hcol _ ht8, if_neg (offT (K - 1) (by omega))]
    unfold leftM leftUp at c1
    omega
end Go.Proofs.YtifgbnbkimcchaaGreat

namespace Go.Proofs.YtifgbnbkimcchaaGreat
open Go Go.T
def payF (u : Nat) : Nat → Led → Int → Led
  | 0, l, _ => l
  | k + 1, l, n => if n ≤ 0 then l else if findM l u = [] then l else payF u k (augUp l (findM l u) (muchM l (findM l u) n) ((findM l u).length / 2)) (n - muchM l (findM l u) n)
def Led.row (l : Led) (o : Nat) : Int := sm 8 fun t => l.P o t
def Led.col (l : Led) (t : Nat) : Int := sm 8 fun o => l.P o t
theorem inv_add {f : Flr} {bay : Nat} {l : Led} (hi : LInv f bay l) (t : Nat) : l.add t = addB (boardsOf f) bay t := by unfold Led.add; rw [hi.w, hi.bay]
theorem inv_T {f : Flr} {bay : Nat} {l : Led} (hi : LInv f bay l) : l.T = f.turnings.length := by unfold Led.T; rw [hi.w, boardsOf_f]
structure PaidF (f : Flr) (bay u : Nat) (l l' : Led) : Prop where
  inv : LInv f bay l'
  row : ∀ o, o ≠ u → l'.row o = l.row o
  closed : ∀ X, Closed l X → Closed l' X
  done : 0 < addB (boardsOf f) bay u → l'.row u = addB (boardsOf f) bay u ∨ ∃ X, Closed l' X ∧ X u
theorem pay_spec {f : Flr} (h : checkP f = 0) {bay u : Nat} (hu : u < f.turnings.length) : ∀ (k : Nat) (l : Led) (n : Int), LInv f bay l → n ≤ (k : Int) → (0 < addB (boardsOf f) bay u → n + l.row u = addB (boardsOf f) bay u ∧ 0 ≤ n) → (addB (boardsOf f) bay u ≤ 0 → n ≤ 0) → PaidF f bay u l (payF u k l n)
  | 0, l, n, hi, hk, h1, h2 => ⟨hi, fun _ _ => rfl, fun _ hX => hX, fun hp => .inl (by have := h1 hp; show l.row u = _; omega)⟩
  | k + 1, l, n, hi, hk, h1, h2 => by
    rw [payF]
    by_cases hn : n ≤ 0
    · rw [if_pos hn]
      exact ⟨hi, fun _ _ => rfl, fun _ hX => hX, fun hp => .inl (by have := h1 hp; omega)⟩
    · rw [if_neg hn]
      by_cases he : findM l u = []
      · rw [if_pos he]
        exact ⟨hi, fun _ _ => rfl, fun _ hX => hX, fun _ => .inr (find_none he)⟩
      · rw [if_neg he]
        have hp : 0 < addB (boardsOf f) bay u := by
          rcases Int.lt_or_le 0 (addB (boardsOf f) bay u) with hx | hx
          · exact hx
          · exact absurd (h2 hx) hn
        obtain ⟨g1, g2⟩ := h1 hp
        obtain ⟨K, hw, _⟩ := way_facts (find_way he)
        have hK : (findM l u).length / 2 = K := by rw [hw.len]; omega
        have ha := aug_inv h hi (by rw [inv_T hi]; exact hu) (n := n) (by omega) (by rw [inv_add hi]; show n + l.row u ≤ _; omega) hw
        rw [← hK] at ha
        have hr : (augUp l (findM l u) (muchM l (findM l u) n) ((findM l u).length / 2)).row u = l.row u + muchM l (findM l u) n := by
          have := ha.row u
          rw [if_pos rfl] at this; exact this
        have ho := ha.one
        have hl := ha.le
        have ih := pay_spec h hu k _ (n - muchM l (findM l u) n) ha.inv (by omega) (fun _ => by rw [hr]; omega) (fun hx => by omega)
        refine ⟨ih.inv, fun o hne => (ih.row o hne).trans ?_, fun X hX => ih.closed X (ha.closed X hX), ih.done⟩
        have := ha.row o
        rw [if_neg (fun e => hne e.symm), Int.add_zero] at this
        exact this
def led0 (f : Flr) (bay : Nat) : Led := ⟨boardsOf f, bay, List.replicate 64 0⟩
def ledUp (f : Flr) (bay : Nat) : Nat → Led
  | 0 => led0 f bay
  | k + 1 => payF k (addB (boardsOf f) bay k).toNat (ledUp f bay k) (addB (boardsOf f) bay k)
theorem led0_P (f : Flr) (bay o t : Nat) : (led0 f bay).P o t = 0 := by
  unfold Led.P led0 nth
  rw [List.getD_eq_getElem?_getD, List.getElem?_replicate]
  split <;> rfl
theorem led0_inv (f : Flr) (bay : Nat) : LInv f bay (led0 f bay) := by
  refine ⟨rfl, rfl, by simp [led0], fun o t _ _ => by rw [led0_P]; exact Int.le_refl _, fun o t _ _ hp => by rw [led0_P] at hp; omega, fun t _ => ?_, fun o _ => ?_⟩
  · rw [sm_none 8 fun o _ => led0_P f bay o t]; omega
  · rw [sm_none 8 fun t _ => led0_P f bay o t]; omega
structure LedF (f : Flr) (bay k : Nat) (l : Led) : Prop where
  inv : LInv f bay l
  rest : ∀ o, k ≤ o → l.row o = 0
  done : ∀ o, o < k → 0 < addB (boardsOf f) bay o → l.row o = addB (boardsOf f) bay o ∨ ∃ X, Closed l X ∧ X o
theorem led_spec {f : Flr} (h : checkP f = 0) (bay : Nat) : ∀ k, k ≤ f.turnings.length → LedF f bay k (ledUp f bay k)
  | 0, _ => ⟨led0_inv f bay, fun o _ => sm_none 8 fun t _ => led0_P f bay o t, fun o ho => by omega⟩
  | k + 1, hk => by
    have ih := led_spec h bay k (by omega)
    have hr := ih.rest k (Nat.le_refl _)
    have hp := pay_spec h (bay := bay) (u := k) (by omega) (addB (boardsOf f) bay k).toNat (ledUp f bay k) (addB (boardsOf f) bay k) ih.inv (by omega) (fun hx => ⟨by rw [hr]; omega, by omega⟩) (fun hx => hx)
    refine ⟨hp.inv, fun o ho => (hp.row o (by omega)).trans (ih.rest o (by omega)), fun o ho hpos => ?_⟩
    by_cases e : o = k
    · subst e; exact hp.done hpos
    · rcases ih.done o (by omega) hpos with hx | ⟨X, hX, hx⟩
      · exact .inl ((hp.row o e).trans hx)
      · exact .inr ⟨X, hp.closed X hX, hx⟩
def ledT (f : Flr) (bay : Nat) : Led := ledUp f bay f.turnings.length
theorem set_of (q : Nat → Bool) (n : Nat) : ∃ s, s < 2 ^ n ∧ ∀ i, s.testBit i = (decide (i < n) && q i) := by
  induction n with
  | zero => exact ⟨0, by decide, fun i => by simp⟩
  | succ n ih =>
    obtain ⟨s, hs, hb⟩ := ih
    cases hq : q n with
    | false =>
      refine ⟨s, by rw [Nat.pow_succ]; omega, fun i => ?_⟩
      rw [hb]
      by_cases e : i = n
      · subst e; simp [hq]
      · rw [show decide (i < n + 1) = decide (i < n) by rw [decide_eq_decide]; omega]
    | true =>
      refine ⟨s ||| 1 <<< n, or_lt (by rw [Nat.pow_succ]; omega) (by omega), fun i => ?_⟩
      rw [or_bit, hb]
      by_cases e : n = i
      · subst e; simp [hq]
      · rw [show decide (i < n + 1) = decide (i < n) by rw [decide_eq_decide]; omega, decide_eq_false e, Bool.or_false]
theorem tos_lead {f : Flr} (h : checkP f = 0) {bay : Nat} {l : Led} (hi : LInv f bay l) (o : Nat) (t : Nat) : (t : Int) ∈ tosOf l o ↔ Lead f.rules t o := by
  have hr := check_right h
  unfold tosOf
  rw [mem_members, hi.w, before_of h]
  constructor
  · rintro ⟨i, _, hb, e⟩
    have : t = i := by omega
    subst this
    exact (ahead_bit hr.ruled o t).1 hb
  · intro hl
    have := (lead_named hr.ruled hl).1
    have := hr.ranged.turnings
    exact ⟨t, by omega, (ahead_bit hr.ruled o t).2 hl, rfl⟩
theorem row_T {f : Flr} (h : checkP f = 0) {bay : Nat} {l : Led} (hi : LInv f bay l) {o : Nat} (ho : o < 8) : l.row o = sm f.turnings.length fun t => l.P o t := by
  have h8 := nt8 h
  unfold Led.row
  obtain ⟨d, hd⟩ : ∃ d, 8 = f.turnings.length + d := ⟨8 - f.turnings.length, by omega⟩
  have key : ∀ e, f.turnings.length + e ≤ 8 → sm (f.turnings.length + e) (fun t => l.P o t) = sm f.turnings.length fun t => l.P o t := by
    intro e
    induction e with
    | zero => intro _; rfl
    | succ e ih =>
      intro he
      rw [show f.turnings.length + (e + 1) = (f.turnings.length + e) + 1 by omega, sm_succ, ih (by omega)]
      have h0 := hi.nn o (f.turnings.length + e) ho (by omega)
      rcases Int.lt_or_le 0 (l.P o (f.turnings.length + e)) with hp | hp
      · have := (hi.pos o _ ho (by omega) hp).1.2
        have := (lead_named (check_right h).ruled ((tos_lead h hi o _).1 this)).1
        omega
      · omega
  have := key d (by omega)
  rw [← hd] at this; exact this
theorem strong {f : Flr} (h : checkP f = 0) {bay : Nat} (hb : bay < f.bears.length) {l : Led} (hl : LedF f bay f.turnings.length l) : ∃ s, s < 2 ^ f.turnings.length ∧ wholeP (boardsOf f) s = true ∧ nth (loadP (boardsOf f) s) bay = nth (boardsOf f).1.first bay + sm f.turnings.length fun t => max 0 (addB (boardsOf f) bay t) - l.row t := by
  have hi := hl.inv
  have h8 := nt8 h
  have hr := check_right h
  obtain ⟨X, hX⟩ : ∃ X : Nat → Prop, X = fun o => ∃ Y, Closed l Y ∧ Y o := ⟨_, rfl⟩
  have hXc : Closed l X := fun x hx t ht ha => by
    rw [hX] at hx
    obtain ⟨Y, hY, hy⟩ := hx
    obtain ⟨c1, c2⟩ := hY x hy t ht ha
    exact ⟨c1, fun o ho hp => by rw [hX]; exact ⟨Y, hY, c2 o ho hp⟩⟩
  obtain ⟨Sp, hSp⟩ : ∃ Sp : Nat → Prop, Sp = fun t => ∃ x, x < f.turnings.length ∧ X x ∧ 0 < addB (boardsOf f) bay x ∧ (t = x ∨ Lead f.rules t x) := ⟨_, rfl⟩
  have hdec : ∃ q : Nat → Bool, ∀ t, q t = true ↔ Sp t := ⟨fun t => @decide (Sp t) (Classical.propDecidable _), fun t => by simp⟩
  obtain ⟨q, hq⟩ := hdec
  obtain ⟨s, hs, hbit⟩ := set_of q f.turnings.length
  have bit : ∀ t, s.testBit t = true ↔ t < f.turnings.length ∧ Sp t := fun t => by rw [hbit, Bool.and_eq_true, decide_eq_true_eq, hq]
  have hwhole : wholeP (boardsOf f) s = true := (whole_iff h hs).2 fun t a ht hla => by
    have hn := (lead_named hr.ruled hla).1
    have ht := (bit t).1 ht
    rw [hSp] at ht
    obtain ⟨_, x, hx, hxX, hxp, hxt⟩ := ht
    refine (bit a).2 ⟨by omega, ?_⟩
    rw [hSp]
    refine ⟨x, hx, hxX, hxp, .inr ?_⟩
    rcases hxt with e | hxt
    · rw [← e]; exact hla
    · exact hla.trans hxt
  -- those of the set that lessen are paid in full, by those of the set
  have less : ∀ t, s.testBit t = true → addB (boardsOf f) bay t < 0 → -(addB (boardsOf f) bay t) ≤ l.col t ∧ ∀ o, o < f.turnings.length → l.P o t ≠ 0 → s.testBit o = true := fun t ht ha => by
    obtain ⟨htT, hsp⟩ := (bit t).1 ht
    rw [hSp] at hsp
    obtain ⟨x, hx, hxX, hxp, hxt⟩ := hsp
    have hlead : Lead f.rules t x := by
      rcases hxt with e | e
      · rw [e] at ha; omega
      · exact e
    have htos := (tos_lead h hi x t).2 hlead
    obtain ⟨c1, c2⟩ := hXc x hxX t htos (by rw [inv_add hi]; simpa using ha)
    rw [Int.toNat_natCast] at c1 c2
    refine ⟨?_, fun o ho hp => ?_⟩
    · unfold leftM leftUp at c1
      rw [inv_add hi] at c1
      unfold Led.col; omega
    · have hox := c2 o (by rw [inv_T hi]; exact ho) hp
      have h0 := hi.nn o t (by omega) (by omega)
      have hpo := (hi.pos o t (by omega) (by omega) (by omega)).2.1
      rw [inv_add hi] at hpo
      exact (bit o).2 ⟨ho, by rw [hSp]; exact ⟨o, ho, hox, hpo, .inl rfl⟩⟩
  refine ⟨s, hs, hwhole, ?_⟩
  rw [load_bits h s hs hb]
  congr 1
  -- turning by turning
  have e1 : sm f.turnings.length (fun t => max 0 (addB (boardsOf f) bay t) - l.row t) = sm f.turnings.length fun t => (if s.testBit t = true then max 0 (addB (boardsOf f) bay t) else 0) - (if s.testBit t = true then l.row t else 0) := sm_congr _ fun t ht => by
    by_cases hb' : s.testBit t = true
    · rw [if_pos hb', if_pos hb']
    · rw [if_neg hb', if_neg hb']
      rcases Int.lt_or_le 0 (addB (boardsOf f) bay t) with hp | hp
      · rcases hl.done t ht hp with e | ⟨Y, hY, hy⟩
        · rw [e]; omega
        · exact absurd ((bit t).2 ⟨ht, by rw [hSp]; exact ⟨t, ht, by rw [hX]; exact ⟨Y, hY, hy⟩, hp, .inl rfl⟩⟩) hb'
      · have h1 := hi.row t (by omega)
        rw [inv_add hi] at h1
        have h2 := sm_nonneg (g := fun j => l.P t j) 8 fun j hj => hi.nn t j (by omega) hj
        unfold Led.row; omega
  have e2 : sm f.turnings.length (fun t => if s.testBit t = true then l.row t else 0) = sm f.turnings.length fun t => if s.testBit t = true then max 0 (-(addB (boardsOf f) bay t)) else 0 := by
    have a1 : sm f.turnings.length (fun o => if s.testBit o = true then l.row o else 0) = sm f.turnings.length fun o => sm f.turnings.length fun t => if s.testBit o = true ∧ s.testBit t = true then l.P o t else 0 := sm_congr _ fun o ho => by
      by_cases hb' : s.testBit o = true
      · rw [if_pos hb', row_T h hi (by omega)]
        refine sm_congr _ fun t ht => ?_
        by_cases ht' : s.testBit t = true
        · rw [if_pos ⟨hb', ht'⟩]
        · rw [if_neg (fun x => ht' x.2)]
          have h0 := hi.nn o t (by omega) (by omega)
          rcases Int.lt_or_le 0 (l.P o t) with hp | hp
          · have hl' := (tos_lead h hi o t).1 (hi.pos o t (by omega) (by omega) hp).1.2
            exact absurd ((whole_iff h hs).1 hwhole o t hb' hl') ht'
          · omega
      · rw [if_neg hb']
        exact (sm_none _ fun t _ => if_neg fun x => hb' x.1).symm
    rw [a1, sm_swap (fun o t => if s.testBit o = true ∧ s.testBit t = true then l.P o t else 0)]
    refine sm_congr _ fun t ht => ?_
    by_cases hb' : s.testBit t = true
    · rw [if_pos hb']
      rcases Int.lt_or_le (addB (boardsOf f) bay t) 0 with hp | hp
      · obtain ⟨c1, c2⟩ := less t hb' hp
        have c3 := hi.col t (by omega)
        rw [inv_add hi] at c3
        have : sm f.turnings.length (fun o => if s.testBit o = true ∧ s.testBit t = true then l.P o t else 0) = l.col t := by
          have a2 : sm f.turnings.length (fun o => if s.testBit o = true ∧ s.testBit t = true then l.P o t else 0) = sm f.turnings.length fun o => l.P o t := sm_congr _ fun o ho => by
            by_cases hx : s.testBit o = true
            · rw [if_pos ⟨hx, hb'⟩]
            · rw [if_neg fun y => hx y.1]
              exact (Classical.byContradiction fun hne => hx (c2 o ho fun e => hne e.symm))
          rw [a2]
          unfold Led.col
          obtain ⟨d, hd⟩ : ∃ d, 8 = f.turnings.length + d := ⟨8 - f.turnings.length, by omega⟩
          have key : ∀ e, f.turnings.length + e ≤ 8 → sm (f.turnings.length + e) (fun o => l.P o t) = sm f.turnings.length fun o => l.P o t := by
            intro e
            induction e with
            | zero => intro _; rfl
            | succ e ih =>
              intro he
              rw [show f.turnings.length + (e + 1) = (f.turnings.length + e) + 1 by omega, sm_succ, ih (by omega)]
              have h0 := hi.nn (f.turnings.length + e) t (by omega) (by omega)
              rcases Int.lt_or_le 0 (l.P (f.turnings.length + e) t) with hp' | hp'
              · have := (hi.pos _ t (by omega) (by omega) hp').1.1
                rw [inv_T hi] at this; omega
              · omega
          have := key d (by omega)
          rw [← hd] at this; exact this.symm
        rw [this]
        unfold Led.col at c1 ⊢
        omega
      · refine (sm_none _ fun o ho => ?_).trans (by omega)
        rcases Int.lt_or_le 0 (l.P o t) with hp' | hp'
        · have := (hi.pos o t (by omega) (by omega) hp').2.2
          rw [inv_add hi] at this; omega
        · have h0 := hi.nn o t (by omega) (by omega)
          split <;> omega
    · rw [if_neg hb']
      exact sm_none _ fun o _ => if_neg fun x => hb' x.2
  rw [e1, sm_sub, e2, ← sm_sub]
  refine sm_congr _ fun t _ => ?_
  split <;> omega
end Go.Proofs.YtifgbnbkimcchaaGreat

namespace Go.Proofs.YtifgbnbkimcchaaGreat
open Go Go.T
def rowL (l : Led) (o j : Nat) : List Pay := ((List.range j).filter fun t => !decide (l.P o t = 0)).map fun (t : Nat) => ⟨(o : Int), (t : Int), l.P o t⟩
def paysUp (l : Led) (T k : Nat) : List Pay := (List.range k).flatMap fun o => rowL l o T
def paysL (f : Flr) (bay : Nat) : List Pay := paysUp (ledT f bay) f.turnings.length f.turnings.length
theorem rowL_succ (l : Led) (o j : Nat) : rowL l o (j + 1) = rowL l o j ++ if l.P o j = 0 then [] else [⟨(o : Int), (j : Int), l.P o j⟩] := by
  unfold rowL
  rw [List.range_succ, List.filter_append, List.map_append]
  congr 1
  by_cases h : l.P o j = 0
  · rw [if_pos h, List.filter_cons_of_neg (by simp [h])]; rfl
  · rw [if_neg h, List.filter_cons_of_pos (by simp [h])]; rfl
theorem paysUp_succ (l : Led) (T k : Nat) : paysUp l T (k + 1) = paysUp l T k ++ rowL l k T := by unfold paysUp; rw [List.range_succ, List.flatMap_append]; simp
theorem paidBy_app (a b : List Pay) (t : Int) : paidBy (a ++ b) t = paidBy a t + paidBy b t := by simp [paidBy]
theorem paidTo_app (a b : List Pay) (t : Int) : paidTo (a ++ b) t = paidTo a t + paidTo b t := by simp [paidTo]
theorem row_by (l : Led) (o x : Nat) : ∀ j, paidBy (rowL l o j) x = if o = x then sm j (fun t => l.P o t) else 0
  | 0 => by rw [sm_zero]; simp [rowL, paidBy]
  | j + 1 => by
    rw [rowL_succ, paidBy_app, row_by l o x j, sm_succ]
    by_cases e : o = x
    · subst e
      rw [if_pos rfl, if_pos rfl]
      by_cases h : l.P o j = 0
      · rw [if_pos h, h]; simp [paidBy]
      · rw [if_neg h]; simp [paidBy]
    · rw [if_neg e, if_neg e]
      have e' : ¬ (o : Int) = (x : Int) := by omega
      split <;> simp [paidBy, e']
theorem row_to (l : Led) (o x : Nat) : ∀ j, paidTo (rowL l o j) x = if x < j then l.P o x else 0
  | 0 => by simp [rowL, paidTo]
  | j + 1 => by
    rw [rowL_succ, paidTo_app, row_to l o x j]
    by_cases e : j = x
    · subst e
      rw [if_neg (show ¬ j < j by omega), if_pos (show j < j + 1 by omega)]
      by_cases h : l.P o j = 0
      · rw [if_pos h, h]; simp [paidTo]
      · rw [if_neg h]; simp [paidTo]
    · have e' : ¬ (j : Int) = (x : Int) := by omega
      have e2 : (x < j + 1) ↔ (x < j) := by omega
      simp only [e2]
      split <;> split <;> simp [paidTo, e']
theorem pays_by (l : Led) (T x : Nat) : ∀ k, paidBy (paysUp l T k) x = if x < k then sm T (fun t => l.P x t) else 0
  | 0 => by simp [paysUp, paidBy]
  | k + 1 => by
    rw [paysUp_succ, paidBy_app, pays_by l T x k, row_by]
    by_cases e : k = x
    · subst e; rw [if_neg (by omega), if_pos rfl, if_pos (by omega)]; omega
    · rw [if_neg e]
      by_cases h : x < k
      · rw [if_pos h, if_pos (by omega)]; omega
      · rw [if_neg h, if_neg (by omega)]; rfl
theorem pays_to (l : Led) (T x : Nat) (hx : x < T) : ∀ k, paidTo (paysUp l T k) x = sm k fun o => l.P o x
  | 0 => by simp [paysUp, paidTo, sm_zero]
  | k + 1 => by rw [paysUp_succ, paidTo_app, pays_to l T x hx k, row_to, if_pos hx, sm_succ]
theorem mem_pays {l : Led} {T k : Nat} {p : Pay} (h : p ∈ paysUp l T k) : ∃ o t : Nat, o < k ∧ t < T ∧ l.P o t ≠ 0 ∧ p = ⟨(o : Int), (t : Int), l.P o t⟩ := by
  obtain ⟨o, ho, hp⟩ := List.mem_flatMap.1 h
  obtain ⟨t, ht, e⟩ := List.mem_map.1 hp
  obtain ⟨h1, h2⟩ := List.mem_filter.1 ht
  exact ⟨o, t, List.mem_range.1 ho, List.mem_range.1 h1, by simpa using h2, e.symm⟩
theorem led_col {f : Flr} (h : checkP f = 0) {bay : Nat} {l : Led} (hi : LInv f bay l) {t : Nat} (ht : t < 8) : sm 8 (fun o => l.P o t) = sm f.turnings.length fun o => l.P o t := by
  have h8 := nt8 h
  obtain ⟨d, hd⟩ : ∃ d, 8 = f.turnings.length + d := ⟨8 - f.turnings.length, by omega⟩
  have key : ∀ e, f.turnings.length + e ≤ 8 → sm (f.turnings.length + e) (fun o => l.P o t) = sm f.turnings.length fun o => l.P o t := by
    intro e
    induction e with
    | zero => intro _; rfl
    | succ e ih =>
      intro he
      rw [show f.turnings.length + (e + 1) = (f.turnings.length + e) + 1 by omega, sm_succ, ih (by omega)]
      have h0 := hi.nn (f.turnings.length + e) t (by omega) ht
      rcases Int.lt_or_le 0 (l.P (f.turnings.length + e) t) with hp' | hp'
      · have := (hi.pos _ t (by omega) ht hp').1.1
        rw [inv_T hi] at this; omega
      · omega
  have := key d (by omega)
  rw [← hd] at this; exact this
theorem pays_hold {f : Flr} (h : checkP f = 0) {bay : Nat} {l : Led} (hi : LInv f bay l) : Holds f bay (paysUp l f.turnings.length f.turnings.length) := by
  have h8 := nt8 h
  refine ⟨fun p hp => ?_, fun p hp => ?_, fun p hp => ?_, fun p hp => ?_, fun t ht => ?_⟩
  · obtain ⟨o, t, ho, ht, hne, rfl⟩ := mem_pays hp
    have := hi.nn o t (by omega) (by omega)
    show 1 ≤ l.P o t; omega
  · obtain ⟨o, t, ho, ht, _, rfl⟩ := mem_pays hp
    exact ⟨by show (0 : Int) ≤ (o : Int); omega, by show (o : Int) < _; omega⟩
  · obtain ⟨o, t, ho, ht, _, rfl⟩ := mem_pays hp
    exact ⟨by show (0 : Int) ≤ (t : Int); omega, by show (t : Int) < _; omega⟩
  · obtain ⟨o, t, ho, ht, hne, rfl⟩ := mem_pays hp
    have := hi.nn o t (by omega) (by omega)
    exact (tos_lead h hi o t).1 (hi.pos o t (by omega) (by omega) (by omega)).1.2
  · have h1 := hi.row t (by omega)
    have h2 := hi.col t (by omega)
    rw [inv_add hi] at h1 h2
    rw [pays_by, if_pos ht, pays_to l _ t ht, ← led_col h hi (by omega)]
    have := row_T h hi (o := t) (by omega)
    unfold Led.row at this
    rw [← this]
    exact ⟨h1, h2⟩
theorem pays_total {f : Flr} (h : checkP f = 0) {bay : Nat} {l : Led} (hi : LInv f bay l) : total (paysUp l f.turnings.length f.turnings.length) = sm f.turnings.length fun t => l.row t := by
  have h8 := nt8 h
  rw [← paid_total (pays_hold h hi).src]
  exact sm_congr _ fun t ht => by
    rw [pays_by, if_pos ht, row_T h hi (by omega)]
theorem pays_most {f : Flr} (h : checkP f = 0) {bay : Nat} (hb : bay < f.bears.length) : Holds f bay (paysL f bay) ∧ boundOf f bay (paysL f bay) = heavyV f bay := by
  have hl := led_spec h bay _ (Nat.le_refl _)
  have hh := pays_hold h hl.inv
  refine ⟨hh, ?_⟩
  obtain ⟨s, hs, hw, e⟩ := strong h hb hl
  have h1 := heavy_ge bay hs hw
  have h2 := weak_most h hb hh
  have h3 : boundOf f bay (paysL f bay) = nth (loadP (boardsOf f) s) bay := by
    unfold boundOf paysL ledT
    have e3 : sm f.turnings.length (ledUp f bay f.turnings.length).row = sm f.turnings.length fun t => (ledUp f bay f.turnings.length).row t := rfl
    rw [pays_total h hl.inv, e, sm_sub, e3]; omega
  have h4 : boundOf f bay (paysUp (ledUp f bay f.turnings.length) f.turnings.length f.turnings.length) = boundOf f bay (paysL f bay) := rfl
  omega
def payE (f : Flr) (bay : Int) : Int := openE f (!inB bay 0 (f.bears.length - 1))
def payR (f : Flr) (bay : Int) : List Pay := if payE f bay = 0 then paysL f bay.toNat else []
theorem bounds_holds {f : Flr} (h : checkP f = 0) {n : Nat} (hn : n < f.bears.length) (pays : List Pay) : ((boundsP f n pays).2 = 0 ↔ Holds f n pays) ∧ ((boundsP f n pays).2 = 0 → (boundsP f n pays).1 = boundOf f n pays) ∧ ((boundsP f n pays).2 = 0 ∨ (boundsP f n pays).2 = 1 ∨ (boundsP f n pays).2 = 3 ∨ (boundsP f n pays).2 = 4 ∨ (boundsP f n pays).2 = 8) := by
  have h0 : checkM f = 0 := by rw [← check_eq]; exact h
  rw [boundsP_eq h0 hn, boundsR]
  by_cases c1 : (pays.any fun p => decide (p.src < 0 ∨ p.src ≥ f.turnings.length) || decide (p.dst < 0 ∨ p.dst ≥ f.turnings.length)) = true
  · rw [if_pos c1]
    refine ⟨⟨fun hx => (by cases hx), fun hh => ?_⟩, fun hx => (by cases hx), .inr (.inl rfl)⟩
    obtain ⟨p, hp, hx⟩ := List.any_eq_true.1 c1
    have h1 := hh.src p hp
    have h2 := hh.dst p hp
    simp only [Bool.or_eq_true, decide_eq_true_eq] at hx
    omega
  rw [if_neg c1]
  by_cases c2 : (pays.any fun p => decide (p.much < 1)) = true
  · rw [if_pos c2]
    refine ⟨⟨fun hx => (by cases hx), fun hh => ?_⟩, fun hx => (by cases hx), .inr (.inr (.inl rfl))⟩
    obtain ⟨p, hp, hx⟩ := List.any_eq_true.1 c2
    have h1 := hh.pos p hp
    simp only [decide_eq_true_eq] at hx
    omega
  rw [if_neg c2]
  have hp1 : ∀ p ∈ pays, (0 ≤ p.src ∧ p.src < f.turnings.length) ∧ 0 ≤ p.dst ∧ p.dst < f.turnings.length := fun p hp => by
    have := any_none (Bool.eq_false_iff.2 c1) hp
    simp only [Bool.or_eq_false_iff, decide_eq_false_iff_not] at this; omega
  have hpos : Pos pays := fun p hp => by
    have := any_none (Bool.eq_false_iff.2 c2) hp
    simp only [decide_eq_false_iff_not] at this; omega
  by_cases c3 : (pays.any fun p => !decide (p.dst ∈ aheadM f p.src)) = true
  · rw [if_pos c3]
    refine ⟨⟨fun hx => (by cases hx), fun hh => ?_⟩, fun hx => (by cases hx), .inr (.inr (.inr (.inl rfl)))⟩
    obtain ⟨p, hp, hx⟩ := List.any_eq_true.1 c3
    rw [decide_eq_true (mem_aheadM.2 ⟨hh.dst p hp, hh.lead p hp⟩)] at hx
    cases hx
  rw [if_neg c3]
  have hlead : ∀ p ∈ pays, Lead f.rules p.dst p.src := fun p hp => by
    have := any_none (Bool.eq_false_iff.2 c3) hp
    simp only [Bool.not_eq_false', decide_eq_true_eq] at this
    exact (mem_aheadM.1 this).2
  rcases boundUp_spec (f := f) (b := n) hpos f.turnings.length with ⟨b1, b2⟩ | ⟨b1, b2⟩
  · rw [b2]
    have hh : Holds f n pays := ⟨hpos, fun p hp => (hp1 p hp).1, fun p hp => (hp1 p hp).2, hlead, fun t ht => by
      have := b1 t ht
      rw [← addB_eq h ht hn] at this; exact this⟩
    refine ⟨⟨fun _ => hh, fun _ => rfl⟩, fun _ => ?_, .inl rfl⟩
    show nth (nth (loadsM f []) 0) n + ((List.range f.turnings.length).map fun (t : Nat) => max 0 (addM f t n) - paidBy pays t).sum = _
    have e : ((List.range f.turnings.length).map fun (t : Nat) => max 0 (addM f t n) - paidBy pays t).sum = sm f.turnings.length fun t => max 0 (addB (boardsOf f) n t) - paidBy pays t := sm_congr _ fun t ht => by rw [addB_eq h ht hn]
    have e2 : total pays = sm f.turnings.length fun t => paidBy pays t := (paid_total hh.src).symm
    rw [e, sm_sub, boundOf, firstB_eq h hn, e2]; omega
  · rw [b2]
    refine ⟨⟨fun hx => (by cases hx), fun hh => absurd (fun t ht => ?_) b1⟩, fun hx => (by cases hx), .inr (.inr (.inr (.inr rfl)))⟩
    have := hh.fits t ht
    rw [addB_eq h ht hn] at this; exact this
end Go.Proofs.YtifgbnbkimcchaaGreat

namespace Go.Proofs.YtifgbnbkimcchaaGreat
open Go Go.T
def onStep (f : Flr) (x : List Int × Nat) (t : Nat) : List Int × Nat :=
  if x.2.testBit t = false ∧ wholeP (boardsOf f) (x.2 ||| 1 <<< t) = true then (x.1 ++ [(t : Int)], x.2 ||| 1 <<< t) else x
def onIn (f : Flr) (x : List Int × Nat) : Nat → List Int × Nat
  | 0 => x
  | t + 1 => onStep f (onIn f x t) t
def onUp (f : Flr) (s : Nat) : Nat → List Int × Nat
  | 0 => ([], s)
  | k + 1 => onIn f (onUp f s k) f.turnings.length
def onL (f : Flr) (s : Nat) : List Int := (onUp f s f.turnings.length).1
inductive Ch (f : Flr) (s : Nat) : List Int → Nat → Prop
  | nil : Ch f s [] s
  | snoc {l : List Int} {s' t : Nat} : Ch f s l s' → t < f.turnings.length → s'.testBit t = false → wholeP (boardsOf f) (s' ||| 1 <<< t) = true → Ch f s (l ++ [(t : Int)]) (s' ||| 1 <<< t)
theorem ch_step {f : Flr} {s : Nat} {x : List Int × Nat} (h : Ch f s x.1 x.2) {t : Nat} (ht : t < f.turnings.length) : Ch f s (onStep f x t).1 (onStep f x t).2 := by
  unfold onStep
  split
  · rename_i hc; exact .snoc h ht hc.1 hc.2
  · exact h
theorem ch_in {f : Flr} {s : Nat} {x : List Int × Nat} (h : Ch f s x.1 x.2) : ∀ k, k ≤ f.turnings.length → Ch f s (onIn f x k).1 (onIn f x k).2
  | 0, _ => h
  | k + 1, hk => ch_step (ch_in h k (by omega)) hk
theorem ch_up (f : Flr) (s : Nat) : ∀ k, Ch f s (onUp f s k).1 (onUp f s k).2
  | 0 => .nil
  | k + 1 => ch_in (ch_up f s k) _ (Nat.le_refl _)
theorem Ch.rep {f : Flr} (h : checkP f = 0) {s : Nat} {d : List Int} (hd : Rep f d s) {l : List Int} {s' : Nat} (hc : Ch f s l s') : Rep f (d ++ l) s' ∧ ∀ i, i < l.length → (∃ u, Rep f (d ++ l.take i) u) ∧ readyM f (d ++ l.take i) (nth l i) = true := by
  induction hc with
  | nil => exact ⟨by rw [List.append_nil]; exact hd, fun i hi => by simp at hi⟩
  | @snoc l s' t hc ht hb hw ih =>
    obtain ⟨h1, h2⟩ := ih
    refine ⟨by rw [← List.append_assoc]; exact rep_add h h1 ht hb hw, fun i hi => ?_⟩
    rw [List.length_append] at hi
    rcases Nat.lt_or_ge i l.length with c | c
    · rw [List.take_append_of_le_length (by omega), show nth (l ++ [(t : Int)]) i = nth l i by unfold nth; rw [List.getD_eq_getElem?_getD, List.getD_eq_getElem?_getD, List.getElem?_append_left c]]
      exact h2 i c
    · have e : i = l.length := by simp at hi; omega
      subst e
      rw [List.take_left, show nth (l ++ [(t : Int)]) l.length = t by unfold nth; rw [List.getD_eq_getElem?_getD, List.getElem?_append_right (Nat.le_refl _)]; simp]
      exact ⟨⟨_, h1⟩, (ready_iff h h1 ht).2 ⟨hb, hw⟩⟩
theorem step_len (f : Flr) (x : List Int × Nat) (t : Nat) : onStep f x t = x ∨ (onStep f x t).1.length = x.1.length + 1 := by
  unfold onStep
  split
  · exact .inr (by simp)
  · exact .inl rfl
theorem in_len (f : Flr) (x : List Int × Nat) : ∀ k, onIn f x k = x ∨ x.1.length < (onIn f x k).1.length
  | 0 => .inl rfl
  | k + 1 => by
    show onStep f (onIn f x k) k = x ∨ x.1.length < (onStep f (onIn f x k) k).1.length
    rcases in_len f x k with e | e <;> rcases step_len f (onIn f x k) k with g | g
    · exact .inl (g.trans e)
    · exact .inr (by rw [g, e]; omega)
    · exact .inr (by rw [g]; exact e)
    · exact .inr (by rw [g]; omega)
theorem in_mono (f : Flr) (x : List Int × Nat) (k : Nat) : (onIn f x k).1.length ≤ (onIn f x (k + 1)).1.length := by
  show _ ≤ (onStep f (onIn f x k) k).1.length
  rcases step_len f (onIn f x k) k with g | g
  · rw [g]; exact Nat.le_refl _
  · omega
theorem in_same (f : Flr) (x : List Int × Nat) : ∀ m k, onIn f x (k + m) = x → onIn f x k = x
  | 0, _, h => h
  | m + 1, k, h => by
    refine in_same f x m k ?_
    rcases in_len f x (k + m) with e | e
    · exact e
    · have := in_mono f x (k + m)
      rw [show k + m + 1 = k + (m + 1) by omega, h] at this; omega
theorem in_goes {f : Flr} (h : checkP f = 0) {d : List Int} {x : List Int × Nat} (hr : Rep f d x.2) (hl : d.length < f.turnings.length) : x.1.length < (onIn f x f.turnings.length).1.length := by
  rcases in_len f x f.turnings.length with e | e
  · obtain ⟨t, ht, hb, hw⟩ := some_ready h hr hl
    have h1 : onIn f x t = x := in_same f x (f.turnings.length - t) t (by rw [show t + (f.turnings.length - t) = f.turnings.length by omega]; exact e)
    have h2 : onIn f x (t + 1) = x := in_same f x (f.turnings.length - (t + 1)) (t + 1) (by rw [show t + 1 + (f.turnings.length - (t + 1)) = f.turnings.length by omega]; exact e)
    have h3 : onStep f (onIn f x t) t = x := h2
    rw [h1, onStep, if_pos ⟨hb, hw⟩] at h3
    have := congrArg (fun p : List Int × Nat => p.1.length) h3
    simp at this
  · exact e
theorem fullS_bit {n s t : Nat} (h : s + 1 = 2 ^ n) (ht : t < n) : s.testBit t = true := by
  rw [show s = 2 ^ n - 1 by omega, Nat.testBit_two_pow_sub_one]; exact decide_eq_true ht
theorem in_full {f : Flr} {x : List Int × Nat} (h : x.2 + 1 = 2 ^ f.turnings.length) : ∀ k, k ≤ f.turnings.length → onIn f x k = x
  | 0, _ => rfl
  | k + 1, hk => by
    show onStep f (onIn f x k) k = x
    rw [in_full h k (by omega), onStep, if_neg (by rw [fullS_bit h hk]; simp)]
theorem up_full {f : Flr} {s k : Nat} (h : (onUp f s k).2 + 1 = 2 ^ f.turnings.length) : ∀ m, onUp f s (k + m) = onUp f s k
  | 0 => rfl
  | m + 1 => by
    show onIn f (onUp f s (k + m)) _ = _
    rw [up_full h m, in_full h _ (Nat.le_refl _)]
theorem up_goes {f : Flr} (h : checkP f = 0) {s : Nat} {d : List Int} (hd : Rep f d s) : ∀ k, (onUp f s k).2 + 1 = 2 ^ f.turnings.length ∨ k ≤ (onUp f s k).1.length
  | 0 => .inr (Nat.zero_le _)
  | k + 1 => by
    rcases up_goes h hd k with e | e
    · exact .inl (by rw [up_full e 1]; exact e)
    · have hr := (Ch.rep h hd (ch_up f s k)).1
      by_cases hf : (onUp f s k).2 + 1 = 2 ^ f.turnings.length
      · exact .inl (by rw [up_full hf 1]; exact hf)
      · refine .inr ?_
        have h1 : ¬ (d ++ (onUp f s k).1).length = f.turnings.length := fun hx => hf ((hr.full h).1 hx)
        have h2 := hr.le h
        have := in_goes (x := onUp f s k) h hr (by omega)
        show k + 1 ≤ (onIn f (onUp f s k) f.turnings.length).1.length
        omega
theorem up_lt {f : Flr} (h : checkP f = 0) {s : Nat} {d : List Int} (hd : Rep f d s) {k : Nat} (hk : ¬ (onUp f s k).2 + 1 = 2 ^ f.turnings.length) : k < f.turnings.length := by
  have hr := (Ch.rep h hd (ch_up f s k)).1
  have h1 : ¬ (d ++ (onUp f s k).1).length = f.turnings.length := fun hx => hk ((hr.full h).1 hx)
  have h2 := hr.le h
  rw [List.length_append] at h1 h2
  rcases up_goes h hd k with e | e
  · exact absurd e hk
  · omega
theorem up_end {f : Flr} {s k : Nat} (hk : k ≤ f.turnings.length) (h : (onUp f s k).2 + 1 = 2 ^ f.turnings.length) : (onUp f s k).1 = onL f s := by
  unfold onL
  rw [show f.turnings.length = k + (f.turnings.length - k) by omega, up_full h]
theorem on_spec {f : Flr} (h : checkP f = 0) {s : Nat} {d : List Int} (hd : Rep f d s) : (∃ u, Rep f (d ++ onL f s) u) ∧ (d ++ onL f s).length = f.turnings.length ∧ ∀ i, i < (onL f s).length → (∃ u, Rep f (d ++ (onL f s).take i) u) ∧ readyM f (d ++ (onL f s).take i) (nth (onL f s) i) = true := by
  have hr := Ch.rep h hd (ch_up f s f.turnings.length)
  refine ⟨⟨_, hr.1⟩, ?_, hr.2⟩
  have h3 := hr.1.le h
  rcases up_goes h hd f.turnings.length with e | e
  · exact (hr.1.full h).2 e
  · rw [List.length_append] at h3
    show (d ++ (onUp f s f.turnings.length).1).length = _
    rw [List.length_append]; omega
theorem heavy_set (b : SB) (bay : Nat) : ∀ k, k ≤ (setsP b).length → ∃ s : Nat, (heavyUp b bay k).1 = s ∧ ((s = 0 ∧ (heavyUp b bay k).2 = nth b.1.first bay) ∨ (s ∈ setsP b ∧ (heavyUp b bay k).2 = nth (loadP b s) bay))
  | 0, _ => ⟨0, rfl, .inl ⟨rfl, rfl⟩⟩
  | k + 1, hk => by
    rw [heavyUp_succ (by omega)]
    unfold heavyS
    split
    · exact ⟨nth (setsP b) k, rfl, .inr ⟨nth_mem (by omega), rfl⟩⟩
    · exact heavy_set b bay k (by omega)
def topS (f : Flr) (bay : Nat) : Nat := (heavyP (boardsOf f) bay).1.toNat
theorem best_spec {f : Flr} (h : checkP f = 0) {bay : Nat} (hb : bay < f.bears.length) : (heavyP (boardsOf f) bay).1 = topS f bay ∧ topS f bay < 2 ^ f.turnings.length ∧ wholeP (boardsOf f) (topS f bay) = true ∧ nth (loadP (boardsOf f) (topS f bay)) bay = heavyV f bay := by
  obtain ⟨s, e, hs⟩ := heavy_set (boardsOf f) bay _ (Nat.le_refl _)
  have e2 : topS f bay = s := by unfold topS; rw [heavyP_up, e]; rfl
  rw [e2, heavyP_up]
  rcases hs with ⟨rfl, hv⟩ | ⟨hm, hv⟩
  · refine ⟨e, Nat.two_pow_pos _, whole_zero h, ?_⟩
    unfold heavyV
    rw [heavyP_up, hv, load_bits h 0 (Nat.two_pow_pos _) hb, sm_none _ (fun i _ => by simp)]; omega
  · obtain ⟨h1, h2⟩ := mem_setsP.1 hm
    refine ⟨e, h1, h2, ?_⟩
    unfold heavyV
    rw [heavyP_up, hv]
theorem members_nodup (s : Nat) : (membersM s).Nodup := by
  rw [members_iot]
  refine List.Pairwise.filter _ ?_
  unfold iot
  show List.Pairwise _ _
  rw [List.pairwise_map]
  exact List.Pairwise.imp (fun h e => h (by omega)) List.nodup_range
theorem rep_members {f : Flr} (h : checkP f = 0) {s : Nat} (hs : s < 2 ^ f.turnings.length) (hw : wholeP (boardsOf f) s = true) : Rep f (membersM s) s where
  rng t ht := by
    obtain ⟨i, _, hb, rfl⟩ := mem_members.1 ht
    have := testBit_lt hs hb
    omega
  nodup := members_nodup s
  bit a := by
    rw [mem_members]
    refine ⟨fun hb => ⟨a, ?_, hb, rfl⟩, fun ⟨i, _, hb, e⟩ => by rw [show a = i by omega]; exact hb⟩
    have := testBit_lt hs hb
    have := nt8 h; omega
  lt := hs
  pop := rfl
  whole := hw
theorem same_len {l m : List Int} (hl : l.Nodup) (hm : m.Nodup) (h : ∀ x, x ∈ l ↔ x ∈ m) : l.length = m.length := ((List.perm_ext_iff_of_nodup hl hm).2 h).length_eq
theorem rep_of {f : Flr} {l : List Int} {s : Nat} (hr : ∀ t ∈ l, 0 ≤ t ∧ t < f.turnings.length) (hn : l.Nodup) (hb : ∀ a : Nat, s.testBit a = true ↔ (a : Int) ∈ l) (hs : s < 2 ^ f.turnings.length) (h : checkP f = 0) (hw : wholeP (boardsOf f) s = true) : Rep f l s where
  rng := hr
  nodup := hn
  bit := hb
  lt := hs
  pop := same_len (members_nodup s) hn fun x => by
    rw [mem_members]
    constructor
    · rintro ⟨i, _, hbi, rfl⟩; exact (hb i).1 hbi
    · intro hx
      have h1 := hr x hx
      have := nt8 h
      obtain ⟨i, rfl⟩ := Int.eq_ofNat_of_zero_le h1.1
      exact ⟨i, by omega, (hb i).2 hx, rfl⟩
  whole := hw
theorem on_yes {f : Flr} {x : List Int × Nat} {t : Nat} (h : (decide (((x.2 >>> t &&& 1 : Nat) : Int) = 0) && wholeP (boardsOf f) (x.2 ||| 1 <<< t)) = true) : onStep f x t = (x.1 ++ [(t : Int)], x.2 ||| 1 <<< t) := by
  rw [Bool.and_eq_true, decide_eq_true_eq] at h
  exact if_pos ⟨by have := h.1; rw [Nat.testBit_eq_decide_div_mod_eq]; rw [Nat.shiftRight_eq_div_pow, Nat.and_one_is_mod] at this; exact decide_eq_false (by omega), h.2⟩
theorem on_no {f : Flr} {x : List Int × Nat} {t : Nat} (h : (decide (((x.2 >>> t &&& 1 : Nat) : Int) = 0) && wholeP (boardsOf f) (x.2 ||| 1 <<< t)) = false) : onStep f x t = x := by
  refine if_neg fun ⟨h1, h2⟩ => ?_
  rw [h2, Bool.and_true, decide_eq_false_iff_not] at h
  rw [Nat.testBit_eq_decide_div_mod_eq] at h1
  rw [Nat.shiftRight_eq_div_pow, Nat.and_one_is_mod] at h
  have := of_decide_eq_false h1
  omega
def heavyR (f : Flr) (bay : Int) : List Int := if payE f bay = 0 then membersM (topS f bay.toNat) else []
def worstL (f : Flr) (b : Nat) : List Int := (onL f 0).filter (fun t => (topS f b).testBit t.toNat) ++ onL f (topS f b)
def worstR (f : Flr) (bay : Int) : List Int := if payE f bay = 0 then worstL f bay.toNat else []
def riskUp (f : Flr) (k : Nat) : List Int := ((List.range k).filter fun b => decide (heavyV f b > nth f.bears b)).map fun (b : Nat) => (b : Int)
def riskR (f : Flr) : List Int := if checkP f = 0 then riskUp f f.bears.length else []
theorem riskUp_succ (f : Flr) (k : Nat) : riskUp f (k + 1) = riskUp f k ++ if heavyV f k > nth f.bears k then [(k : Int)] else [] := by
  unfold riskUp
  rw [List.range_succ, List.filter_append, List.map_append]
  congr 1
  by_cases h : heavyV f k > nth f.bears k
  · rw [if_pos h, List.filter_cons, if_pos (decide_eq_true h)]; rfl
  · rw [if_neg h, List.filter_cons, if_neg (by simpa using h)]; rfl
theorem on_in {f : Flr} (h : checkP f = 0) {s : Nat} (hs : s < 2 ^ f.turnings.length) (hw : wholeP (boardsOf f) s = true) {k : Nat} {t : Nat} (ht : t ≤ f.turnings.length) : (onIn f (onUp f s k) t).2 < 2 ^ f.turnings.length ∧ (onIn f (onUp f s k) t).1.length ≤ f.turnings.length := by
  have hr := (Ch.rep h (rep_members h hs hw) (ch_in (ch_up f s k) t ht)).1
  have := hr.le h
  rw [List.length_append] at this
  exact ⟨hr.lt, by omega⟩
end Go.Proofs.YtifgbnbkimcchaaGreat

namespace Go.Proofs.YtifgbnbkimcchaaGreat
open Go Go.T
set_option maxHeartbeats 2000000
attribute [local irreducible] dInt dBool dSl dPp dPtr dAgg dTup dClo dAny dEx dStr dGd dCells dVec dVs dRow dOp nth Tri Into TOps Ctr bodyPost Exit.then Exit.inBlock Code.wp Code.wpIn dWhen dPa dPe dAo dArr dMp dPm dMap dCJ CtrG CtrI OpY keepPost iterPost bodyPostM roundQ
theorem onUp_zero (f : Flr) (s : Nat) : [] = (onUp f s 0).1 := rfl
theorem onUp_zero2 (f : Flr) (s : Nat) : (s : Int) = ((onUp f s 0).2 : Nat) := rfl
theorem on_end {f : Flr} {s k t : Nat} (h : t = f.turnings.length) : (onIn f (onUp f s k) t).1 = (onUp f s (k + 1)).1 := by subst h; rfl
theorem on_end2 {f : Flr} {s k t : Nat} (h : t = f.turnings.length) : (((onIn f (onUp f s k) t).2 : Nat) : Int) = ((onUp f s (k + 1)).2 : Nat) := by subst h; rfl
theorem onIn_yes {f : Flr} {x : List Int × Nat} {t : Nat} (h : (decide ((((onIn f x t).2 >>> t &&& 1 : Nat) : Int) = 0) && wholeP (boardsOf f) ((onIn f x t).2 ||| 1 <<< t)) = true) : (onIn f x t).1 ++ [(t : Int)] = (onIn f x (t + 1)).1 ∧ (((onIn f x t).2 ||| 1 <<< t : Nat) : Int) = ((onIn f x (t + 1)).2 : Nat) := by
  show _ = (onStep f (onIn f x t) t).1 ∧ _ = ((onStep f (onIn f x t) t).2 : Int)
  rw [on_yes h]; exact ⟨rfl, rfl⟩
theorem onIn_no {f : Flr} {x : List Int × Nat} {t : Nat} (h : (decide ((((onIn f x t).2 >>> t &&& 1 : Nat) : Int) = 0) && wholeP (boardsOf f) ((onIn f x t).2 ||| 1 <<< t)) = false) : (onIn f x t).1 = (onIn f x (t + 1)).1 ∧ ((onIn f x t).2 : Int) = ((onIn f x (t + 1)).2 : Nat) := by
  show _ = (onStep f (onIn f x t) t).1 ∧ _ = ((onStep f (onIn f x t) t).2 : Int)
  rw [on_no h]; exact ⟨rfl, rfl⟩
theorem payE_is (f : Flr) (b : Int) : openE f (!inB b 0 (f.bears.length - 1)) = payE f b := rfl
theorem heavy_no {f : Flr} {b : Int} (h : ¬ payE f b = 0) : heavyR f b = [] := if_neg h
theorem heavy_in {f : Flr} {n : Nat} (h : payE f n = 0) : membersM (topS f n) = heavyR f n := (if_pos h).symm
theorem worst_no {f : Flr} {b : Int} (h : ¬ payE f b = 0) : worstR f b = [] := if_neg h
theorem worst_in {f : Flr} {n k : Nat} (h : payE f n = 0) (hk : k = (onL f 0).length) : ((onL f 0).take k).filter (fun t => (topS f n).testBit t.toNat) ++ onL f (topS f n) = worstR f n := by
  subst hk
  rw [List.take_length]; exact (if_pos h).symm
theorem bit_one {s t : Nat} : ((s >>> t &&& 1 : Nat) : Int) = 1 ↔ s.testBit t = true := by
  rw [Nat.testBit_eq_decide_div_mod_eq, Nat.shiftRight_eq_div_pow, Nat.and_one_is_mod, decide_eq_true_eq]
  omega
theorem worst_yes {l : List Int} {s k t : Nat} (hk : k < l.length) (ht : nth l k = (t : Int)) (h : ((s >>> t &&& 1 : Nat) : Int) = 1) : (l.take k).filter (fun t => s.testBit t.toNat) ++ [(t : Int)] = (l.take (k + 1)).filter (fun t => s.testBit t.toNat) := by
  rw [take_nth hk, List.filter_append, ht, List.filter_cons, if_pos (by simpa using bit_one.1 h)]; rfl
theorem worst_skip {l : List Int} {s k t : Nat} (hk : k < l.length) (ht : nth l k = (t : Int)) (h : ¬ ((s >>> t &&& 1 : Nat) : Int) = 1) : (l.take k).filter (fun t => s.testBit t.toNat) = (l.take (k + 1)).filter (fun t => s.testBit t.toNat) := by
  rw [take_nth hk, List.filter_append, ht, List.filter_cons, if_neg (by intro hx; exact h (bit_one.2 (by simpa using hx)))]; simp
theorem heavy_def (f : Flr) (k : Nat) : (heavyP (boardsOf f) k).2 = heavyV f k := rfl
theorem open_falseP (f : Flr) : openE f false = checkP f := by
  unfold openE
  split
  · rfl
  · rename_i h; have : checkP f = 0 := by simpa using h
    rw [this]; rfl
theorem risk_no {f : Flr} (h : ¬ openE f false = 0) : riskR f = [] := if_neg (by rw [← open_falseP]; exact h)
theorem risk_in {f : Flr} {k : Nat} (h : openE f false = 0) (hk : k = f.bears.length) : riskUp f k = riskR f := by
  subst hk; exact (if_pos (by rw [← open_falseP]; exact h)).symm
theorem risk_zero (f : Flr) : [] = riskUp f 0 := rfl
theorem risk_len (f : Flr) (k : Nat) : (riskUp f k).length ≤ k := by
  unfold riskUp
  rw [List.length_map]
  exact Nat.le_trans (List.length_filter_le _ _) (by simp)
theorem on_in0 {f : Flr} (h : checkP f = 0) : (onL f 0).length ≤ 8 ∧ ∀ x ∈ onL f 0, 0 ≤ x ∧ x < f.turnings.length := by
  obtain ⟨⟨u, hu⟩, hl, _⟩ := on_spec h (rep_nil h)
  have := nt8 h
  exact ⟨by rw [List.nil_append] at hl; omega, hu.rng⟩
theorem on_len {f : Flr} (h : checkP f = 0) {s : Nat} (hs : s < 2 ^ f.turnings.length) (hw : wholeP (boardsOf f) s = true) : (onL f s).length ≤ 8 := by
  obtain ⟨_, hl, _⟩ := on_spec h (rep_members h hs hw)
  have := nt8 h
  rw [List.length_append] at hl; omega
attribute [local irreducible] onIn onUp onL topS heavyV heavyR worstR worstL riskUp riskR payE
set_option maxRecDepth 100000 in
theorem c_on (f : Flr) (h : checkP f = 0) (s : Nat) (hs : s < 2 ^ f.turnings.length) (hw : wholeP (boardsOf f) s = true) : Ctr Tryz.prog 62 [Ty.pe BrdE (boardsOf f) 0, Ty.int .i64 (s : Nat)] (Ty.sl I64 (onL f s)) := by
  refine fn_intro Tryz.func62 rfl (by decide) Tryz.ntmps62 (by exact Nat.le_of_ble_eq_true rfl) fun w0 M0 => ?_
  have h8 := nt8 h
  have hfi := boardsOf_fine h
  have hbf : (boardsOf f).1.f.turnings.length = f.turnings.length := congrArg (fun g : Flr => g.turnings.length) (boardsOf_f f)
  have hsl := shl_le (show (boardsOf f).1.f.turnings.length ≤ 8 by omega)
  have hsp : 1 <<< (boardsOf f).1.f.turnings.length = 2 ^ f.turnings.length := by rw [hbf, shl_pow]
  refine t_seq ?_
  refine t_region ?_
  refine asX rfl ?_
  refine r_nil ?_
  refine i_then ?_
  refine t_seq ?_
  refine t_region ?_
  refine asX rfl ?_
  refine r_nil ?_
  refine i_then ?_
  refine t_seq ?_
  refine t_block ?_
  refine t_loop (fun (k : {k : Nat // k ≤ f.turnings.length}) => live [(0, Ty.pe BrdE (boardsOf f) 0), (1, Ty.int .i64 ((onUp f s k.1).2 : Nat)), (5, Ty.row I64 3 43 (onUp f s k.1).1)] []) (fun k => f.turnings.length - k.1) (⟨0, by omega⟩) ?_ fun k => ?_
  · (refine Ent.mk' ?_ ?_ <;> (repeat' (first | exact allSub_zero | exact allTags_nil | refine allSub_succ' ?_ (Ty.sub_any _) | refine allSub_succ' ?_ (Ty.sub_refl _) | refine allSub_succ' ?_ ?_)))
    all_goals first | exact Ty.sub_int (onUp_zero2 f s) | exact nil_row_eq (onUp_zero f s)
  ·
    refine t_seq ?_
    refine t_seq ?_
    refine t_region ?_
    refine mvI rfl ?_
    refine mvPe rfl ?_
    refine r_nilCheck_pe rfl ?_
    refine r_field_pe rfl rfl rfl rfl rfl (by decide) ?_
    refine r_field_pe rfl rfl rfl rfl rfl (by decide) ?_
    refine r_load_pe rfl rfl rfl rfl ?_
    refine r_len rfl rfl rfl ?_
    refine r_shlN (a := 1) rfl rfl (by omega) (by omega) ?_
    refine r_sub rfl rfl (by omega) (by omega) ?_
    refine r_bin rfl rfl rfl ?_
    refine r_nil ?_
    refine i_then ?_
    refine t_cond_ndec rfl (fun hc1 => ?_) (fun hc1 => ?_)
    ·
      refine t_skip ?_
      refine i_then ?_
      refine t_block ?_
      refine t_seq ?_
      have hklt : k.1 < f.turnings.length := up_lt h (rep_members h hs hw) (by rw [← hsp]; omega)
      refine t_region ?_
      refine mvPe rfl ?_
      refine r_nilCheck_pe rfl ?_
      refine r_field_pe rfl rfl rfl rfl rfl (by decide) ?_
      refine r_field_pe rfl rfl rfl rfl rfl (by decide) ?_
      refine r_load_pe rfl rfl rfl rfl ?_
      refine r_len rfl rfl rfl ?_
      refine mvI rfl ?_
      refine r_nil ?_
      refine i_then ?_
      refine t_block ?_
      refine t_loop (fun (t : {t : Nat // t ≤ f.turnings.length}) => live [(0, Ty.pe BrdE (boardsOf f) 0), (1, Ty.int .i64 ((onIn f (onUp f s k.1) t.1).2 : Nat)), (5, Ty.row I64 3 43 (onIn f (onUp f s k.1) t.1).1), (22, Ty.int .i64 f.turnings.length), (23, Ty.int .i64 (t.1 : Nat))] []) (fun t => f.turnings.length - t.1) (⟨0, by omega⟩) ?_ fun t => ?_
      · (refine Ent.mk' ?_ ?_ <;> (repeat' (first | exact allSub_zero | exact allTags_nil | refine allSub_succ' ?_ (Ty.sub_any _) | refine allSub_succ' ?_ (Ty.sub_refl _) | refine allSub_succ' ?_ ?_)))
        all_goals first | exact Ty.sub_int (by rw [hbf]) | exact Ty.sub_int (by unfold onIn; rfl) | exact Ty.sub_row (by unfold onIn; rfl)
      ·
        have ht := t.2
        have hin := on_in h hs hw (k := k.1) ht
        have hp256 := pow256 h8 hin.1
        have hst := shl_le (show t.1 ≤ 8 by omega)
        refine t_seq ?_
        refine t_region ?_
        refine r_bin rfl rfl rfl ?_
        refine r_nil ?_
        refine i_then ?_
        refine t_seq ?_
        refine t_cond_dec rfl (fun hc2 => ?_) (fun hc2 => ?_)
        ·
          refine t_skip ?_
          refine i_then ?_
          refine t_seq ?_
          refine t_block ?_
          refine t_seq ?_
          refine t_region ?_
          refine mvI rfl ?_
          refine asI rfl ?_
          refine r_nil ?_
          refine i_then ?_
          refine t_seq ?_
          refine t_region ?_
          refine mvI rfl ?_
          refine mvI rfl ?_
          refine r_shrN rfl rfl (by omega) ?_
          refine r_andN (b := 1) rfl rfl (by have := Nat.shiftRight_le (onIn f (onUp f s k.1) t.1).2 t.1; omega) (by omega) ?_
          refine r_bin rfl rfl rfl ?_
          refine mvB rfl ?_
          apply r_guard (s := 31) rfl rfl rfl
          · intro hg; apply opT_of; (refine mvPe rfl ?_); refine r_nil ?_; exact rfl
          · exact rfl
          · exact rfl
          apply r_guard (s := 31) rfl rfl rfl
          · intro hg; apply opT_of; (refine mvI rfl ?_); refine r_nil ?_; exact rfl
          · exact rfl
          · exact rfl
          apply r_guard (s := 31) rfl rfl rfl
          · intro hg; apply opT_of; (refine mvI rfl ?_); refine r_nil ?_; exact rfl
          · exact rfl
          · exact rfl
          apply r_guard (s := 31) rfl rfl rfl
          · intro hg; apply opT_strip (s := 34) rfl (by (rw [hg]; rfl)); apply opT_of; (refine r_shlN (a := 1) rfl rfl (by omega) (by omega) ?_); refine r_nil ?_; exact rfl
          · exact rfl
          · exact rfl
          apply r_guard (s := 31) rfl rfl rfl
          · intro hg; apply opT_strip (s := 33) rfl (by (rw [hg]; rfl)); apply opT_strip (s := 35) rfl (by (rw [hg]; rfl)); apply opT_of; (refine r_orN rfl rfl (by omega) (by omega) ?_); refine r_nil ?_; exact rfl
          · exact rfl
          · exact rfl
          apply r_guard (s := 31) rfl rfl rfl
          · intro hg; apply opT_strip (s := 32) rfl (by (rw [hg]; rfl)); apply opT_strip (s := 36) rfl (by (rw [hg]; rfl)); apply opT_of; (refine r_call (c_whole (boardsOf f) _ (pow256 h8 (or_lt hin.1 (show t.1 < f.turnings.length by omega))) hfi.before) rfl rfl rfl rfl rfl ?_); refine r_nil ?_; exact rfl
          · exact rfl
          · exact rfl
          refine r_and rfl rfl ?_
          refine r_nil ?_
          refine i_then ?_
          refine t_cond rfl (fun hc3 => ?_) (fun hc3 => ?_)
          ·
            refine t_draw mixed rfl ?_
            refine mvR rfl ?_
            refine mvI rfl ?_
            refine r_buildSlice (E := I64) (xs := [_]) rfl rfl rfl rfl rfl (by decide) (by decide) (by repeat (first | exact (Parts.nil : Parts _ _ [] _) | (show Parts _ _ ((_, _) :: _) _; apply Parts.one; (· exact (rfl : _ = Ty.int _ _)); (· exact rfl)))) (by exact rfl) rfl ?_
            refine r_append rfl rfl (by decide) rfl rfl rfl rfl rfl rfl (by decide) (by (simp <;> omega)) (by (simp <;> omega)) ?_
            refine mvI rfl ?_
            refine mvI rfl ?_
            refine r_shlN (a := 1) rfl rfl (by omega) (by omega) ?_
            refine r_orN rfl rfl (by omega) (by omega) ?_
            refine asR rfl ?_
            refine asI rfl ?_
            refine r_nil ?_
            refine ⟨by kernel_rfl, ?_⟩
            refine i_block ?_
            refine i_then ?_
            refine t_region ?_
            refine r_add rfl rfl (by omega) (by omega) ?_
            refine mvI rfl ?_
            refine r_nil ?_
            refine i_round (⟨t.1 + 1, by omega⟩) ?_ (by show f.turnings.length - (t.1 + 1) < f.turnings.length - t.1; omega)
            (refine Ent.mk' ?_ ?_ <;> (repeat' (first | exact allSub_zero | exact allTags_nil | refine allSub_succ' ?_ (Ty.sub_any _) | refine allSub_succ' ?_ (Ty.sub_refl _) | refine allSub_succ' ?_ ?_)))
            all_goals skip
            all_goals first | exact Ty.sub_row (onIn_yes hc3).1 | exact Ty.sub_int (onIn_yes hc3).2
          ·
            refine t_skip ?_
            refine i_block ?_
            refine i_then ?_
            refine t_region ?_
            refine r_add rfl rfl (by omega) (by omega) ?_
            refine mvI rfl ?_
            refine r_nil ?_
            refine i_round (⟨t.1 + 1, by omega⟩) ?_ (by show f.turnings.length - (t.1 + 1) < f.turnings.length - t.1; omega)
            (refine Ent.mk' ?_ ?_ <;> (repeat' (first | exact allSub_zero | exact allTags_nil | refine allSub_succ' ?_ (Ty.sub_any _) | refine allSub_succ' ?_ (Ty.sub_refl _) | refine allSub_succ' ?_ ?_)))
            all_goals skip
            all_goals first | exact Ty.sub_row (onIn_no hc3).1 | exact Ty.sub_int (onIn_no hc3).2
        ·
          refine t_exit ?_
          refine i_then_exit ?_
          refine i_then_exit ?_
          refine i_block_exit rfl ?_
          refine i_block ?_
          refine i_round (⟨k.1 + 1, hklt⟩) ?_ (by show f.turnings.length - (k.1 + 1) < f.turnings.length - k.1; omega)
          (refine Ent.mk' ?_ ?_ <;> (repeat' (first | exact allSub_zero | exact allTags_nil | refine allSub_succ' ?_ (Ty.sub_any _) | refine allSub_succ' ?_ (Ty.sub_refl _) | refine allSub_succ' ?_ ?_)))
          all_goals skip
          all_goals first | exact Ty.sub_row (on_end (by omega)) | exact Ty.sub_int (on_end2 (by omega))
    ·
      refine t_exit ?_
      refine i_then_exit ?_
      refine i_then_exit ?_
      refine i_block_exit rfl ?_
      refine i_then ?_
      refine t_seq ?_
      refine t_region ?_
      refine mvR rfl ?_
      refine asR rfl ?_
      refine r_nil ?_
      refine i_then ?_
      refine t_ret ?_
      refine i_rp1 rfl rfl ?_
      all_goals skip
      all_goals exact ret_row_eq (by decide) (up_end k.2 (by rw [← hsp]; omega))
set_option maxRecDepth 100000 in
theorem c_Heaviest (f : Flr) (hs : f.Small) (bay : Int) : Ctr Tryz.prog 15 [flrT f, Ty.int .i64 bay] (Ty.tup [Ty.sl I64 (heavyR f bay), Ty.int .i64 (payE f bay)]) := by
  refine fn_intro Tryz.func15 rfl (by decide) Tryz.ntmps15 (by exact Nat.le_of_ble_eq_true rfl) fun w0 M0 => ?_
  have hs1 := hs.bears; have hs2 := hs.bins; have hs3 := hs.turnings; have hs4 := hs.rules
  refine t_seq ?_
  refine t_region ?_
  refine r_box_agg rfl ?_
  refine asX rfl ?_
  refine asI rfl ?_
  refine r_nil ?_
  refine i_then ?_
  refine t_seq ?_
  refine t_draw mixed rfl ?_
  refine r_load_ppN rfl rfl rfl (by exact Nat.le_of_ble_eq_true rfl) ?_
  refine r_load_ppN rfl rfl rfl (by exact Nat.le_of_ble_eq_true rfl) ?_
  refine mvI rfl ?_
  refine r_call (c_bay f hs _) rfl rfl rfl rfl rfl ?_
  refine r_not rfl ?_
  refine r_call (c_open f hs _) rfl rfl rfl rfl rfl ?_
  refine mvT rfl ?_
  refine r_extract rfl rfl ?_
  refine r_extract rfl rfl ?_
  refine asW rfl ?_
  refine asI rfl ?_
  refine r_nil ?_
  refine ⟨by kernel_rfl, ?_⟩
  refine i_then ?_
  refine t_seq ?_
  refine t_seq ?_
  refine t_region ?_
  refine mvI rfl ?_
  refine r_bin rfl rfl rfl ?_
  refine r_nil ?_
  refine i_then ?_
  refine t_cond_ndec rfl (fun hc1 => ?_) (fun hc1 => ?_)
  ·
    refine t_seq ?_
    refine t_region ?_
    refine mvI rfl ?_
    refine asX rfl ?_
    refine asI rfl ?_
    refine r_nil ?_
    refine i_then ?_
    refine t_ret ?_
    refine i_then_ret ?_
    refine i_rp2 rfl rfl rfl ?_ ?_
    all_goals skip
    all_goals first | exact ret_nil_eq (heavy_no (by rw [← payE_is]; exact hc1)) | exact ret_eq rfl rfl (congrArg (Ty.int .i64) (payE_is f bay))
  ·
    refine t_skip ?_
    refine i_then ?_
    refine t_seq ?_
    have h0 := openE_zero hc1
    have hpE : payE f bay = 0 := by rw [← payE_is]; exact hc1
    have hin := inB_true (n := bay) (lo := 0) (hi := (f.bears.length : Int) - 1) (by have := h0.2; simpa using this)
    obtain ⟨n, rfl⟩ := Int.eq_ofNat_of_zero_le hin.1
    have hr := (check_right h0.1).ranged
    have hb4 := hr.bears
    have hfi := boardsOf_fine h0.1
    have hbs := best_spec h0.1 (show n < f.bears.length by omega)
    refine t_as (s := 6) rfl (Ty.when_sub (decide_eq_true hc1)) ?_
    refine t_region ?_
    refine mvPe rfl ?_
    refine mvI rfl ?_
    refine r_call (c_heaviest (boardsOf f) hfi n (by omega)) rfl rfl rfl rfl rfl ?_
    refine mvT rfl ?_
    refine r_extract rfl rfl ?_
    refine r_extract rfl rfl ?_
    refine asI rfl ?_
    refine asI rfl ?_
    refine r_nil ?_
    refine i_then ?_
    refine t_seq ?_
    refine t_as (s := 8) rfl (Ty.sub_int hbs.1) ?_
    refine t_region ?_
    refine mvI rfl ?_
    refine r_call (c_members (topS f n) (pow256 (nt8 h0.1) hbs.2.1)) rfl rfl rfl rfl rfl ?_
    refine asS rfl ?_
    refine asI rfl ?_
    refine r_nil ?_
    refine i_then ?_
    refine t_ret ?_
    refine i_rp2 rfl rfl rfl ?_ ?_
    all_goals skip
    all_goals first | exact ret_eq rfl rfl (congrArg (Ty.sl I64) (heavy_in hpE)) | exact ret_eq rfl rfl (congrArg (Ty.int .i64) hpE.symm)
set_option maxRecDepth 100000 in
theorem c_Worst (f : Flr) (hs : f.Small) (bay : Int) : Ctr Tryz.prog 16 [flrT f, Ty.int .i64 bay] (Ty.tup [Ty.sl I64 (worstR f bay), Ty.int .i64 (payE f bay)]) := by
  refine fn_intro Tryz.func16 rfl (by decide) Tryz.ntmps16 (by exact Nat.le_of_ble_eq_true rfl) fun w0 M0 => ?_
  have hs1 := hs.bears; have hs2 := hs.bins; have hs3 := hs.turnings; have hs4 := hs.rules
  refine t_seq ?_
  refine t_region ?_
  refine r_box_agg rfl ?_
  refine asX rfl ?_
  refine asI rfl ?_
  refine r_nil ?_
  refine i_then ?_
  refine t_seq ?_
  refine t_draw mixed rfl ?_
  refine r_load_ppN rfl rfl rfl (by exact Nat.le_of_ble_eq_true rfl) ?_
  refine r_load_ppN rfl rfl rfl (by exact Nat.le_of_ble_eq_true rfl) ?_
  refine mvI rfl ?_
  refine r_call (c_bay f hs _) rfl rfl rfl rfl rfl ?_
  refine r_not rfl ?_
  refine r_call (c_open f hs _) rfl rfl rfl rfl rfl ?_
  refine mvT rfl ?_
  refine r_extract rfl rfl ?_
  refine r_extract rfl rfl ?_
  refine asW rfl ?_
  refine asI rfl ?_
  refine r_nil ?_
  refine ⟨by kernel_rfl, ?_⟩
  refine i_then ?_
  refine t_seq ?_
  refine t_seq ?_
  refine t_region ?_
  refine mvI rfl ?_
  refine r_bin rfl rfl rfl ?_
  refine r_nil ?_
  refine i_then ?_
  refine t_cond_ndec rfl (fun hc1 => ?_) (fun hc1 => ?_)
  ·
    refine t_seq ?_
    refine t_region ?_
    refine mvI rfl ?_
    refine asX rfl ?_
    refine asI rfl ?_
    refine r_nil ?_
    refine i_then ?_
    refine t_ret ?_
    refine i_then_ret ?_
    refine i_rp2 rfl rfl rfl ?_ ?_
    all_goals skip
    all_goals first | exact ret_nil_eq (worst_no (by rw [← payE_is]; exact hc1)) | exact ret_eq rfl rfl (congrArg (Ty.int .i64) (payE_is f bay))
  ·
    refine t_skip ?_
    refine i_then ?_
    refine t_seq ?_
    have h0 := openE_zero hc1
    have hpE : payE f bay = 0 := by rw [← payE_is]; exact hc1
    have hin := inB_true (n := bay) (lo := 0) (hi := (f.bears.length : Int) - 1) (by have := h0.2; simpa using this)
    obtain ⟨n, rfl⟩ := Int.eq_ofNat_of_zero_le hin.1
    have hr := (check_right h0.1).ranged
    have hb4 := hr.bears
    have hfi := boardsOf_fine h0.1
    have hbs := best_spec h0.1 (show n < f.bears.length by omega)
    refine t_as (s := 6) rfl (Ty.when_sub (decide_eq_true hc1)) ?_
    refine t_region ?_
    refine mvPe rfl ?_
    refine mvI rfl ?_
    refine r_call (c_heaviest (boardsOf f) hfi n (by omega)) rfl rfl rfl rfl rfl ?_
    refine mvT rfl ?_
    refine r_extract rfl rfl ?_
    refine r_extract rfl rfl ?_
    refine asI rfl ?_
    refine asI rfl ?_
    refine r_nil ?_
    refine i_then ?_
    refine t_seq ?_
    refine t_as (s := 8) rfl (Ty.sub_int hbs.1) ?_
    have ho0 := on_in0 h0.1
    have hol := on_len h0.1 hbs.2.1 hbs.2.2.1
    have hp256 := pow256 (nt8 h0.1) hbs.2.1
    have h8 := nt8 h0.1
    refine t_region ?_
    refine asX rfl ?_
    refine r_nil ?_
    refine i_then ?_
    refine t_seq ?_
    refine t_seq ?_
    refine t_region ?_
    refine mvPe rfl ?_
    refine r_call (c_on f h0.1 0 (Nat.two_pow_pos _) (whole_zero h0.1)) rfl rfl rfl rfl rfl ?_
    refine r_len rfl rfl rfl ?_
    refine mvI rfl ?_
    refine r_nil ?_
    refine i_then ?_
    refine t_block ?_
    refine t_loop (fun (k : {k : Nat // k ≤ (onL f 0).length}) => live [(6, Ty.pe BrdE (boardsOf f) 0), (8, Ty.int .i64 (topS f n : Nat)), (10, Ty.row I64 3 47 (((onL f 0).take k.1).filter fun t => (topS f n).testBit t.toNat)), (32, Ty.sl I64 (onL f 0)), (33, Ty.int .i64 (onL f 0).length), (34, Ty.int .i64 (k.1 : Nat))] []) (fun k => (onL f 0).length - k.1) (⟨0, by omega⟩) ?_ fun k => ?_
    · (refine Ent.mk' ?_ ?_ <;> (repeat' (first | exact allSub_zero | exact allTags_nil | refine allSub_succ' ?_ (Ty.sub_any _) | refine allSub_succ' ?_ (Ty.sub_refl _) | refine allSub_succ' ?_ Ty.nil_row)))
      all_goals exact nil_row_eq (by rw [List.take_zero]; rfl)
    ·
      have hk := k.2
      have hfl : (((onL f 0).take k.1).filter fun t => (topS f n).testBit t.toNat).length ≤ 8 := Nat.le_trans (List.length_filter_le _ _) (by rw [List.length_take]; omega)
      refine t_seq ?_
      refine t_region ?_
      refine r_bin rfl rfl rfl ?_
      refine r_nil ?_
      refine i_then ?_
      refine t_seq ?_
      refine t_cond_dec rfl (fun hc2 => ?_) (fun hc2 => ?_)
      ·
        refine t_skip ?_
        refine i_then ?_
        refine t_seq ?_
        refine t_block ?_
        refine t_seq ?_
        refine t_region ?_
        refine r_index_slN rfl rfl rfl rfl rfl rfl (by omega) ?_
        refine r_load_pp rfl rfl rfl rfl ?_
        refine asI rfl ?_
        refine r_nil ?_
        refine i_then ?_
        refine t_seq ?_
        have hx := ho0.2 _ (nth_mem (xs := onL f 0) (k := k.1) (by omega))
        obtain ⟨t, ht⟩ := Int.eq_ofNat_of_zero_le hx.1
        refine t_as (s := 12) rfl (Ty.sub_int ht) ?_
        refine t_region ?_
        refine mvI rfl ?_
        refine mvI rfl ?_
        refine r_shrN rfl rfl (by omega) ?_
        refine r_andN (b := 1) rfl rfl (by have := Nat.shiftRight_le (topS f n) t; omega) (by omega) ?_
        refine r_bin rfl rfl rfl ?_
        refine r_nil ?_
        refine i_then ?_
        refine t_cond_dec rfl (fun hc3 => ?_) (fun hc3 => ?_)
        ·
          refine t_region ?_
          refine mvR rfl ?_
          refine mvI rfl ?_
          refine r_buildSlice (E := I64) (xs := [_]) rfl rfl rfl rfl rfl (by decide) (by decide) (by repeat (first | exact (Parts.nil : Parts _ _ [] _) | (show Parts _ _ ((_, _) :: _) _; apply Parts.one; (· exact (rfl : _ = Ty.int _ _)); (· exact rfl)))) (by exact rfl) rfl ?_
          refine r_append rfl rfl (by decide) rfl rfl rfl rfl rfl rfl (by decide) (by (simp <;> omega)) (by (simp <;> omega)) ?_
          refine asR rfl ?_
          refine r_nil ?_
          refine i_block ?_
          refine i_then ?_
          refine t_region ?_
          refine r_add rfl rfl (by omega) (by omega) ?_
          refine mvI rfl ?_
          refine r_nil ?_
          refine i_round (⟨k.1 + 1, by omega⟩) ?_ (by show (onL f 0).length - (k.1 + 1) < (onL f 0).length - k.1; omega)
          (refine Ent.mk' ?_ ?_ <;> (repeat' (first | exact allSub_zero | exact allTags_nil | refine allSub_succ' ?_ (Ty.sub_any _) | refine allSub_succ' ?_ (Ty.sub_refl _) | refine allSub_succ' ?_ ?_)))
          all_goals skip
          all_goals exact Ty.sub_row (worst_yes (by omega) ht hc3)
        ·
          refine t_skip ?_
          refine i_block ?_
          refine i_then ?_
          refine t_region ?_
          refine r_add rfl rfl (by omega) (by omega) ?_
          refine mvI rfl ?_
          refine r_nil ?_
          refine i_round (⟨k.1 + 1, by omega⟩) ?_ (by show (onL f 0).length - (k.1 + 1) < (onL f 0).length - k.1; omega)
          (refine Ent.mk' ?_ ?_ <;> (repeat' (first | exact allSub_zero | exact allTags_nil | refine allSub_succ' ?_ (Ty.sub_any _) | refine allSub_succ' ?_ (Ty.sub_refl _) | refine allSub_succ' ?_ ?_)))
          all_goals skip
          all_goals exact Ty.sub_row (worst_skip (by omega) ht hc3)
      ·
        refine t_exit ?_
        refine i_then_exit ?_
        refine i_then_exit ?_
        refine i_block_exit rfl ?_
        refine i_then ?_
        refine t_seq ?_
        refine t_region ?_
        refine mvR rfl ?_
        refine mvPe rfl ?_
        refine mvI rfl ?_
        refine r_call (c_on f h0.1 (topS f n) hbs.2.1 hbs.2.2.1) rfl rfl rfl rfl rfl ?_
        refine r_append rfl rfl (by decide) rfl rfl rfl rfl rfl rfl (by decide) (by (dsimp only; omega)) (by omega) ?_
        refine asR rfl ?_
        refine asI rfl ?_
        refine r_nil ?_
        refine i_then ?_
        refine t_ret ?_
        refine i_rp2 rfl rfl rfl ?_ ?_
        all_goals skip
        all_goals first | exact ret_row_eq (by decide) (worst_in hpE (by omega)) | exact ret_eq rfl rfl (congrArg (Ty.int .i64) hpE.symm)
set_option maxRecDepth 100000 in
theorem c_Risk (f : Flr) (hs : f.Small) : Ctr Tryz.prog 18 [flrT f] (Ty.tup [Ty.sl I64 (riskR f), Ty.int .i64 (checkP f)]) := by
  refine fn_intro Tryz.func18 rfl (by decide) Tryz.ntmps18 (by exact Nat.le_of_ble_eq_true rfl) fun w0 M0 => ?_
  have hs1 := hs.bears; have hs2 := hs.bins; have hs3 := hs.turnings; have hs4 := hs.rules
  refine t_seq ?_
  refine t_region ?_
  refine r_box_agg rfl ?_
  refine asX rfl ?_
  refine asI rfl ?_
  refine r_nil ?_
  refine i_then ?_
  refine t_seq ?_
  refine t_region ?_
  refine r_load_ppN rfl rfl rfl (by exact Nat.le_of_ble_eq_true rfl) ?_
  refine r_call (c_open f hs _) rfl rfl rfl rfl rfl ?_
  refine mvT rfl ?_
  refine r_extract rfl rfl ?_
  refine r_extract rfl rfl ?_
  refine asW rfl ?_
  refine asI rfl ?_
  refine r_nil ?_
  refine i_then ?_
  refine t_seq ?_
  refine t_seq ?_
  refine t_region ?_
  refine mvI rfl ?_
  refine r_bin rfl rfl rfl ?_
  refine r_nil ?_
  refine i_then ?_
  refine t_cond_ndec rfl (fun hc1 => ?_) (fun hc1 => ?_)
  ·
    refine t_seq ?_
    refine t_region ?_
    refine mvI rfl ?_
    refine asX rfl ?_
    refine asI rfl ?_
    refine r_nil ?_
    refine i_then ?_
    refine t_ret ?_
    refine i_then_ret ?_
    refine i_rp2 rfl rfl rfl ?_ ?_
    all_goals skip
    all_goals first | exact ret_nil_eq (risk_no hc1) | exact ret_eq rfl rfl (congrArg (Ty.int .i64) (open_falseP f))
  ·
    refine t_skip ?_
    refine i_then ?_
    refine t_seq ?_
    have h0 := openE_zero hc1
    have hr := (check_right h0.1).ranged
    have hb4 := hr.bears
    have hfi := boardsOf_fine h0.1
    refine t_as (s := 4) rfl (Ty.when_sub (decide_eq_true hc1)) ?_
    refine t_region ?_
    refine asX rfl ?_
    refine r_nil ?_
    refine i_then ?_
    refine t_seq ?_
    refine t_seq ?_
    refine t_region ?_
    refine r_field_pp rfl rfl rfl rfl rfl (by decide) ?_
    refine r_load_pp rfl rfl rfl rfl ?_
    refine r_len rfl rfl rfl ?_
    refine mvI rfl ?_
    refine r_nil ?_
    refine i_then ?_
    refine t_block ?_
    refine t_loop (fun (k : {k : Nat // k ≤ f.bears.length}) => live [(1, Ty.pp (flrTys f)), (4, Ty.pe BrdE (boardsOf f) 0), (6, Ty.row I64 3 40 (riskUp f k.1)), (20, Ty.sl I64 f.bears), (21, Ty.int .i64 f.bears.length), (22, Ty.int .i64 (k.1 : Nat))] []) (fun k => f.bears.length - k.1) (⟨0, by omega⟩) ?_ fun k => ?_
    · (refine Ent.mk' ?_ ?_ <;> (repeat' (first | exact allSub_zero | exact allTags_nil | refine allSub_succ' ?_ (Ty.sub_any _) | refine allSub_succ' ?_ (Ty.sub_refl _) | refine allSub_succ' ?_ ?_)))
      all_goals exact nil_row_eq (risk_zero f)
    ·
      have hk := k.2
      have hrl : (riskUp f k.1).length ≤ 4 := Nat.le_trans (risk_len f k.1) (by omega)
      refine t_seq ?_
      refine t_region ?_
      refine r_bin rfl rfl rfl ?_
      refine r_nil ?_
      refine i_then ?_
      refine t_seq ?_
      refine t_cond_dec rfl (fun hc2 => ?_) (fun hc2 => ?_)
      ·
        refine t_skip ?_
        refine i_then ?_
        refine t_seq ?_
        refine t_block ?_
        refine t_seq ?_
        refine t_region ?_
        refine mvI rfl ?_
        refine r_index_slN rfl rfl rfl rfl rfl rfl (by omega) ?_
        refine r_load_pp rfl rfl rfl rfl ?_
        refine asI rfl ?_
        refine asI rfl ?_
        refine r_nil ?_
        refine i_then ?_
        refine t_seq ?_
        refine t_region ?_
        refine mvPe rfl ?_
        refine mvI rfl ?_
        refine r_call (c_heaviest (boardsOf f) hfi k.1 (by omega)) rfl rfl rfl rfl rfl ?_
        refine mvT rfl ?_
        refine r_extract rfl rfl ?_
        refine r_extract rfl rfl ?_
        refine asI rfl ?_
        refine asI rfl ?_
        refine r_nil ?_
        refine i_then ?_
        refine t_seq ?_
        refine t_as (s := 10) rfl (Ty.sub_int (heavy_def f k.1)) ?_
        refine t_region ?_
        refine mvI rfl ?_
        refine mvI rfl ?_
        refine r_bin rfl rfl rfl ?_
        refine r_nil ?_
        refine i_then ?_
        refine t_cond_dec rfl (fun hc3 => ?_) (fun hc3 => ?_)
        ·
          refine t_region ?_
          refine mvR rfl ?_
          refine mvI rfl ?_
          refine r_buildSlice (E := I64) (xs := [_]) rfl rfl rfl rfl rfl (by decide) (by decide) (by repeat (first | exact (Parts.nil : Parts _ _ [] _) | (show Parts _ _ ((_, _) :: _) _; apply Parts.one; (· exact (rfl : _ = Ty.int _ _)); (· exact rfl)))) (by exact rfl) rfl ?_
          refine r_append rfl rfl (by decide) rfl rfl rfl rfl rfl rfl (by decide) (by (simp <;> omega)) (by (simp <;> omega)) ?_
          refine asR rfl ?_
          refine r_nil ?_
          refine i_block ?_
          refine i_then ?_
          refine t_region ?_
          refine r_add rfl rfl (by omega) (by omega) ?_
          refine mvI rfl ?_
          refine r_nil ?_
          refine i_round (⟨k.1 + 1, by omega⟩) ?_ (by show f.bears.length - (k.1 + 1) < f.bears.length - k.1; omega)
          (refine Ent.mk' ?_ ?_ <;> (repeat' (first | exact allSub_zero | exact allTags_nil | refine allSub_succ' ?_ (Ty.sub_any _) | refine allSub_succ' ?_ (Ty.sub_refl _) | refine allSub_succ' ?_ ?_)))
          all_goals skip
          all_goals exact Ty.sub_row (by rw [riskUp_succ, if_pos hc3])
        ·
          refine t_skip ?_
          refine i_block ?_
          refine i_then ?_
          refine t_region ?_
          refine r_add rfl rfl (by omega) (by omega) ?_
          refine mvI rfl ?_
          refine r_nil ?_
          refine i_round (⟨k.1 + 1, by omega⟩) ?_ (by show f.bears.length - (k.1 + 1) < f.bears.length - k.1; omega)
          (refine Ent.mk' ?_ ?_ <;> (repeat' (first | exact allSub_zero | exact allTags_nil | refine allSub_succ' ?_ (Ty.sub_any _) | refine allSub_succ' ?_ (Ty.sub_refl _) | refine allSub_succ' ?_ ?_)))
          all_goals skip
          all_goals exact Ty.sub_row (by rw [riskUp_succ, if_neg hc3, List.append_nil])
      ·
        refine t_exit ?_
        refine i_then_exit ?_
        refine i_then_exit ?_
        refine i_block_exit rfl ?_
        refine i_then ?_
        refine t_seq ?_
        refine t_region ?_
        refine mvR rfl ?_
        refine asR rfl ?_
        refine asI rfl ?_
        refine r_nil ?_
        refine i_then ?_
        refine t_ret ?_
        refine i_rp2 rfl rfl rfl ?_ ?_
        all_goals skip
        all_goals first | exact ret_row_eq (by decide) (risk_in hc1 (by omega)) | exact ret_eq rfl rfl (congrArg (Ty.int .i64) h0.1.symm)
end Go.Proofs.YtifgbnbkimcchaaGreat

namespace Go.Proofs.YtifgbnbkimcchaaGreat
open Go Go.T
structure OkP (f : Flr) (p : Pay) : Prop where
  src : 0 ≤ p.src ∧ p.src < f.turnings.length
  dst : 0 ≤ p.dst ∧ p.dst < f.turnings.length
  much : 1 ≤ p.much ∧ p.much ≤ 100000
  ne : p.dst ≠ p.src
  lead : p.dst ∈ aheadM f p.src
def OkU (f : Flr) (pays : List Pay) (q : Nat) : Prop := ∀ p ∈ pays.take q, OkP f p
def FitU (f : Flr) (bay : Nat) (pays : List Pay) (k : Nat) : Prop := ∀ t : Nat, t < k → paidBy pays t ≤ max 0 (addS f t bay) ∧ paidTo pays t ≤ max 0 (-(addS f t bay))
noncomputable def boundV (f : Flr) (bay : Nat) (pays : List Pay) : Int × Bool := open Classical in if Holds f bay pays then (boundOf f bay pays, true) else (0, false)
theorem addBS {f : Flr} (h : checkP f = 0) {t b : Nat} (ht : t < f.turnings.length) (hb : b < f.bears.length) : addB (boardsOf f) b t = addS f t b := (addB_eq h ht hb).trans (addM_eq (check_right h).named ht hb)
def addsU (f : Flr) (b k : Nat) : List Int := (List.range k).map fun t => addS f t b
def upU (f : Flr) (b k : Nat) : Int := firstS f b f.bins.length + sm k fun t => max 0 (addS f t b)
def byU (f : Flr) (pays : List Pay) (q : Nat) : List Int := (List.range f.turnings.length).map fun (t : Nat) => paidBy (pays.take q) t
def toU (f : Flr) (pays : List Pay) (q : Nat) : List Int := (List.range f.turnings.length).map fun (t : Nat) => paidTo (pays.take q) t
def InR (f : Flr) (l : List Pay) : Prop := ∀ p ∈ l, (0 ≤ p.src ∧ p.src < f.turnings.length) ∧ 0 ≤ p.dst ∧ p.dst < f.turnings.length
end Go.Proofs.YtifgbnbkimcchaaGreat

namespace Go.Proofs.YtifgbnbkimcchaaGreat
open Go Go.T
theorem adds_list (f : Flr) (b : Nat) : ∀ l : List Int, l.Nodup → (∀ t ∈ l, 0 ≤ t ∧ t < f.turnings.length) → (l.map fun t => addS f t.toNat b).sum = sm f.turnings.length fun t => if (t : Int) ∈ l then addS f t b else 0
  | [], _, _ => by rw [sm_none _ (fun i _ => by simp)]; rfl
  | x :: l, hn, hr => by
    have hx := hr x List.mem_cons_self
    obtain ⟨t, rfl⟩ := Int.eq_ofNat_of_zero_le hx.1
    have ih := adds_list f b l (List.nodup_cons.1 hn).2 fun y hy => hr y (List.mem_cons_of_mem _ hy)
    have hnt := (List.nodup_cons.1 hn).1
    rw [List.map_cons, List.sum_cons, ih, Int.toNat_natCast, ← sm_one (addS f t b) (n := f.turnings.length) (x := t) (by omega), ← sm_add]
    refine sm_congr _ fun i hi => ?_
    by_cases e : t = i
    · subst e
      rw [if_pos rfl, if_neg hnt, if_pos List.mem_cons_self]; omega
    · rw [if_neg e]
      by_cases h2 : (i : Int) ∈ l
      · rw [if_pos h2, if_pos (List.mem_cons_of_mem _ h2)]; omega
      · rw [if_neg h2, if_neg (fun hx => by rcases List.mem_cons.1 hx with hx | hx; exact e (by omega); exact h2 hx)]; omega
theorem rep_load {f : Flr} (h : checkP f = 0) {b : Nat} (hb : b < f.bears.length) {l : List Int} {k s : Nat} (hr : Rep f (l.take k) s) : loadO f l b k = nth (loadP (boardsOf f) s) b := by
  unfold loadO
  rw [load_bits h s hr.lt hb, firstB_eq h hb, first_eq f hb, adds_list f b _ hr.nodup hr.rng]
  congr 1
  refine sm_congr _ fun t ht => ?_
  rw [addBS h ht hb]
  by_cases e : s.testBit t = true
  · rw [if_pos e, if_pos ((hr.bit t).1 e)]
  · rw [if_neg e, if_neg (fun hx => e ((hr.bit t).2 hx))]
theorem rep_le {f : Flr} (h : checkP f = 0) {b : Nat} (hb : b < f.bears.length) {l : List Int} {k s : Nat} (hr : Rep f (l.take k) s) : loadO f l b k ≤ heavyV f b := by
  rw [rep_load h hb hr]; exact heavy_ge b hr.lt hr.whole
theorem order_reps {f : Flr} (h : checkP f = 0) {l : List Int} (hl : ∀ i, i < l.length → readyM f (l.take i) (nth l i) = true) (hr : ∀ x ∈ l, 0 ≤ x ∧ x < (f.turnings.length : Int)) : ∀ k, k ≤ l.length → ∃ s, Rep f (l.take k) s
  | 0, _ => ⟨0, by rw [List.take_zero]; exact rep_nil h⟩
  | k + 1, hk => by
    obtain ⟨s, hs⟩ := order_reps h hl hr k (by omega)
    have hx := hr _ (nth_mem (show k < l.length by omega))
    obtain ⟨t, ht⟩ := Int.eq_ofNat_of_zero_le hx.1
    have h1 := hl k (by omega)
    rw [ht] at h1
    obtain ⟨h2, h3⟩ := (ready_iff h hs (t := t) (by omega)).1 h1
    exact ⟨_, by rw [take_nth (by omega), ht]; exact rep_add h hs (by omega) h2 h3⟩
theorem order_le {f : Flr} (h : checkP f = 0) {b : Nat} (hb : b < f.bears.length) {l : List Int} (ho : orderM f l = 0) : maxM (loadsO f l b) ≤ heavyV f b := by
  have hs := order_spec ho
  rw [maxM_le (by rw [loadsO_len]; omega)]
  intro i hi
  rw [loadsO_len] at hi
  obtain ⟨s, hr⟩ := order_reps h (order_ready ho) hs.2.1 i (by omega)
  rw [loadsO_nth f b (by omega)]
  exact rep_le h hb hr
theorem heavy_load {f : Flr} (h : checkP f = 0) {b : Nat} (hb : b < f.bears.length) : loadO f (membersM (topS f b)) b (membersM (topS f b)).length = heavyV f b := by
  have hs := best_spec h hb
  rw [rep_load h hb (s := topS f b) (by rw [List.take_length]; exact rep_members h hs.2.1 hs.2.2.1)]
  exact hs.2.2.2
theorem heavy_closed {f : Flr} (h : checkP f = 0) {b : Nat} (hb : b < f.bears.length) {t a : Int} (ht : t ∈ membersM (topS f b)) (ha : a ∈ aheadM f t) : a ∈ membersM (topS f b) := by
  have hs := best_spec h hb
  have hr := rep_members h hs.2.1 hs.2.2.1
  obtain ⟨h1, h2⟩ := mem_aheadM.1 ha
  have h3 := hr.rng t ht
  obtain ⟨i, rfl⟩ := Int.eq_ofNat_of_zero_le h3.1
  obtain ⟨j, rfl⟩ := Int.eq_ofNat_of_zero_le h1.1
  exact (hr.bit j).1 ((whole_iff h hs.2.1).1 hs.2.2.1 i j ((hr.bit i).2 ht) h2)
theorem filter_at {p : Int → Bool} : ∀ (l : List Int) (i : Nat), i < (l.filter p).length → ∃ j, j < l.length ∧ nth l j = nth (l.filter p) i ∧ (l.filter p).take i = (l.take j).filter p
  | [], i, h => by simp at h
  | x :: l, i, h => by
    by_cases hx : p x = true
    · rw [List.filter_cons, if_pos hx] at h ⊢
      cases i with
      | zero => exact ⟨0, by simp, rfl, by simp⟩
      | succ i =>
        obtain ⟨j, h1, h2, h3⟩ := filter_at l i (by simpa using h)
        exact ⟨j + 1, by simpa using h1, h2, by rw [List.take_succ_cons, List.take_succ_cons, List.filter_cons, if_pos hx, h3]⟩
    · rw [List.filter_cons, if_neg hx] at h ⊢
      obtain ⟨j, h1, h2, h3⟩ := filter_at l i h
      exact ⟨j + 1, by simpa using h1, h2, by rw [List.take_succ_cons, List.filter_cons, if_neg hx, h3]⟩
def worst0 (f : Flr) (b : Nat) : List Int := (onL f 0).filter fun t => (topS f b).testBit t.toNat
theorem worst_rep {f : Flr} (h : checkP f = 0) {b : Nat} (hb : b < f.bears.length) : Rep f (worst0 f b) (topS f b) := by
  have hs := best_spec h hb
  obtain ⟨⟨u, hu⟩, hl, _⟩ := on_spec h (rep_nil h)
  rw [List.nil_append] at hu hl
  refine rep_of (fun t ht => hu.rng t (List.mem_filter.1 ht).1) (List.Pairwise.filter _ hu.nodup) (fun a => ?_) hs.2.1 h hs.2.2.1
  unfold worst0
  rw [List.mem_filter, Int.toNat_natCast]
  refine ⟨fun hx => ⟨?_, hx⟩, fun hx => hx.2⟩
  have ha := testBit_lt hs.2.1 hx
  exact order_all h hu hl ⟨by omega, by omega⟩
theorem worst_ready {f : Flr} (h : checkP f = 0) {b : Nat} (hb : b < f.bears.length) {i : Nat} (hi : i < (worst0 f b).length) : readyM f ((worst0 f b).take i) (nth (worst0 f b) i) = true := by
  have hs := best_spec h hb
  obtain ⟨j, h1, h2, h3⟩ := filter_at (onL f 0) i hi
  obtain ⟨_, _, hall⟩ := on_spec h (rep_nil h)
  have h4 := (hall j h1).2
  rw [List.nil_append] at h4
  have hm : nth (worst0 f b) i ∈ worst0 f b := nth_mem hi
  show readyM f (((onL f 0).filter fun t => (topS f b).testBit t.toNat).take i) (nth ((onL f 0).filter fun t => (topS f b).testBit t.toNat) i) = true
  rw [h3, ← h2]
  unfold readyM at h4 ⊢
  rw [Bool.and_eq_true, List.all_eq_true, Bool.not_eq_true', decide_eq_false_iff_not] at h4 ⊢
  refine ⟨fun hx => h4.1 (List.mem_filter.1 hx).1, fun a ha => decide_eq_true (List.mem_filter.2 ⟨of_decide_eq_true (h4.2 a ha), ?_⟩)⟩
  obtain ⟨ha1, ha2⟩ := mem_aheadM.1 ha
  have hr := worst_rep h hb
  have ht : nth (onL f 0) j ∈ worst0 f b := by rw [h2]; exact hm
  have hrg := hr.rng _ ht
  obtain ⟨n, hn⟩ := Int.eq_ofNat_of_zero_le hrg.1
  obtain ⟨m, rfl⟩ := Int.eq_ofNat_of_zero_le ha1.1
  rw [hn] at ha2 ht
  exact (whole_iff h hs.2.1).1 hs.2.2.1 n m ((hr.bit n).2 ht) ha2
theorem worst_order {f : Flr} (h : checkP f = 0) {b : Nat} (hb : b < f.bears.length) : orderM f (worstL f b) = 0 := by
  obtain ⟨⟨u, hu⟩, hl, hall⟩ := on_spec h (worst_rep h hb)
  refine order_of_ready (s := u) hu hl fun i hi => ?_
  show readyM f ((worst0 f b ++ onL f (topS f b)).take i) (nth (worst0 f b ++ onL f (topS f b)) i) = true
  rcases Nat.lt_or_ge i (worst0 f b).length with c | c
  · rw [List.take_append_of_le_length (by omega), show nth (worst0 f b ++ onL f (topS f b)) i = nth (worst0 f b) i by unfold nth; rw [List.getD_eq_getElem?_getD, List.getD_eq_getElem?_getD, List.getElem?_append_left c]]
    exact worst_ready h hb c
  · have hi2 : i < (worst0 f b).length + (onL f (topS f b)).length := by
      have : (worstL f b).length = (worst0 f b).length + (onL f (topS f b)).length := List.length_append ..
      omega
    obtain ⟨m, rfl⟩ : ∃ m, i = (worst0 f b).length + m := ⟨i - (worst0 f b).length, by omega⟩
    rw [List.take_length_add_append, show nth (worst0 f b ++ onL f (topS f b)) ((worst0 f b).length + m) = nth (onL f (topS f b)) m by unfold nth; rw [List.getD_eq_getElem?_getD, List.getD_eq_getElem?_getD, List.getElem?_append_right (by omega), Nat.add_sub_cancel_left]]
    exact (hall m (by omega)).2
theorem worst_max {f : Flr} (h : checkP f = 0) {b : Nat} (hb : b < f.bears.length) : maxM (loadsO f (worstL f b) b) = heavyV f b := by
  refine Int.le_antisymm (order_le h hb (worst_order h hb)) ?_
  have hk : (worst0 f b).length ≤ (worstL f b).length := by
    have : (worstL f b).length = (worst0 f b).length + (onL f (topS f b)).length := List.length_append ..
    omega
  have h1 := (maxM_le (l := loadsO f (worstL f b) b) (by rw [loadsO_len]; omega)).1 (Int.le_refl _) (worst0 f b).length (by rw [loadsO_len]; omega)
  rw [loadsO_nth f b hk] at h1
  have h2 := rep_load h hb (l := worstL f b) (k := (worst0 f b).length) (s := topS f b) (by
    show Rep f ((worst0 f b ++ onL f (topS f b)).take (worst0 f b).length) _
    rw [List.take_left]; exact worst_rep h hb)
  rw [h2, (best_spec h hb).2.2.2] at h1
  exact h1
def Inc (l : List Int) : Prop := ∀ i, i + 1 < l.length → nth l i < nth l (i + 1)
theorem inc_of {l : List Int} (h : l.Pairwise (· < ·)) : Inc l := fun i hi => by
  rw [nth_lt (show i < l.length by omega), nth_lt hi]
  exact List.pairwise_iff_getElem.1 h i (i + 1) (by omega) hi (Nat.lt_succ_self i)
theorem inc_range (p : Nat → Bool) (n : Nat) : Inc (((List.range n).filter p).map fun (i : Nat) => (i : Int)) := by
  refine inc_of ?_
  rw [List.pairwise_map]
  exact List.Pairwise.imp (fun h => by omega) (List.Pairwise.filter _ List.pairwise_lt_range)
theorem inc_members (s : Nat) : Inc (membersM s) := inc_range _ 8
end Go.Proofs.YtifgbnbkimcchaaGreat

namespace Go.Proofs.YtifgbnbkimcchaaGreat
open Go Go.T
def rowUp (f : Flr) (l : List Int) (b : Nat) (n : Int) : Nat → Int
  | 0 => n
  | j + 1 => max (rowUp f l b n j) (nth (nth (loadsM f l) j) b)
def mostUp (f : Flr) (os : List (List Int)) (b : Nat) : Nat → Int
  | 0 => nth (nth (loadsM f []) 0) b
  | k + 1 => rowUp f (nth os k) b (mostUp f os b k) (loadsM f (nth os k)).length
theorem rowUp_zero (f : Flr) (l : List Int) (b : Nat) (n : Int) : rowUp f l b n 0 = n := rfl
theorem rowUp_succ (f : Flr) (l : List Int) (b : Nat) (n : Int) (j : Nat) : rowUp f l b n (j + 1) = max (rowUp f l b n j) (nth (nth (loadsM f l) j) b) := rfl
theorem mostUp_zero (f : Flr) (os : List (List Int)) (b : Nat) : mostUp f os b 0 = nth (nth (loadsM f []) 0) b := rfl
theorem mostUp_end (f : Flr) (os : List (List Int)) (b : Nat) {k j : Nat} (h : j = (loadsM f (nth os k)).length) : rowUp f (nth os k) b (mostUp f os b k) j = mostUp f os b (k + 1) := by subst h; rfl
theorem rowM_len (f : Flr) {l : List Int} {i : Nat} (h : i < (loadsM f l).length) : (nth (loadsM f l) i).length = f.bears.length := by
  have h1 : i < l.length + 1 := by simpa [loadsM] using h
  unfold loadsM
  rw [nth_map_range _ h1]
  unfold loadM; simp
theorem row_le (f : Flr) (l : List Int) (b : Nat) (n x : Int) : ∀ j, rowUp f l b n j ≤ x ↔ n ≤ x ∧ ∀ i, i < j → nth (nth (loadsM f l) i) b ≤ x
  | 0 => ⟨fun h => ⟨h, fun i hi => by omega⟩, fun h => h.1⟩
  | j + 1 => by
    rw [rowUp_succ, Int.max_le, row_le f l b n x j]
    refine ⟨fun ⟨⟨h1, h2⟩, h3⟩ => ⟨h1, fun i hi => ?_⟩, fun ⟨h1, h2⟩ => ⟨⟨h1, fun i hi => h2 i (by omega)⟩, h2 j (by omega)⟩⟩
    rcases Nat.lt_or_ge i j with c | c
    · exact h2 i c
    · rw [show i = j by omega]; exact h3
theorem mostUp_le (f : Flr) (os : List (List Int)) (b : Nat) (x : Int) : ∀ k, mostUp f os b k ≤ x ↔ nth (nth (loadsM f []) 0) b ≤ x ∧ ∀ i, i < k → ∀ j, j < (loadsM f (nth os i)).length → nth (nth (loadsM f (nth os i)) j) b ≤ x
  | 0 => ⟨fun h => ⟨h, fun i hi => by omega⟩, fun h => h.1⟩
  | k + 1 => by
    show rowUp f (nth os k) b (mostUp f os b k) (loadsM f (nth os k)).length ≤ x ↔ _
    rw [row_le, mostUp_le f os b x k]
    refine ⟨fun ⟨⟨h1, h2⟩, h3⟩ => ⟨h1, fun i hi => ?_⟩, fun ⟨h1, h2⟩ => ⟨⟨h1, fun i hi => h2 i (by omega)⟩, h2 k (by omega)⟩⟩
    rcases Nat.lt_or_ge i k with c | c
    · exact h2 i c
    · rw [show i = k by omega]; exact h3
theorem most_of {f : Flr} (h : checkP f = 0) {b : Nat} (hb : b < f.bears.length) {os : List (List Int)} (ho : ∀ l ∈ os, orderM f l = 0) (hw : worstL f b ∈ os) : mostUp f os b os.length = heavyV f b := by
  have hn := (check_right h).named
  refine Int.le_antisymm ((mostUp_le f os b _ _).2 ⟨?_, fun i hi j hj => ?_⟩) ?_
  · rw [loads_loadO hn (by simp) hb (Nat.zero_le _)]
    exact rep_le h hb (s := 0) (by rw [List.take_nil]; exact rep_nil h)
  · have hl := ho _ (nth_mem hi)
    have hs := order_spec hl
    rw [loadsM_len] at hj
    rw [loads_loadO hn hs.2.1 hb (by omega)]
    have h1 := (maxM_le (l := loadsO f (nth os i) b) (by rw [loadsO_len]; omega)).1 (order_le h hb hl) j (by rw [loadsO_len]; omega)
    rwa [loadsO_nth f b (by omega)] at h1
  · obtain ⟨i, hi, e⟩ := List.getElem_of_mem hw
    have hwo := worst_order h hb
    have hs := order_spec hwo
    have h1 := ((mostUp_le f os b _ _).1 (Int.le_refl _)).2 i hi
    rw [nth_lt hi, e] at h1
    rw [← worst_max h hb]
    rw [maxM_le (by rw [loadsO_len]; omega)]
    intro j hj
    rw [loadsO_len] at hj
    have h2 := h1 j (by rw [loadsM_len]; omega)
    rw [loads_loadO hn hs.2.1 hb (by omega)] at h2
    rwa [loadsO_nth f b (by omega)]
theorem most_orders {f : Flr} (h : checkP f = 0) {b : Nat} (hb : b < f.bears.length) : mostUp f (ordersR f) b (ordersR f).length = heavyV f b :=
  most_of h hb (fun _ hl => orders_right h hl) (orders_all (worst_order h hb))
theorem most_one {f : Flr} (h : checkP f = 0) {b : Nat} (hb : b < f.bears.length) : mostUp f [worstL f b] b 1 = heavyV f b :=
  most_of h hb (os := [worstL f b]) (fun l hl => by rw [List.mem_singleton.1 hl]; exact worst_order h hb) List.mem_cons_self
end Go.Proofs.YtifgbnbkimcchaaGreat

namespace Go.Proofs.YtifgbnbkimcchaaGreat
open Go Go.T
set_option maxHeartbeats 2000000
attribute [local irreducible] dInt dBool dSl dPp dPtr dAgg dTup dClo dAny dEx dStr dGd dCells dVec dVs dRow dOp nth Tri Into TOps Ctr bodyPost Exit.then Exit.inBlock Code.wp Code.wpIn dWhen dPa dPe dAo dArr dMp dPm dMap dCJ CtrG CtrI OpY keepPost iterPost bodyPostM roundQ
attribute [local irreducible] mostUp rowUp loadsM
set_option maxRecDepth 100000 in
theorem c_rMost (f : Flr) (hs : f.Small) (hr : f.Ranged) (hn : f.Named) (os : List (List Int)) (ho : ∀ l ∈ os, (∀ x ∈ l, 0 ≤ x ∧ x < f.turnings.length) ∧ l.length ≤ 20) (b : Nat) (hb : b < f.bears.length) : Ctr Tryz.prog 12 [flrT f, Ty.sl RowE os, Ty.int .i64 (b : Nat)] (Ty.int .i64 (mostUp f os b os.length)) := by
  refine fn_intro Tryz.func12 rfl (by decide) Tryz.ntmps12 (by exact Nat.le_of_ble_eq_true rfl) fun w0 M0 => ?_
  refine t_fact (s := 1) rfl rfl sl_len fun hol => ?_
  have hs1 := hs.bears; have hs2 := hs.bins; have hs3 := hs.turnings; have hs4 := hs.rules
  refine t_seq ?_
  refine t_region ?_
  refine r_box_agg rfl ?_
  refine asI rfl ?_
  refine r_nil ?_
  refine i_then ?_
  refine t_seq ?_
  refine t_region ?_
  refine r_load_ppN rfl rfl rfl (by exact Nat.le_of_ble_eq_true rfl) ?_
  refine r_callP [] (c_rLoads f hs hr hn [] (by simp) (by simp)) rfl (by repeat (first | exact lends_nil | refine lends_cons (lend_pub rfl rfl) ?_ | refine lends_cons lend_nil ?_)) rfl rfl (by intro u hu; cases hu) ?_
  refine r_index_slN (i := 0) rfl rfl rfl rfl rfl rfl (by rw [loadsM_len]; omega) ?_
  refine r_load_pp rfl rfl rfl rfl ?_
  refine mvI rfl ?_
  refine r_index_sl rfl rfl rfl rfl rfl rfl (by omega) (by rw [Int.toNat_natCast, rowM_len f (by rw [loadsM_len]; omega)]; omega) ?_
  refine r_load_pp rfl rfl rfl rfl ?_
  refine asI rfl ?_
  refine r_nil ?_
  refine i_then ?_
  refine t_seq ?_
  refine t_seq ?_
  refine t_region ?_
  refine asI rfl ?_
  refine r_nil ?_
  refine i_then ?_
  refine t_block ?_
  refine t_loop (fun (k : {k : Nat // k ≤ os.length}) => live [(1, Ty.sl RowE os), (2, Ty.int .i64 (b : Nat)), (3, Ty.pp (flrTys f)), (7, Ty.int .i64 (mostUp f os b k.1)), (8, Ty.int .i64 (k.1 : Nat))] []) (fun k => os.length - k.1) (⟨0, by omega⟩) ?_ fun k => ?_
  · (refine Ent.mk' ?_ ?_ <;> (repeat' (first | exact allSub_zero | exact allTags_nil | refine allSub_succ' ?_ (Ty.sub_any _) | refine allSub_succ' ?_ (Ty.sub_refl _) | refine allSub_succ' ?_ ?_)))
    all_goals exact Ty.sub_int (mostUp_zero f os b).symm
  ·
    have hk := k.2
    refine t_seq ?_
    refine t_seq ?_
    refine t_region ?_
    refine mvI rfl ?_
    refine mvS rfl ?_
    refine r_len rfl rfl rfl ?_
    refine r_bin rfl rfl rfl ?_
    refine r_nil ?_
    refine i_then ?_
    refine t_cond_dec rfl (fun hc1 => ?_) (fun hc1 => ?_)
    ·
      refine t_skip ?_
      refine i_then ?_
      refine t_seq ?_
      refine t_block ?_
      refine t_seq ?_
      refine t_draw mixed rfl ?_
      refine r_load_ppN rfl rfl rfl (by exact Nat.le_of_ble_eq_true rfl) ?_
      refine mvS rfl ?_
      refine mvI rfl ?_
      refine r_index_slN rfl rfl rfl rfl rfl rfl (by omega) ?_
      refine r_load_pp rfl rfl rfl rfl ?_
      refine r_call (c_rLoads f hs hr hn (nth os k.1) (ho _ (nth_mem (by omega))).1 (ho _ (nth_mem (by omega))).2) rfl rfl rfl rfl rfl ?_
      refine asS rfl ?_
      refine r_nil ?_
      refine ⟨by kernel_rfl, ?_⟩
      refine i_then ?_
      refine t_seq ?_
      refine t_region ?_
      refine asI rfl ?_
      refine r_nil ?_
      refine i_then ?_
      refine t_block ?_
      refine t_loop (fun (j : {j : Nat // j ≤ (loadsM f (nth os k.1)).length}) => live [(1, Ty.sl RowE os), (2, Ty.int .i64 (b : Nat)), (3, Ty.pp (flrTys f)), (7, Ty.int .i64 (rowUp f (nth os k.1) b (mostUp f os b k.1) j.1)), (8, Ty.int .i64 (k.1 : Nat)), (9, Ty.sl RowE (loadsM f (nth os k.1))), (10, Ty.int .i64 (j.1 : Nat))] []) (fun j => (loadsM f (nth os k.1)).length - j.1) (⟨0, by omega⟩) ?_ fun j => ?_
      · (refine Ent.mk' ?_ ?_ <;> (repeat' (first | exact allSub_zero | exact allTags_nil | refine allSub_succ' ?_ (Ty.sub_any _) | refine allSub_succ' ?_ (Ty.sub_refl _) | refine allSub_succ' ?_ ?_)))
        all_goals exact Ty.sub_int (rowUp_zero ..).symm
      ·
        have hj := j.2
        have hll := loadsM_len f (nth os k.1)
        have hl20 := (ho _ (nth_mem (xs := os) (k := k.1) (by omega))).2
        refine t_seq ?_
        refine t_seq ?_
        refine t_region ?_
        refine mvI rfl ?_
        refine mvS rfl ?_
        refine r_len rfl rfl rfl ?_
        refine r_bin rfl rfl rfl ?_
        refine r_nil ?_
        refine i_then ?_
        refine t_cond_dec rfl (fun hc2 => ?_) (fun hc2 => ?_)
        ·
          refine t_skip ?_
          refine i_then ?_
          refine t_seq ?_
          refine t_block ?_
          refine t_region ?_
          refine mvI rfl ?_
          refine mvS rfl ?_
          refine mvI rfl ?_
          refine r_index_slN rfl rfl rfl rfl rfl rfl (by omega) ?_
          refine r_load_pp rfl rfl rfl rfl ?_
          refine mvI rfl ?_
          refine r_index_sl rfl rfl rfl rfl rfl rfl (by omega) (by rw [Int.toNat_natCast, rowM_len f (by omega)]; omega) ?_
          refine r_load_pp rfl rfl rfl rfl ?_
          refine r_max rfl rfl ?_
          refine asI rfl ?_
          refine r_nil ?_
          refine i_block ?_
          refine i_then ?_
          refine t_region ?_
          refine mvI rfl ?_
          refine r_add rfl rfl (by omega) (by omega) ?_
          refine asI rfl ?_
          refine r_nil ?_
          refine i_round (⟨j.1 + 1, by omega⟩) ?_ (by show (loadsM f (nth os k.1)).length - (j.1 + 1) < (loadsM f (nth os k.1)).length - j.1; omega)
          (refine Ent.mk' ?_ ?_ <;> (repeat' (first | exact allSub_zero | exact allTags_nil | refine allSub_succ' ?_ (Ty.sub_any _) | refine allSub_succ' ?_ (Ty.sub_refl _) | refine allSub_succ' ?_ ?_)))
          all_goals skip
          all_goals exact Ty.sub_int (rowUp_succ ..).symm
        ·
          refine t_exit ?_
          refine i_then_exit ?_
          refine i_then_exit ?_
          refine i_block_exit rfl ?_
          refine i_block ?_
          refine i_then ?_
          refine t_region ?_
          refine mvI rfl ?_
          refine r_add rfl rfl (by omega) (by omega) ?_
          refine asI rfl ?_
          refine r_nil ?_
          refine i_round (⟨k.1 + 1, by omega⟩) ?_ (by show os.length - (k.1 + 1) < os.length - k.1; omega)
          (refine Ent.mk' ?_ ?_ <;> (repeat' (first | exact allSub_zero | exact allTags_nil | refine allSub_succ' ?_ (Ty.sub_any _) | refine allSub_succ' ?_ (Ty.sub_refl _) | refine allSub_succ' ?_ ?_)))
          all_goals skip
          all_goals exact Ty.sub_int (mostUp_end f os b (k := k.1) (j := j.1) (by omega))
    ·
      refine t_exit ?_
      refine i_then_exit ?_
      refine i_then_exit ?_
      refine i_block_exit rfl ?_
      refine i_then ?_
      refine t_seq ?_
      refine t_region ?_
      refine mvI rfl ?_
      refine asI rfl ?_
      refine r_nil ?_
      refine i_then ?_
      refine t_ret ?_
      refine i_rp1 rfl rfl ?_
      all_goals skip
      all_goals exact ret_eq rfl rfl (congrArg (Ty.int .i64) (by rw [show k.1 = os.length by omega]))
end Go.Proofs.YtifgbnbkimcchaaGreat

namespace Go.Proofs.YtifgbnbkimcchaaGreat
open Go Go.T
set_option maxHeartbeats 2000000
attribute [local irreducible] dInt dBool dSl dPp dPtr dAgg dTup dClo dAny dEx dStr dGd dCells dVec dVs dRow dOp nth Tri Into TOps Ctr bodyPost Exit.then Exit.inBlock Code.wp Code.wpIn dWhen dPa dPe dAo dArr dMp dPm dMap dCJ CtrG CtrI OpY keepPost iterPost bodyPostM roundQ
def tryS (f : Flr) (s : Sk) : Nat → Sk
  | 0 => s
  | k + 1 => (triedUp f (tryS f s k) f.turnings.length).2
def tryO (f : Flr) (s : Sk) (k : Nat) : List Int := (triedUp f (tryS f s k) f.turnings.length).1
def oneT (f : Flr) (x : Int) : Int := if 1 < f.turnings.length then (IntKind.i64.wrap x).tmod f.turnings.length else 0
def mustJ (f : Flr) (x y : Int) : Bool := if 1 < f.turnings.length then mustR f (oneT f x) (oneT f y) else false
attribute [local irreducible] tryS tryO Md.flr safeR safeE firstsR marginR keepR mustR mustV oneT mustJ safestP
end Go.Proofs.YtifgbnbkimcchaaGreat

namespace Go.Proofs.YtifgbnbkimcchaaGreat
open Go Go.T
set_option maxHeartbeats 2000000
attribute [local irreducible] dInt dBool dSl dPp dPtr dAgg dTup dClo dAny dEx dStr dGd dCells dVec dVs dRow dOp nth Tri Into TOps Ctr bodyPost Exit.then Exit.inBlock Code.wp Code.wpIn dWhen dPa dPe dAo dArr dMp dPm dMap dCJ CtrG CtrI OpY keepPost iterPost bodyPostM roundQ
attribute [local irreducible] tryS tryO Md.flr rowsE marE brkE brkT brkB orderE clr
end Go.Proofs.YtifgbnbkimcchaaGreat

namespace Go.T
open Go Go.RowKit
section
variable {P : Program} {fr : Fr} {ops : Array Oper} {A : As} {rest : List Oper} {K : As → List (As × Fx) → Prop} {d : Nat} {t ty' : TypeId} {p : String} {e : Array Edge} [T : Tab P]
end
section
variable {P : Program} {A : As} {fn : Func} {n : Nat} {w0 : World} {M0 : Tags} [T : Tab P]
end
section
variable {P : Program} {fr : Fr} {ops : Array Oper} {A : As} {rest : List Oper} {K : As → List (As × Fx) → Prop} {d : Nat} {t ty' : TypeId} {p : String} {e : Array Edge} [T : Tab P]
end
end Go.T

namespace Go.Proofs.YtifgbnbkimcchaaGreat
open Go Go.T
set_option maxHeartbeats 2000000
attribute [local irreducible] dInt dBool dSl dPp dPtr dAgg dTup dClo dAny dEx dStr dGd dCells dVec dVs dRow dOp nth Tri Into TOps Ctr bodyPost Exit.then Exit.inBlock Code.wp Code.wpIn dWhen dPa dPe dAo dArr dMp dPm dMap dCJ CtrG CtrI OpY keepPost iterPost bodyPostM roundQ
end Go.Proofs.YtifgbnbkimcchaaGreat

namespace Go.Proofs.YtifgbnbkimcchaaGreat
open Go Go.T
set_option maxHeartbeats 2000000
attribute [local irreducible] dInt dBool dSl dPp dPtr dAgg dTup dClo dAny dEx dStr dGd dCells dVec dVs dRow dOp nth Tri Into TOps Ctr bodyPost Exit.then Exit.inBlock Code.wp Code.wpIn dWhen dPa dPe dAo dArr dMp dPm dMap dCJ CtrG CtrI OpY keepPost iterPost bodyPostM roundQ
def oneB (f : Flr) (x y : Int) : Int := if oneT f x = oneT f y then (oneT f x + 1).tmod f.turnings.length else oneT f y
attribute [local irreducible] Md.flr oneT oneB cntR sumC pairR waitP keepR
end Go.Proofs.YtifgbnbkimcchaaGreat

namespace Go.Proofs.YtifgbnbkimcchaaGreat
open Go Go.T
set_option maxHeartbeats 2000000
attribute [local irreducible] dInt dBool dSl dPp dPtr dAgg dTup dClo dAny dEx dStr dGd dCells dVec dVs dRow dOp nth Tri Into TOps Ctr bodyPost Exit.then Exit.inBlock Code.wp Code.wpIn dWhen dPa dPe dAo dArr dMp dPm dMap dCJ CtrG CtrI OpY keepPost iterPost bodyPostM roundQ
attribute [local irreducible] Md.flr tryS tryO waitP keepR mustV mustR aheadR aheadE mostP moreF
end Go.Proofs.YtifgbnbkimcchaaGreat

namespace Go.T
open Go Go.RowKit
def dNsl {α : Type} (E : El α) (xs : List α) (w : World) (M : Tags) (v : Value) : Prop := dSl E xs w M v ∧ (xs = [] → v = .slice none 0 0)
def Ty.nsl {α : Type} (E : El α) (xs : List α) : Ty :=
  { den := dNsl E xs, deps := [], cdeps := [], mono := fun le hk hs h => ⟨(Ty.sl E xs).mono le hk hs h.1, h.2⟩, one := true, isOne := fun _ ⟨⟨_, _, e, _⟩, _⟩ => e ▸ rfl }
theorem Ty.nsl_sl {α : Type} {E : El α} {xs : List α} : (Ty.nsl E xs).Sub (Ty.sl E xs) := fun _ _ _ h => h.1
theorem rg_nsl_nil {L : List Nat} {α : Type} {E : El α} {xs : List α} (e : xs = []) : RetG L (Ty.ex (.slice none 0 0)) (Ty.nsl E xs) := fun w M v wf h => by
  subst e
  exact ⟨rg_cv (L := L) (cv_nilsl (E := E)) w M v wf h, fun _ => h⟩
theorem rg_nsl_sl {L : List Nat} {α : Type} {E : El α} {xs : List α} (e : xs ≠ []) : RetG L (Ty.sl E xs) (Ty.nsl E xs) := fun w M v wf h => ⟨rg_cv (L := L) (cv_pub rfl rfl) w M v wf h, fun hx => absurd hx e⟩
theorem rg_nsl {L : List Nat} {α : Type} {E : El α} {xs ys : List α} (e : xs = ys) : RetG L (Ty.nsl E xs) (Ty.nsl E ys) := by
  subst e; exact rg_cv (cv_pub rfl rfl)
theorem rg_nsl_row {L : List Nat} {α : Type} {E : El α} {T tg : Nat} {xs ys : List α} (h : 1 ≤ tg) (hL : L.contains tg = false) (e : xs = ys) (hne : ys ≠ []) : RetG L (Ty.row E T tg xs) (Ty.nsl E ys) := fun w M v wf hd => ⟨rg_row h hL e w M v wf hd, fun hx => absurd hx hne⟩
section
variable {P : Program} {fr : Fr} {ops : Array Oper} {A : As} {rest : List Oper} {K : As → List (As × Fx) → Prop} {d : Nat} {t ty' ty2 : TypeId} {p : String} {e : Array Edge} {x : Operand}
theorem mvN {α : Type} {E : El α} {xs : List α} (hx : A.op fr x = .nsl E xs) (h : TOps P fr ops rest (A.set d (.nsl E xs)) fun A' l => K A' ((A, { d := some d, ty := .nsl E xs, rs := opR x }) :: l)) : TOps P fr ops (⟨some d, .move x, t, p, e, none⟩ :: rest) A K := r_move hx h
theorem asN {α : Type} {E : El α} {xs : List α} (hx : A.op fr x = .nsl E xs) (h : TOps P fr ops rest (A.set d (.nsl E xs)) fun A' l => K A' ((A, { d := some d, ty := .nsl E xs, rs := opR x }) :: l)) : TOps P fr ops (⟨some d, .assign x, t, p, e, none⟩ :: rest) A K := r_assign hx h
theorem nsl_nil {α : Type} {E : El α} {xs : List α} {w : World} {M : Tags} {v : Value} (h : dNsl E xs w M v) : ∃ ad n c, v = .slice ad n c ∧ ad.isNone = xs.isEmpty := by
  obtain ⟨⟨ad, c, ex, _, _, hp⟩, hn⟩ := h
  refine ⟨ad, _, c, ex, ?_⟩
  cases xs with
  | nil => have := hn rfl; rw [ex] at this; injection this with h1; rw [h1]; rfl
  | cons y l =>
    obtain ⟨b, off, e, _⟩ := hp (by simp)
    rw [e]; rfl
theorem r_eqnilN {α : Type} {E : El α} {xs : List α} {el : TypeId} (hu : P.underlying ty' = some (.slice el)) (hx : A.op fr x = .nsl E xs)
    (h : TOps P fr ops rest (A.set d (.bool xs.isEmpty)) fun A' l' => K A' ((A, { d := some d, ty := .bool xs.isEmpty, rs := opR x }) :: l')) : TOps P fr ops (⟨some d, .binOp .eql ty' x (.const (.slice none 0 0)) ty2, t, p, e, none⟩ :: rest) A K :=
  tops_pure (opT_pure (rt := []) rfl rfl fun a w M _ hr _ => by
    have := op_den (x := x) (fun _ h => h) hr
    rw [hx] at this
    obtain ⟨ad, n, c, ex, hn⟩ := nsl_nil this
    have ey : a.eval (.const (.slice none 0 0)) = .slice none 0 0 := rfl
    exact ⟨.bool ad.isNone, by simp only [execOp, ex, ey]; simp [eqGuard, binOp, go_sem, run_equal_nil hu], by rw [hn]; rfl⟩) h
theorem r_neqnilN {α : Type} {E : El α} {xs : List α} {el : TypeId} (hu : P.underlying ty' = some (.slice el)) (hx : A.op fr x = .nsl E xs)
    (h : TOps P fr ops rest (A.set d (.bool (!xs.isEmpty))) fun A' l' => K A' ((A, { d := some d, ty := .bool (!xs.isEmpty), rs := opR x }) :: l')) : TOps P fr ops (⟨some d, .binOp .neq ty' x (.const (.slice none 0 0)) ty2, t, p, e, none⟩ :: rest) A K :=
  tops_pure (opT_pure (rt := []) rfl rfl fun a w M _ hr _ => by
    have := op_den (x := x) (fun _ h => h) hr
    rw [hx] at this
    obtain ⟨ad, n, c, ex, hn⟩ := nsl_nil this
    have ey : a.eval (.const (.slice none 0 0)) = .slice none 0 0 := rfl
    exact ⟨.bool (!ad.isNone), by simp only [execOp, ex, ey]; simp [eqGuard, binOp, go_sem, run_equal_nil hu], by rw [hn]; rfl⟩) h
end
end Go.T

namespace Go.Proofs.YtifgbnbkimcchaaGreat
open Go Go.T
def paid64 (l : Led) : List Int := (List.range 64).map (nth l.paid)
def ledTys (l : Led) : List Ty := Ty.pe BrdE l.w 0 :: Ty.int .i64 l.bay :: (paid64 l).flatMap I64.tys
theorem paid64_len (l : Led) : (paid64 l).length = 64 := by simp [paid64]
theorem paid64_nth (l : Led) {c : Nat} (h : c < 64) : nth (paid64 l) c = nth l.paid c := nth_map_range _ h
def LedE : El Led := ⟨66, ledTys, fun l => by unfold ledTys; rw [List.length_cons, List.length_cons, flat_len, paid64_len]; rfl,
  fun l => deps_cons rfl (deps_cons rfl (El.flat_deps _ _)), fun l => cdeps_cons rfl (cdeps_cons rfl (El.flat_cdeps _ _)), fun l => by
  rw [List.all_eq_true]
  intro t ht
  rcases List.mem_cons.1 ht with rfl | ht
  · rfl
  · rcases List.mem_cons.1 ht with rfl | ht
    · rfl
    · exact flat_ones _ _ t ht⟩
def BoolE : El Bool := El.mk' 1 (fun b => [Ty.bool b]) (fun _ => rfl) (fun _ => ⟨rfl, rfl, rfl⟩)
theorem led_get (l : Led) {c : Nat} (h : c < 64) : (LedE.tys l)[2 + c]? = some (Ty.int .i64 (nth l.paid c)) := by
  show (Ty.pe BrdE l.w 0 :: Ty.int .i64 l.bay :: (paid64 l).flatMap I64.tys)[2 + c]? = _
  rw [show 2 + c = c + 1 + 1 by omega, List.getElem?_cons_succ, List.getElem?_cons_succ]
  have := flat_elem I64 (paid64 l) (k := c) (by rw [paid64_len]; exact h) 0 (Ty.int .i64 (nth (paid64 l) c)) rfl
  rw [paid64_nth l h] at this
  rw [← this]
  congr 1
  show c = c * 1 + 0; omega
theorem led_P (l : Led) {o t : Nat} (ho : o < 8) (ht : t < 8) : (LedE.tys l)[2 + (o * 8 + t)]? = some (Ty.int .i64 (l.P o t)) := led_get l (by omega)
theorem paid64_set {l : Led} (hl : l.paid.length = 64) {c : Nat} (v : Int) : (paid64 l).set c v = paid64 { l with paid := l.paid.set c v } := by
  unfold paid64
  apply List.ext_getElem?
  intro i
  rw [List.getElem?_set]
  by_cases hi : i < 64
  · have e1 : ∀ q : Nat → Int, ((List.range 64).map q)[i]? = some (q i) := fun q => by simp [hi]
    rw [e1, e1]
    have e2 := nth_set_int (l := l.paid) (i := c) v i
    show _ = some (nth (l.paid.set c v) i)
    rw [e2]
    by_cases e : c = i
    · subst e
      rw [if_pos rfl, if_pos (by simpa using hi), if_pos ⟨rfl, by omega⟩]
    · rw [if_neg e, if_neg (fun x => e x.1)]
  · have e1 : ∀ q : Nat → Int, ((List.range 64).map q)[i]? = none := fun q => by simp; omega
    rw [e1, e1]
    split
    · rw [if_neg (by simp; omega)]
    · rfl
theorem led_set {l : Led} (hl : l.paid.length = 64) {c : Nat} (hc : c < 64) (v : Int) : (LedE.tys l).set (2 + c) (Ty.int .i64 v) = LedE.tys { l with paid := l.paid.set c v } := by
  show (Ty.pe BrdE l.w 0 :: Ty.int .i64 l.bay :: (paid64 l).flatMap I64.tys).set (2 + c) _ = Ty.pe BrdE l.w 0 :: Ty.int .i64 l.bay :: (paid64 { l with paid := l.paid.set c v }).flatMap I64.tys
  rw [show 2 + c = c + 1 + 1 by omega, List.set_cons_succ, List.set_cons_succ, ← paid64_set hl]
  have := flat_set I64 (y := v) (o := 0) (ty := Ty.int .i64 v) (paid64 l) c (by rw [paid64_len]; exact hc) rfl (by decide)
  rw [← this]
  congr 3
  show c = c * 1 + 0; omega
theorem led_add {l : Led} (hl : l.paid.length = 64) {o t : Nat} (ho : o < 8) (ht : t < 8) (m : Int) : (LedE.tys l).set (2 + (o * 8 + t)) (Ty.int .i64 (l.P o t + m)) = LedE.tys (addP l o t m) := led_set hl (by omega) _
structure LOk (l : Led) : Prop where
  fine : Fine l.w
  bay : l.bay < 4
  len : l.paid.length = 64
  nn : ∀ o t, o < 8 → t < 8 → 0 ≤ l.P o t ∧ l.P o t ≤ 1200
theorem LOk.add {l : Led} (h : LOk l) (t : Nat) : -1200 ≤ l.add t ∧ l.add t ≤ 1200 := addB_bound h.fine _ _
theorem sm_bound {g : Nat → Int} {B : Int} : ∀ k, (∀ i, i < k → 0 ≤ g i ∧ g i ≤ B) → 0 ≤ sm k g ∧ sm k g ≤ B * k
  | 0, _ => by rw [sm_zero]; omega
  | k + 1, h => by
    have h1 := sm_bound k fun i hi => h i (by omega)
    have h2 := h k (by omega)
    rw [sm_succ]
    have : B * ((k + 1 : Nat) : Int) = B * k + B := by rw [Int.natCast_add, Int.mul_add]; simp
    omega
theorem LOk.left {l : Led} (h : LOk l) {t : Nat} (ht : t < 8) {k : Nat} (hk : k ≤ 8) : -11000 ≤ leftUp l t k ∧ leftUp l t k ≤ 1200 := by
  have h1 := h.add t
  have h2 := sm_bound (g := fun o => l.P o t) (B := 1200) k fun i hi => h.nn i t (by omega) ht
  unfold leftUp; omega
theorem leftUp_succ (l : Led) (t k : Nat) : leftUp l t (k + 1) = leftUp l t k - l.P k t := by unfold leftUp; rw [sm_succ]; omega
theorem leftUp_zero (l : Led) (t : Nat) : leftUp l t 0 = -(l.add t) := by unfold leftUp; rw [sm_zero]; omega
theorem inv_ok {f : Flr} (h : checkP f = 0) {bay : Nat} (hb : bay < f.bears.length) {l : Led} (hi : LInv f bay l) : LOk l := by
  have hr := check_right h
  have hb4 := hr.ranged.bears
  have hfi : Fine l.w := by rw [hi.w]; exact boardsOf_fine h
  refine ⟨hfi, by rw [hi.bay]; omega, hi.len, fun o t ho ht => ⟨hi.nn o t ho ht, ?_⟩⟩
  have h1 := sm_ge (g := fun o => l.P o t) ho fun j hj => hi.nn j t hj ht
  have h2 := hi.col t ht
  have h3 := addB_bound hfi l.bay t
  have h4 : l.add t = addB l.w l.bay t := rfl
  have h5 : l.P o t ≤ sm 8 fun o => l.P o t := h1
  omega
end Go.Proofs.YtifgbnbkimcchaaGreat

namespace Go.Proofs.YtifgbnbkimcchaaGreat
open Go Go.T
set_option maxHeartbeats 2000000
attribute [local irreducible] dInt dBool dSl dPp dPtr dAgg dTup dClo dAny dEx dStr dGd dCells dVec dVs dRow dOp nth Tri Into TOps Ctr bodyPost Exit.then Exit.inBlock Code.wp Code.wpIn dWhen dPa dPe dAo dArr dMp dPm dMap dCJ CtrG CtrI OpY keepPost iterPost bodyPostM roundQ
theorem bay_adds {b : SB} {t bay off : Nat} (ht : t < 8) (hb : bay < 4) (h : off = 12 + (t * 4 + bay)) : (BrdE.tys b)[off]? = some (Ty.int .i64 (addB b bay t)) := by
  subst h; exact brd_adds b.2 (by omega)
theorem led_at {l : Led} {o t off : Nat} (ho : o < 8) (ht : t < 8) (h : off = 2 + (o * 8 + t)) : (LedE.tys l)[off]? = some (Ty.int .i64 (l.P o t)) := by
  subst h; exact led_P l ho ht
theorem neg_add (l : Led) (t : Nat) (h : -1200 ≤ l.add t ∧ l.add t ≤ 1200) : IntKind.i64.wrap (0 - addB l.w l.bay t) = leftUp l t 0 := by
  rw [leftUp_zero]
  unfold Led.add at *
  rw [wrap_in (by omega)]; omega
attribute [local irreducible] Led.P Led.add leftUp leftM LedE BrdE BoolE
set_option maxRecDepth 100000 in
theorem c_left (l : Led) (hl : LOk l) (t : Nat) (ht : t < 8) : CtrG Tryz.prog 104 [1000] [(1000, Cont.vec LedE 113 [l])] [Ty.ptr 1000 0, Ty.int .i64 (t : Nat)] [(1000, Cont.vec LedE 113 [l])] (Ty.int .i64 (leftM l t)) := by
  refine fnG_intro Tryz.func104 rfl (by decide) Tryz.ntmps104 (by exact Nat.le_of_ble_eq_true rfl) fun w0 M0 => ?_
  have hb := hl.bay
  have ha := hl.add t
  have had : addB l.w l.bay t = l.add t := by unfold Led.add; rfl
  refine t_seq ?_
  refine t_region ?_
  refine asI rfl ?_
  refine r_nil ?_
  refine i_then ?_
  refine t_seq ?_
  refine t_draw mixed rfl ?_
  refine mvO rfl ?_
  refine r_nilCheck_ptr rfl ?_
  refine r_field_ptr rfl rfl rfl rfl rfl (by decide) ?_
  refine r_load_ob (ty := Ty.pe BrdE l.w 0) rfl rfl (by decide) rfl rfl (by unfold LedE; rfl) ?_
  refine mvI rfl ?_
  refine mvO rfl ?_
  refine r_nilCheck_ptr rfl ?_
  refine r_field_ptr rfl rfl rfl rfl rfl (by decide) ?_
  refine r_load_ob (ty := Ty.int .i64 l.bay) rfl rfl (by decide) rfl rfl (by unfold LedE; rfl) ?_
  refine r_nilCheck_pe rfl ?_
  refine r_field_pe rfl rfl rfl rfl rfl (by decide) ?_
  refine r_index_pe rfl rfl rfl rfl rfl (by omega) ?_
  refine r_index_pe rfl rfl rfl rfl rfl (by omega) ?_
  refine r_load_pe (ty := Ty.int .i64 (addB l.w l.bay t)) rfl rfl rfl (bay_adds ht hb (by show 0 + 12 + t * 4 + l.bay * 1 = _; omega)) ?_
  refine r_neg rfl ?_
  refine asI rfl ?_
  refine r_nil ?_
  refine ⟨by kernel_rfl, ?_⟩
  refine i_then ?_
  refine t_seq ?_
  refine t_seq ?_
  refine t_region ?_
  refine mvI rfl ?_
  refine r_nil ?_
  refine i_then ?_
  refine t_block ?_
  refine t_loop (fun (k : {k : Nat // k ≤ 8}) => live [(0, Ty.ptr 1000 0), (1, Ty.int .i64 (t : Nat)), (5, Ty.int .i64 (leftUp l t k.1)), (22, Ty.int .i64 (k.1 : Nat))] [(1000, Cont.vec LedE 113 [l])]) (fun k => 8 - k.1) (⟨0, by omega⟩) ?_ fun k => ?_
  · (refine Ent.mk' ?_ ?_ <;> (repeat' (first | exact allSub_zero | exact allTags_nil | refine allSub_succ' ?_ (Ty.sub_any _) | refine allSub_succ' ?_ (Ty.sub_refl _) | refine allTags_cons rfl (Cont.sub_refl _) ?_ | refine allSub_succ' ?_ ?_)))
    all_goals exact Ty.sub_int (neg_add l t ha)
  ·
    have hk := k.2
    have hlu := hl.left ht (k := k.1) (by omega)
    refine t_seq ?_
    refine t_region ?_
    refine r_bin rfl rfl rfl ?_
    refine r_nil ?_
    refine i_then ?_
    refine t_seq ?_
    refine t_cond_dec rfl (fun hc1 => ?_) (fun hc1 => ?_)
    ·
      refine t_skip ?_
      refine i_then ?_
      refine t_seq ?_
      refine t_block ?_
      refine t_seq ?_
      refine t_region ?_
      refine mvI rfl ?_
      refine asI rfl ?_
      refine r_nil ?_
      refine i_then ?_
      have hn := hl.nn k.1 t (by omega) ht
      refine t_region ?_
      refine mvI rfl ?_
      refine mvO rfl ?_
      refine mvI rfl ?_
      refine mvI rfl ?_
      refine r_nilCheck_ptr rfl ?_
      refine r_field_ptr rfl rfl rfl rfl rfl (by decide) ?_
      refine r_index_ptr rfl rfl rfl rfl rfl (by omega) ?_
      refine r_index_ptr rfl rfl rfl rfl rfl (by omega) ?_
      refine r_load_ob (ty := Ty.int .i64 (l.P k.1 t)) rfl rfl (by decide) rfl rfl (led_at (by omega) ht (by show 0 + 2 + k.1 * 8 + t * 1 = _; omega)) ?_
      refine r_sub rfl rfl (by omega) (by omega) ?_
      refine asI rfl ?_
      refine r_nil ?_
      refine i_block ?_
      refine i_then ?_
      refine t_region ?_
      refine r_add rfl rfl (by omega) (by omega) ?_
      refine mvI rfl ?_
      refine r_nil ?_
      refine i_round (⟨k.1 + 1, by omega⟩) ?_ (by show 8 - (k.1 + 1) < 8 - k.1; omega)
      (refine Ent.mk' ?_ ?_ <;> (repeat' (first | exact allSub_zero | exact allTags_nil | refine allSub_succ' ?_ (Ty.sub_any _) | refine allSub_succ' ?_ (Ty.sub_refl _) | refine allTags_cons rfl (Cont.sub_refl _) ?_ | refine allSub_succ' ?_ ?_)))
      all_goals skip
      all_goals exact Ty.sub_int (leftUp_succ l t k.1).symm
    ·
      refine t_exit ?_
      refine i_then_exit ?_
      refine i_then_exit ?_
      refine i_block_exit rfl ?_
      refine i_then ?_
      refine t_seq ?_
      refine t_region ?_
      refine mvI rfl ?_
      refine asI rfl ?_
      refine r_nil ?_
      refine i_then ?_
      refine t_ret ?_
      refine g_ret1 [1000] rfl rfl (by decide) (by repeat (first | exact rc_nil | refine rc_cons rfl (cc_vec (by decide) rfl) ?_)) ?_
      all_goals skip
      all_goals exact rg_cv (cv_eq rfl rfl (congrArg (Ty.int .i64) (by rw [show k.1 = 8 by have := k.2; omega]; unfold leftM; rfl)))
abbrev wayPre (l : Led) (m : List Bool) : List (Nat × Cont) := [(1000, Cont.vec LedE 113 [l]), (1001, Cont.vec BoolE 185 m), (1002, Cont.cells 108 [Ty.clo 149 [Ty.pp [Ty.ptr 1000 0], Ty.ptr 1001 0, Ty.ptr 1002 0]])]
structure OIx (l : Led) (k f t : Nat) (m : List Bool) where
  i : Nat
  met : List Bool
  le : i ≤ l.T
  len : met.length = 8
  un : unm met < k
  same : othersM (wayM l k) l f t (List.range l.T) m = othersM (wayM l k) l f t ((List.range l.T).drop i) met
structure TIx (l : Led) (k f : Nat) (m : List Bool) where
  i : Nat
  met : List Bool
  le : i ≤ (tosOf l f).length
  len : met.length = 8
  un : unm met < k + 1
  same : tosM (wayM l k) l f (tosOf l f) m = tosM (wayM l k) l f ((tosOf l f).drop i) met
theorem range_drop {n i : Nat} (h : i < n) : (List.range n).drop i = i :: (List.range n).drop (i + 1) := by
  rw [List.drop_eq_getElem_cons (by simpa using h)]; simp
theorem others_at {l : Led} {k f t : Nat} {m : List Bool} (x : OIx l k f t m) (h : x.i < l.T) : othersM (wayM l k) l f t (List.range l.T) m = if (decide (x.i = f) || decide (l.P x.i t = 0)) = true then othersM (wayM l k) l f t ((List.range l.T).drop (x.i + 1)) x.met else if (wayM l k x.i x.met).1 = [] then othersM (wayM l k) l f t ((List.range l.T).drop (x.i + 1)) (wayM l k x.i x.met).2 else wayM l k x.i x.met := by
  rw [x.same, range_drop h, othersM]
theorem others_end {l : Led} {k f t : Nat} {m : List Bool} (x : OIx l k f t m) (h : ¬ x.i < l.T) : othersM (wayM l k) l f t (List.range l.T) m = ([], x.met) := by
  rw [x.same, List.drop_of_length_le (by rw [List.length_range]; omega), othersM]
theorem tos_at {l : Led} {k f : Nat} {m : List Bool} (x : TIx l k f m) (h : x.i < (tosOf l f).length) : tosM (wayM l k) l f (tosOf l f) m =
    if (decide (0 ≤ l.add (nth (tosOf l f) x.i).toNat) || nth x.met (nth (tosOf l f) x.i).toNat) = true then tosM (wayM l k) l f ((tosOf l f).drop (x.i + 1)) x.met else if 0 < leftM l (nth (tosOf l f) x.i).toNat then ([(f : Int), nth (tosOf l f) x.i], x.met.set (nth (tosOf l f) x.i).toNat true)
    else if (othersM (wayM l k) l f (nth (tosOf l f) x.i).toNat (List.range l.T) (x.met.set (nth (tosOf l f) x.i).toNat true)).1 = [] then tosM (wayM l k) l f ((tosOf l f).drop (x.i + 1)) (othersM (wayM l k) l f (nth (tosOf l f) x.i).toNat (List.range l.T) (x.met.set (nth (tosOf l f) x.i).toNat true)).2
    else ((f : Int) :: nth (tosOf l f) x.i :: (othersM (wayM l k) l f (nth (tosOf l f) x.i).toNat (List.range l.T) (x.met.set (nth (tosOf l f) x.i).toNat true)).1, (othersM (wayM l k) l f (nth (tosOf l f) x.i).toNat (List.range l.T) (x.met.set (nth (tosOf l f) x.i).toNat true)).2) := by
  rw [x.same, drop_nth h, tosM]
theorem tos_end {l : Led} {k f : Nat} {m : List Bool} (x : TIx l k f m) (h : ¬ x.i < (tosOf l f).length) : tosM (wayM l k) l f (tosOf l f) m = ([], x.met) := by
  rw [x.same, List.drop_of_length_le (by omega), tosM]
end Go.Proofs.YtifgbnbkimcchaaGreat

namespace Go.Proofs.YtifgbnbkimcchaaGreat
open Go Go.T
set_option maxHeartbeats 2000000
attribute [local irreducible] dInt dBool dSl dPp dPtr dAgg dTup dClo dAny dEx dStr dGd dCells dVec dVs dRow dOp nth Tri Into TOps Ctr bodyPost Exit.then Exit.inBlock Code.wp Code.wpIn dWhen dPa dPe dAo dArr dMp dPm dMap dCJ CtrG CtrI OpY keepPost iterPost bodyPostM roundQ
section
variable {l : Led} {k f : Nat} {m : List Bool}
theorem tos_lt8 {t : Int} (h : t ∈ tosOf l f) : 0 ≤ t ∧ t < 8 := by have := tos_lt h; omega
def OIx.skip {t : Nat} (x : OIx l k f t m) (h : (x.i : Int) < (l.T : Nat)) (hc : (decide ((x.i : Int) = (f : Nat)) || decide (l.P x.i t = 0)) = true) : OIx l k f t m :=
  ⟨x.i + 1, x.met, by omega, x.len, x.un, by rw [others_at x (by omega), if_pos (by rw [← hc]; congr 1; rw [decide_eq_decide]; omega)]⟩
def OIx.go {t : Nat} (x : OIx l k f t m) (h : (x.i : Int) < (l.T : Nat)) (hc : (decide ((x.i : Int) = (f : Nat)) || decide (l.P x.i t = 0)) = false) (he : (!(wayM l k x.i x.met).1.isEmpty) = false) : OIx l k f t m :=
  ⟨x.i + 1, (wayM l k x.i x.met).2, by omega, (way_spec l k x.i x.met x.len x.un).len, Nat.lt_of_le_of_lt (unm_le (way_spec l k x.i x.met x.len x.un).sub) x.un, by
    have h1 : (wayM l k x.i x.met).1 = [] := by simpa using he
    rw [others_at x (by omega), if_neg (by rw [Bool.not_eq_true, ← hc]; congr 1; rw [decide_eq_decide]; omega), if_pos h1]⟩
theorem OIx.found {t : Nat} (x : OIx l k f t m) (h : (x.i : Int) < (l.T : Nat)) (hc : (decide ((x.i : Int) = (f : Nat)) || decide (l.P x.i t = 0)) = false) (he : (!(wayM l k x.i x.met).1.isEmpty) = true) : othersM (wayM l k) l f t (List.range l.T) m = wayM l k x.i x.met ∧ (wayM l k x.i x.met).1 ≠ [] := by
  have h1 : (wayM l k x.i x.met).1 ≠ [] := by simpa using he
  exact ⟨by rw [others_at x (by omega), if_neg (by rw [Bool.not_eq_true, ← hc]; congr 1; rw [decide_eq_decide]; omega), if_neg h1], h1⟩
variable (x : TIx l k f m) (h : (x.i : Int) < ((tosOf l f).length : Nat))
include h
theorem TIx.nat : x.i < (tosOf l f).length := by omega
def TIx.skip (hc : (decide (0 ≤ addB l.w l.bay (nth (tosOf l f) x.i).toNat) || nth x.met (nth (tosOf l f) x.i).toNat) = true) : TIx l k f m :=
  ⟨x.i + 1, x.met, by omega, x.len, x.un, by rw [tos_at x (by omega), if_pos (by exact hc)]⟩
theorem TIx.un2 (hc : (decide (0 ≤ addB l.w l.bay (nth (tosOf l f) x.i).toNat) || nth x.met (nth (tosOf l f) x.i).toNat) = false) : unm (x.met.set (nth (tosOf l f) x.i).toNat true) < k := by
  have h8 := (tos_lt (nth_mem (x.nat h))).1
  have := unm_lt x.len h8 (Bool.or_eq_false_iff.1 hc).2
  have := x.un
  omega
def TIx.go (hc : (decide (0 ≤ addB l.w l.bay (nth (tosOf l f) x.i).toNat) || nth x.met (nth (tosOf l f) x.i).toNat) = false) (hl : ¬ 0 < leftM l (nth (tosOf l f) x.i).toNat) (y : OIx l k f (nth (tosOf l f) x.i).toNat (x.met.set (nth (tosOf l f) x.i).toNat true)) (hy : ¬ (y.i : Int) < (l.T : Nat)) : TIx l k f m :=
  ⟨x.i + 1, y.met, by omega, y.len, by have := y.un; omega, by
    have e := others_end y (by omega)
    rw [tos_at x (by omega), if_neg (by rw [Bool.not_eq_true]; exact hc), if_neg hl, e, if_pos rfl]⟩
theorem TIx.last (hc : (decide (0 ≤ addB l.w l.bay (nth (tosOf l f) x.i).toNat) || nth x.met (nth (tosOf l f) x.i).toNat) = false) (hl : 0 < leftM l (nth (tosOf l f) x.i).toNat) : wayM l (k + 1) f m = ([(f : Int), nth (tosOf l f) x.i], x.met.set (nth (tosOf l f) x.i).toNat true) := by
  rw [wayM, tos_at x (by omega), if_neg (by rw [Bool.not_eq_true]; exact hc), if_pos hl]
theorem TIx.found (hc : (decide (0 ≤ addB l.w l.bay (nth (tosOf l f) x.i).toNat) || nth x.met (nth (tosOf l f) x.i).toNat) = false) (hl : ¬ 0 < leftM l (nth (tosOf l f) x.i).toNat) (y : OIx l k f (nth (tosOf l f) x.i).toNat (x.met.set (nth (tosOf l f) x.i).toNat true)) (hy : (y.i : Int) < (l.T : Nat)) (h1 : (decide ((y.i : Int) = (f : Nat)) || decide (l.P y.i (nth (tosOf l f) x.i).toNat = 0)) = false) (h2 : (!(wayM l k y.i y.met).1.isEmpty) = true) : wayM l (k + 1) f m = ((f : Int) :: nth (tosOf l f) x.i :: (wayM l k y.i y.met).1, (wayM l k y.i y.met).2) := by
  obtain ⟨e, hne⟩ := y.found hy h1 h2
  rw [wayM, tos_at x (by omega), if_neg (by rw [Bool.not_eq_true]; exact hc), if_neg hl, e, if_neg hne]
end
theorem TIx.stop {l : Led} {k f : Nat} {m : List Bool} (x : TIx l k f m) (h : ¬ (x.i : Int) < ((tosOf l f).length : Nat)) : wayM l (k + 1) f m = ([], x.met) := by
  rw [wayM, tos_end x (by omega)]
theorem clo_conv {ρ : List (Nat × Nat)} (h0 : (1000, 1000) ∈ ρ) (h1 : (1001, 1001) ∈ ρ) (h2 : (1002, 1002) ∈ ρ) : Convs ρ [Ty.clo 149 [Ty.pp [Ty.ptr 1000 0], Ty.ptr 1001 0, Ty.ptr 1002 0]] [Ty.clo 149 [Ty.pp [Ty.ptr 1000 0], Ty.ptr 1001 0, Ty.ptr 1002 0]] :=
  cv_cons cv_nil (cv_clo (cv_cons (cv_cons (cv_cons cv_nil (cv_ptr h2)) (cv_ptr h1)) (cv_pp (cv_cons cv_nil (cv_ptr h0)))))
theorem way_rc {A : As} {l : Led} {m m' : List Bool} (h0 : A.tag 1000 = some (Cont.vec LedE 113 [l])) (h1 : A.tag 1001 = some (Cont.vec BoolE 185 m)) (h2 : A.tag 1002 = some (Cont.cells 108 [Ty.clo 149 [Ty.pp [Ty.ptr 1000 0], Ty.ptr 1001 0, Ty.ptr 1002 0]])) (e : m = m') : RetCs A [1000, 1001, 1002] (wayPre l m') :=
  rc_cons h0 (cc_vec (by decide) rfl) (rc_cons h1 (cc_vec (by decide) e) (rc_cons h2 (cc_cells (by decide) (clo_conv (by decide) (by decide) (by decide))) rc_nil))
theorem c_leftI (l : Led) (hl : LOk l) (t : Int) (ht : 0 ≤ t ∧ t < 8) : CtrG Tryz.prog 104 [1000] [(1000, Cont.vec LedE 113 [l])] [Ty.ptr 1000 0, Ty.int .i64 t] [(1000, Cont.vec LedE 113 [l])] (Ty.int .i64 (leftM l t.toNat)) := by
  obtain ⟨n, rfl⟩ := Int.eq_ofNat_of_zero_le ht.1
  exact c_left l hl n (by omega)
theorem others_len {rec : Nat → List Bool → List Int × List Bool} {l : Led} {f t B : Nat} (hr : ∀ o m, (rec o m).1.length ≤ B) : ∀ (L : List Nat) (m : List Bool), (othersM rec l f t L m).1.length ≤ B
  | [], _ => Nat.zero_le _
  | o :: r, m => by
    rw [othersM]
    split
    · exact others_len hr r m
    · split
      · exact others_len hr r _
      · exact hr o m
theorem tos_len {rec : Nat → List Bool → List Int × List Bool} {l : Led} {f B : Nat} (hr : ∀ o m, (rec o m).1.length ≤ B) : ∀ (L : List Int) (m : List Bool), (tosM rec l f L m).1.length ≤ B + 2
  | [], _ => Nat.zero_le _
  | t :: r, m => by
    rw [tosM]
    split
    · exact tos_len hr r m
    · split
      · simp
      · split
        · exact tos_len hr r _
        · have := others_len (l := l) (f := f) (t := t.toNat) hr (List.range l.T) (m.set t.toNat true)
          simp only [List.length_cons]; omega
theorem way_len (l : Led) : ∀ (k f : Nat) (m : List Bool), (wayM l k f m).1.length ≤ 2 * k
  | 0, _, _ => Nat.zero_le _
  | k + 1, f, m => by
    have := tos_len (l := l) (f := f) (way_len l k) (tosOf l f) m
    rw [wayM]; omega
theorem rg_nsl_of {L : List Nat} {xs ys : List Int} (e : xs = ys) (h : xs ≠ []) : RetG L (Ty.sl I64 xs) (Ty.nsl I64 ys) := by subst e; exact rg_nsl_sl h
theorem c_tos (l : Led) (f : Nat) (h : nth l.w.1.before f < 256) : Ctr Tryz.prog 61 [Ty.int .i64 (nth l.w.1.before f : Nat)] (Ty.sl I64 (tosOf l f)) := c_members _ h
attribute [local irreducible] Led.P leftM LedE BrdE BoolE tosOf wayM
set_option maxRecDepth 100000 in
theorem c_wayf (l : Led) (hl : LOk l) (k f : Nat) (m : List Bool) (hf : f < l.T) (hm : m.length = 8) (hu : unm m < k) (hk : k ≤ 9) : CtrG Tryz.prog 149 [1000, 1001, 1002] (wayPre l m) [Ty.int .i64 (f : Nat), Ty.pp [Ty.ptr 1000 0], Ty.ptr 1001 0, Ty.ptr 1002 0] (wayPre l (wayM l k f m).2) (Ty.nsl I64 (wayM l k f m).1) := by
  induction k generalizing f m
  case zero => exact absurd hu (by omega)
  rename_i k ih
  refine fnG_intro Tryz.func149 rfl (by decide) Tryz.ntmps149 (by exact Nat.le_of_ble_eq_true rfl) fun w0 M0 => ?_
  have hb := hl.bay
  have hT8 : l.T ≤ 8 := hl.fine.nt
  have hbt := hl.fine.before f
  have htl : (tosOf l f).length ≤ 8 := by unfold tosOf; exact members_len _
  refine t_seq ?_
  refine t_region ?_
  refine asX rfl ?_
  refine r_nil ?_
  refine i_then ?_
  refine t_seq ?_
  refine t_seq ?_
  refine t_region ?_
  refine r_load_pp rfl rfl rfl rfl ?_
  refine r_nilCheck_ptr rfl ?_
  refine r_field_ptr rfl rfl rfl rfl rfl (by decide) ?_
  refine r_load_ob (ty := Ty.pe BrdE l.w 0) rfl rfl (by decide) rfl rfl (by unfold LedE; rfl) ?_
  refine mvI rfl ?_
  refine r_nilCheck_pe rfl ?_
  refine r_field_pe rfl rfl rfl rfl rfl (by decide) ?_
  refine r_index_pe rfl rfl rfl rfl rfl (by omega) ?_
  refine r_load_pe (ty := Ty.int .i64 (nth l.w.1.before f : Nat)) rfl rfl rfl (by show (BrdE.tys l.w)[0 + 4 + f * 1]? = _; rw [show 0 + 4 + f * 1 = 4 + f by omega]; unfold BrdE; exact brd_before l.w.2 (by omega)) ?_
  refine r_call (c_tos l f hbt) rfl rfl rfl rfl rfl ?_
  refine r_len rfl rfl rfl ?_
  refine mvI rfl ?_
  refine r_nil ?_
  refine i_then ?_
  refine t_block ?_
  refine t_loop (fun (x : TIx l k f m) => live [(0, Ty.int .i64 (f : Nat)), (1, Ty.pp [Ty.ptr 1000 0]), (2, Ty.ptr 1001 0), (3, Ty.ptr 1002 0), (19, Ty.sl I64 (tosOf l f)), (20, Ty.int .i64 (tosOf l f).length), (21, Ty.int .i64 (x.i : Nat))] [(1000, Cont.vec LedE 113 [l]), (1001, Cont.vec BoolE 185 x.met), (1002, Cont.cells 108 [Ty.clo 149 [Ty.pp [Ty.ptr 1000 0], Ty.ptr 1001 0, Ty.ptr 1002 0]])]) (fun x => (tosOf l f).length - x.i) (⟨0, m, by omega, hm, hu, rfl⟩) ?_ fun x => ?_
  · (refine Ent.mk' ?_ ?_ <;> (repeat' (first | exact allSub_zero | exact allTags_nil | refine allSub_succ' ?_ (Ty.sub_any _) | refine allSub_succ' ?_ (Ty.sub_refl _) | refine allTags_cons rfl (Cont.sub_refl _) ?_)))
  ·
    have hxl := x.len
    refine t_seq ?_
    refine t_region ?_
    refine r_bin rfl rfl rfl ?_
    refine r_nil ?_
    refine i_then ?_
    refine t_seq ?_
    refine t_cond_dec rfl (fun hc1 => ?_) (fun hc1 => ?_)
    ·
      refine t_skip ?_
      refine i_then ?_
      refine t_seq ?_
      refine t_block ?_
      refine t_seq ?_
      refine t_region ?_
      refine r_index_slN rfl rfl rfl rfl rfl rfl (by omega) ?_
      refine r_load_pp rfl rfl rfl rfl ?_
      refine asI rfl ?_
      refine r_nil ?_
      refine i_then ?_
      refine t_seq ?_
      refine t_seq ?_
      have ht := tos_lt8 (nth_mem (x.nat hc1))
      refine t_draw mixed rfl ?_
      refine r_load_pp rfl rfl rfl rfl ?_
      refine r_nilCheck_ptr rfl ?_
      refine r_field_ptr rfl rfl rfl rfl rfl (by decide) ?_
      refine r_load_ob (ty := Ty.pe BrdE l.w 0) rfl rfl (by decide) rfl rfl (by unfold LedE; rfl) ?_
      refine mvI rfl ?_
      refine r_load_pp rfl rfl rfl rfl ?_
      refine r_nilCheck_ptr rfl ?_
      refine r_field_ptr rfl rfl rfl rfl rfl (by decide) ?_
      refine r_load_ob (ty := Ty.int .i64 l.bay) rfl rfl (by decide) rfl rfl (by unfold LedE; rfl) ?_
      refine r_nilCheck_pe rfl ?_
      refine r_field_pe rfl rfl rfl rfl rfl (by decide) ?_
      refine r_index_peI (n := 8) rfl rfl rfl rfl rfl (by omega) (by omega) ?_
      refine r_index_pe rfl rfl rfl rfl rfl (by omega) ?_
      refine r_load_pe (ty := Ty.int .i64 (addB l.w l.bay (nth (tosOf l f) x.i).toNat)) rfl rfl rfl (bay_adds (by omega) hb (by show 0 + 12 + (nth (tosOf l f) x.i).toNat * 4 + l.bay * 1 = _; omega)) ?_
      refine r_bin rfl rfl rfl ?_
      refine mvB rfl ?_
      apply r_guard (s := 40) rfl rfl rfl
      · intro hg; apply opT_of; (refine mvI rfl ?_); refine r_nil ?_; exact rfl
      · exact rfl
      · exact rfl
      apply r_guard (s := 40) rfl rfl rfl
      · intro hg; apply opT_strip (s := 41) rfl (by (rw [hg]; rfl)); apply opT_of; (refine r_index_ptrI rfl rfl rfl rfl rfl (by omega) (by omega) ?_); refine r_nil ?_; exact rfl
      · exact rfl
      · exact rfl
      apply r_guard (s := 40) rfl rfl rfl
      · intro hg; apply opT_strip (s := 42) rfl (by (rw [hg]; rfl)); apply opT_of; (refine r_load_vecA (ty := Ty.bool (nth x.met (nth (tosOf l f) x.i).toNat)) (E := BoolE) rfl rfl (by unfold BoolE; rfl) (by decide) rfl rfl (by omega) (by unfold BoolE; rfl) ?_); refine r_nil ?_; exact rfl
      · exact rfl
      · exact rfl
      refine r_or rfl rfl ?_
      refine r_nil ?_
      refine ⟨by kernel_rfl, ?_⟩
      refine i_then ?_
      refine t_cond rfl (fun hc2 => ?_) (fun hc2 => ?_)
      ·
        refine t_exit ?_
        refine i_then_exit ?_
        refine i_block_exit rfl ?_
        refine i_then ?_
        refine t_region ?_
        refine r_add rfl rfl (by omega) (by omega) ?_
        refine mvI rfl ?_
        refine r_nil ?_
        refine i_round (by exact x.skip hc1 hc2) ?_ (by show (tosOf l f).length - (x.i + 1) < (tosOf l f).length - x.i; omega)
        (refine Ent.mk' ?_ ?_ <;> (repeat' (first | exact allSub_zero | exact allTags_nil | refine allSub_succ' ?_ (Ty.sub_any _) | refine allSub_succ' ?_ (Ty.sub_refl _) | refine allTags_cons rfl (Cont.sub_refl _) ?_)))
        all_goals skip
      ·
        refine t_skip ?_
        refine i_then ?_
        refine t_seq ?_
        refine t_region ?_
        refine mvI rfl ?_
        refine r_index_ptrI rfl rfl rfl rfl rfl (by omega) (by omega) ?_
        refine r_store_vecA (E := BoolE) (z := true) rfl rfl (by unfold BoolE; rfl) (by decide) rfl rfl rfl rfl (by omega) (by unfold BoolE; decide) rfl (by unfold BoolE; rfl) ?_
        refine r_nil ?_
        refine i_then ?_
        refine t_seq ?_
        refine t_seq ?_
        refine t_region ?_
        refine r_load_pp rfl rfl rfl rfl ?_
        refine mvI rfl ?_
        refine r_callG [(1000, 1000)] [] [(1000, Cont.vec LedE 113 [l])] (c_leftI l hl (nth (tosOf l f) x.i) ht) rfl rfl (by repeat (first | exact cv_nil | refine cv_cons ?_ ?_ | exact cv_ptr List.mem_cons_self | exact cv_pub rfl rfl)) (pre_cons (a := 1000) (b := 1000) (by exact List.mem_cons_self) rfl (cc_vec (by exact List.mem_cons_self) rfl) pre_nil) (post_cons (a := 1000) (b := 1000) (by exact List.mem_cons_self) rfl (cc_vec (by exact List.mem_cons_self) rfl) post_nil) (cv_pub rfl rfl) ?_
        refine r_bin rfl rfl rfl ?_
        refine r_nil ?_
        refine i_then ?_
        refine t_cond_dec rfl (fun hc3 => ?_) (fun hc3 => ?_)
        ·
          refine t_seq ?_
          refine t_region ?_
          refine mvI rfl ?_
          refine mvI rfl ?_
          refine r_buildSlice (E := I64) (xs := [_, _]) rfl rfl rfl rfl rfl (by decide) (by decide) (by repeat (first | exact (Parts.nil : Parts _ _ [] _) | (show Parts _ _ ((_, _) :: _) _; apply Parts.one; (· exact (rfl : _ = Ty.int _ _)); (· exact rfl)))) (by exact rfl) rfl ?_
          refine asS rfl ?_
          refine r_nil ?_
          refine i_then ?_
          refine t_ret ?_
          refine i_then_ret ?_
          refine i_block_ret ?_
          refine i_then_ret ?_
          refine i_then_ret ?_
          refine i_block_ret ?_
          refine i_then_ret ?_
          refine g_ret1 [1000, 1001, 1002] rfl rfl (by decide) ?_ ?_
          · exact way_rc rfl rfl rfl (congrArg Prod.snd (x.last hc1 hc2 hc3)).symm
          all_goals skip
          exact rg_nsl_of (congrArg Prod.fst (x.last hc1 hc2 hc3)).symm (by simp)
        ·
          refine t_skip ?_
          refine i_then ?_
          refine t_seq ?_
          have hun := x.un2 hc1 hc2
          refine t_region ?_
          refine r_load_pp rfl rfl rfl rfl ?_
          refine r_nilCheck_ptr rfl ?_
          refine r_field_ptr rfl rfl rfl rfl rfl (by decide) ?_
          refine r_load_ob (ty := Ty.pe BrdE l.w 0) rfl rfl (by decide) rfl rfl (by unfold LedE; rfl) ?_
          refine r_nilCheck_pe rfl ?_
          refine r_field_pe rfl rfl rfl rfl rfl (by decide) ?_
          refine r_field_pe rfl rfl rfl rfl rfl (by decide) ?_
          refine r_load_pe (ty := Ty.sl TrnE l.w.1.f.turnings) rfl rfl rfl (by unfold BrdE; rfl) ?_
          refine r_len rfl rfl rfl ?_
          refine mvI rfl ?_
          refine r_nil ?_
          refine i_then ?_
          refine t_block ?_
          refine t_loop (fun (y : OIx l k f (nth (tosOf l f) x.i).toNat (x.met.set (nth (tosOf l f) x.i).toNat true)) => live [(0, Ty.int .i64 (f : Nat)), (1, Ty.pp [Ty.ptr 1000 0]), (2, Ty.ptr 1001 0), (3, Ty.ptr 1002 0), (7, Ty.int .i64 (nth (tosOf l f) x.i)), (19, Ty.sl I64 (tosOf l f)), (20, Ty.int .i64 (tosOf l f).length), (21, Ty.int .i64 (x.i : Nat)), (62, Ty.int .i64 (l.T : Nat)), (63, Ty.int .i64 (y.i : Nat))] [(1000, Cont.vec LedE 113 [l]), (1001, Cont.vec BoolE 185 y.met), (1002, Cont.cells 108 [Ty.clo 149 [Ty.pp [Ty.ptr 1000 0], Ty.ptr 1001 0, Ty.ptr 1002 0]])]) (fun y => l.T - y.i) (⟨0, x.met.set (nth (tosOf l f) x.i).toNat true, by omega, by simp [hxl], hun, rfl⟩) ?_ fun y => ?_
          · (refine Ent.mk' ?_ ?_ <;> (repeat' (first | exact allSub_zero | exact allTags_nil | refine allSub_succ' ?_ (Ty.sub_any _) | refine allSub_succ' ?_ (Ty.sub_refl _) | refine allTags_cons rfl (Cont.sub_refl _) ?_)))
          ·
            have hyl := y.len
            refine t_seq ?_
            refine t_region ?_
            refine r_bin rfl rfl rfl ?_
            refine r_nil ?_
            refine i_then ?_
            refine t_seq ?_
            refine t_cond_dec rfl (fun hc4 => ?_) (fun hc4 => ?_)
            ·
              refine t_skip ?_
              refine i_then ?_
              refine t_seq ?_
              refine t_block ?_
              refine t_seq ?_
              refine t_region ?_
              refine mvI rfl ?_
              refine asI rfl ?_
              refine r_nil ?_
              refine i_then ?_
              refine t_seq ?_
              refine t_seq ?_
              refine t_region ?_
              refine mvI rfl ?_
              refine mvI rfl ?_
              refine r_bin rfl rfl rfl ?_
              refine mvB rfl ?_
              apply r_guard (s := 69) rfl rfl rfl
              · intro hg; apply opT_of; (refine r_load_pp rfl rfl rfl rfl ?_); refine r_nil ?_; exact rfl
              · exact rfl
              · exact rfl
              apply r_guard (s := 69) rfl rfl rfl
              · intro hg; apply opT_of; (refine mvI rfl ?_); refine r_nil ?_; exact rfl
              · exact rfl
              · exact rfl
              apply r_guard (s := 69) rfl rfl rfl
              · intro hg; apply opT_of; (refine mvI rfl ?_); refine r_nil ?_; exact rfl
              · exact rfl
              · exact rfl
              apply r_guard (s := 69) rfl rfl rfl
              · intro hg; apply opT_strip (s := 70) rfl (by (rw [hg]; rfl)); apply opT_of; (refine r_nilCheck_ptr rfl ?_); refine r_nil ?_; exact rfl
              · exact rfl
              · exact rfl
              apply r_guard (s := 69) rfl rfl rfl
              · intro hg; apply opT_strip (s := 73) rfl (by (rw [hg]; rfl)); apply opT_of; (refine r_field_ptr rfl rfl rfl rfl rfl (by decide) ?_); refine r_nil ?_; exact rfl
              · exact rfl
              · exact rfl
              apply r_guard (s := 69) rfl rfl rfl
              · intro hg; apply opT_strip (s := 74) rfl (by (rw [hg]; rfl)); apply opT_strip (s := 71) rfl (by (rw [hg]; rfl)); apply opT_of; (refine r_index_ptr rfl rfl rfl rfl rfl (by omega) ?_); refine r_nil ?_; exact rfl
              · exact rfl
              · exact rfl
              apply r_guard (s := 69) rfl rfl rfl
              · intro hg; apply opT_strip (s := 75) rfl (by (rw [hg]; rfl)); apply opT_strip (s := 72) rfl (by (rw [hg]; rfl)); apply opT_of; (refine r_index_ptrI rfl rfl rfl rfl rfl (by omega) (by omega) ?_); refine r_nil ?_; exact rfl
              · exact rfl
              · exact rfl
              apply r_guard (s := 69) rfl rfl rfl
              · intro hg; apply opT_strip (s := 76) rfl (by (rw [hg]; rfl)); apply opT_of; (refine r_load_ob (ty := Ty.int .i64 (l.P y.i (nth (tosOf l f) x.i).toNat)) rfl rfl (by decide) rfl rfl (led_at (by omega) (by omega) (by show 0 + 2 + y.i * 8 + (nth (tosOf l f) x.i).toNat * 1 = _; omega)) ?_); refine r_nil ?_; exact rfl
              · exact rfl
              · exact rfl
              apply r_guard (s := 69) rfl rfl rfl
              · intro hg; apply opT_strip (s := 77) rfl (by (rw [hg]; rfl)); apply opT_of; (refine r_bin rfl rfl rfl ?_); refine r_nil ?_; exact rfl
              · exact rfl
              · exact rfl
              refine r_or rfl rfl ?_
              refine r_nil ?_
              refine i_then ?_
              refine t_cond rfl (fun hc5 => ?_) (fun hc5 => ?_)
              ·
                refine t_exit ?_
                refine i_then_exit ?_
                refine i_block_exit rfl ?_
                refine i_then ?_
                refine t_region ?_
                refine r_add rfl rfl (by omega) (by omega) ?_
                refine mvI rfl ?_
                refine r_nil ?_
                refine i_round (by exact y.skip hc4 hc5) ?_ (by show l.T - (y.i + 1) < l.T - y.i; omega)
                (refine Ent.mk' ?_ ?_ <;> (repeat' (first | exact allSub_zero | exact allTags_nil | refine allSub_succ' ?_ (Ty.sub_any _) | refine allSub_succ' ?_ (Ty.sub_refl _) | refine allTags_cons rfl (Cont.sub_refl _) ?_)))
                all_goals skip
              ·
                refine t_skip ?_
                refine i_then ?_
                refine t_seq ?_
                refine t_region ?_
                refine r_load_ptr rfl rfl (by decide) rfl rfl rfl ?_
                refine mvI rfl ?_
                refine r_callvG [(1000, 1000), (1001, 1001), (1002, 1002)] [] (wayPre l (wayM l k y.i y.met).2) rfl (ih y.i y.met (by omega) y.len y.un (by omega)) rfl rfl (cv_cons (cv_cons (cv_cons (cv_cons cv_nil (cv_ptr (by decide))) (cv_ptr (by decide))) (cv_pp (cv_cons cv_nil (cv_ptr (by decide))))) (cv_pub rfl rfl)) (pre_cons (a := 1000) (b := 1000) (by decide) rfl (cc_vec (by decide) rfl) (pre_cons (a := 1001) (b := 1001) (by decide) rfl (cc_vec (by decide) rfl) (pre_cons (a := 1002) (b := 1002) (by decide) rfl (cc_cells (by decide) (clo_conv (by decide) (by decide) (by decide))) pre_nil))) (post_cons (a := 1000) (b := 1000) (by decide) rfl (cc_vec (by decide) rfl) (post_cons (a := 1001) (b := 1001) (by decide) rfl (cc_vec (by decide) rfl) (post_cons (a := 1002) (b := 1002) (by decide) rfl (cc_cells (by decide) (clo_conv (by decide) (by decide) (by decide))) post_nil))) (cv_pub rfl rfl) ?_
                refine asN rfl ?_
                refine r_nil ?_
                refine i_then ?_
                refine t_seq ?_
                refine t_region ?_
                refine mvN rfl ?_
                refine r_neqnilN und22 rfl ?_
                refine r_nil ?_
                refine i_then ?_
                refine t_cond rfl (fun hc6 => ?_) (fun hc6 => ?_)
                ·
                  refine t_seq ?_
                  have hwl := way_len l k y.i y.met
                  refine t_as (s := 9) rfl Ty.nsl_sl ?_
                  refine t_region ?_
                  refine mvI rfl ?_
                  refine mvI rfl ?_
                  refine r_buildRowN (E := I64) (xs := [(f : Int), nth (tosOf l f) x.i]) rfl rfl rfl rfl rfl (by decide) (by decide) (by repeat (first | exact (Parts.nil : Parts _ _ [] _) | (show Parts _ _ ((_, _) :: _) _; apply Parts.one; (· exact (rfl : _ = Ty.int _ _)); (· exact rfl)))) (by exact rfl) rfl rfl ?_
                  refine mvS rfl ?_
                  refine r_append rfl rfl (by decide) rfl rfl rfl rfl rfl rfl (by decide) (by (simp <;> omega)) (by (simp <;> omega)) ?_
                  refine asR rfl ?_
                  refine r_nil ?_
                  refine i_then ?_
                  refine t_ret ?_
                  refine i_block_ret ?_
                  refine i_then_ret ?_
                  refine i_then_ret ?_
                  refine i_block_ret ?_
                  refine i_block_ret ?_
                  refine i_then_ret ?_
                  refine i_then_ret ?_
                  refine i_block_ret ?_
                  refine i_then_ret ?_
                  refine g_ret1 [1000, 1001, 1002] rfl rfl (by decide) ?_ ?_
                  · exact way_rc rfl rfl rfl (congrArg Prod.snd (x.found hc1 hc2 hc3 y hc4 hc5 hc6)).symm
                  all_goals skip
                  exact rg_nsl_row (by decide) rfl (congrArg Prod.fst (x.found hc1 hc2 hc3 y hc4 hc5 hc6)).symm (by rw [x.found hc1 hc2 hc3 y hc4 hc5 hc6]; simp)
                ·
                  refine t_skip ?_
                  refine i_block ?_
                  refine i_then ?_
                  refine t_region ?_
                  refine r_add rfl rfl (by omega) (by omega) ?_
                  refine mvI rfl ?_
                  refine r_nil ?_
                  refine i_round (by exact y.go hc4 hc5 hc6) ?_ (by show l.T - (y.i + 1) < l.T - y.i; omega)
                  (refine Ent.mk' ?_ ?_ <;> (repeat' (first | exact allSub_zero | exact allTags_nil | refine allSub_succ' ?_ (Ty.sub_any _) | refine allSub_succ' ?_ (Ty.sub_refl _) | refine allTags_cons rfl (Cont.sub_refl _) ?_)))
                  all_goals skip
            ·
              refine t_exit ?_
              refine i_then_exit ?_
              refine i_then_exit ?_
              refine i_block_exit rfl ?_
              refine i_block ?_
              refine i_then ?_
              refine t_region ?_
              refine r_add rfl rfl (by omega) (by omega) ?_
              refine mvI rfl ?_
              refine r_nil ?_
              refine i_round (by exact x.go hc1 hc2 hc3 y hc4) ?_ (by show (tosOf l f).length - (x.i + 1) < (tosOf l f).length - x.i; omega)
              (refine Ent.mk' ?_ ?_ <;> (repeat' (first | exact allSub_zero | exact allTags_nil | refine allSub_succ' ?_ (Ty.sub_any _) | refine allSub_succ' ?_ (Ty.sub_refl _) | refine allTags_cons rfl (Cont.sub_refl _) ?_)))
              all_goals skip
    ·
      refine t_exit ?_
      refine i_then_exit ?_
      refine i_then_exit ?_
      refine i_block_exit rfl ?_
      refine i_then ?_
      refine t_seq ?_
      refine t_region ?_
      refine asX rfl ?_
      refine r_nil ?_
      refine i_then ?_
      refine t_ret ?_
      refine g_ret1 [1000, 1001, 1002] rfl rfl (by decide) ?_ ?_
      · exact way_rc rfl rfl rfl (congrArg Prod.snd (x.stop hc1)).symm
      all_goals skip
      exact rg_nsl_nil (congrArg Prod.fst (x.stop hc1))
end Go.Proofs.YtifgbnbkimcchaaGreat

namespace Go.Proofs.YtifgbnbkimcchaaGreat
open Go Go.T
set_option maxHeartbeats 2000000
attribute [local irreducible] dInt dBool dSl dPp dPtr dAgg dTup dClo dAny dEx dStr dGd dCells dVec dVs dRow dOp nth Tri Into TOps Ctr bodyPost Exit.then Exit.inBlock Code.wp Code.wpIn dWhen dPa dPe dAo dArr dMp dPm dMap dCJ CtrG CtrI OpY keepPost iterPost bodyPostM roundQ
theorem find_conv : Convs [(1000, 1000), (6, 1001), (7, 1002)] [Ty.clo 149 [Ty.pp [Ty.ptr 1000 0], Ty.ptr 6 0, Ty.ptr 7 0]] [Ty.clo 149 [Ty.pp [Ty.ptr 1000 0], Ty.ptr 1001 0, Ty.ptr 1002 0]] :=
  cv_cons cv_nil (cv_clo (cv_cons (cv_cons (cv_cons cv_nil (cv_ptr (by decide))) (cv_ptr (by decide))) (cv_pp (cv_cons cv_nil (cv_ptr (by decide))))))
attribute [local irreducible] Led.P LedE BrdE tosOf wayM
set_option maxRecDepth 100000 in
theorem c_find (l : Led) (hl : LOk l) (f : Nat) (hf : f < l.T) : CtrG Tryz.prog 103 [1000] [(1000, Cont.vec LedE 113 [l])] [Ty.ptr 1000 0, Ty.int .i64 (f : Nat)] [(1000, Cont.vec LedE 113 [l])] (Ty.nsl I64 (findM l f)) := by
  refine fnG_intro Tryz.func103 rfl (by decide) Tryz.ntmps103 (by exact Nat.le_of_ble_eq_true rfl) fun w0 M0 => ?_
  refine t_seq ?_
  refine t_region ?_
  refine r_box_one (by exact (rfl : _ = Ty.ptr _ _)) rfl ?_
  refine asX rfl ?_
  refine r_nil ?_
  refine i_then ?_
  refine t_seq ?_
  refine t_region ?_
  refine r_allocV (E := BoolE) (xs := List.replicate 8 false) rfl (by exact List.cons_ne_nil _ _) rfl rfl ?_
  refine r_nil ?_
  refine i_then ?_
  refine t_seq ?_
  refine t_region ?_
  refine r_alloc rfl (by exact List.cons_ne_nil _ _) rfl ?_
  refine r_nil ?_
  refine i_then ?_
  refine t_seq ?_
  refine t_region ?_
  refine r_makeFunc rfl ?_
  refine r_store1 rfl rfl (by decide) rfl rfl (by exact (rfl : _ = Ty.clo _ _)) rfl (by exact Nat.le_of_ble_eq_true rfl) rfl rfl (by exact (rfl : _ = [_])) ?_
  refine r_nil ?_
  refine i_then ?_
  refine t_seq ?_
  refine t_region ?_
  refine r_load_ptr rfl rfl (by decide) rfl rfl rfl ?_
  refine mvI rfl ?_
  refine r_callvG [(1000, 1000), (6, 1001), (7, 1002)] [] [(1000, Cont.vec LedE 113 [l]), (6, Cont.vec BoolE 185 (wayM l 9 f (List.replicate 8 false)).2)] rfl (c_wayf l hl 9 f (List.replicate 8 false) hf (by simp) (by rw [unm_start]; omega) (by omega)) rfl rfl (cv_cons (cv_cons (cv_cons (cv_cons cv_nil (cv_ptr (by decide))) (cv_ptr (by decide))) (cv_pp (cv_cons cv_nil (cv_ptr (by decide))))) (cv_pub rfl rfl)) (pre_cons (a := 1000) (b := 1000) (by decide) rfl (cc_vec (by decide) rfl) (pre_cons (a := 6) (b := 1001) (by decide) rfl (cc_vec (by decide) rfl) (pre_cons (a := 7) (b := 1002) (by decide) rfl (cc_cells (by decide) find_conv) pre_nil))) (post_cons (a := 1000) (b := 1000) (by decide) rfl (cc_vec (by decide) rfl) (post_cons (a := 6) (b := 1001) (by decide) rfl (cc_vec (by decide) rfl) post_nil)) (cv_pub rfl rfl) ?_
  refine asN rfl ?_
  refine r_nil ?_
  refine i_then ?_
  refine t_ret ?_
  refine g_ret1 [1000] rfl rfl (by decide) (by repeat (first | exact rc_nil | refine rc_cons rfl (cc_vec (by decide) rfl) ?_)) ?_
  all_goals exact rg_cv (cv_pub rfl rfl)
  all_goals exact rg_nsl rfl
end Go.Proofs.YtifgbnbkimcchaaGreat

namespace Go.Proofs.YtifgbnbkimcchaaGreat
open Go Go.T
structure PIx (f : Flr) (bay u : Nat) (l0 : Led) where
  fuel : Nat
  led : Led
  n : Int
  inv : LInv f bay led
  same : payF u (addB (boardsOf f) bay u).toNat l0 (addB (boardsOf f) bay u) = payF u fuel led n
  le : n ≤ (fuel : Int)
  p1 : 0 < addB (boardsOf f) bay u → n + led.row u = addB (boardsOf f) bay u ∧ 0 ≤ n
  p2 : addB (boardsOf f) bay u ≤ 0 → n ≤ 0
def PIx.start {f : Flr} {bay u : Nat} {l0 : Led} (hi : LInv f bay l0) (hr : l0.row u = 0) : PIx f bay u l0 :=
  ⟨(addB (boardsOf f) bay u).toNat, l0, addB (boardsOf f) bay u, hi, rfl, by omega, fun h => ⟨by rw [hr]; omega, by omega⟩, fun h => h⟩
section
variable {f : Flr} {bay u : Nat} {l0 : Led} (x : PIx f bay u l0)
theorem PIx.stop1 (h : ¬ 0 < x.n) : payF u (addB (boardsOf f) bay u).toNat l0 (addB (boardsOf f) bay u) = x.led := by
  rw [x.same]
  cases hf : x.fuel with
  | zero => rfl
  | succ k => rw [payF, if_pos (by omega)]
theorem PIx.stop2 (h : 0 < x.n) (he : findM x.led u = []) : payF u (addB (boardsOf f) bay u).toNat l0 (addB (boardsOf f) bay u) = x.led := by
  have := x.le
  rw [x.same]
  obtain ⟨k, hk⟩ : ∃ k, x.fuel = k + 1 := ⟨x.fuel - 1, by omega⟩
  rw [hk, payF, if_neg (by omega), if_pos he]
structure PathF (l : Led) (u : Nat) (p : List Int) (K : Nat) : Prop where
  way : WayF l u p K
  le : K ≤ 9
  F8 : ∀ j, j < K → wF p j < 8 ∧ wF p j < l.T
  T8 : ∀ j, j < K → wT p j < 8
  len : p.length = 2 * K
  half : p.length / 2 = K
  evn : ∀ i, i < p.length → 0 ≤ nth p i ∧ nth p i < 8
theorem others_len0 {rec : Nat → List Bool → List Int × List Bool} {l : Led} {f t B : Nat} (hr : ∀ o m, (rec o m).1.length ≤ B) : ∀ (L : List Nat) (m : List Bool), (othersM rec l f t L m).1.length ≤ B
  | [], _ => Nat.zero_le _
  | o :: r, m => by
    rw [othersM]
    split
    · exact others_len0 hr r m
    · split
      · exact others_len0 hr r _
      · exact hr o m
theorem tos_len0 {rec : Nat → List Bool → List Int × List Bool} {l : Led} {f B : Nat} (hr : ∀ o m, (rec o m).1.length ≤ B) : ∀ (L : List Int) (m : List Bool), (tosM rec l f L m).1.length ≤ B + 2
  | [], _ => Nat.zero_le _
  | t :: r, m => by
    rw [tosM]
    split
    · exact tos_len0 hr r m
    · split
      · simp
      · split
        · exact tos_len0 hr r _
        · have := others_len0 (l := l) (f := f) (t := t.toNat) hr (List.range l.T) (m.set t.toNat true)
          simp only [List.length_cons]; omega
theorem way_len0 (l : Led) : ∀ (k f : Nat) (m : List Bool), (wayM l k f m).1.length ≤ 2 * k
  | 0, _, _ => Nat.zero_le _
  | k + 1, f, m => by
    have := tos_len0 (l := l) (f := f) (way_len0 l k) (tosOf l f) m
    rw [wayM]; omega
theorem path_facts (h : checkP f = 0) (hu : u < f.turnings.length) {l : Led} (hi : LInv f bay l) (he : findM l u ≠ []) : ∃ K, PathF l u (findM l u) K := by
  obtain ⟨K, hw, _⟩ := way_facts (find_way he)
  have hT8 : l.T ≤ 8 := by rw [inv_T hi]; exact nt8 h
  have hlen := way_len0 l 9 u (List.replicate 8 false)
  have hl2 := hw.len
  have hlen' : (findM l u).length ≤ 2 * 9 := hlen
  have hFT : ∀ j, j < K → wF (findM l u) j < l.T := fun j hj => by
    cases j with
    | zero => rw [hw.first, inv_T hi]; exact hu
    | succ j => exact (hw.step j hj).1
  have hT : ∀ j, j < K → wT (findM l u) j < 8 := fun j hj => (tos_lt (hw.tos j hj).1).1
  refine ⟨K, hw, by omega, fun j hj => ⟨by have := hFT j hj; omega, hFT j hj⟩, hT, hl2, by omega, fun i hi' => ?_⟩
  obtain ⟨j, hj⟩ : ∃ j, i = 2 * j ∨ i = 2 * j + 1 := ⟨i / 2, by omega⟩
  rcases hj with rfl | rfl
  · have e := hw.nat j (by omega)
    have := hFT j (by omega)
    rw [e]; omega
  · have := hw.tos j (by omega)
    have := tos_lt this.1
    omega
def PIx.next (h : checkP f = 0) (hu : u < f.turnings.length) (hn : 0 < x.n) (he : findM x.led u ≠ []) : PIx f bay u l0 := by
  refine ⟨x.fuel - 1, augUp x.led (findM x.led u) (muchM x.led (findM x.led u) x.n) ((findM x.led u).length / 2), x.n - muchM x.led (findM x.led u) x.n, ?_, ?_, ?_, ?_, ?_⟩
  all_goals
    have hp : 0 < addB (boardsOf f) bay u := by
      rcases Int.lt_or_le 0 (addB (boardsOf f) bay u) with hx | hx
      · exact hx
      · exact absurd (x.p2 hx) (by omega)
    obtain ⟨g1, g2⟩ := x.p1 hp
    have hle := x.le
    obtain ⟨K, hw⟩ := path_facts h hu x.inv he
    have ha := aug_inv h x.inv (by rw [inv_T x.inv]; exact hu) (n := x.n) (by omega) (by rw [inv_add x.inv]; show x.n + x.led.row u ≤ _; omega) hw.way
    rw [← hw.half] at ha
    have ho := ha.one
    have hl := ha.le
  · exact ha.inv
  · rw [x.same]
    obtain ⟨k, hk⟩ : ∃ k, x.fuel = k + 1 := ⟨x.fuel - 1, by omega⟩
    rw [hk, payF, if_neg (by omega), if_neg he]; rfl
  · omega
  · intro _
    have hr := ha.row u
    rw [if_pos rfl] at hr
    have hr' : (augUp x.led (findM x.led u) (muchM x.led (findM x.led u) x.n) ((findM x.led u).length / 2)).row u = x.led.row u + muchM x.led (findM x.led u) x.n := hr
    rw [hr']; omega
  · intro hx; omega
theorem PIx.much (h : checkP f = 0) (hu : u < f.turnings.length) (hn : 0 < x.n) (he : findM x.led u ≠ []) : 1 ≤ muchM x.led (findM x.led u) x.n ∧ muchM x.led (findM x.led u) x.n ≤ x.n ∧ x.n ≤ 1200 := by
  have hp : 0 < addB (boardsOf f) bay u := by
    rcases Int.lt_or_le 0 (addB (boardsOf f) bay u) with hx | hx
    · exact hx
    · exact absurd (x.p2 hx) (by omega)
  obtain ⟨g1, g2⟩ := x.p1 hp
  obtain ⟨K, hw⟩ := path_facts h hu x.inv he
  have ha := aug_inv h x.inv (by rw [inv_T x.inv]; exact hu) (n := x.n) (by omega) (by rw [inv_add x.inv]; show x.n + x.led.row u ≤ _; omega) hw.way
  have hb := addB_bound (boardsOf_fine h) bay u
  have h8 := nt8 h
  have hr := sm_nonneg (g := fun t => x.led.P u t) 8 fun t ht => x.inv.nn u t (by omega) ht
  have hr' : 0 ≤ x.led.row u := hr
  exact ⟨ha.one, ha.le, by omega⟩
end
theorem aug_bound {l : Led} (hl : LOk l) {u : Nat} {p : List Int} {K : Nat} (hp : PathF l u p K) {m : Int} (hm : 1 ≤ m ∧ m ≤ 1200) {k : Nat} (hk : k ≤ K) {o t : Nat} (ho : o < 8) (ht : t < 8) : -30000 ≤ (augUp l p m k).P o t ∧ (augUp l p m k).P o t ≤ 30000 := by
  have e := aug_P hl.len (fun j hj => (hp.F8 j hj).1) (fun j hj => hp.T8 j hj) m (o := o) ht k hk
  have h1 := sm_bound (g := ups p m o t) (B := 1200) k fun i _ => by unfold ups; split <;> omega
  have h2 := sm_bound (g := downs p m o t) (B := 1200) k fun i _ => by unfold downs; split <;> omega
  have h3 := hl.nn o t ho ht
  have := hp.le
  rw [e]; omega
theorem path_at {p : List Int} (j : Nat) : (nth p (2 + 2 * j)).toNat = wF p (j + 1) ∧ (nth p (2 * j)).toNat = wF p j ∧ (nth p (2 * j + 1)).toNat = wT p j := ⟨by unfold wF; rw [show 2 * (j + 1) = 2 + 2 * j by omega], rfl, rfl⟩
end Go.Proofs.YtifgbnbkimcchaaGreat

namespace Go.Proofs.YtifgbnbkimcchaaGreat
open Go Go.T
set_option maxHeartbeats 2000000
attribute [local irreducible] dInt dBool dSl dPp dPtr dAgg dTup dClo dAny dEx dStr dGd dCells dVec dVs dRow dOp nth Tri Into TOps Ctr bodyPost Exit.then Exit.inBlock Code.wp Code.wpIn dWhen dPa dPe dAo dArr dMp dPm dMap dCJ CtrG CtrI OpY keepPost iterPost bodyPostM roundQ
theorem least_one (n a : Int) : leastM n [a] = min n a := rfl
theorem led_add' {l : Led} (hl : l.paid.length = 64) {o t off : Nat} (ho : o < 8) (ht : t < 8) (e : off = 2 + (o * 8 + t)) {m v : Int} (hv : v = l.P o t + m) : (LedE.tys l).set off (Ty.int .i64 v) = LedE.tys (addP l o t m) := by
  subst e; subst hv; exact led_add hl ho ht m
theorem aug_zero {l : Led} {p : List Int} {m : Int} {k : Nat} (h : ¬ 0 < k) : addP (augUp l p m k) (wF p k) (wT p k) m = augUp l p m (k + 1) := by rw [augUp, if_neg h]
theorem aug_more {l : Led} {p : List Int} {m : Int} {k : Nat} (h : 0 < k) : addP (addP (augUp l p m k) (wF p k) (wT p k) m) (wF p k) (wT p (k - 1)) (-m) = augUp l p m (k + 1) := by rw [augUp, if_pos h]
theorem addP_P {l : Led} (hl : l.paid.length = 64) {o t o' t' : Nat} (ho : o < 8) (ht : t < 8) (ht' : t' < 8) (m : Int) : (addP l o t m).P o' t' = l.P o' t' ∨ (addP l o t m).P o' t' = l.P o' t' + m := by
  rw [P_addP hl ho ht ht']; split
  · exact .inr rfl
  · exact .inl (Int.add_zero _)
theorem mu_zero (l : Led) (p : List Int) (n : Int) (K : Nat) : muchUp l p n K 0 = min n (leftM l (wT p (K - 1))) := rfl
theorem mu_succ (l : Led) (p : List Int) (n : Int) (K k : Nat) : muchUp l p n K (k + 1) = min (muchUp l p n K k) (l.P (wF p (k + 1)) (wT p k)) := rfl
theorem aug_start (l : Led) (p : List Int) (m : Int) : augUp l p m 0 = l := rfl
theorem muchM_eq (l : Led) (p : List Int) (n : Int) : muchM l p n = muchUp l p n (p.length / 2) (p.length / 2 - 1) := rfl
theorem addP_len (l : Led) (o t : Nat) (m : Int) : (addP l o t m).paid.length = l.paid.length := by show (List.set _ _ _).length = _; rw [List.length_set]
attribute [local irreducible] Led.P LedE BrdE tosOf wayM findM augUp addP muchUp muchM leftM wF wT
set_option maxRecDepth 100000 in
theorem c_pay (f : Flr) (h : checkP f = 0) (bay : Nat) (hb : bay < f.bears.length) (l : Led) (hi : LInv f bay l) (u : Nat) (hu : u < f.turnings.length) (hr : l.row u = 0) : CtrG Tryz.prog 63 [1000] [(1000, Cont.vec LedE 113 [l])] [Ty.ptr 1000 0, Ty.int .i64 (u : Nat)] [(1000, Cont.vec LedE 113 [payF u (addB (boardsOf f) bay u).toNat l (addB (boardsOf f) bay u)])] (Ty.tup []) := by
  refine fnG_intro Tryz.func63 rfl (by decide) Tryz.ntmps63 (by exact Nat.le_of_ble_eq_true rfl) fun w0 M0 => ?_
  have h8 := nt8 h
  have hlk := inv_ok h hb hi
  have hbay := hlk.bay
  have hadd : addB l.w l.bay u = addB (boardsOf f) bay u := by rw [hi.w, hi.bay]
  refine t_seq ?_
  refine t_draw mixed rfl ?_
  refine mvO rfl ?_
  refine r_nilCheck_ptr rfl ?_
  refine r_field_ptr rfl rfl rfl rfl rfl (by decide) ?_
  refine r_load_ob (ty := Ty.pe BrdE l.w 0) rfl rfl (by decide) rfl rfl (by unfold LedE; rfl) ?_
  refine mvI rfl ?_
  refine mvO rfl ?_
  refine r_nilCheck_ptr rfl ?_
  refine r_field_ptr rfl rfl rfl rfl rfl (by decide) ?_
  refine r_load_ob (ty := Ty.int .i64 l.bay) rfl rfl (by decide) rfl rfl (by unfold LedE; rfl) ?_
  refine r_nilCheck_pe rfl ?_
  refine r_field_pe rfl rfl rfl rfl rfl (by decide) ?_
  refine r_index_pe rfl rfl rfl rfl rfl (by omega) ?_
  refine r_index_pe rfl rfl rfl rfl rfl (by omega) ?_
  refine r_load_pe (ty := Ty.int .i64 (addB l.w l.bay u)) rfl rfl rfl (bay_adds (by omega) hbay (by show 0 + 12 + u * 4 + l.bay * 1 = _; omega)) ?_
  refine asI rfl ?_
  refine r_nil ?_
  refine ⟨by kernel_rfl, ?_⟩
  refine i_then ?_
  refine t_block ?_
  refine t_loop (fun (x : PIx f bay u l) => live [(0, Ty.ptr 1000 0), (1, Ty.int .i64 (u : Nat)), (4, Ty.int .i64 x.n)] [(1000, Cont.vec LedE 113 [x.led])]) (fun x => x.fuel) (PIx.start hi hr) ?_ fun x => ?_
  · (refine Ent.mk' ?_ ?_ <;> (repeat' (first | exact allSub_zero | exact allTags_nil | refine allSub_succ' ?_ (Ty.sub_any _) | refine allSub_succ' ?_ (Ty.sub_refl _) | refine allTags_cons rfl (Cont.sub_refl _) ?_ | refine allSub_succ' ?_ ?_)))
    all_goals exact Ty.sub_int hadd
  ·
    have hxk := inv_ok h hb x.inv
    have hxT : u < x.led.T := by rw [inv_T x.inv]; exact hu
    refine t_seq ?_
    refine t_seq ?_
    refine t_region ?_
    refine mvI rfl ?_
    refine r_bin rfl rfl rfl ?_
    refine r_nil ?_
    refine i_then ?_
    refine t_cond_dec rfl (fun hc1 => ?_) (fun hc1 => ?_)
    ·
      refine t_skip ?_
      refine i_then ?_
      refine t_block ?_
      refine t_seq ?_
      refine t_region ?_
      refine mvO rfl ?_
      refine mvI rfl ?_
      refine r_callG [(1000, 1000)] [] [(1000, Cont.vec LedE 113 [x.led])] (c_find x.led hxk u hxT) rfl rfl (by repeat (first | exact cv_nil | refine cv_cons ?_ ?_ | exact cv_ptr List.mem_cons_self | exact cv_pub rfl rfl)) (pre_cons (a := 1000) (b := 1000) (by exact List.mem_cons_self) rfl (cc_vec (by exact List.mem_cons_self) rfl) pre_nil) (post_cons (a := 1000) (b := 1000) (by exact List.mem_cons_self) rfl (cc_vec (by exact List.mem_cons_self) rfl) post_nil) (cv_pub rfl rfl) ?_
      refine asN rfl ?_
      refine r_nil ?_
      refine i_then ?_
      refine t_seq ?_
      refine t_seq ?_
      refine t_region ?_
      refine mvN rfl ?_
      refine r_eqnilN und22 rfl ?_
      refine r_nil ?_
      refine i_then ?_
      refine t_cond rfl (fun hc2 => ?_) (fun hc2 => ?_)
      ·
        refine t_ret ?_
        refine i_then_ret ?_
        refine i_block_ret ?_
        refine i_then_ret ?_
        refine i_block_ret ?_
        refine g_ret0 [1000] rfl (by decide) ?_
        exact rc_cons rfl (cc_vec (by decide) (congrArg (fun l => [l]) (x.stop2 hc1 (by simpa using hc2)).symm)) rc_nil
      ·
        refine t_skip ?_
        refine i_then ?_
        refine t_seq ?_
        have hne : findM x.led u ≠ [] := by simpa using hc2
        obtain ⟨K, hp⟩ := path_facts h hu x.inv hne
        obtain ⟨hm1, hm2, hm3⟩ := x.much h hu hc1 hne
        obtain ⟨p, hpe⟩ : ∃ p, p = findM x.led u := ⟨_, rfl⟩
        obtain ⟨m, hme⟩ : ∃ m, m = muchM x.led (findM x.led u) x.n := ⟨_, rfl⟩
        rw [← hme] at hm1 hm2
        rw [← hpe] at hp
        have hK1 := hp.way.one
        have hK9 := hp.le
        have hpl := hp.len
        have hev := hp.evn
        have e0 : (nth p ((p.length : Int) - 1).toNat).toNat = wT p (K - 1) := by rw [← (path_at (p := p) (K - 1)).2.2, show ((p.length : Int) - 1).toNat = 2 * (K - 1) + 1 by omega]
        refine t_as (s := 5) (ty' := Ty.sl I64 p) rfl (by rw [hpe]; exact Ty.nsl_sl) ?_
        refine t_region ?_
        refine mvI rfl ?_
        refine mvO rfl ?_
        refine mvS rfl ?_
        refine mvS rfl ?_
        refine r_len rfl rfl rfl ?_
        refine r_sub rfl rfl (by omega) (by omega) ?_
        refine r_index_sl rfl rfl rfl rfl rfl rfl (by omega) (by omega) ?_
        refine r_load_pp rfl rfl rfl rfl ?_
        refine r_callG [(1000, 1000)] [] [(1000, Cont.vec LedE 113 [x.led])] (c_leftI x.led hxk (nth p ((p.length : Int) - 1).toNat) (hev _ (by omega))) rfl rfl (by repeat (first | exact cv_nil | refine cv_cons ?_ ?_ | exact cv_ptr List.mem_cons_self | exact cv_pub rfl rfl)) (pre_cons (a := 1000) (b := 1000) (by exact List.mem_cons_self) rfl (cc_vec (by exact List.mem_cons_self) rfl) pre_nil) (post_cons (a := 1000) (b := 1000) (by exact List.mem_cons_self) rfl (cc_vec (by exact List.mem_cons_self) rfl) post_nil) (cv_pub rfl rfl) ?_
        refine r_buildSlice (E := I64) (xs := [_]) rfl rfl rfl rfl rfl (by decide) (by decide) (by repeat (first | exact (Parts.nil : Parts _ _ [] _) | (show Parts _ _ ((_, _) :: _) _; apply Parts.one; (· exact (rfl : _ = Ty.int _ _)); (· exact rfl)))) (by exact rfl) rfl ?_
        refine r_call (c_least _ _) rfl rfl rfl rfl rfl ?_
        refine asI rfl ?_
        refine r_nil ?_
        refine i_then ?_
        refine t_seq ?_
        refine t_seq ?_
        refine t_region ?_
        refine asI rfl ?_
        refine r_nil ?_
        refine i_then ?_
        refine t_block ?_
        refine t_loop (fun (k : {k : Nat // k ≤ K - 1}) => live [(0, Ty.ptr 1000 0), (1, Ty.int .i64 (u : Nat)), (4, Ty.int .i64 x.n), (5, Ty.sl I64 p), (6, Ty.int .i64 (muchUp x.led p x.n K k.1)), (7, Ty.int .i64 ((2 + 2 * k.1 : Nat) : Int))] [(1000, Cont.vec LedE 113 [x.led])]) (fun k => K - 1 - k.1) (⟨0, by omega⟩) ?_ fun k => ?_
        · (refine Ent.mk' ?_ ?_ <;> (repeat' (first | exact allSub_zero | exact allTags_nil | refine allSub_succ' ?_ (Ty.sub_any _) | refine allSub_succ' ?_ (Ty.sub_refl _) | refine allTags_cons rfl (Cont.sub_refl _) ?_ | refine allSub_succ' ?_ ?_)))
          all_goals exact Ty.sub_int (by rw [least_one, e0]; exact (mu_zero _ _ _ _).symm)
        ·
          have hk := k.2
          refine t_seq ?_
          refine t_seq ?_
          refine t_region ?_
          refine mvI rfl ?_
          refine mvS rfl ?_
          refine r_len rfl rfl rfl ?_
          refine r_bin rfl rfl rfl ?_
          refine r_nil ?_
          refine i_then ?_
          refine t_cond_dec rfl (fun hc3 => ?_) (fun hc3 => ?_)
          ·
            refine t_skip ?_
            refine i_then ?_
            refine t_seq ?_
            refine t_block ?_
            have e1 := (path_at (p := p) k.1).1
            have e2 : (nth p (((2 + 2 * k.1 : Nat) : Int) - 1).toNat).toNat = wT p k.1 := by rw [← (path_at (p := p) k.1).2.2, show (((2 + 2 * k.1 : Nat) : Int) - 1).toNat = 2 * k.1 + 1 by omega]
            have hv1 := hev (2 + 2 * k.1) (by omega)
            have hv2 := hev (((2 + 2 * k.1 : Nat) : Int) - 1).toNat (by omega)
            refine t_draw mixed rfl ?_
            refine mvI rfl ?_
            refine mvO rfl ?_
            refine mvS rfl ?_
            refine mvI rfl ?_
            refine r_index_slN rfl rfl rfl rfl rfl rfl (by omega) ?_
            refine r_load_pp rfl rfl rfl rfl ?_
            refine mvS rfl ?_
            refine mvI rfl ?_
            refine r_sub rfl rfl (by omega) (by omega) ?_
            refine r_index_sl rfl rfl rfl rfl rfl rfl (by omega) (by omega) ?_
            refine r_load_pp rfl rfl rfl rfl ?_
            refine r_nilCheck_ptr rfl ?_
            refine r_field_ptr rfl rfl rfl rfl rfl (by decide) ?_
            refine r_index_ptrI rfl rfl rfl rfl rfl (by omega) (by omega) ?_
            refine r_index_ptrI rfl rfl rfl rfl rfl (by omega) (by omega) ?_
            refine r_load_ob (ty := Ty.int .i64 (x.led.P (wF p (k.1 + 1)) (wT p k.1))) rfl rfl (by decide) rfl rfl (led_at (by omega) (by omega) (by show 0 + 2 + (nth p (2 + 2 * k.1)).toNat * 8 + (nth p (((2 + 2 * k.1 : Nat) : Int) - 1).toNat).toNat * 1 = _; rw [e1, e2]; omega)) ?_
            refine r_buildSlice (E := I64) (xs := [_]) rfl rfl rfl rfl rfl (by decide) (by decide) (by repeat (first | exact (Parts.nil : Parts _ _ [] _) | (show Parts _ _ ((_, _) :: _) _; apply Parts.one; (· exact (rfl : _ = Ty.int _ _)); (· exact rfl)))) (by exact rfl) rfl ?_
            refine r_call (c_least _ _) rfl rfl rfl rfl rfl ?_
            refine asI rfl ?_
            refine r_nil ?_
            refine ⟨by kernel_rfl, ?_⟩
            refine i_block ?_
            refine i_then ?_
            refine t_region ?_
            refine mvI rfl ?_
            refine r_add rfl rfl (by omega) (by omega) ?_
            refine asI rfl ?_
            refine r_nil ?_
            refine i_round (⟨k.1 + 1, by omega⟩) ?_ (by show K - 1 - (k.1 + 1) < K - 1 - k.1; omega)
            (refine Ent.mk' ?_ ?_ <;> (repeat' (first | exact allSub_zero | exact allTags_nil | refine allSub_succ' ?_ (Ty.sub_any _) | refine allSub_succ' ?_ (Ty.sub_refl _) | refine allTags_cons rfl (Cont.sub_refl _) ?_ | refine allSub_succ' ?_ ?_)))
            all_goals skip
            all_goals exact Ty.sub_int (by rw [least_one]; exact (mu_succ _ _ _ _ _).symm)
          ·
            refine t_exit ?_
            refine i_then_exit ?_
            refine i_then_exit ?_
            refine i_block_exit rfl ?_
            refine i_then ?_
            refine t_seq ?_
            refine t_seq ?_
            have hmu : muchUp x.led p x.n K k.1 = m := by rw [hme, ← hpe, muchM_eq, hp.half, show k.1 = K - 1 by omega]
            refine t_as (s := 6) (ty' := Ty.int .i64 m) rfl (Ty.sub_int hmu) ?_
            refine t_region ?_
            refine asI rfl ?_
            refine r_nil ?_
            refine i_then ?_
            refine t_block ?_
            refine t_loop (fun (k : {k : Nat // k ≤ K}) => live [(0, Ty.ptr 1000 0), (1, Ty.int .i64 (u : Nat)), (4, Ty.int .i64 x.n), (5, Ty.sl I64 p), (6, Ty.int .i64 m), (8, Ty.int .i64 ((2 * k.1 : Nat) : Int))] [(1000, Cont.vec LedE 113 [augUp x.led p m k.1])]) (fun k => K - k.1) (⟨0, by omega⟩) ?_ fun k => ?_
            · (refine Ent.mk' ?_ ?_ <;> (repeat' (first | exact allSub_zero | exact allTags_nil | refine allSub_succ' ?_ (Ty.sub_any _) | refine allSub_succ' ?_ (Ty.sub_refl _) | refine allTags_cons rfl ?_ ?_)))
              all_goals exact Cont.sub_vec (congrArg (fun l => [l]) (aug_start _ _ _).symm)
            ·
              have hk := k.2
              have hal : (augUp x.led p m k.1).paid.length = 64 := (aug_same x.led p m k.1).2.2.trans hxk.len
              refine t_seq ?_
              refine t_seq ?_
              refine t_region ?_
              refine mvI rfl ?_
              refine mvS rfl ?_
              refine r_len rfl rfl rfl ?_
              refine r_bin rfl rfl rfl ?_
              refine r_nil ?_
              refine i_then ?_
              refine t_cond_dec rfl (fun hc4 => ?_) (fun hc4 => ?_)
              ·
                refine t_skip ?_
                refine i_then ?_
                refine t_seq ?_
                refine t_block ?_
                refine t_seq ?_
                have e1 := (path_at (p := p) k.1).2.1
                have e2 : (nth p (((2 * k.1 : Nat) : Int) + 1).toNat).toNat = wT p k.1 := by rw [← (path_at (p := p) k.1).2.2, show (((2 * k.1 : Nat) : Int) + 1).toNat = 2 * k.1 + 1 by omega]
                have hv1 := hev (2 * k.1) (by omega)
                have hv2 := hev (((2 * k.1 : Nat) : Int) + 1).toNat (by omega)
                have hab := aug_bound hxk hp (m := m) ⟨hm1, by omega⟩ (k := k.1) (by omega) (o := wF p k.1) (t := wT p k.1) (by omega) (by omega)
                refine t_draw mixed rfl ?_
                refine mvO rfl ?_
                refine mvS rfl ?_
                refine mvI rfl ?_
                refine r_index_slN rfl rfl rfl rfl rfl rfl (by omega) ?_
                refine r_load_pp rfl rfl rfl rfl ?_
                refine mvS rfl ?_
                refine mvI rfl ?_
                refine r_add rfl rfl (by omega) (by omega) ?_
                refine r_index_sl rfl rfl rfl rfl rfl rfl (by omega) (by omega) ?_
                refine r_load_pp rfl rfl rfl rfl ?_
                refine r_nilCheck_ptr rfl ?_
                refine r_field_ptr rfl rfl rfl rfl rfl (by decide) ?_
                refine r_index_ptrI rfl rfl rfl rfl rfl (by omega) (by omega) ?_
                refine r_index_ptrI rfl rfl rfl rfl rfl (by omega) (by omega) ?_
                refine r_load_ob (ty := Ty.int .i64 ((augUp x.led p m k.1).P (wF p k.1) (wT p k.1))) rfl rfl (by decide) rfl rfl (led_at (by omega) (by omega) (by show 0 + 2 + (nth p (2 * k.1)).toNat * 8 + (nth p (((2 * k.1 : Nat) : Int) + 1).toNat).toNat * 1 = _; rw [e1, e2]; omega)) ?_
                refine mvI rfl ?_
                refine r_add rfl rfl (by omega) (by omega) ?_
                refine r_nilCheck_ptr rfl ?_
                refine r_field_ptr rfl rfl rfl rfl rfl (by decide) ?_
                refine r_index_ptrI rfl rfl rfl rfl rfl (by omega) (by omega) ?_
                refine r_index_ptrI rfl rfl rfl rfl rfl (by omega) (by omega) ?_
                refine r_store_ob (z := addP (augUp x.led p m k.1) (wF p k.1) (wT p k.1) m) rfl rfl (by decide) rfl rfl rfl rfl (by unfold LedE; show 0 + 2 + (nth p (2 * k.1)).toNat * 8 + (nth p (((2 * k.1 : Nat) : Int) + 1).toNat).toNat * 1 < 66; omega) rfl (led_add' hal (by omega) (by omega) (by show 0 + 2 + (nth p (2 * k.1)).toNat * 8 + (nth p (((2 * k.1 : Nat) : Int) + 1).toNat).toNat * 1 = _; rw [e1, e2]; omega) rfl) ?_
                refine r_nil ?_
                refine ⟨by kernel_rfl, ?_⟩
                refine i_then ?_
                refine t_seq ?_
                refine t_region ?_
                refine mvI rfl ?_
                refine r_bin rfl rfl rfl ?_
                refine r_nil ?_
                refine i_then ?_
                refine t_cond_dec rfl (fun hc5 => ?_) (fun hc5 => ?_)
                ·
                  have hk0 : 0 < k.1 := by have := hc5; omega
                  have e3 : (nth p (((2 * k.1 : Nat) : Int) - 1).toNat).toNat = wT p (k.1 - 1) := by rw [← (path_at (p := p) (k.1 - 1)).2.2, show (((2 * k.1 : Nat) : Int) - 1).toNat = 2 * (k.1 - 1) + 1 by omega]
                  have hv3 := hev (((2 * k.1 : Nat) : Int) - 1).toNat (by omega)
                  have hal2 : (addP (augUp x.led p m k.1) (wF p k.1) (wT p k.1) m).paid.length = 64 := by rw [addP_len]; exact hal
                  have hab2 := aug_bound hxk hp (m := m) ⟨hm1, by omega⟩ (k := k.1) (by omega) (o := wF p k.1) (t := wT p (k.1 - 1)) (by omega) (by omega)
                  have hab3 := addP_P hal (o := wF p k.1) (t := wT p k.1) (o' := wF p k.1) (t' := wT p (k.1 - 1)) (by omega) (by omega) (by omega) m
                  refine t_draw mixed rfl ?_
                  refine mvO rfl ?_
                  refine mvS rfl ?_
                  refine mvI rfl ?_
                  refine r_index_slN rfl rfl rfl rfl rfl rfl (by omega) ?_
                  refine r_load_pp rfl rfl rfl rfl ?_
                  refine mvS rfl ?_
                  refine mvI rfl ?_
                  refine r_sub rfl rfl (by omega) (by omega) ?_
                  refine r_index_sl rfl rfl rfl rfl rfl rfl (by omega) (by omega) ?_
                  refine r_load_pp rfl rfl rfl rfl ?_
                  refine r_nilCheck_ptr rfl ?_
                  refine r_field_ptr rfl rfl rfl rfl rfl (by decide) ?_
                  refine r_index_ptrI rfl rfl rfl rfl rfl (by omega) (by omega) ?_
                  refine r_index_ptrI rfl rfl rfl rfl rfl (by omega) (by omega) ?_
                  refine r_load_ob (ty := Ty.int .i64 ((addP (augUp x.led p m k.1) (wF p k.1) (wT p k.1) m).P (wF p k.1) (wT p (k.1 - 1)))) rfl rfl (by decide) rfl rfl (led_at (by omega) (by omega) (by show 0 + 2 + (nth p (2 * k.1)).toNat * 8 + (nth p (((2 * k.1 : Nat) : Int) - 1).toNat).toNat * 1 = _; rw [e1, e3]; omega)) ?_
                  refine mvI rfl ?_
                  refine r_sub rfl rfl (by omega) (by omega) ?_
                  refine r_nilCheck_ptr rfl ?_
                  refine r_field_ptr rfl rfl rfl rfl rfl (by decide) ?_
                  refine r_index_ptrI rfl rfl rfl rfl rfl (by omega) (by omega) ?_
                  refine r_index_ptrI rfl rfl rfl rfl rfl (by omega) (by omega) ?_
                  refine r_store_ob (z := addP (addP (augUp x.led p m k.1) (wF p k.1) (wT p k.1) m) (wF p k.1) (wT p (k.1 - 1)) (-m)) rfl rfl (by decide) rfl rfl rfl rfl (by unfold LedE; show 0 + 2 + (nth p (2 * k.1)).toNat * 8 + (nth p (((2 * k.1 : Nat) : Int) - 1).toNat).toNat * 1 < 66; omega) rfl (led_add' hal2 (by omega) (by omega) (by show 0 + 2 + (nth p (2 * k.1)).toNat * 8 + (nth p (((2 * k.1 : Nat) : Int) - 1).toNat).toNat * 1 = _; rw [e1, e3]; omega) (by omega)) ?_
                  refine r_nil ?_
                  refine ⟨by kernel_rfl, ?_⟩
                  refine i_block ?_
                  refine i_then ?_
                  refine t_region ?_
                  refine mvI rfl ?_
                  refine r_add rfl rfl (by omega) (by omega) ?_
                  refine asI rfl ?_
                  refine r_nil ?_
                  refine i_round (⟨k.1 + 1, by omega⟩) ?_ (by show K - (k.1 + 1) < K - k.1; omega)
                  (refine Ent.mk' ?_ ?_ <;> (repeat' (first | exact allSub_zero | exact allTags_nil | refine allSub_succ' ?_ (Ty.sub_any _) | refine allSub_succ' ?_ (Ty.sub_refl _) | refine allTags_cons rfl ?_ ?_)))
                  all_goals skip
                  all_goals exact Cont.sub_vec (congrArg (fun l => [l]) (aug_more hk0))
                ·
                  refine t_skip ?_
                  refine i_block ?_
                  refine i_then ?_
                  refine t_region ?_
                  refine mvI rfl ?_
                  refine r_add rfl rfl (by omega) (by omega) ?_
                  refine asI rfl ?_
                  refine r_nil ?_
                  refine i_round (⟨k.1 + 1, by omega⟩) ?_ (by show K - (k.1 + 1) < K - k.1; omega)
                  (refine Ent.mk' ?_ ?_ <;> (repeat' (first | exact allSub_zero | exact allTags_nil | refine allSub_succ' ?_ (Ty.sub_any _) | refine allSub_succ' ?_ (Ty.sub_refl _) | refine allTags_cons rfl ?_ ?_)))
                  all_goals skip
                  all_goals exact Cont.sub_vec (congrArg (fun l => [l]) (aug_zero (by have := hc5; omega)))
              ·
                refine t_exit ?_
                refine i_then_exit ?_
                refine i_then_exit ?_
                refine i_block_exit rfl ?_
                refine i_then ?_
                refine t_region ?_
                refine mvI rfl ?_
                refine mvI rfl ?_
                refine r_sub rfl rfl (by omega) (by omega) ?_
                refine asI rfl ?_
                refine r_nil ?_
                refine i_block ?_
                refine i_round (x.next h hu hc1 hne) ?_ (by show x.fuel - 1 < x.fuel; have := x.le; omega)
                (refine Ent.mk' ?_ ?_ <;> (repeat' (first | exact allSub_zero | exact allTags_nil | refine allSub_succ' ?_ (Ty.sub_any _) | refine allSub_succ' ?_ (Ty.sub_refl _) | refine allTags_cons rfl ?_ ?_ | refine allSub_succ' ?_ ?_)))
                all_goals skip
                all_goals first | exact Ty.sub_int (by rw [hme]; rfl) | exact Cont.sub_vec (by rw [show k.1 = (findM x.led u).length / 2 by rw [← hpe, hp.half]; omega, hme, hpe]; rfl)
    ·
      refine t_exit ?_
      refine i_then_exit ?_
      refine i_then_exit ?_
      refine i_block_exit rfl ?_
      refine i_end ?_
      refine g_ret0 [1000] rfl (by decide) ?_
      exact rc_cons rfl (cc_vec (by decide) (congrArg (fun l => [l]) (x.stop1 hc1).symm)) rc_nil
end Go.Proofs.YtifgbnbkimcchaaGreat

namespace Go.Proofs.YtifgbnbkimcchaaGreat
open Go Go.T
set_option maxHeartbeats 2000000
theorem paid0 (b : SB) (n : Nat) : paid64 ⟨b, n, List.replicate 64 0⟩ = List.replicate 64 0 := by
  unfold paid64
  apply List.ext_getElem?
  intro i
  rw [List.getElem?_map, List.getElem?_replicate]
  by_cases h : i < 64
  · rw [if_pos h, List.getElem?_range h]
    show some (nth (List.replicate 64 (0 : Int)) i) = _
    unfold nth
    rw [List.getD_eq_getElem?_getD, List.getElem?_replicate, if_pos h]; rfl
  · rw [if_neg h, List.getElem?_eq_none (by simp; omega)]; rfl
theorem fill_led (f : Flr) (n : Nat) (place : Nat → Option (Nat × Nat)) (h0 : place 0 = some (0, 1)) (h1 : place 1 = some (1, 1)) :
    fillT place (Ty.ex (.pointer none) :: List.replicate 65 (Ty.int .i64 0)) [(0, [Ty.pe BrdE (boardsOf f) 0]), (1, [Ty.int .i64 n])] = some (LedE.tys (led0 f n)) := by
  have e : LedE.tys (led0 f n) = Ty.pe BrdE (boardsOf f) 0 :: Ty.int .i64 n :: List.replicate 64 (Ty.int .i64 0) := by
    show ledTys (led0 f n) = _
    unfold ledTys led0
    rw [paid0]; rfl
  rw [e]
  simp only [fillT, h0, h1]
  rfl
theorem payR_in {f : Flr} {n : Nat} (h : payE f n = 0) : payR f n = paysL f n := if_pos h
theorem payR_no {f : Flr} {b : Int} (h : ¬ payE f b = 0) : payR f b = [] := if_neg h
theorem paysL_eq (f : Flr) (n : Nat) : paysL f n = paysUp (ledT f n) f.turnings.length f.turnings.length := rfl
theorem rowL_zero (l : Led) (o : Nat) : rowL l o 0 = [] := rfl
theorem paysUp_zero (l : Led) (T : Nat) : paysUp l T 0 = [] := rfl
theorem rowL_len (l : Led) (o : Nat) : ∀ j, (rowL l o j).length ≤ j
  | 0 => Nat.le_refl _
  | j + 1 => by
    have := rowL_len l o j
    rw [rowL_succ, List.length_append]
    split <;> simp <;> omega
theorem paysUp_len (l : Led) {T : Nat} (hT : T ≤ 8) : ∀ k, (paysUp l T k).length ≤ 8 * k
  | 0 => Nat.zero_le _
  | k + 1 => by
    have h1 := paysUp_len l hT k
    have h2 := rowL_len l k T
    rw [paysUp_succ, List.length_append]; omega
attribute [local irreducible] dInt dBool dSl dPp dPtr dAgg dTup dClo dAny dEx dStr dGd dCells dVec dVs dRow dOp nth Tri Into TOps Ctr bodyPost Exit.then Exit.inBlock Code.wp Code.wpIn dWhen dPa dPe dAo dArr dMp dPm dMap dCJ CtrG CtrI OpY keepPost iterPost bodyPostM roundQ
theorem c_payUp (f : Flr) (h : checkP f = 0) (n : Nat) (hb : n < f.bears.length) (k : Nat) (hk : k < f.turnings.length) : CtrG Tryz.prog 63 [1000] [(1000, Cont.vec LedE 113 [ledUp f n k])] [Ty.ptr 1000 0, Ty.int .i64 (k : Nat)] [(1000, Cont.vec LedE 113 [ledUp f n (k + 1)])] (Ty.tup []) :=
  c_pay f h n hb (ledUp f n k) (led_spec h n k (by omega)).inv k hk ((led_spec h n k (by omega)).rest k (Nat.le_refl _))
theorem row_next {l : Led} {T o t : Nat} (hne : ¬ l.P o t = 0) : (paysUp l T o ++ rowL l o t) ++ [⟨(o : Int), (t : Int), l.P o t⟩] = paysUp l T o ++ rowL l o (t + 1) := by rw [rowL_succ, if_neg hne, List.append_assoc]
theorem row_same {l : Led} {T o t : Nat} (he : l.P o t = 0) : paysUp l T o ++ rowL l o t = paysUp l T o ++ rowL l o (t + 1) := by rw [rowL_succ, if_pos he, List.append_nil]
theorem payE_eq (f : Flr) (b : Int) : openE f (!inB b 0 (f.bears.length - 1)) = payE f b := rfl
theorem pay_ne {a b c : Int} (h : (!(decide (a = a) && (decide (b = b) && decide (c = 0)))) = true) : ¬ c = 0 := by simpa using h
theorem pay_zero {a b c : Int} (h : (!(decide (a = a) && (decide (b = b) && decide (c = 0)))) = false) : c = 0 := by simpa using h
attribute [local irreducible] Led.P LedE BrdE ledUp ledT paysUp rowL paysL payR payE
set_option maxRecDepth 100000 in
theorem c_Payments (f : Flr) (hs : f.Small) (bay : Int) : Ctr Tryz.prog 17 [flrT f, Ty.int .i64 bay] (Ty.tup [Ty.sl PayE (payR f bay), Ty.int .i64 (payE f bay)]) := by
  refine fn_intro Tryz.func17 rfl (by decide) Tryz.ntmps17 (by exact Nat.le_of_ble_eq_true rfl) fun w0 M0 => ?_
  have hs1 := hs.bears; have hs2 := hs.bins; have hs3 := hs.turnings; have hs4 := hs.rules
  refine t_seq ?_
  refine t_region ?_
  refine r_box_agg rfl ?_
  refine asX rfl ?_
  refine asI rfl ?_
  refine r_nil ?_
  refine i_then ?_
  refine t_seq ?_
  refine t_draw mixed rfl ?_
  refine r_load_ppN rfl rfl rfl (by exact Nat.le_of_ble_eq_true rfl) ?_
  refine r_load_ppN rfl rfl rfl (by exact Nat.le_of_ble_eq_true rfl) ?_
  refine mvI rfl ?_
  refine r_call (c_bay f hs _) rfl rfl rfl rfl rfl ?_
  refine r_not rfl ?_
  refine r_call (c_open f hs _) rfl rfl rfl rfl rfl ?_
  refine mvT rfl ?_
  refine r_extract rfl rfl ?_
  refine r_extract rfl rfl ?_
  refine asW rfl ?_
  refine asI rfl ?_
  refine r_nil ?_
  refine ⟨by kernel_rfl, ?_⟩
  refine i_then ?_
  refine t_seq ?_
  refine t_seq ?_
  refine t_region ?_
  refine mvI rfl ?_
  refine r_bin rfl rfl rfl ?_
  refine r_nil ?_
  refine i_then ?_
  refine t_cond_ndec rfl (fun hc1 => ?_) (fun hc1 => ?_)
  ·
    refine t_seq ?_
    refine t_region ?_
    refine mvI rfl ?_
    refine asX rfl ?_
    refine asI rfl ?_
    refine r_nil ?_
    refine i_then ?_
    refine t_ret ?_
    refine i_then_ret ?_
    refine i_rp2 rfl rfl rfl ?_ ?_
    all_goals skip
    all_goals first | exact ret_nil_eq (payR_no (by rw [← payE_eq]; exact hc1)) | exact ret_eq rfl rfl (congrArg (Ty.int .i64) (payE_eq f bay))
  ·
    refine t_skip ?_
    refine i_then ?_
    refine t_seq ?_
    have h0 := openE_zero hc1
    have hpE : payE f bay = 0 := by unfold payE; exact hc1
    have hin := inB_true (n := bay) (lo := 0) (hi := (f.bears.length : Int) - 1) (by have := h0.2; simpa using this)
    obtain ⟨n, rfl⟩ := Int.eq_ofNat_of_zero_le hin.1
    have hr := (check_right h0.1).ranged
    have hb4 := hr.bears
    have h8 := hr.turnings
    have hnb : n < f.bears.length := by omega
    refine t_as (s := 6) rfl (Ty.when_sub (decide_eq_true hc1)) ?_
    refine t_region ?_
    refine mvPe rfl ?_
    refine mvI rfl ?_
    refine r_buildO LedE (led0 f n) rfl rfl (by exact List.cons_ne_nil _ _) rfl (by repeat (first | exact (Parts.nil : Parts _ _ [] _) | (show Parts _ _ ((_, _) :: _) _; apply Parts.one; (· first | exact (rfl : _ = Ty.int _ _) | exact (rfl : _ = Ty.pe _ _ _)); (· exact rfl)))) (fill_led f n _ rfl rfl) ?_
    refine r_box_ob (E := LedE) (led0 f n) rfl rfl ?_
    refine asO rfl ?_
    refine r_nil ?_
    refine i_then ?_
    refine t_seq ?_
    refine t_seq ?_
    refine t_region ?_
    refine r_field_pp rfl rfl rfl rfl rfl (by decide) ?_
    refine r_load_pp rfl rfl rfl rfl ?_
    refine r_len rfl rfl rfl ?_
    refine mvI rfl ?_
    refine r_nil ?_
    refine i_then ?_
    refine t_block ?_
    refine t_loop (fun (k : {k : Nat // k ≤ f.turnings.length}) => live [(2, Ty.pp (flrTys f)), (8, Ty.ptr 30 0), (32, Ty.int .i64 f.turnings.length), (33, Ty.int .i64 (k.1 : Nat))] [(30, Cont.vec LedE 113 [ledUp f n k.1])]) (fun k => f.turnings.length - k.1) (⟨0, by omega⟩) ?_ fun k => ?_
    · (refine Ent.mk' ?_ ?_ <;> (repeat' (first | exact allSub_zero | exact allTags_nil | refine allSub_succ' ?_ (Ty.sub_any _) | refine allSub_succ' ?_ (Ty.sub_refl _) | refine allTags_cons rfl ?_ ?_)))
      all_goals exact Cont.sub_vec (by unfold ledUp; rfl)
    ·
      have hk := k.2
      refine t_seq ?_
      refine t_region ?_
      refine r_bin rfl rfl rfl ?_
      refine r_nil ?_
      refine i_then ?_
      refine t_seq ?_
      refine t_cond_dec rfl (fun hc2 => ?_) (fun hc2 => ?_)
      ·
        refine t_skip ?_
        refine i_then ?_
        refine t_seq ?_
        refine t_block ?_
        refine t_seq ?_
        refine t_region ?_
        refine mvI rfl ?_
        refine asI rfl ?_
        refine r_nil ?_
        refine i_then ?_
        refine t_region ?_
        refine mvO rfl ?_
        refine mvI rfl ?_
        refine r_callG [(30, 1000)] [] [(30, Cont.vec LedE 113 [ledUp f n (k.1 + 1)])] (c_payUp f h0.1 n hnb k.1 (by omega)) rfl rfl (by repeat (first | exact cv_nil | refine cv_cons ?_ ?_ | exact cv_ptr List.mem_cons_self | exact cv_pub rfl rfl)) (pre_cons (a := 30) (b := 1000) (by exact List.mem_cons_self) rfl (cc_vec (by exact List.mem_cons_self) rfl) pre_nil) (post_cons (a := 30) (b := 1000) (by exact List.mem_cons_self) rfl (cc_vec (by exact List.mem_cons_self) rfl) post_nil) (cv_pub rfl rfl) ?_
        refine r_nil ?_
        refine i_block ?_
        refine i_then ?_
        refine t_region ?_
        refine r_add rfl rfl (by omega) (by omega) ?_
        refine mvI rfl ?_
        refine r_nil ?_
        refine i_round (⟨k.1 + 1, by omega⟩) ?_ (by show f.turnings.length - (k.1 + 1) < f.turnings.length - k.1; omega)
        (refine Ent.mk' ?_ ?_ <;> (repeat' (first | exact allSub_zero | exact allTags_nil | refine allSub_succ' ?_ (Ty.sub_any _) | refine allSub_succ' ?_ (Ty.sub_refl _) | refine allTags_cons rfl (Cont.sub_refl _) ?_)))
        all_goals skip
      ·
        refine t_exit ?_
        refine i_then_exit ?_
        refine i_then_exit ?_
        refine i_block_exit rfl ?_
        refine i_then ?_
        refine t_seq ?_
        obtain ⟨k, hk2⟩ := k
        obtain rfl : k = f.turnings.length := by have hx : ¬ (k : Int) < (f.turnings.length : Nat) := hc2; omega
        have hlk := inv_ok h0.1 hnb (led_spec h0.1 n f.turnings.length (Nat.le_refl _)).inv
        refine t_region ?_
        refine asX rfl ?_
        refine r_nil ?_
        refine i_then ?_
        refine t_seq ?_
        refine t_seq ?_
        refine t_region ?_
        refine r_field_pp rfl rfl rfl rfl rfl (by decide) ?_
        refine r_load_pp rfl rfl rfl rfl ?_
        refine r_len rfl rfl rfl ?_
        refine mvI rfl ?_
        refine r_nil ?_
        refine i_then ?_
        refine t_block ?_
        refine t_loop (fun (o : {o : Nat // o ≤ f.turnings.length}) => live [(2, Ty.pp (flrTys f)), (8, Ty.ptr 30 0), (10, Ty.row PayE 66 72 (paysUp (ledUp f n f.turnings.length) f.turnings.length o.1)), (42, Ty.int .i64 f.turnings.length), (43, Ty.int .i64 (o.1 : Nat))] [(30, Cont.vec LedE 113 [ledUp f n f.turnings.length])]) (fun o => f.turnings.length - o.1) (⟨0, by omega⟩) ?_ fun o => ?_
        · (refine Ent.mk' ?_ ?_ <;> (repeat' (first | exact allSub_zero | exact allTags_nil | refine allSub_succ' ?_ (Ty.sub_any _) | refine allSub_succ' ?_ (Ty.sub_refl _) | refine allTags_cons rfl (Cont.sub_refl _) ?_ | refine allSub_succ' ?_ ?_)))
          all_goals exact nil_row_eq (paysUp_zero _ _).symm
        ·
          have ho := o.2
          have hpl := paysUp_len (ledUp f n f.turnings.length) h8 o.1
          refine t_seq ?_
          refine t_region ?_
          refine r_bin rfl rfl rfl ?_
          refine r_nil ?_
          refine i_then ?_
          refine t_seq ?_
          refine t_cond_dec rfl (fun hc3 => ?_) (fun hc3 => ?_)
          ·
            refine t_skip ?_
            refine i_then ?_
            refine t_seq ?_
            refine t_block ?_
            refine t_seq ?_
            refine t_region ?_
            refine mvI rfl ?_
            refine asI rfl ?_
            refine r_nil ?_
            refine i_then ?_
            refine t_seq ?_
            refine t_region ?_
            refine r_field_pp rfl rfl rfl rfl rfl (by decide) ?_
            refine r_load_pp rfl rfl rfl rfl ?_
            refine r_len rfl rfl rfl ?_
            refine mvI rfl ?_
            refine r_nil ?_
            refine i_then ?_
            refine t_block ?_
            refine t_loop (fun (t : {t : Nat // t ≤ f.turnings.length}) => live [(2, Ty.pp (flrTys f)), (8, Ty.ptr 30 0), (10, Ty.row PayE 66 72 (paysUp (ledUp f n f.turnings.length) f.turnings.length o.1 ++ rowL (ledUp f n f.turnings.length) o.1 t.1)), (11, Ty.int .i64 (o.1 : Nat)), (42, Ty.int .i64 f.turnings.length), (43, Ty.int .i64 (o.1 : Nat)), (48, Ty.int .i64 f.turnings.length), (49, Ty.int .i64 (t.1 : Nat))] [(30, Cont.vec LedE 113 [ledUp f n f.turnings.length])]) (fun t => f.turnings.length - t.1) (⟨0, by omega⟩) ?_ fun t => ?_
            · (refine Ent.mk' ?_ ?_ <;> (repeat' (first | exact allSub_zero | exact allTags_nil | refine allSub_succ' ?_ (Ty.sub_any _) | refine allSub_succ' ?_ (Ty.sub_refl _) | refine allTags_cons rfl (Cont.sub_refl _) ?_ | refine allSub_succ' ?_ ?_)))
              all_goals exact Ty.sub_row (by rw [rowL_zero, List.append_nil])
            ·
              have ht := t.2
              have hrl := rowL_len (ledUp f n f.turnings.length) o.1 t.1
              refine t_seq ?_
              refine t_region ?_
              refine r_bin rfl rfl rfl ?_
              refine r_nil ?_
              refine i_then ?_
              refine t_seq ?_
              refine t_cond_dec rfl (fun hc4 => ?_) (fun hc4 => ?_)
              ·
                refine t_skip ?_
                refine i_then ?_
                refine t_seq ?_
                refine t_block ?_
                refine t_seq ?_
                refine t_region ?_
                refine mvI rfl ?_
                refine asI rfl ?_
                refine r_nil ?_
                refine i_then ?_
                refine t_seq ?_
                refine t_region ?_
                refine mvI rfl ?_
                refine mvI rfl ?_
                refine mvO rfl ?_
                refine mvI rfl ?_
                refine mvI rfl ?_
                refine r_nilCheck_ptr rfl ?_
                refine r_field_ptr rfl rfl rfl rfl rfl (by decide) ?_
                refine r_index_ptr rfl rfl rfl rfl rfl (by omega) ?_
                refine r_index_ptr rfl rfl rfl rfl rfl (by omega) ?_
                refine r_load_ob (ty := Ty.int .i64 ((ledUp f n f.turnings.length).P o.1 t.1)) rfl rfl (by decide) rfl rfl (led_at (by omega) (by omega) (by show 0 + 2 + o.1 * 8 + t.1 * 1 = _; omega)) ?_
                refine r_build rfl rfl (by exact List.cons_ne_nil _ _) rfl (by repeat (first | exact (Parts.nil : Parts _ _ [] _) | (show Parts _ _ ((_, _) :: _) _; apply Parts.one; (· exact (rfl : _ = Ty.int _ _)); (· exact rfl)))) (by exact (rfl : _ = some [_, _, _])) ?_
                refine r_alloc rfl (by exact List.cons_ne_nil _ _) rfl ?_
                refine r_storeN rfl rfl (by decide) rfl rfl rfl rfl rfl rfl ?_
                refine r_nil ?_
                refine i_then ?_
                refine t_seq ?_
                refine t_region ?_
                refine r_load_ptrN rfl rfl (by decide) rfl rfl (by exact Nat.le_of_ble_eq_true rfl) ?_
                refine mvI rfl ?_
                refine mvI rfl ?_
                refine r_build rfl rfl (by exact List.cons_ne_nil _ _) rfl (by repeat (first | exact (Parts.nil : Parts _ _ [] _) | (show Parts _ _ ((_, _) :: _) _; apply Parts.one; (· exact (rfl : _ = Ty.int _ _)); (· exact rfl)))) (by exact (rfl : _ = some [_, _, _])) ?_
                refine r_neq_A (eqt66 _ _ _ _ _ _) rfl rfl ?_
                refine r_nil ?_
                refine i_then ?_
                refine t_cond rfl (fun hc5 => ?_) (fun hc5 => ?_)
                ·
                  refine t_region ?_
                  refine mvR rfl ?_
                  refine r_load_ptrN rfl rfl (by decide) rfl rfl (by exact Nat.le_of_ble_eq_true rfl) ?_
                  refine r_buildSlice (E := PayE) (xs := [⟨(o.1 : Nat), (t.1 : Nat), (ledUp f n f.turnings.length).P o.1 t.1⟩]) rfl rfl rfl rfl rfl (by decide) (by decide) (by repeat (first | exact (Parts.nil : Parts _ _ [] _) | (show Parts _ _ ((_, _) :: _) _; apply Parts.agg; (· exact (rfl : _ = Ty.agg _))))) (by exact rfl) rfl ?_
                  refine r_append rfl rfl (by decide) rfl rfl rfl rfl rfl rfl (by decide) (by show ((paysUp (ledUp f n f.turnings.length) f.turnings.length o.1 ++ rowL (ledUp f n f.turnings.length) o.1 t.1).length + 1) * 24 ≤ _; rw [List.length_append]; omega) (by show (paysUp (ledUp f n f.turnings.length) f.turnings.length o.1 ++ rowL (ledUp f n f.turnings.length) o.1 t.1).length + 1 ≤ _; rw [List.length_append]; omega) ?_
                  refine asR rfl ?_
                  refine r_nil ?_
                  refine i_block ?_
                  refine i_then ?_
                  refine t_region ?_
                  refine r_add rfl rfl (by omega) (by omega) ?_
                  refine mvI rfl ?_
                  refine r_nil ?_
                  refine i_round (⟨t.1 + 1, by omega⟩) ?_ (by show f.turnings.length - (t.1 + 1) < f.turnings.length - t.1; omega)
                  (refine Ent.mk' ?_ ?_ <;> (repeat' (first | exact allSub_zero | exact allTags_nil | refine allSub_succ' ?_ (Ty.sub_any _) | refine allSub_succ' ?_ (Ty.sub_refl _) | refine allTags_cons rfl (Cont.sub_refl _) ?_ | refine allSub_succ' ?_ ?_)))
                  all_goals skip
                  all_goals exact Ty.sub_row (row_next (pay_ne hc5))
                ·
                  refine t_skip ?_
                  refine i_block ?_
                  refine i_then ?_
                  refine t_region ?_
                  refine r_add rfl rfl (by omega) (by omega) ?_
                  refine mvI rfl ?_
                  refine r_nil ?_
                  refine i_round (⟨t.1 + 1, by omega⟩) ?_ (by show f.turnings.length - (t.1 + 1) < f.turnings.length - t.1; omega)
                  (refine Ent.mk' ?_ ?_ <;> (repeat' (first | exact allSub_zero | exact allTags_nil | refine allSub_succ' ?_ (Ty.sub_any _) | refine allSub_succ' ?_ (Ty.sub_refl _) | refine allTags_cons rfl (Cont.sub_refl _) ?_ | refine allSub_succ' ?_ ?_)))
                  all_goals skip
                  all_goals exact Ty.sub_row (row_same (pay_zero hc5))
              ·
                refine t_exit ?_
                refine i_then_exit ?_
                refine i_then_exit ?_
                refine i_block_exit rfl ?_
                refine i_block ?_
                refine i_then ?_
                refine t_region ?_
                refine r_add rfl rfl (by omega) (by omega) ?_
                refine mvI rfl ?_
                refine r_nil ?_
                refine i_round (⟨o.1 + 1, by omega⟩) ?_ (by show f.turnings.length - (o.1 + 1) < f.turnings.length - o.1; omega)
                (refine Ent.mk' ?_ ?_ <;> (repeat' (first | exact allSub_zero | exact allTags_nil | refine allSub_succ' ?_ (Ty.sub_any _) | refine allSub_succ' ?_ (Ty.sub_refl _) | refine allTags_cons rfl (Cont.sub_refl _) ?_ | refine allSub_succ' ?_ ?_)))
                all_goals skip
                all_goals exact Ty.sub_row (by rw [paysUp_succ, show t.1 = f.turnings.length by omega])
          ·
            refine t_exit ?_
            refine i_then_exit ?_
            refine i_then_exit ?_
            refine i_block_exit rfl ?_
            refine i_then ?_
            refine t_seq ?_
            refine t_region ?_
            refine mvR rfl ?_
            refine asR rfl ?_
            refine asI rfl ?_
            refine r_nil ?_
            refine i_then ?_
            refine t_ret ?_
            refine i_rp2 rfl rfl rfl ?_ ?_
            all_goals skip
            all_goals first | exact ret_row_eq (by decide) (by rw [payR_in hpE, paysL_eq, show o.1 = f.turnings.length by have := o.2; omega]; unfold ledT; rfl) | exact ret_eq rfl rfl (congrArg (Ty.int .i64) hpE.symm)
end Go.Proofs.YtifgbnbkimcchaaGreat
