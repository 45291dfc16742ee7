/- Lemmas: the program and the reference walked, plain laws. -/
import Derived.Test.YtpnndljmhpepgaaOd
namespace Go.Proofs.Ytpnndljmhpepgaa
open Go Go.T
theorem fidx_at {α : Type} [Inhabited α] {p : α → Bool} {l : List α} (h : 0 ≤ fidx p l) : (fidx p l).toNat < l.length ∧ p (nth l (fidx p l).toNat) = true := by
  unfold fidx at *
  cases e : l.findIdx? p with
  | none => rw [e] at h; exact absurd h (by decide)
  | some i =>
    obtain ⟨h1, h2, _⟩ := List.findIdx?_eq_some_iff_getElem.1 e
    show (Int.toNat (i : Int)) < _ ∧ p (nth l (Int.toNat (i : Int))) = true
    rw [Int.toNat_natCast, nth_lt h1]; exact ⟨h1, h2⟩
variable {b : Barn}
abbrev Barn.at (b : Barn) (i : Int) : Lot := nth b.lots i.toNat
def Barn.is (b : Barn) (i : Int) : Prop := 0 ≤ i ∧ i < b.lots.length
theorem fol_at {i : Int} (h : 0 ≤ follows b i) : b.is (follows b i) ∧ (b.at (follows b i)).inn = (b.at i).aim := by
  have h1 := fidx_at (p := fun l : Lot => decide (l.inn = (nth b.lots i.toNat).aim)) (l := b.lots) h
  have h2 := follows_range b i
  exact ⟨⟨h, h2.2⟩, of_decide_eq_true h1.2⟩
theorem at_inn (hr : b.Right) {i k : Int} (hi : b.is i) (hk : b.is k) (e : (b.at i).inn = (b.at k).inn) : i = k := by
  unfold Barn.is at hi hk
  rcases Nat.lt_trichotomy i.toNat k.toNat with h | h | h
  · exact absurd e.symm (hr.apart _ _ h (by omega)).1
  · omega
  · exact absurd e (hr.apart _ _ h (by omega)).1
theorem at_aim (hr : b.Right) {i k : Int} (hi : b.is i) (hk : b.is k) (e : (b.at i).aim = (b.at k).aim) (hn : (b.at i).aim ≠ -1) : i = k := by
  unfold Barn.is at hi hk
  rcases Nat.lt_trichotomy i.toNat k.toNat with h | h | h
  · exact absurd (e.trans ((hr.apart _ _ h (by omega)).2 e.symm)) hn
  · omega
  · exact absurd ((hr.apart _ _ h (by omega)).2 e) hn
theorem is_inn (hr : b.Right) {i : Int} (hi : b.is i) : 0 ≤ (b.at i).inn ∧ (b.at i).inn < b.sizes.length := hr.inn _ (nth_mem (by unfold Barn.is at hi; omega))
theorem fol_aim (hr : b.Right) {i : Int} (h : 0 ≤ follows b i) : (b.at i).aim ≠ -1 := by
  obtain ⟨h1, h2⟩ := fol_at h
  have := is_inn hr h1
  omega
theorem fol_inj (hr : b.Right) {i k : Int} (hi : b.is i) (hk : b.is k) (h : 0 ≤ follows b i) (e : follows b i = follows b k) : i = k := by
  have h1 := (fol_at h).2
  have h2 := (fol_at (i := k) (by rw [← e]; exact h)).2
  rw [← e] at h2
  exact at_aim hr hi hk (h1.symm.trans h2) (fol_aim hr h)
structure Ring (b : Barn) (i : Int) (l : List Int) : Prop where
  two : 2 ≤ l.length
  head : nth l 0 = i
  rng : ∀ x ∈ l, i ≤ x ∧ x < b.lots.length
  zero : 0 ≤ i
  fol : ∀ j, j + 1 < l.length → follows b (nth l j) = nth l (j + 1)
  last : follows b (nth l (l.length - 1)) = i
  nodup : l.Nodup
structure Path (b : Barn) (i : Int) (l : List Int) : Prop where
  pos : 1 ≤ l.length
  head : nth l 0 = i
  is : b.is i
  up : ∀ j, 1 ≤ j → j < l.length → i < nth l j ∧ nth l j < b.lots.length
  fol : ∀ j, j + 1 < l.length → follows b (nth l j) = nth l (j + 1)
theorem Path.at_ {i : Int} {l : List Int} (h : Path b i l) {j : Nat} (hj : j < l.length) : i ≤ nth l j ∧ b.is (nth l j) := by
  have h1 := h.is
  cases j with
  | zero => rw [h.head]; exact ⟨Int.le_refl _, h1⟩
  | succ j =>
    have := h.up (j + 1) (by omega) hj
    unfold Barn.is at *; omega
theorem path_nodup (hr : b.Right) {i : Int} {l : List Int} (h : Path b i l) : l.Nodup := by
  have key : ∀ j k, j < k → k < l.length → nth l j ≠ nth l k := by
    intro j
    induction j with
    | zero => intro k hk hl e; have := h.up k (by omega) hl; rw [h.head] at e; omega
    | succ j ih =>
      intro k hk hl e
      obtain ⟨k, rfl⟩ : ∃ m, k = m + 1 := ⟨k - 1, by omega⟩
      have h1 := h.fol j (by omega)
      have h2 := h.fol k hl
      have h3 := (h.at_ (j := j) (by omega)).2
      have h4 := (h.at_ (j := k) (by omega)).2
      have h5 := (h.at_ (j := j + 1) (by omega)).2
      exact ih k (by omega) (by omega) (fol_inj hr h3 h4 (by rw [h1]; exact h5.1) (by rw [h1, h2, e]))
  rw [List.nodup_iff_pairwise_ne, List.pairwise_iff_getElem]
  intro j k hj hk hjk
  rw [← nth_lt hj, ← nth_lt hk]; exact key j k hjk hk
theorem path_one {i : Int} (h : b.is i) : Path b i [i] := ⟨Nat.le_refl _, rfl, h, fun j h1 h2 => by simp at h2; omega, fun j h2 => by simp at h2⟩
theorem nth_snoc2 {l : List Int} {x : Int} {j : Nat} (hj : j < l.length + 1) : nth (l ++ [x]) j = if j = l.length then x else nth l j := by
  unfold nth
  by_cases e : j = l.length
  · subst e; rw [if_pos rfl, List.getD_eq_getElem?_getD, List.getElem?_append_right (by omega)]; simp
  · rw [if_neg e, List.getD_eq_getElem?_getD, List.getElem?_append_left (by omega), ← List.getD_eq_getElem?_getD]
theorem path_snoc {i : Int} {l : List Int} (h : Path b i l) (h1 : i < follows b (nth l (l.length - 1))) : Path b i (l ++ [follows b (nth l (l.length - 1))]) := by
  have hp := h.pos
  have hl : (l ++ [follows b (nth l (l.length - 1))]).length = l.length + 1 := by rw [List.length_append]; rfl
  refine ⟨by omega, by rw [nth_snoc2 (by omega), if_neg (by omega)]; exact h.head, h.is, fun j h2 h3 => ?_, fun j h2 => ?_⟩
  · rw [hl] at h3
    rw [nth_snoc2 h3]
    by_cases e : j = l.length
    · rw [if_pos e]; exact ⟨h1, (follows_range _ _).2⟩
    · rw [if_neg e]; exact h.up j h2 (by omega)
  · rw [hl] at h2
    rw [nth_snoc2 (by omega), nth_snoc2 h2, if_neg (by omega)]
    by_cases e : j + 1 = l.length
    · rw [if_pos e, show j = l.length - 1 by omega]
    · rw [if_neg e]; exact h.fol j (by omega)
theorem path_ring (hr : b.Right) {i : Int} {l : List Int} (h : Path b i l) (h1 : follows b (nth l (l.length - 1)) = i) (h2 : 1 < l.length) : Ring b i l :=
  ⟨h2, h.head, fun x hx => by
    obtain ⟨j, hj, rfl⟩ := mem_nth hx
    have := h.at_ hj
    exact ⟨this.1, this.2.2⟩, h.is.1, h.fol, h1, path_nodup hr h⟩
theorem go_ring (hr : b.Right) {i : Int} : ∀ (f : Nat) {l r : List Int}, Path b i l → ringGo b i f l = some r → Ring b i r
  | 0, l, r, _, h => by cases h
  | f + 1, l, r, hp, h => by
    have h : (if follows b (nth l (l.length - 1)) = i ∧ 1 < l.length then some l else if follows b (nth l (l.length - 1)) ≤ i then none else
      if l.length + 1 > b.lots.length then none else ringGo b i f (l ++ [follows b (nth l (l.length - 1))])) = some r := h
    by_cases c1 : follows b (nth l (l.length - 1)) = i ∧ 1 < l.length
    · rw [if_pos c1] at h; injection h with h; rw [← h]; exact path_ring hr hp c1.1 c1.2
    · rw [if_neg c1] at h
      by_cases c2 : follows b (nth l (l.length - 1)) ≤ i
      · rw [if_pos c2] at h; cases h
      · rw [if_neg c2] at h
        by_cases c3 : l.length + 1 > b.lots.length
        · rw [if_pos c3] at h; cases h
        · rw [if_neg c3] at h; exact go_ring hr f (path_snoc hp (by omega)) h
theorem ring_of (hr : b.Right) {i : Nat} (hi : i < b.lots.length) {l : List Int} (h : ringOf b i = some l) : Ring b i l :=
  go_ring hr _ (path_one ⟨by omega, by omega⟩) h
theorem Ring.at_ {i : Int} {l : List Int} (h : Ring b i l) {j : Nat} (hj : j < l.length) : i ≤ nth l j ∧ b.is (nth l j) := by
  have h1 := h.rng _ (nth_mem hj)
  have h2 := h.zero
  exact ⟨h1.1, by unfold Barn.is; omega⟩
theorem ring_go {i : Int} {l : List Int} (h : Ring b i l) (hl : l.length ≤ b.lots.length) : ∀ (f k : Nat), 1 ≤ k → k ≤ l.length → l.length + 1 ≤ k + f → ringGo b i f (l.take k) = some l
  | 0, k, h1, h2, h3 => by omega
  | f + 1, k, h1, h2, h3 => by
    have hk : (l.take k).length = k := by rw [List.length_take]; omega
    have hn : nth (l.take k) (k - 1) = nth l (k - 1) := nth_take (by omega)
    show (if follows b (nth (l.take k) ((l.take k).length - 1)) = i ∧ 1 < (l.take k).length then some (l.take k) else if follows b (nth (l.take k) ((l.take k).length - 1)) ≤ i then none else
      if (l.take k).length + 1 > b.lots.length then none else ringGo b i f (l.take k ++ [follows b (nth (l.take k) ((l.take k).length - 1))])) = some l
    rw [hk, hn]
    have two := h.two
    by_cases c : k = l.length
    · subst c
      rw [if_pos ⟨h.last, by omega⟩, List.take_length]
    · have e := h.fol (k - 1) (by omega)
      rw [show k - 1 + 1 = k by omega] at e
      rw [e]
      have h4 := h.at_ (j := k) (by omega)
      have h5 : nth l k ≠ i := fun e' => by
        have := nodup_nth h.nodup (i := k) (k := 0) (by omega) (by omega) (by rw [e', h.head])
        omega
      rw [if_neg fun c => h5 c.1, if_neg (by omega), if_neg (by omega), ← take_nth (by omega)]
      exact ring_go h hl f (k + 1) (by omega) (by omega) (by omega)
theorem is_len {l : List Int} (hn : l.Nodup) (h : ∀ x ∈ l, b.is x) : l.length ≤ b.lots.length := by
  have := nodup_sub hn (L := (List.range b.lots.length).map fun (k : Nat) => (k : Int)) fun x hx => by
    have := h x hx
    unfold Barn.is at this
    exact List.mem_map.2 ⟨x.toNat, List.mem_range.2 (by omega), by omega⟩
  rwa [List.length_map, List.length_range] at this
theorem Ring.len {i : Int} {l : List Int} (h : Ring b i l) : l.length ≤ b.lots.length := is_len h.nodup fun x hx => by
  have h1 := h.rng x hx
  have h2 := h.zero
  unfold Barn.is; omega
theorem ring_some {i : Nat} {l : List Int} (h : Ring b i l) : ringOf b i = some l := by
  have h1 := ring_go h h.len (b.lots.length + 1) 1 (Nat.le_refl _) (by have := h.two; omega) (by have := h.len; omega)
  have h2 : l.take 1 = [(i : Int)] := by
    have h3 := h.head
    have h4 := h.two
    match l, h4, h3 with
    | x :: l, _, h3 => rw [show x = (i : Int) from h3]; rfl
  rw [h2] at h1; exact h1
theorem mem_rings (hr : b.Right) {l : List Int} : l ∈ ringsL b ↔ ∃ i : Nat, i < b.lots.length ∧ Ring b i l := by
  unfold ringsL ringsUp
  rw [List.mem_filterMap]
  constructor
  · rintro ⟨i, hi, h⟩
    exact ⟨i, List.mem_range.1 hi, ring_of hr (List.mem_range.1 hi) h⟩
  · rintro ⟨i, hi, h⟩; exact ⟨i, List.mem_range.2 hi, ring_some h⟩
theorem Ring.next {i : Int} {l : List Int} (h : Ring b i l) {x : Int} (hx : x ∈ l) : follows b x ∈ l := by
  obtain ⟨j, hj, rfl⟩ := mem_nth hx
  by_cases c : j + 1 < l.length
  · rw [h.fol j c]; exact nth_mem c
  · rw [show j = l.length - 1 by omega, h.last, ← h.head]; exact nth_mem (by have := h.two; omega)
theorem Ring.reach {i : Int} {l : List Int} (h : Ring b i l) {C : Int → Prop} (hC : ∀ x, C x → C (follows b x)) {x : Int} (hx : x ∈ l) (hc : C x) : C i := by
  obtain ⟨j, hj, rfl⟩ := mem_nth hx
  have key : ∀ m j, m = l.length - j → j < l.length → C (nth l j) → C i := by
    intro m
    induction m with
    | zero => intro j hm hj; omega
    | succ m ih =>
      intro j hm hj hc
      have h1 := hC _ hc
      by_cases c : j + 1 < l.length
      · rw [h.fol j c] at h1; exact ih (j + 1) (by omega) c h1
      · rw [show j = l.length - 1 by omega, h.last] at h1; exact h1
  exact key _ j rfl hj hc
theorem Ring.same {i k : Int} {l r : List Int} (h : Ring b i l) (h' : Ring b k r) {x : Int} (hx : x ∈ l) (hx' : x ∈ r) : i = k := by
  have h1 := h.reach (C := fun y => y ∈ r) (fun y hy => h'.next hy) hx hx'
  have h2 := h'.reach (C := fun y => y ∈ l) (fun y hy => h.next hy) hx' hx
  have h3 := h'.rng _ h1
  have h4 := h.rng _ h2
  omega
theorem Ring.lot {i : Int} {l : List Int} (hr : b.Right) (h : Ring b i l) {x : Int} (hx : x ∈ l) : b.is x ∧ b.is (follows b x) ∧ (b.at (follows b x)).inn = (b.at x).aim ∧ (b.at x).aim ≠ -1 ∧ follows b x ≠ x := by
  have hz := h.zero
  have is : ∀ y ∈ l, b.is y := fun y hy => by have := h.rng y hy; unfold Barn.is; omega
  have h1 := is _ (h.next hx)
  refine ⟨is x hx, h1, (fol_at h1.1).2, fol_aim hr h1.1, fun e => ?_⟩
  obtain ⟨j, hj, rfl⟩ := mem_nth hx
  have two := h.two
  by_cases c : j + 1 < l.length
  · rw [h.fol j c] at e
    have := nodup_nth h.nodup c hj e; omega
  · rw [show j = l.length - 1 by omega, h.last, ← h.head] at e
    have := nodup_nth h.nodup (by omega) (by omega) e; omega
theorem Ring.must {i : Int} {l : List Int} (hr : b.Right) (h : Ring b i l) {x : Int} (hx : x ∈ l) : x ∈ mustL b := by
  obtain ⟨h1, h2, h3, h4, h5⟩ := h.lot hr hx
  have hx1 := h1
  unfold Barn.is at hx1
  refine filtUp_mem.2 ⟨x.toNat, by omega, ?_, by omega⟩
  unfold mustI
  have : (b.at x).aim ≠ (b.at x).inn := fun e => h5 (at_inn hr h2 h1 (h3.trans e))
  rw [decide_eq_false (show ¬ (nth b.lots x.toNat).aim = -1 from h4), decide_eq_false (show ¬ (nth b.lots x.toNat).aim = (nth b.lots x.toNat).inn from this)]; rfl
def headsL (b : Barn) : List Int := (ringsL b).map fun l => nth l 0
theorem pairwise_filterMap_rings (hr : b.Right) : ∀ n, n ≤ b.lots.length → (ringsUp b n).Pairwise fun l r => nth l 0 < nth r 0 ∧ ∀ x ∈ l, x ∉ r := by
  intro n
  induction n with
  | zero => intro _; exact List.Pairwise.nil
  | succ n ih =>
    intro hn
    rw [ringsUp_succ, List.pairwise_append]
    refine ⟨ih (by omega), ?_, fun l hl r hr' => ?_⟩
    · cases ringOf b n with
      | none => exact List.Pairwise.nil
      | some l => exact List.pairwise_singleton _ _
    · unfold ringsUp at hl
      obtain ⟨i, hi, e⟩ := List.mem_filterMap.1 hl
      have hi := List.mem_range.1 hi
      have h1 := ring_of hr (by omega) e
      have h2 := ring_of hr (i := n) (by omega) (by simpa using hr')
      rw [h1.head, h2.head]
      refine ⟨by omega, fun x hx hx' => ?_⟩
      have := h1.same h2 hx hx'
      omega
theorem rings_apart (hr : b.Right) : (ringsL b).Pairwise fun l r => nth l 0 < nth r 0 ∧ ∀ x ∈ l, x ∉ r := pairwise_filterMap_rings hr _ (Nat.le_refl _)
inductive Each {α β : Type} (P : α → β → Prop) : List α → List β → Prop
  | nil : Each P [] []
  | cons {a : α} {c : β} {l : List α} {r : List β} : P a c → Each P l r → Each P (a :: l) (c :: r)
end Go.Proofs.Ytpnndljmhpepgaa

namespace Go.Proofs.Ytpnndljmhpepgaa
open Go Go.T
variable {b : Barn}
inductive Stp (b : Barn) (i : Int) : Nat → Int → Prop
  | zero : Stp b i 0 i
  | step {m : Nat} {x : Int} : Stp b i m x → 0 ≤ follows b x → Stp b i (m + 1) (follows b x)
theorem Stp.is {i : Int} (hi : b.is i) {m : Nat} {x : Int} (h : Stp b i m x) : b.is x := by
  cases h with
  | zero => exact hi
  | step _ h => exact (fol_at h).1
theorem Stp.det {i : Int} {m : Nat} {x : Int} (h : Stp b i m x) : ∀ {y : Int}, Stp b i m y → x = y := by
  induction h with
  | zero => intro y h'; cases h'; rfl
  | step _ _ ih => intro y h'; cases h' with | step h1 h2 => rw [ih h1]
theorem Stp.less {i : Int} : ∀ {m : Nat} {x : Int}, Stp b i m x → ∀ k, k ≤ m → ∃ y, Stp b i k y := by
  intro m x h
  induction h with
  | zero => intro k hk; exact ⟨i, by rw [Nat.le_zero.1 hk]; exact .zero⟩
  | step h1 h2 ih =>
    intro k hk
    rcases Nat.lt_or_ge k (Nat.succ _) with h | h
    · exact ih k (Nat.lt_succ_iff.1 h)
    · exact ⟨_, by rw [Nat.le_antisymm hk h]; exact .step h1 h2⟩
theorem Stp.add {i : Int} {m : Nat} {x : Int} (h : Stp b i m x) : ∀ {k : Nat} {y : Int}, Stp b x k y → Stp b i (m + k) y := by
  intro k y h'
  induction h' with
  | zero => exact h
  | step _ h2 ih => exact .step ih h2
theorem Stp.back (hr : b.Right) {i : Int} (hi : b.is i) : ∀ (a c : Nat) {x : Int}, a ≤ c → Stp b i a x → Stp b i c x → Stp b i (c - a) i
  | 0, c, x, _, h1, h2 => by cases h1; exact h2
  | a + 1, c, x, hac, h1, h2 => by
    obtain ⟨c, rfl⟩ : ∃ d, c = d + 1 := ⟨c - 1, by omega⟩
    cases h1 with
    | step g1 g2 =>
      rename_i u
      generalize hv : follows b u = v at *
      cases h2 with
      | step e1 e2 =>
        rename_i w
        have : w = u := fol_inj hr (e1.is hi) (g1.is hi) e2 hv.symm
        subst this
        rw [show c + 1 - (a + 1) = c - a by omega]
        exact Stp.back hr hi a c (by omega) g1 e1
theorem least_nat {P : Nat → Prop} : ∀ n, P n → ∃ m, m ≤ n ∧ P m ∧ ∀ k, k < m → ¬ P k := by
  intro n
  induction n using Nat.strongRecOn with
  | ind n ih =>
    intro h
    by_cases c : ∃ k, k < n ∧ P k
    · obtain ⟨k, hk, hp⟩ := c
      obtain ⟨m, h1, h2, h3⟩ := ih k hk hp
      exact ⟨m, by omega, h2, h3⟩
    · exact ⟨n, Nat.le_refl _, h, fun k hk hp => c ⟨k, hk, hp⟩⟩
open Classical in
noncomputable def stM (b : Barn) (i : Int) (m : Nat) : Int := if h : ∃ x, Stp b i m x then h.choose else -1
theorem stM_eq {i : Int} {m : Nat} {x : Int} (h : Stp b i m x) : stM b i m = x := by
  unfold stM; rw [dif_pos ⟨x, h⟩]
  exact (Exists.choose_spec (⟨x, h⟩ : ∃ x, Stp b i m x)).det h
noncomputable def stL (b : Barn) (i : Int) (n : Nat) : List Int := (List.range n).map (stM b i)
theorem stL_nth {i : Int} {n k : Nat} (hk : k < n) : nth (stL b i n) k = stM b i k := by
  unfold stL
  rw [nth_lt (by simpa using hk), List.getElem_map, List.getElem_range]
theorem stL_len {i : Int} {n : Nat} : (stL b i n).length = n := by unfold stL; simp
theorem stL_nodup (hr : b.Right) {i : Int} (hi : b.is i) {n : Nat} (h : ∀ k, k < n → ∃ x, Stp b i k x) (hn : ∀ k, 1 ≤ k → k < n → ¬ Stp b i k i) : (stL b i n).Nodup := by
  rw [List.nodup_iff_pairwise_ne, List.pairwise_iff_getElem]
  intro j k hj hk hjk e
  rw [stL_len] at hj hk
  rw [← nth_lt, ← nth_lt, stL_nth hj, stL_nth hk] at e
  obtain ⟨x, hx⟩ := h j hj
  obtain ⟨y, hy⟩ := h k hk
  rw [stM_eq hx, stM_eq hy] at e
  subst e
  exact hn (k - j) (by omega) (by omega) (Stp.back hr hi j k (by omega) hx hy)
theorem stL_le (hr : b.Right) {i : Int} (hi : b.is i) {n : Nat} (h : ∀ k, k < n → ∃ x, Stp b i k x) (hn : ∀ k, 1 ≤ k → k < n → ¬ Stp b i k i) : n ≤ b.lots.length := by
  have := is_len (stL_nodup hr hi h hn) fun x hx => by
    obtain ⟨k, hk, rfl⟩ := List.mem_map.1 hx
    obtain ⟨y, hy⟩ := h k (List.mem_range.1 hk)
    rw [stM_eq hy]; exact hy.is hi
  rwa [stL_len] at this
theorem comes_back (hr : b.Right) {i : Int} (hi : b.is i) (h : ∃ n, 1 ≤ n ∧ Stp b i n i) : ∃ n, 1 ≤ n ∧ n ≤ b.lots.length ∧ Stp b i n i ∧ ∀ k, 1 ≤ k → k < n → ¬ Stp b i k i := by
  obtain ⟨n, h1, h2⟩ := h
  obtain ⟨m, _, ⟨h4, h5⟩, h6⟩ := least_nat (P := fun n => 1 ≤ n ∧ Stp b i n i) n ⟨h1, h2⟩
  have h7 : ∀ k, 1 ≤ k → k < m → ¬ Stp b i k i := fun k hk hkm hs => h6 k hkm ⟨hk, hs⟩
  exact ⟨m, h4, stL_le hr hi (fun k hk => h5.less k (by omega)) h7, h5, h7⟩
theorem must_back (hr : b.Right) {i : Int} (hi : b.is i) (h : ∀ n, ∃ x, Stp b i n x) : ∃ n, 1 ≤ n ∧ Stp b i n i := by
  apply Classical.byContradiction
  intro hno
  have := stL_le hr hi (n := b.lots.length + 1) (fun k _ => h k) fun k hk _ hs => hno ⟨k, hk, hs⟩
  omega
theorem is_step {i : Int} {m : Nat} {x : Int} (h : Stp b i (m + 1) x) : ∃ y, Stp b i m y ∧ x = follows b y ∧ 0 ≤ x := by
  cases h with
  | step h1 h2 => exact ⟨_, h1, rfl, h2⟩
theorem ring_least_of (hr : b.Right) {i : Int} (hi : b.is i) {n : Nat} (h1 : 2 ≤ n) (h2 : Stp b i n i) (h3 : ∀ k, 1 ≤ k → k < n → ¬ Stp b i k i) (h4 : ∀ k x, k < n → Stp b i k x → i ≤ x) : Ring b i (stL b i n) := by
  have hl : (stL b i n).length = n := stL_len
  have hex : ∀ k, k < n → ∃ x, Stp b i k x := fun k hk => h2.less k (by omega)
  refine ⟨by omega, by rw [stL_nth (by omega)]; exact stM_eq .zero, fun x hx => ?_, hi.1, fun j hj => ?_, ?_, stL_nodup hr hi hex h3⟩
  · obtain ⟨k, hk, rfl⟩ := List.mem_map.1 hx
    have hk := List.mem_range.1 hk
    obtain ⟨y, hy⟩ := hex k hk
    rw [stM_eq hy]
    exact ⟨h4 k y hk hy, (hy.is hi).2⟩
  · rw [hl] at hj
    obtain ⟨y, hy⟩ := hex (j + 1) hj
    obtain ⟨z, hz, e, _⟩ := is_step hy
    rw [stL_nth (by omega), stL_nth hj, stM_eq hz, stM_eq hy, e]
  · rw [hl]
    obtain ⟨k, rfl⟩ : ∃ k, n = k + 1 := ⟨n - 1, by omega⟩
    obtain ⟨z, hz, e, _⟩ := is_step h2
    rw [stL_nth (by omega), show k + 1 - 1 = k by omega, stM_eq hz, ← e]
theorem ring_iff (hr : b.Right) {i : Int} (hi : b.is i) : (∃ l ∈ ringsL b, i ∈ l) ↔ (b.at i).aim ≠ (b.at i).inn ∧ ∃ n, 1 ≤ n ∧ Stp b i n i := by
  constructor
  · rintro ⟨l, hl, hil⟩
    obtain ⟨s, hs, hR⟩ := (mem_rings hr).1 hl
    obtain ⟨h1, h2, h3, h4, h5⟩ := hR.lot hr hil
    refine ⟨fun e => h5 (at_inn hr h2 h1 (h3.trans e)), must_back hr hi fun n => ?_⟩
    have key : ∀ n, ∃ x, Stp b i n x ∧ x ∈ l := by
      intro n
      induction n with
      | zero => exact ⟨i, .zero, hil⟩
      | succ n ih =>
        obtain ⟨x, hx, hxl⟩ := ih
        exact ⟨_, .step hx (hR.lot hr hxl).2.1.1, hR.next hxl⟩
    obtain ⟨x, hx, _⟩ := key n
    exact ⟨x, hx⟩
  · rintro ⟨hne, hb⟩
    obtain ⟨n, h1, h2, h3, h4⟩ := comes_back hr hi hb
    -- the least lot of the way
    obtain ⟨s, _, ⟨k, hk, hs⟩, hmin⟩ := least_nat (P := fun s : Nat => ∃ k, k < n ∧ Stp b i k (s : Int)) i.toNat ⟨0, by omega, by rw [show ((i.toNat : Nat) : Int) = i from Int.toNat_of_nonneg hi.1]; exact .zero⟩
    have hsi := hs.is hi
    -- from s on
    have hgo : ∀ j x, Stp b s j x → ∃ m, m < n ∧ Stp b i m x := by
      intro j
      induction j with
      | zero => intro x hx; cases hx; exact ⟨k, hk, hs⟩
      | succ j ih =>
        intro x hx
        obtain ⟨y, hy, e, h0⟩ := is_step hx
        obtain ⟨m, hm, hmy⟩ := ih y hy
        have hst : Stp b i (m + 1) x := by rw [e]; exact .step hmy (by rw [← e]; exact h0)
        by_cases c : m + 1 < n
        · exact ⟨m + 1, c, hst⟩
        · rw [show m + 1 = n by omega] at hst
          rw [hst.det h3]; exact ⟨0, by omega, .zero⟩
    have hfrom : ∀ d x, k + d ≤ n → Stp b i (k + d) x → Stp b s d x := by
      intro d
      induction d with
      | zero => intro x _ hx; rw [Nat.add_zero] at hx; rw [hx.det hs]; exact .zero
      | succ d ih =>
        intro x hd hx
        obtain ⟨y, hy, e, h0⟩ := is_step (show Stp b i ((k + d) + 1) x from hx)
        rw [e]; exact .step (ih y (by omega) hy) (by rw [← e]; exact h0)
    have hsi1 : Stp b s (n - k) i := hfrom (n - k) i (by omega) (by rw [show k + (n - k) = n by omega]; exact h3)
    have hsn : Stp b s n s := by
      have := hsi1.add hs
      rw [show n - k + k = n by omega] at this; exact this
    obtain ⟨r, r1, r2, r3, r4⟩ := comes_back hr hsi ⟨n, h1, hsn⟩
    have hr2 : 2 ≤ r := by
      apply Classical.byContradiction
      intro hc
      have e1 : r = 1 := by omega
      subst e1
      obtain ⟨y, hy, e, _⟩ := is_step r3
      cases hy
      -- s follows itself: so does each lot that leads there
      have hall : ∀ d x, Stp b s d x → x = (s : Int) := by
        intro d
        induction d with
        | zero => intro x hx; cases hx; rfl
        | succ d ih =>
          intro x hx
          obtain ⟨y, hy, e', _⟩ := is_step hx
          rw [e', ih y hy]; exact e.symm
      have his := hall _ _ hsi1
      rw [← his] at e
      have h0 : 0 ≤ follows b i := by rw [← e]; exact hi.1
      have := (fol_at h0).2
      rw [← e] at this
      exact hne this.symm
    have hR := ring_least_of hr hsi hr2 r3 r4 fun k' x _ hx => by
      obtain ⟨m, hm, hmx⟩ := hgo k' x hx
      have hxi := hmx.is hi
      apply Classical.byContradiction
      intro hlt
      exact hmin x.toNat (by have := hxi.1; omega) ⟨m, hm, by rw [show ((x.toNat : Nat) : Int) = x from Int.toNat_of_nonneg hxi.1]; exact hmx⟩
    refine ⟨_, (mem_rings hr).2 ⟨s, by have := hsi.2; omega, hR⟩, ?_⟩
    -- i is on the way from s
    have hmem : ∀ d x, Stp b s d x → x ∈ stL b s r := by
      intro d
      induction d with
      | zero =>
        intro x hx; cases hx
        have := nth_mem (xs := stL b s r) (k := 0) (by rw [stL_len]; omega)
        rw [hR.head] at this; exact this
      | succ d ih =>
        intro x hx
        obtain ⟨y, hy, e, _⟩ := is_step hx
        rw [e]; exact hR.next (ih y hy)
    exact hmem _ _ hsi1
end Go.Proofs.Ytpnndljmhpepgaa

namespace Go.Proofs.Ytpnndljmhpepgaa
open Go Go.T
set_option maxHeartbeats 4000000
theorem und4' : Try.prog.underlying 4 = some .bool := Try.underlying4
theorem int_lt {x : Int} {n : Nat} (h : 0 ≤ x ∧ x < n) : x.toNat < n := by omega
def Rise (l : List Int) : Prop := ∀ i k, i < k → k < l.length → nth l i < nth l k
theorem filtUp_rise (p : Nat → Bool) (n : Nat) : Rise (filtUp p n) := by
  have h : (filtUp p n).Pairwise fun a c => a < c := by
    unfold filtUp
    rw [List.pairwise_map]
    have h : ((List.range n).filter p).Pairwise fun a c => a < c := List.Pairwise.filter _ List.pairwise_lt_range
    exact h.imp fun {a c} hac => by omega
  intro i k hik hk
  rw [List.pairwise_iff_getElem] at h
  rw [nth_lt (by omega), nth_lt hk]
  exact h i k (by omega) hk hik
theorem rise_sorted {l : List Int} (h : Rise l) {i : Int} (h0 : 0 < i) (h1 : i < l.length) : decide (nth l i.toNat < nth l (i - 1).toNat) = false := by
  have := h (i - 1).toNat i.toNat (by omega) (by omega)
  exact decide_eq_false (by omega)
section
variable {b : Barn}
theorem ring_row (hr : b.Right) {m : Nat} (hm : m < (ringsL b).length) : ∃ i : Nat, i < b.lots.length ∧ Ring b i (nth (ringsL b) m) := (mem_rings hr).1 (nth_mem hm)
def flatU (b : Barn) (m i : Nat) : List Int := ((ringsL b).take m).flatten ++ (nth (ringsL b) m).take i
theorem rings_len (b : Barn) : (ringsL b).length ≤ b.lots.length := ringsUp_len _ _
theorem flatU_zero (b : Barn) (m : Nat) : flatU b m 0 = ((ringsL b).take m).flatten := by unfold flatU; rw [List.take_zero, List.append_nil]
theorem flatU_succ {m i : Nat} (hi : i < (nth (ringsL b) m).length) : flatU b m i ++ [nth (nth (ringsL b) m) i] = flatU b m (i + 1) := by unfold flatU; rw [take_nth hi, List.append_assoc]
theorem flatU_all {m i : Nat} (hm : m < (ringsL b).length) (hi : (nth (ringsL b) m).length ≤ i) : flatU b m i = ((ringsL b).take (m + 1)).flatten := by
  unfold flatU; rw [List.take_of_length_le hi, take_nth hm, List.flatten_append]; simp
theorem rings_nodup (hr : b.Right) : (ringsL b).flatten.Nodup := by
  rw [List.nodup_iff_pairwise_ne, List.pairwise_flatten]
  refine ⟨fun l hl => ?_, (rings_apart hr).imp fun {l r} h x hx y hy e => h.2 x hx (by rw [e]; exact hy)⟩
  obtain ⟨i, hi, hR⟩ := (mem_rings hr).1 hl
  exact List.nodup_iff_pairwise_ne.1 hR.nodup
theorem flatU_pre {m i : Nat} (hm : m < (ringsL b).length) (hi : i < (nth (ringsL b) m).length) : ∃ r, (ringsL b).flatten = flatU b m i ++ nth (nth (ringsL b) m) i :: r := by
  have h1 : (ringsL b) = (ringsL b).take m ++ nth (ringsL b) m :: (ringsL b).drop (m + 1) := by
    rw [← drop_nth hm, List.take_append_drop]
  have h2 : nth (ringsL b) m = (nth (ringsL b) m).take i ++ nth (nth (ringsL b) m) i :: (nth (ringsL b) m).drop (i + 1) := by
    rw [← drop_nth hi, List.take_append_drop]
  refine ⟨(nth (ringsL b) m).drop (i + 1) ++ ((ringsL b).drop (m + 1)).flatten, ?_⟩
  have h3 : (ringsL b).flatten = ((ringsL b).take m).flatten ++ ((nth (ringsL b) m) ++ ((ringsL b).drop (m + 1)).flatten) := by
    have := congrArg List.flatten h1
    rw [List.flatten_append, List.flatten_cons] at this; exact this
  rw [h3]
  unfold flatU
  have h4 : nth (ringsL b) m ++ ((ringsL b).drop (m + 1)).flatten = ((nth (ringsL b) m).take i ++ nth (nth (ringsL b) m) i :: (nth (ringsL b) m).drop (i + 1)) ++ ((ringsL b).drop (m + 1)).flatten := congrArg (· ++ _) h2
  rw [h4]; simp
theorem flatU_not (hr : b.Right) {m i : Nat} (hm : m < (ringsL b).length) (hi : i < (nth (ringsL b) m).length) : nth (nth (ringsL b) m) i ∉ flatU b m i := by
  obtain ⟨r, e⟩ := flatU_pre hm hi
  have h := rings_nodup hr
  rw [e, List.nodup_append] at h
  intro hmem
  exact h.2.2 _ hmem _ List.mem_cons_self rfl
theorem flatU_len (hr : b.Right) {m i : Nat} (hm : m < (ringsL b).length) (hi : i < (nth (ringsL b) m).length) : (flatU b m i).length ≤ 100 := by
  obtain ⟨r, e⟩ := flatU_pre hm hi
  have h := is_len (b := b) (rings_nodup hr) fun x hx => by
    obtain ⟨l, hl, hx⟩ := List.mem_flatten.1 hx
    obtain ⟨i, hi, hR⟩ := (mem_rings hr).1 hl
    exact (hR.lot hr hx).1
  rw [e, List.length_append] at h
  have := hr.lots
  omega
structure RLot (b : Barn) (l : List Int) (i : Nat) : Prop where
  is : 0 ≤ nth l i ∧ nth l i < b.lots.length
  nx : 0 ≤ nth l ((i + 1) % l.length) ∧ nth l ((i + 1) % l.length) < b.lots.length
  to : (nth b.lots (nth l i).toNat).aim = (nth b.lots (nth l ((i + 1) % l.length)).toNat).inn
  low : nth l 0 ≤ nth l i
  must : nth l i ∈ mustL b
theorem rlot (hr : b.Right) {m i : Nat} (hm : m < (ringsL b).length) (hi : i < (nth (ringsL b) m).length) : RLot b (nth (ringsL b) m) i := by
  obtain ⟨s, hs, hR⟩ := ring_row hr hm
  obtain ⟨h1, h2, h3, _, _⟩ := hR.lot hr (nth_mem hi)
  have e : follows b (nth (nth (ringsL b) m) i) = nth (nth (ringsL b) m) ((i + 1) % (nth (ringsL b) m).length) := by
    by_cases c : i + 1 < (nth (ringsL b) m).length
    · rw [hR.fol i c, Nat.mod_eq_of_lt c]
    · rw [show i = (nth (ringsL b) m).length - 1 by omega, hR.last, show (nth (ringsL b) m).length - 1 + 1 = (nth (ringsL b) m).length by have := hR.two; omega, Nat.mod_self]; exact hR.head.symm
  rw [e] at h2 h3
  exact ⟨h1, h2, h3.symm, by rw [hR.head]; exact (hR.rng _ (nth_mem hi)).1, hR.must hr (nth_mem hi)⟩
theorem lrg4 (hr : b.Right) {m i : Nat} (hm : m < (ringsL b).length) (hi : i < (nth (ringsL b) m).length) : (((((((decide (nth (nth (ringsL b) m) i < 0) || decide (nth (nth (ringsL b) m) i ≥ (b.lots.length : Int))) || decide (nth (nth (ringsL b) m) ((i + 1) % (nth (ringsL b) m).length) < 0)) || decide (nth (nth (ringsL b) m) ((i + 1) % (nth (ringsL b) m).length) ≥ (b.lots.length : Int))) || !decide ((nth b.lots (nth (nth (ringsL b) m) i).toNat).aim = (nth b.lots (nth (nth (ringsL b) m) ((i + 1) % (nth (ringsL b) m).length)).toNat).inn)) || decide (nth (nth (ringsL b) m) i < nth (nth (ringsL b) m) 0)) || !decide (nth (nth (ringsL b) m) i ∈ mustL b)) || decide (nth (nth (ringsL b) m) i ∈ flatU b m i)) = false := by
  have h := rlot hr hm hi
  have h1 := h.is
  have h2 := h.nx
  have h3 := h.low
  rw [decide_eq_false (show ¬ nth (nth (ringsL b) m) i < 0 by omega), decide_eq_false (show ¬ nth (nth (ringsL b) m) i ≥ (b.lots.length : Int) by omega), decide_eq_false (show ¬ nth (nth (ringsL b) m) ((i + 1) % (nth (ringsL b) m).length) < 0 by omega), decide_eq_false (show ¬ nth (nth (ringsL b) m) ((i + 1) % (nth (ringsL b) m).length) ≥ (b.lots.length : Int) by omega), decide_eq_true h.to, decide_eq_false (show ¬ nth (nth (ringsL b) m) i < nth (nth (ringsL b) m) 0 by omega), decide_eq_true h.must, decide_eq_false (flatU_not hr hm hi)]; rfl
theorem mem_must {k : Nat} (hk : k < b.lots.length) : (k : Int) ∈ mustL b ↔ mustI b k = true := by
  unfold mustL
  rw [filtUp_mem]
  constructor
  · rintro ⟨j, _, h, e⟩
    rw [show k = j by omega]; exact h
  · intro h; exact ⟨k, hk, h, rfl⟩
theorem lrg6 (hr : b.Right) {k : Nat} (hk : k < b.lots.length) : (!(decide ((k : Int) ∈ mustL b) == (!decide ((nth b.lots k).aim = (nth b.lots k).inn) && (!decide ((nth b.lots k).aim = -1) || b.wanted (nth b.lots k).inn)))) = false := by
  have h1 := hr.inn _ (nth_mem hk)
  have e : decide ((k : Int) ∈ mustL b) = mustI b k := by
    rw [Bool.eq_iff_iff, decide_eq_true_eq]; exact mem_must hk
  rw [e]
  unfold mustI
  by_cases c1 : (nth b.lots k).aim = -1
  · rw [decide_eq_true c1, decide_eq_false (show ¬ (nth b.lots k).aim = (nth b.lots k).inn by omega)]; simp
  · rw [decide_eq_false c1]; simp
structure BkIx (b : Barn) (k : Nat) (m : Nat) (x : Int) (back : Bool) : Prop where
  le : m ≤ b.lots.length
  at_ : Stp b k m x
  bk : back = true ↔ ∃ j, 1 ≤ j ∧ j ≤ m ∧ Stp b k j k
theorem bkix0 (b : Barn) (k : Nat) : BkIx b k 0 k false := ⟨Nat.zero_le _, .zero, (fun h => by cases h), fun ⟨j, h1, h2, _⟩ => by omega⟩
variable {k m : Nat} {x : Int} {back : Bool}
theorem BkIx.rng (h : BkIx b k m x back) (hk : k < b.lots.length) : 0 ≤ x ∧ x < b.lots.length := h.at_.is ⟨by omega, by omega⟩
theorem BkIx.next (h : BkIx b k m x back) (hm : m < b.lots.length) (h0 : ¬ follows b x < 0) : BkIx b k (m + 1) (follows b x) (back || decide (follows b x = k)) := by
  have hst : Stp b k (m + 1) (follows b x) := .step h.at_ (by omega)
  refine ⟨hm, hst, ?_⟩
  rw [Bool.or_eq_true, h.bk, decide_eq_true_eq]
  constructor
  · rintro (⟨j, h1, h2, h3⟩ | e)
    · exact ⟨j, h1, by omega, h3⟩
    · exact ⟨m + 1, by omega, Nat.le_refl _, by rw [e] at hst; exact hst⟩
  · rintro ⟨j, h1, h2, h3⟩
    by_cases c : j ≤ m
    · exact .inl ⟨j, h1, c, h3⟩
    · rw [show j = m + 1 by omega] at h3
      exact .inr (hst.det h3)
theorem BkIx.all (hr : b.Right) (hk : k < b.lots.length) (h : BkIx b k m x back) (hm : b.lots.length ≤ m) : back = true ↔ ∃ j, 1 ≤ j ∧ Stp b k j k := by
  rw [h.bk]
  constructor
  · rintro ⟨j, h1, _, h3⟩; exact ⟨j, h1, h3⟩
  · intro hb
    obtain ⟨n, h1, h2, h3, _⟩ := comes_back hr ⟨by omega, by omega⟩ hb
    exact ⟨n, h1, by omega, h3⟩
theorem BkIx.stop (h : BkIx b k m x back) (h0 : follows b x < 0) : (back || decide (follows b x = k)) = true ↔ ∃ j, 1 ≤ j ∧ Stp b k j k := by
  rw [decide_eq_false (show ¬ follows b x = k by omega), Bool.or_false, h.bk]
  constructor
  · rintro ⟨j, h1, _, h3⟩; exact ⟨j, h1, h3⟩
  · rintro ⟨j, h1, h3⟩
    refine ⟨j, h1, ?_, h3⟩
    apply Classical.byContradiction
    intro hc
    obtain ⟨y, hy⟩ := h3.less (m + 1) (by omega)
    obtain ⟨z, hz, e, h0'⟩ := is_step hy
    rw [hz.det h.at_] at e
    omega
theorem lrg9 (hr : b.Right) (hk : k < b.lots.length) {bk : Bool} (h : bk = true ↔ ∃ j, 1 ≤ j ∧ Stp b k j k) : (!(decide ((k : Int) ∈ (ringsL b).flatten) == (bk && !decide ((nth b.lots k).aim = (nth b.lots k).inn)))) = false := by
  have h1 := ring_iff hr (i := (k : Int)) ⟨by omega, by omega⟩
  have e : decide ((k : Int) ∈ (ringsL b).flatten) = (bk && !decide ((nth b.lots k).aim = (nth b.lots k).inn)) := by
    rw [Bool.eq_iff_iff, decide_eq_true_eq, List.mem_flatten, Bool.and_eq_true, h]
    simp only [Bool.not_eq_true', decide_eq_false_iff_not]
    constructor
    · intro hm; have := h1.1 hm; exact ⟨this.2, this.1⟩
    · intro hm; exact h1.2 ⟨hm.2, hm.1⟩
  rw [e]; simp
end
attribute [local irreducible] mustL ringsL checkB flatU follows
attribute [local irreducible] dInt dBool dSl dPp dPtr dAgg dTup dClo dAny dEx dStr dGd dCells dVec dVs dRow dOp nth Tri Into TOps Ctr bodyPost Exit.then Exit.inBlock Code.wp Code.wpIn dWhen dPa dPe dAo dArr dMp dPm dMap dCJ CtrG CtrI OpY keepPost iterPost bodyPostM roundQ
set_option maxRecDepth 100000 in
theorem c_isNaN (x : Int) : Ctr Try.prog 145 [Ty.int .i64 x] (Ty.bool false) := by
  refine fn_intro Try.func145 rfl (by decide) Try.ntmps145 (by exact Nat.le_of_ble_eq_true rfl) fun w0 M0 => ?_
  refine t_seq ?_
  refine t_region ?_
  refine asB rfl ?_
  refine r_nil ?_
  refine i_then ?_
  refine t_seq ?_
  refine t_region ?_
  refine mvI rfl ?_
  refine mvI rfl ?_
  refine r_bin rfl rfl rfl ?_
  refine asB rfl ?_
  refine r_nil ?_
  refine i_then ?_
  refine t_ret ?_
  refine i_rp1 rfl rfl ?_
  all_goals skip
  exact ret_eq rfl rfl (congrArg Ty.bool (by simp))
set_option maxRecDepth 100000 in
theorem c_Less (a b : Int) : Ctr Try.prog 116 [Ty.int .i64 a, Ty.int .i64 b] (Ty.bool (decide (a < b))) := by
  refine fn_intro Try.func116 rfl (by decide) Try.ntmps116 (by exact Nat.le_of_ble_eq_true rfl) fun w0 M0 => ?_
  refine t_seq ?_
  refine t_region ?_
  refine asB rfl ?_
  refine r_nil ?_
  refine i_then ?_
  refine t_seq ?_
  refine t_region ?_
  refine mvI rfl ?_
  refine r_call (c_isNaN _) rfl rfl rfl rfl rfl ?_
  refine mvB rfl ?_
  apply r_guard (s := 7) rfl rfl rfl
  · intro hg; apply opT_of; (refine mvI rfl ?_); refine r_nil ?_; exact rfl
  · exact rfl
  · exact rfl
  apply r_guard (s := 7) rfl rfl rfl
  · intro hg; apply opT_strip (s := 8) rfl (by exact hg); apply opT_of; (refine r_call (c_isNaN _) rfl rfl rfl rfl rfl ?_); refine r_nil ?_; exact rfl
  · exact rfl
  · exact rfl
  apply r_guard (s := 7) rfl rfl rfl
  · intro hg; apply opT_strip (s := 9) rfl (by exact hg); apply opT_of; (refine r_not rfl ?_); refine r_nil ?_; exact rfl
  · exact rfl
  · exact rfl
  refine r_and rfl rfl ?_
  refine mvB rfl ?_
  apply r_guard (s := 12) rfl rfl rfl
  · intro hg; apply opT_of; (refine mvI rfl ?_); refine r_nil ?_; exact rfl
  · exact rfl
  · exact rfl
  apply r_guard (s := 12) rfl rfl rfl
  · intro hg; apply opT_of; (refine mvI rfl ?_); refine r_nil ?_; exact rfl
  · exact rfl
  · exact rfl
  apply r_guard (s := 12) rfl rfl rfl
  · intro hg; apply opT_strip (s := 13) rfl (by (rw [hg]; rfl)); apply opT_strip (s := 14) rfl (by (rw [hg]; rfl)); apply opT_of; (refine r_bin rfl rfl rfl ?_); refine r_nil ?_; exact rfl
  · exact rfl
  · exact rfl
  refine r_or rfl rfl ?_
  refine asB rfl ?_
  refine r_nil ?_
  refine i_then ?_
  refine t_ret ?_
  refine i_rp1 rfl rfl ?_
  all_goals exact ret_refl rfl rfl
  all_goals trace_state
set_option maxRecDepth 100000 in
theorem c_IsSorted (l : List Int) (h : Rise l) (hl : l.length ≤ 1000) : Ctr Try.prog 60 [Ty.sl I64 l] (Ty.bool true) := by
  refine fn_intro Try.func60 rfl (by decide) Try.ntmps60 (by exact Nat.le_of_ble_eq_true rfl) fun w0 M0 => ?_
  refine t_seq ?_
  refine t_region ?_
  refine asB rfl ?_
  refine r_nil ?_
  refine i_then ?_
  refine t_seq ?_
  refine t_seq ?_
  refine t_region ?_
  refine mvS rfl ?_
  refine r_len rfl rfl rfl ?_
  refine r_sub rfl rfl (by omega) (by omega) ?_
  refine asI rfl ?_
  refine r_nil ?_
  refine i_then ?_
  refine t_block ?_
  refine t_loop (fun (k : {k : Nat // k ≤ l.length}) => live [(0, Ty.sl I64 l), (3, Ty.int .i64 ((l.length : Int) - 1 - (k.1 : Nat)))] []) (fun k => l.length - k.1) (⟨0, Nat.zero_le _⟩) ?_ fun k => ?_
  · (refine Ent.mk' ?_ ?_ <;> (repeat' (first | exact allSub_zero | exact allTags_nil | refine allSub_succ' ?_ (Ty.sub_any _) | refine allSub_succ' ?_ (Ty.sub_refl _) | refine allSub_succ' ?_ ?_)))
    all_goals exact Ty.sub_int (by simp)
  ·
    have hk := k.2
    refine t_seq ?_
    refine t_seq ?_
    refine t_region ?_
    refine mvI rfl ?_
    refine r_bin rfl rfl rfl ?_
    refine r_nil ?_
    refine i_then ?_
    refine t_cond_dec rfl (fun hc1 => ?_) (fun hc1 => ?_)
    ·
      refine t_skip ?_
      refine i_then ?_
      refine t_seq ?_
      refine t_block ?_
      refine t_seq ?_
      refine t_draw mixed rfl ?_
      refine mvS rfl ?_
      refine mvI rfl ?_
      refine r_index_sl rfl rfl rfl rfl rfl rfl (by omega) (by omega) ?_
      refine r_load_pp rfl rfl rfl rfl ?_
      refine mvS rfl ?_
      refine mvI rfl ?_
      refine r_sub rfl rfl (by omega) (by omega) ?_
      refine r_index_sl rfl rfl rfl rfl rfl rfl (by omega) (by omega) ?_
      refine r_load_pp rfl rfl rfl rfl ?_
      refine r_call (c_Less _ _) rfl rfl rfl rfl rfl ?_
      refine r_nil ?_
      refine ⟨by kernel_rfl, ?_⟩
      refine i_then ?_
      refine t_cond_ff rfl (rise_sorted h (by omega) (by omega)) ?_
      refine t_skip ?_
      refine i_block ?_
      refine i_then ?_
      refine t_region ?_
      refine mvI rfl ?_
      refine r_sub rfl rfl (by omega) (by omega) ?_
      refine asI rfl ?_
      refine r_nil ?_
      refine i_round (⟨k.1 + 1, by omega⟩) ?_ (by show l.length - (k.1 + 1) < l.length - k.1; omega)
      (refine Ent.mk' ?_ ?_ <;> (repeat' (first | exact allSub_zero | exact allTags_nil | refine allSub_succ' ?_ (Ty.sub_any _) | refine allSub_succ' ?_ (Ty.sub_refl _) | refine allSub_succ' ?_ ?_)))
      all_goals skip
      all_goals exact Ty.sub_int (by show (l.length : Int) - 1 - (k.1 : Nat) - 1 = (l.length : Int) - 1 - ((k.1 + 1 : Nat) : Int); omega)
    ·
      refine t_exit ?_
      refine i_then_exit ?_
      refine i_then_exit ?_
      refine i_block_exit rfl ?_
      refine i_then ?_
      refine t_seq ?_
      refine t_region ?_
      refine asB rfl ?_
      refine r_nil ?_
      refine i_then ?_
      refine t_ret ?_
      refine i_rp1 rfl rfl ?_
      all_goals exact ret_refl rfl rfl
      all_goals trace_state
set_option maxRecDepth 100000 in
theorem c_ringed1 (l x : Lot) : Ctr Try.prog 63 [Ty.agg (LotE.tys x), Ty.pp (LotE.tys l)] (Ty.bool (decide (x.aim = l.inn))) := by
  refine fn_intro Try.func63 rfl (by decide) Try.ntmps63 (by exact Nat.le_of_ble_eq_true rfl) fun w0 M0 => ?_
  refine t_seq ?_
  refine t_region ?_
  refine r_box_agg rfl ?_
  refine asB rfl ?_
  refine r_nil ?_
  refine i_then ?_
  refine t_seq ?_
  refine t_region ?_
  refine r_field_pp rfl rfl rfl rfl rfl (by decide) ?_
  refine r_load_pp rfl rfl rfl rfl ?_
  refine r_field_pp rfl rfl rfl rfl rfl (by decide) ?_
  refine r_load_pp rfl rfl rfl rfl ?_
  refine r_bin rfl rfl rfl ?_
  refine asB rfl ?_
  refine r_nil ?_
  refine i_then ?_
  refine t_ret ?_
  refine i_rp1 rfl rfl ?_
  all_goals exact ret_refl rfl rfl
set_option maxRecDepth 100000 in
theorem c_ringed2 (b : Barn) (at_ : Int) (ha : 0 ≤ at_ ∧ at_ < b.lots.length) (x : Lot) : Ctr Try.prog 65 [Ty.agg (LotE.tys x), Ty.pp [Ty.int .i64 at_], Ty.pp (barnTys b)] (Ty.bool (decide (x.inn = (nth b.lots at_.toNat).aim))) := by
  refine fn_intro Try.func65 rfl (by decide) Try.ntmps65 (by exact Nat.le_of_ble_eq_true rfl) fun w0 M0 => ?_
  refine t_seq ?_
  refine t_region ?_
  refine r_box_agg rfl ?_
  refine asB rfl ?_
  refine r_nil ?_
  refine i_then ?_
  refine t_seq ?_
  refine t_draw mixed rfl ?_
  refine r_load_pp rfl rfl rfl rfl ?_
  refine r_bin rfl rfl rfl ?_
  refine mvB rfl ?_
  apply r_guard (s := 7) rfl rfl rfl
  · intro hg; apply opT_of; (refine r_field_pp rfl rfl rfl rfl rfl (by decide) ?_); refine r_nil ?_; exact rfl
  · exact rfl
  · exact rfl
  apply r_guard (s := 7) rfl rfl rfl
  · intro hg; apply opT_strip (s := 8) rfl (by (rw [hg]; rfl)); apply opT_of; (refine r_load_pp rfl rfl rfl rfl ?_); refine r_nil ?_; exact rfl
  · exact rfl
  · exact rfl
  apply r_guard (s := 7) rfl rfl rfl
  · intro hg; apply opT_of; (refine r_field_pp rfl rfl rfl rfl rfl (by decide) ?_); refine r_nil ?_; exact rfl
  · exact rfl
  · exact rfl
  apply r_guard (s := 7) rfl rfl rfl
  · intro hg; apply opT_strip (s := 10) rfl (by (rw [hg]; rfl)); apply opT_of; (refine r_load_pp rfl rfl rfl rfl ?_); refine r_nil ?_; exact rfl
  · exact rfl
  · exact rfl
  apply r_guard (s := 7) rfl rfl rfl
  · intro hg; apply opT_of; (refine r_load_pp rfl rfl rfl rfl ?_); refine r_nil ?_; exact rfl
  · exact rfl
  · exact rfl
  apply r_guard (s := 7) rfl rfl rfl
  · intro hg; apply opT_strip (s := 11) rfl (by (rw [hg]; rfl)); apply opT_strip (s := 12) rfl (by (rw [hg]; rfl)); apply opT_of; (refine r_index_sl rfl rfl rfl rfl rfl rfl ha.1 (by omega) ?_); refine r_nil ?_; exact rfl
  · exact rfl
  · exact rfl
  apply r_guard (s := 7) rfl rfl rfl
  · intro hg; apply opT_strip (s := 13) rfl (by (rw [hg]; rfl)); apply opT_of; (refine r_field_pp rfl rfl rfl rfl rfl (by decide) ?_); refine r_nil ?_; exact rfl
  · exact rfl
  · exact rfl
  apply r_guard (s := 7) rfl rfl rfl
  · intro hg; apply opT_strip (s := 14) rfl (by (rw [hg]; rfl)); apply opT_of; (refine r_load_pp rfl rfl rfl rfl ?_); refine r_nil ?_; exact rfl
  · exact rfl
  · exact rfl
  apply r_guard (s := 7) rfl rfl rfl
  · intro hg; apply opT_strip (s := 9) rfl (by (rw [hg]; rfl)); apply opT_strip (s := 15) rfl (by (rw [hg]; rfl)); apply opT_of; (refine r_bin rfl rfl rfl ?_); refine r_nil ?_; exact rfl
  · exact rfl
  · exact rfl
  refine r_and rfl rfl ?_
  refine asB rfl ?_
  refine r_nil ?_
  refine ⟨by kernel_rfl, ?_⟩
  refine i_then ?_
  refine t_ret ?_
  refine i_rp1 rfl rfl ?_
  all_goals skip
  all_goals exact ret_eq rfl rfl (congrArg Ty.bool (by rw [decide_eq_true (show at_ ≥ 0 from ha.1)]; rfl))
theorem c_IndexL (b : Barn) (x : Int) (hx : 0 ≤ x ∧ x < b.lots.length) : Ctr Try.prog 64 [Ty.sl LotE b.lots, Ty.clo 65 [Ty.pp [Ty.int .i64 x], Ty.pp (barnTys b)]] (Ty.int .i64 (follows b x)) := by
  have h := c_IndexFunc_lot b.lots (Ty.clo 65 [Ty.pp [Ty.int .i64 x], Ty.pp (barnTys b)]) rfl (fun l => decide (l.inn = (nth b.lots x.toNat).aim)) rfl rfl fun y _ => cal_clo (c_ringed2 b x hx y) rfl rfl rfl rfl rfl rfl
  unfold follows; exact h
set_option maxRecDepth 100000 in
theorem c_TurnRinged (g : List Int) : Ctr Try.prog 12 [Ty.sl U8 g] (Ty.bool true) := by
  refine fn_intro Try.func12 rfl (by decide) Try.ntmps12 (by exact Nat.le_of_ble_eq_true rfl) fun w0 M0 => ?_
  refine t_seq ?_
  refine t_region ?_
  refine asB rfl ?_
  refine r_nil ?_
  refine i_then ?_
  refine t_seq ?_
  obtain ⟨b, s1, hr, _, _, hM⟩ := made8 g 7 6 ⟨by decide, by decide⟩ ⟨by decide, by decide⟩
  have h0 := right_check hr
  have hs := small_right hr
  have h6 := hr.lots
  have hml := must_len b
  have hrll := rings_len b
  have hmr : Rise (mustL b) := by unfold mustL; exact filtUp_rise _ _
  refine t_region ?_
  refine mvS rfl ?_
  refine r_callG [(21, 10)] [21] [(21, Cont.cells 141 (skTys (skFill g)))] (c_Fill g) rfl rfl (by repeat (first | exact cv_nil | refine cv_cons ?_ ?_ | exact cv_pub rfl rfl)) pre_nil (post_cons (a := 21) (b := 10) (by exact List.mem_cons_self) rfl (cc_cells_eq (by exact List.mem_cons_self) rfl rfl rfl) post_nil) (cv_ptr (by exact List.mem_cons_self)) ?_
  refine r_callG [(21, 1000)] [] [(21, Cont.cells 141 (skTys (s1)))] (hM) rfl rfl (by repeat (first | exact cv_nil | refine cv_cons ?_ ?_ | exact cv_ptr List.mem_cons_self | exact cv_pub rfl rfl)) (pre_cons (a := 21) (b := 1000) (by exact List.mem_cons_self) rfl (cc_cells_eq (by exact List.mem_cons_self) rfl rfl rfl) pre_nil) (post_cons (a := 21) (b := 1000) (by exact List.mem_cons_self) rfl (cc_cells_eq (by exact List.mem_cons_self) rfl rfl rfl) post_nil) (cv_pub rfl rfl) ?_
  refine r_alloc rfl (by exact List.cons_ne_nil _ _) rfl ?_
  refine r_storeN rfl rfl (by decide) rfl rfl rfl rfl rfl rfl ?_
  refine r_nil ?_
  refine i_then ?_
  refine t_seq ?_
  refine t_pub (tg := 4) [(3, Ty.pp (barnTys b))] (by decide) rfl ⟨pub_ptr (T := 25) (tg := 4) (off := 0) (l := barnTys b) rfl rfl rfl (by decide), trivial⟩ ?_
  refine t_region ?_
  refine r_load_ppN rfl rfl rfl (by exact Nat.le_of_ble_eq_true rfl) ?_
  refine r_call (c_Must b hs) rfl rfl rfl rfl rfl ?_
  refine mvT rfl ?_
  refine r_extract rfl rfl ?_
  refine r_extract rfl rfl ?_
  refine asS rfl ?_
  refine asI rfl ?_
  refine r_nil ?_
  refine i_then ?_
  refine t_seq ?_
  refine t_region ?_
  refine r_load_ppN rfl rfl rfl (by exact Nat.le_of_ble_eq_true rfl) ?_
  refine r_call (c_Rings b hs) rfl rfl rfl rfl rfl ?_
  refine mvT rfl ?_
  refine r_extract rfl rfl ?_
  refine r_extract rfl rfl ?_
  refine asS rfl ?_
  refine asI rfl ?_
  refine r_nil ?_
  refine i_then ?_
  refine t_seq ?_
  refine t_seq ?_
  refine t_as (s := 4) rfl (Ty.sub_sl (if_pos h0)) ?_
  refine t_as (s := 5) rfl (Ty.sub_int h0) ?_
  refine t_as (s := 6) rfl (Ty.sub_sl (if_pos h0)) ?_
  refine t_as (s := 7) rfl (Ty.sub_int h0) ?_
  refine t_region ?_
  refine mvI rfl ?_
  refine r_bin rfl rfl rfl ?_
  refine mvB rfl ?_
  apply r_guard (s := 34) rfl rfl rfl
  · intro hg; apply opT_of; (refine mvI rfl ?_); refine r_nil ?_; exact rfl
  · exact rfl
  · exact rfl
  apply r_guard (s := 34) rfl rfl rfl
  · intro hg; apply opT_strip (s := 35) rfl (by (rw [hg]; rfl)); apply opT_of; (refine r_bin rfl rfl rfl ?_); refine r_nil ?_; exact rfl
  · exact rfl
  · exact rfl
  refine r_or rfl rfl ?_
  refine mvB rfl ?_
  apply r_guard (s := 38) rfl rfl rfl
  · intro hg; apply opT_of; (refine mvS rfl ?_); refine r_nil ?_; exact rfl
  · exact rfl
  · exact rfl
  apply r_guard (s := 38) rfl rfl rfl
  · intro hg; apply opT_strip (s := 39) rfl (by (rw [hg]; rfl)); apply opT_of; (refine r_call (c_IsSorted (mustL b) hmr (by omega)) rfl rfl rfl rfl rfl ?_); refine r_nil ?_; exact rfl
  · exact rfl
  · exact rfl
  apply r_guard (s := 38) rfl rfl rfl
  · intro hg; apply opT_strip (s := 40) rfl (by (rw [hg]; rfl)); apply opT_of; (refine r_not rfl ?_); refine r_nil ?_; exact rfl
  · exact rfl
  · exact rfl
  refine r_or rfl rfl ?_
  refine r_nil ?_
  refine i_then ?_
  refine t_cond_ff rfl (by simp) ?_
  refine t_skip ?_
  refine i_then ?_
  refine t_seq ?_
  refine t_region ?_
  refine asX rfl ?_
  refine r_nil ?_
  refine i_then ?_
  refine t_seq ?_
  refine t_seq ?_
  refine t_region ?_
  refine mvS rfl ?_
  refine r_len rfl rfl rfl ?_
  refine mvI rfl ?_
  refine r_nil ?_
  refine i_then ?_
  refine t_block ?_
  refine t_loop (fun (m : {m : Nat // m ≤ (ringsL b).length}) => live [(3, Ty.pp (barnTys b)), (4, Ty.sl I64 (mustL b)), (8, Ty.row I64 3 124 ((ringsL b).take m.1).flatten), (43, Ty.sl RowE (ringsL b)), (44, Ty.int .i64 (ringsL b).length), (45, Ty.int .i64 (m.1 : Nat))] []) (fun m => (ringsL b).length - m.1) (⟨0, by omega⟩) ?_ fun m => ?_
  · (refine Ent.mk' ?_ ?_ <;> (repeat' (first | exact allSub_zero | exact allTags_nil | refine allSub_succ' ?_ (Ty.sub_any _) | refine allSub_succ' ?_ (Ty.sub_refl _) | refine allSub_succ' ?_ Ty.nil_row)))
    all_goals trace_state
  ·
    have hm := m.2
    refine t_seq ?_
    refine t_region ?_
    refine r_bin rfl rfl rfl ?_
    refine r_nil ?_
    refine i_then ?_
    refine t_seq ?_
    refine t_cond_dec rfl (fun hc2 => ?_) (fun hc2 => ?_)
    ·
      refine t_skip ?_
      refine i_then ?_
      refine t_seq ?_
      refine t_block ?_
      refine t_seq ?_
      refine t_region ?_
      refine r_index_slN rfl rfl rfl rfl rfl rfl (by omega) ?_
      refine r_load_pp rfl rfl rfl rfl ?_
      refine asS rfl ?_
      refine r_nil ?_
      refine i_then ?_
      refine t_seq ?_
      refine t_seq ?_
      obtain ⟨s0, hs0, hR0⟩ := ring_row hr (m := m.1) (by omega)
      have htwo := hR0.two
      have hrl := hR0.len
      refine t_region ?_
      refine mvS rfl ?_
      refine r_len rfl rfl rfl ?_
      refine r_bin rfl rfl rfl ?_
      refine r_nil ?_
      refine i_then ?_
      refine t_cond_ff rfl (decide_eq_false (by omega)) ?_
      refine t_skip ?_
      refine i_then ?_
      refine t_seq ?_
      refine t_region ?_
      refine mvS rfl ?_
      refine r_len rfl rfl rfl ?_
      refine mvI rfl ?_
      refine r_nil ?_
      refine i_then ?_
      refine t_block ?_
      refine t_loop (fun (i : {i : Nat // i ≤ (nth (ringsL b) m.1).length}) => live [(3, Ty.pp (barnTys b)), (4, Ty.sl I64 (mustL b)), (8, Ty.row I64 3 124 (flatU b m.1 i.1)), (10, Ty.sl I64 (nth (ringsL b) m.1)), (43, Ty.sl RowE (ringsL b)), (44, Ty.int .i64 (ringsL b).length), (45, Ty.int .i64 (m.1 : Nat)), (52, Ty.sl I64 (nth (ringsL b) m.1)), (53, Ty.int .i64 (nth (ringsL b) m.1).length), (54, Ty.int .i64 (i.1 : Nat))] []) (fun i => (nth (ringsL b) m.1).length - i.1) (⟨0, by omega⟩) ?_ fun i => ?_
      · (refine Ent.mk' ?_ ?_ <;> (repeat' (first | exact allSub_zero | exact allTags_nil | refine allSub_succ' ?_ (Ty.sub_any _) | refine allSub_succ' ?_ (Ty.sub_refl _) | refine allSub_succ' ?_ ?_)))
        all_goals exact Ty.sub_row (flatU_zero b m.1).symm
      ·
        have hi := i.2
        refine t_seq ?_
        refine t_region ?_
        refine r_bin rfl rfl rfl ?_
        refine r_nil ?_
        refine i_then ?_
        refine t_seq ?_
        refine t_cond_dec rfl (fun hc4 => ?_) (fun hc4 => ?_)
        ·
          refine t_skip ?_
          refine i_then ?_
          refine t_seq ?_
          refine t_block ?_
          refine t_seq ?_
          refine t_region ?_
          refine mvI rfl ?_
          refine r_index_slN rfl rfl rfl rfl rfl rfl (by omega) ?_
          refine r_load_pp rfl rfl rfl rfl ?_
          refine asI rfl ?_
          refine asI rfl ?_
          refine r_nil ?_
          refine i_then ?_
          refine t_seq ?_
          have hrt := rlot hr (m := m.1) (i := i.1) (by omega) (by omega)
          have hri := hrt.is
          have hrn := hrt.nx
          have hfl := flatU_len hr (m := m.1) (i := i.1) (by omega) (by omega)
          refine t_region ?_
          refine mvS rfl ?_
          refine mvI rfl ?_
          refine r_add rfl rfl (by omega) (by omega) ?_
          refine mvS rfl ?_
          refine r_len rfl rfl rfl ?_
          refine r_remN (k := i.1) rfl rfl (by omega) ?_
          refine r_index_sl rfl rfl rfl rfl rfl rfl (by omega) (by have := Nat.mod_lt (i.1 + 1) (show 0 < (nth (ringsL b) m.1).length by omega); omega) ?_
          refine r_load_pp rfl rfl rfl rfl ?_
          refine asI rfl ?_
          refine r_nil ?_
          refine i_then ?_
          refine t_seq ?_
          refine t_seq ?_
          refine t_draw mixed rfl ?_
          refine mvI rfl ?_
          refine r_bin rfl rfl rfl ?_
          refine mvB rfl ?_
          apply r_guard (s := 69) rfl rfl rfl
          · intro hg; apply opT_of; (refine mvI rfl ?_); refine r_nil ?_; exact rfl
          · exact rfl
          · exact rfl
          apply r_guard (s := 69) rfl rfl rfl
          · intro hg; apply opT_of; (refine r_field_pp rfl rfl rfl rfl rfl (by decide) ?_); refine r_nil ?_; exact rfl
          · exact rfl
          · exact rfl
          apply r_guard (s := 69) rfl rfl rfl
          · intro hg; apply opT_strip (s := 71) rfl (by (rw [hg]; rfl)); apply opT_of; (refine r_load_pp rfl rfl rfl rfl ?_); refine r_nil ?_; exact rfl
          · exact rfl
          · exact rfl
          apply r_guard (s := 69) rfl rfl rfl
          · intro hg; apply opT_strip (s := 72) rfl (by (rw [hg]; rfl)); apply opT_of; (refine r_len rfl rfl rfl ?_); refine r_nil ?_; exact rfl
          · exact rfl
          · exact rfl
          apply r_guard (s := 69) rfl rfl rfl
          · intro hg; apply opT_strip (s := 70) rfl (by (rw [hg]; rfl)); apply opT_strip (s := 73) rfl (by (rw [hg]; rfl)); apply opT_of; (refine r_bin rfl rfl rfl ?_); refine r_nil ?_; exact rfl
          · exact rfl
          · exact rfl
          refine r_or rfl rfl ?_
          refine mvB rfl ?_
          apply r_guard (s := 76) rfl rfl rfl
          · intro hg; apply opT_of; (refine mvI rfl ?_); refine r_nil ?_; exact rfl
          · exact rfl
          · exact rfl
          apply r_guard (s := 76) rfl rfl rfl
          · intro hg; apply opT_strip (s := 77) rfl (by (rw [hg]; rfl)); apply opT_of; (refine r_bin rfl rfl rfl ?_); refine r_nil ?_; exact rfl
          · exact rfl
          · exact rfl
          refine r_or rfl rfl ?_
          refine mvB rfl ?_
          apply r_guard (s := 80) rfl rfl rfl
          · intro hg; apply opT_of; (refine mvI rfl ?_); refine r_nil ?_; exact rfl
          · exact rfl
          · exact rfl
          apply r_guard (s := 80) rfl rfl rfl
          · intro hg; apply opT_of; (refine r_field_pp rfl rfl rfl rfl rfl (by decide) ?_); refine r_nil ?_; exact rfl
          · exact rfl
          · exact rfl
          apply r_guard (s := 80) rfl rfl rfl
          · intro hg; apply opT_strip (s := 82) rfl (by (rw [hg]; rfl)); apply opT_of; (refine r_load_pp rfl rfl rfl rfl ?_); refine r_nil ?_; exact rfl
          · exact rfl
          · exact rfl
          apply r_guard (s := 80) rfl rfl rfl
          · intro hg; apply opT_strip (s := 83) rfl (by (rw [hg]; rfl)); apply opT_of; (refine r_len rfl rfl rfl ?_); refine r_nil ?_; exact rfl
          · exact rfl
          · exact rfl
          apply r_guard (s := 80) rfl rfl rfl
          · intro hg; apply opT_strip (s := 81) rfl (by (rw [hg]; rfl)); apply opT_strip (s := 84) rfl (by (rw [hg]; rfl)); apply opT_of; (refine r_bin rfl rfl rfl ?_); refine r_nil ?_; exact rfl
          · exact rfl
          · exact rfl
          refine r_or rfl rfl ?_
          refine mvB rfl ?_
          apply r_guard (s := 87) rfl rfl rfl
          · intro hg; apply opT_of; (refine r_field_pp rfl rfl rfl rfl rfl (by decide) ?_); refine r_nil ?_; exact rfl
          · exact rfl
          · exact rfl
          apply r_guard (s := 87) rfl rfl rfl
          · intro hg; apply opT_strip (s := 88) rfl (by (rw [hg]; rfl)); apply opT_of; (refine r_load_pp rfl rfl rfl rfl ?_); refine r_nil ?_; exact rfl
          · exact rfl
          · exact rfl
          apply r_guard (s := 87) rfl rfl rfl
          · intro hg; apply opT_of; (refine mvI rfl ?_); refine r_nil ?_; exact rfl
          · exact rfl
          · exact rfl
          apply r_guard (s := 87) rfl rfl rfl
          · intro hg; apply opT_strip (s := 89) rfl (by (rw [hg]; rfl)); apply opT_strip (s := 90) rfl (by (rw [hg]; rfl)); apply opT_of; (refine r_index_sl rfl rfl rfl rfl rfl rfl (by omega) (by omega) ?_); refine r_nil ?_; exact rfl
          · exact rfl
          · exact rfl
          apply r_guard (s := 87) rfl rfl rfl
          · intro hg; apply opT_strip (s := 91) rfl (by (rw [hg]; rfl)); apply opT_of; (refine r_field_pp rfl rfl rfl rfl rfl (by decide) ?_); refine r_nil ?_; exact rfl
          · exact rfl
          · exact rfl
          apply r_guard (s := 87) rfl rfl rfl
          · intro hg; apply opT_strip (s := 92) rfl (by (rw [hg]; rfl)); apply opT_of; (refine r_load_pp rfl rfl rfl rfl ?_); refine r_nil ?_; exact rfl
          · exact rfl
          · exact rfl
          apply r_guard (s := 87) rfl rfl rfl
          · intro hg; apply opT_of; (refine r_field_pp rfl rfl rfl rfl rfl (by decide) ?_); refine r_nil ?_; exact rfl
          · exact rfl
          · exact rfl
          apply r_guard (s := 87) rfl rfl rfl
          · intro hg; apply opT_strip (s := 94) rfl (by (rw [hg]; rfl)); apply opT_of; (refine r_load_pp rfl rfl rfl rfl ?_); refine r_nil ?_; exact rfl
          · exact rfl
          · exact rfl
          apply r_guard (s := 87) rfl rfl rfl
          · intro hg; apply opT_of; (refine mvI rfl ?_); refine r_nil ?_; exact rfl
          · exact rfl
          · exact rfl
          apply r_guard (s := 87) rfl rfl rfl
          · intro hg; apply opT_strip (s := 95) rfl (by (rw [hg]; rfl)); apply opT_strip (s := 96) rfl (by (rw [hg]; rfl)); apply opT_of; (refine r_index_sl rfl rfl rfl rfl rfl rfl hrn.1 (int_lt hrn) ?_); refine r_nil ?_; exact rfl
          · exact rfl
          · exact rfl
          apply r_guard (s := 87) rfl rfl rfl
          · intro hg; apply opT_strip (s := 97) rfl (by (rw [hg]; rfl)); apply opT_of; (refine r_field_pp rfl rfl rfl rfl rfl (by decide) ?_); refine r_nil ?_; exact rfl
          · exact rfl
          · exact rfl
          apply r_guard (s := 87) rfl rfl rfl
          · intro hg; apply opT_strip (s := 98) rfl (by (rw [hg]; rfl)); apply opT_of; (refine r_load_pp rfl rfl rfl rfl ?_); refine r_nil ?_; exact rfl
          · exact rfl
          · exact rfl
          apply r_guard (s := 87) rfl rfl rfl
          · intro hg; apply opT_strip (s := 93) rfl (by (rw [hg]; rfl)); apply opT_strip (s := 99) rfl (by (rw [hg]; rfl)); apply opT_of; (refine r_bin rfl rfl rfl ?_); refine r_nil ?_; exact rfl
          · exact rfl
          · exact rfl
          refine r_or rfl rfl ?_
          refine mvB rfl ?_
          apply r_guard (s := 102) rfl rfl rfl
          · intro hg; apply opT_of; (refine mvI rfl ?_); refine r_nil ?_; exact rfl
          · exact rfl
          · exact rfl
          apply r_guard (s := 102) rfl rfl rfl
          · intro hg; apply opT_of; (refine mvS rfl ?_); refine r_nil ?_; exact rfl
          · exact rfl
          · exact rfl
          apply r_guard (s := 102) rfl rfl rfl
          · intro hg; apply opT_strip (s := 104) rfl (by (rw [hg]; rfl)); apply opT_of; (refine r_index_sl rfl rfl rfl rfl rfl rfl (by omega) (by omega) ?_); refine r_nil ?_; exact rfl
          · exact rfl
          · exact rfl
          apply r_guard (s := 102) rfl rfl rfl
          · intro hg; apply opT_strip (s := 105) rfl (by (rw [hg]; rfl)); apply opT_of; (refine r_load_pp rfl rfl rfl rfl ?_); refine r_nil ?_; exact rfl
          · exact rfl
          · exact rfl
          apply r_guard (s := 102) rfl rfl rfl
          · intro hg; apply opT_strip (s := 103) rfl (by (rw [hg]; rfl)); apply opT_strip (s := 106) rfl (by (rw [hg]; rfl)); apply opT_of; (refine r_bin rfl rfl rfl ?_); refine r_nil ?_; exact rfl
          · exact rfl
          · exact rfl
          refine r_or rfl rfl ?_
          refine mvB rfl ?_
          apply r_guard (s := 109) rfl rfl rfl
          · intro hg; apply opT_of; (refine mvS rfl ?_); refine r_nil ?_; exact rfl
          · exact rfl
          · exact rfl
          apply r_guard (s := 109) rfl rfl rfl
          · intro hg; apply opT_of; (refine mvI rfl ?_); refine r_nil ?_; exact rfl
          · exact rfl
          · exact rfl
          apply r_guard (s := 109) rfl rfl rfl
          · intro hg; apply opT_strip (s := 110) rfl (by (rw [hg]; rfl)); apply opT_strip (s := 111) rfl (by (rw [hg]; rfl)); apply opT_of; (refine r_call (c_Contains_int (mustL b) (nth (nth (ringsL b) m.1) i.1)) rfl rfl rfl rfl rfl ?_); refine r_nil ?_; exact rfl
          · exact rfl
          · exact rfl
          apply r_guard (s := 109) rfl rfl rfl
          · intro hg; apply opT_strip (s := 112) rfl (by (rw [hg]; rfl)); apply opT_of; (refine r_not rfl ?_); refine r_nil ?_; exact rfl
          · exact rfl
          · exact rfl
          refine r_or rfl rfl ?_
          refine mvB rfl ?_
          apply r_guard (s := 115) rfl rfl rfl
          · intro hg; apply opT_of; (refine mvR rfl ?_); refine r_nil ?_; exact rfl
          · exact rfl
          · exact rfl
          apply r_guard (s := 115) rfl rfl rfl
          · intro hg; apply opT_of; (refine mvI rfl ?_); refine r_nil ?_; exact rfl
          · exact rfl
          · exact rfl
          apply r_guard (s := 115) rfl rfl rfl
          · intro hg; apply opT_strip (s := 116) rfl (by (rw [hg]; rfl)); apply opT_strip (s := 117) rfl (by (rw [hg]; rfl)); apply opT_of; (refine r_callL [124] (c_Contains_int (flatU b m.1 i.1) (nth (nth (ringsL b) m.1) i.1)) rfl (by repeat (first | exact lends_nil | refine lends_cons (lend_pub rfl rfl) ?_ | refine lends_cons (lend_row rfl) ?_)) (by exact plain_bool _) ?_); refine r_nil ?_; exact rfl
          · exact rfl
          · exact rfl
          refine r_or rfl rfl ?_
          refine r_nil ?_
          refine ⟨by kernel_rfl, ?_⟩
          refine i_then ?_
          refine t_cond_ff rfl (lrg4 hr (by omega) (by omega)) ?_
          refine t_skip ?_
          refine i_then ?_
          refine t_region ?_
          refine mvR rfl ?_
          refine mvI rfl ?_
          refine r_buildSlice (E := I64) (xs := [nth (nth (ringsL b) m.1) i.1]) rfl rfl rfl rfl rfl (by decide) (by decide) (by repeat (first | exact (Parts.nil : Parts _ _ [] _) | (show Parts _ _ ((_, _) :: _) _; apply Parts.one; (· exact (rfl : _ = Ty.int _ _)); (· exact rfl)))) (by exact rfl) rfl ?_
          refine r_append rfl rfl (by decide) rfl rfl rfl rfl rfl rfl (by decide) (by (simp <;> omega)) (by (simp <;> omega)) ?_
          refine asR rfl ?_
          refine r_nil ?_
          refine i_block ?_
          refine i_then ?_
          refine t_region ?_
          refine r_add rfl rfl (by omega) (by omega) ?_
          refine mvI rfl ?_
          refine r_nil ?_
          refine i_round (⟨i.1 + 1, by omega⟩) ?_ (by show (nth (ringsL b) m.1).length - (i.1 + 1) < (nth (ringsL b) m.1).length - i.1; omega)
          (refine Ent.mk' ?_ ?_ <;> (repeat' (first | exact allSub_zero | exact allTags_nil | refine allSub_succ' ?_ (Ty.sub_any _) | refine allSub_succ' ?_ (Ty.sub_refl _) | refine allSub_succ' ?_ ?_)))
          all_goals skip
          all_goals exact Ty.sub_row (flatU_succ (by omega))
        ·
          refine t_exit ?_
          refine i_then_exit ?_
          refine i_then_exit ?_
          refine i_block_exit rfl ?_
          refine i_block ?_
          refine i_then ?_
          refine t_region ?_
          refine r_add rfl rfl (by omega) (by omega) ?_
          refine mvI rfl ?_
          refine r_nil ?_
          refine i_round (⟨m.1 + 1, by omega⟩) ?_ (by show (ringsL b).length - (m.1 + 1) < (ringsL b).length - m.1; omega)
          (refine Ent.mk' ?_ ?_ <;> (repeat' (first | exact allSub_zero | exact allTags_nil | refine allSub_succ' ?_ (Ty.sub_any _) | refine allSub_succ' ?_ (Ty.sub_refl _) | refine allSub_succ' ?_ ?_)))
          all_goals skip
          all_goals exact Ty.sub_row (flatU_all (by omega) (by omega))
    ·
      refine t_exit ?_
      refine i_then_exit ?_
      refine i_then_exit ?_
      refine i_block_exit rfl ?_
      refine i_then ?_
      refine t_seq ?_
      refine t_seq ?_
      refine t_region ?_
      refine r_field_pp rfl rfl rfl rfl rfl (by decide) ?_
      refine r_load_pp rfl rfl rfl rfl ?_
      refine r_len rfl rfl rfl ?_
      refine mvI rfl ?_
      refine r_nil ?_
      refine i_then ?_
      refine t_block ?_
      refine t_loop (fun (k : {k : Nat // k ≤ b.lots.length}) => live [(3, Ty.pp (barnTys b)), (4, Ty.sl I64 (mustL b)), (8, Ty.row I64 3 124 (ringsL b).flatten), (127, Ty.sl LotE b.lots), (128, Ty.int .i64 b.lots.length), (129, Ty.int .i64 (k.1 : Nat))] []) (fun k => b.lots.length - k.1) (⟨0, by omega⟩) ?_ fun k => ?_
      · (refine Ent.mk' ?_ ?_ <;> (repeat' (first | exact allSub_zero | exact allTags_nil | refine allSub_succ' ?_ (Ty.sub_any _) | refine allSub_succ' ?_ (Ty.sub_refl _) | refine allSub_succ' ?_ ?_)))
        all_goals exact Ty.sub_row (by rw [show m.1 = (ringsL b).length by have := m.2; omega, List.take_length])
      ·
        have hk := k.2
        refine t_seq ?_
        refine t_region ?_
        refine r_bin rfl rfl rfl ?_
        refine r_nil ?_
        refine i_then ?_
        refine t_seq ?_
        refine t_cond_dec rfl (fun hc6 => ?_) (fun hc6 => ?_)
        ·
          refine t_skip ?_
          refine i_then ?_
          refine t_seq ?_
          refine t_block ?_
          refine t_seq ?_
          refine t_region ?_
          refine mvI rfl ?_
          refine r_index_slN rfl rfl rfl rfl rfl rfl (by omega) ?_
          refine r_load_ppN rfl rfl rfl (by exact Nat.le_of_ble_eq_true rfl) ?_
          refine r_alloc rfl (by exact List.cons_ne_nil _ _) rfl ?_
          refine asI rfl ?_
          refine r_storeN rfl rfl (by decide) rfl rfl rfl rfl rfl rfl ?_
          refine r_nil ?_
          refine i_then ?_
          refine t_seq ?_
          refine t_pub (tg := 16) [(15, Ty.pp (LotE.tys (nth b.lots k.1)))] (by decide) rfl ⟨pub_ptr (T := 57) (tg := 16) (off := 0) (l := LotE.tys (nth b.lots k.1)) rfl rfl rfl (by decide), trivial⟩ ?_
          refine t_region ?_
          refine r_field_pp rfl rfl rfl rfl rfl (by decide) ?_
          refine r_load_pp rfl rfl rfl rfl ?_
          refine r_makeFunc rfl ?_
          refine r_call (c_ContainsFunc_lot b.lots (Ty.clo 63 [Ty.pp (LotE.tys (nth b.lots k.1))]) rfl (fun x => decide (x.aim = (nth b.lots k.1).inn)) rfl rfl fun x _ => cal_clo (c_ringed1 _ x) rfl rfl rfl rfl rfl rfl) rfl rfl rfl rfl rfl ?_
          refine asB rfl ?_
          refine r_nil ?_
          refine i_then ?_
          refine t_seq ?_
          refine t_seq ?_
          refine t_draw mixed rfl ?_
          refine mvS rfl ?_
          refine mvI rfl ?_
          refine r_call (c_Contains_int (mustL b) (k.1 : Nat)) rfl rfl rfl rfl rfl ?_
          refine r_field_pp rfl rfl rfl rfl rfl (by decide) ?_
          refine r_load_pp rfl rfl rfl rfl ?_
          refine r_field_pp rfl rfl rfl rfl rfl (by decide) ?_
          refine r_load_pp rfl rfl rfl rfl ?_
          refine r_bin rfl rfl rfl ?_
          refine mvB rfl ?_
          apply r_guard (s := 146) rfl rfl rfl
          · intro hg; apply opT_of; (refine r_field_pp rfl rfl rfl rfl rfl (by decide) ?_); refine r_nil ?_; exact rfl
          · exact rfl
          · exact rfl
          apply r_guard (s := 146) rfl rfl rfl
          · intro hg; apply opT_strip (s := 147) rfl (by (rw [hg]; rfl)); apply opT_of; (refine r_load_pp rfl rfl rfl rfl ?_); refine r_nil ?_; exact rfl
          · exact rfl
          · exact rfl
          apply r_guard (s := 146) rfl rfl rfl
          · intro hg; apply opT_strip (s := 148) rfl (by (rw [hg]; rfl)); apply opT_of; (refine r_bin rfl rfl rfl ?_); refine r_nil ?_; exact rfl
          · exact rfl
          · exact rfl
          apply r_guard (s := 146) rfl rfl rfl
          · intro hg; apply opT_strip (s := 149) rfl (by (rw [hg]; rfl)); apply opT_of; (refine mvB rfl ?_); refine r_nil ?_; exact rfl
          · exact rfl
          · exact rfl
          apply r_guardG (s := 150) rfl rfl rfl
          · intro hg1 hg2; apply opT_of; (refine mvB rfl ?_); refine r_nil ?_; exact rfl
          · exact rfl
          · exact rfl
          apply r_guard (s := 146) rfl rfl rfl
          · intro hg; apply opT_strip (s := 150) rfl (by (rw [hg]; rfl)); apply opT_stripG (s := 151) rfl (by (rw [hg]; rfl)); apply opT_of; (refine r_or rfl rfl ?_); refine r_nil ?_; exact rfl
          · exact rfl
          · exact rfl
          refine r_and rfl rfl ?_
          refine r_neq_B und4' rfl rfl ?_
          refine r_nil ?_
          refine ⟨by kernel_rfl, ?_⟩
          refine i_then ?_
          refine t_cond_ff rfl (lrg6 hr (by omega)) ?_
          refine t_skip ?_
          refine i_then ?_
          refine t_seq ?_
          refine t_region ?_
          refine mvI rfl ?_
          refine r_alloc rfl (by exact List.cons_ne_nil _ _) rfl ?_
          refine r_store1 rfl rfl (by decide) rfl rfl (by exact (rfl : _ = Ty.int _ _)) rfl (by exact Nat.le_of_ble_eq_true rfl) rfl rfl (by exact (rfl : _ = [_])) ?_
          refine asB rfl ?_
          refine r_nil ?_
          refine i_then ?_
          refine t_seq ?_
          refine t_seq ?_
          refine t_region ?_
          refine r_field_pp rfl rfl rfl rfl rfl (by decide) ?_
          refine r_load_pp rfl rfl rfl rfl ?_
          refine r_len rfl rfl rfl ?_
          refine mvI rfl ?_
          refine r_nil ?_
          refine i_then ?_
          refine t_block ?_
          refine t_loop (fun (x : {x : Nat × Int × Bool // BkIx b k.1 x.1 x.2.1 x.2.2}) => live [(3, Ty.pp (barnTys b)), (4, Ty.sl I64 (mustL b)), (8, Ty.row I64 3 124 (ringsL b).flatten), (14, Ty.int .i64 (k.1 : Nat)), (15, Ty.pp (LotE.tys (nth b.lots k.1))), (17, Ty.ptr 18 0), (18, Ty.bool x.1.2.2), (127, Ty.sl LotE b.lots), (128, Ty.int .i64 b.lots.length), (129, Ty.int .i64 (k.1 : Nat)), (158, Ty.int .i64 b.lots.length), (159, Ty.int .i64 (x.1.1 : Nat))] [(18, Cont.cells 3 [Ty.int .i64 x.1.2.1])]) (fun x => b.lots.length - x.1.1) (⟨(0, (k.1 : Nat), false), bkix0 b k.1⟩) ?_ fun x => ?_
          · (refine Ent.mk' ?_ ?_ <;> (repeat' (first | exact allSub_zero | exact allTags_nil | refine allSub_succ' ?_ (Ty.sub_any _) | refine allSub_succ' ?_ (Ty.sub_refl _) | refine allTags_cons rfl (Cont.sub_refl _) ?_)))
          ·
            have hxr := x.2.rng (by omega)
            have hxl := x.2.le
            refine t_seq ?_
            refine t_region ?_
            refine r_bin rfl rfl rfl ?_
            refine r_nil ?_
            refine i_then ?_
            refine t_seq ?_
            refine t_cond_dec rfl (fun hc8 => ?_) (fun hc8 => ?_)
            ·
              refine t_skip ?_
              refine i_then ?_
              refine t_seq ?_
              refine t_block ?_
              refine t_seq ?_
              refine t_region ?_
              refine r_field_pp rfl rfl rfl rfl rfl (by decide) ?_
              refine r_load_pp rfl rfl rfl rfl ?_
              refine r_makeFunc rfl ?_
              refine r_callLC [18] (c_IndexL b x.1.2.1 hxr) rfl (lendcs_cons (lendc_of (lend_pub rfl rfl)) (lendcs_cons (lendc_clo (lendcs_cons (lendc_ptr rfl (by decide) rfl rfl rfl) (lendcs_cons (lendc_of (lend_pub rfl rfl)) lendcs_nil))) lendcs_nil)) (by exact plain_int _ _) ?_
              refine r_store1 rfl rfl (by decide) rfl rfl (by exact (rfl : _ = Ty.int _ _)) rfl (by exact Nat.le_of_ble_eq_true rfl) rfl rfl (by exact (rfl : _ = [_])) ?_
              refine r_nil ?_
              refine i_then ?_
              refine t_seq ?_
              refine t_region ?_
              refine mvB rfl ?_
              refine mvB rfl ?_
              apply r_guard (s := 166) rfl rfl rfl
              · intro hg; apply opT_of; (refine r_load_ptr rfl rfl (by decide) rfl rfl rfl ?_); refine r_nil ?_; exact rfl
              · exact rfl
              · exact rfl
              apply r_guard (s := 166) rfl rfl rfl
              · intro hg; apply opT_of; (refine mvI rfl ?_); refine r_nil ?_; exact rfl
              · exact rfl
              · exact rfl
              apply r_guard (s := 166) rfl rfl rfl
              · intro hg; apply opT_strip (s := 167) rfl (by (rw [hg]; rfl)); apply opT_strip (s := 168) rfl (by (rw [hg]; rfl)); apply opT_of; (refine r_bin rfl rfl rfl ?_); refine r_nil ?_; exact rfl
              · exact rfl
              · exact rfl
              refine r_or rfl rfl ?_
              refine asB rfl ?_
              refine r_nil ?_
              refine i_then ?_
              refine t_seq ?_
              refine t_region ?_
              refine r_load_ptr rfl rfl (by decide) rfl rfl rfl ?_
              refine r_bin rfl rfl rfl ?_
              refine r_nil ?_
              refine i_then ?_
              refine t_cond_dec rfl (fun hc9 => ?_) (fun hc9 => ?_)
              ·
                refine t_exit ?_
                refine i_block_exit' rfl ?_
                refine i_then_exit ?_
                refine i_then_exit ?_
                refine i_block_exit rfl ?_
                refine i_then ?_
                refine t_seq ?_
                refine t_region ?_
                refine mvR rfl ?_
                refine mvI rfl ?_
                refine r_callL [124] (c_Contains_int (ringsL b).flatten (k.1 : Nat)) rfl (by repeat (first | exact lends_nil | refine lends_cons (lend_pub rfl rfl) ?_ | refine lends_cons (lend_row rfl) ?_)) (by exact plain_bool _) ?_
                refine mvB rfl ?_
                refine mvB rfl ?_
                apply r_guard (s := 178) rfl rfl rfl
                · intro hg; apply opT_of; (refine r_field_pp rfl rfl rfl rfl rfl (by decide) ?_); refine r_nil ?_; exact rfl
                · exact rfl
                · exact rfl
                apply r_guard (s := 178) rfl rfl rfl
                · intro hg; apply opT_strip (s := 179) rfl (by (rw [hg]; rfl)); apply opT_of; (refine r_load_pp rfl rfl rfl rfl ?_); refine r_nil ?_; exact rfl
                · exact rfl
                · exact rfl
                apply r_guard (s := 178) rfl rfl rfl
                · intro hg; apply opT_of; (refine r_field_pp rfl rfl rfl rfl rfl (by decide) ?_); refine r_nil ?_; exact rfl
                · exact rfl
                · exact rfl
                apply r_guard (s := 178) rfl rfl rfl
                · intro hg; apply opT_strip (s := 181) rfl (by (rw [hg]; rfl)); apply opT_of; (refine r_load_pp rfl rfl rfl rfl ?_); refine r_nil ?_; exact rfl
                · exact rfl
                · exact rfl
                apply r_guard (s := 178) rfl rfl rfl
                · intro hg; apply opT_strip (s := 180) rfl (by (rw [hg]; rfl)); apply opT_strip (s := 182) rfl (by (rw [hg]; rfl)); apply opT_of; (refine r_bin rfl rfl rfl ?_); refine r_nil ?_; exact rfl
                · exact rfl
                · exact rfl
                refine r_and rfl rfl ?_
                refine r_neq_B und4' rfl rfl ?_
                refine r_nil ?_
                refine i_then ?_
                refine t_cond_ff rfl (lrg9 hr (by omega) (x.2.stop hc9)) ?_
                refine t_skip ?_
                refine i_block ?_
                refine i_then ?_
                refine t_region ?_
                refine r_add rfl rfl (by omega) (by omega) ?_
                refine mvI rfl ?_
                refine r_nil ?_
                refine i_round (⟨k.1 + 1, by omega⟩) ?_ (by show b.lots.length - (k.1 + 1) < b.lots.length - k.1; omega)
                (refine Ent.mk' ?_ ?_ <;> (repeat' (first | exact allSub_zero | exact allTags_nil | refine allSub_succ' ?_ (Ty.sub_any _) | refine allSub_succ' ?_ (Ty.sub_refl _))))
                all_goals skip
              ·
                refine t_skip ?_
                refine i_block ?_
                refine i_then ?_
                refine t_region ?_
                refine r_add rfl rfl (by omega) (by omega) ?_
                refine mvI rfl ?_
                refine r_nil ?_
                refine i_round (⟨(x.1.1 + 1, follows b x.1.2.1, x.1.2.2 || decide (follows b x.1.2.1 = (k.1 : Nat))), x.2.next (by omega) hc9⟩) ?_ (by show b.lots.length - (x.1.1 + 1) < b.lots.length - x.1.1; omega)
                (refine Ent.mk' ?_ ?_ <;> (repeat' (first | exact allSub_zero | exact allTags_nil | refine allSub_succ' ?_ (Ty.sub_any _) | refine allSub_succ' ?_ (Ty.sub_refl _) | refine allTags_cons rfl (Cont.sub_refl _) ?_)))
                all_goals skip
            ·
              refine t_exit ?_
              refine i_then_exit ?_
              refine i_then_exit ?_
              refine i_block_exit rfl ?_
              refine i_then ?_
              refine t_seq ?_
              refine t_region ?_
              refine mvR rfl ?_
              refine mvI rfl ?_
              refine r_callL [124] (c_Contains_int (ringsL b).flatten (k.1 : Nat)) rfl (by repeat (first | exact lends_nil | refine lends_cons (lend_pub rfl rfl) ?_ | refine lends_cons (lend_row rfl) ?_)) (by exact plain_bool _) ?_
              refine mvB rfl ?_
              refine mvB rfl ?_
              apply r_guard (s := 178) rfl rfl rfl
              · intro hg; apply opT_of; (refine r_field_pp rfl rfl rfl rfl rfl (by decide) ?_); refine r_nil ?_; exact rfl
              · exact rfl
              · exact rfl
              apply r_guard (s := 178) rfl rfl rfl
              · intro hg; apply opT_strip (s := 179) rfl (by (rw [hg]; rfl)); apply opT_of; (refine r_load_pp rfl rfl rfl rfl ?_); refine r_nil ?_; exact rfl
              · exact rfl
              · exact rfl
              apply r_guard (s := 178) rfl rfl rfl
              · intro hg; apply opT_of; (refine r_field_pp rfl rfl rfl rfl rfl (by decide) ?_); refine r_nil ?_; exact rfl
              · exact rfl
              · exact rfl
              apply r_guard (s := 178) rfl rfl rfl
              · intro hg; apply opT_strip (s := 181) rfl (by (rw [hg]; rfl)); apply opT_of; (refine r_load_pp rfl rfl rfl rfl ?_); refine r_nil ?_; exact rfl
              · exact rfl
              · exact rfl
              apply r_guard (s := 178) rfl rfl rfl
              · intro hg; apply opT_strip (s := 180) rfl (by (rw [hg]; rfl)); apply opT_strip (s := 182) rfl (by (rw [hg]; rfl)); apply opT_of; (refine r_bin rfl rfl rfl ?_); refine r_nil ?_; exact rfl
              · exact rfl
              · exact rfl
              refine r_and rfl rfl ?_
              refine r_neq_B und4' rfl rfl ?_
              refine r_nil ?_
              refine i_then ?_
              refine t_cond_ff rfl (lrg9 hr (by omega) (x.2.all hr (by omega) (by omega))) ?_
              refine t_skip ?_
              refine i_block ?_
              refine i_then ?_
              refine t_region ?_
              refine r_add rfl rfl (by omega) (by omega) ?_
              refine mvI rfl ?_
              refine r_nil ?_
              refine i_round (⟨k.1 + 1, by omega⟩) ?_ (by show b.lots.length - (k.1 + 1) < b.lots.length - k.1; omega)
              (refine Ent.mk' ?_ ?_ <;> (repeat' (first | exact allSub_zero | exact allTags_nil | refine allSub_succ' ?_ (Ty.sub_any _) | refine allSub_succ' ?_ (Ty.sub_refl _))))
              all_goals skip
        ·
          refine t_exit ?_
          refine i_then_exit ?_
          refine i_then_exit ?_
          refine i_block_exit rfl ?_
          refine i_then ?_
          refine t_seq ?_
          refine t_region ?_
          refine r_call (c_awake) rfl rfl rfl rfl rfl ?_
          refine asB rfl ?_
          refine r_nil ?_
          refine i_then ?_
          refine t_ret ?_
          refine i_rp1 rfl rfl ?_
          all_goals exact ret_refl rfl rfl
end Go.Proofs.Ytpnndljmhpepgaa

namespace Go.T
open Go Go.RowKit Go.ChangeShapes Go.WideShapes Go.ChangeAt
def pubs : Tags := fun _ => none
theorem wf_pubs (w : World) : Wf w pubs := ⟨fun _ _ h => (by cases h), fun _ _ _ _ h => (by cases h)⟩
theorem pubs_zero : ∀ b t, pubs b = some t → t = 0 := fun _ _ h => by cases h
structure Rd {α : Type} (P : Program) (e : TypeId) (E : El α) : Prop where
  size : P.cellsOf e = E.size
  pos : 0 < E.size
  rd : ∀ {H : Type} {enc : TypeId × Value → H} {w : World} {base : Nat} {held : Bool} {n : Nat} {cs : List Value} {y : DataW H × List MemPlace}, DataW.trod enc P w base (fun _ => true) held n e cs = some y → ∃ x, dens w pubs (E.tys x) cs
section
variable {H : Type} {enc : TypeId × Value → H} {P : Program} {w : World} {base : Nat} {held : Bool} {α : Type} {E : El α} {t e : TypeId} {n : Nat} {cs : List Value} {y : DataW H × List MemPlace}
theorem rd_sl (hR : Rd P e E) (ht : P.underlying t = some (.slice e)) (h : DataW.trod enc P w base (fun _ => true) held n t cs = some y) : ∃ v xs, cs = [v] ∧ (Ty.sl E xs).den w pubs v := by
  rcases Go.Deep.open_slice ht h with ⟨rfl, _⟩ | ⟨a, len, cap, m, k, D, Pl, rfl, _, hl, hm, hmm, _, hel⟩
  · exact ⟨_, [], rfl, none, 0, rfl, Nat.le_refl _, Nat.zero_le _, fun h => absurd h (Nat.lt_irrefl _)⟩
  have hlm : len ≤ m := by rw [hmm]; simpa using hl
  have hX : ∀ i : Fin len, ∃ x : α, ∃ cs', w.cells? base (a.add (i.1 * P.cellsOf e)) (P.cellsOf e) = some cs' ∧ dens w pubs (E.tys x) cs' := fun i => by
    obtain ⟨cs', h1, h2⟩ := hel i.1 (Nat.lt_of_lt_of_le i.2 hlm)
    obtain ⟨x, hx⟩ := hR.rd h2
    exact ⟨x, cs', h1, hx⟩
  let X : Fin len → α := fun i => (hX i).choose
  have hXs : ∀ i : Fin len, ∃ cs', w.cells? base (a.add (i.1 * P.cellsOf e)) (P.cellsOf e) = some cs' ∧ dens w pubs (E.tys (X i)) cs' := fun i => (hX i).choose_spec
  have hlen : (List.ofFn X).length = len := by simp
  refine ⟨_, List.ofFn X, rfl, some a, cap, by rw [hlen], by rw [hlen]; exact hl, hm, fun h0 => ?_⟩
  rw [hlen] at h0
  have hcell : ∀ (i : Fin len) (j : Nat) (u : Ty), (E.tys (X i))[j]? = some u → ∃ v, w.cell? (a.add (i.1 * E.size + j)) = some v ∧ u.den w pubs v := fun i j u hu => by
    obtain ⟨cs', h1, h2⟩ := hXs i
    obtain ⟨v, hv, hd⟩ := dens_get h2 j u hu
    obtain ⟨_, g1, g2⟩ := World.cells?_some h1
    have hj : j < P.cellsOf e := by
      rw [hR.size, ← E.len (X i)]
      exact (List.getElem?_eq_some_iff.1 hu).1
    refine ⟨v, ?_, hd⟩
    have := g2 j hj
    rw [Go.Deep.add_add, hv, hR.size] at this
    exact this
  have hsz := hR.pos
  have hfirst : ∃ v, w.cell? (a.add 0) = some v := by
    obtain ⟨u, hu⟩ : ∃ u, (E.tys (X ⟨0, h0⟩))[0]? = some u := ⟨_, List.getElem?_eq_getElem (by rw [E.len]; exact hsz)⟩
    obtain ⟨v, hv, _⟩ := hcell ⟨0, h0⟩ 0 u hu
    exact ⟨v, by simpa using hv⟩
  obtain ⟨b, off, sp⟩ := a
  obtain ⟨v0, hv0⟩ := hfirst
  have hsp : sp = none := by simpa [Addr.add] using World.cell?_spot hv0
  subst hsp
  have hb : b < w.heap.size := by
    obtain ⟨cs', h1, _⟩ := hXs ⟨0, h0⟩
    have := World.cells?_block h1 (by rw [hR.size]; exact hsz)
    simpa [Addr.add] using this
  refine ⟨b, off, rfl, rfl, hb, fun i u hu => ?_⟩
  have hi : i < len * E.size := by
    have := (List.getElem?_eq_some_iff.1 hu).1
    rw [flat_len, hlen] at this; exact this
  have hk : i / E.size < len := Nat.div_lt_of_lt_mul (by rw [Nat.mul_comm]; exact hi)
  have hj : i % E.size < E.size := Nat.mod_lt _ hsz
  have hij : i / E.size * E.size + i % E.size = i := by rw [Nat.mul_comm]; exact Nat.div_add_mod i E.size
  have hu2 := hu
  rw [← hij, flat_get E _ _ _ (by rw [hlen]; exact hk) hj, List.getElem?_ofFn, dif_pos hk] at hu2
  obtain ⟨v, hv, hd⟩ := hcell ⟨i / E.size, hk⟩ (i % E.size) u hu2
  refine ⟨v, ?_, hd⟩
  rw [← Go.WideShapes.add_plain]
  rw [hij] at hv
  exact hv
theorem rd_sl1 {c : Value} (hR : Rd P e E) (ht : P.underlying t = some (.slice e)) (h : DataW.trod enc P w base (fun _ => true) held n t [c] = some y) : ∃ xs, (Ty.sl E xs).den w pubs c := by
  obtain ⟨v, xs, e, hd⟩ := rd_sl hR ht h
  exact ⟨xs, by rw [show c = v by simpa using e]; exact hd⟩
end
section
variable {w w' : World} {S K : Nat → Prop} {M' : Tags}
theorem le_block (le : Le S K w pubs w' M') {b : Nat} (hb : b < w.heap.size) : w'.heap[b]? = w.heap[b]? := (le.pub b hb rfl).2
theorem le_same (le : Le S K w pubs w' M') {p : MemPlace} (hp : p.block < w.heap.size) : w.sameAt w' p := by
  cases p with
  | cell b o => exact World.cell?_of_block (w := w) (le_block le hp)
  | map b => exact le_block le hp
theorem le_kept (le : Le S K w pubs w' M') (may : MemPlace → Prop) : w.keptBut w' may := by
  refine ⟨le.os, le.out, fun i hi => ?_⟩
  have e := le_block le hi
  rw [e]
  split
  · rename_i h1 h2
    rw [h1] at h2
    simp only [Option.some.injEq, Obj.cells.injEq] at h2
    obtain ⟨rfl, rfl, rfl⟩ := h2
    exact ⟨rfl, rfl, rfl, fun _ _ => rfl⟩
  · rename_i h1 h2
    rw [h1] at h2
    simp only [Option.some.injEq, Obj.map.injEq] at h2
    exact Or.inr ⟨h2.1.symm, h2.2.symm⟩
  · rfl
theorem le_frozen (le : Le S K w pubs w' M') {a : Addr} (ha : a.block < w.heap.size) : w'.frozen? a = w.frozen? a := by
  unfold World.frozen?
  rw [le_block le ha]
end
section
variable {H : Type} {enc : TypeId × Value → H} {P : Program}
theorem trodAll_stays (hl : laidOutB P = true) {w w' : World} {sp : Nat → Bool} : ∀ {ts : List TypeId} {vs : List Value} {ds : List (DataW H)} {ps : List MemPlace}, (∀ t ∈ ts, P.readableRec t = true ∧ t < P.types.size) →
    DataW.TrodAll enc P w 0 (fun _ => true) true ts vs ds ps → (∀ p ∈ ps, w.sameAt w' p) → (∀ p ∈ ps, sp p.block = true) → DataW.TrodAll enc P w' 0 sp true ts vs ds ps
  | [], [], [], _, _, h, _, _ => h
  | t :: ts, v :: vs, d :: ds, _, ht, ⟨p, q, h1, h2, e⟩, hs, hsp => by
    subst e
    have h0 := ht t List.mem_cons_self
    exact ⟨p, q, Go.WideElems.Trod_stays hl h0.1 h0.2 h1 (fun x hx => hs x (List.mem_append_left _ hx)) (fun x hx => hsp x (List.mem_append_left _ hx)),
      trodAll_stays hl (fun t h => ht t (List.mem_cons_of_mem _ h)) h2 (fun x hx => hs x (List.mem_append_right _ hx)) (fun x hx => hsp x (List.mem_append_right _ hx)), rfl⟩
theorem post_true {f : Func} {s : ChangeSpec} {apart fresh handsOn again : Bool} {W W' : World} {args : Array Value} {ds : List (DataW H)} {before : List MemPlace} {S K : Nat → Prop} {M' : Tags}
    (hl : laidOutB P = true) (hv : s.vars = []) (hrd : ∀ t ∈ f.params.toList, P.readableRec t = true ∧ t < P.types.size) {tb : TypeId} (htb : P.underlying tb = some .bool) (hrt : f.resultTypes = #[tb])
    (hW : DataW.Whole enc P f.params.toList s.vars apart W args.toList ds [] before) (hres : (s.fn H (ds ++ [])).results = [.lit (.bool true)]) (hargs : (s.fn H (ds ++ [])).args = ds) (hvars : (s.fn H (ds ++ [])).vars = [])
    (le : Le S K W pubs W' M') : s.post enc P f apart fresh handsOn again W args (.bool true) W' := by
  have hW0 := hW
  obtain ⟨p, q, hA, hV, hb, hfz, hn⟩ := hW0
  have hlt := DataW.TrodAll.lt hA
  have hq : q = [] := by rw [hv] at hV; exact (trodVars_none hV).2
  subst hq
  have hbp : before = p := by rw [hb]; simp
  have hre : ∀ (b : Nat) (sp : Nat → Bool) (hd : Bool), DataW.TrodAll enc P W' b sp hd f.resultTypes.toList ((Value.bool true).resultList f.resultTypes.size) (s.fn H (ds ++ [])).results [] := fun b sp hd => by
    rw [hrt, hres]; exact trodAll_mk1 (shut_bool htb true)
  have har : ∀ sp : Nat → Bool, (∀ x ∈ p, sp x.block = true) → DataW.TrodAll enc P W' 0 sp true f.params.toList args.toList (s.fn H (ds ++ [])).args p := fun sp hsp => by
    rw [hargs]; exact trodAll_stays hl hrd hA (fun x hx => le_same le (hlt x hx)) hsp
  have hva : ∀ sp : Nat → Bool, DataW.TrodVars enc P W' sp s.vars (s.fn H (ds ++ [])).vars [] := fun sp => by
    rw [hvars, hv]; exact rfl
  have hok : ∀ (j : Nat) (t : TypeId) (r : Value), f.resultTypes[j]? = some t → ((Value.bool true).resultList f.resultTypes.size)[j]? = some r → Value.okWide P W' .any 0 t r := by
    exact ok_one (by rw [hrt]) rfl (okWide_bool_mk htb true)
  refine ⟨ds, [], before, [], p, [], hW, hre _ _ _, har _ (fun x hx => by simpa using hlt x hx), hva _, World.keptBut_mono (fun x hx => hx) (le_kept le _), fun _ => ?_⟩
  refine ⟨hok, _, _, ([] ++ p) ++ [], ⟨[] ++ p, [], trodAll_append (har _ (fun _ _ => rfl)) (hre _ _ _), hva _, rfl, ?_, ?_⟩, ?_⟩
  · intro b off hp
    have hp' : MemPlace.cell b off ∈ p := by simpa using hp
    rw [le_frozen le (hlt _ hp')]
    exact hfz b off (by rw [hbp]; exact hp')
  · intro ha
    have := hn ha
    rw [hbp] at this
    simpa using this
  · intro x hx _
    rw [hbp]
    simpa using hx
end
end Go.T

namespace Go.Proofs.Ytpnndljmhpepgaa
open Go Go.T Go.RowKit Go.ChangeShapes Go.WideShapes Go.ChangeAt
theorem rdU8 : Rd Try.prog 5 U8 := ⟨by kernel_rfl, by decide, fun h => by
  obtain ⟨i, rfl, _⟩ := DataW.trod_int Try.underlying5 h
  exact ⟨i, rfl, trivial⟩⟩
section
variable {H : Type} {enc : TypeId × Value → H} {W : World} {base : Nat} {held : Bool} {v : Value} {d : DataW H} {p : List MemPlace}
set_option maxRecDepth 100000 in
theorem rd_bytes (hv : Value.okWide Try.prog W .any base 83 v) (h : DataW.Trod enc Try.prog W 0 (fun _ => true) held 83 v d p) : ∃ l, (Ty.sl U8 l).den W pubs v := by
  obtain ⟨a, len, cap, rfl⟩ := okWide_slice Try.underlying83 hv
  obtain ⟨n, hn⟩ := h
  exact rd_sl1 rdU8 Try.underlying83 (by simpa [Value.cells] using hn)
end
end Go.Proofs.Ytpnndljmhpepgaa
