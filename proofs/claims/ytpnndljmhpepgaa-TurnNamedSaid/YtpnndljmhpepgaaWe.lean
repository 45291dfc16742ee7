/- Lemmas: the program and the reference walked, plain laws. -/
import Derived.Test.YtpnndljmhpepgaaWd
namespace Go.Proofs.Ytpnndljmhpepgaa
open Go Go.T
theorem fidx_at {α : Type} [Inhabited α] {p : α → Bool} {l : List α} (h : 0 ≤ fidx p l) : (fidx p l).toNat < l.length ∧ p (nth l (fidx p l).toNat) = true := by
  unfold fidx at *
  cases e : l.findIdx? p with
  | none => rw [e] at h; exact absurd h (by decide)
  | some i =>
    obtain ⟨h1, h2, _⟩ := List.findIdx?_eq_some_iff_getElem.1 e
    show (Int.toNat (i : Int)) < _ ∧ p (nth l (Int.toNat (i : Int))) = true
    rw [Int.toNat_natCast, nth_lt h1]; exact ⟨h1, h2⟩
variable {b : Barn}
abbrev Barn.at (b : Barn) (i : Int) : Lot := nth b.lots i.toNat
def Barn.is (b : Barn) (i : Int) : Prop := 0 ≤ i ∧ i < b.lots.length
theorem fol_at {i : Int} (h : 0 ≤ follows b i) : b.is (follows b i) ∧ (b.at (follows b i)).inn = (b.at i).aim := by
  have h1 := fidx_at (p := fun l : Lot => decide (l.inn = (nth b.lots i.toNat).aim)) (l := b.lots) h
  have h2 := follows_range b i
  exact ⟨⟨h, h2.2⟩, of_decide_eq_true h1.2⟩
theorem at_inn (hr : b.Right) {i k : Int} (hi : b.is i) (hk : b.is k) (e : (b.at i).inn = (b.at k).inn) : i = k := by
  unfold Barn.is at hi hk
  rcases Nat.lt_trichotomy i.toNat k.toNat with h | h | h
  · exact absurd e.symm (hr.apart _ _ h (by omega)).1
  · omega
  · exact absurd e (hr.apart _ _ h (by omega)).1
theorem at_aim (hr : b.Right) {i k : Int} (hi : b.is i) (hk : b.is k) (e : (b.at i).aim = (b.at k).aim) (hn : (b.at i).aim ≠ -1) : i = k := by
  unfold Barn.is at hi hk
  rcases Nat.lt_trichotomy i.toNat k.toNat with h | h | h
  · exact absurd (e.trans ((hr.apart _ _ h (by omega)).2 e.symm)) hn
  · omega
  · exact absurd ((hr.apart _ _ h (by omega)).2 e) hn
theorem is_inn (hr : b.Right) {i : Int} (hi : b.is i) : 0 ≤ (b.at i).inn ∧ (b.at i).inn < b.sizes.length := hr.inn _ (nth_mem (by unfold Barn.is at hi; omega))
theorem fol_eq (hr : b.Right) {i y : Int} (hy : b.is y) (e : (b.at y).inn = (b.at i).aim) : follows b i = y := by
  have h : decide (0 ≤ follows b i) = true := by
    unfold follows
    rw [fidx_ge, List.any_eq_true]
    exact ⟨_, nth_mem (k := y.toNat) (by unfold Barn.is at hy; omega), decide_eq_true e⟩
  obtain ⟨h1, h2⟩ := fol_at (of_decide_eq_true h)
  exact at_inn hr h1 hy (h2.trans e.symm)
theorem fol_aim (hr : b.Right) {i : Int} (h : 0 ≤ follows b i) : (b.at i).aim ≠ -1 := by
  obtain ⟨h1, h2⟩ := fol_at h
  have := is_inn hr h1
  omega
theorem fol_inj (hr : b.Right) {i k : Int} (hi : b.is i) (hk : b.is k) (h : 0 ≤ follows b i) (e : follows b i = follows b k) : i = k := by
  have h1 := (fol_at h).2
  have h2 := (fol_at (i := k) (by rw [← e]; exact h)).2
  rw [← e] at h2
  exact at_aim hr hi hk (h1.symm.trans h2) (fol_aim hr h)
structure Ring (b : Barn) (i : Int) (l : List Int) : Prop where
  two : 2 ≤ l.length
  head : nth l 0 = i
  rng : ∀ x ∈ l, i ≤ x ∧ x < b.lots.length
  zero : 0 ≤ i
  fol : ∀ j, j + 1 < l.length → follows b (nth l j) = nth l (j + 1)
  last : follows b (nth l (l.length - 1)) = i
  nodup : l.Nodup
structure Path (b : Barn) (i : Int) (l : List Int) : Prop where
  pos : 1 ≤ l.length
  head : nth l 0 = i
  is : b.is i
  up : ∀ j, 1 ≤ j → j < l.length → i < nth l j ∧ nth l j < b.lots.length
  fol : ∀ j, j + 1 < l.length → follows b (nth l j) = nth l (j + 1)
theorem Path.at_ {i : Int} {l : List Int} (h : Path b i l) {j : Nat} (hj : j < l.length) : i ≤ nth l j ∧ b.is (nth l j) := by
  have h1 := h.is
  cases j with
  | zero => rw [h.head]; exact ⟨Int.le_refl _, h1⟩
  | succ j =>
    have := h.up (j + 1) (by omega) hj
    unfold Barn.is at *; omega
theorem path_nodup (hr : b.Right) {i : Int} {l : List Int} (h : Path b i l) : l.Nodup := by
  have key : ∀ j k, j < k → k < l.length → nth l j ≠ nth l k := by
    intro j
    induction j with
    | zero => intro k hk hl e; have := h.up k (by omega) hl; rw [h.head] at e; omega
    | succ j ih =>
      intro k hk hl e
      obtain ⟨k, rfl⟩ : ∃ m, k = m + 1 := ⟨k - 1, by omega⟩
      have h1 := h.fol j (by omega)
      have h2 := h.fol k hl
      have h3 := (h.at_ (j := j) (by omega)).2
      have h4 := (h.at_ (j := k) (by omega)).2
      have h5 := (h.at_ (j := j + 1) (by omega)).2
      exact ih k (by omega) (by omega) (fol_inj hr h3 h4 (by rw [h1]; exact h5.1) (by rw [h1, h2, e]))
  rw [List.nodup_iff_pairwise_ne, List.pairwise_iff_getElem]
  intro j k hj hk hjk
  rw [← nth_lt hj, ← nth_lt hk]; exact key j k hjk hk
theorem path_one {i : Int} (h : b.is i) : Path b i [i] := ⟨Nat.le_refl _, rfl, h, fun j h1 h2 => by simp at h2; omega, fun j h2 => by simp at h2⟩
theorem nth_snoc2 {l : List Int} {x : Int} {j : Nat} (hj : j < l.length + 1) : nth (l ++ [x]) j = if j = l.length then x else nth l j := by
  unfold nth
  by_cases e : j = l.length
  · subst e; rw [if_pos rfl, List.getD_eq_getElem?_getD, List.getElem?_append_right (by omega)]; simp
  · rw [if_neg e, List.getD_eq_getElem?_getD, List.getElem?_append_left (by omega), ← List.getD_eq_getElem?_getD]
theorem path_snoc {i : Int} {l : List Int} (h : Path b i l) (h1 : i < follows b (nth l (l.length - 1))) : Path b i (l ++ [follows b (nth l (l.length - 1))]) := by
  have hp := h.pos
  have hl : (l ++ [follows b (nth l (l.length - 1))]).length = l.length + 1 := by rw [List.length_append]; rfl
  refine ⟨by omega, by rw [nth_snoc2 (by omega), if_neg (by omega)]; exact h.head, h.is, fun j h2 h3 => ?_, fun j h2 => ?_⟩
  · rw [hl] at h3
    rw [nth_snoc2 h3]
    by_cases e : j = l.length
    · rw [if_pos e]; exact ⟨h1, (follows_range _ _).2⟩
    · rw [if_neg e]; exact h.up j h2 (by omega)
  · rw [hl] at h2
    rw [nth_snoc2 (by omega), nth_snoc2 h2, if_neg (by omega)]
    by_cases e : j + 1 = l.length
    · rw [if_pos e, show j = l.length - 1 by omega]
    · rw [if_neg e]; exact h.fol j (by omega)
theorem path_ring (hr : b.Right) {i : Int} {l : List Int} (h : Path b i l) (h1 : follows b (nth l (l.length - 1)) = i) (h2 : 1 < l.length) : Ring b i l :=
  ⟨h2, h.head, fun x hx => by
    obtain ⟨j, hj, rfl⟩ := mem_nth hx
    have := h.at_ hj
    exact ⟨this.1, this.2.2⟩, h.is.1, h.fol, h1, path_nodup hr h⟩
theorem go_ring (hr : b.Right) {i : Int} : ∀ (f : Nat) {l r : List Int}, Path b i l → ringGo b i f l = some r → Ring b i r
  | 0, l, r, _, h => by cases h
  | f + 1, l, r, hp, h => by
    have h : (if follows b (nth l (l.length - 1)) = i ∧ 1 < l.length then some l else if follows b (nth l (l.length - 1)) ≤ i then none else
      if l.length + 1 > b.lots.length then none else ringGo b i f (l ++ [follows b (nth l (l.length - 1))])) = some r := h
    by_cases c1 : follows b (nth l (l.length - 1)) = i ∧ 1 < l.length
    · rw [if_pos c1] at h; injection h with h; rw [← h]; exact path_ring hr hp c1.1 c1.2
    · rw [if_neg c1] at h
      by_cases c2 : follows b (nth l (l.length - 1)) ≤ i
      · rw [if_pos c2] at h; cases h
      · rw [if_neg c2] at h
        by_cases c3 : l.length + 1 > b.lots.length
        · rw [if_pos c3] at h; cases h
        · rw [if_neg c3] at h; exact go_ring hr f (path_snoc hp (by omega)) h
theorem ring_of (hr : b.Right) {i : Nat} (hi : i < b.lots.length) {l : List Int} (h : ringOf b i = some l) : Ring b i l :=
  go_ring hr _ (path_one ⟨by omega, by omega⟩) h
theorem Ring.at_ {i : Int} {l : List Int} (h : Ring b i l) {j : Nat} (hj : j < l.length) : i ≤ nth l j ∧ b.is (nth l j) := by
  have h1 := h.rng _ (nth_mem hj)
  have h2 := h.zero
  exact ⟨h1.1, by unfold Barn.is; omega⟩
theorem ring_go {i : Int} {l : List Int} (h : Ring b i l) (hl : l.length ≤ b.lots.length) : ∀ (f k : Nat), 1 ≤ k → k ≤ l.length → l.length + 1 ≤ k + f → ringGo b i f (l.take k) = some l
  | 0, k, h1, h2, h3 => by omega
  | f + 1, k, h1, h2, h3 => by
    have hk : (l.take k).length = k := by rw [List.length_take]; omega
    have hn : nth (l.take k) (k - 1) = nth l (k - 1) := nth_take (by omega)
    show (if follows b (nth (l.take k) ((l.take k).length - 1)) = i ∧ 1 < (l.take k).length then some (l.take k) else if follows b (nth (l.take k) ((l.take k).length - 1)) ≤ i then none else
      if (l.take k).length + 1 > b.lots.length then none else ringGo b i f (l.take k ++ [follows b (nth (l.take k) ((l.take k).length - 1))])) = some l
    rw [hk, hn]
    have two := h.two
    by_cases c : k = l.length
    · subst c
      rw [if_pos ⟨h.last, by omega⟩, List.take_length]
    · have e := h.fol (k - 1) (by omega)
      rw [show k - 1 + 1 = k by omega] at e
      rw [e]
      have h4 := h.at_ (j := k) (by omega)
      have h5 : nth l k ≠ i := fun e' => by
        have := nodup_nth h.nodup (i := k) (k := 0) (by omega) (by omega) (by rw [e', h.head])
        omega
      rw [if_neg fun c => h5 c.1, if_neg (by omega), if_neg (by omega), ← take_nth (by omega)]
      exact ring_go h hl f (k + 1) (by omega) (by omega) (by omega)
theorem is_len {l : List Int} (hn : l.Nodup) (h : ∀ x ∈ l, b.is x) : l.length ≤ b.lots.length := by
  have := nodup_sub hn (L := (List.range b.lots.length).map fun (k : Nat) => (k : Int)) fun x hx => by
    have := h x hx
    unfold Barn.is at this
    exact List.mem_map.2 ⟨x.toNat, List.mem_range.2 (by omega), by omega⟩
  rwa [List.length_map, List.length_range] at this
theorem Ring.len {i : Int} {l : List Int} (h : Ring b i l) : l.length ≤ b.lots.length := is_len h.nodup fun x hx => by
  have h1 := h.rng x hx
  have h2 := h.zero
  unfold Barn.is; omega
theorem ring_some {i : Nat} {l : List Int} (h : Ring b i l) : ringOf b i = some l := by
  have h1 := ring_go h h.len (b.lots.length + 1) 1 (Nat.le_refl _) (by have := h.two; omega) (by have := h.len; omega)
  have h2 : l.take 1 = [(i : Int)] := by
    have h3 := h.head
    have h4 := h.two
    match l, h4, h3 with
    | x :: l, _, h3 => rw [show x = (i : Int) from h3]; rfl
  rw [h2] at h1; exact h1
theorem mem_rings (hr : b.Right) {l : List Int} : l ∈ ringsL b ↔ ∃ i : Nat, i < b.lots.length ∧ Ring b i l := by
  unfold ringsL ringsUp
  rw [List.mem_filterMap]
  constructor
  · rintro ⟨i, hi, h⟩
    exact ⟨i, List.mem_range.1 hi, ring_of hr (List.mem_range.1 hi) h⟩
  · rintro ⟨i, hi, h⟩; exact ⟨i, List.mem_range.2 hi, ring_some h⟩
theorem Ring.next {i : Int} {l : List Int} (h : Ring b i l) {x : Int} (hx : x ∈ l) : follows b x ∈ l := by
  obtain ⟨j, hj, rfl⟩ := mem_nth hx
  by_cases c : j + 1 < l.length
  · rw [h.fol j c]; exact nth_mem c
  · rw [show j = l.length - 1 by omega, h.last, ← h.head]; exact nth_mem (by have := h.two; omega)
theorem Ring.reach {i : Int} {l : List Int} (h : Ring b i l) {C : Int → Prop} (hC : ∀ x, C x → C (follows b x)) {x : Int} (hx : x ∈ l) (hc : C x) : C i := by
  obtain ⟨j, hj, rfl⟩ := mem_nth hx
  have key : ∀ m j, m = l.length - j → j < l.length → C (nth l j) → C i := by
    intro m
    induction m with
    | zero => intro j hm hj; omega
    | succ m ih =>
      intro j hm hj hc
      have h1 := hC _ hc
      by_cases c : j + 1 < l.length
      · rw [h.fol j c] at h1; exact ih (j + 1) (by omega) c h1
      · rw [show j = l.length - 1 by omega, h.last] at h1; exact h1
  exact key _ j rfl hj hc
theorem Ring.same {i k : Int} {l r : List Int} (h : Ring b i l) (h' : Ring b k r) {x : Int} (hx : x ∈ l) (hx' : x ∈ r) : i = k := by
  have h1 := h.reach (C := fun y => y ∈ r) (fun y hy => h'.next hy) hx hx'
  have h2 := h'.reach (C := fun y => y ∈ l) (fun y hy => h.next hy) hx' hx
  have h3 := h'.rng _ h1
  have h4 := h.rng _ h2
  omega
theorem Ring.lot {i : Int} {l : List Int} (hr : b.Right) (h : Ring b i l) {x : Int} (hx : x ∈ l) : b.is x ∧ b.is (follows b x) ∧ (b.at (follows b x)).inn = (b.at x).aim ∧ (b.at x).aim ≠ -1 ∧ follows b x ≠ x := by
  have hz := h.zero
  have is : ∀ y ∈ l, b.is y := fun y hy => by have := h.rng y hy; unfold Barn.is; omega
  have h1 := is _ (h.next hx)
  refine ⟨is x hx, h1, (fol_at h1.1).2, fol_aim hr h1.1, fun e => ?_⟩
  obtain ⟨j, hj, rfl⟩ := mem_nth hx
  have two := h.two
  by_cases c : j + 1 < l.length
  · rw [h.fol j c] at e
    have := nodup_nth h.nodup c hj e; omega
  · rw [show j = l.length - 1 by omega, h.last, ← h.head] at e
    have := nodup_nth h.nodup (by omega) (by omega) e; omega
theorem Ring.must {i : Int} {l : List Int} (hr : b.Right) (h : Ring b i l) {x : Int} (hx : x ∈ l) : x ∈ mustL b := by
  obtain ⟨h1, h2, h3, h4, h5⟩ := h.lot hr hx
  have hx1 := h1
  unfold Barn.is at hx1
  refine filtUp_mem.2 ⟨x.toNat, by omega, ?_, by omega⟩
  unfold mustI
  have : (b.at x).aim ≠ (b.at x).inn := fun e => h5 (at_inn hr h2 h1 (h3.trans e))
  rw [decide_eq_false (show ¬ (nth b.lots x.toNat).aim = -1 from h4), decide_eq_false (show ¬ (nth b.lots x.toNat).aim = (nth b.lots x.toNat).inn from this)]; rfl
def headsL (b : Barn) : List Int := (ringsL b).map fun l => nth l 0
theorem pairwise_filterMap_rings (hr : b.Right) : ∀ n, n ≤ b.lots.length → (ringsUp b n).Pairwise fun l r => nth l 0 < nth r 0 ∧ ∀ x ∈ l, x ∉ r := by
  intro n
  induction n with
  | zero => intro _; exact List.Pairwise.nil
  | succ n ih =>
    intro hn
    rw [ringsUp_succ, List.pairwise_append]
    refine ⟨ih (by omega), ?_, fun l hl r hr' => ?_⟩
    · cases ringOf b n with
      | none => exact List.Pairwise.nil
      | some l => exact List.pairwise_singleton _ _
    · unfold ringsUp at hl
      obtain ⟨i, hi, e⟩ := List.mem_filterMap.1 hl
      have hi := List.mem_range.1 hi
      have h1 := ring_of hr (by omega) e
      have h2 := ring_of hr (i := n) (by omega) (by simpa using hr')
      rw [h1.head, h2.head]
      refine ⟨by omega, fun x hx hx' => ?_⟩
      have := h1.same h2 hx hx'
      omega
theorem rings_apart (hr : b.Right) : (ringsL b).Pairwise fun l r => nth l 0 < nth r 0 ∧ ∀ x ∈ l, x ∉ r := pairwise_filterMap_rings hr _ (Nat.le_refl _)
inductive Each {α β : Type} (P : α → β → Prop) : List α → List β → Prop
  | nil : Each P [] []
  | cons {a : α} {c : β} {l : List α} {r : List β} : P a c → Each P l r → Each P (a :: l) (c :: r)
theorem choose_each {α β : Type} {P : α → β → Prop} : ∀ (l : List α), (∀ x ∈ l, ∃ y, P x y) → ∃ r : List β, r.length = l.length ∧ Each P l r
  | [], _ => ⟨[], rfl, .nil⟩
  | x :: l, h => by
    obtain ⟨y, hy⟩ := h x List.mem_cons_self
    obtain ⟨r, h1, h2⟩ := choose_each l fun z hz => h z (List.mem_cons_of_mem _ hz)
    exact ⟨y :: r, by rw [List.length_cons, List.length_cons, h1], .cons hy h2⟩
theorem each_mem {α β : Type} {P : α → β → Prop} : ∀ {l : List α} {r : List β}, Each P l r → ∀ y ∈ r, ∃ x ∈ l, P x y
  | _, _, .nil, y, hy => by cases hy
  | _, _, .cons h t, y, hy => by
    rcases List.mem_cons.1 hy with rfl | hy
    · exact ⟨_, List.mem_cons_self, h⟩
    · obtain ⟨x, hx, hp⟩ := each_mem t y hy
      exact ⟨x, List.mem_cons_of_mem _ hx, hp⟩
end Go.Proofs.Ytpnndljmhpepgaa

namespace Go.Proofs.Ytpnndljmhpepgaa
open Go Go.T
variable {b : Barn}
inductive Stp (b : Barn) (i : Int) : Nat → Int → Prop
  | zero : Stp b i 0 i
  | step {m : Nat} {x : Int} : Stp b i m x → 0 ≤ follows b x → Stp b i (m + 1) (follows b x)
theorem Stp.is {i : Int} (hi : b.is i) {m : Nat} {x : Int} (h : Stp b i m x) : b.is x := by
  cases h with
  | zero => exact hi
  | step _ h => exact (fol_at h).1
theorem Stp.det {i : Int} {m : Nat} {x : Int} (h : Stp b i m x) : ∀ {y : Int}, Stp b i m y → x = y := by
  induction h with
  | zero => intro y h'; cases h'; rfl
  | step _ _ ih => intro y h'; cases h' with | step h1 h2 => rw [ih h1]
theorem Stp.less {i : Int} : ∀ {m : Nat} {x : Int}, Stp b i m x → ∀ k, k ≤ m → ∃ y, Stp b i k y := by
  intro m x h
  induction h with
  | zero => intro k hk; exact ⟨i, by rw [Nat.le_zero.1 hk]; exact .zero⟩
  | step h1 h2 ih =>
    intro k hk
    rcases Nat.lt_or_ge k (Nat.succ _) with h | h
    · exact ih k (Nat.lt_succ_iff.1 h)
    · exact ⟨_, by rw [Nat.le_antisymm hk h]; exact .step h1 h2⟩
theorem Stp.add {i : Int} {m : Nat} {x : Int} (h : Stp b i m x) : ∀ {k : Nat} {y : Int}, Stp b x k y → Stp b i (m + k) y := by
  intro k y h'
  induction h' with
  | zero => exact h
  | step _ h2 ih => exact .step ih h2
theorem Stp.back (hr : b.Right) {i : Int} (hi : b.is i) : ∀ (a c : Nat) {x : Int}, a ≤ c → Stp b i a x → Stp b i c x → Stp b i (c - a) i
  | 0, c, x, _, h1, h2 => by cases h1; exact h2
  | a + 1, c, x, hac, h1, h2 => by
    obtain ⟨c, rfl⟩ : ∃ d, c = d + 1 := ⟨c - 1, by omega⟩
    cases h1 with
    | step g1 g2 =>
      rename_i u
      generalize hv : follows b u = v at *
      cases h2 with
      | step e1 e2 =>
        rename_i w
        have : w = u := fol_inj hr (e1.is hi) (g1.is hi) e2 hv.symm
        subst this
        rw [show c + 1 - (a + 1) = c - a by omega]
        exact Stp.back hr hi a c (by omega) g1 e1
theorem least_nat {P : Nat → Prop} : ∀ n, P n → ∃ m, m ≤ n ∧ P m ∧ ∀ k, k < m → ¬ P k := by
  intro n
  induction n using Nat.strongRecOn with
  | ind n ih =>
    intro h
    by_cases c : ∃ k, k < n ∧ P k
    · obtain ⟨k, hk, hp⟩ := c
      obtain ⟨m, h1, h2, h3⟩ := ih k hk hp
      exact ⟨m, by omega, h2, h3⟩
    · exact ⟨n, Nat.le_refl _, h, fun k hk hp => c ⟨k, hk, hp⟩⟩
open Classical in
noncomputable def stM (b : Barn) (i : Int) (m : Nat) : Int := if h : ∃ x, Stp b i m x then h.choose else -1
theorem stM_eq {i : Int} {m : Nat} {x : Int} (h : Stp b i m x) : stM b i m = x := by
  unfold stM; rw [dif_pos ⟨x, h⟩]
  exact (Exists.choose_spec (⟨x, h⟩ : ∃ x, Stp b i m x)).det h
noncomputable def stL (b : Barn) (i : Int) (n : Nat) : List Int := (List.range n).map (stM b i)
theorem stL_nth {i : Int} {n k : Nat} (hk : k < n) : nth (stL b i n) k = stM b i k := by
  unfold stL
  rw [nth_lt (by simpa using hk), List.getElem_map, List.getElem_range]
theorem stL_len {i : Int} {n : Nat} : (stL b i n).length = n := by unfold stL; simp
theorem stL_nodup (hr : b.Right) {i : Int} (hi : b.is i) {n : Nat} (h : ∀ k, k < n → ∃ x, Stp b i k x) (hn : ∀ k, 1 ≤ k → k < n → ¬ Stp b i k i) : (stL b i n).Nodup := by
  rw [List.nodup_iff_pairwise_ne, List.pairwise_iff_getElem]
  intro j k hj hk hjk e
  rw [stL_len] at hj hk
  rw [← nth_lt, ← nth_lt, stL_nth hj, stL_nth hk] at e
  obtain ⟨x, hx⟩ := h j hj
  obtain ⟨y, hy⟩ := h k hk
  rw [stM_eq hx, stM_eq hy] at e
  subst e
  exact hn (k - j) (by omega) (by omega) (Stp.back hr hi j k (by omega) hx hy)
theorem stL_le (hr : b.Right) {i : Int} (hi : b.is i) {n : Nat} (h : ∀ k, k < n → ∃ x, Stp b i k x) (hn : ∀ k, 1 ≤ k → k < n → ¬ Stp b i k i) : n ≤ b.lots.length := by
  have := is_len (stL_nodup hr hi h hn) fun x hx => by
    obtain ⟨k, hk, rfl⟩ := List.mem_map.1 hx
    obtain ⟨y, hy⟩ := h k (List.mem_range.1 hk)
    rw [stM_eq hy]; exact hy.is hi
  rwa [stL_len] at this
theorem comes_back (hr : b.Right) {i : Int} (hi : b.is i) (h : ∃ n, 1 ≤ n ∧ Stp b i n i) : ∃ n, 1 ≤ n ∧ n ≤ b.lots.length ∧ Stp b i n i ∧ ∀ k, 1 ≤ k → k < n → ¬ Stp b i k i := by
  obtain ⟨n, h1, h2⟩ := h
  obtain ⟨m, _, ⟨h4, h5⟩, h6⟩ := least_nat (P := fun n => 1 ≤ n ∧ Stp b i n i) n ⟨h1, h2⟩
  have h7 : ∀ k, 1 ≤ k → k < m → ¬ Stp b i k i := fun k hk hkm hs => h6 k hkm ⟨hk, hs⟩
  exact ⟨m, h4, stL_le hr hi (fun k hk => h5.less k (by omega)) h7, h5, h7⟩
theorem must_back (hr : b.Right) {i : Int} (hi : b.is i) (h : ∀ n, ∃ x, Stp b i n x) : ∃ n, 1 ≤ n ∧ Stp b i n i := by
  apply Classical.byContradiction
  intro hno
  have := stL_le hr hi (n := b.lots.length + 1) (fun k _ => h k) fun k hk _ hs => hno ⟨k, hk, hs⟩
  omega
theorem is_step {i : Int} {m : Nat} {x : Int} (h : Stp b i (m + 1) x) : ∃ y, Stp b i m y ∧ x = follows b y ∧ 0 ≤ x := by
  cases h with
  | step h1 h2 => exact ⟨_, h1, rfl, h2⟩
theorem ring_least_of (hr : b.Right) {i : Int} (hi : b.is i) {n : Nat} (h1 : 2 ≤ n) (h2 : Stp b i n i) (h3 : ∀ k, 1 ≤ k → k < n → ¬ Stp b i k i) (h4 : ∀ k x, k < n → Stp b i k x → i ≤ x) : Ring b i (stL b i n) := by
  have hl : (stL b i n).length = n := stL_len
  have hex : ∀ k, k < n → ∃ x, Stp b i k x := fun k hk => h2.less k (by omega)
  refine ⟨by omega, by rw [stL_nth (by omega)]; exact stM_eq .zero, fun x hx => ?_, hi.1, fun j hj => ?_, ?_, stL_nodup hr hi hex h3⟩
  · obtain ⟨k, hk, rfl⟩ := List.mem_map.1 hx
    have hk := List.mem_range.1 hk
    obtain ⟨y, hy⟩ := hex k hk
    rw [stM_eq hy]
    exact ⟨h4 k y hk hy, (hy.is hi).2⟩
  · rw [hl] at hj
    obtain ⟨y, hy⟩ := hex (j + 1) hj
    obtain ⟨z, hz, e, _⟩ := is_step hy
    rw [stL_nth (by omega), stL_nth hj, stM_eq hz, stM_eq hy, e]
  · rw [hl]
    obtain ⟨k, rfl⟩ : ∃ k, n = k + 1 := ⟨n - 1, by omega⟩
    obtain ⟨z, hz, e, _⟩ := is_step h2
    rw [stL_nth (by omega), show k + 1 - 1 = k by omega, stM_eq hz, ← e]
theorem ring_iff (hr : b.Right) {i : Int} (hi : b.is i) : (∃ l ∈ ringsL b, i ∈ l) ↔ (b.at i).aim ≠ (b.at i).inn ∧ ∃ n, 1 ≤ n ∧ Stp b i n i := by
  constructor
  · rintro ⟨l, hl, hil⟩
    obtain ⟨s, hs, hR⟩ := (mem_rings hr).1 hl
    obtain ⟨h1, h2, h3, h4, h5⟩ := hR.lot hr hil
    refine ⟨fun e => h5 (at_inn hr h2 h1 (h3.trans e)), must_back hr hi fun n => ?_⟩
    have key : ∀ n, ∃ x, Stp b i n x ∧ x ∈ l := by
      intro n
      induction n with
      | zero => exact ⟨i, .zero, hil⟩
      | succ n ih =>
        obtain ⟨x, hx, hxl⟩ := ih
        exact ⟨_, .step hx (hR.lot hr hxl).2.1.1, hR.next hxl⟩
    obtain ⟨x, hx, _⟩ := key n
    exact ⟨x, hx⟩
  · rintro ⟨hne, hb⟩
    obtain ⟨n, h1, h2, h3, h4⟩ := comes_back hr hi hb
    -- the least lot of the way
    obtain ⟨s, _, ⟨k, hk, hs⟩, hmin⟩ := least_nat (P := fun s : Nat => ∃ k, k < n ∧ Stp b i k (s : Int)) i.toNat ⟨0, by omega, by rw [show ((i.toNat : Nat) : Int) = i from Int.toNat_of_nonneg hi.1]; exact .zero⟩
    have hsi := hs.is hi
    -- from s on
    have hgo : ∀ j x, Stp b s j x → ∃ m, m < n ∧ Stp b i m x := by
      intro j
      induction j with
      | zero => intro x hx; cases hx; exact ⟨k, hk, hs⟩
      | succ j ih =>
        intro x hx
        obtain ⟨y, hy, e, h0⟩ := is_step hx
        obtain ⟨m, hm, hmy⟩ := ih y hy
        have hst : Stp b i (m + 1) x := by rw [e]; exact .step hmy (by rw [← e]; exact h0)
        by_cases c : m + 1 < n
        · exact ⟨m + 1, c, hst⟩
        · rw [show m + 1 = n by omega] at hst
          rw [hst.det h3]; exact ⟨0, by omega, .zero⟩
    have hfrom : ∀ d x, k + d ≤ n → Stp b i (k + d) x → Stp b s d x := by
      intro d
      induction d with
      | zero => intro x _ hx; rw [Nat.add_zero] at hx; rw [hx.det hs]; exact .zero
      | succ d ih =>
        intro x hd hx
        obtain ⟨y, hy, e, h0⟩ := is_step (show Stp b i ((k + d) + 1) x from hx)
        rw [e]; exact .step (ih y (by omega) hy) (by rw [← e]; exact h0)
    have hsi1 : Stp b s (n - k) i := hfrom (n - k) i (by omega) (by rw [show k + (n - k) = n by omega]; exact h3)
    have hsn : Stp b s n s := by
      have := hsi1.add hs
      rw [show n - k + k = n by omega] at this; exact this
    obtain ⟨r, r1, r2, r3, r4⟩ := comes_back hr hsi ⟨n, h1, hsn⟩
    have hr2 : 2 ≤ r := by
      apply Classical.byContradiction
      intro hc
      have e1 : r = 1 := by omega
      subst e1
      obtain ⟨y, hy, e, _⟩ := is_step r3
      cases hy
      -- s follows itself: so does each lot that leads there
      have hall : ∀ d x, Stp b s d x → x = (s : Int) := by
        intro d
        induction d with
        | zero => intro x hx; cases hx; rfl
        | succ d ih =>
          intro x hx
          obtain ⟨y, hy, e', _⟩ := is_step hx
          rw [e', ih y hy]; exact e.symm
      have his := hall _ _ hsi1
      rw [← his] at e
      have h0 : 0 ≤ follows b i := by rw [← e]; exact hi.1
      have := (fol_at h0).2
      rw [← e] at this
      exact hne this.symm
    have hR := ring_least_of hr hsi hr2 r3 r4 fun k' x _ hx => by
      obtain ⟨m, hm, hmx⟩ := hgo k' x hx
      have hxi := hmx.is hi
      apply Classical.byContradiction
      intro hlt
      exact hmin x.toNat (by have := hxi.1; omega) ⟨m, hm, by rw [show ((x.toNat : Nat) : Int) = x from Int.toNat_of_nonneg hxi.1]; exact hmx⟩
    refine ⟨_, (mem_rings hr).2 ⟨s, by have := hsi.2; omega, hR⟩, ?_⟩
    -- i is on the way from s
    have hmem : ∀ d x, Stp b s d x → x ∈ stL b s r := by
      intro d
      induction d with
      | zero =>
        intro x hx; cases hx
        have := nth_mem (xs := stL b s r) (k := 0) (by rw [stL_len]; omega)
        rw [hR.head] at this; exact this
      | succ d ih =>
        intro x hx
        obtain ⟨y, hy, e, _⟩ := is_step hx
        rw [e]; exact hR.next (ih y hy)
    exact hmem _ _ hsi1
end Go.Proofs.Ytpnndljmhpepgaa

namespace Go.Proofs.Ytpnndljmhpepgaa
open Go Go.T
variable {b b' : Barn} {x k : Int}
def mustP (b : Barn) (j : Int) : Prop := ((b.at j).aim ≠ -1 ∧ (b.at j).aim ≠ (b.at j).inn) ∨ ((b.at j).aim = -1 ∧ ∃ m, b.is m ∧ (b.at m).aim = (b.at j).inn)
theorem must_iff {j : Int} (hj : b.is j) : j ∈ mustL b ↔ mustP b j := by
  have hj' := hj
  unfold Barn.is at hj'
  have e : j ∈ mustL b ↔ mustI b j.toNat = true := by
    unfold mustL
    rw [filtUp_mem]
    constructor
    · rintro ⟨n, _, h, e⟩; rw [show j.toNat = n by omega]; exact h
    · intro h; exact ⟨j.toNat, by omega, h, by omega⟩
  rw [e]
  unfold mustI mustP Barn.wanted
  simp only [Bool.or_eq_true, Bool.and_eq_true, Bool.not_eq_true', decide_eq_false_iff_not, decide_eq_true_eq, List.any_eq_true]
  constructor
  · rintro (h | ⟨h1, l, hl, e⟩)
    · exact .inl h
    · obtain ⟨n, hn, rfl⟩ := mem_nth hl
      exact .inr ⟨h1, (n : Int), ⟨by omega, by omega⟩, e⟩
  · rintro (h | ⟨h1, m, hm, e⟩)
    · exact .inl h
    · unfold Barn.is at hm
      exact .inr ⟨h1, _, nth_mem (k := m.toNat) (by omega), e⟩
theorem must_is {j : Int} (h : j ∈ mustL b) : b.is j := must_in b j h
structure Mv (b b' : Barn) (x k : Int) : Prop where
  right : b.Right
  right' : b'.Right
  is : b.is x
  len : b'.lots.length = b.lots.length
  inn : ∀ j, b.is j → (b'.at j).inn = if j = x then k else (b.at j).inn
  aim : ∀ j, b.is j → (b'.at j).aim = (b.at j).aim
  own : ∀ j, b.is j → (b.at j).aim = k → j = x
  must : mustP b x
  pos : 0 ≤ k
theorem Mv.is' (h : Mv b b' x k) {j : Int} : b'.is j ↔ b.is j := by unfold Barn.is; rw [h.len]
theorem Mv.fol (h : Mv b b' x k) {i : Int} {l : List Int} (hR : Ring b' i l) {j : Int} (hj : j ∈ l) : follows b' j ≠ x ∧ follows b j = follows b' j := by
  obtain ⟨h1, h2, h3, _, h5⟩ := hR.lot h.right' hj
  rw [h.is'] at h1 h2
  rw [h.aim j h1] at h3
  have hne : follows b' j ≠ x := fun e => by
    rw [e, h.inn x h.is, if_pos rfl] at h3
    have := h.own j h1 h3.symm
    exact h5 (e.trans this.symm)
  rw [h.inn _ h2, if_neg hne] at h3
  exact ⟨hne, fol_eq h.right h2 h3⟩
theorem Mv.ring (h : Mv b b' x k) {i : Int} {l : List Int} (hR : Ring b' i l) : Ring b i l := by
  have two := hR.two
  refine ⟨two, hR.head, fun y hy => by rw [← h.len]; exact hR.rng y hy, hR.zero, fun j hj => ?_, ?_, hR.nodup⟩
  · rw [(h.fol hR (nth_mem (k := j) (by omega))).2]; exact hR.fol j hj
  · rw [(h.fol hR (nth_mem (k := l.length - 1) (by omega))).2]; exact hR.last
theorem Mv.rings (h : Mv b b' x k) : ∀ l ∈ ringsL b', l ∈ ringsL b := fun l hl => by
  obtain ⟨i, hi, hR⟩ := (mem_rings h.right').1 hl
  exact (mem_rings h.right).2 ⟨i, by rw [← h.len]; exact hi, h.ring hR⟩
theorem rings_nd (hr : b.Right) : (ringsL b).Nodup := by
  rw [List.nodup_iff_pairwise_ne]
  exact (rings_apart hr).imp fun {l r} h e => by
    have h1 := h.1
    rw [e] at h1
    omega
theorem Mv.musts (h : Mv b b' x k) : ∀ j ∈ mustL b', j ∈ mustL b := fun j hj => by
  have h1 := must_is hj
  rw [must_iff h1] at hj
  rw [h.is'] at h1
  rw [must_iff h1]
  by_cases e : j = x
  · rw [e]; exact h.must
  · unfold mustP at hj ⊢
    rw [h.aim j h1, h.inn j h1, if_neg e] at hj
    rcases hj with hj | ⟨g1, m, hm, g2⟩
    · exact .inl hj
    · rw [h.is'] at hm
      rw [h.aim m hm] at g2
      exact .inr ⟨g1, m, hm, g2⟩
def costB (b : Barn) : Nat := (mustL b).length + (ringsL b).length
theorem Mv.fewer (h : Mv b b' x k) (hx : ¬ mustP b' x) : costB b' + 1 ≤ costB b := by
  have h1 := nodup_sub (rings_nd h.right') h.rings
  have hn : x ∉ mustL b' := fun hm => hx ((must_iff (h.is'.2 h.is)).1 hm)
  have h2 := nodup_sub (l := x :: mustL b') (L := mustL b) (List.nodup_cons.2 ⟨hn, filtUp_nodup _ _⟩) fun j hj => by
    rcases List.mem_cons.1 hj with rfl | hj
    · exact (must_iff h.is).2 h.must
    · exact h.musts j hj
  rw [List.length_cons] at h2
  unfold costB; omega
structure Easy (b : Barn) : Prop where
  right : b.Right
  all : ∀ i k : Int, b.is i → 0 ≤ k → k < b.sizes.length → (b.at i).sacks ≤ nth b.sizes k.toNat
  room : b.lots.length < b.sizes.length
structure Best (b : Barn) (plain : Bool) : Prop where
  plan : planE b oneC = 0 → (((planR b oneC).length : Int) = costR b oneC ∧ rightV b (planR b oneC) = true) ∧ ((mustL b).length : Int) + (ringsL b).length ≤ costR b oneC ∧ (costR b oneC = 0 ↔ (mustL b).length = 0)
  easy : plain = true → planE b oneC = 0 ∧ costR b oneC = ((mustL b).length : Int) + (ringsL b).length
  err : planE b oneC = 0 ∨ planE b oneC = 7
  few : ∀ l, rightV b l = true → planE b oneC = 0 ∧ costR b oneC ≤ l.length
end Go.Proofs.Ytpnndljmhpepgaa

namespace Go.Proofs.Ytpnndljmhpepgaa
open Go Go.T
def Barn.isBin (b : Barn) (k : Int) : Prop := 0 ≤ k ∧ k < b.sizes.length
def aimN (f : Int → Int) (k : Int) : Int := if k = -1 then -1 else f k
structure Ren (b o : Barn) (f g f' g' : Int → Int) : Prop where
  right : b.Right
  sz : o.sizes.length = b.sizes.length
  ln : o.lots.length = b.lots.length
  fin : ∀ k, b.isBin k → b.isBin (f k) ∧ f' (f k) = k
  fin' : ∀ k, b.isBin k → b.isBin (f' k) ∧ f (f' k) = k
  gin : ∀ i, b.is i → b.is (g i) ∧ g' (g i) = i
  gin' : ∀ i, b.is i → b.is (g' i) ∧ g (g' i) = i
  size : ∀ k, b.isBin k → nth o.sizes (f k).toNat = nth b.sizes k.toNat
  lot : ∀ i, b.is i → o.at (g i) = ⟨(b.at i).sacks, f (b.at i).inn, aimN f (b.at i).aim⟩
variable {b o : Barn} {f g f' g' : Int → Int}
theorem Ren.isO (h : Ren b o f g f' g') {i : Int} : o.is i ↔ b.is i := by unfold Barn.is; rw [h.ln]
theorem Ren.binO (h : Ren b o f g f' g') {k : Int} : o.isBin k ↔ b.isBin k := by unfold Barn.isBin; rw [h.sz]
theorem at_bin (hr : b.Right) {i : Int} (hi : b.is i) : b.isBin (b.at i).inn := is_inn hr hi
theorem at_to (hr : b.Right) {i : Int} (hi : b.is i) : (b.at i).aim = -1 ∨ b.isBin (b.at i).aim := by
  have h : -1 ≤ (b.at i).aim ∧ (b.at i).aim < b.sizes.length := hr.aim _ (nth_mem (by unfold Barn.is at hi; omega))
  unfold Barn.isBin; omega
theorem aimN_ne {k : Int} (h : k ≠ -1) : aimN f k = f k := if_neg h
theorem aimN_no : aimN f (-1) = -1 := if_pos rfl
theorem Ren.aim_inj (h : Ren b o f g f' g') {k m : Int} (hk : k = -1 ∨ b.isBin k) (hm : m = -1 ∨ b.isBin m) (e : aimN f k = aimN f m) : k = m := by
  rcases hk with rfl | hk
  · rcases hm with rfl | hm
    · rfl
    · rw [aimN_no, aimN_ne (by unfold Barn.isBin at hm; omega)] at e
      have := (h.fin m hm).1.1
      omega
  · rw [aimN_ne (by unfold Barn.isBin at hk; omega)] at e
    rcases hm with rfl | hm
    · rw [aimN_no] at e
      have := (h.fin k hk).1.1
      omega
    · rw [aimN_ne (by unfold Barn.isBin at hm; omega)] at e
      rw [← (h.fin k hk).2, ← (h.fin m hm).2, e]
theorem Ren.f_inj (h : Ren b o f g f' g') {k m : Int} (hk : b.isBin k) (hm : b.isBin m) (e : f k = f m) : k = m := by
  rw [← (h.fin k hk).2, ← (h.fin m hm).2, e]
theorem is_nat {i : Nat} (h : i < b.lots.length) : b.is (i : Int) := ⟨by omega, by omega⟩
theorem at_nat (i : Nat) : b.at (i : Int) = nth b.lots i := by show nth b.lots (Int.toNat (i : Int)) = _; rw [Int.toNat_natCast]
theorem Ren.at' (h : Ren b o f g f' g') {j : Int} (hj : b.is j) : o.at j = ⟨(b.at (g' j)).sacks, f (b.at (g' j)).inn, aimN f (b.at (g' j)).aim⟩ := by
  have := h.lot (g' j) (h.gin' j hj).1
  rw [(h.gin' j hj).2] at this; exact this
theorem Ren.right' (h : Ren b o f g f' g') : o.Right := by
  have hr := h.right
  have key : ∀ n, n < o.lots.length → b.is (g' n) ∧ nth o.lots n = ⟨(b.at (g' n)).sacks, f (b.at (g' n)).inn, aimN f (b.at (g' n)).aim⟩ := fun n hn => by
    have hi : b.is (n : Int) := is_nat (by rw [← h.ln]; exact hn)
    exact ⟨(h.gin' _ hi).1, by rw [← at_nat]; exact h.at' hi⟩
  refine ⟨by rw [h.sz]; exact hr.bins, by rw [h.ln]; exact hr.lots, fun x hx => ?_, fun l hl => ?_, fun l hl => ?_, fun l hl => ?_, fun i k hk hi => ?_, fun i hi => ?_⟩
  · obtain ⟨n, hn, rfl⟩ := mem_nth hx
    have hb : b.isBin (n : Int) := ⟨by omega, by rw [h.sz] at hn; omega⟩
    have h1 := h.fin' _ hb
    have h2 := h.size _ h1.1
    rw [h1.2, Int.toNat_natCast] at h2
    rw [h2]
    exact hr.size _ (nth_mem (by have := h1.1; unfold Barn.isBin at this; omega))
  · obtain ⟨n, hn, rfl⟩ := mem_nth hl
    obtain ⟨h1, h2⟩ := key n hn
    rw [h2]
    exact hr.sacks (b.at (g' n)) (nth_mem (by unfold Barn.is at h1; omega))
  · obtain ⟨n, hn, rfl⟩ := mem_nth hl
    obtain ⟨h1, h2⟩ := key n hn
    rw [h2, h.sz]
    exact (h.fin _ (at_bin hr h1)).1
  · obtain ⟨n, hn, rfl⟩ := mem_nth hl
    obtain ⟨h1, h2⟩ := key n hn
    rw [h2, h.sz]
    show -1 ≤ aimN f _ ∧ aimN f _ < _
    rcases at_to hr h1 with e | e
    · rw [e, aimN_no]; omega
    · rw [aimN_ne (by unfold Barn.isBin at e; omega)]
      have := (h.fin _ e).1
      unfold Barn.isBin at this; omega
  · obtain ⟨h1, h2⟩ := key i hi
    obtain ⟨h3, h4⟩ := key k (by omega)
    have hne : g' (i : Int) ≠ g' (k : Int) := fun e => by
      have e1 := (h.gin' (i : Int) (is_nat (by rw [← h.ln]; exact hi))).2
      have e2 := (h.gin' (k : Int) (is_nat (by rw [← h.ln]; omega))).2
      rw [e, e2] at e1; omega
    rw [h2, h4]
    refine ⟨fun e => hne (at_inn hr h1 h3 (h.f_inj (at_bin hr h1) (at_bin hr h3) e)), fun e => ?_⟩
    have e1 := h.aim_inj (at_to hr h1) (at_to hr h3) e
    show aimN f _ = -1
    by_cases c : (b.at (g' i)).aim = -1
    · rw [c]; exact aimN_no
    · exact absurd (at_aim hr h1 h3 e1 c) hne
  · obtain ⟨h1, h2⟩ := key i hi
    rw [h2]
    have h3 := hr.holds (g' (i : Int)).toNat (by unfold Barn.is at h1; omega)
    refine ⟨by rw [h.size _ (at_bin hr h1)]; exact h3.1, fun hne => ?_⟩
    show (b.at (g' i)).sacks ≤ nth o.sizes (aimN f (b.at (g' i)).aim).toNat
    rcases at_to hr h1 with e | e
    · exact absurd (by show aimN f _ = -1; rw [e]; exact aimN_no) hne
    · have e1 : (b.at (g' i)).aim ≠ -1 := by unfold Barn.isBin at e; omega
      rw [aimN_ne e1, h.size _ e]; exact h3.2 e1
theorem Ren.symm (h : Ren b o f g f' g') : Ren o b f' g' f g := by
  have hr := h.right
  refine ⟨h.right', h.sz.symm, h.ln.symm, fun k hk => ?_, fun k hk => ?_, fun i hi => ?_, fun i hi => ?_, fun k hk => ?_, fun j hj => ?_⟩
  · rw [h.binO] at hk; rw [h.binO]; exact h.fin' k hk
  · rw [h.binO] at hk; rw [h.binO]; exact h.fin k hk
  · rw [h.isO] at hi; rw [h.isO]; exact h.gin' i hi
  · rw [h.isO] at hi; rw [h.isO]; exact h.gin i hi
  · rw [h.binO] at hk
    have h1 := h.fin' k hk
    have := h.size _ h1.1
    rw [h1.2] at this; exact this.symm
  · rw [h.isO] at hj
    have h1 := h.gin' j hj
    have e := h.at' hj
    have e2 : f' (f (b.at (g' j)).inn) = (b.at (g' j)).inn := (h.fin _ (at_bin hr h1.1)).2
    have e3 : aimN f' (aimN f (b.at (g' j)).aim) = (b.at (g' j)).aim := by
      rcases at_to hr h1.1 with c | c
      · rw [c, aimN_no, aimN_no]
      · have c1 : (b.at (g' j)).aim ≠ -1 := by unfold Barn.isBin at c; omega
        have c2 := (h.fin _ c)
        rw [aimN_ne c1, aimN_ne (by have := c2.1.1; omega)]; exact c2.2
    rw [e]
    show b.at (g' j) = ⟨(b.at (g' j)).sacks, f' (f (b.at (g' j)).inn), aimN f' (aimN f (b.at (g' j)).aim)⟩
    rw [e2, e3]
structure PR (b : Barn) (f g : Int → Int) (p q : Pl) : Prop where
  same : ∀ i, b.is i → nth q.1 (g i).toNat = f (nth p.1 i.toNat)
  bin : ∀ i, b.is i → b.isBin (nth p.1 i.toNat)
def turN (f g : Int → Int) (t : Tur) : Tur := ⟨g t.lot, f t.aim⟩
theorem Ren.first (h : Ren b o f g f' g') : PR b f g (firstP b) (firstP o) := by
  have h6 := h.right.lots
  refine ⟨fun i hi => ?_, fun i hi => ?_⟩
  · have h1 := (h.gin i hi).1
    have h2 := h.lot i hi
    unfold Barn.is at h1 hi
    rw [first_nth h.right'.lots (by rw [h.ln]; omega), first_nth h6 (by omega)]
    exact congrArg Lot.inn h2
  · have := at_bin h.right hi
    unfold Barn.is at hi
    rw [first_nth h6 (by omega)]; exact this
theorem Ren.turn (h : Ren b o f g f' g') {p q : Pl} {t : Tur} (hp : PR b f g p q) (ht : t ∈ turnsL b p) : turN f g t ∈ turnsL o q ∧ PR b f g (moved p t) (moved q (turN f g t)) := by
  have h6 := h.right.lots
  obtain ⟨h1, h2, h3, h4, h5, h7⟩ := mem_turnsL.1 ht
  have hi : b.is t.lot := ⟨h1, h2⟩
  have hk : b.isBin t.aim := ⟨h3, h4⟩
  have gi := (h.gin _ hi).1
  have fk := (h.fin _ hk).1
  have gi' := gi
  unfold Barn.is at gi'
  constructor
  · refine mem_turnsL.2 ⟨gi.1, by rw [h.ln]; exact gi.2, fk.1, by rw [h.sz]; exact fk.2, ?_, ?_⟩
    · rw [Bool.eq_false_iff]
      intro hc
      obtain ⟨j, hj, e⟩ := (taken_iff h.right'.lots).1 hc
      rw [h.ln] at hj
      have hjs := h.gin' (j : Int) (is_nat hj)
      have e1 := hp.same _ hjs.1
      rw [hjs.2, Int.toNat_natCast] at e1
      have e : nth q.1 j = f t.aim := e
      have e2 := h.f_inj (hp.bin _ hjs.1) hk (e1.symm.trans e)
      have hjn := hjs.1
      unfold Barn.is at hjn
      have : takenP b p t.aim = true := (taken_iff h6).2 ⟨(g' (j : Int)).toNat, by omega, e2⟩
      rw [h5] at this; cases this
    · unfold Barn.hold at h7 ⊢
      have e1 := h.size _ hk
      have e2 : (nth o.lots (g t.lot).toNat).sacks = (nth b.lots t.lot.toNat).sacks := by rw [show nth o.lots (g t.lot).toNat = _ from h.lot _ hi]
      show decide (nth o.sizes (f t.aim).toNat ≥ (nth o.lots (g t.lot).toNat).sacks) = true
      rw [e1, e2]; exact h7
  · refine ⟨fun i hi' => ?_, fun i hi' => ?_⟩
    · have gj := (h.gin _ hi').1
      have hi'' := hi'
      unfold Barn.is at gj hi''
      rw [moved_nth (by omega), moved_nth (by omega)]
      by_cases e : i = t.lot
      · rw [if_pos (by rw [e]; rfl), if_pos (by rw [e])]; rfl
      · rw [if_neg, if_neg (by omega)]
        · exact hp.same i hi'
        · intro e'
          have e' : (g t.lot).toNat = (g i).toNat := e'
          have e2 : g t.lot = g i := by omega
          rw [← (h.gin _ hi').2, ← e2, (h.gin _ hi).2] at e
          exact e rfl
    · have hi'' := hi'
      unfold Barn.is at hi''
      rw [moved_nth (by omega)]
      by_cases e : t.lot.toNat = i.toNat
      · rw [if_pos e]; exact hk
      · rw [if_neg e]; exact hp.bin i hi'
theorem Ren.go (h : Ren b o f g f' g') : ∀ (l : List Tur) {p q r : Pl}, PR b f g p q → goP b p l = some r → ∃ s, goP o q (l.map (turN f g)) = some s ∧ PR b f g r s
  | [], p, q, r, hp, e => by injection e with e; exact ⟨q, rfl, e ▸ hp⟩
  | t :: l, p, q, r, hp, e => by
    obtain ⟨h1, h2⟩ := goP_cons e
    obtain ⟨g1, g2⟩ := h.turn hp h1
    obtain ⟨s, e1, e2⟩ := h.go l g2 h2
    exact ⟨s, by rw [List.map_cons, goP_cons' g1]; exact e1, e2⟩
theorem Ren.made (h : Ren b o f g f' g') {p q : Pl} (hp : PR b f g p q) (hm : madeP b p = true) : madeP o q = true := by
  unfold madeP
  rw [List.all_eq_true]
  intro j hj
  have hj := List.mem_range.1 hj
  rw [h.ln] at hj
  have hjs := h.gin' (j : Int) (is_nat hj)
  have e1 := hp.same _ hjs.1
  rw [hjs.2, Int.toNat_natCast] at e1
  have e2 := h.at' (is_nat hj)
  rw [at_nat] at e2
  have hjn := hjs.1
  unfold Barn.is at hjn
  rw [e1, e2, Bool.or_eq_true, decide_eq_true_eq, decide_eq_true_eq]
  rcases made_at hm (i := (g' (j : Int)).toNat) (by omega) with e | e
  · exact .inl (by show aimN f (nth b.lots (g' (j : Int)).toNat).aim = -1; rw [e]; exact aimN_no)
  · refine .inr ?_
    show aimN f (nth b.lots (g' (j : Int)).toNat).aim = _
    rw [e]
    have := hp.bin _ hjs.1
    exact aimN_ne (by unfold Barn.isBin at this; omega)
theorem Ren.rightV (h : Ren b o f g f' g') {l : List Tur} (hl : rightV b l = true) : Go.Proofs.Ytpnndljmhpepgaa.rightV o (l.map (turN f g)) = true := by
  obtain ⟨q, h1, h2⟩ := (right_iff h.right.lots).1 hl
  obtain ⟨s, h3, h4⟩ := h.go l h.first h1
  exact (right_iff h.right'.lots).2 ⟨s, h3, h.made h4 h2⟩
theorem Ren.cost (h : Ren b o f g f' g') {l : List Tur} (hl : Go.Proofs.Ytpnndljmhpepgaa.rightV b l = true) : costL (sackC o) (l.map (turN f g)) = costL (sackC b) l := by
  have hin := right_rng h.right.lots (rightV_ok hl)
  unfold costL
  rw [List.map_map]
  congr 1
  refine List.map_congr_left fun t ht => ?_
  show (nth o.lots (g t.lot).toNat).sacks = (nth b.lots t.lot.toNat).sacks
  rw [show nth o.lots (g t.lot).toNat = _ from h.lot t.lot (hin t ht).1]
theorem cheap_ren {c c' : Tur → Int} {e e' n n' : Int} {l l' : List Tur} (hc : Cheap b c e l n) (hc' : Cheap o c' e' l' n') (h1 : ∀ l, rightV b l = true → ∃ l', rightV o l' = true ∧ costL c' l' = costL c l) (h2 : ∀ l, rightV o l = true → ∃ l', rightV b l' = true ∧ costL c l' = costL c' l) : e = e' ∧ n = n' := by
  rcases hc.err with rfl | rfl
  · obtain ⟨a1, a2, a3⟩ := hc.yes rfl
    obtain ⟨l1, b1, b2⟩ := h1 l a1
    rcases hc'.err with rfl | rfl
    · obtain ⟨c1, c2, c3⟩ := hc'.yes rfl
      obtain ⟨l2, d1, d2⟩ := h2 l' c1
      have e1 := c3 l1 b1
      have e2 := a3 l2 d1
      exact ⟨rfl, by omega⟩
    · rw [(hc'.no rfl).2.2 l1] at b1; cases b1
  · rcases hc'.err with rfl | rfl
    · obtain ⟨l2, d1, d2⟩ := h2 l' (hc'.yes rfl).1
      rw [(hc.no rfl).2.2 l2] at d1; cases d1
    · exact ⟨rfl, by rw [(hc.no rfl).2.1, (hc'.no rfl).2.1]⟩
theorem Ren.one (h : Ren b o f g f' g') : planE b oneC = planE o oneC ∧ costR b oneC = costR o oneC :=
  cheap_ren (cheap h.right (one_ok b)) (cheap h.right' (one_ok o)) (fun l hl => ⟨_, h.rightV hl, by rw [cost_one, cost_one, List.length_map]⟩) fun l hl => ⟨_, h.symm.rightV hl, by rw [cost_one, cost_one, List.length_map]⟩
theorem Ren.sack (h : Ren b o f g f' g') : planE b (sackC b) = planE o (sackC o) ∧ costR b (sackC b) = costR o (sackC o) :=
  cheap_ren (cheap h.right (sack_ok h.right)) (cheap h.right' (sack_ok h.right')) (fun l hl => ⟨_, h.rightV hl, h.cost hl⟩) fun l hl => ⟨_, h.symm.rightV hl, h.symm.cost hl⟩
theorem each_nd {α β : Type} {P : α → β → Prop} (hP : ∀ x x' y, P x y → P x' y → x = x') : ∀ {l : List α} {r : List β}, Each P l r → l.Nodup → r.Nodup
  | _, _, .nil, _ => List.nodup_nil
  | _, _, .cons h t, hn => by
    rw [List.nodup_cons] at hn ⊢
    refine ⟨fun hm => ?_, each_nd hP t hn.2⟩
    obtain ⟨x', hx', hp⟩ := each_mem t _ hm
    rw [hP _ _ _ h hp] at hn
    exact hn.1 hx'
theorem Ren.fewer (h : Ren b o f g f' g') : placesV b ≤ placesV o := by
  obtain ⟨L, h1, h2, h3⟩ := reached h.right
  obtain ⟨L', g1, g2, g3⟩ := reached h.right'
  obtain ⟨r, r1, r2⟩ := choose_each (P := fun (x y : Pl) => (∃ l, goP b (firstP b) l = some x) ∧ (∃ l, goP o (firstP o) l = some y) ∧ PR b f g x y) L fun x hx => by
    obtain ⟨l, hl⟩ := (h2 x).1 hx
    obtain ⟨s, s1, s2⟩ := h.go l h.first hl
    exact ⟨s, ⟨l, hl⟩, ⟨_, s1⟩, s2⟩
  have hn := each_nd (fun x x' y ⟨⟨l, hl⟩, _, hp⟩ ⟨⟨l', hl'⟩, _, hp'⟩ => by
    apply Subtype.ext
    have hd : x.1.drop b.lots.length = x'.1.drop b.lots.length := by rw [go_tail l hl, go_tail l' hl']
    have ht : x.1.take b.lots.length = x'.1.take b.lots.length := by
      have h6 := h.right.lots
      refine ext_nth (by rw [List.length_take, List.length_take, x.2, x'.2]) fun i hi => ?_
      rw [List.length_take, x.2] at hi
      have his : b.is (i : Int) := is_nat (by omega)
      have e1 := hp.same _ his
      have e2 := hp'.same _ his
      rw [nth_take (by omega), nth_take (by omega)]
      have b1 := hp.bin _ his
      have b2 := hp'.bin _ his
      rw [Int.toNat_natCast] at e1 e2 b1 b2
      exact h.f_inj b1 b2 (e1.symm.trans e2)
    rw [← List.take_append_drop b.lots.length x.1, ht, hd, List.take_append_drop]) r2 h1
  have := nodup_sub hn (L := L') fun y hy => by
    obtain ⟨x, _, _, hy, _⟩ := each_mem r2 y hy
    exact (g2 y).2 hy
  rw [h3, g3]; omega
theorem Ren.places (h : Ren b o f g f' g') : placesV b = placesV o := Int.le_antisymm h.fewer h.symm.fewer
theorem Ren.okT (h : Ren b o f g f' g') {p q : Pl} {t : Tur} (hp : PR b f g p q) (ht : OkT b p t) : OkT o q (turN f g t) := by
  have h1 := (h.turn hp (mem_turnsL.2 ⟨ht.1.1, ht.1.2, ht.2.1.1, ht.2.1.2, ht.2.2.1, ht.2.2.2⟩)).1
  obtain ⟨a1, a2, a3, a4, a5, a6⟩ := mem_turnsL.1 h1
  exact ⟨⟨a1, a2⟩, ⟨a3, a4⟩, a5, a6⟩
theorem Ren.moved (h : Ren b o f g f' g') {p q : Pl} {t : Tur} (hp : PR b f g p q) (hi : b.is t.lot) (hk : b.isBin t.aim) : PR b f g (Go.Proofs.Ytpnndljmhpepgaa.moved p t) (Go.Proofs.Ytpnndljmhpepgaa.moved q (turN f g t)) := by
  have h6 := h.right.lots
  have gi := (h.gin _ hi).1
  have gi' := gi
  unfold Barn.is at gi'
  refine ⟨fun i hi' => ?_, fun i hi' => ?_⟩
  · have gj := (h.gin _ hi').1
    have hi'' := hi'
    unfold Barn.is at gj hi''
    rw [moved_nth (by omega), moved_nth (by omega)]
    by_cases e : i = t.lot
    · rw [if_pos (by rw [e]; rfl), if_pos (by rw [e])]; rfl
    · rw [if_neg, if_neg (by unfold Barn.is at hi; omega)]
      · exact hp.same i hi'
      · intro e'
        have e' : (g t.lot).toNat = (g i).toNat := e'
        have e2 : g t.lot = g i := by omega
        rw [← (h.gin _ hi').2, ← e2, (h.gin _ hi).2] at e
        exact e rfl
  · have hi'' := hi'
    unfold Barn.is at hi''
    rw [moved_nth (by omega)]
    by_cases e : t.lot.toNat = i.toNat
    · rw [if_pos e]; exact hk
    · rw [if_neg e]; exact hp.bin i hi'
theorem moved_swap {p : Pl} {t u : Tur} (hne : t.lot.toNat ≠ u.lot.toNat) : Go.Proofs.Ytpnndljmhpepgaa.moved (Go.Proofs.Ytpnndljmhpepgaa.moved p t) u = Go.Proofs.Ytpnndljmhpepgaa.moved (Go.Proofs.Ytpnndljmhpepgaa.moved p u) t := by
  apply Subtype.ext
  refine ext_nth ((Go.Proofs.Ytpnndljmhpepgaa.moved (Go.Proofs.Ytpnndljmhpepgaa.moved p t) u).2.trans (Go.Proofs.Ytpnndljmhpepgaa.moved (Go.Proofs.Ytpnndljmhpepgaa.moved p u) t).2.symm) fun i hi => ?_
  have hi : i < 6 := (Go.Proofs.Ytpnndljmhpepgaa.moved (Go.Proofs.Ytpnndljmhpepgaa.moved p t) u).2 ▸ hi
  rw [moved_nth hi, moved_nth hi, moved_nth hi, moved_nth hi]
  by_cases e1 : u.lot.toNat = i
  · rw [if_pos e1, if_neg (by omega), if_pos e1]
  · rw [if_neg e1, if_neg e1]
theorem Ren.round (h : Ren b o f g f' g') {p q : Pl} {l : List Tur} (hp : PR b f g p q) (hl : l ∈ allR b p 2) : ∃ l', l' ∈ allR o q 2 ∧ PR b f g (movedAll p l) (movedAll q l') := by
  have hR := (mem_allR (by decide)).1 hl
  have hlen := hR.len
  match l, hlen, hR with
  | [], _, _ => exact ⟨[], (mem_allR (by decide)).2 ⟨by decide, (fun t ht => by cases ht), List.Pairwise.nil⟩, hp⟩
  | [t], _, hR =>
    have ht := hR.ok t List.mem_cons_self
    exact ⟨[turN f g t], (mem_allR (by decide)).2 ⟨by simp, fun u hu => by rw [List.mem_singleton.1 hu]; exact h.okT hp ht, List.pairwise_singleton _ _⟩, h.moved hp ht.1 ht.2.1⟩
  | [t, u], _, hR =>
    have ht := hR.ok t List.mem_cons_self
    have hu := hR.ok u (List.mem_cons_of_mem _ List.mem_cons_self)
    have hap := (List.pairwise_cons.1 hR.apart).1 u List.mem_cons_self
    have hT := h.okT hp ht
    have hU := h.okT hp hu
    have hne : g t.lot ≠ g u.lot := fun e => by
      have : t.lot = u.lot := by rw [← (h.gin _ ht.1).2, e, (h.gin _ hu.1).2]
      omega
    have hne2 : f t.aim ≠ f u.aim := fun e => hap.2 (h.f_inj ht.2.1 hu.2.1 e)
    have hm := h.moved (h.moved hp ht.1 ht.2.1) hu.1 hu.2.1
    by_cases c : g t.lot < g u.lot
    · exact ⟨[turN f g t, turN f g u], (mem_allR (by decide)).2 ⟨by simp, fun w hw => by
        rcases List.mem_cons.1 hw with rfl | hw
        · exact hT
        · rw [List.mem_singleton.1 hw]; exact hU, List.pairwise_cons.2 ⟨fun w hw => by rw [List.mem_singleton.1 hw]; exact ⟨c, hne2⟩, List.pairwise_singleton _ _⟩⟩, hm⟩
    · refine ⟨[turN f g u, turN f g t], (mem_allR (by decide)).2 ⟨by simp, fun w hw => by
        rcases List.mem_cons.1 hw with rfl | hw
        · exact hU
        · rw [List.mem_singleton.1 hw]; exact hT, List.pairwise_cons.2 ⟨fun w hw => by rw [List.mem_singleton.1 hw]; exact ⟨by show g u.lot < g t.lot; omega, fun e => hne2 e.symm⟩, List.pairwise_singleton _ _⟩⟩, ?_⟩
      have e : movedAll q [turN f g u, turN f g t] = Go.Proofs.Ytpnndljmhpepgaa.moved (Go.Proofs.Ytpnndljmhpepgaa.moved q (turN f g t)) (turN f g u) := by
        show Go.Proofs.Ytpnndljmhpepgaa.moved (Go.Proofs.Ytpnndljmhpepgaa.moved q (turN f g u)) (turN f g t) = _
        have h1 := hT.1.1
        have h2 := hU.1.1
        exact moved_swap (by show (g u.lot).toNat ≠ (g t.lot).toNat; have h1 : 0 ≤ g t.lot := h1; have h2 : 0 ≤ g u.lot := h2; omega)
      rw [e]; exact hm
  | t :: u :: w :: l, hlen, _ => simp at hlen; omega
theorem Ren.goR (h : Ren b o f g f' g') : ∀ (rs : List (List Tur)) {p q r : Pl}, PR b f g p q → Go.Proofs.Ytpnndljmhpepgaa.goR b 2 p rs = some r → ∃ rs' s, rs'.length = rs.length ∧ Go.Proofs.Ytpnndljmhpepgaa.goR o 2 q rs' = some s ∧ PR b f g r s
  | [], p, q, r, hp, e => by injection e with e; exact ⟨[], q, rfl, rfl, e ▸ hp⟩
  | l :: rs, p, q, r, hp, e => by
    obtain ⟨h1, h2⟩ := goR_cons e
    obtain ⟨l', g1, g2⟩ := h.round hp h1
    obtain ⟨rs', s, e1, e2, e3⟩ := h.goR rs g2 h2
    exact ⟨l' :: rs', s, by rw [List.length_cons, List.length_cons, e1], by rw [goR_cons' g1]; exact e2, e3⟩
theorem Ren.rounds (h : Ren b o f g f' g') : roundsE b 2 = roundsE o 2 ∧ (roundsV b 2).length = (roundsV o 2).length := by
  have hb := rnds h.right (g := 2) ⟨by decide, by decide⟩
  have ho := rnds h.right' (g := 2) ⟨by decide, by decide⟩
  have eb := hb.same h.right.lots (by decide) (cheap h.right (one_ok b))
  have eo := ho.same h.right'.lots (by decide) (cheap h.right' (one_ok o))
  have e1 := h.one.1
  have hE : roundsE b 2 = roundsE o 2 := by rw [eb, eo, e1]
  refine ⟨hE, ?_⟩
  rcases hb.err with e | e
  · obtain ⟨q, a1, a2, a3⟩ := hb.yes e
    obtain ⟨q', c1, c2, c3⟩ := ho.yes (hE ▸ e)
    obtain ⟨rs', s, d1, d2, d3⟩ := h.goR _ h.first a1
    obtain ⟨rs2, s2, d4, d5, d6⟩ := h.symm.goR _ h.symm.first c1
    have f1 := c3 rs' s d2 (h.made d3 a2)
    have f2 := a3 rs2 s2 d5 (h.symm.made d6 c2)
    omega
  · rw [(hb.no e).1, (ho.no (hE ▸ e)).1]
theorem Ren.fol (h : Ren b o f g f' g') {x : Int} (hx : b.is x) (h0 : 0 ≤ follows b x) : follows o (g x) = g (follows b x) := by
  have hr := h.right
  obtain ⟨h1, h2⟩ := fol_at h0
  have h3 := fol_aim hr h0
  have g1 := (h.gin _ h1).1
  refine fol_eq h.right' (h.isO.2 g1) ?_
  rw [h.lot _ h1, h.lot _ hx, h2]
  exact (aimN_ne h3).symm
theorem Ren.stp (h : Ren b o f g f' g') {i : Int} (hi : b.is i) {n : Nat} {x : Int} (hs : Stp b i n x) : Stp o (g i) n (g x) := by
  induction hs with
  | zero => exact .zero
  | step h1 h2 ih =>
    have hx := h1.is hi
    rw [← h.fol hx h2]
    refine .step ih ?_
    rw [h.fol hx h2]
    exact (h.gin _ (fol_at h2).1).1.1
theorem Ren.rings_le (h : Ren b o f g f' g') : (ringsL b).length ≤ (ringsL o).length := by
  have hr := h.right
  have hr' := h.right'
  obtain ⟨rs, r1, r2⟩ := choose_each (P := fun l r => l ∈ ringsL b ∧ r ∈ ringsL o ∧ ∃ x ∈ l, g x ∈ r) (ringsL b) fun l hl => by
    obtain ⟨i, hi, hR⟩ := (mem_rings hr).1 hl
    have hx : nth l 0 ∈ l := nth_mem (by have := hR.two; omega)
    have his := (hR.lot hr hx).1
    obtain ⟨h1, n, h2, h3⟩ := (ring_iff hr his).1 ⟨l, hl, hx⟩
    have g1 := (h.gin _ his).1
    obtain ⟨r, hr1, hr2⟩ := (ring_iff hr' (h.isO.2 g1)).2 ⟨by
      rw [h.lot _ his]
      show aimN f _ ≠ f _
      intro e
      have hb := at_bin hr his
      rcases at_to hr his with c | c
      · rw [c, aimN_no] at e
        have := (h.fin _ hb).1.1
        omega
      · rw [aimN_ne (by unfold Barn.isBin at c; omega)] at e
        exact h1 (h.f_inj c hb e), n, h2, h.stp his h3⟩
    exact ⟨r, hl, hr1, _, hx, hr2⟩
  have hn := each_nd (fun l l' r ⟨hl, hr1, x, hx, hxr⟩ ⟨hl', _, x', hx', hxr'⟩ => by
    obtain ⟨i, hi, hR⟩ := (mem_rings hr).1 hl
    obtain ⟨i', hi', hR'⟩ := (mem_rings hr).1 hl'
    obtain ⟨s, hs, hS⟩ := (mem_rings hr').1 hr1
    have key : ∀ {k : Int} {l : List Int}, Ring b k l → ∀ x ∈ l, g x ∈ r → g' s ∈ l := fun {k l} hR x hx hxr => by
      have his := (hR.lot hr hx).1
      have := hS.reach (C := fun y => b.is y ∧ g' y ∈ l) (fun y ⟨hy, hyl⟩ => by
        have h1 := hR.lot hr hyl
        have e := h.fol h1.1 h1.2.1.1
        rw [(h.gin' y hy).2] at e
        rw [e]
        have h2 := h.gin _ h1.2.1
        exact ⟨h2.1, by rw [h2.2]; exact hR.next hyl⟩) hxr ⟨(h.gin _ his).1, by rw [(h.gin _ his).2]; exact hx⟩
      exact this.2
    have e := hR.same hR' (key hR x hx hxr) (key hR' x' hx' hxr')
    have e1 : (i : Int) = i' := e
    have e2 : i = i' := by omega
    subst e2
    have a1 := ring_some hR
    have a2 := ring_some hR'
    rw [a1] at a2; injection a2) r2 (rings_nd hr)
  have := nodup_sub hn (L := ringsL o) fun r hr1 => by
    obtain ⟨l, _, _, hr1, _⟩ := each_mem r2 r hr1
    exact hr1
  omega
theorem Ren.rings (h : Ren b o f g f' g') : (ringsL b).length = (ringsL o).length := Nat.le_antisymm h.rings_le h.symm.rings_le
end Go.Proofs.Ytpnndljmhpepgaa

namespace Go.Proofs.Ytpnndljmhpepgaa
open Go Go.T
def putU {α : Type} (xs : List α) (l : List Int) (v : Nat → α) : Nat → List α
  | 0 => xs
  | k + 1 => (putU xs l v k).set (nth l k).toNat (v k)
theorem putU_succ {α : Type} (xs : List α) (l : List Int) (v : Nat → α) (k : Nat) : (putU xs l v k).set (nth l k).toNat (v k) = putU xs l v (k + 1) := rfl
theorem putU_len {α : Type} (xs : List α) (l : List Int) (v : Nat → α) : ∀ k, (putU xs l v k).length = xs.length
  | 0 => rfl
  | k + 1 => by rw [← putU_succ, List.length_set]; exact putU_len xs l v k
structure Perm (n : Nat) (l : List Int) : Prop where
  len : l.length = n
  nodup : l.Nodup
  mem : ∀ x, x ∈ l ↔ 0 ≤ x ∧ x < (n : Int)
theorem shuf_perm (s : Sk) (n : Nat) : Perm n (shufUp s n).1 := by
  obtain ⟨h1, h2, h3, _⟩ := shuf_spec s n
  exact ⟨h1, h2, h3⟩
theorem Perm.in_ {n : Nat} {l : List Int} (h : Perm n l) {k : Nat} (hk : k < n) : 0 ≤ nth l k ∧ nth l k < (n : Int) := (h.mem _).1 (nth_mem (by rw [h.len]; exact hk))
theorem putU_nth {α : Type} [Inhabited α] {n : Nat} {xs : List α} {l : List Int} {v : Nat → α} (h : Perm n l) (hx : xs.length = n) : ∀ k, k ≤ n → ∀ j, j < k → nth (putU xs l v k) (nth l j).toNat = v j
  | 0, _, j, hj => by omega
  | k + 1, hk, j, hj => by
    have h1 := h.in_ (k := j) (by omega)
    have h2 := h.in_ (k := k) (by omega)
    rw [← putU_succ, nthA_set (by rw [putU_len]; omega)]
    by_cases e : j = k
    · subst e; rw [if_pos rfl]
    · rw [if_neg]
      · exact putU_nth h hx k (by omega) j (by omega)
      · intro e'
        exact e (nodup_nth h.nodup (by rw [h.len]; omega) (by rw [h.len]; omega) (by omega))
def fwd (l : List Int) (k : Int) : Int := nth l k.toNat
def bwd (l : List Int) (y : Int) : Int := fidx (fun x => decide (x = y)) l
theorem Perm.inv {n : Nat} {l : List Int} (h : Perm n l) {y : Int} (hy : 0 ≤ y ∧ y < (n : Int)) : (0 ≤ bwd l y ∧ bwd l y < (n : Int)) ∧ fwd l (bwd l y) = y := by
  have h0 : decide (0 ≤ bwd l y) = true := by
    unfold bwd
    rw [fidx_ge, List.any_eq_true]
    exact ⟨y, (h.mem y).2 hy, decide_eq_true rfl⟩
  have h1 := of_decide_eq_true h0
  have h2 := fidx_at (p := fun x => decide (x = y)) (l := l) h1
  have h3 : (bwd l y).toNat < l.length := h2.1
  have h4 := h.len
  exact ⟨by omega, of_decide_eq_true h2.2⟩
theorem Perm.fwd_in {n : Nat} {l : List Int} (h : Perm n l) {k : Int} (hk : 0 ≤ k ∧ k < (n : Int)) : (0 ≤ fwd l k ∧ fwd l k < (n : Int)) ∧ bwd l (fwd l k) = k := by
  have h1 := h.in_ (k := k.toNat) (by omega)
  have h2 := h.inv h1
  have h4 := h.len
  refine ⟨h1, ?_⟩
  have := nodup_nth h.nodup (i := (bwd l (fwd l k)).toNat) (k := k.toNat) (by have := h2.1; unfold fwd at *; omega) (by omega) h2.2
  have h5 := h2.1
  unfold fwd at *
  omega
def lotN (l : List Int) (x : Lot) : Lot := ⟨x.sacks, fwd l x.inn, aimN (fwd l) x.aim⟩
def szU (b : Barn) (β : List Int) (k : Nat) : List Int := putU (List.replicate b.sizes.length 0) β (nth b.sizes) k
def ltU (b : Barn) (β lam : List Int) (k : Nat) : List Lot := putU (List.replicate b.lots.length ⟨0, 0, 0⟩) lam (fun i => lotN β (nth b.lots i)) k
theorem szU_len (b : Barn) (β : List Int) (k : Nat) : (szU b β k).length = b.sizes.length := by unfold szU; rw [putU_len, List.length_replicate]
theorem ltU_len (b : Barn) (β lam : List Int) (k : Nat) : (ltU b β lam k).length = b.lots.length := by unfold ltU; rw [putU_len, List.length_replicate]
theorem szU_succ (b : Barn) (β : List Int) (k : Nat) : (szU b β k).set (nth β k).toNat (nth b.sizes k) = szU b β (k + 1) := rfl
theorem ltU_succ (b : Barn) (β lam : List Int) (k : Nat) : (ltU b β lam k).set (nth lam k).toNat (lotN β (nth b.lots k)) = ltU b β lam (k + 1) := rfl
def named (b : Barn) (β lam : List Int) : Barn := ⟨szU b β b.sizes.length, ltU b β lam b.lots.length⟩
theorem ren_of {b : Barn} (hr : b.Right) {β lam : List Int} (hβ : Perm b.sizes.length β) (hl : Perm b.lots.length lam) : Ren b (named b β lam) (fwd β) (fwd lam) (bwd β) (bwd lam) := by
  refine ⟨hr, szU_len _ _ _, ltU_len _ _ _ _, fun k hk => hβ.fwd_in hk, fun k hk => hβ.inv hk, fun i hi => hl.fwd_in hi, fun i hi => hl.inv hi, fun k hk => ?_, fun i hi => ?_⟩
  · unfold Barn.isBin at hk
    exact putU_nth hβ (List.length_replicate) _ (Nat.le_refl _) k.toNat (by omega)
  · unfold Barn.is at hi
    exact putU_nth hl (List.length_replicate) _ (Nat.le_refl _) i.toNat (by omega)
end Go.Proofs.Ytpnndljmhpepgaa

namespace Go.Proofs.Ytpnndljmhpepgaa
open Go Go.T
set_option maxHeartbeats 4000000
theorem lnm {b o : Barn} {f g f' g' : Int → Int} (h : Ren b o f g f' g') : (((((((((((decide ((0 : Int) = 0) && decide ((0 : Int) = 0)) && decide (((ringsL b).length : Int) = (ringsL o).length)) && decide (planE b oneC = planE o oneC)) && decide (costR b oneC = costR o oneC)) && decide (planE b (sackC b) = planE o (sackC o))) && decide (costR b (sackC b) = costR o (sackC o))) && decide ((0 : Int) = 0)) && decide ((0 : Int) = 0)) && decide (placesV b = placesV o)) && decide (roundsE b 2 = roundsE o 2)) && decide (((roundsV b 2).length : Int) = (roundsV o 2).length)) = true := by
  have h1 := h.one
  have h2 := h.sack
  have h3 := h.rounds
  rw [decide_eq_true h1.1, decide_eq_true h1.2, decide_eq_true h2.1, decide_eq_true h2.2, decide_eq_true h.places, decide_eq_true h3.1, decide_eq_true (show ((roundsV b 2).length : Int) = (roundsV o 2).length by rw [h3.2]), decide_eq_true (show ((ringsL b).length : Int) = (ringsL o).length by rw [h.rings])]; rfl
theorem szU_zero (b : Barn) (l : List Int) : List.replicate (b.sizes.length : Int).toNat 0 = szU b l 0 := by unfold szU; rw [Int.toNat_natCast]; rfl
theorem ltU_zero (b : Barn) (l m : List Int) : List.replicate (b.lots.length : Int).toNat ⟨0, 0, 0⟩ = ltU b l m 0 := by unfold ltU; rw [Int.toNat_natCast]; rfl
theorem int_cong {m n : Nat} (h : m = n) : (m : Int) = n := by rw [h]
theorem aim_at {l : List Int} {k : Int} (h : ¬ k = -1) : nth l k.toNat = aimN (fwd l) k := (if_neg h).symm
theorem aim_no {l : List Int} {k : Int} (h : k = -1) : k = aimN (fwd l) k := by subst h; exact (if_pos rfl).symm
attribute [local irreducible] planE costR placesV roundsV roundsE ringsL checkB sackC szU ltU shufUp
attribute [local irreducible] dInt dBool dSl dPp dPtr dAgg dTup dClo dAny dEx dStr dGd dCells dVec dVs dRow dOp nth Tri Into TOps Ctr bodyPost Exit.then Exit.inBlock Code.wp Code.wpIn dWhen dPa dPe dAo dArr dMp dPm dMap dCJ CtrG CtrI OpY keepPost iterPost bodyPostM roundQ
set_option maxRecDepth 100000 in
theorem c_TurnNamed (g t : List Int) : Ctr Try.prog 7 [Ty.sl U8 g, Ty.sl U8 t] (Ty.bool true) := by
  refine fn_intro Try.func7 rfl (by decide) Try.ntmps7 (by exact Nat.le_of_ble_eq_true rfl) fun w0 M0 => ?_
  refine t_seq ?_
  refine t_region ?_
  refine asB rfl ?_
  refine r_nil ?_
  refine i_then ?_
  refine t_seq ?_
  obtain ⟨b, s1, hr, hb5, hl4, hM⟩ := made8 g 5 4 ⟨by decide, by decide⟩ ⟨by decide, by decide⟩
  have h0 := right_check hr
  have hs := small_right hr
  have hP := shuf_perm (skFill t) b.sizes.length
  have hQ := shuf_perm (shufUp (skFill t) b.sizes.length).2 b.lots.length
  have hPl := hP.len
  have hQl := hQ.len
  have hok := skFill_ok t
  have hok2 := (shuf_spec (skFill t) b.sizes.length).2.2.2
  have hok0 : 0 ≤ (skFill t).taken ∧ (skFill t).taken + 4000000000000000000 ≤ 4611686018427387904 := hok
  have hN : Ren b (named b (shufUp (skFill t) b.sizes.length).1 (shufUp (shufUp (skFill t) b.sizes.length).2 b.lots.length).1) _ _ _ _ := ren_of hr hP hQ
  have ho := right_check hN.right'
  have hos := small_right hN.right'
  refine t_region ?_
  refine mvS rfl ?_
  refine r_callG [(38, 10)] [38] [(38, Cont.cells 141 (skTys (skFill g)))] (c_Fill g) rfl rfl (by repeat (first | exact cv_nil | refine cv_cons ?_ ?_ | exact cv_pub rfl rfl)) pre_nil (post_cons (a := 38) (b := 10) (by exact List.mem_cons_self) rfl (cc_cells_eq (by exact List.mem_cons_self) rfl rfl rfl) post_nil) (cv_ptr (by exact List.mem_cons_self)) ?_
  refine r_callG [(38, 1000)] [] [(38, Cont.cells 141 (skTys (s1)))] (hM) rfl rfl (by repeat (first | exact cv_nil | refine cv_cons ?_ ?_ | exact cv_ptr List.mem_cons_self | exact cv_pub rfl rfl)) (pre_cons (a := 38) (b := 1000) (by exact List.mem_cons_self) rfl (cc_cells_eq (by exact List.mem_cons_self) rfl rfl rfl) pre_nil) (post_cons (a := 38) (b := 1000) (by exact List.mem_cons_self) rfl (cc_cells_eq (by exact List.mem_cons_self) rfl rfl rfl) post_nil) (cv_pub rfl rfl) ?_
  refine r_alloc rfl (by exact List.cons_ne_nil _ _) rfl ?_
  refine r_storeN rfl rfl (by decide) rfl rfl rfl rfl rfl rfl ?_
  refine r_nil ?_
  refine i_then ?_
  refine t_seq ?_
  refine t_region ?_
  refine mvS rfl ?_
  refine r_callG [(41, 10)] [41] [(41, Cont.cells 141 (skTys (skFill t)))] (c_Fill t) rfl rfl (by repeat (first | exact cv_nil | refine cv_cons ?_ ?_ | exact cv_pub rfl rfl)) pre_nil (post_cons (a := 41) (b := 10) (by exact List.mem_cons_self) rfl (cc_cells_eq (by exact List.mem_cons_self) rfl rfl rfl) post_nil) (cv_ptr (by exact List.mem_cons_self)) ?_
  refine asO rfl ?_
  refine r_nil ?_
  refine i_then ?_
  refine t_seq ?_
  refine t_region ?_
  refine mvO rfl ?_
  refine r_field_ptr rfl rfl rfl rfl rfl (by decide) ?_
  refine r_load_ptr rfl rfl (by decide) rfl rfl rfl ?_
  refine r_len rfl rfl rfl ?_
  refine r_callG [(41, 1000)] [] [(41, Cont.cells 141 (skTys ((shufUp (skFill t) b.sizes.length).2)))] (c_Shuffle (skFill t) b.sizes.length (by omega) ⟨by omega, by omega⟩) rfl rfl (by repeat (first | exact cv_nil | refine cv_cons ?_ ?_ | exact cv_ptr List.mem_cons_self | exact cv_pub rfl rfl)) (pre_cons (a := 41) (b := 1000) (by exact List.mem_cons_self) rfl (cc_cells_eq (by exact List.mem_cons_self) rfl rfl rfl) pre_nil) (post_cons (a := 41) (b := 1000) (by exact List.mem_cons_self) rfl (cc_cells_eq (by exact List.mem_cons_self) rfl rfl rfl) post_nil) (cv_pub rfl rfl) ?_
  refine asS rfl ?_
  refine r_nil ?_
  refine i_then ?_
  refine t_seq ?_
  refine t_draw mixed rfl ?_
  refine r_field_ptr rfl rfl rfl rfl rfl (by decide) ?_
  refine r_load_ptr rfl rfl (by decide) rfl rfl rfl ?_
  refine r_len rfl rfl rfl ?_
  refine r_makeV (E := I64) (x0 := 0) rfl rfl rfl rfl rfl rfl rfl (by decide) rfl (by omega) (by (dsimp only; omega)) (by omega) ?_
  refine r_field_ptr rfl rfl rfl rfl rfl (by decide) ?_
  refine r_load_ptr rfl rfl (by decide) rfl rfl rfl ?_
  refine r_len rfl rfl rfl ?_
  refine r_makeV (E := LotE) (x0 := ⟨0, 0, 0⟩) rfl rfl rfl rfl rfl rfl rfl (by decide) rfl (by omega) (by (dsimp only; omega)) (by omega) ?_
  refine r_build rfl rfl (by exact List.cons_ne_nil _ _) rfl (by repeat (first | exact (Parts.nil : Parts _ _ [] _) | (show Parts _ _ ((_, _) :: _) _; apply Parts.one; (· exact (rfl : _ = Ty.vs _ _)); (· exact rfl)))) (by exact (rfl : _ = some [_, _])) ?_
  refine r_alloc rfl (by exact List.cons_ne_nil _ _) rfl ?_
  refine r_storeN rfl rfl (by decide) rfl rfl rfl rfl rfl rfl ?_
  refine r_nil ?_
  refine ⟨by kernel_rfl, ?_⟩
  refine i_then ?_
  refine t_seq ?_
  refine t_seq ?_
  refine t_region ?_
  refine mvS rfl ?_
  refine r_len rfl rfl rfl ?_
  refine mvI rfl ?_
  refine r_nil ?_
  refine i_then ?_
  refine t_block ?_
  refine t_loop (fun (k : {k : Nat // k ≤ b.sizes.length}) => live [(5, Ty.ptr 6 0), (6, Ty.ptr 41 0), (7, Ty.sl I64 (shufUp (skFill t) b.sizes.length).1), (8, Ty.ptr 9 0), (55, Ty.sl I64 (shufUp (skFill t) b.sizes.length).1), (56, Ty.int .i64 b.sizes.length), (57, Ty.int .i64 (k.1 : Nat))] [(6, Cont.cells 25 (barnTys b)), (9, Cont.cells 25 [Ty.vs 50 b.sizes.length, Ty.vs 54 b.lots.length]), (41, Cont.cells 141 (skTys (shufUp (skFill t) b.sizes.length).2)), (50, Cont.vec I64 3 (szU b (shufUp (skFill t) b.sizes.length).1 k.1)), (54, Cont.vec LotE 57 (ltU b (shufUp (skFill t) b.sizes.length).1 (shufUp (shufUp (skFill t) b.sizes.length).2 b.lots.length).1 0))]) (fun k => b.sizes.length - k.1) (⟨0, by omega⟩) ?_ fun k => ?_
  · (refine Ent.mk' ?_ ?_ <;> (repeat' (first | exact allSub_zero | exact allTags_nil | refine allSub_succ' ?_ (Ty.sub_any _) | refine allSub_succ' ?_ (Ty.sub_refl _) | refine allTags_cons rfl (Cont.sub_refl _) ?_ | refine allTags_cons rfl ?_ ?_ | refine allSub_succ' ?_ ?_)))
    all_goals first | exact Ty.sub_int (int_cong hPl) | exact Cont.sub_vec (szU_zero b _) | exact Cont.sub_vec (ltU_zero b _ _)
  ·
    have hk := k.2
    have hzl := szU_len b (shufUp (skFill t) b.sizes.length).1 k.1
    refine t_seq ?_
    refine t_region ?_
    refine r_bin rfl rfl rfl ?_
    refine r_nil ?_
    refine i_then ?_
    refine t_seq ?_
    refine t_cond_dec rfl (fun hc1 => ?_) (fun hc1 => ?_)
    ·
      refine t_skip ?_
      refine i_then ?_
      refine t_seq ?_
      refine t_block ?_
      refine t_seq ?_
      refine t_region ?_
      refine mvI rfl ?_
      refine r_index_slN rfl rfl rfl rfl rfl rfl (by omega) ?_
      refine r_load_pp rfl rfl rfl rfl ?_
      refine asI rfl ?_
      refine asI rfl ?_
      refine r_nil ?_
      refine i_then ?_
      have hpi := hP.in_ (k := k.1) (by omega)
      refine t_draw mixed rfl ?_
      refine r_field_ptr rfl rfl rfl rfl rfl (by decide) ?_
      refine r_load_ptr rfl rfl (by decide) rfl rfl rfl ?_
      refine mvI rfl ?_
      refine r_field_ptr rfl rfl rfl rfl rfl (by decide) ?_
      refine r_load_ptr rfl rfl (by decide) rfl rfl rfl ?_
      refine mvI rfl ?_
      refine r_index_slN rfl rfl rfl rfl rfl rfl (by omega) ?_
      refine r_load_pp rfl rfl rfl rfl ?_
      refine r_index_vsI rfl rfl rfl rfl rfl (by omega) (by omega) ?_
      refine r_store_vecB rfl rfl rfl (by decide) rfl rfl (by exact (rfl : _ = Ty.int _ _)) rfl (by omega) (by decide) rfl rfl ?_
      refine r_nil ?_
      refine ⟨by kernel_rfl, ?_⟩
      refine i_block ?_
      refine i_then ?_
      refine t_region ?_
      refine r_add rfl rfl (by omega) (by omega) ?_
      refine mvI rfl ?_
      refine r_nil ?_
      refine i_round (⟨k.1 + 1, by omega⟩) ?_ (by show b.sizes.length - (k.1 + 1) < b.sizes.length - k.1; omega)
      (refine Ent.mk' ?_ ?_ <;> (repeat' (first | exact allSub_zero | exact allTags_nil | refine allSub_succ' ?_ (Ty.sub_any _) | refine allSub_succ' ?_ (Ty.sub_refl _) | refine allTags_cons rfl (Cont.sub_refl _) ?_ | refine allTags_cons rfl ?_ ?_)))
      all_goals skip
      all_goals exact Cont.sub_vec (szU_succ _ _ _)
    ·
      refine t_exit ?_
      refine i_then_exit ?_
      refine i_then_exit ?_
      refine i_block_exit rfl ?_
      refine i_then ?_
      refine t_seq ?_
      refine t_seq ?_
      refine t_region ?_
      refine mvO rfl ?_
      refine r_field_ptr rfl rfl rfl rfl rfl (by decide) ?_
      refine r_load_ptr rfl rfl (by decide) rfl rfl rfl ?_
      refine r_len rfl rfl rfl ?_
      refine r_callG [(41, 1000)] [] [(41, Cont.cells 141 (skTys ((shufUp (shufUp (skFill t) b.sizes.length).2 b.lots.length).2)))] (c_Shuffle (shufUp (skFill t) b.sizes.length).2 b.lots.length (by omega) ⟨by omega, by omega⟩) rfl rfl (by repeat (first | exact cv_nil | refine cv_cons ?_ ?_ | exact cv_ptr List.mem_cons_self | exact cv_pub rfl rfl)) (pre_cons (a := 41) (b := 1000) (by exact List.mem_cons_self) rfl (cc_cells_eq (by exact List.mem_cons_self) rfl rfl rfl) pre_nil) (post_cons (a := 41) (b := 1000) (by exact List.mem_cons_self) rfl (cc_cells_eq (by exact List.mem_cons_self) rfl rfl rfl) post_nil) (cv_pub rfl rfl) ?_
      refine r_len rfl rfl rfl ?_
      refine mvI rfl ?_
      refine r_nil ?_
      refine i_then ?_
      refine t_block ?_
      refine t_loop (fun (i : {i : Nat // i ≤ b.lots.length}) => live [(5, Ty.ptr 6 0), (7, Ty.sl I64 (shufUp (skFill t) b.sizes.length).1), (8, Ty.ptr 9 0), (76, Ty.sl I64 (shufUp (shufUp (skFill t) b.sizes.length).2 b.lots.length).1), (77, Ty.int .i64 b.lots.length), (78, Ty.int .i64 (i.1 : Nat))] [(6, Cont.cells 25 (barnTys b)), (9, Cont.cells 25 [Ty.vs 50 b.sizes.length, Ty.vs 54 b.lots.length]), (50, Cont.vec I64 3 (szU b (shufUp (skFill t) b.sizes.length).1 b.sizes.length)), (54, Cont.vec LotE 57 (ltU b (shufUp (skFill t) b.sizes.length).1 (shufUp (shufUp (skFill t) b.sizes.length).2 b.lots.length).1 i.1))]) (fun i => b.lots.length - i.1) (⟨0, by omega⟩) ?_ fun i => ?_
      · (refine Ent.mk' ?_ ?_ <;> (repeat' (first | exact allSub_zero | exact allTags_nil | refine allSub_succ' ?_ (Ty.sub_any _) | refine allSub_succ' ?_ (Ty.sub_refl _) | refine allTags_cons rfl (Cont.sub_refl _) ?_ | refine allTags_cons rfl ?_ ?_ | refine allSub_succ' ?_ ?_)))
        all_goals first | exact Ty.sub_int (int_cong hQl) | exact Cont.sub_vec (congrArg (szU b _) (show k.1 = b.sizes.length by have := k.2; omega))
      ·
        have hi := i.2
        have hll := ltU_len b (shufUp (skFill t) b.sizes.length).1 (shufUp (shufUp (skFill t) b.sizes.length).2 b.lots.length).1 i.1
        refine t_seq ?_
        refine t_region ?_
        refine r_bin rfl rfl rfl ?_
        refine r_nil ?_
        refine i_then ?_
        refine t_seq ?_
        refine t_cond_dec rfl (fun hc2 => ?_) (fun hc2 => ?_)
        ·
          refine t_skip ?_
          refine i_then ?_
          refine t_seq ?_
          refine t_block ?_
          refine t_seq ?_
          refine t_region ?_
          refine mvI rfl ?_
          refine r_index_slN rfl rfl rfl rfl rfl rfl (by omega) ?_
          refine r_load_pp rfl rfl rfl rfl ?_
          refine asI rfl ?_
          refine asI rfl ?_
          refine r_nil ?_
          refine i_then ?_
          refine t_seq ?_
          refine t_region ?_
          refine r_field_ptr rfl rfl rfl rfl rfl (by decide) ?_
          refine r_load_ptr rfl rfl (by decide) rfl rfl rfl ?_
          refine mvI rfl ?_
          refine r_index_slN rfl rfl rfl rfl rfl rfl (by omega) ?_
          refine r_load_ppN rfl rfl rfl (by exact Nat.le_of_ble_eq_true rfl) ?_
          refine r_alloc rfl (by exact List.cons_ne_nil _ _) rfl ?_
          refine r_storeN rfl rfl (by decide) rfl rfl rfl rfl rfl rfl ?_
          refine r_nil ?_
          refine i_then ?_
          refine t_join (J := live [(5, Ty.ptr 6 0), (7, Ty.sl I64 (shufUp (skFill t) b.sizes.length).1), (8, Ty.ptr 9 0), (12, Ty.int .i64 (nth (shufUp (shufUp (skFill t) b.sizes.length).2 b.lots.length).1 i.1)), (13, Ty.ptr 14 0), (76, Ty.sl I64 (shufUp (shufUp (skFill t) b.sizes.length).2 b.lots.length).1), (77, Ty.int .i64 b.lots.length), (78, Ty.int .i64 (i.1 : Nat))] [(6, Cont.cells 25 (barnTys b)), (9, Cont.cells 25 [Ty.vs 50 b.sizes.length, Ty.vs 54 b.lots.length]), (14, Cont.cells 57 (LotE.tys (lotN (shufUp (skFill t) b.sizes.length).1 (nth b.lots i.1)))), (50, Cont.vec I64 3 (szU b (shufUp (skFill t) b.sizes.length).1 b.sizes.length)), (54, Cont.vec LotE 57 (ltU b (shufUp (skFill t) b.sizes.length).1 (shufUp (shufUp (skFill t) b.sizes.length).2 b.lots.length).1 i.1))]) ?_ ?_
          ·
            refine t_seq ?_
            have hin := hr.inn _ (nth_mem (xs := b.lots) (k := i.1) (by omega))
            have hto := hr.aim _ (nth_mem (xs := b.lots) (k := i.1) (by omega))
            have hqi := hQ.in_ (k := i.1) (by omega)
            refine t_region ?_
            refine mvS rfl ?_
            refine r_field_ptr rfl rfl rfl rfl rfl (by decide) ?_
            refine r_load_ptr rfl rfl (by decide) rfl rfl rfl ?_
            refine r_index_sl rfl rfl rfl rfl rfl rfl hin.1 (by omega) ?_
            refine r_load_pp rfl rfl rfl rfl ?_
            refine r_field_ptr rfl rfl rfl rfl rfl (by decide) ?_
            refine r_store1 rfl rfl (by decide) rfl rfl (by exact (rfl : _ = Ty.int _ _)) rfl (by exact Nat.le_of_ble_eq_true rfl) rfl rfl (by exact rfl) ?_
            refine r_nil ?_
            refine i_then ?_
            refine t_seq ?_
            refine t_region ?_
            refine r_field_ptr rfl rfl rfl rfl rfl (by decide) ?_
            refine r_load_ptr rfl rfl (by decide) rfl rfl rfl ?_
            refine r_bin rfl rfl rfl ?_
            refine r_nil ?_
            refine i_then ?_
            refine t_cond_ndec rfl (fun hc3 => ?_) (fun hc3 => ?_)
            ·
              refine t_region ?_
              refine mvS rfl ?_
              refine r_field_ptr rfl rfl rfl rfl rfl (by decide) ?_
              refine r_load_ptr rfl rfl (by decide) rfl rfl rfl ?_
              refine r_index_sl rfl rfl rfl rfl rfl rfl (by omega) (by omega) ?_
              refine r_load_pp rfl rfl rfl rfl ?_
              refine r_field_ptr rfl rfl rfl rfl rfl (by decide) ?_
              refine r_store1 rfl rfl (by decide) rfl rfl (by exact (rfl : _ = Ty.int _ _)) rfl (by exact Nat.le_of_ble_eq_true rfl) rfl rfl (by exact rfl) ?_
              refine r_nil ?_
              refine i_join ?_
              (refine Ent.mk' ?_ ?_ <;> (repeat' (first | exact allSub_zero | exact allTags_nil | exact subs_nil | refine allSub_succ' ?_ (Ty.sub_any _) | refine allSub_succ' ?_ (Ty.sub_refl _) | refine allTags_cons rfl (Cont.sub_refl _) ?_ | refine allTags_cons rfl (Cont.sub_subs ?_) ?_ | refine subs_cons ?_ (Ty.sub_refl _) | refine subs_cons ?_ ?_)))
              all_goals exact Ty.sub_int (aim_at hc3)
            ·
              refine t_skip ?_
              refine i_join ?_
              (refine Ent.mk' ?_ ?_ <;> (repeat' (first | exact allSub_zero | exact allTags_nil | exact subs_nil | refine allSub_succ' ?_ (Ty.sub_any _) | refine allSub_succ' ?_ (Ty.sub_refl _) | refine allTags_cons rfl (Cont.sub_refl _) ?_ | refine allTags_cons rfl (Cont.sub_subs ?_) ?_ | refine subs_cons ?_ (Ty.sub_refl _) | refine subs_cons ?_ ?_)))
              all_goals exact Ty.sub_int (aim_no hc3)
          ·
            refine t_region ?_
            refine r_field_ptr rfl rfl rfl rfl rfl (by decide) ?_
            refine r_load_ptr rfl rfl (by decide) rfl rfl rfl ?_
            refine mvI rfl ?_
            refine r_load_ptrN rfl rfl (by decide) rfl rfl (by exact Nat.le_of_ble_eq_true rfl) ?_
            refine r_index_vsI rfl rfl rfl rfl rfl (hQ.in_ (k := i.1) (by omega)).1 (by have := hQ.in_ (k := i.1) (by omega); omega) ?_
            refine r_store_vecE (E := LotE) (z := lotN (shufUp (skFill t) b.sizes.length).1 (nth b.lots i.1)) (nth (shufUp (shufUp (skFill t) b.sizes.length).2 b.lots.length).1 i.1).toNat rfl rfl rfl (by decide) rfl rfl rfl (by have := hQ.in_ (k := i.1) (by omega); omega) ?_
            refine r_nil ?_
            refine i_block ?_
            refine i_then ?_
            refine t_region ?_
            refine r_add rfl rfl (by omega) (by omega) ?_
            refine mvI rfl ?_
            refine r_nil ?_
            refine i_round (⟨i.1 + 1, by omega⟩) ?_ (by show b.lots.length - (i.1 + 1) < b.lots.length - i.1; omega)
            (refine Ent.mk' ?_ ?_ <;> (repeat' (first | exact allSub_zero | exact allTags_nil | refine allSub_succ' ?_ (Ty.sub_any _) | refine allSub_succ' ?_ (Ty.sub_refl _) | refine allTags_cons rfl (Cont.sub_refl _) ?_ | refine allTags_cons rfl ?_ ?_)))
            all_goals skip
            all_goals exact Cont.sub_vec (ltU_succ _ _ _ _)
        ·
          refine t_exit ?_
          refine i_then_exit ?_
          refine i_then_exit ?_
          refine i_block_exit rfl ?_
          refine i_then ?_
          refine t_seq ?_
          obtain ⟨i, hi⟩ := i
          obtain rfl : i = b.lots.length := by have h1 : ¬ (i : Int) < (b.lots.length : Int) := hc2; have h2 : i ≤ b.lots.length := hi; omega
          refine t_pubC (tg := 50) [] [(9, Cont.cells 25 [Ty.sl I64 (szU b (shufUp (skFill t) b.sizes.length).1 b.sizes.length), Ty.vs 54 b.lots.length])] (by decide) rfl trivial ⟨pubC_cells rfl rfl ⟨pubTy_vs rfl (szU_len _ _ _) (by decide), pubTy_same rfl, trivial⟩, trivial⟩ ?_
          refine t_pubC (tg := 54) [] [(9, Cont.cells 25 (barnTys (named b (shufUp (skFill t) b.sizes.length).1 (shufUp (shufUp (skFill t) b.sizes.length).2 b.lots.length).1)))] (by decide) rfl trivial ⟨pubC_cells rfl rfl ⟨pubTy_same rfl, pubTy_vs rfl (ltU_len _ _ _ _) (by decide), trivial⟩, trivial⟩ ?_
          generalize hgo : named b (shufUp (skFill t) b.sizes.length).1 (shufUp (shufUp (skFill t) b.sizes.length).2 b.lots.length).1 = o at *
          refine t_forget (B := live [(5, Ty.ptr 6 0), (8, Ty.ptr 9 0)] [(6, Cont.cells 25 (barnTys b)), (9, Cont.cells 25 (barnTys o))]) ?_ ?_
          · (refine Ent.mk' ?_ ?_ <;> (repeat' (first | exact allSub_zero | exact allTags_nil | refine allSub_succ' ?_ (Ty.sub_any _) | refine allSub_succ' ?_ (Ty.sub_refl _) | refine allTags_cons rfl (Cont.sub_refl _) ?_)))
          refine t_region ?_
          refine r_load_ptrN rfl rfl (by decide) rfl rfl (by exact Nat.le_of_ble_eq_true rfl) ?_
          refine r_call (c_Rings b hs) rfl rfl rfl rfl rfl ?_
          refine mvT rfl ?_
          refine r_extract rfl rfl ?_
          refine r_extract rfl rfl ?_
          refine asS rfl ?_
          refine asI rfl ?_
          refine r_nil ?_
          refine i_then ?_
          refine t_seq ?_
          refine t_region ?_
          refine r_load_ptrN rfl rfl (by decide) rfl rfl (by exact Nat.le_of_ble_eq_true rfl) ?_
          refine r_call (c_Rings o hos) rfl rfl rfl rfl rfl ?_
          refine mvT rfl ?_
          refine r_extract rfl rfl ?_
          refine r_extract rfl rfl ?_
          refine asS rfl ?_
          refine asI rfl ?_
          refine r_nil ?_
          refine i_then ?_
          refine t_seq ?_
          refine t_region ?_
          refine r_load_ptrN rfl rfl (by decide) rfl rfl (by exact Nat.le_of_ble_eq_true rfl) ?_
          refine r_call (c_Fewest b hs) rfl rfl rfl rfl rfl ?_
          refine mvT rfl ?_
          refine r_extract rfl rfl ?_
          refine r_extract rfl rfl ?_
          refine asI rfl ?_
          refine asI rfl ?_
          refine r_nil ?_
          refine i_then ?_
          refine t_seq ?_
          refine t_region ?_
          refine r_load_ptrN rfl rfl (by decide) rfl rfl (by exact Nat.le_of_ble_eq_true rfl) ?_
          refine r_call (c_Fewest o hos) rfl rfl rfl rfl rfl ?_
          refine mvT rfl ?_
          refine r_extract rfl rfl ?_
          refine r_extract rfl rfl ?_
          refine asI rfl ?_
          refine asI rfl ?_
          refine r_nil ?_
          refine i_then ?_
          refine t_seq ?_
          refine t_region ?_
          refine r_load_ptrN rfl rfl (by decide) rfl rfl (by exact Nat.le_of_ble_eq_true rfl) ?_
          refine r_call (c_Lightest b hs) rfl rfl rfl rfl rfl ?_
          refine mvT rfl ?_
          refine r_extract rfl rfl ?_
          refine r_extract rfl rfl ?_
          refine r_extract rfl rfl ?_
          refine asS rfl ?_
          refine asI rfl ?_
          refine asI rfl ?_
          refine r_nil ?_
          refine i_then ?_
          refine t_seq ?_
          refine t_region ?_
          refine r_load_ptrN rfl rfl (by decide) rfl rfl (by exact Nat.le_of_ble_eq_true rfl) ?_
          refine r_call (c_Lightest o hos) rfl rfl rfl rfl rfl ?_
          refine mvT rfl ?_
          refine r_extract rfl rfl ?_
          refine r_extract rfl rfl ?_
          refine r_extract rfl rfl ?_
          refine asS rfl ?_
          refine asI rfl ?_
          refine asI rfl ?_
          refine r_nil ?_
          refine i_then ?_
          refine t_seq ?_
          refine t_region ?_
          refine r_load_ptrN rfl rfl (by decide) rfl rfl (by exact Nat.le_of_ble_eq_true rfl) ?_
          refine r_call (c_Places b hs) rfl rfl rfl rfl rfl ?_
          refine mvT rfl ?_
          refine r_extract rfl rfl ?_
          refine r_extract rfl rfl ?_
          refine asI rfl ?_
          refine asI rfl ?_
          refine r_nil ?_
          refine i_then ?_
          refine t_seq ?_
          refine t_region ?_
          refine r_load_ptrN rfl rfl (by decide) rfl rfl (by exact Nat.le_of_ble_eq_true rfl) ?_
          refine r_call (c_Places o hos) rfl rfl rfl rfl rfl ?_
          refine mvT rfl ?_
          refine r_extract rfl rfl ?_
          refine r_extract rfl rfl ?_
          refine asI rfl ?_
          refine asI rfl ?_
          refine r_nil ?_
          refine i_then ?_
          refine t_seq ?_
          refine t_region ?_
          refine r_load_ptrN rfl rfl (by decide) rfl rfl (by exact Nat.le_of_ble_eq_true rfl) ?_
          refine r_call (c_Least b hs 2) rfl rfl rfl rfl rfl ?_
          refine mvT rfl ?_
          refine r_extract rfl rfl ?_
          refine r_extract rfl rfl ?_
          refine asI rfl ?_
          refine asI rfl ?_
          refine r_nil ?_
          refine i_then ?_
          refine t_seq ?_
          refine t_region ?_
          refine r_load_ptrN rfl rfl (by decide) rfl rfl (by exact Nat.le_of_ble_eq_true rfl) ?_
          refine r_call (c_Least o hos 2) rfl rfl rfl rfl rfl ?_
          refine mvT rfl ?_
          refine r_extract rfl rfl ?_
          refine r_extract rfl rfl ?_
          refine asI rfl ?_
          refine asI rfl ?_
          refine r_nil ?_
          refine i_then ?_
          refine t_seq ?_
          refine t_as (s := 14) rfl (Ty.sub_sl (if_pos h0)) ?_
          refine t_as (s := 15) rfl (Ty.sub_int h0) ?_
          refine t_as (s := 16) rfl (Ty.sub_sl (if_pos ho)) ?_
          refine t_as (s := 17) rfl (Ty.sub_int ho) ?_
          refine t_as (s := 29) rfl (Ty.sub_int h0) ?_
          refine t_as (s := 31) rfl (Ty.sub_int ho) ?_
          refine t_region ?_
          refine mvI rfl ?_
          refine r_bin rfl rfl rfl ?_
          refine mvB rfl ?_
          apply r_guard (s := 163) rfl rfl rfl
          · intro hg; apply opT_of; (refine mvI rfl ?_); refine r_nil ?_; exact rfl
          · exact rfl
          · exact rfl
          apply r_guard (s := 163) rfl rfl rfl
          · intro hg; apply opT_strip (s := 164) rfl (by exact hg); apply opT_of; (refine r_bin rfl rfl rfl ?_); refine r_nil ?_; exact rfl
          · exact rfl
          · exact rfl
          refine r_and rfl rfl ?_
          refine mvB rfl ?_
          apply r_guard (s := 167) rfl rfl rfl
          · intro hg; apply opT_of; (refine mvS rfl ?_); refine r_nil ?_; exact rfl
          · exact rfl
          · exact rfl
          apply r_guard (s := 167) rfl rfl rfl
          · intro hg; apply opT_strip (s := 168) rfl (by exact hg); apply opT_of; (refine r_len rfl rfl rfl ?_); refine r_nil ?_; exact rfl
          · exact rfl
          · exact rfl
          apply r_guard (s := 167) rfl rfl rfl
          · intro hg; apply opT_of; (refine mvS rfl ?_); refine r_nil ?_; exact rfl
          · exact rfl
          · exact rfl
          apply r_guard (s := 167) rfl rfl rfl
          · intro hg; apply opT_strip (s := 170) rfl (by exact hg); apply opT_of; (refine r_len rfl rfl rfl ?_); refine r_nil ?_; exact rfl
          · exact rfl
          · exact rfl
          apply r_guard (s := 167) rfl rfl rfl
          · intro hg; apply opT_strip (s := 169) rfl (by exact hg); apply opT_strip (s := 171) rfl (by exact hg); apply opT_of; (refine r_bin rfl rfl rfl ?_); refine r_nil ?_; exact rfl
          · exact rfl
          · exact rfl
          refine r_and rfl rfl ?_
          refine mvB rfl ?_
          apply r_guard (s := 174) rfl rfl rfl
          · intro hg; apply opT_of; (refine mvI rfl ?_); refine r_nil ?_; exact rfl
          · exact rfl
          · exact rfl
          apply r_guard (s := 174) rfl rfl rfl
          · intro hg; apply opT_of; (refine mvI rfl ?_); refine r_nil ?_; exact rfl
          · exact rfl
          · exact rfl
          apply r_guard (s := 174) rfl rfl rfl
          · intro hg; apply opT_strip (s := 175) rfl (by (rw [hg]; rfl)); apply opT_strip (s := 176) rfl (by (rw [hg]; rfl)); apply opT_of; (refine r_bin rfl rfl rfl ?_); refine r_nil ?_; exact rfl
          · exact rfl
          · exact rfl
          refine r_and rfl rfl ?_
          refine mvB rfl ?_
          apply r_guard (s := 179) rfl rfl rfl
          · intro hg; apply opT_of; (refine mvI rfl ?_); refine r_nil ?_; exact rfl
          · exact rfl
          · exact rfl
          apply r_guard (s := 179) rfl rfl rfl
          · intro hg; apply opT_of; (refine mvI rfl ?_); refine r_nil ?_; exact rfl
          · exact rfl
          · exact rfl
          apply r_guard (s := 179) rfl rfl rfl
          · intro hg; apply opT_strip (s := 180) rfl (by (rw [hg]; rfl)); apply opT_strip (s := 181) rfl (by (rw [hg]; rfl)); apply opT_of; (refine r_bin rfl rfl rfl ?_); refine r_nil ?_; exact rfl
          · exact rfl
          · exact rfl
          refine r_and rfl rfl ?_
          refine mvB rfl ?_
          apply r_guard (s := 184) rfl rfl rfl
          · intro hg; apply opT_of; (refine mvI rfl ?_); refine r_nil ?_; exact rfl
          · exact rfl
          · exact rfl
          apply r_guard (s := 184) rfl rfl rfl
          · intro hg; apply opT_of; (refine mvI rfl ?_); refine r_nil ?_; exact rfl
          · exact rfl
          · exact rfl
          apply r_guard (s := 184) rfl rfl rfl
          · intro hg; apply opT_strip (s := 185) rfl (by (rw [hg]; rfl)); apply opT_strip (s := 186) rfl (by (rw [hg]; rfl)); apply opT_of; (refine r_bin rfl rfl rfl ?_); refine r_nil ?_; exact rfl
          · exact rfl
          · exact rfl
          refine r_and rfl rfl ?_
          refine mvB rfl ?_
          apply r_guard (s := 189) rfl rfl rfl
          · intro hg; apply opT_of; (refine mvI rfl ?_); refine r_nil ?_; exact rfl
          · exact rfl
          · exact rfl
          apply r_guard (s := 189) rfl rfl rfl
          · intro hg; apply opT_of; (refine mvI rfl ?_); refine r_nil ?_; exact rfl
          · exact rfl
          · exact rfl
          apply r_guard (s := 189) rfl rfl rfl
          · intro hg; apply opT_strip (s := 190) rfl (by (rw [hg]; rfl)); apply opT_strip (s := 191) rfl (by (rw [hg]; rfl)); apply opT_of; (refine r_bin rfl rfl rfl ?_); refine r_nil ?_; exact rfl
          · exact rfl
          · exact rfl
          refine r_and rfl rfl ?_
          refine mvB rfl ?_
          apply r_guard (s := 194) rfl rfl rfl
          · intro hg; apply opT_of; (refine mvI rfl ?_); refine r_nil ?_; exact rfl
          · exact rfl
          · exact rfl
          apply r_guard (s := 194) rfl rfl rfl
          · intro hg; apply opT_strip (s := 195) rfl (by (rw [hg]; rfl)); apply opT_of; (refine r_bin rfl rfl rfl ?_); refine r_nil ?_; exact rfl
          · exact rfl
          · exact rfl
          refine r_and rfl rfl ?_
          refine mvB rfl ?_
          apply r_guard (s := 198) rfl rfl rfl
          · intro hg; apply opT_of; (refine mvI rfl ?_); refine r_nil ?_; exact rfl
          · exact rfl
          · exact rfl
          apply r_guard (s := 198) rfl rfl rfl
          · intro hg; apply opT_strip (s := 199) rfl (by (rw [hg]; rfl)); apply opT_of; (refine r_bin rfl rfl rfl ?_); refine r_nil ?_; exact rfl
          · exact rfl
          · exact rfl
          refine r_and rfl rfl ?_
          refine mvB rfl ?_
          apply r_guard (s := 202) rfl rfl rfl
          · intro hg; apply opT_of; (refine mvI rfl ?_); refine r_nil ?_; exact rfl
          · exact rfl
          · exact rfl
          apply r_guard (s := 202) rfl rfl rfl
          · intro hg; apply opT_of; (refine mvI rfl ?_); refine r_nil ?_; exact rfl
          · exact rfl
          · exact rfl
          apply r_guard (s := 202) rfl rfl rfl
          · intro hg; apply opT_strip (s := 203) rfl (by (rw [hg]; rfl)); apply opT_strip (s := 204) rfl (by (rw [hg]; rfl)); apply opT_of; (refine r_bin rfl rfl rfl ?_); refine r_nil ?_; exact rfl
          · exact rfl
          · exact rfl
          refine r_and rfl rfl ?_
          refine mvB rfl ?_
          apply r_guard (s := 207) rfl rfl rfl
          · intro hg; apply opT_of; (refine mvI rfl ?_); refine r_nil ?_; exact rfl
          · exact rfl
          · exact rfl
          apply r_guard (s := 207) rfl rfl rfl
          · intro hg; apply opT_of; (refine mvI rfl ?_); refine r_nil ?_; exact rfl
          · exact rfl
          · exact rfl
          apply r_guard (s := 207) rfl rfl rfl
          · intro hg; apply opT_strip (s := 208) rfl (by (rw [hg]; rfl)); apply opT_strip (s := 209) rfl (by (rw [hg]; rfl)); apply opT_of; (refine r_bin rfl rfl rfl ?_); refine r_nil ?_; exact rfl
          · exact rfl
          · exact rfl
          refine r_and rfl rfl ?_
          refine mvB rfl ?_
          apply r_guard (s := 212) rfl rfl rfl
          · intro hg; apply opT_of; (refine mvI rfl ?_); refine r_nil ?_; exact rfl
          · exact rfl
          · exact rfl
          apply r_guard (s := 212) rfl rfl rfl
          · intro hg; apply opT_of; (refine mvI rfl ?_); refine r_nil ?_; exact rfl
          · exact rfl
          · exact rfl
          apply r_guard (s := 212) rfl rfl rfl
          · intro hg; apply opT_strip (s := 213) rfl (by (rw [hg]; rfl)); apply opT_strip (s := 214) rfl (by (rw [hg]; rfl)); apply opT_of; (refine r_bin rfl rfl rfl ?_); refine r_nil ?_; exact rfl
          · exact rfl
          · exact rfl
          refine r_and rfl rfl ?_
          refine mvB rfl ?_
          apply r_guard (s := 217) rfl rfl rfl
          · intro hg; apply opT_of; (refine r_call (c_awake) rfl rfl rfl rfl rfl ?_); refine r_nil ?_; exact rfl
          · exact rfl
          · exact rfl
          refine r_and rfl rfl ?_
          refine asB rfl ?_
          refine r_nil ?_
          refine i_then ?_
          refine t_ret ?_
          refine i_rp1 rfl rfl ?_
          all_goals skip
          all_goals exact ret_eq rfl rfl (congrArg Ty.bool ((congrArg (· && true) (lnm hN)).trans rfl))
end Go.Proofs.Ytpnndljmhpepgaa

namespace Go.T
open Go Go.RowKit Go.ChangeShapes Go.WideShapes Go.ChangeAt
def pubs : Tags := fun _ => none
theorem wf_pubs (w : World) : Wf w pubs := ⟨fun _ _ h => (by cases h), fun _ _ _ _ h => (by cases h)⟩
theorem pubs_zero : ∀ b t, pubs b = some t → t = 0 := fun _ _ h => by cases h
structure Rd {α : Type} (P : Program) (e : TypeId) (E : El α) : Prop where
  size : P.cellsOf e = E.size
  pos : 0 < E.size
  rd : ∀ {H : Type} {enc : TypeId × Value → H} {w : World} {base : Nat} {held : Bool} {n : Nat} {cs : List Value} {y : DataW H × List MemPlace}, DataW.trod enc P w base (fun _ => true) held n e cs = some y → ∃ x, dens w pubs (E.tys x) cs
section
variable {H : Type} {enc : TypeId × Value → H} {P : Program} {w : World} {base : Nat} {held : Bool} {α : Type} {E : El α} {t e : TypeId} {n : Nat} {cs : List Value} {y : DataW H × List MemPlace}
theorem rd_sl (hR : Rd P e E) (ht : P.underlying t = some (.slice e)) (h : DataW.trod enc P w base (fun _ => true) held n t cs = some y) : ∃ v xs, cs = [v] ∧ (Ty.sl E xs).den w pubs v := by
  rcases Go.Deep.open_slice ht h with ⟨rfl, _⟩ | ⟨a, len, cap, m, k, D, Pl, rfl, _, hl, hm, hmm, _, hel⟩
  · exact ⟨_, [], rfl, none, 0, rfl, Nat.le_refl _, Nat.zero_le _, fun h => absurd h (Nat.lt_irrefl _)⟩
  have hlm : len ≤ m := by rw [hmm]; simpa using hl
  have hX : ∀ i : Fin len, ∃ x : α, ∃ cs', w.cells? base (a.add (i.1 * P.cellsOf e)) (P.cellsOf e) = some cs' ∧ dens w pubs (E.tys x) cs' := fun i => by
    obtain ⟨cs', h1, h2⟩ := hel i.1 (Nat.lt_of_lt_of_le i.2 hlm)
    obtain ⟨x, hx⟩ := hR.rd h2
    exact ⟨x, cs', h1, hx⟩
  let X : Fin len → α := fun i => (hX i).choose
  have hXs : ∀ i : Fin len, ∃ cs', w.cells? base (a.add (i.1 * P.cellsOf e)) (P.cellsOf e) = some cs' ∧ dens w pubs (E.tys (X i)) cs' := fun i => (hX i).choose_spec
  have hlen : (List.ofFn X).length = len := by simp
  refine ⟨_, List.ofFn X, rfl, some a, cap, by rw [hlen], by rw [hlen]; exact hl, hm, fun h0 => ?_⟩
  rw [hlen] at h0
  have hcell : ∀ (i : Fin len) (j : Nat) (u : Ty), (E.tys (X i))[j]? = some u → ∃ v, w.cell? (a.add (i.1 * E.size + j)) = some v ∧ u.den w pubs v := fun i j u hu => by
    obtain ⟨cs', h1, h2⟩ := hXs i
    obtain ⟨v, hv, hd⟩ := dens_get h2 j u hu
    obtain ⟨_, g1, g2⟩ := World.cells?_some h1
    have hj : j < P.cellsOf e := by
      rw [hR.size, ← E.len (X i)]
      exact (List.getElem?_eq_some_iff.1 hu).1
    refine ⟨v, ?_, hd⟩
    have := g2 j hj
    rw [Go.Deep.add_add, hv, hR.size] at this
    exact this
  have hsz := hR.pos
  have hfirst : ∃ v, w.cell? (a.add 0) = some v := by
    obtain ⟨u, hu⟩ : ∃ u, (E.tys (X ⟨0, h0⟩))[0]? = some u := ⟨_, List.getElem?_eq_getElem (by rw [E.len]; exact hsz)⟩
    obtain ⟨v, hv, _⟩ := hcell ⟨0, h0⟩ 0 u hu
    exact ⟨v, by simpa using hv⟩
  obtain ⟨b, off, sp⟩ := a
  obtain ⟨v0, hv0⟩ := hfirst
  have hsp : sp = none := by simpa [Addr.add] using World.cell?_spot hv0
  subst hsp
  have hb : b < w.heap.size := by
    obtain ⟨cs', h1, _⟩ := hXs ⟨0, h0⟩
    have := World.cells?_block h1 (by rw [hR.size]; exact hsz)
    simpa [Addr.add] using this
  refine ⟨b, off, rfl, rfl, hb, fun i u hu => ?_⟩
  have hi : i < len * E.size := by
    have := (List.getElem?_eq_some_iff.1 hu).1
    rw [flat_len, hlen] at this; exact this
  have hk : i / E.size < len := Nat.div_lt_of_lt_mul (by rw [Nat.mul_comm]; exact hi)
  have hj : i % E.size < E.size := Nat.mod_lt _ hsz
  have hij : i / E.size * E.size + i % E.size = i := by rw [Nat.mul_comm]; exact Nat.div_add_mod i E.size
  have hu2 := hu
  rw [← hij, flat_get E _ _ _ (by rw [hlen]; exact hk) hj, List.getElem?_ofFn, dif_pos hk] at hu2
  obtain ⟨v, hv, hd⟩ := hcell ⟨i / E.size, hk⟩ (i % E.size) u hu2
  refine ⟨v, ?_, hd⟩
  rw [← Go.WideShapes.add_plain]
  rw [hij] at hv
  exact hv
theorem rd_sl1 {c : Value} (hR : Rd P e E) (ht : P.underlying t = some (.slice e)) (h : DataW.trod enc P w base (fun _ => true) held n t [c] = some y) : ∃ xs, (Ty.sl E xs).den w pubs c := by
  obtain ⟨v, xs, e, hd⟩ := rd_sl hR ht h
  exact ⟨xs, by rw [show c = v by simpa using e]; exact hd⟩
end
section
variable {w w' : World} {S K : Nat → Prop} {M' : Tags}
theorem le_block (le : Le S K w pubs w' M') {b : Nat} (hb : b < w.heap.size) : w'.heap[b]? = w.heap[b]? := (le.pub b hb rfl).2
theorem le_same (le : Le S K w pubs w' M') {p : MemPlace} (hp : p.block < w.heap.size) : w.sameAt w' p := by
  cases p with
  | cell b o => exact World.cell?_of_block (w := w) (le_block le hp)
  | map b => exact le_block le hp
theorem le_kept (le : Le S K w pubs w' M') (may : MemPlace → Prop) : w.keptBut w' may := by
  refine ⟨le.os, le.out, fun i hi => ?_⟩
  have e := le_block le hi
  rw [e]
  split
  · rename_i h1 h2
    rw [h1] at h2
    simp only [Option.some.injEq, Obj.cells.injEq] at h2
    obtain ⟨rfl, rfl, rfl⟩ := h2
    exact ⟨rfl, rfl, rfl, fun _ _ => rfl⟩
  · rename_i h1 h2
    rw [h1] at h2
    simp only [Option.some.injEq, Obj.map.injEq] at h2
    exact Or.inr ⟨h2.1.symm, h2.2.symm⟩
  · rfl
theorem le_frozen (le : Le S K w pubs w' M') {a : Addr} (ha : a.block < w.heap.size) : w'.frozen? a = w.frozen? a := by
  unfold World.frozen?
  rw [le_block le ha]
end
section
variable {H : Type} {enc : TypeId × Value → H} {P : Program}
theorem trodAll_stays (hl : laidOutB P = true) {w w' : World} {sp : Nat → Bool} : ∀ {ts : List TypeId} {vs : List Value} {ds : List (DataW H)} {ps : List MemPlace}, (∀ t ∈ ts, P.readableRec t = true ∧ t < P.types.size) →
    DataW.TrodAll enc P w 0 (fun _ => true) true ts vs ds ps → (∀ p ∈ ps, w.sameAt w' p) → (∀ p ∈ ps, sp p.block = true) → DataW.TrodAll enc P w' 0 sp true ts vs ds ps
  | [], [], [], _, _, h, _, _ => h
  | t :: ts, v :: vs, d :: ds, _, ht, ⟨p, q, h1, h2, e⟩, hs, hsp => by
    subst e
    have h0 := ht t List.mem_cons_self
    exact ⟨p, q, Go.WideElems.Trod_stays hl h0.1 h0.2 h1 (fun x hx => hs x (List.mem_append_left _ hx)) (fun x hx => hsp x (List.mem_append_left _ hx)),
      trodAll_stays hl (fun t h => ht t (List.mem_cons_of_mem _ h)) h2 (fun x hx => hs x (List.mem_append_right _ hx)) (fun x hx => hsp x (List.mem_append_right _ hx)), rfl⟩
theorem post_true {f : Func} {s : ChangeSpec} {apart fresh handsOn again : Bool} {W W' : World} {args : Array Value} {ds : List (DataW H)} {before : List MemPlace} {S K : Nat → Prop} {M' : Tags}
    (hl : laidOutB P = true) (hv : s.vars = []) (hrd : ∀ t ∈ f.params.toList, P.readableRec t = true ∧ t < P.types.size) {tb : TypeId} (htb : P.underlying tb = some .bool) (hrt : f.resultTypes = #[tb])
    (hW : DataW.Whole enc P f.params.toList s.vars apart W args.toList ds [] before) (hres : (s.fn H (ds ++ [])).results = [.lit (.bool true)]) (hargs : (s.fn H (ds ++ [])).args = ds) (hvars : (s.fn H (ds ++ [])).vars = [])
    (le : Le S K W pubs W' M') : s.post enc P f apart fresh handsOn again W args (.bool true) W' := by
  have hW0 := hW
  obtain ⟨p, q, hA, hV, hb, hfz, hn⟩ := hW0
  have hlt := DataW.TrodAll.lt hA
  have hq : q = [] := by rw [hv] at hV; exact (trodVars_none hV).2
  subst hq
  have hbp : before = p := by rw [hb]; simp
  have hre : ∀ (b : Nat) (sp : Nat → Bool) (hd : Bool), DataW.TrodAll enc P W' b sp hd f.resultTypes.toList ((Value.bool true).resultList f.resultTypes.size) (s.fn H (ds ++ [])).results [] := fun b sp hd => by
    rw [hrt, hres]; exact trodAll_mk1 (shut_bool htb true)
  have har : ∀ sp : Nat → Bool, (∀ x ∈ p, sp x.block = true) → DataW.TrodAll enc P W' 0 sp true f.params.toList args.toList (s.fn H (ds ++ [])).args p := fun sp hsp => by
    rw [hargs]; exact trodAll_stays hl hrd hA (fun x hx => le_same le (hlt x hx)) hsp
  have hva : ∀ sp : Nat → Bool, DataW.TrodVars enc P W' sp s.vars (s.fn H (ds ++ [])).vars [] := fun sp => by
    rw [hvars, hv]; exact rfl
  have hok : ∀ (j : Nat) (t : TypeId) (r : Value), f.resultTypes[j]? = some t → ((Value.bool true).resultList f.resultTypes.size)[j]? = some r → Value.okWide P W' .any 0 t r := by
    exact ok_one (by rw [hrt]) rfl (okWide_bool_mk htb true)
  refine ⟨ds, [], before, [], p, [], hW, hre _ _ _, har _ (fun x hx => by simpa using hlt x hx), hva _, World.keptBut_mono (fun x hx => hx) (le_kept le _), fun _ => ?_⟩
  refine ⟨hok, _, _, ([] ++ p) ++ [], ⟨[] ++ p, [], trodAll_append (har _ (fun _ _ => rfl)) (hre _ _ _), hva _, rfl, ?_, ?_⟩, ?_⟩
  · intro b off hp
    have hp' : MemPlace.cell b off ∈ p := by simpa using hp
    rw [le_frozen le (hlt _ hp')]
    exact hfz b off (by rw [hbp]; exact hp')
  · intro ha
    have := hn ha
    rw [hbp] at this
    simpa using this
  · intro x hx _
    rw [hbp]
    simpa using hx
end
end Go.T

namespace Go.Proofs.Ytpnndljmhpepgaa
open Go Go.T Go.RowKit Go.ChangeShapes Go.WideShapes Go.ChangeAt
theorem rdU8 : Rd Try.prog 5 U8 := ⟨by kernel_rfl, by decide, fun h => by
  obtain ⟨i, rfl, _⟩ := DataW.trod_int Try.underlying5 h
  exact ⟨i, rfl, trivial⟩⟩
section
variable {H : Type} {enc : TypeId × Value → H} {W : World} {base : Nat} {held : Bool} {v : Value} {d : DataW H} {p : List MemPlace}
set_option maxRecDepth 100000 in
theorem rd_bytes (hv : Value.okWide Try.prog W .any base 83 v) (h : DataW.Trod enc Try.prog W 0 (fun _ => true) held 83 v d p) : ∃ l, (Ty.sl U8 l).den W pubs v := by
  obtain ⟨a, len, cap, rfl⟩ := okWide_slice Try.underlying83 hv
  obtain ⟨n, hn⟩ := h
  exact rd_sl1 rdU8 Try.underlying83 (by simpa [Value.cells] using hn)
end
end Go.Proofs.Ytpnndljmhpepgaa
