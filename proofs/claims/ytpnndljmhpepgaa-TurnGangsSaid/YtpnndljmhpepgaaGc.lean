/- Lemmas: the program and the reference walked, plain laws. -/
import Derived.Test.YtpnndljmhpepgaaGb
namespace Go.Proofs.Ytpnndljmhpepgaa
open Go Go.T
section
variable {κ β : Type} [DecidableEq κ]
theorem mput_mem_keys (q : List (κ × β)) (k : κ) (v : β) (x : κ) : x ∈ (mput q k v).map Prod.fst ↔ x = k ∨ x ∈ q.map Prod.fst := by
  induction q with
  | nil => simp [mput]
  | cons y l ih =>
    simp only [mput]
    by_cases h : y.1 = k
    · subst h; simp
    · rw [if_neg h]; simp only [List.map_cons, List.mem_cons, ih]
      constructor
      · rintro (h | h | h)
        · exact .inr (.inl h)
        · exact .inl h
        · exact .inr (.inr h)
      · rintro (h | h | h)
        · exact .inr (.inl h)
        · exact .inl h
        · exact .inr (.inr h)
theorem mput_nodup (q : List (κ × β)) (k : κ) (v : β) (hn : (q.map Prod.fst).Nodup) : ((mput q k v).map Prod.fst).Nodup := by
  induction q with
  | nil => simp [mput]
  | cons y l ih =>
    rw [List.map_cons, List.nodup_cons] at hn
    simp only [mput]
    by_cases h : y.1 = k
    · subst h; rw [if_pos rfl, List.map_cons, List.nodup_cons]; exact hn
    · rw [if_neg h, List.map_cons, List.nodup_cons]
      refine ⟨fun hm => ?_, ih hn.2⟩
      rcases (mput_mem_keys l k v y.1).1 hm with e | e
      · exact h e
      · exact hn.1 e
theorem mget_some_mem {q : List (κ × β)} {k : κ} {v : β} (h : mget q k = some v) : k ∈ q.map Prod.fst := by
  induction q with
  | nil => cases h
  | cons y l ih =>
    simp only [mget] at h
    by_cases e : y.1 = k
    · subst e; simp
    · rw [if_neg e] at h; exact List.mem_cons_of_mem _ (ih h)
theorem mem_mget {q : List (κ × β)} {k : κ} (h : k ∈ q.map Prod.fst) : ∃ v, mget q k = some v := by
  induction q with
  | nil => cases h
  | cons y l ih =>
    simp only [mget]
    by_cases e : y.1 = k
    · exact ⟨_, if_pos e⟩
    · rw [if_neg e]; rw [List.map_cons, List.mem_cons] at h
      exact ih (h.resolve_left fun h => e h.symm)
theorem mget_not {q : List (κ × β)} {k : κ} (h : k ∉ q.map Prod.fst) : mget q k = none := by
  cases e : mget q k with
  | none => rfl
  | some v => exact absurd (mget_some_mem e) h
theorem mput_len (q : List (κ × β)) (k : κ) (v : β) (h : mget q k = none) : (mput q k v).length = q.length + 1 := by
  induction q with
  | nil => rfl
  | cons y l ih =>
    simp only [mget] at h
    by_cases e : y.1 = k
    · rw [if_pos e] at h; cases h
    · rw [if_neg e] at h; simp only [mput, if_neg e, List.length_cons, ih h]
theorem mdel_cons {α : Type} (y : κ × List α) (l : List (κ × List α)) (k : κ) : mdel (y :: l) k = if y.1 = k then l else y :: mdel l k := by
  unfold mdel
  rw [List.map_cons, List.findIdx?_cons]
  by_cases e : y.1 = k
  · rw [if_pos e, decide_eq_true e]; rfl
  · rw [if_neg e, decide_eq_false e]
    cases h : (l.map Prod.fst).findIdx? fun x => decide (x = k) with
    | none => simp
    | some i => simp
theorem mdel_keys {α : Type} (l : List (κ × List α)) (k : κ) : ∀ x, x ∈ (mdel l k).map Prod.fst → x ∈ l.map Prod.fst := by
  induction l with
  | nil => intro x h; exact h
  | cons y l ih =>
    intro x h
    rw [mdel_cons] at h
    by_cases e : y.1 = k
    · rw [if_pos e] at h; exact List.mem_cons_of_mem _ h
    · rw [if_neg e, List.map_cons, List.mem_cons] at h
      rw [List.map_cons, List.mem_cons]
      exact h.imp id (ih x)
theorem mdel_nodup {α : Type} (l : List (κ × List α)) (k : κ) (hn : (l.map Prod.fst).Nodup) : ((mdel l k).map Prod.fst).Nodup := by
  induction l with
  | nil => exact hn
  | cons y l ih =>
    rw [List.map_cons, List.nodup_cons] at hn
    rw [mdel_cons]
    by_cases e : y.1 = k
    · rw [if_pos e]; exact hn.2
    · rw [if_neg e, List.map_cons, List.nodup_cons]
      exact ⟨fun h => hn.1 (mdel_keys l k _ h), ih hn.2⟩
theorem mget_mdel {α : Type} (l : List (κ × List α)) (k k' : κ) (hn : (l.map Prod.fst).Nodup) : mget (mdel l k) k' = if k = k' then none else mget l k' := by
  induction l with
  | nil => show none = _; split <;> rfl
  | cons y l ih =>
    rw [List.map_cons, List.nodup_cons] at hn
    rw [mdel_cons]
    by_cases e : y.1 = k
    · rw [if_pos e]
      by_cases e2 : k = k'
      · rw [if_pos e2]; exact mget_not (by rw [← e2, ← e]; exact hn.1)
      · rw [if_neg e2]; simp only [mget]; rw [if_neg (by rw [e]; exact e2)]
    · rw [if_neg e]; simp only [mget]
      by_cases e3 : y.1 = k'
      · rw [if_pos e3, if_neg (by rw [← e3]; exact fun h => e h.symm), if_pos e3]
      · rw [if_neg e3, ih hn.2, if_neg e3]
end
def rowAt {α : Type} (q : List (Int × List α)) (m : Int) : List α := (mget q m).getD []
theorem rowAt_put {α : Type} (q : List (Int × List α)) (n : Int) (r : List α) (m : Int) : rowAt (mput q n r) m = if n = m then r else rowAt q m := by
  unfold rowAt; rw [mget_mput]; split <;> rfl
theorem rowAt_del {α : Type} (q : List (Int × List α)) (n m : Int) (hn : (q.map Prod.fst).Nodup) : rowAt (mdel q n) m = if n = m then [] else rowAt q m := by
  unfold rowAt; rw [mget_mdel q n m hn]; split <;> rfl
def cntQ {α : Type} : List (Int × List α) → Int
  | [] => 0
  | x :: l => x.2.length + cntQ l
theorem cntQ_put {α : Type} (q : List (Int × List α)) (n : Int) (r : List α) : cntQ (mput q n r) = cntQ q - (rowAt q n).length + r.length := by
  induction q with
  | nil => simp [mput, cntQ, rowAt, mget]
  | cons y l ih =>
    simp only [mput]
    by_cases e : y.1 = n
    · rw [if_pos e]; simp only [cntQ, rowAt, mget, if_pos e, Option.getD_some]; omega
    · rw [if_neg e]; simp only [cntQ, ih]
      have : rowAt (y :: l) n = rowAt l n := by simp only [rowAt, mget, if_neg e]
      rw [this]; omega
theorem cntQ_del {α : Type} (q : List (Int × List α)) (n : Int) : cntQ (mdel q n) = cntQ q - (rowAt q n).length := by
  induction q with
  | nil => simp [mdel, cntQ, rowAt, mget]
  | cons y l ih =>
    rw [mdel_cons]
    by_cases e : y.1 = n
    · rw [if_pos e]; simp only [cntQ, rowAt, mget, if_pos e, Option.getD_some]; omega
    · rw [if_neg e]; simp only [cntQ, ih]
      have : rowAt (y :: l) n = rowAt l n := by simp only [rowAt, mget, if_neg e]
      rw [this]; omega
theorem cntQ_nonneg {α : Type} : ∀ (q : List (Int × List α)), 0 ≤ cntQ q
  | [] => Int.le_refl _
  | x :: l => by have := cntQ_nonneg l; simp only [cntQ]; omega
theorem cntQ_row {α : Type} (q : List (Int × List α)) (n : Int) : (rowAt q n).length ≤ cntQ q := by
  have h1 := cntQ_del q n
  have h2 := cntQ_nonneg (mdel q n)
  omega
theorem cntQ_pos {α : Type} : ∀ (q : List (Int × List α)), 0 < cntQ q → (q.map Prod.fst).Nodup → ∃ m, rowAt q m ≠ []
  | [], h, _ => by cases h
  | x :: l, h, hn => by
    rw [List.map_cons, List.nodup_cons] at hn
    by_cases e : x.2 = []
    · have : 0 < cntQ l := by simp only [cntQ, e, List.length_nil] at h; omega
      obtain ⟨m, hm⟩ := cntQ_pos l this hn.2
      refine ⟨m, ?_⟩
      have hne : x.1 ≠ m := fun e2 => hm (by unfold rowAt; rw [mget_not (by rw [← e2]; exact hn.1)]; rfl)
      simp only [rowAt, mget, if_neg hne]; exact hm
    · exact ⟨x.1, by simp only [rowAt, mget, if_pos]; exact e⟩
theorem nodup_sub {α : Type} [DecidableEq α] : ∀ {l L : List α}, l.Nodup → (∀ x ∈ l, x ∈ L) → l.length ≤ L.length
  | [], _, _, _ => Nat.zero_le _
  | x :: l, L, hn, h => by
    rw [List.nodup_cons] at hn
    have h1 := List.length_erase_of_mem (h x List.mem_cons_self)
    have h2 := nodup_sub (l := l) (L := L.erase x) hn.2 fun y hy => (List.mem_erase_of_ne (fun (e : y = x) => hn.1 (by rw [← e]; exact hy))).2 (h y (List.mem_cons_of_mem _ hy))
    have h3 := List.length_pos_of_mem (h x List.mem_cons_self)
    simp only [List.length_cons]; omega
def allL : Nat → List (List Int)
  | 0 => [[]]
  | n + 1 => (List.range 7).flatMap fun (k : Nat) => (allL n).map fun l => (k : Int) :: l
theorem mem_allL : ∀ {n : Nat} {l : List Int}, l.length = n → (∀ x ∈ l, 0 ≤ x ∧ x < 7) → l ∈ allL n
  | 0, l, h, _ => by rw [List.length_eq_zero_iff.1 h]; exact List.mem_singleton.2 rfl
  | n + 1, [], h, _ => by cases h
  | n + 1, x :: l, h, hr => by
    have hx := hr x List.mem_cons_self
    exact List.mem_flatMap.2 ⟨x.toNat, List.mem_range.2 (by omega), List.mem_map.2 ⟨l, mem_allL (by simpa using h) fun y hy => hr y (List.mem_cons_of_mem _ hy), by rw [show ((x.toNat : Nat) : Int) = x by omega]⟩⟩
def placesN : Nat := (allL 6).length
abbrev Pl := Nums 6
instance : Inhabited Pl := ⟨⟨[0, 0, 0, 0, 0, 0], rfl⟩⟩
def moved (p : Pl) (t : Tur) : Pl := ⟨p.1.set t.lot.toNat t.aim, by rw [List.length_set]; exact p.2⟩
def takenP (b : Barn) (p : Pl) (k : Int) : Bool := (p.1.take b.lots.length).any fun n => decide (n = k)
def turnsAt (b : Barn) (p : Pl) (k : Nat) : List Tur := if takenP b p k = true then [] else ((List.range b.lots.length).filter fun (i : Nat) => b.hold k i).map fun (i : Nat) => ⟨i, k⟩
def turnsL (b : Barn) (p : Pl) : List Tur := (List.range b.sizes.length).flatMap (turnsAt b p)
theorem mem_turnsAt {b : Barn} {p : Pl} {k : Nat} {t : Tur} : t ∈ turnsAt b p k ↔ t.aim = k ∧ 0 ≤ t.lot ∧ t.lot < b.lots.length ∧ takenP b p k = false ∧ b.hold k t.lot = true := by
  unfold turnsAt
  cases h : takenP b p k with
  | true => simp
  | false =>
    rw [if_neg (by decide), List.mem_map]
    simp only [List.mem_filter, List.mem_range]
    constructor
    · rintro ⟨i, ⟨h1, h2⟩, rfl⟩
      exact ⟨rfl, by show 0 ≤ (i : Int); omega, by show (i : Int) < _; omega, by first | rfl | trivial, h2⟩
    · rintro ⟨h1, h2, h3, _, h4⟩
      refine ⟨t.lot.toNat, ⟨by omega, by rw [show ((t.lot.toNat : Nat) : Int) = t.lot by omega]; exact h4⟩, ?_⟩
      cases t; simp only [Tur.mk.injEq] at *; exact ⟨by omega, h1.symm⟩
theorem mem_turnsL {b : Barn} {p : Pl} {t : Tur} : t ∈ turnsL b p ↔ 0 ≤ t.lot ∧ t.lot < b.lots.length ∧ 0 ≤ t.aim ∧ t.aim < b.sizes.length ∧ takenP b p t.aim = false ∧ b.hold t.aim t.lot = true := by
  unfold turnsL
  rw [List.mem_flatMap]
  constructor
  · rintro ⟨k, hk, h⟩
    rw [List.mem_range] at hk
    obtain ⟨h1, h2, h3, h4, h5⟩ := mem_turnsAt.1 h
    rw [h1]
    exact ⟨h2, h3, by omega, by omega, h4, h5⟩
  · rintro ⟨h1, h2, h3, h4, h5, h6⟩
    have e : ((t.aim.toNat : Nat) : Int) = t.aim := by omega
    exact ⟨t.aim.toNat, List.mem_range.2 (by omega), mem_turnsAt.2 ⟨e.symm, h1, h2, by rw [e]; exact h5, by rw [e]; exact h6⟩⟩
def madeP (b : Barn) (p : Pl) : Bool := (List.range b.lots.length).all fun i => decide ((nth b.lots i).aim = -1) || decide ((nth b.lots i).aim = nth p.1 i)
def firstP (b : Barn) : Pl := ⟨((b.lots.map fun (l : Lot) => l.inn) ++ List.replicate 6 (0 : Int)).take 6, by rw [List.length_take, List.length_append, List.length_replicate]; omega⟩
def goP (b : Barn) : Pl → List Tur → Option Pl
  | p, [] => some p
  | p, t :: l => if t ∈ turnsL b p then goP b (moved p t) l else none
theorem goP_append (b : Barn) : ∀ (l : List Tur) (p : Pl) (l' : List Tur), goP b p (l ++ l') = (goP b p l).bind fun q => goP b q l'
  | [], p, l' => rfl
  | t :: l, p, l' => by
    show (if t ∈ turnsL b p then goP b (moved p t) (l ++ l') else none) = Option.bind (if t ∈ turnsL b p then goP b (moved p t) l else none) _
    by_cases h : t ∈ turnsL b p
    · rw [if_pos h, if_pos h, goP_append b l (moved p t) l']
    · rw [if_neg h, if_neg h]; rfl
theorem goP_one {b : Barn} {p : Pl} {t : Tur} (h : t ∈ turnsL b p) : goP b p [t] = some (moved p t) := if_pos h
theorem goP_snoc {b : Barn} {p q : Pl} {l : List Tur} {t : Tur} (h1 : goP b p l = some q) (h2 : t ∈ turnsL b q) : goP b p (l ++ [t]) = some (moved q t) := by
  rw [goP_append, h1]; exact goP_one h2
theorem goP_snoc_inv {b : Barn} {p r : Pl} {l : List Tur} {t : Tur} (h : goP b p (l ++ [t]) = some r) : ∃ q, goP b p l = some q ∧ t ∈ turnsL b q ∧ r = moved q t := by
  rw [goP_append] at h
  cases h1 : goP b p l with
  | none => rw [h1] at h; cases h
  | some q =>
    rw [h1] at h
    have h : (if t ∈ turnsL b q then some (moved q t) else none) = some r := h
    by_cases h2 : t ∈ turnsL b q
    · rw [if_pos h2] at h; injection h with h; exact ⟨q, rfl, h2, h.symm⟩
    · rw [if_neg h2] at h; cases h
def costL (c : Tur → Int) (l : List Tur) : Int := (l.map c).sum
theorem costL_append (c : Tur → Int) (l l' : List Tur) : costL c (l ++ l') = costL c l + costL c l' := by
  unfold costL; rw [List.map_append, List.sum_append]
theorem costL_one (c : Tur → Int) (t : Tur) : costL c [t] = c t := by simp [costL]
theorem list_snoc {α : Type} : ∀ (l : List α), l = [] ∨ ∃ l' x, l = l' ++ [x]
  | [] => .inl rfl
  | x :: l => by
    rcases list_snoc l with h | ⟨l', y, h⟩
    · subst h; exact .inr ⟨[], x, rfl⟩
    · subst h; exact .inr ⟨x :: l', y, rfl⟩
theorem snoc_ind {α : Type} {C : List α → Prop} (h0 : C []) (h1 : ∀ l x, C l → C (l ++ [x])) : ∀ l, C l := by
  intro l
  have key : ∀ n (l : List α), l.length = n → C l := by
    intro n
    induction n with
    | zero => intro l h; rw [List.length_eq_zero_iff.1 h]; exact h0
    | succ n ih =>
      intro l h
      rcases list_snoc l with e | ⟨l', x, e⟩
      · subst e; cases h
      · subst e; exact h1 l' x (ih l' (by simpa using h))
  exact key _ l rfl
def inBins (p : Pl) : Prop := ∀ x ∈ p.1, 0 ≤ x ∧ x < 7
theorem first_bins {b : Barn} (h : b.Right) : inBins (firstP b) := fun x hx => by
  have hx : x ∈ ((b.lots.map fun (l : Lot) => l.inn) ++ List.replicate 6 (0 : Int)).take 6 := hx
  rcases List.mem_append.1 (List.mem_of_mem_take hx) with hx | hx
  · obtain ⟨l, hl, rfl⟩ := List.mem_map.1 hx
    have h1 := h.inn l hl; have h2 := h.bins; omega
  · rw [List.eq_of_mem_replicate hx]; omega
theorem moved_bins {b : Barn} (h : b.Right) {p : Pl} {t : Tur} (hp : inBins p) (ht : t ∈ turnsL b p) : inBins (moved p t) := fun x hx => by
  rcases List.mem_or_eq_of_mem_set hx with hx | hx
  · exact hp x hx
  · have h1 := mem_turnsL.1 ht; have h2 := h.bins; omega
theorem goP_bins {b : Barn} (h : b.Right) : ∀ (l : List Tur) {p q : Pl}, inBins p → goP b p l = some q → inBins q
  | [], p, q, hp, e => by injection e with e; exact e ▸ hp
  | t :: l, p, q, hp, e => by
    have e : (if t ∈ turnsL b p then goP b (moved p t) l else none) = some q := e
    by_cases ht : t ∈ turnsL b p
    · rw [if_pos ht] at e; exact goP_bins h l (moved_bins h hp ht) e
    · rw [if_neg ht] at e; cases e
theorem few_places {l : List Pl} (hn : l.Nodup) (h : ∀ p ∈ l, inBins p) : l.length ≤ placesN := by
  have := nodup_sub (l := l.map Subtype.val) (L := allL 6) (by
    rw [List.nodup_iff_pairwise_ne, List.pairwise_map]
    exact hn.imp fun hab e => hab (Subtype.ext e)) fun x hx => by
      obtain ⟨p, hp, rfl⟩ := List.mem_map.1 hx
      exact mem_allL p.2 (h p hp)
  rwa [List.length_map] at this
theorem turnsAt_len (b : Barn) (p : Pl) (k : Nat) : (turnsAt b p k).length ≤ b.lots.length := by
  unfold turnsAt
  split
  · exact Nat.zero_le _
  · rw [List.length_map]; exact Nat.le_trans (List.length_filter_le _ _) (by simp)
theorem flat_len {α β : Type} (f : α → List β) (m : Nat) (h : ∀ x, (f x).length ≤ m) : ∀ l : List α, (l.flatMap f).length ≤ l.length * m
  | [] => Nat.zero_le _
  | x :: l => by
    have h1 := flat_len f m h l
    have h2 := h x
    rw [List.flatMap_cons, List.length_append, List.length_cons, Nat.succ_mul]; omega
theorem turnsL_len {b : Barn} (h : b.Right) (p : Pl) : (turnsL b p).length ≤ 42 := by
  have h1 := flat_len (turnsAt b p) b.lots.length (turnsAt_len b p) (List.range b.sizes.length)
  rw [List.length_range] at h1
  have h2 : b.sizes.length * b.lots.length ≤ 7 * 6 := Nat.mul_le_mul h.bins.2 h.lots
  exact Nat.le_trans h1 h2
attribute [irreducible] placesN
end Go.Proofs.Ytpnndljmhpepgaa

namespace Go.Proofs.Ytpnndljmhpepgaa
open Go Go.T
structure Way where
  frm : Pl
  byT : List Tur
  all : Int
  deriving Inhabited
structure Found where
  ways : List (Pl × Way)
  last : Pl
  is : Bool
  deriving Inhabited
def pl0 : Pl := ⟨[0, 0, 0, 0, 0, 0], rfl⟩
def way0 : Way := ⟨pl0, [], 0⟩
structure St where
  ways : List (Pl × Way)
  queue : List (Int × List Pl)
  left : Int
  done : List (Pl × Bool)
  now : Int
def metB (ways : List (Pl × Way)) (q : Pl) (n : Int) : Bool := (mget ways q).isSome && decide (min n ((mget ways q).getD way0).all = ((mget ways q).getD way0).all)
theorem metB_true {ways : List (Pl × Way)} {q : Pl} {n : Int} (h : metB ways q n = true) : ∃ w, mget ways q = some w ∧ w.all ≤ n := by
  unfold metB at h
  rw [Bool.and_eq_true] at h
  cases e : mget ways q with
  | none => rw [e] at h; exact absurd h.1 (by decide)
  | some w => rw [e] at h; have := of_decide_eq_true h.2; simp only [Option.getD_some] at this; exact ⟨w, rfl, by omega⟩
theorem metB_false {ways : List (Pl × Way)} {q : Pl} {n : Int} (h : metB ways q n = false) {w : Way} (e : mget ways q = some w) : n < w.all := by
  unfold metB at h
  rw [e] at h
  simp only [Option.isSome_some, Bool.true_and, Option.getD_some, decide_eq_false_iff_not] at h; omega
def relax (c : Tur → Int) (p : Pl) (x : St) (t : Tur) : St :=
  if metB x.ways (moved p t) (x.now + c t) = true then x else
    { x with ways := mput x.ways (moved p t) ⟨p, [t], x.now + c t⟩, queue := mput x.queue (x.now + c t) (rowAt x.queue (x.now + c t) ++ [moved p t]), left := x.left + 1 }
theorem relax_yes {c : Tur → Int} {p : Pl} {x : St} {t : Tur} (h : metB x.ways (moved p t) (x.now + c t) = true) : relax c p x t = x := if_pos h
theorem relax_no {c : Tur → Int} {p : Pl} {x : St} {t : Tur} (h : metB x.ways (moved p t) (x.now + c t) = false) : relax c p x t = { x with ways := mput x.ways (moved p t) ⟨p, [t], x.now + c t⟩, queue := mput x.queue (x.now + c t) (rowAt x.queue (x.now + c t) ++ [moved p t]), left := x.left + 1 } := if_neg (by rw [h]; decide)
theorem relax_done (c : Tur → Int) (p : Pl) (x : St) (t : Tur) : (relax c p x t).done = x.done := by unfold relax; split <;> rfl
theorem relax_now (c : Tur → Int) (p : Pl) (x : St) (t : Tur) : (relax c p x t).now = x.now := by unfold relax; split <;> rfl
structure Inv (b : Barn) (c : Tur → Int) (all : Bool) (F : Pl → List Tur) (R : Int) (x : St) : Prop where
  now0 : 0 ≤ x.now
  start : mget x.ways (firstP b) = some way0
  keys : (x.ways.map Prod.fst).Nodup
  qkeys : (x.queue.map Prod.fst).Nodup
  dkeys : (x.done.map Prod.fst).Nodup
  dval : ∀ p v, mget x.done p = some v → v = true
  via : ∀ q w, mget x.ways q = some w → q = firstP b ∨ ∃ t w', w.byT = [t] ∧ t ∈ turnsL b w.frm ∧ q = moved w.frm t ∧ mget x.done w.frm = some true ∧ mget x.ways w.frm = some w' ∧ w.all = w'.all + c t
  walk : ∀ q w, mget x.ways q = some w → ∃ l, goP b (firstP b) l = some q ∧ costL c l = w.all
  fin : ∀ p, mget x.done p = some true → ∃ w, mget x.ways p = some w ∧ w.all ≤ x.now ∧ ∀ t ∈ F p, ∃ w', mget x.ways (moved p t) = some w' ∧ w'.all ≤ w.all + c t
  wait : ∀ q w, mget x.ways q = some w → mget x.done q = none → x.now ≤ w.all ∧ q ∈ rowAt x.queue w.all
  que : ∀ m q, q ∈ rowAt x.queue m → x.now ≤ m ∧ m ≤ 300 * x.done.length ∧ ∃ w, mget x.ways q = some w ∧ w.all ≤ m
  left : x.left = cntQ x.queue
  lim : x.left + R ≤ 1 + 42 * x.done.length
  no : all = false → ∀ p, mget x.done p = some true → madeP b p = false
  cap : ∀ q w, mget x.ways q = some w → w.all ≤ 300 * x.done.length
structure At (b : Barn) (p : Pl) (x : St) : Prop where
  done : mget x.done p = some true
  way : ∃ w, mget x.ways p = some w ∧ w.all = x.now
  cap : x.now + 300 ≤ 300 * x.done.length
variable {b : Barn} {c : Tur → Int} {all : Bool} {F : Pl → List Tur} {R : Int} {x : St} {p : Pl} {t : Tur}
theorem Inv.weaken {R' : Int} (h : Inv b c all F R x) (hR : R' ≤ R) : Inv b c all F R' x := { h with lim := by have := h.lim; omega }
theorem Inv.fins {F' : Pl → List Tur} (h : Inv b c all F R x) (hF : ∀ p, mget x.done p = some true → ∀ t ∈ F' p, t ∈ F p) : Inv b c all F' R x :=
  { h with fin := fun p hp => let ⟨w, h1, h2, h3⟩ := h.fin p hp; ⟨w, h1, h2, fun t ht => h3 t (hF p hp t ht)⟩ }
theorem ne_moved (_ : Inv b c all F R x) (_ : At b p x) (hct : 1 ≤ c t) (hm : metB x.ways (moved p t) (x.now + c t) = false) {r : Pl} {w : Way} (hw : mget x.ways r = some w) (hle : w.all ≤ x.now) : moved p t ≠ r := fun e => by
  subst e
  have := metB_false hm hw
  omega
theorem relax_inv (h : Inv b c all F R x) (hp : At b p x) (ht : t ∈ turnsL b p) (hct : 1 ≤ c t ∧ c t ≤ 300) : Inv b c all (fun r => if r = p then F r ++ [t] else F r) (R - 1) (relax c p x t) ∧ At b p (relax c p x t) := by
  obtain ⟨hpd, ⟨wp, hwp, hwn⟩, hcap⟩ := hp
  have hp : At b p x := ⟨hpd, ⟨wp, hwp, hwn⟩, hcap⟩
  have h0 := h.now0
  cases hm : metB x.ways (moved p t) (x.now + c t) with
  | true =>
    rw [relax_yes hm]
    refine ⟨{ h with fin := fun r hr => ?_, lim := by have := h.lim; omega }, hp⟩
    obtain ⟨w, h1, h2, h3⟩ := h.fin r hr
    refine ⟨w, h1, h2, fun u hu => ?_⟩
    by_cases e : r = p
    · subst e
      rw [if_pos rfl, List.mem_append, List.mem_singleton] at hu
      rcases hu with hu | hu
      · exact h3 u hu
      · subst hu
        obtain ⟨w', e1, e2⟩ := metB_true hm
        rw [hwp] at h1; injection h1 with h1
        exact ⟨w', e1, by rw [← h1, hwn]; exact e2⟩
    · rw [if_neg e] at hu; exact h3 u hu
  | false =>
    rw [relax_no hm]
    have hnf : moved p t ≠ firstP b := ne_moved h hp hct.1 hm h.start h0
    have hnd : ∀ r, mget x.done r = some true → moved p t ≠ r := fun r hr => by
      obtain ⟨w, h1, h2, _⟩ := h.fin r hr
      exact ne_moved h hp hct.1 hm h1 h2
    have hget : ∀ r, mget (mput x.ways (moved p t) ⟨p, [t], x.now + c t⟩) r = if moved p t = r then some ⟨p, [t], x.now + c t⟩ else mget x.ways r := fun r => mget_mput _ _ _ _
    refine ⟨⟨h0, by rw [hget, if_neg hnf]; exact h.start, mput_nodup _ _ _ h.keys, mput_nodup _ _ _ h.qkeys, h.dkeys, h.dval, fun q w hq => ?_, fun q w hq => ?_, fun r hr => ?_, fun q w hq hqd => ?_, fun m q hq => ?_, ?_, ?_, h.no, fun q w hq => ?_⟩, hpd, ⟨wp, by rw [hget, if_neg (hnd p hpd)]; exact hwp, hwn⟩, hcap⟩
    · rw [hget] at hq
      by_cases e : moved p t = q
      · rw [if_pos e] at hq; injection hq with hq; subst hq
        exact .inr ⟨t, wp, rfl, ht, e.symm, hpd, by rw [hget, if_neg (hnd p hpd)]; exact hwp, by show x.now + c t = wp.all + c t; omega⟩
      · rw [if_neg e] at hq
        rcases h.via q w hq with h1 | ⟨u, w', h1, h2, h3, h4, h5, h6⟩
        · exact .inl h1
        · exact .inr ⟨u, w', h1, h2, h3, h4, by rw [hget, if_neg (hnd _ h4)]; exact h5, h6⟩
    · rw [hget] at hq
      by_cases e : moved p t = q
      · rw [if_pos e] at hq; injection hq with hq; subst hq
        obtain ⟨l, h1, h2⟩ := h.walk p wp hwp
        exact ⟨l ++ [t], by rw [← e]; exact goP_snoc h1 ht, by rw [costL_append, costL_one, h2, hwn]⟩
      · rw [if_neg e] at hq; exact h.walk q w hq
    · obtain ⟨w, h1, h2, h3⟩ := h.fin r hr
      refine ⟨w, by rw [hget, if_neg (hnd r hr)]; exact h1, h2, fun u hu => ?_⟩
      have old : (∃ w', mget x.ways (moved r u) = some w' ∧ w'.all ≤ w.all + c u) → ∃ w', mget (mput x.ways (moved p t) ⟨p, [t], x.now + c t⟩) (moved r u) = some w' ∧ w'.all ≤ w.all + c u := fun ⟨w', g1, g2⟩ => by
        rw [hget]
        by_cases e : moved p t = moved r u
        · rw [if_pos e]; refine ⟨_, rfl, ?_⟩
          have := metB_false hm (by rw [e]; exact g1)
          show x.now + c t ≤ _; omega
        · rw [if_neg e]; exact ⟨w', g1, g2⟩
      by_cases e : r = p
      · subst e
        rw [if_pos rfl, List.mem_append, List.mem_singleton] at hu
        rcases hu with hu | hu
        · exact old (h3 u hu)
        · subst hu
          rw [hwp] at h1; injection h1 with h1
          exact ⟨_, by rw [hget, if_pos rfl], by show x.now + c u ≤ _; rw [← h1, hwn]; omega⟩
      · rw [if_neg e] at hu; exact old (h3 u hu)
    · rw [hget] at hq
      show x.now ≤ w.all ∧ q ∈ rowAt (mput x.queue (x.now + c t) (rowAt x.queue (x.now + c t) ++ [moved p t])) w.all
      rw [rowAt_put]
      by_cases e : moved p t = q
      · rw [if_pos e] at hq; injection hq with hq; subst hq
        rw [if_pos rfl]
        exact ⟨by show x.now ≤ x.now + c t; omega, List.mem_append.2 (.inr (List.mem_singleton.2 e.symm))⟩
      · rw [if_neg e] at hq
        obtain ⟨h1, h2⟩ := h.wait q w hq hqd
        refine ⟨h1, ?_⟩
        by_cases e2 : x.now + c t = w.all
        · rw [if_pos e2, e2]; exact List.mem_append.2 (.inl h2)
        · rw [if_neg e2]; exact h2
    · have hq : q ∈ rowAt (mput x.queue (x.now + c t) (rowAt x.queue (x.now + c t) ++ [moved p t])) m := hq
      rw [rowAt_put] at hq
      show x.now ≤ m ∧ m ≤ 300 * x.done.length ∧ ∃ w, mget (mput x.ways (moved p t) ⟨p, [t], x.now + c t⟩) q = some w ∧ w.all ≤ m
      rw [hget]
      have old : q ∈ rowAt x.queue m → x.now ≤ m ∧ m ≤ 300 * x.done.length ∧ ∃ w, (if moved p t = q then some ⟨p, [t], x.now + c t⟩ else mget x.ways q) = some w ∧ w.all ≤ m := fun hq => by
        obtain ⟨h1, h2, w, h3, h4⟩ := h.que m q hq
        refine ⟨h1, h2, ?_⟩
        by_cases e : moved p t = q
        · rw [if_pos e]
          have := metB_false hm (by rw [e]; exact h3)
          exact ⟨_, rfl, by show x.now + c t ≤ m; omega⟩
        · rw [if_neg e]; exact ⟨w, h3, h4⟩
      by_cases e2 : x.now + c t = m
      · rw [if_pos e2, List.mem_append, List.mem_singleton] at hq
        rcases hq with hq | hq
        · exact old (by rw [← e2]; exact hq)
        · subst hq
          rw [if_pos rfl]
          exact ⟨by omega, by omega, _, rfl, by show x.now + c t ≤ m; omega⟩
      · rw [if_neg e2] at hq; exact old hq
    · show x.left + 1 = cntQ (mput _ _ _)
      rw [cntQ_put, List.length_append, List.length_singleton, h.left]; omega
    · show x.left + 1 + (R - 1) ≤ 1 + 42 * x.done.length
      have := h.lim; omega
    · rw [hget] at hq
      show w.all ≤ 300 * x.done.length
      by_cases e : moved p t = q
      · rw [if_pos e] at hq; injection hq with hq; subst hq
        show x.now + c t ≤ _; omega
      · rw [if_neg e] at hq; exact h.cap q w hq
def upTo (b : Barn) (p : Pl) (k : Nat) (r : Pl) : List Tur := if r = p then (turnsL b p).take k else turnsL b r
def foldK (b : Barn) (c : Tur → Int) (p : Pl) (z : St) (k : Nat) : St := ((turnsL b p).take k).foldl (relax c p) z
theorem foldK_succ {z : St} {k : Nat} (hk : k < (turnsL b p).length) : foldK b c p z (k + 1) = relax c p (foldK b c p z k) (nth (turnsL b p) k) := by
  unfold foldK; rw [take_nth hk, List.foldl_append]; rfl
theorem foldK_done (z : St) (k : Nat) : (foldK b c p z k).done = z.done := by
  unfold foldK
  generalize (turnsL b p).take k = l
  induction l generalizing z with
  | nil => rfl
  | cons t l ih => rw [List.foldl_cons, ih, relax_done]
theorem foldK_now (z : St) (k : Nat) : (foldK b c p z k).now = z.now := by
  unfold foldK
  generalize (turnsL b p).take k = l
  induction l generalizing z with
  | nil => rfl
  | cons t l ih => rw [List.foldl_cons, ih, relax_now]
def CostOk (b : Barn) (c : Tur → Int) : Prop := ∀ t : Tur, 0 ≤ t.lot → t.lot < b.lots.length → 1 ≤ c t ∧ c t ≤ 300
theorem CostOk.at (hc : CostOk b c) (ht : t ∈ turnsL b p) : 1 ≤ c t ∧ c t ≤ 300 := hc t (mem_turnsL.1 ht).1 (mem_turnsL.1 ht).2.1
theorem fold_inv (hc : CostOk b c) {z : St} (h : Inv b c all (upTo b p 0) 42 z) (hp : At b p z) : ∀ k, k ≤ (turnsL b p).length → Inv b c all (upTo b p k) (42 - k) (foldK b c p z k) ∧ At b p (foldK b c p z k)
  | 0, _ => ⟨h, hp⟩
  | k + 1, hk => by
    obtain ⟨h1, h2⟩ := fold_inv hc h hp k (by omega)
    have hm : nth (turnsL b p) k ∈ turnsL b p := nth_mem (by omega)
    obtain ⟨h3, h4⟩ := relax_inv h1 h2 hm (hc.at hm)
    rw [foldK_succ (by omega)]
    refine ⟨?_, h4⟩
    have h5 : Inv b c all (fun r => if r = p then upTo b p k r ++ [nth (turnsL b p) k] else upTo b p k r) (42 - (k + 1 : Nat)) (relax c p (foldK b c p z k) (nth (turnsL b p) k)) := h3.weaken (by omega)
    refine h5.fins fun r _ u hu => ?_
    unfold upTo at hu ⊢
    by_cases e : r = p
    · rw [if_pos e] at hu; rw [if_pos e, if_pos e, ← take_nth (by omega)]; exact hu
    · rw [if_neg e] at hu; rw [if_neg e, if_neg e]; exact hu
def popped (x : St) (rest : List Pl) : St := { x with queue := mput x.queue x.now rest, left := x.left - 1 }
def marked (x : St) (p : Pl) : St := { x with done := mput x.done p true }
def later (x : St) : St := { x with queue := mdel x.queue x.now, now := x.now + 1 }
def doneB (x : St) (p : Pl) : Bool := (mget x.done p).getD false
theorem Inv.done_iff (h : Inv b c all F R x) (p : Pl) : (doneB x p = true ↔ mget x.done p = some true) ∧ (doneB x p = false ↔ mget x.done p = none) := by
  unfold doneB
  cases e : mget x.done p with
  | none => simp
  | some v => rw [h.dval p v e]; simp
theorem pop_inv {rest : List Pl} (h : Inv b c all F R x) (hq : rowAt x.queue x.now = p :: rest) (hd : ∀ w, mget x.ways p = some w → mget x.done p = none → False) : Inv b c all F R (popped x rest) where
  now0 := h.now0
  start := h.start
  keys := h.keys
  qkeys := mput_nodup _ _ _ h.qkeys
  dkeys := h.dkeys
  dval := h.dval
  via := h.via
  walk := h.walk
  fin := h.fin
  wait := fun q w hw hn => by
    obtain ⟨h1, h2⟩ := h.wait q w hw hn
    refine ⟨h1, ?_⟩
    show q ∈ rowAt (mput x.queue x.now rest) w.all
    rw [rowAt_put]
    by_cases e : x.now = w.all
    · rw [if_pos e]
      rw [← e, hq, List.mem_cons] at h2
      rcases h2 with h2 | h2
      · subst h2; exact (hd w hw hn).elim
      · exact h2
    · rw [if_neg e]; exact h2
  que := fun m q hq' => by
    have hq' : q ∈ rowAt (mput x.queue x.now rest) m := hq'
    rw [rowAt_put] at hq'
    refine h.que m q ?_
    by_cases e : x.now = m
    · rw [if_pos e] at hq'; rw [← e, hq]; exact List.mem_cons_of_mem _ hq'
    · rw [if_neg e] at hq'; exact hq'
  left := by
    show x.left - 1 = cntQ (mput x.queue x.now rest)
    rw [cntQ_put, hq, List.length_cons, h.left]; omega
  lim := by show x.left - 1 + R ≤ 1 + 42 * x.done.length; have := h.lim; omega
  no := h.no
  cap := h.cap
theorem pop_done {rest : List Pl} (h : Inv b c all F R x) (hq : rowAt x.queue x.now = p :: rest) (hd : doneB (popped x rest) p = true) : Inv b c all F R (popped x rest) :=
  pop_inv h hq fun w _ hn => by rw [((h.done_iff p).1.1 hd)] at hn; cases hn
theorem mark_inv {rest : List Pl} (h : Inv b c all (turnsL b) 0 x) (hq : rowAt x.queue x.now = p :: rest) (hd : doneB (popped x rest) p = false) (hm : all = false → madeP b p = false) :
    Inv b c all (upTo b p 0) 42 (marked (popped x rest) p) ∧ At b p (marked (popped x rest) p) := by
  have hn : mget x.done p = none := (h.done_iff p).2.1 hd
  obtain ⟨g1, g2, w, hw, g3⟩ := h.que x.now p (by rw [hq]; exact List.mem_cons_self)
  obtain ⟨g4, g5⟩ := h.wait p w hw hn
  have hlen : (mput x.done p true).length = x.done.length + 1 := mput_len _ _ _ hn
  have hget : ∀ r, mget (mput x.done p true) r = if p = r then some true else mget x.done r := fun r => mget_mput _ _ _ _
  refine ⟨{ now0 := h.now0, start := h.start, keys := h.keys, qkeys := mput_nodup _ _ _ h.qkeys, dkeys := mput_nodup _ _ _ h.dkeys, dval := fun r v hv => ?_, via := fun q w' hq' => ?_, walk := h.walk, fin := fun r hr => ?_, wait := fun q w' hw' hn' => ?_, que := fun m q hq' => ?_, left := ?_, lim := ?_, no := fun ha r hr => ?_, cap := fun q w' hq' => ?_ }, ⟨?_, ⟨w, hw, by show w.all = x.now; omega⟩, ?_⟩⟩
  · have hv : mget (mput x.done p true) r = some v := hv
    rw [hget] at hv
    by_cases e : p = r
    · rw [if_pos e] at hv; injection hv with hv; exact hv.symm
    · rw [if_neg e] at hv; exact h.dval r v hv
  · rcases h.via q w' hq' with h1 | ⟨u, w2, h1, h2, h3, h4, h5, h6⟩
    · exact .inl h1
    · exact .inr ⟨u, w2, h1, h2, h3, by show mget (mput x.done p true) w'.frm = some true; rw [hget]; split <;> first | rfl | exact h4, h5, h6⟩
  · have hr : mget (mput x.done p true) r = some true := hr
    rw [hget] at hr
    by_cases e : p = r
    · subst e; exact ⟨w, hw, g3, fun u hu => by unfold upTo at hu; rw [if_pos rfl] at hu; cases hu⟩
    · rw [if_neg e] at hr
      obtain ⟨w', e1, e2, e3⟩ := h.fin r hr
      exact ⟨w', e1, e2, fun u hu => by unfold upTo at hu; rw [if_neg (fun e' => e e'.symm)] at hu; exact e3 u hu⟩
  · have hn' : mget (mput x.done p true) q = none := hn'
    rw [hget] at hn'
    by_cases e : p = q
    · rw [if_pos e] at hn'; cases hn'
    · rw [if_neg e] at hn'
      obtain ⟨h1, h2⟩ := h.wait q w' hw' hn'
      refine ⟨h1, ?_⟩
      show q ∈ rowAt (mput x.queue x.now rest) w'.all
      rw [rowAt_put]
      by_cases e2 : x.now = w'.all
      · rw [if_pos e2]; rw [← e2, hq, List.mem_cons] at h2
        exact h2.resolve_left fun h => e h.symm
      · rw [if_neg e2]; exact h2
  · have hq' : q ∈ rowAt (mput x.queue x.now rest) m := hq'
    rw [rowAt_put] at hq'
    have : q ∈ rowAt x.queue m := by
      by_cases e : x.now = m
      · rw [if_pos e] at hq'; rw [← e, hq]; exact List.mem_cons_of_mem _ hq'
      · rw [if_neg e] at hq'; exact hq'
    obtain ⟨h1, h2, h3⟩ := h.que m q this
    exact ⟨h1, by show m ≤ 300 * ((mput x.done p true).length : Int); rw [hlen]; omega, h3⟩
  · show x.left - 1 = cntQ (mput x.queue x.now rest)
    rw [cntQ_put, hq, List.length_cons, h.left]; omega
  · show x.left - 1 + 42 ≤ 1 + 42 * ((mput x.done p true).length : Int)
    rw [hlen]; have := h.lim; omega
  · have hr : mget (mput x.done p true) r = some true := hr
    rw [hget] at hr
    by_cases e : p = r
    · subst e; exact hm ha
    · rw [if_neg e] at hr; exact h.no ha r hr
  · show w'.all ≤ 300 * ((mput x.done p true).length : Int)
    rw [hlen]; have := h.cap q w' hq'; omega
  · show mget (mput x.done p true) p = some true
    rw [hget, if_pos rfl]
  · show x.now + 300 ≤ 300 * ((mput x.done p true).length : Int)
    rw [hlen]; omega
theorem later_inv (h : Inv b c all F R x) (hq : rowAt x.queue x.now = []) : Inv b c all F R (later x) where
  now0 := by show 0 ≤ x.now + 1; have := h.now0; omega
  start := h.start
  keys := h.keys
  qkeys := mdel_nodup _ _ h.qkeys
  dkeys := h.dkeys
  dval := h.dval
  via := h.via
  walk := h.walk
  fin := fun p hp => by
    obtain ⟨w, h1, h2, h3⟩ := h.fin p hp
    exact ⟨w, h1, by show w.all ≤ x.now + 1; omega, h3⟩
  wait := fun q w hw hn => by
    obtain ⟨h1, h2⟩ := h.wait q w hw hn
    have hne : x.now ≠ w.all := fun e => by rw [← e, hq] at h2; cases h2
    refine ⟨by show x.now + 1 ≤ w.all; omega, ?_⟩
    show q ∈ rowAt (mdel x.queue x.now) w.all
    rw [rowAt_del _ _ _ h.qkeys, if_neg hne]; exact h2
  que := fun m q hq' => by
    have hq' : q ∈ rowAt (mdel x.queue x.now) m := hq'
    rw [rowAt_del _ _ _ h.qkeys] at hq'
    by_cases e : x.now = m
    · rw [if_pos e] at hq'; cases hq'
    · rw [if_neg e] at hq'
      obtain ⟨h1, h2⟩ := h.que m q hq'
      exact ⟨by show x.now + 1 ≤ m; omega, h2⟩
  left := by show x.left = cntQ (mdel x.queue x.now); rw [cntQ_del, hq, h.left]; simp
  lim := h.lim
  no := h.no
  cap := h.cap
def st0 (b : Barn) : St := ⟨[(firstP b, way0)], [(0, [firstP b])], 1, [], 0⟩
theorem inv0 (b : Barn) (c : Tur → Int) (all : Bool) : Inv b c all (turnsL b) 0 (st0 b) where
  now0 := Int.le_refl _
  start := by simp [st0, mget]
  keys := by simp [st0]
  qkeys := by simp [st0]
  dkeys := by simp [st0]
  dval := fun p v h => by cases h
  via := fun q w h => by
    simp only [st0, mget] at h
    by_cases e : firstP b = q
    · exact .inl e.symm
    · rw [if_neg e] at h; cases h
  walk := fun q w h => by
    simp only [st0, mget] at h
    by_cases e : firstP b = q
    · rw [if_pos e] at h; injection h with h; subst h; exact ⟨[], by rw [← e]; rfl, rfl⟩
    · rw [if_neg e] at h; cases h
  fin := fun p h => by cases h
  wait := fun q w h _ => by
    simp only [st0, mget] at h
    by_cases e : firstP b = q
    · rw [if_pos e] at h; injection h with h; subst h; exact ⟨Int.le_refl _, by simp [st0, rowAt, mget, way0, e]⟩
    · rw [if_neg e] at h; cases h
  que := fun m q h => by
    simp only [st0, rowAt, mget] at h
    by_cases e : (0 : Int) = m
    · subst e; rw [if_pos rfl] at h
      rw [List.mem_singleton.1 h]
      exact ⟨Int.le_refl _, by simp [st0], way0, by simp [st0, mget], Int.le_refl _⟩
    · rw [if_neg e] at h; cases h
  left := rfl
  lim := by simp [st0]
  no := fun _ p h => by cases h
  cap := fun q w h => by
    simp only [st0, mget] at h
    by_cases e : firstP b = q
    · rw [if_pos e] at h; injection h with h; subst h; exact Int.le_refl _
    · rw [if_neg e] at h; cases h
def stepS (b : Barn) (c : Tur → Int) (all : Bool) (x : St) : St ⊕ Found :=
  if x.left ≤ 0 then .inr ⟨x.ways, pl0, false⟩ else
  match rowAt x.queue x.now with
  | [] => .inl (later x)
  | p :: rest =>
    if doneB (popped x rest) p = true then .inl (popped x rest) else
    if (!all && madeP b p) = true then .inr ⟨x.ways, p, true⟩ else .inl (foldK b c p (marked (popped x rest) p) (turnsL b p).length)
def runN (b : Barn) (c : Tur → Int) (all : Bool) : Nat → St → Option Found
  | 0, _ => none
  | n + 1, x => match stepS b c all x with
    | .inr f => some f
    | .inl y => runN b c all n y
def Ends (b : Barn) (c : Tur → Int) (all : Bool) (x : St) (f : Found) : Prop := ∃ n, runN b c all n x = some f
theorem runN_det : ∀ {n m : Nat} {x : St} {f f' : Found}, runN b c all n x = some f → runN b c all m x = some f' → f = f'
  | 0, _, _, _, _, h, _ => by cases h
  | _, 0, _, _, _, _, h => by cases h
  | n + 1, m + 1, x, f, f', h, h' => by
    unfold runN at h h'
    cases e : stepS b c all x with
    | inr g => rw [e] at h h'; injection h with h; injection h' with h'; rw [← h, ← h']
    | inl y => rw [e] at h h'; exact runN_det h h'
theorem Ends.det {f f' : Found} (h : Ends b c all x f) (h' : Ends b c all x f') : f = f' := let ⟨_, h⟩ := h; let ⟨_, h'⟩ := h'; runN_det h h'
theorem Ends.step {y : St} {f : Found} (e : stepS b c all x = .inl y) (h : Ends b c all y f) : Ends b c all x f := by
  obtain ⟨n, h⟩ := h
  exact ⟨n + 1, by unfold runN; rw [e]; exact h⟩
theorem Ends.stop {f : Found} (e : stepS b c all x = .inr f) : Ends b c all x f := ⟨1, by unfold runN; rw [e]⟩
open Classical in
noncomputable def searchM (b : Barn) (c : Tur → Int) (all : Bool) : Found := if h : ∃ f, Ends b c all (st0 b) f then h.choose else default
theorem searchM_eq {f : Found} (h : Ends b c all (st0 b) f) : searchM b c all = f := by
  unfold searchM
  rw [dif_pos ⟨f, h⟩]
  exact (Exists.choose_spec (⟨f, h⟩ : ∃ f, Ends b c all (st0 b) f)).det h
theorem step_end (h : x.left ≤ 0) : stepS b c all x = .inr ⟨x.ways, pl0, false⟩ := if_pos h
theorem step_later (h : 0 < x.left) (hq : rowAt x.queue x.now = []) : stepS b c all x = .inl (later x) := by
  unfold stepS; rw [if_neg (by omega), hq]
theorem step_old {rest : List Pl} (h : 0 < x.left) (hq : rowAt x.queue x.now = p :: rest) (hd : doneB (popped x rest) p = true) : stepS b c all x = .inl (popped x rest) := by
  unfold stepS; rw [if_neg (by omega), hq]; exact if_pos hd
theorem step_found {rest : List Pl} (h : 0 < x.left) (hq : rowAt x.queue x.now = p :: rest) (hd : doneB (popped x rest) p = false) (hm : (!all && madeP b p) = true) : stepS b c all x = .inr ⟨x.ways, p, true⟩ := by
  unfold stepS; rw [if_neg (by omega), hq]
  show (if doneB (popped x rest) p = true then _ else _) = _
  rw [if_neg (by rw [hd]; decide), if_pos hm]
theorem step_new {rest : List Pl} (h : 0 < x.left) (hq : rowAt x.queue x.now = p :: rest) (hd : doneB (popped x rest) p = false) (hm : (!all && madeP b p) = false) : stepS b c all x = .inl (foldK b c p (marked (popped x rest) p) (turnsL b p).length) := by
  unfold stepS; rw [if_neg (by omega), hq]
  show (if doneB (popped x rest) p = true then _ else _) = _
  rw [if_neg (by rw [hd]; decide), if_neg (by rw [hm]; decide)]
theorem pos_of_row {rest : List Pl} (h : Inv b c all F R x) (hq : rowAt x.queue x.now = p :: rest) : 0 < x.left := by
  have := cntQ_row x.queue x.now
  rw [hq, List.length_cons, ← h.left] at this; omega
noncomputable def muS (x : St) : Nat := (placesN - x.done.length) * 43 + (300 * placesN - x.now).toNat + x.left.toNat
theorem Inv.few (h : Inv b c all F R x) (hr : b.Right) : x.done.length ≤ placesN := by
  have := few_places h.dkeys fun p hp => by
    obtain ⟨v, hv⟩ := mem_mget hp
    rw [h.dval p v hv] at hv
    obtain ⟨w, hw, _⟩ := h.fin p hv
    obtain ⟨l, hl, _⟩ := h.walk p w hw
    exact goP_bins hr l (first_bins hr) hl
  rwa [List.length_map] at this
theorem Inv.far (h : Inv b c all F R x) (hr : b.Right) (hl : 0 < x.left) (hq : rowAt x.queue x.now = []) : x.now < 300 * placesN := by
  obtain ⟨m, hm⟩ := cntQ_pos x.queue (by rw [← h.left]; exact hl) h.qkeys
  have h1 := h.few hr
  cases e : rowAt x.queue m with
  | nil => exact absurd e hm
  | cons q r =>
    obtain ⟨h2, h3, _⟩ := h.que m q (by rw [e]; exact List.mem_cons_self)
    have : x.now ≠ m := fun e' => by rw [← e', hq] at e; cases e
    omega
theorem mu_later (h : Inv b c all F R x) (hr : b.Right) (hl : 0 < x.left) (hq : rowAt x.queue x.now = []) : muS (later x) < muS x := by
  have h1 := h.far hr hl hq
  have h2 := h.now0
  show (placesN - x.done.length) * 43 + (300 * placesN - (x.now + 1)).toNat + x.left.toNat < (placesN - x.done.length) * 43 + (300 * placesN - x.now).toNat + x.left.toNat
  omega
theorem mu_later_le (x : St) : muS (later x) ≤ muS x := by
  show (placesN - x.done.length) * 43 + (300 * placesN - (x.now + 1)).toNat + x.left.toNat ≤ (placesN - x.done.length) * 43 + (300 * placesN - x.now).toNat + x.left.toNat
  omega
theorem mu_old {rest : List Pl} (h : Inv b c all F R x) (hq : rowAt x.queue x.now = p :: rest) : muS (popped x rest) < muS x := by
  have := pos_of_row h hq
  show (placesN - x.done.length) * 43 + (300 * placesN - x.now).toNat + (x.left - 1).toNat < (placesN - x.done.length) * 43 + (300 * placesN - x.now).toNat + x.left.toNat
  omega
theorem relax_left (c : Tur → Int) (p : Pl) (x : St) (t : Tur) : (relax c p x t).left ≤ x.left + 1 := by
  unfold relax; split
  · omega
  · exact Int.le_refl _
theorem foldK_left (z : St) : ∀ k, (foldK b c p z k).left ≤ z.left + k := by
  intro k
  have : ∀ (l : List Tur) (z : St), (l.foldl (relax c p) z).left ≤ z.left + l.length := by
    intro l
    induction l with
    | nil => intro z; simp
    | cons t l ih =>
      intro z
      have h1 := ih (relax c p z t)
      have h2 := relax_left c p z t
      rw [List.foldl_cons, List.length_cons]; omega
  have h1 := this ((turnsL b p).take k) z
  have h2 := List.length_take_le k (turnsL b p)
  unfold foldK; omega
theorem mu_new {rest : List Pl} (h : Inv b c all (turnsL b) 0 x) (hr : b.Right) (hq : rowAt x.queue x.now = p :: rest) (hd : doneB (popped x rest) p = false) (hi : Inv b c all (upTo b p 0) 42 (marked (popped x rest) p)) : muS (foldK b c p (marked (popped x rest) p) (turnsL b p).length) < muS x := by
  have h1 := pos_of_row h hq
  have h2 := foldK_left (b := b) (c := c) (p := p) (marked (popped x rest) p) (turnsL b p).length
  have h3 := turnsL_len hr p
  have h4 := hi.few hr
  have h5 : (mput x.done p true).length = x.done.length + 1 := mput_len _ _ _ ((h.done_iff p).2.1 hd)
  unfold muS
  rw [foldK_done, foldK_now]
  have h4 : (mput x.done p true).length ≤ placesN := h4
  have h2 : (foldK b c p (marked (popped x rest) p) (turnsL b p).length).left ≤ x.left - 1 + (turnsL b p).length := h2
  show (placesN - (mput x.done p true).length) * 43 + (300 * placesN - x.now).toNat + _ < _
  rw [h5] at h4 ⊢
  omega
theorem new_inv {rest : List Pl} (hr : b.Right) (hc : CostOk b c) (h : Inv b c all (turnsL b) 0 x) (hq : rowAt x.queue x.now = p :: rest) (hd : doneB (popped x rest) p = false) (hm : (!all && madeP b p) = false) : Inv b c all (turnsL b) 0 (foldK b c p (marked (popped x rest) p) (turnsL b p).length) := by
  obtain ⟨h1, h2⟩ := mark_inv h hq hd (fun ha => by rw [ha] at hm; simpa using hm)
  obtain ⟨h3, _⟩ := fold_inv hc h1 h2 _ (Nat.le_refl _)
  have := turnsL_len hr p
  refine (h3.weaken (R' := 0) (by omega)).fins fun r _ u hu => ?_
  unfold upTo
  by_cases e : r = p
  · rw [if_pos e, List.take_length, ← e]; exact hu
  · rw [if_neg e]; exact hu
structure Found.Spec (b : Barn) (c : Tur → Int) (all : Bool) (f : Found) : Prop where
  start : mget f.ways (firstP b) = some way0
  keys : (f.ways.map Prod.fst).Nodup
  via : ∀ q w, mget f.ways q = some w → q = firstP b ∨ ∃ t w', w.byT = [t] ∧ t ∈ turnsL b w.frm ∧ q = moved w.frm t ∧ mget f.ways w.frm = some w' ∧ w.all = w'.all + c t
  walk : ∀ q w, mget f.ways q = some w → ∃ l, goP b (firstP b) l = some q ∧ costL c l = w.all
  yes : f.is = true → madeP b f.last = true ∧ ∃ w, mget f.ways f.last = some w ∧ ∀ l q, goP b (firstP b) l = some q → madeP b q = true → w.all ≤ costL c l
  no : f.is = false → all = false → ∀ l q, goP b (firstP b) l = some q → madeP b q = false
  cap : ∀ q w, mget f.ways q = some w → w.all ≤ 300 * placesN
  whole : all = true → f.is = false ∧ ∀ l q, goP b (firstP b) l = some q → ∃ w, mget f.ways q = some w
theorem cost_pos (hc : CostOk b c) : ∀ (l : List Tur) {p q : Pl}, goP b p l = some q → 0 ≤ costL c l
  | [], _, _, _ => Int.le_refl _
  | t :: l, p, q, h => by
    have h : (if t ∈ turnsL b p then goP b (moved p t) l else none) = some q := h
    by_cases ht : t ∈ turnsL b p
    · rw [if_pos ht] at h
      have h1 := cost_pos hc l h
      have h2 := hc.at ht
      show 0 ≤ costL c ([t] ++ l)
      rw [costL_append, costL_one]; omega
    · rw [if_neg ht] at h; cases h
theorem Inv.near (hc : CostOk b c) (h : Inv b c all (turnsL b) 0 x) : ∀ (l : List Tur) (q : Pl), goP b (firstP b) l = some q → costL c l < x.now → mget x.done q = some true ∧ ∃ w, mget x.ways q = some w ∧ w.all ≤ costL c l := by
  have key : ∀ q w k, mget x.ways q = some w → w.all ≤ k → k < x.now → mget x.done q = some true := fun q w k hw h1 h2 => by
    cases e : mget x.done q with
    | none => have := (h.wait q w hw e).1; omega
    | some v => rw [h.dval q v e]
  refine snoc_ind (fun q e hl => ?_) fun l t ih q e hl => ?_
  · injection e with e; subst e
    exact ⟨key _ _ _ h.start (Int.le_refl _) hl, _, h.start, Int.le_refl _⟩
  · obtain ⟨r, e1, e2, e3⟩ := goP_snoc_inv e
    rw [costL_append, costL_one] at hl ⊢
    have := hc.at e2
    obtain ⟨h1, w, h2, h3⟩ := ih r e1 (by omega)
    obtain ⟨w0, g1, g2, g3⟩ := h.fin r h1
    rw [h2] at g1; injection g1 with g1; subst g1
    obtain ⟨w', g4, g5⟩ := g3 t e2
    subst e3
    exact ⟨key _ _ _ g4 (by omega) hl, w', g4, by omega⟩
theorem Inv.closed (h : Inv b c all (turnsL b) 0 x) (hl : x.left ≤ 0) : ∀ (l : List Tur) (q : Pl), goP b (firstP b) l = some q → mget x.done q = some true := by
  have hz : ∀ m, rowAt x.queue m = [] := fun m => by
    have := cntQ_row x.queue m
    rw [← h.left] at this
    exact List.length_eq_zero_iff.1 (by omega)
  have key : ∀ q w, mget x.ways q = some w → mget x.done q = some true := fun q w hw => by
    cases e : mget x.done q with
    | none => have := (h.wait q w hw e).2; rw [hz] at this; cases this
    | some v => rw [h.dval q v e]
  refine snoc_ind (fun q e => ?_) fun l t ih q e => ?_
  · injection e with e; subst e; exact key _ _ h.start
  · obtain ⟨r, e1, e2, e3⟩ := goP_snoc_inv e
    obtain ⟨w, h1, h2, h3⟩ := h.fin r (ih r e1)
    obtain ⟨w', h4, _⟩ := h3 t e2
    subst e3; exact key _ _ h4
theorem spec_end (hr : b.Right) (h : Inv b c all (turnsL b) 0 x) (hl : x.left ≤ 0) : Found.Spec b c all ⟨x.ways, pl0, false⟩ where
  start := h.start
  keys := h.keys
  via := fun q w hw => (h.via q w hw).imp id fun ⟨t, w', h1, h2, h3, _, h5, h6⟩ => ⟨t, w', h1, h2, h3, h5, h6⟩
  walk := h.walk
  yes := fun e => by cases e
  no := fun _ ha l q e => h.no ha q (h.closed hl l q e)
  cap := fun q w hw => by have h1 := h.cap q w hw; have h2 := h.few hr; omega
  whole := fun _ => ⟨rfl, fun l q e => let ⟨w, h1, _⟩ := h.fin q (h.closed hl l q e); ⟨w, h1⟩⟩
theorem spec_found {rest : List Pl} (hr : b.Right) (hc : CostOk b c) (h : Inv b c all (turnsL b) 0 x) (hq : rowAt x.queue x.now = p :: rest) (hd : doneB (popped x rest) p = false) (hm : (!all && madeP b p) = true) : Found.Spec b c all ⟨x.ways, p, true⟩ := by
  simp only [Bool.and_eq_true, Bool.not_eq_true'] at hm
  have hn : mget x.done p = none := (h.done_iff p).2.1 hd
  obtain ⟨g1, g2, w, hw, g3⟩ := h.que x.now p (by rw [hq]; exact List.mem_cons_self)
  refine ⟨h.start, h.keys, fun q w hw => (h.via q w hw).imp id fun ⟨t, w', h1, h2, h3, _, h5, h6⟩ => ⟨t, w', h1, h2, h3, h5, h6⟩, h.walk, fun _ => ⟨hm.2, w, hw, fun l q e hq => ?_⟩, (fun e => by cases e), (fun q w hw => by have h1 := h.cap q w hw; have h2 := h.few hr; omega), (fun e => by rw [hm.1] at e; cases e)⟩
  rcases Int.lt_or_le (costL c l) x.now with h1 | h1
  · have := h.no hm.1 q (h.near hc l q e h1).1
    rw [hq] at this; cases this
  · omega
theorem search_ends (hr : b.Right) (hc : CostOk b c) : ∀ (n : Nat) (x : St), muS x ≤ n → Inv b c all (turnsL b) 0 x → ∃ f, Ends b c all x f ∧ f.Spec b c all := by
  intro n
  induction n with
  | zero =>
    intro x hx h
    have hl : x.left ≤ 0 := by unfold muS at hx; omega
    exact ⟨_, .stop (step_end hl), spec_end hr h hl⟩
  | succ n ih =>
    intro x hx h
    rcases Int.lt_or_le 0 x.left with hl | hl
    · cases hq : rowAt x.queue x.now with
      | nil =>
        obtain ⟨f, h1, h2⟩ := ih (later x) (by have := mu_later h hr hl hq; omega) (later_inv h hq)
        exact ⟨f, h1.step (step_later hl hq), h2⟩
      | cons p rest =>
        cases hd : doneB (popped x rest) p with
        | true =>
          obtain ⟨f, h1, h2⟩ := ih _ (by have := mu_old h hq; omega) (pop_done h hq hd)
          exact ⟨f, h1.step (step_old hl hq hd), h2⟩
        | false =>
          cases hm : !all && madeP b p with
          | true => exact ⟨_, .stop (step_found hl hq hd hm), spec_found hr hc h hq hd hm⟩
          | false =>
            obtain ⟨f, h1, h2⟩ := ih _ (by have := mu_new h hr hq hd (mark_inv h hq hd (fun ha => by rw [ha] at hm; simpa using hm)).1; omega) (new_inv hr hc h hq hd hm)
            exact ⟨f, h1.step (step_new hl hq hd hm), h2⟩
    · exact ⟨_, .stop (step_end hl), spec_end hr h hl⟩
theorem search_spec (hr : b.Right) (hc : CostOk b c) (all : Bool) : (searchM b c all).Spec b c all ∧ Ends b c all (st0 b) (searchM b c all) := by
  obtain ⟨f, h1, h2⟩ := search_ends (all := all) hr hc _ (st0 b) (Nat.le_refl _) (inv0 b c all)
  rw [searchM_eq h1]; exact ⟨h2, h1⟩
def SameS (b : Barn) (c : Tur → Int) (all : Bool) (x : St) : Prop := ∀ f, Ends b c all x f → searchM b c all = f
theorem same0 : SameS b c all (st0 b) := fun _ h => searchM_eq h
theorem SameS.step {y : St} (h : SameS b c all x) (e : stepS b c all x = .inl y) : SameS b c all y := fun f hf => h f (hf.step e)
theorem SameS.stop {f : Found} (h : SameS b c all x) (e : stepS b c all x = .inr f) : searchM b c all = f := h f (.stop e)
end Go.Proofs.Ytpnndljmhpepgaa

namespace Go.T
open Go Go.RowKit
section
variable {P : Program} {fr : Fr} {ops : Array Oper} {A : As} {rest : List Oper} {K : As → List (As × Fx) → Prop} {t mt : TypeId} {p : String} {e : Array Edge} {d : Option Nat} {x y z : Operand}
theorem r_insert (h : TOps P fr ops (⟨d, .mapUpdate mt x y z, t, p, e, none⟩ :: rest) A K) : TOps P fr ops (⟨d, .insert mt x y z, t, p, e, none⟩ :: rest) A K := by
  obtain ⟨f, ⟨h1, h2, h3, h4, h5⟩, hr⟩ := h
  refine ⟨f, ⟨h1, h2, h3, h4, fun a w M wf hs hrd htg => ?_⟩, hr⟩
  have := h5 a w M wf hs hrd htg
  rw [if_pos (by simp [Region.wanted])] at this ⊢
  obtain ⟨_, g2⟩ := this
  refine ⟨fun f _ => fr.kd.fn_true f, ?_⟩
  rw [Oper.semAt_eq _ _ _ (by simp)] at g2 ⊢
  have e1 : execOp a.eval ⟨d, .insert mt x y z, t, p, e, none⟩ = execOp a.eval ⟨d, .mapUpdate mt x y z, t, p, e, none⟩ := rfl
  rw [e1]
  generalize (execOp a.eval ⟨d, .mapUpdate mt x y z, t, p, e, none⟩).run P w = r at *
  cases r with
  | ok n w' => cases n <;> exact g2
  | halt x w' => cases x <;> exact g2
end
section
variable {P : Program} {fr : Fr} {ops : Array Oper} {A : As} {rest : List Oper} {K : As → List (As × Fx) → Prop} {d : Nat} {t mt kt et : TypeId} {p : String} {e : Array Edge}
variable {κ β : Type} [DecidableEq κ]
theorem r_mapUpdateS {x y z : Operand} {tg : Nat} {kty vty : Ty} {k : κ} {v : β} (KK : KeyK P kt κ) {V : VT β} {kvs : List (κ × β)} (hx : A.op fr x = .mp tg) (hc : A.tag tg = some (.mp KK.enc V kvs)) (h1 : Tag1 tg) (hy : A.op fr y = kty) (hk : KeyAt kty (KK.enc k)) (hz : A.op fr z = vty) (hv : vty.Sub (V.ty v)) (hm : mapOf P mt = some (kt, et))
    (h : TOps P fr ops rest (A.after { d := none, S := [tg], sets := [(tg, .mp KK.enc V (mput kvs k v))], rs := opR x ++ (opR y ++ opR z), rt := [tg] }) fun A' l' => K A' ((A, { d := none, S := [tg], sets := [(tg, .mp KK.enc V (mput kvs k v))], rs := opR x ++ (opR y ++ opR z), rt := [tg] }) :: l')) :
    TOps P fr ops (⟨none, .mapUpdate mt x y z, t, p, e, none⟩ :: rest) A K := by
  refine ⟨_, ⟨rfl, (fun x hx => .inl (by rw [List.mem_singleton.1 hx]; exact List.mem_singleton.2 rfl)), (fun u hu => by rw [List.mem_singleton.1 hu]; exact h1.1), (by simp), fun a w M wf _ hrd htg => ?_⟩, h⟩
  rw [if_pos (by simp [Region.wanted])]
  obtain ⟨b, e1, e2, es, clock, h3, h4, h5⟩ := mp_at hx hc h1 wf (fun c hc => List.mem_append_left _ hc) hrd htg
  have hyd := op_den (fun c hc => List.mem_append_right (opR x) (List.mem_append_left (opR z) hc)) hrd
  have hzd := op_den (fun c hc => List.mem_append_right (opR x) (List.mem_append_right (opR y) hc)) hrd
  rw [hy] at hyd
  rw [hz] at hzd
  have hzd := hv _ _ _ hzd
  have hu := mapOf_und hm
  have hblt : b < w.heap.size := wf.lt b _ e2
  -- whatever is put there
  have fin : ∀ (es' : Array MapEntry) (clock' : Nat), es'.toList.map (·.key) = (mput kvs k v).map (fun x => KK.enc x.1) → dens w M ((mput kvs k v).map fun x => V.ty x.2) (es'.toList.map (·.val)) →
      (Instr.mapUpdate mt (.map (some b)) (KK.enc k) (a.eval z)).run P w = .ok () { w with heap := w.heap.setIfInBounds b (.map es' clock') } →
      Oper.wpIn fr.kd.fence 0 P ⟨none, .mapUpdate mt x y z, t, p, e, none⟩ a w (fun a' w' => ∃ v', a' = a.put none v' ∧ Fx.left { d := none, S := [tg], sets := [(tg, .mp KK.enc V (mput kvs k v))], rs := opR x ++ (opR y ++ opR z), rt := [tg] } w M w' v') (fun _ _ _ => False) := by
    intro es' clock' hk' hd' hrun
    have hr : (execOp a.eval ⟨none, .mapUpdate mt x y z, t, p, e, none⟩).run P w = .ok .skip { w with heap := w.heap.setIfInBounds b (.map es' clock') } := by
      simp only [execOp, e1, hk _ _ _ hyd]
      simp [hrun]
    refine wp_in_skip hr ?_
    have le : Le (· ∈ [tg]) (· ∈ ([] : List Nat)) w M { w with heap := w.heap.setIfInBounds b (.map es' clock') } M := by
      refine ⟨by simp, rfl, rfl, rfl, fun b2 hlt hm2 => ⟨hm2, ?_⟩, fun b2 u hm2 _ => ⟨hm2, fun hs => ?_⟩⟩
      · have : b ≠ b2 := fun h => by subst h; rw [e2] at hm2; cases hm2
        simp [this]
      · have : b ≠ b2 := fun h => by subst h; rw [e2] at hm2; injection hm2 with hm2; exact hs (by simp [hm2])
        simp [this]
    refine ⟨undef, rfl, M, ⟨fun b2 u h => by simpa using wf.lt b2 u h, wf.inj⟩, le, trivial, fun x hx => ?_⟩
    rw [List.mem_singleton.1 hx]
    refine ⟨b, e2, es', clock', by simp [hblt], hk', ?_⟩
    refine dens_mono le (fun _ _ => by simp) (fun u hu => ?_) hd'
    simp only [cdepsOf, List.mem_flatMap, List.mem_map] at hu
    obtain ⟨t', ⟨x', _, rfl⟩, hu⟩ := hu
    rw [(V.nodeps x'.2).2] at hu; cases hu
  rcases run_find KK h4 h5 k with ⟨i, v0, en, hi, hg, hen, hkey, hd, hf⟩ | ⟨hi, hg, hf⟩
  · obtain ⟨v1, hv1, _, hput⟩ := mget_pos kvs k i hi
    have hil : i < es.size := (Array.getElem?_eq_some_iff.1 hen).1
    refine fin (es.modify i fun e => { e with key := KK.enc k, val := a.eval z }) clock ?_ ?_ ?_
    · rw [hput, List.map_set]
      have : (es.modify i fun e => { e with key := KK.enc k, val := a.eval z }).toList = es.toList.set i { en with key := KK.enc k, val := a.eval z } := by
        rw [Array.toList_modify, List.modify_eq_set, Array.getElem?_toList, hen]; rfl
      rw [this, List.map_set, h4]
    · rw [hput, List.map_set]
      have : (es.modify i fun e => { e with key := KK.enc k, val := a.eval z }).toList = es.toList.set i { en with key := KK.enc k, val := a.eval z } := by
        rw [Array.toList_modify, List.modify_eq_set, Array.getElem?_toList, hen]; rfl
      rw [this, List.map_set]
      exact dens_set h5 hzd
    · simp [Instr.mapUpdate, underlying, hu, getObj, setObj, Sem.run, h3, KK.check, hf, hen, hkey, Instr.keyThatStays, KK.same]
  · obtain ⟨_, hput⟩ := mget_none kvs k hi
    refine fin (es.push { key := KK.enc k, val := a.eval z, born := clock }) (clock + 1) ?_ ?_ ?_
    · rw [hput]; simp [h4]
    · rw [hput]; simp only [Array.toList_push, List.map_append, List.map_cons, List.map_nil]
      exact dens_append h5 ⟨hzd, trivial⟩
    · simp [Instr.mapUpdate, underlying, hu, getObj, setObj, Sem.run, h3, KK.check, hf]
end
section
variable {A : As} {κ β : Type} [DecidableEq κ]
theorem pubTy_mp {enc : κ → Value} {V : VT β} {kvs : List (κ × β)} {tg : Nat} (hc : A.tag tg = some (.mp enc V kvs)) (h1 : Tag1 tg) : PubTy A tg (.mp tg) (.pm enc V kvs) := by
  intro w M v wf ht hv
  obtain ⟨b, e1, e2⟩ := hv
  obtain ⟨b', h2, h3⟩ := ht _ (tag_mem hc)
  obtain ⟨u, rfl⟩ : ∃ u, tg = u + 1 := ⟨tg - 1, by omega⟩
  have : b = b' := wf.inj b b' u (by omega) e2 h2
  subst this
  exact ⟨b, e1, by simp [pubTag, e2], wf.lt b _ e2, mapAt_mono V.nodeps (pubTag_le (tg := u + 1)) rfl h3⟩
end
section
variable {P : Program} {fr : Fr} {ops : Array Oper} {A : As} {rest : List Oper} {K : As → List (As × Fx) → Prop} {t ty' : TypeId} {p : String} {e : Array Edge} [T : Tab P]
theorem r_storeO {x y : Operand} {tg off Tb : Nat} {l m : List Ty} {ti : TI} {l' : List Ty} (hx : A.op fr x = .ptr tg off) (hc : A.tag tg = some (.cells Tb l)) (h1 : Tag1 tg) (hT : T.tab[ty']? = some ti) (hy : A.op fr y = .agg m) (hsz : ti.size = m.length) (hoff : off + m.length ≤ l.length) (ho : m.all Ty.one = true) (hdl : disj (cdepsOf l) [tg] = true) (hdt : disj (cdepsOf m) [tg] = true) (hl : l.take off ++ m ++ l.drop (off + m.length) = l')
    (h : TOps P fr ops rest (A.after { d := none, S := [tg], sets := [(tg, .cells Tb l')], rs := opR x ++ opR y, rt := [tg] }) fun A' l'' => K A' ((A, { d := none, S := [tg], sets := [(tg, .cells Tb l')], rs := opR x ++ opR y, rt := [tg] }) :: l'')) :
    TOps P fr ops (⟨none, .store ty' x y, t, p, e, none⟩ :: rest) A K := by
  refine ⟨_, opT_unit rfl rfl rfl (by simp) (by simpa using h1.1) (by simp) fun a w M wf hr ht => ?_, h⟩
  obtain ⟨hdx, hdy⟩ := op2 hr
  rw [hx] at hdx; rw [hy] at hdy
  obtain ⟨b, hb, ex⟩ := hdx
  obtain ⟨vs, ey, hvs⟩ := hdy
  obtain ⟨b', cs, hb', hh, hd⟩ := ht _ (tag_mem hc) (by simp)
  obtain ⟨u, rfl⟩ : ∃ u, tg = u + 1 := ⟨tg - 1, by omega⟩
  have := wf.inj b b' u (by omega) hb hb'
  subst this
  have hl1 := dens_len hd
  have hl2 := dens_len hvs
  simp only [Array.length_toList] at hl1 hl2
  have hones : ∀ v ∈ vs.toList, v.oneCell' = true := fun v hv => by
    obtain ⟨i, hi, hvi⟩ := List.getElem_of_mem hv
    have hi' : i < vs.size := by simpa using hi
    have hlt : i < m.length := by omega
    obtain ⟨u', hu', hdu⟩ := dens_get hvs i m[i] (List.getElem?_eq_getElem hlt)
    rw [List.getElem?_eq_getElem hi, hvi] at hu'
    injection hu' with hu'
    subst hu'
    exact (m[i]).isOne (List.all_eq_true.1 ho _ (List.getElem_mem hlt)) hdu
  have hst := run_storeCells_at (P := P) b off Tb vs.toList 0 cs w hh (by simp; omega) hones
  rw [setRow_set _ hh] at hst
  obtain ⟨h1', h2', h3'⟩ := store_le (cs' := (cs.toList.take (off + 0) ++ vs.toList ++ cs.toList.drop (off + 0 + vs.toList.length)).toArray) (Tb := Tb) wf hb _ rfl
  refine ⟨_, ?_, M, h1', h2', trivial, ?_⟩
  · have hvz : vs.size = ti.size := by omega
    simp only [execOp, Instr.storeAt, Instr.sureAddr, ex, ey, storeVar, Value.cells, run_sizeOf' hT, Sem.run_bind, Sem.run_pure, Result.andThen_ok, hvz]
    simp [hst]
  · intro z hz
    simp only [List.mem_singleton] at hz
    subst hz
    refine ⟨b, _, hb, h3', ?_⟩
    subst hl
    rw [List.toList_toArray, show off + m.length = off + 0 + vs.toList.length by simp; omega]
    have g1 := dens_mono h2' (by intro _ _ h; cases h) (disj_spec hdl) hd
    have g2 := dens_mono h2' (by intro _ _ h; cases h) (disj_spec hdt) hvs
    exact dens_append (dens_append (dens_take (off + 0) g1) g2) (dens_drop _ g1)
end
section
variable {P : Program} {fr : Fr} {ops : Array Oper} {A : As} {rest : List Oper} {K : As → List (As × Fx) → Prop} {d : Nat} {t ty' : TypeId} {p : String} {e : Array Edge} [T : Tab P]
theorem r_load_vecE {α : Type} [Inhabited α] {E : El α} {xs : List α} {x : Operand} {tg off Tb : Nat} {ti : TI} (i : Nat) (hx : A.op fr x = .ptr tg off) (he : off = i * E.size) (hc : A.tag tg = some (.vec E Tb xs)) (h1 : Tag1 tg) (hT : T.tab[ty']? = some ti) (ha : ti.k.agg = true) (hsz : ti.size = E.size) (hi : i < xs.length)
    (h : TOps P fr ops rest (A.set d (.agg (E.tys (nth xs i)))) fun A' l => K A' ((A, { d := some d, ty := .agg (E.tys (nth xs i)), rs := opR x, rt := [tg] }) :: l)) : TOps P fr ops (⟨some d, .load ty' x, t, p, e, none⟩ :: rest) A K :=
  tops_pure (opT_pure rfl rfl fun a w M wf hr ht => by
    have := op_den (x := x) (fun _ h => h) hr
    rw [hx] at this
    obtain ⟨b, hb, e⟩ := this
    obtain ⟨cs, g1, g2, g3⟩ := cells_take (l := E.tys (nth xs i)) (b := b) (q := off) (off := 0) (n := ti.size) (m := E.tys (nth xs i)) (fun j t hj => vec_cell wf h1 hb (vec_den hc w M ht) (by
      rw [he]; exact flat_elem E xs hi j t hj)) (by rw [List.drop_zero, hsz, ← E.len (nth xs i), List.take_length]) (by rw [E.len, hsz])
    exact ⟨.agg cs.toArray, by simp only [execOp, e]; rw [Sem.run_bind, run_loadN (off := off) hT ha g1 (by simpa using g3)]; rfl, cs.toArray, rfl, by simpa using g2⟩) h
end
section
variable {P : Program} {A : As} {fn : Func} {n : Nat} {w0 : World} {M0 : Tags} [T : Tab P]
theorem i_rcell3 {tm ty tg Tb t2 t3 : Nat} {l : List Ty} {ti : TI} {r1 r2 r3 : Ty} (hr : fn.results = #[.cell tm ty, .tmp t2, .tmp t3]) (ht : Nat.blt tm n = true) (h2 : Nat.blt t2 n = true) (h3 : Nat.blt t3 n = true) (hx : A.slots tm = .ptr tg 0) (hc : A.tag tg = some (.cells Tb l)) (h1 : Tag1 tg) (hT : T.tab[ty]? = some ti) (ha : ti.k.agg = true) (hl : l.length = ti.size) (hs : RetSub (.agg l) r1) (hs2 : RetSub (A.slots t2) r2) (hs3 : RetSub (A.slots t3) r3) :
    Into ⟨n, w0, M0, [], .plain⟩ A (bodyPost P fn (retPost w0 M0 (Ty.tup [r1, r2, r3])) .ret) := by
  intro a w ⟨M, ok, hsl, htg⟩
  have hd := hsl tm (by simpa using ht)
  rw [hx] at hd
  obtain ⟨b, hb, e⟩ := hd
  obtain ⟨b', cs, hb', hh, hds⟩ := htg _ (tag_mem hc)
  obtain ⟨u, rfl⟩ : ∃ u, tg = u + 1 := ⟨tg - 1, by omega⟩
  have := ok.wf.inj b b' u (by omega) hb hb'
  subst this
  have hlen := dens_len hds
  have hload := run_loadN (P := P) hT ha (w := w) (b := b) (off := 0) (cs := cs.toList) (by rw [hlen, hl]) (fun j v hj => by simpa [World.cell?, hh] using hj)
  have hload' : (loadVar ty ⟨b, 0, none⟩).run P w = .ok (.agg cs) w := by simpa [Instr.loadAt, Instr.sureAddr] using hload
  refine ⟨ok.nodefers (by simp), .tuple #[.agg cs, a.tmps.getD t2 undef, a.tmps.getD t3 undef], ?_, _, pubM M, rfl, pubM_wf ok.wf, base_pub (fr := ⟨n, w0, M0, [], .plain⟩) (fun _ h => h) ok.base, _, rfl, hs _ _ _ ok.wf ⟨cs, rfl, hds⟩, hs2 _ _ _ ok.wf (hsl t2 (by simpa using h2)), hs3 _ _ _ ok.wf (hsl t3 (by simpa using h3)), trivial⟩
  have e' : a.tmps.getD tm undef = .pointer (some ⟨b, 0, none⟩) := e
  have e'' : a.tmps[tm]?.getD undef = .pointer (some ⟨b, 0, none⟩) := by rw [← Array.getD_eq_getD_getElem?]; exact e'
  simp [results, hr, e'', asAddr, hload']
end
section
variable {P : Program} {fr : Fr} {A : As} {c : Code} {Q : Exit → Act → World → Prop}
theorem t_asC {tg : Nat} {C D : Cont} (hc : A.tag tg = some C) (h : C.Sub D) (h' : Tri P fr c ⟨A.slots, (tg, D) :: A.tags⟩ Q) : Tri P fr c A Q := fun a w ⟨M, ok, hsl, ht⟩ =>
  h' a w ⟨M, ok, hsl, fun x hx => by
    rcases List.mem_cons.1 hx with rfl | hx
    · exact h _ _ _ (ht _ (tag_mem hc))
    · exact ht x hx⟩
end
section
variable {P : Program} {fr : Fr} {ops : Array Oper} {A : As} {rest : List Oper} {K : As → List (As × Fx) → Prop} {d : Nat} {t mt kt et : TypeId} {p : String} {e : Array Edge} {κ β : Type} [DecidableEq κ]
theorem r_lenPm {x : Operand} {enc : κ → Value} {V : VT β} {kvs : List (κ × β)} (hx : A.op fr x = .pm enc V kvs) (hm : mapOf P mt = some (kt, et))
    (h : TOps P fr ops rest (A.set d (.int .i64 kvs.length)) fun A' l' => K A' ((A, { d := some d, ty := .int .i64 kvs.length, rs := opR x }) :: l')) :
    TOps P fr ops (⟨some d, .call ⟨.builtin .len, #[x], #[mt]⟩, t, p, e, none⟩ :: rest) A K :=
  tops_pure (opT_pure rfl rfl fun a w M _ hrd _ => by
    have hdx := op_den (x := x) (fun _ h => h) hrd
    rw [hx] at hdx
    obtain ⟨b, ex, _, _, es, clock, h3, h4, _⟩ := hdx
    have hl : es.size = kvs.length := by have := congrArg List.length h4; simpa using this
    exact ⟨.int .i64 kvs.length, by simp [execOp, resolve, invoke, builtin, ex, Builtin.len_, run_underlying (mapOf_und hm), getObj, Sem.run, h3, goInt, hl], rfl⟩) h
end
theorem Ty.sub_pe {α : Type} {E : El α} {o : α} : (Ty.pp (E.tys o)).Sub (Ty.pe E o 0) := fun _ _ _ ⟨b, q, h1, h2⟩ => ⟨b, q, h1, h2⟩
end Go.T

namespace Go.Proofs.Ytpnndljmhpepgaa
open Go Go.T Go.RowKit
def plT (p : Pl) : List Ty := [Ty.int .i64 (nth p.1 0), Ty.int .i64 (nth p.1 1), Ty.int .i64 (nth p.1 2), Ty.int .i64 (nth p.1 3), Ty.int .i64 (nth p.1 4), Ty.int .i64 (nth p.1 5)]
theorem plT_get (p : Pl) {i : Nat} (h : i < 6) : (plT p)[i]? = some (Ty.int .i64 (nth p.1 i)) := by
  match i, h with
  | 0, _ => rfl
  | 1, _ => rfl
  | 2, _ => rfl
  | 3, _ => rfl
  | 4, _ => rfl
  | 5, _ => rfl
theorem plT_flat (p : Pl) : plT p = p.1.flatMap I64.tys := by
  obtain ⟨l, h⟩ := p
  match l, h with
  | [a, b, c, d, e, f], _ => rfl
def setP (p : Pl) (i : Nat) (v : Int) : Pl := ⟨p.1.set i v, by rw [List.length_set]; exact p.2⟩
theorem plT_set (p : Pl) {i : Nat} (v : Int) (h : i < 6) : (plT p).set i (Ty.int .i64 v) = plT (setP p i v) := by
  obtain ⟨l, hl⟩ := p
  match l, hl with
  | [a, b, c, d, e, f], _ =>
    match i, h with
    | 0, _ => rfl
    | 1, _ => rfl
    | 2, _ => rfl
    | 3, _ => rfl
    | 4, _ => rfl
    | 5, _ => rfl
def PlE : El Pl := El.mk' 6 plT (fun _ => rfl) (fun _ => ⟨rfl, rfl, rfl⟩)
structure Desk where
  b : Barn
  first : Pl
  deriving Inhabited
def deskTys (d : Desk) : List Ty := [Ty.sl I64 d.b.sizes, Ty.sl LotE d.b.lots, Ty.int .i64 (nth d.first.1 0), Ty.int .i64 (nth d.first.1 1), Ty.int .i64 (nth d.first.1 2), Ty.int .i64 (nth d.first.1 3), Ty.int .i64 (nth d.first.1 4), Ty.int .i64 (nth d.first.1 5)]
def DeskE : El Desk := El.mk' 8 deskTys (fun _ => rfl) (fun _ => ⟨rfl, rfl, rfl⟩)
theorem desk_set (d : Desk) {i : Nat} (v : Int) (h : i < 6) : (DeskE.tys d).set (2 + i) (Ty.int .i64 v) = DeskE.tys ⟨d.b, setP d.first i v⟩ := by
  obtain ⟨b, l, hl⟩ := d
  match l, hl with
  | [a, b, c, d, e, f], _ =>
    match i, h with
    | 0, _ => rfl
    | 1, _ => rfl
    | 2, _ => rfl
    | 3, _ => rfl
    | 4, _ => rfl
    | 5, _ => rfl
def wayT (w : Way) : List Ty := [Ty.int .i64 (nth w.frm.1 0), Ty.int .i64 (nth w.frm.1 1), Ty.int .i64 (nth w.frm.1 2), Ty.int .i64 (nth w.frm.1 3), Ty.int .i64 (nth w.frm.1 4), Ty.int .i64 (nth w.frm.1 5), Ty.sl TurE w.byT, Ty.int .i64 w.all]
def WayV : VT Way := ⟨fun w => Ty.agg (wayT w), fun _ => ⟨rfl, rfl⟩⟩
def foundTys (f : Found) : List Ty := [Ty.pm (encN 6) WayV f.ways, Ty.int .i64 (nth f.last.1 0), Ty.int .i64 (nth f.last.1 1), Ty.int .i64 (nth f.last.1 2), Ty.int .i64 (nth f.last.1 3), Ty.int .i64 (nth f.last.1 4), Ty.int .i64 (nth f.last.1 5), Ty.bool f.is]
def foundT (f : Found) : Ty := Ty.agg (foundTys f)
theorem key_pl (p : Pl) : KeyAt (.agg (plT p)) (encN 6 p) := by rw [plT_flat]; exact key_agg p
theorem und123 : Try.prog.underlying 123 = some (.array 6 3) := by kernel_rfl
theorem eqv123 (a0 a1 a2 a3 a4 a5 b0 b1 b2 b3 b4 b5 : Int) (w : World) : (Op.equal 123 (.agg #[.int .i64 a0, .int .i64 a1, .int .i64 a2, .int .i64 a3, .int .i64 a4, .int .i64 a5]) (.agg #[.int .i64 b0, .int .i64 b1, .int .i64 b2, .int .i64 b3, .int .i64 b4, .int .i64 b5])).run Try.prog w = .ok ((decide (a0 = b0) && (decide (a1 = b1) && (decide (a2 = b2) && (decide (a3 = b3) && (decide (a4 = b4) && decide (a5 = b5))))))) w := by
  have hs : Try.prog.stoodInHeld 123 = false := by kernel_rfl
  have e3 : ∀ (x y : Int) (w : World), (Op.equalIn 9999 3 (.int .i64 x) (.int .i64 y)).run Try.prog w = .ok (decide (x = y)) w := fun x y w => eqIn_int 9998 Try.underlying3
  have g3 : ∀ w, (isAgg 3).run Try.prog w = .ok false w := fun w => by simp [isAgg, run_underlying Try.underlying3]
  unfold Op.equal Op.maxDepth
  rw [Op.equalIn]
  simp only [Sem.run_bind, run_underlying und123, Result.andThen_ok]
  simp [part]
  rw [show List.range' 0 6 = [0, 1, 2, 3, 4, 5] from rfl]
  simp [List.forIn_cons, g3, e3]
  by_cases h0 : a0 = b0
  case neg => simp [h0]
  rw [if_pos h0]
  by_cases h1 : a1 = b1
  case neg => simp [h1]
  rw [if_pos h1]
  by_cases h2 : a2 = b2
  case neg => simp [h2]
  rw [if_pos h2]
  by_cases h3 : a3 = b3
  case neg => simp [h3]
  rw [if_pos h3]
  by_cases h4 : a4 = b4
  case neg => simp [h4]
  rw [if_pos h4]
  by_cases h5 : a5 = b5
  case neg => simp [h5]
  rw [if_pos h5]
  simp [h0, h1, h2, h3, h4, h5]
theorem eqt123 (p q : Pl) : EqT Try.prog 123 (plT p) (plT q) (decide (p = q)) := by
  obtain ⟨l, hl⟩ := p
  obtain ⟨k, hk⟩ := q
  match l, hl with
  | [a0, a1, a2, a3, a4, a5], _ =>
    match k, hk with
    | [b0, b1, b2, b3, b4, b5], _ =>
      refine ⟨by kernel_rfl, fun w M cs ds h1 h2 => ?_⟩
      obtain ⟨cs⟩ := cs
      obtain ⟨ds⟩ := ds
      match cs, ds, h1, h2 with
      | [u0, u1, u2, u3, u4, u5], [v0, v1, v2, v3, v4, v5], h1, h2 =>
        change dens w M [Ty.int .i64 a0, Ty.int .i64 a1, Ty.int .i64 a2, Ty.int .i64 a3, Ty.int .i64 a4, Ty.int .i64 a5] _ at h1
        change dens w M [Ty.int .i64 b0, Ty.int .i64 b1, Ty.int .i64 b2, Ty.int .i64 b3, Ty.int .i64 b4, Ty.int .i64 b5] _ at h2
        simp only [dens, Ty.int, dInt, and_true] at h1 h2
        obtain ⟨rfl, rfl, rfl, rfl, rfl, rfl⟩ := h1
        obtain ⟨rfl, rfl, rfl, rfl, rfl, rfl⟩ := h2
        rw [eqv123]
        congr 1
        simp only [Subtype.mk.injEq, List.cons.injEq, and_true, Bool.decide_and]
theorem enc_eq (x y : Pl) (w : World) : (Op.equal 123 (encN 6 x) (encN 6 y)).run Try.prog w = .ok (decide (x = y)) w := by
  obtain ⟨l, hl⟩ := x
  obtain ⟨k, hk⟩ := y
  match l, hl with
  | [a0, a1, a2, a3, a4, a5], _ =>
    match k, hk with
    | [b0, b1, b2, b3, b4, b5], _ =>
      show (Op.equal 123 (.agg #[.int .i64 a0, .int .i64 a1, .int .i64 a2, .int .i64 a3, .int .i64 a4, .int .i64 a5]) (.agg #[.int .i64 b0, .int .i64 b1, .int .i64 b2, .int .i64 b3, .int .i64 b4, .int .i64 b5])).run Try.prog w = _
      rw [eqv123]
      congr 1
      simp only [Subtype.mk.injEq, List.cons.injEq, and_true, Bool.decide_and]
theorem enc_check (b : Bool) (x : Pl) (w : World) : (Instr.checkKey b 10000 123 (encN 6 x)).run Try.prog w = .ok () w := by
  obtain ⟨l, hl⟩ := x
  have h3 : ∀ (v : Value) (w : World), (Instr.checkKey b 9999 3 v).run Try.prog w = .ok () w := fun v w => by
    rw [show (9999 : Nat) = 9998 + 1 from rfl, Instr.checkKey]
    simp only [Sem.run_bind, run_underlying Try.underlying3, Result.andThen_ok]; rfl
  match l, hl with
  | [a0, a1, a2, a3, a4, a5], _ =>
    have g3 : ∀ w, (isAgg 3).run Try.prog w = .ok false w := fun w => by simp [isAgg, run_underlying Try.underlying3]
    have s3 : ∀ w, (sizeOf 3).run Try.prog w = .ok 1 w := fun w => run_sizeOf' (T := inferInstance) (x := ⟨.int .i64, 1, 8, [.int .i64 0]⟩) rfl w
    rw [show (10000 : Nat) = 9999 + 1 from rfl, Instr.checkKey]
    simp only [Sem.run_bind, run_underlying und123, Result.andThen_ok, encN]
    simp [part]
    rw [show List.range' 0 6 = [0, 1, 2, 3, 4, 5] from rfl]
    simp [List.forIn_cons, s3, g3, h3]
def plKey : KeyK Try.prog 123 Pl := arrKey Try.prog 123 6 3 und123 enc_eq enc_check
def i3Key : KeyK Try.prog 3 Int := intKey Try.prog 3 .i64 Try.underlying3
theorem mapT121 : mapOf Try.prog 121 = some (123, 147) := by kernel_rfl
theorem mapT158 : mapOf Try.prog 158 = some (3, 148) := by kernel_rfl
theorem mapT159 : mapOf Try.prog 159 = some (123, 4) := by kernel_rfl
theorem zero148 : zeroOf Try.prog 148 = some (.slice none 0 0) := by kernel_rfl
theorem zero4 : zeroOf Try.prog 4 = some (.bool false) := by kernel_rfl
theorem zero147 : zeroOf Try.prog 147 = some (.agg #[.int .i64 0, .int .i64 0, .int .i64 0, .int .i64 0, .int .i64 0, .int .i64 0, .slice none 0 0, .int .i64 0]) := by kernel_rfl
theorem vbool_zero : ∀ w M, (VBool.ty false).den w M (.bool false) := fun _ _ => rfl
theorem nil_tur (w : World) (M : Tags) : (Ty.sl TurE []).den w M (.slice none 0 0) := Ty.nil_sl w M _ rfl
theorem way_zero : ∀ w M, (WayV.ty way0).den w M (.agg #[.int .i64 0, .int .i64 0, .int .i64 0, .int .i64 0, .int .i64 0, .int .i64 0, .slice none 0 0, .int .i64 0]) := fun w M =>
  ⟨_, rfl, rfl, rfl, rfl, rfl, rfl, rfl, nil_tur w M, rfl, trivial⟩
theorem way0_sub : (Ty.agg [Ty.int .i64 0, Ty.int .i64 0, Ty.int .i64 0, Ty.int .i64 0, Ty.int .i64 0, Ty.int .i64 0, Ty.ex (.slice none 0 0), Ty.int .i64 0]).Sub (WayV.ty way0) := fun w M v hd => by
  obtain ⟨cs, e, h⟩ := hd
  obtain ⟨cs⟩ := cs
  match cs, h with
  | [_, _, _, _, _, _, _, _], ⟨h1, h2, h3, h4, h5, h6, h7, h8, _⟩ => exact ⟨_, e, h1, h2, h3, h4, h5, h6, Ty.nil_sl w M _ h7, h8, trivial⟩
end Go.Proofs.Ytpnndljmhpepgaa

namespace Go.Proofs.Ytpnndljmhpepgaa
open Go Go.T
theorem prefix_nth {α : Type} [Inhabited α] {A B : List α} {x : α} (h : (A ++ [x]) <+: B) : A.length < B.length ∧ nth B A.length = x := by
  obtain ⟨C, rfl⟩ := h
  refine ⟨by simp, ?_⟩
  unfold nth
  rw [List.getD_eq_getElem?_getD, List.getElem?_append_left (by simp), List.getElem?_append_right (Nat.le_refl _)]
  simp
def turnsUp (b : Barn) (p : Pl) (k : Nat) : List Tur := (List.range k).flatMap (turnsAt b p)
def lotsUp (b : Barn) (k m : Nat) : List Tur := ((List.range m).filter fun (i : Nat) => b.hold k i).map fun (i : Nat) => ⟨i, k⟩
theorem turnsUp_succ (b : Barn) (p : Pl) (k : Nat) : turnsUp b p (k + 1) = turnsUp b p k ++ turnsAt b p k := by
  unfold turnsUp; rw [List.range_succ, List.flatMap_append]; simp
theorem turnsAt_no {b : Barn} {p : Pl} {k : Nat} (h : takenP b p k = true) : turnsAt b p k = [] := by unfold turnsAt; rw [if_pos h]
theorem turnsAt_yes {b : Barn} {p : Pl} {k : Nat} (h : takenP b p k = false) : turnsAt b p k = lotsUp b k b.lots.length := by unfold turnsAt lotsUp; rw [if_neg (by rw [h]; decide)]
theorem lotsUp_yes {b : Barn} {k m : Nat} (h : b.hold k m = true) : lotsUp b k (m + 1) = lotsUp b k m ++ [⟨m, k⟩] := by
  unfold lotsUp
  rw [List.range_succ, List.filter_append, List.map_append, List.filter_cons, if_pos h]; rfl
theorem lotsUp_no {b : Barn} {k m : Nat} (h : b.hold k m = false) : lotsUp b k (m + 1) = lotsUp b k m := by
  unfold lotsUp
  rw [List.range_succ, List.filter_append, List.map_append, List.filter_cons, if_neg (by rw [h]; decide)]; simp
theorem range_split {n k : Nat} (h : k ≤ n) : ∃ l, List.range n = List.range k ++ l := ⟨(List.range n).drop k, by
  have := List.take_append_drop k (List.range n)
  rw [List.take_range, show min k n = k by omega] at this; exact this.symm⟩
theorem turnsUp_pre {b : Barn} {p : Pl} {k : Nat} (h : k ≤ b.sizes.length) : turnsUp b p k <+: turnsL b p := by
  obtain ⟨l, e⟩ := range_split h
  unfold turnsL turnsUp
  rw [e, List.flatMap_append]; exact List.prefix_append _ _
theorem lotsUp_pre {b : Barn} {k m n : Nat} (h : m ≤ n) : lotsUp b k m <+: lotsUp b k n := by
  obtain ⟨l, e⟩ := range_split h
  unfold lotsUp
  rw [e, List.filter_append, List.map_append]; exact List.prefix_append _ _
theorem turns_nth {b : Barn} {p : Pl} {k m : Nat} (hk : k < b.sizes.length) (ht : takenP b p k = false) (hm : m < b.lots.length) (hh : b.hold k m = true) :
    (turnsUp b p k).length + (lotsUp b k m).length < (turnsL b p).length ∧ nth (turnsL b p) ((turnsUp b p k).length + (lotsUp b k m).length) = ⟨m, k⟩ := by
  rw [← List.length_append]
  refine prefix_nth (List.IsPrefix.trans ?_ (turnsUp_pre (k := k + 1) (by omega)))
  rw [turnsUp_succ, turnsAt_yes ht, List.append_assoc, List.prefix_append_right_inj, ← lotsUp_yes hh]
  exact lotsUp_pre (by omega)
theorem mem_take_six {p : Pl} {n : Nat} {x : Int} (hn : n ≤ 6) : x ∈ p.1.take n ↔ ∃ i, i < n ∧ nth p.1 i = x := by
  rw [List.mem_take_iff_getElem]
  have := p.2
  constructor
  · rintro ⟨i, hi, rfl⟩
    exact ⟨i, by omega, nth_lt (by omega)⟩
  · rintro ⟨i, hi, rfl⟩
    exact ⟨i, by omega, (nth_lt (by omega)).symm⟩
theorem taken_iff {b : Barn} {p : Pl} {k : Int} (hl : b.lots.length ≤ 6) : takenP b p k = true ↔ ∃ i, i < b.lots.length ∧ nth p.1 i = k := by
  unfold takenP
  rw [List.any_eq_true]
  constructor
  · rintro ⟨x, hx, h⟩
    obtain ⟨i, hi, e⟩ := (mem_take_six hl).1 hx
    exact ⟨i, hi, by rw [e]; exact of_decide_eq_true h⟩
  · rintro ⟨i, hi, e⟩
    exact ⟨_, (mem_take_six hl).2 ⟨i, hi, rfl⟩, decide_eq_true e⟩
theorem taken_at {b : Barn} {p : Pl} {k : Int} {i : Nat} (hl : b.lots.length ≤ 6) (hi : i < b.lots.length) (h : nth p.1 i = k) : true = takenP b p k := ((taken_iff hl).2 ⟨i, hi, h⟩).symm
theorem taken_not {b : Barn} {p : Pl} {k : Int} (hl : b.lots.length ≤ 6) (h : ∀ i, i < b.lots.length → nth p.1 i ≠ k) : false = takenP b p k := by
  symm; rw [Bool.eq_false_iff]; intro h2
  obtain ⟨i, hi, e⟩ := (taken_iff hl).1 h2
  exact h i hi e
theorem lt_ext {q : Nat → Prop} {k : Nat} (h : ∀ i, i < k → q i) (hk : q k) : ∀ i, i < k + 1 → q i := fun i hi => by
  by_cases e : i = k
  · subst e; exact hk
  · exact h i (by omega)
def madeI (b : Barn) (p : Pl) (i : Nat) : Bool := decide ((nth b.lots i).aim = -1) || decide ((nth b.lots i).aim = nth p.1 i)
theorem made_not {b : Barn} {p : Pl} {i : Nat} (hi : i < b.lots.length) (h : madeI b p i = false) : false = madeP b p := by
  symm; unfold madeP
  rw [List.all_eq_false]
  exact ⟨i, List.mem_range.2 hi, by show ¬ madeI b p i = true; rw [h]; decide⟩
theorem made_all {b : Barn} {p : Pl} (h : ∀ i, i < b.lots.length → madeI b p i = true) : true = madeP b p := by
  symm; unfold madeP
  rw [List.all_eq_true]
  exact fun i hi => h i (List.mem_range.1 hi)
theorem madeI_eq {b : Barn} {p : Pl} {i : Nat} : (!decide ((nth b.lots i).aim = -1) && !decide ((nth b.lots i).aim = nth p.1 i)) = !madeI b p i := by
  unfold madeI; rw [Bool.not_or]
def firstUp (b : Barn) (k : Nat) : Pl := ⟨(((b.lots.take k).map fun (l : Lot) => l.inn) ++ List.replicate 6 (0 : Int)).take 6, by rw [List.length_take, List.length_append, List.length_replicate]; omega⟩
theorem firstUp_all {b : Barn} {k : Nat} (h : b.lots.length ≤ k) : firstUp b k = firstP b := by
  unfold firstUp firstP; simp only [List.take_of_length_le h]
theorem snoc_fill {L : List Int} {k : Nat} (hL : L.length = k) (hk : k < 6) (v : Int) : ((L ++ List.replicate 6 (0 : Int)).take 6).set k v = ((L ++ [v]) ++ List.replicate 6 (0 : Int)).take 6 := by
  rw [List.append_assoc, List.take_append, List.take_append, hL, List.take_of_length_le (by omega), List.set_append_right _ _ (by omega), hL, Nat.sub_self]
  congr 1
  obtain ⟨m, hm⟩ : ∃ m, 6 - k = m + 1 := ⟨5 - k, by omega⟩
  rw [hm]
  show v :: List.take m (List.replicate 5 (0 : Int)) = v :: List.take m (List.replicate 6 (0 : Int))
  rw [List.take_replicate, List.take_replicate, show min m 5 = m by omega, show min m 6 = m by omega]
theorem firstUp_succ {b : Barn} {k : Nat} (hk : k < b.lots.length) (h6 : b.lots.length ≤ 6) : setP (firstUp b k) k (nth b.lots k).inn = firstUp b (k + 1) := by
  apply Subtype.ext
  show (((b.lots.take k).map (fun (l : Lot) => l.inn) ++ List.replicate 6 (0 : Int)).take 6).set k (nth b.lots k).inn = ((b.lots.take (k + 1)).map (fun (l : Lot) => l.inn) ++ List.replicate 6 (0 : Int)).take 6
  rw [take_nth hk, List.map_append, snoc_fill (by rw [List.length_map, List.length_take]; omega) (by omega)]
  rfl
end Go.Proofs.Ytpnndljmhpepgaa

namespace Go.Proofs.Ytpnndljmhpepgaa
open Go Go.T
set_option maxHeartbeats 2000000
theorem pe_at {p : Pl} {i : Nat} (h : i < 6) : (PlE.tys p)[0 + i * 1]? = some (Ty.int .i64 (nth p.1 i)) := by rw [show 0 + i * 1 = i by omega]; exact plT_get p h
theorem desk_zero (b : Barn) : DeskE.tys ⟨b, pl0⟩ = [Ty.sl I64 b.sizes, Ty.sl LotE b.lots, Ty.int .i64 0, Ty.int .i64 0, Ty.int .i64 0, Ty.int .i64 0, Ty.int .i64 0, Ty.int .i64 0] := rfl
theorem desk_step {b : Barn} {k : Nat} (hk : k < b.lots.length) (h6 : b.lots.length ≤ 6) : (DeskE.tys ⟨b, firstUp b k⟩).set (0 + 2 + k * 1) (Ty.int .i64 (nth b.lots k).inn) = DeskE.tys ⟨b, firstUp b (k + 1)⟩ := by
  rw [show 0 + 2 + k * 1 = 2 + k by omega, desk_set _ _ (by omega), firstUp_succ hk h6]
def turEnc (t : Tur) : List Ty := [Ty.agg (TurE.tys t)]
attribute [local irreducible] dInt dBool dSl dPp dPtr dAgg dTup dClo dAny dEx dStr dGd dCells dVec dVs dRow dOp nth Tri Into TOps Ctr bodyPost Exit.then Exit.inBlock Code.wp Code.wpIn dWhen dPa dPe dAo dArr dMp dPm dMap dCJ CtrG CtrI OpY keepPost iterPost bodyPostM roundQ
theorem c_holds_at (b : Barn) (k i : Nat) (hk : k < b.sizes.length) (hi : i < b.lots.length) {v : Bool} (h : b.hold k i = v) : Ctr Try.prog 92 [barnT b, Ty.int .i64 (k : Nat), Ty.int .i64 (i : Nat)] (Ty.bool v) := h ▸ c_holds b k i ⟨by omega, by omega⟩ ⟨by omega, by omega⟩
set_option maxRecDepth 100000 in
theorem c_taken (d : Desk) (hl : d.b.lots.length ≤ 6) (p : Pl) (n : Int) : Ctr Try.prog 137 [Ty.pe DeskE d 0, Ty.agg (plT p), Ty.int .i64 n] (Ty.bool (takenP d.b p n)) := by
  refine fn_intro Try.func137 rfl (by decide) Try.ntmps137 (by exact Nat.le_of_ble_eq_true rfl) fun w0 M0 => ?_
  refine t_seq ?_
  refine t_region ?_
  refine r_box_agg rfl ?_
  refine asB rfl ?_
  refine r_nil ?_
  refine i_then ?_
  refine t_seq ?_
  refine t_seq ?_
  refine t_as (s := 4) (ty := Ty.pp (PlE.tys p)) rfl Ty.sub_pe ?_
  refine t_region ?_
  refine mvPe rfl ?_
  refine r_nilCheck_pe rfl ?_
  refine r_field_pe rfl rfl rfl rfl rfl (by decide) ?_
  refine r_field_pe rfl rfl rfl rfl rfl (by decide) ?_
  refine r_load_pe rfl rfl rfl rfl ?_
  refine r_len rfl rfl rfl ?_
  refine mvI rfl ?_
  refine r_nil ?_
  refine i_then ?_
  refine t_block ?_
  refine t_loop (fun (k : {k : Nat // ∀ i, i < k → nth p.1 i ≠ n}) => live [(2, Ty.int .i64 n), (4, Ty.pe PlE p 0), (13, Ty.int .i64 d.b.lots.length), (14, Ty.int .i64 (k.1 : Nat))] []) (fun k => d.b.lots.length - k.1) (⟨0, fun i hi => absurd hi (Nat.not_lt_zero i)⟩) ?_ fun k => ?_
  · (refine Ent.mk' ?_ ?_ <;> (repeat' (first | exact allSub_zero | exact allTags_nil | refine allSub_succ' ?_ (Ty.sub_any _) | refine allSub_succ' ?_ (Ty.sub_refl _))))
  ·
    refine t_seq ?_
    refine t_region ?_
    refine r_bin rfl rfl rfl ?_
    refine r_nil ?_
    refine i_then ?_
    refine t_seq ?_
    refine t_cond_dec rfl (fun hc1 => ?_) (fun hc1 => ?_)
    ·
      refine t_skip ?_
      refine i_then ?_
      refine t_seq ?_
      refine t_block ?_
      refine t_seq ?_
      refine t_region ?_
      refine mvI rfl ?_
      refine asI rfl ?_
      refine r_nil ?_
      refine i_then ?_
      refine t_seq ?_
      refine t_region ?_
      refine mvI rfl ?_
      refine r_index_pe rfl rfl rfl rfl rfl (by omega) ?_
      refine r_load_pe rfl rfl rfl (pe_at (by omega)) ?_
      refine mvI rfl ?_
      refine r_bin rfl rfl rfl ?_
      refine r_nil ?_
      refine i_then ?_
      refine t_cond_dec rfl (fun hc2 => ?_) (fun hc2 => ?_)
      ·
        refine t_seq ?_
        refine t_region ?_
        refine asB rfl ?_
        refine r_nil ?_
        refine i_then ?_
        refine t_ret ?_
        refine i_block_ret ?_
        refine i_then_ret ?_
        refine i_then_ret ?_
        refine i_block_ret ?_
        refine i_then_ret ?_
        refine i_rp1 rfl rfl ?_
        all_goals skip
        exact ret_eq rfl rfl (congrArg Ty.bool (taken_at hl (by omega) hc2))
      ·
        refine t_skip ?_
        refine i_block ?_
        refine i_then ?_
        refine t_region ?_
        refine r_add rfl rfl (by omega) (by omega) ?_
        refine mvI rfl ?_
        refine r_nil ?_
        refine i_round (⟨k.1 + 1, lt_ext k.2 hc2⟩) ?_ (by show d.b.lots.length - (k.1 + 1) < d.b.lots.length - k.1; omega)
        (refine Ent.mk' ?_ ?_ <;> (repeat' (first | exact allSub_zero | exact allTags_nil | refine allSub_succ' ?_ (Ty.sub_any _) | refine allSub_succ' ?_ (Ty.sub_refl _))))
        all_goals skip
    ·
      refine t_exit ?_
      refine i_then_exit ?_
      refine i_then_exit ?_
      refine i_block_exit rfl ?_
      refine i_then ?_
      refine t_seq ?_
      refine t_region ?_
      refine asB rfl ?_
      refine r_nil ?_
      refine i_then ?_
      refine t_ret ?_
      refine i_rp1 rfl rfl ?_
      all_goals skip
      exact ret_eq rfl rfl (congrArg Ty.bool (taken_not hl (fun i hi => k.2 i (by omega))))
set_option maxRecDepth 100000 in
theorem c_made (d : Desk) (hl : d.b.lots.length ≤ 6) (p : Pl) : Ctr Try.prog 111 [Ty.pe DeskE d 0, Ty.agg (plT p)] (Ty.bool (madeP d.b p)) := by
  refine fn_intro Try.func111 rfl (by decide) Try.ntmps111 (by exact Nat.le_of_ble_eq_true rfl) fun w0 M0 => ?_
  refine t_seq ?_
  refine t_region ?_
  refine r_box_agg rfl ?_
  refine asB rfl ?_
  refine r_nil ?_
  refine i_then ?_
  refine t_seq ?_
  refine t_seq ?_
  refine t_as (s := 3) (ty := Ty.pp (PlE.tys p)) rfl Ty.sub_pe ?_
  refine t_region ?_
  refine mvPe rfl ?_
  refine r_nilCheck_pe rfl ?_
  refine r_field_pe rfl rfl rfl rfl rfl (by decide) ?_
  refine r_field_pe rfl rfl rfl rfl rfl (by decide) ?_
  refine r_load_pe rfl rfl rfl rfl ?_
  refine r_len rfl rfl rfl ?_
  refine mvI rfl ?_
  refine r_nil ?_
  refine i_then ?_
  refine t_block ?_
  refine t_loop (fun (k : {k : Nat // ∀ i, i < k → madeI d.b p i = true}) => live [(3, Ty.pe PlE p 0), (11, Ty.sl LotE d.b.lots), (12, Ty.int .i64 d.b.lots.length), (13, Ty.int .i64 (k.1 : Nat))] []) (fun k => d.b.lots.length - k.1) (⟨0, fun i hi => absurd hi (Nat.not_lt_zero i)⟩) ?_ fun k => ?_
  · (refine Ent.mk' ?_ ?_ <;> (repeat' (first | exact allSub_zero | exact allTags_nil | refine allSub_succ' ?_ (Ty.sub_any _) | refine allSub_succ' ?_ (Ty.sub_refl _))))
  ·
    refine t_seq ?_
    refine t_region ?_
    refine r_bin rfl rfl rfl ?_
    refine r_nil ?_
    refine i_then ?_
    refine t_seq ?_
    refine t_cond_dec rfl (fun hc1 => ?_) (fun hc1 => ?_)
    ·
      refine t_skip ?_
      refine i_then ?_
      refine t_seq ?_
      refine t_block ?_
      refine t_seq ?_
      refine t_region ?_
      refine mvI rfl ?_
      refine r_index_slN rfl rfl rfl rfl rfl rfl (by omega) ?_
      refine r_load_ppN rfl rfl rfl (by exact Nat.le_of_ble_eq_true rfl) ?_
      refine r_alloc rfl (by exact List.cons_ne_nil _ _) rfl ?_
      refine asI rfl ?_
      refine r_storeN rfl rfl (by decide) rfl rfl rfl rfl rfl rfl ?_
      refine r_nil ?_
      refine i_then ?_
      refine t_seq ?_
      refine t_draw mixed rfl ?_
      refine r_field_ptr rfl rfl rfl rfl rfl (by decide) ?_
      refine r_load_ptr rfl rfl (by decide) rfl rfl rfl ?_
      refine r_bin rfl rfl rfl ?_
      refine mvB rfl ?_
      apply r_guard (s := 21) rfl rfl rfl
      · intro hg; apply opT_of; (refine r_field_ptr rfl rfl rfl rfl rfl (by decide) ?_); refine r_nil ?_; exact rfl
      · exact rfl
      · exact rfl
      apply r_guard (s := 21) rfl rfl rfl
      · intro hg; apply opT_strip (s := 22) rfl (by (rw [hg]; rfl)); apply opT_of; (refine r_load_ptr rfl rfl (by decide) rfl rfl rfl ?_); refine r_nil ?_; exact rfl
      · exact rfl
      · exact rfl
      apply r_guard (s := 21) rfl rfl rfl
      · intro hg; apply opT_of; (refine mvI rfl ?_); refine r_nil ?_; exact rfl
      · exact rfl
      · exact rfl
      apply r_guard (s := 21) rfl rfl rfl
      · intro hg; apply opT_strip (s := 24) rfl (by (rw [hg]; rfl)); apply opT_of; (refine r_index_pe rfl rfl rfl rfl rfl (by omega) ?_); refine r_nil ?_; exact rfl
      · exact rfl
      · exact rfl
      apply r_guard (s := 21) rfl rfl rfl
      · intro hg; apply opT_strip (s := 25) rfl (by (rw [hg]; rfl)); apply opT_of; (refine r_load_pe rfl rfl rfl (pe_at (by omega)) ?_); refine r_nil ?_; exact rfl
      · exact rfl
      · exact rfl
      apply r_guard (s := 21) rfl rfl rfl
      · intro hg; apply opT_strip (s := 23) rfl (by (rw [hg]; rfl)); apply opT_strip (s := 26) rfl (by (rw [hg]; rfl)); apply opT_of; (refine r_bin rfl rfl rfl ?_); refine r_nil ?_; exact rfl
      · exact rfl
      · exact rfl
      refine r_and rfl rfl ?_
      refine r_nil ?_
      refine ⟨by kernel_rfl, ?_⟩
      refine i_then ?_
      refine t_cond rfl (fun hc2 => ?_) (fun hc2 => ?_)
      ·
        refine t_seq ?_
        refine t_region ?_
        refine asB rfl ?_
        refine r_nil ?_
        refine i_then ?_
        refine t_ret ?_
        refine i_block_ret ?_
        refine i_then_ret ?_
        refine i_then_ret ?_
        refine i_block_ret ?_
        refine i_then_ret ?_
        refine i_rp1 rfl rfl ?_
        all_goals skip
        exact ret_eq rfl rfl (congrArg Ty.bool (made_not (i := k.1) (by omega) (by have h := hc2; rw [madeI_eq] at h; simpa using h)))
      ·
        refine t_skip ?_
        refine i_block ?_
        refine i_then ?_
        refine t_region ?_
        refine r_add rfl rfl (by omega) (by omega) ?_
        refine mvI rfl ?_
        refine r_nil ?_
        refine i_round (⟨k.1 + 1, lt_ext k.2 (by have h := hc2; rw [madeI_eq] at h; simpa using h)⟩) ?_ (by show d.b.lots.length - (k.1 + 1) < d.b.lots.length - k.1; omega)
        (refine Ent.mk' ?_ ?_ <;> (repeat' (first | exact allSub_zero | exact allTags_nil | refine allSub_succ' ?_ (Ty.sub_any _) | refine allSub_succ' ?_ (Ty.sub_refl _))))
        all_goals skip
    ·
      refine t_exit ?_
      refine i_then_exit ?_
      refine i_then_exit ?_
      refine i_block_exit rfl ?_
      refine i_then ?_
      refine t_seq ?_
      refine t_region ?_
      refine asB rfl ?_
      refine r_nil ?_
      refine i_then ?_
      refine t_ret ?_
      refine i_rp1 rfl rfl ?_
      all_goals skip
      exact ret_eq rfl rfl (congrArg Ty.bool (made_all (fun i hi => k.2 i (by omega))))
set_option maxRecDepth 100000 in
theorem c_least (n : Int) (l : List Int) : Ctr Try.prog 120 [Ty.int .i64 n, Ty.sl I64 l] (Ty.int .i64 (l.foldl min n)) := by
  refine fn_intro Try.func120 rfl (by decide) Try.ntmps120 (by exact Nat.le_of_ble_eq_true rfl) fun w0 M0 => ?_
  refine t_fact (s := 1) rfl rfl sl_len fun hl => ?_
  refine t_seq ?_
  refine t_region ?_
  refine asI rfl ?_
  refine r_nil ?_
  refine i_then ?_
  refine t_seq ?_
  refine t_seq ?_
  refine t_region ?_
  refine mvS rfl ?_
  refine r_len rfl rfl rfl ?_
  refine mvI rfl ?_
  refine r_nil ?_
  refine i_then ?_
  refine t_block ?_
  refine t_loop (fun (k : Nat) => live [(0, Ty.int .i64 ((l.take k).foldl min n)), (7, Ty.sl I64 l), (8, Ty.int .i64 l.length), (9, Ty.int .i64 (k : Nat))] []) (fun k => l.length - k) (0) ?_ fun k => ?_
  · (refine Ent.mk' ?_ ?_ <;> (repeat' (first | exact allSub_zero | exact allTags_nil | refine allSub_succ' ?_ (Ty.sub_any _) | refine allSub_succ' ?_ (Ty.sub_refl _))))
  ·
    refine t_seq ?_
    refine t_region ?_
    refine r_bin rfl rfl rfl ?_
    refine r_nil ?_
    refine i_then ?_
    refine t_seq ?_
    refine t_cond_dec rfl (fun hc1 => ?_) (fun hc1 => ?_)
    ·
      refine t_skip ?_
      refine i_then ?_
      refine t_seq ?_
      refine t_block ?_
      refine t_seq ?_
      refine t_region ?_
      refine r_index_slN rfl rfl rfl rfl rfl rfl (by omega) ?_
      refine r_load_pp rfl rfl rfl rfl ?_
      refine asI rfl ?_
      refine r_nil ?_
      refine i_then ?_
      refine t_region ?_
      refine mvI rfl ?_
      refine mvI rfl ?_
      refine r_min rfl rfl ?_
      refine asI rfl ?_
      refine r_nil ?_
      refine i_block ?_
      refine i_then ?_
      refine t_region ?_
      refine r_add rfl rfl (by omega) (by omega) ?_
      refine mvI rfl ?_
      refine r_nil ?_
      refine i_round (k + 1) ?_ (by omega)
      (refine Ent.mk' ?_ ?_ <;> (repeat' (first | exact allSub_zero | exact allTags_nil | refine allSub_succ' ?_ (Ty.sub_any _) | refine allSub_succ' ?_ (Ty.sub_refl _) | refine allSub_succ' ?_ ?_)))
      all_goals skip
      exact Ty.sub_int (by rw [take_nth (by omega), List.foldl_append]; rfl)
    ·
      refine t_exit ?_
      refine i_then_exit ?_
      refine i_then_exit ?_
      refine i_block_exit rfl ?_
      refine i_then ?_
      refine t_seq ?_
      refine t_region ?_
      refine mvI rfl ?_
      refine asI rfl ?_
      refine r_nil ?_
      refine i_then ?_
      refine t_ret ?_
      refine i_rp1 rfl rfl ?_
      all_goals skip
      exact ret_eq rfl rfl (congrArg (Ty.int .i64) (by rw [List.take_of_length_le (by omega)]))
set_option maxRecDepth 100000 in
theorem c_opened1 (b : Barn) (hs : b.Small) (he : checkB b ≠ 0) : Ctr Try.prog 77 [barnT b] (Ty.tup [Ty.ex (.pointer none), Ty.int .i64 (checkB b)]) := by
  refine fn_intro Try.func77 rfl (by decide) Try.ntmps77 (by exact Nat.le_of_ble_eq_true rfl) fun w0 M0 => ?_
  refine t_seq ?_
  refine t_region ?_
  refine r_box_agg rfl ?_
  refine asX rfl ?_
  refine asI rfl ?_
  refine r_nil ?_
  refine i_then ?_
  refine t_seq ?_
  refine t_seq ?_
  refine t_region ?_
  refine r_load_ppN rfl rfl rfl (by exact Nat.le_of_ble_eq_true rfl) ?_
  refine r_call (c_Check b hs) rfl rfl rfl rfl rfl ?_
  refine asI rfl ?_
  refine r_nil ?_
  refine i_then ?_
  refine t_seq ?_
  refine t_region ?_
  refine mvI rfl ?_
  refine r_bin rfl rfl rfl ?_
  refine r_nil ?_
  refine i_then ?_
  refine t_cond_tt rfl (by rw [decide_eq_false he]; rfl) ?_
  refine t_seq ?_
  refine t_region ?_
  refine mvI rfl ?_
  refine asX rfl ?_
  refine asI rfl ?_
  refine r_nil ?_
  refine i_then ?_
  refine t_ret ?_
  refine i_then_ret ?_
  refine i_rp2 rfl rfl rfl ?_ ?_
  all_goals exact ret_refl rfl rfl
  skip
set_option maxRecDepth 100000 in
theorem c_opened2 (b : Barn) (hs : b.Small) (h0 : checkB b = 0) : Ctr Try.prog 77 [barnT b] (Ty.tup [Ty.pe DeskE ⟨b, firstP b⟩ 0, Ty.int .i64 0]) := by
  refine fn_intro Try.func77 rfl (by decide) Try.ntmps77 (by exact Nat.le_of_ble_eq_true rfl) fun w0 M0 => ?_
  have h6 := (check_right h0).lots
  refine t_seq ?_
  refine t_region ?_
  refine r_box_agg rfl ?_
  refine asX rfl ?_
  refine asI rfl ?_
  refine r_nil ?_
  refine i_then ?_
  refine t_seq ?_
  refine t_seq ?_
  refine t_region ?_
  refine r_load_ppN rfl rfl rfl (by exact Nat.le_of_ble_eq_true rfl) ?_
  refine r_call (c_Check b hs) rfl rfl rfl rfl rfl ?_
  refine asI rfl ?_
  refine r_nil ?_
  refine i_then ?_
  refine t_seq ?_
  refine t_region ?_
  refine mvI rfl ?_
  refine r_bin rfl rfl rfl ?_
  refine r_nil ?_
  refine i_then ?_
  refine t_cond_ff rfl (by rw [h0]; rfl) ?_
  refine t_skip ?_
  refine i_then ?_
  refine t_seq ?_
  refine t_region ?_
  refine r_load_ppN rfl rfl rfl (by exact Nat.le_of_ble_eq_true rfl) ?_
  refine r_buildO DeskE ⟨b, pl0⟩ rfl rfl (by exact List.cons_ne_nil _ _) rfl (by repeat (first | exact (Parts.nil : Parts _ _ [] _) | (show Parts _ _ ((_, _) :: _) _; apply Parts.agg; (· exact (rfl : _ = Ty.agg _))))) (by rw [desk_zero]; rfl) ?_
  refine r_box_ob (E := DeskE) ⟨b, pl0⟩ rfl rfl ?_
  refine asO rfl ?_
  refine r_nil ?_
  refine i_then ?_
  refine t_seq ?_
  refine t_seq ?_
  refine t_region ?_
  refine r_field_pp rfl rfl rfl rfl rfl (by decide) ?_
  refine r_load_pp rfl rfl rfl rfl ?_
  refine r_len rfl rfl rfl ?_
  refine mvI rfl ?_
  refine r_nil ?_
  refine i_then ?_
  refine t_block ?_
  refine t_loop (fun (k : {k : Nat // k ≤ b.lots.length}) => live [(1, Ty.pp (barnTys b)), (5, Ty.ptr 16 0), (17, Ty.sl LotE b.lots), (18, Ty.int .i64 b.lots.length), (19, Ty.int .i64 (k.1 : Nat))] [(16, Cont.vec DeskE 145 [⟨b, firstUp b k.1⟩])]) (fun k => b.lots.length - k.1) (⟨0, by omega⟩) ?_ fun k => ?_
  · (refine Ent.mk' ?_ ?_ <;> (repeat' (first | exact allSub_zero | exact allTags_nil | refine allSub_succ' ?_ (Ty.sub_any _) | refine allSub_succ' ?_ (Ty.sub_refl _) | refine allTags_cons rfl (Cont.sub_refl _) ?_)))
  ·
    refine t_seq ?_
    refine t_region ?_
    refine r_bin rfl rfl rfl ?_
    refine r_nil ?_
    refine i_then ?_
    refine t_seq ?_
    refine t_cond_dec rfl (fun hc2 => ?_) (fun hc2 => ?_)
    ·
      refine t_skip ?_
      refine i_then ?_
      refine t_seq ?_
      refine t_block ?_
      refine t_seq ?_
      refine t_region ?_
      refine mvI rfl ?_
      refine r_index_slN rfl rfl rfl rfl rfl rfl (by omega) ?_
      refine r_load_ppN rfl rfl rfl (by exact Nat.le_of_ble_eq_true rfl) ?_
      refine r_alloc rfl (by exact List.cons_ne_nil _ _) rfl ?_
      refine asI rfl ?_
      refine r_storeN rfl rfl (by decide) rfl rfl rfl rfl rfl rfl ?_
      refine r_nil ?_
      refine i_then ?_
      refine t_draw mixed rfl ?_
      refine mvO rfl ?_
      refine mvI rfl ?_
      refine r_field_ptr rfl rfl rfl rfl rfl (by decide) ?_
      refine r_load_ptr rfl rfl (by decide) rfl rfl rfl ?_
      refine r_nilCheck_ptr rfl ?_
      refine r_field_ptr rfl rfl rfl rfl rfl (by decide) ?_
      refine r_index_ptr rfl rfl rfl rfl rfl (by omega) ?_
      refine r_store_ob (E := DeskE) (o := ⟨b, firstUp b k.1⟩) (z := ⟨b, firstUp b (k.1 + 1)⟩) rfl rfl (by decide) rfl rfl (by exact (rfl : _ = Ty.int _ _)) rfl (show 0 + 2 + k.1 * 1 < 8 by omega) rfl (desk_step (by omega) h6) ?_
      refine r_nil ?_
      refine ⟨by kernel_rfl, ?_⟩
      refine i_block ?_
      refine i_then ?_
      refine t_region ?_
      refine r_add rfl rfl (by omega) (by omega) ?_
      refine mvI rfl ?_
      refine r_nil ?_
      refine i_round (⟨k.1 + 1, by omega⟩) ?_ (by show b.lots.length - (k.1 + 1) < b.lots.length - k.1; omega)
      (refine Ent.mk' ?_ ?_ <;> (repeat' (first | exact allSub_zero | exact allTags_nil | refine allSub_succ' ?_ (Ty.sub_any _) | refine allSub_succ' ?_ (Ty.sub_refl _) | refine allTags_cons rfl (Cont.sub_refl _) ?_)))
      all_goals skip
    ·
      refine t_exit ?_
      refine i_then_exit ?_
      refine i_then_exit ?_
      refine i_block_exit rfl ?_
      refine i_then ?_
      refine t_seq ?_
      refine t_pub (tg := 16) [(5, Ty.pe DeskE ⟨b, firstUp b k.1⟩ 0)] (by decide) rfl ⟨pub_ob rfl rfl (by decide), trivial⟩ ?_
      refine t_region ?_
      refine mvPe rfl ?_
      refine asPe rfl ?_
      refine asI rfl ?_
      refine r_nil ?_
      refine i_then ?_
      refine t_ret ?_
      refine i_rp2 rfl rfl rfl ?_ ?_
      all_goals first | exact ret_refl rfl rfl | skip
      all_goals exact ret_eq rfl rfl (by rw [firstUp_all (by have := k.2; omega)]; rfl)
theorem c_open (b : Barn) (hs : b.Small) : Ctr Try.prog 77 [barnT b] (Ty.tup [Ty.when (decide (checkB b = 0)) (Ty.pe DeskE ⟨b, firstP b⟩ 0), Ty.int .i64 (checkB b)]) := by
  by_cases h0 : checkB b = 0
  · have h := c_opened2 b hs h0
    rw [h0]
    exact h.mono (Ty.tup2_sub (Ty.sub_when rfl fun _ => Ty.sub_refl _) (Ty.sub_refl _))
  · exact (c_opened1 b hs h0).mono (Ty.tup2_sub (Ty.sub_when rfl fun h => by simp [h0] at h) (Ty.sub_refl _))
set_option maxRecDepth 100000 in
theorem c_turnings1 (d : Desk) (hs : d.b.Small) (h6 : d.b.lots.length ≤ 6) (p : Pl) : CtrI Try.prog 146 (fun l => [Ty.ex (yv l), Ty.pp [Ty.pe DeskE d 0], Ty.pp (plT p)]) ((turnsL d.b p).map turEnc) (Ty.tup []) (Ty.tup []) := by
  refine fnI_intro Try.func146 rfl (by decide) Try.ntmps146 (fun _ => by exact Nat.le_of_ble_eq_true rfl) (fun _ => ⟨rfl, rfl⟩) fun l J Jx hJ hJx hY w0 M0 => ?_
  have hs1 := hs.sizes
  refine t_seq ?_
  refine t_region ?_
  refine r_load_pp rfl rfl rfl rfl ?_
  refine r_nilCheck_pe rfl ?_
  refine r_field_pe rfl rfl rfl rfl rfl (by decide) ?_
  refine r_field_pe rfl rfl rfl rfl rfl (by decide) ?_
  refine r_load_pe rfl rfl rfl rfl ?_
  refine r_len rfl rfl rfl ?_
  refine mvI rfl ?_
  refine r_nil ?_
  refine i_then ?_
  refine t_block ?_
  refine t_loop (fun (k : {k : Nat // k ≤ d.b.sizes.length}) => live [(0, Ty.ex (yv l)), (1, Ty.pp [Ty.pe DeskE d 0]), (2, Ty.pp (plT p)), (11, Ty.int .i64 d.b.sizes.length), (12, Ty.int .i64 (k.1 : Nat))] [(0, CJ (hJ (turnsUp d.b p k.1).length))]) (fun k => d.b.sizes.length - k.1) (⟨0, by omega⟩) ?_ fun k => ?_
  · (refine Ent.mk' ?_ ?_ <;> (repeat' (first | exact allSub_zero | exact allTags_nil | refine allSub_succ' ?_ (Ty.sub_any _) | refine allSub_succ' ?_ (Ty.sub_refl _) | refine allTags_cons rfl (Cont.sub_refl _) ?_)))
  ·
    refine t_seq ?_
    refine t_region ?_
    refine r_bin rfl rfl rfl ?_
    refine r_nil ?_
    refine i_then ?_
    refine t_seq ?_
    refine t_cond_dec rfl (fun hc1 => ?_) (fun hc1 => ?_)
    ·
      refine t_skip ?_
      refine i_then ?_
      refine t_seq ?_
      refine t_block ?_
      refine t_seq ?_
      refine t_region ?_
      refine mvI rfl ?_
      refine asI rfl ?_
      refine r_nil ?_
      refine i_then ?_
      refine t_seq ?_
      refine t_seq ?_
      refine t_region ?_
      refine r_load_pp rfl rfl rfl rfl ?_
      refine r_load_ppN rfl rfl rfl (by exact Nat.le_of_ble_eq_true rfl) ?_
      refine mvI rfl ?_
      refine r_call (c_taken d h6 p (k.1 : Nat)) rfl rfl rfl rfl rfl ?_
      refine r_nil ?_
      refine i_then ?_
      refine t_cond rfl (fun hc2 => ?_) (fun hc2 => ?_)
      ·
        refine t_exit ?_
        refine i_then_exit ?_
        refine i_block_exit rfl ?_
        refine i_then ?_
        refine t_region ?_
        refine r_add rfl rfl (by omega) (by omega) ?_
        refine mvI rfl ?_
        refine r_nil ?_
        refine i_round (⟨k.1 + 1, by omega⟩) ?_ (by show d.b.sizes.length - (k.1 + 1) < d.b.sizes.length - k.1; omega)
        (refine Ent.mk' ?_ ?_ <;> (repeat' (first | exact allSub_zero | exact allTags_nil | refine allSub_succ' ?_ (Ty.sub_any _) | refine allSub_succ' ?_ (Ty.sub_refl _) | refine allTags_cons rfl ?_ ?_)))
        all_goals skip
        exact Cont.sub_eq (congrArg (fun n => CJ (hJ n)) (by show (turnsUp d.b p k.1).length = (turnsUp d.b p (k.1 + 1)).length; rw [turnsUp_succ, turnsAt_no hc2, List.append_nil]))
      ·
        refine t_skip ?_
        refine i_then ?_
        refine t_seq ?_
        refine t_region ?_
        refine r_load_pp rfl rfl rfl rfl ?_
        refine r_nilCheck_pe rfl ?_
        refine r_field_pe rfl rfl rfl rfl rfl (by decide) ?_
        refine r_field_pe rfl rfl rfl rfl rfl (by decide) ?_
        refine r_load_pe rfl rfl rfl rfl ?_
        refine r_len rfl rfl rfl ?_
        refine mvI rfl ?_
        refine r_nil ?_
        refine i_then ?_
        refine t_block ?_
        refine t_loop (fun (m : {m : Nat // m ≤ d.b.lots.length}) => live [(0, Ty.ex (yv l)), (1, Ty.pp [Ty.pe DeskE d 0]), (2, Ty.pp (plT p)), (4, Ty.int .i64 (k.1 : Nat)), (11, Ty.int .i64 d.b.sizes.length), (12, Ty.int .i64 (k.1 : Nat)), (24, Ty.int .i64 d.b.lots.length), (25, Ty.int .i64 (m.1 : Nat))] [(0, CJ (hJ ((turnsUp d.b p k.1).length + (lotsUp d.b k.1 m.1).length)))]) (fun m => d.b.lots.length - m.1) (⟨0, by omega⟩) ?_ fun m => ?_
        · (refine Ent.mk' ?_ ?_ <;> (repeat' (first | exact allSub_zero | exact allTags_nil | refine allSub_succ' ?_ (Ty.sub_any _) | refine allSub_succ' ?_ (Ty.sub_refl _) | refine allTags_cons rfl (Cont.sub_refl _) ?_)))
        ·
          refine t_seq ?_
          refine t_region ?_
          refine r_bin rfl rfl rfl ?_
          refine r_nil ?_
          refine i_then ?_
          refine t_seq ?_
          refine t_cond_dec rfl (fun hc3 => ?_) (fun hc3 => ?_)
          ·
            refine t_skip ?_
            refine i_then ?_
            refine t_seq ?_
            refine t_block ?_
            refine t_seq ?_
            refine t_region ?_
            refine mvI rfl ?_
            refine asI rfl ?_
            refine r_nil ?_
            refine i_then ?_
            refine t_seq ?_
            cases hsp : (d.b.hold k.1 m.1)
            ·
              refine t_region ?_
              refine r_load_pp rfl rfl rfl rfl ?_
              refine r_nilCheck_pe rfl ?_
              refine r_field_pe rfl rfl rfl rfl rfl (by decide) ?_
              refine r_load_peN rfl rfl rfl rfl rfl ?_
              refine mvI rfl ?_
              refine mvI rfl ?_
              refine r_call (c_holds_at d.b k.1 m.1 (by omega) (by omega) hsp) rfl rfl rfl rfl rfl ?_
              refine mvB rfl ?_
              refine r_off rfl rfl rfl rfl ?_
              refine r_off rfl rfl rfl rfl ?_
              refine r_off rfl rfl rfl rfl ?_
              refine r_off rfl rfl rfl rfl ?_
              refine r_off rfl rfl rfl rfl ?_
              refine r_off rfl rfl rfl rfl ?_
              refine r_pick (ty := Ty.bool false) rfl rfl rfl (fun h => Bool.noConfusion h) (fun _ => Ty.sub_refl _) ?_
              refine r_nil ?_
              refine i_then ?_
              refine t_cond_ff rfl (rfl) ?_
              refine t_skip ?_
              refine i_block ?_
              refine i_then ?_
              refine t_region ?_
              refine r_add rfl rfl (by omega) (by omega) ?_
              refine mvI rfl ?_
              refine r_nil ?_
              refine i_round (⟨m.1 + 1, by omega⟩) ?_ (by show d.b.lots.length - (m.1 + 1) < d.b.lots.length - m.1; omega)
              (refine Ent.mk' ?_ ?_ <;> (repeat' (first | exact allSub_zero | exact allTags_nil | refine allSub_succ' ?_ (Ty.sub_any _) | refine allSub_succ' ?_ (Ty.sub_refl _) | refine allTags_cons rfl ?_ ?_)))
              all_goals skip
              exact Cont.sub_eq (congrArg (fun n => CJ (hJ n)) (by show _ + _ = (turnsUp d.b p k.1).length + (lotsUp d.b k.1 (m.1 + 1)).length; rw [lotsUp_no hsp]))
            ·
              refine t_regionYn 12 rfl rfl ?_
              refine r_load_pp rfl rfl rfl rfl ?_
              refine r_nilCheck_pe rfl ?_
              refine r_field_pe rfl rfl rfl rfl rfl (by decide) ?_
              refine r_load_peN rfl rfl rfl rfl rfl ?_
              refine mvI rfl ?_
              refine mvI rfl ?_
              refine r_call (c_holds_at d.b k.1 m.1 (by omega) (by omega) hsp) rfl rfl rfl rfl rfl ?_
              refine mvB rfl ?_
              (refine r_on rfl rfl rfl (by apply opT_of; (refine mvX rfl ?_); refine r_nil ?_; exact rfl) ?_)
              (refine r_on rfl rfl rfl (by apply opT_of; (refine mvI rfl ?_); refine r_nil ?_; exact rfl) ?_)
              (refine r_on rfl rfl rfl (by apply opT_of; (refine mvI rfl ?_); refine r_nil ?_; exact rfl) ?_)
              (refine r_on rfl rfl rfl (by apply opT_of; (refine r_build rfl rfl (by exact List.cons_ne_nil _ _) rfl (by repeat (first | exact (Parts.nil : Parts _ _ [] _) | (show Parts _ _ ((_, _) :: _) _; apply Parts.one; (· exact (rfl : _ = Ty.int _ _)); (· exact rfl)))) (by exact (rfl : _ = some [_, _])) ?_); refine r_nil ?_; exact rfl) ?_)
              refine r_nil ?_
              refine ⟨_, _, opY_on rfl rfl rfl (opY_yield hJ hJx hY rfl rfl rfl rfl rfl (get_enc (turns_nth (by omega) hc2 (by omega) hsp).1 (congrArg turEnc (turns_nth (by omega) hc2 (by omega) hsp).2)) rfl), ?_, ?_⟩
              ·
                (refine r_on rfl rfl rfl (by apply opT_of; (refine r_not rfl ?_); refine r_nil ?_; exact rfl) ?_)
                refine r_pick (ty := Ty.bool false) rfl rfl rfl (fun _ => (Ty.sub_refl _ : Ty.Sub (Ty.bool (!true)) _)) (fun h => Bool.noConfusion h) ?_
                refine r_nil ?_
                refine i_then ?_
                refine t_cond_ff rfl (rfl) ?_
                refine t_skip ?_
                refine i_block ?_
                refine i_then ?_
                refine t_region ?_
                refine r_add rfl rfl (by omega) (by omega) ?_
                refine mvI rfl ?_
                refine r_nil ?_
                refine i_round (⟨m.1 + 1, by omega⟩) ?_ (by show d.b.lots.length - (m.1 + 1) < d.b.lots.length - m.1; omega)
                (refine Ent.mk' ?_ ?_ <;> (repeat' (first | exact allSub_zero | exact allTags_nil | refine allSub_succ' ?_ (Ty.sub_any _) | refine allSub_succ' ?_ (Ty.sub_refl _) | refine allTags_cons rfl ?_ ?_)))
                all_goals skip
                exact Cont.sub_eq (congrArg (fun n => CJ (hJ n)) (by show _ + _ + 1 = (turnsUp d.b p k.1).length + (lotsUp d.b k.1 (m.1 + 1)).length; rw [lotsUp_yes hsp, List.length_append]; rfl))
              ·
                (refine r_on rfl rfl rfl (by apply opT_of; (refine r_not rfl ?_); refine r_nil ?_; exact rfl) ?_)
                refine r_pick (ty := Ty.bool true) rfl rfl rfl (fun _ => (Ty.sub_refl _ : Ty.Sub (Ty.bool (!false)) _)) (fun h => Bool.noConfusion h) ?_
                refine r_nil ?_
                refine i_then ?_
                refine t_cond_tt rfl (rfl) ?_
                refine t_ret ?_
                refine i_block_ret ?_
                refine i_then_ret ?_
                refine i_then_ret ?_
                refine i_block_ret ?_
                refine i_block_ret ?_
                refine i_then_ret ?_
                refine i_then_ret ?_
                refine i_block_ret ?_
                exact y_ret0x rfl rfl
          ·
            refine t_exit ?_
            refine i_then_exit ?_
            refine i_then_exit ?_
            refine i_block_exit rfl ?_
            refine i_block ?_
            refine i_then ?_
            refine t_region ?_
            refine r_add rfl rfl (by omega) (by omega) ?_
            refine mvI rfl ?_
            refine r_nil ?_
            refine i_round (⟨k.1 + 1, by omega⟩) ?_ (by show d.b.sizes.length - (k.1 + 1) < d.b.sizes.length - k.1; omega)
            (refine Ent.mk' ?_ ?_ <;> (repeat' (first | exact allSub_zero | exact allTags_nil | refine allSub_succ' ?_ (Ty.sub_any _) | refine allSub_succ' ?_ (Ty.sub_refl _) | refine allTags_cons rfl ?_ ?_)))
            all_goals skip
            exact Cont.sub_eq (congrArg (fun n => CJ (hJ n)) (by show (turnsUp d.b p k.1).length + (lotsUp d.b k.1 m.1).length = (turnsUp d.b p (k.1 + 1)).length; rw [turnsUp_succ, turnsAt_yes hc2, List.length_append, show m.1 = d.b.lots.length by have := m.2; omega]))
    ·
      refine t_exit ?_
      refine i_then_exit ?_
      refine i_then_exit ?_
      refine i_block_exit rfl ?_
      refine i_end ?_
      exact y_ret0e (hJ := hJ) (by rw [List.length_map, show k.1 = d.b.sizes.length by have := k.2; omega]; rfl) rfl rfl
set_option maxRecDepth 100000 in
theorem c_turnings (d : Desk) (p : Pl) : Ctr Try.prog 119 [Ty.pe DeskE d 0, Ty.agg (plT p)] (Ty.clo 146 [Ty.pp [Ty.pe DeskE d 0], Ty.pp (plT p)]) := by
  refine fn_intro Try.func119 rfl (by decide) Try.ntmps119 (by exact Nat.le_of_ble_eq_true rfl) fun w0 M0 => ?_
  refine t_seq ?_
  refine t_region ?_
  refine r_box_one (by exact (rfl : _ = Ty.pe _ _ _)) rfl ?_
  refine r_box_agg rfl ?_
  refine asX rfl ?_
  refine r_nil ?_
  refine i_then ?_
  refine t_seq ?_
  refine t_region ?_
  refine r_makeFunc rfl ?_
  refine asF rfl ?_
  refine r_nil ?_
  refine i_then ?_
  refine t_ret ?_
  refine i_rp1 rfl rfl ?_
  all_goals exact ret_refl rfl rfl
  skip
end Go.Proofs.Ytpnndljmhpepgaa

namespace Go.Proofs.Ytpnndljmhpepgaa
open Go Go.T
theorem allL_len : ∀ n, (allL n).length = 7 ^ n
  | 0 => rfl
  | n + 1 => by
    show ((List.range 7).flatMap fun (k : Nat) => (allL n).map fun l => (k : Int) :: l).length = _
    rw [show List.range 7 = [0, 1, 2, 3, 4, 5, 6] from rfl]
    simp only [List.flatMap_cons, List.flatMap_nil, List.length_append, List.length_map, List.length_nil, allL_len n, Nat.pow_succ]
    omega
theorem placesN_eq : placesN = 117649 := by
  unfold placesN; rw [allL_len]
def headP (y : St) : Pl := nth (rowAt y.queue y.now) 0
def restP (y : St) : List Pl := (rowAt y.queue y.now).drop 1
theorem row_head {y : St} (h : 0 < (rowAt y.queue y.now).length) : rowAt y.queue y.now = headP y :: restP y := by
  have := drop_nth h
  rw [List.drop_zero] at this
  exact this
def popY (y : St) : St := popped y (restP y)
def markY (y : St) : St := marked (popY y) (headP y)
structure YIx (b : Barn) (c : Tur → Int) (all : Bool) (x y : St) : Prop where
  inv : Inv b c all (turnsL b) 0 y
  same : SameS b c all y
  le : muS y ≤ muS x
  lt : y.left ≤ 0 → muS y < muS x
  now : y.now = x.now
variable {b : Barn} {c : Tur → Int} {all : Bool} {x y : St}
theorem Inv.now_le {F : Pl → List Tur} {R : Int} (h : Inv b c all F R x) (hr : b.Right) (hl : 0 < x.left) : x.now ≤ 300 * placesN := by
  cases hq : rowAt x.queue x.now with
  | nil => have := h.far hr hl hq; omega
  | cons p r =>
    have h1 := (h.que x.now p (by rw [hq]; exact List.mem_cons_self)).2.1
    have h2 := h.few hr
    omega
theorem Inv.left_le {F : Pl → List Tur} {R : Int} (h : Inv b c all F R x) (hr : b.Right) : x.left + R ≤ 1 + 42 * placesN := by
  have h1 := h.lim
  have h2 := h.few hr
  omega
theorem Inv.row_le {F : Pl → List Tur} {R : Int} (h : Inv b c all F R x) (hr : b.Right) (m : Int) : (rowAt x.queue m).length + R ≤ 1 + 42 * placesN := by
  have h1 := h.left_le hr
  have h2 := cntQ_row x.queue m
  have h3 := h.left
  omega
theorem yix_start (h : Inv b c all (turnsL b) 0 x) (hs : SameS b c all x) (hl : 0 < x.left) : YIx b c all x x := ⟨h, hs, Nat.le_refl _, fun h => by omega, rfl⟩
theorem YIx.pos (h : YIx b c all x y) (hq : 0 < (rowAt y.queue y.now).length) : 0 < y.left := pos_of_row h.inv (row_head hq)
theorem YIx.old (h : YIx b c all x y) (hq : 0 < (rowAt y.queue y.now).length) (hd : doneB (popY y) (headP y) = true) : YIx b c all x (popY y) := by
  have hr := row_head hq
  have hm : muS (popY y) < muS y := mu_old h.inv hr
  have hl := h.le
  exact ⟨pop_done h.inv hr hd, h.same.step (step_old (h.pos hq) hr hd), by omega, fun _ => by omega, h.now⟩
theorem YIx.mark (h : YIx b c all x y) (hq : 0 < (rowAt y.queue y.now).length) (hd : doneB (popY y) (headP y) = false) (hm : (!all && madeP b (headP y)) = false) : Inv b c all (upTo b (headP y) 0) 42 (markY y) ∧ At b (headP y) (markY y) :=
  mark_inv h.inv (row_head hq) hd (fun ha => by rw [ha] at hm; simpa using hm)
theorem YIx.new (h : YIx b c all x y) (hr : b.Right) (hc : CostOk b c) (hq : 0 < (rowAt y.queue y.now).length) (hd : doneB (popY y) (headP y) = false) (hm : (!all && madeP b (headP y)) = false) : YIx b c all x (foldK b c (headP y) (markY y) (turnsL b (headP y)).length) := by
  have he := row_head hq
  have hlt : muS (foldK b c (headP y) (markY y) (turnsL b (headP y)).length) < muS y := mu_new h.inv hr he hd (h.mark hq hd hm).1
  have hl := h.le
  exact ⟨new_inv hr hc h.inv he hd hm, h.same.step (step_new (h.pos hq) he hd hm), by omega, fun _ => by omega, by rw [foldK_now]; exact h.now⟩
theorem YIx.found (h : YIx b c all x y) (hq : 0 < (rowAt y.queue y.now).length) (hd : doneB (popY y) (headP y) = false) (hm : (!all && madeP b (headP y)) = true) : searchM b c all = ⟨y.ways, headP y, true⟩ :=
  h.same.stop (step_found (h.pos hq) (row_head hq) hd hm)
theorem same_later (_ : Inv b c all (turnsL b) 0 y) (hs : SameS b c all y) (hq : rowAt y.queue y.now = []) : SameS b c all (later y) := by
  rcases Int.lt_or_le 0 y.left with hl | hl
  · exact hs.step (step_later hl hq)
  · intro f hf
    have h1 : Ends b c all (later y) ⟨y.ways, pl0, false⟩ := .stop (step_end hl)
    rw [hf.det h1]
    exact hs.stop (step_end hl)
theorem YIx.later (h : YIx b c all x y) (hr : b.Right) (hq : rowAt y.queue y.now = []) : Inv b c all (turnsL b) 0 (later y) ∧ SameS b c all (later y) ∧ muS (later y) < muS x := by
  refine ⟨later_inv h.inv hq, same_later h.inv h.same hq, ?_⟩
  have h1 := h.le
  rcases Int.lt_or_le 0 y.left with hl | hl
  · have := mu_later h.inv hr hl hq; omega
  · have := h.lt hl
    have := mu_later_le y; omega
theorem pl_moved (p : Pl) (t : Tur) (h : t.lot.toNat < 6) : (plT p).set (0 + t.lot.toNat * 1) (Ty.int .i64 t.aim) = plT (moved p t) := by
  rw [show 0 + t.lot.toNat * 1 = t.lot.toNat by omega]; exact plT_set p t.aim h
theorem foldK_yes {p : Pl} {z : St} {k : Nat} (hk : k < (turnsL b p).length) (h : metB (foldK b c p z k).ways (moved p (nth (turnsL b p) k)) ((foldK b c p z k).now + c (nth (turnsL b p) k)) = true) : foldK b c p z (k + 1) = foldK b c p z k := by
  rw [foldK_succ hk, relax_yes h]
theorem foldK_no {p : Pl} {z : St} {k : Nat} (hk : k < (turnsL b p).length) (h : metB (foldK b c p z k).ways (moved p (nth (turnsL b p) k)) ((foldK b c p z k).now + c (nth (turnsL b p) k)) = false) :
    (foldK b c p z (k + 1)).ways = mput (foldK b c p z k).ways (moved p (nth (turnsL b p) k)) ⟨p, [nth (turnsL b p) k], (foldK b c p z k).now + c (nth (turnsL b p) k)⟩ ∧
    (foldK b c p z (k + 1)).queue = mput (foldK b c p z k).queue ((foldK b c p z k).now + c (nth (turnsL b p) k)) (rowAt (foldK b c p z k).queue ((foldK b c p z k).now + c (nth (turnsL b p) k)) ++ [moved p (nth (turnsL b p) k)]) ∧
    (foldK b c p z (k + 1)).left = (foldK b c p z k).left + 1 := by
  rw [foldK_succ hk, relax_no h]; exact ⟨rfl, rfl, rfl⟩
theorem fk_yes {p : Pl} {z : St} {k : Nat} {n : Int} (hk : k < (turnsL b p).length) (hn : (foldK b c p z k).now = n) (h : metB (foldK b c p z k).ways (moved p (nth (turnsL b p) k)) (n + c (nth (turnsL b p) k)) = true) : foldK b c p z k = foldK b c p z (k + 1) :=
  (foldK_yes hk (by rw [hn]; exact h)).symm
theorem fk_no {p : Pl} {z : St} {k : Nat} {n : Int} (hk : k < (turnsL b p).length) (hn : (foldK b c p z k).now = n) (h : metB (foldK b c p z k).ways (moved p (nth (turnsL b p) k)) (n + c (nth (turnsL b p) k)) = false) :
    mput (foldK b c p z k).ways (moved p (nth (turnsL b p) k)) ⟨p, [nth (turnsL b p) k], n + c (nth (turnsL b p) k)⟩ = (foldK b c p z (k + 1)).ways ∧
    mput (foldK b c p z k).queue (n + c (nth (turnsL b p) k)) (rowAt (foldK b c p z k).queue (n + c (nth (turnsL b p) k)) ++ [moved p (nth (turnsL b p) k)]) = (foldK b c p z (k + 1)).queue ∧
    (foldK b c p z k).left + 1 = (foldK b c p z (k + 1)).left := by
  obtain ⟨h1, h2, h3⟩ := foldK_no hk (by rw [hn]; exact h)
  rw [h1, h2, h3, hn]; exact ⟨rfl, rfl, rfl⟩
end Go.Proofs.Ytpnndljmhpepgaa

namespace Go.Proofs.Ytpnndljmhpepgaa
open Go Go.T
theorem ext_nth {α : Type} [Inhabited α] {a b : List α} (hl : a.length = b.length) (h : ∀ i, i < a.length → nth a i = nth b i) : a = b :=
  List.ext_getElem hl fun i h1 h2 => by rw [← nth_lt h1, ← nth_lt h2]; exact h i h1
theorem nthA_set {α : Type} [Inhabited α] {l : List α} {i j : Nat} {v : α} (h : j < l.length) : nth (l.set i v) j = if i = j then v else nth l j := by
  unfold nth
  rw [List.getD_eq_getElem?_getD, List.getD_eq_getElem?_getD, List.getElem?_set]
  by_cases e : i = j
  · subst e; rw [if_pos rfl, if_pos rfl, if_pos h]; rfl
  · rw [if_neg e, if_neg e]
section
variable {α : Type} [Inhabited α]
def revUp (xs : List α) (k : Nat) : List α := (List.range xs.length).map fun p => if p < k ∨ xs.length ≤ p + k then nth xs (xs.length - 1 - p) else nth xs p
theorem revUp_len (xs : List α) (k : Nat) : (revUp xs k).length = xs.length := by unfold revUp; rw [List.length_map, List.length_range]
theorem revUp_nth {xs : List α} {k p : Nat} (h : p < xs.length) : nth (revUp xs k) p = if p < k ∨ xs.length ≤ p + k then nth xs (xs.length - 1 - p) else nth xs p := by
  rw [nth_lt (by rw [revUp_len]; exact h)]; unfold revUp; rw [List.getElem_map, List.getElem_range]
theorem revUp_zero (xs : List α) : revUp xs 0 = xs := ext_nth (revUp_len _ _) fun i hi => by
  rw [revUp_len] at hi
  rw [revUp_nth hi, if_neg (by omega)]
theorem revUp_succ {xs : List α} {k : Nat} (h : k + 1 < xs.length - k) : ((revUp xs k).set k (nth (revUp xs k) (xs.length - 1 - k))).set (xs.length - 1 - k) (nth (revUp xs k) k) = revUp xs (k + 1) := by
  have hl := revUp_len xs k
  refine ext_nth (by rw [List.length_set, List.length_set, hl, revUp_len]) fun i hi => ?_
  rw [List.length_set, List.length_set, hl] at hi
  rw [nthA_set (by rw [List.length_set, hl]; exact hi), nthA_set (by rw [hl]; exact hi), revUp_nth hi, revUp_nth hi, revUp_nth (by omega), revUp_nth (by omega)]
  by_cases e1 : xs.length - 1 - k = i
  · rw [if_pos e1, if_neg (by omega), if_pos (by omega), ← e1]; congr 1; omega
  · rw [if_neg e1]
    by_cases e2 : k = i
    · rw [if_pos e2, if_neg (by omega), if_pos (by omega), ← e2]
    · rw [if_neg e2]
      by_cases e3 : i < k ∨ xs.length ≤ i + k
      · rw [if_pos e3, if_pos (by omega)]
      · rw [if_neg e3, if_neg (by omega)]
theorem revUp_end {xs : List α} {k : Nat} (h : ¬ k + 1 < xs.length - k) : revUp xs k = xs.reverse := by
  refine ext_nth (by rw [revUp_len, List.length_reverse]) fun i hi => ?_
  rw [revUp_len] at hi
  rw [revUp_nth hi, nth_lt (xs := xs.reverse) (by rw [List.length_reverse]; exact hi), List.getElem_reverse, ← nth_lt]
  by_cases e : i < k ∨ xs.length ≤ i + k
  · rw [if_pos e]
  · rw [if_neg e]; congr 1; omega
end
theorem flat_take_le {α : Type} (l : List (List α)) (k : Nat) : (l.take k).flatten.length ≤ l.flatten.length := by
  conv => rhs; rw [← List.take_append_drop k l, List.flatten_append, List.length_append]
  omega
theorem flat_take_succ {α : Type} {l : List (List α)} {k : Nat} (h : k < l.length) : (l.take (k + 1)).flatten = (l.take k).flatten ++ nth l k := by
  rw [take_nth h, List.flatten_append]; simp
inductive Chain (ways : List (Pl × Way)) (first : Pl) : Pl → List (List Tur) → Prop
  | nil : Chain ways first first []
  | snoc {p : Pl} {w : Way} {A : List (List Tur)} : p ≠ first → mget ways p = some w → Chain ways first w.frm A → Chain ways first p (A ++ [w.byT])
theorem Chain.at_first {ways : List (Pl × Way)} {first : Pl} {A : List (List Tur)} (h : Chain ways first first A) : A = [] := by
  generalize hp : first = p at h
  have : ∀ {q A}, Chain ways first q A → q = first → A = [] := fun {q A} h e => by
    cases h with
    | nil => rfl
    | snoc h1 _ _ => exact absurd e h1
  subst hp
  exact this h rfl
theorem Chain.step {ways : List (Pl × Way)} {first p : Pl} {A : List (List Tur)} (h : Chain ways first p A) (hp : p ≠ first) : Chain ways first ((mget ways p).getD way0).frm A.dropLast ∧ A = A.dropLast ++ [((mget ways p).getD way0).byT] := by
  cases h with
  | nil => exact absurd rfl hp
  | snoc h1 h2 h3 => rw [h2, List.dropLast_concat]; exact ⟨h3, rfl⟩
theorem Chain.det {ways : List (Pl × Way)} {first : Pl} : ∀ {p : Pl} {A B : List (List Tur)}, Chain ways first p A → Chain ways first p B → A = B := by
  intro p A B h
  induction h generalizing B with
  | nil => exact fun h' => h'.at_first.symm
  | snoc h1 h2 _ ih =>
    intro h'
    cases h' with
    | nil => exact absurd rfl h1
    | snoc g1 g2 g3 => rw [h2] at g2; injection g2 with g2; subst g2; rw [ih g3]
open Classical in
noncomputable def chainM (ways : List (Pl × Way)) (first p : Pl) : List (List Tur) := if h : ∃ A, Chain ways first p A then h.choose else []
theorem chainM_spec {ways : List (Pl × Way)} {first p : Pl} {A : List (List Tur)} (h : Chain ways first p A) : chainM ways first p = A := by
  unfold chainM
  rw [dif_pos ⟨A, h⟩]
  exact (Exists.choose_spec (⟨A, h⟩ : ∃ A, Chain ways first p A)).det h
variable {b : Barn} {c : Tur → Int} {all : Bool}
theorem Found.Spec.chain {f : Found} (h : f.Spec b c all) (_ : b.Right) (hc : CostOk b c) : ∀ (n : Nat) (p : Pl) (w : Way), mget f.ways p = some w → w.all.toNat ≤ n →
    ∃ A, Chain f.ways (firstP b) p A ∧ goP b (firstP b) A.flatten = some p ∧ costL c A.flatten = w.all ∧ A.flatten.length = A.length ∧ (A.length : Int) ≤ w.all := by
  intro n
  induction n with
  | zero =>
    intro p w hw hn
    rcases h.via p w hw with e | ⟨t, w', h1, h2, h3, h4, h5⟩
    · subst e
      rw [h.start] at hw; injection hw with hw; subst hw
      exact ⟨[], .nil, rfl, rfl, rfl, Int.le_refl _⟩
    · obtain ⟨l, hl, hcl⟩ := h.walk _ _ h4
      have := cost_pos hc l hl
      have := hc.at h2
      omega
  | succ n ih =>
    intro p w hw hn
    by_cases e : p = firstP b
    · subst e
      rw [h.start] at hw; injection hw with hw; subst hw
      exact ⟨[], .nil, rfl, rfl, rfl, Int.le_refl _⟩
    rcases h.via p w hw with e' | ⟨t, w', h1, h2, h3, h4, h5⟩
    · exact absurd e' e
    · have := hc.at h2
      obtain ⟨l, hl, hcl⟩ := h.walk _ _ h4
      have := cost_pos hc l hl
      obtain ⟨A, g1, g2, g3, g4, g5⟩ := ih w.frm w' h4 (by omega)
      refine ⟨A ++ [w.byT], .snoc e hw g1, ?_, ?_, ?_, ?_⟩
      · rw [List.flatten_append, h1, h3]; simp only [List.flatten_cons, List.flatten_nil, List.append_nil]; exact goP_snoc g2 h2
      · rw [List.flatten_append, h1, costL_append, g3]; simp only [List.flatten_cons, List.flatten_nil, List.append_nil]; rw [costL_one]; omega
      · rw [List.flatten_append, h1]; simp [g4]
      · rw [List.length_append]; simp; omega
noncomputable def waysV (b : Barn) (c : Tur → Int) : List (List Tur) := chainM (searchM b c false).ways (firstP b) (searchM b c false).last
noncomputable def planV (b : Barn) (c : Tur → Int) : List Tur := if (searchM b c false).is = true then (waysV b c).flatten else []
noncomputable def costV (b : Barn) (c : Tur → Int) : Int := if (searchM b c false).is = true then ((mget (searchM b c false).ways (searchM b c false).last).getD way0).all else 0
structure PlanSpec (b : Barn) (c : Tur → Int) : Prop where
  chain : (searchM b c false).is = true → Chain (searchM b c false).ways (firstP b) (searchM b c false).last (waysV b c)
  len : (searchM b c false).is = true → (waysV b c).length ≤ 40000000 ∧ (waysV b c).flatten.length = (waysV b c).length
  yes : (searchM b c false).is = true → ∃ q, goP b (firstP b) (planV b c) = some q ∧ madeP b q = true ∧ costL c (planV b c) = costV b c ∧ ∀ l q, goP b (firstP b) l = some q → madeP b q = true → costV b c ≤ costL c l
  no : (searchM b c false).is = false → ∀ l q, goP b (firstP b) l = some q → madeP b q = false
theorem plan_spec (hr : b.Right) (hc : CostOk b c) : PlanSpec b c := by
  obtain ⟨h, _⟩ := search_spec hr hc false
  have key : (searchM b c false).is = true → ∃ w, mget (searchM b c false).ways (searchM b c false).last = some w ∧ Chain (searchM b c false).ways (firstP b) (searchM b c false).last (waysV b c) ∧ goP b (firstP b) (waysV b c).flatten = some (searchM b c false).last ∧ costL c (waysV b c).flatten = w.all ∧ (waysV b c).flatten.length = (waysV b c).length ∧ ((waysV b c).length : Int) ≤ w.all := fun hi => by
    obtain ⟨_, w, hw, _⟩ := h.yes hi
    obtain ⟨A, g1, g2, g3, g4, g5⟩ := h.chain hr hc _ _ w hw (Nat.le_refl _)
    have e : waysV b c = A := chainM_spec g1
    rw [e]; exact ⟨w, hw, g1, g2, g3, g4, g5⟩
  refine ⟨fun hi => ?_, fun hi => ?_, fun hi => ?_, fun hi => h.no hi rfl⟩
  · obtain ⟨w, hw, g1, _⟩ := key hi; exact g1
  · obtain ⟨w, hw, _, _, _, g4, g5⟩ := key hi
    have h1 := h.cap _ _ hw
    have h2 := placesN_eq
    exact ⟨by omega, g4⟩
  · obtain ⟨w, hw, _, g2, g3, _, _⟩ := key hi
    obtain ⟨h1, w', hw', h2⟩ := h.yes hi
    rw [hw] at hw'; injection hw' with hw'; subst hw'
    have e1 : planV b c = (waysV b c).flatten := if_pos hi
    have e2 : costV b c = w.all := by unfold costV; rw [if_pos hi, hw]; rfl
    exact ⟨_, by rw [e1]; exact g2, h1, by rw [e1, e2]; exact g3, fun l q hl hq => by rw [e2]; exact h2 l q hl hq⟩
noncomputable def planE (b : Barn) (c : Tur → Int) : Int := if checkB b = 0 then if (searchM b c false).is = true then 0 else 7 else checkB b
noncomputable def planR (b : Barn) (c : Tur → Int) : List Tur := if checkB b = 0 then planV b c else []
noncomputable def costR (b : Barn) (c : Tur → Int) : Int := if checkB b = 0 then costV b c else 0
def oneC (_ : Tur) : Int := 1
def sackC (b : Barn) (t : Tur) : Int := (nth b.lots t.lot.toNat).sacks
theorem one_ok (b : Barn) : CostOk b oneC := fun t _ _ => by unfold oneC; omega
theorem sack_ok {b : Barn} (h : b.Right) : CostOk b (sackC b) := fun t h1 h2 => h.sacks _ (nth_mem (by omega))
noncomputable def placesV (b : Barn) : Int := if checkB b = 0 then ((searchM b oneC true).ways.length : Nat) else 0
end Go.Proofs.Ytpnndljmhpepgaa

namespace Go.Proofs.Ytpnndljmhpepgaa
open Go Go.T
set_option maxHeartbeats 4000000
attribute [local irreducible] revUp
attribute [local irreducible] dInt dBool dSl dPp dPtr dAgg dTup dClo dAny dEx dStr dGd dCells dVec dVs dRow dOp nth Tri Into TOps Ctr bodyPost Exit.then Exit.inBlock Code.wp Code.wpIn dWhen dPa dPe dAo dArr dMp dPm dMap dCJ CtrG CtrI OpY keepPost iterPost bodyPostM roundQ
set_option maxRecDepth 100000 in
theorem c_Grow_tur (n : Nat) (h : n ≤ 400000000) : CtrG Try.prog 115 [] [] [Ty.ex (.slice none 0 0), Ty.int .i64 (n : Nat)] [] (Ty.row TurE 55 23 []) := by
  refine fnG_intro Try.func115 rfl (by decide) Try.ntmps115 (by exact Nat.le_of_ble_eq_true rfl) fun w0 M0 => ?_
  refine t_seq ?_
  refine t_region ?_
  refine asX rfl ?_
  refine r_nil ?_
  refine i_then ?_
  refine t_seq ?_
  refine t_seq ?_
  refine t_region ?_
  refine mvI rfl ?_
  refine r_bin rfl rfl rfl ?_
  refine r_nil ?_
  refine i_then ?_
  refine t_cond_ff rfl (by exact decide_eq_false (by omega)) ?_
  refine t_skip ?_
  refine i_then ?_
  refine t_join (J := live [(0, Ty.row TurE 55 23 [])] []) ?_ ?_
  ·
    refine t_seq ?_
    refine t_region ?_
    refine mvI rfl ?_
    refine mvX rfl ?_
    refine r_cap_nil rfl rfl rfl ?_
    refine mvX rfl ?_
    refine r_len_nil rfl rfl rfl ?_
    refine r_sub rfl rfl (by omega) (by omega) ?_
    refine r_sub rfl rfl (by omega) (by omega) ?_
    refine asI rfl ?_
    refine r_nil ?_
    refine i_then ?_
    refine t_seq ?_
    refine t_region ?_
    refine mvI rfl ?_
    refine r_bin rfl rfl rfl ?_
    refine r_nil ?_
    refine i_then ?_
    refine t_cond_dec rfl (fun hc2 => ?_) (fun hc2 => ?_)
    ·
      refine t_region ?_
      refine mvX rfl ?_
      refine mvX rfl ?_
      refine r_cap_nil rfl rfl rfl ?_
      refine r_cut_nil rfl rfl rfl rfl rfl ?_
      refine mvI rfl ?_
      refine r_appendN rfl rfl rfl rfl rfl rfl rfl rfl (by decide) rfl (by omega) (by show _ * 16 ≤ _; omega) (by omega) ?_
      refine mvX rfl ?_
      refine r_len_nil rfl rfl rfl ?_
      refine r_cut_rm0 (tg := 23) TurE rfl rfl (by decide) rfl rfl rfl rfl rfl ?_
      refine asR rfl ?_
      refine r_nil ?_
      refine i_join ?_
      (refine Ent.mk' ?_ ?_ <;> (repeat' (first | exact allSub_zero | exact allTags_nil | refine allSub_succ' ?_ (Ty.sub_any _) | refine allSub_succ' ?_ (Ty.sub_refl _))))
    ·
      refine t_skip ?_
      refine i_join ?_
      (refine Ent.mk' ?_ ?_ <;> (repeat' (first | exact allSub_zero | exact allTags_nil | refine allSub_succ' ?_ (Ty.sub_any _) | refine allSub_succ' ?_ Ty.nil_row)))
  ·
    refine t_seq ?_
    refine t_region ?_
    refine mvR rfl ?_
    refine asR rfl ?_
    refine r_nil ?_
    refine i_then ?_
    refine t_ret ?_
    refine g_ret1 [23] rfl rfl (by decide) (by repeat (exact rc_nil)) ?_
    all_goals skip
    all_goals exact rg_cv (cv_row (by decide))
set_option maxRecDepth 100000 in
theorem c_Grow_int (n : Nat) (h : n ≤ 400000000) : CtrG Try.prog 131 [] [] [Ty.ex (.slice none 0 0), Ty.int .i64 (n : Nat)] [] (Ty.row I64 3 23 []) := by
  refine fnG_intro Try.func131 rfl (by decide) Try.ntmps131 (by exact Nat.le_of_ble_eq_true rfl) fun w0 M0 => ?_
  refine t_seq ?_
  refine t_region ?_
  refine asX rfl ?_
  refine r_nil ?_
  refine i_then ?_
  refine t_seq ?_
  refine t_seq ?_
  refine t_region ?_
  refine mvI rfl ?_
  refine r_bin rfl rfl rfl ?_
  refine r_nil ?_
  refine i_then ?_
  refine t_cond_ff rfl (by exact decide_eq_false (by omega)) ?_
  refine t_skip ?_
  refine i_then ?_
  refine t_join (J := live [(0, Ty.row I64 3 23 [])] []) ?_ ?_
  ·
    refine t_seq ?_
    refine t_region ?_
    refine mvI rfl ?_
    refine mvX rfl ?_
    refine r_cap_nil rfl rfl rfl ?_
    refine mvX rfl ?_
    refine r_len_nil rfl rfl rfl ?_
    refine r_sub rfl rfl (by omega) (by omega) ?_
    refine r_sub rfl rfl (by omega) (by omega) ?_
    refine asI rfl ?_
    refine r_nil ?_
    refine i_then ?_
    refine t_seq ?_
    refine t_region ?_
    refine mvI rfl ?_
    refine r_bin rfl rfl rfl ?_
    refine r_nil ?_
    refine i_then ?_
    refine t_cond_dec rfl (fun hc2 => ?_) (fun hc2 => ?_)
    ·
      refine t_region ?_
      refine mvX rfl ?_
      refine mvX rfl ?_
      refine r_cap_nil rfl rfl rfl ?_
      refine r_cut_nil rfl rfl rfl rfl rfl ?_
      refine mvI rfl ?_
      refine r_appendN rfl rfl rfl rfl rfl rfl rfl rfl (by decide) rfl (by omega) (by show _ * 8 ≤ _; omega) (by omega) ?_
      refine mvX rfl ?_
      refine r_len_nil rfl rfl rfl ?_
      refine r_cut_rm0 (tg := 23) I64 rfl rfl (by decide) rfl rfl rfl rfl rfl ?_
      refine asR rfl ?_
      refine r_nil ?_
      refine i_join ?_
      (refine Ent.mk' ?_ ?_ <;> (repeat' (first | exact allSub_zero | exact allTags_nil | refine allSub_succ' ?_ (Ty.sub_any _) | refine allSub_succ' ?_ (Ty.sub_refl _))))
    ·
      refine t_skip ?_
      refine i_join ?_
      (refine Ent.mk' ?_ ?_ <;> (repeat' (first | exact allSub_zero | exact allTags_nil | refine allSub_succ' ?_ (Ty.sub_any _) | refine allSub_succ' ?_ Ty.nil_row)))
  ·
    refine t_seq ?_
    refine t_region ?_
    refine mvR rfl ?_
    refine asR rfl ?_
    refine r_nil ?_
    refine i_then ?_
    refine t_ret ?_
    refine g_ret1 [23] rfl rfl (by decide) (by repeat (exact rc_nil)) ?_
    all_goals skip
    all_goals exact rg_cv (cv_row (by decide))
set_option maxRecDepth 100000 in
theorem c_Concat_tur (l : List (List Tur)) (h : l.flatten.length ≤ 400000000) : Ctr Try.prog 59 [Ty.sl RowT l] (Ty.sl TurE l.flatten) := by
  refine fn_intro Try.func59 rfl (by decide) Try.ntmps59 (by exact Nat.le_of_ble_eq_true rfl) fun w0 M0 => ?_
  refine t_fact (s := 0) rfl rfl sl_len fun hl => ?_
  refine t_seq ?_
  refine t_region ?_
  refine asX rfl ?_
  refine r_nil ?_
  refine i_then ?_
  refine t_seq ?_
  refine t_region ?_
  refine asI rfl ?_
  refine r_nil ?_
  refine i_then ?_
  refine t_seq ?_
  refine t_seq ?_
  refine t_region ?_
  refine mvS rfl ?_
  refine r_len rfl rfl rfl ?_
  refine mvI rfl ?_
  refine r_nil ?_
  refine i_then ?_
  refine t_block ?_
  refine t_loop (fun (k : Nat) => live [(0, Ty.sl RowT l), (3, Ty.int .i64 (l.take k).flatten.length), (9, Ty.sl RowT l), (10, Ty.int .i64 l.length), (11, Ty.int .i64 (k : Nat))] []) (fun k => l.length - k) (0) ?_ fun k => ?_
  · (refine Ent.mk' ?_ ?_ <;> (repeat' (first | exact allSub_zero | exact allTags_nil | refine allSub_succ' ?_ (Ty.sub_any _) | refine allSub_succ' ?_ (Ty.sub_refl _))))
  ·
    refine t_seq ?_
    refine t_region ?_
    refine r_bin rfl rfl rfl ?_
    refine r_nil ?_
    refine i_then ?_
    refine t_seq ?_
    refine t_cond_dec rfl (fun hc1 => ?_) (fun hc1 => ?_)
    ·
      refine t_skip ?_
      refine i_then ?_
      refine t_seq ?_
      refine t_block ?_
      refine t_seq ?_
      refine t_region ?_
      refine r_index_slN rfl rfl rfl rfl rfl rfl (by omega) ?_
      refine r_load_pp rfl rfl rfl rfl ?_
      refine asS rfl ?_
      refine r_nil ?_
      refine i_then ?_
      refine t_seq ?_
      have hf1 := flat_take_le l (k + 1)
      have hf2 : (l.take (k + 1)).flatten.length = (l.take k).flatten.length + (nth l k).length := by rw [flat_take_succ (by omega), List.length_append]
      refine t_region ?_
      refine mvI rfl ?_
      refine mvS rfl ?_
      refine r_len rfl rfl rfl ?_
      refine r_add rfl rfl (by omega) (by omega) ?_
      refine asI rfl ?_
      refine r_nil ?_
      refine i_then ?_
      refine t_seq ?_
      refine t_region ?_
      refine mvI rfl ?_
      refine r_bin rfl rfl rfl ?_
      refine r_nil ?_
      refine i_then ?_
      refine t_cond_ff rfl (by exact decide_eq_false (by omega)) ?_
      refine t_skip ?_
      refine i_block ?_
      refine i_then ?_
      refine t_region ?_
      refine r_add rfl rfl (by omega) (by omega) ?_
      refine mvI rfl ?_
      refine r_nil ?_
      refine i_round (k + 1) ?_ (by omega)
      (refine Ent.mk' ?_ ?_ <;> (repeat' (first | exact allSub_zero | exact allTags_nil | refine allSub_succ' ?_ (Ty.sub_any _) | refine allSub_succ' ?_ (Ty.sub_refl _) | refine allSub_succ' ?_ ?_)))
      all_goals skip
      all_goals exact Ty.sub_int (by rw [flat_take_succ (by omega), List.length_append]; omega)
    ·
      refine t_exit ?_
      refine i_then_exit ?_
      refine i_then_exit ?_
      refine i_block_exit rfl ?_
      refine i_then ?_
      refine t_seq ?_
      refine t_region ?_
      refine mvI rfl ?_
      refine r_callG [(25, 23)] [25] [] (c_Grow_tur (l.take k).flatten.length (by have := flat_take_le l k; omega)) rfl rfl (by repeat (first | exact cv_nil | refine cv_cons ?_ ?_ | exact cv_pub rfl rfl)) pre_nil post_nil (cv_row (by exact List.mem_cons_self)) ?_
      refine asR rfl ?_
      refine r_nil ?_
      refine i_then ?_
      refine t_seq ?_
      refine t_seq ?_
      refine t_region ?_
      refine mvS rfl ?_
      refine r_len rfl rfl rfl ?_
      refine mvI rfl ?_
      refine r_nil ?_
      refine i_then ?_
      refine t_block ?_
      refine t_loop (fun (m : Nat) => live [(6, Ty.row TurE 55 25 (l.take m).flatten), (25, Ty.sl RowT l), (26, Ty.int .i64 l.length), (27, Ty.int .i64 (m : Nat))] []) (fun m => l.length - m) (0) ?_ fun m => ?_
      · (refine Ent.mk' ?_ ?_ <;> (repeat' (first | exact allSub_zero | exact allTags_nil | refine allSub_succ' ?_ (Ty.sub_any _) | refine allSub_succ' ?_ (Ty.sub_refl _))))
      ·
        have hm1 := flat_take_le l (m + 1)
        refine t_seq ?_
        refine t_region ?_
        refine r_bin rfl rfl rfl ?_
        refine r_nil ?_
        refine i_then ?_
        refine t_seq ?_
        refine t_cond_dec rfl (fun hc3 => ?_) (fun hc3 => ?_)
        ·
          refine t_skip ?_
          refine i_then ?_
          refine t_seq ?_
          refine t_block ?_
          refine t_seq ?_
          refine t_region ?_
          refine r_index_slN rfl rfl rfl rfl rfl rfl (by omega) ?_
          refine r_load_pp rfl rfl rfl rfl ?_
          refine asS rfl ?_
          refine r_nil ?_
          refine i_then ?_
          have hf2 : (l.take (m + 1)).flatten.length = (l.take m).flatten.length + (nth l m).length := by rw [flat_take_succ (by omega), List.length_append]
          refine t_region ?_
          refine mvR rfl ?_
          refine mvS rfl ?_
          refine r_append rfl rfl (by decide) rfl rfl rfl rfl rfl rfl (by decide) (by (dsimp only; omega)) (by omega) ?_
          refine asR rfl ?_
          refine r_nil ?_
          refine i_block ?_
          refine i_then ?_
          refine t_region ?_
          refine r_add rfl rfl (by omega) (by omega) ?_
          refine mvI rfl ?_
          refine r_nil ?_
          refine i_round (m + 1) ?_ (by omega)
          (refine Ent.mk' ?_ ?_ <;> (repeat' (first | exact allSub_zero | exact allTags_nil | refine allSub_succ' ?_ (Ty.sub_any _) | refine allSub_succ' ?_ (Ty.sub_refl _) | refine allSub_succ' ?_ ?_)))
          all_goals skip
          all_goals exact Ty.sub_row (flat_take_succ (by omega)).symm
        ·
          refine t_exit ?_
          refine i_then_exit ?_
          refine i_then_exit ?_
          refine i_block_exit rfl ?_
          refine i_then ?_
          refine t_seq ?_
          refine t_region ?_
          refine mvR rfl ?_
          refine asR rfl ?_
          refine r_nil ?_
          refine i_then ?_
          refine t_ret ?_
          refine i_rp1 rfl rfl ?_
          all_goals skip
          all_goals exact ret_row_eq (by decide) (by rw [List.take_of_length_le (by omega)])
set_option maxRecDepth 100000 in
theorem c_Concat_int (l : List (List Int)) (h : l.flatten.length ≤ 400000000) : Ctr Try.prog 100 [Ty.sl RowE l] (Ty.sl I64 l.flatten) := by
  refine fn_intro Try.func100 rfl (by decide) Try.ntmps100 (by exact Nat.le_of_ble_eq_true rfl) fun w0 M0 => ?_
  refine t_fact (s := 0) rfl rfl sl_len fun hl => ?_
  refine t_seq ?_
  refine t_region ?_
  refine asX rfl ?_
  refine r_nil ?_
  refine i_then ?_
  refine t_seq ?_
  refine t_region ?_
  refine asI rfl ?_
  refine r_nil ?_
  refine i_then ?_
  refine t_seq ?_
  refine t_seq ?_
  refine t_region ?_
  refine mvS rfl ?_
  refine r_len rfl rfl rfl ?_
  refine mvI rfl ?_
  refine r_nil ?_
  refine i_then ?_
  refine t_block ?_
  refine t_loop (fun (k : Nat) => live [(0, Ty.sl RowE l), (3, Ty.int .i64 (l.take k).flatten.length), (9, Ty.sl RowE l), (10, Ty.int .i64 l.length), (11, Ty.int .i64 (k : Nat))] []) (fun k => l.length - k) (0) ?_ fun k => ?_
  · (refine Ent.mk' ?_ ?_ <;> (repeat' (first | exact allSub_zero | exact allTags_nil | refine allSub_succ' ?_ (Ty.sub_any _) | refine allSub_succ' ?_ (Ty.sub_refl _))))
  ·
    refine t_seq ?_
    refine t_region ?_
    refine r_bin rfl rfl rfl ?_
    refine r_nil ?_
    refine i_then ?_
    refine t_seq ?_
    refine t_cond_dec rfl (fun hc1 => ?_) (fun hc1 => ?_)
    ·
      refine t_skip ?_
      refine i_then ?_
      refine t_seq ?_
      refine t_block ?_
      refine t_seq ?_
      refine t_region ?_
      refine r_index_slN rfl rfl rfl rfl rfl rfl (by omega) ?_
      refine r_load_pp rfl rfl rfl rfl ?_
      refine asS rfl ?_
      refine r_nil ?_
      refine i_then ?_
      refine t_seq ?_
      have hf1 := flat_take_le l (k + 1)
      have hf2 : (l.take (k + 1)).flatten.length = (l.take k).flatten.length + (nth l k).length := by rw [flat_take_succ (by omega), List.length_append]
      refine t_region ?_
      refine mvI rfl ?_
      refine mvS rfl ?_
      refine r_len rfl rfl rfl ?_
      refine r_add rfl rfl (by omega) (by omega) ?_
      refine asI rfl ?_
      refine r_nil ?_
      refine i_then ?_
      refine t_seq ?_
      refine t_region ?_
      refine mvI rfl ?_
      refine r_bin rfl rfl rfl ?_
      refine r_nil ?_
      refine i_then ?_
      refine t_cond_ff rfl (by exact decide_eq_false (by omega)) ?_
      refine t_skip ?_
      refine i_block ?_
      refine i_then ?_
      refine t_region ?_
      refine r_add rfl rfl (by omega) (by omega) ?_
      refine mvI rfl ?_
      refine r_nil ?_
      refine i_round (k + 1) ?_ (by omega)
      (refine Ent.mk' ?_ ?_ <;> (repeat' (first | exact allSub_zero | exact allTags_nil | refine allSub_succ' ?_ (Ty.sub_any _) | refine allSub_succ' ?_ (Ty.sub_refl _) | refine allSub_succ' ?_ ?_)))
      all_goals skip
      all_goals exact Ty.sub_int (by rw [flat_take_succ (by omega), List.length_append]; omega)
    ·
      refine t_exit ?_
      refine i_then_exit ?_
      refine i_then_exit ?_
      refine i_block_exit rfl ?_
      refine i_then ?_
      refine t_seq ?_
      refine t_region ?_
      refine mvI rfl ?_
      refine r_callG [(25, 23)] [25] [] (c_Grow_int (l.take k).flatten.length (by have := flat_take_le l k; omega)) rfl rfl (by repeat (first | exact cv_nil | refine cv_cons ?_ ?_ | exact cv_pub rfl rfl)) pre_nil post_nil (cv_row (by exact List.mem_cons_self)) ?_
      refine asR rfl ?_
      refine r_nil ?_
      refine i_then ?_
      refine t_seq ?_
      refine t_seq ?_
      refine t_region ?_
      refine mvS rfl ?_
      refine r_len rfl rfl rfl ?_
      refine mvI rfl ?_
      refine r_nil ?_
      refine i_then ?_
      refine t_block ?_
      refine t_loop (fun (m : Nat) => live [(6, Ty.row I64 3 25 (l.take m).flatten), (25, Ty.sl RowE l), (26, Ty.int .i64 l.length), (27, Ty.int .i64 (m : Nat))] []) (fun m => l.length - m) (0) ?_ fun m => ?_
      · (refine Ent.mk' ?_ ?_ <;> (repeat' (first | exact allSub_zero | exact allTags_nil | refine allSub_succ' ?_ (Ty.sub_any _) | refine allSub_succ' ?_ (Ty.sub_refl _))))
      ·
        have hm1 := flat_take_le l (m + 1)
        refine t_seq ?_
        refine t_region ?_
        refine r_bin rfl rfl rfl ?_
        refine r_nil ?_
        refine i_then ?_
        refine t_seq ?_
        refine t_cond_dec rfl (fun hc3 => ?_) (fun hc3 => ?_)
        ·
          refine t_skip ?_
          refine i_then ?_
          refine t_seq ?_
          refine t_block ?_
          refine t_seq ?_
          refine t_region ?_
          refine r_index_slN rfl rfl rfl rfl rfl rfl (by omega) ?_
          refine r_load_pp rfl rfl rfl rfl ?_
          refine asS rfl ?_
          refine r_nil ?_
          refine i_then ?_
          have hf2 : (l.take (m + 1)).flatten.length = (l.take m).flatten.length + (nth l m).length := by rw [flat_take_succ (by omega), List.length_append]
          refine t_region ?_
          refine mvR rfl ?_
          refine mvS rfl ?_
          refine r_append rfl rfl (by decide) rfl rfl rfl rfl rfl rfl (by decide) (by (dsimp only; omega)) (by omega) ?_
          refine asR rfl ?_
          refine r_nil ?_
          refine i_block ?_
          refine i_then ?_
          refine t_region ?_
          refine r_add rfl rfl (by omega) (by omega) ?_
          refine mvI rfl ?_
          refine r_nil ?_
          refine i_round (m + 1) ?_ (by omega)
          (refine Ent.mk' ?_ ?_ <;> (repeat' (first | exact allSub_zero | exact allTags_nil | refine allSub_succ' ?_ (Ty.sub_any _) | refine allSub_succ' ?_ (Ty.sub_refl _) | refine allSub_succ' ?_ ?_)))
          all_goals skip
          all_goals exact Ty.sub_row (flat_take_succ (by omega)).symm
        ·
          refine t_exit ?_
          refine i_then_exit ?_
          refine i_then_exit ?_
          refine i_block_exit rfl ?_
          refine i_then ?_
          refine t_seq ?_
          refine t_region ?_
          refine mvR rfl ?_
          refine asR rfl ?_
          refine r_nil ?_
          refine i_then ?_
          refine t_ret ?_
          refine i_rp1 rfl rfl ?_
          all_goals skip
          all_goals exact ret_row_eq (by decide) (by rw [List.take_of_length_le (by omega)])
set_option maxRecDepth 100000 in
theorem c_Reverse_rows (xs : List (List Tur)) (hn : xs.length ≤ 400000000) : CtrG Try.prog 140 [1000] [(1000, Cont.vec RowT 42 xs)] [Ty.vs 1000 xs.length] [(1000, Cont.vec RowT 42 xs.reverse)] (Ty.tup []) := by
  refine fnG_intro Try.func140 rfl (by decide) Try.ntmps140 (by exact Nat.le_of_ble_eq_true rfl) fun w0 M0 => ?_
  refine t_seq ?_
  refine t_region ?_
  refine mvV rfl ?_
  refine r_len_vs rfl rfl rfl ?_
  refine r_sub rfl rfl (by omega) (by omega) ?_
  refine asI rfl ?_
  refine asI rfl ?_
  refine r_nil ?_
  refine i_then ?_
  refine t_block ?_
  refine t_loop (fun (k : {k : Nat // k = 0 ∨ 2 * k ≤ xs.length}) => live [(0, Ty.vs 1000 xs.length), (2, Ty.int .i64 (k.1 : Nat)), (3, Ty.int .i64 ((xs.length : Int) - 1 - k.1))] [(1000, Cont.vec RowT 42 (revUp xs k.1))]) (fun k => xs.length - k.1) (⟨0, .inl rfl⟩) ?_ fun k => ?_
  · (refine Ent.mk' ?_ ?_ <;> (repeat' (first | exact allSub_zero | exact allTags_nil | refine allSub_succ' ?_ (Ty.sub_any _) | refine allSub_succ' ?_ (Ty.sub_refl _) | refine allTags_cons rfl ?_ ?_ | refine allSub_succ' ?_ ?_)))
    all_goals first | exact Ty.sub_int (show (xs.length : Int) - 1 = (xs.length : Int) - 1 - ((0 : Nat) : Int) by omega) | exact Cont.sub_vec (revUp_zero xs).symm
  ·
    have hk := k.2
    have hrl := revUp_len xs k.1
    refine t_seq ?_
    refine t_seq ?_
    refine t_region ?_
    refine mvI rfl ?_
    refine mvI rfl ?_
    refine r_bin rfl rfl rfl ?_
    refine r_nil ?_
    refine i_then ?_
    refine t_cond_dec rfl (fun hc1 => ?_) (fun hc1 => ?_)
    ·
      refine t_skip ?_
      refine i_then ?_
      refine t_seq ?_
      refine t_block ?_
      have hlt : (k.1 : Int) < (xs.length : Int) - 1 - k.1 := hc1
      refine t_draw mixed rfl ?_
      refine mvV rfl ?_
      refine mvI rfl ?_
      refine mvV rfl ?_
      refine mvI rfl ?_
      refine mvV rfl ?_
      refine mvI rfl ?_
      refine r_index_vsI rfl rfl rfl rfl rfl (by omega) (by omega) ?_
      refine r_load_vecB rfl rfl rfl (by decide) rfl rfl (by omega) rfl ?_
      refine mvV rfl ?_
      refine mvI rfl ?_
      refine r_index_vs rfl rfl rfl rfl rfl (by omega) ?_
      refine r_load_vecB rfl rfl rfl (by decide) rfl rfl (by omega) rfl ?_
      refine r_index_vs rfl rfl rfl rfl rfl (by omega) ?_
      refine r_store_vecB rfl rfl rfl (by decide) rfl rfl (by exact (rfl : _ = Ty.sl _ _)) rfl (by omega) (by decide) rfl rfl ?_
      refine r_index_vsI rfl rfl rfl rfl rfl (by omega) (by omega) ?_
      refine r_store_vecB rfl rfl rfl (by decide) rfl rfl (by exact (rfl : _ = Ty.sl _ _)) rfl (by (simp <;> omega)) (by decide) rfl rfl ?_
      refine r_nil ?_
      refine ⟨by kernel_rfl, ?_⟩
      refine i_block ?_
      refine i_then ?_
      refine t_region ?_
      refine mvI rfl ?_
      refine r_add rfl rfl (by omega) (by omega) ?_
      refine mvI rfl ?_
      refine r_sub rfl rfl (by omega) (by omega) ?_
      refine asI rfl ?_
      refine asI rfl ?_
      refine r_nil ?_
      refine i_round (⟨k.1 + 1, by omega⟩) ?_ (by show xs.length - (k.1 + 1) < xs.length - k.1; omega)
      (refine Ent.mk' ?_ ?_ <;> (repeat' (first | exact allSub_zero | exact allTags_nil | refine allSub_succ' ?_ (Ty.sub_any _) | refine allSub_succ' ?_ (Ty.sub_refl _) | refine allTags_cons rfl ?_ ?_ | refine allSub_succ' ?_ ?_)))
      all_goals skip
      all_goals first | exact Ty.sub_int (by show _ = (xs.length : Int) - 1 - ((k.1 + 1 : Nat) : Int); omega) | exact Cont.sub_vec (by rw [show ((xs.length : Int) - 1 - k.1).toNat = xs.length - 1 - k.1 by omega]; exact revUp_succ (by omega))
    ·
      refine t_exit ?_
      refine i_then_exit ?_
      refine i_then_exit ?_
      refine i_block_exit rfl ?_
      refine i_end ?_
      refine g_ret0 [1000] rfl (by decide) ?_
      refine rc_cons rfl (cc_vec (by decide) (revUp_end (by omega))) rc_nil
      all_goals skip
set_option maxRecDepth 100000 in
theorem c_Reverse_tur (xs : List Tur) (hn : xs.length ≤ 400000000) : CtrG Try.prog 123 [1000] [(1000, Cont.vec TurE 55 xs)] [Ty.vs 1000 xs.length] [(1000, Cont.vec TurE 55 xs.reverse)] (Ty.tup []) := by
  refine fnG_intro Try.func123 rfl (by decide) Try.ntmps123 (by exact Nat.le_of_ble_eq_true rfl) fun w0 M0 => ?_
  refine t_seq ?_
  refine t_region ?_
  refine mvV rfl ?_
  refine r_len_vs rfl rfl rfl ?_
  refine r_sub rfl rfl (by omega) (by omega) ?_
  refine asI rfl ?_
  refine asI rfl ?_
  refine r_nil ?_
  refine i_then ?_
  refine t_block ?_
  refine t_loop (fun (k : {k : Nat // k = 0 ∨ 2 * k ≤ xs.length}) => live [(0, Ty.vs 1000 xs.length), (2, Ty.int .i64 (k.1 : Nat)), (3, Ty.int .i64 ((xs.length : Int) - 1 - k.1))] [(1000, Cont.vec TurE 55 (revUp xs k.1))]) (fun k => xs.length - k.1) (⟨0, .inl rfl⟩) ?_ fun k => ?_
  · (refine Ent.mk' ?_ ?_ <;> (repeat' (first | exact allSub_zero | exact allTags_nil | refine allSub_succ' ?_ (Ty.sub_any _) | refine allSub_succ' ?_ (Ty.sub_refl _) | refine allTags_cons rfl ?_ ?_ | refine allSub_succ' ?_ ?_)))
    all_goals first | exact Ty.sub_int (show (xs.length : Int) - 1 = (xs.length : Int) - 1 - ((0 : Nat) : Int) by omega) | exact Cont.sub_vec (revUp_zero xs).symm
  ·
    have hk := k.2
    have hrl := revUp_len xs k.1
    refine t_seq ?_
    refine t_seq ?_
    refine t_region ?_
    refine mvI rfl ?_
    refine mvI rfl ?_
    refine r_bin rfl rfl rfl ?_
    refine r_nil ?_
    refine i_then ?_
    refine t_cond_dec rfl (fun hc1 => ?_) (fun hc1 => ?_)
    ·
      refine t_skip ?_
      refine i_then ?_
      refine t_seq ?_
      refine t_block ?_
      have hlt : (k.1 : Int) < (xs.length : Int) - 1 - k.1 := hc1
      refine t_draw mixed rfl ?_
      refine mvV rfl ?_
      refine mvI rfl ?_
      refine mvV rfl ?_
      refine mvI rfl ?_
      refine mvV rfl ?_
      refine mvI rfl ?_
      refine r_index_vsI rfl rfl rfl rfl rfl (by omega) (by omega) ?_
      refine r_load_vecE ((xs.length : Int) - 1 - k.1).toNat rfl rfl rfl (by decide) rfl rfl rfl (by omega) ?_
      refine mvV rfl ?_
      refine mvI rfl ?_
      refine r_index_vs rfl rfl rfl rfl rfl (by omega) ?_
      refine r_load_vecE k.1 rfl rfl rfl (by decide) rfl rfl rfl (by omega) ?_
      refine r_index_vs rfl rfl rfl rfl rfl (by omega) ?_
      refine r_store_vecE k.1 rfl rfl rfl (by decide) rfl rfl rfl (by omega) ?_
      refine r_index_vsI rfl rfl rfl rfl rfl (by omega) (by omega) ?_
      refine r_store_vecE ((xs.length : Int) - 1 - k.1).toNat rfl rfl rfl (by decide) rfl rfl rfl (by rw [List.length_set]; omega) ?_
      refine r_nil ?_
      refine ⟨by kernel_rfl, ?_⟩
      refine i_block ?_
      refine i_then ?_
      refine t_region ?_
      refine mvI rfl ?_
      refine r_add rfl rfl (by omega) (by omega) ?_
      refine mvI rfl ?_
      refine r_sub rfl rfl (by omega) (by omega) ?_
      refine asI rfl ?_
      refine asI rfl ?_
      refine r_nil ?_
      refine i_round (⟨k.1 + 1, by omega⟩) ?_ (by show xs.length - (k.1 + 1) < xs.length - k.1; omega)
      (refine Ent.mk' ?_ ?_ <;> (repeat' (first | exact allSub_zero | exact allTags_nil | refine allSub_succ' ?_ (Ty.sub_any _) | refine allSub_succ' ?_ (Ty.sub_refl _) | refine allTags_cons rfl ?_ ?_ | refine allSub_succ' ?_ ?_)))
      all_goals skip
      all_goals first | exact Ty.sub_int (by show _ = (xs.length : Int) - 1 - ((k.1 + 1 : Nat) : Int); omega) | exact Cont.sub_vec (by rw [show ((xs.length : Int) - 1 - k.1).toNat = xs.length - 1 - k.1 by omega]; exact revUp_succ (by omega))
    ·
      refine t_exit ?_
      refine i_then_exit ?_
      refine i_then_exit ?_
      refine i_block_exit rfl ?_
      refine i_end ?_
      refine g_ret0 [1000] rfl (by decide) ?_
      refine rc_cons rfl (cc_vec (by decide) (revUp_end (by omega))) rc_nil
      all_goals skip
set_option maxRecDepth 100000 in
theorem c_plan (f : Found) (first : Pl) (L : List (List Tur)) (hL : Chain f.ways first f.last L) (hlen : L.length ≤ 40000000) : Ctr Try.prog 113 [foundT f, Ty.agg (plT first)] (Ty.sl RowT L) := by
  refine fn_intro Try.func113 rfl (by decide) Try.ntmps113 (by exact Nat.le_of_ble_eq_true rfl) fun w0 M0 => ?_
  refine t_seq ?_
  refine t_region ?_
  refine r_box_agg rfl ?_
  refine r_box_agg rfl ?_
  refine asX rfl ?_
  refine r_nil ?_
  refine i_then ?_
  refine t_seq ?_
  refine t_region ?_
  refine asX rfl ?_
  refine r_nil ?_
  refine i_then ?_
  refine t_seq ?_
  refine t_seq ?_
  refine t_region ?_
  refine r_field_pp rfl rfl rfl rfl rfl (by decide) ?_
  refine r_load_ppN rfl rfl rfl (by exact Nat.le_of_ble_eq_true rfl) ?_
  refine r_alloc rfl (by exact List.cons_ne_nil _ _) rfl ?_
  refine r_storeN rfl rfl (by decide) rfl rfl rfl rfl rfl rfl ?_
  refine r_nil ?_
  refine i_then ?_
  refine t_block ?_
  refine t_loop (fun (x : {x : Pl × List (List Tur) × List (List Tur) // Chain f.ways first x.1 x.2.1 ∧ L = x.2.1 ++ x.2.2.reverse}) => live [(2, Ty.pp (foundTys f)), (3, Ty.pp (plT first)), (5, Ty.row RowT 42 25 x.1.2.2), (6, Ty.ptr 7 0)] [(7, Cont.cells 123 (plT x.1.1))]) (fun x => x.1.2.1.length) (⟨(f.last, L, []), hL, by simp⟩) ?_ fun x => ?_
  · (refine Ent.mk' ?_ ?_ <;> (repeat' (first | exact allSub_zero | exact allTags_nil | refine allSub_succ' ?_ (Ty.sub_any _) | refine allSub_succ' ?_ (Ty.sub_refl _) | refine allSub_succ' ?_ Ty.nil_row | refine allTags_cons rfl (Cont.sub_refl _) ?_)))
  ·
    have hxl : x.1.2.2.length ≤ L.length := by rw [congrArg List.length x.2.2, List.length_append, List.length_reverse]; omega
    refine t_seq ?_
    refine t_seq ?_
    refine t_region ?_
    refine r_load_ptrN rfl rfl (by decide) rfl rfl (by exact Nat.le_of_ble_eq_true rfl) ?_
    refine r_load_ppN rfl rfl rfl (by exact Nat.le_of_ble_eq_true rfl) ?_
    refine r_neq_A (eqt123 x.1.1 first) rfl rfl ?_
    refine r_nil ?_
    refine i_then ?_
    refine t_cond_ndec rfl (fun hc1 => ?_) (fun hc1 => ?_)
    ·
      refine t_skip ?_
      refine i_then ?_
      refine t_seq ?_
      refine t_block ?_
      refine t_region ?_
      refine mvR rfl ?_
      refine r_field_pp rfl rfl rfl rfl rfl (by decide) ?_
      refine r_load_pp rfl rfl rfl rfl ?_
      refine r_load_ptrN rfl rfl (by decide) rfl rfl (by exact Nat.le_of_ble_eq_true rfl) ?_
      refine r_lookupP plKey (k := x.1.1) (z0 := way0) rfl rfl (key_pl x.1.1) mapT121 zero147 way_zero ?_
      refine r_fieldv1 rfl rfl rfl rfl rfl rfl rfl ?_
      refine r_buildSlice (E := RowT) (xs := [((mget f.ways x.1.1).getD way0).byT]) rfl rfl rfl rfl rfl (by decide) (by decide) (by repeat (first | exact (Parts.nil : Parts _ _ [] _) | (show Parts _ _ ((_, _) :: _) _; apply Parts.one; (· exact (rfl : _ = Ty.sl _ _)); (· exact rfl)))) (by exact rfl) rfl ?_
      refine r_append rfl rfl (by decide) rfl rfl rfl rfl rfl rfl (by decide) (by (simp <;> omega)) (by (simp <;> omega)) ?_
      refine asR rfl ?_
      refine r_nil ?_
      refine i_block ?_
      refine i_then ?_
      refine t_seq ?_
      refine t_seq ?_
      refine t_region ?_
      refine r_load_ptrN rfl rfl (by decide) rfl rfl (by exact Nat.le_of_ble_eq_true rfl) ?_
      refine r_nil ?_
      refine i_then ?_
      refine t_region ?_
      refine r_alloc rfl (by exact List.cons_ne_nil _ _) rfl ?_
      refine r_storeN rfl rfl (by decide) rfl rfl rfl rfl rfl rfl ?_
      refine r_nil ?_
      refine i_then ?_
      refine t_region ?_
      refine r_field_pp rfl rfl rfl rfl rfl (by decide) ?_
      refine r_load_pp rfl rfl rfl rfl ?_
      refine r_load_ptrN rfl rfl (by decide) rfl rfl (by exact Nat.le_of_ble_eq_true rfl) ?_
      refine r_lookupP plKey (k := x.1.1) (z0 := way0) rfl rfl (key_pl x.1.1) mapT121 zero147 way_zero ?_
      refine r_fieldvN rfl rfl rfl rfl rfl rfl ?_
      refine r_storeN rfl rfl (by decide) rfl rfl rfl rfl rfl rfl ?_
      refine r_nil ?_
      refine i_round (⟨(((mget f.ways x.1.1).getD way0).frm, x.1.2.1.dropLast, x.1.2.2 ++ [((mget f.ways x.1.1).getD way0).byT]), (x.2.1.step hc1).1, by have h1 := x.2.2; rw [(x.2.1.step hc1).2] at h1; exact h1.trans (by simp)⟩) ?_ (by show x.1.2.1.dropLast.length < x.1.2.1.length; rw [congrArg List.length (x.2.1.step hc1).2, List.length_append]; simp)
      (refine Ent.mk' ?_ ?_ <;> (repeat' (first | exact allSub_zero | exact allTags_nil | refine allSub_succ' ?_ (Ty.sub_any _) | refine allSub_succ' ?_ (Ty.sub_refl _) | refine allTags_cons rfl (Cont.sub_refl _) ?_)))
      all_goals skip
    ·
      refine t_exit ?_
      refine i_then_exit ?_
      refine i_then_exit ?_
      refine i_block_exit rfl ?_
      refine i_then ?_
      refine t_seq ?_
      have hx0 : x.1.2.1 = [] := by
        have h := x.2.1
        have e : x.1.1 = first := hc1
        rw [e] at h; exact h.at_first
      have hL2 : L = x.1.2.2.reverse := by
        have h := x.2.2
        rw [hx0] at h; exact h
      refine t_own (s := 5) rfl rfl ?_
      refine t_region ?_
      refine mvV rfl ?_
      refine r_callG [(25, 1000)] [] [(25, Cont.vec RowT 42 x.1.2.2.reverse)] (c_Reverse_rows x.1.2.2 (by omega)) rfl rfl (by repeat (first | exact cv_nil | refine cv_cons ?_ ?_ | exact cv_vs List.mem_cons_self)) (pre_cons (a := 25) (b := 1000) (by exact List.mem_cons_self) rfl (cc_vec (by exact List.mem_cons_self) rfl) pre_nil) (post_cons (a := 25) (b := 1000) (by exact List.mem_cons_self) rfl (cc_vec (by exact List.mem_cons_self) rfl) post_nil) (cv_pub rfl rfl) ?_
      refine r_nil ?_
      refine i_then ?_
      refine t_seq ?_
      refine t_pub (tg := 25) [(5, Ty.sl RowT x.1.2.2.reverse)] (by decide) rfl ⟨pub_vs rfl rfl (by rw [List.length_reverse]) (by decide), trivial⟩ ?_
      refine t_region ?_
      refine mvS rfl ?_
      refine asS rfl ?_
      refine r_nil ?_
      refine i_then ?_
      refine t_ret ?_
      refine i_rp1 rfl rfl ?_
      all_goals skip
      all_goals exact ret_eq rfl rfl (congrArg (Ty.sl RowT) hL2.symm)
end Go.Proofs.Ytpnndljmhpepgaa

namespace Go.Proofs.Ytpnndljmhpepgaa
open Go Go.T
def skipR (b : Barn) (p : Pl) (l : List Tur) (k lot : Nat) : Bool := (takenP b p k || !b.hold k lot) || l.any fun t => decide (t.aim = (k : Int))
def roundsL (b : Barn) (p : Pl) (g : Int) : Nat → List Tur → Nat → List (List Tur)
  | 0, l, _ => [l]
  | m + 1, l, lot => if (l.length : Int) = g then [l] else ((List.range b.sizes.length).flatMap fun k => if skipR b p l k lot = true then [] else roundsL b p g m (l ++ [⟨lot, k⟩]) (lot + 1)) ++ roundsL b p g m l (lot + 1)
def roundsW (b : Barn) (p : Pl) (g : Int) (l : List Tur) (lot : Nat) : List (List Tur) := roundsL b p g (b.lots.length - lot) l lot
def roundK (b : Barn) (p : Pl) (g : Int) (l : List Tur) (lot k : Nat) : List (List Tur) := if skipR b p l k lot = true then [] else roundsW b p g (l ++ [⟨lot, k⟩]) (lot + 1)
def roundUp (b : Barn) (p : Pl) (g : Int) (l : List Tur) (lot n : Nat) : List (List Tur) := (List.range n).flatMap (roundK b p g l lot)
variable {b : Barn} {p : Pl} {g : Int} {l : List Tur} {lot : Nat}
theorem rounds_end (h : (decide ((lot : Int) = b.lots.length) || decide ((l.length : Int) = g)) = true) : roundsW b p g l lot = [l] := by
  simp only [Bool.or_eq_true, decide_eq_true_eq] at h
  unfold roundsW
  by_cases e : b.lots.length - lot = 0
  · rw [e]; rfl
  · obtain ⟨m, hm⟩ : ∃ m, b.lots.length - lot = m + 1 := ⟨b.lots.length - lot - 1, by omega⟩
    rw [hm]; exact if_pos (by omega)
theorem rounds_on (hl : lot < b.lots.length) (h : ¬ (l.length : Int) = g) : roundsW b p g l lot = roundUp b p g l lot b.sizes.length ++ roundsW b p g l (lot + 1) := by
  unfold roundsW
  obtain ⟨m, hm⟩ : ∃ m, b.lots.length - lot = m + 1 := ⟨b.lots.length - lot - 1, by omega⟩
  have hm' : b.lots.length - (lot + 1) = m := by omega
  rw [hm, hm']
  show (if (l.length : Int) = g then _ else _) = _
  rw [if_neg h]
  congr 1
  unfold roundUp
  congr 1
  funext k
  unfold roundK roundsW
  rw [hm']
theorem roundUp_succ (n : Nat) : roundUp b p g l lot (n + 1) = roundUp b p g l lot n ++ roundK b p g l lot n := by
  unfold roundUp; rw [List.range_succ, List.flatMap_append]; simp
theorem roundK_no {k : Nat} (h : skipR b p l k lot = true) : roundK b p g l lot k = [] := if_pos h
theorem roundK_yes {k : Nat} (h : skipR b p l k lot = false) : roundK b p g l lot k = roundsW b p g (l ++ [⟨lot, k⟩]) (lot + 1) := if_neg (by rw [h]; decide)
theorem roundUp_pre {n : Nat} (h : n ≤ b.sizes.length) : roundUp b p g l lot n <+: roundUp b p g l lot b.sizes.length := by
  obtain ⟨r, e⟩ := range_split h
  unfold roundUp
  rw [e, List.flatMap_append]; exact List.prefix_append _ _
def allR (b : Barn) (p : Pl) (g : Int) : List (List Tur) := roundsW b p g [] 0
theorem pre_at {α : Type} {A B R : List α} {k : Nat} (h : (A ++ B) <+: R.drop k) : B <+: R.drop (k + A.length) := by
  obtain ⟨C, e⟩ := h
  refine ⟨C, ?_⟩
  rw [← List.drop_drop, ← e, List.append_assoc, List.drop_left]
theorem pre_get {α : Type} {x : α} {R : List α} {k : Nat} (h : [x] <+: R.drop k) : R[k]? = some x := by
  obtain ⟨C, e⟩ := h
  have := congrArg (fun l => l[0]?) e
  simp only [List.singleton_append, List.getElem?_cons_zero, List.getElem?_drop, Nat.add_zero] at this
  exact this.symm
theorem pre_round {R : List (List Tur)} {k n : Nat} (hl : lot < b.lots.length) (h : ¬ (l.length : Int) = g) (hp : roundsW b p g l lot <+: R.drop k) (hn : n < b.sizes.length) : roundK b p g l lot n <+: R.drop (k + (roundUp b p g l lot n).length) := by
  refine pre_at (List.IsPrefix.trans ?_ hp)
  rw [rounds_on hl h, ← roundUp_succ]
  exact List.IsPrefix.trans (roundUp_pre (by omega)) (List.prefix_append _ _)
theorem pre_last {R : List (List Tur)} {k : Nat} (hl : lot < b.lots.length) (h : ¬ (l.length : Int) = g) (hp : roundsW b p g l lot <+: R.drop k) : roundsW b p g l (lot + 1) <+: R.drop (k + (roundUp b p g l lot b.sizes.length).length) := by
  refine pre_at ?_
  rw [← rounds_on hl h]; exact hp
theorem not_end (h : (decide ((lot : Int) = b.lots.length) || decide ((l.length : Int) = g)) = false) (hle : lot ≤ b.lots.length) : lot < b.lots.length ∧ ¬ (l.length : Int) = g := by
  simp only [Bool.or_eq_false_iff, decide_eq_false_iff_not] at h; omega
end Go.Proofs.Ytpnndljmhpepgaa

namespace Go.T
open Go Go.RowKit
def dCK (J : World → Tags → Prop) (w : World) (M : Tags) : Prop :=
  ∃ Mc, Wf w Mc ∧ ZOk Mc ∧ J w Mc ∧ (∀ b, M b = none → Mc b = none) ∧ ∀ b u, b < w.heap.size → M b = some u → u ≠ 7000 → Mc b = some (Zt + b)
theorem dCK_mono {J : World → Tags → Prop} (hJ : Cb J) {S K : Nat → Prop} {w w' : World} {M M' : Tags} (le : Le S K w M w' M') (hs : ¬ S 7000) (hk : ¬ K 7000) (h : dCK J w M) : dCK J w' M' := by
  obtain ⟨Mc, wf, z, hj, h1, h2⟩ := h
  have own : ∀ b, M b = some 7000 → M' b = some 7000 ∧ w'.heap[b]? = w.heap[b]? := fun b h => let ⟨a, c⟩ := le.own b _ h hk; ⟨a, c hs⟩
  have mb : ∀ b t, Mc b = some t → t < Zt → M b = some 7000 := fun b t h ht => by
    cases hm : M b with
    | none => rw [h1 b hm] at h; cases h
    | some u =>
      by_cases e : u = 7000
      · rw [e]
      · have := h2 b u (wf.lt b t h) hm e
        rw [this] at h; injection h with h; omega
  let N : Tags := fun b => if b < w'.heap.size then (match M' b with | none => none | some u => if u = 7000 then (if b < w.heap.size ∧ M b = some 7000 then Mc b else some (Zt + b)) else some (Zt + b)) else none
  have hN : ∀ b, N b = if b < w'.heap.size then (match M' b with | none => none | some u => if u = 7000 then (if b < w.heap.size ∧ M b = some 7000 then Mc b else some (Zt + b)) else some (Zt + b)) else none := fun _ => rfl
  have zok : ZOk N := by
    intro b u h hu
    rw [hN] at h
    split at h
    · split at h
      · cases h
      · split at h
        · split at h
          · exact z b u h hu
          · injection h with h; exact h.symm
        · injection h with h; exact h.symm
    · cases h
  have wf' : Wf w' N := by
    refine ⟨fun b t h => ?_, fun b b' t ht1 h h' => ?_⟩
    · rw [hN] at h
      split at h
      · assumption
      · cases h
    · have part : ∀ b, N b = some (t + 1) → Mc b = some (t + 1) := fun b h => by
        have hz : t + 1 < Zt := by unfold Zt; omega
        rw [hN] at h
        split at h
        · split at h
          · cases h
          · split at h
            · split at h
              · exact h
              · injection h with h; omega
            · injection h with h; omega
        · cases h
      exact wf.inj b b' t ht1 (part b h) (part b' h')
  have lez : Le (fun t => Zt ≤ t) (fun t => Zt ≤ t) w Mc w' N := by
    refine ⟨le.size, le.os, le.tape, le.out, fun b hb hm => ?_, fun b t hm ht => ?_⟩
    · have hb' : b < w'.heap.size := Nat.lt_of_lt_of_le hb le.size
      cases hmb : M b with
      | none =>
        obtain ⟨a, c⟩ := le.pub b hb hmb
        exact ⟨by rw [hN, if_pos hb', a], c⟩
      | some u =>
        by_cases e : u = 7000
        · subst e
          obtain ⟨a, c⟩ := own b hmb
          exact ⟨by rw [hN, if_pos hb', a]; show (if (7000 : Nat) = 7000 then _ else _) = _; rw [if_pos rfl, if_pos ⟨hb, hmb⟩]; exact hm, c⟩
        · rw [h2 b u hb hmb e] at hm; cases hm
    · have hlt := wf.lt b t hm
      have h0 := mb b t hm (Nat.lt_of_not_le ht)
      obtain ⟨a, c⟩ := own b h0
      refine ⟨?_, fun _ => c⟩
      rw [hN, if_pos (Nat.lt_of_lt_of_le hlt le.size), a]
      show (if (7000 : Nat) = 7000 then _ else _) = _
      rw [if_pos rfl, if_pos ⟨hlt, h0⟩]; exact hm
  refine ⟨N, wf', zok, hJ _ _ _ _ wf' lez hj, fun b h => ?_, fun b u hb h hu => ?_⟩
  · rw [hN, h]; split <;> rfl
  · rw [hN, if_pos hb, h]; show (if u = 7000 then _ else _) = _; rw [if_neg hu]
def Cont.ck {J : World → Tags → Prop} (hJ : Cb J) : Cont :=
  { den := fun w M t => t = 7000 ∧ dCK J w M
    mono := fun le _ _ hs hk ⟨e, h⟩ => ⟨e, dCK_mono hJ le (e ▸ hs) (e ▸ hk) h⟩ }
theorem Cont.sub_ck {J : Nat → World → Tags → Prop} (hJ : ∀ k, Cb (J k)) {a b : Nat} (e : a = b) : (Cont.ck (hJ a)).Sub (Cont.ck (hJ b)) := by subst e; exact Cont.sub_refl _
def dYb (b1 : Bool) (J1 Jx : World → Tags → Prop) (w : World) (M : Tags) (v : Value) : Prop := (v = .bool b1 ∧ dCK J1 w M) ∨ (v = .bool (!b1) ∧ dCK Jx w M)
def Ty.yb {J1 Jx : World → Tags → Prop} (b1 : Bool) (h1 : Cb J1) (hx : Cb Jx) : Ty :=
  ⟨dYb b1 J1 Jx, [7000], [7000], fun le hk hs h => h.imp (fun ⟨e, h⟩ => ⟨e, dCK_mono h1 le (hs _ (by simp)) (hk _ (by simp)) h⟩) (fun ⟨e, h⟩ => ⟨e, dCK_mono hx le (hs _ (by simp)) (hk _ (by simp)) h⟩), true, fun _ h => h.elim (fun ⟨e, _⟩ => e ▸ rfl) (fun ⟨e, _⟩ => e ▸ rfl)⟩
theorem Ty.sub_yb {J1 J2 Jx : World → Tags → Prop} {b1 : Bool} {h1 : Cb J1} {h2 : Cb J2} {hx : Cb Jx} (e : J1 = J2) : (Ty.yb b1 h1 hx).Sub (Ty.yb b1 h2 hx) := by subst e; exact Ty.sub_refl _
def Cont.me (g T : Nat) (v : Value) (tys : List Ty) (cs : List Value) (h1 : depsOf tys = []) (h2 : cdepsOf tys = []) : Cont :=
  { den := fun w M _ => M g = some 1000 ∧ w.heap[g]? = some (.cells #[v] T (0, 0)) ∧ dens w M tys cs
    deps := [1000], cdeps := [1000]
    mono := fun le hk hs _ _ ⟨e1, e2, e3⟩ => let ⟨a, c⟩ := le.own g _ e1 (hk 1000 (by simp)); ⟨a, (c (hs 1000 (by simp))).trans e2, dens_mono le (by rw [h1]; intro _ h; cases h) (by rw [h2]; intro _ h; cases h) e3⟩ }
def Cont.snap (w0 : World) (old : Nat → Prop) : Cont :=
  { den := fun w M t => ∀ b, old b → M b = some t ∧ w.heap[b]? = w0.heap[b]?
    mono := fun le _ _ hs hk h b hb => let ⟨a, c⟩ := le.own b _ (h b hb).1 hk; ⟨a, (c hs).trans (h b hb).2⟩ }
def backY (w : World) (M1 Mc' : Tags) : Tags := fun b => if b < w.heap.size then M1 b else (Mc' b).map fun _ => 7000
theorem backY_ok {w w' : World} {M1 Mc Mc' : Tags} (wf1 : Wf w M1) (wf' : Wf w' Mc') (h1 : ∀ b, M1 b = none → Mc b = none) (h2 : ∀ b u, b < w.heap.size → M1 b = some u → u ≠ 7000 → Mc b = some (Zt + b)) (le : Le (fun t => t < Zt) (fun t => t < Zt) w Mc w' Mc') :
    Wf w' (backY w M1 Mc') ∧ Le (· ∈ [7000]) (· ∈ ([] : List Nat)) w M1 w' (backY w M1 Mc') ∧ (∀ b, backY w M1 Mc' b = none → Mc' b = none) ∧ ∀ b u, b < w'.heap.size → backY w M1 Mc' b = some u → u ≠ 7000 → Mc' b = some (Zt + b) := by
  unfold backY
  refine ⟨⟨fun b u h => ?_, fun b b' u ht1 h h' => ?_⟩, ⟨le.size, le.os, le.tape, le.out, fun b hb hm => ⟨by simp [hb, hm], (le.pub b hb (h1 b hm)).2⟩, fun b u hm _ => ⟨by simp [wf1.lt b u hm, hm], fun hs => ?_⟩⟩, fun b h => ?_, fun b u _ h hu => ?_⟩
  · split at h
    · exact Nat.lt_of_lt_of_le ‹_› le.size
    · obtain ⟨v, hv, _⟩ := Option.map_eq_some_iff.1 h
      exact wf'.lt b v hv
  · have part : ∀ b, (if b < w.heap.size then M1 b else (Mc' b).map fun _ => 7000) = some (u + 1) → M1 b = some (u + 1) := fun b h => by
      split at h
      · exact h
      · obtain ⟨v, _, hv⟩ := Option.map_eq_some_iff.1 h
        omega
    exact wf1.inj b b' u ht1 (part b h) (part b' h')
  · have hu : u ≠ 7000 := fun e => hs (by simp [e])
    exact (le.own b _ (h2 b u (wf1.lt b _ hm) hm hu) (by omega)).2 (by omega)
  · split at h
    · exact (le.pub b ‹_› (h1 b h)).1
    · simpa using h
  · split at h
    · exact (le.own b _ (h2 b u ‹_› h hu) (by omega)).1
    · obtain ⟨v, _, hv⟩ := Option.map_eq_some_iff.1 h
      exact absurd hv.symm hu
def pubL (M : Tags) (L : List Nat) : Tags := fun b => match M b with | none => none | some t => if t ∈ L then none else some t
theorem pubL_none {M : Tags} {L : List Nat} {b : Nat} (h : M b = none) : pubL M L b = none := by simp [pubL, h]
theorem pubL_lend {M : Tags} {L : List Nat} {b : Nat} (h : lend M L b = none) : pubL M L b = none := by
  unfold lend at h; unfold pubL
  cases hm : M b with
  | none => rfl
  | some t =>
    rw [hm] at h
    show (if t ∈ L then none else some t) = none
    by_cases e : t ∈ L
    · rw [if_pos e]
    · have h : (if t ∈ L then none else some 0) = none := h
      rw [if_neg e] at h; cases h
theorem pubL_le {w : World} {M : Tags} {L : List Nat} : Le (· ∈ ([] : List Nat)) (· ∈ L) w M w (pubL M L) :=
  ⟨Nat.le_refl _, rfl, rfl, rfl, fun b _ hm => ⟨pubL_none hm, rfl⟩, fun b t hm hk => ⟨by simp [pubL, hm, hk], fun _ => rfl⟩⟩
theorem pubL_some {M : Tags} {L : List Nat} {b t : Nat} (h : pubL M L b = some t) : M b = some t := by
  unfold pubL at h
  split at h
  · cases h
  · split at h
    · cases h
    · rename_i hm _; rw [hm]; exact h
theorem pubL_wf {w : World} {M : Tags} {L : List Nat} (wf : Wf w M) : Wf w (pubL M L) := ⟨fun b t h => wf.lt b t (pubL_some h), fun b b' t ht h h' => wf.inj b b' t ht (pubL_some h) (pubL_some h')⟩
def yPost (w : World) (Mc : Tags) (J1 Jx : World → Tags → Prop) (e : Ending) (w' : World) : Prop :=
  ∃ M', Wf w' M' ∧ ZOk M' ∧ Le (fun t => t < Zt) (fun t => t < Zt) w Mc w' M' ∧ ((e = .returned (.bool true) ∧ J1 w' M') ∨ (e = .returned (.bool false) ∧ Jx w' M'))
abbrev gp (g : Nat) : Value := .pointer (some ⟨g, 0, none⟩)
def MoreY (P : Program) (f : FuncId) (T : Nat) (capTys args : List Ty) (J0 J1 Jx : World → Tags → Prop) : Prop :=
  (∃ fn, P.funcs[f]? = some fn ∧ (fn.name == "runtime.NumGoroutine") = false ∧ fn.body.isNone = false) ∧
  ∀ (w : World) (Mc : Tags) (g : Nat) (vs cs cs' : List Value), Wf w Mc → ZOk Mc → dens w Mc args vs → dens w Mc capTys cs → dens w Mc capTys cs' → Mc g = some (Zt + g) →
    w.heap[g]? = some (.cells #[.func (.func f) #[] (cs' ++ [gp g]).toArray] T (0, 0)) → J0 w Mc →
    Calls P f (vs ++ (cs ++ [gp g])).toArray w (yPost w Mc J1 Jx)
section
variable {P : Program} {fr : Fr} {ops : Array Oper} {A : As} {rest : List Oper} {K : As → List (As × Fx) → Prop} {d : Nat} {t ty' : TypeId} {p : String} {e : Array Edge}
theorem r_yieldY {c l k : Nat} {encs : List (List Ty)} {J : Nat → World → Tags → Prop} {Jx : World → Tags → Prop} (hJ : ∀ k, Cb (J k)) (hJx : Cb Jx) (hY : Yld P l encs J Jx) {xs : List Operand} {ats : Array TypeId} {tys : List Ty}
    (hkd : fr.kd = .plain) (hc : A.op fr (.tmp c) = .ex (yv l)) (hx : opsTy A fr xs = tys) (hd : depsOf tys = []) (hdc : cdepsOf tys = []) (hk : encs[k]? = some tys) (ht : A.tag 7000 = some (.ck (hJ k)))
    (h : TOps P fr ops rest (A.after { d := some d, ty := .yb true (hJ (k + 1)) hJx, S := [7000], rs := c :: xs.flatMap opR, rt := [7000] }) fun A' l' => K A' ((A, { d := some d, ty := .yb true (hJ (k + 1)) hJx, S := [7000], rs := c :: xs.flatMap opR, rt := [7000] }) :: l')) :
    TOps P fr ops (⟨some d, .call ⟨.value (.tmp c), xs.toArray, ats⟩, t, p, e, none⟩ :: rest) A K := by
  refine ⟨{ d := some d, ty := .yb true (hJ (k + 1)) hJx, S := [7000], rs := c :: xs.flatMap opR, rt := [7000] }, ⟨rfl, by simp, by simp, by simp, fun a w M wf hsz hrd htg => ?_⟩, h⟩
  rw [if_pos (by simp [Region.wanted])]
  have hcv := op_den (x := .tmp c) (rs := c :: xs.flatMap opR) (fun u hu => by exact (List.mem_singleton.1 hu) ▸ List.mem_cons_self) hrd
  rw [hc] at hcv
  have hcv : a.eval (.tmp c) = yv l := hcv
  obtain ⟨_, Mc, wfc, z, hj, h1, h2⟩ := htg _ (tag_mem ht) (by simp)
  have hv : dens w Mc tys (xs.map a.eval) := conv_nodeps h1 hd hdc (hx ▸ opsTy_dens (rs := c :: xs.flatMap opR) hrd fun x hx c hc => List.mem_cons_of_mem _ (List.mem_flatMap.2 ⟨x, hx, hc⟩))
  obtain ⟨fn, tmps, assign, body, hy, hR⟩ := hY k tys hk w Mc _ wfc z hj hv
  refine ⟨fun f _ => fr.kd.fn_true f, ?_⟩
  have hrun : (execOp a.eval ⟨some d, .call ⟨.value (.tmp c), xs.toArray, ats⟩, t, p, e, none⟩).run P w = .ok (.round l fn tmps assign body) w := by
    simp [execOp, resolve, hcv, yv, Deferred.ofValue, invoke, hy]
  rw [Oper.semAt_eq _ _ _ (by intro c h; cases h), hrun, Oper.uponIn_round]
  refine ⟨fun h => (by rw [fr.kd.depth_none] at h; cases h), ?_⟩
  have hfe : fr.kd.fence = Fence.wide := by rw [hkd]; rfl
  rw [hfe]
  refine RoundIn.mono hR fun en w' ⟨Mc', wf', z', le, hor⟩ => ?_
  obtain ⟨g1, g2, g3, g4⟩ := backY_ok wf wf' h1 h2 le
  rcases hor with ⟨rfl, hj'⟩ | ⟨rfl, hj'⟩
  · exact ⟨.bool true, rfl, _, g1, g2, .inl ⟨rfl, Mc', wf', z', hj', g3, g4⟩, by simp⟩
  · exact ⟨.bool false, rfl, _, g1, g2, .inr ⟨rfl, Mc', wf', z', hj', g3, g4⟩, by simp⟩
theorem run_callFuncY {f : FuncId} {T : Nat} {capTys args : List Ty} {J0 J1 Jx : World → Tags → Prop} (hF : MoreY P f T capTys args J0 J1 Jx) (vs : Array Value) (w : World) : (callFunc f vs).run P w = .ok (.enter f vs) w := by
  obtain ⟨⟨fn, hf, hn, hb⟩, _⟩ := hF
  have hn' : fn.name ≠ "runtime.NumGoroutine" := by simpa using hn
  have hb' : fn.body ≠ none := fun h => by rw [h] at hb; cases hb
  simp [callFunc, hf, hn', hb']
theorem r_callY (L : List Nat) {c f T g : Nat} {capTys args ss : List Ty} {cs' : List Value} {J0 J1 Jx : World → Tags → Prop} (h0 : Cb J0) (h1 : Cb J1) (hx : Cb Jx) (hM : MoreY P f T capTys args J0 J1 Jx) {h3 : depsOf capTys = []} {h4 : cdepsOf capTys = []} {xs : List Operand} {ats : Array TypeId}
    (hc : A.op fr (.tmp c) = .ex (.func (.func f) #[] (cs' ++ [gp g]).toArray)) (hxs : opsTy A fr xs = ss) (hl : Lends L ss args) (hd : depsOf args = []) (hdc : cdepsOf args = [])
    (hme : A.tag 1001 = some (.me g T (.func (.func f) #[] (cs' ++ [gp g]).toArray) capTys cs' h3 h4)) (hck : A.tag 7000 = some (.ck h0)) (hL : ∀ u ∈ L, 1 ≤ u ∧ u ∉ fr.pass) (hL7 : L.contains 7000 = false) (hL1 : L.contains 1000 = false)
    (h : TOps P fr ops rest (A.after { d := some d, ty := .yb true h1 hx, S := [7000], K := L, rs := c :: xs.flatMap opR, rt := [7000, 1001] }) fun A' l' => K A' ((A, { d := some d, ty := .yb true h1 hx, S := [7000], K := L, rs := c :: xs.flatMap opR, rt := [7000, 1001] }) :: l')) :
    TOps P fr ops (⟨some d, .call ⟨.value (.tmp c), xs.toArray, ats⟩, t, p, e, none⟩ :: rest) A K := by
  refine ⟨{ d := some d, ty := .yb true h1 hx, S := [7000], K := L, rs := c :: xs.flatMap opR, rt := [7000, 1001] }, ⟨rfl, by simp, by simp, hL, fun a w M wf hsz hrd htg => ?_⟩, h⟩
  rw [if_pos (by simp [Region.wanted])]
  have hcv := op_den (x := .tmp c) (rs := c :: xs.flatMap opR) (fun u hu => by exact (List.mem_singleton.1 hu) ▸ List.mem_cons_self) hrd
  rw [hc] at hcv
  have hcv : a.eval (.tmp c) = .func (.func f) #[] (cs' ++ [gp g]).toArray := hcv
  obtain ⟨e1, e2, e3⟩ := htg _ (tag_mem hme) (by simp)
  obtain ⟨_, hck'⟩ := htg _ (tag_mem hck) (by simp)
  have hck1 : dCK J0 w (pubL M L) := dCK_mono h0 (pubL_le (w := w) (M := M) (L := L)) (by simp) (by simpa using hL7) hck'
  obtain ⟨Mc, wfc, z, hj, k1, k2⟩ := hck1
  have e1' : pubL M L g = some 1000 := by have : 1000 ∉ L := by simpa using hL1
                                          simp [pubL, e1, this]
  have hg : g < w.heap.size := (Array.getElem?_eq_some_iff.1 e2).1
  have hv : dens w Mc args (xs.map a.eval) := conv_nodeps (fun b hb => k1 b (pubL_lend hb)) hd hdc (lends_dens wf hl (hxs ▸ opsTy_dens (rs := c :: xs.flatMap opR) hrd fun x hx c hc => List.mem_cons_of_mem _ (List.mem_flatMap.2 ⟨x, hx, hc⟩)))
  have hcs : dens w Mc capTys cs' := conv_nodeps (fun b hb => k1 b (pubL_none hb)) h3 h4 e3
  have hcall := hM.2 w Mc g _ cs' cs' wfc z hv hcs hcs (k2 g 1000 hg e1' (by decide)) e2 hj
  refine wp_in_enter (f := f) (args := (xs.map a.eval ++ (cs' ++ [gp g])).toArray) (by simp [execOp, resolve, hcv, Deferred.ofValue, invoke, run_callFuncY hM]) (hcall.mono fun en w' ⟨Mc', wf', z', le, hor⟩ => ?_)
  obtain ⟨g1, g2, g3, g4⟩ := backY_ok (pubL_wf (L := L) wf) wf' k1 k2 le
  have g2' : Le (· ∈ [7000]) (· ∈ L) w M w' (backY w (pubL M L) Mc') := ((pubL_le (w := w) (M := M) (L := L)).trans g2).weaken (fun u hu => by rcases hu with h | h; cases h; exact h) (fun u hu => by rcases hu with h | h; exact h; cases h)
  rcases hor with ⟨rfl, hj'⟩ | ⟨rfl, hj'⟩
  · exact ⟨.bool true, rfl, .bool true, rfl, _, g1, g2', .inl ⟨rfl, Mc', wf', z', hj', g3, g4⟩, by simp⟩
  · exact ⟨.bool false, rfl, .bool false, rfl, _, g1, g2', .inr ⟨rfl, Mc', wf', z', hj', g3, g4⟩, by simp⟩
theorem r_callY0 {c f T tg : Nat} {capTys args ss : List Ty} {J0 J1 Jx : World → Tags → Prop} (h0 : Cb J0) (h1 : Cb J1) (hx : Cb Jx) (hM : MoreY P f T capTys args J0 J1 Jx) (h3 : depsOf capTys = []) (h4 : cdepsOf capTys = []) {xs : List Operand} {ats : Array TypeId}
    (hc : A.op fr (.tmp c) = .clo f (capTys ++ [.ptr tg 0])) (hxs : opsTy A fr xs = ss) (hl : Lends [] ss args) (hd : depsOf args = []) (hdc : cdepsOf args = [])
    (hcell : A.tag tg = some (.cells T [.clo f (capTys ++ [.ptr tg 0])])) (htg1 : Tag1 tg) (hck : A.tag 7000 = some (.ck h0))
    (h : TOps P fr ops rest (A.after { d := some d, ty := .yb true h1 hx, S := [7000], rs := c :: xs.flatMap opR, rt := [7000, tg] }) fun A' l' => K A' ((A, { d := some d, ty := .yb true h1 hx, S := [7000], rs := c :: xs.flatMap opR, rt := [7000, tg] }) :: l')) :
    TOps P fr ops (⟨some d, .call ⟨.value (.tmp c), xs.toArray, ats⟩, t, p, e, none⟩ :: rest) A K := by
  refine ⟨{ d := some d, ty := .yb true h1 hx, S := [7000], rs := c :: xs.flatMap opR, rt := [7000, tg] }, ⟨rfl, by simp, by simp, by simp, fun a w M wf hsz hrd htg => ?_⟩, h⟩
  rw [if_pos (by simp [Region.wanted])]
  have hcv := op_den (x := .tmp c) (rs := c :: xs.flatMap opR) (fun u hu => by exact (List.mem_singleton.1 hu) ▸ List.mem_cons_self) hrd
  rw [hc] at hcv
  obtain ⟨⟨cl⟩, ev, hcl⟩ := hcv
  have split : ∀ (l : List Value), dens w M (capTys ++ [.ptr tg 0]) l → ∃ cs b, l = cs ++ [gp b] ∧ dens w M capTys cs ∧ M b = some tg := fun l hl => by
    have hlen := dens_len hl
    rw [List.length_append, List.length_singleton] at hlen
    have g1 := dens_take capTys.length hl
    have g2 := dens_drop capTys.length hl
    rw [List.take_left] at g1
    rw [List.drop_left] at g2
    have e1 : (l.drop capTys.length).length = 1 := by rw [List.length_drop]; omega
    obtain ⟨v, hv⟩ := List.length_eq_one_iff.1 e1
    rw [hv] at g2
    obtain ⟨⟨b, hb, ev⟩, _⟩ := g2
    exact ⟨_, b, by subst ev; have h9 := List.take_append_drop capTys.length l; rw [hv] at h9; exact h9.symm, g1, hb⟩
  obtain ⟨cs, g, rfl, hcs, hg⟩ := split _ hcl
  obtain ⟨b', ⟨cells⟩, hb', hh, hdd⟩ := htg _ (tag_mem hcell) (by simp)
  obtain ⟨u, rfl⟩ : ∃ u, tg = u + 1 := ⟨tg - 1, by have := htg1.1; omega⟩
  have hbg : g = b' := wf.inj g b' u htg1.2 hg hb'
  subst hbg
  obtain ⟨v', rfl⟩ : ∃ v', cells = [v'] := by
    have hlen := dens_len hdd
    exact List.length_eq_one_iff.1 (by simpa using hlen)
  obtain ⟨⟨⟨cl'⟩, ev', hcl'⟩, _⟩ := hdd
  obtain ⟨cs', g', rfl, hcs', hg'⟩ := split _ hcl'
  have hgg : g' = g := wf.inj g' g u htg1.2 hg' hg
  subst hgg
  subst ev'
  obtain ⟨_, Mc, wfc, z, hj, k1, k2⟩ := htg _ (tag_mem hck) (by simp)
  have hgs : g' < w.heap.size := (Array.getElem?_eq_some_iff.1 hh).1
  have hcv : a.eval (.tmp c) = .func (.func f) #[] (cs ++ [gp g']).toArray := ev
  have hv : dens w Mc args (xs.map a.eval) := conv_nodeps (fun b hb => k1 b (by
      unfold lend at hb
      cases hm : M b with
      | none => rfl
      | some q => rw [hm] at hb; simp at hb)) hd hdc (lends_dens wf hl (hxs ▸ opsTy_dens (rs := c :: xs.flatMap opR) hrd fun x hx c hc => List.mem_cons_of_mem _ (List.mem_flatMap.2 ⟨x, hx, hc⟩)))
  have hcall := hM.2 w Mc g' _ cs cs' wfc z hv (conv_nodeps k1 h3 h4 hcs) (conv_nodeps k1 h3 h4 hcs') (k2 g' _ hgs hg (by have := htg1.2; omega)) hh hj
  refine wp_in_enter (f := f) (args := (xs.map a.eval ++ (cs ++ [gp g'])).toArray) (by simp [execOp, resolve, hcv, Deferred.ofValue, invoke, run_callFuncY hM]) (hcall.mono fun en w' ⟨Mc', wf', z', le, hor⟩ => ?_)
  obtain ⟨g1, g2, g3, g4⟩ := backY_ok wf wf' k1 k2 le
  rcases hor with ⟨rfl, hj'⟩ | ⟨rfl, hj'⟩
  · exact ⟨.bool true, rfl, .bool true, rfl, _, g1, g2, .inl ⟨rfl, Mc', wf', z', hj', g3, g4⟩, by simp⟩
  · exact ⟨.bool false, rfl, .bool false, rfl, _, g1, g2, .inr ⟨rfl, Mc', wf', z', hj', g3, g4⟩, by simp⟩
theorem r_notY {x : Operand} {J1 Jx : World → Tags → Prop} {h1 : Cb J1} {hx : Cb Jx} {b1 : Bool} (hop : A.op fr x = .yb b1 h1 hx)
    (h : TOps P fr ops rest (A.set d (.yb (!b1) h1 hx)) fun A' l' => K A' ((A, { d := some d, ty := .yb (!b1) h1 hx, rs := opR x }) :: l')) : TOps P fr ops (⟨some d, .unOp .not ty' x, t, p, e, none⟩ :: rest) A K :=
  tops_pure (opT_pure rfl rfl fun a w M _ hrd _ => by
    have hdx := op_den (x := x) (fun _ h => h) hrd
    rw [hop] at hdx
    rcases hdx with ⟨ex, hj⟩ | ⟨ex, hj⟩
    · exact ⟨.bool (!b1), by simp [execOp, ex, Op.unary], .inl ⟨rfl, hj⟩⟩
    · exact ⟨.bool (!!b1), by simp [execOp, ex, Op.unary], .inr ⟨rfl, hj⟩⟩) h
end
section
variable {P : Program} {fr : Fr} {A : As} {Q : Exit → Act → World → Prop} {x y : Code}
theorem t_condY {c : Operand} {J1 Jx : World → Tags → Prop} {h1 : Cb J1} {hx : Cb Jx} (hc : A.op fr c = .yb false h1 hx) (hth : Tri P fr x ⟨A.slots, (7000, .ck hx) :: A.tags⟩ Q) (hel : Tri P fr y ⟨A.slots, (7000, .ck h1) :: A.tags⟩ Q) : Tri P fr (.cond c x y) A Q := fun a w ha => by
  obtain ⟨M, ok, hs, ht⟩ := ha
  have hd := op_den (x := c) (rs := opR c) (fun _ h => h) (fun c _ hn => hs c hn)
  rw [hc] at hd
  rcases hd with ⟨ev, hj⟩ | ⟨ev, hj⟩
  · exact wpIn_cond_false ev (hel a w ⟨M, ok, hs, fun x hx => by
      rcases List.mem_cons.1 hx with rfl | hx
      · exact ⟨rfl, hj⟩
      · exact ht x hx⟩)
  · exact wpIn_cond_true ev (hth a w ⟨M, ok, hs, fun x hx => by
      rcases List.mem_cons.1 hx with rfl | hx
      · exact ⟨rfl, hj⟩
      · exact ht x hx⟩)
end
def startM (Mc : Tags) (g : Option Nat) : Tags := fun b => match Mc b with | none => none | some u => if u < Zt then some 7000 else if some b = g then some 1000 else some 5000
theorem startM_none {Mc : Tags} {g : Option Nat} {b : Nat} (h : startM Mc g b = none) : Mc b = none := by
  unfold startM at h
  split at h
  · assumption
  · split at h
    · cases h
    · split at h <;> cases h
theorem startM_none' {Mc : Tags} {g : Option Nat} {b : Nat} (h : Mc b = none) : startM Mc g b = none := by simp [startM, h]
theorem startM_wf {w : World} {Mc : Tags} {g : Option Nat} (wf : Wf w Mc) : Wf w (startM Mc g) := by
  refine ⟨fun b t h => ?_, fun b b' t ht h h' => ?_⟩
  · cases hm : Mc b with
    | none => rw [startM_none' hm] at h; cases h
    | some u => exact wf.lt b u hm
  · have key : ∀ b, startM Mc g b = some (t + 1) → some b = g := fun b h => by
      unfold startM at h
      split at h
      · cases h
      · split at h
        · injection h with h; omega
        · split at h
          · assumption
          · injection h with h; omega
    have e1 := key b h
    have e2 := key b' h'
    rw [← e2] at e1; injection e1
theorem startM_ck {w : World} {Mc : Tags} {g : Option Nat} {J : World → Tags → Prop} (wf : Wf w Mc) (z : ZOk Mc) (hj : J w Mc) : dCK J w (startM Mc g) := by
  refine ⟨Mc, wf, z, hj, fun b h => startM_none h, fun b u _ h hu => ?_⟩
  unfold startM at h
  split at h
  · cases h
  · rename_i v hv
    split at h
    · injection h with h; exact absurd h.symm hu
    · rw [hv]; congr 1; exact z b v hv (by omega)
def oldB (Mc : Tags) (g : Nat) (b : Nat) : Prop := Mc b = some (Zt + b) ∧ b ≠ g
section
variable {P : Program}
theorem moreY_intro {f : FuncId} {fn : Func} {c : Code} {T : Nat} {capTys args : List Ty} {J0 J1 Jx : World → Tags → Prop} {n : Nat} (h0 : Cb J0) (hf : P.funcs[f]? = some fn) (hb : fn.body = some c) (hn : (fn.name == "runtime.NumGoroutine") = false) (hnt : fn.ntmps = n) (hl : (args ++ (capTys ++ [Ty.ptr 1000 0])).length ≤ n)
    (hd : depsOf args = []) (hdc : cdepsOf args = []) (h3 : depsOf capTys = []) (h4 : cdepsOf capTys = [])
    (h : ∀ w Mc g cs', Wf w Mc → ZOk Mc → Mc g = some (Zt + g) → w.heap[g]? = some (.cells #[.func (.func f) #[] (cs' ++ [gp g]).toArray] T (0, 0)) →
      Tri P ⟨n, w, startM Mc (some g), [7000, 5000, 1000], .plain⟩ c (entryG (args ++ (capTys ++ [Ty.ptr 1000 0])) [(7000, .ck h0), (1000, .cells T [.ex (.func (.func f) #[] (cs' ++ [gp g]).toArray)]), (1001, .me g T (.func (.func f) #[] (cs' ++ [gp g]).toArray) capTys cs' h3 h4), (5000, .snap w (oldB Mc g))]) (bodyPost P fn (yPost w Mc J1 Jx))) : MoreY P f T capTys args J0 J1 Jx := by
  refine ⟨⟨fn, hf, hn, by rw [hb]; rfl⟩, fun w Mc g vs cs cs' wf z hv hcs hcs' hg hh hj => calls_of_wp hf hb (wpIn_wide.1 (h w Mc g cs' wf z hg hh _ _ ?_))⟩
  have hnn : ∀ b, Mc b = none → startM Mc (some g) b = none := fun b hb => startM_none' hb
  have hg0 : startM Mc (some g) g = some 1000 := by simp [startM, hg]
  have hall : dens w (startM Mc (some g)) (args ++ (capTys ++ [Ty.ptr 1000 0])) (vs ++ (cs ++ [gp g])) := dens_append (conv_nodeps hnn hd hdc hv) (dens_append (conv_nodeps hnn h3 h4 hcs) ⟨⟨g, hg0, rfl⟩, trivial⟩)
  have hlen := dens_len hall
  refine ⟨startM Mc (some g), ⟨startM_wf wf, Le.refl _ _ _ _, by simp [hnt]; simp at hlen hl; omega, Defs.nil⟩, fun c hc => ?_, fun x hx => ?_⟩
  · simp only [entryG]
    cases ha : (args ++ (capTys ++ [Ty.ptr 1000 0]))[c]? with
    | none => trivial
    | some ty =>
      obtain ⟨v, hv, hdv⟩ := dens_get hall c ty ha
      have : ((vs ++ (cs ++ [gp g])).toArray ++ Array.replicate (fn.ntmps - (vs ++ (cs ++ [gp g])).toArray.size) undef).getD c undef = v := by
        have hlt : c < (vs ++ (cs ++ [gp g])).length := (List.getElem?_eq_some_iff.1 hv).1
        rw [Array.getD_eq_getD_getElem?, Array.getElem?_append_left (by simpa using hlt), List.getElem?_toArray, hv]; rfl
      rw [this]; exact hdv
  · simp only [entryG, List.mem_cons, List.not_mem_nil, or_false] at hx
    rcases hx with rfl | rfl | rfl | rfl
    · exact ⟨rfl, startM_ck wf z hj⟩
    · exact ⟨g, _, hg0, hh, rfl, trivial⟩
    · exact ⟨hg0, hh, conv_nodeps hnn h3 h4 hcs'⟩
    · intro b ⟨hb1, hb2⟩
      refine ⟨?_, rfl⟩
      have : ¬ Zt + b < Zt := by omega
      simp [startM, hb1, this, hb2]
variable {A : As} {fn : Func} {n : Nat} {J1 Jx : World → Tags → Prop}
theorem yret_le {w w' : World} {Mc M Mc' : Tags} {g T : Nat} {v : Value} {tys : List Ty} {cs : List Value} {h3 : depsOf tys = []} {h4 : cdepsOf tys = []} (z : ZOk Mc) (wf : Wf w Mc) (hg : w.heap[g]? = some (.cells #[v] T (0, 0)))
    (hb : Le (fun t => 1 ≤ t) (fun t => 1 ≤ t ∧ t ∉ [7000, 5000, 1000]) w (startM Mc (some g)) w' M) (hm : (Cont.me g T v tys cs h3 h4).den w' M 1001) (ho : (Cont.snap w (oldB Mc g)).den w' M 5000) (k1 : ∀ b, M b = none → Mc' b = none) (k2 : ∀ b u, b < w'.heap.size → M b = some u → u ≠ 7000 → Mc' b = some (Zt + b)) :
    Le (fun t => t < Zt) (fun t => t < Zt) w Mc w' Mc' := by
  refine ⟨hb.size, hb.os, hb.tape, hb.out, fun b hlt h => ?_, fun b t h ht => ?_⟩
  · obtain ⟨a, c⟩ := hb.pub b hlt (startM_none' h)
    exact ⟨k1 b a, c⟩
  · have e := z b t h (by omega)
    subst e
    have hlt : b < w'.heap.size := Nat.lt_of_lt_of_le (wf.lt b _ h) hb.size
    by_cases e : b = g
    · subst e
      exact ⟨k2 b 1000 hlt hm.1 (by decide), fun _ => hm.2.1.trans hg.symm⟩
    · obtain ⟨a, c⟩ := ho b ⟨h, e⟩
      exact ⟨k2 b 5000 hlt a (by decide), fun _ => c⟩
theorem i_retY {tm g T : Nat} {w : World} {Mc : Tags} {v : Value} {tys : List Ty} {cs : List Value} {h3 : depsOf tys = []} {h4 : cdepsOf tys = []} {h1 : Cb J1} {hx : Cb Jx} (z : ZOk Mc) (wf : Wf w Mc) (hg : w.heap[g]? = some (.cells #[v] T (0, 0))) (hr : fn.results = #[.tmp tm]) (htm : Nat.blt tm n = true) (hm : A.tag 1001 = some (.me g T v tys cs h3 h4)) (ho : A.tag 5000 = some (.snap w (oldB Mc g))) (hs : (A.slots tm).Sub (.yb true h1 hx)) :
    Into ⟨n, w, startM Mc (some g), [7000, 5000, 1000], .plain⟩ A (bodyPost P fn (yPost w Mc J1 Jx) .ret) := by
  intro a w' ⟨M, ok, hsl, htg⟩
  rcases hs _ _ _ (hsl tm (by simpa using htm)) with ⟨ev, Mc', wf', z', hj, k1, k2⟩ | ⟨ev, Mc', wf', z', hj, k1, k2⟩
  · exact ⟨ok.nodefers (by simp), _, results_tmp hr _ _ _, Mc', wf', z', yret_le (h3 := h3) (h4 := h4) z wf hg ok.base (htg _ (tag_mem hm)) (htg _ (tag_mem ho)) k1 k2, .inl ⟨by rw [ev], hj⟩⟩
  · exact ⟨ok.nodefers (by simp), _, results_tmp hr _ _ _, Mc', wf', z', yret_le (h3 := h3) (h4 := h4) z wf hg ok.base (htg _ (tag_mem hm)) (htg _ (tag_mem ho)) k1 k2, .inr ⟨by rw [ev]; rfl, hj⟩⟩
theorem i_retYx {tm g T : Nat} {w : World} {Mc : Tags} {v : Value} {tys : List Ty} {cs : List Value} {h3 : depsOf tys = []} {h4 : cdepsOf tys = []} {hx : Cb Jx} (z : ZOk Mc) (wf : Wf w Mc) (hg : w.heap[g]? = some (.cells #[v] T (0, 0))) (hr : fn.results = #[.tmp tm]) (htm : Nat.blt tm n = true) (hm : A.tag 1001 = some (.me g T v tys cs h3 h4)) (ho : A.tag 5000 = some (.snap w (oldB Mc g))) (hs : A.slots tm = .bool false) (hk : A.tag 7000 = some (.ck hx)) :
    Into ⟨n, w, startM Mc (some g), [7000, 5000, 1000], .plain⟩ A (bodyPost P fn (yPost w Mc J1 Jx) .ret) := by
  intro a w' ⟨M, ok, hsl, htg⟩
  have ev := hsl tm (by simpa using htm)
  rw [hs] at ev
  obtain ⟨_, Mc', wf', z', hj, k1, k2⟩ := htg _ (tag_mem hk)
  have ev : a.tmps.getD tm undef = .bool false := ev
  exact ⟨ok.nodefers (by simp), _, results_tmp hr _ _ _, Mc', wf', z', yret_le (h3 := h3) (h4 := h4) z wf hg ok.base (htg _ (tag_mem hm)) (htg _ (tag_mem ho)) k1 k2, .inr ⟨by rw [ev], hj⟩⟩
theorem fnYI_intro {f : FuncId} {c : Code} {args : Nat → List Ty} {encs : List (List Ty)} (hf : P.funcs[f]? = some fn) (hb : fn.body = some c) (hn : (fn.name == "runtime.NumGoroutine") = false) (hnt : fn.ntmps = n) (hl : ∀ l, (args l).length ≤ n) (hdd : ∀ l, depsOf (args l) = [] ∧ cdepsOf (args l) = [])
    (h : ∀ l J Jx (hJ : ∀ k, Cb (J k)) (_ : Cb Jx), Yld P l encs J Jx → ∀ w0 M0, Tri P ⟨n, w0, M0, [7000, 5000], .plain⟩ c (entryG (args l) [(7000, .ck (hJ 0))]) (bodyPost P fn (iterPost encs.length J Jx (Ty.tup []) (Ty.tup [])))) : CtrI P f args encs (Ty.tup []) (Ty.tup []) := by
  refine ⟨⟨fn, hf, hn, by rw [hb]; rfl⟩, fun l J Jx hJ hJx hY w Mc vs wf z hd hj => calls_of_wp hf hb (wpIn_wide.1 (h l J Jx hJ hJx hY w (startM Mc none) _ _ ?_))⟩
  have hall : dens w (startM Mc none) (args l) vs := conv_nodeps (fun b hb => startM_none' hb) (hdd l).1 (hdd l).2 hd
  have hlen := dens_len hall
  have hl := hl l
  refine ⟨startM Mc none, ⟨startM_wf wf, Le.refl _ _ _ _, by simp [hnt, hlen]; omega, Defs.nil⟩, fun c hc => ?_, fun x hx => ?_⟩
  · simp only [entryG]
    cases ha : (args l)[c]? with
    | none => trivial
    | some ty =>
      obtain ⟨v, hv, hdv⟩ := dens_get hall c ty ha
      have : (vs.toArray ++ Array.replicate (fn.ntmps - vs.toArray.size) undef).getD c undef = v := by
        have hlt : c < vs.length := (List.getElem?_eq_some_iff.1 hv).1
        rw [Array.getD_eq_getD_getElem?, Array.getElem?_append_left (by simpa using hlt)]
        simp [hv]
      rw [this]; exact hdv
  · rw [List.mem_singleton.1 hx]; exact ⟨rfl, startM_ck wf z hj⟩
theorem i_retYI {s : Nat} {w0 : World} {M0 : Tags} {J : Nat → World → Tags → Prop} {m : Nat} {h1 : Cb (J m)} {hx : Cb Jx} (hr : fn.results = #[]) (hsn : Nat.blt s n = true) (hs : A.slots s = .yb true h1 hx) : Into ⟨n, w0, M0, [7000, 5000], .plain⟩ A (bodyPost P fn (iterPost m J Jx (Ty.tup []) (Ty.tup [])) .normal) := by
  intro a w' ⟨M, ok, hsl, htg⟩
  have hd := hsl s (by simpa using hsn)
  rw [hs] at hd
  rcases hd with ⟨ev, Mc', wf', z', hj, k1, k2⟩ | ⟨ev, Mc', wf', z', hj, k1, k2⟩
  · exact ⟨ok.nodefers (by simp), _, results_none hr _ _ _, _, Mc', rfl, wf', z', .inl ⟨⟨_, rfl, trivial⟩, hj⟩⟩
  · exact ⟨ok.nodefers (by simp), _, results_none hr _ _ _, _, Mc', rfl, wf', z', .inr ⟨⟨_, rfl, trivial⟩, hj⟩⟩
end
end Go.T

namespace Go.Proofs.Ytpnndljmhpepgaa
open Go Go.T
set_option maxHeartbeats 4000000
def rndEnc (l : List Tur) : List Ty := [Ty.sl TurE l]
def moreCaps (d : Desk) (gg : Int) (p : Pl) (li : Nat) : List Ty := [Ty.pp [Ty.pe DeskE d 0], Ty.pp [Ty.int .i64 gg], Ty.pp [Ty.ex (yv li)], Ty.pp (plT p)]
theorem same_tur (t : Tur) (k : Int) : (decide (t.lot = t.lot) && decide (t.aim = k)) = decide (t.aim = k) := by rw [decide_eq_true rfl, Bool.true_and]
theorem rnd_get {R : List (List Tur)} {k : Nat} {l : List Tur} (h : [l] <+: R.drop k) : (R.map rndEnc)[k]? = some [Ty.sl TurE l] := by rw [List.getElem?_map, pre_get h]; rfl
attribute [local irreducible] dInt dBool dSl dPp dPtr dAgg dTup dClo dAny dEx dStr dGd dCells dVec dVs dRow dOp nth Tri Into TOps Ctr bodyPost Exit.then Exit.inBlock Code.wp Code.wpIn dWhen dPa dPe dAo dArr dMp dPm dMap dCJ CtrG CtrI OpY keepPost iterPost bodyPostM roundQ
attribute [local irreducible] dYb dCK dRowJ dMs dFit
set_option maxRecDepth 100000 in
theorem k_Clone_tur (l : List Tur) (h : l.length ≤ 1000) : CtrG Try.prog 108 [] [] [Ty.sl TurE l] [] (Ty.row TurE 55 6 l) := by
  refine fnG_intro Try.func108 rfl (by decide) Try.ntmps108 (by exact Nat.le_of_ble_eq_true rfl) fun w0 M0 => ?_
  refine t_seq ?_
  refine t_region ?_
  refine asX rfl ?_
  refine r_nil ?_
  refine i_then ?_
  refine t_seq ?_
  refine t_seq ?_
  refine t_region ?_
  refine mvS rfl ?_
  refine r_eqnil und42 rfl ?_
  refine r_nil ?_
  refine i_then ?_
  refine t_cond_nb rfl (fun hc1 => ?_) (fun hc1 => ?_)
  ·
    refine t_seq ?_
    refine t_region ?_
    refine asX rfl ?_
    refine r_nil ?_
    refine i_then ?_
    refine t_ret ?_
    refine i_then_ret ?_
    refine g_ret1 [6] rfl rfl (by decide) (by repeat (exact rc_nil)) ?_
    all_goals skip
    all_goals (obtain rfl : l = [] := hc1; exact rg_cv cv_nilrow)
  ·
    refine t_skip ?_
    refine i_then ?_
    refine t_seq ?_
    refine t_region ?_
    refine r_buildRow (E := TurE) rfl rfl rfl rfl ?_
    refine mvS rfl ?_
    refine r_append rfl rfl (by decide) rfl rfl rfl rfl rfl rfl (by decide) (by (simp <;> omega)) (by (simp <;> omega)) ?_
    refine asR rfl ?_
    refine r_nil ?_
    refine i_then ?_
    refine t_ret ?_
    refine g_ret1 [6] rfl rfl (by decide) (by repeat (exact rc_nil)) ?_
    all_goals skip
    all_goals exact rg_cv (cv_row (by decide))
set_option maxRecDepth 100000 in
theorem c_more1 (t : Tur) (k : Int) : Ctr Try.prog 139 [Ty.agg (TurE.tys t), Ty.pp [Ty.int .i64 k]] (Ty.bool (decide (t.aim = k))) := by
  refine fn_intro Try.func139 rfl (by decide) Try.ntmps139 (by exact Nat.le_of_ble_eq_true rfl) fun w0 M0 => ?_
  refine t_seq ?_
  refine t_region ?_
  refine r_box_agg rfl ?_
  refine asB rfl ?_
  refine r_nil ?_
  refine i_then ?_
  refine t_seq ?_
  refine t_region ?_
  refine r_load_ppN rfl rfl rfl (by exact Nat.le_of_ble_eq_true rfl) ?_
  refine r_field_pp rfl rfl rfl rfl rfl (by decide) ?_
  refine r_load_pp rfl rfl rfl rfl ?_
  refine r_load_pp rfl rfl rfl rfl ?_
  refine r_build rfl rfl (by exact List.cons_ne_nil _ _) rfl (by repeat (first | exact (Parts.nil : Parts _ _ [] _) | (show Parts _ _ ((_, _) :: _) _; apply Parts.one; (· exact (rfl : _ = Ty.int _ _)); (· exact rfl)))) (by exact (rfl : _ = some [_, _])) ?_
  refine r_eql_A (eqt55 _ _ _ _) rfl rfl ?_
  refine asB rfl ?_
  refine r_nil ?_
  refine i_then ?_
  refine t_ret ?_
  refine i_rp1 rfl rfl ?_
  all_goals skip
  exact ret_eq rfl rfl (congrArg Ty.bool (same_tur t k))
set_option maxRecDepth 100000 in
theorem c_moreS (d : Desk) (hs : d.b.Small) (h6 : d.b.lots.length ≤ 6) (gg : Int) (p : Pl) (R : List (List Tur)) (li : Nat) (J : Nat → World → Tags → Prop) (Jx : World → Tags → Prop) (hJ : ∀ k, Cb (J k)) (hJx : Cb Jx) (hY : Yld Try.prog li (R.map rndEnc) J Jx) (l : List Tur) (lot : Nat) (lz : Int) (hlz : lz = (lot : Int)) (k : Nat) (hlot : lot ≤ d.b.lots.length) (hl : l.length ≤ lot) (hp : roundsW d.b p gg l lot <+: R.drop k) (ih : lot < d.b.lots.length → ∀ (l' : List Tur) (k' : Nat), l'.length ≤ lot + 1 → roundsW d.b p gg l' (lot + 1) <+: R.drop k' → MoreY Try.prog 136 170 (moreCaps d gg p li) [Ty.sl TurE l', Ty.int .i64 (lz + 1)] (J k') (J (k' + (roundsW d.b p gg l' (lot + 1)).length)) Jx) : MoreY Try.prog 136 170 (moreCaps d gg p li) [Ty.sl TurE l, Ty.int .i64 lz] (J (k)) (J (k + (roundsW d.b p gg l lot).length)) Jx := by
  subst hlz
  refine moreY_intro (hJ (k)) Try.func136 rfl (by decide) Try.ntmps136 (by exact Nat.le_of_ble_eq_true rfl) rfl rfl rfl rfl fun w0 Mc g cs0 wf0 z0 hg0 hh0 => ?_
  have hs1 := hs.sizes
  refine t_seq ?_
  refine t_region ?_
  refine asB rfl ?_
  refine r_nil ?_
  refine i_then ?_
  refine t_seq ?_
  refine t_seq ?_
  refine t_region ?_
  refine mvI rfl ?_
  refine r_load_pp rfl rfl rfl rfl ?_
  refine r_nilCheck_pe rfl ?_
  refine r_field_pe rfl rfl rfl rfl rfl (by decide) ?_
  refine r_field_pe rfl rfl rfl rfl rfl (by decide) ?_
  refine r_load_pe rfl rfl rfl rfl ?_
  refine r_len rfl rfl rfl ?_
  refine r_bin rfl rfl rfl ?_
  refine mvB rfl ?_
  apply r_guard (s := 19) rfl rfl rfl
  · intro hg; apply opT_of; (refine mvS rfl ?_); refine r_nil ?_; exact rfl
  · exact rfl
  · exact rfl
  apply r_guard (s := 19) rfl rfl rfl
  · intro hg; apply opT_strip (s := 20) rfl (by (rw [hg]; rfl)); apply opT_of; (refine r_len rfl rfl rfl ?_); refine r_nil ?_; exact rfl
  · exact rfl
  · exact rfl
  apply r_guard (s := 19) rfl rfl rfl
  · intro hg; apply opT_of; (refine r_load_pp rfl rfl rfl rfl ?_); refine r_nil ?_; exact rfl
  · exact rfl
  · exact rfl
  apply r_guard (s := 19) rfl rfl rfl
  · intro hg; apply opT_strip (s := 21) rfl (by (rw [hg]; rfl)); apply opT_strip (s := 22) rfl (by (rw [hg]; rfl)); apply opT_of; (refine r_bin rfl rfl rfl ?_); refine r_nil ?_; exact rfl
  · exact rfl
  · exact rfl
  refine r_or rfl rfl ?_
  refine r_nil ?_
  refine i_then ?_
  refine t_cond rfl (fun hc1 => ?_) (fun hc1 => ?_)
  ·
    refine t_seq ?_
    refine t_region ?_
    refine r_load_pp rfl rfl rfl rfl ?_
    refine mvS rfl ?_
    refine r_yieldY hJ hJx hY rfl rfl rfl rfl rfl (rnd_get (by have h := hp; rw [rounds_end (hc1)] at h; exact h)) rfl ?_
    refine r_assign (ty := Ty.yb true (hJ (k + 1)) hJx) rfl ?_
    refine r_nil ?_
    refine i_then ?_
    refine t_ret ?_
    refine i_then_ret ?_
    exact i_retY (h1 := hJ _) (hx := hJx) z0 wf0 hh0 rfl rfl rfl rfl (Ty.sub_yb (h1 := hJ (k + 1)) (congrArg J (by rw [rounds_end hc1]; rfl)))
  ·
    refine t_skip ?_
    refine i_then ?_
    refine t_seq ?_
    refine t_seq ?_
    obtain ⟨hne1, hne2⟩ := not_end (b := d.b) (l := l) (lot := lot) (g := gg) (hc1) hlot
    refine t_region ?_
    refine r_load_pp rfl rfl rfl rfl ?_
    refine r_nilCheck_pe rfl ?_
    refine r_field_pe rfl rfl rfl rfl rfl (by decide) ?_
    refine r_field_pe rfl rfl rfl rfl rfl (by decide) ?_
    refine r_load_pe rfl rfl rfl rfl ?_
    refine r_len rfl rfl rfl ?_
    refine mvI rfl ?_
    refine r_nil ?_
    refine i_then ?_
    refine t_block ?_
    refine t_loop (fun (q : {q : Nat // q ≤ d.b.sizes.length}) => live [(0, Ty.sl TurE l), (1, Ty.int .i64 (lot : Nat)), (2, Ty.pp [Ty.pe DeskE d 0]), (3, Ty.pp [Ty.int .i64 gg]), (4, Ty.pp [Ty.ex (yv li)]), (5, Ty.pp (plT p)), (6, Ty.ptr 1000 0), (33, Ty.int .i64 d.b.sizes.length), (34, Ty.int .i64 (q.1 : Nat))] [(7000, Cont.ck (hJ (k + (roundUp d.b p gg l lot q.1).length))), (1000, Cont.cells 170 [Ty.ex (.func (.func 136) #[] (cs0 ++ [gp g]).toArray)]), (1001, Cont.me g 170 (.func (.func 136) #[] (cs0 ++ [gp g]).toArray) (moreCaps d gg p li) cs0 rfl rfl), (5000, Cont.snap w0 (oldB Mc g))]) (fun q => d.b.sizes.length - q.1) (⟨0, by omega⟩) ?_ fun q => ?_
    · (refine Ent.mk' ?_ ?_ <;> (repeat' (first | exact allSub_zero | exact allTags_nil | refine allSub_succ' ?_ (Ty.sub_any _) | refine allSub_succ' ?_ (Ty.sub_refl _) | refine allTags_cons rfl (Cont.sub_refl _) ?_)))
    ·
      refine t_seq ?_
      refine t_region ?_
      refine r_bin rfl rfl rfl ?_
      refine r_nil ?_
      refine i_then ?_
      refine t_seq ?_
      refine t_cond_dec rfl (fun hc2 => ?_) (fun hc2 => ?_)
      ·
        refine t_skip ?_
        refine i_then ?_
        refine t_seq ?_
        refine t_block ?_
        refine t_seq ?_
        refine t_region ?_
        refine mvI rfl ?_
        refine r_alloc rfl (by exact List.cons_ne_nil _ _) rfl ?_
        refine r_store1 rfl rfl (by decide) rfl rfl (by exact (rfl : _ = Ty.int _ _)) rfl (by exact Nat.le_of_ble_eq_true rfl) rfl rfl (by exact (rfl : _ = [_])) ?_
        refine r_nil ?_
        refine i_then ?_
        refine t_seq ?_
        refine t_seq ?_
        refine t_pub (tg := 11) [(10, Ty.pp [Ty.int .i64 (q.1 : Nat)])] (by decide) rfl ⟨pub_ptr (T := 3) (tg := 11) (off := 0) (l := [Ty.int .i64 (q.1 : Nat)]) rfl rfl rfl (by decide), trivial⟩ ?_
        refine t_draw mixed rfl ?_
        refine r_load_pp rfl rfl rfl rfl ?_
        refine r_load_ppN rfl rfl rfl (by exact Nat.le_of_ble_eq_true rfl) ?_
        refine r_load_pp rfl rfl rfl rfl ?_
        refine r_call (c_taken d h6 p (q.1 : Nat)) rfl rfl rfl rfl rfl ?_
        refine mvB rfl ?_
        apply r_guard (s := 41) rfl rfl rfl
        · intro hg; apply opT_of; (refine r_load_pp rfl rfl rfl rfl ?_); refine r_nil ?_; exact rfl
        · exact rfl
        · exact rfl
        apply r_guard (s := 41) rfl rfl rfl
        · intro hg; apply opT_strip (s := 42) rfl (by (rw [hg]; rfl)); apply opT_of; (refine r_nilCheck_pe rfl ?_); refine r_nil ?_; exact rfl
        · exact rfl
        · exact rfl
        apply r_guard (s := 41) rfl rfl rfl
        · intro hg; apply opT_strip (s := 43) rfl (by (rw [hg]; rfl)); apply opT_of; (refine r_field_pe rfl rfl rfl rfl rfl (by decide) ?_); refine r_nil ?_; exact rfl
        · exact rfl
        · exact rfl
        apply r_guard (s := 41) rfl rfl rfl
        · intro hg; apply opT_strip (s := 44) rfl (by (rw [hg]; rfl)); apply opT_of; (refine r_load_peN rfl rfl rfl rfl rfl ?_); refine r_nil ?_; exact rfl
        · exact rfl
        · exact rfl
        apply r_guard (s := 41) rfl rfl rfl
        · intro hg; apply opT_of; (refine r_load_pp rfl rfl rfl rfl ?_); refine r_nil ?_; exact rfl
        · exact rfl
        · exact rfl
        apply r_guard (s := 41) rfl rfl rfl
        · intro hg; apply opT_of; (refine mvI rfl ?_); refine r_nil ?_; exact rfl
        · exact rfl
        · exact rfl
        apply r_guard (s := 41) rfl rfl rfl
        · intro hg; apply opT_strip (s := 45) rfl (by (rw [hg]; rfl)); apply opT_strip (s := 46) rfl (by (rw [hg]; rfl)); apply opT_strip (s := 47) rfl (by (rw [hg]; rfl)); apply opT_of; (refine r_call (c_holds d.b (q.1 : Nat) (lot : Nat) ⟨by omega, by omega⟩ ⟨by omega, by omega⟩) rfl rfl rfl rfl rfl ?_); refine r_nil ?_; exact rfl
        · exact rfl
        · exact rfl
        apply r_guard (s := 41) rfl rfl rfl
        · intro hg; apply opT_strip (s := 48) rfl (by (rw [hg]; rfl)); apply opT_of; (refine r_not rfl ?_); refine r_nil ?_; exact rfl
        · exact rfl
        · exact rfl
        refine r_or rfl rfl ?_
        refine mvB rfl ?_
        apply r_guard (s := 51) rfl rfl rfl
        · intro hg; apply opT_of; (refine mvS rfl ?_); refine r_nil ?_; exact rfl
        · exact rfl
        · exact rfl
        apply r_guard (s := 51) rfl rfl rfl
        · intro hg; apply opT_of; (refine r_makeFunc rfl ?_); refine r_nil ?_; exact rfl
        · exact rfl
        · exact rfl
        apply r_guard (s := 51) rfl rfl rfl
        · intro hg; apply opT_strip (s := 52) rfl (by (rw [hg]; rfl)); apply opT_strip (s := 53) rfl (by (rw [hg]; rfl)); apply opT_of; (refine r_call (c_ContainsFunc_tur l (Ty.clo 139 [Ty.pp [Ty.int .i64 (q.1 : Nat)]]) rfl (fun t => decide (t.aim = ((q.1 : Nat) : Int))) rfl rfl fun x _ => cal_clo (c_more1 x (q.1 : Nat)) rfl rfl rfl rfl rfl rfl) rfl rfl rfl rfl rfl ?_); refine r_nil ?_; exact rfl
        · exact rfl
        · exact rfl
        refine r_or rfl rfl ?_
        refine r_nil ?_
        refine ⟨by kernel_rfl, ?_⟩
        refine i_then ?_
        refine t_cond rfl (fun hc3 => ?_) (fun hc3 => ?_)
        ·
          refine t_exit ?_
          refine i_then_exit ?_
          refine i_block_exit rfl ?_
          refine i_then ?_
          refine t_region ?_
          refine r_add rfl rfl (by omega) (by omega) ?_
          refine mvI rfl ?_
          refine r_nil ?_
          refine i_round (⟨q.1 + 1, by omega⟩) ?_ (by show d.b.sizes.length - (q.1 + 1) < d.b.sizes.length - q.1; omega)
          (refine Ent.mk' ?_ ?_ <;> (repeat' (first | exact allSub_zero | exact allTags_nil | refine allSub_succ' ?_ (Ty.sub_any _) | refine allSub_succ' ?_ (Ty.sub_refl _) | refine allTags_cons rfl (Cont.sub_refl _) ?_ | refine allTags_cons rfl ?_ ?_)))
          all_goals skip
          all_goals exact Cont.sub_ck hJ (by rw [roundUp_succ, roundK_no hc3, List.append_nil])
        ·
          refine t_skip ?_
          refine i_then ?_
          refine t_seq ?_
          have hsk : skipR d.b p l q.1 lot = false := hc3
          have hpk := pre_round (n := q.1) hne1 hne2 hp (by omega)
          rw [roundK_yes hsk] at hpk
          refine t_draw mixed rfl ?_
          refine r_load_ptr rfl rfl (by decide) rfl rfl rfl ?_
          refine mvS rfl ?_
          refine r_callG [(59, 6)] [59] [] (k_Clone_tur l (by omega)) rfl rfl (by repeat (first | exact cv_nil | refine cv_cons ?_ ?_ | exact cv_pub rfl rfl)) pre_nil post_nil (cv_row (by exact List.mem_cons_self)) ?_
          refine mvI rfl ?_
          refine r_load_pp rfl rfl rfl rfl ?_
          refine r_build rfl rfl (by exact List.cons_ne_nil _ _) rfl (by repeat (first | exact (Parts.nil : Parts _ _ [] _) | (show Parts _ _ ((_, _) :: _) _; apply Parts.one; (· exact (rfl : _ = Ty.int _ _)); (· exact rfl)))) (by exact (rfl : _ = some [_, _])) ?_
          refine r_buildSlice (E := TurE) (xs := [⟨(lot : Int), (q.1 : Nat)⟩]) rfl rfl rfl rfl rfl (by decide) (by decide) (by repeat (first | exact (Parts.nil : Parts _ _ [] _) | (show Parts _ _ ((_, _) :: _) _; apply Parts.agg; (· exact (rfl : _ = Ty.agg _))))) (by exact rfl) rfl ?_
          refine r_append rfl rfl (by decide) rfl rfl rfl rfl rfl rfl (by decide) (by (simp <;> omega)) (by (simp <;> omega)) ?_
          refine mvI rfl ?_
          refine r_add rfl rfl (by omega) (by omega) ?_
          refine r_callY [59] (hJ (k + (roundUp d.b p gg l lot q.1).length)) (hJ _) hJx (ih hne1 (l ++ [⟨(lot : Int), (q.1 : Nat)⟩]) (k + (roundUp d.b p gg l lot q.1).length) (by simp; omega) hpk) rfl rfl (by repeat (first | exact lends_nil | refine lends_cons (lend_pub rfl rfl) ?_ | refine lends_cons (lend_row rfl) ?_)) rfl rfl rfl rfl (fun u hu => by rw [List.mem_singleton.1 hu]; exact ⟨by decide, by simp⟩) rfl rfl ?_
          refine r_notY (h1 := hJ _) (hx := hJx) rfl ?_
          refine r_nil ?_
          refine ⟨by kernel_rfl, ?_⟩
          refine i_then ?_
          refine t_condY (h1 := hJ _) (hx := hJx) rfl ?_ ?_
          ·
            refine t_seq ?_
            refine t_region ?_
            refine asB rfl ?_
            refine r_nil ?_
            refine i_then ?_
            refine t_ret ?_
            refine i_block_ret ?_
            refine i_then_ret ?_
            refine i_then_ret ?_
            refine i_block_ret ?_
            refine i_then_ret ?_
            exact i_retYx (hx := hJx) z0 wf0 hh0 rfl rfl rfl rfl rfl rfl
          ·
            refine t_skip ?_
            refine i_block ?_
            refine i_then ?_
            refine t_region ?_
            refine r_add rfl rfl (by omega) (by omega) ?_
            refine mvI rfl ?_
            refine r_nil ?_
            refine i_round (⟨q.1 + 1, by omega⟩) ?_ (by show d.b.sizes.length - (q.1 + 1) < d.b.sizes.length - q.1; omega)
            (refine Ent.mk' ?_ ?_ <;> (repeat' (first | exact allSub_zero | exact allTags_nil | refine allSub_succ' ?_ (Ty.sub_any _) | refine allSub_succ' ?_ (Ty.sub_refl _) | refine allTags_cons rfl (Cont.sub_refl _) ?_ | refine allTags_cons rfl ?_ ?_)))
            all_goals skip
            all_goals exact Cont.sub_ck hJ (by rw [roundUp_succ, roundK_yes hsk, List.length_append]; omega)
      ·
        refine t_exit ?_
        refine i_then_exit ?_
        refine i_then_exit ?_
        refine i_block_exit rfl ?_
        refine i_then ?_
        refine t_seq ?_
        refine t_region ?_
        refine r_load_ptr rfl rfl (by decide) rfl rfl rfl ?_
        refine mvS rfl ?_
        refine mvI rfl ?_
        refine r_add rfl rfl (by omega) (by omega) ?_
        refine r_callY [] (hJ (k + (roundUp d.b p gg l lot q.1).length)) (hJ _) hJx (ih hne1 l (k + (roundUp d.b p gg l lot q.1).length) (by omega) (by rw [show q.1 = d.b.sizes.length by have := q.2; omega]; exact pre_last hne1 hne2 hp)) rfl rfl (by repeat (first | exact lends_nil | refine lends_cons (lend_pub rfl rfl) ?_)) rfl rfl rfl rfl (fun u hu => by cases hu) rfl rfl ?_
        refine r_assign (ty := Ty.yb true (hJ _) hJx) rfl ?_
        refine r_nil ?_
        refine i_then ?_
        refine t_ret ?_
        exact i_retY (h1 := hJ _) (hx := hJx) z0 wf0 hh0 rfl rfl rfl rfl (Ty.sub_yb (h1 := hJ (k + (roundUp d.b p gg l lot q.1).length + (roundsW d.b p gg l (lot + 1)).length)) (congrArg J (by rw [rounds_on hne1 hne2, List.length_append, show q.1 = d.b.sizes.length by have := q.2; omega]; omega)))
theorem c_more (d : Desk) (hs : d.b.Small) (h6 : d.b.lots.length ≤ 6) (gg : Int) (p : Pl) (R : List (List Tur)) (li : Nat) (J : Nat → World → Tags → Prop) (Jx : World → Tags → Prop) (hJ : ∀ k, Cb (J k)) (hJx : Cb Jx) (hY : Yld Try.prog li (R.map rndEnc) J Jx) : ∀ (m lot : Nat) (lz : Int) (l : List Tur) (k : Nat), lot + m = d.b.lots.length → lz = (lot : Int) → l.length ≤ lot → roundsW d.b p gg l lot <+: R.drop k →
    MoreY Try.prog 136 170 (moreCaps d gg p li) [Ty.sl TurE l, Ty.int .i64 lz] (J k) (J (k + (roundsW d.b p gg l lot).length)) Jx
  | 0, lot, lz, l, k, hm, hlz, hl, hp => c_moreS d hs h6 gg p R li J Jx hJ hJx hY l lot lz hlz k (by omega) hl hp (fun h => by omega)
  | m + 1, lot, lz, l, k, hm, hlz, hl, hp => c_moreS d hs h6 gg p R li J Jx hJ hJx hY l lot lz hlz k (by omega) hl hp (fun _ l' k' hl' hp' => c_more d hs h6 gg p R li J Jx hJ hJx hY m (lot + 1) (lz + 1) l' k' (by omega) (by omega) hl' hp')
set_option maxRecDepth 100000 in
theorem c_rounds1 (d : Desk) (hs : d.b.Small) (h6 : d.b.lots.length ≤ 6) (gg : Int) (p : Pl) : CtrI Try.prog 135 (fun l => [Ty.ex (yv l), Ty.pp [Ty.pe DeskE d 0], Ty.pp [Ty.int .i64 gg], Ty.pp (plT p)]) ((allR d.b p gg).map rndEnc) (Ty.tup []) (Ty.tup []) := by
  refine fnYI_intro Try.func135 rfl (by decide) Try.ntmps135 (fun _ => by exact Nat.le_of_ble_eq_true rfl) (fun _ => ⟨rfl, rfl⟩) fun l J Jx hJ hJx hY w0 M0 => ?_
  refine t_seq ?_
  refine t_region ?_
  refine r_box_one (by exact (rfl : _ = Ty.ex _)) rfl ?_
  refine r_nil ?_
  refine i_then ?_
  refine t_seq ?_
  refine t_region ?_
  refine r_alloc rfl (by exact List.cons_ne_nil _ _) rfl ?_
  refine r_nil ?_
  refine i_then ?_
  refine t_seq ?_
  refine t_region ?_
  refine r_makeFunc rfl ?_
  refine r_store1 rfl rfl (by decide) rfl rfl (by exact (rfl : _ = Ty.clo _ _)) rfl (by exact Nat.le_of_ble_eq_true rfl) rfl rfl (by exact (rfl : _ = [_])) ?_
  refine r_nil ?_
  refine i_then ?_
  refine t_region ?_
  refine r_load_ptr rfl rfl (by decide) rfl rfl rfl ?_
  refine r_callY0 (tg := 6) (hJ 0) (hJ _) hJx (c_more d hs h6 gg p (allR d.b p gg) l J Jx hJ hJx hY d.b.lots.length 0 0 [] 0 (by omega) rfl (Nat.le_refl _) (List.prefix_rfl)) rfl rfl rfl rfl (by repeat (first | exact lends_nil | refine lends_cons (lend_pub rfl rfl) ?_ | refine lends_cons lend_nil ?_)) rfl rfl rfl (by decide) rfl ?_
  refine r_nil ?_
  exact i_retYI (h1 := hJ _) (hx := hJx) rfl (s := 8) rfl (by rw [List.length_map, Nat.zero_add]; rfl)
set_option maxRecDepth 100000 in
theorem c_rounds (d : Desk) (p : Pl) (gg : Int) : Ctr Try.prog 112 [Ty.pe DeskE d 0, Ty.agg (plT p), Ty.int .i64 gg] (Ty.clo 135 [Ty.pp [Ty.pe DeskE d 0], Ty.pp [Ty.int .i64 gg], Ty.pp (plT p)]) := by
  refine fn_intro Try.func112 rfl (by decide) Try.ntmps112 (by exact Nat.le_of_ble_eq_true rfl) fun w0 M0 => ?_
  refine t_seq ?_
  refine t_region ?_
  refine r_box_one (by exact (rfl : _ = Ty.pe _ _ _)) rfl ?_
  refine r_box_agg rfl ?_
  refine r_box_one (by exact (rfl : _ = Ty.int _ _)) rfl ?_
  refine asX rfl ?_
  refine r_nil ?_
  refine i_then ?_
  refine t_seq ?_
  refine t_region ?_
  refine r_makeFunc rfl ?_
  refine asF rfl ?_
  refine r_nil ?_
  refine i_then ?_
  refine t_ret ?_
  refine i_rp1 rfl rfl ?_
  all_goals exact ret_refl rfl rfl
  skip
end Go.Proofs.Ytpnndljmhpepgaa

namespace Go.Proofs.Ytpnndljmhpepgaa
open Go Go.T
def OkT (b : Barn) (p : Pl) (t : Tur) : Prop := (0 ≤ t.lot ∧ t.lot < b.lots.length) ∧ (0 ≤ t.aim ∧ t.aim < b.sizes.length) ∧ takenP b p t.aim = false ∧ b.hold t.aim t.lot = true
structure RoundOk (b : Barn) (p : Pl) (g : Int) (l : List Tur) : Prop where
  len : (l.length : Int) ≤ g
  ok : ∀ t ∈ l, OkT b p t
  apart : l.Pairwise fun s t => s.lot < t.lot ∧ s.aim ≠ t.aim
theorem skip_no {b : Barn} {p : Pl} {l : List Tur} {k lot : Nat} : skipR b p l k lot = false ↔ (takenP b p k = false ∧ b.hold k lot = true) ∧ ∀ t ∈ l, t.aim ≠ (k : Int) := by
  unfold skipR
  simp only [Bool.or_eq_false_iff, Bool.not_eq_false', List.any_eq_false, decide_eq_true_eq]
theorem mem_rounds {b : Barn} {p : Pl} {g : Int} : ∀ (m lot : Nat) (l0 l : List Tur), lot + m = b.lots.length → RoundOk b p g l0 → (∀ t ∈ l0, t.lot < lot) →
    (l ∈ roundsW b p g l0 lot ↔ ∃ r, l = l0 ++ r ∧ RoundOk b p g l ∧ ∀ t ∈ r, (lot : Int) ≤ t.lot)
  | 0, lot, l0, l, hm, h0, hl0 => by
    rw [rounds_end (by rw [decide_eq_true (show (lot : Int) = b.lots.length by omega)]; rfl), List.mem_singleton]
    constructor
    · rintro rfl; exact ⟨[], (List.append_nil _).symm, h0, fun t h => by cases h⟩
    · rintro ⟨r, rfl, h1, h2⟩
      cases r with
      | nil => exact List.append_nil _
      | cons t r =>
        have := h1.ok t (List.mem_append.2 (.inr List.mem_cons_self))
        have := h2 t List.mem_cons_self
        have := this; have := ‹OkT b p t›.1; omega
  | m + 1, lot, l0, l, hm, h0, hl0 => by
    by_cases hg : (l0.length : Int) = g
    · rw [rounds_end (by rw [decide_eq_true hg, Bool.or_true]), List.mem_singleton]
      constructor
      · rintro rfl; exact ⟨[], (List.append_nil _).symm, h0, fun t h => by cases h⟩
      · rintro ⟨r, rfl, h1, h2⟩
        have := h1.len
        rw [List.length_append] at this
        have : r = [] := List.length_eq_zero_iff.1 (by omega)
        rw [this, List.append_nil]
    · have hlen := h0.len
      rw [rounds_on (by omega) hg, List.mem_append, mem_rounds m (lot + 1) l0 l (by omega) h0 (fun t ht => by have := hl0 t ht; omega)]
      unfold roundUp
      rw [List.mem_flatMap]
      constructor
      · rintro (⟨k, hk, h⟩ | ⟨r, h1, h2, h3⟩)
        · rw [List.mem_range] at hk
          cases hs : skipR b p l0 k lot with
          | true => rw [roundK_no hs] at h; cases h
          | false =>
            rw [roundK_yes hs] at h
            obtain ⟨⟨e1, e2⟩, e3⟩ := skip_no.1 hs
            have hok : RoundOk b p g (l0 ++ [⟨lot, k⟩]) := by
              refine ⟨by rw [List.length_append]; simp; omega, fun t ht => ?_, ?_⟩
              · rcases List.mem_append.1 ht with ht | ht
                · exact h0.ok t ht
                · rw [List.mem_singleton.1 ht]
                  exact ⟨⟨by show 0 ≤ (lot : Int); omega, by show (lot : Int) < _; omega⟩, ⟨by show 0 ≤ (k : Int); omega, by show (k : Int) < _; omega⟩, e1, e2⟩
              · rw [List.pairwise_append]
                refine ⟨h0.apart, List.pairwise_singleton _ _, fun s hs t ht => ?_⟩
                rw [List.mem_singleton.1 ht]
                exact ⟨hl0 s hs, e3 s hs⟩
            obtain ⟨r, f1, f2, f3⟩ := (mem_rounds m (lot + 1) (l0 ++ [⟨lot, k⟩]) l (by omega) hok (fun t ht => by
              rcases List.mem_append.1 ht with ht | ht
              · have := hl0 t ht; omega
              · rw [List.mem_singleton.1 ht]; show (lot : Int) < _; omega)).1 h
            refine ⟨⟨lot, k⟩ :: r, by rw [f1, List.append_assoc]; rfl, f2, fun t ht => ?_⟩
            rcases List.mem_cons.1 ht with rfl | ht
            · exact Int.le_refl _
            · have := f3 t ht; omega
        · exact ⟨r, h1, h2, fun t ht => by have := h3 t ht; omega⟩
      · rintro ⟨r, h1, h2, h3⟩
        cases r with
        | nil => exact .inr ⟨[], h1, h2, fun t ht => by cases ht⟩
        | cons t r =>
          subst h1
          have ht := h2.ok t (List.mem_append.2 (.inr List.mem_cons_self))
          have hge := h3 t List.mem_cons_self
          have hap := h2.apart
          rw [List.pairwise_append, List.pairwise_cons] at hap
          obtain ⟨a1, ⟨a2, a3⟩, a4⟩ := hap
          by_cases e : t.lot = lot
          · refine .inl ⟨t.aim.toNat, List.mem_range.2 (by have := ht.2.1; omega), ?_⟩
            have ek : ((t.aim.toNat : Nat) : Int) = t.aim := by have := ht.2.1; omega
            have ee : (⟨(lot : Int), ((t.aim.toNat : Nat) : Int)⟩ : Tur) = t := by cases t; simp only [Tur.mk.injEq] at *; exact ⟨e.symm, ek⟩
            have hs : skipR b p l0 t.aim.toNat lot = false := skip_no.2 ⟨⟨by rw [ek]; exact ht.2.2.1, by rw [ek, ← e]; exact ht.2.2.2⟩, fun s hs => by rw [ek]; exact (a4 s hs t List.mem_cons_self).2⟩
            rw [roundK_yes hs, ee]
            have hok : RoundOk b p g (l0 ++ [t]) := by
              refine ⟨by have := h2.len; rw [List.length_append, List.length_cons] at this; rw [List.length_append]; simp; omega, fun s hs => h2.ok s ?_, ?_⟩
              · rcases List.mem_append.1 hs with hs | hs
                · exact List.mem_append.2 (.inl hs)
                · exact List.mem_append.2 (.inr (by rw [List.mem_singleton.1 hs]; exact List.mem_cons_self))
              · rw [List.pairwise_append]
                exact ⟨h0.apart, List.pairwise_singleton _ _, fun s hs u hu => by rw [List.mem_singleton.1 hu]; exact a4 s hs t List.mem_cons_self⟩
            refine (mem_rounds m (lot + 1) (l0 ++ [t]) _ (by omega) hok (fun s hs => ?_)).2 ⟨r, by rw [List.append_assoc]; rfl, h2, fun s hs => ?_⟩
            · rcases List.mem_append.1 hs with hs | hs
              · have := hl0 s hs; omega
              · rw [List.mem_singleton.1 hs, e]; omega
            · have := (a2 s hs).1; omega
          · refine .inr ⟨t :: r, rfl, h2, fun s hs => ?_⟩
            rcases List.mem_cons.1 hs with rfl | hs
            · omega
            · have := (a2 s hs).1; omega
theorem mem_allR {b : Barn} {p : Pl} {g : Int} (hg : 0 ≤ g) {l : List Tur} : l ∈ allR b p g ↔ RoundOk b p g l := by
  unfold allR
  rw [mem_rounds b.lots.length 0 [] l (by omega) ⟨by simp; exact hg, (fun t h => by cases h), List.Pairwise.nil⟩ (fun t h => by cases h)]
  constructor
  · rintro ⟨r, _, h, _⟩; exact h
  · intro h; exact ⟨l, rfl, h, fun t ht => by have := (h.ok t ht).1.1; omega⟩
def movedAll (p : Pl) (l : List Tur) : Pl := l.foldl moved p
theorem movedAll_snoc (p : Pl) (l : List Tur) (t : Tur) : movedAll p (l ++ [t]) = moved (movedAll p l) t := by unfold movedAll; rw [List.foldl_append]; rfl
theorem moved_nth {p : Pl} {t : Tur} {i : Nat} (h : i < 6) : nth (moved p t).1 i = if t.lot.toNat = i then t.aim else nth p.1 i := nthA_set (by rw [p.2]; exact h)
theorem all_nth {b : Barn} {p : Pl} {g : Int} : ∀ (l : List Tur), RoundOk b p g l → ∀ i, i < 6 → nth (movedAll p l).1 i = nth p.1 i ∨ ∃ t ∈ l, nth (movedAll p l).1 i = t.aim := by
  refine snoc_ind (fun _ i _ => .inl rfl) fun l t ih h i hi => ?_
  rw [movedAll_snoc, moved_nth hi]
  by_cases e : t.lot.toNat = i
  · rw [if_pos e]; exact .inr ⟨t, List.mem_append.2 (.inr (List.mem_singleton.2 rfl)), rfl⟩
  · rw [if_neg e]
    have hl : RoundOk b p g l := ⟨by have := h.len; rw [List.length_append] at this; simp at this; omega, fun s hs => h.ok s (List.mem_append.2 (.inl hs)), (List.pairwise_append.1 h.apart).1⟩
    rcases ih hl i hi with h1 | ⟨s, hs, h1⟩
    · exact .inl h1
    · exact .inr ⟨s, List.mem_append.2 (.inl hs), h1⟩
theorem round_go {b : Barn} {p : Pl} {g : Int} (h6 : b.lots.length ≤ 6) : ∀ (l : List Tur), RoundOk b p g l → goP b p l = some (movedAll p l) := by
  refine snoc_ind (fun _ => rfl) fun l t ih h => ?_
  have hl : RoundOk b p g l := ⟨by have := h.len; rw [List.length_append] at this; simp at this; omega, fun s hs => h.ok s (List.mem_append.2 (.inl hs)), (List.pairwise_append.1 h.apart).1⟩
  have ht := h.ok t (List.mem_append.2 (.inr (List.mem_singleton.2 rfl)))
  have hap := (List.pairwise_append.1 h.apart).2.2
  rw [movedAll_snoc]
  refine goP_snoc (ih hl) (mem_turnsL.2 ⟨ht.1.1, ht.1.2, ht.2.1.1, ht.2.1.2, ?_, ht.2.2.2⟩)
  rw [Bool.eq_false_iff]
  intro hc
  obtain ⟨i, hi, e⟩ := (taken_iff h6).1 hc
  rcases all_nth l hl i (by omega) with h1 | ⟨s, hs, h1⟩
  · have := (taken_iff h6).2 ⟨i, hi, h1.symm.trans e⟩
    rw [ht.2.2.1] at this; cases this
  · exact (hap s hs t (List.mem_singleton.2 rfl)).2 (h1.symm.trans e)
def goR (b : Barn) (g : Int) : Pl → List (List Tur) → Option Pl
  | p, [] => some p
  | p, l :: rs => if l ∈ allR b p g then goR b g (movedAll p l) rs else none
theorem goR_append (b : Barn) (g : Int) : ∀ (rs : List (List Tur)) (p : Pl) (rs' : List (List Tur)), goR b g p (rs ++ rs') = (goR b g p rs).bind fun q => goR b g q rs'
  | [], p, rs' => rfl
  | l :: rs, p, rs' => by
    show (if l ∈ allR b p g then goR b g (movedAll p l) (rs ++ rs') else none) = Option.bind (if l ∈ allR b p g then goR b g (movedAll p l) rs else none) _
    by_cases h : l ∈ allR b p g
    · rw [if_pos h, if_pos h, goR_append b g rs (movedAll p l) rs']
    · rw [if_neg h, if_neg h]; rfl
theorem goR_one {b : Barn} {g : Int} {p : Pl} {l : List Tur} (h : l ∈ allR b p g) : goR b g p [l] = some (movedAll p l) := if_pos h
theorem goR_snoc {b : Barn} {g : Int} {p q : Pl} {rs : List (List Tur)} {l : List Tur} (h1 : goR b g p rs = some q) (h2 : l ∈ allR b q g) : goR b g p (rs ++ [l]) = some (movedAll q l) := by
  rw [goR_append, h1]; exact goR_one h2
theorem goR_snoc_inv {b : Barn} {g : Int} {p r : Pl} {rs : List (List Tur)} {l : List Tur} (h : goR b g p (rs ++ [l]) = some r) : ∃ q, goR b g p rs = some q ∧ l ∈ allR b q g ∧ r = movedAll q l := by
  rw [goR_append] at h
  cases h1 : goR b g p rs with
  | none => rw [h1] at h; cases h
  | some q =>
    rw [h1] at h
    have h : (if l ∈ allR b q g then some (movedAll q l) else none) = some r := h
    by_cases h2 : l ∈ allR b q g
    · rw [if_pos h2] at h; injection h with h; exact ⟨q, rfl, h2, h.symm⟩
    · rw [if_neg h2] at h; cases h
structure RSt where
  ways : List (Pl × Way)
  queue : List Pl
def relaxR (p : Pl) (x : RSt) (l : List Tur) : RSt := if (mget x.ways (movedAll p l)).isSome = true then x else ⟨mput x.ways (movedAll p l) ⟨p, l, 0⟩, x.queue ++ [movedAll p l]⟩
theorem relaxR_yes {p : Pl} {x : RSt} {l : List Tur} (h : (mget x.ways (movedAll p l)).isSome = true) : relaxR p x l = x := if_pos h
theorem relaxR_no {p : Pl} {x : RSt} {l : List Tur} (h : (mget x.ways (movedAll p l)).isSome = false) : relaxR p x l = ⟨mput x.ways (movedAll p l) ⟨p, l, 0⟩, x.queue ++ [movedAll p l]⟩ := if_neg (by rw [h]; decide)
structure RInv (b : Barn) (g : Int) (dep : Pl → Nat) (D : Nat) (cur : Option (Pl × List (List Tur))) (x : RSt) : Prop where
  start : mget x.ways (firstP b) = some way0
  dep0 : dep (firstP b) = 0
  keys : (x.ways.map Prod.fst).Nodup
  via : ∀ q w, mget x.ways q = some w → q = firstP b ∨ (w.byT ∈ allR b w.frm g ∧ q = movedAll w.frm w.byT ∧ (∃ w', mget x.ways w.frm = some w') ∧ dep q = dep w.frm + 1)
  depl : ∀ q w, mget x.ways q = some w → dep q < x.ways.length
  bins : ∀ q w, mget x.ways q = some w → inBins q
  qin : ∀ q ∈ x.queue, (∃ w, mget x.ways q = some w) ∧ D ≤ dep q ∧ dep q ≤ D + 1
  srt : x.queue.Pairwise fun s t => dep s ≤ dep t
  old : ∀ q w, mget x.ways q = some w → q ∈ x.queue ∨ (dep q ≤ D ∧ madeP b q = false ∧ ((∃ ls, cur = some (q, ls)) ∨ ∀ l ∈ allR b q g, (∃ w', mget x.ways (movedAll q l) = some w') ∧ dep (movedAll q l) ≤ dep q + 1))
  curs : ∀ p ls, cur = some (p, ls) → (∃ w, mget x.ways p = some w) ∧ dep p = D ∧ ∀ l ∈ ls, (∃ w', mget x.ways (movedAll p l) = some w') ∧ dep (movedAll p l) ≤ dep p + 1
def setDep (dep : Pl → Nat) (q : Pl) (n : Nat) : Pl → Nat := fun r => if r = q then n else dep r
variable {b : Barn} {g : Int} {dep : Pl → Nat} {D : Nat} {x : RSt} {p : Pl}
theorem relaxR_inv (hr : b.Right) (hg : 0 ≤ g) {ls : List (List Tur)} {l : List Tur} (h : RInv b g dep D (some (p, ls)) x) (hl : l ∈ allR b p g) : ∃ dep', RInv b g dep' D (some (p, ls ++ [l])) (relaxR p x l) := by
  obtain ⟨⟨wp, hwp⟩, hpD, hps⟩ := h.curs p ls rfl
  cases hm : (mget x.ways (movedAll p l)).isSome with
  | true =>
    rw [relaxR_yes hm]
    obtain ⟨w0, hw0⟩ := Option.isSome_iff_exists.1 hm
    refine ⟨dep, { h with old := fun q w hq => ?_, curs := fun p' ls' e => ?_ }⟩
    · rcases h.old q w hq with h1 | ⟨h1, h2, h3⟩
      · exact .inl h1
      · refine .inr ⟨h1, h2, ?_⟩
        rcases h3 with ⟨ls', e⟩ | h3
        · injection e with e; injection e with e1 e2; exact .inl ⟨_, by rw [e1]⟩
        · exact .inr h3
    · injection e with e; injection e with e1 e2; subst e1; subst e2
      refine ⟨⟨wp, hwp⟩, hpD, fun l' hl' => ?_⟩
      rcases List.mem_append.1 hl' with hl' | hl'
      · exact hps l' hl'
      · rw [List.mem_singleton.1 hl']
        refine ⟨⟨w0, hw0⟩, ?_⟩
        rcases h.old _ w0 hw0 with h1 | ⟨h1, _⟩
        · have := (h.qin _ h1).2.2; omega
        · omega
  | false =>
    rw [relaxR_no hm]
    have hnone : mget x.ways (movedAll p l) = none := by
      cases e : mget x.ways (movedAll p l) with
      | none => rfl
      | some w => rw [e] at hm; cases hm
    have hne : ∀ r w, mget x.ways r = some w → r ≠ movedAll p l := fun r w hw e => by rw [e, hnone] at hw; cases hw
    have hget : ∀ r, mget (mput x.ways (movedAll p l) ⟨p, l, 0⟩) r = if movedAll p l = r then some ⟨p, l, 0⟩ else mget x.ways r := fun r => mget_mput _ _ _ _
    have hold : ∀ r w, mget x.ways r = some w → mget (mput x.ways (movedAll p l) ⟨p, l, 0⟩) r = some w := fun r w hw => by rw [hget, if_neg (fun e => hne r w hw e.symm)]; exact hw
    have hdep : ∀ r w, mget x.ways r = some w → setDep dep (movedAll p l) (D + 1) r = dep r := fun r w hw => if_neg (hne r w hw)
    have hnew : setDep dep (movedAll p l) (D + 1) (movedAll p l) = D + 1 := if_pos rfl
    have hlen : (mput x.ways (movedAll p l) ⟨p, l, 0⟩).length = x.ways.length + 1 := mput_len _ _ _ hnone
    have split : ∀ r w, mget (mput x.ways (movedAll p l) ⟨p, l, 0⟩) r = some w → (r = movedAll p l ∧ w = ⟨p, l, 0⟩) ∨ mget x.ways r = some w := fun r w hw => by
      rw [hget] at hw
      by_cases e : movedAll p l = r
      · rw [if_pos e] at hw; injection hw with hw; exact .inl ⟨e.symm, hw.symm⟩
      · rw [if_neg e] at hw; exact .inr hw
    refine ⟨setDep dep (movedAll p l) (D + 1), hold _ _ h.start, (hdep _ _ h.start).trans h.dep0, mput_nodup _ _ _ h.keys, fun q w hw => ?_, fun q w hw => ?_, fun q w hw => ?_, fun q hq => ?_, ?_, fun q w hw => ?_, fun p' ls' e => ?_⟩
    · rcases split q w hw with ⟨rfl, rfl⟩ | hw
      · exact .inr ⟨hl, rfl, ⟨wp, hold _ _ hwp⟩, by rw [hnew, hdep _ _ hwp, hpD]⟩
      · rcases h.via q w hw with h1 | ⟨h1, h2, ⟨w', h3⟩, h4⟩
        · exact .inl h1
        · exact .inr ⟨h1, h2, ⟨w', hold _ _ h3⟩, by rw [hdep _ _ hw, hdep _ _ h3]; exact h4⟩
    · rw [hlen]
      rcases split q w hw with ⟨rfl, rfl⟩ | hw
      · have := h.depl p wp hwp; rw [hnew]; omega
      · have := h.depl q w hw; rw [hdep _ _ hw]; omega
    · rcases split q w hw with ⟨rfl, rfl⟩ | hw
      · exact goP_bins hr l (h.bins p wp hwp) (round_go hr.lots l ((mem_allR hg).1 hl))
      · exact h.bins q w hw
    · rcases List.mem_append.1 hq with hq | hq
      · obtain ⟨⟨w, hw⟩, h2⟩ := h.qin q hq
        exact ⟨⟨w, hold _ _ hw⟩, by rw [hdep _ _ hw]; exact h2⟩
      · rw [List.mem_singleton.1 hq, hnew]
        exact ⟨⟨_, by rw [hget, if_pos rfl]⟩, by omega, by omega⟩
    · rw [List.pairwise_append]
      refine ⟨h.srt.imp_of_mem fun {s t} hs ht hst => ?_, List.pairwise_singleton _ _, fun s hs t ht => ?_⟩
      · obtain ⟨⟨ws, h1⟩, _⟩ := h.qin s hs
        obtain ⟨⟨wt, h2⟩, _⟩ := h.qin t ht
        rw [hdep _ _ h1, hdep _ _ h2]; exact hst
      · obtain ⟨⟨ws, h1⟩, _, h2⟩ := h.qin s hs
        rw [List.mem_singleton.1 ht, hnew, hdep _ _ h1]; exact h2
    · rcases split q w hw with ⟨rfl, rfl⟩ | hw
      · exact .inl (List.mem_append.2 (.inr (List.mem_singleton.2 rfl)))
      · rcases h.old q w hw with h1 | ⟨h1, h2, h3⟩
        · exact .inl (List.mem_append.2 (.inl h1))
        · refine .inr ⟨by rw [hdep _ _ hw]; exact h1, h2, ?_⟩
          rcases h3 with ⟨ls', e⟩ | h3
          · injection e with e; injection e with e1 e2; exact .inl ⟨_, by rw [e1]⟩
          · refine .inr fun l' hl' => ?_
            obtain ⟨⟨w', h4⟩, h5⟩ := h3 l' hl'
            exact ⟨⟨w', hold _ _ h4⟩, by rw [hdep _ _ h4, hdep _ _ hw]; exact h5⟩
    · injection e with e; injection e with e1 e2; subst e1; subst e2
      refine ⟨⟨wp, hold _ _ hwp⟩, by rw [hdep _ _ hwp]; exact hpD, fun l' hl' => ?_⟩
      rcases List.mem_append.1 hl' with hl' | hl'
      · obtain ⟨⟨w', h4⟩, h5⟩ := hps l' hl'
        exact ⟨⟨w', hold _ _ h4⟩, by rw [hdep _ _ h4, hdep _ _ hwp]; exact h5⟩
      · rw [List.mem_singleton.1 hl', hnew, hdep _ _ hwp]
        exact ⟨⟨_, by rw [hget, if_pos rfl]⟩, by omega⟩
def foldR (b : Barn) (g : Int) (p : Pl) (z : RSt) (k : Nat) : RSt := ((allR b p g).take k).foldl (relaxR p) z
theorem foldR_succ {z : RSt} {k : Nat} (hk : k < (allR b p g).length) : foldR b g p z (k + 1) = relaxR p (foldR b g p z k) (nth (allR b p g) k) := by
  unfold foldR; rw [take_nth hk, List.foldl_append]; rfl
theorem foldR_inv (hr : b.Right) (hg : 0 ≤ g) {z : RSt} (h : RInv b g dep D (some (p, [])) z) : ∀ k, k ≤ (allR b p g).length → ∃ dep', RInv b g dep' D (some (p, (allR b p g).take k)) (foldR b g p z k)
  | 0, _ => ⟨dep, by rw [List.take_zero]; exact h⟩
  | k + 1, hk => by
    obtain ⟨dep', h1⟩ := foldR_inv hr hg h k (by omega)
    rw [foldR_succ (by omega), take_nth (by omega)]
    exact relaxR_inv hr hg h1 (nth_mem (by omega))
theorem popR_inv {rest : List Pl} (h : RInv b g dep D none x) (hq : x.queue = p :: rest) (hm : madeP b p = false) : RInv b g dep (dep p) (some (p, [])) ⟨x.ways, rest⟩ := by
  have hp := h.qin p (by rw [hq]; exact List.mem_cons_self)
  have hs := h.srt
  rw [hq, List.pairwise_cons] at hs
  refine ⟨h.start, h.dep0, h.keys, h.via, h.depl, h.bins, fun q hq' => ?_, hs.2, fun q w hw => ?_, fun p' ls e => ?_⟩
  · have h1 := h.qin q (by rw [hq]; exact List.mem_cons_of_mem _ hq')
    have := hs.1 q hq'
    exact ⟨h1.1, this, by omega⟩
  · rcases h.old q w hw with h1 | ⟨h1, h2, h3⟩
    · rw [hq] at h1
      rcases List.mem_cons.1 h1 with rfl | h1
      · exact .inr ⟨Nat.le_refl _, hm, .inl ⟨[], rfl⟩⟩
      · exact .inl h1
    · refine .inr ⟨by omega, h2, ?_⟩
      rcases h3 with ⟨ls, e⟩ | h3
      · cases e
      · exact .inr h3
  · injection e with e; injection e with e1 e2; subst e1; subst e2
    exact ⟨hp.1, rfl, fun l hl => by cases hl⟩
theorem doneR_inv (h : RInv b g dep D (some (p, allR b p g)) x) : RInv b g dep D none x :=
  { h with
    old := fun q w hw => by
      rcases h.old q w hw with h1 | ⟨h1, h2, h3⟩
      · exact .inl h1
      · refine .inr ⟨h1, h2, .inr ?_⟩
        rcases h3 with ⟨ls, e⟩ | h3
        · injection e with e; injection e with e1 e2; subst e1
          exact (h.curs p _ rfl).2.2
        · exact h3
    curs := fun _ _ e => by cases e }
def rst0 (b : Barn) : RSt := ⟨[(firstP b, way0)], [firstP b]⟩
theorem rinv0 (hr : b.Right) : RInv b g (fun _ => 0) 0 none (rst0 b) := by
  have key : ∀ q w, mget (rst0 b).ways q = some w → q = firstP b := fun q w h => by
    simp only [rst0, mget] at h
    by_cases e : firstP b = q
    · exact e.symm
    · rw [if_neg e] at h; cases h
  refine ⟨by simp [rst0, mget], rfl, by simp [rst0], fun q w h => .inl (key q w h), fun q w h => by simp [rst0], fun q w h => by rw [key q w h]; exact first_bins hr, fun q hq => ?_, by simp [rst0], fun q w h => .inl (by rw [key q w h]; simp [rst0]), fun _ _ e => by cases e⟩
  rw [List.mem_singleton.1 hq]
  exact ⟨⟨way0, by simp [rst0, mget]⟩, Nat.le_refl _, by omega⟩
def stepR (b : Barn) (g : Int) (x : RSt) : RSt ⊕ Found :=
  match x.queue with
  | [] => .inr ⟨x.ways, pl0, false⟩
  | p :: rest => if madeP b p = true then .inr ⟨x.ways, p, true⟩ else .inl (foldR b g p ⟨x.ways, rest⟩ (allR b p g).length)
def runR (b : Barn) (g : Int) : Nat → RSt → Option Found
  | 0, _ => none
  | n + 1, x => match stepR b g x with
    | .inr f => some f
    | .inl y => runR b g n y
def EndsR (b : Barn) (g : Int) (x : RSt) (f : Found) : Prop := ∃ n, runR b g n x = some f
theorem runR_det : ∀ {n m : Nat} {x : RSt} {f f' : Found}, runR b g n x = some f → runR b g m x = some f' → f = f'
  | 0, _, _, _, _, h, _ => by cases h
  | _, 0, _, _, _, _, h => by cases h
  | n + 1, m + 1, x, f, f', h, h' => by
    unfold runR at h h'
    cases e : stepR b g x with
    | inr y => rw [e] at h h'; injection h with h; injection h' with h'; rw [← h, ← h']
    | inl y => rw [e] at h h'; exact runR_det h h'
theorem EndsR.det {f f' : Found} (h : EndsR b g x f) (h' : EndsR b g x f') : f = f' := let ⟨_, h⟩ := h; let ⟨_, h'⟩ := h'; runR_det h h'
theorem EndsR.step {y : RSt} {f : Found} (e : stepR b g x = .inl y) (h : EndsR b g y f) : EndsR b g x f := by
  obtain ⟨n, h⟩ := h
  exact ⟨n + 1, by unfold runR; rw [e]; exact h⟩
theorem EndsR.stop {f : Found} (e : stepR b g x = .inr f) : EndsR b g x f := ⟨1, by unfold runR; rw [e]⟩
open Classical in
noncomputable def roundsM (b : Barn) (g : Int) : Found := if h : ∃ f, EndsR b g (rst0 b) f then h.choose else default
theorem roundsM_eq {f : Found} (h : EndsR b g (rst0 b) f) : roundsM b g = f := by
  unfold roundsM
  rw [dif_pos ⟨f, h⟩]
  exact (Exists.choose_spec (⟨f, h⟩ : ∃ f, EndsR b g (rst0 b) f)).det h
theorem stepR_end (h : x.queue = []) : stepR b g x = .inr ⟨x.ways, pl0, false⟩ := by unfold stepR; rw [h]
theorem stepR_found {rest : List Pl} (hq : x.queue = p :: rest) (hm : madeP b p = true) : stepR b g x = .inr ⟨x.ways, p, true⟩ := by unfold stepR; rw [hq]; exact if_pos hm
theorem stepR_new {rest : List Pl} (hq : x.queue = p :: rest) (hm : madeP b p = false) : stepR b g x = .inl (foldR b g p ⟨x.ways, rest⟩ (allR b p g).length) := by unfold stepR; rw [hq]; exact if_neg (by rw [hm]; decide)
theorem RInv.few {cur : Option (Pl × List (List Tur))} (h : RInv b g dep D cur x) : x.ways.length ≤ placesN := by
  have := few_places h.keys fun p hp => by
    obtain ⟨w, hw⟩ := mem_mget hp
    exact h.bins p w hw
  rwa [List.length_map] at this
noncomputable def muR (x : RSt) : Nat := (placesN - x.ways.length) * 2 + x.queue.length
theorem foldR_len (z : RSt) : ∀ (l : List (List Tur)), (l.foldl (relaxR p) z).ways.length ≥ z.ways.length ∧ (l.foldl (relaxR p) z).queue.length + z.ways.length ≤ z.queue.length + (l.foldl (relaxR p) z).ways.length := by
  intro l
  induction l generalizing z with
  | nil => exact ⟨Nat.le_refl _, Nat.le_refl _⟩
  | cons t l ih =>
    rw [List.foldl_cons]
    obtain ⟨h1, h2⟩ := ih (relaxR p z t)
    cases hm : (mget z.ways (movedAll p t)).isSome with
    | true => rw [relaxR_yes hm] at h1 h2 ⊢; exact ⟨h1, h2⟩
    | false =>
      have hn : mget z.ways (movedAll p t) = none := by
        cases e : mget z.ways (movedAll p t) with
        | none => rfl
        | some w => rw [e] at hm; cases hm
      rw [relaxR_no hm] at h1 h2 ⊢
      have := mput_len z.ways (movedAll p t) ⟨p, t, 0⟩ hn
      simp only [List.length_append, List.length_singleton] at h1 h2
      rw [this] at h1 h2
      exact ⟨by omega, by omega⟩
theorem muR_new {rest : List Pl} {dep' : Pl → Nat} {D' : Nat} {cur' : Option (Pl × List (List Tur))} (hq : x.queue = p :: rest) (h : RInv b g dep' D' cur' (foldR b g p ⟨x.ways, rest⟩ (allR b p g).length)) : muR (foldR b g p ⟨x.ways, rest⟩ (allR b p g).length) < muR x := by
  have h1 := h.few
  have h2 := foldR_len (p := p) ⟨x.ways, rest⟩ ((allR b p g).take (allR b p g).length)
  unfold muR
  rw [hq, List.length_cons]
  have h2 : (foldR b g p ⟨x.ways, rest⟩ (allR b p g).length).ways.length ≥ x.ways.length ∧ (foldR b g p ⟨x.ways, rest⟩ (allR b p g).length).queue.length + x.ways.length ≤ rest.length + (foldR b g p ⟨x.ways, rest⟩ (allR b p g).length).ways.length := h2
  omega
theorem newR_inv (hr : b.Right) (hg : 0 ≤ g) {rest : List Pl} (h : RInv b g dep D none x) (hq : x.queue = p :: rest) (hm : madeP b p = false) : ∃ dep' D', RInv b g dep' D' none (foldR b g p ⟨x.ways, rest⟩ (allR b p g).length) := by
  obtain ⟨dep', h1⟩ := foldR_inv hr hg (popR_inv h hq hm) _ (Nat.le_refl _)
  rw [List.take_length] at h1
  exact ⟨dep', _, doneR_inv h1⟩
structure RSpec (b : Barn) (g : Int) (f : Found) : Prop where
  yes : f.is = true → ∃ L, Chain f.ways (firstP b) f.last L ∧ goR b g (firstP b) L = some f.last ∧ madeP b f.last = true ∧ (L.length ≤ 40000000) ∧ ∀ rs q, goR b g (firstP b) rs = some q → madeP b q = true → L.length ≤ rs.length
  no : f.is = false → ∀ rs q, goR b g (firstP b) rs = some q → madeP b q = false
theorem RInv.near (h : RInv b g dep D none x) (hq : ∀ q ∈ x.queue, D ≤ dep q) : ∀ (rs : List (List Tur)) (q : Pl), goR b g (firstP b) rs = some q → (rs.length ≤ D ∨ x.queue = []) → ∃ w, mget x.ways q = some w ∧ dep q ≤ rs.length := by
  refine snoc_ind (fun q e _ => ?_) fun rs l ih q e hl => ?_
  · injection e with e; subst e; exact ⟨_, h.start, by rw [h.dep0]; exact Nat.zero_le _⟩
  · obtain ⟨r, e1, e2, e3⟩ := goR_snoc_inv e
    rw [List.length_append, List.length_singleton] at hl ⊢
    obtain ⟨w, hw, hd⟩ := ih r e1 (hl.imp (fun h => by omega) id)
    rcases h.old r w hw with h1 | ⟨_, _, h3⟩
    · rcases hl with hl | hl
      · have := hq r h1; omega
      · rw [hl] at h1; cases h1
    · rcases h3 with ⟨ls, e⟩ | h3
      · cases e
      · obtain ⟨⟨w', h4⟩, h5⟩ := h3 l e2
        subst e3; exact ⟨w', h4, by omega⟩
theorem RInv.chain (h : RInv b g dep D none x) : ∀ (n : Nat) (p : Pl) (w : Way), mget x.ways p = some w → dep p ≤ n → ∃ A, Chain x.ways (firstP b) p A ∧ goR b g (firstP b) A = some p ∧ A.length = dep p := by
  intro n
  induction n with
  | zero =>
    intro p w hw hn
    rcases h.via p w hw with e | ⟨_, _, _, h4⟩
    · subst e; exact ⟨[], .nil, rfl, h.dep0.symm⟩
    · omega
  | succ n ih =>
    intro p w hw hn
    by_cases e : p = firstP b
    · subst e; exact ⟨[], .nil, rfl, h.dep0.symm⟩
    rcases h.via p w hw with e' | ⟨h1, h2, ⟨w', h3⟩, h4⟩
    · exact absurd e' e
    · obtain ⟨A, g1, g2, g3⟩ := ih w.frm w' h3 (by omega)
      exact ⟨A ++ [w.byT], .snoc e hw g1, by rw [h2]; exact goR_snoc g2 h1, by rw [List.length_append, g3, h4]; rfl⟩
theorem rspec_end (h : RInv b g dep D none x) (hq : x.queue = []) : RSpec b g ⟨x.ways, pl0, false⟩ := by
  refine ⟨(fun e => by cases e), fun _ rs q e => ?_⟩
  obtain ⟨w, hw, _⟩ := h.near (fun q hq' => by rw [hq] at hq'; cases hq') rs q e (.inr hq)
  rcases h.old q w hw with h1 | ⟨_, h2, _⟩
  · rw [hq] at h1; cases h1
  · exact h2
theorem rspec_found {rest : List Pl} (h : RInv b g dep D none x) (hq : x.queue = p :: rest) (hm : madeP b p = true) : RSpec b g ⟨x.ways, p, true⟩ := by
  obtain ⟨⟨w, hw⟩, h1, h2⟩ := h.qin p (by rw [hq]; exact List.mem_cons_self)
  refine ⟨fun _ => ?_, (fun e => by cases e)⟩
  obtain ⟨A, g1, g2, g3⟩ := h.chain _ p w hw (Nat.le_refl _)
  have hd := h.depl p w hw
  have hf := h.few
  have hN := placesN_eq
  refine ⟨A, g1, g2, hm, by omega, fun rs q e hq' => ?_⟩
  have hs := h.srt
  rw [hq, List.pairwise_cons] at hs
  -- those of the queue are no nearer than p
  have hmin : ∀ r ∈ x.queue, dep p ≤ dep r := fun r hr => by
    rw [hq] at hr
    rcases List.mem_cons.1 hr with rfl | hr
    · exact Nat.le_refl _
    · exact hs.1 r hr
  refine Nat.le_of_not_lt fun hlt => ?_
  have key : ∀ (rs : List (List Tur)) (q : Pl), goR b g (firstP b) rs = some q → rs.length < dep p → (∃ w, mget x.ways q = some w) ∧ dep q ≤ rs.length := by
    refine snoc_ind (fun q e _ => ?_) fun rs l ih q e hl => ?_
    · injection e with e; subst e; exact ⟨⟨_, h.start⟩, by rw [h.dep0]; exact Nat.zero_le _⟩
    · obtain ⟨r, e1, e2, e3⟩ := goR_snoc_inv e
      rw [List.length_append, List.length_singleton] at hl ⊢
      obtain ⟨⟨w, hw⟩, hd⟩ := ih r e1 (by omega)
      rcases h.old r w hw with h1 | ⟨_, _, h3⟩
      · have := hmin r h1; omega
      · rcases h3 with ⟨ls, e⟩ | h3
        · cases e
        · obtain ⟨h4, h5⟩ := h3 l e2
          subst e3; exact ⟨h4, by omega⟩
  obtain ⟨⟨w', hw'⟩, hd'⟩ := key rs q e (by omega)
  rcases h.old q w' hw' with h1 | ⟨_, h2, _⟩
  · have := hmin q h1; omega
  · rw [hq'] at h2; cases h2
theorem rounds_ends (hr : b.Right) (hg : 0 ≤ g) : ∀ (n : Nat) (x : RSt) (dep : Pl → Nat) (D : Nat), muR x < n → RInv b g dep D none x → ∃ f, EndsR b g x f ∧ RSpec b g f := by
  intro n
  induction n with
  | zero => intro x _ _ hx _; omega
  | succ n ih =>
    intro x dep D hx h
    cases hq : x.queue with
    | nil => exact ⟨_, .stop (stepR_end hq), rspec_end h hq⟩
    | cons p rest =>
      cases hm : madeP b p with
      | true => exact ⟨_, .stop (stepR_found hq hm), rspec_found h hq hm⟩
      | false =>
        obtain ⟨dep', D', h'⟩ := newR_inv hr hg h hq hm
        obtain ⟨f, h1, h2⟩ := ih _ dep' D' (by have := muR_new hq h'; omega) h'
        exact ⟨f, h1.step (stepR_new hq hm), h2⟩
theorem rounds_spec (hr : b.Right) (hg : 0 ≤ g) : RSpec b g (roundsM b g) ∧ EndsR b g (rst0 b) (roundsM b g) := by
  obtain ⟨f, h1, h2⟩ := rounds_ends hr hg _ (rst0 b) _ 0 (Nat.lt_succ_self _) (rinv0 hr)
  rw [roundsM_eq h1]; exact ⟨h2, h1⟩
def SameR (b : Barn) (g : Int) (x : RSt) : Prop := ∀ f, EndsR b g x f → roundsM b g = f
theorem sameR0 : SameR b g (rst0 b) := fun _ h => roundsM_eq h
theorem SameR.step {y : RSt} (h : SameR b g x) (e : stepR b g x = .inl y) : SameR b g y := fun f hf => h f (hf.step e)
theorem SameR.stop {f : Found} (h : SameR b g x) (e : stepR b g x = .inr f) : roundsM b g = f := h f (.stop e)
def askE (b : Barn) (g : Int) : Int := if checkB b = 0 then if inB g 1 3 = true then 0 else 3 else checkB b
theorem ask_zero {b : Barn} {g : Int} (h : askE b g = 0) : checkB b = 0 ∧ 1 ≤ g ∧ g ≤ 3 := by
  unfold askE at h
  split at h
  · rename_i h1
    split at h
    · rename_i h2; exact ⟨h1, inB_true.1 h2⟩
    · cases h
  · rename_i h1; exact absurd h h1
theorem ask_3 {b : Barn} {g : Int} (h : (decide (checkB b = 0) && !inB g 1 3) = true) : askE b g = 3 := by
  simp only [Bool.and_eq_true, decide_eq_true_eq, Bool.not_eq_true'] at h
  unfold askE; rw [if_pos h.1, if_neg (by rw [h.2]; decide)]
theorem ask_ok {b : Barn} {g : Int} (h : (decide (checkB b = 0) && !inB g 1 3) = false) : askE b g = checkB b := by
  unfold askE
  split
  · rename_i h1
    rw [decide_eq_true h1, Bool.true_and, Bool.not_eq_false'] at h
    rw [if_pos h, h1]
  · rfl
noncomputable def roundsV (b : Barn) (g : Int) : List (List Tur) := if askE b g = 0 then if (roundsM b g).is = true then chainM (roundsM b g).ways (firstP b) (roundsM b g).last else [] else []
noncomputable def roundsE (b : Barn) (g : Int) : Int := if askE b g = 0 then if (roundsM b g).is = true then 0 else 7 else askE b g
theorem take_moved {p : Pl} {l : List Tur} {j : Nat} (h : j < l.length) : moved (movedAll p (l.take j)) (nth l j) = movedAll p (l.take (j + 1)) := by rw [take_nth h, movedAll_snoc]
def headR (x : RSt) : Pl := nth x.queue 0
def restR (x : RSt) : RSt := ⟨x.ways, x.queue.drop 1⟩
theorem rowR {x : RSt} (h : 0 < x.queue.length) : x.queue = headR x :: x.queue.drop 1 := by
  have := drop_nth h
  rw [List.drop_zero] at this
  exact this
theorem frR_yes {p : Pl} {z : RSt} {k : Nat} (hk : k < (allR b p g).length) (h : (mget (foldR b g p z k).ways (movedAll p (nth (allR b p g) k))).isSome = true) : foldR b g p z k = foldR b g p z (k + 1) := by rw [foldR_succ hk, relaxR_yes h]
theorem frR_no {p : Pl} {z : RSt} {k : Nat} (hk : k < (allR b p g).length) (h : (mget (foldR b g p z k).ways (movedAll p (nth (allR b p g) k))).isSome = false) :
    mput (foldR b g p z k).ways (movedAll p (nth (allR b p g) k)) ⟨p, nth (allR b p g) k, 0⟩ = (foldR b g p z (k + 1)).ways ∧ (foldR b g p z k).queue ++ [movedAll p (nth (allR b p g) k)] = (foldR b g p z (k + 1)).queue := by
  rw [foldR_succ hk, relaxR_no h]; exact ⟨rfl, rfl⟩
structure RIxs (b : Barn) (g : Int) (x : RSt) : Prop where
  inv : ∃ dep D, RInv b g dep D none x
  same : SameR b g x
theorem rixs0 (hr : b.Right) : RIxs b g (rst0 b) := ⟨⟨_, 0, rinv0 hr⟩, sameR0⟩
theorem RIxs.len (h : RIxs b g x) : x.ways.length ≤ placesN := let ⟨_, _, h⟩ := h.inv; h.few
theorem RIxs.next (h : RIxs b g x) (hr : b.Right) (hg : 0 ≤ g) (hq : 0 < x.queue.length) (hm : madeP b (headR x) = false) : RIxs b g (foldR b g (headR x) (restR x) (allR b (headR x) g).length) ∧ muR (foldR b g (headR x) (restR x) (allR b (headR x) g).length) < muR x := by
  obtain ⟨dep, D, h1⟩ := h.inv
  obtain ⟨dep', D', h2⟩ := newR_inv hr hg h1 (rowR hq) hm
  exact ⟨⟨⟨dep', D', h2⟩, h.same.step (stepR_new (rowR hq) hm)⟩, muR_new (rowR hq) h2⟩
theorem foldR_qlen (h : x.queue.length ≤ x.ways.length + 1) (p : Pl) (k : Nat) : (foldR b g p x k).queue.length ≤ (foldR b g p x k).ways.length + 1 := by
  have h2 := foldR_len (p := p) x ((allR b p g).take k)
  have h2 : (foldR b g p x k).ways.length ≥ x.ways.length ∧ (foldR b g p x k).queue.length + x.ways.length ≤ x.queue.length + (foldR b g p x k).ways.length := h2
  omega
theorem foldR_few (h : RIxs b g x) (hr : b.Right) (hg : 0 ≤ g) (hq : 0 < x.queue.length) (hm : madeP b (headR x) = false) {k : Nat} (hk : k ≤ (allR b (headR x) g).length) : (foldR b g (headR x) (restR x) k).ways.length ≤ placesN := by
  obtain ⟨dep, D, h1⟩ := h.inv
  obtain ⟨dep', h2⟩ := foldR_inv hr hg (popR_inv h1 (rowR hq) hm) k hk
  exact h2.few
end Go.Proofs.Ytpnndljmhpepgaa

namespace Go.T
open Go Go.RowKit
section
variable {P : Program} {fr : Fr} {ops : Array Oper} {A : As} {rest : List Oper} {K : As → List (As × Fx) → Prop} {d : Nat} {t ty' : TypeId} {p : String} {e : Array Edge} [T : Tab P]
variable {α : Type} {E : El α} {Tb J : Nat} {xs ys : List α}
theorem r_lenO {x : Operand} {ti : TI} {el : Nat} (hx : A.op fr x = .rowO E Tb J xs) (hT : T.tab[ty']? = some ti) (hk : ti.k = .slice el)
    (h : TOps P fr ops rest (A.set d (.int .i64 (xs.length : Nat))) fun A' l => K A' ((A, { d := some d, ty := .int .i64 (xs.length : Nat), rs := opR x }) :: l)) :
    TOps P fr ops (⟨some d, .call ⟨.builtin .len, #[x], #[ty']⟩, t, p, e, none⟩ :: rest) A K :=
  tops_pure (opT_pure rfl rfl fun a w M _ hr _ => by
    have := op_den (x := x) (fun _ h => h) hr
    rw [hx] at this
    have h1 := this
    obtain ⟨_, D, _, hD, hkd, _⟩ := tab_info hT
    rw [hk] at hkd
    cases D <;> simp only [TK.of, reduceCtorEq, TK.slice.injEq] at hkd
    refine ⟨.int .i64 xs.length, ?_, rfl⟩
    rcases h1 with ⟨hn, ex⟩ | ⟨g, off, c, cur, ex, _⟩
    · simp [execOp, ex, resolve, invoke, builtin, Builtin.len_, run_underlying hD, hn, goInt]
    · simp [execOp, ex, resolve, invoke, builtin, Builtin.len_, run_underlying hD, goInt]) h
theorem r_indexO [Inhabited α] {x y : Operand} {kd : IntKind} {i : Nat} {ti te : TI} {el : Nat} (hx : A.op fr x = .rowO E Tb J xs) (hy : A.op fr y = .int kd i) (hT : T.tab[ty']? = some ti) (hk : ti.k = .slice el) (hE : T.tab[el]? = some te) (hs : te.size = E.size) (hi : i < xs.length)
    (h : TOps P fr ops rest (A.set d (.op J (E.tys (nth xs i)))) fun A' l' => K A' ((A, { d := some d, ty := .op J (E.tys (nth xs i)), rs := opR x ++ opR y }) :: l')) : TOps P fr ops (⟨some d, .indexAddr ty' x y, t, p, e, none⟩ :: rest) A K :=
  tops_pure (opT_pure rfl rfl fun a w M _ hr _ => by
    obtain ⟨hdx, hdy⟩ := op2 hr
    rw [hx] at hdx; rw [hy] at hdy
    have h1 := hdx
    have ey : a.eval y = .int kd i := hdy
    rcases h1 with ⟨h0, _⟩ | ⟨g, off, c, cur, ex, hg, hh, hn, _, _, hd⟩
    · subst h0; simp at hi
    · refine ⟨_, by simp only [execOp, ex, ey, Sem.run_bind, run_index_slice hT hk hE (Int.natCast_nonneg i) (show (i : Int).toNat < xs.length from hi)]; rfl, g, off + i * te.size, by simp, hg, fun j ty hj => ?_⟩
      rw [hs]
      exact rowO_cell (c := c) hh hd hi hj) h
theorem r_cutO {x y : Operand} {kd : IntKind} {lo : Nat} {ti te : TI} {el : Nat} (hx : A.op fr x = .rowO E Tb J xs) (hy : A.op fr y = .int kd lo) (hT : T.tab[ty']? = some ti) (hk : ti.k = .slice el) (hE : T.tab[el]? = some te) (hs : te.size = E.size) (hlo : lo ≤ xs.length) (h0 : 0 < xs.length)
    (h : TOps P fr ops rest (A.set d (.rowO E Tb J (xs.drop lo))) fun A' l' => K A' ((A, { d := some d, ty := .rowO E Tb J (xs.drop lo), rs := opR x ++ opR y }) :: l')) : TOps P fr ops (⟨some d, .slice ty' x (some y) none none, t, p, e, none⟩ :: rest) A K :=
  tops_pure (opT_pure rfl rfl fun a w M _ hr _ => by
    obtain ⟨hdx, hdy⟩ := op2 hr
    rw [hx] at hdx; rw [hy] at hdy
    have h1 := hdx
    have ey : a.eval y = .int kd lo := hdy
    obtain ⟨_, D, _, hD, hkd, _⟩ := tab_info hT
    rw [hk] at hkd
    cases D <;> simp only [TK.of, reduceCtorEq, TK.slice.injEq] at hkd
    subst hkd
    have hsz := fun w => run_sizeOf' (P := P) hE w
    rcases h1 with ⟨hn, _⟩ | ⟨g, off, c, cur, ex, hg, hh, hn, hc, hsz2, hd⟩
    · subst hn; simp at h0
    have hlc : lo ≤ c := by omega
    have hrun : ∃ ad, (execOp a.eval ⟨some d, .slice ty' x (some y) none none, t, p, e, none⟩).run P w = .ok (.value (.slice (some ad) (xs.length - lo) (c - lo))) w ∧ ad = (if c = lo then (⟨g, off, none⟩ : Addr) else ⟨g, off + lo * E.size, none⟩) := by
      refine ⟨_, ?_, rfl⟩
      simp [execOp, ex, ey, Instr.sliceAt, Instr.slice, run_underlying hD, Instr.sliceBounds, Instr.sliceBound, asIntOf, hsz, hs, hlo]
      by_cases hcl : c = lo
      · simp [hcl]
      · simp [hcl]; exact Addr.add_lit _ _ _
    obtain ⟨ad, hrun, had⟩ := hrun
    have hlen : (xs.drop lo).length = xs.length - lo := List.length_drop
    have key : dens w M ((xs.drop lo).flatMap E.tys) ((cur.toList.drop (off + lo * E.size)).take ((xs.drop lo).length * E.size)) := by
      have := dens_drop (lo * E.size) hd
      rw [List.drop_take, List.drop_drop, ← Nat.sub_mul] at this
      have e1 : (xs.flatMap E.tys).drop (lo * E.size) = (xs.drop lo).flatMap E.tys := by
        have : xs.flatMap E.tys = (xs.take lo).flatMap E.tys ++ (xs.drop lo).flatMap E.tys := by rw [← List.flatMap_append, List.take_append_drop]
        rw [this, List.drop_left' (by rw [flat_len, List.length_take, Nat.min_eq_left hlo])]
      rw [e1] at this
      rw [hlen]; exact this
    by_cases hcl : c = lo
    · rw [if_pos hcl] at had
      subst had
      refine ⟨_, hrun, .inr ⟨g, off, c - lo, cur, by rw [hlen], hg, hh, by rw [hlen]; omega, by omega, ?_, ?_⟩⟩
      · have : c - lo = 0 := by omega
        rw [this]; omega
      · have h0' : xs.drop lo = [] := List.eq_nil_of_length_eq_zero (by rw [hlen]; omega)
        rw [h0']; simp [dens]
    · rw [if_neg hcl] at had
      subst had
      refine ⟨_, hrun, .inr ⟨g, off + lo * E.size, c - lo, cur, by rw [hlen], hg, hh, by rw [hlen]; omega, by omega, ?_, key⟩⟩
      rw [Nat.add_assoc, ← Nat.add_mul, show lo + (c - lo) = c by omega]; exact hsz2) h
theorem r_appendO {x y : Operand} {st el : Nat} {ti te : TI} (hx : A.op fr x = .rowO E el J xs) (hy : A.op fr y = .sl E ys) (hJ : 4096 ≤ J) (hp : fr.pass.contains J = false) (hpos : 0 < ys.length) (hT : T.tab[st]? = some ti) (hk : ti.k = .slice el) (hE : T.tab[el]? = some te) (hs : te.size = E.size) (hz : te.zero.length = te.size) (h0 : 0 < te.size)
    (hlen : (xs.length + ys.length) * te.bytes ≤ 140737488355328) (hlen' : xs.length + ys.length ≤ 9223372036854775807)
    (h : TOps P fr ops rest (A.after { d := some d, ty := .rowO E el J (xs ++ ys), S := [J], rs := opR x ++ opR y }) fun A' l' => K A' ((A, { d := some d, ty := .rowO E el J (xs ++ ys), S := [J], rs := opR x ++ opR y }) :: l')) :
    TOps P fr ops (⟨some d, .call ⟨.builtin .append, #[x, y], #[st, st]⟩, t, p, e, none⟩ :: rest) A K := by
  refine ⟨_, opT_mem rfl rfl (by simp) (by simp; omega) (by simp) fun a w M wf hr htg => ?_, h⟩
  obtain ⟨hdx, hdy⟩ := op2 hr
  rw [hx] at hdx; rw [hy] at hdy
  have hrow := hdx
  obtain ⟨_, D, _, hD, hkd, _⟩ := tab_info hT
  rw [hk] at hkd
  cases D <;> simp only [TK.of, reduceCtorEq, TK.slice.injEq] at hkd
  subst hkd
  rename_i el
  obtain ⟨i, _, hi, _, _, hsz, hby, hze⟩ := tab_info hE
  obtain ⟨zz, hiz, hzc⟩ : ∃ z, i.zero = some z ∧ z.cells.size = i.size := by
    cases hiz : i.zero with
    | none => rw [hiz] at hze; rw [← hze] at hz; simp at hz; omega
    | some z => rw [hiz] at hze; exact ⟨z, rfl, by simp at hze; rw [hsz, ← hz, ← hze]; simp⟩
  obtain ⟨ad, c', ey, hc1, hc2, hpp⟩ := hdy
  obtain ⟨b', off', rfl, hp'⟩ := hpp hpos
  obtain ⟨news, hn1, hn2, hn3⟩ := pub_cells hp' _ (Nat.le_refl _)
  rw [List.take_length] at hn2
  have hnl : news.length = ys.length * i.size := by rw [hn1, flat_len, hsz, hs]
  have hnews : ∀ j u, news[j]? = some u → w.cell? ((⟨b', off', none⟩ : Addr).add j) = some u := fun j u hj => by rw [Addr.add_lit]; exact hn3 j u hj
  have hones := dens_ones hn2 (flat_ones E ys)
  have hesz : E.size = i.size := by rw [hsz, hs]
  -- behind a growth
  have grown : ∀ (olds : List Value) (cap : Nat), dens w M (xs.flatMap E.tys) olds → cap < xs.length + ys.length →
      (Builtin.append_ #[st, st] t #[a.eval x, a.eval y]).run P w = .ok (.slice (some ⟨w.heap.size, 0, none⟩) (xs.length + ys.length) (grownCap w (xs.length + ys.length) cap el)) (w.drew.alloc (.cells (olds.toArray ++ news.toArray ++ Builtin.zeroCells zz.cells (grownCap w (xs.length + ys.length) cap el - (xs.length + ys.length))) el)) →
      ∃ v w', (execOp a.eval ⟨some d, .call ⟨.builtin .append, #[x, y], #[st, st]⟩, t, p, e, none⟩).run P w = .ok (.value v) w' ∧ Fx.left { d := some d, ty := .rowO E el J (xs ++ ys), S := [J], rs := opR x ++ opR y } w M w' v := by
    intro olds cap hdo hcap hrun
    have holen : olds.length = xs.length * i.size := by rw [dens_len hdo, flat_len, hesz]
    have hge := grownCap_ge w (xs.length + ys.length) cap el
    have hcm : grownCap w (xs.length + ys.length) cap el ≤ maxLen := grownCap_le_maxLen w (xs.length + ys.length) cap el (by simp only [maxLen]; omega)
    have hsize : (w.drew.alloc (.cells (olds.toArray ++ news.toArray ++ Builtin.zeroCells zz.cells (grownCap w (xs.length + ys.length) cap el - (xs.length + ys.length))) el)).heap.size = w.heap.size + 1 := by simp
    have hold : ∀ b2, b2 < w.heap.size → (w.drew.alloc (.cells (olds.toArray ++ news.toArray ++ Builtin.zeroCells zz.cells (grownCap w (xs.length + ys.length) cap el - (xs.length + ys.length))) el)).heap[b2]? = w.heap[b2]? := fun b2 h => Below.heap_alloc w.drew _ b2 h
    have hnew : (w.drew.alloc (.cells (olds.toArray ++ news.toArray ++ Builtin.zeroCells zz.cells (grownCap w (xs.length + ys.length) cap el - (xs.length + ys.length))) el)).heap[w.heap.size]? = some (.cells (olds.toArray ++ news.toArray ++ Builtin.zeroCells zz.cells (grownCap w (xs.length + ys.length) cap el - (xs.length + ys.length))) el (0, 0)) := alloc_new w.drew _
    have hos : (w.drew.alloc (.cells (olds.toArray ++ news.toArray ++ Builtin.zeroCells zz.cells (grownCap w (xs.length + ys.length) cap el - (xs.length + ys.length))) el)).os = w.os ∧ (w.drew.alloc (.cells (olds.toArray ++ news.toArray ++ Builtin.zeroCells zz.cells (grownCap w (xs.length + ys.length) cap el - (xs.length + ys.length))) el)).tape = w.tape ∧ (w.drew.alloc (.cells (olds.toArray ++ news.toArray ++ Builtin.zeroCells zz.cells (grownCap w (xs.length + ys.length) cap el - (xs.length + ys.length))) el)).output = w.output := ⟨rfl, rfl, rfl⟩
    have hcs : (olds.toArray ++ news.toArray ++ Builtin.zeroCells zz.cells (grownCap w (xs.length + ys.length) cap el - (xs.length + ys.length))).size = grownCap w (xs.length + ys.length) cap el * i.size := by
      simp only [Array.size_append, List.size_toArray, size_zeroCells, hzc, holen, hnl, ← Nat.add_mul]
      congr 1
      omega
    have htk : ((olds.toArray ++ news.toArray ++ Builtin.zeroCells zz.cells (grownCap w (xs.length + ys.length) cap el - (xs.length + ys.length))).toList.drop 0).take ((xs ++ ys).length * E.size) = olds ++ news := by
      rw [List.drop_zero]
      simp only [Array.toList_append]
      rw [List.take_left' (by rw [List.length_append, holen, hnl, List.length_append, hesz, Nat.add_mul])]
    generalize hw' : (w.drew.alloc (.cells (olds.toArray ++ news.toArray ++ Builtin.zeroCells zz.cells (grownCap w (xs.length + ys.length) cap el - (xs.length + ys.length))) el)) = w' at *
    generalize hcu : (olds.toArray ++ news.toArray ++ Builtin.zeroCells zz.cells (grownCap w (xs.length + ys.length) cap el - (xs.length + ys.length))) = cu at *
    have le : Le (· ∈ [J]) (· ∈ ([] : List Nat)) w M w' (fun b2 => if b2 = w.heap.size then some J else M b2) :=
      ⟨by omega, hos.1, hos.2.1, hos.2.2, fun b2 hb2 hm => ⟨by rw [if_neg (by omega)]; exact hm, hold b2 hb2⟩, fun b2 u hm _ => by
        have := wf.lt b2 u hm
        exact ⟨by rw [if_neg (by omega)]; exact hm, fun _ => hold b2 this⟩⟩
    have le0 : Le (· ∈ ([] : List Nat)) (· ∈ ([] : List Nat)) w M w' (fun b2 => if b2 = w.heap.size then some J else M b2) :=
      ⟨by omega, hos.1, hos.2.1, hos.2.2, fun b2 hb2 hm => ⟨by rw [if_neg (by omega)]; exact hm, hold b2 hb2⟩, fun b2 u hm _ => by
        have := wf.lt b2 u hm
        exact ⟨by rw [if_neg (by omega)]; exact hm, fun _ => hold b2 this⟩⟩
    have wf' : Wf w' (fun b2 => if b2 = w.heap.size then some J else M b2) := by
      refine ⟨fun b2 u hm => ?_, fun b2 b3 u ht1 hm hm' => ?_⟩
      · split at hm
        · omega
        · have := wf.lt b2 u hm; omega
      · split at hm
        · injection hm with hm; omega
        · split at hm'
          · injection hm' with hm'; omega
          · exact wf.inj b2 b3 u ht1 hm hm'
    refine ⟨.slice (some ⟨w.heap.size, 0, none⟩) (xs.length + ys.length) (grownCap w (xs.length + ys.length) cap el), w', by simp [execOp, resolve, invoke, builtin, hrun], _, wf', le, .inr ⟨w.heap.size, 0, grownCap w (xs.length + ys.length) cap el, cu, by rw [List.length_append], by simp, hnew, by rw [List.length_append]; exact hge, hcm, by rw [hcs, hesz]; omega, ?_⟩, by simp⟩
    rw [htk, List.flatMap_append]
    exact dens_app (dens_mono le0 (by rw [E.flat_deps]; intro _ h; cases h) (by rw [E.flat_cdeps]; intro _ h; cases h) hdo) (dens_mono le0 (by rw [E.flat_deps]; intro _ h; cases h) (by rw [E.flat_cdeps]; intro _ h; cases h) hn2)
  rcases hrow with ⟨hxe, ex⟩ | ⟨g, off, cap, cur, ex, hg, hh, hxc, hcm, hfit, hdx⟩
  · have hrn := run_append_nil (P := P) w st t el i zz hD hi hiz ⟨b', off', none⟩ ys.length c' news hnl hnews hpos (by omega) (by rw [hby]; have := hlen; rw [Nat.add_mul] at this; omega)
    subst hxe
    refine grown [] 0 trivial (by simpa using hpos) ?_
    rw [ex, ey]
    simpa using hrn
  · by_cases hroom : xs.length + ys.length ≤ cap
    · -- in place
      have hm : (xs.length + ys.length) * E.size ≤ cap * E.size := Nat.mul_le_mul_right _ hroom
      rw [Nat.add_mul] at hm
      have hcf : off + xs.length * i.size + news.length ≤ cur.size := by rw [hnl, ← hesz]; omega
      have hf := run_firstCells_some (P := P) w i.size ys.length ⟨b', off', none⟩ ys.length c' news hnl hnews
      have hst := run_storeCells_at (P := P) g (off + xs.length * i.size) el news 0 cur w hh (by simpa using hcf) hones
      rw [setRow_set _ hh] at hst
      simp only [Nat.add_zero] at hst
      obtain ⟨h1', h2', h3'⟩ := store_le (cs' := (cur.toList.take (off + xs.length * i.size) ++ news ++ cur.toList.drop (off + xs.length * i.size + news.length)).toArray) (Tb := el) wf hg _ rfl
      have hrun : (Builtin.append_ #[st, st] t #[a.eval x, a.eval y]).run P w = .ok (.slice (some ⟨g, off, none⟩) (xs.length + ys.length) cap) { w with heap := w.heap.setIfInBounds g (.cells (cur.toList.take (off + xs.length * i.size) ++ news ++ cur.toList.drop (off + xs.length * i.size + news.length)).toArray el (0, 0)) } := by
        rw [ex, ey]
        simp [Builtin.append_, run_underlying hD, sizeOf, typeInfo, hi, Builtin.lenOf, hroom, hf, Addr.add_lit, hst]
      have le : Le (· ∈ [J]) (· ∈ ([] : List Nat)) w M { w with heap := w.heap.setIfInBounds g (.cells (cur.toList.take (off + xs.length * i.size) ++ news ++ cur.toList.drop (off + xs.length * i.size + news.length)).toArray el (0, 0)) } M :=
        h2'.weaken (fun u hu => by simp only [List.mem_singleton] at hu; subst hu; simp) (fun _ h => by cases h)
      refine ⟨.slice (some ⟨g, off, none⟩) (xs.length + ys.length) cap, _, by simp [execOp, resolve, invoke, builtin, hrun], M, h1', le, .inr ⟨g, off, cap, _, by rw [List.length_append], hg, h3', by rw [List.length_append]; exact hroom, hcm, ?_, ?_⟩, by simp⟩
      · simp only [List.size_toArray, List.length_append, List.length_take, List.length_drop, Array.length_toList]
        omega
      · rw [List.length_append, Nat.add_mul, hesz, ← hnl, List.toList_toArray, put_take _ _ _ _ (by simpa using hcf), List.flatMap_append]
        refine dens_mono h2' (by rw [← List.flatMap_append, E.flat_deps]; intro _ h; cases h) (by rw [← List.flatMap_append, E.flat_cdeps]; intro _ h; cases h) (dens_app ?_ hn2)
        rw [← hesz]; exact hdx
    · have holds : ∀ j u, ((cur.toList.drop off).take (xs.length * E.size))[j]? = some u → w.cell? ((⟨g, off, none⟩ : Addr).add j) = some u := fun j u hj => by
        rw [List.getElem?_take] at hj
        split at hj
        · rw [List.getElem?_drop] at hj
          rw [Addr.add_lit]
          simpa [World.cell?, hh] using hj
        · cases hj
      have hol : ((cur.toList.drop off).take (xs.length * E.size)).length = xs.length * i.size := by rw [dens_len hdx, flat_len, hesz]
      have hrn := run_append_grow (P := P) w st t el i zz hD hi hiz ⟨g, off, none⟩ xs.length cap _ hol holds ⟨b', off', none⟩ ys.length c' news hnl hnews (by omega) (by omega) (growslice_fits (by omega) (by rw [hby]; exact hlen))
      refine grown _ cap hdx (by omega) ?_
      rw [ex, ey]
      exact hrn
end
section
variable {P : Program} {fr : Fr} {A : As} {c : Code} {Q : Exit → Act → World → Prop}
theorem t_toO {α : Type} {E : El α} {T Tc J tg c0 : Nat} {xs : List α} (hc : A.tag c0 = some (.cells Tc [.row E T tg xs])) (h1 : Tag1 tg) (hne : Nat.beq c0 tg = false) (hJ : 4096 ≤ J) (hp : fr.pass.contains tg = false)
    (h : Tri P fr c ⟨killSlots [] [tg] A.slots, (c0, .cells Tc [.rowO E T J xs]) :: killTags [] [tg] A.tags⟩ Q) : Tri P fr c A Q := fun a w ⟨M, ok, hsl, ht⟩ => by
  have le : Le (· ∈ ([] : List Nat)) (· ∈ [tg]) w M w (giveJ M tg J) := giveJ_le
  refine h a w ⟨giveJ M tg J, ⟨giveJ_wf hJ ok.wf, Fr.base_step ok.base (by intro _ h; cases h) (fun t ht => by simp only [List.mem_singleton] at ht; subst ht; exact ⟨h1.1, by simpa using hp⟩) le, ok.size, ok.defers.step (by intro _ h; cases h) (fun t ht => by simp only [List.mem_singleton] at ht; subst ht; exact h1.1) le⟩, fun i hi => ?_, fun x hx => ?_⟩
  · rcases killSlots_spec [] [tg] A.slots i with ⟨e, hdj⟩ | ⟨_, e⟩
    · show (killSlots [] [tg] A.slots i).den _ _ _
      rw [e]; exact (A.slots i).mono le (safe_spec hdj).1 (safe_spec hdj).2 (hsl i hi)
    · show (killSlots [] [tg] A.slots i).den _ _ _
      rw [e]; trivial
  · rcases List.mem_cons.1 hx with rfl | hx
    · obtain ⟨b, cs, hb, hh, hd⟩ := ht _ (tag_mem hc)
      refine ⟨b, cs, ?_, hh, ?_⟩
      · unfold giveJ
        rw [if_neg]
        · exact hb
        · rw [hb]; intro e; injection e with e; have e : c0 = tg := e; rw [e] at hne; simp at hne
      · obtain ⟨cs⟩ := cs
        match cs, hd with
        | [v], ⟨⟨vs, hown, hcs, hM⟩, _⟩ =>
          refine ⟨?_, trivial⟩
          rcases hown.2 with ⟨ez, h0⟩ | ⟨g, cap, cur, ez, _, hh, hnc, hcap, hsz, htk⟩
          · exact .inl ⟨List.length_eq_zero_iff.1 h0, ez⟩
          · have hg : M g = some tg := hM g (by rw [ez]; rfl)
            refine .inr ⟨g, 0, cap, cur, ez, by simp [giveJ, hg], hh, hnc, hcap, by omega, ?_⟩
            rw [List.drop_zero, htk]
            exact dens_mono (giveJ_le (w := w)) (by rw [E.flat_deps]; intro _ h; cases h) (by rw [E.flat_cdeps]; intro _ h; cases h) hcs
    · exact killTags_den le hx fun y hy _ => ht y hy
end
end Go.T
