/- Lemmas: the program and the reference walked, plain laws. -/
import Derived.Test.YtelbollidfdcjaaGreatOa
namespace Go.Proofs.YtelbollidfdcjaaGreat
open Go Go.T
def fidx {α : Type} (p : α → Bool) (l : List α) : Int := match l.findIdx? p with | some i => (i : Int) | none => -1
theorem gp {α : Type} {p : α → Bool} {l : List α} {k : Nat} (hk : k < l.length) (h : ∀ x ∈ l.take k, p x = false) (hp : p l[k] = true) : fidx p l = k := by
 have : l.findIdx? p = some k := by
  rw [List.findIdx?_eq_some_iff_getElem]
  refine ⟨hk, hp, fun j hj => ?_⟩
  have := h l[j] (by rw [List.mem_take_iff_getElem]; exact ⟨j, by omega, rfl⟩)
  simp [this]
 simp [fidx, this]
theorem iO {α : Type} {p : α → Bool} {l : List α} (h : ∀ x ∈ l, p x = false) : fidx p l = -1 := by
 have : l.findIdx? p = none := by simpa using h
 simp [fidx, this]
theorem qL {α : Type} (p : α → Bool) (l : List α) : decide (0 ≤ fidx p l) = l.any p := by
  unfold fidx
  cases h : l.findIdx? p with
  | none =>
    rw [List.findIdx?_eq_none_iff] at h
    have : l.any p = false := by simpa using h
    rw [this]; rfl
  | some i =>
    have : l.any p = true := by
      rw [List.findIdx?_eq_some_iff_getElem] at h
      obtain ⟨hi, hp, _⟩ := h
      rw [List.any_eq_true]; exact ⟨_, List.getElem_mem hi, hp⟩
    rw [this]; simp
def BN (n lo hi : Int) : Bool := decide (n ≥ lo) && decide (n ≤ hi)
theorem iL {n lo hi : Int} : BN n lo hi = true ↔ lo ≤ n ∧ n ≤ hi := by unfold BN; simp
theorem ng {b : Bool} (h : b = false) : ¬ b = true := by rw [h]; decide
theorem jk {α : Type} [Inhabited α] {l : List α} {x : α} (h : x ∈ l) : ∃ m, m < l.length ∧ x = nth l m := by
 obtain ⟨m, hm, e⟩ := List.getElem_of_mem h
 exact ⟨m, hm, by rw [g9 hm]; exact e.symm⟩
theorem mJ : ∀ {n : Nat} {l : List Nat}, l.Nodup → (∀ y ∈ l, y < n) → l.length ≤ n
  | 0, l, _, hr => by
    cases l with
    | nil => simp
    | cons a _ => exact absurd (hr a List.mem_cons_self) (by omega)
  | n + 1, l, hn, hr => by
    by_cases h : n ∈ l
    · have h1 := List.length_erase_of_mem h
      have h2 := mJ (n := n) (l := l.erase n) (hn.erase n) fun y hy => by
        have h3 := (hn.mem_erase_iff (a := y) (b := n)).1 hy
        have := hr y h3.2
        have := h3.1
        omega
      omega
    · have h2 := mJ (n := n) (l := l) hn fun y hy => by
        have := hr y hy
        have : y ≠ n := fun e => h (e ▸ hy)
        omega
      omega
theorem jf {α : Type} [Inhabited α] {l : List α} {i j : Nat} {v : α} (h : j < l.length) : nth (l.set i v) j = if i = j then v else nth l j := by
 unfold nth
 rw [List.getD_eq_getElem?_getD, List.getD_eq_getElem?_getD, List.getElem?_set]
 by_cases e : i = j
 ·subst e; rw [if_pos rfl, if_pos rfl, if_pos h]; rfl
 rw [if_neg e, if_neg e]
theorem zP {α : Type} : ∀ (l : List α), l = [] ∨ ∃ l' x, l = l' ++ [x]
  | [] => .inl rfl
  | x :: l => by
    rcases zP l with h | ⟨l', y, h⟩
    · subst h; exact .inr ⟨[], x, rfl⟩
    · subst h; exact .inr ⟨x :: l', y, rfl⟩
theorem Bb {α : Type} {C : List α → Prop} (h0 : C []) (h1 : ∀ l x, C l → C (l ++ [x])) : ∀ l, C l := by
  intro l
  have key : ∀ n (l : List α), l.length = n → C l := by
    intro n
    induction n with
    | zero => intro l h; rw [List.length_eq_zero_iff.1 h]; exact h0
    | succ n ih =>
      intro l h
      rcases zP l with e | ⟨l', x, e⟩
      · subst e; cases h
      · subst e; exact h1 l' x (ih l' (by simpa using h))
  exact key _ l rfl
section
variable {κ β : Type} [DecidableEq κ]
theorem qo (q : List (κ × β)) (k : κ) (v : β) (x : κ) : x ∈ (gk q k v).map Prod.fst ↔ x = k ∨ x ∈ q.map Prod.fst := by
  induction q with
  | nil => simp [gk]
  | cons y l ih =>
    simp only [gk]
    by_cases h : y.1 = k
    · subst h; simp
    · rw [if_neg h]; simp only [List.map_cons, List.mem_cons, ih]
      constructor
      · rintro (h | h | h)
        · exact .inr (.inl h)
        · exact .inl h
        · exact .inr (.inr h)
      · rintro (h | h | h)
        · exact .inr (.inl h)
        · exact .inl h
        · exact .inr (.inr h)
theorem ED (q : List (κ × β)) (k : κ) (v : β) (hn : (q.map Prod.fst).Nodup) : ((gk q k v).map Prod.fst).Nodup := by
  induction q with
  | nil => simp [gk]
  | cons y l ih =>
    rw [List.map_cons, List.nodup_cons] at hn
    simp only [gk]
    by_cases h : y.1 = k
    · subst h; rw [if_pos rfl, List.map_cons, List.nodup_cons]; exact hn
    · rw [if_neg h, List.map_cons, List.nodup_cons]
      refine ⟨fun hm => ?_, ih hn.2⟩
      rcases (qo l k v y.1).1 hm with e | e
      · exact h e
      · exact hn.1 e
theorem mZ {q : List (κ × β)} {k : κ} {v : β} (h : e9 q k = some v) : k ∈ q.map Prod.fst := by
  induction q with
  | nil => cases h
  | cons y l ih =>
    simp only [e9] at h
    by_cases e : y.1 = k
    · subst e; simp
    · rw [if_neg e] at h; exact List.mem_cons_of_mem _ (ih h)
theorem pg {q : List (κ × β)} {k : κ} (h : k ∈ q.map Prod.fst) : ∃ v, e9 q k = some v := by
  induction q with
  | nil => cases h
  | cons y l ih =>
    simp only [e9]
    by_cases e : y.1 = k
    · exact ⟨_, if_pos e⟩
    · rw [if_neg e]; rw [List.map_cons, List.mem_cons] at h
      exact ih (h.resolve_left fun h => e h.symm)
theorem CR (q : List (κ × β)) (k : κ) (v : β) (h : e9 q k = none) : (gk q k v).length = q.length + 1 := by
  induction q with
  | nil => rfl
  | cons y l ih =>
    simp only [e9] at h
    by_cases e : y.1 = k
    · rw [if_pos e] at h; cases h
    · rw [if_neg e] at h; simp only [gk, if_neg e, List.length_cons, ih h]
end
theorem sS {n : Nat} {l : List Int} (h : l.Nodup) (hr : ∀ y ∈ l, 0 ≤ y ∧ y < (n : Int)) : l.length ≤ n := by
 have h1 : (l.map Int.toNat).Nodup := by
  rw [List.nodup_iff_pairwise_ne, List.pairwise_map]
  refine (List.nodup_iff_pairwise_ne.1 h).imp_of_mem fun {a b} ha hb hne e => hne ?_
  have := hr a ha; have := hr b hb; omega
 have h2 := mJ (n := n) h1 fun y hy => by
  obtain ⟨z, hz, rfl⟩ := List.mem_map.1 hy
  have := hr z hz; omega
 rwa [List.length_map] at h2
section
variable {σ ρ : Type} [Inhabited ρ] {step : σ → σ ⊕ ρ} {x y : σ} {r s : ρ}
def B8 (step : σ → σ ⊕ ρ) : Nat → σ → Option ρ
  | 0, _ => none
  | n + 1, x => match step x with | .inl y => B8 step n y | .inr r => some r
def o9 (step : σ → σ ⊕ ρ) (x : σ) (r : ρ) : Prop := ∃ n, B8 step n x = some r
omit [Inhabited ρ] in
theorem Cv : ∀ {n m : Nat} {x : σ}, B8 step n x = some r → B8 step m x = some s → r = s
  | 0, _, _, h, _ => by cases h
  | _ + 1, 0, _, _, h => by cases h
  | n + 1, m + 1, x, h, h' => by
    unfold B8 at h h'
    cases e : step x with
    | inl y => rw [e] at h h'; exact Cv h h'
    | inr t => rw [e] at h h'; injection h with h; injection h' with h'; rw [← h, h']
omit [Inhabited ρ] in
theorem o9.O6 (h : o9 step x r) (h' : o9 step x s) : r = s := let ⟨_, h⟩ := h; let ⟨_, h'⟩ := h'; Cv h h'
noncomputable def nB (step : σ → σ ⊕ ρ) (x : σ) : ρ := open Classical in if h : ∃ r, o9 step x r then h.choose else default
theorem AG (h : o9 step x r) : nB step x = r := by
 have hx : ∃ r, o9 step x r := ⟨r, h⟩
 unfold nB; rw [dif_pos hx]; exact hx.choose_spec.O6 h
omit [Inhabited ρ] in
theorem Du (e : step x = .inr r) : o9 step x r := ⟨1, by unfold B8; rw [e]⟩
theorem iT (e : step x = .inr r) : nB step x = r := AG (Du e)
omit [Inhabited ρ] in
theorem wX (e : step x = .inl y) : o9 step x r ↔ o9 step y r := by
  constructor
  · rintro ⟨n, h⟩
    cases n with
    | zero => cases h
    | succ n => unfold B8 at h; rw [e] at h; exact ⟨n, h⟩
  · rintro ⟨n, h⟩; exact ⟨n + 1, by unfold B8; rw [e]; exact h⟩
theorem gz (e : step x = .inl y) : nB step x = nB step y := by
 by_cases h : ∃ r, o9 step y r
 ·obtain ⟨r, h⟩ := h
  rw [AG h, AG ((wX e).2 h)]
 have h' : ¬ ∃ r, o9 step x r := fun ⟨r, hr⟩ => h ⟨r, (wX e).1 hr⟩
 unfold nB; rw [dif_neg h, dif_neg h']
theorem nP (I : σ → Prop) (S : ρ → Prop) (mu : σ → Nat) (h : ∀ x, I x → (∃ y, step x = .inl y ∧ I y ∧ mu y < mu x) ∨ ∃ r, step x = .inr r ∧ S r) : ∀ x, I x → S (nB step x) := by
  have key : ∀ n x, mu x < n → I x → S (nB step x) := by
    intro n
    induction n with
    | zero => intro x hx; omega
    | succ n ih =>
      intro x hx hI
      rcases h x hI with ⟨y, e, hy, hm⟩ | ⟨r, e, hr⟩
      · rw [gz e]; exact ih y (by omega) hy
      · rw [iT e]; exact hr
  exact fun x hx => key _ x (Nat.lt_succ_self _) hx
end
end Go.Proofs.YtelbollidfdcjaaGreat
namespace Go.Proofs.YtelbollidfdcjaaGreat
open Go Go.T
section
variable {fl : List cC} {a : List Int} {n : Nat} {w u : Way} {c x y z by_ : Int}
def Ca (fl : List cC) (a : List Int) (c : Int) (i : Nat) : List Way := (if nth a i < (nth fl i).hi ∧ (nth fl i).src = c then [⟨i, true⟩] else []) ++ (if nth a i > (nth fl i).lo ∧ (nth fl i).dst = c then [⟨i, false⟩] else [])
def bO (fl : List cC) (a : List Int) (c : Int) : List Way := (List.range fl.length).flatMap (Ca fl a c)
theorem nU : w ∈ bO fl a c ↔ Open fl a w ∧ w.gq fl = c := by
  unfold bO Ca Open Way.room Way.gq
  rw [List.mem_flatMap]
  constructor
  · rintro ⟨i, hi, h⟩
    rw [List.mem_range] at hi
    rcases List.mem_append.1 h with h | h
    · split at h
      · rename_i hc; rw [List.mem_singleton.1 h]; exact ⟨⟨hi, by simp only [if_true]; omega⟩, hc.2⟩
      · cases h
    · split at h
      · rename_i hc; rw [List.mem_singleton.1 h]; exact ⟨⟨hi, by simp only [Bool.false_eq_true, if_false]; omega⟩, hc.2⟩
      · cases h
  · rintro ⟨⟨h1, h2⟩, h3⟩
    refine ⟨w.ix, List.mem_range.2 h1, ?_⟩
    obtain ⟨i, m⟩ := w
    cases m with
    | true =>
      simp only [if_true] at h2 h3
      refine List.mem_append.2 (.inl ?_)
      rw [if_pos ⟨by show nth a i < (nth fl i).hi; have : 0 < (nth fl i).hi - nth a i := h2; omega, h3⟩]; exact List.mem_singleton.2 rfl
    | false =>
      simp only [Bool.false_eq_true, if_false] at h2 h3
      refine List.mem_append.2 (.inr ?_)
      rw [if_pos ⟨by show nth a i > (nth fl i).lo; have : 0 < nth a i - (nth fl i).lo := h2; omega, h3⟩]; exact List.mem_singleton.2 rfl
theorem B3 (i : Nat) : (Ca fl a c i).length ≤ 2 := by
 unfold Ca; split <;> split <;> simp
theorem ox : (bO fl a c).length ≤ 2 * fl.length := by
  have key : ∀ n, ((List.range n).flatMap (Ca fl a c)).length ≤ 2 * n := by
    intro n
    induction n with
    | zero => simp
    | succ n ih => rw [List.range_succ, List.flatMap_append, List.length_append, List.flatMap_singleton]; have := B3 (fl := fl) (a := a) (c := c) n; omega
  exact key _
theorem Net.way (hN : Net fl n) (h : w.ix < fl.length) : (0 ≤ w.gq fl ∧ w.gq fl < n) ∧ (0 ≤ w.fin fl ∧ w.fin fl < n) ∧ w.gq fl ≠ w.fin fl := by
 unfold Way.gq Way.fin
 have h1 := hN.src _ h
 have h2 := hN.dst _ h
 have h3 := hN.ne _ h
 cases w.more <;> simp <;> omega
def xy (w : Way) (k : Int) : Int := if w.more then k else -k
def k8 (a : List Int) (w : Way) (k : Int) : List Int := a.set w.ix (nth a w.ix + xy w k)
def eH (a : List Int) (l : List Way) (k : Int) : List Int := l.foldl (fun a w => k8 a w k) a
theorem qJ (k : Int) : (k8 a w k).length = a.length := List.length_set
theorem uJ (k : Int) : ∀ (l : List Way) (a : List Int), (eH a l k).length = a.length
  | [], _ => rfl
  | w :: l, a => (uJ k l (k8 a w k)).trans (qJ k)
theorem rC (l : List Way) (k : Int) : eH a (l ++ [w]) k = k8 (eH a l k) w k := by unfold eH; rw [List.foldl_append]; rfl
theorem kG (h : w.ix < a.length) (i : Nat) (k : Int) : nth (k8 a w k) i = if w.ix = i then nth a i + xy w k else nth a i := by
 unfold k8
 by_cases e : i < a.length
 ·rw [jf e]; split
  ·rename_i e; subst e; rfl
  rfl
 rw [if_neg (by omega)]
 have h1 : (a.set w.ix (nth a w.ix + xy w k))[i]? = none := List.getElem?_eq_none (by rw [List.length_set]; omega)
 have h2 : a[i]? = none := List.getElem?_eq_none (by omega)
 unfold nth at *
 simp only [List.getD_eq_getElem?_getD] at *
 rw [h1, h2]
theorem DA (hl : a.length = fl.length) (h : w.ix < fl.length) (k : Int) (c : Int) : over fl (k8 a w k) c = over fl a c + (ind (w.fin fl = c) - ind (w.gq fl = c)) * k := by
  unfold over
  have e : cy (fun i => (ind ((nth fl i).dst = c) - ind ((nth fl i).src = c)) * nth (k8 a w k) i) fl.length - cy (fun i => (ind ((nth fl i).dst = c) - ind ((nth fl i).src = c)) * nth a i) fl.length = (ind (w.fin fl = c) - ind (w.gq fl = c)) * k := by
    rw [← kY, iE h fun i _ hn => by rw [kG (by omega), if_neg (fun e => hn e.symm)]; omega]
    rw [kG (by omega), if_pos rfl, ← Int.mul_sub, show nth a w.ix + xy w k - nth a w.ix = xy w k by omega]
    unfold xy Way.fin Way.gq
    cases w.more with
    | true => simp
    | false => simp only [Bool.false_eq_true, if_false]; rw [Int.mul_neg, ← Int.neg_mul, Int.neg_sub]
  omega
def Trail (fl : List cC) : List Way → Int → Int → Prop
  | [], x, y => x = y
  | w :: l, x, y => w.fin fl = x ∧ Trail fl l (w.gq fl) y
theorem tw (hl : a.length = fl.length) (k : Int) : ∀ (l : List Way) (a : List Int) (x y : Int), a.length = fl.length → (∀ w ∈ l, w.ix < fl.length) → Trail fl l x y → ∀ c, over fl (eH a l k) c = over fl a c + (ind (x = c) - ind (y = c)) * k
  | [], a, x, y, _, _, h, c => by obtain rfl : x = y := h; simp [eH]
  | w :: l, a, x, y, ha, hw, h, c => by
    show over fl (eH (k8 a w k) l k) c = _
    rw [tw hl k l _ (w.gq fl) y (by rw [qJ]; exact ha) (fun u hu => hw u (List.mem_cons_of_mem _ hu)) h.2, DA ha (hw w List.mem_cons_self), h.1]
    rw [Int.add_assoc, ← Int.add_mul]
    congr 2; omega
theorem GY (hl : a.length = fl.length) (hw : w.ix < fl.length) {k : Int} (hk : 0 ≤ k) (hne : u ≠ w) : u.room fl a ≤ u.room fl (k8 a w k) := by
 unfold Way.room
 rw [kG (by omega)]
 by_cases e : w.ix = u.ix
 ·rw [if_pos e]
  have hm : u.more ≠ w.more := fun h => hne (by cases u; cases w; simp_all)
  unfold xy
  revert hm
  cases u.more <;> cases w.more <;> simp <;> omega
 rw [if_neg e]; exact Int.le_refl _
theorem Fi (h : yE fl a) (hw : w.ix < fl.length) {k : Int} (hk : 0 ≤ k) (hr : k ≤ w.room fl a) : yE fl (k8 a w k) := by
 refine ⟨by rw [qJ]; exact h.1, fun i hi => ?_⟩
 have hb := h.2 i hi
 have hl := h.1
 rw [kG (by omega)]
 split
 ·rename_i e; subst e
  unfold Way.room at hr; unfold xy
  revert hr
  cases w.more <;> simp <;> omega
 exact hb
theorem wG {k : Int} (hk : 0 ≤ k) : ∀ (l : List Way) (a : List Int), yE fl a → l.Nodup → (∀ w ∈ l, w.ix < fl.length ∧ k ≤ w.room fl a) → yE fl (eH a l k)
  | [], _, h, _, _ => h
  | w :: l, a, h, hn, hw => by
    rw [List.nodup_cons] at hn
    have h0 := hw w List.mem_cons_self
    refine wG hk l _ (Fi h h0.1 hk h0.2) hn.2 fun u hu => ?_
    have h1 := hw u (List.mem_cons_of_mem _ hu)
    exact ⟨h1.1, Int.le_trans h1.2 (GY h.1 h0.1 hk fun e => hn.1 (by rw [← e]; exact hu))⟩
theorem CG (hl : a.length = fl.length) (h : w.ix < fl.length) (g : Nat → Int) (k : Int) : cy (fun i => g i * nth (k8 a w k) i) fl.length = cy (fun i => g i * nth a i) fl.length + xy w (g w.ix) * k := by
  have e : cy (fun i => g i * nth (k8 a w k) i) fl.length - cy (fun i => g i * nth a i) fl.length = xy w (g w.ix) * k := by
    rw [← kY, iE h fun i _ hn => by rw [kG (by omega), if_neg (fun e => hn e.symm)]; omega]
    rw [kG (by omega), if_pos rfl, ← Int.mul_sub, show nth a w.ix + xy w k - nth a w.ix = xy w k by omega]
    unfold xy
    cases w.more with
    | true => simp
    | false => simp only [Bool.false_eq_true, if_false]; rw [Int.mul_neg, Int.neg_mul]
  omega
def xT (g : Nat → Int) (l : List Way) : Int := (l.map fun w => xy w (g w.ix)).sum
theorem wS (g : Nat → Int) (k : Int) : ∀ (l : List Way) (a : List Int), a.length = fl.length → (∀ w ∈ l, w.ix < fl.length) → cy (fun i => g i * nth (eH a l k) i) fl.length = cy (fun i => g i * nth a i) fl.length + xT g l * k
  | [], a, _, _ => by simp [eH, xT]
  | w :: l, a, ha, hw => by
    show cy (fun i => g i * nth (eH (k8 a w k) l k) i) fl.length = _
    rw [wS g k l _ (by rw [qJ]; exact ha) fun u hu => hw u (List.mem_cons_of_mem _ hu), CG ha (hw w List.mem_cons_self)]
    unfold xT
    rw [List.map_cons, List.sum_cons, Int.add_mul]; omega
theorem CX (hN : Net fl n) : cy (fun c => over fl a c) n = 0 := by
 have h := xp (a := a) hN fun _ => 1
 rw [eD (g := fun c : Nat => over fl a c) fun c _ => Int.one_mul _] at h
 rw [h]
 exact gZ fun i _ => by rw [Int.sub_self, Int.zero_mul]
theorem K9 (hN : Net fl n) (h : ∀ c : Nat, c < n → ¬ 0 < over fl a c) : Cl fl n a := by
 intro c hc
 have h0 := CX (a := a) hN
 by_cases e : over fl a c = 0
 ·exact e
 have := zk (f := fun c : Nat => over fl a c) (g := fun _ => 0) hc (fun i hi => by have := h i hi; show over fl a i ≤ 0; omega) (by have := h c hc; show over fl a c < 0; omega)
 rw [h0, gZ fun _ _ => rfl] at this
 omega
end
end Go.Proofs.YtelbollidfdcjaaGreat
namespace Go.Proofs.YtelbollidfdcjaaGreat
open Go Go.T
section
variable {fl : List cC} {a : List Int} {n : Nat} {s : Int} {c : Int} {w : Way}
structure rE where
  by_ : List (Int × Way)
  queue : List Int
instance : Inhabited rE := ⟨⟨[], []⟩⟩
def xz (q : List (Int × Way)) (s c : Int) : Prop := c = s ∨ c ∈ q.map Prod.fst
def vD (fl : List cC) (s : Int) (q : List (Int × Way)) (w : Way) : Bool := !(e9 q (w.fin fl)).isSome && !decide (w.fin fl = s)
def uy (fl : List cC) (s : Int) (x : rE) (w : Way) : rE := if vD fl s x.by_ w = true then ⟨gk x.by_ (w.fin fl) w, x.queue ++ [w.fin fl]⟩ else x
theorem tT {x : rE} (h : vD fl s x.by_ w = true) : uy fl s x w = ⟨gk x.by_ (w.fin fl) w, x.queue ++ [w.fin fl]⟩ := if_pos h
theorem xG {x : rE} (h : vD fl s x.by_ w = false) : uy fl s x w = x := if_neg (by rw [h]; decide)
def fD (fl : List cC) (a : List Int) (s c : Int) (x : rE) (k : Nat) : rE := ((bO fl a c).take k).foldl (uy fl s) x
theorem nq {x : rE} {k : Nat} (hk : k < (bO fl a c).length) : fD fl a s c x (k + 1) = uy fl s (fD fl a s c x k) (nth (bO fl a c) k) := by
 unfold fD; rw [eG hk, List.foldl_append]; rfl
def wT (fl : List cC) (a : List Int) (s : Int) (x : rE) : rE ⊕ List (Int × Way) :=
  match x.queue with
  | [] => .inr x.by_
  | c :: r => .inl (fD fl a s c ⟨x.by_, r⟩ (bO fl a c).length)
noncomputable def cO (fl : List cC) (a : List Int) (s : Int) : List (Int × Way) := nB (wT fl a s) ⟨[], [s]⟩
structure l7 (fl : List cC) (a : List Int) (n : Nat) (s : Int) (x : rE) (cur : Option (Int × List Way)) : Prop where
  keys : (x.by_.map Prod.fst).Nodup
  range : ∀ c ∈ x.by_.map Prod.fst, 0 ≤ c ∧ c < n
  out : s ∉ x.by_.map Prod.fst
  q : ∀ c ∈ x.queue, xz x.by_ s c
  arc : ∃ dep : Int → Nat, dep s = 0 ∧ ∀ c w, e9 x.by_ c = some w → Open fl a w ∧ w.fin fl = c ∧ xz x.by_ s (w.gq fl) ∧ dep (w.gq fl) < dep c ∧ dep c ≤ x.by_.length
  done : ∀ c, xz x.by_ s c → c ∉ x.queue → ∀ w ∈ bO fl a c, xz x.by_ s (w.fin fl) ∨ ∃ r, cur = some (c, r) ∧ w ∈ r
  cur : ∀ c r, cur = some (c, r) → xz x.by_ s c ∧ ∀ w ∈ r, Open fl a w ∧ w.gq fl = c
theorem La (hs : 0 ≤ s ∧ s < n) : l7 fl a n s ⟨[], [s]⟩ none :=
 ⟨List.nodup_nil, (fun c h => by cases h), (fun h => by cases h), fun c h => .inl (List.mem_singleton.1 h), ⟨fun _ => 0, rfl, fun c w h => by cases h⟩,
  (fun c h hn => by
   rcases h with rfl | h
   ·exact absurd (List.mem_singleton.2 rfl) hn
   cases h), fun c r h => by cases h⟩
theorem l7.look (hN : Net fl n) {x : rE} {r : List Way} (h : l7 fl a n s x (some (c, w :: r))) : l7 fl a n s (uy fl s x w) (some (c, r)) := by
  obtain ⟨hm, hw⟩ := h.cur c _ rfl
  obtain ⟨ho, hb⟩ := hw w List.mem_cons_self
  cases e : vD fl s x.by_ w with
  | false =>
    rw [xG e]
    have hmet : xz x.by_ s (w.fin fl) := by
      unfold vD at e
      rw [Bool.and_eq_false_iff, Bool.not_eq_false', Bool.not_eq_false', decide_eq_true_eq] at e
      rcases e with e | e
      · obtain ⟨v, hv⟩ := Option.isSome_iff_exists.1 e; exact .inr (mZ hv)
      · exact .inl e
    refine ⟨h.keys, h.range, h.out, h.q, h.arc, fun c' hc hn u hu => ?_, fun c' r' e' => ?_⟩
    · rcases h.done c' hc hn u hu with h1 | ⟨r', e', hr⟩
      · exact .inl h1
      · injection e' with e'; injection e' with e1 e2; subst e1; subst e2
        rcases List.mem_cons.1 hr with rfl | hr
        · exact .inl hmet
        · exact .inr ⟨r, rfl, hr⟩
    · injection e' with e'; injection e' with e1 e2; subst e1; subst e2
      exact ⟨hm, fun u hu => hw u (List.mem_cons_of_mem _ hu)⟩
  | true =>
    rw [tT e]
    unfold vD at e
    rw [Bool.and_eq_true, Bool.not_eq_true', Bool.not_eq_true', decide_eq_false_iff_not] at e
    have hnone : e9 x.by_ (w.fin fl) = none := by cases h : e9 x.by_ (w.fin fl) with | none => rfl | some v => rw [h] at e; cases e.1
    have hnk : w.fin fl ∉ x.by_.map Prod.fst := fun hk => by obtain ⟨v, hv⟩ := pg hk; rw [hnone] at hv; cases hv
    have hkeys : ∀ z, z ∈ (gk x.by_ (w.fin fl) w).map Prod.fst ↔ z = w.fin fl ∨ z ∈ x.by_.map Prod.fst := qo x.by_ (w.fin fl) w
    have hMet : ∀ z, xz (gk x.by_ (w.fin fl) w) s z ↔ z = w.fin fl ∨ xz x.by_ s z := fun z => by
      unfold xz; rw [hkeys]
      constructor
      · rintro (h | h | h)
        · exact .inr (.inl h)
        · exact .inl h
        · exact .inr (.inr h)
      · rintro (h | h | h)
        · exact .inr (.inl h)
        · exact .inl h
        · exact .inr (.inr h)
    have hnm : ¬ xz x.by_ s (w.fin fl) := fun h => h.elim e.2 hnk
    refine ⟨ED _ _ _ h.keys, fun z hz => ?_, fun hs => ?_, fun z hz => ?_, ?_, fun z hz hn u hu => ?_, fun c' r' e' => ?_⟩
    · rcases (hkeys z).1 hz with rfl | hz
      · exact (hN.way ho.1).2.1
      · exact h.range z hz
    · rcases (hkeys s).1 hs with hs | hs
      · exact e.2 hs.symm
      · exact h.out hs
    · rw [hMet]
      rcases List.mem_append.1 hz with hz | hz
      · exact .inr (h.q z hz)
      · exact .inl (List.mem_singleton.1 hz)
    · obtain ⟨dep, d0, hd⟩ := h.arc
      refine ⟨fun z => if z = w.fin fl then dep c + 1 else dep z, by show (if s = w.fin fl then _ else _) = 0; rw [if_neg (fun h => e.2 h.symm)]; exact d0, fun z u hz => ?_⟩
      rw [yf] at hz
      rw [CR _ _ _ hnone]
      have hcl : dep c ≤ x.by_.length := by
        rcases hm with rfl | hm
        · omega
        · obtain ⟨v, hv⟩ := pg hm; exact (hd c v hv).2.2.2.2
      have hcn : c ≠ w.fin fl := fun h => hnm (by rw [← h]; exact hm)
      by_cases ez : w.fin fl = z
      · rw [if_pos ez] at hz; injection hz with hz; subst hz
        refine ⟨ho, ez, (hMet _).2 (.inr (by rw [hb]; exact hm)), ?_, ?_⟩
        · show (if w.gq fl = w.fin fl then _ else _) < if z = w.fin fl then _ else _
          rw [hb, if_neg hcn, if_pos ez.symm]; omega
        · show (if z = w.fin fl then _ else _) ≤ _
          rw [if_pos ez.symm]; omega
      · rw [if_neg ez] at hz
        obtain ⟨a1, a2, a3, a4, a5⟩ := hd z u hz
        have hbn : u.gq fl ≠ w.fin fl := fun h => hnm (by rw [← h]; exact a3)
        refine ⟨a1, a2, (hMet _).2 (.inr a3), ?_, ?_⟩
        · show (if u.gq fl = w.fin fl then _ else _) < if z = w.fin fl then _ else _
          rw [if_neg hbn, if_neg (fun h => ez h.symm)]; exact a4
        · show (if z = w.fin fl then _ else _) ≤ _
          rw [if_neg (fun h => ez h.symm)]; omega
    · have hzn : z ≠ w.fin fl := fun h => hn (List.mem_append.2 (.inr (by rw [h]; exact List.mem_singleton.2 rfl)))
      have hz' : xz x.by_ s z := ((hMet z).1 hz).resolve_left hzn
      rcases h.done z hz' (fun h => hn (List.mem_append.2 (.inl h))) u hu with h1 | ⟨r', e', hr⟩
      · exact .inl ((hMet _).2 (.inr h1))
      · injection e' with e'; injection e' with e1 e2; subst e1; subst e2
        rcases List.mem_cons.1 hr with rfl | hr
        · exact .inl ((hMet _).2 (.inl rfl))
        · exact .inr ⟨r, rfl, hr⟩
    · injection e' with e'; injection e' with e1 e2; subst e1; subst e2
      exact ⟨(hMet _).2 (.inr hm), fun u hu => hw u (List.mem_cons_of_mem _ hu)⟩
theorem l7.fold (hN : Net fl n) {x : rE} (h : l7 fl a n s x (some (c, bO fl a c))) : ∀ k, k ≤ (bO fl a c).length → l7 fl a n s (fD fl a s c x k) (some (c, (bO fl a c).drop k))
  | 0, _ => by rw [List.drop_zero]; exact h
  | k + 1, hk => by
    have ih := l7.fold hN h k (by omega)
    rw [nq (by omega)]
    refine l7.look hN (w := nth (bO fl a c) k) ?_
    rw [List.drop_eq_getElem_cons (show k < (bO fl a c).length by omega)] at ih
    have e : nth (bO fl a c) k = (bO fl a c)[k] := by unfold nth; rw [List.getD_eq_getElem?_getD, List.getElem?_eq_getElem (by omega)]; rfl
    rw [e]; exact ih
theorem l7.pop {x : rE} {r : List Int} (h : l7 fl a n s x none) (hq : x.queue = c :: r) : l7 fl a n s ⟨x.by_, r⟩ (some (c, bO fl a c)) := by
 have hc := h.q c (by rw [hq]; exact List.mem_cons_self)
 refine ⟨h.keys, h.range, h.out, fun z hz => h.q z (by rw [hq]; exact List.mem_cons_of_mem _ hz), h.arc, fun z hz hn u hu => ?_, fun c' r' e => ?_⟩
 ·by_cases ez : z = c
  ·subst ez; exact .inr ⟨_, rfl, hu⟩
  rcases h.done z hz (fun hm => by rw [hq] at hm; rcases List.mem_cons.1 hm with e | e; exact ez e; exact hn e) u hu with h1 | ⟨_, e, _⟩
  ·exact .inl h1
  cases e
 injection e with e; injection e with e1 e2; subst e1; subst e2
 exact ⟨hc, fun w hw => nU.1 hw⟩
theorem l7.over {x : rE} (h : l7 fl a n s x (some (c, []))) : l7 fl a n s x none :=
 ⟨h.keys, h.range, h.out, h.q, h.arc, fun z hz hn u hu => (h.done z hz hn u hu).elim .inl (fun ⟨_, e, hr⟩ => by injection e with e; injection e with _ e; subst e; cases hr), fun _ _ e => by cases e⟩
theorem l7.pT {x : rE} {cur : Option (Int × List Way)} (h : l7 fl a n s x cur) : x.by_.length ≤ n := by
 have := sS h.keys h.range
 rwa [List.length_map] at this
def M9 (n : Nat) (x : rE) : Nat := (n - x.by_.length) * 2 + x.queue.length
theorem IM {x : rE} : (uy fl s x w).by_.length ≥ x.by_.length ∧ (uy fl s x w).queue.length + x.by_.length = x.queue.length + (uy fl s x w).by_.length := by
  cases e : vD fl s x.by_ w with
  | false => rw [xG e]; exact ⟨Nat.le_refl _, rfl⟩
  | true =>
    rw [tT e]
    unfold vD at e
    rw [Bool.and_eq_true, Bool.not_eq_true'] at e
    have hnone : e9 x.by_ (w.fin fl) = none := by cases h : e9 x.by_ (w.fin fl) with | none => rfl | some v => rw [h] at e; cases e.1
    show (gk _ _ _).length ≥ _ ∧ (x.queue ++ [w.fin fl]).length + _ = _ + (gk _ _ _).length
    rw [CR _ _ _ hnone, List.length_append, List.length_singleton]; omega
theorem xe {x : rE} : ∀ k, k ≤ (bO fl a c).length → (fD fl a s c x k).by_.length ≥ x.by_.length ∧ (fD fl a s c x k).queue.length + x.by_.length = x.queue.length + (fD fl a s c x k).by_.length
  | 0, _ => ⟨Nat.le_refl _, rfl⟩
  | k + 1, hk => by
    have h1 := xe (x := x) k (by omega)
    rw [nq (by omega)]
    have h2 := IM (fl := fl) (s := s) (x := fD fl a s c x k) (w := nth (bO fl a c) k)
    omega
theorem xj (hN : Net fl n) {x : rE} {r : List Int} (h : l7 fl a n s x none) (hq : x.queue = c :: r) : l7 fl a n s (fD fl a s c ⟨x.by_, r⟩ (bO fl a c).length) none ∧ M9 n (fD fl a s c ⟨x.by_, r⟩ (bO fl a c).length) < M9 n x := by
 have h1 := (h.pop hq).fold hN _ (Nat.le_refl _)
 rw [List.drop_length] at h1
 refine ⟨h1.over, ?_⟩
 have h2 := xe (fl := fl) (a := a) (s := s) (c := c) (x := ⟨x.by_, r⟩) _ (Nat.le_refl _)
 have h3 := h1.pT
 unfold M9
 rw [hq, List.length_cons]
 simp only at h2
 omega
structure zU (fl : List cC) (a : List Int) (n : Nat) (s : Int) (q : List (Int × Way)) : Prop where
  keys : (q.map Prod.fst).Nodup
  range : ∀ c ∈ q.map Prod.fst, 0 ≤ c ∧ c < n
  out : s ∉ q.map Prod.fst
  arc : ∃ dep : Int → Nat, dep s = 0 ∧ ∀ c w, e9 q c = some w → Open fl a w ∧ w.fin fl = c ∧ xz q s (w.gq fl) ∧ dep (w.gq fl) < dep c ∧ dep c ≤ q.length
  closed : ∀ w, Open fl a w → xz q s (w.gq fl) → xz q s (w.fin fl)
theorem l7.spec {x : rE} (h : l7 fl a n s x none) (hq : x.queue = []) : zU fl a n s x.by_ :=
 ⟨h.keys, h.range, h.out, h.arc, fun w ho hm => (h.done _ hm (by rw [hq]; exact List.not_mem_nil) w (nU.2 ⟨ho, rfl⟩)).elim id fun ⟨_, e, _⟩ => by cases e⟩
theorem q3 (hN : Net fl n) (hs : 0 ≤ s ∧ s < n) : zU fl a n s (cO fl a s) := by
  refine nP (fun x => l7 fl a n s x none) (zU fl a n s) (M9 n) (fun x h => ?_) _ (La hs)
  cases hq : x.queue with
  | nil => exact .inr ⟨x.by_, by unfold wT; rw [hq], h.spec hq⟩
  | cons c r => exact .inl ⟨_, by unfold wT; rw [hq], xj hN h hq⟩
theorem zU.pT {q : List (Int × Way)} (h : zU fl a n s q) : q.length ≤ n := by
 have := sS h.keys h.range
 rwa [List.length_map] at this
end
end Go.Proofs.YtelbollidfdcjaaGreat
namespace Go.Proofs.YtelbollidfdcjaaGreat
open Go Go.T
section
variable {fl : List cC} {a : List Int} {n : Nat} {s t c : Int} {w : Way} {q : List (Int × Way)}
def jv (q : List (Int × Way)) (c : Int) : Way := (e9 q c).getD default
def Ed (fl : List cC) (q : List (Int × Way)) (s : Int) (x : Int × List Way) : (Int × List Way) ⊕ List Way :=
  if x.1 = s then .inr x.2 else .inl ((jv q x.1).gq fl, x.2 ++ [jv q x.1])
noncomputable def gr (fl : List cC) (q : List (Int × Way)) (s t : Int) : List Way := nB (Ed fl q s) (t, [])
structure G3 (fl : List cC) (a : List Int) (s t : Int) (l : List Way) : Prop where
  trail : Trail fl l t s
  ways : ∀ w ∈ l, Open fl a w
  nodup : l.Nodup
structure G2 (fl : List cC) (a : List Int) (q : List (Int × Way)) (s t : Int) (dep : Int → Nat) (x : Int × List Way) : Prop where
  trail : Trail fl x.2 t x.1
  ways : ∀ w ∈ x.2, Open fl a w
  deep : ∀ w ∈ x.2, dep x.1 < dep (w.fin fl)
  nodup : x.2.Nodup
  met : xz q s x.1
  pT : x.2.length + dep x.1 ≤ dep t
theorem tM : ∀ {l : List Way} {x y : Int}, Trail fl l x y → w.fin fl = y → Trail fl (l ++ [w]) x (w.gq fl)
  | [], x, y, h, e => ⟨e.trans (show x = y from h).symm, rfl⟩
  | _ :: _, _, _, h, e => ⟨h.1, tM h.2 e⟩
theorem G2.next {dep : Int → Nat} (hd : ∀ c w, e9 q c = some w → Open fl a w ∧ w.fin fl = c ∧ xz q s (w.gq fl) ∧ dep (w.gq fl) < dep c ∧ dep c ≤ q.length) {x : Int × List Way} (h : G2 fl a q s t dep x) (hx : ¬ x.1 = s) :
 G2 fl a q s t dep ((jv q x.1).gq fl, x.2 ++ [jv q x.1]) ∧ dep ((jv q x.1).gq fl) < dep x.1 := by
 obtain ⟨v, hv⟩ := pg (h.met.resolve_left hx)
 have ev : jv q x.1 = v := by unfold jv; rw [hv]; rfl
 rw [ev]
 obtain ⟨h1, h2, h3, h4, _⟩ := hd _ _ hv
 refine ⟨⟨tM h.trail h2, fun w hw => ?_, fun w hw => ?_, ?_, h3, ?_⟩, h4⟩
 ·rcases List.mem_append.1 hw with hw | hw
  ·exact h.ways w hw
  rw [List.mem_singleton.1 hw]; exact h1
 ·rcases List.mem_append.1 hw with hw | hw
  ·exact Nat.lt_trans h4 (h.deep w hw)
  rw [List.mem_singleton.1 hw, h2]; exact h4
 ·rw [List.nodup_append]
  refine ⟨h.nodup, by simp, fun u hu w hw e => ?_⟩
  rw [List.mem_singleton.1 hw] at e
  have := h.deep u hu
  rw [e, h2] at this; omega
 show (x.2 ++ [v]).length + dep (v.gq fl) ≤ dep t
 rw [List.length_append, List.length_singleton]
 have := h.pT; omega
theorem Fw (h : zU fl a n s q) (ht : xz q s t) : G3 fl a s t (gr fl q s t) ∧ (gr fl q s t).length ≤ q.length := by
 obtain ⟨dep, d0, hd⟩ := h.arc
 have htq : dep t ≤ q.length := by
  rcases ht with rfl | ht
  ·omega
  obtain ⟨v, hv⟩ := pg ht; exact (hd _ _ hv).2.2.2.2
 refine nP (G2 fl a q s t dep) (fun l => G3 fl a s t l ∧ l.length ≤ q.length) (fun x => dep x.1) (fun x hI => ?_) _ ⟨rfl, (fun w h => by cases h), (fun w h => by cases h), List.nodup_nil, ht, by simp⟩
 by_cases e : x.1 = s
 ·exact .inr ⟨x.2, if_pos e, ⟨by have := hI.trail; rwa [e] at this, hI.ways, hI.nodup⟩, by have := hI.pT; omega⟩
 obtain ⟨h1, h2⟩ := hI.next hd e
 exact .inl ⟨_, if_neg e, h1, h2⟩
def gR (fl : List cC) (a : List Int) (n : Nat) : List Int := (List.range n).map fun c => over fl a (c : Nat)
theorem yh : (gR fl a n).length = n := by unfold gR; rw [List.length_map, List.length_range]
theorem tG {k : Nat} (h : k < n) : nth (gR fl a n) k = over fl a k := by
 unfold gR nth
 rw [List.getD_eq_getElem?_getD, List.getElem?_map, List.getElem?_range h]; rfl
def fC (fl : List cC) (a : List Int) (m : Int) (l : List Way) : Int := l.foldl (fun m w => min m (w.room fl a)) m
theorem q7 (m : Int) (l : List Way) : fC fl a m (l ++ [w]) = min (fC fl a m l) (w.room fl a) := by unfold fC; rw [List.foldl_append]; rfl
theorem sM (m : Int) : ∀ (l : List Way), fC fl a m l ≤ m ∧ ∀ w ∈ l, fC fl a m l ≤ w.room fl a := by
 refine Bb ⟨Int.le_refl _, fun w h => by cases h⟩ fun l u ih => ?_
 rw [q7]
 refine ⟨by have := ih.1; omega, fun w hw => ?_⟩
 rcases List.mem_append.1 hw with hw | hw
 ·have := ih.2 w hw; omega
 rw [List.mem_singleton.1 hw]; omega
theorem p7 {m : Int} (hm : 0 < m) : ∀ (l : List Way), (∀ w ∈ l, Open fl a w) → 0 < fC fl a m l := by
 refine Bb (fun _ => hm) fun l u ih h => ?_
 rw [q7]
 have h1 := ih fun w hw => h w (List.mem_append.2 (.inl hw))
 have h2 := (h u (List.mem_append.2 (.inr (List.mem_singleton.2 rfl)))).2
 omega
def dc (fl : List cC) (a : List Int) (n : Nat) : Int := fidx (fun x : Int => decide (x > 0)) (gR fl a n)
def jr (fl : List cC) (a : List Int) (q : List (Int × Way)) (c : Nat) : Bool := (e9 q (c : Int)).isSome && decide (over fl a c < 0)
def eY (fl : List cC) (a : List Int) (n : Nat) (q : List (Int × Way)) : Int := fidx (jr fl a q) (List.range n)
noncomputable def kX (fl : List cC) (a : List Int) (s t : Int) : List Int :=
  eH a (gr fl (cO fl a s) s t) (fC fl a (min (over fl a s) (-over fl a t)) (gr fl (cO fl a s) s t))
noncomputable def EO (fl : List cC) (n : Nat) (a : List Int) : List Int ⊕ (Int × Bool × List Int) :=
  if dc fl a n < 0 then .inr (0, false, a)
  else if eY fl a n (cO fl a (dc fl a n)) < 0 then .inr (dc fl a n, true, a)
  else .inl (kX fl a (dc fl a n) (eY fl a n (cO fl a (dc fl a n))))
instance : Inhabited (Int × Bool × List Int) := ⟨(0, false, [])⟩
noncomputable def gK (fl : List cC) (n : Nat) (a : List Int) : Int × Bool × List Int := nB (EO fl n) a
theorem Bj {α : Type} [Inhabited α] {p : α → Bool} {l : List α} (h : ¬ fidx p l < 0) : ∃ k : Nat, k < l.length ∧ fidx p l = k ∧ p (nth l k) = true := by
  unfold fidx at *
  cases e : l.findIdx? p with
  | none => rw [e] at h; exact absurd (by decide) h
  | some i =>
    rw [List.findIdx?_eq_some_iff_getElem] at e
    obtain ⟨h1, h2, _⟩ := e
    refine ⟨i, h1, rfl, ?_⟩
    unfold nth; rw [List.getD_eq_getElem?_getD, List.getElem?_eq_getElem h1]; exact h2
theorem Cj {α : Type} {p : α → Bool} {l : List α} (h : fidx p l < 0) : ∀ x ∈ l, p x = false := by
  unfold fidx at h
  cases e : l.findIdx? p with
  | none => simpa using e
  | some i => rw [e] at h; exact absurd h (by show ¬ ((i : Int) < 0); omega)
theorem Ih (h : dc fl a n < 0) : ∀ c : Nat, c < n → ¬ 0 < over fl a c := fun c hc => by
 have := Cj h (over fl a c) (List.mem_map.2 ⟨c, List.mem_range.2 hc, rfl⟩)
 simpa using this
theorem w8 (h : ¬ dc fl a n < 0) : ∃ k : Nat, k < n ∧ dc fl a n = k ∧ 0 < over fl a k := by
 obtain ⟨k, h1, h2, h3⟩ := Bj h
 rw [yh] at h1
 rw [tG h1] at h3
 exact ⟨k, h1, h2, by simpa using h3⟩
theorem Fc (h : eY fl a n q < 0) : ∀ c : Nat, c < n → (e9 q (c : Int)).isSome = true → 0 ≤ over fl a c := fun c hc hq => by
 have := Cj h c (List.mem_range.2 hc)
 unfold jr at this
 rw [hq, Bool.true_and, decide_eq_false_iff_not] at this; omega
theorem tW (h : ¬ eY fl a n q < 0) : ∃ k : Nat, k < n ∧ eY fl a n q = k ∧ (e9 q (k : Int)).isSome = true ∧ over fl a k < 0 := by
 obtain ⟨k, h1, h2, h3⟩ := Bj h
 rw [List.length_range] at h1
 have e : nth (List.range n) k = k := by unfold nth; rw [List.getD_eq_getElem?_getD, List.getElem?_range h1]; rfl
 rw [e] at h3
 unfold jr at h3
 rw [Bool.and_eq_true, decide_eq_true_eq] at h3
 exact ⟨k, h1, h2, h3.1, h3.2⟩
def NX (fl : List cC) (n : Nat) (a : List Int) : Nat := (cy (fun c => max (over fl a (c : Nat)) 0) n).toNat
theorem BH {f : Nat → Int} {n : Nat} (h : ∀ i, i < n → 0 ≤ f i) : 0 ≤ cy f n := by
 have := su (f := fun _ => 0) (g := f) (n := n) h
 rwa [gZ fun _ _ => rfl] at this
theorem I9 {f g : Nat → Int} {k : Nat} (hk : k < n) (h : ∀ i, i < n → i ≠ k → f i = g i) : cy f n = cy g n + (f k - g k) := by
 have e : cy (fun i => f i - g i) n = f k - g k := iE (f := fun i => f i - g i) hk fun i hi hn => by rw [h i hi hn]; omega
 rw [kY] at e; omega
structure N9 (fl : List cC) (a : List Int) (n : Nat) (s t : Int) : Prop where
  inb : yE fl (kX fl a s t)
  less : NX fl n (kX fl a s t) < NX fl n a
  trail : G3 fl a s t (gr fl (cO fl a s) s t)
  pT : (gr fl (cO fl a s) s t).length ≤ n
  pos : 0 < fC fl a (min (over fl a s) (-over fl a t)) (gr fl (cO fl a s) s t)
theorem sent (hN : Net fl n) (h : yE fl a) {s t : Nat} (hs : s < n) (ht : t < n) (hps : 0 < over fl a s) (hq : (e9 (cO fl a s) (t : Int)).isSome = true) (hpt : over fl a t < 0) : N9 fl a n s t := by
 have hR := q3 (a := a) hN (show 0 ≤ (s : Int) ∧ (s : Int) < n by omega)
 obtain ⟨v, hv⟩ := Option.isSome_iff_exists.1 hq
 obtain ⟨hP, hlen⟩ := Fw hR (.inr (mZ hv))
 have hpos := p7 (fl := fl) (a := a) (m := min (over fl a s) (-over fl a t)) (by omega) _ hP.ways
 obtain ⟨hm1, hm2⟩ := sM (fl := fl) (a := a) (min (over fl a s) (-over fl a t)) (gr fl (cO fl a s) s t)
 have hin := wG (Int.le_of_lt hpos) (gr fl (cO fl a s) s t) a h hP.nodup fun w hw => ⟨(hP.ways w hw).1, hm2 w hw⟩
 have hov := tw (fl := fl) h.1 (fC fl a (min (over fl a s) (-over fl a t)) (gr fl (cO fl a s) s t)) _ a _ _ h.1 (fun w hw => (hP.ways w hw).1) hP.trail
 refine ⟨hin, ?_, hP, Nat.le_trans hlen hR.pT, hpos⟩
 unfold NX kX
 generalize fC fl a (min (over fl a s) (-over fl a t)) (gr fl (cO fl a s) s t) = m at *
 generalize eH a (gr fl (cO fl a s) s t) m = b at *
 have hne : s ≠ t := fun e => by subst e; omega
 have e1 : cy (fun c : Nat => max (over fl b c) 0) n = cy (fun c : Nat => max (over fl a c) 0) n + (max (over fl b s) 0 - max (over fl a s) 0) := by
  refine I9 hs fun i hi hn => ?_
  rw [hov i, fH (p := (s : Int) = i) (by omega)]
  by_cases e : t = i
  ·subst e; rw [fR rfl]; omega
  rw [fH (by omega)]; omega
 have e2 : over fl b s = over fl a s - m := by rw [hov s, fH (by omega), fR rfl]; omega
 have h0 := BH (f := fun c : Nat => max (over fl b c) 0) (n := n) fun i _ => by show 0 ≤ max _ 0; omega
 rw [e1, e2] at h0 ⊢
 omega
structure wJ (fl : List cC) (n : Nat) (r : Int × Bool × List Int) : Prop where
  inb : yE fl r.2.2
  yes : r.2.1 = false → Cl fl n r.2.2 ∧ r.1 = 0
  no : r.2.1 = true → (0 ≤ r.1 ∧ r.1 < n) ∧ 0 < over fl r.2.2 r.1 ∧ ∀ c : Nat, c < n → xz (cO fl r.2.2 r.1) r.1 c → 0 ≤ over fl r.2.2 c
theorem uU (hN : Net fl n) (h : yE fl a) : wJ fl n (gK fl n a) := by
 refine nP (yE fl) (wJ fl n) (NX fl n) (fun a h => ?_) a h
 unfold EO
 by_cases h1 : dc fl a n < 0
 ·rw [if_pos h1]
  exact .inr ⟨_, rfl, h, fun _ => ⟨K9 hN (Ih h1), rfl⟩, fun e => by cases e⟩
 rw [if_neg h1]
 obtain ⟨s, s1, s2, s3⟩ := w8 h1
 rw [s2]
 by_cases h2 : eY fl a n (cO fl a s) < 0
 ·rw [if_pos h2]
  refine .inr ⟨_, rfl, h, (fun e => by cases e), fun _ => ⟨by show 0 ≤ (s : Int) ∧ (s : Int) < n; omega, s3, fun c hc hm => ?_⟩⟩
  rcases hm with hm | hm
  ·have e : (c : Int) = s := hm
   show 0 ≤ over fl a c
   rw [e]; exact Int.le_of_lt s3
  obtain ⟨v, hv⟩ := pg hm
  exact Fc h2 c hc (by rw [hv]; rfl)
 rw [if_neg h2]
 obtain ⟨t, t1, t2, t3, t4⟩ := tW h2
 rw [t2]
 have hS := sent hN h s1 t1 s3 t3 t4
 exact .inl ⟨_, rfl, hS.inb, hS.less⟩
open Classical in
theorem wJ.none (hN : Net fl n) {r : Int × Bool × List Int} (h : wJ fl n r) (e : r.2.1 = true) : ¬ ∃ a, gb fl n a := by
 obtain ⟨h1, h2, h3⟩ := h.no e
 have hR := q3 (a := r.2.2) hN h1
 obtain ⟨c, hc⟩ : ∃ c : Nat, (c : Int) = r.1 := ⟨r.1.toNat, by omega⟩
 refine Hg hN h.inb (fun c => decide (xz (cO fl r.2.2 r.1) r.1 c)) (fun w ho hm => ?_) (fun c hc hm => h3 c hc (of_decide_eq_true hm)) (c0 := c) (by omega) (decide_eq_true (.inl hc)) (by rw [hc]; exact h2)
 exact decide_eq_true (hR.closed w ho (of_decide_eq_true hm))
theorem wJ.some {r : Int × Bool × List Int} (h : wJ fl n r) (e : r.2.1 = false) : gb fl n r.2.2 := ⟨h.inb, (h.yes e).1⟩
end
end Go.Proofs.YtelbollidfdcjaaGreat
namespace Go.Proofs.YtelbollidfdcjaaGreat
open Go Go.T
section
variable {fl : List cC} {a : List Int} {n : Nat} {G : Nat → Int} {w : Way}
def fo (G : Nat → Int) (w : Way) : Int := xy w (G w.ix)
theorem E1 (hG : ∀ i, -1 ≤ G i ∧ G i ≤ 1) (w : Way) : -1 ≤ fo G w ∧ fo G w ≤ 1 := by
 have := hG w.ix
 unfold fo xy; cases w.more <;> simp <;> omega
structure r7 where
  worth : List Int
  by_ : List Way
  at_ : Int
def lE (fl : List cC) (G : Nat → Int) (st : r7) (c : Nat) (w : Way) : Bool := decide (nth st.worth c + fo G w > nth st.worth (w.fin fl).toNat)
def mG (fl : List cC) (G : Nat → Int) (st : r7) (c : Nat) (w : Way) : r7 := ⟨st.worth.set (w.fin fl).toNat (nth st.worth c + fo G w), st.by_.set (w.fin fl).toNat w, w.fin fl⟩
structure Ks where
  r : Nat
  c : Nat
  j : Nat
  st : r7
def mO (fl : List cC) (a : List Int) (n : Nat) (G : Nat → Int) (x : Ks) : Ks ⊕ Option r7 :=
  if n ≤ x.r then .inr none
  else if n ≤ x.c then (if x.st.at_ < 0 then .inr none else .inl ⟨x.r + 1, 0, 0, ⟨x.st.worth, x.st.by_, -1⟩⟩)
  else if (bO fl a x.c).length ≤ x.j then .inl ⟨x.r, x.c + 1, 0, x.st⟩
  else if lE fl G x.st x.c (nth (bO fl a x.c) x.j) = true then
    (if x.r + 1 = n then .inr (some (mG fl G x.st x.c (nth (bO fl a x.c) x.j))) else .inl ⟨x.r, x.c, x.j + 1, mG fl G x.st x.c (nth (bO fl a x.c) x.j)⟩)
  else .inl ⟨x.r, x.c, x.j + 1, x.st⟩
def MV (n : Nat) : r7 := ⟨List.replicate n 0, List.replicate n default, -1⟩
noncomputable def iY (fl : List cC) (a : List Int) (n : Nat) (G : Nat → Int) : Option r7 := nB (mO fl a n G) ⟨0, 0, 0, MV n⟩
section
variable {x : Ks}
theorem xK (h : ¬ n ≤ x.r) (hc : n ≤ x.c) (ha : x.st.at_ < 0) : mO fl a n G x = .inr none := by unfold mO; rw [if_neg h, if_pos hc, if_pos ha]
theorem uY (h : ¬ n ≤ x.r) (hc : n ≤ x.c) (ha : ¬ x.st.at_ < 0) : mO fl a n G x = .inl ⟨x.r + 1, 0, 0, ⟨x.st.worth, x.st.by_, -1⟩⟩ := by unfold mO; rw [if_neg h, if_pos hc, if_neg ha]
theorem xQ (h : ¬ n ≤ x.r) (hc : ¬ n ≤ x.c) (hj : (bO fl a x.c).length ≤ x.j) : mO fl a n G x = .inl ⟨x.r, x.c + 1, 0, x.st⟩ := by unfold mO; rw [if_neg h, if_neg hc, if_pos hj]
theorem BL (h : ¬ n ≤ x.r) (hc : ¬ n ≤ x.c) (hj : ¬ (bO fl a x.c).length ≤ x.j) (hg : lE fl G x.st x.c (nth (bO fl a x.c) x.j) = false) : mO fl a n G x = .inl ⟨x.r, x.c, x.j + 1, x.st⟩ := by
 unfold mO; rw [if_neg h, if_neg hc, if_neg hj, if_neg (by rw [hg]; decide)]
theorem zX (h : ¬ n ≤ x.r) (hc : ¬ n ≤ x.c) (hj : ¬ (bO fl a x.c).length ≤ x.j) (hg : lE fl G x.st x.c (nth (bO fl a x.c) x.j) = true) (hr : ¬ x.r + 1 = n) : mO fl a n G x = .inl ⟨x.r, x.c, x.j + 1, mG fl G x.st x.c (nth (bO fl a x.c) x.j)⟩ := by
 unfold mO; rw [if_neg h, if_neg hc, if_neg hj, if_pos hg, if_neg hr]
theorem xS (h : ¬ n ≤ x.r) (hc : ¬ n ≤ x.c) (hj : ¬ (bO fl a x.c).length ≤ x.j) (hg : lE fl G x.st x.c (nth (bO fl a x.c) x.j) = true) (hr : x.r + 1 = n) : mO fl a n G x = .inr (some (mG fl G x.st x.c (nth (bO fl a x.c) x.j))) := by
 unfold mO; rw [if_neg h, if_neg hc, if_neg hj, if_pos hg, if_pos hr]
end
structure Gh (fl : List cC) (a : List Int) (n : Nat) (G : Nat → Int) (r : Nat) (st : r7) (R T : Nat → Nat) (τ : Nat) : Prop where
  len : st.worth.length = n ∧ st.by_.length = n
  zero : ∀ v, v < n → R v = 0 → nth st.worth v = 0 ∧ T v = 0
  le : ∀ v, v < n → R v ≤ r + 1 ∧ T v ≤ τ ∧ 0 ≤ nth st.worth v ∧ nth st.worth v ≤ τ
  way : ∀ v, v < n → 0 < R v → Open fl a (nth st.by_ v) ∧ (nth st.by_ v).fin fl = v ∧
    nth st.worth v ≤ nth st.worth ((nth st.by_ v).gq fl).toNat + fo G (nth st.by_ v) ∧
    (T v < T ((nth st.by_ v).gq fl).toNat → nth st.worth v < nth st.worth ((nth st.by_ v).gq fl).toNat + fo G (nth st.by_ v)) ∧
    R v ≤ R ((nth st.by_ v).gq fl).toNat + 1 ∧ 0 < T v
  one : ∀ u v, u < n → v < n → 0 < R u → 0 < R v → T u = T v → u = v
  at_ : (st.at_ = -1 ∧ ∀ v, v < n → R v ≤ r) ∨ ∃ v : Nat, v < n ∧ st.at_ = v ∧ R v = r + 1
def ji (x : Ks) (c k : Nat) : Nat := if c < x.c ∨ c = x.c ∧ k < x.j then x.r + 1 else x.r
structure mH (fl : List cC) (a : List Int) (n : Nat) (G : Nat → Int) (x : Ks) : Prop where
  r : x.r < n
  c : x.c ≤ n
  j : x.j ≤ 2 * fl.length ∧ (x.c = n → x.j = 0)
  last : x.r + 1 = n → x.st.at_ = -1
  gh : ∃ R T τ, Gh fl a n G x.r x.st R T τ ∧ τ ≤ x.r * (n * (2 * fl.length)) + (x.c * (2 * fl.length) + x.j) ∧
    ∀ c k, c < n → k < (bO fl a c).length → ji x c k = 0 ∨ nth x.st.worth c + fo G (nth (bO fl a c) k) ≤ nth x.st.worth ((nth (bO fl a c) k).fin fl).toNat ∨ ji x c k ≤ R c
theorem AV {α : Type} [Inhabited α] (n : Nat) (v : α) (k : Nat) (h : k < n) : nth (List.replicate n v) k = v := by
 unfold nth; rw [List.getD_eq_getElem?_getD, List.getElem?_replicate, if_pos h]; rfl
theorem LS (hn : 0 < n) : mH fl a n G ⟨0, 0, 0, MV n⟩ := by
 refine ⟨hn, Nat.zero_le _, ⟨Nat.zero_le _, fun _ => rfl⟩, fun _ => rfl, fun _ => 0, fun _ => 0, 0, ⟨⟨by simp [MV], by simp [MV]⟩, fun v hv _ => ⟨AV _ _ _ hv, rfl⟩, fun v hv => ?_, fun v _ h => absurd h (Nat.lt_irrefl 0), fun u v _ _ h => absurd h (Nat.lt_irrefl 0), .inl ⟨rfl, fun v _ => Nat.le_refl _⟩⟩, Nat.zero_le _, fun c k _ _ => .inl ?_⟩
 ·have : nth (MV n).worth v = 0 := AV _ _ _ hv
  rw [this]; exact ⟨Nat.zero_le _, Nat.le_refl _, Int.le_refl _, Int.le_refl _⟩
 unfold ji; rw [if_neg (by simp)]
theorem JK {c k : Nat} (h : k < (bO fl a c).length) : Open fl a (nth (bO fl a c) k) ∧ (nth (bO fl a c) k).gq fl = c := nU.1 (cL h)
variable {x : Ks}
theorem mH.cell (h : mH fl a n G x) (hc : ¬ n ≤ x.c) (hj : (bO fl a x.c).length ≤ x.j) : mH fl a n G ⟨x.r, x.c + 1, 0, x.st⟩ := by
 obtain ⟨R, T, τ, h1, h2, h3⟩ := h.gh
 refine ⟨h.r, by show x.c + 1 ≤ n; omega, ⟨Nat.zero_le _, fun _ => rfl⟩, h.last, R, T, τ, h1, ?_, fun c k hc' hk => ?_⟩
 ·have e1 : (x.c + 1) * (2 * fl.length) = x.c * (2 * fl.length) + 2 * fl.length := Nat.succ_mul _ _
  have := h.j.1
  show τ ≤ x.r * (n * (2 * fl.length)) + ((x.c + 1) * (2 * fl.length) + 0)
  generalize x.r * (n * (2 * fl.length)) = A at *
  generalize (x.c + 1) * (2 * fl.length) = B at *
  generalize x.c * (2 * fl.length) = C at *
  omega
 have e : ji ⟨x.r, x.c + 1, 0, x.st⟩ c k = ji x c k := by
  unfold ji
  by_cases e : c < x.c ∨ c = x.c ∧ k < x.j
  ·rw [if_pos e, if_pos (by show c < x.c + 1 ∨ _; omega)]
  rw [if_neg e]
  by_cases e2 : c = x.c
  ·subst e2; omega
  rw [if_neg (by show ¬ (c < x.c + 1 ∨ c = x.c + 1 ∧ k < 0); omega)]
 rw [e]; exact h3 c k hc' hk
theorem mH.round (h : mH fl a n G x) (hc : n ≤ x.c) (hr : ¬ x.r + 1 = n) : mH fl a n G ⟨x.r + 1, 0, 0, ⟨x.st.worth, x.st.by_, -1⟩⟩ := by
 obtain ⟨R, T, τ, h1, h2, h3⟩ := h.gh
 have ec : x.c = n := Nat.le_antisymm h.c hc
 refine ⟨by show x.r + 1 < n; have := h.r; omega, Nat.zero_le _, ⟨Nat.zero_le _, fun _ => rfl⟩, fun _ => rfl, R, T, τ, ⟨h1.len, h1.zero, fun v hv => ?_, h1.way, h1.one, .inl ⟨rfl, fun v hv => (h1.le v hv).1⟩⟩, ?_, fun c k hc' hk => ?_⟩
 ·have := h1.le v hv
  exact ⟨by show R v ≤ x.r + 1 + 1; omega, this.2⟩
 ·have e1 : (x.r + 1) * (n * (2 * fl.length)) = x.r * (n * (2 * fl.length)) + n * (2 * fl.length) := Nat.succ_mul _ _
  show τ ≤ (x.r + 1) * (n * (2 * fl.length)) + (0 * (2 * fl.length) + 0)
  rw [ec, h.j.2 ec] at h2
  generalize (x.r + 1) * (n * (2 * fl.length)) = A at *
  omega
 have e : ji ⟨x.r + 1, 0, 0, ⟨x.st.worth, x.st.by_, -1⟩⟩ c k = ji x c k := by
  unfold ji
  rw [if_neg (show ¬ (c < 0 ∨ c = 0 ∧ k < 0) by omega), if_pos (show c < x.c ∨ c = x.c ∧ k < x.j by omega)]
 rw [e]; exact h3 c k hc' hk
theorem wj {st : r7} {c k : Nat} : ji ⟨x.r, x.c, x.j + 1, st⟩ c k = if c = x.c ∧ k = x.j then x.r + 1 else ji x c k := by
 unfold ji
 by_cases e : c = x.c ∧ k = x.j
 ·rw [if_pos e, if_pos (by show c < x.c ∨ c = x.c ∧ k < x.j + 1; omega)]
 rw [if_neg e]
 by_cases e2 : c < x.c ∨ c = x.c ∧ k < x.j
 ·rw [if_pos e2, if_pos (by show c < x.c ∨ c = x.c ∧ k < x.j + 1; omega)]
 rw [if_neg e2, if_neg (by show ¬ (c < x.c ∨ c = x.c ∧ k < x.j + 1); omega)]
theorem mH.no (h : mH fl a n G x) (hc : ¬ n ≤ x.c) (hj : ¬ (bO fl a x.c).length ≤ x.j) (hg : lE fl G x.st x.c (nth (bO fl a x.c) x.j) = false) : mH fl a n G ⟨x.r, x.c, x.j + 1, x.st⟩ := by
 obtain ⟨R, T, τ, h1, h2, h3⟩ := h.gh
 have hl := ox (fl := fl) (a := a) (c := x.c)
 refine ⟨h.r, h.c, ⟨by show x.j + 1 ≤ _; omega, fun e => absurd (show x.c = n from e) (by omega)⟩, h.last, R, T, τ, h1, Nat.le_trans h2 (show x.r * (n * (2 * fl.length)) + (x.c * (2 * fl.length) + x.j) ≤ x.r * (n * (2 * fl.length)) + (x.c * (2 * fl.length) + (x.j + 1)) by omega), fun c k hc' hk => ?_⟩
 rw [wj]
 by_cases e : c = x.c ∧ k = x.j
 ·rw [if_pos e]
  obtain ⟨e1, e2⟩ := e; subst e1; subst e2
  unfold lE at hg
  rw [decide_eq_false_iff_not] at hg
  exact .inr (.inl (show nth x.st.worth x.c + _ ≤ nth x.st.worth _ by omega))
 rw [if_neg e]; exact h3 c k hc' hk
theorem EV (hN : Net fl n) (hG : ∀ i, -1 ≤ G i ∧ G i ≤ 1) (h : mH fl a n G x) (hc : ¬ n ≤ x.c) (hj : ¬ (bO fl a x.c).length ≤ x.j) (hg : lE fl G x.st x.c (nth (bO fl a x.c) x.j) = true) :
 ∃ R T τ, Gh fl a n G x.r (mG fl G x.st x.c (nth (bO fl a x.c) x.j)) R T τ ∧ τ ≤ x.r * (n * (2 * fl.length)) + (x.c * (2 * fl.length) + (x.j + 1)) ∧ R ((nth (bO fl a x.c) x.j).fin fl).toNat = x.r + 1 ∧
 ∀ c k, c < n → k < (bO fl a c).length → ji ⟨x.r, x.c, x.j + 1, mG fl G x.st x.c (nth (bO fl a x.c) x.j)⟩ c k = 0 ∨ nth (mG fl G x.st x.c (nth (bO fl a x.c) x.j)).worth c + fo G (nth (bO fl a c) k) ≤ nth (mG fl G x.st x.c (nth (bO fl a x.c) x.j)).worth ((nth (bO fl a c) k).fin fl).toNat ∨ ji ⟨x.r, x.c, x.j + 1, mG fl G x.st x.c (nth (bO fl a x.c) x.j)⟩ c k ≤ R c := by
 obtain ⟨R, T, τ, h1, h2, h3⟩ := h.gh
 obtain ⟨ho, hb⟩ := JK (fl := fl) (a := a) (c := x.c) (k := x.j) (by omega)
 have h3c := h3 x.c x.j (by omega) (by omega)
 generalize hw : nth (bO fl a x.c) x.j = w at *
 obtain ⟨_, ⟨hf0, hfn⟩, hne⟩ := hN.way ho.1
 obtain ⟨t, ht⟩ : ∃ t : Nat, (t : Int) = w.fin fl := ⟨(w.fin fl).toNat, by omega⟩
 have htt : (w.fin fl).toNat = t := by omega
 have htn : t < n := by omega
 have hxt : x.c ≠ t := fun e => hne (by rw [hb, ← ht, e])
 unfold lE at hg
 rw [decide_eq_true_eq, htt] at hg
 have hRc : x.r ≤ R x.c := by
  have e : ji x x.c x.j = x.r := by unfold ji; rw [if_neg (by omega)]
  rw [e, htt] at h3c
  rcases h3c with h | h | h
  ·omega
  ·omega
  exact h
 obtain ⟨hl1, hl2⟩ := h1.len
 have nw : ∀ v, v < n → nth (mG fl G x.st x.c w).worth v = if t = v then nth x.st.worth x.c + fo G w else nth x.st.worth v := fun v hv => by
  show nth (x.st.worth.set _ _) v = _; rw [htt, jf (by omega)]
 have nb : ∀ v, v < n → nth (mG fl G x.st x.c w).by_ v = if t = v then w else nth x.st.by_ v := fun v hv => by
  show nth (x.st.by_.set _ _) v = _; rw [htt, jf (by omega)]
 have up : ∀ v, v < n → nth x.st.worth v ≤ nth (mG fl G x.st x.c w).worth v := fun v hv => by
  rw [nw v hv]; split
  ·rename_i e; subst e; omega
  exact Int.le_refl _
 have begn : ∀ v, v < n → 0 < R v → ((nth x.st.by_ v).gq fl).toNat < n := fun v hv hR => by
  have := (hN.way (h1.way v hv hR).1.1).1; omega
 refine ⟨fun v => if v = t then x.r + 1 else R v, fun v => if v = t then τ + 1 else T v, τ + 1, ⟨⟨by show (x.st.worth.set _ _).length = n; rw [List.length_set]; exact hl1, by show (x.st.by_.set _ _).length = n; rw [List.length_set]; exact hl2⟩, fun v hv hR => ?_, fun v hv => ?_, fun v hv hR => ?_, fun u v hu hv hRu hRv e => ?_, .inr ⟨t, htn, ht.symm, if_pos rfl⟩⟩, by omega, by show (if (w.fin fl).toNat = t then _ else _) = _; rw [if_pos htt], fun c k hc' hk => ?_⟩
 ·have hvt : v ≠ t := fun e => by
   have hR : (if v = t then x.r + 1 else R v) = 0 := hR
   rw [if_pos e] at hR; omega
  have hR : (if v = t then x.r + 1 else R v) = 0 := hR
  rw [if_neg hvt] at hR
  show _ ∧ (if v = t then τ + 1 else T v) = 0
  rw [if_neg hvt, nw v hv, if_neg (fun e => hvt e.symm)]
  exact h1.zero v hv hR
 ·have hl := h1.le v hv
  have hlc := h1.le x.c (by omega)
  have hlt := h1.le t htn
  have hw1 := E1 hG w
  show (if v = t then x.r + 1 else R v) ≤ x.r + 1 ∧ (if v = t then τ + 1 else T v) ≤ τ + 1 ∧ _
  rw [nw v hv]
  by_cases e : v = t
  ·subst e
   rw [if_pos rfl, if_pos rfl, if_pos rfl]
   refine ⟨Nat.le_refl _, Nat.le_refl _, ?_, ?_⟩ <;> omega
  rw [if_neg e, if_neg e, if_neg (fun h => e h.symm)]
  refine ⟨hl.1, ?_, hl.2.2.1, ?_⟩ <;> omega
 ·show _ ∧ _ ∧ _ ∧ ((if v = t then τ + 1 else T v) < (if _ = t then τ + 1 else T _) → _) ∧ (if v = t then x.r + 1 else R v) ≤ (if _ = t then x.r + 1 else R _) + 1 ∧ 0 < (if v = t then τ + 1 else T v)
  have hR : 0 < (if v = t then x.r + 1 else R v) := hR
  rw [nb v hv, nw v hv]
  by_cases e : v = t
  ·subst e
   rw [if_pos rfl, if_pos rfl, if_pos rfl, if_pos rfl]
   have e1 : (w.gq fl).toNat = x.c := by rw [hb]; omega
   rw [e1, nw x.c (by omega), if_neg (fun h => hxt h.symm), if_neg hxt, if_neg hxt]
   refine ⟨ho, ht.symm, Int.le_refl _, fun h => ?_, by omega, by omega⟩
   have := (h1.le x.c (by omega)).2.1; omega
  rw [if_neg e, if_neg (fun h => e h.symm), if_neg (fun h => e h.symm), if_neg e]
  rw [if_neg e] at hR
  obtain ⟨b1, b2, b3, b4, b5, b6⟩ := h1.way v hv hR
  have hbn := begn v hv hR
  have hu := up _ hbn
  refine ⟨b1, b2, by omega, fun h => ?_, ?_, b6⟩
  ·by_cases e2 : ((nth x.st.by_ v).gq fl).toNat = t
   ·rw [e2] at hu b3 ⊢
    have : nth x.st.worth t < nth (mG fl G x.st x.c w).worth t := by rw [nw t htn, if_pos rfl]; omega
    omega
   rw [if_neg e2] at h
   have := b4 h; omega
  by_cases e2 : ((nth x.st.by_ v).gq fl).toNat = t
  ·rw [if_pos e2]; have := (h1.le v hv).1; omega
  rw [if_neg e2]; exact b5
 ·have e : (if u = t then τ + 1 else T u) = (if v = t then τ + 1 else T v) := e
  have hRu : 0 < (if u = t then x.r + 1 else R u) := hRu
  have hRv : 0 < (if v = t then x.r + 1 else R v) := hRv
  have a1 := (h1.le u hu).2.1
  have a2 := (h1.le v hv).2.1
  by_cases e1 : u = t
  ·by_cases e2 : v = t
   ·rw [e1, e2]
   rw [if_pos e1, if_neg e2] at e; omega
  by_cases e2 : v = t
  ·rw [if_neg e1, if_pos e2] at e; omega
  rw [if_neg e1, if_neg e2] at e
  rw [if_neg e1] at hRu; rw [if_neg e2] at hRv
  exact h1.one u v hu hv hRu hRv e
 rw [wj]
 show _ ∨ _ ∨ _ ≤ (if c = t then x.r + 1 else R c)
 have hd : ji x c k ≤ x.r + 1 := by unfold ji; split <;> omega
 by_cases ect : c = t
 ·rw [if_pos ect]
  refine .inr (.inr ?_)
  split <;> omega
 rw [if_neg ect]
 have hu := up ((nth (bO fl a c) k).fin fl).toNat (by have := (hN.way (JK hk).1.1).2.1; omega)
 have nwc : nth (mG fl G x.st x.c w).worth c = nth x.st.worth c := by rw [nw c hc', if_neg (fun h => ect h.symm)]
 rw [nwc]
 by_cases e : c = x.c ∧ k = x.j
 ·rw [if_pos e]
  obtain ⟨e1, e2⟩ := e; subst e1; subst e2
  rw [hw, htt, nw t htn, if_pos rfl]
  exact .inr (.inl (Int.le_refl _))
 rw [if_neg e]
 rcases h3 c k hc' hk with h | h | h
 ·exact .inl h
 ·exact .inr (.inl (by omega))
 exact .inr (.inr h)
theorem mH.yes (hN : Net fl n) (hG : ∀ i, -1 ≤ G i ∧ G i ≤ 1) (h : mH fl a n G x) (hc : ¬ n ≤ x.c) (hj : ¬ (bO fl a x.c).length ≤ x.j) (hg : lE fl G x.st x.c (nth (bO fl a x.c) x.j) = true) (hr : ¬ x.r + 1 = n) :
 mH fl a n G ⟨x.r, x.c, x.j + 1, mG fl G x.st x.c (nth (bO fl a x.c) x.j)⟩ := by
 obtain ⟨R, T, τ, h1, h2, _, h4⟩ := EV hN hG h hc hj hg
 have hl := ox (fl := fl) (a := a) (c := x.c)
 exact ⟨h.r, h.c, ⟨by show x.j + 1 ≤ _; omega, fun e => absurd (show x.c = n from e) (by omega)⟩, fun e => absurd e hr, R, T, τ, h1, h2, h4⟩
inductive GP (fl : List cC) (a : List Int) (n : Nat) (G : Nat → Int) : Option r7 → Prop where
  | none (p : Int → Int) (h : ∀ w, Open fl a w → p (w.gq fl) + fo G w ≤ p (w.fin fl)) : GP fl a n G none
  | some (st : r7) (R T : Nat → Nat) (τ : Nat) (v : Nat) (h : Gh fl a n G (n - 1) st R T τ) (hv : v < n) (e : st.at_ = v) (hR : R v = n) : GP fl a n G (some st)
theorem mH.none (hN : Net fl n) (h : mH fl a n G x) (hc : n ≤ x.c) (ha : x.st.at_ < 0) : GP fl a n G none := by
 obtain ⟨R, T, τ, h1, h2, h3⟩ := h.gh
 have hR : ∀ v, v < n → R v ≤ x.r := by
  rcases h1.at_ with ⟨_, h⟩ | ⟨v, _, e, _⟩
  ·exact h
  omega
 refine .none (fun c => nth x.st.worth c.toNat) fun w ho => ?_
 obtain ⟨⟨b0, bn⟩, _, _⟩ := hN.way ho.1
 obtain ⟨c, hc'⟩ : ∃ c : Nat, (c : Int) = w.gq fl := ⟨(w.gq fl).toNat, by omega⟩
 have hm : w ∈ bO fl a c := nU.2 ⟨ho, hc'.symm⟩
 obtain ⟨k, hk, e⟩ := jk hm
 subst e
 have h4 := h3 c k (by omega) hk
 have e : ji x c k = x.r + 1 := if_pos (.inl (by omega))
 rw [e] at h4
 have := hR c (by omega)
 show nth x.st.worth (Way.gq _ fl).toNat + _ ≤ nth x.st.worth _
 rw [← hc', Int.toNat_natCast]
 rcases h4 with h | h | h <;> omega
theorem mH.found (hN : Net fl n) (hG : ∀ i, -1 ≤ G i ∧ G i ≤ 1) (h : mH fl a n G x) (hc : ¬ n ≤ x.c) (hj : ¬ (bO fl a x.c).length ≤ x.j) (hg : lE fl G x.st x.c (nth (bO fl a x.c) x.j) = true) (hr : x.r + 1 = n) :
 GP fl a n G (some (mG fl G x.st x.c (nth (bO fl a x.c) x.j))) := by
 obtain ⟨R, T, τ, h1, _, h3, _⟩ := EV hN hG h hc hj hg
 have hb := (hN.way (JK (fl := fl) (a := a) (c := x.c) (k := x.j) (by omega)).1.1).2.1
 refine .some _ R T τ ((nth (bO fl a x.c) x.j).fin fl).toNat (by rw [show n - 1 = x.r by omega]; exact h1) (by omega) ?_ (h3.trans hr)
 show Way.fin _ fl = _; omega
def Jj (fl : List cC) (n : Nat) (x : Ks) : Nat := (n - x.r) * ((n + 1) * (2 * fl.length + 2)) + ((n - x.c) * (2 * fl.length + 2) + (2 * fl.length + 1 - x.j))
theorem Ll (hj : x.j < 2 * fl.length) (st : r7) : Jj fl n ⟨x.r, x.c, x.j + 1, st⟩ < Jj fl n x := by
 unfold Jj
 show (n - x.r) * ((n + 1) * (2 * fl.length + 2)) + ((n - x.c) * (2 * fl.length + 2) + (2 * fl.length + 1 - (x.j + 1))) < _
 omega
theorem Nj (hc : x.c < n) (hj : x.j ≤ 2 * fl.length) (st : r7) : Jj fl n ⟨x.r, x.c + 1, 0, st⟩ < Jj fl n x := by
 unfold Jj
 show (n - x.r) * ((n + 1) * (2 * fl.length + 2)) + ((n - (x.c + 1)) * (2 * fl.length + 2) + (2 * fl.length + 1 - 0)) < _
 have e : (n - x.c) * (2 * fl.length + 2) = (n - (x.c + 1)) * (2 * fl.length + 2) + (2 * fl.length + 2) := by
  rw [show n - x.c = (n - (x.c + 1)) + 1 by omega, Nat.succ_mul]
 rw [e]
 generalize (n - (x.c + 1)) * (2 * fl.length + 2) = A
 omega
theorem Nr (hr : x.r < n) (st : r7) : Jj fl n ⟨x.r + 1, 0, 0, st⟩ < Jj fl n x := by
 unfold Jj
 show (n - (x.r + 1)) * ((n + 1) * (2 * fl.length + 2)) + ((n - 0) * (2 * fl.length + 2) + (2 * fl.length + 1 - 0)) < _
 have e : (n - x.r) * ((n + 1) * (2 * fl.length + 2)) = (n - (x.r + 1)) * ((n + 1) * (2 * fl.length + 2)) + (n + 1) * (2 * fl.length + 2) := by
  rw [show n - x.r = (n - (x.r + 1)) + 1 by omega, Nat.succ_mul]
 have e2 : (n + 1) * (2 * fl.length + 2) = n * (2 * fl.length + 2) + (2 * fl.length + 2) := Nat.succ_mul _ _
 rw [e, e2, Nat.sub_zero]
 generalize (n - (x.r + 1)) * (n * (2 * fl.length + 2) + (2 * fl.length + 2)) = A
 generalize n * (2 * fl.length + 2) = B
 omega
theorem C9 (hN : Net fl n) (hn : 0 < n) (hG : ∀ i, -1 ≤ G i ∧ G i ≤ 1) : GP fl a n G (iY fl a n G) := by
  refine nP (mH fl a n G) (GP fl a n G) (Jj fl n) (fun x h => ?_) _ (LS hn)
  have hr : ¬ n ≤ x.r := by have := h.r; omega
  by_cases hc : n ≤ x.c
  · by_cases ha : x.st.at_ < 0
    · exact .inr ⟨_, xK hr hc ha, h.none hN hc ha⟩
    · exact .inl ⟨_, uY hr hc ha, h.round hc (fun e => ha (by rw [h.last e]; decide)), Nr h.r _⟩
  · by_cases hj : (bO fl a x.c).length ≤ x.j
    · exact .inl ⟨_, xQ hr hc hj, h.cell hc hj, Nj (by omega) h.j.1 _⟩
    · have hl := ox (fl := fl) (a := a) (c := x.c)
      cases hg : lE fl G x.st x.c (nth (bO fl a x.c) x.j) with
      | false => exact .inl ⟨_, BL hr hc hj hg, h.no hc hj hg, Ll (by omega) _⟩
      | true =>
        by_cases hl : x.r + 1 = n
        · exact .inr ⟨_, xS hr hc hj hg hl, h.found hN hG hc hj hg hl⟩
        · exact .inl ⟨_, zX hr hc hj hg hl, h.yes hN hG hc hj hg hl, Ll (by omega) _⟩
end
end Go.Proofs.YtelbollidfdcjaaGreat
namespace Go.Proofs.YtelbollidfdcjaaGreat
open Go Go.T
theorem Fy {p : Nat → Prop} (h : ∃ n, p n) : ∃ n, p n ∧ ∀ m, m < n → ¬ p m := by
  obtain ⟨n, hn⟩ := h
  induction n using Nat.strongRecOn with
  | _ n ih =>
    by_cases e : ∃ m, m < n ∧ p m
    · obtain ⟨m, hm, hp⟩ := e; exact ih m hm hp
    · exact ⟨n, hn, fun m hm hp => e ⟨m, hm, hp⟩⟩
def fS (f : Nat → Nat) : Nat → Nat → Nat
  | 0, x => x
  | k + 1, x => f (fS f k x)
theorem lM (f : Nat → Nat) (k x : Nat) : ∀ j, fS f (j + k) x = fS f j (fS f k x)
  | 0 => by rw [Nat.zero_add]; rfl
  | j + 1 => by rw [Nat.succ_add]; show f (fS f (j + k) x) = f _; rw [lM f k x j]
theorem yP (f : Nat → Int) : ∀ n, ((List.range n).map f).sum = cy f n
  | 0 => rfl
  | n + 1 => by rw [List.range_succ, List.map_append, List.sum_append, yP f n]; simp [cy]
theorem yN (f : Nat → Int) : ∀ n, cy (fun t => f t - f (t + 1)) n = f 0 - f n
  | 0 => by simp [cy]
  | n + 1 => by unfold cy; rw [yN f n]; omega
section
variable {fl : List cC} {a : List Int} {n : Nat} {G : Nat → Int} {st : r7} {R T : Nat → Nat} {τ v s : Nat}
def cH (fl : List cC) (st : r7) (c : Nat) : Nat := ((nth st.by_ c).gq fl).toNat
structure NV (fl : List cC) (a : List Int) (n : Nat) (G : Nat → Int) (st : r7) (T : Nat → Nat) (s : Nat) : Prop where
  back : ∃ p, 1 ≤ p ∧ p ≤ n ∧ fS (cH fl st) p s = s
  at_ : ∀ t, fS (cH fl st) t s < n
  way : ∀ t, Open fl a (nth st.by_ (fS (cH fl st) t s)) ∧ (nth st.by_ (fS (cH fl st) t s)).fin fl = fS (cH fl st) t s ∧
    nth st.worth (fS (cH fl st) t s) ≤ nth st.worth (fS (cH fl st) (t + 1) s) + fo G (nth st.by_ (fS (cH fl st) t s)) ∧
    (T (fS (cH fl st) t s) < T (fS (cH fl st) (t + 1) s) → nth st.worth (fS (cH fl st) t s) < nth st.worth (fS (cH fl st) (t + 1) s) + fo G (nth st.by_ (fS (cH fl st) t s)))
  one : ∀ t u, T (fS (cH fl st) t s) = T (fS (cH fl st) u s) → fS (cH fl st) t s = fS (cH fl st) u s
theorem AP (hN : Net fl n) (h : Gh fl a n G (n - 1) st R T τ) (hv : v < n) (hR : R v = n) : ∀ k, k ≤ n → fS (cH fl st) k v < n ∧ n ≤ R (fS (cH fl st) k v) + k
  | 0, _ => ⟨hv, by show n ≤ R v + 0; omega⟩
  | k + 1, hk => by
    obtain ⟨h1, h2⟩ := AP hN h hv hR k (by omega)
    obtain ⟨b1, _, _, _, b5, _⟩ := h.way _ h1 (by omega)
    have hb := (hN.way b1.1).1
    show cH fl st (fS (cH fl st) k v) < n ∧ n ≤ R (cH fl st (fS (cH fl st) k v)) + (k + 1)
    unfold cH at *
    exact ⟨by omega, by omega⟩
theorem IY (hN : Net fl n) (h : Gh fl a n G (n - 1) st R T τ) (hv : v < n) (hR : R v = n) : NV fl a n G st T (fS (cH fl st) n v) := by
  have hch := AP hN h hv hR
  generalize hf : cH fl st = f at *
  obtain ⟨i, j, hij, hjn, e⟩ : ∃ i j, i < j ∧ j ≤ n ∧ fS f i v = fS f j v := by
    refine Classical.byContradiction fun hno => ?_
    have hnd : ((List.range (n + 1)).map fun k => fS f k v).Nodup := by
      rw [List.nodup_iff_pairwise_ne, List.pairwise_map]
      refine List.pairwise_lt_range.imp_of_mem fun {x y} hx hy hlt e => hno ⟨x, y, hlt, ?_, e⟩
      have := List.mem_range.1 hy; omega
    have := mJ (n := n) hnd fun y hy => by
      obtain ⟨k, hk, rfl⟩ := List.mem_map.1 hy
      have := List.mem_range.1 hk
      exact (hch k (by omega)).1
    rw [List.length_map, List.length_range] at this; omega
  have good : ∀ m, i ≤ m → ∃ m', m' < n ∧ fS f m v = fS f m' v := by
    intro m
    induction m using Nat.strongRecOn with
    | _ m ih =>
      intro hm
      by_cases c : m < j
      · exact ⟨m, by omega, rfl⟩
      · obtain ⟨m', h1, h2⟩ := ih (m - j + i) (by omega) (by omega)
        refine ⟨m', h1, ?_⟩
        rw [← h2, lM, e, ← lM]; congr 1; omega
  have all : ∀ t, fS f t (fS f n v) < n ∧ 0 < R (fS f t (fS f n v)) := fun t => by
    rw [← lM]
    obtain ⟨m', h1, h2⟩ := good (t + n) (by omega)
    rw [h2]
    have := hch m' (by omega)
    exact ⟨this.1, by omega⟩
  refine ⟨⟨j - i, by omega, by omega, ?_⟩, fun t => by rw [hf]; exact (all t).1, fun t => ?_, fun t u e => ?_⟩
  · rw [hf, ← lM, show j - i + n = (n - i) + j by omega, lM, ← e, ← lM]; congr 1; omega
  · rw [hf]
    obtain ⟨b1, b2, b3, b4, _, _⟩ := h.way _ (all t).1 (all t).2
    have e1 : fS f (t + 1) (fS f n v) = ((nth st.by_ (fS f t (fS f n v))).gq fl).toNat := by
      show f (fS f t (fS f n v)) = _; rw [← hf]; rfl
    rw [e1]
    exact ⟨b1, b2, b3, b4⟩
  · rw [hf] at *
    exact h.one _ _ (all t).1 (all u).1 (all t).2 (all u).2 e
def Bh (fl : List cC) (st : r7) (s : Nat) (x : Nat × List Way) : (Nat × List Way) ⊕ List Way :=
  if ¬ x.2 = [] ∧ x.1 = s then .inr x.2 else .inl (cH fl st x.1, x.2 ++ [nth st.by_ x.1])
noncomputable def pR (fl : List cC) (st : r7) (s : Nat) : List Way := nB (Bh fl st s) (s, [])
structure EL (fl : List cC) (a : List Int) (n : Nat) (G : Nat → Int) (l : List Way) : Prop where
  ne : l ≠ []
  trail : ∃ s, Trail fl l s s
  ways : ∀ w ∈ l, Open fl a w
  nodup : l.Nodup
  adds : 0 < xT G l
  pT : l.length ≤ n
theorem IP (hN : Net fl n) (h : NV fl a n G st T s) : EL fl a n G (pR fl st s) := by
  obtain ⟨p, ⟨hp1, hp2, hp3⟩, hmin⟩ := Fy h.back
  have hfin : ∀ t, (nth st.by_ (fS (cH fl st) t s)).fin fl = fS (cH fl st) t s := fun t => (h.way t).2.1
  have hbeg : ∀ t, (nth st.by_ (fS (cH fl st) t s)).gq fl = fS (cH fl st) (t + 1) s := fun t => by
    have := (hN.way (h.way t).1.1).1
    show _ = ((((nth st.by_ (fS (cH fl st) t s)).gq fl).toNat : Nat) : Int)
    omega
  have hone : ∀ t u, t < u → u < p → fS (cH fl st) t s ≠ fS (cH fl st) u s := fun t u htu hup e => by
    refine hmin (p - u + t) (by omega) ⟨by omega, by omega, ?_⟩
    rw [lM, e, ← lM, show p - u + u = p by omega, hp3]
  have hlist : pR fl st s = (List.range p).map fun t => nth st.by_ (fS (cH fl st) t s) := by
    refine nP (fun x => ∃ i, i ≤ p ∧ x = (fS (cH fl st) i s, (List.range i).map fun t => nth st.by_ (fS (cH fl st) t s))) (fun l => l = (List.range p).map fun t => nth st.by_ (fS (cH fl st) t s)) (fun x => p + 1 - x.2.length) (fun x hx => ?_) _ ⟨0, Nat.zero_le _, rfl⟩
    obtain ⟨i, hi, rfl⟩ := hx
    unfold Bh
    by_cases e : i = p
    · subst e
      refine .inr ⟨_, if_pos ⟨fun e => ?_, hp3⟩, rfl⟩
      have := congrArg List.length e
      simp at this; omega
    · refine .inl ⟨_, if_neg fun ⟨e1, e2⟩ => ?_, ⟨i + 1, by omega, ?_⟩, ?_⟩
      · by_cases c : i = 0
        · subst c; exact e1 rfl
        · exact hmin i (by omega) ⟨by omega, by omega, e2⟩
      · rw [List.range_succ, List.map_append]; rfl
      · simp; omega
  have htr : ∀ k, Trail fl ((List.range k).map fun t => nth st.by_ (fS (cH fl st) t s)) s (fS (cH fl st) k s) := by
    intro k
    induction k with
    | zero => exact rfl
    | succ k ih =>
      rw [List.range_succ, List.map_append, List.map_singleton, ← hbeg k]
      exact tM ih (hfin k)
  rw [hlist]
  refine ⟨fun e => ?_, ⟨s, ?_⟩, fun w hw => ?_, ?_, ?_, by rw [List.length_map, List.length_range]; exact hp2⟩
  · have := congrArg List.length e
    simp at this; omega
  · have := htr p
    rwa [hp3] at this
  · obtain ⟨t, _, rfl⟩ := List.mem_map.1 hw
    exact (h.way t).1
  · rw [List.nodup_iff_pairwise_ne, List.pairwise_map]
    refine List.pairwise_lt_range.imp_of_mem fun {x y} hx hy hlt e => hone x y hlt (List.mem_range.1 hy) ?_
    have := congrArg (fun w => Way.fin w fl) e
    rw [hfin, hfin] at this; omega
  · unfold xT
    rw [List.map_map, yP]
    have h0 : cy (fun t => nth st.worth (fS (cH fl st) t s) - nth st.worth (fS (cH fl st) (t + 1) s)) p = 0 := by
      rw [yN (fun t => nth st.worth (fS (cH fl st) t s)), hp3]; show nth st.worth s - _ = 0; omega
    rw [← h0]
    obtain ⟨k, hk, hlt⟩ : ∃ k, k < p ∧ T (fS (cH fl st) k s) < T (fS (cH fl st) (k + 1) s) := by
      refine Classical.byContradiction fun hno => ?_
      have hdn : ∀ d t, t + d ≤ p → T (fS (cH fl st) (t + d) s) ≤ T (fS (cH fl st) t s) := by
        intro d
        induction d with
        | zero => intro t _; exact Nat.le_refl _
        | succ d ih =>
          intro t ht
          have h1 := ih t (by omega)
          have h2 : ¬ T (fS (cH fl st) (t + d) s) < T (fS (cH fl st) (t + d + 1) s) := fun h => hno ⟨t + d, by omega, h⟩
          show T (fS (cH fl st) (t + d + 1) s) ≤ _
          omega
      have h1 := hdn 1 0 (by omega)
      have h2 := hdn (p - 1) 1 (by omega)
      rw [show 1 + (p - 1) = p by omega, hp3] at h2
      have h3 : T (fS (cH fl st) 0 s) = T (fS (cH fl st) 1 s) := by
        show T s = _
        have h1 : T (fS (cH fl st) 1 s) ≤ T s := h1
        omega
      have h4 := h.one 0 1 h3
      have hne := (hN.way (h.way 0).1.1).2.2
      rw [hfin 0, hbeg 0, ← h4] at hne
      exact hne rfl
    refine zk hk (fun t _ => ?_) ?_
    · have := (h.way t).2.2.1
      show _ ≤ fo G (nth st.by_ (fS (cH fl st) t s)); omega
    · have := (h.way k).2.2.2 hlt
      show _ < fo G (nth st.by_ (fS (cH fl st) k s)); omega
noncomputable def cJ (fl : List cC) (a : List Int) (n : Nat) (G : Nat → Int) : List Way := match iY fl a n G with
  | none => []
  | some st => pR fl st (fS (cH fl st) n st.at_.toNat)
theorem uW (h : iY fl a n G = none) : cJ fl a n G = [] := by unfold cJ; rw [h]
theorem uw (h : iY fl a n G = some st) : cJ fl a n G = pR fl st (fS (cH fl st) n st.at_.toNat) := by unfold cJ; rw [h]
theorem ud (hN : Net fl n) (hn : 0 < n) (hG : ∀ i, -1 ≤ G i ∧ G i ≤ 1) : (cJ fl a n G = [] ∧ ∃ p : Int → Int, ∀ w, Open fl a w → p (w.gq fl) + fo G w ≤ p (w.fin fl)) ∨ EL fl a n G (cJ fl a n G) := by
  have h := C9 (a := a) hN hn hG
  cases e : iY fl a n G with
  | none =>
    rw [e] at h
    cases h with
    | none p hp => exact .inl ⟨uW e, p, hp⟩
  | some st =>
    rw [e] at h
    cases h with
    | some _ R T τ v h1 hv e1 hR =>
      rw [uw e, show st.at_.toNat = v by omega]
      exact .inr (IP hN (IY hN h1 hv hR))
noncomputable def stepG (fl : List cC) (n : Nat) (G : Nat → Int) (a : List Int) : List Int ⊕ List Int :=
  if cJ fl a n G = [] then .inr a else .inl (eH a (cJ fl a n G) (fC fl a 300 (cJ fl a n G)))
noncomputable def gU (fl : List cC) (n : Nat) (G : Nat → Int) (a : List Int) : List Int := nB (stepG fl n G) a
def k9 (fl : List cC) (G : Nat → Int) (a : List Int) : Int := cy (fun i => G i * nth a i) fl.length
def Bd (fl : List cC) : Prop := ∀ i, i < fl.length → 0 ≤ (nth fl i).lo ∧ (nth fl i).hi ≤ 300
theorem E8 (hB : Bd fl) (h : yE fl a) (hG : ∀ i, -1 ≤ G i ∧ G i ≤ 1) : k9 fl G a ≤ 300 * fl.length := by
 refine (rY (b := 300) fun i hi => ?_).2
 have h1 := hB i hi
 have h2 := h.2 i hi
 have h3 := hG i
 have : G i = -1 ∨ G i = 0 ∨ G i = 1 := by omega
 rcases this with e | e | e <;> rw [e] <;> omega
structure Mo (fl : List cC) (a : List Int) (n : Nat) (G : Nat → Int) (b : List Int) : Prop where
  feas : gb fl n b
  more : k9 fl G a < k9 fl G b
theorem uZ (h : gb fl n a) {l : List Way} (hc : EL fl a n G l) : Mo fl a n G (eH a l (fC fl a 300 l)) := by
 have hpos := p7 (fl := fl) (a := a) (m := 300) (by decide) l hc.ways
 obtain ⟨_, hm⟩ := sM (fl := fl) (a := a) 300 l
 have hix : ∀ w ∈ l, w.ix < fl.length := fun w hw => (hc.ways w hw).1
 obtain ⟨s, ht⟩ := hc.trail
 refine ⟨⟨wG (Int.le_of_lt hpos) l a h.1 hc.nodup fun w hw => ⟨hix w hw, hm w hw⟩, fun c hcn => ?_⟩, ?_⟩
 ·rw [tw h.1.1 _ l a s s h.1.1 hix ht, h.2 c hcn]; omega
 unfold k9
 rw [wS G _ l a h.1.1 hix]
 have := Int.mul_pos hc.adds hpos
 omega
theorem yY (hN : Net fl n) (hn : 0 < n) (hB : Bd fl) (hG : ∀ i, -1 ≤ G i ∧ G i ≤ 1) (h : gb fl n a) : gb fl n (gU fl n G a) ∧ ∀ b, gb fl n b → k9 fl G b ≤ k9 fl G (gU fl n G a) := by
 refine nP (gb fl n) (fun r => gb fl n r ∧ ∀ b, gb fl n b → k9 fl G b ≤ k9 fl G r) (fun a => (300 * fl.length - k9 fl G a).toNat) (fun a h => ?_) a h
 unfold stepG
 rcases ud (a := a) hN hn hG with ⟨e, p, hp⟩ | hc
 ·rw [if_pos e]
  exact .inr ⟨a, rfl, h, fun b hb => Ii hN h hb G p fun w ho => hp w ho⟩
 rw [if_neg hc.ne]
 have hb := uZ h hc
 refine .inl ⟨_, rfl, hb.feas, ?_⟩
 have h1 := hb.more
 have h2 := E8 hB hb.feas.1 hG
 omega
end
end Go.Proofs.YtelbollidfdcjaaGreat
namespace Go.Proofs.YtelbollidfdcjaaGreat
open Go Go.T
structure Span where
  lo : Int
  hi : Int
deriving DecidableEq, Inhabited
structure vE where
  holds : Int
  first : Span
deriving DecidableEq, Inhabited
structure Move where
  day : Int
  src : Int
  dst : Int
  sacks : Span
deriving DecidableEq, Inhabited
structure Level where
  day : Int
  bin : Int
  sacks : Span
deriving DecidableEq, Inhabited
structure ah where
  days : Int
  bins : List vE
  moves : List Move
  levels : List Level
deriving DecidableEq, Inhabited
structure eM where
  first : List Int
  bg : List Int
deriving DecidableEq, Inhabited
def gS (s : Span) : Bool := BN s.lo 0 300 && BN s.hi 0 300
def iC (s : Span) : Bool := decide (s.lo ≤ s.hi)
def ah.bin (y : ah) (k : Int) : Bool := BN k 0 (y.bins.length - 1)
def ah.time (y : ah) (k : Int) : Bool := BN k 0 y.days
def ah.fin (y : ah) (k : Int) : Bool := decide (k = -1) || y.bin k
def mW (y : ah) : Bool := ((!BN y.days 1 5 || !BN y.bins.length 1 4) || decide ((y.moves.length : Int) > 10)) || decide ((y.levels.length : Int) > 8)
def mw (y : ah) : Bool := !y.bins.all (fun b => BN b.holds 0 300 && gS b.first)
def kL (y : ah) : Bool := !y.moves.all (fun m => gS m.sacks) || !y.levels.all (fun l => gS l.sacks)
def Bs (y : ah) : Bool := !y.moves.all fun m => (BN m.day 0 (y.days - 1) && y.fin m.src) && y.fin m.dst
def wF (y : ah) : Bool := !y.levels.all fun l => y.time l.day && y.bin l.bin
def tK (y : ah) : Bool := !y.moves.all fun m => !decide (m.src = m.dst)
def uB (y : ah) : Bool := (!y.bins.all (fun b => iC b.first) || !y.moves.all (fun m => iC m.sacks)) || !y.levels.all (fun l => iC l.sacks)
def bT (y : ah) : Int := if mW y = true then 2 else if mw y = true then 3 else if kL y = true then 3 else if Bs y = true then 1 else if wF y = true then 1 else if tK y = true then 5 else if uB y = true then 4 else 0
structure ah.cI (y : ah) : Prop where
  days : 1 ≤ y.days ∧ y.days ≤ 5
  bins : 1 ≤ y.bins.length ∧ y.bins.length ≤ 4
  moves : y.moves.length ≤ 10
  levels : y.levels.length ≤ 8
  bin : ∀ b ∈ y.bins, (0 ≤ b.holds ∧ b.holds ≤ 300) ∧ (0 ≤ b.first.lo ∧ b.first.hi ≤ 300) ∧ b.first.lo ≤ b.first.hi
  move : ∀ m ∈ y.moves, (0 ≤ m.day ∧ m.day < y.days) ∧ (-1 ≤ m.src ∧ m.src < y.bins.length) ∧ (-1 ≤ m.dst ∧ m.dst < y.bins.length) ∧ m.src ≠ m.dst ∧ (0 ≤ m.sacks.lo ∧ m.sacks.hi ≤ 300) ∧ m.sacks.lo ≤ m.sacks.hi
  level : ∀ l ∈ y.levels, (0 ≤ l.day ∧ l.day ≤ y.days) ∧ (0 ≤ l.bin ∧ l.bin < y.bins.length) ∧ (0 ≤ l.sacks.lo ∧ l.sacks.hi ≤ 300) ∧ l.sacks.lo ≤ l.sacks.hi
theorem dQ {y : ah} (h : bT y = 0) : y.cI := by
  unfold bT at h
  have n0 : ∀ {c : Bool} {k x : Int}, k ≠ 0 → (if c = true then k else x) = 0 → c = false ∧ x = 0 := fun {c k x} hk h => by
    cases c with
    | true => exact absurd h hk
    | false => exact ⟨rfl, h⟩
  obtain ⟨h1, h⟩ := n0 (by decide) h
  obtain ⟨h2, h⟩ := n0 (by decide) h
  obtain ⟨h3, h⟩ := n0 (by decide) h
  obtain ⟨h4, h⟩ := n0 (by decide) h
  obtain ⟨h5, h⟩ := n0 (by decide) h
  obtain ⟨h6, h⟩ := n0 (by decide) h
  obtain ⟨h7, h⟩ := n0 (by decide) h
  simp only [mW, mw, kL, Bs, wF, tK, uB, Bool.or_eq_false_iff, Bool.not_eq_false', decide_eq_false_iff_not, List.all_eq_true, Bool.and_eq_true, iL, gS, iC, decide_eq_true_eq, ah.fin, ah.bin, ah.time, Bool.or_eq_true, Bool.not_eq_true', decide_eq_false_iff_not] at h1 h2 h3 h4 h5 h6 h7
  refine ⟨h1.1.1.1, by omega, by omega, by omega, fun b hb => ?_, fun m hm => ?_, fun l hl => ?_⟩
  · have a := h2 b hb; have c := h7.1.1 b hb
    exact ⟨a.1, ⟨a.2.1.1, a.2.2.2⟩, c⟩
  · have a := h3.1 m hm; have c := h4 m hm; have d := h6 m hm; have e := h7.1.2 m hm
    refine ⟨by omega, by omega, by omega, d, ⟨a.1.1, a.2.2⟩, e⟩
  · have a := h3.2 l hl; have c := h5 l hl; have e := h7.2 l hl
    refine ⟨by omega, by omega, ⟨a.1.1, a.2.2⟩, e⟩
section
variable {y : ah} {c : Nat → Bool} {a : eM} {b t : Nat}
def ah.D (y : ah) : Nat := y.days.toNat
def ah.cells (y : ah) : Nat := y.bins.length * y.D
def ah.cell (y : ah) (bin day : Int) : Int := if bin = -1 then (y.bins.length : Int) * y.days else bin * y.days + day
def gI (y : ah) (c : Nat → Bool) (b t : Nat) (s : Span) : Nat → Span
  | 0 => s
  | k + 1 => if ((c k && decide ((nth y.levels k).bin = b)) && decide ((nth y.levels k).day = t)) = true then ⟨max (gI y c b t s k).lo (nth y.levels k).sacks.lo, min (gI y c b t s k).hi (nth y.levels k).sacks.hi⟩ else gI y c b t s k
def iA (y : ah) (b t : Nat) : Span := if 0 < t then ⟨0, (nth y.bins b).holds⟩ else ⟨max 0 (nth y.bins b).first.lo, min (nth y.bins b).holds (nth y.bins b).first.hi⟩
def ux (y : ah) (c : Nat → Bool) (b t : Nat) : Span := gI y c b t (iA y b t) y.levels.length
def En (y : ah) (c : Nat → Bool) (b t : Nat) : cC := ⟨if 0 < t then y.cell b ((t : Int) - 1) else y.cells, if t < y.D then y.cell b t else y.cells, (ux y c b t).lo, (ux y c b t).hi⟩
def Ld (y : ah) (m : Move) : cC := ⟨y.cell m.src m.day, y.cell m.dst m.day, m.sacks.lo, m.sacks.hi⟩
def Em (y : ah) (c : Nat → Bool) : List cC := (List.range y.bins.length).flatMap fun b => (List.range (y.D + 1)).map (En y c b)
def aP (y : ah) (c : Nat → Bool) : List cC := Em y c ++ y.moves.map (Ld y)
theorem CS (s : Span) : ∀ k, s.lo ≤ (gI y c b t s k).lo ∧ (gI y c b t s k).hi ≤ s.hi
  | 0 => ⟨Int.le_refl _, Int.le_refl _⟩
  | k + 1 => by
    have := CS s k
    unfold gI; split
    · show s.lo ≤ max _ _ ∧ min _ _ ≤ s.hi; omega
    · exact this
theorem lY {α β : Type} (f : α → List β) (k : Nat) : ∀ (l : List α), (∀ x ∈ l, (f x).length = k) → (l.flatMap f).length = l.length * k
  | [], _ => by simp
  | x :: l, h => by rw [List.flatMap_cons, List.length_append, h x List.mem_cons_self, lY f k l fun y hy => h y (List.mem_cons_of_mem _ hy), List.length_cons, Nat.succ_mul]; omega
theorem uI {α : Type} [Inhabited α] (f : Nat → List α) (k : Nat) : ∀ (n b t : Nat), (∀ i, i < n → (f i).length = k) → b < n → t < k → nth ((List.range n).flatMap f) (b * k + t) = nth (f b) t
  | 0, _, _, _, h, _ => by omega
  | n + 1, b, t, hf, hb, ht => by
    have hl : ((List.range n).flatMap f).length = n * k := by rw [lY f k _ fun x hx => hf x (by have := List.mem_range.1 hx; omega), List.length_range]
    rw [List.range_succ, List.flatMap_append, List.flatMap_singleton]
    by_cases e : b = n
    · subst e
      unfold nth
      rw [List.getD_eq_getElem?_getD, List.getD_eq_getElem?_getD, List.getElem?_append_right (by omega), hl, Nat.add_sub_cancel_left]
    · have hlt : b * k + t < n * k := by
        have : (b + 1) * k ≤ n * k := Nat.mul_le_mul_right _ (by omega)
        rw [Nat.succ_mul] at this; omega
      rw [← uI f k n b t (fun i hi => hf i (by omega)) (by omega) ht]
      unfold nth
      rw [List.getD_eq_getElem?_getD, List.getD_eq_getElem?_getD, List.getElem?_append_left (by omega)]
theorem gM {α : Type} [Inhabited α] (f : Nat → α) {n k : Nat} (h : k < n) : nth ((List.range n).map f) k = f k := by
 unfold nth; rw [List.getD_eq_getElem?_getD, List.getElem?_map, List.getElem?_range h]; rfl
theorem B7 {α β : Type} [Inhabited α] [Inhabited β] (f : α → β) {l : List α} {k : Nat} (h : k < l.length) : nth (l.map f) k = f (nth l k) := by
 unfold nth; rw [List.getD_eq_getElem?_getD, List.getD_eq_getElem?_getD, List.getElem?_map, List.getElem?_eq_getElem h]; rfl
theorem w5 : (Em y c).length = y.bins.length * (y.D + 1) := by
 unfold Em; rw [lY _ (y.D + 1) _ fun x _ => by rw [List.length_map, List.length_range], List.length_range]
theorem fG : (aP y c).length = y.bins.length * (y.D + 1) + y.moves.length := by unfold aP; rw [List.length_append, w5, List.length_map]
def ah.kept (y : ah) (b t : Nat) : Nat := b * (y.D + 1) + t
theorem qI (hb : b < y.bins.length) (ht : t ≤ y.D) : y.kept b t < y.bins.length * (y.D + 1) := by
 have : (b + 1) * (y.D + 1) ≤ y.bins.length * (y.D + 1) := Nat.mul_le_mul_right _ hb
 unfold ah.kept; rw [Nat.succ_mul] at this; omega
theorem gV {α : Type} [Inhabited α] {l k : List α} {i : Nat} (h : i < l.length) : nth (l ++ k) i = nth l i := by
 unfold nth; rw [List.getD_eq_getElem?_getD, List.getD_eq_getElem?_getD, List.getElem?_append_left h]
theorem kF {α : Type} [Inhabited α] {l k : List α} {i : Nat} : nth (l ++ k) (l.length + i) = nth k i := by
 unfold nth; rw [List.getD_eq_getElem?_getD, List.getD_eq_getElem?_getD, List.getElem?_append_right (by omega), Nat.add_sub_cancel_left]
theorem iS (hb : b < y.bins.length) (ht : t ≤ y.D) : nth (aP y c) (y.kept b t) = En y c b t := by
 have h := qI hb ht
 unfold aP
 rw [gV (by rw [w5]; exact h)]
 unfold Em ah.kept
 rw [uI _ (y.D + 1) _ b t (fun i _ => by rw [List.length_map, List.length_range]) hb (by omega), gM _ (by omega)]
theorem iQ {i : Nat} (h : i < y.moves.length) : nth (aP y c) (y.bins.length * (y.D + 1) + i) = Ld y (nth y.moves i) := by
 unfold aP
 rw [← w5 (c := c), kF, B7 _ h]
theorem oA {k : Nat} (h : k < (aP y c).length) : (∃ b t, b < y.bins.length ∧ t ≤ y.D ∧ k = y.kept b t) ∨ ∃ i, i < y.moves.length ∧ k = y.bins.length * (y.D + 1) + i := by
 rw [fG] at h
 by_cases c : k < y.bins.length * (y.D + 1)
 ·refine .inl ⟨k / (y.D + 1), k % (y.D + 1), (Nat.div_lt_iff_lt_mul (by omega)).2 c, Nat.lt_succ_iff.1 (Nat.mod_lt _ (by omega)), ?_⟩
  unfold ah.kept
  have := Nat.div_add_mod k (y.D + 1)
  rw [Nat.mul_comm] at this; omega
 exact .inr ⟨k - y.bins.length * (y.D + 1), by omega, by omega⟩
end
end Go.Proofs.YtelbollidfdcjaaGreat
namespace Go.Proofs.YtelbollidfdcjaaGreat
open Go Go.T
theorem mI (f : Nat → Int) (m : Nat) : ∀ k, cy f (m + k) = cy f m + cy (fun i => f (m + i)) k
  | 0 => by simp [cy]
  | k + 1 => by show cy f (m + k) + f (m + k) = _ + (_ + f (m + k)); rw [mI f m k]; omega
theorem rG (f : Nat → Int) (k : Nat) : ∀ n, cy f (n * k) = cy (fun b => cy (fun t => f (b * k + t)) k) n
  | 0 => by rw [Nat.zero_mul]; rfl
  | n + 1 => by rw [Nat.succ_mul, mI, rG f k n]; rfl
theorem sI {b b' d d' D : Nat} (h : d < D) (h' : d' < D) (e : b * D + d = b' * D + d') : b = b' ∧ d = d' := by
 rcases Nat.lt_trichotomy b b' with h1 | h1 | h1
 ·have := Nat.mul_le_mul_right D (show b + 1 ≤ b' from h1)
  rw [Nat.succ_mul] at this; omega
 ·subst h1; omega
 have := Nat.mul_le_mul_right D (show b' + 1 ≤ b from h1)
 rw [Nat.succ_mul] at this; omega
section
variable {y : ah} {c : Nat → Bool} {a : eM} {x : List Int} {b t : Nat}
theorem D_eq (hr : y.cI) : (y.D : Int) = y.days := by have := hr.days; unfold ah.D; omega
theorem lO (hb : b < y.bins.length) (ht : t < y.D) : b * y.D + t < y.cells := by
 have := Nat.mul_le_mul_right y.D (show b + 1 ≤ y.bins.length from hb)
 unfold ah.cells; rw [Nat.succ_mul] at this; omega
theorem nS (hr : y.cI) (b t : Nat) : y.cell b t = ((b * y.D + t : Nat) : Int) := by
 unfold ah.cell
 rw [if_neg (by omega), ← D_eq hr]; simp
theorem rz (hr : y.cI) (d : Int) : y.cell (-1) d = (y.cells : Nat) := by
 unfold ah.cell ah.cells
 rw [if_pos rfl, ← D_eq hr]; simp
theorem oK (hr : y.cI) {s d : Int} (hs : -1 ≤ s ∧ s < y.bins.length) (hd : 0 ≤ d ∧ d < y.days) (hb : b < y.bins.length) (ht : t < y.D) : y.cell s d = ((b * y.D + t : Nat) : Int) ↔ s = b ∧ d = t := by
 have hD := D_eq hr
 by_cases e : s = -1
 ·subst e
  rw [rz hr]
  have := lO hb ht
  constructor
  ·intro h; omega
  intro h; omega
 obtain ⟨s', rfl⟩ : ∃ s' : Nat, s = s' := ⟨s.toNat, by omega⟩
 obtain ⟨d', rfl⟩ : ∃ d' : Nat, d = d' := ⟨d.toNat, by omega⟩
 rw [nS hr]
 constructor
 ·intro h
  obtain ⟨h1, h2⟩ := sI (D := y.D) (show d' < y.D by omega) ht (Int.ofNat.inj h)
  exact ⟨by rw [h1], by rw [h2]⟩
 rintro ⟨h1, h2⟩
 have h1 : s' = b := by omega
 have h2 : d' = t := by omega
 rw [h1, h2]
theorem wR (hr : y.cI) {s d : Int} (hs : -1 ≤ s ∧ s < y.bins.length) (hd : 0 ≤ d ∧ d < y.days) : 0 ≤ y.cell s d ∧ y.cell s d < ((y.cells + 1 : Nat) : Int) := by
 have hD := D_eq hr
 by_cases e : s = -1
 ·subst e; rw [rz hr]; omega
 obtain ⟨s', rfl⟩ : ∃ s' : Nat, s = s' := ⟨s.toNat, by omega⟩
 obtain ⟨d', rfl⟩ : ∃ d' : Nat, d = d' := ⟨d.toNat, by omega⟩
 rw [nS hr]
 have := lO (y := y) (b := s') (t := d') (by omega) (by omega)
 omega
theorem xg (hr : y.cI) (ht : t ≤ y.D) : (En y c b t).src = ((if 0 < t then b * y.D + (t - 1) else y.cells : Nat) : Int) := by
 show (if 0 < t then y.cell b ((t : Int) - 1) else (y.cells : Int)) = _
 by_cases e : 0 < t
 ·rw [if_pos e, if_pos e, show (t : Int) - 1 = ((t - 1 : Nat) : Int) by omega, nS hr]
 rw [if_neg e, if_neg e]
theorem xX (hr : y.cI) : (En y c b t).dst = ((if t < y.D then b * y.D + t else y.cells : Nat) : Int) := by
 show (if t < y.D then y.cell b t else (y.cells : Int)) = _
 by_cases e : t < y.D
 ·rw [if_pos e, if_pos e, nS hr]
 rw [if_neg e, if_neg e]
theorem mE (hr : y.cI) : Net (aP y c) (y.cells + 1) := by
 have hD := D_eq hr
 have hd := hr.days
 refine ⟨fun i hi => ?_, fun i hi => ?_, fun i hi => ?_⟩
 ·rcases oA hi with ⟨b, t, hb, ht, rfl⟩ | ⟨k, hk, rfl⟩
  ·rw [iS hb ht, xg hr ht]
   split
   ·have := lO (y := y) (b := b) (t := t - 1) hb (by omega); omega
   omega
  rw [iQ hk]
  obtain ⟨h1, h2, _⟩ := hr.move _ (cL hk)
  exact wR hr h2 h1
 ·rcases oA hi with ⟨b, t, hb, ht, rfl⟩ | ⟨k, hk, rfl⟩
  ·rw [iS hb ht, xX hr]
   split
   ·have := lO (y := y) (b := b) (t := t) hb (by omega); omega
   omega
  rw [iQ hk]
  obtain ⟨h1, _, h3, _⟩ := hr.move _ (cL hk)
  exact wR hr h3 h1
 rcases oA hi with ⟨b, t, hb, ht, rfl⟩ | ⟨k, hk, rfl⟩
 ·rw [iS hb ht, xX hr, xg hr ht]
  by_cases e1 : 0 < t <;> by_cases e2 : t < y.D
  ·rw [if_pos e1, if_pos e2]; omega
  ·rw [if_pos e1, if_neg e2]
   have := lO (y := y) (b := b) (t := t - 1) hb (by omega); omega
  ·rw [if_neg e1, if_pos e2]
   have := lO (y := y) (b := b) (t := t) hb (by omega); omega
  omega
 rw [iQ hk]
 obtain ⟨h1, h2, h3, h4, _⟩ := hr.move _ (cL hk)
 show y.cell _ _ ≠ y.cell _ _
 intro e
 by_cases e1 : (nth y.moves k).dst = -1
 ·by_cases e2 : (nth y.moves k).src = -1
  ·exact h4 (e2.trans e1.symm)
  obtain ⟨s, hs⟩ : ∃ s : Nat, (nth y.moves k).src = s := ⟨(nth y.moves k).src.toNat, by omega⟩
  obtain ⟨d, hd⟩ : ∃ d : Nat, (nth y.moves k).day = d := ⟨(nth y.moves k).day.toNat, by omega⟩
  rw [e1, hs, hd, rz hr, nS hr] at e
  have := lO (y := y) (b := s) (t := d) (by omega) (by omega)
  omega
 obtain ⟨s, hs⟩ : ∃ s : Nat, (nth y.moves k).dst = s := ⟨(nth y.moves k).dst.toNat, by omega⟩
 obtain ⟨d, hd⟩ : ∃ d : Nat, (nth y.moves k).day = d := ⟨(nth y.moves k).day.toNat, by omega⟩
 have e' : y.cell (nth y.moves k).src (nth y.moves k).day = ((s * y.D + d : Nat) : Int) := by rw [e, hs, hd, nS hr]
 have := (oK hr h2 h1 (show s < y.bins.length by omega) (show d < y.D by omega)).1 e'
 exact h4 (this.1.trans hs.symm)
def nk (y : ah) (m : List Int) (b : Nat) (i : Nat) : Int := (ind ((nth y.moves i).dst = b) - ind ((nth y.moves i).src = b)) * nth m i
def dN (y : ah) (a : eM) (b t : Nat) : Int := nth a.first b + cy (fun i => if (nth y.moves i).day < t then nk y a.bg b i else 0) y.moves.length
def JF (y : ah) (m : List Int) (b t : Nat) : Int := cy (fun i => if (nth y.moves i).day = t then nk y m b i else 0) y.moves.length
theorem qK (hr : y.cI) : dN y a b 0 = nth a.first b := by
 unfold dN
 rw [gZ fun i hi => by have := (hr.move _ (cL hi)).1; rw [if_neg (by omega)]]; omega
theorem zJ : dN y a b (t + 1) = dN y a b t + JF y a.bg b t := by
 unfold dN JF
 rw [Int.add_assoc, ← vp]
 congr 1
 refine eD fun i _ => ?_
 by_cases e : (nth y.moves i).day < (t : Int)
 ·rw [if_pos e, if_pos (by omega), if_neg (by omega)]; omega
 by_cases e2 : (nth y.moves i).day = t
 ·rw [if_neg e, if_pos (by omega), if_pos e2]; omega
 rw [if_neg e, if_neg (by omega), if_neg e2]; rfl
theorem zZ (hr : y.cI) (hx : x.length = (aP y c).length) (hb : b < y.bins.length) (ht : t < y.D) :
 over (aP y c) x ((b * y.D + t : Nat) : Int) = nth x (y.kept b t) - nth x (y.kept b (t + 1)) + JF y (x.drop (y.bins.length * (y.D + 1))) b t := by
 unfold over
 rw [fG, mI, rG]
 congr 1
 ·have hcl := lO hb ht
  have key : ∀ b' t', b' < y.bins.length → t' < y.D + 1 → (ind ((nth (aP y c) (b' * (y.D + 1) + t')).dst = ((b * y.D + t : Nat) : Int)) - ind ((nth (aP y c) (b' * (y.D + 1) + t')).src = ((b * y.D + t : Nat) : Int))) * nth x (b' * (y.D + 1) + t') = (ind (b' = b ∧ t' = t) - ind (b' = b ∧ t' = t + 1)) * nth x (b' * (y.D + 1) + t') := by
   intro b' t' hb' ht'
   have hk := iS (c := c) hb' (show t' ≤ y.D by omega)
   unfold ah.kept at hk
   rw [hk, xX hr, xg hr (by omega)]
   congr 1
   have e1 : ind (((if t' < y.D then b' * y.D + t' else y.cells : Nat) : Int) = ((b * y.D + t : Nat) : Int)) = ind (b' = b ∧ t' = t) := by
    by_cases e : t' < y.D
    ·rw [if_pos e]
     by_cases h : b' = b ∧ t' = t
     ·rw [fR h, fR (by rw [h.1, h.2])]
     have hne : ¬ (((b' * y.D + t' : Nat) : Int) = ((b * y.D + t : Nat) : Int)) := fun e' => h (sI e ht (Int.ofNat.inj e'))
     rw [fH h, fH hne]
    rw [if_neg e, fH (by omega), fH (by omega)]
   have e2 : ind (((if 0 < t' then b' * y.D + (t' - 1) else y.cells : Nat) : Int) = ((b * y.D + t : Nat) : Int)) = ind (b' = b ∧ t' = t + 1) := by
    by_cases e : 0 < t'
    ·rw [if_pos e]
     by_cases h : b' = b ∧ t' = t + 1
     ·rw [fR h, fR (by rw [h.1, h.2]; rfl)]
     have hne : ¬ (((b' * y.D + (t' - 1) : Nat) : Int) = ((b * y.D + t : Nat) : Int)) := fun e' => h (by have := sI (show t' - 1 < y.D by omega) ht (Int.ofNat.inj e'); omega)
     rw [fH h, fH hne]
    rw [if_neg e, fH (by omega), fH (by omega)]
   rw [e1, e2]
  rw [eD fun b' hb' => eD fun t' ht' => key b' t' hb' ht']
  rw [iE hb fun b' _ hn => gZ fun t' _ => by rw [fH (fun h => hn h.1), fH (fun h => hn h.1)]; simp]
  rw [eD (g := fun t' => ind (t' = t) * nth x (b * (y.D + 1) + t') - ind (t' = t + 1) * nth x (b * (y.D + 1) + t')) fun t' _ => by
   rw [Int.sub_mul]; congr 2 <;> (unfold ind; simp)]
  rw [kY, iE (k := t) (by omega) fun i _ hn => by rw [fH hn, Int.zero_mul], iE (k := t + 1) (by omega) fun i _ hn => by rw [fH hn, Int.zero_mul], fR rfl, fR rfl, Int.one_mul, Int.one_mul]
  rfl
 unfold JF nk
 refine eD fun i hi => ?_
 obtain ⟨h1, h2, h3, _⟩ := hr.move _ (cL hi)
 rw [iQ hi]
 show (ind (y.cell _ _ = _) - ind (y.cell _ _ = _)) * _ = _
 have e0 : nth (x.drop (y.bins.length * (y.D + 1))) i = nth x (y.bins.length * (y.D + 1) + i) := by
  unfold nth; rw [List.getD_eq_getElem?_getD, List.getD_eq_getElem?_getD, List.getElem?_drop]
 rw [e0]
 by_cases e : (nth y.moves i).day = t
 ·rw [if_pos e]
  congr 2
  ·by_cases h : (nth y.moves i).dst = b
   ·rw [fR h, fR ((oK hr h3 h1 hb ht).2 ⟨h, e⟩)]
   rw [fH h, fH fun e' => h ((oK hr h3 h1 hb ht).1 e').1]
  by_cases h : (nth y.moves i).src = b
  ·rw [fR h, fR ((oK hr h2 h1 hb ht).2 ⟨h, e⟩)]
  rw [fH h, fH fun e' => h ((oK hr h2 h1 hb ht).1 e').1]
 rw [if_neg e, fH fun e' => e ((oK hr h3 h1 hb ht).1 e').2, fH fun e' => e ((oK hr h2 h1 hb ht).1 e').2]; simp
theorem GV (hr : y.cI) (h : ∀ b t, b < y.bins.length → t < y.D → over (aP y c) x ((b * y.D + t : Nat) : Int) = 0) : Cl (aP y c) (y.cells + 1) x := by
 have hin : ∀ k, k < y.cells → over (aP y c) x (k : Nat) = 0 := fun k hk => by
  have hD : 0 < y.D := by have := D_eq hr; have := hr.days; omega
  have e := Nat.div_add_mod k y.D
  rw [Nat.mul_comm] at e
  rw [← e]
  exact h _ _ ((Nat.div_lt_iff_lt_mul hD).2 hk) (Nat.mod_lt _ hD)
 intro k hk
 by_cases e : k < y.cells
 ·exact hin k e
 obtain rfl : k = y.cells := by omega
 have h0 := CX (a := x) (mE (c := c) hr)
 unfold cy at h0
 rw [gZ fun i hi => hin i hi] at h0
 omega
def lD (y : ah) (a : eM) : List Int := ((List.range y.bins.length).flatMap fun b => (List.range (y.D + 1)).map (dN y a b)) ++ a.bg
def gJ (y : ah) (x : List Int) : eM := ⟨(List.range y.bins.length).map fun b => nth x (y.kept b 0), x.drop (y.bins.length * (y.D + 1))⟩
structure AX (y : ah) (a : eM) : Prop where
  first : a.first.length = y.bins.length
  bg : a.bg.length = y.moves.length
theorem p4 (h : AX y a) : (lD y a).length = (aP y c).length := by
 unfold lD
 rw [List.length_append, lY _ (y.D + 1) _ fun x _ => by rw [List.length_map, List.length_range], List.length_range, h.bg, fG]
theorem kD (hb : b < y.bins.length) (ht : t ≤ y.D) : nth (lD y a) (y.kept b t) = dN y a b t := by
 unfold lD
 rw [gV (by rw [lY _ (y.D + 1) _ fun x _ => by rw [List.length_map, List.length_range], List.length_range]; exact qI hb ht)]
 unfold ah.kept
 rw [uI _ (y.D + 1) _ b t (fun i _ => by rw [List.length_map, List.length_range]) hb (by omega), gM _ (by omega)]
theorem rK : (lD y a).drop (y.bins.length * (y.D + 1)) = a.bg := by
 unfold lD
 refine List.drop_left' ?_
 rw [lY _ (y.D + 1) _ fun x _ => by rw [List.length_map, List.length_range], List.length_range]
theorem rZ {n i : Nat} : nth (x.drop n) i = nth x (n + i) := by
 unfold nth; rw [List.getD_eq_getElem?_getD, List.getD_eq_getElem?_getD, List.getElem?_drop]
theorem rL {i : Nat} : nth (lD y a) (y.bins.length * (y.D + 1) + i) = nth a.bg i := by
 rw [← rZ, rK]
theorem Dp (hr : y.cI) (h : AX y a) : Cl (aP y c) (y.cells + 1) (lD y a) := by
 refine GV hr fun b t hb ht => ?_
 rw [zZ hr (p4 h) hb ht, kD hb (by omega), kD hb (by omega), rK, zJ]; omega
theorem tE (hx : x.length = (aP y c).length) : AX y (gJ y x) := by
 rw [fG] at hx
 exact ⟨by unfold gJ; rw [List.length_map, List.length_range], by unfold gJ; rw [List.length_drop]; omega⟩
theorem qT (hr : y.cI) (hx : x.length = (aP y c).length) (he : Cl (aP y c) (y.cells + 1) x) (hb : b < y.bins.length) : ∀ t, t ≤ y.D → dN y (gJ y x) b t = nth x (y.kept b t)
  | 0, _ => by rw [qK hr]; exact gM _ hb
  | t + 1, ht => by
    rw [zJ, qT hr hx he hb t (by omega)]
    have h := zZ (c := c) hr hx hb (show t < y.D by omega)
    rw [he _ (by have := lO (y := y) hb (show t < y.D by omega); omega)] at h
    show _ + JF y (x.drop _) b t = _
    omega
structure eT (y : ah) (c : Nat → Bool) (a : eM) : Prop where
  lens : AX y a
  first : ∀ b, b < y.bins.length → (nth y.bins b).first.lo ≤ nth a.first b ∧ nth a.first b ≤ (nth y.bins b).first.hi
  cont : ∀ b t, b < y.bins.length → t ≤ y.D → 0 ≤ dN y a b t ∧ dN y a b t ≤ (nth y.bins b).holds
  bg : ∀ i, i < y.moves.length → (nth y.moves i).sacks.lo ≤ nth a.bg i ∧ nth a.bg i ≤ (nth y.moves i).sacks.hi
  level : ∀ i, i < y.levels.length → c i = true → (nth y.levels i).sacks.lo ≤ dN y a (nth y.levels i).bin.toNat (nth y.levels i).day.toNat ∧ dN y a (nth y.levels i).bin.toNat (nth y.levels i).day.toNat ≤ (nth y.levels i).sacks.hi
theorem tL {s : Span} {v : Int} : ∀ k, ((gI y c b t s k).lo ≤ v ∧ v ≤ (gI y c b t s k).hi) ↔ (s.lo ≤ v ∧ v ≤ s.hi) ∧ ∀ i, i < k → c i = true → (nth y.levels i).bin = b → (nth y.levels i).day = t → (nth y.levels i).sacks.lo ≤ v ∧ v ≤ (nth y.levels i).sacks.hi
  | 0 => ⟨fun h => ⟨h, fun i hi => by omega⟩, fun h => h.1⟩
  | k + 1 => by
    have ih := tL (s := s) (v := v) k
    unfold gI
    split
    · rename_i hc
      simp only [Bool.and_eq_true, decide_eq_true_eq] at hc
      constructor
      · intro h
        have h : max _ _ ≤ v ∧ v ≤ min _ _ := h
        obtain ⟨h1, h2⟩ := ih.1 ⟨by omega, by omega⟩
        refine ⟨h1, fun i hi hci hb ht => ?_⟩
        by_cases e : i = k
        · subst e; exact ⟨by omega, by omega⟩
        · exact h2 i (by omega) hci hb ht
      · rintro ⟨h1, h2⟩
        have h3 := ih.2 ⟨h1, fun i hi => h2 i (by omega)⟩
        have h4 := h2 k (by omega) hc.1.1 hc.1.2 hc.2
        show max _ _ ≤ v ∧ v ≤ min _ _
        omega
    · rename_i hc
      simp only [Bool.and_eq_true, decide_eq_true_eq, not_and] at hc
      rw [ih]
      constructor
      · rintro ⟨h1, h2⟩
        refine ⟨h1, fun i hi hci hb ht => ?_⟩
        by_cases e : i = k
        · subst e; exact absurd ht (hc ⟨hci, hb⟩)
        · exact h2 i (by omega) hci hb ht
      · rintro ⟨h1, h2⟩
        exact ⟨h1, fun i hi => h2 i (by omega)⟩
theorem Co (hr : y.cI) (hl : AX y a) : eT y c a ↔ yE (aP y c) (lD y a) := by
 have hD := D_eq hr
 constructor
 ·intro h
  refine ⟨p4 hl, fun i hi => ?_⟩
  rcases oA hi with ⟨b, t, hb, ht, rfl⟩ | ⟨k, hk, rfl⟩
  ·rw [iS hb ht, kD hb ht]
   show (ux y c b t).lo ≤ _ ∧ _ ≤ (ux y c b t).hi
   unfold ux
   refine (tL _).2 ⟨?_, fun i hi hc e1 e2 => ?_⟩
   ·have h1 := h.cont b t hb ht
    unfold iA
    split
    ·exact h1
    rename_i e
    obtain rfl : t = 0 := by omega
    rw [qK hr] at *
    have h2 := h.first b hb
    show max _ _ ≤ _ ∧ _ ≤ min _ _; omega
   have := h.level i hi hc
   rw [e1, e2] at this; exact this
  rw [iQ hk, rL]; exact h.bg k hk
 intro h
 have hk : ∀ b t, b < y.bins.length → t ≤ y.D → ((iA y b t).lo ≤ dN y a b t ∧ dN y a b t ≤ (iA y b t).hi) ∧ ∀ i, i < y.levels.length → c i = true → (nth y.levels i).bin = b → (nth y.levels i).day = t → (nth y.levels i).sacks.lo ≤ dN y a b t ∧ dN y a b t ≤ (nth y.levels i).sacks.hi := fun b t hb ht => by
  have h1 := h.2 (y.kept b t) (by rw [fG]; have := qI hb ht; omega)
  rw [iS hb ht, kD hb ht] at h1
  exact (tL _).1 h1
 refine ⟨hl, fun b hb => ?_, fun b t hb ht => ?_, fun i hi => ?_, fun i hi hc => ?_⟩
 ·have h1 := (hk b 0 hb (Nat.zero_le _)).1
  unfold iA at h1
  rw [if_neg (by omega), qK hr] at h1
  have h1 : max _ _ ≤ _ ∧ _ ≤ min _ _ := h1
  omega
 ·have h1 := (hk b t hb ht).1
  unfold iA at h1
  split at h1
  ·exact h1
  have h1 : max _ _ ≤ _ ∧ _ ≤ min _ _ := h1
  omega
 ·have h1 := h.2 (y.bins.length * (y.D + 1) + i) (by rw [fG]; omega)
  rw [iQ hi, rL] at h1; exact h1
 obtain ⟨h1, h2, _⟩ := hr.level _ (cL hi)
 exact (hk (nth y.levels i).bin.toNat (nth y.levels i).day.toNat (by omega) (by omega)).2 i hi hc (by omega) (by omega)
theorem DM (hr : y.cI) (hx : x.length = (aP y c).length) (he : Cl (aP y c) (y.cells + 1) x) {i : Nat} (hi : i < (aP y c).length) : nth (lD y (gJ y x)) i = nth x i := by
 rcases oA hi with ⟨b, t, hb, ht, rfl⟩ | ⟨k, hk, rfl⟩
 ·rw [kD hb ht, qT hr hx he hb t ht]
 rw [rL]; show nth (x.drop _) k = _; rw [rZ]
theorem p9 (hr : y.cI) (h : gb (aP y c) (y.cells + 1) x) : eT y c (gJ y x) := by
 refine (Co hr (tE h.1.1)).2 ⟨p4 (tE h.1.1), fun i hi => ?_⟩
 rw [DM hr h.1.1 h.2 hi]; exact h.1.2 i hi
theorem jQ (hr : y.cI) (h : eT y c a) : gb (aP y c) (y.cells + 1) (lD y a) := ⟨(Co hr h.lens).1 h, Dp hr h.lens⟩
theorem vm (hr : y.cI) : Bd (aP y c) := fun i hi => by
 rcases oA hi with ⟨b, t, hb, ht, rfl⟩ | ⟨k, hk, rfl⟩
 ·rw [iS hb ht]
  obtain ⟨h1, h2, h3⟩ := hr.bin _ (cL hb)
  have h4 := CS (y := y) (c := c) (b := b) (t := t) (iA y b t) y.levels.length
  show 0 ≤ (ux y c b t).lo ∧ (ux y c b t).hi ≤ 300
  unfold ux
  have h5 : 0 ≤ (iA y b t).lo ∧ (iA y b t).hi ≤ 300 := by
   unfold iA; split
   ·exact ⟨Int.le_refl _, h1.2⟩
   show 0 ≤ max _ _ ∧ min _ _ ≤ 300; omega
  omega
 rw [iQ hk]
 exact (hr.move _ (cL hk)).2.2.2.2.1
end
end Go.Proofs.YtelbollidfdcjaaGreat
namespace Go.Proofs.YtelbollidfdcjaaGreat
open Go Go.T
section
variable {fl : List cC} {a x : List Int} {n : Nat} {has : Nat → Bool}
def dF (has : Nat → Bool) (less : Bool) (i : Nat) : Int := if has i = true then (if less = true then -1 else 1) else 0
theorem sH (less : Bool) (i : Nat) : -1 ≤ dF has less i ∧ dF has less i ≤ 1 := by
 unfold dF; split
 ·split <;> omega
 omega
def jM (fl : List cC) (has : Nat → Bool) (x : List Int) : Int := cy (fun i => if has i = true then nth x i else 0) fl.length
theorem yV : k9 fl (dF has false) x = jM fl has x := by
 unfold k9 jM dF
 refine eD fun i _ => ?_
 cases has i <;> simp
theorem yg : k9 fl (dF has true) x = - jM fl has x := by
 unfold k9 jM dF
 have e : (fun i => (if has i = true then (if (true = true) then (-1 : Int) else 1) else 0) * nth x i) = fun i => (-1) * (if has i = true then nth x i else 0) := by
  funext i
  cases has i <;> simp
 rw [e, sF]; omega
structure oJ (fl : List cC) (n : Nat) (has : Nat → Bool) (s : Span) : Prop where
  lo : ∃ x, gb fl n x ∧ jM fl has x = s.lo
  hi : ∃ x, gb fl n x ∧ jM fl has x = s.hi
  all : ∀ x, gb fl n x → s.lo ≤ jM fl has x ∧ jM fl has x ≤ s.hi
theorem oJ.one {s s' : Span} (h : oJ fl n has s) (h' : oJ fl n has s') : s = s' := by
 obtain ⟨x1, f1, e1⟩ := h.lo
 obtain ⟨x2, f2, e2⟩ := h.hi
 obtain ⟨y1, g1, d1⟩ := h'.lo
 obtain ⟨y2, g2, d2⟩ := h'.hi
 have a1 := h.all y1 g1
 have a2 := h.all y2 g2
 have b1 := h'.all x1 f1
 have b2 := h'.all x2 f2
 cases s; cases s'
 simp only at *
 congr 1 <;> omega
open Classical in
noncomputable def gj (fl : List cC) (n : Nat) (has : Nat → Bool) : Span := if h : ∃ s, oJ fl n has s then h.choose else default
theorem oJ.eq {s : Span} (h : oJ fl n has s) : gj fl n has = s := by
 have hx : ∃ s, oJ fl n has s := ⟨s, h⟩
 unfold gj; rw [dif_pos hx]; exact hx.choose_spec.one h
noncomputable def Cn (fl : List cC) (n : Nat) (has : Nat → Bool) (a : List Int) : List Int := gU fl n (dF has true) a
noncomputable def yL (fl : List cC) (n : Nat) (has : Nat → Bool) (a : List Int) : List Int := gU fl n (dF has false) (Cn fl n has a)
theorem s7 (hN : Net fl n) (hn : 0 < n) (hB : Bd fl) (h : gb fl n a) : gb fl n (Cn fl n has a) ∧ gb fl n (yL fl n has a) ∧ oJ fl n has ⟨jM fl has (Cn fl n has a), jM fl has (yL fl n has a)⟩ := by
 obtain ⟨h1, h2⟩ := yY hN hn hB (sH (has := has) true) h
 obtain ⟨h3, h4⟩ := yY hN hn hB (sH (has := has) false) h1
 refine ⟨h1, h3, ⟨_, h1, rfl⟩, ⟨_, h3, rfl⟩, fun x hx => ⟨?_, ?_⟩⟩
 ·have := h2 x hx
  rw [yg, yg] at this
  show jM fl has (gU fl n (dF has true) a) ≤ _
  omega
 have := h4 x hx
 rw [yV, yV] at this
 exact this
def gl (fl : List cC) : List Int := fl.map cC.lo
theorem HV (h : ∀ i, i < fl.length → (nth fl i).lo ≤ (nth fl i).hi) : yE fl (gl fl) := by
 unfold gl
 exact ⟨by rw [List.length_map], fun i hi => by rw [B7 _ hi]; exact ⟨Int.le_refl _, h i hi⟩⟩
def hU (fl : List cC) : Bool := fl.all fun f => decide (f.lo ≤ f.hi)
theorem IA (h : hU fl = false) : ¬ ∃ x, gb fl n x := by
 rintro ⟨x, hx⟩
 unfold hU at h
 rw [List.all_eq_false] at h
 obtain ⟨f, hf, h⟩ := h
 obtain ⟨i, hi, rfl⟩ := jk hf
 have := hx.1.2 i hi
 rw [decide_eq_true_eq] at h; omega
theorem yx (h : hU fl = true) : ∀ i, i < fl.length → (nth fl i).lo ≤ (nth fl i).hi := fun i hi => by
 unfold hU at h
 rw [List.all_eq_true] at h
 exact of_decide_eq_true (h _ (cL hi))
noncomputable def cm (fl : List cC) (n : Nat) (a : List Int) : Int × Bool × List Int := if hU fl = true then gK fl n a else (0, true, a)
theorem oC (e : hU fl = true) : cm fl n a = gK fl n a := if_pos e
theorem yS (e : hU fl = false) : cm fl n a = (0, true, a) := if_neg (by rw [e]; decide)
theorem zc (hN : Net fl n) (ha : hU fl = true → yE fl a) (h : (cm fl n a).2.1 = false) : gb fl n (cm fl n a).2.2 := by
  cases e : hU fl with
  | true => rw [oC e] at h ⊢; exact wJ.some (uU hN (ha e)) h
  | false => rw [yS e] at h; cases h
theorem JI (hN : Net fl n) (ha : hU fl = true → yE fl a) (h : (cm fl n a).2.1 = true) : ¬ ∃ x, gb fl n x := by
  cases e : hU fl with
  | true => rw [oC e] at h; exact (uU hN (ha e)).none hN h
  | false => exact IA e
end
end Go.Proofs.YtelbollidfdcjaaGreat
namespace Go.Proofs.YtelbollidfdcjaaGreat
open Go Go.T
structure z8 (y : ah) (c : Nat → Bool) (f : eM → Int) (s : Span) : Prop where
  lo : ∃ a, eT y c a ∧ f a = s.lo
  hi : ∃ a, eT y c a ∧ f a = s.hi
  all : ∀ a, eT y c a → s.lo ≤ f a ∧ f a ≤ s.hi
section
variable {y : ah} {c : Nat → Bool} {f : eM → Int} {s s' : Span} {a : eM} {x : List Int} {b t k : Nat} {has : Nat → Bool}
theorem z8.one (h : z8 y c f s) (h' : z8 y c f s') : s = s' := by
 obtain ⟨x1, f1, e1⟩ := h.lo
 obtain ⟨x2, f2, e2⟩ := h.hi
 obtain ⟨y1, g1, d1⟩ := h'.lo
 obtain ⟨y2, g2, d2⟩ := h'.hi
 have a1 := h.all y1 g1
 have a2 := h.all y2 g2
 have b1 := h'.all x1 f1
 have b2 := h'.all x2 f2
 cases s; cases s'
 simp only at *
 congr 1 <;> omega
theorem yW {α : Type} [Inhabited α] {l k : List α} (h : l.length = k.length) (h2 : ∀ i, i < l.length → nth l i = nth k i) : l = k := by
 refine List.ext_getElem h fun i h1 h3 => ?_
 have := h2 i h1
 unfold nth at this
 rw [List.getD_eq_getElem?_getD, List.getD_eq_getElem?_getD, List.getElem?_eq_getElem h1, List.getElem?_eq_getElem h3] at this
 exact this
theorem uP (hr : y.cI) (h : AX y a) : gJ y (lD y a) = a := by
  cases a with
  | mk p q =>
    have h1 : (gJ y (lD y ⟨p, q⟩)).bg = q := rK
    have h2 : (gJ y (lD y ⟨p, q⟩)).first = p := by
      have hl := (tE (y := y) (c := fun _ => true) (p4 h)).first
      refine yW (hl.trans h.first.symm) fun i hi => ?_
      rw [hl] at hi
      show nth ((List.range y.bins.length).map fun b => nth (lD y ⟨p, q⟩) (y.kept b 0)) i = _
      rw [gM _ hi, kD hi (Nat.zero_le _), qK hr]
    cases e : gJ y (lD y ⟨p, q⟩) with
    | mk u v => rw [e] at h1 h2; subst h1; subst h2; rfl
theorem MM (hr : y.cI) (h1 : ∀ x, gb (aP y c) (y.cells + 1) x → jM (aP y c) has x = f (gJ y x)) : oJ (aP y c) (y.cells + 1) has s ↔ z8 y c f s := by
 constructor
 ·rintro ⟨⟨u, hu, eu⟩, ⟨v, hv, ev⟩, hall⟩
  refine ⟨⟨_, p9 hr hu, by rw [← h1 _ hu, eu]⟩, ⟨_, p9 hr hv, by rw [← h1 _ hv, ev]⟩, fun a ha => ?_⟩
  have h2 := hall _ (jQ hr ha)
  rw [h1 _ (jQ hr ha), uP hr ha.lens] at h2
  exact h2
 rintro ⟨⟨u, hu, eu⟩, ⟨v, hv, ev⟩, hall⟩
 refine ⟨⟨_, jQ hr hu, by rw [h1 _ (jQ hr hu), uP hr hu.lens, eu]⟩, ⟨_, jQ hr hv, by rw [h1 _ (jQ hr hv), uP hr hv.lens, ev]⟩, fun x hx => ?_⟩
 rw [h1 _ hx]
 exact hall _ (p9 hr hx)
theorem wO (hr : y.cI) (h1 : ∀ x, gb (aP y c) (y.cells + 1) x → jM (aP y c) has x = f (gJ y x)) (h : ∃ a, eT y c a) : z8 y c f (gj (aP y c) (y.cells + 1) has) := by
 obtain ⟨a, ha⟩ := h
 obtain ⟨_, _, hs⟩ := s7 (has := has) (mE hr) (Nat.succ_pos _) (vm hr) (jQ hr ha)
 rw [hs.eq]
 exact (MM hr h1).1 hs
theorem BZ {fl : List cC} (hk : k < fl.length) : jM fl (fun i => decide ((i : Int) = (k : Int))) x = nth x k := by
 unfold jM
 rw [iE hk fun i _ hn => if_neg (by rw [decide_eq_true_eq]; omega)]
 exact if_pos (decide_eq_true rfl)
theorem KF (hr : y.cI) (hb : b < y.bins.length) (ht : t ≤ y.D) (hx : gb (aP y c) (y.cells + 1) x) : jM (aP y c) (fun i => decide ((i : Int) = ((y.kept b t : Nat) : Int))) x = dN y (gJ y x) b t := by
 rw [BZ (by rw [fG]; have := qI hb ht; omega), qT hr hx.1.1 hx.2 hb t ht]
theorem G6 (hk : k < y.moves.length) : jM (aP y c) (fun i => decide ((i : Int) = ((y.bins.length * (y.D + 1) + k : Nat) : Int))) x = nth (gJ y x).bg k := by
 rw [BZ (by rw [fG]; omega)]
 exact rZ.symm
theorem GA (hr : y.cI) (ht : t ≤ y.D) (hx : gb (aP y c) (y.cells + 1) x) : jM (aP y c) (fun i => (List.range y.bins.length).any fun b => decide ((i : Int) = ((y.kept b t : Nat) : Int))) x = cy (fun b => dN y (gJ y x) b t) y.bins.length := by
 unfold jM
 rw [fG, mI, rG, gZ (n := y.moves.length) fun i _ => ?_, Int.add_zero]
 ·refine eD fun b hb => ?_
  rw [qT hr hx.1.1 hx.2 hb t ht]
  have key : ∀ t', t' < y.D + 1 → (((List.range y.bins.length).any fun b' => decide (((b * (y.D + 1) + t' : Nat) : Int) = ((y.kept b' t : Nat) : Int))) = decide (t' = t)) := fun t' ht' => by
   rw [Bool.eq_iff_iff, List.any_eq_true, decide_eq_true_eq]
   constructor
   ·rintro ⟨b', _, he⟩
    have he := of_decide_eq_true he
    unfold ah.kept at he
    exact (sI (D := y.D + 1) ht' (by omega) (Int.ofNat.inj he)).2
   rintro rfl
   exact ⟨b, List.mem_range.2 hb, decide_eq_true rfl⟩
  rw [eD (g := fun t' => if decide (t' = t) = true then nth x (b * (y.D + 1) + t') else 0) fun t' ht' => by show (if ((List.range y.bins.length).any fun b' => decide (((b * (y.D + 1) + t' : Nat) : Int) = ((y.kept b' t : Nat) : Int))) = true then _ else _) = _; rw [key t' ht']]
  rw [iE (k := t) (by omega) fun i _ hn => if_neg (by rw [decide_eq_true_eq]; exact hn), if_pos (decide_eq_true rfl)]
  rfl
 refine if_neg ?_
 rw [List.any_eq_true]
 rintro ⟨b, hb, he⟩
 have he := of_decide_eq_true he
 have := qI (List.mem_range.1 hb) ht
 omega
theorem n4 (hr : y.cI) : (cm (aP y c) (y.cells + 1) (gl (aP y c))).2.1 = false ↔ ∃ a, eT y c a := by
  have hi : hU (aP y c) = true → yE (aP y c) (gl (aP y c)) := fun e => HV (yx e)
  constructor
  · intro h; exact ⟨_, p9 hr (zc (mE hr) hi h)⟩
  · rintro ⟨a, ha⟩
    cases e : (cm (aP y c) (y.cells + 1) (gl (aP y c))).2.1 with
    | false => rfl
    | true => exact absurd ⟨_, jQ hr ha⟩ (JI (mE hr) hi e)
end
end Go.Proofs.YtelbollidfdcjaaGreat
namespace Go.Proofs.YtelbollidfdcjaaGreat
open Go Go.T
def types : List TI := [
  ⟨.other, 1, 0, [.tuple #[]]⟩,
  ⟨.func, 1, 8, [.nilFunc]⟩,
  ⟨.int .i64, 1, 8, [.int .i64 0]⟩,
  ⟨.int .i64, 1, 8, [.int .i64 0]⟩,
  ⟨.bool, 1, 1, [.bool false]⟩,
  ⟨.int .u8, 1, 1, [.int .u8 0]⟩,
  ⟨.int .u8, 1, 1, [.int .u8 0]⟩,
  ⟨.struct [(0, 2), (1, 3), (2, 4), (3, 6)], 4, 24, [.int .i64 0, .int .i64 0, .bool false, .int .u8 0]⟩,
  ⟨.struct [(0, 2), (1, 3), (2, 4), (3, 6)], 4, 24, [.int .i64 0, .int .i64 0, .bool false, .int .u8 0]⟩,
  ⟨.string, 1, 16, [.string ByteArray.empty]⟩,
  ⟨.string, 1, 16, [.string ByteArray.empty]⟩,
  ⟨.string, 1, 16, [.string ByteArray.empty]⟩,
  ⟨.int .u64, 1, 8, [.int .u64 0]⟩,
  ⟨.struct [(0, 9), (1, 12)], 2, 24, [.string ByteArray.empty, .int .u64 0]⟩,
  ⟨.struct [(0, 9), (1, 12)], 2, 24, [.string ByteArray.empty, .int .u64 0]⟩,
  ⟨.ptr 238, 1, 8, [.pointer none]⟩,
  ⟨.ptr 241, 1, 8, [.pointer none]⟩,
  ⟨.ptr 249, 1, 8, [.pointer none]⟩,
  ⟨.struct [(0, 17)], 1, 8, [.pointer none]⟩,
  ⟨.struct [(0, 17)], 1, 8, [.pointer none]⟩,
  ⟨.other, 1, 16, [.nilIface]⟩,
  ⟨.int .i32, 1, 4, [.int .i32 0]⟩,
  ⟨.slice 5, 1, 24, [.slice none 0 0]⟩,
  ⟨.slice 39, 1, 24, [.slice none 0 0]⟩,
  ⟨.slice 41, 1, 24, [.slice none 0 0]⟩,
  ⟨.slice 102, 1, 24, [.slice none 0 0]⟩,
  ⟨.struct [(0, 3), (1, 23), (2, 24), (3, 25)], 4, 80, [.int .i64 0, .slice none 0 0, .slice none 0 0, .slice none 0 0]⟩,
  ⟨.struct [(0, 3), (1, 23), (2, 24), (3, 25)], 4, 80, [.int .i64 0, .slice none 0 0, .slice none 0 0, .slice none 0 0]⟩,
  ⟨.slice 3, 1, 24, [.slice none 0 0]⟩,
  ⟨.struct [(0, 28), (1, 28)], 2, 48, [.slice none 0 0, .slice none 0 0]⟩,
  ⟨.struct [(0, 28), (1, 28)], 2, 48, [.slice none 0 0, .slice none 0 0]⟩,
  ⟨.other, 1, 0, [.tuple #[.agg #[.int .i64 0, .slice none 0 0, .slice none 0 0, .slice none 0 0], .agg #[.slice none 0 0, .slice none 0 0]]]⟩,
  ⟨.func, 1, 8, [.nilFunc]⟩,
  ⟨.ptr 149, 1, 8, [.pointer none]⟩,
  ⟨.func, 1, 8, [.nilFunc]⟩,
  ⟨.func, 1, 8, [.nilFunc]⟩,
  ⟨.struct [(0, 3), (1, 3)], 2, 16, [.int .i64 0, .int .i64 0]⟩,
  ⟨.struct [(0, 3), (1, 3)], 2, 16, [.int .i64 0, .int .i64 0]⟩,
  ⟨.struct [(0, 3), (1, 37)], 3, 24, [.int .i64 0, .int .i64 0, .int .i64 0]⟩,
  ⟨.struct [(0, 3), (1, 37)], 3, 24, [.int .i64 0, .int .i64 0, .int .i64 0]⟩,
  ⟨.struct [(0, 3), (1, 3), (2, 3), (3, 37)], 5, 40, [.int .i64 0, .int .i64 0, .int .i64 0, .int .i64 0, .int .i64 0]⟩,
  ⟨.struct [(0, 3), (1, 3), (2, 3), (3, 37)], 5, 40, [.int .i64 0, .int .i64 0, .int .i64 0, .int .i64 0, .int .i64 0]⟩,
  ⟨.func, 1, 8, [.nilFunc]⟩,
  ⟨.slice 37, 1, 24, [.slice none 0 0]⟩,
  ⟨.int .i64, 1, 8, [.int .i64 0]⟩,
  ⟨.other, 1, 0, [.tuple #[.slice none 0 0, .int .i64 0]]⟩,
  ⟨.func, 1, 8, [.nilFunc]⟩,
  ⟨.func, 1, 8, [.nilFunc]⟩,
  ⟨.func, 1, 8, [.nilFunc]⟩,
  ⟨.func, 1, 8, [.nilFunc]⟩,
  ⟨.func, 1, 8, [.nilFunc]⟩,
  ⟨.func, 1, 8, [.nilFunc]⟩,
  ⟨.func, 1, 8, [.nilFunc]⟩,
  ⟨.func, 1, 8, [.nilFunc]⟩,
  ⟨.func, 1, 8, [.nilFunc]⟩,
  ⟨.func, 1, 8, [.nilFunc]⟩,
  ⟨.slice 163, 1, 24, [.slice none 0 0]⟩,
  ⟨.slice 164, 1, 24, [.slice none 0 0]⟩,
  ⟨.slice 165, 1, 24, [.slice none 0 0]⟩,
  ⟨.struct [(0, 3), (1, 56), (2, 57), (3, 58)], 4, 80, [.int .i64 0, .slice none 0 0, .slice none 0 0, .slice none 0 0]⟩,
  ⟨.struct [(0, 3), (1, 56), (2, 57), (3, 58)], 4, 80, [.int .i64 0, .slice none 0 0, .slice none 0 0, .slice none 0 0]⟩,
  ⟨.func, 1, 8, [.nilFunc]⟩,
  ⟨.func, 1, 8, [.nilFunc]⟩,
  ⟨.slice 43, 1, 24, [.slice none 0 0]⟩,
  ⟨.slice 4, 1, 24, [.slice none 0 0]⟩,
  ⟨.struct [(0, 4), (1, 63), (2, 43), (3, 43), (4, 64)], 5, 104, [.bool false, .slice none 0 0, .slice none 0 0, .slice none 0 0, .slice none 0 0]⟩,
  ⟨.struct [(0, 4), (1, 63), (2, 43), (3, 43), (4, 64)], 5, 104, [.bool false, .slice none 0 0, .slice none 0 0, .slice none 0 0, .slice none 0 0]⟩,
  ⟨.func, 1, 8, [.nilFunc]⟩,
  ⟨.other, 1, 0, [.tuple #[.int .i64 0, .int .i64 0]]⟩,
  ⟨.func, 1, 8, [.nilFunc]⟩,
  ⟨.func, 1, 8, [.nilFunc]⟩,
  ⟨.func, 1, 8, [.nilFunc]⟩,
  ⟨.int .u16, 1, 2, [.int .u16 0]⟩,
  ⟨.func, 1, 8, [.nilFunc]⟩,
  ⟨.func, 1, 8, [.nilFunc]⟩,
  ⟨.func, 1, 8, [.nilFunc]⟩,
  ⟨.func, 1, 8, [.nilFunc]⟩,
  ⟨.other, 1, 0, [.tuple #[.slice none 0 0, .bool false, .slice none 0 0, .bool false]]⟩,
  ⟨.func, 1, 8, [.nilFunc]⟩,
  ⟨.func, 1, 8, [.nilFunc]⟩,
  ⟨.func, 1, 8, [.nilFunc]⟩,
  ⟨.other, 1, 0, [.tuple #[.bool false, .int .i64 0]]⟩,
  ⟨.func, 1, 8, [.nilFunc]⟩,
  ⟨.other, 1, 0, [.tuple #[.slice none 0 0, .int .i64 0]]⟩,
  ⟨.func, 1, 8, [.nilFunc]⟩,
  ⟨.func, 1, 8, [.nilFunc]⟩,
  ⟨.func, 1, 8, [.nilFunc]⟩,
  ⟨.other, 1, 0, [.tuple #[.agg #[.slice none 0 0, .slice none 0 0], .int .i64 0]]⟩,
  ⟨.func, 1, 8, [.nilFunc]⟩,
  ⟨.other, 1, 0, [.tuple #[.agg #[.int .i64 0, .int .i64 0], .int .i64 0]]⟩,
  ⟨.func, 1, 8, [.nilFunc]⟩,
  ⟨.func, 1, 8, [.nilFunc]⟩,
  ⟨.func, 1, 8, [.nilFunc]⟩,
  ⟨.func, 1, 8, [.nilFunc]⟩,
  ⟨.func, 1, 8, [.nilFunc]⟩,
  ⟨.struct [(0, 28), (1, 28)], 2, 48, [.slice none 0 0, .slice none 0 0]⟩,
  ⟨.func, 1, 8, [.nilFunc]⟩,
  ⟨.func, 1, 8, [.nilFunc]⟩,
  ⟨.other, 1, 0, [.tuple #[.agg #[.int .i64 0, .slice none 0 0, .slice none 0 0, .slice none 0 0], .int .i64 0]]⟩,
  ⟨.func, 1, 8, [.nilFunc]⟩,
  ⟨.func, 1, 8, [.nilFunc]⟩,
  ⟨.struct [(0, 3), (1, 3), (2, 37)], 4, 32, [.int .i64 0, .int .i64 0, .int .i64 0, .int .i64 0]⟩,
  ⟨.struct [(0, 3), (1, 3), (2, 37)], 4, 32, [.int .i64 0, .int .i64 0, .int .i64 0, .int .i64 0]⟩,
  ⟨.func, 1, 8, [.nilFunc]⟩,
  ⟨.slice 109, 1, 24, [.slice none 0 0]⟩,
  ⟨.struct [(0, 104), (1, 4)], 2, 32, [.slice none 0 0, .bool false]⟩,
  ⟨.struct [(0, 104), (1, 4)], 2, 32, [.slice none 0 0, .bool false]⟩,
  ⟨.func, 1, 8, [.nilFunc]⟩,
  ⟨.struct [(0, 3), (1, 3)], 2, 16, [.int .i64 0, .int .i64 0]⟩,
  ⟨.struct [(0, 3), (1, 3)], 2, 16, [.int .i64 0, .int .i64 0]⟩,
  ⟨.func, 1, 8, [.nilFunc]⟩,
  ⟨.slice 189, 1, 24, [.slice none 0 0]⟩,
  ⟨.func, 1, 8, [.nilFunc]⟩,
  ⟨.other, 1, 0, [.tuple #[.agg #[.slice none 0 0, .bool false], .int .i64 0]]⟩,
  ⟨.func, 1, 8, [.nilFunc]⟩,
  ⟨.func, 1, 8, [.nilFunc]⟩,
  ⟨.func, 1, 8, [.nilFunc]⟩,
  ⟨.func, 1, 8, [.nilFunc]⟩,
  ⟨.func, 1, 8, [.nilFunc]⟩,
  ⟨.func, 1, 8, [.nilFunc]⟩,
  ⟨.ptr 37, 1, 8, [.pointer none]⟩,
  ⟨.func, 1, 8, [.nilFunc]⟩,
  ⟨.func, 1, 8, [.nilFunc]⟩,
  ⟨.func, 1, 8, [.nilFunc]⟩,
  ⟨.func, 1, 8, [.nilFunc]⟩,
  ⟨.func, 1, 8, [.nilFunc]⟩,
  ⟨.func, 1, 8, [.nilFunc]⟩,
  ⟨.func, 1, 8, [.nilFunc]⟩,
  ⟨.slice 27, 1, 24, [.slice none 0 0]⟩,
  ⟨.func, 1, 8, [.nilFunc]⟩,
  ⟨.slice 28, 1, 24, [.slice none 0 0]⟩,
  ⟨.func, 1, 8, [.nilFunc]⟩,
  ⟨.func, 1, 8, [.nilFunc]⟩,
  ⟨.other, 1, 0, [.tuple #[.slice none 0 0, .int .i64 0]]⟩,
  ⟨.func, 1, 8, [.nilFunc]⟩,
  ⟨.func, 1, 8, [.nilFunc]⟩,
  ⟨.func, 1, 8, [.nilFunc]⟩,
  ⟨.func, 1, 8, [.nilFunc]⟩,
  ⟨.func, 1, 8, [.nilFunc]⟩,
  ⟨.func, 1, 8, [.nilFunc]⟩,
  ⟨.array 4 3, 4, 32, [.int .i64 0, .int .i64 0, .int .i64 0, .int .i64 0]⟩,
  ⟨.ptr 3, 1, 8, [.pointer none]⟩,
  ⟨.slice 141, 1, 24, [.slice none 0 0]⟩,
  ⟨.func, 1, 8, [.nilFunc]⟩,
  ⟨.func, 1, 8, [.nilFunc]⟩,
  ⟨.func, 1, 8, [.nilFunc]⟩,
  ⟨.func, 1, 8, [.nilFunc]⟩,
  ⟨.int .u32, 1, 4, [.int .u32 0]⟩,
  ⟨.struct [(0, 22), (1, 3), (2, 147)], 3, 40, [.slice none 0 0, .int .i64 0, .int .u32 0]⟩,
  ⟨.struct [(0, 22), (1, 3), (2, 147)], 3, 40, [.slice none 0 0, .int .i64 0, .int .u32 0]⟩,
  ⟨.func, 1, 8, [.nilFunc]⟩,
  ⟨.func, 1, 8, [.nilFunc]⟩,
  ⟨.ptr 185, 1, 8, [.pointer none]⟩,
  ⟨.other, 1, 0, [.tuple #[.pointer none, .int .i64 0]]⟩,
  ⟨.func, 1, 8, [.nilFunc]⟩,
  ⟨.func, 1, 8, [.nilFunc]⟩,
  ⟨.func, 1, 8, [.nilFunc]⟩,
  ⟨.func, 1, 8, [.nilFunc]⟩,
  ⟨.func, 1, 8, [.nilFunc]⟩,
  ⟨.func, 1, 8, [.nilFunc]⟩,
  ⟨.func, 1, 8, [.nilFunc]⟩,
  ⟨.func, 1, 8, [.nilFunc]⟩,
  ⟨.func, 1, 8, [.nilFunc]⟩,
  ⟨.struct [(0, 3), (1, 37)], 3, 24, [.int .i64 0, .int .i64 0, .int .i64 0]⟩,
  ⟨.struct [(0, 3), (1, 3), (2, 3), (3, 37)], 5, 40, [.int .i64 0, .int .i64 0, .int .i64 0, .int .i64 0, .int .i64 0]⟩,
  ⟨.struct [(0, 3), (1, 3), (2, 37)], 4, 32, [.int .i64 0, .int .i64 0, .int .i64 0, .int .i64 0]⟩,
  ⟨.func, 1, 8, [.nilFunc]⟩,
  ⟨.func, 1, 8, [.nilFunc]⟩,
  ⟨.ptr 66, 1, 8, [.pointer none]⟩,
  ⟨.func, 1, 8, [.nilFunc]⟩,
  ⟨.func, 1, 8, [.nilFunc]⟩,
  ⟨.func, 1, 8, [.nilFunc]⟩,
  ⟨.func, 1, 8, [.nilFunc]⟩,
  ⟨.func, 1, 8, [.nilFunc]⟩,
  ⟨.func, 1, 8, [.nilFunc]⟩,
  ⟨.other, 1, 0, [.tuple #[.slice none 0 0, .bool false]]⟩,
  ⟨.func, 1, 8, [.nilFunc]⟩,
  ⟨.func, 1, 8, [.nilFunc]⟩,
  ⟨.func, 1, 8, [.nilFunc]⟩,
  ⟨.array 8 4, 8, 8, [.bool false, .bool false, .bool false, .bool false, .bool false, .bool false, .bool false, .bool false]⟩,
  ⟨.array 8 4, 8, 8, [.bool false, .bool false, .bool false, .bool false, .bool false, .bool false, .bool false, .bool false]⟩,
  ⟨.func, 1, 8, [.nilFunc]⟩,
  ⟨.func, 1, 8, [.nilFunc]⟩,
  ⟨.slice 187, 1, 24, [.slice none 0 0]⟩,
  ⟨.struct [(0, 27), (4, 183), (5, 28)], 6, 128, [.int .i64 0, .slice none 0 0, .slice none 0 0, .slice none 0 0, .slice none 0 0, .slice none 0 0]⟩,
  ⟨.struct [(0, 27), (4, 183), (5, 28)], 6, 128, [.int .i64 0, .slice none 0 0, .slice none 0 0, .slice none 0 0, .slice none 0 0, .slice none 0 0]⟩,
  ⟨.struct [(0, 3), (1, 3), (2, 3), (3, 3)], 4, 32, [.int .i64 0, .int .i64 0, .int .i64 0, .int .i64 0]⟩,
  ⟨.struct [(0, 3), (1, 3), (2, 3), (3, 3)], 4, 32, [.int .i64 0, .int .i64 0, .int .i64 0, .int .i64 0]⟩,
  ⟨.func, 1, 8, [.nilFunc]⟩,
  ⟨.struct [(0, 3), (1, 3)], 2, 16, [.int .i64 0, .int .i64 0]⟩,
  ⟨.other, 1, 0, [.tuple #[.int .i64 0, .int .i64 0]]⟩,
  ⟨.func, 1, 8, [.nilFunc]⟩,
  ⟨.func, 1, 8, [.nilFunc]⟩,
  ⟨.func, 1, 8, [.nilFunc]⟩,
  ⟨.other, 1, 0, [.tuple #[.int .i64 0, .bool false]]⟩,
  ⟨.func, 1, 8, [.nilFunc]⟩,
  ⟨.map 3 199, 1, 8, [.map none]⟩,
  ⟨.func, 1, 8, [.nilFunc]⟩,
  ⟨.struct [(0, 3), (1, 4)], 2, 16, [.int .i64 0, .bool false]⟩,
  ⟨.struct [(0, 3), (1, 4)], 2, 16, [.int .i64 0, .bool false]⟩,
  ⟨.other, 1, 0, [.tuple #[.agg #[.int .i64 0, .bool false], .bool false]]⟩,
  ⟨.func, 1, 8, [.nilFunc]⟩,
  ⟨.func, 1, 8, [.nilFunc]⟩,
  ⟨.func, 1, 8, [.nilFunc]⟩,
  ⟨.func, 1, 8, [.nilFunc]⟩,
  ⟨.func, 1, 8, [.nilFunc]⟩,
  ⟨.func, 1, 8, [.nilFunc]⟩,
  ⟨.func, 1, 8, [.nilFunc]⟩,
  ⟨.func, 1, 8, [.nilFunc]⟩,
  ⟨.func, 1, 8, [.nilFunc]⟩,
  ⟨.func, 1, 8, [.nilFunc]⟩,
  ⟨.func, 1, 8, [.nilFunc]⟩,
  ⟨.func, 1, 8, [.nilFunc]⟩,
  ⟨.struct [(0, 118), (1, 4)], 2, 16, [.nilFunc, .bool false]⟩,
  ⟨.struct [(0, 118), (1, 4)], 2, 16, [.nilFunc, .bool false]⟩,
  ⟨.func, 1, 8, [.nilFunc]⟩,
  ⟨.func, 1, 8, [.nilFunc]⟩,
  ⟨.func, 1, 8, [.nilFunc]⟩,
  ⟨.func, 1, 8, [.nilFunc]⟩,
  ⟨.func, 1, 8, [.nilFunc]⟩,
  ⟨.func, 1, 8, [.nilFunc]⟩,
  ⟨.func, 1, 8, [.nilFunc]⟩,
  ⟨.slice 199, 1, 24, [.slice none 0 0]⟩,
  ⟨.func, 1, 8, [.nilFunc]⟩,
  ⟨.func, 1, 8, [.nilFunc]⟩,
  ⟨.func, 1, 8, [.nilFunc]⟩,
  ⟨.func, 1, 8, [.nilFunc]⟩,
  ⟨.map 3 222, 1, 8, [.map none]⟩,
  ⟨.func, 1, 8, [.nilFunc]⟩,
  ⟨.int .u64, 1, 8, [.int .u64 0]⟩,
  ⟨.func, 1, 8, [.nilFunc]⟩,
  ⟨.func, 1, 8, [.nilFunc]⟩,
  ⟨.func, 1, 8, [.nilFunc]⟩,
  ⟨.func, 1, 8, [.nilFunc]⟩,
  ⟨.func, 1, 8, [.nilFunc]⟩,
  ⟨.func, 1, 8, [.nilFunc]⟩,
  ⟨.func, 1, 8, [.nilFunc]⟩,
  ⟨.struct [(0, 17), (1, 17), (2, 17), (3, 9)], 4, 40, [.pointer none, .pointer none, .pointer none, .string ByteArray.empty]⟩,
  ⟨.struct [(0, 17), (1, 17), (2, 17), (3, 9)], 4, 40, [.pointer none, .pointer none, .pointer none, .string ByteArray.empty]⟩,
  ⟨.array 0 16, 0, 0, []⟩,
  ⟨.struct [(0, 239)], 0, 0, []⟩,
  ⟨.struct [(0, 239)], 0, 0, []⟩,
  ⟨.int .u8, 1, 1, [.int .u8 0]⟩,
  ⟨.int .u8, 1, 1, [.int .u8 0]⟩,
  ⟨.func, 1, 8, [.nilFunc]⟩,
  ⟨.ptr 5, 1, 8, [.pointer none]⟩,
  ⟨.int .i32, 1, 4, [.int .i32 0]⟩,
  ⟨.int .i32, 1, 4, [.int .i32 0]⟩,
  ⟨.struct [(0, 12), (1, 12), (2, 147), (3, 242), (4, 5), (5, 5), (6, 243), (7, 244), (8, 245), (9, 246), (10, 247)], 11, 48, [.int .u64 0, .int .u64 0, .int .u32 0, .int .u8 0, .int .u8 0, .int .u8 0, .int .u8 0, .nilFunc, .pointer none, .int .i32 0, .int .i32 0]⟩,
  ⟨.struct [(0, 12), (1, 12), (2, 147), (3, 242), (4, 5), (5, 5), (6, 243), (7, 244), (8, 245), (9, 246), (10, 247)], 11, 48, [.int .u64 0, .int .u64 0, .int .u32 0, .int .u8 0, .int .u8 0, .int .u8 0, .int .u8 0, .nilFunc, .pointer none, .int .i32 0, .int .i32 0]⟩,
  ⟨.other, 1, 8, [.pointer none]⟩]
theorem Ib : (List.range types.length).map (Fk Tryz.prog) = types.map some := by kernel_rfl
instance tab : lC Tryz.prog := ⟨types, lC.of Ib⟩
theorem Cu {P : Program} {w : World} {t : Nat} {k : IntKind} {a b : Int} (d : Nat) (h : P.underlying t = some (.int k)) : (Op.equalIn (d + 1) t (.int k a) (.int k b)).run P w = .ok (decide (a = b)) w := by
 simp [Op.equalIn, run_underlying h, Eh]
theorem ON (a0 a1 b0 b1 : Int) (w : World) : (Op.equal 37 (.agg #[.int .i64 a0, .int .i64 a1]) (.agg #[.int .i64 b0, .int .i64 b1])).run Tryz.prog w = .ok ((decide (a0 = b0) && decide (a1 = b1))) w := by
 have hs : Tryz.prog.stoodInHeld 37 = false := by kernel_rfl
 have e3 : ∀ (x y : Int) (w : World), (Op.equalIn 9999 3 (.int .i64 x) (.int .i64 y)).run Tryz.prog w = .ok (decide (x = y)) w := fun x y w => Cu 9998 Tryz.underlying3
 have g3 : ∀ w, (isAgg 3).run Tryz.prog w = .ok false w := fun w => by simp [isAgg, run_underlying Tryz.underlying3]
 unfold Op.equal Op.maxDepth
 rw [Op.equalIn]
 simp only [Sem.run_bind, run_underlying Tryz.underlying37, Result.andThen_ok]
 simp [hs, part, g3, e3]
 by_cases h0 : a0 = b0 <;> by_cases h1 : a1 = b1 <;> simp [h0, h1]
theorem LY (a0 a1 b0 b1 : Int) : LX Tryz.prog 37 [Ty.int .i64 a0, Ty.int .i64 a1] [Ty.int .i64 b0, Ty.int .i64 b1] ((decide (a0 = b0) && decide (a1 = b1))) :=
  ⟨by kernel_rfl, fun w M cs ds h1 h2 => by
    obtain ⟨cs⟩ := cs
    obtain ⟨ds⟩ := ds
    match cs, ds, h1, h2 with
    | [u0, u1], [v0, v1], h1, h2 =>
      simp only [cK, Ty.int, iN, and_true] at h1 h2
      obtain ⟨rfl, rfl⟩ := h1
      obtain ⟨rfl, rfl⟩ := h2
      exact ON _ _ _ _ w⟩
theorem MN (a0 a1 b0 b1 : Int) (w : World) : (Op.equal 109 (.agg #[.int .i64 a0, .int .i64 a1]) (.agg #[.int .i64 b0, .int .i64 b1])).run Tryz.prog w = .ok ((decide (a0 = b0) && decide (a1 = b1))) w := by
 have hs : Tryz.prog.stoodInHeld 109 = false := by kernel_rfl
 have e3 : ∀ (x y : Int) (w : World), (Op.equalIn 9999 3 (.int .i64 x) (.int .i64 y)).run Tryz.prog w = .ok (decide (x = y)) w := fun x y w => Cu 9998 Tryz.underlying3
 have g3 : ∀ w, (isAgg 3).run Tryz.prog w = .ok false w := fun w => by simp [isAgg, run_underlying Tryz.underlying3]
 unfold Op.equal Op.maxDepth
 rw [Op.equalIn]
 simp only [Sem.run_bind, run_underlying Tryz.underlying109, Result.andThen_ok]
 simp [hs, part, g3, e3]
 by_cases h0 : a0 = b0 <;> by_cases h1 : a1 = b1 <;> simp [h0, h1]
theorem NL (a0 a1 b0 b1 : Int) : LX Tryz.prog 109 [Ty.int .i64 a0, Ty.int .i64 a1] [Ty.int .i64 b0, Ty.int .i64 b1] ((decide (a0 = b0) && decide (a1 = b1))) :=
  ⟨by kernel_rfl, fun w M cs ds h1 h2 => by
    obtain ⟨cs⟩ := cs
    obtain ⟨ds⟩ := ds
    match cs, ds, h1, h2 with
    | [u0, u1], [v0, v1], h1, h2 =>
      simp only [cK, Ty.int, iN, and_true] at h1 h2
      obtain ⟨rfl, rfl⟩ := h1
      obtain ⟨rfl, rfl⟩ := h2
      exact MN _ _ _ _ w⟩
theorem mixed : Tryz.prog.follows .mixedOrders = true := by kernel_rfl
end Go.Proofs.YtelbollidfdcjaaGreat
namespace Go.Proofs.YtelbollidfdcjaaGreat
open Go Go.T
structure Cm where
  bin : Int
  day : Int
deriving DecidableEq, Inhabited
def dm : El Span := El.mk' 2 (fun x => [Ty.int .i64 x.lo, Ty.int .i64 x.hi]) (fun _ => rfl) (fun _ => ⟨rfl, rfl, rfl⟩)
def dO : El vE := El.mk' 3 (fun x => [Ty.int .i64 x.holds, Ty.int .i64 x.first.lo, Ty.int .i64 x.first.hi]) (fun _ => rfl) (fun _ => ⟨rfl, rfl, rfl⟩)
def cR : El Move := El.mk' 5 (fun x => [Ty.int .i64 x.day, Ty.int .i64 x.src, Ty.int .i64 x.dst, Ty.int .i64 x.sacks.lo, Ty.int .i64 x.sacks.hi]) (fun _ => rfl) (fun _ => ⟨rfl, rfl, rfl⟩)
def ct : El Level := El.mk' 4 (fun x => [Ty.int .i64 x.day, Ty.int .i64 x.bin, Ty.int .i64 x.sacks.lo, Ty.int .i64 x.sacks.hi]) (fun _ => rfl) (fun _ => ⟨rfl, rfl, rfl⟩)
def q8 : El Cm := El.mk' 2 (fun x => [Ty.int .i64 x.bin, Ty.int .i64 x.day]) (fun _ => rfl) (fun _ => ⟨rfl, rfl, rfl⟩)
def dx : El cC := El.mk' 4 (fun x => [Ty.int .i64 x.src, Ty.int .i64 x.dst, Ty.int .i64 x.lo, Ty.int .i64 x.hi]) (fun _ => rfl) (fun _ => ⟨rfl, rfl, rfl⟩)
def fq : El Way := El.mk' 2 (fun x => [Ty.int .i64 (x.ix : Nat), Ty.bool x.more]) (fun _ => rfl) (fun _ => ⟨rfl, rfl, rfl⟩)
def jA : El Bool := El.mk' 1 (fun x => [Ty.bool x]) (fun _ => rfl) (fun _ => ⟨rfl, rfl, rfl⟩)
def bK (y : ah) : List Ty := [Ty.int .i64 y.days, Ty.sl dO y.bins, Ty.sl cR y.moves, Ty.sl ct y.levels]
def fI (y : ah) : Ty := Ty.agg (bK y)
def dJ (a : eM) : List Ty := [Ty.sl cS a.first, Ty.sl cS a.bg]
def qn (a : eM) : Ty := Ty.agg (dJ a)
theorem qt {b : Bool} (h : (!b) = true) : b = false := by cases b <;> first | rfl | cases h
theorem gA {b : Bool} (h : (!b) = false) : b = true := by cases b <;> first | rfl | cases h
theorem ze {α : Type} [Inhabited α] {a b : List α} {k : Nat} (h : nth a k ≠ nth b k) : a ≠ b := fun e => h (by rw [e])
theorem sN {α : Type} (q : α → Bool) (l : List α) : (!(l.any fun x => !q x)) = l.all q := by
  induction l with
  | nil => rfl
  | cons x l ih => simp only [List.any_cons, List.all_cons, Bool.not_or, Bool.not_not, ih]
end Go.Proofs.YtelbollidfdcjaaGreat
namespace Go.Proofs.YtelbollidfdcjaaGreat
open Go Go.T
structure Sk where
  grain : List Int
  taken : Int
  mixed : Int
def U8 : El Int := El.mk' 1 (fun n => [Ty.int .u8 n]) (fun _ => rfl) (fun _ => ⟨rfl, rfl, rfl⟩)
def cX (s : Sk) : List Ty := [Ty.sl U8 s.grain, Ty.int .i64 s.taken, Ty.int .u32 s.mixed]
def NY (s : Sk) : Int := IntKind.u32.wrap (bits .xor .u32 s.mixed (IntKind.u32.wrap (nth s.grain (s.taken.tmod s.grain.length).toNat)) * 16777619)
def iD (s : Sk) : Sk := if (s.grain.length : Int) > 0 then { s with mixed := NY s } else s
def ow (s : Sk) : Sk := { s with taken := s.taken + 1 }
def N1 (s : Sk) : Int := IntKind.u32.wrap (IntKind.u32.wrap (s.mixed * 1664525) + 1013904223)
def rI (s : Sk) : Sk := if s.taken > (s.grain.length : Int) then { s with mixed := N1 s } else s
theorem Dd {s : Sk} (h : (s.grain.length : Int) < s.taken) : rI s = { s with mixed := N1 s } := if_pos h
theorem C8 {s : Sk} (h : ¬ (s.grain.length : Int) < s.taken) : rI s = s := if_neg h
def aY (s : Sk) : Sk := rI (ow (iD s))
theorem DL {s : Sk} (h : ¬ ((iD s).grain.length : Int) < (iD s).taken + 1) : (iD s).mixed = (aY s).mixed := (congrArg Sk.mixed (C8 (s := ow (iD s)) h)).symm
def mM (s : Sk) : Int := IntKind.i64.wrap (bits .and .u32 (bits .xor .u32 s.mixed (s.mixed / 2 ^ (15 : Int).toNat) / 2 ^ (8 : Int).toNat) 65535)
def Sk.Ok (s : Sk) (n : Int) : Prop := 0 ≤ s.taken ∧ s.taken + n ≤ 4611686018427387904
theorem EA {s : Sk} (h : (0 : Int) < s.grain.length) : iD s = { s with mixed := NY s } := if_pos h
theorem Dh {s : Sk} (h : ¬ (0 : Int) < s.grain.length) : iD s = s := if_neg h
theorem Kn {a b : Int} (ha : 0 ≤ a) (hb : 0 < b) : 0 ≤ a.tmod b ∧ a.tmod b < b := by
 rw [Int.tmod_eq_emod_of_nonneg ha]
 exact ⟨Int.emod_nonneg _ (by omega), Int.emod_lt_of_pos _ hb⟩
theorem lN (s : Sk) : (iD s).taken = s.taken := by unfold iD; split <;> rfl
theorem sP (s : Sk) : (iD s).grain = s.grain := by unfold iD; split <;> rfl
theorem nv (s : Sk) : (rI s).taken = s.taken := by unfold rI; split <;> rfl
theorem sB (s : Sk) : (rI s).grain = s.grain := by unfold rI; split <;> rfl
theorem cr (s : Sk) : (aY s).taken = s.taken + 1 := by unfold aY; rw [nv, ow, lN]
theorem yI (a : Int) : 0 ≤ bits .and .u32 a 65535 ∧ bits .and .u32 a 65535 ≤ 65535 := by
 have e : bits .and .u32 a 65535 = IntKind.u32.wrap (((BitVec.ofInt 32 a &&& BitVec.ofInt 32 65535).toNat : Nat) : Int) := rfl
 have h1 : (BitVec.ofInt 32 a &&& BitVec.ofInt 32 65535).toNat ≤ 65535 := by
  rw [BitVec.toNat_and]
  exact Nat.and_le_right
 rw [e]
 generalize (BitVec.ofInt 32 a &&& BitVec.ofInt 32 65535).toNat = n at h1
 have : IntKind.u32.wrap (n : Int) = (n : Int) % 4294967296 := rfl
 rw [this]; omega
theorem Cq (s : Sk) : 0 ≤ mM s ∧ mM s ≤ 65535 := by
 have h := yI (bits .xor .u32 s.mixed (s.mixed / 2 ^ (15 : Int).toNat) / 2 ^ (8 : Int).toNat)
 unfold mM
 rw [IntWalk.i64_in _ (by omega)]; exact h
def bZ (s : Sk) (n : Int) : Int := (mM (aY s)).tmod (max 1 n)
theorem cT (s : Sk) (n : Int) : 0 ≤ bZ s n ∧ bZ s n < max 1 n ∧ bZ s n ≤ 65535 := by
 have h := Cq (aY s)
 unfold bZ
 have h1 : (mM (aY s)).tmod (max 1 n) = mM (aY s) % max 1 n := Int.tmod_eq_emod_of_nonneg h.1
 have h2 := Int.emod_lt_of_pos (mM (aY s)) (show 0 < max 1 n by omega)
 have h3 := Int.emod_nonneg (mM (aY s)) (show max 1 n ≠ 0 by omega)
 have h4 : mM (aY s) % max 1 n ≤ mM (aY s) := by
  have := Int.mul_ediv_add_emod (mM (aY s)) (max 1 n)
  have hq : 0 ≤ mM (aY s) / max 1 n := Int.ediv_nonneg h.1 (by omega)
  have : 0 ≤ max 1 n * (mM (aY s) / max 1 n) := Int.mul_nonneg (by omega) hq
  omega
 omega
def jH (s : Sk) (lo hi : Int) : Int := lo + bZ s (hi - lo + 1)
def oB (grain : List Int) : Sk := ⟨grain, 0, bits .xor .u32 2166136261 (IntKind.u32.wrap grain.length)⟩
theorem zF (g : List Int) : (oB g).Ok 4000000000000000000 := by unfold oB Sk.Ok; simp
def nD (xs : List Int) (i : Nat) (k : Int) : List Int := xs.take i ++ k :: xs.drop i
theorem CU {xs : List Int} {i : Nat} (h : i ≤ xs.length) (k : Int) : (nD xs i k).length = xs.length + 1 := by simp [nD]; omega
theorem HR {xs : List Int} {i : Nat} {k x : Int} : x ∈ nD xs i k ↔ x = k ∨ x ∈ xs := by
 unfold nD
 rw [List.mem_append, List.mem_cons]
 constructor
 ·rintro (h | rfl | h)
  ·exact .inr (List.mem_of_mem_take h)
  ·exact .inl rfl
  exact .inr (List.mem_of_mem_drop h)
 rintro (rfl | h)
 ·exact .inr (.inl rfl)
 rw [← List.take_append_drop i xs, List.mem_append] at h
 exact h.imp id .inr
theorem DI {xs : List Int} {i : Nat} {k : Int} (h : xs.Nodup) (hk : k ∉ xs) : (nD xs i k).Nodup := by
 unfold nD
 have h2 : (xs.take i ++ xs.drop i).Nodup := by rw [List.take_append_drop]; exact h
 rw [List.nodup_append] at h2 ⊢
 obtain ⟨a, b, c⟩ := h2
 refine ⟨a, List.nodup_cons.2 ⟨fun h => hk (List.mem_of_mem_drop h), b⟩, fun x hx y hy => ?_⟩
 rcases List.mem_cons.1 hy with rfl | hy
 ·rintro rfl; exact hk (List.mem_of_mem_take hx)
 exact c x hx y hy
def gm (s : Sk) : Nat → List Int × Sk
  | 0 => ([], s)
  | k + 1 => (nD (gm s k).1 (bZ (gm s k).2 ((k : Int) + 1)).toNat k, aY (gm s k).2)
theorem qN (s : Sk) : ∀ k, (gm s k).1.length = k ∧ (gm s k).1.Nodup ∧ (∀ x, x ∈ (gm s k).1 ↔ 0 ≤ x ∧ x < (k : Int)) ∧ (gm s k).2.taken = s.taken + k
  | 0 => ⟨rfl, List.nodup_nil, fun x => ⟨fun h => (by cases h), fun h => by omega⟩, by simp [gm]⟩
  | k + 1 => by
    obtain ⟨h1, h2, h3, h4⟩ := qN s k
    have hb := cT (gm s k).2 ((k : Int) + 1)
    refine ⟨?_, DI h2 (fun h => by have := (h3 _).1 h; omega), fun x => ?_, ?_⟩
    · show (nD _ _ _).length = _
      rw [CU (by omega), h1]
    · show x ∈ nD _ _ _ ↔ _
      rw [HR, h3]; omega
    · show (aY _).taken = _
      rw [cr, h4]; omega
end Go.Proofs.YtelbollidfdcjaaGreat
namespace Go.Proofs.YtelbollidfdcjaaGreat
open Go Go.T
def mh (m : Move) (bin time : Int) : Bool := decide (m.day < time) && decide (m.dst = bin)
def kO (m : Move) (bin time : Int) : Bool := decide (m.day < time) && decide (m.src = bin)
def dr (y : ah) (a : eM) (bin time : Int) (k : Nat) (n : Int) : Int := n + if mh (nth y.moves k) bin time = true then nth a.bg k else 0
def eC (y : ah) (a : eM) (bin time : Int) : Nat → Int
  | 0 => nth a.first bin.toNat
  | k + 1 => dr y a bin time k (eC y a bin time k) - if kO (nth y.moves k) bin time = true then nth a.bg k else 0
def cz (y : ah) (a : eM) (bin time : Int) : Int := eC y a bin time y.moves.length
section
variable {y : ah} {a : eM} {bin time : Int} {k b t : Nat}
theorem N5 (h1 : mh (nth y.moves k) bin time = true) (h2 : kO (nth y.moves k) bin time = true) : eC y a bin time k + nth a.bg k - nth a.bg k = eC y a bin time (k + 1) := by
 show _ = dr y a bin time k (eC y a bin time k) - _; unfold dr; rw [if_pos h1, if_pos h2]
theorem OI (h1 : mh (nth y.moves k) bin time = true) (h2 : kO (nth y.moves k) bin time = false) : eC y a bin time k + nth a.bg k = eC y a bin time (k + 1) := by
 show _ = dr y a bin time k (eC y a bin time k) - _; unfold dr; rw [if_pos h1, if_neg (by rw [h2]; decide), Int.sub_zero]
theorem Ng (h1 : mh (nth y.moves k) bin time = false) (h2 : kO (nth y.moves k) bin time = true) : eC y a bin time k - nth a.bg k = eC y a bin time (k + 1) := by
 show _ = dr y a bin time k (eC y a bin time k) - _; unfold dr; rw [if_neg (by rw [h1]; decide), if_pos h2, Int.add_zero]
theorem Nv (h1 : mh (nth y.moves k) bin time = false) (h2 : kO (nth y.moves k) bin time = false) : eC y a bin time k = eC y a bin time (k + 1) := by
 show _ = dr y a bin time k (eC y a bin time k) - _; unfold dr; rw [if_neg (by rw [h1]; decide), if_neg (by rw [h2]; decide), Int.add_zero, Int.sub_zero]
theorem Jc {B : Int} (hB : 0 ≤ B) (h1 : ∀ x ∈ a.first, -B ≤ x ∧ x ≤ B) (h2 : ∀ x ∈ a.bg, -B ≤ x ∧ x ≤ B) (hb : bin.toNat < a.first.length) : ∀ k, k ≤ a.bg.length → -(B + 2 * B * k) ≤ eC y a bin time k ∧ eC y a bin time k ≤ B + 2 * B * k
  | 0, _ => by have := h1 _ (cL hb); show -(B + 2 * B * 0) ≤ nth a.first bin.toNat ∧ nth a.first bin.toNat ≤ _; omega
  | k + 1, hk => by
    have ih := Jc hB h1 h2 hb k (by omega)
    have := h2 _ (cL (show k < a.bg.length by omega))
    have e : 2 * B * ((k + 1 : Nat) : Int) = 2 * B * k + 2 * B := by rw [Int.natCast_add, Int.mul_add]; simp
    show -(B + 2 * B * ((k + 1 : Nat) : Int)) ≤ dr y a bin time k (eC y a bin time k) - _ ∧ dr y a bin time k (eC y a bin time k) - _ ≤ B + 2 * B * ((k + 1 : Nat) : Int)
    rw [e]
    unfold dr
    split <;> split <;> omega
theorem JO : ∀ k, eC y a b t k = nth a.first b + cy (fun i => if (nth y.moves i).day < t then nk y a.bg b i else 0) k
  | 0 => by show nth a.first ((b : Nat) : Int).toNat = _ + 0; simp
  | k + 1 => by
    show dr y a b t k (eC y a b t k) - _ = nth a.first b + (cy _ k + _)
    rw [JO k]
    unfold dr mh kO nk
    by_cases h0 : (nth y.moves k).day < (t : Int)
    · by_cases h1 : (nth y.moves k).dst = (b : Int) <;> by_cases h2 : (nth y.moves k).src = (b : Int) <;> simp [h0, h1, h2, ind] <;> omega
    · simp [h0]
theorem ou : cz y a b t = dN y a b t := JO _
end
end Go.Proofs.YtelbollidfdcjaaGreat
namespace Go.Proofs.YtelbollidfdcjaaGreat
open Go Go.T
def hO (s : Sk) (n w : Int) : Span := ⟨max 0 (n - bZ s (w + 1)), min 300 (n + bZ (aY s) (w + 1))⟩
def BE (y : ah) (a : eM) (m : Move) : Int := if m.src = -1 then 300 else cz y a m.src (m.day + 1)
theorem Al {s : Sk} {n w : Int} (hn : 0 ≤ n ∧ n ≤ 300) (hw : 0 ≤ w) : (0 ≤ (hO s n w).lo ∧ (hO s n w).hi ≤ 300) ∧ (hO s n w).lo ≤ n ∧ n ≤ (hO s n w).hi := by
 have h1 := cT s (w + 1)
 have h2 := cT (aY s) (w + 1)
 unfold hO
 simp only
 omega
section
variable {y : ah} {a : eM} {m : Move} {n bin time : Int} {k : Nat}
def ru (y : ah) (m : Move) : ah := { y with moves := y.moves ++ [m] }
def uT (a : eM) (n : Int) : eM := { a with bg := a.bg ++ [n] }
theorem Io (hl : a.bg.length = y.moves.length) : ∀ k, k ≤ y.moves.length → eC (ru y m) (uT a n) bin time k = eC y a bin time k
  | 0, _ => rfl
  | k + 1, hk => by
    have ih := Io hl k (by omega)
    show dr (ru y m) (uT a n) bin time k (eC (ru y m) (uT a n) bin time k) - _ = dr y a bin time k (eC y a bin time k) - _
    rw [ih]
    unfold dr
    have e1 : nth (ru y m).moves k = nth y.moves k := gV (by omega)
    have e2 : nth (uT a n).bg k = nth a.bg k := gV (by omega)
    rw [e1, e2]
theorem I1 (hl : a.bg.length = y.moves.length) : cz (ru y m) (uT a n) bin time = cz y a bin time + (if mh m bin time = true then n else 0) - if kO m bin time = true then n else 0 := by
 unfold cz
 have e0 : (ru y m).moves.length = y.moves.length + 1 := by show (y.moves ++ [m]).length = _; rw [List.length_append]; rfl
 rw [e0]
 show dr (ru y m) (uT a n) bin time _ (eC (ru y m) (uT a n) bin time _) - _ = _
 rw [Io hl _ (Nat.le_refl _)]
 unfold dr
 have e1 : nth (ru y m).moves y.moves.length = m := by
  show nth (y.moves ++ [m]) (y.moves.length + 0) = m; rw [kF]; rfl
 have e2 : nth (uT a n).bg y.moves.length = n := by
  rw [← hl]; show nth (a.bg ++ [n]) (a.bg.length + 0) = n; rw [kF]; rfl
 rw [e1, e2]
theorem Ez {dd : Int} (hd : ∀ k, k < y.moves.length → (nth y.moves k).day ≤ dd) (ht : dd + 1 ≤ time) : ∀ k, k ≤ y.moves.length → eC y a bin time k = eC y a bin (dd + 1) k
  | 0, _ => rfl
  | k + 1, hk => by
    have ih := Ez hd ht k (by omega)
    have h := hd k (by omega)
    show dr y a bin time k (eC y a bin time k) - _ = dr y a bin (dd + 1) k (eC y a bin (dd + 1) k) - _
    rw [ih]
    unfold dr mh kO
    rw [decide_eq_true (show (nth y.moves k).day < time by omega), decide_eq_true (show (nth y.moves k).day < dd + 1 by omega)]
theorem uF {b : List vE} {l : List Level} {d : Int} : cz ⟨d, b, y.moves, l⟩ a bin time = cz y a bin time := by
  unfold cz
  show eC _ a bin time y.moves.length = _
  generalize y.moves.length = k
  induction k with
  | zero => rfl
  | succ k ih =>
    show dr _ a bin time k (eC _ a bin time k) - _ = dr y a bin time k (eC y a bin time k) - _
    rw [ih]; rfl
def l8 (y : ah) (a : eM) (m : Move) (n : Int) : Int := if m.src = -1 then n else min n (cz y a m.src m.day)
def m8 (y : ah) (a : eM) (m : Move) (n : Int) : Int := if m.dst = -1 then n else min n (300 - cz y a m.dst (m.day + 1))
def mV (y : ah) (a : eM) (m : Move) (n : Int) : Nat → Int
  | 0 => n
  | k + 1 => if ((decide ((nth y.moves k).day = m.day) && decide ((nth y.moves k).src = m.src)) && !decide (m.src = -1)) = true then min (mV y a m n k) (cz y a m.src m.day - nth a.bg k) else mV y a m n k
def r8 (y : ah) (a : eM) (m : Move) (n : Int) : Int := max 0 (min (mV y a m (m8 y a m (l8 y a m n)) y.moves.length) (BE y a m))
theorem BF : ∀ k, mV y a m n k ≤ n
  | 0 => Int.le_refl _
  | k + 1 => by
    have := BF k
    unfold mV; split <;> omega
theorem JZ (hn : 0 ≤ n) (h1 : m.dst ≠ -1 → cz y a m.dst (m.day + 1) ≤ 300) (h2 : m.src ≠ -1 → 0 ≤ cz y a m.src (m.day + 1)) :
 (0 ≤ r8 y a m n ∧ r8 y a m n ≤ n) ∧ (m.dst ≠ -1 → r8 y a m n ≤ 300 - cz y a m.dst (m.day + 1)) ∧ (m.src ≠ -1 → r8 y a m n ≤ cz y a m.src (m.day + 1)) := by
 have h3 := BF (y := y) (a := a) (m := m) (n := m8 y a m (l8 y a m n)) y.moves.length
 have h4 : m8 y a m (l8 y a m n) ≤ l8 y a m n := by unfold m8; split <;> omega
 have h5 : l8 y a m n ≤ n := by unfold l8; split <;> omega
 refine ⟨?_, fun hd => ?_, fun hs => ?_⟩
 ·unfold r8; omega
 ·have h6 : m8 y a m (l8 y a m n) ≤ 300 - cz y a m.dst (m.day + 1) := by unfold m8; rw [if_neg hd]; omega
  have := h1 hd
  unfold r8; omega
 have h6 : BE y a m = cz y a m.src (m.day + 1) := if_neg hs
 have := h2 hs
 unfold r8; rw [h6]; omega
end
structure Md where
  s : Sk
  days : Int
  bins : Int
  moves : Int
  levels : Int
structure Md.Ok (d : Md) : Prop where
  days : 1 ≤ d.days ∧ d.days ≤ 5
  bins : 1 ≤ d.bins ∧ d.bins ≤ 4
  moves : 0 ≤ d.moves ∧ d.moves ≤ 10
  levels : 0 ≤ d.levels ∧ d.levels ≤ 8
namespace Md
def D (d : Md) : Int := jH d.s 1 d.days
def NU (d : Md) : Int := jH (aY d.s) 1 d.bins
def nb (d : Md) : Nat := d.NU.toNat
def bs (d : Md) : Nat → (List Int × List vE) × Sk
  | 0 => (([], []), aY (aY d.s))
  | k + 1 => (((d.bs k).1.1 ++ [bZ (d.bs k).2 60], (d.bs k).1.2 ++ [⟨300, hO (aY (d.bs k).2) (bZ (d.bs k).2 60) 12⟩]), aY (aY (aY (d.bs k).2)))
def first (d : Md) : List Int := (d.bs d.nb).1.1
def gP (d : Md) : List vE := (d.bs d.nb).1.2
def Bv (d : Md) : Int := bZ (d.bs d.nb).2 (d.moves + 1)
def many (d : Md) : Nat := d.Bv.toNat
def vH (d : Md) (s : Sk) : Int := jH s (-1) ((d.nb : Int) - 1)
def vG (d : Md) (s : Sk) : Int := jH (aY s) (-1) ((d.nb : Int) - 1)
def src (d : Md) (s : Sk) : Int := if d.vH s = d.vG s then -1 else d.vH s
def dst (d : Md) (s : Sk) : Int := if d.vH s = d.vG s then bZ (aY (aY s)) d.nb else d.vG s
def qg (d : Md) (s : Sk) : Sk := if d.vH s = d.vG s then aY (aY (aY s)) else aY (aY s)
def day (d : Md) (i : Nat) : Int := ((i : Int) * d.D).tdiv d.many
def mv (d : Md) (s : Sk) (i : Nat) : Move := ⟨d.day i, d.src s, d.dst s, ⟨0, 0⟩⟩
def yd (d : Md) (ms : List Move) : ah := ⟨d.D, d.gP, ms, []⟩
def am (d : Md) (l : List Int) : eM := ⟨d.first, l⟩
def num (d : Md) (p : (List Move × List Int) × Sk) (i : Nat) : Int := r8 (d.yd p.1.1) (d.am p.1.2) (d.mv p.2 i) (bZ (d.qg p.2) 40)
def full (d : Md) (p : (List Move × List Int) × Sk) (i : Nat) : Move := { d.mv p.2 i with sacks := hO (aY (d.qg p.2)) (d.num p i) 15 }
def ms (d : Md) : Nat → (List Move × List Int) × Sk
  | 0 => (([], []), aY (d.bs d.nb).2)
  | i + 1 => (((d.ms i).1.1 ++ [d.full (d.ms i) i], (d.ms i).1.2 ++ [d.num (d.ms i) i]), aY (aY (aY (d.qg (d.ms i).2))))
def bg (d : Md) : List Int := (d.ms d.many).1.2
def fM (d : Md) : List Move := (d.ms d.many).1.1
def real (d : Md) : eM := ⟨d.first, d.bg⟩
def y0 (d : Md) : ah := d.yd d.fM
def most (d : Md) (b : Nat) : Nat → Int
  | 0 => 0
  | t + 1 => max (d.most b t) (cz d.y0 d.real b t)
def hs (d : Md) : Nat → List vE × Sk
  | 0 => (d.gP, (d.ms d.many).2)
  | k + 1 => ((d.hs k).1.set k ⟨min 300 (d.most k (d.D + 1).toNat + bZ (d.hs k).2 30), (nth (d.hs k).1 k).first⟩, aY (d.hs k).2)
def jw (d : Md) : List vE := (d.hs d.nb).1
def Nx (d : Md) : Int := bZ (d.hs d.nb).2 (d.levels + 1)
def nl (d : Md) : Nat := d.Nx.toNat
def Ls (d : Md) (s : Sk) : Level := ⟨bZ s (d.D + 1), bZ (aY s) d.nb, hO (aY (aY s)) (cz d.y0 d.real (bZ (aY s) d.nb) (bZ s (d.D + 1))) 8⟩
def ls (d : Md) : Nat → List Level × Sk
  | 0 => ([], aY (d.hs d.nb).2)
  | k + 1 => ((d.ls k).1 ++ [d.Ls (d.ls k).2], aY (aY (aY (aY (d.ls k).2))))
def ve (d : Md) : List Level := (d.ls d.nl).1
def mm (d : Md) : ah := ⟨d.D, d.jw, d.fM, d.ve⟩
def sk (d : Md) : Sk := (d.ls d.nl).2
end Md
end Go.Proofs.YtelbollidfdcjaaGreat
namespace Go.Proofs.YtelbollidfdcjaaGreat
open Go Go.T
theorem sU {s : Sk} {lo hi : Int} (h : lo ≤ hi) : lo ≤ jH s lo hi ∧ jH s lo hi ≤ hi := by
 have := cT s (hi - lo + 1)
 unfold jH; omega
theorem pO {α : Type} {l : List α} {x z : α} (h : z ∈ l ++ [x]) : z ∈ l ∨ z = x := by
 rcases List.mem_append.1 h with h | h
 ·exact .inl h
 exact .inr (List.mem_singleton.1 h)
theorem rj {α : Type} [Inhabited α] {l : List α} {x : α} {k : Nat} (h : l.length = k) : nth (l ++ [x]) k = x := by
 subst h; exact (kF (l := l) (k := [x]) (i := 0)).trans rfl
theorem xO {i n : Nat} {D : Int} (hD : 1 ≤ D) (hi : i < n) : (0 ≤ ((i : Int) * D).tdiv n ∧ ((i : Int) * D).tdiv n < D) ∧ ∀ k : Nat, k ≤ i → ((k : Int) * D).tdiv n ≤ ((i : Int) * D).tdiv n := by
 have hn : (0 : Int) < n := by omega
 have h0 : ∀ k : Nat, 0 ≤ (k : Int) * D := fun k => Int.mul_nonneg (by omega) (by omega)
 refine ⟨?_, fun k hk => ?_⟩
 ·rw [Int.tdiv_eq_ediv_of_nonneg (h0 i)]
  refine ⟨Int.ediv_nonneg (h0 i) (by omega), Int.ediv_lt_of_lt_mul hn ?_⟩
  rw [Int.mul_comm D]
  exact Int.mul_lt_mul_of_pos_right (by omega) (by omega)
 rw [Int.tdiv_eq_ediv_of_nonneg (h0 i), Int.tdiv_eq_ediv_of_nonneg (h0 k)]
 exact Int.ediv_le_ediv hn (Int.mul_le_mul_of_nonneg_right (by omega) (by omega))
section
variable {d : Md}
theorem Md.H8 (h : d.Ok) : 1 ≤ d.D ∧ d.D ≤ 5 := by
 have := h.days
 have := sU (s := d.s) h.days.1
 unfold Md.D; omega
theorem Md.EW (h : d.Ok) : (1 ≤ d.nb ∧ d.nb ≤ 4) ∧ d.NU = (d.nb : Nat) := by
 have := h.bins
 have := sU (s := aY d.s) h.bins.1
 unfold Md.nb Md.NU; omega
theorem Md.Ac (h : d.Ok) : d.many ≤ 10 ∧ d.Bv = (d.many : Nat) := by
 have := h.moves
 have := cT (d.bs d.nb).2 (d.moves + 1)
 unfold Md.many Md.Bv; omega
theorem Md.Lw (h : d.Ok) : d.nl ≤ 8 ∧ d.Nx = (d.nl : Nat) := by
 have := h.levels
 have := cT (d.hs d.nb).2 (d.levels + 1)
 unfold Md.nl Md.Nx; omega
structure Of (d : Md) (k : Nat) (p : (List Int × List vE) × Sk) : Prop where
  len1 : p.1.1.length = k
  len2 : p.1.2.length = k
  taken : p.2.taken = d.s.taken + 2 + 3 * k
  first : ∀ x ∈ p.1.1, 0 ≤ x ∧ x ≤ 59
  bin : ∀ b ∈ p.1.2, b.holds = 300 ∧ (0 ≤ b.first.lo ∧ b.first.hi ≤ 300) ∧ b.first.lo ≤ b.first.hi
  fit : ∀ i, i < k → (nth p.1.2 i).first.lo ≤ nth p.1.1 i ∧ nth p.1.1 i ≤ (nth p.1.2 i).first.hi
theorem Md.rP (d : Md) : ∀ k, Of d k (d.bs k)
  | 0 => ⟨rfl, rfl, by show (aY (aY d.s)).taken = _; rw [cr, cr]; omega, fun x h => (by cases h), fun b h => (by cases h), fun i h => (by omega)⟩
  | k + 1 => by
    obtain ⟨h1, h2, h3, h4, h5, h6⟩ := Md.rP d k
    have hb := cT (d.bs k).2 60
    have hn := Al (s := aY (d.bs k).2) (n := bZ (d.bs k).2 60) (w := 12) (by omega) (by omega)
    refine ⟨?_, ?_, ?_, fun x hx => ?_, fun b hb => ?_, fun i hi => ?_⟩
    · show ((d.bs k).1.1 ++ [_]).length = _; rw [List.length_append, h1]; rfl
    · show ((d.bs k).1.2 ++ [_]).length = _; rw [List.length_append, h2]; rfl
    · show (aY (aY (aY (d.bs k).2))).taken = _; rw [cr, cr, cr, h3]; omega
    · rcases pO hx with hx | rfl
      · exact h4 x hx
      · omega
    · rcases pO hb with hb | rfl
      · exact h5 b hb
      · exact ⟨rfl, hn.1, by have := hn.2; show (hO _ _ _).lo ≤ (hO _ _ _).hi; omega⟩
    · show (nth ((d.bs k).1.2 ++ [_]) i).first.lo ≤ nth ((d.bs k).1.1 ++ [_]) i ∧ nth ((d.bs k).1.1 ++ [_]) i ≤ (nth ((d.bs k).1.2 ++ [_]) i).first.hi
      by_cases e : i < k
      · rw [gV (by omega), gV (by omega)]; exact h6 i e
      · obtain rfl : i = k := by omega
        rw [rj h1, rj h2]
        exact hn.2
theorem Md.zS (d : Md) (s : Sk) : s.taken + 2 ≤ (d.qg s).taken ∧ (d.qg s).taken ≤ s.taken + 3 := by
 unfold Md.qg; split <;> simp only [cr] <;> omega
theorem Md.yT (h : d.Ok) {s : Sk} : (-1 ≤ d.src s ∧ d.src s < d.nb) ∧ (-1 ≤ d.dst s ∧ d.dst s < d.nb) ∧ d.src s ≠ d.dst s := by
 have hn := d.EW h
 have h1 := sU (s := s) (lo := -1) (hi := (d.nb : Int) - 1) (by omega)
 have h2 := sU (s := aY s) (lo := -1) (hi := (d.nb : Int) - 1) (by omega)
 have h3 := cT (aY (aY s)) d.nb
 unfold Md.src Md.dst
 split
 ·omega
 rename_i e; unfold Md.vH Md.vG at *; omega
structure MX (d : Md) (i : Nat) (p : (List Move × List Int) × Sk) : Prop where
  len1 : p.1.1.length = i
  len2 : p.1.2.length = i
  taken : d.s.taken + 3 + 3 * d.nb ≤ p.2.taken ∧ p.2.taken ≤ d.s.taken + 3 + 3 * d.nb + 6 * i
  day : ∀ k, k < i → (nth p.1.1 k).day = d.day k
  move : ∀ m ∈ p.1.1, (-1 ≤ m.src ∧ m.src < d.nb) ∧ (-1 ≤ m.dst ∧ m.dst < d.nb) ∧ m.src ≠ m.dst ∧ (0 ≤ m.sacks.lo ∧ m.sacks.hi ≤ 300) ∧ m.sacks.lo ≤ m.sacks.hi
  num : ∀ x ∈ p.1.2, 0 ≤ x ∧ x ≤ 39
  fit : ∀ k, k < i → (nth p.1.1 k).sacks.lo ≤ nth p.1.2 k ∧ nth p.1.2 k ≤ (nth p.1.1 k).sacks.hi
  cont : ∀ (b : Nat) (t : Int), b < d.nb → 0 ≤ cz (d.yd p.1.1) (d.am p.1.2) b t ∧ cz (d.yd p.1.1) (d.am p.1.2) b t ≤ 300
theorem Ou {x : Int} {n : Nat} (h : -1 ≤ x ∧ x < n) (h1 : x ≠ -1) : ∃ k : Nat, x = k ∧ k < n := ⟨x.toNat, by omega, by omega⟩
theorem Md.Gm (h : d.Ok) {i : Nat} {p : (List Move × List Int) × Sk} (hp : MX d i p) : (0 ≤ d.num p i ∧ d.num p i ≤ 39) ∧ (d.dst p.2 ≠ -1 → d.num p i ≤ 300 - cz (d.yd p.1.1) (d.am p.1.2) (d.dst p.2) (d.day i + 1)) ∧ (d.src p.2 ≠ -1 → d.num p i ≤ cz (d.yd p.1.1) (d.am p.1.2) (d.src p.2) (d.day i + 1)) := by
 have hb := cT (d.qg p.2) 40
 obtain ⟨h1, h2, h3⟩ := d.yT (s := p.2) h
 have := JZ (y := d.yd p.1.1) (a := d.am p.1.2) (m := d.mv p.2 i) (n := bZ (d.qg p.2) 40) (by omega)
  (fun hd => by obtain ⟨k, e, hk⟩ := Ou h2 hd; show cz _ _ (d.dst p.2) _ ≤ _; rw [e]; exact (hp.cont k _ hk).2)
  (fun hd => by obtain ⟨k, e, hk⟩ := Ou h1 hd; show _ ≤ cz _ _ (d.src p.2) _; rw [e]; exact (hp.cont k _ hk).1)
 exact ⟨⟨this.1.1, by have := this.1.2; unfold Md.num; omega⟩, this.2.1, this.2.2⟩
theorem Md.sv (h : d.Ok) : ∀ i, i ≤ d.many → MX d i (d.ms i)
  | 0, _ => by
    obtain ⟨h1, h2, h3, h4, h5, h6⟩ := d.rP d.nb
    refine ⟨rfl, rfl, ?_, fun k hk => (by omega), fun m hm => (by cases hm), fun x hx => (by cases hx), fun k hk => (by omega), fun b t hb => ?_⟩
    · show _ ≤ (aY (d.bs d.nb).2).taken ∧ (aY (d.bs d.nb).2).taken ≤ _; rw [cr, h3]; omega
    · have := h4 _ (cL (show b < (d.bs d.nb).1.1.length by omega))
      show 0 ≤ nth d.first ((b : Nat) : Int).toNat ∧ nth d.first ((b : Nat) : Int).toNat ≤ 300
      rw [show ((b : Nat) : Int).toNat = b by omega]; unfold Md.first; omega
  | i + 1, hi => by
    have hp := Md.sv h i (by omega)
    obtain ⟨hn, hnd, hns⟩ := d.Gm h hp
    obtain ⟨h1, h2, h3, h4, h5, h6, h7, h8⟩ := hp
    have hD := d.H8 h
    obtain ⟨hd1, hd2⟩ := xO (D := d.D) (i := i) (n := d.many) hD.1 (by omega)
    obtain ⟨m1, m2, m3⟩ := d.yT (s := (d.ms i).2) h
    have hnear := Al (s := aY (d.qg (d.ms i).2)) (n := d.num (d.ms i) i) (w := 15) (by omega) (by omega)
    have hk := d.zS (d.ms i).2
    refine ⟨?_, ?_, ?_, fun k hk => ?_, fun m hm => ?_, fun x hx => ?_, fun k hk => ?_, fun b t hb => ?_⟩
    · show ((d.ms i).1.1 ++ [_]).length = _; rw [List.length_append, h1]; rfl
    · show ((d.ms i).1.2 ++ [_]).length = _; rw [List.length_append, h2]; rfl
    · show _ ≤ (aY (aY (aY (d.qg (d.ms i).2)))).taken ∧ (aY (aY (aY (d.qg (d.ms i).2)))).taken ≤ _
      simp only [cr]; omega
    · show (nth ((d.ms i).1.1 ++ [_]) k).day = _
      by_cases e : k < i
      · rw [gV (by omega)]; exact h4 k e
      · obtain rfl : k = i := by omega
        rw [rj h1]; rfl
    · rcases pO hm with hm | rfl
      · exact h5 m hm
      · exact ⟨m1, m2, m3, hnear.1, by have := hnear.2; show (hO _ _ _).lo ≤ (hO _ _ _).hi; omega⟩
    · rcases pO hx with hx | rfl
      · exact h6 x hx
      · exact hn
    · show (nth ((d.ms i).1.1 ++ [_]) k).sacks.lo ≤ nth ((d.ms i).1.2 ++ [_]) k ∧ nth ((d.ms i).1.2 ++ [_]) k ≤ (nth ((d.ms i).1.1 ++ [_]) k).sacks.hi
      by_cases e : k < i
      · rw [gV (by omega), gV (by omega)]; exact h7 k e
      · obtain rfl : k = i := by omega
        rw [rj h1, rj h2]
        exact hnear.2
    · have e0 : cz (d.yd ((d.ms i).1.1 ++ [d.full (d.ms i) i])) (d.am ((d.ms i).1.2 ++ [d.num (d.ms i) i])) b t = _ := I1 (y := d.yd (d.ms i).1.1) (a := d.am (d.ms i).1.2) (m := d.full (d.ms i) i) (n := d.num (d.ms i) i) (bin := b) (time := t) (by show (d.ms i).1.2.length = (d.ms i).1.1.length; omega)
      show 0 ≤ cz (d.yd ((d.ms i).1.1 ++ [d.full (d.ms i) i])) (d.am ((d.ms i).1.2 ++ [d.num (d.ms i) i])) b t ∧ cz (d.yd ((d.ms i).1.1 ++ [d.full (d.ms i) i])) (d.am ((d.ms i).1.2 ++ [d.num (d.ms i) i])) b t ≤ 300
      have hc := h8 b t hb
      by_cases ht : d.day i < t
      · have hl : cz (d.yd (d.ms i).1.1) (d.am (d.ms i).1.2) b t = cz (d.yd (d.ms i).1.1) (d.am (d.ms i).1.2) b (d.day i + 1) :=
          Ez (dd := d.day i) (fun k hk => by
            have hk : k < (d.ms i).1.1.length := hk
            show (nth (d.ms i).1.1 k).day ≤ _
            rw [h4 k (by omega)]; exact hd2 k (by omega)) (by omega) _ (Nat.le_refl _)
        have e1 : mh (d.full (d.ms i) i) b t = decide (d.dst (d.ms i).2 = (b : Int)) := by
          show (decide (d.day i < t) && _) = _; rw [decide_eq_true ht]; rfl
        have e2 : kO (d.full (d.ms i) i) b t = decide (d.src (d.ms i).2 = (b : Int)) := by
          show (decide (d.day i < t) && _) = _; rw [decide_eq_true ht]; rfl
        rw [e0, e1, e2]
        rw [hl] at hc ⊢
        by_cases q1 : d.dst (d.ms i).2 = (b : Int) <;> by_cases q2 : d.src (d.ms i).2 = (b : Int)
        · exact absurd (q2.trans q1.symm) m3
        · rw [decide_eq_true q1, decide_eq_false q2]
          have := hnd (by omega)
          rw [q1] at this
          simp only [if_true, Bool.false_eq_true, if_false]; omega
        · rw [decide_eq_false q1, decide_eq_true q2]
          have := hns (by omega)
          rw [q2] at this
          simp only [if_true, Bool.false_eq_true, if_false]; omega
        · rw [decide_eq_false q1, decide_eq_false q2]
          simp only [Bool.false_eq_true, if_false]; omega
      · have e1 : mh (d.full (d.ms i) i) b t = false := by show (decide (d.day i < t) && _) = _; rw [decide_eq_false ht]; rfl
        have e2 : kO (d.full (d.ms i) i) b t = false := by show (decide (d.day i < t) && _) = _; rw [decide_eq_false ht]; rfl
        rw [e0, e1, e2]
        simp only [Bool.false_eq_true, if_false]; omega
theorem Md.vX (b : Nat) : ∀ k, 0 ≤ d.most b k ∧ (∀ t : Nat, t < k → cz d.y0 d.real b t ≤ d.most b k) ∧ ((∀ t : Nat, cz d.y0 d.real b t ≤ 300) → d.most b k ≤ 300)
  | 0 => ⟨Int.le_refl _, fun t h => (by omega), fun _ => (by show (0 : Int) ≤ 300; omega)⟩
  | k + 1 => by
    obtain ⟨h1, h2, h3⟩ := Md.vX b k
    refine ⟨?_, fun t ht => ?_, fun h => ?_⟩
    · show 0 ≤ max _ _; omega
    · show _ ≤ max _ _
      by_cases e : t < k
      · have := h2 t e; omega
      · obtain rfl : t = k := by omega
        omega
    · have := h3 h; have := h k
      show max _ _ ≤ _; omega
structure Oe (d : Md) (k : Nat) (p : List vE × Sk) : Prop where
  len : p.1.length = d.nb
  taken : p.2.taken = (d.ms d.many).2.taken + k
  old : ∀ i, i < d.nb → (nth p.1 i).first = (nth d.gP i).first
  holds : ∀ i, i < k → 0 ≤ (nth p.1 i).holds ∧ (nth p.1 i).holds ≤ 300 ∧ min 300 (d.most i (d.D + 1).toNat) ≤ (nth p.1 i).holds
theorem Md.yX (d : Md) : ∀ k, k ≤ d.nb → Oe d k (d.hs k)
  | 0, _ => ⟨(d.rP d.nb).len2, by show (d.ms d.many).2.taken = _; omega, fun i _ => rfl, fun i h => (by omega)⟩
  | k + 1, hk => by
    obtain ⟨h1, h2, h3, h4⟩ := Md.yX d k (by omega)
    have hb := cT (d.hs k).2 30
    have hm := (d.vX k (d.D + 1).toNat).1
    refine ⟨?_, ?_, fun i hi => ?_, fun i hi => ?_⟩
    · show ((d.hs k).1.set k _).length = _; rw [List.length_set, h1]
    · show (aY (d.hs k).2).taken = _; rw [cr, h2]; omega
    · show (nth ((d.hs k).1.set k _) i).first = _
      rw [jf (by omega)]
      split
      · rename_i e; subst e; exact h3 k hi
      · exact h3 i hi
    · show 0 ≤ (nth ((d.hs k).1.set k _) i).holds ∧ (nth ((d.hs k).1.set k _) i).holds ≤ 300 ∧ _ ≤ (nth ((d.hs k).1.set k _) i).holds
      rw [jf (by omega)]
      split
      · rename_i e; subst e
        show 0 ≤ min 300 (_ + _) ∧ min 300 (_ + _) ≤ 300 ∧ _ ≤ min 300 (_ + _)
        omega
      · exact h4 i (by omega)
structure OV (d : Md) (k : Nat) (p : List Level × Sk) : Prop where
  len : p.1.length = k
  taken : p.2.taken = (d.hs d.nb).2.taken + 1 + 4 * k
  level : ∀ l ∈ p.1, (0 ≤ l.day ∧ l.day ≤ d.D) ∧ (0 ≤ l.bin ∧ l.bin < d.nb) ∧ (0 ≤ l.sacks.lo ∧ l.sacks.hi ≤ 300) ∧ l.sacks.lo ≤ cz d.y0 d.real l.bin l.day ∧ cz d.y0 d.real l.bin l.day ≤ l.sacks.hi
theorem Md.vW (h : d.Ok) (b : Nat) (t : Int) (hb : b < d.nb) : 0 ≤ cz d.y0 d.real b t ∧ cz d.y0 d.real b t ≤ 300 := (d.sv h d.many (Nat.le_refl _)).cont b t hb
theorem Md.BJ (h : d.Ok) : ∀ k, OV d k (d.ls k)
  | 0 => ⟨rfl, by show (aY (d.hs d.nb).2).taken = _; rw [cr]; omega, fun l hl => (by cases hl)⟩
  | k + 1 => by
    obtain ⟨h1, h2, h3⟩ := Md.BJ h k
    have hD := d.H8 h
    have hn := d.EW h
    have b1 := cT (d.ls k).2 (d.D + 1)
    have b2 := cT (aY (d.ls k).2) d.nb
    obtain ⟨b, eb, hb⟩ : ∃ b : Nat, bZ (aY (d.ls k).2) d.nb = b ∧ b < d.nb := ⟨(bZ (aY (d.ls k).2) d.nb).toNat, by omega, by omega⟩
    have hc := d.vW h b (bZ (d.ls k).2 (d.D + 1)) hb
    rw [← eb] at hc
    have hnear := Al (s := aY (aY (d.ls k).2)) (w := 8) hc (by omega)
    refine ⟨?_, ?_, fun l hl => ?_⟩
    · show ((d.ls k).1 ++ [_]).length = _; rw [List.length_append, h1]; rfl
    · show (aY (aY (aY (aY (d.ls k).2)))).taken = _; simp only [cr]; omega
    · rcases pO hl with hl | rfl
      · exact h3 l hl
      · exact ⟨⟨b1.1, by show bZ (d.ls k).2 (d.D + 1) ≤ d.D; omega⟩, ⟨b2.1, by show bZ (aY (d.ls k).2) d.nb < d.nb; omega⟩, hnear.1, hnear.2⟩
theorem Md.yQ (b t : Int) : cz d.mm d.real b t = cz d.y0 d.real b t := uF (y := d.y0)
theorem Md.lens (h : d.Ok) : (d.mm.bins.length = d.nb ∧ d.mm.moves.length = d.many) ∧ d.mm.levels.length = d.nl ∧ d.real.first.length = d.nb ∧ d.real.bg.length = d.many :=
 ⟨⟨(d.yX d.nb (Nat.le_refl _)).len, (d.sv h d.many (Nat.le_refl _)).len1⟩, (d.BJ h d.nl).len, (d.rP d.nb).len1, (d.sv h d.many (Nat.le_refl _)).len2⟩
theorem Md.right (h : d.Ok) : d.mm.cI := by
 obtain ⟨⟨l1, l2⟩, l3, l4, l5⟩ := d.lens h
 have hD := d.H8 h
 have hn := d.EW h
 have hm := d.Ac h
 have hl := d.Lw h
 have H := d.yX d.nb (Nat.le_refl _)
 have B := d.rP d.nb
 have M := d.sv h d.many (Nat.le_refl _)
 have L := d.BJ h d.nl
 refine ⟨hD, by omega, by omega, by omega, fun b hb => ?_, fun m hm' => ?_, fun l hl' => ?_⟩
 ·obtain ⟨i, hi, rfl⟩ := jk hb
  rw [l1] at hi
  have h1 := H.holds i hi
  have h2 := H.old i hi
  have h3 := B.bin _ (cL (show i < d.gP.length by have := B.len2; unfold Md.gP; omega))
  have e : (nth d.mm.bins i).first = (nth d.gP i).first := h2
  rw [e]
  exact ⟨⟨h1.1, h1.2.1⟩, h3.2.1, h3.2.2⟩
 ·obtain ⟨i, hi, rfl⟩ := jk hm'
  have h1 := M.move _ hm'
  have h2 : (nth d.mm.moves i).day = d.day i := M.day i (by rw [l2] at hi; exact hi)
  have h3 := (xO (D := d.D) (i := i) (n := d.many) hD.1 (by rw [l2] at hi; exact hi)).1
  have e : (d.mm.bins.length : Int) = d.nb := by rw [l1]
  rw [h2, e]
  exact ⟨h3, h1.1, h1.2.1, h1.2.2.1, h1.2.2.2.1, h1.2.2.2.2⟩
 have h1 := L.level _ hl'
 have e : (d.mm.bins.length : Int) = d.nb := by rw [l1]
 rw [e]
 exact ⟨h1.1, h1.2.1, h1.2.2.1, by omega⟩
theorem Md.fits (h : d.Ok) (c : Nat → Bool) : eT d.mm c d.real := by
 obtain ⟨⟨l1, l2⟩, l3, l4, l5⟩ := d.lens h
 have hD := d.H8 h
 have H := d.yX d.nb (Nat.le_refl _)
 have B := d.rP d.nb
 have M := d.sv h d.many (Nat.le_refl _)
 have L := d.BJ h d.nl
 refine ⟨⟨by omega, by omega⟩, fun b hb => ?_, fun b t hb ht => ?_, fun i hi => ?_, fun i hi _ => ?_⟩
 ·rw [l1] at hb
  have e : (nth d.mm.bins b).first = (nth d.gP b).first := H.old b hb
  rw [e]; exact B.fit b hb
 ·rw [l1] at hb
  rw [← ou, d.yQ]
  have h1 := d.vW h b t hb
  have h2 := H.holds b hb
  have h3 := (d.vX b (d.D + 1).toNat).2.1 t (by have : t ≤ d.D.toNat := ht; omega)
  refine ⟨h1.1, ?_⟩
  show _ ≤ (nth (d.hs d.nb).1 b).holds
  omega
 ·rw [l2] at hi; exact M.fit i hi
 obtain ⟨h1, h2, _, h3⟩ := L.level _ (cL hi)
 rw [← ou, d.yQ]
 rw [show (((nth d.mm.levels i).bin.toNat : Nat) : Int) = (nth d.mm.levels i).bin by have : 0 ≤ (nth d.mm.levels i).bin := h2.1; omega,
  show (((nth d.mm.levels i).day.toNat : Nat) : Int) = (nth d.mm.levels i).day by have : 0 ≤ (nth d.mm.levels i).day := h1.1; omega]
 exact h3
end
theorem gy {y : ah} (h : y.cI) : bT y = 0 := by
 have a1 : mW y = false := by
  have h1 := h.days; have h2 := h.bins; have h3 := h.moves; have h4 := h.levels
  simp only [mW, Bool.or_eq_false_iff, Bool.not_eq_false', iL, decide_eq_false_iff_not]
  omega
 have al : ∀ {s : Span}, (0 ≤ s.lo ∧ s.hi ≤ 300) ∧ s.lo ≤ s.hi → gS s = true := fun {s} h => by
  unfold gS; rw [Bool.and_eq_true, iL, iL]; omega
 have all : ∀ {α : Type} {l : List α} {p : α → Bool}, (∀ x ∈ l, p x = true) → (!l.all p) = false := fun h => by rw [Bool.not_eq_false', List.all_eq_true]; exact h
 have a2 : mw y = false := all fun b hb => by
  obtain ⟨h1, h2, h3⟩ := h.bin b hb
  rw [Bool.and_eq_true, iL, al ⟨h2, h3⟩]; exact ⟨by omega, rfl⟩
 have a3 : kL y = false := by
  unfold kL
  rw [all fun m hm => al ⟨(h.move m hm).2.2.2.2.1, (h.move m hm).2.2.2.2.2⟩, all fun l hl => al ⟨(h.level l hl).2.2.1, (h.level l hl).2.2.2⟩]; rfl
 have fin : ∀ {n : Int}, -1 ≤ n ∧ n < y.bins.length → y.fin n = true := fun {n} h => by
  unfold ah.fin ah.bin; rw [Bool.or_eq_true, decide_eq_true_eq, iL]; omega
 have a4 : Bs y = false := all fun m hm => by
  obtain ⟨h1, h2, h3, _⟩ := h.move m hm
  rw [Bool.and_eq_true, Bool.and_eq_true, iL, fin h2, fin h3]; exact ⟨⟨by omega, rfl⟩, rfl⟩
 have a5 : wF y = false := all fun l hl => by
  obtain ⟨h1, h2, _⟩ := h.level l hl
  unfold ah.time ah.bin; rw [Bool.and_eq_true, iL, iL]; omega
 have a6 : tK y = false := all fun m hm => by
  rw [Bool.not_eq_true', decide_eq_false_iff_not]; exact (h.move m hm).2.2.2.1
 have a7 : uB y = false := by
  unfold uB
  rw [all (p := fun b : vE => iC b.first) fun b hb => decide_eq_true (h.bin b hb).2.2, all (p := fun m : Move => iC m.sacks) fun m hm => decide_eq_true (h.move m hm).2.2.2.2.2, all (p := fun l : Level => iC l.sacks) fun l hl => decide_eq_true (h.level l hl).2.2.2]; rfl
 unfold bT
 rw [a1, a2, a3, a4, a5, a6, a7]; rfl
end Go.Proofs.YtelbollidfdcjaaGreat
namespace Go.T
open Go Go.RowKit
def Zt : Nat := 1000000
def Fe (M : bB) : Prop := ∀ b u, M b = some u → Zt ≤ u → u = Zt + b
def Cb (J : World → bB → Prop) : Prop := ∀ w M w' M', Wf w' M' → Le (fun t => Zt ≤ t) (fun t => Zt ≤ t) w M w' M' → J w M → J w' M'
def NS (P : Program) (l : Nat) (encs : List (List Ty)) (J : Nat → World → bB → Prop) (Jx : World → bB → Prop) : Prop :=
  ∀ (k : Nat) (tys : List Ty), encs[k]? = some tys → ∀ w M vs, Wf w M → Fe M → J k w M → cK w M tys vs →
    YieldAt Fence.wide 0 P l vs.toArray w fun e w' => ∃ M', Wf w' M' ∧ Fe M' ∧ Le (fun t => t < Zt) (fun t => t < Zt) w M w' M' ∧ ((e = .returned (.bool true) ∧ J (k + 1) w' M') ∨ (e = .returned (.bool false) ∧ Jx w' M'))
section
variable {P : Program} {fr : Fr} {ops : Array Oper} {A : As} {rest : List Oper} {K : As → List (As × Fx) → Prop} {d : Nat} {t : TypeId} {p : String} {e : Array Edge} {Q : Exit → Act → World → Prop}
theorem MI {op : Op} {dst : Option Nat} {j s : Nat} {want : Bool} {f : Fx} (hs : o8 ops j = some s) (hn : Nat.blt s fr.n = true) (hc : A.slots s = .bool want) (h1 : vk P fr ops ⟨dst, op, t, p, e, none⟩ A f) :
 vk P fr ops ⟨dst, op, t, p, e, some (j, want)⟩ A { f with rs := s :: f.rs } := by
 obtain ⟨hd, hsets, hS, hK, hop⟩ := h1
 refine ⟨hd, hsets, hS, hK, fun a w M wf hsz hrd htg => ?_⟩
 have hv := hrd s List.mem_cons_self (by simpa using hn)
 rw [hc] at hv
 have hy := lH (ops := ops) hs (by rw [hsz]; simpa using hn) hv
 have hw : Region.wanted ⟨dst, op, t, p, e, some (j, want)⟩ (yielded ops a.tmps) = true := by simp [Region.wanted, hy]
 have h := hop a w M wf hsz (fun c hc => hrd c (List.mem_cons_of_mem _ hc)) htg
 rw [if_pos (by simp [Region.wanted])] at h
 rw [if_pos hw]
 exact h
theorem j8 {op : Op} {dst : Option Nat} {j s : Nat} {want : Bool} {f : Fx} (hs : o8 ops j = some s) (hn : Nat.blt s fr.n = true) (hc : A.slots s = .bool want) (h1 : vk P fr ops ⟨dst, op, t, p, e, none⟩ A f)
 (h : aa P fr ops rest (A.after f) fun A' l' => K A' ((A, { f with rs := s :: f.rs }) :: l')) : aa P fr ops (⟨dst, op, t, p, e, some (j, want)⟩ :: rest) A K := ⟨_, MI hs hn hc h1, h⟩
theorem nM {op : Op} {j s : Nat} {want c : Bool} (hs : o8 ops j = some s) (hn : Nat.blt s fr.n = true) (hc : A.slots s = .bool c) (hne : (c == want) = false)
 (h : aa P fr ops rest (A.set d (.ex undef)) fun A' l' => K A' ((A, { d := some d, ty := .ex undef, rs := [s] }) :: l')) : aa P fr ops (⟨some d, op, t, p, e, some (j, want)⟩ :: rest) A K := by
 refine ⟨{ d := some d, ty := .ex undef, rs := [s] }, ⟨rfl, (by simp), (by simp), (by simp), fun a w M wf hsz hrd htg => ?_⟩, h⟩
 have hv := hrd s List.mem_cons_self (by simpa using hn)
 rw [hc] at hv
 have hy := lH (ops := ops) hs (by rw [hsz]; simpa using hn) hv
 have hw : Region.wanted ⟨some d, op, t, p, e, some (j, want)⟩ (yielded ops a.tmps) = false := by
  simp only [Region.wanted, hy]
  cases c <;> cases want <;> simp_all
 rw [if_neg (by rw [hw]; simp)]
 exact ⟨M, wf, Le.refl _ _ _ _, rfl, by simp⟩
def yv (l : Nat) : Value := .func (.yield l) #[] #[]
end
def cj (n : Nat) (J : Nat → World → bB → Prop) (Jx : World → bB → Prop) (resD resS : Ty) (e : Ending) (w' : World) : Prop :=
  ∃ r M', e = .returned r ∧ Wf w' M' ∧ Fe M' ∧ ((resD.den w' M' r ∧ J n w' M') ∨ (resS.den w' M' r ∧ Jx w' M'))
section
variable {P : Program} {A : As}
variable {fn : Func} {n m : Nat} {w0 : World} {M0 : bB} {J : Nat → World → bB → Prop} {Jx : World → bB → Prop} {resD resS : Ty}
end
end Go.T
namespace Go.T
open Go Go.RowKit
theorem Af : 1 ≤ Zt := by decide
def fY (M : bB) : bB := fun b => match M b with | none => none | some t => if Zt ≤ t then some 0 else some t
theorem iG {M : bB} {b : Nat} (h : M b = none) : fY M b = none := by simp [fY, h]
theorem fW {M : bB} {b t : Nat} (h : M b = some t) (ht : t < Zt) : fY M b = some t := by
 have : ¬ Zt ≤ t := by omega
 simp [fY, h, this]
theorem xL {M : bB} {b t : Nat} (h : M b = some t) (ht : Zt ≤ t) : fY M b = some 0 := by simp [fY, h, ht]
theorem nY {M : bB} {b t : Nat} (h : fY M b = some (t + 1)) : M b = some (t + 1) ∧ t + 1 < Zt := by
 unfold fY at h
 split at h
 ·cases h
 rename_i u hu
 split at h
 ·cases h
 injection h with h; subst h; exact ⟨hu, by omega⟩
theorem oW {w : World} {M : bB} (wf : Wf w M) : Wf w (fY M) :=
  ⟨fun b t h => by
    cases hm : M b with
    | none => rw [iG hm] at h; cases h
    | some u => exact wf.lt b u hm, fun b b' t ht1 h h' => wf.inj b b' t ht1 (nY h).1 (nY h').1⟩
theorem AJ {M : bB} {b u : Nat} (h : fY M b = some u) : u < Zt := by
 unfold fY at h
 split at h
 ·cases h
 split at h
 ·injection h with h; subst h; decide
 injection h with h; omega
def CN (n : Nat) (pass : List Nat) (s : Nat → Ty) : Bool := (List.range n).all fun c => (s c).cdeps.isEmpty && (s c).deps.all fun t => pass.contains t
def wE (l l' : List Nat) : Bool := l.all (fun t => l'.contains t) && l'.all fun t => Nat.ble 1 t && Nat.blt t 1000000
def OR (l : List Nat) : Bool := l.all fun t => Nat.ble 1 t && Nat.blt t 1000000
def rN (l : List (Nat × Cont)) : Bool := l.all fun x => Nat.ble 1 x.1 && (Nat.blt x.1 1000000 && (OR x.2.deps && OR x.2.cdeps))
theorem CD {l : List Nat} (h : OR l = true) : ∀ t ∈ l, 1 ≤ t ∧ t < Zt := by
 intro t ht
 simp only [OR, List.all_eq_true, Bool.and_eq_true, Nat.ble_eq, Nat.blt_eq] at h
 exact h t ht
theorem kU {l : List (Nat × Cont)} (h : rN l = true) : ∀ x ∈ l, (1 ≤ x.1 ∧ x.1 < Zt) ∧ (∀ t ∈ x.2.deps, 1 ≤ t ∧ t < Zt) ∧ ∀ t ∈ x.2.cdeps, 1 ≤ t ∧ t < Zt := by
 intro x hx
 simp only [rN, List.all_eq_true, Bool.and_eq_true, Nat.ble_eq, Nat.blt_eq] at h
 obtain ⟨h1, h2, h3, h4⟩ := h x hx
 exact ⟨⟨h1, h2⟩, CD h3, CD h4⟩
theorem lz {n : Nat} {pass : List Nat} {s : Nat → Ty} (h : CN n pass s = true) : ∀ c, c < n → (s c).cdeps = [] ∧ ∀ t ∈ (s c).deps, t ∈ pass := by
 intro c hc
 simp only [CN, List.all_eq_true, Bool.and_eq_true, List.mem_range, List.isEmpty_iff, List.contains_iff_mem] at h
 exact h c hc
theorem oc {l l' : List Nat} (h : wE l l' = true) : (∀ t ∈ l, t ∈ l') ∧ ∀ t ∈ l', 1 ≤ t ∧ t < Zt := by
 simp only [wE, Bool.and_eq_true, List.all_eq_true, List.contains_iff_mem, Nat.ble_eq, Nat.blt_eq] at h
 exact ⟨h.1, h.2⟩
theorem BR {w : World} {M : bB} {n : Nat} : ∀ (l : List (Nat × Ty)) (vs : List Value) (tm : Array Value) (s : Nat → Ty), (l.map Prod.fst).Nodup → tm.size = n → (∀ c, c < n → (s c).den w M (tm.getD c undef)) → cK w M (l.map Prod.snd) vs →
    (((l.map Prod.fst).zip vs).foldl (fun t (p, v) => t.setIfInBounds p v) tm).size = n ∧ ∀ c, c < n → (oz l s c).den w M ((((l.map Prod.fst).zip vs).foldl (fun t (p, v) => t.setIfInBounds p v) tm).getD c undef)
  | [], [], tm, s, _, hsz, hs, _ => ⟨hsz, hs⟩
  | (d, ty) :: l, v :: vs, tm, s, hnd, hsz, hs, ⟨hv, hvs⟩ => by
    simp only [List.map_cons, List.nodup_cons] at hnd
    have hs' : ∀ c, c < n → ((fun i => bif Nat.beq i d then ty else s i) c).den w M ((tm.setIfInBounds d v).getD c undef) := fun c hc => by
      simp only [Array.getD_eq_getD_getElem?, Array.getElem?_setIfInBounds]
      by_cases e : d = c
      · subst e; simpa [hsz, hc] using hv
      · have e' : Nat.beq c d = false := by cases h : Nat.beq c d with | false => rfl | true => exact absurd (Nat.eq_of_beq_eq_true h).symm e
        simpa [e, e', Array.getD_eq_getD_getElem?] using hs c hc
    obtain ⟨h1, h2⟩ := BR l vs (tm.setIfInBounds d v) (fun i => bif Nat.beq i d then ty else s i) hnd.2 (by simpa using hsz) hs' hvs
    have hset : ∀ c, oz ((d, ty) :: l) s c = oz l (fun i => bif Nat.beq i d then ty else s i) c := by
      intro c
      have hl : ∀ (l : List (Nat × Ty)) (s s' : Nat → Ty), (∀ i, i = c → i ∉ l.map Prod.fst → s i = s' i) → oz l s c = oz l s' c := by
        intro l
        induction l with
        | nil => intro s s' h; exact h c rfl (by simp)
        | cons x l ih =>
          intro s s' h
          simp only [oz]
          cases hb : Nat.beq c x.1 with
          | true => rfl
          | false =>
            simp only [cond_false]
            refine ih s s' fun i hi hm => h i hi fun hm' => ?_
            rw [List.map_cons] at hm'
            rcases List.mem_cons.1 hm' with h1 | h1
            · rw [← h1, hi] at hb; simp at hb
            · exact hm h1
      simp only [oz]
      by_cases e : c = d
      · subst e
        have hb : Nat.beq c c = true := by simp
        rw [hb, cond_true]
        have : ∀ (l : List (Nat × Ty)) (s : Nat → Ty), c ∉ l.map Prod.fst → oz l s c = s c := by
          intro l
          induction l with
          | nil => intro s _; rfl
          | cons x l ih =>
            intro s h
            simp only [List.map_cons, List.mem_cons, not_or] at h
            have hb : Nat.beq c x.1 = false := by cases hb : Nat.beq c x.1 with | false => rfl | true => exact absurd (Nat.eq_of_beq_eq_true hb) h.1
            simp only [oz, hb, cond_false]
            exact ih s h.2
        rw [this l _ hnd.1]
        simp
      · have hb : Nat.beq c d = false := by cases hb : Nat.beq c d with | false => rfl | true => exact absurd (Nat.eq_of_beq_eq_true hb) e
        rw [hb, cond_false]
        exact hl l _ _ fun i hi _ => by subst hi; simp [hb]
    refine ⟨h1, fun c hc => ?_⟩
    rw [hset]; exact h2 c hc
def Mu : Nat → Ty := fun _ => Ty.any
def eF (fr : Fr) (B : List (Nat × Cont)) (br : Bool) (tr : List (Nat × Cont)) : Exit → Act → World → Prop
  | .normal, a, w => As.holds fr ⟨Mu, B⟩ a w
  | .ret, a, w => br = true ∧ As.holds fr ⟨Mu, tr⟩ a w
  | _, _, _ => False
theorem B1 {fr : Fr} {A : As} {B : List (Nat × Cont)} {br : Bool} {tr : List (Nat × Cont)} (h : dG fr A ⟨Mu, B⟩) : dh fr A (eF fr B br tr .normal) := fun _ _ ha => h.holds ha
def NN (P : Program) (n : Nat) (pass : List Nat) (assign body : Code) (A : As) (B : List (Nat × Cont)) (br : Bool) (tr : List (Nat × Cont)) : Prop :=
  ∃ A1 : As, (∀ l w M, fP P ⟨n, w, M, pass, .round l⟩ assign A (Exit.then (fun a w' => A1.holds ⟨n, w, M, pass, .round l⟩ a w') fun _ _ _ => False)) ∧
    ∀ l w M, fP P ⟨n, w, M, pass, .round l⟩ body (A1.after { d := none, S := [0] }) (eF ⟨n, w, M, pass, .round l⟩ B br tr)
section
variable {P : Program} {fr : Fr} {A : As} {Q : Exit → Act → World → Prop}
theorem Bn {w : World} {M : bB} {l : Nat} {o : Obj} (h0 : fr.w0.heap.size ≤ l) (h1 : ∀ t, ¬ (1 ≤ t ∧ t ∉ fr.pass) → fr.M0 l ≠ some t) (hb : fr.base w M) : fr.base (w.putObj l o) M := by
 refine ⟨by simpa using hb.size, hb.os, hb.tape, hb.out, fun b hlt hm => ⟨(hb.qB b hlt hm).1, ?_⟩, fun b t hm hk => ⟨(hb.own b t hm hk).1, fun hs => ?_⟩⟩
 ·rw [World.putObj_heap_other (by omega)]; exact (hb.qB b hlt hm).2
 rw [World.putObj_heap_other (fun e => h1 t hk (by rw [← e]; exact hm))]; exact (hb.own b t hm hk).2 hs
theorem vQ {w : World} {M : bB} {l : Nat} {o : Obj} (hl : M l = some 0) : Le (· ∈ [0]) (· ∈ ([] : List Nat)) w M (w.putObj l o) M := by
 refine ⟨by simp, rfl, rfl, rfl, fun b hb hm => ⟨hm, World.putObj_heap_other fun e => by rw [e, hl] at hm; cases hm⟩, fun b t hm _ => ⟨hm, fun hs => World.putObj_heap_other fun e => ?_⟩⟩
 rw [e, hl] at hm; injection hm with hm; exact hs (by simp [hm])
def JJ (fr : Fr) (s : Nat → Ty) (tm : Array Value) (ds : List Deferred) (l : Nat) (r : Loop) (tg : List (Nat × Cont)) (w : World) (M : bB) : Prop :=
  fr.base w M ∧ (∀ c, c < fr.n → (s c).den w M (tm.getD c undef)) ∧ (∀ x ∈ tg, x.2.den w M x.1) ∧ M l = some 0 ∧ w.heap[l]? = some (.loop r) ∧ Defs fr w M ds
theorem LW {s : Nat → Ty} {tm : Array Value} {ds : List Deferred} {l : Nat} {r : Loop} {tg : List (Nat × Cont)} {pass' : List Nat} (hpass : wE fr.pass pass' = true) (hs : CN fr.n pass' s = true) (ht : rN tg = true) : Cb (JJ fr s tm ds l r tg) := by
 intro w M w' M' wf' le ⟨h1, h2, h3, h4, h5, h6⟩
 obtain ⟨hp1, hp2⟩ := oc hpass
 obtain ⟨a, c⟩ := le.own l 0 h4 (by decide)
 refine ⟨Fr.jP h1 (fun t ht => Nat.le_trans Af ht) (fun t ht => ⟨Nat.le_trans Af ht, fun hm => by have := (hp2 t (hp1 t hm)).2; omega⟩) le, fun c hc => ?_, fun x hx => ?_, a, (c (by decide)).trans h5, h6.step (fun t ht => Nat.le_trans Af ht) (fun t ht => Nat.le_trans Af ht) le⟩
 ·obtain ⟨e1, e2⟩ := lz hs c hc
  exact (s c).mono le (fun t ht hz => by have := (hp2 t (e2 t ht)).2; omega) (by rw [e1]; intro _ h; cases h) (h2 c hc)
 obtain ⟨⟨_, e2⟩, e3, e4⟩ := kU ht x hx
 exact x.2.mono le (fun t ht hz => by have := (e3 t ht).2; omega) (fun t ht hz => by have := (e4 t ht).2; omega) (by omega) (by omega) (h3 x hx)
def oO (w : World) (M M3 : bB) : bB := fun b => match M b with | some u => if b < w.heap.size ∧ Zt ≤ u then some u else fY M3 b | none => fY M3 b
theorem zC {s : Nat → Ty} {tm : Array Value} {ds : List Deferred} {l : Nat} {r r3 r4 : Loop} {tg0 tg : List (Nat × Cont)} {pass' : List Nat} (hpass : wE fr.pass pass' = true) (hs : CN fr.n pass' s = true) (ht : rN tg = true) (hkd : fr.kd = .marks)
    (h0 : fr.w0.heap.size ≤ l) (h1 : ∀ t, ¬ (1 ≤ t ∧ t ∉ fr.pass) → fr.M0 l ≠ some t)
    {w w1 w3 : World} {M M1 M3 : bB} (wf : Wf w M) (z : Fe M) (hj : JJ fr s tm ds l r tg0 w M)
    (le1 : Le (fun t => 1 ≤ t) (fun t => 1 ≤ t ∧ t ∉ pass') w (fY M) w1 M1) (wf3 : Wf w3 M3) (le3 : Le (fun t => 1 ≤ t) (fun t => 1 ≤ t ∧ t ∉ pass') (w1.putObj l (.loop r3)) M1 w3 M3)
    (htg : ∀ x ∈ tg, x.2.den w3 M3 x.1) :
    w3.heap[l]? = some (.loop r3) ∧ ∃ M4, Wf (w3.putObj l (.loop r4)) M4 ∧ Fe M4 ∧ Le (fun t => t < Zt) (fun t => t < Zt) w M (w3.putObj l (.loop r4)) M4 ∧ JJ fr s tm ds l r4 tg (w3.putObj l (.loop r4)) M4 := by
  obtain ⟨hb, hsl, _, hl, hrec, hdef⟩ := hj
  obtain ⟨hp1, hp2⟩ := oc hpass
  have hlt : l < w.heap.size := wf.lt l 0 hl
  have hZ : (1 : Nat) ≤ Zt := by decide
  -- a block whose tag is 0, or another one that stays
  have zero : ∀ b, fY M b = some 0 → M3 b = some 0 ∧ (b ≠ l → w3.heap[b]? = w.heap[b]?) := fun b h => by
    obtain ⟨a, c⟩ := le1.own b 0 h (by omega)
    obtain ⟨a', c'⟩ := le3.own b 0 a (by omega)
    exact ⟨a', fun e => (c' (by omega)).trans ((World.putObj_heap_other e).trans (c (by omega)))⟩
  have pas : ∀ b t, t ∈ pass' → M b = some t → M3 b = some t := fun b t hm h => by
    obtain ⟨a, _⟩ := le1.own b t (fW h (hp2 t hm).2) (fun h => h.2 hm)
    exact (le3.own b t a fun h => h.2 hm).1
  have qB : ∀ b, b < w.heap.size → M b = none → M3 b = none ∧ w3.heap[b]? = w.heap[b]? := fun b hb h => by
    obtain ⟨a, c⟩ := le1.qB b hb (iG h)
    obtain ⟨a', c'⟩ := le3.qB b (by simpa using Nat.lt_of_lt_of_le hb le1.size) a
    exact ⟨a', c'.trans ((World.putObj_heap_other fun e => by rw [e, hl] at h; cases h).trans c)⟩
  have hl0 : fY M l = some 0 := fW hl (by decide)
  have hM1l := (le1.own l 0 hl0 (by omega)).1
  have hl1 : l < w1.heap.size := Nat.lt_of_lt_of_le hlt le1.size
  have hrec3 : w3.heap[l]? = some (.loop r3) := ((le3.own l 0 hM1l (by omega)).2 (by omega)).trans (World.putObj_heap_same hl1)
  have hM3l := (zero l hl0).1
  have hsz3 : w.heap.size ≤ w3.heap.size := Nat.le_trans le1.size (by simpa using le3.size)
  refine ⟨hrec3, oO w M M3, ?_⟩
  -- how the tags are
  have kept : ∀ b u, M b = some u → Zt ≤ u → oO w M M3 b = some u := fun b u h hu => by
    unfold oO; rw [h]; simp [wf.lt b u h, hu]
  have other : ∀ b, (∀ u, M b = some u → u < Zt) → oO w M M3 b = fY M3 b := fun b h => by
    unfold oO
    cases hm : M b with
    | none => rfl
    | some u => have := h u hm; simp only; rw [if_neg (by omega)]
  have from3 : ∀ b t, M3 b = some t → 1 ≤ t → ∀ u, M b = some u → u < Zt := fun b t h h1 u hu => by
    rcases Nat.lt_or_ge u Zt with h2 | h2
    · exact h2
    · have := (zero b (xL hu h2)).1
      rw [this] at h; injection h with h; omega
  have none3 : ∀ b, M3 b = none → ∀ u, M b = some u → u < Zt := fun b h u hu => by
    rcases Nat.lt_or_ge u Zt with h2 | h2
    · exact h2
    · have := (zero b (xL hu h2)).1
      rw [this] at h; cases h
  have zok : Fe (oO w M M3) := fun b u h hu => by
    unfold oO at h
    split at h
    · rename_i v hv
      split at h
      · injection h with h; subst h; exact z b v hv hu
      · have := AJ h; omega
    · have := AJ h; omega
  have wf4 : Wf (w3.putObj l (.loop r4)) (oO w M M3) := by
    refine ⟨fun b t h => ?_, fun b b' t ht1 h h' => ?_⟩
    · rw [World.putObj_size]
      unfold oO at h
      split at h
      · split at h
        · rename_i hc; exact Nat.lt_of_lt_of_le hc.1 hsz3
        · exact (oW wf3).lt b t h
      · exact (oW wf3).lt b t h
    · by_cases hz : Zt ≤ t + 1
      · have e1 := zok b _ h hz
        have e2 := zok b' _ h' hz
        omega
      · have part : ∀ b, oO w M M3 b = some (t + 1) → M3 b = some (t + 1) := fun b h => by
          unfold oO at h
          split at h
          · split at h
            · injection h with h; omega
            · exact (nY h).1
          · exact (nY h).1
        exact wf3.inj b b' t ht1 (part b h) (part b' h')
  have le0 : Le (· ∈ [0]) (· ∈ ([] : List Nat)) w3 M3 (w3.putObj l (.loop r4)) M3 := vQ hM3l
  have leZ : Le (fun t => t < Zt) (fun t => t < Zt) w M (w3.putObj l (.loop r4)) (oO w M M3) := by
    refine ⟨by simpa using hsz3, (le0.os.trans (le3.os.trans le1.os)), (le0.tape.trans (le3.tape.trans le1.tape)), (le0.out.trans (le3.out.trans le1.out)), fun b hb hm => ?_, fun b t hm ht => ⟨kept b t hm (by omega), fun _ => ?_⟩⟩
    · obtain ⟨a, c⟩ := qB b hb hm
      refine ⟨by rw [other b (fun u hu => by rw [hm] at hu; cases hu)]; exact iG a, ?_⟩
      rw [World.putObj_heap_other fun e => by rw [e, hl] at hm; cases hm]; exact c
    · have hbl : b ≠ l := fun e => by rw [e, hl] at hm; injection hm with hm; omega
      rw [World.putObj_heap_other hbl]
      exact (zero b (xL hm (by omega))).2 hbl
  refine ⟨wf4, zok, leZ, ?_, fun c hc => ?_, fun x hx => ?_, ?_, World.putObj_heap_same (Nat.lt_of_lt_of_le hlt hsz3), ?_⟩
  · refine ⟨Nat.le_trans hb.size leZ.size, leZ.os.trans hb.os, leZ.tape.trans hb.tape, leZ.out.trans hb.out, fun b hlt' hm => ?_, fun b t hm hk => ?_⟩
    · obtain ⟨a, c⟩ := hb.qB b hlt' hm
      obtain ⟨a', c'⟩ := leZ.qB b (Nat.lt_of_lt_of_le hlt' hb.size) a
      exact ⟨a', c'.trans c⟩
    · obtain ⟨a, c⟩ := hb.own b t hm hk
      have hbl : b ≠ l := fun e => h1 t hk (e ▸ hm)
      by_cases ht0 : t = 0
      · subst ht0
        obtain ⟨a', c'⟩ := zero b (fW a (by decide))
        refine ⟨by rw [other b (fun u hu => by rw [a] at hu; injection hu with hu; omega)]; exact fW a' (by decide), fun hs => ?_⟩
        rw [World.putObj_heap_other hbl]; exact (c' hbl).trans (c hs)
      · have htp : t ∈ fr.pass := Classical.byContradiction fun h => hk ⟨by omega, h⟩
        have htp' := hp1 t htp
        refine ⟨by rw [other b (fun u hu => by rw [a] at hu; injection hu with hu; have := (hp2 t htp').2; omega)]; exact fW (pas b t htp' a) (hp2 t htp').2, fun hs => absurd (FK.FD (k := fr.kd) (by omega : 1 ≤ t)) hs⟩
  · obtain ⟨e1, e2⟩ := lz hs c hc
    refine (s c).mono (S := fun _ => True) (K := fun t => t ∉ pass') ⟨leZ.size, leZ.os, leZ.tape, leZ.out, leZ.qB, fun b t hm hk => ⟨?_, fun h => absurd trivial h⟩⟩ (fun t ht h => h (e2 t ht)) (by rw [e1]; intro _ h; cases h) (hsl c hc)
    have htp : t ∈ pass' := Classical.byContradiction fun h => hk h
    rw [other b (fun u hu => by rw [hm] at hu; injection hu with hu; have := (hp2 t htp).2; omega)]
    exact fW (pas b t htp hm) (hp2 t htp).2
  · obtain ⟨⟨g1, g2⟩, e3, e4⟩ := kU ht x hx
    refine x.2.mono (w := w3) (M := M3) (S := fun t => t = 0) (K := fun t => t = 0 ∨ Zt ≤ t) ⟨by simp, rfl, rfl, rfl, fun b hb hm => ⟨?_, ?_⟩, fun b t hm hk => ⟨?_, fun _ => ?_⟩⟩ (fun t ht h => by have := e3 t ht; omega) (fun t ht h => by have := (e4 t ht).1; omega) (by omega) (by omega) (htg x hx)
    · rw [other b (none3 b hm)]; exact iG hm
    · exact World.putObj_heap_other fun e => by rw [e, hM3l] at hm; cases hm
    · have ht1 : 1 ≤ t := Nat.pos_of_ne_zero fun h => hk (.inl h)
      rw [other b (from3 b t hm ht1)]; exact fW hm (Nat.lt_of_not_le fun h => hk (.inr h))
    · exact World.putObj_heap_other fun e => by rw [e, hM3l] at hm; injection hm with hm; exact hk (.inl hm.symm)
  · rw [other l (fun u hu => by rw [hl] at hu; injection hu with hu; omega)]; exact fW hM3l (by decide)
  · obtain ⟨rs, e, g1, g2, g3⟩ := hdef
    refine ⟨rs, e, g1, g2, fun q hq => ?_⟩
    obtain ⟨a, b, c⟩ := g3 q hq
    have hql : q ≠ l := fun e => by rw [e, hrec] at c; cases c
    obtain ⟨a', c'⟩ := zero q (fW a (by decide))
    refine ⟨by rw [other q (fun u hu => by rw [a] at hu; injection hu with hu; omega)]; exact fW a' (by decide), b, ?_⟩
    rw [World.putObj_heap_other hql]; exact (c' hql).trans c
theorem rR {g : Operand} {ps : List Tmp} {assign body : Code} {gf : FuncId} {caps : List Ty} {encs : List (List Ty)} {resD resS : Ty} (s : Nat → Ty) (tg : Nat → List (Nat × Cont)) (br : Bool) (tr : List (Nat × Cont)) (pass' : List Nat)
    (hkd : fr.kd = .marks) (hg : A.op fr g = .jC gf caps) (hI1 : ∃ fn, P.funcs[gf]? = some fn ∧ (fn.name == "runtime.NumGoroutine") = false ∧ fn.body.isNone = false) (hI2 : ∀ (l : Nat) (J : Nat → World → bB → Prop) (Jx : World → bB → Prop) (tm : Array Value), (∀ k, Cb (J k)) → Cb Jx → NS P l encs J Jx → (∀ k w M, J k w M → (∀ c, c < fr.n → (s c).den w M (tm.getD c undef)) ∧ ∀ x ∈ tg k, x.2.den w M x.1) → ∀ w M vs, Wf w M → Fe M → cK w M (Ty.ex (yv l) :: caps) vs → J 0 w M → Calls P gf vs.toArray w (cj encs.length J Jx resD resS)) (hcd : ∀ t ∈ cG caps, t < Zt) (hcc : ∀ t ∈ bt caps, t < Zt)
    (hps : ps.Nodup) (hlen : ∀ tys ∈ encs, tys.length = ps.length ∧ cG tys = [] ∧ bt tys = []) (hpass : wE fr.pass pass' = true) (hs : CN fr.n pass' s = true) (htg : ∀ k, rN (tg k) = true) (htr : rN tr = true)
    (h0 : dG fr A ⟨s, tg 0⟩)
    (hround : ∀ k tys, encs[k]? = some tys → NN P fr.n pass' assign body ⟨oz (ps.zip tys) s, tg k⟩ (tg (k + 1)) br tr)
    (hdone : dh fr ⟨s, tg encs.length⟩ (Q .normal)) (hret : br = true → dh fr ⟨s, tr⟩ (Q .ret)) :
    fP P fr (.rangeFunc g ps.toArray assign body) A Q := by
  intro a w ha
  have hfe : fr.kd.jB = Fence.wide := by rw [hkd]; rfl
  rw [hfe]
  obtain ⟨hp1, hp2⟩ := oc hpass
  have hgv : ∃ cs : Array Value, a.eval g = .func (.func gf) #[] cs ∧ ∃ M, cK w M caps cs.toList := by
    obtain ⟨M, _, hsl, _⟩ := ha
    have := cP (x := g) (rs := cF g) (fun _ h => h) (fun c _ hn => hsl c hn)
    rw [hg] at this
    obtain ⟨cs, e, hd⟩ := this
    exact ⟨cs, e, M, hd⟩
  obtain ⟨M, ok, hsl0, htg0⟩ := id ha
  have hcs : ∃ cs : Array Value, a.eval g = .func (.func gf) #[] cs ∧ cK w M caps cs.toList := by
    have := cP (x := g) (rs := cF g) (fun _ h => h) (fun c _ hn => hsl0 c hn)
    rw [hg] at this
    exact this
  obtain ⟨cs, hev, hcaps⟩ := hcs
  have hB0 := h0.holds (a := a) (w := w) ⟨M, ok, hsl0, htg0⟩
  -- the same tags: the assertion that is forgotten down to holds of them, too
  have hslB : ∀ c, c < fr.n → (s c).den w M (a.tmps.getD c undef) := fun c hc => (rH h0.slots c hc) _ _ _ (hsl0 c hc)
  have htgB : ∀ x ∈ tg 0, x.2.den w M x.1 := fun x hx => by
    obtain ⟨C, hC, hsub⟩ := pK h0.tags x hx
    exact hsub _ _ _ (htg0 _ (cw hC))
  have hZ : (1 : Nat) ≤ Zt := by decide
  refine wpIn_rangeFunc fun fn _ => ?_
  obtain ⟨w1, hw1⟩ : ∃ w1, (w.alloc (.deferred (some []))).alloc (.loop { state := .ready, pending := none, fn, tmps := a.tmps, params := ps.toArray, assign, body, defers := w.heap.size }) = w1 := ⟨_, rfl⟩
  refine ⟨w.heap.size + 1, _, w1, { target := .fn (.func gf) cs, args := #[yv (w.heap.size + 1)] }, w1, gf, (yv (w.heap.size + 1) :: cs.toList).toArray, w1, by rw [← hw1]; exact run_enterLoop_outer fn a.tmps ps.toArray assign body, ?_, fun _ _ => trivial, ?_, (fun h => by cases h), ?_⟩
  · simp [resolve, rangeCall, hev, Deferred.ofValue, yv]; rfl
  · obtain ⟨fn', hf, hn, hb⟩ := hI1
    have hn' : fn'.name ≠ "runtime.NumGoroutine" := by simpa using hn
    have hb' : fn'.body ≠ none := fun h => by rw [h] at hb; cases hb
    simp [invoke, callFunc, hf, hn', hb']
  -- the world in which the iterator is called
  have hnone : ∀ b, w.heap.size ≤ b → M b = none := fun b hb => by
    cases hm : M b with
    | none => rfl
    | some t => have := ok.wf.lt b t hm; omega
  have hsz1 : w1.heap.size = w.heap.size + 2 := by rw [← hw1]; simp
  have hD : w1.heap[w.heap.size]? = some (.deferred (some [])) := by
    rw [← hw1]
    show ((w.heap.push _).push _)[w.heap.size]? = _
    rw [Array.getElem?_push, if_neg (by simp), Array.getElem?_push, if_pos rfl]
  have hL : w1.heap[w.heap.size + 1]? = some (.loop { state := .ready, pending := none, fn, tmps := a.tmps, params := ps.toArray, assign, body, defers := w.heap.size }) := by
    rw [← hw1]
    show ((w.heap.push _).push _)[w.heap.size + 1]? = _
    rw [Array.getElem?_push, if_pos (by simp)]
  have hold : ∀ b, b < w.heap.size → w1.heap[b]? = w.heap[b]? := fun b hb => by
    rw [← hw1]
    show ((w.heap.push _).push _)[b]? = _
    rw [Array.getElem?_push, if_neg (by simp; omega), Array.getElem?_push, if_neg (by omega)]
  have hw1os : w1.os = w.os ∧ w1.tape = w.tape ∧ w1.output = w.output := by rw [← hw1]; exact ⟨rfl, rfl, rfl⟩
  have leN : Le (fun t => Zt ≤ t) (fun t => Zt ≤ t) w M w1 (fun b => if b = w.heap.size ∨ b = w.heap.size + 1 then some 0 else fY M b) := by
    refine ⟨by omega, hw1os.1, hw1os.2.1, hw1os.2.2, fun b hb hm => ⟨?_, hold b hb⟩, fun b t hm ht => ⟨?_, fun _ => hold b (ok.wf.lt b t hm)⟩⟩
    · rw [if_neg (by omega)]; exact iG hm
    · have := ok.wf.lt b t hm
      rw [if_neg (by omega)]; exact fW hm (Nat.lt_of_not_le ht)
  have wf1 : Wf w1 (fun b => if b = w.heap.size ∨ b = w.heap.size + 1 then some 0 else fY M b) := by
    refine ⟨fun b t h => ?_, fun b b' t ht1 h h' => ?_⟩
    · split at h
      · omega
      · have := (oW ok.wf).lt b t h; omega
    · have part : ∀ b, (if b = w.heap.size ∨ b = w.heap.size + 1 then some 0 else fY M b) = some (t + 1) → fY M b = some (t + 1) := fun b h => by
        split at h
        · cases h
        · exact h
      exact (oW ok.wf).inj b b' t ht1 (part b h) (part b' h')
  have z1 : Fe (fun b => if b = w.heap.size ∨ b = w.heap.size + 1 then some 0 else fY M b) := fun b u h hu => by
    simp only at h
    split at h
    · injection h with h; omega
    · have := AJ h; omega
  have hbl0 : fr.w0.heap.size ≤ w.heap.size + 1 := Nat.le_succ_of_le ok.base.size
  have hbl1 : ∀ t, ¬ (1 ≤ t ∧ t ∉ fr.pass) → fr.M0 (w.heap.size + 1) ≠ some t := fun t ht h => by
    have := (ok.base.own _ t h ht).1
    rw [hnone _ (by omega)] at this; cases this
  have defs1 : Defs fr w1 (fun b => if b = w.heap.size ∨ b = w.heap.size + 1 then some 0 else fY M b) (uR w.heap.size :: a.defers) := by
    obtain ⟨rs, e, g1, g2, g3⟩ := ok.defers
    refine ⟨w.heap.size :: rs, by rw [e]; rfl, fun _ => hkd, List.nodup_cons.2 ⟨fun h => ?_, g2⟩, fun q hq => ?_⟩
    · have := ok.wf.lt _ _ (g3 _ h).1; omega
    · rcases List.mem_cons.1 hq with rfl | hq
      · refine ⟨by simp, ⟨ok.base.size, fun t ht h => ?_⟩, hD⟩
        have := (ok.base.own _ t h ht).1
        rw [hnone _ (Nat.le_refl _)] at this; cases this
      · obtain ⟨a1, b1, c1⟩ := g3 q hq
        have := ok.wf.lt _ _ a1
        exact ⟨by simp only; rw [if_neg (by omega)]; exact fW a1 (by decide), b1, (hold q this).trans c1⟩
  -- between two rounds
  let R : LoopState → Option Code → Loop := fun st pe => { state := st, pending := pe, fn, tmps := a.tmps, params := ps.toArray, assign, body, defers := w.heap.size }
  let J : Nat → World → bB → Prop := fun k => JJ fr s a.tmps (uR w.heap.size :: a.defers) (w.heap.size + 1) (R .ready none) (tg k)
  let Jx : World → bB → Prop := fun w' M' => br = true ∧ JJ fr s a.tmps (uR w.heap.size :: a.defers) (w.heap.size + 1) (R .done (some .ret)) tr w' M'
  have hJ : ∀ k, Cb (J k) := fun k => LW hpass hs (htg k)
  have hJx : Cb Jx := fun w M w' M' wf le ⟨h, hj⟩ => ⟨h, LW hpass hs htr w M w' M' wf le hj⟩
  have hj0 : J 0 w1 (fun b => if b = w.heap.size ∨ b = w.heap.size + 1 then some 0 else fY M b) := by
    refine ⟨Fr.jP ok.base (fun t ht => by omega) (fun t ht => ⟨by omega, fun hm => by have := (hp2 t (hp1 t hm)).2; omega⟩) leN, fun c hc => ?_, fun x hx => ?_, by simp, hL, defs1⟩
    · obtain ⟨e1, e2⟩ := lz hs c hc
      exact (s c).mono leN (fun t ht hz => by have := (hp2 t (e2 t ht)).2; omega) (by rw [e1]; intro _ h; cases h) (hslB c hc)
    · obtain ⟨⟨_, e2⟩, e3, e4⟩ := kU (htg 0) x hx
      exact x.2.mono leN (fun t ht hz => by have := (e3 t ht).2; omega) (fun t ht hz => by have := (e4 t ht).2; omega) (by omega) (by omega) (htgB x hx)
  have hY : NS P (w.heap.size + 1) encs J Jx := by
    intro k tys hk w2 M2 vs wf2 z2 hj hv
    obtain ⟨jb, jsl, jtg, jl, jrec, jdef⟩ := id hj
    have hvl := cQ hv
    obtain ⟨htl, hte, htc⟩ := hlen tys (List.mem_of_getElem? hk)
    have hrunY := run_yield (P := P) (args := vs.toArray) jrec (by simp [R]; omega)
    refine ⟨_, _, _, _, hrunY, roundIn_of_wpIn trivial ?_⟩
    obtain ⟨A1, hassign, hbody⟩ := hround k tys hk
    have hzip : (ps.zip tys).map Prod.fst = ps := by rw [List.map_fst_zip (by omega)]
    have hzip2 : (ps.zip tys).map Prod.snd = tys := by rw [List.map_snd_zip (by omega)]
    have conv : ∀ {t : Ty} {v : Value}, (∀ u ∈ t.deps, u < Zt) → t.den w2 M2 v → t.den w2 (fY M2) v := fun {t v} hd h =>
      t.mono (S := fun _ => False) (K := fun u => Zt ≤ u) ⟨Nat.le_refl _, rfl, rfl, rfl, fun b _ hm => ⟨iG hm, rfl⟩, fun b u hm hk => ⟨fW hm (Nat.lt_of_not_le hk), fun _ => rfl⟩⟩ (fun u hu hz => by have := hd u hu; omega) (fun _ _ h => h) h
    have convC : ∀ {C : Cont} {t : Nat}, (∀ u ∈ C.deps, u < Zt) → t < Zt → C.den w2 M2 t → C.den w2 (fY M2) t := fun {C t} hd ht h =>
      C.mono (S := fun _ => False) (K := fun u => Zt ≤ u) ⟨Nat.le_refl _, rfl, rfl, rfl, fun b _ hm => ⟨iG hm, rfl⟩, fun b u hm hk => ⟨fW hm (Nat.lt_of_not_le hk), fun _ => rfl⟩⟩ (fun u hu hz => by have := hd u hu; omega) (fun _ _ h => h) (fun h => h) (by omega) h
    obtain ⟨fsz, fden⟩ := BR (w := w2) (M := fY M2) (n := fr.n) (ps.zip tys) vs a.tmps s (by rw [hzip]; exact hps) ok.size (fun c hc => conv (fun u hu => (hp2 u ((lz hs c hc).2 u hu)).2) (jsl c hc)) (by rw [hzip2]; exact iF (fun b h => iG h) hte htc hv)
    rw [hzip] at fsz fden
    have htm : ((R .ready none).params.zip vs.toArray).foldl (fun tmps (t, v) => tmps.setIfInBounds t v) a.tmps = (ps.zip vs).foldl (fun t (p, v) => t.setIfInBounds p v) a.tmps := by simp [R]
    have hA0 : As.holds ⟨fr.n, w2, fY M2, pass', .round (w.heap.size + 1)⟩ ⟨oz (ps.zip tys) s, tg k⟩ { tmps := ((R .ready none).params.zip vs.toArray).foldl (fun tmps (t, v) => tmps.setIfInBounds t v) a.tmps, defers := [] } w2 := by
      rw [htm]
      exact ⟨fY M2, ⟨oW wf2, Le.refl _ _ _ _, fsz, Defs.nil⟩, fden, fun x hx => by
        obtain ⟨⟨_, e2⟩, e3, _⟩ := kU (htg k) x hx
        exact convC (fun u hu => (e3 u hu).2) e2 (jtg x hx)⟩
    have h1 := hassign (w.heap.size + 1) w2 (fY M2) _ _ hA0
    refine Go.wpIn_mono h1 fun e a1 w3 hq => ?_
    cases e with
    | normal =>
      obtain ⟨M3, ok3, hsl3, htg3⟩ := hq
      obtain ⟨l3, l3'⟩ := ok3.base.own (w.heap.size + 1) 0 (fW jl (by decide)) (by simp)
      have rec3 : w3.heap[w.heap.size + 1]? = some (.loop (R .ready none)) := (l3' (by simp [FK.JT])).trans jrec
      refine ⟨_, run_beginRound rec3 rfl, ?_⟩
      have hkill := vQ (w := w3) (M := M3) (o := .loop { R .ready none with state := .busy }) l3
      have hb0 : As.holds ⟨fr.n, w3.putObj (w.heap.size + 1) (.loop { R .ready none with state := .busy }), M3, pass', .round (w.heap.size + 1)⟩ (A1.after { d := none, S := [0] }) a1 (w3.putObj (w.heap.size + 1) (.loop { R .ready none with state := .busy })) := by
        refine ⟨M3, ⟨⟨fun b t h => by simpa using ok3.wf.lt b t h, ok3.wf.inj⟩, Le.refl _ _ _ _, ok3.size, by rw [ok3.gC (by simp)]; exact Defs.nil⟩, fun c hc => ?_, fun x hx => ?_⟩
        · simp only [As.after, qM]
          rcases fZ [0] [] A1.slots c with ⟨e, hdj⟩ | ⟨_, e⟩
          · rw [e]; exact (A1.slots c).mono hkill (fN hdj).1 (fN hdj).2 (hsl3 c hc)
          · rw [e]; trivial
        · exact iR hkill (by simpa [As.after] using hx) fun y hy _ => htg3 y hy
      have h2 := hbody (w.heap.size + 1) _ M3 _ _ hb0
      refine Go.wpIn_mono h2 fun e a4 w4 hq4 => ?_
      have le1 : Le (fun t => 1 ≤ t) (fun t => 1 ≤ t ∧ t ∉ pass') w2 (fY M2) w3 M3 := ok3.base
      cases e with
      | normal =>
        obtain ⟨M4, ok4, _, htg4⟩ := hq4
        obtain ⟨r4, M5, g1, g2, g3, g4⟩ := zC (r4 := R .ready none) hpass hs (htg (k + 1)) hkd hbl0 hbl1 wf2 z2 hj le1 ok4.wf ok4.base htg4
        exact ⟨_, _, run_endRound none r4, M5, g1, g2, g3, .inl ⟨rfl, g4⟩⟩
      | ret =>
        obtain ⟨hbr, M4, ok4, _, htg4⟩ := hq4
        obtain ⟨r4, M5, g1, g2, g3, g4⟩ := zC (r4 := R .done (some .ret)) hpass hs htr hkd hbl0 hbl1 wf2 z2 hj le1 ok4.wf ok4.base htg4
        exact ⟨_, _, run_endRound (some .ret) r4, M5, g1, g2, g3, .inr ⟨rfl, hbr, g4⟩⟩
      | exit id => exact hq4.elim
      | goto l => exact hq4.elim
      | panic c => exact hq4.elim
      | outgrown => exact hq4.elim
    | ret => exact hq.elim
    | exit id => exact hq.elim
    | goto l => exact hq.elim
    | panic c => exact hq.elim
    | outgrown => exact hq.elim
  have fin : ∀ (r : Loop) (tgs : List (Nat × Cont)) (w' : World) (M' : bB) (o : Obj), rN tgs = true → Wf w' M' → JJ fr s a.tmps (uR w.heap.size :: a.defers) (w.heap.size + 1) r tgs w' M' → As.holds fr ⟨s, tgs⟩ { tmps := a.tmps, defers := [{ target := .collected w.heap.size, args := #[] }] ++ a.defers } (w'.putObj (w.heap.size + 1) o) := by
    intro r tgs w' M' o hok wf' ⟨jb, jsl, jtg, jl, jrec, jdef⟩
    have hk0 := vQ (w := w') (M := M') (o := o) jl
    refine ⟨M', ⟨⟨fun b t h => by simpa using wf'.lt b t h, wf'.inj⟩, Bn hbl0 hbl1 jb, ok.size, ?_⟩, fun c hc => ?_, fun x hx => ?_⟩
    · obtain ⟨rs, e, g1, g2, g3⟩ := jdef
      refine ⟨rs, e, g1, g2, fun q hq => ?_⟩
      obtain ⟨a1, b1, c1⟩ := g3 q hq
      exact ⟨a1, b1, by rw [World.putObj_heap_other fun e => by rw [e, jrec] at c1; cases c1]; exact c1⟩
    · obtain ⟨e1, e2⟩ := lz hs c hc
      exact (s c).mono hk0 (fun _ _ h => by cases h) (by rw [e1]; intro _ h; cases h) (jsl c hc)
    · obtain ⟨⟨e1, e2⟩, e3, e4⟩ := kU hok x hx
      exact x.2.mono hk0 (fun _ _ h => by cases h) (fun t ht h => by have := (e4 t ht).1; rw [List.mem_singleton.1 h] at this; omega) (fun h => by rw [List.mem_singleton.1 h] at e1; omega) (fun h => by cases h) (jtg x hx)
  refine CallsIn.mono (callsIn_wide.2 (hI2 (w.heap.size + 1) J Jx a.tmps hJ hJx hY (fun k w M hj => ⟨hj.2.1, hj.2.2.1⟩) w1 _ (yv (w.heap.size + 1) :: cs.toList) wf1 z1 ⟨rfl, ?_⟩ hj0)) ?_
  · exact cB leN (fun t ht hz => Nat.lt_irrefl _ (Nat.lt_of_lt_of_le (hcd t ht) hz)) (fun t ht hz => Nat.lt_irrefl _ (Nat.lt_of_lt_of_le (hcc t ht) hz)) hcaps
  · rintro e w' ⟨r, M', he, wf', z', hor⟩
    subst he
    rcases hor with ⟨_, hj⟩ | ⟨_, hbr, hj⟩
    · refine ⟨none, _, run_endLoop hj.2.2.2.2.1 (by simp [R]), ?_⟩
      exact hdone _ _ (fin _ _ w' M' _ (htg _) wf' hj)
    · refine ⟨some .ret, _, run_endLoop hj.2.2.2.2.1 (by simp [R]), ?_⟩
      exact wpIn_ret (hret hbr _ _ (fin _ _ w' M' _ htr wf' hj))
end
section
variable {P : Program} {A : As} {fn : Func} {n : Nat} {w0 : World} {M0 : bB} {F : List Nat}
theorem sZ {R : Ending → World → Prop} {tm : Array Value} {s : Nat → Ty} {tgs : List (Nat × Cont)} {pass : List Nat} (fr : Fr)
    (hs0 : ∀ c, c < fr.n → ∀ t ∈ (s c).cdeps, t ≠ 0) (ht0 : ∀ x ∈ tgs, x.1 ≠ 0 ∧ ∀ t ∈ x.2.cdeps, t ≠ 0)
    (h : ∀ w M, Wf w M → fr.base w M → (∀ c, c < fr.n → (s c).den w M (tm.getD c undef)) → (∀ x ∈ tgs, x.2.den w M x.1) → ∃ v, (results fn tm).run P w = .ok v w ∧ R (.returned v) w) :
    ∀ (rs : List Nat) (w : World) (M : bB), Wf w M → fr.base w M → (∀ c, c < fr.n → (s c).den w M (tm.getD c undef)) → (∀ x ∈ tgs, x.2.den w M x.1) → rs.Nodup → (∀ r ∈ rs, M r = some 0 ∧ fr.w0.heap.size ≤ r ∧ (∀ t, ¬ (1 ≤ t ∧ t ∉ fr.pass) → fr.M0 r ≠ some t) ∧ w.heap[r]? = some (.deferred (some []))) →
      LeavesInM Fence.wide 0 P fn tm R (rs.map uR) .returning w
  | [], w, M, wf, hb, hs, ht, _, _ => h w M wf hb hs ht
  | r :: rs, w, M, wf, hb, hs, ht, hnd, hr => by
    obtain ⟨a, b, c, d⟩ := hr r List.mem_cons_self
    have le := vQ (w := w) (M := M) (o := .deferred none) a
    refine ⟨by simp, .inl ⟨r, _, rfl, run_takeDeferred d, ?_⟩⟩
    refine sZ (pass := pass) fr hs0 ht0 h rs _ M ⟨fun b t h => by simpa using wf.lt b t h, wf.inj⟩ (Bn b c hb) (fun c hc => (s c).mono le (fun _ _ h => by cases h) (fun t ht h => hs0 c hc t ht (List.mem_singleton.1 h)) (hs c hc))
      (fun x hx => x.2.mono le (fun _ _ h => by cases h) (fun t htt h => (ht0 x hx).2 t htt (List.mem_singleton.1 h)) (fun h => (ht0 x hx).1 (List.mem_singleton.1 h)) (fun h => by cases h) (ht x hx)) (List.nodup_cons.1 hnd).2 (fun q hq => ?_)
    obtain ⟨a1, b1, c1, d1⟩ := hr q (List.mem_cons_of_mem _ hq)
    refine ⟨a1, b1, c1, ?_⟩
    rw [World.putObj_heap_other fun e => (List.nodup_cons.1 hnd).1 (by rw [← e]; exact hq)]; exact d1
def Et (n : Nat) (A : As) : Bool := ((List.range n).all fun c => (A.slots c).cdeps.all fun t => Nat.ble 1 t) && A.tags.all fun x => Nat.ble 1 x.1 && x.2.cdeps.all fun t => Nat.ble 1 t
theorem Hl {R : Ending → World → Prop} (hz : Et n A = true) (h : dh ⟨n, w0, M0, F, .plain⟩ A (bodyPost P fn R .ret)) : dh ⟨n, w0, M0, F, .marks⟩ A (bodyPostM Fence.wide 0 P fn R .ret) := by
 intro a w ⟨M, ok, hsl, htg⟩
 obtain ⟨rs, e, g1, g2, g3⟩ := ok.defers
 simp only [Et, Bool.and_eq_true, List.all_eq_true, List.mem_range, Nat.ble_eq] at hz
 show LeavesInM Fence.wide 0 P fn a.tmps R a.defers .returning w
 rw [e]
 refine sZ (pass := []) (s := A.slots) (tgs := A.tags) ⟨n, w0, M0, F, .marks⟩ (fun c hc t ht => by have := hz.1 c hc t ht; omega) (fun x hx => ⟨by have := (hz.2 x hx).1; omega, fun t ht => by have := (hz.2 x hx).2 t ht; omega⟩) (fun w2 M2 wf hb hs ht => ?_) rs w M ok.wf ok.base hsl htg g2 (fun r hr => ?_)
 ·exact (h { tmps := a.tmps, defers := [] } w2 ⟨M2, ⟨wf, hb, ok.size, Defs.nil⟩, hs, ht⟩).2
 obtain ⟨a1, b1, c1⟩ := g3 r hr
 exact ⟨a1, b1.1, b1.2, c1⟩
theorem rD {f : FuncId} {fn : Func} {c : Code} {F : List Nat} {pre post : List (Nat × Cont)} {args : List Ty} {res : Ty} {n : Nat} (hf : P.funcs[f]? = some fn) (hb : fn.body = some c) (hn : (fn.name == "runtime.NumGoroutine") = false) (hnt : fn.ntmps = n) (hl : args.length ≤ n)
    (h : ∀ w0 M0, fP P ⟨n, w0, M0, F, .marks⟩ c (tQ args pre) (bodyPostM Fence.wide 0 P fn (cU F post w0 M0 res))) : dn P f F pre args post res := by
  refine ⟨⟨fn, hf, hn, by rw [hb]; rfl⟩, fun w M vs wf hd hpre => callsIn_wide.1 (callsIn_of_wp_marks (n := 0) hf hb trivial (h w M _ _ ?_))⟩
  have hlen := cQ hd
  refine ⟨M, ⟨wf, Le.refl _ _ _ _, by simp [hnt, hlen]; omega, Defs.nil⟩, fun c hc => ?_, hpre⟩
  simp only [tQ]
  cases ha : args[c]? with
  | none => trivial
  | some ty =>
    obtain ⟨v, hv, hdv⟩ := dg hd c ty ha
    have : (vs.toArray ++ Array.replicate (fn.ntmps - vs.toArray.size) undef).getD c undef = v := by
      have hlt : c < vs.length := (List.getElem?_eq_some_iff.1 hv).1
      rw [Array.getD_eq_getD_getElem?, Array.getElem?_append_left (by simpa using hlt)]
      simp [hv]
    rw [this]; exact hdv
theorem FH {α : Type} [Inhabited α] {xs : List α} {f : α → List Ty} {k : Nat} {t : List Ty} (h : (xs.map f)[k]? = some t) : k < xs.length ∧ t = f (nth xs k) := by
 rw [List.getElem?_map] at h
 obtain ⟨x, hx, rfl⟩ := Option.map_eq_some_iff.1 h
 obtain ⟨hk, e⟩ := List.getElem?_eq_some_iff.1 hx
 exact ⟨hk, by rw [g9 hk, e]⟩
theorem FF {α : Type} [Inhabited α] {xs : List α} {f : α → List Ty} {k : Nat} {t : List Ty} (h : k < xs.length) (e : f (nth xs k) = t) : (xs.map f)[k]? = some t := by
 rw [List.getElem?_map, List.getElem?_eq_getElem h, ← g9 h, ← e]; rfl
end
section
variable {P : Program} {fr : Fr} {A : As} {Q : Exit → Act → World → Prop}
end
section
variable {P : Program} {fr : Fr} {ops : Array Oper} {A : As} {rest : List Oper} {K : As → List (As × Fx) → Prop} {d : Nat} {t ty' : TypeId} {p : String} {e : Array Edge} {x : Operand}
theorem Gw {tg : Nat} (hx : A.op fr x = .mp tg) (h : aa P fr ops rest (A.set d (.mp tg)) fun A' l' => K A' ((A, { d := some d, ty := .mp tg, rs := cF x }) :: l')) : aa P fr ops (⟨some d, .move x, t, p, e, none⟩ :: rest) A K := eK hx h
theorem OP {tg : Nat} (hx : A.op fr x = .mp tg) (h : aa P fr ops rest (A.set d (.mp tg)) fun A' l' => K A' ((A, { d := some d, ty := .mp tg, rs := cF x }) :: l')) : aa P fr ops (⟨some d, .assign x, t, p, e, none⟩ :: rest) A K := fX hx h
theorem MP {κ β : Type} [DecidableEq κ] {enc : κ → Value} {V : VT β} {kvs : List (κ × β)} (hx : A.op fr x = .pm enc V kvs) (h : aa P fr ops rest (A.set d (.pm enc V kvs)) fun A' l' => K A' ((A, { d := some d, ty := .pm enc V kvs, rs := cF x }) :: l')) : aa P fr ops (⟨some d, .move x, t, p, e, none⟩ :: rest) A K := eK hx h
theorem NJ {κ β : Type} [DecidableEq κ] {enc : κ → Value} {V : VT β} {kvs : List (κ × β)} (hx : A.op fr x = .pm enc V kvs) (h : aa P fr ops rest (A.set d (.pm enc V kvs)) fun A' l' => K A' ((A, { d := some d, ty := .pm enc V kvs, rs := cF x }) :: l')) : aa P fr ops (⟨some d, .assign x, t, p, e, none⟩ :: rest) A K := fX hx h
theorem Lb {κ β : Type} [DecidableEq κ] {ρ : List (Nat × Nat)} {a b : Nat} {enc : κ → Value} {V : VT β} {k1 k2 : List (κ × β)} (h : (a, b) ∈ ρ) (e : k1 = k2) : qu ρ a (.mp enc V k1) b (.mp enc V k2) := fun w M M' _ _ hre ⟨k, h1, es, clock, h2, h3, h4⟩ => by
 subst e
 refine ⟨k, hre.some _ h k h1, es, clock, h2, h3, iF hre.none ?_ ?_ h4⟩
 ·exact List.eq_nil_iff_forall_not_mem.2 fun u hu => by
   simp only [cG, List.mem_flatMap, List.mem_map] at hu
   obtain ⟨t, ⟨x, _, rfl⟩, hu⟩ := hu
   rw [(V.nodeps x.2).1] at hu; cases hu
 ·exact List.eq_nil_iff_forall_not_mem.2 fun u hu => by
   simp only [bt, List.mem_flatMap, List.mem_map] at hu
   obtain ⟨t, ⟨x, _, rfl⟩, hu⟩ := hu
   rw [(V.nodeps x.2).2] at hu; cases hu
end
section
variable {P : Program} {A : As} {fn : Func} {n : Nat} {w0 : World} {M0 : bB} [T : lC P]
theorem Ck {α : Type} {E : El α} {xs ys : List α} {tm ty tg Tb : Nat} {ti : TI} (e : xs = ys) (hr : fn.results = #[.cell tm ty]) (ht : Nat.blt tm n = true) (hx : A.slots tm = .ptr tg 0) (hc : A.tag tg = some (.vec E Tb xs)) (h1 : fm tg) (hT : T.tab[ty]? = some ti) (ha : ti.k.agg = true) (hsz : xs.length * E.size = ti.size) (hne : xs ≠ []) : dh ⟨n, w0, M0, [], .plain⟩ A (bodyPost P fn (mX w0 M0 (.arr E ys)) .ret) := by
 subst e; exact IK hr ht hx hc h1 hT ha hsz hne
end
end Go.T
namespace Go.T
open Go Go.RowKit
section
variable {P : Program} {fr : Fr} {ops : Array Oper} {A : As} {rest : List Oper} {K : As → List (As × Fx) → Prop} {d : Nat} {t ty' : TypeId} {p : String} {e : Array Edge} [T : lC P]
variable {α β : Type} {E : El α} {E' : El β} {x y : Operand} {tg off Tb : Nat} {ti te tf : TI} {ty : Ty} {o z : α}
theorem xq {l : List Ty} {off n : Nat} {w : World} {M : bB} {b q : Nat} (h : ∀ (i : Nat) (t : Ty), l[i]? = some t → ∃ v, w.cell? ⟨b, q + i, none⟩ = some v ∧ t.den w M v) {m : List Ty} (hm : (l.drop off).take n = m) (hn : m.length = n) :
 ∃ cs : List Value, cs.length = n ∧ cK w M m cs ∧ ∀ j v, cs[j]? = some v → w.cell? ⟨b, q + off + j, none⟩ = some v := by
 have hget : ∀ (i : Nat) (t : Ty), (l.drop off)[i]? = some t → ∃ u, w.cell? ⟨b, q + off + i, none⟩ = some u ∧ t.den w M u := fun i t hi => by
  rw [List.getElem?_drop] at hi
  obtain ⟨v, hv, hd⟩ := h _ _ hi
  exact ⟨v, by rw [Nat.add_assoc]; exact hv, hd⟩
 have hle : n ≤ (l.drop off).length := by
  have := congrArg List.length hm
  rw [List.length_take, hn] at this; omega
 obtain ⟨cs, h1, h2, h3⟩ := B6 hget n hle
 exact ⟨cs, h1, hm ▸ h2, h3⟩
end
theorem dy.mono {P : Program} {f : FuncId} {args : List Ty} {r r' : Ty} (h : dy P f args r) (hs : r.Sub r') : dy P f args r' :=
 ⟨h.1, fun w M vs wf hM hd => (h.2 w M vs wf hM hd).mono fun _ _ ⟨v, M', e, a, b, c⟩ => ⟨v, M', e, a, b, hs _ _ _ c⟩⟩
section
variable {P : Program} {fr : Fr} {A : As} {Q : Exit → Act → World → Prop} {x y : Code}
theorem p6 {c : Operand} {b : Bool} (hc : A.op fr c = .bool b) (hb : b = true) (h1 : fP P fr x A Q) : fP P fr (.cond c x y) A Q := cx hc (fun _ => h1) (fun h => by rw [hb] at h; cases h)
theorem iP {c : Operand} {b : Bool} (hc : A.op fr c = .bool b) (hb : b = false) (h1 : fP P fr y A Q) : fP P fr (.cond c x y) A Q := cx hc (fun h => by rw [hb] at h; cases h) (fun _ => h1)
end
end Go.T
namespace Go.T
open Go Go.RowKit
def Ty.nd (t : Ty) (h1 : t.deps = []) (h2 : t.cdeps = []) : Ty := ⟨t.den, [], [], fun le _ _ h => t.mono le (by rw [h1]; intro _ h; cases h) (by rw [h2]; intro _ h; cases h) h, t.one, t.isOne⟩
theorem Dn {P : Program} {t : Ty} {args : List Ty} {res : Ty} (h1 : t.deps = []) (h2 : t.cdeps = []) (h : oU P t args res) : oU P (t.nd h1 h2) args res := h
section
variable {P : Program} {fr : Fr} {ops : Array Oper} {A : As} {rest : List Oper} {K : As → List (As × Fx) → Prop} {d : Nat} {t ty' : TypeId} {p : String} {e : Array Edge}
variable {α β : Type} {E : El α} {E' : El β} {x y : Operand} {tg off Tb : Nat} {ti te tf : TI} {ty : Ty} {o z : α} {xs : List α}
def qh (E : El α) (xs : List α) (off : Nat) (w : World) (M : bB) (v : Value) : Prop := ∃ b q, v = .pointer (some ⟨b, q + off, none⟩) ∧ nI w M b q (xs.flatMap E.tys)
def Ty.pa (E : El α) (xs : List α) (off : Nat) : Ty :=
  ⟨qh E xs off, [], [], fun le _ _ ⟨b, q, e, h⟩ => ⟨b, q, e, nV le (by rw [E.dI]; intro _ h; cases h) (by rw [E.cv]; intro _ h; cases h) h⟩, true, fun _ ⟨_, _, e, _⟩ => e ▸ rfl⟩
theorem uM (hx : A.op fr x = .arr E xs) (h : aa P fr ops rest (A.set d (.pa E xs 0)) fun A' l' => K A' ((A, { d := some d, ty := .pa E xs 0, rs := cF x }) :: l')) : aa P fr ops (⟨some d, .box ty' x, t, p, e, none⟩ :: rest) A K := by
 refine ⟨_, ff (f := { d := some d, ty := .pa E xs 0, rs := cF x }) rfl rfl (by simp) (by simp) (by simp) fun a w M wf hr _ => ?_, h⟩
 have hd := cP (x := x) (fun _ h => h) hr
 rw [hx] at hd
 obtain ⟨cs, ex, hds⟩ := hd
 obtain ⟨h1, h2, _⟩ := tN wf (.cells cs ty')
 refine ⟨.pointer (some ⟨w.heap.size, 0, none⟩), w.alloc (.cells cs ty'), ?_, M, h1, h2, ⟨_, 0, rfl, ?_⟩, by simp⟩
 ·simp [execOp, Instr.box, newVar, newRow, newObj, Sem.run, ex, Value.cells]
 exact vP (T := ty') wf hds
variable [T : lC P]
theorem Gd [Inhabited α] {i : Nat} (hx : A.op fr x = .pa E xs off) (hT : T.tab[ty']? = some ti) (ha : ti.k.agg = false) (he : off = i * E.size) (hi : i < xs.length) (hl : (E.tys (nth xs i))[0]? = some ty)
 (h : aa P fr ops rest (A.set d ty) fun A' l => K A' ((A, { d := some d, ty := ty, rs := cF x }) :: l)) : aa P fr ops (⟨some d, .load ty' x, t, p, e, none⟩ :: rest) A K :=
 bN (bV (rt := []) rfl rfl fun a w M _ hr _ => by
  have := cP (x := x) (fun _ h => h) hr
  rw [hx] at this
  obtain ⟨b, q, e, hp⟩ := this
  obtain ⟨v, hv, hd⟩ := hp.2.2 off ty (by rw [he]; exact lT E xs hi 0 ty hl)
  exact ⟨v, by simp [execOp, e, lV hT ha hv], hd⟩) h
theorem vw (hx : A.op fr x = .pa E xs 0) (hT : T.tab[ty']? = some ti) (ha : ti.k.agg = true) (hn : xs.length * E.size = ti.size)
 (h : aa P fr ops rest (A.set d (.arr E xs)) fun A' l => K A' ((A, { d := some d, ty := .arr E xs, rs := cF x }) :: l)) : aa P fr ops (⟨some d, .load ty' x, t, p, e, none⟩ :: rest) A K :=
 bN (bV (rt := []) rfl rfl fun a w M _ hr _ => by
  have := cP (x := x) (fun _ h => h) hr
  rw [hx] at this
  obtain ⟨b, q, e, hp⟩ := this
  obtain ⟨cs, g1, g2, g3⟩ := xq (off := 0) (n := ti.size) hp.2.2 (m := xs.flatMap E.tys) (by rw [List.drop_zero, List.take_of_length_le (by rw [dA]; omega)]) (by rw [dA]; exact hn)
  exact ⟨.agg cs.toArray, by simp only [execOp, e]; rw [Sem.run_bind, fy (off := q + 0) hT ha g1 g3]; rfl, cs.toArray, rfl, by simpa using g2⟩) h
theorem EC {n : Nat} {k : IntKind} {i : Nat} {el : Nat} (hx : A.op fr x = .pa E xs off) (hy : A.op fr y = .int k i) (hT : T.tab[ty']? = some ti) (hk : ti.k = .array n el) (hE : T.tab[el]? = some te) (h1 : i < n)
 (h : aa P fr ops rest (A.set d (.pa E xs (off + i * te.size))) fun A' l' => K A' ((A, { d := some d, ty := .pa E xs (off + i * te.size), rs := cF x ++ cF y }) :: l')) : aa P fr ops (⟨some d, .indexAddr ty' x y, t, p, e, none⟩ :: rest) A K :=
 bN (bV (rt := []) rfl rfl fun a w M _ hr _ => by
  obtain ⟨hdx, hdy⟩ := op2 hr
  rw [hx] at hdx; rw [hy] at hdy
  obtain ⟨b, q, ex, hp⟩ := hdx
  have ey : a.eval y = .int k i := hdy
  refine ⟨_, by simp only [execOp, ex, ey, Sem.run_bind, oR hT hk hE (Int.natCast_nonneg i) (show (i : Int).toNat < n from h1)]; rfl, b, q, by simp [Nat.add_assoc], hp⟩) h
end
theorem gF {α : Type} {E : El α} {xs : List α} (e : xs = []) : iM (Ty.ex (.slice none 0 0)) (Ty.sl E xs) := e ▸ AY
def Kl : List Ty → List Ty → Prop
  | [], [] => True
  | s :: ss, t :: ts => s.Sub t ∧ Kl ss ts
  | _, _ => False
theorem uD {w : World} {M : bB} : ∀ {ss ts : List Ty} {vs : List Value}, Kl ss ts → cK w M ss vs → cK w M ts vs
  | [], [], [], _, _ => trivial
  | _ :: _, _ :: _, _ :: _, ⟨h, h'⟩, ⟨h1, h2⟩ => ⟨h _ _ _ h1, uD h' h2⟩
theorem dy.args {P : Program} {f : FuncId} {a a' : List Ty} {r : Ty} (h : dy P f a r) (hs : Kl a' a) : dy P f a' r :=
 ⟨h.1, fun w M vs wf hM hd => h.2 w M vs wf hM (uD hs hd)⟩
section
variable {P : Program} {A : As} {fn : Func} {n m : Nat} {w0 : World} {M0 : bB} {J : Nat → World → bB → Prop} {Jx : World → bB → Prop} {resD resS : Ty}
end
end Go.T
namespace Go.T
open Go Go.RowKit
section
variable {P : Program} {fr : Fr} {ops : Array Oper} {A : As} {rest : List Oper} {K : As → List (As × Fx) → Prop} {d : Nat} {t ty' ty2 : TypeId} {p : String} {e : Array Edge} {x y : Operand}
theorem w6 {o : Oper} {f : Fx} {s : Nat} {g h : Bool} {ty : Ty} (hs : A.slots s = .gd (g && h) ty) (hg : g = true) (hx : vk P fr ops o (A.set s (.gd h ty)) f) : vk P fr ops o A f := by
  obtain ⟨h1, h2, h3, h4, h5⟩ := hx
  refine ⟨h1, h2, h3, h4, fun a w M wf hsz hr ht => h5 a w M wf hsz (fun c hc hcn => ?_) ht⟩
  have := hr c hc hcn
  simp only [As.set]
  cases hb : Nat.beq c s with
  | false => exact this
  | true =>
    have e : c = s := Nat.eq_of_beq_eq_true hb
    subst e
    rw [hs, hg, Bool.true_and] at this
    exact this
theorem B5 {ty' : TypeId} (hu : P.underlying ty' = some .bool) (b1 b2 : Bool) (w : World) : (Op.equal ty' (.bool b1) (.bool b2)).run P w = .ok (b1 == b2) w := by
 unfold Op.equal Op.maxDepth
 rw [Op.equalIn]
 simp only [Sem.run_bind, run_underlying hu, Result.andThen_ok]
 rfl
theorem EX {b1 b2 : Bool} (hu : P.underlying ty' = some .bool) (hx : A.op fr x = .bool b1) (hy : A.op fr y = .bool b2)
 (h : aa P fr ops rest (A.set d (.bool (!(b1 == b2)))) fun A' l' => K A' ((A, { d := some d, ty := .bool (!(b1 == b2)), rs := cF x ++ cF y }) :: l')) : aa P fr ops (⟨some d, .binOp .neq ty' x y ty2, t, p, e, none⟩ :: rest) A K :=
 bN (bV rfl rfl fun a w M _ hrd _ => by
  obtain ⟨hdx, hdy⟩ := op2 hrd
  rw [hx] at hdx; rw [hy] at hdy
  have ex : a.eval x = .bool b1 := hdx
  have ey : a.eval y = .bool b2 := hdy
  exact ⟨.bool (!(b1 == b2)), by simp only [execOp, ex, ey]; simp [eqGuard, binOp, go_sem, bne, B5 hu], rfl⟩) h
section
variable {b : Frame} {a : Act} {k : List Item} {cs : List Frame} {w : World}
theorem jR {c : Code} : step P (lone (b.atR a (.code (.scope c) :: k)) cs w) = .next (lone (b.atR a (.code c :: .inScope c :: k)) cs w) :=
 step_lone_go (by simp [stepG, stepG.exec, Frame.atR])
theorem x9 {c : Code} : step P (lone (b.atR a (.inScope c :: k)) cs w) = .next (lone (b.atR a k) cs w) :=
 step_lone_go (by simp [stepG, stepG.exec, Frame.atR])
end
theorem DV {F : Fence} {n : Nat} {c : Code} {Q : Exit → Act → World → Prop} {a : Act} {w : World} (h : c.wpIn F n P (Exit.noGoto Q) a w) : (Code.scope c).wpIn F n P Q a w := by
  intro b k cs hro hb hr
  have h0 : (lone (b.atR a (.code (.scope c) :: k)) cs w).fenced P F := fenced_calm hb hr rfl
  obtain ⟨e, a₁, w₁, hq, harr⟩ := h b (.inScope c :: k) cs hro hb hr
  cases e with
  | normal => exact ⟨.normal, a₁, w₁, hq, .head h0 jR (StepsIn.trans harr (.one (fenced_calm hb hr rfl) x9))⟩
  | exit id =>
    have hx : exitTo id (.inScope c :: k) = exitTo id k := by simp [exitTo]
    exact ⟨.exit id, a₁, w₁, hq, fun k' hk => .head h0 jR (harr.1 k' (by rw [hx]; exact hk)),
      fun hr' hk => let ⟨k₁, h1, h2⟩ := harr.2 hr' (by rw [hx]; exact hk); ⟨k₁, h1, .head h0 jR h2⟩⟩
  | goto l => exact hq.elim
  | ret => exact ⟨_, a₁, w₁, hq, .of_steps (.one h0 jR) harr⟩
  | panic ch => exact ⟨_, a₁, w₁, hq, .of_steps (.one h0 jR) harr⟩
  | outgrown => exact ⟨_, a₁, w₁, hq, .of_steps (.one h0 jR) harr⟩
section
variable {Q : Exit → Act → World → Prop} {c : Code} {i : Nat}
theorem KY (h : fP P fr c A (Exit.noGoto Q)) : fP P fr (.scope c) A Q := fun a w ha => DV (h a w ha)
theorem Jw (h : dh fr A (Q .normal)) : fP P fr (.label i) A Q := fun a w ha => wpIn_label (h a w ha)
theorem ug (h : dh fr A (Q .ret)) : dh fr A (Exit.noGoto Q .ret) := h
end
def O3 (p : Prop) (_ : World) (_ : bB) (v : Value) : Prop := ∃ c : Bool, v = .bool c ∧ (c = true → p)
def Ty.nb (p : Prop) : Ty := { den := O3 p, mono := fun _ _ _ h => h, one := true, isOne := fun _ ⟨_, e, _⟩ => e ▸ rfl }
theorem pq {Q : Exit → Act → World → Prop} {c : Operand} {q : Prop} {x y : Code} (hc : A.op fr c = .nb q) (h1 : q → fP P fr x A Q) (h2 : True → fP P fr y A Q) : fP P fr (.cond c x y) A Q := fun a w ha => by
  have hv : ∃ b : Bool, a.eval c = .bool b ∧ (b = true → q) := by
    obtain ⟨M, _, hs, _⟩ := ha
    have := cP (x := c) (rs := cF c) (fun _ h => h) (fun c _ hn => hs c hn)
    rw [hc] at this; exact this
  obtain ⟨b, hv, hq⟩ := hv
  cases b with
  | true => exact wpIn_cond_true hv (h1 (hq rfl) a w ha)
  | false => exact wpIn_cond_false hv (h2 trivial a w ha)
theorem qx {ty' : TypeId} {el : TypeId} (hu : P.underlying ty' = some (.slice el)) (A : Option Addr) (n c : Nat) (w : World) : (Op.equal ty' (.slice A n c) (.slice none 0 0)).run P w = .ok A.isNone w := by
 unfold Op.equal Op.maxDepth
 rw [Op.equalIn]
 simp only [Sem.run_bind, run_underlying hu, Result.andThen_ok]
 cases A <;> rfl
theorem vY {α : Type} {E : El α} {xs : List α} {el : TypeId} (hu : P.underlying ty' = some (.slice el)) (hx : A.op fr x = .sl E xs)
    (h : aa P fr ops rest (A.set d (.nb (xs = []))) fun A' l' => K A' ((A, { d := some d, ty := .nb (xs = []), rs := cF x }) :: l')) : aa P fr ops (⟨some d, .binOp .eql ty' x (.const (.slice none 0 0)) ty2, t, p, e, none⟩ :: rest) A K :=
  bN (bV (rt := []) rfl rfl fun a w M _ hr _ => by
    have := cP (x := x) (fun _ h => h) hr
    rw [hx] at this
    obtain ⟨ad, c, ex, _, _, hp⟩ := this
    have ey : a.eval (.const (.slice none 0 0)) = .slice none 0 0 := rfl
    refine ⟨.bool ad.isNone, by simp only [execOp, ex, ey]; simp [eqGuard, binOp, go_sem, qx hu], ad.isNone, rfl, fun hn => ?_⟩
    cases xs with
    | nil => rfl
    | cons y l =>
      obtain ⟨b, off, e, _⟩ := hp (by simp)
      rw [e] at hn; cases hn) h
theorem yU {α : Type} (E : El α) : ∀ (xs : List α) (n : Nat), (xs.flatMap E.tys).take (n * E.size) = (xs.take n).flatMap E.tys
  | [], n => by simp
  | x :: xs, 0 => by simp
  | x :: xs, n + 1 => by
    rw [List.flatMap_cons, List.take_succ_cons, List.flatMap_cons, ← yU E xs n, List.take_append, E.len, Nat.succ_mul, List.take_of_length_le (by rw [E.len]; omega)]
    congr 2; omega
theorem Cg [T : lC P] {α : Type} {E : El α} {xs : List α} {len el : Nat} {parts : Array (Nat × Operand)} {ti te : TI} {ls : List (Nat × List Ty)} (hT : T.tab[ty']? = some ti) (hk : ti.k = .slice el) (hE : T.tab[el]? = some te) (hs : te.size = E.size) (hz : te.zero.length = te.size) (h0 : 0 < te.size) (hle : len * te.size ≤ 16777216) (hp : aX A fr parts.toList ls)
 (hf : uo (fun i => some (i * te.size, te.size)) ((List.range (len * te.size)).map fun j => Ty.jx (te.zero.getD (j % te.size) undef)) ls = some (xs.flatMap E.tys)) (hx : xs.length = len) (hpa : fr.pass.contains (d + 1) = false)
 (h : aa P fr ops rest (A.after { d := some d, ty := .row E el (d + 1) xs, K := [d + 1], rs := parts.toList.flatMap fun x => cF x.2 }) fun A' l' => K A' ((A, { d := some d, ty := .row E el (d + 1) xs, K := [d + 1], rs := parts.toList.flatMap fun x => cF x.2 }) :: l')) : aa P fr ops (⟨some d, .buildSlice ty' len parts, t, p, e, none⟩ :: rest) A K := by
 refine ⟨_, ff (f := { d := some d, ty := .row E el (d + 1) xs, K := [d + 1], rs := parts.toList.flatMap fun x => cF x.2 }) rfl rfl (by simp) (by simp) (by simp at hpa ⊢; exact hpa) fun a w M wf hr _ => ?_, h⟩
 obtain ⟨z, hz1, hz2⟩ := pY hE (by intro hn; rw [hn] at hz; simp at hz; omega) w
 obtain ⟨_, D, _, hD, hkd, _⟩ := dK hT
 rw [hk] at hkd
 cases D <;> simp only [TK.of, reduceCtorEq, TK.slice.injEq] at hkd
 rename_i el0
 have hel : el0 = el := hkd
 subst hel
 have hzs : z.cells.size = te.size := by rw [← hz, ← hz2]; simp
 let zs : Array Value := if len * te.size = 0 then #[] else z.cells
 have hcells : cK w M ((List.range (len * te.size)).map fun j => Ty.jx (te.zero.getD (j % te.size) undef)) ((Array.range (len * te.size)).map (zs[· % zs.size]!)).toList := by
  refine gi (by simp) fun i u hi => ?_
  rw [List.getElem?_map] at hi
  simp only [Option.map_eq_some_iff] at hi
  obtain ⟨j, hj, rfl⟩ := hi
  have hlt : i < len * te.size := by have := (List.getElem?_eq_some_iff.1 hj).1; simpa using this
  rw [List.getElem?_range hlt] at hj
  injection hj with hj
  subst hj
  have hne : ¬ len * te.size = 0 := by omega
  refine ⟨te.zero.getD (i % te.size) undef, ?_, lS _ _ _⟩
  have hm : i % te.size < z.cells.size := by rw [hzs]; exact Nat.mod_lt _ h0
  have e1 : zs[i % zs.size]! = te.zero.getD (i % te.size) undef := by
   simp only [zs, if_neg hne, hzs]
   rw [getElem!_pos z.cells _ hm, ← hz2, List.getD_eq_getElem?_getD, List.getElem?_eq_getElem (by simpa using hm)]
   simp
  simp [List.getElem?_range hlt, e1]
 obtain ⟨cs', h1, h2⟩ := tV hr hp (place := fun i => some (i * te.size, te.size)) (cs := (Array.range (len * te.size)).map (zs[· % zs.size]!)) (fun x hx c hc => List.mem_flatMap.2 ⟨x, hx, hc⟩) hcells hf
 have hparts : (parts.map fun x => (x.1, a.eval x.2)).toList = parts.toList.map fun x => (x.1, a.eval x.2) := by simp
 obtain ⟨h3, h4, h5⟩ := jj wf (.cells cs' el0) (d + 1)
 have hcl : cs'.toList.length = len * te.size := by rw [cQ h2, dA, hx, hs]
 have hmx : len ≤ maxLen := by
  have : len ≤ len * te.size := Nat.le_mul_of_pos_right _ h0
  simp only [maxLen]; omega
 refine ⟨.slice (some ⟨w.heap.size, 0, none⟩) len len, w.alloc (.cells cs' el0), ?_, _, h3, h4, ⟨cs'.toList, ⟨by rw [hcl, hx, hs], .inr ⟨w.heap.size, len, cs', by rw [hx], Nat.zero_le _, fO _ _, by rw [hx]; exact Nat.le_refl _, hmx, by rw [← hs]; simpa using hcl, by rw [List.take_of_length_le (by rw [hcl, hx, hs]; exact Nat.le_refl _)]⟩⟩, ?_, fun g hg => ?_⟩, by simp⟩
 ·have hbig : ¬ (len * te.size > 2 ^ 24) := by omega
  have hbig' : ¬ (2 ^ 24 < len * te.size) := by omega
  simp only [execOp, Instr.buildSlice, Sem.run_bind, run_underlying hD, Result.andThen_ok, dD hE]
  simp only [hbig', gt_iff_lt, if_false]
  by_cases hn : len * te.size = 0
  ·have : zs = #[] := if_pos hn
   rw [this] at h1
   simp only [hn, if_true, Sem.run_pure, Sem.run_bind, Result.andThen_ok]
   rw [hn] at h1
   simp only [hparts, h1]
   simp [newRow, newObj, Sem.run]
  have : zs = z.cells := if_neg hn
  rw [this] at h1
  simp only [if_neg hn, Sem.run_pure, Sem.run_bind, Result.andThen_ok, hz1]
  simp only [hparts, h1]
  simp [newRow, newObj, Sem.run]
 ·refine cB h4 (fun u hu => ?_) (fun u hu => ?_) h2
  ·rw [E.dI] at hu; cases hu
  rw [E.cv] at hu; cases hu
 simp [Value.ownBlock] at hg
 subst hg; exact h5
end
end Go.T
namespace Go.T
open Go Go.RowKit
section
variable {A : As} {α : Type} {E : El α} {tg Tb : Nat} {xs : List α}
end
section
variable {P : Program} {fr : Fr} {ops : Array Oper} {A : As} {rest : List Oper} {K : As → List (As × Fx) → Prop} {d : Nat} {t ty' ty2 : TypeId} {p : String} {e : Array Edge} [T : lC P]
variable {α : Type} {E : El α} {xs : List α} {x y : Operand} {tg Tb : Nat} {ti : TI}
end
end Go.T
namespace Go.T
open Go Go.RowKit
section
variable {P : Program} {fr : Fr} {ops : Array Oper} {A : As} {rest : List Oper} {K : As → List (As × Fx) → Prop} {d : Nat} {t ty' ty2 : TypeId} {p : String} {e : Array Edge} [T : lC P]
variable {x y : Operand} {ti ts : TI}
theorem Dg {src : TypeId} {k k0 : IntKind} {n : Int} (hx : A.op fr x = .int k0 n) (hS : T.tab[src]? = some ts) (hT : T.tab[ty']? = some ti) (hk : ti.k = .int k)
 (h : aa P fr ops rest (A.set d (.int k (k.wrap n))) fun A' l' => K A' ((A, { d := some d, ty := .int k (k.wrap n), rs := cF x }) :: l')) : aa P fr ops (⟨some d, .convert src ty' x, t, p, e, none⟩ :: rest) A K :=
 bN (bV (rt := []) rfl rfl fun a w M _ hr _ => by
  have := cP (x := x) (fun _ h => h) hr
  rw [hx] at this
  have ex : a.eval x = .int k0 n := this
  obtain ⟨_, S, _, hS', _, _⟩ := dK hS
  obtain ⟨_, D, _, hD, hkd, _⟩ := dK hT
  rw [hk] at hkd
  cases D <;> simp only [TK.of, reduceCtorEq, TK.int.injEq] at hkd
  subst hkd
  refine ⟨.int _ (IntKind.wrap _ n), ?_, rfl⟩
  simp only [execOp, ex, convert, Sem.run_bind, run_underlying hS', run_underlying hD, Result.andThen_ok]
  cases S <;> rfl) h
end
end Go.T
namespace Go.T
open Go
section
variable {P : Program} {fr : Fr} {A : As} {c : Code} {Q : Exit → Act → World → Prop}
def uc (A : As) (tg : Nat) (t0 t : Ty) : Prop := ∀ w M v, Wf w M → (∀ x ∈ A.tags, x.2.den w M x.1) → t0.den w M v → t.den w (eS M tg) v
def yZ (A : As) (tg : Nat) : List Ty → List Ty → Prop
  | [], [] => True
  | a :: l, b :: l' => uc A tg a b ∧ yZ A tg l l'
  | _, _ => False
def Ma (A : As) (tg : Nat) (x : Nat × Cont) : Prop := ∀ w M, Wf w M → (∀ x ∈ A.tags, x.2.den w M x.1) → x.2.den w (eS M tg) x.1
def Mr (A : As) (tg : Nat) : List (Nat × Cont) → Prop
  | [] => True
  | x :: l => Ma A tg x ∧ Mr A tg l
theorem bP {tg : Nat} {t : Ty} (h : kr t.deps [tg] = true) : uc A tg t t := fun w M _ _ _ hd =>
 t.mono (jS (w := w)) (fu h) (fun _ _ h => by cases h) hd
theorem m9 {α : Type} {E : El α} {T tg : Nat} {xs : List α} : uc A tg (.row E T tg xs) (.sl E xs) := fun w M v wf _ hd =>
 wI wf hd (fun b hb => by simp [eS, hb]) (fun b hb => by simp [eS, hb])
theorem gu {α : Type} {E : El α} {T tg n : Nat} {xs : List α} (hc : A.tag tg = some (.vec E T xs)) (hn : xs.length = n) (h1 : fm tg) : uc A tg (.vs tg n) (.sl E xs) := fun w M v wf ht hd => by
 have hv : ga E T xs w M tg := ht _ (cw hc)
 subst hn
 rcases hd with ⟨h0, rfl⟩ | ⟨b, cc, hb, e, hn1, hn2⟩
 ·exact ⟨none, 0, by rw [h0], by omega, by simp [maxLen], fun h => absurd h (by omega)⟩
 refine ⟨_, cc, e, hn1, hn2, fun _ => ⟨b, 0, rfl, by simp [eS, hb], wf.lt b _ hb, fun i t hi => ?_⟩⟩
 obtain ⟨u, hu, hdu⟩ := pN wf h1 hb hv hi
 refine ⟨u, by rw [Nat.zero_add]; exact hu, t.mono (jS (w := w)) ?_ ?_ hdu⟩
 ·intro u hu
  have : u ∈ cG (xs.flatMap E.tys) := List.mem_flatMap.2 ⟨t, List.mem_of_getElem? hi, hu⟩
  rw [E.dI] at this; cases this
 intro u _ h; cases h
theorem wz {tg : Nat} {w : World} {M : bB} (wf : Wf w M) (ht : ∀ x ∈ A.tags, x.2.den w M x.1) : ∀ {l l' : List Ty} {vs : List Value}, yZ A tg l l' → cK w M l vs → cK w (eS M tg) l' vs
  | [], [], [], _, _ => trivial
  | _ :: _, _ :: _, _ :: _, ⟨h1, h2⟩, ⟨h3, h4⟩ => ⟨h1 _ _ _ wf ht h3, wz wf ht h2 h4⟩
theorem eP {tg o T : Nat} {l l' : List Ty} (ho : A.tag o = some (.cells T l)) (hne : Nat.beq o tg = false) (h : yZ A tg l l') : Ma A tg (o, .cells T l') := fun w M wf ht => by
 obtain ⟨b, cs, hb, hh, hd⟩ := ht _ (cw ho)
 refine ⟨b, cs, ?_, hh, wz wf ht h hd⟩
 unfold eS
 rw [if_neg]
 ·exact hb
 rw [hb]; intro e; injection e with e; subst e; simp at hne
theorem Cy {tg : Nat} {w : World} {M : bB} (wf : Wf w M) (ht : ∀ x ∈ A.tags, x.2.den w M x.1) : ∀ {lt : List (Nat × Cont)}, Mr A tg lt → ∀ {x : Nat × Cont}, x ∈ lt → x.2.den w (eS M tg) x.1
  | y :: _, ⟨h1, h2⟩, x, hx => by
    rcases List.mem_cons.1 hx with rfl | hx
    · exact h1 w M wf ht
    · exact Cy wf ht h2 hx
theorem iX {tg : Nat} (l : List (Nat × Ty)) (lt : List (Nat × Cont)) (h1 : 1 ≤ tg) (hp : fr.pass.contains tg = false) (hl : Di A tg l) (hlt : Mr A tg lt) (h : fP P fr c ⟨(A.qB tg l).slots, lt ++ (A.qB tg l).tags⟩ Q) : fP P fr c A Q := fun a w ⟨M, ok, hsl, ht⟩ => by
  have le : Le (· ∈ ([] : List Nat)) (· ∈ [tg]) w M w (eS M tg) := jS
  refine h a w ⟨eS M tg, ⟨zL ok.wf, Fr.jP ok.base (by intro _ h; cases h) (fun t ht => by simp only [List.mem_singleton] at ht; subst ht; exact ⟨h1, by simpa using hp⟩) le, ok.size, ok.defers.step (by intro _ h; cases h) (fun t ht => by simp only [List.mem_singleton] at ht; subst ht; exact h1) le⟩, fun i hi => ?_, fun x hx => ?_⟩
  · have base : (gN [] [tg] A.slots i).den w (eS M tg) (a.tmps.getD i undef) := by
      rcases fZ [] [tg] A.slots i with ⟨e, hdj⟩ | ⟨_, e⟩
      · rw [e]; exact (A.slots i).mono le (fN hdj).1 (fN hdj).2 (hsl i hi)
      · rw [e]; trivial
    show (oz l (gN [] [tg] A.slots) i).den _ _ _
    clear h
    induction l with
    | nil => exact base
    | cons x l ih =>
      obtain ⟨d, t⟩ := x
      unfold oz
      cases hb : Nat.beq i d with
      | false => simp only [cond_false]; exact ih hl.2
      | true =>
        have : i = d := Nat.eq_of_beq_eq_true hb
        subst this
        simp only [cond_true]
        exact hl.1 w M _ ok.wf ht (hsl i hi)
  · rcases List.mem_append.1 (show x ∈ lt ++ (A.qB tg l).tags from hx) with hx | hx
    · exact Cy ok.wf ht hlt hx
    · exact iR le hx fun y hy _ => ht y hy
end
section
open Go.RowKit
variable {P : Program} {A : As} {fn : Func} {n : Nat} {w0 : World} {M0 : bB} {F : List Nat} {post : List (Nat × Cont)} [T : lC P]
theorem vl (L : List Nat) {tm ty tg Tb : Nat} {l : List Ty} {ti : TI} {res : Ty} (hr : fn.results = #[.cell tm ty]) (ht : Nat.blt tm n = true) (hx : A.slots tm = .ptr tg 0) (hc : A.tag tg = some (.cells Tb l)) (h1 : fm tg) (hT : T.tab[ty]? = some ti) (ha : ti.k.agg = true) (hl : l.length = ti.size)
 (hL : ∀ t ∈ F, t ∈ L) (hp : oQ A L post) (hs : sJ L (.agg l) res) :
 dh ⟨n, w0, M0, F, .plain⟩ A (bodyPost P fn (cU F post w0 M0 res) .ret) := by
 intro a w ⟨M, ok, hsl, htg⟩
 have hd := hsl tm (by simpa using ht)
 rw [hx] at hd
 obtain ⟨b, hb, e⟩ := hd
 obtain ⟨b', cs, hb', hh, hds⟩ := htg _ (cw hc)
 obtain ⟨u, rfl⟩ : ∃ u, tg = u + 1 := ⟨tg - 1, by omega⟩
 have := ok.wf.inj b b' u (by omega) hb hb'
 subst this
 have hlen := cQ hds
 have hload := fy (P := P) hT ha (w := w) (b := b) (off := 0) (cs := cs.toList) (by rw [hlen, hl]) (fun j v hj => by simpa [World.cell?, hh] using hj)
 have hload' : (loadVar ty ⟨b, 0, none⟩).run P w = .ok (.agg cs) w := by simpa [Instr.loadAt, Instr.sureAddr] using hload
 refine ⟨ok.gC (by simp), .agg cs, ?_, _, oL L M, rfl, mY ok.wf, lQ hL ok.base, hs _ _ _ ok.wf ⟨cs, rfl, hds⟩, q5 ok.wf htg hp⟩
 have e' : a.tmps.getD tm undef = .pointer (some ⟨b, 0, none⟩) := e
 have e'' : a.tmps[tm]?.getD undef = .pointer (some ⟨b, 0, none⟩) := by rw [← Array.getD_eq_getD_getElem?]; exact e'
 simp [results, hr, e'', asAddr, hload']
end
end Go.T
namespace Go.T
open Go Go.RowKit
theorem lq {w : World} {g : Nat} {old : Array Value} {t : TypeId} (cs : Array Value) (hg : w.heap[g]? = some (.cells old t (0, 0))) : w.setRow g cs = { w with heap := w.heap.setIfInBounds g (.cells cs t (0, 0)) } := by
 unfold World.setRow
 congr 1
 obtain ⟨hlt, hv⟩ := Array.getElem?_eq_some_iff.1 hg
 apply Array.ext_getElem?
 intro i
 by_cases e : g = i
 ·subst e
  rw [Array.getElem?_modify, if_pos rfl, hg, Array.getElem?_setIfInBounds_self_of_lt hlt]; rfl
 rw [Array.getElem?_modify, if_neg e, Array.getElem?_setIfInBounds_ne e]
theorem y9 {α : Type} (E : El α) : ∀ (xs : List α) (n : Nat), (xs.flatMap E.tys).drop (n * E.size) = (xs.drop n).flatMap E.tys
  | [], n => by simp
  | x :: xs, 0 => by simp
  | x :: xs, n + 1 => by
    rw [List.flatMap_cons, List.drop_succ_cons, ← y9 E xs n, List.drop_append, E.len, Nat.succ_mul, List.drop_of_length_le (by rw [E.len]; omega), List.nil_append]
    congr 1; omega
theorem EY {α : Type} {E : El α} {xs ys : List α} {w : World} {M : bB} {cur vs : List Value} {i : Nat} (hd : cK w M (xs.flatMap E.tys) (cur.take (xs.flatMap E.tys).length)) (hv : cK w M (ys.flatMap E.tys) vs) (hi : i + ys.length ≤ xs.length) :
 cK w M ((xs.take i ++ (ys ++ xs.drop (i + ys.length))).flatMap E.tys) ((cur.take (i * E.size) ++ vs ++ cur.drop (i * E.size + vs.length)).take ((xs.take i ++ (ys ++ xs.drop (i + ys.length))).flatMap E.tys).length) := by
 have hvl : vs.length = ys.length * E.size := by rw [cQ hv, dA]
 have hN : (xs.flatMap E.tys).length = xs.length * E.size := dA E xs
 have hcl : xs.length * E.size ≤ cur.length := by
  have := cQ hd
  rw [List.length_take, hN] at this; omega
 have hm : (i + ys.length) * E.size ≤ xs.length * E.size := Nat.mul_le_mul_right _ hi
 have hm2 : (i + ys.length) * E.size = i * E.size + ys.length * E.size := Nat.add_mul _ _ _
 have hxl : (xs.take i ++ (ys ++ xs.drop (i + ys.length))).length = xs.length := by simp; omega
 rw [dA E (xs.take i ++ (ys ++ xs.drop (i + ys.length))), hxl, List.flatMap_append, List.flatMap_append]
 have e : (cur.take (i * E.size) ++ vs ++ cur.drop (i * E.size + vs.length)).take (xs.length * E.size) = cur.take (i * E.size) ++ (vs ++ (cur.take (xs.length * E.size)).drop ((i + ys.length) * E.size)) := by
  have l1 : (cur.take (i * E.size)).length = i * E.size := by rw [List.length_take]; omega
  rw [List.append_assoc, List.take_append, List.take_append, l1]
  have e1 : (cur.take (i * E.size)).take (xs.length * E.size) = cur.take (i * E.size) := List.take_of_length_le (by omega)
  have e2 : vs.take (xs.length * E.size - i * E.size) = vs := List.take_of_length_le (by omega)
  rw [e1, e2, hvl, hm2, List.drop_take]
  congr 3; omega
 rw [e]
 rw [hN] at hd
 refine ke ?_ (ke hv ?_)
 ·have := nO (i * E.size) hd
  rw [yU, List.take_take, Nat.min_eq_left (by omega)] at this; exact this
 have := lZ ((i + ys.length) * E.size) hd
 rw [y9] at this; exact this
section
variable {P : Program} {fr : Fr} {ops : Array Oper} {A : As} {rest : List Oper} {K : As → List (As × Fx) → Prop} {d : Nat} {t ty' : TypeId} {p : String} {e : Array Edge} [T : lC P]
theorem GM {α : Type} {xs : List α} {i : Nat} (h : i < xs.length) (z : α) : xs.take i ++ ([z] ++ xs.drop (i + [z].length)) = xs.set i z := by
 rw [List.set_eq_take_append_cons_drop, if_pos h]; rfl
theorem lJ {α : Type} {E : El α} {xs : List α} {x y : Operand} {tg off Tb : Nat} {ti : TI} {z : α} (i : Nat) (hx : A.op fr x = .ptr tg off) (he : off = i * E.size) (hc : A.tag tg = some (.vec E Tb xs)) (h1 : fm tg) (hT : T.tab[ty']? = some ti) (hsz : ti.size = E.size) (hy : A.op fr y = .agg (E.tys z)) (hi : i < xs.length)
 (h : aa P fr ops rest (A.after { d := none, S := [tg], sets := [(tg, .vec E Tb (xs.set i z))], rs := cF x ++ cF y, rt := [tg] }) fun A' l'' => K A' ((A, { d := none, S := [tg], sets := [(tg, .vec E Tb (xs.set i z))], rs := cF x ++ cF y, rt := [tg] }) :: l'')) :
 aa P fr ops (⟨none, .store ty' x y, t, p, e, none⟩ :: rest) A K := by
 refine ⟨_, mA rfl rfl rfl (by simp) (by simpa using h1.1) (by simp) fun a w M wf hr ht => ?_, h⟩
 obtain ⟨hdx, hdy⟩ := op2 hr
 rw [hx] at hdx; rw [hy] at hdy
 obtain ⟨b, hb, ex⟩ := hdx
 obtain ⟨vs, ey, hvs⟩ := hdy
 rcases sn hc w M ht with rfl | ⟨b', cs, hb', hh, hd⟩
 ·exact absurd hi (Nat.not_lt_zero _)
 obtain ⟨u, rfl⟩ : ∃ u, tg = u + 1 := ⟨tg - 1, by omega⟩
 have := wf.inj b b' u (by omega) hb hb'
 subst this
 have hlen := cQ hd
 have hvl : vs.size = E.size := by have := cQ hvs; rw [E.len] at this; simpa using this
 have hoff : i * E.size + E.size ≤ cs.size := by
  rw [dA, List.length_take] at hlen
  have : (i + 1) * E.size ≤ xs.length * E.size := Nat.mul_le_mul_right _ hi
  rw [Nat.succ_mul] at this
  simp at hlen; omega
 have hones : ∀ v ∈ vs.toList, v.oneCell' = true := lX hvs (fun t ht => by
  have := lR E [z] t (by simpa using ht)
  exact this)
 have hst := run_storeCells_at (P := P) b off Tb vs.toList 0 cs w hh (by simp [he, hvl]; omega) hones
 rw [lq _ hh] at hst
 obtain ⟨h1', h2', h3'⟩ := jm (cs' := (cs.toList.take (off + 0) ++ vs.toList ++ cs.toList.drop (off + 0 + vs.toList.length)).toArray) (Tb := Tb) wf hb _ rfl
 refine ⟨_, ?_, M, h1', h2', trivial, ?_⟩
 ·simp only [execOp, Instr.storeAt, Instr.sureAddr, ex, ey, storeVar, Value.cells, dD hT, Sem.run_bind, Sem.run_pure, Result.andThen_ok, hsz, hvl, hst]
  simp [hst]
 intro z' hz'
 simp only [List.mem_singleton] at hz'
 subst hz'
 refine .inr ⟨b, _, hb, h3', ?_⟩
 have hp := EY (ys := [z]) (vs := vs.toList) (i := i) hd (by simpa using hvs) (by show i + 1 ≤ _; omega)
 rw [GM hi, ← he] at hp
 exact cB h2' (by intro _ _ h; cases h) (by rw [E.cv]; intro _ h; cases h) (by simpa using hp)
end
section
variable {P : Program} {A : As} {fn : Func} {n : Nat} {w0 : World} {M0 : bB} [T : lC P]
theorem jh {tm ty tg Tb t2 : Nat} {l : List Ty} {ti : TI} {r1 r2 : Ty} (hr : fn.results = #[.cell tm ty, .tmp t2]) (ht : Nat.blt tm n = true) (h2 : Nat.blt t2 n = true) (hx : A.slots tm = .ptr tg 0) (hc : A.tag tg = some (.cells Tb l)) (h1 : fm tg) (hT : T.tab[ty]? = some ti) (ha : ti.k.agg = true) (hl : l.length = ti.size) (hs : iM (.agg l) r1) (hs2 : iM (A.slots t2) r2) :
 dh ⟨n, w0, M0, [], .plain⟩ A (bodyPost P fn (mX w0 M0 (Ty.ju [r1, r2])) .ret) := by
 intro a w ⟨M, ok, hsl, htg⟩
 have hd := hsl tm (by simpa using ht)
 rw [hx] at hd
 obtain ⟨b, hb, e⟩ := hd
 obtain ⟨b', cs, hb', hh, hds⟩ := htg _ (cw hc)
 obtain ⟨u, rfl⟩ : ∃ u, tg = u + 1 := ⟨tg - 1, by omega⟩
 have := ok.wf.inj b b' u (by omega) hb hb'
 subst this
 have hlen := cQ hds
 have hload := fy (P := P) hT ha (w := w) (b := b) (off := 0) (cs := cs.toList) (by rw [hlen, hl]) (fun j v hj => by simpa [World.cell?, hh] using hj)
 have hload' : (loadVar ty ⟨b, 0, none⟩).run P w = .ok (.agg cs) w := by simpa [Instr.loadAt, Instr.sureAddr] using hload
 refine ⟨ok.gC (by simp), .tuple #[.agg cs, a.tmps.getD t2 undef], ?_, _, pV M, rfl, s8 ok.wf, pU (fr := ⟨n, w0, M0, [], .plain⟩) (fun _ h => h) ok.base, _, rfl, hs _ _ _ ok.wf ⟨cs, rfl, hds⟩, hs2 _ _ _ ok.wf (hsl t2 (by simpa using h2)), trivial⟩
 have e' : a.tmps.getD tm undef = .pointer (some ⟨b, 0, none⟩) := e
 have e'' : a.tmps[tm]?.getD undef = .pointer (some ⟨b, 0, none⟩) := by rw [← Array.getD_eq_getD_getElem?]; exact e'
 simp [results, hr, e'', asAddr, hload']
end
section
variable {P : Program} {fr : Fr} {ops : Array Oper} {A : As} {rest : List Oper} {K : As → List (As × Fx) → Prop} {d : Nat} {t ty' : TypeId} {p : String} {e : Array Edge} [T : lC P]
end
end Go.T
namespace Go.T
open Go Go.RowKit
def OF {α : Type} (E : El α) (xs : List α) (w : World) (M : bB) (v : Value) : Prop := m5 E xs w M v ∧ (xs = [] → v = .slice none 0 0)
def Ty.Gj {α : Type} (E : El α) (xs : List α) : Ty :=
  { den := OF E xs, deps := [], cdeps := [], mono := fun le hk hs h => ⟨(Ty.sl E xs).mono le hk hs h.1, h.2⟩, one := true, isOne := fun _ ⟨⟨_, _, e, _⟩, _⟩ => e ▸ rfl }
theorem Ty.NP {α : Type} {E : El α} {xs : List α} : (Ty.Gj E xs).Sub (Ty.sl E xs) := fun _ _ _ h => h.1
theorem Df {L : List Nat} {α : Type} {E : El α} {xs : List α} (e : xs = []) : sJ L (Ty.ex (.slice none 0 0)) (Ty.Gj E xs) := fun w M v wf h => by
 subst e
 exact ⟨eA (L := L) (Ht (E := E)) w M v wf h, fun _ => h⟩
theorem D6 {L : List Nat} {α : Type} {E : El α} {T tg : Nat} {xs ys : List α} (h : 1 ≤ tg) (hL : L.contains tg = false) (e : xs = ys) (hne : ys ≠ []) : sJ L (Ty.row E T tg xs) (Ty.Gj E ys) := fun w M v wf hd => ⟨z6 h hL e w M v wf hd, fun hx => absurd hx hne⟩
section
variable {P : Program} {fr : Fr} {ops : Array Oper} {A : As} {rest : List Oper} {K : As → List (As × Fx) → Prop} {d : Nat} {t ty' ty2 : TypeId} {p : String} {e : Array Edge} {x : Operand}
theorem O1 {α : Type} {E : El α} {xs : List α} (hx : A.op fr x = .Gj E xs) (h : aa P fr ops rest (A.set d (.Gj E xs)) fun A' l => K A' ((A, { d := some d, ty := .Gj E xs, rs := cF x }) :: l)) : aa P fr ops (⟨some d, .move x, t, p, e, none⟩ :: rest) A K := eK hx h
theorem Oy {α : Type} {E : El α} {xs : List α} (hx : A.op fr x = .Gj E xs) (h : aa P fr ops rest (A.set d (.Gj E xs)) fun A' l => K A' ((A, { d := some d, ty := .Gj E xs, rs := cF x }) :: l)) : aa P fr ops (⟨some d, .assign x, t, p, e, none⟩ :: rest) A K := fX hx h
theorem Jm {α : Type} {E : El α} {xs : List α} {w : World} {M : bB} {v : Value} (h : OF E xs w M v) : ∃ ad n c, v = .slice ad n c ∧ ad.isNone = xs.isEmpty := by
  obtain ⟨⟨ad, c, ex, _, _, hp⟩, hn⟩ := h
  refine ⟨ad, _, c, ex, ?_⟩
  cases xs with
  | nil => have := hn rfl; rw [ex] at this; injection this with h1; rw [h1]; rfl
  | cons y l =>
    obtain ⟨b, off, e, _⟩ := hp (by simp)
    rw [e]; rfl
theorem HA {α : Type} {E : El α} {xs : List α} {el : TypeId} (hu : P.underlying ty' = some (.slice el)) (hx : A.op fr x = .Gj E xs)
 (h : aa P fr ops rest (A.set d (.bool xs.isEmpty)) fun A' l' => K A' ((A, { d := some d, ty := .bool xs.isEmpty, rs := cF x }) :: l')) : aa P fr ops (⟨some d, .binOp .eql ty' x (.const (.slice none 0 0)) ty2, t, p, e, none⟩ :: rest) A K :=
 bN (bV (rt := []) rfl rfl fun a w M _ hr _ => by
  have := cP (x := x) (fun _ h => h) hr
  rw [hx] at this
  obtain ⟨ad, n, c, ex, hn⟩ := Jm this
  have ey : a.eval (.const (.slice none 0 0)) = .slice none 0 0 := rfl
  exact ⟨.bool ad.isNone, by simp only [execOp, ex, ey]; simp [eqGuard, binOp, go_sem, qx hu], by rw [hn]; rfl⟩) h
end
end Go.T
namespace Go.T
open Go Go.RowKit
def Ox (tg n : Nat) (c : Option Nat) (_ : World) (M : bB) (v : Value) : Prop := match c with
  | none => n = 0 ∧ v = .slice none 0 0
  | some c => ∃ b, M b = some tg ∧ v = .slice (some ⟨b, 0, none⟩) n c ∧ n ≤ c ∧ c ≤ maxLen
def Ty.rc (tg n : Nat) (c : Option Nat) : Ty := ⟨Ox tg n c, [tg], [], fun le hk _ h => by
  cases c with
  | none => exact h
  | some c => obtain ⟨b, h1, h2⟩ := h; exact ⟨b, (le.own b tg h1 (hk tg (by simp))).1, h2⟩, true, fun _ h => by
  cases c with
  | none => obtain ⟨_, rfl⟩ := h; rfl
  | some c => obtain ⟨_, _, rfl, _⟩ := h; rfl⟩
def NI {α : Type} (E : El α) (T : Nat) (xs : List α) (c : Option Nat) (w : World) (M : bB) (t : Nat) : Prop := match c with
  | none => xs = []
  | some c => ∃ b cs, M b = some t ∧ w.heap[b]? = some (.cells cs T (0, 0)) ∧ cs.size = c * E.size ∧ cK w M (xs.flatMap E.tys) (cs.toList.take (xs.flatMap E.tys).length)
def Cont.KD {α : Type} (E : El α) (T : Nat) (xs : List α) (c : Option Nat) : Cont :=
  { den := NI E T xs c, mono := fun le _ _ hs hk h => by
      cases c with
      | none => exact h
      | some c =>
        obtain ⟨b, cs, h1, h2, h3, h4⟩ := h
        obtain ⟨h5, h6⟩ := le.own b _ h1 hk
        exact ⟨b, cs, h5, (h6 hs).trans h2, h3, cB le (by rw [E.dI]; intro _ h; cases h) (by rw [E.cv]; intro _ h; cases h) h4⟩ }
theorem Cont.Km {α : Type} {E : El α} {T : Nat} {xs ys : List α} {c : Option Nat} (h : xs = ys) : (Cont.KD E T xs c).Sub (Cont.KD E T ys c) := h ▸ Cont.aE _
section
variable {P : Program} {fr : Fr} {A : As} {Q : Exit → Act → World → Prop} {code : Code}
theorem JQ {α : Type} {E : El α} {T tg s : Nat} {xs : List α} {c : Option Nat} (hs : Nat.blt s fr.n = true) (h1 : fm tg) (hx : A.slots s = .rc tg xs.length c) (hc : A.tag tg = some (.KD E T xs c))
    (h : fP P fr code ⟨fun i => bif Nat.beq i s then .row E T tg xs else A.slots i, A.tags⟩ Q) : fP P fr code A Q := fun a w ⟨M, ok, hsl, ht⟩ => by
  have hd := hsl s (by simpa using hs)
  rw [hx] at hd
  have hcd : NI E T xs c w M tg := ht _ (cw hc)
  have key : gG E T tg xs w M (a.tmps.getD s undef) := by
    cases c with
    | none =>
      obtain ⟨_, e⟩ := hd
      have e2 : xs = [] := hcd
      subst e2
      rw [e]; exact LL
    | some c =>
      obtain ⟨b, hb, e, hn, hm⟩ := hd
      obtain ⟨b', cs, hb', hh, hsz, hdd⟩ := hcd
      obtain ⟨u, rfl⟩ : ∃ u, tg = u + 1 := ⟨tg - 1, by omega⟩
      have := ok.wf.inj b b' u (by omega) hb hb'
      subst this
      rw [e]
      refine ⟨cs.toList.take (xs.length * E.size), ⟨?_, .inr ⟨b, c, cs, rfl, Nat.zero_le _, hh, hn, hm, hsz, rfl⟩⟩, by rw [dA] at hdd; exact hdd, fun g hg => by
        have : b = g := by simpa [Value.ownBlock] using hg
        rw [← this]; exact hb⟩
      have h2 : xs.length * E.size ≤ c * E.size := Nat.mul_le_mul_right _ hn
      rw [List.length_take]; simp; omega
  refine h a w ⟨M, ok, fun i hi => ?_, ht⟩
  cases hb : Nat.beq i s with
  | false => simpa only [hb, cond_false] using hsl i hi
  | true =>
    have : i = s := Nat.eq_of_beq_eq_true hb
    subst this
    simp only [hb, cond_true]
    exact key
end
section
variable {P : Program} {fr : Fr} {ops : Array Oper} {A : As} {rest : List Oper} {K : As → List (As × Fx) → Prop} {d : Nat} {t ty' ty2 : TypeId} {p : String} {e : Array Edge}
end
section
variable {P : Program} {fr : Fr} {ops : Array Oper} {A : As} {rest : List Oper} {K : As → List (As × Fx) → Prop} {d : Nat} {t ty' ty2 : TypeId} {p : String} {e : Array Edge} [T : lC P]
end
end Go.T
namespace Go.T
open Go Go.RowKit
section
variable {P : Program} {fr : Fr} {ops : Array Oper} {A : As} {rest : List Oper} {K : As → List (As × Fx) → Prop} {d : Nat} {t : TypeId} {p : String} {e : Array Edge} {y : Operand}
theorem zl {c : Operand} {b : Bool} (hc : A.op fr c = .bool true) (hy : A.op fr y = .bool b)
 (h : aa P fr ops rest (A.set d (.bool b)) fun A' l' => K A' ((A, { d := some d, ty := .bool b, rs := cF c ++ cF y }) :: l')) : aa P fr ops (⟨some d, .pick c y (.const (.bool false)), t, p, e, none⟩ :: rest) A K :=
 bN (bV rfl rfl fun a w M _ hrd _ => by
  obtain ⟨hdc, hdy⟩ := op2 hrd
  rw [hc] at hdc; rw [hy] at hdy
  have ec : a.eval c = .bool true := hdc
  have ey : a.eval y = .bool b := hdy
  exact ⟨.bool b, by simp only [execOp, ec, ey]; simp [asBool], rfl⟩) h
theorem FL {c : Operand} (hc : A.op fr c = .bool false)
 (h : aa P fr ops rest (A.set d (.bool false)) fun A' l' => K A' ((A, { d := some d, ty := .bool false, rs := cF c ++ cF y }) :: l')) : aa P fr ops (⟨some d, .pick c y (.const (.bool false)), t, p, e, none⟩ :: rest) A K :=
 bN (bV rfl rfl fun a w M _ hrd _ => by
  obtain ⟨hdc, _⟩ := op2 hrd
  rw [hc] at hdc
  have ec : a.eval c = .bool false := hdc
  exact ⟨.bool false, by simp only [execOp, ec]; simp [asBool, Act.eval], rfl⟩) h
end
end Go.T
namespace Go.T
open Go Go.RowKit
structure N8 (α : Type) where
  E : El α
  own : Nat → α → List Ty
  olen : ∀ J x, (own J x).length = E.size
  deps : ∀ J x, ∀ u ∈ cG (own J x), u = J
  cdeps : ∀ J x, ∀ u ∈ bt (own J x), u = J
  oones : ∀ J x, (own J x).all Ty.one = true
  qB : ∀ J x w M M' vs, Wf w M → (∀ b, M b = some J → M' b = none) → (∀ b, M b = none → M' b = none) → cK w M (own J x) vs → cK w M' (E.tys x) vs
  ren : ∀ J J' x w M M' vs, (∀ b, M b = some J → M' b = some J') → (∀ b, M b = none → M' b = none) → cK w M (own J x) vs → cK w M' (own J' x) vs
  mine : ∀ J x w M vs, cK w M (own J x) vs → ∀ g ∈ vs.filterMap Value.ownBlock, M g = some J
section
variable {α : Type} (E : N8 α)
theorem N8.dI (J : Nat) (xs : List α) : ∀ u ∈ cG (xs.flatMap (E.own J)), u = J := by
 intro u hu
 simp only [cG, List.mem_flatMap] at hu
 obtain ⟨t, ⟨x, _, hx⟩, hu⟩ := hu
 exact E.deps J x u (List.mem_flatMap.2 ⟨t, hx, hu⟩)
theorem N8.cv (J : Nat) (xs : List α) : ∀ u ∈ bt (xs.flatMap (E.own J)), u = J := by
 intro u hu
 simp only [bt, List.mem_flatMap] at hu
 obtain ⟨t, ⟨x, _, hx⟩, hu⟩ := hu
 exact E.cdeps J x u (List.mem_flatMap.2 ⟨t, hx, hu⟩)
theorem N8.dA (J : Nat) : ∀ xs : List α, (xs.flatMap (E.own J)).length = xs.length * E.E.size
  | [] => by simp
  | x :: xs => by rw [List.flatMap_cons, List.length_append, E.olen, N8.dA J xs, List.length_cons, Nat.succ_mul, Nat.add_comm]
end
def OX (l : List Ty) (w : World) (M : bB) (v : Value) : Prop := ∃ b, v = .slice (some ⟨b, 0, none⟩) 1 1 ∧ nI w M b 0 l
def Ty.ms (l : List Ty) : Ty := ⟨OX l, cG l, bt l, fun le hk hs ⟨b, e, h⟩ => ⟨b, e, nV le hk hs h⟩, true, fun _ ⟨_, e, _⟩ => e ▸ rfl⟩
section
variable {P : Program} {fr : Fr} {ops : Array Oper} {A : As} {rest : List Oper} {K : As → List (As × Fx) → Prop} {d : Nat} {t ty' : TypeId} {p : String} {e : Array Edge} [T : lC P]
def rm (M : bB) (tg J : Nat) : bB := fun b => if M b = some tg then some J else M b
theorem CP {w : World} {M : bB} {tg J : Nat} : Le (· ∈ ([] : List Nat)) (· ∈ [tg]) w M w (rm M tg J) :=
 ⟨Nat.le_refl _, rfl, rfl, rfl, fun b _ hm => ⟨by simp [rm, hm], rfl⟩, fun b t hm hk => ⟨by simp only [List.mem_singleton] at hk; simp [rm, hm, hk], fun _ => rfl⟩⟩
theorem IF {w : World} {M : bB} {tg J : Nat} (hJ : 4096 ≤ J) (wf : Wf w M) : Wf w (rm M tg J) := by
 have key : ∀ b t, rm M tg J b = some t → (M b = some tg ∧ t = J) ∨ M b = some t := fun b t h => by
  unfold rm at h
  split at h
  ·rename_i hm; injection h with h; exact .inl ⟨hm, h.symm⟩
  exact .inr h
 refine ⟨fun b t h => (key b t h).elim (fun h => wf.lt b _ h.1) (fun h => wf.lt b _ h), fun b b' t ht1 h h' => ?_⟩
 rcases key _ _ h with ⟨_, e⟩ | a
 ·omega
 rcases key _ _ h' with ⟨_, e⟩ | a'
 ·omega
 exact wf.inj b b' t ht1 a a'
end
end Go.T
namespace Go.Proofs.YtelbollidfdcjaaGreat
open Go Go.T
set_option maxHeartbeats 2000000
attribute [local irreducible] iN fQ m5 qc ir iW ij iy iw qY iZ qW dz ga qV gG qd nth fP dh aa dy bodyPost Exit.then Exit.inBlock Code.wp Code.wpIn qh iq qb qU ia dn cU cj bodyPostM eF
set_option maxRecDepth 100000 in
theorem vC (l : List Int) (t : Ty) (h1 : t.one = true) (q : Int → Bool) (hd : t.deps = []) (hc : t.cdeps = []) (hf : ∀ x ∈ l, oU Tryz.prog t [Ty.int .i64 x] (Ty.bool (q x))) : dy Tryz.prog 141 [Ty.sl cS l, t] (Ty.int .i64 (fidx q l)) := by
 refine bC Tryz.func141 rfl (by decide) Tryz.ntmps141 (by exact Nat.le_of_ble_eq_true rfl) fun w0 M0 => ?_
 refine j6 (s := 0) rfl rfl kI fun hl => ?_
 refine aG (aA (cE rfl (aD (aC (aG (aG (aA (fU rfl (cY rfl rfl rfl ?_)))))))))
 refine bQ rfl (aD (aC (ak ?_)))
 refine cg (fun (k : {k : Nat // ∀ x ∈ l.take k, q x = false}) => live [(0, Ty.sl cS l), (1, t), (7, Ty.int .i64 l.length), (8, Ty.int .i64 (k.1 : Nat))] []) (fun k => l.length - k.1) (⟨0, by simp⟩) ?_ fun k => ?_
 ·(refine dG.mk' ?_ ?_ <;> (repeat' (first | exact aI | exact aJ | refine aB ?_ (Ty.aU _) | refine aB ?_ (Ty.aE _))))
 refine aG (aA (bF rfl rfl rfl (aD (aC (aG ?_)))))
 refine aq rfl (fun hc1 => ?_) (fun hc1 => ?_)
 ·
  refine aj (aC (aG (ak (aG (aA (bQ rfl (cE rfl (aD (aC ?_)))))))))
  refine aG (aA ?_)
  refine eK (ty := t) rfl ?_
  refine fU rfl (bQ rfl ?_)
  refine bH rfl rfl rfl rfl rfl rfl (by omega) ?_
  refine aL rfl rfl rfl rfl ?_
  refine ep rfl (hf _ (cL (by omega))) rfl ?_
  refine aD (aC ?_)
  refine cx rfl (fun hc2 => ?_) (fun hc2 => ?_)
  ·
   refine aG (aA (bQ rfl (cE rfl (aD (aC (av (bJ (aW (aW ?_)))))))))
   refine bJ (aW (bz rfl rfl ?_))
   all_goals skip
   exact bE rfl rfl (congrArg (Ty.int .i64) (gp (by omega) k.2 (by rw [← g9]; exact hc2)).symm)
  refine aj (bX (aC (aA ?_)))
  refine cD rfl rfl (by omega) (by omega) ?_
  refine bQ rfl (aD ?_)
  refine bl (⟨k.1 + 1, by rw [eG (by omega)]; intro x hx; rcases List.mem_append.1 hx with h | h; exact k.2 x h; rw [List.mem_singleton.1 h]; exact hc2⟩) ?_ (by show l.length - (k.1 + 1) < l.length - k.1; omega)
  (refine dG.mk' ?_ ?_ <;> (repeat' (first | exact aI | exact aJ | refine aB ?_ (Ty.aU _) | refine aB ?_ (Ty.aE _))))
  all_goals skip
 refine cZ (aQ (aQ (ay rfl (aC (aG (aA (cE rfl (aD (aC ?_)))))))))
 refine av (bz rfl rfl ?_)
 all_goals skip
 exact bE rfl rfl (congrArg (Ty.int .i64) (iO (by have := k.2; rwa [List.take_of_length_le (by omega)] at this)).symm)
set_option maxRecDepth 100000 in
theorem vF (l : List vE) (t : Ty) (h1 : t.one = true) (q : vE → Bool) (hd : t.deps = []) (hc : t.cdeps = []) (hf : ∀ x ∈ l, oU Tryz.prog t [Ty.agg (dO.tys x)] (Ty.bool (q x))) : dy Tryz.prog 200 [Ty.sl dO l, t] (Ty.int .i64 (fidx q l)) := by
 refine bC Tryz.func200 rfl (by decide) Tryz.ntmps200 (by exact Nat.le_of_ble_eq_true rfl) fun w0 M0 => ?_
 refine j6 (s := 0) rfl rfl kI fun hl => ?_
 refine aG (aA (cE rfl (aD (aC (aG (aG (aA (fU rfl (cY rfl rfl rfl ?_)))))))))
 refine bQ rfl (aD (aC (ak ?_)))
 refine cg (fun (k : {k : Nat // ∀ x ∈ l.take k, q x = false}) => live [(0, Ty.sl dO l), (1, t), (7, Ty.int .i64 l.length), (8, Ty.int .i64 (k.1 : Nat))] []) (fun k => l.length - k.1) (⟨0, by simp⟩) ?_ fun k => ?_
 ·(refine dG.mk' ?_ ?_ <;> (repeat' (first | exact aI | exact aJ | refine aB ?_ (Ty.aU _) | refine aB ?_ (Ty.aE _))))
 refine aG (aA (bF rfl rfl rfl (aD (aC (aG ?_)))))
 refine aq rfl (fun hc1 => ?_) (fun hc1 => ?_)
 ·
  refine aj (aC (aG (ak (aG (aA (bQ rfl (cE rfl (aD (aC ?_)))))))))
  refine aG (aA ?_)
  refine eK (ty := t) rfl ?_
  refine fU rfl (bQ rfl ?_)
  refine bH rfl rfl rfl rfl rfl rfl (by omega) ?_
  refine aZ rfl rfl rfl (by exact Nat.le_of_ble_eq_true rfl) ?_
  refine ep rfl (hf _ (cL (by omega))) rfl ?_
  refine aD (aC ?_)
  refine cx rfl (fun hc2 => ?_) (fun hc2 => ?_)
  ·
   refine aG (aA (bQ rfl (cE rfl (aD (aC (av (bJ (aW (aW ?_)))))))))
   refine bJ (aW (bz rfl rfl ?_))
   all_goals skip
   exact bE rfl rfl (congrArg (Ty.int .i64) (gp (by omega) k.2 (by rw [← g9]; exact hc2)).symm)
  refine aj (bX (aC (aA ?_)))
  refine cD rfl rfl (by omega) (by omega) ?_
  refine bQ rfl (aD ?_)
  refine bl (⟨k.1 + 1, by rw [eG (by omega)]; intro x hx; rcases List.mem_append.1 hx with h | h; exact k.2 x h; rw [List.mem_singleton.1 h]; exact hc2⟩) ?_ (by show l.length - (k.1 + 1) < l.length - k.1; omega)
  (refine dG.mk' ?_ ?_ <;> (repeat' (first | exact aI | exact aJ | refine aB ?_ (Ty.aU _) | refine aB ?_ (Ty.aE _))))
  all_goals skip
 refine cZ (aQ (aQ (ay rfl (aC (aG (aA (cE rfl (aD (aC ?_)))))))))
 refine av (bz rfl rfl ?_)
 all_goals skip
 exact bE rfl rfl (congrArg (Ty.int .i64) (iO (by have := k.2; rwa [List.take_of_length_le (by omega)] at this)).symm)
set_option maxRecDepth 100000 in
theorem qy (l : List vE) (t : Ty) (h1 : t.one = true) (q : vE → Bool) (hd : t.deps = []) (hc : t.cdeps = []) (hf : ∀ x ∈ l, oU Tryz.prog t [Ty.agg (dO.tys x)] (Ty.bool (q x))) : dy Tryz.prog 189 [Ty.sl dO l, t] (Ty.bool (l.any q)) := by
 refine bC Tryz.func189 rfl (by decide) Tryz.ntmps189 (by exact Nat.le_of_ble_eq_true rfl) fun w0 M0 => ?_
 refine aG (aA (dw rfl (aD (aC (aG (aA (fU rfl ?_)))))))
 refine eK (ty := t) rfl ?_
 refine az (vF l t h1 q hd hc hf) rfl (by exact bY rfl (bY hd rfl)) (by exact bR rfl (bR hc rfl)) rfl rfl ?_
 refine bF rfl rfl rfl (dw rfl (aD (aC (av (bz rfl rfl ?_)))))
 all_goals skip
 exact bE rfl rfl (congrArg Ty.bool (qL q l))
set_option maxRecDepth 100000 in
theorem AH (x : vE) (t : Ty) (h1 : t.one = true) (b : Bool) (hd : t.deps = []) (hc : t.cdeps = []) (hf : oU Tryz.prog t [Ty.agg (dO.tys x)] (Ty.bool b)) : dy Tryz.prog 190 [Ty.agg (dO.tys x), Ty.pp [t]] (Ty.bool (!b)) := by
 refine bC Tryz.func190 rfl (by decide) Tryz.ntmps190 (by exact Nat.le_of_ble_eq_true rfl) fun w0 M0 => ?_
 refine aG (aA (bM rfl (dw rfl (aD (aC (aG (aA (aL rfl rfl rfl rfl ?_))))))))
 refine aZ rfl rfl rfl (by exact Nat.le_of_ble_eq_true rfl) ?_
 refine ep rfl hf rfl (eE rfl (dw rfl (aD (aC (av (bz rfl rfl ?_))))))
 all_goals exact cV rfl rfl
set_option maxRecDepth 100000 in
theorem ur (l : List vE) (t : Ty) (h1 : t.one = true) (q : vE → Bool) (hd : t.deps = []) (hc : t.cdeps = []) (hf : ∀ x ∈ l, oU Tryz.prog t [Ty.agg (dO.tys x)] (Ty.bool (q x))) : dy Tryz.prog 143 [Ty.sl dO l, t] (Ty.bool (l.all q)) := by
 refine bC Tryz.func143 rfl (by decide) Tryz.ntmps143 (by exact Nat.le_of_ble_eq_true rfl) fun w0 M0 => ?_
 refine aG (aA ?_)
 refine gO (ty := t) rfl h1 ?_
 refine dw rfl (aD (aC (aG (aA (fU rfl (dP rfl ?_))))))
 refine az (qy l (Ty.jC _ [Ty.pp [t]]) rfl (fun x => !q x) (by exact bY (bY hd rfl) rfl) (by exact bR (bR hc rfl) rfl) fun x hx => dZ (AH x t h1 (q x) hd hc (hf x hx)) rfl rfl (by exact bY (bY hd rfl) rfl) (by exact bR (bR hc rfl) rfl) rfl rfl) rfl (by exact bY rfl (bY (bY (bY hd rfl) rfl) rfl)) (by exact bR rfl (bR (bR (bR hc rfl) rfl) rfl)) rfl rfl ?_
 refine eE rfl (dw rfl (aD (aC (av (bz rfl rfl ?_)))))
 all_goals skip
 exact bE rfl rfl (congrArg Ty.bool (sN q l))
set_option maxRecDepth 100000 in
theorem vI (l : List Move) (t : Ty) (h1 : t.one = true) (q : Move → Bool) (hd : t.deps = []) (hc : t.cdeps = []) (hf : ∀ x ∈ l, oU Tryz.prog t [Ty.agg (cR.tys x)] (Ty.bool (q x))) : dy Tryz.prog 92 [Ty.sl cR l, t] (Ty.int .i64 (fidx q l)) := by
 refine bC Tryz.func92 rfl (by decide) Tryz.ntmps92 (by exact Nat.le_of_ble_eq_true rfl) fun w0 M0 => ?_
 refine j6 (s := 0) rfl rfl kI fun hl => ?_
 refine aG (aA (cE rfl (aD (aC (aG (aG (aA (fU rfl (cY rfl rfl rfl ?_)))))))))
 refine bQ rfl (aD (aC (ak ?_)))
 refine cg (fun (k : {k : Nat // ∀ x ∈ l.take k, q x = false}) => live [(0, Ty.sl cR l), (1, t), (7, Ty.int .i64 l.length), (8, Ty.int .i64 (k.1 : Nat))] []) (fun k => l.length - k.1) (⟨0, by simp⟩) ?_ fun k => ?_
 ·(refine dG.mk' ?_ ?_ <;> (repeat' (first | exact aI | exact aJ | refine aB ?_ (Ty.aU _) | refine aB ?_ (Ty.aE _))))
 refine aG (aA (bF rfl rfl rfl (aD (aC (aG ?_)))))
 refine aq rfl (fun hc1 => ?_) (fun hc1 => ?_)
 ·
  refine aj (aC (aG (ak (aG (aA (bQ rfl (cE rfl (aD (aC ?_)))))))))
  refine aG (aA ?_)
  refine eK (ty := t) rfl ?_
  refine fU rfl (bQ rfl ?_)
  refine bH rfl rfl rfl rfl rfl rfl (by omega) ?_
  refine aZ rfl rfl rfl (by exact Nat.le_of_ble_eq_true rfl) ?_
  refine ep rfl (hf _ (cL (by omega))) rfl ?_
  refine aD (aC ?_)
  refine cx rfl (fun hc2 => ?_) (fun hc2 => ?_)
  ·
   refine aG (aA (bQ rfl (cE rfl (aD (aC (av (bJ (aW (aW ?_)))))))))
   refine bJ (aW (bz rfl rfl ?_))
   all_goals skip
   exact bE rfl rfl (congrArg (Ty.int .i64) (gp (by omega) k.2 (by rw [← g9]; exact hc2)).symm)
  refine aj (bX (aC (aA ?_)))
  refine cD rfl rfl (by omega) (by omega) ?_
  refine bQ rfl (aD ?_)
  refine bl (⟨k.1 + 1, by rw [eG (by omega)]; intro x hx; rcases List.mem_append.1 hx with h | h; exact k.2 x h; rw [List.mem_singleton.1 h]; exact hc2⟩) ?_ (by show l.length - (k.1 + 1) < l.length - k.1; omega)
  (refine dG.mk' ?_ ?_ <;> (repeat' (first | exact aI | exact aJ | refine aB ?_ (Ty.aU _) | refine aB ?_ (Ty.aE _))))
  all_goals skip
 refine cZ (aQ (aQ (ay rfl (aC (aG (aA (cE rfl (aD (aC ?_)))))))))
 refine av (bz rfl rfl ?_)
 all_goals skip
 exact bE rfl rfl (congrArg (Ty.int .i64) (iO (by have := k.2; rwa [List.take_of_length_le (by omega)] at this)).symm)
set_option maxRecDepth 100000 in
theorem rF (l : List Move) (t : Ty) (h1 : t.one = true) (q : Move → Bool) (hd : t.deps = []) (hc : t.cdeps = []) (hf : ∀ x ∈ l, oU Tryz.prog t [Ty.agg (cR.tys x)] (Ty.bool (q x))) : dy Tryz.prog 23 [Ty.sl cR l, t] (Ty.bool (l.any q)) := by
 refine bC Tryz.func23 rfl (by decide) Tryz.ntmps23 (by exact Nat.le_of_ble_eq_true rfl) fun w0 M0 => ?_
 refine aG (aA (dw rfl (aD (aC (aG (aA (fU rfl ?_)))))))
 refine eK (ty := t) rfl ?_
 refine az (vI l t h1 q hd hc hf) rfl (by exact bY rfl (bY hd rfl)) (by exact bR rfl (bR hc rfl)) rfl rfl ?_
 refine bF rfl rfl rfl (dw rfl (aD (aC (av (bz rfl rfl ?_)))))
 all_goals skip
 exact bE rfl rfl (congrArg Ty.bool (qL q l))
set_option maxRecDepth 100000 in
theorem At (x : Move) (t : Ty) (h1 : t.one = true) (b : Bool) (hd : t.deps = []) (hc : t.cdeps = []) (hf : oU Tryz.prog t [Ty.agg (cR.tys x)] (Ty.bool b)) : dy Tryz.prog 191 [Ty.agg (cR.tys x), Ty.pp [t]] (Ty.bool (!b)) := by
 refine bC Tryz.func191 rfl (by decide) Tryz.ntmps191 (by exact Nat.le_of_ble_eq_true rfl) fun w0 M0 => ?_
 refine aG (aA (bM rfl (dw rfl (aD (aC (aG (aA (aL rfl rfl rfl rfl ?_))))))))
 refine aZ rfl rfl rfl (by exact Nat.le_of_ble_eq_true rfl) ?_
 refine ep rfl hf rfl (eE rfl (dw rfl (aD (aC (av (bz rfl rfl ?_))))))
 all_goals exact cV rfl rfl
set_option maxRecDepth 100000 in
theorem mL (l : List Move) (t : Ty) (h1 : t.one = true) (q : Move → Bool) (hd : t.deps = []) (hc : t.cdeps = []) (hf : ∀ x ∈ l, oU Tryz.prog t [Ty.agg (cR.tys x)] (Ty.bool (q x))) : dy Tryz.prog 146 [Ty.sl cR l, t] (Ty.bool (l.all q)) := by
 refine bC Tryz.func146 rfl (by decide) Tryz.ntmps146 (by exact Nat.le_of_ble_eq_true rfl) fun w0 M0 => ?_
 refine aG (aA ?_)
 refine gO (ty := t) rfl h1 ?_
 refine dw rfl (aD (aC (aG (aA (fU rfl (dP rfl ?_))))))
 refine az (rF l (Ty.jC _ [Ty.pp [t]]) rfl (fun x => !q x) (by exact bY (bY hd rfl) rfl) (by exact bR (bR hc rfl) rfl) fun x hx => dZ (At x t h1 (q x) hd hc (hf x hx)) rfl rfl (by exact bY (bY hd rfl) rfl) (by exact bR (bR hc rfl) rfl) rfl rfl) rfl (by exact bY rfl (bY (bY (bY hd rfl) rfl) rfl)) (by exact bR rfl (bR (bR (bR hc rfl) rfl) rfl)) rfl rfl ?_
 refine eE rfl (dw rfl (aD (aC (av (bz rfl rfl ?_)))))
 all_goals skip
 exact bE rfl rfl (congrArg Ty.bool (sN q l))
set_option maxRecDepth 100000 in
theorem u9 (l : List Level) (t : Ty) (h1 : t.one = true) (q : Level → Bool) (hd : t.deps = []) (hc : t.cdeps = []) (hf : ∀ x ∈ l, oU Tryz.prog t [Ty.agg (ct.tys x)] (Ty.bool (q x))) : dy Tryz.prog 163 [Ty.sl ct l, t] (Ty.int .i64 (fidx q l)) := by
 refine bC Tryz.func163 rfl (by decide) Tryz.ntmps163 (by exact Nat.le_of_ble_eq_true rfl) fun w0 M0 => ?_
 refine j6 (s := 0) rfl rfl kI fun hl => ?_
 refine aG (aA (cE rfl (aD (aC (aG (aG (aA (fU rfl (cY rfl rfl rfl ?_)))))))))
 refine bQ rfl (aD (aC (ak ?_)))
 refine cg (fun (k : {k : Nat // ∀ x ∈ l.take k, q x = false}) => live [(0, Ty.sl ct l), (1, t), (7, Ty.int .i64 l.length), (8, Ty.int .i64 (k.1 : Nat))] []) (fun k => l.length - k.1) (⟨0, by simp⟩) ?_ fun k => ?_
 ·(refine dG.mk' ?_ ?_ <;> (repeat' (first | exact aI | exact aJ | refine aB ?_ (Ty.aU _) | refine aB ?_ (Ty.aE _))))
 refine aG (aA (bF rfl rfl rfl (aD (aC (aG ?_)))))
 refine aq rfl (fun hc1 => ?_) (fun hc1 => ?_)
 ·
  refine aj (aC (aG (ak (aG (aA (bQ rfl (cE rfl (aD (aC ?_)))))))))
  refine aG (aA ?_)
  refine eK (ty := t) rfl ?_
  refine fU rfl (bQ rfl ?_)
  refine bH rfl rfl rfl rfl rfl rfl (by omega) ?_
  refine aZ rfl rfl rfl (by exact Nat.le_of_ble_eq_true rfl) ?_
  refine ep rfl (hf _ (cL (by omega))) rfl ?_
  refine aD (aC ?_)
  refine cx rfl (fun hc2 => ?_) (fun hc2 => ?_)
  ·
   refine aG (aA (bQ rfl (cE rfl (aD (aC (av (bJ (aW (aW ?_)))))))))
   refine bJ (aW (bz rfl rfl ?_))
   all_goals skip
   exact bE rfl rfl (congrArg (Ty.int .i64) (gp (by omega) k.2 (by rw [← g9]; exact hc2)).symm)
  refine aj (bX (aC (aA ?_)))
  refine cD rfl rfl (by omega) (by omega) ?_
  refine bQ rfl (aD ?_)
  refine bl (⟨k.1 + 1, by rw [eG (by omega)]; intro x hx; rcases List.mem_append.1 hx with h | h; exact k.2 x h; rw [List.mem_singleton.1 h]; exact hc2⟩) ?_ (by show l.length - (k.1 + 1) < l.length - k.1; omega)
  (refine dG.mk' ?_ ?_ <;> (repeat' (first | exact aI | exact aJ | refine aB ?_ (Ty.aU _) | refine aB ?_ (Ty.aE _))))
  all_goals skip
 refine cZ (aQ (aQ (ay rfl (aC (aG (aA (cE rfl (aD (aC ?_)))))))))
 refine av (bz rfl rfl ?_)
 all_goals skip
 exact bE rfl rfl (congrArg (Ty.int .i64) (iO (by have := k.2; rwa [List.take_of_length_le (by omega)] at this)).symm)
set_option maxRecDepth 100000 in
theorem lu (l : List Level) (t : Ty) (h1 : t.one = true) (q : Level → Bool) (hd : t.deps = []) (hc : t.cdeps = []) (hf : ∀ x ∈ l, oU Tryz.prog t [Ty.agg (ct.tys x)] (Ty.bool (q x))) : dy Tryz.prog 84 [Ty.sl ct l, t] (Ty.bool (l.any q)) := by
 refine bC Tryz.func84 rfl (by decide) Tryz.ntmps84 (by exact Nat.le_of_ble_eq_true rfl) fun w0 M0 => ?_
 refine aG (aA (dw rfl (aD (aC (aG (aA (fU rfl ?_)))))))
 refine eK (ty := t) rfl ?_
 refine az (u9 l t h1 q hd hc hf) rfl (by exact bY rfl (bY hd rfl)) (by exact bR rfl (bR hc rfl)) rfl rfl ?_
 refine bF rfl rfl rfl (dw rfl (aD (aC (av (bz rfl rfl ?_)))))
 all_goals skip
 exact bE rfl rfl (congrArg Ty.bool (qL q l))
set_option maxRecDepth 100000 in
theorem Aq (x : Level) (t : Ty) (h1 : t.one = true) (b : Bool) (hd : t.deps = []) (hc : t.cdeps = []) (hf : oU Tryz.prog t [Ty.agg (ct.tys x)] (Ty.bool b)) : dy Tryz.prog 192 [Ty.agg (ct.tys x), Ty.pp [t]] (Ty.bool (!b)) := by
 refine bC Tryz.func192 rfl (by decide) Tryz.ntmps192 (by exact Nat.le_of_ble_eq_true rfl) fun w0 M0 => ?_
 refine aG (aA (bM rfl (dw rfl (aD (aC (aG (aA (aL rfl rfl rfl rfl ?_))))))))
 refine aZ rfl rfl rfl (by exact Nat.le_of_ble_eq_true rfl) ?_
 refine ep rfl hf rfl (eE rfl (dw rfl (aD (aC (av (bz rfl rfl ?_))))))
 all_goals exact cV rfl rfl
set_option maxRecDepth 100000 in
theorem oZ (l : List Level) (t : Ty) (h1 : t.one = true) (q : Level → Bool) (hd : t.deps = []) (hc : t.cdeps = []) (hf : ∀ x ∈ l, oU Tryz.prog t [Ty.agg (ct.tys x)] (Ty.bool (q x))) : dy Tryz.prog 148 [Ty.sl ct l, t] (Ty.bool (l.all q)) := by
 refine bC Tryz.func148 rfl (by decide) Tryz.ntmps148 (by exact Nat.le_of_ble_eq_true rfl) fun w0 M0 => ?_
 refine aG (aA ?_)
 refine gO (ty := t) rfl h1 ?_
 refine dw rfl (aD (aC (aG (aA (fU rfl (dP rfl ?_))))))
 refine az (lu l (Ty.jC _ [Ty.pp [t]]) rfl (fun x => !q x) (by exact bY (bY hd rfl) rfl) (by exact bR (bR hc rfl) rfl) fun x hx => dZ (Aq x t h1 (q x) hd hc (hf x hx)) rfl rfl (by exact bY (bY hd rfl) rfl) (by exact bR (bR hc rfl) rfl) rfl rfl) rfl (by exact bY rfl (bY (bY (bY hd rfl) rfl) rfl)) (by exact bR rfl (bR (bR (bR hc rfl) rfl) rfl)) rfl rfl ?_
 refine eE rfl (dw rfl (aD (aC (av (bz rfl rfl ?_)))))
 all_goals skip
 exact bE rfl rfl (congrArg Ty.bool (sN q l))
set_option maxRecDepth 100000 in
theorem vK (l : List Cm) (t : Ty) (h1 : t.one = true) (q : Cm → Bool) (hd : t.deps = []) (hc : t.cdeps = []) (hf : ∀ x ∈ l, oU Tryz.prog t [Ty.agg (q8.tys x)] (Ty.bool (q x))) : dy Tryz.prog 199 [Ty.sl q8 l, t] (Ty.int .i64 (fidx q l)) := by
 refine bC Tryz.func199 rfl (by decide) Tryz.ntmps199 (by exact Nat.le_of_ble_eq_true rfl) fun w0 M0 => ?_
 refine j6 (s := 0) rfl rfl kI fun hl => ?_
 refine aG (aA (cE rfl (aD (aC (aG (aG (aA (fU rfl (cY rfl rfl rfl ?_)))))))))
 refine bQ rfl (aD (aC (ak ?_)))
 refine cg (fun (k : {k : Nat // ∀ x ∈ l.take k, q x = false}) => live [(0, Ty.sl q8 l), (1, t), (7, Ty.int .i64 l.length), (8, Ty.int .i64 (k.1 : Nat))] []) (fun k => l.length - k.1) (⟨0, by simp⟩) ?_ fun k => ?_
 ·(refine dG.mk' ?_ ?_ <;> (repeat' (first | exact aI | exact aJ | refine aB ?_ (Ty.aU _) | refine aB ?_ (Ty.aE _))))
 refine aG (aA (bF rfl rfl rfl (aD (aC (aG ?_)))))
 refine aq rfl (fun hc1 => ?_) (fun hc1 => ?_)
 ·
  refine aj (aC (aG (ak (aG (aA (bQ rfl (cE rfl (aD (aC ?_)))))))))
  refine aG (aA ?_)
  refine eK (ty := t) rfl ?_
  refine fU rfl (bQ rfl ?_)
  refine bH rfl rfl rfl rfl rfl rfl (by omega) ?_
  refine aZ rfl rfl rfl (by exact Nat.le_of_ble_eq_true rfl) ?_
  refine ep rfl (hf _ (cL (by omega))) rfl ?_
  refine aD (aC ?_)
  refine cx rfl (fun hc2 => ?_) (fun hc2 => ?_)
  ·
   refine aG (aA (bQ rfl (cE rfl (aD (aC (av (bJ (aW (aW ?_)))))))))
   refine bJ (aW (bz rfl rfl ?_))
   all_goals skip
   exact bE rfl rfl (congrArg (Ty.int .i64) (gp (by omega) k.2 (by rw [← g9]; exact hc2)).symm)
  refine aj (bX (aC (aA ?_)))
  refine cD rfl rfl (by omega) (by omega) ?_
  refine bQ rfl (aD ?_)
  refine bl (⟨k.1 + 1, by rw [eG (by omega)]; intro x hx; rcases List.mem_append.1 hx with h | h; exact k.2 x h; rw [List.mem_singleton.1 h]; exact hc2⟩) ?_ (by show l.length - (k.1 + 1) < l.length - k.1; omega)
  (refine dG.mk' ?_ ?_ <;> (repeat' (first | exact aI | exact aJ | refine aB ?_ (Ty.aU _) | refine aB ?_ (Ty.aE _))))
  all_goals skip
 refine cZ (aQ (aQ (ay rfl (aC (aG (aA (cE rfl (aD (aC ?_)))))))))
 refine av (bz rfl rfl ?_)
 all_goals skip
 exact bE rfl rfl (congrArg (Ty.int .i64) (iO (by have := k.2; rwa [List.take_of_length_le (by omega)] at this)).symm)
set_option maxRecDepth 100000 in
theorem mB (l : List Cm) (t : Ty) (h1 : t.one = true) (q : Cm → Bool) (hd : t.deps = []) (hc : t.cdeps = []) (hf : ∀ x ∈ l, oU Tryz.prog t [Ty.agg (q8.tys x)] (Ty.bool (q x))) : dy Tryz.prog 185 [Ty.sl q8 l, t] (Ty.bool (l.any q)) := by
 refine bC Tryz.func185 rfl (by decide) Tryz.ntmps185 (by exact Nat.le_of_ble_eq_true rfl) fun w0 M0 => ?_
 refine aG (aA (dw rfl (aD (aC (aG (aA (fU rfl ?_)))))))
 refine eK (ty := t) rfl ?_
 refine az (vK l t h1 q hd hc hf) rfl (by exact bY rfl (bY hd rfl)) (by exact bR rfl (bR hc rfl)) rfl rfl ?_
 refine bF rfl rfl rfl (dw rfl (aD (aC (av (bz rfl rfl ?_)))))
 all_goals skip
 exact bE rfl rfl (congrArg Ty.bool (qL q l))
set_option maxRecDepth 100000 in
theorem A2 (x : Cm) (t : Ty) (h1 : t.one = true) (b : Bool) (hd : t.deps = []) (hc : t.cdeps = []) (hf : oU Tryz.prog t [Ty.agg (q8.tys x)] (Ty.bool b)) : dy Tryz.prog 186 [Ty.agg (q8.tys x), Ty.pp [t]] (Ty.bool (!b)) := by
 refine bC Tryz.func186 rfl (by decide) Tryz.ntmps186 (by exact Nat.le_of_ble_eq_true rfl) fun w0 M0 => ?_
 refine aG (aA (bM rfl (dw rfl (aD (aC (aG (aA (aL rfl rfl rfl rfl ?_))))))))
 refine aZ rfl rfl rfl (by exact Nat.le_of_ble_eq_true rfl) ?_
 refine ep rfl hf rfl (eE rfl (dw rfl (aD (aC (av (bz rfl rfl ?_))))))
 all_goals exact cV rfl rfl
set_option maxRecDepth 100000 in
theorem CO (l : List Cm) (t : Ty) (h1 : t.one = true) (q : Cm → Bool) (hd : t.deps = []) (hc : t.cdeps = []) (hf : ∀ x ∈ l, oU Tryz.prog t [Ty.agg (q8.tys x)] (Ty.bool (q x))) : dy Tryz.prog 133 [Ty.sl q8 l, t] (Ty.bool (l.all q)) := by
 refine bC Tryz.func133 rfl (by decide) Tryz.ntmps133 (by exact Nat.le_of_ble_eq_true rfl) fun w0 M0 => ?_
 refine aG (aA ?_)
 refine gO (ty := t) rfl h1 ?_
 refine dw rfl (aD (aC (aG (aA (fU rfl (dP rfl ?_))))))
 refine az (mB l (Ty.jC _ [Ty.pp [t]]) rfl (fun x => !q x) (by exact bY (bY hd rfl) rfl) (by exact bR (bR hc rfl) rfl) fun x hx => dZ (A2 x t h1 (q x) hd hc (hf x hx)) rfl rfl (by exact bY (bY hd rfl) rfl) (by exact bR (bR hc rfl) rfl) rfl rfl) rfl (by exact bY rfl (bY (bY (bY hd rfl) rfl) rfl)) (by exact bR rfl (bR (bR (bR hc rfl) rfl) rfl)) rfl rfl ?_
 refine eE rfl (dw rfl (aD (aC (av (bz rfl rfl ?_)))))
 all_goals skip
 exact bE rfl rfl (congrArg Ty.bool (sN q l))
set_option maxRecDepth 100000 in
theorem uz (l : List cC) (t : Ty) (h1 : t.one = true) (q : cC → Bool) (hd : t.deps = []) (hc : t.cdeps = []) (hf : ∀ x ∈ l, oU Tryz.prog t [Ty.agg (dx.tys x)] (Ty.bool (q x))) : dy Tryz.prog 203 [Ty.sl dx l, t] (Ty.int .i64 (fidx q l)) := by
 refine bC Tryz.func203 rfl (by decide) Tryz.ntmps203 (by exact Nat.le_of_ble_eq_true rfl) fun w0 M0 => ?_
 refine j6 (s := 0) rfl rfl kI fun hl => ?_
 refine aG (aA (cE rfl (aD (aC (aG (aG (aA (fU rfl (cY rfl rfl rfl ?_)))))))))
 refine bQ rfl (aD (aC (ak ?_)))
 refine cg (fun (k : {k : Nat // ∀ x ∈ l.take k, q x = false}) => live [(0, Ty.sl dx l), (1, t), (7, Ty.int .i64 l.length), (8, Ty.int .i64 (k.1 : Nat))] []) (fun k => l.length - k.1) (⟨0, by simp⟩) ?_ fun k => ?_
 ·(refine dG.mk' ?_ ?_ <;> (repeat' (first | exact aI | exact aJ | refine aB ?_ (Ty.aU _) | refine aB ?_ (Ty.aE _))))
 refine aG (aA (bF rfl rfl rfl (aD (aC (aG ?_)))))
 refine aq rfl (fun hc1 => ?_) (fun hc1 => ?_)
 ·
  refine aj (aC (aG (ak (aG (aA (bQ rfl (cE rfl (aD (aC ?_)))))))))
  refine aG (aA ?_)
  refine eK (ty := t) rfl ?_
  refine fU rfl (bQ rfl ?_)
  refine bH rfl rfl rfl rfl rfl rfl (by omega) ?_
  refine aZ rfl rfl rfl (by exact Nat.le_of_ble_eq_true rfl) ?_
  refine ep rfl (hf _ (cL (by omega))) rfl ?_
  refine aD (aC ?_)
  refine cx rfl (fun hc2 => ?_) (fun hc2 => ?_)
  ·
   refine aG (aA (bQ rfl (cE rfl (aD (aC (av (bJ (aW (aW ?_)))))))))
   refine bJ (aW (bz rfl rfl ?_))
   all_goals skip
   exact bE rfl rfl (congrArg (Ty.int .i64) (gp (by omega) k.2 (by rw [← g9]; exact hc2)).symm)
  refine aj (bX (aC (aA ?_)))
  refine cD rfl rfl (by omega) (by omega) ?_
  refine bQ rfl (aD ?_)
  refine bl (⟨k.1 + 1, by rw [eG (by omega)]; intro x hx; rcases List.mem_append.1 hx with h | h; exact k.2 x h; rw [List.mem_singleton.1 h]; exact hc2⟩) ?_ (by show l.length - (k.1 + 1) < l.length - k.1; omega)
  (refine dG.mk' ?_ ?_ <;> (repeat' (first | exact aI | exact aJ | refine aB ?_ (Ty.aU _) | refine aB ?_ (Ty.aE _))))
  all_goals skip
 refine cZ (aQ (aQ (ay rfl (aC (aG (aA (cE rfl (aD (aC ?_)))))))))
 refine av (bz rfl rfl ?_)
 all_goals skip
 exact bE rfl rfl (congrArg (Ty.int .i64) (iO (by have := k.2; rwa [List.take_of_length_le (by omega)] at this)).symm)
set_option maxRecDepth 100000 in
theorem qz (l : List cC) (t : Ty) (h1 : t.one = true) (q : cC → Bool) (hd : t.deps = []) (hc : t.cdeps = []) (hf : ∀ x ∈ l, oU Tryz.prog t [Ty.agg (dx.tys x)] (Ty.bool (q x))) : dy Tryz.prog 197 [Ty.sl dx l, t] (Ty.bool (l.any q)) := by
 refine bC Tryz.func197 rfl (by decide) Tryz.ntmps197 (by exact Nat.le_of_ble_eq_true rfl) fun w0 M0 => ?_
 refine aG (aA (dw rfl (aD (aC (aG (aA (fU rfl ?_)))))))
 refine eK (ty := t) rfl ?_
 refine az (uz l t h1 q hd hc hf) rfl (by exact bY rfl (bY hd rfl)) (by exact bR rfl (bR hc rfl)) rfl rfl ?_
 refine bF rfl rfl rfl (dw rfl (aD (aC (av (bz rfl rfl ?_)))))
 all_goals skip
 exact bE rfl rfl (congrArg Ty.bool (qL q l))
set_option maxRecDepth 100000 in
theorem AD (x : cC) (t : Ty) (h1 : t.one = true) (b : Bool) (hd : t.deps = []) (hc : t.cdeps = []) (hf : oU Tryz.prog t [Ty.agg (dx.tys x)] (Ty.bool b)) : dy Tryz.prog 198 [Ty.agg (dx.tys x), Ty.pp [t]] (Ty.bool (!b)) := by
 refine bC Tryz.func198 rfl (by decide) Tryz.ntmps198 (by exact Nat.le_of_ble_eq_true rfl) fun w0 M0 => ?_
 refine aG (aA (bM rfl (dw rfl (aD (aC (aG (aA (aL rfl rfl rfl rfl ?_))))))))
 refine aZ rfl rfl rfl (by exact Nat.le_of_ble_eq_true rfl) ?_
 refine ep rfl hf rfl (eE rfl (dw rfl (aD (aC (av (bz rfl rfl ?_))))))
 all_goals exact cV rfl rfl
set_option maxRecDepth 100000 in
theorem Cz (l : List cC) (t : Ty) (h1 : t.one = true) (q : cC → Bool) (hd : t.deps = []) (hc : t.cdeps = []) (hf : ∀ x ∈ l, oU Tryz.prog t [Ty.agg (dx.tys x)] (Ty.bool (q x))) : dy Tryz.prog 176 [Ty.sl dx l, t] (Ty.bool (l.all q)) := by
 refine bC Tryz.func176 rfl (by decide) Tryz.ntmps176 (by exact Nat.le_of_ble_eq_true rfl) fun w0 M0 => ?_
 refine aG (aA ?_)
 refine gO (ty := t) rfl h1 ?_
 refine dw rfl (aD (aC (aG (aA (fU rfl (dP rfl ?_))))))
 refine az (qz l (Ty.jC _ [Ty.pp [t]]) rfl (fun x => !q x) (by exact bY (bY hd rfl) rfl) (by exact bR (bR hc rfl) rfl) fun x hx => dZ (AD x t h1 (q x) hd hc (hf x hx)) rfl rfl (by exact bY (bY hd rfl) rfl) (by exact bR (bR hc rfl) rfl) rfl rfl) rfl (by exact bY rfl (bY (bY (bY hd rfl) rfl) rfl)) (by exact bR rfl (bR (bR (bR hc rfl) rfl) rfl)) rfl rfl ?_
 refine eE rfl (dw rfl (aD (aC (av (bz rfl rfl ?_)))))
 all_goals skip
 exact bE rfl rfl (congrArg Ty.bool (sN q l))
set_option maxRecDepth 100000 in
theorem vB (l : List Span) (t : Ty) (h1 : t.one = true) (q : Span → Bool) (hd : t.deps = []) (hc : t.cdeps = []) (hf : ∀ x ∈ l, oU Tryz.prog t [Ty.agg (dm.tys x)] (Ty.bool (q x))) : dy Tryz.prog 38 [Ty.sl dm l, t] (Ty.int .i64 (fidx q l)) := by
 refine bC Tryz.func38 rfl (by decide) Tryz.ntmps38 (by exact Nat.le_of_ble_eq_true rfl) fun w0 M0 => ?_
 refine j6 (s := 0) rfl rfl kI fun hl => ?_
 refine aG (aA (cE rfl (aD (aC (aG (aG (aA (fU rfl (cY rfl rfl rfl ?_)))))))))
 refine bQ rfl (aD (aC (ak ?_)))
 refine cg (fun (k : {k : Nat // ∀ x ∈ l.take k, q x = false}) => live [(0, Ty.sl dm l), (1, t), (7, Ty.int .i64 l.length), (8, Ty.int .i64 (k.1 : Nat))] []) (fun k => l.length - k.1) (⟨0, by simp⟩) ?_ fun k => ?_
 ·(refine dG.mk' ?_ ?_ <;> (repeat' (first | exact aI | exact aJ | refine aB ?_ (Ty.aU _) | refine aB ?_ (Ty.aE _))))
 refine aG (aA (bF rfl rfl rfl (aD (aC (aG ?_)))))
 refine aq rfl (fun hc1 => ?_) (fun hc1 => ?_)
 ·
  refine aj (aC (aG (ak (aG (aA (bQ rfl (cE rfl (aD (aC ?_)))))))))
  refine aG (aA ?_)
  refine eK (ty := t) rfl ?_
  refine fU rfl (bQ rfl ?_)
  refine bH rfl rfl rfl rfl rfl rfl (by omega) ?_
  refine aZ rfl rfl rfl (by exact Nat.le_of_ble_eq_true rfl) ?_
  refine ep rfl (hf _ (cL (by omega))) rfl ?_
  refine aD (aC ?_)
  refine cx rfl (fun hc2 => ?_) (fun hc2 => ?_)
  ·
   refine aG (aA (bQ rfl (cE rfl (aD (aC (av (bJ (aW (aW ?_)))))))))
   refine bJ (aW (bz rfl rfl ?_))
   all_goals skip
   exact bE rfl rfl (congrArg (Ty.int .i64) (gp (by omega) k.2 (by rw [← g9]; exact hc2)).symm)
  refine aj (bX (aC (aA ?_)))
  refine cD rfl rfl (by omega) (by omega) ?_
  refine bQ rfl (aD ?_)
  refine bl (⟨k.1 + 1, by rw [eG (by omega)]; intro x hx; rcases List.mem_append.1 hx with h | h; exact k.2 x h; rw [List.mem_singleton.1 h]; exact hc2⟩) ?_ (by show l.length - (k.1 + 1) < l.length - k.1; omega)
  (refine dG.mk' ?_ ?_ <;> (repeat' (first | exact aI | exact aJ | refine aB ?_ (Ty.aU _) | refine aB ?_ (Ty.aE _))))
  all_goals skip
 refine cZ (aQ (aQ (ay rfl (aC (aG (aA (cE rfl (aD (aC ?_)))))))))
 refine av (bz rfl rfl ?_)
 all_goals skip
 exact bE rfl rfl (congrArg (Ty.int .i64) (iO (by have := k.2; rwa [List.take_of_length_le (by omega)] at this)).symm)
end Go.Proofs.YtelbollidfdcjaaGreat
