/- Lemmas: the program and the reference walked, plain laws. -/
import Derived.Test.YtelbollidfdcjaaGreatMa
namespace Go.Proofs.YtelbollidfdcjaaGreat
open Go Go.T
section
variable {fl : List cB} {a : List Int} {n : Nat} {w u : Way} {c x y z by_ : Int}
def DO (fl : List cB) (a : List Int) (c : Int) (i : Nat) : List Way := (if nth a i < (nth fl i).hi ∧ (nth fl i).src = c then [⟨i, true⟩] else []) ++ (if nth a i > (nth fl i).lo ∧ (nth fl i).dst = c then [⟨i, false⟩] else [])
def bO (fl : List cB) (a : List Int) (c : Int) : List Way := (List.range fl.length).flatMap (DO fl a c)
theorem mm : w ∈ bO fl a c ↔ Open fl a w ∧ w.iA fl = c := by
  unfold bO DO Open Way.room Way.iA
  rw [List.mem_flatMap]
  constructor
  · rintro ⟨i, hi, h⟩
    rw [List.mem_range] at hi
    rcases List.mem_append.1 h with h | h
    · split at h
      · rename_i hc; rw [List.mem_singleton.1 h]; exact ⟨⟨hi, by simp only [if_true]; omega⟩, hc.2⟩
      · cases h
    · split at h
      · rename_i hc; rw [List.mem_singleton.1 h]; exact ⟨⟨hi, by simp only [Bool.false_eq_true, if_false]; omega⟩, hc.2⟩
      · cases h
  · rintro ⟨⟨h1, h2⟩, h3⟩
    refine ⟨w.ix, List.mem_range.2 h1, ?_⟩
    obtain ⟨i, m⟩ := w
    cases m with
    | true =>
      simp only [if_true] at h2 h3
      refine List.mem_append.2 (.inl ?_)
      rw [if_pos ⟨by show nth a i < (nth fl i).hi; have : 0 < (nth fl i).hi - nth a i := h2; omega, h3⟩]; exact List.mem_singleton.2 rfl
    | false =>
      simp only [Bool.false_eq_true, if_false] at h2 h3
      refine List.mem_append.2 (.inr ?_)
      rw [if_pos ⟨by show nth a i > (nth fl i).lo; have : 0 < nth a i - (nth fl i).lo := h2; omega, h3⟩]; exact List.mem_singleton.2 rfl
theorem DM (i : Nat) : (DO fl a c i).length ≤ 2 := by
 unfold DO; split <;> split <;> simp
theorem ox : (bO fl a c).length ≤ 2 * fl.length := by
  have key : ∀ n, ((List.range n).flatMap (DO fl a c)).length ≤ 2 * n := by
    intro n
    induction n with
    | zero => simp
    | succ n ih => rw [List.range_succ, List.flatMap_append, List.length_append, List.flatMap_singleton]; have := DM (fl := fl) (a := a) (c := c) n; omega
  exact key _
theorem Net.way (hN : Net fl n) (h : w.ix < fl.length) : (0 ≤ w.iA fl ∧ w.iA fl < n) ∧ (0 ≤ w.fin fl ∧ w.fin fl < n) ∧ w.iA fl ≠ w.fin fl := by
 unfold Way.iA Way.fin
 have h1 := hN.src _ h
 have h2 := hN.dst _ h
 have h3 := hN.ne _ h
 cases w.more <;> simp <;> omega
def yO (w : Way) (k : Int) : Int := if w.more then k else -k
def lI (a : List Int) (w : Way) (k : Int) : List Int := a.set w.ix (nth a w.ix + yO w k)
def dz (a : List Int) (l : List Way) (k : Int) : List Int := l.foldl (fun a w => lI a w k) a
theorem qW (k : Int) : (lI a w k).length = a.length := List.length_set
theorem tU (k : Int) : ∀ (l : List Way) (a : List Int), (dz a l k).length = a.length
  | [], _ => rfl
  | w :: l, a => (tU k l (lI a w k)).trans (qW k)
theorem r6 (l : List Way) (k : Int) : dz a (l ++ [w]) k = lI (dz a l k) w k := by unfold dz; rw [List.foldl_append]; rfl
theorem kB (h : w.ix < a.length) (i : Nat) (k : Int) : nth (lI a w k) i = if w.ix = i then nth a i + yO w k else nth a i := by
 unfold lI
 by_cases e : i < a.length
 ·rw [iz e]; split
  ·rename_i e; subst e; rfl
  rfl
 rw [if_neg (by omega)]
 have h1 : (a.set w.ix (nth a w.ix + yO w k))[i]? = none := List.getElem?_eq_none (by rw [List.length_set]; omega)
 have h2 : a[i]? = none := List.getElem?_eq_none (by omega)
 unfold nth at *
 simp only [List.getD_eq_getElem?_getD] at *
 rw [h1, h2]
theorem Du (hl : a.length = fl.length) (h : w.ix < fl.length) (k : Int) (c : Int) : over fl (lI a w k) c = over fl a c + (ind (w.fin fl = c) - ind (w.iA fl = c)) * k := by
  unfold over
  have e : c7 (fun i => (ind ((nth fl i).dst = c) - ind ((nth fl i).src = c)) * nth (lI a w k) i) fl.length - c7 (fun i => (ind ((nth fl i).dst = c) - ind ((nth fl i).src = c)) * nth a i) fl.length = (ind (w.fin fl = c) - ind (w.iA fl = c)) * k := by
    rw [← kf, je h fun i _ hn => by rw [kB (by omega), if_neg (fun e => hn e.symm)]; omega]
    rw [kB (by omega), if_pos rfl, ← Int.mul_sub, show nth a w.ix + yO w k - nth a w.ix = yO w k by omega]
    unfold yO Way.fin Way.iA
    cases w.more with
    | true => simp
    | false => simp only [Bool.false_eq_true, if_false]; rw [Int.mul_neg, ← Int.neg_mul, Int.neg_sub]
  omega
def Trail (fl : List cB) : List Way → Int → Int → Prop
  | [], x, y => x = y
  | w :: l, x, y => w.fin fl = x ∧ Trail fl l (w.iA fl) y
theorem uI (hl : a.length = fl.length) (k : Int) : ∀ (l : List Way) (a : List Int) (x y : Int), a.length = fl.length → (∀ w ∈ l, w.ix < fl.length) → Trail fl l x y → ∀ c, over fl (dz a l k) c = over fl a c + (ind (x = c) - ind (y = c)) * k
  | [], a, x, y, _, _, h, c => by obtain rfl : x = y := h; simp [dz]
  | w :: l, a, x, y, ha, hw, h, c => by
    show over fl (dz (lI a w k) l k) c = _
    rw [uI hl k l _ (w.iA fl) y (by rw [qW]; exact ha) (fun u hu => hw u (List.mem_cons_of_mem _ hu)) h.2, Du ha (hw w List.mem_cons_self), h.1]
    rw [Int.add_assoc, ← Int.add_mul]
    congr 2; omega
theorem Gu (hl : a.length = fl.length) (hw : w.ix < fl.length) {k : Int} (hk : 0 ≤ k) (hne : u ≠ w) : u.room fl a ≤ u.room fl (lI a w k) := by
 unfold Way.room
 rw [kB (by omega)]
 by_cases e : w.ix = u.ix
 ·rw [if_pos e]
  have hm : u.more ≠ w.more := fun h => hne (by cases u; cases w; simp_all)
  unfold yO
  revert hm
  cases u.more <;> cases w.more <;> simp <;> omega
 rw [if_neg e]; exact Int.le_refl _
theorem Hy (h : yR fl a) (hw : w.ix < fl.length) {k : Int} (hk : 0 ≤ k) (hr : k ≤ w.room fl a) : yR fl (lI a w k) := by
 refine ⟨by rw [qW]; exact h.1, fun i hi => ?_⟩
 have hb := h.2 i hi
 have hl := h.1
 rw [kB (by omega)]
 split
 ·rename_i e; subst e
  unfold Way.room at hr; unfold yO
  revert hr
  cases w.more <;> simp <;> omega
 exact hb
theorem xS {k : Int} (hk : 0 ≤ k) : ∀ (l : List Way) (a : List Int), yR fl a → l.Nodup → (∀ w ∈ l, w.ix < fl.length ∧ k ≤ w.room fl a) → yR fl (dz a l k)
  | [], _, h, _, _ => h
  | w :: l, a, h, hn, hw => by
    rw [List.nodup_cons] at hn
    have h0 := hw w List.mem_cons_self
    refine xS hk l _ (Hy h h0.1 hk h0.2) hn.2 fun u hu => ?_
    have h1 := hw u (List.mem_cons_of_mem _ hu)
    exact ⟨h1.1, Int.le_trans h1.2 (Gu h.1 h0.1 hk fun e => hn.1 (by rw [← e]; exact hu))⟩
theorem Cx (hl : a.length = fl.length) (h : w.ix < fl.length) (g : Nat → Int) (k : Int) : c7 (fun i => g i * nth (lI a w k) i) fl.length = c7 (fun i => g i * nth a i) fl.length + yO w (g w.ix) * k := by
  have e : c7 (fun i => g i * nth (lI a w k) i) fl.length - c7 (fun i => g i * nth a i) fl.length = yO w (g w.ix) * k := by
    rw [← kf, je h fun i _ hn => by rw [kB (by omega), if_neg (fun e => hn e.symm)]; omega]
    rw [kB (by omega), if_pos rfl, ← Int.mul_sub, show nth a w.ix + yO w k - nth a w.ix = yO w k by omega]
    unfold yO
    cases w.more with
    | true => simp
    | false => simp only [Bool.false_eq_true, if_false]; rw [Int.mul_neg, Int.neg_mul]
  omega
def yC (g : Nat → Int) (l : List Way) : Int := (l.map fun w => yO w (g w.ix)).sum
theorem xP (g : Nat → Int) (k : Int) : ∀ (l : List Way) (a : List Int), a.length = fl.length → (∀ w ∈ l, w.ix < fl.length) → c7 (fun i => g i * nth (dz a l k) i) fl.length = c7 (fun i => g i * nth a i) fl.length + yC g l * k
  | [], a, _, _ => by simp [dz, yC]
  | w :: l, a, ha, hw => by
    show c7 (fun i => g i * nth (dz (lI a w k) l k) i) fl.length = _
    rw [xP g k l _ (by rw [qW]; exact ha) fun u hu => hw u (List.mem_cons_of_mem _ hu), Cx ha (hw w List.mem_cons_self)]
    unfold yC
    rw [List.map_cons, List.sum_cons, Int.add_mul]; omega
theorem C6 (hN : Net fl n) : c7 (fun c => over fl a c) n = 0 := by
 have h := yJ (a := a) hN fun _ => 1
 rw [fO (g := fun c : Nat => over fl a c) fun c _ => Int.one_mul _] at h
 rw [h]
 exact gb fun i _ => by rw [Int.sub_self, Int.zero_mul]
theorem Nm (hN : Net fl n) (h : ∀ c : Nat, c < n → ¬ 0 < over fl a c) : DU fl n a := by
 intro c hc
 have h0 := C6 (a := a) hN
 by_cases e : over fl a c = 0
 ·exact e
 have := Aq (f := fun c : Nat => over fl a c) (g := fun _ => 0) hc (fun i hi => by have := h i hi; show over fl a i ≤ 0; omega) (by have := h c hc; show over fl a c < 0; omega)
 rw [h0, gb fun _ _ => rfl] at this
 omega
end
end Go.Proofs.YtelbollidfdcjaaGreat
namespace Go.Proofs.YtelbollidfdcjaaGreat
open Go Go.T
section
variable {fl : List cB} {a : List Int} {n : Nat} {s : Int} {c : Int} {w : Way}
structure rJ where
  by_ : List (Int × Way)
  queue : List Int
instance : Inhabited rJ := ⟨⟨[], []⟩⟩
def yP (q : List (Int × Way)) (s c : Int) : Prop := c = s ∨ c ∈ q.map Prod.fst
def vW (fl : List cB) (s : Int) (q : List (Int × Way)) (w : Way) : Bool := !(e9 q (w.fin fl)).isSome && !decide (w.fin fl = s)
def vG (fl : List cB) (s : Int) (x : rJ) (w : Way) : rJ := if vW fl s x.by_ w = true then ⟨iE x.by_ (w.fin fl) w, x.queue ++ [w.fin fl]⟩ else x
theorem uP {x : rJ} (h : vW fl s x.by_ w = true) : vG fl s x w = ⟨iE x.by_ (w.fin fl) w, x.queue ++ [w.fin fl]⟩ := if_pos h
theorem wz {x : rJ} (h : vW fl s x.by_ w = false) : vG fl s x w = x := if_neg (by rw [h]; decide)
def fI (fl : List cB) (a : List Int) (s c : Int) (x : rJ) (k : Nat) : rJ := ((bO fl a c).take k).foldl (vG fl s) x
theorem oC {x : rJ} {k : Nat} (hk : k < (bO fl a c).length) : fI fl a s c x (k + 1) = vG fl s (fI fl a s c x k) (nth (bO fl a c) k) := by
 unfold fI; rw [cQ hk, List.foldl_append]; rfl
def wI (fl : List cB) (a : List Int) (s : Int) (x : rJ) : rJ ⊕ List (Int × Way) :=
  match x.queue with
  | [] => .inr x.by_
  | c :: r => .inl (fI fl a s c ⟨x.by_, r⟩ (bO fl a c).length)
noncomputable def cO (fl : List cB) (a : List Int) (s : Int) : List (Int × Way) := nK (wI fl a s) ⟨[], [s]⟩
structure lZ (fl : List cB) (a : List Int) (n : Nat) (s : Int) (x : rJ) (cur : Option (Int × List Way)) : Prop where
  keys : (x.by_.map Prod.fst).Nodup
  range : ∀ c ∈ x.by_.map Prod.fst, 0 ≤ c ∧ c < n
  out : s ∉ x.by_.map Prod.fst
  q : ∀ c ∈ x.queue, yP x.by_ s c
  arc : ∃ dep : Int → Nat, dep s = 0 ∧ ∀ c w, e9 x.by_ c = some w → Open fl a w ∧ w.fin fl = c ∧ yP x.by_ s (w.iA fl) ∧ dep (w.iA fl) < dep c ∧ dep c ≤ x.by_.length
  done : ∀ c, yP x.by_ s c → c ∉ x.queue → ∀ w ∈ bO fl a c, yP x.by_ s (w.fin fl) ∨ ∃ r, cur = some (c, r) ∧ w ∈ r
  cur : ∀ c r, cur = some (c, r) → yP x.by_ s c ∧ ∀ w ∈ r, Open fl a w ∧ w.iA fl = c
theorem N9 (hs : 0 ≤ s ∧ s < n) : lZ fl a n s ⟨[], [s]⟩ none :=
 ⟨List.nodup_nil, (fun c h => by cases h), (fun h => by cases h), fun c h => .inl (List.mem_singleton.1 h), ⟨fun _ => 0, rfl, fun c w h => by cases h⟩,
  (fun c h hn => by
   rcases h with rfl | h
   ·exact absurd (List.mem_singleton.2 rfl) hn
   cases h), fun c r h => by cases h⟩
theorem lZ.look (hN : Net fl n) {x : rJ} {r : List Way} (h : lZ fl a n s x (some (c, w :: r))) : lZ fl a n s (vG fl s x w) (some (c, r)) := by
  obtain ⟨hm, hw⟩ := h.cur c _ rfl
  obtain ⟨ho, hb⟩ := hw w List.mem_cons_self
  cases e : vW fl s x.by_ w with
  | false =>
    rw [wz e]
    have hmet : yP x.by_ s (w.fin fl) := by
      unfold vW at e
      rw [Bool.and_eq_false_iff, Bool.not_eq_false', Bool.not_eq_false', decide_eq_true_eq] at e
      rcases e with e | e
      · obtain ⟨v, hv⟩ := Option.isSome_iff_exists.1 e; exact .inr (mX hv)
      · exact .inl e
    refine ⟨h.keys, h.range, h.out, h.q, h.arc, fun c' hc hn u hu => ?_, fun c' r' e' => ?_⟩
    · rcases h.done c' hc hn u hu with h1 | ⟨r', e', hr⟩
      · exact .inl h1
      · injection e' with e'; injection e' with e1 e2; subst e1; subst e2
        rcases List.mem_cons.1 hr with rfl | hr
        · exact .inl hmet
        · exact .inr ⟨r, rfl, hr⟩
    · injection e' with e'; injection e' with e1 e2; subst e1; subst e2
      exact ⟨hm, fun u hu => hw u (List.mem_cons_of_mem _ hu)⟩
  | true =>
    rw [uP e]
    unfold vW at e
    rw [Bool.and_eq_true, Bool.not_eq_true', Bool.not_eq_true', decide_eq_false_iff_not] at e
    have hnone : e9 x.by_ (w.fin fl) = none := by cases h : e9 x.by_ (w.fin fl) with | none => rfl | some v => rw [h] at e; cases e.1
    have hnk : w.fin fl ∉ x.by_.map Prod.fst := fun hk => by obtain ⟨v, hv⟩ := pE hk; rw [hnone] at hv; cases hv
    have hkeys : ∀ z, z ∈ (iE x.by_ (w.fin fl) w).map Prod.fst ↔ z = w.fin fl ∨ z ∈ x.by_.map Prod.fst := q6 x.by_ (w.fin fl) w
    have hMet : ∀ z, yP (iE x.by_ (w.fin fl) w) s z ↔ z = w.fin fl ∨ yP x.by_ s z := fun z => by
      unfold yP; rw [hkeys]
      constructor
      · rintro (h | h | h)
        · exact .inr (.inl h)
        · exact .inl h
        · exact .inr (.inr h)
      · rintro (h | h | h)
        · exact .inr (.inl h)
        · exact .inl h
        · exact .inr (.inr h)
    have hnm : ¬ yP x.by_ s (w.fin fl) := fun h => h.elim e.2 hnk
    refine ⟨D8 _ _ _ h.keys, fun z hz => ?_, fun hs => ?_, fun z hz => ?_, ?_, fun z hz hn u hu => ?_, fun c' r' e' => ?_⟩
    · rcases (hkeys z).1 hz with rfl | hz
      · exact (hN.way ho.1).2.1
      · exact h.range z hz
    · rcases (hkeys s).1 hs with hs | hs
      · exact e.2 hs.symm
      · exact h.out hs
    · rw [hMet]
      rcases List.mem_append.1 hz with hz | hz
      · exact .inr (h.q z hz)
      · exact .inl (List.mem_singleton.1 hz)
    · obtain ⟨dep, d0, hd⟩ := h.arc
      refine ⟨fun z => if z = w.fin fl then dep c + 1 else dep z, by show (if s = w.fin fl then _ else _) = 0; rw [if_neg (fun h => e.2 h.symm)]; exact d0, fun z u hz => ?_⟩
      rw [y9] at hz
      rw [Bs _ _ _ hnone]
      have hcl : dep c ≤ x.by_.length := by
        rcases hm with rfl | hm
        · omega
        · obtain ⟨v, hv⟩ := pE hm; exact (hd c v hv).2.2.2.2
      have hcn : c ≠ w.fin fl := fun h => hnm (by rw [← h]; exact hm)
      by_cases ez : w.fin fl = z
      · rw [if_pos ez] at hz; injection hz with hz; subst hz
        refine ⟨ho, ez, (hMet _).2 (.inr (by rw [hb]; exact hm)), ?_, ?_⟩
        · show (if w.iA fl = w.fin fl then _ else _) < if z = w.fin fl then _ else _
          rw [hb, if_neg hcn, if_pos ez.symm]; omega
        · show (if z = w.fin fl then _ else _) ≤ _
          rw [if_pos ez.symm]; omega
      · rw [if_neg ez] at hz
        obtain ⟨a1, a2, a3, a4, a5⟩ := hd z u hz
        have hbn : u.iA fl ≠ w.fin fl := fun h => hnm (by rw [← h]; exact a3)
        refine ⟨a1, a2, (hMet _).2 (.inr a3), ?_, ?_⟩
        · show (if u.iA fl = w.fin fl then _ else _) < if z = w.fin fl then _ else _
          rw [if_neg hbn, if_neg (fun h => ez h.symm)]; exact a4
        · show (if z = w.fin fl then _ else _) ≤ _
          rw [if_neg (fun h => ez h.symm)]; omega
    · have hzn : z ≠ w.fin fl := fun h => hn (List.mem_append.2 (.inr (by rw [h]; exact List.mem_singleton.2 rfl)))
      have hz' : yP x.by_ s z := ((hMet z).1 hz).resolve_left hzn
      rcases h.done z hz' (fun h => hn (List.mem_append.2 (.inl h))) u hu with h1 | ⟨r', e', hr⟩
      · exact .inl ((hMet _).2 (.inr h1))
      · injection e' with e'; injection e' with e1 e2; subst e1; subst e2
        rcases List.mem_cons.1 hr with rfl | hr
        · exact .inl ((hMet _).2 (.inl rfl))
        · exact .inr ⟨r, rfl, hr⟩
    · injection e' with e'; injection e' with e1 e2; subst e1; subst e2
      exact ⟨(hMet _).2 (.inr hm), fun u hu => hw u (List.mem_cons_of_mem _ hu)⟩
theorem lZ.fold (hN : Net fl n) {x : rJ} (h : lZ fl a n s x (some (c, bO fl a c))) : ∀ k, k ≤ (bO fl a c).length → lZ fl a n s (fI fl a s c x k) (some (c, (bO fl a c).drop k))
  | 0, _ => by rw [List.drop_zero]; exact h
  | k + 1, hk => by
    have ih := lZ.fold hN h k (by omega)
    rw [oC (by omega)]
    refine lZ.look hN (w := nth (bO fl a c) k) ?_
    rw [List.drop_eq_getElem_cons (show k < (bO fl a c).length by omega)] at ih
    have e : nth (bO fl a c) k = (bO fl a c)[k] := by unfold nth; rw [List.getD_eq_getElem?_getD, List.getElem?_eq_getElem (by omega)]; rfl
    rw [e]; exact ih
theorem lZ.pop {x : rJ} {r : List Int} (h : lZ fl a n s x none) (hq : x.queue = c :: r) : lZ fl a n s ⟨x.by_, r⟩ (some (c, bO fl a c)) := by
 have hc := h.q c (by rw [hq]; exact List.mem_cons_self)
 refine ⟨h.keys, h.range, h.out, fun z hz => h.q z (by rw [hq]; exact List.mem_cons_of_mem _ hz), h.arc, fun z hz hn u hu => ?_, fun c' r' e => ?_⟩
 ·by_cases ez : z = c
  ·subst ez; exact .inr ⟨_, rfl, hu⟩
  rcases h.done z hz (fun hm => by rw [hq] at hm; rcases List.mem_cons.1 hm with e | e; exact ez e; exact hn e) u hu with h1 | ⟨_, e, _⟩
  ·exact .inl h1
  cases e
 injection e with e; injection e with e1 e2; subst e1; subst e2
 exact ⟨hc, fun w hw => mm.1 hw⟩
theorem lZ.over {x : rJ} (h : lZ fl a n s x (some (c, []))) : lZ fl a n s x none :=
 ⟨h.keys, h.range, h.out, h.q, h.arc, fun z hz hn u hu => (h.done z hz hn u hu).elim .inl (fun ⟨_, e, hr⟩ => by injection e with e; injection e with _ e; subst e; cases hr), fun _ _ e => by cases e⟩
theorem lZ.rB {x : rJ} {cur : Option (Int × List Way)} (h : lZ fl a n s x cur) : x.by_.length ≤ n := by
 have := s7 h.keys h.range
 rwa [List.length_map] at this
def O3 (n : Nat) (x : rJ) : Nat := (n - x.by_.length) * 2 + x.queue.length
theorem KE {x : rJ} : (vG fl s x w).by_.length ≥ x.by_.length ∧ (vG fl s x w).queue.length + x.by_.length = x.queue.length + (vG fl s x w).by_.length := by
  cases e : vW fl s x.by_ w with
  | false => rw [wz e]; exact ⟨Nat.le_refl _, rfl⟩
  | true =>
    rw [uP e]
    unfold vW at e
    rw [Bool.and_eq_true, Bool.not_eq_true'] at e
    have hnone : e9 x.by_ (w.fin fl) = none := by cases h : e9 x.by_ (w.fin fl) with | none => rfl | some v => rw [h] at e; cases e.1
    show (iE _ _ _).length ≥ _ ∧ (x.queue ++ [w.fin fl]).length + _ = _ + (iE _ _ _).length
    rw [Bs _ _ _ hnone, List.length_append, List.length_singleton]; omega
theorem xC {x : rJ} : ∀ k, k ≤ (bO fl a c).length → (fI fl a s c x k).by_.length ≥ x.by_.length ∧ (fI fl a s c x k).queue.length + x.by_.length = x.queue.length + (fI fl a s c x k).by_.length
  | 0, _ => ⟨Nat.le_refl _, rfl⟩
  | k + 1, hk => by
    have h1 := xC (x := x) k (by omega)
    rw [oC (by omega)]
    have h2 := KE (fl := fl) (s := s) (x := fI fl a s c x k) (w := nth (bO fl a c) k)
    omega
theorem xk (hN : Net fl n) {x : rJ} {r : List Int} (h : lZ fl a n s x none) (hq : x.queue = c :: r) : lZ fl a n s (fI fl a s c ⟨x.by_, r⟩ (bO fl a c).length) none ∧ O3 n (fI fl a s c ⟨x.by_, r⟩ (bO fl a c).length) < O3 n x := by
 have h1 := (h.pop hq).fold hN _ (Nat.le_refl _)
 rw [List.drop_length] at h1
 refine ⟨h1.over, ?_⟩
 have h2 := xC (fl := fl) (a := a) (s := s) (c := c) (x := ⟨x.by_, r⟩) _ (Nat.le_refl _)
 have h3 := h1.rB
 unfold O3
 rw [hq, List.length_cons]
 simp only at h2
 omega
structure AA (fl : List cB) (a : List Int) (n : Nat) (s : Int) (q : List (Int × Way)) : Prop where
  keys : (q.map Prod.fst).Nodup
  range : ∀ c ∈ q.map Prod.fst, 0 ≤ c ∧ c < n
  out : s ∉ q.map Prod.fst
  arc : ∃ dep : Int → Nat, dep s = 0 ∧ ∀ c w, e9 q c = some w → Open fl a w ∧ w.fin fl = c ∧ yP q s (w.iA fl) ∧ dep (w.iA fl) < dep c ∧ dep c ≤ q.length
  closed : ∀ w, Open fl a w → yP q s (w.iA fl) → yP q s (w.fin fl)
theorem lZ.spec {x : rJ} (h : lZ fl a n s x none) (hq : x.queue = []) : AA fl a n s x.by_ :=
 ⟨h.keys, h.range, h.out, h.arc, fun w ho hm => (h.done _ hm (by rw [hq]; exact List.not_mem_nil) w (mm.2 ⟨ho, rfl⟩)).elim id fun ⟨_, e, _⟩ => by cases e⟩
theorem rj (hN : Net fl n) (hs : 0 ≤ s ∧ s < n) : AA fl a n s (cO fl a s) := by
  refine nG (fun x => lZ fl a n s x none) (AA fl a n s) (O3 n) (fun x h => ?_) _ (N9 hs)
  cases hq : x.queue with
  | nil => exact .inr ⟨x.by_, by unfold wI; rw [hq], h.spec hq⟩
  | cons c r => exact .inl ⟨_, by unfold wI; rw [hq], xk hN h hq⟩
theorem AA.rB {q : List (Int × Way)} (h : AA fl a n s q) : q.length ≤ n := by
 have := s7 h.keys h.range
 rwa [List.length_map] at this
end
end Go.Proofs.YtelbollidfdcjaaGreat
namespace Go.Proofs.YtelbollidfdcjaaGreat
open Go Go.T
section
variable {fl : List cB} {a : List Int} {n : Nat} {s t c : Int} {w : Way} {q : List (Int × Way)}
def jz (q : List (Int × Way)) (c : Int) : Way := (e9 q c).getD default
def FF (fl : List cB) (q : List (Int × Way)) (s : Int) (x : Int × List Way) : (Int × List Way) ⊕ List Way :=
  if x.1 = s then .inr x.2 else .inl ((jz q x.1).iA fl, x.2 ++ [jz q x.1])
noncomputable def hH (fl : List cB) (q : List (Int × Way)) (s t : Int) : List Way := nK (FF fl q s) (t, [])
structure IU (fl : List cB) (a : List Int) (s t : Int) (l : List Way) : Prop where
  trail : Trail fl l t s
  ways : ∀ w ∈ l, Open fl a w
  nodup : l.Nodup
structure LR (fl : List cB) (a : List Int) (q : List (Int × Way)) (s t : Int) (dep : Int → Nat) (x : Int × List Way) : Prop where
  trail : Trail fl x.2 t x.1
  ways : ∀ w ∈ x.2, Open fl a w
  deep : ∀ w ∈ x.2, dep x.1 < dep (w.fin fl)
  nodup : x.2.Nodup
  met : yP q s x.1
  rB : x.2.length + dep x.1 ≤ dep t
theorem uA : ∀ {l : List Way} {x y : Int}, Trail fl l x y → w.fin fl = y → Trail fl (l ++ [w]) x (w.iA fl)
  | [], x, y, h, e => ⟨e.trans (show x = y from h).symm, rfl⟩
  | _ :: _, _, _, h, e => ⟨h.1, uA h.2 e⟩
theorem LR.next {dep : Int → Nat} (hd : ∀ c w, e9 q c = some w → Open fl a w ∧ w.fin fl = c ∧ yP q s (w.iA fl) ∧ dep (w.iA fl) < dep c ∧ dep c ≤ q.length) {x : Int × List Way} (h : LR fl a q s t dep x) (hx : ¬ x.1 = s) :
 LR fl a q s t dep ((jz q x.1).iA fl, x.2 ++ [jz q x.1]) ∧ dep ((jz q x.1).iA fl) < dep x.1 := by
 obtain ⟨v, hv⟩ := pE (h.met.resolve_left hx)
 have ev : jz q x.1 = v := by unfold jz; rw [hv]; rfl
 rw [ev]
 obtain ⟨h1, h2, h3, h4, _⟩ := hd _ _ hv
 refine ⟨⟨uA h.trail h2, fun w hw => ?_, fun w hw => ?_, ?_, h3, ?_⟩, h4⟩
 ·rcases List.mem_append.1 hw with hw | hw
  ·exact h.ways w hw
  rw [List.mem_singleton.1 hw]; exact h1
 ·rcases List.mem_append.1 hw with hw | hw
  ·exact Nat.lt_trans h4 (h.deep w hw)
  rw [List.mem_singleton.1 hw, h2]; exact h4
 ·rw [List.nodup_append]
  refine ⟨h.nodup, by simp, fun u hu w hw e => ?_⟩
  rw [List.mem_singleton.1 hw] at e
  have := h.deep u hu
  rw [e, h2] at this; omega
 show (x.2 ++ [v]).length + dep (v.iA fl) ≤ dep t
 rw [List.length_append, List.length_singleton]
 have := h.rB; omega
theorem Gk (h : AA fl a n s q) (ht : yP q s t) : IU fl a s t (hH fl q s t) ∧ (hH fl q s t).length ≤ q.length := by
 obtain ⟨dep, d0, hd⟩ := h.arc
 have htq : dep t ≤ q.length := by
  rcases ht with rfl | ht
  ·omega
  obtain ⟨v, hv⟩ := pE ht; exact (hd _ _ hv).2.2.2.2
 refine nG (LR fl a q s t dep) (fun l => IU fl a s t l ∧ l.length ≤ q.length) (fun x => dep x.1) (fun x hI => ?_) _ ⟨rfl, (fun w h => by cases h), (fun w h => by cases h), List.nodup_nil, ht, by simp⟩
 by_cases e : x.1 = s
 ·exact .inr ⟨x.2, if_pos e, ⟨by have := hI.trail; rwa [e] at this, hI.ways, hI.nodup⟩, by have := hI.rB; omega⟩
 obtain ⟨h1, h2⟩ := hI.next hd e
 exact .inl ⟨_, if_neg e, h1, h2⟩
def gW (fl : List cB) (a : List Int) (n : Nat) : List Int := (List.range n).map fun c => over fl a (c : Nat)
theorem AL : (gW fl a n).length = n := by unfold gW; rw [List.length_map, List.length_range]
theorem uB {k : Nat} (h : k < n) : nth (gW fl a n) k = over fl a k := by
 unfold gW nth
 rw [List.getD_eq_getElem?_getD, List.getElem?_map, List.getElem?_range h]; rfl
def fC (fl : List cB) (a : List Int) (m : Int) (l : List Way) : Int := l.foldl (fun m w => min m (w.room fl a)) m
theorem rP (m : Int) (l : List Way) : fC fl a m (l ++ [w]) = min (fC fl a m l) (w.room fl a) := by unfold fC; rw [List.foldl_append]; rfl
theorem tK (m : Int) : ∀ (l : List Way), fC fl a m l ≤ m ∧ ∀ w ∈ l, fC fl a m l ≤ w.room fl a := by
 refine C8 ⟨Int.le_refl _, fun w h => by cases h⟩ fun l u ih => ?_
 rw [rP]
 refine ⟨by have := ih.1; omega, fun w hw => ?_⟩
 rcases List.mem_append.1 hw with hw | hw
 ·have := ih.2 w hw; omega
 rw [List.mem_singleton.1 hw]; omega
theorem qX {m : Int} (hm : 0 < m) : ∀ (l : List Way), (∀ w ∈ l, Open fl a w) → 0 < fC fl a m l := by
 refine C8 (fun _ => hm) fun l u ih h => ?_
 rw [rP]
 have h1 := ih fun w hw => h w (List.mem_append.2 (.inl hw))
 have h2 := (h u (List.mem_append.2 (.inr (List.mem_singleton.2 rfl)))).2
 omega
def dY (fl : List cB) (a : List Int) (n : Nat) : Int := fidx (fun x : Int => decide (x > 0)) (gW fl a n)
def jP (fl : List cB) (a : List Int) (q : List (Int × Way)) (c : Nat) : Bool := (e9 q (c : Int)).isSome && decide (over fl a c < 0)
def eT (fl : List cB) (a : List Int) (n : Nat) (q : List (Int × Way)) : Int := fidx (jP fl a q) (List.range n)
noncomputable def j0 (fl : List cB) (a : List Int) (s t : Int) : List Int :=
  dz a (hH fl (cO fl a s) s t) (fC fl a (min (over fl a s) (-over fl a t)) (hH fl (cO fl a s) s t))
noncomputable def Fa (fl : List cB) (n : Nat) (a : List Int) : List Int ⊕ (Int × Bool × List Int) :=
  if dY fl a n < 0 then .inr (0, false, a)
  else if eT fl a n (cO fl a (dY fl a n)) < 0 then .inr (dY fl a n, true, a)
  else .inl (j0 fl a (dY fl a n) (eT fl a n (cO fl a (dY fl a n))))
instance : Inhabited (Int × Bool × List Int) := ⟨(0, false, [])⟩
noncomputable def gP (fl : List cB) (n : Nat) (a : List Int) : Int × Bool × List Int := nK (Fa fl n) a
theorem DW {α : Type} [Inhabited α] {p : α → Bool} {l : List α} (h : ¬ fidx p l < 0) : ∃ k : Nat, k < l.length ∧ fidx p l = k ∧ p (nth l k) = true := by
  unfold fidx at *
  cases e : l.findIdx? p with
  | none => rw [e] at h; exact absurd (by decide) h
  | some i =>
    rw [List.findIdx?_eq_some_iff_getElem] at e
    obtain ⟨h1, h2, _⟩ := e
    refine ⟨i, h1, rfl, ?_⟩
    unfold nth; rw [List.getD_eq_getElem?_getD, List.getElem?_eq_getElem h1]; exact h2
theorem Bi {α : Type} {p : α → Bool} {l : List α} (h : fidx p l < 0) : ∀ x ∈ l, p x = false := by
  unfold fidx at h
  cases e : l.findIdx? p with
  | none => simpa using e
  | some i => rw [e] at h; exact absurd h (by show ¬ ((i : Int) < 0); omega)
theorem Jl (h : dY fl a n < 0) : ∀ c : Nat, c < n → ¬ 0 < over fl a c := fun c hc => by
 have := Bi h (over fl a c) (List.mem_map.2 ⟨c, List.mem_range.2 hc, rfl⟩)
 simpa using this
theorem we (h : ¬ dY fl a n < 0) : ∃ k : Nat, k < n ∧ dY fl a n = k ∧ 0 < over fl a k := by
 obtain ⟨k, h1, h2, h3⟩ := DW h
 rw [AL] at h1
 rw [uB h1] at h3
 exact ⟨k, h1, h2, by simpa using h3⟩
theorem Hp (h : eT fl a n q < 0) : ∀ c : Nat, c < n → (e9 q (c : Int)).isSome = true → 0 ≤ over fl a c := fun c hc hq => by
 have := Bi h c (List.mem_range.2 hc)
 unfold jP at this
 rw [hq, Bool.true_and, decide_eq_false_iff_not] at this; omega
theorem uc (h : ¬ eT fl a n q < 0) : ∃ k : Nat, k < n ∧ eT fl a n q = k ∧ (e9 q (k : Int)).isSome = true ∧ over fl a k < 0 := by
 obtain ⟨k, h1, h2, h3⟩ := DW h
 rw [List.length_range] at h1
 have e : nth (List.range n) k = k := by unfold nth; rw [List.getD_eq_getElem?_getD, List.getElem?_range h1]; rfl
 rw [e] at h3
 unfold jP at h3
 rw [Bool.and_eq_true, decide_eq_true_eq] at h3
 exact ⟨k, h1, h2, h3.1, h3.2⟩
def Q2 (fl : List cB) (n : Nat) (a : List Int) : Nat := (c7 (fun c => max (over fl a (c : Nat)) 0) n).toNat
theorem B7 {f : Nat → Int} {n : Nat} (h : ∀ i, i < n → 0 ≤ f i) : 0 ≤ c7 f n := by
 have := sx (f := fun _ => 0) (g := f) (n := n) h
 rwa [gb fun _ _ => rfl] at this
theorem LA {f g : Nat → Int} {k : Nat} (hk : k < n) (h : ∀ i, i < n → i ≠ k → f i = g i) : c7 f n = c7 g n + (f k - g k) := by
 have e : c7 (fun i => f i - g i) n = f k - g k := je (f := fun i => f i - g i) hk fun i hi hn => by rw [h i hi hn]; omega
 rw [kf] at e; omega
structure QF (fl : List cB) (a : List Int) (n : Nat) (s t : Int) : Prop where
  inb : yR fl (j0 fl a s t)
  less : Q2 fl n (j0 fl a s t) < Q2 fl n a
  trail : IU fl a s t (hH fl (cO fl a s) s t)
  rB : (hH fl (cO fl a s) s t).length ≤ n
  pos : 0 < fC fl a (min (over fl a s) (-over fl a t)) (hH fl (cO fl a s) s t)
theorem sent (hN : Net fl n) (h : yR fl a) {s t : Nat} (hs : s < n) (ht : t < n) (hps : 0 < over fl a s) (hq : (e9 (cO fl a s) (t : Int)).isSome = true) (hpt : over fl a t < 0) : QF fl a n s t := by
 have hR := rj (a := a) hN (show 0 ≤ (s : Int) ∧ (s : Int) < n by omega)
 obtain ⟨v, hv⟩ := Option.isSome_iff_exists.1 hq
 obtain ⟨hP, hlen⟩ := Gk hR (.inr (mX hv))
 have hpos := qX (fl := fl) (a := a) (m := min (over fl a s) (-over fl a t)) (by omega) _ hP.ways
 obtain ⟨hm1, hm2⟩ := tK (fl := fl) (a := a) (min (over fl a s) (-over fl a t)) (hH fl (cO fl a s) s t)
 have hin := xS (Int.le_of_lt hpos) (hH fl (cO fl a s) s t) a h hP.nodup fun w hw => ⟨(hP.ways w hw).1, hm2 w hw⟩
 have hov := uI (fl := fl) h.1 (fC fl a (min (over fl a s) (-over fl a t)) (hH fl (cO fl a s) s t)) _ a _ _ h.1 (fun w hw => (hP.ways w hw).1) hP.trail
 refine ⟨hin, ?_, hP, Nat.le_trans hlen hR.rB, hpos⟩
 unfold Q2 j0
 generalize fC fl a (min (over fl a s) (-over fl a t)) (hH fl (cO fl a s) s t) = m at *
 generalize dz a (hH fl (cO fl a s) s t) m = b at *
 have hne : s ≠ t := fun e => by subst e; omega
 have e1 : c7 (fun c : Nat => max (over fl b c) 0) n = c7 (fun c : Nat => max (over fl a c) 0) n + (max (over fl b s) 0 - max (over fl a s) 0) := by
  refine LA hs fun i hi hn => ?_
  rw [hov i, fD (p := (s : Int) = i) (by omega)]
  by_cases e : t = i
  ·subst e; rw [fj rfl]; omega
  rw [fD (by omega)]; omega
 have e2 : over fl b s = over fl a s - m := by rw [hov s, fD (by omega), fj rfl]; omega
 have h0 := B7 (f := fun c : Nat => max (over fl b c) 0) (n := n) fun i _ => by show 0 ≤ max _ 0; omega
 rw [e1, e2] at h0 ⊢
 omega
structure xO (fl : List cB) (n : Nat) (r : Int × Bool × List Int) : Prop where
  inb : yR fl r.2.2
  yes : r.2.1 = false → DU fl n r.2.2 ∧ r.1 = 0
  no : r.2.1 = true → (0 ≤ r.1 ∧ r.1 < n) ∧ 0 < over fl r.2.2 r.1 ∧ ∀ c : Nat, c < n → yP (cO fl r.2.2 r.1) r.1 c → 0 ≤ over fl r.2.2 c
theorem vH (hN : Net fl n) (h : yR fl a) : xO fl n (gP fl n a) := by
 refine nG (yR fl) (xO fl n) (Q2 fl n) (fun a h => ?_) a h
 unfold Fa
 by_cases h1 : dY fl a n < 0
 ·rw [if_pos h1]
  exact .inr ⟨_, rfl, h, fun _ => ⟨Nm hN (Jl h1), rfl⟩, fun e => by cases e⟩
 rw [if_neg h1]
 obtain ⟨s, s1, s2, s3⟩ := we h1
 rw [s2]
 by_cases h2 : eT fl a n (cO fl a s) < 0
 ·rw [if_pos h2]
  refine .inr ⟨_, rfl, h, (fun e => by cases e), fun _ => ⟨by show 0 ≤ (s : Int) ∧ (s : Int) < n; omega, s3, fun c hc hm => ?_⟩⟩
  rcases hm with hm | hm
  ·have e : (c : Int) = s := hm
   show 0 ≤ over fl a c
   rw [e]; exact Int.le_of_lt s3
  obtain ⟨v, hv⟩ := pE hm
  exact Hp h2 c hc (by rw [hv]; rfl)
 rw [if_neg h2]
 obtain ⟨t, t1, t2, t3, t4⟩ := uc h2
 rw [t2]
 have hS := sent hN h s1 t1 s3 t3 t4
 exact .inl ⟨_, rfl, hS.inb, hS.less⟩
open Classical in
theorem xO.none (hN : Net fl n) {r : Int × Bool × List Int} (h : xO fl n r) (e : r.2.1 = true) : ¬ ∃ a, g5 fl n a := by
 obtain ⟨h1, h2, h3⟩ := h.no e
 have hR := rj (a := r.2.2) hN h1
 obtain ⟨c, hc⟩ : ∃ c : Nat, (c : Int) = r.1 := ⟨r.1.toNat, by omega⟩
 refine Jq hN h.inb (fun c => decide (yP (cO fl r.2.2 r.1) r.1 c)) (fun w ho hm => ?_) (fun c hc hm => h3 c hc (of_decide_eq_true hm)) (c0 := c) (by omega) (decide_eq_true (.inl hc)) (by rw [hc]; exact h2)
 exact decide_eq_true (hR.closed w ho (of_decide_eq_true hm))
theorem xO.some {r : Int × Bool × List Int} (h : xO fl n r) (e : r.2.1 = false) : g5 fl n r.2.2 := ⟨h.inb, (h.yes e).1⟩
end
end Go.Proofs.YtelbollidfdcjaaGreat
namespace Go.Proofs.YtelbollidfdcjaaGreat
open Go Go.T
section
variable {fl : List cB} {a : List Int} {n : Nat} {G : Nat → Int} {w : Way}
def gD (G : Nat → Int) (w : Way) : Int := yO w (G w.ix)
theorem F0 (hG : ∀ i, -1 ≤ G i ∧ G i ≤ 1) (w : Way) : -1 ≤ gD G w ∧ gD G w ≤ 1 := by
 have := hG w.ix
 unfold gD yO; cases w.more <;> simp <;> omega
structure sO where
  worth : List Int
  by_ : List Way
  at_ : Int
def lM (fl : List cB) (G : Nat → Int) (st : sO) (c : Nat) (w : Way) : Bool := decide (nth st.worth c + gD G w > nth st.worth (w.fin fl).toNat)
def mD (fl : List cB) (G : Nat → Int) (st : sO) (c : Nat) (w : Way) : sO := ⟨st.worth.set (w.fin fl).toNat (nth st.worth c + gD G w), st.by_.set (w.fin fl).toNat w, w.fin fl⟩
structure Nk where
  r : Nat
  c : Nat
  j : Nat
  st : sO
def mF (fl : List cB) (a : List Int) (n : Nat) (G : Nat → Int) (x : Nk) : Nk ⊕ Option sO :=
  if n ≤ x.r then .inr none
  else if n ≤ x.c then (if x.st.at_ < 0 then .inr none else .inl ⟨x.r + 1, 0, 0, ⟨x.st.worth, x.st.by_, -1⟩⟩)
  else if (bO fl a x.c).length ≤ x.j then .inl ⟨x.r, x.c + 1, 0, x.st⟩
  else if lM fl G x.st x.c (nth (bO fl a x.c) x.j) = true then
    (if x.r + 1 = n then .inr (some (mD fl G x.st x.c (nth (bO fl a x.c) x.j))) else .inl ⟨x.r, x.c, x.j + 1, mD fl G x.st x.c (nth (bO fl a x.c) x.j)⟩)
  else .inl ⟨x.r, x.c, x.j + 1, x.st⟩
def PX (n : Nat) : sO := ⟨List.replicate n 0, List.replicate n default, -1⟩
noncomputable def iS (fl : List cB) (a : List Int) (n : Nat) (G : Nat → Int) : Option sO := nK (mF fl a n G) ⟨0, 0, 0, PX n⟩
section
variable {x : Nk}
theorem xQ (h : ¬ n ≤ x.r) (hc : n ≤ x.c) (ha : x.st.at_ < 0) : mF fl a n G x = .inr none := by unfold mF; rw [if_neg h, if_pos hc, if_pos ha]
theorem uo (h : ¬ n ≤ x.r) (hc : n ≤ x.c) (ha : ¬ x.st.at_ < 0) : mF fl a n G x = .inl ⟨x.r + 1, 0, 0, ⟨x.st.worth, x.st.by_, -1⟩⟩ := by unfold mF; rw [if_neg h, if_pos hc, if_neg ha]
theorem xD (h : ¬ n ≤ x.r) (hc : ¬ n ≤ x.c) (hj : (bO fl a x.c).length ≤ x.j) : mF fl a n G x = .inl ⟨x.r, x.c + 1, 0, x.st⟩ := by unfold mF; rw [if_neg h, if_neg hc, if_pos hj]
theorem CS (h : ¬ n ≤ x.r) (hc : ¬ n ≤ x.c) (hj : ¬ (bO fl a x.c).length ≤ x.j) (hg : lM fl G x.st x.c (nth (bO fl a x.c) x.j) = false) : mF fl a n G x = .inl ⟨x.r, x.c, x.j + 1, x.st⟩ := by
 unfold mF; rw [if_neg h, if_neg hc, if_neg hj, if_neg (by rw [hg]; decide)]
theorem z8 (h : ¬ n ≤ x.r) (hc : ¬ n ≤ x.c) (hj : ¬ (bO fl a x.c).length ≤ x.j) (hg : lM fl G x.st x.c (nth (bO fl a x.c) x.j) = true) (hr : ¬ x.r + 1 = n) : mF fl a n G x = .inl ⟨x.r, x.c, x.j + 1, mD fl G x.st x.c (nth (bO fl a x.c) x.j)⟩ := by
 unfold mF; rw [if_neg h, if_neg hc, if_neg hj, if_pos hg, if_neg hr]
theorem wF (h : ¬ n ≤ x.r) (hc : ¬ n ≤ x.c) (hj : ¬ (bO fl a x.c).length ≤ x.j) (hg : lM fl G x.st x.c (nth (bO fl a x.c) x.j) = true) (hr : x.r + 1 = n) : mF fl a n G x = .inr (some (mD fl G x.st x.c (nth (bO fl a x.c) x.j))) := by
 unfold mF; rw [if_neg h, if_neg hc, if_neg hj, if_pos hg, if_pos hr]
end
structure Gh (fl : List cB) (a : List Int) (n : Nat) (G : Nat → Int) (r : Nat) (st : sO) (R T : Nat → Nat) (τ : Nat) : Prop where
  len : st.worth.length = n ∧ st.by_.length = n
  zero : ∀ v, v < n → R v = 0 → nth st.worth v = 0 ∧ T v = 0
  le : ∀ v, v < n → R v ≤ r + 1 ∧ T v ≤ τ ∧ 0 ≤ nth st.worth v ∧ nth st.worth v ≤ τ
  way : ∀ v, v < n → 0 < R v → Open fl a (nth st.by_ v) ∧ (nth st.by_ v).fin fl = v ∧
    nth st.worth v ≤ nth st.worth ((nth st.by_ v).iA fl).toNat + gD G (nth st.by_ v) ∧
    (T v < T ((nth st.by_ v).iA fl).toNat → nth st.worth v < nth st.worth ((nth st.by_ v).iA fl).toNat + gD G (nth st.by_ v)) ∧
    R v ≤ R ((nth st.by_ v).iA fl).toNat + 1 ∧ 0 < T v
  one : ∀ u v, u < n → v < n → 0 < R u → 0 < R v → T u = T v → u = v
  at_ : (st.at_ = -1 ∧ ∀ v, v < n → R v ≤ r) ∨ ∃ v : Nat, v < n ∧ st.at_ = v ∧ R v = r + 1
def jd (x : Nk) (c k : Nat) : Nat := if c < x.c ∨ c = x.c ∧ k < x.j then x.r + 1 else x.r
structure mE (fl : List cB) (a : List Int) (n : Nat) (G : Nat → Int) (x : Nk) : Prop where
  r : x.r < n
  c : x.c ≤ n
  j : x.j ≤ 2 * fl.length ∧ (x.c = n → x.j = 0)
  last : x.r + 1 = n → x.st.at_ = -1
  gh : ∃ R T τ, Gh fl a n G x.r x.st R T τ ∧ τ ≤ x.r * (n * (2 * fl.length)) + (x.c * (2 * fl.length) + x.j) ∧
    ∀ c k, c < n → k < (bO fl a c).length → jd x c k = 0 ∨ nth x.st.worth c + gD G (nth (bO fl a c) k) ≤ nth x.st.worth ((nth (bO fl a c) k).fin fl).toNat ∨ jd x c k ≤ R c
theorem BS {α : Type} [Inhabited α] (n : Nat) (v : α) (k : Nat) (h : k < n) : nth (List.replicate n v) k = v := by
 unfold nth; rw [List.getD_eq_getElem?_getD, List.getElem?_replicate, if_pos h]; rfl
theorem OO (hn : 0 < n) : mE fl a n G ⟨0, 0, 0, PX n⟩ := by
 refine ⟨hn, Nat.zero_le _, ⟨Nat.zero_le _, fun _ => rfl⟩, fun _ => rfl, fun _ => 0, fun _ => 0, 0, ⟨⟨by simp [PX], by simp [PX]⟩, fun v hv _ => ⟨BS _ _ _ hv, rfl⟩, fun v hv => ?_, fun v _ h => absurd h (Nat.lt_irrefl 0), fun u v _ _ h => absurd h (Nat.lt_irrefl 0), .inl ⟨rfl, fun v _ => Nat.le_refl _⟩⟩, Nat.zero_le _, fun c k _ _ => .inl ?_⟩
 ·have : nth (PX n).worth v = 0 := BS _ _ _ hv
  rw [this]; exact ⟨Nat.zero_le _, Nat.le_refl _, Int.le_refl _, Int.le_refl _⟩
 unfold jd; rw [if_neg (by simp)]
theorem KO {c k : Nat} (h : k < (bO fl a c).length) : Open fl a (nth (bO fl a c) k) ∧ (nth (bO fl a c) k).iA fl = c := mm.1 (cX h)
variable {x : Nk}
theorem mE.cell (h : mE fl a n G x) (hc : ¬ n ≤ x.c) (hj : (bO fl a x.c).length ≤ x.j) : mE fl a n G ⟨x.r, x.c + 1, 0, x.st⟩ := by
 obtain ⟨R, T, τ, h1, h2, h3⟩ := h.gh
 refine ⟨h.r, by show x.c + 1 ≤ n; omega, ⟨Nat.zero_le _, fun _ => rfl⟩, h.last, R, T, τ, h1, ?_, fun c k hc' hk => ?_⟩
 ·have e1 : (x.c + 1) * (2 * fl.length) = x.c * (2 * fl.length) + 2 * fl.length := Nat.succ_mul _ _
  have := h.j.1
  show τ ≤ x.r * (n * (2 * fl.length)) + ((x.c + 1) * (2 * fl.length) + 0)
  generalize x.r * (n * (2 * fl.length)) = A at *
  generalize (x.c + 1) * (2 * fl.length) = B at *
  generalize x.c * (2 * fl.length) = C at *
  omega
 have e : jd ⟨x.r, x.c + 1, 0, x.st⟩ c k = jd x c k := by
  unfold jd
  by_cases e : c < x.c ∨ c = x.c ∧ k < x.j
  ·rw [if_pos e, if_pos (by show c < x.c + 1 ∨ _; omega)]
  rw [if_neg e]
  by_cases e2 : c = x.c
  ·subst e2; omega
  rw [if_neg (by show ¬ (c < x.c + 1 ∨ c = x.c + 1 ∧ k < 0); omega)]
 rw [e]; exact h3 c k hc' hk
theorem mE.round (h : mE fl a n G x) (hc : n ≤ x.c) (hr : ¬ x.r + 1 = n) : mE fl a n G ⟨x.r + 1, 0, 0, ⟨x.st.worth, x.st.by_, -1⟩⟩ := by
 obtain ⟨R, T, τ, h1, h2, h3⟩ := h.gh
 have ec : x.c = n := Nat.le_antisymm h.c hc
 refine ⟨by show x.r + 1 < n; have := h.r; omega, Nat.zero_le _, ⟨Nat.zero_le _, fun _ => rfl⟩, fun _ => rfl, R, T, τ, ⟨h1.len, h1.zero, fun v hv => ?_, h1.way, h1.one, .inl ⟨rfl, fun v hv => (h1.le v hv).1⟩⟩, ?_, fun c k hc' hk => ?_⟩
 ·have := h1.le v hv
  exact ⟨by show R v ≤ x.r + 1 + 1; omega, this.2⟩
 ·have e1 : (x.r + 1) * (n * (2 * fl.length)) = x.r * (n * (2 * fl.length)) + n * (2 * fl.length) := Nat.succ_mul _ _
  show τ ≤ (x.r + 1) * (n * (2 * fl.length)) + (0 * (2 * fl.length) + 0)
  rw [ec, h.j.2 ec] at h2
  generalize (x.r + 1) * (n * (2 * fl.length)) = A at *
  omega
 have e : jd ⟨x.r + 1, 0, 0, ⟨x.st.worth, x.st.by_, -1⟩⟩ c k = jd x c k := by
  unfold jd
  rw [if_neg (show ¬ (c < 0 ∨ c = 0 ∧ k < 0) by omega), if_pos (show c < x.c ∨ c = x.c ∧ k < x.j by omega)]
 rw [e]; exact h3 c k hc' hk
theorem xB {st : sO} {c k : Nat} : jd ⟨x.r, x.c, x.j + 1, st⟩ c k = if c = x.c ∧ k = x.j then x.r + 1 else jd x c k := by
 unfold jd
 by_cases e : c = x.c ∧ k = x.j
 ·rw [if_pos e, if_pos (by show c < x.c ∨ c = x.c ∧ k < x.j + 1; omega)]
 rw [if_neg e]
 by_cases e2 : c < x.c ∨ c = x.c ∧ k < x.j
 ·rw [if_pos e2, if_pos (by show c < x.c ∨ c = x.c ∧ k < x.j + 1; omega)]
 rw [if_neg e2, if_neg (by show ¬ (c < x.c ∨ c = x.c ∧ k < x.j + 1); omega)]
theorem mE.no (h : mE fl a n G x) (hc : ¬ n ≤ x.c) (hj : ¬ (bO fl a x.c).length ≤ x.j) (hg : lM fl G x.st x.c (nth (bO fl a x.c) x.j) = false) : mE fl a n G ⟨x.r, x.c, x.j + 1, x.st⟩ := by
 obtain ⟨R, T, τ, h1, h2, h3⟩ := h.gh
 have hl := ox (fl := fl) (a := a) (c := x.c)
 refine ⟨h.r, h.c, ⟨by show x.j + 1 ≤ _; omega, fun e => absurd (show x.c = n from e) (by omega)⟩, h.last, R, T, τ, h1, Nat.le_trans h2 (show x.r * (n * (2 * fl.length)) + (x.c * (2 * fl.length) + x.j) ≤ x.r * (n * (2 * fl.length)) + (x.c * (2 * fl.length) + (x.j + 1)) by omega), fun c k hc' hk => ?_⟩
 rw [xB]
 by_cases e : c = x.c ∧ k = x.j
 ·rw [if_pos e]
  obtain ⟨e1, e2⟩ := e; subst e1; subst e2
  unfold lM at hg
  rw [decide_eq_false_iff_not] at hg
  exact .inr (.inl (show nth x.st.worth x.c + _ ≤ nth x.st.worth _ by omega))
 rw [if_neg e]; exact h3 c k hc' hk
theorem Fw (hN : Net fl n) (hG : ∀ i, -1 ≤ G i ∧ G i ≤ 1) (h : mE fl a n G x) (hc : ¬ n ≤ x.c) (hj : ¬ (bO fl a x.c).length ≤ x.j) (hg : lM fl G x.st x.c (nth (bO fl a x.c) x.j) = true) :
 ∃ R T τ, Gh fl a n G x.r (mD fl G x.st x.c (nth (bO fl a x.c) x.j)) R T τ ∧ τ ≤ x.r * (n * (2 * fl.length)) + (x.c * (2 * fl.length) + (x.j + 1)) ∧ R ((nth (bO fl a x.c) x.j).fin fl).toNat = x.r + 1 ∧
 ∀ c k, c < n → k < (bO fl a c).length → jd ⟨x.r, x.c, x.j + 1, mD fl G x.st x.c (nth (bO fl a x.c) x.j)⟩ c k = 0 ∨ nth (mD fl G x.st x.c (nth (bO fl a x.c) x.j)).worth c + gD G (nth (bO fl a c) k) ≤ nth (mD fl G x.st x.c (nth (bO fl a x.c) x.j)).worth ((nth (bO fl a c) k).fin fl).toNat ∨ jd ⟨x.r, x.c, x.j + 1, mD fl G x.st x.c (nth (bO fl a x.c) x.j)⟩ c k ≤ R c := by
 obtain ⟨R, T, τ, h1, h2, h3⟩ := h.gh
 obtain ⟨ho, hb⟩ := KO (fl := fl) (a := a) (c := x.c) (k := x.j) (by omega)
 have h3c := h3 x.c x.j (by omega) (by omega)
 generalize hw : nth (bO fl a x.c) x.j = w at *
 obtain ⟨_, ⟨hf0, hfn⟩, hne⟩ := hN.way ho.1
 obtain ⟨t, ht⟩ : ∃ t : Nat, (t : Int) = w.fin fl := ⟨(w.fin fl).toNat, by omega⟩
 have htt : (w.fin fl).toNat = t := by omega
 have htn : t < n := by omega
 have hxt : x.c ≠ t := fun e => hne (by rw [hb, ← ht, e])
 unfold lM at hg
 rw [decide_eq_true_eq, htt] at hg
 have hRc : x.r ≤ R x.c := by
  have e : jd x x.c x.j = x.r := by unfold jd; rw [if_neg (by omega)]
  rw [e, htt] at h3c
  rcases h3c with h | h | h
  ·omega
  ·omega
  exact h
 obtain ⟨hl1, hl2⟩ := h1.len
 have nw : ∀ v, v < n → nth (mD fl G x.st x.c w).worth v = if t = v then nth x.st.worth x.c + gD G w else nth x.st.worth v := fun v hv => by
  show nth (x.st.worth.set _ _) v = _; rw [htt, iz (by omega)]
 have nb : ∀ v, v < n → nth (mD fl G x.st x.c w).by_ v = if t = v then w else nth x.st.by_ v := fun v hv => by
  show nth (x.st.by_.set _ _) v = _; rw [htt, iz (by omega)]
 have up : ∀ v, v < n → nth x.st.worth v ≤ nth (mD fl G x.st x.c w).worth v := fun v hv => by
  rw [nw v hv]; split
  ·rename_i e; subst e; omega
  exact Int.le_refl _
 have begn : ∀ v, v < n → 0 < R v → ((nth x.st.by_ v).iA fl).toNat < n := fun v hv hR => by
  have := (hN.way (h1.way v hv hR).1.1).1; omega
 refine ⟨fun v => if v = t then x.r + 1 else R v, fun v => if v = t then τ + 1 else T v, τ + 1, ⟨⟨by show (x.st.worth.set _ _).length = n; rw [List.length_set]; exact hl1, by show (x.st.by_.set _ _).length = n; rw [List.length_set]; exact hl2⟩, fun v hv hR => ?_, fun v hv => ?_, fun v hv hR => ?_, fun u v hu hv hRu hRv e => ?_, .inr ⟨t, htn, ht.symm, if_pos rfl⟩⟩, by omega, by show (if (w.fin fl).toNat = t then _ else _) = _; rw [if_pos htt], fun c k hc' hk => ?_⟩
 ·have hvt : v ≠ t := fun e => by
   have hR : (if v = t then x.r + 1 else R v) = 0 := hR
   rw [if_pos e] at hR; omega
  have hR : (if v = t then x.r + 1 else R v) = 0 := hR
  rw [if_neg hvt] at hR
  show _ ∧ (if v = t then τ + 1 else T v) = 0
  rw [if_neg hvt, nw v hv, if_neg (fun e => hvt e.symm)]
  exact h1.zero v hv hR
 ·have hl := h1.le v hv
  have hlc := h1.le x.c (by omega)
  have hlt := h1.le t htn
  have hw1 := F0 hG w
  show (if v = t then x.r + 1 else R v) ≤ x.r + 1 ∧ (if v = t then τ + 1 else T v) ≤ τ + 1 ∧ _
  rw [nw v hv]
  by_cases e : v = t
  ·subst e
   rw [if_pos rfl, if_pos rfl, if_pos rfl]
   refine ⟨Nat.le_refl _, Nat.le_refl _, ?_, ?_⟩ <;> omega
  rw [if_neg e, if_neg e, if_neg (fun h => e h.symm)]
  refine ⟨hl.1, ?_, hl.2.2.1, ?_⟩ <;> omega
 ·show _ ∧ _ ∧ _ ∧ ((if v = t then τ + 1 else T v) < (if _ = t then τ + 1 else T _) → _) ∧ (if v = t then x.r + 1 else R v) ≤ (if _ = t then x.r + 1 else R _) + 1 ∧ 0 < (if v = t then τ + 1 else T v)
  have hR : 0 < (if v = t then x.r + 1 else R v) := hR
  rw [nb v hv, nw v hv]
  by_cases e : v = t
  ·subst e
   rw [if_pos rfl, if_pos rfl, if_pos rfl, if_pos rfl]
   have e1 : (w.iA fl).toNat = x.c := by rw [hb]; omega
   rw [e1, nw x.c (by omega), if_neg (fun h => hxt h.symm), if_neg hxt, if_neg hxt]
   refine ⟨ho, ht.symm, Int.le_refl _, fun h => ?_, by omega, by omega⟩
   have := (h1.le x.c (by omega)).2.1; omega
  rw [if_neg e, if_neg (fun h => e h.symm), if_neg (fun h => e h.symm), if_neg e]
  rw [if_neg e] at hR
  obtain ⟨b1, b2, b3, b4, b5, b6⟩ := h1.way v hv hR
  have hbn := begn v hv hR
  have hu := up _ hbn
  refine ⟨b1, b2, by omega, fun h => ?_, ?_, b6⟩
  ·by_cases e2 : ((nth x.st.by_ v).iA fl).toNat = t
   ·rw [e2] at hu b3 ⊢
    have : nth x.st.worth t < nth (mD fl G x.st x.c w).worth t := by rw [nw t htn, if_pos rfl]; omega
    omega
   rw [if_neg e2] at h
   have := b4 h; omega
  by_cases e2 : ((nth x.st.by_ v).iA fl).toNat = t
  ·rw [if_pos e2]; have := (h1.le v hv).1; omega
  rw [if_neg e2]; exact b5
 ·have e : (if u = t then τ + 1 else T u) = (if v = t then τ + 1 else T v) := e
  have hRu : 0 < (if u = t then x.r + 1 else R u) := hRu
  have hRv : 0 < (if v = t then x.r + 1 else R v) := hRv
  have a1 := (h1.le u hu).2.1
  have a2 := (h1.le v hv).2.1
  by_cases e1 : u = t
  ·by_cases e2 : v = t
   ·rw [e1, e2]
   rw [if_pos e1, if_neg e2] at e; omega
  by_cases e2 : v = t
  ·rw [if_neg e1, if_pos e2] at e; omega
  rw [if_neg e1, if_neg e2] at e
  rw [if_neg e1] at hRu; rw [if_neg e2] at hRv
  exact h1.one u v hu hv hRu hRv e
 rw [xB]
 show _ ∨ _ ∨ _ ≤ (if c = t then x.r + 1 else R c)
 have hd : jd x c k ≤ x.r + 1 := by unfold jd; split <;> omega
 by_cases ect : c = t
 ·rw [if_pos ect]
  refine .inr (.inr ?_)
  split <;> omega
 rw [if_neg ect]
 have hu := up ((nth (bO fl a c) k).fin fl).toNat (by have := (hN.way (KO hk).1.1).2.1; omega)
 have nwc : nth (mD fl G x.st x.c w).worth c = nth x.st.worth c := by rw [nw c hc', if_neg (fun h => ect h.symm)]
 rw [nwc]
 by_cases e : c = x.c ∧ k = x.j
 ·rw [if_pos e]
  obtain ⟨e1, e2⟩ := e; subst e1; subst e2
  rw [hw, htt, nw t htn, if_pos rfl]
  exact .inr (.inl (Int.le_refl _))
 rw [if_neg e]
 rcases h3 c k hc' hk with h | h | h
 ·exact .inl h
 ·exact .inr (.inl (by omega))
 exact .inr (.inr h)
theorem mE.yes (hN : Net fl n) (hG : ∀ i, -1 ≤ G i ∧ G i ≤ 1) (h : mE fl a n G x) (hc : ¬ n ≤ x.c) (hj : ¬ (bO fl a x.c).length ≤ x.j) (hg : lM fl G x.st x.c (nth (bO fl a x.c) x.j) = true) (hr : ¬ x.r + 1 = n) :
 mE fl a n G ⟨x.r, x.c, x.j + 1, mD fl G x.st x.c (nth (bO fl a x.c) x.j)⟩ := by
 obtain ⟨R, T, τ, h1, h2, _, h4⟩ := Fw hN hG h hc hj hg
 have hl := ox (fl := fl) (a := a) (c := x.c)
 exact ⟨h.r, h.c, ⟨by show x.j + 1 ≤ _; omega, fun e => absurd (show x.c = n from e) (by omega)⟩, fun e => absurd e hr, R, T, τ, h1, h2, h4⟩
inductive Gs (fl : List cB) (a : List Int) (n : Nat) (G : Nat → Int) : Option sO → Prop where
  | none (p : Int → Int) (h : ∀ w, Open fl a w → p (w.iA fl) + gD G w ≤ p (w.fin fl)) : Gs fl a n G none
  | some (st : sO) (R T : Nat → Nat) (τ : Nat) (v : Nat) (h : Gh fl a n G (n - 1) st R T τ) (hv : v < n) (e : st.at_ = v) (hR : R v = n) : Gs fl a n G (some st)
theorem mE.none (hN : Net fl n) (h : mE fl a n G x) (hc : n ≤ x.c) (ha : x.st.at_ < 0) : Gs fl a n G none := by
 obtain ⟨R, T, τ, h1, h2, h3⟩ := h.gh
 have hR : ∀ v, v < n → R v ≤ x.r := by
  rcases h1.at_ with ⟨_, h⟩ | ⟨v, _, e, _⟩
  ·exact h
  omega
 refine .none (fun c => nth x.st.worth c.toNat) fun w ho => ?_
 obtain ⟨⟨b0, bn⟩, _, _⟩ := hN.way ho.1
 obtain ⟨c, hc'⟩ : ∃ c : Nat, (c : Int) = w.iA fl := ⟨(w.iA fl).toNat, by omega⟩
 have hm : w ∈ bO fl a c := mm.2 ⟨ho, hc'.symm⟩
 obtain ⟨k, hk, e⟩ := oQ hm
 subst e
 have h4 := h3 c k (by omega) hk
 have e : jd x c k = x.r + 1 := if_pos (.inl (by omega))
 rw [e] at h4
 have := hR c (by omega)
 show nth x.st.worth (Way.iA _ fl).toNat + _ ≤ nth x.st.worth _
 rw [← hc', Int.toNat_natCast]
 rcases h4 with h | h | h <;> omega
theorem mE.found (hN : Net fl n) (hG : ∀ i, -1 ≤ G i ∧ G i ≤ 1) (h : mE fl a n G x) (hc : ¬ n ≤ x.c) (hj : ¬ (bO fl a x.c).length ≤ x.j) (hg : lM fl G x.st x.c (nth (bO fl a x.c) x.j) = true) (hr : x.r + 1 = n) :
 Gs fl a n G (some (mD fl G x.st x.c (nth (bO fl a x.c) x.j))) := by
 obtain ⟨R, T, τ, h1, _, h3, _⟩ := Fw hN hG h hc hj hg
 have hb := (hN.way (KO (fl := fl) (a := a) (c := x.c) (k := x.j) (by omega)).1.1).2.1
 refine .some _ R T τ ((nth (bO fl a x.c) x.j).fin fl).toNat (by rw [show n - 1 = x.r by omega]; exact h1) (by omega) ?_ (h3.trans hr)
 show Way.fin _ fl = _; omega
def L0 (fl : List cB) (n : Nat) (x : Nk) : Nat := (n - x.r) * ((n + 1) * (2 * fl.length + 2)) + ((n - x.c) * (2 * fl.length + 2) + (2 * fl.length + 1 - x.j))
theorem N1 (hj : x.j < 2 * fl.length) (st : sO) : L0 fl n ⟨x.r, x.c, x.j + 1, st⟩ < L0 fl n x := by
 unfold L0
 show (n - x.r) * ((n + 1) * (2 * fl.length + 2)) + ((n - x.c) * (2 * fl.length + 2) + (2 * fl.length + 1 - (x.j + 1))) < _
 omega
theorem Qa (hc : x.c < n) (hj : x.j ≤ 2 * fl.length) (st : sO) : L0 fl n ⟨x.r, x.c + 1, 0, st⟩ < L0 fl n x := by
 unfold L0
 show (n - x.r) * ((n + 1) * (2 * fl.length + 2)) + ((n - (x.c + 1)) * (2 * fl.length + 2) + (2 * fl.length + 1 - 0)) < _
 have e : (n - x.c) * (2 * fl.length + 2) = (n - (x.c + 1)) * (2 * fl.length + 2) + (2 * fl.length + 2) := by
  rw [show n - x.c = (n - (x.c + 1)) + 1 by omega, Nat.succ_mul]
 rw [e]
 generalize (n - (x.c + 1)) * (2 * fl.length + 2) = A
 omega
theorem RN (hr : x.r < n) (st : sO) : L0 fl n ⟨x.r + 1, 0, 0, st⟩ < L0 fl n x := by
 unfold L0
 show (n - (x.r + 1)) * ((n + 1) * (2 * fl.length + 2)) + ((n - 0) * (2 * fl.length + 2) + (2 * fl.length + 1 - 0)) < _
 have e : (n - x.r) * ((n + 1) * (2 * fl.length + 2)) = (n - (x.r + 1)) * ((n + 1) * (2 * fl.length + 2)) + (n + 1) * (2 * fl.length + 2) := by
  rw [show n - x.r = (n - (x.r + 1)) + 1 by omega, Nat.succ_mul]
 have e2 : (n + 1) * (2 * fl.length + 2) = n * (2 * fl.length + 2) + (2 * fl.length + 2) := Nat.succ_mul _ _
 rw [e, e2, Nat.sub_zero]
 generalize (n - (x.r + 1)) * (n * (2 * fl.length + 2) + (2 * fl.length + 2)) = A
 generalize n * (2 * fl.length + 2) = B
 omega
theorem Er (hN : Net fl n) (hn : 0 < n) (hG : ∀ i, -1 ≤ G i ∧ G i ≤ 1) : Gs fl a n G (iS fl a n G) := by
  refine nG (mE fl a n G) (Gs fl a n G) (L0 fl n) (fun x h => ?_) _ (OO hn)
  have hr : ¬ n ≤ x.r := by have := h.r; omega
  by_cases hc : n ≤ x.c
  · by_cases ha : x.st.at_ < 0
    · exact .inr ⟨_, xQ hr hc ha, h.none hN hc ha⟩
    · exact .inl ⟨_, uo hr hc ha, h.round hc (fun e => ha (by rw [h.last e]; decide)), RN h.r _⟩
  · by_cases hj : (bO fl a x.c).length ≤ x.j
    · exact .inl ⟨_, xD hr hc hj, h.cell hc hj, Qa (by omega) h.j.1 _⟩
    · have hl := ox (fl := fl) (a := a) (c := x.c)
      cases hg : lM fl G x.st x.c (nth (bO fl a x.c) x.j) with
      | false => exact .inl ⟨_, CS hr hc hj hg, h.no hc hj hg, N1 (by omega) _⟩
      | true =>
        by_cases hl : x.r + 1 = n
        · exact .inr ⟨_, wF hr hc hj hg hl, h.found hN hG hc hj hg hl⟩
        · exact .inl ⟨_, z8 hr hc hj hg hl, h.yes hN hG hc hj hg hl, N1 (by omega) _⟩
end
end Go.Proofs.YtelbollidfdcjaaGreat
namespace Go.Proofs.YtelbollidfdcjaaGreat
open Go Go.T
theorem HU {p : Nat → Prop} (h : ∃ n, p n) : ∃ n, p n ∧ ∀ m, m < n → ¬ p m := by
  obtain ⟨n, hn⟩ := h
  induction n using Nat.strongRecOn with
  | _ n ih =>
    by_cases e : ∃ m, m < n ∧ p m
    · obtain ⟨m, hm, hp⟩ := e; exact ih m hm hp
    · exact ⟨n, hn, fun m hm hp => e ⟨m, hm, hp⟩⟩
def fY (f : Nat → Nat) : Nat → Nat → Nat
  | 0, x => x
  | k + 1, x => f (fY f k x)
theorem lU (f : Nat → Nat) (k x : Nat) : ∀ j, fY f (j + k) x = fY f j (fY f k x)
  | 0 => by rw [Nat.zero_add]; rfl
  | j + 1 => by rw [Nat.succ_add]; show f (fY f (j + k) x) = f _; rw [lU f k x j]
theorem zN (f : Nat → Int) : ∀ n, ((List.range n).map f).sum = c7 f n
  | 0 => rfl
  | n + 1 => by rw [List.range_succ, List.map_append, List.sum_append, zN f n]; simp [c7]
theorem z9 (f : Nat → Int) : ∀ n, c7 (fun t => f t - f (t + 1)) n = f 0 - f n
  | 0 => by simp [c7]
  | n + 1 => by unfold c7; rw [z9 f n]; omega
section
variable {fl : List cB} {a : List Int} {n : Nat} {G : Nat → Int} {st : sO} {R T : Nat → Nat} {τ v s : Nat}
def cK (fl : List cB) (st : sO) (c : Nat) : Nat := ((nth st.by_ c).iA fl).toNat
structure P9 (fl : List cB) (a : List Int) (n : Nat) (G : Nat → Int) (st : sO) (T : Nat → Nat) (s : Nat) : Prop where
  back : ∃ p, 1 ≤ p ∧ p ≤ n ∧ fY (cK fl st) p s = s
  at_ : ∀ t, fY (cK fl st) t s < n
  way : ∀ t, Open fl a (nth st.by_ (fY (cK fl st) t s)) ∧ (nth st.by_ (fY (cK fl st) t s)).fin fl = fY (cK fl st) t s ∧
    nth st.worth (fY (cK fl st) t s) ≤ nth st.worth (fY (cK fl st) (t + 1) s) + gD G (nth st.by_ (fY (cK fl st) t s)) ∧
    (T (fY (cK fl st) t s) < T (fY (cK fl st) (t + 1) s) → nth st.worth (fY (cK fl st) t s) < nth st.worth (fY (cK fl st) (t + 1) s) + gD G (nth st.by_ (fY (cK fl st) t s)))
  one : ∀ t u, T (fY (cK fl st) t s) = T (fY (cK fl st) u s) → fY (cK fl st) t s = fY (cK fl st) u s
theorem Ax (hN : Net fl n) (h : Gh fl a n G (n - 1) st R T τ) (hv : v < n) (hR : R v = n) : ∀ k, k ≤ n → fY (cK fl st) k v < n ∧ n ≤ R (fY (cK fl st) k v) + k
  | 0, _ => ⟨hv, by show n ≤ R v + 0; omega⟩
  | k + 1, hk => by
    obtain ⟨h1, h2⟩ := Ax hN h hv hR k (by omega)
    obtain ⟨b1, _, _, _, b5, _⟩ := h.way _ h1 (by omega)
    have hb := (hN.way b1.1).1
    show cK fl st (fY (cK fl st) k v) < n ∧ n ≤ R (cK fl st (fY (cK fl st) k v)) + (k + 1)
    unfold cK at *
    exact ⟨by omega, by omega⟩
theorem KP (hN : Net fl n) (h : Gh fl a n G (n - 1) st R T τ) (hv : v < n) (hR : R v = n) : P9 fl a n G st T (fY (cK fl st) n v) := by
  have hch := Ax hN h hv hR
  generalize hf : cK fl st = f at *
  obtain ⟨i, j, hij, hjn, e⟩ : ∃ i j, i < j ∧ j ≤ n ∧ fY f i v = fY f j v := by
    refine Classical.byContradiction fun hno => ?_
    have hnd : ((List.range (n + 1)).map fun k => fY f k v).Nodup := by
      rw [List.nodup_iff_pairwise_ne, List.pairwise_map]
      refine List.pairwise_lt_range.imp_of_mem fun {x y} hx hy hlt e => hno ⟨x, y, hlt, ?_, e⟩
      have := List.mem_range.1 hy; omega
    have := mQ (n := n) hnd fun y hy => by
      obtain ⟨k, hk, rfl⟩ := List.mem_map.1 hy
      have := List.mem_range.1 hk
      exact (hch k (by omega)).1
    rw [List.length_map, List.length_range] at this; omega
  have good : ∀ m, i ≤ m → ∃ m', m' < n ∧ fY f m v = fY f m' v := by
    intro m
    induction m using Nat.strongRecOn with
    | _ m ih =>
      intro hm
      by_cases c : m < j
      · exact ⟨m, by omega, rfl⟩
      · obtain ⟨m', h1, h2⟩ := ih (m - j + i) (by omega) (by omega)
        refine ⟨m', h1, ?_⟩
        rw [← h2, lU, e, ← lU]; congr 1; omega
  have all : ∀ t, fY f t (fY f n v) < n ∧ 0 < R (fY f t (fY f n v)) := fun t => by
    rw [← lU]
    obtain ⟨m', h1, h2⟩ := good (t + n) (by omega)
    rw [h2]
    have := hch m' (by omega)
    exact ⟨this.1, by omega⟩
  refine ⟨⟨j - i, by omega, by omega, ?_⟩, fun t => by rw [hf]; exact (all t).1, fun t => ?_, fun t u e => ?_⟩
  · rw [hf, ← lU, show j - i + n = (n - i) + j by omega, lU, ← e, ← lU]; congr 1; omega
  · rw [hf]
    obtain ⟨b1, b2, b3, b4, _, _⟩ := h.way _ (all t).1 (all t).2
    have e1 : fY f (t + 1) (fY f n v) = ((nth st.by_ (fY f t (fY f n v))).iA fl).toNat := by
      show f (fY f t (fY f n v)) = _; rw [← hf]; rfl
    rw [e1]
    exact ⟨b1, b2, b3, b4⟩
  · rw [hf] at *
    exact h.one _ _ (all t).1 (all u).1 (all t).2 (all u).2 e
def DC (fl : List cB) (st : sO) (s : Nat) (x : Nat × List Way) : (Nat × List Way) ⊕ List Way :=
  if ¬ x.2 = [] ∧ x.1 = s then .inr x.2 else .inl (cK fl st x.1, x.2 ++ [nth st.by_ x.1])
noncomputable def oo (fl : List cB) (st : sO) (s : Nat) : List Way := nK (DC fl st s) (s, [])
structure FV (fl : List cB) (a : List Int) (n : Nat) (G : Nat → Int) (l : List Way) : Prop where
  ne : l ≠ []
  trail : ∃ s, Trail fl l s s
  ways : ∀ w ∈ l, Open fl a w
  nodup : l.Nodup
  adds : 0 < yC G l
  rB : l.length ≤ n
theorem KB (hN : Net fl n) (h : P9 fl a n G st T s) : FV fl a n G (oo fl st s) := by
  obtain ⟨p, ⟨hp1, hp2, hp3⟩, hmin⟩ := HU h.back
  have hfin : ∀ t, (nth st.by_ (fY (cK fl st) t s)).fin fl = fY (cK fl st) t s := fun t => (h.way t).2.1
  have hbeg : ∀ t, (nth st.by_ (fY (cK fl st) t s)).iA fl = fY (cK fl st) (t + 1) s := fun t => by
    have := (hN.way (h.way t).1.1).1
    show _ = ((((nth st.by_ (fY (cK fl st) t s)).iA fl).toNat : Nat) : Int)
    omega
  have hone : ∀ t u, t < u → u < p → fY (cK fl st) t s ≠ fY (cK fl st) u s := fun t u htu hup e => by
    refine hmin (p - u + t) (by omega) ⟨by omega, by omega, ?_⟩
    rw [lU, e, ← lU, show p - u + u = p by omega, hp3]
  have hlist : oo fl st s = (List.range p).map fun t => nth st.by_ (fY (cK fl st) t s) := by
    refine nG (fun x => ∃ i, i ≤ p ∧ x = (fY (cK fl st) i s, (List.range i).map fun t => nth st.by_ (fY (cK fl st) t s))) (fun l => l = (List.range p).map fun t => nth st.by_ (fY (cK fl st) t s)) (fun x => p + 1 - x.2.length) (fun x hx => ?_) _ ⟨0, Nat.zero_le _, rfl⟩
    obtain ⟨i, hi, rfl⟩ := hx
    unfold DC
    by_cases e : i = p
    · subst e
      refine .inr ⟨_, if_pos ⟨fun e => ?_, hp3⟩, rfl⟩
      have := congrArg List.length e
      simp at this; omega
    · refine .inl ⟨_, if_neg fun ⟨e1, e2⟩ => ?_, ⟨i + 1, by omega, ?_⟩, ?_⟩
      · by_cases c : i = 0
        · subst c; exact e1 rfl
        · exact hmin i (by omega) ⟨by omega, by omega, e2⟩
      · rw [List.range_succ, List.map_append]; rfl
      · simp; omega
  have htr : ∀ k, Trail fl ((List.range k).map fun t => nth st.by_ (fY (cK fl st) t s)) s (fY (cK fl st) k s) := by
    intro k
    induction k with
    | zero => exact rfl
    | succ k ih =>
      rw [List.range_succ, List.map_append, List.map_singleton, ← hbeg k]
      exact uA ih (hfin k)
  rw [hlist]
  refine ⟨fun e => ?_, ⟨s, ?_⟩, fun w hw => ?_, ?_, ?_, by rw [List.length_map, List.length_range]; exact hp2⟩
  · have := congrArg List.length e
    simp at this; omega
  · have := htr p
    rwa [hp3] at this
  · obtain ⟨t, _, rfl⟩ := List.mem_map.1 hw
    exact (h.way t).1
  · rw [List.nodup_iff_pairwise_ne, List.pairwise_map]
    refine List.pairwise_lt_range.imp_of_mem fun {x y} hx hy hlt e => hone x y hlt (List.mem_range.1 hy) ?_
    have := congrArg (fun w => Way.fin w fl) e
    rw [hfin, hfin] at this; omega
  · unfold yC
    rw [List.map_map, zN]
    have h0 : c7 (fun t => nth st.worth (fY (cK fl st) t s) - nth st.worth (fY (cK fl st) (t + 1) s)) p = 0 := by
      rw [z9 (fun t => nth st.worth (fY (cK fl st) t s)), hp3]; show nth st.worth s - _ = 0; omega
    rw [← h0]
    obtain ⟨k, hk, hlt⟩ : ∃ k, k < p ∧ T (fY (cK fl st) k s) < T (fY (cK fl st) (k + 1) s) := by
      refine Classical.byContradiction fun hno => ?_
      have hdn : ∀ d t, t + d ≤ p → T (fY (cK fl st) (t + d) s) ≤ T (fY (cK fl st) t s) := by
        intro d
        induction d with
        | zero => intro t _; exact Nat.le_refl _
        | succ d ih =>
          intro t ht
          have h1 := ih t (by omega)
          have h2 : ¬ T (fY (cK fl st) (t + d) s) < T (fY (cK fl st) (t + d + 1) s) := fun h => hno ⟨t + d, by omega, h⟩
          show T (fY (cK fl st) (t + d + 1) s) ≤ _
          omega
      have h1 := hdn 1 0 (by omega)
      have h2 := hdn (p - 1) 1 (by omega)
      rw [show 1 + (p - 1) = p by omega, hp3] at h2
      have h3 : T (fY (cK fl st) 0 s) = T (fY (cK fl st) 1 s) := by
        show T s = _
        have h1 : T (fY (cK fl st) 1 s) ≤ T s := h1
        omega
      have h4 := h.one 0 1 h3
      have hne := (hN.way (h.way 0).1.1).2.2
      rw [hfin 0, hbeg 0, ← h4] at hne
      exact hne rfl
    refine Aq hk (fun t _ => ?_) ?_
    · have := (h.way t).2.2.1
      show _ ≤ gD G (nth st.by_ (fY (cK fl st) t s)); omega
    · have := (h.way k).2.2.2 hlt
      show _ < gD G (nth st.by_ (fY (cK fl st) k s)); omega
noncomputable def cN (fl : List cB) (a : List Int) (n : Nat) (G : Nat → Int) : List Way := match iS fl a n G with
  | none => []
  | some st => oo fl st (fY (cK fl st) n st.at_.toNat)
theorem vE (h : iS fl a n G = none) : cN fl a n G = [] := by unfold cN; rw [h]
theorem vA (h : iS fl a n G = some st) : cN fl a n G = oo fl st (fY (cK fl st) n st.at_.toNat) := by unfold cN; rw [h]
theorem vO (hN : Net fl n) (hn : 0 < n) (hG : ∀ i, -1 ≤ G i ∧ G i ≤ 1) : (cN fl a n G = [] ∧ ∃ p : Int → Int, ∀ w, Open fl a w → p (w.iA fl) + gD G w ≤ p (w.fin fl)) ∨ FV fl a n G (cN fl a n G) := by
  have h := Er (a := a) hN hn hG
  cases e : iS fl a n G with
  | none =>
    rw [e] at h
    cases h with
    | none p hp => exact .inl ⟨vE e, p, hp⟩
  | some st =>
    rw [e] at h
    cases h with
    | some _ R T τ v h1 hv e1 hR =>
      rw [vA e, show st.at_.toNat = v by omega]
      exact .inr (KB hN (KP hN h1 hv hR))
noncomputable def stepG (fl : List cB) (n : Nat) (G : Nat → Int) (a : List Int) : List Int ⊕ List Int :=
  if cN fl a n G = [] then .inr a else .inl (dz a (cN fl a n G) (fC fl a 300 (cN fl a n G)))
noncomputable def gY (fl : List cB) (n : Nat) (G : Nat → Int) (a : List Int) : List Int := nK (stepG fl n G) a
def lK (fl : List cB) (G : Nat → Int) (a : List Int) : Int := c7 (fun i => G i * nth a i) fl.length
def Bd (fl : List cB) : Prop := ∀ i, i < fl.length → 0 ≤ (nth fl i).lo ∧ (nth fl i).hi ≤ 300
theorem Fo (hB : Bd fl) (h : yR fl a) (hG : ∀ i, -1 ≤ G i ∧ G i ≤ 1) : lK fl G a ≤ 300 * fl.length := by
 refine (p5 (b := 300) fun i hi => ?_).2
 have h1 := hB i hi
 have h2 := h.2 i hi
 have h3 := hG i
 have : G i = -1 ∨ G i = 0 ∨ G i = 1 := by omega
 rcases this with e | e | e <;> rw [e] <;> omega
structure O7 (fl : List cB) (a : List Int) (n : Nat) (G : Nat → Int) (b : List Int) : Prop where
  feas : g5 fl n b
  more : lK fl G a < lK fl G b
theorem u9 (h : g5 fl n a) {l : List Way} (hc : FV fl a n G l) : O7 fl a n G (dz a l (fC fl a 300 l)) := by
 have hpos := qX (fl := fl) (a := a) (m := 300) (by decide) l hc.ways
 obtain ⟨_, hm⟩ := tK (fl := fl) (a := a) 300 l
 have hix : ∀ w ∈ l, w.ix < fl.length := fun w hw => (hc.ways w hw).1
 obtain ⟨s, ht⟩ := hc.trail
 refine ⟨⟨xS (Int.le_of_lt hpos) l a h.1 hc.nodup fun w hw => ⟨hix w hw, hm w hw⟩, fun c hcn => ?_⟩, ?_⟩
 ·rw [uI h.1.1 _ l a s s h.1.1 hix ht, h.2 c hcn]; omega
 unfold lK
 rw [xP G _ l a h.1.1 hix]
 have := Int.mul_pos hc.adds hpos
 omega
theorem AK (hN : Net fl n) (hn : 0 < n) (hB : Bd fl) (hG : ∀ i, -1 ≤ G i ∧ G i ≤ 1) (h : g5 fl n a) : g5 fl n (gY fl n G a) ∧ ∀ b, g5 fl n b → lK fl G b ≤ lK fl G (gY fl n G a) := by
 refine nG (g5 fl n) (fun r => g5 fl n r ∧ ∀ b, g5 fl n b → lK fl G b ≤ lK fl G r) (fun a => (300 * fl.length - lK fl G a).toNat) (fun a h => ?_) a h
 unfold stepG
 rcases vO (a := a) hN hn hG with ⟨e, p, hp⟩ | hc
 ·rw [if_pos e]
  exact .inr ⟨a, rfl, h, fun b hb => Li hN h hb G p fun w ho => hp w ho⟩
 rw [if_neg hc.ne]
 have hb := u9 h hc
 refine .inl ⟨_, rfl, hb.feas, ?_⟩
 have h1 := hb.more
 have h2 := Fo hB hb.feas.1 hG
 omega
end
end Go.Proofs.YtelbollidfdcjaaGreat
namespace Go.Proofs.YtelbollidfdcjaaGreat
open Go Go.T
structure Span where
  lo : Int
  hi : Int
deriving DecidableEq, Inhabited
structure tC where
  holds : Int
  first : Span
deriving DecidableEq, Inhabited
structure Move where
  day : Int
  src : Int
  dst : Int
  sacks : Span
deriving DecidableEq, Inhabited
structure Level where
  day : Int
  bin : Int
  sacks : Span
deriving DecidableEq, Inhabited
structure au where
  days : Int
  bins : List tC
  moves : List Move
  levels : List Level
deriving DecidableEq, Inhabited
structure dZ where
  first : List Int
  cC : List Int
deriving DecidableEq, Inhabited
def fF (s : Span) : Bool := AI s.lo 0 300 && AI s.hi 0 300
def fZ (s : Span) : Bool := decide (s.lo ≤ s.hi)
def au.bin (y : au) (k : Int) : Bool := AI k 0 (y.bins.length - 1)
def au.time (y : au) (k : Int) : Bool := AI k 0 y.days
def au.fin (y : au) (k : Int) : Bool := decide (k = -1) || y.bin k
def k6 (y : au) : Bool := ((!AI y.days 1 5 || !AI y.bins.length 1 4) || decide ((y.moves.length : Int) > 10)) || decide ((y.levels.length : Int) > 8)
def kL (y : au) : Bool := !y.bins.all (fun b => AI b.holds 0 300 && fF b.first)
def iX (y : au) : Bool := !y.moves.all (fun m => fF m.sacks) || !y.levels.all (fun l => fF l.sacks)
def xh (y : au) : Bool := !y.moves.all fun m => (AI m.day 0 (y.days - 1) && y.fin m.src) && y.fin m.dst
def qz (y : au) : Bool := !y.levels.all fun l => y.time l.day && y.bin l.bin
def p6 (y : au) : Bool := !y.moves.all fun m => !decide (m.src = m.dst)
def pg (y : au) : Bool := (!y.bins.all (fun b => fZ b.first) || !y.moves.all (fun m => fZ m.sacks)) || !y.levels.all (fun l => fZ l.sacks)
def bL (y : au) : Int := if k6 y = true then 2 else if kL y = true then 3 else if iX y = true then 3 else if xh y = true then 1 else if qz y = true then 1 else if p6 y = true then 5 else if pg y = true then 4 else 0
structure au.bt (y : au) : Prop where
  days : 1 ≤ y.days ∧ y.days ≤ 5
  bins : 1 ≤ y.bins.length ∧ y.bins.length ≤ 4
  moves : y.moves.length ≤ 10
  levels : y.levels.length ≤ 8
  bin : ∀ b ∈ y.bins, (0 ≤ b.holds ∧ b.holds ≤ 300) ∧ (0 ≤ b.first.lo ∧ b.first.hi ≤ 300) ∧ b.first.lo ≤ b.first.hi
  move : ∀ m ∈ y.moves, (0 ≤ m.day ∧ m.day < y.days) ∧ (-1 ≤ m.src ∧ m.src < y.bins.length) ∧ (-1 ≤ m.dst ∧ m.dst < y.bins.length) ∧ m.src ≠ m.dst ∧ (0 ≤ m.sacks.lo ∧ m.sacks.hi ≤ 300) ∧ m.sacks.lo ≤ m.sacks.hi
  level : ∀ l ∈ y.levels, (0 ≤ l.day ∧ l.day ≤ y.days) ∧ (0 ≤ l.bin ∧ l.bin < y.bins.length) ∧ (0 ≤ l.sacks.lo ∧ l.sacks.hi ≤ 300) ∧ l.sacks.lo ≤ l.sacks.hi
theorem dD {y : au} (h : bL y = 0) : y.bt := by
  unfold bL at h
  have n0 : ∀ {c : Bool} {k x : Int}, k ≠ 0 → (if c = true then k else x) = 0 → c = false ∧ x = 0 := fun {c k x} hk h => by
    cases c with
    | true => exact absurd h hk
    | false => exact ⟨rfl, h⟩
  obtain ⟨h1, h⟩ := n0 (by decide) h
  obtain ⟨h2, h⟩ := n0 (by decide) h
  obtain ⟨h3, h⟩ := n0 (by decide) h
  obtain ⟨h4, h⟩ := n0 (by decide) h
  obtain ⟨h5, h⟩ := n0 (by decide) h
  obtain ⟨h6, h⟩ := n0 (by decide) h
  obtain ⟨h7, h⟩ := n0 (by decide) h
  simp only [k6, kL, iX, xh, qz, p6, pg, Bool.or_eq_false_iff, Bool.not_eq_false', decide_eq_false_iff_not, List.all_eq_true, Bool.and_eq_true, fQ, fF, fZ, decide_eq_true_eq, au.fin, au.bin, au.time, Bool.or_eq_true, Bool.not_eq_true', decide_eq_false_iff_not] at h1 h2 h3 h4 h5 h6 h7
  refine ⟨h1.1.1.1, by omega, by omega, by omega, fun b hb => ?_, fun m hm => ?_, fun l hl => ?_⟩
  · have a := h2 b hb; have c := h7.1.1 b hb
    exact ⟨a.1, ⟨a.2.1.1, a.2.2.2⟩, c⟩
  · have a := h3.1 m hm; have c := h4 m hm; have d := h6 m hm; have e := h7.1.2 m hm
    refine ⟨by omega, by omega, by omega, d, ⟨a.1.1, a.2.2⟩, e⟩
  · have a := h3.2 l hl; have c := h5 l hl; have e := h7.2 l hl
    refine ⟨by omega, by omega, ⟨a.1.1, a.2.2⟩, e⟩
section
variable {y : au} {c : Nat → Bool} {a : dZ} {b t : Nat}
def au.D (y : au) : Nat := y.days.toNat
def au.cells (y : au) : Nat := y.bins.length * y.D
def au.cell (y : au) (bin day : Int) : Int := if bin = -1 then (y.bins.length : Int) * y.days else bin * y.days + day
def gX (y : au) (c : Nat → Bool) (b t : Nat) (s : Span) : Nat → Span
  | 0 => s
  | k + 1 => if ((c k && decide ((nth y.levels k).bin = b)) && decide ((nth y.levels k).day = t)) = true then ⟨max (gX y c b t s k).lo (nth y.levels k).sacks.lo, min (gX y c b t s k).hi (nth y.levels k).sacks.hi⟩ else gX y c b t s k
def iM (y : au) (b t : Nat) : Span := if 0 < t then ⟨0, (nth y.bins b).holds⟩ else ⟨max 0 (nth y.bins b).first.lo, min (nth y.bins b).holds (nth y.bins b).first.hi⟩
def vQ (y : au) (c : Nat → Bool) (b t : Nat) : Span := gX y c b t (iM y b t) y.levels.length
def FR (y : au) (c : Nat → Bool) (b t : Nat) : cB := ⟨if 0 < t then y.cell b ((t : Int) - 1) else y.cells, if t < y.D then y.cell b t else y.cells, (vQ y c b t).lo, (vQ y c b t).hi⟩
def Nz (y : au) (m : Move) : cB := ⟨y.cell m.src m.day, y.cell m.dst m.day, m.sacks.lo, m.sacks.hi⟩
def Fb (y : au) (c : Nat → Bool) : List cB := (List.range y.bins.length).flatMap fun b => (List.range (y.D + 1)).map (FR y c b)
def aR (y : au) (c : Nat → Bool) : List cB := Fb y c ++ y.moves.map (Nz y)
theorem CC (s : Span) : ∀ k, s.lo ≤ (gX y c b t s k).lo ∧ (gX y c b t s k).hi ≤ s.hi
  | 0 => ⟨Int.le_refl _, Int.le_refl _⟩
  | k + 1 => by
    have := CC s k
    unfold gX; split
    · show s.lo ≤ max _ _ ∧ min _ _ ≤ s.hi; omega
    · exact this
theorem lW {α β : Type} (f : α → List β) (k : Nat) : ∀ (l : List α), (∀ x ∈ l, (f x).length = k) → (l.flatMap f).length = l.length * k
  | [], _ => by simp
  | x :: l, h => by rw [List.flatMap_cons, List.length_append, h x List.mem_cons_self, lW f k l fun y hy => h y (List.mem_cons_of_mem _ hy), List.length_cons, Nat.succ_mul]; omega
theorem tY {α : Type} [Inhabited α] (f : Nat → List α) (k : Nat) : ∀ (n b t : Nat), (∀ i, i < n → (f i).length = k) → b < n → t < k → nth ((List.range n).flatMap f) (b * k + t) = nth (f b) t
  | 0, _, _, _, h, _ => by omega
  | n + 1, b, t, hf, hb, ht => by
    have hl : ((List.range n).flatMap f).length = n * k := by rw [lW f k _ fun x hx => hf x (by have := List.mem_range.1 hx; omega), List.length_range]
    rw [List.range_succ, List.flatMap_append, List.flatMap_singleton]
    by_cases e : b = n
    · subst e
      unfold nth
      rw [List.getD_eq_getElem?_getD, List.getD_eq_getElem?_getD, List.getElem?_append_right (by omega), hl, Nat.add_sub_cancel_left]
    · have hlt : b * k + t < n * k := by
        have : (b + 1) * k ≤ n * k := Nat.mul_le_mul_right _ (by omega)
        rw [Nat.succ_mul] at this; omega
      rw [← tY f k n b t (fun i hi => hf i (by omega)) (by omega) ht]
      unfold nth
      rw [List.getD_eq_getElem?_getD, List.getD_eq_getElem?_getD, List.getElem?_append_left (by omega)]
theorem eo {α : Type} [Inhabited α] (f : Nat → α) {n k : Nat} (h : k < n) : nth ((List.range n).map f) k = f k := by
 unfold nth; rw [List.getD_eq_getElem?_getD, List.getElem?_map, List.getElem?_range h]; rfl
theorem nN {α β : Type} [Inhabited α] [Inhabited β] (f : α → β) {l : List α} {k : Nat} (h : k < l.length) : nth (l.map f) k = f (nth l k) := by
 unfold nth; rw [List.getD_eq_getElem?_getD, List.getD_eq_getElem?_getD, List.getElem?_map, List.getElem?_eq_getElem h]; rfl
theorem wO : (Fb y c).length = y.bins.length * (y.D + 1) := by
 unfold Fb; rw [lW _ (y.D + 1) _ fun x _ => by rw [List.length_map, List.length_range], List.length_range]
theorem fK : (aR y c).length = y.bins.length * (y.D + 1) + y.moves.length := by unfold aR; rw [List.length_append, wO, List.length_map]
def au.kept (y : au) (b t : Nat) : Nat := b * (y.D + 1) + t
theorem qC (hb : b < y.bins.length) (ht : t ≤ y.D) : y.kept b t < y.bins.length * (y.D + 1) := by
 have : (b + 1) * (y.D + 1) ≤ y.bins.length * (y.D + 1) := Nat.mul_le_mul_right _ hb
 unfold au.kept; rw [Nat.succ_mul] at this; omega
theorem gk {α : Type} [Inhabited α] {l k : List α} {i : Nat} (h : i < l.length) : nth (l ++ k) i = nth l i := by
 unfold nth; rw [List.getD_eq_getElem?_getD, List.getD_eq_getElem?_getD, List.getElem?_append_left h]
theorem kP {α : Type} [Inhabited α] {l k : List α} {i : Nat} : nth (l ++ k) (l.length + i) = nth k i := by
 unfold nth; rw [List.getD_eq_getElem?_getD, List.getD_eq_getElem?_getD, List.getElem?_append_right (by omega), Nat.add_sub_cancel_left]
theorem ig (hb : b < y.bins.length) (ht : t ≤ y.D) : nth (aR y c) (y.kept b t) = FR y c b t := by
 have h := qC hb ht
 unfold aR
 rw [gk (by rw [wO]; exact h)]
 unfold Fb au.kept
 rw [tY _ (y.D + 1) _ b t (fun i _ => by rw [List.length_map, List.length_range]) hb (by omega), eo _ (by omega)]
theorem iW {i : Nat} (h : i < y.moves.length) : nth (aR y c) (y.bins.length * (y.D + 1) + i) = Nz y (nth y.moves i) := by
 unfold aR
 rw [← wO (c := c), kP, nN _ h]
theorem oK {k : Nat} (h : k < (aR y c).length) : (∃ b t, b < y.bins.length ∧ t ≤ y.D ∧ k = y.kept b t) ∨ ∃ i, i < y.moves.length ∧ k = y.bins.length * (y.D + 1) + i := by
 rw [fK] at h
 by_cases c : k < y.bins.length * (y.D + 1)
 ·refine .inl ⟨k / (y.D + 1), k % (y.D + 1), (Nat.div_lt_iff_lt_mul (by omega)).2 c, Nat.lt_succ_iff.1 (Nat.mod_lt _ (by omega)), ?_⟩
  unfold au.kept
  have := Nat.div_add_mod k (y.D + 1)
  rw [Nat.mul_comm] at this; omega
 exact .inr ⟨k - y.bins.length * (y.D + 1), by omega, by omega⟩
end
end Go.Proofs.YtelbollidfdcjaaGreat
namespace Go.Proofs.YtelbollidfdcjaaGreat
open Go Go.T
theorem mJ (f : Nat → Int) (m : Nat) : ∀ k, c7 f (m + k) = c7 f m + c7 (fun i => f (m + i)) k
  | 0 => by simp [c7]
  | k + 1 => by show c7 f (m + k) + f (m + k) = _ + (_ + f (m + k)); rw [mJ f m k]; omega
theorem rz (f : Nat → Int) (k : Nat) : ∀ n, c7 f (n * k) = c7 (fun b => c7 (fun t => f (b * k + t)) k) n
  | 0 => by rw [Nat.zero_mul]; rfl
  | n + 1 => by rw [Nat.succ_mul, mJ, rz f k n]; rfl
theorem o9 {b b' d d' D : Nat} (h : d < D) (h' : d' < D) (e : b * D + d = b' * D + d') : b = b' ∧ d = d' := by
 rcases Nat.lt_trichotomy b b' with h1 | h1 | h1
 ·have := Nat.mul_le_mul_right D (show b + 1 ≤ b' from h1)
  rw [Nat.succ_mul] at this; omega
 ·subst h1; omega
 have := Nat.mul_le_mul_right D (show b' + 1 ≤ b from h1)
 rw [Nat.succ_mul] at this; omega
section
variable {y : au} {c : Nat → Bool} {a : dZ} {x : List Int} {b t : Nat}
theorem D_eq (hr : y.bt) : (y.D : Int) = y.days := by have := hr.days; unfold au.D; omega
theorem lP (hb : b < y.bins.length) (ht : t < y.D) : b * y.D + t < y.cells := by
 have := Nat.mul_le_mul_right y.D (show b + 1 ≤ y.bins.length from hb)
 unfold au.cells; rw [Nat.succ_mul] at this; omega
theorem nP (hr : y.bt) (b t : Nat) : y.cell b t = ((b * y.D + t : Nat) : Int) := by
 unfold au.cell
 rw [if_neg (by omega), ← D_eq hr]; simp
theorem sF (hr : y.bt) (d : Int) : y.cell (-1) d = (y.cells : Nat) := by
 unfold au.cell au.cells
 rw [if_pos rfl, ← D_eq hr]; simp
theorem oL (hr : y.bt) {s d : Int} (hs : -1 ≤ s ∧ s < y.bins.length) (hd : 0 ≤ d ∧ d < y.days) (hb : b < y.bins.length) (ht : t < y.D) : y.cell s d = ((b * y.D + t : Nat) : Int) ↔ s = b ∧ d = t := by
 have hD := D_eq hr
 by_cases e : s = -1
 ·subst e
  rw [sF hr]
  have := lP hb ht
  constructor
  ·intro h; omega
  intro h; omega
 obtain ⟨s', rfl⟩ : ∃ s' : Nat, s = s' := ⟨s.toNat, by omega⟩
 obtain ⟨d', rfl⟩ : ∃ d' : Nat, d = d' := ⟨d.toNat, by omega⟩
 rw [nP hr]
 constructor
 ·intro h
  obtain ⟨h1, h2⟩ := o9 (D := y.D) (show d' < y.D by omega) ht (Int.ofNat.inj h)
  exact ⟨by rw [h1], by rw [h2]⟩
 rintro ⟨h1, h2⟩
 have h1 : s' = b := by omega
 have h2 : d' = t := by omega
 rw [h1, h2]
theorem xx (hr : y.bt) {s d : Int} (hs : -1 ≤ s ∧ s < y.bins.length) (hd : 0 ≤ d ∧ d < y.days) : 0 ≤ y.cell s d ∧ y.cell s d < ((y.cells + 1 : Nat) : Int) := by
 have hD := D_eq hr
 by_cases e : s = -1
 ·subst e; rw [sF hr]; omega
 obtain ⟨s', rfl⟩ : ∃ s' : Nat, s = s' := ⟨s.toNat, by omega⟩
 obtain ⟨d', rfl⟩ : ∃ d' : Nat, d = d' := ⟨d.toNat, by omega⟩
 rw [nP hr]
 have := lP (y := y) (b := s') (t := d') (by omega) (by omega)
 omega
theorem xT (hr : y.bt) (ht : t ≤ y.D) : (FR y c b t).src = ((if 0 < t then b * y.D + (t - 1) else y.cells : Nat) : Int) := by
 show (if 0 < t then y.cell b ((t : Int) - 1) else (y.cells : Int)) = _
 by_cases e : 0 < t
 ·rw [if_pos e, if_pos e, show (t : Int) - 1 = ((t - 1 : Nat) : Int) by omega, nP hr]
 rw [if_neg e, if_neg e]
theorem w6 (hr : y.bt) : (FR y c b t).dst = ((if t < y.D then b * y.D + t else y.cells : Nat) : Int) := by
 show (if t < y.D then y.cell b t else (y.cells : Int)) = _
 by_cases e : t < y.D
 ·rw [if_pos e, if_pos e, nP hr]
 rw [if_neg e, if_neg e]
theorem l8 (hr : y.bt) : Net (aR y c) (y.cells + 1) := by
 have hD := D_eq hr
 have hd := hr.days
 refine ⟨fun i hi => ?_, fun i hi => ?_, fun i hi => ?_⟩
 ·rcases oK hi with ⟨b, t, hb, ht, rfl⟩ | ⟨k, hk, rfl⟩
  ·rw [ig hb ht, xT hr ht]
   split
   ·have := lP (y := y) (b := b) (t := t - 1) hb (by omega); omega
   omega
  rw [iW hk]
  obtain ⟨h1, h2, _⟩ := hr.move _ (cX hk)
  exact xx hr h2 h1
 ·rcases oK hi with ⟨b, t, hb, ht, rfl⟩ | ⟨k, hk, rfl⟩
  ·rw [ig hb ht, w6 hr]
   split
   ·have := lP (y := y) (b := b) (t := t) hb (by omega); omega
   omega
  rw [iW hk]
  obtain ⟨h1, _, h3, _⟩ := hr.move _ (cX hk)
  exact xx hr h3 h1
 rcases oK hi with ⟨b, t, hb, ht, rfl⟩ | ⟨k, hk, rfl⟩
 ·rw [ig hb ht, w6 hr, xT hr ht]
  by_cases e1 : 0 < t <;> by_cases e2 : t < y.D
  ·rw [if_pos e1, if_pos e2]; omega
  ·rw [if_pos e1, if_neg e2]
   have := lP (y := y) (b := b) (t := t - 1) hb (by omega); omega
  ·rw [if_neg e1, if_pos e2]
   have := lP (y := y) (b := b) (t := t) hb (by omega); omega
  omega
 rw [iW hk]
 obtain ⟨h1, h2, h3, h4, _⟩ := hr.move _ (cX hk)
 show y.cell _ _ ≠ y.cell _ _
 intro e
 by_cases e1 : (nth y.moves k).dst = -1
 ·by_cases e2 : (nth y.moves k).src = -1
  ·exact h4 (e2.trans e1.symm)
  obtain ⟨s, hs⟩ : ∃ s : Nat, (nth y.moves k).src = s := ⟨(nth y.moves k).src.toNat, by omega⟩
  obtain ⟨d, hd⟩ : ∃ d : Nat, (nth y.moves k).day = d := ⟨(nth y.moves k).day.toNat, by omega⟩
  rw [e1, hs, hd, sF hr, nP hr] at e
  have := lP (y := y) (b := s) (t := d) (by omega) (by omega)
  omega
 obtain ⟨s, hs⟩ : ∃ s : Nat, (nth y.moves k).dst = s := ⟨(nth y.moves k).dst.toNat, by omega⟩
 obtain ⟨d, hd⟩ : ∃ d : Nat, (nth y.moves k).day = d := ⟨(nth y.moves k).day.toNat, by omega⟩
 have e' : y.cell (nth y.moves k).src (nth y.moves k).day = ((s * y.D + d : Nat) : Int) := by rw [e, hs, hd, nP hr]
 have := (oL hr h2 h1 (show s < y.bins.length by omega) (show d < y.D by omega)).1 e'
 exact h4 (this.1.trans hs.symm)
def qu (y : au) (m : List Int) (b : Nat) (i : Nat) : Int := (ind ((nth y.moves i).dst = b) - ind ((nth y.moves i).src = b)) * nth m i
def dM (y : au) (a : dZ) (b t : Nat) : Int := nth a.first b + c7 (fun i => if (nth y.moves i).day < t then qu y a.cC b i else 0) y.moves.length
def KV (y : au) (m : List Int) (b t : Nat) : Int := c7 (fun i => if (nth y.moves i).day = t then qu y m b i else 0) y.moves.length
theorem qB (hr : y.bt) : dM y a b 0 = nth a.first b := by
 unfold dM
 rw [gb fun i hi => by have := (hr.move _ (cX hi)).1; rw [if_neg (by omega)]]; omega
theorem zh : dM y a b (t + 1) = dM y a b t + KV y a.cC b t := by
 unfold dM KV
 rw [Int.add_assoc, ← x8]
 congr 1
 refine fO fun i _ => ?_
 by_cases e : (nth y.moves i).day < (t : Int)
 ·rw [if_pos e, if_pos (by omega), if_neg (by omega)]; omega
 by_cases e2 : (nth y.moves i).day = t
 ·rw [if_neg e, if_pos (by omega), if_pos e2]; omega
 rw [if_neg e, if_neg (by omega), if_neg e2]; rfl
theorem zw (hr : y.bt) (hx : x.length = (aR y c).length) (hb : b < y.bins.length) (ht : t < y.D) :
 over (aR y c) x ((b * y.D + t : Nat) : Int) = nth x (y.kept b t) - nth x (y.kept b (t + 1)) + KV y (x.drop (y.bins.length * (y.D + 1))) b t := by
 unfold over
 rw [fK, mJ, rz]
 congr 1
 ·have hcl := lP hb ht
  have key : ∀ b' t', b' < y.bins.length → t' < y.D + 1 → (ind ((nth (aR y c) (b' * (y.D + 1) + t')).dst = ((b * y.D + t : Nat) : Int)) - ind ((nth (aR y c) (b' * (y.D + 1) + t')).src = ((b * y.D + t : Nat) : Int))) * nth x (b' * (y.D + 1) + t') = (ind (b' = b ∧ t' = t) - ind (b' = b ∧ t' = t + 1)) * nth x (b' * (y.D + 1) + t') := by
   intro b' t' hb' ht'
   have hk := ig (c := c) hb' (show t' ≤ y.D by omega)
   unfold au.kept at hk
   rw [hk, w6 hr, xT hr (by omega)]
   congr 1
   have e1 : ind (((if t' < y.D then b' * y.D + t' else y.cells : Nat) : Int) = ((b * y.D + t : Nat) : Int)) = ind (b' = b ∧ t' = t) := by
    by_cases e : t' < y.D
    ·rw [if_pos e]
     by_cases h : b' = b ∧ t' = t
     ·rw [fj h, fj (by rw [h.1, h.2])]
     have hne : ¬ (((b' * y.D + t' : Nat) : Int) = ((b * y.D + t : Nat) : Int)) := fun e' => h (o9 e ht (Int.ofNat.inj e'))
     rw [fD h, fD hne]
    rw [if_neg e, fD (by omega), fD (by omega)]
   have e2 : ind (((if 0 < t' then b' * y.D + (t' - 1) else y.cells : Nat) : Int) = ((b * y.D + t : Nat) : Int)) = ind (b' = b ∧ t' = t + 1) := by
    by_cases e : 0 < t'
    ·rw [if_pos e]
     by_cases h : b' = b ∧ t' = t + 1
     ·rw [fj h, fj (by rw [h.1, h.2]; rfl)]
     have hne : ¬ (((b' * y.D + (t' - 1) : Nat) : Int) = ((b * y.D + t : Nat) : Int)) := fun e' => h (by have := o9 (show t' - 1 < y.D by omega) ht (Int.ofNat.inj e'); omega)
     rw [fD h, fD hne]
    rw [if_neg e, fD (by omega), fD (by omega)]
   rw [e1, e2]
  rw [fO fun b' hb' => fO fun t' ht' => key b' t' hb' ht']
  rw [je hb fun b' _ hn => gb fun t' _ => by rw [fD (fun h => hn h.1), fD (fun h => hn h.1)]; simp]
  rw [fO (g := fun t' => ind (t' = t) * nth x (b * (y.D + 1) + t') - ind (t' = t + 1) * nth x (b * (y.D + 1) + t')) fun t' _ => by
   rw [Int.sub_mul]; congr 2 <;> (unfold ind; simp)]
  rw [kf, je (k := t) (by omega) fun i _ hn => by rw [fD hn, Int.zero_mul], je (k := t + 1) (by omega) fun i _ hn => by rw [fD hn, Int.zero_mul], fj rfl, fj rfl, Int.one_mul, Int.one_mul]
  rfl
 unfold KV qu
 refine fO fun i hi => ?_
 obtain ⟨h1, h2, h3, _⟩ := hr.move _ (cX hi)
 rw [iW hi]
 show (ind (y.cell _ _ = _) - ind (y.cell _ _ = _)) * _ = _
 have e0 : nth (x.drop (y.bins.length * (y.D + 1))) i = nth x (y.bins.length * (y.D + 1) + i) := by
  unfold nth; rw [List.getD_eq_getElem?_getD, List.getD_eq_getElem?_getD, List.getElem?_drop]
 rw [e0]
 by_cases e : (nth y.moves i).day = t
 ·rw [if_pos e]
  congr 2
  ·by_cases h : (nth y.moves i).dst = b
   ·rw [fj h, fj ((oL hr h3 h1 hb ht).2 ⟨h, e⟩)]
   rw [fD h, fD fun e' => h ((oL hr h3 h1 hb ht).1 e').1]
  by_cases h : (nth y.moves i).src = b
  ·rw [fj h, fj ((oL hr h2 h1 hb ht).2 ⟨h, e⟩)]
  rw [fD h, fD fun e' => h ((oL hr h2 h1 hb ht).1 e').1]
 rw [if_neg e, fD fun e' => e ((oL hr h3 h1 hb ht).1 e').2, fD fun e' => e ((oL hr h2 h1 hb ht).1 e').2]; simp
theorem Hf (hr : y.bt) (h : ∀ b t, b < y.bins.length → t < y.D → over (aR y c) x ((b * y.D + t : Nat) : Int) = 0) : DU (aR y c) (y.cells + 1) x := by
 have hin : ∀ k, k < y.cells → over (aR y c) x (k : Nat) = 0 := fun k hk => by
  have hD : 0 < y.D := by have := D_eq hr; have := hr.days; omega
  have e := Nat.div_add_mod k y.D
  rw [Nat.mul_comm] at e
  rw [← e]
  exact h _ _ ((Nat.div_lt_iff_lt_mul hD).2 hk) (Nat.mod_lt _ hD)
 intro k hk
 by_cases e : k < y.cells
 ·exact hin k e
 obtain rfl : k = y.cells := by omega
 have h0 := C6 (a := x) (l8 (c := c) hr)
 unfold c7 at h0
 rw [gb fun i hi => hin i hi] at h0
 omega
def lJ (y : au) (a : dZ) : List Int := ((List.range y.bins.length).flatMap fun b => (List.range (y.D + 1)).map (dM y a b)) ++ a.cC
def gG (y : au) (x : List Int) : dZ := ⟨(List.range y.bins.length).map fun b => nth x (y.kept b 0), x.drop (y.bins.length * (y.D + 1))⟩
structure yg (y : au) (a : dZ) : Prop where
  first : a.first.length = y.bins.length
  cC : a.cC.length = y.moves.length
theorem qN (h : yg y a) : (lJ y a).length = (aR y c).length := by
 unfold lJ
 rw [List.length_append, lW _ (y.D + 1) _ fun x _ => by rw [List.length_map, List.length_range], List.length_range, h.cC, fK]
theorem kE (hb : b < y.bins.length) (ht : t ≤ y.D) : nth (lJ y a) (y.kept b t) = dM y a b t := by
 unfold lJ
 rw [gk (by rw [lW _ (y.D + 1) _ fun x _ => by rw [List.length_map, List.length_range], List.length_range]; exact qC hb ht)]
 unfold au.kept
 rw [tY _ (y.D + 1) _ b t (fun i _ => by rw [List.length_map, List.length_range]) hb (by omega), eo _ (by omega)]
theorem rY : (lJ y a).drop (y.bins.length * (y.D + 1)) = a.cC := by
 unfold lJ
 refine List.drop_left' ?_
 rw [lW _ (y.D + 1) _ fun x _ => by rw [List.length_map, List.length_range], List.length_range]
theorem lf {n i : Nat} : nth (x.drop n) i = nth x (n + i) := by
 unfold nth; rw [List.getD_eq_getElem?_getD, List.getD_eq_getElem?_getD, List.getElem?_drop]
theorem r5 {i : Nat} : nth (lJ y a) (y.bins.length * (y.D + 1) + i) = nth a.cC i := by
 rw [← lf, rY]
theorem EO (hr : y.bt) (h : yg y a) : DU (aR y c) (y.cells + 1) (lJ y a) := by
 refine Hf hr fun b t hb ht => ?_
 rw [zw hr (qN h) hb ht, kE hb (by omega), kE hb (by omega), rY, zh]; omega
theorem uO (hx : x.length = (aR y c).length) : yg y (gG y x) := by
 rw [fK] at hx
 exact ⟨by unfold gG; rw [List.length_map, List.length_range], by unfold gG; rw [List.length_drop]; omega⟩
theorem qG (hr : y.bt) (hx : x.length = (aR y c).length) (he : DU (aR y c) (y.cells + 1) x) (hb : b < y.bins.length) : ∀ t, t ≤ y.D → dM y (gG y x) b t = nth x (y.kept b t)
  | 0, _ => by rw [qB hr]; exact eo _ hb
  | t + 1, ht => by
    rw [zh, qG hr hx he hb t (by omega)]
    have h := zw (c := c) hr hx hb (show t < y.D by omega)
    rw [he _ (by have := lP (y := y) hb (show t < y.D by omega); omega)] at h
    show _ + KV y (x.drop _) b t = _
    omega
structure fH (y : au) (c : Nat → Bool) (a : dZ) : Prop where
  lens : yg y a
  first : ∀ b, b < y.bins.length → (nth y.bins b).first.lo ≤ nth a.first b ∧ nth a.first b ≤ (nth y.bins b).first.hi
  cont : ∀ b t, b < y.bins.length → t ≤ y.D → 0 ≤ dM y a b t ∧ dM y a b t ≤ (nth y.bins b).holds
  cC : ∀ i, i < y.moves.length → (nth y.moves i).sacks.lo ≤ nth a.cC i ∧ nth a.cC i ≤ (nth y.moves i).sacks.hi
  level : ∀ i, i < y.levels.length → c i = true → (nth y.levels i).sacks.lo ≤ dM y a (nth y.levels i).bin.toNat (nth y.levels i).day.toNat ∧ dM y a (nth y.levels i).bin.toNat (nth y.levels i).day.toNat ≤ (nth y.levels i).sacks.hi
theorem uS {s : Span} {v : Int} : ∀ k, ((gX y c b t s k).lo ≤ v ∧ v ≤ (gX y c b t s k).hi) ↔ (s.lo ≤ v ∧ v ≤ s.hi) ∧ ∀ i, i < k → c i = true → (nth y.levels i).bin = b → (nth y.levels i).day = t → (nth y.levels i).sacks.lo ≤ v ∧ v ≤ (nth y.levels i).sacks.hi
  | 0 => ⟨fun h => ⟨h, fun i hi => by omega⟩, fun h => h.1⟩
  | k + 1 => by
    have ih := uS (s := s) (v := v) k
    unfold gX
    split
    · rename_i hc
      simp only [Bool.and_eq_true, decide_eq_true_eq] at hc
      constructor
      · intro h
        have h : max _ _ ≤ v ∧ v ≤ min _ _ := h
        obtain ⟨h1, h2⟩ := ih.1 ⟨by omega, by omega⟩
        refine ⟨h1, fun i hi hci hb ht => ?_⟩
        by_cases e : i = k
        · subst e; exact ⟨by omega, by omega⟩
        · exact h2 i (by omega) hci hb ht
      · rintro ⟨h1, h2⟩
        have h3 := ih.2 ⟨h1, fun i hi => h2 i (by omega)⟩
        have h4 := h2 k (by omega) hc.1.1 hc.1.2 hc.2
        show max _ _ ≤ v ∧ v ≤ min _ _
        omega
    · rename_i hc
      simp only [Bool.and_eq_true, decide_eq_true_eq, not_and] at hc
      rw [ih]
      constructor
      · rintro ⟨h1, h2⟩
        refine ⟨h1, fun i hi hci hb ht => ?_⟩
        by_cases e : i = k
        · subst e; exact absurd ht (hc ⟨hci, hb⟩)
        · exact h2 i (by omega) hci hb ht
      · rintro ⟨h1, h2⟩
        exact ⟨h1, fun i hi => h2 i (by omega)⟩
theorem Bv (hr : y.bt) (hl : yg y a) : fH y c a ↔ yR (aR y c) (lJ y a) := by
 have hD := D_eq hr
 constructor
 ·intro h
  refine ⟨qN hl, fun i hi => ?_⟩
  rcases oK hi with ⟨b, t, hb, ht, rfl⟩ | ⟨k, hk, rfl⟩
  ·rw [ig hb ht, kE hb ht]
   show (vQ y c b t).lo ≤ _ ∧ _ ≤ (vQ y c b t).hi
   unfold vQ
   refine (uS _).2 ⟨?_, fun i hi hc e1 e2 => ?_⟩
   ·have h1 := h.cont b t hb ht
    unfold iM
    split
    ·exact h1
    rename_i e
    obtain rfl : t = 0 := by omega
    rw [qB hr] at *
    have h2 := h.first b hb
    show max _ _ ≤ _ ∧ _ ≤ min _ _; omega
   have := h.level i hi hc
   rw [e1, e2] at this; exact this
  rw [iW hk, r5]; exact h.cC k hk
 intro h
 have hk : ∀ b t, b < y.bins.length → t ≤ y.D → ((iM y b t).lo ≤ dM y a b t ∧ dM y a b t ≤ (iM y b t).hi) ∧ ∀ i, i < y.levels.length → c i = true → (nth y.levels i).bin = b → (nth y.levels i).day = t → (nth y.levels i).sacks.lo ≤ dM y a b t ∧ dM y a b t ≤ (nth y.levels i).sacks.hi := fun b t hb ht => by
  have h1 := h.2 (y.kept b t) (by rw [fK]; have := qC hb ht; omega)
  rw [ig hb ht, kE hb ht] at h1
  exact (uS _).1 h1
 refine ⟨hl, fun b hb => ?_, fun b t hb ht => ?_, fun i hi => ?_, fun i hi hc => ?_⟩
 ·have h1 := (hk b 0 hb (Nat.zero_le _)).1
  unfold iM at h1
  rw [if_neg (by omega), qB hr] at h1
  have h1 : max _ _ ≤ _ ∧ _ ≤ min _ _ := h1
  omega
 ·have h1 := (hk b t hb ht).1
  unfold iM at h1
  split at h1
  ·exact h1
  have h1 : max _ _ ≤ _ ∧ _ ≤ min _ _ := h1
  omega
 ·have h1 := h.2 (y.bins.length * (y.D + 1) + i) (by rw [fK]; omega)
  rw [iW hi, r5] at h1; exact h1
 obtain ⟨h1, h2, _⟩ := hr.level _ (cX hi)
 exact (hk (nth y.levels i).bin.toNat (nth y.levels i).day.toNat (by omega) (by omega)).2 i hi hc (by omega) (by omega)
theorem Ea (hr : y.bt) (hx : x.length = (aR y c).length) (he : DU (aR y c) (y.cells + 1) x) {i : Nat} (hi : i < (aR y c).length) : nth (lJ y (gG y x)) i = nth x i := by
 rcases oK hi with ⟨b, t, hb, ht, rfl⟩ | ⟨k, hk, rfl⟩
 ·rw [kE hb ht, qG hr hx he hb t ht]
 rw [r5]; show nth (x.drop _) k = _; rw [lf]
theorem qR (hr : y.bt) (h : g5 (aR y c) (y.cells + 1) x) : fH y c (gG y x) := by
 refine (Bv hr (uO h.1.1)).2 ⟨qN (uO h.1.1), fun i hi => ?_⟩
 rw [Ea hr h.1.1 h.2 hi]; exact h.1.2 i hi
theorem jR (hr : y.bt) (h : fH y c a) : g5 (aR y c) (y.cells + 1) (lJ y a) := ⟨(Bv hr h.lens).1 h, EO hr h.lens⟩
theorem vm (hr : y.bt) : Bd (aR y c) := fun i hi => by
 rcases oK hi with ⟨b, t, hb, ht, rfl⟩ | ⟨k, hk, rfl⟩
 ·rw [ig hb ht]
  obtain ⟨h1, h2, h3⟩ := hr.bin _ (cX hb)
  have h4 := CC (y := y) (c := c) (b := b) (t := t) (iM y b t) y.levels.length
  show 0 ≤ (vQ y c b t).lo ∧ (vQ y c b t).hi ≤ 300
  unfold vQ
  have h5 : 0 ≤ (iM y b t).lo ∧ (iM y b t).hi ≤ 300 := by
   unfold iM; split
   ·exact ⟨Int.le_refl _, h1.2⟩
   show 0 ≤ max _ _ ∧ min _ _ ≤ 300; omega
  omega
 rw [iW hk]
 exact (hr.move _ (cX hk)).2.2.2.2.1
end
end Go.Proofs.YtelbollidfdcjaaGreat
namespace Go.Proofs.YtelbollidfdcjaaGreat
open Go Go.T
section
variable {fl : List cB} {a x : List Int} {n : Nat} {has : Nat → Bool}
def cw (has : Nat → Bool) (less : Bool) (i : Nat) : Int := if has i = true then (if less = true then -1 else 1) else 0
theorem tN (less : Bool) (i : Nat) : -1 ≤ cw has less i ∧ cw has less i ≤ 1 := by
 unfold cw; split
 ·split <;> omega
 omega
def jD (fl : List cB) (has : Nat → Bool) (x : List Int) : Int := c7 (fun i => if has i = true then nth x i else 0) fl.length
theorem zI : lK fl (cw has false) x = jD fl has x := by
 unfold lK jD cw
 refine fO fun i _ => ?_
 cases has i <;> simp
theorem zZ : lK fl (cw has true) x = - jD fl has x := by
 unfold lK jD cw
 have e : (fun i => (if has i = true then (if (true = true) then (-1 : Int) else 1) else 0) * nth x i) = fun i => (-1) * (if has i = true then nth x i else 0) := by
  funext i
  cases has i <;> simp
 rw [e, sY]; omega
structure nx (fl : List cB) (n : Nat) (has : Nat → Bool) (s : Span) : Prop where
  lo : ∃ x, g5 fl n x ∧ jD fl has x = s.lo
  hi : ∃ x, g5 fl n x ∧ jD fl has x = s.hi
  all : ∀ x, g5 fl n x → s.lo ≤ jD fl has x ∧ jD fl has x ≤ s.hi
theorem nx.one {s s' : Span} (h : nx fl n has s) (h' : nx fl n has s') : s = s' := by
 obtain ⟨x1, f1, e1⟩ := h.lo
 obtain ⟨x2, f2, e2⟩ := h.hi
 obtain ⟨y1, g1, d1⟩ := h'.lo
 obtain ⟨y2, g2, d2⟩ := h'.hi
 have a1 := h.all y1 g1
 have a2 := h.all y2 g2
 have b1 := h'.all x1 f1
 have b2 := h'.all x2 f2
 cases s; cases s'
 simp only at *
 congr 1 <;> omega
open Classical in
noncomputable def gp (fl : List cB) (n : Nat) (has : Nat → Bool) : Span := if h : ∃ s, nx fl n has s then h.choose else default
theorem nx.eq {s : Span} (h : nx fl n has s) : gp fl n has = s := by
 have hx : ∃ s, nx fl n has s := ⟨s, h⟩
 unfold gp; rw [dif_pos hx]; exact hx.choose_spec.one h
noncomputable def Bc (fl : List cB) (n : Nat) (has : Nat → Bool) (a : List Int) : List Int := gY fl n (cw has true) a
noncomputable def yl (fl : List cB) (n : Nat) (has : Nat → Bool) (a : List Int) : List Int := gY fl n (cw has false) (Bc fl n has a)
theorem sk (hN : Net fl n) (hn : 0 < n) (hB : Bd fl) (h : g5 fl n a) : g5 fl n (Bc fl n has a) ∧ g5 fl n (yl fl n has a) ∧ nx fl n has ⟨jD fl has (Bc fl n has a), jD fl has (yl fl n has a)⟩ := by
 obtain ⟨h1, h2⟩ := AK hN hn hB (tN (has := has) true) h
 obtain ⟨h3, h4⟩ := AK hN hn hB (tN (has := has) false) h1
 refine ⟨h1, h3, ⟨_, h1, rfl⟩, ⟨_, h3, rfl⟩, fun x hx => ⟨?_, ?_⟩⟩
 ·have := h2 x hx
  rw [zZ, zZ] at this
  show jD fl has (gY fl n (cw has true) a) ≤ _
  omega
 have := h4 x hx
 rw [zI, zI] at this
 exact this
def gz (fl : List cB) : List Int := fl.map cB.lo
theorem K2 (h : ∀ i, i < fl.length → (nth fl i).lo ≤ (nth fl i).hi) : yR fl (gz fl) := by
 unfold gz
 exact ⟨by rw [List.length_map], fun i hi => by rw [nN _ hi]; exact ⟨Int.le_refl _, h i hi⟩⟩
def iL (fl : List cB) : Bool := fl.all fun f => decide (f.lo ≤ f.hi)
theorem J9 (h : iL fl = false) : ¬ ∃ x, g5 fl n x := by
 rintro ⟨x, hx⟩
 unfold iL at h
 rw [List.all_eq_false] at h
 obtain ⟨f, hf, h⟩ := h
 obtain ⟨i, hi, rfl⟩ := oQ hf
 have := hx.1.2 i hi
 rw [decide_eq_true_eq] at h; omega
theorem zU (h : iL fl = true) : ∀ i, i < fl.length → (nth fl i).lo ≤ (nth fl i).hi := fun i hi => by
 unfold iL at h
 rw [List.all_eq_true] at h
 exact of_decide_eq_true (h _ (cX hi))
noncomputable def cU (fl : List cB) (n : Nat) (a : List Int) : Int × Bool × List Int := if iL fl = true then gP fl n a else (0, true, a)
theorem n9 (e : iL fl = true) : cU fl n a = gP fl n a := if_pos e
theorem z6 (e : iL fl = false) : cU fl n a = (0, true, a) := if_neg (by rw [e]; decide)
theorem zJ (hN : Net fl n) (ha : iL fl = true → yR fl a) (h : (cU fl n a).2.1 = false) : g5 fl n (cU fl n a).2.2 := by
  cases e : iL fl with
  | true => rw [n9 e] at h ⊢; exact xO.some (vH hN (ha e)) h
  | false => rw [z6 e] at h; cases h
theorem KL (hN : Net fl n) (ha : iL fl = true → yR fl a) (h : (cU fl n a).2.1 = true) : ¬ ∃ x, g5 fl n x := by
  cases e : iL fl with
  | true => rw [n9 e] at h; exact (vH hN (ha e)).none hN h
  | false => exact J9 e
end
end Go.Proofs.YtelbollidfdcjaaGreat
namespace Go.Proofs.YtelbollidfdcjaaGreat
open Go Go.T
structure Dc (y : au) (c : Nat → Bool) (f : dZ → Int) (s : Span) : Prop where
  lo : ∃ a, fH y c a ∧ f a = s.lo
  hi : ∃ a, fH y c a ∧ f a = s.hi
  all : ∀ a, fH y c a → s.lo ≤ f a ∧ f a ≤ s.hi
section
variable {y : au} {c : Nat → Bool} {f : dZ → Int} {s s' : Span} {a : dZ} {x : List Int} {b t k : Nat} {has : Nat → Bool}
theorem Dc.one (h : Dc y c f s) (h' : Dc y c f s') : s = s' := by
 obtain ⟨x1, f1, e1⟩ := h.lo
 obtain ⟨x2, f2, e2⟩ := h.hi
 obtain ⟨y1, g1, d1⟩ := h'.lo
 obtain ⟨y2, g2, d2⟩ := h'.hi
 have a1 := h.all y1 g1
 have a2 := h.all y2 g2
 have b1 := h'.all x1 f1
 have b2 := h'.all x2 f2
 cases s; cases s'
 simp only at *
 congr 1 <;> omega
theorem tu {α : Type} [Inhabited α] {l k : List α} (h : l.length = k.length) (h2 : ∀ i, i < l.length → nth l i = nth k i) : l = k := by
 refine List.ext_getElem h fun i h1 h3 => ?_
 have := h2 i h1
 unfold nth at this
 rw [List.getD_eq_getElem?_getD, List.getD_eq_getElem?_getD, List.getElem?_eq_getElem h1, List.getElem?_eq_getElem h3] at this
 exact this
theorem uQ (hr : y.bt) (h : yg y a) : gG y (lJ y a) = a := by
  cases a with
  | mk p q =>
    have h1 : (gG y (lJ y ⟨p, q⟩)).cC = q := rY
    have h2 : (gG y (lJ y ⟨p, q⟩)).first = p := by
      have hl := (uO (y := y) (c := fun _ => true) (qN h)).first
      refine tu (hl.trans h.first.symm) fun i hi => ?_
      rw [hl] at hi
      show nth ((List.range y.bins.length).map fun b => nth (lJ y ⟨p, q⟩) (y.kept b 0)) i = _
      rw [eo _ hi, kE hi (Nat.zero_le _), qB hr]
    cases e : gG y (lJ y ⟨p, q⟩) with
    | mk u v => rw [e] at h1 h2; subst h1; subst h2; rfl
theorem Oy (hr : y.bt) (h1 : ∀ x, g5 (aR y c) (y.cells + 1) x → jD (aR y c) has x = f (gG y x)) : nx (aR y c) (y.cells + 1) has s ↔ Dc y c f s := by
 constructor
 ·rintro ⟨⟨u, hu, eu⟩, ⟨v, hv, ev⟩, hall⟩
  refine ⟨⟨_, qR hr hu, by rw [← h1 _ hu, eu]⟩, ⟨_, qR hr hv, by rw [← h1 _ hv, ev]⟩, fun a ha => ?_⟩
  have h2 := hall _ (jR hr ha)
  rw [h1 _ (jR hr ha), uQ hr ha.lens] at h2
  exact h2
 rintro ⟨⟨u, hu, eu⟩, ⟨v, hv, ev⟩, hall⟩
 refine ⟨⟨_, jR hr hu, by rw [h1 _ (jR hr hu), uQ hr hu.lens, eu]⟩, ⟨_, jR hr hv, by rw [h1 _ (jR hr hv), uQ hr hv.lens, ev]⟩, fun x hx => ?_⟩
 rw [h1 _ hx]
 exact hall _ (qR hr hx)
theorem xR (hr : y.bt) (h1 : ∀ x, g5 (aR y c) (y.cells + 1) x → jD (aR y c) has x = f (gG y x)) (h : ∃ a, fH y c a) : Dc y c f (gp (aR y c) (y.cells + 1) has) := by
 obtain ⟨a, ha⟩ := h
 obtain ⟨_, _, hs⟩ := sk (has := has) (l8 hr) (Nat.succ_pos _) (vm hr) (jR hr ha)
 rw [hs.eq]
 exact (Oy hr h1).1 hs
theorem CA {fl : List cB} (hk : k < fl.length) : jD fl (fun i => decide ((i : Int) = (k : Int))) x = nth x k := by
 unfold jD
 rw [je hk fun i _ hn => if_neg (by rw [decide_eq_true_eq]; omega)]
 exact if_pos (decide_eq_true rfl)
theorem MV (hr : y.bt) (hb : b < y.bins.length) (ht : t ≤ y.D) (hx : g5 (aR y c) (y.cells + 1) x) : jD (aR y c) (fun i => decide ((i : Int) = ((y.kept b t : Nat) : Int))) x = dM y (gG y x) b t := by
 rw [CA (by rw [fK]; have := qC hb ht; omega), qG hr hx.1.1 hx.2 hb t ht]
theorem Kv (hk : k < y.moves.length) : jD (aR y c) (fun i => decide ((i : Int) = ((y.bins.length * (y.D + 1) + k : Nat) : Int))) x = nth (gG y x).cC k := by
 rw [CA (by rw [fK]; omega)]
 exact lf.symm
theorem Hx (hr : y.bt) (ht : t ≤ y.D) (hx : g5 (aR y c) (y.cells + 1) x) : jD (aR y c) (fun i => (List.range y.bins.length).any fun b => decide ((i : Int) = ((y.kept b t : Nat) : Int))) x = c7 (fun b => dM y (gG y x) b t) y.bins.length := by
 unfold jD
 rw [fK, mJ, rz, gb (n := y.moves.length) fun i _ => ?_, Int.add_zero]
 ·refine fO fun b hb => ?_
  rw [qG hr hx.1.1 hx.2 hb t ht]
  have key : ∀ t', t' < y.D + 1 → (((List.range y.bins.length).any fun b' => decide (((b * (y.D + 1) + t' : Nat) : Int) = ((y.kept b' t : Nat) : Int))) = decide (t' = t)) := fun t' ht' => by
   rw [Bool.eq_iff_iff, List.any_eq_true, decide_eq_true_eq]
   constructor
   ·rintro ⟨b', _, he⟩
    have he := of_decide_eq_true he
    unfold au.kept at he
    exact (o9 (D := y.D + 1) ht' (by omega) (Int.ofNat.inj he)).2
   rintro rfl
   exact ⟨b, List.mem_range.2 hb, decide_eq_true rfl⟩
  rw [fO (g := fun t' => if decide (t' = t) = true then nth x (b * (y.D + 1) + t') else 0) fun t' ht' => by show (if ((List.range y.bins.length).any fun b' => decide (((b * (y.D + 1) + t' : Nat) : Int) = ((y.kept b' t : Nat) : Int))) = true then _ else _) = _; rw [key t' ht']]
  rw [je (k := t) (by omega) fun i _ hn => if_neg (by rw [decide_eq_true_eq]; exact hn), if_pos (decide_eq_true rfl)]
  rfl
 refine if_neg ?_
 rw [List.any_eq_true]
 rintro ⟨b, hb, he⟩
 have he := of_decide_eq_true he
 have := qC (List.mem_range.1 hb) ht
 omega
theorem oN (hr : y.bt) : (cU (aR y c) (y.cells + 1) (gz (aR y c))).2.1 = false ↔ ∃ a, fH y c a := by
  have hi : iL (aR y c) = true → yR (aR y c) (gz (aR y c)) := fun e => K2 (zU e)
  constructor
  · intro h; exact ⟨_, qR hr (zJ (l8 hr) hi h)⟩
  · rintro ⟨a, ha⟩
    cases e : (cU (aR y c) (y.cells + 1) (gz (aR y c))).2.1 with
    | false => rfl
    | true => exact absurd ⟨_, jR hr ha⟩ (KL (l8 hr) hi e)
end
end Go.Proofs.YtelbollidfdcjaaGreat
namespace Go.Proofs.YtelbollidfdcjaaGreat
open Go Go.T
def types : List TI := [
  ⟨.other, 1, 0, [.tuple #[]]⟩,
  ⟨.func, 1, 8, [.nilFunc]⟩,
  ⟨.int .i64, 1, 8, [.int .i64 0]⟩,
  ⟨.int .i64, 1, 8, [.int .i64 0]⟩,
  ⟨.bool, 1, 1, [.bool false]⟩,
  ⟨.int .u8, 1, 1, [.int .u8 0]⟩,
  ⟨.int .u8, 1, 1, [.int .u8 0]⟩,
  ⟨.struct [(0, 2), (1, 3), (2, 4), (3, 6)], 4, 24, [.int .i64 0, .int .i64 0, .bool false, .int .u8 0]⟩,
  ⟨.struct [(0, 2), (1, 3), (2, 4), (3, 6)], 4, 24, [.int .i64 0, .int .i64 0, .bool false, .int .u8 0]⟩,
  ⟨.string, 1, 16, [.string ByteArray.empty]⟩,
  ⟨.string, 1, 16, [.string ByteArray.empty]⟩,
  ⟨.string, 1, 16, [.string ByteArray.empty]⟩,
  ⟨.int .u64, 1, 8, [.int .u64 0]⟩,
  ⟨.struct [(0, 9), (1, 12)], 2, 24, [.string ByteArray.empty, .int .u64 0]⟩,
  ⟨.struct [(0, 9), (1, 12)], 2, 24, [.string ByteArray.empty, .int .u64 0]⟩,
  ⟨.ptr 238, 1, 8, [.pointer none]⟩,
  ⟨.ptr 241, 1, 8, [.pointer none]⟩,
  ⟨.ptr 249, 1, 8, [.pointer none]⟩,
  ⟨.struct [(0, 17)], 1, 8, [.pointer none]⟩,
  ⟨.struct [(0, 17)], 1, 8, [.pointer none]⟩,
  ⟨.other, 1, 16, [.nilIface]⟩,
  ⟨.int .i32, 1, 4, [.int .i32 0]⟩,
  ⟨.slice 5, 1, 24, [.slice none 0 0]⟩,
  ⟨.slice 39, 1, 24, [.slice none 0 0]⟩,
  ⟨.slice 41, 1, 24, [.slice none 0 0]⟩,
  ⟨.slice 102, 1, 24, [.slice none 0 0]⟩,
  ⟨.struct [(0, 3), (1, 23), (2, 24), (3, 25)], 4, 80, [.int .i64 0, .slice none 0 0, .slice none 0 0, .slice none 0 0]⟩,
  ⟨.struct [(0, 3), (1, 23), (2, 24), (3, 25)], 4, 80, [.int .i64 0, .slice none 0 0, .slice none 0 0, .slice none 0 0]⟩,
  ⟨.slice 3, 1, 24, [.slice none 0 0]⟩,
  ⟨.struct [(0, 28), (1, 28)], 2, 48, [.slice none 0 0, .slice none 0 0]⟩,
  ⟨.struct [(0, 28), (1, 28)], 2, 48, [.slice none 0 0, .slice none 0 0]⟩,
  ⟨.other, 1, 0, [.tuple #[.agg #[.int .i64 0, .slice none 0 0, .slice none 0 0, .slice none 0 0], .agg #[.slice none 0 0, .slice none 0 0]]]⟩,
  ⟨.func, 1, 8, [.nilFunc]⟩,
  ⟨.ptr 149, 1, 8, [.pointer none]⟩,
  ⟨.func, 1, 8, [.nilFunc]⟩,
  ⟨.func, 1, 8, [.nilFunc]⟩,
  ⟨.struct [(0, 3), (1, 3)], 2, 16, [.int .i64 0, .int .i64 0]⟩,
  ⟨.struct [(0, 3), (1, 3)], 2, 16, [.int .i64 0, .int .i64 0]⟩,
  ⟨.struct [(0, 3), (1, 37)], 3, 24, [.int .i64 0, .int .i64 0, .int .i64 0]⟩,
  ⟨.struct [(0, 3), (1, 37)], 3, 24, [.int .i64 0, .int .i64 0, .int .i64 0]⟩,
  ⟨.struct [(0, 3), (1, 3), (2, 3), (3, 37)], 5, 40, [.int .i64 0, .int .i64 0, .int .i64 0, .int .i64 0, .int .i64 0]⟩,
  ⟨.struct [(0, 3), (1, 3), (2, 3), (3, 37)], 5, 40, [.int .i64 0, .int .i64 0, .int .i64 0, .int .i64 0, .int .i64 0]⟩,
  ⟨.func, 1, 8, [.nilFunc]⟩,
  ⟨.slice 37, 1, 24, [.slice none 0 0]⟩,
  ⟨.int .i64, 1, 8, [.int .i64 0]⟩,
  ⟨.other, 1, 0, [.tuple #[.slice none 0 0, .int .i64 0]]⟩,
  ⟨.func, 1, 8, [.nilFunc]⟩,
  ⟨.func, 1, 8, [.nilFunc]⟩,
  ⟨.func, 1, 8, [.nilFunc]⟩,
  ⟨.func, 1, 8, [.nilFunc]⟩,
  ⟨.func, 1, 8, [.nilFunc]⟩,
  ⟨.func, 1, 8, [.nilFunc]⟩,
  ⟨.func, 1, 8, [.nilFunc]⟩,
  ⟨.func, 1, 8, [.nilFunc]⟩,
  ⟨.func, 1, 8, [.nilFunc]⟩,
  ⟨.func, 1, 8, [.nilFunc]⟩,
  ⟨.slice 163, 1, 24, [.slice none 0 0]⟩,
  ⟨.slice 164, 1, 24, [.slice none 0 0]⟩,
  ⟨.slice 165, 1, 24, [.slice none 0 0]⟩,
  ⟨.struct [(0, 3), (1, 56), (2, 57), (3, 58)], 4, 80, [.int .i64 0, .slice none 0 0, .slice none 0 0, .slice none 0 0]⟩,
  ⟨.struct [(0, 3), (1, 56), (2, 57), (3, 58)], 4, 80, [.int .i64 0, .slice none 0 0, .slice none 0 0, .slice none 0 0]⟩,
  ⟨.func, 1, 8, [.nilFunc]⟩,
  ⟨.func, 1, 8, [.nilFunc]⟩,
  ⟨.slice 43, 1, 24, [.slice none 0 0]⟩,
  ⟨.slice 4, 1, 24, [.slice none 0 0]⟩,
  ⟨.struct [(0, 4), (1, 63), (2, 43), (3, 43), (4, 64)], 5, 104, [.bool false, .slice none 0 0, .slice none 0 0, .slice none 0 0, .slice none 0 0]⟩,
  ⟨.struct [(0, 4), (1, 63), (2, 43), (3, 43), (4, 64)], 5, 104, [.bool false, .slice none 0 0, .slice none 0 0, .slice none 0 0, .slice none 0 0]⟩,
  ⟨.func, 1, 8, [.nilFunc]⟩,
  ⟨.other, 1, 0, [.tuple #[.int .i64 0, .int .i64 0]]⟩,
  ⟨.func, 1, 8, [.nilFunc]⟩,
  ⟨.func, 1, 8, [.nilFunc]⟩,
  ⟨.func, 1, 8, [.nilFunc]⟩,
  ⟨.int .u16, 1, 2, [.int .u16 0]⟩,
  ⟨.func, 1, 8, [.nilFunc]⟩,
  ⟨.func, 1, 8, [.nilFunc]⟩,
  ⟨.func, 1, 8, [.nilFunc]⟩,
  ⟨.func, 1, 8, [.nilFunc]⟩,
  ⟨.other, 1, 0, [.tuple #[.slice none 0 0, .bool false, .slice none 0 0, .bool false]]⟩,
  ⟨.func, 1, 8, [.nilFunc]⟩,
  ⟨.func, 1, 8, [.nilFunc]⟩,
  ⟨.func, 1, 8, [.nilFunc]⟩,
  ⟨.other, 1, 0, [.tuple #[.bool false, .int .i64 0]]⟩,
  ⟨.func, 1, 8, [.nilFunc]⟩,
  ⟨.other, 1, 0, [.tuple #[.slice none 0 0, .int .i64 0]]⟩,
  ⟨.func, 1, 8, [.nilFunc]⟩,
  ⟨.func, 1, 8, [.nilFunc]⟩,
  ⟨.func, 1, 8, [.nilFunc]⟩,
  ⟨.other, 1, 0, [.tuple #[.agg #[.slice none 0 0, .slice none 0 0], .int .i64 0]]⟩,
  ⟨.func, 1, 8, [.nilFunc]⟩,
  ⟨.other, 1, 0, [.tuple #[.agg #[.int .i64 0, .int .i64 0], .int .i64 0]]⟩,
  ⟨.func, 1, 8, [.nilFunc]⟩,
  ⟨.func, 1, 8, [.nilFunc]⟩,
  ⟨.func, 1, 8, [.nilFunc]⟩,
  ⟨.func, 1, 8, [.nilFunc]⟩,
  ⟨.func, 1, 8, [.nilFunc]⟩,
  ⟨.struct [(0, 28), (1, 28)], 2, 48, [.slice none 0 0, .slice none 0 0]⟩,
  ⟨.func, 1, 8, [.nilFunc]⟩,
  ⟨.func, 1, 8, [.nilFunc]⟩,
  ⟨.other, 1, 0, [.tuple #[.agg #[.int .i64 0, .slice none 0 0, .slice none 0 0, .slice none 0 0], .int .i64 0]]⟩,
  ⟨.func, 1, 8, [.nilFunc]⟩,
  ⟨.func, 1, 8, [.nilFunc]⟩,
  ⟨.struct [(0, 3), (1, 3), (2, 37)], 4, 32, [.int .i64 0, .int .i64 0, .int .i64 0, .int .i64 0]⟩,
  ⟨.struct [(0, 3), (1, 3), (2, 37)], 4, 32, [.int .i64 0, .int .i64 0, .int .i64 0, .int .i64 0]⟩,
  ⟨.func, 1, 8, [.nilFunc]⟩,
  ⟨.slice 109, 1, 24, [.slice none 0 0]⟩,
  ⟨.struct [(0, 104), (1, 4)], 2, 32, [.slice none 0 0, .bool false]⟩,
  ⟨.struct [(0, 104), (1, 4)], 2, 32, [.slice none 0 0, .bool false]⟩,
  ⟨.func, 1, 8, [.nilFunc]⟩,
  ⟨.struct [(0, 3), (1, 3)], 2, 16, [.int .i64 0, .int .i64 0]⟩,
  ⟨.struct [(0, 3), (1, 3)], 2, 16, [.int .i64 0, .int .i64 0]⟩,
  ⟨.func, 1, 8, [.nilFunc]⟩,
  ⟨.slice 189, 1, 24, [.slice none 0 0]⟩,
  ⟨.func, 1, 8, [.nilFunc]⟩,
  ⟨.other, 1, 0, [.tuple #[.agg #[.slice none 0 0, .bool false], .int .i64 0]]⟩,
  ⟨.func, 1, 8, [.nilFunc]⟩,
  ⟨.func, 1, 8, [.nilFunc]⟩,
  ⟨.func, 1, 8, [.nilFunc]⟩,
  ⟨.func, 1, 8, [.nilFunc]⟩,
  ⟨.func, 1, 8, [.nilFunc]⟩,
  ⟨.func, 1, 8, [.nilFunc]⟩,
  ⟨.ptr 37, 1, 8, [.pointer none]⟩,
  ⟨.func, 1, 8, [.nilFunc]⟩,
  ⟨.func, 1, 8, [.nilFunc]⟩,
  ⟨.func, 1, 8, [.nilFunc]⟩,
  ⟨.func, 1, 8, [.nilFunc]⟩,
  ⟨.func, 1, 8, [.nilFunc]⟩,
  ⟨.func, 1, 8, [.nilFunc]⟩,
  ⟨.func, 1, 8, [.nilFunc]⟩,
  ⟨.slice 27, 1, 24, [.slice none 0 0]⟩,
  ⟨.func, 1, 8, [.nilFunc]⟩,
  ⟨.slice 28, 1, 24, [.slice none 0 0]⟩,
  ⟨.func, 1, 8, [.nilFunc]⟩,
  ⟨.func, 1, 8, [.nilFunc]⟩,
  ⟨.other, 1, 0, [.tuple #[.slice none 0 0, .int .i64 0]]⟩,
  ⟨.func, 1, 8, [.nilFunc]⟩,
  ⟨.func, 1, 8, [.nilFunc]⟩,
  ⟨.func, 1, 8, [.nilFunc]⟩,
  ⟨.func, 1, 8, [.nilFunc]⟩,
  ⟨.func, 1, 8, [.nilFunc]⟩,
  ⟨.func, 1, 8, [.nilFunc]⟩,
  ⟨.array 4 3, 4, 32, [.int .i64 0, .int .i64 0, .int .i64 0, .int .i64 0]⟩,
  ⟨.ptr 3, 1, 8, [.pointer none]⟩,
  ⟨.slice 141, 1, 24, [.slice none 0 0]⟩,
  ⟨.func, 1, 8, [.nilFunc]⟩,
  ⟨.func, 1, 8, [.nilFunc]⟩,
  ⟨.func, 1, 8, [.nilFunc]⟩,
  ⟨.func, 1, 8, [.nilFunc]⟩,
  ⟨.int .u32, 1, 4, [.int .u32 0]⟩,
  ⟨.struct [(0, 22), (1, 3), (2, 147)], 3, 40, [.slice none 0 0, .int .i64 0, .int .u32 0]⟩,
  ⟨.struct [(0, 22), (1, 3), (2, 147)], 3, 40, [.slice none 0 0, .int .i64 0, .int .u32 0]⟩,
  ⟨.func, 1, 8, [.nilFunc]⟩,
  ⟨.func, 1, 8, [.nilFunc]⟩,
  ⟨.ptr 185, 1, 8, [.pointer none]⟩,
  ⟨.other, 1, 0, [.tuple #[.pointer none, .int .i64 0]]⟩,
  ⟨.func, 1, 8, [.nilFunc]⟩,
  ⟨.func, 1, 8, [.nilFunc]⟩,
  ⟨.func, 1, 8, [.nilFunc]⟩,
  ⟨.func, 1, 8, [.nilFunc]⟩,
  ⟨.func, 1, 8, [.nilFunc]⟩,
  ⟨.func, 1, 8, [.nilFunc]⟩,
  ⟨.func, 1, 8, [.nilFunc]⟩,
  ⟨.func, 1, 8, [.nilFunc]⟩,
  ⟨.func, 1, 8, [.nilFunc]⟩,
  ⟨.struct [(0, 3), (1, 37)], 3, 24, [.int .i64 0, .int .i64 0, .int .i64 0]⟩,
  ⟨.struct [(0, 3), (1, 3), (2, 3), (3, 37)], 5, 40, [.int .i64 0, .int .i64 0, .int .i64 0, .int .i64 0, .int .i64 0]⟩,
  ⟨.struct [(0, 3), (1, 3), (2, 37)], 4, 32, [.int .i64 0, .int .i64 0, .int .i64 0, .int .i64 0]⟩,
  ⟨.func, 1, 8, [.nilFunc]⟩,
  ⟨.func, 1, 8, [.nilFunc]⟩,
  ⟨.ptr 66, 1, 8, [.pointer none]⟩,
  ⟨.func, 1, 8, [.nilFunc]⟩,
  ⟨.func, 1, 8, [.nilFunc]⟩,
  ⟨.func, 1, 8, [.nilFunc]⟩,
  ⟨.func, 1, 8, [.nilFunc]⟩,
  ⟨.func, 1, 8, [.nilFunc]⟩,
  ⟨.func, 1, 8, [.nilFunc]⟩,
  ⟨.other, 1, 0, [.tuple #[.slice none 0 0, .bool false]]⟩,
  ⟨.func, 1, 8, [.nilFunc]⟩,
  ⟨.func, 1, 8, [.nilFunc]⟩,
  ⟨.func, 1, 8, [.nilFunc]⟩,
  ⟨.array 8 4, 8, 8, [.bool false, .bool false, .bool false, .bool false, .bool false, .bool false, .bool false, .bool false]⟩,
  ⟨.array 8 4, 8, 8, [.bool false, .bool false, .bool false, .bool false, .bool false, .bool false, .bool false, .bool false]⟩,
  ⟨.func, 1, 8, [.nilFunc]⟩,
  ⟨.func, 1, 8, [.nilFunc]⟩,
  ⟨.slice 187, 1, 24, [.slice none 0 0]⟩,
  ⟨.struct [(0, 27), (4, 183), (5, 28)], 6, 128, [.int .i64 0, .slice none 0 0, .slice none 0 0, .slice none 0 0, .slice none 0 0, .slice none 0 0]⟩,
  ⟨.struct [(0, 27), (4, 183), (5, 28)], 6, 128, [.int .i64 0, .slice none 0 0, .slice none 0 0, .slice none 0 0, .slice none 0 0, .slice none 0 0]⟩,
  ⟨.struct [(0, 3), (1, 3), (2, 3), (3, 3)], 4, 32, [.int .i64 0, .int .i64 0, .int .i64 0, .int .i64 0]⟩,
  ⟨.struct [(0, 3), (1, 3), (2, 3), (3, 3)], 4, 32, [.int .i64 0, .int .i64 0, .int .i64 0, .int .i64 0]⟩,
  ⟨.func, 1, 8, [.nilFunc]⟩,
  ⟨.struct [(0, 3), (1, 3)], 2, 16, [.int .i64 0, .int .i64 0]⟩,
  ⟨.other, 1, 0, [.tuple #[.int .i64 0, .int .i64 0]]⟩,
  ⟨.func, 1, 8, [.nilFunc]⟩,
  ⟨.func, 1, 8, [.nilFunc]⟩,
  ⟨.func, 1, 8, [.nilFunc]⟩,
  ⟨.other, 1, 0, [.tuple #[.int .i64 0, .bool false]]⟩,
  ⟨.func, 1, 8, [.nilFunc]⟩,
  ⟨.map 3 199, 1, 8, [.map none]⟩,
  ⟨.func, 1, 8, [.nilFunc]⟩,
  ⟨.struct [(0, 3), (1, 4)], 2, 16, [.int .i64 0, .bool false]⟩,
  ⟨.struct [(0, 3), (1, 4)], 2, 16, [.int .i64 0, .bool false]⟩,
  ⟨.other, 1, 0, [.tuple #[.agg #[.int .i64 0, .bool false], .bool false]]⟩,
  ⟨.func, 1, 8, [.nilFunc]⟩,
  ⟨.func, 1, 8, [.nilFunc]⟩,
  ⟨.func, 1, 8, [.nilFunc]⟩,
  ⟨.func, 1, 8, [.nilFunc]⟩,
  ⟨.func, 1, 8, [.nilFunc]⟩,
  ⟨.func, 1, 8, [.nilFunc]⟩,
  ⟨.func, 1, 8, [.nilFunc]⟩,
  ⟨.func, 1, 8, [.nilFunc]⟩,
  ⟨.func, 1, 8, [.nilFunc]⟩,
  ⟨.func, 1, 8, [.nilFunc]⟩,
  ⟨.func, 1, 8, [.nilFunc]⟩,
  ⟨.func, 1, 8, [.nilFunc]⟩,
  ⟨.struct [(0, 118), (1, 4)], 2, 16, [.nilFunc, .bool false]⟩,
  ⟨.struct [(0, 118), (1, 4)], 2, 16, [.nilFunc, .bool false]⟩,
  ⟨.func, 1, 8, [.nilFunc]⟩,
  ⟨.func, 1, 8, [.nilFunc]⟩,
  ⟨.func, 1, 8, [.nilFunc]⟩,
  ⟨.func, 1, 8, [.nilFunc]⟩,
  ⟨.func, 1, 8, [.nilFunc]⟩,
  ⟨.func, 1, 8, [.nilFunc]⟩,
  ⟨.func, 1, 8, [.nilFunc]⟩,
  ⟨.slice 199, 1, 24, [.slice none 0 0]⟩,
  ⟨.func, 1, 8, [.nilFunc]⟩,
  ⟨.func, 1, 8, [.nilFunc]⟩,
  ⟨.func, 1, 8, [.nilFunc]⟩,
  ⟨.func, 1, 8, [.nilFunc]⟩,
  ⟨.map 3 222, 1, 8, [.map none]⟩,
  ⟨.func, 1, 8, [.nilFunc]⟩,
  ⟨.int .u64, 1, 8, [.int .u64 0]⟩,
  ⟨.func, 1, 8, [.nilFunc]⟩,
  ⟨.func, 1, 8, [.nilFunc]⟩,
  ⟨.func, 1, 8, [.nilFunc]⟩,
  ⟨.func, 1, 8, [.nilFunc]⟩,
  ⟨.func, 1, 8, [.nilFunc]⟩,
  ⟨.func, 1, 8, [.nilFunc]⟩,
  ⟨.func, 1, 8, [.nilFunc]⟩,
  ⟨.struct [(0, 17), (1, 17), (2, 17), (3, 9)], 4, 40, [.pointer none, .pointer none, .pointer none, .string ByteArray.empty]⟩,
  ⟨.struct [(0, 17), (1, 17), (2, 17), (3, 9)], 4, 40, [.pointer none, .pointer none, .pointer none, .string ByteArray.empty]⟩,
  ⟨.array 0 16, 0, 0, []⟩,
  ⟨.struct [(0, 239)], 0, 0, []⟩,
  ⟨.struct [(0, 239)], 0, 0, []⟩,
  ⟨.int .u8, 1, 1, [.int .u8 0]⟩,
  ⟨.int .u8, 1, 1, [.int .u8 0]⟩,
  ⟨.func, 1, 8, [.nilFunc]⟩,
  ⟨.ptr 5, 1, 8, [.pointer none]⟩,
  ⟨.int .i32, 1, 4, [.int .i32 0]⟩,
  ⟨.int .i32, 1, 4, [.int .i32 0]⟩,
  ⟨.struct [(0, 12), (1, 12), (2, 147), (3, 242), (4, 5), (5, 5), (6, 243), (7, 244), (8, 245), (9, 246), (10, 247)], 11, 48, [.int .u64 0, .int .u64 0, .int .u32 0, .int .u8 0, .int .u8 0, .int .u8 0, .int .u8 0, .nilFunc, .pointer none, .int .i32 0, .int .i32 0]⟩,
  ⟨.struct [(0, 12), (1, 12), (2, 147), (3, 242), (4, 5), (5, 5), (6, 243), (7, 244), (8, 245), (9, 246), (10, 247)], 11, 48, [.int .u64 0, .int .u64 0, .int .u32 0, .int .u8 0, .int .u8 0, .int .u8 0, .int .u8 0, .nilFunc, .pointer none, .int .i32 0, .int .i32 0]⟩,
  ⟨.other, 1, 8, [.pointer none]⟩]
theorem KY : (List.range types.length).map (G1 Tryz.prog) = types.map some := by kernel_rfl
instance eN : lD Tryz.prog := ⟨types, lD.of KY⟩
theorem m7 {P : Program} {w : World} {t : Nat} {k : IntKind} {a b : Int} (d : Nat) (h : P.underlying t = some (.int k)) : (Op.equalIn (d + 1) t (.int k a) (.int k b)).run P w = .ok (decide (a = b)) w := by
 simp [Op.equalIn, run_underlying h, Fp]
theorem Qr (a0 a1 b0 b1 : Int) (w : World) : (Op.equal 37 (.agg #[.int .i64 a0, .int .i64 a1]) (.agg #[.int .i64 b0, .int .i64 b1])).run Tryz.prog w = .ok ((decide (a0 = b0) && decide (a1 = b1))) w := by
 have hs : Tryz.prog.stoodInHeld 37 = false := by kernel_rfl
 have e3 : ∀ (x y : Int) (w : World), (Op.equalIn 9999 3 (.int .i64 x) (.int .i64 y)).run Tryz.prog w = .ok (decide (x = y)) w := fun x y w => m7 9998 Tryz.underlying3
 have g3 : ∀ w, (isAgg 3).run Tryz.prog w = .ok false w := fun w => by simp [isAgg, run_underlying Tryz.underlying3]
 unfold Op.equal Op.maxDepth
 rw [Op.equalIn]
 simp only [Sem.run_bind, run_underlying Tryz.underlying37, Result.andThen_ok]
 simp [hs, part, g3, e3]
 by_cases h0 : a0 = b0 <;> by_cases h1 : a1 = b1 <;> simp [h0, h1]
theorem OM (a0 a1 b0 b1 : Int) : JX Tryz.prog 37 [Ty.int .i64 a0, Ty.int .i64 a1] [Ty.int .i64 b0, Ty.int .i64 b1] ((decide (a0 = b0) && decide (a1 = b1))) :=
  ⟨by kernel_rfl, fun w M cs ds h1 h2 => by
    obtain ⟨cs⟩ := cs
    obtain ⟨ds⟩ := ds
    match cs, ds, h1, h2 with
    | [u0, u1], [v0, v1], h1, h2 =>
      simp only [cI, Ty.int, gL, and_true] at h1 h2
      obtain ⟨rfl, rfl⟩ := h1
      obtain ⟨rfl, rfl⟩ := h2
      exact Qr _ _ _ _ w⟩
theorem PW (a0 a1 b0 b1 : Int) (w : World) : (Op.equal 109 (.agg #[.int .i64 a0, .int .i64 a1]) (.agg #[.int .i64 b0, .int .i64 b1])).run Tryz.prog w = .ok ((decide (a0 = b0) && decide (a1 = b1))) w := by
 have hs : Tryz.prog.stoodInHeld 109 = false := by kernel_rfl
 have e3 : ∀ (x y : Int) (w : World), (Op.equalIn 9999 3 (.int .i64 x) (.int .i64 y)).run Tryz.prog w = .ok (decide (x = y)) w := fun x y w => m7 9998 Tryz.underlying3
 have g3 : ∀ w, (isAgg 3).run Tryz.prog w = .ok false w := fun w => by simp [isAgg, run_underlying Tryz.underlying3]
 unfold Op.equal Op.maxDepth
 rw [Op.equalIn]
 simp only [Sem.run_bind, run_underlying Tryz.underlying109, Result.andThen_ok]
 simp [hs, part, g3, e3]
 by_cases h0 : a0 = b0 <;> by_cases h1 : a1 = b1 <;> simp [h0, h1]
theorem Of (a0 a1 b0 b1 : Int) : JX Tryz.prog 109 [Ty.int .i64 a0, Ty.int .i64 a1] [Ty.int .i64 b0, Ty.int .i64 b1] ((decide (a0 = b0) && decide (a1 = b1))) :=
  ⟨by kernel_rfl, fun w M cs ds h1 h2 => by
    obtain ⟨cs⟩ := cs
    obtain ⟨ds⟩ := ds
    match cs, ds, h1, h2 with
    | [u0, u1], [v0, v1], h1, h2 =>
      simp only [cI, Ty.int, gL, and_true] at h1 h2
      obtain ⟨rfl, rfl⟩ := h1
      obtain ⟨rfl, rfl⟩ := h2
      exact PW _ _ _ _ w⟩
theorem mixed : Tryz.prog.follows .mixedOrders = true := by kernel_rfl
end Go.Proofs.YtelbollidfdcjaaGreat
namespace Go.Proofs.YtelbollidfdcjaaGreat
open Go Go.T
structure Be where
  bin : Int
  day : Int
deriving DecidableEq, Inhabited
def bw : El Span := El.mk' 2 (fun x => [Ty.int .i64 x.lo, Ty.int .i64 x.hi]) (fun _ => rfl) (fun _ => ⟨rfl, rfl, rfl⟩)
def fN : El tC := El.mk' 3 (fun x => [Ty.int .i64 x.holds, Ty.int .i64 x.first.lo, Ty.int .i64 x.first.hi]) (fun _ => rfl) (fun _ => ⟨rfl, rfl, rfl⟩)
def eH : El Move := El.mk' 5 (fun x => [Ty.int .i64 x.day, Ty.int .i64 x.src, Ty.int .i64 x.dst, Ty.int .i64 x.sacks.lo, Ty.int .i64 x.sacks.hi]) (fun _ => rfl) (fun _ => ⟨rfl, rfl, rfl⟩)
def dX : El Level := El.mk' 4 (fun x => [Ty.int .i64 x.day, Ty.int .i64 x.bin, Ty.int .i64 x.sacks.lo, Ty.int .i64 x.sacks.hi]) (fun _ => rfl) (fun _ => ⟨rfl, rfl, rfl⟩)
def ru : El Be := El.mk' 2 (fun x => [Ty.int .i64 x.bin, Ty.int .i64 x.day]) (fun _ => rfl) (fun _ => ⟨rfl, rfl, rfl⟩)
def dn : El cB := El.mk' 4 (fun x => [Ty.int .i64 x.src, Ty.int .i64 x.dst, Ty.int .i64 x.lo, Ty.int .i64 x.hi]) (fun _ => rfl) (fun _ => ⟨rfl, rfl, rfl⟩)
def gI : El Way := El.mk' 2 (fun x => [Ty.int .i64 (x.ix : Nat), Ty.bool x.more]) (fun _ => rfl) (fun _ => ⟨rfl, rfl, rfl⟩)
def eZ : El Bool := El.mk' 1 (fun x => [Ty.bool x]) (fun _ => rfl) (fun _ => ⟨rfl, rfl, rfl⟩)
def bE (y : au) : List Ty := [Ty.int .i64 y.days, Ty.sl fN y.bins, Ty.sl eH y.moves, Ty.sl dX y.levels]
def dr (y : au) : Ty := Ty.agg (bE y)
def mH (a : dZ) : List Ty := [Ty.sl cT a.first, Ty.sl cT a.cC]
def zW (a : dZ) : Ty := Ty.agg (mH a)
theorem l9 {b : Bool} (h : (!b) = true) : b = false := by cases b <;> first | rfl | cases h
theorem ew {b : Bool} (h : (!b) = false) : b = true := by cases b <;> first | rfl | cases h
theorem nA {α : Type} [Inhabited α] {a b : List α} {k : Nat} (h : nth a k ≠ nth b k) : a ≠ b := fun e => h (by rw [e])
theorem qL {α : Type} (q : α → Bool) (l : List α) : (!(l.any fun x => !q x)) = l.all q := by
  induction l with
  | nil => rfl
  | cons x l ih => simp only [List.any_cons, List.all_cons, Bool.not_or, Bool.not_not, ih]
end Go.Proofs.YtelbollidfdcjaaGreat
namespace Go.Proofs.YtelbollidfdcjaaGreat
open Go Go.T
structure Sk where
  grain : List Int
  taken : Int
  mixed : Int
def Rl (s : Sk) : Int := IntKind.u32.wrap (bits .xor .u32 s.mixed (IntKind.u32.wrap (nth s.grain (s.taken.tmod s.grain.length).toNat)) * 16777619)
def EF (s : Sk) : Sk := if (s.grain.length : Int) > 0 then { s with mixed := Rl s } else s
def IS (s : Sk) : Sk := { s with taken := s.taken + 1 }
def Rs (s : Sk) : Int := IntKind.u32.wrap (IntKind.u32.wrap (s.mixed * 1664525) + 1013904223)
def D1 (s : Sk) : Sk := if s.taken > (s.grain.length : Int) then { s with mixed := Rs s } else s
def cE (s : Sk) : Sk := D1 (IS (EF s))
def m9 (s : Sk) : Int := IntKind.i64.wrap (bits .and .u32 (bits .xor .u32 s.mixed (s.mixed / 2 ^ (15 : Int).toNat) / 2 ^ (8 : Int).toNat) 65535)
def Sk.Ok (s : Sk) (n : Int) : Prop := 0 ≤ s.taken ∧ s.taken + n ≤ 4611686018427387904
theorem AU (s : Sk) : (EF s).taken = s.taken := by unfold EF; split <;> rfl
theorem A7 (s : Sk) : (D1 s).taken = s.taken := by unfold D1; split <;> rfl
theorem eY (s : Sk) : (cE s).taken = s.taken + 1 := by unfold cE; rw [A7, IS, AU]
theorem yZ (a : Int) : 0 ≤ bits .and .u32 a 65535 ∧ bits .and .u32 a 65535 ≤ 65535 := by
 have e : bits .and .u32 a 65535 = IntKind.u32.wrap (((BitVec.ofInt 32 a &&& BitVec.ofInt 32 65535).toNat : Nat) : Int) := rfl
 have h1 : (BitVec.ofInt 32 a &&& BitVec.ofInt 32 65535).toNat ≤ 65535 := by
  rw [BitVec.toNat_and]
  exact Nat.and_le_right
 rw [e]
 generalize (BitVec.ofInt 32 a &&& BitVec.ofInt 32 65535).toNat = n at h1
 have : IntKind.u32.wrap (n : Int) = (n : Int) % 4294967296 := rfl
 rw [this]; omega
theorem DA (s : Sk) : 0 ≤ m9 s ∧ m9 s ≤ 65535 := by
 have h := yZ (bits .xor .u32 s.mixed (s.mixed / 2 ^ (15 : Int).toNat) / 2 ^ (8 : Int).toNat)
 unfold m9
 rw [IntWalk.i64_in _ (by omega)]; exact h
def eF (s : Sk) (n : Int) : Int := (m9 (cE s)).tmod (max 1 n)
theorem eJ (s : Sk) (n : Int) : 0 ≤ eF s n ∧ eF s n < max 1 n ∧ eF s n ≤ 65535 := by
 have h := DA (cE s)
 unfold eF
 have h1 : (m9 (cE s)).tmod (max 1 n) = m9 (cE s) % max 1 n := Int.tmod_eq_emod_of_nonneg h.1
 have h2 := Int.emod_lt_of_pos (m9 (cE s)) (show 0 < max 1 n by omega)
 have h3 := Int.emod_nonneg (m9 (cE s)) (show max 1 n ≠ 0 by omega)
 have h4 : m9 (cE s) % max 1 n ≤ m9 (cE s) := by
  have := Int.mul_ediv_add_emod (m9 (cE s)) (max 1 n)
  have hq : 0 ≤ m9 (cE s) / max 1 n := Int.ediv_nonneg h.1 (by omega)
  have : 0 ≤ max 1 n * (m9 (cE s) / max 1 n) := Int.mul_nonneg (by omega) hq
  omega
 omega
def mO (s : Sk) (lo hi : Int) : Int := lo + eF s (hi - lo + 1)
end Go.Proofs.YtelbollidfdcjaaGreat
namespace Go.Proofs.YtelbollidfdcjaaGreat
open Go Go.T
def mV (m : Move) (bin time : Int) : Bool := decide (m.day < time) && decide (m.dst = bin)
def kV (m : Move) (bin time : Int) : Bool := decide (m.day < time) && decide (m.src = bin)
def dh (y : au) (a : dZ) (bin time : Int) (k : Nat) (n : Int) : Int := n + if mV (nth y.moves k) bin time = true then nth a.cC k else 0
def dw (y : au) (a : dZ) (bin time : Int) : Nat → Int
  | 0 => nth a.first bin.toNat
  | k + 1 => dh y a bin time k (dw y a bin time k) - if kV (nth y.moves k) bin time = true then nth a.cC k else 0
def ct (y : au) (a : dZ) (bin time : Int) : Int := dw y a bin time y.moves.length
section
variable {y : au} {a : dZ} {bin time : Int} {k b t : Nat}
theorem Qe (h1 : mV (nth y.moves k) bin time = true) (h2 : kV (nth y.moves k) bin time = true) : dw y a bin time k + nth a.cC k - nth a.cC k = dw y a bin time (k + 1) := by
 show _ = dh y a bin time k (dw y a bin time k) - _; unfold dh; rw [if_pos h1, if_pos h2]
theorem Qk (h1 : mV (nth y.moves k) bin time = true) (h2 : kV (nth y.moves k) bin time = false) : dw y a bin time k + nth a.cC k = dw y a bin time (k + 1) := by
 show _ = dh y a bin time k (dw y a bin time k) - _; unfold dh; rw [if_pos h1, if_neg (by rw [h2]; decide), Int.sub_zero]
theorem Qm (h1 : mV (nth y.moves k) bin time = false) (h2 : kV (nth y.moves k) bin time = true) : dw y a bin time k - nth a.cC k = dw y a bin time (k + 1) := by
 show _ = dh y a bin time k (dw y a bin time k) - _; unfold dh; rw [if_neg (by rw [h1]; decide), if_pos h2, Int.add_zero]
theorem Q3 (h1 : mV (nth y.moves k) bin time = false) (h2 : kV (nth y.moves k) bin time = false) : dw y a bin time k = dw y a bin time (k + 1) := by
 show _ = dh y a bin time k (dw y a bin time k) - _; unfold dh; rw [if_neg (by rw [h1]; decide), if_neg (by rw [h2]; decide), Int.add_zero, Int.sub_zero]
theorem K3 {B : Int} (hB : 0 ≤ B) (h1 : ∀ x ∈ a.first, -B ≤ x ∧ x ≤ B) (h2 : ∀ x ∈ a.cC, -B ≤ x ∧ x ≤ B) (hb : bin.toNat < a.first.length) : ∀ k, k ≤ a.cC.length → -(B + 2 * B * k) ≤ dw y a bin time k ∧ dw y a bin time k ≤ B + 2 * B * k
  | 0, _ => by have := h1 _ (cX hb); show -(B + 2 * B * 0) ≤ nth a.first bin.toNat ∧ nth a.first bin.toNat ≤ _; omega
  | k + 1, hk => by
    have ih := K3 hB h1 h2 hb k (by omega)
    have := h2 _ (cX (show k < a.cC.length by omega))
    have e : 2 * B * ((k + 1 : Nat) : Int) = 2 * B * k + 2 * B := by rw [Int.natCast_add, Int.mul_add]; simp
    show -(B + 2 * B * ((k + 1 : Nat) : Int)) ≤ dh y a bin time k (dw y a bin time k) - _ ∧ dh y a bin time k (dw y a bin time k) - _ ≤ B + 2 * B * ((k + 1 : Nat) : Int)
    rw [e]
    unfold dh
    split <;> split <;> omega
theorem Ji : ∀ k, dw y a b t k = nth a.first b + c7 (fun i => if (nth y.moves i).day < t then qu y a.cC b i else 0) k
  | 0 => by show nth a.first ((b : Nat) : Int).toNat = _ + 0; simp
  | k + 1 => by
    show dh y a b t k (dw y a b t k) - _ = nth a.first b + (c7 _ k + _)
    rw [Ji k]
    unfold dh mV kV qu
    by_cases h0 : (nth y.moves k).day < (t : Int)
    · by_cases h1 : (nth y.moves k).dst = (b : Int) <;> by_cases h2 : (nth y.moves k).src = (b : Int) <;> simp [h0, h1, h2, ind] <;> omega
    · simp [h0]
theorem nS : ct y a b t = dM y a b t := Ji _
end
end Go.Proofs.YtelbollidfdcjaaGreat
namespace Go.Proofs.YtelbollidfdcjaaGreat
open Go Go.T
def kK (s : Sk) (n w : Int) : Span := ⟨max 0 (n - eF s (w + 1)), min 300 (n + eF (cE s) (w + 1))⟩
def LW (y : au) (a : dZ) (m : Move) : Int := if m.src = -1 then 300 else ct y a m.src (m.day + 1)
theorem Ao {s : Sk} {n w : Int} (hn : 0 ≤ n ∧ n ≤ 300) (hw : 0 ≤ w) : (0 ≤ (kK s n w).lo ∧ (kK s n w).hi ≤ 300) ∧ (kK s n w).lo ≤ n ∧ n ≤ (kK s n w).hi := by
 have h1 := eJ s (w + 1)
 have h2 := eJ (cE s) (w + 1)
 unfold kK
 simp only
 omega
section
variable {y : au} {a : dZ} {m : Move} {n bin time : Int} {k : Nat}
def sZ (y : au) (m : Move) : au := { y with moves := y.moves ++ [m] }
def vN (a : dZ) (n : Int) : dZ := { a with cC := a.cC ++ [n] }
theorem Ij (hl : a.cC.length = y.moves.length) : ∀ k, k ≤ y.moves.length → dw (sZ y m) (vN a n) bin time k = dw y a bin time k
  | 0, _ => rfl
  | k + 1, hk => by
    have ih := Ij hl k (by omega)
    show dh (sZ y m) (vN a n) bin time k (dw (sZ y m) (vN a n) bin time k) - _ = dh y a bin time k (dw y a bin time k) - _
    rw [ih]
    unfold dh
    have e1 : nth (sZ y m).moves k = nth y.moves k := gk (by omega)
    have e2 : nth (vN a n).cC k = nth a.cC k := gk (by omega)
    rw [e1, e2]
theorem LC (hl : a.cC.length = y.moves.length) : ct (sZ y m) (vN a n) bin time = ct y a bin time + (if mV m bin time = true then n else 0) - if kV m bin time = true then n else 0 := by
 unfold ct
 have e0 : (sZ y m).moves.length = y.moves.length + 1 := by show (y.moves ++ [m]).length = _; rw [List.length_append]; rfl
 rw [e0]
 show dh (sZ y m) (vN a n) bin time _ (dw (sZ y m) (vN a n) bin time _) - _ = _
 rw [Ij hl _ (Nat.le_refl _)]
 unfold dh
 have e1 : nth (sZ y m).moves y.moves.length = m := by
  show nth (y.moves ++ [m]) (y.moves.length + 0) = m; rw [kP]; rfl
 have e2 : nth (vN a n).cC y.moves.length = n := by
  rw [← hl]; show nth (a.cC ++ [n]) (a.cC.length + 0) = n; rw [kP]; rfl
 rw [e1, e2]
theorem GK {dd : Int} (hd : ∀ k, k < y.moves.length → (nth y.moves k).day ≤ dd) (ht : dd + 1 ≤ time) : ∀ k, k ≤ y.moves.length → dw y a bin time k = dw y a bin (dd + 1) k
  | 0, _ => rfl
  | k + 1, hk => by
    have ih := GK hd ht k (by omega)
    have h := hd k (by omega)
    show dh y a bin time k (dw y a bin time k) - _ = dh y a bin (dd + 1) k (dw y a bin (dd + 1) k) - _
    rw [ih]
    unfold dh mV kV
    rw [decide_eq_true (show (nth y.moves k).day < time by omega), decide_eq_true (show (nth y.moves k).day < dd + 1 by omega)]
theorem IB {b : List tC} {l : List Level} {d : Int} : ct ⟨d, b, y.moves, l⟩ a bin time = ct y a bin time := by
  unfold ct
  show dw _ a bin time y.moves.length = _
  generalize y.moves.length = k
  induction k with
  | zero => rfl
  | succ k ih =>
    show dh _ a bin time k (dw _ a bin time k) - _ = dh y a bin time k (dw y a bin time k) - _
    rw [ih]; rfl
def ux (y : au) (a : dZ) (m : Move) (n : Int) : Int := if m.src = -1 then n else min n (ct y a m.src m.day)
def wZ (y : au) (a : dZ) (m : Move) (n : Int) : Int := if m.dst = -1 then n else min n (300 - ct y a m.dst (m.day + 1))
def z4 (y : au) (a : dZ) (m : Move) (n : Int) : Nat → Int
  | 0 => n
  | k + 1 => if ((decide ((nth y.moves k).day = m.day) && decide ((nth y.moves k).src = m.src)) && !decide (m.src = -1)) = true then min (z4 y a m n k) (ct y a m.src m.day - nth a.cC k) else z4 y a m n k
def so (y : au) (a : dZ) (m : Move) (n : Int) : Int := max 0 (min (z4 y a m (wZ y a m (ux y a m n)) y.moves.length) (LW y a m))
theorem CD : ∀ k, z4 y a m n k ≤ n
  | 0 => Int.le_refl _
  | k + 1 => by
    have := CD k
    unfold z4; split <;> omega
theorem K6 (hn : 0 ≤ n) (h1 : m.dst ≠ -1 → ct y a m.dst (m.day + 1) ≤ 300) (h2 : m.src ≠ -1 → 0 ≤ ct y a m.src (m.day + 1)) :
 (0 ≤ so y a m n ∧ so y a m n ≤ n) ∧ (m.dst ≠ -1 → so y a m n ≤ 300 - ct y a m.dst (m.day + 1)) ∧ (m.src ≠ -1 → so y a m n ≤ ct y a m.src (m.day + 1)) := by
 have h3 := CD (y := y) (a := a) (m := m) (n := wZ y a m (ux y a m n)) y.moves.length
 have h4 : wZ y a m (ux y a m n) ≤ ux y a m n := by unfold wZ; split <;> omega
 have h5 : ux y a m n ≤ n := by unfold ux; split <;> omega
 refine ⟨?_, fun hd => ?_, fun hs => ?_⟩
 ·unfold so; omega
 ·have h6 : wZ y a m (ux y a m n) ≤ 300 - ct y a m.dst (m.day + 1) := by unfold wZ; rw [if_neg hd]; omega
  have := h1 hd
  unfold so; omega
 have h6 : LW y a m = ct y a m.src (m.day + 1) := if_neg hs
 have := h2 hs
 unfold so; rw [h6]; omega
end
structure Md where
  s : Sk
  days : Int
  bins : Int
  moves : Int
  levels : Int
structure Md.Ok (d : Md) : Prop where
  days : 1 ≤ d.days ∧ d.days ≤ 5
  bins : 1 ≤ d.bins ∧ d.bins ≤ 4
  moves : 0 ≤ d.moves ∧ d.moves ≤ 10
  levels : 0 ≤ d.levels ∧ d.levels ≤ 8
namespace Md
def D (d : Md) : Int := mO d.s 1 d.days
def RS (d : Md) : Int := mO (cE d.s) 1 d.bins
def nb (d : Md) : Nat := d.RS.toNat
def bs (d : Md) : Nat → (List Int × List tC) × Sk
  | 0 => (([], []), cE (cE d.s))
  | k + 1 => (((d.bs k).1.1 ++ [eF (d.bs k).2 60], (d.bs k).1.2 ++ [⟨300, kK (cE (d.bs k).2) (eF (d.bs k).2 60) 12⟩]), cE (cE (cE (d.bs k).2)))
def first (d : Md) : List Int := (d.bs d.nb).1.1
def um (d : Md) : List tC := (d.bs d.nb).1.2
def Fe (d : Md) : Int := eF (d.bs d.nb).2 (d.moves + 1)
def many (d : Md) : Nat := d.Fe.toNat
def GV (d : Md) (s : Sk) : Int := mO s (-1) ((d.nb : Int) - 1)
def IF (d : Md) (s : Sk) : Int := mO (cE s) (-1) ((d.nb : Int) - 1)
def src (d : Md) (s : Sk) : Int := if d.GV s = d.IF s then -1 else d.GV s
def dst (d : Md) (s : Sk) : Int := if d.GV s = d.IF s then eF (cE (cE s)) d.nb else d.IF s
def IQ (d : Md) (s : Sk) : Sk := if d.GV s = d.IF s then cE (cE (cE s)) else cE (cE s)
def day (d : Md) (i : Nat) : Int := ((i : Int) * d.D).tdiv d.many
def mv (d : Md) (s : Sk) (i : Nat) : Move := ⟨d.day i, d.src s, d.dst s, ⟨0, 0⟩⟩
def yd (d : Md) (ms : List Move) : au := ⟨d.D, d.um, ms, []⟩
def am (d : Md) (l : List Int) : dZ := ⟨d.first, l⟩
def num (d : Md) (p : (List Move × List Int) × Sk) (i : Nat) : Int := so (d.yd p.1.1) (d.am p.1.2) (d.mv p.2 i) (eF (d.IQ p.2) 40)
def full (d : Md) (p : (List Move × List Int) × Sk) (i : Nat) : Move := { d.mv p.2 i with sacks := kK (cE (d.IQ p.2)) (d.num p i) 15 }
def ms (d : Md) : Nat → (List Move × List Int) × Sk
  | 0 => (([], []), cE (d.bs d.nb).2)
  | i + 1 => (((d.ms i).1.1 ++ [d.full (d.ms i) i], (d.ms i).1.2 ++ [d.num (d.ms i) i]), cE (cE (cE (d.IQ (d.ms i).2))))
def cC (d : Md) : List Int := (d.ms d.many).1.2
def Dm (d : Md) : List Move := (d.ms d.many).1.1
def real (d : Md) : dZ := ⟨d.first, d.cC⟩
def y0 (d : Md) : au := d.yd d.Dm
def most (d : Md) (b : Nat) : Nat → Int
  | 0 => 0
  | t + 1 => max (d.most b t) (ct d.y0 d.real b t)
def hs (d : Md) : Nat → List tC × Sk
  | 0 => (d.um, (d.ms d.many).2)
  | k + 1 => ((d.hs k).1.set k ⟨min 300 (d.most k (d.D + 1).toNat + eF (d.hs k).2 30), (nth (d.hs k).1 k).first⟩, cE (d.hs k).2)
def N7 (d : Md) : List tC := (d.hs d.nb).1
def RV (d : Md) : Int := eF (d.hs d.nb).2 (d.levels + 1)
def nl (d : Md) : Nat := d.RV.toNat
def R3 (d : Md) (s : Sk) : Level := ⟨eF s (d.D + 1), eF (cE s) d.nb, kK (cE (cE s)) (ct d.y0 d.real (eF (cE s) d.nb) (eF s (d.D + 1))) 8⟩
def ls (d : Md) : Nat → List Level × Sk
  | 0 => ([], cE (d.hs d.nb).2)
  | k + 1 => ((d.ls k).1 ++ [d.R3 (d.ls k).2], cE (cE (cE (cE (d.ls k).2))))
def F6 (d : Md) : List Level := (d.ls d.nl).1
def n8 (d : Md) : au := ⟨d.D, d.N7, d.Dm, d.F6⟩
end Md
end Go.Proofs.YtelbollidfdcjaaGreat
namespace Go.Proofs.YtelbollidfdcjaaGreat
open Go Go.T
theorem sN {s : Sk} {lo hi : Int} (h : lo ≤ hi) : lo ≤ mO s lo hi ∧ mO s lo hi ≤ hi := by
 have := eJ s (hi - lo + 1)
 unfold mO; omega
theorem p7 {α : Type} {l : List α} {x z : α} (h : z ∈ l ++ [x]) : z ∈ l ∨ z = x := by
 rcases List.mem_append.1 h with h | h
 ·exact .inl h
 exact .inr (List.mem_singleton.1 h)
theorem sB {α : Type} [Inhabited α] {l : List α} {x : α} {k : Nat} (h : l.length = k) : nth (l ++ [x]) k = x := by
 subst h; exact (kP (l := l) (k := [x]) (i := 0)).trans rfl
theorem CP {i n : Nat} {D : Int} (hD : 1 ≤ D) (hi : i < n) : (0 ≤ ((i : Int) * D).tdiv n ∧ ((i : Int) * D).tdiv n < D) ∧ ∀ k : Nat, k ≤ i → ((k : Int) * D).tdiv n ≤ ((i : Int) * D).tdiv n := by
 have hn : (0 : Int) < n := by omega
 have h0 : ∀ k : Nat, 0 ≤ (k : Int) * D := fun k => Int.mul_nonneg (by omega) (by omega)
 refine ⟨?_, fun k hk => ?_⟩
 ·rw [Int.tdiv_eq_ediv_of_nonneg (h0 i)]
  refine ⟨Int.ediv_nonneg (h0 i) (by omega), Int.ediv_lt_of_lt_mul hn ?_⟩
  rw [Int.mul_comm D]
  exact Int.mul_lt_mul_of_pos_right (by omega) (by omega)
 rw [Int.tdiv_eq_ediv_of_nonneg (h0 i), Int.tdiv_eq_ediv_of_nonneg (h0 k)]
 exact Int.ediv_le_ediv hn (Int.mul_le_mul_of_nonneg_right (by omega) (by omega))
section
variable {d : Md}
theorem Md.NY (h : d.Ok) : 1 ≤ d.D ∧ d.D ≤ 5 := by
 have := h.days
 have := sN (s := d.s) h.days.1
 unfold Md.D; omega
theorem Md.Lf (h : d.Ok) : (1 ≤ d.nb ∧ d.nb ≤ 4) ∧ d.RS = (d.nb : Nat) := by
 have := h.bins
 have := sN (s := cE d.s) h.bins.1
 unfold Md.nb Md.RS; omega
theorem Md.Mi (h : d.Ok) : d.many ≤ 10 ∧ d.Fe = (d.many : Nat) := by
 have := h.moves
 have := eJ (d.bs d.nb).2 (d.moves + 1)
 unfold Md.many Md.Fe; omega
theorem Md.QX (h : d.Ok) : d.nl ≤ 8 ∧ d.RV = (d.nl : Nat) := by
 have := h.levels
 have := eJ (d.hs d.nb).2 (d.levels + 1)
 unfold Md.nl Md.RV; omega
structure Ri (d : Md) (k : Nat) (p : (List Int × List tC) × Sk) : Prop where
  len1 : p.1.1.length = k
  len2 : p.1.2.length = k
  taken : p.2.taken = d.s.taken + 2 + 3 * k
  first : ∀ x ∈ p.1.1, 0 ≤ x ∧ x ≤ 59
  bin : ∀ b ∈ p.1.2, b.holds = 300 ∧ (0 ≤ b.first.lo ∧ b.first.hi ≤ 300) ∧ b.first.lo ≤ b.first.hi
  fit : ∀ i, i < k → (nth p.1.2 i).first.lo ≤ nth p.1.1 i ∧ nth p.1.1 i ≤ (nth p.1.2 i).first.hi
theorem Md.zH (d : Md) : ∀ k, Ri d k (d.bs k)
  | 0 => ⟨rfl, rfl, by show (cE (cE d.s)).taken = _; rw [eY, eY]; omega, fun x h => (by cases h), fun b h => (by cases h), fun i h => (by omega)⟩
  | k + 1 => by
    obtain ⟨h1, h2, h3, h4, h5, h6⟩ := Md.zH d k
    have hb := eJ (d.bs k).2 60
    have hn := Ao (s := cE (d.bs k).2) (n := eF (d.bs k).2 60) (w := 12) (by omega) (by omega)
    refine ⟨?_, ?_, ?_, fun x hx => ?_, fun b hb => ?_, fun i hi => ?_⟩
    · show ((d.bs k).1.1 ++ [_]).length = _; rw [List.length_append, h1]; rfl
    · show ((d.bs k).1.2 ++ [_]).length = _; rw [List.length_append, h2]; rfl
    · show (cE (cE (cE (d.bs k).2))).taken = _; rw [eY, eY, eY, h3]; omega
    · rcases p7 hx with hx | rfl
      · exact h4 x hx
      · omega
    · rcases p7 hb with hb | rfl
      · exact h5 b hb
      · exact ⟨rfl, hn.1, by have := hn.2; show (kK _ _ _).lo ≤ (kK _ _ _).hi; omega⟩
    · show (nth ((d.bs k).1.2 ++ [_]) i).first.lo ≤ nth ((d.bs k).1.1 ++ [_]) i ∧ nth ((d.bs k).1.1 ++ [_]) i ≤ (nth ((d.bs k).1.2 ++ [_]) i).first.hi
      by_cases e : i < k
      · rw [gk (by omega), gk (by omega)]; exact h6 i e
      · obtain rfl : i = k := by omega
        rw [sB h1, sB h2]
        exact hn.2
theorem Md.H9 (d : Md) (s : Sk) : s.taken + 2 ≤ (d.IQ s).taken ∧ (d.IQ s).taken ≤ s.taken + 3 := by
 unfold Md.IQ; split <;> simp only [eY] <;> omega
theorem Md.FM (h : d.Ok) {s : Sk} : (-1 ≤ d.src s ∧ d.src s < d.nb) ∧ (-1 ≤ d.dst s ∧ d.dst s < d.nb) ∧ d.src s ≠ d.dst s := by
 have hn := d.Lf h
 have h1 := sN (s := s) (lo := -1) (hi := (d.nb : Int) - 1) (by omega)
 have h2 := sN (s := cE s) (lo := -1) (hi := (d.nb : Int) - 1) (by omega)
 have h3 := eJ (cE (cE s)) d.nb
 unfold Md.src Md.dst
 split
 ·omega
 rename_i e; unfold Md.GV Md.IF at *; omega
structure Qz (d : Md) (i : Nat) (p : (List Move × List Int) × Sk) : Prop where
  len1 : p.1.1.length = i
  len2 : p.1.2.length = i
  taken : d.s.taken + 3 + 3 * d.nb ≤ p.2.taken ∧ p.2.taken ≤ d.s.taken + 3 + 3 * d.nb + 6 * i
  day : ∀ k, k < i → (nth p.1.1 k).day = d.day k
  move : ∀ m ∈ p.1.1, (-1 ≤ m.src ∧ m.src < d.nb) ∧ (-1 ≤ m.dst ∧ m.dst < d.nb) ∧ m.src ≠ m.dst ∧ (0 ≤ m.sacks.lo ∧ m.sacks.hi ≤ 300) ∧ m.sacks.lo ≤ m.sacks.hi
  num : ∀ x ∈ p.1.2, 0 ≤ x ∧ x ≤ 39
  fit : ∀ k, k < i → (nth p.1.1 k).sacks.lo ≤ nth p.1.2 k ∧ nth p.1.2 k ≤ (nth p.1.1 k).sacks.hi
  cont : ∀ (b : Nat) (t : Int), b < d.nb → 0 ≤ ct (d.yd p.1.1) (d.am p.1.2) b t ∧ ct (d.yd p.1.1) (d.am p.1.2) b t ≤ 300
theorem R5 {x : Int} {n : Nat} (h : -1 ≤ x ∧ x < n) (h1 : x ≠ -1) : ∃ k : Nat, x = k ∧ k < n := ⟨x.toNat, by omega, by omega⟩
theorem Md.P1 (h : d.Ok) {i : Nat} {p : (List Move × List Int) × Sk} (hp : Qz d i p) : (0 ≤ d.num p i ∧ d.num p i ≤ 39) ∧ (d.dst p.2 ≠ -1 → d.num p i ≤ 300 - ct (d.yd p.1.1) (d.am p.1.2) (d.dst p.2) (d.day i + 1)) ∧ (d.src p.2 ≠ -1 → d.num p i ≤ ct (d.yd p.1.1) (d.am p.1.2) (d.src p.2) (d.day i + 1)) := by
 have hb := eJ (d.IQ p.2) 40
 obtain ⟨h1, h2, h3⟩ := d.FM (s := p.2) h
 have := K6 (y := d.yd p.1.1) (a := d.am p.1.2) (m := d.mv p.2 i) (n := eF (d.IQ p.2) 40) (by omega)
  (fun hd => by obtain ⟨k, e, hk⟩ := R5 h2 hd; show ct _ _ (d.dst p.2) _ ≤ _; rw [e]; exact (hp.cont k _ hk).2)
  (fun hd => by obtain ⟨k, e, hk⟩ := R5 h1 hd; show _ ≤ ct _ _ (d.src p.2) _; rw [e]; exact (hp.cont k _ hk).1)
 exact ⟨⟨this.1.1, by have := this.1.2; unfold Md.num; omega⟩, this.2.1, this.2.2⟩
theorem Md.AG (h : d.Ok) : ∀ i, i ≤ d.many → Qz d i (d.ms i)
  | 0, _ => by
    obtain ⟨h1, h2, h3, h4, h5, h6⟩ := d.zH d.nb
    refine ⟨rfl, rfl, ?_, fun k hk => (by omega), fun m hm => (by cases hm), fun x hx => (by cases hx), fun k hk => (by omega), fun b t hb => ?_⟩
    · show _ ≤ (cE (d.bs d.nb).2).taken ∧ (cE (d.bs d.nb).2).taken ≤ _; rw [eY, h3]; omega
    · have := h4 _ (cX (show b < (d.bs d.nb).1.1.length by omega))
      show 0 ≤ nth d.first ((b : Nat) : Int).toNat ∧ nth d.first ((b : Nat) : Int).toNat ≤ 300
      rw [show ((b : Nat) : Int).toNat = b by omega]; unfold Md.first; omega
  | i + 1, hi => by
    have hp := Md.AG h i (by omega)
    obtain ⟨hn, hnd, hns⟩ := d.P1 h hp
    obtain ⟨h1, h2, h3, h4, h5, h6, h7, h8⟩ := hp
    have hD := d.NY h
    obtain ⟨hd1, hd2⟩ := CP (D := d.D) (i := i) (n := d.many) hD.1 (by omega)
    obtain ⟨m1, m2, m3⟩ := d.FM (s := (d.ms i).2) h
    have hnear := Ao (s := cE (d.IQ (d.ms i).2)) (n := d.num (d.ms i) i) (w := 15) (by omega) (by omega)
    have hk := d.H9 (d.ms i).2
    refine ⟨?_, ?_, ?_, fun k hk => ?_, fun m hm => ?_, fun x hx => ?_, fun k hk => ?_, fun b t hb => ?_⟩
    · show ((d.ms i).1.1 ++ [_]).length = _; rw [List.length_append, h1]; rfl
    · show ((d.ms i).1.2 ++ [_]).length = _; rw [List.length_append, h2]; rfl
    · show _ ≤ (cE (cE (cE (d.IQ (d.ms i).2)))).taken ∧ (cE (cE (cE (d.IQ (d.ms i).2)))).taken ≤ _
      simp only [eY]; omega
    · show (nth ((d.ms i).1.1 ++ [_]) k).day = _
      by_cases e : k < i
      · rw [gk (by omega)]; exact h4 k e
      · obtain rfl : k = i := by omega
        rw [sB h1]; rfl
    · rcases p7 hm with hm | rfl
      · exact h5 m hm
      · exact ⟨m1, m2, m3, hnear.1, by have := hnear.2; show (kK _ _ _).lo ≤ (kK _ _ _).hi; omega⟩
    · rcases p7 hx with hx | rfl
      · exact h6 x hx
      · exact hn
    · show (nth ((d.ms i).1.1 ++ [_]) k).sacks.lo ≤ nth ((d.ms i).1.2 ++ [_]) k ∧ nth ((d.ms i).1.2 ++ [_]) k ≤ (nth ((d.ms i).1.1 ++ [_]) k).sacks.hi
      by_cases e : k < i
      · rw [gk (by omega), gk (by omega)]; exact h7 k e
      · obtain rfl : k = i := by omega
        rw [sB h1, sB h2]
        exact hnear.2
    · have e0 : ct (d.yd ((d.ms i).1.1 ++ [d.full (d.ms i) i])) (d.am ((d.ms i).1.2 ++ [d.num (d.ms i) i])) b t = _ := LC (y := d.yd (d.ms i).1.1) (a := d.am (d.ms i).1.2) (m := d.full (d.ms i) i) (n := d.num (d.ms i) i) (bin := b) (time := t) (by show (d.ms i).1.2.length = (d.ms i).1.1.length; omega)
      show 0 ≤ ct (d.yd ((d.ms i).1.1 ++ [d.full (d.ms i) i])) (d.am ((d.ms i).1.2 ++ [d.num (d.ms i) i])) b t ∧ ct (d.yd ((d.ms i).1.1 ++ [d.full (d.ms i) i])) (d.am ((d.ms i).1.2 ++ [d.num (d.ms i) i])) b t ≤ 300
      have hc := h8 b t hb
      by_cases ht : d.day i < t
      · have hl : ct (d.yd (d.ms i).1.1) (d.am (d.ms i).1.2) b t = ct (d.yd (d.ms i).1.1) (d.am (d.ms i).1.2) b (d.day i + 1) :=
          GK (dd := d.day i) (fun k hk => by
            have hk : k < (d.ms i).1.1.length := hk
            show (nth (d.ms i).1.1 k).day ≤ _
            rw [h4 k (by omega)]; exact hd2 k (by omega)) (by omega) _ (Nat.le_refl _)
        have e1 : mV (d.full (d.ms i) i) b t = decide (d.dst (d.ms i).2 = (b : Int)) := by
          show (decide (d.day i < t) && _) = _; rw [decide_eq_true ht]; rfl
        have e2 : kV (d.full (d.ms i) i) b t = decide (d.src (d.ms i).2 = (b : Int)) := by
          show (decide (d.day i < t) && _) = _; rw [decide_eq_true ht]; rfl
        rw [e0, e1, e2]
        rw [hl] at hc ⊢
        by_cases q1 : d.dst (d.ms i).2 = (b : Int) <;> by_cases q2 : d.src (d.ms i).2 = (b : Int)
        · exact absurd (q2.trans q1.symm) m3
        · rw [decide_eq_true q1, decide_eq_false q2]
          have := hnd (by omega)
          rw [q1] at this
          simp only [if_true, Bool.false_eq_true, if_false]; omega
        · rw [decide_eq_false q1, decide_eq_true q2]
          have := hns (by omega)
          rw [q2] at this
          simp only [if_true, Bool.false_eq_true, if_false]; omega
        · rw [decide_eq_false q1, decide_eq_false q2]
          simp only [Bool.false_eq_true, if_false]; omega
      · have e1 : mV (d.full (d.ms i) i) b t = false := by show (decide (d.day i < t) && _) = _; rw [decide_eq_false ht]; rfl
        have e2 : kV (d.full (d.ms i) i) b t = false := by show (decide (d.day i < t) && _) = _; rw [decide_eq_false ht]; rfl
        rw [e0, e1, e2]
        simp only [Bool.false_eq_true, if_false]; omega
theorem Md.Ag (b : Nat) : ∀ k, 0 ≤ d.most b k ∧ (∀ t : Nat, t < k → ct d.y0 d.real b t ≤ d.most b k) ∧ ((∀ t : Nat, ct d.y0 d.real b t ≤ 300) → d.most b k ≤ 300)
  | 0 => ⟨Int.le_refl _, fun t h => (by omega), fun _ => (by show (0 : Int) ≤ 300; omega)⟩
  | k + 1 => by
    obtain ⟨h1, h2, h3⟩ := Md.Ag b k
    refine ⟨?_, fun t ht => ?_, fun h => ?_⟩
    · show 0 ≤ max _ _; omega
    · show _ ≤ max _ _
      by_cases e : t < k
      · have := h2 t e; omega
      · obtain rfl : t = k := by omega
        omega
    · have := h3 h; have := h k
      show max _ _ ≤ _; omega
structure Rg (d : Md) (k : Nat) (p : List tC × Sk) : Prop where
  len : p.1.length = d.nb
  taken : p.2.taken = (d.ms d.many).2.taken + k
  old : ∀ i, i < d.nb → (nth p.1 i).first = (nth d.um i).first
  holds : ∀ i, i < k → 0 ≤ (nth p.1 i).holds ∧ (nth p.1 i).holds ≤ 300 ∧ min 300 (d.most i (d.D + 1).toNat) ≤ (nth p.1 i).holds
theorem Md.Fk (d : Md) : ∀ k, k ≤ d.nb → Rg d k (d.hs k)
  | 0, _ => ⟨(d.zH d.nb).len2, by show (d.ms d.many).2.taken = _; omega, fun i _ => rfl, fun i h => (by omega)⟩
  | k + 1, hk => by
    obtain ⟨h1, h2, h3, h4⟩ := Md.Fk d k (by omega)
    have hb := eJ (d.hs k).2 30
    have hm := (d.Ag k (d.D + 1).toNat).1
    refine ⟨?_, ?_, fun i hi => ?_, fun i hi => ?_⟩
    · show ((d.hs k).1.set k _).length = _; rw [List.length_set, h1]
    · show (cE (d.hs k).2).taken = _; rw [eY, h2]; omega
    · show (nth ((d.hs k).1.set k _) i).first = _
      rw [iz (by omega)]
      split
      · rename_i e; subst e; exact h3 k hi
      · exact h3 i hi
    · show 0 ≤ (nth ((d.hs k).1.set k _) i).holds ∧ (nth ((d.hs k).1.set k _) i).holds ≤ 300 ∧ _ ≤ (nth ((d.hs k).1.set k _) i).holds
      rw [iz (by omega)]
      split
      · rename_i e; subst e
        show 0 ≤ min 300 (_ + _) ∧ min 300 (_ + _) ≤ 300 ∧ _ ≤ min 300 (_ + _)
        omega
      · exact h4 i (by omega)
structure Ru (d : Md) (k : Nat) (p : List Level × Sk) : Prop where
  len : p.1.length = k
  taken : p.2.taken = (d.hs d.nb).2.taken + 1 + 4 * k
  level : ∀ l ∈ p.1, (0 ≤ l.day ∧ l.day ≤ d.D) ∧ (0 ≤ l.bin ∧ l.bin < d.nb) ∧ (0 ≤ l.sacks.lo ∧ l.sacks.hi ≤ 300) ∧ l.sacks.lo ≤ ct d.y0 d.real l.bin l.day ∧ ct d.y0 d.real l.bin l.day ≤ l.sacks.hi
theorem Md.GH (h : d.Ok) (b : Nat) (t : Int) (hb : b < d.nb) : 0 ≤ ct d.y0 d.real b t ∧ ct d.y0 d.real b t ≤ 300 := (d.AG h d.many (Nat.le_refl _)).cont b t hb
theorem Md.FI (h : d.Ok) : ∀ k, Ru d k (d.ls k)
  | 0 => ⟨rfl, by show (cE (d.hs d.nb).2).taken = _; rw [eY]; omega, fun l hl => (by cases hl)⟩
  | k + 1 => by
    obtain ⟨h1, h2, h3⟩ := Md.FI h k
    have hD := d.NY h
    have hn := d.Lf h
    have b1 := eJ (d.ls k).2 (d.D + 1)
    have b2 := eJ (cE (d.ls k).2) d.nb
    obtain ⟨b, eb, hb⟩ : ∃ b : Nat, eF (cE (d.ls k).2) d.nb = b ∧ b < d.nb := ⟨(eF (cE (d.ls k).2) d.nb).toNat, by omega, by omega⟩
    have hc := d.GH h b (eF (d.ls k).2 (d.D + 1)) hb
    rw [← eb] at hc
    have hnear := Ao (s := cE (cE (d.ls k).2)) (w := 8) hc (by omega)
    refine ⟨?_, ?_, fun l hl => ?_⟩
    · show ((d.ls k).1 ++ [_]).length = _; rw [List.length_append, h1]; rfl
    · show (cE (cE (cE (cE (d.ls k).2)))).taken = _; simp only [eY]; omega
    · rcases p7 hl with hl | rfl
      · exact h3 l hl
      · exact ⟨⟨b1.1, by show eF (d.ls k).2 (d.D + 1) ≤ d.D; omega⟩, ⟨b2.1, by show eF (cE (d.ls k).2) d.nb < d.nb; omega⟩, hnear.1, hnear.2⟩
theorem Md.AJ (b t : Int) : ct d.n8 d.real b t = ct d.y0 d.real b t := IB (y := d.y0)
theorem Md.lens (h : d.Ok) : (d.n8.bins.length = d.nb ∧ d.n8.moves.length = d.many) ∧ d.n8.levels.length = d.nl ∧ d.real.first.length = d.nb ∧ d.real.cC.length = d.many :=
 ⟨⟨(d.Fk d.nb (Nat.le_refl _)).len, (d.AG h d.many (Nat.le_refl _)).len1⟩, (d.FI h d.nl).len, (d.zH d.nb).len1, (d.AG h d.many (Nat.le_refl _)).len2⟩
theorem Md.right (h : d.Ok) : d.n8.bt := by
 obtain ⟨⟨l1, l2⟩, l3, l4, l5⟩ := d.lens h
 have hD := d.NY h
 have hn := d.Lf h
 have hm := d.Mi h
 have hl := d.QX h
 have H := d.Fk d.nb (Nat.le_refl _)
 have B := d.zH d.nb
 have M := d.AG h d.many (Nat.le_refl _)
 have L := d.FI h d.nl
 refine ⟨hD, by omega, by omega, by omega, fun b hb => ?_, fun m hm' => ?_, fun l hl' => ?_⟩
 ·obtain ⟨i, hi, rfl⟩ := oQ hb
  rw [l1] at hi
  have h1 := H.holds i hi
  have h2 := H.old i hi
  have h3 := B.bin _ (cX (show i < d.um.length by have := B.len2; unfold Md.um; omega))
  have e : (nth d.n8.bins i).first = (nth d.um i).first := h2
  rw [e]
  exact ⟨⟨h1.1, h1.2.1⟩, h3.2.1, h3.2.2⟩
 ·obtain ⟨i, hi, rfl⟩ := oQ hm'
  have h1 := M.move _ hm'
  have h2 : (nth d.n8.moves i).day = d.day i := M.day i (by rw [l2] at hi; exact hi)
  have h3 := (CP (D := d.D) (i := i) (n := d.many) hD.1 (by rw [l2] at hi; exact hi)).1
  have e : (d.n8.bins.length : Int) = d.nb := by rw [l1]
  rw [h2, e]
  exact ⟨h3, h1.1, h1.2.1, h1.2.2.1, h1.2.2.2.1, h1.2.2.2.2⟩
 have h1 := L.level _ hl'
 have e : (d.n8.bins.length : Int) = d.nb := by rw [l1]
 rw [e]
 exact ⟨h1.1, h1.2.1, h1.2.2.1, by omega⟩
theorem Md.fits (h : d.Ok) (c : Nat → Bool) : fH d.n8 c d.real := by
 obtain ⟨⟨l1, l2⟩, l3, l4, l5⟩ := d.lens h
 have hD := d.NY h
 have H := d.Fk d.nb (Nat.le_refl _)
 have B := d.zH d.nb
 have M := d.AG h d.many (Nat.le_refl _)
 have L := d.FI h d.nl
 refine ⟨⟨by omega, by omega⟩, fun b hb => ?_, fun b t hb ht => ?_, fun i hi => ?_, fun i hi _ => ?_⟩
 ·rw [l1] at hb
  have e : (nth d.n8.bins b).first = (nth d.um b).first := H.old b hb
  rw [e]; exact B.fit b hb
 ·rw [l1] at hb
  rw [← nS, d.AJ]
  have h1 := d.GH h b t hb
  have h2 := H.holds b hb
  have h3 := (d.Ag b (d.D + 1).toNat).2.1 t (by have : t ≤ d.D.toNat := ht; omega)
  refine ⟨h1.1, ?_⟩
  show _ ≤ (nth (d.hs d.nb).1 b).holds
  omega
 ·rw [l2] at hi; exact M.fit i hi
 obtain ⟨h1, h2, _, h3⟩ := L.level _ (cX hi)
 rw [← nS, d.AJ]
 rw [show (((nth d.n8.levels i).bin.toNat : Nat) : Int) = (nth d.n8.levels i).bin by have : 0 ≤ (nth d.n8.levels i).bin := h2.1; omega,
  show (((nth d.n8.levels i).day.toNat : Nat) : Int) = (nth d.n8.levels i).day by have : 0 ≤ (nth d.n8.levels i).day := h1.1; omega]
 exact h3
end
theorem kT {y : au} (h : y.bt) : bL y = 0 := by
 have a1 : k6 y = false := by
  have h1 := h.days; have h2 := h.bins; have h3 := h.moves; have h4 := h.levels
  simp only [k6, Bool.or_eq_false_iff, Bool.not_eq_false', fQ, decide_eq_false_iff_not]
  omega
 have al : ∀ {s : Span}, (0 ≤ s.lo ∧ s.hi ≤ 300) ∧ s.lo ≤ s.hi → fF s = true := fun {s} h => by
  unfold fF; rw [Bool.and_eq_true, fQ, fQ]; omega
 have all : ∀ {α : Type} {l : List α} {p : α → Bool}, (∀ x ∈ l, p x = true) → (!l.all p) = false := fun h => by rw [Bool.not_eq_false', List.all_eq_true]; exact h
 have a2 : kL y = false := all fun b hb => by
  obtain ⟨h1, h2, h3⟩ := h.bin b hb
  rw [Bool.and_eq_true, fQ, al ⟨h2, h3⟩]; exact ⟨by omega, rfl⟩
 have a3 : iX y = false := by
  unfold iX
  rw [all fun m hm => al ⟨(h.move m hm).2.2.2.2.1, (h.move m hm).2.2.2.2.2⟩, all fun l hl => al ⟨(h.level l hl).2.2.1, (h.level l hl).2.2.2⟩]; rfl
 have fin : ∀ {n : Int}, -1 ≤ n ∧ n < y.bins.length → y.fin n = true := fun {n} h => by
  unfold au.fin au.bin; rw [Bool.or_eq_true, decide_eq_true_eq, fQ]; omega
 have a4 : xh y = false := all fun m hm => by
  obtain ⟨h1, h2, h3, _⟩ := h.move m hm
  rw [Bool.and_eq_true, Bool.and_eq_true, fQ, fin h2, fin h3]; exact ⟨⟨by omega, rfl⟩, rfl⟩
 have a5 : qz y = false := all fun l hl => by
  obtain ⟨h1, h2, _⟩ := h.level l hl
  unfold au.time au.bin; rw [Bool.and_eq_true, fQ, fQ]; omega
 have a6 : p6 y = false := all fun m hm => by
  rw [Bool.not_eq_true', decide_eq_false_iff_not]; exact (h.move m hm).2.2.2.1
 have a7 : pg y = false := by
  unfold pg
  rw [all (p := fun b : tC => fZ b.first) fun b hb => decide_eq_true (h.bin b hb).2.2, all (p := fun m : Move => fZ m.sacks) fun m hm => decide_eq_true (h.move m hm).2.2.2.2.2, all (p := fun l : Level => fZ l.sacks) fun l hl => decide_eq_true (h.level l hl).2.2.2]; rfl
 unfold bL
 rw [a1, a2, a3, a4, a5, a6, a7]; rfl
end Go.Proofs.YtelbollidfdcjaaGreat
namespace Go.T
open Go Go.RowKit
def Zt : Nat := 1000000
def Ho (M : bC) : Prop := ∀ b u, M b = some u → Zt ≤ u → u = Zt + b
def Cb (J : World → bC → Prop) : Prop := ∀ w M w' M', Wf w' M' → Le (fun t => Zt ≤ t) (fun t => Zt ≤ t) w M w' M' → J w M → J w' M'
def P8 (P : Program) (l : Nat) (encs : List (List Ty)) (J : Nat → World → bC → Prop) (Jx : World → bC → Prop) : Prop :=
  ∀ (k : Nat) (tys : List Ty), encs[k]? = some tys → ∀ w M vs, Wf w M → Ho M → J k w M → cI w M tys vs →
    YieldAt Fence.wide 0 P l vs.toArray w fun e w' => ∃ M', Wf w' M' ∧ Ho M' ∧ Le (fun t => t < Zt) (fun t => t < Zt) w M w' M' ∧ ((e = .returned (.bool true) ∧ J (k + 1) w' M') ∨ (e = .returned (.bool false) ∧ Jx w' M'))
section
variable {P : Program} {fr : Fr} {ops : Array Oper} {A : As} {rest : List Oper} {K : As → List (As × Fx) → Prop} {d : Nat} {t : TypeId} {p : String} {e : Array Edge} {Q : Exit → Act → World → Prop}
theorem Pk {op : Op} {dst : Option Nat} {j s : Nat} {want : Bool} {f : Fx} (hs : pY ops j = some s) (hn : Nat.blt s fr.n = true) (hc : A.slots s = .bool want) (h1 : xp P fr ops ⟨dst, op, t, p, e, none⟩ A f) :
 xp P fr ops ⟨dst, op, t, p, e, some (j, want)⟩ A { f with rs := s :: f.rs } := by
 obtain ⟨hd, hsets, hS, hK, hop⟩ := h1
 refine ⟨hd, hsets, hS, hK, fun a w M wf hsz hrd htg => ?_⟩
 have hv := hrd s List.mem_cons_self (by simpa using hn)
 rw [hc] at hv
 have hy := lT (ops := ops) hs (by rw [hsz]; simpa using hn) hv
 have hw : Region.wanted ⟨dst, op, t, p, e, some (j, want)⟩ (yielded ops a.tmps) = true := by simp [Region.wanted, hy]
 have h := hop a w M wf hsz (fun c hc => hrd c (List.mem_cons_of_mem _ hc)) htg
 rw [if_pos (by simp [Region.wanted])] at h
 rw [if_pos hw]
 exact h
theorem kJ {op : Op} {dst : Option Nat} {j s : Nat} {want : Bool} {f : Fx} (hs : pY ops j = some s) (hn : Nat.blt s fr.n = true) (hc : A.slots s = .bool want) (h1 : xp P fr ops ⟨dst, op, t, p, e, none⟩ A f)
 (h : bA P fr ops rest (A.after f) fun A' l' => K A' ((A, { f with rs := s :: f.rs }) :: l')) : bA P fr ops (⟨dst, op, t, p, e, some (j, want)⟩ :: rest) A K := ⟨_, Pk hs hn hc h1, h⟩
theorem nE {op : Op} {j s : Nat} {want c : Bool} (hs : pY ops j = some s) (hn : Nat.blt s fr.n = true) (hc : A.slots s = .bool c) (hne : (c == want) = false)
 (h : bA P fr ops rest (A.set d (.ex undef)) fun A' l' => K A' ((A, { d := some d, ty := .ex undef, rs := [s] }) :: l')) : bA P fr ops (⟨some d, op, t, p, e, some (j, want)⟩ :: rest) A K := by
 refine ⟨{ d := some d, ty := .ex undef, rs := [s] }, ⟨rfl, (by simp), (by simp), (by simp), fun a w M wf hsz hrd htg => ?_⟩, h⟩
 have hv := hrd s List.mem_cons_self (by simpa using hn)
 rw [hc] at hv
 have hy := lT (ops := ops) hs (by rw [hsz]; simpa using hn) hv
 have hw : Region.wanted ⟨some d, op, t, p, e, some (j, want)⟩ (yielded ops a.tmps) = false := by
  simp only [Region.wanted, hy]
  cases c <;> cases want <;> simp_all
 rw [if_neg (by rw [hw]; simp)]
 exact ⟨M, wf, Le.refl _ _ _ _, rfl, by simp⟩
def yv (l : Nat) : Value := .func (.yield l) #[] #[]
end
def cM (n : Nat) (J : Nat → World → bC → Prop) (Jx : World → bC → Prop) (resD resS : Ty) (e : Ending) (w' : World) : Prop :=
  ∃ r M', e = .returned r ∧ Wf w' M' ∧ Ho M' ∧ ((resD.den w' M' r ∧ J n w' M') ∨ (resS.den w' M' r ∧ Jx w' M'))
section
variable {P : Program} {A : As}
variable {fn : Func} {n m : Nat} {w0 : World} {M0 : bC} {J : Nat → World → bC → Prop} {Jx : World → bC → Prop} {resD resS : Ty}
end
end Go.T
namespace Go.T
open Go Go.RowKit
theorem A6 : 1 ≤ Zt := by decide
def gB (M : bC) : bC := fun b => match M b with | none => none | some t => if Zt ≤ t then some 0 else some t
theorem iT {M : bC} {b : Nat} (h : M b = none) : gB M b = none := by simp [gB, h]
theorem fy {M : bC} {b t : Nat} (h : M b = some t) (ht : t < Zt) : gB M b = some t := by
 have : ¬ Zt ≤ t := by omega
 simp [gB, h, this]
theorem xm {M : bC} {b t : Nat} (h : M b = some t) (ht : Zt ≤ t) : gB M b = some 0 := by simp [gB, h, ht]
theorem oR {M : bC} {b t : Nat} (h : gB M b = some (t + 1)) : M b = some (t + 1) ∧ t + 1 < Zt := by
 unfold gB at h
 split at h
 ·cases h
 rename_i u hu
 split at h
 ·cases h
 injection h with h; subst h; exact ⟨hu, by omega⟩
theorem pR {w : World} {M : bC} (wf : Wf w M) : Wf w (gB M) :=
  ⟨fun b t h => by
    cases hm : M b with
    | none => rw [iT hm] at h; cases h
    | some u => exact wf.lt b u hm, fun b b' t ht1 h h' => wf.inj b b' t ht1 (oR h).1 (oR h').1⟩
theorem Ai {M : bC} {b u : Nat} (h : gB M b = some u) : u < Zt := by
 unfold gB at h
 split at h
 ·cases h
 split at h
 ·injection h with h; subst h; decide
 injection h with h; omega
def CY (n : Nat) (pass : List Nat) (s : Nat → Ty) : Bool := (List.range n).all fun c => (s c).cdeps.isEmpty && (s c).deps.all fun t => pass.contains t
def xV (l l' : List Nat) : Bool := l.all (fun t => l'.contains t) && l'.all fun t => Nat.ble 1 t && Nat.blt t 1000000
def RU (l : List Nat) : Bool := l.all fun t => Nat.ble 1 t && Nat.blt t 1000000
def rV (l : List (Nat × Cont)) : Bool := l.all fun x => Nat.ble 1 x.1 && (Nat.blt x.1 1000000 && (RU x.2.deps && RU x.2.cdeps))
theorem Bh {l : List Nat} (h : RU l = true) : ∀ t ∈ l, 1 ≤ t ∧ t < Zt := by
 intro t ht
 simp only [RU, List.all_eq_true, Bool.and_eq_true, Nat.ble_eq, Nat.blt_eq] at h
 exact h t ht
theorem k5 {l : List (Nat × Cont)} (h : rV l = true) : ∀ x ∈ l, (1 ≤ x.1 ∧ x.1 < Zt) ∧ (∀ t ∈ x.2.deps, 1 ≤ t ∧ t < Zt) ∧ ∀ t ∈ x.2.cdeps, 1 ≤ t ∧ t < Zt := by
 intro x hx
 simp only [rV, List.all_eq_true, Bool.and_eq_true, Nat.ble_eq, Nat.blt_eq] at h
 obtain ⟨h1, h2, h3, h4⟩ := h x hx
 exact ⟨⟨h1, h2⟩, Bh h3, Bh h4⟩
theorem ld {n : Nat} {pass : List Nat} {s : Nat → Ty} (h : CY n pass s = true) : ∀ c, c < n → (s c).cdeps = [] ∧ ∀ t ∈ (s c).deps, t ∈ pass := by
 intro c hc
 simp only [CY, List.all_eq_true, Bool.and_eq_true, List.mem_range, List.isEmpty_iff, List.contains_iff_mem] at h
 exact h c hc
theorem pz {l l' : List Nat} (h : xV l l' = true) : (∀ t ∈ l, t ∈ l') ∧ ∀ t ∈ l', 1 ≤ t ∧ t < Zt := by
 simp only [xV, Bool.and_eq_true, List.all_eq_true, List.contains_iff_mem, Nat.ble_eq, Nat.blt_eq] at h
 exact ⟨h.1, h.2⟩
theorem C2 {w : World} {M : bC} {n : Nat} : ∀ (l : List (Nat × Ty)) (vs : List Value) (tm : Array Value) (s : Nat → Ty), (l.map Prod.fst).Nodup → tm.size = n → (∀ c, c < n → (s c).den w M (tm.getD c undef)) → cI w M (l.map Prod.snd) vs →
    (((l.map Prod.fst).zip vs).foldl (fun t (p, v) => t.setIfInBounds p v) tm).size = n ∧ ∀ c, c < n → (pZ l s c).den w M ((((l.map Prod.fst).zip vs).foldl (fun t (p, v) => t.setIfInBounds p v) tm).getD c undef)
  | [], [], tm, s, _, hsz, hs, _ => ⟨hsz, hs⟩
  | (d, ty) :: l, v :: vs, tm, s, hnd, hsz, hs, ⟨hv, hvs⟩ => by
    simp only [List.map_cons, List.nodup_cons] at hnd
    have hs' : ∀ c, c < n → ((fun i => bif Nat.beq i d then ty else s i) c).den w M ((tm.setIfInBounds d v).getD c undef) := fun c hc => by
      simp only [Array.getD_eq_getD_getElem?, Array.getElem?_setIfInBounds]
      by_cases e : d = c
      · subst e; simpa [hsz, hc] using hv
      · have e' : Nat.beq c d = false := by cases h : Nat.beq c d with | false => rfl | true => exact absurd (Nat.eq_of_beq_eq_true h).symm e
        simpa [e, e', Array.getD_eq_getD_getElem?] using hs c hc
    obtain ⟨h1, h2⟩ := C2 l vs (tm.setIfInBounds d v) (fun i => bif Nat.beq i d then ty else s i) hnd.2 (by simpa using hsz) hs' hvs
    have hset : ∀ c, pZ ((d, ty) :: l) s c = pZ l (fun i => bif Nat.beq i d then ty else s i) c := by
      intro c
      have hl : ∀ (l : List (Nat × Ty)) (s s' : Nat → Ty), (∀ i, i = c → i ∉ l.map Prod.fst → s i = s' i) → pZ l s c = pZ l s' c := by
        intro l
        induction l with
        | nil => intro s s' h; exact h c rfl (by simp)
        | cons x l ih =>
          intro s s' h
          simp only [pZ]
          cases hb : Nat.beq c x.1 with
          | true => rfl
          | false =>
            simp only [cond_false]
            refine ih s s' fun i hi hm => h i hi fun hm' => ?_
            rw [List.map_cons] at hm'
            rcases List.mem_cons.1 hm' with h1 | h1
            · rw [← h1, hi] at hb; simp at hb
            · exact hm h1
      simp only [pZ]
      by_cases e : c = d
      · subst e
        have hb : Nat.beq c c = true := by simp
        rw [hb, cond_true]
        have : ∀ (l : List (Nat × Ty)) (s : Nat → Ty), c ∉ l.map Prod.fst → pZ l s c = s c := by
          intro l
          induction l with
          | nil => intro s _; rfl
          | cons x l ih =>
            intro s h
            simp only [List.map_cons, List.mem_cons, not_or] at h
            have hb : Nat.beq c x.1 = false := by cases hb : Nat.beq c x.1 with | false => rfl | true => exact absurd (Nat.eq_of_beq_eq_true hb) h.1
            simp only [pZ, hb, cond_false]
            exact ih s h.2
        rw [this l _ hnd.1]
        simp
      · have hb : Nat.beq c d = false := by cases hb : Nat.beq c d with | false => rfl | true => exact absurd (Nat.eq_of_beq_eq_true hb) e
        rw [hb, cond_false]
        exact hl l _ _ fun i hi _ => by subst hi; simp [hb]
    refine ⟨h1, fun c hc => ?_⟩
    rw [hset]; exact h2 c hc
def Oh : Nat → Ty := fun _ => Ty.any
def dR (fr : Fr) (B : List (Nat × Cont)) (br : Bool) (tr : List (Nat × Cont)) : Exit → Act → World → Prop
  | .normal, a, w => As.holds fr ⟨Oh, B⟩ a w
  | .ret, a, w => br = true ∧ As.holds fr ⟨Oh, tr⟩ a w
  | _, _, _ => False
theorem Bg {fr : Fr} {A : As} {B : List (Nat × Cont)} {br : Bool} {tr : List (Nat × Cont)} (h : cg fr A ⟨Oh, B⟩) : dQ fr A (dR fr B br tr .normal) := fun _ _ ha => h.holds ha
def O1 (P : Program) (n : Nat) (pass : List Nat) (assign body : Code) (A : As) (B : List (Nat × Cont)) (br : Bool) (tr : List (Nat × Cont)) : Prop :=
  ∃ A1 : As, (∀ l w M, fP P ⟨n, w, M, pass, .round l⟩ assign A (Exit.then (fun a w' => A1.holds ⟨n, w, M, pass, .round l⟩ a w') fun _ _ _ => False)) ∧
    ∀ l w M, fP P ⟨n, w, M, pass, .round l⟩ body (A1.after { d := none, S := [0] }) (dR ⟨n, w, M, pass, .round l⟩ B br tr)
section
variable {P : Program} {fr : Fr} {A : As} {Q : Exit → Act → World → Prop}
theorem Db {w : World} {M : bC} {l : Nat} {o : Obj} (h0 : fr.w0.heap.size ≤ l) (h1 : ∀ t, ¬ (1 ≤ t ∧ t ∉ fr.pass) → fr.M0 l ≠ some t) (hb : fr.base w M) : fr.base (w.putObj l o) M := by
 refine ⟨by simpa using hb.size, hb.os, hb.tape, hb.out, fun b hlt hm => ⟨(hb.ql b hlt hm).1, ?_⟩, fun b t hm hk => ⟨(hb.own b t hm hk).1, fun hs => ?_⟩⟩
 ·rw [World.putObj_heap_other (by omega)]; exact (hb.ql b hlt hm).2
 rw [World.putObj_heap_other (fun e => h1 t hk (by rw [← e]; exact hm))]; exact (hb.own b t hm hk).2 hs
theorem vn {w : World} {M : bC} {l : Nat} {o : Obj} (hl : M l = some 0) : Le (· ∈ [0]) (· ∈ ([] : List Nat)) w M (w.putObj l o) M := by
 refine ⟨by simp, rfl, rfl, rfl, fun b hb hm => ⟨hm, World.putObj_heap_other fun e => by rw [e, hl] at hm; cases hm⟩, fun b t hm _ => ⟨hm, fun hs => World.putObj_heap_other fun e => ?_⟩⟩
 rw [e, hl] at hm; injection hm with hm; exact hs (by simp [hm])
def JJ (fr : Fr) (s : Nat → Ty) (tm : Array Value) (ds : List Deferred) (l : Nat) (r : Loop) (tg : List (Nat × Cont)) (w : World) (M : bC) : Prop :=
  fr.base w M ∧ (∀ c, c < fr.n → (s c).den w M (tm.getD c undef)) ∧ (∀ x ∈ tg, x.2.den w M x.1) ∧ M l = some 0 ∧ w.heap[l]? = some (.loop r) ∧ Defs fr w M ds
theorem OK {s : Nat → Ty} {tm : Array Value} {ds : List Deferred} {l : Nat} {r : Loop} {tg : List (Nat × Cont)} {pass' : List Nat} (hpass : xV fr.pass pass' = true) (hs : CY fr.n pass' s = true) (ht : rV tg = true) : Cb (JJ fr s tm ds l r tg) := by
 intro w M w' M' wf' le ⟨h1, h2, h3, h4, h5, h6⟩
 obtain ⟨hp1, hp2⟩ := pz hpass
 obtain ⟨a, c⟩ := le.own l 0 h4 (by decide)
 refine ⟨Fr.jT h1 (fun t ht => Nat.le_trans A6 ht) (fun t ht => ⟨Nat.le_trans A6 ht, fun hm => by have := (hp2 t (hp1 t hm)).2; omega⟩) le, fun c hc => ?_, fun x hx => ?_, a, (c (by decide)).trans h5, h6.step (fun t ht => Nat.le_trans A6 ht) (fun t ht => Nat.le_trans A6 ht) le⟩
 ·obtain ⟨e1, e2⟩ := ld hs c hc
  exact (s c).mono le (fun t ht hz => by have := (hp2 t (e2 t ht)).2; omega) (by rw [e1]; intro _ h; cases h) (h2 c hc)
 obtain ⟨⟨_, e2⟩, e3, e4⟩ := k5 ht x hx
 exact x.2.mono le (fun t ht hz => by have := (e3 t ht).2; omega) (fun t ht hz => by have := (e4 t ht).2; omega) (by omega) (by omega) (h3 x hx)
def oV (w : World) (M M3 : bC) : bC := fun b => match M b with | some u => if b < w.heap.size ∧ Zt ≤ u then some u else gB M3 b | none => gB M3 b
theorem yq {s : Nat → Ty} {tm : Array Value} {ds : List Deferred} {l : Nat} {r r3 r4 : Loop} {tg0 tg : List (Nat × Cont)} {pass' : List Nat} (hpass : xV fr.pass pass' = true) (hs : CY fr.n pass' s = true) (ht : rV tg = true) (hkd : fr.kd = .marks)
    (h0 : fr.w0.heap.size ≤ l) (h1 : ∀ t, ¬ (1 ≤ t ∧ t ∉ fr.pass) → fr.M0 l ≠ some t)
    {w w1 w3 : World} {M M1 M3 : bC} (wf : Wf w M) (z : Ho M) (hj : JJ fr s tm ds l r tg0 w M)
    (le1 : Le (fun t => 1 ≤ t) (fun t => 1 ≤ t ∧ t ∉ pass') w (gB M) w1 M1) (wf3 : Wf w3 M3) (le3 : Le (fun t => 1 ≤ t) (fun t => 1 ≤ t ∧ t ∉ pass') (w1.putObj l (.loop r3)) M1 w3 M3)
    (htg : ∀ x ∈ tg, x.2.den w3 M3 x.1) :
    w3.heap[l]? = some (.loop r3) ∧ ∃ M4, Wf (w3.putObj l (.loop r4)) M4 ∧ Ho M4 ∧ Le (fun t => t < Zt) (fun t => t < Zt) w M (w3.putObj l (.loop r4)) M4 ∧ JJ fr s tm ds l r4 tg (w3.putObj l (.loop r4)) M4 := by
  obtain ⟨hb, hsl, _, hl, hrec, hdef⟩ := hj
  obtain ⟨hp1, hp2⟩ := pz hpass
  have hlt : l < w.heap.size := wf.lt l 0 hl
  have hZ : (1 : Nat) ≤ Zt := by decide
  -- a block whose tag is 0, or another one that stays
  have zero : ∀ b, gB M b = some 0 → M3 b = some 0 ∧ (b ≠ l → w3.heap[b]? = w.heap[b]?) := fun b h => by
    obtain ⟨a, c⟩ := le1.own b 0 h (by omega)
    obtain ⟨a', c'⟩ := le3.own b 0 a (by omega)
    exact ⟨a', fun e => (c' (by omega)).trans ((World.putObj_heap_other e).trans (c (by omega)))⟩
  have pas : ∀ b t, t ∈ pass' → M b = some t → M3 b = some t := fun b t hm h => by
    obtain ⟨a, _⟩ := le1.own b t (fy h (hp2 t hm).2) (fun h => h.2 hm)
    exact (le3.own b t a fun h => h.2 hm).1
  have ql : ∀ b, b < w.heap.size → M b = none → M3 b = none ∧ w3.heap[b]? = w.heap[b]? := fun b hb h => by
    obtain ⟨a, c⟩ := le1.ql b hb (iT h)
    obtain ⟨a', c'⟩ := le3.ql b (by simpa using Nat.lt_of_lt_of_le hb le1.size) a
    exact ⟨a', c'.trans ((World.putObj_heap_other fun e => by rw [e, hl] at h; cases h).trans c)⟩
  have hl0 : gB M l = some 0 := fy hl (by decide)
  have hM1l := (le1.own l 0 hl0 (by omega)).1
  have hl1 : l < w1.heap.size := Nat.lt_of_lt_of_le hlt le1.size
  have hrec3 : w3.heap[l]? = some (.loop r3) := ((le3.own l 0 hM1l (by omega)).2 (by omega)).trans (World.putObj_heap_same hl1)
  have hM3l := (zero l hl0).1
  have hsz3 : w.heap.size ≤ w3.heap.size := Nat.le_trans le1.size (by simpa using le3.size)
  refine ⟨hrec3, oV w M M3, ?_⟩
  -- how the tags are
  have kept : ∀ b u, M b = some u → Zt ≤ u → oV w M M3 b = some u := fun b u h hu => by
    unfold oV; rw [h]; simp [wf.lt b u h, hu]
  have other : ∀ b, (∀ u, M b = some u → u < Zt) → oV w M M3 b = gB M3 b := fun b h => by
    unfold oV
    cases hm : M b with
    | none => rfl
    | some u => have := h u hm; simp only; rw [if_neg (by omega)]
  have from3 : ∀ b t, M3 b = some t → 1 ≤ t → ∀ u, M b = some u → u < Zt := fun b t h h1 u hu => by
    rcases Nat.lt_or_ge u Zt with h2 | h2
    · exact h2
    · have := (zero b (xm hu h2)).1
      rw [this] at h; injection h with h; omega
  have none3 : ∀ b, M3 b = none → ∀ u, M b = some u → u < Zt := fun b h u hu => by
    rcases Nat.lt_or_ge u Zt with h2 | h2
    · exact h2
    · have := (zero b (xm hu h2)).1
      rw [this] at h; cases h
  have zok : Ho (oV w M M3) := fun b u h hu => by
    unfold oV at h
    split at h
    · rename_i v hv
      split at h
      · injection h with h; subst h; exact z b v hv hu
      · have := Ai h; omega
    · have := Ai h; omega
  have wf4 : Wf (w3.putObj l (.loop r4)) (oV w M M3) := by
    refine ⟨fun b t h => ?_, fun b b' t ht1 h h' => ?_⟩
    · rw [World.putObj_size]
      unfold oV at h
      split at h
      · split at h
        · rename_i hc; exact Nat.lt_of_lt_of_le hc.1 hsz3
        · exact (pR wf3).lt b t h
      · exact (pR wf3).lt b t h
    · by_cases hz : Zt ≤ t + 1
      · have e1 := zok b _ h hz
        have e2 := zok b' _ h' hz
        omega
      · have part : ∀ b, oV w M M3 b = some (t + 1) → M3 b = some (t + 1) := fun b h => by
          unfold oV at h
          split at h
          · split at h
            · injection h with h; omega
            · exact (oR h).1
          · exact (oR h).1
        exact wf3.inj b b' t ht1 (part b h) (part b' h')
  have le0 : Le (· ∈ [0]) (· ∈ ([] : List Nat)) w3 M3 (w3.putObj l (.loop r4)) M3 := vn hM3l
  have leZ : Le (fun t => t < Zt) (fun t => t < Zt) w M (w3.putObj l (.loop r4)) (oV w M M3) := by
    refine ⟨by simpa using hsz3, (le0.os.trans (le3.os.trans le1.os)), (le0.tape.trans (le3.tape.trans le1.tape)), (le0.out.trans (le3.out.trans le1.out)), fun b hb hm => ?_, fun b t hm ht => ⟨kept b t hm (by omega), fun _ => ?_⟩⟩
    · obtain ⟨a, c⟩ := ql b hb hm
      refine ⟨by rw [other b (fun u hu => by rw [hm] at hu; cases hu)]; exact iT a, ?_⟩
      rw [World.putObj_heap_other fun e => by rw [e, hl] at hm; cases hm]; exact c
    · have hbl : b ≠ l := fun e => by rw [e, hl] at hm; injection hm with hm; omega
      rw [World.putObj_heap_other hbl]
      exact (zero b (xm hm (by omega))).2 hbl
  refine ⟨wf4, zok, leZ, ?_, fun c hc => ?_, fun x hx => ?_, ?_, World.putObj_heap_same (Nat.lt_of_lt_of_le hlt hsz3), ?_⟩
  · refine ⟨Nat.le_trans hb.size leZ.size, leZ.os.trans hb.os, leZ.tape.trans hb.tape, leZ.out.trans hb.out, fun b hlt' hm => ?_, fun b t hm hk => ?_⟩
    · obtain ⟨a, c⟩ := hb.ql b hlt' hm
      obtain ⟨a', c'⟩ := leZ.ql b (Nat.lt_of_lt_of_le hlt' hb.size) a
      exact ⟨a', c'.trans c⟩
    · obtain ⟨a, c⟩ := hb.own b t hm hk
      have hbl : b ≠ l := fun e => h1 t hk (e ▸ hm)
      by_cases ht0 : t = 0
      · subst ht0
        obtain ⟨a', c'⟩ := zero b (fy a (by decide))
        refine ⟨by rw [other b (fun u hu => by rw [a] at hu; injection hu with hu; omega)]; exact fy a' (by decide), fun hs => ?_⟩
        rw [World.putObj_heap_other hbl]; exact (c' hbl).trans (c hs)
      · have htp : t ∈ fr.pass := Classical.byContradiction fun h => hk ⟨by omega, h⟩
        have htp' := hp1 t htp
        refine ⟨by rw [other b (fun u hu => by rw [a] at hu; injection hu with hu; have := (hp2 t htp').2; omega)]; exact fy (pas b t htp' a) (hp2 t htp').2, fun hs => absurd (FK.FT (k := fr.kd) (by omega : 1 ≤ t)) hs⟩
  · obtain ⟨e1, e2⟩ := ld hs c hc
    refine (s c).mono (S := fun _ => True) (K := fun t => t ∉ pass') ⟨leZ.size, leZ.os, leZ.tape, leZ.out, leZ.ql, fun b t hm hk => ⟨?_, fun h => absurd trivial h⟩⟩ (fun t ht h => h (e2 t ht)) (by rw [e1]; intro _ h; cases h) (hsl c hc)
    have htp : t ∈ pass' := Classical.byContradiction fun h => hk h
    rw [other b (fun u hu => by rw [hm] at hu; injection hu with hu; have := (hp2 t htp).2; omega)]
    exact fy (pas b t htp hm) (hp2 t htp).2
  · obtain ⟨⟨g1, g2⟩, e3, e4⟩ := k5 ht x hx
    refine x.2.mono (w := w3) (M := M3) (S := fun t => t = 0) (K := fun t => t = 0 ∨ Zt ≤ t) ⟨by simp, rfl, rfl, rfl, fun b hb hm => ⟨?_, ?_⟩, fun b t hm hk => ⟨?_, fun _ => ?_⟩⟩ (fun t ht h => by have := e3 t ht; omega) (fun t ht h => by have := (e4 t ht).1; omega) (by omega) (by omega) (htg x hx)
    · rw [other b (none3 b hm)]; exact iT hm
    · exact World.putObj_heap_other fun e => by rw [e, hM3l] at hm; cases hm
    · have ht1 : 1 ≤ t := Nat.pos_of_ne_zero fun h => hk (.inl h)
      rw [other b (from3 b t hm ht1)]; exact fy hm (Nat.lt_of_not_le fun h => hk (.inr h))
    · exact World.putObj_heap_other fun e => by rw [e, hM3l] at hm; injection hm with hm; exact hk (.inl hm.symm)
  · rw [other l (fun u hu => by rw [hl] at hu; injection hu with hu; omega)]; exact fy hM3l (by decide)
  · obtain ⟨rs, e, g1, g2, g3⟩ := hdef
    refine ⟨rs, e, g1, g2, fun q hq => ?_⟩
    obtain ⟨a, b, c⟩ := g3 q hq
    have hql : q ≠ l := fun e => by rw [e, hrec] at c; cases c
    obtain ⟨a', c'⟩ := zero q (fy a (by decide))
    refine ⟨by rw [other q (fun u hu => by rw [a] at hu; injection hu with hu; omega)]; exact fy a' (by decide), b, ?_⟩
    rw [World.putObj_heap_other hql]; exact (c' hql).trans c
theorem sv {g : Operand} {ps : List Tmp} {assign body : Code} {gf : FuncId} {caps : List Ty} {encs : List (List Ty)} {resD resS : Ty} (s : Nat → Ty) (tg : Nat → List (Nat × Cont)) (br : Bool) (tr : List (Nat × Cont)) (pass' : List Nat)
    (hkd : fr.kd = .marks) (hg : A.op fr g = .jw gf caps) (hI1 : ∃ fn, P.funcs[gf]? = some fn ∧ (fn.name == "runtime.NumGoroutine") = false ∧ fn.body.isNone = false) (hI2 : ∀ (l : Nat) (J : Nat → World → bC → Prop) (Jx : World → bC → Prop) (tm : Array Value), (∀ k, Cb (J k)) → Cb Jx → P8 P l encs J Jx → (∀ k w M, J k w M → (∀ c, c < fr.n → (s c).den w M (tm.getD c undef)) ∧ ∀ x ∈ tg k, x.2.den w M x.1) → ∀ w M vs, Wf w M → Ho M → cI w M (Ty.ex (yv l) :: caps) vs → J 0 w M → Calls P gf vs.toArray w (cM encs.length J Jx resD resS)) (hcd : ∀ t ∈ cF caps, t < Zt) (hcc : ∀ t ∈ bY caps, t < Zt)
    (hps : ps.Nodup) (hlen : ∀ tys ∈ encs, tys.length = ps.length ∧ cF tys = [] ∧ bY tys = []) (hpass : xV fr.pass pass' = true) (hs : CY fr.n pass' s = true) (htg : ∀ k, rV (tg k) = true) (htr : rV tr = true)
    (h0 : cg fr A ⟨s, tg 0⟩)
    (hround : ∀ k tys, encs[k]? = some tys → O1 P fr.n pass' assign body ⟨pZ (ps.zip tys) s, tg k⟩ (tg (k + 1)) br tr)
    (hdone : dQ fr ⟨s, tg encs.length⟩ (Q .normal)) (hret : br = true → dQ fr ⟨s, tr⟩ (Q .ret)) :
    fP P fr (.rangeFunc g ps.toArray assign body) A Q := by
  intro a w ha
  have hfe : fr.kd.jA = Fence.wide := by rw [hkd]; rfl
  rw [hfe]
  obtain ⟨hp1, hp2⟩ := pz hpass
  have hgv : ∃ cs : Array Value, a.eval g = .func (.func gf) #[] cs ∧ ∃ M, cI w M caps cs.toList := by
    obtain ⟨M, _, hsl, _⟩ := ha
    have := cV (x := g) (rs := cJ g) (fun _ h => h) (fun c _ hn => hsl c hn)
    rw [hg] at this
    obtain ⟨cs, e, hd⟩ := this
    exact ⟨cs, e, M, hd⟩
  obtain ⟨M, ok, hsl0, htg0⟩ := id ha
  have hcs : ∃ cs : Array Value, a.eval g = .func (.func gf) #[] cs ∧ cI w M caps cs.toList := by
    have := cV (x := g) (rs := cJ g) (fun _ h => h) (fun c _ hn => hsl0 c hn)
    rw [hg] at this
    exact this
  obtain ⟨cs, hev, hcaps⟩ := hcs
  have hB0 := h0.holds (a := a) (w := w) ⟨M, ok, hsl0, htg0⟩
  -- the same tags: the assertion that is forgotten down to holds of them, too
  have hslB : ∀ c, c < fr.n → (s c).den w M (a.tmps.getD c undef) := fun c hc => (rU h0.slots c hc) _ _ _ (hsl0 c hc)
  have htgB : ∀ x ∈ tg 0, x.2.den w M x.1 := fun x hx => by
    obtain ⟨C, hC, hsub⟩ := pT h0.tags x hx
    exact hsub _ _ _ (htg0 _ (cj hC))
  have hZ : (1 : Nat) ≤ Zt := by decide
  refine wpIn_rangeFunc fun fn _ => ?_
  obtain ⟨w1, hw1⟩ : ∃ w1, (w.alloc (.deferred (some []))).alloc (.loop { state := .ready, pending := none, fn, tmps := a.tmps, params := ps.toArray, assign, body, defers := w.heap.size }) = w1 := ⟨_, rfl⟩
  refine ⟨w.heap.size + 1, _, w1, { target := .fn (.func gf) cs, args := #[yv (w.heap.size + 1)] }, w1, gf, (yv (w.heap.size + 1) :: cs.toList).toArray, w1, by rw [← hw1]; exact run_enterLoop_outer fn a.tmps ps.toArray assign body, ?_, fun _ _ => trivial, ?_, (fun h => by cases h), ?_⟩
  · simp [resolve, rangeCall, hev, Deferred.ofValue, yv]; rfl
  · obtain ⟨fn', hf, hn, hb⟩ := hI1
    have hn' : fn'.name ≠ "runtime.NumGoroutine" := by simpa using hn
    have hb' : fn'.body ≠ none := fun h => by rw [h] at hb; cases hb
    simp [invoke, callFunc, hf, hn', hb']
  -- the world in which the iterator is called
  have hnone : ∀ b, w.heap.size ≤ b → M b = none := fun b hb => by
    cases hm : M b with
    | none => rfl
    | some t => have := ok.wf.lt b t hm; omega
  have hsz1 : w1.heap.size = w.heap.size + 2 := by rw [← hw1]; simp
  have hD : w1.heap[w.heap.size]? = some (.deferred (some [])) := by
    rw [← hw1]
    show ((w.heap.push _).push _)[w.heap.size]? = _
    rw [Array.getElem?_push, if_neg (by simp), Array.getElem?_push, if_pos rfl]
  have hL : w1.heap[w.heap.size + 1]? = some (.loop { state := .ready, pending := none, fn, tmps := a.tmps, params := ps.toArray, assign, body, defers := w.heap.size }) := by
    rw [← hw1]
    show ((w.heap.push _).push _)[w.heap.size + 1]? = _
    rw [Array.getElem?_push, if_pos (by simp)]
  have hold : ∀ b, b < w.heap.size → w1.heap[b]? = w.heap[b]? := fun b hb => by
    rw [← hw1]
    show ((w.heap.push _).push _)[b]? = _
    rw [Array.getElem?_push, if_neg (by simp; omega), Array.getElem?_push, if_neg (by omega)]
  have hw1os : w1.os = w.os ∧ w1.tape = w.tape ∧ w1.output = w.output := by rw [← hw1]; exact ⟨rfl, rfl, rfl⟩
  have leN : Le (fun t => Zt ≤ t) (fun t => Zt ≤ t) w M w1 (fun b => if b = w.heap.size ∨ b = w.heap.size + 1 then some 0 else gB M b) := by
    refine ⟨by omega, hw1os.1, hw1os.2.1, hw1os.2.2, fun b hb hm => ⟨?_, hold b hb⟩, fun b t hm ht => ⟨?_, fun _ => hold b (ok.wf.lt b t hm)⟩⟩
    · rw [if_neg (by omega)]; exact iT hm
    · have := ok.wf.lt b t hm
      rw [if_neg (by omega)]; exact fy hm (Nat.lt_of_not_le ht)
  have wf1 : Wf w1 (fun b => if b = w.heap.size ∨ b = w.heap.size + 1 then some 0 else gB M b) := by
    refine ⟨fun b t h => ?_, fun b b' t ht1 h h' => ?_⟩
    · split at h
      · omega
      · have := (pR ok.wf).lt b t h; omega
    · have part : ∀ b, (if b = w.heap.size ∨ b = w.heap.size + 1 then some 0 else gB M b) = some (t + 1) → gB M b = some (t + 1) := fun b h => by
        split at h
        · cases h
        · exact h
      exact (pR ok.wf).inj b b' t ht1 (part b h) (part b' h')
  have z1 : Ho (fun b => if b = w.heap.size ∨ b = w.heap.size + 1 then some 0 else gB M b) := fun b u h hu => by
    simp only at h
    split at h
    · injection h with h; omega
    · have := Ai h; omega
  have hbl0 : fr.w0.heap.size ≤ w.heap.size + 1 := Nat.le_succ_of_le ok.base.size
  have hbl1 : ∀ t, ¬ (1 ≤ t ∧ t ∉ fr.pass) → fr.M0 (w.heap.size + 1) ≠ some t := fun t ht h => by
    have := (ok.base.own _ t h ht).1
    rw [hnone _ (by omega)] at this; cases this
  have defs1 : Defs fr w1 (fun b => if b = w.heap.size ∨ b = w.heap.size + 1 then some 0 else gB M b) (tq w.heap.size :: a.defers) := by
    obtain ⟨rs, e, g1, g2, g3⟩ := ok.defers
    refine ⟨w.heap.size :: rs, by rw [e]; rfl, fun _ => hkd, List.nodup_cons.2 ⟨fun h => ?_, g2⟩, fun q hq => ?_⟩
    · have := ok.wf.lt _ _ (g3 _ h).1; omega
    · rcases List.mem_cons.1 hq with rfl | hq
      · refine ⟨by simp, ⟨ok.base.size, fun t ht h => ?_⟩, hD⟩
        have := (ok.base.own _ t h ht).1
        rw [hnone _ (Nat.le_refl _)] at this; cases this
      · obtain ⟨a1, b1, c1⟩ := g3 q hq
        have := ok.wf.lt _ _ a1
        exact ⟨by simp only; rw [if_neg (by omega)]; exact fy a1 (by decide), b1, (hold q this).trans c1⟩
  -- between two rounds
  let R : LoopState → Option Code → Loop := fun st pe => { state := st, pending := pe, fn, tmps := a.tmps, params := ps.toArray, assign, body, defers := w.heap.size }
  let J : Nat → World → bC → Prop := fun k => JJ fr s a.tmps (tq w.heap.size :: a.defers) (w.heap.size + 1) (R .ready none) (tg k)
  let Jx : World → bC → Prop := fun w' M' => br = true ∧ JJ fr s a.tmps (tq w.heap.size :: a.defers) (w.heap.size + 1) (R .done (some .ret)) tr w' M'
  have hJ : ∀ k, Cb (J k) := fun k => OK hpass hs (htg k)
  have hJx : Cb Jx := fun w M w' M' wf le ⟨h, hj⟩ => ⟨h, OK hpass hs htr w M w' M' wf le hj⟩
  have hj0 : J 0 w1 (fun b => if b = w.heap.size ∨ b = w.heap.size + 1 then some 0 else gB M b) := by
    refine ⟨Fr.jT ok.base (fun t ht => by omega) (fun t ht => ⟨by omega, fun hm => by have := (hp2 t (hp1 t hm)).2; omega⟩) leN, fun c hc => ?_, fun x hx => ?_, by simp, hL, defs1⟩
    · obtain ⟨e1, e2⟩ := ld hs c hc
      exact (s c).mono leN (fun t ht hz => by have := (hp2 t (e2 t ht)).2; omega) (by rw [e1]; intro _ h; cases h) (hslB c hc)
    · obtain ⟨⟨_, e2⟩, e3, e4⟩ := k5 (htg 0) x hx
      exact x.2.mono leN (fun t ht hz => by have := (e3 t ht).2; omega) (fun t ht hz => by have := (e4 t ht).2; omega) (by omega) (by omega) (htgB x hx)
  have hY : P8 P (w.heap.size + 1) encs J Jx := by
    intro k tys hk w2 M2 vs wf2 z2 hj hv
    obtain ⟨jb, jsl, jtg, jl, jrec, jdef⟩ := id hj
    have hvl := cW hv
    obtain ⟨htl, hte, htc⟩ := hlen tys (List.mem_of_getElem? hk)
    have hrunY := run_yield (P := P) (args := vs.toArray) jrec (by simp [R]; omega)
    refine ⟨_, _, _, _, hrunY, roundIn_of_wpIn trivial ?_⟩
    obtain ⟨A1, hassign, hbody⟩ := hround k tys hk
    have hzip : (ps.zip tys).map Prod.fst = ps := by rw [List.map_fst_zip (by omega)]
    have hzip2 : (ps.zip tys).map Prod.snd = tys := by rw [List.map_snd_zip (by omega)]
    have conv : ∀ {t : Ty} {v : Value}, (∀ u ∈ t.deps, u < Zt) → t.den w2 M2 v → t.den w2 (gB M2) v := fun {t v} hd h =>
      t.mono (S := fun _ => False) (K := fun u => Zt ≤ u) ⟨Nat.le_refl _, rfl, rfl, rfl, fun b _ hm => ⟨iT hm, rfl⟩, fun b u hm hk => ⟨fy hm (Nat.lt_of_not_le hk), fun _ => rfl⟩⟩ (fun u hu hz => by have := hd u hu; omega) (fun _ _ h => h) h
    have convC : ∀ {C : Cont} {t : Nat}, (∀ u ∈ C.deps, u < Zt) → t < Zt → C.den w2 M2 t → C.den w2 (gB M2) t := fun {C t} hd ht h =>
      C.mono (S := fun _ => False) (K := fun u => Zt ≤ u) ⟨Nat.le_refl _, rfl, rfl, rfl, fun b _ hm => ⟨iT hm, rfl⟩, fun b u hm hk => ⟨fy hm (Nat.lt_of_not_le hk), fun _ => rfl⟩⟩ (fun u hu hz => by have := hd u hu; omega) (fun _ _ h => h) (fun h => h) (by omega) h
    obtain ⟨fsz, fden⟩ := C2 (w := w2) (M := gB M2) (n := fr.n) (ps.zip tys) vs a.tmps s (by rw [hzip]; exact hps) ok.size (fun c hc => conv (fun u hu => (hp2 u ((ld hs c hc).2 u hu)).2) (jsl c hc)) (by rw [hzip2]; exact g9 (fun b h => iT h) hte htc hv)
    rw [hzip] at fsz fden
    have htm : ((R .ready none).params.zip vs.toArray).foldl (fun tmps (t, v) => tmps.setIfInBounds t v) a.tmps = (ps.zip vs).foldl (fun t (p, v) => t.setIfInBounds p v) a.tmps := by simp [R]
    have hA0 : As.holds ⟨fr.n, w2, gB M2, pass', .round (w.heap.size + 1)⟩ ⟨pZ (ps.zip tys) s, tg k⟩ { tmps := ((R .ready none).params.zip vs.toArray).foldl (fun tmps (t, v) => tmps.setIfInBounds t v) a.tmps, defers := [] } w2 := by
      rw [htm]
      exact ⟨gB M2, ⟨pR wf2, Le.refl _ _ _ _, fsz, Defs.nil⟩, fden, fun x hx => by
        obtain ⟨⟨_, e2⟩, e3, _⟩ := k5 (htg k) x hx
        exact convC (fun u hu => (e3 u hu).2) e2 (jtg x hx)⟩
    have h1 := hassign (w.heap.size + 1) w2 (gB M2) _ _ hA0
    refine Go.wpIn_mono h1 fun e a1 w3 hq => ?_
    cases e with
    | normal =>
      obtain ⟨M3, ok3, hsl3, htg3⟩ := hq
      obtain ⟨l3, l3'⟩ := ok3.base.own (w.heap.size + 1) 0 (fy jl (by decide)) (by simp)
      have rec3 : w3.heap[w.heap.size + 1]? = some (.loop (R .ready none)) := (l3' (by simp [FK.KF])).trans jrec
      refine ⟨_, run_beginRound rec3 rfl, ?_⟩
      have hkill := vn (w := w3) (M := M3) (o := .loop { R .ready none with state := .busy }) l3
      have hb0 : As.holds ⟨fr.n, w3.putObj (w.heap.size + 1) (.loop { R .ready none with state := .busy }), M3, pass', .round (w.heap.size + 1)⟩ (A1.after { d := none, S := [0] }) a1 (w3.putObj (w.heap.size + 1) (.loop { R .ready none with state := .busy })) := by
        refine ⟨M3, ⟨⟨fun b t h => by simpa using ok3.wf.lt b t h, ok3.wf.inj⟩, Le.refl _ _ _ _, ok3.size, by rw [ok3.gl (by simp)]; exact Defs.nil⟩, fun c hc => ?_, fun x hx => ?_⟩
        · simp only [As.after, qd]
          rcases fq [0] [] A1.slots c with ⟨e, hdj⟩ | ⟨_, e⟩
          · rw [e]; exact (A1.slots c).mono hkill (fT hdj).1 (fT hdj).2 (hsl3 c hc)
          · rw [e]; trivial
        · exact iV hkill (by simpa [As.after] using hx) fun y hy _ => htg3 y hy
      have h2 := hbody (w.heap.size + 1) _ M3 _ _ hb0
      refine Go.wpIn_mono h2 fun e a4 w4 hq4 => ?_
      have le1 : Le (fun t => 1 ≤ t) (fun t => 1 ≤ t ∧ t ∉ pass') w2 (gB M2) w3 M3 := ok3.base
      cases e with
      | normal =>
        obtain ⟨M4, ok4, _, htg4⟩ := hq4
        obtain ⟨r4, M5, g1, g2, g3, g4⟩ := yq (r4 := R .ready none) hpass hs (htg (k + 1)) hkd hbl0 hbl1 wf2 z2 hj le1 ok4.wf ok4.base htg4
        exact ⟨_, _, run_endRound none r4, M5, g1, g2, g3, .inl ⟨rfl, g4⟩⟩
      | ret =>
        obtain ⟨hbr, M4, ok4, _, htg4⟩ := hq4
        obtain ⟨r4, M5, g1, g2, g3, g4⟩ := yq (r4 := R .done (some .ret)) hpass hs htr hkd hbl0 hbl1 wf2 z2 hj le1 ok4.wf ok4.base htg4
        exact ⟨_, _, run_endRound (some .ret) r4, M5, g1, g2, g3, .inr ⟨rfl, hbr, g4⟩⟩
      | exit id => exact hq4.elim
      | goto l => exact hq4.elim
      | panic c => exact hq4.elim
      | outgrown => exact hq4.elim
    | ret => exact hq.elim
    | exit id => exact hq.elim
    | goto l => exact hq.elim
    | panic c => exact hq.elim
    | outgrown => exact hq.elim
  have fin : ∀ (r : Loop) (tgs : List (Nat × Cont)) (w' : World) (M' : bC) (o : Obj), rV tgs = true → Wf w' M' → JJ fr s a.tmps (tq w.heap.size :: a.defers) (w.heap.size + 1) r tgs w' M' → As.holds fr ⟨s, tgs⟩ { tmps := a.tmps, defers := [{ target := .collected w.heap.size, args := #[] }] ++ a.defers } (w'.putObj (w.heap.size + 1) o) := by
    intro r tgs w' M' o hok wf' ⟨jb, jsl, jtg, jl, jrec, jdef⟩
    have hk0 := vn (w := w') (M := M') (o := o) jl
    refine ⟨M', ⟨⟨fun b t h => by simpa using wf'.lt b t h, wf'.inj⟩, Db hbl0 hbl1 jb, ok.size, ?_⟩, fun c hc => ?_, fun x hx => ?_⟩
    · obtain ⟨rs, e, g1, g2, g3⟩ := jdef
      refine ⟨rs, e, g1, g2, fun q hq => ?_⟩
      obtain ⟨a1, b1, c1⟩ := g3 q hq
      exact ⟨a1, b1, by rw [World.putObj_heap_other fun e => by rw [e, jrec] at c1; cases c1]; exact c1⟩
    · obtain ⟨e1, e2⟩ := ld hs c hc
      exact (s c).mono hk0 (fun _ _ h => by cases h) (by rw [e1]; intro _ h; cases h) (jsl c hc)
    · obtain ⟨⟨e1, e2⟩, e3, e4⟩ := k5 hok x hx
      exact x.2.mono hk0 (fun _ _ h => by cases h) (fun t ht h => by have := (e4 t ht).1; rw [List.mem_singleton.1 h] at this; omega) (fun h => by rw [List.mem_singleton.1 h] at e1; omega) (fun h => by cases h) (jtg x hx)
  refine CallsIn.mono (callsIn_wide.2 (hI2 (w.heap.size + 1) J Jx a.tmps hJ hJx hY (fun k w M hj => ⟨hj.2.1, hj.2.2.1⟩) w1 _ (yv (w.heap.size + 1) :: cs.toList) wf1 z1 ⟨rfl, ?_⟩ hj0)) ?_
  · exact bl leN (fun t ht hz => Nat.lt_irrefl _ (Nat.lt_of_lt_of_le (hcd t ht) hz)) (fun t ht hz => Nat.lt_irrefl _ (Nat.lt_of_lt_of_le (hcc t ht) hz)) hcaps
  · rintro e w' ⟨r, M', he, wf', z', hor⟩
    subst he
    rcases hor with ⟨_, hj⟩ | ⟨_, hbr, hj⟩
    · refine ⟨none, _, run_endLoop hj.2.2.2.2.1 (by simp [R]), ?_⟩
      exact hdone _ _ (fin _ _ w' M' _ (htg _) wf' hj)
    · refine ⟨some .ret, _, run_endLoop hj.2.2.2.2.1 (by simp [R]), ?_⟩
      exact wpIn_ret (hret hbr _ _ (fin _ _ w' M' _ htr wf' hj))
end
section
variable {P : Program} {A : As} {fn : Func} {n : Nat} {w0 : World} {M0 : bC} {F : List Nat}
theorem sC {R : Ending → World → Prop} {tm : Array Value} {s : Nat → Ty} {tgs : List (Nat × Cont)} {pass : List Nat} (fr : Fr)
    (hs0 : ∀ c, c < fr.n → ∀ t ∈ (s c).cdeps, t ≠ 0) (ht0 : ∀ x ∈ tgs, x.1 ≠ 0 ∧ ∀ t ∈ x.2.cdeps, t ≠ 0)
    (h : ∀ w M, Wf w M → fr.base w M → (∀ c, c < fr.n → (s c).den w M (tm.getD c undef)) → (∀ x ∈ tgs, x.2.den w M x.1) → ∃ v, (results fn tm).run P w = .ok v w ∧ R (.returned v) w) :
    ∀ (rs : List Nat) (w : World) (M : bC), Wf w M → fr.base w M → (∀ c, c < fr.n → (s c).den w M (tm.getD c undef)) → (∀ x ∈ tgs, x.2.den w M x.1) → rs.Nodup → (∀ r ∈ rs, M r = some 0 ∧ fr.w0.heap.size ≤ r ∧ (∀ t, ¬ (1 ≤ t ∧ t ∉ fr.pass) → fr.M0 r ≠ some t) ∧ w.heap[r]? = some (.deferred (some []))) →
      LeavesInM Fence.wide 0 P fn tm R (rs.map tq) .returning w
  | [], w, M, wf, hb, hs, ht, _, _ => h w M wf hb hs ht
  | r :: rs, w, M, wf, hb, hs, ht, hnd, hr => by
    obtain ⟨a, b, c, d⟩ := hr r List.mem_cons_self
    have le := vn (w := w) (M := M) (o := .deferred none) a
    refine ⟨by simp, .inl ⟨r, _, rfl, run_takeDeferred d, ?_⟩⟩
    refine sC (pass := pass) fr hs0 ht0 h rs _ M ⟨fun b t h => by simpa using wf.lt b t h, wf.inj⟩ (Db b c hb) (fun c hc => (s c).mono le (fun _ _ h => by cases h) (fun t ht h => hs0 c hc t ht (List.mem_singleton.1 h)) (hs c hc))
      (fun x hx => x.2.mono le (fun _ _ h => by cases h) (fun t htt h => (ht0 x hx).2 t htt (List.mem_singleton.1 h)) (fun h => (ht0 x hx).1 (List.mem_singleton.1 h)) (fun h => by cases h) (ht x hx)) (List.nodup_cons.1 hnd).2 (fun q hq => ?_)
    obtain ⟨a1, b1, c1, d1⟩ := hr q (List.mem_cons_of_mem _ hq)
    refine ⟨a1, b1, c1, ?_⟩
    rw [World.putObj_heap_other fun e => (List.nodup_cons.1 hnd).1 (by rw [← e]; exact hq)]; exact d1
def GP (n : Nat) (A : As) : Bool := ((List.range n).all fun c => (A.slots c).cdeps.all fun t => Nat.ble 1 t) && A.tags.all fun x => Nat.ble 1 x.1 && x.2.cdeps.all fun t => Nat.ble 1 t
theorem K7 {R : Ending → World → Prop} (hz : GP n A = true) (h : dQ ⟨n, w0, M0, F, .plain⟩ A (bodyPost P fn R .ret)) : dQ ⟨n, w0, M0, F, .marks⟩ A (bodyPostM Fence.wide 0 P fn R .ret) := by
 intro a w ⟨M, ok, hsl, htg⟩
 obtain ⟨rs, e, g1, g2, g3⟩ := ok.defers
 simp only [GP, Bool.and_eq_true, List.all_eq_true, List.mem_range, Nat.ble_eq] at hz
 show LeavesInM Fence.wide 0 P fn a.tmps R a.defers .returning w
 rw [e]
 refine sC (pass := []) (s := A.slots) (tgs := A.tags) ⟨n, w0, M0, F, .marks⟩ (fun c hc t ht => by have := hz.1 c hc t ht; omega) (fun x hx => ⟨by have := (hz.2 x hx).1; omega, fun t ht => by have := (hz.2 x hx).2 t ht; omega⟩) (fun w2 M2 wf hb hs ht => ?_) rs w M ok.wf ok.base hsl htg g2 (fun r hr => ?_)
 ·exact (h { tmps := a.tmps, defers := [] } w2 ⟨M2, ⟨wf, hb, ok.size, Defs.nil⟩, hs, ht⟩).2
 obtain ⟨a1, b1, c1⟩ := g3 r hr
 exact ⟨a1, b1.1, b1.2, c1⟩
theorem rG {f : FuncId} {fn : Func} {c : Code} {F : List Nat} {pre post : List (Nat × Cont)} {args : List Ty} {res : Ty} {n : Nat} (hf : P.funcs[f]? = some fn) (hb : fn.body = some c) (hn : (fn.name == "runtime.NumGoroutine") = false) (hnt : fn.ntmps = n) (hl : args.length ≤ n)
    (h : ∀ w0 M0, fP P ⟨n, w0, M0, F, .marks⟩ c (uH args pre) (bodyPostM Fence.wide 0 P fn (cL F post w0 M0 res))) : eP P f F pre args post res := by
  refine ⟨⟨fn, hf, hn, by rw [hb]; rfl⟩, fun w M vs wf hd hpre => callsIn_wide.1 (callsIn_of_wp_marks (n := 0) hf hb trivial (h w M _ _ ?_))⟩
  have hlen := cW hd
  refine ⟨M, ⟨wf, Le.refl _ _ _ _, by simp [hnt, hlen]; omega, Defs.nil⟩, fun c hc => ?_, hpre⟩
  simp only [uH]
  cases ha : args[c]? with
  | none => trivial
  | some ty =>
    obtain ⟨v, hv, hdv⟩ := dW hd c ty ha
    have : (vs.toArray ++ Array.replicate (fn.ntmps - vs.toArray.size) undef).getD c undef = v := by
      have hlt : c < vs.length := (List.getElem?_eq_some_iff.1 hv).1
      rw [Array.getD_eq_getD_getElem?, Array.getElem?_append_left (by simpa using hlt)]
      simp [hv]
    rw [this]; exact hdv
theorem FW {α : Type} [Inhabited α] {xs : List α} {f : α → List Ty} {k : Nat} {t : List Ty} (h : (xs.map f)[k]? = some t) : k < xs.length ∧ t = f (nth xs k) := by
 rw [List.getElem?_map] at h
 obtain ⟨x, hx, rfl⟩ := Option.map_eq_some_iff.1 h
 obtain ⟨hk, e⟩ := List.getElem?_eq_some_iff.1 hx
 exact ⟨hk, by rw [fk hk, e]⟩
theorem GJ {α : Type} [Inhabited α] {xs : List α} {f : α → List Ty} {k : Nat} {t : List Ty} (h : k < xs.length) (e : f (nth xs k) = t) : (xs.map f)[k]? = some t := by
 rw [List.getElem?_map, List.getElem?_eq_getElem h, ← fk h, ← e]; rfl
end
section
variable {P : Program} {fr : Fr} {A : As} {Q : Exit → Act → World → Prop}
end
section
variable {P : Program} {fr : Fr} {ops : Array Oper} {A : As} {rest : List Oper} {K : As → List (As × Fx) → Prop} {d : Nat} {t ty' : TypeId} {p : String} {e : Array Edge} {x : Operand}
theorem Ig {tg : Nat} (hx : A.op fr x = .mp tg) (h : bA P fr ops rest (A.set d (.mp tg)) fun A' l' => K A' ((A, { d := some d, ty := .mp tg, rs := cJ x }) :: l')) : bA P fr ops (⟨some d, .move x, t, p, e, none⟩ :: rest) A K := eB hx h
theorem RX {tg : Nat} (hx : A.op fr x = .mp tg) (h : bA P fr ops rest (A.set d (.mp tg)) fun A' l' => K A' ((A, { d := some d, ty := .mp tg, rs := cJ x }) :: l')) : bA P fr ops (⟨some d, .assign x, t, p, e, none⟩ :: rest) A K := gi hx h
theorem Ou {κ β : Type} [DecidableEq κ] {enc : κ → Value} {V : VT β} {kvs : List (κ × β)} (hx : A.op fr x = .pm enc V kvs) (h : bA P fr ops rest (A.set d (.pm enc V kvs)) fun A' l' => K A' ((A, { d := some d, ty := .pm enc V kvs, rs := cJ x }) :: l')) : bA P fr ops (⟨some d, .move x, t, p, e, none⟩ :: rest) A K := eB hx h
theorem Pj {κ β : Type} [DecidableEq κ] {enc : κ → Value} {V : VT β} {kvs : List (κ × β)} (hx : A.op fr x = .pm enc V kvs) (h : bA P fr ops rest (A.set d (.pm enc V kvs)) fun A' l' => K A' ((A, { d := some d, ty := .pm enc V kvs, rs := cJ x }) :: l')) : bA P fr ops (⟨some d, .assign x, t, p, e, none⟩ :: rest) A K := gi hx h
theorem OD {κ β : Type} [DecidableEq κ] {ρ : List (Nat × Nat)} {a b : Nat} {enc : κ → Value} {V : VT β} {k1 k2 : List (κ × β)} (h : (a, b) ∈ ρ) (e : k1 = k2) : pH ρ a (.mp enc V k1) b (.mp enc V k2) := fun w M M' _ _ hre ⟨k, h1, es, clock, h2, h3, h4⟩ => by
 subst e
 refine ⟨k, hre.some _ h k h1, es, clock, h2, h3, g9 hre.none ?_ ?_ h4⟩
 ·exact List.eq_nil_iff_forall_not_mem.2 fun u hu => by
   simp only [cF, List.mem_flatMap, List.mem_map] at hu
   obtain ⟨t, ⟨x, _, rfl⟩, hu⟩ := hu
   rw [(V.nodeps x.2).1] at hu; cases hu
 ·exact List.eq_nil_iff_forall_not_mem.2 fun u hu => by
   simp only [bY, List.mem_flatMap, List.mem_map] at hu
   obtain ⟨t, ⟨x, _, rfl⟩, hu⟩ := hu
   rw [(V.nodeps x.2).2] at hu; cases hu
end
section
variable {P : Program} {A : As} {fn : Func} {n : Nat} {w0 : World} {M0 : bC} [T : lD P]
theorem B5 {α : Type} {E : El α} {xs ys : List α} {tm ty tg Tb : Nat} {ti : TI} (e : xs = ys) (hr : fn.results = #[.cell tm ty]) (ht : Nat.blt tm n = true) (hx : A.slots tm = .ptr tg 0) (hc : A.tag tg = some (.vec E Tb xs)) (h1 : gE tg) (hT : T.eN[ty]? = some ti) (ha : ti.k.agg = true) (hsz : xs.length * E.size = ti.size) (hne : xs ≠ []) : dQ ⟨n, w0, M0, [], .plain⟩ A (bodyPost P fn (lV w0 M0 (.arr E ys)) .ret) := by
 subst e; exact Lh hr ht hx hc h1 hT ha hsz hne
end
end Go.T
namespace Go.T
open Go Go.RowKit
section
variable {P : Program} {fr : Fr} {ops : Array Oper} {A : As} {rest : List Oper} {K : As → List (As × Fx) → Prop} {d : Nat} {t ty' : TypeId} {p : String} {e : Array Edge} [T : lD P]
variable {α β : Type} {E : El α} {E' : El β} {x y : Operand} {tg off Tb : Nat} {ti te tf : TI} {ty : Ty} {o z : α}
theorem rQ {l : List Ty} {off n : Nat} {w : World} {M : bC} {b q : Nat} (h : ∀ (i : Nat) (t : Ty), l[i]? = some t → ∃ v, w.cell? ⟨b, q + i, none⟩ = some v ∧ t.den w M v) {m : List Ty} (hm : (l.drop off).take n = m) (hn : m.length = n) :
 ∃ cs : List Value, cs.length = n ∧ cI w M m cs ∧ ∀ j v, cs[j]? = some v → w.cell? ⟨b, q + off + j, none⟩ = some v := by
 have hget : ∀ (i : Nat) (t : Ty), (l.drop off)[i]? = some t → ∃ u, w.cell? ⟨b, q + off + i, none⟩ = some u ∧ t.den w M u := fun i t hi => by
  rw [List.getElem?_drop] at hi
  obtain ⟨v, hv, hd⟩ := h _ _ hi
  exact ⟨v, by rw [Nat.add_assoc]; exact hv, hd⟩
 have hle : n ≤ (l.drop off).length := by
  have := congrArg List.length hm
  rw [List.length_take, hn] at this; omega
 obtain ⟨cs, h1, h2, h3⟩ := Lj hget n hle
 exact ⟨cs, h1, hm ▸ h2, h3⟩
end
theorem dJ.mono {P : Program} {f : FuncId} {args : List Ty} {r r' : Ty} (h : dJ P f args r) (hs : r.Sub r') : dJ P f args r' :=
 ⟨h.1, fun w M vs wf hM hd => (h.2 w M vs wf hM hd).mono fun _ _ ⟨v, M', e, a, b, c⟩ => ⟨v, M', e, a, b, hs _ _ _ c⟩⟩
section
variable {P : Program} {fr : Fr} {A : As} {Q : Exit → Act → World → Prop} {x y : Code}
theorem qJ {c : Operand} {b : Bool} (hc : A.op fr c = .bool b) (hb : b = true) (h1 : fP P fr x A Q) : fP P fr (.cond c x y) A Q := cH hc (fun _ => h1) (fun h => by rw [hb] at h; cases h)
theorem mo {c : Operand} {b : Bool} (hc : A.op fr c = .bool b) (hb : b = false) (h1 : fP P fr y A Q) : fP P fr (.cond c x y) A Q := cH hc (fun h => by rw [hb] at h; cases h) (fun _ => h1)
end
end Go.T
namespace Go.T
open Go Go.RowKit
def Ty.nd (t : Ty) (h1 : t.deps = []) (h2 : t.cdeps = []) : Ty := ⟨t.den, [], [], fun le _ _ h => t.mono le (by rw [h1]; intro _ h; cases h) (by rw [h2]; intro _ h; cases h) h, t.one, t.isOne⟩
theorem ED {P : Program} {t : Ty} {args : List Ty} {res : Ty} (h1 : t.deps = []) (h2 : t.cdeps = []) (h : oS P t args res) : oS P (t.nd h1 h2) args res := h
section
variable {P : Program} {fr : Fr} {ops : Array Oper} {A : As} {rest : List Oper} {K : As → List (As × Fx) → Prop} {d : Nat} {t ty' : TypeId} {p : String} {e : Array Edge}
variable {α β : Type} {E : El α} {E' : El β} {x y : Operand} {tg off Tb : Nat} {ti te tf : TI} {ty : Ty} {o z : α} {xs : List α}
def nW (E : El α) (xs : List α) (off : Nat) (w : World) (M : bC) (v : Value) : Prop := ∃ b q, v = .pointer (some ⟨b, q + off, none⟩) ∧ mq w M b q (xs.flatMap E.tys)
def Ty.pa (E : El α) (xs : List α) (off : Nat) : Ty :=
  ⟨nW E xs off, [], [], fun le _ _ ⟨b, q, e, h⟩ => ⟨b, q, e, oF le (by rw [E.cY]; intro _ h; cases h) (by rw [E.cS]; intro _ h; cases h) h⟩, true, fun _ ⟨_, _, e, _⟩ => e ▸ rfl⟩
theorem uE (hx : A.op fr x = .arr E xs) (h : bA P fr ops rest (A.set d (.pa E xs 0)) fun A' l' => K A' ((A, { d := some d, ty := .pa E xs 0, rs := cJ x }) :: l')) : bA P fr ops (⟨some d, .box ty' x, t, p, e, none⟩ :: rest) A K := by
 refine ⟨_, gC (f := { d := some d, ty := .pa E xs 0, rs := cJ x }) rfl rfl (by simp) (by simp) (by simp) fun a w M wf hr _ => ?_, h⟩
 have hd := cV (x := x) (fun _ h => h) hr
 rw [hx] at hd
 obtain ⟨cs, ex, hds⟩ := hd
 obtain ⟨h1, h2, _⟩ := uT wf (.cells cs ty')
 refine ⟨.pointer (some ⟨w.heap.size, 0, none⟩), w.alloc (.cells cs ty'), ?_, M, h1, h2, ⟨_, 0, rfl, ?_⟩, by simp⟩
 ·simp [execOp, Instr.box, newVar, newRow, newObj, Sem.run, ex, Value.cells]
 exact tM (T := ty') wf hds
variable [T : lD P]
theorem HV [Inhabited α] {i : Nat} (hx : A.op fr x = .pa E xs off) (hT : T.eN[ty']? = some ti) (ha : ti.k.agg = false) (he : off = i * E.size) (hi : i < xs.length) (hl : (E.tys (nth xs i))[0]? = some ty)
 (h : bA P fr ops rest (A.set d ty) fun A' l => K A' ((A, { d := some d, ty := ty, rs := cJ x }) :: l)) : bA P fr ops (⟨some d, .load ty' x, t, p, e, none⟩ :: rest) A K :=
 bJ (bT (rt := []) rfl rfl fun a w M _ hr _ => by
  have := cV (x := x) (fun _ h => h) hr
  rw [hx] at this
  obtain ⟨b, q, e, hp⟩ := this
  obtain ⟨v, hv, hd⟩ := hp.2.2 off ty (by rw [he]; exact mj E xs hi 0 ty hl)
  exact ⟨v, by simp [execOp, e, kC hT ha hv], hd⟩) h
theorem wq (hx : A.op fr x = .pa E xs 0) (hT : T.eN[ty']? = some ti) (ha : ti.k.agg = true) (hn : xs.length * E.size = ti.size)
 (h : bA P fr ops rest (A.set d (.arr E xs)) fun A' l => K A' ((A, { d := some d, ty := .arr E xs, rs := cJ x }) :: l)) : bA P fr ops (⟨some d, .load ty' x, t, p, e, none⟩ :: rest) A K :=
 bJ (bT (rt := []) rfl rfl fun a w M _ hr _ => by
  have := cV (x := x) (fun _ h => h) hr
  rw [hx] at this
  obtain ⟨b, q, e, hp⟩ := this
  obtain ⟨cs, g1, g2, g3⟩ := rQ (off := 0) (n := ti.size) hp.2.2 (m := xs.flatMap E.tys) (by rw [List.drop_zero, List.take_of_length_le (by rw [c6]; omega)]) (by rw [c6]; exact hn)
  exact ⟨.agg cs.toArray, by simp only [execOp, e]; rw [Sem.run_bind, iJ (off := q + 0) hT ha g1 g3]; rfl, cs.toArray, rfl, by simpa using g2⟩) h
theorem EP {n : Nat} {k : IntKind} {i : Nat} {el : Nat} (hx : A.op fr x = .pa E xs off) (hy : A.op fr y = .int k i) (hT : T.eN[ty']? = some ti) (hk : ti.k = .array n el) (hE : T.eN[el]? = some te) (h1 : i < n)
 (h : bA P fr ops rest (A.set d (.pa E xs (off + i * te.size))) fun A' l' => K A' ((A, { d := some d, ty := .pa E xs (off + i * te.size), rs := cJ x ++ cJ y }) :: l')) : bA P fr ops (⟨some d, .indexAddr ty' x y, t, p, e, none⟩ :: rest) A K :=
 bJ (bT (rt := []) rfl rfl fun a w M _ hr _ => by
  obtain ⟨hdx, hdy⟩ := op2 hr
  rw [hx] at hdx; rw [hy] at hdy
  obtain ⟨b, q, ex, hp⟩ := hdx
  have ey : a.eval y = .int k i := hdy
  refine ⟨_, by simp only [execOp, ex, ey, Sem.run_bind, oU hT hk hE (Int.natCast_nonneg i) (show (i : Int).toNat < n from h1)]; rfl, b, q, by simp [Nat.add_assoc], hp⟩) h
end
theorem gT {α : Type} {E : El α} {xs : List α} (e : xs = []) : gU (Ty.ex (.slice none 0 0)) (Ty.sl E xs) := e ▸ BK
def My : List Ty → List Ty → Prop
  | [], [] => True
  | s :: ss, t :: ts => s.Sub t ∧ My ss ts
  | _, _ => False
theorem uY {w : World} {M : bC} : ∀ {ss ts : List Ty} {vs : List Value}, My ss ts → cI w M ss vs → cI w M ts vs
  | [], [], [], _, _ => trivial
  | _ :: _, _ :: _, _ :: _, ⟨h, h'⟩, ⟨h1, h2⟩ => ⟨h _ _ _ h1, uY h' h2⟩
theorem dJ.args {P : Program} {f : FuncId} {a a' : List Ty} {r : Ty} (h : dJ P f a r) (hs : My a' a) : dJ P f a' r :=
 ⟨h.1, fun w M vs wf hM hd => h.2 w M vs wf hM (uY hs hd)⟩
section
variable {P : Program} {A : As} {fn : Func} {n m : Nat} {w0 : World} {M0 : bC} {J : Nat → World → bC → Prop} {Jx : World → bC → Prop} {resD resS : Ty}
end
end Go.T
namespace Go.T
open Go Go.RowKit
section
variable {P : Program} {fr : Fr} {ops : Array Oper} {A : As} {rest : List Oper} {K : As → List (As × Fx) → Prop} {d : Nat} {t ty' ty2 : TypeId} {p : String} {e : Array Edge} {x y : Operand}
theorem rM {o : Oper} {f : Fx} {s : Nat} {g h : Bool} {ty : Ty} (hs : A.slots s = .gd (g && h) ty) (hg : g = true) (hx : xp P fr ops o (A.set s (.gd h ty)) f) : xp P fr ops o A f := by
  obtain ⟨h1, h2, h3, h4, h5⟩ := hx
  refine ⟨h1, h2, h3, h4, fun a w M wf hsz hr ht => h5 a w M wf hsz (fun c hc hcn => ?_) ht⟩
  have := hr c hc hcn
  simp only [As.set]
  cases hb : Nat.beq c s with
  | false => exact this
  | true =>
    have e : c = s := Nat.eq_of_beq_eq_true hb
    subst e
    rw [hs, hg, Bool.true_and] at this
    exact this
theorem vD {ty' : TypeId} (hu : P.underlying ty' = some .bool) (b1 b2 : Bool) (w : World) : (Op.equal ty' (.bool b1) (.bool b2)).run P w = .ok (b1 == b2) w := by
 unfold Op.equal Op.maxDepth
 rw [Op.equalIn]
 simp only [Sem.run_bind, run_underlying hu, Result.andThen_ok]
 rfl
theorem NN {b1 b2 : Bool} (hu : P.underlying ty' = some .bool) (hx : A.op fr x = .bool b1) (hy : A.op fr y = .bool b2)
 (h : bA P fr ops rest (A.set d (.bool (b1 == b2))) fun A' l' => K A' ((A, { d := some d, ty := .bool (b1 == b2), rs := cJ x ++ cJ y }) :: l')) : bA P fr ops (⟨some d, .binOp .eql ty' x y ty2, t, p, e, none⟩ :: rest) A K :=
 bJ (bT rfl rfl fun a w M _ hrd _ => by
  obtain ⟨hdx, hdy⟩ := op2 hrd
  rw [hx] at hdx; rw [hy] at hdy
  have ex : a.eval x = .bool b1 := hdx
  have ey : a.eval y = .bool b2 := hdy
  exact ⟨.bool (b1 == b2), by simp only [execOp, ex, ey]; simp [eqGuard, binOp, go_sem, vD hu], rfl⟩) h
theorem FY {b1 b2 : Bool} (hu : P.underlying ty' = some .bool) (hx : A.op fr x = .bool b1) (hy : A.op fr y = .bool b2)
 (h : bA P fr ops rest (A.set d (.bool (!(b1 == b2)))) fun A' l' => K A' ((A, { d := some d, ty := .bool (!(b1 == b2)), rs := cJ x ++ cJ y }) :: l')) : bA P fr ops (⟨some d, .binOp .neq ty' x y ty2, t, p, e, none⟩ :: rest) A K :=
 bJ (bT rfl rfl fun a w M _ hrd _ => by
  obtain ⟨hdx, hdy⟩ := op2 hrd
  rw [hx] at hdx; rw [hy] at hdy
  have ex : a.eval x = .bool b1 := hdx
  have ey : a.eval y = .bool b2 := hdy
  exact ⟨.bool (!(b1 == b2)), by simp only [execOp, ex, ey]; simp [eqGuard, binOp, go_sem, bne, vD hu], rfl⟩) h
section
variable {b : Frame} {a : Act} {k : List Item} {cs : List Frame} {w : World}
theorem jM {c : Code} : step P (lone (b.atR a (.code (.scope c) :: k)) cs w) = .next (lone (b.atR a (.code c :: .inScope c :: k)) cs w) :=
 step_lone_go (by simp [stepG, stepG.exec, Frame.atR])
theorem yj {c : Code} : step P (lone (b.atR a (.inScope c :: k)) cs w) = .next (lone (b.atR a k) cs w) :=
 step_lone_go (by simp [stepG, stepG.exec, Frame.atR])
end
theorem EJ {F : Fence} {n : Nat} {c : Code} {Q : Exit → Act → World → Prop} {a : Act} {w : World} (h : c.wpIn F n P (Exit.noGoto Q) a w) : (Code.scope c).wpIn F n P Q a w := by
  intro b k cs hro hb hr
  have h0 : (lone (b.atR a (.code (.scope c) :: k)) cs w).fenced P F := fenced_calm hb hr rfl
  obtain ⟨e, a₁, w₁, hq, harr⟩ := h b (.inScope c :: k) cs hro hb hr
  cases e with
  | normal => exact ⟨.normal, a₁, w₁, hq, .head h0 jM (StepsIn.trans harr (.one (fenced_calm hb hr rfl) yj))⟩
  | exit id =>
    have hx : exitTo id (.inScope c :: k) = exitTo id k := by simp [exitTo]
    exact ⟨.exit id, a₁, w₁, hq, fun k' hk => .head h0 jM (harr.1 k' (by rw [hx]; exact hk)),
      fun hr' hk => let ⟨k₁, h1, h2⟩ := harr.2 hr' (by rw [hx]; exact hk); ⟨k₁, h1, .head h0 jM h2⟩⟩
  | goto l => exact hq.elim
  | ret => exact ⟨_, a₁, w₁, hq, .of_steps (.one h0 jM) harr⟩
  | panic ch => exact ⟨_, a₁, w₁, hq, .of_steps (.one h0 jM) harr⟩
  | outgrown => exact ⟨_, a₁, w₁, hq, .of_steps (.one h0 jM) harr⟩
section
variable {Q : Exit → Act → World → Prop} {c : Code} {i : Nat}
theorem Nh (h : fP P fr c A (Exit.noGoto Q)) : fP P fr (.scope c) A Q := fun a w ha => EJ (h a w ha)
theorem Nn (h : dQ fr A (Q .normal)) : fP P fr (.label i) A Q := fun a w ha => wpIn_label (h a w ha)
theorem ug (h : dQ fr A (Q .ret)) : dQ fr A (Exit.noGoto Q .ret) := h
end
def SC (p : Prop) (_ : World) (_ : bC) (v : Value) : Prop := ∃ c : Bool, v = .bool c ∧ (c = true → p)
def Ty.nb (p : Prop) : Ty := { den := SC p, mono := fun _ _ _ h => h, one := true, isOne := fun _ ⟨_, e, _⟩ => e ▸ rfl }
theorem zA {Q : Exit → Act → World → Prop} {c : Operand} {q : Prop} {x y : Code} (hc : A.op fr c = .nb q) (h1 : q → fP P fr x A Q) (h2 : True → fP P fr y A Q) : fP P fr (.cond c x y) A Q := fun a w ha => by
  have hv : ∃ b : Bool, a.eval c = .bool b ∧ (b = true → q) := by
    obtain ⟨M, _, hs, _⟩ := ha
    have := cV (x := c) (rs := cJ c) (fun _ h => h) (fun c _ hn => hs c hn)
    rw [hc] at this; exact this
  obtain ⟨b, hv, hq⟩ := hv
  cases b with
  | true => exact wpIn_cond_true hv (h1 (hq rfl) a w ha)
  | false => exact wpIn_cond_false hv (h2 trivial a w ha)
theorem q4 {ty' : TypeId} {el : TypeId} (hu : P.underlying ty' = some (.slice el)) (A : Option Addr) (n c : Nat) (w : World) : (Op.equal ty' (.slice A n c) (.slice none 0 0)).run P w = .ok A.isNone w := by
 unfold Op.equal Op.maxDepth
 rw [Op.equalIn]
 simp only [Sem.run_bind, run_underlying hu, Result.andThen_ok]
 cases A <;> rfl
theorem FO {α : Type} {E : El α} {xs : List α} {el : TypeId} (hu : P.underlying ty' = some (.slice el)) (hx : A.op fr x = .sl E xs)
    (h : bA P fr ops rest (A.set d (.nb (xs = []))) fun A' l' => K A' ((A, { d := some d, ty := .nb (xs = []), rs := cJ x }) :: l')) : bA P fr ops (⟨some d, .binOp .eql ty' x (.const (.slice none 0 0)) ty2, t, p, e, none⟩ :: rest) A K :=
  bJ (bT (rt := []) rfl rfl fun a w M _ hr _ => by
    have := cV (x := x) (fun _ h => h) hr
    rw [hx] at this
    obtain ⟨ad, c, ex, _, _, hp⟩ := this
    have ey : a.eval (.const (.slice none 0 0)) = .slice none 0 0 := rfl
    refine ⟨.bool ad.isNone, by simp only [execOp, ex, ey]; simp [eqGuard, binOp, go_sem, q4 hu], ad.isNone, rfl, fun hn => ?_⟩
    cases xs with
    | nil => rfl
    | cons y l =>
      obtain ⟨b, off, e, _⟩ := hp (by simp)
      rw [e] at hn; cases hn) h
theorem y7 {α : Type} (E : El α) : ∀ (xs : List α) (n : Nat), (xs.flatMap E.tys).take (n * E.size) = (xs.take n).flatMap E.tys
  | [], n => by simp
  | x :: xs, 0 => by simp
  | x :: xs, n + 1 => by
    rw [List.flatMap_cons, List.take_succ_cons, List.flatMap_cons, ← y7 E xs n, List.take_append, E.len, Nat.succ_mul, List.take_of_length_le (by rw [E.len]; omega)]
    congr 2; omega
theorem DL [T : lD P] {α : Type} {E : El α} {xs : List α} {len el : Nat} {parts : Array (Nat × Operand)} {ti te : TI} {ls : List (Nat × List Ty)} (hT : T.eN[ty']? = some ti) (hk : ti.k = .slice el) (hE : T.eN[el]? = some te) (hs : te.size = E.size) (hz : te.zero.length = te.size) (h0 : 0 < te.size) (hle : len * te.size ≤ 16777216) (hp : aV A fr parts.toList ls)
 (hf : tA (fun i => some (i * te.size, te.size)) ((List.range (len * te.size)).map fun j => Ty.jU (te.zero.getD (j % te.size) undef)) ls = some (xs.flatMap E.tys)) (hx : xs.length = len) (hpa : fr.pass.contains (d + 1) = false)
 (h : bA P fr ops rest (A.after { d := some d, ty := .row E el (d + 1) xs, K := [d + 1], rs := parts.toList.flatMap fun x => cJ x.2 }) fun A' l' => K A' ((A, { d := some d, ty := .row E el (d + 1) xs, K := [d + 1], rs := parts.toList.flatMap fun x => cJ x.2 }) :: l')) : bA P fr ops (⟨some d, .buildSlice ty' len parts, t, p, e, none⟩ :: rest) A K := by
 refine ⟨_, gC (f := { d := some d, ty := .row E el (d + 1) xs, K := [d + 1], rs := parts.toList.flatMap fun x => cJ x.2 }) rfl rfl (by simp) (by simp) (by simp at hpa ⊢; exact hpa) fun a w M wf hr _ => ?_, h⟩
 obtain ⟨z, hz1, hz2⟩ := nC hE (by intro hn; rw [hn] at hz; simp at hz; omega) w
 obtain ⟨_, D, _, hD, hkd, _⟩ := cz hT
 rw [hk] at hkd
 cases D <;> simp only [TK.of, reduceCtorEq, TK.slice.injEq] at hkd
 rename_i el0
 have hel : el0 = el := hkd
 subst hel
 have hzs : z.cells.size = te.size := by rw [← hz, ← hz2]; simp
 let zs : Array Value := if len * te.size = 0 then #[] else z.cells
 have hcells : cI w M ((List.range (len * te.size)).map fun j => Ty.jU (te.zero.getD (j % te.size) undef)) ((Array.range (len * te.size)).map (zs[· % zs.size]!)).toList := by
  refine fm (by simp) fun i u hi => ?_
  rw [List.getElem?_map] at hi
  simp only [Option.map_eq_some_iff] at hi
  obtain ⟨j, hj, rfl⟩ := hi
  have hlt : i < len * te.size := by have := (List.getElem?_eq_some_iff.1 hj).1; simpa using this
  rw [List.getElem?_range hlt] at hj
  injection hj with hj
  subst hj
  have hne : ¬ len * te.size = 0 := by omega
  refine ⟨te.zero.getD (i % te.size) undef, ?_, j6 _ _ _⟩
  have hm : i % te.size < z.cells.size := by rw [hzs]; exact Nat.mod_lt _ h0
  have e1 : zs[i % zs.size]! = te.zero.getD (i % te.size) undef := by
   simp only [zs, if_neg hne, hzs]
   rw [getElem!_pos z.cells _ hm, ← hz2, List.getD_eq_getElem?_getD, List.getElem?_eq_getElem (by simpa using hm)]
   simp
  simp [List.getElem?_range hlt, e1]
 obtain ⟨cs', h1, h2⟩ := qH hr hp (place := fun i => some (i * te.size, te.size)) (cs := (Array.range (len * te.size)).map (zs[· % zs.size]!)) (fun x hx c hc => List.mem_flatMap.2 ⟨x, hx, hc⟩) hcells hf
 have hparts : (parts.map fun x => (x.1, a.eval x.2)).toList = parts.toList.map fun x => (x.1, a.eval x.2) := by simp
 obtain ⟨h3, h4, h5⟩ := jh wf (.cells cs' el0) (d + 1)
 have hcl : cs'.toList.length = len * te.size := by rw [cW h2, c6, hx, hs]
 have hmx : len ≤ maxLen := by
  have : len ≤ len * te.size := Nat.le_mul_of_pos_right _ h0
  simp only [maxLen]; omega
 refine ⟨.slice (some ⟨w.heap.size, 0, none⟩) len len, w.alloc (.cells cs' el0), ?_, _, h3, h4, ⟨cs'.toList, ⟨by rw [hcl, hx, hs], .inr ⟨w.heap.size, len, cs', by rw [hx], Nat.zero_le _, gq _ _, by rw [hx]; exact Nat.le_refl _, hmx, by rw [← hs]; simpa using hcl, by rw [List.take_of_length_le (by rw [hcl, hx, hs]; exact Nat.le_refl _)]⟩⟩, ?_, fun g hg => ?_⟩, by simp⟩
 ·have hbig : ¬ (len * te.size > 2 ^ 24) := by omega
  have hbig' : ¬ (2 ^ 24 < len * te.size) := by omega
  simp only [execOp, Instr.buildSlice, Sem.run_bind, run_underlying hD, Result.andThen_ok, dO hE]
  simp only [hbig', gt_iff_lt, if_false]
  by_cases hn : len * te.size = 0
  ·have : zs = #[] := if_pos hn
   rw [this] at h1
   simp only [hn, if_true, Sem.run_pure, Sem.run_bind, Result.andThen_ok]
   rw [hn] at h1
   simp only [hparts, h1]
   simp [newRow, newObj, Sem.run]
  have : zs = z.cells := if_neg hn
  rw [this] at h1
  simp only [if_neg hn, Sem.run_pure, Sem.run_bind, Result.andThen_ok, hz1]
  simp only [hparts, h1]
  simp [newRow, newObj, Sem.run]
 ·refine bl h4 (fun u hu => ?_) (fun u hu => ?_) h2
  ·rw [E.cY] at hu; cases hu
  rw [E.cS] at hu; cases hu
 simp [Value.ownBlock] at hg
 subst hg; exact h5
end
end Go.T
namespace Go.T
open Go Go.RowKit
section
variable {A : As} {α : Type} {E : El α} {tg Tb : Nat} {xs : List α}
end
section
variable {P : Program} {fr : Fr} {ops : Array Oper} {A : As} {rest : List Oper} {K : As → List (As × Fx) → Prop} {d : Nat} {t ty' ty2 : TypeId} {p : String} {e : Array Edge} [T : lD P]
variable {α : Type} {E : El α} {xs : List α} {x y : Operand} {tg Tb : Nat} {ti : TI}
end
end Go.T
namespace Go.T
open Go Go.RowKit
section
variable {P : Program} {fr : Fr} {ops : Array Oper} {A : As} {rest : List Oper} {K : As → List (As × Fx) → Prop} {d : Nat} {t ty' ty2 : TypeId} {p : String} {e : Array Edge} [T : lD P]
variable {x y : Operand} {ti ts : TI}
end
end Go.T
namespace Go.T
open Go
section
variable {P : Program} {fr : Fr} {A : As} {c : Code} {Q : Exit → Act → World → Prop}
def vB (A : As) (tg : Nat) (t0 t : Ty) : Prop := ∀ w M v, Wf w M → (∀ x ∈ A.tags, x.2.den w M x.1) → t0.den w M v → t.den w (eE M tg) v
def AE (A : As) (tg : Nat) : List Ty → List Ty → Prop
  | [], [] => True
  | a :: l, b :: l' => vB A tg a b ∧ AE A tg l l'
  | _, _ => False
def NA (A : As) (tg : Nat) (x : Nat × Cont) : Prop := ∀ w M, Wf w M → (∀ x ∈ A.tags, x.2.den w M x.1) → x.2.den w (eE M tg) x.1
def Pm (A : As) (tg : Nat) : List (Nat × Cont) → Prop
  | [] => True
  | x :: l => NA A tg x ∧ Pm A tg l
theorem bK {tg : Nat} {t : Ty} (h : k7 t.deps [tg] = true) : vB A tg t t := fun w M _ _ _ hd =>
 t.mono (jN (w := w)) (gN h) (fun _ _ h => by cases h) hd
theorem Ge {α : Type} {E : El α} {T tg : Nat} {xs : List α} : vB A tg (.row E T tg xs) (.sl E xs) := fun w M v wf _ hd =>
 wW wf hd (fun b hb => by simp [eE, hb]) (fun b hb => by simp [eE, hb])
theorem jc {α : Type} {E : El α} {T tg n : Nat} {xs : List α} (hc : A.tag tg = some (.vec E T xs)) (hn : xs.length = n) (h1 : gE tg) : vB A tg (.vs tg n) (.sl E xs) := fun w M v wf ht hd => by
 have hv : fX E T xs w M tg := ht _ (cj hc)
 subst hn
 rcases hd with ⟨h0, rfl⟩ | ⟨b, cc, hb, e, hn1, hn2⟩
 ·exact ⟨none, 0, by rw [h0], by omega, by simp [maxLen], fun h => absurd h (by omega)⟩
 refine ⟨_, cc, e, hn1, hn2, fun _ => ⟨b, 0, rfl, by simp [eE, hb], wf.lt b _ hb, fun i t hi => ?_⟩⟩
 obtain ⟨u, hu, hdu⟩ := mw wf h1 hb hv hi
 refine ⟨u, by rw [Nat.zero_add]; exact hu, t.mono (jN (w := w)) ?_ ?_ hdu⟩
 ·intro u hu
  have : u ∈ cF (xs.flatMap E.tys) := List.mem_flatMap.2 ⟨t, List.mem_of_getElem? hi, hu⟩
  rw [E.cY] at this; cases this
 intro u _ h; cases h
theorem wJ {tg : Nat} {w : World} {M : bC} (wf : Wf w M) (ht : ∀ x ∈ A.tags, x.2.den w M x.1) : ∀ {l l' : List Ty} {vs : List Value}, AE A tg l l' → cI w M l vs → cI w (eE M tg) l' vs
  | [], [], [], _, _ => trivial
  | _ :: _, _ :: _, _ :: _, ⟨h1, h2⟩, ⟨h3, h4⟩ => ⟨h1 _ _ _ wf ht h3, wJ wf ht h2 h4⟩
theorem fM {tg o T : Nat} {l l' : List Ty} (ho : A.tag o = some (.cells T l)) (hne : Nat.beq o tg = false) (h : AE A tg l l') : NA A tg (o, .cells T l') := fun w M wf ht => by
 obtain ⟨b, cs, hb, hh, hd⟩ := ht _ (cj ho)
 refine ⟨b, cs, ?_, hh, wJ wf ht h hd⟩
 unfold eE
 rw [if_neg]
 ·exact hb
 rw [hb]; intro e; injection e with e; subst e; simp at hne
theorem CL {tg : Nat} {w : World} {M : bC} (wf : Wf w M) (ht : ∀ x ∈ A.tags, x.2.den w M x.1) : ∀ {lt : List (Nat × Cont)}, Pm A tg lt → ∀ {x : Nat × Cont}, x ∈ lt → x.2.den w (eE M tg) x.1
  | y :: _, ⟨h1, h2⟩, x, hx => by
    rcases List.mem_cons.1 hx with rfl | hx
    · exact h1 w M wf ht
    · exact CL wf ht h2 hx
theorem jI {tg : Nat} (l : List (Nat × Ty)) (lt : List (Nat × Cont)) (h1 : 1 ≤ tg) (hp : fr.pass.contains tg = false) (hl : D4 A tg l) (hlt : Pm A tg lt) (h : fP P fr c ⟨(A.ql tg l).slots, lt ++ (A.ql tg l).tags⟩ Q) : fP P fr c A Q := fun a w ⟨M, ok, hsl, ht⟩ => by
  have le : Le (· ∈ ([] : List Nat)) (· ∈ [tg]) w M w (eE M tg) := jN
  refine h a w ⟨eE M tg, ⟨AN ok.wf, Fr.jT ok.base (by intro _ h; cases h) (fun t ht => by simp only [List.mem_singleton] at ht; subst ht; exact ⟨h1, by simpa using hp⟩) le, ok.size, ok.defers.step (by intro _ h; cases h) (fun t ht => by simp only [List.mem_singleton] at ht; subst ht; exact h1) le⟩, fun i hi => ?_, fun x hx => ?_⟩
  · have base : (gj [] [tg] A.slots i).den w (eE M tg) (a.tmps.getD i undef) := by
      rcases fq [] [tg] A.slots i with ⟨e, hdj⟩ | ⟨_, e⟩
      · rw [e]; exact (A.slots i).mono le (fT hdj).1 (fT hdj).2 (hsl i hi)
      · rw [e]; trivial
    show (pZ l (gj [] [tg] A.slots) i).den _ _ _
    clear h
    induction l with
    | nil => exact base
    | cons x l ih =>
      obtain ⟨d, t⟩ := x
      unfold pZ
      cases hb : Nat.beq i d with
      | false => simp only [cond_false]; exact ih hl.2
      | true =>
        have : i = d := Nat.eq_of_beq_eq_true hb
        subst this
        simp only [cond_true]
        exact hl.1 w M _ ok.wf ht (hsl i hi)
  · rcases List.mem_append.1 (show x ∈ lt ++ (A.ql tg l).tags from hx) with hx | hx
    · exact CL ok.wf ht hlt hx
    · exact iV le hx fun y hy _ => ht y hy
end
section
open Go.RowKit
variable {P : Program} {A : As} {fn : Func} {n : Nat} {w0 : World} {M0 : bC} {F : List Nat} {post : List (Nat × Cont)} [T : lD P]
theorem MN (L : List Nat) {tm ty tg Tb : Nat} {l : List Ty} {ti : TI} {res : Ty} (hr : fn.results = #[.cell tm ty]) (ht : Nat.blt tm n = true) (hx : A.slots tm = .ptr tg 0) (hc : A.tag tg = some (.cells Tb l)) (h1 : gE tg) (hT : T.eN[ty]? = some ti) (ha : ti.k.agg = true) (hl : l.length = ti.size)
 (hL : ∀ t ∈ F, t ∈ L) (hp : q9 A L post) (hs : Br L (.agg l) res) :
 dQ ⟨n, w0, M0, F, .plain⟩ A (bodyPost P fn (cL F post w0 M0 res) .ret) := by
 intro a w ⟨M, ok, hsl, htg⟩
 have hd := hsl tm (by simpa using ht)
 rw [hx] at hd
 obtain ⟨b, hb, e⟩ := hd
 obtain ⟨b', cs, hb', hh, hds⟩ := htg _ (cj hc)
 obtain ⟨u, rfl⟩ : ∃ u, tg = u + 1 := ⟨tg - 1, by omega⟩
 have := ok.wf.inj b b' u (by omega) hb hb'
 subst this
 have hlen := cW hds
 have hload := iJ (P := P) hT ha (w := w) (b := b) (off := 0) (cs := cs.toList) (by rw [hlen, hl]) (fun j v hj => by simpa [World.cell?, hh] using hj)
 have hload' : (loadVar ty ⟨b, 0, none⟩).run P w = .ok (.agg cs) w := by simpa [Instr.loadAt, Instr.sureAddr] using hload
 refine ⟨ok.gl (by simp), .agg cs, ?_, _, o8 L M, rfl, qj ok.wf, qT hL ok.base, hs _ _ _ ok.wf ⟨cs, rfl, hds⟩, x7 ok.wf htg hp⟩
 have e' : a.tmps.getD tm undef = .pointer (some ⟨b, 0, none⟩) := e
 have e'' : a.tmps[tm]?.getD undef = .pointer (some ⟨b, 0, none⟩) := by rw [← Array.getD_eq_getD_getElem?]; exact e'
 simp [results, hr, e'', asAddr, hload']
end
end Go.T
namespace Go.T
open Go Go.RowKit
theorem n4 {w : World} {g : Nat} {old : Array Value} {t : TypeId} (cs : Array Value) (hg : w.heap[g]? = some (.cells old t (0, 0))) : w.setRow g cs = { w with heap := w.heap.setIfInBounds g (.cells cs t (0, 0)) } := by
 unfold World.setRow
 congr 1
 obtain ⟨hlt, hv⟩ := Array.getElem?_eq_some_iff.1 hg
 apply Array.ext_getElem?
 intro i
 by_cases e : g = i
 ·subst e
  rw [Array.getElem?_modify, if_pos rfl, hg, Array.getElem?_setIfInBounds_self_of_lt hlt]; rfl
 rw [Array.getElem?_modify, if_neg e, Array.getElem?_setIfInBounds_ne e]
theorem za {α : Type} (E : El α) : ∀ (xs : List α) (n : Nat), (xs.flatMap E.tys).drop (n * E.size) = (xs.drop n).flatMap E.tys
  | [], n => by simp
  | x :: xs, 0 => by simp
  | x :: xs, n + 1 => by
    rw [List.flatMap_cons, List.drop_succ_cons, ← za E xs n, List.drop_append, E.len, Nat.succ_mul, List.drop_of_length_le (by rw [E.len]; omega), List.nil_append]
    congr 1; omega
theorem E2 {α : Type} {E : El α} {xs ys : List α} {w : World} {M : bC} {cur vs : List Value} {i : Nat} (hd : cI w M (xs.flatMap E.tys) (cur.take (xs.flatMap E.tys).length)) (hv : cI w M (ys.flatMap E.tys) vs) (hi : i + ys.length ≤ xs.length) :
 cI w M ((xs.take i ++ (ys ++ xs.drop (i + ys.length))).flatMap E.tys) ((cur.take (i * E.size) ++ vs ++ cur.drop (i * E.size + vs.length)).take ((xs.take i ++ (ys ++ xs.drop (i + ys.length))).flatMap E.tys).length) := by
 have hvl : vs.length = ys.length * E.size := by rw [cW hv, c6]
 have hN : (xs.flatMap E.tys).length = xs.length * E.size := c6 E xs
 have hcl : xs.length * E.size ≤ cur.length := by
  have := cW hd
  rw [List.length_take, hN] at this; omega
 have hm : (i + ys.length) * E.size ≤ xs.length * E.size := Nat.mul_le_mul_right _ hi
 have hm2 : (i + ys.length) * E.size = i * E.size + ys.length * E.size := Nat.add_mul _ _ _
 have hxl : (xs.take i ++ (ys ++ xs.drop (i + ys.length))).length = xs.length := by simp; omega
 rw [c6 E (xs.take i ++ (ys ++ xs.drop (i + ys.length))), hxl, List.flatMap_append, List.flatMap_append]
 have e : (cur.take (i * E.size) ++ vs ++ cur.drop (i * E.size + vs.length)).take (xs.length * E.size) = cur.take (i * E.size) ++ (vs ++ (cur.take (xs.length * E.size)).drop ((i + ys.length) * E.size)) := by
  have l1 : (cur.take (i * E.size)).length = i * E.size := by rw [List.length_take]; omega
  rw [List.append_assoc, List.take_append, List.take_append, l1]
  have e1 : (cur.take (i * E.size)).take (xs.length * E.size) = cur.take (i * E.size) := List.take_of_length_le (by omega)
  have e2 : vs.take (xs.length * E.size - i * E.size) = vs := List.take_of_length_le (by omega)
  rw [e1, e2, hvl, hm2, List.drop_take]
  congr 3; omega
 rw [e]
 rw [hN] at hd
 refine jm ?_ (jm hv ?_)
 ·have := qE (i * E.size) hd
  rw [y7, List.take_take, Nat.min_eq_left (by omega)] at this; exact this
 have := nF ((i + ys.length) * E.size) hd
 rw [za] at this; exact this
section
variable {P : Program} {fr : Fr} {ops : Array Oper} {A : As} {rest : List Oper} {K : As → List (As × Fx) → Prop} {d : Nat} {t ty' : TypeId} {p : String} {e : Array Edge} [T : lD P]
theorem zP {α : Type} {xs : List α} {i : Nat} (h : i < xs.length) (z : α) : xs.take i ++ ([z] ++ xs.drop (i + [z].length)) = xs.set i z := by
 rw [List.set_eq_take_append_cons_drop, if_pos h]; rfl
theorem n7 {α : Type} {E : El α} {xs : List α} {x y : Operand} {tg off Tb : Nat} {ti : TI} {z : α} (i : Nat) (hx : A.op fr x = .ptr tg off) (he : off = i * E.size) (hc : A.tag tg = some (.vec E Tb xs)) (h1 : gE tg) (hT : T.eN[ty']? = some ti) (hsz : ti.size = E.size) (hy : A.op fr y = .agg (E.tys z)) (hi : i < xs.length)
 (h : bA P fr ops rest (A.after { d := none, S := [tg], sets := [(tg, .vec E Tb (xs.set i z))], rs := cJ x ++ cJ y, rt := [tg] }) fun A' l'' => K A' ((A, { d := none, S := [tg], sets := [(tg, .vec E Tb (xs.set i z))], rs := cJ x ++ cJ y, rt := [tg] }) :: l'')) :
 bA P fr ops (⟨none, .store ty' x y, t, p, e, none⟩ :: rest) A K := by
 refine ⟨_, l7 rfl rfl rfl (by simp) (by simpa using h1.1) (by simp) fun a w M wf hr ht => ?_, h⟩
 obtain ⟨hdx, hdy⟩ := op2 hr
 rw [hx] at hdx; rw [hy] at hdy
 obtain ⟨b, hb, ex⟩ := hdx
 obtain ⟨vs, ey, hvs⟩ := hdy
 rcases sn hc w M ht with rfl | ⟨b', cs, hb', hh, hd⟩
 ·exact absurd hi (Nat.not_lt_zero _)
 obtain ⟨u, rfl⟩ : ∃ u, tg = u + 1 := ⟨tg - 1, by omega⟩
 have := wf.inj b b' u (by omega) hb hb'
 subst this
 have hlen := cW hd
 have hvl : vs.size = E.size := by have := cW hvs; rw [E.len] at this; simpa using this
 have hoff : i * E.size + E.size ≤ cs.size := by
  rw [c6, List.length_take] at hlen
  have : (i + 1) * E.size ≤ xs.length * E.size := Nat.mul_le_mul_right _ hi
  rw [Nat.succ_mul] at this
  simp at hlen; omega
 have hones : ∀ v ∈ vs.toList, v.oneCell' = true := kO hvs (fun t ht => by
  have := lY E [z] t (by simpa using ht)
  exact this)
 have hst := run_storeCells_at (P := P) b off Tb vs.toList 0 cs w hh (by simp [he, hvl]; omega) hones
 rw [n4 _ hh] at hst
 obtain ⟨h1', h2', h3'⟩ := kZ (cs' := (cs.toList.take (off + 0) ++ vs.toList ++ cs.toList.drop (off + 0 + vs.toList.length)).toArray) (Tb := Tb) wf hb _ rfl
 refine ⟨_, ?_, M, h1', h2', trivial, ?_⟩
 ·simp only [execOp, Instr.storeAt, Instr.sureAddr, ex, ey, storeVar, Value.cells, dO hT, Sem.run_bind, Sem.run_pure, Result.andThen_ok, hsz, hvl, hst]
  simp [hst]
 intro z' hz'
 simp only [List.mem_singleton] at hz'
 subst hz'
 refine .inr ⟨b, _, hb, h3', ?_⟩
 have hp := E2 (ys := [z]) (vs := vs.toList) (i := i) hd (by simpa using hvs) (by show i + 1 ≤ _; omega)
 rw [zP hi, ← he] at hp
 exact bl h2' (by intro _ _ h; cases h) (by rw [E.cS]; intro _ h; cases h) (by simpa using hp)
end
section
variable {P : Program} {A : As} {fn : Func} {n : Nat} {w0 : World} {M0 : bC} [T : lD P]
theorem ji {tm ty tg Tb t2 : Nat} {l : List Ty} {ti : TI} {r1 r2 : Ty} (hr : fn.results = #[.cell tm ty, .tmp t2]) (ht : Nat.blt tm n = true) (h2 : Nat.blt t2 n = true) (hx : A.slots tm = .ptr tg 0) (hc : A.tag tg = some (.cells Tb l)) (h1 : gE tg) (hT : T.eN[ty]? = some ti) (ha : ti.k.agg = true) (hl : l.length = ti.size) (hs : gU (.agg l) r1) (hs2 : gU (A.slots t2) r2) :
 dQ ⟨n, w0, M0, [], .plain⟩ A (bodyPost P fn (lV w0 M0 (Ty.j8 [r1, r2])) .ret) := by
 intro a w ⟨M, ok, hsl, htg⟩
 have hd := hsl tm (by simpa using ht)
 rw [hx] at hd
 obtain ⟨b, hb, e⟩ := hd
 obtain ⟨b', cs, hb', hh, hds⟩ := htg _ (cj hc)
 obtain ⟨u, rfl⟩ : ∃ u, tg = u + 1 := ⟨tg - 1, by omega⟩
 have := ok.wf.inj b b' u (by omega) hb hb'
 subst this
 have hlen := cW hds
 have hload := iJ (P := P) hT ha (w := w) (b := b) (off := 0) (cs := cs.toList) (by rw [hlen, hl]) (fun j v hj => by simpa [World.cell?, hh] using hj)
 have hload' : (loadVar ty ⟨b, 0, none⟩).run P w = .ok (.agg cs) w := by simpa [Instr.loadAt, Instr.sureAddr] using hload
 refine ⟨ok.gl (by simp), .tuple #[.agg cs, a.tmps.getD t2 undef], ?_, _, og M, rfl, qi ok.wf, nO (fr := ⟨n, w0, M0, [], .plain⟩) (fun _ h => h) ok.base, _, rfl, hs _ _ _ ok.wf ⟨cs, rfl, hds⟩, hs2 _ _ _ ok.wf (hsl t2 (by simpa using h2)), trivial⟩
 have e' : a.tmps.getD tm undef = .pointer (some ⟨b, 0, none⟩) := e
 have e'' : a.tmps[tm]?.getD undef = .pointer (some ⟨b, 0, none⟩) := by rw [← Array.getD_eq_getD_getElem?]; exact e'
 simp [results, hr, e'', asAddr, hload']
end
section
variable {P : Program} {fr : Fr} {ops : Array Oper} {A : As} {rest : List Oper} {K : As → List (As × Fx) → Prop} {d : Nat} {t ty' : TypeId} {p : String} {e : Array Edge} [T : lD P]
end
end Go.T
namespace Go.T
open Go Go.RowKit
def Q4 {α : Type} (E : El α) (xs : List α) (w : World) (M : bC) (v : Value) : Prop := lN E xs w M v ∧ (xs = [] → v = .slice none 0 0)
def Ty.IM {α : Type} (E : El α) (xs : List α) : Ty :=
  { den := Q4 E xs, deps := [], cdeps := [], mono := fun le hk hs h => ⟨(Ty.sl E xs).mono le hk hs h.1, h.2⟩, one := true, isOne := fun _ ⟨⟨_, _, e, _⟩, _⟩ => e ▸ rfl }
theorem Ty.PC {α : Type} {E : El α} {xs : List α} : (Ty.IM E xs).Sub (Ty.sl E xs) := fun _ _ _ h => h.1
theorem EY {L : List Nat} {α : Type} {E : El α} {xs : List α} (e : xs = []) : Br L (Ty.ex (.slice none 0 0)) (Ty.IM E xs) := fun w M v wf h => by
 subst e
 exact ⟨iR (L := L) (Jh (E := E)) w M v wf h, fun _ => h⟩
theorem Dh {L : List Nat} {α : Type} {E : El α} {T tg : Nat} {xs ys : List α} (h : 1 ≤ tg) (hL : L.contains tg = false) (e : xs = ys) (hne : ys ≠ []) : Br L (Ty.row E T tg xs) (Ty.IM E ys) := fun w M v wf hd => ⟨Im h hL e w M v wf hd, fun hx => absurd hx hne⟩
section
variable {P : Program} {fr : Fr} {ops : Array Oper} {A : As} {rest : List Oper} {K : As → List (As × Fx) → Prop} {d : Nat} {t ty' ty2 : TypeId} {p : String} {e : Array Edge} {x : Operand}
theorem SJ {α : Type} {E : El α} {xs : List α} (hx : A.op fr x = .IM E xs) (h : bA P fr ops rest (A.set d (.IM E xs)) fun A' l => K A' ((A, { d := some d, ty := .IM E xs, rs := cJ x }) :: l)) : bA P fr ops (⟨some d, .move x, t, p, e, none⟩ :: rest) A K := eB hx h
theorem SA {α : Type} {E : El α} {xs : List α} (hx : A.op fr x = .IM E xs) (h : bA P fr ops rest (A.set d (.IM E xs)) fun A' l => K A' ((A, { d := some d, ty := .IM E xs, rs := cJ x }) :: l)) : bA P fr ops (⟨some d, .assign x, t, p, e, none⟩ :: rest) A K := gi hx h
theorem Nc {α : Type} {E : El α} {xs : List α} {w : World} {M : bC} {v : Value} (h : Q4 E xs w M v) : ∃ ad n c, v = .slice ad n c ∧ ad.isNone = xs.isEmpty := by
  obtain ⟨⟨ad, c, ex, _, _, hp⟩, hn⟩ := h
  refine ⟨ad, _, c, ex, ?_⟩
  cases xs with
  | nil => have := hn rfl; rw [ex] at this; injection this with h1; rw [h1]; rfl
  | cons y l =>
    obtain ⟨b, off, e, _⟩ := hp (by simp)
    rw [e]; rfl
theorem LB {α : Type} {E : El α} {xs : List α} {el : TypeId} (hu : P.underlying ty' = some (.slice el)) (hx : A.op fr x = .IM E xs)
 (h : bA P fr ops rest (A.set d (.bool xs.isEmpty)) fun A' l' => K A' ((A, { d := some d, ty := .bool xs.isEmpty, rs := cJ x }) :: l')) : bA P fr ops (⟨some d, .binOp .eql ty' x (.const (.slice none 0 0)) ty2, t, p, e, none⟩ :: rest) A K :=
 bJ (bT (rt := []) rfl rfl fun a w M _ hr _ => by
  have := cV (x := x) (fun _ h => h) hr
  rw [hx] at this
  obtain ⟨ad, n, c, ex, hn⟩ := Nc this
  have ey : a.eval (.const (.slice none 0 0)) = .slice none 0 0 := rfl
  exact ⟨.bool ad.isNone, by simp only [execOp, ex, ey]; simp [eqGuard, binOp, go_sem, q4 hu], by rw [hn]; rfl⟩) h
end
end Go.T
namespace Go.T
open Go Go.RowKit
section
variable {P : Program} {fr : Fr} {A : As} {Q : Exit → Act → World → Prop} {code : Code}
end
section
variable {P : Program} {fr : Fr} {ops : Array Oper} {A : As} {rest : List Oper} {K : As → List (As × Fx) → Prop} {d : Nat} {t ty' ty2 : TypeId} {p : String} {e : Array Edge}
end
section
variable {P : Program} {fr : Fr} {ops : Array Oper} {A : As} {rest : List Oper} {K : As → List (As × Fx) → Prop} {d : Nat} {t ty' ty2 : TypeId} {p : String} {e : Array Edge} [T : lD P]
end
end Go.T
namespace Go.T
open Go Go.RowKit
section
variable {P : Program} {fr : Fr} {ops : Array Oper} {A : As} {rest : List Oper} {K : As → List (As × Fx) → Prop} {d : Nat} {t : TypeId} {p : String} {e : Array Edge} {y : Operand}
theorem Am {c : Operand} {b : Bool} (hc : A.op fr c = .bool true) (hy : A.op fr y = .bool b)
 (h : bA P fr ops rest (A.set d (.bool b)) fun A' l' => K A' ((A, { d := some d, ty := .bool b, rs := cJ c ++ cJ y }) :: l')) : bA P fr ops (⟨some d, .pick c y (.const (.bool false)), t, p, e, none⟩ :: rest) A K :=
 bJ (bT rfl rfl fun a w M _ hrd _ => by
  obtain ⟨hdc, hdy⟩ := op2 hrd
  rw [hc] at hdc; rw [hy] at hdy
  have ec : a.eval c = .bool true := hdc
  have ey : a.eval y = .bool b := hdy
  exact ⟨.bool b, by simp only [execOp, ec, ey]; simp [asBool], rfl⟩) h
theorem Eu {c : Operand} (hc : A.op fr c = .bool false)
 (h : bA P fr ops rest (A.set d (.bool false)) fun A' l' => K A' ((A, { d := some d, ty := .bool false, rs := cJ c ++ cJ y }) :: l')) : bA P fr ops (⟨some d, .pick c y (.const (.bool false)), t, p, e, none⟩ :: rest) A K :=
 bJ (bT rfl rfl fun a w M _ hrd _ => by
  obtain ⟨hdc, _⟩ := op2 hrd
  rw [hc] at hdc
  have ec : a.eval c = .bool false := hdc
  exact ⟨.bool false, by simp only [execOp, ec]; simp [asBool, Act.eval], rfl⟩) h
end
end Go.T
namespace Go.T
open Go Go.RowKit
structure zF (α : Type) where
  E : El α
  own : Nat → α → List Ty
  olen : ∀ J x, (own J x).length = E.size
  deps : ∀ J x, ∀ u ∈ cF (own J x), u = J
  cdeps : ∀ J x, ∀ u ∈ bY (own J x), u = J
  oones : ∀ J x, (own J x).all Ty.one = true
  ql : ∀ J x w M M' vs, Wf w M → (∀ b, M b = some J → M' b = none) → (∀ b, M b = none → M' b = none) → cI w M (own J x) vs → cI w M' (E.tys x) vs
  ren : ∀ J J' x w M M' vs, (∀ b, M b = some J → M' b = some J') → (∀ b, M b = none → M' b = none) → cI w M (own J x) vs → cI w M' (own J' x) vs
  mine : ∀ J x w M vs, cI w M (own J x) vs → ∀ g ∈ vs.filterMap Value.ownBlock, M g = some J
section
variable {α : Type} (E : zF α)
theorem zF.cY (J : Nat) (xs : List α) : ∀ u ∈ cF (xs.flatMap (E.own J)), u = J := by
 intro u hu
 simp only [cF, List.mem_flatMap] at hu
 obtain ⟨t, ⟨x, _, hx⟩, hu⟩ := hu
 exact E.deps J x u (List.mem_flatMap.2 ⟨t, hx, hu⟩)
theorem zF.cS (J : Nat) (xs : List α) : ∀ u ∈ bY (xs.flatMap (E.own J)), u = J := by
 intro u hu
 simp only [bY, List.mem_flatMap] at hu
 obtain ⟨t, ⟨x, _, hx⟩, hu⟩ := hu
 exact E.cdeps J x u (List.mem_flatMap.2 ⟨t, hx, hu⟩)
theorem zF.c6 (J : Nat) : ∀ xs : List α, (xs.flatMap (E.own J)).length = xs.length * E.E.size
  | [] => by simp
  | x :: xs => by rw [List.flatMap_cons, List.length_append, E.olen, zF.c6 J xs, List.length_cons, Nat.succ_mul, Nat.add_comm]
theorem rW {w : World} {M : bC} : ∀ {l l' : List Ty} {vs : List Value}, cI w M (l ++ l') vs → cI w M l (vs.take l.length) ∧ cI w M l' (vs.drop l.length)
  | [], _, _, h => ⟨trivial, h⟩
  | _ :: l, _, _ :: _, ⟨h, h'⟩ => ⟨⟨h, (rW h').1⟩, (rW h').2⟩
theorem zF.ze {J : Nat} {w : World} {M : bC} : ∀ {xs : List α} {vs : List Value}, cI w M (xs.flatMap (E.own J)) vs → ∀ g ∈ vs.filterMap Value.ownBlock, M g = some J
  | [], [], _, g, hg => by cases hg
  | x :: xs, vs, h, g, hg => by
    rw [List.flatMap_cons] at h
    obtain ⟨a, b⟩ := rW h
    rw [← List.take_append_drop (E.own J x).length vs, List.filterMap_append, List.mem_append] at hg
    rcases hg with hg | hg
    · exact E.mine J x w M _ a g hg
    · exact zF.ze b g hg
end
def Ft {α : Type} (E : zF α) (T tg J : Nat) (xs : List α) (w : World) (M : bC) (v : Value) : Prop :=
  ∃ cs, w.ownsRow 0 T E.E.size v xs.length cs ∧ cI w M (xs.flatMap (E.own J)) cs ∧ (cs.filterMap Value.ownBlock).Nodup ∧ ∀ g, v.ownBlock = some g → M g = some tg
def Ty.yS {α : Type} (E : zF α) (T tg J : Nat) (xs : List α) : Ty :=
  ⟨Ft E T tg J xs, [tg, J], [tg, J], fun le hk hs ⟨cs, h1, h2, h4, h3⟩ =>
    ⟨cs, tJ h1 fun g hg => (le.own g tg (h3 g hg) (hk tg (by simp))).2 (hs tg (by simp)),
     bl le (fun u hu => by rw [E.cY J xs u hu]; exact hk J (by simp)) (fun u hu => by rw [E.cS J xs u hu]; exact hs J (by simp)) h2, h4,
     fun g hg => (le.own g tg (h3 g hg) (hk tg (by simp))).1⟩, true, fun _ ⟨cs, h1, _⟩ => by
      rcases h1.2 with ⟨rfl, _⟩ | ⟨_, _, _, rfl, _⟩ <;> rfl⟩
theorem Ty.Iz {α : Type} {E : zF α} {T tg J : Nat} : (Ty.ex (.slice none 0 0)).Sub (Ty.yS E T tg J []) := by
 intro w M v h
 have h : v = .slice none 0 0 := h
 subst h
 exact ⟨[], ⟨by simp, .inl ⟨rfl, rfl⟩⟩, trivial, by simp, fun g hg => by simp [Value.ownBlock] at hg⟩
theorem Ty.Lc {α : Type} {E : zF α} {T tg J : Nat} {xs ys : List α} (h : xs = ys) : (Ty.yS E T tg J xs).Sub (Ty.yS E T tg J ys) := h ▸ Ty.aF _
def RY (l : List Ty) (w : World) (M : bC) (v : Value) : Prop := ∃ b, v = .slice (some ⟨b, 0, none⟩) 1 1 ∧ mq w M b 0 l
def Ty.ms (l : List Ty) : Ty := ⟨RY l, cF l, bY l, fun le hk hs ⟨b, e, h⟩ => ⟨b, e, oF le hk hs h⟩, true, fun _ ⟨_, e, _⟩ => e ▸ rfl⟩
section
variable {P : Program} {fr : Fr} {ops : Array Oper} {A : As} {rest : List Oper} {K : As → List (As × Fx) → Prop} {d : Nat} {t ty' : TypeId} {p : String} {e : Array Edge} [T : lD P]
theorem Gy {l : List Ty} {el : Nat} {parts : Array (Nat × Operand)} {ti te : TI} {ls : List (Nat × List Ty)} (hT : T.eN[ty']? = some ti) (hk : ti.k = .slice el) (hE : T.eN[el]? = some te) (hz : te.zero.length = te.size) (h0 : 0 < te.size) (hle : te.size ≤ 16777216) (hp : aV A fr parts.toList ls)
 (hf : tA (fun i => some (i * te.size, te.size)) ((List.range (1 * te.size)).map fun j => Ty.jU (te.zero.getD (j % te.size) undef)) ls = some l)
 (h : bA P fr ops rest (A.set d (.ms l)) fun A' l' => K A' ((A, { d := some d, ty := .ms l, rs := parts.toList.flatMap fun x => cJ x.2 }) :: l')) : bA P fr ops (⟨some d, .buildSlice ty' 1 parts, t, p, e, none⟩ :: rest) A K := by
 refine ⟨_, gC (f := { d := some d, ty := .ms l, rs := parts.toList.flatMap fun x => cJ x.2 }) rfl rfl (by simp) (by simp) (by simp) fun a w M wf hr _ => ?_, h⟩
 obtain ⟨z, hz1, hz2⟩ := nC hE (by intro hn; rw [hn] at hz; simp at hz; omega) w
 obtain ⟨_, D, _, hD, hkd, _⟩ := cz hT
 rw [hk] at hkd
 cases D <;> simp only [TK.of, reduceCtorEq, TK.slice.injEq] at hkd
 rename_i el0
 have hel : el0 = el := hkd
 subst hel
 have hzs : z.cells.size = te.size := by rw [← hz, ← hz2]; simp
 let zs : Array Value := if 1 * te.size = 0 then #[] else z.cells
 have hcells : cI w M ((List.range (1 * te.size)).map fun j => Ty.jU (te.zero.getD (j % te.size) undef)) ((Array.range (1 * te.size)).map (zs[· % zs.size]!)).toList := by
  refine fm (by simp) fun i u hi => ?_
  rw [List.getElem?_map] at hi
  simp only [Option.map_eq_some_iff] at hi
  obtain ⟨j, hj, rfl⟩ := hi
  have hlt : i < 1 * te.size := by have := (List.getElem?_eq_some_iff.1 hj).1; simpa using this
  rw [List.getElem?_range hlt] at hj
  injection hj with hj
  subst hj
  have hne : ¬ 1 * te.size = 0 := by omega
  refine ⟨te.zero.getD (i % te.size) undef, ?_, j6 _ _ _⟩
  have hm : i % te.size < z.cells.size := by rw [hzs]; exact Nat.mod_lt _ h0
  have e1 : zs[i % zs.size]! = te.zero.getD (i % te.size) undef := by
   simp only [zs, if_neg hne, hzs]
   rw [getElem!_pos z.cells _ hm, ← hz2, List.getD_eq_getElem?_getD, List.getElem?_eq_getElem (by simpa using hm)]
   simp
  have hlt' : i < te.size := by omega
  simp [List.getElem?_range hlt', e1]
 obtain ⟨cs', h1, h2⟩ := qH hr hp (place := fun i => some (i * te.size, te.size)) (cs := (Array.range (1 * te.size)).map (zs[· % zs.size]!)) (fun x hx c hc => List.mem_flatMap.2 ⟨x, hx, hc⟩) hcells hf
 have hparts : (parts.map fun x => (x.1, a.eval x.2)).toList = parts.toList.map fun x => (x.1, a.eval x.2) := by simp
 obtain ⟨h3, h4, _⟩ := uT wf (.cells cs' el0)
 refine ⟨.slice (some ⟨w.heap.size, 0, none⟩) 1 1, w.alloc (.cells cs' el0), ?_, M, h3, h4, ⟨w.heap.size, rfl, ?_⟩, by simp⟩
 ·have hbig' : ¬ (2 ^ 24 < 1 * te.size) := by omega
  simp only [execOp, Instr.buildSlice, Sem.run_bind, run_underlying hD, Result.andThen_ok, dO hE]
  simp only [hbig', gt_iff_lt, if_false]
  have hn : ¬ 1 * te.size = 0 := by omega
  have : zs = z.cells := if_neg hn
  rw [this] at h1
  simp only [if_neg hn, Sem.run_pure, Sem.run_bind, Result.andThen_ok, hz1]
  simp only [hparts, h1]
  simp [newRow, newObj, Sem.run]
 have := tM (T := el0) (cs := cs'.toList) wf h2
 simpa using this
def mG (M : bC) (tg J : Nat) : bC := fun b => if M b = some tg then some J else M b
theorem x6 {w : World} {M : bC} {tg J : Nat} : Le (· ∈ ([] : List Nat)) (· ∈ [tg]) w M w (mG M tg J) :=
 ⟨Nat.le_refl _, rfl, rfl, rfl, fun b _ hm => ⟨by simp [mG, hm], rfl⟩, fun b t hm hk => ⟨by simp only [List.mem_singleton] at hk; simp [mG, hm, hk], fun _ => rfl⟩⟩
theorem DF {w : World} {M : bC} {tg J : Nat} (hJ : 4096 ≤ J) (wf : Wf w M) : Wf w (mG M tg J) := by
 have key : ∀ b t, mG M tg J b = some t → (M b = some tg ∧ t = J) ∨ M b = some t := fun b t h => by
  unfold mG at h
  split at h
  ·rename_i hm; injection h with h; exact .inl ⟨hm, h.symm⟩
  exact .inr h
 refine ⟨fun b t h => (key b t h).elim (fun h => wf.lt b _ h.1) (fun h => wf.lt b _ h), fun b b' t ht1 h h' => ?_⟩
 rcases key _ _ h with ⟨_, e⟩ | a
 ·omega
 rcases key _ _ h' with ⟨_, e⟩ | a'
 ·omega
 exact wf.inj b b' t ht1 a a'
def Is (tg J : Nat) (l l' : List Ty) : Prop := ∀ w M vs, cI w M l vs → cI w (mG M tg J) l' vs ∧ (vs.filterMap Value.ownBlock).Nodup ∧ ∀ g ∈ vs.filterMap Value.ownBlock, M g = some tg
theorem BV {α : Type} {E : zF α} {w : World} {M : bC} {st el tg tg' J : Nat} {ty : TypeId} {ti te : TI} {xs : List α} {z : α} {l : List Ty} {v y : Value} (wf : Wf w M) (hJ : 4096 ≤ J) (hne : tg ≠ J) (hne' : tg' ≠ J) (hnt : tg ≠ tg') (hT : T.eN[st]? = some ti) (hk : ti.k = .slice el) (hE : T.eN[el]? = some te) (hs : te.size = E.E.size) (hz : te.zero.length = te.size) (h0 : 0 < te.size)
    (hx : Ft E el tg J xs w M v) (hy : RY l w M y) (hl : l.length = E.E.size) (hd1 : k7 (cF l) [tg] = true) (ho : l.all Ty.one = true) (hg : Is tg' J l (E.own J z)) (hlen : (xs.length + 1) * te.bytes ≤ 140737488355328) (hlen' : xs.length + 1 ≤ 9223372036854775807) :
    ∃ v' w' M', (Builtin.append_ #[st, st] ty #[v, y]).run P w = .ok v' w' ∧ Wf w' M' ∧ Le (· ∈ ([] : List Nat)) (· ∈ [tg, tg']) w M w' M' ∧ Ft E el tg J (xs ++ [z]) w' M' v' := by
  obtain ⟨_, D, _, hD, hkd, _⟩ := cz hT
  rw [hk] at hkd
  cases D <;> simp only [TK.of, reduceCtorEq, TK.slice.injEq] at hkd
  subst hkd
  rename_i el
  obtain ⟨i, _, hi, _, _, hsz, hby, hze⟩ := cz hE
  obtain ⟨zz, hiz, hzc⟩ : ∃ z, i.zero = some z ∧ z.cells.size = i.size := by
    cases hiz : i.zero with
    | none => rw [hiz] at hze; rw [← hze] at hz; simp at hz; omega
    | some z => rw [hiz] at hze; exact ⟨z, rfl, by simp at hze; rw [hsz, ← hz, ← hze]; simp⟩
  obtain ⟨cs, hown, hd, hnd, hM⟩ := hx
  obtain ⟨b, rfl, hp'⟩ := hy
  have hown' : w.ownsRow 0 el i.size v xs.length cs := by rw [hsz, hs]; exact hown
  obtain ⟨news, hn1, hn2, hn3⟩ := m6 hp' _ (Nat.le_refl _)
  rw [List.take_length] at hn2
  obtain ⟨v', w', hrun, h2, h3, _, h5⟩ := run_append_own_at (P := P) w 0 st ty el i zz i.size i.bytes hD hi hiz rfl rfl hzc (by omega) v xs.length cs hown' ⟨b, 0, none⟩ 1 1 news (by rw [hn1, hl, hsz, hs]; omega)
      (fun j u hj => by rw [Addr.add_lit]; exact hn3 j u hj) (kO hn2 (fun t ht => List.all_eq_true.1 ho t ht)) (by simp only [maxLen]; omega) (by rw [hby]; exact hlen) (Nat.zero_le _)
  have hb : ∀ b, v'.ownBlock = some b → b < w'.heap.size := by
    intro b hb
    rcases h2.2 with ⟨rfl, _⟩ | ⟨g, cap, cur, rfl, _, hh, _⟩
    · simp [Value.ownBlock] at hb
    · simp [Value.ownBlock] at hb; subst hb; exact (Array.getElem?_eq_some_iff.1 hh).1
  have hle := xN (t := tg) (g := v'.ownBlock) h3.size h3.os h3.tape h3.output (fun b hb hlt => by
      rcases h5 with e | e
      · exact hM b (e ▸ hb)
      · rw [e] at hb; injection hb with hb; omega) (fun b hlt hne => h3.block b hlt (fun e => hne (hM b e.symm))) wf
  have wf1 := wM (t := tg) wf h3.size hb
  have hle2 := x6 (w := w') (M := jx M tg v'.ownBlock) (tg := tg') (J := J)
  have le : Le (· ∈ ([] : List Nat)) (· ∈ [tg, tg']) w M w' (mG (jx M tg v'.ownBlock) tg' J) :=
    (hle.trans hle2).weaken (fun t ht => by rcases ht with h | h <;> cases h) (fun t ht => by rcases ht with h | h; exact List.mem_cons.2 (.inl (List.mem_singleton.1 h)); exact List.mem_cons_of_mem _ h)
  have hn4 : cI w' (jx M tg v'.ownBlock) l news := bl hle (fun u hu => gN hd1 u hu) (by intro _ _ h; cases h) hn2
  obtain ⟨g1, g2, g3⟩ := hg _ _ _ hn4
  obtain ⟨_, _, g4⟩ := hg _ _ _ hn2
  refine ⟨v', w', _, hrun, DF hJ wf1, le, cs ++ news, ?_, ?_, ?_, fun g hg => ?_⟩
  · rw [List.length_append, List.length_singleton, ← hs, ← hsz]; exact h2
  · rw [List.flatMap_append]
    refine jm (bl le (fun u hu => ?_) (by intro _ _ h; cases h) hd) (by simpa using g1)
    rw [E.cY J xs u hu]
    simp only [List.mem_cons, List.not_mem_nil, or_false]
    rintro (h | h)
    · exact hne h.symm
    · exact hne' h.symm
  · rw [List.filterMap_append, List.nodup_append]
    refine ⟨hnd, g2, fun a ha b' hb' e => ?_⟩
    subst e
    have e1 := E.ze hd a ha
    have e2 := g4 a hb'
    rw [e1] at e2
    injection e2 with e2
    exact hne' e2.symm
  · have : jx M tg v'.ownBlock g = some tg := by simp [jx, hg]
    simp [mG, this, hnt]
theorem Gc {α : Type} {E : zF α} {x y : Operand} {st el tg tg' J : Nat} {ti te : TI} {xs : List α} (z : α) {l : List Ty} (hx : A.op fr x = .yS E el tg J xs) (hy : A.op fr y = .ms l) (hg : Is tg' J l (E.own J z)) (hJ : 4096 ≤ J) (h1 : gE tg) (h1' : gE tg') (hnt : tg ≠ tg') (hp : fr.pass.contains tg = false) (hp' : fr.pass.contains tg' = false) (hT : T.eN[st]? = some ti) (hk : ti.k = .slice el) (hE : T.eN[el]? = some te) (hs : te.size = E.E.size) (hz : te.zero.length = te.size) (h0 : 0 < te.size)
 (hl : l.length = E.E.size) (hd1 : k7 (cF l) [tg] = true) (ho : l.all Ty.one = true) (hlen : (xs.length + 1) * te.bytes ≤ 140737488355328) (hlen' : xs.length + 1 ≤ 9223372036854775807)
 (h : bA P fr ops rest (A.after { d := some d, ty := .yS E el tg J (xs ++ [z]), K := [tg, tg'], rs := cJ x ++ cJ y }) fun A' l' => K A' ((A, { d := some d, ty := .yS E el tg J (xs ++ [z]), K := [tg, tg'], rs := cJ x ++ cJ y }) :: l')) :
 bA P fr ops (⟨some d, .call ⟨.builtin .append, #[x, y], #[st, st]⟩, t, p, e, none⟩ :: rest) A K := by
 refine ⟨_, gC rfl rfl (by simp) (by simp) (by simp at hp hp' ⊢; exact ⟨⟨h1.1, hp⟩, ⟨h1'.1, hp'⟩⟩) fun a w M wf hr _ => ?_, h⟩
 obtain ⟨hdx, hdy⟩ := op2 hr
 rw [hx] at hdx; rw [hy] at hdy
 obtain ⟨v', w', M', hrun, h1', h2', h3'⟩ := BV (P := P) (ty := t) wf hJ (by omega) (by omega) hnt hT hk hE hs hz h0 hdx hdy hl hd1 ho hg hlen hlen'
 exact ⟨v', w', by simp [execOp, resolve, invoke, builtin, hrun], M', h1', h2', h3', by simp⟩
end
end Go.T
namespace Go.Proofs.YtelbollidfdcjaaGreat
open Go Go.T
set_option maxHeartbeats 2000000
attribute [local irreducible] gL eX lN nh gy g6 gu gw gx nj gr ni dN fX nH fu nZ nth fP dQ bA dJ bodyPost Exit.then Exit.inBlock Code.wp Code.wpIn nW g7 nY nV g8 eP cL cM bodyPostM dR
set_option maxRecDepth 100000 in
theorem oa (l : List Int) (t : Ty) (h1 : t.one = true) (q : Int → Bool) (hd : t.deps = []) (hc : t.cdeps = []) (hf : ∀ x ∈ l, oS Tryz.prog t [Ty.int .i64 x] (Ty.bool (q x))) : dJ Tryz.prog 141 [Ty.sl cT l, t] (Ty.int .i64 (fidx q l)) := by
 refine ak Tryz.func141 rfl (by decide) Tryz.ntmps141 (by exact Nat.le_of_ble_eq_true rfl) fun w0 M0 => ?_
 refine gJ (s := 0) rfl rfl gK fun hl => ?_
 refine aE (aA (bZ rfl (aD (aC (aE (aE (aA (eA rfl (cD rfl rfl rfl ?_)))))))))
 refine bF rfl (aD (aC (aY ?_)))
 refine b9 (fun (k : {k : Nat // ∀ x ∈ l.take k, q x = false}) => live [(0, Ty.sl cT l), (1, t), (7, Ty.int .i64 l.length), (8, Ty.int .i64 (k.1 : Nat))] []) (fun k => l.length - k.1) (⟨0, by simp⟩) ?_ fun k => ?_
 ·(refine cg.mk' ?_ ?_ <;> (repeat' (first | exact aI | exact aH | refine aB ?_ (Ty.aT _) | refine aB ?_ (Ty.aF _))))
 refine aE (aA (bB rfl rfl rfl (aD (aC (aE ?_)))))
 refine ah rfl (fun hc1 => ?_) (fun hc1 => ?_)
 ·
  refine aj (aC (aE (aY (aE (aA (bF rfl (bZ rfl (aD (aC ?_)))))))))
  refine aE (aA ?_)
  refine eB (ty := t) rfl ?_
  refine eA rfl (bF rfl ?_)
  refine aq rfl rfl rfl rfl rfl rfl (by omega) ?_
  refine aJ rfl rfl rfl rfl ?_
  refine eV rfl (hf _ (cX (by omega))) rfl ?_
  refine aD (aC ?_)
  refine cH rfl (fun hc2 => ?_) (fun hc2 => ?_)
  ·
   refine aE (aA (bF rfl (bZ rfl (aD (aC (az (ay (aQ (aQ ?_)))))))))
   refine ay (aQ (bR rfl rfl ?_))
   all_goals skip
   exact av rfl rfl (congrArg (Ty.int .i64) (hU (by omega) k.2 (by rw [← fk]; exact hc2)).symm)
  refine aj (bI (aC (aA ?_)))
  refine bq rfl rfl (by omega) (by omega) ?_
  refine bF rfl (aD ?_)
  refine bM (⟨k.1 + 1, by rw [cQ (by omega)]; intro x hx; rcases List.mem_append.1 hx with h | h; exact k.2 x h; rw [List.mem_singleton.1 h]; exact hc2⟩) ?_ (by show l.length - (k.1 + 1) < l.length - k.1; omega)
  (refine cg.mk' ?_ ?_ <;> (repeat' (first | exact aI | exact aH | refine aB ?_ (Ty.aT _) | refine aB ?_ (Ty.aF _))))
  all_goals skip
 refine bz (aP (aP (aa rfl (aC (aE (aA (bZ rfl (aD (aC ?_)))))))))
 refine az (bR rfl rfl ?_)
 all_goals skip
 exact av rfl rfl (congrArg (Ty.int .i64) (iU (by have := k.2; rwa [List.take_of_length_le (by omega)] at this)).symm)
set_option maxRecDepth 100000 in
theorem rO (l : List Int) (t : Ty) (h1 : t.one = true) (q : Int → Bool) (hd : t.deps = []) (hc : t.cdeps = []) (hf : ∀ x ∈ l, oS Tryz.prog t [Ty.int .i64 x] (Ty.bool (q x))) : dJ Tryz.prog 67 [Ty.sl cT l, t] (Ty.bool (l.any q)) := by
 refine ak Tryz.func67 rfl (by decide) Tryz.ntmps67 (by exact Nat.le_of_ble_eq_true rfl) fun w0 M0 => ?_
 refine aE (aA (cm rfl (aD (aC (aE (aA (eA rfl ?_)))))))
 refine eB (ty := t) rfl ?_
 refine af (oa l t h1 q hd hc hf) rfl (by exact bP rfl (bP hd rfl)) (by exact bG rfl (bG hc rfl)) rfl rfl ?_
 refine bB rfl rfl rfl (cm rfl (aD (aC (az (bR rfl rfl ?_)))))
 all_goals skip
 exact av rfl rfl (congrArg Ty.bool (oD q l))
set_option maxRecDepth 100000 in
theorem BX (x : Int) (t : Ty) (h1 : t.one = true) (b : Bool) (hd : t.deps = []) (hc : t.cdeps = []) (hf : oS Tryz.prog t [Ty.int .i64 x] (Ty.bool b)) : dJ Tryz.prog 170 [Ty.int .i64 x, Ty.pp [t]] (Ty.bool (!b)) := by
 refine ak Tryz.func170 rfl (by decide) Tryz.ntmps170 (by exact Nat.le_of_ble_eq_true rfl) fun w0 M0 => ?_
 refine aE (aA (cm rfl (aD (aC (aE (aA (aJ rfl rfl rfl rfl (bF rfl (eV rfl hf rfl ?_)))))))))
 refine dm rfl (cm rfl (aD (aC (az (bR rfl rfl ?_)))))
 all_goals exact cG rfl rfl
set_option maxRecDepth 100000 in
theorem DV (l : List Int) (t : Ty) (h1 : t.one = true) (q : Int → Bool) (hd : t.deps = []) (hc : t.cdeps = []) (hf : ∀ x ∈ l, oS Tryz.prog t [Ty.int .i64 x] (Ty.bool (q x))) : dJ Tryz.prog 109 [Ty.sl cT l, t] (Ty.bool (l.all q)) := by
 refine ak Tryz.func109 rfl (by decide) Tryz.ntmps109 (by exact Nat.le_of_ble_eq_true rfl) fun w0 M0 => ?_
 refine aE (aA ?_)
 refine gM (ty := t) rfl h1 ?_
 refine cm rfl (aD (aC (aE (aA (eA rfl (dK rfl ?_))))))
 refine af (rO l (Ty.jw _ [Ty.pp [t]]) rfl (fun x => !q x) (by exact bP (bP hd rfl) rfl) (by exact bG (bG hc rfl) rfl) fun x hx => dU (BX x t h1 (q x) hd hc (hf x hx)) rfl rfl (by exact bP (bP hd rfl) rfl) (by exact bG (bG hc rfl) rfl) rfl rfl) rfl (by exact bP rfl (bP (bP (bP hd rfl) rfl) rfl)) (by exact bG rfl (bG (bG (bG hc rfl) rfl) rfl)) rfl rfl ?_
 refine dm rfl (cm rfl (aD (aC (az (bR rfl rfl ?_)))))
 all_goals skip
 exact av rfl rfl (congrArg Ty.bool (qL q l))
set_option maxRecDepth 100000 in
theorem vX (l : List tC) (t : Ty) (h1 : t.one = true) (q : tC → Bool) (hd : t.deps = []) (hc : t.cdeps = []) (hf : ∀ x ∈ l, oS Tryz.prog t [Ty.agg (fN.tys x)] (Ty.bool (q x))) : dJ Tryz.prog 200 [Ty.sl fN l, t] (Ty.int .i64 (fidx q l)) := by
 refine ak Tryz.func200 rfl (by decide) Tryz.ntmps200 (by exact Nat.le_of_ble_eq_true rfl) fun w0 M0 => ?_
 refine gJ (s := 0) rfl rfl gK fun hl => ?_
 refine aE (aA (bZ rfl (aD (aC (aE (aE (aA (eA rfl (cD rfl rfl rfl ?_)))))))))
 refine bF rfl (aD (aC (aY ?_)))
 refine b9 (fun (k : {k : Nat // ∀ x ∈ l.take k, q x = false}) => live [(0, Ty.sl fN l), (1, t), (7, Ty.int .i64 l.length), (8, Ty.int .i64 (k.1 : Nat))] []) (fun k => l.length - k.1) (⟨0, by simp⟩) ?_ fun k => ?_
 ·(refine cg.mk' ?_ ?_ <;> (repeat' (first | exact aI | exact aH | refine aB ?_ (Ty.aT _) | refine aB ?_ (Ty.aF _))))
 refine aE (aA (bB rfl rfl rfl (aD (aC (aE ?_)))))
 refine ah rfl (fun hc1 => ?_) (fun hc1 => ?_)
 ·
  refine aj (aC (aE (aY (aE (aA (bF rfl (bZ rfl (aD (aC ?_)))))))))
  refine aE (aA ?_)
  refine eB (ty := t) rfl ?_
  refine eA rfl (bF rfl ?_)
  refine aq rfl rfl rfl rfl rfl rfl (by omega) ?_
  refine aX rfl rfl rfl (by exact Nat.le_of_ble_eq_true rfl) ?_
  refine eV rfl (hf _ (cX (by omega))) rfl ?_
  refine aD (aC ?_)
  refine cH rfl (fun hc2 => ?_) (fun hc2 => ?_)
  ·
   refine aE (aA (bF rfl (bZ rfl (aD (aC (az (ay (aQ (aQ ?_)))))))))
   refine ay (aQ (bR rfl rfl ?_))
   all_goals skip
   exact av rfl rfl (congrArg (Ty.int .i64) (hU (by omega) k.2 (by rw [← fk]; exact hc2)).symm)
  refine aj (bI (aC (aA ?_)))
  refine bq rfl rfl (by omega) (by omega) ?_
  refine bF rfl (aD ?_)
  refine bM (⟨k.1 + 1, by rw [cQ (by omega)]; intro x hx; rcases List.mem_append.1 hx with h | h; exact k.2 x h; rw [List.mem_singleton.1 h]; exact hc2⟩) ?_ (by show l.length - (k.1 + 1) < l.length - k.1; omega)
  (refine cg.mk' ?_ ?_ <;> (repeat' (first | exact aI | exact aH | refine aB ?_ (Ty.aT _) | refine aB ?_ (Ty.aF _))))
  all_goals skip
 refine bz (aP (aP (aa rfl (aC (aE (aA (bZ rfl (aD (aC ?_)))))))))
 refine az (bR rfl rfl ?_)
 all_goals skip
 exact av rfl rfl (congrArg (Ty.int .i64) (iU (by have := k.2; rwa [List.take_of_length_le (by omega)] at this)).symm)
set_option maxRecDepth 100000 in
theorem rS (l : List tC) (t : Ty) (h1 : t.one = true) (q : tC → Bool) (hd : t.deps = []) (hc : t.cdeps = []) (hf : ∀ x ∈ l, oS Tryz.prog t [Ty.agg (fN.tys x)] (Ty.bool (q x))) : dJ Tryz.prog 189 [Ty.sl fN l, t] (Ty.bool (l.any q)) := by
 refine ak Tryz.func189 rfl (by decide) Tryz.ntmps189 (by exact Nat.le_of_ble_eq_true rfl) fun w0 M0 => ?_
 refine aE (aA (cm rfl (aD (aC (aE (aA (eA rfl ?_)))))))
 refine eB (ty := t) rfl ?_
 refine af (vX l t h1 q hd hc hf) rfl (by exact bP rfl (bP hd rfl)) (by exact bG rfl (bG hc rfl)) rfl rfl ?_
 refine bB rfl rfl rfl (cm rfl (aD (aC (az (bR rfl rfl ?_)))))
 all_goals skip
 exact av rfl rfl (congrArg Ty.bool (oD q l))
set_option maxRecDepth 100000 in
theorem Ad (x : tC) (t : Ty) (h1 : t.one = true) (b : Bool) (hd : t.deps = []) (hc : t.cdeps = []) (hf : oS Tryz.prog t [Ty.agg (fN.tys x)] (Ty.bool b)) : dJ Tryz.prog 190 [Ty.agg (fN.tys x), Ty.pp [t]] (Ty.bool (!b)) := by
 refine ak Tryz.func190 rfl (by decide) Tryz.ntmps190 (by exact Nat.le_of_ble_eq_true rfl) fun w0 M0 => ?_
 refine aE (aA (bD rfl (cm rfl (aD (aC (aE (aA (aJ rfl rfl rfl rfl ?_))))))))
 refine aX rfl rfl rfl (by exact Nat.le_of_ble_eq_true rfl) ?_
 refine eV rfl hf rfl (dm rfl (cm rfl (aD (aC (az (bR rfl rfl ?_))))))
 all_goals exact cG rfl rfl
set_option maxRecDepth 100000 in
theorem vC (l : List tC) (t : Ty) (h1 : t.one = true) (q : tC → Bool) (hd : t.deps = []) (hc : t.cdeps = []) (hf : ∀ x ∈ l, oS Tryz.prog t [Ty.agg (fN.tys x)] (Ty.bool (q x))) : dJ Tryz.prog 143 [Ty.sl fN l, t] (Ty.bool (l.all q)) := by
 refine ak Tryz.func143 rfl (by decide) Tryz.ntmps143 (by exact Nat.le_of_ble_eq_true rfl) fun w0 M0 => ?_
 refine aE (aA ?_)
 refine gM (ty := t) rfl h1 ?_
 refine cm rfl (aD (aC (aE (aA (eA rfl (dK rfl ?_))))))
 refine af (rS l (Ty.jw _ [Ty.pp [t]]) rfl (fun x => !q x) (by exact bP (bP hd rfl) rfl) (by exact bG (bG hc rfl) rfl) fun x hx => dU (Ad x t h1 (q x) hd hc (hf x hx)) rfl rfl (by exact bP (bP hd rfl) rfl) (by exact bG (bG hc rfl) rfl) rfl rfl) rfl (by exact bP rfl (bP (bP (bP hd rfl) rfl) rfl)) (by exact bG rfl (bG (bG (bG hc rfl) rfl) rfl)) rfl rfl ?_
 refine dm rfl (cm rfl (aD (aC (az (bR rfl rfl ?_)))))
 all_goals skip
 exact av rfl rfl (congrArg Ty.bool (qL q l))
set_option maxRecDepth 100000 in
theorem vY (l : List Move) (t : Ty) (h1 : t.one = true) (q : Move → Bool) (hd : t.deps = []) (hc : t.cdeps = []) (hf : ∀ x ∈ l, oS Tryz.prog t [Ty.agg (eH.tys x)] (Ty.bool (q x))) : dJ Tryz.prog 92 [Ty.sl eH l, t] (Ty.int .i64 (fidx q l)) := by
 refine ak Tryz.func92 rfl (by decide) Tryz.ntmps92 (by exact Nat.le_of_ble_eq_true rfl) fun w0 M0 => ?_
 refine gJ (s := 0) rfl rfl gK fun hl => ?_
 refine aE (aA (bZ rfl (aD (aC (aE (aE (aA (eA rfl (cD rfl rfl rfl ?_)))))))))
 refine bF rfl (aD (aC (aY ?_)))
 refine b9 (fun (k : {k : Nat // ∀ x ∈ l.take k, q x = false}) => live [(0, Ty.sl eH l), (1, t), (7, Ty.int .i64 l.length), (8, Ty.int .i64 (k.1 : Nat))] []) (fun k => l.length - k.1) (⟨0, by simp⟩) ?_ fun k => ?_
 ·(refine cg.mk' ?_ ?_ <;> (repeat' (first | exact aI | exact aH | refine aB ?_ (Ty.aT _) | refine aB ?_ (Ty.aF _))))
 refine aE (aA (bB rfl rfl rfl (aD (aC (aE ?_)))))
 refine ah rfl (fun hc1 => ?_) (fun hc1 => ?_)
 ·
  refine aj (aC (aE (aY (aE (aA (bF rfl (bZ rfl (aD (aC ?_)))))))))
  refine aE (aA ?_)
  refine eB (ty := t) rfl ?_
  refine eA rfl (bF rfl ?_)
  refine aq rfl rfl rfl rfl rfl rfl (by omega) ?_
  refine aX rfl rfl rfl (by exact Nat.le_of_ble_eq_true rfl) ?_
  refine eV rfl (hf _ (cX (by omega))) rfl ?_
  refine aD (aC ?_)
  refine cH rfl (fun hc2 => ?_) (fun hc2 => ?_)
  ·
   refine aE (aA (bF rfl (bZ rfl (aD (aC (az (ay (aQ (aQ ?_)))))))))
   refine ay (aQ (bR rfl rfl ?_))
   all_goals skip
   exact av rfl rfl (congrArg (Ty.int .i64) (hU (by omega) k.2 (by rw [← fk]; exact hc2)).symm)
  refine aj (bI (aC (aA ?_)))
  refine bq rfl rfl (by omega) (by omega) ?_
  refine bF rfl (aD ?_)
  refine bM (⟨k.1 + 1, by rw [cQ (by omega)]; intro x hx; rcases List.mem_append.1 hx with h | h; exact k.2 x h; rw [List.mem_singleton.1 h]; exact hc2⟩) ?_ (by show l.length - (k.1 + 1) < l.length - k.1; omega)
  (refine cg.mk' ?_ ?_ <;> (repeat' (first | exact aI | exact aH | refine aB ?_ (Ty.aT _) | refine aB ?_ (Ty.aF _))))
  all_goals skip
 refine bz (aP (aP (aa rfl (aC (aE (aA (bZ rfl (aD (aC ?_)))))))))
 refine az (bR rfl rfl ?_)
 all_goals skip
 exact av rfl rfl (congrArg (Ty.int .i64) (iU (by have := k.2; rwa [List.take_of_length_le (by omega)] at this)).symm)
set_option maxRecDepth 100000 in
theorem ry (l : List Move) (t : Ty) (h1 : t.one = true) (q : Move → Bool) (hd : t.deps = []) (hc : t.cdeps = []) (hf : ∀ x ∈ l, oS Tryz.prog t [Ty.agg (eH.tys x)] (Ty.bool (q x))) : dJ Tryz.prog 23 [Ty.sl eH l, t] (Ty.bool (l.any q)) := by
 refine ak Tryz.func23 rfl (by decide) Tryz.ntmps23 (by exact Nat.le_of_ble_eq_true rfl) fun w0 M0 => ?_
 refine aE (aA (cm rfl (aD (aC (aE (aA (eA rfl ?_)))))))
 refine eB (ty := t) rfl ?_
 refine af (vY l t h1 q hd hc hf) rfl (by exact bP rfl (bP hd rfl)) (by exact bG rfl (bG hc rfl)) rfl rfl ?_
 refine bB rfl rfl rfl (cm rfl (aD (aC (az (bR rfl rfl ?_)))))
 all_goals skip
 exact av rfl rfl (congrArg Ty.bool (oD q l))
set_option maxRecDepth 100000 in
theorem BP (x : Move) (t : Ty) (h1 : t.one = true) (b : Bool) (hd : t.deps = []) (hc : t.cdeps = []) (hf : oS Tryz.prog t [Ty.agg (eH.tys x)] (Ty.bool b)) : dJ Tryz.prog 191 [Ty.agg (eH.tys x), Ty.pp [t]] (Ty.bool (!b)) := by
 refine ak Tryz.func191 rfl (by decide) Tryz.ntmps191 (by exact Nat.le_of_ble_eq_true rfl) fun w0 M0 => ?_
 refine aE (aA (bD rfl (cm rfl (aD (aC (aE (aA (aJ rfl rfl rfl rfl ?_))))))))
 refine aX rfl rfl rfl (by exact Nat.le_of_ble_eq_true rfl) ?_
 refine eV rfl hf rfl (dm rfl (cm rfl (aD (aC (az (bR rfl rfl ?_))))))
 all_goals exact cG rfl rfl
set_option maxRecDepth 100000 in
theorem mL (l : List Move) (t : Ty) (h1 : t.one = true) (q : Move → Bool) (hd : t.deps = []) (hc : t.cdeps = []) (hf : ∀ x ∈ l, oS Tryz.prog t [Ty.agg (eH.tys x)] (Ty.bool (q x))) : dJ Tryz.prog 146 [Ty.sl eH l, t] (Ty.bool (l.all q)) := by
 refine ak Tryz.func146 rfl (by decide) Tryz.ntmps146 (by exact Nat.le_of_ble_eq_true rfl) fun w0 M0 => ?_
 refine aE (aA ?_)
 refine gM (ty := t) rfl h1 ?_
 refine cm rfl (aD (aC (aE (aA (eA rfl (dK rfl ?_))))))
 refine af (ry l (Ty.jw _ [Ty.pp [t]]) rfl (fun x => !q x) (by exact bP (bP hd rfl) rfl) (by exact bG (bG hc rfl) rfl) fun x hx => dU (BP x t h1 (q x) hd hc (hf x hx)) rfl rfl (by exact bP (bP hd rfl) rfl) (by exact bG (bG hc rfl) rfl) rfl rfl) rfl (by exact bP rfl (bP (bP (bP hd rfl) rfl) rfl)) (by exact bG rfl (bG (bG (bG hc rfl) rfl) rfl)) rfl rfl ?_
 refine dm rfl (cm rfl (aD (aC (az (bR rfl rfl ?_)))))
 all_goals skip
 exact av rfl rfl (congrArg Ty.bool (qL q l))
set_option maxRecDepth 100000 in
theorem vV (l : List Level) (t : Ty) (h1 : t.one = true) (q : Level → Bool) (hd : t.deps = []) (hc : t.cdeps = []) (hf : ∀ x ∈ l, oS Tryz.prog t [Ty.agg (dX.tys x)] (Ty.bool (q x))) : dJ Tryz.prog 163 [Ty.sl dX l, t] (Ty.int .i64 (fidx q l)) := by
 refine ak Tryz.func163 rfl (by decide) Tryz.ntmps163 (by exact Nat.le_of_ble_eq_true rfl) fun w0 M0 => ?_
 refine gJ (s := 0) rfl rfl gK fun hl => ?_
 refine aE (aA (bZ rfl (aD (aC (aE (aE (aA (eA rfl (cD rfl rfl rfl ?_)))))))))
 refine bF rfl (aD (aC (aY ?_)))
 refine b9 (fun (k : {k : Nat // ∀ x ∈ l.take k, q x = false}) => live [(0, Ty.sl dX l), (1, t), (7, Ty.int .i64 l.length), (8, Ty.int .i64 (k.1 : Nat))] []) (fun k => l.length - k.1) (⟨0, by simp⟩) ?_ fun k => ?_
 ·(refine cg.mk' ?_ ?_ <;> (repeat' (first | exact aI | exact aH | refine aB ?_ (Ty.aT _) | refine aB ?_ (Ty.aF _))))
 refine aE (aA (bB rfl rfl rfl (aD (aC (aE ?_)))))
 refine ah rfl (fun hc1 => ?_) (fun hc1 => ?_)
 ·
  refine aj (aC (aE (aY (aE (aA (bF rfl (bZ rfl (aD (aC ?_)))))))))
  refine aE (aA ?_)
  refine eB (ty := t) rfl ?_
  refine eA rfl (bF rfl ?_)
  refine aq rfl rfl rfl rfl rfl rfl (by omega) ?_
  refine aX rfl rfl rfl (by exact Nat.le_of_ble_eq_true rfl) ?_
  refine eV rfl (hf _ (cX (by omega))) rfl ?_
  refine aD (aC ?_)
  refine cH rfl (fun hc2 => ?_) (fun hc2 => ?_)
  ·
   refine aE (aA (bF rfl (bZ rfl (aD (aC (az (ay (aQ (aQ ?_)))))))))
   refine ay (aQ (bR rfl rfl ?_))
   all_goals skip
   exact av rfl rfl (congrArg (Ty.int .i64) (hU (by omega) k.2 (by rw [← fk]; exact hc2)).symm)
  refine aj (bI (aC (aA ?_)))
  refine bq rfl rfl (by omega) (by omega) ?_
  refine bF rfl (aD ?_)
  refine bM (⟨k.1 + 1, by rw [cQ (by omega)]; intro x hx; rcases List.mem_append.1 hx with h | h; exact k.2 x h; rw [List.mem_singleton.1 h]; exact hc2⟩) ?_ (by show l.length - (k.1 + 1) < l.length - k.1; omega)
  (refine cg.mk' ?_ ?_ <;> (repeat' (first | exact aI | exact aH | refine aB ?_ (Ty.aT _) | refine aB ?_ (Ty.aF _))))
  all_goals skip
 refine bz (aP (aP (aa rfl (aC (aE (aA (bZ rfl (aD (aC ?_)))))))))
 refine az (bR rfl rfl ?_)
 all_goals skip
 exact av rfl rfl (congrArg (Ty.int .i64) (iU (by have := k.2; rwa [List.take_of_length_le (by omega)] at this)).symm)
set_option maxRecDepth 100000 in
theorem rN (l : List Level) (t : Ty) (h1 : t.one = true) (q : Level → Bool) (hd : t.deps = []) (hc : t.cdeps = []) (hf : ∀ x ∈ l, oS Tryz.prog t [Ty.agg (dX.tys x)] (Ty.bool (q x))) : dJ Tryz.prog 84 [Ty.sl dX l, t] (Ty.bool (l.any q)) := by
 refine ak Tryz.func84 rfl (by decide) Tryz.ntmps84 (by exact Nat.le_of_ble_eq_true rfl) fun w0 M0 => ?_
 refine aE (aA (cm rfl (aD (aC (aE (aA (eA rfl ?_)))))))
 refine eB (ty := t) rfl ?_
 refine af (vV l t h1 q hd hc hf) rfl (by exact bP rfl (bP hd rfl)) (by exact bG rfl (bG hc rfl)) rfl rfl ?_
 refine bB rfl rfl rfl (cm rfl (aD (aC (az (bR rfl rfl ?_)))))
 all_goals skip
 exact av rfl rfl (congrArg Ty.bool (oD q l))
set_option maxRecDepth 100000 in
theorem BU (x : Level) (t : Ty) (h1 : t.one = true) (b : Bool) (hd : t.deps = []) (hc : t.cdeps = []) (hf : oS Tryz.prog t [Ty.agg (dX.tys x)] (Ty.bool b)) : dJ Tryz.prog 192 [Ty.agg (dX.tys x), Ty.pp [t]] (Ty.bool (!b)) := by
 refine ak Tryz.func192 rfl (by decide) Tryz.ntmps192 (by exact Nat.le_of_ble_eq_true rfl) fun w0 M0 => ?_
 refine aE (aA (bD rfl (cm rfl (aD (aC (aE (aA (aJ rfl rfl rfl rfl ?_))))))))
 refine aX rfl rfl rfl (by exact Nat.le_of_ble_eq_true rfl) ?_
 refine eV rfl hf rfl (dm rfl (cm rfl (aD (aC (az (bR rfl rfl ?_))))))
 all_goals exact cG rfl rfl
set_option maxRecDepth 100000 in
theorem pU (l : List Level) (t : Ty) (h1 : t.one = true) (q : Level → Bool) (hd : t.deps = []) (hc : t.cdeps = []) (hf : ∀ x ∈ l, oS Tryz.prog t [Ty.agg (dX.tys x)] (Ty.bool (q x))) : dJ Tryz.prog 148 [Ty.sl dX l, t] (Ty.bool (l.all q)) := by
 refine ak Tryz.func148 rfl (by decide) Tryz.ntmps148 (by exact Nat.le_of_ble_eq_true rfl) fun w0 M0 => ?_
 refine aE (aA ?_)
 refine gM (ty := t) rfl h1 ?_
 refine cm rfl (aD (aC (aE (aA (eA rfl (dK rfl ?_))))))
 refine af (rN l (Ty.jw _ [Ty.pp [t]]) rfl (fun x => !q x) (by exact bP (bP hd rfl) rfl) (by exact bG (bG hc rfl) rfl) fun x hx => dU (BU x t h1 (q x) hd hc (hf x hx)) rfl rfl (by exact bP (bP hd rfl) rfl) (by exact bG (bG hc rfl) rfl) rfl rfl) rfl (by exact bP rfl (bP (bP (bP hd rfl) rfl) rfl)) (by exact bG rfl (bG (bG (bG hc rfl) rfl) rfl)) rfl rfl ?_
 refine dm rfl (cm rfl (aD (aC (az (bR rfl rfl ?_)))))
 all_goals skip
 exact av rfl rfl (congrArg Ty.bool (qL q l))
set_option maxRecDepth 100000 in
theorem vU (l : List Be) (t : Ty) (h1 : t.one = true) (q : Be → Bool) (hd : t.deps = []) (hc : t.cdeps = []) (hf : ∀ x ∈ l, oS Tryz.prog t [Ty.agg (ru.tys x)] (Ty.bool (q x))) : dJ Tryz.prog 199 [Ty.sl ru l, t] (Ty.int .i64 (fidx q l)) := by
 refine ak Tryz.func199 rfl (by decide) Tryz.ntmps199 (by exact Nat.le_of_ble_eq_true rfl) fun w0 M0 => ?_
 refine gJ (s := 0) rfl rfl gK fun hl => ?_
 refine aE (aA (bZ rfl (aD (aC (aE (aE (aA (eA rfl (cD rfl rfl rfl ?_)))))))))
 refine bF rfl (aD (aC (aY ?_)))
 refine b9 (fun (k : {k : Nat // ∀ x ∈ l.take k, q x = false}) => live [(0, Ty.sl ru l), (1, t), (7, Ty.int .i64 l.length), (8, Ty.int .i64 (k.1 : Nat))] []) (fun k => l.length - k.1) (⟨0, by simp⟩) ?_ fun k => ?_
 ·(refine cg.mk' ?_ ?_ <;> (repeat' (first | exact aI | exact aH | refine aB ?_ (Ty.aT _) | refine aB ?_ (Ty.aF _))))
 refine aE (aA (bB rfl rfl rfl (aD (aC (aE ?_)))))
 refine ah rfl (fun hc1 => ?_) (fun hc1 => ?_)
 ·
  refine aj (aC (aE (aY (aE (aA (bF rfl (bZ rfl (aD (aC ?_)))))))))
  refine aE (aA ?_)
  refine eB (ty := t) rfl ?_
  refine eA rfl (bF rfl ?_)
  refine aq rfl rfl rfl rfl rfl rfl (by omega) ?_
  refine aX rfl rfl rfl (by exact Nat.le_of_ble_eq_true rfl) ?_
  refine eV rfl (hf _ (cX (by omega))) rfl ?_
  refine aD (aC ?_)
  refine cH rfl (fun hc2 => ?_) (fun hc2 => ?_)
  ·
   refine aE (aA (bF rfl (bZ rfl (aD (aC (az (ay (aQ (aQ ?_)))))))))
   refine ay (aQ (bR rfl rfl ?_))
   all_goals skip
   exact av rfl rfl (congrArg (Ty.int .i64) (hU (by omega) k.2 (by rw [← fk]; exact hc2)).symm)
  refine aj (bI (aC (aA ?_)))
  refine bq rfl rfl (by omega) (by omega) ?_
  refine bF rfl (aD ?_)
  refine bM (⟨k.1 + 1, by rw [cQ (by omega)]; intro x hx; rcases List.mem_append.1 hx with h | h; exact k.2 x h; rw [List.mem_singleton.1 h]; exact hc2⟩) ?_ (by show l.length - (k.1 + 1) < l.length - k.1; omega)
  (refine cg.mk' ?_ ?_ <;> (repeat' (first | exact aI | exact aH | refine aB ?_ (Ty.aT _) | refine aB ?_ (Ty.aF _))))
  all_goals skip
 refine bz (aP (aP (aa rfl (aC (aE (aA (bZ rfl (aD (aC ?_)))))))))
 refine az (bR rfl rfl ?_)
 all_goals skip
 exact av rfl rfl (congrArg (Ty.int .i64) (iU (by have := k.2; rwa [List.take_of_length_le (by omega)] at this)).symm)
set_option maxRecDepth 100000 in
theorem mB (l : List Be) (t : Ty) (h1 : t.one = true) (q : Be → Bool) (hd : t.deps = []) (hc : t.cdeps = []) (hf : ∀ x ∈ l, oS Tryz.prog t [Ty.agg (ru.tys x)] (Ty.bool (q x))) : dJ Tryz.prog 185 [Ty.sl ru l, t] (Ty.bool (l.any q)) := by
 refine ak Tryz.func185 rfl (by decide) Tryz.ntmps185 (by exact Nat.le_of_ble_eq_true rfl) fun w0 M0 => ?_
 refine aE (aA (cm rfl (aD (aC (aE (aA (eA rfl ?_)))))))
 refine eB (ty := t) rfl ?_
 refine af (vU l t h1 q hd hc hf) rfl (by exact bP rfl (bP hd rfl)) (by exact bG rfl (bG hc rfl)) rfl rfl ?_
 refine bB rfl rfl rfl (cm rfl (aD (aC (az (bR rfl rfl ?_)))))
 all_goals skip
 exact av rfl rfl (congrArg Ty.bool (oD q l))
set_option maxRecDepth 100000 in
theorem AY (x : Be) (t : Ty) (h1 : t.one = true) (b : Bool) (hd : t.deps = []) (hc : t.cdeps = []) (hf : oS Tryz.prog t [Ty.agg (ru.tys x)] (Ty.bool b)) : dJ Tryz.prog 186 [Ty.agg (ru.tys x), Ty.pp [t]] (Ty.bool (!b)) := by
 refine ak Tryz.func186 rfl (by decide) Tryz.ntmps186 (by exact Nat.le_of_ble_eq_true rfl) fun w0 M0 => ?_
 refine aE (aA (bD rfl (cm rfl (aD (aC (aE (aA (aJ rfl rfl rfl rfl ?_))))))))
 refine aX rfl rfl rfl (by exact Nat.le_of_ble_eq_true rfl) ?_
 refine eV rfl hf rfl (dm rfl (cm rfl (aD (aC (az (bR rfl rfl ?_))))))
 all_goals exact cG rfl rfl
set_option maxRecDepth 100000 in
theorem DE (l : List Be) (t : Ty) (h1 : t.one = true) (q : Be → Bool) (hd : t.deps = []) (hc : t.cdeps = []) (hf : ∀ x ∈ l, oS Tryz.prog t [Ty.agg (ru.tys x)] (Ty.bool (q x))) : dJ Tryz.prog 133 [Ty.sl ru l, t] (Ty.bool (l.all q)) := by
 refine ak Tryz.func133 rfl (by decide) Tryz.ntmps133 (by exact Nat.le_of_ble_eq_true rfl) fun w0 M0 => ?_
 refine aE (aA ?_)
 refine gM (ty := t) rfl h1 ?_
 refine cm rfl (aD (aC (aE (aA (eA rfl (dK rfl ?_))))))
 refine af (mB l (Ty.jw _ [Ty.pp [t]]) rfl (fun x => !q x) (by exact bP (bP hd rfl) rfl) (by exact bG (bG hc rfl) rfl) fun x hx => dU (AY x t h1 (q x) hd hc (hf x hx)) rfl rfl (by exact bP (bP hd rfl) rfl) (by exact bG (bG hc rfl) rfl) rfl rfl) rfl (by exact bP rfl (bP (bP (bP hd rfl) rfl) rfl)) (by exact bG rfl (bG (bG (bG hc rfl) rfl) rfl)) rfl rfl ?_
 refine dm rfl (cm rfl (aD (aC (az (bR rfl rfl ?_)))))
 all_goals skip
 exact av rfl rfl (congrArg Ty.bool (qL q l))
set_option maxRecDepth 100000 in
theorem vT (l : List cB) (t : Ty) (h1 : t.one = true) (q : cB → Bool) (hd : t.deps = []) (hc : t.cdeps = []) (hf : ∀ x ∈ l, oS Tryz.prog t [Ty.agg (dn.tys x)] (Ty.bool (q x))) : dJ Tryz.prog 203 [Ty.sl dn l, t] (Ty.int .i64 (fidx q l)) := by
 refine ak Tryz.func203 rfl (by decide) Tryz.ntmps203 (by exact Nat.le_of_ble_eq_true rfl) fun w0 M0 => ?_
 refine gJ (s := 0) rfl rfl gK fun hl => ?_
 refine aE (aA (bZ rfl (aD (aC (aE (aE (aA (eA rfl (cD rfl rfl rfl ?_)))))))))
 refine bF rfl (aD (aC (aY ?_)))
 refine b9 (fun (k : {k : Nat // ∀ x ∈ l.take k, q x = false}) => live [(0, Ty.sl dn l), (1, t), (7, Ty.int .i64 l.length), (8, Ty.int .i64 (k.1 : Nat))] []) (fun k => l.length - k.1) (⟨0, by simp⟩) ?_ fun k => ?_
 ·(refine cg.mk' ?_ ?_ <;> (repeat' (first | exact aI | exact aH | refine aB ?_ (Ty.aT _) | refine aB ?_ (Ty.aF _))))
 refine aE (aA (bB rfl rfl rfl (aD (aC (aE ?_)))))
 refine ah rfl (fun hc1 => ?_) (fun hc1 => ?_)
 ·
  refine aj (aC (aE (aY (aE (aA (bF rfl (bZ rfl (aD (aC ?_)))))))))
  refine aE (aA ?_)
  refine eB (ty := t) rfl ?_
  refine eA rfl (bF rfl ?_)
  refine aq rfl rfl rfl rfl rfl rfl (by omega) ?_
  refine aX rfl rfl rfl (by exact Nat.le_of_ble_eq_true rfl) ?_
  refine eV rfl (hf _ (cX (by omega))) rfl ?_
  refine aD (aC ?_)
  refine cH rfl (fun hc2 => ?_) (fun hc2 => ?_)
  ·
   refine aE (aA (bF rfl (bZ rfl (aD (aC (az (ay (aQ (aQ ?_)))))))))
   refine ay (aQ (bR rfl rfl ?_))
   all_goals skip
   exact av rfl rfl (congrArg (Ty.int .i64) (hU (by omega) k.2 (by rw [← fk]; exact hc2)).symm)
  refine aj (bI (aC (aA ?_)))
  refine bq rfl rfl (by omega) (by omega) ?_
  refine bF rfl (aD ?_)
  refine bM (⟨k.1 + 1, by rw [cQ (by omega)]; intro x hx; rcases List.mem_append.1 hx with h | h; exact k.2 x h; rw [List.mem_singleton.1 h]; exact hc2⟩) ?_ (by show l.length - (k.1 + 1) < l.length - k.1; omega)
  (refine cg.mk' ?_ ?_ <;> (repeat' (first | exact aI | exact aH | refine aB ?_ (Ty.aT _) | refine aB ?_ (Ty.aF _))))
  all_goals skip
 refine bz (aP (aP (aa rfl (aC (aE (aA (bZ rfl (aD (aC ?_)))))))))
 refine az (bR rfl rfl ?_)
 all_goals skip
 exact av rfl rfl (congrArg (Ty.int .i64) (iU (by have := k.2; rwa [List.take_of_length_le (by omega)] at this)).symm)
set_option maxRecDepth 100000 in
theorem rR (l : List cB) (t : Ty) (h1 : t.one = true) (q : cB → Bool) (hd : t.deps = []) (hc : t.cdeps = []) (hf : ∀ x ∈ l, oS Tryz.prog t [Ty.agg (dn.tys x)] (Ty.bool (q x))) : dJ Tryz.prog 197 [Ty.sl dn l, t] (Ty.bool (l.any q)) := by
 refine ak Tryz.func197 rfl (by decide) Tryz.ntmps197 (by exact Nat.le_of_ble_eq_true rfl) fun w0 M0 => ?_
 refine aE (aA (cm rfl (aD (aC (aE (aA (eA rfl ?_)))))))
 refine eB (ty := t) rfl ?_
 refine af (vT l t h1 q hd hc hf) rfl (by exact bP rfl (bP hd rfl)) (by exact bG rfl (bG hc rfl)) rfl rfl ?_
 refine bB rfl rfl rfl (cm rfl (aD (aC (az (bR rfl rfl ?_)))))
 all_goals skip
 exact av rfl rfl (congrArg Ty.bool (oD q l))
set_option maxRecDepth 100000 in
theorem BN (x : cB) (t : Ty) (h1 : t.one = true) (b : Bool) (hd : t.deps = []) (hc : t.cdeps = []) (hf : oS Tryz.prog t [Ty.agg (dn.tys x)] (Ty.bool b)) : dJ Tryz.prog 198 [Ty.agg (dn.tys x), Ty.pp [t]] (Ty.bool (!b)) := by
 refine ak Tryz.func198 rfl (by decide) Tryz.ntmps198 (by exact Nat.le_of_ble_eq_true rfl) fun w0 M0 => ?_
 refine aE (aA (bD rfl (cm rfl (aD (aC (aE (aA (aJ rfl rfl rfl rfl ?_))))))))
 refine aX rfl rfl rfl (by exact Nat.le_of_ble_eq_true rfl) ?_
 refine eV rfl hf rfl (dm rfl (cm rfl (aD (aC (az (bR rfl rfl ?_))))))
 all_goals exact cG rfl rfl
set_option maxRecDepth 100000 in
theorem Cv (l : List cB) (t : Ty) (h1 : t.one = true) (q : cB → Bool) (hd : t.deps = []) (hc : t.cdeps = []) (hf : ∀ x ∈ l, oS Tryz.prog t [Ty.agg (dn.tys x)] (Ty.bool (q x))) : dJ Tryz.prog 176 [Ty.sl dn l, t] (Ty.bool (l.all q)) := by
 refine ak Tryz.func176 rfl (by decide) Tryz.ntmps176 (by exact Nat.le_of_ble_eq_true rfl) fun w0 M0 => ?_
 refine aE (aA ?_)
 refine gM (ty := t) rfl h1 ?_
 refine cm rfl (aD (aC (aE (aA (eA rfl (dK rfl ?_))))))
 refine af (rR l (Ty.jw _ [Ty.pp [t]]) rfl (fun x => !q x) (by exact bP (bP hd rfl) rfl) (by exact bG (bG hc rfl) rfl) fun x hx => dU (BN x t h1 (q x) hd hc (hf x hx)) rfl rfl (by exact bP (bP hd rfl) rfl) (by exact bG (bG hc rfl) rfl) rfl rfl) rfl (by exact bP rfl (bP (bP (bP hd rfl) rfl) rfl)) (by exact bG rfl (bG (bG (bG hc rfl) rfl) rfl)) rfl rfl ?_
 refine dm rfl (cm rfl (aD (aC (az (bR rfl rfl ?_)))))
 all_goals skip
 exact av rfl rfl (congrArg Ty.bool (qL q l))
set_option maxRecDepth 100000 in
theorem vS (l : List Span) (t : Ty) (h1 : t.one = true) (q : Span → Bool) (hd : t.deps = []) (hc : t.cdeps = []) (hf : ∀ x ∈ l, oS Tryz.prog t [Ty.agg (bw.tys x)] (Ty.bool (q x))) : dJ Tryz.prog 38 [Ty.sl bw l, t] (Ty.int .i64 (fidx q l)) := by
 refine ak Tryz.func38 rfl (by decide) Tryz.ntmps38 (by exact Nat.le_of_ble_eq_true rfl) fun w0 M0 => ?_
 refine gJ (s := 0) rfl rfl gK fun hl => ?_
 refine aE (aA (bZ rfl (aD (aC (aE (aE (aA (eA rfl (cD rfl rfl rfl ?_)))))))))
 refine bF rfl (aD (aC (aY ?_)))
 refine b9 (fun (k : {k : Nat // ∀ x ∈ l.take k, q x = false}) => live [(0, Ty.sl bw l), (1, t), (7, Ty.int .i64 l.length), (8, Ty.int .i64 (k.1 : Nat))] []) (fun k => l.length - k.1) (⟨0, by simp⟩) ?_ fun k => ?_
 ·(refine cg.mk' ?_ ?_ <;> (repeat' (first | exact aI | exact aH | refine aB ?_ (Ty.aT _) | refine aB ?_ (Ty.aF _))))
 refine aE (aA (bB rfl rfl rfl (aD (aC (aE ?_)))))
 refine ah rfl (fun hc1 => ?_) (fun hc1 => ?_)
 ·
  refine aj (aC (aE (aY (aE (aA (bF rfl (bZ rfl (aD (aC ?_)))))))))
  refine aE (aA ?_)
  refine eB (ty := t) rfl ?_
  refine eA rfl (bF rfl ?_)
  refine aq rfl rfl rfl rfl rfl rfl (by omega) ?_
  refine aX rfl rfl rfl (by exact Nat.le_of_ble_eq_true rfl) ?_
  refine eV rfl (hf _ (cX (by omega))) rfl ?_
  refine aD (aC ?_)
  refine cH rfl (fun hc2 => ?_) (fun hc2 => ?_)
  ·
   refine aE (aA (bF rfl (bZ rfl (aD (aC (az (ay (aQ (aQ ?_)))))))))
   refine ay (aQ (bR rfl rfl ?_))
   all_goals skip
   exact av rfl rfl (congrArg (Ty.int .i64) (hU (by omega) k.2 (by rw [← fk]; exact hc2)).symm)
  refine aj (bI (aC (aA ?_)))
  refine bq rfl rfl (by omega) (by omega) ?_
  refine bF rfl (aD ?_)
  refine bM (⟨k.1 + 1, by rw [cQ (by omega)]; intro x hx; rcases List.mem_append.1 hx with h | h; exact k.2 x h; rw [List.mem_singleton.1 h]; exact hc2⟩) ?_ (by show l.length - (k.1 + 1) < l.length - k.1; omega)
  (refine cg.mk' ?_ ?_ <;> (repeat' (first | exact aI | exact aH | refine aB ?_ (Ty.aT _) | refine aB ?_ (Ty.aF _))))
  all_goals skip
 refine bz (aP (aP (aa rfl (aC (aE (aA (bZ rfl (aD (aC ?_)))))))))
 refine az (bR rfl rfl ?_)
 all_goals skip
 exact av rfl rfl (congrArg (Ty.int .i64) (iU (by have := k.2; rwa [List.take_of_length_le (by omega)] at this)).symm)
end Go.Proofs.YtelbollidfdcjaaGreat
