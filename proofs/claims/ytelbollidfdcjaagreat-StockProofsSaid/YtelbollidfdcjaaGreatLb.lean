/- Lemmas: the program and the reference walked, plain laws. -/
import Derived.Test.YtelbollidfdcjaaGreatLa
namespace Go.Proofs.YtelbollidfdcjaaGreat
open Go Go.T
section
variable {fl : List cB} {a : List Int} {n : Nat} {w u : Way} {c x y z by_ : Int}
def Cf (fl : List cB) (a : List Int) (c : Int) (i : Nat) : List Way := (if nth a i < (nth fl i).hi ∧ (nth fl i).src = c then [⟨i, true⟩] else []) ++ (if nth a i > (nth fl i).lo ∧ (nth fl i).dst = c then [⟨i, false⟩] else [])
def bP (fl : List cB) (a : List Int) (c : Int) : List Way := (List.range fl.length).flatMap (Cf fl a c)
theorem nr : w ∈ bP fl a c ↔ Open fl a w ∧ w.iH fl = c := by
  unfold bP Cf Open Way.room Way.iH
  rw [List.mem_flatMap]
  constructor
  · rintro ⟨i, hi, h⟩
    rw [List.mem_range] at hi
    rcases List.mem_append.1 h with h | h
    · split at h
      · rename_i hc; rw [List.mem_singleton.1 h]; exact ⟨⟨hi, by simp only [if_true]; omega⟩, hc.2⟩
      · cases h
    · split at h
      · rename_i hc; rw [List.mem_singleton.1 h]; exact ⟨⟨hi, by simp only [Bool.false_eq_true, if_false]; omega⟩, hc.2⟩
      · cases h
  · rintro ⟨⟨h1, h2⟩, h3⟩
    refine ⟨w.ix, List.mem_range.2 h1, ?_⟩
    obtain ⟨i, m⟩ := w
    cases m with
    | true =>
      simp only [if_true] at h2 h3
      refine List.mem_append.2 (.inl ?_)
      rw [if_pos ⟨by show nth a i < (nth fl i).hi; have : 0 < (nth fl i).hi - nth a i := h2; omega, h3⟩]; exact List.mem_singleton.2 rfl
    | false =>
      simp only [Bool.false_eq_true, if_false] at h2 h3
      refine List.mem_append.2 (.inr ?_)
      rw [if_pos ⟨by show nth a i > (nth fl i).lo; have : 0 < nth a i - (nth fl i).lo := h2; omega, h3⟩]; exact List.mem_singleton.2 rfl
theorem Cz (i : Nat) : (Cf fl a c i).length ≤ 2 := by
 unfold Cf; split <;> split <;> simp
theorem qE : (bP fl a c).length ≤ 2 * fl.length := by
  have key : ∀ n, ((List.range n).flatMap (Cf fl a c)).length ≤ 2 * n := by
    intro n
    induction n with
    | zero => simp
    | succ n ih => rw [List.range_succ, List.flatMap_append, List.length_append, List.flatMap_singleton]; have := Cz (fl := fl) (a := a) (c := c) n; omega
  exact key _
theorem Net.way (hN : Net fl n) (h : w.ix < fl.length) : (0 ≤ w.iH fl ∧ w.iH fl < n) ∧ (0 ≤ w.fin fl ∧ w.fin fl < n) ∧ w.iH fl ≠ w.fin fl := by
 unfold Way.iH Way.fin
 have h1 := hN.src _ h
 have h2 := hN.dst _ h
 have h3 := hN.ne _ h
 cases w.more <;> simp <;> omega
def yc (w : Way) (k : Int) : Int := if w.more then k else -k
def lu (a : List Int) (w : Way) (k : Int) : List Int := a.set w.ix (nth a w.ix + yc w k)
def eD (a : List Int) (l : List Way) (k : Int) : List Int := l.foldl (fun a w => lu a w k) a
theorem qc (k : Int) : (lu a w k).length = a.length := List.length_set
theorem uA (k : Int) : ∀ (l : List Way) (a : List Int), (eD a l k).length = a.length
  | [], _ => rfl
  | w :: l, a => (uA k l (lu a w k)).trans (qc k)
theorem sH (l : List Way) (k : Int) : eD a (l ++ [w]) k = lu (eD a l k) w k := by unfold eD; rw [List.foldl_append]; rfl
theorem kg (h : w.ix < a.length) (i : Nat) (k : Int) : nth (lu a w k) i = if w.ix = i then nth a i + yc w k else nth a i := by
 unfold lu
 by_cases e : i < a.length
 ·rw [kE e]; split
  ·rename_i e; subst e; rfl
  rfl
 rw [if_neg (by omega)]
 have h1 : (a.set w.ix (nth a w.ix + yc w k))[i]? = none := List.getElem?_eq_none (by rw [List.length_set]; omega)
 have h2 : a[i]? = none := List.getElem?_eq_none (by omega)
 unfold nth at *
 simp only [List.getD_eq_getElem?_getD] at *
 rw [h1, h2]
theorem Ed (hl : a.length = fl.length) (h : w.ix < fl.length) (k : Int) (c : Int) : over fl (lu a w k) c = over fl a c + (ind (w.fin fl = c) - ind (w.iH fl = c)) * k := by
  unfold over
  have e : cw (fun i => (ind ((nth fl i).dst = c) - ind ((nth fl i).src = c)) * nth (lu a w k) i) fl.length - cw (fun i => (ind ((nth fl i).dst = c) - ind ((nth fl i).src = c)) * nth a i) fl.length = (ind (w.fin fl = c) - ind (w.iH fl = c)) * k := by
    rw [← kI, kG h fun i _ hn => by rw [kg (by omega), if_neg (fun e => hn e.symm)]; omega]
    rw [kg (by omega), if_pos rfl, ← Int.mul_sub, show nth a w.ix + yc w k - nth a w.ix = yc w k by omega]
    unfold yc Way.fin Way.iH
    cases w.more with
    | true => simp
    | false => simp only [Bool.false_eq_true, if_false]; rw [Int.mul_neg, ← Int.neg_mul, Int.neg_sub]
  omega
def Trail (fl : List cB) : List Way → Int → Int → Prop
  | [], x, y => x = y
  | w :: l, x, y => w.fin fl = x ∧ Trail fl l (w.iH fl) y
theorem uT (hl : a.length = fl.length) (k : Int) : ∀ (l : List Way) (a : List Int) (x y : Int), a.length = fl.length → (∀ w ∈ l, w.ix < fl.length) → Trail fl l x y → ∀ c, over fl (eD a l k) c = over fl a c + (ind (x = c) - ind (y = c)) * k
  | [], a, x, y, _, _, h, c => by obtain rfl : x = y := h; simp [eD]
  | w :: l, a, x, y, ha, hw, h, c => by
    show over fl (eD (lu a w k) l k) c = _
    rw [uT hl k l _ (w.iH fl) y (by rw [qc]; exact ha) (fun u hu => hw u (List.mem_cons_of_mem _ hu)) h.2, Ed ha (hw w List.mem_cons_self), h.1]
    rw [Int.add_assoc, ← Int.add_mul]
    congr 2; omega
theorem HE (hl : a.length = fl.length) (hw : w.ix < fl.length) {k : Int} (hk : 0 ≤ k) (hne : u ≠ w) : u.room fl a ≤ u.room fl (lu a w k) := by
 unfold Way.room
 rw [kg (by omega)]
 by_cases e : w.ix = u.ix
 ·rw [if_pos e]
  have hm : u.more ≠ w.more := fun h => hne (by cases u; cases w; simp_all)
  unfold yc
  revert hm
  cases u.more <;> cases w.more <;> simp <;> omega
 rw [if_neg e]; exact Int.le_refl _
theorem Hl (h : ya fl a) (hw : w.ix < fl.length) {k : Int} (hk : 0 ≤ k) (hr : k ≤ w.room fl a) : ya fl (lu a w k) := by
 refine ⟨by rw [qc]; exact h.1, fun i hi => ?_⟩
 have hb := h.2 i hi
 have hl := h.1
 rw [kg (by omega)]
 split
 ·rename_i e; subst e
  unfold Way.room at hr; unfold yc
  revert hr
  cases w.more <;> simp <;> omega
 exact hb
theorem xK {k : Int} (hk : 0 ≤ k) : ∀ (l : List Way) (a : List Int), ya fl a → l.Nodup → (∀ w ∈ l, w.ix < fl.length ∧ k ≤ w.room fl a) → ya fl (eD a l k)
  | [], _, h, _, _ => h
  | w :: l, a, h, hn, hw => by
    rw [List.nodup_cons] at hn
    have h0 := hw w List.mem_cons_self
    refine xK hk l _ (Hl h h0.1 hk h0.2) hn.2 fun u hu => ?_
    have h1 := hw u (List.mem_cons_of_mem _ hu)
    exact ⟨h1.1, Int.le_trans h1.2 (HE h.1 h0.1 hk fun e => hn.1 (by rw [← e]; exact hu))⟩
theorem CD (hl : a.length = fl.length) (h : w.ix < fl.length) (g : Nat → Int) (k : Int) : cw (fun i => g i * nth (lu a w k) i) fl.length = cw (fun i => g i * nth a i) fl.length + yc w (g w.ix) * k := by
  have e : cw (fun i => g i * nth (lu a w k) i) fl.length - cw (fun i => g i * nth a i) fl.length = yc w (g w.ix) * k := by
    rw [← kI, kG h fun i _ hn => by rw [kg (by omega), if_neg (fun e => hn e.symm)]; omega]
    rw [kg (by omega), if_pos rfl, ← Int.mul_sub, show nth a w.ix + yc w k - nth a w.ix = yc w k by omega]
    unfold yc
    cases w.more with
    | true => simp
    | false => simp only [Bool.false_eq_true, if_false]; rw [Int.mul_neg, Int.neg_mul]
  omega
def x6 (g : Nat → Int) (l : List Way) : Int := (l.map fun w => yc w (g w.ix)).sum
theorem wj (g : Nat → Int) (k : Int) : ∀ (l : List Way) (a : List Int), a.length = fl.length → (∀ w ∈ l, w.ix < fl.length) → cw (fun i => g i * nth (eD a l k) i) fl.length = cw (fun i => g i * nth a i) fl.length + x6 g l * k
  | [], a, _, _ => by simp [eD, x6]
  | w :: l, a, ha, hw => by
    show cw (fun i => g i * nth (eD (lu a w k) l k) i) fl.length = _
    rw [wj g k l _ (by rw [qc]; exact ha) fun u hu => hw u (List.mem_cons_of_mem _ hu), CD ha (hw w List.mem_cons_self)]
    unfold x6
    rw [List.map_cons, List.sum_cons, Int.add_mul]; omega
theorem C9 (hN : Net fl n) : cw (fun c => over fl a c) n = 0 := by
 have h := tT (a := a) hN fun _ => 1
 rw [fU (g := fun c : Nat => over fl a c) fun c _ => Int.one_mul _] at h
 rw [h]
 exact gD fun i _ => by rw [Int.sub_self, Int.zero_mul]
theorem NC (hN : Net fl n) (h : ∀ c : Nat, c < n → ¬ 0 < over fl a c) : CJ fl n a := by
 intro c hc
 have h0 := C9 (a := a) hN
 by_cases e : over fl a c = 0
 ·exact e
 have := vq (f := fun c : Nat => over fl a c) (g := fun _ => 0) hc (fun i hi => by have := h i hi; show over fl a i ≤ 0; omega) (by have := h c hc; show over fl a c < 0; omega)
 rw [h0, gD fun _ _ => rfl] at this
 omega
end
end Go.Proofs.YtelbollidfdcjaaGreat
namespace Go.Proofs.YtelbollidfdcjaaGreat
open Go Go.T
section
variable {fl : List cB} {a : List Int} {n : Nat} {s : Int} {c : Int} {w : Way}
structure sJ where
  by_ : List (Int × Way)
  queue : List Int
instance : Inhabited sJ := ⟨⟨[], []⟩⟩
def wD (q : List (Int × Way)) (s c : Int) : Prop := c = s ∨ c ∈ q.map Prod.fst
def vi (fl : List cB) (s : Int) (q : List (Int × Way)) (w : Way) : Bool := !(ep q (w.fin fl)).isSome && !decide (w.fin fl = s)
def um (fl : List cB) (s : Int) (x : sJ) (w : Way) : sJ := if vi fl s x.by_ w = true then ⟨iN x.by_ (w.fin fl) w, x.queue ++ [w.fin fl]⟩ else x
theorem uR {x : sJ} (h : vi fl s x.by_ w = true) : um fl s x w = ⟨iN x.by_ (w.fin fl) w, x.queue ++ [w.fin fl]⟩ := if_pos h
theorem yM {x : sJ} (h : vi fl s x.by_ w = false) : um fl s x w = x := if_neg (by rw [h]; decide)
def fS (fl : List cB) (a : List Int) (s c : Int) (x : sJ) (k : Nat) : sJ := ((bP fl a c).take k).foldl (um fl s) x
theorem oY {x : sJ} {k : Nat} (hk : k < (bP fl a c).length) : fS fl a s c x (k + 1) = um fl s (fS fl a s c x k) (nth (bP fl a c) k) := by
 unfold fS; rw [cR hk, List.foldl_append]; rfl
def xj (fl : List cB) (a : List Int) (s : Int) (x : sJ) : sJ ⊕ List (Int × Way) :=
  match x.queue with
  | [] => .inr x.by_
  | c :: r => .inl (fS fl a s c ⟨x.by_, r⟩ (bP fl a c).length)
noncomputable def cJ (fl : List cB) (a : List Int) (s : Int) : List (Int × Way) := n7 (xj fl a s) ⟨[], [s]⟩
structure mO (fl : List cB) (a : List Int) (n : Nat) (s : Int) (x : sJ) (cur : Option (Int × List Way)) : Prop where
  keys : (x.by_.map Prod.fst).Nodup
  range : ∀ c ∈ x.by_.map Prod.fst, 0 ≤ c ∧ c < n
  out : s ∉ x.by_.map Prod.fst
  q : ∀ c ∈ x.queue, wD x.by_ s c
  arc : ∃ dep : Int → Nat, dep s = 0 ∧ ∀ c w, ep x.by_ c = some w → Open fl a w ∧ w.fin fl = c ∧ wD x.by_ s (w.iH fl) ∧ dep (w.iH fl) < dep c ∧ dep c ≤ x.by_.length
  done : ∀ c, wD x.by_ s c → c ∉ x.queue → ∀ w ∈ bP fl a c, wD x.by_ s (w.fin fl) ∨ ∃ r, cur = some (c, r) ∧ w ∈ r
  cur : ∀ c r, cur = some (c, r) → wD x.by_ s c ∧ ∀ w ∈ r, Open fl a w ∧ w.iH fl = c
theorem Oe (hs : 0 ≤ s ∧ s < n) : mO fl a n s ⟨[], [s]⟩ none :=
 ⟨List.nodup_nil, (fun c h => by cases h), (fun h => by cases h), fun c h => .inl (List.mem_singleton.1 h), ⟨fun _ => 0, rfl, fun c w h => by cases h⟩,
  (fun c h hn => by
   rcases h with rfl | h
   ·exact absurd (List.mem_singleton.2 rfl) hn
   cases h), fun c r h => by cases h⟩
theorem mO.look (hN : Net fl n) {x : sJ} {r : List Way} (h : mO fl a n s x (some (c, w :: r))) : mO fl a n s (um fl s x w) (some (c, r)) := by
  obtain ⟨hm, hw⟩ := h.cur c _ rfl
  obtain ⟨ho, hb⟩ := hw w List.mem_cons_self
  cases e : vi fl s x.by_ w with
  | false =>
    rw [yM e]
    have hmet : wD x.by_ s (w.fin fl) := by
      unfold vi at e
      rw [Bool.and_eq_false_iff, Bool.not_eq_false', Bool.not_eq_false', decide_eq_true_eq] at e
      rcases e with e | e
      · obtain ⟨v, hv⟩ := Option.isSome_iff_exists.1 e; exact .inr (lE hv)
      · exact .inl e
    refine ⟨h.keys, h.range, h.out, h.q, h.arc, fun c' hc hn u hu => ?_, fun c' r' e' => ?_⟩
    · rcases h.done c' hc hn u hu with h1 | ⟨r', e', hr⟩
      · exact .inl h1
      · injection e' with e'; injection e' with e1 e2; subst e1; subst e2
        rcases List.mem_cons.1 hr with rfl | hr
        · exact .inl hmet
        · exact .inr ⟨r, rfl, hr⟩
    · injection e' with e'; injection e' with e1 e2; subst e1; subst e2
      exact ⟨hm, fun u hu => hw u (List.mem_cons_of_mem _ hu)⟩
  | true =>
    rw [uR e]
    unfold vi at e
    rw [Bool.and_eq_true, Bool.not_eq_true', Bool.not_eq_true', decide_eq_false_iff_not] at e
    have hnone : ep x.by_ (w.fin fl) = none := by cases h : ep x.by_ (w.fin fl) with | none => rfl | some v => rw [h] at e; cases e.1
    have hnk : w.fin fl ∉ x.by_.map Prod.fst := fun hk => by obtain ⟨v, hv⟩ := nX hk; rw [hnone] at hv; cases hv
    have hkeys : ∀ z, z ∈ (iN x.by_ (w.fin fl) w).map Prod.fst ↔ z = w.fin fl ∨ z ∈ x.by_.map Prod.fst := rL x.by_ (w.fin fl) w
    have hMet : ∀ z, wD (iN x.by_ (w.fin fl) w) s z ↔ z = w.fin fl ∨ wD x.by_ s z := fun z => by
      unfold wD; rw [hkeys]
      constructor
      · rintro (h | h | h)
        · exact .inr (.inl h)
        · exact .inl h
        · exact .inr (.inr h)
      · rintro (h | h | h)
        · exact .inr (.inl h)
        · exact .inl h
        · exact .inr (.inr h)
    have hnm : ¬ wD x.by_ s (w.fin fl) := fun h => h.elim e.2 hnk
    refine ⟨Ev _ _ _ h.keys, fun z hz => ?_, fun hs => ?_, fun z hz => ?_, ?_, fun z hz hn u hu => ?_, fun c' r' e' => ?_⟩
    · rcases (hkeys z).1 hz with rfl | hz
      · exact (hN.way ho.1).2.1
      · exact h.range z hz
    · rcases (hkeys s).1 hs with hs | hs
      · exact e.2 hs.symm
      · exact h.out hs
    · rw [hMet]
      rcases List.mem_append.1 hz with hz | hz
      · exact .inr (h.q z hz)
      · exact .inl (List.mem_singleton.1 hz)
    · obtain ⟨dep, d0, hd⟩ := h.arc
      refine ⟨fun z => if z = w.fin fl then dep c + 1 else dep z, by show (if s = w.fin fl then _ else _) = 0; rw [if_neg (fun h => e.2 h.symm)]; exact d0, fun z u hz => ?_⟩
      rw [zU] at hz
      rw [Ca _ _ _ hnone]
      have hcl : dep c ≤ x.by_.length := by
        rcases hm with rfl | hm
        · omega
        · obtain ⟨v, hv⟩ := nX hm; exact (hd c v hv).2.2.2.2
      have hcn : c ≠ w.fin fl := fun h => hnm (by rw [← h]; exact hm)
      by_cases ez : w.fin fl = z
      · rw [if_pos ez] at hz; injection hz with hz; subst hz
        refine ⟨ho, ez, (hMet _).2 (.inr (by rw [hb]; exact hm)), ?_, ?_⟩
        · show (if w.iH fl = w.fin fl then _ else _) < if z = w.fin fl then _ else _
          rw [hb, if_neg hcn, if_pos ez.symm]; omega
        · show (if z = w.fin fl then _ else _) ≤ _
          rw [if_pos ez.symm]; omega
      · rw [if_neg ez] at hz
        obtain ⟨a1, a2, a3, a4, a5⟩ := hd z u hz
        have hbn : u.iH fl ≠ w.fin fl := fun h => hnm (by rw [← h]; exact a3)
        refine ⟨a1, a2, (hMet _).2 (.inr a3), ?_, ?_⟩
        · show (if u.iH fl = w.fin fl then _ else _) < if z = w.fin fl then _ else _
          rw [if_neg hbn, if_neg (fun h => ez h.symm)]; exact a4
        · show (if z = w.fin fl then _ else _) ≤ _
          rw [if_neg (fun h => ez h.symm)]; omega
    · have hzn : z ≠ w.fin fl := fun h => hn (List.mem_append.2 (.inr (by rw [h]; exact List.mem_singleton.2 rfl)))
      have hz' : wD x.by_ s z := ((hMet z).1 hz).resolve_left hzn
      rcases h.done z hz' (fun h => hn (List.mem_append.2 (.inl h))) u hu with h1 | ⟨r', e', hr⟩
      · exact .inl ((hMet _).2 (.inr h1))
      · injection e' with e'; injection e' with e1 e2; subst e1; subst e2
        rcases List.mem_cons.1 hr with rfl | hr
        · exact .inl ((hMet _).2 (.inl rfl))
        · exact .inr ⟨r, rfl, hr⟩
    · injection e' with e'; injection e' with e1 e2; subst e1; subst e2
      exact ⟨(hMet _).2 (.inr hm), fun u hu => hw u (List.mem_cons_of_mem _ hu)⟩
theorem mO.fold (hN : Net fl n) {x : sJ} (h : mO fl a n s x (some (c, bP fl a c))) : ∀ k, k ≤ (bP fl a c).length → mO fl a n s (fS fl a s c x k) (some (c, (bP fl a c).drop k))
  | 0, _ => by rw [List.drop_zero]; exact h
  | k + 1, hk => by
    have ih := mO.fold hN h k (by omega)
    rw [oY (by omega)]
    refine mO.look hN (w := nth (bP fl a c) k) ?_
    rw [List.drop_eq_getElem_cons (show k < (bP fl a c).length by omega)] at ih
    have e : nth (bP fl a c) k = (bP fl a c)[k] := by unfold nth; rw [List.getD_eq_getElem?_getD, List.getElem?_eq_getElem (by omega)]; rfl
    rw [e]; exact ih
theorem mO.pop {x : sJ} {r : List Int} (h : mO fl a n s x none) (hq : x.queue = c :: r) : mO fl a n s ⟨x.by_, r⟩ (some (c, bP fl a c)) := by
 have hc := h.q c (by rw [hq]; exact List.mem_cons_self)
 refine ⟨h.keys, h.range, h.out, fun z hz => h.q z (by rw [hq]; exact List.mem_cons_of_mem _ hz), h.arc, fun z hz hn u hu => ?_, fun c' r' e => ?_⟩
 ·by_cases ez : z = c
  ·subst ez; exact .inr ⟨_, rfl, hu⟩
  rcases h.done z hz (fun hm => by rw [hq] at hm; rcases List.mem_cons.1 hm with e | e; exact ez e; exact hn e) u hu with h1 | ⟨_, e, _⟩
  ·exact .inl h1
  cases e
 injection e with e; injection e with e1 e2; subst e1; subst e2
 exact ⟨hc, fun w hw => nr.1 hw⟩
theorem mO.over {x : sJ} (h : mO fl a n s x (some (c, []))) : mO fl a n s x none :=
 ⟨h.keys, h.range, h.out, h.q, h.arc, fun z hz hn u hu => (h.done z hz hn u hu).elim .inl (fun ⟨_, e, hr⟩ => by injection e with e; injection e with _ e; subst e; cases hr), fun _ _ e => by cases e⟩
theorem mO.rE {x : sJ} {cur : Option (Int × List Way)} (h : mO fl a n s x cur) : x.by_.length ≤ n := by
 have := s6 h.keys h.range
 rwa [List.length_map] at this
def Pj (n : Nat) (x : sJ) : Nat := (n - x.by_.length) * 2 + x.queue.length
theorem Je {x : sJ} : (um fl s x w).by_.length ≥ x.by_.length ∧ (um fl s x w).queue.length + x.by_.length = x.queue.length + (um fl s x w).by_.length := by
  cases e : vi fl s x.by_ w with
  | false => rw [yM e]; exact ⟨Nat.le_refl _, rfl⟩
  | true =>
    rw [uR e]
    unfold vi at e
    rw [Bool.and_eq_true, Bool.not_eq_true'] at e
    have hnone : ep x.by_ (w.fin fl) = none := by cases h : ep x.by_ (w.fin fl) with | none => rfl | some v => rw [h] at e; cases e.1
    show (iN _ _ _).length ≥ _ ∧ (x.queue ++ [w.fin fl]).length + _ = _ + (iN _ _ _).length
    rw [Ca _ _ _ hnone, List.length_append, List.length_singleton]; omega
theorem wZ {x : sJ} : ∀ k, k ≤ (bP fl a c).length → (fS fl a s c x k).by_.length ≥ x.by_.length ∧ (fS fl a s c x k).queue.length + x.by_.length = x.queue.length + (fS fl a s c x k).by_.length
  | 0, _ => ⟨Nat.le_refl _, rfl⟩
  | k + 1, hk => by
    have h1 := wZ (x := x) k (by omega)
    rw [oY (by omega)]
    have h2 := Je (fl := fl) (s := s) (x := fS fl a s c x k) (w := nth (bP fl a c) k)
    omega
theorem xB (hN : Net fl n) {x : sJ} {r : List Int} (h : mO fl a n s x none) (hq : x.queue = c :: r) : mO fl a n s (fS fl a s c ⟨x.by_, r⟩ (bP fl a c).length) none ∧ Pj n (fS fl a s c ⟨x.by_, r⟩ (bP fl a c).length) < Pj n x := by
 have h1 := (h.pop hq).fold hN _ (Nat.le_refl _)
 rw [List.drop_length] at h1
 refine ⟨h1.over, ?_⟩
 have h2 := wZ (fl := fl) (a := a) (s := s) (c := c) (x := ⟨x.by_, r⟩) _ (Nat.le_refl _)
 have h3 := h1.rE
 unfold Pj
 rw [hq, List.length_cons]
 simp only at h2
 omega
structure AQ (fl : List cB) (a : List Int) (n : Nat) (s : Int) (q : List (Int × Way)) : Prop where
  keys : (q.map Prod.fst).Nodup
  range : ∀ c ∈ q.map Prod.fst, 0 ≤ c ∧ c < n
  out : s ∉ q.map Prod.fst
  arc : ∃ dep : Int → Nat, dep s = 0 ∧ ∀ c w, ep q c = some w → Open fl a w ∧ w.fin fl = c ∧ wD q s (w.iH fl) ∧ dep (w.iH fl) < dep c ∧ dep c ≤ q.length
  closed : ∀ w, Open fl a w → wD q s (w.iH fl) → wD q s (w.fin fl)
theorem mO.spec {x : sJ} (h : mO fl a n s x none) (hq : x.queue = []) : AQ fl a n s x.by_ :=
 ⟨h.keys, h.range, h.out, h.arc, fun w ho hm => (h.done _ hm (by rw [hq]; exact List.not_mem_nil) w (nr.2 ⟨ho, rfl⟩)).elim id fun ⟨_, e, _⟩ => by cases e⟩
theorem og (hN : Net fl n) (hs : 0 ≤ s ∧ s < n) : AQ fl a n s (cJ fl a s) := by
  refine nR (fun x => mO fl a n s x none) (AQ fl a n s) (Pj n) (fun x h => ?_) _ (Oe hs)
  cases hq : x.queue with
  | nil => exact .inr ⟨x.by_, by unfold xj; rw [hq], h.spec hq⟩
  | cons c r => exact .inl ⟨_, by unfold xj; rw [hq], xB hN h hq⟩
theorem AQ.rE {q : List (Int × Way)} (h : AQ fl a n s q) : q.length ≤ n := by
 have := s6 h.keys h.range
 rwa [List.length_map] at this
end
end Go.Proofs.YtelbollidfdcjaaGreat
namespace Go.Proofs.YtelbollidfdcjaaGreat
open Go Go.T
section
variable {fl : List cB} {a : List Int} {n : Nat} {s t c : Int} {w : Way} {q : List (Int × Way)}
def kO (q : List (Int × Way)) (c : Int) : Way := (ep q c).getD default
def Fy (fl : List cB) (q : List (Int × Way)) (s : Int) (x : Int × List Way) : (Int × List Way) ⊕ List Way :=
  if x.1 = s then .inr x.2 else .inl ((kO q x.1).iH fl, x.2 ++ [kO q x.1])
noncomputable def iJ (fl : List cB) (q : List (Int × Way)) (s t : Int) : List Way := n7 (Fy fl q s) (t, [])
structure Kx (fl : List cB) (a : List Int) (s t : Int) (l : List Way) : Prop where
  trail : Trail fl l t s
  ways : ∀ w ∈ l, Open fl a w
  nodup : l.Nodup
structure Kp (fl : List cB) (a : List Int) (q : List (Int × Way)) (s t : Int) (dep : Int → Nat) (x : Int × List Way) : Prop where
  trail : Trail fl x.2 t x.1
  ways : ∀ w ∈ x.2, Open fl a w
  deep : ∀ w ∈ x.2, dep x.1 < dep (w.fin fl)
  nodup : x.2.Nodup
  met : wD q s x.1
  rE : x.2.length + dep x.1 ≤ dep t
theorem uP : ∀ {l : List Way} {x y : Int}, Trail fl l x y → w.fin fl = y → Trail fl (l ++ [w]) x (w.iH fl)
  | [], x, y, h, e => ⟨e.trans (show x = y from h).symm, rfl⟩
  | _ :: _, _, _, h, e => ⟨h.1, uP h.2 e⟩
theorem Kp.next {dep : Int → Nat} (hd : ∀ c w, ep q c = some w → Open fl a w ∧ w.fin fl = c ∧ wD q s (w.iH fl) ∧ dep (w.iH fl) < dep c ∧ dep c ≤ q.length) {x : Int × List Way} (h : Kp fl a q s t dep x) (hx : ¬ x.1 = s) :
 Kp fl a q s t dep ((kO q x.1).iH fl, x.2 ++ [kO q x.1]) ∧ dep ((kO q x.1).iH fl) < dep x.1 := by
 obtain ⟨v, hv⟩ := nX (h.met.resolve_left hx)
 have ev : kO q x.1 = v := by unfold kO; rw [hv]; rfl
 rw [ev]
 obtain ⟨h1, h2, h3, h4, _⟩ := hd _ _ hv
 refine ⟨⟨uP h.trail h2, fun w hw => ?_, fun w hw => ?_, ?_, h3, ?_⟩, h4⟩
 ·rcases List.mem_append.1 hw with hw | hw
  ·exact h.ways w hw
  rw [List.mem_singleton.1 hw]; exact h1
 ·rcases List.mem_append.1 hw with hw | hw
  ·exact Nat.lt_trans h4 (h.deep w hw)
  rw [List.mem_singleton.1 hw, h2]; exact h4
 ·rw [List.nodup_append]
  refine ⟨h.nodup, by simp, fun u hu w hw e => ?_⟩
  rw [List.mem_singleton.1 hw] at e
  have := h.deep u hu
  rw [e, h2] at this; omega
 show (x.2 ++ [v]).length + dep (v.iH fl) ≤ dep t
 rw [List.length_append, List.length_singleton]
 have := h.rE; omega
theorem HA (h : AQ fl a n s q) (ht : wD q s t) : Kx fl a s t (iJ fl q s t) ∧ (iJ fl q s t).length ≤ q.length := by
 obtain ⟨dep, d0, hd⟩ := h.arc
 have htq : dep t ≤ q.length := by
  rcases ht with rfl | ht
  ·omega
  obtain ⟨v, hv⟩ := nX ht; exact (hd _ _ hv).2.2.2.2
 refine nR (Kp fl a q s t dep) (fun l => Kx fl a s t l ∧ l.length ≤ q.length) (fun x => dep x.1) (fun x hI => ?_) _ ⟨rfl, (fun w h => by cases h), (fun w h => by cases h), List.nodup_nil, ht, by simp⟩
 by_cases e : x.1 = s
 ·exact .inr ⟨x.2, if_pos e, ⟨by have := hI.trail; rwa [e] at this, hI.ways, hI.nodup⟩, by have := hI.rE; omega⟩
 obtain ⟨h1, h2⟩ := hI.next hd e
 exact .inl ⟨_, if_neg e, h1, h2⟩
def gq (fl : List cB) (a : List Int) (n : Nat) : List Int := (List.range n).map fun c => over fl a (c : Nat)
theorem zi : (gq fl a n).length = n := by unfold gq; rw [List.length_map, List.length_range]
theorem uS {k : Nat} (h : k < n) : nth (gq fl a n) k = over fl a k := by
 unfold gq nth
 rw [List.getD_eq_getElem?_getD, List.getElem?_map, List.getElem?_range h]; rfl
def fK (fl : List cB) (a : List Int) (m : Int) (l : List Way) : Int := l.foldl (fun m w => min m (w.room fl a)) m
theorem sG (m : Int) (l : List Way) : fK fl a m (l ++ [w]) = min (fK fl a m l) (w.room fl a) := by unfold fK; rw [List.foldl_append]; rfl
theorem sn (m : Int) : ∀ (l : List Way), fK fl a m l ≤ m ∧ ∀ w ∈ l, fK fl a m l ≤ w.room fl a := by
 refine C8 ⟨Int.le_refl _, fun w h => by cases h⟩ fun l u ih => ?_
 rw [sG]
 refine ⟨by have := ih.1; omega, fun w hw => ?_⟩
 rcases List.mem_append.1 hw with hw | hw
 ·have := ih.2 w hw; omega
 rw [List.mem_singleton.1 hw]; omega
theorem qq {m : Int} (hm : 0 < m) : ∀ (l : List Way), (∀ w ∈ l, Open fl a w) → 0 < fK fl a m l := by
 refine C8 (fun _ => hm) fun l u ih h => ?_
 rw [sG]
 have h1 := ih fun w hw => h w (List.mem_append.2 (.inl hw))
 have h2 := (h u (List.mem_append.2 (.inr (List.mem_singleton.2 rfl)))).2
 omega
def dc (fl : List cB) (a : List Int) (n : Nat) : Int := fidx (fun x : Int => decide (x > 0)) (gq fl a n)
def jt (fl : List cB) (a : List Int) (q : List (Int × Way)) (c : Nat) : Bool := (ep q (c : Int)).isSome && decide (over fl a c < 0)
def eZ (fl : List cB) (a : List Int) (n : Nat) (q : List (Int × Way)) : Int := fidx (jt fl a q) (List.range n)
noncomputable def kM (fl : List cB) (a : List Int) (s t : Int) : List Int :=
  eD a (iJ fl (cJ fl a s) s t) (fK fl a (min (over fl a s) (-over fl a t)) (iJ fl (cJ fl a s) s t))
noncomputable def GN (fl : List cB) (n : Nat) (a : List Int) : List Int ⊕ (Int × Bool × List Int) :=
  if dc fl a n < 0 then .inr (0, false, a)
  else if eZ fl a n (cJ fl a (dc fl a n)) < 0 then .inr (dc fl a n, true, a)
  else .inl (kM fl a (dc fl a n) (eZ fl a n (cJ fl a (dc fl a n))))
instance : Inhabited (Int × Bool × List Int) := ⟨(0, false, [])⟩
noncomputable def gV (fl : List cB) (n : Nat) (a : List Int) : Int × Bool × List Int := n7 (GN fl n) a
theorem DB {α : Type} [Inhabited α] {p : α → Bool} {l : List α} (h : ¬ fidx p l < 0) : ∃ k : Nat, k < l.length ∧ fidx p l = k ∧ p (nth l k) = true := by
  unfold fidx at *
  cases e : l.findIdx? p with
  | none => rw [e] at h; exact absurd (by decide) h
  | some i =>
    rw [List.findIdx?_eq_some_iff_getElem] at e
    obtain ⟨h1, h2, _⟩ := e
    refine ⟨i, h1, rfl, ?_⟩
    unfold nth; rw [List.getD_eq_getElem?_getD, List.getElem?_eq_getElem h1]; exact h2
theorem Dl {α : Type} {p : α → Bool} {l : List α} (h : fidx p l < 0) : ∀ x ∈ l, p x = false := by
  unfold fidx at h
  cases e : l.findIdx? p with
  | none => simpa using e
  | some i => rw [e] at h; exact absurd h (by show ¬ ((i : Int) < 0); omega)
theorem MH (h : dc fl a n < 0) : ∀ c : Nat, c < n → ¬ 0 < over fl a c := fun c hc => by
 have := Dl h (over fl a c) (List.mem_map.2 ⟨c, List.mem_range.2 hc, rfl⟩)
 simpa using this
theorem wh (h : ¬ dc fl a n < 0) : ∃ k : Nat, k < n ∧ dc fl a n = k ∧ 0 < over fl a k := by
 obtain ⟨k, h1, h2, h3⟩ := DB h
 rw [zi] at h1
 rw [uS h1] at h3
 exact ⟨k, h1, h2, by simpa using h3⟩
theorem IC (h : eZ fl a n q < 0) : ∀ c : Nat, c < n → (ep q (c : Int)).isSome = true → 0 ≤ over fl a c := fun c hc hq => by
 have := Dl h c (List.mem_range.2 hc)
 unfold jt at this
 rw [hq, Bool.true_and, decide_eq_false_iff_not] at this; omega
theorem uN (h : ¬ eZ fl a n q < 0) : ∃ k : Nat, k < n ∧ eZ fl a n q = k ∧ (ep q (k : Int)).isSome = true ∧ over fl a k < 0 := by
 obtain ⟨k, h1, h2, h3⟩ := DB h
 rw [List.length_range] at h1
 have e : nth (List.range n) k = k := by unfold nth; rw [List.getD_eq_getElem?_getD, List.getElem?_range h1]; rfl
 rw [e] at h3
 unfold jt at h3
 rw [Bool.and_eq_true, decide_eq_true_eq] at h3
 exact ⟨k, h1, h2, h3.1, h3.2⟩
def Qw (fl : List cB) (n : Nat) (a : List Int) : Nat := (cw (fun c => max (over fl a (c : Nat)) 0) n).toNat
theorem DE {f : Nat → Int} {n : Nat} (h : ∀ i, i < n → 0 ≤ f i) : 0 ≤ cw f n := by
 have := q4 (f := fun _ => 0) (g := f) (n := n) h
 rwa [gD fun _ _ => rfl] at this
theorem J7 {f g : Nat → Int} {k : Nat} (hk : k < n) (h : ∀ i, i < n → i ≠ k → f i = g i) : cw f n = cw g n + (f k - g k) := by
 have e : cw (fun i => f i - g i) n = f k - g k := kG (f := fun i => f i - g i) hk fun i hi hn => by rw [h i hi hn]; omega
 rw [kI] at e; omega
structure RX (fl : List cB) (a : List Int) (n : Nat) (s t : Int) : Prop where
  inb : ya fl (kM fl a s t)
  less : Qw fl n (kM fl a s t) < Qw fl n a
  trail : Kx fl a s t (iJ fl (cJ fl a s) s t)
  rE : (iJ fl (cJ fl a s) s t).length ≤ n
  pos : 0 < fK fl a (min (over fl a s) (-over fl a t)) (iJ fl (cJ fl a s) s t)
theorem sent (hN : Net fl n) (h : ya fl a) {s t : Nat} (hs : s < n) (ht : t < n) (hps : 0 < over fl a s) (hq : (ep (cJ fl a s) (t : Int)).isSome = true) (hpt : over fl a t < 0) : RX fl a n s t := by
 have hR := og (a := a) hN (show 0 ≤ (s : Int) ∧ (s : Int) < n by omega)
 obtain ⟨v, hv⟩ := Option.isSome_iff_exists.1 hq
 obtain ⟨hP, hlen⟩ := HA hR (.inr (lE hv))
 have hpos := qq (fl := fl) (a := a) (m := min (over fl a s) (-over fl a t)) (by omega) _ hP.ways
 obtain ⟨hm1, hm2⟩ := sn (fl := fl) (a := a) (min (over fl a s) (-over fl a t)) (iJ fl (cJ fl a s) s t)
 have hin := xK (Int.le_of_lt hpos) (iJ fl (cJ fl a s) s t) a h hP.nodup fun w hw => ⟨(hP.ways w hw).1, hm2 w hw⟩
 have hov := uT (fl := fl) h.1 (fK fl a (min (over fl a s) (-over fl a t)) (iJ fl (cJ fl a s) s t)) _ a _ _ h.1 (fun w hw => (hP.ways w hw).1) hP.trail
 refine ⟨hin, ?_, hP, Nat.le_trans hlen hR.rE, hpos⟩
 unfold Qw kM
 generalize fK fl a (min (over fl a s) (-over fl a t)) (iJ fl (cJ fl a s) s t) = m at *
 generalize eD a (iJ fl (cJ fl a s) s t) m = b at *
 have hne : s ≠ t := fun e => by subst e; omega
 have e1 : cw (fun c : Nat => max (over fl b c) 0) n = cw (fun c : Nat => max (over fl a c) 0) n + (max (over fl b s) 0 - max (over fl a s) 0) := by
  refine J7 hs fun i hi hn => ?_
  rw [hov i, fF (p := (s : Int) = i) (by omega)]
  by_cases e : t = i
  ·subst e; rw [fX rfl]; omega
  rw [fF (by omega)]; omega
 have e2 : over fl b s = over fl a s - m := by rw [hov s, fF (by omega), fX rfl]; omega
 have h0 := DE (f := fun c : Nat => max (over fl b c) 0) (n := n) fun i _ => by show 0 ≤ max _ 0; omega
 rw [e1, e2] at h0 ⊢
 omega
structure ux (fl : List cB) (n : Nat) (r : Int × Bool × List Int) : Prop where
  inb : ya fl r.2.2
  yes : r.2.1 = false → CJ fl n r.2.2 ∧ r.1 = 0
  no : r.2.1 = true → (0 ≤ r.1 ∧ r.1 < n) ∧ 0 < over fl r.2.2 r.1 ∧ ∀ c : Nat, c < n → wD (cJ fl r.2.2 r.1) r.1 c → 0 ≤ over fl r.2.2 c
theorem pz (hN : Net fl n) (h : ya fl a) : ux fl n (gV fl n a) := by
 refine nR (ya fl) (ux fl n) (Qw fl n) (fun a h => ?_) a h
 unfold GN
 by_cases h1 : dc fl a n < 0
 ·rw [if_pos h1]
  exact .inr ⟨_, rfl, h, fun _ => ⟨NC hN (MH h1), rfl⟩, fun e => by cases e⟩
 rw [if_neg h1]
 obtain ⟨s, s1, s2, s3⟩ := wh h1
 rw [s2]
 by_cases h2 : eZ fl a n (cJ fl a s) < 0
 ·rw [if_pos h2]
  refine .inr ⟨_, rfl, h, (fun e => by cases e), fun _ => ⟨by show 0 ≤ (s : Int) ∧ (s : Int) < n; omega, s3, fun c hc hm => ?_⟩⟩
  rcases hm with hm | hm
  ·have e : (c : Int) = s := hm
   show 0 ≤ over fl a c
   rw [e]; exact Int.le_of_lt s3
  obtain ⟨v, hv⟩ := nX hm
  exact IC h2 c hc (by rw [hv]; rfl)
 rw [if_neg h2]
 obtain ⟨t, t1, t2, t3, t4⟩ := uN h2
 rw [t2]
 have hS := sent hN h s1 t1 s3 t3 t4
 exact .inl ⟨_, rfl, hS.inb, hS.less⟩
open Classical in
theorem ux.none (hN : Net fl n) {r : Int × Bool × List Int} (h : ux fl n r) (e : r.2.1 = true) : ¬ ∃ a, iG fl n a := by
 obtain ⟨h1, h2, h3⟩ := h.no e
 have hR := og (a := r.2.2) hN h1
 obtain ⟨c, hc⟩ : ∃ c : Nat, (c : Int) = r.1 := ⟨r.1.toNat, by omega⟩
 refine LR hN h.inb (fun c => decide (wD (cJ fl r.2.2 r.1) r.1 c)) (fun w ho hm => ?_) (fun c hc hm => h3 c hc (of_decide_eq_true hm)) (c0 := c) (by omega) (decide_eq_true (.inl hc)) (by rw [hc]; exact h2)
 exact decide_eq_true (hR.closed w ho (of_decide_eq_true hm))
theorem ux.some {r : Int × Bool × List Int} (h : ux fl n r) (e : r.2.1 = false) : iG fl n r.2.2 := ⟨h.inb, (h.yes e).1⟩
end
end Go.Proofs.YtelbollidfdcjaaGreat
namespace Go.Proofs.YtelbollidfdcjaaGreat
open Go Go.T
section
variable {fl : List cB} {a : List Int} {n : Nat} {G : Nat → Int} {w : Way}
def gM (G : Nat → Int) (w : Way) : Int := yc w (G w.ix)
theorem Fg (hG : ∀ i, -1 ≤ G i ∧ G i ≤ 1) (w : Way) : -1 ≤ gM G w ∧ gM G w ≤ 1 := by
 have := hG w.ix
 unfold gM yc; cases w.more <;> simp <;> omega
structure td where
  worth : List Int
  by_ : List Way
  at_ : Int
def lf (fl : List cB) (G : Nat → Int) (st : td) (c : Nat) (w : Way) : Bool := decide (nth st.worth c + gM G w > nth st.worth (w.fin fl).toNat)
def mg (fl : List cB) (G : Nat → Int) (st : td) (c : Nat) (w : Way) : td := ⟨st.worth.set (w.fin fl).toNat (nth st.worth c + gM G w), st.by_.set (w.fin fl).toNat w, w.fin fl⟩
structure N7 where
  r : Nat
  c : Nat
  j : Nat
  st : td
def nD (fl : List cB) (a : List Int) (n : Nat) (G : Nat → Int) (x : N7) : N7 ⊕ Option td :=
  if n ≤ x.r then .inr none
  else if n ≤ x.c then (if x.st.at_ < 0 then .inr none else .inl ⟨x.r + 1, 0, 0, ⟨x.st.worth, x.st.by_, -1⟩⟩)
  else if (bP fl a x.c).length ≤ x.j then .inl ⟨x.r, x.c + 1, 0, x.st⟩
  else if lf fl G x.st x.c (nth (bP fl a x.c) x.j) = true then
    (if x.r + 1 = n then .inr (some (mg fl G x.st x.c (nth (bP fl a x.c) x.j))) else .inl ⟨x.r, x.c, x.j + 1, mg fl G x.st x.c (nth (bP fl a x.c) x.j)⟩)
  else .inl ⟨x.r, x.c, x.j + 1, x.st⟩
def O8 (n : Nat) : td := ⟨List.replicate n 0, List.replicate n default, -1⟩
noncomputable def iq (fl : List cB) (a : List Int) (n : Nat) (G : Nat → Int) : Option td := n7 (nD fl a n G) ⟨0, 0, 0, O8 n⟩
section
variable {x : N7}
theorem xR (h : ¬ n ≤ x.r) (hc : n ≤ x.c) (ha : x.st.at_ < 0) : nD fl a n G x = .inr none := by unfold nD; rw [if_neg h, if_pos hc, if_pos ha]
theorem vL (h : ¬ n ≤ x.r) (hc : n ≤ x.c) (ha : ¬ x.st.at_ < 0) : nD fl a n G x = .inl ⟨x.r + 1, 0, 0, ⟨x.st.worth, x.st.by_, -1⟩⟩ := by unfold nD; rw [if_neg h, if_pos hc, if_neg ha]
theorem xP (h : ¬ n ≤ x.r) (hc : ¬ n ≤ x.c) (hj : (bP fl a x.c).length ≤ x.j) : nD fl a n G x = .inl ⟨x.r, x.c + 1, 0, x.st⟩ := by unfold nD; rw [if_neg h, if_neg hc, if_pos hj]
theorem DI (h : ¬ n ≤ x.r) (hc : ¬ n ≤ x.c) (hj : ¬ (bP fl a x.c).length ≤ x.j) (hg : lf fl G x.st x.c (nth (bP fl a x.c) x.j) = false) : nD fl a n G x = .inl ⟨x.r, x.c, x.j + 1, x.st⟩ := by
 unfold nD; rw [if_neg h, if_neg hc, if_neg hj, if_neg (by rw [hg]; decide)]
theorem zQ (h : ¬ n ≤ x.r) (hc : ¬ n ≤ x.c) (hj : ¬ (bP fl a x.c).length ≤ x.j) (hg : lf fl G x.st x.c (nth (bP fl a x.c) x.j) = true) (hr : ¬ x.r + 1 = n) : nD fl a n G x = .inl ⟨x.r, x.c, x.j + 1, mg fl G x.st x.c (nth (bP fl a x.c) x.j)⟩ := by
 unfold nD; rw [if_neg h, if_neg hc, if_neg hj, if_pos hg, if_neg hr]
theorem wW (h : ¬ n ≤ x.r) (hc : ¬ n ≤ x.c) (hj : ¬ (bP fl a x.c).length ≤ x.j) (hg : lf fl G x.st x.c (nth (bP fl a x.c) x.j) = true) (hr : x.r + 1 = n) : nD fl a n G x = .inr (some (mg fl G x.st x.c (nth (bP fl a x.c) x.j))) := by
 unfold nD; rw [if_neg h, if_neg hc, if_neg hj, if_pos hg, if_pos hr]
end
structure Gh (fl : List cB) (a : List Int) (n : Nat) (G : Nat → Int) (r : Nat) (st : td) (R T : Nat → Nat) (τ : Nat) : Prop where
  len : st.worth.length = n ∧ st.by_.length = n
  zero : ∀ v, v < n → R v = 0 → nth st.worth v = 0 ∧ T v = 0
  le : ∀ v, v < n → R v ≤ r + 1 ∧ T v ≤ τ ∧ 0 ≤ nth st.worth v ∧ nth st.worth v ≤ τ
  way : ∀ v, v < n → 0 < R v → Open fl a (nth st.by_ v) ∧ (nth st.by_ v).fin fl = v ∧
    nth st.worth v ≤ nth st.worth ((nth st.by_ v).iH fl).toNat + gM G (nth st.by_ v) ∧
    (T v < T ((nth st.by_ v).iH fl).toNat → nth st.worth v < nth st.worth ((nth st.by_ v).iH fl).toNat + gM G (nth st.by_ v)) ∧
    R v ≤ R ((nth st.by_ v).iH fl).toNat + 1 ∧ 0 < T v
  one : ∀ u v, u < n → v < n → 0 < R u → 0 < R v → T u = T v → u = v
  at_ : (st.at_ = -1 ∧ ∀ v, v < n → R v ≤ r) ∨ ∃ v : Nat, v < n ∧ st.at_ = v ∧ R v = r + 1
def j6 (x : N7) (c k : Nat) : Nat := if c < x.c ∨ c = x.c ∧ k < x.j then x.r + 1 else x.r
structure mh (fl : List cB) (a : List Int) (n : Nat) (G : Nat → Int) (x : N7) : Prop where
  r : x.r < n
  c : x.c ≤ n
  j : x.j ≤ 2 * fl.length ∧ (x.c = n → x.j = 0)
  last : x.r + 1 = n → x.st.at_ = -1
  gh : ∃ R T τ, Gh fl a n G x.r x.st R T τ ∧ τ ≤ x.r * (n * (2 * fl.length)) + (x.c * (2 * fl.length) + x.j) ∧
    ∀ c k, c < n → k < (bP fl a c).length → j6 x c k = 0 ∨ nth x.st.worth c + gM G (nth (bP fl a c) k) ≤ nth x.st.worth ((nth (bP fl a c) k).fin fl).toNat ∨ j6 x c k ≤ R c
theorem BD {α : Type} [Inhabited α] (n : Nat) (v : α) (k : Nat) (h : k < n) : nth (List.replicate n v) k = v := by
 unfold nth; rw [List.getD_eq_getElem?_getD, List.getElem?_replicate, if_pos h]; rfl
theorem Ob (hn : 0 < n) : mh fl a n G ⟨0, 0, 0, O8 n⟩ := by
 refine ⟨hn, Nat.zero_le _, ⟨Nat.zero_le _, fun _ => rfl⟩, fun _ => rfl, fun _ => 0, fun _ => 0, 0, ⟨⟨by simp [O8], by simp [O8]⟩, fun v hv _ => ⟨BD _ _ _ hv, rfl⟩, fun v hv => ?_, fun v _ h => absurd h (Nat.lt_irrefl 0), fun u v _ _ h => absurd h (Nat.lt_irrefl 0), .inl ⟨rfl, fun v _ => Nat.le_refl _⟩⟩, Nat.zero_le _, fun c k _ _ => .inl ?_⟩
 ·have : nth (O8 n).worth v = 0 := BD _ _ _ hv
  rw [this]; exact ⟨Nat.zero_le _, Nat.le_refl _, Int.le_refl _, Int.le_refl _⟩
 unfold j6; rw [if_neg (by simp)]
theorem MT {c k : Nat} (h : k < (bP fl a c).length) : Open fl a (nth (bP fl a c) k) ∧ (nth (bP fl a c) k).iH fl = c := nr.1 (cT h)
variable {x : N7}
theorem mh.cell (h : mh fl a n G x) (hc : ¬ n ≤ x.c) (hj : (bP fl a x.c).length ≤ x.j) : mh fl a n G ⟨x.r, x.c + 1, 0, x.st⟩ := by
 obtain ⟨R, T, τ, h1, h2, h3⟩ := h.gh
 refine ⟨h.r, by show x.c + 1 ≤ n; omega, ⟨Nat.zero_le _, fun _ => rfl⟩, h.last, R, T, τ, h1, ?_, fun c k hc' hk => ?_⟩
 ·have e1 : (x.c + 1) * (2 * fl.length) = x.c * (2 * fl.length) + 2 * fl.length := Nat.succ_mul _ _
  have := h.j.1
  show τ ≤ x.r * (n * (2 * fl.length)) + ((x.c + 1) * (2 * fl.length) + 0)
  generalize x.r * (n * (2 * fl.length)) = A at *
  generalize (x.c + 1) * (2 * fl.length) = B at *
  generalize x.c * (2 * fl.length) = C at *
  omega
 have e : j6 ⟨x.r, x.c + 1, 0, x.st⟩ c k = j6 x c k := by
  unfold j6
  by_cases e : c < x.c ∨ c = x.c ∧ k < x.j
  ·rw [if_pos e, if_pos (by show c < x.c + 1 ∨ _; omega)]
  rw [if_neg e]
  by_cases e2 : c = x.c
  ·subst e2; omega
  rw [if_neg (by show ¬ (c < x.c + 1 ∨ c = x.c + 1 ∧ k < 0); omega)]
 rw [e]; exact h3 c k hc' hk
theorem mh.round (h : mh fl a n G x) (hc : n ≤ x.c) (hr : ¬ x.r + 1 = n) : mh fl a n G ⟨x.r + 1, 0, 0, ⟨x.st.worth, x.st.by_, -1⟩⟩ := by
 obtain ⟨R, T, τ, h1, h2, h3⟩ := h.gh
 have ec : x.c = n := Nat.le_antisymm h.c hc
 refine ⟨by show x.r + 1 < n; have := h.r; omega, Nat.zero_le _, ⟨Nat.zero_le _, fun _ => rfl⟩, fun _ => rfl, R, T, τ, ⟨h1.len, h1.zero, fun v hv => ?_, h1.way, h1.one, .inl ⟨rfl, fun v hv => (h1.le v hv).1⟩⟩, ?_, fun c k hc' hk => ?_⟩
 ·have := h1.le v hv
  exact ⟨by show R v ≤ x.r + 1 + 1; omega, this.2⟩
 ·have e1 : (x.r + 1) * (n * (2 * fl.length)) = x.r * (n * (2 * fl.length)) + n * (2 * fl.length) := Nat.succ_mul _ _
  show τ ≤ (x.r + 1) * (n * (2 * fl.length)) + (0 * (2 * fl.length) + 0)
  rw [ec, h.j.2 ec] at h2
  generalize (x.r + 1) * (n * (2 * fl.length)) = A at *
  omega
 have e : j6 ⟨x.r + 1, 0, 0, ⟨x.st.worth, x.st.by_, -1⟩⟩ c k = j6 x c k := by
  unfold j6
  rw [if_neg (show ¬ (c < 0 ∨ c = 0 ∧ k < 0) by omega), if_pos (show c < x.c ∨ c = x.c ∧ k < x.j by omega)]
 rw [e]; exact h3 c k hc' hk
theorem wz {st : td} {c k : Nat} : j6 ⟨x.r, x.c, x.j + 1, st⟩ c k = if c = x.c ∧ k = x.j then x.r + 1 else j6 x c k := by
 unfold j6
 by_cases e : c = x.c ∧ k = x.j
 ·rw [if_pos e, if_pos (by show c < x.c ∨ c = x.c ∧ k < x.j + 1; omega)]
 rw [if_neg e]
 by_cases e2 : c < x.c ∨ c = x.c ∧ k < x.j
 ·rw [if_pos e2, if_pos (by show c < x.c ∨ c = x.c ∧ k < x.j + 1; omega)]
 rw [if_neg e2, if_neg (by show ¬ (c < x.c ∨ c = x.c ∧ k < x.j + 1); omega)]
theorem mh.no (h : mh fl a n G x) (hc : ¬ n ≤ x.c) (hj : ¬ (bP fl a x.c).length ≤ x.j) (hg : lf fl G x.st x.c (nth (bP fl a x.c) x.j) = false) : mh fl a n G ⟨x.r, x.c, x.j + 1, x.st⟩ := by
 obtain ⟨R, T, τ, h1, h2, h3⟩ := h.gh
 have hl := qE (fl := fl) (a := a) (c := x.c)
 refine ⟨h.r, h.c, ⟨by show x.j + 1 ≤ _; omega, fun e => absurd (show x.c = n from e) (by omega)⟩, h.last, R, T, τ, h1, Nat.le_trans h2 (show x.r * (n * (2 * fl.length)) + (x.c * (2 * fl.length) + x.j) ≤ x.r * (n * (2 * fl.length)) + (x.c * (2 * fl.length) + (x.j + 1)) by omega), fun c k hc' hk => ?_⟩
 rw [wz]
 by_cases e : c = x.c ∧ k = x.j
 ·rw [if_pos e]
  obtain ⟨e1, e2⟩ := e; subst e1; subst e2
  unfold lf at hg
  rw [decide_eq_false_iff_not] at hg
  exact .inr (.inl (show nth x.st.worth x.c + _ ≤ nth x.st.worth _ by omega))
 rw [if_neg e]; exact h3 c k hc' hk
theorem Gj (hN : Net fl n) (hG : ∀ i, -1 ≤ G i ∧ G i ≤ 1) (h : mh fl a n G x) (hc : ¬ n ≤ x.c) (hj : ¬ (bP fl a x.c).length ≤ x.j) (hg : lf fl G x.st x.c (nth (bP fl a x.c) x.j) = true) :
 ∃ R T τ, Gh fl a n G x.r (mg fl G x.st x.c (nth (bP fl a x.c) x.j)) R T τ ∧ τ ≤ x.r * (n * (2 * fl.length)) + (x.c * (2 * fl.length) + (x.j + 1)) ∧ R ((nth (bP fl a x.c) x.j).fin fl).toNat = x.r + 1 ∧
 ∀ c k, c < n → k < (bP fl a c).length → j6 ⟨x.r, x.c, x.j + 1, mg fl G x.st x.c (nth (bP fl a x.c) x.j)⟩ c k = 0 ∨ nth (mg fl G x.st x.c (nth (bP fl a x.c) x.j)).worth c + gM G (nth (bP fl a c) k) ≤ nth (mg fl G x.st x.c (nth (bP fl a x.c) x.j)).worth ((nth (bP fl a c) k).fin fl).toNat ∨ j6 ⟨x.r, x.c, x.j + 1, mg fl G x.st x.c (nth (bP fl a x.c) x.j)⟩ c k ≤ R c := by
 obtain ⟨R, T, τ, h1, h2, h3⟩ := h.gh
 obtain ⟨ho, hb⟩ := MT (fl := fl) (a := a) (c := x.c) (k := x.j) (by omega)
 have h3c := h3 x.c x.j (by omega) (by omega)
 generalize hw : nth (bP fl a x.c) x.j = w at *
 obtain ⟨_, ⟨hf0, hfn⟩, hne⟩ := hN.way ho.1
 obtain ⟨t, ht⟩ : ∃ t : Nat, (t : Int) = w.fin fl := ⟨(w.fin fl).toNat, by omega⟩
 have htt : (w.fin fl).toNat = t := by omega
 have htn : t < n := by omega
 have hxt : x.c ≠ t := fun e => hne (by rw [hb, ← ht, e])
 unfold lf at hg
 rw [decide_eq_true_eq, htt] at hg
 have hRc : x.r ≤ R x.c := by
  have e : j6 x x.c x.j = x.r := by unfold j6; rw [if_neg (by omega)]
  rw [e, htt] at h3c
  rcases h3c with h | h | h
  ·omega
  ·omega
  exact h
 obtain ⟨hl1, hl2⟩ := h1.len
 have nw : ∀ v, v < n → nth (mg fl G x.st x.c w).worth v = if t = v then nth x.st.worth x.c + gM G w else nth x.st.worth v := fun v hv => by
  show nth (x.st.worth.set _ _) v = _; rw [htt, kE (by omega)]
 have nb : ∀ v, v < n → nth (mg fl G x.st x.c w).by_ v = if t = v then w else nth x.st.by_ v := fun v hv => by
  show nth (x.st.by_.set _ _) v = _; rw [htt, kE (by omega)]
 have up : ∀ v, v < n → nth x.st.worth v ≤ nth (mg fl G x.st x.c w).worth v := fun v hv => by
  rw [nw v hv]; split
  ·rename_i e; subst e; omega
  exact Int.le_refl _
 have begn : ∀ v, v < n → 0 < R v → ((nth x.st.by_ v).iH fl).toNat < n := fun v hv hR => by
  have := (hN.way (h1.way v hv hR).1.1).1; omega
 refine ⟨fun v => if v = t then x.r + 1 else R v, fun v => if v = t then τ + 1 else T v, τ + 1, ⟨⟨by show (x.st.worth.set _ _).length = n; rw [List.length_set]; exact hl1, by show (x.st.by_.set _ _).length = n; rw [List.length_set]; exact hl2⟩, fun v hv hR => ?_, fun v hv => ?_, fun v hv hR => ?_, fun u v hu hv hRu hRv e => ?_, .inr ⟨t, htn, ht.symm, if_pos rfl⟩⟩, by omega, by show (if (w.fin fl).toNat = t then _ else _) = _; rw [if_pos htt], fun c k hc' hk => ?_⟩
 ·have hvt : v ≠ t := fun e => by
   have hR : (if v = t then x.r + 1 else R v) = 0 := hR
   rw [if_pos e] at hR; omega
  have hR : (if v = t then x.r + 1 else R v) = 0 := hR
  rw [if_neg hvt] at hR
  show _ ∧ (if v = t then τ + 1 else T v) = 0
  rw [if_neg hvt, nw v hv, if_neg (fun e => hvt e.symm)]
  exact h1.zero v hv hR
 ·have hl := h1.le v hv
  have hlc := h1.le x.c (by omega)
  have hlt := h1.le t htn
  have hw1 := Fg hG w
  show (if v = t then x.r + 1 else R v) ≤ x.r + 1 ∧ (if v = t then τ + 1 else T v) ≤ τ + 1 ∧ _
  rw [nw v hv]
  by_cases e : v = t
  ·subst e
   rw [if_pos rfl, if_pos rfl, if_pos rfl]
   refine ⟨Nat.le_refl _, Nat.le_refl _, ?_, ?_⟩ <;> omega
  rw [if_neg e, if_neg e, if_neg (fun h => e h.symm)]
  refine ⟨hl.1, ?_, hl.2.2.1, ?_⟩ <;> omega
 ·show _ ∧ _ ∧ _ ∧ ((if v = t then τ + 1 else T v) < (if _ = t then τ + 1 else T _) → _) ∧ (if v = t then x.r + 1 else R v) ≤ (if _ = t then x.r + 1 else R _) + 1 ∧ 0 < (if v = t then τ + 1 else T v)
  have hR : 0 < (if v = t then x.r + 1 else R v) := hR
  rw [nb v hv, nw v hv]
  by_cases e : v = t
  ·subst e
   rw [if_pos rfl, if_pos rfl, if_pos rfl, if_pos rfl]
   have e1 : (w.iH fl).toNat = x.c := by rw [hb]; omega
   rw [e1, nw x.c (by omega), if_neg (fun h => hxt h.symm), if_neg hxt, if_neg hxt]
   refine ⟨ho, ht.symm, Int.le_refl _, fun h => ?_, by omega, by omega⟩
   have := (h1.le x.c (by omega)).2.1; omega
  rw [if_neg e, if_neg (fun h => e h.symm), if_neg (fun h => e h.symm), if_neg e]
  rw [if_neg e] at hR
  obtain ⟨b1, b2, b3, b4, b5, b6⟩ := h1.way v hv hR
  have hbn := begn v hv hR
  have hu := up _ hbn
  refine ⟨b1, b2, by omega, fun h => ?_, ?_, b6⟩
  ·by_cases e2 : ((nth x.st.by_ v).iH fl).toNat = t
   ·rw [e2] at hu b3 ⊢
    have : nth x.st.worth t < nth (mg fl G x.st x.c w).worth t := by rw [nw t htn, if_pos rfl]; omega
    omega
   rw [if_neg e2] at h
   have := b4 h; omega
  by_cases e2 : ((nth x.st.by_ v).iH fl).toNat = t
  ·rw [if_pos e2]; have := (h1.le v hv).1; omega
  rw [if_neg e2]; exact b5
 ·have e : (if u = t then τ + 1 else T u) = (if v = t then τ + 1 else T v) := e
  have hRu : 0 < (if u = t then x.r + 1 else R u) := hRu
  have hRv : 0 < (if v = t then x.r + 1 else R v) := hRv
  have a1 := (h1.le u hu).2.1
  have a2 := (h1.le v hv).2.1
  by_cases e1 : u = t
  ·by_cases e2 : v = t
   ·rw [e1, e2]
   rw [if_pos e1, if_neg e2] at e; omega
  by_cases e2 : v = t
  ·rw [if_neg e1, if_pos e2] at e; omega
  rw [if_neg e1, if_neg e2] at e
  rw [if_neg e1] at hRu; rw [if_neg e2] at hRv
  exact h1.one u v hu hv hRu hRv e
 rw [wz]
 show _ ∨ _ ∨ _ ≤ (if c = t then x.r + 1 else R c)
 have hd : j6 x c k ≤ x.r + 1 := by unfold j6; split <;> omega
 by_cases ect : c = t
 ·rw [if_pos ect]
  refine .inr (.inr ?_)
  split <;> omega
 rw [if_neg ect]
 have hu := up ((nth (bP fl a c) k).fin fl).toNat (by have := (hN.way (MT hk).1.1).2.1; omega)
 have nwc : nth (mg fl G x.st x.c w).worth c = nth x.st.worth c := by rw [nw c hc', if_neg (fun h => ect h.symm)]
 rw [nwc]
 by_cases e : c = x.c ∧ k = x.j
 ·rw [if_pos e]
  obtain ⟨e1, e2⟩ := e; subst e1; subst e2
  rw [hw, htt, nw t htn, if_pos rfl]
  exact .inr (.inl (Int.le_refl _))
 rw [if_neg e]
 rcases h3 c k hc' hk with h | h | h
 ·exact .inl h
 ·exact .inr (.inl (by omega))
 exact .inr (.inr h)
theorem mh.yes (hN : Net fl n) (hG : ∀ i, -1 ≤ G i ∧ G i ≤ 1) (h : mh fl a n G x) (hc : ¬ n ≤ x.c) (hj : ¬ (bP fl a x.c).length ≤ x.j) (hg : lf fl G x.st x.c (nth (bP fl a x.c) x.j) = true) (hr : ¬ x.r + 1 = n) :
 mh fl a n G ⟨x.r, x.c, x.j + 1, mg fl G x.st x.c (nth (bP fl a x.c) x.j)⟩ := by
 obtain ⟨R, T, τ, h1, h2, _, h4⟩ := Gj hN hG h hc hj hg
 have hl := qE (fl := fl) (a := a) (c := x.c)
 exact ⟨h.r, h.c, ⟨by show x.j + 1 ≤ _; omega, fun e => absurd (show x.c = n from e) (by omega)⟩, fun e => absurd e hr, R, T, τ, h1, h2, h4⟩
inductive HB (fl : List cB) (a : List Int) (n : Nat) (G : Nat → Int) : Option td → Prop where
  | none (p : Int → Int) (h : ∀ w, Open fl a w → p (w.iH fl) + gM G w ≤ p (w.fin fl)) : HB fl a n G none
  | some (st : td) (R T : Nat → Nat) (τ : Nat) (v : Nat) (h : Gh fl a n G (n - 1) st R T τ) (hv : v < n) (e : st.at_ = v) (hR : R v = n) : HB fl a n G (some st)
theorem mh.none (hN : Net fl n) (h : mh fl a n G x) (hc : n ≤ x.c) (ha : x.st.at_ < 0) : HB fl a n G none := by
 obtain ⟨R, T, τ, h1, h2, h3⟩ := h.gh
 have hR : ∀ v, v < n → R v ≤ x.r := by
  rcases h1.at_ with ⟨_, h⟩ | ⟨v, _, e, _⟩
  ·exact h
  omega
 refine .none (fun c => nth x.st.worth c.toNat) fun w ho => ?_
 obtain ⟨⟨b0, bn⟩, _, _⟩ := hN.way ho.1
 obtain ⟨c, hc'⟩ : ∃ c : Nat, (c : Int) = w.iH fl := ⟨(w.iH fl).toNat, by omega⟩
 have hm : w ∈ bP fl a c := nr.2 ⟨ho, hc'.symm⟩
 obtain ⟨k, hk, e⟩ := mE hm
 subst e
 have h4 := h3 c k (by omega) hk
 have e : j6 x c k = x.r + 1 := if_pos (.inl (by omega))
 rw [e] at h4
 have := hR c (by omega)
 show nth x.st.worth (Way.iH _ fl).toNat + _ ≤ nth x.st.worth _
 rw [← hc', Int.toNat_natCast]
 rcases h4 with h | h | h <;> omega
theorem mh.found (hN : Net fl n) (hG : ∀ i, -1 ≤ G i ∧ G i ≤ 1) (h : mh fl a n G x) (hc : ¬ n ≤ x.c) (hj : ¬ (bP fl a x.c).length ≤ x.j) (hg : lf fl G x.st x.c (nth (bP fl a x.c) x.j) = true) (hr : x.r + 1 = n) :
 HB fl a n G (some (mg fl G x.st x.c (nth (bP fl a x.c) x.j))) := by
 obtain ⟨R, T, τ, h1, _, h3, _⟩ := Gj hN hG h hc hj hg
 have hb := (hN.way (MT (fl := fl) (a := a) (c := x.c) (k := x.j) (by omega)).1.1).2.1
 refine .some _ R T τ ((nth (bP fl a x.c) x.j).fin fl).toNat (by rw [show n - 1 = x.r by omega]; exact h1) (by omega) ?_ (h3.trans hr)
 show Way.fin _ fl = _; omega
def MX (fl : List cB) (n : Nat) (x : N7) : Nat := (n - x.r) * ((n + 1) * (2 * fl.length + 2)) + ((n - x.c) * (2 * fl.length + 2) + (2 * fl.length + 1 - x.j))
theorem Oj (hj : x.j < 2 * fl.length) (st : td) : MX fl n ⟨x.r, x.c, x.j + 1, st⟩ < MX fl n x := by
 unfold MX
 show (n - x.r) * ((n + 1) * (2 * fl.length + 2)) + ((n - x.c) * (2 * fl.length + 2) + (2 * fl.length + 1 - (x.j + 1))) < _
 omega
theorem Qt (hc : x.c < n) (hj : x.j ≤ 2 * fl.length) (st : td) : MX fl n ⟨x.r, x.c + 1, 0, st⟩ < MX fl n x := by
 unfold MX
 show (n - x.r) * ((n + 1) * (2 * fl.length + 2)) + ((n - (x.c + 1)) * (2 * fl.length + 2) + (2 * fl.length + 1 - 0)) < _
 have e : (n - x.c) * (2 * fl.length + 2) = (n - (x.c + 1)) * (2 * fl.length + 2) + (2 * fl.length + 2) := by
  rw [show n - x.c = (n - (x.c + 1)) + 1 by omega, Nat.succ_mul]
 rw [e]
 generalize (n - (x.c + 1)) * (2 * fl.length + 2) = A
 omega
theorem Ra (hr : x.r < n) (st : td) : MX fl n ⟨x.r + 1, 0, 0, st⟩ < MX fl n x := by
 unfold MX
 show (n - (x.r + 1)) * ((n + 1) * (2 * fl.length + 2)) + ((n - 0) * (2 * fl.length + 2) + (2 * fl.length + 1 - 0)) < _
 have e : (n - x.r) * ((n + 1) * (2 * fl.length + 2)) = (n - (x.r + 1)) * ((n + 1) * (2 * fl.length + 2)) + (n + 1) * (2 * fl.length + 2) := by
  rw [show n - x.r = (n - (x.r + 1)) + 1 by omega, Nat.succ_mul]
 have e2 : (n + 1) * (2 * fl.length + 2) = n * (2 * fl.length + 2) + (2 * fl.length + 2) := Nat.succ_mul _ _
 rw [e, e2, Nat.sub_zero]
 generalize (n - (x.r + 1)) * (n * (2 * fl.length + 2) + (2 * fl.length + 2)) = A
 generalize n * (2 * fl.length + 2) = B
 omega
theorem Ef (hN : Net fl n) (hn : 0 < n) (hG : ∀ i, -1 ≤ G i ∧ G i ≤ 1) : HB fl a n G (iq fl a n G) := by
  refine nR (mh fl a n G) (HB fl a n G) (MX fl n) (fun x h => ?_) _ (Ob hn)
  have hr : ¬ n ≤ x.r := by have := h.r; omega
  by_cases hc : n ≤ x.c
  · by_cases ha : x.st.at_ < 0
    · exact .inr ⟨_, xR hr hc ha, h.none hN hc ha⟩
    · exact .inl ⟨_, vL hr hc ha, h.round hc (fun e => ha (by rw [h.last e]; decide)), Ra h.r _⟩
  · by_cases hj : (bP fl a x.c).length ≤ x.j
    · exact .inl ⟨_, xP hr hc hj, h.cell hc hj, Qt (by omega) h.j.1 _⟩
    · have hl := qE (fl := fl) (a := a) (c := x.c)
      cases hg : lf fl G x.st x.c (nth (bP fl a x.c) x.j) with
      | false => exact .inl ⟨_, DI hr hc hj hg, h.no hc hj hg, Oj (by omega) _⟩
      | true =>
        by_cases hl : x.r + 1 = n
        · exact .inr ⟨_, wW hr hc hj hg hl, h.found hN hG hc hj hg hl⟩
        · exact .inl ⟨_, zQ hr hc hj hg hl, h.yes hN hG hc hj hg hl, Oj (by omega) _⟩
end
end Go.Proofs.YtelbollidfdcjaaGreat
namespace Go.Proofs.YtelbollidfdcjaaGreat
open Go Go.T
theorem Ih {p : Nat → Prop} (h : ∃ n, p n) : ∃ n, p n ∧ ∀ m, m < n → ¬ p m := by
  obtain ⟨n, hn⟩ := h
  induction n using Nat.strongRecOn with
  | _ n ih =>
    by_cases e : ∃ m, m < n ∧ p m
    · obtain ⟨m, hm, hp⟩ := e; exact ih m hm hp
    · exact ⟨n, hn, fun m hm hp => e ⟨m, hm, hp⟩⟩
def fm (f : Nat → Nat) : Nat → Nat → Nat
  | 0, x => x
  | k + 1, x => f (fm f k x)
theorem mG (f : Nat → Nat) (k x : Nat) : ∀ j, fm f (j + k) x = fm f j (fm f k x)
  | 0 => by rw [Nat.zero_add]; rfl
  | j + 1 => by rw [Nat.succ_add]; show f (fm f (j + k) x) = f _; rw [mG f k x j]
theorem y7 (f : Nat → Int) : ∀ n, ((List.range n).map f).sum = cw f n
  | 0 => rfl
  | n + 1 => by rw [List.range_succ, List.map_append, List.sum_append, y7 f n]; simp [cw]
theorem zl (f : Nat → Int) : ∀ n, cw (fun t => f t - f (t + 1)) n = f 0 - f n
  | 0 => by simp [cw]
  | n + 1 => by unfold cw; rw [zl f n]; omega
section
variable {fl : List cB} {a : List Int} {n : Nat} {G : Nat → Int} {st : td} {R T : Nat → Nat} {τ v s : Nat}
def cP (fl : List cB) (st : td) (c : Nat) : Nat := ((nth st.by_ c).iH fl).toNat
structure QZ (fl : List cB) (a : List Int) (n : Nat) (G : Nat → Int) (st : td) (T : Nat → Nat) (s : Nat) : Prop where
  back : ∃ p, 1 ≤ p ∧ p ≤ n ∧ fm (cP fl st) p s = s
  at_ : ∀ t, fm (cP fl st) t s < n
  way : ∀ t, Open fl a (nth st.by_ (fm (cP fl st) t s)) ∧ (nth st.by_ (fm (cP fl st) t s)).fin fl = fm (cP fl st) t s ∧
    nth st.worth (fm (cP fl st) t s) ≤ nth st.worth (fm (cP fl st) (t + 1) s) + gM G (nth st.by_ (fm (cP fl st) t s)) ∧
    (T (fm (cP fl st) t s) < T (fm (cP fl st) (t + 1) s) → nth st.worth (fm (cP fl st) t s) < nth st.worth (fm (cP fl st) (t + 1) s) + gM G (nth st.by_ (fm (cP fl st) t s)))
  one : ∀ t u, T (fm (cP fl st) t s) = T (fm (cP fl st) u s) → fm (cP fl st) t s = fm (cP fl st) u s
theorem A7 (hN : Net fl n) (h : Gh fl a n G (n - 1) st R T τ) (hv : v < n) (hR : R v = n) : ∀ k, k ≤ n → fm (cP fl st) k v < n ∧ n ≤ R (fm (cP fl st) k v) + k
  | 0, _ => ⟨hv, by show n ≤ R v + 0; omega⟩
  | k + 1, hk => by
    obtain ⟨h1, h2⟩ := A7 hN h hv hR k (by omega)
    obtain ⟨b1, _, _, _, b5, _⟩ := h.way _ h1 (by omega)
    have hb := (hN.way b1.1).1
    show cP fl st (fm (cP fl st) k v) < n ∧ n ≤ R (cP fl st (fm (cP fl st) k v)) + (k + 1)
    unfold cP at *
    exact ⟨by omega, by omega⟩
theorem I7 (hN : Net fl n) (h : Gh fl a n G (n - 1) st R T τ) (hv : v < n) (hR : R v = n) : QZ fl a n G st T (fm (cP fl st) n v) := by
  have hch := A7 hN h hv hR
  generalize hf : cP fl st = f at *
  obtain ⟨i, j, hij, hjn, e⟩ : ∃ i j, i < j ∧ j ≤ n ∧ fm f i v = fm f j v := by
    refine Classical.byContradiction fun hno => ?_
    have hnd : ((List.range (n + 1)).map fun k => fm f k v).Nodup := by
      rw [List.nodup_iff_pairwise_ne, List.pairwise_map]
      refine List.pairwise_lt_range.imp_of_mem fun {x y} hx hy hlt e => hno ⟨x, y, hlt, ?_, e⟩
      have := List.mem_range.1 hy; omega
    have := m6 (n := n) hnd fun y hy => by
      obtain ⟨k, hk, rfl⟩ := List.mem_map.1 hy
      have := List.mem_range.1 hk
      exact (hch k (by omega)).1
    rw [List.length_map, List.length_range] at this; omega
  have good : ∀ m, i ≤ m → ∃ m', m' < n ∧ fm f m v = fm f m' v := by
    intro m
    induction m using Nat.strongRecOn with
    | _ m ih =>
      intro hm
      by_cases c : m < j
      · exact ⟨m, by omega, rfl⟩
      · obtain ⟨m', h1, h2⟩ := ih (m - j + i) (by omega) (by omega)
        refine ⟨m', h1, ?_⟩
        rw [← h2, mG, e, ← mG]; congr 1; omega
  have all : ∀ t, fm f t (fm f n v) < n ∧ 0 < R (fm f t (fm f n v)) := fun t => by
    rw [← mG]
    obtain ⟨m', h1, h2⟩ := good (t + n) (by omega)
    rw [h2]
    have := hch m' (by omega)
    exact ⟨this.1, by omega⟩
  refine ⟨⟨j - i, by omega, by omega, ?_⟩, fun t => by rw [hf]; exact (all t).1, fun t => ?_, fun t u e => ?_⟩
  · rw [hf, ← mG, show j - i + n = (n - i) + j by omega, mG, ← e, ← mG]; congr 1; omega
  · rw [hf]
    obtain ⟨b1, b2, b3, b4, _, _⟩ := h.way _ (all t).1 (all t).2
    have e1 : fm f (t + 1) (fm f n v) = ((nth st.by_ (fm f t (fm f n v))).iH fl).toNat := by
      show f (fm f t (fm f n v)) = _; rw [← hf]; rfl
    rw [e1]
    exact ⟨b1, b2, b3, b4⟩
  · rw [hf] at *
    exact h.one _ _ (all t).1 (all u).1 (all t).2 (all u).2 e
def DC (fl : List cB) (st : td) (s : Nat) (x : Nat × List Way) : (Nat × List Way) ⊕ List Way :=
  if ¬ x.2 = [] ∧ x.1 = s then .inr x.2 else .inl (cP fl st x.1, x.2 ++ [nth st.by_ x.1])
noncomputable def pG (fl : List cB) (st : td) (s : Nat) : List Way := n7 (DC fl st s) (s, [])
structure FN (fl : List cB) (a : List Int) (n : Nat) (G : Nat → Int) (l : List Way) : Prop where
  ne : l ≠ []
  trail : ∃ s, Trail fl l s s
  ways : ∀ w ∈ l, Open fl a w
  nodup : l.Nodup
  adds : 0 < x6 G l
  rE : l.length ≤ n
theorem K7 (hN : Net fl n) (h : QZ fl a n G st T s) : FN fl a n G (pG fl st s) := by
  obtain ⟨p, ⟨hp1, hp2, hp3⟩, hmin⟩ := Ih h.back
  have hfin : ∀ t, (nth st.by_ (fm (cP fl st) t s)).fin fl = fm (cP fl st) t s := fun t => (h.way t).2.1
  have hbeg : ∀ t, (nth st.by_ (fm (cP fl st) t s)).iH fl = fm (cP fl st) (t + 1) s := fun t => by
    have := (hN.way (h.way t).1.1).1
    show _ = ((((nth st.by_ (fm (cP fl st) t s)).iH fl).toNat : Nat) : Int)
    omega
  have hone : ∀ t u, t < u → u < p → fm (cP fl st) t s ≠ fm (cP fl st) u s := fun t u htu hup e => by
    refine hmin (p - u + t) (by omega) ⟨by omega, by omega, ?_⟩
    rw [mG, e, ← mG, show p - u + u = p by omega, hp3]
  have hlist : pG fl st s = (List.range p).map fun t => nth st.by_ (fm (cP fl st) t s) := by
    refine nR (fun x => ∃ i, i ≤ p ∧ x = (fm (cP fl st) i s, (List.range i).map fun t => nth st.by_ (fm (cP fl st) t s))) (fun l => l = (List.range p).map fun t => nth st.by_ (fm (cP fl st) t s)) (fun x => p + 1 - x.2.length) (fun x hx => ?_) _ ⟨0, Nat.zero_le _, rfl⟩
    obtain ⟨i, hi, rfl⟩ := hx
    unfold DC
    by_cases e : i = p
    · subst e
      refine .inr ⟨_, if_pos ⟨fun e => ?_, hp3⟩, rfl⟩
      have := congrArg List.length e
      simp at this; omega
    · refine .inl ⟨_, if_neg fun ⟨e1, e2⟩ => ?_, ⟨i + 1, by omega, ?_⟩, ?_⟩
      · by_cases c : i = 0
        · subst c; exact e1 rfl
        · exact hmin i (by omega) ⟨by omega, by omega, e2⟩
      · rw [List.range_succ, List.map_append]; rfl
      · simp; omega
  have htr : ∀ k, Trail fl ((List.range k).map fun t => nth st.by_ (fm (cP fl st) t s)) s (fm (cP fl st) k s) := by
    intro k
    induction k with
    | zero => exact rfl
    | succ k ih =>
      rw [List.range_succ, List.map_append, List.map_singleton, ← hbeg k]
      exact uP ih (hfin k)
  rw [hlist]
  refine ⟨fun e => ?_, ⟨s, ?_⟩, fun w hw => ?_, ?_, ?_, by rw [List.length_map, List.length_range]; exact hp2⟩
  · have := congrArg List.length e
    simp at this; omega
  · have := htr p
    rwa [hp3] at this
  · obtain ⟨t, _, rfl⟩ := List.mem_map.1 hw
    exact (h.way t).1
  · rw [List.nodup_iff_pairwise_ne, List.pairwise_map]
    refine List.pairwise_lt_range.imp_of_mem fun {x y} hx hy hlt e => hone x y hlt (List.mem_range.1 hy) ?_
    have := congrArg (fun w => Way.fin w fl) e
    rw [hfin, hfin] at this; omega
  · unfold x6
    rw [List.map_map, y7]
    have h0 : cw (fun t => nth st.worth (fm (cP fl st) t s) - nth st.worth (fm (cP fl st) (t + 1) s)) p = 0 := by
      rw [zl (fun t => nth st.worth (fm (cP fl st) t s)), hp3]; show nth st.worth s - _ = 0; omega
    rw [← h0]
    obtain ⟨k, hk, hlt⟩ : ∃ k, k < p ∧ T (fm (cP fl st) k s) < T (fm (cP fl st) (k + 1) s) := by
      refine Classical.byContradiction fun hno => ?_
      have hdn : ∀ d t, t + d ≤ p → T (fm (cP fl st) (t + d) s) ≤ T (fm (cP fl st) t s) := by
        intro d
        induction d with
        | zero => intro t _; exact Nat.le_refl _
        | succ d ih =>
          intro t ht
          have h1 := ih t (by omega)
          have h2 : ¬ T (fm (cP fl st) (t + d) s) < T (fm (cP fl st) (t + d + 1) s) := fun h => hno ⟨t + d, by omega, h⟩
          show T (fm (cP fl st) (t + d + 1) s) ≤ _
          omega
      have h1 := hdn 1 0 (by omega)
      have h2 := hdn (p - 1) 1 (by omega)
      rw [show 1 + (p - 1) = p by omega, hp3] at h2
      have h3 : T (fm (cP fl st) 0 s) = T (fm (cP fl st) 1 s) := by
        show T s = _
        have h1 : T (fm (cP fl st) 1 s) ≤ T s := h1
        omega
      have h4 := h.one 0 1 h3
      have hne := (hN.way (h.way 0).1.1).2.2
      rw [hfin 0, hbeg 0, ← h4] at hne
      exact hne rfl
    refine vq hk (fun t _ => ?_) ?_
    · have := (h.way t).2.2.1
      show _ ≤ gM G (nth st.by_ (fm (cP fl st) t s)); omega
    · have := (h.way k).2.2.2 hlt
      show _ < gM G (nth st.by_ (fm (cP fl st) k s)); omega
noncomputable def cQ (fl : List cB) (a : List Int) (n : Nat) (G : Nat → Int) : List Way := match iq fl a n G with
  | none => []
  | some st => pG fl st (fm (cP fl st) n st.at_.toNat)
theorem vS (h : iq fl a n G = none) : cQ fl a n G = [] := by unfold cQ; rw [h]
theorem vM (h : iq fl a n G = some st) : cQ fl a n G = pG fl st (fm (cP fl st) n st.at_.toNat) := by unfold cQ; rw [h]
theorem vD (hN : Net fl n) (hn : 0 < n) (hG : ∀ i, -1 ≤ G i ∧ G i ≤ 1) : (cQ fl a n G = [] ∧ ∃ p : Int → Int, ∀ w, Open fl a w → p (w.iH fl) + gM G w ≤ p (w.fin fl)) ∨ FN fl a n G (cQ fl a n G) := by
  have h := Ef (a := a) hN hn hG
  cases e : iq fl a n G with
  | none =>
    rw [e] at h
    cases h with
    | none p hp => exact .inl ⟨vS e, p, hp⟩
  | some st =>
    rw [e] at h
    cases h with
    | some _ R T τ v h1 hv e1 hR =>
      rw [vM e, show st.at_.toNat = v by omega]
      exact .inr (K7 hN (I7 hN h1 hv hR))
noncomputable def stepG (fl : List cB) (n : Nat) (G : Nat → Int) (a : List Int) : List Int ⊕ List Int :=
  if cQ fl a n G = [] then .inr a else .inl (eD a (cQ fl a n G) (fK fl a 300 (cQ fl a n G)))
noncomputable def gu (fl : List cB) (n : Nat) (G : Nat → Int) (a : List Int) : List Int := n7 (stepG fl n G) a
def l6 (fl : List cB) (G : Nat → Int) (a : List Int) : Int := cw (fun i => G i * nth a i) fl.length
def Bd (fl : List cB) : Prop := ∀ i, i < fl.length → 0 ≤ (nth fl i).lo ∧ (nth fl i).hi ≤ 300
theorem Gz (hB : Bd fl) (h : ya fl a) (hG : ∀ i, -1 ≤ G i ∧ G i ≤ 1) : l6 fl G a ≤ 300 * fl.length := by
 refine (pO (b := 300) fun i hi => ?_).2
 have h1 := hB i hi
 have h2 := h.2 i hi
 have h3 := hG i
 have : G i = -1 ∨ G i = 0 ∨ G i = 1 := by omega
 rcases this with e | e | e <;> rw [e] <;> omega
structure PC (fl : List cB) (a : List Int) (n : Nat) (G : Nat → Int) (b : List Int) : Prop where
  feas : iG fl n b
  more : l6 fl G a < l6 fl G b
theorem uy (h : iG fl n a) {l : List Way} (hc : FN fl a n G l) : PC fl a n G (eD a l (fK fl a 300 l)) := by
 have hpos := qq (fl := fl) (a := a) (m := 300) (by decide) l hc.ways
 obtain ⟨_, hm⟩ := sn (fl := fl) (a := a) 300 l
 have hix : ∀ w ∈ l, w.ix < fl.length := fun w hw => (hc.ways w hw).1
 obtain ⟨s, ht⟩ := hc.trail
 refine ⟨⟨xK (Int.le_of_lt hpos) l a h.1 hc.nodup fun w hw => ⟨hix w hw, hm w hw⟩, fun c hcn => ?_⟩, ?_⟩
 ·rw [uT h.1.1 _ l a s s h.1.1 hix ht, h.2 c hcn]; omega
 unfold l6
 rw [wj G _ l a h.1.1 hix]
 have := Int.mul_pos hc.adds hpos
 omega
theorem zF (hN : Net fl n) (hn : 0 < n) (hB : Bd fl) (hG : ∀ i, -1 ≤ G i ∧ G i ≤ 1) (h : iG fl n a) : iG fl n (gu fl n G a) ∧ ∀ b, iG fl n b → l6 fl G b ≤ l6 fl G (gu fl n G a) := by
 refine nR (iG fl n) (fun r => iG fl n r ∧ ∀ b, iG fl n b → l6 fl G b ≤ l6 fl G r) (fun a => (300 * fl.length - l6 fl G a).toNat) (fun a h => ?_) a h
 unfold stepG
 rcases vD (a := a) hN hn hG with ⟨e, p, hp⟩ | hc
 ·rw [if_pos e]
  exact .inr ⟨a, rfl, h, fun b hb => Jv hN h hb G p fun w ho => hp w ho⟩
 rw [if_neg hc.ne]
 have hb := uy h hc
 refine .inl ⟨_, rfl, hb.feas, ?_⟩
 have h1 := hb.more
 have h2 := Gz hB hb.feas.1 hG
 omega
end
end Go.Proofs.YtelbollidfdcjaaGreat
namespace Go.Proofs.YtelbollidfdcjaaGreat
open Go Go.T
structure Span where
  lo : Int
  hi : Int
deriving DecidableEq, Inhabited
structure tM where
  holds : Int
  first : Span
deriving DecidableEq, Inhabited
structure Move where
  day : Int
  src : Int
  dst : Int
  sacks : Span
deriving DecidableEq, Inhabited
structure Level where
  day : Int
  bin : Int
  sacks : Span
deriving DecidableEq, Inhabited
structure aj where
  days : Int
  bins : List tM
  moves : List Move
  levels : List Level
deriving DecidableEq, Inhabited
structure dg where
  first : List Int
  cD : List Int
deriving DecidableEq, Inhabited
def fQ (s : Span) : Bool := zh s.lo 0 300 && zh s.hi 0 300
def fu (s : Span) : Bool := decide (s.lo ≤ s.hi)
def aj.bin (y : aj) (k : Int) : Bool := zh k 0 (y.bins.length - 1)
def aj.time (y : aj) (k : Int) : Bool := zh k 0 y.days
def aj.fin (y : aj) (k : Int) : Bool := decide (k = -1) || y.bin k
def lO (y : aj) : Bool := ((!zh y.days 1 5 || !zh y.bins.length 1 4) || decide ((y.moves.length : Int) > 10)) || decide ((y.levels.length : Int) > 8)
def kX (y : aj) : Bool := !y.bins.all (fun b => zh b.holds 0 300 && fQ b.first)
def jB (y : aj) : Bool := !y.moves.all (fun m => fQ m.sacks) || !y.levels.all (fun l => fQ l.sacks)
def xZ (y : aj) : Bool := !y.moves.all fun m => (zh m.day 0 (y.days - 1) && y.fin m.src) && y.fin m.dst
def rQ (y : aj) : Bool := !y.levels.all fun l => y.time l.day && y.bin l.bin
def qB (y : aj) : Bool := !y.moves.all fun m => !decide (m.src = m.dst)
def qM (y : aj) : Bool := (!y.bins.all (fun b => fu b.first) || !y.moves.all (fun m => fu m.sacks)) || !y.levels.all (fun l => fu l.sacks)
def bO (y : aj) : Int := if lO y = true then 2 else if kX y = true then 3 else if jB y = true then 3 else if xZ y = true then 1 else if rQ y = true then 1 else if qB y = true then 5 else if qM y = true then 4 else 0
structure aj.bY (y : aj) : Prop where
  days : 1 ≤ y.days ∧ y.days ≤ 5
  bins : 1 ≤ y.bins.length ∧ y.bins.length ≤ 4
  moves : y.moves.length ≤ 10
  levels : y.levels.length ≤ 8
  bin : ∀ b ∈ y.bins, (0 ≤ b.holds ∧ b.holds ≤ 300) ∧ (0 ≤ b.first.lo ∧ b.first.hi ≤ 300) ∧ b.first.lo ≤ b.first.hi
  move : ∀ m ∈ y.moves, (0 ≤ m.day ∧ m.day < y.days) ∧ (-1 ≤ m.src ∧ m.src < y.bins.length) ∧ (-1 ≤ m.dst ∧ m.dst < y.bins.length) ∧ m.src ≠ m.dst ∧ (0 ≤ m.sacks.lo ∧ m.sacks.hi ≤ 300) ∧ m.sacks.lo ≤ m.sacks.hi
  level : ∀ l ∈ y.levels, (0 ≤ l.day ∧ l.day ≤ y.days) ∧ (0 ≤ l.bin ∧ l.bin < y.bins.length) ∧ (0 ≤ l.sacks.lo ∧ l.sacks.hi ≤ 300) ∧ l.sacks.lo ≤ l.sacks.hi
theorem cZ {y : aj} (h : bO y = 0) : y.bY := by
  unfold bO at h
  have n0 : ∀ {c : Bool} {k x : Int}, k ≠ 0 → (if c = true then k else x) = 0 → c = false ∧ x = 0 := fun {c k x} hk h => by
    cases c with
    | true => exact absurd h hk
    | false => exact ⟨rfl, h⟩
  obtain ⟨h1, h⟩ := n0 (by decide) h
  obtain ⟨h2, h⟩ := n0 (by decide) h
  obtain ⟨h3, h⟩ := n0 (by decide) h
  obtain ⟨h4, h⟩ := n0 (by decide) h
  obtain ⟨h5, h⟩ := n0 (by decide) h
  obtain ⟨h6, h⟩ := n0 (by decide) h
  obtain ⟨h7, h⟩ := n0 (by decide) h
  simp only [lO, kX, jB, xZ, rQ, qB, qM, Bool.or_eq_false_iff, Bool.not_eq_false', decide_eq_false_iff_not, List.all_eq_true, Bool.and_eq_true, fB, fQ, fu, decide_eq_true_eq, aj.fin, aj.bin, aj.time, Bool.or_eq_true, Bool.not_eq_true', decide_eq_false_iff_not] at h1 h2 h3 h4 h5 h6 h7
  refine ⟨h1.1.1.1, by omega, by omega, by omega, fun b hb => ?_, fun m hm => ?_, fun l hl => ?_⟩
  · have a := h2 b hb; have c := h7.1.1 b hb
    exact ⟨a.1, ⟨a.2.1.1, a.2.2.2⟩, c⟩
  · have a := h3.1 m hm; have c := h4 m hm; have d := h6 m hm; have e := h7.1.2 m hm
    refine ⟨by omega, by omega, by omega, d, ⟨a.1.1, a.2.2⟩, e⟩
  · have a := h3.2 l hl; have c := h5 l hl; have e := h7.2 l hl
    refine ⟨by omega, by omega, ⟨a.1.1, a.2.2⟩, e⟩
section
variable {y : aj} {c : Nat → Bool} {a : dg} {b t : Nat}
def aj.D (y : aj) : Nat := y.days.toNat
def aj.cells (y : aj) : Nat := y.bins.length * y.D
def aj.cell (y : aj) (bin day : Int) : Int := if bin = -1 then (y.bins.length : Int) * y.days else bin * y.days + day
def dz (y : aj) (c : Nat → Bool) (b t : Nat) (s : Span) : Nat → Span
  | 0 => s
  | k + 1 => if ((c k && decide ((nth y.levels k).bin = b)) && decide ((nth y.levels k).day = t)) = true then ⟨max (dz y c b t s k).lo (nth y.levels k).sacks.lo, min (dz y c b t s k).hi (nth y.levels k).sacks.hi⟩ else dz y c b t s k
def dj (y : aj) (b t : Nat) : Span := if 0 < t then ⟨0, (nth y.bins b).holds⟩ else ⟨max 0 (nth y.bins b).first.lo, min (nth y.bins b).holds (nth y.bins b).first.hi⟩
def l7 (y : aj) (c : Nat → Bool) (b t : Nat) : Span := dz y c b t (dj y b t) y.levels.length
def GQ (y : aj) (c : Nat → Bool) (b t : Nat) : cB := ⟨if 0 < t then y.cell b ((t : Int) - 1) else y.cells, if t < y.D then y.cell b t else y.cells, (l7 y c b t).lo, (l7 y c b t).hi⟩
def Oc (y : aj) (m : Move) : cB := ⟨y.cell m.src m.day, y.cell m.dst m.day, m.sacks.lo, m.sacks.hi⟩
def FI (y : aj) (c : Nat → Bool) : List cB := (List.range y.bins.length).flatMap fun b => (List.range (y.D + 1)).map (GQ y c b)
def aO (y : aj) (c : Nat → Bool) : List cB := FI y c ++ y.moves.map (Oc y)
theorem B1 (s : Span) : ∀ k, s.lo ≤ (dz y c b t s k).lo ∧ (dz y c b t s k).hi ≤ s.hi
  | 0 => ⟨Int.le_refl _, Int.le_refl _⟩
  | k + 1 => by
    have := B1 s k
    unfold dz; split
    · show s.lo ≤ max _ _ ∧ min _ _ ≤ s.hi; omega
    · exact this
theorem mH {α β : Type} (f : α → List β) (k : Nat) : ∀ (l : List α), (∀ x ∈ l, (f x).length = k) → (l.flatMap f).length = l.length * k
  | [], _ => by simp
  | x :: l, h => by rw [List.flatMap_cons, List.length_append, h x List.mem_cons_self, mH f k l fun y hy => h y (List.mem_cons_of_mem _ hy), List.length_cons, Nat.succ_mul]; omega
theorem uH {α : Type} [Inhabited α] (f : Nat → List α) (k : Nat) : ∀ (n b t : Nat), (∀ i, i < n → (f i).length = k) → b < n → t < k → nth ((List.range n).flatMap f) (b * k + t) = nth (f b) t
  | 0, _, _, _, h, _ => by omega
  | n + 1, b, t, hf, hb, ht => by
    have hl : ((List.range n).flatMap f).length = n * k := by rw [mH f k _ fun x hx => hf x (by have := List.mem_range.1 hx; omega), List.length_range]
    rw [List.range_succ, List.flatMap_append, List.flatMap_singleton]
    by_cases e : b = n
    · subst e
      unfold nth
      rw [List.getD_eq_getElem?_getD, List.getD_eq_getElem?_getD, List.getElem?_append_right (by omega), hl, Nat.add_sub_cancel_left]
    · have hlt : b * k + t < n * k := by
        have : (b + 1) * k ≤ n * k := Nat.mul_le_mul_right _ (by omega)
        rw [Nat.succ_mul] at this; omega
      rw [← uH f k n b t (fun i hi => hf i (by omega)) (by omega) ht]
      unfold nth
      rw [List.getD_eq_getElem?_getD, List.getD_eq_getElem?_getD, List.getElem?_append_left (by omega)]
theorem fI {α : Type} [Inhabited α] (f : Nat → α) {n k : Nat} (h : k < n) : nth ((List.range n).map f) k = f k := by
 unfold nth; rw [List.getD_eq_getElem?_getD, List.getElem?_map, List.getElem?_range h]; rfl
theorem nQ {α β : Type} [Inhabited α] [Inhabited β] (f : α → β) {l : List α} {k : Nat} (h : k < l.length) : nth (l.map f) k = f (nth l k) := by
 unfold nth; rw [List.getD_eq_getElem?_getD, List.getD_eq_getElem?_getD, List.getElem?_map, List.getElem?_eq_getElem h]; rfl
theorem x9 : (FI y c).length = y.bins.length * (y.D + 1) := by
 unfold FI; rw [mH _ (y.D + 1) _ fun x _ => by rw [List.length_map, List.length_range], List.length_range]
theorem fH : (aO y c).length = y.bins.length * (y.D + 1) + y.moves.length := by unfold aO; rw [List.length_append, x9, List.length_map]
def aj.kept (y : aj) (b t : Nat) : Nat := b * (y.D + 1) + t
theorem oE (hb : b < y.bins.length) (ht : t ≤ y.D) : y.kept b t < y.bins.length * (y.D + 1) := by
 have : (b + 1) * (y.D + 1) ≤ y.bins.length * (y.D + 1) := Nat.mul_le_mul_right _ hb
 unfold aj.kept; rw [Nat.succ_mul] at this; omega
theorem hU {α : Type} [Inhabited α] {l k : List α} {i : Nat} (h : i < l.length) : nth (l ++ k) i = nth l i := by
 unfold nth; rw [List.getD_eq_getElem?_getD, List.getD_eq_getElem?_getD, List.getElem?_append_left h]
theorem k5 {α : Type} [Inhabited α] {l k : List α} {i : Nat} : nth (l ++ k) (l.length + i) = nth k i := by
 unfold nth; rw [List.getD_eq_getElem?_getD, List.getD_eq_getElem?_getD, List.getElem?_append_right (by omega), Nat.add_sub_cancel_left]
theorem gR (hb : b < y.bins.length) (ht : t ≤ y.D) : nth (aO y c) (y.kept b t) = GQ y c b t := by
 have h := oE hb ht
 unfold aO
 rw [hU (by rw [x9]; exact h)]
 unfold FI aj.kept
 rw [uH _ (y.D + 1) _ b t (fun i _ => by rw [List.length_map, List.length_range]) hb (by omega), fI _ (by omega)]
theorem gT {i : Nat} (h : i < y.moves.length) : nth (aO y c) (y.bins.length * (y.D + 1) + i) = Oc y (nth y.moves i) := by
 unfold aO
 rw [← x9 (c := c), k5, nQ _ h]
theorem oP {k : Nat} (h : k < (aO y c).length) : (∃ b t, b < y.bins.length ∧ t ≤ y.D ∧ k = y.kept b t) ∨ ∃ i, i < y.moves.length ∧ k = y.bins.length * (y.D + 1) + i := by
 rw [fH] at h
 by_cases c : k < y.bins.length * (y.D + 1)
 ·refine .inl ⟨k / (y.D + 1), k % (y.D + 1), (Nat.div_lt_iff_lt_mul (by omega)).2 c, Nat.lt_succ_iff.1 (Nat.mod_lt _ (by omega)), ?_⟩
  unfold aj.kept
  have := Nat.div_add_mod k (y.D + 1)
  rw [Nat.mul_comm] at this; omega
 exact .inr ⟨k - y.bins.length * (y.D + 1), by omega, by omega⟩
end
end Go.Proofs.YtelbollidfdcjaaGreat
namespace Go.Proofs.YtelbollidfdcjaaGreat
open Go Go.T
theorem m9 (f : Nat → Int) (m : Nat) : ∀ k, cw f (m + k) = cw f m + cw (fun i => f (m + i)) k
  | 0 => by simp [cw]
  | k + 1 => by show cw f (m + k) + f (m + k) = _ + (_ + f (m + k)); rw [m9 f m k]; omega
theorem rV (f : Nat → Int) (k : Nat) : ∀ n, cw f (n * k) = cw (fun b => cw (fun t => f (b * k + t)) k) n
  | 0 => by rw [Nat.zero_mul]; rfl
  | n + 1 => by rw [Nat.succ_mul, m9, rV f k n]; rfl
theorem nN {b b' d d' D : Nat} (h : d < D) (h' : d' < D) (e : b * D + d = b' * D + d') : b = b' ∧ d = d' := by
 rcases Nat.lt_trichotomy b b' with h1 | h1 | h1
 ·have := Nat.mul_le_mul_right D (show b + 1 ≤ b' from h1)
  rw [Nat.succ_mul] at this; omega
 ·subst h1; omega
 have := Nat.mul_le_mul_right D (show b' + 1 ≤ b from h1)
 rw [Nat.succ_mul] at this; omega
section
variable {y : aj} {c : Nat → Bool} {a : dg} {x : List Int} {b t : Nat}
theorem D_eq (hr : y.bY) : (y.D : Int) = y.days := by have := hr.days; unfold aj.D; omega
theorem j3 (hb : b < y.bins.length) (ht : t < y.D) : b * y.D + t < y.cells := by
 have := Nat.mul_le_mul_right y.D (show b + 1 ≤ y.bins.length from hb)
 unfold aj.cells; rw [Nat.succ_mul] at this; omega
theorem iU (hr : y.bY) (b t : Nat) : y.cell b t = ((b * y.D + t : Nat) : Int) := by
 unfold aj.cell
 rw [if_neg (by omega), ← D_eq hr]; simp
theorem qK (hr : y.bY) (d : Int) : y.cell (-1) d = (y.cells : Nat) := by
 unfold aj.cell aj.cells
 rw [if_pos rfl, ← D_eq hr]; simp
theorem oX (hr : y.bY) {s d : Int} (hs : -1 ≤ s ∧ s < y.bins.length) (hd : 0 ≤ d ∧ d < y.days) (hb : b < y.bins.length) (ht : t < y.D) : y.cell s d = ((b * y.D + t : Nat) : Int) ↔ s = b ∧ d = t := by
 have hD := D_eq hr
 by_cases e : s = -1
 ·subst e
  rw [qK hr]
  have := j3 hb ht
  constructor
  ·intro h; omega
  intro h; omega
 obtain ⟨s', rfl⟩ : ∃ s' : Nat, s = s' := ⟨s.toNat, by omega⟩
 obtain ⟨d', rfl⟩ : ∃ d' : Nat, d = d' := ⟨d.toNat, by omega⟩
 rw [iU hr]
 constructor
 ·intro h
  obtain ⟨h1, h2⟩ := nN (D := y.D) (show d' < y.D by omega) ht (Int.ofNat.inj h)
  exact ⟨by rw [h1], by rw [h2]⟩
 rintro ⟨h1, h2⟩
 have h1 : s' = b := by omega
 have h2 : d' = t := by omega
 rw [h1, h2]
theorem wL (hr : y.bY) {s d : Int} (hs : -1 ≤ s ∧ s < y.bins.length) (hd : 0 ≤ d ∧ d < y.days) : 0 ≤ y.cell s d ∧ y.cell s d < ((y.cells + 1 : Nat) : Int) := by
 have hD := D_eq hr
 by_cases e : s = -1
 ·subst e; rw [qK hr]; omega
 obtain ⟨s', rfl⟩ : ∃ s' : Nat, s = s' := ⟨s.toNat, by omega⟩
 obtain ⟨d', rfl⟩ : ∃ d' : Nat, d = d' := ⟨d.toNat, by omega⟩
 rw [iU hr]
 have := j3 (y := y) (b := s') (t := d') (by omega) (by omega)
 omega
theorem wY (hr : y.bY) (ht : t ≤ y.D) : (GQ y c b t).src = ((if 0 < t then b * y.D + (t - 1) else y.cells : Nat) : Int) := by
 show (if 0 < t then y.cell b ((t : Int) - 1) else (y.cells : Int)) = _
 by_cases e : 0 < t
 ·rw [if_pos e, if_pos e, show (t : Int) - 1 = ((t - 1 : Nat) : Int) by omega, iU hr]
 rw [if_neg e, if_neg e]
theorem wO (hr : y.bY) : (GQ y c b t).dst = ((if t < y.D then b * y.D + t else y.cells : Nat) : Int) := by
 show (if t < y.D then y.cell b t else (y.cells : Int)) = _
 by_cases e : t < y.D
 ·rw [if_pos e, if_pos e, iU hr]
 rw [if_neg e, if_neg e]
theorem jK (hr : y.bY) : Net (aO y c) (y.cells + 1) := by
 have hD := D_eq hr
 have hd := hr.days
 refine ⟨fun i hi => ?_, fun i hi => ?_, fun i hi => ?_⟩
 ·rcases oP hi with ⟨b, t, hb, ht, rfl⟩ | ⟨k, hk, rfl⟩
  ·rw [gR hb ht, wY hr ht]
   split
   ·have := j3 (y := y) (b := b) (t := t - 1) hb (by omega); omega
   omega
  rw [gT hk]
  obtain ⟨h1, h2, _⟩ := hr.move _ (cT hk)
  exact wL hr h2 h1
 ·rcases oP hi with ⟨b, t, hb, ht, rfl⟩ | ⟨k, hk, rfl⟩
  ·rw [gR hb ht, wO hr]
   split
   ·have := j3 (y := y) (b := b) (t := t) hb (by omega); omega
   omega
  rw [gT hk]
  obtain ⟨h1, _, h3, _⟩ := hr.move _ (cT hk)
  exact wL hr h3 h1
 rcases oP hi with ⟨b, t, hb, ht, rfl⟩ | ⟨k, hk, rfl⟩
 ·rw [gR hb ht, wO hr, wY hr ht]
  by_cases e1 : 0 < t <;> by_cases e2 : t < y.D
  ·rw [if_pos e1, if_pos e2]; omega
  ·rw [if_pos e1, if_neg e2]
   have := j3 (y := y) (b := b) (t := t - 1) hb (by omega); omega
  ·rw [if_neg e1, if_pos e2]
   have := j3 (y := y) (b := b) (t := t) hb (by omega); omega
  omega
 rw [gT hk]
 obtain ⟨h1, h2, h3, h4, _⟩ := hr.move _ (cT hk)
 show y.cell _ _ ≠ y.cell _ _
 intro e
 by_cases e1 : (nth y.moves k).dst = -1
 ·by_cases e2 : (nth y.moves k).src = -1
  ·exact h4 (e2.trans e1.symm)
  obtain ⟨s, hs⟩ : ∃ s : Nat, (nth y.moves k).src = s := ⟨(nth y.moves k).src.toNat, by omega⟩
  obtain ⟨d, hd⟩ : ∃ d : Nat, (nth y.moves k).day = d := ⟨(nth y.moves k).day.toNat, by omega⟩
  rw [e1, hs, hd, qK hr, iU hr] at e
  have := j3 (y := y) (b := s) (t := d) (by omega) (by omega)
  omega
 obtain ⟨s, hs⟩ : ∃ s : Nat, (nth y.moves k).dst = s := ⟨(nth y.moves k).dst.toNat, by omega⟩
 obtain ⟨d, hd⟩ : ∃ d : Nat, (nth y.moves k).day = d := ⟨(nth y.moves k).day.toNat, by omega⟩
 have e' : y.cell (nth y.moves k).src (nth y.moves k).day = ((s * y.D + d : Nat) : Int) := by rw [e, hs, hd, iU hr]
 have := (oX hr h2 h1 (show s < y.bins.length by omega) (show d < y.D by omega)).1 e'
 exact h4 (this.1.trans hs.symm)
def rC (y : aj) (m : List Int) (b : Nat) (i : Nat) : Int := (ind ((nth y.moves i).dst = b) - ind ((nth y.moves i).src = b)) * nth m i
def dL (y : aj) (a : dg) (b t : Nat) : Int := nth a.first b + cw (fun i => if (nth y.moves i).day < t then rC y a.cD b i else 0) y.moves.length
def K5 (y : aj) (m : List Int) (b t : Nat) : Int := cw (fun i => if (nth y.moves i).day = t then rC y m b i else 0) y.moves.length
theorem qW (hr : y.bY) : dL y a b 0 = nth a.first b := by
 unfold dL
 rw [gD fun i hi => by have := (hr.move _ (cT hi)).1; rw [if_neg (by omega)]]; omega
theorem zC : dL y a b (t + 1) = dL y a b t + K5 y a.cD b t := by
 unfold dL K5
 rw [Int.add_assoc, ← wP]
 congr 1
 refine fU fun i _ => ?_
 by_cases e : (nth y.moves i).day < (t : Int)
 ·rw [if_pos e, if_pos (by omega), if_neg (by omega)]; omega
 by_cases e2 : (nth y.moves i).day = t
 ·rw [if_neg e, if_pos (by omega), if_pos e2]; omega
 rw [if_neg e, if_neg (by omega), if_neg e2]; rfl
theorem z7 (hr : y.bY) (hx : x.length = (aO y c).length) (hb : b < y.bins.length) (ht : t < y.D) :
 over (aO y c) x ((b * y.D + t : Nat) : Int) = nth x (y.kept b t) - nth x (y.kept b (t + 1)) + K5 y (x.drop (y.bins.length * (y.D + 1))) b t := by
 unfold over
 rw [fH, m9, rV]
 congr 1
 ·have hcl := j3 hb ht
  have key : ∀ b' t', b' < y.bins.length → t' < y.D + 1 → (ind ((nth (aO y c) (b' * (y.D + 1) + t')).dst = ((b * y.D + t : Nat) : Int)) - ind ((nth (aO y c) (b' * (y.D + 1) + t')).src = ((b * y.D + t : Nat) : Int))) * nth x (b' * (y.D + 1) + t') = (ind (b' = b ∧ t' = t) - ind (b' = b ∧ t' = t + 1)) * nth x (b' * (y.D + 1) + t') := by
   intro b' t' hb' ht'
   have hk := gR (c := c) hb' (show t' ≤ y.D by omega)
   unfold aj.kept at hk
   rw [hk, wO hr, wY hr (by omega)]
   congr 1
   have e1 : ind (((if t' < y.D then b' * y.D + t' else y.cells : Nat) : Int) = ((b * y.D + t : Nat) : Int)) = ind (b' = b ∧ t' = t) := by
    by_cases e : t' < y.D
    ·rw [if_pos e]
     by_cases h : b' = b ∧ t' = t
     ·rw [fX h, fX (by rw [h.1, h.2])]
     have hne : ¬ (((b' * y.D + t' : Nat) : Int) = ((b * y.D + t : Nat) : Int)) := fun e' => h (nN e ht (Int.ofNat.inj e'))
     rw [fF h, fF hne]
    rw [if_neg e, fF (by omega), fF (by omega)]
   have e2 : ind (((if 0 < t' then b' * y.D + (t' - 1) else y.cells : Nat) : Int) = ((b * y.D + t : Nat) : Int)) = ind (b' = b ∧ t' = t + 1) := by
    by_cases e : 0 < t'
    ·rw [if_pos e]
     by_cases h : b' = b ∧ t' = t + 1
     ·rw [fX h, fX (by rw [h.1, h.2]; rfl)]
     have hne : ¬ (((b' * y.D + (t' - 1) : Nat) : Int) = ((b * y.D + t : Nat) : Int)) := fun e' => h (by have := nN (show t' - 1 < y.D by omega) ht (Int.ofNat.inj e'); omega)
     rw [fF h, fF hne]
    rw [if_neg e, fF (by omega), fF (by omega)]
   rw [e1, e2]
  rw [fU fun b' hb' => fU fun t' ht' => key b' t' hb' ht']
  rw [kG hb fun b' _ hn => gD fun t' _ => by rw [fF (fun h => hn h.1), fF (fun h => hn h.1)]; simp]
  rw [fU (g := fun t' => ind (t' = t) * nth x (b * (y.D + 1) + t') - ind (t' = t + 1) * nth x (b * (y.D + 1) + t')) fun t' _ => by
   rw [Int.sub_mul]; congr 2 <;> (unfold ind; simp)]
  rw [kI, kG (k := t) (by omega) fun i _ hn => by rw [fF hn, Int.zero_mul], kG (k := t + 1) (by omega) fun i _ hn => by rw [fF hn, Int.zero_mul], fX rfl, fX rfl, Int.one_mul, Int.one_mul]
  rfl
 unfold K5 rC
 refine fU fun i hi => ?_
 obtain ⟨h1, h2, h3, _⟩ := hr.move _ (cT hi)
 rw [gT hi]
 show (ind (y.cell _ _ = _) - ind (y.cell _ _ = _)) * _ = _
 have e0 : nth (x.drop (y.bins.length * (y.D + 1))) i = nth x (y.bins.length * (y.D + 1) + i) := by
  unfold nth; rw [List.getD_eq_getElem?_getD, List.getD_eq_getElem?_getD, List.getElem?_drop]
 rw [e0]
 by_cases e : (nth y.moves i).day = t
 ·rw [if_pos e]
  congr 2
  ·by_cases h : (nth y.moves i).dst = b
   ·rw [fX h, fX ((oX hr h3 h1 hb ht).2 ⟨h, e⟩)]
   rw [fF h, fF fun e' => h ((oX hr h3 h1 hb ht).1 e').1]
  by_cases h : (nth y.moves i).src = b
  ·rw [fX h, fX ((oX hr h2 h1 hb ht).2 ⟨h, e⟩)]
  rw [fF h, fF fun e' => h ((oX hr h2 h1 hb ht).1 e').1]
 rw [if_neg e, fF fun e' => e ((oX hr h3 h1 hb ht).1 e').2, fF fun e' => e ((oX hr h2 h1 hb ht).1 e').2]; simp
theorem IZ (hr : y.bY) (h : ∀ b t, b < y.bins.length → t < y.D → over (aO y c) x ((b * y.D + t : Nat) : Int) = 0) : CJ (aO y c) (y.cells + 1) x := by
 have hin : ∀ k, k < y.cells → over (aO y c) x (k : Nat) = 0 := fun k hk => by
  have hD : 0 < y.D := by have := D_eq hr; have := hr.days; omega
  have e := Nat.div_add_mod k y.D
  rw [Nat.mul_comm] at e
  rw [← e]
  exact h _ _ ((Nat.div_lt_iff_lt_mul hD).2 hk) (Nat.mod_lt _ hD)
 intro k hk
 by_cases e : k < y.cells
 ·exact hin k e
 obtain rfl : k = y.cells := by omega
 have h0 := C9 (a := x) (jK (c := c) hr)
 unfold cw at h0
 rw [gD fun i hi => hin i hi] at h0
 omega
def lg (y : aj) (a : dg) : List Int := ((List.range y.bins.length).flatMap fun b => (List.range (y.D + 1)).map (dL y a b)) ++ a.cD
def gN (y : aj) (x : List Int) : dg := ⟨(List.range y.bins.length).map fun b => nth x (y.kept b 0), x.drop (y.bins.length * (y.D + 1))⟩
structure yz (y : aj) (a : dg) : Prop where
  first : a.first.length = y.bins.length
  cD : a.cD.length = y.moves.length
theorem q9 (h : yz y a) : (lg y a).length = (aO y c).length := by
 unfold lg
 rw [List.length_append, mH _ (y.D + 1) _ fun x _ => by rw [List.length_map, List.length_range], List.length_range, h.cD, fH]
theorem ko (hb : b < y.bins.length) (ht : t ≤ y.D) : nth (lg y a) (y.kept b t) = dL y a b t := by
 unfold lg
 rw [hU (by rw [mH _ (y.D + 1) _ fun x _ => by rw [List.length_map, List.length_range], List.length_range]; exact oE hb ht)]
 unfold aj.kept
 rw [uH _ (y.D + 1) _ b t (fun i _ => by rw [List.length_map, List.length_range]) hb (by omega), fI _ (by omega)]
theorem r5 : (lg y a).drop (y.bins.length * (y.D + 1)) = a.cD := by
 unfold lg
 refine List.drop_left' ?_
 rw [mH _ (y.D + 1) _ fun x _ => by rw [List.length_map, List.length_range], List.length_range]
theorem mM {n i : Nat} : nth (x.drop n) i = nth x (n + i) := by
 unfold nth; rw [List.getD_eq_getElem?_getD, List.getD_eq_getElem?_getD, List.getElem?_drop]
theorem sM {i : Nat} : nth (lg y a) (y.bins.length * (y.D + 1) + i) = nth a.cD i := by
 rw [← mM, r5]
theorem Ez (hr : y.bY) (h : yz y a) : CJ (aO y c) (y.cells + 1) (lg y a) := by
 refine IZ hr fun b t hb ht => ?_
 rw [z7 hr (q9 h) hb ht, ko hb (by omega), ko hb (by omega), r5, zC]; omega
theorem uF (hx : x.length = (aO y c).length) : yz y (gN y x) := by
 rw [fH] at hx
 exact ⟨by unfold gN; rw [List.length_map, List.length_range], by unfold gN; rw [List.length_drop]; omega⟩
theorem qh (hr : y.bY) (hx : x.length = (aO y c).length) (he : CJ (aO y c) (y.cells + 1) x) (hb : b < y.bins.length) : ∀ t, t ≤ y.D → dL y (gN y x) b t = nth x (y.kept b t)
  | 0, _ => by rw [qW hr]; exact fI _ hb
  | t + 1, ht => by
    rw [zC, qh hr hx he hb t (by omega)]
    have h := z7 (c := c) hr hx hb (show t < y.D by omega)
    rw [he _ (by have := j3 (y := y) hb (show t < y.D by omega); omega)] at h
    show _ + K5 y (x.drop _) b t = _
    omega
structure eP (y : aj) (c : Nat → Bool) (a : dg) : Prop where
  lens : yz y a
  first : ∀ b, b < y.bins.length → (nth y.bins b).first.lo ≤ nth a.first b ∧ nth a.first b ≤ (nth y.bins b).first.hi
  cont : ∀ b t, b < y.bins.length → t ≤ y.D → 0 ≤ dL y a b t ∧ dL y a b t ≤ (nth y.bins b).holds
  cD : ∀ i, i < y.moves.length → (nth y.moves i).sacks.lo ≤ nth a.cD i ∧ nth a.cD i ≤ (nth y.moves i).sacks.hi
  level : ∀ i, i < y.levels.length → c i = true → (nth y.levels i).sacks.lo ≤ dL y a (nth y.levels i).bin.toNat (nth y.levels i).day.toNat ∧ dL y a (nth y.levels i).bin.toNat (nth y.levels i).day.toNat ≤ (nth y.levels i).sacks.hi
theorem tq {s : Span} {v : Int} : ∀ k, ((dz y c b t s k).lo ≤ v ∧ v ≤ (dz y c b t s k).hi) ↔ (s.lo ≤ v ∧ v ≤ s.hi) ∧ ∀ i, i < k → c i = true → (nth y.levels i).bin = b → (nth y.levels i).day = t → (nth y.levels i).sacks.lo ≤ v ∧ v ≤ (nth y.levels i).sacks.hi
  | 0 => ⟨fun h => ⟨h, fun i hi => by omega⟩, fun h => h.1⟩
  | k + 1 => by
    have ih := tq (s := s) (v := v) k
    unfold dz
    split
    · rename_i hc
      simp only [Bool.and_eq_true, decide_eq_true_eq] at hc
      constructor
      · intro h
        have h : max _ _ ≤ v ∧ v ≤ min _ _ := h
        obtain ⟨h1, h2⟩ := ih.1 ⟨by omega, by omega⟩
        refine ⟨h1, fun i hi hci hb ht => ?_⟩
        by_cases e : i = k
        · subst e; exact ⟨by omega, by omega⟩
        · exact h2 i (by omega) hci hb ht
      · rintro ⟨h1, h2⟩
        have h3 := ih.2 ⟨h1, fun i hi => h2 i (by omega)⟩
        have h4 := h2 k (by omega) hc.1.1 hc.1.2 hc.2
        show max _ _ ≤ v ∧ v ≤ min _ _
        omega
    · rename_i hc
      simp only [Bool.and_eq_true, decide_eq_true_eq, not_and] at hc
      rw [ih]
      constructor
      · rintro ⟨h1, h2⟩
        refine ⟨h1, fun i hi hci hb ht => ?_⟩
        by_cases e : i = k
        · subst e; exact absurd ht (hc ⟨hci, hb⟩)
        · exact h2 i (by omega) hci hb ht
      · rintro ⟨h1, h2⟩
        exact ⟨h1, fun i hi => h2 i (by omega)⟩
theorem Ck (hr : y.bY) (hl : yz y a) : eP y c a ↔ ya (aO y c) (lg y a) := by
 have hD := D_eq hr
 constructor
 ·intro h
  refine ⟨q9 hl, fun i hi => ?_⟩
  rcases oP hi with ⟨b, t, hb, ht, rfl⟩ | ⟨k, hk, rfl⟩
  ·rw [gR hb ht, ko hb ht]
   show (l7 y c b t).lo ≤ _ ∧ _ ≤ (l7 y c b t).hi
   unfold l7
   refine (tq _).2 ⟨?_, fun i hi hc e1 e2 => ?_⟩
   ·have h1 := h.cont b t hb ht
    unfold dj
    split
    ·exact h1
    rename_i e
    obtain rfl : t = 0 := by omega
    rw [qW hr] at *
    have h2 := h.first b hb
    show max _ _ ≤ _ ∧ _ ≤ min _ _; omega
   have := h.level i hi hc
   rw [e1, e2] at this; exact this
  rw [gT hk, sM]; exact h.cD k hk
 intro h
 have hk : ∀ b t, b < y.bins.length → t ≤ y.D → ((dj y b t).lo ≤ dL y a b t ∧ dL y a b t ≤ (dj y b t).hi) ∧ ∀ i, i < y.levels.length → c i = true → (nth y.levels i).bin = b → (nth y.levels i).day = t → (nth y.levels i).sacks.lo ≤ dL y a b t ∧ dL y a b t ≤ (nth y.levels i).sacks.hi := fun b t hb ht => by
  have h1 := h.2 (y.kept b t) (by rw [fH]; have := oE hb ht; omega)
  rw [gR hb ht, ko hb ht] at h1
  exact (tq _).1 h1
 refine ⟨hl, fun b hb => ?_, fun b t hb ht => ?_, fun i hi => ?_, fun i hi hc => ?_⟩
 ·have h1 := (hk b 0 hb (Nat.zero_le _)).1
  unfold dj at h1
  rw [if_neg (by omega), qW hr] at h1
  have h1 : max _ _ ≤ _ ∧ _ ≤ min _ _ := h1
  omega
 ·have h1 := (hk b t hb ht).1
  unfold dj at h1
  split at h1
  ·exact h1
  have h1 : max _ _ ≤ _ ∧ _ ≤ min _ _ := h1
  omega
 ·have h1 := h.2 (y.bins.length * (y.D + 1) + i) (by rw [fH]; omega)
  rw [gT hi, sM] at h1; exact h1
 obtain ⟨h1, h2, _⟩ := hr.level _ (cT hi)
 exact (hk (nth y.levels i).bin.toNat (nth y.levels i).day.toNat (by omega) (by omega)).2 i hi hc (by omega) (by omega)
theorem D1 (hr : y.bY) (hx : x.length = (aO y c).length) (he : CJ (aO y c) (y.cells + 1) x) {i : Nat} (hi : i < (aO y c).length) : nth (lg y (gN y x)) i = nth x i := by
 rcases oP hi with ⟨b, t, hb, ht, rfl⟩ | ⟨k, hk, rfl⟩
 ·rw [ko hb ht, qh hr hx he hb t ht]
 rw [sM]; show nth (x.drop _) k = _; rw [mM]
theorem qg (hr : y.bY) (h : iG (aO y c) (y.cells + 1) x) : eP y c (gN y x) := by
 refine (Ck hr (uF h.1.1)).2 ⟨q9 (uF h.1.1), fun i hi => ?_⟩
 rw [D1 hr h.1.1 h.2 hi]; exact h.1.2 i hi
theorem jG (hr : y.bY) (h : eP y c a) : iG (aO y c) (y.cells + 1) (lg y a) := ⟨(Ck hr h.lens).1 h, Ez hr h.lens⟩
theorem tL (hr : y.bY) : Bd (aO y c) := fun i hi => by
 rcases oP hi with ⟨b, t, hb, ht, rfl⟩ | ⟨k, hk, rfl⟩
 ·rw [gR hb ht]
  obtain ⟨h1, h2, h3⟩ := hr.bin _ (cT hb)
  have h4 := B1 (y := y) (c := c) (b := b) (t := t) (dj y b t) y.levels.length
  show 0 ≤ (l7 y c b t).lo ∧ (l7 y c b t).hi ≤ 300
  unfold l7
  have h5 : 0 ≤ (dj y b t).lo ∧ (dj y b t).hi ≤ 300 := by
   unfold dj; split
   ·exact ⟨Int.le_refl _, h1.2⟩
   show 0 ≤ max _ _ ∧ min _ _ ≤ 300; omega
  omega
 rw [gT hk]
 exact (hr.move _ (cT hk)).2.2.2.2.1
end
end Go.Proofs.YtelbollidfdcjaaGreat
namespace Go.Proofs.YtelbollidfdcjaaGreat
open Go Go.T
section
variable {fl : List cB} {a x : List Int} {n : Nat} {has : Nat → Bool}
def cy (has : Nat → Bool) (less : Bool) (i : Nat) : Int := if has i = true then (if less = true then -1 else 1) else 0
theorem tW (less : Bool) (i : Nat) : -1 ≤ cy has less i ∧ cy has less i ≤ 1 := by
 unfold cy; split
 ·split <;> omega
 omega
def jM (fl : List cB) (has : Nat → Bool) (x : List Int) : Int := cw (fun i => if has i = true then nth x i else 0) fl.length
theorem y6 : l6 fl (cy has false) x = jM fl has x := by
 unfold l6 jM cy
 refine fU fun i _ => ?_
 cases has i <;> simp
theorem zj : l6 fl (cy has true) x = - jM fl has x := by
 unfold l6 jM cy
 have e : (fun i => (if has i = true then (if (true = true) then (-1 : Int) else 1) else 0) * nth x i) = fun i => (-1) * (if has i = true then nth x i else 0) := by
  funext i
  cases has i <;> simp
 rw [e, tR]; omega
structure oV (fl : List cB) (n : Nat) (has : Nat → Bool) (s : Span) : Prop where
  lo : ∃ x, iG fl n x ∧ jM fl has x = s.lo
  hi : ∃ x, iG fl n x ∧ jM fl has x = s.hi
  all : ∀ x, iG fl n x → s.lo ≤ jM fl has x ∧ jM fl has x ≤ s.hi
theorem oV.one {s s' : Span} (h : oV fl n has s) (h' : oV fl n has s') : s = s' := by
 obtain ⟨x1, f1, e1⟩ := h.lo
 obtain ⟨x2, f2, e2⟩ := h.hi
 obtain ⟨y1, g1, d1⟩ := h'.lo
 obtain ⟨y2, g2, d2⟩ := h'.hi
 have a1 := h.all y1 g1
 have a2 := h.all y2 g2
 have b1 := h'.all x1 f1
 have b2 := h'.all x2 f2
 cases s; cases s'
 simp only at *
 congr 1 <;> omega
open Classical in
noncomputable def iF (fl : List cB) (n : Nat) (has : Nat → Bool) : Span := if h : ∃ s, oV fl n has s then h.choose else default
theorem oV.eq {s : Span} (h : oV fl n has s) : iF fl n has = s := by
 have hx : ∃ s, oV fl n has s := ⟨s, h⟩
 unfold iF; rw [dif_pos hx]; exact hx.choose_spec.one h
noncomputable def Bj (fl : List cB) (n : Nat) (has : Nat → Bool) (a : List Int) : List Int := gu fl n (cy has true) a
noncomputable def yp (fl : List cB) (n : Nat) (has : Nat → Bool) (a : List Int) : List Int := gu fl n (cy has false) (Bj fl n has a)
theorem sP (hN : Net fl n) (hn : 0 < n) (hB : Bd fl) (h : iG fl n a) : iG fl n (Bj fl n has a) ∧ iG fl n (yp fl n has a) ∧ oV fl n has ⟨jM fl has (Bj fl n has a), jM fl has (yp fl n has a)⟩ := by
 obtain ⟨h1, h2⟩ := zF hN hn hB (tW (has := has) true) h
 obtain ⟨h3, h4⟩ := zF hN hn hB (tW (has := has) false) h1
 refine ⟨h1, h3, ⟨_, h1, rfl⟩, ⟨_, h3, rfl⟩, fun x hx => ⟨?_, ?_⟩⟩
 ·have := h2 x hx
  rw [zj, zj] at this
  show jM fl has (gu fl n (cy has true) a) ≤ _
  omega
 have := h4 x hx
 rw [y6, y6] at this
 exact this
def fN (fl : List cB) : List Int := fl.map cB.lo
theorem K6 (h : ∀ i, i < fl.length → (nth fl i).lo ≤ (nth fl i).hi) : ya fl (fN fl) := by
 unfold fN
 exact ⟨by rw [List.length_map], fun i hi => by rw [nQ _ hi]; exact ⟨Int.le_refl _, h i hi⟩⟩
def iC (fl : List cB) : Bool := fl.all fun f => decide (f.lo ≤ f.hi)
theorem Ja (h : iC fl = false) : ¬ ∃ x, iG fl n x := by
 rintro ⟨x, hx⟩
 unfold iC at h
 rw [List.all_eq_false] at h
 obtain ⟨f, hf, h⟩ := h
 obtain ⟨i, hi, rfl⟩ := mE hf
 have := hx.1.2 i hi
 rw [decide_eq_true_eq] at h; omega
theorem AS (h : iC fl = true) : ∀ i, i < fl.length → (nth fl i).lo ≤ (nth fl i).hi := fun i hi => by
 unfold iC at h
 rw [List.all_eq_true] at h
 exact of_decide_eq_true (h _ (cT hi))
noncomputable def bh (fl : List cB) (n : Nat) (a : List Int) : Int × Bool × List Int := if iC fl = true then gV fl n a else (0, true, a)
theorem mQ (e : iC fl = true) : bh fl n a = gV fl n a := if_pos e
theorem AG (e : iC fl = false) : bh fl n a = (0, true, a) := if_neg (by rw [e]; decide)
theorem zS (hN : Net fl n) (ha : iC fl = true → ya fl a) (h : (bh fl n a).2.1 = false) : iG fl n (bh fl n a).2.2 := by
  cases e : iC fl with
  | true => rw [mQ e] at h ⊢; exact ux.some (pz hN (ha e)) h
  | false => rw [AG e] at h; cases h
theorem MG (hN : Net fl n) (ha : iC fl = true → ya fl a) (h : (bh fl n a).2.1 = true) : ¬ ∃ x, iG fl n x := by
  cases e : iC fl with
  | true => rw [mQ e] at h; exact (pz hN (ha e)).none hN h
  | false => exact Ja e
end
end Go.Proofs.YtelbollidfdcjaaGreat
namespace Go.Proofs.YtelbollidfdcjaaGreat
open Go Go.T
structure Ds (y : aj) (c : Nat → Bool) (f : dg → Int) (s : Span) : Prop where
  lo : ∃ a, eP y c a ∧ f a = s.lo
  hi : ∃ a, eP y c a ∧ f a = s.hi
  all : ∀ a, eP y c a → s.lo ≤ f a ∧ f a ≤ s.hi
section
variable {y : aj} {c : Nat → Bool} {f : dg → Int} {s s' : Span} {a : dg} {x : List Int} {b t k : Nat} {has : Nat → Bool}
theorem Ds.one (h : Ds y c f s) (h' : Ds y c f s') : s = s' := by
 obtain ⟨x1, f1, e1⟩ := h.lo
 obtain ⟨x2, f2, e2⟩ := h.hi
 obtain ⟨y1, g1, d1⟩ := h'.lo
 obtain ⟨y2, g2, d2⟩ := h'.hi
 have a1 := h.all y1 g1
 have a2 := h.all y2 g2
 have b1 := h'.all x1 f1
 have b2 := h'.all x2 f2
 cases s; cases s'
 simp only at *
 congr 1 <;> omega
theorem tv {α : Type} [Inhabited α] {l k : List α} (h : l.length = k.length) (h2 : ∀ i, i < l.length → nth l i = nth k i) : l = k := by
 refine List.ext_getElem h fun i h1 h3 => ?_
 have := h2 i h1
 unfold nth at this
 rw [List.getD_eq_getElem?_getD, List.getD_eq_getElem?_getD, List.getElem?_eq_getElem h1, List.getElem?_eq_getElem h3] at this
 exact this
theorem uG (hr : y.bY) (h : yz y a) : gN y (lg y a) = a := by
  cases a with
  | mk p q =>
    have h1 : (gN y (lg y ⟨p, q⟩)).cD = q := r5
    have h2 : (gN y (lg y ⟨p, q⟩)).first = p := by
      have hl := (uF (y := y) (c := fun _ => true) (q9 h)).first
      refine tv (hl.trans h.first.symm) fun i hi => ?_
      rw [hl] at hi
      show nth ((List.range y.bins.length).map fun b => nth (lg y ⟨p, q⟩) (y.kept b 0)) i = _
      rw [fI _ hi, ko hi (Nat.zero_le _), qW hr]
    cases e : gN y (lg y ⟨p, q⟩) with
    | mk u v => rw [e] at h1 h2; subst h1; subst h2; rfl
theorem Pw (hr : y.bY) (h1 : ∀ x, iG (aO y c) (y.cells + 1) x → jM (aO y c) has x = f (gN y x)) : oV (aO y c) (y.cells + 1) has s ↔ Ds y c f s := by
 constructor
 ·rintro ⟨⟨u, hu, eu⟩, ⟨v, hv, ev⟩, hall⟩
  refine ⟨⟨_, qg hr hu, by rw [← h1 _ hu, eu]⟩, ⟨_, qg hr hv, by rw [← h1 _ hv, ev]⟩, fun a ha => ?_⟩
  have h2 := hall _ (jG hr ha)
  rw [h1 _ (jG hr ha), uG hr ha.lens] at h2
  exact h2
 rintro ⟨⟨u, hu, eu⟩, ⟨v, hv, ev⟩, hall⟩
 refine ⟨⟨_, jG hr hu, by rw [h1 _ (jG hr hu), uG hr hu.lens, eu]⟩, ⟨_, jG hr hv, by rw [h1 _ (jG hr hv), uG hr hv.lens, ev]⟩, fun x hx => ?_⟩
 rw [h1 _ hx]
 exact hall _ (qg hr hx)
theorem yR (hr : y.bY) (h1 : ∀ x, iG (aO y c) (y.cells + 1) x → jM (aO y c) has x = f (gN y x)) (h : ∃ a, eP y c a) : Ds y c f (iF (aO y c) (y.cells + 1) has) := by
 obtain ⟨a, ha⟩ := h
 obtain ⟨_, _, hs⟩ := sP (has := has) (jK hr) (Nat.succ_pos _) (tL hr) (jG hr ha)
 rw [hs.eq]
 exact (Pw hr h1).1 hs
theorem Bw {fl : List cB} (hk : k < fl.length) : jM fl (fun i => decide ((i : Int) = (k : Int))) x = nth x k := by
 unfold jM
 rw [kG hk fun i _ hn => if_neg (by rw [decide_eq_true_eq]; omega)]
 exact if_pos (decide_eq_true rfl)
theorem NZ (hr : y.bY) (hb : b < y.bins.length) (ht : t ≤ y.D) (hx : iG (aO y c) (y.cells + 1) x) : jM (aO y c) (fun i => decide ((i : Int) = ((y.kept b t : Nat) : Int))) x = dL y (gN y x) b t := by
 rw [Bw (by rw [fH]; have := oE hb ht; omega), qh hr hx.1.1 hx.2 hb t ht]
theorem JF (hk : k < y.moves.length) : jM (aO y c) (fun i => decide ((i : Int) = ((y.bins.length * (y.D + 1) + k : Nat) : Int))) x = nth (gN y x).cD k := by
 rw [Bw (by rw [fH]; omega)]
 exact mM.symm
theorem HC (hr : y.bY) (ht : t ≤ y.D) (hx : iG (aO y c) (y.cells + 1) x) : jM (aO y c) (fun i => (List.range y.bins.length).any fun b => decide ((i : Int) = ((y.kept b t : Nat) : Int))) x = cw (fun b => dL y (gN y x) b t) y.bins.length := by
 unfold jM
 rw [fH, m9, rV, gD (n := y.moves.length) fun i _ => ?_, Int.add_zero]
 ·refine fU fun b hb => ?_
  rw [qh hr hx.1.1 hx.2 hb t ht]
  have key : ∀ t', t' < y.D + 1 → (((List.range y.bins.length).any fun b' => decide (((b * (y.D + 1) + t' : Nat) : Int) = ((y.kept b' t : Nat) : Int))) = decide (t' = t)) := fun t' ht' => by
   rw [Bool.eq_iff_iff, List.any_eq_true, decide_eq_true_eq]
   constructor
   ·rintro ⟨b', _, he⟩
    have he := of_decide_eq_true he
    unfold aj.kept at he
    exact (nN (D := y.D + 1) ht' (by omega) (Int.ofNat.inj he)).2
   rintro rfl
   exact ⟨b, List.mem_range.2 hb, decide_eq_true rfl⟩
  rw [fU (g := fun t' => if decide (t' = t) = true then nth x (b * (y.D + 1) + t') else 0) fun t' ht' => by show (if ((List.range y.bins.length).any fun b' => decide (((b * (y.D + 1) + t' : Nat) : Int) = ((y.kept b' t : Nat) : Int))) = true then _ else _) = _; rw [key t' ht']]
  rw [kG (k := t) (by omega) fun i _ hn => if_neg (by rw [decide_eq_true_eq]; exact hn), if_pos (decide_eq_true rfl)]
  rfl
 refine if_neg ?_
 rw [List.any_eq_true]
 rintro ⟨b, hb, he⟩
 have he := of_decide_eq_true he
 have := oE (List.mem_range.1 hb) ht
 omega
theorem kj (hr : y.bY) : (bh (aO y c) (y.cells + 1) (fN (aO y c))).2.1 = false ↔ ∃ a, eP y c a := by
  have hi : iC (aO y c) = true → ya (aO y c) (fN (aO y c)) := fun e => K6 (AS e)
  constructor
  · intro h; exact ⟨_, qg hr (zS (jK hr) hi h)⟩
  · rintro ⟨a, ha⟩
    cases e : (bh (aO y c) (y.cells + 1) (fN (aO y c))).2.1 with
    | false => rfl
    | true => exact absurd ⟨_, jG hr ha⟩ (MG (jK hr) hi e)
end
end Go.Proofs.YtelbollidfdcjaaGreat
namespace Go.Proofs.YtelbollidfdcjaaGreat
open Go Go.T
def types : List TI := [
  ⟨.other, 1, 0, [.tuple #[]]⟩,
  ⟨.func, 1, 8, [.nilFunc]⟩,
  ⟨.int .i64, 1, 8, [.int .i64 0]⟩,
  ⟨.int .i64, 1, 8, [.int .i64 0]⟩,
  ⟨.bool, 1, 1, [.bool false]⟩,
  ⟨.int .u8, 1, 1, [.int .u8 0]⟩,
  ⟨.int .u8, 1, 1, [.int .u8 0]⟩,
  ⟨.struct [(0, 2), (1, 3), (2, 4), (3, 6)], 4, 24, [.int .i64 0, .int .i64 0, .bool false, .int .u8 0]⟩,
  ⟨.struct [(0, 2), (1, 3), (2, 4), (3, 6)], 4, 24, [.int .i64 0, .int .i64 0, .bool false, .int .u8 0]⟩,
  ⟨.string, 1, 16, [.string ByteArray.empty]⟩,
  ⟨.string, 1, 16, [.string ByteArray.empty]⟩,
  ⟨.string, 1, 16, [.string ByteArray.empty]⟩,
  ⟨.int .u64, 1, 8, [.int .u64 0]⟩,
  ⟨.struct [(0, 9), (1, 12)], 2, 24, [.string ByteArray.empty, .int .u64 0]⟩,
  ⟨.struct [(0, 9), (1, 12)], 2, 24, [.string ByteArray.empty, .int .u64 0]⟩,
  ⟨.ptr 238, 1, 8, [.pointer none]⟩,
  ⟨.ptr 241, 1, 8, [.pointer none]⟩,
  ⟨.ptr 249, 1, 8, [.pointer none]⟩,
  ⟨.struct [(0, 17)], 1, 8, [.pointer none]⟩,
  ⟨.struct [(0, 17)], 1, 8, [.pointer none]⟩,
  ⟨.other, 1, 16, [.nilIface]⟩,
  ⟨.int .i32, 1, 4, [.int .i32 0]⟩,
  ⟨.slice 5, 1, 24, [.slice none 0 0]⟩,
  ⟨.slice 39, 1, 24, [.slice none 0 0]⟩,
  ⟨.slice 41, 1, 24, [.slice none 0 0]⟩,
  ⟨.slice 102, 1, 24, [.slice none 0 0]⟩,
  ⟨.struct [(0, 3), (1, 23), (2, 24), (3, 25)], 4, 80, [.int .i64 0, .slice none 0 0, .slice none 0 0, .slice none 0 0]⟩,
  ⟨.struct [(0, 3), (1, 23), (2, 24), (3, 25)], 4, 80, [.int .i64 0, .slice none 0 0, .slice none 0 0, .slice none 0 0]⟩,
  ⟨.slice 3, 1, 24, [.slice none 0 0]⟩,
  ⟨.struct [(0, 28), (1, 28)], 2, 48, [.slice none 0 0, .slice none 0 0]⟩,
  ⟨.struct [(0, 28), (1, 28)], 2, 48, [.slice none 0 0, .slice none 0 0]⟩,
  ⟨.other, 1, 0, [.tuple #[.agg #[.int .i64 0, .slice none 0 0, .slice none 0 0, .slice none 0 0], .agg #[.slice none 0 0, .slice none 0 0]]]⟩,
  ⟨.func, 1, 8, [.nilFunc]⟩,
  ⟨.ptr 149, 1, 8, [.pointer none]⟩,
  ⟨.func, 1, 8, [.nilFunc]⟩,
  ⟨.func, 1, 8, [.nilFunc]⟩,
  ⟨.struct [(0, 3), (1, 3)], 2, 16, [.int .i64 0, .int .i64 0]⟩,
  ⟨.struct [(0, 3), (1, 3)], 2, 16, [.int .i64 0, .int .i64 0]⟩,
  ⟨.struct [(0, 3), (1, 37)], 3, 24, [.int .i64 0, .int .i64 0, .int .i64 0]⟩,
  ⟨.struct [(0, 3), (1, 37)], 3, 24, [.int .i64 0, .int .i64 0, .int .i64 0]⟩,
  ⟨.struct [(0, 3), (1, 3), (2, 3), (3, 37)], 5, 40, [.int .i64 0, .int .i64 0, .int .i64 0, .int .i64 0, .int .i64 0]⟩,
  ⟨.struct [(0, 3), (1, 3), (2, 3), (3, 37)], 5, 40, [.int .i64 0, .int .i64 0, .int .i64 0, .int .i64 0, .int .i64 0]⟩,
  ⟨.func, 1, 8, [.nilFunc]⟩,
  ⟨.slice 37, 1, 24, [.slice none 0 0]⟩,
  ⟨.int .i64, 1, 8, [.int .i64 0]⟩,
  ⟨.other, 1, 0, [.tuple #[.slice none 0 0, .int .i64 0]]⟩,
  ⟨.func, 1, 8, [.nilFunc]⟩,
  ⟨.func, 1, 8, [.nilFunc]⟩,
  ⟨.func, 1, 8, [.nilFunc]⟩,
  ⟨.func, 1, 8, [.nilFunc]⟩,
  ⟨.func, 1, 8, [.nilFunc]⟩,
  ⟨.func, 1, 8, [.nilFunc]⟩,
  ⟨.func, 1, 8, [.nilFunc]⟩,
  ⟨.func, 1, 8, [.nilFunc]⟩,
  ⟨.func, 1, 8, [.nilFunc]⟩,
  ⟨.func, 1, 8, [.nilFunc]⟩,
  ⟨.slice 163, 1, 24, [.slice none 0 0]⟩,
  ⟨.slice 164, 1, 24, [.slice none 0 0]⟩,
  ⟨.slice 165, 1, 24, [.slice none 0 0]⟩,
  ⟨.struct [(0, 3), (1, 56), (2, 57), (3, 58)], 4, 80, [.int .i64 0, .slice none 0 0, .slice none 0 0, .slice none 0 0]⟩,
  ⟨.struct [(0, 3), (1, 56), (2, 57), (3, 58)], 4, 80, [.int .i64 0, .slice none 0 0, .slice none 0 0, .slice none 0 0]⟩,
  ⟨.func, 1, 8, [.nilFunc]⟩,
  ⟨.func, 1, 8, [.nilFunc]⟩,
  ⟨.slice 43, 1, 24, [.slice none 0 0]⟩,
  ⟨.slice 4, 1, 24, [.slice none 0 0]⟩,
  ⟨.struct [(0, 4), (1, 63), (2, 43), (3, 43), (4, 64)], 5, 104, [.bool false, .slice none 0 0, .slice none 0 0, .slice none 0 0, .slice none 0 0]⟩,
  ⟨.struct [(0, 4), (1, 63), (2, 43), (3, 43), (4, 64)], 5, 104, [.bool false, .slice none 0 0, .slice none 0 0, .slice none 0 0, .slice none 0 0]⟩,
  ⟨.func, 1, 8, [.nilFunc]⟩,
  ⟨.other, 1, 0, [.tuple #[.int .i64 0, .int .i64 0]]⟩,
  ⟨.func, 1, 8, [.nilFunc]⟩,
  ⟨.func, 1, 8, [.nilFunc]⟩,
  ⟨.func, 1, 8, [.nilFunc]⟩,
  ⟨.int .u16, 1, 2, [.int .u16 0]⟩,
  ⟨.func, 1, 8, [.nilFunc]⟩,
  ⟨.func, 1, 8, [.nilFunc]⟩,
  ⟨.func, 1, 8, [.nilFunc]⟩,
  ⟨.func, 1, 8, [.nilFunc]⟩,
  ⟨.other, 1, 0, [.tuple #[.slice none 0 0, .bool false, .slice none 0 0, .bool false]]⟩,
  ⟨.func, 1, 8, [.nilFunc]⟩,
  ⟨.func, 1, 8, [.nilFunc]⟩,
  ⟨.func, 1, 8, [.nilFunc]⟩,
  ⟨.other, 1, 0, [.tuple #[.bool false, .int .i64 0]]⟩,
  ⟨.func, 1, 8, [.nilFunc]⟩,
  ⟨.other, 1, 0, [.tuple #[.slice none 0 0, .int .i64 0]]⟩,
  ⟨.func, 1, 8, [.nilFunc]⟩,
  ⟨.func, 1, 8, [.nilFunc]⟩,
  ⟨.func, 1, 8, [.nilFunc]⟩,
  ⟨.other, 1, 0, [.tuple #[.agg #[.slice none 0 0, .slice none 0 0], .int .i64 0]]⟩,
  ⟨.func, 1, 8, [.nilFunc]⟩,
  ⟨.other, 1, 0, [.tuple #[.agg #[.int .i64 0, .int .i64 0], .int .i64 0]]⟩,
  ⟨.func, 1, 8, [.nilFunc]⟩,
  ⟨.func, 1, 8, [.nilFunc]⟩,
  ⟨.func, 1, 8, [.nilFunc]⟩,
  ⟨.func, 1, 8, [.nilFunc]⟩,
  ⟨.func, 1, 8, [.nilFunc]⟩,
  ⟨.struct [(0, 28), (1, 28)], 2, 48, [.slice none 0 0, .slice none 0 0]⟩,
  ⟨.func, 1, 8, [.nilFunc]⟩,
  ⟨.func, 1, 8, [.nilFunc]⟩,
  ⟨.other, 1, 0, [.tuple #[.agg #[.int .i64 0, .slice none 0 0, .slice none 0 0, .slice none 0 0], .int .i64 0]]⟩,
  ⟨.func, 1, 8, [.nilFunc]⟩,
  ⟨.func, 1, 8, [.nilFunc]⟩,
  ⟨.struct [(0, 3), (1, 3), (2, 37)], 4, 32, [.int .i64 0, .int .i64 0, .int .i64 0, .int .i64 0]⟩,
  ⟨.struct [(0, 3), (1, 3), (2, 37)], 4, 32, [.int .i64 0, .int .i64 0, .int .i64 0, .int .i64 0]⟩,
  ⟨.func, 1, 8, [.nilFunc]⟩,
  ⟨.slice 109, 1, 24, [.slice none 0 0]⟩,
  ⟨.struct [(0, 104), (1, 4)], 2, 32, [.slice none 0 0, .bool false]⟩,
  ⟨.struct [(0, 104), (1, 4)], 2, 32, [.slice none 0 0, .bool false]⟩,
  ⟨.func, 1, 8, [.nilFunc]⟩,
  ⟨.struct [(0, 3), (1, 3)], 2, 16, [.int .i64 0, .int .i64 0]⟩,
  ⟨.struct [(0, 3), (1, 3)], 2, 16, [.int .i64 0, .int .i64 0]⟩,
  ⟨.func, 1, 8, [.nilFunc]⟩,
  ⟨.slice 189, 1, 24, [.slice none 0 0]⟩,
  ⟨.func, 1, 8, [.nilFunc]⟩,
  ⟨.other, 1, 0, [.tuple #[.agg #[.slice none 0 0, .bool false], .int .i64 0]]⟩,
  ⟨.func, 1, 8, [.nilFunc]⟩,
  ⟨.func, 1, 8, [.nilFunc]⟩,
  ⟨.func, 1, 8, [.nilFunc]⟩,
  ⟨.func, 1, 8, [.nilFunc]⟩,
  ⟨.func, 1, 8, [.nilFunc]⟩,
  ⟨.func, 1, 8, [.nilFunc]⟩,
  ⟨.ptr 37, 1, 8, [.pointer none]⟩,
  ⟨.func, 1, 8, [.nilFunc]⟩,
  ⟨.func, 1, 8, [.nilFunc]⟩,
  ⟨.func, 1, 8, [.nilFunc]⟩,
  ⟨.func, 1, 8, [.nilFunc]⟩,
  ⟨.func, 1, 8, [.nilFunc]⟩,
  ⟨.func, 1, 8, [.nilFunc]⟩,
  ⟨.func, 1, 8, [.nilFunc]⟩,
  ⟨.slice 27, 1, 24, [.slice none 0 0]⟩,
  ⟨.func, 1, 8, [.nilFunc]⟩,
  ⟨.slice 28, 1, 24, [.slice none 0 0]⟩,
  ⟨.func, 1, 8, [.nilFunc]⟩,
  ⟨.func, 1, 8, [.nilFunc]⟩,
  ⟨.other, 1, 0, [.tuple #[.slice none 0 0, .int .i64 0]]⟩,
  ⟨.func, 1, 8, [.nilFunc]⟩,
  ⟨.func, 1, 8, [.nilFunc]⟩,
  ⟨.func, 1, 8, [.nilFunc]⟩,
  ⟨.func, 1, 8, [.nilFunc]⟩,
  ⟨.func, 1, 8, [.nilFunc]⟩,
  ⟨.func, 1, 8, [.nilFunc]⟩,
  ⟨.array 4 3, 4, 32, [.int .i64 0, .int .i64 0, .int .i64 0, .int .i64 0]⟩,
  ⟨.ptr 3, 1, 8, [.pointer none]⟩,
  ⟨.slice 141, 1, 24, [.slice none 0 0]⟩,
  ⟨.func, 1, 8, [.nilFunc]⟩,
  ⟨.func, 1, 8, [.nilFunc]⟩,
  ⟨.func, 1, 8, [.nilFunc]⟩,
  ⟨.func, 1, 8, [.nilFunc]⟩,
  ⟨.int .u32, 1, 4, [.int .u32 0]⟩,
  ⟨.struct [(0, 22), (1, 3), (2, 147)], 3, 40, [.slice none 0 0, .int .i64 0, .int .u32 0]⟩,
  ⟨.struct [(0, 22), (1, 3), (2, 147)], 3, 40, [.slice none 0 0, .int .i64 0, .int .u32 0]⟩,
  ⟨.func, 1, 8, [.nilFunc]⟩,
  ⟨.func, 1, 8, [.nilFunc]⟩,
  ⟨.ptr 185, 1, 8, [.pointer none]⟩,
  ⟨.other, 1, 0, [.tuple #[.pointer none, .int .i64 0]]⟩,
  ⟨.func, 1, 8, [.nilFunc]⟩,
  ⟨.func, 1, 8, [.nilFunc]⟩,
  ⟨.func, 1, 8, [.nilFunc]⟩,
  ⟨.func, 1, 8, [.nilFunc]⟩,
  ⟨.func, 1, 8, [.nilFunc]⟩,
  ⟨.func, 1, 8, [.nilFunc]⟩,
  ⟨.func, 1, 8, [.nilFunc]⟩,
  ⟨.func, 1, 8, [.nilFunc]⟩,
  ⟨.func, 1, 8, [.nilFunc]⟩,
  ⟨.struct [(0, 3), (1, 37)], 3, 24, [.int .i64 0, .int .i64 0, .int .i64 0]⟩,
  ⟨.struct [(0, 3), (1, 3), (2, 3), (3, 37)], 5, 40, [.int .i64 0, .int .i64 0, .int .i64 0, .int .i64 0, .int .i64 0]⟩,
  ⟨.struct [(0, 3), (1, 3), (2, 37)], 4, 32, [.int .i64 0, .int .i64 0, .int .i64 0, .int .i64 0]⟩,
  ⟨.func, 1, 8, [.nilFunc]⟩,
  ⟨.func, 1, 8, [.nilFunc]⟩,
  ⟨.ptr 66, 1, 8, [.pointer none]⟩,
  ⟨.func, 1, 8, [.nilFunc]⟩,
  ⟨.func, 1, 8, [.nilFunc]⟩,
  ⟨.func, 1, 8, [.nilFunc]⟩,
  ⟨.func, 1, 8, [.nilFunc]⟩,
  ⟨.func, 1, 8, [.nilFunc]⟩,
  ⟨.func, 1, 8, [.nilFunc]⟩,
  ⟨.other, 1, 0, [.tuple #[.slice none 0 0, .bool false]]⟩,
  ⟨.func, 1, 8, [.nilFunc]⟩,
  ⟨.func, 1, 8, [.nilFunc]⟩,
  ⟨.func, 1, 8, [.nilFunc]⟩,
  ⟨.array 8 4, 8, 8, [.bool false, .bool false, .bool false, .bool false, .bool false, .bool false, .bool false, .bool false]⟩,
  ⟨.array 8 4, 8, 8, [.bool false, .bool false, .bool false, .bool false, .bool false, .bool false, .bool false, .bool false]⟩,
  ⟨.func, 1, 8, [.nilFunc]⟩,
  ⟨.func, 1, 8, [.nilFunc]⟩,
  ⟨.slice 187, 1, 24, [.slice none 0 0]⟩,
  ⟨.struct [(0, 27), (4, 183), (5, 28)], 6, 128, [.int .i64 0, .slice none 0 0, .slice none 0 0, .slice none 0 0, .slice none 0 0, .slice none 0 0]⟩,
  ⟨.struct [(0, 27), (4, 183), (5, 28)], 6, 128, [.int .i64 0, .slice none 0 0, .slice none 0 0, .slice none 0 0, .slice none 0 0, .slice none 0 0]⟩,
  ⟨.struct [(0, 3), (1, 3), (2, 3), (3, 3)], 4, 32, [.int .i64 0, .int .i64 0, .int .i64 0, .int .i64 0]⟩,
  ⟨.struct [(0, 3), (1, 3), (2, 3), (3, 3)], 4, 32, [.int .i64 0, .int .i64 0, .int .i64 0, .int .i64 0]⟩,
  ⟨.func, 1, 8, [.nilFunc]⟩,
  ⟨.struct [(0, 3), (1, 3)], 2, 16, [.int .i64 0, .int .i64 0]⟩,
  ⟨.other, 1, 0, [.tuple #[.int .i64 0, .int .i64 0]]⟩,
  ⟨.func, 1, 8, [.nilFunc]⟩,
  ⟨.func, 1, 8, [.nilFunc]⟩,
  ⟨.func, 1, 8, [.nilFunc]⟩,
  ⟨.other, 1, 0, [.tuple #[.int .i64 0, .bool false]]⟩,
  ⟨.func, 1, 8, [.nilFunc]⟩,
  ⟨.map 3 199, 1, 8, [.map none]⟩,
  ⟨.func, 1, 8, [.nilFunc]⟩,
  ⟨.struct [(0, 3), (1, 4)], 2, 16, [.int .i64 0, .bool false]⟩,
  ⟨.struct [(0, 3), (1, 4)], 2, 16, [.int .i64 0, .bool false]⟩,
  ⟨.other, 1, 0, [.tuple #[.agg #[.int .i64 0, .bool false], .bool false]]⟩,
  ⟨.func, 1, 8, [.nilFunc]⟩,
  ⟨.func, 1, 8, [.nilFunc]⟩,
  ⟨.func, 1, 8, [.nilFunc]⟩,
  ⟨.func, 1, 8, [.nilFunc]⟩,
  ⟨.func, 1, 8, [.nilFunc]⟩,
  ⟨.func, 1, 8, [.nilFunc]⟩,
  ⟨.func, 1, 8, [.nilFunc]⟩,
  ⟨.func, 1, 8, [.nilFunc]⟩,
  ⟨.func, 1, 8, [.nilFunc]⟩,
  ⟨.func, 1, 8, [.nilFunc]⟩,
  ⟨.func, 1, 8, [.nilFunc]⟩,
  ⟨.func, 1, 8, [.nilFunc]⟩,
  ⟨.struct [(0, 118), (1, 4)], 2, 16, [.nilFunc, .bool false]⟩,
  ⟨.struct [(0, 118), (1, 4)], 2, 16, [.nilFunc, .bool false]⟩,
  ⟨.func, 1, 8, [.nilFunc]⟩,
  ⟨.func, 1, 8, [.nilFunc]⟩,
  ⟨.func, 1, 8, [.nilFunc]⟩,
  ⟨.func, 1, 8, [.nilFunc]⟩,
  ⟨.func, 1, 8, [.nilFunc]⟩,
  ⟨.func, 1, 8, [.nilFunc]⟩,
  ⟨.func, 1, 8, [.nilFunc]⟩,
  ⟨.slice 199, 1, 24, [.slice none 0 0]⟩,
  ⟨.func, 1, 8, [.nilFunc]⟩,
  ⟨.func, 1, 8, [.nilFunc]⟩,
  ⟨.func, 1, 8, [.nilFunc]⟩,
  ⟨.func, 1, 8, [.nilFunc]⟩,
  ⟨.map 3 222, 1, 8, [.map none]⟩,
  ⟨.func, 1, 8, [.nilFunc]⟩,
  ⟨.int .u64, 1, 8, [.int .u64 0]⟩,
  ⟨.func, 1, 8, [.nilFunc]⟩,
  ⟨.func, 1, 8, [.nilFunc]⟩,
  ⟨.func, 1, 8, [.nilFunc]⟩,
  ⟨.func, 1, 8, [.nilFunc]⟩,
  ⟨.func, 1, 8, [.nilFunc]⟩,
  ⟨.func, 1, 8, [.nilFunc]⟩,
  ⟨.func, 1, 8, [.nilFunc]⟩,
  ⟨.struct [(0, 17), (1, 17), (2, 17), (3, 9)], 4, 40, [.pointer none, .pointer none, .pointer none, .string ByteArray.empty]⟩,
  ⟨.struct [(0, 17), (1, 17), (2, 17), (3, 9)], 4, 40, [.pointer none, .pointer none, .pointer none, .string ByteArray.empty]⟩,
  ⟨.array 0 16, 0, 0, []⟩,
  ⟨.struct [(0, 239)], 0, 0, []⟩,
  ⟨.struct [(0, 239)], 0, 0, []⟩,
  ⟨.int .u8, 1, 1, [.int .u8 0]⟩,
  ⟨.int .u8, 1, 1, [.int .u8 0]⟩,
  ⟨.func, 1, 8, [.nilFunc]⟩,
  ⟨.ptr 5, 1, 8, [.pointer none]⟩,
  ⟨.int .i32, 1, 4, [.int .i32 0]⟩,
  ⟨.int .i32, 1, 4, [.int .i32 0]⟩,
  ⟨.struct [(0, 12), (1, 12), (2, 147), (3, 242), (4, 5), (5, 5), (6, 243), (7, 244), (8, 245), (9, 246), (10, 247)], 11, 48, [.int .u64 0, .int .u64 0, .int .u32 0, .int .u8 0, .int .u8 0, .int .u8 0, .int .u8 0, .nilFunc, .pointer none, .int .i32 0, .int .i32 0]⟩,
  ⟨.struct [(0, 12), (1, 12), (2, 147), (3, 242), (4, 5), (5, 5), (6, 243), (7, 244), (8, 245), (9, 246), (10, 247)], 11, 48, [.int .u64 0, .int .u64 0, .int .u32 0, .int .u8 0, .int .u8 0, .int .u8 0, .int .u8 0, .nilFunc, .pointer none, .int .i32 0, .int .i32 0]⟩,
  ⟨.other, 1, 8, [.pointer none]⟩]
theorem Ll : (List.range types.length).map (HM Tryz.prog) = types.map some := by kernel_rfl
instance eS : lX Tryz.prog := ⟨types, lX.of Ll⟩
theorem mR {P : Program} {w : World} {t : Nat} {k : IntKind} {a b : Int} (d : Nat) (h : P.underlying t = some (.int k)) : (Op.equalIn (d + 1) t (.int k a) (.int k b)).run P w = .ok (decide (a = b)) w := by
 simp [Op.equalIn, run_underlying h, Gd]
theorem Ri (a0 a1 b0 b1 : Int) (w : World) : (Op.equal 37 (.agg #[.int .i64 a0, .int .i64 a1]) (.agg #[.int .i64 b0, .int .i64 b1])).run Tryz.prog w = .ok ((decide (a0 = b0) && decide (a1 = b1))) w := by
 have hs : Tryz.prog.stoodInHeld 37 = false := by kernel_rfl
 have e3 : ∀ (x y : Int) (w : World), (Op.equalIn 9999 3 (.int .i64 x) (.int .i64 y)).run Tryz.prog w = .ok (decide (x = y)) w := fun x y w => mR 9998 Tryz.underlying3
 have g3 : ∀ w, (isAgg 3).run Tryz.prog w = .ok false w := fun w => by simp [isAgg, run_underlying Tryz.underlying3]
 unfold Op.equal Op.maxDepth
 rw [Op.equalIn]
 simp only [Sem.run_bind, run_underlying Tryz.underlying37, Result.andThen_ok]
 simp [hs, part, g3, e3]
 by_cases h0 : a0 = b0 <;> by_cases h1 : a1 = b1 <;> simp [h0, h1]
theorem Oy (a0 a1 b0 b1 : Int) : I0 Tryz.prog 37 [Ty.int .i64 a0, Ty.int .i64 a1] [Ty.int .i64 b0, Ty.int .i64 b1] ((decide (a0 = b0) && decide (a1 = b1))) :=
  ⟨by kernel_rfl, fun w M cs ds h1 h2 => by
    obtain ⟨cs⟩ := cs
    obtain ⟨ds⟩ := ds
    match cs, ds, h1, h2 with
    | [u0, u1], [v0, v1], h1, h2 =>
      simp only [cK, Ty.int, gF, and_true] at h1 h2
      obtain ⟨rfl, rfl⟩ := h1
      obtain ⟨rfl, rfl⟩ := h2
      exact Ri _ _ _ _ w⟩
theorem P1 (a0 a1 b0 b1 : Int) (w : World) : (Op.equal 109 (.agg #[.int .i64 a0, .int .i64 a1]) (.agg #[.int .i64 b0, .int .i64 b1])).run Tryz.prog w = .ok ((decide (a0 = b0) && decide (a1 = b1))) w := by
 have hs : Tryz.prog.stoodInHeld 109 = false := by kernel_rfl
 have e3 : ∀ (x y : Int) (w : World), (Op.equalIn 9999 3 (.int .i64 x) (.int .i64 y)).run Tryz.prog w = .ok (decide (x = y)) w := fun x y w => mR 9998 Tryz.underlying3
 have g3 : ∀ w, (isAgg 3).run Tryz.prog w = .ok false w := fun w => by simp [isAgg, run_underlying Tryz.underlying3]
 unfold Op.equal Op.maxDepth
 rw [Op.equalIn]
 simp only [Sem.run_bind, run_underlying Tryz.underlying109, Result.andThen_ok]
 simp [hs, part, g3, e3]
 by_cases h0 : a0 = b0 <;> by_cases h1 : a1 = b1 <;> simp [h0, h1]
theorem JL (a0 a1 b0 b1 : Int) : I0 Tryz.prog 109 [Ty.int .i64 a0, Ty.int .i64 a1] [Ty.int .i64 b0, Ty.int .i64 b1] ((decide (a0 = b0) && decide (a1 = b1))) :=
  ⟨by kernel_rfl, fun w M cs ds h1 h2 => by
    obtain ⟨cs⟩ := cs
    obtain ⟨ds⟩ := ds
    match cs, ds, h1, h2 with
    | [u0, u1], [v0, v1], h1, h2 =>
      simp only [cK, Ty.int, gF, and_true] at h1 h2
      obtain ⟨rfl, rfl⟩ := h1
      obtain ⟨rfl, rfl⟩ := h2
      exact P1 _ _ _ _ w⟩
theorem PN (a0 a1 b0 b1 : Int) (w : World) : (Op.equal 189 (.agg #[.int .i64 a0, .int .i64 a1]) (.agg #[.int .i64 b0, .int .i64 b1])).run Tryz.prog w = .ok ((decide (a0 = b0) && decide (a1 = b1))) w := by
 have hs : Tryz.prog.stoodInHeld 189 = false := by kernel_rfl
 have e3 : ∀ (x y : Int) (w : World), (Op.equalIn 9999 3 (.int .i64 x) (.int .i64 y)).run Tryz.prog w = .ok (decide (x = y)) w := fun x y w => mR 9998 Tryz.underlying3
 have g3 : ∀ w, (isAgg 3).run Tryz.prog w = .ok false w := fun w => by simp [isAgg, run_underlying Tryz.underlying3]
 unfold Op.equal Op.maxDepth
 rw [Op.equalIn]
 simp only [Sem.run_bind, run_underlying Tryz.underlying189, Result.andThen_ok]
 simp [hs, part, g3, e3]
 by_cases h0 : a0 = b0 <;> by_cases h1 : a1 = b1 <;> simp [h0, h1]
theorem QU (a0 a1 b0 b1 : Int) : I0 Tryz.prog 189 [Ty.int .i64 a0, Ty.int .i64 a1] [Ty.int .i64 b0, Ty.int .i64 b1] ((decide (a0 = b0) && decide (a1 = b1))) :=
  ⟨by kernel_rfl, fun w M cs ds h1 h2 => by
    obtain ⟨cs⟩ := cs
    obtain ⟨ds⟩ := ds
    match cs, ds, h1, h2 with
    | [u0, u1], [v0, v1], h1, h2 =>
      simp only [cK, Ty.int, gF, and_true] at h1 h2
      obtain ⟨rfl, rfl⟩ := h1
      obtain ⟨rfl, rfl⟩ := h2
      exact PN _ _ _ _ w⟩
theorem mixed : Tryz.prog.follows .mixedOrders = true := by kernel_rfl
end Go.Proofs.YtelbollidfdcjaaGreat
namespace Go.Proofs.YtelbollidfdcjaaGreat
open Go Go.T
structure lH where
  bin : Int
  day : Int
deriving DecidableEq, Inhabited
def cA : El Span := El.mk' 2 (fun x => [Ty.int .i64 x.lo, Ty.int .i64 x.hi]) (fun _ => rfl) (fun _ => ⟨rfl, rfl, rfl⟩)
def fO : El tM := El.mk' 3 (fun x => [Ty.int .i64 x.holds, Ty.int .i64 x.first.lo, Ty.int .i64 x.first.hi]) (fun _ => rfl) (fun _ => ⟨rfl, rfl, rfl⟩)
def eH : El Move := El.mk' 5 (fun x => [Ty.int .i64 x.day, Ty.int .i64 x.src, Ty.int .i64 x.dst, Ty.int .i64 x.sacks.lo, Ty.int .i64 x.sacks.hi]) (fun _ => rfl) (fun _ => ⟨rfl, rfl, rfl⟩)
def dY : El Level := El.mk' 4 (fun x => [Ty.int .i64 x.day, Ty.int .i64 x.bin, Ty.int .i64 x.sacks.lo, Ty.int .i64 x.sacks.hi]) (fun _ => rfl) (fun _ => ⟨rfl, rfl, rfl⟩)
def fq : El lH := El.mk' 2 (fun x => [Ty.int .i64 x.bin, Ty.int .i64 x.day]) (fun _ => rfl) (fun _ => ⟨rfl, rfl, rfl⟩)
def dw : El cB := El.mk' 4 (fun x => [Ty.int .i64 x.src, Ty.int .i64 x.dst, Ty.int .i64 x.lo, Ty.int .i64 x.hi]) (fun _ => rfl) (fun _ => ⟨rfl, rfl, rfl⟩)
def gQ : El Way := El.mk' 2 (fun x => [Ty.int .i64 (x.ix : Nat), Ty.bool x.more]) (fun _ => rfl) (fun _ => ⟨rfl, rfl, rfl⟩)
def fE : El Bool := El.mk' 1 (fun x => [Ty.bool x]) (fun _ => rfl) (fun _ => ⟨rfl, rfl, rfl⟩)
def bC (y : aj) : List Ty := [Ty.int .i64 y.days, Ty.sl fO y.bins, Ty.sl eH y.moves, Ty.sl dY y.levels]
def eA (y : aj) : Ty := Ty.agg (bC y)
def m7 (a : dg) : List Ty := [Ty.sl c7 a.first, Ty.sl c7 a.cD]
def AD (a : dg) : Ty := Ty.agg (m7 a)
theorem lp {b : Bool} (h : (!b) = true) : b = false := by cases b <;> first | rfl | cases h
theorem eo {b : Bool} (h : (!b) = false) : b = true := by cases b <;> first | rfl | cases h
theorem mL {α : Type} [Inhabited α] {a b : List α} {k : Nat} (h : nth a k ≠ nth b k) : a ≠ b := fun e => h (by rw [e])
theorem sV {α : Type} (q : α → Bool) (l : List α) : (!(l.any fun x => !q x)) = l.all q := by
  induction l with
  | nil => rfl
  | cons x l ih => simp only [List.any_cons, List.all_cons, Bool.not_or, Bool.not_not, ih]
end Go.Proofs.YtelbollidfdcjaaGreat
namespace Go.Proofs.YtelbollidfdcjaaGreat
open Go Go.T
structure Sk where
  grain : List Int
  taken : Int
  mixed : Int
def SB (s : Sk) : Int := IntKind.u32.wrap (bits .xor .u32 s.mixed (IntKind.u32.wrap (nth s.grain (s.taken.tmod s.grain.length).toNat)) * 16777619)
def D6 (s : Sk) : Sk := if (s.grain.length : Int) > 0 then { s with mixed := SB s } else s
def MM (s : Sk) : Sk := { s with taken := s.taken + 1 }
def SJ (s : Sk) : Int := IntKind.u32.wrap (IntKind.u32.wrap (s.mixed * 1664525) + 1013904223)
def Dy (s : Sk) : Sk := if s.taken > (s.grain.length : Int) then { s with mixed := SJ s } else s
def cE (s : Sk) : Sk := Dy (MM (D6 s))
def nj (s : Sk) : Int := IntKind.i64.wrap (bits .and .u32 (bits .xor .u32 s.mixed (s.mixed / 2 ^ (15 : Int).toNat) / 2 ^ (8 : Int).toNat) 65535)
def Sk.Ok (s : Sk) (n : Int) : Prop := 0 ≤ s.taken ∧ s.taken + n ≤ 4611686018427387904
theorem Bf (s : Sk) : (D6 s).taken = s.taken := by unfold D6; split <;> rfl
theorem BY (s : Sk) : (Dy s).taken = s.taken := by unfold Dy; split <;> rfl
theorem fG (s : Sk) : (cE s).taken = s.taken + 1 := by unfold cE; rw [BY, MM, Bf]
theorem yx (a : Int) : 0 ≤ bits .and .u32 a 65535 ∧ bits .and .u32 a 65535 ≤ 65535 := by
 have e : bits .and .u32 a 65535 = IntKind.u32.wrap (((BitVec.ofInt 32 a &&& BitVec.ofInt 32 65535).toNat : Nat) : Int) := rfl
 have h1 : (BitVec.ofInt 32 a &&& BitVec.ofInt 32 65535).toNat ≤ 65535 := by
  rw [BitVec.toNat_and]
  exact Nat.and_le_right
 rw [e]
 generalize (BitVec.ofInt 32 a &&& BitVec.ofInt 32 65535).toNat = n at h1
 have : IntKind.u32.wrap (n : Int) = (n : Int) % 4294967296 := rfl
 rw [this]; omega
theorem CX (s : Sk) : 0 ≤ nj s ∧ nj s ≤ 65535 := by
 have h := yx (bits .xor .u32 s.mixed (s.mixed / 2 ^ (15 : Int).toNat) / 2 ^ (8 : Int).toNat)
 unfold nj
 rw [IntWalk.i64_in _ (by omega)]; exact h
def eR (s : Sk) (n : Int) : Int := (nj (cE s)).tmod (max 1 n)
theorem eT (s : Sk) (n : Int) : 0 ≤ eR s n ∧ eR s n < max 1 n ∧ eR s n ≤ 65535 := by
 have h := CX (cE s)
 unfold eR
 have h1 : (nj (cE s)).tmod (max 1 n) = nj (cE s) % max 1 n := Int.tmod_eq_emod_of_nonneg h.1
 have h2 := Int.emod_lt_of_pos (nj (cE s)) (show 0 < max 1 n by omega)
 have h3 := Int.emod_nonneg (nj (cE s)) (show max 1 n ≠ 0 by omega)
 have h4 : nj (cE s) % max 1 n ≤ nj (cE s) := by
  have := Int.mul_ediv_add_emod (nj (cE s)) (max 1 n)
  have hq : 0 ≤ nj (cE s) / max 1 n := Int.ediv_nonneg h.1 (by omega)
  have : 0 ≤ max 1 n * (nj (cE s) / max 1 n) := Int.mul_nonneg (by omega) hq
  omega
 omega
def m8 (s : Sk) (lo hi : Int) : Int := lo + eR s (hi - lo + 1)
end Go.Proofs.YtelbollidfdcjaaGreat
namespace Go.Proofs.YtelbollidfdcjaaGreat
open Go Go.T
def nL (m : Move) (bin time : Int) : Bool := decide (m.day < time) && decide (m.dst = bin)
def lJ (m : Move) (bin time : Int) : Bool := decide (m.day < time) && decide (m.src = bin)
def dy (y : aj) (a : dg) (bin time : Int) (k : Nat) (n : Int) : Int := n + if nL (nth y.moves k) bin time = true then nth a.cD k else 0
def eB (y : aj) (a : dg) (bin time : Int) : Nat → Int
  | 0 => nth a.first bin.toNat
  | k + 1 => dy y a bin time k (eB y a bin time k) - if lJ (nth y.moves k) bin time = true then nth a.cD k else 0
def cx (y : aj) (a : dg) (bin time : Int) : Int := eB y a bin time y.moves.length
section
variable {y : aj} {a : dg} {bin time : Int} {k b t : Nat}
theorem RU (h1 : nL (nth y.moves k) bin time = true) (h2 : lJ (nth y.moves k) bin time = true) : eB y a bin time k + nth a.cD k - nth a.cD k = eB y a bin time (k + 1) := by
 show _ = dy y a bin time k (eB y a bin time k) - _; unfold dy; rw [if_pos h1, if_pos h2]
theorem RG (h1 : nL (nth y.moves k) bin time = true) (h2 : lJ (nth y.moves k) bin time = false) : eB y a bin time k + nth a.cD k = eB y a bin time (k + 1) := by
 show _ = dy y a bin time k (eB y a bin time k) - _; unfold dy; rw [if_pos h1, if_neg (by rw [h2]; decide), Int.sub_zero]
theorem Q2 (h1 : nL (nth y.moves k) bin time = false) (h2 : lJ (nth y.moves k) bin time = true) : eB y a bin time k - nth a.cD k = eB y a bin time (k + 1) := by
 show _ = dy y a bin time k (eB y a bin time k) - _; unfold dy; rw [if_neg (by rw [h1]; decide), if_pos h2, Int.add_zero]
theorem Qm (h1 : nL (nth y.moves k) bin time = false) (h2 : lJ (nth y.moves k) bin time = false) : eB y a bin time k = eB y a bin time (k + 1) := by
 show _ = dy y a bin time k (eB y a bin time k) - _; unfold dy; rw [if_neg (by rw [h1]; decide), if_neg (by rw [h2]; decide), Int.add_zero, Int.sub_zero]
theorem J2 {B : Int} (hB : 0 ≤ B) (h1 : ∀ x ∈ a.first, -B ≤ x ∧ x ≤ B) (h2 : ∀ x ∈ a.cD, -B ≤ x ∧ x ≤ B) (hb : bin.toNat < a.first.length) : ∀ k, k ≤ a.cD.length → -(B + 2 * B * k) ≤ eB y a bin time k ∧ eB y a bin time k ≤ B + 2 * B * k
  | 0, _ => by have := h1 _ (cT hb); show -(B + 2 * B * 0) ≤ nth a.first bin.toNat ∧ nth a.first bin.toNat ≤ _; omega
  | k + 1, hk => by
    have ih := J2 hB h1 h2 hb k (by omega)
    have := h2 _ (cT (show k < a.cD.length by omega))
    have e : 2 * B * ((k + 1 : Nat) : Int) = 2 * B * k + 2 * B := by rw [Int.natCast_add, Int.mul_add]; simp
    show -(B + 2 * B * ((k + 1 : Nat) : Int)) ≤ dy y a bin time k (eB y a bin time k) - _ ∧ dy y a bin time k (eB y a bin time k) - _ ≤ B + 2 * B * ((k + 1 : Nat) : Int)
    rw [e]
    unfold dy
    split <;> split <;> omega
theorem Ls : ∀ k, eB y a b t k = nth a.first b + cw (fun i => if (nth y.moves i).day < t then rC y a.cD b i else 0) k
  | 0 => by show nth a.first ((b : Nat) : Int).toNat = _ + 0; simp
  | k + 1 => by
    show dy y a b t k (eB y a b t k) - _ = nth a.first b + (cw _ k + _)
    rw [Ls k]
    unfold dy nL lJ rC
    by_cases h0 : (nth y.moves k).day < (t : Int)
    · by_cases h1 : (nth y.moves k).dst = (b : Int) <;> by_cases h2 : (nth y.moves k).src = (b : Int) <;> simp [h0, h1, h2, ind] <;> omega
    · simp [h0]
theorem mU : cx y a b t = dL y a b t := Ls _
end
end Go.Proofs.YtelbollidfdcjaaGreat
namespace Go.Proofs.YtelbollidfdcjaaGreat
open Go Go.T
def lA (s : Sk) (n w : Int) : Span := ⟨max 0 (n - eR s (w + 1)), min 300 (n + eR (cE s) (w + 1))⟩
def I4 (y : aj) (a : dg) (m : Move) : Int := if m.src = -1 then 300 else cx y a m.src (m.day + 1)
theorem Az {s : Sk} {n w : Int} (hn : 0 ≤ n ∧ n ≤ 300) (hw : 0 ≤ w) : (0 ≤ (lA s n w).lo ∧ (lA s n w).hi ≤ 300) ∧ (lA s n w).lo ≤ n ∧ n ≤ (lA s n w).hi := by
 have h1 := eT s (w + 1)
 have h2 := eT (cE s) (w + 1)
 unfold lA
 simp only
 omega
section
variable {y : aj} {a : dg} {m : Move} {n bin time : Int} {k : Nat}
def tU (y : aj) (m : Move) : aj := { y with moves := y.moves ++ [m] }
def vE (a : dg) (n : Int) : dg := { a with cD := a.cD ++ [n] }
theorem Kr (hl : a.cD.length = y.moves.length) : ∀ k, k ≤ y.moves.length → eB (tU y m) (vE a n) bin time k = eB y a bin time k
  | 0, _ => rfl
  | k + 1, hk => by
    have ih := Kr hl k (by omega)
    show dy (tU y m) (vE a n) bin time k (eB (tU y m) (vE a n) bin time k) - _ = dy y a bin time k (eB y a bin time k) - _
    rw [ih]
    unfold dy
    have e1 : nth (tU y m).moves k = nth y.moves k := hU (by omega)
    have e2 : nth (vE a n).cD k = nth a.cD k := hU (by omega)
    rw [e1, e2]
theorem LN (hl : a.cD.length = y.moves.length) : cx (tU y m) (vE a n) bin time = cx y a bin time + (if nL m bin time = true then n else 0) - if lJ m bin time = true then n else 0 := by
 unfold cx
 have e0 : (tU y m).moves.length = y.moves.length + 1 := by show (y.moves ++ [m]).length = _; rw [List.length_append]; rfl
 rw [e0]
 show dy (tU y m) (vE a n) bin time _ (eB (tU y m) (vE a n) bin time _) - _ = _
 rw [Kr hl _ (Nat.le_refl _)]
 unfold dy
 have e1 : nth (tU y m).moves y.moves.length = m := by
  show nth (y.moves ++ [m]) (y.moves.length + 0) = m; rw [k5]; rfl
 have e2 : nth (vE a n).cD y.moves.length = n := by
  rw [← hl]; show nth (a.cD ++ [n]) (a.cD.length + 0) = n; rw [k5]; rfl
 rw [e1, e2]
theorem GL {dd : Int} (hd : ∀ k, k < y.moves.length → (nth y.moves k).day ≤ dd) (ht : dd + 1 ≤ time) : ∀ k, k ≤ y.moves.length → eB y a bin time k = eB y a bin (dd + 1) k
  | 0, _ => rfl
  | k + 1, hk => by
    have ih := GL hd ht k (by omega)
    have h := hd k (by omega)
    show dy y a bin time k (eB y a bin time k) - _ = dy y a bin (dd + 1) k (eB y a bin (dd + 1) k) - _
    rw [ih]
    unfold dy nL lJ
    rw [decide_eq_true (show (nth y.moves k).day < time by omega), decide_eq_true (show (nth y.moves k).day < dd + 1 by omega)]
theorem G1 {b : List tM} {l : List Level} {d : Int} : cx ⟨d, b, y.moves, l⟩ a bin time = cx y a bin time := by
  unfold cx
  show eB _ a bin time y.moves.length = _
  generalize y.moves.length = k
  induction k with
  | zero => rfl
  | succ k ih =>
    show dy _ a bin time k (eB _ a bin time k) - _ = dy y a bin time k (eB y a bin time k) - _
    rw [ih]; rfl
def vT (y : aj) (a : dg) (m : Move) (n : Int) : Int := if m.src = -1 then n else min n (cx y a m.src m.day)
def yJ (y : aj) (a : dg) (m : Move) (n : Int) : Int := if m.dst = -1 then n else min n (300 - cx y a m.dst (m.day + 1))
def zy (y : aj) (a : dg) (m : Move) (n : Int) : Nat → Int
  | 0 => n
  | k + 1 => if ((decide ((nth y.moves k).day = m.day) && decide ((nth y.moves k).src = m.src)) && !decide (m.src = -1)) = true then min (zy y a m n k) (cx y a m.src m.day - nth a.cD k) else zy y a m n k
def sQ (y : aj) (a : dg) (m : Move) (n : Int) : Int := max 0 (min (zy y a m (yJ y a m (vT y a m n)) y.moves.length) (I4 y a m))
theorem CV : ∀ k, zy y a m n k ≤ n
  | 0 => Int.le_refl _
  | k + 1 => by
    have := CV k
    unfold zy; split <;> omega
theorem JM (hn : 0 ≤ n) (h1 : m.dst ≠ -1 → cx y a m.dst (m.day + 1) ≤ 300) (h2 : m.src ≠ -1 → 0 ≤ cx y a m.src (m.day + 1)) :
 (0 ≤ sQ y a m n ∧ sQ y a m n ≤ n) ∧ (m.dst ≠ -1 → sQ y a m n ≤ 300 - cx y a m.dst (m.day + 1)) ∧ (m.src ≠ -1 → sQ y a m n ≤ cx y a m.src (m.day + 1)) := by
 have h3 := CV (y := y) (a := a) (m := m) (n := yJ y a m (vT y a m n)) y.moves.length
 have h4 : yJ y a m (vT y a m n) ≤ vT y a m n := by unfold yJ; split <;> omega
 have h5 : vT y a m n ≤ n := by unfold vT; split <;> omega
 refine ⟨?_, fun hd => ?_, fun hs => ?_⟩
 ·unfold sQ; omega
 ·have h6 : yJ y a m (vT y a m n) ≤ 300 - cx y a m.dst (m.day + 1) := by unfold yJ; rw [if_neg hd]; omega
  have := h1 hd
  unfold sQ; omega
 have h6 : I4 y a m = cx y a m.src (m.day + 1) := if_neg hs
 have := h2 hs
 unfold sQ; rw [h6]; omega
end
structure Md where
  s : Sk
  days : Int
  bins : Int
  moves : Int
  levels : Int
structure Md.Ok (d : Md) : Prop where
  days : 1 ≤ d.days ∧ d.days ≤ 5
  bins : 1 ≤ d.bins ∧ d.bins ≤ 4
  moves : 0 ≤ d.moves ∧ d.moves ≤ 10
  levels : 0 ≤ d.levels ∧ d.levels ≤ 8
namespace Md
def D (d : Md) : Int := m8 d.s 1 d.days
def Rm (d : Md) : Int := m8 (cE d.s) 1 d.bins
def nb (d : Md) : Nat := d.Rm.toNat
def bs (d : Md) : Nat → (List Int × List tM) × Sk
  | 0 => (([], []), cE (cE d.s))
  | k + 1 => (((d.bs k).1.1 ++ [eR (d.bs k).2 60], (d.bs k).1.2 ++ [⟨300, lA (cE (d.bs k).2) (eR (d.bs k).2 60) 12⟩]), cE (cE (cE (d.bs k).2)))
def first (d : Md) : List Int := (d.bs d.nb).1.1
def vB (d : Md) : List tM := (d.bs d.nb).1.2
def Ff (d : Md) : Int := eR (d.bs d.nb).2 (d.moves + 1)
def many (d : Md) : Nat := d.Ff.toNat
def IW (d : Md) (s : Sk) : Int := m8 s (-1) ((d.nb : Int) - 1)
def G9 (d : Md) (s : Sk) : Int := m8 (cE s) (-1) ((d.nb : Int) - 1)
def src (d : Md) (s : Sk) : Int := if d.IW s = d.G9 s then -1 else d.IW s
def dst (d : Md) (s : Sk) : Int := if d.IW s = d.G9 s then eR (cE (cE s)) d.nb else d.G9 s
def Iw (d : Md) (s : Sk) : Sk := if d.IW s = d.G9 s then cE (cE (cE s)) else cE (cE s)
def day (d : Md) (i : Nat) : Int := ((i : Int) * d.D).tdiv d.many
def mv (d : Md) (s : Sk) (i : Nat) : Move := ⟨d.day i, d.src s, d.dst s, ⟨0, 0⟩⟩
def yd (d : Md) (ms : List Move) : aj := ⟨d.D, d.vB, ms, []⟩
def am (d : Md) (l : List Int) : dg := ⟨d.first, l⟩
def num (d : Md) (p : (List Move × List Int) × Sk) (i : Nat) : Int := sQ (d.yd p.1.1) (d.am p.1.2) (d.mv p.2 i) (eR (d.Iw p.2) 40)
def full (d : Md) (p : (List Move × List Int) × Sk) (i : Nat) : Move := { d.mv p.2 i with sacks := lA (cE (d.Iw p.2)) (d.num p i) 15 }
def ms (d : Md) : Nat → (List Move × List Int) × Sk
  | 0 => (([], []), cE (d.bs d.nb).2)
  | i + 1 => (((d.ms i).1.1 ++ [d.full (d.ms i) i], (d.ms i).1.2 ++ [d.num (d.ms i) i]), cE (cE (cE (d.Iw (d.ms i).2))))
def cD (d : Md) : List Int := (d.ms d.many).1.2
def EV (d : Md) : List Move := (d.ms d.many).1.1
def real (d : Md) : dg := ⟨d.first, d.cD⟩
def y0 (d : Md) : aj := d.yd d.EV
def most (d : Md) (b : Nat) : Nat → Int
  | 0 => 0
  | t + 1 => max (d.most b t) (cx d.y0 d.real b t)
def hs (d : Md) : Nat → List tM × Sk
  | 0 => (d.vB, (d.ms d.many).2)
  | k + 1 => ((d.hs k).1.set k ⟨min 300 (d.most k (d.D + 1).toNat + eR (d.hs k).2 30), (nth (d.hs k).1 k).first⟩, cE (d.hs k).2)
def OX (d : Md) : List tM := (d.hs d.nb).1
def Rl (d : Md) : Int := eR (d.hs d.nb).2 (d.levels + 1)
def nl (d : Md) : Nat := d.Rl.toNat
def SL (d : Md) (s : Sk) : Level := ⟨eR s (d.D + 1), eR (cE s) d.nb, lA (cE (cE s)) (cx d.y0 d.real (eR (cE s) d.nb) (eR s (d.D + 1))) 8⟩
def ls (d : Md) : Nat → List Level × Sk
  | 0 => ([], cE (d.hs d.nb).2)
  | k + 1 => ((d.ls k).1 ++ [d.SL (d.ls k).2], cE (cE (cE (cE (d.ls k).2))))
def Gu (d : Md) : List Level := (d.ls d.nl).1
def oS (d : Md) : aj := ⟨d.D, d.OX, d.EV, d.Gu⟩
end Md
end Go.Proofs.YtelbollidfdcjaaGreat
namespace Go.Proofs.YtelbollidfdcjaaGreat
open Go Go.T
theorem tD {s : Sk} {lo hi : Int} (h : lo ≤ hi) : lo ≤ m8 s lo hi ∧ m8 s lo hi ≤ hi := by
 have := eT s (hi - lo + 1)
 unfold m8; omega
theorem pq {α : Type} {l : List α} {x z : α} (h : z ∈ l ++ [x]) : z ∈ l ∨ z = x := by
 rcases List.mem_append.1 h with h | h
 ·exact .inl h
 exact .inr (List.mem_singleton.1 h)
theorem tI {α : Type} [Inhabited α] {l : List α} {x : α} {k : Nat} (h : l.length = k) : nth (l ++ [x]) k = x := by
 subst h; exact (k5 (l := l) (k := [x]) (i := 0)).trans rfl
theorem CK {i n : Nat} {D : Int} (hD : 1 ≤ D) (hi : i < n) : (0 ≤ ((i : Int) * D).tdiv n ∧ ((i : Int) * D).tdiv n < D) ∧ ∀ k : Nat, k ≤ i → ((k : Int) * D).tdiv n ≤ ((i : Int) * D).tdiv n := by
 have hn : (0 : Int) < n := by omega
 have h0 : ∀ k : Nat, 0 ≤ (k : Int) * D := fun k => Int.mul_nonneg (by omega) (by omega)
 refine ⟨?_, fun k hk => ?_⟩
 ·rw [Int.tdiv_eq_ediv_of_nonneg (h0 i)]
  refine ⟨Int.ediv_nonneg (h0 i) (by omega), Int.ediv_lt_of_lt_mul hn ?_⟩
  rw [Int.mul_comm D]
  exact Int.mul_lt_mul_of_pos_right (by omega) (by omega)
 rw [Int.tdiv_eq_ediv_of_nonneg (h0 i), Int.tdiv_eq_ediv_of_nonneg (h0 k)]
 exact Int.ediv_le_ediv hn (Int.mul_le_mul_of_nonneg_right (by omega) (by omega))
section
variable {d : Md}
theorem Md.NL (h : d.Ok) : 1 ≤ d.D ∧ d.D ≤ 5 := by
 have := h.days
 have := tD (s := d.s) h.days.1
 unfold Md.D; omega
theorem Md.JR (h : d.Ok) : (1 ≤ d.nb ∧ d.nb ≤ 4) ∧ d.Rm = (d.nb : Nat) := by
 have := h.bins
 have := tD (s := cE d.s) h.bins.1
 unfold Md.nb Md.Rm; omega
theorem Md.NR (h : d.Ok) : d.many ≤ 10 ∧ d.Ff = (d.many : Nat) := by
 have := h.moves
 have := eT (d.bs d.nb).2 (d.moves + 1)
 unfold Md.many Md.Ff; omega
theorem Md.Ql (h : d.Ok) : d.nl ≤ 8 ∧ d.Rl = (d.nl : Nat) := by
 have := h.levels
 have := eT (d.hs d.nb).2 (d.levels + 1)
 unfold Md.nl Md.Rl; omega
structure R9 (d : Md) (k : Nat) (p : (List Int × List tM) × Sk) : Prop where
  len1 : p.1.1.length = k
  len2 : p.1.2.length = k
  taken : p.2.taken = d.s.taken + 2 + 3 * k
  first : ∀ x ∈ p.1.1, 0 ≤ x ∧ x ≤ 59
  bin : ∀ b ∈ p.1.2, b.holds = 300 ∧ (0 ≤ b.first.lo ∧ b.first.hi ≤ 300) ∧ b.first.lo ≤ b.first.hi
  fit : ∀ i, i < k → (nth p.1.2 i).first.lo ≤ nth p.1.1 i ∧ nth p.1.1 i ≤ (nth p.1.2 i).first.hi
theorem Md.zY (d : Md) : ∀ k, R9 d k (d.bs k)
  | 0 => ⟨rfl, rfl, by show (cE (cE d.s)).taken = _; rw [fG, fG]; omega, fun x h => (by cases h), fun b h => (by cases h), fun i h => (by omega)⟩
  | k + 1 => by
    obtain ⟨h1, h2, h3, h4, h5, h6⟩ := Md.zY d k
    have hb := eT (d.bs k).2 60
    have hn := Az (s := cE (d.bs k).2) (n := eR (d.bs k).2 60) (w := 12) (by omega) (by omega)
    refine ⟨?_, ?_, ?_, fun x hx => ?_, fun b hb => ?_, fun i hi => ?_⟩
    · show ((d.bs k).1.1 ++ [_]).length = _; rw [List.length_append, h1]; rfl
    · show ((d.bs k).1.2 ++ [_]).length = _; rw [List.length_append, h2]; rfl
    · show (cE (cE (cE (d.bs k).2))).taken = _; rw [fG, fG, fG, h3]; omega
    · rcases pq hx with hx | rfl
      · exact h4 x hx
      · omega
    · rcases pq hb with hb | rfl
      · exact h5 b hb
      · exact ⟨rfl, hn.1, by have := hn.2; show (lA _ _ _).lo ≤ (lA _ _ _).hi; omega⟩
    · show (nth ((d.bs k).1.2 ++ [_]) i).first.lo ≤ nth ((d.bs k).1.1 ++ [_]) i ∧ nth ((d.bs k).1.1 ++ [_]) i ≤ (nth ((d.bs k).1.2 ++ [_]) i).first.hi
      by_cases e : i < k
      · rw [hU (by omega), hU (by omega)]; exact h6 i e
      · obtain rfl : i = k := by omega
        rw [tI h1, tI h2]
        exact hn.2
theorem Md.HU (d : Md) (s : Sk) : s.taken + 2 ≤ (d.Iw s).taken ∧ (d.Iw s).taken ≤ s.taken + 3 := by
 unfold Md.Iw; split <;> simp only [fG] <;> omega
theorem Md.Gv (h : d.Ok) {s : Sk} : (-1 ≤ d.src s ∧ d.src s < d.nb) ∧ (-1 ≤ d.dst s ∧ d.dst s < d.nb) ∧ d.src s ≠ d.dst s := by
 have hn := d.JR h
 have h1 := tD (s := s) (lo := -1) (hi := (d.nb : Int) - 1) (by omega)
 have h2 := tD (s := cE s) (lo := -1) (hi := (d.nb : Int) - 1) (by omega)
 have h3 := eT (cE (cE s)) d.nb
 unfold Md.src Md.dst
 split
 ·omega
 rename_i e; unfold Md.IW Md.G9 at *; omega
structure Rc (d : Md) (i : Nat) (p : (List Move × List Int) × Sk) : Prop where
  len1 : p.1.1.length = i
  len2 : p.1.2.length = i
  taken : d.s.taken + 3 + 3 * d.nb ≤ p.2.taken ∧ p.2.taken ≤ d.s.taken + 3 + 3 * d.nb + 6 * i
  day : ∀ k, k < i → (nth p.1.1 k).day = d.day k
  move : ∀ m ∈ p.1.1, (-1 ≤ m.src ∧ m.src < d.nb) ∧ (-1 ≤ m.dst ∧ m.dst < d.nb) ∧ m.src ≠ m.dst ∧ (0 ≤ m.sacks.lo ∧ m.sacks.hi ≤ 300) ∧ m.sacks.lo ≤ m.sacks.hi
  num : ∀ x ∈ p.1.2, 0 ≤ x ∧ x ≤ 39
  fit : ∀ k, k < i → (nth p.1.1 k).sacks.lo ≤ nth p.1.2 k ∧ nth p.1.2 k ≤ (nth p.1.1 k).sacks.hi
  cont : ∀ (b : Nat) (t : Int), b < d.nb → 0 ≤ cx (d.yd p.1.1) (d.am p.1.2) b t ∧ cx (d.yd p.1.1) (d.am p.1.2) b t ≤ 300
theorem SR {x : Int} {n : Nat} (h : -1 ≤ x ∧ x < n) (h1 : x ≠ -1) : ∃ k : Nat, x = k ∧ k < n := ⟨x.toNat, by omega, by omega⟩
theorem Md.QT (h : d.Ok) {i : Nat} {p : (List Move × List Int) × Sk} (hp : Rc d i p) : (0 ≤ d.num p i ∧ d.num p i ≤ 39) ∧ (d.dst p.2 ≠ -1 → d.num p i ≤ 300 - cx (d.yd p.1.1) (d.am p.1.2) (d.dst p.2) (d.day i + 1)) ∧ (d.src p.2 ≠ -1 → d.num p i ≤ cx (d.yd p.1.1) (d.am p.1.2) (d.src p.2) (d.day i + 1)) := by
 have hb := eT (d.Iw p.2) 40
 obtain ⟨h1, h2, h3⟩ := d.Gv (s := p.2) h
 have := JM (y := d.yd p.1.1) (a := d.am p.1.2) (m := d.mv p.2 i) (n := eR (d.Iw p.2) 40) (by omega)
  (fun hd => by obtain ⟨k, e, hk⟩ := SR h2 hd; show cx _ _ (d.dst p.2) _ ≤ _; rw [e]; exact (hp.cont k _ hk).2)
  (fun hd => by obtain ⟨k, e, hk⟩ := SR h1 hd; show _ ≤ cx _ _ (d.src p.2) _; rw [e]; exact (hp.cont k _ hk).1)
 exact ⟨⟨this.1.1, by have := this.1.2; unfold Md.num; omega⟩, this.2.1, this.2.2⟩
theorem Md.ze (h : d.Ok) : ∀ i, i ≤ d.many → Rc d i (d.ms i)
  | 0, _ => by
    obtain ⟨h1, h2, h3, h4, h5, h6⟩ := d.zY d.nb
    refine ⟨rfl, rfl, ?_, fun k hk => (by omega), fun m hm => (by cases hm), fun x hx => (by cases hx), fun k hk => (by omega), fun b t hb => ?_⟩
    · show _ ≤ (cE (d.bs d.nb).2).taken ∧ (cE (d.bs d.nb).2).taken ≤ _; rw [fG, h3]; omega
    · have := h4 _ (cT (show b < (d.bs d.nb).1.1.length by omega))
      show 0 ≤ nth d.first ((b : Nat) : Int).toNat ∧ nth d.first ((b : Nat) : Int).toNat ≤ 300
      rw [show ((b : Nat) : Int).toNat = b by omega]; unfold Md.first; omega
  | i + 1, hi => by
    have hp := Md.ze h i (by omega)
    obtain ⟨hn, hnd, hns⟩ := d.QT h hp
    obtain ⟨h1, h2, h3, h4, h5, h6, h7, h8⟩ := hp
    have hD := d.NL h
    obtain ⟨hd1, hd2⟩ := CK (D := d.D) (i := i) (n := d.many) hD.1 (by omega)
    obtain ⟨m1, m2, m3⟩ := d.Gv (s := (d.ms i).2) h
    have hnear := Az (s := cE (d.Iw (d.ms i).2)) (n := d.num (d.ms i) i) (w := 15) (by omega) (by omega)
    have hk := d.HU (d.ms i).2
    refine ⟨?_, ?_, ?_, fun k hk => ?_, fun m hm => ?_, fun x hx => ?_, fun k hk => ?_, fun b t hb => ?_⟩
    · show ((d.ms i).1.1 ++ [_]).length = _; rw [List.length_append, h1]; rfl
    · show ((d.ms i).1.2 ++ [_]).length = _; rw [List.length_append, h2]; rfl
    · show _ ≤ (cE (cE (cE (d.Iw (d.ms i).2)))).taken ∧ (cE (cE (cE (d.Iw (d.ms i).2)))).taken ≤ _
      simp only [fG]; omega
    · show (nth ((d.ms i).1.1 ++ [_]) k).day = _
      by_cases e : k < i
      · rw [hU (by omega)]; exact h4 k e
      · obtain rfl : k = i := by omega
        rw [tI h1]; rfl
    · rcases pq hm with hm | rfl
      · exact h5 m hm
      · exact ⟨m1, m2, m3, hnear.1, by have := hnear.2; show (lA _ _ _).lo ≤ (lA _ _ _).hi; omega⟩
    · rcases pq hx with hx | rfl
      · exact h6 x hx
      · exact hn
    · show (nth ((d.ms i).1.1 ++ [_]) k).sacks.lo ≤ nth ((d.ms i).1.2 ++ [_]) k ∧ nth ((d.ms i).1.2 ++ [_]) k ≤ (nth ((d.ms i).1.1 ++ [_]) k).sacks.hi
      by_cases e : k < i
      · rw [hU (by omega), hU (by omega)]; exact h7 k e
      · obtain rfl : k = i := by omega
        rw [tI h1, tI h2]
        exact hnear.2
    · have e0 : cx (d.yd ((d.ms i).1.1 ++ [d.full (d.ms i) i])) (d.am ((d.ms i).1.2 ++ [d.num (d.ms i) i])) b t = _ := LN (y := d.yd (d.ms i).1.1) (a := d.am (d.ms i).1.2) (m := d.full (d.ms i) i) (n := d.num (d.ms i) i) (bin := b) (time := t) (by show (d.ms i).1.2.length = (d.ms i).1.1.length; omega)
      show 0 ≤ cx (d.yd ((d.ms i).1.1 ++ [d.full (d.ms i) i])) (d.am ((d.ms i).1.2 ++ [d.num (d.ms i) i])) b t ∧ cx (d.yd ((d.ms i).1.1 ++ [d.full (d.ms i) i])) (d.am ((d.ms i).1.2 ++ [d.num (d.ms i) i])) b t ≤ 300
      have hc := h8 b t hb
      by_cases ht : d.day i < t
      · have hl : cx (d.yd (d.ms i).1.1) (d.am (d.ms i).1.2) b t = cx (d.yd (d.ms i).1.1) (d.am (d.ms i).1.2) b (d.day i + 1) :=
          GL (dd := d.day i) (fun k hk => by
            have hk : k < (d.ms i).1.1.length := hk
            show (nth (d.ms i).1.1 k).day ≤ _
            rw [h4 k (by omega)]; exact hd2 k (by omega)) (by omega) _ (Nat.le_refl _)
        have e1 : nL (d.full (d.ms i) i) b t = decide (d.dst (d.ms i).2 = (b : Int)) := by
          show (decide (d.day i < t) && _) = _; rw [decide_eq_true ht]; rfl
        have e2 : lJ (d.full (d.ms i) i) b t = decide (d.src (d.ms i).2 = (b : Int)) := by
          show (decide (d.day i < t) && _) = _; rw [decide_eq_true ht]; rfl
        rw [e0, e1, e2]
        rw [hl] at hc ⊢
        by_cases q1 : d.dst (d.ms i).2 = (b : Int) <;> by_cases q2 : d.src (d.ms i).2 = (b : Int)
        · exact absurd (q2.trans q1.symm) m3
        · rw [decide_eq_true q1, decide_eq_false q2]
          have := hnd (by omega)
          rw [q1] at this
          simp only [if_true, Bool.false_eq_true, if_false]; omega
        · rw [decide_eq_false q1, decide_eq_true q2]
          have := hns (by omega)
          rw [q2] at this
          simp only [if_true, Bool.false_eq_true, if_false]; omega
        · rw [decide_eq_false q1, decide_eq_false q2]
          simp only [Bool.false_eq_true, if_false]; omega
      · have e1 : nL (d.full (d.ms i) i) b t = false := by show (decide (d.day i < t) && _) = _; rw [decide_eq_false ht]; rfl
        have e2 : lJ (d.full (d.ms i) i) b t = false := by show (decide (d.day i < t) && _) = _; rw [decide_eq_false ht]; rfl
        rw [e0, e1, e2]
        simp only [Bool.false_eq_true, if_false]; omega
theorem Md.Ak (b : Nat) : ∀ k, 0 ≤ d.most b k ∧ (∀ t : Nat, t < k → cx d.y0 d.real b t ≤ d.most b k) ∧ ((∀ t : Nat, cx d.y0 d.real b t ≤ 300) → d.most b k ≤ 300)
  | 0 => ⟨Int.le_refl _, fun t h => (by omega), fun _ => (by show (0 : Int) ≤ 300; omega)⟩
  | k + 1 => by
    obtain ⟨h1, h2, h3⟩ := Md.Ak b k
    refine ⟨?_, fun t ht => ?_, fun h => ?_⟩
    · show 0 ≤ max _ _; omega
    · show _ ≤ max _ _
      by_cases e : t < k
      · have := h2 t e; omega
      · obtain rfl : t = k := by omega
        omega
    · have := h3 h; have := h k
      show max _ _ ≤ _; omega
structure Rx (d : Md) (k : Nat) (p : List tM × Sk) : Prop where
  len : p.1.length = d.nb
  taken : p.2.taken = (d.ms d.many).2.taken + k
  old : ∀ i, i < d.nb → (nth p.1 i).first = (nth d.vB i).first
  holds : ∀ i, i < k → 0 ≤ (nth p.1 i).holds ∧ (nth p.1 i).holds ≤ 300 ∧ min 300 (d.most i (d.D + 1).toNat) ≤ (nth p.1 i).holds
theorem Md.F6 (d : Md) : ∀ k, k ≤ d.nb → Rx d k (d.hs k)
  | 0, _ => ⟨(d.zY d.nb).len2, by show (d.ms d.many).2.taken = _; omega, fun i _ => rfl, fun i h => (by omega)⟩
  | k + 1, hk => by
    obtain ⟨h1, h2, h3, h4⟩ := Md.F6 d k (by omega)
    have hb := eT (d.hs k).2 30
    have hm := (d.Ak k (d.D + 1).toNat).1
    refine ⟨?_, ?_, fun i hi => ?_, fun i hi => ?_⟩
    · show ((d.hs k).1.set k _).length = _; rw [List.length_set, h1]
    · show (cE (d.hs k).2).taken = _; rw [fG, h2]; omega
    · show (nth ((d.hs k).1.set k _) i).first = _
      rw [kE (by omega)]
      split
      · rename_i e; subst e; exact h3 k hi
      · exact h3 i hi
    · show 0 ≤ (nth ((d.hs k).1.set k _) i).holds ∧ (nth ((d.hs k).1.set k _) i).holds ≤ 300 ∧ _ ≤ (nth ((d.hs k).1.set k _) i).holds
      rw [kE (by omega)]
      split
      · rename_i e; subst e
        show 0 ≤ min 300 (_ + _) ∧ min 300 (_ + _) ≤ 300 ∧ _ ≤ min 300 (_ + _)
        omega
      · exact h4 i (by omega)
structure R2 (d : Md) (k : Nat) (p : List Level × Sk) : Prop where
  len : p.1.length = k
  taken : p.2.taken = (d.hs d.nb).2.taken + 1 + 4 * k
  level : ∀ l ∈ p.1, (0 ≤ l.day ∧ l.day ≤ d.D) ∧ (0 ≤ l.bin ∧ l.bin < d.nb) ∧ (0 ≤ l.sacks.lo ∧ l.sacks.hi ≤ 300) ∧ l.sacks.lo ≤ cx d.y0 d.real l.bin l.day ∧ cx d.y0 d.real l.bin l.day ≤ l.sacks.hi
theorem Md.GA (h : d.Ok) (b : Nat) (t : Int) (hb : b < d.nb) : 0 ≤ cx d.y0 d.real b t ∧ cx d.y0 d.real b t ≤ 300 := (d.ze h d.many (Nat.le_refl _)).cont b t hb
theorem Md.Fq (h : d.Ok) : ∀ k, R2 d k (d.ls k)
  | 0 => ⟨rfl, by show (cE (d.hs d.nb).2).taken = _; rw [fG]; omega, fun l hl => (by cases hl)⟩
  | k + 1 => by
    obtain ⟨h1, h2, h3⟩ := Md.Fq h k
    have hD := d.NL h
    have hn := d.JR h
    have b1 := eT (d.ls k).2 (d.D + 1)
    have b2 := eT (cE (d.ls k).2) d.nb
    obtain ⟨b, eb, hb⟩ : ∃ b : Nat, eR (cE (d.ls k).2) d.nb = b ∧ b < d.nb := ⟨(eR (cE (d.ls k).2) d.nb).toNat, by omega, by omega⟩
    have hc := d.GA h b (eR (d.ls k).2 (d.D + 1)) hb
    rw [← eb] at hc
    have hnear := Az (s := cE (cE (d.ls k).2)) (w := 8) hc (by omega)
    refine ⟨?_, ?_, fun l hl => ?_⟩
    · show ((d.ls k).1 ++ [_]).length = _; rw [List.length_append, h1]; rfl
    · show (cE (cE (cE (cE (d.ls k).2)))).taken = _; simp only [fG]; omega
    · rcases pq hl with hl | rfl
      · exact h3 l hl
      · exact ⟨⟨b1.1, by show eR (d.ls k).2 (d.D + 1) ≤ d.D; omega⟩, ⟨b2.1, by show eR (cE (d.ls k).2) d.nb < d.nb; omega⟩, hnear.1, hnear.2⟩
theorem Md.zb (b t : Int) : cx d.oS d.real b t = cx d.y0 d.real b t := G1 (y := d.y0)
theorem Md.lens (h : d.Ok) : (d.oS.bins.length = d.nb ∧ d.oS.moves.length = d.many) ∧ d.oS.levels.length = d.nl ∧ d.real.first.length = d.nb ∧ d.real.cD.length = d.many :=
 ⟨⟨(d.F6 d.nb (Nat.le_refl _)).len, (d.ze h d.many (Nat.le_refl _)).len1⟩, (d.Fq h d.nl).len, (d.zY d.nb).len1, (d.ze h d.many (Nat.le_refl _)).len2⟩
theorem Md.right (h : d.Ok) : d.oS.bY := by
 obtain ⟨⟨l1, l2⟩, l3, l4, l5⟩ := d.lens h
 have hD := d.NL h
 have hn := d.JR h
 have hm := d.NR h
 have hl := d.Ql h
 have H := d.F6 d.nb (Nat.le_refl _)
 have B := d.zY d.nb
 have M := d.ze h d.many (Nat.le_refl _)
 have L := d.Fq h d.nl
 refine ⟨hD, by omega, by omega, by omega, fun b hb => ?_, fun m hm' => ?_, fun l hl' => ?_⟩
 ·obtain ⟨i, hi, rfl⟩ := mE hb
  rw [l1] at hi
  have h1 := H.holds i hi
  have h2 := H.old i hi
  have h3 := B.bin _ (cT (show i < d.vB.length by have := B.len2; unfold Md.vB; omega))
  have e : (nth d.oS.bins i).first = (nth d.vB i).first := h2
  rw [e]
  exact ⟨⟨h1.1, h1.2.1⟩, h3.2.1, h3.2.2⟩
 ·obtain ⟨i, hi, rfl⟩ := mE hm'
  have h1 := M.move _ hm'
  have h2 : (nth d.oS.moves i).day = d.day i := M.day i (by rw [l2] at hi; exact hi)
  have h3 := (CK (D := d.D) (i := i) (n := d.many) hD.1 (by rw [l2] at hi; exact hi)).1
  have e : (d.oS.bins.length : Int) = d.nb := by rw [l1]
  rw [h2, e]
  exact ⟨h3, h1.1, h1.2.1, h1.2.2.1, h1.2.2.2.1, h1.2.2.2.2⟩
 have h1 := L.level _ hl'
 have e : (d.oS.bins.length : Int) = d.nb := by rw [l1]
 rw [e]
 exact ⟨h1.1, h1.2.1, h1.2.2.1, by omega⟩
theorem Md.fits (h : d.Ok) (c : Nat → Bool) : eP d.oS c d.real := by
 obtain ⟨⟨l1, l2⟩, l3, l4, l5⟩ := d.lens h
 have hD := d.NL h
 have H := d.F6 d.nb (Nat.le_refl _)
 have B := d.zY d.nb
 have M := d.ze h d.many (Nat.le_refl _)
 have L := d.Fq h d.nl
 refine ⟨⟨by omega, by omega⟩, fun b hb => ?_, fun b t hb ht => ?_, fun i hi => ?_, fun i hi _ => ?_⟩
 ·rw [l1] at hb
  have e : (nth d.oS.bins b).first = (nth d.vB b).first := H.old b hb
  rw [e]; exact B.fit b hb
 ·rw [l1] at hb
  rw [← mU, d.zb]
  have h1 := d.GA h b t hb
  have h2 := H.holds b hb
  have h3 := (d.Ak b (d.D + 1).toNat).2.1 t (by have : t ≤ d.D.toNat := ht; omega)
  refine ⟨h1.1, ?_⟩
  show _ ≤ (nth (d.hs d.nb).1 b).holds
  omega
 ·rw [l2] at hi; exact M.fit i hi
 obtain ⟨h1, h2, _, h3⟩ := L.level _ (cT hi)
 rw [← mU, d.zb]
 rw [show (((nth d.oS.levels i).bin.toNat : Nat) : Int) = (nth d.oS.levels i).bin by have : 0 ≤ (nth d.oS.levels i).bin := h2.1; omega,
  show (((nth d.oS.levels i).day.toNat : Nat) : Int) = (nth d.oS.levels i).day by have : 0 ≤ (nth d.oS.levels i).day := h1.1; omega]
 exact h3
end
theorem iX {y : aj} (h : y.bY) : bO y = 0 := by
 have a1 : lO y = false := by
  have h1 := h.days; have h2 := h.bins; have h3 := h.moves; have h4 := h.levels
  simp only [lO, Bool.or_eq_false_iff, Bool.not_eq_false', fB, decide_eq_false_iff_not]
  omega
 have al : ∀ {s : Span}, (0 ≤ s.lo ∧ s.hi ≤ 300) ∧ s.lo ≤ s.hi → fQ s = true := fun {s} h => by
  unfold fQ; rw [Bool.and_eq_true, fB, fB]; omega
 have all : ∀ {α : Type} {l : List α} {p : α → Bool}, (∀ x ∈ l, p x = true) → (!l.all p) = false := fun h => by rw [Bool.not_eq_false', List.all_eq_true]; exact h
 have a2 : kX y = false := all fun b hb => by
  obtain ⟨h1, h2, h3⟩ := h.bin b hb
  rw [Bool.and_eq_true, fB, al ⟨h2, h3⟩]; exact ⟨by omega, rfl⟩
 have a3 : jB y = false := by
  unfold jB
  rw [all fun m hm => al ⟨(h.move m hm).2.2.2.2.1, (h.move m hm).2.2.2.2.2⟩, all fun l hl => al ⟨(h.level l hl).2.2.1, (h.level l hl).2.2.2⟩]; rfl
 have fin : ∀ {n : Int}, -1 ≤ n ∧ n < y.bins.length → y.fin n = true := fun {n} h => by
  unfold aj.fin aj.bin; rw [Bool.or_eq_true, decide_eq_true_eq, fB]; omega
 have a4 : xZ y = false := all fun m hm => by
  obtain ⟨h1, h2, h3, _⟩ := h.move m hm
  rw [Bool.and_eq_true, Bool.and_eq_true, fB, fin h2, fin h3]; exact ⟨⟨by omega, rfl⟩, rfl⟩
 have a5 : rQ y = false := all fun l hl => by
  obtain ⟨h1, h2, _⟩ := h.level l hl
  unfold aj.time aj.bin; rw [Bool.and_eq_true, fB, fB]; omega
 have a6 : qB y = false := all fun m hm => by
  rw [Bool.not_eq_true', decide_eq_false_iff_not]; exact (h.move m hm).2.2.2.1
 have a7 : qM y = false := by
  unfold qM
  rw [all (p := fun b : tM => fu b.first) fun b hb => decide_eq_true (h.bin b hb).2.2, all (p := fun m : Move => fu m.sacks) fun m hm => decide_eq_true (h.move m hm).2.2.2.2.2, all (p := fun l : Level => fu l.sacks) fun l hl => decide_eq_true (h.level l hl).2.2.2]; rfl
 unfold bO
 rw [a1, a2, a3, a4, a5, a6, a7]; rfl
end Go.Proofs.YtelbollidfdcjaaGreat
namespace Go.T
open Go Go.RowKit
def Zt : Nat := 1000000
def G3 (M : bF) : Prop := ∀ b u, M b = some u → Zt ≤ u → u = Zt + b
def Cb (J : World → bF → Prop) : Prop := ∀ w M w' M', Wf w' M' → Le (fun t => Zt ≤ t) (fun t => Zt ≤ t) w M w' M' → J w M → J w' M'
def QY (P : Program) (l : Nat) (encs : List (List Ty)) (J : Nat → World → bF → Prop) (Jx : World → bF → Prop) : Prop :=
  ∀ (k : Nat) (tys : List Ty), encs[k]? = some tys → ∀ w M vs, Wf w M → G3 M → J k w M → cK w M tys vs →
    YieldAt Fence.wide 0 P l vs.toArray w fun e w' => ∃ M', Wf w' M' ∧ G3 M' ∧ Le (fun t => t < Zt) (fun t => t < Zt) w M w' M' ∧ ((e = .returned (.bool true) ∧ J (k + 1) w' M') ∨ (e = .returned (.bool false) ∧ Jx w' M'))
section
variable {P : Program} {fr : Fr} {ops : Array Oper} {A : As} {rest : List Oper} {K : As → List (As × Fx) → Prop} {d : Nat} {t : TypeId} {p : String} {e : Array Edge} {Q : Exit → Act → World → Prop}
theorem Pu {op : Op} {dst : Option Nat} {j s : Nat} {want : Bool} {f : Fx} (hs : pP ops j = some s) (hn : Nat.blt s fr.n = true) (hc : A.slots s = .bool want) (h1 : xg P fr ops ⟨dst, op, t, p, e, none⟩ A f) :
 xg P fr ops ⟨dst, op, t, p, e, some (j, want)⟩ A { f with rs := s :: f.rs } := by
 obtain ⟨hd, hsets, hS, hK, hop⟩ := h1
 refine ⟨hd, hsets, hS, hK, fun a w M wf hsz hrd htg => ?_⟩
 have hv := hrd s List.mem_cons_self (by simpa using hn)
 rw [hc] at hv
 have hy := mA (ops := ops) hs (by rw [hsz]; simpa using hn) hv
 have hw : Region.wanted ⟨dst, op, t, p, e, some (j, want)⟩ (yielded ops a.tmps) = true := by simp [Region.wanted, hy]
 have h := hop a w M wf hsz (fun c hc => hrd c (List.mem_cons_of_mem _ hc)) htg
 rw [if_pos (by simp [Region.wanted])] at h
 rw [if_pos hw]
 exact h
theorem k9 {op : Op} {dst : Option Nat} {j s : Nat} {want : Bool} {f : Fx} (hs : pP ops j = some s) (hn : Nat.blt s fr.n = true) (hc : A.slots s = .bool want) (h1 : xg P fr ops ⟨dst, op, t, p, e, none⟩ A f)
 (h : ay P fr ops rest (A.after f) fun A' l' => K A' ((A, { f with rs := s :: f.rs }) :: l')) : ay P fr ops (⟨dst, op, t, p, e, some (j, want)⟩ :: rest) A K := ⟨_, Pu hs hn hc h1, h⟩
theorem nv {op : Op} {j s : Nat} {want c : Bool} (hs : pP ops j = some s) (hn : Nat.blt s fr.n = true) (hc : A.slots s = .bool c) (hne : (c == want) = false)
 (h : ay P fr ops rest (A.set d (.ex undef)) fun A' l' => K A' ((A, { d := some d, ty := .ex undef, rs := [s] }) :: l')) : ay P fr ops (⟨some d, op, t, p, e, some (j, want)⟩ :: rest) A K := by
 refine ⟨{ d := some d, ty := .ex undef, rs := [s] }, ⟨rfl, (by simp), (by simp), (by simp), fun a w M wf hsz hrd htg => ?_⟩, h⟩
 have hv := hrd s List.mem_cons_self (by simpa using hn)
 rw [hc] at hv
 have hy := mA (ops := ops) hs (by rw [hsz]; simpa using hn) hv
 have hw : Region.wanted ⟨some d, op, t, p, e, some (j, want)⟩ (yielded ops a.tmps) = false := by
  simp only [Region.wanted, hy]
  cases c <;> cases want <;> simp_all
 rw [if_neg (by rw [hw]; simp)]
 exact ⟨M, wf, Le.refl _ _ _ _, rfl, by simp⟩
def yv (l : Nat) : Value := .func (.yield l) #[] #[]
end
def cN (n : Nat) (J : Nat → World → bF → Prop) (Jx : World → bF → Prop) (resD resS : Ty) (e : Ending) (w' : World) : Prop :=
  ∃ r M', e = .returned r ∧ Wf w' M' ∧ G3 M' ∧ ((resD.den w' M' r ∧ J n w' M') ∨ (resS.den w' M' r ∧ Jx w' M'))
section
variable {P : Program} {A : As}
variable {fn : Func} {n m : Nat} {w0 : World} {M0 : bF} {J : Nat → World → bF → Prop} {Jx : World → bF → Prop} {resD resS : Ty}
end
end Go.T
namespace Go.T
open Go Go.RowKit
theorem Am : 1 ≤ Zt := by decide
def gG (M : bF) : bF := fun b => match M b with | none => none | some t => if Zt ≤ t then some 0 else some t
theorem jA {M : bF} {b : Nat} (h : M b = none) : gG M b = none := by simp [gG, h]
theorem gI {M : bF} {b t : Nat} (h : M b = some t) (ht : t < Zt) : gG M b = some t := by
 have : ¬ Zt ≤ t := by omega
 simp [gG, h, this]
theorem yD {M : bF} {b t : Nat} (h : M b = some t) (ht : Zt ≤ t) : gG M b = some 0 := by simp [gG, h, ht]
theorem oW {M : bF} {b t : Nat} (h : gG M b = some (t + 1)) : M b = some (t + 1) ∧ t + 1 < Zt := by
 unfold gG at h
 split at h
 ·cases h
 rename_i u hu
 split at h
 ·cases h
 injection h with h; subst h; exact ⟨hu, by omega⟩
theorem p5 {w : World} {M : bF} (wf : Wf w M) : Wf w (gG M) :=
  ⟨fun b t h => by
    cases hm : M b with
    | none => rw [jA hm] at h; cases h
    | some u => exact wf.lt b u hm, fun b b' t ht1 h h' => wf.inj b b' t ht1 (oW h).1 (oW h').1⟩
theorem BX {M : bF} {b u : Nat} (h : gG M b = some u) : u < Zt := by
 unfold gG at h
 split at h
 ·cases h
 split at h
 ·injection h with h; subst h; decide
 injection h with h; omega
def CZ (n : Nat) (pass : List Nat) (s : Nat → Ty) : Bool := (List.range n).all fun c => (s c).cdeps.isEmpty && (s c).deps.all fun t => pass.contains t
def xS (l l' : List Nat) : Bool := l.all (fun t => l'.contains t) && l'.all fun t => Nat.ble 1 t && Nat.blt t 1000000
def Rq (l : List Nat) : Bool := l.all fun t => Nat.ble 1 t && Nat.blt t 1000000
def rX (l : List (Nat × Cont)) : Bool := l.all fun x => Nat.ble 1 x.1 && (Nat.blt x.1 1000000 && (Rq x.2.deps && Rq x.2.cdeps))
theorem Cs {l : List Nat} (h : Rq l = true) : ∀ t ∈ l, 1 ≤ t ∧ t < Zt := by
 intro t ht
 simp only [Rq, List.all_eq_true, Bool.and_eq_true, Nat.ble_eq, Nat.blt_eq] at h
 exact h t ht
theorem lT {l : List (Nat × Cont)} (h : rX l = true) : ∀ x ∈ l, (1 ≤ x.1 ∧ x.1 < Zt) ∧ (∀ t ∈ x.2.deps, 1 ≤ t ∧ t < Zt) ∧ ∀ t ∈ x.2.cdeps, 1 ≤ t ∧ t < Zt := by
 intro x hx
 simp only [rX, List.all_eq_true, Bool.and_eq_true, Nat.ble_eq, Nat.blt_eq] at h
 obtain ⟨h1, h2, h3, h4⟩ := h x hx
 exact ⟨⟨h1, h2⟩, Cs h3, Cs h4⟩
theorem mY {n : Nat} {pass : List Nat} {s : Nat → Ty} (h : CZ n pass s = true) : ∀ c, c < n → (s c).cdeps = [] ∧ ∀ t ∈ (s c).deps, t ∈ pass := by
 intro c hc
 simp only [CZ, List.all_eq_true, Bool.and_eq_true, List.mem_range, List.isEmpty_iff, List.contains_iff_mem] at h
 exact h c hc
theorem qL {l l' : List Nat} (h : xS l l' = true) : (∀ t ∈ l, t ∈ l') ∧ ∀ t ∈ l', 1 ≤ t ∧ t < Zt := by
 simp only [xS, Bool.and_eq_true, List.all_eq_true, List.contains_iff_mem, Nat.ble_eq, Nat.blt_eq] at h
 exact ⟨h.1, h.2⟩
theorem C0 {w : World} {M : bF} {n : Nat} : ∀ (l : List (Nat × Ty)) (vs : List Value) (tm : Array Value) (s : Nat → Ty), (l.map Prod.fst).Nodup → tm.size = n → (∀ c, c < n → (s c).den w M (tm.getD c undef)) → cK w M (l.map Prod.snd) vs →
    (((l.map Prod.fst).zip vs).foldl (fun t (p, v) => t.setIfInBounds p v) tm).size = n ∧ ∀ c, c < n → (pS l s c).den w M ((((l.map Prod.fst).zip vs).foldl (fun t (p, v) => t.setIfInBounds p v) tm).getD c undef)
  | [], [], tm, s, _, hsz, hs, _ => ⟨hsz, hs⟩
  | (d, ty) :: l, v :: vs, tm, s, hnd, hsz, hs, ⟨hv, hvs⟩ => by
    simp only [List.map_cons, List.nodup_cons] at hnd
    have hs' : ∀ c, c < n → ((fun i => bif Nat.beq i d then ty else s i) c).den w M ((tm.setIfInBounds d v).getD c undef) := fun c hc => by
      simp only [Array.getD_eq_getD_getElem?, Array.getElem?_setIfInBounds]
      by_cases e : d = c
      · subst e; simpa [hsz, hc] using hv
      · have e' : Nat.beq c d = false := by cases h : Nat.beq c d with | false => rfl | true => exact absurd (Nat.eq_of_beq_eq_true h).symm e
        simpa [e, e', Array.getD_eq_getD_getElem?] using hs c hc
    obtain ⟨h1, h2⟩ := C0 l vs (tm.setIfInBounds d v) (fun i => bif Nat.beq i d then ty else s i) hnd.2 (by simpa using hsz) hs' hvs
    have hset : ∀ c, pS ((d, ty) :: l) s c = pS l (fun i => bif Nat.beq i d then ty else s i) c := by
      intro c
      have hl : ∀ (l : List (Nat × Ty)) (s s' : Nat → Ty), (∀ i, i = c → i ∉ l.map Prod.fst → s i = s' i) → pS l s c = pS l s' c := by
        intro l
        induction l with
        | nil => intro s s' h; exact h c rfl (by simp)
        | cons x l ih =>
          intro s s' h
          simp only [pS]
          cases hb : Nat.beq c x.1 with
          | true => rfl
          | false =>
            simp only [cond_false]
            refine ih s s' fun i hi hm => h i hi fun hm' => ?_
            rw [List.map_cons] at hm'
            rcases List.mem_cons.1 hm' with h1 | h1
            · rw [← h1, hi] at hb; simp at hb
            · exact hm h1
      simp only [pS]
      by_cases e : c = d
      · subst e
        have hb : Nat.beq c c = true := by simp
        rw [hb, cond_true]
        have : ∀ (l : List (Nat × Ty)) (s : Nat → Ty), c ∉ l.map Prod.fst → pS l s c = s c := by
          intro l
          induction l with
          | nil => intro s _; rfl
          | cons x l ih =>
            intro s h
            simp only [List.map_cons, List.mem_cons, not_or] at h
            have hb : Nat.beq c x.1 = false := by cases hb : Nat.beq c x.1 with | false => rfl | true => exact absurd (Nat.eq_of_beq_eq_true hb) h.1
            simp only [pS, hb, cond_false]
            exact ih s h.2
        rw [this l _ hnd.1]
        simp
      · have hb : Nat.beq c d = false := by cases hb : Nat.beq c d with | false => rfl | true => exact absurd (Nat.eq_of_beq_eq_true hb) e
        rw [hb, cond_false]
        exact hl l _ _ fun i hi _ => by subst hi; simp [hb]
    refine ⟨h1, fun c hc => ?_⟩
    rw [hset]; exact h2 c hc
def QC : Nat → Ty := fun _ => Ty.any
def dO (fr : Fr) (B : List (Nat × Cont)) (br : Bool) (tr : List (Nat × Cont)) : Exit → Act → World → Prop
  | .normal, a, w => As.holds fr ⟨QC, B⟩ a w
  | .ret, a, w => br = true ∧ As.holds fr ⟨QC, tr⟩ a w
  | _, _, _ => False
theorem B4 {fr : Fr} {A : As} {B : List (Nat × Cont)} {br : Bool} {tr : List (Nat × Cont)} (h : cV fr A ⟨QC, B⟩) : dR fr A (dO fr B br tr .normal) := fun _ _ ha => h.holds ha
def QI (P : Program) (n : Nat) (pass : List Nat) (assign body : Code) (A : As) (B : List (Nat × Cont)) (br : Bool) (tr : List (Nat × Cont)) : Prop :=
  ∃ A1 : As, (∀ l w M, fW P ⟨n, w, M, pass, .round l⟩ assign A (Exit.then (fun a w' => A1.holds ⟨n, w, M, pass, .round l⟩ a w') fun _ _ _ => False)) ∧
    ∀ l w M, fW P ⟨n, w, M, pass, .round l⟩ body (A1.after { d := none, S := [0] }) (dO ⟨n, w, M, pass, .round l⟩ B br tr)
section
variable {P : Program} {fr : Fr} {A : As} {Q : Exit → Act → World → Prop}
theorem Db {w : World} {M : bF} {l : Nat} {o : Obj} (h0 : fr.w0.heap.size ≤ l) (h1 : ∀ t, ¬ (1 ≤ t ∧ t ∉ fr.pass) → fr.M0 l ≠ some t) (hb : fr.base w M) : fr.base (w.putObj l o) M := by
 refine ⟨by simpa using hb.size, hb.os, hb.tape, hb.out, fun b hlt hm => ⟨(hb.qj b hlt hm).1, ?_⟩, fun b t hm hk => ⟨(hb.own b t hm hk).1, fun hs => ?_⟩⟩
 ·rw [World.putObj_heap_other (by omega)]; exact (hb.qj b hlt hm).2
 rw [World.putObj_heap_other (fun e => h1 t hk (by rw [← e]; exact hm))]; exact (hb.own b t hm hk).2 hs
theorem wE {w : World} {M : bF} {l : Nat} {o : Obj} (hl : M l = some 0) : Le (· ∈ [0]) (· ∈ ([] : List Nat)) w M (w.putObj l o) M := by
 refine ⟨by simp, rfl, rfl, rfl, fun b hb hm => ⟨hm, World.putObj_heap_other fun e => by rw [e, hl] at hm; cases hm⟩, fun b t hm _ => ⟨hm, fun hs => World.putObj_heap_other fun e => ?_⟩⟩
 rw [e, hl] at hm; injection hm with hm; exact hs (by simp [hm])
def JJ (fr : Fr) (s : Nat → Ty) (tm : Array Value) (ds : List Deferred) (l : Nat) (r : Loop) (tg : List (Nat × Cont)) (w : World) (M : bF) : Prop :=
  fr.base w M ∧ (∀ c, c < fr.n → (s c).den w M (tm.getD c undef)) ∧ (∀ x ∈ tg, x.2.den w M x.1) ∧ M l = some 0 ∧ w.heap[l]? = some (.loop r) ∧ Defs fr w M ds
theorem Oh {s : Nat → Ty} {tm : Array Value} {ds : List Deferred} {l : Nat} {r : Loop} {tg : List (Nat × Cont)} {pass' : List Nat} (hpass : xS fr.pass pass' = true) (hs : CZ fr.n pass' s = true) (ht : rX tg = true) : Cb (JJ fr s tm ds l r tg) := by
 intro w M w' M' wf' le ⟨h1, h2, h3, h4, h5, h6⟩
 obtain ⟨hp1, hp2⟩ := qL hpass
 obtain ⟨a, c⟩ := le.own l 0 h4 (by decide)
 refine ⟨Fr.ju h1 (fun t ht => Nat.le_trans Am ht) (fun t ht => ⟨Nat.le_trans Am ht, fun hm => by have := (hp2 t (hp1 t hm)).2; omega⟩) le, fun c hc => ?_, fun x hx => ?_, a, (c (by decide)).trans h5, h6.step (fun t ht => Nat.le_trans Am ht) (fun t ht => Nat.le_trans Am ht) le⟩
 ·obtain ⟨e1, e2⟩ := mY hs c hc
  exact (s c).mono le (fun t ht hz => by have := (hp2 t (e2 t ht)).2; omega) (by rw [e1]; intro _ h; cases h) (h2 c hc)
 obtain ⟨⟨_, e2⟩, e3, e4⟩ := lT ht x hx
 exact x.2.mono le (fun t ht hz => by have := (e3 t ht).2; omega) (fun t ht hz => by have := (e4 t ht).2; omega) (by omega) (by omega) (h3 x hx)
def o8 (w : World) (M M3 : bF) : bF := fun b => match M b with | some u => if b < w.heap.size ∧ Zt ≤ u then some u else gG M3 b | none => gG M3 b
theorem zT {s : Nat → Ty} {tm : Array Value} {ds : List Deferred} {l : Nat} {r r3 r4 : Loop} {tg0 tg : List (Nat × Cont)} {pass' : List Nat} (hpass : xS fr.pass pass' = true) (hs : CZ fr.n pass' s = true) (ht : rX tg = true) (hkd : fr.kd = .marks)
    (h0 : fr.w0.heap.size ≤ l) (h1 : ∀ t, ¬ (1 ≤ t ∧ t ∉ fr.pass) → fr.M0 l ≠ some t)
    {w w1 w3 : World} {M M1 M3 : bF} (wf : Wf w M) (z : G3 M) (hj : JJ fr s tm ds l r tg0 w M)
    (le1 : Le (fun t => 1 ≤ t) (fun t => 1 ≤ t ∧ t ∉ pass') w (gG M) w1 M1) (wf3 : Wf w3 M3) (le3 : Le (fun t => 1 ≤ t) (fun t => 1 ≤ t ∧ t ∉ pass') (w1.putObj l (.loop r3)) M1 w3 M3)
    (htg : ∀ x ∈ tg, x.2.den w3 M3 x.1) :
    w3.heap[l]? = some (.loop r3) ∧ ∃ M4, Wf (w3.putObj l (.loop r4)) M4 ∧ G3 M4 ∧ Le (fun t => t < Zt) (fun t => t < Zt) w M (w3.putObj l (.loop r4)) M4 ∧ JJ fr s tm ds l r4 tg (w3.putObj l (.loop r4)) M4 := by
  obtain ⟨hb, hsl, _, hl, hrec, hdef⟩ := hj
  obtain ⟨hp1, hp2⟩ := qL hpass
  have hlt : l < w.heap.size := wf.lt l 0 hl
  have hZ : (1 : Nat) ≤ Zt := by decide
  -- a block whose tag is 0, or another one that stays
  have zero : ∀ b, gG M b = some 0 → M3 b = some 0 ∧ (b ≠ l → w3.heap[b]? = w.heap[b]?) := fun b h => by
    obtain ⟨a, c⟩ := le1.own b 0 h (by omega)
    obtain ⟨a', c'⟩ := le3.own b 0 a (by omega)
    exact ⟨a', fun e => (c' (by omega)).trans ((World.putObj_heap_other e).trans (c (by omega)))⟩
  have pas : ∀ b t, t ∈ pass' → M b = some t → M3 b = some t := fun b t hm h => by
    obtain ⟨a, _⟩ := le1.own b t (gI h (hp2 t hm).2) (fun h => h.2 hm)
    exact (le3.own b t a fun h => h.2 hm).1
  have qj : ∀ b, b < w.heap.size → M b = none → M3 b = none ∧ w3.heap[b]? = w.heap[b]? := fun b hb h => by
    obtain ⟨a, c⟩ := le1.qj b hb (jA h)
    obtain ⟨a', c'⟩ := le3.qj b (by simpa using Nat.lt_of_lt_of_le hb le1.size) a
    exact ⟨a', c'.trans ((World.putObj_heap_other fun e => by rw [e, hl] at h; cases h).trans c)⟩
  have hl0 : gG M l = some 0 := gI hl (by decide)
  have hM1l := (le1.own l 0 hl0 (by omega)).1
  have hl1 : l < w1.heap.size := Nat.lt_of_lt_of_le hlt le1.size
  have hrec3 : w3.heap[l]? = some (.loop r3) := ((le3.own l 0 hM1l (by omega)).2 (by omega)).trans (World.putObj_heap_same hl1)
  have hM3l := (zero l hl0).1
  have hsz3 : w.heap.size ≤ w3.heap.size := Nat.le_trans le1.size (by simpa using le3.size)
  refine ⟨hrec3, o8 w M M3, ?_⟩
  -- how the tags are
  have kept : ∀ b u, M b = some u → Zt ≤ u → o8 w M M3 b = some u := fun b u h hu => by
    unfold o8; rw [h]; simp [wf.lt b u h, hu]
  have other : ∀ b, (∀ u, M b = some u → u < Zt) → o8 w M M3 b = gG M3 b := fun b h => by
    unfold o8
    cases hm : M b with
    | none => rfl
    | some u => have := h u hm; simp only; rw [if_neg (by omega)]
  have from3 : ∀ b t, M3 b = some t → 1 ≤ t → ∀ u, M b = some u → u < Zt := fun b t h h1 u hu => by
    rcases Nat.lt_or_ge u Zt with h2 | h2
    · exact h2
    · have := (zero b (yD hu h2)).1
      rw [this] at h; injection h with h; omega
  have none3 : ∀ b, M3 b = none → ∀ u, M b = some u → u < Zt := fun b h u hu => by
    rcases Nat.lt_or_ge u Zt with h2 | h2
    · exact h2
    · have := (zero b (yD hu h2)).1
      rw [this] at h; cases h
  have zok : G3 (o8 w M M3) := fun b u h hu => by
    unfold o8 at h
    split at h
    · rename_i v hv
      split at h
      · injection h with h; subst h; exact z b v hv hu
      · have := BX h; omega
    · have := BX h; omega
  have wf4 : Wf (w3.putObj l (.loop r4)) (o8 w M M3) := by
    refine ⟨fun b t h => ?_, fun b b' t ht1 h h' => ?_⟩
    · rw [World.putObj_size]
      unfold o8 at h
      split at h
      · split at h
        · rename_i hc; exact Nat.lt_of_lt_of_le hc.1 hsz3
        · exact (p5 wf3).lt b t h
      · exact (p5 wf3).lt b t h
    · by_cases hz : Zt ≤ t + 1
      · have e1 := zok b _ h hz
        have e2 := zok b' _ h' hz
        omega
      · have part : ∀ b, o8 w M M3 b = some (t + 1) → M3 b = some (t + 1) := fun b h => by
          unfold o8 at h
          split at h
          · split at h
            · injection h with h; omega
            · exact (oW h).1
          · exact (oW h).1
        exact wf3.inj b b' t ht1 (part b h) (part b' h')
  have le0 : Le (· ∈ [0]) (· ∈ ([] : List Nat)) w3 M3 (w3.putObj l (.loop r4)) M3 := wE hM3l
  have leZ : Le (fun t => t < Zt) (fun t => t < Zt) w M (w3.putObj l (.loop r4)) (o8 w M M3) := by
    refine ⟨by simpa using hsz3, (le0.os.trans (le3.os.trans le1.os)), (le0.tape.trans (le3.tape.trans le1.tape)), (le0.out.trans (le3.out.trans le1.out)), fun b hb hm => ?_, fun b t hm ht => ⟨kept b t hm (by omega), fun _ => ?_⟩⟩
    · obtain ⟨a, c⟩ := qj b hb hm
      refine ⟨by rw [other b (fun u hu => by rw [hm] at hu; cases hu)]; exact jA a, ?_⟩
      rw [World.putObj_heap_other fun e => by rw [e, hl] at hm; cases hm]; exact c
    · have hbl : b ≠ l := fun e => by rw [e, hl] at hm; injection hm with hm; omega
      rw [World.putObj_heap_other hbl]
      exact (zero b (yD hm (by omega))).2 hbl
  refine ⟨wf4, zok, leZ, ?_, fun c hc => ?_, fun x hx => ?_, ?_, World.putObj_heap_same (Nat.lt_of_lt_of_le hlt hsz3), ?_⟩
  · refine ⟨Nat.le_trans hb.size leZ.size, leZ.os.trans hb.os, leZ.tape.trans hb.tape, leZ.out.trans hb.out, fun b hlt' hm => ?_, fun b t hm hk => ?_⟩
    · obtain ⟨a, c⟩ := hb.qj b hlt' hm
      obtain ⟨a', c'⟩ := leZ.qj b (Nat.lt_of_lt_of_le hlt' hb.size) a
      exact ⟨a', c'.trans c⟩
    · obtain ⟨a, c⟩ := hb.own b t hm hk
      have hbl : b ≠ l := fun e => h1 t hk (e ▸ hm)
      by_cases ht0 : t = 0
      · subst ht0
        obtain ⟨a', c'⟩ := zero b (gI a (by decide))
        refine ⟨by rw [other b (fun u hu => by rw [a] at hu; injection hu with hu; omega)]; exact gI a' (by decide), fun hs => ?_⟩
        rw [World.putObj_heap_other hbl]; exact (c' hbl).trans (c hs)
      · have htp : t ∈ fr.pass := Classical.byContradiction fun h => hk ⟨by omega, h⟩
        have htp' := hp1 t htp
        refine ⟨by rw [other b (fun u hu => by rw [a] at hu; injection hu with hu; have := (hp2 t htp').2; omega)]; exact gI (pas b t htp' a) (hp2 t htp').2, fun hs => absurd (FK.FJ (k := fr.kd) (by omega : 1 ≤ t)) hs⟩
  · obtain ⟨e1, e2⟩ := mY hs c hc
    refine (s c).mono (S := fun _ => True) (K := fun t => t ∉ pass') ⟨leZ.size, leZ.os, leZ.tape, leZ.out, leZ.qj, fun b t hm hk => ⟨?_, fun h => absurd trivial h⟩⟩ (fun t ht h => h (e2 t ht)) (by rw [e1]; intro _ h; cases h) (hsl c hc)
    have htp : t ∈ pass' := Classical.byContradiction fun h => hk h
    rw [other b (fun u hu => by rw [hm] at hu; injection hu with hu; have := (hp2 t htp).2; omega)]
    exact gI (pas b t htp hm) (hp2 t htp).2
  · obtain ⟨⟨g1, g2⟩, e3, e4⟩ := lT ht x hx
    refine x.2.mono (w := w3) (M := M3) (S := fun t => t = 0) (K := fun t => t = 0 ∨ Zt ≤ t) ⟨by simp, rfl, rfl, rfl, fun b hb hm => ⟨?_, ?_⟩, fun b t hm hk => ⟨?_, fun _ => ?_⟩⟩ (fun t ht h => by have := e3 t ht; omega) (fun t ht h => by have := (e4 t ht).1; omega) (by omega) (by omega) (htg x hx)
    · rw [other b (none3 b hm)]; exact jA hm
    · exact World.putObj_heap_other fun e => by rw [e, hM3l] at hm; cases hm
    · have ht1 : 1 ≤ t := Nat.pos_of_ne_zero fun h => hk (.inl h)
      rw [other b (from3 b t hm ht1)]; exact gI hm (Nat.lt_of_not_le fun h => hk (.inr h))
    · exact World.putObj_heap_other fun e => by rw [e, hM3l] at hm; injection hm with hm; exact hk (.inl hm.symm)
  · rw [other l (fun u hu => by rw [hl] at hu; injection hu with hu; omega)]; exact gI hM3l (by decide)
  · obtain ⟨rs, e, g1, g2, g3⟩ := hdef
    refine ⟨rs, e, g1, g2, fun q hq => ?_⟩
    obtain ⟨a, b, c⟩ := g3 q hq
    have hql : q ≠ l := fun e => by rw [e, hrec] at c; cases c
    obtain ⟨a', c'⟩ := zero q (gI a (by decide))
    refine ⟨by rw [other q (fun u hu => by rw [a] at hu; injection hu with hu; omega)]; exact gI a' (by decide), b, ?_⟩
    rw [World.putObj_heap_other hql]; exact (c' hql).trans c
theorem sy {g : Operand} {ps : List Tmp} {assign body : Code} {gf : FuncId} {caps : List Ty} {encs : List (List Ty)} {resD resS : Ty} (s : Nat → Ty) (tg : Nat → List (Nat × Cont)) (br : Bool) (tr : List (Nat × Cont)) (pass' : List Nat)
    (hkd : fr.kd = .marks) (hg : A.op fr g = .kP gf caps) (hI1 : ∃ fn, P.funcs[gf]? = some fn ∧ (fn.name == "runtime.NumGoroutine") = false ∧ fn.body.isNone = false) (hI2 : ∀ (l : Nat) (J : Nat → World → bF → Prop) (Jx : World → bF → Prop) (tm : Array Value), (∀ k, Cb (J k)) → Cb Jx → QY P l encs J Jx → (∀ k w M, J k w M → (∀ c, c < fr.n → (s c).den w M (tm.getD c undef)) ∧ ∀ x ∈ tg k, x.2.den w M x.1) → ∀ w M vs, Wf w M → G3 M → cK w M (Ty.ex (yv l) :: caps) vs → J 0 w M → Calls P gf vs.toArray w (cN encs.length J Jx resD resS)) (hcd : ∀ t ∈ cG caps, t < Zt) (hcc : ∀ t ∈ bl caps, t < Zt)
    (hps : ps.Nodup) (hlen : ∀ tys ∈ encs, tys.length = ps.length ∧ cG tys = [] ∧ bl tys = []) (hpass : xS fr.pass pass' = true) (hs : CZ fr.n pass' s = true) (htg : ∀ k, rX (tg k) = true) (htr : rX tr = true)
    (h0 : cV fr A ⟨s, tg 0⟩)
    (hround : ∀ k tys, encs[k]? = some tys → QI P fr.n pass' assign body ⟨pS (ps.zip tys) s, tg k⟩ (tg (k + 1)) br tr)
    (hdone : dR fr ⟨s, tg encs.length⟩ (Q .normal)) (hret : br = true → dR fr ⟨s, tr⟩ (Q .ret)) :
    fW P fr (.rangeFunc g ps.toArray assign body) A Q := by
  intro a w ha
  have hfe : fr.kd.jQ = Fence.wide := by rw [hkd]; rfl
  rw [hfe]
  obtain ⟨hp1, hp2⟩ := qL hpass
  have hgv : ∃ cs : Array Value, a.eval g = .func (.func gf) #[] cs ∧ ∃ M, cK w M caps cs.toList := by
    obtain ⟨M, _, hsl, _⟩ := ha
    have := cU (x := g) (rs := cO g) (fun _ h => h) (fun c _ hn => hsl c hn)
    rw [hg] at this
    obtain ⟨cs, e, hd⟩ := this
    exact ⟨cs, e, M, hd⟩
  obtain ⟨M, ok, hsl0, htg0⟩ := id ha
  have hcs : ∃ cs : Array Value, a.eval g = .func (.func gf) #[] cs ∧ cK w M caps cs.toList := by
    have := cU (x := g) (rs := cO g) (fun _ h => h) (fun c _ hn => hsl0 c hn)
    rw [hg] at this
    exact this
  obtain ⟨cs, hev, hcaps⟩ := hcs
  have hB0 := h0.holds (a := a) (w := w) ⟨M, ok, hsl0, htg0⟩
  -- the same tags: the assertion that is forgotten down to holds of them, too
  have hslB : ∀ c, c < fr.n → (s c).den w M (a.tmps.getD c undef) := fun c hc => (sB h0.slots c hc) _ _ _ (hsl0 c hc)
  have htgB : ∀ x ∈ tg 0, x.2.den w M x.1 := fun x hx => by
    obtain ⟨C, hC, hsub⟩ := pT h0.tags x hx
    exact hsub _ _ _ (htg0 _ (cj hC))
  have hZ : (1 : Nat) ≤ Zt := by decide
  refine wpIn_rangeFunc fun fn _ => ?_
  obtain ⟨w1, hw1⟩ : ∃ w1, (w.alloc (.deferred (some []))).alloc (.loop { state := .ready, pending := none, fn, tmps := a.tmps, params := ps.toArray, assign, body, defers := w.heap.size }) = w1 := ⟨_, rfl⟩
  refine ⟨w.heap.size + 1, _, w1, { target := .fn (.func gf) cs, args := #[yv (w.heap.size + 1)] }, w1, gf, (yv (w.heap.size + 1) :: cs.toList).toArray, w1, by rw [← hw1]; exact run_enterLoop_outer fn a.tmps ps.toArray assign body, ?_, fun _ _ => trivial, ?_, (fun h => by cases h), ?_⟩
  · simp [resolve, rangeCall, hev, Deferred.ofValue, yv]; rfl
  · obtain ⟨fn', hf, hn, hb⟩ := hI1
    have hn' : fn'.name ≠ "runtime.NumGoroutine" := by simpa using hn
    have hb' : fn'.body ≠ none := fun h => by rw [h] at hb; cases hb
    simp [invoke, callFunc, hf, hn', hb']
  -- the world in which the iterator is called
  have hnone : ∀ b, w.heap.size ≤ b → M b = none := fun b hb => by
    cases hm : M b with
    | none => rfl
    | some t => have := ok.wf.lt b t hm; omega
  have hsz1 : w1.heap.size = w.heap.size + 2 := by rw [← hw1]; simp
  have hD : w1.heap[w.heap.size]? = some (.deferred (some [])) := by
    rw [← hw1]
    show ((w.heap.push _).push _)[w.heap.size]? = _
    rw [Array.getElem?_push, if_neg (by simp), Array.getElem?_push, if_pos rfl]
  have hL : w1.heap[w.heap.size + 1]? = some (.loop { state := .ready, pending := none, fn, tmps := a.tmps, params := ps.toArray, assign, body, defers := w.heap.size }) := by
    rw [← hw1]
    show ((w.heap.push _).push _)[w.heap.size + 1]? = _
    rw [Array.getElem?_push, if_pos (by simp)]
  have hold : ∀ b, b < w.heap.size → w1.heap[b]? = w.heap[b]? := fun b hb => by
    rw [← hw1]
    show ((w.heap.push _).push _)[b]? = _
    rw [Array.getElem?_push, if_neg (by simp; omega), Array.getElem?_push, if_neg (by omega)]
  have hw1os : w1.os = w.os ∧ w1.tape = w.tape ∧ w1.output = w.output := by rw [← hw1]; exact ⟨rfl, rfl, rfl⟩
  have leN : Le (fun t => Zt ≤ t) (fun t => Zt ≤ t) w M w1 (fun b => if b = w.heap.size ∨ b = w.heap.size + 1 then some 0 else gG M b) := by
    refine ⟨by omega, hw1os.1, hw1os.2.1, hw1os.2.2, fun b hb hm => ⟨?_, hold b hb⟩, fun b t hm ht => ⟨?_, fun _ => hold b (ok.wf.lt b t hm)⟩⟩
    · rw [if_neg (by omega)]; exact jA hm
    · have := ok.wf.lt b t hm
      rw [if_neg (by omega)]; exact gI hm (Nat.lt_of_not_le ht)
  have wf1 : Wf w1 (fun b => if b = w.heap.size ∨ b = w.heap.size + 1 then some 0 else gG M b) := by
    refine ⟨fun b t h => ?_, fun b b' t ht1 h h' => ?_⟩
    · split at h
      · omega
      · have := (p5 ok.wf).lt b t h; omega
    · have part : ∀ b, (if b = w.heap.size ∨ b = w.heap.size + 1 then some 0 else gG M b) = some (t + 1) → gG M b = some (t + 1) := fun b h => by
        split at h
        · cases h
        · exact h
      exact (p5 ok.wf).inj b b' t ht1 (part b h) (part b' h')
  have z1 : G3 (fun b => if b = w.heap.size ∨ b = w.heap.size + 1 then some 0 else gG M b) := fun b u h hu => by
    simp only at h
    split at h
    · injection h with h; omega
    · have := BX h; omega
  have hbl0 : fr.w0.heap.size ≤ w.heap.size + 1 := Nat.le_succ_of_le ok.base.size
  have hbl1 : ∀ t, ¬ (1 ≤ t ∧ t ∉ fr.pass) → fr.M0 (w.heap.size + 1) ≠ some t := fun t ht h => by
    have := (ok.base.own _ t h ht).1
    rw [hnone _ (by omega)] at this; cases this
  have defs1 : Defs fr w1 (fun b => if b = w.heap.size ∨ b = w.heap.size + 1 then some 0 else gG M b) (ug w.heap.size :: a.defers) := by
    obtain ⟨rs, e, g1, g2, g3⟩ := ok.defers
    refine ⟨w.heap.size :: rs, by rw [e]; rfl, fun _ => hkd, List.nodup_cons.2 ⟨fun h => ?_, g2⟩, fun q hq => ?_⟩
    · have := ok.wf.lt _ _ (g3 _ h).1; omega
    · rcases List.mem_cons.1 hq with rfl | hq
      · refine ⟨by simp, ⟨ok.base.size, fun t ht h => ?_⟩, hD⟩
        have := (ok.base.own _ t h ht).1
        rw [hnone _ (Nat.le_refl _)] at this; cases this
      · obtain ⟨a1, b1, c1⟩ := g3 q hq
        have := ok.wf.lt _ _ a1
        exact ⟨by simp only; rw [if_neg (by omega)]; exact gI a1 (by decide), b1, (hold q this).trans c1⟩
  -- between two rounds
  let R : LoopState → Option Code → Loop := fun st pe => { state := st, pending := pe, fn, tmps := a.tmps, params := ps.toArray, assign, body, defers := w.heap.size }
  let J : Nat → World → bF → Prop := fun k => JJ fr s a.tmps (ug w.heap.size :: a.defers) (w.heap.size + 1) (R .ready none) (tg k)
  let Jx : World → bF → Prop := fun w' M' => br = true ∧ JJ fr s a.tmps (ug w.heap.size :: a.defers) (w.heap.size + 1) (R .done (some .ret)) tr w' M'
  have hJ : ∀ k, Cb (J k) := fun k => Oh hpass hs (htg k)
  have hJx : Cb Jx := fun w M w' M' wf le ⟨h, hj⟩ => ⟨h, Oh hpass hs htr w M w' M' wf le hj⟩
  have hj0 : J 0 w1 (fun b => if b = w.heap.size ∨ b = w.heap.size + 1 then some 0 else gG M b) := by
    refine ⟨Fr.ju ok.base (fun t ht => by omega) (fun t ht => ⟨by omega, fun hm => by have := (hp2 t (hp1 t hm)).2; omega⟩) leN, fun c hc => ?_, fun x hx => ?_, by simp, hL, defs1⟩
    · obtain ⟨e1, e2⟩ := mY hs c hc
      exact (s c).mono leN (fun t ht hz => by have := (hp2 t (e2 t ht)).2; omega) (by rw [e1]; intro _ h; cases h) (hslB c hc)
    · obtain ⟨⟨_, e2⟩, e3, e4⟩ := lT (htg 0) x hx
      exact x.2.mono leN (fun t ht hz => by have := (e3 t ht).2; omega) (fun t ht hz => by have := (e4 t ht).2; omega) (by omega) (by omega) (htgB x hx)
  have hY : QY P (w.heap.size + 1) encs J Jx := by
    intro k tys hk w2 M2 vs wf2 z2 hj hv
    obtain ⟨jb, jsl, jtg, jl, jrec, jdef⟩ := id hj
    have hvl := cW hv
    obtain ⟨htl, hte, htc⟩ := hlen tys (List.mem_of_getElem? hk)
    have hrunY := run_yield (P := P) (args := vs.toArray) jrec (by simp [R]; omega)
    refine ⟨_, _, _, _, hrunY, roundIn_of_wpIn trivial ?_⟩
    obtain ⟨A1, hassign, hbody⟩ := hround k tys hk
    have hzip : (ps.zip tys).map Prod.fst = ps := by rw [List.map_fst_zip (by omega)]
    have hzip2 : (ps.zip tys).map Prod.snd = tys := by rw [List.map_snd_zip (by omega)]
    have conv : ∀ {t : Ty} {v : Value}, (∀ u ∈ t.deps, u < Zt) → t.den w2 M2 v → t.den w2 (gG M2) v := fun {t v} hd h =>
      t.mono (S := fun _ => False) (K := fun u => Zt ≤ u) ⟨Nat.le_refl _, rfl, rfl, rfl, fun b _ hm => ⟨jA hm, rfl⟩, fun b u hm hk => ⟨gI hm (Nat.lt_of_not_le hk), fun _ => rfl⟩⟩ (fun u hu hz => by have := hd u hu; omega) (fun _ _ h => h) h
    have convC : ∀ {C : Cont} {t : Nat}, (∀ u ∈ C.deps, u < Zt) → t < Zt → C.den w2 M2 t → C.den w2 (gG M2) t := fun {C t} hd ht h =>
      C.mono (S := fun _ => False) (K := fun u => Zt ≤ u) ⟨Nat.le_refl _, rfl, rfl, rfl, fun b _ hm => ⟨jA hm, rfl⟩, fun b u hm hk => ⟨gI hm (Nat.lt_of_not_le hk), fun _ => rfl⟩⟩ (fun u hu hz => by have := hd u hu; omega) (fun _ _ h => h) (fun h => h) (by omega) h
    obtain ⟨fsz, fden⟩ := C0 (w := w2) (M := gG M2) (n := fr.n) (ps.zip tys) vs a.tmps s (by rw [hzip]; exact hps) ok.size (fun c hc => conv (fun u hu => (hp2 u ((mY hs c hc).2 u hu)).2) (jsl c hc)) (by rw [hzip2]; exact iI (fun b h => jA h) hte htc hv)
    rw [hzip] at fsz fden
    have htm : ((R .ready none).params.zip vs.toArray).foldl (fun tmps (t, v) => tmps.setIfInBounds t v) a.tmps = (ps.zip vs).foldl (fun t (p, v) => t.setIfInBounds p v) a.tmps := by simp [R]
    have hA0 : As.holds ⟨fr.n, w2, gG M2, pass', .round (w.heap.size + 1)⟩ ⟨pS (ps.zip tys) s, tg k⟩ { tmps := ((R .ready none).params.zip vs.toArray).foldl (fun tmps (t, v) => tmps.setIfInBounds t v) a.tmps, defers := [] } w2 := by
      rw [htm]
      exact ⟨gG M2, ⟨p5 wf2, Le.refl _ _ _ _, fsz, Defs.nil⟩, fden, fun x hx => by
        obtain ⟨⟨_, e2⟩, e3, _⟩ := lT (htg k) x hx
        exact convC (fun u hu => (e3 u hu).2) e2 (jtg x hx)⟩
    have h1 := hassign (w.heap.size + 1) w2 (gG M2) _ _ hA0
    refine Go.wpIn_mono h1 fun e a1 w3 hq => ?_
    cases e with
    | normal =>
      obtain ⟨M3, ok3, hsl3, htg3⟩ := hq
      obtain ⟨l3, l3'⟩ := ok3.base.own (w.heap.size + 1) 0 (gI jl (by decide)) (by simp)
      have rec3 : w3.heap[w.heap.size + 1]? = some (.loop (R .ready none)) := (l3' (by simp [FK.KU])).trans jrec
      refine ⟨_, run_beginRound rec3 rfl, ?_⟩
      have hkill := wE (w := w3) (M := M3) (o := .loop { R .ready none with state := .busy }) l3
      have hb0 : As.holds ⟨fr.n, w3.putObj (w.heap.size + 1) (.loop { R .ready none with state := .busy }), M3, pass', .round (w.heap.size + 1)⟩ (A1.after { d := none, S := [0] }) a1 (w3.putObj (w.heap.size + 1) (.loop { R .ready none with state := .busy })) := by
        refine ⟨M3, ⟨⟨fun b t h => by simpa using ok3.wf.lt b t h, ok3.wf.inj⟩, Le.refl _ _ _ _, ok3.size, by rw [ok3.iT (by simp)]; exact Defs.nil⟩, fun c hc => ?_, fun x hx => ?_⟩
        · simp only [As.after, qu]
          rcases gJ [0] [] A1.slots c with ⟨e, hdj⟩ | ⟨_, e⟩
          · rw [e]; exact (A1.slots c).mono hkill (fZ hdj).1 (fZ hdj).2 (hsl3 c hc)
          · rw [e]; trivial
        · exact jF hkill (by simpa [As.after] using hx) fun y hy _ => htg3 y hy
      have h2 := hbody (w.heap.size + 1) _ M3 _ _ hb0
      refine Go.wpIn_mono h2 fun e a4 w4 hq4 => ?_
      have le1 : Le (fun t => 1 ≤ t) (fun t => 1 ≤ t ∧ t ∉ pass') w2 (gG M2) w3 M3 := ok3.base
      cases e with
      | normal =>
        obtain ⟨M4, ok4, _, htg4⟩ := hq4
        obtain ⟨r4, M5, g1, g2, g3, g4⟩ := zT (r4 := R .ready none) hpass hs (htg (k + 1)) hkd hbl0 hbl1 wf2 z2 hj le1 ok4.wf ok4.base htg4
        exact ⟨_, _, run_endRound none r4, M5, g1, g2, g3, .inl ⟨rfl, g4⟩⟩
      | ret =>
        obtain ⟨hbr, M4, ok4, _, htg4⟩ := hq4
        obtain ⟨r4, M5, g1, g2, g3, g4⟩ := zT (r4 := R .done (some .ret)) hpass hs htr hkd hbl0 hbl1 wf2 z2 hj le1 ok4.wf ok4.base htg4
        exact ⟨_, _, run_endRound (some .ret) r4, M5, g1, g2, g3, .inr ⟨rfl, hbr, g4⟩⟩
      | exit id => exact hq4.elim
      | goto l => exact hq4.elim
      | panic c => exact hq4.elim
      | outgrown => exact hq4.elim
    | ret => exact hq.elim
    | exit id => exact hq.elim
    | goto l => exact hq.elim
    | panic c => exact hq.elim
    | outgrown => exact hq.elim
  have fin : ∀ (r : Loop) (tgs : List (Nat × Cont)) (w' : World) (M' : bF) (o : Obj), rX tgs = true → Wf w' M' → JJ fr s a.tmps (ug w.heap.size :: a.defers) (w.heap.size + 1) r tgs w' M' → As.holds fr ⟨s, tgs⟩ { tmps := a.tmps, defers := [{ target := .collected w.heap.size, args := #[] }] ++ a.defers } (w'.putObj (w.heap.size + 1) o) := by
    intro r tgs w' M' o hok wf' ⟨jb, jsl, jtg, jl, jrec, jdef⟩
    have hk0 := wE (w := w') (M := M') (o := o) jl
    refine ⟨M', ⟨⟨fun b t h => by simpa using wf'.lt b t h, wf'.inj⟩, Db hbl0 hbl1 jb, ok.size, ?_⟩, fun c hc => ?_, fun x hx => ?_⟩
    · obtain ⟨rs, e, g1, g2, g3⟩ := jdef
      refine ⟨rs, e, g1, g2, fun q hq => ?_⟩
      obtain ⟨a1, b1, c1⟩ := g3 q hq
      exact ⟨a1, b1, by rw [World.putObj_heap_other fun e => by rw [e, jrec] at c1; cases c1]; exact c1⟩
    · obtain ⟨e1, e2⟩ := mY hs c hc
      exact (s c).mono hk0 (fun _ _ h => by cases h) (by rw [e1]; intro _ h; cases h) (jsl c hc)
    · obtain ⟨⟨e1, e2⟩, e3, e4⟩ := lT hok x hx
      exact x.2.mono hk0 (fun _ _ h => by cases h) (fun t ht h => by have := (e4 t ht).1; rw [List.mem_singleton.1 h] at this; omega) (fun h => by rw [List.mem_singleton.1 h] at e1; omega) (fun h => by cases h) (jtg x hx)
  refine CallsIn.mono (callsIn_wide.2 (hI2 (w.heap.size + 1) J Jx a.tmps hJ hJx hY (fun k w M hj => ⟨hj.2.1, hj.2.2.1⟩) w1 _ (yv (w.heap.size + 1) :: cs.toList) wf1 z1 ⟨rfl, ?_⟩ hj0)) ?_
  · exact bw leN (fun t ht hz => Nat.lt_irrefl _ (Nat.lt_of_lt_of_le (hcd t ht) hz)) (fun t ht hz => Nat.lt_irrefl _ (Nat.lt_of_lt_of_le (hcc t ht) hz)) hcaps
  · rintro e w' ⟨r, M', he, wf', z', hor⟩
    subst he
    rcases hor with ⟨_, hj⟩ | ⟨_, hbr, hj⟩
    · refine ⟨none, _, run_endLoop hj.2.2.2.2.1 (by simp [R]), ?_⟩
      exact hdone _ _ (fin _ _ w' M' _ (htg _) wf' hj)
    · refine ⟨some .ret, _, run_endLoop hj.2.2.2.2.1 (by simp [R]), ?_⟩
      exact wpIn_ret (hret hbr _ _ (fin _ _ w' M' _ htr wf' hj))
end
section
variable {P : Program} {A : As} {fn : Func} {n : Nat} {w0 : World} {M0 : bF} {F : List Nat}
theorem sU {R : Ending → World → Prop} {tm : Array Value} {s : Nat → Ty} {tgs : List (Nat × Cont)} {pass : List Nat} (fr : Fr)
    (hs0 : ∀ c, c < fr.n → ∀ t ∈ (s c).cdeps, t ≠ 0) (ht0 : ∀ x ∈ tgs, x.1 ≠ 0 ∧ ∀ t ∈ x.2.cdeps, t ≠ 0)
    (h : ∀ w M, Wf w M → fr.base w M → (∀ c, c < fr.n → (s c).den w M (tm.getD c undef)) → (∀ x ∈ tgs, x.2.den w M x.1) → ∃ v, (results fn tm).run P w = .ok v w ∧ R (.returned v) w) :
    ∀ (rs : List Nat) (w : World) (M : bF), Wf w M → fr.base w M → (∀ c, c < fr.n → (s c).den w M (tm.getD c undef)) → (∀ x ∈ tgs, x.2.den w M x.1) → rs.Nodup → (∀ r ∈ rs, M r = some 0 ∧ fr.w0.heap.size ≤ r ∧ (∀ t, ¬ (1 ≤ t ∧ t ∉ fr.pass) → fr.M0 r ≠ some t) ∧ w.heap[r]? = some (.deferred (some []))) →
      LeavesInM Fence.wide 0 P fn tm R (rs.map ug) .returning w
  | [], w, M, wf, hb, hs, ht, _, _ => h w M wf hb hs ht
  | r :: rs, w, M, wf, hb, hs, ht, hnd, hr => by
    obtain ⟨a, b, c, d⟩ := hr r List.mem_cons_self
    have le := wE (w := w) (M := M) (o := .deferred none) a
    refine ⟨by simp, .inl ⟨r, _, rfl, run_takeDeferred d, ?_⟩⟩
    refine sU (pass := pass) fr hs0 ht0 h rs _ M ⟨fun b t h => by simpa using wf.lt b t h, wf.inj⟩ (Db b c hb) (fun c hc => (s c).mono le (fun _ _ h => by cases h) (fun t ht h => hs0 c hc t ht (List.mem_singleton.1 h)) (hs c hc))
      (fun x hx => x.2.mono le (fun _ _ h => by cases h) (fun t htt h => (ht0 x hx).2 t htt (List.mem_singleton.1 h)) (fun h => (ht0 x hx).1 (List.mem_singleton.1 h)) (fun h => by cases h) (ht x hx)) (List.nodup_cons.1 hnd).2 (fun q hq => ?_)
    obtain ⟨a1, b1, c1, d1⟩ := hr q (List.mem_cons_of_mem _ hq)
    refine ⟨a1, b1, c1, ?_⟩
    rw [World.putObj_heap_other fun e => (List.nodup_cons.1 hnd).1 (by rw [← e]; exact hq)]; exact d1
def Fk (n : Nat) (A : As) : Bool := ((List.range n).all fun c => (A.slots c).cdeps.all fun t => Nat.ble 1 t) && A.tags.all fun x => Nat.ble 1 x.1 && x.2.cdeps.all fun t => Nat.ble 1 t
theorem Ly {R : Ending → World → Prop} (hz : Fk n A = true) (h : dR ⟨n, w0, M0, F, .plain⟩ A (bodyPost P fn R .ret)) : dR ⟨n, w0, M0, F, .marks⟩ A (bodyPostM Fence.wide 0 P fn R .ret) := by
 intro a w ⟨M, ok, hsl, htg⟩
 obtain ⟨rs, e, g1, g2, g3⟩ := ok.defers
 simp only [Fk, Bool.and_eq_true, List.all_eq_true, List.mem_range, Nat.ble_eq] at hz
 show LeavesInM Fence.wide 0 P fn a.tmps R a.defers .returning w
 rw [e]
 refine sU (pass := []) (s := A.slots) (tgs := A.tags) ⟨n, w0, M0, F, .marks⟩ (fun c hc t ht => by have := hz.1 c hc t ht; omega) (fun x hx => ⟨by have := (hz.2 x hx).1; omega, fun t ht => by have := (hz.2 x hx).2 t ht; omega⟩) (fun w2 M2 wf hb hs ht => ?_) rs w M ok.wf ok.base hsl htg g2 (fun r hr => ?_)
 ·exact (h { tmps := a.tmps, defers := [] } w2 ⟨M2, ⟨wf, hb, ok.size, Defs.nil⟩, hs, ht⟩).2
 obtain ⟨a1, b1, c1⟩ := g3 r hr
 exact ⟨a1, b1.1, b1.2, c1⟩
theorem sA {f : FuncId} {fn : Func} {c : Code} {F : List Nat} {pre post : List (Nat × Cont)} {args : List Ty} {res : Ty} {n : Nat} (hf : P.funcs[f]? = some fn) (hb : fn.body = some c) (hn : (fn.name == "runtime.NumGoroutine") = false) (hnt : fn.ntmps = n) (hl : args.length ≤ n)
    (h : ∀ w0 M0, fW P ⟨n, w0, M0, F, .marks⟩ c (uZ args pre) (bodyPostM Fence.wide 0 P fn (cM F post w0 M0 res))) : eU P f F pre args post res := by
  refine ⟨⟨fn, hf, hn, by rw [hb]; rfl⟩, fun w M vs wf hd hpre => callsIn_wide.1 (callsIn_of_wp_marks (n := 0) hf hb trivial (h w M _ _ ?_))⟩
  have hlen := cW hd
  refine ⟨M, ⟨wf, Le.refl _ _ _ _, by simp [hnt, hlen]; omega, Defs.nil⟩, fun c hc => ?_, hpre⟩
  simp only [uZ]
  cases ha : args[c]? with
  | none => trivial
  | some ty =>
    obtain ⟨v, hv, hdv⟩ := dQ hd c ty ha
    have : (vs.toArray ++ Array.replicate (fn.ntmps - vs.toArray.size) undef).getD c undef = v := by
      have hlt : c < vs.length := (List.getElem?_eq_some_iff.1 hv).1
      rw [Array.getD_eq_getD_getElem?, Array.getElem?_append_left (by simpa using hlt)]
      simp [hv]
    rw [this]; exact hdv
theorem FB {α : Type} [Inhabited α] {xs : List α} {f : α → List Ty} {k : Nat} {t : List Ty} (h : (xs.map f)[k]? = some t) : k < xs.length ∧ t = f (nth xs k) := by
 rw [List.getElem?_map] at h
 obtain ⟨x, hx, rfl⟩ := Option.map_eq_some_iff.1 h
 obtain ⟨hk, e⟩ := List.getElem?_eq_some_iff.1 hx
 exact ⟨hk, by rw [gA hk, e]⟩
theorem G0 {α : Type} [Inhabited α] {xs : List α} {f : α → List Ty} {k : Nat} {t : List Ty} (h : k < xs.length) (e : f (nth xs k) = t) : (xs.map f)[k]? = some t := by
 rw [List.getElem?_map, List.getElem?_eq_getElem h, ← gA h, ← e]; rfl
end
section
variable {P : Program} {fr : Fr} {A : As} {Q : Exit → Act → World → Prop}
end
section
variable {P : Program} {fr : Fr} {ops : Array Oper} {A : As} {rest : List Oper} {K : As → List (As × Fx) → Prop} {d : Nat} {t ty' : TypeId} {p : String} {e : Array Edge} {x : Operand}
theorem HZ {tg : Nat} (hx : A.op fr x = .mp tg) (h : ay P fr ops rest (A.set d (.mp tg)) fun A' l' => K A' ((A, { d := some d, ty := .mp tg, rs := cO x }) :: l')) : ay P fr ops (⟨some d, .move x, t, p, e, none⟩ :: rest) A K := eL hx h
theorem Rk {tg : Nat} (hx : A.op fr x = .mp tg) (h : ay P fr ops rest (A.set d (.mp tg)) fun A' l' => K A' ((A, { d := some d, ty := .mp tg, rs := cO x }) :: l')) : ay P fr ops (⟨some d, .assign x, t, p, e, none⟩ :: rest) A K := g6 hx h
theorem Pq {κ β : Type} [DecidableEq κ] {enc : κ → Value} {V : VT β} {kvs : List (κ × β)} (hx : A.op fr x = .pm enc V kvs) (h : ay P fr ops rest (A.set d (.pm enc V kvs)) fun A' l' => K A' ((A, { d := some d, ty := .pm enc V kvs, rs := cO x }) :: l')) : ay P fr ops (⟨some d, .move x, t, p, e, none⟩ :: rest) A K := eL hx h
theorem PX {κ β : Type} [DecidableEq κ] {enc : κ → Value} {V : VT β} {kvs : List (κ × β)} (hx : A.op fr x = .pm enc V kvs) (h : ay P fr ops rest (A.set d (.pm enc V kvs)) fun A' l' => K A' ((A, { d := some d, ty := .pm enc V kvs, rs := cO x }) :: l')) : ay P fr ops (⟨some d, .assign x, t, p, e, none⟩ :: rest) A K := g6 hx h
theorem Li {κ β : Type} [DecidableEq κ] {ρ : List (Nat × Nat)} {a b : Nat} {enc : κ → Value} {V : VT β} {k1 k2 : List (κ × β)} (h : (a, b) ∈ ρ) (e : k1 = k2) : qC ρ a (.mp enc V k1) b (.mp enc V k2) := fun w M M' _ _ hre ⟨k, h1, es, clock, h2, h3, h4⟩ => by
 subst e
 refine ⟨k, hre.some _ h k h1, es, clock, h2, h3, iI hre.none ?_ ?_ h4⟩
 ·exact List.eq_nil_iff_forall_not_mem.2 fun u hu => by
   simp only [cG, List.mem_flatMap, List.mem_map] at hu
   obtain ⟨t, ⟨x, _, rfl⟩, hu⟩ := hu
   rw [(V.nodeps x.2).1] at hu; cases hu
 ·exact List.eq_nil_iff_forall_not_mem.2 fun u hu => by
   simp only [bl, List.mem_flatMap, List.mem_map] at hu
   obtain ⟨t, ⟨x, _, rfl⟩, hu⟩ := hu
   rw [(V.nodeps x.2).2] at hu; cases hu
end
section
variable {P : Program} {A : As} {fn : Func} {n : Nat} {w0 : World} {M0 : bF} [T : lX P]
theorem C1 {α : Type} {E : El α} {xs ys : List α} {tm ty tg Tb : Nat} {ti : TI} (e : xs = ys) (hr : fn.results = #[.cell tm ty]) (ht : Nat.blt tm n = true) (hx : A.slots tm = .ptr tg 0) (hc : A.tag tg = some (.vec E Tb xs)) (h1 : gL tg) (hT : T.eS[ty]? = some ti) (ha : ti.k.agg = true) (hsz : xs.length * E.size = ti.size) (hne : xs ≠ []) : dR ⟨n, w0, M0, [], .plain⟩ A (bodyPost P fn (mo w0 M0 (.arr E ys)) .ret) := by
 subst e; exact KQ hr ht hx hc h1 hT ha hsz hne
end
end Go.T
namespace Go.T
open Go Go.RowKit
section
variable {P : Program} {fr : Fr} {ops : Array Oper} {A : As} {rest : List Oper} {K : As → List (As × Fx) → Prop} {d : Nat} {t ty' : TypeId} {p : String} {e : Array Edge} [T : lX P]
variable {α β : Type} {E : El α} {E' : El β} {x y : Operand} {tg off Tb : Nat} {ti te tf : TI} {ty : Ty} {o z : α}
theorem sI {l : List Ty} {off n : Nat} {w : World} {M : bF} {b q : Nat} (h : ∀ (i : Nat) (t : Ty), l[i]? = some t → ∃ v, w.cell? ⟨b, q + i, none⟩ = some v ∧ t.den w M v) {m : List Ty} (hm : (l.drop off).take n = m) (hn : m.length = n) :
 ∃ cs : List Value, cs.length = n ∧ cK w M m cs ∧ ∀ j v, cs[j]? = some v → w.cell? ⟨b, q + off + j, none⟩ = some v := by
 have hget : ∀ (i : Nat) (t : Ty), (l.drop off)[i]? = some t → ∃ u, w.cell? ⟨b, q + off + i, none⟩ = some u ∧ t.den w M u := fun i t hi => by
  rw [List.getElem?_drop] at hi
  obtain ⟨v, hv, hd⟩ := h _ _ hi
  exact ⟨v, by rw [Nat.add_assoc]; exact hv, hd⟩
 have hle : n ≤ (l.drop off).length := by
  have := congrArg List.length hm
  rw [List.length_take, hn] at this; omega
 obtain ⟨cs, h1, h2, h3⟩ := Kf hget n hle
 exact ⟨cs, h1, hm ▸ h2, h3⟩
end
theorem dK.mono {P : Program} {f : FuncId} {args : List Ty} {r r' : Ty} (h : dK P f args r) (hs : r.Sub r') : dK P f args r' :=
 ⟨h.1, fun w M vs wf hM hd => (h.2 w M vs wf hM hd).mono fun _ _ ⟨v, M', e, a, b, c⟩ => ⟨v, M', e, a, b, hs _ _ _ c⟩⟩
section
variable {P : Program} {fr : Fr} {A : As} {Q : Exit → Act → World → Prop} {x y : Code}
theorem qn {c : Operand} {b : Bool} (hc : A.op fr c = .bool b) (hb : b = true) (h1 : fW P fr x A Q) : fW P fr (.cond c x y) A Q := cF hc (fun _ => h1) (fun h => by rw [hb] at h; cases h)
theorem jm {c : Operand} {b : Bool} (hc : A.op fr c = .bool b) (hb : b = false) (h1 : fW P fr y A Q) : fW P fr (.cond c x y) A Q := cF hc (fun h => by rw [hb] at h; cases h) (fun _ => h1)
end
end Go.T
namespace Go.T
open Go Go.RowKit
def Ty.nd (t : Ty) (h1 : t.deps = []) (h2 : t.cdeps = []) : Ty := ⟨t.den, [], [], fun le _ _ h => t.mono le (by rw [h1]; intro _ h; cases h) (by rw [h2]; intro _ h; cases h) h, t.one, t.isOne⟩
theorem EX {P : Program} {t : Ty} {args : List Ty} {res : Ty} (h1 : t.deps = []) (h2 : t.cdeps = []) (h : pJ P t args res) : pJ P (t.nd h1 h2) args res := h
section
variable {P : Program} {fr : Fr} {ops : Array Oper} {A : As} {rest : List Oper} {K : As → List (As × Fx) → Prop} {d : Nat} {t ty' : TypeId} {p : String} {e : Array Edge}
variable {α β : Type} {E : El α} {E' : El β} {x y : Operand} {tg off Tb : Nat} {ti te tf : TI} {ty : Ty} {o z : α} {xs : List α}
def n9 (E : El α) (xs : List α) (off : Nat) (w : World) (M : bF) (v : Value) : Prop := ∃ b q, v = .pointer (some ⟨b, q + off, none⟩) ∧ nq w M b q (xs.flatMap E.tys)
def Ty.pa (E : El α) (xs : List α) (off : Nat) : Ty :=
  ⟨n9 E xs off, [], [], fun le _ _ ⟨b, q, e, h⟩ => ⟨b, q, e, oa le (by rw [E.cY]; intro _ h; cases h) (by rw [E.cS]; intro _ h; cases h) h⟩, true, fun _ ⟨_, _, e, _⟩ => e ▸ rfl⟩
theorem uC (hx : A.op fr x = .arr E xs) (h : ay P fr ops rest (A.set d (.pa E xs 0)) fun A' l' => K A' ((A, { d := some d, ty := .pa E xs 0, rs := cO x }) :: l')) : ay P fr ops (⟨some d, .box ty' x, t, p, e, none⟩ :: rest) A K := by
 refine ⟨_, gK (f := { d := some d, ty := .pa E xs 0, rs := cO x }) rfl rfl (by simp) (by simp) (by simp) fun a w M wf hr _ => ?_, h⟩
 have hd := cU (x := x) (fun _ h => h) hr
 rw [hx] at hd
 obtain ⟨cs, ex, hds⟩ := hd
 obtain ⟨h1, h2, _⟩ := uV wf (.cells cs ty')
 refine ⟨.pointer (some ⟨w.heap.size, 0, none⟩), w.alloc (.cells cs ty'), ?_, M, h1, h2, ⟨_, 0, rfl, ?_⟩, by simp⟩
 ·simp [execOp, Instr.box, newVar, newRow, newObj, Sem.run, ex, Value.cells]
 exact s7 (T := ty') wf hds
variable [T : lX P]
theorem HY [Inhabited α] {i : Nat} (hx : A.op fr x = .pa E xs off) (hT : T.eS[ty']? = some ti) (ha : ti.k.agg = false) (he : off = i * E.size) (hi : i < xs.length) (hl : (E.tys (nth xs i))[0]? = some ty)
 (h : ay P fr ops rest (A.set d ty) fun A' l => K A' ((A, { d := some d, ty := ty, rs := cO x }) :: l)) : ay P fr ops (⟨some d, .load ty' x, t, p, e, none⟩ :: rest) A K :=
 bM (bV (rt := []) rfl rfl fun a w M _ hr _ => by
  have := cU (x := x) (fun _ h => h) hr
  rw [hx] at this
  obtain ⟨b, q, e, hp⟩ := this
  obtain ⟨v, hv, hd⟩ := hp.2.2 off ty (by rw [he]; exact n8 E xs hi 0 ty hl)
  exact ⟨v, by simp [execOp, e, kT hT ha hv], hd⟩) h
theorem xD (hx : A.op fr x = .pa E xs 0) (hT : T.eS[ty']? = some ti) (ha : ti.k.agg = true) (hn : xs.length * E.size = ti.size)
 (h : ay P fr ops rest (A.set d (.arr E xs)) fun A' l => K A' ((A, { d := some d, ty := .arr E xs, rs := cO x }) :: l)) : ay P fr ops (⟨some d, .load ty' x, t, p, e, none⟩ :: rest) A K :=
 bM (bV (rt := []) rfl rfl fun a w M _ hr _ => by
  have := cU (x := x) (fun _ h => h) hr
  rw [hx] at this
  obtain ⟨b, q, e, hp⟩ := this
  obtain ⟨cs, g1, g2, g3⟩ := sI (off := 0) (n := ti.size) hp.2.2 (m := xs.flatMap E.tys) (by rw [List.drop_zero, List.take_of_length_le (by rw [dB]; omega)]) (by rw [dB]; exact hn)
  exact ⟨.agg cs.toArray, by simp only [execOp, e]; rw [Sem.run_bind, iY (off := q + 0) hT ha g1 g3]; rfl, cs.toArray, rfl, by simpa using g2⟩) h
theorem E2 {n : Nat} {k : IntKind} {i : Nat} {el : Nat} (hx : A.op fr x = .pa E xs off) (hy : A.op fr y = .int k i) (hT : T.eS[ty']? = some ti) (hk : ti.k = .array n el) (hE : T.eS[el]? = some te) (h1 : i < n)
 (h : ay P fr ops rest (A.set d (.pa E xs (off + i * te.size))) fun A' l' => K A' ((A, { d := some d, ty := .pa E xs (off + i * te.size), rs := cO x ++ cO y }) :: l')) : ay P fr ops (⟨some d, .indexAddr ty' x y, t, p, e, none⟩ :: rest) A K :=
 bM (bV (rt := []) rfl rfl fun a w M _ hr _ => by
  obtain ⟨hdx, hdy⟩ := op2 hr
  rw [hx] at hdx; rw [hy] at hdy
  obtain ⟨b, q, ex, hp⟩ := hdx
  have ey : a.eval y = .int k i := hdy
  refine ⟨_, by simp only [execOp, ex, ey, Sem.run_bind, o7 hT hk hE (Int.natCast_nonneg i) (show (i : Int).toNat < n from h1)]; rfl, b, q, by simp [Nat.add_assoc], hp⟩) h
end
theorem gZ {α : Type} {E : El α} {xs : List α} (e : xs = []) : iO (Ty.ex (.slice none 0 0)) (Ty.sl E xs) := e ▸ v8
def Ml : List Ty → List Ty → Prop
  | [], [] => True
  | s :: ss, t :: ts => s.Sub t ∧ Ml ss ts
  | _, _ => False
theorem uE {w : World} {M : bF} : ∀ {ss ts : List Ty} {vs : List Value}, Ml ss ts → cK w M ss vs → cK w M ts vs
  | [], [], [], _, _ => trivial
  | _ :: _, _ :: _, _ :: _, ⟨h, h'⟩, ⟨h1, h2⟩ => ⟨h _ _ _ h1, uE h' h2⟩
theorem dK.args {P : Program} {f : FuncId} {a a' : List Ty} {r : Ty} (h : dK P f a r) (hs : Ml a' a) : dK P f a' r :=
 ⟨h.1, fun w M vs wf hM hd => h.2 w M vs wf hM (uE hs hd)⟩
section
variable {P : Program} {A : As} {fn : Func} {n m : Nat} {w0 : World} {M0 : bF} {J : Nat → World → bF → Prop} {Jx : World → bF → Prop} {resD resS : Ty}
end
end Go.T
namespace Go.T
open Go Go.RowKit
section
variable {P : Program} {fr : Fr} {ops : Array Oper} {A : As} {rest : List Oper} {K : As → List (As × Fx) → Prop} {d : Nat} {t ty' ty2 : TypeId} {p : String} {e : Array Edge} {x y : Operand}
theorem mZ {o : Oper} {f : Fx} {s : Nat} {g h : Bool} {ty : Ty} (hs : A.slots s = .gd (g && h) ty) (hg : g = true) (hx : xg P fr ops o (A.set s (.gd h ty)) f) : xg P fr ops o A f := by
  obtain ⟨h1, h2, h3, h4, h5⟩ := hx
  refine ⟨h1, h2, h3, h4, fun a w M wf hsz hr ht => h5 a w M wf hsz (fun c hc hcn => ?_) ht⟩
  have := hr c hc hcn
  simp only [As.set]
  cases hb : Nat.beq c s with
  | false => exact this
  | true =>
    have e : c = s := Nat.eq_of_beq_eq_true hb
    subst e
    rw [hs, hg, Bool.true_and] at this
    exact this
theorem DH {ty' : TypeId} (hu : P.underlying ty' = some .bool) (b1 b2 : Bool) (w : World) : (Op.equal ty' (.bool b1) (.bool b2)).run P w = .ok (b1 == b2) w := by
 unfold Op.equal Op.maxDepth
 rw [Op.equalIn]
 simp only [Sem.run_bind, run_underlying hu, Result.andThen_ok]
 rfl
theorem BZ {b1 b2 : Bool} (hu : P.underlying ty' = some .bool) (hx : A.op fr x = .bool b1) (hy : A.op fr y = .bool b2)
 (h : ay P fr ops rest (A.set d (.bool (!(b1 == b2)))) fun A' l' => K A' ((A, { d := some d, ty := .bool (!(b1 == b2)), rs := cO x ++ cO y }) :: l')) : ay P fr ops (⟨some d, .binOp .neq ty' x y ty2, t, p, e, none⟩ :: rest) A K :=
 bM (bV rfl rfl fun a w M _ hrd _ => by
  obtain ⟨hdx, hdy⟩ := op2 hrd
  rw [hx] at hdx; rw [hy] at hdy
  have ex : a.eval x = .bool b1 := hdx
  have ey : a.eval y = .bool b2 := hdy
  exact ⟨.bool (!(b1 == b2)), by simp only [execOp, ex, ey]; simp [eqGuard, binOp, go_sem, bne, DH hu], rfl⟩) h
section
variable {b : Frame} {a : Act} {k : List Item} {cs : List Frame} {w : World}
theorem jh {c : Code} : step P (lone (b.atR a (.code (.scope c) :: k)) cs w) = .next (lone (b.atR a (.code c :: .inScope c :: k)) cs w) :=
 step_lone_go (by simp [stepG, stepG.exec, Frame.atR])
theorem ym {c : Code} : step P (lone (b.atR a (.inScope c :: k)) cs w) = .next (lone (b.atR a k) cs w) :=
 step_lone_go (by simp [stepG, stepG.exec, Frame.atR])
end
theorem EL {F : Fence} {n : Nat} {c : Code} {Q : Exit → Act → World → Prop} {a : Act} {w : World} (h : c.wpIn F n P (Exit.noGoto Q) a w) : (Code.scope c).wpIn F n P Q a w := by
  intro b k cs hro hb hr
  have h0 : (lone (b.atR a (.code (.scope c) :: k)) cs w).fenced P F := fenced_calm hb hr rfl
  obtain ⟨e, a₁, w₁, hq, harr⟩ := h b (.inScope c :: k) cs hro hb hr
  cases e with
  | normal => exact ⟨.normal, a₁, w₁, hq, .head h0 jh (StepsIn.trans harr (.one (fenced_calm hb hr rfl) ym))⟩
  | exit id =>
    have hx : exitTo id (.inScope c :: k) = exitTo id k := by simp [exitTo]
    exact ⟨.exit id, a₁, w₁, hq, fun k' hk => .head h0 jh (harr.1 k' (by rw [hx]; exact hk)),
      fun hr' hk => let ⟨k₁, h1, h2⟩ := harr.2 hr' (by rw [hx]; exact hk); ⟨k₁, h1, .head h0 jh h2⟩⟩
  | goto l => exact hq.elim
  | ret => exact ⟨_, a₁, w₁, hq, .of_steps (.one h0 jh) harr⟩
  | panic ch => exact ⟨_, a₁, w₁, hq, .of_steps (.one h0 jh) harr⟩
  | outgrown => exact ⟨_, a₁, w₁, hq, .of_steps (.one h0 jh) harr⟩
section
variable {Q : Exit → Act → World → Prop} {c : Code} {i : Nat}
theorem Nr (h : fW P fr c A (Exit.noGoto Q)) : fW P fr (.scope c) A Q := fun a w ha => EL (h a w ha)
theorem Mt (h : dR fr A (Q .normal)) : fW P fr (.label i) A Q := fun a w ha => wpIn_label (h a w ha)
theorem vG (h : dR fr A (Q .ret)) : dR fr A (Exit.noGoto Q .ret) := h
end
def Sb (p : Prop) (_ : World) (_ : bF) (v : Value) : Prop := ∃ c : Bool, v = .bool c ∧ (c = true → p)
def Ty.nb (p : Prop) : Ty := { den := Sb p, mono := fun _ _ _ h => h, one := true, isOne := fun _ ⟨_, e, _⟩ => e ▸ rfl }
theorem zW {Q : Exit → Act → World → Prop} {c : Operand} {q : Prop} {x y : Code} (hc : A.op fr c = .nb q) (h1 : q → fW P fr x A Q) (h2 : True → fW P fr y A Q) : fW P fr (.cond c x y) A Q := fun a w ha => by
  have hv : ∃ b : Bool, a.eval c = .bool b ∧ (b = true → q) := by
    obtain ⟨M, _, hs, _⟩ := ha
    have := cU (x := c) (rs := cO c) (fun _ h => h) (fun c _ hn => hs c hn)
    rw [hc] at this; exact this
  obtain ⟨b, hv, hq⟩ := hv
  cases b with
  | true => exact wpIn_cond_true hv (h1 (hq rfl) a w ha)
  | false => exact wpIn_cond_false hv (h2 trivial a w ha)
theorem rS {ty' : TypeId} {el : TypeId} (hu : P.underlying ty' = some (.slice el)) (A : Option Addr) (n c : Nat) (w : World) : (Op.equal ty' (.slice A n c) (.slice none 0 0)).run P w = .ok A.isNone w := by
 unfold Op.equal Op.maxDepth
 rw [Op.equalIn]
 simp only [Sem.run_bind, run_underlying hu, Result.andThen_ok]
 cases A <;> rfl
theorem FY {α : Type} {E : El α} {xs : List α} {el : TypeId} (hu : P.underlying ty' = some (.slice el)) (hx : A.op fr x = .sl E xs)
    (h : ay P fr ops rest (A.set d (.nb (xs = []))) fun A' l' => K A' ((A, { d := some d, ty := .nb (xs = []), rs := cO x }) :: l')) : ay P fr ops (⟨some d, .binOp .eql ty' x (.const (.slice none 0 0)) ty2, t, p, e, none⟩ :: rest) A K :=
  bM (bV (rt := []) rfl rfl fun a w M _ hr _ => by
    have := cU (x := x) (fun _ h => h) hr
    rw [hx] at this
    obtain ⟨ad, c, ex, _, _, hp⟩ := this
    have ey : a.eval (.const (.slice none 0 0)) = .slice none 0 0 := rfl
    refine ⟨.bool ad.isNone, by simp only [execOp, ex, ey]; simp [eqGuard, binOp, go_sem, rS hu], ad.isNone, rfl, fun hn => ?_⟩
    cases xs with
    | nil => rfl
    | cons y l =>
      obtain ⟨b, off, e, _⟩ := hp (by simp)
      rw [e] at hn; cases hn) h
theorem zH {α : Type} (E : El α) : ∀ (xs : List α) (n : Nat), (xs.flatMap E.tys).take (n * E.size) = (xs.take n).flatMap E.tys
  | [], n => by simp
  | x :: xs, 0 => by simp
  | x :: xs, n + 1 => by
    rw [List.flatMap_cons, List.take_succ_cons, List.flatMap_cons, ← zH E xs n, List.take_append, E.len, Nat.succ_mul, List.take_of_length_le (by rw [E.len]; omega)]
    congr 2; omega
theorem By [T : lX P] {α : Type} {E : El α} {xs : List α} {len el : Nat} {parts : Array (Nat × Operand)} {ti te : TI} {ls : List (Nat × List Ty)} (hT : T.eS[ty']? = some ti) (hk : ti.k = .slice el) (hE : T.eS[el]? = some te) (hs : te.size = E.size) (hz : te.zero.length = te.size) (h0 : 0 < te.size) (hle : len * te.size ≤ 16777216) (hp : aV A fr parts.toList ls)
 (hf : tN (fun i => some (i * te.size, te.size)) ((List.range (len * te.size)).map fun j => Ty.fP (te.zero.getD (j % te.size) undef)) ls = some (xs.flatMap E.tys)) (hx : xs.length = len) (hpa : fr.pass.contains (d + 1) = false)
 (h : ay P fr ops rest (A.after { d := some d, ty := .row E el (d + 1) xs, K := [d + 1], rs := parts.toList.flatMap fun x => cO x.2 }) fun A' l' => K A' ((A, { d := some d, ty := .row E el (d + 1) xs, K := [d + 1], rs := parts.toList.flatMap fun x => cO x.2 }) :: l')) : ay P fr ops (⟨some d, .buildSlice ty' len parts, t, p, e, none⟩ :: rest) A K := by
 refine ⟨_, gK (f := { d := some d, ty := .row E el (d + 1) xs, K := [d + 1], rs := parts.toList.flatMap fun x => cO x.2 }) rfl rfl (by simp) (by simp) (by simp at hpa ⊢; exact hpa) fun a w M wf hr _ => ?_, h⟩
 obtain ⟨z, hz1, hz2⟩ := nV hE (by intro hn; rw [hn] at hz; simp at hz; omega) w
 obtain ⟨_, D, _, hD, hkd, _⟩ := c6 hT
 rw [hk] at hkd
 cases D <;> simp only [TK.of, reduceCtorEq, TK.slice.injEq] at hkd
 rename_i el0
 have hel : el0 = el := hkd
 subst hel
 have hzs : z.cells.size = te.size := by rw [← hz, ← hz2]; simp
 let zs : Array Value := if len * te.size = 0 then #[] else z.cells
 have hcells : cK w M ((List.range (len * te.size)).map fun j => Ty.fP (te.zero.getD (j % te.size) undef)) ((Array.range (len * te.size)).map (zs[· % zs.size]!)).toList := by
  refine gB (by simp) fun i u hi => ?_
  rw [List.getElem?_map] at hi
  simp only [Option.map_eq_some_iff] at hi
  obtain ⟨j, hj, rfl⟩ := hi
  have hlt : i < len * te.size := by have := (List.getElem?_eq_some_iff.1 hj).1; simpa using this
  rw [List.getElem?_range hlt] at hj
  injection hj with hj
  subst hj
  have hne : ¬ len * te.size = 0 := by omega
  refine ⟨te.zero.getD (i % te.size) undef, ?_, k6 _ _ _⟩
  have hm : i % te.size < z.cells.size := by rw [hzs]; exact Nat.mod_lt _ h0
  have e1 : zs[i % zs.size]! = te.zero.getD (i % te.size) undef := by
   simp only [zs, if_neg hne, hzs]
   rw [getElem!_pos z.cells _ hm, ← hz2, List.getD_eq_getElem?_getD, List.getElem?_eq_getElem (by simpa using hm)]
   simp
  simp [List.getElem?_range hlt, e1]
 obtain ⟨cs', h1, h2⟩ := q8 hr hp (place := fun i => some (i * te.size, te.size)) (cs := (Array.range (len * te.size)).map (zs[· % zs.size]!)) (fun x hx c hc => List.mem_flatMap.2 ⟨x, hx, hc⟩) hcells hf
 have hparts : (parts.map fun x => (x.1, a.eval x.2)).toList = parts.toList.map fun x => (x.1, a.eval x.2) := by simp
 obtain ⟨h3, h4, h5⟩ := kD wf (.cells cs' el0) (d + 1)
 have hcl : cs'.toList.length = len * te.size := by rw [cW h2, dB, hx, hs]
 have hmx : len ≤ maxLen := by
  have : len ≤ len * te.size := Nat.le_mul_of_pos_right _ h0
  simp only [maxLen]; omega
 refine ⟨.slice (some ⟨w.heap.size, 0, none⟩) len len, w.alloc (.cells cs' el0), ?_, _, h3, h4, ⟨cs'.toList, ⟨by rw [hcl, hx, hs], .inr ⟨w.heap.size, len, cs', by rw [hx], Nat.zero_le _, iE _ _, by rw [hx]; exact Nat.le_refl _, hmx, by rw [← hs]; simpa using hcl, by rw [List.take_of_length_le (by rw [hcl, hx, hs]; exact Nat.le_refl _)]⟩⟩, ?_, fun g hg => ?_⟩, by simp⟩
 ·have hbig : ¬ (len * te.size > 2 ^ 24) := by omega
  have hbig' : ¬ (2 ^ 24 < len * te.size) := by omega
  simp only [execOp, Instr.buildSlice, Sem.run_bind, run_underlying hD, Result.andThen_ok, dP hE]
  simp only [hbig', gt_iff_lt, if_false]
  by_cases hn : len * te.size = 0
  ·have : zs = #[] := if_pos hn
   rw [this] at h1
   simp only [hn, if_true, Sem.run_pure, Sem.run_bind, Result.andThen_ok]
   rw [hn] at h1
   simp only [hparts, h1]
   simp [newRow, newObj, Sem.run]
  have : zs = z.cells := if_neg hn
  rw [this] at h1
  simp only [if_neg hn, Sem.run_pure, Sem.run_bind, Result.andThen_ok, hz1]
  simp only [hparts, h1]
  simp [newRow, newObj, Sem.run]
 ·refine bw h4 (fun u hu => ?_) (fun u hu => ?_) h2
  ·rw [E.cY] at hu; cases hu
  rw [E.cS] at hu; cases hu
 simp [Value.ownBlock] at hg
 subst hg; exact h5
end
end Go.T
namespace Go.T
open Go Go.RowKit
section
variable {A : As} {α : Type} {E : El α} {tg Tb : Nat} {xs : List α}
end
section
variable {P : Program} {fr : Fr} {ops : Array Oper} {A : As} {rest : List Oper} {K : As → List (As × Fx) → Prop} {d : Nat} {t ty' ty2 : TypeId} {p : String} {e : Array Edge} [T : lX P]
variable {α : Type} {E : El α} {xs : List α} {x y : Operand} {tg Tb : Nat} {ti : TI}
end
end Go.T
namespace Go.T
open Go Go.RowKit
section
variable {P : Program} {fr : Fr} {ops : Array Oper} {A : As} {rest : List Oper} {K : As → List (As × Fx) → Prop} {d : Nat} {t ty' ty2 : TypeId} {p : String} {e : Array Edge} [T : lX P]
variable {x y : Operand} {ti ts : TI}
end
end Go.T
namespace Go.T
open Go
section
variable {P : Program} {fr : Fr} {A : As} {c : Code} {Q : Exit → Act → World → Prop}
def vJ (A : As) (tg : Nat) (t0 t : Ty) : Prop := ∀ w M v, Wf w M → (∀ x ∈ A.tags, x.2.den w M x.1) → t0.den w M v → t.den w (eN M tg) v
def zA (A : As) (tg : Nat) : List Ty → List Ty → Prop
  | [], [] => True
  | a :: l, b :: l' => vJ A tg a b ∧ zA A tg l l'
  | _, _ => False
def Nd (A : As) (tg : Nat) (x : Nat × Cont) : Prop := ∀ w M, Wf w M → (∀ x ∈ A.tags, x.2.den w M x.1) → x.2.den w (eN M tg) x.1
def P7 (A : As) (tg : Nat) : List (Nat × Cont) → Prop
  | [] => True
  | x :: l => Nd A tg x ∧ P7 A tg l
theorem bK {tg : Nat} {t : Ty} (h : lW t.deps [tg] = true) : vJ A tg t t := fun w M _ _ _ hd =>
 t.mono (jj (w := w)) (gS h) (fun _ _ h => by cases h) hd
theorem Im {α : Type} {E : El α} {T tg : Nat} {xs : List α} : vJ A tg (.row E T tg xs) (.sl E xs) := fun w M v wf _ hd =>
 wM wf hd (fun b hb => by simp [eN, hb]) (fun b hb => by simp [eN, hb])
theorem j7 {α : Type} {E : El α} {T tg n : Nat} {xs : List α} (hc : A.tag tg = some (.vec E T xs)) (hn : xs.length = n) (h1 : gL tg) : vJ A tg (.vs tg n) (.sl E xs) := fun w M v wf ht hd => by
 have hv : fj E T xs w M tg := ht _ (cj hc)
 subst hn
 rcases hd with ⟨h0, rfl⟩ | ⟨b, cc, hb, e, hn1, hn2⟩
 ·exact ⟨none, 0, by rw [h0], by omega, by simp [maxLen], fun h => absurd h (by omega)⟩
 refine ⟨_, cc, e, hn1, hn2, fun _ => ⟨b, 0, rfl, by simp [eN, hb], wf.lt b _ hb, fun i t hi => ?_⟩⟩
 obtain ⟨u, hu, hdu⟩ := n5 wf h1 hb hv hi
 refine ⟨u, by rw [Nat.zero_add]; exact hu, t.mono (jj (w := w)) ?_ ?_ hdu⟩
 ·intro u hu
  have : u ∈ cG (xs.flatMap E.tys) := List.mem_flatMap.2 ⟨t, List.mem_of_getElem? hi, hu⟩
  rw [E.cY] at this; cases this
 intro u _ h; cases h
theorem yC {tg : Nat} {w : World} {M : bF} (wf : Wf w M) (ht : ∀ x ∈ A.tags, x.2.den w M x.1) : ∀ {l l' : List Ty} {vs : List Value}, zA A tg l l' → cK w M l vs → cK w (eN M tg) l' vs
  | [], [], [], _, _ => trivial
  | _ :: _, _ :: _, _ :: _, ⟨h1, h2⟩, ⟨h3, h4⟩ => ⟨h1 _ _ _ wf ht h3, yC wf ht h2 h4⟩
theorem fV {tg o T : Nat} {l l' : List Ty} (ho : A.tag o = some (.cells T l)) (hne : Nat.beq o tg = false) (h : zA A tg l l') : Nd A tg (o, .cells T l') := fun w M wf ht => by
 obtain ⟨b, cs, hb, hh, hd⟩ := ht _ (cj ho)
 refine ⟨b, cs, ?_, hh, yC wf ht h hd⟩
 unfold eN
 rw [if_neg]
 ·exact hb
 rw [hb]; intro e; injection e with e; subst e; simp at hne
theorem Cw {tg : Nat} {w : World} {M : bF} (wf : Wf w M) (ht : ∀ x ∈ A.tags, x.2.den w M x.1) : ∀ {lt : List (Nat × Cont)}, P7 A tg lt → ∀ {x : Nat × Cont}, x ∈ lt → x.2.den w (eN M tg) x.1
  | y :: _, ⟨h1, h2⟩, x, hx => by
    rcases List.mem_cons.1 hx with rfl | hx
    · exact h1 w M wf ht
    · exact Cw wf ht h2 hx
theorem jY {tg : Nat} (l : List (Nat × Ty)) (lt : List (Nat × Cont)) (h1 : 1 ≤ tg) (hp : fr.pass.contains tg = false) (hl : Ec A tg l) (hlt : P7 A tg lt) (h : fW P fr c ⟨(A.qj tg l).slots, lt ++ (A.qj tg l).tags⟩ Q) : fW P fr c A Q := fun a w ⟨M, ok, hsl, ht⟩ => by
  have le : Le (· ∈ ([] : List Nat)) (· ∈ [tg]) w M w (eN M tg) := jj
  refine h a w ⟨eN M tg, ⟨zM ok.wf, Fr.ju ok.base (by intro _ h; cases h) (fun t ht => by simp only [List.mem_singleton] at ht; subst ht; exact ⟨h1, by simpa using hp⟩) le, ok.size, ok.defers.step (by intro _ h; cases h) (fun t ht => by simp only [List.mem_singleton] at ht; subst ht; exact h1) le⟩, fun i hi => ?_, fun x hx => ?_⟩
  · have base : (iB [] [tg] A.slots i).den w (eN M tg) (a.tmps.getD i undef) := by
      rcases gJ [] [tg] A.slots i with ⟨e, hdj⟩ | ⟨_, e⟩
      · rw [e]; exact (A.slots i).mono le (fZ hdj).1 (fZ hdj).2 (hsl i hi)
      · rw [e]; trivial
    show (pS l (iB [] [tg] A.slots) i).den _ _ _
    clear h
    induction l with
    | nil => exact base
    | cons x l ih =>
      obtain ⟨d, t⟩ := x
      unfold pS
      cases hb : Nat.beq i d with
      | false => simp only [cond_false]; exact ih hl.2
      | true =>
        have : i = d := Nat.eq_of_beq_eq_true hb
        subst this
        simp only [cond_true]
        exact hl.1 w M _ ok.wf ht (hsl i hi)
  · rcases List.mem_append.1 (show x ∈ lt ++ (A.qj tg l).tags from hx) with hx | hx
    · exact Cw ok.wf ht hlt hx
    · exact jF le hx fun y hy _ => ht y hy
end
section
open Go.RowKit
variable {P : Program} {A : As} {fn : Func} {n : Nat} {w0 : World} {M0 : bF} {F : List Nat} {post : List (Nat × Cont)} [T : lX P]
theorem OD (L : List Nat) {tm ty tg Tb : Nat} {l : List Ty} {ti : TI} {res : Ty} (hr : fn.results = #[.cell tm ty]) (ht : Nat.blt tm n = true) (hx : A.slots tm = .ptr tg 0) (hc : A.tag tg = some (.cells Tb l)) (h1 : gL tg) (hT : T.eS[ty]? = some ti) (ha : ti.k.agg = true) (hl : l.length = ti.size)
 (hL : ∀ t ∈ F, t ∈ L) (hp : rO A L post) (hs : DS L (.agg l) res) :
 dR ⟨n, w0, M0, F, .plain⟩ A (bodyPost P fn (cM F post w0 M0 res) .ret) := by
 intro a w ⟨M, ok, hsl, htg⟩
 have hd := hsl tm (by simpa using ht)
 rw [hx] at hd
 obtain ⟨b, hb, e⟩ := hd
 obtain ⟨b', cs, hb', hh, hds⟩ := htg _ (cj hc)
 obtain ⟨u, rfl⟩ : ∃ u, tg = u + 1 := ⟨tg - 1, by omega⟩
 have := ok.wf.inj b b' u (by omega) hb hb'
 subst this
 have hlen := cW hds
 have hload := iY (P := P) hT ha (w := w) (b := b) (off := 0) (cs := cs.toList) (by rw [hlen, hl]) (fun j v hj => by simpa [World.cell?, hh] using hj)
 have hload' : (loadVar ty ⟨b, 0, none⟩).run P w = .ok (.agg cs) w := by simpa [Instr.loadAt, Instr.sureAddr] using hload
 refine ⟨ok.iT (by simp), .agg cs, ?_, _, pR L M, rfl, qz ok.wf, qS hL ok.base, hs _ _ _ ok.wf ⟨cs, rfl, hds⟩, yA ok.wf htg hp⟩
 have e' : a.tmps.getD tm undef = .pointer (some ⟨b, 0, none⟩) := e
 have e'' : a.tmps[tm]?.getD undef = .pointer (some ⟨b, 0, none⟩) := by rw [← Array.getD_eq_getD_getElem?]; exact e'
 simp [results, hr, e'', asAddr, hload']
end
end Go.T
namespace Go.T
open Go Go.RowKit
theorem oM {w : World} {g : Nat} {old : Array Value} {t : TypeId} (cs : Array Value) (hg : w.heap[g]? = some (.cells old t (0, 0))) : w.setRow g cs = { w with heap := w.heap.setIfInBounds g (.cells cs t (0, 0)) } := by
 unfold World.setRow
 congr 1
 obtain ⟨hlt, hv⟩ := Array.getElem?_eq_some_iff.1 hg
 apply Array.ext_getElem?
 intro i
 by_cases e : g = i
 ·subst e
  rw [Array.getElem?_modify, if_pos rfl, hg, Array.getElem?_setIfInBounds_self_of_lt hlt]; rfl
 rw [Array.getElem?_modify, if_neg e, Array.getElem?_setIfInBounds_ne e]
theorem AF {α : Type} (E : El α) : ∀ (xs : List α) (n : Nat), (xs.flatMap E.tys).drop (n * E.size) = (xs.drop n).flatMap E.tys
  | [], n => by simp
  | x :: xs, 0 => by simp
  | x :: xs, n + 1 => by
    rw [List.flatMap_cons, List.drop_succ_cons, ← AF E xs n, List.drop_append, E.len, Nat.succ_mul, List.drop_of_length_le (by rw [E.len]; omega), List.nil_append]
    congr 1; omega
theorem Fb {α : Type} {E : El α} {xs ys : List α} {w : World} {M : bF} {cur vs : List Value} {i : Nat} (hd : cK w M (xs.flatMap E.tys) (cur.take (xs.flatMap E.tys).length)) (hv : cK w M (ys.flatMap E.tys) vs) (hi : i + ys.length ≤ xs.length) :
 cK w M ((xs.take i ++ (ys ++ xs.drop (i + ys.length))).flatMap E.tys) ((cur.take (i * E.size) ++ vs ++ cur.drop (i * E.size + vs.length)).take ((xs.take i ++ (ys ++ xs.drop (i + ys.length))).flatMap E.tys).length) := by
 have hvl : vs.length = ys.length * E.size := by rw [cW hv, dB]
 have hN : (xs.flatMap E.tys).length = xs.length * E.size := dB E xs
 have hcl : xs.length * E.size ≤ cur.length := by
  have := cW hd
  rw [List.length_take, hN] at this; omega
 have hm : (i + ys.length) * E.size ≤ xs.length * E.size := Nat.mul_le_mul_right _ hi
 have hm2 : (i + ys.length) * E.size = i * E.size + ys.length * E.size := Nat.add_mul _ _ _
 have hxl : (xs.take i ++ (ys ++ xs.drop (i + ys.length))).length = xs.length := by simp; omega
 rw [dB E (xs.take i ++ (ys ++ xs.drop (i + ys.length))), hxl, List.flatMap_append, List.flatMap_append]
 have e : (cur.take (i * E.size) ++ vs ++ cur.drop (i * E.size + vs.length)).take (xs.length * E.size) = cur.take (i * E.size) ++ (vs ++ (cur.take (xs.length * E.size)).drop ((i + ys.length) * E.size)) := by
  have l1 : (cur.take (i * E.size)).length = i * E.size := by rw [List.length_take]; omega
  rw [List.append_assoc, List.take_append, List.take_append, l1]
  have e1 : (cur.take (i * E.size)).take (xs.length * E.size) = cur.take (i * E.size) := List.take_of_length_le (by omega)
  have e2 : vs.take (xs.length * E.size - i * E.size) = vs := List.take_of_length_le (by omega)
  rw [e1, e2, hvl, hm2, List.drop_take]
  congr 3; omega
 rw [e]
 rw [hN] at hd
 refine j0 ?_ (j0 hv ?_)
 ·have := qY (i * E.size) hd
  rw [zH, List.take_take, Nat.min_eq_left (by omega)] at this; exact this
 have := n4 ((i + ys.length) * E.size) hd
 rw [AF] at this; exact this
section
variable {P : Program} {fr : Fr} {ops : Array Oper} {A : As} {rest : List Oper} {K : As → List (As × Fx) → Prop} {d : Nat} {t ty' : TypeId} {p : String} {e : Array Edge} [T : lX P]
theorem zo {α : Type} {xs : List α} {i : Nat} (h : i < xs.length) (z : α) : xs.take i ++ ([z] ++ xs.drop (i + [z].length)) = xs.set i z := by
 rw [List.set_eq_take_append_cons_drop, if_pos h]; rfl
theorem ot {α : Type} {E : El α} {xs : List α} {x y : Operand} {tg off Tb : Nat} {ti : TI} {z : α} (i : Nat) (hx : A.op fr x = .ptr tg off) (he : off = i * E.size) (hc : A.tag tg = some (.vec E Tb xs)) (h1 : gL tg) (hT : T.eS[ty']? = some ti) (hsz : ti.size = E.size) (hy : A.op fr y = .agg (E.tys z)) (hi : i < xs.length)
 (h : ay P fr ops rest (A.after { d := none, S := [tg], sets := [(tg, .vec E Tb (xs.set i z))], rs := cO x ++ cO y, rt := [tg] }) fun A' l'' => K A' ((A, { d := none, S := [tg], sets := [(tg, .vec E Tb (xs.set i z))], rs := cO x ++ cO y, rt := [tg] }) :: l'')) :
 ay P fr ops (⟨none, .store ty' x y, t, p, e, none⟩ :: rest) A K := by
 refine ⟨_, mS rfl rfl rfl (by simp) (by simpa using h1.1) (by simp) fun a w M wf hr ht => ?_, h⟩
 obtain ⟨hdx, hdy⟩ := op2 hr
 rw [hx] at hdx; rw [hy] at hdy
 obtain ⟨b, hb, ex⟩ := hdx
 obtain ⟨vs, ey, hvs⟩ := hdy
 rcases so hc w M ht with rfl | ⟨b', cs, hb', hh, hd⟩
 ·exact absurd hi (Nat.not_lt_zero _)
 obtain ⟨u, rfl⟩ : ∃ u, tg = u + 1 := ⟨tg - 1, by omega⟩
 have := wf.inj b b' u (by omega) hb hb'
 subst this
 have hlen := cW hd
 have hvl : vs.size = E.size := by have := cW hvs; rw [E.len] at this; simpa using this
 have hoff : i * E.size + E.size ≤ cs.size := by
  rw [dB, List.length_take] at hlen
  have : (i + 1) * E.size ≤ xs.length * E.size := Nat.mul_le_mul_right _ hi
  rw [Nat.succ_mul] at this
  simp at hlen; omega
 have hones : ∀ v ∈ vs.toList, v.oneCell' = true := ku hvs (fun t ht => by
  have := mJ E [z] t (by simpa using ht)
  exact this)
 have hst := run_storeCells_at (P := P) b off Tb vs.toList 0 cs w hh (by simp [he, hvl]; omega) hones
 rw [oM _ hh] at hst
 obtain ⟨h1', h2', h3'⟩ := lK (cs' := (cs.toList.take (off + 0) ++ vs.toList ++ cs.toList.drop (off + 0 + vs.toList.length)).toArray) (Tb := Tb) wf hb _ rfl
 refine ⟨_, ?_, M, h1', h2', trivial, ?_⟩
 ·simp only [execOp, Instr.storeAt, Instr.sureAddr, ex, ey, storeVar, Value.cells, dP hT, Sem.run_bind, Sem.run_pure, Result.andThen_ok, hsz, hvl, hst]
  simp [hst]
 intro z' hz'
 simp only [List.mem_singleton] at hz'
 subst hz'
 refine .inr ⟨b, _, hb, h3', ?_⟩
 have hp := Fb (ys := [z]) (vs := vs.toList) (i := i) hd (by simpa using hvs) (by show i + 1 ≤ _; omega)
 rw [zo hi, ← he] at hp
 exact bw h2' (by intro _ _ h; cases h) (by rw [E.cS]; intro _ h; cases h) (by simpa using hp)
end
section
variable {P : Program} {A : As} {fn : Func} {n : Nat} {w0 : World} {M0 : bF} [T : lX P]
theorem iA {tm ty tg Tb t2 : Nat} {l : List Ty} {ti : TI} {r1 r2 : Ty} (hr : fn.results = #[.cell tm ty, .tmp t2]) (ht : Nat.blt tm n = true) (h2 : Nat.blt t2 n = true) (hx : A.slots tm = .ptr tg 0) (hc : A.tag tg = some (.cells Tb l)) (h1 : gL tg) (hT : T.eS[ty]? = some ti) (ha : ti.k.agg = true) (hl : l.length = ti.size) (hs : iO (.agg l) r1) (hs2 : iO (A.slots t2) r2) :
 dR ⟨n, w0, M0, [], .plain⟩ A (bodyPost P fn (mo w0 M0 (Ty.lD [r1, r2])) .ret) := by
 intro a w ⟨M, ok, hsl, htg⟩
 have hd := hsl tm (by simpa using ht)
 rw [hx] at hd
 obtain ⟨b, hb, e⟩ := hd
 obtain ⟨b', cs, hb', hh, hds⟩ := htg _ (cj hc)
 obtain ⟨u, rfl⟩ : ∃ u, tg = u + 1 := ⟨tg - 1, by omega⟩
 have := ok.wf.inj b b' u (by omega) hb hb'
 subst this
 have hlen := cW hds
 have hload := iY (P := P) hT ha (w := w) (b := b) (off := 0) (cs := cs.toList) (by rw [hlen, hl]) (fun j v hj => by simpa [World.cell?, hh] using hj)
 have hload' : (loadVar ty ⟨b, 0, none⟩).run P w = .ok (.agg cs) w := by simpa [Instr.loadAt, Instr.sureAddr] using hload
 refine ⟨ok.iT (by simp), .tuple #[.agg cs, a.tmps.getD t2 undef], ?_, _, pL M, rfl, sR ok.wf, qR (fr := ⟨n, w0, M0, [], .plain⟩) (fun _ h => h) ok.base, _, rfl, hs _ _ _ ok.wf ⟨cs, rfl, hds⟩, hs2 _ _ _ ok.wf (hsl t2 (by simpa using h2)), trivial⟩
 have e' : a.tmps.getD tm undef = .pointer (some ⟨b, 0, none⟩) := e
 have e'' : a.tmps[tm]?.getD undef = .pointer (some ⟨b, 0, none⟩) := by rw [← Array.getD_eq_getD_getElem?]; exact e'
 simp [results, hr, e'', asAddr, hload']
end
section
variable {P : Program} {fr : Fr} {ops : Array Oper} {A : As} {rest : List Oper} {K : As → List (As × Fx) → Prop} {d : Nat} {t ty' : TypeId} {p : String} {e : Array Edge} [T : lX P]
end
end Go.T
namespace Go.T
open Go Go.RowKit
def Qp {α : Type} (E : El α) (xs : List α) (w : World) (M : bF) (v : Value) : Prop := lq E xs w M v ∧ (xs = [] → v = .slice none 0 0)
def Ty.Iz {α : Type} (E : El α) (xs : List α) : Ty :=
  { den := Qp E xs, deps := [], cdeps := [], mono := fun le hk hs h => ⟨(Ty.sl E xs).mono le hk hs h.1, h.2⟩, one := true, isOne := fun _ ⟨⟨_, _, e, _⟩, _⟩ => e ▸ rfl }
theorem Ty.QF {α : Type} {E : El α} {xs : List α} : (Ty.Iz E xs).Sub (Ty.sl E xs) := fun _ _ _ h => h.1
theorem E0 {L : List Nat} {α : Type} {E : El α} {xs : List α} (e : xs = []) : DS L (Ty.ex (.slice none 0 0)) (Ty.Iz E xs) := fun w M v wf h => by
 subst e
 exact ⟨iw (L := L) (L5 (E := E)) w M v wf h, fun _ => h⟩
theorem ET {L : List Nat} {α : Type} {E : El α} {T tg : Nat} {xs ys : List α} (h : 1 ≤ tg) (hL : L.contains tg = false) (e : xs = ys) (hne : ys ≠ []) : DS L (Ty.row E T tg xs) (Ty.Iz E ys) := fun w M v wf hd => ⟨Jf h hL e w M v wf hd, fun hx => absurd hx hne⟩
section
variable {P : Program} {fr : Fr} {ops : Array Oper} {A : As} {rest : List Oper} {K : As → List (As × Fx) → Prop} {d : Nat} {t ty' ty2 : TypeId} {p : String} {e : Array Edge} {x : Operand}
theorem SV {α : Type} {E : El α} {xs : List α} (hx : A.op fr x = .Iz E xs) (h : ay P fr ops rest (A.set d (.Iz E xs)) fun A' l => K A' ((A, { d := some d, ty := .Iz E xs, rs := cO x }) :: l)) : ay P fr ops (⟨some d, .move x, t, p, e, none⟩ :: rest) A K := eL hx h
theorem Sa {α : Type} {E : El α} {xs : List α} (hx : A.op fr x = .Iz E xs) (h : ay P fr ops rest (A.set d (.Iz E xs)) fun A' l => K A' ((A, { d := some d, ty := .Iz E xs, rs := cO x }) :: l)) : ay P fr ops (⟨some d, .assign x, t, p, e, none⟩ :: rest) A K := g6 hx h
theorem Mr {α : Type} {E : El α} {xs : List α} {w : World} {M : bF} {v : Value} (h : Qp E xs w M v) : ∃ ad n c, v = .slice ad n c ∧ ad.isNone = xs.isEmpty := by
  obtain ⟨⟨ad, c, ex, _, _, hp⟩, hn⟩ := h
  refine ⟨ad, _, c, ex, ?_⟩
  cases xs with
  | nil => have := hn rfl; rw [ex] at this; injection this with h1; rw [h1]; rfl
  | cons y l =>
    obtain ⟨b, off, e, _⟩ := hp (by simp)
    rw [e]; rfl
theorem LD {α : Type} {E : El α} {xs : List α} {el : TypeId} (hu : P.underlying ty' = some (.slice el)) (hx : A.op fr x = .Iz E xs)
 (h : ay P fr ops rest (A.set d (.bool xs.isEmpty)) fun A' l' => K A' ((A, { d := some d, ty := .bool xs.isEmpty, rs := cO x }) :: l')) : ay P fr ops (⟨some d, .binOp .eql ty' x (.const (.slice none 0 0)) ty2, t, p, e, none⟩ :: rest) A K :=
 bM (bV (rt := []) rfl rfl fun a w M _ hr _ => by
  have := cU (x := x) (fun _ h => h) hr
  rw [hx] at this
  obtain ⟨ad, n, c, ex, hn⟩ := Mr this
  have ey : a.eval (.const (.slice none 0 0)) = .slice none 0 0 := rfl
  exact ⟨.bool ad.isNone, by simp only [execOp, ex, ey]; simp [eqGuard, binOp, go_sem, rS hu], by rw [hn]; rfl⟩) h
end
end Go.T
namespace Go.T
open Go Go.RowKit
section
variable {P : Program} {fr : Fr} {A : As} {Q : Exit → Act → World → Prop} {code : Code}
end
section
variable {P : Program} {fr : Fr} {ops : Array Oper} {A : As} {rest : List Oper} {K : As → List (As × Fx) → Prop} {d : Nat} {t ty' ty2 : TypeId} {p : String} {e : Array Edge}
end
section
variable {P : Program} {fr : Fr} {ops : Array Oper} {A : As} {rest : List Oper} {K : As → List (As × Fx) → Prop} {d : Nat} {t ty' ty2 : TypeId} {p : String} {e : Array Edge} [T : lX P]
end
end Go.T
namespace Go.T
open Go Go.RowKit
section
variable {P : Program} {fr : Fr} {ops : Array Oper} {A : As} {rest : List Oper} {K : As → List (As × Fx) → Prop} {d : Nat} {t : TypeId} {p : String} {e : Array Edge} {y : Operand}
theorem Ap {c : Operand} {b : Bool} (hc : A.op fr c = .bool true) (hy : A.op fr y = .bool b)
 (h : ay P fr ops rest (A.set d (.bool b)) fun A' l' => K A' ((A, { d := some d, ty := .bool b, rs := cO c ++ cO y }) :: l')) : ay P fr ops (⟨some d, .pick c y (.const (.bool false)), t, p, e, none⟩ :: rest) A K :=
 bM (bV rfl rfl fun a w M _ hrd _ => by
  obtain ⟨hdc, hdy⟩ := op2 hrd
  rw [hc] at hdc; rw [hy] at hdy
  have ec : a.eval c = .bool true := hdc
  have ey : a.eval y = .bool b := hdy
  exact ⟨.bool b, by simp only [execOp, ec, ey]; simp [asBool], rfl⟩) h
theorem FM {c : Operand} (hc : A.op fr c = .bool false)
 (h : ay P fr ops rest (A.set d (.bool false)) fun A' l' => K A' ((A, { d := some d, ty := .bool false, rs := cO c ++ cO y }) :: l')) : ay P fr ops (⟨some d, .pick c y (.const (.bool false)), t, p, e, none⟩ :: rest) A K :=
 bM (bV rfl rfl fun a w M _ hrd _ => by
  obtain ⟨hdc, _⟩ := op2 hrd
  rw [hc] at hdc
  have ec : a.eval c = .bool false := hdc
  exact ⟨.bool false, by simp only [execOp, ec]; simp [asBool, Act.eval], rfl⟩) h
end
end Go.T
namespace Go.T
open Go Go.RowKit
structure zu (α : Type) where
  E : El α
  own : Nat → α → List Ty
  olen : ∀ J x, (own J x).length = E.size
  deps : ∀ J x, ∀ u ∈ cG (own J x), u = J
  cdeps : ∀ J x, ∀ u ∈ bl (own J x), u = J
  oones : ∀ J x, (own J x).all Ty.one = true
  qj : ∀ J x w M M' vs, Wf w M → (∀ b, M b = some J → M' b = none) → (∀ b, M b = none → M' b = none) → cK w M (own J x) vs → cK w M' (E.tys x) vs
  ren : ∀ J J' x w M M' vs, (∀ b, M b = some J → M' b = some J') → (∀ b, M b = none → M' b = none) → cK w M (own J x) vs → cK w M' (own J' x) vs
  mine : ∀ J x w M vs, cK w M (own J x) vs → ∀ g ∈ vs.filterMap Value.ownBlock, M g = some J
section
variable {α : Type} (E : zu α)
theorem zu.cY (J : Nat) (xs : List α) : ∀ u ∈ cG (xs.flatMap (E.own J)), u = J := by
 intro u hu
 simp only [cG, List.mem_flatMap] at hu
 obtain ⟨t, ⟨x, _, hx⟩, hu⟩ := hu
 exact E.deps J x u (List.mem_flatMap.2 ⟨t, hx, hu⟩)
theorem zu.cS (J : Nat) (xs : List α) : ∀ u ∈ bl (xs.flatMap (E.own J)), u = J := by
 intro u hu
 simp only [bl, List.mem_flatMap] at hu
 obtain ⟨t, ⟨x, _, hx⟩, hu⟩ := hu
 exact E.cdeps J x u (List.mem_flatMap.2 ⟨t, hx, hu⟩)
theorem zu.dB (J : Nat) : ∀ xs : List α, (xs.flatMap (E.own J)).length = xs.length * E.E.size
  | [] => by simp
  | x :: xs => by rw [List.flatMap_cons, List.length_append, E.olen, zu.dB J xs, List.length_cons, Nat.succ_mul, Nat.add_comm]
theorem sF {w : World} {M : bF} : ∀ {l l' : List Ty} {vs : List Value}, cK w M (l ++ l') vs → cK w M l (vs.take l.length) ∧ cK w M l' (vs.drop l.length)
  | [], _, _, h => ⟨trivial, h⟩
  | _ :: l, _, _ :: _, ⟨h, h'⟩ => ⟨⟨h, (sF h').1⟩, (sF h').2⟩
theorem zu.AW {J : Nat} {w : World} {M : bF} : ∀ {xs : List α} {vs : List Value}, cK w M (xs.flatMap (E.own J)) vs → ∀ g ∈ vs.filterMap Value.ownBlock, M g = some J
  | [], [], _, g, hg => by cases hg
  | x :: xs, vs, h, g, hg => by
    rw [List.flatMap_cons] at h
    obtain ⟨a, b⟩ := sF h
    rw [← List.take_append_drop (E.own J x).length vs, List.filterMap_append, List.mem_append] at hg
    rcases hg with hg | hg
    · exact E.mine J x w M _ a g hg
    · exact zu.AW b g hg
end
def FD {α : Type} (E : zu α) (T tg J : Nat) (xs : List α) (w : World) (M : bF) (v : Value) : Prop :=
  ∃ cs, w.ownsRow 0 T E.E.size v xs.length cs ∧ cK w M (xs.flatMap (E.own J)) cs ∧ (cs.filterMap Value.ownBlock).Nodup ∧ ∀ g, v.ownBlock = some g → M g = some tg
def Ty.yh {α : Type} (E : zu α) (T tg J : Nat) (xs : List α) : Ty :=
  ⟨FD E T tg J xs, [tg, J], [tg, J], fun le hk hs ⟨cs, h1, h2, h4, h3⟩ =>
    ⟨cs, tG h1 fun g hg => (le.own g tg (h3 g hg) (hk tg (by simp))).2 (hs tg (by simp)),
     bw le (fun u hu => by rw [E.cY J xs u hu]; exact hk J (by simp)) (fun u hu => by rw [E.cS J xs u hu]; exact hs J (by simp)) h2, h4,
     fun g hg => (le.own g tg (h3 g hg) (hk tg (by simp))).1⟩, true, fun _ ⟨cs, h1, _⟩ => by
      rcases h1.2 with ⟨rfl, _⟩ | ⟨_, _, _, rfl, _⟩ <;> rfl⟩
theorem Ty.JN {α : Type} {E : zu α} {T tg J : Nat} : (Ty.ex (.slice none 0 0)).Sub (Ty.yh E T tg J []) := by
 intro w M v h
 have h : v = .slice none 0 0 := h
 subst h
 exact ⟨[], ⟨by simp, .inl ⟨rfl, rfl⟩⟩, trivial, by simp, fun g hg => by simp [Value.ownBlock] at hg⟩
theorem Ty.J9 {α : Type} {E : zu α} {T tg J : Nat} {xs ys : List α} (h : xs = ys) : (Ty.yh E T tg J xs).Sub (Ty.yh E T tg J ys) := h ▸ Ty.aF _
def R4 (l : List Ty) (w : World) (M : bF) (v : Value) : Prop := ∃ b, v = .slice (some ⟨b, 0, none⟩) 1 1 ∧ nq w M b 0 l
def Ty.ms (l : List Ty) : Ty := ⟨R4 l, cG l, bl l, fun le hk hs ⟨b, e, h⟩ => ⟨b, e, oa le hk hs h⟩, true, fun _ ⟨_, e, _⟩ => e ▸ rfl⟩
section
variable {P : Program} {fr : Fr} {ops : Array Oper} {A : As} {rest : List Oper} {K : As → List (As × Fx) → Prop} {d : Nat} {t ty' : TypeId} {p : String} {e : Array Edge} [T : lX P]
theorem Ii {l : List Ty} {el : Nat} {parts : Array (Nat × Operand)} {ti te : TI} {ls : List (Nat × List Ty)} (hT : T.eS[ty']? = some ti) (hk : ti.k = .slice el) (hE : T.eS[el]? = some te) (hz : te.zero.length = te.size) (h0 : 0 < te.size) (hle : te.size ≤ 16777216) (hp : aV A fr parts.toList ls)
 (hf : tN (fun i => some (i * te.size, te.size)) ((List.range (1 * te.size)).map fun j => Ty.fP (te.zero.getD (j % te.size) undef)) ls = some l)
 (h : ay P fr ops rest (A.set d (.ms l)) fun A' l' => K A' ((A, { d := some d, ty := .ms l, rs := parts.toList.flatMap fun x => cO x.2 }) :: l')) : ay P fr ops (⟨some d, .buildSlice ty' 1 parts, t, p, e, none⟩ :: rest) A K := by
 refine ⟨_, gK (f := { d := some d, ty := .ms l, rs := parts.toList.flatMap fun x => cO x.2 }) rfl rfl (by simp) (by simp) (by simp) fun a w M wf hr _ => ?_, h⟩
 obtain ⟨z, hz1, hz2⟩ := nV hE (by intro hn; rw [hn] at hz; simp at hz; omega) w
 obtain ⟨_, D, _, hD, hkd, _⟩ := c6 hT
 rw [hk] at hkd
 cases D <;> simp only [TK.of, reduceCtorEq, TK.slice.injEq] at hkd
 rename_i el0
 have hel : el0 = el := hkd
 subst hel
 have hzs : z.cells.size = te.size := by rw [← hz, ← hz2]; simp
 let zs : Array Value := if 1 * te.size = 0 then #[] else z.cells
 have hcells : cK w M ((List.range (1 * te.size)).map fun j => Ty.fP (te.zero.getD (j % te.size) undef)) ((Array.range (1 * te.size)).map (zs[· % zs.size]!)).toList := by
  refine gB (by simp) fun i u hi => ?_
  rw [List.getElem?_map] at hi
  simp only [Option.map_eq_some_iff] at hi
  obtain ⟨j, hj, rfl⟩ := hi
  have hlt : i < 1 * te.size := by have := (List.getElem?_eq_some_iff.1 hj).1; simpa using this
  rw [List.getElem?_range hlt] at hj
  injection hj with hj
  subst hj
  have hne : ¬ 1 * te.size = 0 := by omega
  refine ⟨te.zero.getD (i % te.size) undef, ?_, k6 _ _ _⟩
  have hm : i % te.size < z.cells.size := by rw [hzs]; exact Nat.mod_lt _ h0
  have e1 : zs[i % zs.size]! = te.zero.getD (i % te.size) undef := by
   simp only [zs, if_neg hne, hzs]
   rw [getElem!_pos z.cells _ hm, ← hz2, List.getD_eq_getElem?_getD, List.getElem?_eq_getElem (by simpa using hm)]
   simp
  have hlt' : i < te.size := by omega
  simp [List.getElem?_range hlt', e1]
 obtain ⟨cs', h1, h2⟩ := q8 hr hp (place := fun i => some (i * te.size, te.size)) (cs := (Array.range (1 * te.size)).map (zs[· % zs.size]!)) (fun x hx c hc => List.mem_flatMap.2 ⟨x, hx, hc⟩) hcells hf
 have hparts : (parts.map fun x => (x.1, a.eval x.2)).toList = parts.toList.map fun x => (x.1, a.eval x.2) := by simp
 obtain ⟨h3, h4, _⟩ := uV wf (.cells cs' el0)
 refine ⟨.slice (some ⟨w.heap.size, 0, none⟩) 1 1, w.alloc (.cells cs' el0), ?_, M, h3, h4, ⟨w.heap.size, rfl, ?_⟩, by simp⟩
 ·have hbig' : ¬ (2 ^ 24 < 1 * te.size) := by omega
  simp only [execOp, Instr.buildSlice, Sem.run_bind, run_underlying hD, Result.andThen_ok, dP hE]
  simp only [hbig', gt_iff_lt, if_false]
  have hn : ¬ 1 * te.size = 0 := by omega
  have : zs = z.cells := if_neg hn
  rw [this] at h1
  simp only [if_neg hn, Sem.run_pure, Sem.run_bind, Result.andThen_ok, hz1]
  simp only [hparts, h1]
  simp [newRow, newObj, Sem.run]
 have := s7 (T := el0) (cs := cs'.toList) wf h2
 simpa using this
def nC (M : bF) (tg J : Nat) : bF := fun b => if M b = some tg then some J else M b
theorem x7 {w : World} {M : bF} {tg J : Nat} : Le (· ∈ ([] : List Nat)) (· ∈ [tg]) w M w (nC M tg J) :=
 ⟨Nat.le_refl _, rfl, rfl, rfl, fun b _ hm => ⟨by simp [nC, hm], rfl⟩, fun b t hm hk => ⟨by simp only [List.mem_singleton] at hk; simp [nC, hm, hk], fun _ => rfl⟩⟩
theorem DG {w : World} {M : bF} {tg J : Nat} (hJ : 4096 ≤ J) (wf : Wf w M) : Wf w (nC M tg J) := by
 have key : ∀ b t, nC M tg J b = some t → (M b = some tg ∧ t = J) ∨ M b = some t := fun b t h => by
  unfold nC at h
  split at h
  ·rename_i hm; injection h with h; exact .inl ⟨hm, h.symm⟩
  exact .inr h
 refine ⟨fun b t h => (key b t h).elim (fun h => wf.lt b _ h.1) (fun h => wf.lt b _ h), fun b b' t ht1 h h' => ?_⟩
 rcases key _ _ h with ⟨_, e⟩ | a
 ·omega
 rcases key _ _ h' with ⟨_, e⟩ | a'
 ·omega
 exact wf.inj b b' t ht1 a a'
def Lf (tg J : Nat) (l l' : List Ty) : Prop := ∀ w M vs, cK w M l vs → cK w (nC M tg J) l' vs ∧ (vs.filterMap Value.ownBlock).Nodup ∧ ∀ g ∈ vs.filterMap Value.ownBlock, M g = some tg
theorem BQ {α : Type} {E : zu α} {w : World} {M : bF} {st el tg tg' J : Nat} {ty : TypeId} {ti te : TI} {xs : List α} {z : α} {l : List Ty} {v y : Value} (wf : Wf w M) (hJ : 4096 ≤ J) (hne : tg ≠ J) (hne' : tg' ≠ J) (hnt : tg ≠ tg') (hT : T.eS[st]? = some ti) (hk : ti.k = .slice el) (hE : T.eS[el]? = some te) (hs : te.size = E.E.size) (hz : te.zero.length = te.size) (h0 : 0 < te.size)
    (hx : FD E el tg J xs w M v) (hy : R4 l w M y) (hl : l.length = E.E.size) (hd1 : lW (cG l) [tg] = true) (ho : l.all Ty.one = true) (hg : Lf tg' J l (E.own J z)) (hlen : (xs.length + 1) * te.bytes ≤ 140737488355328) (hlen' : xs.length + 1 ≤ 9223372036854775807) :
    ∃ v' w' M', (Builtin.append_ #[st, st] ty #[v, y]).run P w = .ok v' w' ∧ Wf w' M' ∧ Le (· ∈ ([] : List Nat)) (· ∈ [tg, tg']) w M w' M' ∧ FD E el tg J (xs ++ [z]) w' M' v' := by
  obtain ⟨_, D, _, hD, hkd, _⟩ := c6 hT
  rw [hk] at hkd
  cases D <;> simp only [TK.of, reduceCtorEq, TK.slice.injEq] at hkd
  subst hkd
  rename_i el
  obtain ⟨i, _, hi, _, _, hsz, hby, hze⟩ := c6 hE
  obtain ⟨zz, hiz, hzc⟩ : ∃ z, i.zero = some z ∧ z.cells.size = i.size := by
    cases hiz : i.zero with
    | none => rw [hiz] at hze; rw [← hze] at hz; simp at hz; omega
    | some z => rw [hiz] at hze; exact ⟨z, rfl, by simp at hze; rw [hsz, ← hz, ← hze]; simp⟩
  obtain ⟨cs, hown, hd, hnd, hM⟩ := hx
  obtain ⟨b, rfl, hp'⟩ := hy
  have hown' : w.ownsRow 0 el i.size v xs.length cs := by rw [hsz, hs]; exact hown
  obtain ⟨news, hn1, hn2, hn3⟩ := nZ hp' _ (Nat.le_refl _)
  rw [List.take_length] at hn2
  obtain ⟨v', w', hrun, h2, h3, _, h5⟩ := run_append_own_at (P := P) w 0 st ty el i zz i.size i.bytes hD hi hiz rfl rfl hzc (by omega) v xs.length cs hown' ⟨b, 0, none⟩ 1 1 news (by rw [hn1, hl, hsz, hs]; omega)
      (fun j u hj => by rw [Addr.add_lit]; exact hn3 j u hj) (ku hn2 (fun t ht => List.all_eq_true.1 ho t ht)) (by simp only [maxLen]; omega) (by rw [hby]; exact hlen) (Nat.zero_le _)
  have hb : ∀ b, v'.ownBlock = some b → b < w'.heap.size := by
    intro b hb
    rcases h2.2 with ⟨rfl, _⟩ | ⟨g, cap, cur, rfl, _, hh, _⟩
    · simp [Value.ownBlock] at hb
    · simp [Value.ownBlock] at hb; subst hb; exact (Array.getElem?_eq_some_iff.1 hh).1
  have hle := wq (t := tg) (g := v'.ownBlock) h3.size h3.os h3.tape h3.output (fun b hb hlt => by
      rcases h5 with e | e
      · exact hM b (e ▸ hb)
      · rw [e] at hb; injection hb with hb; omega) (fun b hlt hne => h3.block b hlt (fun e => hne (hM b e.symm))) wf
  have wf1 := yV (t := tg) wf h3.size hb
  have hle2 := x7 (w := w') (M := kL M tg v'.ownBlock) (tg := tg') (J := J)
  have le : Le (· ∈ ([] : List Nat)) (· ∈ [tg, tg']) w M w' (nC (kL M tg v'.ownBlock) tg' J) :=
    (hle.trans hle2).weaken (fun t ht => by rcases ht with h | h <;> cases h) (fun t ht => by rcases ht with h | h; exact List.mem_cons.2 (.inl (List.mem_singleton.1 h)); exact List.mem_cons_of_mem _ h)
  have hn4 : cK w' (kL M tg v'.ownBlock) l news := bw hle (fun u hu => gS hd1 u hu) (by intro _ _ h; cases h) hn2
  obtain ⟨g1, g2, g3⟩ := hg _ _ _ hn4
  obtain ⟨_, _, g4⟩ := hg _ _ _ hn2
  refine ⟨v', w', _, hrun, DG hJ wf1, le, cs ++ news, ?_, ?_, ?_, fun g hg => ?_⟩
  · rw [List.length_append, List.length_singleton, ← hs, ← hsz]; exact h2
  · rw [List.flatMap_append]
    refine j0 (bw le (fun u hu => ?_) (by intro _ _ h; cases h) hd) (by simpa using g1)
    rw [E.cY J xs u hu]
    simp only [List.mem_cons, List.not_mem_nil, or_false]
    rintro (h | h)
    · exact hne h.symm
    · exact hne' h.symm
  · rw [List.filterMap_append, List.nodup_append]
    refine ⟨hnd, g2, fun a ha b' hb' e => ?_⟩
    subst e
    have e1 := E.AW hd a ha
    have e2 := g4 a hb'
    rw [e1] at e2
    injection e2 with e2
    exact hne' e2.symm
  · have : kL M tg v'.ownBlock g = some tg := by simp [kL, hg]
    simp [nC, this, hnt]
theorem G6 {α : Type} {E : zu α} {x y : Operand} {st el tg tg' J : Nat} {ti te : TI} {xs : List α} (z : α) {l : List Ty} (hx : A.op fr x = .yh E el tg J xs) (hy : A.op fr y = .ms l) (hg : Lf tg' J l (E.own J z)) (hJ : 4096 ≤ J) (h1 : gL tg) (h1' : gL tg') (hnt : tg ≠ tg') (hp : fr.pass.contains tg = false) (hp' : fr.pass.contains tg' = false) (hT : T.eS[st]? = some ti) (hk : ti.k = .slice el) (hE : T.eS[el]? = some te) (hs : te.size = E.E.size) (hz : te.zero.length = te.size) (h0 : 0 < te.size)
 (hl : l.length = E.E.size) (hd1 : lW (cG l) [tg] = true) (ho : l.all Ty.one = true) (hlen : (xs.length + 1) * te.bytes ≤ 140737488355328) (hlen' : xs.length + 1 ≤ 9223372036854775807)
 (h : ay P fr ops rest (A.after { d := some d, ty := .yh E el tg J (xs ++ [z]), K := [tg, tg'], rs := cO x ++ cO y }) fun A' l' => K A' ((A, { d := some d, ty := .yh E el tg J (xs ++ [z]), K := [tg, tg'], rs := cO x ++ cO y }) :: l')) :
 ay P fr ops (⟨some d, .call ⟨.builtin .append, #[x, y], #[st, st]⟩, t, p, e, none⟩ :: rest) A K := by
 refine ⟨_, gK rfl rfl (by simp) (by simp) (by simp at hp hp' ⊢; exact ⟨⟨h1.1, hp⟩, ⟨h1'.1, hp'⟩⟩) fun a w M wf hr _ => ?_, h⟩
 obtain ⟨hdx, hdy⟩ := op2 hr
 rw [hx] at hdx; rw [hy] at hdy
 obtain ⟨v', w', M', hrun, h1', h2', h3'⟩ := BQ (P := P) (ty := t) wf hJ (by omega) (by omega) hnt hT hk hE hs hz h0 hdx hdy hl hd1 ho hg hlen hlen'
 exact ⟨v', w', by simp [execOp, resolve, invoke, builtin, hrun], M', h1', h2', h3', by simp⟩
end
end Go.T
namespace Go.Proofs.YtelbollidfdcjaaGreat
open Go Go.T
set_option maxHeartbeats 2000000
attribute [local irreducible] gF eX lq nY g7 gx g9 g5 g8 nW gz nT dM fj nM gC oB nth fW dR ay dK bodyPost Exit.then Exit.inBlock Code.wp Code.wpIn n9 hO nO ni gy eU cM cN bodyPostM dO
set_option maxRecDepth 100000 in
theorem vZ (l : List Int) (t : Ty) (h1 : t.one = true) (q : Int → Bool) (hd : t.deps = []) (hc : t.cdeps = []) (hf : ∀ x ∈ l, pJ Tryz.prog t [Ty.int .i64 x] (Ty.bool (q x))) : dK Tryz.prog 141 [Ty.sl c7 l, t] (Ty.int .i64 (fidx q l)) := by
 refine au Tryz.func141 rfl (by decide) Tryz.ntmps141 (by exact Nat.le_of_ble_eq_true rfl) fun w0 M0 => ?_
 refine gP (s := 0) rfl rfl gO fun hl => ?_
 refine aE (aB (bZ rfl (aD (aC (aE (aE (aB (ew rfl (b9 rfl rfl rfl ?_)))))))))
 refine bG rfl (aD (aC (aZ ?_)))
 refine bz (fun (k : {k : Nat // ∀ x ∈ l.take k, q x = false}) => live [(0, Ty.sl c7 l), (1, t), (7, Ty.int .i64 l.length), (8, Ty.int .i64 (k.1 : Nat))] []) (fun k => l.length - k.1) (⟨0, by simp⟩) ?_ fun k => ?_
 ·(refine cV.mk' ?_ ?_ <;> (repeat' (first | exact aH | exact aI | refine aA ?_ (Ty.aT _) | refine aA ?_ (Ty.aF _))))
 refine aE (aB (bA rfl rfl rfl (aD (aC (aE ?_)))))
 refine ah rfl (fun hc1 => ?_) (fun hc1 => ?_)
 ·
  refine af (aC (aE (aZ (aE (aB (bG rfl (bZ rfl (aD (aC ?_)))))))))
  refine aE (aB ?_)
  refine eL (ty := t) rfl ?_
  refine ew rfl (bG rfl ?_)
  refine aq rfl rfl rfl rfl rfl rfl (by omega) ?_
  refine aL rfl rfl rfl rfl ?_
  refine fC rfl (hf _ (cT (by omega))) rfl ?_
  refine aD (aC ?_)
  refine cF rfl (fun hc2 => ?_) (fun hc2 => ?_)
  ·
   refine aE (aB (bG rfl (bZ rfl (aD (aC (az (bB (aS (aS ?_)))))))))
   refine bB (aS (bU rfl rfl ?_))
   all_goals skip
   exact av rfl rfl (congrArg (Ty.int .i64) (iQ (by omega) k.2 (by rw [← gA]; exact hc2)).symm)
  refine af (bI (aC (aB ?_)))
  refine bp rfl rfl (by omega) (by omega) ?_
  refine bG rfl (aD ?_)
  refine bL (⟨k.1 + 1, by rw [cR (by omega)]; intro x hx; rcases List.mem_append.1 hx with h | h; exact k.2 x h; rw [List.mem_singleton.1 h]; exact hc2⟩) ?_ (by show l.length - (k.1 + 1) < l.length - k.1; omega)
  (refine cV.mk' ?_ ?_ <;> (repeat' (first | exact aH | exact aI | refine aA ?_ (Ty.aT _) | refine aA ?_ (Ty.aF _))))
  all_goals skip
 refine b8 (aQ (aQ (aa rfl (aC (aE (aB (bZ rfl (aD (aC ?_)))))))))
 refine az (bU rfl rfl ?_)
 all_goals skip
 exact av rfl rfl (congrArg (Ty.int .i64) (jE (by have := k.2; rwa [List.take_of_length_le (by omega)] at this)).symm)
set_option maxRecDepth 100000 in
theorem vX (l : List tM) (t : Ty) (h1 : t.one = true) (q : tM → Bool) (hd : t.deps = []) (hc : t.cdeps = []) (hf : ∀ x ∈ l, pJ Tryz.prog t [Ty.agg (fO.tys x)] (Ty.bool (q x))) : dK Tryz.prog 200 [Ty.sl fO l, t] (Ty.int .i64 (fidx q l)) := by
 refine au Tryz.func200 rfl (by decide) Tryz.ntmps200 (by exact Nat.le_of_ble_eq_true rfl) fun w0 M0 => ?_
 refine gP (s := 0) rfl rfl gO fun hl => ?_
 refine aE (aB (bZ rfl (aD (aC (aE (aE (aB (ew rfl (b9 rfl rfl rfl ?_)))))))))
 refine bG rfl (aD (aC (aZ ?_)))
 refine bz (fun (k : {k : Nat // ∀ x ∈ l.take k, q x = false}) => live [(0, Ty.sl fO l), (1, t), (7, Ty.int .i64 l.length), (8, Ty.int .i64 (k.1 : Nat))] []) (fun k => l.length - k.1) (⟨0, by simp⟩) ?_ fun k => ?_
 ·(refine cV.mk' ?_ ?_ <;> (repeat' (first | exact aH | exact aI | refine aA ?_ (Ty.aT _) | refine aA ?_ (Ty.aF _))))
 refine aE (aB (bA rfl rfl rfl (aD (aC (aE ?_)))))
 refine ah rfl (fun hc1 => ?_) (fun hc1 => ?_)
 ·
  refine af (aC (aE (aZ (aE (aB (bG rfl (bZ rfl (aD (aC ?_)))))))))
  refine aE (aB ?_)
  refine eL (ty := t) rfl ?_
  refine ew rfl (bG rfl ?_)
  refine aq rfl rfl rfl rfl rfl rfl (by omega) ?_
  refine aY rfl rfl rfl (by exact Nat.le_of_ble_eq_true rfl) ?_
  refine fC rfl (hf _ (cT (by omega))) rfl ?_
  refine aD (aC ?_)
  refine cF rfl (fun hc2 => ?_) (fun hc2 => ?_)
  ·
   refine aE (aB (bG rfl (bZ rfl (aD (aC (az (bB (aS (aS ?_)))))))))
   refine bB (aS (bU rfl rfl ?_))
   all_goals skip
   exact av rfl rfl (congrArg (Ty.int .i64) (iQ (by omega) k.2 (by rw [← gA]; exact hc2)).symm)
  refine af (bI (aC (aB ?_)))
  refine bp rfl rfl (by omega) (by omega) ?_
  refine bG rfl (aD ?_)
  refine bL (⟨k.1 + 1, by rw [cR (by omega)]; intro x hx; rcases List.mem_append.1 hx with h | h; exact k.2 x h; rw [List.mem_singleton.1 h]; exact hc2⟩) ?_ (by show l.length - (k.1 + 1) < l.length - k.1; omega)
  (refine cV.mk' ?_ ?_ <;> (repeat' (first | exact aH | exact aI | refine aA ?_ (Ty.aT _) | refine aA ?_ (Ty.aF _))))
  all_goals skip
 refine b8 (aQ (aQ (aa rfl (aC (aE (aB (bZ rfl (aD (aC ?_)))))))))
 refine az (bU rfl rfl ?_)
 all_goals skip
 exact av rfl rfl (congrArg (Ty.int .i64) (jE (by have := k.2; rwa [List.take_of_length_le (by omega)] at this)).symm)
set_option maxRecDepth 100000 in
theorem sL (l : List tM) (t : Ty) (h1 : t.one = true) (q : tM → Bool) (hd : t.deps = []) (hc : t.cdeps = []) (hf : ∀ x ∈ l, pJ Tryz.prog t [Ty.agg (fO.tys x)] (Ty.bool (q x))) : dK Tryz.prog 189 [Ty.sl fO l, t] (Ty.bool (l.any q)) := by
 refine au Tryz.func189 rfl (by decide) Tryz.ntmps189 (by exact Nat.le_of_ble_eq_true rfl) fun w0 M0 => ?_
 refine aE (aB (dF rfl (aD (aC (aE (aB (ew rfl ?_)))))))
 refine eL (ty := t) rfl ?_
 refine ak (vX l t h1 q hd hc hf) rfl (by exact bg rfl (bg hd rfl)) (by exact bT rfl (bT hc rfl)) rfl rfl ?_
 refine bA rfl rfl rfl (dF rfl (aD (aC (az (bU rfl rfl ?_)))))
 all_goals skip
 exact av rfl rfl (congrArg Ty.bool (qy q l))
set_option maxRecDepth 100000 in
theorem BC (x : tM) (t : Ty) (h1 : t.one = true) (b : Bool) (hd : t.deps = []) (hc : t.cdeps = []) (hf : pJ Tryz.prog t [Ty.agg (fO.tys x)] (Ty.bool b)) : dK Tryz.prog 190 [Ty.agg (fO.tys x), Ty.pp [t]] (Ty.bool (!b)) := by
 refine au Tryz.func190 rfl (by decide) Tryz.ntmps190 (by exact Nat.le_of_ble_eq_true rfl) fun w0 M0 => ?_
 refine aE (aB (bH rfl (dF rfl (aD (aC (aE (aB (aL rfl rfl rfl rfl ?_))))))))
 refine aY rfl rfl rfl (by exact Nat.le_of_ble_eq_true rfl) ?_
 refine fC rfl hf rfl (eJ rfl (dF rfl (aD (aC (az (bU rfl rfl ?_))))))
 all_goals exact cI rfl rfl
set_option maxRecDepth 100000 in
theorem vO (l : List tM) (t : Ty) (h1 : t.one = true) (q : tM → Bool) (hd : t.deps = []) (hc : t.cdeps = []) (hf : ∀ x ∈ l, pJ Tryz.prog t [Ty.agg (fO.tys x)] (Ty.bool (q x))) : dK Tryz.prog 143 [Ty.sl fO l, t] (Ty.bool (l.all q)) := by
 refine au Tryz.func143 rfl (by decide) Tryz.ntmps143 (by exact Nat.le_of_ble_eq_true rfl) fun w0 M0 => ?_
 refine aE (aB ?_)
 refine iD (ty := t) rfl h1 ?_
 refine dF rfl (aD (aC (aE (aB (ew rfl (dW rfl ?_))))))
 refine ak (sL l (Ty.kP _ [Ty.pp [t]]) rfl (fun x => !q x) (by exact bg (bg hd rfl) rfl) (by exact bT (bT hc rfl) rfl) fun x hx => dx (BC x t h1 (q x) hd hc (hf x hx)) rfl rfl (by exact bg (bg hd rfl) rfl) (by exact bT (bT hc rfl) rfl) rfl rfl) rfl (by exact bg rfl (bg (bg (bg hd rfl) rfl) rfl)) (by exact bT rfl (bT (bT (bT hc rfl) rfl) rfl)) rfl rfl ?_
 refine eJ rfl (dF rfl (aD (aC (az (bU rfl rfl ?_)))))
 all_goals skip
 exact av rfl rfl (congrArg Ty.bool (sV q l))
set_option maxRecDepth 100000 in
theorem ve (l : List Move) (t : Ty) (h1 : t.one = true) (q : Move → Bool) (hd : t.deps = []) (hc : t.cdeps = []) (hf : ∀ x ∈ l, pJ Tryz.prog t [Ty.agg (eH.tys x)] (Ty.bool (q x))) : dK Tryz.prog 92 [Ty.sl eH l, t] (Ty.int .i64 (fidx q l)) := by
 refine au Tryz.func92 rfl (by decide) Tryz.ntmps92 (by exact Nat.le_of_ble_eq_true rfl) fun w0 M0 => ?_
 refine gP (s := 0) rfl rfl gO fun hl => ?_
 refine aE (aB (bZ rfl (aD (aC (aE (aE (aB (ew rfl (b9 rfl rfl rfl ?_)))))))))
 refine bG rfl (aD (aC (aZ ?_)))
 refine bz (fun (k : {k : Nat // ∀ x ∈ l.take k, q x = false}) => live [(0, Ty.sl eH l), (1, t), (7, Ty.int .i64 l.length), (8, Ty.int .i64 (k.1 : Nat))] []) (fun k => l.length - k.1) (⟨0, by simp⟩) ?_ fun k => ?_
 ·(refine cV.mk' ?_ ?_ <;> (repeat' (first | exact aH | exact aI | refine aA ?_ (Ty.aT _) | refine aA ?_ (Ty.aF _))))
 refine aE (aB (bA rfl rfl rfl (aD (aC (aE ?_)))))
 refine ah rfl (fun hc1 => ?_) (fun hc1 => ?_)
 ·
  refine af (aC (aE (aZ (aE (aB (bG rfl (bZ rfl (aD (aC ?_)))))))))
  refine aE (aB ?_)
  refine eL (ty := t) rfl ?_
  refine ew rfl (bG rfl ?_)
  refine aq rfl rfl rfl rfl rfl rfl (by omega) ?_
  refine aY rfl rfl rfl (by exact Nat.le_of_ble_eq_true rfl) ?_
  refine fC rfl (hf _ (cT (by omega))) rfl ?_
  refine aD (aC ?_)
  refine cF rfl (fun hc2 => ?_) (fun hc2 => ?_)
  ·
   refine aE (aB (bG rfl (bZ rfl (aD (aC (az (bB (aS (aS ?_)))))))))
   refine bB (aS (bU rfl rfl ?_))
   all_goals skip
   exact av rfl rfl (congrArg (Ty.int .i64) (iQ (by omega) k.2 (by rw [← gA]; exact hc2)).symm)
  refine af (bI (aC (aB ?_)))
  refine bp rfl rfl (by omega) (by omega) ?_
  refine bG rfl (aD ?_)
  refine bL (⟨k.1 + 1, by rw [cR (by omega)]; intro x hx; rcases List.mem_append.1 hx with h | h; exact k.2 x h; rw [List.mem_singleton.1 h]; exact hc2⟩) ?_ (by show l.length - (k.1 + 1) < l.length - k.1; omega)
  (refine cV.mk' ?_ ?_ <;> (repeat' (first | exact aH | exact aI | refine aA ?_ (Ty.aT _) | refine aA ?_ (Ty.aF _))))
  all_goals skip
 refine b8 (aQ (aQ (aa rfl (aC (aE (aB (bZ rfl (aD (aC ?_)))))))))
 refine az (bU rfl rfl ?_)
 all_goals skip
 exact av rfl rfl (congrArg (Ty.int .i64) (jE (by have := k.2; rwa [List.take_of_length_le (by omega)] at this)).symm)
set_option maxRecDepth 100000 in
theorem rW (l : List Move) (t : Ty) (h1 : t.one = true) (q : Move → Bool) (hd : t.deps = []) (hc : t.cdeps = []) (hf : ∀ x ∈ l, pJ Tryz.prog t [Ty.agg (eH.tys x)] (Ty.bool (q x))) : dK Tryz.prog 23 [Ty.sl eH l, t] (Ty.bool (l.any q)) := by
 refine au Tryz.func23 rfl (by decide) Tryz.ntmps23 (by exact Nat.le_of_ble_eq_true rfl) fun w0 M0 => ?_
 refine aE (aB (dF rfl (aD (aC (aE (aB (ew rfl ?_)))))))
 refine eL (ty := t) rfl ?_
 refine ak (ve l t h1 q hd hc hf) rfl (by exact bg rfl (bg hd rfl)) (by exact bT rfl (bT hc rfl)) rfl rfl ?_
 refine bA rfl rfl rfl (dF rfl (aD (aC (az (bU rfl rfl ?_)))))
 all_goals skip
 exact av rfl rfl (congrArg Ty.bool (qy q l))
set_option maxRecDepth 100000 in
theorem Bg (x : Move) (t : Ty) (h1 : t.one = true) (b : Bool) (hd : t.deps = []) (hc : t.cdeps = []) (hf : pJ Tryz.prog t [Ty.agg (eH.tys x)] (Ty.bool b)) : dK Tryz.prog 191 [Ty.agg (eH.tys x), Ty.pp [t]] (Ty.bool (!b)) := by
 refine au Tryz.func191 rfl (by decide) Tryz.ntmps191 (by exact Nat.le_of_ble_eq_true rfl) fun w0 M0 => ?_
 refine aE (aB (bH rfl (dF rfl (aD (aC (aE (aB (aL rfl rfl rfl rfl ?_))))))))
 refine aY rfl rfl rfl (by exact Nat.le_of_ble_eq_true rfl) ?_
 refine fC rfl hf rfl (eJ rfl (dF rfl (aD (aC (az (bU rfl rfl ?_))))))
 all_goals exact cI rfl rfl
set_option maxRecDepth 100000 in
theorem nA (l : List Move) (t : Ty) (h1 : t.one = true) (q : Move → Bool) (hd : t.deps = []) (hc : t.cdeps = []) (hf : ∀ x ∈ l, pJ Tryz.prog t [Ty.agg (eH.tys x)] (Ty.bool (q x))) : dK Tryz.prog 146 [Ty.sl eH l, t] (Ty.bool (l.all q)) := by
 refine au Tryz.func146 rfl (by decide) Tryz.ntmps146 (by exact Nat.le_of_ble_eq_true rfl) fun w0 M0 => ?_
 refine aE (aB ?_)
 refine iD (ty := t) rfl h1 ?_
 refine dF rfl (aD (aC (aE (aB (ew rfl (dW rfl ?_))))))
 refine ak (rW l (Ty.kP _ [Ty.pp [t]]) rfl (fun x => !q x) (by exact bg (bg hd rfl) rfl) (by exact bT (bT hc rfl) rfl) fun x hx => dx (Bg x t h1 (q x) hd hc (hf x hx)) rfl rfl (by exact bg (bg hd rfl) rfl) (by exact bT (bT hc rfl) rfl) rfl rfl) rfl (by exact bg rfl (bg (bg (bg hd rfl) rfl) rfl)) (by exact bT rfl (bT (bT (bT hc rfl) rfl) rfl)) rfl rfl ?_
 refine eJ rfl (dF rfl (aD (aC (az (bU rfl rfl ?_)))))
 all_goals skip
 exact av rfl rfl (congrArg Ty.bool (sV q l))
set_option maxRecDepth 100000 in
theorem vh (l : List Level) (t : Ty) (h1 : t.one = true) (q : Level → Bool) (hd : t.deps = []) (hc : t.cdeps = []) (hf : ∀ x ∈ l, pJ Tryz.prog t [Ty.agg (dY.tys x)] (Ty.bool (q x))) : dK Tryz.prog 163 [Ty.sl dY l, t] (Ty.int .i64 (fidx q l)) := by
 refine au Tryz.func163 rfl (by decide) Tryz.ntmps163 (by exact Nat.le_of_ble_eq_true rfl) fun w0 M0 => ?_
 refine gP (s := 0) rfl rfl gO fun hl => ?_
 refine aE (aB (bZ rfl (aD (aC (aE (aE (aB (ew rfl (b9 rfl rfl rfl ?_)))))))))
 refine bG rfl (aD (aC (aZ ?_)))
 refine bz (fun (k : {k : Nat // ∀ x ∈ l.take k, q x = false}) => live [(0, Ty.sl dY l), (1, t), (7, Ty.int .i64 l.length), (8, Ty.int .i64 (k.1 : Nat))] []) (fun k => l.length - k.1) (⟨0, by simp⟩) ?_ fun k => ?_
 ·(refine cV.mk' ?_ ?_ <;> (repeat' (first | exact aH | exact aI | refine aA ?_ (Ty.aT _) | refine aA ?_ (Ty.aF _))))
 refine aE (aB (bA rfl rfl rfl (aD (aC (aE ?_)))))
 refine ah rfl (fun hc1 => ?_) (fun hc1 => ?_)
 ·
  refine af (aC (aE (aZ (aE (aB (bG rfl (bZ rfl (aD (aC ?_)))))))))
  refine aE (aB ?_)
  refine eL (ty := t) rfl ?_
  refine ew rfl (bG rfl ?_)
  refine aq rfl rfl rfl rfl rfl rfl (by omega) ?_
  refine aY rfl rfl rfl (by exact Nat.le_of_ble_eq_true rfl) ?_
  refine fC rfl (hf _ (cT (by omega))) rfl ?_
  refine aD (aC ?_)
  refine cF rfl (fun hc2 => ?_) (fun hc2 => ?_)
  ·
   refine aE (aB (bG rfl (bZ rfl (aD (aC (az (bB (aS (aS ?_)))))))))
   refine bB (aS (bU rfl rfl ?_))
   all_goals skip
   exact av rfl rfl (congrArg (Ty.int .i64) (iQ (by omega) k.2 (by rw [← gA]; exact hc2)).symm)
  refine af (bI (aC (aB ?_)))
  refine bp rfl rfl (by omega) (by omega) ?_
  refine bG rfl (aD ?_)
  refine bL (⟨k.1 + 1, by rw [cR (by omega)]; intro x hx; rcases List.mem_append.1 hx with h | h; exact k.2 x h; rw [List.mem_singleton.1 h]; exact hc2⟩) ?_ (by show l.length - (k.1 + 1) < l.length - k.1; omega)
  (refine cV.mk' ?_ ?_ <;> (repeat' (first | exact aH | exact aI | refine aA ?_ (Ty.aT _) | refine aA ?_ (Ty.aF _))))
  all_goals skip
 refine b8 (aQ (aQ (aa rfl (aC (aE (aB (bZ rfl (aD (aC ?_)))))))))
 refine az (bU rfl rfl ?_)
 all_goals skip
 exact av rfl rfl (congrArg (Ty.int .i64) (jE (by have := k.2; rwa [List.take_of_length_le (by omega)] at this)).symm)
set_option maxRecDepth 100000 in
theorem r6 (l : List Level) (t : Ty) (h1 : t.one = true) (q : Level → Bool) (hd : t.deps = []) (hc : t.cdeps = []) (hf : ∀ x ∈ l, pJ Tryz.prog t [Ty.agg (dY.tys x)] (Ty.bool (q x))) : dK Tryz.prog 84 [Ty.sl dY l, t] (Ty.bool (l.any q)) := by
 refine au Tryz.func84 rfl (by decide) Tryz.ntmps84 (by exact Nat.le_of_ble_eq_true rfl) fun w0 M0 => ?_
 refine aE (aB (dF rfl (aD (aC (aE (aB (ew rfl ?_)))))))
 refine eL (ty := t) rfl ?_
 refine ak (vh l t h1 q hd hc hf) rfl (by exact bg rfl (bg hd rfl)) (by exact bT rfl (bT hc rfl)) rfl rfl ?_
 refine bA rfl rfl rfl (dF rfl (aD (aC (az (bU rfl rfl ?_)))))
 all_goals skip
 exact av rfl rfl (congrArg Ty.bool (qy q l))
set_option maxRecDepth 100000 in
theorem Ag (x : Level) (t : Ty) (h1 : t.one = true) (b : Bool) (hd : t.deps = []) (hc : t.cdeps = []) (hf : pJ Tryz.prog t [Ty.agg (dY.tys x)] (Ty.bool b)) : dK Tryz.prog 192 [Ty.agg (dY.tys x), Ty.pp [t]] (Ty.bool (!b)) := by
 refine au Tryz.func192 rfl (by decide) Tryz.ntmps192 (by exact Nat.le_of_ble_eq_true rfl) fun w0 M0 => ?_
 refine aE (aB (bH rfl (dF rfl (aD (aC (aE (aB (aL rfl rfl rfl rfl ?_))))))))
 refine aY rfl rfl rfl (by exact Nat.le_of_ble_eq_true rfl) ?_
 refine fC rfl hf rfl (eJ rfl (dF rfl (aD (aC (az (bU rfl rfl ?_))))))
 all_goals exact cI rfl rfl
set_option maxRecDepth 100000 in
theorem pg (l : List Level) (t : Ty) (h1 : t.one = true) (q : Level → Bool) (hd : t.deps = []) (hc : t.cdeps = []) (hf : ∀ x ∈ l, pJ Tryz.prog t [Ty.agg (dY.tys x)] (Ty.bool (q x))) : dK Tryz.prog 148 [Ty.sl dY l, t] (Ty.bool (l.all q)) := by
 refine au Tryz.func148 rfl (by decide) Tryz.ntmps148 (by exact Nat.le_of_ble_eq_true rfl) fun w0 M0 => ?_
 refine aE (aB ?_)
 refine iD (ty := t) rfl h1 ?_
 refine dF rfl (aD (aC (aE (aB (ew rfl (dW rfl ?_))))))
 refine ak (r6 l (Ty.kP _ [Ty.pp [t]]) rfl (fun x => !q x) (by exact bg (bg hd rfl) rfl) (by exact bT (bT hc rfl) rfl) fun x hx => dx (Ag x t h1 (q x) hd hc (hf x hx)) rfl rfl (by exact bg (bg hd rfl) rfl) (by exact bT (bT hc rfl) rfl) rfl rfl) rfl (by exact bg rfl (bg (bg (bg hd rfl) rfl) rfl)) (by exact bT rfl (bT (bT (bT hc rfl) rfl) rfl)) rfl rfl ?_
 refine eJ rfl (dF rfl (aD (aC (az (bU rfl rfl ?_)))))
 all_goals skip
 exact av rfl rfl (congrArg Ty.bool (sV q l))
set_option maxRecDepth 100000 in
theorem vW (l : List lH) (t : Ty) (h1 : t.one = true) (q : lH → Bool) (hd : t.deps = []) (hc : t.cdeps = []) (hf : ∀ x ∈ l, pJ Tryz.prog t [Ty.agg (fq.tys x)] (Ty.bool (q x))) : dK Tryz.prog 199 [Ty.sl fq l, t] (Ty.int .i64 (fidx q l)) := by
 refine au Tryz.func199 rfl (by decide) Tryz.ntmps199 (by exact Nat.le_of_ble_eq_true rfl) fun w0 M0 => ?_
 refine gP (s := 0) rfl rfl gO fun hl => ?_
 refine aE (aB (bZ rfl (aD (aC (aE (aE (aB (ew rfl (b9 rfl rfl rfl ?_)))))))))
 refine bG rfl (aD (aC (aZ ?_)))
 refine bz (fun (k : {k : Nat // ∀ x ∈ l.take k, q x = false}) => live [(0, Ty.sl fq l), (1, t), (7, Ty.int .i64 l.length), (8, Ty.int .i64 (k.1 : Nat))] []) (fun k => l.length - k.1) (⟨0, by simp⟩) ?_ fun k => ?_
 ·(refine cV.mk' ?_ ?_ <;> (repeat' (first | exact aH | exact aI | refine aA ?_ (Ty.aT _) | refine aA ?_ (Ty.aF _))))
 refine aE (aB (bA rfl rfl rfl (aD (aC (aE ?_)))))
 refine ah rfl (fun hc1 => ?_) (fun hc1 => ?_)
 ·
  refine af (aC (aE (aZ (aE (aB (bG rfl (bZ rfl (aD (aC ?_)))))))))
  refine aE (aB ?_)
  refine eL (ty := t) rfl ?_
  refine ew rfl (bG rfl ?_)
  refine aq rfl rfl rfl rfl rfl rfl (by omega) ?_
  refine aY rfl rfl rfl (by exact Nat.le_of_ble_eq_true rfl) ?_
  refine fC rfl (hf _ (cT (by omega))) rfl ?_
  refine aD (aC ?_)
  refine cF rfl (fun hc2 => ?_) (fun hc2 => ?_)
  ·
   refine aE (aB (bG rfl (bZ rfl (aD (aC (az (bB (aS (aS ?_)))))))))
   refine bB (aS (bU rfl rfl ?_))
   all_goals skip
   exact av rfl rfl (congrArg (Ty.int .i64) (iQ (by omega) k.2 (by rw [← gA]; exact hc2)).symm)
  refine af (bI (aC (aB ?_)))
  refine bp rfl rfl (by omega) (by omega) ?_
  refine bG rfl (aD ?_)
  refine bL (⟨k.1 + 1, by rw [cR (by omega)]; intro x hx; rcases List.mem_append.1 hx with h | h; exact k.2 x h; rw [List.mem_singleton.1 h]; exact hc2⟩) ?_ (by show l.length - (k.1 + 1) < l.length - k.1; omega)
  (refine cV.mk' ?_ ?_ <;> (repeat' (first | exact aH | exact aI | refine aA ?_ (Ty.aT _) | refine aA ?_ (Ty.aF _))))
  all_goals skip
 refine b8 (aQ (aQ (aa rfl (aC (aE (aB (bZ rfl (aD (aC ?_)))))))))
 refine az (bU rfl rfl ?_)
 all_goals skip
 exact av rfl rfl (congrArg (Ty.int .i64) (jE (by have := k.2; rwa [List.take_of_length_le (by omega)] at this)).symm)
set_option maxRecDepth 100000 in
theorem mT (l : List lH) (t : Ty) (h1 : t.one = true) (q : lH → Bool) (hd : t.deps = []) (hc : t.cdeps = []) (hf : ∀ x ∈ l, pJ Tryz.prog t [Ty.agg (fq.tys x)] (Ty.bool (q x))) : dK Tryz.prog 185 [Ty.sl fq l, t] (Ty.bool (l.any q)) := by
 refine au Tryz.func185 rfl (by decide) Tryz.ntmps185 (by exact Nat.le_of_ble_eq_true rfl) fun w0 M0 => ?_
 refine aE (aB (dF rfl (aD (aC (aE (aB (ew rfl ?_)))))))
 refine eL (ty := t) rfl ?_
 refine ak (vW l t h1 q hd hc hf) rfl (by exact bg rfl (bg hd rfl)) (by exact bT rfl (bT hc rfl)) rfl rfl ?_
 refine bA rfl rfl rfl (dF rfl (aD (aC (az (bU rfl rfl ?_)))))
 all_goals skip
 exact av rfl rfl (congrArg Ty.bool (qy q l))
set_option maxRecDepth 100000 in
theorem Ba (x : lH) (t : Ty) (h1 : t.one = true) (b : Bool) (hd : t.deps = []) (hc : t.cdeps = []) (hf : pJ Tryz.prog t [Ty.agg (fq.tys x)] (Ty.bool b)) : dK Tryz.prog 186 [Ty.agg (fq.tys x), Ty.pp [t]] (Ty.bool (!b)) := by
 refine au Tryz.func186 rfl (by decide) Tryz.ntmps186 (by exact Nat.le_of_ble_eq_true rfl) fun w0 M0 => ?_
 refine aE (aB (bH rfl (dF rfl (aD (aC (aE (aB (aL rfl rfl rfl rfl ?_))))))))
 refine aY rfl rfl rfl (by exact Nat.le_of_ble_eq_true rfl) ?_
 refine fC rfl hf rfl (eJ rfl (dF rfl (aD (aC (az (bU rfl rfl ?_))))))
 all_goals exact cI rfl rfl
set_option maxRecDepth 100000 in
theorem Ct (l : List lH) (t : Ty) (h1 : t.one = true) (q : lH → Bool) (hd : t.deps = []) (hc : t.cdeps = []) (hf : ∀ x ∈ l, pJ Tryz.prog t [Ty.agg (fq.tys x)] (Ty.bool (q x))) : dK Tryz.prog 133 [Ty.sl fq l, t] (Ty.bool (l.all q)) := by
 refine au Tryz.func133 rfl (by decide) Tryz.ntmps133 (by exact Nat.le_of_ble_eq_true rfl) fun w0 M0 => ?_
 refine aE (aB ?_)
 refine iD (ty := t) rfl h1 ?_
 refine dF rfl (aD (aC (aE (aB (ew rfl (dW rfl ?_))))))
 refine ak (mT l (Ty.kP _ [Ty.pp [t]]) rfl (fun x => !q x) (by exact bg (bg hd rfl) rfl) (by exact bT (bT hc rfl) rfl) fun x hx => dx (Ba x t h1 (q x) hd hc (hf x hx)) rfl rfl (by exact bg (bg hd rfl) rfl) (by exact bT (bT hc rfl) rfl) rfl rfl) rfl (by exact bg rfl (bg (bg (bg hd rfl) rfl) rfl)) (by exact bT rfl (bT (bT (bT hc rfl) rfl) rfl)) rfl rfl ?_
 refine eJ rfl (dF rfl (aD (aC (az (bU rfl rfl ?_)))))
 all_goals skip
 exact av rfl rfl (congrArg Ty.bool (sV q l))
set_option maxRecDepth 100000 in
theorem vc (l : List cB) (t : Ty) (h1 : t.one = true) (q : cB → Bool) (hd : t.deps = []) (hc : t.cdeps = []) (hf : ∀ x ∈ l, pJ Tryz.prog t [Ty.agg (dw.tys x)] (Ty.bool (q x))) : dK Tryz.prog 203 [Ty.sl dw l, t] (Ty.int .i64 (fidx q l)) := by
 refine au Tryz.func203 rfl (by decide) Tryz.ntmps203 (by exact Nat.le_of_ble_eq_true rfl) fun w0 M0 => ?_
 refine gP (s := 0) rfl rfl gO fun hl => ?_
 refine aE (aB (bZ rfl (aD (aC (aE (aE (aB (ew rfl (b9 rfl rfl rfl ?_)))))))))
 refine bG rfl (aD (aC (aZ ?_)))
 refine bz (fun (k : {k : Nat // ∀ x ∈ l.take k, q x = false}) => live [(0, Ty.sl dw l), (1, t), (7, Ty.int .i64 l.length), (8, Ty.int .i64 (k.1 : Nat))] []) (fun k => l.length - k.1) (⟨0, by simp⟩) ?_ fun k => ?_
 ·(refine cV.mk' ?_ ?_ <;> (repeat' (first | exact aH | exact aI | refine aA ?_ (Ty.aT _) | refine aA ?_ (Ty.aF _))))
 refine aE (aB (bA rfl rfl rfl (aD (aC (aE ?_)))))
 refine ah rfl (fun hc1 => ?_) (fun hc1 => ?_)
 ·
  refine af (aC (aE (aZ (aE (aB (bG rfl (bZ rfl (aD (aC ?_)))))))))
  refine aE (aB ?_)
  refine eL (ty := t) rfl ?_
  refine ew rfl (bG rfl ?_)
  refine aq rfl rfl rfl rfl rfl rfl (by omega) ?_
  refine aY rfl rfl rfl (by exact Nat.le_of_ble_eq_true rfl) ?_
  refine fC rfl (hf _ (cT (by omega))) rfl ?_
  refine aD (aC ?_)
  refine cF rfl (fun hc2 => ?_) (fun hc2 => ?_)
  ·
   refine aE (aB (bG rfl (bZ rfl (aD (aC (az (bB (aS (aS ?_)))))))))
   refine bB (aS (bU rfl rfl ?_))
   all_goals skip
   exact av rfl rfl (congrArg (Ty.int .i64) (iQ (by omega) k.2 (by rw [← gA]; exact hc2)).symm)
  refine af (bI (aC (aB ?_)))
  refine bp rfl rfl (by omega) (by omega) ?_
  refine bG rfl (aD ?_)
  refine bL (⟨k.1 + 1, by rw [cR (by omega)]; intro x hx; rcases List.mem_append.1 hx with h | h; exact k.2 x h; rw [List.mem_singleton.1 h]; exact hc2⟩) ?_ (by show l.length - (k.1 + 1) < l.length - k.1; omega)
  (refine cV.mk' ?_ ?_ <;> (repeat' (first | exact aH | exact aI | refine aA ?_ (Ty.aT _) | refine aA ?_ (Ty.aF _))))
  all_goals skip
 refine b8 (aQ (aQ (aa rfl (aC (aE (aB (bZ rfl (aD (aC ?_)))))))))
 refine az (bU rfl rfl ?_)
 all_goals skip
 exact av rfl rfl (congrArg (Ty.int .i64) (jE (by have := k.2; rwa [List.take_of_length_le (by omega)] at this)).symm)
set_option maxRecDepth 100000 in
theorem rj (l : List cB) (t : Ty) (h1 : t.one = true) (q : cB → Bool) (hd : t.deps = []) (hc : t.cdeps = []) (hf : ∀ x ∈ l, pJ Tryz.prog t [Ty.agg (dw.tys x)] (Ty.bool (q x))) : dK Tryz.prog 197 [Ty.sl dw l, t] (Ty.bool (l.any q)) := by
 refine au Tryz.func197 rfl (by decide) Tryz.ntmps197 (by exact Nat.le_of_ble_eq_true rfl) fun w0 M0 => ?_
 refine aE (aB (dF rfl (aD (aC (aE (aB (ew rfl ?_)))))))
 refine eL (ty := t) rfl ?_
 refine ak (vc l t h1 q hd hc hf) rfl (by exact bg rfl (bg hd rfl)) (by exact bT rfl (bT hc rfl)) rfl rfl ?_
 refine bA rfl rfl rfl (dF rfl (aD (aC (az (bU rfl rfl ?_)))))
 all_goals skip
 exact av rfl rfl (congrArg Ty.bool (qy q l))
set_option maxRecDepth 100000 in
theorem BA (x : cB) (t : Ty) (h1 : t.one = true) (b : Bool) (hd : t.deps = []) (hc : t.cdeps = []) (hf : pJ Tryz.prog t [Ty.agg (dw.tys x)] (Ty.bool b)) : dK Tryz.prog 198 [Ty.agg (dw.tys x), Ty.pp [t]] (Ty.bool (!b)) := by
 refine au Tryz.func198 rfl (by decide) Tryz.ntmps198 (by exact Nat.le_of_ble_eq_true rfl) fun w0 M0 => ?_
 refine aE (aB (bH rfl (dF rfl (aD (aC (aE (aB (aL rfl rfl rfl rfl ?_))))))))
 refine aY rfl rfl rfl (by exact Nat.le_of_ble_eq_true rfl) ?_
 refine fC rfl hf rfl (eJ rfl (dF rfl (aD (aC (az (bU rfl rfl ?_))))))
 all_goals exact cI rfl rfl
set_option maxRecDepth 100000 in
theorem Cv (l : List cB) (t : Ty) (h1 : t.one = true) (q : cB → Bool) (hd : t.deps = []) (hc : t.cdeps = []) (hf : ∀ x ∈ l, pJ Tryz.prog t [Ty.agg (dw.tys x)] (Ty.bool (q x))) : dK Tryz.prog 176 [Ty.sl dw l, t] (Ty.bool (l.all q)) := by
 refine au Tryz.func176 rfl (by decide) Tryz.ntmps176 (by exact Nat.le_of_ble_eq_true rfl) fun w0 M0 => ?_
 refine aE (aB ?_)
 refine iD (ty := t) rfl h1 ?_
 refine dF rfl (aD (aC (aE (aB (ew rfl (dW rfl ?_))))))
 refine ak (rj l (Ty.kP _ [Ty.pp [t]]) rfl (fun x => !q x) (by exact bg (bg hd rfl) rfl) (by exact bT (bT hc rfl) rfl) fun x hx => dx (BA x t h1 (q x) hd hc (hf x hx)) rfl rfl (by exact bg (bg hd rfl) rfl) (by exact bT (bT hc rfl) rfl) rfl rfl) rfl (by exact bg rfl (bg (bg (bg hd rfl) rfl) rfl)) (by exact bT rfl (bT (bT (bT hc rfl) rfl) rfl)) rfl rfl ?_
 refine eJ rfl (dF rfl (aD (aC (az (bU rfl rfl ?_)))))
 all_goals skip
 exact av rfl rfl (congrArg Ty.bool (sV q l))
set_option maxRecDepth 100000 in
theorem vf (l : List Span) (t : Ty) (h1 : t.one = true) (q : Span → Bool) (hd : t.deps = []) (hc : t.cdeps = []) (hf : ∀ x ∈ l, pJ Tryz.prog t [Ty.agg (cA.tys x)] (Ty.bool (q x))) : dK Tryz.prog 38 [Ty.sl cA l, t] (Ty.int .i64 (fidx q l)) := by
 refine au Tryz.func38 rfl (by decide) Tryz.ntmps38 (by exact Nat.le_of_ble_eq_true rfl) fun w0 M0 => ?_
 refine gP (s := 0) rfl rfl gO fun hl => ?_
 refine aE (aB (bZ rfl (aD (aC (aE (aE (aB (ew rfl (b9 rfl rfl rfl ?_)))))))))
 refine bG rfl (aD (aC (aZ ?_)))
 refine bz (fun (k : {k : Nat // ∀ x ∈ l.take k, q x = false}) => live [(0, Ty.sl cA l), (1, t), (7, Ty.int .i64 l.length), (8, Ty.int .i64 (k.1 : Nat))] []) (fun k => l.length - k.1) (⟨0, by simp⟩) ?_ fun k => ?_
 ·(refine cV.mk' ?_ ?_ <;> (repeat' (first | exact aH | exact aI | refine aA ?_ (Ty.aT _) | refine aA ?_ (Ty.aF _))))
 refine aE (aB (bA rfl rfl rfl (aD (aC (aE ?_)))))
 refine ah rfl (fun hc1 => ?_) (fun hc1 => ?_)
 ·
  refine af (aC (aE (aZ (aE (aB (bG rfl (bZ rfl (aD (aC ?_)))))))))
  refine aE (aB ?_)
  refine eL (ty := t) rfl ?_
  refine ew rfl (bG rfl ?_)
  refine aq rfl rfl rfl rfl rfl rfl (by omega) ?_
  refine aY rfl rfl rfl (by exact Nat.le_of_ble_eq_true rfl) ?_
  refine fC rfl (hf _ (cT (by omega))) rfl ?_
  refine aD (aC ?_)
  refine cF rfl (fun hc2 => ?_) (fun hc2 => ?_)
  ·
   refine aE (aB (bG rfl (bZ rfl (aD (aC (az (bB (aS (aS ?_)))))))))
   refine bB (aS (bU rfl rfl ?_))
   all_goals skip
   exact av rfl rfl (congrArg (Ty.int .i64) (iQ (by omega) k.2 (by rw [← gA]; exact hc2)).symm)
  refine af (bI (aC (aB ?_)))
  refine bp rfl rfl (by omega) (by omega) ?_
  refine bG rfl (aD ?_)
  refine bL (⟨k.1 + 1, by rw [cR (by omega)]; intro x hx; rcases List.mem_append.1 hx with h | h; exact k.2 x h; rw [List.mem_singleton.1 h]; exact hc2⟩) ?_ (by show l.length - (k.1 + 1) < l.length - k.1; omega)
  (refine cV.mk' ?_ ?_ <;> (repeat' (first | exact aH | exact aI | refine aA ?_ (Ty.aT _) | refine aA ?_ (Ty.aF _))))
  all_goals skip
 refine b8 (aQ (aQ (aa rfl (aC (aE (aB (bZ rfl (aD (aC ?_)))))))))
 refine az (bU rfl rfl ?_)
 all_goals skip
 exact av rfl rfl (congrArg (Ty.int .i64) (jE (by have := k.2; rwa [List.take_of_length_le (by omega)] at this)).symm)
end Go.Proofs.YtelbollidfdcjaaGreat
