/- Lemmas: the program and the reference walked, plain laws. -/
import Derived.Test.YtmmcenjknimhbaaGreatZa
namespace Go.Proofs.YtmmcenjknimhbaaGreat
open Go Go.T
structure Kk where
  f : bS
  before : List Nat
  adds : List Int
  first : List Int
def fk (b : Kk) : List Ty := cv b.f ++ (b.before.flatMap zA.tys ++ (b.adds.flatMap dN.tys ++ b.first.flatMap dN.tys))
structure Kk.yh (b : Kk) : Prop where
  before : b.before.length = 8
  adds : b.adds.length = 32
  first : b.first.length = 4
theorem Ep : ∀ xs : List Nat, xs.flatMap zA.tys = xs.map fun n => Ty.int .i64 (n : Nat)
  | [] => rfl
  | x :: xs => by rw [List.flatMap_cons, Ep xs]; rfl
theorem wJ : ∀ xs : List Int, xs.flatMap dN.tys = xs.map fun n => Ty.int .i64 n
  | [] => rfl
  | x :: xs => by rw [List.flatMap_cons, wJ xs]; rfl
theorem jL (b : Kk) : fk b = cv b.f ++ ((b.before.map fun n => Ty.int .i64 (n : Nat)) ++ ((b.adds.map fun n => Ty.int .i64 n) ++ b.first.map fun n => Ty.int .i64 n)) := by
 unfold fk; rw [Ep, wJ, wJ]
theorem Eu {α : Type} [Inhabited α] {l : List α} (g : α → Ty) {k : Nat} (h : k < l.length) : (l.map g)[k]? = some (g (nth l k)) := by
 rw [List.getElem?_map, List.getElem?_eq_getElem h, cE h]; rfl
theorem ep (f : bS) : (cv f).length = 4 := rfl
theorem AQ {b : Kk} (h : b.yh) {i : Nat} (hi : i < 8) : (fk b)[4 + i]? = some (Ty.int .i64 (nth b.before i : Nat)) := by
 rw [jL, List.getElem?_append_right (by rw [ep]; omega), ep, List.getElem?_append_left (by simp [h.before]; omega), show 4 + i - 4 = i by omega]
 exact Eu _ (by rw [h.before]; exact hi)
theorem F4 {b : Kk} (h : b.yh) {i : Nat} (hi : i < 32) : (fk b)[12 + i]? = some (Ty.int .i64 (nth b.adds i)) := by
 rw [jL, List.getElem?_append_right (by rw [ep]; omega), ep, List.getElem?_append_right (by simp [h.before]; omega), List.getElem?_append_left (by simp [h.before, h.adds]; omega)]
 simp only [List.length_map, h.before]
 rw [show 12 + i - 4 - 8 = i by omega]
 exact Eu _ (by rw [h.adds]; exact hi)
theorem xG {b : Kk} (h : b.yh) {i : Nat} (hi : i < 4) : (fk b)[44 + i]? = some (Ty.int .i64 (nth b.first i)) := by
 rw [jL, List.getElem?_append_right (by rw [ep]; omega), ep, List.getElem?_append_right (by simp [h.before]; omega), List.getElem?_append_right (by simp [h.before, h.adds]; omega)]
 simp only [List.length_map, h.before, h.adds]
 rw [show 44 + i - 4 - 8 - 32 = i by omega]
 exact Eu _ (by rw [h.first]; exact hi)
theorem Qp {b : Kk} (h : b.yh) : (fk b).length = 48 := by rw [jL]; simp [ep, h.before, h.adds, h.first]
theorem E1 {b : Kk} (h : b.yh) {i : Nat} (hi : i < 32) (v : Int) : (fk b).set (12 + i) (Ty.int .i64 v) = fk { b with adds := b.adds.set i v } := by
 rw [jL, jL, List.set_append_right _ _ (by rw [ep]; omega), ep, List.set_append_right _ _ (by simp [h.before]; omega), List.set_append_left _ _ (by simp [h.before, h.adds]; omega)]
 simp only [List.length_map, h.before]
 rw [show 12 + i - 4 - 8 = i by omega, List.map_set]
theorem Bx {b : Kk} (h : b.yh) {i : Nat} (hi : i < 4) (v : Int) : (fk b).set (44 + i) (Ty.int .i64 v) = fk { b with first := b.first.set i v } := by
 rw [jL, jL, List.set_append_right _ _ (by rw [ep]; omega), ep, List.set_append_right _ _ (by simp [h.before]; omega), List.set_append_right _ _ (by simp [h.before, h.adds]; omega)]
 simp only [List.length_map, h.before, h.adds]
 rw [show 44 + i - 4 - 8 - 32 = i by omega, List.map_set]
def xD (f : bS) : Bool := (List.range 8).any fun t => (nth (gm f) t).testBit t
def bk (f : bS) : Int := if ia f ≠ 0 then ia f else if xD f then 7 else 0
def e9 (f : bS) (bad : Bool) : Int := if bk f ≠ 0 then bk f else if bad then 1 else 0
structure bS.dh (f : bS) : Prop where
  ranged : f.iy
  named : f.Dj
  ruled : f.jQ
theorem qw {f : bS} (h : ia f = 0) : f.dh := by
 unfold ia at h
 split at h
 ·cases h
 rename_i h1
 split at h
 ·cases h
 rename_i h2
 split at h
 ·cases h
 rename_i h3
 split at h
 ·cases h
 rename_i h4
 have hr := vE (Bool.eq_false_iff.2 h1) (Bool.eq_false_iff.2 h2) (Bool.eq_false_iff.2 h3)
 have h4 := Bool.eq_false_iff.2 h4
 simp only [qH, Bool.or_eq_false_iff, Bool.not_eq_false', List.all_eq_true, Bool.and_eq_true] at h4
 refine ⟨hr, fun t ht => ?_, ⟨hr.turnings, fun r hr => ?_⟩⟩
 ·have := fH (h4.1 t ht).1; have := fH (h4.1 t ht).2; omega
 have := fH (h4.2 r hr).1; have := fH (h4.2 r hr).2; omega
theorem cB {f : bS} (h : bk f = 0) : f.dh := by
 unfold bk at h
 split at h
 ·exact absurd h ‹_›
 exact qw (Classical.byContradiction fun e => ‹¬ ia f ≠ 0› e)
theorem k8 {f : bS} (hf : f.jQ) : Sets (gm f) := by
  have : ∀ n out, Sets out → Sets (mR f n out) := by
    intro n
    induction n with
    | zero => intro out h; exact h
    | succ n ih => intro out h; rw [mR]; split
                   · exact h
                   · exact ih _ (nE f.rules out h (uT hf)).1
  exact this _ _ ue
def iw (f : bS) (bin : Int) (b : Nat) : Int := if bin = -1 then 0 else nth (nth f.bins bin.toNat).shares b
def xL (f : bS) (t b : Nat) : Int := (nth f.turnings t).sacks * (iw f (nth f.turnings t).dst b - iw f (nth f.turnings t).src b)
def gW (f : bS) (b q : Nat) : Int := ((f.bins.take q).map fun x => x.has * nth x.shares b).sum
def AG (f : bS) (k a j : Nat) : Int := if j / 4 < f.turnings.length ∧ (j % 4 < k ∨ (j % 4 = k ∧ j / 4 < a)) then xL f (j / 4) (j % 4) else 0
def mG (f : bS) (k q j : Nat) : Int := if j < k then gW f j f.bins.length else if j = k then gW f k q else 0
def oy (f : bS) (k q a : Nat) : Kk := { f := f, before := gm f, adds := (List.range 32).map (AG f k a), first := (List.range 4).map (mG f k q) }
theorem qR {f : bS} (hf : f.jQ) (k q a : Nat) : (oy f k q a).yh := ⟨(k8 hf).len, by simp [oy], by simp [oy]⟩
theorem o8 {α : Type} (n i : Nat) (g g' : Nat → α) (v : α) (h : ∀ j, j < n → g' j = if j = i then v else g j) : ((List.range n).map g).set i v = (List.range n).map g' := by
 apply List.ext_getElem?
 intro j
 rw [List.getElem?_set]
 by_cases e : i = j
 ·subst e
  by_cases hi : i < n
  ·simp [hi, h i hi]
  simp [hi]
 rw [if_neg e]
 simp only [List.getElem?_map]
 by_cases hj : j < n
 ·rw [List.getElem?_range hj]; simp only [Option.map_some]; rw [h j hj, if_neg (fun x => e x.symm)]
 rw [List.getElem?_eq_none (by simpa using hj)]; rfl
theorem rZ (f : bS) (b : Nat) {q : Nat} (h : q < f.bins.length) : gW f b (q + 1) = gW f b q + (nth f.bins q).has * nth (nth f.bins q).shares b := by
 unfold gW
 rw [bh h, List.map_append, List.sum_append]; simp
theorem IL {f : bS} {k q a : Nat} (hk : k < 4) : nth (oy f k q a).first k = gW f k q := by
 show nth ((List.range 4).map (mG f k q)) k = _
 rw [cy _ hk]; simp [mG]
theorem BG {f : bS} (hf : f.jQ) {k q a : Nat} (hk : k < 4) (hq : q < f.bins.length) :
 (fk (oy f k q a)).set (44 + k) (Ty.int .i64 (gW f k q + (nth f.bins q).has * nth (nth f.bins q).shares k)) = fk (oy f k (q + 1) a) := by
 rw [Bx (qR hf k q a) hk, ← rZ f k hq]
 have e : (oy f k q a).first.set k (gW f k (q + 1)) = (oy f k (q + 1) a).first := o8 4 k (mG f k q) (mG f k (q + 1)) _ fun j _ => by
  unfold mG
  by_cases e : j = k
  ·subst e; simp
  simp [e]
 show fk ⟨f, gm f, _, (oy f k q a).first.set k (gW f k (q + 1))⟩ = _
 rw [e]; rfl
theorem CN {f : bS} (hf : f.jQ) {k q a : Nat} (hk : k < 4) (ha : a < f.turnings.length) :
 (fk (oy f k q a)).set (12 + (a * 4 + k)) (Ty.int .i64 (xL f a k)) = fk (oy f k q (a + 1)) := by
 have h8 := hf.1
 rw [E1 (qR hf k q a) (by omega)]
 have e : (oy f k q a).adds.set (a * 4 + k) (xL f a k) = (oy f k q (a + 1)).adds := o8 32 (a * 4 + k) (AG f k a) (AG f k (a + 1)) _ fun j _ => by
  unfold AG
  by_cases e : j = a * 4 + k
  ·subst e
   rw [if_pos rfl, if_pos ⟨by omega, .inr ⟨by omega, by omega⟩⟩, show (a * 4 + k) / 4 = a by omega, show (a * 4 + k) % 4 = k by omega]
  rw [if_neg e]
  by_cases h1 : j / 4 < f.turnings.length ∧ (j % 4 < k ∨ (j % 4 = k ∧ j / 4 < a))
  ·rw [if_pos h1, if_pos (by omega)]
  rw [if_neg h1, if_neg (by omega)]
 unfold oy at e ⊢
 simp only at e ⊢
 rw [e]
theorem K4 (f : bS) (k : Nat) : oy f k f.bins.length f.turnings.length = oy f (k + 1) 0 0 := by
 unfold oy
 congr 1
 ·refine List.map_congr_left fun j _ => ?_
  unfold AG
  by_cases h1 : j / 4 < f.turnings.length ∧ (j % 4 < k ∨ (j % 4 = k ∧ j / 4 < f.turnings.length))
  ·rw [if_pos h1, if_pos (by omega)]
  rw [if_neg h1, if_neg (by omega)]
 refine List.map_congr_left fun j _ => ?_
 unfold mG
 by_cases h1 : j < k
 ·rw [if_pos h1, if_pos (by omega)]
 rw [if_neg h1]
 by_cases h2 : j = k
 ·subst h2; rw [if_pos rfl, if_pos (by omega)]
 rw [if_neg h2, if_neg (by omega)]
 by_cases h3 : j = k + 1
 ·subst h3; rw [if_pos rfl]; simp [gW]
 rw [if_neg h3]
theorem Lf (f : bS) : oy f 0 0 0 = { f := f, before := gm f, adds := List.replicate 32 0, first := List.replicate 4 0 } := by
 unfold oy
 congr 1
 ·refine List.ext_getElem? fun j => ?_
  simp only [List.getElem?_map, List.getElem?_replicate]
  by_cases h : j < 32
  ·rw [List.getElem?_range h, if_pos h]; simp [AG]
  rw [List.getElem?_eq_none (by simpa using h), if_neg h]; rfl
theorem Tv {a c : Int} {A : Int} (ha : 0 ≤ a ∧ a ≤ A) (hc : 0 ≤ c ∧ c ≤ 4) : 0 ≤ a * c ∧ a * c ≤ 4 * A := by
 have : c = 0 ∨ c = 1 ∨ c = 2 ∨ c = 3 ∨ c = 4 := by omega
 rcases this with rfl | rfl | rfl | rfl | rfl <;> omega
theorem Us {a c : Int} {A : Int} (ha : 0 ≤ a ∧ a ≤ A) (hc : -4 ≤ c ∧ c ≤ 4) : -(4 * A) ≤ a * c ∧ a * c ≤ 4 * A := by
 have : c = -4 ∨ c = -3 ∨ c = -2 ∨ c = -1 ∨ c = 0 ∨ c = 1 ∨ c = 2 ∨ c = 3 ∨ c = 4 := by omega
 rcases this with rfl | rfl | rfl | rfl | rfl | rfl | rfl | rfl | rfl <;> omega
theorem mZ {f : bS} (hr : f.iy) (b : Nat) : ∀ q, q ≤ f.bins.length → 0 ≤ gW f b q ∧ gW f b q ≤ 1200 * q
  | 0, _ => by simp [gW]
  | q + 1, h => by
    rw [rZ f b h]
    have h1 := mZ hr b q (by omega)
    have h2 := Tv (hr.hasR _ (bL h)) (oU hr (b := b) h)
    omega
theorem mj {f : bS} (hr : f.iy) {i : Int} (hi : -1 ≤ i ∧ i < f.bins.length) (b : Nat) : 0 ≤ iw f i b ∧ iw f i b ≤ 4 := by
 unfold iw
 split
 ·omega
 exact oU hr (by omega)
theorem zm {f : bS} (hr : f.iy) (hn : f.Dj) {t : Nat} (ht : t < f.turnings.length) (b : Nat) : -1200 ≤ xL f t b ∧ xL f t b ≤ 1200 := by
 have h1 := hn _ (bL ht)
 have h2 := mj hr h1.1 b
 have h3 := mj hr h1.2 b
 have h4 := hr.sacksR _ (bL ht)
 exact Us (A := 300) (by omega) (by omega)
abbrev SB := { b : Kk // b.yh }
theorem sL {l l' : List Ty} : bp (l ++ l') = bp l ++ bp l' := by simp [bp]
theorem qU {l l' : List Ty} : bU (l ++ l') = bU l ++ bU l' := by simp [bU]
theorem OR (b : Kk) : bp (fk b) = [] := by unfold fk; rw [sL, sL, sL, El.cT, El.cT, El.cT]; rfl
theorem Lh (b : Kk) : bU (fk b) = [] := by unfold fk; rw [qU, qU, qU, El.cL, El.cL, El.cL]; rfl
def fF : El SB := ⟨48, fun b => fk b.1, fun b => Qp b.2, fun b => OR b.1, fun b => Lh b.1, fun b => by
  rw [List.all_eq_true]
  intro t ht
  unfold fk at ht
  simp only [List.mem_append] at ht
  rcases ht with h | h | h | h
  · simp only [cv, List.mem_cons, List.not_mem_nil, or_false] at h
    rcases h with rfl | rfl | rfl | rfl <;> rfl
  · exact lD _ _ t h
  · exact lD _ _ t h
  · exact lD _ _ t h⟩
def FT (f : bS) (hf : f.jQ) (k q a : Nat) : SB := ⟨oy f k q a, qR hf k q a⟩
def U0 (f : bS) (hf : f.jQ) : SB := FT f hf f.bears.length 0 0
theorem CM {f : bS} {hf : f.jQ} {k q a : Nat} (hk : k < 4) : (fF.tys (FT f hf k q a))[0 + 44 + k * 1]? = some (Ty.int .i64 (gW f k q)) := by
 rw [show 0 + 44 + k * 1 = 44 + k by omega]
 exact (xG (qR hf k q a) hk).trans (by rw [IL hk])
theorem Dy {f : bS} {hf : f.jQ} {k q a : Nat} (hk : k < 4) (hq : q < f.bins.length) :
 (fF.tys (FT f hf k q a)).set (0 + 44 + k * 1) (Ty.int .i64 (gW f k q + (nth f.bins q).has * nth (nth f.bins q).shares k)) = fF.tys (FT f hf k (q + 1) a) := by
 rw [show 0 + 44 + k * 1 = 44 + k by omega]
 exact BG hf hk hq
theorem F3 {f : bS} {hf : f.jQ} {k q a : Nat} (hk : k < 4) (ha : a < f.turnings.length) :
 (fF.tys (FT f hf k q a)).set (0 + 12 + a * 4 + k * 1) (Ty.int .i64 (xL f a k)) = fF.tys (FT f hf k q (a + 1)) := by
 rw [show 0 + 12 + a * 4 + k * 1 = 12 + (a * 4 + k) by omega]
 exact CN hf hk ha
theorem QD (f : bS) (hf : f.jQ) (k : Nat) : FT f hf k f.bins.length f.turnings.length = FT f hf (k + 1) 0 0 := Subtype.ext (K4 f k)
theorem VK {α : Type} {l : List α} (h : l.length = 8) : ∃ a b c d e f g i, l = [a, b, c, d, e, f, g, i] := by
  match l, h with
  | [a, b, c, d, e, f, g, i], _ => exact ⟨a, b, c, d, e, f, g, i, rfl⟩
theorem P2 (f : bS) (hf : f.jQ) (place : Nat → Option (Nat × Nat)) (h0 : place 0 = some (0, 4)) (h1 : place 1 = some (4, 8)) :
 rC place ((List.replicate 4 (Ty.ex (.slice none 0 0))) ++ List.replicate 44 (Ty.int .i64 0)) [(0, cv f), (1, (gm f).flatMap zA.tys)] = some (fF.tys (FT f hf 0 0 0)) := by
 have hl : ((gm f).flatMap zA.tys).length = 8 := by rw [Ep, List.length_map, (k8 hf).len]
 have e : fF.tys (FT f hf 0 0 0) = cv f ++ ((gm f).flatMap zA.tys ++ (List.replicate 36 (Ty.int .i64 0))) := by
  show fk (oy f 0 0 0) = _
  rw [Lf]; rfl
 rw [e]
 obtain ⟨a, b, c, d, x, y, g, i, h⟩ := VK hl
 rw [h]
 simp only [rC, h0, h1]
 rfl
end Go.Proofs.YtmmcenjknimhbaaGreat
namespace Go.T
open Go Go.RowKit
section
variable {P : Program} {fr : Fr} {ops : Array Oper} {A : As} {rest : List Oper} {K : As → List (As × Fx) → Prop} {d : Nat} {t ty' ty2 : TypeId} {p : String} {e : Array Edge} [T : lV P]
variable {α : Type} [Inhabited α] {E : El α} {xs ys : List α} {x y : Operand} {tg i o s Tb : Nat} {ti : TI} {ty : Ty} {z : α}
theorem l8 (hx : A.op fr x = .ptr tg 0) (hc : A.tag tg = some (.vec E Tb xs)) (h1 : ga tg) (hT : T.tab[ty']? = some ti) (ha : ti.k.agg = true) (hsz : xs.length * E.size = ti.size) (hne : xs ≠ [])
 (h : aV P fr ops rest (A.set d (.arr E xs)) fun A' l' => K A' ((A, { d := some d, ty := .arr E xs, rs := bq x, rt := [tg] }) :: l')) : aV P fr ops (⟨some d, .load ty' x, t, p, e, none⟩ :: rest) A K :=
 bD (bQ rfl rfl fun a w M wf hr ht => by
  have _ := (inferInstance : Inhabited α)
  have := cA (x := x) (fun _ h => h) hr
  rw [hx] at this
  obtain ⟨b, hb, e⟩ := this
  rcases qF hc w M ht with h0 | ⟨b', cs, hb', hh, hd⟩
  ·exact absurd h0 hne
  obtain ⟨u, rfl⟩ : ∃ u, tg = u + 1 := ⟨tg - 1, by omega⟩
  have := wf.inj b b' u (by omega) hb hb'
  subst this
  have hlen := cI hd
  rw [c6] at hlen hd
  refine ⟨.agg (cs.toList.take (xs.length * E.size)).toArray, ?_, _, rfl, by simpa using hd⟩
  have := jx (P := P) hT ha (w := w) (b := b) (off := 0) (cs := cs.toList.take (xs.length * E.size)) (by rw [hlen, hsz]) (fun j v hj => by
   rw [List.getElem?_take] at hj
   split at hj
   ·simpa [World.cell?, hh] using hj
   cases hj)
  simp [execOp, e, this]) h
theorem Nn {n j : Nat} {k : IntKind} {te : TI} {el : Nat} (hx : A.op fr x = .arr E xs) (hy : A.op fr y = .int k j) (hT : T.tab[ty']? = some ti) (hk : ti.k = .array n el) (hE : T.tab[el]? = some te) (ha : te.k.agg = false) (hs : te.size = E.size) (h1 : j < n) (hi : j < xs.length) (hl : (E.tys (nth xs j))[0]? = some ty)
 (h : aV P fr ops rest (A.set d ty) fun A' l' => K A' ((A, { d := some d, ty := ty, rs := bq x ++ bq y }) :: l')) : aV P fr ops (⟨some d, .index ty' x y, t, p, e, none⟩ :: rest) A K :=
 bD (bQ rfl rfl fun a w M _ hr _ => by
  obtain ⟨hdx, hdy⟩ := op2 hr
  rw [hx] at hdx; rw [hy] at hdy
  obtain ⟨cs, ex, hd⟩ := hdx
  have ey : a.eval y = .int k j := hdy
  obtain ⟨v, hv, hdv⟩ := dQ hd (j * te.size) ty (by have := kW E xs hi 0 ty hl; rwa [Nat.add_zero, ← hs] at this)
  obtain ⟨_, D, _, hD, hkd, _⟩ := dM hT
  rw [hk] at hkd
  cases D <;> simp only [TK.of, reduceCtorEq, TK.array.injEq] at hkd
  obtain ⟨e1, e2⟩ := hkd
  subst e1; subst e2
  have hv' : cs[j * te.size]? = some v := by simpa using hv
  exact ⟨v, by simp [execOp, Instr.index, asIntOf, ex, ey, run_underlying hD, cJ hE, part, uw hE, ha, hv', h1], hdv⟩) h
omit T in
theorem S3 {c : Bool} (hE : VX P ty' (xs.flatMap E.tys) (ys.flatMap E.tys) c) (hx : A.op fr x = .arr E xs) (hy : A.op fr y = .arr E ys)
 (h : aV P fr ops rest (A.set d (.bool c)) fun A' l' => K A' ((A, { d := some d, ty := .bool c, rs := bq x ++ bq y }) :: l')) : aV P fr ops (⟨some d, .binOp .eql ty' x y ty2, t, p, e, none⟩ :: rest) A K :=
 bD (bQ rfl rfl fun a w M _ hrd _ => by
  have _ := (inferInstance : Inhabited α)
  obtain ⟨hdx, hdy⟩ := op2 hrd
  rw [hx] at hdx; rw [hy] at hdy
  obtain ⟨cs, ex, h1⟩ := hdx
  obtain ⟨ds, ey, h2⟩ := hdy
  exact ⟨.bool c, by simp only [execOp, ex, ey]; simp [eqGuard, hE.1, binOp, hE.2 w M cs ds h1 h2], rfl⟩) h
theorem jr {l : List Ty} (hx : A.op fr x = .ptr tg 0) (hc : A.tag tg = some (.cells Tb l)) (h1 : ga tg) (hT : T.tab[ty']? = some ti) (hy : A.op fr y = .arr E xs) (hsz : xs.length * E.size = ti.size) (hlen : l.length = ti.size)
 (h : aV P fr ops rest (A.after { d := none, S := [tg], sets := [(tg, .vec E Tb xs)], rs := bq x ++ bq y, rt := [tg] }) fun A' l'' => K A' ((A, { d := none, S := [tg], sets := [(tg, .vec E Tb xs)], rs := bq x ++ bq y, rt := [tg] }) :: l'')) :
 aV P fr ops (⟨none, .store ty' x y, t, p, e, none⟩ :: rest) A K := by
 have _ := (inferInstance : Inhabited α)
 refine ⟨_, lZ rfl rfl rfl (by simp) (by simpa using h1.1) (by simp) fun a w M wf hr ht => ?_, h⟩
 obtain ⟨hdx, hdy⟩ := op2 hr
 rw [hx] at hdx; rw [hy] at hdy
 obtain ⟨b, hb, ex⟩ := hdx
 obtain ⟨vs, ey, hvs⟩ := hdy
 obtain ⟨b', cs, hb', hh, hd⟩ := ht _ (dA hc) (by simp)
 obtain ⟨u, rfl⟩ : ∃ u, tg = u + 1 := ⟨tg - 1, by omega⟩
 have := wf.inj b b' u (by omega) hb hb'
 subst this
 have hl1 := cI hd
 have hl2 := cI hvs
 rw [c6] at hl2
 obtain ⟨h1', h2', h3'⟩ := jZ (cs' := vs) (Tb := Tb) wf hb _ rfl
 have hones : ∀ v ∈ vs.toList, v.oneCell' = true := sP hvs (lD E xs)
 refine ⟨_, ?_, M, h1', h2', trivial, ?_⟩
 ·have hst := jj (P := P) (w := w) (b := b) (Tb := Tb) vs.toList [] cs hh (by simp at hl1 hl2 ⊢; omega) (by simp) hones
  have hsz' : vs.size = ti.size := by simp at hl2; omega
  simp only [List.length_nil, List.nil_append] at hst
  simp [execOp, Instr.storeAt, Instr.sureAddr, ex, ey, storeVar, Value.cells, cJ hT, hsz', hst]
 intro z hz
 simp only [List.mem_singleton] at hz
 subst hz
 exact Ef ⟨b, vs, hb, h3', bY h2' (by intro _ _ h; cases h) (by rw [E.cL]; intro _ h; cases h) hvs⟩
end
section
variable {P : Program} {A : As} {fn : Func} {n : Nat} {w0 : World} {M0 : az} [T : lV P]
theorem NN {α : Type} {E : El α} {xs : List α} {tm ty tg Tb : Nat} {ti : TI} (hr : fn.results = #[.cell tm ty]) (ht : Nat.blt tm n = true) (hx : A.slots tm = .ptr tg 0) (hc : A.tag tg = some (.vec E Tb xs)) (h1 : ga tg) (hT : T.tab[ty]? = some ti) (ha : ti.k.agg = true) (hsz : xs.length * E.size = ti.size) (hne : xs ≠ []) :
 cU ⟨n, w0, M0, [], .plain⟩ A (bodyPost P fn (mz w0 M0 (.arr E xs)) .ret) := by
 intro a w ⟨M, ok, hsl, htg⟩
 have hd := hsl tm (by simpa using ht)
 rw [hx] at hd
 obtain ⟨b, hb, e⟩ := hd
 have hv : dc E Tb xs w M tg := htg _ (dA hc)
 rcases hv with h0 | ⟨b', cs, hb', hh, hds⟩
 ·exact absurd h0 hne
 obtain ⟨u, rfl⟩ : ∃ u, tg = u + 1 := ⟨tg - 1, by omega⟩
 have := ok.wf.inj b b' u (by omega) hb hb'
 subst this
 have hlen := cI hds
 rw [c6] at hlen hds
 have hload := jx (P := P) hT ha (w := w) (b := b) (off := 0) (cs := cs.toList.take (xs.length * E.size)) (by rw [hlen, hsz]) (fun j v hj => by
  rw [List.getElem?_take] at hj
  split at hj
  ·simpa [World.cell?, hh] using hj
  cases hj)
 have hload' : (loadVar ty ⟨b, 0, none⟩).run P w = .ok (.agg (cs.toList.take (xs.length * E.size)).toArray) w := by simpa [Instr.loadAt, Instr.sureAddr] using hload
 refine ⟨ok.ig (by simp), .agg (cs.toList.take (xs.length * E.size)).toArray, ?_, _, q4 M, rfl, vC ok.wf, rN (fr := ⟨n, w0, M0, [], .plain⟩) (fun _ h => h) ok.base, (bN rfl rfl : gS (Ty.arr E xs) (Ty.arr E xs)) _ _ _ ok.wf ⟨_, rfl, by simpa using hds⟩⟩
 have e' : a.tmps.getD tm undef = .pointer (some ⟨b, 0, none⟩) := e
 have e'' : a.tmps[tm]?.getD undef = .pointer (some ⟨b, 0, none⟩) := by rw [← Array.getD_eq_getD_getElem?]; exact e'
 simp [results, hr, e'', asAddr, hload']
end
section
variable {P : Program} {fr : Fr} {ops : Array Oper} {A : As} {rest : List Oper} {K : As → List (As × Fx) → Prop} {d : Nat} {t ty' ty2 : TypeId} {p : String} {e : Array Edge} {x y : Operand}
theorem E8 {a : Nat} {b : Int} (hx : A.op fr x = .int .i64 (a : Nat)) (hy : A.op fr y = .int .i64 b) (h0 : 0 ≤ b) (h1 : b ≤ 63) (h2 : a <<< b.toNat < 9223372036854775808)
 (h : aV P fr ops rest (A.set d (.int .i64 ((a <<< b.toNat : Nat) : Int))) fun A' l' => K A' ((A, { d := some d, ty := .int .i64 ((a <<< b.toNat : Nat) : Int), rs := bq x ++ bq y }) :: l')) : aV P fr ops (⟨some d, .binOp .shl ty' x y ty2, t, p, e, none⟩ :: rest) A K :=
 nx (b := b.toNat) hx (by rw [hy, Int.toNat_of_nonneg h0]) (by omega) h2 h
end
end Go.T
namespace Go.T
open Go Go.RowKit
structure Re (ρ : List (Nat × Nat)) (M M' : az) : Prop where
  none : ∀ b, M b = none → M' b = none
  some : ∀ x ∈ ρ, ∀ b, M b = some x.1 → M' b = some x.2
def Conv (ρ : List (Nat × Nat)) (s t : Ty) : Prop := ∀ w M M' v, Wf w M → Wf w M' → Re ρ M M' → s.den w M v → t.den w M' v
def yO (ρ : List (Nat × Nat)) : List Ty → List Ty → Prop
  | [], [] => True
  | s :: ss, t :: ts => Conv ρ s t ∧ yO ρ ss ts
  | _, _ => False
theorem fC {ρ : List (Nat × Nat)} : yO ρ [] [] := trivial
theorem dD {ρ : List (Nat × Nat)} {s t : Ty} {ss ts : List Ty} (h' : yO ρ ss ts) (h : Conv ρ s t) : yO ρ (s :: ss) (t :: ts) := ⟨h, h'⟩
theorem uO {ρ : List (Nat × Nat)} {w : World} {M M' : az} (wf : Wf w M) (wf' : Wf w M') (hre : Re ρ M M') : ∀ {ss ts : List Ty} {vs : List Value}, yO ρ ss ts → cD w M ss vs → cD w M' ts vs
  | [], [], [], _, _ => trivial
  | _ :: _, _ :: _, _ :: _, ⟨h, h'⟩, ⟨h1, h2⟩ => ⟨h _ _ _ _ wf wf' hre h1, uO wf wf' hre h' h2⟩
theorem cP {ρ : List (Nat × Nat)} {t : Ty} (h1 : t.deps = []) (h2 : t.cdeps = []) : Conv ρ t t := fun w M M' v _ _ hre h =>
 t.mono (S := fun _ => True) (K := fun _ => True) ⟨Nat.le_refl _, rfl, rfl, rfl, fun b _ hm => ⟨hre.none b hm, rfl⟩, fun b t _ h => absurd trivial h⟩ (by rw [h1]; intro _ h; cases h) (by rw [h2]; intro _ h; cases h) h
theorem Ub {ρ : List (Nat × Nat)} {s t : Ty} (h1 : t.deps = []) (h2 : t.cdeps = []) (h : s = t) : Conv ρ s t := by subst h; exact cP h1 h2
theorem fS {ρ : List (Nat × Nat)} {a b off : Nat} (h : (a, b) ∈ ρ) : Conv ρ (.ptr a off) (.ptr b off) := fun _ _ _ _ _ _ hre ⟨k, hk, e⟩ => ⟨k, hre.some _ h k hk, e⟩
theorem Ct {ρ : List (Nat × Nat)} {a b n : Nat} (h : (a, b) ∈ ρ) : Conv ρ (.vs a n) (.vs b n) := fun _ _ _ _ _ _ hre hv =>
 hv.imp id fun ⟨k, c, hk, e, h1, h2⟩ => ⟨k, c, hre.some _ h k hk, e, h1, h2⟩
theorem Nm {ρ : List (Nat × Nat)} {l l' : List Ty} (h : yO ρ l l') : Conv ρ (.agg l) (.agg l') := fun _ _ _ _ wf wf' hre ⟨cs, e, hd⟩ => ⟨cs, e, uO wf wf' hre h hd⟩
def yZ (ρ : List (Nat × Nat)) (a : Nat) (C : Cont) (b : Nat) (D : Cont) : Prop := ∀ w M M', Wf w M → Wf w M' → Re ρ M M' → C.den w M a → D.den w M' b
theorem oH {w : World} {M M' : az} (hre : ∀ b, M b = none → M' b = none) {l : List Ty} {vs : List Value} (h1 : bp l = []) (h2 : bU l = []) (h : cD w M l vs) : cD w M' l vs :=
 bY (S := fun _ => True) (K := fun _ => True) ⟨Nat.le_refl _, rfl, rfl, rfl, fun b _ hm => ⟨hre b hm, rfl⟩, fun b t _ h => absurd trivial h⟩ (by rw [h1]; intro _ h; cases h) (by rw [h2]; intro _ h; cases h) h
theorem xC {ρ : List (Nat × Nat)} {a b T : Nat} {α : Type} {E : El α} {xs ys : List α} (h : (a, b) ∈ ρ) (e : xs = ys) : yZ ρ a (.vec E T xs) b (.vec E T ys) := fun _ _ _ _ _ hre hd => by
 subst e
 exact hd.imp id fun ⟨k, cs, h1, h2, h3⟩ => ⟨k, cs, hre.some _ h k h1, h2, oH hre.none (E.cT _) (E.cL _) h3⟩
theorem bB {ρ : List (Nat × Nat)} {a b T : Nat} {l l' : List Ty} (h : (a, b) ∈ ρ) (h1 : bp l' = []) (h2 : bU l' = []) (e : l = l') : yZ ρ a (.cells T l) b (.cells T l') := fun _ _ _ _ _ hre ⟨k, cs, h3, h4, h5⟩ => by
 subst e
 exact ⟨k, cs, hre.some _ h k h3, h4, oH hre.none h1 h2 h5⟩
def bW (F : List Nat) (post : List (Nat × Cont)) (w0 : World) (M0 : az) (res : Ty) (e : Ending) (w' : World) : Prop :=
  ∃ r M', e = .returned r ∧ Wf w' M' ∧ Le (fun t => 1 ≤ t) (fun t => 1 ≤ t ∧ t ∉ F) w0 M0 w' M' ∧ res.den w' M' r ∧ ∀ x ∈ post, x.2.den w' M' x.1
def eB (P : Program) (f : FuncId) (F : List Nat) (pre : List (Nat × Cont)) (args : List Ty) (post : List (Nat × Cont)) (res : Ty) : Prop :=
  (∃ fn, P.funcs[f]? = some fn ∧ (fn.name == "runtime.NumGoroutine") = false ∧ fn.body.isNone = false) ∧
  ∀ w M vs, Wf w M → cD w M args vs → (∀ x ∈ pre, x.2.den w M x.1) → Calls P f vs.toArray w (bW F post w M res)
section
variable {P : Program} {fr : Fr} {ops : Array Oper} {A : As} {rest : List Oper} {K : As → List (As × Fx) → Prop} {d : Nat} {t ty' : TypeId} {p : String} {e : Array Edge}
def Eh (args : List Ty) (pre : List (Nat × Cont)) : As := ⟨fun c => (args[c]?).getD Ty.any, pre⟩
theorem jI {f : FuncId} {fn : Func} {c : Code} {F : List Nat} {pre post : List (Nat × Cont)} {args : List Ty} {res : Ty} {n : Nat} (hf : P.funcs[f]? = some fn) (hb : fn.body = some c) (hn : (fn.name == "runtime.NumGoroutine") = false) (hnt : fn.ntmps = n) (hl : args.length ≤ n)
    (h : ∀ w0 M0, eZ P ⟨n, w0, M0, F, .plain⟩ c (Eh args pre) (bodyPost P fn (bW F post w0 M0 res))) : eB P f F pre args post res := by
  refine ⟨⟨fn, hf, hn, by rw [hb]; rfl⟩, fun w M vs wf hd hpre => calls_of_wp hf hb (wpIn_wide.1 (h w M _ _ ?_))⟩
  have hlen := cI hd
  refine ⟨M, ⟨wf, Le.refl _ _ _ _, by simp [hnt, hlen]; omega, Defs.nil⟩, fun c hc => ?_, hpre⟩
  simp only [Eh]
  cases ha : args[c]? with
  | none => trivial
  | some ty =>
    obtain ⟨v, hv, hdv⟩ := dQ hd c ty ha
    have : (vs.toArray ++ Array.replicate (fn.ntmps - vs.toArray.size) undef).getD c undef = v := by
      have hlt : c < vs.length := (List.getElem?_eq_some_iff.1 hv).1
      rw [Array.getD_eq_getD_getElem?, Array.getElem?_append_left (by simpa using hlt)]
      simp [hv]
    rw [this]; exact hdv
def uL (L : List Nat) (M : az) : az := fun b => match M b with | none => none | some t => if t = 0 ∨ t ∈ L then some t else none
theorem xF {L : List Nat} {M : az} {b : Nat} (h : M b = none) : uL L M b = none := by simp [uL, h]
theorem Jp {L : List Nat} {M : az} {b t : Nat} (h : M b = some t) (ht : t = 0 ∨ t ∈ L) : uL L M b = some t := by simp [uL, h, ht]
theorem Oj {L : List Nat} {M : az} {b t : Nat} (h : M b = some t) (h0 : 1 ≤ t) (ht : t ∉ L) : uL L M b = none := by
 have : ¬ (t = 0 ∨ t ∈ L) := fun h => h.elim (by omega) ht
 simp [uL, h, this]
theorem wY {L : List Nat} {M : az} {b t : Nat} (h : uL L M b = some t) : M b = some t := by
 unfold uL at h
 split at h
 ·cases h
 rename_i u hu
 split at h
 ·rw [← h]; exact hu
 cases h
theorem zL {L : List Nat} {w : World} {M : az} (wf : Wf w M) : Wf w (uL L M) :=
 ⟨fun b t h => wf.lt b t (wY h), fun b b' t ht1 h h' => wf.inj b b' t ht1 (wY h) (wY h')⟩
def Qx (L : List Nat) : List (Nat × Nat) := L.map fun x => (x, x)
theorem KP {L : List Nat} {M : az} : Re (Qx L) M (uL L M) :=
 ⟨fun b h => xF h, fun x hx b h => by
  obtain ⟨y, hy, rfl⟩ := List.mem_map.1 hx
  exact Jp h (.inr hy)⟩
def QO (L : List Nat) (s t : Ty) : Prop := ∀ w M v, Wf w M → s.den w M v → t.den w (uL L M) v
theorem vX {L : List Nat} {s t : Ty} (h : Conv (Qx L) s t) : QO L s t := fun w M v wf hs => h w M _ v wf (zL wf) KP hs
theorem Ev {L : List Nat} {α : Type} {E : El α} {T tg : Nat} {xs ys : List α} (h : 1 ≤ tg) (hL : L.contains tg = false) (e : xs = ys) : QO L (Ty.row E T tg xs) (Ty.sl E ys) := fun w M v wf hr => by
 subst e
 exact AI wf hr (fun b hb => Oj hb h (by simpa using hL)) (fun b hb => xF hb)
def AN (A : As) (L : List Nat) : List (Nat × Cont) → Prop
  | [] => True
  | (b, D) :: r => (∃ C, A.tag b = some C ∧ yZ (Qx L) b C b D) ∧ AN A L r
theorem og {L : List Nat} : AN A L [] := trivial
theorem kL {L : List Nat} {b : Nat} {C D : Cont} {r : List (Nat × Cont)} (h : A.tag b = some C) (hc : yZ (Qx L) b C b D) (h' : AN A L r) : AN A L ((b, D) :: r) := ⟨⟨C, h, hc⟩, h'⟩
theorem JB {L : List Nat} {w : World} {M : az} (wf : Wf w M) (ht : ∀ x ∈ A.tags, x.2.den w M x.1) : ∀ {r : List (Nat × Cont)}, AN A L r → ∀ x ∈ r, x.2.den w (uL L M) x.1
  | (b, D) :: r, ⟨⟨C, h, hc⟩, h'⟩, x, hx => by
    rcases List.mem_cons.1 hx with rfl | hx
    · exact hc w M _ wf (zL wf) KP (ht _ (dA h))
    · exact JB wf ht h' x hx
theorem Dq {L : List Nat} {fr : Fr} {w : World} {M : az} (hL : ∀ t ∈ fr.pass, t ∈ L) (hb : fr.base w M) : Le fr.kd.Pu (fun t => 1 ≤ t ∧ t ∉ fr.pass) fr.w0 fr.M0 w (uL L M) :=
 ⟨hb.size, hb.os, hb.tape, hb.out, fun b hlt hm => ⟨xF (hb.qz b hlt hm).1, (hb.qz b hlt hm).2⟩, fun b t hm ht => by
  obtain ⟨h1, h2⟩ := hb.own b t hm ht
  refine ⟨Jp h1 ?_, fun hs => h2 hs⟩
  by_cases h0 : t = 0
  ·exact .inl h0
  refine .inr (hL t ?_)
  by_cases h : t ∈ fr.pass
  ·exact h
  exact absurd ⟨by omega, h⟩ ht⟩
section
variable {fn : Func} {n : Nat} {w0 : World} {M0 : az} {F : List Nat} {post : List (Nat × Cont)}
theorem qN (L : List Nat) {tm : Nat} {res : Ty} (hr : fn.results = #[.tmp tm]) (htm : Nat.blt tm n = true) (hL : ∀ t ∈ F, t ∈ L) (hp : AN A L post) (hs : QO L (A.slots tm) res) : cU ⟨n, w0, M0, F, .plain⟩ A (bodyPost P fn (bW F post w0 M0 res) .ret) := by
 intro a w ⟨M, ok, hsl, ht⟩
 exact ⟨ok.ig (by simp), _, results_tmp hr _ _ _, _, uL L M, rfl, zL ok.wf, Dq hL ok.base, hs _ _ _ ok.wf (hsl tm (by simpa using htm)), JB ok.wf ht hp⟩
end
theorem CB {f : FuncId} {F : List Nat} {pre post : List (Nat × Cont)} {args : List Ty} {res : Ty} (hF : eB P f F pre args post res) (vs : Array Value) (w : World) : (callFunc f vs).run P w = .ok (.enter f vs) w := by
 obtain ⟨⟨fn, hf, hn, hb⟩, _⟩ := hF
 have hn' : fn.name ≠ "runtime.NumGoroutine" := by simpa using hn
 have hb' : fn.body ≠ none := fun h => by rw [h] at hb; cases hb
 simp [callFunc, hf, hn', hb']
def rE (ρ : List (Nat × Nat)) (M : az) : az := fun b => match M b with | none => none | some t => some ((ρ.lookup t).getD 0)
def vG (ρ : List (Nat × Nat)) : Bool := ρ.all fun x => Nat.ble 1 x.1 && (Nat.ble 1 x.2 && (Nat.blt x.1 4096 == Nat.blt x.2 4096 && ρ.all fun y => (x.1 == y.1) == (x.2 == y.2)))
theorem kg {ρ : List (Nat × Nat)} (h : vG ρ = true) : ∀ x ∈ ρ, 1 ≤ x.1 ∧ 1 ≤ x.2 ∧ ∀ y ∈ ρ, (x.1 = y.1 ↔ x.2 = y.2) := by
 intro x hx
 simp only [vG, List.all_eq_true, Bool.and_eq_true, Nat.ble_eq, beq_iff_eq] at h
 obtain ⟨h1, h2, _, h3⟩ := h x hx
 refine ⟨h1, h2, fun y hy => ?_⟩
 have := h3 y hy
 rw [Bool.eq_iff_iff] at this
 simpa using this
theorem zo {ρ : List (Nat × Nat)} (h : vG ρ = true) {a b : Nat} (hm : (a, b) ∈ ρ) : a < 4096 ↔ b < 4096 := by
 simp only [vG, List.all_eq_true, Bool.and_eq_true, beq_iff_eq] at h
 have := (h _ hm).2.2.1
 rw [Bool.eq_iff_iff] at this
 simpa using this
theorem jm {ρ : List (Nat × Nat)} {a b : Nat} (h : ρ.lookup a = some b) : (a, b) ∈ ρ := by
  induction ρ with
  | nil => cases h
  | cons x l ih =>
    obtain ⟨k, v⟩ := x
    rw [List.lookup_cons] at h
    by_cases e : a = k
    · subst e; simp at h; subst h; exact List.mem_cons_self
    · have : (a == k) = false := by simpa using e
      rw [this] at h; exact List.mem_cons_of_mem _ (ih h)
theorem rV {ρ : List (Nat × Nat)} (h : vG ρ = true) {a b : Nat} (hm : (a, b) ∈ ρ) : ρ.lookup a = some b := by
  cases hl : ρ.lookup a with
  | none =>
    exfalso
    induction ρ with
    | nil => cases hm
    | cons x l ih =>
      obtain ⟨k, v⟩ := x
      rw [List.lookup_cons] at hl
      by_cases e : a = k
      · subst e; simp at hl
      · have e' : (a == k) = false := by simpa using e
        rw [e'] at hl
        rcases List.mem_cons.1 hm with hm | hm
        · exact e (congrArg Prod.fst hm)
        · refine ih ?_ hm hl
          simp only [vG, List.all_eq_true, List.mem_cons, forall_eq_or_imp, Bool.and_eq_true] at h ⊢
          exact fun x hx => ⟨(h.2 x hx).1, (h.2 x hx).2.1, (h.2 x hx).2.2.1, (h.2 x hx).2.2.2.2⟩
  | some c =>
    have := ((kg h _ hm).2.2 _ (jm hl)).1 rfl
    exact congrArg some this.symm
theorem zj {ρ : List (Nat × Nat)} {M : az} {b g : Nat} (h : rE ρ M b = some g) (h1 : 1 ≤ g) : ∃ t, M b = some t ∧ (t, g) ∈ ρ := by
  unfold rE at h
  split at h
  · cases h
  · rename_i t ht
    cases hl : ρ.lookup t with
    | none => rw [hl] at h; injection h with h; simp at h; omega
    | some c => rw [hl] at h; injection h with h; simp at h; subst h; exact ⟨t, ht, jm hl⟩
theorem qD {ρ : List (Nat × Nat)} {M : az} {b : Nat} (h : M b = none) : rE ρ M b = none := by simp [rE, h]
theorem G1 {ρ : List (Nat × Nat)} (hr : vG ρ = true) {M : az} {b t g : Nat} (h : M b = some t) (hm : (t, g) ∈ ρ) : rE ρ M b = some g := by simp [rE, h, rV hr hm]
theorem CV {ρ : List (Nat × Nat)} {M : az} {b t : Nat} (h : M b = some t) (hm : ρ.lookup t = none) : rE ρ M b = some 0 := by simp [rE, h, hm]
theorem Oq {ρ : List (Nat × Nat)} (hr : vG ρ = true) {w : World} {M : az} (wf : Wf w M) : Wf w (rE ρ M) := by
  refine ⟨fun b t h => ?_, fun b b' t ht1 h h' => ?_⟩
  · cases hm : M b with
    | none => rw [qD hm] at h; cases h
    | some u => exact wf.lt b u hm
  · obtain ⟨u, hu, m⟩ := zj h (by omega)
    obtain ⟨u', hu', m'⟩ := zj h' (by omega)
    have e : u = u' := ((kg hr _ m).2.2 _ m').2 rfl
    subst e
    obtain ⟨v, rfl⟩ : ∃ v, u = v + 1 := ⟨u - 1, by have := (kg hr _ m).1; omega⟩
    exact wf.inj b b' v (by have := zo hr m; omega) hu hu'
theorem HT {ρ : List (Nat × Nat)} (hr : vG ρ = true) {M : az} : Re ρ M (rE ρ M) := ⟨fun _ h => qD h, fun _ hx _ h => G1 hr h hx⟩
def ny (ρ : List (Nat × Nat)) : List (Nat × Nat) := ρ.map fun x => (x.2, x.1)
theorem Qt {ρ : List (Nat × Nat)} (h : vG ρ = true) : vG (ny ρ) = true := by
 simp only [vG, ny, List.all_eq_true, Bool.and_eq_true, List.mem_map] at h ⊢
 rintro _ ⟨x, hx, rfl⟩
 obtain ⟨h1, h2, h4, h3⟩ := h x hx
 refine ⟨h2, h1, by simpa using (beq_iff_eq.1 h4).symm, ?_⟩
 rintro _ ⟨y, hy, rfl⟩
 have := h3 y hy
 simp only [beq_iff_eq] at this ⊢
 exact this.symm
def rQ (w : World) (ρ : List (Nat × Nat)) (mv : List Nat) (M M' : az) : az := fun b =>
  if b < w.heap.size ∧ (∀ t, M b = some t → t ∉ mv) then M b else (M' b).bind fun g => (ny ρ).lookup g
theorem Ip {ρ : List (Nat × Nat)} {mv F : List Nat} {w w' : World} {M M' : az} (hr : vG ρ = true) (hmv : ∀ x ∈ ρ, x.1 ∈ mv ∨ x.2 ∈ F) (hmr : ∀ t ∈ mv, ∃ g, (t, g) ∈ ρ) (wf : Wf w M) (wf' : Wf w' M') (le : Le (fun t => 1 ≤ t) (fun t => 1 ≤ t ∧ t ∉ F) w (rE ρ M) w' M') :
    Wf w' (rQ w ρ mv M M') ∧ Le (· ∈ ρ.map Prod.fst) (· ∈ mv) w M w' (rQ w ρ mv M M') ∧ Re (ny ρ) M' (rQ w ρ mv M M') := by
  have hsw := Qt hr
  have memsw : ∀ {t g : Nat}, (t, g) ∈ ρ → (g, t) ∈ ny ρ := fun h => List.mem_map.2 ⟨_, h, rfl⟩
  have memsw' : ∀ {t g : Nat}, (g, t) ∈ ny ρ → (t, g) ∈ ρ := fun h => by
    obtain ⟨⟨a, b⟩, hx, he⟩ := List.mem_map.1 h
    injection he with h1 h2
    subst h1; subst h2; exact hx
  -- an old block whose tag stays
  have old : ∀ b t, M b = some t → t ∉ mv → M' b = some ((ρ.lookup t).getD 0) := fun b t hm hn => by
    cases hl : ρ.lookup t with
    | none => exact (le.own b 0 (CV hm hl) (by omega)).1
    | some g =>
      have hx := jm hl
      have hg : g ∈ F := (hmv _ hx).resolve_left hn
      exact (le.own b g (G1 hr hm hx) (fun h => h.2 hg)).1
  have key : ∀ b, M' b = none → rQ w ρ mv M M' b = none := fun b h => by
    unfold rQ
    split
    · rename_i hc
      cases hm : M b with
      | none => rfl
      | some t => rw [old b t hm (hc.2 t hm)] at h; cases h
    · rw [h]; rfl
  have key2 : ∀ t g, (t, g) ∈ ρ → ∀ b, M' b = some g → rQ w ρ mv M M' b = some t := fun t g hx b h => by
    have h1 := (kg hr _ hx)
    unfold rQ
    split
    · rename_i hc
      cases hm : M b with
      | none =>
        have := (le.qz b hc.1 (qD hm)).1
        rw [this] at h; cases h
      | some u =>
        have h2 := old b u hm (hc.2 u hm)
        rw [h2] at h
        injection h with h
        cases hl : ρ.lookup u with
        | none => rw [hl] at h; simp at h; omega
        | some c =>
          rw [hl] at h; simp at h; subst h
          have := (h1.2.2 _ (jm hl)).2 rfl
          exact congrArg some this.symm
    · rw [h]; exact rV hsw (memsw hx)
  refine ⟨⟨fun b t h => ?_, fun b b' t ht1 h h' => ?_⟩, ⟨le.size, le.os, le.tape, le.out, fun b hb hm => ?_, fun b t hm hk => ?_⟩, ⟨key, fun x hx b h => key2 _ _ (memsw' hx) b h⟩⟩
  · unfold rQ at h
    split at h
    · rename_i hc; exact Nat.lt_of_lt_of_le hc.1 le.size
    · obtain ⟨g, hg, _⟩ := Option.bind_eq_some_iff.1 h
      exact wf'.lt b g hg
  · -- injective
    have part : ∀ b, rQ w ρ mv M M' b = some (t + 1) → (M b = some (t + 1) ∧ t + 1 ∉ mv) ∨ ∃ g, (t + 1, g) ∈ ρ ∧ M' b = some g ∧ 1 ≤ g := fun b h => by
      unfold rQ at h
      split at h
      · rename_i hc; exact .inl ⟨h, hc.2 _ h⟩
      · obtain ⟨g, hg, hl⟩ := Option.bind_eq_some_iff.1 h
        have hx := memsw' (jm hl)
        exact .inr ⟨g, hx, hg, (kg hr _ hx).2.1⟩
    have both : ∀ b b' g, (t + 1, g) ∈ ρ → M' b = some g → 1 ≤ g → (M b' = some (t + 1) ∧ t + 1 ∉ mv) → b = b' := fun b b' g hx hg h1 ⟨hm, hn⟩ => by
      have h2 := old b' _ hm hn
      rw [rV hr hx] at h2
      simp at h2
      obtain ⟨v, rfl⟩ : ∃ v, g = v + 1 := ⟨g - 1, by omega⟩
      exact wf'.inj b b' v (by have := zo hr hx; omega) hg h2
    rcases part b h with h1 | ⟨g, hx, hg, h1⟩ <;> rcases part b' h' with h2 | ⟨g', hx', hg', h2⟩
    · exact wf.inj b b' t ht1 h1.1 h2.1
    · exact (both b' b g' hx' hg' h2 h1).symm
    · exact both b b' g hx hg h1 h2
    · have : g = g' := ((kg hr _ hx).2.2 _ hx').1 rfl
      subst this
      obtain ⟨v, rfl⟩ : ∃ v, g = v + 1 := ⟨g - 1, by omega⟩
      exact wf'.inj b b' v (by have := zo hr hx; omega) hg hg'
  · obtain ⟨h1, h2⟩ := le.qz b hb (qD hm)
    exact ⟨key b h1, h2⟩
  · have hb := wf.lt b t hm
    refine ⟨?_, fun hs => ?_⟩
    · unfold rQ
      rw [if_pos ⟨hb, fun u hu => by rw [hm] at hu; injection hu with hu; exact hu ▸ hk⟩]; exact hm
    · have hl : ρ.lookup t = none := by
        cases hl : ρ.lookup t with
        | none => rfl
        | some c => exact absurd (List.mem_map.2 ⟨_, jm hl, rfl⟩) hs
      exact (le.own b 0 (CV hm hl) (by omega)).2 (by omega)
def U9 (fr : Fr) (ρ : List (Nat × Nat)) (mv F : List Nat) : Bool :=
  vG ρ && (ρ.all (fun x => mv.contains x.1 || F.contains x.2) && mv.all fun t => Nat.ble 1 t && (!fr.pass.contains t && ρ.any fun x => x.1 == t))
def U8 (d : Option Nat) (res : Ty) (ρ : List (Nat × Nat)) (mv : List Nat) (sets : List (Nat × Cont)) (rs : List Nat) : Fx := { d := d, ty := res, S := ρ.map Prod.fst, K := mv, sets := sets, rs := rs, rt := ρ.map Prod.fst }
def zn (A : As) (ρ : List (Nat × Nat)) : List (Nat × Cont) → Prop
  | [] => True
  | (b, D) :: r => (∃ a C, (a, b) ∈ ρ ∧ A.tag a = some C ∧ yZ ρ a C b D) ∧ zn A ρ r
theorem pre_nil {ρ : List (Nat × Nat)} : zn A ρ [] := trivial
theorem dj {ρ : List (Nat × Nat)} {a b : Nat} {C D : Cont} {r : List (Nat × Cont)} (hm : (a, b) ∈ ρ) (h : A.tag a = some C) (hc : yZ ρ a C b D) (h' : zn A ρ r) : zn A ρ ((b, D) :: r) := ⟨⟨a, C, hm, h, hc⟩, h'⟩
theorem Jm {ρ : List (Nat × Nat)} {w : World} {M M' : az} (wf : Wf w M) (wf' : Wf w M') (hre : Re ρ M M') (ht : ∀ x ∈ A.tags, x.1 ∈ ρ.map Prod.fst → x.2.den w M x.1) : ∀ {r : List (Nat × Cont)}, zn A ρ r → ∀ x ∈ r, x.2.den w M' x.1
  | (b, D) :: r, ⟨⟨a, C, hm, h, hc⟩, h'⟩, x, hx => by
    rcases List.mem_cons.1 hx with rfl | hx
    · exact hc w M M' wf wf' hre (ht _ (dA h) (List.mem_map.2 ⟨_, hm, rfl⟩))
    · exact Jm wf wf' hre ht h' x hx
def sA (post : List (Nat × Cont)) (ρ : List (Nat × Nat)) : List (Nat × Cont) → Prop
  | [] => True
  | (a, D) :: r => (∃ b C, (a, b) ∈ ρ ∧ post.lookup b = some C ∧ yZ (ny ρ) b C a D) ∧ sA post ρ r
theorem post_nil {ρ : List (Nat × Nat)} {post : List (Nat × Cont)} : sA post ρ [] := trivial
theorem cj {ρ : List (Nat × Nat)} {a b : Nat} {C D : Cont} {post r : List (Nat × Cont)} (hm : (a, b) ∈ ρ) (h : post.lookup b = some C) (hc : yZ (ny ρ) b C a D) (h' : sA post ρ r) : sA post ρ ((a, D) :: r) := ⟨⟨b, C, hm, h, hc⟩, h'⟩
theorem F2 {ρ : List (Nat × Nat)} {post : List (Nat × Cont)} {w : World} {M M' : az} (wf : Wf w M) (wf' : Wf w M') (hre : Re (ny ρ) M M') (ht : ∀ x ∈ post, x.2.den w M x.1) : ∀ {r : List (Nat × Cont)}, sA post ρ r → ∀ x ∈ r, x.1 ∈ ρ.map Prod.fst ∧ x.2.den w M' x.1
  | (a, D) :: r, ⟨⟨b, C, hm, h, hc⟩, h'⟩, x, hx => by
    rcases List.mem_cons.1 hx with rfl | hx
    · exact ⟨List.mem_map.2 ⟨_, hm, rfl⟩, hc w M M' wf wf' hre (ht _ (dA (A := ⟨fun _ => Ty.any, post⟩) h))⟩
    · exact F2 wf wf' hre ht h' x hx
theorem DW {ρ : List (Nat × Nat)} {post : List (Nat × Cont)} : ∀ {r : List (Nat × Cont)}, sA post ρ r → ∀ x ∈ r, x.1 ∈ ρ.map Prod.fst
  | (a, D) :: r, ⟨⟨b, C, hm, h, hc⟩, h'⟩, x, hx => by
    rcases List.mem_cons.1 hx with rfl | hx
    · exact List.mem_map.2 ⟨_, hm, rfl⟩
    · exact DW h' x hx
theorem Lw (ρ : List (Nat × Nat)) (mv : List Nat) {f : FuncId} {F : List Nat} {pre post sets : List (Nat × Cont)} {args ss : List Ty} {res res' : Ty} (hF : eB P f F pre args post res) {dst : Option Nat} {call : Call} {rs : List Nat}
 (hrun : ∀ (a : Act) w M, Wf w M → (∀ c ∈ rs, c < fr.n → (A.slots c).den w M (a.tmps.getD c undef)) → ∃ vs : List Value, (execOp a.eval ⟨dst, .call call, t, p, e, none⟩).run P w = .ok (.enter f vs.toArray) w ∧ cD w M ss vs)
 (hok : U9 fr ρ mv F = true) (ha : yO ρ ss args) (hpre : zn A ρ pre) (hpost : sA post ρ sets) (hres : Conv (ny ρ) res res') :
 CD P fr ops ⟨dst, .call call, t, p, e, none⟩ A (U8 dst res' ρ mv sets rs) := by
 simp only [U9, Bool.and_eq_true] at hok
 obtain ⟨hr, hmv, hmr⟩ := hok
 simp only [List.all_eq_true, Bool.or_eq_true, List.contains_iff_mem] at hmv
 simp only [List.all_eq_true, Bool.and_eq_true, Nat.ble_eq, List.any_eq_true, beq_iff_eq, Bool.not_eq_true', ← Bool.not_eq_true, List.contains_iff_mem] at hmr
 refine ⟨rfl, fun x hx => .inl (DW hpost x hx), fun u hu => ?_, fun u hu => ⟨(hmr u hu).1, (hmr u hu).2.1⟩, fun a w M wf _ hrd htg => ?_⟩
 ·obtain ⟨x, hx, rfl⟩ := List.mem_map.1 hu
  exact (kg hr x hx).1
 rw [if_pos (by simp [Region.wanted])]
 obtain ⟨vs, hrun, hd⟩ := hrun a w M wf hrd
 have wfg := Oq hr wf
 have hc := hF.2 w _ vs wfg (uO wf wfg (HT hr) ha hd) (Jm wf wfg (HT hr) htg hpre)
 refine g9 hrun ?_
 refine hc.mono fun en w' ⟨r, M', he, wf', le, hden, hp⟩ => ?_
 obtain ⟨h1, h2, h3⟩ := Ip (mv := mv) hr hmv (fun u hu => by obtain ⟨x, hx, e⟩ := (hmr u hu).2.2; exact ⟨x.2, by rw [← e]; exact hx⟩) wf wf' le
 exact ⟨r, he, r, rfl, _, h1, h2, hres _ _ _ _ wf' h1 h3 hden, fun x hx => (F2 wf' h1 h3 hp hpost x hx).2⟩
theorem B9 {f : FuncId} {F : List Nat} {pre post : List (Nat × Cont)} {args : List Ty} {res : Ty} (hF : eB P f F pre args post res) {dst : Option Nat} {xs : List Operand} {ats : Array TypeId} {ss : List Ty} (hx : oZ A fr xs = ss) (a : Act) (w : World) (M : az) (_ : Wf w M)
 (hrd : ∀ c ∈ xs.flatMap bq, c < fr.n → (A.slots c).den w M (a.tmps.getD c undef)) : ∃ vs : List Value, (execOp a.eval ⟨dst, .call ⟨.value (.func f), xs.toArray, ats⟩, t, p, e, none⟩).run P w = .ok (.enter f vs.toArray) w ∧ cD w M ss vs := by
 refine ⟨xs.map a.eval, ?_, hx ▸ fq hrd fun x hx c hc => List.mem_flatMap.2 ⟨x, hx, hc⟩⟩
 simp [execOp, resolve, Act.eval, Deferred.ofValue, invoke, CB hF]
theorem eI (ρ : List (Nat × Nat)) (mv : List Nat) (sets : List (Nat × Cont)) {f : FuncId} {F : List Nat} {pre post : List (Nat × Cont)} {args ss : List Ty} {res res' : Ty} (hF : eB P f F pre args post res) {dst : Option Nat} {xs : List Operand} {ats : Array TypeId}
 (hx : oZ A fr xs = ss) (hok : U9 fr ρ mv F = true) (ha : yO ρ ss args) (hpre : zn A ρ pre) (hpost : sA post ρ sets) (hres : Conv (ny ρ) res res')
 (h : aV P fr ops rest (A.after (U8 dst res' ρ mv sets (xs.flatMap bq))) fun A' l => K A' ((A, U8 dst res' ρ mv sets (xs.flatMap bq)) :: l)) : aV P fr ops (⟨dst, .call ⟨.value (.func f), xs.toArray, ats⟩, t, p, e, none⟩ :: rest) A K :=
 ⟨_, Lw ρ mv hF (B9 hF hx) hok ha hpre hpost hres, h⟩
end
end Go.T
namespace Go.T
open Go Go.RowKit
def bf {κ β : Type} [DecidableEq κ] : List (κ × β) → κ → Option β
  | [], _ => none
  | x :: l, k => if x.1 = k then some x.2 else bf l k
def cq {κ β : Type} [DecidableEq κ] : List (κ × β) → κ → β → List (κ × β)
  | [], k, v => [(k, v)]
  | x :: l, k, v => if x.1 = k then (k, v) :: l else x :: cq l k v
theorem nJ {κ β : Type} [DecidableEq κ] (l : List (κ × β)) (k : κ) (v : β) (k' : κ) : bf (cq l k v) k' = if k = k' then some v else bf l k' := by
  induction l with
  | nil => simp [cq, bf]
  | cons x l ih =>
    simp only [cq]
    by_cases h : x.1 = k
    · subst h; simp only [if_true, bf]; by_cases h2 : x.1 = k' <;> simp [h2]
    · rw [if_neg h]; simp only [bf, ih]
      by_cases h2 : x.1 = k'
      · subst h2; rw [if_pos rfl, if_pos rfl, if_neg (fun e => h e.symm)]
      · rw [if_neg h2, if_neg h2]
structure Kz (P : Program) (kt : TypeId) (κ : Type) [DecidableEq κ] where
  enc : κ → Value
  find : ∀ (k : κ) (ks : List κ) (es : List MapEntry) (w : World), es.map (·.key) = ks.map enc →
    (Instr.findKey kt (enc k) es).run P w = .ok ((ks.findIdx? (fun x => decide (x = k))).bind fun i => (es[i]?).map fun e => (i, e.val)) w
  check : ∀ (b : Bool) (k : κ) (w : World), (Instr.checkKey b 10000 kt (enc k)).run P w = .ok () w
  same : ∀ k, Instr.sameBits 10000 (enc k) (enc k) = true
theorem yw (kt : IntKind) (k : Int) : ∀ (ks : List Int) (es : List MapEntry) (i : Nat), es.map (·.key) = ks.map (Value.int kt) →
    Instr.findNow (.int kt) (.int kt k) es i = some ((ks.findIdx? (fun x => decide (x = k))).bind fun j => (es[j]?).map fun e => (i + j, e.val))
  | [], [], i, _ => rfl
  | [], e :: es, i, h => by cases h
  | x :: ks, [], i, h => by cases h
  | x :: ks, e :: es, i, h => by
    simp only [List.map_cons, List.cons.injEq] at h
    obtain ⟨h1, h2⟩ := h
    rw [Instr.findNow, h1]
    simp only [Instr.sameNow, if_true]
    by_cases hx : x = k
    · subst hx; simp [List.findIdx?_cons]
    · have hb : (k == x) = false := by rw [beq_eq_false_iff_ne]; exact fun e => hx e.symm
      rw [hb, yw kt k ks es (i + 1) h2]
      simp only [List.findIdx?_cons, decide_eq_false hx, Bool.false_eq_true, if_false]
      cases (ks.findIdx? fun x => decide (x = k)) with
      | none => rfl
      | some j => simp [Nat.add_assoc, Nat.add_comm]; rw [show j + (i + 1) = i + (j + 1) from by omega]
theorem L9 {P : Program} (kt : TypeId) (q : IntKind) (h : P.underlying kt = some (.int q)) (b : Bool) (k : Int) (n : Nat) (w : World) : (Instr.checkKey b (n + 1) kt (.int q k)).run P w = .ok () w := by simp [Instr.checkKey, underlying, h]
theorem OL (q : IntKind) (k : Int) (n : Nat) : Instr.sameBits n (.int q k) (.int q k) = true := by cases n <;> simp [Instr.sameBits]
def jV (P : Program) (kt : TypeId) (q : IntKind) (h : P.underlying kt = some (.int q)) : Kz P kt Int where
  enc := Value.int q
  find k ks es w he := by
    have := yw q k ks es 0 he
    simp [Instr.findKey, underlying, h, this]
  check b k w := L9 kt q h b k 9999 w
  same k := OL q k 10000
section
variable {κ β : Type} [DecidableEq κ]
def CZ (enc : κ → Value) (vt : β → Ty) (kvs : List (κ × β)) (w : World) (M : az) (b : Nat) : Prop :=
  ∃ es clock, w.heap[b]? = some (.map es clock) ∧ es.toList.map (·.key) = kvs.map (fun x => enc x.1) ∧ cD w M (kvs.map fun x => vt x.2) (es.toList.map (·.val))
theorem uQ {enc : κ → Value} {vt : β → Ty} (hv : ∀ v, (vt v).deps = [] ∧ (vt v).cdeps = []) {kvs : List (κ × β)} {S K : Nat → Prop} {w w' : World} {M M' : az} {b : Nat} (le : Le S K w M w' M') (hb : w'.heap[b]? = w.heap[b]?) (h : CZ enc vt kvs w M b) : CZ enc vt kvs w' M' b := by
 have _ := (inferInstance : DecidableEq κ)
 obtain ⟨es, clock, h1, h2, h3⟩ := h
 refine ⟨es, clock, hb.trans h1, h2, bY le (fun u hu => ?_) (fun u hu => ?_) h3⟩
 ·simp only [bp, List.mem_flatMap, List.mem_map] at hu
  obtain ⟨t, ⟨x, _, rfl⟩, hu⟩ := hu
  rw [(hv x.2).1] at hu; cases hu
 simp only [bU, List.mem_flatMap, List.mem_map] at hu
 obtain ⟨t, ⟨x, _, rfl⟩, hu⟩ := hu
 rw [(hv x.2).2] at hu; cases hu
structure VT (β : Type) where
  ty : β → Ty
  nodeps : ∀ v, (ty v).deps = [] ∧ (ty v).cdeps = []
def qC : VT Int := ⟨fun n => Ty.int .i64 n, fun _ => ⟨rfl, rfl⟩⟩
def fV (enc : κ → Value) (V : VT β) (kvs : List (κ × β)) (w : World) (M : az) (t : Nat) : Prop := ∃ b, M b = some t ∧ CZ enc V.ty kvs w M b
def Cont.mp (enc : κ → Value) (V : VT β) (kvs : List (κ × β)) : Cont :=
  { den := fV enc V kvs
    mono := fun le _ _ hs hk ⟨b, h1, h2⟩ => let ⟨h3, h4⟩ := le.own b _ h1 hk; ⟨b, h3, uQ V.nodeps le (h4 hs) h2⟩ }
theorem Cont.iR {enc : κ → Value} {V : VT β} {k1 k2 : List (κ × β)} (h : k1 = k2) : (Cont.mp enc V k1).Sub (Cont.mp enc V k2) := by subst h; exact Cont.aG _
def mw (tg : Nat) (_ : World) (M : az) (v : Value) : Prop := ∃ b, v = .map (some b) ∧ M b = some tg
def Ty.mp (tg : Nat) : Ty := ⟨mw tg, [tg], [], fun le hk _ ⟨b, e, h⟩ => ⟨b, e, (le.own b tg h (hk tg (by simp))).1⟩, true, fun _ ⟨_, e, _⟩ => e ▸ rfl⟩
def m0 (enc : κ → Value) (V : VT β) (kvs : List (κ × β)) (w : World) (M : az) (v : Value) : Prop := ∃ b, v = .map (some b) ∧ M b = none ∧ b < w.heap.size ∧ CZ enc V.ty kvs w M b
def Ty.pm (enc : κ → Value) (V : VT β) (kvs : List (κ × β)) : Ty := ⟨m0 enc V kvs, [], [], fun le _ _ ⟨b, e, h, hb, h2⟩ => let ⟨h3, h4⟩ := le.qz b hb h; ⟨b, e, h3, Nat.lt_of_lt_of_le hb le.size, uQ V.nodeps le h4 h2⟩, true, fun _ ⟨_, e, _⟩ => e ▸ rfl⟩
end
section
variable {P : Program} {κ β : Type} [DecidableEq κ]
theorem Gd (kvs : List (κ × β)) (k : κ) (i : Nat) (h : (kvs.map Prod.fst).findIdx? (fun x => decide (x = k)) = some i) : ∃ v, kvs[i]? = some (k, v) ∧ bf kvs k = some v ∧ ∀ z, cq kvs k z = kvs.set i (k, z) := by
  induction kvs generalizing i with
  | nil => cases h
  | cons x l ih =>
    rw [List.map_cons, List.findIdx?_cons] at h
    by_cases hx : x.1 = k
    · subst hx
      simp at h; subst h
      exact ⟨x.2, by simp, by simp [bf], fun z => by simp [cq]⟩
    · rw [decide_eq_false hx] at h
      simp only [Bool.false_eq_true, if_false, Option.map_eq_some_iff] at h
      obtain ⟨j, hj, rfl⟩ := h
      obtain ⟨v, h1, h2, h3⟩ := ih j hj
      exact ⟨v, by simpa using h1, by simp [bf, hx, h2], fun z => by simp [cq, hx, h3]⟩
theorem DI (kvs : List (κ × β)) (k : κ) (h : (kvs.map Prod.fst).findIdx? (fun x => decide (x = k)) = none) : bf kvs k = none ∧ ∀ z, cq kvs k z = kvs ++ [(k, z)] := by
  induction kvs with
  | nil => exact ⟨rfl, fun _ => rfl⟩
  | cons x l ih =>
    rw [List.map_cons, List.findIdx?_cons] at h
    by_cases hx : x.1 = k
    · simp [hx] at h
    · rw [decide_eq_false hx] at h
      simp only [Bool.false_eq_true, if_false, Option.map_eq_none_iff] at h
      obtain ⟨h1, h2⟩ := ih h
      exact ⟨by simp [bf, hx, h1], fun z => by simp [cq, hx, h2]⟩
theorem Gj {kt : TypeId} (KK : Kz P kt κ) {vt : β → Ty} {kvs : List (κ × β)} {w : World} {M : az} {es : Array MapEntry} (h2 : es.toList.map (·.key) = kvs.map (fun x => KK.enc x.1)) (h3 : cD w M (kvs.map fun x => vt x.2) (es.toList.map (·.val))) (k : κ) :
    (∃ i v e, (kvs.map Prod.fst).findIdx? (fun x => decide (x = k)) = some i ∧ bf kvs k = some v ∧ es[i]? = some e ∧ e.key = KK.enc k ∧ (vt v).den w M e.val ∧ (Instr.findKey kt (KK.enc k) es.toList).run P w = .ok (some (i, e.val)) w) ∨
    ((kvs.map Prod.fst).findIdx? (fun x => decide (x = k)) = none ∧ bf kvs k = none ∧ (Instr.findKey kt (KK.enc k) es.toList).run P w = .ok none w) := by
  have hf := KK.find k (kvs.map Prod.fst) es.toList w (by rw [h2, List.map_map]; rfl)
  cases hi : (kvs.map Prod.fst).findIdx? (fun x => decide (x = k)) with
  | none => right; rw [hi] at hf; exact ⟨rfl, (DI kvs k hi).1, hf⟩
  | some i =>
    left
    rw [hi] at hf
    obtain ⟨v, hv, hg, _⟩ := Gd kvs k i hi
    have hl : i < es.toList.length := by
      have := congrArg List.length h2
      rw [List.length_map, List.length_map] at this
      rw [this]; exact (List.getElem?_eq_some_iff.1 hv).1
    obtain ⟨u, hu, hd⟩ := dQ h3 i (vt v) (by rw [List.getElem?_map, hv]; rfl)
    rw [List.getElem?_map, List.getElem?_eq_getElem hl] at hu
    injection hu with hu
    have hk := congrArg (fun l : List Value => l[i]?) h2
    simp only [List.getElem?_map, hv, List.getElem?_eq_getElem hl, Option.map_some] at hk
    injection hk with hk
    refine ⟨i, v, es.toList[i], rfl, hg, ?_, hk, hu ▸ hd, ?_⟩
    · rw [← Array.getElem?_toList, List.getElem?_eq_getElem hl]
    · rw [hf]; show Result.ok ((es.toList[i]?).map _) w = _; rw [List.getElem?_eq_getElem hl]; rfl
end
def zeroOf (P : Program) (t : TypeId) : Option Value := (P.info? t).bind (·.zero)
theorem lB {P : Program} {t : TypeId} {z : Value} (h : zeroOf P t = some z) (w : World) : (zeroValue t).run P w = .ok z w := by
  unfold zeroOf at h
  cases hi : P.info? t with
  | none => rw [hi] at h; cases h
  | some i =>
    rw [hi] at h
    have h' : i.zero = some z := h
    simp [zeroValue, typeInfo, hi, h']
def mapOf (P : Program) (t : TypeId) : Option (TypeId × TypeId) := match P.underlying t with | some (.map k e) => some (k, e) | _ => none
theorem CY {P : Program} {t k e : TypeId} (h : mapOf P t = some (k, e)) : P.underlying t = some (.map k e) := by
 unfold mapOf at h
 split at h
 ·rename_i k' e' hu; injection h with h; injection h with h1 h2; subst h1; subst h2; exact hu
 cases h
section
variable {P : Program} {fr : Fr} {ops : Array Oper} {A : As} {rest : List Oper} {K : As → List (As × Fx) → Prop} {d : Nat} {t mt kt et : TypeId} {p : String} {e : Array Edge}
variable {κ β : Type} [DecidableEq κ]
theorem xE (enc : κ → Value) (V : VT β) (hm : mapOf P mt = some (kt, et)) (hp : fr.pass.contains (d + 1) = false)
 (h : aV P fr ops rest (A.after { d := some d, ty := .mp (d + 1), K := [d + 1], sets := [(d + 1, .mp enc V [])] }) fun A' l' => K A' ((A, { d := some d, ty := .mp (d + 1), K := [d + 1], sets := [(d + 1, .mp enc V [])] }) :: l')) :
 aV P fr ops (⟨some d, .makeMap mt none, t, p, e, none⟩ :: rest) A K := by
 refine ⟨_, ⟨rfl, (by simp), (by simp), (fun u hu => ?_), fun a w M wf _ _ _ => ?_⟩, h⟩
 ·rw [List.mem_singleton.1 hu]; exact ⟨by omega, by simpa using hp⟩
 rw [if_pos (by simp [Region.wanted])]
 have hrun : (execOp a.eval ⟨some d, .makeMap mt none, t, p, e, none⟩).run P w = .ok (.value (.map (some w.heap.size))) { w with heap := w.heap.push (.map #[] 0) } := by
  simp [execOp, Instr.makeMap, newObj, Sem.run]
 refine qx hrun ?_
 refine ⟨_, rfl, fun b => if b = w.heap.size then some (d + 1) else if M b = some (d + 1) then none else M b, ⟨fun b u hb => ?_, fun b b' u ht1 hb hb' => ?_⟩, ⟨by simp, rfl, rfl, rfl, fun b hlt hm => ⟨?_, ?_⟩, fun b u hm hk => ⟨?_, fun _ => ?_⟩⟩, ⟨_, rfl, by simp⟩, fun x hx => ?_⟩
 ·simp only [Array.size_push]
  split at hb
  ·omega
  split at hb
  ·cases hb
  have := wf.lt b u hb; omega
 ·by_cases h1 : b = w.heap.size <;> by_cases h2 : b' = w.heap.size
  ·rw [h1, h2]
  ·exfalso
   simp only [h1, h2, if_true, if_false] at hb hb'
   injection hb with hb
   split at hb'
   ·cases hb'
   rename_i hn; rw [← hb] at hb'; exact hn hb'
  ·exfalso
   simp only [h1, h2, if_true, if_false] at hb hb'
   injection hb' with hb'
   split at hb
   ·cases hb
   rename_i hn; rw [← hb'] at hb; exact hn hb
  simp only [h1, h2, if_false] at hb hb'
  split at hb
  ·cases hb
  split at hb'
  ·cases hb'
  exact wf.inj b b' u ht1 hb hb'
 ·rw [if_neg (by omega), if_neg (by rw [hm]; simp)]; exact hm
 ·simp [Array.getElem?_push]; intro h; omega
 ·have hlt := wf.lt b u hm
  rw [if_neg (by omega), if_neg (by rw [hm]; intro h; injection h with h; exact hk (by simp [h]))]; exact hm
 ·have hlt := wf.lt b u hm
  simp [Array.getElem?_push]; intro h; omega
 rw [List.mem_singleton.1 hx]
 exact ⟨w.heap.size, by simp, #[], 0, by simp, rfl, trivial⟩
theorem AV {w : World} {M : az} {b : Nat} (KK : Kz P kt κ) (V : VT β) {kvs : List (κ × β)} {z0 : β} {zv : Value} (hm : mapOf P mt = some (kt, et)) (hz : zeroOf P et = some zv) (hzd : (V.ty z0).den w M zv) (h : CZ KK.enc V.ty kvs w M b) (k : κ) :
 (∃ v, (Instr.lookup mt (.map (some b)) (KK.enc k) false).run P w = .ok v w ∧ (V.ty ((bf kvs k).getD z0)).den w M v) ∧
 ∃ v, (Instr.lookup mt (.map (some b)) (KK.enc k) true).run P w = .ok (.tuple #[v, .bool (bf kvs k).isSome]) w ∧ (V.ty ((bf kvs k).getD z0)).den w M v := by
 obtain ⟨es, clock, h1, h2, h3⟩ := h
 have hu := CY hm
 have hzr := lB hz
 rcases Gj KK h2 h3 k with ⟨i, v, en, _, hg, _, _, hd, hf⟩ | ⟨_, hg, hf⟩
 ·rw [hg]
  refine ⟨⟨en.val, ?_, hd⟩, en.val, ?_, hd⟩ <;> simp [Instr.lookup, underlying, hu, getObj, Sem.run, h1, KK.check, hf]
 rw [hg]
 refine ⟨⟨zv, ?_, hzd⟩, zv, ?_, hzd⟩ <;> simp [Instr.lookup, underlying, hu, getObj, Sem.run, h1, KK.check, hf, hzr]
theorem Rn {x : Operand} {tg : Nat} {enc : κ → Value} {V : VT β} {kvs : List (κ × β)} (hx : A.op fr x = .mp tg) (hc : A.tag tg = some (.mp enc V kvs)) (h1 : ga tg) {a : Act} {w : World} {M : az} {rs : List Nat} (wf : Wf w M) (hr : ∀ c ∈ bq x, c ∈ rs) (hrd : ∀ c ∈ rs, c < fr.n → (A.slots c).den w M (a.tmps.getD c undef)) (htg : ∀ y ∈ A.tags, y.1 ∈ [tg] → y.2.den w M y.1) :
 ∃ b, a.eval x = .map (some b) ∧ M b = some tg ∧ CZ enc V.ty kvs w M b := by
 have hxd := cA hr hrd
 rw [hx] at hxd
 obtain ⟨b, e1, e2⟩ := hxd
 obtain ⟨b', h2, h3⟩ := htg _ (dA hc) (by simp)
 obtain ⟨u, rfl⟩ : ∃ u, tg = u + 1 := ⟨tg - 1, by omega⟩
 have : b = b' := wf.inj b b' u (by omega) e2 h2
 subst this
 exact ⟨b, e1, e2, h3⟩
def J8 (kty : Ty) (v : Value) : Prop := ∀ w M x, kty.den w M x → x = v
theorem gj {q : IntKind} {n : Int} : J8 (.int q n) (.int q n) := fun _ _ _ h => h
theorem pI {x y : Operand} {tg : Nat} {kty : Ty} {k : κ} (KK : Kz P kt κ) {V : VT β} {kvs : List (κ × β)} {z0 : β} {zv : Value} (hx : A.op fr x = .mp tg) (hc : A.tag tg = some (.mp KK.enc V kvs)) (h1 : ga tg) (hy : A.op fr y = kty) (hk : J8 kty (KK.enc k)) (hm : mapOf P mt = some (kt, et)) (hz : zeroOf P et = some zv) (hzd : ∀ w M, (V.ty z0).den w M zv)
 (h : aV P fr ops rest (A.set d (V.ty ((bf kvs k).getD z0))) fun A' l' => K A' ((A, { d := some d, ty := V.ty ((bf kvs k).getD z0), rs := bq x ++ bq y, rt := [tg] }) :: l')) :
 aV P fr ops (⟨some d, .lookup mt x y false, t, p, e, none⟩ :: rest) A K :=
 bD (bQ rfl rfl fun a w M wf hrd htg => by
  obtain ⟨b, e1, _, h3⟩ := Rn hx hc h1 wf (fun c hc => List.mem_append_left _ hc) hrd htg
  have hyd := cA (fun c hc => List.mem_append_right (bq x) hc) hrd
  rw [hy] at hyd
  obtain ⟨v, hv, hd⟩ := (AV KK V hm hz (hzd w M) h3 k).1
  refine ⟨v, ?_, hd⟩
  simp only [execOp, e1, hk _ _ _ hyd]
  simp [hv]) h
theorem pY {x y : Operand} {kty : Ty} {k : κ} (KK : Kz P kt κ) {V : VT β} {kvs : List (κ × β)} {z0 : β} {zv : Value} (hx : A.op fr x = .pm KK.enc V kvs) (hy : A.op fr y = kty) (hk : J8 kty (KK.enc k)) (hm : mapOf P mt = some (kt, et)) (hz : zeroOf P et = some zv) (hzd : ∀ w M, (V.ty z0).den w M zv)
 (h : aV P fr ops rest (A.set d (V.ty ((bf kvs k).getD z0))) fun A' l' => K A' ((A, { d := some d, ty := V.ty ((bf kvs k).getD z0), rs := bq x ++ bq y }) :: l')) :
 aV P fr ops (⟨some d, .lookup mt x y false, t, p, e, none⟩ :: rest) A K :=
 bD (bQ (rt := []) rfl rfl fun a w M wf hrd _ => by
  have hxd := cA (fun c hc => List.mem_append_left (bq y) hc) hrd
  rw [hx] at hxd
  obtain ⟨b, e1, _, _, h3⟩ := hxd
  have hyd := cA (fun c hc => List.mem_append_right (bq x) hc) hrd
  rw [hy] at hyd
  obtain ⟨v, hv, hd⟩ := (AV KK V hm hz (hzd w M) h3 k).1
  refine ⟨v, ?_, hd⟩
  simp only [execOp, e1, hk _ _ _ hyd]
  simp [hv]) h
theorem mC {x y z : Operand} {tg : Nat} {kty vty : Ty} {k : κ} {v : β} (KK : Kz P kt κ) {V : VT β} {kvs : List (κ × β)} (hx : A.op fr x = .mp tg) (hc : A.tag tg = some (.mp KK.enc V kvs)) (h1 : ga tg) (hy : A.op fr y = kty) (hk : J8 kty (KK.enc k)) (hz : A.op fr z = vty) (hv : vty = V.ty v) (hm : mapOf P mt = some (kt, et))
 (h : aV P fr ops rest (A.after { d := none, S := [tg], sets := [(tg, .mp KK.enc V (cq kvs k v))], rs := bq x ++ (bq y ++ bq z), rt := [tg] }) fun A' l' => K A' ((A, { d := none, S := [tg], sets := [(tg, .mp KK.enc V (cq kvs k v))], rs := bq x ++ (bq y ++ bq z), rt := [tg] }) :: l')) :
 aV P fr ops (⟨none, .mapUpdate mt x y z, t, p, e, none⟩ :: rest) A K := by
 subst hv
 refine ⟨_, ⟨rfl, (fun x hx => .inl (by rw [List.mem_singleton.1 hx]; exact List.mem_singleton.2 rfl)), (fun u hu => by rw [List.mem_singleton.1 hu]; exact h1.1), (by simp), fun a w M wf _ hrd htg => ?_⟩, h⟩
 rw [if_pos (by simp [Region.wanted])]
 obtain ⟨b, e1, e2, es, clock, h3, h4, h5⟩ := Rn hx hc h1 wf (fun c hc => List.mem_append_left _ hc) hrd htg
 have hyd := cA (fun c hc => List.mem_append_right (bq x) (List.mem_append_left (bq z) hc)) hrd
 have hzd := cA (fun c hc => List.mem_append_right (bq x) (List.mem_append_right (bq y) hc)) hrd
 rw [hy] at hyd
 rw [hz] at hzd
 have hu := CY hm
 have hblt : b < w.heap.size := wf.lt b _ e2
 -- whatever is put there
 have fin : ∀ (es' : Array MapEntry) (clock' : Nat), es'.toList.map (·.key) = (cq kvs k v).map (fun x => KK.enc x.1) → cD w M ((cq kvs k v).map fun x => V.ty x.2) (es'.toList.map (·.val)) →
  (Instr.mapUpdate mt (.map (some b)) (KK.enc k) (a.eval z)).run P w = .ok () { w with heap := w.heap.setIfInBounds b (.map es' clock') } →
  Oper.wpIn fr.kd.iV 0 P ⟨none, .mapUpdate mt x y z, t, p, e, none⟩ a w (fun a' w' => ∃ v', a' = a.put none v' ∧ Fx.left { d := none, S := [tg], sets := [(tg, .mp KK.enc V (cq kvs k v))], rs := bq x ++ (bq y ++ bq z), rt := [tg] } w M w' v') (fun _ _ _ => False) := by
  intro es' clock' hk' hd' hrun
  have hr : (execOp a.eval ⟨none, .mapUpdate mt x y z, t, p, e, none⟩).run P w = .ok .skip { w with heap := w.heap.setIfInBounds b (.map es' clock') } := by
   simp only [execOp, e1, hk _ _ _ hyd]
   simp [hrun]
  refine AD hr ?_
  have le : Le (· ∈ [tg]) (· ∈ ([] : List Nat)) w M { w with heap := w.heap.setIfInBounds b (.map es' clock') } M := by
   refine ⟨by simp, rfl, rfl, rfl, fun b2 hlt hm2 => ⟨hm2, ?_⟩, fun b2 u hm2 _ => ⟨hm2, fun hs => ?_⟩⟩
   ·have : b ≠ b2 := fun h => by subst h; rw [e2] at hm2; cases hm2
    simp [Array.getElem?_setIfInBounds, this]
   have : b ≠ b2 := fun h => by subst h; rw [e2] at hm2; injection hm2 with hm2; exact hs (by simp [hm2])
   simp [Array.getElem?_setIfInBounds, this]
  refine ⟨undef, rfl, M, ⟨fun b2 u h => by simpa using wf.lt b2 u h, wf.inj⟩, le, trivial, fun x hx => ?_⟩
  rw [List.mem_singleton.1 hx]
  refine ⟨b, e2, es', clock', by simp [hblt], hk', ?_⟩
  refine bY le (fun _ _ => by simp) (fun u hu => ?_) hd'
  simp only [bU, List.mem_flatMap, List.mem_map] at hu
  obtain ⟨t', ⟨x', _, rfl⟩, hu⟩ := hu
  rw [(V.nodeps x'.2).2] at hu; cases hu
 rcases Gj KK h4 h5 k with ⟨i, v0, en, hi, hg, hen, hkey, hd, hf⟩ | ⟨hi, hg, hf⟩
 ·obtain ⟨v1, hv1, _, hput⟩ := Gd kvs k i hi
  have hil : i < es.size := (Array.getElem?_eq_some_iff.1 hen).1
  refine fin (es.modify i fun e => { e with key := KK.enc k, val := a.eval z }) clock ?_ ?_ ?_
  ·rw [hput, List.map_set]
   have : (es.modify i fun e => { e with key := KK.enc k, val := a.eval z }).toList = es.toList.set i { en with key := KK.enc k, val := a.eval z } := by
    rw [Array.toList_modify, List.modify_eq_set, Array.getElem?_toList, hen]; rfl
   rw [this, List.map_set, h4]
  ·rw [hput, List.map_set]
   have : (es.modify i fun e => { e with key := KK.enc k, val := a.eval z }).toList = es.toList.set i { en with key := KK.enc k, val := a.eval z } := by
    rw [Array.toList_modify, List.modify_eq_set, Array.getElem?_toList, hen]; rfl
   rw [this, List.map_set]
   exact pJ h5 hzd
  simp [Instr.mapUpdate, underlying, hu, getObj, setObj, Sem.run, h3, KK.check, hf, hen, hkey, Instr.keyThatStays, KK.same]
 obtain ⟨_, hput⟩ := DI kvs k hi
 refine fin (es.push { key := KK.enc k, val := a.eval z, born := clock }) (clock + 1) ?_ ?_ ?_
 ·rw [hput]; simp [h4]
 ·rw [hput]; simp only [Array.toList_push, List.map_append, List.map_cons, List.map_nil]
  exact hU h5 ⟨hzd, trivial⟩
 simp [Instr.mapUpdate, underlying, hu, getObj, setObj, Sem.run, h3, KK.check, hf]
end
section
variable {P : Program} {fr : Fr} {A : As} {Q : Exit → Act → World → Prop} {c : Code} {κ β : Type} [DecidableEq κ]
theorem Se {enc : κ → Value} {V : VT β} {kvs : List (κ × β)} {tg s : Nat} (hx : A.slots s = .mp tg) (hc : A.tag tg = some (.mp enc V kvs)) (h1 : ga tg) : Bo A tg s (.pm enc V kvs) := by
 intro w M v wf ht hv
 rw [hx] at hv
 obtain ⟨b, e1, e2⟩ := hv
 obtain ⟨b', h2, h3⟩ := ht _ (dA hc)
 obtain ⟨u, rfl⟩ : ∃ u, tg = u + 1 := ⟨tg - 1, by omega⟩
 have : b = b' := wf.inj b b' u (by omega) e2 h2
 subst this
 exact ⟨b, e1, by simp [dx, e2], wf.lt b _ e2, uQ V.nodeps (iN (tg := u + 1)) rfl h3⟩
end
end Go.T
namespace Go.Proofs.YtmmcenjknimhbaaGreat
open Go Go.T
structure kN (b : SB) : Prop where
  nb1 : 1 ≤ b.1.f.bears.length
  nb : b.1.f.bears.length ≤ 4
  nt : b.1.f.turnings.length ≤ 8
  bears : ∀ k, 0 ≤ nth b.1.f.bears k ∧ nth b.1.f.bears k ≤ 4000
  before : ∀ k, nth b.1.before k < 256
  adds : ∀ k, -1200 ≤ nth b.1.adds k ∧ nth b.1.adds k ≤ 1200
  first : ∀ k, 0 ≤ nth b.1.first k ∧ nth b.1.first k ≤ 7200
theorem HX {α : Type} [Inhabited α] {l : List α} {k : Nat} (h : l.length ≤ k) : nth l k = default := by
 show l.getD k default = default
 rw [List.getD_eq_getElem?_getD, List.getElem?_eq_none h]; rfl
theorem Q4 {f : bS} (h : f.dh) : kN (U0 f h.ruled) := by
 have hr := h.ranged
 have h4 := hr.bears
 have h6 := hr.bins
 refine ⟨hr.bears1, hr.bears, hr.turnings, fun k => Aa hr k, fun k => (k8 h.ruled).nth k, fun k => ?_, fun k => ?_⟩
 ·show -1200 ≤ nth ((List.range 32).map (AG f f.bears.length 0)) k ∧ nth ((List.range 32).map (AG f f.bears.length 0)) k ≤ 1200
  rcases Nat.lt_or_ge k 32 with hk | hk
  ·rw [cy _ hk]
   unfold AG
   split
   ·rename_i hc; exact zm hr h.named hc.1 _
   omega
  rw [qc (by simpa using hk)]; omega
 show 0 ≤ nth ((List.range 4).map (mG f f.bears.length 0)) k ∧ nth ((List.range 4).map (mG f f.bears.length 0)) k ≤ 7200
 rcases Nat.lt_or_ge k 4 with hk | hk
 ·rw [cy _ hk]
  unfold mG
  split
  ·have := mZ hr k f.bins.length (Nat.le_refl _); omega
  split
  ·have := mZ hr f.bears.length 0 (Nat.zero_le _); omega
  omega
 rw [qc (by simpa using hk)]; omega
def loadAt (b : SB) (ms : List Int) (i : Nat) : Int := nth b.1.first i + (ms.map fun t => nth b.1.adds (t.toNat * 4 + i)).sum
def iI (b : SB) (s : Nat) : List Int := (List.range 4).map (loadAt b (cR s))
def oI (b : SB) (ms : List Int) (k j : Nat) : List Int := (List.range 4).map fun i => if i < j then loadAt b (ms.take (k + 1)) i else loadAt b (ms.take k) i
theorem GS (b : SB) {ms : List Int} {k : Nat} (h : k < ms.length) (i : Nat) : loadAt b (ms.take (k + 1)) i = loadAt b (ms.take k) i + nth b.1.adds ((nth ms k).toNat * 4 + i) := by
 unfold loadAt
 rw [bh h, List.map_append, List.sum_append]; simp; omega
theorem va {b : SB} (h : kN b) (ms : List Int) (i : Nat) : -(1200 * ms.length) ≤ loadAt b ms i ∧ loadAt b ms i ≤ 7200 + 1200 * ms.length := by
 have h1 := h.first i
 have h2 := xN (l := ms.map fun t => nth b.1.adds (t.toNat * 4 + i)) (lo := -1200) (hi := 1200) fun n hn => by
  obtain ⟨t, _, rfl⟩ := List.mem_map.1 hn
  exact h.adds _
 rw [List.length_map] at h2
 unfold loadAt; omega
theorem r7 (s : Nat) : (cR s).length ≤ 8 := zX s 8
theorem kf (b : SB) (ms : List Int) (k j : Nat) : (oI b ms k j).length = 4 := by simp [oI]
theorem Dv (b : SB) (ms : List Int) (k : Nat) {j : Nat} (h : j < 4) : nth (oI b ms k j) j = loadAt b (ms.take k) j := by
 rw [oI, cy _ h]; simp
theorem ME (b : SB) {ms : List Int} {k j : Nat} (hk : k < ms.length) (hj : j < 4) : (oI b ms k j).set j (nth (oI b ms k j) j + nth b.1.adds ((nth ms k).toNat * 4 + j)) = oI b ms k (j + 1) := by
 rw [Dv b ms k hj, ← GS b hk]
 exact o8 4 j (fun i => if i < j then loadAt b (ms.take (k + 1)) i else loadAt b (ms.take k) i) (fun i => if i < j + 1 then loadAt b (ms.take (k + 1)) i else loadAt b (ms.take k) i) _ fun i _ => by
  by_cases e : i = j
  ·subst e; simp
  by_cases h1 : i < j
  ·rw [if_pos (by omega), if_neg e, if_pos h1]
  rw [if_neg (by omega), if_neg e, if_neg h1]
theorem I8 (b : SB) (ms : List Int) (k : Nat) : oI b ms k 4 = oI b ms (k + 1) 0 := List.map_congr_left fun i hi => by
 have := List.mem_range.1 hi
 rw [if_pos this, if_neg (by omega)]
theorem HE (b : SB) (ms : List Int) : b.1.first = oI b ms 0 0 := by
 apply List.ext_getElem?
 intro i
 have h4 := b.2.first
 by_cases h : i < 4
 ·rw [List.getElem?_eq_getElem (by omega), oI, List.getElem?_map, List.getElem?_range h]
  simp only [Option.map_some, Nat.not_lt_zero, if_false]
  simp [loadAt, cE (show i < b.1.first.length by omega)]
 rw [List.getElem?_eq_none (by omega), List.getElem?_eq_none (by rw [kf]; omega)]
theorem MB (b : SB) (s k : Nat) (h : (cR s).length ≤ k) : oI b (cR s) k 0 = iI b s := List.map_congr_left fun i _ => by
 rw [if_neg (by omega), List.take_of_length_le h]
theorem lO (b : SB) (s : Nat) : (iI b s).length = 4 := by simp [iI]
theorem sZ (b : SB) (s : Nat) {i : Nat} (h : i < 4) : nth (iI b s) i = loadAt b (cR s) i := cy _ h
theorem yJ {b : SB} (h : kN b) (s i : Nat) : -20000 ≤ nth (iI b s) i ∧ nth (iI b s) i ≤ 20000 := by
 rcases Nat.lt_or_ge i 4 with hi | hi
 ·rw [sZ b s hi]
  have := va h (cR s) i
  have := r7 s
  omega
 rw [qc (by rw [lO]; exact hi)]; omega
def mm (b : SB) (l : List Int) : Int := r9 b.1.f l b.1.f.bears.length (nth b.1.f.bears 0 - nth l 0)
def u7 (b : SB) (s : Nat) : Bool := decide (mm b (iI b s) ≥ 0)
def eF (b : SB) (s : Nat) : Bool := (cR s).all fun t => decide (jd (nth b.1.before t.toNat) s = 0)
theorem Ba {s : Nat} : ∀ t ∈ cR s, 0 ≤ t ∧ t < 8 := by
 intro t ht
 obtain ⟨i, hi, rfl⟩ := List.mem_map.1 ht
 have := List.mem_range.1 (List.mem_filter.1 hi).1
 omega
def iT (b : SB) (k : Nat) : List Nat := (List.range k).filter (eF b)
def uB (b : SB) : List Nat := iT b (1 <<< b.1.f.turnings.length)
theorem uS {b : SB} {k : Nat} (h : eF b k = true) : iT b (k + 1) = iT b k ++ [k] := by simp [iT, List.range_succ, List.filter_append, h]
theorem Da {b : SB} {k : Nat} (h : eF b k = false) : iT b (k + 1) = iT b k := by simp [iT, List.range_succ, List.filter_append, h]
theorem z6 {b : SB} {k m : Nat} (hk : k < m) (h : eF b k = true) : nth (iT b m) (iT b k).length = k ∧ (iT b k).length < (iT b m).length := by
  have : ∀ m, k + 1 ≤ m → ∃ r, iT b m = (iT b k ++ [k]) ++ r := by
    intro m hm
    induction m with
    | zero => omega
    | succ m ih =>
      rcases Nat.lt_or_ge m (k + 1) with h1 | h1
      · rw [show m + 1 = k + 1 by omega]; exact ⟨[], by rw [uS h, List.append_nil]⟩
      · obtain ⟨r, hr⟩ := ih h1
        cases hw : eF b m with
        | true => exact ⟨r ++ [m], by rw [uS hw, hr, List.append_assoc]⟩
        | false => exact ⟨r, by rw [Da hw, hr]⟩
  obtain ⟨r, hr⟩ := this m hk
  refine ⟨?_, ?_⟩
  · rw [hr, cE (by simp)]; simp
  · rw [hr]; simp
theorem sQ (n : Nat) : 1 <<< n = 2 ^ n := by rw [Nat.shiftLeft_eq, Nat.one_mul]
theorem rH {n : Nat} (h : n ≤ 8) : 1 <<< n ≤ 256 ∧ 1 ≤ 1 <<< n := by
 rw [sQ]
 exact ⟨Nat.pow_le_pow_right (n := 2) (by omega) h, Nat.one_le_two_pow⟩
def AX (b : SB) (bay : Nat) (st : Int × Int) (s : Nat) : Int × Int := if nth (iI b s) bay > st.2 then ((s : Int), nth (iI b s) bay) else st
def oM (b : SB) (bay k : Nat) : Int × Int := ((uB b).take k).foldl (AX b bay) (0, nth b.1.first bay)
def JA (b : SB) (bay : Nat) : Int × Int := (uB b).foldl (AX b bay) (0, nth b.1.first bay)
theorem wD {b : SB} {bay k : Nat} (h : k < (uB b).length) : oM b bay (k + 1) = AX b bay (oM b bay k) (nth (uB b) k) := by
 unfold oM; rw [bh h, List.foldl_append]; rfl
abbrev KV := List (Int × Int)
def mg (m : KV) (k : Int) : Int := (bf m k).getD 0
def th (b : SB) (s : Nat) (m : KV) (t : Nat) : KV := if s.testBit t then m else cq m s (mg m s + mg m ((s ||| 1 <<< t : Nat) : Int))
def qn (b : SB) (s : Nat) (m : KV) (j : Nat) : KV := (List.range j).foldl (th b s) m
def ji (b : SB) (s : Nat) (m : KV) : KV := if (s : Int) = (1 <<< b.1.f.turnings.length : Nat) - 1 then cq m s 1 else m
def Ga (b : SB) (q : Nat → Bool) (s : Nat) (m : KV) : KV := if !eF b s || !q s then m else qn b s (ji b s m) b.1.f.turnings.length
def fu (b : SB) (q : Nat → Bool) (n : Nat) : Nat → KV
  | 0 => []
  | k + 1 => Ga b q (n - (k + 1)) (fu b q n k)
def iJ (b : SB) (q : Nat → Bool) : KV := fu b q (1 <<< b.1.f.turnings.length) (1 <<< b.1.f.turnings.length)
theorem lF (b : SB) (s : Nat) (m : KV) (j : Nat) : qn b s m (j + 1) = th b s (qn b s m j) j := by simp [qn, List.range_succ]
theorem oD (m : KV) (k v k' : Int) : mg (cq m k v) k' = if k = k' then v else mg m k' := by
 unfold mg; rw [nJ]; split <;> rfl
def pop (s : Nat) : Nat := (cR s).length
theorem Ia : ((List.range 256).all fun s => (List.range 8).all fun t => s.testBit t || (pop (s ||| 1 <<< t) == pop s + 1 && Nat.blt (s ||| 1 <<< t) 256)) = true := by decide +kernel
theorem A8 {s t : Nat} (hs : s < 256) (ht : t < 8) (h : s.testBit t = false) : pop (s ||| 1 <<< t) = pop s + 1 ∧ (s ||| 1 <<< t) < 256 := by
 have h1 := List.all_eq_true.1 (List.all_eq_true.1 Ia s (List.mem_range.2 hs)) t (List.mem_range.2 ht)
 rw [h, Bool.false_or, Bool.and_eq_true, beq_iff_eq, Nat.blt_eq] at h1
 exact h1
def Small (m : KV) : Prop := ∀ s : Nat, s < 256 → 0 ≤ mg m s ∧ mg m s ≤ 8 ^ (8 - pop s)
theorem OS (s : Nat) : pop s ≤ 8 := r7 s
theorem IY {s t : Nat} (h : s.testBit t = false) : (s ||| 1 <<< t) ≠ s := fun e => by
 have : (s ||| 1 <<< t).testBit t = true := by rw [Nat.testBit_or, sQ, Nat.testBit_two_pow_self]; simp
 rw [e, h] at this; cases this
def Dz (m : KV) (s j : Nat) : Prop := (∀ s' : Nat, s' < 256 → s' ≠ s → 0 ≤ mg m s' ∧ mg m s' ≤ 8 ^ (8 - pop s')) ∧ 0 ≤ mg m s ∧ mg m s ≤ (if pop s = 8 then (1 : Int) else (j : Int) * 8 ^ (7 - pop s))
theorem vP {b : SB} {m : KV} {s j : Nat} (hs : s < 256) (hj : j < 8) (h : Dz m s j) : Dz (th b s m j) s (j + 1) ∧ (s.testBit j = false → 0 ≤ mg m s + mg m ((s ||| 1 <<< j : Nat) : Int) ∧ mg m s + mg m ((s ||| 1 <<< j : Nat) : Int) ≤ 8 ^ 8 + 8 ^ 8) := by
  obtain ⟨h1, h2, h3⟩ := h
  have hp8 : ∀ e, e ≤ 8 → (8 : Int) ^ e ≤ 8 ^ 8 := fun e he => by
    have : (8 : Nat) ^ e ≤ 8 ^ 8 := Nat.pow_le_pow_right (by omega) he
    exact_mod_cast this
  have hpos : ∀ e : Nat, (0 : Int) ≤ 8 ^ e := fun e => Int.le_of_lt (Int.pow_pos (by omega))
  unfold th
  cases hb : s.testBit j with
  | true =>
    simp only [if_true]
    refine ⟨⟨h1, h2, ?_⟩, fun h => by cases h⟩
    split at h3
    · rw [if_pos ‹_›]; exact h3
    · rw [if_neg ‹_›]
      have := hpos (7 - pop s)
      have e : ((j + 1 : Nat) : Int) * 8 ^ (7 - pop s) = j * 8 ^ (7 - pop s) + 8 ^ (7 - pop s) := by rw [Int.natCast_add, Int.add_mul]; simp
      omega
  | false =>
    obtain ⟨p1, p2⟩ := A8 hs hj hb
    have hne := IY hb
    obtain ⟨g1, g2⟩ := h1 _ p2 hne
    have hlt : pop s ≤ 7 := by have := OS (s ||| 1 <<< j); omega
    rw [p1, show 8 - (pop s + 1) = 7 - pop s by omega] at g2
    rw [if_neg (by omega)] at h3
    have hj8 : (j : Int) * 8 ^ (7 - pop s) ≤ 7 * 8 ^ (7 - pop s) := Int.mul_le_mul_of_nonneg_right (by omega) (hpos _)
    have h87 : (8 : Int) * 8 ^ (7 - pop s) ≤ 8 ^ 8 := by
      have := hp8 (7 - pop s + 1) (by omega)
      rw [Int.pow_succ, Int.mul_comm] at this; exact this
    have := hpos (7 - pop s)
    simp only [Bool.false_eq_true, if_false]
    refine ⟨⟨fun s' hs' hn => ?_, ?_⟩, fun _ => ⟨by omega, by omega⟩⟩
    · rw [oD, if_neg (fun e => hn (by exact_mod_cast e.symm))]; exact h1 s' hs' hn
    · rw [oD, if_pos rfl, if_neg (by omega)]
      have e : ((j + 1 : Nat) : Int) * 8 ^ (7 - pop s) = j * 8 ^ (7 - pop s) + 8 ^ (7 - pop s) := by rw [Int.natCast_add, Int.add_mul]; simp
      omega
theorem Je (b : SB) {s s' : Nat} (h : s' ≠ s) (m : KV) (t : Nat) : mg (th b s m t) s' = mg m s' := by
 unfold th
 split
 ·rfl
 rw [oD, if_neg (fun e => h (by exact_mod_cast e.symm))]
theorem yC (b : SB) {s s' : Nat} (h : s' ≠ s) (m : KV) (j : Nat) : mg (qn b s m j) s' = mg m s' := by
  induction j with
  | zero => rfl
  | succ j ih => rw [lF, Je b h, ih]
theorem vv (b : SB) {s s' : Nat} (h : s' ≠ s) (m : KV) : mg (ji b s m) s' = mg m s' := by
 unfold ji
 split
 ·rw [oD, if_neg (fun e => h (by exact_mod_cast e.symm))]
 rfl
theorem vA (b : SB) (q : Nat → Bool) {s s' : Nat} (h : s' ≠ s) (m : KV) : mg (Ga b q s m) s' = mg m s' := by
 unfold Ga
 split
 ·rfl
 rw [yC b h, vv b h]
theorem GZ {n j : Nat} (h : j < n) : (1 <<< n - 1).testBit j = true := by rw [sQ, Nat.testBit_two_pow_sub_one]; simpa using h
theorem Hp (b : SB) {s n : Nat} (hs : s = 1 <<< n - 1) (m : KV) {j : Nat} (hj : j ≤ n) : qn b s m j = m := by
  induction j with
  | zero => rfl
  | succ j ih => rw [lF, ih (by omega), th, hs, GZ (by omega)]; rfl
structure Clean (n k : Nat) (m : KV) : Prop where
  small : ∀ s : Nat, s < 256 → 0 ≤ mg m s ∧ mg m s ≤ 8 ^ (8 - pop s)
  zero : ∀ s : Nat, s + k < n → mg m s = 0
theorem Ko {b : SB} {s : Nat} {m : KV} (h : s ≠ 1 <<< b.1.f.turnings.length - 1) (h1 : 1 ≤ 1 <<< b.1.f.turnings.length) : ji b s m = m := by
 unfold ji; rw [if_neg (by omega)]
theorem TJ {b : SB} {s : Nat} {m : KV} (h : s = 1 <<< b.1.f.turnings.length - 1) (h1 : 1 ≤ 1 <<< b.1.f.turnings.length) : ji b s m = cq m s 1 := by
 unfold ji; rw [if_pos (by omega)]
theorem ur {b : SB} (hb : kN b) {s n k : Nat} {m : KV} (hn : n = 1 <<< b.1.f.turnings.length) (hs : s + (k + 1) = n) (hc : Clean n k m) (hne : s ≠ n - 1) : ∀ j, j ≤ b.1.f.turnings.length → Dz (qn b s m j) s j
  | 0, _ => by
    refine ⟨fun s' hs' _ => hc.small s' hs', ?_, ?_⟩
    · show 0 ≤ mg m s; rw [hc.zero s (by omega)]; exact Int.le_refl _
    · show mg m s ≤ _
      rw [hc.zero s (by omega)]; split <;> simp
  | j + 1, hj => by
    rw [lF]
    have := rH hb.nt
    exact (vP (by omega) (by have := hb.nt; omega) (ur hb hn hs hc hne j (by omega))).1
theorem Lb {b : SB} (hb : kN b) {s n k : Nat} {m : KV} (hn : n = 1 <<< b.1.f.turnings.length) (hs : s + (k + 1) = n) (hc : Clean n k m) {j : Nat} (hj : j < b.1.f.turnings.length) (h : s.testBit j = false) :
 let m' := qn b s (ji b s m) j
 0 ≤ mg m' s + mg m' ((s ||| 1 <<< j : Nat) : Int) ∧ mg m' s + mg m' ((s ||| 1 <<< j : Nat) : Int) ≤ 8 ^ 8 + 8 ^ 8 := by
 have h1 := rH hb.nt
 have hne : s ≠ n - 1 := fun e => by rw [e, hn, GZ hj] at h; cases h
 rw [Ko (by omega) (by omega)]
 exact (vP (b := b) (by omega) (by have := hb.nt; omega) (ur hb hn hs hc hne j (by omega))).2 h
theorem II {b : SB} (hb : kN b) {q : Nat → Bool} {s n k : Nat} {m : KV} (hn : n = 1 <<< b.1.f.turnings.length) (hs : s + (k + 1) = n) (hc : Clean n k m) : Clean n (k + 1) (Ga b q s m) := by
 have h1 := rH hb.nt
 have hpos : ∀ e : Nat, (1 : Int) ≤ 8 ^ e := fun e => by have : (0 : Int) < 8 ^ e := Int.pow_pos (by omega); omega
 refine ⟨fun s' hs' => ?_, fun s' h => ?_⟩
 ·by_cases e : s' = s
  ·subst e
   unfold Ga
   split
   ·exact hc.small s' hs'
   by_cases ht : s' = n - 1
   ·rw [TJ (by omega) (by omega), Hp b (by omega) _ (Nat.le_refl _), oD, if_pos rfl]
    exact ⟨by omega, hpos _⟩
   rw [Ko (by omega) (by omega)]
   obtain ⟨_, g2, g3⟩ := ur hb hn hs hc ht _ (Nat.le_refl _)
   refine ⟨g2, ?_⟩
   split at g3
   ·exact Int.le_trans g3 (hpos _)
   rename_i hp
   have hp7 : pop s' ≤ 7 := by have := OS s'; omega
   have e8 : (8 : Int) ^ (8 - pop s') = 8 ^ (7 - pop s') * 8 := by rw [show 8 - pop s' = 7 - pop s' + 1 by omega, Int.pow_succ]
   have : (b.1.f.turnings.length : Int) * 8 ^ (7 - pop s') ≤ 8 * 8 ^ (7 - pop s') := Int.mul_le_mul_of_nonneg_right (by have := hb.nt; omega) (Int.le_trans (by omega) (hpos _))
   rw [e8, Int.mul_comm (8 ^ (7 - pop s')) 8]; omega
  rw [vA b q e]; exact hc.small s' hs'
 rw [vA b q (by omega)]; exact hc.zero s' (by omega)
theorem tG {b : SB} (hb : kN b) (q : Nat → Bool) {n : Nat} (hn : n = 1 <<< b.1.f.turnings.length) : ∀ k, k ≤ n → Clean n k (fu b q n k)
  | 0, _ => ⟨fun s _ => ⟨Int.le_refl _, Int.le_of_lt (Int.pow_pos (by omega))⟩, fun _ _ => rfl⟩
  | k + 1, h => II hb hn (by omega) (tG hb q hn k (by omega))
end Go.Proofs.YtmmcenjknimhbaaGreat
namespace Go.Proofs.YtmmcenjknimhbaaGreat
open Go Go.T
def Vu (f : bS) : SB := ⟨{ f := f, before := List.replicate 8 0, adds := List.replicate 32 0, first := List.replicate 4 0 }, ⟨rfl, rfl, rfl⟩⟩
def aX (f : bS) : SB := if h : bk f = 0 then U0 f (cB h).ruled else Vu f
theorem l9 {f : bS} (h : bk f = 0) : aX f = U0 f (cB h).ruled := dif_pos h
theorem fj {f : bS} (h : bk f = 0) : kN (aX f) := by rw [l9 h]; exact Q4 (cB h)
theorem n7 (f : bS) : (aX f).1.f = f := by
 unfold aX; split <;> rfl
theorem jg {f : bS} {b : Bool} (h : e9 f b = 0) : bk f = 0 ∧ b = false := by
 unfold e9 at h
 split at h
 ·exact absurd h ‹_›
 split at h
 ·cases h
 rename_i h1 h2
 exact ⟨Classical.byContradiction fun e => h1 e, Bool.eq_false_iff.2 h2⟩
def DC (f : bS) (bay : Int) : Int × Int :=
  if e9 f (!fE bay 0 (f.bears.length - 1)) ≠ 0 then (0, e9 f (!fE bay 0 (f.bears.length - 1))) else ((JA (aX f) bay.toNat).2, 0)
def dV (f : bS) : KV := iJ (aX f) (u7 (aX f))
def countP (f : bS) : Int × Int := if e9 f false ≠ 0 then (0, e9 f false) else (mg (dV f) 0, 0)
def nM (f : bS) (k : Nat) : List Int := ((List.range k).filter fun t => decide (mg (dV f) ((1 <<< t : Nat) : Int) > 0)).map fun (t : Nat) => (t : Int)
def mU (f : bS) : List Int × Int := if e9 f false ≠ 0 then ([], e9 f false) else if mg (dV f) 0 = 0 then ([], 6) else (nM f f.turnings.length, 0)
theorem tu (f : bS) (k : Nat) : nM f (k + 1) = nM f k ++ if mg (dV f) ((1 <<< k : Nat) : Int) > 0 then [(k : Int)] else [] := by
 unfold nM
 rw [List.range_succ, List.filter_append, List.map_append]
 congr 1
 by_cases h : mg (dV f) ((1 <<< k : Nat) : Int) > 0
 ·rw [if_pos h, List.filter_cons_of_pos (by exact decide_eq_true h)]; rfl
 rw [if_neg h, List.filter_cons_of_neg (by simpa using h)]; rfl
theorem D2 (f : bS) (k : Nat) : (nM f k).length ≤ k := by
 have := List.length_filter_le (fun t => decide (mg (dV f) ((1 <<< t : Nat) : Int) > 0)) (List.range k)
 simpa [nM] using this
end Go.Proofs.YtmmcenjknimhbaaGreat
namespace Go.Proofs.YtmmcenjknimhbaaGreat
open Go Go.T
def mJ (b : SB) (bay j : Nat) : Int := nth b.1.adds (j * 4 + bay)
def mI (b : SB) (bay k : Nat) : List Int := (List.range 8).map fun j => if j < k then max 0 (mJ b bay j) else 0
def ow (b : SB) (bay k : Nat) : List Int := (List.range 8).map fun j => if j < k then max 0 (-(mJ b bay j)) else 0
def jC (b : SB) (bay k : Nat) : Int := nth b.1.first bay + ((List.range k).map fun j => max 0 (mJ b bay j)).sum
structure Hj where
  adds : List Int
  less : List Int
  bound : Int
def GF (st : Hj) (p : vO) : Hj := ⟨st.adds.set p.src.toNat (nth st.adds p.src.toNat - p.much), st.less.set p.dst.toNat (nth st.less p.dst.toNat - p.much), st.bound - p.much⟩
def zU (st : Hj) (p : vO) : Bool := decide (p.much > nth st.adds p.src.toNat) || decide (p.much > nth st.less p.dst.toNat)
def Ig (st : Hj) (p : vO) : Option Hj := if zU st p then none else some (GF st p)
def tq (st : Hj) (l : List vO) : Option Hj := l.foldl (fun o p => o.bind fun s => Ig s p) (some st)
def FP (b : SB) (bay : Nat) : Hj := ⟨mI b bay b.1.f.turnings.length, ow b bay b.1.f.turnings.length, jC b bay b.1.f.turnings.length⟩
def Af (f : bS) (p : vO) : Bool := fE p.src 0 (f.turnings.length - 1) && fE p.dst 0 (f.turnings.length - 1)
def Ea (b : SB) (p : vO) : Bool := decide (((nth b.1.before p.src.toNat >>> p.dst.toNat &&& 1 : Nat) : Int) = 1)
def mW (f : bS) (bay : Int) (pays : List vO) : Int × Int :=
  if e9 f (!fE bay 0 (f.bears.length - 1)) ≠ 0 then (0, e9 f (!fE bay 0 (f.bears.length - 1)))
  else if !pays.all (Af f) then (0, 1)
  else if !pays.all (fun p => decide (p.much ≥ 1)) then (0, 3)
  else if !pays.all (Ea (aX f)) then (0, 4)
  else match tq (FP (aX f) bay.toNat) pays with
    | none => (0, 8)
    | some st => (st.bound, 0)
theorem AR (b : SB) (bay : Nat) {k : Nat} (hk : k < 8) : (mI b bay k).set k (max 0 (mJ b bay k)) = mI b bay (k + 1) :=
 o8 8 k (fun j => if j < k then max 0 (mJ b bay j) else 0) (fun j => if j < k + 1 then max 0 (mJ b bay j) else 0) _ fun j _ => by
  by_cases e : j = k
  ·subst e; simp
  by_cases h : j < k
  ·rw [if_pos (by omega), if_neg e, if_pos h]
  rw [if_neg (by omega), if_neg e, if_neg h]
theorem IG (b : SB) (bay : Nat) {k : Nat} (hk : k < 8) : (ow b bay k).set k (max 0 (-(mJ b bay k))) = ow b bay (k + 1) :=
 o8 8 k (fun j => if j < k then max 0 (-(mJ b bay j)) else 0) (fun j => if j < k + 1 then max 0 (-(mJ b bay j)) else 0) _ fun j _ => by
  by_cases e : j = k
  ·subst e; simp
  by_cases h : j < k
  ·rw [if_pos (by omega), if_neg e, if_pos h]
  rw [if_neg (by omega), if_neg e, if_neg h]
theorem IT (b : SB) (bay : Nat) {k : Nat} (hk : k < 8) : nth (mI b bay (k + 1)) k = max 0 (mJ b bay k) := by
 rw [mI, cy _ hk]; simp
theorem td (b : SB) (bay k : Nat) : jC b bay (k + 1) = jC b bay k + max 0 (mJ b bay k) := by
 unfold jC; rw [List.range_succ, List.map_append, List.sum_append]; simp; omega
theorem qP {b : SB} (h : kN b) (bay j : Nat) : -1200 ≤ mJ b bay j ∧ mJ b bay j ≤ 1200 := h.adds _
theorem nT {b : SB} (h : kN b) (bay : Nat) : ∀ k, 0 ≤ jC b bay k ∧ jC b bay k ≤ 7200 + 1200 * k
  | 0 => by have := h.first bay; simp [jC]; omega
  | k + 1 => by
    rw [td]
    have := nT h bay k
    have := qP h bay k
    omega
structure Hj.kN (st : Hj) (k : Nat) : Prop where
  la : st.adds.length = 8
  ll : st.less.length = 8
  adds : ∀ j, 0 ≤ nth st.adds j ∧ nth st.adds j ≤ 1200
  less : ∀ j, 0 ≤ nth st.less j ∧ nth st.less j ≤ 1200
  bound : -(1200 * k) ≤ st.bound ∧ st.bound ≤ 20000
theorem gN {l : List Int} {i : Nat} (v : Int) (j : Nat) : nth (l.set i v) j = if i = j ∧ i < l.length then v else nth l j := by
 show (l.set i v).getD j default = _
 rw [List.getD_eq_getElem?_getD, List.getElem?_set]
 by_cases e : i = j
 ·subst e
  by_cases h : i < l.length
  ·simp [h]
  rw [if_pos rfl, if_neg h, if_neg (by simp [h]), HX (by omega)]; rfl
 rw [if_neg e, if_neg (by simp [e])]
 show _ = l.getD j default
 rw [List.getD_eq_getElem?_getD]
theorem LN {st : Hj} {k : Nat} {p : vO} (h : st.kN k) (h1 : 1 ≤ p.much) (hb : zU st p = false) : (GF st p).kN (k + 1) := by
 simp only [zU, Bool.or_eq_false_iff, decide_eq_false_iff_not] at hb
 have ha := h.adds p.src.toNat
 have hl := h.less p.dst.toNat
 have hbd := h.bound
 refine ⟨by simp [GF, h.la], by simp [GF, h.ll], fun j => ?_, fun j => ?_, ?_⟩
 ·simp only [GF]; rw [gN]; split
  ·omega
  exact h.adds j
 ·simp only [GF]; rw [gN]; split
  ·omega
  exact h.less j
 simp only [GF]; omega
theorem Kx {b : SB} (h : Go.Proofs.YtmmcenjknimhbaaGreat.kN b) (bay : Nat) : (FP b bay).kN 0 := by
 have hnt := h.nt
 refine ⟨by simp [FP, mI], by simp [FP, ow], fun j => ?_, fun j => ?_, ?_⟩
 ·simp only [FP, mI]
  rcases Nat.lt_or_ge j 8 with hj | hj
  ·rw [cy _ hj]; have := qP h bay j; split <;> omega
  rw [qc (by simpa using hj)]; omega
 ·simp only [FP, ow]
  rcases Nat.lt_or_ge j 8 with hj | hj
  ·rw [cy _ hj]; have := qP h bay j; split <;> omega
  rw [qc (by simpa using hj)]; omega
 have := nT h bay b.1.f.turnings.length
 simp only [FP]; omega
theorem AJ : ∀ l : List vO, l.foldl (fun o p => o.bind fun s => Ig s p) none = none
  | [] => rfl
  | _ :: l => AJ l
theorem Bg {pays : List vO} {st s : Hj} {k : Nat} (hk : k < pays.length) (h : tq st (pays.take k) = some s) : tq st (pays.take (k + 1)) = Ig s (nth pays k) := by
 unfold tq at h ⊢
 rw [bh hk, List.foldl_append, h]; rfl
theorem Iq {pays : List vO} {st s : Hj} {k : Nat} (hk : k < pays.length) (h : tq st (pays.take k) = some s) (hn : Ig s (nth pays k) = none) : tq st pays = none := by
 have := Bg hk h
 rw [hn] at this
 have e : tq st pays = (pays.drop (k + 1)).foldl (fun o p => o.bind fun s => Ig s p) (tq st (pays.take (k + 1))) := by
  unfold tq; rw [← List.foldl_append, List.take_append_drop]
 rw [e, this, AJ]
theorem xB (b : SB) (s : Nat) (m : KV) : ∀ j, mg (qn b s m j) s = mg m s + ((List.range j).map fun t => if s.testBit t then 0 else mg m ((s ||| 1 <<< t : Nat) : Int)).sum
  | 0 => by simp [qn]
  | j + 1 => by
    rw [lF, th, List.range_succ, List.map_append, List.sum_append]
    cases hb : s.testBit j with
    | true => simp only [if_true]; rw [xB b s m j]; simp [hb]
    | false =>
      simp only [Bool.false_eq_true, if_false]
      rw [oD, if_pos rfl, xB b s m j, yC b (IY hb)]
      simp [hb]; omega
theorem vY (b : SB) (q : Nat → Bool) (n : Nat) {s k : Nat} (h : n ≤ s + k) : ∀ k', k ≤ k' → k' ≤ n → mg (fu b q n k') s = mg (fu b q n k) s := by
  intro k' h1 h2
  induction k' with
  | zero => rw [show k = 0 by omega]
  | succ k' ih =>
    rcases Nat.lt_or_ge k' k with h3 | h3
    · rw [show k' + 1 = k by omega]
    · rw [fu, vA b q (by omega), ih h3 (by omega)]
theorem GA {s t n : Nat} (hs : s < 2 ^ n) (ht : t < n) : s ||| 1 <<< t < 2 ^ n := Nat.or_lt_two_pow hs (by rw [sQ]; exact Nat.pow_lt_pow_right (by omega) ht)
theorem UB {s t : Nat} (h : s.testBit t = false) : s < s ||| 1 <<< t := Nat.lt_of_le_of_ne Nat.left_le_or (fun e => IY h e.symm)
theorem Q2 {b : SB} (hb : kN b) (q : Nat → Bool) {s : Nat} (hs : s < 2 ^ b.1.f.turnings.length) :
    mg (iJ b q) s = if !eF b s || !q s then (0 : Int) else (if s + 1 = 2 ^ b.1.f.turnings.length then (1 : Int) else 0) + ((List.range b.1.f.turnings.length).map fun t => if s.testBit t then 0 else mg (iJ b q) ((s ||| 1 <<< t : Nat) : Int)).sum := by
  obtain ⟨N, hN⟩ : ∃ N, N = 1 <<< b.1.f.turnings.length := ⟨_, rfl⟩
  have hN2 : N = 2 ^ b.1.f.turnings.length := by rw [hN, sQ]
  have hw : iJ b q = fu b q N N := by rw [iJ, hN]
  have hsl := rH hb.nt
  rw [hw]
  have hfin : mg (fu b q N N) s = mg (fu b q N (N - s)) s := vY b q N (by omega) N (by omega) (Nat.le_refl _)
  have hk : N - s = (N - (s + 1)) + 1 := by omega
  rw [hfin, hk, fu, show N - (N - (s + 1) + 1) = s by omega, Ga]
  have hcl := tG hb q hN (N - (s + 1)) (by omega)
  have h0 : mg (fu b q N (N - (s + 1))) s = 0 := hcl.zero s (by omega)
  split
  · exact h0
  · rw [xB]
    have hsum : ((List.range b.1.f.turnings.length).map fun t => if s.testBit t then 0 else mg (ji b s (fu b q N (N - (s + 1)))) ((s ||| 1 <<< t : Nat) : Int)) = (List.range b.1.f.turnings.length).map fun t => if s.testBit t then 0 else mg (fu b q N N) ((s ||| 1 <<< t : Nat) : Int) := by
      refine List.map_congr_left fun t ht => ?_
      cases hbt : s.testBit t with
      | true => rfl
      | false =>
        simp only [Bool.false_eq_true, if_false]
        have := UB hbt
        rw [vv b (by omega), ← vY b q N (k := N - (s + 1)) (by omega) N (by omega) (Nat.le_refl _)]
    rw [hsum]
    congr 1
    unfold ji
    by_cases e : s + 1 = 2 ^ b.1.f.turnings.length
    · rw [if_pos (by omega), if_pos e, oD, if_pos rfl]
    · rw [if_neg (by omega), if_neg e, h0]
def lE (w : KV) (s t : Nat) : Bool := !s.testBit t && decide (mg w ((s ||| 1 <<< t : Nat) : Int) > 0)
def gQ (w : KV) (s j : Nat) : Int := match (List.range j).find? (lE w s) with | some t => (t : Int) | none => -1
def iE (w : KV) (n : Nat) : Nat → List Int × Nat
  | 0 => ([], 0)
  | i + 1 => let st := iE w n i; (st.1 ++ [gQ w st.2 n], st.2 ||| 1 <<< (gQ w st.2 n).toNat)
def vJ (f : bS) : List Int × Int := if e9 f false ≠ 0 then ([], e9 f false) else if mg (dV f) 0 = 0 then ([], 6) else ((iE (dV f) f.turnings.length f.turnings.length).1, 0)
theorem sH (w : KV) (s j : Nat) : gQ w s (j + 1) = if gQ w s j < 0 ∧ lE w s j = true then (j : Int) else gQ w s j := by
  unfold gQ
  rw [List.range_succ, List.find?_append]
  cases h : (List.range j).find? (lE w s) with
  | some t => simp only [Option.some_or]; rw [if_neg (by omega)]
  | none =>
    simp only [Option.none_or, List.find?_cons, List.find?_nil]
    cases hk : lE w s j with
    | true => simp
    | false => simp
theorem vQ (w : KV) (s j : Nat) : -1 ≤ gQ w s j ∧ gQ w s j < j := by
  induction j with
  | zero => exact ⟨Int.le_refl _, by show (-1 : Int) < ((0 : Nat) : Int); decide⟩
  | succ j ih => rw [sH]; split <;> omega
theorem yt {w : KV} {s n : Nat} (h : ∃ t, t < n ∧ lE w s t = true) : 0 ≤ gQ w s n ∧ lE w s (gQ w s n).toNat = true := by
  obtain ⟨t, ht, hk⟩ := h
  unfold gQ
  cases hf : (List.range n).find? (lE w s) with
  | some u => exact ⟨Int.natCast_nonneg u, by simpa using List.find?_some hf⟩
  | none =>
    have := List.find?_eq_none.1 hf t (List.mem_range.2 ht)
    exact absurd hk (by simpa using this)
theorem QK {l : List Int} (h : 0 < l.sum) : ∃ x ∈ l, 0 < x := by
  induction l with
  | nil => simp at h
  | cons x l ih =>
    rw [List.sum_cons] at h
    by_cases hx : 0 < x
    · exact ⟨x, List.mem_cons_self, hx⟩
    · obtain ⟨y, hy, h2⟩ := ih (by omega)
      exact ⟨y, List.mem_cons_of_mem _ hy, h2⟩
theorem alive {b : SB} (hb : kN b) (q : Nat → Bool) {s : Nat} (hs : s < 2 ^ b.1.f.turnings.length) (hp : 0 < mg (iJ b q) s) (hn : s + 1 ≠ 2 ^ b.1.f.turnings.length) : ∃ t, t < b.1.f.turnings.length ∧ lE (iJ b q) s t = true := by
  rw [Q2 hb q hs] at hp
  split at hp
  · omega
  · first | rw [if_neg hn, Int.zero_add] at hp | rw [Int.zero_add] at hp
    obtain ⟨x, hx, h0⟩ := QK hp
    obtain ⟨t, ht, rfl⟩ := List.mem_map.1 hx
    refine ⟨t, List.mem_range.1 ht, ?_⟩
    cases hbt : s.testBit t with
    | true => rw [hbt] at h0; simp at h0
    | false => rw [hbt] at h0; simp only [Bool.false_eq_true, if_false] at h0; simp [lE, hbt]; exact h0
theorem Ew : ((List.range 9).all fun n => pop (2 ^ n - 1) == n) = true := by decide +kernel
theorem vF {n : Nat} (h : n ≤ 8) : pop (2 ^ n - 1) = n := by
 have := List.all_eq_true.1 Ew n (List.mem_range.2 (by omega))
 simpa using this
theorem ug {n s : Nat} (h : n ≤ 8) (hs : s < 2 ^ n) : s < 256 := Nat.lt_of_lt_of_le hs (Nat.pow_le_pow_right (n := 2) (by omega) h)
theorem yM {w : KV} {s t : Nat} (h : lE w s t = true) : s.testBit t = false ∧ 0 < mg w ((s ||| 1 <<< t : Nat) : Int) := by
 simp only [lE, Bool.and_eq_true, Bool.not_eq_true', decide_eq_true_eq] at h; exact h
theorem ze {b : SB} (hb : kN b) (q : Nat → Bool) (h0 : 0 < mg (iJ b q) 0) : ∀ i, i ≤ b.1.f.turnings.length → (iE (iJ b q) b.1.f.turnings.length i).2 < 2 ^ b.1.f.turnings.length ∧ pop (iE (iJ b q) b.1.f.turnings.length i).2 = i ∧ 0 < mg (iJ b q) ((iE (iJ b q) b.1.f.turnings.length i).2 : Nat) ∧ (iE (iJ b q) b.1.f.turnings.length i).1.length = i
  | 0, _ => ⟨Nat.two_pow_pos _, by show pop 0 = 0; decide +kernel, h0, rfl⟩
  | i + 1, hi => by
    obtain ⟨h1, h2, h3, h4⟩ := ze hb q h0 i (by omega)
    have hnt := hb.nt
    have hne : (iE (iJ b q) b.1.f.turnings.length i).2 + 1 ≠ 2 ^ b.1.f.turnings.length := fun e => by
      have : (iE (iJ b q) b.1.f.turnings.length i).2 = 2 ^ b.1.f.turnings.length - 1 := by omega
      rw [this, vF hnt] at h2; omega
    obtain ⟨n1, n2⟩ := yt (alive hb q h1 h3 hne)
    obtain ⟨o1, o2⟩ := yM n2
    have hlt := (vQ (iJ b q) (iE (iJ b q) b.1.f.turnings.length i).2 b.1.f.turnings.length).2
    refine ⟨GA h1 (by omega), ?_, o2, ?_⟩
    · have := (A8 (ug hnt h1) (by omega) o1).1
      show pop (_ ||| _) = _
      rw [this, h2]
    · show (_ ++ [_]).length = _
      rw [List.length_append, h4]; rfl
theorem Mh {b : SB} (hb : kN b) (q : Nat → Bool) (h0 : 0 < mg (iJ b q) 0) {i : Nat} (hi : i < b.1.f.turnings.length) :
 0 ≤ gQ (iJ b q) (iE (iJ b q) b.1.f.turnings.length i).2 b.1.f.turnings.length := by
 obtain ⟨h1, h2, h3, h4⟩ := ze hb q h0 i (by omega)
 have hnt := hb.nt
 have hne : (iE (iJ b q) b.1.f.turnings.length i).2 + 1 ≠ 2 ^ b.1.f.turnings.length := fun e => by
  have : (iE (iJ b q) b.1.f.turnings.length i).2 = 2 ^ b.1.f.turnings.length - 1 := by omega
  rw [this, vF hnt] at h2; omega
 exact (yt (alive hb q h1 h3 hne)).1
theorem Gz {b : SB} (hb : kN b) (q : Nat → Bool) {s : Nat} (hs : s < 256) : 0 ≤ mg (iJ b q) s :=
 ((tG hb q rfl _ (Nat.le_refl _)).small s hs).1
structure ND where
  best : KV
  next : KV
  found : Bool
def CU (b : SB) (own : Int) (s : Nat) (st : ND) (t : Nat) : ND :=
  if s.testBit t || !eF b (s ||| 1 <<< t) then st
  else if !st.found || decide (min own (mg st.best ((s ||| 1 <<< t : Nat) : Int)) > mg st.best s) then ⟨cq st.best s (min own (mg st.best ((s ||| 1 <<< t : Nat) : Int))), cq st.next s t, true⟩
  else st
def fy (b : SB) (s : Nat) (m n : KV) (j : Nat) : ND := (List.range j).foldl (CU b (mm b (iI b s)) s) ⟨cq m s (mm b (iI b s)), n, false⟩
theorem oR (b : SB) (s : Nat) (m n : KV) (j : Nat) : fy b s m n (j + 1) = CU b (mm b (iI b s)) s (fy b s m n j) j := by simp [fy, List.range_succ]
def Bt (b : SB) (s : Nat) (x : KV × KV) : KV × KV := if !eF b s then x else ((fy b s x.1 x.2 b.1.f.turnings.length).best, (fy b s x.1 x.2 b.1.f.turnings.length).next)
def gU (b : SB) (n : Nat) : Nat → KV × KV
  | 0 => ([], [])
  | k + 1 => Bt b (n - (k + 1)) (gU b n k)
def nq (b : SB) : KV × KV := gU b (1 <<< b.1.f.turnings.length) (1 <<< b.1.f.turnings.length)
def qb (next : KV) : Nat → List Int × Nat
  | 0 => ([], 0)
  | i + 1 => let st := qb next i; (st.1 ++ [mg next st.2], st.2 ||| 1 <<< (mg next st.2).toNat)
def kI (f : bS) : List Int × Int × Int :=
  if e9 f false ≠ 0 then ([], 0, e9 f false) else ((qb (nq (aX f)).2 f.turnings.length).1, mg (nq (aX f)).1 0, 0)
def yS (n : Nat) (m : KV) : Prop := ∀ k, 0 ≤ mg m k ∧ mg m k < n ∨ mg m k = 0
theorem Ll {n : Nat} {m : KV} (h : yS n m) (k : Int) {t : Nat} (ht : t < n) : yS n (cq m k t) := fun k' => by
 rw [oD]; split
 ·left; omega
 exact h k'
theorem vL {b : SB} {s : Nat} {m n : KV} (h : yS b.1.f.turnings.length n) : ∀ j, j ≤ b.1.f.turnings.length → yS b.1.f.turnings.length (fy b s m n j).next
  | 0, _ => h
  | j + 1, hj => by
    rw [oR, CU]
    have := vL (m := m) (s := s) h j (by omega)
    split
    · exact this
    · split
      · exact Ll this _ (by omega)
      · exact this
theorem p8 (b : SB) (n : Nat) : ∀ k, yS b.1.f.turnings.length (gU b n k).2
  | 0 => fun _ => .inr rfl
  | k + 1 => by
    rw [gU, Bt]
    split
    · exact p8 b n k
    · exact vL (p8 b n k) _ (Nat.le_refl _)
theorem A9 {n : Nat} {next : KV} (h : yS n next) (hn : n ≤ 8) : ∀ i, (qb next i).2 < 256 ∧ (qb next i).1.length = i
  | 0 => ⟨by show 0 < 256; omega, rfl⟩
  | i + 1 => by
    obtain ⟨h1, h2⟩ := A9 h hn i
    have h3 := h ((qb next i).2 : Nat)
    refine ⟨?_, ?_⟩
    · show _ ||| _ < 2 ^ 8
      exact GA h1 (by omega)
    · show (_ ++ [_]).length = _
      rw [List.length_append, h2]; rfl
end Go.Proofs.YtmmcenjknimhbaaGreat
namespace Go.Proofs.YtmmcenjknimhbaaGreat
open Go Go.T
inductive lK (rules : List kT) : Int → Int → Prop
  | one {r : kT} : r ∈ rules → lK rules r.fst r.nxt
  | step {r : kT} {a : Int} : r ∈ rules → lK rules a r.fst → lK rules a r.nxt
theorem lK.trans {rules : List kT} {a b c : Int} (h1 : lK rules a b) (h2 : lK rules b c) : lK rules a c := by
  induction h2 with
  | one hr => exact .step hr h1
  | step hr _ ih => exact .step hr (ih h1)
theorem yG {rules : List kT} : ∀ (n : Nat) (t : Int) (kn : List Int), ∀ x ∈ gp rules n t kn, x ∈ kn ∨ lK rules x t
  | 0, _, _, _, h => .inl h
  | n + 1, t, kn, x, h => by
    have : ∀ (l : List kT), (∀ r ∈ l, r ∈ rules) → ∀ kn, x ∈ l.foldl (kM (gp rules n) t) kn → x ∈ kn ∨ lK rules x t := by
      intro l
      induction l with
      | nil => intro _ kn h; exact .inl h
      | cons r l ih =>
        intro hl kn h
        rcases ih (fun r hr => hl r (List.mem_cons_of_mem _ hr)) _ h with h | h
        · unfold kM at h
          split at h
          · rename_i hc
            have hr := hl r List.mem_cons_self
            rcases yG n r.fst (kn ++ [r.fst]) x h with h | h
            · rcases List.mem_append.1 h with h | h
              · exact .inl h
              · rw [List.mem_singleton.1 h, ← hc.1]; exact .inr (.one hr)
            · rw [← hc.1]; exact .inr (.step hr h)
          · exact .inl h
        · exact .inr h
    exact this rules (fun _ h => h) kn h
def JH (rules : List kT) (l : List Int) (x : Int) : Prop := ∀ r ∈ rules, r.nxt = x → r.fst ∈ l
theorem vp {rules : List kT} : ∀ (n : Nat) (t : Int) (kn : List Int), NL rules kn < n →
    JH rules (gp rules n t kn) t ∧ ∀ x ∈ gp rules n t kn, x ∈ kn ∨ JH rules (gp rules n t kn) x
  | 0, _, _, h => by omega
  | n + 1, t, kn, hn => by
    have : ∀ (l : List kT), (∀ r ∈ l, r ∈ rules) → ∀ kn, NL rules kn < n + 1 →
        (∀ r ∈ l, r.nxt = t → r.fst ∈ l.foldl (kM (gp rules n) t) kn) ∧ ∀ x ∈ l.foldl (kM (gp rules n) t) kn, x ∈ kn ∨ JH rules (l.foldl (kM (gp rules n) t) kn) x := by
      intro l
      induction l with
      | nil => intro _ kn _; exact ⟨fun _ h => (List.not_mem_nil h).elim, fun x h => .inl h⟩
      | cons r l ih =>
        intro hl kn hk
        have hr := hl r List.mem_cons_self
        have hl' : ∀ r ∈ l, r ∈ rules := fun r hr => hl r (List.mem_cons_of_mem _ hr)
        rw [List.foldl_cons]
        have hgr : zB rules kn (kM (gp rules n) t kn r) := by
          unfold kM; split
          · rename_i hc; exact (Gf hr hc.2).trans (qY rules n _ _)
          · exact .refl _ _
        have hk' : NL rules (kM (gp rules n) t kn r) < n + 1 := Nat.lt_of_le_of_lt (HG hgr.1) hk
        obtain ⟨i1, i2⟩ := ih hl' _ hk'
        have hgf := xV (rules := rules) (rec := gp rules n) (t := t) (fun t kn => qY rules n t kn) l hl' (kM (gp rules n) t kn r)
        have hmono : ∀ x ∈ kM (gp rules n) t kn r, x ∈ l.foldl (kM (gp rules n) t) (kM (gp rules n) t kn r) := hgf.1
        refine ⟨fun q hq hqt => ?_, fun x hx => ?_⟩
        · rcases List.mem_cons.1 hq with rfl | hq
          · refine hmono _ ?_
            unfold kM
            by_cases hc : q.nxt = t ∧ q.fst ∉ kn
            · rw [if_pos hc]; exact (qY rules n _ _).1 _ (by simp)
            · rw [if_neg hc]; exact Classical.byContradiction fun h => hc ⟨hqt, h⟩
          · exact i1 q hq hqt
        · rcases i2 x hx with h | h
          · unfold kM at h
            split at h
            · rename_i hc
              have hu := Jz hr hc.2
              obtain ⟨c1, c2⟩ := vp (rules := rules) n r.fst (kn ++ [r.fst]) (by omega)
              have e : kM (gp rules n) t kn r = gp rules n r.fst (kn ++ [r.fst]) := by unfold kM; rw [if_pos hc]
              rcases c2 x h with h | h
              · rcases List.mem_append.1 h with h | h
                · exact .inl h
                · rw [List.mem_singleton.1 h]
                  exact .inr fun q hq hqt => hmono _ (by rw [e]; exact c1 q hq hqt)
              · exact .inr fun q hq hqt => hmono _ (by rw [e]; exact h q hq hqt)
            · exact .inl h
          · exact .inr h
    obtain ⟨h1, h2⟩ := this rules (fun _ h => h) kn hn
    exact ⟨h1, h2⟩
theorem kF {f : bS} {a t : Int} : a ∈ wN f t ↔ lK f.rules a t := by
  constructor
  · intro h
    rcases yG _ _ _ a h with h | h
    · cases h
    · exact h
  · intro h
    obtain ⟨c1, c2⟩ := vp (f.rules.length + 1) t [] (Nat.lt_succ_of_le (SR f.rules []))
    have : ∀ {a y : Int}, lK f.rules a y → (y = t ∨ y ∈ wN f t) → a ∈ wN f t := by
      intro a y hl
      induction hl with
      | @one r hr =>
        rintro (e | hy)
        · exact c1 _ hr e
        · rcases c2 _ hy with h | h
          · cases h
          · exact h _ hr rfl
      | @step r a hr _ ih =>
        intro hy
        refine ih (.inr ?_)
        rcases hy with e | hy
        · exact c1 _ hr e
        · rcases c2 _ hy with h | h
          · cases h
          · exact h _ hr rfl
    exact this h (.inl rfl)
theorem gR {f : bS} {a t : Int} : a ∈ fW f t ↔ (0 ≤ a ∧ a < f.turnings.length) ∧ lK f.rules a t := by
 unfold fW
 rw [List.mem_filter, eW, decide_eq_true_eq, kF]
theorem mK {i j : Nat} : (1 <<< i).testBit j = decide (i = j) := by
 rw [Nat.shiftLeft_eq, Nat.one_mul, Nat.testBit_two_pow]
theorem q9 {l : List Nat} {i : Nat} (v : Nat) (j : Nat) : nth (l.set i v) j = if i = j ∧ i < l.length then v else nth l j := by
 show (l.set i v).getD j default = _
 rw [List.getD_eq_getElem?_getD, List.getElem?_set]
 by_cases e : i = j
 ·subst e
  by_cases h : i < l.length
  ·simp [h]
  rw [if_pos rfl, if_neg h, if_neg (by simp [h]), HX (by omega)]; rfl
 rw [if_neg e, if_neg (by simp [e])]
 show _ = l.getD j default
 rw [List.getD_eq_getElem?_getD]
def LX (f : bS) (out : List Nat) : Prop := ∀ t a : Nat, (nth out t).testBit a = true → lK f.rules a t
theorem Mx {f : bS} (hf : f.jQ) {out : List Nat} (h : LX f out) {r : kT} (hr : r ∈ f.rules) : LX f (fM out r) := by
 intro t a hb
 have h0 := hf.2 r hr
 unfold fM at hb
 rw [q9] at hb
 split at hb
 ·rename_i e
  have e1 : ((t : Nat) : Int) = r.nxt := by omega
  rw [Nat.testBit_or, Nat.testBit_or, mK, Bool.or_eq_true, Bool.or_eq_true, decide_eq_true_eq] at hb
  rcases hb with hb | hb | hb
  ·have := h _ _ hb; rwa [show ((r.nxt.toNat : Nat) : Int) = t by omega] at this
  ·have := h _ _ hb
   rw [show ((r.fst.toNat : Nat) : Int) = r.fst by omega] at this
   rw [e1]; exact .step hr this
  rw [e1, show (a : Int) = r.fst by omega]; exact .one hr
 exact h _ _ hb
theorem Dg {f : bS} (hf : f.jQ) : ∀ (l : List kT), (∀ r ∈ l, r ∈ f.rules) → ∀ out, LX f out → LX f (l.foldl fM out)
  | [], _, _, h => h
  | r :: l, hl, out, h => Dg hf l (fun r hr => hl r (List.mem_cons_of_mem _ hr)) _ (Mx hf h (hl r List.mem_cons_self))
theorem DK {f : bS} (hf : f.jQ) : ∀ n out, LX f out → LX f (mR f n out)
  | 0, _, h => h
  | n + 1, out, h => by
    rw [mR]; split
    · exact h
    · exact DK hf n _ (Dg hf f.rules (fun _ h => h) out h)
theorem Fz {f : bS} (hf : f.jQ) : ∀ n out, Sets out → 2040 < n + out.sum → mE f (mR f n out) = mR f n out
  | 0, out, h, hn => by have := vK h; omega
  | n + 1, out, h, hn => by
    rw [mR]; split
    · assumption
    · rename_i hne
      obtain ⟨m, e, _, h2, h3⟩ := Dh hf h hn hne
      have : m = n := by omega
      subst this
      exact Fz hf _ _ h2 h3
theorem HC : ∀ (l : List kT) (out : List Nat), Sets out → (∀ r ∈ l, r.fst.toNat < 8 ∧ r.nxt.toNat < 8) → l.foldl fM out = out → ∀ r ∈ l, fM out r = out
  | [], _, _, _, _, _, h => by cases h
  | r :: l, out, h, hl, he, q, hq => by
    have hr := hl r List.mem_cons_self
    obtain ⟨a1, a2⟩ := Cj h hr.2
    obtain ⟨_, b2, _⟩ := nE l (fM out r) (Cm h hr.1) fun x hx => hl x (List.mem_cons_of_mem _ hx)
    rw [List.foldl_cons] at he
    have e1 : fM out r = out := a2 (by rw [he] at b2; omega)
    rcases List.mem_cons.1 hq with rfl | hq
    · exact e1
    · rw [e1] at he
      exact HC l out h (fun x hx => hl x (List.mem_cons_of_mem _ hx)) he q hq
theorem nZ {f : bS} (hf : f.jQ) {a t : Int} (h : lK f.rules a t) : (0 ≤ a ∧ a < f.turnings.length) ∧ (0 ≤ t ∧ t < f.turnings.length) := by
  induction h with
  | one hr => exact hf.2 _ hr
  | step hr _ ih => exact ⟨ih.1, (hf.2 _ hr).2⟩
theorem pz {f : bS} (hf : f.jQ) (t a : Nat) : (nth (gm f) t).testBit a = true ↔ lK f.rules a t := by
  constructor
  · refine DK hf _ _ (fun t a hb => ?_) t a
    have h0 : nth (List.replicate 8 0) t = 0 := by
      show (List.replicate 8 0).getD t default = 0
      rw [List.getD_eq_getElem?_getD, List.getElem?_replicate]; split <;> rfl
    rw [h0, Nat.zero_testBit] at hb; cases hb
  · have hs := k8 hf
    have hfix : mE f (gm f) = gm f := Fz hf _ _ ue (by decide)
    have hstep := HC f.rules (gm f) hs (uT hf) hfix
    have key : ∀ {a t : Int}, lK f.rules a t → (nth (gm f) t.toNat).testBit a.toNat = true := by
      intro a t hl
      induction hl with
      | @one r hr =>
        have h8 := uT hf r hr
        have e := congrArg (fun l => nth l r.nxt.toNat) (hstep r hr)
        simp only [fM] at e
        rw [q9, if_pos ⟨rfl, by rw [hs.len]; exact h8.2⟩] at e
        rw [← e, Nat.testBit_or, Nat.testBit_or, mK]; simp
      | @step r a hr _ ih =>
        have h8 := uT hf r hr
        have e := congrArg (fun l => nth l r.nxt.toNat) (hstep r hr)
        simp only [fM] at e
        rw [q9, if_pos ⟨rfl, by rw [hs.len]; exact h8.2⟩] at e
        rw [← e, Nat.testBit_or, Nat.testBit_or, ih]; simp
    intro h
    simpa using key h
theorem PG {f : bS} (hf : f.jQ) : xD f = (tD f.turnings.length).any fun t => decide (t ∈ fW f t) := by
 rw [Bool.eq_iff_iff, xD, List.any_eq_true, List.any_eq_true]
 constructor
 ·rintro ⟨t, ht, hb⟩
  have hl := (pz hf t t).1 hb
  have hn := nZ hf hl
  exact ⟨(t : Int), eW.2 hn.1, by rw [decide_eq_true_eq, gR]; exact ⟨hn.1, hl⟩⟩
 rintro ⟨t, ht, hb⟩
 rw [decide_eq_true_eq, gR] at hb
 obtain ⟨n, rfl⟩ := Int.eq_ofNat_of_zero_le hb.1.1
 have := hf.1
 exact ⟨n, List.mem_range.2 (by omega), (pz hf n n).2 hb.2⟩
theorem jY {α : Type} (q p : α → Bool) (l : List α) (h : ∀ x, q x = !p x) : (!l.all q) = l.any p := by
 rw [List.all_eq_not_any_not, Bool.not_not]
 congr 1
 funext x; rw [h, Bool.not_not]
theorem kS (n lo hi : Int) : fE n lo hi = !dW n lo hi := by
 rw [fE, dW, Bool.eq_iff_iff]
 simp only [Bool.and_eq_true, decide_eq_true_eq, Bool.not_eq_true', Bool.or_eq_false_iff, decide_eq_false_iff_not]
 omega
theorem RZ {α : Type} [Inhabited α] (p : α → Bool) (l : List α) : ((tD l.length).any fun i => p (nth l i.toNat)) = l.any p := by
 rw [Bool.eq_iff_iff, List.any_eq_true, List.any_eq_true]
 constructor
 ·rintro ⟨x, hx, h⟩
  have := eW.1 hx
  exact ⟨_, bL (by omega), h⟩
 rintro ⟨x, hx, h⟩
 obtain ⟨i, hi, rfl⟩ := List.getElem_of_mem hx
 exact ⟨(i : Int), eW.2 ⟨by omega, by omega⟩, by rw [show ((i : Int)).toNat = i from rfl, cE hi]; exact h⟩
theorem Qh {α : Type} (p q : α → Bool) (l : List α) : (l.any fun x => p x || q x) = (l.any p || l.any q) := by
  induction l with
  | nil => rfl
  | cons x l ih => simp only [List.any_cons, ih]; cases p x <;> cases q x <;> simp
theorem jN (f : bS) : bk f = gX f := by
 have e1 : k6 f = (f.many || f.bins.any fun b => !decide ((b.shares.length : Int) = f.bears.length)) := by
  rw [k6, bS.many, kS, Bool.not_not, jY _ (fun b : p9 => !decide ((b.shares.length : Int) = f.bears.length)) _ (fun _ => by rw [Bool.not_not])]
 have e2 : mH f = ((f.bears.any fun n => dW n 0 4000) || f.turnings.any fun t => dW t.sacks 1 300) := by
  rw [mH, jY _ (fun n => dW n 0 4000) _ (fun _ => kS _ _ _), jY _ (fun t : mQ => dW t.sacks 1 300) _ (fun _ => kS _ _ _)]
 have e3 : nX f = f.bins.any fun b => dW b.has 0 300 || b.shares.any fun n => dW n 0 4 := by
  rw [nX, jY _ (fun b : p9 => dW b.has 0 300 || b.shares.any fun n => dW n 0 4) _ fun b : p9 => by rw [Bool.not_or, kS, ← jY (fun n => fE n 0 4) (fun n => dW n 0 4) b.shares (fun _ => kS _ _ _), Bool.not_not]]
 have e4 : qH f = ((f.turnings.any fun t => dW t.src (-1) (f.bins.length - 1) || dW t.dst (-1) (f.bins.length - 1)) || f.rules.any fun r => dW r.fst 0 (f.turnings.length - 1) || dW r.nxt 0 (f.turnings.length - 1)) := by
  rw [qH, jY _ (fun t : mQ => dW t.src (-1) (f.bins.length - 1) || dW t.dst (-1) (f.bins.length - 1)) _ (fun _ => by rw [Bool.not_or, kS, kS]), jY _ (fun r : kT => dW r.fst 0 (f.turnings.length - 1) || dW r.nxt 0 (f.turnings.length - 1)) _ (fun _ => by rw [Bool.not_or, kS, kS])]
 have e5 : uq f = f.turnings.any fun t => decide (t.src = t.dst) := by rw [uq, jY _ _ _ fun _ => rfl]
 have e6 : (r6 f || wo f) = (tD f.bins.length).any fun i => f.lW i.toNat (f.bins.getD i.toNat default) := by
  have h6 : r6 f = (tD f.bins.length).any fun i => !decide ((nth f.bins i.toNat).shares.sum = 4) := by
   rw [r6, jY _ (fun b : p9 => !decide (b.shares.sum = 4)) _ (fun _ => by rw [Bool.not_not]), RZ (fun b : p9 => !decide (b.shares.sum = 4))]
  rw [h6, wo, ← Qh, Bool.eq_iff_iff, List.any_eq_true, List.any_eq_true]
  have : ∀ i ∈ tD f.bins.length, f.lW i.toNat (f.bins.getD i.toNat default) = (!decide ((nth f.bins i.toNat).shares.sum = 4) || decide (gu f f.turnings i > (nth f.bins i.toNat).has)) := fun i hi => by
   have := eW.1 hi
   rw [bS.lW, show ((i.toNat : Nat) : Int) = i by omega]; rfl
  exact ⟨fun ⟨i, hi, h⟩ => ⟨i, hi, by rw [this i hi]; exact h⟩, fun ⟨i, hi, h⟩ => ⟨i, hi, by rw [← this i hi]; exact h⟩⟩
 have e7 : ia f = 0 → xD f = (tD f.turnings.length).any fun t => decide (t ∈ fW f t) := fun h => PG (qw h).ruled
 rw [bk, gX, vW]
 rw [← e6]
 unfold ia at e7 ⊢
 rw [e1, e2, e3, e4, e5] at e7 ⊢
 revert e7
 generalize (f.bins.any fun b => !decide ((b.shares.length : Int) = f.bears.length)) = b2
 generalize f.many = b1
 generalize (f.bears.any fun n => dW n 0 4000) = b3
 generalize (f.turnings.any fun t => dW t.sacks 1 300) = b5
 generalize (f.bins.any fun b => dW b.has 0 300 || b.shares.any fun n => dW n 0 4) = b4
 generalize (f.turnings.any fun t => dW t.src (-1) (f.bins.length - 1) || dW t.dst (-1) (f.bins.length - 1)) = c1
 generalize (f.rules.any fun r => dW r.fst 0 (f.turnings.length - 1) || dW r.nxt 0 (f.turnings.length - 1)) = c2
 generalize (f.turnings.any fun t => decide (t.src = t.dst)) = c3
 generalize r6 f = c4
 generalize wo f = c5
 generalize xD f = d1
 generalize ((tD f.turnings.length).any fun t => decide (t ∈ fW f t)) = d2
 cases b1 <;> cases b2 <;> (try (intro _; rfl)) <;> cases b3 <;> cases b5 <;> cases b4 <;> (try (intro _; rfl)) <;> cases c1 <;> cases c2 <;> (try (intro _; rfl)) <;> cases c3 <;> cases c4 <;> cases c5 <;> (try (intro _; rfl)) <;> (intro h; rw [h (by simp)]; rfl)
end Go.Proofs.YtmmcenjknimhbaaGreat
namespace Go.Proofs.YtmmcenjknimhbaaGreat
open Go Go.T
def Sy (l : List vO) (t : Int) : Int := (l.map fun p => if p.src = t then p.much else 0).sum
def SA (l : List vO) (t : Int) : Int := (l.map fun p => if p.dst = t then p.much else 0).sum
def Pos (l : List vO) : Prop := ∀ p ∈ l, 1 ≤ p.much
theorem ir (n : Nat) (g : Nat → Int) : ((List.range (n + 1)).map g).sum = ((List.range n).map g).sum + g n := by simp [List.range_succ]
theorem Bz (n : Nat) (g h : Nat → Int) : ((List.range n).map fun i => g i + h i).sum = ((List.range n).map g).sum + ((List.range n).map h).sum := by
  induction n with
  | zero => rfl
  | succ n ih => rw [ir, ir, ir, ih]; omega
theorem nS : ∀ n, ((List.range n).map fun _ => (0 : Int)).sum = 0
  | 0 => rfl
  | n + 1 => by rw [ir, nS n]; rfl
theorem CF (n : Nat) (x m : Int) (h : 0 ≤ x ∧ x < n) : ((List.range n).map fun (t : Nat) => if x = (t : Int) then m else 0).sum = m := by
  induction n with
  | zero => omega
  | succ n ih =>
    rw [ir]
    by_cases e : x = (n : Int)
    · have : ((List.range n).map fun (t : Nat) => if x = (t : Int) then m else 0).sum = 0 := by
        have : ((List.range n).map fun (t : Nat) => if x = (t : Int) then m else 0) = (List.range n).map fun _ => 0 := List.map_congr_left fun t ht => by
          have := List.mem_range.1 ht
          rw [if_neg (by omega)]
        rw [this, nS]
      rw [this, if_pos e]; omega
    · rw [ih (by omega), if_neg e]; omega
structure Hj.Ok (st : Hj) : Prop where
  la : st.adds.length = 8
  ll : st.less.length = 8
  adds : ∀ t, 0 ≤ nth st.adds t
  less : ∀ t, 0 ≤ nth st.less t
theorem rP (f : bS) {s : List Int} {i : Nat} (v : Int) (hi : i < s.length) (b : Nat) : ∀ n, nu f (s.set i v) n b = nu f s n b + if i < n then (v - nth s i) * nth (nth f.bins i).shares b else 0
  | 0 => by simp [nu]
  | n + 1 => by
    rw [sY, sY, rP f v hi b n, gN]
    by_cases e : i = n
    · subst e
      rw [if_neg (by omega), if_pos ⟨rfl, hi⟩, if_pos (by omega), Int.sub_mul]; omega
    · have h2 : (if i = n ∧ i < s.length then v else nth s n) = nth s n := if_neg (fun x => e x.1)
      rw [h2]
      by_cases h : i < n
      · rw [if_pos h, if_pos (by omega)]; omega
      · rw [if_neg h, if_neg (by omega)]; omega
theorem kY (f : bS) (s : List Int) {b : Nat} (hb : b < f.bears.length) : nth (sF f s) b = nu f s f.bins.length b := cy _ hb
theorem first_eq (f : bS) {b : Nat} (hb : b < f.bears.length) : nth (nth (gF f []) 0) b = gW f b f.bins.length := by
  rw [jz (order := []) (k := 0) (Nat.zero_le _), kY f _ hb]
  have : ∀ n, n ≤ f.bins.length → nu f (kD f [] 0) n b = gW f b n := by
    intro n
    induction n with
    | zero => intro _; rfl
    | succ n ih =>
      intro hn
      rw [sY, rZ f b hn, ih (by omega)]
      have : nth (kD f [] 0) n = (nth f.bins n).has := by
        show nth (f.bins.map p9.has) n = _
        rw [cE (by rw [List.length_map]; exact hn), cE hn]; simp
      rw [this]
  exact this _ (Nat.le_refl _)
theorem KU {f : bS} (hn : f.Dj) {t : Nat} (ht : t < f.turnings.length) {b : Nat} (hb : b < f.bears.length) : S4 f t b = xL f t b := by
 have h := hn _ (bL ht)
 unfold S4
 rw [jz (order := [(t : Int)]) (k := 1) (Nat.le_refl _), jz (order := [(t : Int)]) (k := 0) (Nat.zero_le _), kY f _ hb, kY f _ hb]
 have e0 : kD f [(t : Int)] 0 = f.bins.map p9.has := rfl
 have e1 : kD f [(t : Int)] 1 = kX f (f.bins.map p9.has) (t : Int) := rfl
 rw [e0, e1, kX, show ((t : Int)).toNat = t from rfl, xL]
 have hl : (f.bins.map p9.has).length = f.bins.length := by simp
 generalize f.bins.map p9.has = s at hl
 generalize nth f.turnings t = u at h
 have h1 : nu f (lf u s) f.bins.length b = nu f s f.bins.length b - u.sacks * iw f u.src b := by
  unfold lf iw
  by_cases e : u.src ≥ 0
  ·rw [if_pos e, if_neg (by omega), rP f _ (by omega) b, if_pos (by omega)]
   rw [show nth s u.src.toNat - u.sacks - nth s u.src.toNat = -u.sacks by omega, Int.neg_mul]; omega
  rw [if_neg e, if_pos (by omega), Int.mul_zero]; omega
 have h2 : nu f (wB u (lf u s)) f.bins.length b = nu f (lf u s) f.bins.length b + u.sacks * iw f u.dst b := by
  have hl1 := xM u s
  unfold wB iw
  by_cases e : u.dst ≥ 0
  ·rw [if_pos e, if_neg (by omega), rP f _ (by omega) b, if_pos (by omega)]
   rw [show nth (lf u s) u.dst.toNat + u.sacks - nth (lf u s) u.dst.toNat = u.sacks by omega]
  rw [if_neg e, if_pos (by omega), Int.mul_zero]; omega
 rw [h2, h1, Int.mul_sub]; omega
theorem RI {f : bS} (h : bk f = 0) {t n : Nat} (ht : t < f.turnings.length) (hn : n < f.bears.length) : mJ (aX f) n t = S4 f t n := by
 have hr := (cB h).ranged
 have h4 := hr.bears
 have h8 := hr.turnings
 rw [mJ, l9 h, KU (cB h).named ht hn]
 show nth ((List.range 32).map (AG f f.bears.length 0)) (t * 4 + n) = _
 rw [cy _ (by omega), AG, show (t * 4 + n) / 4 = t by omega, show (t * 4 + n) % 4 = n by omega, if_pos ⟨ht, .inl hn⟩]
theorem La {f : bS} (h : bk f = 0) {n : Nat} (hn : n < f.bears.length) : nth (aX f).1.first n = nth (nth (gF f []) 0) n := by
 have h4 := (cB h).ranged.bears
 rw [l9 h, first_eq f hn]
 show nth ((List.range 4).map (mG f f.bears.length 0)) n = _
 rw [cy _ (by omega), mG, if_pos hn]
end Go.Proofs.YtmmcenjknimhbaaGreat
namespace Go.Proofs.YtmmcenjknimhbaaGreat
open Go Go.T
end Go.Proofs.YtmmcenjknimhbaaGreat
namespace Go.Proofs.YtmmcenjknimhbaaGreat
open Go Go.T
theorem sJ {s : Nat} {t : Int} : t ∈ cR s ↔ ∃ i : Nat, i < 8 ∧ s.testBit i = true ∧ t = i := by
 constructor
 ·intro h
  obtain ⟨i, hi, rfl⟩ := List.mem_map.1 h
  obtain ⟨h1, h2⟩ := List.mem_filter.1 hi
  exact ⟨i, List.mem_range.1 h1, h2, rfl⟩
 rintro ⟨i, hi, hb, rfl⟩
 exact List.mem_map.2 ⟨i, List.mem_filter.2 ⟨List.mem_range.2 hi, hb⟩, rfl⟩
theorem Bb {s i n : Nat} (h : s < 2 ^ n) (hb : s.testBit i = true) : i < n := by
 rcases Nat.lt_or_ge i n with h1 | h1
 ·exact h1
 rw [Nat.testBit_lt_two_pow (Nat.lt_of_lt_of_le h (Nat.pow_le_pow_right (by omega) h1))] at hb; cases hb
theorem LJ {f : bS} (h : bk f = 0) : (aX f).1.before = gm f := by rw [l9 h]; rfl
theorem P9 {f : bS} (h : bk f = 0) : f.turnings.length ≤ 8 := (cB h).ruled.1
theorem pZ {f : bS} (h : bk f = 0) {s : Nat} (hs : s < 2 ^ f.turnings.length) : eF (aX f) s = true ↔ ∀ t a : Nat, s.testBit t = true → lK f.rules a t → s.testBit a = true := by
 have hr := (cB h).ruled
 have hn := P9 h
 have h256 := ug hn hs
 have hst := k8 hr
 unfold eF
 rw [List.all_eq_true, LJ h]
 constructor
 ·intro hw t a ht hl
  have ht8 : t < 8 := by have := Bb hs ht; omega
  have := of_decide_eq_true (hw (t : Int) (sJ.2 ⟨t, ht8, ht, rfl⟩))
  rw [Int.toNat_natCast, yP (by have := hst.nth t; omega) (by omega)] at this
  exact this a ((pz hr t a).2 hl)
 intro hw x hx
 obtain ⟨t, ht8, ht, rfl⟩ := sJ.1 hx
 rw [Int.toNat_natCast]
 refine decide_eq_true ((yP (by have := hst.nth t; omega) (by omega)).2 fun a ha => hw t a ht ((pz hr t a).1 ha))
theorem Aj {f : bS} (h : bk f = 0) (t : Int) : ¬ lK f.rules t t := by
 intro hl
 have hr := (cB h).ruled
 have hc : xD f = false := by
  unfold bk at h
  split at h
  ·exact absurd h ‹_›
  split at h
  ·cases h
  exact Bool.eq_false_iff.2 ‹_›
 have hin := nZ hr hl
 obtain ⟨k, rfl⟩ := Int.eq_ofNat_of_zero_le hin.1.1
 have := fK hc (List.mem_range.2 (show k < 8 by have := hr.1; omega))
 rw [(pz hr k k).2 hl] at this
 cases this
theorem uz {s t a : Nat} : (s ||| 1 <<< t).testBit a = (s.testBit a || decide (t = a)) := by rw [Nat.testBit_or, mK]
structure CI (f : bS) (done : List Int) (s : Nat) : Prop where
  rng : ∀ t ∈ done, 0 ≤ t ∧ t < f.turnings.length
  nodup : done.Nodup
  bit : ∀ a : Nat, s.testBit a = true ↔ (a : Int) ∈ done
  lt : s < 2 ^ f.turnings.length
  pop : pop s = done.length
  whole : eF (aX f) s = true
theorem KW {f : bS} (h : bk f = 0) : CI f [] 0 where
 rng _ h := by cases h
 nodup := List.nodup_nil
 bit a := by simp
 lt := Nat.two_pow_pos _
 pop := by decide +kernel
 whole := (pZ h (Nat.two_pow_pos _)).2 fun t a ht => by simp at ht
theorem nI {f : bS} (h : bk f = 0) {done : List Int} {s : Nat} (hr : CI f done s) {t : Nat} (ht : t < f.turnings.length) : jS f done t = true ↔ s.testBit t = false ∧ eF (aX f) (s ||| 1 <<< t) = true := by
 have hru := (cB h).ruled
 unfold jS
 rw [pZ h (GA hr.lt ht), Bool.and_eq_true, Bool.not_eq_true', decide_eq_false_iff_not, List.all_eq_true]
 have hb : s.testBit t = false ↔ ¬ (t : Int) ∈ done := by rw [← hr.bit t, Bool.not_eq_true]
 rw [hb]
 refine and_congr_right fun hnd => ⟨fun hall u a hu hl => ?_, fun hall x hx => ?_⟩
 ·rw [uz] at hu ⊢
  rw [Bool.or_eq_true] at hu ⊢
  rcases hu with hu | hu
  ·exact .inl ((pZ h hr.lt).1 hr.whole u a hu hl)
  obtain rfl : t = u := of_decide_eq_true hu
  have hl' := nZ hru hl
  have := of_decide_eq_true (hall (a : Int) (gR.2 ⟨hl'.1, hl⟩))
  exact .inl ((hr.bit a).2 this)
 obtain ⟨hx1, hx2⟩ := gR.1 hx
 obtain ⟨a, rfl⟩ := Int.eq_ofNat_of_zero_le hx1.1
 have := hall t a (by rw [uz]; simp) hx2
 rw [uz, Bool.or_eq_true] at this
 rcases this with h1 | h1
 ·exact decide_eq_true ((hr.bit a).1 h1)
 obtain rfl : t = a := of_decide_eq_true h1
 exact absurd hx2 (Aj h _)
theorem E2 {f : bS} (h : bk f = 0) {done : List Int} {s : Nat} (hr : CI f done s) {t : Nat} (ht : t < f.turnings.length) (hb : s.testBit t = false) (hw : eF (aX f) (s ||| 1 <<< t) = true) : CI f (done ++ [(t : Int)]) (s ||| 1 <<< t) where
 rng x hx := by
  rcases List.mem_append.1 hx with h1 | h1
  ·exact hr.rng x h1
  rw [List.mem_singleton.1 h1]; omega
 nodup := by
  rw [List.nodup_append]
  refine ⟨hr.nodup, by simp, fun x hx y hy => ?_⟩
  rw [List.mem_singleton.1 hy]
  rintro rfl
  rw [(hr.bit t).2 hx] at hb; cases hb
 bit a := by
  rw [uz, Bool.or_eq_true, hr.bit a, List.mem_append, List.mem_singleton, decide_eq_true_eq]
  exact or_congr_right ⟨fun e => by rw [e], fun e => by omega⟩
 lt := GA hr.lt ht
 pop := by
  rw [(A8 (ug (P9 h) hr.lt) (by have := P9 h; omega) hb).1, hr.pop]; simp
 whole := hw
theorem NS : ((List.range 9).all fun n => (List.range (2 ^ n)).all fun s => !(pop s == n) || s + 1 == 2 ^ n) = true := by decide +kernel
theorem Gu {n s : Nat} (hn : n ≤ 8) (hs : s < 2 ^ n) (h : pop s = n) : s + 1 = 2 ^ n := by
 have := List.all_eq_true.1 (List.all_eq_true.1 NS n (List.mem_range.2 (by omega))) s (List.mem_range.2 hs)
 rw [h] at this; simpa using this
theorem CI.full {f : bS} (h : bk f = 0) {done : List Int} {s : Nat} (hr : CI f done s) : done.length = f.turnings.length ↔ s + 1 = 2 ^ f.turnings.length := by
 rw [← hr.pop]
 refine ⟨Gu (P9 h) hr.lt, fun e => ?_⟩
 rw [show s = 2 ^ f.turnings.length - 1 by omega, vF (P9 h)]
theorem JC : ((List.range 9).all fun n => (List.range (2 ^ n)).all fun s => Nat.ble (pop s) n) = true := by decide +kernel
theorem CI.le {f : bS} (h : bk f = 0) {done : List Int} {s : Nat} (hr : CI f done s) : done.length ≤ f.turnings.length := by
 have := List.all_eq_true.1 (List.all_eq_true.1 JC f.turnings.length (List.mem_range.2 (by have := P9 h; omega))) s (List.mem_range.2 hr.lt)
 rw [Nat.ble_eq, hr.pop] at this; exact this
theorem yu {α : Type} {p q : α → Bool} : ∀ {l : List α}, (∀ x ∈ l, p x = true → q x = true) → ∀ {a : α}, a ∈ l → q a = true → p a = false → (l.filter p).length < (l.filter q).length
  | [], _, _, ha, _, _ => by cases ha
  | x :: l, h, a, ha, hq, hp => by
    have hle : (l.filter p).length ≤ (l.filter q).length := by
      have hl : ∀ x ∈ l, p x = true → q x = true := fun x hx => h x (List.mem_cons_of_mem _ hx)
      clear h ha
      induction l with
      | nil => simp
      | cons y l ih =>
        have h1 := hl y List.mem_cons_self
        have h2 := ih fun z hz => hl z (List.mem_cons_of_mem _ hz)
        rw [List.filter_cons, List.filter_cons]
        cases hpy : p y with
        | true => rw [h1 hpy]; simp; omega
        | false => cases q y <;> simp <;> omega
    rcases List.mem_cons.1 ha with rfl | ha
    · rw [List.filter_cons, List.filter_cons, hp, hq]; simp; omega
    · have := yu (fun y hy => h y (List.mem_cons_of_mem _ hy)) ha hq hp
      have h1 := h x List.mem_cons_self
      rw [List.filter_cons, List.filter_cons]
      cases hpx : p x with
      | true => rw [h1 hpx]; simp; omega
      | false => cases q x <;> simp <;> omega
theorem JU {f : bS} (h : bk f = 0) {done : List Int} {s : Nat} (hr : CI f done s) (hlt : done.length < f.turnings.length) : ∃ t : Nat, t < f.turnings.length ∧ s.testBit t = false ∧ eF (aX f) (s ||| 1 <<< t) = true := by
  have key : ∀ k t : Nat, t < f.turnings.length → s.testBit t = false → (fW f t).length ≤ k → ∃ t : Nat, t < f.turnings.length ∧ s.testBit t = false ∧ eF (aX f) (s ||| 1 <<< t) = true := by
    intro k
    induction k with
    | zero =>
      intro t ht hb hk
      have : fW f t = [] := List.eq_nil_of_length_eq_zero (by omega)
      refine ⟨t, ht, (nI h hr ht).1 ?_⟩
      unfold jS
      rw [this]
      have : ¬ (t : Int) ∈ done := fun hx => by rw [(hr.bit t).2 hx] at hb; cases hb
      simp [this]
    | succ k ih =>
      intro t ht hb hk
      cases hrd : jS f done t with
      | true => exact ⟨t, ht, (nI h hr ht).1 hrd⟩
      | false =>
        have hnd : ¬ (t : Int) ∈ done := fun hx => by rw [(hr.bit t).2 hx] at hb; cases hb
        unfold jS at hrd
        rw [decide_eq_false hnd] at hrd
        simp only [Bool.not_false, Bool.true_and] at hrd
        have : ∃ a ∈ fW f t, ¬ a ∈ done := by
          apply Classical.byContradiction
          intro hno
          rw [List.all_eq_true.2 (fun a ha => decide_eq_true (Classical.byContradiction fun hx => hno ⟨a, ha, hx⟩))] at hrd
          cases hrd
        obtain ⟨a, ha, had⟩ := this
        obtain ⟨⟨ha1, ha2⟩, hl⟩ := gR.1 ha
        obtain ⟨n, rfl⟩ := Int.eq_ofNat_of_zero_le ha1
        refine ih n (by omega) (Bool.eq_false_iff.2 fun hx => had ((hr.bit n).1 hx)) ?_
        have : (fW f n).length < (fW f t).length := by
          unfold fW
          refine yu (a := (n : Int)) (fun x _ hx => ?_) (eW.2 ⟨ha1, ha2⟩) ?_ ?_
          · exact decide_eq_true (kF.2 (lK.trans (kF.1 (of_decide_eq_true hx)) hl))
          · exact decide_eq_true (kF.2 hl)
          · exact decide_eq_false fun hx => Aj h _ (kF.1 hx)
        omega
  have : ∃ t : Nat, t < f.turnings.length ∧ s.testBit t = false := by
    apply Classical.byContradiction
    intro hno
    have e : s = 2 ^ f.turnings.length - 1 := by
      apply Nat.eq_of_testBit_eq
      intro i
      rw [Nat.testBit_two_pow_sub_one]
      by_cases hi : i < f.turnings.length
      · rw [decide_eq_true hi]
        exact Classical.byContradiction fun hx => hno ⟨i, hi, Bool.eq_false_iff.2 hx⟩
      · rw [decide_eq_false hi]
        exact Bool.eq_false_iff.2 fun hx => hi (Bb hr.lt hx)
    have := (hr.full h).2 (by have := Nat.two_pow_pos f.turnings.length; omega)
    omega
  obtain ⟨t, ht, hb⟩ := this
  exact key _ t ht hb (Nat.le_refl _)
end Go.Proofs.YtmmcenjknimhbaaGreat
namespace Go.Proofs.YtmmcenjknimhbaaGreat
open Go Go.T
end Go.Proofs.YtmmcenjknimhbaaGreat
namespace Go.Proofs.YtmmcenjknimhbaaGreat
open Go Go.T
theorem MX {f : bS} (h : bk f = 0) {l : List Int} {s : Nat} (hr : CI f l s) (hl : l.length = f.turnings.length) {t : Int} (ht : 0 ≤ t ∧ t < f.turnings.length) : t ∈ l := by
 obtain ⟨k, rfl⟩ := Int.eq_ofNat_of_zero_le ht.1
 have hf := (hr.full h).1 hl
 rw [← hr.bit k, show s = 2 ^ f.turnings.length - 1 by omega, Nat.testBit_two_pow_sub_one]
 exact decide_eq_true (by omega)
theorem DR {f : bS} (hn : f.Dj) {t : Nat} (ht : t < f.turnings.length) {s : List Int} (hl : s.length = f.bins.length) (b : Nat) : nu f (kX f s (t : Int)) f.bins.length b = nu f s f.bins.length b + xL f t b := by
 have h := hn _ (bL ht)
 rw [kX, show ((t : Int)).toNat = t from rfl, xL]
 generalize nth f.turnings t = u at h
 have h1 : nu f (lf u s) f.bins.length b = nu f s f.bins.length b - u.sacks * iw f u.src b := by
  unfold lf iw
  by_cases e : u.src ≥ 0
  ·rw [if_pos e, if_neg (by omega), rP f _ (by omega) b, if_pos (by omega)]
   rw [show nth s u.src.toNat - u.sacks - nth s u.src.toNat = -u.sacks by omega, Int.neg_mul]; omega
  rw [if_neg e, if_pos (by omega), Int.mul_zero]; omega
 have h2 : nu f (wB u (lf u s)) f.bins.length b = nu f (lf u s) f.bins.length b + u.sacks * iw f u.dst b := by
  have hl1 := xM u s
  unfold wB iw
  by_cases e : u.dst ≥ 0
  ·rw [if_pos e, if_neg (by omega), rP f _ (by omega) b, if_pos (by omega)]
   rw [show nth (lf u s) u.dst.toNat + u.sacks - nth (lf u s) u.dst.toNat = u.sacks by omega]
  rw [if_neg e, if_pos (by omega), Int.mul_zero]; omega
 rw [h2, h1, Int.mul_sub]; omega
theorem Ak {α : Type} (p : α → Bool) (g : α → Int) : ∀ l : List α, ((l.filter p).map g).sum = (l.map fun x => if p x = true then g x else 0).sum
  | [] => rfl
  | x :: l => by
    rw [List.filter_cons]
    cases hp : p x <;> simp [hp, Ak p g l]
theorem rU (b : SB) (s i : Nat) : loadAt b (cR s) i = nth b.1.first i + ((List.range 8).map fun t => if s.testBit t = true then nth b.1.adds (t * 4 + i) else 0).sum := by
 unfold loadAt cR ox
 rw [List.map_map, ← Ak]; rfl
theorem Ic (b : SB) {s t i : Nat} (ht : t < 8) (hi : i < 4) (hb : s.testBit t = false) : nth (iI b (s ||| 1 <<< t)) i = nth (iI b s) i + nth b.1.adds (t * 4 + i) := by
 rw [sZ b _ hi, sZ b _ hi, rU, rU]
 have : ((List.range 8).map fun u => if (s ||| 1 <<< t).testBit u = true then nth b.1.adds (u * 4 + i) else 0) = (List.range 8).map fun u => (if s.testBit u = true then nth b.1.adds (u * 4 + i) else 0) + (if (t : Int) = (u : Int) then nth b.1.adds (t * 4 + i) else 0) := by
  refine List.map_congr_left fun u _ => ?_
  rw [uz]
  by_cases e : t = u
  ·subst e; simp [hb]
  rw [decide_eq_false e, Bool.or_false, if_neg (c := (t : Int) = (u : Int)) (by omega)]; omega
 rw [this, Bz, CF 8 _ _ (by omega)]; omega
def Agree (f : bS) (st : List Int) (s : Nat) : Prop := st.length = f.bins.length ∧ ∀ b, b < f.bears.length → nth (sF f st) b = nth (iI (aX f) s) b
theorem Il {f : bS} (h : bk f = 0) : Agree f (f.bins.map p9.has) 0 := by
 refine ⟨by simp, fun b hb => ?_⟩
 have h4 := (cB h).ranged.bears
 rw [sZ _ _ (by omega), rU, La h hb, jz (order := []) (k := 0) (Nat.zero_le _)]
 have : ((List.range 8).map fun t => if (0 : Nat).testBit t = true then nth (aX f).1.adds (t * 4 + b) else 0) = (List.range 8).map fun _ => (0 : Int) := List.map_congr_left fun t _ => by simp
 rw [this, nS, Int.add_zero]; rfl
theorem IE {f : bS} (h : bk f = 0) {st : List Int} {s t : Nat} (ha : Agree f st s) (ht : t < f.turnings.length) (hb : s.testBit t = false) : Agree f (kX f st (t : Int)) (s ||| 1 <<< t) := by
 have hrt := cB h
 refine ⟨by rw [CR, ha.1], fun b hbb => ?_⟩
 have h4 := hrt.ranged.bears
 have h8 := hrt.ranged.turnings
 rw [Ic _ (by omega) (by omega) hb, ← ha.2 b hbb, kY f _ hbb, kY f _ hbb, DR hrt.named ht ha.1 b, ← KU hrt.named ht hbb, ← RI h ht hbb]; rfl
def zS (f : bS) : List (List Int) := KQ f (f.turnings.length + 1) []
end Go.Proofs.YtmmcenjknimhbaaGreat
namespace Go.Proofs.YtmmcenjknimhbaaGreat
open Go Go.T
def BH (f : bS) : Int := (zS f).foldl (fun n l => max n (gi f l)) (gi f (nth (zS f) 0))
structure VQ (f : bS) (l : List Int) : Prop where
  mem : l ∈ zS f
  rep : ∃ s, CI f l s
  len : l.length = f.turnings.length
  right : kC f l = 0
  margin : gi f l = BH f
def KJ (f : bS) : List (List Int) := if gX f ≠ 0 then [] else Tr f (zS f)
def Rp (f : bS) : Int := if gX f ≠ 0 then gX f else if ((KJ f).length : Int) > 0 then 0 else 6
def Rh (f : bS) : List Int := nth (KJ f) 0
def wE (f : bS) : Int := if gX f ≠ 0 then 0 else BH f
theorem Iw (f : bS) : e9 f false = gX f := by
 unfold e9
 rw [jN]
 by_cases h : gX f ≠ 0
 ·rw [if_pos h]
 rw [if_neg h, if_neg (by simp)]; omega
end Go.Proofs.YtmmcenjknimhbaaGreat
namespace Go.Proofs.YtmmcenjknimhbaaGreat
open Go Go.T
def setOf (l : List Int) : Nat := l.foldl (fun s t => s ||| 1 <<< t.toNat) 0
def dn (l : List Int) : List Nat := (List.range (l.length + 1)).map fun k => setOf (l.take k)
def gA (f : bS) (order : List Int) : Int :=
  if e9 f false ≠ 0 then e9 f false else if (order.length : Int) ≠ f.turnings.length then 2
  else if !order.all (fun t => fE t 0 (f.turnings.length - 1)) then 1
  else if ¬ (((setOf order : Nat) : Int) = ((1 <<< order.length : Nat) : Int) - 1) then 5
  else if !(dn order).all (eF (aX f)) then 4 else 0
def gw (f : bS) (order : List Int) : Int := if gX f ≠ 0 then gX f else kC f order
theorem lC {l : List Int} {k : Nat} (h : k < l.length) : setOf (l.take (k + 1)) = setOf (l.take k) ||| 1 <<< (nth l k).toNat := by
 unfold setOf; rw [bh h, List.foldl_append]; rfl
theorem nB (l : List Int) : (dn l).length = l.length + 1 := by simp [dn]
theorem sy {l : List Int} {k : Nat} (h : k ≤ l.length) : nth (dn l) k = setOf (l.take k) := cy _ (by omega)
theorem pq {l : List Int} (h : ∀ x ∈ l, 0 ≤ x) (a : Nat) : ∀ k, k ≤ l.length → ((setOf (l.take k)).testBit a = true ↔ (a : Int) ∈ l.take k)
  | 0, _ => by simp [setOf]
  | k + 1, hk => by
    have ht := h _ (bL (xs := l) (k := k) (by omega))
    rw [lC (by omega), bh (by omega), uz, Bool.or_eq_true, pq h a k (by omega), List.mem_append, List.mem_singleton, decide_eq_true_eq]
    exact or_congr_right ⟨fun e => by omega, fun e => by omega⟩
theorem o7 {l : List Int} {n : Nat} (h : ∀ x ∈ l, 0 ≤ x ∧ x < (n : Int)) : ∀ k, k ≤ l.length → setOf (l.take k) < 2 ^ n
  | 0, _ => Nat.two_pow_pos _
  | k + 1, hk => by
    have ht := h _ (bL (xs := l) (k := k) (by omega))
    rw [lC (by omega)]
    exact GA (o7 h k (by omega)) (by omega)
theorem RR {s t : Nat} (h : s.testBit t = true) : s ||| 1 <<< t = s := by
 apply Nat.eq_of_testBit_eq
 intro i
 rw [uz]
 by_cases e : t = i
 ·subst e; simp [h]
 simp [e]
theorem Cx {l : List Int} {n : Nat} (hn : n ≤ 8) (h : ∀ x ∈ l, 0 ≤ x ∧ x < (n : Int)) : ∀ k, k ≤ l.length → pop (setOf (l.take k)) ≤ k ∧ (pop (setOf (l.take k)) = k ↔ ∀ i, i < k → nth l i ∉ l.take i)
  | 0, _ => by
    have e : pop (setOf (l.take 0)) = 0 := by rw [List.take_zero]; decide +kernel
    exact ⟨by omega, fun _ i hi => by omega, fun _ => e⟩
  | k + 1, hk => by
    obtain ⟨h1, h2⟩ := Cx hn h k (by omega)
    have ht := h _ (bL (xs := l) (k := k) (by omega))
    have hb := pq (fun x hx => (h x hx).1) (nth l k).toNat k (by omega)
    have e : (((nth l k).toNat : Nat) : Int) = nth l k := by omega
    rw [e] at hb
    rw [lC (by omega)]
    cases hc : (setOf (l.take k)).testBit (nth l k).toNat with
    | true =>
      rw [RR hc]
      exact ⟨by omega, fun hx => by omega, fun hx => absurd (hb.1 hc) (hx k (by omega))⟩
    | false =>
      have hp := (A8 (ug hn (o7 h k (by omega))) (by omega) hc).1
      rw [hp]
      refine ⟨by omega, fun hx i hi => ?_, fun hx => ?_⟩
      · rcases Nat.lt_or_ge i k with h3 | h3
        · exact h2.1 (by omega) i h3
        · rw [show i = k by omega]; intro hm; rw [hb.2 hm] at hc; cases hc
      · rw [h2.2 fun i hi => hx i (by omega)]
theorem uF {f : bS} (h : bk f = 0) {l : List Int} (hrg : ∀ x ∈ l, 0 ≤ x ∧ x < (f.turnings.length : Int)) (hnd : ∀ i, i < l.length → nth l i ∉ l.take i) (hah : ∀ i, i < l.length → ∀ a ∈ fW f (nth l i), a ∈ l.take i) : ∀ k, k ≤ l.length → CI f (l.take k) (setOf (l.take k))
  | 0, _ => by rw [List.take_zero]; exact KW h
  | k + 1, hk => by
    have ih := uF h hrg hnd hah k (by omega)
    have ht := hrg _ (bL (xs := l) (k := k) (by omega))
    obtain ⟨t, e⟩ := Int.eq_ofNat_of_zero_le ht.1
    have hrd : jS f (l.take k) (t : Int) = true := by
      unfold jS
      rw [Bool.and_eq_true, Bool.not_eq_true', decide_eq_false_iff_not, List.all_eq_true, ← e]
      exact ⟨hnd k (by omega), fun a ha => decide_eq_true (hah k (by omega) a ha)⟩
    have h2 := (nI h ih (show t < f.turnings.length by omega)).1 hrd
    have := E2 h ih (show t < f.turnings.length by omega) h2.1 h2.2
    rw [lC (by omega), bh (by omega), e]; exact this
theorem lJ {f : bS} {l : List Int} (h : kC f l = 0) : l.length = f.turnings.length ∧ (∀ x ∈ l, 0 ≤ x ∧ x < (f.turnings.length : Int)) ∧ (∀ i, i < l.length → nth l i ∉ l.take i) ∧ ∀ i, i < l.length → ∀ a ∈ fW f (nth l i), a ∈ l.take i := by
 unfold kC at h
 split at h
 ·cases h
 split at h
 ·cases h
 split at h
 ·cases h
 split at h
 ·cases h
 rename_i h1 h2 h3 h4
 refine ⟨by omega, fun x hx => ?_, fun i hi => ?_, fun i hi a ha => ?_⟩
 ·have := fK (Bool.eq_false_iff.2 h2) hx
  simp only [decide_eq_false_iff_not] at this
  omega
 ·have := fK (Bool.eq_false_iff.2 h3) (eW.2 (show (0 : Int) ≤ (i : Nat) ∧ ((i : Nat) : Int) < (l.length : Nat) by omega))
  simpa using this
 have := fK (Bool.eq_false_iff.2 h4) (eW.2 (show (0 : Int) ≤ (i : Nat) ∧ ((i : Nat) : Int) < (l.length : Nat) by omega))
 have := fK this ha
 simpa using this
theorem LF {f : bS} (h : bk f = 0) {l : List Int} (ho : kC f l = 0) : ∀ k, k ≤ l.length → CI f (l.take k) (setOf (l.take k)) := by
 obtain ⟨_, h2, h3, h4⟩ := lJ ho
 exact uF h h2 h3 h4
theorem uJ (f : bS) (l : List Int) : gA f l = gw f l := by
 unfold gA gw
 rw [Iw]
 by_cases hc : gX f ≠ 0
 ·rw [if_pos hc, if_pos hc]
 have h0 : gX f = 0 := Classical.byContradiction hc
 have h : bk f = 0 := by rw [jN]; exact h0
 have hn := P9 h
 rw [if_neg hc, if_neg hc]
 unfold kC
 by_cases h1 : (l.length : Int) ≠ f.turnings.length
 ·rw [if_pos h1, if_pos h1]
 rw [if_neg h1, if_neg h1]
 have e2 : (!l.all fun t => fE t 0 (f.turnings.length - 1)) = l.any fun x => decide (x < 0 ∨ x ≥ f.turnings.length) := by
  refine jY _ _ _ fun x => ?_
  unfold fE
  rw [← Bool.decide_and, ← decide_not, decide_eq_decide]; omega
 rw [e2]
 by_cases h2 : (l.any fun x => decide (x < 0 ∨ x ≥ f.turnings.length)) = true
 ·rw [if_pos h2, if_pos h2]
 rw [if_neg h2, if_neg h2]
 have hrg : ∀ x ∈ l, 0 ≤ x ∧ x < (f.turnings.length : Int) := fun x hx => by
  have := fK (Bool.eq_false_iff.2 h2) hx
  simp only [decide_eq_false_iff_not] at this; omega
 obtain ⟨p1, p2⟩ := Cx hn hrg l.length (Nat.le_refl _)
 have hlt := o7 hrg l.length (Nat.le_refl _)
 rw [List.take_length] at p1 p2 hlt
 have hlen : l.length = f.turnings.length := by omega
 have e3 : ¬ (((setOf l : Nat) : Int) = ((1 <<< l.length : Nat) : Int) - 1) ↔ ((tD l.length).any fun i => decide (nth l i.toNat ∈ l.take i.toNat)) = true := by
  rw [← Decidable.not_iff_not, Decidable.not_not, Bool.not_eq_true, List.any_eq_false, hlen, sQ]
  have hpw := Nat.two_pow_pos f.turnings.length
  constructor
  ·intro e x hx
   have hp : pop (setOf l) = l.length := by
    rw [show setOf l = 2 ^ f.turnings.length - 1 by omega, vF hn, hlen]
   have hx2 := eW.1 hx
   have := p2.1 hp x.toNat (by omega)
   simpa using this
  intro hall
  have := p2.2 fun i hi => by
   have := hall (i : Int) (eW.2 (by omega))
   simpa using this
  have := Gu hn hlt (by omega)
  omega
 by_cases h3 : ((tD l.length).any fun i => decide (nth l i.toNat ∈ l.take i.toNat)) = true
 ·rw [if_pos (e3.2 h3), if_pos h3]
 rw [if_neg (fun hx => h3 (e3.1 hx)), if_neg h3]
 have hnd : ∀ i, i < l.length → nth l i ∉ l.take i := fun i hi => by
  have := fK (Bool.eq_false_iff.2 h3) (eW.2 (show (0 : Int) ≤ (i : Nat) ∧ ((i : Nat) : Int) < (l.length : Nat) by omega))
  simpa using this
 have e4 : (!(dn l).all (eF (aX f))) = (tD l.length).any fun i => (fW f (nth l i.toNat)).any fun y => !decide (y ∈ l.take i.toNat) := by
  rw [Bool.eq_iff_iff, Bool.not_eq_true', ← Bool.not_eq_true, ← Decidable.not_iff_not, Decidable.not_not, Bool.not_eq_true, List.any_eq_false, List.all_eq_true]
  constructor
  ·intro hall x hx
   have hx2 := eW.1 hx
   obtain ⟨i, rfl⟩ := Int.eq_ofNat_of_zero_le hx2.1
   rw [Bool.not_eq_true, List.any_eq_false]
   intro a ha
   have ht := hrg _ (bL (xs := l) (k := i) (by omega))
   obtain ⟨⟨ha1, _⟩, hl⟩ := gR.1 ha
   obtain ⟨b, rfl⟩ := Int.eq_ofNat_of_zero_le ha1
   obtain ⟨t, e⟩ := Int.eq_ofNat_of_zero_le ht.1
   have hw := hall (setOf (l.take (i + 1))) (List.mem_map.2 ⟨i + 1, List.mem_range.2 (by omega), rfl⟩)
   have hbt := pq (fun x hx => (hrg x hx).1) t (i + 1) (by omega)
   have hbb := pq (fun x hx => (hrg x hx).1) b (i + 1) (by omega)
   have := (pZ h (o7 hrg (i + 1) (by omega))).1 hw t b (hbt.2 (by rw [bh (by omega), e]; simp)) (by rw [← e]; exact hl)
   have := hbb.1 this
   rw [bh (by omega), List.mem_append, List.mem_singleton] at this
   rcases this with h5 | h5
   ·simpa using h5
   rw [Int.toNat_natCast] at hl
   rw [← h5] at hl; exact absurd hl (Aj h _)
  intro hall s hs
  obtain ⟨k, hk, rfl⟩ := List.mem_map.1 hs
  have hk := List.mem_range.1 hk
  refine (uF h hrg hnd (fun i hi a ha => ?_) k (by omega)).whole
  have := hall (i : Int) (eW.2 (by omega))
  rw [Bool.not_eq_true, List.any_eq_false] at this
  have := this a ha
  simpa using this
 rw [e4]
theorem Fv {f : bS} (h : bk f = 0) {l : List Int} (ho : kC f l = 0) : ∀ k, k ≤ l.length → Agree f (kD f l k) (setOf (l.take k))
  | 0, _ => by rw [List.take_zero]; exact Il h
  | k + 1, hk => by
    have ih := Fv h ho k (by omega)
    obtain ⟨_, hrg, hnd, _⟩ := lJ ho
    have ht := hrg _ (bL (xs := l) (k := k) (by omega))
    obtain ⟨t, e⟩ := Int.eq_ofNat_of_zero_le ht.1
    rw [yB (by omega), lC (by omega), e]
    refine IE h ih (by omega) (Bool.eq_false_iff.2 fun hb => ?_)
    have := (pq (fun x hx => (hrg x hx).1) t k (by omega)).1 hb
    rw [← e] at this
    exact hnd k (by omega) this
def rowP (f : bS) (s : Nat) : List Int := (iI (aX f) s).take f.bears.length
theorem row_eq {f : bS} (h : bk f = 0) {st : List Int} {s : Nat} (ha : Agree f st s) : rowP f s = sF f st := by
 have h4 := (cB h).ranged.bears
 unfold rowP
 apply List.ext_getElem?
 intro b
 by_cases hb : b < f.bears.length
 ·have h1 : b < (iI (aX f) s).length := by rw [lO]; omega
  have h2 : b < (sF f st).length := by rw [sn]; omega
  rw [List.getElem?_take, if_pos hb, List.getElem?_eq_getElem h1, List.getElem?_eq_getElem h2, ← cE h1, ← cE h2, ha.2 b hb]
 rw [List.getElem?_eq_none (by simp; omega), List.getElem?_eq_none (by rw [sn]; omega)]
def yW (f : bS) (l : List Int) : List (List Int) := (dn l).map (rowP f)
theorem Px {f : bS} (h : bk f = 0) {l : List Int} (ho : kC f l = 0) : yW f l = gF f l := by
 unfold yW dn gF
 rw [List.map_map]
 refine List.map_congr_left fun k hk => ?_
 have := List.mem_range.1 hk
 exact row_eq h (Fv h ho k (by omega))
def Ul (f : bS) (l : List Int) : Int := if gw f l ≠ 0 then gw f l else if (sB f l).isSome = true then 0 else 6
def TB (f : bS) (l : List Int) : Int := if gw f l ≠ 0 then 0 else breakT f l
def SD (f : bS) (l : List Int) : Int := if gw f l ≠ 0 then 0 else O2 f l
def rq (f : bS) (l : List Int) : List (List Int) := if gw f l ≠ 0 then [] else gF f l
def To (f : bS) (l : List Int) : Int := if gw f l ≠ 0 then 0 else gi f l
theorem GI {f : bS} {l : List Int} (h : gw f l = 0) : gX f = 0 ∧ bk f = 0 ∧ kC f l = 0 := by
 unfold gw at h
 split at h
 ·exact absurd h ‹_›
 have h0 : gX f = 0 := Classical.byContradiction ‹_›
 exact ⟨h0, by rw [jN]; exact h0, h⟩
end Go.Proofs.YtmmcenjknimhbaaGreat
namespace Go.Proofs.YtmmcenjknimhbaaGreat
open Go Go.T
structure fR where
  grain : List Int
  taken : Int
  mixed : Int
def J9 : El Int := El.mk' 1 (fun n => [Ty.int .u8 n]) (fun _ => rfl) (fun _ => ⟨rfl, rfl, rfl⟩)
def cN (s : fR) : List Ty := [Ty.sl J9 s.grain, Ty.int .i64 s.taken, Ty.int .u32 s.mixed]
def Ry (s : fR) : Int := IntKind.u32.wrap (bits .xor .u32 s.mixed (IntKind.u32.wrap (nth s.grain (s.taken.tmod s.grain.length).toNat)) * 16777619)
def gM (s : fR) : fR := if (s.grain.length : Int) > 0 then { s with mixed := Ry s } else s
def oV (s : fR) : fR := { s with taken := s.taken + 1 }
def Rl (s : fR) : Int := IntKind.u32.wrap (IntKind.u32.wrap (s.mixed * 1664525) + 1013904223)
def qE (s : fR) : fR := if s.taken > (s.grain.length : Int) then { s with mixed := Rl s } else s
theorem Fi {s : fR} (h : (s.grain.length : Int) < s.taken) : qE s = { s with mixed := Rl s } := if_pos h
theorem HM {s : fR} (h : ¬ (s.grain.length : Int) < s.taken) : qE s = s := if_neg h
def aO (s : fR) : fR := qE (oV (gM s))
theorem Fe {s : fR} (h : ¬ ((gM s).grain.length : Int) < (gM s).taken + 1) : (gM s).mixed = (aO s).mixed := (congrArg fR.mixed (HM (s := oV (gM s)) h)).symm
def kH (s : fR) : Int := IntKind.i64.wrap (bits .and .u32 (bits .xor .u32 s.mixed (s.mixed / 2 ^ (15 : Int).toNat) / 2 ^ (8 : Int).toNat) 65535)
def fR.Ok (s : fR) (n : Int) : Prop := 0 ≤ s.taken ∧ s.taken + n ≤ 4611686018427387904
theorem Fw {s : fR} (h : (0 : Int) < s.grain.length) : gM s = { s with mixed := Ry s } := if_pos h
theorem Gx {s : fR} (h : ¬ (0 : Int) < s.grain.length) : gM s = s := if_neg h
theorem Fo {a b : Int} (ha : 0 ≤ a) (hb : 0 < b) : 0 ≤ a.tmod b ∧ a.tmod b < b := by
 rw [Int.tmod_eq_emod_of_nonneg ha]
 exact ⟨Int.emod_nonneg _ (by omega), Int.emod_lt_of_pos _ hb⟩
theorem lY (s : fR) : (gM s).taken = s.taken := by unfold gM; split <;> rfl
theorem tV (s : fR) : (gM s).grain = s.grain := by unfold gM; split <;> rfl
theorem oc (s : fR) : (qE s).taken = s.taken := by unfold qE; split <;> rfl
theorem tw (s : fR) : (qE s).grain = s.grain := by unfold qE; split <;> rfl
theorem bw (s : fR) : (aO s).taken = s.taken + 1 := by unfold aO; rw [oc, oV, lY]
theorem AH (a : Int) : 0 ≤ bits .and .u32 a 65535 ∧ bits .and .u32 a 65535 ≤ 65535 := by
 have e : bits .and .u32 a 65535 = IntKind.u32.wrap (((BitVec.ofInt 32 a &&& BitVec.ofInt 32 65535).toNat : Nat) : Int) := rfl
 have h1 : (BitVec.ofInt 32 a &&& BitVec.ofInt 32 65535).toNat ≤ 65535 := by
  rw [BitVec.toNat_and]
  exact Nat.and_le_right
 rw [e]
 generalize (BitVec.ofInt 32 a &&& BitVec.ofInt 32 65535).toNat = n at h1
 have : IntKind.u32.wrap (n : Int) = (n : Int) % 4294967296 := rfl
 rw [this]; omega
theorem E3 (s : fR) : 0 ≤ kH s ∧ kH s ≤ 65535 := by
 have h := AH (bits .xor .u32 s.mixed (s.mixed / 2 ^ (15 : Int).toNat) / 2 ^ (8 : Int).toNat)
 unfold kH
 rw [IntWalk.i64_in _ (by omega)]; exact h
def bP (s : fR) (n : Int) : Int := (kH (aO s)).tmod (max 1 n)
theorem cQ (s : fR) (n : Int) : 0 ≤ bP s n ∧ bP s n < max 1 n ∧ bP s n ≤ 65535 := by
 have h := E3 (aO s)
 unfold bP
 have h1 : (kH (aO s)).tmod (max 1 n) = kH (aO s) % max 1 n := Int.tmod_eq_emod_of_nonneg h.1
 have h2 := Int.emod_lt_of_pos (kH (aO s)) (show 0 < max 1 n by omega)
 have h3 := Int.emod_nonneg (kH (aO s)) (show max 1 n ≠ 0 by omega)
 have h4 : kH (aO s) % max 1 n ≤ kH (aO s) := by
  have := Int.mul_ediv_add_emod (kH (aO s)) (max 1 n)
  have hq : 0 ≤ kH (aO s) / max 1 n := Int.ediv_nonneg h.1 (by omega)
  have : 0 ≤ max 1 n * (kH (aO s) / max 1 n) := Int.mul_nonneg (by omega) hq
  omega
 omega
def dH (s : fR) (lo hi : Int) : Int := lo + bP s (hi - lo + 1)
def qI (s : fR) (n : Int) : Bool := decide (bP s n = 0)
def jc (grain : List Int) : fR := ⟨grain, 0, bits .xor .u32 2166136261 (IntKind.u32.wrap grain.length)⟩
theorem Hu (g : List Int) : (jc g).Ok 4000000000000000000 := by unfold jc fR.Ok; simp
theorem Ms (a b : Int) (hb : 0 < b) : -b < a.tmod b ∧ a.tmod b < b := by
 have h1 := Int.tmod_lt_of_pos a hb
 have h2 := Int.lt_tmod_of_pos a hb
 omega
def BC (v n : Int) : Int := if n < 1 then 0 else (v.tmod n + n).tmod n
def jo (xs : List Int) (i : Nat) (k : Int) : List Int := xs.take i ++ k :: xs.drop i
theorem Cw {xs : List Int} {i : Nat} (h : i ≤ xs.length) (k : Int) : (jo xs i k).length = xs.length + 1 := by simp [jo]; omega
theorem Lj {xs : List Int} {i : Nat} {k x : Int} : x ∈ jo xs i k ↔ x = k ∨ x ∈ xs := by
 unfold jo
 rw [List.mem_append, List.mem_cons]
 constructor
 ·rintro (h | rfl | h)
  ·exact .inr (List.mem_of_mem_take h)
  ·exact .inl rfl
  exact .inr (List.mem_of_mem_drop h)
 rintro (rfl | h)
 ·exact .inr (.inl rfl)
 rw [← List.take_append_drop i xs, List.mem_append] at h
 exact h.imp id .inr
theorem Gw {xs : List Int} {i : Nat} {k : Int} (h : xs.Nodup) (hk : k ∉ xs) : (jo xs i k).Nodup := by
 unfold jo
 have h2 : (xs.take i ++ xs.drop i).Nodup := by rw [List.take_append_drop]; exact h
 rw [List.nodup_append] at h2 ⊢
 obtain ⟨a, b, c⟩ := h2
 refine ⟨a, List.nodup_cons.2 ⟨fun h => hk (List.mem_of_mem_drop h), b⟩, fun x hx y hy => ?_⟩
 rcases List.mem_cons.1 hy with rfl | hy
 ·rintro rfl; exact hk (List.mem_of_mem_take hx)
 exact c x hx y hy
def eV (s : fR) : Nat → List Int × fR
  | 0 => ([], s)
  | k + 1 => (jo (eV s k).1 (bP (eV s k).2 ((k : Int) + 1)).toNat k, aO (eV s k).2)
theorem uM (s : fR) : ∀ k, (eV s k).1.length = k ∧ (eV s k).1.Nodup ∧ (∀ x, x ∈ (eV s k).1 ↔ 0 ≤ x ∧ x < (k : Int)) ∧ (eV s k).2.taken = s.taken + k
  | 0 => ⟨rfl, List.nodup_nil, fun x => ⟨fun h => (by cases h), fun h => by omega⟩, by simp [eV]⟩
  | k + 1 => by
    obtain ⟨h1, h2, h3, h4⟩ := uM s k
    have hb := cQ (eV s k).2 ((k : Int) + 1)
    refine ⟨?_, Gw h2 (fun h => by have := (h3 _).1 h; omega), fun x => ?_, ?_⟩
    · show (jo _ _ _).length = _
      rw [Cw (by omega), h1]
    · show x ∈ jo _ _ _ ↔ _
      rw [Lj, h3]; omega
    · show (aO _).taken = _
      rw [bw, h4]; omega
end Go.Proofs.YtmmcenjknimhbaaGreat
namespace Go.Proofs.YtmmcenjknimhbaaGreat
open Go Go.T
def Ox (l : List Int) (x : Int) : Int := fidx (fun y => decide (x = y)) l
theorem CK (l : List Int) (x : Int) : decide (0 ≤ Ox l x) = decide (x ∈ l) := by
 unfold Ox
 rw [qJ, Bool.eq_iff_iff, List.any_eq_true, decide_eq_true_eq]
 constructor
 ·rintro ⟨y, hy, h⟩; rw [of_decide_eq_true h]; exact hy
 intro h; exact ⟨x, h, decide_eq_true rfl⟩
theorem pE {α : Type} [Inhabited α] {l : List α} {k : Nat} (h : k < l.length) : l.drop k = nth l k :: l.drop (k + 1) := by
 rw [List.drop_eq_getElem_cons h, cE h]
def yR (l : List Int) (k : Nat) : Int := (l.take k).foldl max (nth l 0)
def G6 (l : List Int) : Int := l.foldl max (nth l 0)
theorem JE {l : List Int} {k : Nat} (h : k < l.length) : yR l (k + 1) = max (yR l k) (nth l k) := by
 unfold yR; rw [bh h, List.foldl_append]; rfl
def mN (f : bS) (l : List Int) (b k : Nat) : Int := gW f b f.bins.length + ((l.take k).map fun t => xL f t.toNat b).sum
def rD (f : bS) (l : List Int) (b : Nat) : List Int := (List.range (l.length + 1)).map (mN f l b)
theorem H6 (f : bS) {l : List Int} {k : Nat} (h : k < l.length) (b : Nat) : mN f l b (k + 1) = mN f l b k + xL f (nth l k).toNat b := by
 unfold mN; rw [bh h, List.map_append, List.sum_append]; simp; omega
theorem Bk (f : bS) (l : List Int) (b : Nat) : (rD f l b).length = l.length + 1 := by simp [rD]
theorem zV (f : bS) {l : List Int} (b : Nat) {k : Nat} (h : k ≤ l.length) : nth (rD f l b) k = mN f l b k := cy _ (by omega)
def FM (f : bS) (l : List Int) (k : Nat) : Int := (List.range k).foldl (fun n b => min n (nth f.bears b - G6 (rD f l b))) 1099511627776
theorem M7 (f : bS) (l : List Int) (k : Nat) : FM f l (k + 1) = min (FM f l k) (nth f.bears k - G6 (rD f l k)) := by
 unfold FM; rw [List.range_succ, List.foldl_append]; rfl
end Go.Proofs.YtmmcenjknimhbaaGreat
namespace Go.Proofs.YtmmcenjknimhbaaGreat
open Go Go.T
def q5 (f : bS) (done : List Int) (t : Int) : Bool := !decide (t ∈ done) && !f.rules.any fun r => decide (r.nxt = t) && !decide (r.fst ∈ done)
def TM (f : bS) (l : List Int) (i : Nat) : Bool := decide (0 ≤ nth l i) && decide (nth l i < f.turnings.length) && q5 f (l.take i) (nth l i)
def GW (f : bS) (l : List Int) : Bool := ((List.range l.length).all (TM f l)) && decide (l.length = f.turnings.length)
theorem yx {f : bS} (h : bk f = 0) {done : List Int} {s : Nat} (hr : CI f done s) (t : Int) : q5 f done t = jS f done t := by
  unfold q5 jS
  congr 1
  rw [Bool.eq_iff_iff, Bool.not_eq_true', List.any_eq_false, List.all_eq_true]
  have hru := (cB h).ruled
  constructor
  · intro hall a ha
    obtain ⟨hin, hl⟩ := gR.1 ha
    refine decide_eq_true ?_
    have hclosed : ∀ a c, lK f.rules a c → c ∈ done → a ∈ done := fun a c hl hc => by
      obtain ⟨h1, h2⟩ := nZ hru hl
      obtain ⟨n, rfl⟩ := Int.eq_ofNat_of_zero_le h1.1
      obtain ⟨m, rfl⟩ := Int.eq_ofNat_of_zero_le h2.1
      exact (hr.bit n).1 ((pZ h hr.lt).1 hr.whole m n ((hr.bit m).2 hc) hl)
    have hdir : ∀ r ∈ f.rules, r.nxt = t → r.fst ∈ done := fun r hrm hn => by
      have := hall r hrm
      simp only [hn, decide_true, Bool.true_and, Bool.not_eq_true', decide_eq_false_iff_not, Classical.not_not] at this
      exact Classical.byContradiction fun hx => by simp [hn, hx] at this
    cases hl with
    | one hrm => exact hdir _ hrm rfl
    | step hrm hl => exact hclosed a _ hl (hdir _ hrm rfl)
  · intro hall r hrm
    simp only [Bool.and_eq_true, decide_eq_true_eq, Bool.not_eq_true', decide_eq_false_iff_not, not_and, Classical.not_not]
    intro hn
    have hl : lK f.rules r.fst t := by rw [← hn]; exact .one hrm
    exact of_decide_eq_true (hall _ (gR.2 ⟨(nZ hru hl).1, hl⟩))
theorem Bu {f : bS} {l : List Int} {s : Nat} (hr : CI f l s) (hlen : l.length = f.turnings.length) (hready : ∀ i, i < l.length → jS f (l.take i) (nth l i) = true) : kC f l = 0 := by
 unfold kC
 rw [if_neg (by omega)]
 have h1 : (l.any fun x => decide (x < 0 ∨ x ≥ f.turnings.length)) = false := by
  rw [List.any_eq_false]
  intro x hx
  have := hr.rng x hx
  simp; omega
 rw [h1, if_neg (by simp)]
 have h2 : ((tD l.length).any fun i => decide (nth l i.toNat ∈ l.take i.toNat)) = false := by
  rw [List.any_eq_false]
  intro x hx
  have := eW.1 hx
  have := hready x.toNat (by omega)
  unfold jS at this
  rw [Bool.and_eq_true, Bool.not_eq_true', decide_eq_false_iff_not] at this
  simpa using this.1
 rw [h2, if_neg (by simp)]
 have h3 : ((tD l.length).any fun i => (fW f (nth l i.toNat)).any fun y => !decide (y ∈ l.take i.toNat)) = false := by
  rw [List.any_eq_false]
  intro x hx
  have := eW.1 hx
  have := hready x.toNat (by omega)
  unfold jS at this
  rw [Bool.and_eq_true, List.all_eq_true] at this
  rw [Bool.not_eq_true, List.any_eq_false]
  intro y hy
  simpa using this.2 y hy
 rw [h3, if_neg (by simp)]
def jD (f : bS) (done : List Int) (k : Nat) : List Int := (tD k).filter (q5 f done)
theorem vH (f : bS) (done : List Int) (k : Nat) : jD f done (k + 1) = jD f done k ++ if q5 f done (k : Int) = true then [(k : Int)] else [] := by
 unfold jD
 rw [Ft, List.filter_append]
 congr 1
 by_cases h : q5 f done (k : Int) = true
 ·rw [if_pos h, List.filter_cons_of_pos h]; rfl
 rw [if_neg h, List.filter_cons_of_neg h]; rfl
def tY (f : bS) (st : List Int × fR) : Int := nth (jD f st.1 f.turnings.length) (bP st.2 (jD f st.1 f.turnings.length).length).toNat
def cM (f : bS) (s : fR) : Nat → List Int × fR
  | 0 => ([], s)
  | k + 1 => ((cM f s k).1 ++ [tY f (cM f s k)], aO (cM f s k).2)
theorem vw {f : bS} (h : bk f = 0) {done : List Int} {s : Nat} (hr : CI f done s) (hlt : done.length < f.turnings.length) : 0 < (jD f done f.turnings.length).length := by
 obtain ⟨t, ht, hb, hw⟩ := JU h hr hlt
 refine List.length_pos_of_mem (a := (t : Int)) (List.mem_filter.2 ⟨eW.2 (by omega), ?_⟩)
 rw [yx h hr]
 exact (nI h hr ht).2 ⟨hb, hw⟩
theorem P3 {f : bS} {st : List Int × fR} (h : 0 < (jD f st.1 f.turnings.length).length) : tY f st ∈ jD f st.1 f.turnings.length := by
 have hb := cQ st.2 (jD f st.1 f.turnings.length).length
 exact bL (by omega)
theorem uh {f : bS} (h : bk f = 0) (s : fR) : ∀ k, k ≤ f.turnings.length → (cM f s k).1.length = k ∧ (cM f s k).2.taken = s.taken + k ∧ (∃ x, CI f (cM f s k).1 x) ∧ ∀ i, i < k → jS f ((cM f s k).1.take i) (nth (cM f s k).1 i) = true
  | 0, _ => ⟨rfl, by simp [cM], ⟨0, KW h⟩, fun i hi => by omega⟩
  | k + 1, hk => by
    obtain ⟨h1, h2, ⟨x, hr⟩, h4⟩ := uh h s k (by omega)
    have hm := P3 (vw h hr (by omega))
    obtain ⟨hm1, hm2⟩ := List.mem_filter.1 hm
    obtain ⟨hm3, hm4⟩ := eW.1 hm1
    obtain ⟨t, e⟩ := Int.eq_ofNat_of_zero_le hm3
    rw [yx h hr, e] at hm2
    have hrd := (nI h hr (show t < f.turnings.length by omega)).1 hm2
    refine ⟨?_, ?_, ⟨x ||| 1 <<< t, ?_⟩, fun i hi => ?_⟩
    · show (_ ++ [_]).length = _
      rw [List.length_append, h1]; rfl
    · show (aO _).taken = _
      rw [bw, h2]; omega
    · show CI f (_ ++ [tY f (cM f s k)]) _
      rw [e]
      exact E2 h hr (by omega) hrd.1 hrd.2
    · show jS f ((_ ++ [tY f (cM f s k)]).take i) (nth (_ ++ [tY f (cM f s k)]) i) = true
      rcases Nat.lt_or_ge i k with hx | hx
      · have e1 : ((cM f s k).1 ++ [tY f (cM f s k)]).take i = (cM f s k).1.take i := List.take_append_of_le_length (by omega)
        have e2 : nth ((cM f s k).1 ++ [tY f (cM f s k)]) i = nth (cM f s k).1 i := by
          rw [cE (by simp; omega), cE (by omega), List.getElem_append_left (by omega)]
        rw [e1, e2]; exact h4 i hx
      · have hik : i = k := by omega
        have e1 : ((cM f s k).1 ++ [tY f (cM f s k)]).take i = (cM f s k).1 := by rw [hik, List.take_append_of_le_length (by omega), List.take_of_length_le (by omega)]
        have e2 : nth ((cM f s k).1 ++ [tY f (cM f s k)]) i = tY f (cM f s k) := by
          rw [cE (by simp; omega), List.getElem_append_right (by omega)]; simp
        rw [e1, e2, e]; exact hm2
theorem GH {f : bS} (h : bk f = 0) (s : fR) : kC f (cM f s f.turnings.length).1 = 0 := by
 obtain ⟨h1, _, ⟨x, hr⟩, h4⟩ := uh h s f.turnings.length (Nat.le_refl _)
 exact Bu hr h1 (fun i hi => h4 i (by omega))
end Go.Proofs.YtmmcenjknimhbaaGreat
namespace Go.Proofs.YtmmcenjknimhbaaGreat
open Go Go.T
theorem Dl {l : List Int} (h : l.Nodup) {i : Nat} (hi : i < l.length) : nth l i ∉ l.take i := by
 have h1 : (l.take (i + 1)).Nodup := h.sublist (List.take_sublist _ _)
 rw [bh hi, List.nodup_append] at h1
 exact fun hx => h1.2.2 _ hx _ (List.mem_singleton.2 rfl) rfl
structure V1 (f : bS) (b : Int) (i : Nat) (met : List Int) : Prop where
  has : b ∈ met
  nodup : met.Nodup
  rng : ∀ x ∈ met, 0 ≤ x ∧ x < (f.turnings.length : Int)
  sound : ∀ x ∈ met, x = b ∨ lK f.rules x b
  closed : ∀ j, j < i → ∀ r ∈ f.rules, r.nxt = nth met j → r.fst ∈ met
  le : i ≤ met.length
structure Va (f : bS) (b : Int) (i : Nat) (k : Nat) (met : List Int) : Prop where
  bfs : V1 f b i met
  lt : i < met.length
  done : ∀ r ∈ f.rules.take k, r.nxt = nth met i → r.fst ∈ met
end Go.Proofs.YtmmcenjknimhbaaGreat
namespace Go.Proofs.YtmmcenjknimhbaaGreat
open Go Go.T
theorem Cu {f : bS} (hn : f.Dj) {l : List Int} (hl : ∀ x ∈ l, 0 ≤ x ∧ x < (f.turnings.length : Int)) {b : Nat} (hb : b < f.bears.length) : ∀ k, k ≤ l.length → nu f (kD f l k) f.bins.length b = mN f l b k
  | 0, _ => by
    have := first_eq f hb
    rw [jz (order := []) (k := 0) (Nat.zero_le _), kY f _ hb] at this
    unfold mN
    rw [List.take_zero]
    simp only [List.map_nil, List.sum_nil, Int.add_zero]
    exact this
  | k + 1, hk => by
    have hx := hl _ (bL (xs := l) (k := k) (by omega))
    obtain ⟨t, e⟩ := Int.eq_ofNat_of_zero_le hx.1
    have ih := Cu hn hl hb k (by omega)
    rw [yB (by omega), H6 f (by omega), e, DR hn (by omega) (Hz f l k), ih]; rfl
theorem oJ {f : bS} (hn : f.Dj) {l : List Int} (hl : ∀ x ∈ l, 0 ≤ x ∧ x < (f.turnings.length : Int)) {b : Nat} (hb : b < f.bears.length) {k : Nat} (hk : k ≤ l.length) : nth (nth (gF f l) k) b = mN f l b k := by
 rw [jz hk, kY f _ hb, Cu hn hl hb k hk]
theorem DV (f : bS) (l : List Int) (n x : Int) : ∀ j, x ≤ r9 f l j n ↔ x ≤ n ∧ ∀ b, b < j → x ≤ nth f.bears b - nth l b
  | 0 => ⟨fun h => ⟨h, fun b hb => by omega⟩, fun h => h.1⟩
  | j + 1 => by
    rw [yE, Int.le_min, DV f l n x j]
    constructor
    · rintro ⟨⟨h1, h2⟩, h3⟩
      refine ⟨h1, fun b hb => ?_⟩
      rcases Nat.lt_or_ge b j with h | h
      · exact h2 b h
      · rw [show b = j by omega]; exact h3
    · rintro ⟨h1, h2⟩
      exact ⟨⟨h1, fun b hb => h2 b (by omega)⟩, h2 j (by omega)⟩
theorem yD (f : bS) (ls : List (List Int)) (x : Int) : ∀ k, k ≤ ls.length → (x ≤ rL f ls k ↔ x ≤ nth f.bears 0 - nth (nth ls 0) 0 ∧ ∀ i, i < k → ∀ b, b < f.bears.length → x ≤ nth f.bears b - nth (nth ls i) b)
  | 0, _ => ⟨fun h => ⟨h, fun i hi => by omega⟩, fun h => h.1⟩
  | k + 1, hk => by
    rw [CC (by omega), DV, yD f ls x k (by omega)]
    constructor
    · rintro ⟨⟨h1, h2⟩, h3⟩
      refine ⟨h1, fun i hi => ?_⟩
      rcases Nat.lt_or_ge i k with h | h
      · exact h2 i h
      · rw [show i = k by omega]; exact h3
    · rintro ⟨h1, h2⟩
      exact ⟨⟨h1, fun i hi => h2 i (by omega)⟩, h2 k (by omega)⟩
theorem qS {f : bS} (hb : 1 ≤ f.bears.length) (l : List Int) (x : Int) : x ≤ gi f l ↔ ∀ k, k ≤ l.length → ∀ b, b < f.bears.length → x ≤ nth f.bears b - nth (nth (gF f l) k) b := by
 unfold gi
 rw [yD f _ x _ (by rw [Jh]; omega)]
 exact ⟨fun h k hk => h.2 k (by omega), fun h => ⟨h 0 (Nat.zero_le _) 0 (by omega), fun i hi => h i (by omega)⟩⟩
theorem GO {l : List Int} {x : Int} : ∀ k, k ≤ l.length → (yR l k ≤ x ↔ nth l 0 ≤ x ∧ ∀ i, i < k → nth l i ≤ x)
  | 0, _ => ⟨fun h => ⟨by simpa [yR] using h, fun i hi => by omega⟩, fun h => by simpa [yR] using h.1⟩
  | k + 1, hk => by
    rw [JE (by omega), Int.max_le, GO k (by omega)]
    constructor
    · rintro ⟨⟨h1, h2⟩, h3⟩
      refine ⟨h1, fun i hi => ?_⟩
      rcases Nat.lt_or_ge i k with h | h
      · exact h2 i h
      · rw [show i = k by omega]; exact h3
    · rintro ⟨h1, h2⟩
      exact ⟨⟨h1, fun i hi => h2 i (by omega)⟩, h2 k (by omega)⟩
theorem RM (l : List Int) : G6 l = yR l l.length := by unfold G6 yR; rw [List.take_length]
theorem Qv {l : List Int} {x : Int} (h : 0 < l.length) : G6 l ≤ x ↔ ∀ i, i < l.length → nth l i ≤ x := by
 rw [RM, GO _ (Nat.le_refl _)]
 exact ⟨fun h => h.2, fun h' => ⟨h' 0 h, h'⟩⟩
theorem FH (f : bS) (l : List Int) (x : Int) : ∀ n, x ≤ FM f l n ↔ x ≤ 1099511627776 ∧ ∀ b, b < n → ∀ k, k ≤ l.length → x ≤ nth f.bears b - mN f l b k
  | 0 => ⟨fun h => ⟨h, fun b hb => by omega⟩, fun h => h.1⟩
  | n + 1 => by
    rw [M7, Int.le_min, FH f l x n]
    have key : x ≤ nth f.bears n - G6 (rD f l n) ↔ ∀ k, k ≤ l.length → x ≤ nth f.bears n - mN f l n k := by
      have : x ≤ nth f.bears n - G6 (rD f l n) ↔ G6 (rD f l n) ≤ nth f.bears n - x := by omega
      rw [this, Qv (by rw [Bk]; omega), Bk]
      constructor
      · intro h k hk
        have := h k (by omega)
        rw [zV f n hk] at this; omega
      · intro h k hk
        have := h k (by omega)
        rw [zV f n (by omega)]; omega
    rw [key]
    constructor
    · rintro ⟨⟨h1, h2⟩, h3⟩
      refine ⟨h1, fun b hb => ?_⟩
      rcases Nat.lt_or_ge b n with h | h
      · exact h2 b h
      · rw [show b = n by omega]; exact h3
    · rintro ⟨h1, h2⟩
      exact ⟨⟨h1, fun b hb => h2 b (by omega)⟩, h2 n (by omega)⟩
theorem QT {f : bS} (hr : f.dh) {l : List Int} (hl : ∀ x ∈ l, 0 ≤ x ∧ x < (f.turnings.length : Int)) (h20 : l.length ≤ 20) : FM f l f.bears.length = gi f l := by
 have hb := hr.ranged.bears1
 have key : ∀ x, x ≤ 1099511627776 → (x ≤ FM f l f.bears.length ↔ x ≤ gi f l) := fun x hx => by
  rw [FH, qS hb]
  constructor
  ·rintro ⟨_, h⟩ k hk b hb'
   rw [oJ hr.named hl hb' hk]; exact h b hb' k hk
  intro h
  refine ⟨hx, fun b hb' k hk => ?_⟩
  have := h k hk b hb'
  rwa [oJ hr.named hl hb' hk] at this
 have h1 : FM f l f.bears.length ≤ 1099511627776 := ((FH f l _ _).1 (Int.le_refl _)).1
 have h2 : gi f l ≤ 1099511627776 := by
  have h3 := (qS hb l _).1 (Int.le_refl _) 0 (Nat.zero_le _) 0 (by omega)
  have h4 := JN hr.ranged hl h20 (Nat.zero_le _) 0
  have h5 := Aa hr.ranged 0
  omega
 have h3 := (key _ h1).1 (Int.le_refl _)
 have h4 := (key _ h2).2 (Int.le_refl _)
 omega
theorem NM {l l' : List Int} (h : l.Perm l') : l.sum = l'.sum := by
  induction h with
  | nil => rfl
  | cons x _ ih => rw [List.sum_cons, List.sum_cons, ih]
  | swap x y l => simp only [List.sum_cons]; omega
  | trans _ _ h1 h2 => exact h1.trans h2
theorem K6 (f : bS) {l l' : List Int} {n : Nat} (h : l.Nodup) (h' : l'.Nodup) (hm : ∀ x, x ∈ l ↔ 0 ≤ x ∧ x < (n : Int)) (hm' : ∀ x, x ∈ l' ↔ 0 ≤ x ∧ x < (n : Int)) (b : Nat) : mN f l b l.length = mN f l' b l'.length := by
 unfold mN
 rw [List.take_length, List.take_length]
 have hp : l.Perm l' := (List.perm_ext_iff_of_nodup h h').2 fun x => by rw [hm, hm']
 rw [NM (hp.map _)]
end Go.Proofs.YtmmcenjknimhbaaGreat
namespace Go.Proofs.YtmmcenjknimhbaaGreat
open Go Go.T
def over (f : bS) (l : List Int) (t b : Nat) : Prop := nth (nth (gF f l) t) b > nth f.bears b
instance (f : bS) (l : List Int) (t b : Nat) : Decidable (over f l t b) := by unfold over; infer_instance
theorem CG {f : bS} {r : List Int} (h : sG f r = none) {j : Nat} (hj : j < f.bears.length) : ¬ nth r j > nth f.bears j := by
 unfold sG at h
 rw [List.find?_eq_none] at h
 have := h j (List.mem_range.2 hj)
 simpa using this
theorem Ac {f : bS} (hb : 1 ≤ f.bears.length) (l : List Int) : (sB f l).isSome = decide (gi f l < 0) := by
  rw [Bool.eq_iff_iff, decide_eq_true_eq]
  by_cases h : 0 ≤ gi f l
  · have : sB f l = none := G5 fun j hj => CA fun b hb' => by
      have := (qS hb l 0).1 h j hj b hb'
      omega
    rw [this]
    exact ⟨fun h => (by cases h), fun h => (by omega)⟩
  · refine ⟨fun _ => by omega, fun _ => ?_⟩
    cases e : sB f l with
    | some x => rfl
    | none =>
      exfalso; apply h
      rw [qS hb]
      intro k hk b hb'
      unfold sB at e
      rw [List.findSome?_eq_none_iff] at e
      have := e k (List.mem_range.2 (by omega))
      have := CG (Option.map_eq_none_iff.1 this) hb'
      omega
structure RU (f : bS) (l : List Int) : Prop where
  rows : rq f l = gF f l
  ord : gw f l = 0
  mar : To f l = gi f l
  marl : FM f l f.bears.length = gi f l
  brk : Ul f l = if gi f l < 0 then 0 else 6
  TB : TB f l = breakT f l
  SD : SD f l = O2 f l
  rng : ∀ x ∈ l, 0 ≤ x ∧ x < (f.turnings.length : Int)
  len : l.length = f.turnings.length
  nodup : l.Nodup
  all : ∀ x, x ∈ l ↔ 0 ≤ x ∧ x < (f.turnings.length : Int)
theorem answers {f : bS} (h : bk f = 0) {l : List Int} (ho : kC f l = 0) : RU f l := by
 have hc : gX f = 0 := by rw [← jN]; exact h
 have hr := cB h
 have he : gw f l = 0 := by unfold gw; rw [if_neg (fun x => x hc)]; exact ho
 obtain ⟨h1, h2, _, _⟩ := lJ ho
 have hrep := LF h ho l.length (Nat.le_refl _)
 rw [List.take_length] at hrep
 have h8 := hr.ranged.turnings
 refine ⟨by unfold rq; rw [if_neg (fun x => x he)], he, by unfold To; rw [if_neg (fun x => x he)], QT hr h2 (by omega), ?_, by unfold Go.Proofs.YtmmcenjknimhbaaGreat.TB; rw [if_neg (fun x => x he)], by unfold Go.Proofs.YtmmcenjknimhbaaGreat.SD; rw [if_neg (fun x => x he)], h2, h1, hrep.nodup, fun x => ⟨fun hx => h2 x hx, fun hx => MX h hrep h1 hx⟩⟩
 unfold Ul
 rw [if_neg (fun x => x he), Ac hr.ranged.bears1]
 by_cases hm : gi f l < 0
 ·rw [if_pos hm, if_pos (decide_eq_true hm)]
 rw [if_neg hm, if_neg (by simpa using hm)]
end Go.Proofs.YtmmcenjknimhbaaGreat
namespace Go.Proofs.YtmmcenjknimhbaaGreat
open Go Go.T
attribute [local irreducible] eH cZ jR j7 eP eO eK eS eJ j8 eN j4 b8 dc j0 dZ j5 nth eZ cU aV cX bodyPost Exit.then Exit.inBlock Code.wp Code.wpIn
set_option maxRecDepth 100000 in
theorem xZ (l : List Int) (t : Ty) (h1 : t.one = true) (q : Int → Bool) (hd : t.deps = []) (hc : t.cdeps = []) (hf : ∀ x ∈ l, oK Tryz.prog t [Ty.int .i64 x] (Ty.bool (q x))) : cX Tryz.prog 142 [Ty.sl dN l, t] (Ty.int .i64 (fidx q l)) := by
 refine aY Tryz.func142 rfl (by decide) Tryz.ntmps142 (by exact Nat.le_of_ble_eq_true rfl) fun w0 M0 => ?_
 refine k9 (s := 0) rfl rfl lM fun hl => ?_
 refine aF (aA (b9 rfl (aD (aC (aF (aF (aA (gy rfl (cC rfl rfl rfl (bF rfl (aD (aC (af ?_)))))))))))))
 refine cK (fun (k : {k : Nat // ∀ x ∈ l.take k, q x = false}) => live [(0, Ty.sl dN l), (1, t), (7, Ty.int .i64 l.length), (8, Ty.int .i64 (k.1 : Nat))] []) (fun k => l.length - k.1) (⟨0, by simp⟩) ?_ fun k => ?_
 ·(refine c8.mk' ?_ ?_ <;> (repeat' (first | exact aI | exact aH | refine aB ?_ (Ty.aR _) | refine aB ?_ (Ty.aG _))))
 refine aF (aA (ak rfl rfl rfl (aD (aC (aF ?_)))))
 refine aa rfl (fun hc1 => ?_) (fun hc1 => ?_)
 ·refine bA (aC (aF (af (aF (aA (bF rfl (b9 rfl (aD (aC (aF (aA ?_)))))))))))
  refine eM (ty := t) rfl ?_
  refine gy rfl (bF rfl ?_)
  refine bG rfl rfl rfl rfl rfl rfl (by omega) ?_
  refine aK rfl rfl rfl rfl ?_
  refine eA rfl (hf _ (bL (by omega))) rfl ?_
  refine aD (aC ?_)
  refine c9 rfl (fun hc2 => ?_) (fun hc2 => ?_)
  ·refine aF (aA (bF rfl (b9 rfl (aD (aC (av (au (aW (aW (au (aW (bK rfl rfl ?_))))))))))))
   all_goals skip
   exact bE rfl rfl (congrArg (Ty.int .i64) (lG (by omega) k.2 (by rw [← cE]; exact hc2)).symm)
  refine bA (bH (aC (aA ?_)))
  refine bz rfl rfl (by omega) (by omega) ?_
  refine bF rfl (aD ?_)
  refine bO (⟨k.1 + 1, by rw [bh (by omega)]; intro x hx; rcases List.mem_append.1 hx with h | h; exact k.2 x h; rw [List.mem_singleton.1 h]; exact hc2⟩) ?_ (by show l.length - (k.1 + 1) < l.length - k.1; omega)
  (refine c8.mk' ?_ ?_ <;> (repeat' (first | exact aI | exact aH | refine aB ?_ (Ty.aR _) | refine aB ?_ (Ty.aG _))))
  all_goals skip
 refine cF (aL (aL (ah rfl (aC (aF (aA (b9 rfl (aD (aC (av (bK rfl rfl ?_)))))))))))
 all_goals skip
 exact bE rfl rfl (congrArg (Ty.int .i64) (m9 (by have := k.2; rwa [List.take_of_length_le (by omega)] at this)).symm)
set_option maxRecDepth 100000 in
theorem tJ (l : List Int) (t : Ty) (h1 : t.one = true) (q : Int → Bool) (hd : t.deps = []) (hc : t.cdeps = []) (hf : ∀ x ∈ l, oK Tryz.prog t [Ty.int .i64 x] (Ty.bool (q x))) : cX Tryz.prog 90 [Ty.sl dN l, t] (Ty.bool (l.any q)) := by
 refine aY Tryz.func90 rfl (by decide) Tryz.ntmps90 (by exact Nat.le_of_ble_eq_true rfl) fun w0 M0 => ?_
 refine aF (aA (dG rfl (aD (aC (aF (aA (gy rfl ?_)))))))
 refine eM (ty := t) rfl ?_
 refine aq (xZ l t h1 q hd hc hf) rfl (by exact aZ rfl (aZ hd rfl)) (by exact aU rfl (aU hc rfl)) rfl rfl ?_
 refine ak rfl rfl rfl (dG rfl (aD (aC (av (bK rfl rfl ?_)))))
 all_goals skip
 exact bE rfl rfl (congrArg Ty.bool (qJ q l))
set_option maxRecDepth 100000 in
theorem B1 (x : Int) (t : Ty) (h1 : t.one = true) (b : Bool) (hd : t.deps = []) (hc : t.cdeps = []) (hf : oK Tryz.prog t [Ty.int .i64 x] (Ty.bool b)) : cX Tryz.prog 145 [Ty.int .i64 x, Ty.pp [t]] (Ty.bool (!b)) := by
 refine aY Tryz.func145 rfl (by decide) Tryz.ntmps145 (by exact Nat.le_of_ble_eq_true rfl) fun w0 M0 => ?_
 refine aF (aA (dG rfl (aD (aC (aF (aA (aK rfl rfl rfl rfl (bF rfl (eA rfl hf rfl (ct rfl (dG rfl (aD (aC (av (bK rfl rfl ?_)))))))))))))))
 all_goals exact bN rfl rfl
set_option maxRecDepth 100000 in
theorem kJ (l : List Int) (t : Ty) (h1 : t.one = true) (q : Int → Bool) (hd : t.deps = []) (hc : t.cdeps = []) (hf : ∀ x ∈ l, oK Tryz.prog t [Ty.int .i64 x] (Ty.bool (q x))) : cX Tryz.prog 95 [Ty.sl dN l, t] (Ty.bool (l.all q)) := by
 refine aY Tryz.func95 rfl (by decide) Tryz.ntmps95 (by exact Nat.le_of_ble_eq_true rfl) fun w0 M0 => ?_
 refine aF (aA ?_)
 refine eY (ty := t) rfl h1 ?_
 refine dG rfl (aD (aC (aF (aA (gy rfl (cw rfl ?_))))))
 refine aq (tJ l (Ty.j9 _ [Ty.pp [t]]) rfl (fun x => !q x) (by exact aZ (aZ hd rfl) rfl) (by exact aU (aU hc rfl) rfl) fun x hx => cY (B1 x t h1 (q x) hd hc (hf x hx)) rfl rfl (by exact aZ (aZ hd rfl) rfl) (by exact aU (aU hc rfl) rfl) rfl rfl) rfl (by exact aZ rfl (aZ (aZ (aZ hd rfl) rfl) rfl)) (by exact aU rfl (aU (aU (aU hc rfl) rfl) rfl)) rfl rfl ?_
 refine ct rfl (dG rfl (aD (aC (av (bK rfl rfl ?_)))))
 all_goals skip
 exact bE rfl rfl (congrArg Ty.bool (wI q l))
set_option maxRecDepth 100000 in
theorem zD (l : List p9) (t : Ty) (h1 : t.one = true) (q : p9 → Bool) (hd : t.deps = []) (hc : t.cdeps = []) (hf : ∀ x ∈ l, oK Tryz.prog t [Ty.agg (jX.tys x)] (Ty.bool (q x))) : cX Tryz.prog 229 [Ty.sl jX l, t] (Ty.int .i64 (fidx q l)) := by
 refine aY Tryz.func229 rfl (by decide) Tryz.ntmps229 (by exact Nat.le_of_ble_eq_true rfl) fun w0 M0 => ?_
 refine k9 (s := 0) rfl rfl lM fun hl => ?_
 refine aF (aA (b9 rfl (aD (aC (aF (aF (aA (gy rfl (cC rfl rfl rfl (bF rfl (aD (aC (af ?_)))))))))))))
 refine cK (fun (k : {k : Nat // ∀ x ∈ l.take k, q x = false}) => live [(0, Ty.sl jX l), (1, t), (7, Ty.int .i64 l.length), (8, Ty.int .i64 (k.1 : Nat))] []) (fun k => l.length - k.1) (⟨0, by simp⟩) ?_ fun k => ?_
 ·(refine c8.mk' ?_ ?_ <;> (repeat' (first | exact aI | exact aH | refine aB ?_ (Ty.aR _) | refine aB ?_ (Ty.aG _))))
 refine aF (aA (ak rfl rfl rfl (aD (aC (aF ?_)))))
 refine aa rfl (fun hc1 => ?_) (fun hc1 => ?_)
 ·refine bA (aC (aF (af (aF (aA (bF rfl (b9 rfl (aD (aC (aF (aA ?_)))))))))))
  refine eM (ty := t) rfl ?_
  refine gy rfl (bF rfl ?_)
  refine bG rfl rfl rfl rfl rfl rfl (by omega) ?_
  refine ay rfl rfl rfl (by exact Nat.le_of_ble_eq_true rfl) ?_
  refine eA rfl (hf _ (bL (by omega))) rfl ?_
  refine aD (aC ?_)
  refine c9 rfl (fun hc2 => ?_) (fun hc2 => ?_)
  ·refine aF (aA (bF rfl (b9 rfl (aD (aC (av (au (aW (aW (au (aW (bK rfl rfl ?_))))))))))))
   all_goals skip
   exact bE rfl rfl (congrArg (Ty.int .i64) (lG (by omega) k.2 (by rw [← cE]; exact hc2)).symm)
  refine bA (bH (aC (aA ?_)))
  refine bz rfl rfl (by omega) (by omega) ?_
  refine bF rfl (aD ?_)
  refine bO (⟨k.1 + 1, by rw [bh (by omega)]; intro x hx; rcases List.mem_append.1 hx with h | h; exact k.2 x h; rw [List.mem_singleton.1 h]; exact hc2⟩) ?_ (by show l.length - (k.1 + 1) < l.length - k.1; omega)
  (refine c8.mk' ?_ ?_ <;> (repeat' (first | exact aI | exact aH | refine aB ?_ (Ty.aR _) | refine aB ?_ (Ty.aG _))))
  all_goals skip
 refine cF (aL (aL (ah rfl (aC (aF (aA (b9 rfl (aD (aC (av (bK rfl rfl ?_)))))))))))
 all_goals skip
 exact bE rfl rfl (congrArg (Ty.int .i64) (m9 (by have := k.2; rwa [List.take_of_length_le (by omega)] at this)).symm)
set_option maxRecDepth 100000 in
theorem uY (l : List p9) (t : Ty) (h1 : t.one = true) (q : p9 → Bool) (hd : t.deps = []) (hc : t.cdeps = []) (hf : ∀ x ∈ l, oK Tryz.prog t [Ty.agg (jX.tys x)] (Ty.bool (q x))) : cX Tryz.prog 221 [Ty.sl jX l, t] (Ty.bool (l.any q)) := by
 refine aY Tryz.func221 rfl (by decide) Tryz.ntmps221 (by exact Nat.le_of_ble_eq_true rfl) fun w0 M0 => ?_
 refine aF (aA (dG rfl (aD (aC (aF (aA (gy rfl ?_)))))))
 refine eM (ty := t) rfl ?_
 refine aq (zD l t h1 q hd hc hf) rfl (by exact aZ rfl (aZ hd rfl)) (by exact aU rfl (aU hc rfl)) rfl rfl ?_
 refine ak rfl rfl rfl (dG rfl (aD (aC (av (bK rfl rfl ?_)))))
 all_goals skip
 exact bE rfl rfl (congrArg Ty.bool (qJ q l))
set_option maxRecDepth 100000 in
theorem Ed (x : p9) (t : Ty) (h1 : t.one = true) (b : Bool) (hd : t.deps = []) (hc : t.cdeps = []) (hf : oK Tryz.prog t [Ty.agg (jX.tys x)] (Ty.bool b)) : cX Tryz.prog 222 [Ty.agg (jX.tys x), Ty.pp [t]] (Ty.bool (!b)) := by
 refine aY Tryz.func222 rfl (by decide) Tryz.ntmps222 (by exact Nat.le_of_ble_eq_true rfl) fun w0 M0 => ?_
 refine aF (aA (bC rfl (dG rfl (aD (aC (aF (aA (aK rfl rfl rfl rfl ?_))))))))
 refine ay rfl rfl rfl (by exact Nat.le_of_ble_eq_true rfl) ?_
 refine eA rfl hf rfl (ct rfl (dG rfl (aD (aC (av (bK rfl rfl ?_))))))
 all_goals exact bN rfl rfl
set_option maxRecDepth 100000 in
theorem rB (l : List p9) (t : Ty) (h1 : t.one = true) (q : p9 → Bool) (hd : t.deps = []) (hc : t.cdeps = []) (hf : ∀ x ∈ l, oK Tryz.prog t [Ty.agg (jX.tys x)] (Ty.bool (q x))) : cX Tryz.prog 185 [Ty.sl jX l, t] (Ty.bool (l.all q)) := by
 refine aY Tryz.func185 rfl (by decide) Tryz.ntmps185 (by exact Nat.le_of_ble_eq_true rfl) fun w0 M0 => ?_
 refine aF (aA ?_)
 refine eY (ty := t) rfl h1 ?_
 refine dG rfl (aD (aC (aF (aA (gy rfl (cw rfl ?_))))))
 refine aq (uY l (Ty.j9 _ [Ty.pp [t]]) rfl (fun x => !q x) (by exact aZ (aZ hd rfl) rfl) (by exact aU (aU hc rfl) rfl) fun x hx => cY (Ed x t h1 (q x) hd hc (hf x hx)) rfl rfl (by exact aZ (aZ hd rfl) rfl) (by exact aU (aU hc rfl) rfl) rfl rfl) rfl (by exact aZ rfl (aZ (aZ (aZ hd rfl) rfl) rfl)) (by exact aU rfl (aU (aU (aU hc rfl) rfl) rfl)) rfl rfl ?_
 refine ct rfl (dG rfl (aD (aC (av (bK rfl rfl ?_)))))
 all_goals skip
 exact bE rfl rfl (congrArg Ty.bool (wI q l))
set_option maxRecDepth 100000 in
theorem qo (l : List mQ) (t : Ty) (h1 : t.one = true) (q : mQ → Bool) (hd : t.deps = []) (hc : t.cdeps = []) (hf : ∀ x ∈ l, oK Tryz.prog t [Ty.agg (gL.tys x)] (Ty.bool (q x))) : cX Tryz.prog 33 [Ty.sl gL l, t] (Ty.int .i64 (fidx q l)) := by
 refine aY Tryz.func33 rfl (by decide) Tryz.ntmps33 (by exact Nat.le_of_ble_eq_true rfl) fun w0 M0 => ?_
 refine k9 (s := 0) rfl rfl lM fun hl => ?_
 refine aF (aA (b9 rfl (aD (aC (aF (aF (aA (gy rfl (cC rfl rfl rfl (bF rfl (aD (aC (af ?_)))))))))))))
 refine cK (fun (k : {k : Nat // ∀ x ∈ l.take k, q x = false}) => live [(0, Ty.sl gL l), (1, t), (7, Ty.int .i64 l.length), (8, Ty.int .i64 (k.1 : Nat))] []) (fun k => l.length - k.1) (⟨0, by simp⟩) ?_ fun k => ?_
 ·(refine c8.mk' ?_ ?_ <;> (repeat' (first | exact aI | exact aH | refine aB ?_ (Ty.aR _) | refine aB ?_ (Ty.aG _))))
 refine aF (aA (ak rfl rfl rfl (aD (aC (aF ?_)))))
 refine aa rfl (fun hc1 => ?_) (fun hc1 => ?_)
 ·refine bA (aC (aF (af (aF (aA (bF rfl (b9 rfl (aD (aC (aF (aA ?_)))))))))))
  refine eM (ty := t) rfl ?_
  refine gy rfl (bF rfl ?_)
  refine bG rfl rfl rfl rfl rfl rfl (by omega) ?_
  refine ay rfl rfl rfl (by exact Nat.le_of_ble_eq_true rfl) ?_
  refine eA rfl (hf _ (bL (by omega))) rfl ?_
  refine aD (aC ?_)
  refine c9 rfl (fun hc2 => ?_) (fun hc2 => ?_)
  ·refine aF (aA (bF rfl (b9 rfl (aD (aC (av (au (aW (aW (au (aW (bK rfl rfl ?_))))))))))))
   all_goals skip
   exact bE rfl rfl (congrArg (Ty.int .i64) (lG (by omega) k.2 (by rw [← cE]; exact hc2)).symm)
  refine bA (bH (aC (aA ?_)))
  refine bz rfl rfl (by omega) (by omega) ?_
  refine bF rfl (aD ?_)
  refine bO (⟨k.1 + 1, by rw [bh (by omega)]; intro x hx; rcases List.mem_append.1 hx with h | h; exact k.2 x h; rw [List.mem_singleton.1 h]; exact hc2⟩) ?_ (by show l.length - (k.1 + 1) < l.length - k.1; omega)
  (refine c8.mk' ?_ ?_ <;> (repeat' (first | exact aI | exact aH | refine aB ?_ (Ty.aR _) | refine aB ?_ (Ty.aG _))))
  all_goals skip
 refine cF (aL (aL (ah rfl (aC (aF (aA (b9 rfl (aD (aC (av (bK rfl rfl ?_)))))))))))
 all_goals skip
 exact bE rfl rfl (congrArg (Ty.int .i64) (m9 (by have := k.2; rwa [List.take_of_length_le (by omega)] at this)).symm)
set_option maxRecDepth 100000 in
theorem uZ (l : List mQ) (t : Ty) (h1 : t.one = true) (q : mQ → Bool) (hd : t.deps = []) (hc : t.cdeps = []) (hf : ∀ x ∈ l, oK Tryz.prog t [Ty.agg (gL.tys x)] (Ty.bool (q x))) : cX Tryz.prog 223 [Ty.sl gL l, t] (Ty.bool (l.any q)) := by
 refine aY Tryz.func223 rfl (by decide) Tryz.ntmps223 (by exact Nat.le_of_ble_eq_true rfl) fun w0 M0 => ?_
 refine aF (aA (dG rfl (aD (aC (aF (aA (gy rfl ?_)))))))
 refine eM (ty := t) rfl ?_
 refine aq (qo l t h1 q hd hc hf) rfl (by exact aZ rfl (aZ hd rfl)) (by exact aU rfl (aU hc rfl)) rfl rfl ?_
 refine ak rfl rfl rfl (dG rfl (aD (aC (av (bK rfl rfl ?_)))))
 all_goals skip
 exact bE rfl rfl (congrArg Ty.bool (qJ q l))
set_option maxRecDepth 100000 in
theorem EX (x : mQ) (t : Ty) (h1 : t.one = true) (b : Bool) (hd : t.deps = []) (hc : t.cdeps = []) (hf : oK Tryz.prog t [Ty.agg (gL.tys x)] (Ty.bool b)) : cX Tryz.prog 224 [Ty.agg (gL.tys x), Ty.pp [t]] (Ty.bool (!b)) := by
 refine aY Tryz.func224 rfl (by decide) Tryz.ntmps224 (by exact Nat.le_of_ble_eq_true rfl) fun w0 M0 => ?_
 refine aF (aA (bC rfl (dG rfl (aD (aC (aF (aA (aK rfl rfl rfl rfl ?_))))))))
 refine ay rfl rfl rfl (by exact Nat.le_of_ble_eq_true rfl) ?_
 refine eA rfl hf rfl (ct rfl (dG rfl (aD (aC (av (bK rfl rfl ?_))))))
 all_goals exact bN rfl rfl
set_option maxRecDepth 100000 in
theorem sI (l : List mQ) (t : Ty) (h1 : t.one = true) (q : mQ → Bool) (hd : t.deps = []) (hc : t.cdeps = []) (hf : ∀ x ∈ l, oK Tryz.prog t [Ty.agg (gL.tys x)] (Ty.bool (q x))) : cX Tryz.prog 188 [Ty.sl gL l, t] (Ty.bool (l.all q)) := by
 refine aY Tryz.func188 rfl (by decide) Tryz.ntmps188 (by exact Nat.le_of_ble_eq_true rfl) fun w0 M0 => ?_
 refine aF (aA ?_)
 refine eY (ty := t) rfl h1 ?_
 refine dG rfl (aD (aC (aF (aA (gy rfl (cw rfl ?_))))))
 refine aq (uZ l (Ty.j9 _ [Ty.pp [t]]) rfl (fun x => !q x) (by exact aZ (aZ hd rfl) rfl) (by exact aU (aU hc rfl) rfl) fun x hx => cY (EX x t h1 (q x) hd hc (hf x hx)) rfl rfl (by exact aZ (aZ hd rfl) rfl) (by exact aU (aU hc rfl) rfl) rfl rfl) rfl (by exact aZ rfl (aZ (aZ (aZ hd rfl) rfl) rfl)) (by exact aU rfl (aU (aU (aU hc rfl) rfl) rfl)) rfl rfl ?_
 refine ct rfl (dG rfl (aD (aC (av (bK rfl rfl ?_)))))
 all_goals skip
 exact bE rfl rfl (congrArg Ty.bool (wI q l))
set_option maxRecDepth 100000 in
theorem y4 (l : List kT) (t : Ty) (h1 : t.one = true) (q : kT → Bool) (hd : t.deps = []) (hc : t.cdeps = []) (hf : ∀ x ∈ l, oK Tryz.prog t [Ty.agg (jf.tys x)] (Ty.bool (q x))) : cX Tryz.prog 144 [Ty.sl jf l, t] (Ty.int .i64 (fidx q l)) := by
 refine aY Tryz.func144 rfl (by decide) Tryz.ntmps144 (by exact Nat.le_of_ble_eq_true rfl) fun w0 M0 => ?_
 refine k9 (s := 0) rfl rfl lM fun hl => ?_
 refine aF (aA (b9 rfl (aD (aC (aF (aF (aA (gy rfl (cC rfl rfl rfl (bF rfl (aD (aC (af ?_)))))))))))))
 refine cK (fun (k : {k : Nat // ∀ x ∈ l.take k, q x = false}) => live [(0, Ty.sl jf l), (1, t), (7, Ty.int .i64 l.length), (8, Ty.int .i64 (k.1 : Nat))] []) (fun k => l.length - k.1) (⟨0, by simp⟩) ?_ fun k => ?_
 ·(refine c8.mk' ?_ ?_ <;> (repeat' (first | exact aI | exact aH | refine aB ?_ (Ty.aR _) | refine aB ?_ (Ty.aG _))))
 refine aF (aA (ak rfl rfl rfl (aD (aC (aF ?_)))))
 refine aa rfl (fun hc1 => ?_) (fun hc1 => ?_)
 ·refine bA (aC (aF (af (aF (aA (bF rfl (b9 rfl (aD (aC (aF (aA ?_)))))))))))
  refine eM (ty := t) rfl ?_
  refine gy rfl (bF rfl ?_)
  refine bG rfl rfl rfl rfl rfl rfl (by omega) ?_
  refine ay rfl rfl rfl (by exact Nat.le_of_ble_eq_true rfl) ?_
  refine eA rfl (hf _ (bL (by omega))) rfl ?_
  refine aD (aC ?_)
  refine c9 rfl (fun hc2 => ?_) (fun hc2 => ?_)
  ·refine aF (aA (bF rfl (b9 rfl (aD (aC (av (au (aW (aW (au (aW (bK rfl rfl ?_))))))))))))
   all_goals skip
   exact bE rfl rfl (congrArg (Ty.int .i64) (lG (by omega) k.2 (by rw [← cE]; exact hc2)).symm)
  refine bA (bH (aC (aA ?_)))
  refine bz rfl rfl (by omega) (by omega) ?_
  refine bF rfl (aD ?_)
  refine bO (⟨k.1 + 1, by rw [bh (by omega)]; intro x hx; rcases List.mem_append.1 hx with h | h; exact k.2 x h; rw [List.mem_singleton.1 h]; exact hc2⟩) ?_ (by show l.length - (k.1 + 1) < l.length - k.1; omega)
  (refine c8.mk' ?_ ?_ <;> (repeat' (first | exact aI | exact aH | refine aB ?_ (Ty.aR _) | refine aB ?_ (Ty.aG _))))
  all_goals skip
 refine cF (aL (aL (ah rfl (aC (aF (aA (b9 rfl (aD (aC (av (bK rfl rfl ?_)))))))))))
 all_goals skip
 exact bE rfl rfl (congrArg (Ty.int .i64) (m9 (by have := k.2; rwa [List.take_of_length_le (by omega)] at this)).symm)
set_option maxRecDepth 100000 in
theorem nj (l : List kT) (t : Ty) (h1 : t.one = true) (q : kT → Bool) (hd : t.deps = []) (hc : t.cdeps = []) (hf : ∀ x ∈ l, oK Tryz.prog t [Ty.agg (jf.tys x)] (Ty.bool (q x))) : cX Tryz.prog 93 [Ty.sl jf l, t] (Ty.bool (l.any q)) := by
 refine aY Tryz.func93 rfl (by decide) Tryz.ntmps93 (by exact Nat.le_of_ble_eq_true rfl) fun w0 M0 => ?_
 refine aF (aA (dG rfl (aD (aC (aF (aA (gy rfl ?_)))))))
 refine eM (ty := t) rfl ?_
 refine aq (y4 l t h1 q hd hc hf) rfl (by exact aZ rfl (aZ hd rfl)) (by exact aU rfl (aU hc rfl)) rfl rfl ?_
 refine ak rfl rfl rfl (dG rfl (aD (aC (av (bK rfl rfl ?_)))))
 all_goals skip
 exact bE rfl rfl (congrArg Ty.bool (qJ q l))
set_option maxRecDepth 100000 in
theorem FE (x : kT) (t : Ty) (h1 : t.one = true) (b : Bool) (hd : t.deps = []) (hc : t.cdeps = []) (hf : oK Tryz.prog t [Ty.agg (jf.tys x)] (Ty.bool b)) : cX Tryz.prog 225 [Ty.agg (jf.tys x), Ty.pp [t]] (Ty.bool (!b)) := by
 refine aY Tryz.func225 rfl (by decide) Tryz.ntmps225 (by exact Nat.le_of_ble_eq_true rfl) fun w0 M0 => ?_
 refine aF (aA (bC rfl (dG rfl (aD (aC (aF (aA (aK rfl rfl rfl rfl ?_))))))))
 refine ay rfl rfl rfl (by exact Nat.le_of_ble_eq_true rfl) ?_
 refine eA rfl hf rfl (ct rfl (dG rfl (aD (aC (av (bK rfl rfl ?_))))))
 all_goals exact bN rfl rfl
set_option maxRecDepth 100000 in
theorem GM (l : List kT) (t : Ty) (h1 : t.one = true) (q : kT → Bool) (hd : t.deps = []) (hc : t.cdeps = []) (hf : ∀ x ∈ l, oK Tryz.prog t [Ty.agg (jf.tys x)] (Ty.bool (q x))) : cX Tryz.prog 194 [Ty.sl jf l, t] (Ty.bool (l.all q)) := by
 refine aY Tryz.func194 rfl (by decide) Tryz.ntmps194 (by exact Nat.le_of_ble_eq_true rfl) fun w0 M0 => ?_
 refine aF (aA ?_)
 refine eY (ty := t) rfl h1 ?_
 refine dG rfl (aD (aC (aF (aA (gy rfl (cw rfl ?_))))))
 refine aq (nj l (Ty.j9 _ [Ty.pp [t]]) rfl (fun x => !q x) (by exact aZ (aZ hd rfl) rfl) (by exact aU (aU hc rfl) rfl) fun x hx => cY (FE x t h1 (q x) hd hc (hf x hx)) rfl rfl (by exact aZ (aZ hd rfl) rfl) (by exact aU (aU hc rfl) rfl) rfl rfl) rfl (by exact aZ rfl (aZ (aZ (aZ hd rfl) rfl) rfl)) (by exact aU rfl (aU (aU (aU hc rfl) rfl) rfl)) rfl rfl ?_
 refine ct rfl (dG rfl (aD (aC (av (bK rfl rfl ?_)))))
 all_goals skip
 exact bE rfl rfl (congrArg Ty.bool (wI q l))
set_option maxRecDepth 100000 in
theorem zC (l : List vO) (t : Ty) (h1 : t.one = true) (q : vO → Bool) (hd : t.deps = []) (hc : t.cdeps = []) (hf : ∀ x ∈ l, oK Tryz.prog t [Ty.agg (rO.tys x)] (Ty.bool (q x))) : cX Tryz.prog 182 [Ty.sl rO l, t] (Ty.int .i64 (fidx q l)) := by
 refine aY Tryz.func182 rfl (by decide) Tryz.ntmps182 (by exact Nat.le_of_ble_eq_true rfl) fun w0 M0 => ?_
 refine k9 (s := 0) rfl rfl lM fun hl => ?_
 refine aF (aA (b9 rfl (aD (aC (aF (aF (aA (gy rfl (cC rfl rfl rfl (bF rfl (aD (aC (af ?_)))))))))))))
 refine cK (fun (k : {k : Nat // ∀ x ∈ l.take k, q x = false}) => live [(0, Ty.sl rO l), (1, t), (7, Ty.int .i64 l.length), (8, Ty.int .i64 (k.1 : Nat))] []) (fun k => l.length - k.1) (⟨0, by simp⟩) ?_ fun k => ?_
 ·(refine c8.mk' ?_ ?_ <;> (repeat' (first | exact aI | exact aH | refine aB ?_ (Ty.aR _) | refine aB ?_ (Ty.aG _))))
 refine aF (aA (ak rfl rfl rfl (aD (aC (aF ?_)))))
 refine aa rfl (fun hc1 => ?_) (fun hc1 => ?_)
 ·refine bA (aC (aF (af (aF (aA (bF rfl (b9 rfl (aD (aC (aF (aA ?_)))))))))))
  refine eM (ty := t) rfl ?_
  refine gy rfl (bF rfl ?_)
  refine bG rfl rfl rfl rfl rfl rfl (by omega) ?_
  refine ay rfl rfl rfl (by exact Nat.le_of_ble_eq_true rfl) ?_
  refine eA rfl (hf _ (bL (by omega))) rfl ?_
  refine aD (aC ?_)
  refine c9 rfl (fun hc2 => ?_) (fun hc2 => ?_)
  ·refine aF (aA (bF rfl (b9 rfl (aD (aC (av (au (aW (aW (au (aW (bK rfl rfl ?_))))))))))))
   all_goals skip
   exact bE rfl rfl (congrArg (Ty.int .i64) (lG (by omega) k.2 (by rw [← cE]; exact hc2)).symm)
  refine bA (bH (aC (aA ?_)))
  refine bz rfl rfl (by omega) (by omega) ?_
  refine bF rfl (aD ?_)
  refine bO (⟨k.1 + 1, by rw [bh (by omega)]; intro x hx; rcases List.mem_append.1 hx with h | h; exact k.2 x h; rw [List.mem_singleton.1 h]; exact hc2⟩) ?_ (by show l.length - (k.1 + 1) < l.length - k.1; omega)
  (refine c8.mk' ?_ ?_ <;> (repeat' (first | exact aI | exact aH | refine aB ?_ (Ty.aR _) | refine aB ?_ (Ty.aG _))))
  all_goals skip
 refine cF (aL (aL (ah rfl (aC (aF (aA (b9 rfl (aD (aC (av (bK rfl rfl ?_)))))))))))
 all_goals skip
 exact bE rfl rfl (congrArg (Ty.int .i64) (m9 (by have := k.2; rwa [List.take_of_length_le (by omega)] at this)).symm)
set_option maxRecDepth 100000 in
theorem uV (l : List vO) (t : Ty) (h1 : t.one = true) (q : vO → Bool) (hd : t.deps = []) (hc : t.cdeps = []) (hf : ∀ x ∈ l, oK Tryz.prog t [Ty.agg (rO.tys x)] (Ty.bool (q x))) : cX Tryz.prog 147 [Ty.sl rO l, t] (Ty.bool (l.any q)) := by
 refine aY Tryz.func147 rfl (by decide) Tryz.ntmps147 (by exact Nat.le_of_ble_eq_true rfl) fun w0 M0 => ?_
 refine aF (aA (dG rfl (aD (aC (aF (aA (gy rfl ?_)))))))
 refine eM (ty := t) rfl ?_
 refine aq (zC l t h1 q hd hc hf) rfl (by exact aZ rfl (aZ hd rfl)) (by exact aU rfl (aU hc rfl)) rfl rfl ?_
 refine ak rfl rfl rfl (dG rfl (aD (aC (av (bK rfl rfl ?_)))))
 all_goals skip
 exact bE rfl rfl (congrArg Ty.bool (qJ q l))
set_option maxRecDepth 100000 in
theorem EA (x : vO) (t : Ty) (h1 : t.one = true) (b : Bool) (hd : t.deps = []) (hc : t.cdeps = []) (hf : oK Tryz.prog t [Ty.agg (rO.tys x)] (Ty.bool b)) : cX Tryz.prog 148 [Ty.agg (rO.tys x), Ty.pp [t]] (Ty.bool (!b)) := by
 refine aY Tryz.func148 rfl (by decide) Tryz.ntmps148 (by exact Nat.le_of_ble_eq_true rfl) fun w0 M0 => ?_
 refine aF (aA (bC rfl (dG rfl (aD (aC (aF (aA (aK rfl rfl rfl rfl ?_))))))))
 refine ay rfl rfl rfl (by exact Nat.le_of_ble_eq_true rfl) ?_
 refine eA rfl hf rfl (ct rfl (dG rfl (aD (aC (av (bK rfl rfl ?_))))))
 all_goals exact bN rfl rfl
set_option maxRecDepth 100000 in
theorem q3 (l : List vO) (t : Ty) (h1 : t.one = true) (q : vO → Bool) (hd : t.deps = []) (hc : t.cdeps = []) (hf : ∀ x ∈ l, oK Tryz.prog t [Ty.agg (rO.tys x)] (Ty.bool (q x))) : cX Tryz.prog 99 [Ty.sl rO l, t] (Ty.bool (l.all q)) := by
 refine aY Tryz.func99 rfl (by decide) Tryz.ntmps99 (by exact Nat.le_of_ble_eq_true rfl) fun w0 M0 => ?_
 refine aF (aA ?_)
 refine eY (ty := t) rfl h1 ?_
 refine dG rfl (aD (aC (aF (aA (gy rfl (cw rfl ?_))))))
 refine aq (uV l (Ty.j9 _ [Ty.pp [t]]) rfl (fun x => !q x) (by exact aZ (aZ hd rfl) rfl) (by exact aU (aU hc rfl) rfl) fun x hx => cY (EA x t h1 (q x) hd hc (hf x hx)) rfl rfl (by exact aZ (aZ hd rfl) rfl) (by exact aU (aU hc rfl) rfl) rfl rfl) rfl (by exact aZ rfl (aZ (aZ (aZ hd rfl) rfl) rfl)) (by exact aU rfl (aU (aU (aU hc rfl) rfl) rfl)) rfl rfl ?_
 refine ct rfl (dG rfl (aD (aC (av (bK rfl rfl ?_)))))
 all_goals skip
 exact bE rfl rfl (congrArg Ty.bool (wI q l))
end Go.Proofs.YtmmcenjknimhbaaGreat
namespace Go.Proofs.YtmmcenjknimhbaaGreat
open Go Go.T
attribute [local irreducible] eH cZ jR j7 eP eO eK eS eJ j8 eN j4 b8 dc j0 dZ j5 nth eZ cU aV cX bodyPost Exit.then Exit.inBlock Code.wp Code.wpIn
theorem IJ {α : Type} [Inhabited α] {a b : List α} {k : Nat} (h : nth a k ≠ nth b k) : a ≠ b := fun e => h (by rw [e])
structure bS.Small (f : bS) : Prop where
  bears : f.bears.length ≤ 8
  bins : f.bins.length ≤ 9
  turnings : f.turnings.length ≤ 11
  rules : f.rules.length ≤ 21
  shares : ∀ b ∈ f.bins, b.shares.length ≤ 8
set_option maxRecDepth 100000 in
theorem wK (a b : List Int) : cX Tryz.prog 49 [Ty.sl dN a, Ty.sl dN b] (Ty.bool (decide (a = b))) := by
 refine aY Tryz.func49 rfl (by decide) Tryz.ntmps49 (by exact Nat.le_of_ble_eq_true rfl) fun w0 M0 => ?_
 refine k9 (s := 0) rfl rfl lM fun ha => ?_
 refine k9 (s := 1) rfl rfl lM fun hb => ?_
 refine aF (aA (dG rfl (aD (aC (aF (aF (aA (gy rfl (cC rfl rfl rfl (gy rfl (cC rfl rfl rfl (ak rfl rfl rfl (aD (aC ?_))))))))))))))
 refine ck rfl (fun hc1 => ?_) (fun hc1 => ?_)
 ·try (simp only [Classical.not_not] at hc1)
  refine aF (aA (dG rfl (aD (aC (av (aW (bK rfl rfl ?_)))))))
  all_goals skip
  exact bE rfl rfl (congrArg Ty.bool (by rw [eq_comm, decide_eq_false_iff_not]; intro e; subst e; exact hc1 rfl))
 try (simp only [Classical.not_not] at hc1)
 refine bA (aC (aF (aF (aA (gy rfl (cC rfl rfl rfl (bF rfl (aD (aC (af ?_))))))))))
 refine cK (fun (k : {k : Nat // a.take k = b.take k}) => live [(0, Ty.sl dN a), (1, Ty.sl dN b), (12, Ty.int .i64 a.length), (13, Ty.int .i64 (k.1 : Nat))] []) (fun k => a.length - k.1) (⟨0, by simp⟩) ?_ fun k => ?_
 ·(refine c8.mk' ?_ ?_ <;> (repeat' (first | exact aI | exact aH | refine aB ?_ (Ty.aR _) | refine aB ?_ (Ty.aG _))))
 have hlen : a.length = b.length := by omega
 refine aF (aA (ak rfl rfl rfl (aD (aC (aF ?_)))))
 refine aa rfl (fun hc2 => ?_) (fun hc2 => ?_)
 ·try (simp only [Classical.not_not] at hc2)
  refine bA (aC (aF (af (aF (aA (bF rfl (b9 rfl (aD (aC (aF (cg mixed rfl (gy rfl (bF rfl ?_)))))))))))))
  refine bG rfl rfl rfl rfl rfl rfl (by omega) ?_
  refine aK rfl rfl rfl rfl (gy rfl (bF rfl ?_))
  refine bG rfl rfl rfl rfl rfl rfl (by omega) ?_
  refine aK rfl rfl rfl rfl (ak rfl rfl rfl (aD ?_))
  refine ⟨by kernel_rfl, ?_⟩
  refine aC ?_
  refine ck rfl (fun hc3 => ?_) (fun hc3 => ?_)
  ·try (simp only [Classical.not_not] at hc3)
   refine aF (aA (dG rfl (aD (aC (av (au (aW (aW (au (aW (bK rfl rfl ?_)))))))))))
   all_goals skip
   exact bE rfl rfl (congrArg Ty.bool (by rw [eq_comm, decide_eq_false_iff_not]; exact IJ (k := k.1) (hc3)))
  try (simp only [Classical.not_not] at hc3)
  refine bA (bH (aC (aA ?_)))
  refine bz rfl rfl (by omega) (by omega) ?_
  refine bF rfl (aD ?_)
  refine bO (⟨k.1 + 1, by rw [bh (by omega), bh (by omega), k.2, hc3]⟩) ?_ (by show a.length - (k.1 + 1) < a.length - k.1; omega)
  (refine c8.mk' ?_ ?_ <;> (repeat' (first | exact aI | exact aH | refine aB ?_ (Ty.aR _) | refine aB ?_ (Ty.aG _))))
  all_goals skip
 try (simp only [Classical.not_not] at hc2)
 refine cF (aL (aL (ah rfl (aC (aF (aA (dG rfl (aD (aC (av (bK rfl rfl ?_)))))))))))
 all_goals skip
 exact bE rfl rfl (congrArg Ty.bool (by rw [eq_comm, decide_eq_true_eq]; have := k.2; rwa [List.take_of_length_le (by omega), List.take_of_length_le (by omega)] at this))
end Go.Proofs.YtmmcenjknimhbaaGreat
namespace Go.Proofs.YtmmcenjknimhbaaGreat
open Go Go.T
def cm (f : Nat → Int) : Nat → Int
  | 0 => 0
  | n + 1 => cm f n + f n
theorem gV {f g : Nat → Int} : ∀ {n : Nat}, (∀ i, i < n → f i = g i) → cm f n = cm g n
  | 0, _ => rfl
  | n + 1, h => by unfold cm; rw [gV fun i hi => h i (by omega), h n (by omega)]
theorem vo (f g : Nat → Int) : ∀ n, cm (fun i => f i + g i) n = cm f n + cm g n
  | 0 => rfl
  | n + 1 => by unfold cm; rw [vo f g n]; omega
theorem o9 (f g : Nat → Int) : ∀ n, cm (fun i => f i - g i) n = cm f n - cm g n
  | 0 => rfl
  | n + 1 => by unfold cm; rw [o9 f g n]; omega
theorem rS (k : Int) (f : Nat → Int) : ∀ n, cm (fun i => k * f i) n = k * cm f n
  | 0 => (Int.mul_zero k).symm
  | n + 1 => by unfold cm; rw [rS k f n, Int.mul_add]
theorem zM {f g : Nat → Int} : ∀ {n : Nat}, (∀ i, i < n → f i ≤ g i) → cm f n ≤ cm g n
  | 0, _ => Int.le_refl _
  | n + 1, h => by
    unfold cm
    have := zM (n := n) fun i hi => h i (by omega)
    have := h n (by omega)
    omega
theorem k5 {f : Nat → Int} {n : Nat} (h : ∀ i, i < n → f i = 0) : cm f n = 0 := by
  induction n with
  | zero => rfl
  | succ n ih => unfold cm; rw [ih fun i hi => h i (by omega), h n (by omega)]; rfl
theorem KY {f g : Nat → Int} {n k : Nat} (hk : k < n) (h : ∀ i, i < n → f i ≤ g i) (hl : f k < g k) : cm f n < cm g n := by
  induction n with
  | zero => omega
  | succ n ih =>
    unfold cm
    by_cases e : k = n
    · subst e
      have := zM (f := f) (g := g) (n := k) fun i hi => h i (by omega)
      omega
    · have := ih (by omega) fun i hi => h i (by omega)
      have := h n (by omega)
      omega
theorem rm {f : Nat → Int} {n k : Nat} (hk : k < n) (h : ∀ i, i < n → i ≠ k → f i = 0) : cm f n = f k := by
  induction n with
  | zero => omega
  | succ n ih =>
    unfold cm
    by_cases e : k = n
    · subst e; rw [k5 fun i hi => h i (by omega) (by omega)]; omega
    · rw [ih (by omega) fun i hi hn => h i (by omega) hn, h n (by omega) (by omega)]; omega
theorem xy (f : Nat → Nat → Int) (m : Nat) : ∀ n, cm (fun i => cm (f i) m) n = cm (fun j => cm (fun i => f i j) n) m
  | 0 => (k5 fun _ _ => rfl).symm
  | n + 1 => by
    show cm (fun i => cm (f i) m) n + cm (f n) m = cm (fun j => cm (fun i => f i j) n + f n j) m
    rw [xy f m n, vo]
theorem wO {f : Nat → Int} {b : Int} : ∀ {n : Nat}, (∀ i, i < n → -b ≤ f i ∧ f i ≤ b) → -(b * n) ≤ cm f n ∧ cm f n ≤ b * n
  | 0, _ => by simp [cm]
  | n + 1, h => by
    unfold cm
    have h1 := wO (n := n) fun i hi => h i (by omega)
    have h2 := h n (by omega)
    rw [show ((n + 1 : Nat) : Int) = n + 1 by omega, Int.mul_add]
    omega
structure c7 where
  src : Int
  dst : Int
  lo : Int
  hi : Int
deriving DecidableEq, Inhabited
structure bl where
  ix : Nat
  more : Bool
deriving DecidableEq
instance : Inhabited bl := ⟨⟨0, false⟩⟩
def ind (p : Prop) [Decidable p] : Int := if p then 1 else 0
theorem lT {p : Prop} [Decidable p] (h : p) : ind p = 1 := if_pos h
theorem kj {p : Prop} [Decidable p] (h : ¬ p) : ind p = 0 := if_neg h
section
variable {fl : List c7} {a a' : List Int} {n : Nat}
def cS (fl : List c7) (a : List Int) (c : Int) : Int := cm (fun i => (ind ((nth fl i).dst = c) - ind ((nth fl i).src = c)) * nth a i) fl.length
structure Net (fl : List c7) (n : Nat) : Prop where
  src : ∀ i, i < fl.length → 0 ≤ (nth fl i).src ∧ (nth fl i).src < n
  dst : ∀ i, i < fl.length → 0 ≤ (nth fl i).dst ∧ (nth fl i).dst < n
  ne : ∀ i, i < fl.length → (nth fl i).src ≠ (nth fl i).dst
def LR (fl : List c7) (a : List Int) : Prop := a.length = fl.length ∧ ∀ i, i < fl.length → (nth fl i).lo ≤ nth a i ∧ nth a i ≤ (nth fl i).hi
def SV (fl : List c7) (n : Nat) (a : List Int) : Prop := ∀ c : Nat, c < n → cS fl a c = 0
def FL (fl : List c7) (n : Nat) (a : List Int) : Prop := LR fl a ∧ SV fl n a
theorem Ka {π : Int → Int} {x : Int} (h : 0 ≤ x ∧ x < n) : cm (fun c => π c * ind (x = (c : Int))) n = π x := by
 rw [rm (k := x.toNat) (by omega) fun i hi hn => by rw [kj (by omega), Int.mul_zero], lT (by omega), Int.mul_one]
 congr 1; omega
theorem Gp (hN : Net fl n) (π : Int → Int) : cm (fun c => π c * cS fl a c) n = cm (fun i => (π (nth fl i).dst - π (nth fl i).src) * nth a i) fl.length := by
 unfold cS
 rw [gV (g := fun c : Nat => cm (fun i => π c * ((ind ((nth fl i).dst = c) - ind ((nth fl i).src = c)) * nth a i)) fl.length) fun c _ => (rS _ _ _).symm, xy]
 refine gV fun i hi => ?_
 rw [gV (g := fun c : Nat => nth a i * (π c * ind ((nth fl i).dst = c) - π c * ind ((nth fl i).src = c))) fun c _ => by
  rw [← Int.mul_sub, Int.mul_comm (_ - _) (nth a i), ← Int.mul_assoc, Int.mul_comm (π c), Int.mul_assoc], rS, o9, Ka (hN.dst i hi), Ka (hN.src i hi), Int.mul_comm]
theorem OG (hN : Net fl n) (h : SV fl n a) (π : Int → Int) : cm (fun i => (π (nth fl i).dst - π (nth fl i).src) * nth a i) fl.length = 0 := by
 rw [← Gp hN]
 exact k5 fun c hc => by rw [h c hc, Int.mul_zero]
def bl.fin (w : bl) (fl : List c7) : Int := if w.more then (nth fl w.ix).dst else (nth fl w.ix).src
def bl.jA (w : bl) (fl : List c7) : Int := if w.more then (nth fl w.ix).src else (nth fl w.ix).dst
def bl.room (w : bl) (fl : List c7) (a : List Int) : Int := if w.more then (nth fl w.ix).hi - nth a w.ix else nth a w.ix - (nth fl w.ix).lo
def Open (fl : List c7) (a : List Int) (w : bl) : Prop := w.ix < fl.length ∧ 0 < w.room fl a
theorem OI (hN : Net fl n) (hI : LR fl a) (R : Int → Bool) (hcl : ∀ w, Open fl a w → R (w.jA fl) = true → R (w.fin fl) = true)
    (h0 : ∀ c : Nat, c < n → R c = true → 0 ≤ cS fl a c) {c0 : Nat} (hc0 : c0 < n) (hR0 : R c0 = true) (hp : 0 < cS fl a c0) : ¬ ∃ a', FL fl n a' := by
  rintro ⟨a', hI', hE⟩
  have h1 := Gp (a := a) hN fun c => ind (R c = true)
  have h2 := OG hN hE fun c => ind (R c = true)
  have hpos : 0 < cm (fun c : Nat => ind (R c = true) * cS fl a c) n := by
    have := KY (f := fun _ => 0) (g := fun c : Nat => ind (R c = true) * cS fl a c) hc0 (fun i hi => by
      cases h : R i with
      | true => rw [lT rfl, Int.one_mul]; exact h0 i hi h
      | false => rw [kj (by decide), Int.zero_mul]; exact Int.le_refl _) (by show (0 : Int) < _; rw [hR0, lT rfl, Int.one_mul]; exact hp)
    rwa [k5 fun _ _ => rfl] at this
  have hle : cm (fun i => (ind (R (nth fl i).dst = true) - ind (R (nth fl i).src = true)) * nth a i) fl.length ≤ cm (fun i => (ind (R (nth fl i).dst = true) - ind (R (nth fl i).src = true)) * nth a' i) fl.length := by
    refine zM fun i hi => ?_
    have b1 := hI.2 i hi
    have b2 := hI'.2 i hi
    have c1 := hcl ⟨i, true⟩
    have c2 := hcl ⟨i, false⟩
    simp only [Open, bl.room, bl.jA, bl.fin, if_true, if_false, Bool.false_eq_true] at c1 c2
    have e1 : ind (true = true) = 1 := rfl
    have e0 : ind (false = true) = 0 := rfl
    cases hd : R (nth fl i).dst <;> cases hs : R (nth fl i).src <;> rw [hd] at c1 c2 <;> rw [hs] at c1 c2
    · simp [ind]
    · rw [e1, e0]
      have : ¬ 0 < (nth fl i).hi - nth a i := fun h => by have := c1 ⟨hi, h⟩ rfl; cases this
      omega
    · rw [e1, e0]
      have : ¬ 0 < nth a i - (nth fl i).lo := fun h => by have := c2 ⟨hi, h⟩ rfl; cases this
      omega
    · simp [ind]
  omega
end
end Go.Proofs.YtmmcenjknimhbaaGreat
namespace Go.Proofs.YtmmcenjknimhbaaGreat
open Go Go.T
def nK {α : Type} (p : α → Bool) (l : List α) : Int := match l.findIdx? p with | some i => (i : Int) | none => -1
theorem oY {α : Type} {p : α → Bool} {l : List α} {k : Nat} (hk : k < l.length) (h : ∀ x ∈ l.take k, p x = false) (hp : p l[k] = true) : nK p l = k := by
 have : l.findIdx? p = some k := by
  rw [List.findIdx?_eq_some_iff_getElem]
  refine ⟨hk, hp, fun j hj => ?_⟩
  have := h l[j] (by rw [List.mem_take_iff_getElem]; exact ⟨j, by omega, rfl⟩)
  simp [this]
 simp [nK, this]
theorem qM {α : Type} {p : α → Bool} {l : List α} (h : ∀ x ∈ l, p x = false) : nK p l = -1 := by
 have : l.findIdx? p = none := by simpa using h
 simp [nK, this]
theorem ve {α : Type} (p : α → Bool) (l : List α) : decide (0 ≤ nK p l) = l.any p := by
  unfold nK
  cases h : l.findIdx? p with
  | none =>
    rw [List.findIdx?_eq_none_iff] at h
    have : l.any p = false := by simpa using h
    rw [this]; rfl
  | some i =>
    have : l.any p = true := by
      rw [List.findIdx?_eq_some_iff_getElem] at h
      obtain ⟨hi, hp, _⟩ := h
      rw [List.any_eq_true]; exact ⟨_, List.getElem_mem hi, hp⟩
    rw [this]; simp
def tU (n lo hi : Int) : Bool := decide (n ≥ lo) && decide (n ≤ hi)
theorem fG {n lo hi : Int} : tU n lo hi = true ↔ lo ≤ n ∧ n ≤ hi := by unfold tU; simp
theorem wX {b : Bool} (h : b = false) : ¬ b = true := by rw [h]; decide
theorem AK {α : Type} [Inhabited α] {l : List α} {x : α} (h : x ∈ l) : ∃ m, m < l.length ∧ x = nth l m := by
 obtain ⟨m, hm, e⟩ := List.getElem_of_mem h
 exact ⟨m, hm, by rw [cE hm]; exact e.symm⟩
theorem mT : ∀ {n : Nat} {l : List Nat}, l.Nodup → (∀ y ∈ l, y < n) → l.length ≤ n
  | 0, l, _, hr => by
    cases l with
    | nil => simp
    | cons a _ => exact absurd (hr a List.mem_cons_self) (by omega)
  | n + 1, l, hn, hr => by
    by_cases h : n ∈ l
    · have h1 := List.length_erase_of_mem h
      have h2 := mT (n := n) (l := l.erase n) (hn.erase n) fun y hy => by
        have h3 := (hn.mem_erase_iff (a := y) (b := n)).1 hy
        have := hr y h3.2
        have := h3.1
        omega
      omega
    · have h2 := mT (n := n) (l := l) hn fun y hy => by
        have := hr y hy
        have : y ≠ n := fun e => h (e ▸ hy)
        omega
      omega
theorem nG {α : Type} [Inhabited α] {l : List α} {i j : Nat} {v : α} (h : j < l.length) : nth (l.set i v) j = if i = j then v else nth l j := by
 unfold nth
 rw [List.getD_eq_getElem?_getD, List.getD_eq_getElem?_getD, List.getElem?_set]
 by_cases e : i = j
 ·subst e; rw [if_pos rfl, if_pos rfl, if_pos h]; rfl
 rw [if_neg e, if_neg e]
theorem BU {α : Type} : ∀ (l : List α), l = [] ∨ ∃ l' x, l = l' ++ [x]
  | [] => .inl rfl
  | x :: l => by
    rcases BU l with h | ⟨l', y, h⟩
    · subst h; exact .inr ⟨[], x, rfl⟩
    · subst h; exact .inr ⟨x :: l', y, rfl⟩
theorem DU {α : Type} {C : List α → Prop} (h0 : C []) (h1 : ∀ l x, C l → C (l ++ [x])) : ∀ l, C l := by
  intro l
  have key : ∀ n (l : List α), l.length = n → C l := by
    intro n
    induction n with
    | zero => intro l h; rw [List.length_eq_zero_iff.1 h]; exact h0
    | succ n ih =>
      intro l h
      rcases BU l with e | ⟨l', x, e⟩
      · subst e; cases h
      · subst e; exact h1 l' x (ih l' (by simpa using h))
  exact key _ l rfl
section
variable {κ β : Type} [DecidableEq κ]
theorem r8 (q : List (κ × β)) (k : κ) (v : β) (x : κ) : x ∈ (cq q k v).map Prod.fst ↔ x = k ∨ x ∈ q.map Prod.fst := by
  induction q with
  | nil => simp [cq]
  | cons y l ih =>
    simp only [cq]
    by_cases h : y.1 = k
    · subst h; simp
    · rw [if_neg h]; simp only [List.map_cons, List.mem_cons, ih]
      constructor
      · rintro (h | h | h)
        · exact .inr (.inl h)
        · exact .inl h
        · exact .inr (.inr h)
      · rintro (h | h | h)
        · exact .inr (.inl h)
        · exact .inl h
        · exact .inr (.inr h)
theorem GG (q : List (κ × β)) (k : κ) (v : β) (hn : (q.map Prod.fst).Nodup) : ((cq q k v).map Prod.fst).Nodup := by
  induction q with
  | nil => simp [cq]
  | cons y l ih =>
    rw [List.map_cons, List.nodup_cons] at hn
    simp only [cq]
    by_cases h : y.1 = k
    · subst h; rw [if_pos rfl, List.map_cons, List.nodup_cons]; exact hn
    · rw [if_neg h, List.map_cons, List.nodup_cons]
      refine ⟨fun hm => ?_, ih hn.2⟩
      rcases (r8 l k v y.1).1 hm with e | e
      · exact h e
      · exact hn.1 e
theorem rT {q : List (κ × β)} {k : κ} {v : β} (h : bf q k = some v) : k ∈ q.map Prod.fst := by
  induction q with
  | nil => cases h
  | cons y l ih =>
    simp only [bf] at h
    by_cases e : y.1 = k
    · subst e; simp
    · rw [if_neg e] at h; exact List.mem_cons_of_mem _ (ih h)
theorem tF {q : List (κ × β)} {k : κ} (h : k ∈ q.map Prod.fst) : ∃ v, bf q k = some v := by
  induction q with
  | nil => cases h
  | cons y l ih =>
    simp only [bf]
    by_cases e : y.1 = k
    · exact ⟨_, if_pos e⟩
    · rw [if_neg e]; rw [List.map_cons, List.mem_cons] at h
      exact ih (h.resolve_left fun h => e h.symm)
theorem CO (q : List (κ × β)) (k : κ) (v : β) (h : bf q k = none) : (cq q k v).length = q.length + 1 := by
  induction q with
  | nil => rfl
  | cons y l ih =>
    simp only [bf] at h
    by_cases e : y.1 = k
    · rw [if_pos e] at h; cases h
    · rw [if_neg e] at h; simp only [cq, if_neg e, List.length_cons, ih h]
end
theorem wL {n : Nat} {l : List Int} (h : l.Nodup) (hr : ∀ y ∈ l, 0 ≤ y ∧ y < (n : Int)) : l.length ≤ n := by
 have h1 : (l.map Int.toNat).Nodup := by
  rw [List.nodup_iff_pairwise_ne, List.pairwise_map]
  refine (List.nodup_iff_pairwise_ne.1 h).imp_of_mem fun {a b} ha hb hne e => hne ?_
  have := hr a ha; have := hr b hb; omega
 have h2 := mT (n := n) h1 fun y hy => by
  obtain ⟨z, hz, rfl⟩ := List.mem_map.1 hy
  have := hr z hz; omega
 rwa [List.length_map] at h2
section
variable {σ ρ : Type} [Inhabited ρ] {step : σ → σ ⊕ ρ} {x y : σ} {r s : ρ}
def Fk (step : σ → σ ⊕ ρ) : Nat → σ → Option ρ
  | 0, _ => none
  | n + 1, x => match step x with | .inl y => Fk step n y | .inr r => some r
def rX (step : σ → σ ⊕ ρ) (x : σ) (r : ρ) : Prop := ∃ n, Fk step n x = some r
omit [Inhabited ρ] in
theorem Gq : ∀ {n m : Nat} {x : σ}, Fk step n x = some r → Fk step m x = some s → r = s
  | 0, _, _, h, _ => by cases h
  | _ + 1, 0, _, _, h => by cases h
  | n + 1, m + 1, x, h, h' => by
    unfold Fk at h h'
    cases e : step x with
    | inl y => rw [e] at h h'; exact Gq h h'
    | inr t => rw [e] at h h'; injection h with h; injection h' with h'; rw [← h, h']
omit [Inhabited ρ] in
theorem rX.Vp (h : rX step x r) (h' : rX step x s) : r = s := let ⟨_, h⟩ := h; let ⟨_, h'⟩ := h'; Gq h h'
noncomputable def pN (step : σ → σ ⊕ ρ) (x : σ) : ρ := open Classical in if h : ∃ r, rX step x r then h.choose else default
theorem D9 (h : rX step x r) : pN step x = r := by
 have hx : ∃ r, rX step x r := ⟨r, h⟩
 unfold pN; rw [dif_pos hx]; exact hx.choose_spec.Vp h
omit [Inhabited ρ] in
theorem ID (e : step x = .inr r) : rX step x r := ⟨1, by unfold Fk; rw [e]⟩
theorem jw (e : step x = .inr r) : pN step x = r := D9 (ID e)
omit [Inhabited ρ] in
theorem AB (e : step x = .inl y) : rX step x r ↔ rX step y r := by
  constructor
  · rintro ⟨n, h⟩
    cases n with
    | zero => cases h
    | succ n => unfold Fk at h; rw [e] at h; exact ⟨n, h⟩
  · rintro ⟨n, h⟩; exact ⟨n + 1, by unfold Fk; rw [e]; exact h⟩
theorem iO (e : step x = .inl y) : pN step x = pN step y := by
 by_cases h : ∃ r, rX step y r
 ·obtain ⟨r, h⟩ := h
  rw [D9 h, D9 ((AB e).2 h)]
 have h' : ¬ ∃ r, rX step x r := fun ⟨r, hr⟩ => h ⟨r, (AB e).1 hr⟩
 unfold pN; rw [dif_neg h, dif_neg h']
theorem wV (I : σ → Prop) (S : ρ → Prop) (mu : σ → Nat) (h : ∀ x, I x → (∃ y, step x = .inl y ∧ I y ∧ mu y < mu x) ∨ ∃ r, step x = .inr r ∧ S r) : ∀ x, I x → S (pN step x) := by
  have key : ∀ n x, mu x < n → I x → S (pN step x) := by
    intro n
    induction n with
    | zero => intro x hx; omega
    | succ n ih =>
      intro x hx hI
      rcases h x hI with ⟨y, e, hy, hm⟩ | ⟨r, e, hr⟩
      · rw [iO e]; exact ih y (by omega) hy
      · rw [jw e]; exact hr
  exact fun x hx => key _ x (Nat.lt_succ_self _) hx
end
end Go.Proofs.YtmmcenjknimhbaaGreat
namespace Go.Proofs.YtmmcenjknimhbaaGreat
open Go Go.T
section
variable {fl : List c7} {a : List Int} {n : Nat} {w u : bl} {c x y z by_ : Int}
def O3 (fl : List c7) (a : List Int) (c : Int) (i : Nat) : List bl := (if nth a i < (nth fl i).hi ∧ (nth fl i).src = c then [⟨i, true⟩] else []) ++ (if nth a i > (nth fl i).lo ∧ (nth fl i).dst = c then [⟨i, false⟩] else [])
def bZ (fl : List c7) (a : List Int) (c : Int) : List bl := (List.range fl.length).flatMap (O3 fl a c)
theorem wC : w ∈ bZ fl a c ↔ Open fl a w ∧ w.jA fl = c := by
  unfold bZ O3 Open bl.room bl.jA
  rw [List.mem_flatMap]
  constructor
  · rintro ⟨i, hi, h⟩
    rw [List.mem_range] at hi
    rcases List.mem_append.1 h with h | h
    · split at h
      · rename_i hc; rw [List.mem_singleton.1 h]; exact ⟨⟨hi, by simp only [if_true]; omega⟩, hc.2⟩
      · cases h
    · split at h
      · rename_i hc; rw [List.mem_singleton.1 h]; exact ⟨⟨hi, by simp only [Bool.false_eq_true, if_false]; omega⟩, hc.2⟩
      · cases h
  · rintro ⟨⟨h1, h2⟩, h3⟩
    refine ⟨w.ix, List.mem_range.2 h1, ?_⟩
    obtain ⟨i, m⟩ := w
    cases m with
    | true =>
      simp only [if_true] at h2 h3
      refine List.mem_append.2 (.inl ?_)
      rw [if_pos ⟨by show nth a i < (nth fl i).hi; have : 0 < (nth fl i).hi - nth a i := h2; omega, h3⟩]; exact List.mem_singleton.2 rfl
    | false =>
      simp only [Bool.false_eq_true, if_false] at h2 h3
      refine List.mem_append.2 (.inr ?_)
      rw [if_pos ⟨by show nth a i > (nth fl i).lo; have : 0 < nth a i - (nth fl i).lo := h2; omega, h3⟩]; exact List.mem_singleton.2 rfl
theorem PU (i : Nat) : (O3 fl a c i).length ≤ 2 := by
 unfold O3; split <;> split <;> simp
theorem Al : (bZ fl a c).length ≤ 2 * fl.length := by
  have key : ∀ n, ((List.range n).flatMap (O3 fl a c)).length ≤ 2 * n := by
    intro n
    induction n with
    | zero => simp
    | succ n ih => rw [List.range_succ, List.flatMap_append, List.length_append, List.flatMap_singleton]; have := PU (fl := fl) (a := a) (c := c) n; omega
  exact key _
theorem Net.way (hN : Net fl n) (h : w.ix < fl.length) : (0 ≤ w.jA fl ∧ w.jA fl < n) ∧ (0 ≤ w.fin fl ∧ w.fin fl < n) ∧ w.jA fl ≠ w.fin fl := by
 unfold bl.jA bl.fin
 have h1 := hN.src _ h
 have h2 := hN.dst _ h
 have h3 := hN.ne _ h
 cases w.more <;> simp <;> omega
def Hl (w : bl) (k : Int) : Int := if w.more then k else -k
def ql (a : List Int) (w : bl) (k : Int) : List Int := a.set w.ix (nth a w.ix + Hl w k)
def iA (a : List Int) (l : List bl) (k : Int) : List Int := l.foldl (fun a w => ql a w k) a
theorem xw (k : Int) : (ql a w k).length = a.length := List.length_set
theorem m8 (h : w.ix < a.length) (i : Nat) (k : Int) : nth (ql a w k) i = if w.ix = i then nth a i + Hl w k else nth a i := by
 unfold ql
 by_cases e : i < a.length
 ·rw [nG e]; split
  ·rename_i e; subst e; rfl
  rfl
 rw [if_neg (by omega)]
 have h1 : (a.set w.ix (nth a w.ix + Hl w k))[i]? = none := List.getElem?_eq_none (by rw [List.length_set]; omega)
 have h2 : a[i]? = none := List.getElem?_eq_none (by omega)
 unfold nth at *
 simp only [List.getD_eq_getElem?_getD] at *
 rw [h1, h2]
theorem IU (hl : a.length = fl.length) (h : w.ix < fl.length) (k : Int) (c : Int) : cS fl (ql a w k) c = cS fl a c + (ind (w.fin fl = c) - ind (w.jA fl = c)) * k := by
  unfold cS
  have e : cm (fun i => (ind ((nth fl i).dst = c) - ind ((nth fl i).src = c)) * nth (ql a w k) i) fl.length - cm (fun i => (ind ((nth fl i).dst = c) - ind ((nth fl i).src = c)) * nth a i) fl.length = (ind (w.fin fl = c) - ind (w.jA fl = c)) * k := by
    rw [← o9, rm h fun i _ hn => by rw [m8 (by omega), if_neg (fun e => hn e.symm)]; omega]
    rw [m8 (by omega), if_pos rfl, ← Int.mul_sub, show nth a w.ix + Hl w k - nth a w.ix = Hl w k by omega]
    unfold Hl bl.fin bl.jA
    cases w.more with
    | true => simp
    | false => simp only [Bool.false_eq_true, if_false]; rw [Int.mul_neg, ← Int.neg_mul, Int.neg_sub]
  omega
def Trail (fl : List c7) : List bl → Int → Int → Prop
  | [], x, y => x = y
  | w :: l, x, y => w.fin fl = x ∧ Trail fl l (w.jA fl) y
theorem wk (hl : a.length = fl.length) (k : Int) : ∀ (l : List bl) (a : List Int) (x y : Int), a.length = fl.length → (∀ w ∈ l, w.ix < fl.length) → Trail fl l x y → ∀ c, cS fl (iA a l k) c = cS fl a c + (ind (x = c) - ind (y = c)) * k
  | [], a, x, y, _, _, h, c => by obtain rfl : x = y := h; simp [iA]
  | w :: l, a, x, y, ha, hw, h, c => by
    show cS fl (iA (ql a w k) l k) c = _
    rw [wk hl k l _ (w.jA fl) y (by rw [xw]; exact ha) (fun u hu => hw u (List.mem_cons_of_mem _ hu)) h.2, IU ha (hw w List.mem_cons_self), h.1]
    rw [Int.add_assoc, ← Int.add_mul]
    congr 2; omega
theorem LZ (hl : a.length = fl.length) (hw : w.ix < fl.length) {k : Int} (hk : 0 ≤ k) (hne : u ≠ w) : u.room fl a ≤ u.room fl (ql a w k) := by
 unfold bl.room
 rw [m8 (by omega)]
 by_cases e : w.ix = u.ix
 ·rw [if_pos e]
  have hm : u.more ≠ w.more := fun h => hne (by cases u; cases w; simp_all)
  unfold Hl
  revert hm
  cases u.more <;> cases w.more <;> simp <;> omega
 rw [if_neg e]; exact Int.le_refl _
theorem Lg (h : LR fl a) (hw : w.ix < fl.length) {k : Int} (hk : 0 ≤ k) (hr : k ≤ w.room fl a) : LR fl (ql a w k) := by
 refine ⟨by rw [xw]; exact h.1, fun i hi => ?_⟩
 have hb := h.2 i hi
 have hl := h.1
 rw [m8 (by omega)]
 split
 ·rename_i e; subst e
  unfold bl.room at hr; unfold Hl
  revert hr
  cases w.more <;> simp <;> omega
 exact hb
theorem zb {k : Int} (hk : 0 ≤ k) : ∀ (l : List bl) (a : List Int), LR fl a → l.Nodup → (∀ w ∈ l, w.ix < fl.length ∧ k ≤ w.room fl a) → LR fl (iA a l k)
  | [], _, h, _, _ => h
  | w :: l, a, h, hn, hw => by
    rw [List.nodup_cons] at hn
    have h0 := hw w List.mem_cons_self
    refine zb hk l _ (Lg h h0.1 hk h0.2) hn.2 fun u hu => ?_
    have h1 := hw u (List.mem_cons_of_mem _ hu)
    exact ⟨h1.1, Int.le_trans h1.2 (LZ h.1 h0.1 hk fun e => hn.1 (by rw [← e]; exact hu))⟩
theorem Hg (hl : a.length = fl.length) (h : w.ix < fl.length) (g : Nat → Int) (k : Int) : cm (fun i => g i * nth (ql a w k) i) fl.length = cm (fun i => g i * nth a i) fl.length + Hl w (g w.ix) * k := by
  have e : cm (fun i => g i * nth (ql a w k) i) fl.length - cm (fun i => g i * nth a i) fl.length = Hl w (g w.ix) * k := by
    rw [← o9, rm h fun i _ hn => by rw [m8 (by omega), if_neg (fun e => hn e.symm)]; omega]
    rw [m8 (by omega), if_pos rfl, ← Int.mul_sub, show nth a w.ix + Hl w k - nth a w.ix = Hl w k by omega]
    unfold Hl
    cases w.more with
    | true => simp
    | false => simp only [Bool.false_eq_true, if_false]; rw [Int.mul_neg, Int.neg_mul]
  omega
def AM (g : Nat → Int) (l : List bl) : Int := (l.map fun w => Hl w (g w.ix)).sum
theorem zT (g : Nat → Int) (k : Int) : ∀ (l : List bl) (a : List Int), a.length = fl.length → (∀ w ∈ l, w.ix < fl.length) → cm (fun i => g i * nth (iA a l k) i) fl.length = cm (fun i => g i * nth a i) fl.length + AM g l * k
  | [], a, _, _ => by simp [iA, AM]
  | w :: l, a, ha, hw => by
    show cm (fun i => g i * nth (iA (ql a w k) l k) i) fl.length = _
    rw [zT g k l _ (by rw [xw]; exact ha) fun u hu => hw u (List.mem_cons_of_mem _ hu), Hg ha (hw w List.mem_cons_self)]
    unfold AM
    rw [List.map_cons, List.sum_cons, Int.add_mul]; omega
end
end Go.Proofs.YtmmcenjknimhbaaGreat
namespace Go.Proofs.YtmmcenjknimhbaaGreat
open Go Go.T
section
variable {fl : List c7} {a : List Int} {n : Nat} {s : Int} {c : Int} {w : bl}
structure mB where
  by_ : List (Int × bl)
  queue : List Int
instance : Inhabited mB := ⟨⟨[], []⟩⟩
def C7 (q : List (Int × bl)) (s c : Int) : Prop := c = s ∨ c ∈ q.map Prod.fst
def D0 (fl : List c7) (s : Int) (q : List (Int × bl)) (w : bl) : Bool := !(bf q (w.fin fl)).isSome && !decide (w.fin fl = s)
def yK (fl : List c7) (s : Int) (x : mB) (w : bl) : mB := if D0 fl s x.by_ w = true then ⟨cq x.by_ (w.fin fl) w, x.queue ++ [w.fin fl]⟩ else x
theorem Dm {x : mB} (h : D0 fl s x.by_ w = true) : yK fl s x w = ⟨cq x.by_ (w.fin fl) w, x.queue ++ [w.fin fl]⟩ := if_pos h
theorem HH {x : mB} (h : D0 fl s x.by_ w = false) : yK fl s x w = x := if_neg (by rw [h]; decide)
def jy (fl : List c7) (a : List Int) (s c : Int) (x : mB) (k : Nat) : mB := ((bZ fl a c).take k).foldl (yK fl s) x
theorem Ag {x : mB} {k : Nat} (hk : k < (bZ fl a c).length) : jy fl a s c x (k + 1) = yK fl s (jy fl a s c x k) (nth (bZ fl a c) k) := by
 unfold jy; rw [bh hk, List.foldl_append]; rfl
def Ao (fl : List c7) (a : List Int) (s : Int) (x : mB) : mB ⊕ List (Int × bl) :=
  match x.queue with
  | [] => .inr x.by_
  | c :: r => .inl (jy fl a s c ⟨x.by_, r⟩ (bZ fl a c).length)
noncomputable def dK (fl : List c7) (a : List Int) (s : Int) : List (Int × bl) := pN (Ao fl a s) ⟨[], [s]⟩
structure nR (fl : List c7) (a : List Int) (n : Nat) (s : Int) (x : mB) (cur : Option (Int × List bl)) : Prop where
  keys : (x.by_.map Prod.fst).Nodup
  range : ∀ c ∈ x.by_.map Prod.fst, 0 ≤ c ∧ c < n
  out : s ∉ x.by_.map Prod.fst
  q : ∀ c ∈ x.queue, C7 x.by_ s c
  arc : ∃ dep : Int → Nat, dep s = 0 ∧ ∀ c w, bf x.by_ c = some w → Open fl a w ∧ w.fin fl = c ∧ C7 x.by_ s (w.jA fl) ∧ dep (w.jA fl) < dep c ∧ dep c ≤ x.by_.length
  done : ∀ c, C7 x.by_ s c → c ∉ x.queue → ∀ w ∈ bZ fl a c, C7 x.by_ s (w.fin fl) ∨ ∃ r, cur = some (c, r) ∧ w ∈ r
  cur : ∀ c r, cur = some (c, r) → C7 x.by_ s c ∧ ∀ w ∈ r, Open fl a w ∧ w.jA fl = c
theorem UG (hs : 0 ≤ s ∧ s < n) : nR fl a n s ⟨[], [s]⟩ none :=
 ⟨List.nodup_nil, (fun c h => by cases h), (fun h => by cases h), fun c h => .inl (List.mem_singleton.1 h), ⟨fun _ => 0, rfl, fun c w h => by cases h⟩,
  (fun c h hn => by
   rcases h with rfl | h
   ·exact absurd (List.mem_singleton.2 rfl) hn
   cases h), fun c r h => by cases h⟩
theorem nR.look (hN : Net fl n) {x : mB} {r : List bl} (h : nR fl a n s x (some (c, w :: r))) : nR fl a n s (yK fl s x w) (some (c, r)) := by
  obtain ⟨hm, hw⟩ := h.cur c _ rfl
  obtain ⟨ho, hb⟩ := hw w List.mem_cons_self
  cases e : D0 fl s x.by_ w with
  | false =>
    rw [HH e]
    have hmet : C7 x.by_ s (w.fin fl) := by
      unfold D0 at e
      rw [Bool.and_eq_false_iff, Bool.not_eq_false', Bool.not_eq_false', decide_eq_true_eq] at e
      rcases e with e | e
      · obtain ⟨v, hv⟩ := Option.isSome_iff_exists.1 e; exact .inr (rT hv)
      · exact .inl e
    refine ⟨h.keys, h.range, h.out, h.q, h.arc, fun c' hc hn u hu => ?_, fun c' r' e' => ?_⟩
    · rcases h.done c' hc hn u hu with h1 | ⟨r', e', hr⟩
      · exact .inl h1
      · injection e' with e'; injection e' with e1 e2; subst e1; subst e2
        rcases List.mem_cons.1 hr with rfl | hr
        · exact .inl hmet
        · exact .inr ⟨r, rfl, hr⟩
    · injection e' with e'; injection e' with e1 e2; subst e1; subst e2
      exact ⟨hm, fun u hu => hw u (List.mem_cons_of_mem _ hu)⟩
  | true =>
    rw [Dm e]
    unfold D0 at e
    rw [Bool.and_eq_true, Bool.not_eq_true', Bool.not_eq_true', decide_eq_false_iff_not] at e
    have hnone : bf x.by_ (w.fin fl) = none := by cases h : bf x.by_ (w.fin fl) with | none => rfl | some v => rw [h] at e; cases e.1
    have hnk : w.fin fl ∉ x.by_.map Prod.fst := fun hk => by obtain ⟨v, hv⟩ := tF hk; rw [hnone] at hv; cases hv
    have hkeys : ∀ z, z ∈ (cq x.by_ (w.fin fl) w).map Prod.fst ↔ z = w.fin fl ∨ z ∈ x.by_.map Prod.fst := r8 x.by_ (w.fin fl) w
    have hMet : ∀ z, C7 (cq x.by_ (w.fin fl) w) s z ↔ z = w.fin fl ∨ C7 x.by_ s z := fun z => by
      unfold C7; rw [hkeys]
      constructor
      · rintro (h | h | h)
        · exact .inr (.inl h)
        · exact .inl h
        · exact .inr (.inr h)
      · rintro (h | h | h)
        · exact .inr (.inl h)
        · exact .inl h
        · exact .inr (.inr h)
    have hnm : ¬ C7 x.by_ s (w.fin fl) := fun h => h.elim e.2 hnk
    refine ⟨GG _ _ _ h.keys, fun z hz => ?_, fun hs => ?_, fun z hz => ?_, ?_, fun z hz hn u hu => ?_, fun c' r' e' => ?_⟩
    · rcases (hkeys z).1 hz with rfl | hz
      · exact (hN.way ho.1).2.1
      · exact h.range z hz
    · rcases (hkeys s).1 hs with hs | hs
      · exact e.2 hs.symm
      · exact h.out hs
    · rw [hMet]
      rcases List.mem_append.1 hz with hz | hz
      · exact .inr (h.q z hz)
      · exact .inl (List.mem_singleton.1 hz)
    · obtain ⟨dep, d0, hd⟩ := h.arc
      refine ⟨fun z => if z = w.fin fl then dep c + 1 else dep z, by show (if s = w.fin fl then _ else _) = 0; rw [if_neg (fun h => e.2 h.symm)]; exact d0, fun z u hz => ?_⟩
      rw [nJ] at hz
      rw [CO _ _ _ hnone]
      have hcl : dep c ≤ x.by_.length := by
        rcases hm with rfl | hm
        · omega
        · obtain ⟨v, hv⟩ := tF hm; exact (hd c v hv).2.2.2.2
      have hcn : c ≠ w.fin fl := fun h => hnm (by rw [← h]; exact hm)
      by_cases ez : w.fin fl = z
      · rw [if_pos ez] at hz; injection hz with hz; subst hz
        refine ⟨ho, ez, (hMet _).2 (.inr (by rw [hb]; exact hm)), ?_, ?_⟩
        · show (if w.jA fl = w.fin fl then _ else _) < if z = w.fin fl then _ else _
          rw [hb, if_neg hcn, if_pos ez.symm]; omega
        · show (if z = w.fin fl then _ else _) ≤ _
          rw [if_pos ez.symm]; omega
      · rw [if_neg ez] at hz
        obtain ⟨a1, a2, a3, a4, a5⟩ := hd z u hz
        have hbn : u.jA fl ≠ w.fin fl := fun h => hnm (by rw [← h]; exact a3)
        refine ⟨a1, a2, (hMet _).2 (.inr a3), ?_, ?_⟩
        · show (if u.jA fl = w.fin fl then _ else _) < if z = w.fin fl then _ else _
          rw [if_neg hbn, if_neg (fun h => ez h.symm)]; exact a4
        · show (if z = w.fin fl then _ else _) ≤ _
          rw [if_neg (fun h => ez h.symm)]; omega
    · have hzn : z ≠ w.fin fl := fun h => hn (List.mem_append.2 (.inr (by rw [h]; exact List.mem_singleton.2 rfl)))
      have hz' : C7 x.by_ s z := ((hMet z).1 hz).resolve_left hzn
      rcases h.done z hz' (fun h => hn (List.mem_append.2 (.inl h))) u hu with h1 | ⟨r', e', hr⟩
      · exact .inl ((hMet _).2 (.inr h1))
      · injection e' with e'; injection e' with e1 e2; subst e1; subst e2
        rcases List.mem_cons.1 hr with rfl | hr
        · exact .inl ((hMet _).2 (.inl rfl))
        · exact .inr ⟨r, rfl, hr⟩
    · injection e' with e'; injection e' with e1 e2; subst e1; subst e2
      exact ⟨(hMet _).2 (.inr hm), fun u hu => hw u (List.mem_cons_of_mem _ hu)⟩
theorem nR.fold (hN : Net fl n) {x : mB} (h : nR fl a n s x (some (c, bZ fl a c))) : ∀ k, k ≤ (bZ fl a c).length → nR fl a n s (jy fl a s c x k) (some (c, (bZ fl a c).drop k))
  | 0, _ => by rw [List.drop_zero]; exact h
  | k + 1, hk => by
    have ih := nR.fold hN h k (by omega)
    rw [Ag (by omega)]
    refine nR.look hN (w := nth (bZ fl a c) k) ?_
    rw [List.drop_eq_getElem_cons (show k < (bZ fl a c).length by omega)] at ih
    have e : nth (bZ fl a c) k = (bZ fl a c)[k] := by unfold nth; rw [List.getD_eq_getElem?_getD, List.getElem?_eq_getElem (by omega)]; rfl
    rw [e]; exact ih
theorem nR.pop {x : mB} {r : List Int} (h : nR fl a n s x none) (hq : x.queue = c :: r) : nR fl a n s ⟨x.by_, r⟩ (some (c, bZ fl a c)) := by
 have hc := h.q c (by rw [hq]; exact List.mem_cons_self)
 refine ⟨h.keys, h.range, h.out, fun z hz => h.q z (by rw [hq]; exact List.mem_cons_of_mem _ hz), h.arc, fun z hz hn u hu => ?_, fun c' r' e => ?_⟩
 ·by_cases ez : z = c
  ·subst ez; exact .inr ⟨_, rfl, hu⟩
  rcases h.done z hz (fun hm => by rw [hq] at hm; rcases List.mem_cons.1 hm with e | e; exact ez e; exact hn e) u hu with h1 | ⟨_, e, _⟩
  ·exact .inl h1
  cases e
 injection e with e; injection e with e1 e2; subst e1; subst e2
 exact ⟨hc, fun w hw => wC.1 hw⟩
theorem nR.over {x : mB} (h : nR fl a n s x (some (c, []))) : nR fl a n s x none :=
 ⟨h.keys, h.range, h.out, h.q, h.arc, fun z hz hn u hu => (h.done z hz hn u hu).elim .inl (fun ⟨_, e, hr⟩ => by injection e with e; injection e with _ e; subst e; cases hr), fun _ _ e => by cases e⟩
theorem nR.zK {x : mB} {cur : Option (Int × List bl)} (h : nR fl a n s x cur) : x.by_.length ≤ n := by
 have := wL h.keys h.range
 rwa [List.length_map] at this
def Th (n : Nat) (x : mB) : Nat := (n - x.by_.length) * 2 + x.queue.length
theorem Nb {x : mB} : (yK fl s x w).by_.length ≥ x.by_.length ∧ (yK fl s x w).queue.length + x.by_.length = x.queue.length + (yK fl s x w).by_.length := by
  cases e : D0 fl s x.by_ w with
  | false => rw [HH e]; exact ⟨Nat.le_refl _, rfl⟩
  | true =>
    rw [Dm e]
    unfold D0 at e
    rw [Bool.and_eq_true, Bool.not_eq_true'] at e
    have hnone : bf x.by_ (w.fin fl) = none := by cases h : bf x.by_ (w.fin fl) with | none => rfl | some v => rw [h] at e; cases e.1
    show (cq _ _ _).length ≥ _ ∧ (x.queue ++ [w.fin fl]).length + _ = _ + (cq _ _ _).length
    rw [CO _ _ _ hnone, List.length_append, List.length_singleton]; omega
theorem AA {x : mB} : ∀ k, k ≤ (bZ fl a c).length → (jy fl a s c x k).by_.length ≥ x.by_.length ∧ (jy fl a s c x k).queue.length + x.by_.length = x.queue.length + (jy fl a s c x k).by_.length
  | 0, _ => ⟨Nat.le_refl _, rfl⟩
  | k + 1, hk => by
    have h1 := AA (x := x) k (by omega)
    rw [Ag (by omega)]
    have h2 := Nb (fl := fl) (s := s) (x := jy fl a s c x k) (w := nth (bZ fl a c) k)
    omega
theorem Bv (hN : Net fl n) {x : mB} {r : List Int} (h : nR fl a n s x none) (hq : x.queue = c :: r) : nR fl a n s (jy fl a s c ⟨x.by_, r⟩ (bZ fl a c).length) none ∧ Th n (jy fl a s c ⟨x.by_, r⟩ (bZ fl a c).length) < Th n x := by
 have h1 := (h.pop hq).fold hN _ (Nat.le_refl _)
 rw [List.drop_length] at h1
 refine ⟨h1.over, ?_⟩
 have h2 := AA (fl := fl) (a := a) (s := s) (c := c) (x := ⟨x.by_, r⟩) _ (Nat.le_refl _)
 have h3 := h1.zK
 unfold Th
 rw [hq, List.length_cons]
 simp only at h2
 omega
structure xU (fl : List c7) (a : List Int) (n : Nat) (s : Int) (q : List (Int × bl)) : Prop where
  keys : (q.map Prod.fst).Nodup
  range : ∀ c ∈ q.map Prod.fst, 0 ≤ c ∧ c < n
  out : s ∉ q.map Prod.fst
  arc : ∃ dep : Int → Nat, dep s = 0 ∧ ∀ c w, bf q c = some w → Open fl a w ∧ w.fin fl = c ∧ C7 q s (w.jA fl) ∧ dep (w.jA fl) < dep c ∧ dep c ≤ q.length
  closed : ∀ w, Open fl a w → C7 q s (w.jA fl) → C7 q s (w.fin fl)
theorem nR.spec {x : mB} (h : nR fl a n s x none) (hq : x.queue = []) : xU fl a n s x.by_ :=
 ⟨h.keys, h.range, h.out, h.arc, fun w ho hm => (h.done _ hm (by rw [hq]; exact List.not_mem_nil) w (wC.2 ⟨ho, rfl⟩)).elim id fun ⟨_, e, _⟩ => by cases e⟩
theorem zw (hN : Net fl n) (hs : 0 ≤ s ∧ s < n) : xU fl a n s (dK fl a s) := by
  refine wV (fun x => nR fl a n s x none) (xU fl a n s) (Th n) (fun x h => ?_) _ (UG hs)
  cases hq : x.queue with
  | nil => exact .inr ⟨x.by_, by unfold Ao; rw [hq], h.spec hq⟩
  | cons c r => exact .inl ⟨_, by unfold Ao; rw [hq], Bv hN h hq⟩
theorem xU.zK {q : List (Int × bl)} (h : xU fl a n s q) : q.length ≤ n := by
 have := wL h.keys h.range
 rwa [List.length_map] at this
end
end Go.Proofs.YtmmcenjknimhbaaGreat
namespace Go.Proofs.YtmmcenjknimhbaaGreat
open Go Go.T
section
variable {fl : List c7} {a : List Int} {n : Nat} {s t c : Int} {w : bl} {q : List (Int × bl)}
def pF (q : List (Int × bl)) (c : Int) : bl := (bf q c).getD default
def KC (fl : List c7) (q : List (Int × bl)) (s : Int) (x : Int × List bl) : (Int × List bl) ⊕ List bl :=
  if x.1 = s then .inr x.2 else .inl ((pF q x.1).jA fl, x.2 ++ [pF q x.1])
noncomputable def iW (fl : List c7) (q : List (Int × bl)) (s t : Int) : List bl := pN (KC fl q s) (t, [])
structure NP (fl : List c7) (a : List Int) (s t : Int) (l : List bl) : Prop where
  trail : Trail fl l t s
  ways : ∀ w ∈ l, Open fl a w
  nodup : l.Nodup
structure Nu (fl : List c7) (a : List Int) (q : List (Int × bl)) (s t : Int) (dep : Int → Nat) (x : Int × List bl) : Prop where
  trail : Trail fl x.2 t x.1
  ways : ∀ w ∈ x.2, Open fl a w
  deep : ∀ w ∈ x.2, dep x.1 < dep (w.fin fl)
  nodup : x.2.Nodup
  met : C7 q s x.1
  zK : x.2.length + dep x.1 ≤ dep t
theorem xj : ∀ {l : List bl} {x y : Int}, Trail fl l x y → w.fin fl = y → Trail fl (l ++ [w]) x (w.jA fl)
  | [], x, y, h, e => ⟨e.trans (show x = y from h).symm, rfl⟩
  | _ :: _, _, _, h, e => ⟨h.1, xj h.2 e⟩
theorem Nu.next {dep : Int → Nat} (hd : ∀ c w, bf q c = some w → Open fl a w ∧ w.fin fl = c ∧ C7 q s (w.jA fl) ∧ dep (w.jA fl) < dep c ∧ dep c ≤ q.length) {x : Int × List bl} (h : Nu fl a q s t dep x) (hx : ¬ x.1 = s) :
 Nu fl a q s t dep ((pF q x.1).jA fl, x.2 ++ [pF q x.1]) ∧ dep ((pF q x.1).jA fl) < dep x.1 := by
 obtain ⟨v, hv⟩ := tF (h.met.resolve_left hx)
 have ev : pF q x.1 = v := by unfold pF; rw [hv]; rfl
 rw [ev]
 obtain ⟨h1, h2, h3, h4, _⟩ := hd _ _ hv
 refine ⟨⟨xj h.trail h2, fun w hw => ?_, fun w hw => ?_, ?_, h3, ?_⟩, h4⟩
 ·rcases List.mem_append.1 hw with hw | hw
  ·exact h.ways w hw
  rw [List.mem_singleton.1 hw]; exact h1
 ·rcases List.mem_append.1 hw with hw | hw
  ·exact Nat.lt_trans h4 (h.deep w hw)
  rw [List.mem_singleton.1 hw, h2]; exact h4
 ·rw [List.nodup_append]
  refine ⟨h.nodup, by simp, fun u hu w hw e => ?_⟩
  rw [List.mem_singleton.1 hw] at e
  have := h.deep u hu
  rw [e, h2] at this; omega
 show (x.2 ++ [v]).length + dep (v.jA fl) ≤ dep t
 rw [List.length_append, List.length_singleton]
 have := h.zK; omega
theorem Ky (h : xU fl a n s q) (ht : C7 q s t) : NP fl a s t (iW fl q s t) ∧ (iW fl q s t).length ≤ q.length := by
 obtain ⟨dep, d0, hd⟩ := h.arc
 have htq : dep t ≤ q.length := by
  rcases ht with rfl | ht
  ·omega
  obtain ⟨v, hv⟩ := tF ht; exact (hd _ _ hv).2.2.2.2
 refine wV (Nu fl a q s t dep) (fun l => NP fl a s t l ∧ l.length ≤ q.length) (fun x => dep x.1) (fun x hI => ?_) _ ⟨rfl, (fun w h => by cases h), (fun w h => by cases h), List.nodup_nil, ht, by simp⟩
 by_cases e : x.1 = s
 ·exact .inr ⟨x.2, if_pos e, ⟨by have := hI.trail; rwa [e] at this, hI.ways, hI.nodup⟩, by have := hI.zK; omega⟩
 obtain ⟨h1, h2⟩ := hI.next hd e
 exact .inl ⟨_, if_neg e, h1, h2⟩
def nV (fl : List c7) (a : List Int) (n : Nat) : List Int := (List.range n).map fun c => cS fl a (c : Nat)
theorem MY : (nV fl a n).length = n := by unfold nV; rw [List.length_map, List.length_range]
theorem Mn {k : Nat} (h : k < n) : nth (nV fl a n) k = cS fl a k := by
 unfold nV nth
 rw [List.getD_eq_getElem?_getD, List.getElem?_map, List.getElem?_range h]; rfl
def iK (fl : List c7) (a : List Int) (m : Int) (l : List bl) : Int := l.foldl (fun m w => min m (w.room fl a)) m
theorem zW (m : Int) (l : List bl) : iK fl a m (l ++ [w]) = min (iK fl a m l) (w.room fl a) := by unfold iK; rw [List.foldl_append]; rfl
theorem GP (m : Int) : ∀ (l : List bl), iK fl a m l ≤ m ∧ ∀ w ∈ l, iK fl a m l ≤ w.room fl a := by
 refine DU ⟨Int.le_refl _, fun w h => by cases h⟩ fun l u ih => ?_
 rw [zW]
 refine ⟨by have := ih.1; omega, fun w hw => ?_⟩
 rcases List.mem_append.1 hw with hw | hw
 ·have := ih.2 w hw; omega
 rw [List.mem_singleton.1 hw]; omega
theorem DJ {m : Int} (hm : 0 < m) : ∀ (l : List bl), (∀ w ∈ l, Open fl a w) → 0 < iK fl a m l := by
 refine DU (fun _ => hm) fun l u ih h => ?_
 rw [zW]
 have h1 := ih fun w hw => h w (List.mem_append.2 (.inl hw))
 have h2 := (h u (List.mem_append.2 (.inr (List.mem_singleton.2 rfl)))).2
 omega
def mS (fl : List c7) (a : List Int) (n : Nat) : Int := nK (fun x : Int => decide (x > 0)) (nV fl a n)
def qj (fl : List c7) (a : List Int) (q : List (Int × bl)) (c : Nat) : Bool := (bf q (c : Int)).isSome && decide (cS fl a c < 0)
def ld (fl : List c7) (a : List Int) (n : Nat) (q : List (Int × bl)) : Int := nK (qj fl a q) (List.range n)
noncomputable def n5 (fl : List c7) (a : List Int) (s t : Int) : List Int :=
  iA a (iW fl (dK fl a s) s t) (iK fl a (min (cS fl a s) (-cS fl a t)) (iW fl (dK fl a s) s t))
noncomputable def Iu (fl : List c7) (n : Nat) (a : List Int) : List Int ⊕ (Int × Bool × List Int) :=
  if mS fl a n < 0 then .inr (0, false, a)
  else if ld fl a n (dK fl a (mS fl a n)) < 0 then .inr (mS fl a n, true, a)
  else .inl (n5 fl a (mS fl a n) (ld fl a n (dK fl a (mS fl a n))))
instance : Inhabited (Int × Bool × List Int) := ⟨(0, false, [])⟩
noncomputable def je (fl : List c7) (n : Nat) (a : List Int) : Int × Bool × List Int := pN (Iu fl n) a
theorem GL {α : Type} [Inhabited α] {p : α → Bool} {l : List α} (h : ¬ nK p l < 0) : ∃ k : Nat, k < l.length ∧ nK p l = k ∧ p (nth l k) = true := by
  unfold nK at *
  cases e : l.findIdx? p with
  | none => rw [e] at h; exact absurd (by decide) h
  | some i =>
    rw [List.findIdx?_eq_some_iff_getElem] at e
    obtain ⟨h1, h2, _⟩ := e
    refine ⟨i, h1, rfl, ?_⟩
    unfold nth; rw [List.getD_eq_getElem?_getD, List.getElem?_eq_getElem h1]; exact h2
theorem Nd (h : ¬ mS fl a n < 0) : ∃ k : Nat, k < n ∧ mS fl a n = k ∧ 0 < cS fl a k := by
 obtain ⟨k, h1, h2, h3⟩ := GL h
 rw [MY] at h1
 rw [Mn h1] at h3
 exact ⟨k, h1, h2, by simpa using h3⟩
theorem Mo (h : ¬ ld fl a n q < 0) : ∃ k : Nat, k < n ∧ ld fl a n q = k ∧ (bf q (k : Int)).isSome = true ∧ cS fl a k < 0 := by
 obtain ⟨k, h1, h2, h3⟩ := GL h
 rw [List.length_range] at h1
 have e : nth (List.range n) k = k := by unfold nth; rw [List.getD_eq_getElem?_getD, List.getElem?_range h1]; rfl
 rw [e] at h3
 unfold qj at h3
 rw [Bool.and_eq_true, decide_eq_true_eq] at h3
 exact ⟨k, h1, h2, h3.1, h3.2⟩
def SN (fl : List c7) (n : Nat) (a : List Int) : Nat := (cm (fun c => max (cS fl a (c : Nat)) 0) n).toNat
theorem GQ {f : Nat → Int} {n : Nat} (h : ∀ i, i < n → 0 ≤ f i) : 0 ≤ cm f n := by
 have := zM (f := fun _ => 0) (g := f) (n := n) h
 rwa [k5 fun _ _ => rfl] at this
theorem OJ {f g : Nat → Int} {k : Nat} (hk : k < n) (h : ∀ i, i < n → i ≠ k → f i = g i) : cm f n = cm g n + (f k - g k) := by
 have e : cm (fun i => f i - g i) n = f k - g k := rm (f := fun i => f i - g i) hk fun i hi hn => by rw [h i hi hn]; omega
 rw [o9] at e; omega
structure T3 (fl : List c7) (a : List Int) (n : Nat) (s t : Int) : Prop where
  inb : LR fl (n5 fl a s t)
  less : SN fl n (n5 fl a s t) < SN fl n a
  trail : NP fl a s t (iW fl (dK fl a s) s t)
  zK : (iW fl (dK fl a s) s t).length ≤ n
  pos : 0 < iK fl a (min (cS fl a s) (-cS fl a t)) (iW fl (dK fl a s) s t)
theorem sent (hN : Net fl n) (h : LR fl a) {s t : Nat} (hs : s < n) (ht : t < n) (hps : 0 < cS fl a s) (hq : (bf (dK fl a s) (t : Int)).isSome = true) (hpt : cS fl a t < 0) : T3 fl a n s t := by
 have hR := zw (a := a) hN (show 0 ≤ (s : Int) ∧ (s : Int) < n by omega)
 obtain ⟨v, hv⟩ := Option.isSome_iff_exists.1 hq
 obtain ⟨hP, hlen⟩ := Ky hR (.inr (rT hv))
 have hpos := DJ (fl := fl) (a := a) (m := min (cS fl a s) (-cS fl a t)) (by omega) _ hP.ways
 obtain ⟨hm1, hm2⟩ := GP (fl := fl) (a := a) (min (cS fl a s) (-cS fl a t)) (iW fl (dK fl a s) s t)
 have hin := zb (Int.le_of_lt hpos) (iW fl (dK fl a s) s t) a h hP.nodup fun w hw => ⟨(hP.ways w hw).1, hm2 w hw⟩
 have hov := wk (fl := fl) h.1 (iK fl a (min (cS fl a s) (-cS fl a t)) (iW fl (dK fl a s) s t)) _ a _ _ h.1 (fun w hw => (hP.ways w hw).1) hP.trail
 refine ⟨hin, ?_, hP, Nat.le_trans hlen hR.zK, hpos⟩
 unfold SN n5
 generalize iK fl a (min (cS fl a s) (-cS fl a t)) (iW fl (dK fl a s) s t) = m at *
 generalize iA a (iW fl (dK fl a s) s t) m = b at *
 have hne : s ≠ t := fun e => by subst e; omega
 have e1 : cm (fun c : Nat => max (cS fl b c) 0) n = cm (fun c : Nat => max (cS fl a c) 0) n + (max (cS fl b s) 0 - max (cS fl a s) 0) := by
  refine OJ hs fun i hi hn => ?_
  rw [hov i, kj (p := (s : Int) = i) (by omega)]
  by_cases e : t = i
  ·subst e; rw [lT rfl]; omega
  rw [kj (by omega)]; omega
 have e2 : cS fl b s = cS fl a s - m := by rw [hov s, kj (by omega), lT rfl]; omega
 have h0 := GQ (f := fun c : Nat => max (cS fl b c) 0) (n := n) fun i _ => by show 0 ≤ max _ 0; omega
 rw [e1, e2] at h0 ⊢
 omega
structure Jo (fl : List c7) (n : Nat) (r : Int × Bool × List Int) : Prop where
  inb : LR fl r.2.2
  yes : r.2.1 = false → SV fl n r.2.2 ∧ r.1 = 0
  no : r.2.1 = true → (0 ≤ r.1 ∧ r.1 < n) ∧ 0 < cS fl r.2.2 r.1 ∧ ∀ c : Nat, c < n → C7 (dK fl r.2.2 r.1) r.1 c → 0 ≤ cS fl r.2.2 c
open Classical in
theorem Jo.none (hN : Net fl n) {r : Int × Bool × List Int} (h : Jo fl n r) (e : r.2.1 = true) : ¬ ∃ a, FL fl n a := by
 obtain ⟨h1, h2, h3⟩ := h.no e
 have hR := zw (a := r.2.2) hN h1
 obtain ⟨c, hc⟩ : ∃ c : Nat, (c : Int) = r.1 := ⟨r.1.toNat, by omega⟩
 refine OI hN h.inb (fun c => decide (C7 (dK fl r.2.2 r.1) r.1 c)) (fun w ho hm => ?_) (fun c hc hm => h3 c hc (of_decide_eq_true hm)) (c0 := c) (by omega) (decide_eq_true (.inl hc)) (by rw [hc]; exact h2)
 exact decide_eq_true (hR.closed w ho (of_decide_eq_true hm))
theorem Jo.some {r : Int × Bool × List Int} (h : Jo fl n r) (e : r.2.1 = false) : FL fl n r.2.2 := ⟨h.inb, (h.yes e).1⟩
end
end Go.Proofs.YtmmcenjknimhbaaGreat
namespace Go.Proofs.YtmmcenjknimhbaaGreat
open Go Go.T
section
variable {fl : List c7} {a : List Int} {n : Nat} {G : Nat → Int} {w : bl}
def lI (G : Nat → Int) (w : bl) : Int := Hl w (G w.ix)
theorem QW (hG : ∀ i, -1 ≤ G i ∧ G i ≤ 1) (w : bl) : -1 ≤ lI G w ∧ lI G w ≤ 1 := by
 have := hG w.ix
 unfold lI Hl; cases w.more <;> simp <;> omega
structure zR where
  worth : List Int
  by_ : List bl
  at_ : Int
def oC (fl : List c7) (G : Nat → Int) (st : zR) (c : Nat) (w : bl) : Bool := decide (nth st.worth c + lI G w > nth st.worth (w.fin fl).toNat)
def pX (fl : List c7) (G : Nat → Int) (st : zR) (c : Nat) (w : bl) : zR := ⟨st.worth.set (w.fin fl).toNat (nth st.worth c + lI G w), st.by_.set (w.fin fl).toNat w, w.fin fl⟩
structure RJ where
  r : Nat
  c : Nat
  j : Nat
  st : zR
def oL (fl : List c7) (a : List Int) (n : Nat) (G : Nat → Int) (x : RJ) : RJ ⊕ Option zR :=
  if n ≤ x.r then .inr none
  else if n ≤ x.c then (if x.st.at_ < 0 then .inr none else .inl ⟨x.r + 1, 0, 0, ⟨x.st.worth, x.st.by_, -1⟩⟩)
  else if (bZ fl a x.c).length ≤ x.j then .inl ⟨x.r, x.c + 1, 0, x.st⟩
  else if oC fl G x.st x.c (nth (bZ fl a x.c) x.j) = true then
    (if x.r + 1 = n then .inr (some (pX fl G x.st x.c (nth (bZ fl a x.c) x.j))) else .inl ⟨x.r, x.c, x.j + 1, pX fl G x.st x.c (nth (bZ fl a x.c) x.j)⟩)
  else .inl ⟨x.r, x.c, x.j + 1, x.st⟩
def O5 (n : Nat) : zR := ⟨List.replicate n 0, List.replicate n default, -1⟩
noncomputable def jT (fl : List c7) (a : List Int) (n : Nat) (G : Nat → Int) : Option zR := pN (oL fl a n G) ⟨0, 0, 0, O5 n⟩
section
variable {x : RJ}
theorem Bh (h : ¬ n ≤ x.r) (hc : n ≤ x.c) (ha : x.st.at_ < 0) : oL fl a n G x = .inr none := by unfold oL; rw [if_neg h, if_pos hc, if_pos ha]
theorem yQ (h : ¬ n ≤ x.r) (hc : n ≤ x.c) (ha : ¬ x.st.at_ < 0) : oL fl a n G x = .inl ⟨x.r + 1, 0, 0, ⟨x.st.worth, x.st.by_, -1⟩⟩ := by unfold oL; rw [if_neg h, if_pos hc, if_neg ha]
theorem Ap (h : ¬ n ≤ x.r) (hc : ¬ n ≤ x.c) (hj : (bZ fl a x.c).length ≤ x.j) : oL fl a n G x = .inl ⟨x.r, x.c + 1, 0, x.st⟩ := by unfold oL; rw [if_neg h, if_neg hc, if_pos hj]
theorem HZ (h : ¬ n ≤ x.r) (hc : ¬ n ≤ x.c) (hj : ¬ (bZ fl a x.c).length ≤ x.j) (hg : oC fl G x.st x.c (nth (bZ fl a x.c) x.j) = false) : oL fl a n G x = .inl ⟨x.r, x.c, x.j + 1, x.st⟩ := by
 unfold oL; rw [if_neg h, if_neg hc, if_neg hj, if_neg (by rw [hg]; decide)]
theorem DS (h : ¬ n ≤ x.r) (hc : ¬ n ≤ x.c) (hj : ¬ (bZ fl a x.c).length ≤ x.j) (hg : oC fl G x.st x.c (nth (bZ fl a x.c) x.j) = true) (hr : ¬ x.r + 1 = n) : oL fl a n G x = .inl ⟨x.r, x.c, x.j + 1, pX fl G x.st x.c (nth (bZ fl a x.c) x.j)⟩ := by
 unfold oL; rw [if_neg h, if_neg hc, if_neg hj, if_pos hg, if_neg hr]
theorem BV (h : ¬ n ≤ x.r) (hc : ¬ n ≤ x.c) (hj : ¬ (bZ fl a x.c).length ≤ x.j) (hg : oC fl G x.st x.c (nth (bZ fl a x.c) x.j) = true) (hr : x.r + 1 = n) : oL fl a n G x = .inr (some (pX fl G x.st x.c (nth (bZ fl a x.c) x.j))) := by
 unfold oL; rw [if_neg h, if_neg hc, if_neg hj, if_pos hg, if_pos hr]
end
structure Gh (fl : List c7) (a : List Int) (n : Nat) (G : Nat → Int) (r : Nat) (st : zR) (R T : Nat → Nat) (τ : Nat) : Prop where
  len : st.worth.length = n ∧ st.by_.length = n
  zero : ∀ v, v < n → R v = 0 → nth st.worth v = 0 ∧ T v = 0
  le : ∀ v, v < n → R v ≤ r + 1 ∧ T v ≤ τ ∧ 0 ≤ nth st.worth v ∧ nth st.worth v ≤ τ
  way : ∀ v, v < n → 0 < R v → Open fl a (nth st.by_ v) ∧ (nth st.by_ v).fin fl = v ∧
    nth st.worth v ≤ nth st.worth ((nth st.by_ v).jA fl).toNat + lI G (nth st.by_ v) ∧
    (T v < T ((nth st.by_ v).jA fl).toNat → nth st.worth v < nth st.worth ((nth st.by_ v).jA fl).toNat + lI G (nth st.by_ v)) ∧
    R v ≤ R ((nth st.by_ v).jA fl).toNat + 1 ∧ 0 < T v
  one : ∀ u v, u < n → v < n → 0 < R u → 0 < R v → T u = T v → u = v
  at_ : (st.at_ = -1 ∧ ∀ v, v < n → R v ≤ r) ∨ ∃ v : Nat, v < n ∧ st.at_ = v ∧ R v = r + 1
def kP (x : RJ) (c k : Nat) : Nat := if c < x.c ∨ c = x.c ∧ k < x.j then x.r + 1 else x.r
structure oA (fl : List c7) (a : List Int) (n : Nat) (G : Nat → Int) (x : RJ) : Prop where
  r : x.r < n
  c : x.c ≤ n
  j : x.j ≤ 2 * fl.length ∧ (x.c = n → x.j = 0)
  last : x.r + 1 = n → x.st.at_ = -1
  gh : ∃ R T τ, Gh fl a n G x.r x.st R T τ ∧ τ ≤ x.r * (n * (2 * fl.length)) + (x.c * (2 * fl.length) + x.j) ∧
    ∀ c k, c < n → k < (bZ fl a c).length → kP x c k = 0 ∨ nth x.st.worth c + lI G (nth (bZ fl a c) k) ≤ nth x.st.worth ((nth (bZ fl a c) k).fin fl).toNat ∨ kP x c k ≤ R c
theorem J5 {α : Type} [Inhabited α] (n : Nat) (v : α) (k : Nat) (h : k < n) : nth (List.replicate n v) k = v := by
 unfold nth; rw [List.getD_eq_getElem?_getD, List.getElem?_replicate, if_pos h]; rfl
theorem UZ (hn : 0 < n) : oA fl a n G ⟨0, 0, 0, O5 n⟩ := by
 refine ⟨hn, Nat.zero_le _, ⟨Nat.zero_le _, fun _ => rfl⟩, fun _ => rfl, fun _ => 0, fun _ => 0, 0, ⟨⟨by simp [O5], by simp [O5]⟩, fun v hv _ => ⟨J5 _ _ _ hv, rfl⟩, fun v hv => ?_, fun v _ h => absurd h (Nat.lt_irrefl 0), fun u v _ _ h => absurd h (Nat.lt_irrefl 0), .inl ⟨rfl, fun v _ => Nat.le_refl _⟩⟩, Nat.zero_le _, fun c k _ _ => .inl ?_⟩
 ·have : nth (O5 n).worth v = 0 := J5 _ _ _ hv
  rw [this]; exact ⟨Nat.zero_le _, Nat.le_refl _, Int.le_refl _, Int.le_refl _⟩
 unfold kP; rw [if_neg (by simp)]
theorem On {c k : Nat} (h : k < (bZ fl a c).length) : Open fl a (nth (bZ fl a c) k) ∧ (nth (bZ fl a c) k).jA fl = c := wC.1 (bL h)
variable {x : RJ}
theorem oA.cell (h : oA fl a n G x) (hc : ¬ n ≤ x.c) (hj : (bZ fl a x.c).length ≤ x.j) : oA fl a n G ⟨x.r, x.c + 1, 0, x.st⟩ := by
 obtain ⟨R, T, τ, h1, h2, h3⟩ := h.gh
 refine ⟨h.r, by show x.c + 1 ≤ n; omega, ⟨Nat.zero_le _, fun _ => rfl⟩, h.last, R, T, τ, h1, ?_, fun c k hc' hk => ?_⟩
 ·have e1 : (x.c + 1) * (2 * fl.length) = x.c * (2 * fl.length) + 2 * fl.length := Nat.succ_mul _ _
  have := h.j.1
  show τ ≤ x.r * (n * (2 * fl.length)) + ((x.c + 1) * (2 * fl.length) + 0)
  generalize x.r * (n * (2 * fl.length)) = A at *
  generalize (x.c + 1) * (2 * fl.length) = B at *
  generalize x.c * (2 * fl.length) = C at *
  omega
 have e : kP ⟨x.r, x.c + 1, 0, x.st⟩ c k = kP x c k := by
  unfold kP
  by_cases e : c < x.c ∨ c = x.c ∧ k < x.j
  ·rw [if_pos e, if_pos (by show c < x.c + 1 ∨ _; omega)]
  rw [if_neg e]
  by_cases e2 : c = x.c
  ·subst e2; omega
  rw [if_neg (by show ¬ (c < x.c + 1 ∨ c = x.c + 1 ∧ k < 0); omega)]
 rw [e]; exact h3 c k hc' hk
theorem oA.round (h : oA fl a n G x) (hc : n ≤ x.c) (hr : ¬ x.r + 1 = n) : oA fl a n G ⟨x.r + 1, 0, 0, ⟨x.st.worth, x.st.by_, -1⟩⟩ := by
 obtain ⟨R, T, τ, h1, h2, h3⟩ := h.gh
 have ec : x.c = n := Nat.le_antisymm h.c hc
 refine ⟨by show x.r + 1 < n; have := h.r; omega, Nat.zero_le _, ⟨Nat.zero_le _, fun _ => rfl⟩, fun _ => rfl, R, T, τ, ⟨h1.len, h1.zero, fun v hv => ?_, h1.way, h1.one, .inl ⟨rfl, fun v hv => (h1.le v hv).1⟩⟩, ?_, fun c k hc' hk => ?_⟩
 ·have := h1.le v hv
  exact ⟨by show R v ≤ x.r + 1 + 1; omega, this.2⟩
 ·have e1 : (x.r + 1) * (n * (2 * fl.length)) = x.r * (n * (2 * fl.length)) + n * (2 * fl.length) := Nat.succ_mul _ _
  show τ ≤ (x.r + 1) * (n * (2 * fl.length)) + (0 * (2 * fl.length) + 0)
  rw [ec, h.j.2 ec] at h2
  generalize (x.r + 1) * (n * (2 * fl.length)) = A at *
  omega
 have e : kP ⟨x.r + 1, 0, 0, ⟨x.st.worth, x.st.by_, -1⟩⟩ c k = kP x c k := by
  unfold kP
  rw [if_neg (show ¬ (c < 0 ∨ c = 0 ∧ k < 0) by omega), if_pos (show c < x.c ∨ c = x.c ∧ k < x.j by omega)]
 rw [e]; exact h3 c k hc' hk
theorem AW {st : zR} {c k : Nat} : kP ⟨x.r, x.c, x.j + 1, st⟩ c k = if c = x.c ∧ k = x.j then x.r + 1 else kP x c k := by
 unfold kP
 by_cases e : c = x.c ∧ k = x.j
 ·rw [if_pos e, if_pos (by show c < x.c ∨ c = x.c ∧ k < x.j + 1; omega)]
 rw [if_neg e]
 by_cases e2 : c < x.c ∨ c = x.c ∧ k < x.j
 ·rw [if_pos e2, if_pos (by show c < x.c ∨ c = x.c ∧ k < x.j + 1; omega)]
 rw [if_neg e2, if_neg (by show ¬ (c < x.c ∨ c = x.c ∧ k < x.j + 1); omega)]
theorem oA.no (h : oA fl a n G x) (hc : ¬ n ≤ x.c) (hj : ¬ (bZ fl a x.c).length ≤ x.j) (hg : oC fl G x.st x.c (nth (bZ fl a x.c) x.j) = false) : oA fl a n G ⟨x.r, x.c, x.j + 1, x.st⟩ := by
 obtain ⟨R, T, τ, h1, h2, h3⟩ := h.gh
 have hl := Al (fl := fl) (a := a) (c := x.c)
 refine ⟨h.r, h.c, ⟨by show x.j + 1 ≤ _; omega, fun e => absurd (show x.c = n from e) (by omega)⟩, h.last, R, T, τ, h1, Nat.le_trans h2 (show x.r * (n * (2 * fl.length)) + (x.c * (2 * fl.length) + x.j) ≤ x.r * (n * (2 * fl.length)) + (x.c * (2 * fl.length) + (x.j + 1)) by omega), fun c k hc' hk => ?_⟩
 rw [AW]
 by_cases e : c = x.c ∧ k = x.j
 ·rw [if_pos e]
  obtain ⟨e1, e2⟩ := e; subst e1; subst e2
  unfold oC at hg
  rw [decide_eq_false_iff_not] at hg
  exact .inr (.inl (show nth x.st.worth x.c + _ ≤ nth x.st.worth _ by omega))
 rw [if_neg e]; exact h3 c k hc' hk
theorem KF (hN : Net fl n) (hG : ∀ i, -1 ≤ G i ∧ G i ≤ 1) (h : oA fl a n G x) (hc : ¬ n ≤ x.c) (hj : ¬ (bZ fl a x.c).length ≤ x.j) (hg : oC fl G x.st x.c (nth (bZ fl a x.c) x.j) = true) :
 ∃ R T τ, Gh fl a n G x.r (pX fl G x.st x.c (nth (bZ fl a x.c) x.j)) R T τ ∧ τ ≤ x.r * (n * (2 * fl.length)) + (x.c * (2 * fl.length) + (x.j + 1)) ∧ R ((nth (bZ fl a x.c) x.j).fin fl).toNat = x.r + 1 ∧
 ∀ c k, c < n → k < (bZ fl a c).length → kP ⟨x.r, x.c, x.j + 1, pX fl G x.st x.c (nth (bZ fl a x.c) x.j)⟩ c k = 0 ∨ nth (pX fl G x.st x.c (nth (bZ fl a x.c) x.j)).worth c + lI G (nth (bZ fl a c) k) ≤ nth (pX fl G x.st x.c (nth (bZ fl a x.c) x.j)).worth ((nth (bZ fl a c) k).fin fl).toNat ∨ kP ⟨x.r, x.c, x.j + 1, pX fl G x.st x.c (nth (bZ fl a x.c) x.j)⟩ c k ≤ R c := by
 obtain ⟨R, T, τ, h1, h2, h3⟩ := h.gh
 obtain ⟨ho, hb⟩ := On (fl := fl) (a := a) (c := x.c) (k := x.j) (by omega)
 have h3c := h3 x.c x.j (by omega) (by omega)
 generalize hw : nth (bZ fl a x.c) x.j = w at *
 obtain ⟨_, ⟨hf0, hfn⟩, hne⟩ := hN.way ho.1
 obtain ⟨t, ht⟩ : ∃ t : Nat, (t : Int) = w.fin fl := ⟨(w.fin fl).toNat, by omega⟩
 have htt : (w.fin fl).toNat = t := by omega
 have htn : t < n := by omega
 have hxt : x.c ≠ t := fun e => hne (by rw [hb, ← ht, e])
 unfold oC at hg
 rw [decide_eq_true_eq, htt] at hg
 have hRc : x.r ≤ R x.c := by
  have e : kP x x.c x.j = x.r := by unfold kP; rw [if_neg (by omega)]
  rw [e, htt] at h3c
  rcases h3c with h | h | h
  ·omega
  ·omega
  exact h
 obtain ⟨hl1, hl2⟩ := h1.len
 have nw : ∀ v, v < n → nth (pX fl G x.st x.c w).worth v = if t = v then nth x.st.worth x.c + lI G w else nth x.st.worth v := fun v hv => by
  show nth (x.st.worth.set _ _) v = _; rw [htt, nG (by omega)]
 have nb : ∀ v, v < n → nth (pX fl G x.st x.c w).by_ v = if t = v then w else nth x.st.by_ v := fun v hv => by
  show nth (x.st.by_.set _ _) v = _; rw [htt, nG (by omega)]
 have up : ∀ v, v < n → nth x.st.worth v ≤ nth (pX fl G x.st x.c w).worth v := fun v hv => by
  rw [nw v hv]; split
  ·rename_i e; subst e; omega
  exact Int.le_refl _
 have begn : ∀ v, v < n → 0 < R v → ((nth x.st.by_ v).jA fl).toNat < n := fun v hv hR => by
  have := (hN.way (h1.way v hv hR).1.1).1; omega
 refine ⟨fun v => if v = t then x.r + 1 else R v, fun v => if v = t then τ + 1 else T v, τ + 1, ⟨⟨by show (x.st.worth.set _ _).length = n; rw [List.length_set]; exact hl1, by show (x.st.by_.set _ _).length = n; rw [List.length_set]; exact hl2⟩, fun v hv hR => ?_, fun v hv => ?_, fun v hv hR => ?_, fun u v hu hv hRu hRv e => ?_, .inr ⟨t, htn, ht.symm, if_pos rfl⟩⟩, by omega, by show (if (w.fin fl).toNat = t then _ else _) = _; rw [if_pos htt], fun c k hc' hk => ?_⟩
 ·have hvt : v ≠ t := fun e => by
   have hR : (if v = t then x.r + 1 else R v) = 0 := hR
   rw [if_pos e] at hR; omega
  have hR : (if v = t then x.r + 1 else R v) = 0 := hR
  rw [if_neg hvt] at hR
  show _ ∧ (if v = t then τ + 1 else T v) = 0
  rw [if_neg hvt, nw v hv, if_neg (fun e => hvt e.symm)]
  exact h1.zero v hv hR
 ·have hl := h1.le v hv
  have hlc := h1.le x.c (by omega)
  have hlt := h1.le t htn
  have hw1 := QW hG w
  show (if v = t then x.r + 1 else R v) ≤ x.r + 1 ∧ (if v = t then τ + 1 else T v) ≤ τ + 1 ∧ _
  rw [nw v hv]
  by_cases e : v = t
  ·subst e
   rw [if_pos rfl, if_pos rfl, if_pos rfl]
   refine ⟨Nat.le_refl _, Nat.le_refl _, ?_, ?_⟩ <;> omega
  rw [if_neg e, if_neg e, if_neg (fun h => e h.symm)]
  refine ⟨hl.1, ?_, hl.2.2.1, ?_⟩ <;> omega
 ·show _ ∧ _ ∧ _ ∧ ((if v = t then τ + 1 else T v) < (if _ = t then τ + 1 else T _) → _) ∧ (if v = t then x.r + 1 else R v) ≤ (if _ = t then x.r + 1 else R _) + 1 ∧ 0 < (if v = t then τ + 1 else T v)
  have hR : 0 < (if v = t then x.r + 1 else R v) := hR
  rw [nb v hv, nw v hv]
  by_cases e : v = t
  ·subst e
   rw [if_pos rfl, if_pos rfl, if_pos rfl, if_pos rfl]
   have e1 : (w.jA fl).toNat = x.c := by rw [hb]; omega
   rw [e1, nw x.c (by omega), if_neg (fun h => hxt h.symm), if_neg hxt, if_neg hxt]
   refine ⟨ho, ht.symm, Int.le_refl _, fun h => ?_, by omega, by omega⟩
   have := (h1.le x.c (by omega)).2.1; omega
  rw [if_neg e, if_neg (fun h => e h.symm), if_neg (fun h => e h.symm), if_neg e]
  rw [if_neg e] at hR
  obtain ⟨b1, b2, b3, b4, b5, b6⟩ := h1.way v hv hR
  have hbn := begn v hv hR
  have hu := up _ hbn
  refine ⟨b1, b2, by omega, fun h => ?_, ?_, b6⟩
  ·by_cases e2 : ((nth x.st.by_ v).jA fl).toNat = t
   ·rw [e2] at hu b3 ⊢
    have : nth x.st.worth t < nth (pX fl G x.st x.c w).worth t := by rw [nw t htn, if_pos rfl]; omega
    omega
   rw [if_neg e2] at h
   have := b4 h; omega
  by_cases e2 : ((nth x.st.by_ v).jA fl).toNat = t
  ·rw [if_pos e2]; have := (h1.le v hv).1; omega
  rw [if_neg e2]; exact b5
 ·have e : (if u = t then τ + 1 else T u) = (if v = t then τ + 1 else T v) := e
  have hRu : 0 < (if u = t then x.r + 1 else R u) := hRu
  have hRv : 0 < (if v = t then x.r + 1 else R v) := hRv
  have a1 := (h1.le u hu).2.1
  have a2 := (h1.le v hv).2.1
  by_cases e1 : u = t
  ·by_cases e2 : v = t
   ·rw [e1, e2]
   rw [if_pos e1, if_neg e2] at e; omega
  by_cases e2 : v = t
  ·rw [if_neg e1, if_pos e2] at e; omega
  rw [if_neg e1, if_neg e2] at e
  rw [if_neg e1] at hRu; rw [if_neg e2] at hRv
  exact h1.one u v hu hv hRu hRv e
 rw [AW]
 show _ ∨ _ ∨ _ ≤ (if c = t then x.r + 1 else R c)
 have hd : kP x c k ≤ x.r + 1 := by unfold kP; split <;> omega
 by_cases ect : c = t
 ·rw [if_pos ect]
  refine .inr (.inr ?_)
  split <;> omega
 rw [if_neg ect]
 have hu := up ((nth (bZ fl a c) k).fin fl).toNat (by have := (hN.way (On hk).1.1).2.1; omega)
 have nwc : nth (pX fl G x.st x.c w).worth c = nth x.st.worth c := by rw [nw c hc', if_neg (fun h => ect h.symm)]
 rw [nwc]
 by_cases e : c = x.c ∧ k = x.j
 ·rw [if_pos e]
  obtain ⟨e1, e2⟩ := e; subst e1; subst e2
  rw [hw, htt, nw t htn, if_pos rfl]
  exact .inr (.inl (Int.le_refl _))
 rw [if_neg e]
 rcases h3 c k hc' hk with h | h | h
 ·exact .inl h
 ·exact .inr (.inl (by omega))
 exact .inr (.inr h)
theorem oA.yes (hN : Net fl n) (hG : ∀ i, -1 ≤ G i ∧ G i ≤ 1) (h : oA fl a n G x) (hc : ¬ n ≤ x.c) (hj : ¬ (bZ fl a x.c).length ≤ x.j) (hg : oC fl G x.st x.c (nth (bZ fl a x.c) x.j) = true) (hr : ¬ x.r + 1 = n) :
 oA fl a n G ⟨x.r, x.c, x.j + 1, pX fl G x.st x.c (nth (bZ fl a x.c) x.j)⟩ := by
 obtain ⟨R, T, τ, h1, h2, _, h4⟩ := KF hN hG h hc hj hg
 have hl := Al (fl := fl) (a := a) (c := x.c)
 exact ⟨h.r, h.c, ⟨by show x.j + 1 ≤ _; omega, fun e => absurd (show x.c = n from e) (by omega)⟩, fun e => absurd e hr, R, T, τ, h1, h2, h4⟩
inductive MD (fl : List c7) (a : List Int) (n : Nat) (G : Nat → Int) : Option zR → Prop where
  | none (p : Int → Int) (h : ∀ w, Open fl a w → p (w.jA fl) + lI G w ≤ p (w.fin fl)) : MD fl a n G none
  | some (st : zR) (R T : Nat → Nat) (τ : Nat) (v : Nat) (h : Gh fl a n G (n - 1) st R T τ) (hv : v < n) (e : st.at_ = v) (hR : R v = n) : MD fl a n G (some st)
theorem oA.none (hN : Net fl n) (h : oA fl a n G x) (hc : n ≤ x.c) (ha : x.st.at_ < 0) : MD fl a n G none := by
 obtain ⟨R, T, τ, h1, h2, h3⟩ := h.gh
 have hR : ∀ v, v < n → R v ≤ x.r := by
  rcases h1.at_ with ⟨_, h⟩ | ⟨v, _, e, _⟩
  ·exact h
  omega
 refine .none (fun c => nth x.st.worth c.toNat) fun w ho => ?_
 obtain ⟨⟨b0, bn⟩, _, _⟩ := hN.way ho.1
 obtain ⟨c, hc'⟩ : ∃ c : Nat, (c : Int) = w.jA fl := ⟨(w.jA fl).toNat, by omega⟩
 have hm : w ∈ bZ fl a c := wC.2 ⟨ho, hc'.symm⟩
 obtain ⟨k, hk, e⟩ := AK hm
 subst e
 have h4 := h3 c k (by omega) hk
 have e : kP x c k = x.r + 1 := if_pos (.inl (by omega))
 rw [e] at h4
 have := hR c (by omega)
 show nth x.st.worth (bl.jA _ fl).toNat + _ ≤ nth x.st.worth _
 rw [← hc', Int.toNat_natCast]
 rcases h4 with h | h | h <;> omega
theorem oA.found (hN : Net fl n) (hG : ∀ i, -1 ≤ G i ∧ G i ≤ 1) (h : oA fl a n G x) (hc : ¬ n ≤ x.c) (hj : ¬ (bZ fl a x.c).length ≤ x.j) (hg : oC fl G x.st x.c (nth (bZ fl a x.c) x.j) = true) (hr : x.r + 1 = n) :
 MD fl a n G (some (pX fl G x.st x.c (nth (bZ fl a x.c) x.j))) := by
 obtain ⟨R, T, τ, h1, _, h3, _⟩ := KF hN hG h hc hj hg
 have hb := (hN.way (On (fl := fl) (a := a) (c := x.c) (k := x.j) (by omega)).1.1).2.1
 refine .some _ R T τ ((nth (bZ fl a x.c) x.j).fin fl).toNat (by rw [show n - 1 = x.r by omega]; exact h1) (by omega) ?_ (h3.trans hr)
 show bl.fin _ fl = _; omega
def P8 (fl : List c7) (n : Nat) (x : RJ) : Nat := (n - x.r) * ((n + 1) * (2 * fl.length + 2)) + ((n - x.c) * (2 * fl.length + 2) + (2 * fl.length + 1 - x.j))
theorem Ri (hj : x.j < 2 * fl.length) (st : zR) : P8 fl n ⟨x.r, x.c, x.j + 1, st⟩ < P8 fl n x := by
 unfold P8
 show (n - x.r) * ((n + 1) * (2 * fl.length + 2)) + ((n - x.c) * (2 * fl.length + 2) + (2 * fl.length + 1 - (x.j + 1))) < _
 omega
theorem Uq (hc : x.c < n) (hj : x.j ≤ 2 * fl.length) (st : zR) : P8 fl n ⟨x.r, x.c + 1, 0, st⟩ < P8 fl n x := by
 unfold P8
 show (n - x.r) * ((n + 1) * (2 * fl.length + 2)) + ((n - (x.c + 1)) * (2 * fl.length + 2) + (2 * fl.length + 1 - 0)) < _
 have e : (n - x.c) * (2 * fl.length + 2) = (n - (x.c + 1)) * (2 * fl.length + 2) + (2 * fl.length + 2) := by
  rw [show n - x.c = (n - (x.c + 1)) + 1 by omega, Nat.succ_mul]
 rw [e]
 generalize (n - (x.c + 1)) * (2 * fl.length + 2) = A
 omega
theorem UU (hr : x.r < n) (st : zR) : P8 fl n ⟨x.r + 1, 0, 0, st⟩ < P8 fl n x := by
 unfold P8
 show (n - (x.r + 1)) * ((n + 1) * (2 * fl.length + 2)) + ((n - 0) * (2 * fl.length + 2) + (2 * fl.length + 1 - 0)) < _
 have e : (n - x.r) * ((n + 1) * (2 * fl.length + 2)) = (n - (x.r + 1)) * ((n + 1) * (2 * fl.length + 2)) + (n + 1) * (2 * fl.length + 2) := by
  rw [show n - x.r = (n - (x.r + 1)) + 1 by omega, Nat.succ_mul]
 have e2 : (n + 1) * (2 * fl.length + 2) = n * (2 * fl.length + 2) + (2 * fl.length + 2) := Nat.succ_mul _ _
 rw [e, e2, Nat.sub_zero]
 generalize (n - (x.r + 1)) * (n * (2 * fl.length + 2) + (2 * fl.length + 2)) = A
 generalize n * (2 * fl.length + 2) = B
 omega
theorem JL (hN : Net fl n) (hn : 0 < n) (hG : ∀ i, -1 ≤ G i ∧ G i ≤ 1) : MD fl a n G (jT fl a n G) := by
  refine wV (oA fl a n G) (MD fl a n G) (P8 fl n) (fun x h => ?_) _ (UZ hn)
  have hr : ¬ n ≤ x.r := by have := h.r; omega
  by_cases hc : n ≤ x.c
  · by_cases ha : x.st.at_ < 0
    · exact .inr ⟨_, Bh hr hc ha, h.none hN hc ha⟩
    · exact .inl ⟨_, yQ hr hc ha, h.round hc (fun e => ha (by rw [h.last e]; decide)), UU h.r _⟩
  · by_cases hj : (bZ fl a x.c).length ≤ x.j
    · exact .inl ⟨_, Ap hr hc hj, h.cell hc hj, Uq (by omega) h.j.1 _⟩
    · have hl := Al (fl := fl) (a := a) (c := x.c)
      cases hg : oC fl G x.st x.c (nth (bZ fl a x.c) x.j) with
      | false => exact .inl ⟨_, HZ hr hc hj hg, h.no hc hj hg, Ri (by omega) _⟩
      | true =>
        by_cases hl : x.r + 1 = n
        · exact .inr ⟨_, BV hr hc hj hg hl, h.found hN hG hc hj hg hl⟩
        · exact .inl ⟨_, DS hr hc hj hg hl, h.yes hN hG hc hj hg hl, Ri (by omega) _⟩
end
end Go.Proofs.YtmmcenjknimhbaaGreat
namespace Go.Proofs.YtmmcenjknimhbaaGreat
open Go Go.T
theorem JG {p : Nat → Prop} (h : ∃ n, p n) : ∃ n, p n ∧ ∀ m, m < n → ¬ p m := by
  obtain ⟨n, hn⟩ := h
  induction n using Nat.strongRecOn with
  | _ n ih =>
    by_cases e : ∃ m, m < n ∧ p m
    · obtain ⟨m, hm, hp⟩ := e; exact ih m hm hp
    · exact ⟨n, hn, fun m hm hp => e ⟨m, hm, hp⟩⟩
def gY (f : Nat → Nat) : Nat → Nat → Nat
  | 0, x => x
  | k + 1, x => f (gY f k x)
theorem mX (f : Nat → Nat) (k x : Nat) : ∀ j, gY f (j + k) x = gY f j (gY f k x)
  | 0 => by rw [Nat.zero_add]; rfl
  | j + 1 => by rw [Nat.succ_add]; show f (gY f (j + k) x) = f _; rw [mX f k x j]
theorem Cd (f : Nat → Int) : ∀ n, ((List.range n).map f).sum = cm f n
  | 0 => rfl
  | n + 1 => by rw [List.range_succ, List.map_append, List.sum_append, Cd f n]; simp [cm]
theorem DT (f : Nat → Int) : ∀ n, cm (fun t => f t - f (t + 1)) n = f 0 - f n
  | 0 => by simp [cm]
  | n + 1 => by unfold cm; rw [DT f n]; omega
section
variable {fl : List c7} {a : List Int} {n : Nat} {G : Nat → Int} {st : zR} {R T : Nat → Nat} {τ v s : Nat}
def cG (fl : List c7) (st : zR) (c : Nat) : Nat := ((nth st.by_ c).jA fl).toNat
structure UC (fl : List c7) (a : List Int) (n : Nat) (G : Nat → Int) (st : zR) (T : Nat → Nat) (s : Nat) : Prop where
  back : ∃ p, 1 ≤ p ∧ p ≤ n ∧ gY (cG fl st) p s = s
  at_ : ∀ t, gY (cG fl st) t s < n
  way : ∀ t, Open fl a (nth st.by_ (gY (cG fl st) t s)) ∧ (nth st.by_ (gY (cG fl st) t s)).fin fl = gY (cG fl st) t s ∧
    nth st.worth (gY (cG fl st) t s) ≤ nth st.worth (gY (cG fl st) (t + 1) s) + lI G (nth st.by_ (gY (cG fl st) t s)) ∧
    (T (gY (cG fl st) t s) < T (gY (cG fl st) (t + 1) s) → nth st.worth (gY (cG fl st) t s) < nth st.worth (gY (cG fl st) (t + 1) s) + lI G (nth st.by_ (gY (cG fl st) t s)))
  one : ∀ t u, T (gY (cG fl st) t s) = T (gY (cG fl st) u s) → gY (cG fl st) t s = gY (cG fl st) u s
theorem E6 (hN : Net fl n) (h : Gh fl a n G (n - 1) st R T τ) (hv : v < n) (hR : R v = n) : ∀ k, k ≤ n → gY (cG fl st) k v < n ∧ n ≤ R (gY (cG fl st) k v) + k
  | 0, _ => ⟨hv, by show n ≤ R v + 0; omega⟩
  | k + 1, hk => by
    obtain ⟨h1, h2⟩ := E6 hN h hv hR k (by omega)
    obtain ⟨b1, _, _, _, b5, _⟩ := h.way _ h1 (by omega)
    have hb := (hN.way b1.1).1
    show cG fl st (gY (cG fl st) k v) < n ∧ n ≤ R (cG fl st (gY (cG fl st) k v)) + (k + 1)
    unfold cG at *
    exact ⟨by omega, by omega⟩
theorem Sr (hN : Net fl n) (h : Gh fl a n G (n - 1) st R T τ) (hv : v < n) (hR : R v = n) : UC fl a n G st T (gY (cG fl st) n v) := by
  have hch := E6 hN h hv hR
  generalize hf : cG fl st = f at *
  obtain ⟨i, j, hij, hjn, e⟩ : ∃ i j, i < j ∧ j ≤ n ∧ gY f i v = gY f j v := by
    refine Classical.byContradiction fun hno => ?_
    have hnd : ((List.range (n + 1)).map fun k => gY f k v).Nodup := by
      rw [List.nodup_iff_pairwise_ne, List.pairwise_map]
      refine List.pairwise_lt_range.imp_of_mem fun {x y} hx hy hlt e => hno ⟨x, y, hlt, ?_, e⟩
      have := List.mem_range.1 hy; omega
    have := mT (n := n) hnd fun y hy => by
      obtain ⟨k, hk, rfl⟩ := List.mem_map.1 hy
      have := List.mem_range.1 hk
      exact (hch k (by omega)).1
    rw [List.length_map, List.length_range] at this; omega
  have good : ∀ m, i ≤ m → ∃ m', m' < n ∧ gY f m v = gY f m' v := by
    intro m
    induction m using Nat.strongRecOn with
    | _ m ih =>
      intro hm
      by_cases c : m < j
      · exact ⟨m, by omega, rfl⟩
      · obtain ⟨m', h1, h2⟩ := ih (m - j + i) (by omega) (by omega)
        refine ⟨m', h1, ?_⟩
        rw [← h2, mX, e, ← mX]; congr 1; omega
  have all : ∀ t, gY f t (gY f n v) < n ∧ 0 < R (gY f t (gY f n v)) := fun t => by
    rw [← mX]
    obtain ⟨m', h1, h2⟩ := good (t + n) (by omega)
    rw [h2]
    have := hch m' (by omega)
    exact ⟨this.1, by omega⟩
  refine ⟨⟨j - i, by omega, by omega, ?_⟩, fun t => by rw [hf]; exact (all t).1, fun t => ?_, fun t u e => ?_⟩
  · rw [hf, ← mX, show j - i + n = (n - i) + j by omega, mX, ← e, ← mX]; congr 1; omega
  · rw [hf]
    obtain ⟨b1, b2, b3, b4, _, _⟩ := h.way _ (all t).1 (all t).2
    have e1 : gY f (t + 1) (gY f n v) = ((nth st.by_ (gY f t (gY f n v))).jA fl).toNat := by
      show f (gY f t (gY f n v)) = _; rw [← hf]; rfl
    rw [e1]
    exact ⟨b1, b2, b3, b4⟩
  · rw [hf] at *
    exact h.one _ _ (all t).1 (all u).1 (all t).2 (all u).2 e
def G4 (fl : List c7) (st : zR) (s : Nat) (x : Nat × List bl) : (Nat × List bl) ⊕ List bl :=
  if ¬ x.2 = [] ∧ x.1 = s then .inr x.2 else .inl (cG fl st x.1, x.2 ++ [nth st.by_ x.1])
noncomputable def tT (fl : List c7) (st : zR) (s : Nat) : List bl := pN (G4 fl st s) (s, [])
structure Kl (fl : List c7) (a : List Int) (n : Nat) (G : Nat → Int) (l : List bl) : Prop where
  ne : l ≠ []
  trail : ∃ s, Trail fl l s s
  ways : ∀ w ∈ l, Open fl a w
  nodup : l.Nodup
  adds : 0 < AM G l
  zK : l.length ≤ n
theorem Nr (hN : Net fl n) (h : UC fl a n G st T s) : Kl fl a n G (tT fl st s) := by
  obtain ⟨p, ⟨hp1, hp2, hp3⟩, hmin⟩ := JG h.back
  have hfin : ∀ t, (nth st.by_ (gY (cG fl st) t s)).fin fl = gY (cG fl st) t s := fun t => (h.way t).2.1
  have hbeg : ∀ t, (nth st.by_ (gY (cG fl st) t s)).jA fl = gY (cG fl st) (t + 1) s := fun t => by
    have := (hN.way (h.way t).1.1).1
    show _ = ((((nth st.by_ (gY (cG fl st) t s)).jA fl).toNat : Nat) : Int)
    omega
  have hone : ∀ t u, t < u → u < p → gY (cG fl st) t s ≠ gY (cG fl st) u s := fun t u htu hup e => by
    refine hmin (p - u + t) (by omega) ⟨by omega, by omega, ?_⟩
    rw [mX, e, ← mX, show p - u + u = p by omega, hp3]
  have hlist : tT fl st s = (List.range p).map fun t => nth st.by_ (gY (cG fl st) t s) := by
    refine wV (fun x => ∃ i, i ≤ p ∧ x = (gY (cG fl st) i s, (List.range i).map fun t => nth st.by_ (gY (cG fl st) t s))) (fun l => l = (List.range p).map fun t => nth st.by_ (gY (cG fl st) t s)) (fun x => p + 1 - x.2.length) (fun x hx => ?_) _ ⟨0, Nat.zero_le _, rfl⟩
    obtain ⟨i, hi, rfl⟩ := hx
    unfold G4
    by_cases e : i = p
    · subst e
      refine .inr ⟨_, if_pos ⟨fun e => ?_, hp3⟩, rfl⟩
      have := congrArg List.length e
      simp at this; omega
    · refine .inl ⟨_, if_neg fun ⟨e1, e2⟩ => ?_, ⟨i + 1, by omega, ?_⟩, ?_⟩
      · by_cases c : i = 0
        · subst c; exact e1 rfl
        · exact hmin i (by omega) ⟨by omega, by omega, e2⟩
      · rw [List.range_succ, List.map_append]; rfl
      · simp; omega
  have htr : ∀ k, Trail fl ((List.range k).map fun t => nth st.by_ (gY (cG fl st) t s)) s (gY (cG fl st) k s) := by
    intro k
    induction k with
    | zero => exact rfl
    | succ k ih =>
      rw [List.range_succ, List.map_append, List.map_singleton, ← hbeg k]
      exact xj ih (hfin k)
  rw [hlist]
  refine ⟨fun e => ?_, ⟨s, ?_⟩, fun w hw => ?_, ?_, ?_, by rw [List.length_map, List.length_range]; exact hp2⟩
  · have := congrArg List.length e
    simp at this; omega
  · have := htr p
    rwa [hp3] at this
  · obtain ⟨t, _, rfl⟩ := List.mem_map.1 hw
    exact (h.way t).1
  · rw [List.nodup_iff_pairwise_ne, List.pairwise_map]
    refine List.pairwise_lt_range.imp_of_mem fun {x y} hx hy hlt e => hone x y hlt (List.mem_range.1 hy) ?_
    have := congrArg (fun w => bl.fin w fl) e
    rw [hfin, hfin] at this; omega
  · unfold AM
    rw [List.map_map, Cd]
    have h0 : cm (fun t => nth st.worth (gY (cG fl st) t s) - nth st.worth (gY (cG fl st) (t + 1) s)) p = 0 := by
      rw [DT (fun t => nth st.worth (gY (cG fl st) t s)), hp3]; show nth st.worth s - _ = 0; omega
    rw [← h0]
    obtain ⟨k, hk, hlt⟩ : ∃ k, k < p ∧ T (gY (cG fl st) k s) < T (gY (cG fl st) (k + 1) s) := by
      refine Classical.byContradiction fun hno => ?_
      have hdn : ∀ d t, t + d ≤ p → T (gY (cG fl st) (t + d) s) ≤ T (gY (cG fl st) t s) := by
        intro d
        induction d with
        | zero => intro t _; exact Nat.le_refl _
        | succ d ih =>
          intro t ht
          have h1 := ih t (by omega)
          have h2 : ¬ T (gY (cG fl st) (t + d) s) < T (gY (cG fl st) (t + d + 1) s) := fun h => hno ⟨t + d, by omega, h⟩
          show T (gY (cG fl st) (t + d + 1) s) ≤ _
          omega
      have h1 := hdn 1 0 (by omega)
      have h2 := hdn (p - 1) 1 (by omega)
      rw [show 1 + (p - 1) = p by omega, hp3] at h2
      have h3 : T (gY (cG fl st) 0 s) = T (gY (cG fl st) 1 s) := by
        show T s = _
        have h1 : T (gY (cG fl st) 1 s) ≤ T s := h1
        omega
      have h4 := h.one 0 1 h3
      have hne := (hN.way (h.way 0).1.1).2.2
      rw [hfin 0, hbeg 0, ← h4] at hne
      exact hne rfl
    refine KY hk (fun t _ => ?_) ?_
    · have := (h.way t).2.2.1
      show _ ≤ lI G (nth st.by_ (gY (cG fl st) t s)); omega
    · have := (h.way k).2.2.2 hlt
      show _ < lI G (nth st.by_ (gY (cG fl st) k s)); omega
noncomputable def dO (fl : List c7) (a : List Int) (n : Nat) (G : Nat → Int) : List bl := match jT fl a n G with
  | none => []
  | some st => tT fl st (gY (cG fl st) n st.at_.toNat)
theorem ym (h : jT fl a n G = none) : dO fl a n G = [] := by unfold dO; rw [h]
theorem yI (h : jT fl a n G = some st) : dO fl a n G = tT fl st (gY (cG fl st) n st.at_.toNat) := by unfold dO; rw [h]
theorem Fp (hN : Net fl n) (hn : 0 < n) (hG : ∀ i, -1 ≤ G i ∧ G i ≤ 1) : (dO fl a n G = [] ∧ ∃ p : Int → Int, ∀ w, Open fl a w → p (w.jA fl) + lI G w ≤ p (w.fin fl)) ∨ Kl fl a n G (dO fl a n G) := by
  have h := JL (a := a) hN hn hG
  cases e : jT fl a n G with
  | none =>
    rw [e] at h
    cases h with
    | none p hp => exact .inl ⟨ym e, p, hp⟩
  | some st =>
    rw [e] at h
    cases h with
    | some _ R T τ v h1 hv e1 hR =>
      rw [yI e, show st.at_.toNat = v by omega]
      exact .inr (Nr hN (Sr hN h1 hv hR))
noncomputable def stepG (fl : List c7) (n : Nat) (G : Nat → Int) (a : List Int) : List Int ⊕ List Int :=
  if dO fl a n G = [] then .inr a else .inl (iA a (dO fl a n G) (iK fl a 300 (dO fl a n G)))
noncomputable def rR (fl : List c7) (n : Nat) (G : Nat → Int) (a : List Int) : List Int := pN (stepG fl n G) a
def DQ (fl : List c7) (G : Nat → Int) (a : List Int) : Int := cm (fun i => G i * nth a i) fl.length
def Bd (fl : List c7) : Prop := ∀ i, i < fl.length → 0 ≤ (nth fl i).lo ∧ (nth fl i).hi ≤ 300
theorem Qi (hB : Bd fl) (h : LR fl a) (hG : ∀ i, -1 ≤ G i ∧ G i ≤ 1) : DQ fl G a ≤ 300 * fl.length := by
 refine (wO (b := 300) fun i hi => ?_).2
 have h1 := hB i hi
 have h2 := h.2 i hi
 have h3 := hG i
 have : G i = -1 ∨ G i = 0 ∨ G i = 1 := by omega
 rcases this with e | e | e <;> rw [e] <;> omega
structure SX (fl : List c7) (a : List Int) (n : Nat) (G : Nat → Int) (b : List Int) : Prop where
  feas : FL fl n b
  more : DQ fl G a < DQ fl G b
theorem GD (h : FL fl n a) {l : List bl} (hc : Kl fl a n G l) : SX fl a n G (iA a l (iK fl a 300 l)) := by
 have hpos := DJ (fl := fl) (a := a) (m := 300) (by decide) l hc.ways
 obtain ⟨_, hm⟩ := GP (fl := fl) (a := a) 300 l
 have hix : ∀ w ∈ l, w.ix < fl.length := fun w hw => (hc.ways w hw).1
 obtain ⟨s, ht⟩ := hc.trail
 refine ⟨⟨zb (Int.le_of_lt hpos) l a h.1 hc.nodup fun w hw => ⟨hix w hw, hm w hw⟩, fun c hcn => ?_⟩, ?_⟩
 ·rw [wk h.1.1 _ l a s s h.1.1 hix ht, h.2 c hcn]; omega
 unfold DQ
 rw [zT G _ l a h.1.1 hix]
 have := Int.mul_pos hc.adds hpos
 omega
end
end Go.Proofs.YtmmcenjknimhbaaGreat
namespace Go.Proofs.YtmmcenjknimhbaaGreat
open Go Go.T
structure Span where
  lo : Int
  hi : Int
deriving DecidableEq, Inhabited
structure oo where
  holds : Int
  first : Span
deriving DecidableEq, Inhabited
structure Move where
  day : Int
  src : Int
  dst : Int
  sacks : Span
deriving DecidableEq, Inhabited
structure Level where
  day : Int
  bin : Int
  sacks : Span
deriving DecidableEq, Inhabited
structure bu where
  days : Int
  bins : List oo
  moves : List Move
  levels : List Level
deriving DecidableEq, Inhabited
structure ew where
  first : List Int
  bM : List Int
deriving DecidableEq, Inhabited
def gr (s : Span) : Bool := tU s.lo 0 300 && tU s.hi 0 300
def iU (s : Span) : Bool := decide (s.lo ≤ s.hi)
def bu.bin (y : bu) (k : Int) : Bool := tU k 0 (y.bins.length - 1)
def bu.time (y : bu) (k : Int) : Bool := tU k 0 y.days
def bu.fin (y : bu) (k : Int) : Bool := decide (k = -1) || y.bin k
def oP (y : bu) : Bool := ((!tU y.days 1 5 || !tU y.bins.length 1 4) || decide ((y.moves.length : Int) > 10)) || decide ((y.levels.length : Int) > 8)
def ot (y : bu) : Bool := !y.bins.all (fun b => tU b.holds 0 300 && gr b.first)
def lR (y : bu) : Bool := !y.moves.all (fun m => gr m.sacks) || !y.levels.all (fun l => gr l.sacks)
def HU (y : bu) : Bool := !y.moves.all fun m => (tU m.day 0 (y.days - 1) && y.fin m.src) && y.fin m.dst
def BD (y : bu) : Bool := !y.levels.all fun l => y.time l.day && y.bin l.bin
def w9 (y : bu) : Bool := !y.moves.all fun m => !decide (m.src = m.dst)
def xz (y : bu) : Bool := (!y.bins.all (fun b => iU b.first) || !y.moves.all (fun m => iU m.sacks)) || !y.levels.all (fun l => iU l.sacks)
def dw (y : bu) : Int := if oP y = true then 2 else if ot y = true then 3 else if lR y = true then 3 else if HU y = true then 1 else if BD y = true then 1 else if w9 y = true then 5 else if xz y = true then 4 else 0
structure bu.dh (y : bu) : Prop where
  days : 1 ≤ y.days ∧ y.days ≤ 5
  bins : 1 ≤ y.bins.length ∧ y.bins.length ≤ 4
  moves : y.moves.length ≤ 10
  levels : y.levels.length ≤ 8
  bin : ∀ b ∈ y.bins, (0 ≤ b.holds ∧ b.holds ≤ 300) ∧ (0 ≤ b.first.lo ∧ b.first.hi ≤ 300) ∧ b.first.lo ≤ b.first.hi
  move : ∀ m ∈ y.moves, (0 ≤ m.day ∧ m.day < y.days) ∧ (-1 ≤ m.src ∧ m.src < y.bins.length) ∧ (-1 ≤ m.dst ∧ m.dst < y.bins.length) ∧ m.src ≠ m.dst ∧ (0 ≤ m.sacks.lo ∧ m.sacks.hi ≤ 300) ∧ m.sacks.lo ≤ m.sacks.hi
  level : ∀ l ∈ y.levels, (0 ≤ l.day ∧ l.day ≤ y.days) ∧ (0 ≤ l.bin ∧ l.bin < y.bins.length) ∧ (0 ≤ l.sacks.lo ∧ l.sacks.hi ≤ 300) ∧ l.sacks.lo ≤ l.sacks.hi
theorem Cg {y : bu} (h : dw y = 0) : y.dh := by
  unfold dw at h
  have n0 : ∀ {c : Bool} {k x : Int}, k ≠ 0 → (if c = true then k else x) = 0 → c = false ∧ x = 0 := fun {c k x} hk h => by
    cases c with
    | true => exact absurd h hk
    | false => exact ⟨rfl, h⟩
  obtain ⟨h1, h⟩ := n0 (by decide) h
  obtain ⟨h2, h⟩ := n0 (by decide) h
  obtain ⟨h3, h⟩ := n0 (by decide) h
  obtain ⟨h4, h⟩ := n0 (by decide) h
  obtain ⟨h5, h⟩ := n0 (by decide) h
  obtain ⟨h6, h⟩ := n0 (by decide) h
  obtain ⟨h7, h⟩ := n0 (by decide) h
  simp only [oP, ot, lR, HU, BD, w9, xz, Bool.or_eq_false_iff, Bool.not_eq_false', decide_eq_false_iff_not, List.all_eq_true, Bool.and_eq_true, fG, gr, iU, decide_eq_true_eq, bu.fin, bu.bin, bu.time, Bool.or_eq_true, Bool.not_eq_true', decide_eq_false_iff_not] at h1 h2 h3 h4 h5 h6 h7
  refine ⟨h1.1.1.1, by omega, by omega, by omega, fun b hb => ?_, fun m hm => ?_, fun l hl => ?_⟩
  · have a := h2 b hb; have c := h7.1.1 b hb
    exact ⟨a.1, ⟨a.2.1.1, a.2.2.2⟩, c⟩
  · have a := h3.1 m hm; have c := h4 m hm; have d := h6 m hm; have e := h7.1.2 m hm
    refine ⟨by omega, by omega, by omega, d, ⟨a.1.1, a.2.2⟩, e⟩
  · have a := h3.2 l hl; have c := h5 l hl; have e := h7.2 l hl
    refine ⟨by omega, by omega, ⟨a.1.1, a.2.2⟩, e⟩
section
variable {y : bu} {c : Nat → Bool} {a : ew} {b t : Nat}
def bu.D (y : bu) : Nat := y.days.toNat
def bu.cells (y : bu) : Nat := y.bins.length * y.D
def bu.cell (y : bu) (bin day : Int) : Int := if bin = -1 then (y.bins.length : Int) * y.days else bin * y.days + day
theorem jM {α : Type} [Inhabited α] (f : Nat → α) {n k : Nat} (h : k < n) : nth ((List.range n).map f) k = f k := by
 unfold nth; rw [List.getD_eq_getElem?_getD, List.getElem?_map, List.getElem?_range h]; rfl
def bu.kept (y : bu) (b t : Nat) : Nat := b * (y.D + 1) + t
theorem ni {α : Type} [Inhabited α] {l k : List α} {i : Nat} (h : i < l.length) : nth (l ++ k) i = nth l i := by
 unfold nth; rw [List.getD_eq_getElem?_getD, List.getD_eq_getElem?_getD, List.getElem?_append_left h]
theorem sS {α : Type} [Inhabited α] {l k : List α} {i : Nat} : nth (l ++ k) (l.length + i) = nth k i := by
 unfold nth; rw [List.getD_eq_getElem?_getD, List.getD_eq_getElem?_getD, List.getElem?_append_right (by omega), Nat.add_sub_cancel_left]
end
end Go.Proofs.YtmmcenjknimhbaaGreat
namespace Go.Proofs.YtmmcenjknimhbaaGreat
open Go Go.T
section
variable {y : bu} {c : Nat → Bool} {a : ew} {x : List Int} {b t : Nat}
theorem D_eq (hr : y.dh) : (y.D : Int) = y.days := by have := hr.days; unfold bu.D; omega
def xX (y : bu) (m : List Int) (b : Nat) (i : Nat) : Int := (ind ((nth y.moves i).dst = b) - ind ((nth y.moves i).src = b)) * nth m i
def fL (y : bu) (a : ew) (b t : Nat) : Int := nth a.first b + cm (fun i => if (nth y.moves i).day < t then xX y a.bM b i else 0) y.moves.length
def UT (y : bu) (m : List Int) (b t : Nat) : Int := cm (fun i => if (nth y.moves i).day = t then xX y m b i else 0) y.moves.length
theorem Cs (hr : y.dh) : fL y a b 0 = nth a.first b := by
 unfold fL
 rw [k5 fun i hi => by have := (hr.move _ (bL hi)).1; rw [if_neg (by omega)]]; omega
theorem Kv : fL y a b (t + 1) = fL y a b t + UT y a.bM b t := by
 unfold fL UT
 rw [Int.add_assoc, ← vo]
 congr 1
 refine gV fun i _ => ?_
 by_cases e : (nth y.moves i).day < (t : Int)
 ·rw [if_pos e, if_pos (by omega), if_neg (by omega)]; omega
 by_cases e2 : (nth y.moves i).day = t
 ·rw [if_neg e, if_pos (by omega), if_pos e2]; omega
 rw [if_neg e, if_neg (by omega), if_neg e2]; rfl
structure S5 (y : bu) (a : ew) : Prop where
  first : a.first.length = y.bins.length
  bM : a.bM.length = y.moves.length
structure Kn (y : bu) (c : Nat → Bool) (a : ew) : Prop where
  lens : S5 y a
  first : ∀ b, b < y.bins.length → (nth y.bins b).first.lo ≤ nth a.first b ∧ nth a.first b ≤ (nth y.bins b).first.hi
  cont : ∀ b t, b < y.bins.length → t ≤ y.D → 0 ≤ fL y a b t ∧ fL y a b t ≤ (nth y.bins b).holds
  bM : ∀ i, i < y.moves.length → (nth y.moves i).sacks.lo ≤ nth a.bM i ∧ nth a.bM i ≤ (nth y.moves i).sacks.hi
  level : ∀ i, i < y.levels.length → c i = true → (nth y.levels i).sacks.lo ≤ fL y a (nth y.levels i).bin.toNat (nth y.levels i).day.toNat ∧ fL y a (nth y.levels i).bin.toNat (nth y.levels i).day.toNat ≤ (nth y.levels i).sacks.hi
end
end Go.Proofs.YtmmcenjknimhbaaGreat
namespace Go.Proofs.YtmmcenjknimhbaaGreat
open Go Go.T
section
variable {fl : List c7} {a x : List Int} {n : Nat} {has : Nat → Bool}
def y7 (fl : List c7) (has : Nat → Bool) (x : List Int) : Int := cm (fun i => if has i = true then nth x i else 0) fl.length
structure uG (fl : List c7) (n : Nat) (has : Nat → Bool) (s : Span) : Prop where
  lo : ∃ x, FL fl n x ∧ y7 fl has x = s.lo
  hi : ∃ x, FL fl n x ∧ y7 fl has x = s.hi
  all : ∀ x, FL fl n x → s.lo ≤ y7 fl has x ∧ y7 fl has x ≤ s.hi
theorem uG.one {s s' : Span} (h : uG fl n has s) (h' : uG fl n has s') : s = s' := by
 obtain ⟨x1, f1, e1⟩ := h.lo
 obtain ⟨x2, f2, e2⟩ := h.hi
 obtain ⟨y1, g1, d1⟩ := h'.lo
 obtain ⟨y2, g2, d2⟩ := h'.hi
 have a1 := h.all y1 g1
 have a2 := h.all y2 g2
 have b1 := h'.all x1 f1
 have b2 := h'.all x2 f2
 cases s; cases s'
 simp only at *
 congr 1 <;> omega
open Classical in
noncomputable def tj (fl : List c7) (n : Nat) (has : Nat → Bool) : Span := if h : ∃ s, uG fl n has s then h.choose else default
theorem uG.eq {s : Span} (h : uG fl n has s) : tj fl n has = s := by
 have hx : ∃ s, uG fl n has s := ⟨s, h⟩
 unfold tj; rw [dif_pos hx]; exact hx.choose_spec.one h
def SC (fl : List c7) : Bool := fl.all fun f => decide (f.lo ≤ f.hi)
end
end Go.Proofs.YtmmcenjknimhbaaGreat
namespace Go.Proofs.YtmmcenjknimhbaaGreat
open Go Go.T
structure Tj (y : bu) (c : Nat → Bool) (f : ew → Int) (s : Span) : Prop where
  lo : ∃ a, Kn y c a ∧ f a = s.lo
  hi : ∃ a, Kn y c a ∧ f a = s.hi
  all : ∀ a, Kn y c a → s.lo ≤ f a ∧ f a ≤ s.hi
section
variable {y : bu} {c : Nat → Bool} {f : ew → Int} {s s' : Span} {a : ew} {x : List Int} {b t k : Nat} {has : Nat → Bool}
theorem Tj.one (h : Tj y c f s) (h' : Tj y c f s') : s = s' := by
 obtain ⟨x1, f1, e1⟩ := h.lo
 obtain ⟨x2, f2, e2⟩ := h.hi
 obtain ⟨y1, g1, d1⟩ := h'.lo
 obtain ⟨y2, g2, d2⟩ := h'.hi
 have a1 := h.all y1 g1
 have a2 := h.all y2 g2
 have b1 := h'.all x1 f1
 have b2 := h'.all x2 f2
 cases s; cases s'
 simp only at *
 congr 1 <;> omega
theorem DO {α : Type} [Inhabited α] {l k : List α} (h : l.length = k.length) (h2 : ∀ i, i < l.length → nth l i = nth k i) : l = k := by
 refine List.ext_getElem h fun i h1 h3 => ?_
 have := h2 i h1
 unfold nth at this
 rw [List.getD_eq_getElem?_getD, List.getD_eq_getElem?_getD, List.getElem?_eq_getElem h1, List.getElem?_eq_getElem h3] at this
 exact this
end
end Go.Proofs.YtmmcenjknimhbaaGreat
namespace Go.Proofs.YtmmcenjknimhbaaGreat
open Go Go.T
structure V0 where
  bin : Int
  day : Int
deriving DecidableEq, Inhabited
def Rm : El Span := El.mk' 2 (fun x => [Ty.int .i64 x.lo, Ty.int .i64 x.hi]) (fun _ => rfl) (fun _ => ⟨rfl, rfl, rfl⟩)
def jt : El oo := El.mk' 3 (fun x => [Ty.int .i64 x.holds, Ty.int .i64 x.first.lo, Ty.int .i64 x.first.hi]) (fun _ => rfl) (fun _ => ⟨rfl, rfl, rfl⟩)
def iY : El Move := El.mk' 5 (fun x => [Ty.int .i64 x.day, Ty.int .i64 x.src, Ty.int .i64 x.dst, Ty.int .i64 x.sacks.lo, Ty.int .i64 x.sacks.hi]) (fun _ => rfl) (fun _ => ⟨rfl, rfl, rfl⟩)
def jh : El Level := El.mk' 4 (fun x => [Ty.int .i64 x.day, Ty.int .i64 x.bin, Ty.int .i64 x.sacks.lo, Ty.int .i64 x.sacks.hi]) (fun _ => rfl) (fun _ => ⟨rfl, rfl, rfl⟩)
def uC : El (List Int) := El.mk' 1 (fun x => [Ty.sl dN x]) (fun _ => rfl) (fun _ => ⟨rfl, rfl, rfl⟩)
def iF (y : bu) : List Ty := [Ty.int .i64 y.days, Ty.sl jt y.bins, Ty.sl iY y.moves, Ty.sl jh y.levels]
def z7 (y : bu) : Ty := Ty.agg (iF y)
def oX (a : ew) : List Ty := [Ty.sl dN a.first, Ty.sl dN a.bM]
def Ru (a : ew) : Ty := Ty.agg (oX a)
theorem wU {α : Type} (q : α → Bool) (l : List α) : (!(l.any fun x => !q x)) = l.all q := by
  induction l with
  | nil => rfl
  | cons x l ih => simp only [List.any_cons, List.all_cons, Bool.not_or, Bool.not_not, ih]
end Go.Proofs.YtmmcenjknimhbaaGreat
namespace Go.Proofs.YtmmcenjknimhbaaGreat
open Go Go.T
structure nD where
  grain : List Int
  taken : Int
  mixed : Int
def Ug (s : nD) : Int := IntKind.u32.wrap (bits .xor .u32 s.mixed (IntKind.u32.wrap (nth s.grain (s.taken.tmod s.grain.length).toNat)) * 16777619)
def D8 (s : nD) : nD := if (s.grain.length : Int) > 0 then { s with mixed := Ug s } else s
def KG (s : nD) : nD := { s with taken := s.taken + 1 }
def Tz (s : nD) : Int := IntKind.u32.wrap (IntKind.u32.wrap (s.mixed * 1664525) + 1013904223)
def D5 (s : nD) : nD := if s.taken > (s.grain.length : Int) then { s with mixed := Tz s } else s
def bI (s : nD) : nD := D5 (KG (D8 s))
def kr (s : nD) : Int := IntKind.i64.wrap (bits .and .u32 (bits .xor .u32 s.mixed (s.mixed / 2 ^ (15 : Int).toNat) / 2 ^ (8 : Int).toNat) 65535)
def nD.Ok (s : nD) (n : Int) : Prop := 0 ≤ s.taken ∧ s.taken + n ≤ 4611686018427387904
theorem Bw (s : nD) : (D8 s).taken = s.taken := by unfold D8; split <;> rfl
theorem CL (s : nD) : (D5 s).taken = s.taken := by unfold D5; split <;> rfl
theorem dy (s : nD) : (bI s).taken = s.taken + 1 := by unfold bI; rw [CL, KG, Bw]
theorem Ay (a : Int) : 0 ≤ bits .and .u32 a 65535 ∧ bits .and .u32 a 65535 ≤ 65535 := by
 have e : bits .and .u32 a 65535 = IntKind.u32.wrap (((BitVec.ofInt 32 a &&& BitVec.ofInt 32 65535).toNat : Nat) : Int) := rfl
 have h1 : (BitVec.ofInt 32 a &&& BitVec.ofInt 32 65535).toNat ≤ 65535 := by
  rw [BitVec.toNat_and]
  exact Nat.and_le_right
 rw [e]
 generalize (BitVec.ofInt 32 a &&& BitVec.ofInt 32 65535).toNat = n at h1
 have : IntKind.u32.wrap (n : Int) = (n : Int) % 4294967296 := rfl
 rw [this]; omega
theorem EY (s : nD) : 0 ≤ kr s ∧ kr s ≤ 65535 := by
 have h := Ay (bits .xor .u32 s.mixed (s.mixed / 2 ^ (15 : Int).toNat) / 2 ^ (8 : Int).toNat)
 unfold kr
 rw [IntWalk.i64_in _ (by omega)]; exact h
def dL (s : nD) (n : Int) : Int := (kr (bI s)).tmod (max 1 n)
theorem dX (s : nD) (n : Int) : 0 ≤ dL s n ∧ dL s n < max 1 n ∧ dL s n ≤ 65535 := by
 have h := EY (bI s)
 unfold dL
 have h1 : (kr (bI s)).tmod (max 1 n) = kr (bI s) % max 1 n := Int.tmod_eq_emod_of_nonneg h.1
 have h2 := Int.emod_lt_of_pos (kr (bI s)) (show 0 < max 1 n by omega)
 have h3 := Int.emod_nonneg (kr (bI s)) (show max 1 n ≠ 0 by omega)
 have h4 : kr (bI s) % max 1 n ≤ kr (bI s) := by
  have := Int.mul_ediv_add_emod (kr (bI s)) (max 1 n)
  have hq : 0 ≤ kr (bI s) / max 1 n := Int.ediv_nonneg h.1 (by omega)
  have : 0 ≤ max 1 n * (kr (bI s) / max 1 n) := Int.mul_nonneg (by omega) hq
  omega
 omega
def lq (s : nD) (lo hi : Int) : Int := lo + dL s (hi - lo + 1)
end Go.Proofs.YtmmcenjknimhbaaGreat
namespace Go.Proofs.YtmmcenjknimhbaaGreat
open Go Go.T
def xY (m : Move) (bin time : Int) : Bool := decide (m.day < time) && decide (m.dst = bin)
def so (m : Move) (bin time : Int) : Bool := decide (m.day < time) && decide (m.src = bin)
def fQ (y : bu) (a : ew) (bin time : Int) (k : Nat) (n : Int) : Int := n + if xY (nth y.moves k) bin time = true then nth a.bM k else 0
def gG (y : bu) (a : ew) (bin time : Int) : Nat → Int
  | 0 => nth a.first bin.toNat
  | k + 1 => fQ y a bin time k (gG y a bin time k) - if so (nth y.moves k) bin time = true then nth a.bM k else 0
def eT (y : bu) (a : ew) (bin time : Int) : Int := gG y a bin time y.moves.length
section
variable {y : bu} {a : ew} {bin time : Int} {k b t : Nat}
theorem N4 {B : Int} (hB : 0 ≤ B) (h1 : ∀ x ∈ a.first, -B ≤ x ∧ x ≤ B) (h2 : ∀ x ∈ a.bM, -B ≤ x ∧ x ≤ B) (hb : bin.toNat < a.first.length) : ∀ k, k ≤ a.bM.length → -(B + 2 * B * k) ≤ gG y a bin time k ∧ gG y a bin time k ≤ B + 2 * B * k
  | 0, _ => by have := h1 _ (bL hb); show -(B + 2 * B * 0) ≤ nth a.first bin.toNat ∧ nth a.first bin.toNat ≤ _; omega
  | k + 1, hk => by
    have ih := N4 hB h1 h2 hb k (by omega)
    have := h2 _ (bL (show k < a.bM.length by omega))
    have e : 2 * B * ((k + 1 : Nat) : Int) = 2 * B * k + 2 * B := by rw [Int.natCast_add, Int.mul_add]; simp
    show -(B + 2 * B * ((k + 1 : Nat) : Int)) ≤ fQ y a bin time k (gG y a bin time k) - _ ∧ fQ y a bin time k (gG y a bin time k) - _ ≤ B + 2 * B * ((k + 1 : Nat) : Int)
    rw [e]
    unfold fQ
    split <;> split <;> omega
theorem Ng : ∀ k, gG y a b t k = nth a.first b + cm (fun i => if (nth y.moves i).day < t then xX y a.bM b i else 0) k
  | 0 => by show nth a.first ((b : Nat) : Int).toNat = _ + 0; simp
  | k + 1 => by
    show fQ y a b t k (gG y a b t k) - _ = nth a.first b + (cm _ k + _)
    rw [Ng k]
    unfold fQ xY so xX
    by_cases h0 : (nth y.moves k).day < (t : Int)
    · by_cases h1 : (nth y.moves k).dst = (b : Int) <;> by_cases h2 : (nth y.moves k).src = (b : Int) <;> simp [h0, h1, h2, ind] <;> omega
    · simp [h0]
theorem G0 : eT y a b t = fL y a b t := Ng _
end
end Go.Proofs.YtmmcenjknimhbaaGreat
