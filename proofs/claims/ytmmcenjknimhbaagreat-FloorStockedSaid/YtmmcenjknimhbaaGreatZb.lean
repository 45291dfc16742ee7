/- Lemmas: the program and the reference walked, plain laws. -/
import Derived.Test.YtmmcenjknimhbaaGreatZa
namespace Go.Proofs.YtmmcenjknimhbaaGreat
open Go Go.T
structure KO where
  f : bS
  before : List Nat
  adds : List Int
  first : List Int
def gA (b : KO) : List Ty := cx b.f ++ (b.before.flatMap y6.tys ++ (b.adds.flatMap dN.tys ++ b.first.flatMap dN.tys))
structure KO.ya (b : KO) : Prop where
  before : b.before.length = 8
  adds : b.adds.length = 32
  first : b.first.length = 4
theorem EM : ∀ xs : List Nat, xs.flatMap y6.tys = xs.map fun n => Ty.int .i64 (n : Nat)
  | [] => rfl
  | x :: xs => by rw [List.flatMap_cons, EM xs]; rfl
theorem vf : ∀ xs : List Int, xs.flatMap dN.tys = xs.map fun n => Ty.int .i64 n
  | [] => rfl
  | x :: xs => by rw [List.flatMap_cons, vf xs]; rfl
theorem jI (b : KO) : gA b = cx b.f ++ ((b.before.map fun n => Ty.int .i64 (n : Nat)) ++ ((b.adds.map fun n => Ty.int .i64 n) ++ b.first.map fun n => Ty.int .i64 n)) := by
 unfold gA; rw [EM, vf, vf]
theorem En {α : Type} [Inhabited α] {l : List α} (g : α → Ty) {k : Nat} (h : k < l.length) : (l.map g)[k]? = some (g (nth l k)) := by
 rw [List.getElem?_map, List.getElem?_eq_getElem h, cF h]; rfl
theorem ep (f : bS) : (cx f).length = 4 := rfl
theorem Ae {b : KO} (h : b.ya) {i : Nat} (hi : i < 8) : (gA b)[4 + i]? = some (Ty.int .i64 (nth b.before i : Nat)) := by
 rw [jI, List.getElem?_append_right (by rw [ep]; omega), ep, List.getElem?_append_left (by simp [h.before]; omega), show 4 + i - 4 = i by omega]
 exact En _ (by rw [h.before]; exact hi)
theorem Fi {b : KO} (h : b.ya) {i : Nat} (hi : i < 32) : (gA b)[12 + i]? = some (Ty.int .i64 (nth b.adds i)) := by
 rw [jI, List.getElem?_append_right (by rw [ep]; omega), ep, List.getElem?_append_right (by simp [h.before]; omega), List.getElem?_append_left (by simp [h.before, h.adds]; omega)]
 simp only [List.length_map, h.before]
 rw [show 12 + i - 4 - 8 = i by omega]
 exact En _ (by rw [h.adds]; exact hi)
theorem xU {b : KO} (h : b.ya) {i : Nat} (hi : i < 4) : (gA b)[44 + i]? = some (Ty.int .i64 (nth b.first i)) := by
 rw [jI, List.getElem?_append_right (by rw [ep]; omega), ep, List.getElem?_append_right (by simp [h.before]; omega), List.getElem?_append_right (by simp [h.before, h.adds]; omega)]
 simp only [List.length_map, h.before, h.adds]
 rw [show 44 + i - 4 - 8 - 32 = i by omega]
 exact En _ (by rw [h.first]; exact hi)
theorem Q2 {b : KO} (h : b.ya) : (gA b).length = 48 := by rw [jI]; simp [ep, h.before, h.adds, h.first]
theorem FC {b : KO} (h : b.ya) {i : Nat} (hi : i < 32) (v : Int) : (gA b).set (12 + i) (Ty.int .i64 v) = gA { b with adds := b.adds.set i v } := by
 rw [jI, jI, List.set_append_right _ _ (by rw [ep]; omega), ep, List.set_append_right _ _ (by simp [h.before]; omega), List.set_append_left _ _ (by simp [h.before, h.adds]; omega)]
 simp only [List.length_map, h.before]
 rw [show 12 + i - 4 - 8 = i by omega, List.map_set]
theorem CF {b : KO} (h : b.ya) {i : Nat} (hi : i < 4) (v : Int) : (gA b).set (44 + i) (Ty.int .i64 v) = gA { b with first := b.first.set i v } := by
 rw [jI, jI, List.set_append_right _ _ (by rw [ep]; omega), ep, List.set_append_right _ _ (by simp [h.before]; omega), List.set_append_right _ _ (by simp [h.before, h.adds]; omega)]
 simp only [List.length_map, h.before, h.adds]
 rw [show 44 + i - 4 - 8 - 32 = i by omega, List.map_set]
def xh (f : bS) : Bool := (List.range 8).any fun t => (nth (gp f) t).testBit t
def bk (f : bS) : Int := if ig f ≠ 0 then ig f else if xh f then 7 else 0
def fA (f : bS) (bad : Bool) : Int := if bk f ≠ 0 then bk f else if bad then 1 else 0
structure bS.dj (f : bS) : Prop where
  ranged : f.jC
  named : f.Ck
  ruled : f.jQ
theorem rV {f : bS} (h : ig f = 0) : f.dj := by
 unfold ig at h
 split at h
 ·cases h
 rename_i h1
 split at h
 ·cases h
 rename_i h2
 split at h
 ·cases h
 rename_i h3
 split at h
 ·cases h
 rename_i h4
 have hr := vV (Bool.eq_false_iff.2 h1) (Bool.eq_false_iff.2 h2) (Bool.eq_false_iff.2 h3)
 have h4 := Bool.eq_false_iff.2 h4
 simp only [p5, Bool.or_eq_false_iff, Bool.not_eq_false', List.all_eq_true, Bool.and_eq_true] at h4
 refine ⟨hr, fun t ht => ?_, ⟨hr.turnings, fun r hr => ?_⟩⟩
 ·have := fI (h4.1 t ht).1; have := fI (h4.1 t ht).2; omega
 have := fI (h4.2 r hr).1; have := fI (h4.2 r hr).2; omega
theorem cB {f : bS} (h : bk f = 0) : f.dj := by
 unfold bk at h
 split at h
 ·exact absurd h ‹_›
 exact rV (Classical.byContradiction fun e => ‹¬ ig f ≠ 0› e)
theorem lA {f : bS} (hf : f.jQ) : Sets (gp f) := by
  have : ∀ n out, Sets out → Sets (mP f n out) := by
    intro n
    induction n with
    | zero => intro out h; exact h
    | succ n ih => intro out h; rw [mP]; split
                   · exact h
                   · exact ih _ (m9 f.rules out h (um hf)).1
  exact this _ _ uR
def ir (f : bS) (bin : Int) (b : Nat) : Int := if bin = -1 then 0 else nth (nth f.bins bin.toNat).shares b
def wq (f : bS) (t b : Nat) : Int := (nth f.turnings t).sacks * (ir f (nth f.turnings t).dst b - ir f (nth f.turnings t).src b)
def gQ (f : bS) (b q : Nat) : Int := ((f.bins.take q).map fun x => x.has * nth x.shares b).sum
def AA (f : bS) (k a j : Nat) : Int := if j / 4 < f.turnings.length ∧ (j % 4 < k ∨ (j % 4 = k ∧ j / 4 < a)) then wq f (j / 4) (j % 4) else 0
def mE (f : bS) (k q j : Nat) : Int := if j < k then gQ f j f.bins.length else if j = k then gQ f k q else 0
def ow (f : bS) (k q a : Nat) : KO := { f := f, before := gp f, adds := (List.range 32).map (AA f k a), first := (List.range 4).map (mE f k q) }
theorem qY {f : bS} (hf : f.jQ) (k q a : Nat) : (ow f k q a).ya := ⟨(lA hf).len, by simp [ow], by simp [ow]⟩
theorem pE {α : Type} (n i : Nat) (g g' : Nat → α) (v : α) (h : ∀ j, j < n → g' j = if j = i then v else g j) : ((List.range n).map g).set i v = (List.range n).map g' := by
 apply List.ext_getElem?
 intro j
 rw [List.getElem?_set]
 by_cases e : i = j
 ·subst e
  by_cases hi : i < n
  ·simp [hi, h i hi]
  simp [hi]
 rw [if_neg e]
 simp only [List.getElem?_map]
 by_cases hj : j < n
 ·rw [List.getElem?_range hj]; simp only [Option.map_some]; rw [h j hj, if_neg (fun x => e x.symm)]
 rw [List.getElem?_eq_none (by simpa using hj)]; rfl
theorem sC (f : bS) (b : Nat) {q : Nat} (h : q < f.bins.length) : gQ f b (q + 1) = gQ f b q + (nth f.bins q).has * nth (nth f.bins q).shares b := by
 unfold gQ
 rw [bh h, List.map_append, List.sum_append]; simp
theorem Hp {f : bS} {k q a : Nat} (hk : k < 4) : nth (ow f k q a).first k = gQ f k q := by
 show nth ((List.range 4).map (mE f k q)) k = _
 rw [cy _ hk]; simp [mE]
theorem zc {f : bS} (hf : f.jQ) {k q a : Nat} (hk : k < 4) (hq : q < f.bins.length) :
 (gA (ow f k q a)).set (44 + k) (Ty.int .i64 (gQ f k q + (nth f.bins q).has * nth (nth f.bins q).shares k)) = gA (ow f k (q + 1) a) := by
 rw [CF (qY hf k q a) hk, ← sC f k hq]
 have e : (ow f k q a).first.set k (gQ f k (q + 1)) = (ow f k (q + 1) a).first := pE 4 k (mE f k q) (mE f k (q + 1)) _ fun j _ => by
  unfold mE
  by_cases e : j = k
  ·subst e; simp
  simp [e]
 show gA ⟨f, gp f, _, (ow f k q a).first.set k (gQ f k (q + 1))⟩ = _
 rw [e]; rfl
theorem Bw {f : bS} (hf : f.jQ) {k q a : Nat} (hk : k < 4) (ha : a < f.turnings.length) :
 (gA (ow f k q a)).set (12 + (a * 4 + k)) (Ty.int .i64 (wq f a k)) = gA (ow f k q (a + 1)) := by
 have h8 := hf.1
 rw [FC (qY hf k q a) (by omega)]
 have e : (ow f k q a).adds.set (a * 4 + k) (wq f a k) = (ow f k q (a + 1)).adds := pE 32 (a * 4 + k) (AA f k a) (AA f k (a + 1)) _ fun j _ => by
  unfold AA
  by_cases e : j = a * 4 + k
  ·subst e
   rw [if_pos rfl, if_pos ⟨by omega, .inr ⟨by omega, by omega⟩⟩, show (a * 4 + k) / 4 = a by omega, show (a * 4 + k) % 4 = k by omega]
  rw [if_neg e]
  by_cases h1 : j / 4 < f.turnings.length ∧ (j % 4 < k ∨ (j % 4 = k ∧ j / 4 < a))
  ·rw [if_pos h1, if_pos (by omega)]
  rw [if_neg h1, if_neg (by omega)]
 unfold ow at e ⊢
 simp only at e ⊢
 rw [e]
theorem Mr (f : bS) (k : Nat) : ow f k f.bins.length f.turnings.length = ow f (k + 1) 0 0 := by
 unfold ow
 congr 1
 ·refine List.map_congr_left fun j _ => ?_
  unfold AA
  by_cases h1 : j / 4 < f.turnings.length ∧ (j % 4 < k ∨ (j % 4 = k ∧ j / 4 < f.turnings.length))
  ·rw [if_pos h1, if_pos (by omega)]
  rw [if_neg h1, if_neg (by omega)]
 refine List.map_congr_left fun j _ => ?_
 unfold mE
 by_cases h1 : j < k
 ·rw [if_pos h1, if_pos (by omega)]
 rw [if_neg h1]
 by_cases h2 : j = k
 ·subst h2; rw [if_pos rfl, if_pos (by omega)]
 rw [if_neg h2, if_neg (by omega)]
 by_cases h3 : j = k + 1
 ·subst h3; rw [if_pos rfl]; simp [gQ]
 rw [if_neg h3]
theorem K1 (f : bS) : ow f 0 0 0 = { f := f, before := gp f, adds := List.replicate 32 0, first := List.replicate 4 0 } := by
 unfold ow
 congr 1
 ·refine List.ext_getElem? fun j => ?_
  simp only [List.getElem?_map, List.getElem?_replicate]
  by_cases h : j < 32
  ·rw [List.getElem?_range h, if_pos h]; simp [AA]
  rw [List.getElem?_eq_none (by simpa using h), if_neg h]; rfl
theorem Uq {a c : Int} {A : Int} (ha : 0 ≤ a ∧ a ≤ A) (hc : 0 ≤ c ∧ c ≤ 4) : 0 ≤ a * c ∧ a * c ≤ 4 * A := by
 have : c = 0 ∨ c = 1 ∨ c = 2 ∨ c = 3 ∨ c = 4 := by omega
 rcases this with rfl | rfl | rfl | rfl | rfl <;> omega
theorem US {a c : Int} {A : Int} (ha : 0 ≤ a ∧ a ≤ A) (hc : -4 ≤ c ∧ c ≤ 4) : -(4 * A) ≤ a * c ∧ a * c ≤ 4 * A := by
 have : c = -4 ∨ c = -3 ∨ c = -2 ∨ c = -1 ∨ c = 0 ∨ c = 1 ∨ c = 2 ∨ c = 3 ∨ c = 4 := by omega
 rcases this with rfl | rfl | rfl | rfl | rfl | rfl | rfl | rfl | rfl <;> omega
theorem mT {f : bS} (hr : f.jC) (b : Nat) : ∀ q, q ≤ f.bins.length → 0 ≤ gQ f b q ∧ gQ f b q ≤ 1200 * q
  | 0, _ => by simp [gQ]
  | q + 1, h => by
    rw [sC f b h]
    have h1 := mT hr b q (by omega)
    have h2 := Uq (hr.hasR _ (bL h)) (oD hr (b := b) h)
    omega
theorem mV {f : bS} (hr : f.jC) {i : Int} (hi : -1 ≤ i ∧ i < f.bins.length) (b : Nat) : 0 ≤ ir f i b ∧ ir f i b ≤ 4 := by
 unfold ir
 split
 ·omega
 exact oD hr (by omega)
theorem Ai {f : bS} (hr : f.jC) (hn : f.Ck) {t : Nat} (ht : t < f.turnings.length) (b : Nat) : -1200 ≤ wq f t b ∧ wq f t b ≤ 1200 := by
 have h1 := hn _ (bL ht)
 have h2 := mV hr h1.1 b
 have h3 := mV hr h1.2 b
 have h4 := hr.sacksR _ (bL ht)
 exact US (A := 300) (by omega) (by omega)
abbrev SB := { b : KO // b.ya }
theorem q3 {l l' : List Ty} : bp (l ++ l') = bp l ++ bp l' := by simp [bp]
theorem qT {l l' : List Ty} : bU (l ++ l') = bU l ++ bU l' := by simp [bU]
theorem OI (b : KO) : bp (gA b) = [] := by unfold gA; rw [q3, q3, q3, El.cT, El.cT, El.cT]; rfl
theorem Lh (b : KO) : bU (gA b) = [] := by unfold gA; rw [qT, qT, qT, El.cL, El.cL, El.cL]; rfl
def fF : El SB := ⟨48, fun b => gA b.1, fun b => Q2 b.2, fun b => OI b.1, fun b => Lh b.1, fun b => by
  rw [List.all_eq_true]
  intro t ht
  unfold gA at ht
  simp only [List.mem_append] at ht
  rcases ht with h | h | h | h
  · simp only [cx, List.mem_cons, List.not_mem_nil, or_false] at h
    rcases h with rfl | rfl | rfl | rfl <;> rfl
  · exact kW _ _ t h
  · exact kW _ _ t h
  · exact kW _ _ t h⟩
def FR (f : bS) (hf : f.jQ) (k q a : Nat) : SB := ⟨ow f k q a, qY hf k q a⟩
def U0 (f : bS) (hf : f.jQ) : SB := FR f hf f.bears.length 0 0
theorem B6 {f : bS} {hf : f.jQ} {k q a : Nat} (hk : k < 4) : (fF.tys (FR f hf k q a))[0 + 44 + k * 1]? = some (Ty.int .i64 (gQ f k q)) := by
 rw [show 0 + 44 + k * 1 = 44 + k by omega]
 exact (xU (qY hf k q a) hk).trans (by rw [Hp hk])
theorem EB {f : bS} {hf : f.jQ} {k q a : Nat} (hk : k < 4) (hq : q < f.bins.length) :
 (fF.tys (FR f hf k q a)).set (0 + 44 + k * 1) (Ty.int .i64 (gQ f k q + (nth f.bins q).has * nth (nth f.bins q).shares k)) = fF.tys (FR f hf k (q + 1) a) := by
 rw [show 0 + 44 + k * 1 = 44 + k by omega]
 exact zc hf hk hq
theorem HI {f : bS} {hf : f.jQ} {k q a : Nat} (hk : k < 4) (ha : a < f.turnings.length) :
 (fF.tys (FR f hf k q a)).set (0 + 12 + a * 4 + k * 1) (Ty.int .i64 (wq f a k)) = fF.tys (FR f hf k q (a + 1)) := by
 rw [show 0 + 12 + a * 4 + k * 1 = 12 + (a * 4 + k) by omega]
 exact Bw hf hk ha
theorem RI (f : bS) (hf : f.jQ) (k : Nat) : FR f hf k f.bins.length f.turnings.length = FR f hf (k + 1) 0 0 := Subtype.ext (Mr f k)
theorem U6 {α : Type} {l : List α} (h : l.length = 8) : ∃ a b c d e f g i, l = [a, b, c, d, e, f, g, i] := by
  match l, h with
  | [a, b, c, d, e, f, g, i], _ => exact ⟨a, b, c, d, e, f, g, i, rfl⟩
theorem P3 (f : bS) (hf : f.jQ) (place : Nat → Option (Nat × Nat)) (h0 : place 0 = some (0, 4)) (h1 : place 1 = some (4, 8)) :
 sD place ((List.replicate 4 (Ty.ex (.slice none 0 0))) ++ List.replicate 44 (Ty.int .i64 0)) [(0, cx f), (1, (gp f).flatMap y6.tys)] = some (fF.tys (FR f hf 0 0 0)) := by
 have hl : ((gp f).flatMap y6.tys).length = 8 := by rw [EM, List.length_map, (lA hf).len]
 have e : fF.tys (FR f hf 0 0 0) = cx f ++ ((gp f).flatMap y6.tys ++ (List.replicate 36 (Ty.int .i64 0))) := by
  show gA (ow f 0 0 0) = _
  rw [K1]; rfl
 rw [e]
 obtain ⟨a, b, c, d, x, y, g, i, h⟩ := U6 hl
 rw [h]
 simp only [sD, h0, h1]
 rfl
end Go.Proofs.YtmmcenjknimhbaaGreat
namespace Go.T
open Go Go.RowKit
section
variable {P : Program} {fr : Fr} {ops : Array Oper} {A : As} {rest : List Oper} {K : As → List (As × Fx) → Prop} {d : Nat} {t ty' ty2 : TypeId} {p : String} {e : Array Edge} [T : lQ P]
variable {α : Type} [Inhabited α] {E : El α} {xs ys : List α} {x y : Operand} {tg i o s Tb : Nat} {ti : TI} {ty : Ty} {z : α}
theorem lf (hx : A.op fr x = .ptr tg 0) (hc : A.tag tg = some (.vec E Tb xs)) (h1 : ga tg) (hT : T.tab[ty']? = some ti) (ha : ti.k.agg = true) (hsz : xs.length * E.size = ti.size) (hne : xs ≠ [])
 (h : aV P fr ops rest (A.set d (.arr E xs)) fun A' l' => K A' ((A, { d := some d, ty := .arr E xs, rs := bq x, rt := [tg] }) :: l')) : aV P fr ops (⟨some d, .load ty' x, t, p, e, none⟩ :: rest) A K :=
 bC (bP rfl rfl fun a w M wf hr ht => by
  have _ := (inferInstance : Inhabited α)
  have := cA (x := x) (fun _ h => h) hr
  rw [hx] at this
  obtain ⟨b, hb, e⟩ := this
  rcases qA hc w M ht with h0 | ⟨b', cs, hb', hh, hd⟩
  ·exact absurd h0 hne
  obtain ⟨u, rfl⟩ : ∃ u, tg = u + 1 := ⟨tg - 1, by omega⟩
  have := wf.inj b b' u (by omega) hb hb'
  subst this
  have hlen := cI hd
  rw [c7] at hlen hd
  refine ⟨.agg (cs.toList.take (xs.length * E.size)).toArray, ?_, _, rfl, by simpa using hd⟩
  have := jw (P := P) hT ha (w := w) (b := b) (off := 0) (cs := cs.toList.take (xs.length * E.size)) (by rw [hlen, hsz]) (fun j v hj => by
   rw [List.getElem?_take] at hj
   split at hj
   ·simpa [World.cell?, hh] using hj
   cases hj)
  simp [execOp, e, this]) h
theorem OP {n j : Nat} {k : IntKind} {te : TI} {el : Nat} (hx : A.op fr x = .arr E xs) (hy : A.op fr y = .int k j) (hT : T.tab[ty']? = some ti) (hk : ti.k = .array n el) (hE : T.tab[el]? = some te) (ha : te.k.agg = false) (hs : te.size = E.size) (h1 : j < n) (hi : j < xs.length) (hl : (E.tys (nth xs j))[0]? = some ty)
 (h : aV P fr ops rest (A.set d ty) fun A' l' => K A' ((A, { d := some d, ty := ty, rs := bq x ++ bq y }) :: l')) : aV P fr ops (⟨some d, .index ty' x y, t, p, e, none⟩ :: rest) A K :=
 bC (bP rfl rfl fun a w M _ hr _ => by
  obtain ⟨hdx, hdy⟩ := op2 hr
  rw [hx] at hdx; rw [hy] at hdy
  obtain ⟨cs, ex, hd⟩ := hdx
  have ey : a.eval y = .int k j := hdy
  obtain ⟨v, hv, hdv⟩ := dQ hd (j * te.size) ty (by have := kj E xs hi 0 ty hl; rwa [Nat.add_zero, ← hs] at this)
  obtain ⟨_, D, _, hD, hkd, _⟩ := dM hT
  rw [hk] at hkd
  cases D <;> simp only [TK.of, reduceCtorEq, TK.array.injEq] at hkd
  obtain ⟨e1, e2⟩ := hkd
  subst e1; subst e2
  have hv' : cs[j * te.size]? = some v := by simpa using hv
  exact ⟨v, by simp [execOp, Instr.index, asIntOf, ex, ey, run_underlying hD, cJ hE, part, uc hE, ha, hv', h1], hdv⟩) h
omit T in
theorem TX {c : Bool} (hE : Va P ty' (xs.flatMap E.tys) (ys.flatMap E.tys) c) (hx : A.op fr x = .arr E xs) (hy : A.op fr y = .arr E ys)
 (h : aV P fr ops rest (A.set d (.bool c)) fun A' l' => K A' ((A, { d := some d, ty := .bool c, rs := bq x ++ bq y }) :: l')) : aV P fr ops (⟨some d, .binOp .eql ty' x y ty2, t, p, e, none⟩ :: rest) A K :=
 bC (bP rfl rfl fun a w M _ hrd _ => by
  have _ := (inferInstance : Inhabited α)
  obtain ⟨hdx, hdy⟩ := op2 hrd
  rw [hx] at hdx; rw [hy] at hdy
  obtain ⟨cs, ex, h1⟩ := hdx
  obtain ⟨ds, ey, h2⟩ := hdy
  exact ⟨.bool c, by simp only [execOp, ex, ey]; simp [eqGuard, hE.1, binOp, hE.2 w M cs ds h1 h2], rfl⟩) h
theorem jv {l : List Ty} (hx : A.op fr x = .ptr tg 0) (hc : A.tag tg = some (.cells Tb l)) (h1 : ga tg) (hT : T.tab[ty']? = some ti) (hy : A.op fr y = .arr E xs) (hsz : xs.length * E.size = ti.size) (hlen : l.length = ti.size)
 (h : aV P fr ops rest (A.after { d := none, S := [tg], sets := [(tg, .vec E Tb xs)], rs := bq x ++ bq y, rt := [tg] }) fun A' l'' => K A' ((A, { d := none, S := [tg], sets := [(tg, .vec E Tb xs)], rs := bq x ++ bq y, rt := [tg] }) :: l'')) :
 aV P fr ops (⟨none, .store ty' x y, t, p, e, none⟩ :: rest) A K := by
 have _ := (inferInstance : Inhabited α)
 refine ⟨_, ld rfl rfl rfl (by simp) (by simpa using h1.1) (by simp) fun a w M wf hr ht => ?_, h⟩
 obtain ⟨hdx, hdy⟩ := op2 hr
 rw [hx] at hdx; rw [hy] at hdy
 obtain ⟨b, hb, ex⟩ := hdx
 obtain ⟨vs, ey, hvs⟩ := hdy
 obtain ⟨b', cs, hb', hh, hd⟩ := ht _ (dD hc) (by simp)
 obtain ⟨u, rfl⟩ : ∃ u, tg = u + 1 := ⟨tg - 1, by omega⟩
 have := wf.inj b b' u (by omega) hb hb'
 subst this
 have hl1 := cI hd
 have hl2 := cI hvs
 rw [c7] at hl2
 obtain ⟨h1', h2', h3'⟩ := jW (cs' := vs) (Tb := Tb) wf hb _ rfl
 have hones : ∀ v ∈ vs.toList, v.oneCell' = true := sX hvs (kW E xs)
 refine ⟨_, ?_, M, h1', h2', trivial, ?_⟩
 ·have hst := jj (P := P) (w := w) (b := b) (Tb := Tb) vs.toList [] cs hh (by simp at hl1 hl2 ⊢; omega) (by simp) hones
  have hsz' : vs.size = ti.size := by simp at hl2; omega
  simp only [List.length_nil, List.nil_append] at hst
  simp [execOp, Instr.storeAt, Instr.sureAddr, ex, ey, storeVar, Value.cells, cJ hT, hsz', hst]
 intro z hz
 simp only [List.mem_singleton] at hz
 subst hz
 exact Ej ⟨b, vs, hb, h3', bY h2' (by intro _ _ h; cases h) (by rw [E.cL]; intro _ h; cases h) hvs⟩
end
section
variable {P : Program} {A : As} {fn : Func} {n : Nat} {w0 : World} {M0 : ay} [T : lQ P]
theorem Nm {α : Type} {E : El α} {xs : List α} {tm ty tg Tb : Nat} {ti : TI} (hr : fn.results = #[.cell tm ty]) (ht : Nat.blt tm n = true) (hx : A.slots tm = .ptr tg 0) (hc : A.tag tg = some (.vec E Tb xs)) (h1 : ga tg) (hT : T.tab[ty]? = some ti) (ha : ti.k.agg = true) (hsz : xs.length * E.size = ti.size) (hne : xs ≠ []) :
 cU ⟨n, w0, M0, [], .plain⟩ A (bodyPost P fn (mS w0 M0 (.arr E xs)) .ret) := by
 intro a w ⟨M, ok, hsl, htg⟩
 have hd := hsl tm (by simpa using ht)
 rw [hx] at hd
 obtain ⟨b, hb, e⟩ := hd
 have hv : dc E Tb xs w M tg := htg _ (dD hc)
 rcases hv with h0 | ⟨b', cs, hb', hh, hds⟩
 ·exact absurd h0 hne
 obtain ⟨u, rfl⟩ : ∃ u, tg = u + 1 := ⟨tg - 1, by omega⟩
 have := ok.wf.inj b b' u (by omega) hb hb'
 subst this
 have hlen := cI hds
 rw [c7] at hlen hds
 have hload := jw (P := P) hT ha (w := w) (b := b) (off := 0) (cs := cs.toList.take (xs.length * E.size)) (by rw [hlen, hsz]) (fun j v hj => by
  rw [List.getElem?_take] at hj
  split at hj
  ·simpa [World.cell?, hh] using hj
  cases hj)
 have hload' : (loadVar ty ⟨b, 0, none⟩).run P w = .ok (.agg (cs.toList.take (xs.length * E.size)).toArray) w := by simpa [Instr.loadAt, Instr.sureAddr] using hload
 refine ⟨ok.iw (by simp), .agg (cs.toList.take (xs.length * E.size)).toArray, ?_, _, sL M, rfl, wV ok.wf, rA (fr := ⟨n, w0, M0, [], .plain⟩) (fun _ h => h) ok.base, (bN rfl rfl : gU (Ty.arr E xs) (Ty.arr E xs)) _ _ _ ok.wf ⟨_, rfl, by simpa using hds⟩⟩
 have e' : a.tmps.getD tm undef = .pointer (some ⟨b, 0, none⟩) := e
 have e'' : a.tmps[tm]?.getD undef = .pointer (some ⟨b, 0, none⟩) := by rw [← Array.getD_eq_getD_getElem?]; exact e'
 simp [results, hr, e'', asAddr, hload']
end
section
variable {P : Program} {fr : Fr} {ops : Array Oper} {A : As} {rest : List Oper} {K : As → List (As × Fx) → Prop} {d : Nat} {t ty' ty2 : TypeId} {p : String} {e : Array Edge} {x y : Operand}
theorem Ek {a : Nat} {b : Int} (hx : A.op fr x = .int .i64 (a : Nat)) (hy : A.op fr y = .int .i64 b) (h0 : 0 ≤ b) (h1 : b ≤ 63) (h2 : a <<< b.toNat < 9223372036854775808)
 (h : aV P fr ops rest (A.set d (.int .i64 ((a <<< b.toNat : Nat) : Int))) fun A' l' => K A' ((A, { d := some d, ty := .int .i64 ((a <<< b.toNat : Nat) : Int), rs := bq x ++ bq y }) :: l')) : aV P fr ops (⟨some d, .binOp .shl ty' x y ty2, t, p, e, none⟩ :: rest) A K :=
 nu (b := b.toNat) hx (by rw [hy, Int.toNat_of_nonneg h0]) (by omega) h2 h
end
end Go.T
namespace Go.T
open Go Go.RowKit
structure Re (ρ : List (Nat × Nat)) (M M' : ay) : Prop where
  none : ∀ b, M b = none → M' b = none
  some : ∀ x ∈ ρ, ∀ b, M b = some x.1 → M' b = some x.2
def Conv (ρ : List (Nat × Nat)) (s t : Ty) : Prop := ∀ w M M' v, Wf w M → Wf w M' → Re ρ M M' → s.den w M v → t.den w M' v
def yA (ρ : List (Nat × Nat)) : List Ty → List Ty → Prop
  | [], [] => True
  | s :: ss, t :: ts => Conv ρ s t ∧ yA ρ ss ts
  | _, _ => False
theorem fB {ρ : List (Nat × Nat)} : yA ρ [] [] := trivial
theorem dF {ρ : List (Nat × Nat)} {s t : Ty} {ss ts : List Ty} (h' : yA ρ ss ts) (h : Conv ρ s t) : yA ρ (s :: ss) (t :: ts) := ⟨h, h'⟩
theorem ug {ρ : List (Nat × Nat)} {w : World} {M M' : ay} (wf : Wf w M) (wf' : Wf w M') (hre : Re ρ M M') : ∀ {ss ts : List Ty} {vs : List Value}, yA ρ ss ts → cD w M ss vs → cD w M' ts vs
  | [], [], [], _, _ => trivial
  | _ :: _, _ :: _, _ :: _, ⟨h, h'⟩, ⟨h1, h2⟩ => ⟨h _ _ _ _ wf wf' hre h1, ug wf wf' hre h' h2⟩
theorem cO {ρ : List (Nat × Nat)} {t : Ty} (h1 : t.deps = []) (h2 : t.cdeps = []) : Conv ρ t t := fun w M M' v _ _ hre h =>
 t.mono (S := fun _ => True) (K := fun _ => True) ⟨Nat.le_refl _, rfl, rfl, rfl, fun b _ hm => ⟨hre.none b hm, rfl⟩, fun b t _ h => absurd trivial h⟩ (by rw [h1]; intro _ h; cases h) (by rw [h2]; intro _ h; cases h) h
theorem UF {ρ : List (Nat × Nat)} {s t : Ty} (h1 : t.deps = []) (h2 : t.cdeps = []) (h : s = t) : Conv ρ s t := by subst h; exact cO h1 h2
theorem fV {ρ : List (Nat × Nat)} {a b off : Nat} (h : (a, b) ∈ ρ) : Conv ρ (.ptr a off) (.ptr b off) := fun _ _ _ _ _ _ hre ⟨k, hk, e⟩ => ⟨k, hre.some _ h k hk, e⟩
theorem DO {ρ : List (Nat × Nat)} {a b n : Nat} (h : (a, b) ∈ ρ) : Conv ρ (.vs a n) (.vs b n) := fun _ _ _ _ _ _ hre hv =>
 hv.imp id fun ⟨k, c, hk, e, h1, h2⟩ => ⟨k, c, hre.some _ h k hk, e, h1, h2⟩
theorem P0 {ρ : List (Nat × Nat)} {l l' : List Ty} (h : yA ρ l l') : Conv ρ (.agg l) (.agg l') := fun _ _ _ _ wf wf' hre ⟨cs, e, hd⟩ => ⟨cs, e, ug wf wf' hre h hd⟩
def yG (ρ : List (Nat × Nat)) (a : Nat) (C : Cont) (b : Nat) (D : Cont) : Prop := ∀ w M M', Wf w M → Wf w M' → Re ρ M M' → C.den w M a → D.den w M' b
theorem oH {w : World} {M M' : ay} (hre : ∀ b, M b = none → M' b = none) {l : List Ty} {vs : List Value} (h1 : bp l = []) (h2 : bU l = []) (h : cD w M l vs) : cD w M' l vs :=
 bY (S := fun _ => True) (K := fun _ => True) ⟨Nat.le_refl _, rfl, rfl, rfl, fun b _ hm => ⟨hre b hm, rfl⟩, fun b t _ h => absurd trivial h⟩ (by rw [h1]; intro _ h; cases h) (by rw [h2]; intro _ h; cases h) h
theorem wo {ρ : List (Nat × Nat)} {a b T : Nat} {α : Type} {E : El α} {xs ys : List α} (h : (a, b) ∈ ρ) (e : xs = ys) : yG ρ a (.vec E T xs) b (.vec E T ys) := fun _ _ _ _ _ hre hd => by
 subst e
 exact hd.imp id fun ⟨k, cs, h1, h2, h3⟩ => ⟨k, cs, hre.some _ h k h1, h2, oH hre.none (E.cT _) (E.cL _) h3⟩
theorem bB {ρ : List (Nat × Nat)} {a b T : Nat} {l l' : List Ty} (h : (a, b) ∈ ρ) (h1 : bp l' = []) (h2 : bU l' = []) (e : l = l') : yG ρ a (.cells T l) b (.cells T l') := fun _ _ _ _ _ hre ⟨k, cs, h3, h4, h5⟩ => by
 subst e
 exact ⟨k, cs, hre.some _ h k h3, h4, oH hre.none h1 h2 h5⟩
def bW (F : List Nat) (post : List (Nat × Cont)) (w0 : World) (M0 : ay) (res : Ty) (e : Ending) (w' : World) : Prop :=
  ∃ r M', e = .returned r ∧ Wf w' M' ∧ Le (fun t => 1 ≤ t) (fun t => 1 ≤ t ∧ t ∉ F) w0 M0 w' M' ∧ res.den w' M' r ∧ ∀ x ∈ post, x.2.den w' M' x.1
def eB (P : Program) (f : FuncId) (F : List Nat) (pre : List (Nat × Cont)) (args : List Ty) (post : List (Nat × Cont)) (res : Ty) : Prop :=
  (∃ fn, P.funcs[f]? = some fn ∧ (fn.name == "runtime.NumGoroutine") = false ∧ fn.body.isNone = false) ∧
  ∀ w M vs, Wf w M → cD w M args vs → (∀ x ∈ pre, x.2.den w M x.1) → Calls P f vs.toArray w (bW F post w M res)
section
variable {P : Program} {fr : Fr} {ops : Array Oper} {A : As} {rest : List Oper} {K : As → List (As × Fx) → Prop} {d : Nat} {t ty' : TypeId} {p : String} {e : Array Edge}
def ED (args : List Ty) (pre : List (Nat × Cont)) : As := ⟨fun c => (args[c]?).getD Ty.any, pre⟩
theorem jE {f : FuncId} {fn : Func} {c : Code} {F : List Nat} {pre post : List (Nat × Cont)} {args : List Ty} {res : Ty} {n : Nat} (hf : P.funcs[f]? = some fn) (hb : fn.body = some c) (hn : (fn.name == "runtime.NumGoroutine") = false) (hnt : fn.ntmps = n) (hl : args.length ≤ n)
    (h : ∀ w0 M0, eZ P ⟨n, w0, M0, F, .plain⟩ c (ED args pre) (bodyPost P fn (bW F post w0 M0 res))) : eB P f F pre args post res := by
  refine ⟨⟨fn, hf, hn, by rw [hb]; rfl⟩, fun w M vs wf hd hpre => calls_of_wp hf hb (wpIn_wide.1 (h w M _ _ ?_))⟩
  have hlen := cI hd
  refine ⟨M, ⟨wf, Le.refl _ _ _ _, by simp [hnt, hlen]; omega, Defs.nil⟩, fun c hc => ?_, hpre⟩
  simp only [ED]
  cases ha : args[c]? with
  | none => trivial
  | some ty =>
    obtain ⟨v, hv, hdv⟩ := dQ hd c ty ha
    have : (vs.toArray ++ Array.replicate (fn.ntmps - vs.toArray.size) undef).getD c undef = v := by
      have hlt : c < vs.length := (List.getElem?_eq_some_iff.1 hv).1
      rw [Array.getD_eq_getD_getElem?, Array.getElem?_append_left (by simpa using hlt)]
      simp [hv]
    rw [this]; exact hdv
def uD (L : List Nat) (M : ay) : ay := fun b => match M b with | none => none | some t => if t = 0 ∨ t ∈ L then some t else none
theorem xg {L : List Nat} {M : ay} {b : Nat} (h : M b = none) : uD L M b = none := by simp [uD, h]
theorem Jy {L : List Nat} {M : ay} {b t : Nat} (h : M b = some t) (ht : t = 0 ∨ t ∈ L) : uD L M b = some t := by simp [uD, h, ht]
theorem Ny {L : List Nat} {M : ay} {b t : Nat} (h : M b = some t) (h0 : 1 ≤ t) (ht : t ∉ L) : uD L M b = none := by
 have : ¬ (t = 0 ∨ t ∈ L) := fun h => h.elim (by omega) ht
 simp [uD, h, this]
theorem wz {L : List Nat} {M : ay} {b t : Nat} (h : uD L M b = some t) : M b = some t := by
 unfold uD at h
 split at h
 ·cases h
 rename_i u hu
 split at h
 ·rw [← h]; exact hu
 cases h
theorem zI {L : List Nat} {w : World} {M : ay} (wf : Wf w M) : Wf w (uD L M) :=
 ⟨fun b t h => wf.lt b t (wz h), fun b b' t ht1 h h' => wf.inj b b' t ht1 (wz h) (wz h')⟩
def Rb (L : List Nat) : List (Nat × Nat) := L.map fun x => (x, x)
theorem Kq {L : List Nat} {M : ay} : Re (Rb L) M (uD L M) :=
 ⟨fun b h => xg h, fun x hx b h => by
  obtain ⟨y, hy, rfl⟩ := List.mem_map.1 hx
  exact Jy h (.inr hy)⟩
def Q1 (L : List Nat) (s t : Ty) : Prop := ∀ w M v, Wf w M → s.den w M v → t.den w (uD L M) v
theorem vG {L : List Nat} {s t : Ty} (h : Conv (Rb L) s t) : Q1 L s t := fun w M v wf hs => h w M _ v wf (zI wf) Kq hs
theorem EY {L : List Nat} {α : Type} {E : El α} {T tg : Nat} {xs ys : List α} (h : 1 ≤ tg) (hL : L.contains tg = false) (e : xs = ys) : Q1 L (Ty.row E T tg xs) (Ty.sl E ys) := fun w M v wf hr => by
 subst e
 exact AU wf hr (fun b hb => Ny hb h (by simpa using hL)) (fun b hb => xg hb)
def Bb (A : As) (L : List Nat) : List (Nat × Cont) → Prop
  | [] => True
  | (b, D) :: r => (∃ C, A.tag b = some C ∧ yG (Rb L) b C b D) ∧ Bb A L r
theorem og {L : List Nat} : Bb A L [] := trivial
theorem kF {L : List Nat} {b : Nat} {C D : Cont} {r : List (Nat × Cont)} (h : A.tag b = some C) (hc : yG (Rb L) b C b D) (h' : Bb A L r) : Bb A L ((b, D) :: r) := ⟨⟨C, h, hc⟩, h'⟩
theorem Iz {L : List Nat} {w : World} {M : ay} (wf : Wf w M) (ht : ∀ x ∈ A.tags, x.2.den w M x.1) : ∀ {r : List (Nat × Cont)}, Bb A L r → ∀ x ∈ r, x.2.den w (uD L M) x.1
  | (b, D) :: r, ⟨⟨C, h, hc⟩, h'⟩, x, hx => by
    rcases List.mem_cons.1 hx with rfl | hx
    · exact hc w M _ wf (zI wf) Kq (ht _ (dD h))
    · exact Iz wf ht h' x hx
theorem Cj {L : List Nat} {fr : Fr} {w : World} {M : ay} (hL : ∀ t ∈ fr.pass, t ∈ L) (hb : fr.base w M) : Le fr.kd.Oj (fun t => 1 ≤ t ∧ t ∉ fr.pass) fr.w0 fr.M0 w (uD L M) :=
 ⟨hb.size, hb.os, hb.tape, hb.out, fun b hlt hm => ⟨xg (hb.qy b hlt hm).1, (hb.qy b hlt hm).2⟩, fun b t hm ht => by
  obtain ⟨h1, h2⟩ := hb.own b t hm ht
  refine ⟨Jy h1 ?_, fun hs => h2 hs⟩
  by_cases h0 : t = 0
  ·exact .inl h0
  refine .inr (hL t ?_)
  by_cases h : t ∈ fr.pass
  ·exact h
  exact absurd ⟨by omega, h⟩ ht⟩
section
variable {fn : Func} {n : Nat} {w0 : World} {M0 : ay} {F : List Nat} {post : List (Nat × Cont)}
theorem qG (L : List Nat) {tm : Nat} {res : Ty} (hr : fn.results = #[.tmp tm]) (htm : Nat.blt tm n = true) (hL : ∀ t ∈ F, t ∈ L) (hp : Bb A L post) (hs : Q1 L (A.slots tm) res) : cU ⟨n, w0, M0, F, .plain⟩ A (bodyPost P fn (bW F post w0 M0 res) .ret) := by
 intro a w ⟨M, ok, hsl, ht⟩
 exact ⟨ok.iw (by simp), _, results_tmp hr _ _ _, _, uD L M, rfl, zI ok.wf, Cj hL ok.base, hs _ _ _ ok.wf (hsl tm (by simpa using htm)), Iz ok.wf ht hp⟩
end
theorem CN {f : FuncId} {F : List Nat} {pre post : List (Nat × Cont)} {args : List Ty} {res : Ty} (hF : eB P f F pre args post res) (vs : Array Value) (w : World) : (callFunc f vs).run P w = .ok (.enter f vs) w := by
 obtain ⟨⟨fn, hf, hn, hb⟩, _⟩ := hF
 have hn' : fn.name ≠ "runtime.NumGoroutine" := by simpa using hn
 have hb' : fn.body ≠ none := fun h => by rw [h] at hb; cases hb
 simp [callFunc, hf, hn', hb']
def rX (ρ : List (Nat × Nat)) (M : ay) : ay := fun b => match M b with | none => none | some t => some ((ρ.lookup t).getD 0)
def wJ (ρ : List (Nat × Nat)) : Bool := ρ.all fun x => Nat.ble 1 x.1 && (Nat.ble 1 x.2 && (Nat.blt x.1 4096 == Nat.blt x.2 4096 && ρ.all fun y => (x.1 == y.1) == (x.2 == y.2)))
theorem k5 {ρ : List (Nat × Nat)} (h : wJ ρ = true) : ∀ x ∈ ρ, 1 ≤ x.1 ∧ 1 ≤ x.2 ∧ ∀ y ∈ ρ, (x.1 = y.1 ↔ x.2 = y.2) := by
 intro x hx
 simp only [wJ, List.all_eq_true, Bool.and_eq_true, Nat.ble_eq, beq_iff_eq] at h
 obtain ⟨h1, h2, _, h3⟩ := h x hx
 refine ⟨h1, h2, fun y hy => ?_⟩
 have := h3 y hy
 rw [Bool.eq_iff_iff] at this
 simpa using this
theorem AW {ρ : List (Nat × Nat)} (h : wJ ρ = true) {a b : Nat} (hm : (a, b) ∈ ρ) : a < 4096 ↔ b < 4096 := by
 simp only [wJ, List.all_eq_true, Bool.and_eq_true, beq_iff_eq] at h
 have := (h _ hm).2.2.1
 rw [Bool.eq_iff_iff] at this
 simpa using this
theorem ju {ρ : List (Nat × Nat)} {a b : Nat} (h : ρ.lookup a = some b) : (a, b) ∈ ρ := by
  induction ρ with
  | nil => cases h
  | cons x l ih =>
    obtain ⟨k, v⟩ := x
    rw [List.lookup_cons] at h
    by_cases e : a = k
    · subst e; simp at h; subst h; exact List.mem_cons_self
    · have : (a == k) = false := by simpa using e
      rw [this] at h; exact List.mem_cons_of_mem _ (ih h)
theorem rN {ρ : List (Nat × Nat)} (h : wJ ρ = true) {a b : Nat} (hm : (a, b) ∈ ρ) : ρ.lookup a = some b := by
  cases hl : ρ.lookup a with
  | none =>
    exfalso
    induction ρ with
    | nil => cases hm
    | cons x l ih =>
      obtain ⟨k, v⟩ := x
      rw [List.lookup_cons] at hl
      by_cases e : a = k
      · subst e; simp at hl
      · have e' : (a == k) = false := by simpa using e
        rw [e'] at hl
        rcases List.mem_cons.1 hm with hm | hm
        · exact e (congrArg Prod.fst hm)
        · refine ih ?_ hm hl
          simp only [wJ, List.all_eq_true, List.mem_cons, forall_eq_or_imp, Bool.and_eq_true] at h ⊢
          exact fun x hx => ⟨(h.2 x hx).1, (h.2 x hx).2.1, (h.2 x hx).2.2.1, (h.2 x hx).2.2.2.2⟩
  | some c =>
    have := ((k5 h _ hm).2.2 _ (ju hl)).1 rfl
    exact congrArg some this.symm
theorem BS {ρ : List (Nat × Nat)} {M : ay} {b g : Nat} (h : rX ρ M b = some g) (h1 : 1 ≤ g) : ∃ t, M b = some t ∧ (t, g) ∈ ρ := by
  unfold rX at h
  split at h
  · cases h
  · rename_i t ht
    cases hl : ρ.lookup t with
    | none => rw [hl] at h; injection h with h; simp at h; omega
    | some c => rw [hl] at h; injection h with h; simp at h; subst h; exact ⟨t, ht, ju hl⟩
theorem qg {ρ : List (Nat × Nat)} {M : ay} {b : Nat} (h : M b = none) : rX ρ M b = none := by simp [rX, h]
theorem Gw {ρ : List (Nat × Nat)} (hr : wJ ρ = true) {M : ay} {b t g : Nat} (h : M b = some t) (hm : (t, g) ∈ ρ) : rX ρ M b = some g := by simp [rX, h, rN hr hm]
theorem Db {ρ : List (Nat × Nat)} {M : ay} {b t : Nat} (h : M b = some t) (hm : ρ.lookup t = none) : rX ρ M b = some 0 := by simp [rX, h, hm]
theorem Py {ρ : List (Nat × Nat)} (hr : wJ ρ = true) {w : World} {M : ay} (wf : Wf w M) : Wf w (rX ρ M) := by
  refine ⟨fun b t h => ?_, fun b b' t ht1 h h' => ?_⟩
  · cases hm : M b with
    | none => rw [qg hm] at h; cases h
    | some u => exact wf.lt b u hm
  · obtain ⟨u, hu, m⟩ := BS h (by omega)
    obtain ⟨u', hu', m'⟩ := BS h' (by omega)
    have e : u = u' := ((k5 hr _ m).2.2 _ m').2 rfl
    subst e
    obtain ⟨v, rfl⟩ : ∃ v, u = v + 1 := ⟨u - 1, by have := (k5 hr _ m).1; omega⟩
    exact wf.inj b b' v (by have := AW hr m; omega) hu hu'
theorem F5 {ρ : List (Nat × Nat)} (hr : wJ ρ = true) {M : ay} : Re ρ M (rX ρ M) := ⟨fun _ h => qg h, fun _ hx _ h => Gw hr h hx⟩
def nZ (ρ : List (Nat × Nat)) : List (Nat × Nat) := ρ.map fun x => (x.2, x.1)
theorem Qg {ρ : List (Nat × Nat)} (h : wJ ρ = true) : wJ (nZ ρ) = true := by
 simp only [wJ, nZ, List.all_eq_true, Bool.and_eq_true, List.mem_map] at h ⊢
 rintro _ ⟨x, hx, rfl⟩
 obtain ⟨h1, h2, h4, h3⟩ := h x hx
 refine ⟨h2, h1, by simpa using (beq_iff_eq.1 h4).symm, ?_⟩
 rintro _ ⟨y, hy, rfl⟩
 have := h3 y hy
 simp only [beq_iff_eq] at this ⊢
 exact this.symm
def rU (w : World) (ρ : List (Nat × Nat)) (mv : List Nat) (M M' : ay) : ay := fun b =>
  if b < w.heap.size ∧ (∀ t, M b = some t → t ∉ mv) then M b else (M' b).bind fun g => (nZ ρ).lookup g
theorem Ic {ρ : List (Nat × Nat)} {mv F : List Nat} {w w' : World} {M M' : ay} (hr : wJ ρ = true) (hmv : ∀ x ∈ ρ, x.1 ∈ mv ∨ x.2 ∈ F) (hmr : ∀ t ∈ mv, ∃ g, (t, g) ∈ ρ) (wf : Wf w M) (wf' : Wf w' M') (le : Le (fun t => 1 ≤ t) (fun t => 1 ≤ t ∧ t ∉ F) w (rX ρ M) w' M') :
    Wf w' (rU w ρ mv M M') ∧ Le (· ∈ ρ.map Prod.fst) (· ∈ mv) w M w' (rU w ρ mv M M') ∧ Re (nZ ρ) M' (rU w ρ mv M M') := by
  have hsw := Qg hr
  have memsw : ∀ {t g : Nat}, (t, g) ∈ ρ → (g, t) ∈ nZ ρ := fun h => List.mem_map.2 ⟨_, h, rfl⟩
  have memsw' : ∀ {t g : Nat}, (g, t) ∈ nZ ρ → (t, g) ∈ ρ := fun h => by
    obtain ⟨⟨a, b⟩, hx, he⟩ := List.mem_map.1 h
    injection he with h1 h2
    subst h1; subst h2; exact hx
  -- an old block whose tag stays
  have old : ∀ b t, M b = some t → t ∉ mv → M' b = some ((ρ.lookup t).getD 0) := fun b t hm hn => by
    cases hl : ρ.lookup t with
    | none => exact (le.own b 0 (Db hm hl) (by omega)).1
    | some g =>
      have hx := ju hl
      have hg : g ∈ F := (hmv _ hx).resolve_left hn
      exact (le.own b g (Gw hr hm hx) (fun h => h.2 hg)).1
  have key : ∀ b, M' b = none → rU w ρ mv M M' b = none := fun b h => by
    unfold rU
    split
    · rename_i hc
      cases hm : M b with
      | none => rfl
      | some t => rw [old b t hm (hc.2 t hm)] at h; cases h
    · rw [h]; rfl
  have key2 : ∀ t g, (t, g) ∈ ρ → ∀ b, M' b = some g → rU w ρ mv M M' b = some t := fun t g hx b h => by
    have h1 := (k5 hr _ hx)
    unfold rU
    split
    · rename_i hc
      cases hm : M b with
      | none =>
        have := (le.qy b hc.1 (qg hm)).1
        rw [this] at h; cases h
      | some u =>
        have h2 := old b u hm (hc.2 u hm)
        rw [h2] at h
        injection h with h
        cases hl : ρ.lookup u with
        | none => rw [hl] at h; simp at h; omega
        | some c =>
          rw [hl] at h; simp at h; subst h
          have := (h1.2.2 _ (ju hl)).2 rfl
          exact congrArg some this.symm
    · rw [h]; exact rN hsw (memsw hx)
  refine ⟨⟨fun b t h => ?_, fun b b' t ht1 h h' => ?_⟩, ⟨le.size, le.os, le.tape, le.out, fun b hb hm => ?_, fun b t hm hk => ?_⟩, ⟨key, fun x hx b h => key2 _ _ (memsw' hx) b h⟩⟩
  · unfold rU at h
    split at h
    · rename_i hc; exact Nat.lt_of_lt_of_le hc.1 le.size
    · obtain ⟨g, hg, _⟩ := Option.bind_eq_some_iff.1 h
      exact wf'.lt b g hg
  · -- injective
    have part : ∀ b, rU w ρ mv M M' b = some (t + 1) → (M b = some (t + 1) ∧ t + 1 ∉ mv) ∨ ∃ g, (t + 1, g) ∈ ρ ∧ M' b = some g ∧ 1 ≤ g := fun b h => by
      unfold rU at h
      split at h
      · rename_i hc; exact .inl ⟨h, hc.2 _ h⟩
      · obtain ⟨g, hg, hl⟩ := Option.bind_eq_some_iff.1 h
        have hx := memsw' (ju hl)
        exact .inr ⟨g, hx, hg, (k5 hr _ hx).2.1⟩
    have both : ∀ b b' g, (t + 1, g) ∈ ρ → M' b = some g → 1 ≤ g → (M b' = some (t + 1) ∧ t + 1 ∉ mv) → b = b' := fun b b' g hx hg h1 ⟨hm, hn⟩ => by
      have h2 := old b' _ hm hn
      rw [rN hr hx] at h2
      simp at h2
      obtain ⟨v, rfl⟩ : ∃ v, g = v + 1 := ⟨g - 1, by omega⟩
      exact wf'.inj b b' v (by have := AW hr hx; omega) hg h2
    rcases part b h with h1 | ⟨g, hx, hg, h1⟩ <;> rcases part b' h' with h2 | ⟨g', hx', hg', h2⟩
    · exact wf.inj b b' t ht1 h1.1 h2.1
    · exact (both b' b g' hx' hg' h2 h1).symm
    · exact both b b' g hx hg h1 h2
    · have : g = g' := ((k5 hr _ hx).2.2 _ hx').1 rfl
      subst this
      obtain ⟨v, rfl⟩ : ∃ v, g = v + 1 := ⟨g - 1, by omega⟩
      exact wf'.inj b b' v (by have := AW hr hx; omega) hg hg'
  · obtain ⟨h1, h2⟩ := le.qy b hb (qg hm)
    exact ⟨key b h1, h2⟩
  · have hb := wf.lt b t hm
    refine ⟨?_, fun hs => ?_⟩
    · unfold rU
      rw [if_pos ⟨hb, fun u hu => by rw [hm] at hu; injection hu with hu; exact hu ▸ hk⟩]; exact hm
    · have hl : ρ.lookup t = none := by
        cases hl : ρ.lookup t with
        | none => rfl
        | some c => exact absurd (List.mem_map.2 ⟨_, ju hl, rfl⟩) hs
      exact (le.own b 0 (Db hm hl) (by omega)).2 (by omega)
def VR (fr : Fr) (ρ : List (Nat × Nat)) (mv F : List Nat) : Bool :=
  wJ ρ && (ρ.all (fun x => mv.contains x.1 || F.contains x.2) && mv.all fun t => Nat.ble 1 t && (!fr.pass.contains t && ρ.any fun x => x.1 == t))
def VL (d : Option Nat) (res : Ty) (ρ : List (Nat × Nat)) (mv : List Nat) (sets : List (Nat × Cont)) (rs : List Nat) : Fx := { d := d, ty := res, S := ρ.map Prod.fst, K := mv, sets := sets, rs := rs, rt := ρ.map Prod.fst }
def Ab (A : As) (ρ : List (Nat × Nat)) : List (Nat × Cont) → Prop
  | [] => True
  | (b, D) :: r => (∃ a C, (a, b) ∈ ρ ∧ A.tag a = some C ∧ yG ρ a C b D) ∧ Ab A ρ r
theorem pre_nil {ρ : List (Nat × Nat)} : Ab A ρ [] := trivial
theorem dm {ρ : List (Nat × Nat)} {a b : Nat} {C D : Cont} {r : List (Nat × Cont)} (hm : (a, b) ∈ ρ) (h : A.tag a = some C) (hc : yG ρ a C b D) (h' : Ab A ρ r) : Ab A ρ ((b, D) :: r) := ⟨⟨a, C, hm, h, hc⟩, h'⟩
theorem KY {ρ : List (Nat × Nat)} {w : World} {M M' : ay} (wf : Wf w M) (wf' : Wf w M') (hre : Re ρ M M') (ht : ∀ x ∈ A.tags, x.1 ∈ ρ.map Prod.fst → x.2.den w M x.1) : ∀ {r : List (Nat × Cont)}, Ab A ρ r → ∀ x ∈ r, x.2.den w M' x.1
  | (b, D) :: r, ⟨⟨a, C, hm, h, hc⟩, h'⟩, x, hx => by
    rcases List.mem_cons.1 hx with rfl | hx
    · exact hc w M M' wf wf' hre (ht _ (dD h) (List.mem_map.2 ⟨_, hm, rfl⟩))
    · exact KY wf wf' hre ht h' x hx
def sA (post : List (Nat × Cont)) (ρ : List (Nat × Nat)) : List (Nat × Cont) → Prop
  | [] => True
  | (a, D) :: r => (∃ b C, (a, b) ∈ ρ ∧ post.lookup b = some C ∧ yG (nZ ρ) b C a D) ∧ sA post ρ r
theorem post_nil {ρ : List (Nat × Nat)} {post : List (Nat × Cont)} : sA post ρ [] := trivial
theorem cj {ρ : List (Nat × Nat)} {a b : Nat} {C D : Cont} {post r : List (Nat × Cont)} (hm : (a, b) ∈ ρ) (h : post.lookup b = some C) (hc : yG (nZ ρ) b C a D) (h' : sA post ρ r) : sA post ρ ((a, D) :: r) := ⟨⟨b, C, hm, h, hc⟩, h'⟩
theorem GI {ρ : List (Nat × Nat)} {post : List (Nat × Cont)} {w : World} {M M' : ay} (wf : Wf w M) (wf' : Wf w M') (hre : Re (nZ ρ) M M') (ht : ∀ x ∈ post, x.2.den w M x.1) : ∀ {r : List (Nat × Cont)}, sA post ρ r → ∀ x ∈ r, x.1 ∈ ρ.map Prod.fst ∧ x.2.den w M' x.1
  | (a, D) :: r, ⟨⟨b, C, hm, h, hc⟩, h'⟩, x, hx => by
    rcases List.mem_cons.1 hx with rfl | hx
    · exact ⟨List.mem_map.2 ⟨_, hm, rfl⟩, hc w M M' wf wf' hre (ht _ (dD (A := ⟨fun _ => Ty.any, post⟩) h))⟩
    · exact GI wf wf' hre ht h' x hx
theorem Dw {ρ : List (Nat × Nat)} {post : List (Nat × Cont)} : ∀ {r : List (Nat × Cont)}, sA post ρ r → ∀ x ∈ r, x.1 ∈ ρ.map Prod.fst
  | (a, D) :: r, ⟨⟨b, C, hm, h, hc⟩, h'⟩, x, hx => by
    rcases List.mem_cons.1 hx with rfl | hx
    · exact List.mem_map.2 ⟨_, hm, rfl⟩
    · exact Dw h' x hx
theorem Lo (ρ : List (Nat × Nat)) (mv : List Nat) {f : FuncId} {F : List Nat} {pre post sets : List (Nat × Cont)} {args ss : List Ty} {res res' : Ty} (hF : eB P f F pre args post res) {dst : Option Nat} {call : Call} {rs : List Nat}
 (hrun : ∀ (a : Act) w M, Wf w M → (∀ c ∈ rs, c < fr.n → (A.slots c).den w M (a.tmps.getD c undef)) → ∃ vs : List Value, (execOp a.eval ⟨dst, .call call, t, p, e, none⟩).run P w = .ok (.enter f vs.toArray) w ∧ cD w M ss vs)
 (hok : VR fr ρ mv F = true) (ha : yA ρ ss args) (hpre : Ab A ρ pre) (hpost : sA post ρ sets) (hres : Conv (nZ ρ) res res') :
 CM P fr ops ⟨dst, .call call, t, p, e, none⟩ A (VL dst res' ρ mv sets rs) := by
 simp only [VR, Bool.and_eq_true] at hok
 obtain ⟨hr, hmv, hmr⟩ := hok
 simp only [List.all_eq_true, Bool.or_eq_true, List.contains_iff_mem] at hmv
 simp only [List.all_eq_true, Bool.and_eq_true, Nat.ble_eq, List.any_eq_true, beq_iff_eq, Bool.not_eq_true', ← Bool.not_eq_true, List.contains_iff_mem] at hmr
 refine ⟨rfl, fun x hx => .inl (Dw hpost x hx), fun u hu => ?_, fun u hu => ⟨(hmr u hu).1, (hmr u hu).2.1⟩, fun a w M wf _ hrd htg => ?_⟩
 ·obtain ⟨x, hx, rfl⟩ := List.mem_map.1 hu
  exact (k5 hr x hx).1
 rw [if_pos (by simp [Region.wanted])]
 obtain ⟨vs, hrun, hd⟩ := hrun a w M wf hrd
 have wfg := Py hr wf
 have hc := hF.2 w _ vs wfg (ug wf wfg (F5 hr) ha hd) (KY wf wfg (F5 hr) htg hpre)
 refine hH hrun ?_
 refine hc.mono fun en w' ⟨r, M', he, wf', le, hden, hp⟩ => ?_
 obtain ⟨h1, h2, h3⟩ := Ic (mv := mv) hr hmv (fun u hu => by obtain ⟨x, hx, e⟩ := (hmr u hu).2.2; exact ⟨x.2, by rw [← e]; exact hx⟩) wf wf' le
 exact ⟨r, he, r, rfl, _, h1, h2, hres _ _ _ _ wf' h1 h3 hden, fun x hx => (GI wf' h1 h3 hp hpost x hx).2⟩
theorem CL {f : FuncId} {F : List Nat} {pre post : List (Nat × Cont)} {args : List Ty} {res : Ty} (hF : eB P f F pre args post res) {dst : Option Nat} {xs : List Operand} {ats : Array TypeId} {ss : List Ty} (hx : oS A fr xs = ss) (a : Act) (w : World) (M : ay) (_ : Wf w M)
 (hrd : ∀ c ∈ xs.flatMap bq, c < fr.n → (A.slots c).den w M (a.tmps.getD c undef)) : ∃ vs : List Value, (execOp a.eval ⟨dst, .call ⟨.value (.func f), xs.toArray, ats⟩, t, p, e, none⟩).run P w = .ok (.enter f vs.toArray) w ∧ cD w M ss vs := by
 refine ⟨xs.map a.eval, ?_, hx ▸ fk hrd fun x hx c hc => List.mem_flatMap.2 ⟨x, hx, hc⟩⟩
 simp [execOp, resolve, Act.eval, Deferred.ofValue, invoke, CN hF]
theorem eI (ρ : List (Nat × Nat)) (mv : List Nat) (sets : List (Nat × Cont)) {f : FuncId} {F : List Nat} {pre post : List (Nat × Cont)} {args ss : List Ty} {res res' : Ty} (hF : eB P f F pre args post res) {dst : Option Nat} {xs : List Operand} {ats : Array TypeId}
 (hx : oS A fr xs = ss) (hok : VR fr ρ mv F = true) (ha : yA ρ ss args) (hpre : Ab A ρ pre) (hpost : sA post ρ sets) (hres : Conv (nZ ρ) res res')
 (h : aV P fr ops rest (A.after (VL dst res' ρ mv sets (xs.flatMap bq))) fun A' l => K A' ((A, VL dst res' ρ mv sets (xs.flatMap bq)) :: l)) : aV P fr ops (⟨dst, .call ⟨.value (.func f), xs.toArray, ats⟩, t, p, e, none⟩ :: rest) A K :=
 ⟨_, Lo ρ mv hF (CL hF hx) hok ha hpre hpost hres, h⟩
end
end Go.T
namespace Go.T
open Go Go.RowKit
def bf {κ β : Type} [DecidableEq κ] : List (κ × β) → κ → Option β
  | [], _ => none
  | x :: l, k => if x.1 = k then some x.2 else bf l k
def cq {κ β : Type} [DecidableEq κ] : List (κ × β) → κ → β → List (κ × β)
  | [], k, v => [(k, v)]
  | x :: l, k, v => if x.1 = k then (k, v) :: l else x :: cq l k v
theorem nI {κ β : Type} [DecidableEq κ] (l : List (κ × β)) (k : κ) (v : β) (k' : κ) : bf (cq l k v) k' = if k = k' then some v else bf l k' := by
  induction l with
  | nil => simp [cq, bf]
  | cons x l ih =>
    simp only [cq]
    by_cases h : x.1 = k
    · subst h; simp only [if_true, bf]; by_cases h2 : x.1 = k' <;> simp [h2]
    · rw [if_neg h]; simp only [bf, ih]
      by_cases h2 : x.1 = k'
      · subst h2; rw [if_pos rfl, if_pos rfl, if_neg (fun e => h e.symm)]
      · rw [if_neg h2, if_neg h2]
structure MN (P : Program) (kt : TypeId) (κ : Type) [DecidableEq κ] where
  enc : κ → Value
  find : ∀ (k : κ) (ks : List κ) (es : List MapEntry) (w : World), es.map (·.key) = ks.map enc →
    (Instr.findKey kt (enc k) es).run P w = .ok ((ks.findIdx? (fun x => decide (x = k))).bind fun i => (es[i]?).map fun e => (i, e.val)) w
  check : ∀ (b : Bool) (k : κ) (w : World), (Instr.checkKey b 10000 kt (enc k)).run P w = .ok () w
  same : ∀ k, Instr.sameBits 10000 (enc k) (enc k) = true
theorem yQ (kt : IntKind) (k : Int) : ∀ (ks : List Int) (es : List MapEntry) (i : Nat), es.map (·.key) = ks.map (Value.int kt) →
    Instr.findNow (.int kt) (.int kt k) es i = some ((ks.findIdx? (fun x => decide (x = k))).bind fun j => (es[j]?).map fun e => (i + j, e.val))
  | [], [], i, _ => rfl
  | [], e :: es, i, h => by cases h
  | x :: ks, [], i, h => by cases h
  | x :: ks, e :: es, i, h => by
    simp only [List.map_cons, List.cons.injEq] at h
    obtain ⟨h1, h2⟩ := h
    rw [Instr.findNow, h1]
    simp only [Instr.sameNow, if_true]
    by_cases hx : x = k
    · subst hx; simp [List.findIdx?_cons]
    · have hb : (k == x) = false := by rw [beq_eq_false_iff_ne]; exact fun e => hx e.symm
      rw [hb, yQ kt k ks es (i + 1) h2]
      simp only [List.findIdx?_cons, decide_eq_false hx, Bool.false_eq_true, if_false]
      cases (ks.findIdx? fun x => decide (x = k)) with
      | none => rfl
      | some j => simp [Nat.add_assoc, Nat.add_comm]; rw [show j + (i + 1) = i + (j + 1) from by omega]
theorem LO {P : Program} (kt : TypeId) (q : IntKind) (h : P.underlying kt = some (.int q)) (b : Bool) (k : Int) (n : Nat) (w : World) : (Instr.checkKey b (n + 1) kt (.int q k)).run P w = .ok () w := by simp [Instr.checkKey, underlying, h]
theorem NQ (q : IntKind) (k : Int) (n : Nat) : Instr.sameBits n (.int q k) (.int q k) = true := by cases n <;> simp [Instr.sameBits]
def jV (P : Program) (kt : TypeId) (q : IntKind) (h : P.underlying kt = some (.int q)) : MN P kt Int where
  enc := Value.int q
  find k ks es w he := by
    have := yQ q k ks es 0 he
    simp [Instr.findKey, underlying, h, this]
  check b k w := LO kt q h b k 9999 w
  same k := NQ q k 10000
section
variable {κ β : Type} [DecidableEq κ]
def CQ (enc : κ → Value) (vt : β → Ty) (kvs : List (κ × β)) (w : World) (M : ay) (b : Nat) : Prop :=
  ∃ es clock, w.heap[b]? = some (.map es clock) ∧ es.toList.map (·.key) = kvs.map (fun x => enc x.1) ∧ cD w M (kvs.map fun x => vt x.2) (es.toList.map (·.val))
theorem ux {enc : κ → Value} {vt : β → Ty} (hv : ∀ v, (vt v).deps = [] ∧ (vt v).cdeps = []) {kvs : List (κ × β)} {S K : Nat → Prop} {w w' : World} {M M' : ay} {b : Nat} (le : Le S K w M w' M') (hb : w'.heap[b]? = w.heap[b]?) (h : CQ enc vt kvs w M b) : CQ enc vt kvs w' M' b := by
 have _ := (inferInstance : DecidableEq κ)
 obtain ⟨es, clock, h1, h2, h3⟩ := h
 refine ⟨es, clock, hb.trans h1, h2, bY le (fun u hu => ?_) (fun u hu => ?_) h3⟩
 ·simp only [bp, List.mem_flatMap, List.mem_map] at hu
  obtain ⟨t, ⟨x, _, rfl⟩, hu⟩ := hu
  rw [(hv x.2).1] at hu; cases hu
 simp only [bU, List.mem_flatMap, List.mem_map] at hu
 obtain ⟨t, ⟨x, _, rfl⟩, hu⟩ := hu
 rw [(hv x.2).2] at hu; cases hu
structure VT (β : Type) where
  ty : β → Ty
  nodeps : ∀ v, (ty v).deps = [] ∧ (ty v).cdeps = []
def qV : VT Int := ⟨fun n => Ty.int .i64 n, fun _ => ⟨rfl, rfl⟩⟩
def fW (enc : κ → Value) (V : VT β) (kvs : List (κ × β)) (w : World) (M : ay) (t : Nat) : Prop := ∃ b, M b = some t ∧ CQ enc V.ty kvs w M b
def Cont.mp (enc : κ → Value) (V : VT β) (kvs : List (κ × β)) : Cont :=
  { den := fW enc V kvs
    mono := fun le _ _ hs hk ⟨b, h1, h2⟩ => let ⟨h3, h4⟩ := le.own b _ h1 hk; ⟨b, h3, ux V.nodeps le (h4 hs) h2⟩ }
theorem Cont.iR {enc : κ → Value} {V : VT β} {k1 k2 : List (κ × β)} (h : k1 = k2) : (Cont.mp enc V k1).Sub (Cont.mp enc V k2) := by subst h; exact Cont.aG _
def mq (tg : Nat) (_ : World) (M : ay) (v : Value) : Prop := ∃ b, v = .map (some b) ∧ M b = some tg
def Ty.mp (tg : Nat) : Ty := ⟨mq tg, [tg], [], fun le hk _ ⟨b, e, h⟩ => ⟨b, e, (le.own b tg h (hk tg (by simp))).1⟩, true, fun _ ⟨_, e, _⟩ => e ▸ rfl⟩
def m7 (enc : κ → Value) (V : VT β) (kvs : List (κ × β)) (w : World) (M : ay) (v : Value) : Prop := ∃ b, v = .map (some b) ∧ M b = none ∧ b < w.heap.size ∧ CQ enc V.ty kvs w M b
def Ty.pm (enc : κ → Value) (V : VT β) (kvs : List (κ × β)) : Ty := ⟨m7 enc V kvs, [], [], fun le _ _ ⟨b, e, h, hb, h2⟩ => let ⟨h3, h4⟩ := le.qy b hb h; ⟨b, e, h3, Nat.lt_of_lt_of_le hb le.size, ux V.nodeps le h4 h2⟩, true, fun _ ⟨_, e, _⟩ => e ▸ rfl⟩
end
section
variable {P : Program} {κ β : Type} [DecidableEq κ]
theorem Ft (kvs : List (κ × β)) (k : κ) (i : Nat) (h : (kvs.map Prod.fst).findIdx? (fun x => decide (x = k)) = some i) : ∃ v, kvs[i]? = some (k, v) ∧ bf kvs k = some v ∧ ∀ z, cq kvs k z = kvs.set i (k, z) := by
  induction kvs generalizing i with
  | nil => cases h
  | cons x l ih =>
    rw [List.map_cons, List.findIdx?_cons] at h
    by_cases hx : x.1 = k
    · subst hx
      simp at h; subst h
      exact ⟨x.2, by simp, by simp [bf], fun z => by simp [cq]⟩
    · rw [decide_eq_false hx] at h
      simp only [Bool.false_eq_true, if_false, Option.map_eq_some_iff] at h
      obtain ⟨j, hj, rfl⟩ := h
      obtain ⟨v, h1, h2, h3⟩ := ih j hj
      exact ⟨v, by simpa using h1, by simp [bf, hx, h2], fun z => by simp [cq, hx, h3]⟩
theorem C8 (kvs : List (κ × β)) (k : κ) (h : (kvs.map Prod.fst).findIdx? (fun x => decide (x = k)) = none) : bf kvs k = none ∧ ∀ z, cq kvs k z = kvs ++ [(k, z)] := by
  induction kvs with
  | nil => exact ⟨rfl, fun _ => rfl⟩
  | cons x l ih =>
    rw [List.map_cons, List.findIdx?_cons] at h
    by_cases hx : x.1 = k
    · simp [hx] at h
    · rw [decide_eq_false hx] at h
      simp only [Bool.false_eq_true, if_false, Option.map_eq_none_iff] at h
      obtain ⟨h1, h2⟩ := ih h
      exact ⟨by simp [bf, hx, h1], fun z => by simp [cq, hx, h2]⟩
theorem HK {kt : TypeId} (KK : MN P kt κ) {vt : β → Ty} {kvs : List (κ × β)} {w : World} {M : ay} {es : Array MapEntry} (h2 : es.toList.map (·.key) = kvs.map (fun x => KK.enc x.1)) (h3 : cD w M (kvs.map fun x => vt x.2) (es.toList.map (·.val))) (k : κ) :
    (∃ i v e, (kvs.map Prod.fst).findIdx? (fun x => decide (x = k)) = some i ∧ bf kvs k = some v ∧ es[i]? = some e ∧ e.key = KK.enc k ∧ (vt v).den w M e.val ∧ (Instr.findKey kt (KK.enc k) es.toList).run P w = .ok (some (i, e.val)) w) ∨
    ((kvs.map Prod.fst).findIdx? (fun x => decide (x = k)) = none ∧ bf kvs k = none ∧ (Instr.findKey kt (KK.enc k) es.toList).run P w = .ok none w) := by
  have hf := KK.find k (kvs.map Prod.fst) es.toList w (by rw [h2, List.map_map]; rfl)
  cases hi : (kvs.map Prod.fst).findIdx? (fun x => decide (x = k)) with
  | none => right; rw [hi] at hf; exact ⟨rfl, (C8 kvs k hi).1, hf⟩
  | some i =>
    left
    rw [hi] at hf
    obtain ⟨v, hv, hg, _⟩ := Ft kvs k i hi
    have hl : i < es.toList.length := by
      have := congrArg List.length h2
      rw [List.length_map, List.length_map] at this
      rw [this]; exact (List.getElem?_eq_some_iff.1 hv).1
    obtain ⟨u, hu, hd⟩ := dQ h3 i (vt v) (by rw [List.getElem?_map, hv]; rfl)
    rw [List.getElem?_map, List.getElem?_eq_getElem hl] at hu
    injection hu with hu
    have hk := congrArg (fun l : List Value => l[i]?) h2
    simp only [List.getElem?_map, hv, List.getElem?_eq_getElem hl, Option.map_some] at hk
    injection hk with hk
    refine ⟨i, v, es.toList[i], rfl, hg, ?_, hk, hu ▸ hd, ?_⟩
    · rw [← Array.getElem?_toList, List.getElem?_eq_getElem hl]
    · rw [hf]; show Result.ok ((es.toList[i]?).map _) w = _; rw [List.getElem?_eq_getElem hl]; rfl
end
def zeroOf (P : Program) (t : TypeId) : Option Value := (P.info? t).bind (·.zero)
theorem k9 {P : Program} {t : TypeId} {z : Value} (h : zeroOf P t = some z) (w : World) : (zeroValue t).run P w = .ok z w := by
  unfold zeroOf at h
  cases hi : P.info? t with
  | none => rw [hi] at h; cases h
  | some i =>
    rw [hi] at h
    have h' : i.zero = some z := h
    simp [zeroValue, typeInfo, hi, h']
def mapOf (P : Program) (t : TypeId) : Option (TypeId × TypeId) := match P.underlying t with | some (.map k e) => some (k, e) | _ => none
theorem Cc {P : Program} {t k e : TypeId} (h : mapOf P t = some (k, e)) : P.underlying t = some (.map k e) := by
 unfold mapOf at h
 split at h
 ·rename_i k' e' hu; injection h with h; injection h with h1 h2; subst h1; subst h2; exact hu
 cases h
section
variable {P : Program} {fr : Fr} {ops : Array Oper} {A : As} {rest : List Oper} {K : As → List (As × Fx) → Prop} {d : Nat} {t mt kt et : TypeId} {p : String} {e : Array Edge}
variable {κ β : Type} [DecidableEq κ]
theorem xD (enc : κ → Value) (V : VT β) (hm : mapOf P mt = some (kt, et)) (hp : fr.pass.contains (d + 1) = false)
 (h : aV P fr ops rest (A.after { d := some d, ty := .mp (d + 1), K := [d + 1], sets := [(d + 1, .mp enc V [])] }) fun A' l' => K A' ((A, { d := some d, ty := .mp (d + 1), K := [d + 1], sets := [(d + 1, .mp enc V [])] }) :: l')) :
 aV P fr ops (⟨some d, .makeMap mt none, t, p, e, none⟩ :: rest) A K := by
 refine ⟨_, ⟨rfl, (by simp), (by simp), (fun u hu => ?_), fun a w M wf _ _ _ => ?_⟩, h⟩
 ·rw [List.mem_singleton.1 hu]; exact ⟨by omega, by simpa using hp⟩
 rw [if_pos (by simp [Region.wanted])]
 have hrun : (execOp a.eval ⟨some d, .makeMap mt none, t, p, e, none⟩).run P w = .ok (.value (.map (some w.heap.size))) { w with heap := w.heap.push (.map #[] 0) } := by
  simp [execOp, Instr.makeMap, newObj, Sem.run]
 refine rZ hrun ?_
 refine ⟨_, rfl, fun b => if b = w.heap.size then some (d + 1) else if M b = some (d + 1) then none else M b, ⟨fun b u hb => ?_, fun b b' u ht1 hb hb' => ?_⟩, ⟨by simp, rfl, rfl, rfl, fun b hlt hm => ⟨?_, ?_⟩, fun b u hm hk => ⟨?_, fun _ => ?_⟩⟩, ⟨_, rfl, by simp⟩, fun x hx => ?_⟩
 ·simp only [Array.size_push]
  split at hb
  ·omega
  split at hb
  ·cases hb
  have := wf.lt b u hb; omega
 ·by_cases h1 : b = w.heap.size <;> by_cases h2 : b' = w.heap.size
  ·rw [h1, h2]
  ·exfalso
   simp only [h1, h2, if_true, if_false] at hb hb'
   injection hb with hb
   split at hb'
   ·cases hb'
   rename_i hn; rw [← hb] at hb'; exact hn hb'
  ·exfalso
   simp only [h1, h2, if_true, if_false] at hb hb'
   injection hb' with hb'
   split at hb
   ·cases hb
   rename_i hn; rw [← hb'] at hb; exact hn hb
  simp only [h1, h2, if_false] at hb hb'
  split at hb
  ·cases hb
  split at hb'
  ·cases hb'
  exact wf.inj b b' u ht1 hb hb'
 ·rw [if_neg (by omega), if_neg (by rw [hm]; simp)]; exact hm
 ·simp [Array.getElem?_push]; intro h; omega
 ·have hlt := wf.lt b u hm
  rw [if_neg (by omega), if_neg (by rw [hm]; intro h; injection h with h; exact hk (by simp [h]))]; exact hm
 ·have hlt := wf.lt b u hm
  simp [Array.getElem?_push]; intro h; omega
 rw [List.mem_singleton.1 hx]
 exact ⟨w.heap.size, by simp, #[], 0, by simp, rfl, trivial⟩
theorem BK {w : World} {M : ay} {b : Nat} (KK : MN P kt κ) (V : VT β) {kvs : List (κ × β)} {z0 : β} {zv : Value} (hm : mapOf P mt = some (kt, et)) (hz : zeroOf P et = some zv) (hzd : (V.ty z0).den w M zv) (h : CQ KK.enc V.ty kvs w M b) (k : κ) :
 (∃ v, (Instr.lookup mt (.map (some b)) (KK.enc k) false).run P w = .ok v w ∧ (V.ty ((bf kvs k).getD z0)).den w M v) ∧
 ∃ v, (Instr.lookup mt (.map (some b)) (KK.enc k) true).run P w = .ok (.tuple #[v, .bool (bf kvs k).isSome]) w ∧ (V.ty ((bf kvs k).getD z0)).den w M v := by
 obtain ⟨es, clock, h1, h2, h3⟩ := h
 have hu := Cc hm
 have hzr := k9 hz
 rcases HK KK h2 h3 k with ⟨i, v, en, _, hg, _, _, hd, hf⟩ | ⟨_, hg, hf⟩
 ·rw [hg]
  refine ⟨⟨en.val, ?_, hd⟩, en.val, ?_, hd⟩ <;> simp [Instr.lookup, underlying, hu, getObj, Sem.run, h1, KK.check, hf]
 rw [hg]
 refine ⟨⟨zv, ?_, hzd⟩, zv, ?_, hzd⟩ <;> simp [Instr.lookup, underlying, hu, getObj, Sem.run, h1, KK.check, hf, hzr]
theorem Rp {x : Operand} {tg : Nat} {enc : κ → Value} {V : VT β} {kvs : List (κ × β)} (hx : A.op fr x = .mp tg) (hc : A.tag tg = some (.mp enc V kvs)) (h1 : ga tg) {a : Act} {w : World} {M : ay} {rs : List Nat} (wf : Wf w M) (hr : ∀ c ∈ bq x, c ∈ rs) (hrd : ∀ c ∈ rs, c < fr.n → (A.slots c).den w M (a.tmps.getD c undef)) (htg : ∀ y ∈ A.tags, y.1 ∈ [tg] → y.2.den w M y.1) :
 ∃ b, a.eval x = .map (some b) ∧ M b = some tg ∧ CQ enc V.ty kvs w M b := by
 have hxd := cA hr hrd
 rw [hx] at hxd
 obtain ⟨b, e1, e2⟩ := hxd
 obtain ⟨b', h2, h3⟩ := htg _ (dD hc) (by simp)
 obtain ⟨u, rfl⟩ : ∃ u, tg = u + 1 := ⟨tg - 1, by omega⟩
 have : b = b' := wf.inj b b' u (by omega) e2 h2
 subst this
 exact ⟨b, e1, e2, h3⟩
def KT (kty : Ty) (v : Value) : Prop := ∀ w M x, kty.den w M x → x = v
theorem gi {q : IntKind} {n : Int} : KT (.int q n) (.int q n) := fun _ _ _ h => h
theorem pN {x y : Operand} {tg : Nat} {kty : Ty} {k : κ} (KK : MN P kt κ) {V : VT β} {kvs : List (κ × β)} {z0 : β} {zv : Value} (hx : A.op fr x = .mp tg) (hc : A.tag tg = some (.mp KK.enc V kvs)) (h1 : ga tg) (hy : A.op fr y = kty) (hk : KT kty (KK.enc k)) (hm : mapOf P mt = some (kt, et)) (hz : zeroOf P et = some zv) (hzd : ∀ w M, (V.ty z0).den w M zv)
 (h : aV P fr ops rest (A.set d (V.ty ((bf kvs k).getD z0))) fun A' l' => K A' ((A, { d := some d, ty := V.ty ((bf kvs k).getD z0), rs := bq x ++ bq y, rt := [tg] }) :: l')) :
 aV P fr ops (⟨some d, .lookup mt x y false, t, p, e, none⟩ :: rest) A K :=
 bC (bP rfl rfl fun a w M wf hrd htg => by
  obtain ⟨b, e1, _, h3⟩ := Rp hx hc h1 wf (fun c hc => List.mem_append_left _ hc) hrd htg
  have hyd := cA (fun c hc => List.mem_append_right (bq x) hc) hrd
  rw [hy] at hyd
  obtain ⟨v, hv, hd⟩ := (BK KK V hm hz (hzd w M) h3 k).1
  refine ⟨v, ?_, hd⟩
  simp only [execOp, e1, hk _ _ _ hyd]
  simp [hv]) h
theorem pG {x y : Operand} {kty : Ty} {k : κ} (KK : MN P kt κ) {V : VT β} {kvs : List (κ × β)} {z0 : β} {zv : Value} (hx : A.op fr x = .pm KK.enc V kvs) (hy : A.op fr y = kty) (hk : KT kty (KK.enc k)) (hm : mapOf P mt = some (kt, et)) (hz : zeroOf P et = some zv) (hzd : ∀ w M, (V.ty z0).den w M zv)
 (h : aV P fr ops rest (A.set d (V.ty ((bf kvs k).getD z0))) fun A' l' => K A' ((A, { d := some d, ty := V.ty ((bf kvs k).getD z0), rs := bq x ++ bq y }) :: l')) :
 aV P fr ops (⟨some d, .lookup mt x y false, t, p, e, none⟩ :: rest) A K :=
 bC (bP (rt := []) rfl rfl fun a w M wf hrd _ => by
  have hxd := cA (fun c hc => List.mem_append_left (bq y) hc) hrd
  rw [hx] at hxd
  obtain ⟨b, e1, _, _, h3⟩ := hxd
  have hyd := cA (fun c hc => List.mem_append_right (bq x) hc) hrd
  rw [hy] at hyd
  obtain ⟨v, hv, hd⟩ := (BK KK V hm hz (hzd w M) h3 k).1
  refine ⟨v, ?_, hd⟩
  simp only [execOp, e1, hk _ _ _ hyd]
  simp [hv]) h
theorem lz {x y z : Operand} {tg : Nat} {kty vty : Ty} {k : κ} {v : β} (KK : MN P kt κ) {V : VT β} {kvs : List (κ × β)} (hx : A.op fr x = .mp tg) (hc : A.tag tg = some (.mp KK.enc V kvs)) (h1 : ga tg) (hy : A.op fr y = kty) (hk : KT kty (KK.enc k)) (hz : A.op fr z = vty) (hv : vty = V.ty v) (hm : mapOf P mt = some (kt, et))
 (h : aV P fr ops rest (A.after { d := none, S := [tg], sets := [(tg, .mp KK.enc V (cq kvs k v))], rs := bq x ++ (bq y ++ bq z), rt := [tg] }) fun A' l' => K A' ((A, { d := none, S := [tg], sets := [(tg, .mp KK.enc V (cq kvs k v))], rs := bq x ++ (bq y ++ bq z), rt := [tg] }) :: l')) :
 aV P fr ops (⟨none, .mapUpdate mt x y z, t, p, e, none⟩ :: rest) A K := by
 subst hv
 refine ⟨_, ⟨rfl, (fun x hx => .inl (by rw [List.mem_singleton.1 hx]; exact List.mem_singleton.2 rfl)), (fun u hu => by rw [List.mem_singleton.1 hu]; exact h1.1), (by simp), fun a w M wf _ hrd htg => ?_⟩, h⟩
 rw [if_pos (by simp [Region.wanted])]
 obtain ⟨b, e1, e2, es, clock, h3, h4, h5⟩ := Rp hx hc h1 wf (fun c hc => List.mem_append_left _ hc) hrd htg
 have hyd := cA (fun c hc => List.mem_append_right (bq x) (List.mem_append_left (bq z) hc)) hrd
 have hzd := cA (fun c hc => List.mem_append_right (bq x) (List.mem_append_right (bq y) hc)) hrd
 rw [hy] at hyd
 rw [hz] at hzd
 have hu := Cc hm
 have hblt : b < w.heap.size := wf.lt b _ e2
 -- whatever is put there
 have fin : ∀ (es' : Array MapEntry) (clock' : Nat), es'.toList.map (·.key) = (cq kvs k v).map (fun x => KK.enc x.1) → cD w M ((cq kvs k v).map fun x => V.ty x.2) (es'.toList.map (·.val)) →
  (Instr.mapUpdate mt (.map (some b)) (KK.enc k) (a.eval z)).run P w = .ok () { w with heap := w.heap.setIfInBounds b (.map es' clock') } →
  Oper.wpIn fr.kd.iU 0 P ⟨none, .mapUpdate mt x y z, t, p, e, none⟩ a w (fun a' w' => ∃ v', a' = a.put none v' ∧ Fx.left { d := none, S := [tg], sets := [(tg, .mp KK.enc V (cq kvs k v))], rs := bq x ++ (bq y ++ bq z), rt := [tg] } w M w' v') (fun _ _ _ => False) := by
  intro es' clock' hk' hd' hrun
  have hr : (execOp a.eval ⟨none, .mapUpdate mt x y z, t, p, e, none⟩).run P w = .ok .skip { w with heap := w.heap.setIfInBounds b (.map es' clock') } := by
   simp only [execOp, e1, hk _ _ _ hyd]
   simp [hrun]
  refine BD hr ?_
  have le : Le (· ∈ [tg]) (· ∈ ([] : List Nat)) w M { w with heap := w.heap.setIfInBounds b (.map es' clock') } M := by
   refine ⟨by simp, rfl, rfl, rfl, fun b2 hlt hm2 => ⟨hm2, ?_⟩, fun b2 u hm2 _ => ⟨hm2, fun hs => ?_⟩⟩
   ·have : b ≠ b2 := fun h => by subst h; rw [e2] at hm2; cases hm2
    simp [Array.getElem?_setIfInBounds, this]
   have : b ≠ b2 := fun h => by subst h; rw [e2] at hm2; injection hm2 with hm2; exact hs (by simp [hm2])
   simp [Array.getElem?_setIfInBounds, this]
  refine ⟨undef, rfl, M, ⟨fun b2 u h => by simpa using wf.lt b2 u h, wf.inj⟩, le, trivial, fun x hx => ?_⟩
  rw [List.mem_singleton.1 hx]
  refine ⟨b, e2, es', clock', by simp [hblt], hk', ?_⟩
  refine bY le (fun _ _ => by simp) (fun u hu => ?_) hd'
  simp only [bU, List.mem_flatMap, List.mem_map] at hu
  obtain ⟨t', ⟨x', _, rfl⟩, hu⟩ := hu
  rw [(V.nodeps x'.2).2] at hu; cases hu
 rcases HK KK h4 h5 k with ⟨i, v0, en, hi, hg, hen, hkey, hd, hf⟩ | ⟨hi, hg, hf⟩
 ·obtain ⟨v1, hv1, _, hput⟩ := Ft kvs k i hi
  have hil : i < es.size := (Array.getElem?_eq_some_iff.1 hen).1
  refine fin (es.modify i fun e => { e with key := KK.enc k, val := a.eval z }) clock ?_ ?_ ?_
  ·rw [hput, List.map_set]
   have : (es.modify i fun e => { e with key := KK.enc k, val := a.eval z }).toList = es.toList.set i { en with key := KK.enc k, val := a.eval z } := by
    rw [Array.toList_modify, List.modify_eq_set, Array.getElem?_toList, hen]; rfl
   rw [this, List.map_set, h4]
  ·rw [hput, List.map_set]
   have : (es.modify i fun e => { e with key := KK.enc k, val := a.eval z }).toList = es.toList.set i { en with key := KK.enc k, val := a.eval z } := by
    rw [Array.toList_modify, List.modify_eq_set, Array.getElem?_toList, hen]; rfl
   rw [this, List.map_set]
   exact pL h5 hzd
  simp [Instr.mapUpdate, underlying, hu, getObj, setObj, Sem.run, h3, KK.check, hf, hen, hkey, Instr.keyThatStays, KK.same]
 obtain ⟨_, hput⟩ := C8 kvs k hi
 refine fin (es.push { key := KK.enc k, val := a.eval z, born := clock }) (clock + 1) ?_ ?_ ?_
 ·rw [hput]; simp [h4]
 ·rw [hput]; simp only [Array.toList_push, List.map_append, List.map_cons, List.map_nil]
  exact iB h5 ⟨hzd, trivial⟩
 simp [Instr.mapUpdate, underlying, hu, getObj, setObj, Sem.run, h3, KK.check, hf]
end
section
variable {P : Program} {fr : Fr} {A : As} {Q : Exit → Act → World → Prop} {c : Code} {κ β : Type} [DecidableEq κ]
theorem Sf {enc : κ → Value} {V : VT β} {kvs : List (κ × β)} {tg s : Nat} (hx : A.slots s = .mp tg) (hc : A.tag tg = some (.mp enc V kvs)) (h1 : ga tg) : Bn A tg s (.pm enc V kvs) := by
 intro w M v wf ht hv
 rw [hx] at hv
 obtain ⟨b, e1, e2⟩ := hv
 obtain ⟨b', h2, h3⟩ := ht _ (dD hc)
 obtain ⟨u, rfl⟩ : ∃ u, tg = u + 1 := ⟨tg - 1, by omega⟩
 have : b = b' := wf.inj b b' u (by omega) e2 h2
 subst this
 exact ⟨b, e1, by simp [dx, e2], wf.lt b _ e2, ux V.nodeps (iO (tg := u + 1)) rfl h3⟩
end
end Go.T
namespace Go.Proofs.YtmmcenjknimhbaaGreat
open Go Go.T
structure kO (b : SB) : Prop where
  nb1 : 1 ≤ b.1.f.bears.length
  nb : b.1.f.bears.length ≤ 4
  nt : b.1.f.turnings.length ≤ 8
  bears : ∀ k, 0 ≤ nth b.1.f.bears k ∧ nth b.1.f.bears k ≤ 4000
  before : ∀ k, nth b.1.before k < 256
  adds : ∀ k, -1200 ≤ nth b.1.adds k ∧ nth b.1.adds k ≤ 1200
  first : ∀ k, 0 ≤ nth b.1.first k ∧ nth b.1.first k ≤ 7200
theorem Fo {α : Type} [Inhabited α] {l : List α} {k : Nat} (h : l.length ≤ k) : nth l k = default := by
 show l.getD k default = default
 rw [List.getD_eq_getElem?_getD, List.getElem?_eq_none h]; rfl
theorem RG {f : bS} (h : f.dj) : kO (U0 f h.ruled) := by
 have hr := h.ranged
 have h4 := hr.bears
 have h6 := hr.bins
 refine ⟨hr.bears1, hr.bears, hr.turnings, fun k => Aj hr k, fun k => (lA h.ruled).nth k, fun k => ?_, fun k => ?_⟩
 ·show -1200 ≤ nth ((List.range 32).map (AA f f.bears.length 0)) k ∧ nth ((List.range 32).map (AA f f.bears.length 0)) k ≤ 1200
  rcases Nat.lt_or_ge k 32 with hk | hk
  ·rw [cy _ hk]
   unfold AA
   split
   ·rename_i hc; exact Ai hr h.named hc.1 _
   omega
  rw [qK (by simpa using hk)]; omega
 show 0 ≤ nth ((List.range 4).map (mE f f.bears.length 0)) k ∧ nth ((List.range 4).map (mE f f.bears.length 0)) k ≤ 7200
 rcases Nat.lt_or_ge k 4 with hk | hk
 ·rw [cy _ hk]
  unfold mE
  split
  ·have := mT hr k f.bins.length (Nat.le_refl _); omega
  split
  ·have := mT hr f.bears.length 0 (Nat.zero_le _); omega
  omega
 rw [qK (by simpa using hk)]; omega
def loadAt (b : SB) (ms : List Int) (i : Nat) : Int := nth b.1.first i + (ms.map fun t => nth b.1.adds (t.toNat * 4 + i)).sum
def iI (b : SB) (s : Nat) : List Int := (List.range 4).map (loadAt b (cQ s))
def oJ (b : SB) (ms : List Int) (k j : Nat) : List Int := (List.range 4).map fun i => if i < j then loadAt b (ms.take (k + 1)) i else loadAt b (ms.take k) i
theorem G2 (b : SB) {ms : List Int} {k : Nat} (h : k < ms.length) (i : Nat) : loadAt b (ms.take (k + 1)) i = loadAt b (ms.take k) i + nth b.1.adds ((nth ms k).toNat * 4 + i) := by
 unfold loadAt
 rw [bh h, List.map_append, List.sum_append]; simp; omega
theorem vu {b : SB} (h : kO b) (ms : List Int) (i : Nat) : -(1200 * ms.length) ≤ loadAt b ms i ∧ loadAt b ms i ≤ 7200 + 1200 * ms.length := by
 have h1 := h.first i
 have h2 := xP (l := ms.map fun t => nth b.1.adds (t.toNat * 4 + i)) (lo := -1200) (hi := 1200) fun n hn => by
  obtain ⟨t, _, rfl⟩ := List.mem_map.1 hn
  exact h.adds _
 rw [List.length_map] at h2
 unfold loadAt; omega
theorem sM (s : Nat) : (cQ s).length ≤ 8 := zY s 8
theorem lC (b : SB) (ms : List Int) (k j : Nat) : (oJ b ms k j).length = 4 := by simp [oJ]
theorem Dt (b : SB) (ms : List Int) (k : Nat) {j : Nat} (h : j < 4) : nth (oJ b ms k j) j = loadAt b (ms.take k) j := by
 rw [oJ, cy _ h]; simp
theorem LH (b : SB) {ms : List Int} {k j : Nat} (hk : k < ms.length) (hj : j < 4) : (oJ b ms k j).set j (nth (oJ b ms k j) j + nth b.1.adds ((nth ms k).toNat * 4 + j)) = oJ b ms k (j + 1) := by
 rw [Dt b ms k hj, ← G2 b hk]
 exact pE 4 j (fun i => if i < j then loadAt b (ms.take (k + 1)) i else loadAt b (ms.take k) i) (fun i => if i < j + 1 then loadAt b (ms.take (k + 1)) i else loadAt b (ms.take k) i) _ fun i _ => by
  by_cases e : i = j
  ·subst e; simp
  by_cases h1 : i < j
  ·rw [if_pos (by omega), if_neg e, if_pos h1]
  rw [if_neg (by omega), if_neg e, if_neg h1]
theorem Hs (b : SB) (ms : List Int) (k : Nat) : oJ b ms k 4 = oJ b ms (k + 1) 0 := List.map_congr_left fun i hi => by
 have := List.mem_range.1 hi
 rw [if_pos this, if_neg (by omega)]
theorem GV (b : SB) (ms : List Int) : b.1.first = oJ b ms 0 0 := by
 apply List.ext_getElem?
 intro i
 have h4 := b.2.first
 by_cases h : i < 4
 ·rw [List.getElem?_eq_getElem (by omega), oJ, List.getElem?_map, List.getElem?_range h]
  simp only [Option.map_some, Nat.not_lt_zero, if_false]
  simp [loadAt, cF (show i < b.1.first.length by omega)]
 rw [List.getElem?_eq_none (by omega), List.getElem?_eq_none (by rw [lC]; omega)]
theorem MW (b : SB) (s k : Nat) (h : (cQ s).length ≤ k) : oJ b (cQ s) k 0 = iI b s := List.map_congr_left fun i _ => by
 rw [if_neg (by omega), List.take_of_length_le h]
theorem lH (b : SB) (s : Nat) : (iI b s).length = 4 := by simp [iI]
theorem sQ (b : SB) (s : Nat) {i : Nat} (h : i < 4) : nth (iI b s) i = loadAt b (cQ s) i := cy _ h
theorem yS {b : SB} (h : kO b) (s i : Nat) : -20000 ≤ nth (iI b s) i ∧ nth (iI b s) i ≤ 20000 := by
 rcases Nat.lt_or_ge i 4 with hi | hi
 ·rw [sQ b s hi]
  have := vu h (cQ s) i
  have := sM s
  omega
 rw [qK (by rw [lH]; exact hi)]; omega
def mo (b : SB) (l : List Int) : Int := r8 b.1.f l b.1.f.bears.length (nth b.1.f.bears 0 - nth l 0)
def uI (b : SB) (s : Nat) : Bool := decide (mo b (iI b s) ≥ 0)
def eF (b : SB) (s : Nat) : Bool := (cQ s).all fun t => decide (jd (nth b.1.before t.toNat) s = 0)
theorem zw {s : Nat} : ∀ t ∈ cQ s, 0 ≤ t ∧ t < 8 := by
 intro t ht
 obtain ⟨i, hi, rfl⟩ := List.mem_map.1 ht
 have := List.mem_range.1 (List.mem_filter.1 hi).1
 omega
def iS (b : SB) (k : Nat) : List Nat := (List.range k).filter (eF b)
def uA (b : SB) : List Nat := iS b (1 <<< b.1.f.turnings.length)
theorem u0 {b : SB} {k : Nat} (h : eF b k = true) : iS b (k + 1) = iS b k ++ [k] := by simp [iS, List.range_succ, List.filter_append, h]
theorem DI {b : SB} {k : Nat} (h : eF b k = false) : iS b (k + 1) = iS b k := by simp [iS, List.range_succ, List.filter_append, h]
theorem BY {b : SB} {k m : Nat} (hk : k < m) (h : eF b k = true) : nth (iS b m) (iS b k).length = k ∧ (iS b k).length < (iS b m).length := by
  have : ∀ m, k + 1 ≤ m → ∃ r, iS b m = (iS b k ++ [k]) ++ r := by
    intro m hm
    induction m with
    | zero => omega
    | succ m ih =>
      rcases Nat.lt_or_ge m (k + 1) with h1 | h1
      · rw [show m + 1 = k + 1 by omega]; exact ⟨[], by rw [u0 h, List.append_nil]⟩
      · obtain ⟨r, hr⟩ := ih h1
        cases hw : eF b m with
        | true => exact ⟨r ++ [m], by rw [u0 hw, hr, List.append_assoc]⟩
        | false => exact ⟨r, by rw [DI hw, hr]⟩
  obtain ⟨r, hr⟩ := this m hk
  refine ⟨?_, ?_⟩
  · rw [hr, cF (by simp)]; simp
  · rw [hr]; simp
theorem s8 (n : Nat) : 1 <<< n = 2 ^ n := by rw [Nat.shiftLeft_eq, Nat.one_mul]
theorem q7 {n : Nat} (h : n ≤ 8) : 1 <<< n ≤ 256 ∧ 1 ≤ 1 <<< n := by
 rw [s8]
 exact ⟨Nat.pow_le_pow_right (n := 2) (by omega) h, Nat.one_le_two_pow⟩
def zl (b : SB) (bay : Nat) (st : Int × Int) (s : Nat) : Int × Int := if nth (iI b s) bay > st.2 then ((s : Int), nth (iI b s) bay) else st
def oP (b : SB) (bay k : Nat) : Int × Int := ((uA b).take k).foldl (zl b bay) (0, nth b.1.first bay)
def H9 (b : SB) (bay : Nat) : Int × Int := (uA b).foldl (zl b bay) (0, nth b.1.first bay)
theorem va {b : SB} {bay k : Nat} (h : k < (uA b).length) : oP b bay (k + 1) = zl b bay (oP b bay k) (nth (uA b) k) := by
 unfold oP; rw [bh h, List.foldl_append]; rfl
abbrev KV := List (Int × Int)
def mg (m : KV) (k : Int) : Int := (bf m k).getD 0
def tV (b : SB) (s : Nat) (m : KV) (t : Nat) : KV := if s.testBit t then m else cq m s (mg m s + mg m ((s ||| 1 <<< t : Nat) : Int))
def ql (b : SB) (s : Nat) (m : KV) (j : Nat) : KV := (List.range j).foldl (tV b s) m
def jk (b : SB) (s : Nat) (m : KV) : KV := if (s : Int) = (1 <<< b.1.f.turnings.length : Nat) - 1 then cq m s 1 else m
def Fw (b : SB) (q : Nat → Bool) (s : Nat) (m : KV) : KV := if !eF b s || !q s then m else ql b s (jk b s m) b.1.f.turnings.length
def gC (b : SB) (q : Nat → Bool) (n : Nat) : Nat → KV
  | 0 => []
  | k + 1 => Fw b q (n - (k + 1)) (gC b q n k)
def iJ (b : SB) (q : Nat → Bool) : KV := gC b q (1 <<< b.1.f.turnings.length) (1 <<< b.1.f.turnings.length)
theorem lD (b : SB) (s : Nat) (m : KV) (j : Nat) : ql b s m (j + 1) = tV b s (ql b s m j) j := by simp [ql, List.range_succ]
theorem oO (m : KV) (k v k' : Int) : mg (cq m k v) k' = if k = k' then v else mg m k' := by
 unfold mg; rw [nI]; split <;> rfl
def pop (s : Nat) : Nat := (cQ s).length
theorem Jd : ((List.range 256).all fun s => (List.range 8).all fun t => s.testBit t || (pop (s ||| 1 <<< t) == pop s + 1 && Nat.blt (s ||| 1 <<< t) 256)) = true := by decide +kernel
theorem Bc {s t : Nat} (hs : s < 256) (ht : t < 8) (h : s.testBit t = false) : pop (s ||| 1 <<< t) = pop s + 1 ∧ (s ||| 1 <<< t) < 256 := by
 have h1 := List.all_eq_true.1 (List.all_eq_true.1 Jd s (List.mem_range.2 hs)) t (List.mem_range.2 ht)
 rw [h, Bool.false_or, Bool.and_eq_true, beq_iff_eq, Nat.blt_eq] at h1
 exact h1
def Small (m : KV) : Prop := ∀ s : Nat, s < 256 → 0 ≤ mg m s ∧ mg m s ≤ 8 ^ (8 - pop s)
theorem NM (s : Nat) : pop s ≤ 8 := sM s
theorem JY {s t : Nat} (h : s.testBit t = false) : (s ||| 1 <<< t) ≠ s := fun e => by
 have : (s ||| 1 <<< t).testBit t = true := by rw [Nat.testBit_or, s8, Nat.testBit_two_pow_self]; simp
 rw [e, h] at this; cases this
def EV (m : KV) (s j : Nat) : Prop := (∀ s' : Nat, s' < 256 → s' ≠ s → 0 ≤ mg m s' ∧ mg m s' ≤ 8 ^ (8 - pop s')) ∧ 0 ≤ mg m s ∧ mg m s ≤ (if pop s = 8 then (1 : Int) else (j : Int) * 8 ^ (7 - pop s))
theorem vn {b : SB} {m : KV} {s j : Nat} (hs : s < 256) (hj : j < 8) (h : EV m s j) : EV (tV b s m j) s (j + 1) ∧ (s.testBit j = false → 0 ≤ mg m s + mg m ((s ||| 1 <<< j : Nat) : Int) ∧ mg m s + mg m ((s ||| 1 <<< j : Nat) : Int) ≤ 8 ^ 8 + 8 ^ 8) := by
  obtain ⟨h1, h2, h3⟩ := h
  have hp8 : ∀ e, e ≤ 8 → (8 : Int) ^ e ≤ 8 ^ 8 := fun e he => by
    have : (8 : Nat) ^ e ≤ 8 ^ 8 := Nat.pow_le_pow_right (by omega) he
    exact_mod_cast this
  have hpos : ∀ e : Nat, (0 : Int) ≤ 8 ^ e := fun e => Int.le_of_lt (Int.pow_pos (by omega))
  unfold tV
  cases hb : s.testBit j with
  | true =>
    simp only [if_true]
    refine ⟨⟨h1, h2, ?_⟩, fun h => by cases h⟩
    split at h3
    · rw [if_pos ‹_›]; exact h3
    · rw [if_neg ‹_›]
      have := hpos (7 - pop s)
      have e : ((j + 1 : Nat) : Int) * 8 ^ (7 - pop s) = j * 8 ^ (7 - pop s) + 8 ^ (7 - pop s) := by rw [Int.natCast_add, Int.add_mul]; simp
      omega
  | false =>
    obtain ⟨p1, p2⟩ := Bc hs hj hb
    have hne := JY hb
    obtain ⟨g1, g2⟩ := h1 _ p2 hne
    have hlt : pop s ≤ 7 := by have := NM (s ||| 1 <<< j); omega
    rw [p1, show 8 - (pop s + 1) = 7 - pop s by omega] at g2
    rw [if_neg (by omega)] at h3
    have hj8 : (j : Int) * 8 ^ (7 - pop s) ≤ 7 * 8 ^ (7 - pop s) := Int.mul_le_mul_of_nonneg_right (by omega) (hpos _)
    have h87 : (8 : Int) * 8 ^ (7 - pop s) ≤ 8 ^ 8 := by
      have := hp8 (7 - pop s + 1) (by omega)
      rw [Int.pow_succ, Int.mul_comm] at this; exact this
    have := hpos (7 - pop s)
    simp only [Bool.false_eq_true, if_false]
    refine ⟨⟨fun s' hs' hn => ?_, ?_⟩, fun _ => ⟨by omega, by omega⟩⟩
    · rw [oO, if_neg (fun e => hn (by exact_mod_cast e.symm))]; exact h1 s' hs' hn
    · rw [oO, if_pos rfl, if_neg (by omega)]
      have e : ((j + 1 : Nat) : Int) * 8 ^ (7 - pop s) = j * 8 ^ (7 - pop s) + 8 ^ (7 - pop s) := by rw [Int.natCast_add, Int.add_mul]; simp
      omega
theorem Hw (b : SB) {s s' : Nat} (h : s' ≠ s) (m : KV) (t : Nat) : mg (tV b s m t) s' = mg m s' := by
 unfold tV
 split
 ·rfl
 rw [oO, if_neg (fun e => h (by exact_mod_cast e.symm))]
theorem yf (b : SB) {s s' : Nat} (h : s' ≠ s) (m : KV) (j : Nat) : mg (ql b s m j) s' = mg m s' := by
  induction j with
  | zero => rfl
  | succ j ih => rw [lD, Hw b h, ih]
theorem wA (b : SB) {s s' : Nat} (h : s' ≠ s) (m : KV) : mg (jk b s m) s' = mg m s' := by
 unfold jk
 split
 ·rw [oO, if_neg (fun e => h (by exact_mod_cast e.symm))]
 rfl
theorem uk (b : SB) (q : Nat → Bool) {s s' : Nat} (h : s' ≠ s) (m : KV) : mg (Fw b q s m) s' = mg m s' := by
 unfold Fw
 split
 ·rfl
 rw [yf b h, wA b h]
theorem Fb {n j : Nat} (h : j < n) : (1 <<< n - 1).testBit j = true := by rw [s8, Nat.testBit_two_pow_sub_one]; simpa using h
theorem IP (b : SB) {s n : Nat} (hs : s = 1 <<< n - 1) (m : KV) {j : Nat} (hj : j ≤ n) : ql b s m j = m := by
  induction j with
  | zero => rfl
  | succ j ih => rw [lD, ih (by omega), tV, hs, Fb (by omega)]; rfl
structure Clean (n k : Nat) (m : KV) : Prop where
  small : ∀ s : Nat, s < 256 → 0 ≤ mg m s ∧ mg m s ≤ 8 ^ (8 - pop s)
  zero : ∀ s : Nat, s + k < n → mg m s = 0
theorem J6 {b : SB} {s : Nat} {m : KV} (h : s ≠ 1 <<< b.1.f.turnings.length - 1) (h1 : 1 ≤ 1 <<< b.1.f.turnings.length) : jk b s m = m := by
 unfold jk; rw [if_neg (by omega)]
theorem SQ {b : SB} {s : Nat} {m : KV} (h : s = 1 <<< b.1.f.turnings.length - 1) (h1 : 1 ≤ 1 <<< b.1.f.turnings.length) : jk b s m = cq m s 1 := by
 unfold jk; rw [if_pos (by omega)]
theorem uN {b : SB} (hb : kO b) {s n k : Nat} {m : KV} (hn : n = 1 <<< b.1.f.turnings.length) (hs : s + (k + 1) = n) (hc : Clean n k m) (hne : s ≠ n - 1) : ∀ j, j ≤ b.1.f.turnings.length → EV (ql b s m j) s j
  | 0, _ => by
    refine ⟨fun s' hs' _ => hc.small s' hs', ?_, ?_⟩
    · show 0 ≤ mg m s; rw [hc.zero s (by omega)]; exact Int.le_refl _
    · show mg m s ≤ _
      rw [hc.zero s (by omega)]; split <;> simp
  | j + 1, hj => by
    rw [lD]
    have := q7 hb.nt
    exact (vn (by omega) (by have := hb.nt; omega) (uN hb hn hs hc hne j (by omega))).1
theorem Lf {b : SB} (hb : kO b) {s n k : Nat} {m : KV} (hn : n = 1 <<< b.1.f.turnings.length) (hs : s + (k + 1) = n) (hc : Clean n k m) {j : Nat} (hj : j < b.1.f.turnings.length) (h : s.testBit j = false) :
 let m' := ql b s (jk b s m) j
 0 ≤ mg m' s + mg m' ((s ||| 1 <<< j : Nat) : Int) ∧ mg m' s + mg m' ((s ||| 1 <<< j : Nat) : Int) ≤ 8 ^ 8 + 8 ^ 8 := by
 have h1 := q7 hb.nt
 have hne : s ≠ n - 1 := fun e => by rw [e, hn, Fb hj] at h; cases h
 rw [J6 (by omega) (by omega)]
 exact (vn (b := b) (by omega) (by have := hb.nt; omega) (uN hb hn hs hc hne j (by omega))).2 h
theorem IQ {b : SB} (hb : kO b) {q : Nat → Bool} {s n k : Nat} {m : KV} (hn : n = 1 <<< b.1.f.turnings.length) (hs : s + (k + 1) = n) (hc : Clean n k m) : Clean n (k + 1) (Fw b q s m) := by
 have h1 := q7 hb.nt
 have hpos : ∀ e : Nat, (1 : Int) ≤ 8 ^ e := fun e => by have : (0 : Int) < 8 ^ e := Int.pow_pos (by omega); omega
 refine ⟨fun s' hs' => ?_, fun s' h => ?_⟩
 ·by_cases e : s' = s
  ·subst e
   unfold Fw
   split
   ·exact hc.small s' hs'
   by_cases ht : s' = n - 1
   ·rw [SQ (by omega) (by omega), IP b (by omega) _ (Nat.le_refl _), oO, if_pos rfl]
    exact ⟨by omega, hpos _⟩
   rw [J6 (by omega) (by omega)]
   obtain ⟨_, g2, g3⟩ := uN hb hn hs hc ht _ (Nat.le_refl _)
   refine ⟨g2, ?_⟩
   split at g3
   ·exact Int.le_trans g3 (hpos _)
   rename_i hp
   have hp7 : pop s' ≤ 7 := by have := NM s'; omega
   have e8 : (8 : Int) ^ (8 - pop s') = 8 ^ (7 - pop s') * 8 := by rw [show 8 - pop s' = 7 - pop s' + 1 by omega, Int.pow_succ]
   have : (b.1.f.turnings.length : Int) * 8 ^ (7 - pop s') ≤ 8 * 8 ^ (7 - pop s') := Int.mul_le_mul_of_nonneg_right (by have := hb.nt; omega) (Int.le_trans (by omega) (hpos _))
   rw [e8, Int.mul_comm (8 ^ (7 - pop s')) 8]; omega
  rw [uk b q e]; exact hc.small s' hs'
 rw [uk b q (by omega)]; exact hc.zero s' (by omega)
theorem sx {b : SB} (hb : kO b) (q : Nat → Bool) {n : Nat} (hn : n = 1 <<< b.1.f.turnings.length) : ∀ k, k ≤ n → Clean n k (gC b q n k)
  | 0, _ => ⟨fun s _ => ⟨Int.le_refl _, Int.le_of_lt (Int.pow_pos (by omega))⟩, fun _ _ => rfl⟩
  | k + 1, h => IQ hb hn (by omega) (sx hb q hn k (by omega))
end Go.Proofs.YtmmcenjknimhbaaGreat
namespace Go.Proofs.YtmmcenjknimhbaaGreat
open Go Go.T
def Vv (f : bS) : SB := ⟨{ f := f, before := List.replicate 8 0, adds := List.replicate 32 0, first := List.replicate 4 0 }, ⟨rfl, rfl, rfl⟩⟩
def aX (f : bS) : SB := if h : bk f = 0 then U0 f (cB h).ruled else Vv f
theorem mC {f : bS} (h : bk f = 0) : aX f = U0 f (cB h).ruled := dif_pos h
theorem fY {f : bS} (h : bk f = 0) : kO (aX f) := by rw [mC h]; exact RG (cB h)
theorem ni (f : bS) : (aX f).1.f = f := by
 unfold aX; split <;> rfl
theorem ji {f : bS} {b : Bool} (h : fA f b = 0) : bk f = 0 ∧ b = false := by
 unfold fA at h
 split at h
 ·exact absurd h ‹_›
 split at h
 ·cases h
 rename_i h1 h2
 exact ⟨Classical.byContradiction fun e => h1 e, Bool.eq_false_iff.2 h2⟩
def Cn (f : bS) (bay : Int) : Int × Int :=
  if fA f (!fC bay 0 (f.bears.length - 1)) ≠ 0 then (0, fA f (!fC bay 0 (f.bears.length - 1))) else ((H9 (aX f) bay.toNat).2, 0)
def dV (f : bS) : KV := iJ (aX f) (uI (aX f))
def countP (f : bS) : Int × Int := if fA f false ≠ 0 then (0, fA f false) else (mg (dV f) 0, 0)
def n4 (f : bS) (k : Nat) : List Int := ((List.range k).filter fun t => decide (mg (dV f) ((1 <<< t : Nat) : Int) > 0)).map fun (t : Nat) => (t : Int)
def m0 (f : bS) : List Int × Int := if fA f false ≠ 0 then ([], fA f false) else if mg (dV f) 0 = 0 then ([], 6) else (n4 f f.turnings.length, 0)
theorem tq (f : bS) (k : Nat) : n4 f (k + 1) = n4 f k ++ if mg (dV f) ((1 <<< k : Nat) : Int) > 0 then [(k : Int)] else [] := by
 unfold n4
 rw [List.range_succ, List.filter_append, List.map_append]
 congr 1
 by_cases h : mg (dV f) ((1 <<< k : Nat) : Int) > 0
 ·rw [if_pos h, List.filter_cons_of_pos (by exact decide_eq_true h)]; rfl
 rw [if_neg h, List.filter_cons_of_neg (by simpa using h)]; rfl
theorem E2 (f : bS) (k : Nat) : (n4 f k).length ≤ k := by
 have := List.length_filter_le (fun t => decide (mg (dV f) ((1 <<< t : Nat) : Int) > 0)) (List.range k)
 simpa [n4] using this
end Go.Proofs.YtmmcenjknimhbaaGreat
namespace Go.Proofs.YtmmcenjknimhbaaGreat
open Go Go.T
def mF (b : SB) (bay j : Nat) : Int := nth b.1.adds (j * 4 + bay)
def mH (b : SB) (bay k : Nat) : List Int := (List.range 8).map fun j => if j < k then max 0 (mF b bay j) else 0
def oa (b : SB) (bay k : Nat) : List Int := (List.range 8).map fun j => if j < k then max 0 (-(mF b bay j)) else 0
def jA (b : SB) (bay k : Nat) : Int := nth b.1.first bay + ((List.range k).map fun j => max 0 (mF b bay j)).sum
structure Hj where
  adds : List Int
  less : List Int
  bound : Int
def HN (st : Hj) (p : v7) : Hj := ⟨st.adds.set p.src.toNat (nth st.adds p.src.toNat - p.much), st.less.set p.dst.toNat (nth st.less p.dst.toNat - p.much), st.bound - p.much⟩
def Bh (st : Hj) (p : v7) : Bool := decide (p.much > nth st.adds p.src.toNat) || decide (p.much > nth st.less p.dst.toNat)
def Ih (st : Hj) (p : v7) : Option Hj := if Bh st p then none else some (HN st p)
def tj (st : Hj) (l : List v7) : Option Hj := l.foldl (fun o p => o.bind fun s => Ih s p) (some st)
def FB (b : SB) (bay : Nat) : Hj := ⟨mH b bay b.1.f.turnings.length, oa b bay b.1.f.turnings.length, jA b bay b.1.f.turnings.length⟩
def BB (f : bS) (p : v7) : Bool := fC p.src 0 (f.turnings.length - 1) && fC p.dst 0 (f.turnings.length - 1)
def Ec (b : SB) (p : v7) : Bool := decide (((nth b.1.before p.src.toNat >>> p.dst.toNat &&& 1 : Nat) : Int) = 1)
def m6 (f : bS) (bay : Int) (pays : List v7) : Int × Int :=
  if fA f (!fC bay 0 (f.bears.length - 1)) ≠ 0 then (0, fA f (!fC bay 0 (f.bears.length - 1)))
  else if !pays.all (BB f) then (0, 1)
  else if !pays.all (fun p => decide (p.much ≥ 1)) then (0, 3)
  else if !pays.all (Ec (aX f)) then (0, 4)
  else match tj (FB (aX f) bay.toNat) pays with
    | none => (0, 8)
    | some st => (st.bound, 0)
theorem BO (b : SB) (bay : Nat) {k : Nat} (hk : k < 8) : (mH b bay k).set k (max 0 (mF b bay k)) = mH b bay (k + 1) :=
 pE 8 k (fun j => if j < k then max 0 (mF b bay j) else 0) (fun j => if j < k + 1 then max 0 (mF b bay j) else 0) _ fun j _ => by
  by_cases e : j = k
  ·subst e; simp
  by_cases h : j < k
  ·rw [if_pos (by omega), if_neg e, if_pos h]
  rw [if_neg (by omega), if_neg e, if_neg h]
theorem Iu (b : SB) (bay : Nat) {k : Nat} (hk : k < 8) : (oa b bay k).set k (max 0 (-(mF b bay k))) = oa b bay (k + 1) :=
 pE 8 k (fun j => if j < k then max 0 (-(mF b bay j)) else 0) (fun j => if j < k + 1 then max 0 (-(mF b bay j)) else 0) _ fun j _ => by
  by_cases e : j = k
  ·subst e; simp
  by_cases h : j < k
  ·rw [if_pos (by omega), if_neg e, if_pos h]
  rw [if_neg (by omega), if_neg e, if_neg h]
theorem Hy (b : SB) (bay : Nat) {k : Nat} (hk : k < 8) : nth (mH b bay (k + 1)) k = max 0 (mF b bay k) := by
 rw [mH, cy _ hk]; simp
theorem th (b : SB) (bay k : Nat) : jA b bay (k + 1) = jA b bay k + max 0 (mF b bay k) := by
 unfold jA; rw [List.range_succ, List.map_append, List.sum_append]; simp; omega
theorem qB {b : SB} (h : kO b) (bay j : Nat) : -1200 ≤ mF b bay j ∧ mF b bay j ≤ 1200 := h.adds _
theorem nr {b : SB} (h : kO b) (bay : Nat) : ∀ k, 0 ≤ jA b bay k ∧ jA b bay k ≤ 7200 + 1200 * k
  | 0 => by have := h.first bay; simp [jA]; omega
  | k + 1 => by
    rw [th]
    have := nr h bay k
    have := qB h bay k
    omega
structure Hj.kO (st : Hj) (k : Nat) : Prop where
  la : st.adds.length = 8
  ll : st.less.length = 8
  adds : ∀ j, 0 ≤ nth st.adds j ∧ nth st.adds j ≤ 1200
  less : ∀ j, 0 ≤ nth st.less j ∧ nth st.less j ≤ 1200
  bound : -(1200 * k) ≤ st.bound ∧ st.bound ≤ 20000
theorem gO {l : List Int} {i : Nat} (v : Int) (j : Nat) : nth (l.set i v) j = if i = j ∧ i < l.length then v else nth l j := by
 show (l.set i v).getD j default = _
 rw [List.getD_eq_getElem?_getD, List.getElem?_set]
 by_cases e : i = j
 ·subst e
  by_cases h : i < l.length
  ·simp [h]
  rw [if_pos rfl, if_neg h, if_neg (by simp [h]), Fo (by omega)]; rfl
 rw [if_neg e, if_neg (by simp [e])]
 show _ = l.getD j default
 rw [List.getD_eq_getElem?_getD]
theorem Lt {st : Hj} {k : Nat} {p : v7} (h : st.kO k) (h1 : 1 ≤ p.much) (hb : Bh st p = false) : (HN st p).kO (k + 1) := by
 simp only [Bh, Bool.or_eq_false_iff, decide_eq_false_iff_not] at hb
 have ha := h.adds p.src.toNat
 have hl := h.less p.dst.toNat
 have hbd := h.bound
 refine ⟨by simp [HN, h.la], by simp [HN, h.ll], fun j => ?_, fun j => ?_, ?_⟩
 ·simp only [HN]; rw [gO]; split
  ·omega
  exact h.adds j
 ·simp only [HN]; rw [gO]; split
  ·omega
  exact h.less j
 simp only [HN]; omega
theorem L8 {b : SB} (h : Go.Proofs.YtmmcenjknimhbaaGreat.kO b) (bay : Nat) : (FB b bay).kO 0 := by
 have hnt := h.nt
 refine ⟨by simp [FB, mH], by simp [FB, oa], fun j => ?_, fun j => ?_, ?_⟩
 ·simp only [FB, mH]
  rcases Nat.lt_or_ge j 8 with hj | hj
  ·rw [cy _ hj]; have := qB h bay j; split <;> omega
  rw [qK (by simpa using hj)]; omega
 ·simp only [FB, oa]
  rcases Nat.lt_or_ge j 8 with hj | hj
  ·rw [cy _ hj]; have := qB h bay j; split <;> omega
  rw [qK (by simpa using hj)]; omega
 have := nr h bay b.1.f.turnings.length
 simp only [FB]; omega
theorem Al : ∀ l : List v7, l.foldl (fun o p => o.bind fun s => Ih s p) none = none
  | [] => rfl
  | _ :: l => Al l
theorem AI {pays : List v7} {st s : Hj} {k : Nat} (hk : k < pays.length) (h : tj st (pays.take k) = some s) : tj st (pays.take (k + 1)) = Ih s (nth pays k) := by
 unfold tj at h ⊢
 rw [bh hk, List.foldl_append, h]; rfl
theorem JE {pays : List v7} {st s : Hj} {k : Nat} (hk : k < pays.length) (h : tj st (pays.take k) = some s) (hn : Ih s (nth pays k) = none) : tj st pays = none := by
 have := AI hk h
 rw [hn] at this
 have e : tj st pays = (pays.drop (k + 1)).foldl (fun o p => o.bind fun s => Ih s p) (tj st (pays.take (k + 1))) := by
  unfold tj; rw [← List.foldl_append, List.take_append_drop]
 rw [e, this, Al]
theorem xW (b : SB) (s : Nat) (m : KV) : ∀ j, mg (ql b s m j) s = mg m s + ((List.range j).map fun t => if s.testBit t then 0 else mg m ((s ||| 1 <<< t : Nat) : Int)).sum
  | 0 => by simp [ql]
  | j + 1 => by
    rw [lD, tV, List.range_succ, List.map_append, List.sum_append]
    cases hb : s.testBit j with
    | true => simp only [if_true]; rw [xW b s m j]; simp [hb]
    | false =>
      simp only [Bool.false_eq_true, if_false]
      rw [oO, if_pos rfl, xW b s m j, yf b (JY hb)]
      simp [hb]; omega
theorem vp (b : SB) (q : Nat → Bool) (n : Nat) {s k : Nat} (h : n ≤ s + k) : ∀ k', k ≤ k' → k' ≤ n → mg (gC b q n k') s = mg (gC b q n k) s := by
  intro k' h1 h2
  induction k' with
  | zero => rw [show k = 0 by omega]
  | succ k' ih =>
    rcases Nat.lt_or_ge k' k with h3 | h3
    · rw [show k' + 1 = k by omega]
    · rw [gC, uk b q (by omega), ih h3 (by omega)]
theorem Ga {s t n : Nat} (hs : s < 2 ^ n) (ht : t < n) : s ||| 1 <<< t < 2 ^ n := Nat.or_lt_two_pow hs (by rw [s8]; exact Nat.pow_lt_pow_right (by omega) ht)
theorem Uk {s t : Nat} (h : s.testBit t = false) : s < s ||| 1 <<< t := Nat.lt_of_le_of_ne Nat.left_le_or (fun e => JY h e.symm)
theorem RD {b : SB} (hb : kO b) (q : Nat → Bool) {s : Nat} (hs : s < 2 ^ b.1.f.turnings.length) :
    mg (iJ b q) s = if !eF b s || !q s then (0 : Int) else (if s + 1 = 2 ^ b.1.f.turnings.length then (1 : Int) else 0) + ((List.range b.1.f.turnings.length).map fun t => if s.testBit t then 0 else mg (iJ b q) ((s ||| 1 <<< t : Nat) : Int)).sum := by
  obtain ⟨N, hN⟩ : ∃ N, N = 1 <<< b.1.f.turnings.length := ⟨_, rfl⟩
  have hN2 : N = 2 ^ b.1.f.turnings.length := by rw [hN, s8]
  have hw : iJ b q = gC b q N N := by rw [iJ, hN]
  have hsl := q7 hb.nt
  rw [hw]
  have hfin : mg (gC b q N N) s = mg (gC b q N (N - s)) s := vp b q N (by omega) N (by omega) (Nat.le_refl _)
  have hk : N - s = (N - (s + 1)) + 1 := by omega
  rw [hfin, hk, gC, show N - (N - (s + 1) + 1) = s by omega, Fw]
  have hcl := sx hb q hN (N - (s + 1)) (by omega)
  have h0 : mg (gC b q N (N - (s + 1))) s = 0 := hcl.zero s (by omega)
  split
  · exact h0
  · rw [xW]
    have hsum : ((List.range b.1.f.turnings.length).map fun t => if s.testBit t then 0 else mg (jk b s (gC b q N (N - (s + 1)))) ((s ||| 1 <<< t : Nat) : Int)) = (List.range b.1.f.turnings.length).map fun t => if s.testBit t then 0 else mg (gC b q N N) ((s ||| 1 <<< t : Nat) : Int) := by
      refine List.map_congr_left fun t ht => ?_
      cases hbt : s.testBit t with
      | true => rfl
      | false =>
        simp only [Bool.false_eq_true, if_false]
        have := Uk hbt
        rw [wA b (by omega), ← vp b q N (k := N - (s + 1)) (by omega) N (by omega) (Nat.le_refl _)]
    rw [hsum]
    congr 1
    unfold jk
    by_cases e : s + 1 = 2 ^ b.1.f.turnings.length
    · rw [if_pos (by omega), if_pos e, oO, if_pos rfl]
    · rw [if_neg (by omega), if_neg e, h0]
def ku (w : KV) (s t : Nat) : Bool := !s.testBit t && decide (mg w ((s ||| 1 <<< t : Nat) : Int) > 0)
def gW (w : KV) (s j : Nat) : Int := match (List.range j).find? (ku w s) with | some t => (t : Int) | none => -1
def iF (w : KV) (n : Nat) : Nat → List Int × Nat
  | 0 => ([], 0)
  | i + 1 => let st := iF w n i; (st.1 ++ [gW w st.2 n], st.2 ||| 1 <<< (gW w st.2 n).toNat)
def vi (f : bS) : List Int × Int := if fA f false ≠ 0 then ([], fA f false) else if mg (dV f) 0 = 0 then ([], 6) else ((iF (dV f) f.turnings.length f.turnings.length).1, 0)
theorem rR (w : KV) (s j : Nat) : gW w s (j + 1) = if gW w s j < 0 ∧ ku w s j = true then (j : Int) else gW w s j := by
  unfold gW
  rw [List.range_succ, List.find?_append]
  cases h : (List.range j).find? (ku w s) with
  | some t => simp only [Option.some_or]; rw [if_neg (by omega)]
  | none =>
    simp only [Option.none_or, List.find?_cons, List.find?_nil]
    cases hk : ku w s j with
    | true => simp
    | false => simp
theorem vR (w : KV) (s j : Nat) : -1 ≤ gW w s j ∧ gW w s j < j := by
  induction j with
  | zero => exact ⟨Int.le_refl _, by show (-1 : Int) < ((0 : Nat) : Int); decide⟩
  | succ j ih => rw [rR]; split <;> omega
theorem yc {w : KV} {s n : Nat} (h : ∃ t, t < n ∧ ku w s t = true) : 0 ≤ gW w s n ∧ ku w s (gW w s n).toNat = true := by
  obtain ⟨t, ht, hk⟩ := h
  unfold gW
  cases hf : (List.range n).find? (ku w s) with
  | some u => exact ⟨Int.natCast_nonneg u, by simpa using List.find?_some hf⟩
  | none =>
    have := List.find?_eq_none.1 hf t (List.mem_range.2 ht)
    exact absurd hk (by simpa using this)
theorem RY {l : List Int} (h : 0 < l.sum) : ∃ x ∈ l, 0 < x := by
  induction l with
  | nil => simp at h
  | cons x l ih =>
    rw [List.sum_cons] at h
    by_cases hx : 0 < x
    · exact ⟨x, List.mem_cons_self, hx⟩
    · obtain ⟨y, hy, h2⟩ := ih (by omega)
      exact ⟨y, List.mem_cons_of_mem _ hy, h2⟩
theorem alive {b : SB} (hb : kO b) (q : Nat → Bool) {s : Nat} (hs : s < 2 ^ b.1.f.turnings.length) (hp : 0 < mg (iJ b q) s) (hn : s + 1 ≠ 2 ^ b.1.f.turnings.length) : ∃ t, t < b.1.f.turnings.length ∧ ku (iJ b q) s t = true := by
  rw [RD hb q hs] at hp
  split at hp
  · omega
  · first | rw [if_neg hn, Int.zero_add] at hp | rw [Int.zero_add] at hp
    obtain ⟨x, hx, h0⟩ := RY hp
    obtain ⟨t, ht, rfl⟩ := List.mem_map.1 hx
    refine ⟨t, List.mem_range.1 ht, ?_⟩
    cases hbt : s.testBit t with
    | true => rw [hbt] at h0; simp at h0
    | false => rw [hbt] at h0; simp only [Bool.false_eq_true, if_false] at h0; simp [ku, hbt]; exact h0
theorem EW : ((List.range 9).all fun n => pop (2 ^ n - 1) == n) = true := by decide +kernel
theorem vT {n : Nat} (h : n ≤ 8) : pop (2 ^ n - 1) = n := by
 have := List.all_eq_true.1 EW n (List.mem_range.2 (by omega))
 simpa using this
theorem u9 {n s : Nat} (h : n ≤ 8) (hs : s < 2 ^ n) : s < 256 := Nat.lt_of_lt_of_le hs (Nat.pow_le_pow_right (n := 2) (by omega) h)
theorem yD {w : KV} {s t : Nat} (h : ku w s t = true) : s.testBit t = false ∧ 0 < mg w ((s ||| 1 <<< t : Nat) : Int) := by
 simp only [ku, Bool.and_eq_true, Bool.not_eq_true', decide_eq_true_eq] at h; exact h
theorem zZ {b : SB} (hb : kO b) (q : Nat → Bool) (h0 : 0 < mg (iJ b q) 0) : ∀ i, i ≤ b.1.f.turnings.length → (iF (iJ b q) b.1.f.turnings.length i).2 < 2 ^ b.1.f.turnings.length ∧ pop (iF (iJ b q) b.1.f.turnings.length i).2 = i ∧ 0 < mg (iJ b q) ((iF (iJ b q) b.1.f.turnings.length i).2 : Nat) ∧ (iF (iJ b q) b.1.f.turnings.length i).1.length = i
  | 0, _ => ⟨Nat.two_pow_pos _, by show pop 0 = 0; decide +kernel, h0, rfl⟩
  | i + 1, hi => by
    obtain ⟨h1, h2, h3, h4⟩ := zZ hb q h0 i (by omega)
    have hnt := hb.nt
    have hne : (iF (iJ b q) b.1.f.turnings.length i).2 + 1 ≠ 2 ^ b.1.f.turnings.length := fun e => by
      have : (iF (iJ b q) b.1.f.turnings.length i).2 = 2 ^ b.1.f.turnings.length - 1 := by omega
      rw [this, vT hnt] at h2; omega
    obtain ⟨n1, n2⟩ := yc (alive hb q h1 h3 hne)
    obtain ⟨o1, o2⟩ := yD n2
    have hlt := (vR (iJ b q) (iF (iJ b q) b.1.f.turnings.length i).2 b.1.f.turnings.length).2
    refine ⟨Ga h1 (by omega), ?_, o2, ?_⟩
    · have := (Bc (u9 hnt h1) (by omega) o1).1
      show pop (_ ||| _) = _
      rw [this, h2]
    · show (_ ++ [_]).length = _
      rw [List.length_append, h4]; rfl
theorem Lr {b : SB} (hb : kO b) (q : Nat → Bool) (h0 : 0 < mg (iJ b q) 0) {i : Nat} (hi : i < b.1.f.turnings.length) :
 0 ≤ gW (iJ b q) (iF (iJ b q) b.1.f.turnings.length i).2 b.1.f.turnings.length := by
 obtain ⟨h1, h2, h3, h4⟩ := zZ hb q h0 i (by omega)
 have hnt := hb.nt
 have hne : (iF (iJ b q) b.1.f.turnings.length i).2 + 1 ≠ 2 ^ b.1.f.turnings.length := fun e => by
  have : (iF (iJ b q) b.1.f.turnings.length i).2 = 2 ^ b.1.f.turnings.length - 1 := by omega
  rw [this, vT hnt] at h2; omega
 exact (yc (alive hb q h1 h3 hne)).1
theorem Fv {b : SB} (hb : kO b) (q : Nat → Bool) {s : Nat} (hs : s < 256) : 0 ≤ mg (iJ b q) s :=
 ((sx hb q rfl _ (Nat.le_refl _)).small s hs).1
structure NC where
  best : KV
  next : KV
  found : Bool
def C5 (b : SB) (own : Int) (s : Nat) (st : NC) (t : Nat) : NC :=
  if s.testBit t || !eF b (s ||| 1 <<< t) then st
  else if !st.found || decide (min own (mg st.best ((s ||| 1 <<< t : Nat) : Int)) > mg st.best s) then ⟨cq st.best s (min own (mg st.best ((s ||| 1 <<< t : Nat) : Int))), cq st.next s t, true⟩
  else st
def gD (b : SB) (s : Nat) (m n : KV) (j : Nat) : NC := (List.range j).foldl (C5 b (mo b (iI b s)) s) ⟨cq m s (mo b (iI b s)), n, false⟩
theorem oV (b : SB) (s : Nat) (m n : KV) (j : Nat) : gD b s m n (j + 1) = C5 b (mo b (iI b s)) s (gD b s m n j) j := by simp [gD, List.range_succ]
def zk (b : SB) (s : Nat) (x : KV × KV) : KV × KV := if !eF b s then x else ((gD b s x.1 x.2 b.1.f.turnings.length).best, (gD b s x.1 x.2 b.1.f.turnings.length).next)
def gS (b : SB) (n : Nat) : Nat → KV × KV
  | 0 => ([], [])
  | k + 1 => zk b (n - (k + 1)) (gS b n k)
def n8 (b : SB) : KV × KV := gS b (1 <<< b.1.f.turnings.length) (1 <<< b.1.f.turnings.length)
def qJ (next : KV) : Nat → List Int × Nat
  | 0 => ([], 0)
  | i + 1 => let st := qJ next i; (st.1 ++ [mg next st.2], st.2 ||| 1 <<< (mg next st.2).toNat)
def kQ (f : bS) : List Int × Int × Int :=
  if fA f false ≠ 0 then ([], 0, fA f false) else ((qJ (n8 (aX f)).2 f.turnings.length).1, mg (n8 (aX f)).1 0, 0)
def yP (n : Nat) (m : KV) : Prop := ∀ k, 0 ≤ mg m k ∧ mg m k < n ∨ mg m k = 0
theorem K7 {n : Nat} {m : KV} (h : yP n m) (k : Int) {t : Nat} (ht : t < n) : yP n (cq m k t) := fun k' => by
 rw [oO]; split
 ·left; omega
 exact h k'
theorem vK {b : SB} {s : Nat} {m n : KV} (h : yP b.1.f.turnings.length n) : ∀ j, j ≤ b.1.f.turnings.length → yP b.1.f.turnings.length (gD b s m n j).next
  | 0, _ => h
  | j + 1, hj => by
    rw [oV, C5]
    have := vK (m := m) (s := s) h j (by omega)
    split
    · exact this
    · split
      · exact K7 this _ (by omega)
      · exact this
theorem qX (b : SB) (n : Nat) : ∀ k, yP b.1.f.turnings.length (gS b n k).2
  | 0 => fun _ => .inr rfl
  | k + 1 => by
    rw [gS, zk]
    split
    · exact qX b n k
    · exact vK (qX b n k) _ (Nat.le_refl _)
theorem BX {n : Nat} {next : KV} (h : yP n next) (hn : n ≤ 8) : ∀ i, (qJ next i).2 < 256 ∧ (qJ next i).1.length = i
  | 0 => ⟨by show 0 < 256; omega, rfl⟩
  | i + 1 => by
    obtain ⟨h1, h2⟩ := BX h hn i
    have h3 := h ((qJ next i).2 : Nat)
    refine ⟨?_, ?_⟩
    · show _ ||| _ < 2 ^ 8
      exact Ga h1 (by omega)
    · show (_ ++ [_]).length = _
      rw [List.length_append, h2]; rfl
end Go.Proofs.YtmmcenjknimhbaaGreat
namespace Go.Proofs.YtmmcenjknimhbaaGreat
open Go Go.T
inductive kZ (rules : List kT) : Int → Int → Prop
  | one {r : kT} : r ∈ rules → kZ rules r.fst r.nxt
  | step {r : kT} {a : Int} : r ∈ rules → kZ rules a r.fst → kZ rules a r.nxt
theorem kZ.trans {rules : List kT} {a b c : Int} (h1 : kZ rules a b) (h2 : kZ rules b c) : kZ rules a c := by
  induction h2 with
  | one hr => exact .step hr h1
  | step hr _ ih => exact .step hr (ih h1)
theorem yg {rules : List kT} : ∀ (n : Nat) (t : Int) (kn : List Int), ∀ x ∈ gz rules n t kn, x ∈ kn ∨ kZ rules x t
  | 0, _, _, _, h => .inl h
  | n + 1, t, kn, x, h => by
    have : ∀ (l : List kT), (∀ r ∈ l, r ∈ rules) → ∀ kn, x ∈ l.foldl (kS (gz rules n) t) kn → x ∈ kn ∨ kZ rules x t := by
      intro l
      induction l with
      | nil => intro _ kn h; exact .inl h
      | cons r l ih =>
        intro hl kn h
        rcases ih (fun r hr => hl r (List.mem_cons_of_mem _ hr)) _ h with h | h
        · unfold kS at h
          split at h
          · rename_i hc
            have hr := hl r List.mem_cons_self
            rcases yg n r.fst (kn ++ [r.fst]) x h with h | h
            · rcases List.mem_append.1 h with h | h
              · exact .inl h
              · rw [List.mem_singleton.1 h, ← hc.1]; exact .inr (.one hr)
            · rw [← hc.1]; exact .inr (.step hr h)
          · exact .inl h
        · exact .inr h
    exact this rules (fun _ h => h) kn h
def IA (rules : List kT) (l : List Int) (x : Int) : Prop := ∀ r ∈ rules, r.nxt = x → r.fst ∈ l
theorem vN {rules : List kT} : ∀ (n : Nat) (t : Int) (kn : List Int), OO rules kn < n →
    IA rules (gz rules n t kn) t ∧ ∀ x ∈ gz rules n t kn, x ∈ kn ∨ IA rules (gz rules n t kn) x
  | 0, _, _, h => by omega
  | n + 1, t, kn, hn => by
    have : ∀ (l : List kT), (∀ r ∈ l, r ∈ rules) → ∀ kn, OO rules kn < n + 1 →
        (∀ r ∈ l, r.nxt = t → r.fst ∈ l.foldl (kS (gz rules n) t) kn) ∧ ∀ x ∈ l.foldl (kS (gz rules n) t) kn, x ∈ kn ∨ IA rules (l.foldl (kS (gz rules n) t) kn) x := by
      intro l
      induction l with
      | nil => intro _ kn _; exact ⟨fun _ h => (List.not_mem_nil h).elim, fun x h => .inl h⟩
      | cons r l ih =>
        intro hl kn hk
        have hr := hl r List.mem_cons_self
        have hl' : ∀ r ∈ l, r ∈ rules := fun r hr => hl r (List.mem_cons_of_mem _ hr)
        rw [List.foldl_cons]
        have hgr : zE rules kn (kS (gz rules n) t kn r) := by
          unfold kS; split
          · rename_i hc; exact (Gt hr hc.2).trans (p6 rules n _ _)
          · exact .refl _ _
        have hk' : OO rules (kS (gz rules n) t kn r) < n + 1 := Nat.lt_of_le_of_lt (Hg hgr.1) hk
        obtain ⟨i1, i2⟩ := ih hl' _ hk'
        have hgf := xS (rules := rules) (rec := gz rules n) (t := t) (fun t kn => p6 rules n t kn) l hl' (kS (gz rules n) t kn r)
        have hmono : ∀ x ∈ kS (gz rules n) t kn r, x ∈ l.foldl (kS (gz rules n) t) (kS (gz rules n) t kn r) := hgf.1
        refine ⟨fun q hq hqt => ?_, fun x hx => ?_⟩
        · rcases List.mem_cons.1 hq with rfl | hq
          · refine hmono _ ?_
            unfold kS
            by_cases hc : q.nxt = t ∧ q.fst ∉ kn
            · rw [if_pos hc]; exact (p6 rules n _ _).1 _ (by simp)
            · rw [if_neg hc]; exact Classical.byContradiction fun h => hc ⟨hqt, h⟩
          · exact i1 q hq hqt
        · rcases i2 x hx with h | h
          · unfold kS at h
            split at h
            · rename_i hc
              have hu := KW hr hc.2
              obtain ⟨c1, c2⟩ := vN (rules := rules) n r.fst (kn ++ [r.fst]) (by omega)
              have e : kS (gz rules n) t kn r = gz rules n r.fst (kn ++ [r.fst]) := by unfold kS; rw [if_pos hc]
              rcases c2 x h with h | h
              · rcases List.mem_append.1 h with h | h
                · exact .inl h
                · rw [List.mem_singleton.1 h]
                  exact .inr fun q hq hqt => hmono _ (by rw [e]; exact c1 q hq hqt)
              · exact .inr fun q hq hqt => hmono _ (by rw [e]; exact h q hq hqt)
            · exact .inl h
          · exact .inr h
    obtain ⟨h1, h2⟩ := this rules (fun _ h => h) kn hn
    exact ⟨h1, h2⟩
theorem kH {f : bS} {a t : Int} : a ∈ vQ f t ↔ kZ f.rules a t := by
  constructor
  · intro h
    rcases yg _ _ _ a h with h | h
    · cases h
    · exact h
  · intro h
    obtain ⟨c1, c2⟩ := vN (f.rules.length + 1) t [] (Nat.lt_succ_of_le (Sn f.rules []))
    have : ∀ {a y : Int}, kZ f.rules a y → (y = t ∨ y ∈ vQ f t) → a ∈ vQ f t := by
      intro a y hl
      induction hl with
      | @one r hr =>
        rintro (e | hy)
        · exact c1 _ hr e
        · rcases c2 _ hy with h | h
          · cases h
          · exact h _ hr rfl
      | @step r a hr _ ih =>
        intro hy
        refine ih (.inr ?_)
        rcases hy with e | hy
        · exact c1 _ hr e
        · rcases c2 _ hy with h | h
          · cases h
          · exact h _ hr rfl
    exact this h (.inl rfl)
theorem gT {f : bS} {a t : Int} : a ∈ fX f t ↔ (0 ≤ a ∧ a < f.turnings.length) ∧ kZ f.rules a t := by
 unfold fX
 rw [List.mem_filter, eW, decide_eq_true_eq, kH]
theorem mL {i j : Nat} : (1 <<< i).testBit j = decide (i = j) := by
 rw [Nat.shiftLeft_eq, Nat.one_mul, Nat.testBit_two_pow]
theorem rK {l : List Nat} {i : Nat} (v : Nat) (j : Nat) : nth (l.set i v) j = if i = j ∧ i < l.length then v else nth l j := by
 show (l.set i v).getD j default = _
 rw [List.getD_eq_getElem?_getD, List.getElem?_set]
 by_cases e : i = j
 ·subst e
  by_cases h : i < l.length
  ·simp [h]
  rw [if_pos rfl, if_neg h, if_neg (by simp [h]), Fo (by omega)]; rfl
 rw [if_neg e, if_neg (by simp [e])]
 show _ = l.getD j default
 rw [List.getD_eq_getElem?_getD]
def LA (f : bS) (out : List Nat) : Prop := ∀ t a : Nat, (nth out t).testBit a = true → kZ f.rules a t
theorem Mm {f : bS} (hf : f.jQ) {out : List Nat} (h : LA f out) {r : kT} (hr : r ∈ f.rules) : LA f (fM out r) := by
 intro t a hb
 have h0 := hf.2 r hr
 unfold fM at hb
 rw [rK] at hb
 split at hb
 ·rename_i e
  have e1 : ((t : Nat) : Int) = r.nxt := by omega
  rw [Nat.testBit_or, Nat.testBit_or, mL, Bool.or_eq_true, Bool.or_eq_true, decide_eq_true_eq] at hb
  rcases hb with hb | hb | hb
  ·have := h _ _ hb; rwa [show ((r.nxt.toNat : Nat) : Int) = t by omega] at this
  ·have := h _ _ hb
   rw [show ((r.fst.toNat : Nat) : Int) = r.fst by omega] at this
   rw [e1]; exact .step hr this
  rw [e1, show (a : Int) = r.fst by omega]; exact .one hr
 exact h _ _ hb
theorem DQ {f : bS} (hf : f.jQ) : ∀ (l : List kT), (∀ r ∈ l, r ∈ f.rules) → ∀ out, LA f out → LA f (l.foldl fM out)
  | [], _, _, h => h
  | r :: l, hl, out, h => DQ hf l (fun r hr => hl r (List.mem_cons_of_mem _ hr)) _ (Mm hf h (hl r List.mem_cons_self))
theorem DV {f : bS} (hf : f.jQ) : ∀ n out, LA f out → LA f (mP f n out)
  | 0, _, h => h
  | n + 1, out, h => by
    rw [mP]; split
    · exact h
    · exact DV hf n _ (DQ hf f.rules (fun _ h => h) out h)
theorem Gi {f : bS} (hf : f.jQ) : ∀ n out, Sets out → 2040 < n + out.sum → mK f (mP f n out) = mP f n out
  | 0, out, h, hn => by have := vB h; omega
  | n + 1, out, h, hn => by
    rw [mP]; split
    · assumption
    · rename_i hne
      obtain ⟨m, e, _, h2, h3⟩ := Ds hf h hn hne
      have : m = n := by omega
      subst this
      exact Gi hf _ _ h2 h3
theorem FZ : ∀ (l : List kT) (out : List Nat), Sets out → (∀ r ∈ l, r.fst.toNat < 8 ∧ r.nxt.toNat < 8) → l.foldl fM out = out → ∀ r ∈ l, fM out r = out
  | [], _, _, _, _, _, h => by cases h
  | r :: l, out, h, hl, he, q, hq => by
    have hr := hl r List.mem_cons_self
    obtain ⟨a1, a2⟩ := Ci h hr.2
    obtain ⟨_, b2, _⟩ := m9 l (fM out r) (CZ h hr.1) fun x hx => hl x (List.mem_cons_of_mem _ hx)
    rw [List.foldl_cons] at he
    have e1 : fM out r = out := a2 (by rw [he] at b2; omega)
    rcases List.mem_cons.1 hq with rfl | hq
    · exact e1
    · rw [e1] at he
      exact FZ l out h (fun x hx => hl x (List.mem_cons_of_mem _ hx)) he q hq
theorem nW {f : bS} (hf : f.jQ) {a t : Int} (h : kZ f.rules a t) : (0 ≤ a ∧ a < f.turnings.length) ∧ (0 ≤ t ∧ t < f.turnings.length) := by
  induction h with
  | one hr => exact hf.2 _ hr
  | step hr _ ih => exact ⟨ih.1, (hf.2 _ hr).2⟩
theorem o8 {f : bS} (hf : f.jQ) (t a : Nat) : (nth (gp f) t).testBit a = true ↔ kZ f.rules a t := by
  constructor
  · refine DV hf _ _ (fun t a hb => ?_) t a
    have h0 : nth (List.replicate 8 0) t = 0 := by
      show (List.replicate 8 0).getD t default = 0
      rw [List.getD_eq_getElem?_getD, List.getElem?_replicate]; split <;> rfl
    rw [h0, Nat.zero_testBit] at hb; cases hb
  · have hs := lA hf
    have hfix : mK f (gp f) = gp f := Gi hf _ _ uR (by decide)
    have hstep := FZ f.rules (gp f) hs (um hf) hfix
    have key : ∀ {a t : Int}, kZ f.rules a t → (nth (gp f) t.toNat).testBit a.toNat = true := by
      intro a t hl
      induction hl with
      | @one r hr =>
        have h8 := um hf r hr
        have e := congrArg (fun l => nth l r.nxt.toNat) (hstep r hr)
        simp only [fM] at e
        rw [rK, if_pos ⟨rfl, by rw [hs.len]; exact h8.2⟩] at e
        rw [← e, Nat.testBit_or, Nat.testBit_or, mL]; simp
      | @step r a hr _ ih =>
        have h8 := um hf r hr
        have e := congrArg (fun l => nth l r.nxt.toNat) (hstep r hr)
        simp only [fM] at e
        rw [rK, if_pos ⟨rfl, by rw [hs.len]; exact h8.2⟩] at e
        rw [← e, Nat.testBit_or, Nat.testBit_or, ih]; simp
    intro h
    simpa using key h
theorem Nx {f : bS} (hf : f.jQ) : xh f = (s6 f.turnings.length).any fun t => decide (t ∈ fX f t) := by
 rw [Bool.eq_iff_iff, xh, List.any_eq_true, List.any_eq_true]
 constructor
 ·rintro ⟨t, ht, hb⟩
  have hl := (o8 hf t t).1 hb
  have hn := nW hf hl
  exact ⟨(t : Int), eW.2 hn.1, by rw [decide_eq_true_eq, gT]; exact ⟨hn.1, hl⟩⟩
 rintro ⟨t, ht, hb⟩
 rw [decide_eq_true_eq, gT] at hb
 obtain ⟨n, rfl⟩ := Int.eq_ofNat_of_zero_le hb.1.1
 have := hf.1
 exact ⟨n, List.mem_range.2 (by omega), (o8 hf n n).2 hb.2⟩
theorem jZ {α : Type} (q p : α → Bool) (l : List α) (h : ∀ x, q x = !p x) : (!l.all q) = l.any p := by
 rw [List.all_eq_not_any_not, Bool.not_not]
 congr 1
 funext x; rw [h, Bool.not_not]
theorem kC (n lo hi : Int) : fC n lo hi = !dY n lo hi := by
 rw [fC, dY, Bool.eq_iff_iff]
 simp only [Bool.and_eq_true, decide_eq_true_eq, Bool.not_eq_true', Bool.or_eq_false_iff, decide_eq_false_iff_not]
 omega
theorem QY {α : Type} [Inhabited α] (p : α → Bool) (l : List α) : ((s6 l.length).any fun i => p (nth l i.toNat)) = l.any p := by
 rw [Bool.eq_iff_iff, List.any_eq_true, List.any_eq_true]
 constructor
 ·rintro ⟨x, hx, h⟩
  have := eW.1 hx
  exact ⟨_, bL (by omega), h⟩
 rintro ⟨x, hx, h⟩
 obtain ⟨i, hi, rfl⟩ := List.getElem_of_mem hx
 exact ⟨(i : Int), eW.2 ⟨by omega, by omega⟩, by rw [show ((i : Int)).toNat = i from rfl, cF hi]; exact h⟩
theorem RM {α : Type} (p q : α → Bool) (l : List α) : (l.any fun x => p x || q x) = (l.any p || l.any q) := by
  induction l with
  | nil => rfl
  | cons x l ih => simp only [List.any_cons, ih]; cases p x <;> cases q x <;> simp
theorem jD (f : bS) : bk f = gR f := by
 have e1 : lM f = (f.many || f.bins.any fun b => !decide ((b.shares.length : Int) = f.bears.length)) := by
  rw [lM, bS.many, kC, Bool.not_not, jZ _ (fun b : qP => !decide ((b.shares.length : Int) = f.bears.length)) _ (fun _ => by rw [Bool.not_not])]
 have e2 : mG f = ((f.bears.any fun n => dY n 0 4000) || f.turnings.any fun t => dY t.sacks 1 300) := by
  rw [mG, jZ _ (fun n => dY n 0 4000) _ (fun _ => kC _ _ _), jZ _ (fun t : mO => dY t.sacks 1 300) _ (fun _ => kC _ _ _)]
 have e3 : nU f = f.bins.any fun b => dY b.has 0 300 || b.shares.any fun n => dY n 0 4 := by
  rw [nU, jZ _ (fun b : qP => dY b.has 0 300 || b.shares.any fun n => dY n 0 4) _ fun b : qP => by rw [Bool.not_or, kC, ← jZ (fun n => fC n 0 4) (fun n => dY n 0 4) b.shares (fun _ => kC _ _ _), Bool.not_not]]
 have e4 : p5 f = ((f.turnings.any fun t => dY t.src (-1) (f.bins.length - 1) || dY t.dst (-1) (f.bins.length - 1)) || f.rules.any fun r => dY r.fst 0 (f.turnings.length - 1) || dY r.nxt 0 (f.turnings.length - 1)) := by
  rw [p5, jZ _ (fun t : mO => dY t.src (-1) (f.bins.length - 1) || dY t.dst (-1) (f.bins.length - 1)) _ (fun _ => by rw [Bool.not_or, kC, kC]), jZ _ (fun r : kT => dY r.fst 0 (f.turnings.length - 1) || dY r.nxt 0 (f.turnings.length - 1)) _ (fun _ => by rw [Bool.not_or, kC, kC])]
 have e5 : uf f = f.turnings.any fun t => decide (t.src = t.dst) := by rw [uf, jZ _ _ _ fun _ => rfl]
 have e6 : (rS f || xN f) = (s6 f.bins.length).any fun i => f.lU i.toNat (f.bins.getD i.toNat default) := by
  have h6 : rS f = (s6 f.bins.length).any fun i => !decide ((nth f.bins i.toNat).shares.sum = 4) := by
   rw [rS, jZ _ (fun b : qP => !decide (b.shares.sum = 4)) _ (fun _ => by rw [Bool.not_not]), QY (fun b : qP => !decide (b.shares.sum = 4))]
  rw [h6, xN, ← RM, Bool.eq_iff_iff, List.any_eq_true, List.any_eq_true]
  have : ∀ i ∈ s6 f.bins.length, f.lU i.toNat (f.bins.getD i.toNat default) = (!decide ((nth f.bins i.toNat).shares.sum = 4) || decide (gx f f.turnings i > (nth f.bins i.toNat).has)) := fun i hi => by
   have := eW.1 hi
   rw [bS.lU, show ((i.toNat : Nat) : Int) = i by omega]; rfl
  exact ⟨fun ⟨i, hi, h⟩ => ⟨i, hi, by rw [this i hi]; exact h⟩, fun ⟨i, hi, h⟩ => ⟨i, hi, by rw [← this i hi]; exact h⟩⟩
 have e7 : ig f = 0 → xh f = (s6 f.turnings.length).any fun t => decide (t ∈ fX f t) := fun h => Nx (rV h).ruled
 rw [bk, gR, vW]
 rw [← e6]
 unfold ig at e7 ⊢
 rw [e1, e2, e3, e4, e5] at e7 ⊢
 revert e7
 generalize (f.bins.any fun b => !decide ((b.shares.length : Int) = f.bears.length)) = b2
 generalize f.many = b1
 generalize (f.bears.any fun n => dY n 0 4000) = b3
 generalize (f.turnings.any fun t => dY t.sacks 1 300) = b5
 generalize (f.bins.any fun b => dY b.has 0 300 || b.shares.any fun n => dY n 0 4) = b4
 generalize (f.turnings.any fun t => dY t.src (-1) (f.bins.length - 1) || dY t.dst (-1) (f.bins.length - 1)) = c1
 generalize (f.rules.any fun r => dY r.fst 0 (f.turnings.length - 1) || dY r.nxt 0 (f.turnings.length - 1)) = c2
 generalize (f.turnings.any fun t => decide (t.src = t.dst)) = c3
 generalize rS f = c4
 generalize xN f = c5
 generalize xh f = d1
 generalize ((s6 f.turnings.length).any fun t => decide (t ∈ fX f t)) = d2
 cases b1 <;> cases b2 <;> (try (intro _; rfl)) <;> cases b3 <;> cases b5 <;> cases b4 <;> (try (intro _; rfl)) <;> cases c1 <;> cases c2 <;> (try (intro _; rfl)) <;> cases c3 <;> cases c4 <;> cases c5 <;> (try (intro _; rfl)) <;> (intro h; rw [h (by simp)]; rfl)
end Go.Proofs.YtmmcenjknimhbaaGreat
namespace Go.Proofs.YtmmcenjknimhbaaGreat
open Go Go.T
def Sa (l : List v7) (t : Int) : Int := (l.map fun p => if p.src = t then p.much else 0).sum
def So (l : List v7) (t : Int) : Int := (l.map fun p => if p.dst = t then p.much else 0).sum
def Pos (l : List v7) : Prop := ∀ p ∈ l, 1 ≤ p.much
theorem ia (n : Nat) (g : Nat → Int) : ((List.range (n + 1)).map g).sum = ((List.range n).map g).sum + g n := by simp [List.range_succ]
theorem B0 (n : Nat) (g h : Nat → Int) : ((List.range n).map fun i => g i + h i).sum = ((List.range n).map g).sum + ((List.range n).map h).sum := by
  induction n with
  | zero => rfl
  | succ n ih => rw [ia, ia, ia, ih]; omega
theorem nS : ∀ n, ((List.range n).map fun _ => (0 : Int)).sum = 0
  | 0 => rfl
  | n + 1 => by rw [ia, nS n]; rfl
theorem B1 (n : Nat) (x m : Int) (h : 0 ≤ x ∧ x < n) : ((List.range n).map fun (t : Nat) => if x = (t : Int) then m else 0).sum = m := by
  induction n with
  | zero => omega
  | succ n ih =>
    rw [ia]
    by_cases e : x = (n : Int)
    · have : ((List.range n).map fun (t : Nat) => if x = (t : Int) then m else 0).sum = 0 := by
        have : ((List.range n).map fun (t : Nat) => if x = (t : Int) then m else 0) = (List.range n).map fun _ => 0 := List.map_congr_left fun t ht => by
          have := List.mem_range.1 ht
          rw [if_neg (by omega)]
        rw [this, nS]
      rw [this, if_pos e]; omega
    · rw [ih (by omega), if_neg e]; omega
structure Hj.Ok (st : Hj) : Prop where
  la : st.adds.length = 8
  ll : st.less.length = 8
  adds : ∀ t, 0 ≤ nth st.adds t
  less : ∀ t, 0 ≤ nth st.less t
theorem qw (f : bS) {s : List Int} {i : Nat} (v : Int) (hi : i < s.length) (b : Nat) : ∀ n, n5 f (s.set i v) n b = n5 f s n b + if i < n then (v - nth s i) * nth (nth f.bins i).shares b else 0
  | 0 => by simp [n5]
  | n + 1 => by
    rw [sU, sU, qw f v hi b n, gO]
    by_cases e : i = n
    · subst e
      rw [if_neg (by omega), if_pos ⟨rfl, hi⟩, if_pos (by omega), Int.sub_mul]; omega
    · have h2 : (if i = n ∧ i < s.length then v else nth s n) = nth s n := if_neg (fun x => e x.1)
      rw [h2]
      by_cases h : i < n
      · rw [if_pos h, if_pos (by omega)]; omega
      · rw [if_neg h, if_neg (by omega)]; omega
theorem ke (f : bS) (s : List Int) {b : Nat} (hb : b < f.bears.length) : nth (sH f s) b = n5 f s f.bins.length b := cy _ hb
theorem first_eq (f : bS) {b : Nat} (hb : b < f.bears.length) : nth (nth (gF f []) 0) b = gQ f b f.bins.length := by
  rw [jr (order := []) (k := 0) (Nat.zero_le _), ke f _ hb]
  have : ∀ n, n ≤ f.bins.length → n5 f (kN f [] 0) n b = gQ f b n := by
    intro n
    induction n with
    | zero => intro _; rfl
    | succ n ih =>
      intro hn
      rw [sU, sC f b hn, ih (by omega)]
      have : nth (kN f [] 0) n = (nth f.bins n).has := by
        show nth (f.bins.map qP.has) n = _
        rw [cF (by rw [List.length_map]; exact hn), cF hn]; simp
      rw [this]
  exact this _ (Nat.le_refl _)
theorem Kf {f : bS} (hn : f.Ck) {t : Nat} (ht : t < f.turnings.length) {b : Nat} (hb : b < f.bears.length) : TG f t b = wq f t b := by
 have h := hn _ (bL ht)
 unfold TG
 rw [jr (order := [(t : Int)]) (k := 1) (Nat.le_refl _), jr (order := [(t : Int)]) (k := 0) (Nat.zero_le _), ke f _ hb, ke f _ hb]
 have e0 : kN f [(t : Int)] 0 = f.bins.map qP.has := rfl
 have e1 : kN f [(t : Int)] 1 = kg f (f.bins.map qP.has) (t : Int) := rfl
 rw [e0, e1, kg, show ((t : Int)).toNat = t from rfl, wq]
 have hl : (f.bins.map qP.has).length = f.bins.length := by simp
 generalize f.bins.map qP.has = s at hl
 generalize nth f.turnings t = u at h
 have h1 : n5 f (l6 u s) f.bins.length b = n5 f s f.bins.length b - u.sacks * ir f u.src b := by
  unfold l6 ir
  by_cases e : u.src ≥ 0
  ·rw [if_pos e, if_neg (by omega), qw f _ (by omega) b, if_pos (by omega)]
   rw [show nth s u.src.toNat - u.sacks - nth s u.src.toNat = -u.sacks by omega, Int.neg_mul]; omega
  rw [if_neg e, if_pos (by omega), Int.mul_zero]; omega
 have h2 : n5 f (vm u (l6 u s)) f.bins.length b = n5 f (l6 u s) f.bins.length b + u.sacks * ir f u.dst b := by
  have hl1 := w5 u s
  unfold vm ir
  by_cases e : u.dst ≥ 0
  ·rw [if_pos e, if_neg (by omega), qw f _ (by omega) b, if_pos (by omega)]
   rw [show nth (l6 u s) u.dst.toNat + u.sacks - nth (l6 u s) u.dst.toNat = u.sacks by omega]
  rw [if_neg e, if_pos (by omega), Int.mul_zero]; omega
 rw [h2, h1, Int.mul_sub]; omega
theorem Q3 {f : bS} (h : bk f = 0) {t n : Nat} (ht : t < f.turnings.length) (hn : n < f.bears.length) : mF (aX f) n t = TG f t n := by
 have hr := (cB h).ranged
 have h4 := hr.bears
 have h8 := hr.turnings
 rw [mF, mC h, Kf (cB h).named ht hn]
 show nth ((List.range 32).map (AA f f.bears.length 0)) (t * 4 + n) = _
 rw [cy _ (by omega), AA, show (t * 4 + n) / 4 = t by omega, show (t * 4 + n) % 4 = n by omega, if_pos ⟨ht, .inl hn⟩]
theorem LY {f : bS} (h : bk f = 0) {n : Nat} (hn : n < f.bears.length) : nth (aX f).1.first n = nth (nth (gF f []) 0) n := by
 have h4 := (cB h).ranged.bears
 rw [mC h, first_eq f hn]
 show nth ((List.range 4).map (mE f f.bears.length 0)) n = _
 rw [cy _ (by omega), mE, if_pos hn]
end Go.Proofs.YtmmcenjknimhbaaGreat
namespace Go.Proofs.YtmmcenjknimhbaaGreat
open Go Go.T
end Go.Proofs.YtmmcenjknimhbaaGreat
namespace Go.Proofs.YtmmcenjknimhbaaGreat
open Go Go.T
theorem sJ {s : Nat} {t : Int} : t ∈ cQ s ↔ ∃ i : Nat, i < 8 ∧ s.testBit i = true ∧ t = i := by
 constructor
 ·intro h
  obtain ⟨i, hi, rfl⟩ := List.mem_map.1 h
  obtain ⟨h1, h2⟩ := List.mem_filter.1 hi
  exact ⟨i, List.mem_range.1 h1, h2, rfl⟩
 rintro ⟨i, hi, hb, rfl⟩
 exact List.mem_map.2 ⟨i, List.mem_filter.2 ⟨List.mem_range.2 hi, hb⟩, rfl⟩
theorem zT {s i n : Nat} (h : s < 2 ^ n) (hb : s.testBit i = true) : i < n := by
 rcases Nat.lt_or_ge i n with h1 | h1
 ·exact h1
 rw [Nat.testBit_lt_two_pow (Nat.lt_of_lt_of_le h (Nat.pow_le_pow_right (by omega) h1))] at hb; cases hb
theorem Mu {f : bS} (h : bk f = 0) : (aX f).1.before = gp f := by rw [mC h]; rfl
theorem P7 {f : bS} (h : bk f = 0) : f.turnings.length ≤ 8 := (cB h).ruled.1
theorem pq {f : bS} (h : bk f = 0) {s : Nat} (hs : s < 2 ^ f.turnings.length) : eF (aX f) s = true ↔ ∀ t a : Nat, s.testBit t = true → kZ f.rules a t → s.testBit a = true := by
 have hr := (cB h).ruled
 have hn := P7 h
 have h256 := u9 hn hs
 have hst := lA hr
 unfold eF
 rw [List.all_eq_true, Mu h]
 constructor
 ·intro hw t a ht hl
  have ht8 : t < 8 := by have := zT hs ht; omega
  have := of_decide_eq_true (hw (t : Int) (sJ.2 ⟨t, ht8, ht, rfl⟩))
  rw [Int.toNat_natCast, yx (by have := hst.nth t; omega) (by omega)] at this
  exact this a ((o8 hr t a).2 hl)
 intro hw x hx
 obtain ⟨t, ht8, ht, rfl⟩ := sJ.1 hx
 rw [Int.toNat_natCast]
 refine decide_eq_true ((yx (by have := hst.nth t; omega) (by omega)).2 fun a ha => hw t a ht ((o8 hr t a).1 ha))
theorem BZ {f : bS} (h : bk f = 0) (t : Int) : ¬ kZ f.rules t t := by
 intro hl
 have hr := (cB h).ruled
 have hc : xh f = false := by
  unfold bk at h
  split at h
  ·exact absurd h ‹_›
  split at h
  ·cases h
  exact Bool.eq_false_iff.2 ‹_›
 have hin := nW hr hl
 obtain ⟨k, rfl⟩ := Int.eq_ofNat_of_zero_le hin.1.1
 have := fH hc (List.mem_range.2 (show k < 8 by have := hr.1; omega))
 rw [(o8 hr k k).2 hl] at this
 cases this
theorem uU {s t a : Nat} : (s ||| 1 <<< t).testBit a = (s.testBit a || decide (t = a)) := by rw [Nat.testBit_or, mL]
structure By (f : bS) (done : List Int) (s : Nat) : Prop where
  rng : ∀ t ∈ done, 0 ≤ t ∧ t < f.turnings.length
  nodup : done.Nodup
  bit : ∀ a : Nat, s.testBit a = true ↔ (a : Int) ∈ done
  lt : s < 2 ^ f.turnings.length
  pop : pop s = done.length
  whole : eF (aX f) s = true
theorem J4 {f : bS} (h : bk f = 0) : By f [] 0 where
 rng _ h := by cases h
 nodup := List.nodup_nil
 bit a := by simp
 lt := Nat.two_pow_pos _
 pop := by decide +kernel
 whole := (pq h (Nat.two_pow_pos _)).2 fun t a ht => by simp at ht
theorem nG {f : bS} (h : bk f = 0) {done : List Int} {s : Nat} (hr : By f done s) {t : Nat} (ht : t < f.turnings.length) : jS f done t = true ↔ s.testBit t = false ∧ eF (aX f) (s ||| 1 <<< t) = true := by
 have hru := (cB h).ruled
 unfold jS
 rw [pq h (Ga hr.lt ht), Bool.and_eq_true, Bool.not_eq_true', decide_eq_false_iff_not, List.all_eq_true]
 have hb : s.testBit t = false ↔ ¬ (t : Int) ∈ done := by rw [← hr.bit t, Bool.not_eq_true]
 rw [hb]
 refine and_congr_right fun hnd => ⟨fun hall u a hu hl => ?_, fun hall x hx => ?_⟩
 ·rw [uU] at hu ⊢
  rw [Bool.or_eq_true] at hu ⊢
  rcases hu with hu | hu
  ·exact .inl ((pq h hr.lt).1 hr.whole u a hu hl)
  obtain rfl : t = u := of_decide_eq_true hu
  have hl' := nW hru hl
  have := of_decide_eq_true (hall (a : Int) (gT.2 ⟨hl'.1, hl⟩))
  exact .inl ((hr.bit a).2 this)
 obtain ⟨hx1, hx2⟩ := gT.1 hx
 obtain ⟨a, rfl⟩ := Int.eq_ofNat_of_zero_le hx1.1
 have := hall t a (by rw [uU]; simp) hx2
 rw [uU, Bool.or_eq_true] at this
 rcases this with h1 | h1
 ·exact decide_eq_true ((hr.bit a).1 h1)
 obtain rfl : t = a := of_decide_eq_true h1
 exact absurd hx2 (BZ h _)
theorem Ed {f : bS} (h : bk f = 0) {done : List Int} {s : Nat} (hr : By f done s) {t : Nat} (ht : t < f.turnings.length) (hb : s.testBit t = false) (hw : eF (aX f) (s ||| 1 <<< t) = true) : By f (done ++ [(t : Int)]) (s ||| 1 <<< t) where
 rng x hx := by
  rcases List.mem_append.1 hx with h1 | h1
  ·exact hr.rng x h1
  rw [List.mem_singleton.1 h1]; omega
 nodup := by
  rw [List.nodup_append]
  refine ⟨hr.nodup, by simp, fun x hx y hy => ?_⟩
  rw [List.mem_singleton.1 hy]
  rintro rfl
  rw [(hr.bit t).2 hx] at hb; cases hb
 bit a := by
  rw [uU, Bool.or_eq_true, hr.bit a, List.mem_append, List.mem_singleton, decide_eq_true_eq]
  exact or_congr_right ⟨fun e => by rw [e], fun e => by omega⟩
 lt := Ga hr.lt ht
 pop := by
  rw [(Bc (u9 (P7 h) hr.lt) (by have := P7 h; omega) hb).1, hr.pop]; simp
 whole := hw
theorem On : ((List.range 9).all fun n => (List.range (2 ^ n)).all fun s => !(pop s == n) || s + 1 == 2 ^ n) = true := by decide +kernel
theorem G9 {n s : Nat} (hn : n ≤ 8) (hs : s < 2 ^ n) (h : pop s = n) : s + 1 = 2 ^ n := by
 have := List.all_eq_true.1 (List.all_eq_true.1 On n (List.mem_range.2 (by omega))) s (List.mem_range.2 hs)
 rw [h] at this; simpa using this
theorem By.full {f : bS} (h : bk f = 0) {done : List Int} {s : Nat} (hr : By f done s) : done.length = f.turnings.length ↔ s + 1 = 2 ^ f.turnings.length := by
 rw [← hr.pop]
 refine ⟨G9 (P7 h) hr.lt, fun e => ?_⟩
 rw [show s = 2 ^ f.turnings.length - 1 by omega, vT (P7 h)]
theorem I4 : ((List.range 9).all fun n => (List.range (2 ^ n)).all fun s => Nat.ble (pop s) n) = true := by decide +kernel
theorem By.le {f : bS} (h : bk f = 0) {done : List Int} {s : Nat} (hr : By f done s) : done.length ≤ f.turnings.length := by
 have := List.all_eq_true.1 (List.all_eq_true.1 I4 f.turnings.length (List.mem_range.2 (by have := P7 h; omega))) s (List.mem_range.2 hr.lt)
 rw [Nat.ble_eq, hr.pop] at this; exact this
theorem yw {α : Type} {p q : α → Bool} : ∀ {l : List α}, (∀ x ∈ l, p x = true → q x = true) → ∀ {a : α}, a ∈ l → q a = true → p a = false → (l.filter p).length < (l.filter q).length
  | [], _, _, ha, _, _ => by cases ha
  | x :: l, h, a, ha, hq, hp => by
    have hle : (l.filter p).length ≤ (l.filter q).length := by
      have hl : ∀ x ∈ l, p x = true → q x = true := fun x hx => h x (List.mem_cons_of_mem _ hx)
      clear h ha
      induction l with
      | nil => simp
      | cons y l ih =>
        have h1 := hl y List.mem_cons_self
        have h2 := ih fun z hz => hl z (List.mem_cons_of_mem _ hz)
        rw [List.filter_cons, List.filter_cons]
        cases hpy : p y with
        | true => rw [h1 hpy]; simp; omega
        | false => cases q y <;> simp <;> omega
    rcases List.mem_cons.1 ha with rfl | ha
    · rw [List.filter_cons, List.filter_cons, hp, hq]; simp; omega
    · have := yw (fun y hy => h y (List.mem_cons_of_mem _ hy)) ha hq hp
      have h1 := h x List.mem_cons_self
      rw [List.filter_cons, List.filter_cons]
      cases hpx : p x with
      | true => rw [h1 hpx]; simp; omega
      | false => cases q x <;> simp <;> omega
theorem I2 {f : bS} (h : bk f = 0) {done : List Int} {s : Nat} (hr : By f done s) (hlt : done.length < f.turnings.length) : ∃ t : Nat, t < f.turnings.length ∧ s.testBit t = false ∧ eF (aX f) (s ||| 1 <<< t) = true := by
  have key : ∀ k t : Nat, t < f.turnings.length → s.testBit t = false → (fX f t).length ≤ k → ∃ t : Nat, t < f.turnings.length ∧ s.testBit t = false ∧ eF (aX f) (s ||| 1 <<< t) = true := by
    intro k
    induction k with
    | zero =>
      intro t ht hb hk
      have : fX f t = [] := List.eq_nil_of_length_eq_zero (by omega)
      refine ⟨t, ht, (nG h hr ht).1 ?_⟩
      unfold jS
      rw [this]
      have : ¬ (t : Int) ∈ done := fun hx => by rw [(hr.bit t).2 hx] at hb; cases hb
      simp [this]
    | succ k ih =>
      intro t ht hb hk
      cases hrd : jS f done t with
      | true => exact ⟨t, ht, (nG h hr ht).1 hrd⟩
      | false =>
        have hnd : ¬ (t : Int) ∈ done := fun hx => by rw [(hr.bit t).2 hx] at hb; cases hb
        unfold jS at hrd
        rw [decide_eq_false hnd] at hrd
        simp only [Bool.not_false, Bool.true_and] at hrd
        have : ∃ a ∈ fX f t, ¬ a ∈ done := by
          apply Classical.byContradiction
          intro hno
          rw [List.all_eq_true.2 (fun a ha => decide_eq_true (Classical.byContradiction fun hx => hno ⟨a, ha, hx⟩))] at hrd
          cases hrd
        obtain ⟨a, ha, had⟩ := this
        obtain ⟨⟨ha1, ha2⟩, hl⟩ := gT.1 ha
        obtain ⟨n, rfl⟩ := Int.eq_ofNat_of_zero_le ha1
        refine ih n (by omega) (Bool.eq_false_iff.2 fun hx => had ((hr.bit n).1 hx)) ?_
        have : (fX f n).length < (fX f t).length := by
          unfold fX
          refine yw (a := (n : Int)) (fun x _ hx => ?_) (eW.2 ⟨ha1, ha2⟩) ?_ ?_
          · exact decide_eq_true (kH.2 (kZ.trans (kH.1 (of_decide_eq_true hx)) hl))
          · exact decide_eq_true (kH.2 hl)
          · exact decide_eq_false fun hx => BZ h _ (kH.1 hx)
        omega
  have : ∃ t : Nat, t < f.turnings.length ∧ s.testBit t = false := by
    apply Classical.byContradiction
    intro hno
    have e : s = 2 ^ f.turnings.length - 1 := by
      apply Nat.eq_of_testBit_eq
      intro i
      rw [Nat.testBit_two_pow_sub_one]
      by_cases hi : i < f.turnings.length
      · rw [decide_eq_true hi]
        exact Classical.byContradiction fun hx => hno ⟨i, hi, Bool.eq_false_iff.2 hx⟩
      · rw [decide_eq_false hi]
        exact Bool.eq_false_iff.2 fun hx => hi (zT hr.lt hx)
    have := (hr.full h).2 (by have := Nat.two_pow_pos f.turnings.length; omega)
    omega
  obtain ⟨t, ht, hb⟩ := this
  exact key _ t ht hb (Nat.le_refl _)
end Go.Proofs.YtmmcenjknimhbaaGreat
namespace Go.Proofs.YtmmcenjknimhbaaGreat
open Go Go.T
end Go.Proofs.YtmmcenjknimhbaaGreat
namespace Go.Proofs.YtmmcenjknimhbaaGreat
open Go Go.T
theorem LX {f : bS} (h : bk f = 0) {l : List Int} {s : Nat} (hr : By f l s) (hl : l.length = f.turnings.length) {t : Int} (ht : 0 ≤ t ∧ t < f.turnings.length) : t ∈ l := by
 obtain ⟨k, rfl⟩ := Int.eq_ofNat_of_zero_le ht.1
 have hf := (hr.full h).1 hl
 rw [← hr.bit k, show s = 2 ^ f.turnings.length - 1 by omega, Nat.testBit_two_pow_sub_one]
 exact decide_eq_true (by omega)
theorem DY {f : bS} (hn : f.Ck) {t : Nat} (ht : t < f.turnings.length) {s : List Int} (hl : s.length = f.bins.length) (b : Nat) : n5 f (kg f s (t : Int)) f.bins.length b = n5 f s f.bins.length b + wq f t b := by
 have h := hn _ (bL ht)
 rw [kg, show ((t : Int)).toNat = t from rfl, wq]
 generalize nth f.turnings t = u at h
 have h1 : n5 f (l6 u s) f.bins.length b = n5 f s f.bins.length b - u.sacks * ir f u.src b := by
  unfold l6 ir
  by_cases e : u.src ≥ 0
  ·rw [if_pos e, if_neg (by omega), qw f _ (by omega) b, if_pos (by omega)]
   rw [show nth s u.src.toNat - u.sacks - nth s u.src.toNat = -u.sacks by omega, Int.neg_mul]; omega
  rw [if_neg e, if_pos (by omega), Int.mul_zero]; omega
 have h2 : n5 f (vm u (l6 u s)) f.bins.length b = n5 f (l6 u s) f.bins.length b + u.sacks * ir f u.dst b := by
  have hl1 := w5 u s
  unfold vm ir
  by_cases e : u.dst ≥ 0
  ·rw [if_pos e, if_neg (by omega), qw f _ (by omega) b, if_pos (by omega)]
   rw [show nth (l6 u s) u.dst.toNat + u.sacks - nth (l6 u s) u.dst.toNat = u.sacks by omega]
  rw [if_neg e, if_pos (by omega), Int.mul_zero]; omega
 rw [h2, h1, Int.mul_sub]; omega
theorem zq {α : Type} (p : α → Bool) (g : α → Int) : ∀ l : List α, ((l.filter p).map g).sum = (l.map fun x => if p x = true then g x else 0).sum
  | [] => rfl
  | x :: l => by
    rw [List.filter_cons]
    cases hp : p x <;> simp [hp, zq p g l]
theorem r9 (b : SB) (s i : Nat) : loadAt b (cQ s) i = nth b.1.first i + ((List.range 8).map fun t => if s.testBit t = true then nth b.1.adds (t * 4 + i) else 0).sum := by
 unfold loadAt cQ ou
 rw [List.map_map, ← zq]; rfl
theorem JF (b : SB) {s t i : Nat} (ht : t < 8) (hi : i < 4) (hb : s.testBit t = false) : nth (iI b (s ||| 1 <<< t)) i = nth (iI b s) i + nth b.1.adds (t * 4 + i) := by
 rw [sQ b _ hi, sQ b _ hi, r9, r9]
 have : ((List.range 8).map fun u => if (s ||| 1 <<< t).testBit u = true then nth b.1.adds (u * 4 + i) else 0) = (List.range 8).map fun u => (if s.testBit u = true then nth b.1.adds (u * 4 + i) else 0) + (if (t : Int) = (u : Int) then nth b.1.adds (t * 4 + i) else 0) := by
  refine List.map_congr_left fun u _ => ?_
  rw [uU]
  by_cases e : t = u
  ·subst e; simp [hb]
  rw [decide_eq_false e, Bool.or_false, if_neg (c := (t : Int) = (u : Int)) (by omega)]; omega
 rw [this, B0, B1 8 _ _ (by omega)]; omega
def Agree (f : bS) (st : List Int) (s : Nat) : Prop := st.length = f.bins.length ∧ ∀ b, b < f.bears.length → nth (sH f st) b = nth (iI (aX f) s) b
theorem IU {f : bS} (h : bk f = 0) : Agree f (f.bins.map qP.has) 0 := by
 refine ⟨by simp, fun b hb => ?_⟩
 have h4 := (cB h).ranged.bears
 rw [sQ _ _ (by omega), r9, LY h hb, jr (order := []) (k := 0) (Nat.zero_le _)]
 have : ((List.range 8).map fun t => if (0 : Nat).testBit t = true then nth (aX f).1.adds (t * 4 + b) else 0) = (List.range 8).map fun _ => (0 : Int) := List.map_congr_left fun t _ => by simp
 rw [this, nS, Int.add_zero]; rfl
theorem Ie {f : bS} (h : bk f = 0) {st : List Int} {s t : Nat} (ha : Agree f st s) (ht : t < f.turnings.length) (hb : s.testBit t = false) : Agree f (kg f st (t : Int)) (s ||| 1 <<< t) := by
 have hrt := cB h
 refine ⟨by rw [CU, ha.1], fun b hbb => ?_⟩
 have h4 := hrt.ranged.bears
 have h8 := hrt.ranged.turnings
 rw [JF _ (by omega) (by omega) hb, ← ha.2 b hbb, ke f _ hbb, ke f _ hbb, DY hrt.named ht ha.1 b, ← Kf hrt.named ht hbb, ← Q3 h ht hbb]; rfl
def zO (f : bS) : List (List Int) := Jk f (f.turnings.length + 1) []
end Go.Proofs.YtmmcenjknimhbaaGreat
namespace Go.Proofs.YtmmcenjknimhbaaGreat
open Go Go.T
def zg (f : bS) : Int := (zO f).foldl (fun n l => max n (gk f l)) (gk f (nth (zO f) 0))
structure VK (f : bS) (l : List Int) : Prop where
  mem : l ∈ zO f
  rep : ∃ s, By f l s
  len : l.length = f.turnings.length
  right : kM f l = 0
  margin : gk f l = zg f
def KU (f : bS) : List (List Int) := if gR f ≠ 0 then [] else T1 f (zO f)
def Ru (f : bS) : Int := if gR f ≠ 0 then gR f else if ((KU f).length : Int) > 0 then 0 else 6
def R4 (f : bS) : List Int := nth (KU f) 0
def wO (f : bS) : Int := if gR f ≠ 0 then 0 else zg f
theorem IF (f : bS) : fA f false = gR f := by
 unfold fA
 rw [jD]
 by_cases h : gR f ≠ 0
 ·rw [if_pos h]
 rw [if_neg h, if_neg (by simp)]; omega
end Go.Proofs.YtmmcenjknimhbaaGreat
namespace Go.Proofs.YtmmcenjknimhbaaGreat
open Go Go.T
def setOf (l : List Int) : Nat := l.foldl (fun s t => s ||| 1 <<< t.toNat) 0
def dn (l : List Int) : List Nat := (List.range (l.length + 1)).map fun k => setOf (l.take k)
def fq (f : bS) (order : List Int) : Int :=
  if fA f false ≠ 0 then fA f false else if (order.length : Int) ≠ f.turnings.length then 2
  else if !order.all (fun t => fC t 0 (f.turnings.length - 1)) then 1
  else if ¬ (((setOf order : Nat) : Int) = ((1 <<< order.length : Nat) : Int) - 1) then 5
  else if !(dn order).all (eF (aX f)) then 4 else 0
def gl (f : bS) (order : List Int) : Int := if gR f ≠ 0 then gR f else kM f order
theorem lF {l : List Int} {k : Nat} (h : k < l.length) : setOf (l.take (k + 1)) = setOf (l.take k) ||| 1 <<< (nth l k).toNat := by
 unfold setOf; rw [bh h, List.foldl_append]; rfl
theorem nB (l : List Int) : (dn l).length = l.length + 1 := by simp [dn]
theorem sZ {l : List Int} {k : Nat} (h : k ≤ l.length) : nth (dn l) k = setOf (l.take k) := cy _ (by omega)
theorem pU {l : List Int} (h : ∀ x ∈ l, 0 ≤ x) (a : Nat) : ∀ k, k ≤ l.length → ((setOf (l.take k)).testBit a = true ↔ (a : Int) ∈ l.take k)
  | 0, _ => by simp [setOf]
  | k + 1, hk => by
    have ht := h _ (bL (xs := l) (k := k) (by omega))
    rw [lF (by omega), bh (by omega), uU, Bool.or_eq_true, pU h a k (by omega), List.mem_append, List.mem_singleton, decide_eq_true_eq]
    exact or_congr_right ⟨fun e => by omega, fun e => by omega⟩
theorem pM {l : List Int} {n : Nat} (h : ∀ x ∈ l, 0 ≤ x ∧ x < (n : Int)) : ∀ k, k ≤ l.length → setOf (l.take k) < 2 ^ n
  | 0, _ => Nat.two_pow_pos _
  | k + 1, hk => by
    have ht := h _ (bL (xs := l) (k := k) (by omega))
    rw [lF (by omega)]
    exact Ga (pM h k (by omega)) (by omega)
theorem RT {s t : Nat} (h : s.testBit t = true) : s ||| 1 <<< t = s := by
 apply Nat.eq_of_testBit_eq
 intro i
 rw [uU]
 by_cases e : t = i
 ·subst e; simp [h]
 simp [e]
theorem Dj {l : List Int} {n : Nat} (hn : n ≤ 8) (h : ∀ x ∈ l, 0 ≤ x ∧ x < (n : Int)) : ∀ k, k ≤ l.length → pop (setOf (l.take k)) ≤ k ∧ (pop (setOf (l.take k)) = k ↔ ∀ i, i < k → nth l i ∉ l.take i)
  | 0, _ => by
    have e : pop (setOf (l.take 0)) = 0 := by rw [List.take_zero]; decide +kernel
    exact ⟨by omega, fun _ i hi => by omega, fun _ => e⟩
  | k + 1, hk => by
    obtain ⟨h1, h2⟩ := Dj hn h k (by omega)
    have ht := h _ (bL (xs := l) (k := k) (by omega))
    have hb := pU (fun x hx => (h x hx).1) (nth l k).toNat k (by omega)
    have e : (((nth l k).toNat : Nat) : Int) = nth l k := by omega
    rw [e] at hb
    rw [lF (by omega)]
    cases hc : (setOf (l.take k)).testBit (nth l k).toNat with
    | true =>
      rw [RT hc]
      exact ⟨by omega, fun hx => by omega, fun hx => absurd (hb.1 hc) (hx k (by omega))⟩
    | false =>
      have hp := (Bc (u9 hn (pM h k (by omega))) (by omega) hc).1
      rw [hp]
      refine ⟨by omega, fun hx i hi => ?_, fun hx => ?_⟩
      · rcases Nat.lt_or_ge i k with h3 | h3
        · exact h2.1 (by omega) i h3
        · rw [show i = k by omega]; intro hm; rw [hb.2 hm] at hc; cases hc
      · rw [h2.2 fun i hi => hx i (by omega)]
theorem uW {f : bS} (h : bk f = 0) {l : List Int} (hrg : ∀ x ∈ l, 0 ≤ x ∧ x < (f.turnings.length : Int)) (hnd : ∀ i, i < l.length → nth l i ∉ l.take i) (hah : ∀ i, i < l.length → ∀ a ∈ fX f (nth l i), a ∈ l.take i) : ∀ k, k ≤ l.length → By f (l.take k) (setOf (l.take k))
  | 0, _ => by rw [List.take_zero]; exact J4 h
  | k + 1, hk => by
    have ih := uW h hrg hnd hah k (by omega)
    have ht := hrg _ (bL (xs := l) (k := k) (by omega))
    obtain ⟨t, e⟩ := Int.eq_ofNat_of_zero_le ht.1
    have hrd : jS f (l.take k) (t : Int) = true := by
      unfold jS
      rw [Bool.and_eq_true, Bool.not_eq_true', decide_eq_false_iff_not, List.all_eq_true, ← e]
      exact ⟨hnd k (by omega), fun a ha => decide_eq_true (hah k (by omega) a ha)⟩
    have h2 := (nG h ih (show t < f.turnings.length by omega)).1 hrd
    have := Ed h ih (show t < f.turnings.length by omega) h2.1 h2.2
    rw [lF (by omega), bh (by omega), e]; exact this
theorem kr {f : bS} {l : List Int} (h : kM f l = 0) : l.length = f.turnings.length ∧ (∀ x ∈ l, 0 ≤ x ∧ x < (f.turnings.length : Int)) ∧ (∀ i, i < l.length → nth l i ∉ l.take i) ∧ ∀ i, i < l.length → ∀ a ∈ fX f (nth l i), a ∈ l.take i := by
 unfold kM at h
 split at h
 ·cases h
 split at h
 ·cases h
 split at h
 ·cases h
 split at h
 ·cases h
 rename_i h1 h2 h3 h4
 refine ⟨by omega, fun x hx => ?_, fun i hi => ?_, fun i hi a ha => ?_⟩
 ·have := fH (Bool.eq_false_iff.2 h2) hx
  simp only [decide_eq_false_iff_not] at this
  omega
 ·have := fH (Bool.eq_false_iff.2 h3) (eW.2 (show (0 : Int) ≤ (i : Nat) ∧ ((i : Nat) : Int) < (l.length : Nat) by omega))
  simpa using this
 have := fH (Bool.eq_false_iff.2 h4) (eW.2 (show (0 : Int) ≤ (i : Nat) ∧ ((i : Nat) : Int) < (l.length : Nat) by omega))
 have := fH this ha
 simpa using this
theorem Lm {f : bS} (h : bk f = 0) {l : List Int} (ho : kM f l = 0) : ∀ k, k ≤ l.length → By f (l.take k) (setOf (l.take k)) := by
 obtain ⟨_, h2, h3, h4⟩ := kr ho
 exact uW h h2 h3 h4
theorem uX (f : bS) (l : List Int) : fq f l = gl f l := by
 unfold fq gl
 rw [IF]
 by_cases hc : gR f ≠ 0
 ·rw [if_pos hc, if_pos hc]
 have h0 : gR f = 0 := Classical.byContradiction hc
 have h : bk f = 0 := by rw [jD]; exact h0
 have hn := P7 h
 rw [if_neg hc, if_neg hc]
 unfold kM
 by_cases h1 : (l.length : Int) ≠ f.turnings.length
 ·rw [if_pos h1, if_pos h1]
 rw [if_neg h1, if_neg h1]
 have e2 : (!l.all fun t => fC t 0 (f.turnings.length - 1)) = l.any fun x => decide (x < 0 ∨ x ≥ f.turnings.length) := by
  refine jZ _ _ _ fun x => ?_
  unfold fC
  rw [← Bool.decide_and, ← decide_not, decide_eq_decide]; omega
 rw [e2]
 by_cases h2 : (l.any fun x => decide (x < 0 ∨ x ≥ f.turnings.length)) = true
 ·rw [if_pos h2, if_pos h2]
 rw [if_neg h2, if_neg h2]
 have hrg : ∀ x ∈ l, 0 ≤ x ∧ x < (f.turnings.length : Int) := fun x hx => by
  have := fH (Bool.eq_false_iff.2 h2) hx
  simp only [decide_eq_false_iff_not] at this; omega
 obtain ⟨p1, p2⟩ := Dj hn hrg l.length (Nat.le_refl _)
 have hlt := pM hrg l.length (Nat.le_refl _)
 rw [List.take_length] at p1 p2 hlt
 have hlen : l.length = f.turnings.length := by omega
 have e3 : ¬ (((setOf l : Nat) : Int) = ((1 <<< l.length : Nat) : Int) - 1) ↔ ((s6 l.length).any fun i => decide (nth l i.toNat ∈ l.take i.toNat)) = true := by
  rw [← Decidable.not_iff_not, Decidable.not_not, Bool.not_eq_true, List.any_eq_false, hlen, s8]
  have hpw := Nat.two_pow_pos f.turnings.length
  constructor
  ·intro e x hx
   have hp : pop (setOf l) = l.length := by
    rw [show setOf l = 2 ^ f.turnings.length - 1 by omega, vT hn, hlen]
   have hx2 := eW.1 hx
   have := p2.1 hp x.toNat (by omega)
   simpa using this
  intro hall
  have := p2.2 fun i hi => by
   have := hall (i : Int) (eW.2 (by omega))
   simpa using this
  have := G9 hn hlt (by omega)
  omega
 by_cases h3 : ((s6 l.length).any fun i => decide (nth l i.toNat ∈ l.take i.toNat)) = true
 ·rw [if_pos (e3.2 h3), if_pos h3]
 rw [if_neg (fun hx => h3 (e3.1 hx)), if_neg h3]
 have hnd : ∀ i, i < l.length → nth l i ∉ l.take i := fun i hi => by
  have := fH (Bool.eq_false_iff.2 h3) (eW.2 (show (0 : Int) ≤ (i : Nat) ∧ ((i : Nat) : Int) < (l.length : Nat) by omega))
  simpa using this
 have e4 : (!(dn l).all (eF (aX f))) = (s6 l.length).any fun i => (fX f (nth l i.toNat)).any fun y => !decide (y ∈ l.take i.toNat) := by
  rw [Bool.eq_iff_iff, Bool.not_eq_true', ← Bool.not_eq_true, ← Decidable.not_iff_not, Decidable.not_not, Bool.not_eq_true, List.any_eq_false, List.all_eq_true]
  constructor
  ·intro hall x hx
   have hx2 := eW.1 hx
   obtain ⟨i, rfl⟩ := Int.eq_ofNat_of_zero_le hx2.1
   rw [Bool.not_eq_true, List.any_eq_false]
   intro a ha
   have ht := hrg _ (bL (xs := l) (k := i) (by omega))
   obtain ⟨⟨ha1, _⟩, hl⟩ := gT.1 ha
   obtain ⟨b, rfl⟩ := Int.eq_ofNat_of_zero_le ha1
   obtain ⟨t, e⟩ := Int.eq_ofNat_of_zero_le ht.1
   have hw := hall (setOf (l.take (i + 1))) (List.mem_map.2 ⟨i + 1, List.mem_range.2 (by omega), rfl⟩)
   have hbt := pU (fun x hx => (hrg x hx).1) t (i + 1) (by omega)
   have hbb := pU (fun x hx => (hrg x hx).1) b (i + 1) (by omega)
   have := (pq h (pM hrg (i + 1) (by omega))).1 hw t b (hbt.2 (by rw [bh (by omega), e]; simp)) (by rw [← e]; exact hl)
   have := hbb.1 this
   rw [bh (by omega), List.mem_append, List.mem_singleton] at this
   rcases this with h5 | h5
   ·simpa using h5
   rw [Int.toNat_natCast] at hl
   rw [← h5] at hl; exact absurd hl (BZ h _)
  intro hall s hs
  obtain ⟨k, hk, rfl⟩ := List.mem_map.1 hs
  have hk := List.mem_range.1 hk
  refine (uW h hrg hnd (fun i hi a ha => ?_) k (by omega)).whole
  have := hall (i : Int) (eW.2 (by omega))
  rw [Bool.not_eq_true, List.any_eq_false] at this
  have := this a ha
  simpa using this
 rw [e4]
theorem FV {f : bS} (h : bk f = 0) {l : List Int} (ho : kM f l = 0) : ∀ k, k ≤ l.length → Agree f (kN f l k) (setOf (l.take k))
  | 0, _ => by rw [List.take_zero]; exact IU h
  | k + 1, hk => by
    have ih := FV h ho k (by omega)
    obtain ⟨_, hrg, hnd, _⟩ := kr ho
    have ht := hrg _ (bL (xs := l) (k := k) (by omega))
    obtain ⟨t, e⟩ := Int.eq_ofNat_of_zero_le ht.1
    rw [yZ (by omega), lF (by omega), e]
    refine Ie h ih (by omega) (Bool.eq_false_iff.2 fun hb => ?_)
    have := (pU (fun x hx => (hrg x hx).1) t k (by omega)).1 hb
    rw [← e] at this
    exact hnd k (by omega) this
def rowP (f : bS) (s : Nat) : List Int := (iI (aX f) s).take f.bears.length
theorem row_eq {f : bS} (h : bk f = 0) {st : List Int} {s : Nat} (ha : Agree f st s) : rowP f s = sH f st := by
 have h4 := (cB h).ranged.bears
 unfold rowP
 apply List.ext_getElem?
 intro b
 by_cases hb : b < f.bears.length
 ·have h1 : b < (iI (aX f) s).length := by rw [lH]; omega
  have h2 : b < (sH f st).length := by rw [sn]; omega
  rw [List.getElem?_take, if_pos hb, List.getElem?_eq_getElem h1, List.getElem?_eq_getElem h2, ← cF h1, ← cF h2, ha.2 b hb]
 rw [List.getElem?_eq_none (by simp; omega), List.getElem?_eq_none (by rw [sn]; omega)]
def yO (f : bS) (l : List Int) : List (List Int) := (dn l).map (rowP f)
theorem Oi {f : bS} (h : bk f = 0) {l : List Int} (ho : kM f l = 0) : yO f l = gF f l := by
 unfold yO dn gF
 rw [List.map_map]
 refine List.map_congr_left fun k hk => ?_
 have := List.mem_range.1 hk
 exact row_eq h (FV h ho k (by omega))
def T8 (f : bS) (l : List Int) : Int := if gl f l ≠ 0 then gl f l else if (rB f l).isSome = true then 0 else 6
def TY (f : bS) (l : List Int) : Int := if gl f l ≠ 0 then 0 else breakT f l
def Sq (f : bS) (l : List Int) : Int := if gl f l ≠ 0 then 0 else Pt f l
def sI (f : bS) (l : List Int) : List (List Int) := if gl f l ≠ 0 then [] else gF f l
def Tl (f : bS) (l : List Int) : Int := if gl f l ≠ 0 then 0 else gk f l
theorem HT {f : bS} {l : List Int} (h : gl f l = 0) : gR f = 0 ∧ bk f = 0 ∧ kM f l = 0 := by
 unfold gl at h
 split at h
 ·exact absurd h ‹_›
 have h0 : gR f = 0 := Classical.byContradiction ‹_›
 exact ⟨h0, by rw [jD]; exact h0, h⟩
end Go.Proofs.YtmmcenjknimhbaaGreat
namespace Go.Proofs.YtmmcenjknimhbaaGreat
open Go Go.T
structure fR where
  grain : List Int
  taken : Int
  mixed : Int
def KJ : El Int := El.mk' 1 (fun n => [Ty.int .u8 n]) (fun _ => rfl) (fun _ => ⟨rfl, rfl, rfl⟩)
def cN (s : fR) : List Ty := [Ty.sl KJ s.grain, Ty.int .i64 s.taken, Ty.int .u32 s.mixed]
def Ry (s : fR) : Int := IntKind.u32.wrap (bits .xor .u32 s.mixed (IntKind.u32.wrap (nth s.grain (s.taken.tmod s.grain.length).toNat)) * 16777619)
def gP (s : fR) : fR := if (s.grain.length : Int) > 0 then { s with mixed := Ry s } else s
def oK (s : fR) : fR := { s with taken := s.taken + 1 }
def Ro (s : fR) : Int := IntKind.u32.wrap (IntKind.u32.wrap (s.mixed * 1664525) + 1013904223)
def qd (s : fR) : fR := if s.taken > (s.grain.length : Int) then { s with mixed := Ro s } else s
theorem HV {s : fR} (h : (s.grain.length : Int) < s.taken) : qd s = { s with mixed := Ro s } := if_pos h
theorem GR {s : fR} (h : ¬ (s.grain.length : Int) < s.taken) : qd s = s := if_neg h
def aO (s : fR) : fR := qd (oK (gP s))
theorem GS {s : fR} (h : ¬ ((gP s).grain.length : Int) < (gP s).taken + 1) : (gP s).mixed = (aO s).mixed := (congrArg fR.mixed (GR (s := oK (gP s)) h)).symm
def kE (s : fR) : Int := IntKind.i64.wrap (bits .and .u32 (bits .xor .u32 s.mixed (s.mixed / 2 ^ (15 : Int).toNat) / 2 ^ (8 : Int).toNat) 65535)
def fR.Ok (s : fR) (n : Int) : Prop := 0 ≤ s.taken ∧ s.taken + n ≤ 4611686018427387904
theorem Gj {s : fR} (h : (0 : Int) < s.grain.length) : gP s = { s with mixed := Ry s } := if_pos h
theorem GC {s : fR} (h : ¬ (0 : Int) < s.grain.length) : gP s = s := if_neg h
theorem GZ {a b : Int} (ha : 0 ≤ a) (hb : 0 < b) : 0 ≤ a.tmod b ∧ a.tmod b < b := by
 rw [Int.tmod_eq_emod_of_nonneg ha]
 exact ⟨Int.emod_nonneg _ (by omega), Int.emod_lt_of_pos _ hb⟩
theorem lV (s : fR) : (gP s).taken = s.taken := by unfold gP; split <;> rfl
theorem uB (s : fR) : (gP s).grain = s.grain := by unfold gP; split <;> rfl
theorem oq (s : fR) : (qd s).taken = s.taken := by unfold qd; split <;> rfl
theorem tW (s : fR) : (qd s).grain = s.grain := by unfold qd; split <;> rfl
theorem bu (s : fR) : (aO s).taken = s.taken + 1 := by unfold aO; rw [oq, oK, lV]
theorem zh (a : Int) : 0 ≤ bits .and .u32 a 65535 ∧ bits .and .u32 a 65535 ≤ 65535 := by
 have e : bits .and .u32 a 65535 = IntKind.u32.wrap (((BitVec.ofInt 32 a &&& BitVec.ofInt 32 65535).toNat : Nat) : Int) := rfl
 have h1 : (BitVec.ofInt 32 a &&& BitVec.ofInt 32 65535).toNat ≤ 65535 := by
  rw [BitVec.toNat_and]
  exact Nat.and_le_right
 rw [e]
 generalize (BitVec.ofInt 32 a &&& BitVec.ofInt 32 65535).toNat = n at h1
 have : IntKind.u32.wrap (n : Int) = (n : Int) % 4294967296 := rfl
 rw [this]; omega
theorem Eh (s : fR) : 0 ≤ kE s ∧ kE s ≤ 65535 := by
 have h := zh (bits .xor .u32 s.mixed (s.mixed / 2 ^ (15 : Int).toNat) / 2 ^ (8 : Int).toNat)
 unfold kE
 rw [IntWalk.i64_in _ (by omega)]; exact h
def bQ (s : fR) (n : Int) : Int := (kE (aO s)).tmod (max 1 n)
theorem cR (s : fR) (n : Int) : 0 ≤ bQ s n ∧ bQ s n < max 1 n ∧ bQ s n ≤ 65535 := by
 have h := Eh (aO s)
 unfold bQ
 have h1 : (kE (aO s)).tmod (max 1 n) = kE (aO s) % max 1 n := Int.tmod_eq_emod_of_nonneg h.1
 have h2 := Int.emod_lt_of_pos (kE (aO s)) (show 0 < max 1 n by omega)
 have h3 := Int.emod_nonneg (kE (aO s)) (show max 1 n ≠ 0 by omega)
 have h4 : kE (aO s) % max 1 n ≤ kE (aO s) := by
  have := Int.mul_ediv_add_emod (kE (aO s)) (max 1 n)
  have hq : 0 ≤ kE (aO s) / max 1 n := Int.ediv_nonneg h.1 (by omega)
  have : 0 ≤ max 1 n * (kE (aO s) / max 1 n) := Int.mul_nonneg (by omega) hq
  omega
 omega
def dJ (s : fR) (lo hi : Int) : Int := lo + bQ s (hi - lo + 1)
def qh (s : fR) (n : Int) : Bool := decide (bQ s n = 0)
def je (grain : List Int) : fR := ⟨grain, 0, bits .xor .u32 2166136261 (IntKind.u32.wrap grain.length)⟩
theorem Il (g : List Int) : (je g).Ok 4000000000000000000 := by unfold je fR.Ok; simp
theorem MU (a b : Int) (hb : 0 < b) : -b < a.tmod b ∧ a.tmod b < b := by
 have h1 := Int.tmod_lt_of_pos a hb
 have h2 := Int.lt_tmod_of_pos a hb
 omega
def Bj (v n : Int) : Int := if n < 1 then 0 else (v.tmod n + n).tmod n
def jx (xs : List Int) (i : Nat) (k : Int) : List Int := xs.take i ++ k :: xs.drop i
theorem Cv {xs : List Int} {i : Nat} (h : i ≤ xs.length) (k : Int) : (jx xs i k).length = xs.length + 1 := by simp [jx]; omega
theorem MR {xs : List Int} {i : Nat} {k x : Int} : x ∈ jx xs i k ↔ x = k ∨ x ∈ xs := by
 unfold jx
 rw [List.mem_append, List.mem_cons]
 constructor
 ·rintro (h | rfl | h)
  ·exact .inr (List.mem_of_mem_take h)
  ·exact .inl rfl
  exact .inr (List.mem_of_mem_drop h)
 rintro (rfl | h)
 ·exact .inr (.inl rfl)
 rw [← List.take_append_drop i xs, List.mem_append] at h
 exact h.imp id .inr
theorem FY {xs : List Int} {i : Nat} {k : Int} (h : xs.Nodup) (hk : k ∉ xs) : (jx xs i k).Nodup := by
 unfold jx
 have h2 : (xs.take i ++ xs.drop i).Nodup := by rw [List.take_append_drop]; exact h
 rw [List.nodup_append] at h2 ⊢
 obtain ⟨a, b, c⟩ := h2
 refine ⟨a, List.nodup_cons.2 ⟨fun h => hk (List.mem_of_mem_drop h), b⟩, fun x hx y hy => ?_⟩
 rcases List.mem_cons.1 hy with rfl | hy
 ·rintro rfl; exact hk (List.mem_of_mem_take hx)
 exact c x hx y hy
def eV (s : fR) : Nat → List Int × fR
  | 0 => ([], s)
  | k + 1 => (jx (eV s k).1 (bQ (eV s k).2 ((k : Int) + 1)).toNat k, aO (eV s k).2)
theorem uJ (s : fR) : ∀ k, (eV s k).1.length = k ∧ (eV s k).1.Nodup ∧ (∀ x, x ∈ (eV s k).1 ↔ 0 ≤ x ∧ x < (k : Int)) ∧ (eV s k).2.taken = s.taken + k
  | 0 => ⟨rfl, List.nodup_nil, fun x => ⟨fun h => (by cases h), fun h => by omega⟩, by simp [eV]⟩
  | k + 1 => by
    obtain ⟨h1, h2, h3, h4⟩ := uJ s k
    have hb := cR (eV s k).2 ((k : Int) + 1)
    refine ⟨?_, FY h2 (fun h => by have := (h3 _).1 h; omega), fun x => ?_, ?_⟩
    · show (jx _ _ _).length = _
      rw [Cv (by omega), h1]
    · show x ∈ jx _ _ _ ↔ _
      rw [MR, h3]; omega
    · show (aO _).taken = _
      rw [bu, h4]; omega
end Go.Proofs.YtmmcenjknimhbaaGreat
namespace Go.Proofs.YtmmcenjknimhbaaGreat
open Go Go.T
def Ol (l : List Int) (x : Int) : Int := fidx (fun y => decide (x = y)) l
theorem CE (l : List Int) (x : Int) : decide (0 ≤ Ol l x) = decide (x ∈ l) := by
 unfold Ol
 rw [qR, Bool.eq_iff_iff, List.any_eq_true, decide_eq_true_eq]
 constructor
 ·rintro ⟨y, hy, h⟩; rw [of_decide_eq_true h]; exact hy
 intro h; exact ⟨x, h, decide_eq_true rfl⟩
theorem pY {α : Type} [Inhabited α] {l : List α} {k : Nat} (h : k < l.length) : l.drop k = nth l k :: l.drop (k + 1) := by
 rw [List.drop_eq_getElem_cons h, cF h]
def yq (l : List Int) (k : Nat) : Int := (l.take k).foldl max (nth l 0)
def Gk (l : List Int) : Int := l.foldl max (nth l 0)
theorem ID {l : List Int} {k : Nat} (h : k < l.length) : yq l (k + 1) = max (yq l k) (nth l k) := by
 unfold yq; rw [bh h, List.foldl_append]; rfl
def mM (f : bS) (l : List Int) (b k : Nat) : Int := gQ f b f.bins.length + ((l.take k).map fun t => wq f t.toNat b).sum
def qx (f : bS) (l : List Int) (b : Nat) : List Int := (List.range (l.length + 1)).map (mM f l b)
theorem Is (f : bS) {l : List Int} {k : Nat} (h : k < l.length) (b : Nat) : mM f l b (k + 1) = mM f l b k + wq f (nth l k).toNat b := by
 unfold mM; rw [bh h, List.map_append, List.sum_append]; simp; omega
theorem Az (f : bS) (l : List Int) (b : Nat) : (qx f l b).length = l.length + 1 := by simp [qx]
theorem Av (f : bS) {l : List Int} (b : Nat) {k : Nat} (h : k ≤ l.length) : nth (qx f l b) k = mM f l b k := cy _ (by omega)
def ES (f : bS) (l : List Int) (k : Nat) : Int := (List.range k).foldl (fun n b => min n (nth f.bears b - Gk (qx f l b))) 1099511627776
theorem ML (f : bS) (l : List Int) (k : Nat) : ES f l (k + 1) = min (ES f l k) (nth f.bears k - Gk (qx f l k)) := by
 unfold ES; rw [List.range_succ, List.foldl_append]; rfl
end Go.Proofs.YtmmcenjknimhbaaGreat
namespace Go.Proofs.YtmmcenjknimhbaaGreat
open Go Go.T
def rY (f : bS) (done : List Int) (t : Int) : Bool := !decide (t ∈ done) && !f.rules.any fun r => decide (r.nxt = t) && !decide (r.fst ∈ done)
def TB (f : bS) (l : List Int) (i : Nat) : Bool := decide (0 ≤ nth l i) && decide (nth l i < f.turnings.length) && rY f (l.take i) (nth l i)
def F4 (f : bS) (l : List Int) : Bool := ((List.range l.length).all (TB f l)) && decide (l.length = f.turnings.length)
theorem yH {f : bS} (h : bk f = 0) {done : List Int} {s : Nat} (hr : By f done s) (t : Int) : rY f done t = jS f done t := by
  unfold rY jS
  congr 1
  rw [Bool.eq_iff_iff, Bool.not_eq_true', List.any_eq_false, List.all_eq_true]
  have hru := (cB h).ruled
  constructor
  · intro hall a ha
    obtain ⟨hin, hl⟩ := gT.1 ha
    refine decide_eq_true ?_
    have hclosed : ∀ a c, kZ f.rules a c → c ∈ done → a ∈ done := fun a c hl hc => by
      obtain ⟨h1, h2⟩ := nW hru hl
      obtain ⟨n, rfl⟩ := Int.eq_ofNat_of_zero_le h1.1
      obtain ⟨m, rfl⟩ := Int.eq_ofNat_of_zero_le h2.1
      exact (hr.bit n).1 ((pq h hr.lt).1 hr.whole m n ((hr.bit m).2 hc) hl)
    have hdir : ∀ r ∈ f.rules, r.nxt = t → r.fst ∈ done := fun r hrm hn => by
      have := hall r hrm
      simp only [hn, decide_true, Bool.true_and, Bool.not_eq_true', decide_eq_false_iff_not, Classical.not_not] at this
      exact Classical.byContradiction fun hx => by simp [hn, hx] at this
    cases hl with
    | one hrm => exact hdir _ hrm rfl
    | step hrm hl => exact hclosed a _ hl (hdir _ hrm rfl)
  · intro hall r hrm
    simp only [Bool.and_eq_true, decide_eq_true_eq, Bool.not_eq_true', decide_eq_false_iff_not, not_and, Classical.not_not]
    intro hn
    have hl : kZ f.rules r.fst t := by rw [← hn]; exact .one hrm
    exact of_decide_eq_true (hall _ (gT.2 ⟨(nW hru hl).1, hl⟩))
theorem AD {f : bS} {l : List Int} {s : Nat} (hr : By f l s) (hlen : l.length = f.turnings.length) (hready : ∀ i, i < l.length → jS f (l.take i) (nth l i) = true) : kM f l = 0 := by
 unfold kM
 rw [if_neg (by omega)]
 have h1 : (l.any fun x => decide (x < 0 ∨ x ≥ f.turnings.length)) = false := by
  rw [List.any_eq_false]
  intro x hx
  have := hr.rng x hx
  simp; omega
 rw [h1, if_neg (by simp)]
 have h2 : ((s6 l.length).any fun i => decide (nth l i.toNat ∈ l.take i.toNat)) = false := by
  rw [List.any_eq_false]
  intro x hx
  have := eW.1 hx
  have := hready x.toNat (by omega)
  unfold jS at this
  rw [Bool.and_eq_true, Bool.not_eq_true', decide_eq_false_iff_not] at this
  simpa using this.1
 rw [h2, if_neg (by simp)]
 have h3 : ((s6 l.length).any fun i => (fX f (nth l i.toNat)).any fun y => !decide (y ∈ l.take i.toNat)) = false := by
  rw [List.any_eq_false]
  intro x hx
  have := eW.1 hx
  have := hready x.toNat (by omega)
  unfold jS at this
  rw [Bool.and_eq_true, List.all_eq_true] at this
  rw [Bool.not_eq_true, List.any_eq_false]
  intro y hy
  simpa using this.2 y hy
 rw [h3, if_neg (by simp)]
def jL (f : bS) (done : List Int) (k : Nat) : List Int := (s6 k).filter (rY f done)
theorem vU (f : bS) (done : List Int) (k : Nat) : jL f done (k + 1) = jL f done k ++ if rY f done (k : Int) = true then [(k : Int)] else [] := by
 unfold jL
 rw [Ff, List.filter_append]
 congr 1
 by_cases h : rY f done (k : Int) = true
 ·rw [if_pos h, List.filter_cons_of_pos h]; rfl
 rw [if_neg h, List.filter_cons_of_neg h]; rfl
def tX (f : bS) (st : List Int × fR) : Int := nth (jL f st.1 f.turnings.length) (bQ st.2 (jL f st.1 f.turnings.length).length).toNat
def cM (f : bS) (s : fR) : Nat → List Int × fR
  | 0 => ([], s)
  | k + 1 => ((cM f s k).1 ++ [tX f (cM f s k)], aO (cM f s k).2)
theorem vD {f : bS} (h : bk f = 0) {done : List Int} {s : Nat} (hr : By f done s) (hlt : done.length < f.turnings.length) : 0 < (jL f done f.turnings.length).length := by
 obtain ⟨t, ht, hb, hw⟩ := I2 h hr hlt
 refine List.length_pos_of_mem (a := (t : Int)) (List.mem_filter.2 ⟨eW.2 (by omega), ?_⟩)
 rw [yH h hr]
 exact (nG h hr ht).2 ⟨hb, hw⟩
theorem PC {f : bS} {st : List Int × fR} (h : 0 < (jL f st.1 f.turnings.length).length) : tX f st ∈ jL f st.1 f.turnings.length := by
 have hb := cR st.2 (jL f st.1 f.turnings.length).length
 exact bL (by omega)
theorem uh {f : bS} (h : bk f = 0) (s : fR) : ∀ k, k ≤ f.turnings.length → (cM f s k).1.length = k ∧ (cM f s k).2.taken = s.taken + k ∧ (∃ x, By f (cM f s k).1 x) ∧ ∀ i, i < k → jS f ((cM f s k).1.take i) (nth (cM f s k).1 i) = true
  | 0, _ => ⟨rfl, by simp [cM], ⟨0, J4 h⟩, fun i hi => by omega⟩
  | k + 1, hk => by
    obtain ⟨h1, h2, ⟨x, hr⟩, h4⟩ := uh h s k (by omega)
    have hm := PC (vD h hr (by omega))
    obtain ⟨hm1, hm2⟩ := List.mem_filter.1 hm
    obtain ⟨hm3, hm4⟩ := eW.1 hm1
    obtain ⟨t, e⟩ := Int.eq_ofNat_of_zero_le hm3
    rw [yH h hr, e] at hm2
    have hrd := (nG h hr (show t < f.turnings.length by omega)).1 hm2
    refine ⟨?_, ?_, ⟨x ||| 1 <<< t, ?_⟩, fun i hi => ?_⟩
    · show (_ ++ [_]).length = _
      rw [List.length_append, h1]; rfl
    · show (aO _).taken = _
      rw [bu, h2]; omega
    · show By f (_ ++ [tX f (cM f s k)]) _
      rw [e]
      exact Ed h hr (by omega) hrd.1 hrd.2
    · show jS f ((_ ++ [tX f (cM f s k)]).take i) (nth (_ ++ [tX f (cM f s k)]) i) = true
      rcases Nat.lt_or_ge i k with hx | hx
      · have e1 : ((cM f s k).1 ++ [tX f (cM f s k)]).take i = (cM f s k).1.take i := List.take_append_of_le_length (by omega)
        have e2 : nth ((cM f s k).1 ++ [tX f (cM f s k)]) i = nth (cM f s k).1 i := by
          rw [cF (by simp; omega), cF (by omega), List.getElem_append_left (by omega)]
        rw [e1, e2]; exact h4 i hx
      · have hik : i = k := by omega
        have e1 : ((cM f s k).1 ++ [tX f (cM f s k)]).take i = (cM f s k).1 := by rw [hik, List.take_append_of_le_length (by omega), List.take_of_length_le (by omega)]
        have e2 : nth ((cM f s k).1 ++ [tX f (cM f s k)]) i = tX f (cM f s k) := by
          rw [cF (by simp; omega), List.getElem_append_right (by omega)]; simp
        rw [e1, e2, e]; exact hm2
theorem G4 {f : bS} (h : bk f = 0) (s : fR) : kM f (cM f s f.turnings.length).1 = 0 := by
 obtain ⟨h1, _, ⟨x, hr⟩, h4⟩ := uh h s f.turnings.length (Nat.le_refl _)
 exact AD hr h1 (fun i hi => h4 i (by omega))
end Go.Proofs.YtmmcenjknimhbaaGreat
namespace Go.Proofs.YtmmcenjknimhbaaGreat
open Go Go.T
theorem Dd {l : List Int} (h : l.Nodup) {i : Nat} (hi : i < l.length) : nth l i ∉ l.take i := by
 have h1 : (l.take (i + 1)).Nodup := h.sublist (List.take_sublist _ _)
 rw [bh hi, List.nodup_append] at h1
 exact fun hx => h1.2.2 _ hx _ (List.mem_singleton.2 rfl) rfl
structure Vr (f : bS) (b : Int) (i : Nat) (met : List Int) : Prop where
  has : b ∈ met
  nodup : met.Nodup
  rng : ∀ x ∈ met, 0 ≤ x ∧ x < (f.turnings.length : Int)
  sound : ∀ x ∈ met, x = b ∨ kZ f.rules x b
  closed : ∀ j, j < i → ∀ r ∈ f.rules, r.nxt = nth met j → r.fst ∈ met
  le : i ≤ met.length
structure VV (f : bS) (b : Int) (i : Nat) (k : Nat) (met : List Int) : Prop where
  bfs : Vr f b i met
  lt : i < met.length
  done : ∀ r ∈ f.rules.take k, r.nxt = nth met i → r.fst ∈ met
end Go.Proofs.YtmmcenjknimhbaaGreat
namespace Go.Proofs.YtmmcenjknimhbaaGreat
open Go Go.T
theorem Dk {f : bS} (hn : f.Ck) {l : List Int} (hl : ∀ x ∈ l, 0 ≤ x ∧ x < (f.turnings.length : Int)) {b : Nat} (hb : b < f.bears.length) : ∀ k, k ≤ l.length → n5 f (kN f l k) f.bins.length b = mM f l b k
  | 0, _ => by
    have := first_eq f hb
    rw [jr (order := []) (k := 0) (Nat.zero_le _), ke f _ hb] at this
    unfold mM
    rw [List.take_zero]
    simp only [List.map_nil, List.sum_nil, Int.add_zero]
    exact this
  | k + 1, hk => by
    have hx := hl _ (bL (xs := l) (k := k) (by omega))
    obtain ⟨t, e⟩ := Int.eq_ofNat_of_zero_le hx.1
    have ih := Dk hn hl hb k (by omega)
    rw [yZ (by omega), Is f (by omega), e, DY hn (by omega) (Ii f l k), ih]; rfl
theorem oN {f : bS} (hn : f.Ck) {l : List Int} (hl : ∀ x ∈ l, 0 ≤ x ∧ x < (f.turnings.length : Int)) {b : Nat} (hb : b < f.bears.length) {k : Nat} (hk : k ≤ l.length) : nth (nth (gF f l) k) b = mM f l b k := by
 rw [jr hk, ke f _ hb, Dk hn hl hb k hk]
theorem CS (f : bS) (l : List Int) (n x : Int) : ∀ j, x ≤ r8 f l j n ↔ x ≤ n ∧ ∀ b, b < j → x ≤ nth f.bears b - nth l b
  | 0 => ⟨fun h => ⟨h, fun b hb => by omega⟩, fun h => h.1⟩
  | j + 1 => by
    rw [yF, Int.le_min, CS f l n x j]
    constructor
    · rintro ⟨⟨h1, h2⟩, h3⟩
      refine ⟨h1, fun b hb => ?_⟩
      rcases Nat.lt_or_ge b j with h | h
      · exact h2 b h
      · rw [show b = j by omega]; exact h3
    · rintro ⟨h1, h2⟩
      exact ⟨⟨h1, fun b hb => h2 b (by omega)⟩, h2 j (by omega)⟩
theorem yI (f : bS) (ls : List (List Int)) (x : Int) : ∀ k, k ≤ ls.length → (x ≤ rm f ls k ↔ x ≤ nth f.bears 0 - nth (nth ls 0) 0 ∧ ∀ i, i < k → ∀ b, b < f.bears.length → x ≤ nth f.bears b - nth (nth ls i) b)
  | 0, _ => ⟨fun h => ⟨h, fun i hi => by omega⟩, fun h => h.1⟩
  | k + 1, hk => by
    rw [B4 (by omega), CS, yI f ls x k (by omega)]
    constructor
    · rintro ⟨⟨h1, h2⟩, h3⟩
      refine ⟨h1, fun i hi => ?_⟩
      rcases Nat.lt_or_ge i k with h | h
      · exact h2 i h
      · rw [show i = k by omega]; exact h3
    · rintro ⟨h1, h2⟩
      exact ⟨⟨h1, fun i hi => h2 i (by omega)⟩, h2 k (by omega)⟩
theorem qQ {f : bS} (hb : 1 ≤ f.bears.length) (l : List Int) (x : Int) : x ≤ gk f l ↔ ∀ k, k ≤ l.length → ∀ b, b < f.bears.length → x ≤ nth f.bears b - nth (nth (gF f l) k) b := by
 unfold gk
 rw [yI f _ x _ (by rw [Ik]; omega)]
 exact ⟨fun h k hk => h.2 k (by omega), fun h => ⟨h 0 (Nat.zero_le _) 0 (by omega), fun i hi => h i (by omega)⟩⟩
theorem F6 {l : List Int} {x : Int} : ∀ k, k ≤ l.length → (yq l k ≤ x ↔ nth l 0 ≤ x ∧ ∀ i, i < k → nth l i ≤ x)
  | 0, _ => ⟨fun h => ⟨by simpa [yq] using h, fun i hi => by omega⟩, fun h => by simpa [yq] using h.1⟩
  | k + 1, hk => by
    rw [ID (by omega), Int.max_le, F6 k (by omega)]
    constructor
    · rintro ⟨⟨h1, h2⟩, h3⟩
      refine ⟨h1, fun i hi => ?_⟩
      rcases Nat.lt_or_ge i k with h | h
      · exact h2 i h
      · rw [show i = k by omega]; exact h3
    · rintro ⟨h1, h2⟩
      exact ⟨⟨h1, fun i hi => h2 i (by omega)⟩, h2 k (by omega)⟩
theorem Q0 (l : List Int) : Gk l = yq l l.length := by unfold Gk yq; rw [List.take_length]
theorem RH {l : List Int} {x : Int} (h : 0 < l.length) : Gk l ≤ x ↔ ∀ i, i < l.length → nth l i ≤ x := by
 rw [Q0, F6 _ (Nat.le_refl _)]
 exact ⟨fun h => h.2, fun h' => ⟨h' 0 h, h'⟩⟩
theorem Eg (f : bS) (l : List Int) (x : Int) : ∀ n, x ≤ ES f l n ↔ x ≤ 1099511627776 ∧ ∀ b, b < n → ∀ k, k ≤ l.length → x ≤ nth f.bears b - mM f l b k
  | 0 => ⟨fun h => ⟨h, fun b hb => by omega⟩, fun h => h.1⟩
  | n + 1 => by
    rw [ML, Int.le_min, Eg f l x n]
    have key : x ≤ nth f.bears n - Gk (qx f l n) ↔ ∀ k, k ≤ l.length → x ≤ nth f.bears n - mM f l n k := by
      have : x ≤ nth f.bears n - Gk (qx f l n) ↔ Gk (qx f l n) ≤ nth f.bears n - x := by omega
      rw [this, RH (by rw [Az]; omega), Az]
      constructor
      · intro h k hk
        have := h k (by omega)
        rw [Av f n hk] at this; omega
      · intro h k hk
        have := h k (by omega)
        rw [Av f n (by omega)]; omega
    rw [key]
    constructor
    · rintro ⟨⟨h1, h2⟩, h3⟩
      refine ⟨h1, fun b hb => ?_⟩
      rcases Nat.lt_or_ge b n with h | h
      · exact h2 b h
      · rw [show b = n by omega]; exact h3
    · rintro ⟨h1, h2⟩
      exact ⟨⟨h1, fun b hb => h2 b (by omega)⟩, h2 n (by omega)⟩
theorem P9 {f : bS} (hr : f.dj) {l : List Int} (hl : ∀ x ∈ l, 0 ≤ x ∧ x < (f.turnings.length : Int)) (h20 : l.length ≤ 20) : ES f l f.bears.length = gk f l := by
 have hb := hr.ranged.bears1
 have key : ∀ x, x ≤ 1099511627776 → (x ≤ ES f l f.bears.length ↔ x ≤ gk f l) := fun x hx => by
  rw [Eg, qQ hb]
  constructor
  ·rintro ⟨_, h⟩ k hk b hb'
   rw [oN hr.named hl hb' hk]; exact h b hb' k hk
  intro h
  refine ⟨hx, fun b hb' k hk => ?_⟩
  have := h k hk b hb'
  rwa [oN hr.named hl hb' hk] at this
 have h1 : ES f l f.bears.length ≤ 1099511627776 := ((Eg f l _ _).1 (Int.le_refl _)).1
 have h2 : gk f l ≤ 1099511627776 := by
  have h3 := (qQ hb l _).1 (Int.le_refl _) 0 (Nat.zero_le _) 0 (by omega)
  have h4 := IG hr.ranged hl h20 (Nat.zero_le _) 0
  have h5 := Aj hr.ranged 0
  omega
 have h3 := (key _ h1).1 (Int.le_refl _)
 have h4 := (key _ h2).2 (Int.le_refl _)
 omega
theorem Ot {l l' : List Int} (h : l.Perm l') : l.sum = l'.sum := by
  induction h with
  | nil => rfl
  | cons x _ ih => rw [List.sum_cons, List.sum_cons, ih]
  | swap x y l => simp only [List.sum_cons]; omega
  | trans _ _ h1 h2 => exact h1.trans h2
theorem M6 (f : bS) {l l' : List Int} {n : Nat} (h : l.Nodup) (h' : l'.Nodup) (hm : ∀ x, x ∈ l ↔ 0 ≤ x ∧ x < (n : Int)) (hm' : ∀ x, x ∈ l' ↔ 0 ≤ x ∧ x < (n : Int)) (b : Nat) : mM f l b l.length = mM f l' b l'.length := by
 unfold mM
 rw [List.take_length, List.take_length]
 have hp : l.Perm l' := (List.perm_ext_iff_of_nodup h h').2 fun x => by rw [hm, hm']
 rw [Ot (hp.map _)]
end Go.Proofs.YtmmcenjknimhbaaGreat
namespace Go.Proofs.YtmmcenjknimhbaaGreat
open Go Go.T
def over (f : bS) (l : List Int) (t b : Nat) : Prop := nth (nth (gF f l) t) b > nth f.bears b
instance (f : bS) (l : List Int) (t b : Nat) : Decidable (over f l t b) := by unfold over; infer_instance
theorem CC {f : bS} {r : List Int} (h : rC f r = none) {j : Nat} (hj : j < f.bears.length) : ¬ nth r j > nth f.bears j := by
 unfold rC at h
 rw [List.find?_eq_none] at h
 have := h j (List.mem_range.2 hj)
 simpa using this
theorem Be {f : bS} (hb : 1 ≤ f.bears.length) (l : List Int) : (rB f l).isSome = decide (gk f l < 0) := by
  rw [Bool.eq_iff_iff, decide_eq_true_eq]
  by_cases h : 0 ≤ gk f l
  · have : rB f l = none := He fun j hj => B7 fun b hb' => by
      have := (qQ hb l 0).1 h j hj b hb'
      omega
    rw [this]
    exact ⟨fun h => (by cases h), fun h => (by omega)⟩
  · refine ⟨fun _ => by omega, fun _ => ?_⟩
    cases e : rB f l with
    | some x => rfl
    | none =>
      exfalso; apply h
      rw [qQ hb]
      intro k hk b hb'
      unfold rB at e
      rw [List.findSome?_eq_none_iff] at e
      have := e k (List.mem_range.2 (by omega))
      have := CC (Option.map_eq_none_iff.1 this) hb'
      omega
structure QK (f : bS) (l : List Int) : Prop where
  rows : sI f l = gF f l
  ord : gl f l = 0
  mar : Tl f l = gk f l
  marl : ES f l f.bears.length = gk f l
  brk : T8 f l = if gk f l < 0 then 0 else 6
  TY : TY f l = breakT f l
  Sq : Sq f l = Pt f l
  rng : ∀ x ∈ l, 0 ≤ x ∧ x < (f.turnings.length : Int)
  len : l.length = f.turnings.length
  nodup : l.Nodup
  all : ∀ x, x ∈ l ↔ 0 ≤ x ∧ x < (f.turnings.length : Int)
theorem answers {f : bS} (h : bk f = 0) {l : List Int} (ho : kM f l = 0) : QK f l := by
 have hc : gR f = 0 := by rw [← jD]; exact h
 have hr := cB h
 have he : gl f l = 0 := by unfold gl; rw [if_neg (fun x => x hc)]; exact ho
 obtain ⟨h1, h2, _, _⟩ := kr ho
 have hrep := Lm h ho l.length (Nat.le_refl _)
 rw [List.take_length] at hrep
 have h8 := hr.ranged.turnings
 refine ⟨by unfold sI; rw [if_neg (fun x => x he)], he, by unfold Tl; rw [if_neg (fun x => x he)], P9 hr h2 (by omega), ?_, by unfold Go.Proofs.YtmmcenjknimhbaaGreat.TY; rw [if_neg (fun x => x he)], by unfold Go.Proofs.YtmmcenjknimhbaaGreat.Sq; rw [if_neg (fun x => x he)], h2, h1, hrep.nodup, fun x => ⟨fun hx => h2 x hx, fun hx => LX h hrep h1 hx⟩⟩
 unfold T8
 rw [if_neg (fun x => x he), Be hr.ranged.bears1]
 by_cases hm : gk f l < 0
 ·rw [if_pos hm, if_pos (decide_eq_true hm)]
 rw [if_neg hm, if_neg (by simpa using hm)]
end Go.Proofs.YtmmcenjknimhbaaGreat
namespace Go.Proofs.YtmmcenjknimhbaaGreat
open Go Go.T
attribute [local irreducible] eG cZ jR j6 eP eO eK eM eS j8 eJ j4 b8 dc jz dZ j7 nth eZ cU aV cX bodyPost Exit.then Exit.inBlock Code.wp Code.wpIn
set_option maxRecDepth 100000 in
theorem xO (l : List Int) (t : Ty) (h1 : t.one = true) (q : Int → Bool) (hd : t.deps = []) (hc : t.cdeps = []) (hf : ∀ x ∈ l, oz Tryz.prog t [Ty.int .i64 x] (Ty.bool (q x))) : cX Tryz.prog 142 [Ty.sl dN l, t] (Ty.int .i64 (fidx q l)) := by
 refine aY Tryz.func142 rfl (by decide) Tryz.ntmps142 (by exact Nat.le_of_ble_eq_true rfl) fun w0 M0 => ?_
 refine ko (s := 0) rfl rfl k8 fun hl => ?_
 refine aF (aA (b9 rfl (aD (aC (aF (aF (aA (gq rfl (cC rfl rfl rfl (bF rfl (aD (aC (af ?_)))))))))))))
 refine cK (fun (k : {k : Nat // ∀ x ∈ l.take k, q x = false}) => live [(0, Ty.sl dN l), (1, t), (7, Ty.int .i64 l.length), (8, Ty.int .i64 (k.1 : Nat))] []) (fun k => l.length - k.1) (⟨0, by simp⟩) ?_ fun k => ?_
 ·(refine c8.mk' ?_ ?_ <;> (repeat' (first | exact aI | exact aH | refine aB ?_ (Ty.aR _) | refine aB ?_ (Ty.aG _))))
 refine aF (aA (ak rfl rfl rfl (aD (aC (aF ?_)))))
 refine aa rfl (fun hc1 => ?_) (fun hc1 => ?_)
 ·refine bA (aC (aF (af (aF (aA (bF rfl (b9 rfl (aD (aC (aF (aA ?_)))))))))))
  refine eN (ty := t) rfl ?_
  refine gq rfl (bF rfl ?_)
  refine bG rfl rfl rfl rfl rfl rfl (by omega) ?_
  refine aK rfl rfl rfl rfl ?_
  refine eA rfl (hf _ (bL (by omega))) rfl ?_
  refine aD (aC ?_)
  refine c9 rfl (fun hc2 => ?_) (fun hc2 => ?_)
  ·refine aF (aA (bF rfl (b9 rfl (aD (aC (au (av (aW (aW (av (aW (bK rfl rfl ?_))))))))))))
   all_goals skip
   exact bE rfl rfl (congrArg (Ty.int .i64) (lO (by omega) k.2 (by rw [← cF]; exact hc2)).symm)
  refine bA (bH (aC (aA ?_)))
  refine bz rfl rfl (by omega) (by omega) ?_
  refine bF rfl (aD ?_)
  refine bO (⟨k.1 + 1, by rw [bh (by omega)]; intro x hx; rcases List.mem_append.1 hx with h | h; exact k.2 x h; rw [List.mem_singleton.1 h]; exact hc2⟩) ?_ (by show l.length - (k.1 + 1) < l.length - k.1; omega)
  (refine c8.mk' ?_ ?_ <;> (repeat' (first | exact aI | exact aH | refine aB ?_ (Ty.aR _) | refine aB ?_ (Ty.aG _))))
  all_goals skip
 refine cE (aL (aL (ah rfl (aC (aF (aA (b9 rfl (aD (aC (au (bK rfl rfl ?_)))))))))))
 all_goals skip
 exact bE rfl rfl (congrArg (Ty.int .i64) (nE (by have := k.2; rwa [List.take_of_length_le (by omega)] at this)).symm)
set_option maxRecDepth 100000 in
theorem tP (l : List Int) (t : Ty) (h1 : t.one = true) (q : Int → Bool) (hd : t.deps = []) (hc : t.cdeps = []) (hf : ∀ x ∈ l, oz Tryz.prog t [Ty.int .i64 x] (Ty.bool (q x))) : cX Tryz.prog 90 [Ty.sl dN l, t] (Ty.bool (l.any q)) := by
 refine aY Tryz.func90 rfl (by decide) Tryz.ntmps90 (by exact Nat.le_of_ble_eq_true rfl) fun w0 M0 => ?_
 refine aF (aA (dG rfl (aD (aC (aF (aA (gq rfl ?_)))))))
 refine eN (ty := t) rfl ?_
 refine aq (xO l t h1 q hd hc hf) rfl (by exact aZ rfl (aZ hd rfl)) (by exact aU rfl (aU hc rfl)) rfl rfl ?_
 refine ak rfl rfl rfl (dG rfl (aD (aC (au (bK rfl rfl ?_)))))
 all_goals skip
 exact bE rfl rfl (congrArg Ty.bool (qR q l))
set_option maxRecDepth 100000 in
theorem B5 (x : Int) (t : Ty) (h1 : t.one = true) (b : Bool) (hd : t.deps = []) (hc : t.cdeps = []) (hf : oz Tryz.prog t [Ty.int .i64 x] (Ty.bool b)) : cX Tryz.prog 145 [Ty.int .i64 x, Ty.pp [t]] (Ty.bool (!b)) := by
 refine aY Tryz.func145 rfl (by decide) Tryz.ntmps145 (by exact Nat.le_of_ble_eq_true rfl) fun w0 M0 => ?_
 refine aF (aA (dG rfl (aD (aC (aF (aA (aK rfl rfl rfl rfl (bF rfl (eA rfl hf rfl (ct rfl (dG rfl (aD (aC (au (bK rfl rfl ?_)))))))))))))))
 all_goals exact bN rfl rfl
set_option maxRecDepth 100000 in
theorem kD (l : List Int) (t : Ty) (h1 : t.one = true) (q : Int → Bool) (hd : t.deps = []) (hc : t.cdeps = []) (hf : ∀ x ∈ l, oz Tryz.prog t [Ty.int .i64 x] (Ty.bool (q x))) : cX Tryz.prog 95 [Ty.sl dN l, t] (Ty.bool (l.all q)) := by
 refine aY Tryz.func95 rfl (by decide) Tryz.ntmps95 (by exact Nat.le_of_ble_eq_true rfl) fun w0 M0 => ?_
 refine aF (aA ?_)
 refine eY (ty := t) rfl h1 ?_
 refine dG rfl (aD (aC (aF (aA (gq rfl (cw rfl ?_))))))
 refine aq (tP l (Ty.j9 _ [Ty.pp [t]]) rfl (fun x => !q x) (by exact aZ (aZ hd rfl) rfl) (by exact aU (aU hc rfl) rfl) fun x hx => cY (B5 x t h1 (q x) hd hc (hf x hx)) rfl rfl (by exact aZ (aZ hd rfl) rfl) (by exact aU (aU hc rfl) rfl) rfl rfl) rfl (by exact aZ rfl (aZ (aZ (aZ hd rfl) rfl) rfl)) (by exact aU rfl (aU (aU (aU hc rfl) rfl) rfl)) rfl rfl ?_
 refine ct rfl (dG rfl (aD (aC (au (bK rfl rfl ?_)))))
 all_goals skip
 exact bE rfl rfl (congrArg Ty.bool (vr q l))
set_option maxRecDepth 100000 in
theorem y7 (l : List qP) (t : Ty) (h1 : t.one = true) (q : qP → Bool) (hd : t.deps = []) (hc : t.cdeps = []) (hf : ∀ x ∈ l, oz Tryz.prog t [Ty.agg (jX.tys x)] (Ty.bool (q x))) : cX Tryz.prog 229 [Ty.sl jX l, t] (Ty.int .i64 (fidx q l)) := by
 refine aY Tryz.func229 rfl (by decide) Tryz.ntmps229 (by exact Nat.le_of_ble_eq_true rfl) fun w0 M0 => ?_
 refine ko (s := 0) rfl rfl k8 fun hl => ?_
 refine aF (aA (b9 rfl (aD (aC (aF (aF (aA (gq rfl (cC rfl rfl rfl (bF rfl (aD (aC (af ?_)))))))))))))
 refine cK (fun (k : {k : Nat // ∀ x ∈ l.take k, q x = false}) => live [(0, Ty.sl jX l), (1, t), (7, Ty.int .i64 l.length), (8, Ty.int .i64 (k.1 : Nat))] []) (fun k => l.length - k.1) (⟨0, by simp⟩) ?_ fun k => ?_
 ·(refine c8.mk' ?_ ?_ <;> (repeat' (first | exact aI | exact aH | refine aB ?_ (Ty.aR _) | refine aB ?_ (Ty.aG _))))
 refine aF (aA (ak rfl rfl rfl (aD (aC (aF ?_)))))
 refine aa rfl (fun hc1 => ?_) (fun hc1 => ?_)
 ·refine bA (aC (aF (af (aF (aA (bF rfl (b9 rfl (aD (aC (aF (aA ?_)))))))))))
  refine eN (ty := t) rfl ?_
  refine gq rfl (bF rfl ?_)
  refine bG rfl rfl rfl rfl rfl rfl (by omega) ?_
  refine az rfl rfl rfl (by exact Nat.le_of_ble_eq_true rfl) ?_
  refine eA rfl (hf _ (bL (by omega))) rfl ?_
  refine aD (aC ?_)
  refine c9 rfl (fun hc2 => ?_) (fun hc2 => ?_)
  ·refine aF (aA (bF rfl (b9 rfl (aD (aC (au (av (aW (aW (av (aW (bK rfl rfl ?_))))))))))))
   all_goals skip
   exact bE rfl rfl (congrArg (Ty.int .i64) (lO (by omega) k.2 (by rw [← cF]; exact hc2)).symm)
  refine bA (bH (aC (aA ?_)))
  refine bz rfl rfl (by omega) (by omega) ?_
  refine bF rfl (aD ?_)
  refine bO (⟨k.1 + 1, by rw [bh (by omega)]; intro x hx; rcases List.mem_append.1 hx with h | h; exact k.2 x h; rw [List.mem_singleton.1 h]; exact hc2⟩) ?_ (by show l.length - (k.1 + 1) < l.length - k.1; omega)
  (refine c8.mk' ?_ ?_ <;> (repeat' (first | exact aI | exact aH | refine aB ?_ (Ty.aR _) | refine aB ?_ (Ty.aG _))))
  all_goals skip
 refine cE (aL (aL (ah rfl (aC (aF (aA (b9 rfl (aD (aC (au (bK rfl rfl ?_)))))))))))
 all_goals skip
 exact bE rfl rfl (congrArg (Ty.int .i64) (nE (by have := k.2; rwa [List.take_of_length_le (by omega)] at this)).symm)
set_option maxRecDepth 100000 in
theorem uZ (l : List qP) (t : Ty) (h1 : t.one = true) (q : qP → Bool) (hd : t.deps = []) (hc : t.cdeps = []) (hf : ∀ x ∈ l, oz Tryz.prog t [Ty.agg (jX.tys x)] (Ty.bool (q x))) : cX Tryz.prog 221 [Ty.sl jX l, t] (Ty.bool (l.any q)) := by
 refine aY Tryz.func221 rfl (by decide) Tryz.ntmps221 (by exact Nat.le_of_ble_eq_true rfl) fun w0 M0 => ?_
 refine aF (aA (dG rfl (aD (aC (aF (aA (gq rfl ?_)))))))
 refine eN (ty := t) rfl ?_
 refine aq (y7 l t h1 q hd hc hf) rfl (by exact aZ rfl (aZ hd rfl)) (by exact aU rfl (aU hc rfl)) rfl rfl ?_
 refine ak rfl rfl rfl (dG rfl (aD (aC (au (bK rfl rfl ?_)))))
 all_goals skip
 exact bE rfl rfl (congrArg Ty.bool (qR q l))
set_option maxRecDepth 100000 in
theorem E5 (x : qP) (t : Ty) (h1 : t.one = true) (b : Bool) (hd : t.deps = []) (hc : t.cdeps = []) (hf : oz Tryz.prog t [Ty.agg (jX.tys x)] (Ty.bool b)) : cX Tryz.prog 222 [Ty.agg (jX.tys x), Ty.pp [t]] (Ty.bool (!b)) := by
 refine aY Tryz.func222 rfl (by decide) Tryz.ntmps222 (by exact Nat.le_of_ble_eq_true rfl) fun w0 M0 => ?_
 refine aF (aA (bD rfl (dG rfl (aD (aC (aF (aA (aK rfl rfl rfl rfl ?_))))))))
 refine az rfl rfl rfl (by exact Nat.le_of_ble_eq_true rfl) ?_
 refine eA rfl hf rfl (ct rfl (dG rfl (aD (aC (au (bK rfl rfl ?_))))))
 all_goals exact bN rfl rfl
set_option maxRecDepth 100000 in
theorem rF (l : List qP) (t : Ty) (h1 : t.one = true) (q : qP → Bool) (hd : t.deps = []) (hc : t.cdeps = []) (hf : ∀ x ∈ l, oz Tryz.prog t [Ty.agg (jX.tys x)] (Ty.bool (q x))) : cX Tryz.prog 185 [Ty.sl jX l, t] (Ty.bool (l.all q)) := by
 refine aY Tryz.func185 rfl (by decide) Tryz.ntmps185 (by exact Nat.le_of_ble_eq_true rfl) fun w0 M0 => ?_
 refine aF (aA ?_)
 refine eY (ty := t) rfl h1 ?_
 refine dG rfl (aD (aC (aF (aA (gq rfl (cw rfl ?_))))))
 refine aq (uZ l (Ty.j9 _ [Ty.pp [t]]) rfl (fun x => !q x) (by exact aZ (aZ hd rfl) rfl) (by exact aU (aU hc rfl) rfl) fun x hx => cY (E5 x t h1 (q x) hd hc (hf x hx)) rfl rfl (by exact aZ (aZ hd rfl) rfl) (by exact aU (aU hc rfl) rfl) rfl rfl) rfl (by exact aZ rfl (aZ (aZ (aZ hd rfl) rfl) rfl)) (by exact aU rfl (aU (aU (aU hc rfl) rfl) rfl)) rfl rfl ?_
 refine ct rfl (dG rfl (aD (aC (au (bK rfl rfl ?_)))))
 all_goals skip
 exact bE rfl rfl (congrArg Ty.bool (vr q l))
set_option maxRecDepth 100000 in
theorem qn (l : List mO) (t : Ty) (h1 : t.one = true) (q : mO → Bool) (hd : t.deps = []) (hc : t.cdeps = []) (hf : ∀ x ∈ l, oz Tryz.prog t [Ty.agg (gM.tys x)] (Ty.bool (q x))) : cX Tryz.prog 33 [Ty.sl gM l, t] (Ty.int .i64 (fidx q l)) := by
 refine aY Tryz.func33 rfl (by decide) Tryz.ntmps33 (by exact Nat.le_of_ble_eq_true rfl) fun w0 M0 => ?_
 refine ko (s := 0) rfl rfl k8 fun hl => ?_
 refine aF (aA (b9 rfl (aD (aC (aF (aF (aA (gq rfl (cC rfl rfl rfl (bF rfl (aD (aC (af ?_)))))))))))))
 refine cK (fun (k : {k : Nat // ∀ x ∈ l.take k, q x = false}) => live [(0, Ty.sl gM l), (1, t), (7, Ty.int .i64 l.length), (8, Ty.int .i64 (k.1 : Nat))] []) (fun k => l.length - k.1) (⟨0, by simp⟩) ?_ fun k => ?_
 ·(refine c8.mk' ?_ ?_ <;> (repeat' (first | exact aI | exact aH | refine aB ?_ (Ty.aR _) | refine aB ?_ (Ty.aG _))))
 refine aF (aA (ak rfl rfl rfl (aD (aC (aF ?_)))))
 refine aa rfl (fun hc1 => ?_) (fun hc1 => ?_)
 ·refine bA (aC (aF (af (aF (aA (bF rfl (b9 rfl (aD (aC (aF (aA ?_)))))))))))
  refine eN (ty := t) rfl ?_
  refine gq rfl (bF rfl ?_)
  refine bG rfl rfl rfl rfl rfl rfl (by omega) ?_
  refine az rfl rfl rfl (by exact Nat.le_of_ble_eq_true rfl) ?_
  refine eA rfl (hf _ (bL (by omega))) rfl ?_
  refine aD (aC ?_)
  refine c9 rfl (fun hc2 => ?_) (fun hc2 => ?_)
  ·refine aF (aA (bF rfl (b9 rfl (aD (aC (au (av (aW (aW (av (aW (bK rfl rfl ?_))))))))))))
   all_goals skip
   exact bE rfl rfl (congrArg (Ty.int .i64) (lO (by omega) k.2 (by rw [← cF]; exact hc2)).symm)
  refine bA (bH (aC (aA ?_)))
  refine bz rfl rfl (by omega) (by omega) ?_
  refine bF rfl (aD ?_)
  refine bO (⟨k.1 + 1, by rw [bh (by omega)]; intro x hx; rcases List.mem_append.1 hx with h | h; exact k.2 x h; rw [List.mem_singleton.1 h]; exact hc2⟩) ?_ (by show l.length - (k.1 + 1) < l.length - k.1; omega)
  (refine c8.mk' ?_ ?_ <;> (repeat' (first | exact aI | exact aH | refine aB ?_ (Ty.aR _) | refine aB ?_ (Ty.aG _))))
  all_goals skip
 refine cE (aL (aL (ah rfl (aC (aF (aA (b9 rfl (aD (aC (au (bK rfl rfl ?_)))))))))))
 all_goals skip
 exact bE rfl rfl (congrArg (Ty.int .i64) (nE (by have := k.2; rwa [List.take_of_length_le (by omega)] at this)).symm)
set_option maxRecDepth 100000 in
theorem uq (l : List mO) (t : Ty) (h1 : t.one = true) (q : mO → Bool) (hd : t.deps = []) (hc : t.cdeps = []) (hf : ∀ x ∈ l, oz Tryz.prog t [Ty.agg (gM.tys x)] (Ty.bool (q x))) : cX Tryz.prog 223 [Ty.sl gM l, t] (Ty.bool (l.any q)) := by
 refine aY Tryz.func223 rfl (by decide) Tryz.ntmps223 (by exact Nat.le_of_ble_eq_true rfl) fun w0 M0 => ?_
 refine aF (aA (dG rfl (aD (aC (aF (aA (gq rfl ?_)))))))
 refine eN (ty := t) rfl ?_
 refine aq (qn l t h1 q hd hc hf) rfl (by exact aZ rfl (aZ hd rfl)) (by exact aU rfl (aU hc rfl)) rfl rfl ?_
 refine ak rfl rfl rfl (dG rfl (aD (aC (au (bK rfl rfl ?_)))))
 all_goals skip
 exact bE rfl rfl (congrArg Ty.bool (qR q l))
set_option maxRecDepth 100000 in
theorem E9 (x : mO) (t : Ty) (h1 : t.one = true) (b : Bool) (hd : t.deps = []) (hc : t.cdeps = []) (hf : oz Tryz.prog t [Ty.agg (gM.tys x)] (Ty.bool b)) : cX Tryz.prog 224 [Ty.agg (gM.tys x), Ty.pp [t]] (Ty.bool (!b)) := by
 refine aY Tryz.func224 rfl (by decide) Tryz.ntmps224 (by exact Nat.le_of_ble_eq_true rfl) fun w0 M0 => ?_
 refine aF (aA (bD rfl (dG rfl (aD (aC (aF (aA (aK rfl rfl rfl rfl ?_))))))))
 refine az rfl rfl rfl (by exact Nat.le_of_ble_eq_true rfl) ?_
 refine eA rfl hf rfl (ct rfl (dG rfl (aD (aC (au (bK rfl rfl ?_))))))
 all_goals exact bN rfl rfl
set_option maxRecDepth 100000 in
theorem rz (l : List mO) (t : Ty) (h1 : t.one = true) (q : mO → Bool) (hd : t.deps = []) (hc : t.cdeps = []) (hf : ∀ x ∈ l, oz Tryz.prog t [Ty.agg (gM.tys x)] (Ty.bool (q x))) : cX Tryz.prog 188 [Ty.sl gM l, t] (Ty.bool (l.all q)) := by
 refine aY Tryz.func188 rfl (by decide) Tryz.ntmps188 (by exact Nat.le_of_ble_eq_true rfl) fun w0 M0 => ?_
 refine aF (aA ?_)
 refine eY (ty := t) rfl h1 ?_
 refine dG rfl (aD (aC (aF (aA (gq rfl (cw rfl ?_))))))
 refine aq (uq l (Ty.j9 _ [Ty.pp [t]]) rfl (fun x => !q x) (by exact aZ (aZ hd rfl) rfl) (by exact aU (aU hc rfl) rfl) fun x hx => cY (E9 x t h1 (q x) hd hc (hf x hx)) rfl rfl (by exact aZ (aZ hd rfl) rfl) (by exact aU (aU hc rfl) rfl) rfl rfl) rfl (by exact aZ rfl (aZ (aZ (aZ hd rfl) rfl) rfl)) (by exact aU rfl (aU (aU (aU hc rfl) rfl) rfl)) rfl rfl ?_
 refine ct rfl (dG rfl (aD (aC (au (bK rfl rfl ?_)))))
 all_goals skip
 exact bE rfl rfl (congrArg Ty.bool (vr q l))
set_option maxRecDepth 100000 in
theorem y8 (l : List kT) (t : Ty) (h1 : t.one = true) (q : kT → Bool) (hd : t.deps = []) (hc : t.cdeps = []) (hf : ∀ x ∈ l, oz Tryz.prog t [Ty.agg (jh.tys x)] (Ty.bool (q x))) : cX Tryz.prog 144 [Ty.sl jh l, t] (Ty.int .i64 (fidx q l)) := by
 refine aY Tryz.func144 rfl (by decide) Tryz.ntmps144 (by exact Nat.le_of_ble_eq_true rfl) fun w0 M0 => ?_
 refine ko (s := 0) rfl rfl k8 fun hl => ?_
 refine aF (aA (b9 rfl (aD (aC (aF (aF (aA (gq rfl (cC rfl rfl rfl (bF rfl (aD (aC (af ?_)))))))))))))
 refine cK (fun (k : {k : Nat // ∀ x ∈ l.take k, q x = false}) => live [(0, Ty.sl jh l), (1, t), (7, Ty.int .i64 l.length), (8, Ty.int .i64 (k.1 : Nat))] []) (fun k => l.length - k.1) (⟨0, by simp⟩) ?_ fun k => ?_
 ·(refine c8.mk' ?_ ?_ <;> (repeat' (first | exact aI | exact aH | refine aB ?_ (Ty.aR _) | refine aB ?_ (Ty.aG _))))
 refine aF (aA (ak rfl rfl rfl (aD (aC (aF ?_)))))
 refine aa rfl (fun hc1 => ?_) (fun hc1 => ?_)
 ·refine bA (aC (aF (af (aF (aA (bF rfl (b9 rfl (aD (aC (aF (aA ?_)))))))))))
  refine eN (ty := t) rfl ?_
  refine gq rfl (bF rfl ?_)
  refine bG rfl rfl rfl rfl rfl rfl (by omega) ?_
  refine az rfl rfl rfl (by exact Nat.le_of_ble_eq_true rfl) ?_
  refine eA rfl (hf _ (bL (by omega))) rfl ?_
  refine aD (aC ?_)
  refine c9 rfl (fun hc2 => ?_) (fun hc2 => ?_)
  ·refine aF (aA (bF rfl (b9 rfl (aD (aC (au (av (aW (aW (av (aW (bK rfl rfl ?_))))))))))))
   all_goals skip
   exact bE rfl rfl (congrArg (Ty.int .i64) (lO (by omega) k.2 (by rw [← cF]; exact hc2)).symm)
  refine bA (bH (aC (aA ?_)))
  refine bz rfl rfl (by omega) (by omega) ?_
  refine bF rfl (aD ?_)
  refine bO (⟨k.1 + 1, by rw [bh (by omega)]; intro x hx; rcases List.mem_append.1 hx with h | h; exact k.2 x h; rw [List.mem_singleton.1 h]; exact hc2⟩) ?_ (by show l.length - (k.1 + 1) < l.length - k.1; omega)
  (refine c8.mk' ?_ ?_ <;> (repeat' (first | exact aI | exact aH | refine aB ?_ (Ty.aR _) | refine aB ?_ (Ty.aG _))))
  all_goals skip
 refine cE (aL (aL (ah rfl (aC (aF (aA (b9 rfl (aD (aC (au (bK rfl rfl ?_)))))))))))
 all_goals skip
 exact bE rfl rfl (congrArg (Ty.int .i64) (nE (by have := k.2; rwa [List.take_of_length_le (by omega)] at this)).symm)
set_option maxRecDepth 100000 in
theorem nR (l : List kT) (t : Ty) (h1 : t.one = true) (q : kT → Bool) (hd : t.deps = []) (hc : t.cdeps = []) (hf : ∀ x ∈ l, oz Tryz.prog t [Ty.agg (jh.tys x)] (Ty.bool (q x))) : cX Tryz.prog 93 [Ty.sl jh l, t] (Ty.bool (l.any q)) := by
 refine aY Tryz.func93 rfl (by decide) Tryz.ntmps93 (by exact Nat.le_of_ble_eq_true rfl) fun w0 M0 => ?_
 refine aF (aA (dG rfl (aD (aC (aF (aA (gq rfl ?_)))))))
 refine eN (ty := t) rfl ?_
 refine aq (y8 l t h1 q hd hc hf) rfl (by exact aZ rfl (aZ hd rfl)) (by exact aU rfl (aU hc rfl)) rfl rfl ?_
 refine ak rfl rfl rfl (dG rfl (aD (aC (au (bK rfl rfl ?_)))))
 all_goals skip
 exact bE rfl rfl (congrArg Ty.bool (qR q l))
set_option maxRecDepth 100000 in
theorem FE (x : kT) (t : Ty) (h1 : t.one = true) (b : Bool) (hd : t.deps = []) (hc : t.cdeps = []) (hf : oz Tryz.prog t [Ty.agg (jh.tys x)] (Ty.bool b)) : cX Tryz.prog 225 [Ty.agg (jh.tys x), Ty.pp [t]] (Ty.bool (!b)) := by
 refine aY Tryz.func225 rfl (by decide) Tryz.ntmps225 (by exact Nat.le_of_ble_eq_true rfl) fun w0 M0 => ?_
 refine aF (aA (bD rfl (dG rfl (aD (aC (aF (aA (aK rfl rfl rfl rfl ?_))))))))
 refine az rfl rfl rfl (by exact Nat.le_of_ble_eq_true rfl) ?_
 refine eA rfl hf rfl (ct rfl (dG rfl (aD (aC (au (bK rfl rfl ?_))))))
 all_goals exact bN rfl rfl
set_option maxRecDepth 100000 in
theorem Gs (l : List kT) (t : Ty) (h1 : t.one = true) (q : kT → Bool) (hd : t.deps = []) (hc : t.cdeps = []) (hf : ∀ x ∈ l, oz Tryz.prog t [Ty.agg (jh.tys x)] (Ty.bool (q x))) : cX Tryz.prog 194 [Ty.sl jh l, t] (Ty.bool (l.all q)) := by
 refine aY Tryz.func194 rfl (by decide) Tryz.ntmps194 (by exact Nat.le_of_ble_eq_true rfl) fun w0 M0 => ?_
 refine aF (aA ?_)
 refine eY (ty := t) rfl h1 ?_
 refine dG rfl (aD (aC (aF (aA (gq rfl (cw rfl ?_))))))
 refine aq (nR l (Ty.j9 _ [Ty.pp [t]]) rfl (fun x => !q x) (by exact aZ (aZ hd rfl) rfl) (by exact aU (aU hc rfl) rfl) fun x hx => cY (FE x t h1 (q x) hd hc (hf x hx)) rfl rfl (by exact aZ (aZ hd rfl) rfl) (by exact aU (aU hc rfl) rfl) rfl rfl) rfl (by exact aZ rfl (aZ (aZ (aZ hd rfl) rfl) rfl)) (by exact aU rfl (aU (aU (aU hc rfl) rfl) rfl)) rfl rfl ?_
 refine ct rfl (dG rfl (aD (aC (au (bK rfl rfl ?_)))))
 all_goals skip
 exact bE rfl rfl (congrArg Ty.bool (vr q l))
set_option maxRecDepth 100000 in
theorem zF (l : List v7) (t : Ty) (h1 : t.one = true) (q : v7 → Bool) (hd : t.deps = []) (hc : t.cdeps = []) (hf : ∀ x ∈ l, oz Tryz.prog t [Ty.agg (rL.tys x)] (Ty.bool (q x))) : cX Tryz.prog 182 [Ty.sl rL l, t] (Ty.int .i64 (fidx q l)) := by
 refine aY Tryz.func182 rfl (by decide) Tryz.ntmps182 (by exact Nat.le_of_ble_eq_true rfl) fun w0 M0 => ?_
 refine ko (s := 0) rfl rfl k8 fun hl => ?_
 refine aF (aA (b9 rfl (aD (aC (aF (aF (aA (gq rfl (cC rfl rfl rfl (bF rfl (aD (aC (af ?_)))))))))))))
 refine cK (fun (k : {k : Nat // ∀ x ∈ l.take k, q x = false}) => live [(0, Ty.sl rL l), (1, t), (7, Ty.int .i64 l.length), (8, Ty.int .i64 (k.1 : Nat))] []) (fun k => l.length - k.1) (⟨0, by simp⟩) ?_ fun k => ?_
 ·(refine c8.mk' ?_ ?_ <;> (repeat' (first | exact aI | exact aH | refine aB ?_ (Ty.aR _) | refine aB ?_ (Ty.aG _))))
 refine aF (aA (ak rfl rfl rfl (aD (aC (aF ?_)))))
 refine aa rfl (fun hc1 => ?_) (fun hc1 => ?_)
 ·refine bA (aC (aF (af (aF (aA (bF rfl (b9 rfl (aD (aC (aF (aA ?_)))))))))))
  refine eN (ty := t) rfl ?_
  refine gq rfl (bF rfl ?_)
  refine bG rfl rfl rfl rfl rfl rfl (by omega) ?_
  refine az rfl rfl rfl (by exact Nat.le_of_ble_eq_true rfl) ?_
  refine eA rfl (hf _ (bL (by omega))) rfl ?_
  refine aD (aC ?_)
  refine c9 rfl (fun hc2 => ?_) (fun hc2 => ?_)
  ·refine aF (aA (bF rfl (b9 rfl (aD (aC (au (av (aW (aW (av (aW (bK rfl rfl ?_))))))))))))
   all_goals skip
   exact bE rfl rfl (congrArg (Ty.int .i64) (lO (by omega) k.2 (by rw [← cF]; exact hc2)).symm)
  refine bA (bH (aC (aA ?_)))
  refine bz rfl rfl (by omega) (by omega) ?_
  refine bF rfl (aD ?_)
  refine bO (⟨k.1 + 1, by rw [bh (by omega)]; intro x hx; rcases List.mem_append.1 hx with h | h; exact k.2 x h; rw [List.mem_singleton.1 h]; exact hc2⟩) ?_ (by show l.length - (k.1 + 1) < l.length - k.1; omega)
  (refine c8.mk' ?_ ?_ <;> (repeat' (first | exact aI | exact aH | refine aB ?_ (Ty.aR _) | refine aB ?_ (Ty.aG _))))
  all_goals skip
 refine cE (aL (aL (ah rfl (aC (aF (aA (b9 rfl (aD (aC (au (bK rfl rfl ?_)))))))))))
 all_goals skip
 exact bE rfl rfl (congrArg (Ty.int .i64) (nE (by have := k.2; rwa [List.take_of_length_le (by omega)] at this)).symm)
set_option maxRecDepth 100000 in
theorem uK (l : List v7) (t : Ty) (h1 : t.one = true) (q : v7 → Bool) (hd : t.deps = []) (hc : t.cdeps = []) (hf : ∀ x ∈ l, oz Tryz.prog t [Ty.agg (rL.tys x)] (Ty.bool (q x))) : cX Tryz.prog 147 [Ty.sl rL l, t] (Ty.bool (l.any q)) := by
 refine aY Tryz.func147 rfl (by decide) Tryz.ntmps147 (by exact Nat.le_of_ble_eq_true rfl) fun w0 M0 => ?_
 refine aF (aA (dG rfl (aD (aC (aF (aA (gq rfl ?_)))))))
 refine eN (ty := t) rfl ?_
 refine aq (zF l t h1 q hd hc hf) rfl (by exact aZ rfl (aZ hd rfl)) (by exact aU rfl (aU hc rfl)) rfl rfl ?_
 refine ak rfl rfl rfl (dG rfl (aD (aC (au (bK rfl rfl ?_)))))
 all_goals skip
 exact bE rfl rfl (congrArg Ty.bool (qR q l))
set_option maxRecDepth 100000 in
theorem Ei (x : v7) (t : Ty) (h1 : t.one = true) (b : Bool) (hd : t.deps = []) (hc : t.cdeps = []) (hf : oz Tryz.prog t [Ty.agg (rL.tys x)] (Ty.bool b)) : cX Tryz.prog 148 [Ty.agg (rL.tys x), Ty.pp [t]] (Ty.bool (!b)) := by
 refine aY Tryz.func148 rfl (by decide) Tryz.ntmps148 (by exact Nat.le_of_ble_eq_true rfl) fun w0 M0 => ?_
 refine aF (aA (bD rfl (dG rfl (aD (aC (aF (aA (aK rfl rfl rfl rfl ?_))))))))
 refine az rfl rfl rfl (by exact Nat.le_of_ble_eq_true rfl) ?_
 refine eA rfl hf rfl (ct rfl (dG rfl (aD (aC (au (bK rfl rfl ?_))))))
 all_goals exact bN rfl rfl
set_option maxRecDepth 100000 in
theorem q6 (l : List v7) (t : Ty) (h1 : t.one = true) (q : v7 → Bool) (hd : t.deps = []) (hc : t.cdeps = []) (hf : ∀ x ∈ l, oz Tryz.prog t [Ty.agg (rL.tys x)] (Ty.bool (q x))) : cX Tryz.prog 99 [Ty.sl rL l, t] (Ty.bool (l.all q)) := by
 refine aY Tryz.func99 rfl (by decide) Tryz.ntmps99 (by exact Nat.le_of_ble_eq_true rfl) fun w0 M0 => ?_
 refine aF (aA ?_)
 refine eY (ty := t) rfl h1 ?_
 refine dG rfl (aD (aC (aF (aA (gq rfl (cw rfl ?_))))))
 refine aq (uK l (Ty.j9 _ [Ty.pp [t]]) rfl (fun x => !q x) (by exact aZ (aZ hd rfl) rfl) (by exact aU (aU hc rfl) rfl) fun x hx => cY (Ei x t h1 (q x) hd hc (hf x hx)) rfl rfl (by exact aZ (aZ hd rfl) rfl) (by exact aU (aU hc rfl) rfl) rfl rfl) rfl (by exact aZ rfl (aZ (aZ (aZ hd rfl) rfl) rfl)) (by exact aU rfl (aU (aU (aU hc rfl) rfl) rfl)) rfl rfl ?_
 refine ct rfl (dG rfl (aD (aC (au (bK rfl rfl ?_)))))
 all_goals skip
 exact bE rfl rfl (congrArg Ty.bool (vr q l))
end Go.Proofs.YtmmcenjknimhbaaGreat
namespace Go.Proofs.YtmmcenjknimhbaaGreat
open Go Go.T
attribute [local irreducible] eG cZ jR j6 eP eO eK eM eS j8 eJ j4 b8 dc jz dZ j7 nth eZ cU aV cX bodyPost Exit.then Exit.inBlock Code.wp Code.wpIn
theorem Je {α : Type} [Inhabited α] {a b : List α} {k : Nat} (h : nth a k ≠ nth b k) : a ≠ b := fun e => h (by rw [e])
structure bS.Small (f : bS) : Prop where
  bears : f.bears.length ≤ 8
  bins : f.bins.length ≤ 9
  turnings : f.turnings.length ≤ 11
  rules : f.rules.length ≤ 21
  shares : ∀ b ∈ f.bins, b.shares.length ≤ 8
set_option maxRecDepth 100000 in
theorem vH (a b : List Int) : cX Tryz.prog 49 [Ty.sl dN a, Ty.sl dN b] (Ty.bool (decide (a = b))) := by
 refine aY Tryz.func49 rfl (by decide) Tryz.ntmps49 (by exact Nat.le_of_ble_eq_true rfl) fun w0 M0 => ?_
 refine ko (s := 0) rfl rfl k8 fun ha => ?_
 refine ko (s := 1) rfl rfl k8 fun hb => ?_
 refine aF (aA (dG rfl (aD (aC (aF (aF (aA (gq rfl (cC rfl rfl rfl (gq rfl (cC rfl rfl rfl (ak rfl rfl rfl (aD (aC ?_))))))))))))))
 refine ck rfl (fun hc1 => ?_) (fun hc1 => ?_)
 ·try (simp only [Classical.not_not] at hc1)
  refine aF (aA (dG rfl (aD (aC (au (aW (bK rfl rfl ?_)))))))
  all_goals skip
  exact bE rfl rfl (congrArg Ty.bool (by rw [eq_comm, decide_eq_false_iff_not]; intro e; subst e; exact hc1 rfl))
 try (simp only [Classical.not_not] at hc1)
 refine bA (aC (aF (aF (aA (gq rfl (cC rfl rfl rfl (bF rfl (aD (aC (af ?_))))))))))
 refine cK (fun (k : {k : Nat // a.take k = b.take k}) => live [(0, Ty.sl dN a), (1, Ty.sl dN b), (12, Ty.int .i64 a.length), (13, Ty.int .i64 (k.1 : Nat))] []) (fun k => a.length - k.1) (⟨0, by simp⟩) ?_ fun k => ?_
 ·(refine c8.mk' ?_ ?_ <;> (repeat' (first | exact aI | exact aH | refine aB ?_ (Ty.aR _) | refine aB ?_ (Ty.aG _))))
 have hlen : a.length = b.length := by omega
 refine aF (aA (ak rfl rfl rfl (aD (aC (aF ?_)))))
 refine aa rfl (fun hc2 => ?_) (fun hc2 => ?_)
 ·try (simp only [Classical.not_not] at hc2)
  refine bA (aC (aF (af (aF (aA (bF rfl (b9 rfl (aD (aC (aF (cg mixed rfl (gq rfl (bF rfl ?_)))))))))))))
  refine bG rfl rfl rfl rfl rfl rfl (by omega) ?_
  refine aK rfl rfl rfl rfl (gq rfl (bF rfl ?_))
  refine bG rfl rfl rfl rfl rfl rfl (by omega) ?_
  refine aK rfl rfl rfl rfl (ak rfl rfl rfl (aD ?_))
  refine ⟨by kernel_rfl, ?_⟩
  refine aC ?_
  refine ck rfl (fun hc3 => ?_) (fun hc3 => ?_)
  ·try (simp only [Classical.not_not] at hc3)
   refine aF (aA (dG rfl (aD (aC (au (av (aW (aW (av (aW (bK rfl rfl ?_)))))))))))
   all_goals skip
   exact bE rfl rfl (congrArg Ty.bool (by rw [eq_comm, decide_eq_false_iff_not]; exact Je (k := k.1) (hc3)))
  try (simp only [Classical.not_not] at hc3)
  refine bA (bH (aC (aA ?_)))
  refine bz rfl rfl (by omega) (by omega) ?_
  refine bF rfl (aD ?_)
  refine bO (⟨k.1 + 1, by rw [bh (by omega), bh (by omega), k.2, hc3]⟩) ?_ (by show a.length - (k.1 + 1) < a.length - k.1; omega)
  (refine c8.mk' ?_ ?_ <;> (repeat' (first | exact aI | exact aH | refine aB ?_ (Ty.aR _) | refine aB ?_ (Ty.aG _))))
  all_goals skip
 try (simp only [Classical.not_not] at hc2)
 refine cE (aL (aL (ah rfl (aC (aF (aA (dG rfl (aD (aC (au (bK rfl rfl ?_)))))))))))
 all_goals skip
 exact bE rfl rfl (congrArg Ty.bool (by rw [eq_comm, decide_eq_true_eq]; have := k.2; rwa [List.take_of_length_le (by omega), List.take_of_length_le (by omega)] at this))
end Go.Proofs.YtmmcenjknimhbaaGreat
namespace Go.Proofs.YtmmcenjknimhbaaGreat
open Go Go.T
def cm (f : Nat → Int) : Nat → Int
  | 0 => 0
  | n + 1 => cm f n + f n
theorem gX {f g : Nat → Int} : ∀ {n : Nat}, (∀ i, i < n → f i = g i) → cm f n = cm g n
  | 0, _ => rfl
  | n + 1, h => by unfold cm; rw [gX fun i hi => h i (by omega), h n (by omega)]
theorem wK (f g : Nat → Int) : ∀ n, cm (fun i => f i + g i) n = cm f n + cm g n
  | 0 => rfl
  | n + 1 => by unfold cm; rw [wK f g n]; omega
theorem pW (f g : Nat → Int) : ∀ n, cm (fun i => f i - g i) n = cm f n - cm g n
  | 0 => rfl
  | n + 1 => by unfold cm; rw [pW f g n]; omega
theorem sG (k : Int) (f : Nat → Int) : ∀ n, cm (fun i => k * f i) n = k * cm f n
  | 0 => (Int.mul_zero k).symm
  | n + 1 => by unfold cm; rw [sG k f n, Int.mul_add]
theorem zM {f g : Nat → Int} : ∀ {n : Nat}, (∀ i, i < n → f i ≤ g i) → cm f n ≤ cm g n
  | 0, _ => Int.le_refl _
  | n + 1, h => by
    unfold cm
    have := zM (n := n) fun i hi => h i (by omega)
    have := h n (by omega)
    omega
theorem lN {f : Nat → Int} {n : Nat} (h : ∀ i, i < n → f i = 0) : cm f n = 0 := by
  induction n with
  | zero => rfl
  | succ n ih => unfold cm; rw [ih fun i hi => h i (by omega), h n (by omega)]; rfl
theorem KM {f g : Nat → Int} {n k : Nat} (hk : k < n) (h : ∀ i, i < n → f i ≤ g i) (hl : f k < g k) : cm f n < cm g n := by
  induction n with
  | zero => omega
  | succ n ih =>
    unfold cm
    by_cases e : k = n
    · subst e
      have := zM (f := f) (g := g) (n := k) fun i hi => h i (by omega)
      omega
    · have := ih (by omega) fun i hi => h i (by omega)
      have := h n (by omega)
      omega
theorem qv {f : Nat → Int} {n k : Nat} (hk : k < n) (h : ∀ i, i < n → i ≠ k → f i = 0) : cm f n = f k := by
  induction n with
  | zero => omega
  | succ n ih =>
    unfold cm
    by_cases e : k = n
    · subst e; rw [lN fun i hi => h i (by omega) (by omega)]; omega
    · rw [ih (by omega) fun i hi hn => h i (by omega) hn, h n (by omega) (by omega)]; omega
theorem xM (f : Nat → Nat → Int) (m : Nat) : ∀ n, cm (fun i => cm (f i) m) n = cm (fun j => cm (fun i => f i j) n) m
  | 0 => (lN fun _ _ => rfl).symm
  | n + 1 => by
    show cm (fun i => cm (f i) m) n + cm (f n) m = cm (fun j => cm (fun i => f i j) n + f n j) m
    rw [xM f m n, wK]
theorem vv {f : Nat → Int} {b : Int} : ∀ {n : Nat}, (∀ i, i < n → -b ≤ f i ∧ f i ≤ b) → -(b * n) ≤ cm f n ∧ cm f n ≤ b * n
  | 0, _ => by simp [cm]
  | n + 1, h => by
    unfold cm
    have h1 := vv (n := n) fun i hi => h i (by omega)
    have h2 := h n (by omega)
    rw [show ((n + 1 : Nat) : Int) = n + 1 by omega, Int.mul_add]
    omega
structure c6 where
  src : Int
  dst : Int
  lo : Int
  hi : Int
deriving DecidableEq, Inhabited
structure bl where
  ix : Nat
  more : Bool
deriving DecidableEq
instance : Inhabited bl := ⟨⟨0, false⟩⟩
def ind (p : Prop) [Decidable p] : Int := if p then 1 else 0
theorem lW {p : Prop} [Decidable p] (h : p) : ind p = 1 := if_pos h
theorem k7 {p : Prop} [Decidable p] (h : ¬ p) : ind p = 0 := if_neg h
section
variable {fl : List c6} {a a' : List Int} {n : Nat}
def cS (fl : List c6) (a : List Int) (c : Int) : Int := cm (fun i => (ind ((nth fl i).dst = c) - ind ((nth fl i).src = c)) * nth a i) fl.length
structure Net (fl : List c6) (n : Nat) : Prop where
  src : ∀ i, i < fl.length → 0 ≤ (nth fl i).src ∧ (nth fl i).src < n
  dst : ∀ i, i < fl.length → 0 ≤ (nth fl i).dst ∧ (nth fl i).dst < n
  ne : ∀ i, i < fl.length → (nth fl i).src ≠ (nth fl i).dst
def MV (fl : List c6) (a : List Int) : Prop := a.length = fl.length ∧ ∀ i, i < fl.length → (nth fl i).lo ≤ nth a i ∧ nth a i ≤ (nth fl i).hi
def TA (fl : List c6) (n : Nat) (a : List Int) : Prop := ∀ c : Nat, c < n → cS fl a c = 0
def EI (fl : List c6) (n : Nat) (a : List Int) : Prop := MV fl a ∧ TA fl n a
theorem Ka {π : Int → Int} {x : Int} (h : 0 ≤ x ∧ x < n) : cm (fun c => π c * ind (x = (c : Int))) n = π x := by
 rw [qv (k := x.toNat) (by omega) fun i hi hn => by rw [k7 (by omega), Int.mul_zero], lW (by omega), Int.mul_one]
 congr 1; omega
theorem F0 (hN : Net fl n) (π : Int → Int) : cm (fun c => π c * cS fl a c) n = cm (fun i => (π (nth fl i).dst - π (nth fl i).src) * nth a i) fl.length := by
 unfold cS
 rw [gX (g := fun c : Nat => cm (fun i => π c * ((ind ((nth fl i).dst = c) - ind ((nth fl i).src = c)) * nth a i)) fl.length) fun c _ => (sG _ _ _).symm, xM]
 refine gX fun i hi => ?_
 rw [gX (g := fun c : Nat => nth a i * (π c * ind ((nth fl i).dst = c) - π c * ind ((nth fl i).src = c))) fun c _ => by
  rw [← Int.mul_sub, Int.mul_comm (_ - _) (nth a i), ← Int.mul_assoc, Int.mul_comm (π c), Int.mul_assoc], sG, pW, Ka (hN.dst i hi), Ka (hN.src i hi), Int.mul_comm]
theorem O9 (hN : Net fl n) (h : TA fl n a) (π : Int → Int) : cm (fun i => (π (nth fl i).dst - π (nth fl i).src) * nth a i) fl.length = 0 := by
 rw [← F0 hN]
 exact lN fun c hc => by rw [h c hc, Int.mul_zero]
def bl.fin (w : bl) (fl : List c6) : Int := if w.more then (nth fl w.ix).dst else (nth fl w.ix).src
def bl.iZ (w : bl) (fl : List c6) : Int := if w.more then (nth fl w.ix).src else (nth fl w.ix).dst
def bl.room (w : bl) (fl : List c6) (a : List Int) : Int := if w.more then (nth fl w.ix).hi - nth a w.ix else nth a w.ix - (nth fl w.ix).lo
def Open (fl : List c6) (a : List Int) (w : bl) : Prop := w.ix < fl.length ∧ 0 < w.room fl a
theorem OE (hN : Net fl n) (hI : MV fl a) (R : Int → Bool) (hcl : ∀ w, Open fl a w → R (w.iZ fl) = true → R (w.fin fl) = true)
    (h0 : ∀ c : Nat, c < n → R c = true → 0 ≤ cS fl a c) {c0 : Nat} (hc0 : c0 < n) (hR0 : R c0 = true) (hp : 0 < cS fl a c0) : ¬ ∃ a', EI fl n a' := by
  rintro ⟨a', hI', hE⟩
  have h1 := F0 (a := a) hN fun c => ind (R c = true)
  have h2 := O9 hN hE fun c => ind (R c = true)
  have hpos : 0 < cm (fun c : Nat => ind (R c = true) * cS fl a c) n := by
    have := KM (f := fun _ => 0) (g := fun c : Nat => ind (R c = true) * cS fl a c) hc0 (fun i hi => by
      cases h : R i with
      | true => rw [lW rfl, Int.one_mul]; exact h0 i hi h
      | false => rw [k7 (by decide), Int.zero_mul]; exact Int.le_refl _) (by show (0 : Int) < _; rw [hR0, lW rfl, Int.one_mul]; exact hp)
    rwa [lN fun _ _ => rfl] at this
  have hle : cm (fun i => (ind (R (nth fl i).dst = true) - ind (R (nth fl i).src = true)) * nth a i) fl.length ≤ cm (fun i => (ind (R (nth fl i).dst = true) - ind (R (nth fl i).src = true)) * nth a' i) fl.length := by
    refine zM fun i hi => ?_
    have b1 := hI.2 i hi
    have b2 := hI'.2 i hi
    have c1 := hcl ⟨i, true⟩
    have c2 := hcl ⟨i, false⟩
    simp only [Open, bl.room, bl.iZ, bl.fin, if_true, if_false, Bool.false_eq_true] at c1 c2
    have e1 : ind (true = true) = 1 := rfl
    have e0 : ind (false = true) = 0 := rfl
    cases hd : R (nth fl i).dst <;> cases hs : R (nth fl i).src <;> rw [hd] at c1 c2 <;> rw [hs] at c1 c2
    · simp [ind]
    · rw [e1, e0]
      have : ¬ 0 < (nth fl i).hi - nth a i := fun h => by have := c1 ⟨hi, h⟩ rfl; cases this
      omega
    · rw [e1, e0]
      have : ¬ 0 < nth a i - (nth fl i).lo := fun h => by have := c2 ⟨hi, h⟩ rfl; cases this
      omega
    · simp [ind]
  omega
end
end Go.Proofs.YtmmcenjknimhbaaGreat
namespace Go.Proofs.YtmmcenjknimhbaaGreat
open Go Go.T
def nj {α : Type} (p : α → Bool) (l : List α) : Int := match l.findIdx? p with | some i => (i : Int) | none => -1
theorem oF {α : Type} {p : α → Bool} {l : List α} {k : Nat} (hk : k < l.length) (h : ∀ x ∈ l.take k, p x = false) (hp : p l[k] = true) : nj p l = k := by
 have : l.findIdx? p = some k := by
  rw [List.findIdx?_eq_some_iff_getElem]
  refine ⟨hk, hp, fun j hj => ?_⟩
  have := h l[j] (by rw [List.mem_take_iff_getElem]; exact ⟨j, by omega, rfl⟩)
  simp [this]
 simp [nj, this]
theorem qM {α : Type} {p : α → Bool} {l : List α} (h : ∀ x ∈ l, p x = false) : nj p l = -1 := by
 have : l.findIdx? p = none := by simpa using h
 simp [nj, this]
theorem wB {α : Type} (p : α → Bool) (l : List α) : decide (0 ≤ nj p l) = l.any p := by
  unfold nj
  cases h : l.findIdx? p with
  | none =>
    rw [List.findIdx?_eq_none_iff] at h
    have : l.any p = false := by simpa using h
    rw [this]; rfl
  | some i =>
    have : l.any p = true := by
      rw [List.findIdx?_eq_some_iff_getElem] at h
      obtain ⟨hi, hp, _⟩ := h
      rw [List.any_eq_true]; exact ⟨_, List.getElem_mem hi, hp⟩
    rw [this]; simp
def tO (n lo hi : Int) : Bool := decide (n ≥ lo) && decide (n ≤ hi)
theorem fK {n lo hi : Int} : tO n lo hi = true ↔ lo ≤ n ∧ n ≤ hi := by unfold tO; simp
theorem wW {b : Bool} (h : b = false) : ¬ b = true := by rw [h]; decide
theorem Bm {α : Type} [Inhabited α] {l : List α} {x : α} (h : x ∈ l) : ∃ m, m < l.length ∧ x = nth l m := by
 obtain ⟨m, hm, e⟩ := List.getElem_of_mem h
 exact ⟨m, hm, by rw [cF hm]; exact e.symm⟩
theorem mj : ∀ {n : Nat} {l : List Nat}, l.Nodup → (∀ y ∈ l, y < n) → l.length ≤ n
  | 0, l, _, hr => by
    cases l with
    | nil => simp
    | cons a _ => exact absurd (hr a List.mem_cons_self) (by omega)
  | n + 1, l, hn, hr => by
    by_cases h : n ∈ l
    · have h1 := List.length_erase_of_mem h
      have h2 := mj (n := n) (l := l.erase n) (hn.erase n) fun y hy => by
        have h3 := (hn.mem_erase_iff (a := y) (b := n)).1 hy
        have := hr y h3.2
        have := h3.1
        omega
      omega
    · have h2 := mj (n := n) (l := l) hn fun y hy => by
        have := hr y hy
        have : y ≠ n := fun e => h (e ▸ hy)
        omega
      omega
theorem nD {α : Type} [Inhabited α] {l : List α} {i j : Nat} {v : α} (h : j < l.length) : nth (l.set i v) j = if i = j then v else nth l j := by
 unfold nth
 rw [List.getD_eq_getElem?_getD, List.getD_eq_getElem?_getD, List.getElem?_set]
 by_cases e : i = j
 ·subst e; rw [if_pos rfl, if_pos rfl, if_pos h]; rfl
 rw [if_neg e, if_neg e]
theorem AB {α : Type} : ∀ (l : List α), l = [] ∨ ∃ l' x, l = l' ++ [x]
  | [] => .inl rfl
  | x :: l => by
    rcases AB l with h | ⟨l', y, h⟩
    · subst h; exact .inr ⟨[], x, rfl⟩
    · subst h; exact .inr ⟨x :: l', y, rfl⟩
theorem CW {α : Type} {C : List α → Prop} (h0 : C []) (h1 : ∀ l x, C l → C (l ++ [x])) : ∀ l, C l := by
  intro l
  have key : ∀ n (l : List α), l.length = n → C l := by
    intro n
    induction n with
    | zero => intro l h; rw [List.length_eq_zero_iff.1 h]; exact h0
    | succ n ih =>
      intro l h
      rcases AB l with e | ⟨l', x, e⟩
      · subst e; cases h
      · subst e; exact h1 l' x (ih l' (by simpa using h))
  exact key _ l rfl
section
variable {κ β : Type} [DecidableEq κ]
theorem rQ (q : List (κ × β)) (k : κ) (v : β) (x : κ) : x ∈ (cq q k v).map Prod.fst ↔ x = k ∨ x ∈ q.map Prod.fst := by
  induction q with
  | nil => simp [cq]
  | cons y l ih =>
    simp only [cq]
    by_cases h : y.1 = k
    · subst h; simp
    · rw [if_neg h]; simp only [List.map_cons, List.mem_cons, ih]
      constructor
      · rintro (h | h | h)
        · exact .inr (.inl h)
        · exact .inl h
        · exact .inr (.inr h)
      · rintro (h | h | h)
        · exact .inr (.inl h)
        · exact .inl h
        · exact .inr (.inr h)
theorem Gm (q : List (κ × β)) (k : κ) (v : β) (hn : (q.map Prod.fst).Nodup) : ((cq q k v).map Prod.fst).Nodup := by
  induction q with
  | nil => simp [cq]
  | cons y l ih =>
    rw [List.map_cons, List.nodup_cons] at hn
    simp only [cq]
    by_cases h : y.1 = k
    · subst h; rw [if_pos rfl, List.map_cons, List.nodup_cons]; exact hn
    · rw [if_neg h, List.map_cons, List.nodup_cons]
      refine ⟨fun hm => ?_, ih hn.2⟩
      rcases (rQ l k v y.1).1 hm with e | e
      · exact h e
      · exact hn.1 e
theorem rI {q : List (κ × β)} {k : κ} {v : β} (h : bf q k = some v) : k ∈ q.map Prod.fst := by
  induction q with
  | nil => cases h
  | cons y l ih =>
    simp only [bf] at h
    by_cases e : y.1 = k
    · subst e; simp
    · rw [if_neg e] at h; exact List.mem_cons_of_mem _ (ih h)
theorem tD {q : List (κ × β)} {k : κ} (h : k ∈ q.map Prod.fst) : ∃ v, bf q k = some v := by
  induction q with
  | nil => cases h
  | cons y l ih =>
    simp only [bf]
    by_cases e : y.1 = k
    · exact ⟨_, if_pos e⟩
    · rw [if_neg e]; rw [List.map_cons, List.mem_cons] at h
      exact ih (h.resolve_left fun h => e h.symm)
theorem Di (q : List (κ × β)) (k : κ) (v : β) (h : bf q k = none) : (cq q k v).length = q.length + 1 := by
  induction q with
  | nil => rfl
  | cons y l ih =>
    simp only [bf] at h
    by_cases e : y.1 = k
    · rw [if_pos e] at h; cases h
    · rw [if_neg e] at h; simp only [cq, if_neg e, List.length_cons, ih h]
end
theorem vX {n : Nat} {l : List Int} (h : l.Nodup) (hr : ∀ y ∈ l, 0 ≤ y ∧ y < (n : Int)) : l.length ≤ n := by
 have h1 : (l.map Int.toNat).Nodup := by
  rw [List.nodup_iff_pairwise_ne, List.pairwise_map]
  refine (List.nodup_iff_pairwise_ne.1 h).imp_of_mem fun {a b} ha hb hne e => hne ?_
  have := hr a ha; have := hr b hb; omega
 have h2 := mj (n := n) h1 fun y hy => by
  obtain ⟨z, hz, rfl⟩ := List.mem_map.1 hy
  have := hr z hz; omega
 rwa [List.length_map] at h2
section
variable {σ ρ : Type} [Inhabited ρ] {step : σ → σ ⊕ ρ} {x y : σ} {r s : ρ}
def HM (step : σ → σ ⊕ ρ) : Nat → σ → Option ρ
  | 0, _ => none
  | n + 1, x => match step x with | .inl y => HM step n y | .inr r => some r
def r6 (step : σ → σ ⊕ ρ) (x : σ) (r : ρ) : Prop := ∃ n, HM step n x = some r
omit [Inhabited ρ] in
theorem Gg : ∀ {n m : Nat} {x : σ}, HM step n x = some r → HM step m x = some s → r = s
  | 0, _, _, h, _ => by cases h
  | _ + 1, 0, _, _, h => by cases h
  | n + 1, m + 1, x, h, h' => by
    unfold HM at h h'
    cases e : step x with
    | inl y => rw [e] at h h'; exact Gg h h'
    | inr t => rw [e] at h h'; injection h with h; injection h' with h'; rw [← h, h']
omit [Inhabited ρ] in
theorem r6.V2 (h : r6 step x r) (h' : r6 step x s) : r = s := let ⟨_, h⟩ := h; let ⟨_, h'⟩ := h'; Gg h h'
noncomputable def p4 (step : σ → σ ⊕ ρ) (x : σ) : ρ := open Classical in if h : ∃ r, r6 step x r then h.choose else default
theorem Ea (h : r6 step x r) : p4 step x = r := by
 have hx : ∃ r, r6 step x r := ⟨r, h⟩
 unfold p4; rw [dif_pos hx]; exact hx.choose_spec.V2 h
omit [Inhabited ρ] in
theorem It (e : step x = .inr r) : r6 step x r := ⟨1, by unfold HM; rw [e]⟩
theorem jm (e : step x = .inr r) : p4 step x = r := Ea (It e)
omit [Inhabited ρ] in
theorem AY (e : step x = .inl y) : r6 step x r ↔ r6 step y r := by
  constructor
  · rintro ⟨n, h⟩
    cases n with
    | zero => cases h
    | succ n => unfold HM at h; rw [e] at h; exact ⟨n, h⟩
  · rintro ⟨n, h⟩; exact ⟨n + 1, by unfold HM; rw [e]; exact h⟩
theorem iN (e : step x = .inl y) : p4 step x = p4 step y := by
 by_cases h : ∃ r, r6 step y r
 ·obtain ⟨r, h⟩ := h
  rw [Ea h, Ea ((AY e).2 h)]
 have h' : ¬ ∃ r, r6 step x r := fun ⟨r, hr⟩ => h ⟨r, (AY e).1 hr⟩
 unfold p4; rw [dif_neg h, dif_neg h']
theorem vl (I : σ → Prop) (S : ρ → Prop) (mu : σ → Nat) (h : ∀ x, I x → (∃ y, step x = .inl y ∧ I y ∧ mu y < mu x) ∨ ∃ r, step x = .inr r ∧ S r) : ∀ x, I x → S (p4 step x) := by
  have key : ∀ n x, mu x < n → I x → S (p4 step x) := by
    intro n
    induction n with
    | zero => intro x hx; omega
    | succ n ih =>
      intro x hx hI
      rcases h x hI with ⟨y, e, hy, hm⟩ | ⟨r, e, hr⟩
      · rw [iN e]; exact ih y (by omega) hy
      · rw [jm e]; exact hr
  exact fun x hx => key _ x (Nat.lt_succ_self _) hx
end
end Go.Proofs.YtmmcenjknimhbaaGreat
namespace Go.Proofs.YtmmcenjknimhbaaGreat
open Go Go.T
section
variable {fl : List c6} {a : List Int} {n : Nat} {w u : bl} {c x y z by_ : Int}
def O8 (fl : List c6) (a : List Int) (c : Int) (i : Nat) : List bl := (if nth a i < (nth fl i).hi ∧ (nth fl i).src = c then [⟨i, true⟩] else []) ++ (if nth a i > (nth fl i).lo ∧ (nth fl i).dst = c then [⟨i, false⟩] else [])
def bZ (fl : List c6) (a : List Int) (c : Int) : List bl := (List.range fl.length).flatMap (O8 fl a c)
theorem wD : w ∈ bZ fl a c ↔ Open fl a w ∧ w.iZ fl = c := by
  unfold bZ O8 Open bl.room bl.iZ
  rw [List.mem_flatMap]
  constructor
  · rintro ⟨i, hi, h⟩
    rw [List.mem_range] at hi
    rcases List.mem_append.1 h with h | h
    · split at h
      · rename_i hc; rw [List.mem_singleton.1 h]; exact ⟨⟨hi, by simp only [if_true]; omega⟩, hc.2⟩
      · cases h
    · split at h
      · rename_i hc; rw [List.mem_singleton.1 h]; exact ⟨⟨hi, by simp only [Bool.false_eq_true, if_false]; omega⟩, hc.2⟩
      · cases h
  · rintro ⟨⟨h1, h2⟩, h3⟩
    refine ⟨w.ix, List.mem_range.2 h1, ?_⟩
    obtain ⟨i, m⟩ := w
    cases m with
    | true =>
      simp only [if_true] at h2 h3
      refine List.mem_append.2 (.inl ?_)
      rw [if_pos ⟨by show nth a i < (nth fl i).hi; have : 0 < (nth fl i).hi - nth a i := h2; omega, h3⟩]; exact List.mem_singleton.2 rfl
    | false =>
      simp only [Bool.false_eq_true, if_false] at h2 h3
      refine List.mem_append.2 (.inr ?_)
      rw [if_pos ⟨by show nth a i > (nth fl i).lo; have : 0 < nth a i - (nth fl i).lo := h2; omega, h3⟩]; exact List.mem_singleton.2 rfl
theorem OQ (i : Nat) : (O8 fl a c i).length ≤ 2 := by
 unfold O8; split <;> split <;> simp
theorem A6 : (bZ fl a c).length ≤ 2 * fl.length := by
  have key : ∀ n, ((List.range n).flatMap (O8 fl a c)).length ≤ 2 * n := by
    intro n
    induction n with
    | zero => simp
    | succ n ih => rw [List.range_succ, List.flatMap_append, List.length_append, List.flatMap_singleton]; have := OQ (fl := fl) (a := a) (c := c) n; omega
  exact key _
theorem Net.way (hN : Net fl n) (h : w.ix < fl.length) : (0 ≤ w.iZ fl ∧ w.iZ fl < n) ∧ (0 ≤ w.fin fl ∧ w.fin fl < n) ∧ w.iZ fl ≠ w.fin fl := by
 unfold bl.iZ bl.fin
 have h1 := hN.src _ h
 have h2 := hN.dst _ h
 have h3 := hN.ne _ h
 cases w.more <;> simp <;> omega
def Hl (w : bl) (k : Int) : Int := if w.more then k else -k
def qi (a : List Int) (w : bl) (k : Int) : List Int := a.set w.ix (nth a w.ix + Hl w k)
def hO (a : List Int) (l : List bl) (k : Int) : List Int := l.foldl (fun a w => qi a w k) a
theorem wg (k : Int) : (qi a w k).length = a.length := List.length_set
theorem nJ (h : w.ix < a.length) (i : Nat) (k : Int) : nth (qi a w k) i = if w.ix = i then nth a i + Hl w k else nth a i := by
 unfold qi
 by_cases e : i < a.length
 ·rw [nD e]; split
  ·rename_i e; subst e; rfl
  rfl
 rw [if_neg (by omega)]
 have h1 : (a.set w.ix (nth a w.ix + Hl w k))[i]? = none := List.getElem?_eq_none (by rw [List.length_set]; omega)
 have h2 : a[i]? = none := List.getElem?_eq_none (by omega)
 unfold nth at *
 simp only [List.getD_eq_getElem?_getD] at *
 rw [h1, h2]
theorem II (hl : a.length = fl.length) (h : w.ix < fl.length) (k : Int) (c : Int) : cS fl (qi a w k) c = cS fl a c + (ind (w.fin fl = c) - ind (w.iZ fl = c)) * k := by
  unfold cS
  have e : cm (fun i => (ind ((nth fl i).dst = c) - ind ((nth fl i).src = c)) * nth (qi a w k) i) fl.length - cm (fun i => (ind ((nth fl i).dst = c) - ind ((nth fl i).src = c)) * nth a i) fl.length = (ind (w.fin fl = c) - ind (w.iZ fl = c)) * k := by
    rw [← pW, qv h fun i _ hn => by rw [nJ (by omega), if_neg (fun e => hn e.symm)]; omega]
    rw [nJ (by omega), if_pos rfl, ← Int.mul_sub, show nth a w.ix + Hl w k - nth a w.ix = Hl w k by omega]
    unfold Hl bl.fin bl.iZ
    cases w.more with
    | true => simp
    | false => simp only [Bool.false_eq_true, if_false]; rw [Int.mul_neg, ← Int.neg_mul, Int.neg_sub]
  omega
def Trail (fl : List c6) : List bl → Int → Int → Prop
  | [], x, y => x = y
  | w :: l, x, y => w.fin fl = x ∧ Trail fl l (w.iZ fl) y
theorem w8 (hl : a.length = fl.length) (k : Int) : ∀ (l : List bl) (a : List Int) (x y : Int), a.length = fl.length → (∀ w ∈ l, w.ix < fl.length) → Trail fl l x y → ∀ c, cS fl (hO a l k) c = cS fl a c + (ind (x = c) - ind (y = c)) * k
  | [], a, x, y, _, _, h, c => by obtain rfl : x = y := h; simp [hO]
  | w :: l, a, x, y, ha, hw, h, c => by
    show cS fl (hO (qi a w k) l k) c = _
    rw [w8 hl k l _ (w.iZ fl) y (by rw [wg]; exact ha) (fun u hu => hw u (List.mem_cons_of_mem _ hu)) h.2, II ha (hw w List.mem_cons_self), h.1]
    rw [Int.add_assoc, ← Int.add_mul]
    congr 2; omega
theorem Lx (hl : a.length = fl.length) (hw : w.ix < fl.length) {k : Int} (hk : 0 ≤ k) (hne : u ≠ w) : u.room fl a ≤ u.room fl (qi a w k) := by
 unfold bl.room
 rw [nJ (by omega)]
 by_cases e : w.ix = u.ix
 ·rw [if_pos e]
  have hm : u.more ≠ w.more := fun h => hne (by cases u; cases w; simp_all)
  unfold Hl
  revert hm
  cases u.more <;> cases w.more <;> simp <;> omega
 rw [if_neg e]; exact Int.le_refl _
theorem MB (h : MV fl a) (hw : w.ix < fl.length) {k : Int} (hk : 0 ≤ k) (hr : k ≤ w.room fl a) : MV fl (qi a w k) := by
 refine ⟨by rw [wg]; exact h.1, fun i hi => ?_⟩
 have hb := h.2 i hi
 have hl := h.1
 rw [nJ (by omega)]
 split
 ·rename_i e; subst e
  unfold bl.room at hr; unfold Hl
  revert hr
  cases w.more <;> simp <;> omega
 exact hb
theorem BV {k : Int} (hk : 0 ≤ k) : ∀ (l : List bl) (a : List Int), MV fl a → l.Nodup → (∀ w ∈ l, w.ix < fl.length ∧ k ≤ w.room fl a) → MV fl (hO a l k)
  | [], _, h, _, _ => h
  | w :: l, a, h, hn, hw => by
    rw [List.nodup_cons] at hn
    have h0 := hw w List.mem_cons_self
    refine BV hk l _ (MB h h0.1 hk h0.2) hn.2 fun u hu => ?_
    have h1 := hw u (List.mem_cons_of_mem _ hu)
    exact ⟨h1.1, Int.le_trans h1.2 (Lx h.1 h0.1 hk fun e => hn.1 (by rw [← e]; exact hu))⟩
theorem Fm (hl : a.length = fl.length) (h : w.ix < fl.length) (g : Nat → Int) (k : Int) : cm (fun i => g i * nth (qi a w k) i) fl.length = cm (fun i => g i * nth a i) fl.length + Hl w (g w.ix) * k := by
  have e : cm (fun i => g i * nth (qi a w k) i) fl.length - cm (fun i => g i * nth a i) fl.length = Hl w (g w.ix) * k := by
    rw [← pW, qv h fun i _ hn => by rw [nJ (by omega), if_neg (fun e => hn e.symm)]; omega]
    rw [nJ (by omega), if_pos rfl, ← Int.mul_sub, show nth a w.ix + Hl w k - nth a w.ix = Hl w k by omega]
    unfold Hl
    cases w.more with
    | true => simp
    | false => simp only [Bool.false_eq_true, if_false]; rw [Int.mul_neg, Int.neg_mul]
  omega
def AL (g : Nat → Int) (l : List bl) : Int := (l.map fun w => Hl w (g w.ix)).sum
theorem zx (g : Nat → Int) (k : Int) : ∀ (l : List bl) (a : List Int), a.length = fl.length → (∀ w ∈ l, w.ix < fl.length) → cm (fun i => g i * nth (hO a l k) i) fl.length = cm (fun i => g i * nth a i) fl.length + AL g l * k
  | [], a, _, _ => by simp [hO, AL]
  | w :: l, a, ha, hw => by
    show cm (fun i => g i * nth (hO (qi a w k) l k) i) fl.length = _
    rw [zx g k l _ (by rw [wg]; exact ha) fun u hu => hw u (List.mem_cons_of_mem _ hu), Fm ha (hw w List.mem_cons_self)]
    unfold AL
    rw [List.map_cons, List.sum_cons, Int.add_mul]; omega
end
end Go.Proofs.YtmmcenjknimhbaaGreat
namespace Go.Proofs.YtmmcenjknimhbaaGreat
open Go Go.T
section
variable {fl : List c6} {a : List Int} {n : Nat} {s : Int} {c : Int} {w : bl}
structure l8 where
  by_ : List (Int × bl)
  queue : List Int
instance : Inhabited l8 := ⟨⟨[], []⟩⟩
def C2 (q : List (Int × bl)) (s c : Int) : Prop := c = s ∨ c ∈ q.map Prod.fst
def FL (fl : List c6) (s : Int) (q : List (Int × bl)) (w : bl) : Bool := !(bf q (w.fin fl)).isSome && !decide (w.fin fl = s)
def yM (fl : List c6) (s : Int) (x : l8) (w : bl) : l8 := if FL fl s x.by_ w = true then ⟨cq x.by_ (w.fin fl) w, x.queue ++ [w.fin fl]⟩ else x
theorem Du {x : l8} (h : FL fl s x.by_ w = true) : yM fl s x w = ⟨cq x.by_ (w.fin fl) w, x.queue ++ [w.fin fl]⟩ := if_pos h
theorem Fc {x : l8} (h : FL fl s x.by_ w = false) : yM fl s x w = x := if_neg (by rw [h]; decide)
def jq (fl : List c6) (a : List Int) (s c : Int) (x : l8) (k : Nat) : l8 := ((bZ fl a c).take k).foldl (yM fl s) x
theorem Bv {x : l8} {k : Nat} (hk : k < (bZ fl a c).length) : jq fl a s c x (k + 1) = yM fl s (jq fl a s c x k) (nth (bZ fl a c) k) := by
 unfold jq; rw [bh hk, List.foldl_append]; rfl
def AJ (fl : List c6) (a : List Int) (s : Int) (x : l8) : l8 ⊕ List (Int × bl) :=
  match x.queue with
  | [] => .inr x.by_
  | c :: r => .inl (jq fl a s c ⟨x.by_, r⟩ (bZ fl a c).length)
noncomputable def dK (fl : List c6) (a : List Int) (s : Int) : List (Int × bl) := p4 (AJ fl a s) ⟨[], [s]⟩
structure nv (fl : List c6) (a : List Int) (n : Nat) (s : Int) (x : l8) (cur : Option (Int × List bl)) : Prop where
  keys : (x.by_.map Prod.fst).Nodup
  range : ∀ c ∈ x.by_.map Prod.fst, 0 ≤ c ∧ c < n
  out : s ∉ x.by_.map Prod.fst
  q : ∀ c ∈ x.queue, C2 x.by_ s c
  arc : ∃ dep : Int → Nat, dep s = 0 ∧ ∀ c w, bf x.by_ c = some w → Open fl a w ∧ w.fin fl = c ∧ C2 x.by_ s (w.iZ fl) ∧ dep (w.iZ fl) < dep c ∧ dep c ≤ x.by_.length
  done : ∀ c, C2 x.by_ s c → c ∉ x.queue → ∀ w ∈ bZ fl a c, C2 x.by_ s (w.fin fl) ∨ ∃ r, cur = some (c, r) ∧ w ∈ r
  cur : ∀ c r, cur = some (c, r) → C2 x.by_ s c ∧ ∀ w ∈ r, Open fl a w ∧ w.iZ fl = c
theorem UP (hs : 0 ≤ s ∧ s < n) : nv fl a n s ⟨[], [s]⟩ none :=
 ⟨List.nodup_nil, (fun c h => by cases h), (fun h => by cases h), fun c h => .inl (List.mem_singleton.1 h), ⟨fun _ => 0, rfl, fun c w h => by cases h⟩,
  (fun c h hn => by
   rcases h with rfl | h
   ·exact absurd (List.mem_singleton.2 rfl) hn
   cases h), fun c r h => by cases h⟩
theorem nv.look (hN : Net fl n) {x : l8} {r : List bl} (h : nv fl a n s x (some (c, w :: r))) : nv fl a n s (yM fl s x w) (some (c, r)) := by
  obtain ⟨hm, hw⟩ := h.cur c _ rfl
  obtain ⟨ho, hb⟩ := hw w List.mem_cons_self
  cases e : FL fl s x.by_ w with
  | false =>
    rw [Fc e]
    have hmet : C2 x.by_ s (w.fin fl) := by
      unfold FL at e
      rw [Bool.and_eq_false_iff, Bool.not_eq_false', Bool.not_eq_false', decide_eq_true_eq] at e
      rcases e with e | e
      · obtain ⟨v, hv⟩ := Option.isSome_iff_exists.1 e; exact .inr (rI hv)
      · exact .inl e
    refine ⟨h.keys, h.range, h.out, h.q, h.arc, fun c' hc hn u hu => ?_, fun c' r' e' => ?_⟩
    · rcases h.done c' hc hn u hu with h1 | ⟨r', e', hr⟩
      · exact .inl h1
      · injection e' with e'; injection e' with e1 e2; subst e1; subst e2
        rcases List.mem_cons.1 hr with rfl | hr
        · exact .inl hmet
        · exact .inr ⟨r, rfl, hr⟩
    · injection e' with e'; injection e' with e1 e2; subst e1; subst e2
      exact ⟨hm, fun u hu => hw u (List.mem_cons_of_mem _ hu)⟩
  | true =>
    rw [Du e]
    unfold FL at e
    rw [Bool.and_eq_true, Bool.not_eq_true', Bool.not_eq_true', decide_eq_false_iff_not] at e
    have hnone : bf x.by_ (w.fin fl) = none := by cases h : bf x.by_ (w.fin fl) with | none => rfl | some v => rw [h] at e; cases e.1
    have hnk : w.fin fl ∉ x.by_.map Prod.fst := fun hk => by obtain ⟨v, hv⟩ := tD hk; rw [hnone] at hv; cases hv
    have hkeys : ∀ z, z ∈ (cq x.by_ (w.fin fl) w).map Prod.fst ↔ z = w.fin fl ∨ z ∈ x.by_.map Prod.fst := rQ x.by_ (w.fin fl) w
    have hMet : ∀ z, C2 (cq x.by_ (w.fin fl) w) s z ↔ z = w.fin fl ∨ C2 x.by_ s z := fun z => by
      unfold C2; rw [hkeys]
      constructor
      · rintro (h | h | h)
        · exact .inr (.inl h)
        · exact .inl h
        · exact .inr (.inr h)
      · rintro (h | h | h)
        · exact .inr (.inl h)
        · exact .inl h
        · exact .inr (.inr h)
    have hnm : ¬ C2 x.by_ s (w.fin fl) := fun h => h.elim e.2 hnk
    refine ⟨Gm _ _ _ h.keys, fun z hz => ?_, fun hs => ?_, fun z hz => ?_, ?_, fun z hz hn u hu => ?_, fun c' r' e' => ?_⟩
    · rcases (hkeys z).1 hz with rfl | hz
      · exact (hN.way ho.1).2.1
      · exact h.range z hz
    · rcases (hkeys s).1 hs with hs | hs
      · exact e.2 hs.symm
      · exact h.out hs
    · rw [hMet]
      rcases List.mem_append.1 hz with hz | hz
      · exact .inr (h.q z hz)
      · exact .inl (List.mem_singleton.1 hz)
    · obtain ⟨dep, d0, hd⟩ := h.arc
      refine ⟨fun z => if z = w.fin fl then dep c + 1 else dep z, by show (if s = w.fin fl then _ else _) = 0; rw [if_neg (fun h => e.2 h.symm)]; exact d0, fun z u hz => ?_⟩
      rw [nI] at hz
      rw [Di _ _ _ hnone]
      have hcl : dep c ≤ x.by_.length := by
        rcases hm with rfl | hm
        · omega
        · obtain ⟨v, hv⟩ := tD hm; exact (hd c v hv).2.2.2.2
      have hcn : c ≠ w.fin fl := fun h => hnm (by rw [← h]; exact hm)
      by_cases ez : w.fin fl = z
      · rw [if_pos ez] at hz; injection hz with hz; subst hz
        refine ⟨ho, ez, (hMet _).2 (.inr (by rw [hb]; exact hm)), ?_, ?_⟩
        · show (if w.iZ fl = w.fin fl then _ else _) < if z = w.fin fl then _ else _
          rw [hb, if_neg hcn, if_pos ez.symm]; omega
        · show (if z = w.fin fl then _ else _) ≤ _
          rw [if_pos ez.symm]; omega
      · rw [if_neg ez] at hz
        obtain ⟨a1, a2, a3, a4, a5⟩ := hd z u hz
        have hbn : u.iZ fl ≠ w.fin fl := fun h => hnm (by rw [← h]; exact a3)
        refine ⟨a1, a2, (hMet _).2 (.inr a3), ?_, ?_⟩
        · show (if u.iZ fl = w.fin fl then _ else _) < if z = w.fin fl then _ else _
          rw [if_neg hbn, if_neg (fun h => ez h.symm)]; exact a4
        · show (if z = w.fin fl then _ else _) ≤ _
          rw [if_neg (fun h => ez h.symm)]; omega
    · have hzn : z ≠ w.fin fl := fun h => hn (List.mem_append.2 (.inr (by rw [h]; exact List.mem_singleton.2 rfl)))
      have hz' : C2 x.by_ s z := ((hMet z).1 hz).resolve_left hzn
      rcases h.done z hz' (fun h => hn (List.mem_append.2 (.inl h))) u hu with h1 | ⟨r', e', hr⟩
      · exact .inl ((hMet _).2 (.inr h1))
      · injection e' with e'; injection e' with e1 e2; subst e1; subst e2
        rcases List.mem_cons.1 hr with rfl | hr
        · exact .inl ((hMet _).2 (.inl rfl))
        · exact .inr ⟨r, rfl, hr⟩
    · injection e' with e'; injection e' with e1 e2; subst e1; subst e2
      exact ⟨(hMet _).2 (.inr hm), fun u hu => hw u (List.mem_cons_of_mem _ hu)⟩
theorem nv.fold (hN : Net fl n) {x : l8} (h : nv fl a n s x (some (c, bZ fl a c))) : ∀ k, k ≤ (bZ fl a c).length → nv fl a n s (jq fl a s c x k) (some (c, (bZ fl a c).drop k))
  | 0, _ => by rw [List.drop_zero]; exact h
  | k + 1, hk => by
    have ih := nv.fold hN h k (by omega)
    rw [Bv (by omega)]
    refine nv.look hN (w := nth (bZ fl a c) k) ?_
    rw [List.drop_eq_getElem_cons (show k < (bZ fl a c).length by omega)] at ih
    have e : nth (bZ fl a c) k = (bZ fl a c)[k] := by unfold nth; rw [List.getD_eq_getElem?_getD, List.getElem?_eq_getElem (by omega)]; rfl
    rw [e]; exact ih
theorem nv.pop {x : l8} {r : List Int} (h : nv fl a n s x none) (hq : x.queue = c :: r) : nv fl a n s ⟨x.by_, r⟩ (some (c, bZ fl a c)) := by
 have hc := h.q c (by rw [hq]; exact List.mem_cons_self)
 refine ⟨h.keys, h.range, h.out, fun z hz => h.q z (by rw [hq]; exact List.mem_cons_of_mem _ hz), h.arc, fun z hz hn u hu => ?_, fun c' r' e => ?_⟩
 ·by_cases ez : z = c
  ·subst ez; exact .inr ⟨_, rfl, hu⟩
  rcases h.done z hz (fun hm => by rw [hq] at hm; rcases List.mem_cons.1 hm with e | e; exact ez e; exact hn e) u hu with h1 | ⟨_, e, _⟩
  ·exact .inl h1
  cases e
 injection e with e; injection e with e1 e2; subst e1; subst e2
 exact ⟨hc, fun w hw => wD.1 hw⟩
theorem nv.over {x : l8} (h : nv fl a n s x (some (c, []))) : nv fl a n s x none :=
 ⟨h.keys, h.range, h.out, h.q, h.arc, fun z hz hn u hu => (h.done z hz hn u hu).elim .inl (fun ⟨_, e, hr⟩ => by injection e with e; injection e with _ e; subst e; cases hr), fun _ _ e => by cases e⟩
theorem nv.zK {x : l8} {cur : Option (Int × List bl)} (h : nv fl a n s x cur) : x.by_.length ≤ n := by
 have := vX h.keys h.range
 rwa [List.length_map] at this
def Ti (n : Nat) (x : l8) : Nat := (n - x.by_.length) * 2 + x.queue.length
theorem P1 {x : l8} : (yM fl s x w).by_.length ≥ x.by_.length ∧ (yM fl s x w).queue.length + x.by_.length = x.queue.length + (yM fl s x w).by_.length := by
  cases e : FL fl s x.by_ w with
  | false => rw [Fc e]; exact ⟨Nat.le_refl _, rfl⟩
  | true =>
    rw [Du e]
    unfold FL at e
    rw [Bool.and_eq_true, Bool.not_eq_true'] at e
    have hnone : bf x.by_ (w.fin fl) = none := by cases h : bf x.by_ (w.fin fl) with | none => rfl | some v => rw [h] at e; cases e.1
    show (cq _ _ _).length ≥ _ ∧ (x.queue ++ [w.fin fl]).length + _ = _ + (cq _ _ _).length
    rw [Di _ _ _ hnone, List.length_append, List.length_singleton]; omega
theorem AK {x : l8} : ∀ k, k ≤ (bZ fl a c).length → (jq fl a s c x k).by_.length ≥ x.by_.length ∧ (jq fl a s c x k).queue.length + x.by_.length = x.queue.length + (jq fl a s c x k).by_.length
  | 0, _ => ⟨Nat.le_refl _, rfl⟩
  | k + 1, hk => by
    have h1 := AK (x := x) k (by omega)
    rw [Bv (by omega)]
    have h2 := P1 (fl := fl) (s := s) (x := jq fl a s c x k) (w := nth (bZ fl a c) k)
    omega
theorem Ak (hN : Net fl n) {x : l8} {r : List Int} (h : nv fl a n s x none) (hq : x.queue = c :: r) : nv fl a n s (jq fl a s c ⟨x.by_, r⟩ (bZ fl a c).length) none ∧ Ti n (jq fl a s c ⟨x.by_, r⟩ (bZ fl a c).length) < Ti n x := by
 have h1 := (h.pop hq).fold hN _ (Nat.le_refl _)
 rw [List.drop_length] at h1
 refine ⟨h1.over, ?_⟩
 have h2 := AK (fl := fl) (a := a) (s := s) (c := c) (x := ⟨x.by_, r⟩) _ (Nat.le_refl _)
 have h3 := h1.zK
 unfold Ti
 rw [hq, List.length_cons]
 simp only at h2
 omega
structure xI (fl : List c6) (a : List Int) (n : Nat) (s : Int) (q : List (Int × bl)) : Prop where
  keys : (q.map Prod.fst).Nodup
  range : ∀ c ∈ q.map Prod.fst, 0 ≤ c ∧ c < n
  out : s ∉ q.map Prod.fst
  arc : ∃ dep : Int → Nat, dep s = 0 ∧ ∀ c w, bf q c = some w → Open fl a w ∧ w.fin fl = c ∧ C2 q s (w.iZ fl) ∧ dep (w.iZ fl) < dep c ∧ dep c ≤ q.length
  closed : ∀ w, Open fl a w → C2 q s (w.iZ fl) → C2 q s (w.fin fl)
theorem nv.spec {x : l8} (h : nv fl a n s x none) (hq : x.queue = []) : xI fl a n s x.by_ :=
 ⟨h.keys, h.range, h.out, h.arc, fun w ho hm => (h.done _ hm (by rw [hq]; exact List.not_mem_nil) w (wD.2 ⟨ho, rfl⟩)).elim id fun ⟨_, e, _⟩ => by cases e⟩
theorem BG (hN : Net fl n) (hs : 0 ≤ s ∧ s < n) : xI fl a n s (dK fl a s) := by
  refine vl (fun x => nv fl a n s x none) (xI fl a n s) (Ti n) (fun x h => ?_) _ (UP hs)
  cases hq : x.queue with
  | nil => exact .inr ⟨x.by_, by unfold AJ; rw [hq], h.spec hq⟩
  | cons c r => exact .inl ⟨_, by unfold AJ; rw [hq], Ak hN h hq⟩
theorem xI.zK {q : List (Int × bl)} (h : xI fl a n s q) : q.length ≤ n := by
 have := vX h.keys h.range
 rwa [List.length_map] at this
end
end Go.Proofs.YtmmcenjknimhbaaGreat
namespace Go.Proofs.YtmmcenjknimhbaaGreat
open Go Go.T
section
variable {fl : List c6} {a : List Int} {n : Nat} {s t c : Int} {w : bl} {q : List (Int × bl)}
def pP (q : List (Int × bl)) (c : Int) : bl := (bf q c).getD default
def Ks (fl : List c6) (q : List (Int × bl)) (s : Int) (x : Int × List bl) : (Int × List bl) ⊕ List bl :=
  if x.1 = s then .inr x.2 else .inl ((pP q x.1).iZ fl, x.2 ++ [pP q x.1])
noncomputable def iW (fl : List c6) (q : List (Int × bl)) (s t : Int) : List bl := p4 (Ks fl q s) (t, [])
structure PY (fl : List c6) (a : List Int) (s t : Int) (l : List bl) : Prop where
  trail : Trail fl l t s
  ways : ∀ w ∈ l, Open fl a w
  nodup : l.Nodup
structure OF (fl : List c6) (a : List Int) (q : List (Int × bl)) (s t : Int) (dep : Int → Nat) (x : Int × List bl) : Prop where
  trail : Trail fl x.2 t x.1
  ways : ∀ w ∈ x.2, Open fl a w
  deep : ∀ w ∈ x.2, dep x.1 < dep (w.fin fl)
  nodup : x.2.Nodup
  met : C2 q s x.1
  zK : x.2.length + dep x.1 ≤ dep t
theorem xy : ∀ {l : List bl} {x y : Int}, Trail fl l x y → w.fin fl = y → Trail fl (l ++ [w]) x (w.iZ fl)
  | [], x, y, h, e => ⟨e.trans (show x = y from h).symm, rfl⟩
  | _ :: _, _, _, h, e => ⟨h.1, xy h.2 e⟩
theorem OF.next {dep : Int → Nat} (hd : ∀ c w, bf q c = some w → Open fl a w ∧ w.fin fl = c ∧ C2 q s (w.iZ fl) ∧ dep (w.iZ fl) < dep c ∧ dep c ≤ q.length) {x : Int × List bl} (h : OF fl a q s t dep x) (hx : ¬ x.1 = s) :
 OF fl a q s t dep ((pP q x.1).iZ fl, x.2 ++ [pP q x.1]) ∧ dep ((pP q x.1).iZ fl) < dep x.1 := by
 obtain ⟨v, hv⟩ := tD (h.met.resolve_left hx)
 have ev : pP q x.1 = v := by unfold pP; rw [hv]; rfl
 rw [ev]
 obtain ⟨h1, h2, h3, h4, _⟩ := hd _ _ hv
 refine ⟨⟨xy h.trail h2, fun w hw => ?_, fun w hw => ?_, ?_, h3, ?_⟩, h4⟩
 ·rcases List.mem_append.1 hw with hw | hw
  ·exact h.ways w hw
  rw [List.mem_singleton.1 hw]; exact h1
 ·rcases List.mem_append.1 hw with hw | hw
  ·exact Nat.lt_trans h4 (h.deep w hw)
  rw [List.mem_singleton.1 hw, h2]; exact h4
 ·rw [List.nodup_append]
  refine ⟨h.nodup, by simp, fun u hu w hw e => ?_⟩
  rw [List.mem_singleton.1 hw] at e
  have := h.deep u hu
  rw [e, h2] at this; omega
 show (x.2 ++ [v]).length + dep (v.iZ fl) ≤ dep t
 rw [List.length_append, List.length_singleton]
 have := h.zK; omega
theorem Kw (h : xI fl a n s q) (ht : C2 q s t) : PY fl a s t (iW fl q s t) ∧ (iW fl q s t).length ≤ q.length := by
 obtain ⟨dep, d0, hd⟩ := h.arc
 have htq : dep t ≤ q.length := by
  rcases ht with rfl | ht
  ·omega
  obtain ⟨v, hv⟩ := tD ht; exact (hd _ _ hv).2.2.2.2
 refine vl (OF fl a q s t dep) (fun l => PY fl a s t l ∧ l.length ≤ q.length) (fun x => dep x.1) (fun x hI => ?_) _ ⟨rfl, (fun w h => by cases h), (fun w h => by cases h), List.nodup_nil, ht, by simp⟩
 by_cases e : x.1 = s
 ·exact .inr ⟨x.2, if_pos e, ⟨by have := hI.trail; rwa [e] at this, hI.ways, hI.nodup⟩, by have := hI.zK; omega⟩
 obtain ⟨h1, h2⟩ := hI.next hd e
 exact .inl ⟨_, if_neg e, h1, h2⟩
def nx (fl : List c6) (a : List Int) (n : Nat) : List Int := (List.range n).map fun c => cS fl a (c : Nat)
theorem LC : (nx fl a n).length = n := by unfold nx; rw [List.length_map, List.length_range]
theorem MZ {k : Nat} (h : k < n) : nth (nx fl a n) k = cS fl a k := by
 unfold nx nth
 rw [List.getD_eq_getElem?_getD, List.getElem?_map, List.getElem?_range h]; rfl
def iK (fl : List c6) (a : List Int) (m : Int) (l : List bl) : Int := l.foldl (fun m w => min m (w.room fl a)) m
theorem zb (m : Int) (l : List bl) : iK fl a m (l ++ [w]) = min (iK fl a m l) (w.room fl a) := by unfold iK; rw [List.foldl_append]; rfl
theorem Gu (m : Int) : ∀ (l : List bl), iK fl a m l ≤ m ∧ ∀ w ∈ l, iK fl a m l ≤ w.room fl a := by
 refine CW ⟨Int.le_refl _, fun w h => by cases h⟩ fun l u ih => ?_
 rw [zb]
 refine ⟨by have := ih.1; omega, fun w hw => ?_⟩
 rcases List.mem_append.1 hw with hw | hw
 ·have := ih.2 w hw; omega
 rw [List.mem_singleton.1 hw]; omega
theorem C3 {m : Int} (hm : 0 < m) : ∀ (l : List bl), (∀ w ∈ l, Open fl a w) → 0 < iK fl a m l := by
 refine CW (fun _ => hm) fun l u ih h => ?_
 rw [zb]
 have h1 := ih fun w hw => h w (List.mem_append.2 (.inl hw))
 have h2 := (h u (List.mem_append.2 (.inr (List.mem_singleton.2 rfl)))).2
 omega
def mw (fl : List c6) (a : List Int) (n : Nat) : Int := nj (fun x : Int => decide (x > 0)) (nx fl a n)
def qq (fl : List c6) (a : List Int) (q : List (Int × bl)) (c : Nat) : Bool := (bf q (c : Int)).isSome && decide (cS fl a c < 0)
def mA (fl : List c6) (a : List Int) (n : Nat) (q : List (Int × bl)) : Int := nj (qq fl a q) (List.range n)
noncomputable def nQ (fl : List c6) (a : List Int) (s t : Int) : List Int :=
  hO a (iW fl (dK fl a s) s t) (iK fl a (min (cS fl a s) (-cS fl a t)) (iW fl (dK fl a s) s t))
noncomputable def IK (fl : List c6) (n : Nat) (a : List Int) : List Int ⊕ (Int × Bool × List Int) :=
  if mw fl a n < 0 then .inr (0, false, a)
  else if mA fl a n (dK fl a (mw fl a n)) < 0 then .inr (mw fl a n, true, a)
  else .inl (nQ fl a (mw fl a n) (mA fl a n (dK fl a (mw fl a n))))
instance : Inhabited (Int × Bool × List Int) := ⟨(0, false, [])⟩
noncomputable def jc (fl : List c6) (n : Nat) (a : List Int) : Int × Bool × List Int := p4 (IK fl n) a
theorem GA {α : Type} [Inhabited α] {p : α → Bool} {l : List α} (h : ¬ nj p l < 0) : ∃ k : Nat, k < l.length ∧ nj p l = k ∧ p (nth l k) = true := by
  unfold nj at *
  cases e : l.findIdx? p with
  | none => rw [e] at h; exact absurd (by decide) h
  | some i =>
    rw [List.findIdx?_eq_some_iff_getElem] at e
    obtain ⟨h1, h2, _⟩ := e
    refine ⟨i, h1, rfl, ?_⟩
    unfold nth; rw [List.getD_eq_getElem?_getD, List.getElem?_eq_getElem h1]; exact h2
theorem Pw (h : ¬ mw fl a n < 0) : ∃ k : Nat, k < n ∧ mw fl a n = k ∧ 0 < cS fl a k := by
 obtain ⟨k, h1, h2, h3⟩ := GA h
 rw [LC] at h1
 rw [MZ h1] at h3
 exact ⟨k, h1, h2, by simpa using h3⟩
theorem Lw (h : ¬ mA fl a n q < 0) : ∃ k : Nat, k < n ∧ mA fl a n q = k ∧ (bf q (k : Int)).isSome = true ∧ cS fl a k < 0 := by
 obtain ⟨k, h1, h2, h3⟩ := GA h
 rw [List.length_range] at h1
 have e : nth (List.range n) k = k := by unfold nth; rw [List.getD_eq_getElem?_getD, List.getElem?_range h1]; rfl
 rw [e] at h3
 unfold qq at h3
 rw [Bool.and_eq_true, decide_eq_true_eq] at h3
 exact ⟨k, h1, h2, h3.1, h3.2⟩
def SY (fl : List c6) (n : Nat) (a : List Int) : Nat := (cm (fun c => max (cS fl a (c : Nat)) 0) n).toNat
theorem F8 {f : Nat → Int} {n : Nat} (h : ∀ i, i < n → 0 ≤ f i) : 0 ≤ cm f n := by
 have := zM (f := fun _ => 0) (g := f) (n := n) h
 rwa [lN fun _ _ => rfl] at this
theorem Od {f g : Nat → Int} {k : Nat} (hk : k < n) (h : ∀ i, i < n → i ≠ k → f i = g i) : cm f n = cm g n + (f k - g k) := by
 have e : cm (fun i => f i - g i) n = f k - g k := qv (f := fun i => f i - g i) hk fun i hi hn => by rw [h i hi hn]; omega
 rw [pW] at e; omega
structure Ud (fl : List c6) (a : List Int) (n : Nat) (s t : Int) : Prop where
  inb : MV fl (nQ fl a s t)
  less : SY fl n (nQ fl a s t) < SY fl n a
  trail : PY fl a s t (iW fl (dK fl a s) s t)
  zK : (iW fl (dK fl a s) s t).length ≤ n
  pos : 0 < iK fl a (min (cS fl a s) (-cS fl a t)) (iW fl (dK fl a s) s t)
theorem sent (hN : Net fl n) (h : MV fl a) {s t : Nat} (hs : s < n) (ht : t < n) (hps : 0 < cS fl a s) (hq : (bf (dK fl a s) (t : Int)).isSome = true) (hpt : cS fl a t < 0) : Ud fl a n s t := by
 have hR := BG (a := a) hN (show 0 ≤ (s : Int) ∧ (s : Int) < n by omega)
 obtain ⟨v, hv⟩ := Option.isSome_iff_exists.1 hq
 obtain ⟨hP, hlen⟩ := Kw hR (.inr (rI hv))
 have hpos := C3 (fl := fl) (a := a) (m := min (cS fl a s) (-cS fl a t)) (by omega) _ hP.ways
 obtain ⟨hm1, hm2⟩ := Gu (fl := fl) (a := a) (min (cS fl a s) (-cS fl a t)) (iW fl (dK fl a s) s t)
 have hin := BV (Int.le_of_lt hpos) (iW fl (dK fl a s) s t) a h hP.nodup fun w hw => ⟨(hP.ways w hw).1, hm2 w hw⟩
 have hov := w8 (fl := fl) h.1 (iK fl a (min (cS fl a s) (-cS fl a t)) (iW fl (dK fl a s) s t)) _ a _ _ h.1 (fun w hw => (hP.ways w hw).1) hP.trail
 refine ⟨hin, ?_, hP, Nat.le_trans hlen hR.zK, hpos⟩
 unfold SY nQ
 generalize iK fl a (min (cS fl a s) (-cS fl a t)) (iW fl (dK fl a s) s t) = m at *
 generalize hO a (iW fl (dK fl a s) s t) m = b at *
 have hne : s ≠ t := fun e => by subst e; omega
 have e1 : cm (fun c : Nat => max (cS fl b c) 0) n = cm (fun c : Nat => max (cS fl a c) 0) n + (max (cS fl b s) 0 - max (cS fl a s) 0) := by
  refine Od hs fun i hi hn => ?_
  rw [hov i, k7 (p := (s : Int) = i) (by omega)]
  by_cases e : t = i
  ·subst e; rw [lW rfl]; omega
  rw [k7 (by omega)]; omega
 have e2 : cS fl b s = cS fl a s - m := by rw [hov s, k7 (by omega), lW rfl]; omega
 have h0 := F8 (f := fun c : Nat => max (cS fl b c) 0) (n := n) fun i _ => by show 0 ≤ max _ 0; omega
 rw [e1, e2] at h0 ⊢
 omega
structure Jv (fl : List c6) (n : Nat) (r : Int × Bool × List Int) : Prop where
  inb : MV fl r.2.2
  yes : r.2.1 = false → TA fl n r.2.2 ∧ r.1 = 0
  no : r.2.1 = true → (0 ≤ r.1 ∧ r.1 < n) ∧ 0 < cS fl r.2.2 r.1 ∧ ∀ c : Nat, c < n → C2 (dK fl r.2.2 r.1) r.1 c → 0 ≤ cS fl r.2.2 c
open Classical in
theorem Jv.none (hN : Net fl n) {r : Int × Bool × List Int} (h : Jv fl n r) (e : r.2.1 = true) : ¬ ∃ a, EI fl n a := by
 obtain ⟨h1, h2, h3⟩ := h.no e
 have hR := BG (a := r.2.2) hN h1
 obtain ⟨c, hc⟩ : ∃ c : Nat, (c : Int) = r.1 := ⟨r.1.toNat, by omega⟩
 refine OE hN h.inb (fun c => decide (C2 (dK fl r.2.2 r.1) r.1 c)) (fun w ho hm => ?_) (fun c hc hm => h3 c hc (of_decide_eq_true hm)) (c0 := c) (by omega) (decide_eq_true (.inl hc)) (by rw [hc]; exact h2)
 exact decide_eq_true (hR.closed w ho (of_decide_eq_true hm))
theorem Jv.some {r : Int × Bool × List Int} (h : Jv fl n r) (e : r.2.1 = false) : EI fl n r.2.2 := ⟨h.inb, (h.yes e).1⟩
end
end Go.Proofs.YtmmcenjknimhbaaGreat
namespace Go.Proofs.YtmmcenjknimhbaaGreat
open Go Go.T
section
variable {fl : List c6} {a : List Int} {n : Nat} {G : Nat → Int} {w : bl}
def lI (G : Nat → Int) (w : bl) : Int := Hl w (G w.ix)
theorem Qs (hG : ∀ i, -1 ≤ G i ∧ G i ≤ 1) (w : bl) : -1 ≤ lI G w ∧ lI G w ≤ 1 := by
 have := hG w.ix
 unfold lI Hl; cases w.more <;> simp <;> omega
structure zG where
  worth : List Int
  by_ : List bl
  at_ : Int
def oW (fl : List c6) (G : Nat → Int) (st : zG) (c : Nat) (w : bl) : Bool := decide (nth st.worth c + lI G w > nth st.worth (w.fin fl).toNat)
def pK (fl : List c6) (G : Nat → Int) (st : zG) (c : Nat) (w : bl) : zG := ⟨st.worth.set (w.fin fl).toNat (nth st.worth c + lI G w), st.by_.set (w.fin fl).toNat w, w.fin fl⟩
structure QE where
  r : Nat
  c : Nat
  j : Nat
  st : zG
def oT (fl : List c6) (a : List Int) (n : Nat) (G : Nat → Int) (x : QE) : QE ⊕ Option zG :=
  if n ≤ x.r then .inr none
  else if n ≤ x.c then (if x.st.at_ < 0 then .inr none else .inl ⟨x.r + 1, 0, 0, ⟨x.st.worth, x.st.by_, -1⟩⟩)
  else if (bZ fl a x.c).length ≤ x.j then .inl ⟨x.r, x.c + 1, 0, x.st⟩
  else if oW fl G x.st x.c (nth (bZ fl a x.c) x.j) = true then
    (if x.r + 1 = n then .inr (some (pK fl G x.st x.c (nth (bZ fl a x.c) x.j))) else .inl ⟨x.r, x.c, x.j + 1, pK fl G x.st x.c (nth (bZ fl a x.c) x.j)⟩)
  else .inl ⟨x.r, x.c, x.j + 1, x.st⟩
def Ow (n : Nat) : zG := ⟨List.replicate n 0, List.replicate n default, -1⟩
noncomputable def jT (fl : List c6) (a : List Int) (n : Nat) (G : Nat → Int) : Option zG := p4 (oT fl a n G) ⟨0, 0, 0, Ow n⟩
section
variable {x : QE}
theorem AO (h : ¬ n ≤ x.r) (hc : n ≤ x.c) (ha : x.st.at_ < 0) : oT fl a n G x = .inr none := by unfold oT; rw [if_neg h, if_pos hc, if_pos ha]
theorem yV (h : ¬ n ≤ x.r) (hc : n ≤ x.c) (ha : ¬ x.st.at_ < 0) : oT fl a n G x = .inl ⟨x.r + 1, 0, 0, ⟨x.st.worth, x.st.by_, -1⟩⟩ := by unfold oT; rw [if_neg h, if_pos hc, if_neg ha]
theorem BW (h : ¬ n ≤ x.r) (hc : ¬ n ≤ x.c) (hj : (bZ fl a x.c).length ≤ x.j) : oT fl a n G x = .inl ⟨x.r, x.c + 1, 0, x.st⟩ := by unfold oT; rw [if_neg h, if_neg hc, if_pos hj]
theorem HZ (h : ¬ n ≤ x.r) (hc : ¬ n ≤ x.c) (hj : ¬ (bZ fl a x.c).length ≤ x.j) (hg : oW fl G x.st x.c (nth (bZ fl a x.c) x.j) = false) : oT fl a n G x = .inl ⟨x.r, x.c, x.j + 1, x.st⟩ := by
 unfold oT; rw [if_neg h, if_neg hc, if_neg hj, if_neg (by rw [hg]; decide)]
theorem DH (h : ¬ n ≤ x.r) (hc : ¬ n ≤ x.c) (hj : ¬ (bZ fl a x.c).length ≤ x.j) (hg : oW fl G x.st x.c (nth (bZ fl a x.c) x.j) = true) (hr : ¬ x.r + 1 = n) : oT fl a n G x = .inl ⟨x.r, x.c, x.j + 1, pK fl G x.st x.c (nth (bZ fl a x.c) x.j)⟩ := by
 unfold oT; rw [if_neg h, if_neg hc, if_neg hj, if_pos hg, if_neg hr]
theorem Br (h : ¬ n ≤ x.r) (hc : ¬ n ≤ x.c) (hj : ¬ (bZ fl a x.c).length ≤ x.j) (hg : oW fl G x.st x.c (nth (bZ fl a x.c) x.j) = true) (hr : x.r + 1 = n) : oT fl a n G x = .inr (some (pK fl G x.st x.c (nth (bZ fl a x.c) x.j))) := by
 unfold oT; rw [if_neg h, if_neg hc, if_neg hj, if_pos hg, if_pos hr]
end
structure Gh (fl : List c6) (a : List Int) (n : Nat) (G : Nat → Int) (r : Nat) (st : zG) (R T : Nat → Nat) (τ : Nat) : Prop where
  len : st.worth.length = n ∧ st.by_.length = n
  zero : ∀ v, v < n → R v = 0 → nth st.worth v = 0 ∧ T v = 0
  le : ∀ v, v < n → R v ≤ r + 1 ∧ T v ≤ τ ∧ 0 ≤ nth st.worth v ∧ nth st.worth v ≤ τ
  way : ∀ v, v < n → 0 < R v → Open fl a (nth st.by_ v) ∧ (nth st.by_ v).fin fl = v ∧
    nth st.worth v ≤ nth st.worth ((nth st.by_ v).iZ fl).toNat + lI G (nth st.by_ v) ∧
    (T v < T ((nth st.by_ v).iZ fl).toNat → nth st.worth v < nth st.worth ((nth st.by_ v).iZ fl).toNat + lI G (nth st.by_ v)) ∧
    R v ≤ R ((nth st.by_ v).iZ fl).toNat + 1 ∧ 0 < T v
  one : ∀ u v, u < n → v < n → 0 < R u → 0 < R v → T u = T v → u = v
  at_ : (st.at_ = -1 ∧ ∀ v, v < n → R v ≤ r) ∨ ∃ v : Nat, v < n ∧ st.at_ = v ∧ R v = r + 1
def kR (x : QE) (c k : Nat) : Nat := if c < x.c ∨ c = x.c ∧ k < x.j then x.r + 1 else x.r
structure n9 (fl : List c6) (a : List Int) (n : Nat) (G : Nat → Int) (x : QE) : Prop where
  r : x.r < n
  c : x.c ≤ n
  j : x.j ≤ 2 * fl.length ∧ (x.c = n → x.j = 0)
  last : x.r + 1 = n → x.st.at_ = -1
  gh : ∃ R T τ, Gh fl a n G x.r x.st R T τ ∧ τ ≤ x.r * (n * (2 * fl.length)) + (x.c * (2 * fl.length) + x.j) ∧
    ∀ c k, c < n → k < (bZ fl a c).length → kR x c k = 0 ∨ nth x.st.worth c + lI G (nth (bZ fl a c) k) ≤ nth x.st.worth ((nth (bZ fl a c) k).fin fl).toNat ∨ kR x c k ≤ R c
theorem Jp {α : Type} [Inhabited α] (n : Nat) (v : α) (k : Nat) (h : k < n) : nth (List.replicate n v) k = v := by
 unfold nth; rw [List.getD_eq_getElem?_getD, List.getElem?_replicate, if_pos h]; rfl
theorem Ur (hn : 0 < n) : n9 fl a n G ⟨0, 0, 0, Ow n⟩ := by
 refine ⟨hn, Nat.zero_le _, ⟨Nat.zero_le _, fun _ => rfl⟩, fun _ => rfl, fun _ => 0, fun _ => 0, 0, ⟨⟨by simp [Ow], by simp [Ow]⟩, fun v hv _ => ⟨Jp _ _ _ hv, rfl⟩, fun v hv => ?_, fun v _ h => absurd h (Nat.lt_irrefl 0), fun u v _ _ h => absurd h (Nat.lt_irrefl 0), .inl ⟨rfl, fun v _ => Nat.le_refl _⟩⟩, Nat.zero_le _, fun c k _ _ => .inl ?_⟩
 ·have : nth (Ow n).worth v = 0 := Jp _ _ _ hv
  rw [this]; exact ⟨Nat.zero_le _, Nat.le_refl _, Int.le_refl _, Int.le_refl _⟩
 unfold kR; rw [if_neg (by simp)]
theorem Pd {c k : Nat} (h : k < (bZ fl a c).length) : Open fl a (nth (bZ fl a c) k) ∧ (nth (bZ fl a c) k).iZ fl = c := wD.1 (bL h)
variable {x : QE}
theorem n9.cell (h : n9 fl a n G x) (hc : ¬ n ≤ x.c) (hj : (bZ fl a x.c).length ≤ x.j) : n9 fl a n G ⟨x.r, x.c + 1, 0, x.st⟩ := by
 obtain ⟨R, T, τ, h1, h2, h3⟩ := h.gh
 refine ⟨h.r, by show x.c + 1 ≤ n; omega, ⟨Nat.zero_le _, fun _ => rfl⟩, h.last, R, T, τ, h1, ?_, fun c k hc' hk => ?_⟩
 ·have e1 : (x.c + 1) * (2 * fl.length) = x.c * (2 * fl.length) + 2 * fl.length := Nat.succ_mul _ _
  have := h.j.1
  show τ ≤ x.r * (n * (2 * fl.length)) + ((x.c + 1) * (2 * fl.length) + 0)
  generalize x.r * (n * (2 * fl.length)) = A at *
  generalize (x.c + 1) * (2 * fl.length) = B at *
  generalize x.c * (2 * fl.length) = C at *
  omega
 have e : kR ⟨x.r, x.c + 1, 0, x.st⟩ c k = kR x c k := by
  unfold kR
  by_cases e : c < x.c ∨ c = x.c ∧ k < x.j
  ·rw [if_pos e, if_pos (by show c < x.c + 1 ∨ _; omega)]
  rw [if_neg e]
  by_cases e2 : c = x.c
  ·subst e2; omega
  rw [if_neg (by show ¬ (c < x.c + 1 ∨ c = x.c + 1 ∧ k < 0); omega)]
 rw [e]; exact h3 c k hc' hk
theorem n9.round (h : n9 fl a n G x) (hc : n ≤ x.c) (hr : ¬ x.r + 1 = n) : n9 fl a n G ⟨x.r + 1, 0, 0, ⟨x.st.worth, x.st.by_, -1⟩⟩ := by
 obtain ⟨R, T, τ, h1, h2, h3⟩ := h.gh
 have ec : x.c = n := Nat.le_antisymm h.c hc
 refine ⟨by show x.r + 1 < n; have := h.r; omega, Nat.zero_le _, ⟨Nat.zero_le _, fun _ => rfl⟩, fun _ => rfl, R, T, τ, ⟨h1.len, h1.zero, fun v hv => ?_, h1.way, h1.one, .inl ⟨rfl, fun v hv => (h1.le v hv).1⟩⟩, ?_, fun c k hc' hk => ?_⟩
 ·have := h1.le v hv
  exact ⟨by show R v ≤ x.r + 1 + 1; omega, this.2⟩
 ·have e1 : (x.r + 1) * (n * (2 * fl.length)) = x.r * (n * (2 * fl.length)) + n * (2 * fl.length) := Nat.succ_mul _ _
  show τ ≤ (x.r + 1) * (n * (2 * fl.length)) + (0 * (2 * fl.length) + 0)
  rw [ec, h.j.2 ec] at h2
  generalize (x.r + 1) * (n * (2 * fl.length)) = A at *
  omega
 have e : kR ⟨x.r + 1, 0, 0, ⟨x.st.worth, x.st.by_, -1⟩⟩ c k = kR x c k := by
  unfold kR
  rw [if_neg (show ¬ (c < 0 ∨ c = 0 ∧ k < 0) by omega), if_pos (show c < x.c ∨ c = x.c ∧ k < x.j by omega)]
 rw [e]; exact h3 c k hc' hk
theorem Bf {st : zG} {c k : Nat} : kR ⟨x.r, x.c, x.j + 1, st⟩ c k = if c = x.c ∧ k = x.j then x.r + 1 else kR x c k := by
 unfold kR
 by_cases e : c = x.c ∧ k = x.j
 ·rw [if_pos e, if_pos (by show c < x.c ∨ c = x.c ∧ k < x.j + 1; omega)]
 rw [if_neg e]
 by_cases e2 : c < x.c ∨ c = x.c ∧ k < x.j
 ·rw [if_pos e2, if_pos (by show c < x.c ∨ c = x.c ∧ k < x.j + 1; omega)]
 rw [if_neg e2, if_neg (by show ¬ (c < x.c ∨ c = x.c ∧ k < x.j + 1); omega)]
theorem n9.no (h : n9 fl a n G x) (hc : ¬ n ≤ x.c) (hj : ¬ (bZ fl a x.c).length ≤ x.j) (hg : oW fl G x.st x.c (nth (bZ fl a x.c) x.j) = false) : n9 fl a n G ⟨x.r, x.c, x.j + 1, x.st⟩ := by
 obtain ⟨R, T, τ, h1, h2, h3⟩ := h.gh
 have hl := A6 (fl := fl) (a := a) (c := x.c)
 refine ⟨h.r, h.c, ⟨by show x.j + 1 ≤ _; omega, fun e => absurd (show x.c = n from e) (by omega)⟩, h.last, R, T, τ, h1, Nat.le_trans h2 (show x.r * (n * (2 * fl.length)) + (x.c * (2 * fl.length) + x.j) ≤ x.r * (n * (2 * fl.length)) + (x.c * (2 * fl.length) + (x.j + 1)) by omega), fun c k hc' hk => ?_⟩
 rw [Bf]
 by_cases e : c = x.c ∧ k = x.j
 ·rw [if_pos e]
  obtain ⟨e1, e2⟩ := e; subst e1; subst e2
  unfold oW at hg
  rw [decide_eq_false_iff_not] at hg
  exact .inr (.inl (show nth x.st.worth x.c + _ ≤ nth x.st.worth _ by omega))
 rw [if_neg e]; exact h3 c k hc' hk
theorem J8 (hN : Net fl n) (hG : ∀ i, -1 ≤ G i ∧ G i ≤ 1) (h : n9 fl a n G x) (hc : ¬ n ≤ x.c) (hj : ¬ (bZ fl a x.c).length ≤ x.j) (hg : oW fl G x.st x.c (nth (bZ fl a x.c) x.j) = true) :
 ∃ R T τ, Gh fl a n G x.r (pK fl G x.st x.c (nth (bZ fl a x.c) x.j)) R T τ ∧ τ ≤ x.r * (n * (2 * fl.length)) + (x.c * (2 * fl.length) + (x.j + 1)) ∧ R ((nth (bZ fl a x.c) x.j).fin fl).toNat = x.r + 1 ∧
 ∀ c k, c < n → k < (bZ fl a c).length → kR ⟨x.r, x.c, x.j + 1, pK fl G x.st x.c (nth (bZ fl a x.c) x.j)⟩ c k = 0 ∨ nth (pK fl G x.st x.c (nth (bZ fl a x.c) x.j)).worth c + lI G (nth (bZ fl a c) k) ≤ nth (pK fl G x.st x.c (nth (bZ fl a x.c) x.j)).worth ((nth (bZ fl a c) k).fin fl).toNat ∨ kR ⟨x.r, x.c, x.j + 1, pK fl G x.st x.c (nth (bZ fl a x.c) x.j)⟩ c k ≤ R c := by
 obtain ⟨R, T, τ, h1, h2, h3⟩ := h.gh
 obtain ⟨ho, hb⟩ := Pd (fl := fl) (a := a) (c := x.c) (k := x.j) (by omega)
 have h3c := h3 x.c x.j (by omega) (by omega)
 generalize hw : nth (bZ fl a x.c) x.j = w at *
 obtain ⟨_, ⟨hf0, hfn⟩, hne⟩ := hN.way ho.1
 obtain ⟨t, ht⟩ : ∃ t : Nat, (t : Int) = w.fin fl := ⟨(w.fin fl).toNat, by omega⟩
 have htt : (w.fin fl).toNat = t := by omega
 have htn : t < n := by omega
 have hxt : x.c ≠ t := fun e => hne (by rw [hb, ← ht, e])
 unfold oW at hg
 rw [decide_eq_true_eq, htt] at hg
 have hRc : x.r ≤ R x.c := by
  have e : kR x x.c x.j = x.r := by unfold kR; rw [if_neg (by omega)]
  rw [e, htt] at h3c
  rcases h3c with h | h | h
  ·omega
  ·omega
  exact h
 obtain ⟨hl1, hl2⟩ := h1.len
 have nw : ∀ v, v < n → nth (pK fl G x.st x.c w).worth v = if t = v then nth x.st.worth x.c + lI G w else nth x.st.worth v := fun v hv => by
  show nth (x.st.worth.set _ _) v = _; rw [htt, nD (by omega)]
 have nb : ∀ v, v < n → nth (pK fl G x.st x.c w).by_ v = if t = v then w else nth x.st.by_ v := fun v hv => by
  show nth (x.st.by_.set _ _) v = _; rw [htt, nD (by omega)]
 have up : ∀ v, v < n → nth x.st.worth v ≤ nth (pK fl G x.st x.c w).worth v := fun v hv => by
  rw [nw v hv]; split
  ·rename_i e; subst e; omega
  exact Int.le_refl _
 have begn : ∀ v, v < n → 0 < R v → ((nth x.st.by_ v).iZ fl).toNat < n := fun v hv hR => by
  have := (hN.way (h1.way v hv hR).1.1).1; omega
 refine ⟨fun v => if v = t then x.r + 1 else R v, fun v => if v = t then τ + 1 else T v, τ + 1, ⟨⟨by show (x.st.worth.set _ _).length = n; rw [List.length_set]; exact hl1, by show (x.st.by_.set _ _).length = n; rw [List.length_set]; exact hl2⟩, fun v hv hR => ?_, fun v hv => ?_, fun v hv hR => ?_, fun u v hu hv hRu hRv e => ?_, .inr ⟨t, htn, ht.symm, if_pos rfl⟩⟩, by omega, by show (if (w.fin fl).toNat = t then _ else _) = _; rw [if_pos htt], fun c k hc' hk => ?_⟩
 ·have hvt : v ≠ t := fun e => by
   have hR : (if v = t then x.r + 1 else R v) = 0 := hR
   rw [if_pos e] at hR; omega
  have hR : (if v = t then x.r + 1 else R v) = 0 := hR
  rw [if_neg hvt] at hR
  show _ ∧ (if v = t then τ + 1 else T v) = 0
  rw [if_neg hvt, nw v hv, if_neg (fun e => hvt e.symm)]
  exact h1.zero v hv hR
 ·have hl := h1.le v hv
  have hlc := h1.le x.c (by omega)
  have hlt := h1.le t htn
  have hw1 := Qs hG w
  show (if v = t then x.r + 1 else R v) ≤ x.r + 1 ∧ (if v = t then τ + 1 else T v) ≤ τ + 1 ∧ _
  rw [nw v hv]
  by_cases e : v = t
  ·subst e
   rw [if_pos rfl, if_pos rfl, if_pos rfl]
   refine ⟨Nat.le_refl _, Nat.le_refl _, ?_, ?_⟩ <;> omega
  rw [if_neg e, if_neg e, if_neg (fun h => e h.symm)]
  refine ⟨hl.1, ?_, hl.2.2.1, ?_⟩ <;> omega
 ·show _ ∧ _ ∧ _ ∧ ((if v = t then τ + 1 else T v) < (if _ = t then τ + 1 else T _) → _) ∧ (if v = t then x.r + 1 else R v) ≤ (if _ = t then x.r + 1 else R _) + 1 ∧ 0 < (if v = t then τ + 1 else T v)
  have hR : 0 < (if v = t then x.r + 1 else R v) := hR
  rw [nb v hv, nw v hv]
  by_cases e : v = t
  ·subst e
   rw [if_pos rfl, if_pos rfl, if_pos rfl, if_pos rfl]
   have e1 : (w.iZ fl).toNat = x.c := by rw [hb]; omega
   rw [e1, nw x.c (by omega), if_neg (fun h => hxt h.symm), if_neg hxt, if_neg hxt]
   refine ⟨ho, ht.symm, Int.le_refl _, fun h => ?_, by omega, by omega⟩
   have := (h1.le x.c (by omega)).2.1; omega
  rw [if_neg e, if_neg (fun h => e h.symm), if_neg (fun h => e h.symm), if_neg e]
  rw [if_neg e] at hR
  obtain ⟨b1, b2, b3, b4, b5, b6⟩ := h1.way v hv hR
  have hbn := begn v hv hR
  have hu := up _ hbn
  refine ⟨b1, b2, by omega, fun h => ?_, ?_, b6⟩
  ·by_cases e2 : ((nth x.st.by_ v).iZ fl).toNat = t
   ·rw [e2] at hu b3 ⊢
    have : nth x.st.worth t < nth (pK fl G x.st x.c w).worth t := by rw [nw t htn, if_pos rfl]; omega
    omega
   rw [if_neg e2] at h
   have := b4 h; omega
  by_cases e2 : ((nth x.st.by_ v).iZ fl).toNat = t
  ·rw [if_pos e2]; have := (h1.le v hv).1; omega
  rw [if_neg e2]; exact b5
 ·have e : (if u = t then τ + 1 else T u) = (if v = t then τ + 1 else T v) := e
  have hRu : 0 < (if u = t then x.r + 1 else R u) := hRu
  have hRv : 0 < (if v = t then x.r + 1 else R v) := hRv
  have a1 := (h1.le u hu).2.1
  have a2 := (h1.le v hv).2.1
  by_cases e1 : u = t
  ·by_cases e2 : v = t
   ·rw [e1, e2]
   rw [if_pos e1, if_neg e2] at e; omega
  by_cases e2 : v = t
  ·rw [if_neg e1, if_pos e2] at e; omega
  rw [if_neg e1, if_neg e2] at e
  rw [if_neg e1] at hRu; rw [if_neg e2] at hRv
  exact h1.one u v hu hv hRu hRv e
 rw [Bf]
 show _ ∨ _ ∨ _ ≤ (if c = t then x.r + 1 else R c)
 have hd : kR x c k ≤ x.r + 1 := by unfold kR; split <;> omega
 by_cases ect : c = t
 ·rw [if_pos ect]
  refine .inr (.inr ?_)
  split <;> omega
 rw [if_neg ect]
 have hu := up ((nth (bZ fl a c) k).fin fl).toNat (by have := (hN.way (Pd hk).1.1).2.1; omega)
 have nwc : nth (pK fl G x.st x.c w).worth c = nth x.st.worth c := by rw [nw c hc', if_neg (fun h => ect h.symm)]
 rw [nwc]
 by_cases e : c = x.c ∧ k = x.j
 ·rw [if_pos e]
  obtain ⟨e1, e2⟩ := e; subst e1; subst e2
  rw [hw, htt, nw t htn, if_pos rfl]
  exact .inr (.inl (Int.le_refl _))
 rw [if_neg e]
 rcases h3 c k hc' hk with h | h | h
 ·exact .inl h
 ·exact .inr (.inl (by omega))
 exact .inr (.inr h)
theorem n9.yes (hN : Net fl n) (hG : ∀ i, -1 ≤ G i ∧ G i ≤ 1) (h : n9 fl a n G x) (hc : ¬ n ≤ x.c) (hj : ¬ (bZ fl a x.c).length ≤ x.j) (hg : oW fl G x.st x.c (nth (bZ fl a x.c) x.j) = true) (hr : ¬ x.r + 1 = n) :
 n9 fl a n G ⟨x.r, x.c, x.j + 1, pK fl G x.st x.c (nth (bZ fl a x.c) x.j)⟩ := by
 obtain ⟨R, T, τ, h1, h2, _, h4⟩ := J8 hN hG h hc hj hg
 have hl := A6 (fl := fl) (a := a) (c := x.c)
 exact ⟨h.r, h.c, ⟨by show x.j + 1 ≤ _; omega, fun e => absurd (show x.c = n from e) (by omega)⟩, fun e => absurd e hr, R, T, τ, h1, h2, h4⟩
inductive Ku (fl : List c6) (a : List Int) (n : Nat) (G : Nat → Int) : Option zG → Prop where
  | none (p : Int → Int) (h : ∀ w, Open fl a w → p (w.iZ fl) + lI G w ≤ p (w.fin fl)) : Ku fl a n G none
  | some (st : zG) (R T : Nat → Nat) (τ : Nat) (v : Nat) (h : Gh fl a n G (n - 1) st R T τ) (hv : v < n) (e : st.at_ = v) (hR : R v = n) : Ku fl a n G (some st)
theorem n9.none (hN : Net fl n) (h : n9 fl a n G x) (hc : n ≤ x.c) (ha : x.st.at_ < 0) : Ku fl a n G none := by
 obtain ⟨R, T, τ, h1, h2, h3⟩ := h.gh
 have hR : ∀ v, v < n → R v ≤ x.r := by
  rcases h1.at_ with ⟨_, h⟩ | ⟨v, _, e, _⟩
  ·exact h
  omega
 refine .none (fun c => nth x.st.worth c.toNat) fun w ho => ?_
 obtain ⟨⟨b0, bn⟩, _, _⟩ := hN.way ho.1
 obtain ⟨c, hc'⟩ : ∃ c : Nat, (c : Int) = w.iZ fl := ⟨(w.iZ fl).toNat, by omega⟩
 have hm : w ∈ bZ fl a c := wD.2 ⟨ho, hc'.symm⟩
 obtain ⟨k, hk, e⟩ := Bm hm
 subst e
 have h4 := h3 c k (by omega) hk
 have e : kR x c k = x.r + 1 := if_pos (.inl (by omega))
 rw [e] at h4
 have := hR c (by omega)
 show nth x.st.worth (bl.iZ _ fl).toNat + _ ≤ nth x.st.worth _
 rw [← hc', Int.toNat_natCast]
 rcases h4 with h | h | h <;> omega
theorem n9.found (hN : Net fl n) (hG : ∀ i, -1 ≤ G i ∧ G i ≤ 1) (h : n9 fl a n G x) (hc : ¬ n ≤ x.c) (hj : ¬ (bZ fl a x.c).length ≤ x.j) (hg : oW fl G x.st x.c (nth (bZ fl a x.c) x.j) = true) (hr : x.r + 1 = n) :
 Ku fl a n G (some (pK fl G x.st x.c (nth (bZ fl a x.c) x.j))) := by
 obtain ⟨R, T, τ, h1, _, h3, _⟩ := J8 hN hG h hc hj hg
 have hb := (hN.way (Pd (fl := fl) (a := a) (c := x.c) (k := x.j) (by omega)).1.1).2.1
 refine .some _ R T τ ((nth (bZ fl a x.c) x.j).fin fl).toNat (by rw [show n - 1 = x.r by omega]; exact h1) (by omega) ?_ (h3.trans hr)
 show bl.fin _ fl = _; omega
def P6 (fl : List c6) (n : Nat) (x : QE) : Nat := (n - x.r) * ((n + 1) * (2 * fl.length + 2)) + ((n - x.c) * (2 * fl.length + 2) + (2 * fl.length + 1 - x.j))
theorem Rn (hj : x.j < 2 * fl.length) (st : zG) : P6 fl n ⟨x.r, x.c, x.j + 1, st⟩ < P6 fl n x := by
 unfold P6
 show (n - x.r) * ((n + 1) * (2 * fl.length + 2)) + ((n - x.c) * (2 * fl.length + 2) + (2 * fl.length + 1 - (x.j + 1))) < _
 omega
theorem Tm (hc : x.c < n) (hj : x.j ≤ 2 * fl.length) (st : zG) : P6 fl n ⟨x.r, x.c + 1, 0, st⟩ < P6 fl n x := by
 unfold P6
 show (n - x.r) * ((n + 1) * (2 * fl.length + 2)) + ((n - (x.c + 1)) * (2 * fl.length + 2) + (2 * fl.length + 1 - 0)) < _
 have e : (n - x.c) * (2 * fl.length + 2) = (n - (x.c + 1)) * (2 * fl.length + 2) + (2 * fl.length + 2) := by
  rw [show n - x.c = (n - (x.c + 1)) + 1 by omega, Nat.succ_mul]
 rw [e]
 generalize (n - (x.c + 1)) * (2 * fl.length + 2) = A
 omega
theorem UI (hr : x.r < n) (st : zG) : P6 fl n ⟨x.r + 1, 0, 0, st⟩ < P6 fl n x := by
 unfold P6
 show (n - (x.r + 1)) * ((n + 1) * (2 * fl.length + 2)) + ((n - 0) * (2 * fl.length + 2) + (2 * fl.length + 1 - 0)) < _
 have e : (n - x.r) * ((n + 1) * (2 * fl.length + 2)) = (n - (x.r + 1)) * ((n + 1) * (2 * fl.length + 2)) + (n + 1) * (2 * fl.length + 2) := by
  rw [show n - x.r = (n - (x.r + 1)) + 1 by omega, Nat.succ_mul]
 have e2 : (n + 1) * (2 * fl.length + 2) = n * (2 * fl.length + 2) + (2 * fl.length + 2) := Nat.succ_mul _ _
 rw [e, e2, Nat.sub_zero]
 generalize (n - (x.r + 1)) * (n * (2 * fl.length + 2) + (2 * fl.length + 2)) = A
 generalize n * (2 * fl.length + 2) = B
 omega
theorem IE (hN : Net fl n) (hn : 0 < n) (hG : ∀ i, -1 ≤ G i ∧ G i ≤ 1) : Ku fl a n G (jT fl a n G) := by
  refine vl (n9 fl a n G) (Ku fl a n G) (P6 fl n) (fun x h => ?_) _ (Ur hn)
  have hr : ¬ n ≤ x.r := by have := h.r; omega
  by_cases hc : n ≤ x.c
  · by_cases ha : x.st.at_ < 0
    · exact .inr ⟨_, AO hr hc ha, h.none hN hc ha⟩
    · exact .inl ⟨_, yV hr hc ha, h.round hc (fun e => ha (by rw [h.last e]; decide)), UI h.r _⟩
  · by_cases hj : (bZ fl a x.c).length ≤ x.j
    · exact .inl ⟨_, BW hr hc hj, h.cell hc hj, Tm (by omega) h.j.1 _⟩
    · have hl := A6 (fl := fl) (a := a) (c := x.c)
      cases hg : oW fl G x.st x.c (nth (bZ fl a x.c) x.j) with
      | false => exact .inl ⟨_, HZ hr hc hj hg, h.no hc hj hg, Rn (by omega) _⟩
      | true =>
        by_cases hl : x.r + 1 = n
        · exact .inr ⟨_, Br hr hc hj hg hl, h.found hN hG hc hj hg hl⟩
        · exact .inl ⟨_, DH hr hc hj hg hl, h.yes hN hG hc hj hg hl, Rn (by omega) _⟩
end
end Go.Proofs.YtmmcenjknimhbaaGreat
namespace Go.Proofs.YtmmcenjknimhbaaGreat
open Go Go.T
theorem Ig {p : Nat → Prop} (h : ∃ n, p n) : ∃ n, p n ∧ ∀ m, m < n → ¬ p m := by
  obtain ⟨n, hn⟩ := h
  induction n using Nat.strongRecOn with
  | _ n ih =>
    by_cases e : ∃ m, m < n ∧ p m
    · obtain ⟨m, hm, hp⟩ := e; exact ih m hm hp
    · exact ⟨n, hn, fun m hm hp => e ⟨m, hm, hp⟩⟩
def gZ (f : Nat → Nat) : Nat → Nat → Nat
  | 0, x => x
  | k + 1, x => f (gZ f k x)
theorem mh (f : Nat → Nat) (k x : Nat) : ∀ j, gZ f (j + k) x = gZ f j (gZ f k x)
  | 0 => by rw [Nat.zero_add]; rfl
  | j + 1 => by rw [Nat.succ_add]; show f (gZ f (j + k) x) = f _; rw [mh f k x j]
theorem DC (f : Nat → Int) : ∀ n, ((List.range n).map f).sum = cm f n
  | 0 => rfl
  | n + 1 => by rw [List.range_succ, List.map_append, List.sum_append, DC f n]; simp [cm]
theorem DR (f : Nat → Int) : ∀ n, cm (fun t => f t - f (t + 1)) n = f 0 - f n
  | 0 => by simp [cm]
  | n + 1 => by unfold cm; rw [DR f n]; omega
section
variable {fl : List c6} {a : List Int} {n : Nat} {G : Nat → Int} {st : zG} {R T : Nat → Nat} {τ v s : Nat}
def cG (fl : List c6) (st : zG) (c : Nat) : Nat := ((nth st.by_ c).iZ fl).toNat
structure Tu (fl : List c6) (a : List Int) (n : Nat) (G : Nat → Int) (st : zG) (T : Nat → Nat) (s : Nat) : Prop where
  back : ∃ p, 1 ≤ p ∧ p ≤ n ∧ gZ (cG fl st) p s = s
  at_ : ∀ t, gZ (cG fl st) t s < n
  way : ∀ t, Open fl a (nth st.by_ (gZ (cG fl st) t s)) ∧ (nth st.by_ (gZ (cG fl st) t s)).fin fl = gZ (cG fl st) t s ∧
    nth st.worth (gZ (cG fl st) t s) ≤ nth st.worth (gZ (cG fl st) (t + 1) s) + lI G (nth st.by_ (gZ (cG fl st) t s)) ∧
    (T (gZ (cG fl st) t s) < T (gZ (cG fl st) (t + 1) s) → nth st.worth (gZ (cG fl st) t s) < nth st.worth (gZ (cG fl st) (t + 1) s) + lI G (nth st.by_ (gZ (cG fl st) t s)))
  one : ∀ t u, T (gZ (cG fl st) t s) = T (gZ (cG fl st) u s) → gZ (cG fl st) t s = gZ (cG fl st) u s
theorem FD (hN : Net fl n) (h : Gh fl a n G (n - 1) st R T τ) (hv : v < n) (hR : R v = n) : ∀ k, k ≤ n → gZ (cG fl st) k v < n ∧ n ≤ R (gZ (cG fl st) k v) + k
  | 0, _ => ⟨hv, by show n ≤ R v + 0; omega⟩
  | k + 1, hk => by
    obtain ⟨h1, h2⟩ := FD hN h hv hR k (by omega)
    obtain ⟨b1, _, _, _, b5, _⟩ := h.way _ h1 (by omega)
    have hb := (hN.way b1.1).1
    show cG fl st (gZ (cG fl st) k v) < n ∧ n ≤ R (cG fl st (gZ (cG fl st) k v)) + (k + 1)
    unfold cG at *
    exact ⟨by omega, by omega⟩
theorem SZ (hN : Net fl n) (h : Gh fl a n G (n - 1) st R T τ) (hv : v < n) (hR : R v = n) : Tu fl a n G st T (gZ (cG fl st) n v) := by
  have hch := FD hN h hv hR
  generalize hf : cG fl st = f at *
  obtain ⟨i, j, hij, hjn, e⟩ : ∃ i j, i < j ∧ j ≤ n ∧ gZ f i v = gZ f j v := by
    refine Classical.byContradiction fun hno => ?_
    have hnd : ((List.range (n + 1)).map fun k => gZ f k v).Nodup := by
      rw [List.nodup_iff_pairwise_ne, List.pairwise_map]
      refine List.pairwise_lt_range.imp_of_mem fun {x y} hx hy hlt e => hno ⟨x, y, hlt, ?_, e⟩
      have := List.mem_range.1 hy; omega
    have := mj (n := n) hnd fun y hy => by
      obtain ⟨k, hk, rfl⟩ := List.mem_map.1 hy
      have := List.mem_range.1 hk
      exact (hch k (by omega)).1
    rw [List.length_map, List.length_range] at this; omega
  have good : ∀ m, i ≤ m → ∃ m', m' < n ∧ gZ f m v = gZ f m' v := by
    intro m
    induction m using Nat.strongRecOn with
    | _ m ih =>
      intro hm
      by_cases c : m < j
      · exact ⟨m, by omega, rfl⟩
      · obtain ⟨m', h1, h2⟩ := ih (m - j + i) (by omega) (by omega)
        refine ⟨m', h1, ?_⟩
        rw [← h2, mh, e, ← mh]; congr 1; omega
  have all : ∀ t, gZ f t (gZ f n v) < n ∧ 0 < R (gZ f t (gZ f n v)) := fun t => by
    rw [← mh]
    obtain ⟨m', h1, h2⟩ := good (t + n) (by omega)
    rw [h2]
    have := hch m' (by omega)
    exact ⟨this.1, by omega⟩
  refine ⟨⟨j - i, by omega, by omega, ?_⟩, fun t => by rw [hf]; exact (all t).1, fun t => ?_, fun t u e => ?_⟩
  · rw [hf, ← mh, show j - i + n = (n - i) + j by omega, mh, ← e, ← mh]; congr 1; omega
  · rw [hf]
    obtain ⟨b1, b2, b3, b4, _, _⟩ := h.way _ (all t).1 (all t).2
    have e1 : gZ f (t + 1) (gZ f n v) = ((nth st.by_ (gZ f t (gZ f n v))).iZ fl).toNat := by
      show f (gZ f t (gZ f n v)) = _; rw [← hf]; rfl
    rw [e1]
    exact ⟨b1, b2, b3, b4⟩
  · rw [hf] at *
    exact h.one _ _ (all t).1 (all u).1 (all t).2 (all u).2 e
def Gp (fl : List c6) (st : zG) (s : Nat) (x : Nat × List bl) : (Nat × List bl) ⊕ List bl :=
  if ¬ x.2 = [] ∧ x.1 = s then .inr x.2 else .inl (cG fl st x.1, x.2 ++ [nth st.by_ x.1])
noncomputable def tL (fl : List c6) (st : zG) (s : Nat) : List bl := p4 (Gp fl st s) (s, [])
structure Kj (fl : List c6) (a : List Int) (n : Nat) (G : Nat → Int) (l : List bl) : Prop where
  ne : l ≠ []
  trail : ∃ s, Trail fl l s s
  ways : ∀ w ∈ l, Open fl a w
  nodup : l.Nodup
  adds : 0 < AL G l
  zK : l.length ≤ n
theorem N7 (hN : Net fl n) (h : Tu fl a n G st T s) : Kj fl a n G (tL fl st s) := by
  obtain ⟨p, ⟨hp1, hp2, hp3⟩, hmin⟩ := Ig h.back
  have hfin : ∀ t, (nth st.by_ (gZ (cG fl st) t s)).fin fl = gZ (cG fl st) t s := fun t => (h.way t).2.1
  have hbeg : ∀ t, (nth st.by_ (gZ (cG fl st) t s)).iZ fl = gZ (cG fl st) (t + 1) s := fun t => by
    have := (hN.way (h.way t).1.1).1
    show _ = ((((nth st.by_ (gZ (cG fl st) t s)).iZ fl).toNat : Nat) : Int)
    omega
  have hone : ∀ t u, t < u → u < p → gZ (cG fl st) t s ≠ gZ (cG fl st) u s := fun t u htu hup e => by
    refine hmin (p - u + t) (by omega) ⟨by omega, by omega, ?_⟩
    rw [mh, e, ← mh, show p - u + u = p by omega, hp3]
  have hlist : tL fl st s = (List.range p).map fun t => nth st.by_ (gZ (cG fl st) t s) := by
    refine vl (fun x => ∃ i, i ≤ p ∧ x = (gZ (cG fl st) i s, (List.range i).map fun t => nth st.by_ (gZ (cG fl st) t s))) (fun l => l = (List.range p).map fun t => nth st.by_ (gZ (cG fl st) t s)) (fun x => p + 1 - x.2.length) (fun x hx => ?_) _ ⟨0, Nat.zero_le _, rfl⟩
    obtain ⟨i, hi, rfl⟩ := hx
    unfold Gp
    by_cases e : i = p
    · subst e
      refine .inr ⟨_, if_pos ⟨fun e => ?_, hp3⟩, rfl⟩
      have := congrArg List.length e
      simp at this; omega
    · refine .inl ⟨_, if_neg fun ⟨e1, e2⟩ => ?_, ⟨i + 1, by omega, ?_⟩, ?_⟩
      · by_cases c : i = 0
        · subst c; exact e1 rfl
        · exact hmin i (by omega) ⟨by omega, by omega, e2⟩
      · rw [List.range_succ, List.map_append]; rfl
      · simp; omega
  have htr : ∀ k, Trail fl ((List.range k).map fun t => nth st.by_ (gZ (cG fl st) t s)) s (gZ (cG fl st) k s) := by
    intro k
    induction k with
    | zero => exact rfl
    | succ k ih =>
      rw [List.range_succ, List.map_append, List.map_singleton, ← hbeg k]
      exact xy ih (hfin k)
  rw [hlist]
  refine ⟨fun e => ?_, ⟨s, ?_⟩, fun w hw => ?_, ?_, ?_, by rw [List.length_map, List.length_range]; exact hp2⟩
  · have := congrArg List.length e
    simp at this; omega
  · have := htr p
    rwa [hp3] at this
  · obtain ⟨t, _, rfl⟩ := List.mem_map.1 hw
    exact (h.way t).1
  · rw [List.nodup_iff_pairwise_ne, List.pairwise_map]
    refine List.pairwise_lt_range.imp_of_mem fun {x y} hx hy hlt e => hone x y hlt (List.mem_range.1 hy) ?_
    have := congrArg (fun w => bl.fin w fl) e
    rw [hfin, hfin] at this; omega
  · unfold AL
    rw [List.map_map, DC]
    have h0 : cm (fun t => nth st.worth (gZ (cG fl st) t s) - nth st.worth (gZ (cG fl st) (t + 1) s)) p = 0 := by
      rw [DR (fun t => nth st.worth (gZ (cG fl st) t s)), hp3]; show nth st.worth s - _ = 0; omega
    rw [← h0]
    obtain ⟨k, hk, hlt⟩ : ∃ k, k < p ∧ T (gZ (cG fl st) k s) < T (gZ (cG fl st) (k + 1) s) := by
      refine Classical.byContradiction fun hno => ?_
      have hdn : ∀ d t, t + d ≤ p → T (gZ (cG fl st) (t + d) s) ≤ T (gZ (cG fl st) t s) := by
        intro d
        induction d with
        | zero => intro t _; exact Nat.le_refl _
        | succ d ih =>
          intro t ht
          have h1 := ih t (by omega)
          have h2 : ¬ T (gZ (cG fl st) (t + d) s) < T (gZ (cG fl st) (t + d + 1) s) := fun h => hno ⟨t + d, by omega, h⟩
          show T (gZ (cG fl st) (t + d + 1) s) ≤ _
          omega
      have h1 := hdn 1 0 (by omega)
      have h2 := hdn (p - 1) 1 (by omega)
      rw [show 1 + (p - 1) = p by omega, hp3] at h2
      have h3 : T (gZ (cG fl st) 0 s) = T (gZ (cG fl st) 1 s) := by
        show T s = _
        have h1 : T (gZ (cG fl st) 1 s) ≤ T s := h1
        omega
      have h4 := h.one 0 1 h3
      have hne := (hN.way (h.way 0).1.1).2.2
      rw [hfin 0, hbeg 0, ← h4] at hne
      exact hne rfl
    refine KM hk (fun t _ => ?_) ?_
    · have := (h.way t).2.2.1
      show _ ≤ lI G (nth st.by_ (gZ (cG fl st) t s)); omega
    · have := (h.way k).2.2.2 hlt
      show _ < lI G (nth st.by_ (gZ (cG fl st) k s)); omega
noncomputable def dP (fl : List c6) (a : List Int) (n : Nat) (G : Nat → Int) : List bl := match jT fl a n G with
  | none => []
  | some st => tL fl st (gZ (cG fl st) n st.at_.toNat)
theorem yX (h : jT fl a n G = none) : dP fl a n G = [] := by unfold dP; rw [h]
theorem yE (h : jT fl a n G = some st) : dP fl a n G = tL fl st (gZ (cG fl st) n st.at_.toNat) := by unfold dP; rw [h]
theorem Gq (hN : Net fl n) (hn : 0 < n) (hG : ∀ i, -1 ≤ G i ∧ G i ≤ 1) : (dP fl a n G = [] ∧ ∃ p : Int → Int, ∀ w, Open fl a w → p (w.iZ fl) + lI G w ≤ p (w.fin fl)) ∨ Kj fl a n G (dP fl a n G) := by
  have h := IE (a := a) hN hn hG
  cases e : jT fl a n G with
  | none =>
    rw [e] at h
    cases h with
    | none p hp => exact .inl ⟨yX e, p, hp⟩
  | some st =>
    rw [e] at h
    cases h with
    | some _ R T τ v h1 hv e1 hR =>
      rw [yE e, show st.at_.toNat = v by omega]
      exact .inr (N7 hN (SZ hN h1 hv hR))
noncomputable def stepG (fl : List c6) (n : Nat) (G : Nat → Int) (a : List Int) : List Int ⊕ List Int :=
  if dP fl a n G = [] then .inr a else .inl (hO a (dP fl a n G) (iK fl a 300 (dP fl a n G)))
noncomputable def rH (fl : List c6) (n : Nat) (G : Nat → Int) (a : List Int) : List Int := p4 (stepG fl n G) a
def DZ (fl : List c6) (G : Nat → Int) (a : List Int) : Int := cm (fun i => G i * nth a i) fl.length
def Bd (fl : List c6) : Prop := ∀ i, i < fl.length → 0 ≤ (nth fl i).lo ∧ (nth fl i).hi ≤ 300
theorem Q7 (hB : Bd fl) (h : MV fl a) (hG : ∀ i, -1 ≤ G i ∧ G i ≤ 1) : DZ fl G a ≤ 300 * fl.length := by
 refine (vv (b := 300) fun i hi => ?_).2
 have h1 := hB i hi
 have h2 := h.2 i hi
 have h3 := hG i
 have : G i = -1 ∨ G i = 0 ∨ G i = 1 := by omega
 rcases this with e | e | e <;> rw [e] <;> omega
structure SS (fl : List c6) (a : List Int) (n : Nat) (G : Nat → Int) (b : List Int) : Prop where
  feas : EI fl n b
  more : DZ fl G a < DZ fl G b
theorem Fk (h : EI fl n a) {l : List bl} (hc : Kj fl a n G l) : SS fl a n G (hO a l (iK fl a 300 l)) := by
 have hpos := C3 (fl := fl) (a := a) (m := 300) (by decide) l hc.ways
 obtain ⟨_, hm⟩ := Gu (fl := fl) (a := a) 300 l
 have hix : ∀ w ∈ l, w.ix < fl.length := fun w hw => (hc.ways w hw).1
 obtain ⟨s, ht⟩ := hc.trail
 refine ⟨⟨BV (Int.le_of_lt hpos) l a h.1 hc.nodup fun w hw => ⟨hix w hw, hm w hw⟩, fun c hcn => ?_⟩, ?_⟩
 ·rw [w8 h.1.1 _ l a s s h.1.1 hix ht, h.2 c hcn]; omega
 unfold DZ
 rw [zx G _ l a h.1.1 hix]
 have := Int.mul_pos hc.adds hpos
 omega
end
end Go.Proofs.YtmmcenjknimhbaaGreat
namespace Go.Proofs.YtmmcenjknimhbaaGreat
open Go Go.T
structure Span where
  lo : Int
  hi : Int
deriving DecidableEq, Inhabited
structure oc where
  holds : Int
  first : Span
deriving DecidableEq, Inhabited
structure Move where
  day : Int
  src : Int
  dst : Int
  sacks : Span
deriving DecidableEq, Inhabited
structure Level where
  day : Int
  bin : Int
  sacks : Span
deriving DecidableEq, Inhabited
structure bw where
  days : Int
  bins : List oc
  moves : List Move
  levels : List Level
deriving DecidableEq, Inhabited
structure eo where
  first : List Int
  bM : List Int
deriving DecidableEq, Inhabited
def gw (s : Span) : Bool := tO s.lo 0 300 && tO s.hi 0 300
def iV (s : Span) : Bool := decide (s.lo ≤ s.hi)
def bw.bin (y : bw) (k : Int) : Bool := tO k 0 (y.bins.length - 1)
def bw.time (y : bw) (k : Int) : Bool := tO k 0 y.days
def bw.fin (y : bw) (k : Int) : Bool := decide (k = -1) || y.bin k
def oR (y : bw) : Bool := ((!tO y.days 1 5 || !tO y.bins.length 1 4) || decide ((y.moves.length : Int) > 10)) || decide ((y.levels.length : Int) > 8)
def oo (y : bw) : Bool := !y.bins.all (fun b => tO b.holds 0 300 && gw b.first)
def lR (y : bw) : Bool := !y.moves.all (fun m => gw m.sacks) || !y.levels.all (fun l => gw l.sacks)
def GU (y : bw) : Bool := !y.moves.all fun m => (tO m.day 0 (y.days - 1) && y.fin m.src) && y.fin m.dst
def A4 (y : bw) : Bool := !y.levels.all fun l => y.time l.day && y.bin l.bin
def xB (y : bw) : Bool := !y.moves.all fun m => !decide (m.src = m.dst)
def xA (y : bw) : Bool := (!y.bins.all (fun b => iV b.first) || !y.moves.all (fun m => iV m.sacks)) || !y.levels.all (fun l => iV l.sacks)
def dy (y : bw) : Int := if oR y = true then 2 else if oo y = true then 3 else if lR y = true then 3 else if GU y = true then 1 else if A4 y = true then 1 else if xB y = true then 5 else if xA y = true then 4 else 0
structure bw.dj (y : bw) : Prop where
  days : 1 ≤ y.days ∧ y.days ≤ 5
  bins : 1 ≤ y.bins.length ∧ y.bins.length ≤ 4
  moves : y.moves.length ≤ 10
  levels : y.levels.length ≤ 8
  bin : ∀ b ∈ y.bins, (0 ≤ b.holds ∧ b.holds ≤ 300) ∧ (0 ≤ b.first.lo ∧ b.first.hi ≤ 300) ∧ b.first.lo ≤ b.first.hi
  move : ∀ m ∈ y.moves, (0 ≤ m.day ∧ m.day < y.days) ∧ (-1 ≤ m.src ∧ m.src < y.bins.length) ∧ (-1 ≤ m.dst ∧ m.dst < y.bins.length) ∧ m.src ≠ m.dst ∧ (0 ≤ m.sacks.lo ∧ m.sacks.hi ≤ 300) ∧ m.sacks.lo ≤ m.sacks.hi
  level : ∀ l ∈ y.levels, (0 ≤ l.day ∧ l.day ≤ y.days) ∧ (0 ≤ l.bin ∧ l.bin < y.bins.length) ∧ (0 ≤ l.sacks.lo ∧ l.sacks.hi ≤ 300) ∧ l.sacks.lo ≤ l.sacks.hi
theorem DJ {y : bw} (h : dy y = 0) : y.dj := by
  unfold dy at h
  have n0 : ∀ {c : Bool} {k x : Int}, k ≠ 0 → (if c = true then k else x) = 0 → c = false ∧ x = 0 := fun {c k x} hk h => by
    cases c with
    | true => exact absurd h hk
    | false => exact ⟨rfl, h⟩
  obtain ⟨h1, h⟩ := n0 (by decide) h
  obtain ⟨h2, h⟩ := n0 (by decide) h
  obtain ⟨h3, h⟩ := n0 (by decide) h
  obtain ⟨h4, h⟩ := n0 (by decide) h
  obtain ⟨h5, h⟩ := n0 (by decide) h
  obtain ⟨h6, h⟩ := n0 (by decide) h
  obtain ⟨h7, h⟩ := n0 (by decide) h
  simp only [oR, oo, lR, GU, A4, xB, xA, Bool.or_eq_false_iff, Bool.not_eq_false', decide_eq_false_iff_not, List.all_eq_true, Bool.and_eq_true, fK, gw, iV, decide_eq_true_eq, bw.fin, bw.bin, bw.time, Bool.or_eq_true, Bool.not_eq_true', decide_eq_false_iff_not] at h1 h2 h3 h4 h5 h6 h7
  refine ⟨h1.1.1.1, by omega, by omega, by omega, fun b hb => ?_, fun m hm => ?_, fun l hl => ?_⟩
  · have a := h2 b hb; have c := h7.1.1 b hb
    exact ⟨a.1, ⟨a.2.1.1, a.2.2.2⟩, c⟩
  · have a := h3.1 m hm; have c := h4 m hm; have d := h6 m hm; have e := h7.1.2 m hm
    refine ⟨by omega, by omega, by omega, d, ⟨a.1.1, a.2.2⟩, e⟩
  · have a := h3.2 l hl; have c := h5 l hl; have e := h7.2 l hl
    refine ⟨by omega, by omega, ⟨a.1.1, a.2.2⟩, e⟩
section
variable {y : bw} {c : Nat → Bool} {a : eo} {b t : Nat}
def bw.D (y : bw) : Nat := y.days.toNat
def bw.cells (y : bw) : Nat := y.bins.length * y.D
def bw.cell (y : bw) (bin day : Int) : Int := if bin = -1 then (y.bins.length : Int) * y.days else bin * y.days + day
theorem jK {α : Type} [Inhabited α] (f : Nat → α) {n k : Nat} (h : k < n) : nth ((List.range n).map f) k = f k := by
 unfold nth; rw [List.getD_eq_getElem?_getD, List.getElem?_map, List.getElem?_range h]; rfl
def bw.kept (y : bw) (b t : Nat) : Nat := b * (y.D + 1) + t
theorem ng {α : Type} [Inhabited α] {l k : List α} {i : Nat} (h : i < l.length) : nth (l ++ k) i = nth l i := by
 unfold nth; rw [List.getD_eq_getElem?_getD, List.getD_eq_getElem?_getD, List.getElem?_append_left h]
theorem sN {α : Type} [Inhabited α] {l k : List α} {i : Nat} : nth (l ++ k) (l.length + i) = nth k i := by
 unfold nth; rw [List.getD_eq_getElem?_getD, List.getD_eq_getElem?_getD, List.getElem?_append_right (by omega), Nat.add_sub_cancel_left]
end
end Go.Proofs.YtmmcenjknimhbaaGreat
namespace Go.Proofs.YtmmcenjknimhbaaGreat
open Go Go.T
section
variable {y : bw} {c : Nat → Bool} {a : eo} {x : List Int} {b t : Nat}
theorem D_eq (hr : y.dj) : (y.D : Int) = y.days := by have := hr.days; unfold bw.D; omega
def x8 (y : bw) (m : List Int) (b : Nat) (i : Nat) : Int := (ind ((nth y.moves i).dst = b) - ind ((nth y.moves i).src = b)) * nth m i
def fG (y : bw) (a : eo) (b t : Nat) : Int := nth a.first b + cm (fun i => if (nth y.moves i).day < t then x8 y a.bM b i else 0) y.moves.length
def Tw (y : bw) (m : List Int) (b t : Nat) : Int := cm (fun i => if (nth y.moves i).day = t then x8 y m b i else 0) y.moves.length
theorem Cp (hr : y.dj) : fG y a b 0 = nth a.first b := by
 unfold fG
 rw [lN fun i hi => by have := (hr.move _ (bL hi)).1; rw [if_neg (by omega)]]; omega
theorem MD : fG y a b (t + 1) = fG y a b t + Tw y a.bM b t := by
 unfold fG Tw
 rw [Int.add_assoc, ← wK]
 congr 1
 refine gX fun i _ => ?_
 by_cases e : (nth y.moves i).day < (t : Int)
 ·rw [if_pos e, if_pos (by omega), if_neg (by omega)]; omega
 by_cases e2 : (nth y.moves i).day = t
 ·rw [if_neg e, if_pos (by omega), if_pos e2]; omega
 rw [if_neg e, if_neg (by omega), if_neg e2]; rfl
structure S5 (y : bw) (a : eo) : Prop where
  first : a.first.length = y.bins.length
  bM : a.bM.length = y.moves.length
structure Jt (y : bw) (c : Nat → Bool) (a : eo) : Prop where
  lens : S5 y a
  first : ∀ b, b < y.bins.length → (nth y.bins b).first.lo ≤ nth a.first b ∧ nth a.first b ≤ (nth y.bins b).first.hi
  cont : ∀ b t, b < y.bins.length → t ≤ y.D → 0 ≤ fG y a b t ∧ fG y a b t ≤ (nth y.bins b).holds
  bM : ∀ i, i < y.moves.length → (nth y.moves i).sacks.lo ≤ nth a.bM i ∧ nth a.bM i ≤ (nth y.moves i).sacks.hi
  level : ∀ i, i < y.levels.length → c i = true → (nth y.levels i).sacks.lo ≤ fG y a (nth y.levels i).bin.toNat (nth y.levels i).day.toNat ∧ fG y a (nth y.levels i).bin.toNat (nth y.levels i).day.toNat ≤ (nth y.levels i).sacks.hi
end
end Go.Proofs.YtmmcenjknimhbaaGreat
namespace Go.Proofs.YtmmcenjknimhbaaGreat
open Go Go.T
section
variable {fl : List c6} {a x : List Int} {n : Nat} {has : Nat → Bool}
def yz (fl : List c6) (has : Nat → Bool) (x : List Int) : Int := cm (fun i => if has i = true then nth x i else 0) fl.length
structure uQ (fl : List c6) (n : Nat) (has : Nat → Bool) (s : Span) : Prop where
  lo : ∃ x, EI fl n x ∧ yz fl has x = s.lo
  hi : ∃ x, EI fl n x ∧ yz fl has x = s.hi
  all : ∀ x, EI fl n x → s.lo ≤ yz fl has x ∧ yz fl has x ≤ s.hi
theorem uQ.one {s s' : Span} (h : uQ fl n has s) (h' : uQ fl n has s') : s = s' := by
 obtain ⟨x1, f1, e1⟩ := h.lo
 obtain ⟨x2, f2, e2⟩ := h.hi
 obtain ⟨y1, g1, d1⟩ := h'.lo
 obtain ⟨y2, g2, d2⟩ := h'.hi
 have a1 := h.all y1 g1
 have a2 := h.all y2 g2
 have b1 := h'.all x1 f1
 have b2 := h'.all x2 f2
 cases s; cases s'
 simp only at *
 congr 1 <;> omega
open Classical in
noncomputable def td (fl : List c6) (n : Nat) (has : Nat → Bool) : Span := if h : ∃ s, uQ fl n has s then h.choose else default
theorem uQ.eq {s : Span} (h : uQ fl n has s) : td fl n has = s := by
 have hx : ∃ s, uQ fl n has s := ⟨s, h⟩
 unfold td; rw [dif_pos hx]; exact hx.choose_spec.one h
def Si (fl : List c6) : Bool := fl.all fun f => decide (f.lo ≤ f.hi)
end
end Go.Proofs.YtmmcenjknimhbaaGreat
namespace Go.Proofs.YtmmcenjknimhbaaGreat
open Go Go.T
structure Tj (y : bw) (c : Nat → Bool) (f : eo → Int) (s : Span) : Prop where
  lo : ∃ a, Jt y c a ∧ f a = s.lo
  hi : ∃ a, Jt y c a ∧ f a = s.hi
  all : ∀ a, Jt y c a → s.lo ≤ f a ∧ f a ≤ s.hi
section
variable {y : bw} {c : Nat → Bool} {f : eo → Int} {s s' : Span} {a : eo} {x : List Int} {b t k : Nat} {has : Nat → Bool}
theorem Tj.one (h : Tj y c f s) (h' : Tj y c f s') : s = s' := by
 obtain ⟨x1, f1, e1⟩ := h.lo
 obtain ⟨x2, f2, e2⟩ := h.hi
 obtain ⟨y1, g1, d1⟩ := h'.lo
 obtain ⟨y2, g2, d2⟩ := h'.hi
 have a1 := h.all y1 g1
 have a2 := h.all y2 g2
 have b1 := h'.all x1 f1
 have b2 := h'.all x2 f2
 cases s; cases s'
 simp only at *
 congr 1 <;> omega
theorem C6 {α : Type} [Inhabited α] {l k : List α} (h : l.length = k.length) (h2 : ∀ i, i < l.length → nth l i = nth k i) : l = k := by
 refine List.ext_getElem h fun i h1 h3 => ?_
 have := h2 i h1
 unfold nth at this
 rw [List.getD_eq_getElem?_getD, List.getD_eq_getElem?_getD, List.getElem?_eq_getElem h1, List.getElem?_eq_getElem h3] at this
 exact this
end
end Go.Proofs.YtmmcenjknimhbaaGreat
namespace Go.Proofs.YtmmcenjknimhbaaGreat
open Go Go.T
structure V1 where
  bin : Int
  day : Int
deriving DecidableEq, Inhabited
def Rk : El Span := El.mk' 2 (fun x => [Ty.int .i64 x.lo, Ty.int .i64 x.hi]) (fun _ => rfl) (fun _ => ⟨rfl, rfl, rfl⟩)
def jo : El oc := El.mk' 3 (fun x => [Ty.int .i64 x.holds, Ty.int .i64 x.first.lo, Ty.int .i64 x.first.hi]) (fun _ => rfl) (fun _ => ⟨rfl, rfl, rfl⟩)
def iX : El Move := El.mk' 5 (fun x => [Ty.int .i64 x.day, Ty.int .i64 x.src, Ty.int .i64 x.dst, Ty.int .i64 x.sacks.lo, Ty.int .i64 x.sacks.hi]) (fun _ => rfl) (fun _ => ⟨rfl, rfl, rfl⟩)
def jf : El Level := El.mk' 4 (fun x => [Ty.int .i64 x.day, Ty.int .i64 x.bin, Ty.int .i64 x.sacks.lo, Ty.int .i64 x.sacks.hi]) (fun _ => rfl) (fun _ => ⟨rfl, rfl, rfl⟩)
def tu : El (List Int) := El.mk' 1 (fun x => [Ty.sl dN x]) (fun _ => rfl) (fun _ => ⟨rfl, rfl, rfl⟩)
def iE (y : bw) : List Ty := [Ty.int .i64 y.days, Ty.sl jo y.bins, Ty.sl iX y.moves, Ty.sl jf y.levels]
def BI (y : bw) : Ty := Ty.agg (iE y)
def oL (a : eo) : List Ty := [Ty.sl dN a.first, Ty.sl dN a.bM]
def R6 (a : eo) : Ty := Ty.agg (oL a)
theorem vP {α : Type} (q : α → Bool) (l : List α) : (!(l.any fun x => !q x)) = l.all q := by
  induction l with
  | nil => rfl
  | cons x l ih => simp only [List.any_cons, List.all_cons, Bool.not_or, Bool.not_not, ih]
end Go.Proofs.YtmmcenjknimhbaaGreat
namespace Go.Proofs.YtmmcenjknimhbaaGreat
open Go Go.T
structure nC where
  grain : List Int
  taken : Int
  mixed : Int
def Us (s : nC) : Int := IntKind.u32.wrap (bits .xor .u32 s.mixed (IntKind.u32.wrap (nth s.grain (s.taken.tmod s.grain.length).toNat)) * 16777619)
def Er (s : nC) : nC := if (s.grain.length : Int) > 0 then { s with mixed := Us s } else s
def KG (s : nC) : nC := { s with taken := s.taken + 1 }
def UE (s : nC) : Int := IntKind.u32.wrap (IntKind.u32.wrap (s.mixed * 1664525) + 1013904223)
def Ev (s : nC) : nC := if s.taken > (s.grain.length : Int) then { s with mixed := UE s } else s
def bI (s : nC) : nC := Ev (KG (Er s))
def lE (s : nC) : Int := IntKind.i64.wrap (bits .and .u32 (bits .xor .u32 s.mixed (s.mixed / 2 ^ (15 : Int).toNat) / 2 ^ (8 : Int).toNat) 65535)
def nC.Ok (s : nC) (n : Int) : Prop := 0 ≤ s.taken ∧ s.taken + n ≤ 4611686018427387904
theorem B3 (s : nC) : (Er s).taken = s.taken := by unfold Er; split <;> rfl
theorem B9 (s : nC) : (Ev s).taken = s.taken := by unfold Ev; split <;> rfl
theorem dw (s : nC) : (bI s).taken = s.taken + 1 := by unfold bI; rw [B9, KG, B3]
theorem BC (a : Int) : 0 ≤ bits .and .u32 a 65535 ∧ bits .and .u32 a 65535 ≤ 65535 := by
 have e : bits .and .u32 a 65535 = IntKind.u32.wrap (((BitVec.ofInt 32 a &&& BitVec.ofInt 32 65535).toNat : Nat) : Int) := rfl
 have h1 : (BitVec.ofInt 32 a &&& BitVec.ofInt 32 65535).toNat ≤ 65535 := by
  rw [BitVec.toNat_and]
  exact Nat.and_le_right
 rw [e]
 generalize (BitVec.ofInt 32 a &&& BitVec.ofInt 32 65535).toNat = n at h1
 have : IntKind.u32.wrap (n : Int) = (n : Int) % 4294967296 := rfl
 rw [this]; omega
theorem D0 (s : nC) : 0 ≤ lE s ∧ lE s ≤ 65535 := by
 have h := BC (bits .xor .u32 s.mixed (s.mixed / 2 ^ (15 : Int).toNat) / 2 ^ (8 : Int).toNat)
 unfold lE
 rw [IntWalk.i64_in _ (by omega)]; exact h
def dL (s : nC) (n : Int) : Int := (lE (bI s)).tmod (max 1 n)
theorem dW (s : nC) (n : Int) : 0 ≤ dL s n ∧ dL s n < max 1 n ∧ dL s n ≤ 65535 := by
 have h := D0 (bI s)
 unfold dL
 have h1 : (lE (bI s)).tmod (max 1 n) = lE (bI s) % max 1 n := Int.tmod_eq_emod_of_nonneg h.1
 have h2 := Int.emod_lt_of_pos (lE (bI s)) (show 0 < max 1 n by omega)
 have h3 := Int.emod_nonneg (lE (bI s)) (show max 1 n ≠ 0 by omega)
 have h4 : lE (bI s) % max 1 n ≤ lE (bI s) := by
  have := Int.mul_ediv_add_emod (lE (bI s)) (max 1 n)
  have hq : 0 ≤ lE (bI s) / max 1 n := Int.ediv_nonneg h.1 (by omega)
  have : 0 ≤ max 1 n * (lE (bI s) / max 1 n) := Int.mul_nonneg (by omega) hq
  omega
 omega
def l9 (s : nC) (lo hi : Int) : Int := lo + dL s (hi - lo + 1)
end Go.Proofs.YtmmcenjknimhbaaGreat
namespace Go.Proofs.YtmmcenjknimhbaaGreat
open Go Go.T
def xq (m : Move) (bin time : Int) : Bool := decide (m.day < time) && decide (m.dst = bin)
def tG (m : Move) (bin time : Int) : Bool := decide (m.day < time) && decide (m.src = bin)
def fQ (y : bw) (a : eo) (bin time : Int) (k : Nat) (n : Int) : Int := n + if xq (nth y.moves k) bin time = true then nth a.bM k else 0
def gG (y : bw) (a : eo) (bin time : Int) : Nat → Int
  | 0 => nth a.first bin.toNat
  | k + 1 => fQ y a bin time k (gG y a bin time k) - if tG (nth y.moves k) bin time = true then nth a.bM k else 0
def eU (y : bw) (a : eo) (bin time : Int) : Int := gG y a bin time y.moves.length
section
variable {y : bw} {a : eo} {bin time : Int} {k b t : Nat}
theorem Nn {B : Int} (hB : 0 ≤ B) (h1 : ∀ x ∈ a.first, -B ≤ x ∧ x ≤ B) (h2 : ∀ x ∈ a.bM, -B ≤ x ∧ x ≤ B) (hb : bin.toNat < a.first.length) : ∀ k, k ≤ a.bM.length → -(B + 2 * B * k) ≤ gG y a bin time k ∧ gG y a bin time k ≤ B + 2 * B * k
  | 0, _ => by have := h1 _ (bL hb); show -(B + 2 * B * 0) ≤ nth a.first bin.toNat ∧ nth a.first bin.toNat ≤ _; omega
  | k + 1, hk => by
    have ih := Nn hB h1 h2 hb k (by omega)
    have := h2 _ (bL (show k < a.bM.length by omega))
    have e : 2 * B * ((k + 1 : Nat) : Int) = 2 * B * k + 2 * B := by rw [Int.natCast_add, Int.mul_add]; simp
    show -(B + 2 * B * ((k + 1 : Nat) : Int)) ≤ fQ y a bin time k (gG y a bin time k) - _ ∧ fQ y a bin time k (gG y a bin time k) - _ ≤ B + 2 * B * ((k + 1 : Nat) : Int)
    rw [e]
    unfold fQ
    split <;> split <;> omega
theorem Pe : ∀ k, gG y a b t k = nth a.first b + cm (fun i => if (nth y.moves i).day < t then x8 y a.bM b i else 0) k
  | 0 => by show nth a.first ((b : Nat) : Int).toNat = _ + 0; simp
  | k + 1 => by
    show fQ y a b t k (gG y a b t k) - _ = nth a.first b + (cm _ k + _)
    rw [Pe k]
    unfold fQ xq tG x8
    by_cases h0 : (nth y.moves k).day < (t : Int)
    · by_cases h1 : (nth y.moves k).dst = (b : Int) <;> by_cases h2 : (nth y.moves k).src = (b : Int) <;> simp [h0, h1, h2, ind] <;> omega
    · simp [h0]
theorem Hi : eU y a b t = fG y a b t := Pe _
end
end Go.Proofs.YtmmcenjknimhbaaGreat
