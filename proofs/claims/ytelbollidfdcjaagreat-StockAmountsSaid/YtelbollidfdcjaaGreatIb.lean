/- Lemmas: the program and the reference walked, plain laws. -/
import Derived.Test.YtelbollidfdcjaaGreatIa
namespace Go.T
open Go Go.RowKit
structure Re (ρ : List (Nat × Nat)) (M M' : bB) : Prop where
  none : ∀ b, M b = none → M' b = none
  some : ∀ x ∈ ρ, ∀ b, M b = some x.1 → M' b = some x.2
def Conv (ρ : List (Nat × Nat)) (s t : Ty) : Prop := ∀ w M M' v, Wf w M → Wf w M' → Re ρ M M' → s.den w M v → t.den w M' v
def mM (ρ : List (Nat × Nat)) : List Ty → List Ty → Prop
  | [], [] => True
  | s :: ss, t :: ts => Conv ρ s t ∧ mM ρ ss ts
  | _, _ => False
theorem bW {ρ : List (Nat × Nat)} : mM ρ [] [] := trivial
theorem aN {ρ : List (Nat × Nat)} {s t : Ty} {ss ts : List Ty} (h' : mM ρ ss ts) (h : Conv ρ s t) : mM ρ (s :: ss) (t :: ts) := ⟨h, h'⟩
theorem lg {ρ : List (Nat × Nat)} {w : World} {M M' : bB} (wf : Wf w M) (wf' : Wf w M') (hre : Re ρ M M') : ∀ {ss ts : List Ty} {vs : List Value}, mM ρ ss ts → cB w M ss vs → cB w M' ts vs
  | [], [], [], _, _ => trivial
  | _ :: _, _ :: _, _ :: _, ⟨h, h'⟩, ⟨h1, h2⟩ => ⟨h _ _ _ _ wf wf' hre h1, lg wf wf' hre h' h2⟩
theorem xx {ρ : List (Nat × Nat)} : ∀ {ss ts : List Ty}, mM ρ ss ts → ∀ (i : Nat) (t : Ty), ts[i]? = some t → ∃ s, ss[i]? = some s ∧ Conv ρ s t
  | [], [], _, i, t, h => by simp at h
  | s :: ss, u :: ts, ⟨h, h'⟩, i, t, ht => by
    cases i with
    | zero => simp at ht; subst ht; exact ⟨s, by simp, h⟩
    | succ i => simp at ht; obtain ⟨x, hx, hc⟩ := xx h' i t ht; exact ⟨x, by simpa using hx, hc⟩
theorem aT {ρ : List (Nat × Nat)} {t : Ty} (h1 : t.deps = []) (h2 : t.cdeps = []) : Conv ρ t t := fun w M M' v _ _ hre h =>
 t.mono (S := fun _ => True) (K := fun _ => True) ⟨Nat.le_refl _, rfl, rfl, rfl, fun b _ hm => ⟨hre.none b hm, rfl⟩, fun b t _ h => absurd trivial h⟩ (by rw [h1]; intro _ h; cases h) (by rw [h2]; intro _ h; cases h) h
theorem oP {ρ : List (Nat × Nat)} {s t : Ty} (h1 : t.deps = []) (h2 : t.cdeps = []) (h : s = t) : Conv ρ s t := by subst h; exact aT h1 h2
theorem j6 {ρ : List (Nat × Nat)} {a b off : Nat} (h : (a, b) ∈ ρ) : Conv ρ (.ptr a off) (.ptr b off) := fun _ _ _ _ _ _ hre ⟨k, hk, e⟩ => ⟨k, hre.some _ h k hk, e⟩
theorem DB {ρ : List (Nat × Nat)} {α : Type} {E : El α} {T a b : Nat} {xs : List α} (h : (a, b) ∈ ρ) : Conv ρ (.row E T a xs) (.row E T b xs) := fun _ _ _ _ _ _ hre hr =>
 Hj hr (fun k hk => hre.some _ h k hk) hre.none
theorem y7 {ρ : List (Nat × Nat)} {α : Type} {E : El α} {T b : Nat} : Conv ρ (.ex (.slice none 0 0)) (.row E T b ([] : List α)) := fun _ _ _ _ _ _ _ h => Ty.dQ _ _ _ h
theorem Gm {ρ : List (Nat × Nat)} {α : Type} {E : El α} : Conv ρ (.ex (.slice none 0 0)) (.sl E ([] : List α)) := fun _ _ _ _ _ _ _ h => Ty.tQ _ _ _ h
theorem eW {ρ : List (Nat × Nat)} {a b n : Nat} (h : (a, b) ∈ ρ) : Conv ρ (.vs a n) (.vs b n) := fun _ _ _ _ _ _ hre hv =>
 hv.imp id fun ⟨k, c, hk, e, h1, h2⟩ => ⟨k, c, hre.some _ h k hk, e, h1, h2⟩
theorem CY {ρ : List (Nat × Nat)} {l l' : List Ty} (h : mM ρ l l') : Conv ρ (.kD l) (.kD l') := fun _ _ _ _ wf wf' hre ⟨cs, e, hd⟩ => ⟨cs, e, lg wf wf' hre h hd⟩
theorem tI {ρ : List (Nat × Nat)} {f : FuncId} {l l' : List Ty} (h : mM ρ l l') : Conv ρ (.jD f l) (.jD f l') := fun _ _ _ _ wf wf' hre ⟨cs, e, hd⟩ => ⟨cs, e, lg wf wf' hre h hd⟩
theorem ep {ρ : List (Nat × Nat)} {l l' : List Ty} (h : mM ρ l l') : Conv ρ (.pp l) (.pp l') := fun _ _ _ _ wf wf' hre ⟨b, off, e, hm, hlt, hd⟩ =>
 ⟨b, off, e, hre.none b hm, hlt, fun i t ht => let ⟨s, hs, hc⟩ := xx h i t ht; let ⟨v, hv, hdv⟩ := hd i s hs; ⟨v, hv, hc _ _ _ _ wf wf' hre hdv⟩⟩
def qO (ρ : List (Nat × Nat)) (a : Nat) (C : Cont) (b : Nat) (D : Cont) : Prop := ∀ w M M', Wf w M → Wf w M' → Re ρ M M' → C.den w M a → D.den w M' b
theorem iX {ρ : List (Nat × Nat)} {a b T : Nat} {l l' : List Ty} (h : (a, b) ∈ ρ) (hc : mM ρ l l') : qO ρ a (.cells T l) b (.cells T l') := fun _ _ _ wf wf' hre ⟨k, cs, h1, h2, h3⟩ =>
 ⟨k, cs, hre.some _ h k h1, h2, lg wf wf' hre hc h3⟩
theorem iI {w : World} {M M' : bB} (hre : ∀ b, M b = none → M' b = none) {l : List Ty} {vs : List Value} (h1 : cC l = []) (h2 : bX l = []) (h : cB w M l vs) : cB w M' l vs :=
 bQ (S := fun _ => True) (K := fun _ => True) ⟨Nat.le_refl _, rfl, rfl, rfl, fun b _ hm => ⟨hre b hm, rfl⟩, fun b t _ h => absurd trivial h⟩ (by rw [h1]; intro _ h; cases h) (by rw [h2]; intro _ h; cases h) h
theorem cG {ρ : List (Nat × Nat)} {a b T : Nat} {α : Type} {E : El α} {xs ys : List α} (h : (a, b) ∈ ρ) (e : xs = ys) : qO ρ a (.vec E T xs) b (.vec E T ys) := fun _ _ _ _ _ hre hd => by
 subst e
 exact hd.imp id fun ⟨k, cs, h1, h2, h3⟩ => ⟨k, cs, hre.some _ h k h1, h2, iI hre.none (E.cO _) (E.cD _) h3⟩
theorem kL {ρ : List (Nat × Nat)} {a b T : Nat} {l l' : List Ty} (h : (a, b) ∈ ρ) (h1 : cC l' = []) (h2 : bX l' = []) (e : l = l') : qO ρ a (.cells T l) b (.cells T l') := fun _ _ _ _ _ hre ⟨k, cs, h3, h4, h5⟩ => by
 subst e
 exact ⟨k, cs, hre.some _ h k h3, h4, iI hre.none h1 h2 h5⟩
def cT (F : List Nat) (post : List (Nat × Cont)) (w0 : World) (M0 : bB) (res : Ty) (e : Ending) (w' : World) : Prop :=
  ∃ r M', e = .returned r ∧ Wf w' M' ∧ Le (fun t => 1 ≤ t) (fun t => 1 ≤ t ∧ t ∉ F) w0 M0 w' M' ∧ res.den w' M' r ∧ ∀ x ∈ post, x.2.den w' M' x.1
def fC (P : Program) (f : FuncId) (F : List Nat) (pre : List (Nat × Cont)) (args : List Ty) (post : List (Nat × Cont)) (res : Ty) : Prop :=
  (∃ fn, P.funcs[f]? = some fn ∧ (fn.name == "runtime.NumGoroutine") = false ∧ fn.body.isNone = false) ∧
  ∀ w M vs, Wf w M → cB w M args vs → (∀ x ∈ pre, x.2.den w M x.1) → Calls P f vs.toArray w (cT F post w M res)
section
variable {P : Program} {fr : Fr} {ops : Array Oper} {A : As} {rest : List Oper} {K : As → List (As × Fx) → Prop} {d : Nat} {t ty' : TypeId} {p : String} {e : Array Edge}
def so (args : List Ty) (pre : List (Nat × Cont)) : As := ⟨fun c => (args[c]?).getD Ty.any, pre⟩
theorem fV {f : FuncId} {fn : Func} {c : Code} {F : List Nat} {pre post : List (Nat × Cont)} {args : List Ty} {res : Ty} {n : Nat} (hf : P.funcs[f]? = some fn) (hb : fn.body = some c) (hn : (fn.name == "runtime.NumGoroutine") = false) (hnt : fn.ntmps = n) (hl : args.length ≤ n)
    (h : ∀ w0 M0, fU P ⟨n, w0, M0, F, .plain⟩ c (so args pre) (bodyPost P fn (cT F post w0 M0 res))) : fC P f F pre args post res := by
  refine ⟨⟨fn, hf, hn, by rw [hb]; rfl⟩, fun w M vs wf hd hpre => calls_of_wp hf hb (wpIn_wide.1 (h w M _ _ ?_))⟩
  have hlen := cL hd
  refine ⟨M, ⟨wf, Le.refl _ _ _ _, by simp [hnt, hlen]; omega, Defs.nil⟩, fun c hc => ?_, hpre⟩
  simp only [so]
  cases ha : args[c]? with
  | none => trivial
  | some ty =>
    obtain ⟨v, hv, hdv⟩ := dG hd c ty ha
    have : (vs.toArray ++ Array.replicate (fn.ntmps - vs.toArray.size) undef).getD c undef = v := by
      have hlt : c < vs.length := (List.getElem?_eq_some_iff.1 hv).1
      rw [Array.getD_eq_getD_getElem?, Array.getElem?_append_left (by simpa using hlt)]
      simp [hv]
    rw [this]; exact hdv
def oN (L : List Nat) (M : bB) : bB := fun b => match M b with | none => none | some t => if t = 0 ∨ t ∈ L then some t else none
theorem tY {L : List Nat} {M : bB} {b : Nat} (h : M b = none) : oN L M b = none := by simp [oN, h]
theorem EN {L : List Nat} {M : bB} {b t : Nat} (h : M b = some t) (ht : t = 0 ∨ t ∈ L) : oN L M b = some t := by simp [oN, h, ht]
theorem IZ {L : List Nat} {M : bB} {b t : Nat} (h : M b = some t) (h0 : 1 ≤ t) (ht : t ∉ L) : oN L M b = none := by
 have : ¬ (t = 0 ∨ t ∈ L) := fun h => h.elim (by omega) ht
 simp [oN, h, this]
theorem sY {L : List Nat} {M : bB} {b t : Nat} (h : oN L M b = some t) : M b = some t := by
 unfold oN at h
 split at h
 ·cases h
 rename_i u hu
 split at h
 ·rw [← h]; exact hu
 cases h
theorem pQ {L : List Nat} {w : World} {M : bB} (wf : Wf w M) : Wf w (oN L M) :=
 ⟨fun b t h => wf.lt b t (sY h), fun b b' t ht1 h h' => wf.inj b b' t ht1 (sY h) (sY h')⟩
def JK (L : List Nat) : List (Nat × Nat) := L.map fun x => (x, x)
theorem EO {L : List Nat} {M : bB} : Re (JK L) M (oN L M) :=
 ⟨fun b h => tY h, fun x hx b h => by
  obtain ⟨y, hy, rfl⟩ := List.mem_map.1 hx
  exact EN h (.inr hy)⟩
def BI (L : List Nat) (s t : Ty) : Prop := ∀ w M v, Wf w M → s.den w M v → t.den w (oN L M) v
theorem hU {L : List Nat} {s t : Ty} (h : Conv (JK L) s t) : BI L s t := fun w M v wf hs => h w M _ v wf (pQ wf) EO hs
theorem HZ {L : List Nat} {α : Type} {E : El α} {T tg : Nat} {xs ys : List α} (h : 1 ≤ tg) (hL : L.contains tg = false) (e : xs = ys) : BI L (Ty.row E T tg xs) (Ty.sl E ys) := fun w M v wf hr => by
 subst e
 exact w7 wf hr (fun b hb => IZ hb h (by simpa using hL)) (fun b hb => tY hb)
def qY (A : As) (L : List Nat) : List (Nat × Cont) → Prop
  | [] => True
  | (b, D) :: r => (∃ C, A.tag b = some C ∧ qO (JK L) b C b D) ∧ qY A L r
theorem gR {L : List Nat} : qY A L [] := trivial
theorem fM {L : List Nat} {b : Nat} {C D : Cont} {r : List (Nat × Cont)} (h : A.tag b = some C) (hc : qO (JK L) b C b D) (h' : qY A L r) : qY A L ((b, D) :: r) := ⟨⟨C, h, hc⟩, h'⟩
theorem vY {L : List Nat} {w : World} {M : bB} (wf : Wf w M) (ht : ∀ x ∈ A.tags, x.2.den w M x.1) : ∀ {r : List (Nat × Cont)}, qY A L r → ∀ x ∈ r, x.2.den w (oN L M) x.1
  | (b, D) :: r, ⟨⟨C, h, hc⟩, h'⟩, x, hx => by
    rcases List.mem_cons.1 hx with rfl | hx
    · exact hc w M _ wf (pQ wf) EO (ht _ (cW h))
    · exact vY wf ht h' x hx
theorem pU {L : List Nat} {fr : Fr} {w : World} {M : bB} (hL : ∀ t ∈ fr.pass, t ∈ L) (hb : fr.base w M) : Le fr.kd.JC (fun t => 1 ≤ t ∧ t ∉ fr.pass) fr.w0 fr.M0 w (oN L M) :=
 ⟨hb.size, hb.os, hb.tape, hb.out, fun b hlt hm => ⟨tY (hb.oM b hlt hm).1, (hb.oM b hlt hm).2⟩, fun b t hm ht => by
  obtain ⟨h1, h2⟩ := hb.own b t hm ht
  refine ⟨EN h1 ?_, fun hs => h2 hs⟩
  by_cases h0 : t = 0
  ·exact .inl h0
  refine .inr (hL t ?_)
  by_cases h : t ∈ fr.pass
  ·exact h
  exact absurd ⟨by omega, h⟩ ht⟩
section
variable {fn : Func} {n : Nat} {w0 : World} {M0 : bB} {F : List Nat} {post : List (Nat × Cont)}
theorem L7 (L : List Nat) (hr : fn.results = #[]) (hL : ∀ t ∈ F, t ∈ L) (hp : qY A L post) : dR ⟨n, w0, M0, F, .plain⟩ A (bodyPost P fn (cT F post w0 M0 (Ty.kD [])) .ret) := by
 intro a w ⟨M, ok, hsl, ht⟩
 exact ⟨ok.gw (by simp), _, results_none hr _ _ _, _, oN L M, rfl, pQ ok.wf, pU hL ok.base, ⟨_, rfl, trivial⟩, vY ok.wf ht hp⟩
theorem iQ (L : List Nat) {tm : Nat} {res : Ty} (hr : fn.results = #[.tmp tm]) (htm : Nat.blt tm n = true) (hL : ∀ t ∈ F, t ∈ L) (hp : qY A L post) (hs : BI L (A.slots tm) res) : dR ⟨n, w0, M0, F, .plain⟩ A (bodyPost P fn (cT F post w0 M0 res) .ret) := by
 intro a w ⟨M, ok, hsl, ht⟩
 exact ⟨ok.gw (by simp), _, results_tmp hr _ _ _, _, oN L M, rfl, pQ ok.wf, pU hL ok.base, hs _ _ _ ok.wf (hsl tm (by simpa using htm)), vY ok.wf ht hp⟩
theorem zy (L : List Nat) {t1 t2 : Nat} {r1 r2 : Ty} (hr : fn.results = #[.tmp t1, .tmp t2]) (h1 : Nat.blt t1 n = true) (h2 : Nat.blt t2 n = true) (hL : ∀ t ∈ F, t ∈ L) (hp : qY A L post) (hs1 : BI L (A.slots t1) r1) (hs2 : BI L (A.slots t2) r2) :
 dR ⟨n, w0, M0, F, .plain⟩ A (bodyPost P fn (cT F post w0 M0 (Ty.kD [r1, r2])) .ret) := by
 intro a w ⟨M, ok, hsl, ht⟩
 exact ⟨ok.gw (by simp), _, results_tmp2 hr _ _ _, _, oN L M, rfl, pQ ok.wf, pU hL ok.base, ⟨_, rfl, hs1 _ _ _ ok.wf (hsl t1 (by simpa using h1)), hs2 _ _ _ ok.wf (hsl t2 (by simpa using h2)), trivial⟩, vY ok.wf ht hp⟩
end
theorem qS {f : FuncId} {F : List Nat} {pre post : List (Nat × Cont)} {args : List Ty} {res : Ty} (hF : fC P f F pre args post res) (vs : Array Value) (w : World) : (callFunc f vs).run P w = .ok (.enter f vs) w := by
 obtain ⟨⟨fn, hf, hn, hb⟩, _⟩ := hF
 have hn' : fn.name ≠ "runtime.NumGoroutine" := by simpa using hn
 have hb' : fn.body ≠ none := fun h => by rw [h] at hb; cases hb
 simp [callFunc, hf, hn', hb']
def oa (ρ : List (Nat × Nat)) (M : bB) : bB := fun b => match M b with | none => none | some t => some ((ρ.lookup t).getD 0)
def sR (ρ : List (Nat × Nat)) : Bool := ρ.all fun x => Nat.ble 1 x.1 && (Nat.ble 1 x.2 && (Nat.blt x.1 4096 == Nat.blt x.2 4096 && ρ.all fun y => (x.1 == y.1) == (x.2 == y.2)))
theorem jo {ρ : List (Nat × Nat)} (h : sR ρ = true) : ∀ x ∈ ρ, 1 ≤ x.1 ∧ 1 ≤ x.2 ∧ ∀ y ∈ ρ, (x.1 = y.1 ↔ x.2 = y.2) := by
 intro x hx
 simp only [sR, List.all_eq_true, Bool.and_eq_true, Nat.ble_eq, beq_iff_eq] at h
 obtain ⟨h1, h2, _, h3⟩ := h x hx
 refine ⟨h1, h2, fun y hy => ?_⟩
 have := h3 y hy
 rw [Bool.eq_iff_iff] at this
 simpa using this
theorem wv {ρ : List (Nat × Nat)} (h : sR ρ = true) {a b : Nat} (hm : (a, b) ∈ ρ) : a < 4096 ↔ b < 4096 := by
 simp only [sR, List.all_eq_true, Bool.and_eq_true, beq_iff_eq] at h
 have := (h _ hm).2.2.1
 rw [Bool.eq_iff_iff] at this
 simpa using this
theorem jH {ρ : List (Nat × Nat)} {a b : Nat} (h : ρ.lookup a = some b) : (a, b) ∈ ρ := by
  induction ρ with
  | nil => cases h
  | cons x l ih =>
    obtain ⟨k, v⟩ := x
    rw [List.lookup_cons] at h
    by_cases e : a = k
    · subst e; simp at h; subst h; exact List.mem_cons_self
    · have : (a == k) = false := by simpa using e
      rw [this] at h; exact List.mem_cons_of_mem _ (ih h)
theorem ow {ρ : List (Nat × Nat)} (h : sR ρ = true) {a b : Nat} (hm : (a, b) ∈ ρ) : ρ.lookup a = some b := by
  cases hl : ρ.lookup a with
  | none =>
    exfalso
    induction ρ with
    | nil => cases hm
    | cons x l ih =>
      obtain ⟨k, v⟩ := x
      rw [List.lookup_cons] at hl
      by_cases e : a = k
      · subst e; simp at hl
      · have e' : (a == k) = false := by simpa using e
        rw [e'] at hl
        rcases List.mem_cons.1 hm with hm | hm
        · exact e (congrArg Prod.fst hm)
        · refine ih ?_ hm hl
          simp only [sR, List.all_eq_true, List.mem_cons, forall_eq_or_imp, Bool.and_eq_true] at h ⊢
          exact fun x hx => ⟨(h.2 x hx).1, (h.2 x hx).2.1, (h.2 x hx).2.2.1, (h.2 x hx).2.2.2.2⟩
  | some c =>
    have := ((jo h _ hm).2.2 _ (jH hl)).1 rfl
    exact congrArg some this.symm
theorem vl {ρ : List (Nat × Nat)} {M : bB} {b g : Nat} (h : oa ρ M b = some g) (h1 : 1 ≤ g) : ∃ t, M b = some t ∧ (t, g) ∈ ρ := by
  unfold oa at h
  split at h
  · cases h
  · rename_i t ht
    cases hl : ρ.lookup t with
    | none => rw [hl] at h; injection h with h; simp at h; omega
    | some c => rw [hl] at h; injection h with h; simp at h; subst h; exact ⟨t, ht, jH hl⟩
theorem n8 {ρ : List (Nat × Nat)} {M : bB} {b : Nat} (h : M b = none) : oa ρ M b = none := by simp [oa, h]
theorem BW {ρ : List (Nat × Nat)} (hr : sR ρ = true) {M : bB} {b t g : Nat} (h : M b = some t) (hm : (t, g) ∈ ρ) : oa ρ M b = some g := by simp [oa, h, ow hr hm]
theorem x8 {ρ : List (Nat × Nat)} {M : bB} {b t : Nat} (h : M b = some t) (hm : ρ.lookup t = none) : oa ρ M b = some 0 := by simp [oa, h, hm]
theorem F0 {ρ : List (Nat × Nat)} (hr : sR ρ = true) {w : World} {M : bB} (wf : Wf w M) : Wf w (oa ρ M) := by
  refine ⟨fun b t h => ?_, fun b b' t ht1 h h' => ?_⟩
  · cases hm : M b with
    | none => rw [n8 hm] at h; cases h
    | some u => exact wf.lt b u hm
  · obtain ⟨u, hu, m⟩ := vl h (by omega)
    obtain ⟨u', hu', m'⟩ := vl h' (by omega)
    have e : u = u' := ((jo hr _ m).2.2 _ m').2 rfl
    subst e
    obtain ⟨v, rfl⟩ : ∃ v, u = v + 1 := ⟨u - 1, by have := (jo hr _ m).1; omega⟩
    exact wf.inj b b' v (by have := wv hr m; omega) hu hu'
theorem BV {ρ : List (Nat × Nat)} (hr : sR ρ = true) {M : bB} : Re ρ M (oa ρ M) := ⟨fun _ h => n8 h, fun _ hx _ h => BW hr h hx⟩
def kg (ρ : List (Nat × Nat)) : List (Nat × Nat) := ρ.map fun x => (x.2, x.1)
theorem JO {ρ : List (Nat × Nat)} (h : sR ρ = true) : sR (kg ρ) = true := by
 simp only [sR, kg, List.all_eq_true, Bool.and_eq_true, List.mem_map] at h ⊢
 rintro _ ⟨x, hx, rfl⟩
 obtain ⟨h1, h2, h4, h3⟩ := h x hx
 refine ⟨h2, h1, by simpa using (beq_iff_eq.1 h4).symm, ?_⟩
 rintro _ ⟨y, hy, rfl⟩
 have := h3 y hy
 simp only [beq_iff_eq] at this ⊢
 exact this.symm
def oX (w : World) (ρ : List (Nat × Nat)) (mv : List Nat) (M M' : bB) : bB := fun b =>
  if b < w.heap.size ∧ (∀ t, M b = some t → t ∉ mv) then M b else (M' b).bind fun g => (kg ρ).lookup g
theorem CS {ρ : List (Nat × Nat)} {mv F : List Nat} {w w' : World} {M M' : bB} (hr : sR ρ = true) (hmv : ∀ x ∈ ρ, x.1 ∈ mv ∨ x.2 ∈ F) (hmr : ∀ t ∈ mv, ∃ g, (t, g) ∈ ρ) (wf : Wf w M) (wf' : Wf w' M') (le : Le (fun t => 1 ≤ t) (fun t => 1 ≤ t ∧ t ∉ F) w (oa ρ M) w' M') :
    Wf w' (oX w ρ mv M M') ∧ Le (· ∈ ρ.map Prod.fst) (· ∈ mv) w M w' (oX w ρ mv M M') ∧ Re (kg ρ) M' (oX w ρ mv M M') := by
  have hsw := JO hr
  have memsw : ∀ {t g : Nat}, (t, g) ∈ ρ → (g, t) ∈ kg ρ := fun h => List.mem_map.2 ⟨_, h, rfl⟩
  have memsw' : ∀ {t g : Nat}, (g, t) ∈ kg ρ → (t, g) ∈ ρ := fun h => by
    obtain ⟨⟨a, b⟩, hx, he⟩ := List.mem_map.1 h
    injection he with h1 h2
    subst h1; subst h2; exact hx
  -- an old block whose tag stays
  have old : ∀ b t, M b = some t → t ∉ mv → M' b = some ((ρ.lookup t).getD 0) := fun b t hm hn => by
    cases hl : ρ.lookup t with
    | none => exact (le.own b 0 (x8 hm hl) (by omega)).1
    | some g =>
      have hx := jH hl
      have hg : g ∈ F := (hmv _ hx).resolve_left hn
      exact (le.own b g (BW hr hm hx) (fun h => h.2 hg)).1
  have key : ∀ b, M' b = none → oX w ρ mv M M' b = none := fun b h => by
    unfold oX
    split
    · rename_i hc
      cases hm : M b with
      | none => rfl
      | some t => rw [old b t hm (hc.2 t hm)] at h; cases h
    · rw [h]; rfl
  have key2 : ∀ t g, (t, g) ∈ ρ → ∀ b, M' b = some g → oX w ρ mv M M' b = some t := fun t g hx b h => by
    have h1 := (jo hr _ hx)
    unfold oX
    split
    · rename_i hc
      cases hm : M b with
      | none =>
        have := (le.oM b hc.1 (n8 hm)).1
        rw [this] at h; cases h
      | some u =>
        have h2 := old b u hm (hc.2 u hm)
        rw [h2] at h
        injection h with h
        cases hl : ρ.lookup u with
        | none => rw [hl] at h; simp at h; omega
        | some c =>
          rw [hl] at h; simp at h; subst h
          have := (h1.2.2 _ (jH hl)).2 rfl
          exact congrArg some this.symm
    · rw [h]; exact ow hsw (memsw hx)
  refine ⟨⟨fun b t h => ?_, fun b b' t ht1 h h' => ?_⟩, ⟨le.size, le.os, le.tape, le.out, fun b hb hm => ?_, fun b t hm hk => ?_⟩, ⟨key, fun x hx b h => key2 _ _ (memsw' hx) b h⟩⟩
  · unfold oX at h
    split at h
    · rename_i hc; exact Nat.lt_of_lt_of_le hc.1 le.size
    · obtain ⟨g, hg, _⟩ := Option.bind_eq_some_iff.1 h
      exact wf'.lt b g hg
  · -- injective
    have part : ∀ b, oX w ρ mv M M' b = some (t + 1) → (M b = some (t + 1) ∧ t + 1 ∉ mv) ∨ ∃ g, (t + 1, g) ∈ ρ ∧ M' b = some g ∧ 1 ≤ g := fun b h => by
      unfold oX at h
      split at h
      · rename_i hc; exact .inl ⟨h, hc.2 _ h⟩
      · obtain ⟨g, hg, hl⟩ := Option.bind_eq_some_iff.1 h
        have hx := memsw' (jH hl)
        exact .inr ⟨g, hx, hg, (jo hr _ hx).2.1⟩
    have both : ∀ b b' g, (t + 1, g) ∈ ρ → M' b = some g → 1 ≤ g → (M b' = some (t + 1) ∧ t + 1 ∉ mv) → b = b' := fun b b' g hx hg h1 ⟨hm, hn⟩ => by
      have h2 := old b' _ hm hn
      rw [ow hr hx] at h2
      simp at h2
      obtain ⟨v, rfl⟩ : ∃ v, g = v + 1 := ⟨g - 1, by omega⟩
      exact wf'.inj b b' v (by have := wv hr hx; omega) hg h2
    rcases part b h with h1 | ⟨g, hx, hg, h1⟩ <;> rcases part b' h' with h2 | ⟨g', hx', hg', h2⟩
    · exact wf.inj b b' t ht1 h1.1 h2.1
    · exact (both b' b g' hx' hg' h2 h1).symm
    · exact both b b' g hx hg h1 h2
    · have : g = g' := ((jo hr _ hx).2.2 _ hx').1 rfl
      subst this
      obtain ⟨v, rfl⟩ : ∃ v, g = v + 1 := ⟨g - 1, by omega⟩
      exact wf'.inj b b' v (by have := wv hr hx; omega) hg hg'
  · obtain ⟨h1, h2⟩ := le.oM b hb (n8 hm)
    exact ⟨key b h1, h2⟩
  · have hb := wf.lt b t hm
    refine ⟨?_, fun hs => ?_⟩
    · unfold oX
      rw [if_pos ⟨hb, fun u hu => by rw [hm] at hu; injection hu with hu; exact hu ▸ hk⟩]; exact hm
    · have hl : ρ.lookup t = none := by
        cases hl : ρ.lookup t with
        | none => rfl
        | some c => exact absurd (List.mem_map.2 ⟨_, jH hl, rfl⟩) hs
      exact (le.own b 0 (x8 hm hl) (by omega)).2 (by omega)
def Ny (fr : Fr) (ρ : List (Nat × Nat)) (mv F : List Nat) : Bool :=
  sR ρ && (ρ.all (fun x => mv.contains x.1 || F.contains x.2) && mv.all fun t => Nat.ble 1 t && (!fr.pass.contains t && ρ.any fun x => x.1 == t))
def Nl (d : Option Nat) (res : Ty) (ρ : List (Nat × Nat)) (mv : List Nat) (sets : List (Nat × Cont)) (rs : List Nat) : Fx := { d := d, ty := res, S := ρ.map Prod.fst, K := mv, sets := sets, rs := rs, rt := ρ.map Prod.fst }
def uH (A : As) (ρ : List (Nat × Nat)) : List (Nat × Cont) → Prop
  | [] => True
  | (b, D) :: r => (∃ a C, (a, b) ∈ ρ ∧ A.tag a = some C ∧ qO ρ a C b D) ∧ uH A ρ r
theorem pre_nil {ρ : List (Nat × Nat)} : uH A ρ [] := trivial
theorem dN {ρ : List (Nat × Nat)} {a b : Nat} {C D : Cont} {r : List (Nat × Cont)} (hm : (a, b) ∈ ρ) (h : A.tag a = some C) (hc : qO ρ a C b D) (h' : uH A ρ r) : uH A ρ ((b, D) :: r) := ⟨⟨a, C, hm, h, hc⟩, h'⟩
theorem EK {ρ : List (Nat × Nat)} {w : World} {M M' : bB} (wf : Wf w M) (wf' : Wf w M') (hre : Re ρ M M') (ht : ∀ x ∈ A.tags, x.1 ∈ ρ.map Prod.fst → x.2.den w M x.1) : ∀ {r : List (Nat × Cont)}, uH A ρ r → ∀ x ∈ r, x.2.den w M' x.1
  | (b, D) :: r, ⟨⟨a, C, hm, h, hc⟩, h'⟩, x, hx => by
    rcases List.mem_cons.1 hx with rfl | hx
    · exact hc w M M' wf wf' hre (ht _ (cW h) (List.mem_map.2 ⟨_, hm, rfl⟩))
    · exact EK wf wf' hre ht h' x hx
def nr (post : List (Nat × Cont)) (ρ : List (Nat × Nat)) : List (Nat × Cont) → Prop
  | [] => True
  | (a, D) :: r => (∃ b C, (a, b) ∈ ρ ∧ post.lookup b = some C ∧ qO (kg ρ) b C a D) ∧ nr post ρ r
theorem post_nil {ρ : List (Nat × Nat)} {post : List (Nat × Cont)} : nr post ρ [] := trivial
theorem cA {ρ : List (Nat × Nat)} {a b : Nat} {C D : Cont} {post r : List (Nat × Cont)} (hm : (a, b) ∈ ρ) (h : post.lookup b = some C) (hc : qO (kg ρ) b C a D) (h' : nr post ρ r) : nr post ρ ((a, D) :: r) := ⟨⟨b, C, hm, h, hc⟩, h'⟩
theorem B4 {ρ : List (Nat × Nat)} {post : List (Nat × Cont)} {w : World} {M M' : bB} (wf : Wf w M) (wf' : Wf w M') (hre : Re (kg ρ) M M') (ht : ∀ x ∈ post, x.2.den w M x.1) : ∀ {r : List (Nat × Cont)}, nr post ρ r → ∀ x ∈ r, x.1 ∈ ρ.map Prod.fst ∧ x.2.den w M' x.1
  | (a, D) :: r, ⟨⟨b, C, hm, h, hc⟩, h'⟩, x, hx => by
    rcases List.mem_cons.1 hx with rfl | hx
    · exact ⟨List.mem_map.2 ⟨_, hm, rfl⟩, hc w M M' wf wf' hre (ht _ (cW (A := ⟨fun _ => Ty.any, post⟩) h))⟩
    · exact B4 wf wf' hre ht h' x hx
theorem xq {ρ : List (Nat × Nat)} {post : List (Nat × Cont)} : ∀ {r : List (Nat × Cont)}, nr post ρ r → ∀ x ∈ r, x.1 ∈ ρ.map Prod.fst
  | (a, D) :: r, ⟨⟨b, C, hm, h, hc⟩, h'⟩, x, hx => by
    rcases List.mem_cons.1 hx with rfl | hx
    · exact List.mem_map.2 ⟨_, hm, rfl⟩
    · exact xq h' x hx
theorem xd (ρ : List (Nat × Nat)) (mv : List Nat) {f : FuncId} {F : List Nat} {pre post sets : List (Nat × Cont)} {args ss : List Ty} {res res' : Ty} (hF : fC P f F pre args post res) {dst : Option Nat} {call : Call} {rs : List Nat}
 (hrun : ∀ (a : Act) w M, Wf w M → (∀ c ∈ rs, c < fr.n → (A.slots c).den w M (a.tmps.getD c undef)) → ∃ vs : List Value, (execOp a.eval ⟨dst, .call call, t, p, e, none⟩).run P w = .ok (.enter f vs.toArray) w ∧ cB w M ss vs)
 (hok : Ny fr ρ mv F = true) (ha : mM ρ ss args) (hpre : uH A ρ pre) (hpost : nr post ρ sets) (hres : Conv (kg ρ) res res') :
 wu P fr ops ⟨dst, .call call, t, p, e, none⟩ A (Nl dst res' ρ mv sets rs) := by
 simp only [Ny, Bool.and_eq_true] at hok
 obtain ⟨hr, hmv, hmr⟩ := hok
 simp only [List.all_eq_true, Bool.or_eq_true, List.contains_iff_mem] at hmv
 simp only [List.all_eq_true, Bool.and_eq_true, Nat.ble_eq, List.any_eq_true, beq_iff_eq, Bool.not_eq_true', ← Bool.not_eq_true, List.contains_iff_mem] at hmr
 refine ⟨rfl, fun x hx => .inl (xq hpost x hx), fun u hu => ?_, fun u hu => ⟨(hmr u hu).1, (hmr u hu).2.1⟩, fun a w M wf _ hrd htg => ?_⟩
 ·obtain ⟨x, hx, rfl⟩ := List.mem_map.1 hu
  exact (jo hr x hx).1
 rw [if_pos (by simp [Region.wanted])]
 obtain ⟨vs, hrun, hd⟩ := hrun a w M wf hrd
 have wfg := F0 hr wf
 have hc := hF.2 w _ vs wfg (lg wf wfg (BV hr) ha hd) (EK wf wfg (BV hr) htg hpre)
 refine kH hrun ?_
 refine hc.mono fun en w' ⟨r, M', he, wf', le, hden, hp⟩ => ?_
 obtain ⟨h1, h2, h3⟩ := CS (mv := mv) hr hmv (fun u hu => by obtain ⟨x, hx, e⟩ := (hmr u hu).2.2; exact ⟨x.2, by rw [← e]; exact hx⟩) wf wf' le
 exact ⟨r, he, r, rfl, _, h1, h2, hres _ _ _ _ wf' h1 h3 hden, fun x hx => (B4 wf' h1 h3 hp hpost x hx).2⟩
theorem xU {f : FuncId} {F : List Nat} {pre post : List (Nat × Cont)} {args : List Ty} {res : Ty} (hF : fC P f F pre args post res) {dst : Option Nat} {xs : List Operand} {ats : Array TypeId} {ss : List Ty} (hx : mw A fr xs = ss) (a : Act) (w : World) (M : bB) (_ : Wf w M)
 (hrd : ∀ c ∈ xs.flatMap bw, c < fr.n → (A.slots c).den w M (a.tmps.getD c undef)) : ∃ vs : List Value, (execOp a.eval ⟨dst, .call ⟨.value (.func f), xs.toArray, ats⟩, t, p, e, none⟩).run P w = .ok (.enter f vs.toArray) w ∧ cB w M ss vs := by
 refine ⟨xs.map a.eval, ?_, hx ▸ gF hrd fun x hx c hc => List.mem_flatMap.2 ⟨x, hx, hc⟩⟩
 simp [execOp, resolve, Act.eval, Deferred.ofValue, invoke, qS hF]
theorem dI (ρ : List (Nat × Nat)) (mv : List Nat) (sets : List (Nat × Cont)) {f : FuncId} {F : List Nat} {pre post : List (Nat × Cont)} {args ss : List Ty} {res res' : Ty} (hF : fC P f F pre args post res) {dst : Option Nat} {xs : List Operand} {ats : Array TypeId}
 (hx : mw A fr xs = ss) (hok : Ny fr ρ mv F = true) (ha : mM ρ ss args) (hpre : uH A ρ pre) (hpost : nr post ρ sets) (hres : Conv (kg ρ) res res')
 (h : av P fr ops rest (A.after (Nl dst res' ρ mv sets (xs.flatMap bw))) fun A' l => K A' ((A, Nl dst res' ρ mv sets (xs.flatMap bw)) :: l)) : av P fr ops (⟨dst, .call ⟨.value (.func f), xs.toArray, ats⟩, t, p, e, none⟩ :: rest) A K :=
 ⟨_, xd ρ mv hF (xU hF hx) hok ha hpre hpost hres, h⟩
theorem wE {c : Nat} {f : FuncId} {F : List Nat} {pre post : List (Nat × Cont)} {args caps : List Ty} {res : Ty} (hc : A.op fr (.tmp c) = .jD f caps) (hF : fC P f F pre args post res) {dst : Option Nat} {xs : List Operand} {ats : Array TypeId} {ss : List Ty} (hx : mw A fr xs ++ caps = ss) (a : Act) (w : World) (M : bB) (_ : Wf w M)
 (hrd : ∀ u ∈ c :: xs.flatMap bw, u < fr.n → (A.slots u).den w M (a.tmps.getD u undef)) : ∃ vs : List Value, (execOp a.eval ⟨dst, .call ⟨.value (.tmp c), xs.toArray, ats⟩, t, p, e, none⟩).run P w = .ok (.enter f vs.toArray) w ∧ cB w M ss vs := by
 have hcv := cE (x := .tmp c) (fun u hu => by exact (List.mem_singleton.1 hu) ▸ List.mem_cons_self) hrd
 rw [hc] at hcv
 obtain ⟨cs, ec, hcs⟩ := hcv
 refine ⟨xs.map a.eval ++ cs.toList, ?_, hx ▸ eT (gF hrd fun x hx c hc => List.mem_cons_of_mem _ (List.mem_flatMap.2 ⟨x, hx, hc⟩)) hcs⟩
 simp [execOp, resolve, ec, Deferred.ofValue, invoke, qS hF]
theorem Bn (ρ : List (Nat × Nat)) (mv : List Nat) (sets : List (Nat × Cont)) {c : Nat} {f : FuncId} {F : List Nat} {pre post : List (Nat × Cont)} {args caps ss : List Ty} {res res' : Ty} (hc : A.op fr (.tmp c) = .jD f caps) (hF : fC P f F pre args post res) {dst : Option Nat} {xs : List Operand} {ats : Array TypeId}
 (hx : mw A fr xs ++ caps = ss) (hok : Ny fr ρ mv F = true) (ha : mM ρ ss args) (hpre : uH A ρ pre) (hpost : nr post ρ sets) (hres : Conv (kg ρ) res res')
 (h : av P fr ops rest (A.after (Nl dst res' ρ mv sets (c :: xs.flatMap bw))) fun A' l => K A' ((A, Nl dst res' ρ mv sets (c :: xs.flatMap bw)) :: l)) : av P fr ops (⟨dst, .call ⟨.value (.tmp c), xs.toArray, ats⟩, t, p, e, none⟩ :: rest) A K :=
 ⟨_, xd ρ mv hF (wE hc hF hx) hok ha hpre hpost hres, h⟩
end
end Go.T
namespace Go.T
open Go Go.RowKit
def eS {κ β : Type} [DecidableEq κ] : List (κ × β) → κ → Option β
  | [], _ => none
  | x :: l, k => if x.1 = k then some x.2 else eS l k
def gZ {κ β : Type} [DecidableEq κ] : List (κ × β) → κ → β → List (κ × β)
  | [], k, v => [(k, v)]
  | x :: l, k, v => if x.1 = k then (k, v) :: l else x :: gZ l k v
theorem yQ {κ β : Type} [DecidableEq κ] (l : List (κ × β)) (k : κ) (v : β) (k' : κ) : eS (gZ l k v) k' = if k = k' then some v else eS l k' := by
  induction l with
  | nil => simp [gZ, eS]
  | cons x l ih =>
    simp only [gZ]
    by_cases h : x.1 = k
    · subst h; simp only [if_true, eS]; by_cases h2 : x.1 = k' <;> simp [h2]
    · rw [if_neg h]; simp only [eS, ih]
      by_cases h2 : x.1 = k'
      · subst h2; rw [if_pos rfl, if_pos rfl, if_neg (fun e => h e.symm)]
      · rw [if_neg h2, if_neg h2]
structure xV (P : Program) (kt : TypeId) (κ : Type) [DecidableEq κ] where
  enc : κ → Value
  find : ∀ (k : κ) (ks : List κ) (es : List MapEntry) (w : World), es.map (·.key) = ks.map enc →
    (Instr.findKey kt (enc k) es).run P w = .ok ((ks.findIdx? (fun x => decide (x = k))).bind fun i => (es[i]?).map fun e => (i, e.val)) w
  check : ∀ (b : Bool) (k : κ) (w : World), (Instr.checkKey b 10000 kt (enc k)).run P w = .ok () w
  same : ∀ k, Instr.sameBits 10000 (enc k) (enc k) = true
theorem td (kt : IntKind) (k : Int) : ∀ (ks : List Int) (es : List MapEntry) (i : Nat), es.map (·.key) = ks.map (Value.int kt) →
    Instr.findNow (.int kt) (.int kt k) es i = some ((ks.findIdx? (fun x => decide (x = k))).bind fun j => (es[j]?).map fun e => (i + j, e.val))
  | [], [], i, _ => rfl
  | [], e :: es, i, h => by cases h
  | x :: ks, [], i, h => by cases h
  | x :: ks, e :: es, i, h => by
    simp only [List.map_cons, List.cons.injEq] at h
    obtain ⟨h1, h2⟩ := h
    rw [Instr.findNow, h1]
    simp only [Instr.sameNow, if_true]
    by_cases hx : x = k
    · subst hx; simp [List.findIdx?_cons]
    · have hb : (k == x) = false := by rw [beq_eq_false_iff_ne]; exact fun e => hx e.symm
      rw [hb, td kt k ks es (i + 1) h2]
      simp only [List.findIdx?_cons, decide_eq_false hx, Bool.false_eq_true, if_false]
      cases (ks.findIdx? fun x => decide (x = k)) with
      | none => rfl
      | some j => simp [Nat.add_assoc, Nat.add_comm]; rw [show j + (i + 1) = i + (j + 1) from by omega]
theorem Eg {P : Program} (kt : TypeId) (q : IntKind) (h : P.underlying kt = some (.int q)) (b : Bool) (k : Int) (n : Nat) (w : World) : (Instr.checkKey b (n + 1) kt (.int q k)).run P w = .ok () w := by simp [Instr.checkKey, underlying, h]
theorem Gy (q : IntKind) (k : Int) (n : Nat) : Instr.sameBits n (.int q k) (.int q k) = true := by cases n <;> simp [Instr.sameBits]
def MF (P : Program) (kt : TypeId) (q : IntKind) (h : P.underlying kt = some (.int q)) : xV P kt Int where
  enc := Value.int q
  find k ks es w he := by
    have := td q k ks es 0 he
    simp [Instr.findKey, underlying, h, this]
  check b k w := Eg kt q h b k 9999 w
  same k := Gy q k 10000
section
variable {κ β : Type} [DecidableEq κ]
def yI (enc : κ → Value) (vt : β → Ty) (kvs : List (κ × β)) (w : World) (M : bB) (b : Nat) : Prop :=
  ∃ es clock, w.heap[b]? = some (.map es clock) ∧ es.toList.map (·.key) = kvs.map (fun x => enc x.1) ∧ cB w M (kvs.map fun x => vt x.2) (es.toList.map (·.val))
theorem qx {enc : κ → Value} {vt : β → Ty} (hv : ∀ v, (vt v).deps = [] ∧ (vt v).cdeps = []) {kvs : List (κ × β)} {S K : Nat → Prop} {w w' : World} {M M' : bB} {b : Nat} (le : Le S K w M w' M') (hb : w'.heap[b]? = w.heap[b]?) (h : yI enc vt kvs w M b) : yI enc vt kvs w' M' b := by
 have _ := (inferInstance : DecidableEq κ)
 obtain ⟨es, clock, h1, h2, h3⟩ := h
 refine ⟨es, clock, hb.trans h1, h2, bQ le (fun u hu => ?_) (fun u hu => ?_) h3⟩
 ·simp only [cC, List.mem_flatMap, List.mem_map] at hu
  obtain ⟨t, ⟨x, _, rfl⟩, hu⟩ := hu
  rw [(hv x.2).1] at hu; cases hu
 simp only [bX, List.mem_flatMap, List.mem_map] at hu
 obtain ⟨t, ⟨x, _, rfl⟩, hu⟩ := hu
 rw [(hv x.2).2] at hu; cases hu
structure VT (β : Type) where
  ty : β → Ty
  nodeps : ∀ v, (ty v).deps = [] ∧ (ty v).cdeps = []
def iY (enc : κ → Value) (V : VT β) (kvs : List (κ × β)) (w : World) (M : bB) (t : Nat) : Prop := ∃ b, M b = some t ∧ yI enc V.ty kvs w M b
def Cont.mp (enc : κ → Value) (V : VT β) (kvs : List (κ × β)) : Cont :=
  { den := iY enc V kvs
    mono := fun le _ _ hs hk ⟨b, h1, h2⟩ => let ⟨h3, h4⟩ := le.own b _ h1 hk; ⟨b, h3, qx V.nodeps le (h4 hs) h2⟩ }
theorem Cont.vg {enc : κ → Value} {V : VT β} {k1 k2 : List (κ × β)} (h : k1 = k2) : (Cont.mp enc V k1).Sub (Cont.mp enc V k2) := by subst h; exact Cont.aF _
def qW (tg : Nat) (_ : World) (M : bB) (v : Value) : Prop := ∃ b, v = .map (some b) ∧ M b = some tg
def Ty.mp (tg : Nat) : Ty := ⟨qW tg, [tg], [], fun le hk _ ⟨b, e, h⟩ => ⟨b, e, (le.own b tg h (hk tg (by simp))).1⟩, true, fun _ ⟨_, e, _⟩ => e ▸ rfl⟩
def qc (enc : κ → Value) (V : VT β) (kvs : List (κ × β)) (w : World) (M : bB) (v : Value) : Prop := ∃ b, v = .map (some b) ∧ M b = none ∧ b < w.heap.size ∧ yI enc V.ty kvs w M b
def Ty.pm (enc : κ → Value) (V : VT β) (kvs : List (κ × β)) : Ty := ⟨qc enc V kvs, [], [], fun le _ _ ⟨b, e, h, hb, h2⟩ => let ⟨h3, h4⟩ := le.oM b hb h; ⟨b, e, h3, Nat.lt_of_lt_of_le hb le.size, qx V.nodeps le h4 h2⟩, true, fun _ ⟨_, e, _⟩ => e ▸ rfl⟩
end
section
variable {P : Program} {κ β : Type} [DecidableEq κ]
theorem oV (kvs : List (κ × β)) (k : κ) (i : Nat) (h : (kvs.map Prod.fst).findIdx? (fun x => decide (x = k)) = some i) : ∃ v, kvs[i]? = some (k, v) ∧ eS kvs k = some v ∧ ∀ z, gZ kvs k z = kvs.set i (k, z) := by
  induction kvs generalizing i with
  | nil => cases h
  | cons x l ih =>
    rw [List.map_cons, List.findIdx?_cons] at h
    by_cases hx : x.1 = k
    · subst hx
      simp at h; subst h
      exact ⟨x.2, by simp, by simp [eS], fun z => by simp [gZ]⟩
    · rw [decide_eq_false hx] at h
      simp only [Bool.false_eq_true, if_false, Option.map_eq_some_iff] at h
      obtain ⟨j, hj, rfl⟩ := h
      obtain ⟨v, h1, h2, h3⟩ := ih j hj
      exact ⟨v, by simpa using h1, by simp [eS, hx, h2], fun z => by simp [gZ, hx, h3]⟩
theorem pY (kvs : List (κ × β)) (k : κ) (h : (kvs.map Prod.fst).findIdx? (fun x => decide (x = k)) = none) : eS kvs k = none ∧ ∀ z, gZ kvs k z = kvs ++ [(k, z)] := by
  induction kvs with
  | nil => exact ⟨rfl, fun _ => rfl⟩
  | cons x l ih =>
    rw [List.map_cons, List.findIdx?_cons] at h
    by_cases hx : x.1 = k
    · simp [hx] at h
    · rw [decide_eq_false hx] at h
      simp only [Bool.false_eq_true, if_false, Option.map_eq_none_iff] at h
      obtain ⟨h1, h2⟩ := ih h
      exact ⟨by simp [eS, hx, h1], fun z => by simp [gZ, hx, h2]⟩
theorem sE {kt : TypeId} (KK : xV P kt κ) {vt : β → Ty} {kvs : List (κ × β)} {w : World} {M : bB} {es : Array MapEntry} (h2 : es.toList.map (·.key) = kvs.map (fun x => KK.enc x.1)) (h3 : cB w M (kvs.map fun x => vt x.2) (es.toList.map (·.val))) (k : κ) :
    (∃ i v e, (kvs.map Prod.fst).findIdx? (fun x => decide (x = k)) = some i ∧ eS kvs k = some v ∧ es[i]? = some e ∧ e.key = KK.enc k ∧ (vt v).den w M e.val ∧ (Instr.findKey kt (KK.enc k) es.toList).run P w = .ok (some (i, e.val)) w) ∨
    ((kvs.map Prod.fst).findIdx? (fun x => decide (x = k)) = none ∧ eS kvs k = none ∧ (Instr.findKey kt (KK.enc k) es.toList).run P w = .ok none w) := by
  have hf := KK.find k (kvs.map Prod.fst) es.toList w (by rw [h2, List.map_map]; rfl)
  cases hi : (kvs.map Prod.fst).findIdx? (fun x => decide (x = k)) with
  | none => right; rw [hi] at hf; exact ⟨rfl, (pY kvs k hi).1, hf⟩
  | some i =>
    left
    rw [hi] at hf
    obtain ⟨v, hv, hg, _⟩ := oV kvs k i hi
    have hl : i < es.toList.length := by
      have := congrArg List.length h2
      rw [List.length_map, List.length_map] at this
      rw [this]; exact (List.getElem?_eq_some_iff.1 hv).1
    obtain ⟨u, hu, hd⟩ := dG h3 i (vt v) (by rw [List.getElem?_map, hv]; rfl)
    rw [List.getElem?_map, List.getElem?_eq_getElem hl] at hu
    injection hu with hu
    have hk := congrArg (fun l : List Value => l[i]?) h2
    simp only [List.getElem?_map, hv, List.getElem?_eq_getElem hl, Option.map_some] at hk
    injection hk with hk
    refine ⟨i, v, es.toList[i], rfl, hg, ?_, hk, hu ▸ hd, ?_⟩
    · rw [← Array.getElem?_toList, List.getElem?_eq_getElem hl]
    · rw [hf]; show Result.ok ((es.toList[i]?).map _) w = _; rw [List.getElem?_eq_getElem hl]; rfl
end
def zeroOf (P : Program) (t : TypeId) : Option Value := (P.info? t).bind (·.zero)
theorem vO {P : Program} {t : TypeId} {z : Value} (h : zeroOf P t = some z) (w : World) : (zeroValue t).run P w = .ok z w := by
  unfold zeroOf at h
  cases hi : P.info? t with
  | none => rw [hi] at h; cases h
  | some i =>
    rw [hi] at h
    have h' : i.zero = some z := h
    simp [zeroValue, typeInfo, hi, h']
def mapOf (P : Program) (t : TypeId) : Option (TypeId × TypeId) := match P.underlying t with | some (.map k e) => some (k, e) | _ => none
theorem p6 {P : Program} {t k e : TypeId} (h : mapOf P t = some (k, e)) : P.underlying t = some (.map k e) := by
 unfold mapOf at h
 split at h
 ·rename_i k' e' hu; injection h with h; injection h with h1 h2; subst h1; subst h2; exact hu
 cases h
section
variable {P : Program} {fr : Fr} {ops : Array Oper} {A : As} {rest : List Oper} {K : As → List (As × Fx) → Prop} {d : Nat} {t mt kt et : TypeId} {p : String} {e : Array Edge}
variable {κ β : Type} [DecidableEq κ]
theorem E4 (enc : κ → Value) (V : VT β) (hm : mapOf P mt = some (kt, et)) (hp : fr.pass.contains (d + 1) = false)
 (h : av P fr ops rest (A.after { d := some d, ty := .mp (d + 1), K := [d + 1], sets := [(d + 1, .mp enc V [])] }) fun A' l' => K A' ((A, { d := some d, ty := .mp (d + 1), K := [d + 1], sets := [(d + 1, .mp enc V [])] }) :: l')) :
 av P fr ops (⟨some d, .makeMap mt none, t, p, e, none⟩ :: rest) A K := by
 refine ⟨_, ⟨rfl, (by simp), (by simp), (fun u hu => ?_), fun a w M wf _ _ _ => ?_⟩, h⟩
 ·rw [List.mem_singleton.1 hu]; exact ⟨by omega, by simpa using hp⟩
 rw [if_pos (by simp [Region.wanted])]
 have hrun : (execOp a.eval ⟨some d, .makeMap mt none, t, p, e, none⟩).run P w = .ok (.value (.map (some w.heap.size))) { w with heap := w.heap.push (.map #[] 0) } := by
  simp [execOp, Instr.makeMap, newObj, Sem.run]
 refine oY hrun ?_
 refine ⟨_, rfl, fun b => if b = w.heap.size then some (d + 1) else if M b = some (d + 1) then none else M b, ⟨fun b u hb => ?_, fun b b' u ht1 hb hb' => ?_⟩, ⟨by simp, rfl, rfl, rfl, fun b hlt hm => ⟨?_, ?_⟩, fun b u hm hk => ⟨?_, fun _ => ?_⟩⟩, ⟨_, rfl, by simp⟩, fun x hx => ?_⟩
 ·simp only [Array.size_push]
  split at hb
  ·omega
  split at hb
  ·cases hb
  have := wf.lt b u hb; omega
 ·by_cases h1 : b = w.heap.size <;> by_cases h2 : b' = w.heap.size
  ·rw [h1, h2]
  ·exfalso
   simp only [h1, h2, if_true, if_false] at hb hb'
   injection hb with hb
   split at hb'
   ·cases hb'
   rename_i hn; rw [← hb] at hb'; exact hn hb'
  ·exfalso
   simp only [h1, h2, if_true, if_false] at hb hb'
   injection hb' with hb'
   split at hb
   ·cases hb
   rename_i hn; rw [← hb'] at hb; exact hn hb
  simp only [h1, h2, if_false] at hb hb'
  split at hb
  ·cases hb
  split at hb'
  ·cases hb'
  exact wf.inj b b' u ht1 hb hb'
 ·rw [if_neg (by omega), if_neg (by rw [hm]; simp)]; exact hm
 ·simp [Array.getElem?_push]; intro h; omega
 ·have hlt := wf.lt b u hm
  rw [if_neg (by omega), if_neg (by rw [hm]; intro h; injection h with h; exact hk (by simp [h]))]; exact hm
 ·have hlt := wf.lt b u hm
  simp [Array.getElem?_push]; intro h; omega
 rw [List.mem_singleton.1 hx]
 exact ⟨w.heap.size, by simp, #[], 0, by simp, rfl, trivial⟩
theorem q6 {w : World} {M : bB} {b : Nat} (KK : xV P kt κ) (V : VT β) {kvs : List (κ × β)} {z0 : β} {zv : Value} (hm : mapOf P mt = some (kt, et)) (hz : zeroOf P et = some zv) (hzd : (V.ty z0).den w M zv) (h : yI KK.enc V.ty kvs w M b) (k : κ) :
 (∃ v, (Instr.lookup mt (.map (some b)) (KK.enc k) false).run P w = .ok v w ∧ (V.ty ((eS kvs k).getD z0)).den w M v) ∧
 ∃ v, (Instr.lookup mt (.map (some b)) (KK.enc k) true).run P w = .ok (.tuple #[v, .bool (eS kvs k).isSome]) w ∧ (V.ty ((eS kvs k).getD z0)).den w M v := by
 obtain ⟨es, clock, h1, h2, h3⟩ := h
 have hu := p6 hm
 have hzr := vO hz
 rcases sE KK h2 h3 k with ⟨i, v, en, _, hg, _, _, hd, hf⟩ | ⟨_, hg, hf⟩
 ·rw [hg]
  refine ⟨⟨en.val, ?_, hd⟩, en.val, ?_, hd⟩ <;> simp [Instr.lookup, underlying, hu, getObj, Sem.run, h1, KK.check, hf]
 rw [hg]
 refine ⟨⟨zv, ?_, hzd⟩, zv, ?_, hzd⟩ <;> simp [Instr.lookup, underlying, hu, getObj, Sem.run, h1, KK.check, hf, hzr]
theorem HR {x : Operand} {tg : Nat} {enc : κ → Value} {V : VT β} {kvs : List (κ × β)} (hx : A.op fr x = .mp tg) (hc : A.tag tg = some (.mp enc V kvs)) (h1 : fN tg) {a : Act} {w : World} {M : bB} {rs : List Nat} (wf : Wf w M) (hr : ∀ c ∈ bw x, c ∈ rs) (hrd : ∀ c ∈ rs, c < fr.n → (A.slots c).den w M (a.tmps.getD c undef)) (htg : ∀ y ∈ A.tags, y.1 ∈ [tg] → y.2.den w M y.1) :
 ∃ b, a.eval x = .map (some b) ∧ M b = some tg ∧ yI enc V.ty kvs w M b := by
 have hxd := cE hr hrd
 rw [hx] at hxd
 obtain ⟨b, e1, e2⟩ := hxd
 obtain ⟨b', h2, h3⟩ := htg _ (cW hc) (by simp)
 obtain ⟨u, rfl⟩ : ∃ u, tg = u + 1 := ⟨tg - 1, by omega⟩
 have : b = b' := wf.inj b b' u (by omega) e2 h2
 subst this
 exact ⟨b, e1, e2, h3⟩
def tj (kty : Ty) (v : Value) : Prop := ∀ w M x, kty.den w M x → x = v
theorem J6 {q : IntKind} {n : Int} : tj (.int q n) (.int q n) := fun _ _ _ h => h
theorem vw {x y : Operand} {tg : Nat} {kty : Ty} {k : κ} (KK : xV P kt κ) {V : VT β} {kvs : List (κ × β)} {z0 : β} {zv : Value} (hx : A.op fr x = .mp tg) (hc : A.tag tg = some (.mp KK.enc V kvs)) (h1 : fN tg) (hy : A.op fr y = kty) (hk : tj kty (KK.enc k)) (hm : mapOf P mt = some (kt, et)) (hz : zeroOf P et = some zv) (hzd : ∀ w M, (V.ty z0).den w M zv)
 (h : av P fr ops rest (A.set d (V.ty ((eS kvs k).getD z0))) fun A' l' => K A' ((A, { d := some d, ty := V.ty ((eS kvs k).getD z0), rs := bw x ++ bw y, rt := [tg] }) :: l')) :
 av P fr ops (⟨some d, .lookup mt x y false, t, p, e, none⟩ :: rest) A K :=
 bE (bL rfl rfl fun a w M wf hrd htg => by
  obtain ⟨b, e1, _, h3⟩ := HR hx hc h1 wf (fun c hc => List.mem_append_left _ hc) hrd htg
  have hyd := cE (fun c hc => List.mem_append_right (bw x) hc) hrd
  rw [hy] at hyd
  obtain ⟨v, hv, hd⟩ := (q6 KK V hm hz (hzd w M) h3 k).1
  refine ⟨v, ?_, hd⟩
  simp only [execOp, e1, hk _ _ _ hyd]
  simp [hv]) h
theorem x7 {x y : Operand} {tg : Nat} {kty : Ty} {k : κ} (KK : xV P kt κ) {V : VT β} {kvs : List (κ × β)} {z0 : β} {zv : Value} (hx : A.op fr x = .mp tg) (hc : A.tag tg = some (.mp KK.enc V kvs)) (h1 : fN tg) (hy : A.op fr y = kty) (hk : tj kty (KK.enc k)) (hm : mapOf P mt = some (kt, et)) (hz : zeroOf P et = some zv) (hzd : ∀ w M, (V.ty z0).den w M zv)
 (h : av P fr ops rest (A.set d (.kD [V.ty ((eS kvs k).getD z0), .bool (eS kvs k).isSome])) fun A' l' => K A' ((A, { d := some d, ty := .kD [V.ty ((eS kvs k).getD z0), .bool (eS kvs k).isSome], rs := bw x ++ bw y, rt := [tg] }) :: l')) :
 av P fr ops (⟨some d, .lookup mt x y true, t, p, e, none⟩ :: rest) A K :=
 bE (bL rfl rfl fun a w M wf hrd htg => by
  obtain ⟨b, e1, _, h3⟩ := HR hx hc h1 wf (fun c hc => List.mem_append_left _ hc) hrd htg
  have hyd := cE (fun c hc => List.mem_append_right (bw x) hc) hrd
  rw [hy] at hyd
  obtain ⟨v, hv, hd⟩ := (q6 KK V hm hz (hzd w M) h3 k).2
  refine ⟨.tuple #[v, .bool (eS kvs k).isSome], ?_, #[v, .bool (eS kvs k).isSome], rfl, hd, rfl, trivial⟩
  simp only [execOp, e1, hk _ _ _ hyd]
  simp [hv]) h
theorem y4 {x y : Operand} {kty : Ty} {k : κ} (KK : xV P kt κ) {V : VT β} {kvs : List (κ × β)} {z0 : β} {zv : Value} (hx : A.op fr x = .pm KK.enc V kvs) (hy : A.op fr y = kty) (hk : tj kty (KK.enc k)) (hm : mapOf P mt = some (kt, et)) (hz : zeroOf P et = some zv) (hzd : ∀ w M, (V.ty z0).den w M zv)
 (h : av P fr ops rest (A.set d (V.ty ((eS kvs k).getD z0))) fun A' l' => K A' ((A, { d := some d, ty := V.ty ((eS kvs k).getD z0), rs := bw x ++ bw y }) :: l')) :
 av P fr ops (⟨some d, .lookup mt x y false, t, p, e, none⟩ :: rest) A K :=
 bE (bL (rt := []) rfl rfl fun a w M wf hrd _ => by
  have hxd := cE (fun c hc => List.mem_append_left (bw y) hc) hrd
  rw [hx] at hxd
  obtain ⟨b, e1, _, _, h3⟩ := hxd
  have hyd := cE (fun c hc => List.mem_append_right (bw x) hc) hrd
  rw [hy] at hyd
  obtain ⟨v, hv, hd⟩ := (q6 KK V hm hz (hzd w M) h3 k).1
  refine ⟨v, ?_, hd⟩
  simp only [execOp, e1, hk _ _ _ hyd]
  simp [hv]) h
theorem BL {x y z : Operand} {tg : Nat} {kty vty : Ty} {k : κ} {v : β} (KK : xV P kt κ) {V : VT β} {kvs : List (κ × β)} (hx : A.op fr x = .mp tg) (hc : A.tag tg = some (.mp KK.enc V kvs)) (h1 : fN tg) (hy : A.op fr y = kty) (hk : tj kty (KK.enc k)) (hz : A.op fr z = vty) (hv : vty = V.ty v) (hm : mapOf P mt = some (kt, et))
 (h : av P fr ops rest (A.after { d := none, S := [tg], sets := [(tg, .mp KK.enc V (gZ kvs k v))], rs := bw x ++ (bw y ++ bw z), rt := [tg] }) fun A' l' => K A' ((A, { d := none, S := [tg], sets := [(tg, .mp KK.enc V (gZ kvs k v))], rs := bw x ++ (bw y ++ bw z), rt := [tg] }) :: l')) :
 av P fr ops (⟨none, .mapUpdate mt x y z, t, p, e, none⟩ :: rest) A K := by
 subst hv
 refine ⟨_, ⟨rfl, (fun x hx => .inl (by rw [List.mem_singleton.1 hx]; exact List.mem_singleton.2 rfl)), (fun u hu => by rw [List.mem_singleton.1 hu]; exact h1.1), (by simp), fun a w M wf _ hrd htg => ?_⟩, h⟩
 rw [if_pos (by simp [Region.wanted])]
 obtain ⟨b, e1, e2, es, clock, h3, h4, h5⟩ := HR hx hc h1 wf (fun c hc => List.mem_append_left _ hc) hrd htg
 have hyd := cE (fun c hc => List.mem_append_right (bw x) (List.mem_append_left (bw z) hc)) hrd
 have hzd := cE (fun c hc => List.mem_append_right (bw x) (List.mem_append_right (bw y) hc)) hrd
 rw [hy] at hyd
 rw [hz] at hzd
 have hu := p6 hm
 have hblt : b < w.heap.size := wf.lt b _ e2
 -- whatever is put there
 have fin : ∀ (es' : Array MapEntry) (clock' : Nat), es'.toList.map (·.key) = (gZ kvs k v).map (fun x => KK.enc x.1) → cB w M ((gZ kvs k v).map fun x => V.ty x.2) (es'.toList.map (·.val)) →
  (Instr.mapUpdate mt (.map (some b)) (KK.enc k) (a.eval z)).run P w = .ok () { w with heap := w.heap.setIfInBounds b (.map es' clock') } →
  Oper.wpIn fr.kd.iq 0 P ⟨none, .mapUpdate mt x y z, t, p, e, none⟩ a w (fun a' w' => ∃ v', a' = a.put none v' ∧ Fx.left { d := none, S := [tg], sets := [(tg, .mp KK.enc V (gZ kvs k v))], rs := bw x ++ (bw y ++ bw z), rt := [tg] } w M w' v') (fun _ _ _ => False) := by
  intro es' clock' hk' hd' hrun
  have hr : (execOp a.eval ⟨none, .mapUpdate mt x y z, t, p, e, none⟩).run P w = .ok .skip { w with heap := w.heap.setIfInBounds b (.map es' clock') } := by
   simp only [execOp, e1, hk _ _ _ hyd]
   simp [hrun]
  refine vV hr ?_
  have le : Le (· ∈ [tg]) (· ∈ ([] : List Nat)) w M { w with heap := w.heap.setIfInBounds b (.map es' clock') } M := by
   refine ⟨by simp, rfl, rfl, rfl, fun b2 hlt hm2 => ⟨hm2, ?_⟩, fun b2 u hm2 _ => ⟨hm2, fun hs => ?_⟩⟩
   ·have : b ≠ b2 := fun h => by subst h; rw [e2] at hm2; cases hm2
    simp [Array.getElem?_setIfInBounds, this]
   have : b ≠ b2 := fun h => by subst h; rw [e2] at hm2; injection hm2 with hm2; exact hs (by simp [hm2])
   simp [Array.getElem?_setIfInBounds, this]
  refine ⟨undef, rfl, M, ⟨fun b2 u h => by simpa using wf.lt b2 u h, wf.inj⟩, le, trivial, fun x hx => ?_⟩
  rw [List.mem_singleton.1 hx]
  refine ⟨b, e2, es', clock', by simp [hblt], hk', ?_⟩
  refine bQ le (fun _ _ => by simp) (fun u hu => ?_) hd'
  simp only [bX, List.mem_flatMap, List.mem_map] at hu
  obtain ⟨t', ⟨x', _, rfl⟩, hu⟩ := hu
  rw [(V.nodeps x'.2).2] at hu; cases hu
 rcases sE KK h4 h5 k with ⟨i, v0, en, hi, hg, hen, hkey, hd, hf⟩ | ⟨hi, hg, hf⟩
 ·obtain ⟨v1, hv1, _, hput⟩ := oV kvs k i hi
  have hil : i < es.size := (Array.getElem?_eq_some_iff.1 hen).1
  refine fin (es.modify i fun e => { e with key := KK.enc k, val := a.eval z }) clock ?_ ?_ ?_
  ·rw [hput, List.map_set]
   have : (es.modify i fun e => { e with key := KK.enc k, val := a.eval z }).toList = es.toList.set i { en with key := KK.enc k, val := a.eval z } := by
    rw [Array.toList_modify, List.modify_eq_set, Array.getElem?_toList, hen]; rfl
   rw [this, List.map_set, h4]
  ·rw [hput, List.map_set]
   have : (es.modify i fun e => { e with key := KK.enc k, val := a.eval z }).toList = es.toList.set i { en with key := KK.enc k, val := a.eval z } := by
    rw [Array.toList_modify, List.modify_eq_set, Array.getElem?_toList, hen]; rfl
   rw [this, List.map_set]
   exact lR h5 hzd
  simp [Instr.mapUpdate, underlying, hu, getObj, setObj, Sem.run, h3, KK.check, hf, hen, hkey, Instr.keyThatStays, KK.same]
 obtain ⟨_, hput⟩ := pY kvs k hi
 refine fin (es.push { key := KK.enc k, val := a.eval z, born := clock }) (clock + 1) ?_ ?_ ?_
 ·rw [hput]; simp [h4]
 ·rw [hput]; simp only [Array.toList_push, List.map_append, List.map_cons, List.map_nil]
  exact eT h5 ⟨hzd, trivial⟩
 simp [Instr.mapUpdate, underlying, hu, getObj, setObj, Sem.run, h3, KK.check, hf]
end
section
variable {P : Program} {fr : Fr} {A : As} {Q : Exit → Act → World → Prop} {c : Code} {κ β : Type} [DecidableEq κ]
theorem Lq {enc : κ → Value} {V : VT β} {kvs : List (κ × β)} {tg s : Nat} (hx : A.slots s = .mp tg) (hc : A.tag tg = some (.mp enc V kvs)) (h1 : fN tg) : ya A tg s (.pm enc V kvs) := by
 intro w M v wf ht hv
 rw [hx] at hv
 obtain ⟨b, e1, e2⟩ := hv
 obtain ⟨b', h2, h3⟩ := ht _ (cW hc)
 obtain ⟨u, rfl⟩ : ∃ u, tg = u + 1 := ⟨tg - 1, by omega⟩
 have : b = b' := wf.inj b b' u (by omega) e2 h2
 subst this
 exact ⟨b, e1, by simp [dV, e2], wf.lt b _ e2, qx V.nodeps (iN (tg := u + 1)) rfl h3⟩
end
end Go.T
namespace Go.Proofs.YtelbollidfdcjaaGreat
open Go Go.T
def fidx {α : Type} (p : α → Bool) (l : List α) : Int := match l.findIdx? p with | some i => (i : Int) | none => -1
theorem gk {α : Type} {p : α → Bool} {l : List α} {k : Nat} (hk : k < l.length) (h : ∀ x ∈ l.take k, p x = false) (hp : p l[k] = true) : fidx p l = k := by
 have : l.findIdx? p = some k := by
  rw [List.findIdx?_eq_some_iff_getElem]
  refine ⟨hk, hp, fun j hj => ?_⟩
  have := h l[j] (by rw [List.mem_take_iff_getElem]; exact ⟨j, by omega, rfl⟩)
  simp [this]
 simp [fidx, this]
theorem iP {α : Type} {p : α → Bool} {l : List α} (h : ∀ x ∈ l, p x = false) : fidx p l = -1 := by
 have : l.findIdx? p = none := by simpa using h
 simp [fidx, this]
theorem nP {α : Type} (p : α → Bool) (l : List α) : decide (0 ≤ fidx p l) = l.any p := by
  unfold fidx
  cases h : l.findIdx? p with
  | none =>
    rw [List.findIdx?_eq_none_iff] at h
    have : l.any p = false := by simpa using h
    rw [this]; rfl
  | some i =>
    have : l.any p = true := by
      rw [List.findIdx?_eq_some_iff_getElem] at h
      obtain ⟨hi, hp, _⟩ := h
      rw [List.any_eq_true]; exact ⟨_, List.getElem_mem hi, hp⟩
    rw [this]; simp
def qZ (n lo hi : Int) : Bool := decide (n ≥ lo) && decide (n ≤ hi)
def je (n lo hi : Int) : Bool := decide (n < lo) || decide (n > hi)
theorem dA {n lo hi : Int} : qZ n lo hi = true ↔ lo ≤ n ∧ n ≤ hi := by unfold qZ; simp
theorem ng {b : Bool} (h : b = false) : ¬ b = true := by rw [h]; decide
theorem oA {α : Type} [Inhabited α] {l : List α} {x : α} (h : x ∈ l) : ∃ m, m < l.length ∧ x = nth l m := by
 obtain ⟨m, hm, e⟩ := List.getElem_of_mem h
 exact ⟨m, hm, by rw [iD hm]; exact e.symm⟩
theorem mI : ∀ {n : Nat} {l : List Nat}, l.Nodup → (∀ y ∈ l, y < n) → l.length ≤ n
  | 0, l, _, hr => by
    cases l with
    | nil => simp
    | cons a _ => exact absurd (hr a List.mem_cons_self) (by omega)
  | n + 1, l, hn, hr => by
    by_cases h : n ∈ l
    · have h1 := List.length_erase_of_mem h
      have h2 := mI (n := n) (l := l.erase n) (hn.erase n) fun y hy => by
        have h3 := (hn.mem_erase_iff (a := y) (b := n)).1 hy
        have := hr y h3.2
        have := h3.1
        omega
      omega
    · have h2 := mI (n := n) (l := l) hn fun y hy => by
        have := hr y hy
        have : y ≠ n := fun e => h (e ▸ hy)
        omega
      omega
theorem jd {α : Type} [Inhabited α] {l : List α} {i j : Nat} {v : α} (h : j < l.length) : nth (l.set i v) j = if i = j then v else nth l j := by
 unfold nth
 rw [List.getD_eq_getElem?_getD, List.getD_eq_getElem?_getD, List.getElem?_set]
 by_cases e : i = j
 ·subst e; rw [if_pos rfl, if_pos rfl, if_pos h]; rfl
 rw [if_neg e, if_neg e]
theorem yx {α : Type} : ∀ (l : List α), l = [] ∨ ∃ l' x, l = l' ++ [x]
  | [] => .inl rfl
  | x :: l => by
    rcases yx l with h | ⟨l', y, h⟩
    · subst h; exact .inr ⟨[], x, rfl⟩
    · subst h; exact .inr ⟨x :: l', y, rfl⟩
theorem Ac {α : Type} {C : List α → Prop} (h0 : C []) (h1 : ∀ l x, C l → C (l ++ [x])) : ∀ l, C l := by
  intro l
  have key : ∀ n (l : List α), l.length = n → C l := by
    intro n
    induction n with
    | zero => intro l h; rw [List.length_eq_zero_iff.1 h]; exact h0
    | succ n ih =>
      intro l h
      rcases yx l with e | ⟨l', x, e⟩
      · subst e; cases h
      · subst e; exact h1 l' x (ih l' (by simpa using h))
  exact key _ l rfl
section
variable {κ β : Type} [DecidableEq κ]
theorem qP (q : List (κ × β)) (k : κ) (v : β) (x : κ) : x ∈ (gZ q k v).map Prod.fst ↔ x = k ∨ x ∈ q.map Prod.fst := by
  induction q with
  | nil => simp [gZ]
  | cons y l ih =>
    simp only [gZ]
    by_cases h : y.1 = k
    · subst h; simp
    · rw [if_neg h]; simp only [List.map_cons, List.mem_cons, ih]
      constructor
      · rintro (h | h | h)
        · exact .inr (.inl h)
        · exact .inl h
        · exact .inr (.inr h)
      · rintro (h | h | h)
        · exact .inr (.inl h)
        · exact .inl h
        · exact .inr (.inr h)
theorem Ck (q : List (κ × β)) (k : κ) (v : β) (hn : (q.map Prod.fst).Nodup) : ((gZ q k v).map Prod.fst).Nodup := by
  induction q with
  | nil => simp [gZ]
  | cons y l ih =>
    rw [List.map_cons, List.nodup_cons] at hn
    simp only [gZ]
    by_cases h : y.1 = k
    · subst h; rw [if_pos rfl, List.map_cons, List.nodup_cons]; exact hn
    · rw [if_neg h, List.map_cons, List.nodup_cons]
      refine ⟨fun hm => ?_, ih hn.2⟩
      rcases (qP l k v y.1).1 hm with e | e
      · exact h e
      · exact hn.1 e
theorem mP {q : List (κ × β)} {k : κ} {v : β} (h : eS q k = some v) : k ∈ q.map Prod.fst := by
  induction q with
  | nil => cases h
  | cons y l ih =>
    simp only [eS] at h
    by_cases e : y.1 = k
    · subst e; simp
    · rw [if_neg e] at h; exact List.mem_cons_of_mem _ (ih h)
theorem o8 {q : List (κ × β)} {k : κ} (h : k ∈ q.map Prod.fst) : ∃ v, eS q k = some v := by
  induction q with
  | nil => cases h
  | cons y l ih =>
    simp only [eS]
    by_cases e : y.1 = k
    · exact ⟨_, if_pos e⟩
    · rw [if_neg e]; rw [List.map_cons, List.mem_cons] at h
      exact ih (h.resolve_left fun h => e h.symm)
theorem Av (q : List (κ × β)) (k : κ) (v : β) (h : eS q k = none) : (gZ q k v).length = q.length + 1 := by
  induction q with
  | nil => rfl
  | cons y l ih =>
    simp only [eS] at h
    by_cases e : y.1 = k
    · rw [if_pos e] at h; cases h
    · rw [if_neg e] at h; simp only [gZ, if_neg e, List.length_cons, ih h]
end
theorem rq {n : Nat} {l : List Int} (h : l.Nodup) (hr : ∀ y ∈ l, 0 ≤ y ∧ y < (n : Int)) : l.length ≤ n := by
 have h1 : (l.map Int.toNat).Nodup := by
  rw [List.nodup_iff_pairwise_ne, List.pairwise_map]
  refine (List.nodup_iff_pairwise_ne.1 h).imp_of_mem fun {a b} ha hb hne e => hne ?_
  have := hr a ha; have := hr b hb; omega
 have h2 := mI (n := n) h1 fun y hy => by
  obtain ⟨z, hz, rfl⟩ := List.mem_map.1 hy
  have := hr z hz; omega
 rwa [List.length_map] at h2
section
variable {σ ρ : Type} [Inhabited ρ] {step : σ → σ ⊕ ρ} {x y : σ} {r s : ρ}
def BH (step : σ → σ ⊕ ρ) : Nat → σ → Option ρ
  | 0, _ => none
  | n + 1, x => match step x with | .inl y => BH step n y | .inr r => some r
def oo (step : σ → σ ⊕ ρ) (x : σ) (r : ρ) : Prop := ∃ n, BH step n x = some r
omit [Inhabited ρ] in
theorem Bv : ∀ {n m : Nat} {x : σ}, BH step n x = some r → BH step m x = some s → r = s
  | 0, _, _, h, _ => by cases h
  | _ + 1, 0, _, _, h => by cases h
  | n + 1, m + 1, x, h, h' => by
    unfold BH at h h'
    cases e : step x with
    | inl y => rw [e] at h h'; exact Bv h h'
    | inr t => rw [e] at h h'; injection h with h; injection h' with h'; rw [← h, h']
omit [Inhabited ρ] in
theorem oo.Oe (h : oo step x r) (h' : oo step x s) : r = s := let ⟨_, h⟩ := h; let ⟨_, h'⟩ := h'; Bv h h'
noncomputable def m9 (step : σ → σ ⊕ ρ) (x : σ) : ρ := open Classical in if h : ∃ r, oo step x r then h.choose else default
theorem zu (h : oo step x r) : m9 step x = r := by
 have hx : ∃ r, oo step x r := ⟨r, h⟩
 unfold m9; rw [dif_pos hx]; exact hx.choose_spec.Oe h
omit [Inhabited ρ] in
theorem Ca (e : step x = .inr r) : oo step x r := ⟨1, by unfold BH; rw [e]⟩
theorem iJ (e : step x = .inr r) : m9 step x = r := zu (Ca e)
omit [Inhabited ρ] in
theorem wU (e : step x = .inl y) : oo step x r ↔ oo step y r := by
  constructor
  · rintro ⟨n, h⟩
    cases n with
    | zero => cases h
    | succ n => unfold BH at h; rw [e] at h; exact ⟨n, h⟩
  · rintro ⟨n, h⟩; exact ⟨n + 1, by unfold BH; rw [e]; exact h⟩
theorem gy (e : step x = .inl y) : m9 step x = m9 step y := by
 by_cases h : ∃ r, oo step y r
 ·obtain ⟨r, h⟩ := h
  rw [zu h, zu ((wU e).2 h)]
 have h' : ¬ ∃ r, oo step x r := fun ⟨r, hr⟩ => h ⟨r, (wU e).1 hr⟩
 unfold m9; rw [dif_neg h, dif_neg h']
theorem nI (I : σ → Prop) (S : ρ → Prop) (mu : σ → Nat) (h : ∀ x, I x → (∃ y, step x = .inl y ∧ I y ∧ mu y < mu x) ∨ ∃ r, step x = .inr r ∧ S r) : ∀ x, I x → S (m9 step x) := by
  have key : ∀ n x, mu x < n → I x → S (m9 step x) := by
    intro n
    induction n with
    | zero => intro x hx; omega
    | succ n ih =>
      intro x hx hI
      rcases h x hI with ⟨y, e, hy, hm⟩ | ⟨r, e, hr⟩
      · rw [gy e]; exact ih y (by omega) hy
      · rw [iJ e]; exact hr
  exact fun x hx => key _ x (Nat.lt_succ_self _) hx
end
end Go.Proofs.YtelbollidfdcjaaGreat
namespace Go.Proofs.YtelbollidfdcjaaGreat
open Go Go.T
section
variable {fl : List bp} {a : List Int} {n : Nat} {w u : Way} {c x y z by_ : Int}
def AP (fl : List bp) (a : List Int) (c : Int) (i : Nat) : List Way := (if nth a i < (nth fl i).hi ∧ (nth fl i).src = c then [⟨i, true⟩] else []) ++ (if nth a i > (nth fl i).lo ∧ (nth fl i).dst = c then [⟨i, false⟩] else [])
def bH (fl : List bp) (a : List Int) (c : Int) : List Way := (List.range fl.length).flatMap (AP fl a c)
theorem mZ : w ∈ bH fl a c ↔ Open fl a w ∧ w.gp fl = c := by
  unfold bH AP Open Way.room Way.gp
  rw [List.mem_flatMap]
  constructor
  · rintro ⟨i, hi, h⟩
    rw [List.mem_range] at hi
    rcases List.mem_append.1 h with h | h
    · split at h
      · rename_i hc; rw [List.mem_singleton.1 h]; exact ⟨⟨hi, by simp only [if_true]; omega⟩, hc.2⟩
      · cases h
    · split at h
      · rename_i hc; rw [List.mem_singleton.1 h]; exact ⟨⟨hi, by simp only [Bool.false_eq_true, if_false]; omega⟩, hc.2⟩
      · cases h
  · rintro ⟨⟨h1, h2⟩, h3⟩
    refine ⟨w.ix, List.mem_range.2 h1, ?_⟩
    obtain ⟨i, m⟩ := w
    cases m with
    | true =>
      simp only [if_true] at h2 h3
      refine List.mem_append.2 (.inl ?_)
      rw [if_pos ⟨by show nth a i < (nth fl i).hi; have : 0 < (nth fl i).hi - nth a i := h2; omega, h3⟩]; exact List.mem_singleton.2 rfl
    | false =>
      simp only [Bool.false_eq_true, if_false] at h2 h3
      refine List.mem_append.2 (.inr ?_)
      rw [if_pos ⟨by show nth a i > (nth fl i).lo; have : 0 < nth a i - (nth fl i).lo := h2; omega, h3⟩]; exact List.mem_singleton.2 rfl
theorem Aa (i : Nat) : (AP fl a c i).length ≤ 2 := by
 unfold AP; split <;> split <;> simp
theorem pF : (bH fl a c).length ≤ 2 * fl.length := by
  have key : ∀ n, ((List.range n).flatMap (AP fl a c)).length ≤ 2 * n := by
    intro n
    induction n with
    | zero => simp
    | succ n ih => rw [List.range_succ, List.flatMap_append, List.length_append, List.flatMap_singleton]; have := Aa (fl := fl) (a := a) (c := c) n; omega
  exact key _
theorem Net.way (hN : Net fl n) (h : w.ix < fl.length) : (0 ≤ w.gp fl ∧ w.gp fl < n) ∧ (0 ≤ w.fin fl ∧ w.fin fl < n) ∧ w.gp fl ≠ w.fin fl := by
 unfold Way.gp Way.fin
 have h1 := hN.src _ h
 have h2 := hN.dst _ h
 have h3 := hN.ne _ h
 cases w.more <;> simp <;> omega
def xK (w : Way) (k : Int) : Int := if w.more then k else -k
def k6 (a : List Int) (w : Way) (k : Int) : List Int := a.set w.ix (nth a w.ix + xK w k)
def dZ (a : List Int) (l : List Way) (k : Int) : List Int := l.foldl (fun a w => k6 a w k) a
theorem pN (k : Int) : (k6 a w k).length = a.length := List.length_set
theorem tJ (k : Int) : ∀ (l : List Way) (a : List Int), (dZ a l k).length = a.length
  | [], _ => rfl
  | w :: l, a => (tJ k l (k6 a w k)).trans (pN k)
theorem q5 (l : List Way) (k : Int) : dZ a (l ++ [w]) k = k6 (dZ a l k) w k := by unfold dZ; rw [List.foldl_append]; rfl
theorem j0 (h : w.ix < a.length) (i : Nat) (k : Int) : nth (k6 a w k) i = if w.ix = i then nth a i + xK w k else nth a i := by
 unfold k6
 by_cases e : i < a.length
 ·rw [jd e]; split
  ·rename_i e; subst e; rfl
  rfl
 rw [if_neg (by omega)]
 have h1 : (a.set w.ix (nth a w.ix + xK w k))[i]? = none := List.getElem?_eq_none (by rw [List.length_set]; omega)
 have h2 : a[i]? = none := List.getElem?_eq_none (by omega)
 unfold nth at *
 simp only [List.getD_eq_getElem?_getD] at *
 rw [h1, h2]
theorem C3 (hl : a.length = fl.length) (h : w.ix < fl.length) (k : Int) (c : Int) : over fl (k6 a w k) c = over fl a c + (ind (w.fin fl = c) - ind (w.gp fl = c)) * k := by
  unfold over
  have e : cg (fun i => (ind ((nth fl i).dst = c) - ind ((nth fl i).src = c)) * nth (k6 a w k) i) fl.length - cg (fun i => (ind ((nth fl i).dst = c) - ind ((nth fl i).src = c)) * nth a i) fl.length = (ind (w.fin fl = c) - ind (w.gp fl = c)) * k := by
    rw [← kR, jf h fun i _ hn => by rw [j0 (by omega), if_neg (fun e => hn e.symm)]; omega]
    rw [j0 (by omega), if_pos rfl, ← Int.mul_sub, show nth a w.ix + xK w k - nth a w.ix = xK w k by omega]
    unfold xK Way.fin Way.gp
    cases w.more with
    | true => simp
    | false => simp only [Bool.false_eq_true, if_false]; rw [Int.mul_neg, ← Int.neg_mul, Int.neg_sub]
  omega
def Trail (fl : List bp) : List Way → Int → Int → Prop
  | [], x, y => x = y
  | w :: l, x, y => w.fin fl = x ∧ Trail fl l (w.gp fl) y
theorem s9 (hl : a.length = fl.length) (k : Int) : ∀ (l : List Way) (a : List Int) (x y : Int), a.length = fl.length → (∀ w ∈ l, w.ix < fl.length) → Trail fl l x y → ∀ c, over fl (dZ a l k) c = over fl a c + (ind (x = c) - ind (y = c)) * k
  | [], a, x, y, _, _, h, c => by obtain rfl : x = y := h; simp [dZ]
  | w :: l, a, x, y, ha, hw, h, c => by
    show over fl (dZ (k6 a w k) l k) c = _
    rw [s9 hl k l _ (w.gp fl) y (by rw [pN]; exact ha) (fun u hu => hw u (List.mem_cons_of_mem _ hu)) h.2, C3 ha (hw w List.mem_cons_self), h.1]
    rw [Int.add_assoc, ← Int.add_mul]
    congr 2; omega
theorem FL (hl : a.length = fl.length) (hw : w.ix < fl.length) {k : Int} (hk : 0 ≤ k) (hne : u ≠ w) : u.room fl a ≤ u.room fl (k6 a w k) := by
 unfold Way.room
 rw [j0 (by omega)]
 by_cases e : w.ix = u.ix
 ·rw [if_pos e]
  have hm : u.more ≠ w.more := fun h => hne (by cases u; cases w; simp_all)
  unfold xK
  revert hm
  cases u.more <;> cases w.more <;> simp <;> omega
 rw [if_neg e]; exact Int.le_refl _
theorem FD (h : xP fl a) (hw : w.ix < fl.length) {k : Int} (hk : 0 ≤ k) (hr : k ≤ w.room fl a) : xP fl (k6 a w k) := by
 refine ⟨by rw [pN]; exact h.1, fun i hi => ?_⟩
 have hb := h.2 i hi
 have hl := h.1
 rw [j0 (by omega)]
 split
 ·rename_i e; subst e
  unfold Way.room at hr; unfold xK
  revert hr
  cases w.more <;> simp <;> omega
 exact hb
theorem wO {k : Int} (hk : 0 ≤ k) : ∀ (l : List Way) (a : List Int), xP fl a → l.Nodup → (∀ w ∈ l, w.ix < fl.length ∧ k ≤ w.room fl a) → xP fl (dZ a l k)
  | [], _, h, _, _ => h
  | w :: l, a, h, hn, hw => by
    rw [List.nodup_cons] at hn
    have h0 := hw w List.mem_cons_self
    refine wO hk l _ (FD h h0.1 hk h0.2) hn.2 fun u hu => ?_
    have h1 := hw u (List.mem_cons_of_mem _ hu)
    exact ⟨h1.1, Int.le_trans h1.2 (FL h.1 h0.1 hk fun e => hn.1 (by rw [← e]; exact hu))⟩
theorem Ai (hl : a.length = fl.length) (h : w.ix < fl.length) (g : Nat → Int) (k : Int) : cg (fun i => g i * nth (k6 a w k) i) fl.length = cg (fun i => g i * nth a i) fl.length + xK w (g w.ix) * k := by
  have e : cg (fun i => g i * nth (k6 a w k) i) fl.length - cg (fun i => g i * nth a i) fl.length = xK w (g w.ix) * k := by
    rw [← kR, jf h fun i _ hn => by rw [j0 (by omega), if_neg (fun e => hn e.symm)]; omega]
    rw [j0 (by omega), if_pos rfl, ← Int.mul_sub, show nth a w.ix + xK w k - nth a w.ix = xK w k by omega]
    unfold xK
    cases w.more with
    | true => simp
    | false => simp only [Bool.false_eq_true, if_false]; rw [Int.mul_neg, Int.neg_mul]
  omega
def xH (g : Nat → Int) (l : List Way) : Int := (l.map fun w => xK w (g w.ix)).sum
theorem xF (g : Nat → Int) (k : Int) : ∀ (l : List Way) (a : List Int), a.length = fl.length → (∀ w ∈ l, w.ix < fl.length) → cg (fun i => g i * nth (dZ a l k) i) fl.length = cg (fun i => g i * nth a i) fl.length + xH g l * k
  | [], a, _, _ => by simp [dZ, xH]
  | w :: l, a, ha, hw => by
    show cg (fun i => g i * nth (dZ (k6 a w k) l k) i) fl.length = _
    rw [xF g k l _ (by rw [pN]; exact ha) fun u hu => hw u (List.mem_cons_of_mem _ hu), Ai ha (hw w List.mem_cons_self)]
    unfold xH
    rw [List.map_cons, List.sum_cons, Int.add_mul]; omega
theorem At (hN : Net fl n) : cg (fun c => over fl a c) n = 0 := by
 have h := wJ (a := a) hN fun _ => 1
 rw [fE (g := fun c : Nat => over fl a c) fun c _ => Int.one_mul _] at h
 rw [h]
 exact gP fun i _ => by rw [Int.sub_self, Int.zero_mul]
theorem KQ (hN : Net fl n) (h : ∀ c : Nat, c < n → ¬ 0 < over fl a c) : Bc fl n a := by
 intro c hc
 have h0 := At (a := a) hN
 by_cases e : over fl a c = 0
 ·exact e
 have := zH (f := fun c : Nat => over fl a c) (g := fun _ => 0) hc (fun i hi => by have := h i hi; show over fl a i ≤ 0; omega) (by have := h c hc; show over fl a c < 0; omega)
 rw [h0, gP fun _ _ => rfl] at this
 omega
end
end Go.Proofs.YtelbollidfdcjaaGreat
namespace Go.Proofs.YtelbollidfdcjaaGreat
open Go Go.T
section
variable {fl : List bp} {a : List Int} {n : Nat} {s : Int} {c : Int} {w : Way}
structure qn where
  by_ : List (Int × Way)
  queue : List Int
instance : Inhabited qn := ⟨⟨[], []⟩⟩
def xM (q : List (Int × Way)) (s c : Int) : Prop := c = s ∨ c ∈ q.map Prod.fst
def uh (fl : List bp) (s : Int) (q : List (Int × Way)) (w : Way) : Bool := !(eS q (w.fin fl)).isSome && !decide (w.fin fl = s)
def uW (fl : List bp) (s : Int) (x : qn) (w : Way) : qn := if uh fl s x.by_ w = true then ⟨gZ x.by_ (w.fin fl) w, x.queue ++ [w.fin fl]⟩ else x
theorem tX {x : qn} (h : uh fl s x.by_ w = true) : uW fl s x w = ⟨gZ x.by_ (w.fin fl) w, x.queue ++ [w.fin fl]⟩ := if_pos h
theorem wN {x : qn} (h : uh fl s x.by_ w = false) : uW fl s x w = x := if_neg (by rw [h]; decide)
def ew (fl : List bp) (a : List Int) (s c : Int) (x : qn) (k : Nat) : qn := ((bH fl a c).take k).foldl (uW fl s) x
theorem nv {x : qn} {k : Nat} (hk : k < (bH fl a c).length) : ew fl a s c x (k + 1) = uW fl s (ew fl a s c x k) (nth (bH fl a c) k) := by
 unfold ew; rw [cS hk, List.foldl_append]; rfl
def w6 (fl : List bp) (a : List Int) (s : Int) (x : qn) : qn ⊕ List (Int × Way) :=
  match x.queue with
  | [] => .inr x.by_
  | c :: r => .inl (ew fl a s c ⟨x.by_, r⟩ (bH fl a c).length)
noncomputable def cM (fl : List bp) (a : List Int) (s : Int) : List (Int × Way) := m9 (w6 fl a s) ⟨[], [s]⟩
structure lZ (fl : List bp) (a : List Int) (n : Nat) (s : Int) (x : qn) (cur : Option (Int × List Way)) : Prop where
  keys : (x.by_.map Prod.fst).Nodup
  range : ∀ c ∈ x.by_.map Prod.fst, 0 ≤ c ∧ c < n
  out : s ∉ x.by_.map Prod.fst
  q : ∀ c ∈ x.queue, xM x.by_ s c
  arc : ∃ dep : Int → Nat, dep s = 0 ∧ ∀ c w, eS x.by_ c = some w → Open fl a w ∧ w.fin fl = c ∧ xM x.by_ s (w.gp fl) ∧ dep (w.gp fl) < dep c ∧ dep c ≤ x.by_.length
  done : ∀ c, xM x.by_ s c → c ∉ x.queue → ∀ w ∈ bH fl a c, xM x.by_ s (w.fin fl) ∨ ∃ r, cur = some (c, r) ∧ w ∈ r
  cur : ∀ c r, cur = some (c, r) → xM x.by_ s c ∧ ∀ w ∈ r, Open fl a w ∧ w.gp fl = c
theorem K6 (hs : 0 ≤ s ∧ s < n) : lZ fl a n s ⟨[], [s]⟩ none :=
 ⟨List.nodup_nil, (fun c h => by cases h), (fun h => by cases h), fun c h => .inl (List.mem_singleton.1 h), ⟨fun _ => 0, rfl, fun c w h => by cases h⟩,
  (fun c h hn => by
   rcases h with rfl | h
   ·exact absurd (List.mem_singleton.2 rfl) hn
   cases h), fun c r h => by cases h⟩
theorem lZ.look (hN : Net fl n) {x : qn} {r : List Way} (h : lZ fl a n s x (some (c, w :: r))) : lZ fl a n s (uW fl s x w) (some (c, r)) := by
  obtain ⟨hm, hw⟩ := h.cur c _ rfl
  obtain ⟨ho, hb⟩ := hw w List.mem_cons_self
  cases e : uh fl s x.by_ w with
  | false =>
    rw [wN e]
    have hmet : xM x.by_ s (w.fin fl) := by
      unfold uh at e
      rw [Bool.and_eq_false_iff, Bool.not_eq_false', Bool.not_eq_false', decide_eq_true_eq] at e
      rcases e with e | e
      · obtain ⟨v, hv⟩ := Option.isSome_iff_exists.1 e; exact .inr (mP hv)
      · exact .inl e
    refine ⟨h.keys, h.range, h.out, h.q, h.arc, fun c' hc hn u hu => ?_, fun c' r' e' => ?_⟩
    · rcases h.done c' hc hn u hu with h1 | ⟨r', e', hr⟩
      · exact .inl h1
      · injection e' with e'; injection e' with e1 e2; subst e1; subst e2
        rcases List.mem_cons.1 hr with rfl | hr
        · exact .inl hmet
        · exact .inr ⟨r, rfl, hr⟩
    · injection e' with e'; injection e' with e1 e2; subst e1; subst e2
      exact ⟨hm, fun u hu => hw u (List.mem_cons_of_mem _ hu)⟩
  | true =>
    rw [tX e]
    unfold uh at e
    rw [Bool.and_eq_true, Bool.not_eq_true', Bool.not_eq_true', decide_eq_false_iff_not] at e
    have hnone : eS x.by_ (w.fin fl) = none := by cases h : eS x.by_ (w.fin fl) with | none => rfl | some v => rw [h] at e; cases e.1
    have hnk : w.fin fl ∉ x.by_.map Prod.fst := fun hk => by obtain ⟨v, hv⟩ := o8 hk; rw [hnone] at hv; cases hv
    have hkeys : ∀ z, z ∈ (gZ x.by_ (w.fin fl) w).map Prod.fst ↔ z = w.fin fl ∨ z ∈ x.by_.map Prod.fst := qP x.by_ (w.fin fl) w
    have hMet : ∀ z, xM (gZ x.by_ (w.fin fl) w) s z ↔ z = w.fin fl ∨ xM x.by_ s z := fun z => by
      unfold xM; rw [hkeys]
      constructor
      · rintro (h | h | h)
        · exact .inr (.inl h)
        · exact .inl h
        · exact .inr (.inr h)
      · rintro (h | h | h)
        · exact .inr (.inl h)
        · exact .inl h
        · exact .inr (.inr h)
    have hnm : ¬ xM x.by_ s (w.fin fl) := fun h => h.elim e.2 hnk
    refine ⟨Ck _ _ _ h.keys, fun z hz => ?_, fun hs => ?_, fun z hz => ?_, ?_, fun z hz hn u hu => ?_, fun c' r' e' => ?_⟩
    · rcases (hkeys z).1 hz with rfl | hz
      · exact (hN.way ho.1).2.1
      · exact h.range z hz
    · rcases (hkeys s).1 hs with hs | hs
      · exact e.2 hs.symm
      · exact h.out hs
    · rw [hMet]
      rcases List.mem_append.1 hz with hz | hz
      · exact .inr (h.q z hz)
      · exact .inl (List.mem_singleton.1 hz)
    · obtain ⟨dep, d0, hd⟩ := h.arc
      refine ⟨fun z => if z = w.fin fl then dep c + 1 else dep z, by show (if s = w.fin fl then _ else _) = 0; rw [if_neg (fun h => e.2 h.symm)]; exact d0, fun z u hz => ?_⟩
      rw [yQ] at hz
      rw [Av _ _ _ hnone]
      have hcl : dep c ≤ x.by_.length := by
        rcases hm with rfl | hm
        · omega
        · obtain ⟨v, hv⟩ := o8 hm; exact (hd c v hv).2.2.2.2
      have hcn : c ≠ w.fin fl := fun h => hnm (by rw [← h]; exact hm)
      by_cases ez : w.fin fl = z
      · rw [if_pos ez] at hz; injection hz with hz; subst hz
        refine ⟨ho, ez, (hMet _).2 (.inr (by rw [hb]; exact hm)), ?_, ?_⟩
        · show (if w.gp fl = w.fin fl then _ else _) < if z = w.fin fl then _ else _
          rw [hb, if_neg hcn, if_pos ez.symm]; omega
        · show (if z = w.fin fl then _ else _) ≤ _
          rw [if_pos ez.symm]; omega
      · rw [if_neg ez] at hz
        obtain ⟨a1, a2, a3, a4, a5⟩ := hd z u hz
        have hbn : u.gp fl ≠ w.fin fl := fun h => hnm (by rw [← h]; exact a3)
        refine ⟨a1, a2, (hMet _).2 (.inr a3), ?_, ?_⟩
        · show (if u.gp fl = w.fin fl then _ else _) < if z = w.fin fl then _ else _
          rw [if_neg hbn, if_neg (fun h => ez h.symm)]; exact a4
        · show (if z = w.fin fl then _ else _) ≤ _
          rw [if_neg (fun h => ez h.symm)]; omega
    · have hzn : z ≠ w.fin fl := fun h => hn (List.mem_append.2 (.inr (by rw [h]; exact List.mem_singleton.2 rfl)))
      have hz' : xM x.by_ s z := ((hMet z).1 hz).resolve_left hzn
      rcases h.done z hz' (fun h => hn (List.mem_append.2 (.inl h))) u hu with h1 | ⟨r', e', hr⟩
      · exact .inl ((hMet _).2 (.inr h1))
      · injection e' with e'; injection e' with e1 e2; subst e1; subst e2
        rcases List.mem_cons.1 hr with rfl | hr
        · exact .inl ((hMet _).2 (.inl rfl))
        · exact .inr ⟨r, rfl, hr⟩
    · injection e' with e'; injection e' with e1 e2; subst e1; subst e2
      exact ⟨(hMet _).2 (.inr hm), fun u hu => hw u (List.mem_cons_of_mem _ hu)⟩
theorem lZ.fold (hN : Net fl n) {x : qn} (h : lZ fl a n s x (some (c, bH fl a c))) : ∀ k, k ≤ (bH fl a c).length → lZ fl a n s (ew fl a s c x k) (some (c, (bH fl a c).drop k))
  | 0, _ => by rw [List.drop_zero]; exact h
  | k + 1, hk => by
    have ih := lZ.fold hN h k (by omega)
    rw [nv (by omega)]
    refine lZ.look hN (w := nth (bH fl a c) k) ?_
    rw [List.drop_eq_getElem_cons (show k < (bH fl a c).length by omega)] at ih
    have e : nth (bH fl a c) k = (bH fl a c)[k] := by unfold nth; rw [List.getD_eq_getElem?_getD, List.getElem?_eq_getElem (by omega)]; rfl
    rw [e]; exact ih
theorem lZ.pop {x : qn} {r : List Int} (h : lZ fl a n s x none) (hq : x.queue = c :: r) : lZ fl a n s ⟨x.by_, r⟩ (some (c, bH fl a c)) := by
 have hc := h.q c (by rw [hq]; exact List.mem_cons_self)
 refine ⟨h.keys, h.range, h.out, fun z hz => h.q z (by rw [hq]; exact List.mem_cons_of_mem _ hz), h.arc, fun z hz hn u hu => ?_, fun c' r' e => ?_⟩
 ·by_cases ez : z = c
  ·subst ez; exact .inr ⟨_, rfl, hu⟩
  rcases h.done z hz (fun hm => by rw [hq] at hm; rcases List.mem_cons.1 hm with e | e; exact ez e; exact hn e) u hu with h1 | ⟨_, e, _⟩
  ·exact .inl h1
  cases e
 injection e with e; injection e with e1 e2; subst e1; subst e2
 exact ⟨hc, fun w hw => mZ.1 hw⟩
theorem lZ.over {x : qn} (h : lZ fl a n s x (some (c, []))) : lZ fl a n s x none :=
 ⟨h.keys, h.range, h.out, h.q, h.arc, fun z hz hn u hu => (h.done z hz hn u hu).elim .inl (fun ⟨_, e, hr⟩ => by injection e with e; injection e with _ e; subst e; cases hr), fun _ _ e => by cases e⟩
theorem lZ.qL {x : qn} {cur : Option (Int × List Way)} (h : lZ fl a n s x cur) : x.by_.length ≤ n := by
 have := rq h.keys h.range
 rwa [List.length_map] at this
def MM (n : Nat) (x : qn) : Nat := (n - x.by_.length) * 2 + x.queue.length
theorem GL {x : qn} : (uW fl s x w).by_.length ≥ x.by_.length ∧ (uW fl s x w).queue.length + x.by_.length = x.queue.length + (uW fl s x w).by_.length := by
  cases e : uh fl s x.by_ w with
  | false => rw [wN e]; exact ⟨Nat.le_refl _, rfl⟩
  | true =>
    rw [tX e]
    unfold uh at e
    rw [Bool.and_eq_true, Bool.not_eq_true'] at e
    have hnone : eS x.by_ (w.fin fl) = none := by cases h : eS x.by_ (w.fin fl) with | none => rfl | some v => rw [h] at e; cases e.1
    show (gZ _ _ _).length ≥ _ ∧ (x.queue ++ [w.fin fl]).length + _ = _ + (gZ _ _ _).length
    rw [Av _ _ _ hnone, List.length_append, List.length_singleton]; omega
theorem wZ {x : qn} : ∀ k, k ≤ (bH fl a c).length → (ew fl a s c x k).by_.length ≥ x.by_.length ∧ (ew fl a s c x k).queue.length + x.by_.length = x.queue.length + (ew fl a s c x k).by_.length
  | 0, _ => ⟨Nat.le_refl _, rfl⟩
  | k + 1, hk => by
    have h1 := wZ (x := x) k (by omega)
    rw [nv (by omega)]
    have h2 := GL (fl := fl) (s := s) (x := ew fl a s c x k) (w := nth (bH fl a c) k)
    omega
theorem vU (hN : Net fl n) {x : qn} {r : List Int} (h : lZ fl a n s x none) (hq : x.queue = c :: r) : lZ fl a n s (ew fl a s c ⟨x.by_, r⟩ (bH fl a c).length) none ∧ MM n (ew fl a s c ⟨x.by_, r⟩ (bH fl a c).length) < MM n x := by
 have h1 := (h.pop hq).fold hN _ (Nat.le_refl _)
 rw [List.drop_length] at h1
 refine ⟨h1.over, ?_⟩
 have h2 := wZ (fl := fl) (a := a) (s := s) (c := c) (x := ⟨x.by_, r⟩) _ (Nat.le_refl _)
 have h3 := h1.qL
 unfold MM
 rw [hq, List.length_cons]
 simp only at h2
 omega
structure yN (fl : List bp) (a : List Int) (n : Nat) (s : Int) (q : List (Int × Way)) : Prop where
  keys : (q.map Prod.fst).Nodup
  range : ∀ c ∈ q.map Prod.fst, 0 ≤ c ∧ c < n
  out : s ∉ q.map Prod.fst
  arc : ∃ dep : Int → Nat, dep s = 0 ∧ ∀ c w, eS q c = some w → Open fl a w ∧ w.fin fl = c ∧ xM q s (w.gp fl) ∧ dep (w.gp fl) < dep c ∧ dep c ≤ q.length
  closed : ∀ w, Open fl a w → xM q s (w.gp fl) → xM q s (w.fin fl)
theorem lZ.spec {x : qn} (h : lZ fl a n s x none) (hq : x.queue = []) : yN fl a n s x.by_ :=
 ⟨h.keys, h.range, h.out, h.arc, fun w ho hm => (h.done _ hm (by rw [hq]; exact List.not_mem_nil) w (mZ.2 ⟨ho, rfl⟩)).elim id fun ⟨_, e, _⟩ => by cases e⟩
theorem qw (hN : Net fl n) (hs : 0 ≤ s ∧ s < n) : yN fl a n s (cM fl a s) := by
  refine nI (fun x => lZ fl a n s x none) (yN fl a n s) (MM n) (fun x h => ?_) _ (K6 hs)
  cases hq : x.queue with
  | nil => exact .inr ⟨x.by_, by unfold w6; rw [hq], h.spec hq⟩
  | cons c r => exact .inl ⟨_, by unfold w6; rw [hq], vU hN h hq⟩
theorem yN.qL {q : List (Int × Way)} (h : yN fl a n s q) : q.length ≤ n := by
 have := rq h.keys h.range
 rwa [List.length_map] at this
end
end Go.Proofs.YtelbollidfdcjaaGreat
namespace Go.Proofs.YtelbollidfdcjaaGreat
open Go Go.T
section
variable {fl : List bp} {a : List Int} {n : Nat} {s t c : Int} {w : Way} {q : List (Int × Way)}
def jj (q : List (Int × Way)) (c : Int) : Way := (eS q c).getD default
def DP (fl : List bp) (q : List (Int × Way)) (s : Int) (x : Int × List Way) : (Int × List Way) ⊕ List Way :=
  if x.1 = s then .inr x.2 else .inl ((jj q x.1).gp fl, x.2 ++ [jj q x.1])
noncomputable def gu (fl : List bp) (q : List (Int × Way)) (s t : Int) : List Way := m9 (DP fl q s) (t, [])
structure Ip (fl : List bp) (a : List Int) (s t : Int) (l : List Way) : Prop where
  trail : Trail fl l t s
  ways : ∀ w ∈ l, Open fl a w
  nodup : l.Nodup
structure GJ (fl : List bp) (a : List Int) (q : List (Int × Way)) (s t : Int) (dep : Int → Nat) (x : Int × List Way) : Prop where
  trail : Trail fl x.2 t x.1
  ways : ∀ w ∈ x.2, Open fl a w
  deep : ∀ w ∈ x.2, dep x.1 < dep (w.fin fl)
  nodup : x.2.Nodup
  met : xM q s x.1
  qL : x.2.length + dep x.1 ≤ dep t
theorem tF : ∀ {l : List Way} {x y : Int}, Trail fl l x y → w.fin fl = y → Trail fl (l ++ [w]) x (w.gp fl)
  | [], x, y, h, e => ⟨e.trans (show x = y from h).symm, rfl⟩
  | _ :: _, _, _, h, e => ⟨h.1, tF h.2 e⟩
theorem GJ.next {dep : Int → Nat} (hd : ∀ c w, eS q c = some w → Open fl a w ∧ w.fin fl = c ∧ xM q s (w.gp fl) ∧ dep (w.gp fl) < dep c ∧ dep c ≤ q.length) {x : Int × List Way} (h : GJ fl a q s t dep x) (hx : ¬ x.1 = s) :
 GJ fl a q s t dep ((jj q x.1).gp fl, x.2 ++ [jj q x.1]) ∧ dep ((jj q x.1).gp fl) < dep x.1 := by
 obtain ⟨v, hv⟩ := o8 (h.met.resolve_left hx)
 have ev : jj q x.1 = v := by unfold jj; rw [hv]; rfl
 rw [ev]
 obtain ⟨h1, h2, h3, h4, _⟩ := hd _ _ hv
 refine ⟨⟨tF h.trail h2, fun w hw => ?_, fun w hw => ?_, ?_, h3, ?_⟩, h4⟩
 ·rcases List.mem_append.1 hw with hw | hw
  ·exact h.ways w hw
  rw [List.mem_singleton.1 hw]; exact h1
 ·rcases List.mem_append.1 hw with hw | hw
  ·exact Nat.lt_trans h4 (h.deep w hw)
  rw [List.mem_singleton.1 hw, h2]; exact h4
 ·rw [List.nodup_append]
  refine ⟨h.nodup, by simp, fun u hu w hw e => ?_⟩
  rw [List.mem_singleton.1 hw] at e
  have := h.deep u hu
  rw [e, h2] at this; omega
 show (x.2 ++ [v]).length + dep (v.gp fl) ≤ dep t
 rw [List.length_append, List.length_singleton]
 have := h.qL; omega
theorem Fj (h : yN fl a n s q) (ht : xM q s t) : Ip fl a s t (gu fl q s t) ∧ (gu fl q s t).length ≤ q.length := by
 obtain ⟨dep, d0, hd⟩ := h.arc
 have htq : dep t ≤ q.length := by
  rcases ht with rfl | ht
  ·omega
  obtain ⟨v, hv⟩ := o8 ht; exact (hd _ _ hv).2.2.2.2
 refine nI (GJ fl a q s t dep) (fun l => Ip fl a s t l ∧ l.length ≤ q.length) (fun x => dep x.1) (fun x hI => ?_) _ ⟨rfl, (fun w h => by cases h), (fun w h => by cases h), List.nodup_nil, ht, by simp⟩
 by_cases e : x.1 = s
 ·exact .inr ⟨x.2, if_pos e, ⟨by have := hI.trail; rwa [e] at this, hI.ways, hI.nodup⟩, by have := hI.qL; omega⟩
 obtain ⟨h1, h2⟩ := hI.next hd e
 exact .inl ⟨_, if_neg e, h1, h2⟩
def gT (fl : List bp) (a : List Int) (n : Nat) : List Int := (List.range n).map fun c => over fl a (c : Nat)
theorem xj : (gT fl a n).length = n := by unfold gT; rw [List.length_map, List.length_range]
theorem tL {k : Nat} (h : k < n) : nth (gT fl a n) k = over fl a k := by
 unfold gT nth
 rw [List.getD_eq_getElem?_getD, List.getElem?_map, List.getElem?_range h]; rfl
def ef (fl : List bp) (a : List Int) (m : Int) (l : List Way) : Int := l.foldl (fun m w => min m (w.room fl a)) m
theorem qz (m : Int) (l : List Way) : ef fl a m (l ++ [w]) = min (ef fl a m l) (w.room fl a) := by unfold ef; rw [List.foldl_append]; rfl
theorem rQ (m : Int) : ∀ (l : List Way), ef fl a m l ≤ m ∧ ∀ w ∈ l, ef fl a m l ≤ w.room fl a := by
 refine Ac ⟨Int.le_refl _, fun w h => by cases h⟩ fun l u ih => ?_
 rw [qz]
 refine ⟨by have := ih.1; omega, fun w hw => ?_⟩
 rcases List.mem_append.1 hw with hw | hw
 ·have := ih.2 w hw; omega
 rw [List.mem_singleton.1 hw]; omega
theorem qB {m : Int} (hm : 0 < m) : ∀ (l : List Way), (∀ w ∈ l, Open fl a w) → 0 < ef fl a m l := by
 refine Ac (fun _ => hm) fun l u ih h => ?_
 rw [qz]
 have h1 := ih fun w hw => h w (List.mem_append.2 (.inl hw))
 have h2 := (h u (List.mem_append.2 (.inr (List.mem_singleton.2 rfl)))).2
 omega
def dP (fl : List bp) (a : List Int) (n : Nat) : Int := fidx (fun x : Int => decide (x > 0)) (gT fl a n)
def jN (fl : List bp) (a : List Int) (q : List (Int × Way)) (c : Nat) : Bool := (eS q (c : Int)).isSome && decide (over fl a c < 0)
def eJ (fl : List bp) (a : List Int) (n : Nat) (q : List (Int × Way)) : Int := fidx (jN fl a q) (List.range n)
noncomputable def kI (fl : List bp) (a : List Int) (s t : Int) : List Int :=
  dZ a (gu fl (cM fl a s) s t) (ef fl a (min (over fl a s) (-over fl a t)) (gu fl (cM fl a s) s t))
noncomputable def D2 (fl : List bp) (n : Nat) (a : List Int) : List Int ⊕ (Int × Bool × List Int) :=
  if dP fl a n < 0 then .inr (0, false, a)
  else if eJ fl a n (cM fl a (dP fl a n)) < 0 then .inr (dP fl a n, true, a)
  else .inl (kI fl a (dP fl a n) (eJ fl a n (cM fl a (dP fl a n))))
instance : Inhabited (Int × Bool × List Int) := ⟨(0, false, [])⟩
noncomputable def gM (fl : List bp) (n : Nat) (a : List Int) : Int × Bool × List Int := m9 (D2 fl n) a
theorem Ar {α : Type} [Inhabited α] {p : α → Bool} {l : List α} (h : ¬ fidx p l < 0) : ∃ k : Nat, k < l.length ∧ fidx p l = k ∧ p (nth l k) = true := by
  unfold fidx at *
  cases e : l.findIdx? p with
  | none => rw [e] at h; exact absurd (by decide) h
  | some i =>
    rw [List.findIdx?_eq_some_iff_getElem] at e
    obtain ⟨h1, h2, _⟩ := e
    refine ⟨i, h1, rfl, ?_⟩
    unfold nth; rw [List.getD_eq_getElem?_getD, List.getElem?_eq_getElem h1]; exact h2
theorem Bk {α : Type} {p : α → Bool} {l : List α} (h : fidx p l < 0) : ∀ x ∈ l, p x = false := by
  unfold fidx at h
  cases e : l.findIdx? p with
  | none => simpa using e
  | some i => rw [e] at h; exact absurd h (by show ¬ ((i : Int) < 0); omega)
theorem Im (h : dP fl a n < 0) : ∀ c : Nat, c < n → ¬ 0 < over fl a c := fun c hc => by
 have := Bk h (over fl a c) (List.mem_map.2 ⟨c, List.mem_range.2 hc, rfl⟩)
 simpa using this
theorem vq (h : ¬ dP fl a n < 0) : ∃ k : Nat, k < n ∧ dP fl a n = k ∧ 0 < over fl a k := by
 obtain ⟨k, h1, h2, h3⟩ := Ar h
 rw [xj] at h1
 rw [tL h1] at h3
 exact ⟨k, h1, h2, by simpa using h3⟩
theorem Ff (h : eJ fl a n q < 0) : ∀ c : Nat, c < n → (eS q (c : Int)).isSome = true → 0 ≤ over fl a c := fun c hc hq => by
 have := Bk h c (List.mem_range.2 hc)
 unfold jN at this
 rw [hq, Bool.true_and, decide_eq_false_iff_not] at this; omega
theorem s7 (h : ¬ eJ fl a n q < 0) : ∃ k : Nat, k < n ∧ eJ fl a n q = k ∧ (eS q (k : Int)).isSome = true ∧ over fl a k < 0 := by
 obtain ⟨k, h1, h2, h3⟩ := Ar h
 rw [List.length_range] at h1
 have e : nth (List.range n) k = k := by unfold nth; rw [List.getD_eq_getElem?_getD, List.getElem?_range h1]; rfl
 rw [e] at h3
 unfold jN at h3
 rw [Bool.and_eq_true, decide_eq_true_eq] at h3
 exact ⟨k, h1, h2, h3.1, h3.2⟩
def NM (fl : List bp) (n : Nat) (a : List Int) : Nat := (cg (fun c => max (over fl a (c : Nat)) 0) n).toNat
theorem AM {f : Nat → Int} {n : Nat} (h : ∀ i, i < n → 0 ≤ f i) : 0 ≤ cg f n := by
 have := rT (f := fun _ => 0) (g := f) (n := n) h
 rwa [gP fun _ _ => rfl] at this
theorem Il {f g : Nat → Int} {k : Nat} (hk : k < n) (h : ∀ i, i < n → i ≠ k → f i = g i) : cg f n = cg g n + (f k - g k) := by
 have e : cg (fun i => f i - g i) n = f k - g k := jf (f := fun i => f i - g i) hk fun i hi hn => by rw [h i hi hn]; omega
 rw [kR] at e; omega
structure Ni (fl : List bp) (a : List Int) (n : Nat) (s t : Int) : Prop where
  inb : xP fl (kI fl a s t)
  less : NM fl n (kI fl a s t) < NM fl n a
  trail : Ip fl a s t (gu fl (cM fl a s) s t)
  qL : (gu fl (cM fl a s) s t).length ≤ n
  pos : 0 < ef fl a (min (over fl a s) (-over fl a t)) (gu fl (cM fl a s) s t)
theorem sent (hN : Net fl n) (h : xP fl a) {s t : Nat} (hs : s < n) (ht : t < n) (hps : 0 < over fl a s) (hq : (eS (cM fl a s) (t : Int)).isSome = true) (hpt : over fl a t < 0) : Ni fl a n s t := by
 have hR := qw (a := a) hN (show 0 ≤ (s : Int) ∧ (s : Int) < n by omega)
 obtain ⟨v, hv⟩ := Option.isSome_iff_exists.1 hq
 obtain ⟨hP, hlen⟩ := Fj hR (.inr (mP hv))
 have hpos := qB (fl := fl) (a := a) (m := min (over fl a s) (-over fl a t)) (by omega) _ hP.ways
 obtain ⟨hm1, hm2⟩ := rQ (fl := fl) (a := a) (min (over fl a s) (-over fl a t)) (gu fl (cM fl a s) s t)
 have hin := wO (Int.le_of_lt hpos) (gu fl (cM fl a s) s t) a h hP.nodup fun w hw => ⟨(hP.ways w hw).1, hm2 w hw⟩
 have hov := s9 (fl := fl) h.1 (ef fl a (min (over fl a s) (-over fl a t)) (gu fl (cM fl a s) s t)) _ a _ _ h.1 (fun w hw => (hP.ways w hw).1) hP.trail
 refine ⟨hin, ?_, hP, Nat.le_trans hlen hR.qL, hpos⟩
 unfold NM kI
 generalize ef fl a (min (over fl a s) (-over fl a t)) (gu fl (cM fl a s) s t) = m at *
 generalize dZ a (gu fl (cM fl a s) s t) m = b at *
 have hne : s ≠ t := fun e => by subst e; omega
 have e1 : cg (fun c : Nat => max (over fl b c) 0) n = cg (fun c : Nat => max (over fl a c) 0) n + (max (over fl b s) 0 - max (over fl a s) 0) := by
  refine Il hs fun i hi hn => ?_
  rw [hov i, dm (p := (s : Int) = i) (by omega)]
  by_cases e : t = i
  ·subst e; rw [eZ rfl]; omega
  rw [dm (by omega)]; omega
 have e2 : over fl b s = over fl a s - m := by rw [hov s, dm (by omega), eZ rfl]; omega
 have h0 := AM (f := fun c : Nat => max (over fl b c) 0) (n := n) fun i _ => by show 0 ≤ max _ 0; omega
 rw [e1, e2] at h0 ⊢
 omega
structure vZ (fl : List bp) (n : Nat) (r : Int × Bool × List Int) : Prop where
  inb : xP fl r.2.2
  yes : r.2.1 = false → Bc fl n r.2.2 ∧ r.1 = 0
  no : r.2.1 = true → (0 ≤ r.1 ∧ r.1 < n) ∧ 0 < over fl r.2.2 r.1 ∧ ∀ c : Nat, c < n → xM (cM fl r.2.2 r.1) r.1 c → 0 ≤ over fl r.2.2 c
theorem uS (hN : Net fl n) (h : xP fl a) : vZ fl n (gM fl n a) := by
 refine nI (xP fl) (vZ fl n) (NM fl n) (fun a h => ?_) a h
 unfold D2
 by_cases h1 : dP fl a n < 0
 ·rw [if_pos h1]
  exact .inr ⟨_, rfl, h, fun _ => ⟨KQ hN (Im h1), rfl⟩, fun e => by cases e⟩
 rw [if_neg h1]
 obtain ⟨s, s1, s2, s3⟩ := vq h1
 rw [s2]
 by_cases h2 : eJ fl a n (cM fl a s) < 0
 ·rw [if_pos h2]
  refine .inr ⟨_, rfl, h, (fun e => by cases e), fun _ => ⟨by show 0 ≤ (s : Int) ∧ (s : Int) < n; omega, s3, fun c hc hm => ?_⟩⟩
  rcases hm with hm | hm
  ·have e : (c : Int) = s := hm
   show 0 ≤ over fl a c
   rw [e]; exact Int.le_of_lt s3
  obtain ⟨v, hv⟩ := o8 hm
  exact Ff h2 c hc (by rw [hv]; rfl)
 rw [if_neg h2]
 obtain ⟨t, t1, t2, t3, t4⟩ := s7 h2
 rw [t2]
 have hS := sent hN h s1 t1 s3 t3 t4
 exact .inl ⟨_, rfl, hS.inb, hS.less⟩
open Classical in
theorem vZ.none (hN : Net fl n) {r : Int × Bool × List Int} (h : vZ fl n r) (e : r.2.1 = true) : ¬ ∃ a, gW fl n a := by
 obtain ⟨h1, h2, h3⟩ := h.no e
 have hR := qw (a := r.2.2) hN h1
 obtain ⟨c, hc⟩ : ∃ c : Nat, (c : Int) = r.1 := ⟨r.1.toNat, by omega⟩
 refine F9 hN h.inb (fun c => decide (xM (cM fl r.2.2 r.1) r.1 c)) (fun w ho hm => ?_) (fun c hc hm => h3 c hc (of_decide_eq_true hm)) (c0 := c) (by omega) (decide_eq_true (.inl hc)) (by rw [hc]; exact h2)
 exact decide_eq_true (hR.closed w ho (of_decide_eq_true hm))
theorem vZ.some {r : Int × Bool × List Int} (h : vZ fl n r) (e : r.2.1 = false) : gW fl n r.2.2 := ⟨h.inb, (h.yes e).1⟩
end
end Go.Proofs.YtelbollidfdcjaaGreat
namespace Go.Proofs.YtelbollidfdcjaaGreat
open Go Go.T
section
variable {fl : List bp} {a : List Int} {n : Nat} {G : Nat → Int} {w : Way}
def fj (G : Nat → Int) (w : Way) : Int := xK w (G w.ix)
theorem DU (hG : ∀ i, -1 ≤ G i ∧ G i ≤ 1) (w : Way) : -1 ≤ fj G w ∧ fj G w ≤ 1 := by
 have := hG w.ix
 unfold fj xK; cases w.more <;> simp <;> omega
structure sI where
  worth : List Int
  by_ : List Way
  at_ : Int
def k5 (fl : List bp) (G : Nat → Int) (st : sI) (c : Nat) (w : Way) : Bool := decide (nth st.worth c + fj G w > nth st.worth (w.fin fl).toNat)
def l6 (fl : List bp) (G : Nat → Int) (st : sI) (c : Nat) (w : Way) : sI := ⟨st.worth.set (w.fin fl).toNat (nth st.worth c + fj G w), st.by_.set (w.fin fl).toNat w, w.fin fl⟩
structure Jb where
  r : Nat
  c : Nat
  j : Nat
  st : sI
def mG (fl : List bp) (a : List Int) (n : Nat) (G : Nat → Int) (x : Jb) : Jb ⊕ Option sI :=
  if n ≤ x.r then .inr none
  else if n ≤ x.c then (if x.st.at_ < 0 then .inr none else .inl ⟨x.r + 1, 0, 0, ⟨x.st.worth, x.st.by_, -1⟩⟩)
  else if (bH fl a x.c).length ≤ x.j then .inl ⟨x.r, x.c + 1, 0, x.st⟩
  else if k5 fl G x.st x.c (nth (bH fl a x.c) x.j) = true then
    (if x.r + 1 = n then .inr (some (l6 fl G x.st x.c (nth (bH fl a x.c) x.j))) else .inl ⟨x.r, x.c, x.j + 1, l6 fl G x.st x.c (nth (bH fl a x.c) x.j)⟩)
  else .inl ⟨x.r, x.c, x.j + 1, x.st⟩
def MO (n : Nat) : sI := ⟨List.replicate n 0, List.replicate n default, -1⟩
noncomputable def iR (fl : List bp) (a : List Int) (n : Nat) (G : Nat → Int) : Option sI := m9 (mG fl a n G) ⟨0, 0, 0, MO n⟩
section
variable {x : Jb}
theorem vf (h : ¬ n ≤ x.r) (hc : n ≤ x.c) (ha : x.st.at_ < 0) : mG fl a n G x = .inr none := by unfold mG; rw [if_neg h, if_pos hc, if_pos ha]
theorem uG (h : ¬ n ≤ x.r) (hc : n ≤ x.c) (ha : ¬ x.st.at_ < 0) : mG fl a n G x = .inl ⟨x.r + 1, 0, 0, ⟨x.st.worth, x.st.by_, -1⟩⟩ := by unfold mG; rw [if_neg h, if_pos hc, if_neg ha]
theorem vr (h : ¬ n ≤ x.r) (hc : ¬ n ≤ x.c) (hj : (bH fl a x.c).length ≤ x.j) : mG fl a n G x = .inl ⟨x.r, x.c + 1, 0, x.st⟩ := by unfold mG; rw [if_neg h, if_neg hc, if_pos hj]
theorem BC (h : ¬ n ≤ x.r) (hc : ¬ n ≤ x.c) (hj : ¬ (bH fl a x.c).length ≤ x.j) (hg : k5 fl G x.st x.c (nth (bH fl a x.c) x.j) = false) : mG fl a n G x = .inl ⟨x.r, x.c, x.j + 1, x.st⟩ := by
 unfold mG; rw [if_neg h, if_neg hc, if_neg hj, if_neg (by rw [hg]; decide)]
theorem yc (h : ¬ n ≤ x.r) (hc : ¬ n ≤ x.c) (hj : ¬ (bH fl a x.c).length ≤ x.j) (hg : k5 fl G x.st x.c (nth (bH fl a x.c) x.j) = true) (hr : ¬ x.r + 1 = n) : mG fl a n G x = .inl ⟨x.r, x.c, x.j + 1, l6 fl G x.st x.c (nth (bH fl a x.c) x.j)⟩ := by
 unfold mG; rw [if_neg h, if_neg hc, if_neg hj, if_pos hg, if_neg hr]
theorem vc (h : ¬ n ≤ x.r) (hc : ¬ n ≤ x.c) (hj : ¬ (bH fl a x.c).length ≤ x.j) (hg : k5 fl G x.st x.c (nth (bH fl a x.c) x.j) = true) (hr : x.r + 1 = n) : mG fl a n G x = .inr (some (l6 fl G x.st x.c (nth (bH fl a x.c) x.j))) := by
 unfold mG; rw [if_neg h, if_neg hc, if_neg hj, if_pos hg, if_pos hr]
end
structure Gh (fl : List bp) (a : List Int) (n : Nat) (G : Nat → Int) (r : Nat) (st : sI) (R T : Nat → Nat) (τ : Nat) : Prop where
  len : st.worth.length = n ∧ st.by_.length = n
  zero : ∀ v, v < n → R v = 0 → nth st.worth v = 0 ∧ T v = 0
  le : ∀ v, v < n → R v ≤ r + 1 ∧ T v ≤ τ ∧ 0 ≤ nth st.worth v ∧ nth st.worth v ≤ τ
  way : ∀ v, v < n → 0 < R v → Open fl a (nth st.by_ v) ∧ (nth st.by_ v).fin fl = v ∧
    nth st.worth v ≤ nth st.worth ((nth st.by_ v).gp fl).toNat + fj G (nth st.by_ v) ∧
    (T v < T ((nth st.by_ v).gp fl).toNat → nth st.worth v < nth st.worth ((nth st.by_ v).gp fl).toNat + fj G (nth st.by_ v)) ∧
    R v ≤ R ((nth st.by_ v).gp fl).toNat + 1 ∧ 0 < T v
  one : ∀ u v, u < n → v < n → 0 < R u → 0 < R v → T u = T v → u = v
  at_ : (st.at_ = -1 ∧ ∀ v, v < n → R v ≤ r) ∨ ∃ v : Nat, v < n ∧ st.at_ = v ∧ R v = r + 1
def jc (x : Jb) (c k : Nat) : Nat := if c < x.c ∨ c = x.c ∧ k < x.j then x.r + 1 else x.r
structure l8 (fl : List bp) (a : List Int) (n : Nat) (G : Nat → Int) (x : Jb) : Prop where
  r : x.r < n
  c : x.c ≤ n
  j : x.j ≤ 2 * fl.length ∧ (x.c = n → x.j = 0)
  last : x.r + 1 = n → x.st.at_ = -1
  gh : ∃ R T τ, Gh fl a n G x.r x.st R T τ ∧ τ ≤ x.r * (n * (2 * fl.length)) + (x.c * (2 * fl.length) + x.j) ∧
    ∀ c k, c < n → k < (bH fl a c).length → jc x c k = 0 ∨ nth x.st.worth c + fj G (nth (bH fl a c) k) ≤ nth x.st.worth ((nth (bH fl a c) k).fin fl).toNat ∨ jc x c k ≤ R c
theorem z8 {α : Type} [Inhabited α] (n : Nat) (v : α) (k : Nat) (h : k < n) : nth (List.replicate n v) k = v := by
 unfold nth; rw [List.getD_eq_getElem?_getD, List.getElem?_replicate, if_pos h]; rfl
theorem K4 (hn : 0 < n) : l8 fl a n G ⟨0, 0, 0, MO n⟩ := by
 refine ⟨hn, Nat.zero_le _, ⟨Nat.zero_le _, fun _ => rfl⟩, fun _ => rfl, fun _ => 0, fun _ => 0, 0, ⟨⟨by simp [MO], by simp [MO]⟩, fun v hv _ => ⟨z8 _ _ _ hv, rfl⟩, fun v hv => ?_, fun v _ h => absurd h (Nat.lt_irrefl 0), fun u v _ _ h => absurd h (Nat.lt_irrefl 0), .inl ⟨rfl, fun v _ => Nat.le_refl _⟩⟩, Nat.zero_le _, fun c k _ _ => .inl ?_⟩
 ·have : nth (MO n).worth v = 0 := z8 _ _ _ hv
  rw [this]; exact ⟨Nat.zero_le _, Nat.le_refl _, Int.le_refl _, Int.le_refl _⟩
 unfold jc; rw [if_neg (by simp)]
theorem HO {c k : Nat} (h : k < (bH fl a c).length) : Open fl a (nth (bH fl a c) k) ∧ (nth (bH fl a c) k).gp fl = c := mZ.1 (cR h)
variable {x : Jb}
theorem l8.cell (h : l8 fl a n G x) (hc : ¬ n ≤ x.c) (hj : (bH fl a x.c).length ≤ x.j) : l8 fl a n G ⟨x.r, x.c + 1, 0, x.st⟩ := by
 obtain ⟨R, T, τ, h1, h2, h3⟩ := h.gh
 refine ⟨h.r, by show x.c + 1 ≤ n; omega, ⟨Nat.zero_le _, fun _ => rfl⟩, h.last, R, T, τ, h1, ?_, fun c k hc' hk => ?_⟩
 ·have e1 : (x.c + 1) * (2 * fl.length) = x.c * (2 * fl.length) + 2 * fl.length := Nat.succ_mul _ _
  have := h.j.1
  show τ ≤ x.r * (n * (2 * fl.length)) + ((x.c + 1) * (2 * fl.length) + 0)
  generalize x.r * (n * (2 * fl.length)) = A at *
  generalize (x.c + 1) * (2 * fl.length) = B at *
  generalize x.c * (2 * fl.length) = C at *
  omega
 have e : jc ⟨x.r, x.c + 1, 0, x.st⟩ c k = jc x c k := by
  unfold jc
  by_cases e : c < x.c ∨ c = x.c ∧ k < x.j
  ·rw [if_pos e, if_pos (by show c < x.c + 1 ∨ _; omega)]
  rw [if_neg e]
  by_cases e2 : c = x.c
  ·subst e2; omega
  rw [if_neg (by show ¬ (c < x.c + 1 ∨ c = x.c + 1 ∧ k < 0); omega)]
 rw [e]; exact h3 c k hc' hk
theorem l8.round (h : l8 fl a n G x) (hc : n ≤ x.c) (hr : ¬ x.r + 1 = n) : l8 fl a n G ⟨x.r + 1, 0, 0, ⟨x.st.worth, x.st.by_, -1⟩⟩ := by
 obtain ⟨R, T, τ, h1, h2, h3⟩ := h.gh
 have ec : x.c = n := Nat.le_antisymm h.c hc
 refine ⟨by show x.r + 1 < n; have := h.r; omega, Nat.zero_le _, ⟨Nat.zero_le _, fun _ => rfl⟩, fun _ => rfl, R, T, τ, ⟨h1.len, h1.zero, fun v hv => ?_, h1.way, h1.one, .inl ⟨rfl, fun v hv => (h1.le v hv).1⟩⟩, ?_, fun c k hc' hk => ?_⟩
 ·have := h1.le v hv
  exact ⟨by show R v ≤ x.r + 1 + 1; omega, this.2⟩
 ·have e1 : (x.r + 1) * (n * (2 * fl.length)) = x.r * (n * (2 * fl.length)) + n * (2 * fl.length) := Nat.succ_mul _ _
  show τ ≤ (x.r + 1) * (n * (2 * fl.length)) + (0 * (2 * fl.length) + 0)
  rw [ec, h.j.2 ec] at h2
  generalize (x.r + 1) * (n * (2 * fl.length)) = A at *
  omega
 have e : jc ⟨x.r + 1, 0, 0, ⟨x.st.worth, x.st.by_, -1⟩⟩ c k = jc x c k := by
  unfold jc
  rw [if_neg (show ¬ (c < 0 ∨ c = 0 ∧ k < 0) by omega), if_pos (show c < x.c ∨ c = x.c ∧ k < x.j by omega)]
 rw [e]; exact h3 c k hc' hk
theorem wC {st : sI} {c k : Nat} : jc ⟨x.r, x.c, x.j + 1, st⟩ c k = if c = x.c ∧ k = x.j then x.r + 1 else jc x c k := by
 unfold jc
 by_cases e : c = x.c ∧ k = x.j
 ·rw [if_pos e, if_pos (by show c < x.c ∨ c = x.c ∧ k < x.j + 1; omega)]
 rw [if_neg e]
 by_cases e2 : c < x.c ∨ c = x.c ∧ k < x.j
 ·rw [if_pos e2, if_pos (by show c < x.c ∨ c = x.c ∧ k < x.j + 1; omega)]
 rw [if_neg e2, if_neg (by show ¬ (c < x.c ∨ c = x.c ∧ k < x.j + 1); omega)]
theorem l8.no (h : l8 fl a n G x) (hc : ¬ n ≤ x.c) (hj : ¬ (bH fl a x.c).length ≤ x.j) (hg : k5 fl G x.st x.c (nth (bH fl a x.c) x.j) = false) : l8 fl a n G ⟨x.r, x.c, x.j + 1, x.st⟩ := by
 obtain ⟨R, T, τ, h1, h2, h3⟩ := h.gh
 have hl := pF (fl := fl) (a := a) (c := x.c)
 refine ⟨h.r, h.c, ⟨by show x.j + 1 ≤ _; omega, fun e => absurd (show x.c = n from e) (by omega)⟩, h.last, R, T, τ, h1, Nat.le_trans h2 (show x.r * (n * (2 * fl.length)) + (x.c * (2 * fl.length) + x.j) ≤ x.r * (n * (2 * fl.length)) + (x.c * (2 * fl.length) + (x.j + 1)) by omega), fun c k hc' hk => ?_⟩
 rw [wC]
 by_cases e : c = x.c ∧ k = x.j
 ·rw [if_pos e]
  obtain ⟨e1, e2⟩ := e; subst e1; subst e2
  unfold k5 at hg
  rw [decide_eq_false_iff_not] at hg
  exact .inr (.inl (show nth x.st.worth x.c + _ ≤ nth x.st.worth _ by omega))
 rw [if_neg e]; exact h3 c k hc' hk
theorem DW (hN : Net fl n) (hG : ∀ i, -1 ≤ G i ∧ G i ≤ 1) (h : l8 fl a n G x) (hc : ¬ n ≤ x.c) (hj : ¬ (bH fl a x.c).length ≤ x.j) (hg : k5 fl G x.st x.c (nth (bH fl a x.c) x.j) = true) :
 ∃ R T τ, Gh fl a n G x.r (l6 fl G x.st x.c (nth (bH fl a x.c) x.j)) R T τ ∧ τ ≤ x.r * (n * (2 * fl.length)) + (x.c * (2 * fl.length) + (x.j + 1)) ∧ R ((nth (bH fl a x.c) x.j).fin fl).toNat = x.r + 1 ∧
 ∀ c k, c < n → k < (bH fl a c).length → jc ⟨x.r, x.c, x.j + 1, l6 fl G x.st x.c (nth (bH fl a x.c) x.j)⟩ c k = 0 ∨ nth (l6 fl G x.st x.c (nth (bH fl a x.c) x.j)).worth c + fj G (nth (bH fl a c) k) ≤ nth (l6 fl G x.st x.c (nth (bH fl a x.c) x.j)).worth ((nth (bH fl a c) k).fin fl).toNat ∨ jc ⟨x.r, x.c, x.j + 1, l6 fl G x.st x.c (nth (bH fl a x.c) x.j)⟩ c k ≤ R c := by
 obtain ⟨R, T, τ, h1, h2, h3⟩ := h.gh
 obtain ⟨ho, hb⟩ := HO (fl := fl) (a := a) (c := x.c) (k := x.j) (by omega)
 have h3c := h3 x.c x.j (by omega) (by omega)
 generalize hw : nth (bH fl a x.c) x.j = w at *
 obtain ⟨_, ⟨hf0, hfn⟩, hne⟩ := hN.way ho.1
 obtain ⟨t, ht⟩ : ∃ t : Nat, (t : Int) = w.fin fl := ⟨(w.fin fl).toNat, by omega⟩
 have htt : (w.fin fl).toNat = t := by omega
 have htn : t < n := by omega
 have hxt : x.c ≠ t := fun e => hne (by rw [hb, ← ht, e])
 unfold k5 at hg
 rw [decide_eq_true_eq, htt] at hg
 have hRc : x.r ≤ R x.c := by
  have e : jc x x.c x.j = x.r := by unfold jc; rw [if_neg (by omega)]
  rw [e, htt] at h3c
  rcases h3c with h | h | h
  ·omega
  ·omega
  exact h
 obtain ⟨hl1, hl2⟩ := h1.len
 have nw : ∀ v, v < n → nth (l6 fl G x.st x.c w).worth v = if t = v then nth x.st.worth x.c + fj G w else nth x.st.worth v := fun v hv => by
  show nth (x.st.worth.set _ _) v = _; rw [htt, jd (by omega)]
 have nb : ∀ v, v < n → nth (l6 fl G x.st x.c w).by_ v = if t = v then w else nth x.st.by_ v := fun v hv => by
  show nth (x.st.by_.set _ _) v = _; rw [htt, jd (by omega)]
 have up : ∀ v, v < n → nth x.st.worth v ≤ nth (l6 fl G x.st x.c w).worth v := fun v hv => by
  rw [nw v hv]; split
  ·rename_i e; subst e; omega
  exact Int.le_refl _
 have begn : ∀ v, v < n → 0 < R v → ((nth x.st.by_ v).gp fl).toNat < n := fun v hv hR => by
  have := (hN.way (h1.way v hv hR).1.1).1; omega
 refine ⟨fun v => if v = t then x.r + 1 else R v, fun v => if v = t then τ + 1 else T v, τ + 1, ⟨⟨by show (x.st.worth.set _ _).length = n; rw [List.length_set]; exact hl1, by show (x.st.by_.set _ _).length = n; rw [List.length_set]; exact hl2⟩, fun v hv hR => ?_, fun v hv => ?_, fun v hv hR => ?_, fun u v hu hv hRu hRv e => ?_, .inr ⟨t, htn, ht.symm, if_pos rfl⟩⟩, by omega, by show (if (w.fin fl).toNat = t then _ else _) = _; rw [if_pos htt], fun c k hc' hk => ?_⟩
 ·have hvt : v ≠ t := fun e => by
   have hR : (if v = t then x.r + 1 else R v) = 0 := hR
   rw [if_pos e] at hR; omega
  have hR : (if v = t then x.r + 1 else R v) = 0 := hR
  rw [if_neg hvt] at hR
  show _ ∧ (if v = t then τ + 1 else T v) = 0
  rw [if_neg hvt, nw v hv, if_neg (fun e => hvt e.symm)]
  exact h1.zero v hv hR
 ·have hl := h1.le v hv
  have hlc := h1.le x.c (by omega)
  have hlt := h1.le t htn
  have hw1 := DU hG w
  show (if v = t then x.r + 1 else R v) ≤ x.r + 1 ∧ (if v = t then τ + 1 else T v) ≤ τ + 1 ∧ _
  rw [nw v hv]
  by_cases e : v = t
  ·subst e
   rw [if_pos rfl, if_pos rfl, if_pos rfl]
   refine ⟨Nat.le_refl _, Nat.le_refl _, ?_, ?_⟩ <;> omega
  rw [if_neg e, if_neg e, if_neg (fun h => e h.symm)]
  refine ⟨hl.1, ?_, hl.2.2.1, ?_⟩ <;> omega
 ·show _ ∧ _ ∧ _ ∧ ((if v = t then τ + 1 else T v) < (if _ = t then τ + 1 else T _) → _) ∧ (if v = t then x.r + 1 else R v) ≤ (if _ = t then x.r + 1 else R _) + 1 ∧ 0 < (if v = t then τ + 1 else T v)
  have hR : 0 < (if v = t then x.r + 1 else R v) := hR
  rw [nb v hv, nw v hv]
  by_cases e : v = t
  ·subst e
   rw [if_pos rfl, if_pos rfl, if_pos rfl, if_pos rfl]
   have e1 : (w.gp fl).toNat = x.c := by rw [hb]; omega
   rw [e1, nw x.c (by omega), if_neg (fun h => hxt h.symm), if_neg hxt, if_neg hxt]
   refine ⟨ho, ht.symm, Int.le_refl _, fun h => ?_, by omega, by omega⟩
   have := (h1.le x.c (by omega)).2.1; omega
  rw [if_neg e, if_neg (fun h => e h.symm), if_neg (fun h => e h.symm), if_neg e]
  rw [if_neg e] at hR
  obtain ⟨b1, b2, b3, b4, b5, b6⟩ := h1.way v hv hR
  have hbn := begn v hv hR
  have hu := up _ hbn
  refine ⟨b1, b2, by omega, fun h => ?_, ?_, b6⟩
  ·by_cases e2 : ((nth x.st.by_ v).gp fl).toNat = t
   ·rw [e2] at hu b3 ⊢
    have : nth x.st.worth t < nth (l6 fl G x.st x.c w).worth t := by rw [nw t htn, if_pos rfl]; omega
    omega
   rw [if_neg e2] at h
   have := b4 h; omega
  by_cases e2 : ((nth x.st.by_ v).gp fl).toNat = t
  ·rw [if_pos e2]; have := (h1.le v hv).1; omega
  rw [if_neg e2]; exact b5
 ·have e : (if u = t then τ + 1 else T u) = (if v = t then τ + 1 else T v) := e
  have hRu : 0 < (if u = t then x.r + 1 else R u) := hRu
  have hRv : 0 < (if v = t then x.r + 1 else R v) := hRv
  have a1 := (h1.le u hu).2.1
  have a2 := (h1.le v hv).2.1
  by_cases e1 : u = t
  ·by_cases e2 : v = t
   ·rw [e1, e2]
   rw [if_pos e1, if_neg e2] at e; omega
  by_cases e2 : v = t
  ·rw [if_neg e1, if_pos e2] at e; omega
  rw [if_neg e1, if_neg e2] at e
  rw [if_neg e1] at hRu; rw [if_neg e2] at hRv
  exact h1.one u v hu hv hRu hRv e
 rw [wC]
 show _ ∨ _ ∨ _ ≤ (if c = t then x.r + 1 else R c)
 have hd : jc x c k ≤ x.r + 1 := by unfold jc; split <;> omega
 by_cases ect : c = t
 ·rw [if_pos ect]
  refine .inr (.inr ?_)
  split <;> omega
 rw [if_neg ect]
 have hu := up ((nth (bH fl a c) k).fin fl).toNat (by have := (hN.way (HO hk).1.1).2.1; omega)
 have nwc : nth (l6 fl G x.st x.c w).worth c = nth x.st.worth c := by rw [nw c hc', if_neg (fun h => ect h.symm)]
 rw [nwc]
 by_cases e : c = x.c ∧ k = x.j
 ·rw [if_pos e]
  obtain ⟨e1, e2⟩ := e; subst e1; subst e2
  rw [hw, htt, nw t htn, if_pos rfl]
  exact .inr (.inl (Int.le_refl _))
 rw [if_neg e]
 rcases h3 c k hc' hk with h | h | h
 ·exact .inl h
 ·exact .inr (.inl (by omega))
 exact .inr (.inr h)
theorem l8.yes (hN : Net fl n) (hG : ∀ i, -1 ≤ G i ∧ G i ≤ 1) (h : l8 fl a n G x) (hc : ¬ n ≤ x.c) (hj : ¬ (bH fl a x.c).length ≤ x.j) (hg : k5 fl G x.st x.c (nth (bH fl a x.c) x.j) = true) (hr : ¬ x.r + 1 = n) :
 l8 fl a n G ⟨x.r, x.c, x.j + 1, l6 fl G x.st x.c (nth (bH fl a x.c) x.j)⟩ := by
 obtain ⟨R, T, τ, h1, h2, _, h4⟩ := DW hN hG h hc hj hg
 have hl := pF (fl := fl) (a := a) (c := x.c)
 exact ⟨h.r, h.c, ⟨by show x.j + 1 ≤ _; omega, fun e => absurd (show x.c = n from e) (by omega)⟩, fun e => absurd e hr, R, T, τ, h1, h2, h4⟩
inductive FA (fl : List bp) (a : List Int) (n : Nat) (G : Nat → Int) : Option sI → Prop where
  | none (p : Int → Int) (h : ∀ w, Open fl a w → p (w.gp fl) + fj G w ≤ p (w.fin fl)) : FA fl a n G none
  | some (st : sI) (R T : Nat → Nat) (τ : Nat) (v : Nat) (h : Gh fl a n G (n - 1) st R T τ) (hv : v < n) (e : st.at_ = v) (hR : R v = n) : FA fl a n G (some st)
theorem l8.none (hN : Net fl n) (h : l8 fl a n G x) (hc : n ≤ x.c) (ha : x.st.at_ < 0) : FA fl a n G none := by
 obtain ⟨R, T, τ, h1, h2, h3⟩ := h.gh
 have hR : ∀ v, v < n → R v ≤ x.r := by
  rcases h1.at_ with ⟨_, h⟩ | ⟨v, _, e, _⟩
  ·exact h
  omega
 refine .none (fun c => nth x.st.worth c.toNat) fun w ho => ?_
 obtain ⟨⟨b0, bn⟩, _, _⟩ := hN.way ho.1
 obtain ⟨c, hc'⟩ : ∃ c : Nat, (c : Int) = w.gp fl := ⟨(w.gp fl).toNat, by omega⟩
 have hm : w ∈ bH fl a c := mZ.2 ⟨ho, hc'.symm⟩
 obtain ⟨k, hk, e⟩ := oA hm
 subst e
 have h4 := h3 c k (by omega) hk
 have e : jc x c k = x.r + 1 := if_pos (.inl (by omega))
 rw [e] at h4
 have := hR c (by omega)
 show nth x.st.worth (Way.gp _ fl).toNat + _ ≤ nth x.st.worth _
 rw [← hc', Int.toNat_natCast]
 rcases h4 with h | h | h <;> omega
theorem l8.found (hN : Net fl n) (hG : ∀ i, -1 ≤ G i ∧ G i ≤ 1) (h : l8 fl a n G x) (hc : ¬ n ≤ x.c) (hj : ¬ (bH fl a x.c).length ≤ x.j) (hg : k5 fl G x.st x.c (nth (bH fl a x.c) x.j) = true) (hr : x.r + 1 = n) :
 FA fl a n G (some (l6 fl G x.st x.c (nth (bH fl a x.c) x.j))) := by
 obtain ⟨R, T, τ, h1, _, h3, _⟩ := DW hN hG h hc hj hg
 have hb := (hN.way (HO (fl := fl) (a := a) (c := x.c) (k := x.j) (by omega)).1.1).2.1
 refine .some _ R T τ ((nth (bH fl a x.c) x.j).fin fl).toNat (by rw [show n - 1 = x.r by omega]; exact h1) (by omega) ?_ (h3.trans hr)
 show Way.fin _ fl = _; omega
def JE (fl : List bp) (n : Nat) (x : Jb) : Nat := (n - x.r) * ((n + 1) * (2 * fl.length + 2)) + ((n - x.c) * (2 * fl.length + 2) + (2 * fl.length + 1 - x.j))
theorem K8 (hj : x.j < 2 * fl.length) (st : sI) : JE fl n ⟨x.r, x.c, x.j + 1, st⟩ < JE fl n x := by
 unfold JE
 show (n - x.r) * ((n + 1) * (2 * fl.length + 2)) + ((n - x.c) * (2 * fl.length + 2) + (2 * fl.length + 1 - (x.j + 1))) < _
 omega
theorem Mp (hc : x.c < n) (hj : x.j ≤ 2 * fl.length) (st : sI) : JE fl n ⟨x.r, x.c + 1, 0, st⟩ < JE fl n x := by
 unfold JE
 show (n - x.r) * ((n + 1) * (2 * fl.length + 2)) + ((n - (x.c + 1)) * (2 * fl.length + 2) + (2 * fl.length + 1 - 0)) < _
 have e : (n - x.c) * (2 * fl.length + 2) = (n - (x.c + 1)) * (2 * fl.length + 2) + (2 * fl.length + 2) := by
  rw [show n - x.c = (n - (x.c + 1)) + 1 by omega, Nat.succ_mul]
 rw [e]
 generalize (n - (x.c + 1)) * (2 * fl.length + 2) = A
 omega
theorem Nu (hr : x.r < n) (st : sI) : JE fl n ⟨x.r + 1, 0, 0, st⟩ < JE fl n x := by
 unfold JE
 show (n - (x.r + 1)) * ((n + 1) * (2 * fl.length + 2)) + ((n - 0) * (2 * fl.length + 2) + (2 * fl.length + 1 - 0)) < _
 have e : (n - x.r) * ((n + 1) * (2 * fl.length + 2)) = (n - (x.r + 1)) * ((n + 1) * (2 * fl.length + 2)) + (n + 1) * (2 * fl.length + 2) := by
  rw [show n - x.r = (n - (x.r + 1)) + 1 by omega, Nat.succ_mul]
 have e2 : (n + 1) * (2 * fl.length + 2) = n * (2 * fl.length + 2) + (2 * fl.length + 2) := Nat.succ_mul _ _
 rw [e, e2, Nat.sub_zero]
 generalize (n - (x.r + 1)) * (n * (2 * fl.length + 2) + (2 * fl.length + 2)) = A
 generalize n * (2 * fl.length + 2) = B
 omega
theorem Cw (hN : Net fl n) (hn : 0 < n) (hG : ∀ i, -1 ≤ G i ∧ G i ≤ 1) : FA fl a n G (iR fl a n G) := by
  refine nI (l8 fl a n G) (FA fl a n G) (JE fl n) (fun x h => ?_) _ (K4 hn)
  have hr : ¬ n ≤ x.r := by have := h.r; omega
  by_cases hc : n ≤ x.c
  · by_cases ha : x.st.at_ < 0
    · exact .inr ⟨_, vf hr hc ha, h.none hN hc ha⟩
    · exact .inl ⟨_, uG hr hc ha, h.round hc (fun e => ha (by rw [h.last e]; decide)), Nu h.r _⟩
  · by_cases hj : (bH fl a x.c).length ≤ x.j
    · exact .inl ⟨_, vr hr hc hj, h.cell hc hj, Mp (by omega) h.j.1 _⟩
    · have hl := pF (fl := fl) (a := a) (c := x.c)
      cases hg : k5 fl G x.st x.c (nth (bH fl a x.c) x.j) with
      | false => exact .inl ⟨_, BC hr hc hj hg, h.no hc hj hg, K8 (by omega) _⟩
      | true =>
        by_cases hl : x.r + 1 = n
        · exact .inr ⟨_, vc hr hc hj hg hl, h.found hN hG hc hj hg hl⟩
        · exact .inl ⟨_, yc hr hc hj hg hl, h.yes hN hG hc hj hg hl, K8 (by omega) _⟩
end
end Go.Proofs.YtelbollidfdcjaaGreat
namespace Go.Proofs.YtelbollidfdcjaaGreat
open Go Go.T
theorem E9 {p : Nat → Prop} (h : ∃ n, p n) : ∃ n, p n ∧ ∀ m, m < n → ¬ p m := by
  obtain ⟨n, hn⟩ := h
  induction n using Nat.strongRecOn with
  | _ n ih =>
    by_cases e : ∃ m, m < n ∧ p m
    · obtain ⟨m, hm, hp⟩ := e; exact ih m hm hp
    · exact ⟨n, hn, fun m hm hp => e ⟨m, hm, hp⟩⟩
def fP (f : Nat → Nat) : Nat → Nat → Nat
  | 0, x => x
  | k + 1, x => f (fP f k x)
theorem lA (f : Nat → Nat) (k x : Nat) : ∀ j, fP f (j + k) x = fP f j (fP f k x)
  | 0 => by rw [Nat.zero_add]; rfl
  | j + 1 => by rw [Nat.succ_add]; show f (fP f (j + k) x) = f _; rw [lA f k x j]
theorem yX (f : Nat → Int) : ∀ n, ((List.range n).map f).sum = cg f n
  | 0 => rfl
  | n + 1 => by rw [List.range_succ, List.map_append, List.sum_append, yX f n]; simp [cg]
theorem yV (f : Nat → Int) : ∀ n, cg (fun t => f t - f (t + 1)) n = f 0 - f n
  | 0 => by simp [cg]
  | n + 1 => by unfold cg; rw [yV f n]; omega
section
variable {fl : List bp} {a : List Int} {n : Nat} {G : Nat → Int} {st : sI} {R T : Nat → Nat} {τ v s : Nat}
def cF (fl : List bp) (st : sI) (c : Nat) : Nat := ((nth st.by_ c).gp fl).toNat
structure Mi (fl : List bp) (a : List Int) (n : Nat) (G : Nat → Int) (st : sI) (T : Nat → Nat) (s : Nat) : Prop where
  back : ∃ p, 1 ≤ p ∧ p ≤ n ∧ fP (cF fl st) p s = s
  at_ : ∀ t, fP (cF fl st) t s < n
  way : ∀ t, Open fl a (nth st.by_ (fP (cF fl st) t s)) ∧ (nth st.by_ (fP (cF fl st) t s)).fin fl = fP (cF fl st) t s ∧
    nth st.worth (fP (cF fl st) t s) ≤ nth st.worth (fP (cF fl st) (t + 1) s) + fj G (nth st.by_ (fP (cF fl st) t s)) ∧
    (T (fP (cF fl st) t s) < T (fP (cF fl st) (t + 1) s) → nth st.worth (fP (cF fl st) t s) < nth st.worth (fP (cF fl st) (t + 1) s) + fj G (nth st.by_ (fP (cF fl st) t s)))
  one : ∀ t u, T (fP (cF fl st) t s) = T (fP (cF fl st) u s) → fP (cF fl st) t s = fP (cF fl st) u s
theorem zj (hN : Net fl n) (h : Gh fl a n G (n - 1) st R T τ) (hv : v < n) (hR : R v = n) : ∀ k, k ≤ n → fP (cF fl st) k v < n ∧ n ≤ R (fP (cF fl st) k v) + k
  | 0, _ => ⟨hv, by show n ≤ R v + 0; omega⟩
  | k + 1, hk => by
    obtain ⟨h1, h2⟩ := zj hN h hv hR k (by omega)
    obtain ⟨b1, _, _, _, b5, _⟩ := h.way _ h1 (by omega)
    have hb := (hN.way b1.1).1
    show cF fl st (fP (cF fl st) k v) < n ∧ n ≤ R (cF fl st (fP (cF fl st) k v)) + (k + 1)
    unfold cF at *
    exact ⟨by omega, by omega⟩
theorem HN (hN : Net fl n) (h : Gh fl a n G (n - 1) st R T τ) (hv : v < n) (hR : R v = n) : Mi fl a n G st T (fP (cF fl st) n v) := by
  have hch := zj hN h hv hR
  generalize hf : cF fl st = f at *
  obtain ⟨i, j, hij, hjn, e⟩ : ∃ i j, i < j ∧ j ≤ n ∧ fP f i v = fP f j v := by
    refine Classical.byContradiction fun hno => ?_
    have hnd : ((List.range (n + 1)).map fun k => fP f k v).Nodup := by
      rw [List.nodup_iff_pairwise_ne, List.pairwise_map]
      refine List.pairwise_lt_range.imp_of_mem fun {x y} hx hy hlt e => hno ⟨x, y, hlt, ?_, e⟩
      have := List.mem_range.1 hy; omega
    have := mI (n := n) hnd fun y hy => by
      obtain ⟨k, hk, rfl⟩ := List.mem_map.1 hy
      have := List.mem_range.1 hk
      exact (hch k (by omega)).1
    rw [List.length_map, List.length_range] at this; omega
  have good : ∀ m, i ≤ m → ∃ m', m' < n ∧ fP f m v = fP f m' v := by
    intro m
    induction m using Nat.strongRecOn with
    | _ m ih =>
      intro hm
      by_cases c : m < j
      · exact ⟨m, by omega, rfl⟩
      · obtain ⟨m', h1, h2⟩ := ih (m - j + i) (by omega) (by omega)
        refine ⟨m', h1, ?_⟩
        rw [← h2, lA, e, ← lA]; congr 1; omega
  have all : ∀ t, fP f t (fP f n v) < n ∧ 0 < R (fP f t (fP f n v)) := fun t => by
    rw [← lA]
    obtain ⟨m', h1, h2⟩ := good (t + n) (by omega)
    rw [h2]
    have := hch m' (by omega)
    exact ⟨this.1, by omega⟩
  refine ⟨⟨j - i, by omega, by omega, ?_⟩, fun t => by rw [hf]; exact (all t).1, fun t => ?_, fun t u e => ?_⟩
  · rw [hf, ← lA, show j - i + n = (n - i) + j by omega, lA, ← e, ← lA]; congr 1; omega
  · rw [hf]
    obtain ⟨b1, b2, b3, b4, _, _⟩ := h.way _ (all t).1 (all t).2
    have e1 : fP f (t + 1) (fP f n v) = ((nth st.by_ (fP f t (fP f n v))).gp fl).toNat := by
      show f (fP f t (fP f n v)) = _; rw [← hf]; rfl
    rw [e1]
    exact ⟨b1, b2, b3, b4⟩
  · rw [hf] at *
    exact h.one _ _ (all t).1 (all u).1 (all t).2 (all u).2 e
def A5 (fl : List bp) (st : sI) (s : Nat) (x : Nat × List Way) : (Nat × List Way) ⊕ List Way :=
  if ¬ x.2 = [] ∧ x.1 = s then .inr x.2 else .inl (cF fl st x.1, x.2 ++ [nth st.by_ x.1])
noncomputable def pK (fl : List bp) (st : sI) (s : Nat) : List Way := m9 (A5 fl st s) (s, [])
structure DF (fl : List bp) (a : List Int) (n : Nat) (G : Nat → Int) (l : List Way) : Prop where
  ne : l ≠ []
  trail : ∃ s, Trail fl l s s
  ways : ∀ w ∈ l, Open fl a w
  nodup : l.Nodup
  adds : 0 < xH G l
  qL : l.length ≤ n
theorem IT (hN : Net fl n) (h : Mi fl a n G st T s) : DF fl a n G (pK fl st s) := by
  obtain ⟨p, ⟨hp1, hp2, hp3⟩, hmin⟩ := E9 h.back
  have hfin : ∀ t, (nth st.by_ (fP (cF fl st) t s)).fin fl = fP (cF fl st) t s := fun t => (h.way t).2.1
  have hbeg : ∀ t, (nth st.by_ (fP (cF fl st) t s)).gp fl = fP (cF fl st) (t + 1) s := fun t => by
    have := (hN.way (h.way t).1.1).1
    show _ = ((((nth st.by_ (fP (cF fl st) t s)).gp fl).toNat : Nat) : Int)
    omega
  have hone : ∀ t u, t < u → u < p → fP (cF fl st) t s ≠ fP (cF fl st) u s := fun t u htu hup e => by
    refine hmin (p - u + t) (by omega) ⟨by omega, by omega, ?_⟩
    rw [lA, e, ← lA, show p - u + u = p by omega, hp3]
  have hlist : pK fl st s = (List.range p).map fun t => nth st.by_ (fP (cF fl st) t s) := by
    refine nI (fun x => ∃ i, i ≤ p ∧ x = (fP (cF fl st) i s, (List.range i).map fun t => nth st.by_ (fP (cF fl st) t s))) (fun l => l = (List.range p).map fun t => nth st.by_ (fP (cF fl st) t s)) (fun x => p + 1 - x.2.length) (fun x hx => ?_) _ ⟨0, Nat.zero_le _, rfl⟩
    obtain ⟨i, hi, rfl⟩ := hx
    unfold A5
    by_cases e : i = p
    · subst e
      refine .inr ⟨_, if_pos ⟨fun e => ?_, hp3⟩, rfl⟩
      have := congrArg List.length e
      simp at this; omega
    · refine .inl ⟨_, if_neg fun ⟨e1, e2⟩ => ?_, ⟨i + 1, by omega, ?_⟩, ?_⟩
      · by_cases c : i = 0
        · subst c; exact e1 rfl
        · exact hmin i (by omega) ⟨by omega, by omega, e2⟩
      · rw [List.range_succ, List.map_append]; rfl
      · simp; omega
  have htr : ∀ k, Trail fl ((List.range k).map fun t => nth st.by_ (fP (cF fl st) t s)) s (fP (cF fl st) k s) := by
    intro k
    induction k with
    | zero => exact rfl
    | succ k ih =>
      rw [List.range_succ, List.map_append, List.map_singleton, ← hbeg k]
      exact tF ih (hfin k)
  rw [hlist]
  refine ⟨fun e => ?_, ⟨s, ?_⟩, fun w hw => ?_, ?_, ?_, by rw [List.length_map, List.length_range]; exact hp2⟩
  · have := congrArg List.length e
    simp at this; omega
  · have := htr p
    rwa [hp3] at this
  · obtain ⟨t, _, rfl⟩ := List.mem_map.1 hw
    exact (h.way t).1
  · rw [List.nodup_iff_pairwise_ne, List.pairwise_map]
    refine List.pairwise_lt_range.imp_of_mem fun {x y} hx hy hlt e => hone x y hlt (List.mem_range.1 hy) ?_
    have := congrArg (fun w => Way.fin w fl) e
    rw [hfin, hfin] at this; omega
  · unfold xH
    rw [List.map_map, yX]
    have h0 : cg (fun t => nth st.worth (fP (cF fl st) t s) - nth st.worth (fP (cF fl st) (t + 1) s)) p = 0 := by
      rw [yV (fun t => nth st.worth (fP (cF fl st) t s)), hp3]; show nth st.worth s - _ = 0; omega
    rw [← h0]
    obtain ⟨k, hk, hlt⟩ : ∃ k, k < p ∧ T (fP (cF fl st) k s) < T (fP (cF fl st) (k + 1) s) := by
      refine Classical.byContradiction fun hno => ?_
      have hdn : ∀ d t, t + d ≤ p → T (fP (cF fl st) (t + d) s) ≤ T (fP (cF fl st) t s) := by
        intro d
        induction d with
        | zero => intro t _; exact Nat.le_refl _
        | succ d ih =>
          intro t ht
          have h1 := ih t (by omega)
          have h2 : ¬ T (fP (cF fl st) (t + d) s) < T (fP (cF fl st) (t + d + 1) s) := fun h => hno ⟨t + d, by omega, h⟩
          show T (fP (cF fl st) (t + d + 1) s) ≤ _
          omega
      have h1 := hdn 1 0 (by omega)
      have h2 := hdn (p - 1) 1 (by omega)
      rw [show 1 + (p - 1) = p by omega, hp3] at h2
      have h3 : T (fP (cF fl st) 0 s) = T (fP (cF fl st) 1 s) := by
        show T s = _
        have h1 : T (fP (cF fl st) 1 s) ≤ T s := h1
        omega
      have h4 := h.one 0 1 h3
      have hne := (hN.way (h.way 0).1.1).2.2
      rw [hfin 0, hbeg 0, ← h4] at hne
      exact hne rfl
    refine zH hk (fun t _ => ?_) ?_
    · have := (h.way t).2.2.1
      show _ ≤ fj G (nth st.by_ (fP (cF fl st) t s)); omega
    · have := (h.way k).2.2.2 hlt
      show _ < fj G (nth st.by_ (fP (cF fl st) k s)); omega
noncomputable def cJ (fl : List bp) (a : List Int) (n : Nat) (G : Nat → Int) : List Way := match iR fl a n G with
  | none => []
  | some st => pK fl st (fP (cF fl st) n st.at_.toNat)
theorem uR (h : iR fl a n G = none) : cJ fl a n G = [] := by unfold cJ; rw [h]
theorem uX (h : iR fl a n G = some st) : cJ fl a n G = pK fl st (fP (cF fl st) n st.at_.toNat) := by unfold cJ; rw [h]
theorem uV (hN : Net fl n) (hn : 0 < n) (hG : ∀ i, -1 ≤ G i ∧ G i ≤ 1) : (cJ fl a n G = [] ∧ ∃ p : Int → Int, ∀ w, Open fl a w → p (w.gp fl) + fj G w ≤ p (w.fin fl)) ∨ DF fl a n G (cJ fl a n G) := by
  have h := Cw (a := a) hN hn hG
  cases e : iR fl a n G with
  | none =>
    rw [e] at h
    cases h with
    | none p hp => exact .inl ⟨uR e, p, hp⟩
  | some st =>
    rw [e] at h
    cases h with
    | some _ R T τ v h1 hv e1 hR =>
      rw [uX e, show st.at_.toNat = v by omega]
      exact .inr (IT hN (HN hN h1 hv hR))
noncomputable def stepG (fl : List bp) (n : Nat) (G : Nat → Int) (a : List Int) : List Int ⊕ List Int :=
  if cJ fl a n G = [] then .inr a else .inl (dZ a (cJ fl a n G) (ef fl a 300 (cJ fl a n G)))
noncomputable def gS (fl : List bp) (n : Nat) (G : Nat → Int) (a : List Int) : List Int := m9 (stepG fl n G) a
def k7 (fl : List bp) (G : Nat → Int) (a : List Int) : Int := cg (fun i => G i * nth a i) fl.length
def Bd (fl : List bp) : Prop := ∀ i, i < fl.length → 0 ≤ (nth fl i).lo ∧ (nth fl i).hi ≤ 300
theorem Dv (hB : Bd fl) (h : xP fl a) (hG : ∀ i, -1 ≤ G i ∧ G i ≤ 1) : k7 fl G a ≤ 300 * fl.length := by
 refine (nH (b := 300) fun i hi => ?_).2
 have h1 := hB i hi
 have h2 := h.2 i hi
 have h3 := hG i
 have : G i = -1 ∨ G i = 0 ∨ G i = 1 := by omega
 rcases this with e | e | e <;> rw [e] <;> omega
structure Lu (fl : List bp) (a : List Int) (n : Nat) (G : Nat → Int) (b : List Int) : Prop where
  feas : gW fl n b
  more : k7 fl G a < k7 fl G b
theorem tw (h : gW fl n a) {l : List Way} (hc : DF fl a n G l) : Lu fl a n G (dZ a l (ef fl a 300 l)) := by
 have hpos := qB (fl := fl) (a := a) (m := 300) (by decide) l hc.ways
 obtain ⟨_, hm⟩ := rQ (fl := fl) (a := a) 300 l
 have hix : ∀ w ∈ l, w.ix < fl.length := fun w hw => (hc.ways w hw).1
 obtain ⟨s, ht⟩ := hc.trail
 refine ⟨⟨wO (Int.le_of_lt hpos) l a h.1 hc.nodup fun w hw => ⟨hix w hw, hm w hw⟩, fun c hcn => ?_⟩, ?_⟩
 ·rw [s9 h.1.1 _ l a s s h.1.1 hix ht, h.2 c hcn]; omega
 unfold k7
 rw [xF G _ l a h.1.1 hix]
 have := Int.mul_pos hc.adds hpos
 omega
theorem yB (hN : Net fl n) (hn : 0 < n) (hB : Bd fl) (hG : ∀ i, -1 ≤ G i ∧ G i ≤ 1) (h : gW fl n a) : gW fl n (gS fl n G a) ∧ ∀ b, gW fl n b → k7 fl G b ≤ k7 fl G (gS fl n G a) := by
 refine nI (gW fl n) (fun r => gW fl n r ∧ ∀ b, gW fl n b → k7 fl G b ≤ k7 fl G r) (fun a => (300 * fl.length - k7 fl G a).toNat) (fun a h => ?_) a h
 unfold stepG
 rcases uV (a := a) hN hn hG with ⟨e, p, hp⟩ | hc
 ·rw [if_pos e]
  exact .inr ⟨a, rfl, h, fun b hb => GC hN h hb G p fun w ho => hp w ho⟩
 rw [if_neg hc.ne]
 have hb := tw h hc
 refine .inl ⟨_, rfl, hb.feas, ?_⟩
 have h1 := hb.more
 have h2 := Dv hB hb.feas.1 hG
 omega
end
end Go.Proofs.YtelbollidfdcjaaGreat
namespace Go.Proofs.YtelbollidfdcjaaGreat
open Go Go.T
structure Span where
  lo : Int
  hi : Int
deriving DecidableEq, Inhabited
structure sU where
  holds : Int
  first : Span
deriving DecidableEq, Inhabited
structure Move where
  day : Int
  src : Int
  dst : Int
  sacks : Span
deriving DecidableEq, Inhabited
structure Level where
  day : Int
  bin : Int
  sacks : Span
deriving DecidableEq, Inhabited
structure bA where
  days : Int
  bins : List sU
  moves : List Move
  levels : List Level
deriving DecidableEq, Inhabited
structure dL where
  first : List Int
  bN : List Int
deriving DecidableEq, Inhabited
def eo (s : Span) : Bool := qZ s.lo 0 300 && qZ s.hi 0 300
def fO (s : Span) : Bool := decide (s.lo ≤ s.hi)
def bA.bin (y : bA) (k : Int) : Bool := qZ k 0 (y.bins.length - 1)
def bA.time (y : bA) (k : Int) : Bool := qZ k 0 y.days
def bA.fin (y : bA) (k : Int) : Bool := decide (k = -1) || y.bin k
def kM (y : bA) : Bool := ((!qZ y.days 1 5 || !qZ y.bins.length 1 4) || decide ((y.moves.length : Int) > 10)) || decide ((y.levels.length : Int) > 8)
def jt (y : bA) : Bool := !y.bins.all (fun b => qZ b.holds 0 300 && eo b.first)
def iO (y : bA) : Bool := !y.moves.all (fun m => eo m.sacks) || !y.levels.all (fun l => eo l.sacks)
def xJ (y : bA) : Bool := !y.moves.all fun m => (qZ m.day 0 (y.days - 1) && y.fin m.src) && y.fin m.dst
def qQ (y : bA) : Bool := !y.levels.all fun l => y.time l.day && y.bin l.bin
def oW (y : bA) : Bool := !y.moves.all fun m => !decide (m.src = m.dst)
def om (y : bA) : Bool := (!y.bins.all (fun b => fO b.first) || !y.moves.all (fun m => fO m.sacks)) || !y.levels.all (fun l => fO l.sacks)
def bT (y : bA) : Int := if kM y = true then 2 else if jt y = true then 3 else if iO y = true then 3 else if xJ y = true then 1 else if qQ y = true then 1 else if oW y = true then 5 else if om y = true then 4 else 0
structure bA.cZ (y : bA) : Prop where
  days : 1 ≤ y.days ∧ y.days ≤ 5
  bins : 1 ≤ y.bins.length ∧ y.bins.length ≤ 4
  moves : y.moves.length ≤ 10
  levels : y.levels.length ≤ 8
  bin : ∀ b ∈ y.bins, (0 ≤ b.holds ∧ b.holds ≤ 300) ∧ (0 ≤ b.first.lo ∧ b.first.hi ≤ 300) ∧ b.first.lo ≤ b.first.hi
  move : ∀ m ∈ y.moves, (0 ≤ m.day ∧ m.day < y.days) ∧ (-1 ≤ m.src ∧ m.src < y.bins.length) ∧ (-1 ≤ m.dst ∧ m.dst < y.bins.length) ∧ m.src ≠ m.dst ∧ (0 ≤ m.sacks.lo ∧ m.sacks.hi ≤ 300) ∧ m.sacks.lo ≤ m.sacks.hi
  level : ∀ l ∈ y.levels, (0 ≤ l.day ∧ l.day ≤ y.days) ∧ (0 ≤ l.bin ∧ l.bin < y.bins.length) ∧ (0 ≤ l.sacks.lo ∧ l.sacks.hi ≤ 300) ∧ l.sacks.lo ≤ l.sacks.hi
theorem cy {y : bA} (h : bT y = 0) : y.cZ := by
  unfold bT at h
  have n0 : ∀ {c : Bool} {k x : Int}, k ≠ 0 → (if c = true then k else x) = 0 → c = false ∧ x = 0 := fun {c k x} hk h => by
    cases c with
    | true => exact absurd h hk
    | false => exact ⟨rfl, h⟩
  obtain ⟨h1, h⟩ := n0 (by decide) h
  obtain ⟨h2, h⟩ := n0 (by decide) h
  obtain ⟨h3, h⟩ := n0 (by decide) h
  obtain ⟨h4, h⟩ := n0 (by decide) h
  obtain ⟨h5, h⟩ := n0 (by decide) h
  obtain ⟨h6, h⟩ := n0 (by decide) h
  obtain ⟨h7, h⟩ := n0 (by decide) h
  simp only [kM, jt, iO, xJ, qQ, oW, om, Bool.or_eq_false_iff, Bool.not_eq_false', decide_eq_false_iff_not, List.all_eq_true, Bool.and_eq_true, dA, eo, fO, decide_eq_true_eq, bA.fin, bA.bin, bA.time, Bool.or_eq_true, Bool.not_eq_true', decide_eq_false_iff_not] at h1 h2 h3 h4 h5 h6 h7
  refine ⟨h1.1.1.1, by omega, by omega, by omega, fun b hb => ?_, fun m hm => ?_, fun l hl => ?_⟩
  · have a := h2 b hb; have c := h7.1.1 b hb
    exact ⟨a.1, ⟨a.2.1.1, a.2.2.2⟩, c⟩
  · have a := h3.1 m hm; have c := h4 m hm; have d := h6 m hm; have e := h7.1.2 m hm
    refine ⟨by omega, by omega, by omega, d, ⟨a.1.1, a.2.2⟩, e⟩
  · have a := h3.2 l hl; have c := h5 l hl; have e := h7.2 l hl
    refine ⟨by omega, by omega, ⟨a.1.1, a.2.2⟩, e⟩
section
variable {y : bA} {c : Nat → Bool} {a : dL} {b t : Nat}
def bA.D (y : bA) : Nat := y.days.toNat
def bA.cells (y : bA) : Nat := y.bins.length * y.D
def bA.cell (y : bA) (bin day : Int) : Int := if bin = -1 then (y.bins.length : Int) * y.days else bin * y.days + day
def gK (y : bA) (c : Nat → Bool) (b t : Nat) (s : Span) : Nat → Span
  | 0 => s
  | k + 1 => if ((c k && decide ((nth y.levels k).bin = b)) && decide ((nth y.levels k).day = t)) = true then ⟨max (gK y c b t s k).lo (nth y.levels k).sacks.lo, min (gK y c b t s k).hi (nth y.levels k).sacks.hi⟩ else gK y c b t s k
def g9 (y : bA) (b t : Nat) : Span := if 0 < t then ⟨0, (nth y.bins b).holds⟩ else ⟨max 0 (nth y.bins b).first.lo, min (nth y.bins b).holds (nth y.bins b).first.hi⟩
def uN (y : bA) (c : Nat → Bool) (b t : Nat) : Span := gK y c b t (g9 y b t) y.levels.length
def DV (y : bA) (c : Nat → Bool) (b t : Nat) : bp := ⟨if 0 < t then y.cell b ((t : Int) - 1) else y.cells, if t < y.D then y.cell b t else y.cells, (uN y c b t).lo, (uN y c b t).hi⟩
def Kr (y : bA) (m : Move) : bp := ⟨y.cell m.src m.day, y.cell m.dst m.day, m.sacks.lo, m.sacks.hi⟩
def Dm (y : bA) (c : Nat → Bool) : List bp := (List.range y.bins.length).flatMap fun b => (List.range (y.D + 1)).map (DV y c b)
def aR (y : bA) (c : Nat → Bool) : List bp := Dm y c ++ y.moves.map (Kr y)
theorem Ay (s : Span) : ∀ k, s.lo ≤ (gK y c b t s k).lo ∧ (gK y c b t s k).hi ≤ s.hi
  | 0 => ⟨Int.le_refl _, Int.le_refl _⟩
  | k + 1 => by
    have := Ay s k
    unfold gK; split
    · show s.lo ≤ max _ _ ∧ min _ _ ≤ s.hi; omega
    · exact this
theorem lM {α β : Type} (f : α → List β) (k : Nat) : ∀ (l : List α), (∀ x ∈ l, (f x).length = k) → (l.flatMap f).length = l.length * k
  | [], _ => by simp
  | x :: l, h => by rw [List.flatMap_cons, List.length_append, h x List.mem_cons_self, lM f k l fun y hy => h y (List.mem_cons_of_mem _ hy), List.length_cons, Nat.succ_mul]; omega
theorem sZ {α : Type} [Inhabited α] (f : Nat → List α) (k : Nat) : ∀ (n b t : Nat), (∀ i, i < n → (f i).length = k) → b < n → t < k → nth ((List.range n).flatMap f) (b * k + t) = nth (f b) t
  | 0, _, _, _, h, _ => by omega
  | n + 1, b, t, hf, hb, ht => by
    have hl : ((List.range n).flatMap f).length = n * k := by rw [lM f k _ fun x hx => hf x (by have := List.mem_range.1 hx; omega), List.length_range]
    rw [List.range_succ, List.flatMap_append, List.flatMap_singleton]
    by_cases e : b = n
    · subst e
      unfold nth
      rw [List.getD_eq_getElem?_getD, List.getD_eq_getElem?_getD, List.getElem?_append_right (by omega), hl, Nat.add_sub_cancel_left]
    · have hlt : b * k + t < n * k := by
        have : (b + 1) * k ≤ n * k := Nat.mul_le_mul_right _ (by omega)
        rw [Nat.succ_mul] at this; omega
      rw [← sZ f k n b t (fun i hi => hf i (by omega)) (by omega) ht]
      unfold nth
      rw [List.getD_eq_getElem?_getD, List.getD_eq_getElem?_getD, List.getElem?_append_left (by omega)]
theorem fL {α : Type} [Inhabited α] (f : Nat → α) {n k : Nat} (h : k < n) : nth ((List.range n).map f) k = f k := by
 unfold nth; rw [List.getD_eq_getElem?_getD, List.getElem?_map, List.getElem?_range h]; rfl
theorem Ae {α β : Type} [Inhabited α] [Inhabited β] (f : α → β) {l : List α} {k : Nat} (h : k < l.length) : nth (l.map f) k = f (nth l k) := by
 unfold nth; rw [List.getD_eq_getElem?_getD, List.getD_eq_getElem?_getD, List.getElem?_map, List.getElem?_eq_getElem h]; rfl
theorem wh : (Dm y c).length = y.bins.length * (y.D + 1) := by
 unfold Dm; rw [lM _ (y.D + 1) _ fun x _ => by rw [List.length_map, List.length_range], List.length_range]
theorem fA : (aR y c).length = y.bins.length * (y.D + 1) + y.moves.length := by unfold aR; rw [List.length_append, wh, List.length_map]
def bA.kept (y : bA) (b t : Nat) : Nat := b * (y.D + 1) + t
theorem pW (hb : b < y.bins.length) (ht : t ≤ y.D) : y.kept b t < y.bins.length * (y.D + 1) := by
 have : (b + 1) * (y.D + 1) ≤ y.bins.length * (y.D + 1) := Nat.mul_le_mul_right _ hb
 unfold bA.kept; rw [Nat.succ_mul] at this; omega
theorem jQ {α : Type} [Inhabited α] {l k : List α} {i : Nat} (h : i < l.length) : nth (l ++ k) i = nth l i := by
 unfold nth; rw [List.getD_eq_getElem?_getD, List.getD_eq_getElem?_getD, List.getElem?_append_left h]
theorem m6 {α : Type} [Inhabited α] {l k : List α} {i : Nat} : nth (l ++ k) (l.length + i) = nth k i := by
 unfold nth; rw [List.getD_eq_getElem?_getD, List.getD_eq_getElem?_getD, List.getElem?_append_right (by omega), Nat.add_sub_cancel_left]
theorem iM (hb : b < y.bins.length) (ht : t ≤ y.D) : nth (aR y c) (y.kept b t) = DV y c b t := by
 have h := pW hb ht
 unfold aR
 rw [jQ (by rw [wh]; exact h)]
 unfold Dm bA.kept
 rw [sZ _ (y.D + 1) _ b t (fun i _ => by rw [List.length_map, List.length_range]) hb (by omega), fL _ (by omega)]
theorem iL {i : Nat} (h : i < y.moves.length) : nth (aR y c) (y.bins.length * (y.D + 1) + i) = Kr y (nth y.moves i) := by
 unfold aR
 rw [← wh (c := c), m6, Ae _ h]
theorem n4 {k : Nat} (h : k < (aR y c).length) : (∃ b t, b < y.bins.length ∧ t ≤ y.D ∧ k = y.kept b t) ∨ ∃ i, i < y.moves.length ∧ k = y.bins.length * (y.D + 1) + i := by
 rw [fA] at h
 by_cases c : k < y.bins.length * (y.D + 1)
 ·refine .inl ⟨k / (y.D + 1), k % (y.D + 1), (Nat.div_lt_iff_lt_mul (by omega)).2 c, Nat.lt_succ_iff.1 (Nat.mod_lt _ (by omega)), ?_⟩
  unfold bA.kept
  have := Nat.div_add_mod k (y.D + 1)
  rw [Nat.mul_comm] at this; omega
 exact .inr ⟨k - y.bins.length * (y.D + 1), by omega, by omega⟩
end
end Go.Proofs.YtelbollidfdcjaaGreat
namespace Go.Proofs.YtelbollidfdcjaaGreat
open Go Go.T
theorem mC (f : Nat → Int) (m : Nat) : ∀ k, cg f (m + k) = cg f m + cg (fun i => f (m + i)) k
  | 0 => by simp [cg]
  | k + 1 => by show cg f (m + k) + f (m + k) = _ + (_ + f (m + k)); rw [mC f m k]; omega
theorem rA (f : Nat → Int) (k : Nat) : ∀ n, cg f (n * k) = cg (fun b => cg (fun t => f (b * k + t)) k) n
  | 0 => by rw [Nat.zero_mul]; rfl
  | n + 1 => by rw [Nat.succ_mul, mC, rA f k n]; rfl
theorem rW {b b' d d' D : Nat} (h : d < D) (h' : d' < D) (e : b * D + d = b' * D + d') : b = b' ∧ d = d' := by
 rcases Nat.lt_trichotomy b b' with h1 | h1 | h1
 ·have := Nat.mul_le_mul_right D (show b + 1 ≤ b' from h1)
  rw [Nat.succ_mul] at this; omega
 ·subst h1; omega
 have := Nat.mul_le_mul_right D (show b' + 1 ≤ b from h1)
 rw [Nat.succ_mul] at this; omega
section
variable {y : bA} {c : Nat → Bool} {a : dL} {x : List Int} {b t : Nat}
theorem D_eq (hr : y.cZ) : (y.D : Int) = y.days := by have := hr.days; unfold bA.D; omega
theorem k8 (hb : b < y.bins.length) (ht : t < y.D) : b * y.D + t < y.cells := by
 have := Nat.mul_le_mul_right y.D (show b + 1 ≤ y.bins.length from hb)
 unfold bA.cells; rw [Nat.succ_mul] at this; omega
theorem nG (hr : y.cZ) (b t : Nat) : y.cell b t = ((b * y.D + t : Nat) : Int) := by
 unfold bA.cell
 rw [if_neg (by omega), ← D_eq hr]; simp
theorem ry (hr : y.cZ) (d : Int) : y.cell (-1) d = (y.cells : Nat) := by
 unfold bA.cell bA.cells
 rw [if_pos rfl, ← D_eq hr]; simp
theorem nu (hr : y.cZ) {s d : Int} (hs : -1 ≤ s ∧ s < y.bins.length) (hd : 0 ≤ d ∧ d < y.days) (hb : b < y.bins.length) (ht : t < y.D) : y.cell s d = ((b * y.D + t : Nat) : Int) ↔ s = b ∧ d = t := by
 have hD := D_eq hr
 by_cases e : s = -1
 ·subst e
  rw [ry hr]
  have := k8 hb ht
  constructor
  ·intro h; omega
  intro h; omega
 obtain ⟨s', rfl⟩ : ∃ s' : Nat, s = s' := ⟨s.toNat, by omega⟩
 obtain ⟨d', rfl⟩ : ∃ d' : Nat, d = d' := ⟨d.toNat, by omega⟩
 rw [nG hr]
 constructor
 ·intro h
  obtain ⟨h1, h2⟩ := rW (D := y.D) (show d' < y.D by omega) ht (Int.ofNat.inj h)
  exact ⟨by rw [h1], by rw [h2]⟩
 rintro ⟨h1, h2⟩
 have h1 : s' = b := by omega
 have h2 : d' = t := by omega
 rw [h1, h2]
theorem vp (hr : y.cZ) {s d : Int} (hs : -1 ≤ s ∧ s < y.bins.length) (hd : 0 ≤ d ∧ d < y.days) : 0 ≤ y.cell s d ∧ y.cell s d < ((y.cells + 1 : Nat) : Int) := by
 have hD := D_eq hr
 by_cases e : s = -1
 ·subst e; rw [ry hr]; omega
 obtain ⟨s', rfl⟩ : ∃ s' : Nat, s = s' := ⟨s.toNat, by omega⟩
 obtain ⟨d', rfl⟩ : ∃ d' : Nat, d = d' := ⟨d.toNat, by omega⟩
 rw [nG hr]
 have := k8 (y := y) (b := s') (t := d') (by omega) (by omega)
 omega
theorem va (hr : y.cZ) (ht : t ≤ y.D) : (DV y c b t).src = ((if 0 < t then b * y.D + (t - 1) else y.cells : Nat) : Int) := by
 show (if 0 < t then y.cell b ((t : Int) - 1) else (y.cells : Int)) = _
 by_cases e : 0 < t
 ·rw [if_pos e, if_pos e, show (t : Int) - 1 = ((t - 1 : Nat) : Int) by omega, nG hr]
 rw [if_neg e, if_neg e]
theorem wY (hr : y.cZ) : (DV y c b t).dst = ((if t < y.D then b * y.D + t else y.cells : Nat) : Int) := by
 show (if t < y.D then y.cell b t else (y.cells : Int)) = _
 by_cases e : t < y.D
 ·rw [if_pos e, if_pos e, nG hr]
 rw [if_neg e, if_neg e]
theorem lf (hr : y.cZ) : Net (aR y c) (y.cells + 1) := by
 have hD := D_eq hr
 have hd := hr.days
 refine ⟨fun i hi => ?_, fun i hi => ?_, fun i hi => ?_⟩
 ·rcases n4 hi with ⟨b, t, hb, ht, rfl⟩ | ⟨k, hk, rfl⟩
  ·rw [iM hb ht, va hr ht]
   split
   ·have := k8 (y := y) (b := b) (t := t - 1) hb (by omega); omega
   omega
  rw [iL hk]
  obtain ⟨h1, h2, _⟩ := hr.move _ (cR hk)
  exact vp hr h2 h1
 ·rcases n4 hi with ⟨b, t, hb, ht, rfl⟩ | ⟨k, hk, rfl⟩
  ·rw [iM hb ht, wY hr]
   split
   ·have := k8 (y := y) (b := b) (t := t) hb (by omega); omega
   omega
  rw [iL hk]
  obtain ⟨h1, _, h3, _⟩ := hr.move _ (cR hk)
  exact vp hr h3 h1
 rcases n4 hi with ⟨b, t, hb, ht, rfl⟩ | ⟨k, hk, rfl⟩
 ·rw [iM hb ht, wY hr, va hr ht]
  by_cases e1 : 0 < t <;> by_cases e2 : t < y.D
  ·rw [if_pos e1, if_pos e2]; omega
  ·rw [if_pos e1, if_neg e2]
   have := k8 (y := y) (b := b) (t := t - 1) hb (by omega); omega
  ·rw [if_neg e1, if_pos e2]
   have := k8 (y := y) (b := b) (t := t) hb (by omega); omega
  omega
 rw [iL hk]
 obtain ⟨h1, h2, h3, h4, _⟩ := hr.move _ (cR hk)
 show y.cell _ _ ≠ y.cell _ _
 intro e
 by_cases e1 : (nth y.moves k).dst = -1
 ·by_cases e2 : (nth y.moves k).src = -1
  ·exact h4 (e2.trans e1.symm)
  obtain ⟨s, hs⟩ : ∃ s : Nat, (nth y.moves k).src = s := ⟨(nth y.moves k).src.toNat, by omega⟩
  obtain ⟨d, hd⟩ : ∃ d : Nat, (nth y.moves k).day = d := ⟨(nth y.moves k).day.toNat, by omega⟩
  rw [e1, hs, hd, ry hr, nG hr] at e
  have := k8 (y := y) (b := s) (t := d) (by omega) (by omega)
  omega
 obtain ⟨s, hs⟩ : ∃ s : Nat, (nth y.moves k).dst = s := ⟨(nth y.moves k).dst.toNat, by omega⟩
 obtain ⟨d, hd⟩ : ∃ d : Nat, (nth y.moves k).day = d := ⟨(nth y.moves k).day.toNat, by omega⟩
 have e' : y.cell (nth y.moves k).src (nth y.moves k).day = ((s * y.D + d : Nat) : Int) := by rw [e, hs, hd, nG hr]
 have := (nu hr h2 h1 (show s < y.bins.length by omega) (show d < y.D by omega)).1 e'
 exact h4 (this.1.trans hs.symm)
def oL (y : bA) (m : List Int) (b : Nat) (i : Nat) : Int := (ind ((nth y.moves i).dst = b) - ind ((nth y.moves i).src = b)) * nth m i
def cV (y : bA) (a : dL) (b t : Nat) : Int := nth a.first b + cg (fun i => if (nth y.moves i).day < t then oL y a.bN b i else 0) y.moves.length
def GM (y : bA) (m : List Int) (b t : Nat) : Int := cg (fun i => if (nth y.moves i).day = t then oL y m b i else 0) y.moves.length
theorem nF (hr : y.cZ) : cV y a b 0 = nth a.first b := by
 unfold cV
 rw [gP fun i hi => by have := (hr.move _ (cR hi)).1; rw [if_neg (by omega)]]; omega
theorem sx : cV y a b (t + 1) = cV y a b t + GM y a.bN b t := by
 unfold cV GM
 rw [Int.add_assoc, ← wo]
 congr 1
 refine fE fun i _ => ?_
 by_cases e : (nth y.moves i).day < (t : Int)
 ·rw [if_pos e, if_pos (by omega), if_neg (by omega)]; omega
 by_cases e2 : (nth y.moves i).day = t
 ·rw [if_neg e, if_pos (by omega), if_pos e2]; omega
 rw [if_neg e, if_neg (by omega), if_neg e2]; rfl
theorem yl (hr : y.cZ) (hx : x.length = (aR y c).length) (hb : b < y.bins.length) (ht : t < y.D) :
 over (aR y c) x ((b * y.D + t : Nat) : Int) = nth x (y.kept b t) - nth x (y.kept b (t + 1)) + GM y (x.drop (y.bins.length * (y.D + 1))) b t := by
 unfold over
 rw [fA, mC, rA]
 congr 1
 ·have hcl := k8 hb ht
  have key : ∀ b' t', b' < y.bins.length → t' < y.D + 1 → (ind ((nth (aR y c) (b' * (y.D + 1) + t')).dst = ((b * y.D + t : Nat) : Int)) - ind ((nth (aR y c) (b' * (y.D + 1) + t')).src = ((b * y.D + t : Nat) : Int))) * nth x (b' * (y.D + 1) + t') = (ind (b' = b ∧ t' = t) - ind (b' = b ∧ t' = t + 1)) * nth x (b' * (y.D + 1) + t') := by
   intro b' t' hb' ht'
   have hk := iM (c := c) hb' (show t' ≤ y.D by omega)
   unfold bA.kept at hk
   rw [hk, wY hr, va hr (by omega)]
   congr 1
   have e1 : ind (((if t' < y.D then b' * y.D + t' else y.cells : Nat) : Int) = ((b * y.D + t : Nat) : Int)) = ind (b' = b ∧ t' = t) := by
    by_cases e : t' < y.D
    ·rw [if_pos e]
     by_cases h : b' = b ∧ t' = t
     ·rw [eZ h, eZ (by rw [h.1, h.2])]
     have hne : ¬ (((b' * y.D + t' : Nat) : Int) = ((b * y.D + t : Nat) : Int)) := fun e' => h (rW e ht (Int.ofNat.inj e'))
     rw [dm h, dm hne]
    rw [if_neg e, dm (by omega), dm (by omega)]
   have e2 : ind (((if 0 < t' then b' * y.D + (t' - 1) else y.cells : Nat) : Int) = ((b * y.D + t : Nat) : Int)) = ind (b' = b ∧ t' = t + 1) := by
    by_cases e : 0 < t'
    ·rw [if_pos e]
     by_cases h : b' = b ∧ t' = t + 1
     ·rw [eZ h, eZ (by rw [h.1, h.2]; rfl)]
     have hne : ¬ (((b' * y.D + (t' - 1) : Nat) : Int) = ((b * y.D + t : Nat) : Int)) := fun e' => h (by have := rW (show t' - 1 < y.D by omega) ht (Int.ofNat.inj e'); omega)
     rw [dm h, dm hne]
    rw [if_neg e, dm (by omega), dm (by omega)]
   rw [e1, e2]
  rw [fE fun b' hb' => fE fun t' ht' => key b' t' hb' ht']
  rw [jf hb fun b' _ hn => gP fun t' _ => by rw [dm (fun h => hn h.1), dm (fun h => hn h.1)]; simp]
  rw [fE (g := fun t' => ind (t' = t) * nth x (b * (y.D + 1) + t') - ind (t' = t + 1) * nth x (b * (y.D + 1) + t')) fun t' _ => by
   rw [Int.sub_mul]; congr 2 <;> (unfold ind; simp)]
  rw [kR, jf (k := t) (by omega) fun i _ hn => by rw [dm hn, Int.zero_mul], jf (k := t + 1) (by omega) fun i _ hn => by rw [dm hn, Int.zero_mul], eZ rfl, eZ rfl, Int.one_mul, Int.one_mul]
  rfl
 unfold GM oL
 refine fE fun i hi => ?_
 obtain ⟨h1, h2, h3, _⟩ := hr.move _ (cR hi)
 rw [iL hi]
 show (ind (y.cell _ _ = _) - ind (y.cell _ _ = _)) * _ = _
 have e0 : nth (x.drop (y.bins.length * (y.D + 1))) i = nth x (y.bins.length * (y.D + 1) + i) := by
  unfold nth; rw [List.getD_eq_getElem?_getD, List.getD_eq_getElem?_getD, List.getElem?_drop]
 rw [e0]
 by_cases e : (nth y.moves i).day = t
 ·rw [if_pos e]
  congr 2
  ·by_cases h : (nth y.moves i).dst = b
   ·rw [eZ h, eZ ((nu hr h3 h1 hb ht).2 ⟨h, e⟩)]
   rw [dm h, dm fun e' => h ((nu hr h3 h1 hb ht).1 e').1]
  by_cases h : (nth y.moves i).src = b
  ·rw [eZ h, eZ ((nu hr h2 h1 hb ht).2 ⟨h, e⟩)]
  rw [dm h, dm fun e' => h ((nu hr h2 h1 hb ht).1 e').1]
 rw [if_neg e, dm fun e' => e ((nu hr h3 h1 hb ht).1 e').2, dm fun e' => e ((nu hr h2 h1 hb ht).1 e').2]; simp
theorem Eb (hr : y.cZ) (h : ∀ b t, b < y.bins.length → t < y.D → over (aR y c) x ((b * y.D + t : Nat) : Int) = 0) : Bc (aR y c) (y.cells + 1) x := by
 have hin : ∀ k, k < y.cells → over (aR y c) x (k : Nat) = 0 := fun k hk => by
  have hD : 0 < y.D := by have := D_eq hr; have := hr.days; omega
  have e := Nat.div_add_mod k y.D
  rw [Nat.mul_comm] at e
  rw [← e]
  exact h _ _ ((Nat.div_lt_iff_lt_mul hD).2 hk) (Nat.mod_lt _ hD)
 intro k hk
 by_cases e : k < y.cells
 ·exact hin k e
 obtain rfl : k = y.cells := by omega
 have h0 := At (a := x) (lf (c := c) hr)
 unfold cg at h0
 rw [gP fun i hi => hin i hi] at h0
 omega
def ku (y : bA) (a : dL) : List Int := ((List.range y.bins.length).flatMap fun b => (List.range (y.D + 1)).map (cV y a b)) ++ a.bN
def gL (y : bA) (x : List Int) : dL := ⟨(List.range y.bins.length).map fun b => nth x (y.kept b 0), x.drop (y.bins.length * (y.D + 1))⟩
structure wX (y : bA) (a : dL) : Prop where
  first : a.first.length = y.bins.length
  bN : a.bN.length = y.moves.length
theorem pS (h : wX y a) : (ku y a).length = (aR y c).length := by
 unfold ku
 rw [List.length_append, lM _ (y.D + 1) _ fun x _ => by rw [List.length_map, List.length_range], List.length_range, h.bN, fA]
theorem j7 (hb : b < y.bins.length) (ht : t ≤ y.D) : nth (ku y a) (y.kept b t) = cV y a b t := by
 unfold ku
 rw [jQ (by rw [lM _ (y.D + 1) _ fun x _ => by rw [List.length_map, List.length_range], List.length_range]; exact pW hb ht)]
 unfold bA.kept
 rw [sZ _ (y.D + 1) _ b t (fun i _ => by rw [List.length_map, List.length_range]) hb (by omega), fL _ (by omega)]
theorem rH : (ku y a).drop (y.bins.length * (y.D + 1)) = a.bN := by
 unfold ku
 refine List.drop_left' ?_
 rw [lM _ (y.D + 1) _ fun x _ => by rw [List.length_map, List.length_range], List.length_range]
theorem rX {n i : Nat} : nth (x.drop n) i = nth x (n + i) := by
 unfold nth; rw [List.getD_eq_getElem?_getD, List.getD_eq_getElem?_getD, List.getElem?_drop]
theorem qm {i : Nat} : nth (ku y a) (y.bins.length * (y.D + 1) + i) = nth a.bN i := by
 rw [← rX, rH]
theorem Ch (hr : y.cZ) (h : wX y a) : Bc (aR y c) (y.cells + 1) (ku y a) := by
 refine Eb hr fun b t hb ht => ?_
 rw [yl hr (pS h) hb ht, j7 hb (by omega), j7 hb (by omega), rH, sx]; omega
theorem sW (hx : x.length = (aR y c).length) : wX y (gL y x) := by
 rw [fA] at hx
 exact ⟨by unfold gL; rw [List.length_map, List.length_range], by unfold gL; rw [List.length_drop]; omega⟩
theorem pO (hr : y.cZ) (hx : x.length = (aR y c).length) (he : Bc (aR y c) (y.cells + 1) x) (hb : b < y.bins.length) : ∀ t, t ≤ y.D → cV y (gL y x) b t = nth x (y.kept b t)
  | 0, _ => by rw [nF hr]; exact fL _ hb
  | t + 1, ht => by
    rw [sx, pO hr hx he hb t (by omega)]
    have h := yl (c := c) hr hx hb (show t < y.D by omega)
    rw [he _ (by have := k8 (y := y) hb (show t < y.D by omega); omega)] at h
    show _ + GM y (x.drop _) b t = _
    omega
structure iV (y : bA) (c : Nat → Bool) (a : dL) : Prop where
  lens : wX y a
  first : ∀ b, b < y.bins.length → (nth y.bins b).first.lo ≤ nth a.first b ∧ nth a.first b ≤ (nth y.bins b).first.hi
  cont : ∀ b t, b < y.bins.length → t ≤ y.D → 0 ≤ cV y a b t ∧ cV y a b t ≤ (nth y.bins b).holds
  bN : ∀ i, i < y.moves.length → (nth y.moves i).sacks.lo ≤ nth a.bN i ∧ nth a.bN i ≤ (nth y.moves i).sacks.hi
  level : ∀ i, i < y.levels.length → c i = true → (nth y.levels i).sacks.lo ≤ cV y a (nth y.levels i).bin.toNat (nth y.levels i).day.toNat ∧ cV y a (nth y.levels i).bin.toNat (nth y.levels i).day.toNat ≤ (nth y.levels i).sacks.hi
theorem sX {s : Span} {v : Int} : ∀ k, ((gK y c b t s k).lo ≤ v ∧ v ≤ (gK y c b t s k).hi) ↔ (s.lo ≤ v ∧ v ≤ s.hi) ∧ ∀ i, i < k → c i = true → (nth y.levels i).bin = b → (nth y.levels i).day = t → (nth y.levels i).sacks.lo ≤ v ∧ v ≤ (nth y.levels i).sacks.hi
  | 0 => ⟨fun h => ⟨h, fun i hi => by omega⟩, fun h => h.1⟩
  | k + 1 => by
    have ih := sX (s := s) (v := v) k
    unfold gK
    split
    · rename_i hc
      simp only [Bool.and_eq_true, decide_eq_true_eq] at hc
      constructor
      · intro h
        have h : max _ _ ≤ v ∧ v ≤ min _ _ := h
        obtain ⟨h1, h2⟩ := ih.1 ⟨by omega, by omega⟩
        refine ⟨h1, fun i hi hci hb ht => ?_⟩
        by_cases e : i = k
        · subst e; exact ⟨by omega, by omega⟩
        · exact h2 i (by omega) hci hb ht
      · rintro ⟨h1, h2⟩
        have h3 := ih.2 ⟨h1, fun i hi => h2 i (by omega)⟩
        have h4 := h2 k (by omega) hc.1.1 hc.1.2 hc.2
        show max _ _ ≤ v ∧ v ≤ min _ _
        omega
    · rename_i hc
      simp only [Bool.and_eq_true, decide_eq_true_eq, not_and] at hc
      rw [ih]
      constructor
      · rintro ⟨h1, h2⟩
        refine ⟨h1, fun i hi hci hb ht => ?_⟩
        by_cases e : i = k
        · subst e; exact absurd ht (hc ⟨hci, hb⟩)
        · exact h2 i (by omega) hci hb ht
      · rintro ⟨h1, h2⟩
        exact ⟨h1, fun i hi => h2 i (by omega)⟩
theorem An (hr : y.cZ) (hl : wX y a) : iV y c a ↔ xP (aR y c) (ku y a) := by
 have hD := D_eq hr
 constructor
 ·intro h
  refine ⟨pS hl, fun i hi => ?_⟩
  rcases n4 hi with ⟨b, t, hb, ht, rfl⟩ | ⟨k, hk, rfl⟩
  ·rw [iM hb ht, j7 hb ht]
   show (uN y c b t).lo ≤ _ ∧ _ ≤ (uN y c b t).hi
   unfold uN
   refine (sX _).2 ⟨?_, fun i hi hc e1 e2 => ?_⟩
   ·have h1 := h.cont b t hb ht
    unfold g9
    split
    ·exact h1
    rename_i e
    obtain rfl : t = 0 := by omega
    rw [nF hr] at *
    have h2 := h.first b hb
    show max _ _ ≤ _ ∧ _ ≤ min _ _; omega
   have := h.level i hi hc
   rw [e1, e2] at this; exact this
  rw [iL hk, qm]; exact h.bN k hk
 intro h
 have hk : ∀ b t, b < y.bins.length → t ≤ y.D → ((g9 y b t).lo ≤ cV y a b t ∧ cV y a b t ≤ (g9 y b t).hi) ∧ ∀ i, i < y.levels.length → c i = true → (nth y.levels i).bin = b → (nth y.levels i).day = t → (nth y.levels i).sacks.lo ≤ cV y a b t ∧ cV y a b t ≤ (nth y.levels i).sacks.hi := fun b t hb ht => by
  have h1 := h.2 (y.kept b t) (by rw [fA]; have := pW hb ht; omega)
  rw [iM hb ht, j7 hb ht] at h1
  exact (sX _).1 h1
 refine ⟨hl, fun b hb => ?_, fun b t hb ht => ?_, fun i hi => ?_, fun i hi hc => ?_⟩
 ·have h1 := (hk b 0 hb (Nat.zero_le _)).1
  unfold g9 at h1
  rw [if_neg (by omega), nF hr] at h1
  have h1 : max _ _ ≤ _ ∧ _ ≤ min _ _ := h1
  omega
 ·have h1 := (hk b t hb ht).1
  unfold g9 at h1
  split at h1
  ·exact h1
  have h1 : max _ _ ≤ _ ∧ _ ≤ min _ _ := h1
  omega
 ·have h1 := h.2 (y.bins.length * (y.D + 1) + i) (by rw [fA]; omega)
  rw [iL hi, qm] at h1; exact h1
 obtain ⟨h1, h2, _⟩ := hr.level _ (cR hi)
 exact (hk (nth y.levels i).bin.toNat (nth y.levels i).day.toNat (by omega) (by omega)).2 i hi hc (by omega) (by omega)
theorem C0 (hr : y.cZ) (hx : x.length = (aR y c).length) (he : Bc (aR y c) (y.cells + 1) x) {i : Nat} (hi : i < (aR y c).length) : nth (ku y (gL y x)) i = nth x i := by
 rcases n4 hi with ⟨b, t, hb, ht, rfl⟩ | ⟨k, hk, rfl⟩
 ·rw [j7 hb ht, pO hr hx he hb t ht]
 rw [qm]; show nth (x.drop _) k = _; rw [rX]
theorem qH (hr : y.cZ) (h : gW (aR y c) (y.cells + 1) x) : iV y c (gL y x) := by
 refine (An hr (sW h.1.1)).2 ⟨pS (sW h.1.1), fun i hi => ?_⟩
 rw [C0 hr h.1.1 h.2 hi]; exact h.1.2 i hi
theorem jI (hr : y.cZ) (h : iV y c a) : gW (aR y c) (y.cells + 1) (ku y a) := ⟨(An hr h.lens).1 h, Ch hr h.lens⟩
theorem ux (hr : y.cZ) : Bd (aR y c) := fun i hi => by
 rcases n4 hi with ⟨b, t, hb, ht, rfl⟩ | ⟨k, hk, rfl⟩
 ·rw [iM hb ht]
  obtain ⟨h1, h2, h3⟩ := hr.bin _ (cR hb)
  have h4 := Ay (y := y) (c := c) (b := b) (t := t) (g9 y b t) y.levels.length
  show 0 ≤ (uN y c b t).lo ∧ (uN y c b t).hi ≤ 300
  unfold uN
  have h5 : 0 ≤ (g9 y b t).lo ∧ (g9 y b t).hi ≤ 300 := by
   unfold g9; split
   ·exact ⟨Int.le_refl _, h1.2⟩
   show 0 ≤ max _ _ ∧ min _ _ ≤ 300; omega
  omega
 rw [iL hk]
 exact (hr.move _ (cR hk)).2.2.2.2.1
end
end Go.Proofs.YtelbollidfdcjaaGreat
namespace Go.Proofs.YtelbollidfdcjaaGreat
open Go Go.T
section
variable {fl : List bp} {a x : List Int} {n : Nat} {has : Nat → Bool}
def cm (has : Nat → Bool) (less : Bool) (i : Nat) : Int := if has i = true then (if less = true then -1 else 1) else 0
theorem sF (less : Bool) (i : Nat) : -1 ≤ cm has less i ∧ cm has less i ≤ 1 := by
 unfold cm; split
 ·split <;> omega
 omega
def jF (fl : List bp) (has : Nat → Bool) (x : List Int) : Int := cg (fun i => if has i = true then nth x i else 0) fl.length
theorem ym : k7 fl (cm has false) x = jF fl has x := by
 unfold k7 jF cm
 refine fE fun i _ => ?_
 cases has i <;> simp
theorem yj : k7 fl (cm has true) x = - jF fl has x := by
 unfold k7 jF cm
 have e : (fun i => (if has i = true then (if (true = true) then (-1 : Int) else 1) else 0) * nth x i) = fun i => (-1) * (if has i = true then nth x i else 0) := by
  funext i
  cases has i <;> simp
 rw [e, rZ]; omega
structure nV (fl : List bp) (n : Nat) (has : Nat → Bool) (s : Span) : Prop where
  lo : ∃ x, gW fl n x ∧ jF fl has x = s.lo
  hi : ∃ x, gW fl n x ∧ jF fl has x = s.hi
  all : ∀ x, gW fl n x → s.lo ≤ jF fl has x ∧ jF fl has x ≤ s.hi
theorem nV.one {s s' : Span} (h : nV fl n has s) (h' : nV fl n has s') : s = s' := by
 obtain ⟨x1, f1, e1⟩ := h.lo
 obtain ⟨x2, f2, e2⟩ := h.hi
 obtain ⟨y1, g1, d1⟩ := h'.lo
 obtain ⟨y2, g2, d2⟩ := h'.hi
 have a1 := h.all y1 g1
 have a2 := h.all y2 g2
 have b1 := h'.all x1 f1
 have b2 := h'.all x2 f2
 cases s; cases s'
 simp only at *
 congr 1 <;> omega
open Classical in
noncomputable def gX (fl : List bp) (n : Nat) (has : Nat → Bool) : Span := if h : ∃ s, nV fl n has s then h.choose else default
theorem nV.eq {s : Span} (h : nV fl n has s) : gX fl n has = s := by
 have hx : ∃ s, nV fl n has s := ⟨s, h⟩
 unfold gX; rw [dif_pos hx]; exact hx.choose_spec.one h
noncomputable def AY (fl : List bp) (n : Nat) (has : Nat → Bool) (a : List Int) : List Int := gS fl n (cm has true) a
noncomputable def xy (fl : List bp) (n : Nat) (has : Nat → Bool) (a : List Int) : List Int := gS fl n (cm has false) (AY fl n has a)
theorem r9 (hN : Net fl n) (hn : 0 < n) (hB : Bd fl) (h : gW fl n a) : gW fl n (AY fl n has a) ∧ gW fl n (xy fl n has a) ∧ nV fl n has ⟨jF fl has (AY fl n has a), jF fl has (xy fl n has a)⟩ := by
 obtain ⟨h1, h2⟩ := yB hN hn hB (sF (has := has) true) h
 obtain ⟨h3, h4⟩ := yB hN hn hB (sF (has := has) false) h1
 refine ⟨h1, h3, ⟨_, h1, rfl⟩, ⟨_, h3, rfl⟩, fun x hx => ⟨?_, ?_⟩⟩
 ·have := h2 x hx
  rw [yj, yj] at this
  show jF fl has (gS fl n (cm has true) a) ≤ _
  omega
 have := h4 x hx
 rw [ym, ym] at this
 exact this
def gm (fl : List bp) : List Int := fl.map bp.lo
theorem Hr (h : ∀ i, i < fl.length → (nth fl i).lo ≤ (nth fl i).hi) : xP fl (gm fl) := by
 unfold gm
 exact ⟨by rw [List.length_map], fun i hi => by rw [Ae _ hi]; exact ⟨Int.le_refl _, h i hi⟩⟩
def g5 (fl : List bp) : Bool := fl.all fun f => decide (f.lo ≤ f.hi)
theorem HX (h : g5 fl = false) : ¬ ∃ x, gW fl n x := by
 rintro ⟨x, hx⟩
 unfold g5 at h
 rw [List.all_eq_false] at h
 obtain ⟨f, hf, h⟩ := h
 obtain ⟨i, hi, rfl⟩ := oA hf
 have := hx.1.2 i hi
 rw [decide_eq_true_eq] at h; omega
theorem yU (h : g5 fl = true) : ∀ i, i < fl.length → (nth fl i).lo ≤ (nth fl i).hi := fun i hi => by
 unfold g5 at h
 rw [List.all_eq_true] at h
 exact of_decide_eq_true (h _ (cR hi))
noncomputable def cP (fl : List bp) (n : Nat) (a : List Int) : Int × Bool × List Int := if g5 fl = true then gM fl n a else (0, true, a)
theorem nW (e : g5 fl = true) : cP fl n a = gM fl n a := if_pos e
theorem yK (e : g5 fl = false) : cP fl n a = (0, true, a) := if_neg (by rw [e]; decide)
theorem xm (hN : Net fl n) (ha : g5 fl = true → xP fl a) (h : (cP fl n a).2.1 = false) : gW fl n (cP fl n a).2.2 := by
  cases e : g5 fl with
  | true => rw [nW e] at h ⊢; exact vZ.some (uS hN (ha e)) h
  | false => rw [yK e] at h; cases h
theorem JB (hN : Net fl n) (ha : g5 fl = true → xP fl a) (h : (cP fl n a).2.1 = true) : ¬ ∃ x, gW fl n x := by
  cases e : g5 fl with
  | true => rw [nW e] at h; exact (uS hN (ha e)).none hN h
  | false => exact HX e
end
end Go.Proofs.YtelbollidfdcjaaGreat
namespace Go.Proofs.YtelbollidfdcjaaGreat
open Go Go.T
structure BU where
  bin : Int
  day : Int
deriving DecidableEq, Inhabited
def dS : El Span := El.mk' 2 (fun x => [Ty.int .i64 x.lo, Ty.int .i64 x.hi]) (fun _ => rfl) (fun _ => ⟨rfl, rfl, rfl⟩)
def fJ : El sU := El.mk' 3 (fun x => [Ty.int .i64 x.holds, Ty.int .i64 x.first.lo, Ty.int .i64 x.first.hi]) (fun _ => rfl) (fun _ => ⟨rfl, rfl, rfl⟩)
def eF : El Move := El.mk' 5 (fun x => [Ty.int .i64 x.day, Ty.int .i64 x.src, Ty.int .i64 x.dst, Ty.int .i64 x.sacks.lo, Ty.int .i64 x.sacks.hi]) (fun _ => rfl) (fun _ => ⟨rfl, rfl, rfl⟩)
def dU : El Level := El.mk' 4 (fun x => [Ty.int .i64 x.day, Ty.int .i64 x.bin, Ty.int .i64 x.sacks.lo, Ty.int .i64 x.sacks.hi]) (fun _ => rfl) (fun _ => ⟨rfl, rfl, rfl⟩)
def q7 : El BU := El.mk' 2 (fun x => [Ty.int .i64 x.bin, Ty.int .i64 x.day]) (fun _ => rfl) (fun _ => ⟨rfl, rfl, rfl⟩)
def dW : El bp := El.mk' 4 (fun x => [Ty.int .i64 x.src, Ty.int .i64 x.dst, Ty.int .i64 x.lo, Ty.int .i64 x.hi]) (fun _ => rfl) (fun _ => ⟨rfl, rfl, rfl⟩)
def fk : El Way := El.mk' 2 (fun x => [Ty.int .i64 (x.ix : Nat), Ty.bool x.more]) (fun _ => rfl) (fun _ => ⟨rfl, rfl, rfl⟩)
def iy : El Bool := El.mk' 1 (fun x => [Ty.bool x]) (fun _ => rfl) (fun _ => ⟨rfl, rfl, rfl⟩)
def lC : El (List Int) := El.mk' 1 (fun x => [Ty.sl dD x]) (fun _ => rfl) (fun _ => ⟨rfl, rfl, rfl⟩)
def bS (y : bA) : List Ty := [Ty.int .i64 y.days, Ty.sl fJ y.bins, Ty.sl eF y.moves, Ty.sl dU y.levels]
def eB (y : bA) : Ty := Ty.agg (bS y)
def eP (a : dL) : List Ty := [Ty.sl dD a.first, Ty.sl dD a.bN]
def mA (a : dL) : Ty := Ty.agg (eP a)
theorem mq {b : Bool} (h : (!b) = true) : b = false := by cases b <;> first | rfl | cases h
theorem e9 {b : Bool} (h : (!b) = false) : b = true := by cases b <;> first | rfl | cases h
theorem lI {α : Type} [Inhabited α] {a b : List α} {k : Nat} (h : nth a k ≠ nth b k) : a ≠ b := fun e => h (by rw [e])
theorem pP {α : Type} (q : α → Bool) (l : List α) : (!(l.any fun x => !q x)) = l.all q := by
  induction l with
  | nil => rfl
  | cons x l ih => simp only [List.any_cons, List.all_cons, Bool.not_or, Bool.not_not, ih]
end Go.Proofs.YtelbollidfdcjaaGreat
namespace Go.T
open Go Go.RowKit
def Zt : Nat := 1000000
def Fc (M : bB) : Prop := ∀ b u, M b = some u → Zt ≤ u → u = Zt + b
def Cb (J : World → bB → Prop) : Prop := ∀ w M w' M', Wf w' M' → Le (fun t => Zt ≤ t) (fun t => Zt ≤ t) w M w' M' → J w M → J w' M'
def Mh (P : Program) (l : Nat) (encs : List (List Ty)) (J : Nat → World → bB → Prop) (Jx : World → bB → Prop) : Prop :=
  ∀ (k : Nat) (tys : List Ty), encs[k]? = some tys → ∀ w M vs, Wf w M → Fc M → J k w M → cB w M tys vs →
    YieldAt Fence.wide 0 P l vs.toArray w fun e w' => ∃ M', Wf w' M' ∧ Fc M' ∧ Le (fun t => t < Zt) (fun t => t < Zt) w M w' M' ∧ ((e = .returned (.bool true) ∧ J (k + 1) w' M') ∨ (e = .returned (.bool false) ∧ Jx w' M'))
section
variable {P : Program} {fr : Fr} {ops : Array Oper} {A : As} {rest : List Oper} {K : As → List (As × Fx) → Prop} {d : Nat} {t : TypeId} {p : String} {e : Array Edge} {Q : Exit → Act → World → Prop}
theorem Lm {op : Op} {dst : Option Nat} {j s : Nat} {want : Bool} {f : Fx} (hs : ot ops j = some s) (hn : Nat.blt s fr.n = true) (hc : A.slots s = .bool want) (h1 : wu P fr ops ⟨dst, op, t, p, e, none⟩ A f) :
 wu P fr ops ⟨dst, op, t, p, e, some (j, want)⟩ A { f with rs := s :: f.rs } := by
 obtain ⟨hd, hsets, hS, hK, hop⟩ := h1
 refine ⟨hd, hsets, hS, hK, fun a w M wf hsz hrd htg => ?_⟩
 have hv := hrd s List.mem_cons_self (by simpa using hn)
 rw [hc] at hv
 have hy := lE (ops := ops) hs (by rw [hsz]; simpa using hn) hv
 have hw : Region.wanted ⟨dst, op, t, p, e, some (j, want)⟩ (yielded ops a.tmps) = true := by simp [Region.wanted, hy]
 have h := hop a w M wf hsz (fun c hc => hrd c (List.mem_cons_of_mem _ hc)) htg
 rw [if_pos (by simp [Region.wanted])] at h
 rw [if_pos hw]
 exact h
theorem jx {op : Op} {dst : Option Nat} {j s : Nat} {want : Bool} {f : Fx} (hs : ot ops j = some s) (hn : Nat.blt s fr.n = true) (hc : A.slots s = .bool want) (h1 : wu P fr ops ⟨dst, op, t, p, e, none⟩ A f)
 (h : av P fr ops rest (A.after f) fun A' l' => K A' ((A, { f with rs := s :: f.rs }) :: l')) : av P fr ops (⟨dst, op, t, p, e, some (j, want)⟩ :: rest) A K := ⟨_, Lm hs hn hc h1, h⟩
theorem mz {op : Op} {j s : Nat} {want c : Bool} (hs : ot ops j = some s) (hn : Nat.blt s fr.n = true) (hc : A.slots s = .bool c) (hne : (c == want) = false)
 (h : av P fr ops rest (A.set d (.ex undef)) fun A' l' => K A' ((A, { d := some d, ty := .ex undef, rs := [s] }) :: l')) : av P fr ops (⟨some d, op, t, p, e, some (j, want)⟩ :: rest) A K := by
 refine ⟨{ d := some d, ty := .ex undef, rs := [s] }, ⟨rfl, (by simp), (by simp), (by simp), fun a w M wf hsz hrd htg => ?_⟩, h⟩
 have hv := hrd s List.mem_cons_self (by simpa using hn)
 rw [hc] at hv
 have hy := lE (ops := ops) hs (by rw [hsz]; simpa using hn) hv
 have hw : Region.wanted ⟨some d, op, t, p, e, some (j, want)⟩ (yielded ops a.tmps) = false := by
  simp only [Region.wanted, hy]
  cases c <;> cases want <;> simp_all
 rw [if_neg (by rw [hw]; simp)]
 exact ⟨M, wf, Le.refl _ _ _ _, rfl, by simp⟩
def yv (l : Nat) : Value := .func (.yield l) #[] #[]
end
def cU (n : Nat) (J : Nat → World → bB → Prop) (Jx : World → bB → Prop) (resD resS : Ty) (e : Ending) (w' : World) : Prop :=
  ∃ r M', e = .returned r ∧ Wf w' M' ∧ Fc M' ∧ ((resD.den w' M' r ∧ J n w' M') ∨ (resS.den w' M' r ∧ Jx w' M'))
section
variable {P : Program} {A : As}
variable {fn : Func} {n m : Nat} {w0 : World} {M0 : bB} {J : Nat → World → bB → Prop} {Jx : World → bB → Prop} {resD resS : Ty}
end
end Go.T
namespace Go.T
open Go Go.RowKit
theorem zO : 1 ≤ Zt := by decide
def fY (M : bB) : bB := fun b => match M b with | none => none | some t => if Zt ≤ t then some 0 else some t
theorem iG {M : bB} {b : Nat} (h : M b = none) : fY M b = none := by simp [fY, h]
theorem fZ {M : bB} {b t : Nat} (h : M b = some t) (ht : t < Zt) : fY M b = some t := by
 have : ¬ Zt ≤ t := by omega
 simp [fY, h, this]
theorem vn {M : bB} {b t : Nat} (h : M b = some t) (ht : Zt ≤ t) : fY M b = some 0 := by simp [fY, h, ht]
theorem nq {M : bB} {b t : Nat} (h : fY M b = some (t + 1)) : M b = some (t + 1) ∧ t + 1 < Zt := by
 unfold fY at h
 split at h
 ·cases h
 rename_i u hu
 split at h
 ·cases h
 injection h with h; subst h; exact ⟨hu, by omega⟩
theorem ox {w : World} {M : bB} (wf : Wf w M) : Wf w (fY M) :=
  ⟨fun b t h => by
    cases hm : M b with
    | none => rw [iG hm] at h; cases h
    | some u => exact wf.lt b u hm, fun b b' t ht1 h h' => wf.inj b b' t ht1 (nq h).1 (nq h').1⟩
theorem zq {M : bB} {b u : Nat} (h : fY M b = some u) : u < Zt := by
 unfold fY at h
 split at h
 ·cases h
 split at h
 ·injection h with h; subst h; decide
 injection h with h; omega
def A2 (n : Nat) (pass : List Nat) (s : Nat → Ty) : Bool := (List.range n).all fun c => (s c).cdeps.isEmpty && (s c).deps.all fun t => pass.contains t
def vM (l l' : List Nat) : Bool := l.all (fun t => l'.contains t) && l'.all fun t => Nat.ble 1 t && Nat.blt t 1000000
def N1 (l : List Nat) : Bool := l.all fun t => Nat.ble 1 t && Nat.blt t 1000000
def q8 (l : List (Nat × Cont)) : Bool := l.all fun x => Nat.ble 1 x.1 && (Nat.blt x.1 1000000 && (N1 x.2.deps && N1 x.2.cdeps))
theorem BD {l : List Nat} (h : N1 l = true) : ∀ t ∈ l, 1 ≤ t ∧ t < Zt := by
 intro t ht
 simp only [N1, List.all_eq_true, Bool.and_eq_true, Nat.ble_eq, Nat.blt_eq] at h
 exact h t ht
theorem kK {l : List (Nat × Cont)} (h : q8 l = true) : ∀ x ∈ l, (1 ≤ x.1 ∧ x.1 < Zt) ∧ (∀ t ∈ x.2.deps, 1 ≤ t ∧ t < Zt) ∧ ∀ t ∈ x.2.cdeps, 1 ≤ t ∧ t < Zt := by
 intro x hx
 simp only [q8, List.all_eq_true, Bool.and_eq_true, Nat.ble_eq, Nat.blt_eq] at h
 obtain ⟨h1, h2, h3, h4⟩ := h x hx
 exact ⟨⟨h1, h2⟩, BD h3, BD h4⟩
theorem lT {n : Nat} {pass : List Nat} {s : Nat → Ty} (h : A2 n pass s = true) : ∀ c, c < n → (s c).cdeps = [] ∧ ∀ t ∈ (s c).deps, t ∈ pass := by
 intro c hc
 simp only [A2, List.all_eq_true, Bool.and_eq_true, List.mem_range, List.isEmpty_iff, List.contains_iff_mem] at h
 exact h c hc
theorem oz {l l' : List Nat} (h : vM l l' = true) : (∀ t ∈ l, t ∈ l') ∧ ∀ t ∈ l', 1 ≤ t ∧ t < Zt := by
 simp only [vM, Bool.and_eq_true, List.all_eq_true, List.contains_iff_mem, Nat.ble_eq, Nat.blt_eq] at h
 exact ⟨h.1, h.2⟩
theorem AS {w : World} {M : bB} {n : Nat} : ∀ (l : List (Nat × Ty)) (vs : List Value) (tm : Array Value) (s : Nat → Ty), (l.map Prod.fst).Nodup → tm.size = n → (∀ c, c < n → (s c).den w M (tm.getD c undef)) → cB w M (l.map Prod.snd) vs →
    (((l.map Prod.fst).zip vs).foldl (fun t (p, v) => t.setIfInBounds p v) tm).size = n ∧ ∀ c, c < n → (nS l s c).den w M ((((l.map Prod.fst).zip vs).foldl (fun t (p, v) => t.setIfInBounds p v) tm).getD c undef)
  | [], [], tm, s, _, hsz, hs, _ => ⟨hsz, hs⟩
  | (d, ty) :: l, v :: vs, tm, s, hnd, hsz, hs, ⟨hv, hvs⟩ => by
    simp only [List.map_cons, List.nodup_cons] at hnd
    have hs' : ∀ c, c < n → ((fun i => bif Nat.beq i d then ty else s i) c).den w M ((tm.setIfInBounds d v).getD c undef) := fun c hc => by
      simp only [Array.getD_eq_getD_getElem?, Array.getElem?_setIfInBounds]
      by_cases e : d = c
      · subst e; simpa [hsz, hc] using hv
      · have e' : Nat.beq c d = false := by cases h : Nat.beq c d with | false => rfl | true => exact absurd (Nat.eq_of_beq_eq_true h).symm e
        simpa [e, e', Array.getD_eq_getD_getElem?] using hs c hc
    obtain ⟨h1, h2⟩ := AS l vs (tm.setIfInBounds d v) (fun i => bif Nat.beq i d then ty else s i) hnd.2 (by simpa using hsz) hs' hvs
    have hset : ∀ c, nS ((d, ty) :: l) s c = nS l (fun i => bif Nat.beq i d then ty else s i) c := by
      intro c
      have hl : ∀ (l : List (Nat × Ty)) (s s' : Nat → Ty), (∀ i, i = c → i ∉ l.map Prod.fst → s i = s' i) → nS l s c = nS l s' c := by
        intro l
        induction l with
        | nil => intro s s' h; exact h c rfl (by simp)
        | cons x l ih =>
          intro s s' h
          simp only [nS]
          cases hb : Nat.beq c x.1 with
          | true => rfl
          | false =>
            simp only [cond_false]
            refine ih s s' fun i hi hm => h i hi fun hm' => ?_
            rw [List.map_cons] at hm'
            rcases List.mem_cons.1 hm' with h1 | h1
            · rw [← h1, hi] at hb; simp at hb
            · exact hm h1
      simp only [nS]
      by_cases e : c = d
      · subst e
        have hb : Nat.beq c c = true := by simp
        rw [hb, cond_true]
        have : ∀ (l : List (Nat × Ty)) (s : Nat → Ty), c ∉ l.map Prod.fst → nS l s c = s c := by
          intro l
          induction l with
          | nil => intro s _; rfl
          | cons x l ih =>
            intro s h
            simp only [List.map_cons, List.mem_cons, not_or] at h
            have hb : Nat.beq c x.1 = false := by cases hb : Nat.beq c x.1 with | false => rfl | true => exact absurd (Nat.eq_of_beq_eq_true hb) h.1
            simp only [nS, hb, cond_false]
            exact ih s h.2
        rw [this l _ hnd.1]
        simp
      · have hb : Nat.beq c d = false := by cases hb : Nat.beq c d with | false => rfl | true => exact absurd (Nat.eq_of_beq_eq_true hb) e
        rw [hb, cond_false]
        exact hl l _ _ fun i hi _ => by subst hi; simp [hb]
    refine ⟨h1, fun c hc => ?_⟩
    rw [hset]; exact h2 c hc
def LZ : Nat → Ty := fun _ => Ty.any
def dr (fr : Fr) (B : List (Nat × Cont)) (br : Bool) (tr : List (Nat × Cont)) : Exit → Act → World → Prop
  | .normal, a, w => As.holds fr ⟨LZ, B⟩ a w
  | .ret, a, w => br = true ∧ As.holds fr ⟨LZ, tr⟩ a w
  | _, _, _ => False
theorem Br {fr : Fr} {A : As} {B : List (Nat × Cont)} {br : Bool} {tr : List (Nat × Cont)} (h : cv fr A ⟨LZ, B⟩) : dR fr A (dr fr B br tr .normal) := fun _ _ ha => h.holds ha
def Lc (P : Program) (n : Nat) (pass : List Nat) (assign body : Code) (A : As) (B : List (Nat × Cont)) (br : Bool) (tr : List (Nat × Cont)) : Prop :=
  ∃ A1 : As, (∀ l w M, fU P ⟨n, w, M, pass, .round l⟩ assign A (Exit.then (fun a w' => A1.holds ⟨n, w, M, pass, .round l⟩ a w') fun _ _ _ => False)) ∧
    ∀ l w M, fU P ⟨n, w, M, pass, .round l⟩ body (A1.after { d := none, S := [0] }) (dr ⟨n, w, M, pass, .round l⟩ B br tr)
section
variable {P : Program} {fr : Fr} {A : As} {Q : Exit → Act → World → Prop}
theorem Ab {w : World} {M : bB} {l : Nat} {o : Obj} (h0 : fr.w0.heap.size ≤ l) (h1 : ∀ t, ¬ (1 ≤ t ∧ t ∉ fr.pass) → fr.M0 l ≠ some t) (hb : fr.base w M) : fr.base (w.putObj l o) M := by
 refine ⟨by simpa using hb.size, hb.os, hb.tape, hb.out, fun b hlt hm => ⟨(hb.oM b hlt hm).1, ?_⟩, fun b t hm hk => ⟨(hb.own b t hm hk).1, fun hs => ?_⟩⟩
 ·rw [World.putObj_heap_other (by omega)]; exact (hb.oM b hlt hm).2
 rw [World.putObj_heap_other (fun e => h1 t hk (by rw [← e]; exact hm))]; exact (hb.own b t hm hk).2 hs
theorem vD {w : World} {M : bB} {l : Nat} {o : Obj} (hl : M l = some 0) : Le (· ∈ [0]) (· ∈ ([] : List Nat)) w M (w.putObj l o) M := by
 refine ⟨by simp, rfl, rfl, rfl, fun b hb hm => ⟨hm, World.putObj_heap_other fun e => by rw [e, hl] at hm; cases hm⟩, fun b t hm _ => ⟨hm, fun hs => World.putObj_heap_other fun e => ?_⟩⟩
 rw [e, hl] at hm; injection hm with hm; exact hs (by simp [hm])
def JJ (fr : Fr) (s : Nat → Ty) (tm : Array Value) (ds : List Deferred) (l : Nat) (r : Loop) (tg : List (Nat × Cont)) (w : World) (M : bB) : Prop :=
  fr.base w M ∧ (∀ c, c < fr.n → (s c).den w M (tm.getD c undef)) ∧ (∀ x ∈ tg, x.2.den w M x.1) ∧ M l = some 0 ∧ w.heap[l]? = some (.loop r) ∧ Defs fr w M ds
theorem Ku {s : Nat → Ty} {tm : Array Value} {ds : List Deferred} {l : Nat} {r : Loop} {tg : List (Nat × Cont)} {pass' : List Nat} (hpass : vM fr.pass pass' = true) (hs : A2 fr.n pass' s = true) (ht : q8 tg = true) : Cb (JJ fr s tm ds l r tg) := by
 intro w M w' M' wf' le ⟨h1, h2, h3, h4, h5, h6⟩
 obtain ⟨hp1, hp2⟩ := oz hpass
 obtain ⟨a, c⟩ := le.own l 0 h4 (by decide)
 refine ⟨Fr.iK h1 (fun t ht => Nat.le_trans zO ht) (fun t ht => ⟨Nat.le_trans zO ht, fun hm => by have := (hp2 t (hp1 t hm)).2; omega⟩) le, fun c hc => ?_, fun x hx => ?_, a, (c (by decide)).trans h5, h6.step (fun t ht => Nat.le_trans zO ht) (fun t ht => Nat.le_trans zO ht) le⟩
 ·obtain ⟨e1, e2⟩ := lT hs c hc
  exact (s c).mono le (fun t ht hz => by have := (hp2 t (e2 t ht)).2; omega) (by rw [e1]; intro _ h; cases h) (h2 c hc)
 obtain ⟨⟨_, e2⟩, e3, e4⟩ := kK ht x hx
 exact x.2.mono le (fun t ht hz => by have := (e3 t ht).2; omega) (fun t ht hz => by have := (e4 t ht).2; omega) (by omega) (by omega) (h3 x hx)
def oF (w : World) (M M3 : bB) : bB := fun b => match M b with | some u => if b < w.heap.size ∧ Zt ≤ u then some u else fY M3 b | none => fY M3 b
theorem y6 {s : Nat → Ty} {tm : Array Value} {ds : List Deferred} {l : Nat} {r r3 r4 : Loop} {tg0 tg : List (Nat × Cont)} {pass' : List Nat} (hpass : vM fr.pass pass' = true) (hs : A2 fr.n pass' s = true) (ht : q8 tg = true) (hkd : fr.kd = .marks)
    (h0 : fr.w0.heap.size ≤ l) (h1 : ∀ t, ¬ (1 ≤ t ∧ t ∉ fr.pass) → fr.M0 l ≠ some t)
    {w w1 w3 : World} {M M1 M3 : bB} (wf : Wf w M) (z : Fc M) (hj : JJ fr s tm ds l r tg0 w M)
    (le1 : Le (fun t => 1 ≤ t) (fun t => 1 ≤ t ∧ t ∉ pass') w (fY M) w1 M1) (wf3 : Wf w3 M3) (le3 : Le (fun t => 1 ≤ t) (fun t => 1 ≤ t ∧ t ∉ pass') (w1.putObj l (.loop r3)) M1 w3 M3)
    (htg : ∀ x ∈ tg, x.2.den w3 M3 x.1) :
    w3.heap[l]? = some (.loop r3) ∧ ∃ M4, Wf (w3.putObj l (.loop r4)) M4 ∧ Fc M4 ∧ Le (fun t => t < Zt) (fun t => t < Zt) w M (w3.putObj l (.loop r4)) M4 ∧ JJ fr s tm ds l r4 tg (w3.putObj l (.loop r4)) M4 := by
  obtain ⟨hb, hsl, _, hl, hrec, hdef⟩ := hj
  obtain ⟨hp1, hp2⟩ := oz hpass
  have hlt : l < w.heap.size := wf.lt l 0 hl
  have hZ : (1 : Nat) ≤ Zt := by decide
  -- a block whose tag is 0, or another one that stays
  have zero : ∀ b, fY M b = some 0 → M3 b = some 0 ∧ (b ≠ l → w3.heap[b]? = w.heap[b]?) := fun b h => by
    obtain ⟨a, c⟩ := le1.own b 0 h (by omega)
    obtain ⟨a', c'⟩ := le3.own b 0 a (by omega)
    exact ⟨a', fun e => (c' (by omega)).trans ((World.putObj_heap_other e).trans (c (by omega)))⟩
  have pas : ∀ b t, t ∈ pass' → M b = some t → M3 b = some t := fun b t hm h => by
    obtain ⟨a, _⟩ := le1.own b t (fZ h (hp2 t hm).2) (fun h => h.2 hm)
    exact (le3.own b t a fun h => h.2 hm).1
  have oM : ∀ b, b < w.heap.size → M b = none → M3 b = none ∧ w3.heap[b]? = w.heap[b]? := fun b hb h => by
    obtain ⟨a, c⟩ := le1.oM b hb (iG h)
    obtain ⟨a', c'⟩ := le3.oM b (by simpa using Nat.lt_of_lt_of_le hb le1.size) a
    exact ⟨a', c'.trans ((World.putObj_heap_other fun e => by rw [e, hl] at h; cases h).trans c)⟩
  have hl0 : fY M l = some 0 := fZ hl (by decide)
  have hM1l := (le1.own l 0 hl0 (by omega)).1
  have hl1 : l < w1.heap.size := Nat.lt_of_lt_of_le hlt le1.size
  have hrec3 : w3.heap[l]? = some (.loop r3) := ((le3.own l 0 hM1l (by omega)).2 (by omega)).trans (World.putObj_heap_same hl1)
  have hM3l := (zero l hl0).1
  have hsz3 : w.heap.size ≤ w3.heap.size := Nat.le_trans le1.size (by simpa using le3.size)
  refine ⟨hrec3, oF w M M3, ?_⟩
  -- how the tags are
  have kept : ∀ b u, M b = some u → Zt ≤ u → oF w M M3 b = some u := fun b u h hu => by
    unfold oF; rw [h]; simp [wf.lt b u h, hu]
  have other : ∀ b, (∀ u, M b = some u → u < Zt) → oF w M M3 b = fY M3 b := fun b h => by
    unfold oF
    cases hm : M b with
    | none => rfl
    | some u => have := h u hm; simp only; rw [if_neg (by omega)]
  have from3 : ∀ b t, M3 b = some t → 1 ≤ t → ∀ u, M b = some u → u < Zt := fun b t h h1 u hu => by
    rcases Nat.lt_or_ge u Zt with h2 | h2
    · exact h2
    · have := (zero b (vn hu h2)).1
      rw [this] at h; injection h with h; omega
  have none3 : ∀ b, M3 b = none → ∀ u, M b = some u → u < Zt := fun b h u hu => by
    rcases Nat.lt_or_ge u Zt with h2 | h2
    · exact h2
    · have := (zero b (vn hu h2)).1
      rw [this] at h; cases h
  have zok : Fc (oF w M M3) := fun b u h hu => by
    unfold oF at h
    split at h
    · rename_i v hv
      split at h
      · injection h with h; subst h; exact z b v hv hu
      · have := zq h; omega
    · have := zq h; omega
  have wf4 : Wf (w3.putObj l (.loop r4)) (oF w M M3) := by
    refine ⟨fun b t h => ?_, fun b b' t ht1 h h' => ?_⟩
    · rw [World.putObj_size]
      unfold oF at h
      split at h
      · split at h
        · rename_i hc; exact Nat.lt_of_lt_of_le hc.1 hsz3
        · exact (ox wf3).lt b t h
      · exact (ox wf3).lt b t h
    · by_cases hz : Zt ≤ t + 1
      · have e1 := zok b _ h hz
        have e2 := zok b' _ h' hz
        omega
      · have part : ∀ b, oF w M M3 b = some (t + 1) → M3 b = some (t + 1) := fun b h => by
          unfold oF at h
          split at h
          · split at h
            · injection h with h; omega
            · exact (nq h).1
          · exact (nq h).1
        exact wf3.inj b b' t ht1 (part b h) (part b' h')
  have le0 : Le (· ∈ [0]) (· ∈ ([] : List Nat)) w3 M3 (w3.putObj l (.loop r4)) M3 := vD hM3l
  have leZ : Le (fun t => t < Zt) (fun t => t < Zt) w M (w3.putObj l (.loop r4)) (oF w M M3) := by
    refine ⟨by simpa using hsz3, (le0.os.trans (le3.os.trans le1.os)), (le0.tape.trans (le3.tape.trans le1.tape)), (le0.out.trans (le3.out.trans le1.out)), fun b hb hm => ?_, fun b t hm ht => ⟨kept b t hm (by omega), fun _ => ?_⟩⟩
    · obtain ⟨a, c⟩ := oM b hb hm
      refine ⟨by rw [other b (fun u hu => by rw [hm] at hu; cases hu)]; exact iG a, ?_⟩
      rw [World.putObj_heap_other fun e => by rw [e, hl] at hm; cases hm]; exact c
    · have hbl : b ≠ l := fun e => by rw [e, hl] at hm; injection hm with hm; omega
      rw [World.putObj_heap_other hbl]
      exact (zero b (vn hm (by omega))).2 hbl
  refine ⟨wf4, zok, leZ, ?_, fun c hc => ?_, fun x hx => ?_, ?_, World.putObj_heap_same (Nat.lt_of_lt_of_le hlt hsz3), ?_⟩
  · refine ⟨Nat.le_trans hb.size leZ.size, leZ.os.trans hb.os, leZ.tape.trans hb.tape, leZ.out.trans hb.out, fun b hlt' hm => ?_, fun b t hm hk => ?_⟩
    · obtain ⟨a, c⟩ := hb.oM b hlt' hm
      obtain ⟨a', c'⟩ := leZ.oM b (Nat.lt_of_lt_of_le hlt' hb.size) a
      exact ⟨a', c'.trans c⟩
    · obtain ⟨a, c⟩ := hb.own b t hm hk
      have hbl : b ≠ l := fun e => h1 t hk (e ▸ hm)
      by_cases ht0 : t = 0
      · subst ht0
        obtain ⟨a', c'⟩ := zero b (fZ a (by decide))
        refine ⟨by rw [other b (fun u hu => by rw [a] at hu; injection hu with hu; omega)]; exact fZ a' (by decide), fun hs => ?_⟩
        rw [World.putObj_heap_other hbl]; exact (c' hbl).trans (c hs)
      · have htp : t ∈ fr.pass := Classical.byContradiction fun h => hk ⟨by omega, h⟩
        have htp' := hp1 t htp
        refine ⟨by rw [other b (fun u hu => by rw [a] at hu; injection hu with hu; have := (hp2 t htp').2; omega)]; exact fZ (pas b t htp' a) (hp2 t htp').2, fun hs => absurd (FK.D5 (k := fr.kd) (by omega : 1 ≤ t)) hs⟩
  · obtain ⟨e1, e2⟩ := lT hs c hc
    refine (s c).mono (S := fun _ => True) (K := fun t => t ∉ pass') ⟨leZ.size, leZ.os, leZ.tape, leZ.out, leZ.oM, fun b t hm hk => ⟨?_, fun h => absurd trivial h⟩⟩ (fun t ht h => h (e2 t ht)) (by rw [e1]; intro _ h; cases h) (hsl c hc)
    have htp : t ∈ pass' := Classical.byContradiction fun h => hk h
    rw [other b (fun u hu => by rw [hm] at hu; injection hu with hu; have := (hp2 t htp).2; omega)]
    exact fZ (pas b t htp hm) (hp2 t htp).2
  · obtain ⟨⟨g1, g2⟩, e3, e4⟩ := kK ht x hx
    refine x.2.mono (w := w3) (M := M3) (S := fun t => t = 0) (K := fun t => t = 0 ∨ Zt ≤ t) ⟨by simp, rfl, rfl, rfl, fun b hb hm => ⟨?_, ?_⟩, fun b t hm hk => ⟨?_, fun _ => ?_⟩⟩ (fun t ht h => by have := e3 t ht; omega) (fun t ht h => by have := (e4 t ht).1; omega) (by omega) (by omega) (htg x hx)
    · rw [other b (none3 b hm)]; exact iG hm
    · exact World.putObj_heap_other fun e => by rw [e, hM3l] at hm; cases hm
    · have ht1 : 1 ≤ t := Nat.pos_of_ne_zero fun h => hk (.inl h)
      rw [other b (from3 b t hm ht1)]; exact fZ hm (Nat.lt_of_not_le fun h => hk (.inr h))
    · exact World.putObj_heap_other fun e => by rw [e, hM3l] at hm; injection hm with hm; exact hk (.inl hm.symm)
  · rw [other l (fun u hu => by rw [hl] at hu; injection hu with hu; omega)]; exact fZ hM3l (by decide)
  · obtain ⟨rs, e, g1, g2, g3⟩ := hdef
    refine ⟨rs, e, g1, g2, fun q hq => ?_⟩
    obtain ⟨a, b, c⟩ := g3 q hq
    have hql : q ≠ l := fun e => by rw [e, hrec] at c; cases c
    obtain ⟨a', c'⟩ := zero q (fZ a (by decide))
    refine ⟨by rw [other q (fun u hu => by rw [a] at hu; injection hu with hu; omega)]; exact fZ a' (by decide), b, ?_⟩
    rw [World.putObj_heap_other hql]; exact (c' hql).trans c
theorem rj {g : Operand} {ps : List Tmp} {assign body : Code} {gf : FuncId} {caps : List Ty} {encs : List (List Ty)} {resD resS : Ty} (s : Nat → Ty) (tg : Nat → List (Nat × Cont)) (br : Bool) (tr : List (Nat × Cont)) (pass' : List Nat)
    (hkd : fr.kd = .marks) (hg : A.op fr g = .jD gf caps) (hI1 : ∃ fn, P.funcs[gf]? = some fn ∧ (fn.name == "runtime.NumGoroutine") = false ∧ fn.body.isNone = false) (hI2 : ∀ (l : Nat) (J : Nat → World → bB → Prop) (Jx : World → bB → Prop) (tm : Array Value), (∀ k, Cb (J k)) → Cb Jx → Mh P l encs J Jx → (∀ k w M, J k w M → (∀ c, c < fr.n → (s c).den w M (tm.getD c undef)) ∧ ∀ x ∈ tg k, x.2.den w M x.1) → ∀ w M vs, Wf w M → Fc M → cB w M (Ty.ex (yv l) :: caps) vs → J 0 w M → Calls P gf vs.toArray w (cU encs.length J Jx resD resS)) (hcd : ∀ t ∈ cC caps, t < Zt) (hcc : ∀ t ∈ bX caps, t < Zt)
    (hps : ps.Nodup) (hlen : ∀ tys ∈ encs, tys.length = ps.length ∧ cC tys = [] ∧ bX tys = []) (hpass : vM fr.pass pass' = true) (hs : A2 fr.n pass' s = true) (htg : ∀ k, q8 (tg k) = true) (htr : q8 tr = true)
    (h0 : cv fr A ⟨s, tg 0⟩)
    (hround : ∀ k tys, encs[k]? = some tys → Lc P fr.n pass' assign body ⟨nS (ps.zip tys) s, tg k⟩ (tg (k + 1)) br tr)
    (hdone : dR fr ⟨s, tg encs.length⟩ (Q .normal)) (hret : br = true → dR fr ⟨s, tr⟩ (Q .ret)) :
    fU P fr (.rangeFunc g ps.toArray assign body) A Q := by
  intro a w ha
  have hfe : fr.kd.iq = Fence.wide := by rw [hkd]; rfl
  rw [hfe]
  obtain ⟨hp1, hp2⟩ := oz hpass
  have hgv : ∃ cs : Array Value, a.eval g = .func (.func gf) #[] cs ∧ ∃ M, cB w M caps cs.toList := by
    obtain ⟨M, _, hsl, _⟩ := ha
    have := cE (x := g) (rs := bw g) (fun _ h => h) (fun c _ hn => hsl c hn)
    rw [hg] at this
    obtain ⟨cs, e, hd⟩ := this
    exact ⟨cs, e, M, hd⟩
  obtain ⟨M, ok, hsl0, htg0⟩ := id ha
  have hcs : ∃ cs : Array Value, a.eval g = .func (.func gf) #[] cs ∧ cB w M caps cs.toList := by
    have := cE (x := g) (rs := bw g) (fun _ h => h) (fun c _ hn => hsl0 c hn)
    rw [hg] at this
    exact this
  obtain ⟨cs, hev, hcaps⟩ := hcs
  have hB0 := h0.holds (a := a) (w := w) ⟨M, ok, hsl0, htg0⟩
  -- the same tags: the assertion that is forgotten down to holds of them, too
  have hslB : ∀ c, c < fr.n → (s c).den w M (a.tmps.getD c undef) := fun c hc => (qy h0.slots c hc) _ _ _ (hsl0 c hc)
  have htgB : ∀ x ∈ tg 0, x.2.den w M x.1 := fun x hx => by
    obtain ⟨C, hC, hsub⟩ := oc h0.tags x hx
    exact hsub _ _ _ (htg0 _ (cW hC))
  have hZ : (1 : Nat) ≤ Zt := by decide
  refine wpIn_rangeFunc fun fn _ => ?_
  obtain ⟨w1, hw1⟩ : ∃ w1, (w.alloc (.deferred (some []))).alloc (.loop { state := .ready, pending := none, fn, tmps := a.tmps, params := ps.toArray, assign, body, defers := w.heap.size }) = w1 := ⟨_, rfl⟩
  refine ⟨w.heap.size + 1, _, w1, { target := .fn (.func gf) cs, args := #[yv (w.heap.size + 1)] }, w1, gf, (yv (w.heap.size + 1) :: cs.toList).toArray, w1, by rw [← hw1]; exact run_enterLoop_outer fn a.tmps ps.toArray assign body, ?_, fun _ _ => trivial, ?_, (fun h => by cases h), ?_⟩
  · simp [resolve, rangeCall, hev, Deferred.ofValue, yv]; rfl
  · obtain ⟨fn', hf, hn, hb⟩ := hI1
    have hn' : fn'.name ≠ "runtime.NumGoroutine" := by simpa using hn
    have hb' : fn'.body ≠ none := fun h => by rw [h] at hb; cases hb
    simp [invoke, callFunc, hf, hn', hb']
  -- the world in which the iterator is called
  have hnone : ∀ b, w.heap.size ≤ b → M b = none := fun b hb => by
    cases hm : M b with
    | none => rfl
    | some t => have := ok.wf.lt b t hm; omega
  have hsz1 : w1.heap.size = w.heap.size + 2 := by rw [← hw1]; simp
  have hD : w1.heap[w.heap.size]? = some (.deferred (some [])) := by
    rw [← hw1]
    show ((w.heap.push _).push _)[w.heap.size]? = _
    rw [Array.getElem?_push, if_neg (by simp), Array.getElem?_push, if_pos rfl]
  have hL : w1.heap[w.heap.size + 1]? = some (.loop { state := .ready, pending := none, fn, tmps := a.tmps, params := ps.toArray, assign, body, defers := w.heap.size }) := by
    rw [← hw1]
    show ((w.heap.push _).push _)[w.heap.size + 1]? = _
    rw [Array.getElem?_push, if_pos (by simp)]
  have hold : ∀ b, b < w.heap.size → w1.heap[b]? = w.heap[b]? := fun b hb => by
    rw [← hw1]
    show ((w.heap.push _).push _)[b]? = _
    rw [Array.getElem?_push, if_neg (by simp; omega), Array.getElem?_push, if_neg (by omega)]
  have hw1os : w1.os = w.os ∧ w1.tape = w.tape ∧ w1.output = w.output := by rw [← hw1]; exact ⟨rfl, rfl, rfl⟩
  have leN : Le (fun t => Zt ≤ t) (fun t => Zt ≤ t) w M w1 (fun b => if b = w.heap.size ∨ b = w.heap.size + 1 then some 0 else fY M b) := by
    refine ⟨by omega, hw1os.1, hw1os.2.1, hw1os.2.2, fun b hb hm => ⟨?_, hold b hb⟩, fun b t hm ht => ⟨?_, fun _ => hold b (ok.wf.lt b t hm)⟩⟩
    · rw [if_neg (by omega)]; exact iG hm
    · have := ok.wf.lt b t hm
      rw [if_neg (by omega)]; exact fZ hm (Nat.lt_of_not_le ht)
  have wf1 : Wf w1 (fun b => if b = w.heap.size ∨ b = w.heap.size + 1 then some 0 else fY M b) := by
    refine ⟨fun b t h => ?_, fun b b' t ht1 h h' => ?_⟩
    · split at h
      · omega
      · have := (ox ok.wf).lt b t h; omega
    · have part : ∀ b, (if b = w.heap.size ∨ b = w.heap.size + 1 then some 0 else fY M b) = some (t + 1) → fY M b = some (t + 1) := fun b h => by
        split at h
        · cases h
        · exact h
      exact (ox ok.wf).inj b b' t ht1 (part b h) (part b' h')
  have z1 : Fc (fun b => if b = w.heap.size ∨ b = w.heap.size + 1 then some 0 else fY M b) := fun b u h hu => by
    simp only at h
    split at h
    · injection h with h; omega
    · have := zq h; omega
  have hbl0 : fr.w0.heap.size ≤ w.heap.size + 1 := Nat.le_succ_of_le ok.base.size
  have hbl1 : ∀ t, ¬ (1 ≤ t ∧ t ∉ fr.pass) → fr.M0 (w.heap.size + 1) ≠ some t := fun t ht h => by
    have := (ok.base.own _ t h ht).1
    rw [hnone _ (by omega)] at this; cases this
  have defs1 : Defs fr w1 (fun b => if b = w.heap.size ∨ b = w.heap.size + 1 then some 0 else fY M b) (sk w.heap.size :: a.defers) := by
    obtain ⟨rs, e, g1, g2, g3⟩ := ok.defers
    refine ⟨w.heap.size :: rs, by rw [e]; rfl, fun _ => hkd, List.nodup_cons.2 ⟨fun h => ?_, g2⟩, fun q hq => ?_⟩
    · have := ok.wf.lt _ _ (g3 _ h).1; omega
    · rcases List.mem_cons.1 hq with rfl | hq
      · refine ⟨by simp, ⟨ok.base.size, fun t ht h => ?_⟩, hD⟩
        have := (ok.base.own _ t h ht).1
        rw [hnone _ (Nat.le_refl _)] at this; cases this
      · obtain ⟨a1, b1, c1⟩ := g3 q hq
        have := ok.wf.lt _ _ a1
        exact ⟨by simp only; rw [if_neg (by omega)]; exact fZ a1 (by decide), b1, (hold q this).trans c1⟩
  -- between two rounds
  let R : LoopState → Option Code → Loop := fun st pe => { state := st, pending := pe, fn, tmps := a.tmps, params := ps.toArray, assign, body, defers := w.heap.size }
  let J : Nat → World → bB → Prop := fun k => JJ fr s a.tmps (sk w.heap.size :: a.defers) (w.heap.size + 1) (R .ready none) (tg k)
  let Jx : World → bB → Prop := fun w' M' => br = true ∧ JJ fr s a.tmps (sk w.heap.size :: a.defers) (w.heap.size + 1) (R .done (some .ret)) tr w' M'
  have hJ : ∀ k, Cb (J k) := fun k => Ku hpass hs (htg k)
  have hJx : Cb Jx := fun w M w' M' wf le ⟨h, hj⟩ => ⟨h, Ku hpass hs htr w M w' M' wf le hj⟩
  have hj0 : J 0 w1 (fun b => if b = w.heap.size ∨ b = w.heap.size + 1 then some 0 else fY M b) := by
    refine ⟨Fr.iK ok.base (fun t ht => by omega) (fun t ht => ⟨by omega, fun hm => by have := (hp2 t (hp1 t hm)).2; omega⟩) leN, fun c hc => ?_, fun x hx => ?_, by simp, hL, defs1⟩
    · obtain ⟨e1, e2⟩ := lT hs c hc
      exact (s c).mono leN (fun t ht hz => by have := (hp2 t (e2 t ht)).2; omega) (by rw [e1]; intro _ h; cases h) (hslB c hc)
    · obtain ⟨⟨_, e2⟩, e3, e4⟩ := kK (htg 0) x hx
      exact x.2.mono leN (fun t ht hz => by have := (e3 t ht).2; omega) (fun t ht hz => by have := (e4 t ht).2; omega) (by omega) (by omega) (htgB x hx)
  have hY : Mh P (w.heap.size + 1) encs J Jx := by
    intro k tys hk w2 M2 vs wf2 z2 hj hv
    obtain ⟨jb, jsl, jtg, jl, jrec, jdef⟩ := id hj
    have hvl := cL hv
    obtain ⟨htl, hte, htc⟩ := hlen tys (List.mem_of_getElem? hk)
    have hrunY := run_yield (P := P) (args := vs.toArray) jrec (by simp [R]; omega)
    refine ⟨_, _, _, _, hrunY, roundIn_of_wpIn trivial ?_⟩
    obtain ⟨A1, hassign, hbody⟩ := hround k tys hk
    have hzip : (ps.zip tys).map Prod.fst = ps := by rw [List.map_fst_zip (by omega)]
    have hzip2 : (ps.zip tys).map Prod.snd = tys := by rw [List.map_snd_zip (by omega)]
    have conv : ∀ {t : Ty} {v : Value}, (∀ u ∈ t.deps, u < Zt) → t.den w2 M2 v → t.den w2 (fY M2) v := fun {t v} hd h =>
      t.mono (S := fun _ => False) (K := fun u => Zt ≤ u) ⟨Nat.le_refl _, rfl, rfl, rfl, fun b _ hm => ⟨iG hm, rfl⟩, fun b u hm hk => ⟨fZ hm (Nat.lt_of_not_le hk), fun _ => rfl⟩⟩ (fun u hu hz => by have := hd u hu; omega) (fun _ _ h => h) h
    have convC : ∀ {C : Cont} {t : Nat}, (∀ u ∈ C.deps, u < Zt) → t < Zt → C.den w2 M2 t → C.den w2 (fY M2) t := fun {C t} hd ht h =>
      C.mono (S := fun _ => False) (K := fun u => Zt ≤ u) ⟨Nat.le_refl _, rfl, rfl, rfl, fun b _ hm => ⟨iG hm, rfl⟩, fun b u hm hk => ⟨fZ hm (Nat.lt_of_not_le hk), fun _ => rfl⟩⟩ (fun u hu hz => by have := hd u hu; omega) (fun _ _ h => h) (fun h => h) (by omega) h
    obtain ⟨fsz, fden⟩ := AS (w := w2) (M := fY M2) (n := fr.n) (ps.zip tys) vs a.tmps s (by rw [hzip]; exact hps) ok.size (fun c hc => conv (fun u hu => (hp2 u ((lT hs c hc).2 u hu)).2) (jsl c hc)) (by rw [hzip2]; exact iI (fun b h => iG h) hte htc hv)
    rw [hzip] at fsz fden
    have htm : ((R .ready none).params.zip vs.toArray).foldl (fun tmps (t, v) => tmps.setIfInBounds t v) a.tmps = (ps.zip vs).foldl (fun t (p, v) => t.setIfInBounds p v) a.tmps := by simp [R]
    have hA0 : As.holds ⟨fr.n, w2, fY M2, pass', .round (w.heap.size + 1)⟩ ⟨nS (ps.zip tys) s, tg k⟩ { tmps := ((R .ready none).params.zip vs.toArray).foldl (fun tmps (t, v) => tmps.setIfInBounds t v) a.tmps, defers := [] } w2 := by
      rw [htm]
      exact ⟨fY M2, ⟨ox wf2, Le.refl _ _ _ _, fsz, Defs.nil⟩, fden, fun x hx => by
        obtain ⟨⟨_, e2⟩, e3, _⟩ := kK (htg k) x hx
        exact convC (fun u hu => (e3 u hu).2) e2 (jtg x hx)⟩
    have h1 := hassign (w.heap.size + 1) w2 (fY M2) _ _ hA0
    refine Go.wpIn_mono h1 fun e a1 w3 hq => ?_
    cases e with
    | normal =>
      obtain ⟨M3, ok3, hsl3, htg3⟩ := hq
      obtain ⟨l3, l3'⟩ := ok3.base.own (w.heap.size + 1) 0 (fZ jl (by decide)) (by simp)
      have rec3 : w3.heap[w.heap.size + 1]? = some (.loop (R .ready none)) := (l3' (by simp [FK.JC])).trans jrec
      refine ⟨_, run_beginRound rec3 rfl, ?_⟩
      have hkill := vD (w := w3) (M := M3) (o := .loop { R .ready none with state := .busy }) l3
      have hb0 : As.holds ⟨fr.n, w3.putObj (w.heap.size + 1) (.loop { R .ready none with state := .busy }), M3, pass', .round (w.heap.size + 1)⟩ (A1.after { d := none, S := [0] }) a1 (w3.putObj (w.heap.size + 1) (.loop { R .ready none with state := .busy })) := by
        refine ⟨M3, ⟨⟨fun b t h => by simpa using ok3.wf.lt b t h, ok3.wf.inj⟩, Le.refl _ _ _ _, ok3.size, by rw [ok3.gw (by simp)]; exact Defs.nil⟩, fun c hc => ?_, fun x hx => ?_⟩
        · simp only [As.after, qA]
          rcases fH [0] [] A1.slots c with ⟨e, hdj⟩ | ⟨_, e⟩
          · rw [e]; exact (A1.slots c).mono hkill (eR hdj).1 (eR hdj).2 (hsl3 c hc)
          · rw [e]; trivial
        · exact gj hkill (by simpa [As.after] using hx) fun y hy _ => htg3 y hy
      have h2 := hbody (w.heap.size + 1) _ M3 _ _ hb0
      refine Go.wpIn_mono h2 fun e a4 w4 hq4 => ?_
      have le1 : Le (fun t => 1 ≤ t) (fun t => 1 ≤ t ∧ t ∉ pass') w2 (fY M2) w3 M3 := ok3.base
      cases e with
      | normal =>
        obtain ⟨M4, ok4, _, htg4⟩ := hq4
        obtain ⟨r4, M5, g1, g2, g3, g4⟩ := y6 (r4 := R .ready none) hpass hs (htg (k + 1)) hkd hbl0 hbl1 wf2 z2 hj le1 ok4.wf ok4.base htg4
        exact ⟨_, _, run_endRound none r4, M5, g1, g2, g3, .inl ⟨rfl, g4⟩⟩
      | ret =>
        obtain ⟨hbr, M4, ok4, _, htg4⟩ := hq4
        obtain ⟨r4, M5, g1, g2, g3, g4⟩ := y6 (r4 := R .done (some .ret)) hpass hs htr hkd hbl0 hbl1 wf2 z2 hj le1 ok4.wf ok4.base htg4
        exact ⟨_, _, run_endRound (some .ret) r4, M5, g1, g2, g3, .inr ⟨rfl, hbr, g4⟩⟩
      | exit id => exact hq4.elim
      | goto l => exact hq4.elim
      | panic c => exact hq4.elim
      | outgrown => exact hq4.elim
    | ret => exact hq.elim
    | exit id => exact hq.elim
    | goto l => exact hq.elim
    | panic c => exact hq.elim
    | outgrown => exact hq.elim
  have fin : ∀ (r : Loop) (tgs : List (Nat × Cont)) (w' : World) (M' : bB) (o : Obj), q8 tgs = true → Wf w' M' → JJ fr s a.tmps (sk w.heap.size :: a.defers) (w.heap.size + 1) r tgs w' M' → As.holds fr ⟨s, tgs⟩ { tmps := a.tmps, defers := [{ target := .collected w.heap.size, args := #[] }] ++ a.defers } (w'.putObj (w.heap.size + 1) o) := by
    intro r tgs w' M' o hok wf' ⟨jb, jsl, jtg, jl, jrec, jdef⟩
    have hk0 := vD (w := w') (M := M') (o := o) jl
    refine ⟨M', ⟨⟨fun b t h => by simpa using wf'.lt b t h, wf'.inj⟩, Ab hbl0 hbl1 jb, ok.size, ?_⟩, fun c hc => ?_, fun x hx => ?_⟩
    · obtain ⟨rs, e, g1, g2, g3⟩ := jdef
      refine ⟨rs, e, g1, g2, fun q hq => ?_⟩
      obtain ⟨a1, b1, c1⟩ := g3 q hq
      exact ⟨a1, b1, by rw [World.putObj_heap_other fun e => by rw [e, jrec] at c1; cases c1]; exact c1⟩
    · obtain ⟨e1, e2⟩ := lT hs c hc
      exact (s c).mono hk0 (fun _ _ h => by cases h) (by rw [e1]; intro _ h; cases h) (jsl c hc)
    · obtain ⟨⟨e1, e2⟩, e3, e4⟩ := kK hok x hx
      exact x.2.mono hk0 (fun _ _ h => by cases h) (fun t ht h => by have := (e4 t ht).1; rw [List.mem_singleton.1 h] at this; omega) (fun h => by rw [List.mem_singleton.1 h] at e1; omega) (fun h => by cases h) (jtg x hx)
  refine CallsIn.mono (callsIn_wide.2 (hI2 (w.heap.size + 1) J Jx a.tmps hJ hJx hY (fun k w M hj => ⟨hj.2.1, hj.2.2.1⟩) w1 _ (yv (w.heap.size + 1) :: cs.toList) wf1 z1 ⟨rfl, ?_⟩ hj0)) ?_
  · exact bQ leN (fun t ht hz => Nat.lt_irrefl _ (Nat.lt_of_lt_of_le (hcd t ht) hz)) (fun t ht hz => Nat.lt_irrefl _ (Nat.lt_of_lt_of_le (hcc t ht) hz)) hcaps
  · rintro e w' ⟨r, M', he, wf', z', hor⟩
    subst he
    rcases hor with ⟨_, hj⟩ | ⟨_, hbr, hj⟩
    · refine ⟨none, _, run_endLoop hj.2.2.2.2.1 (by simp [R]), ?_⟩
      exact hdone _ _ (fin _ _ w' M' _ (htg _) wf' hj)
    · refine ⟨some .ret, _, run_endLoop hj.2.2.2.2.1 (by simp [R]), ?_⟩
      exact wpIn_ret (hret hbr _ _ (fin _ _ w' M' _ htr wf' hj))
end
section
variable {P : Program} {A : As} {fn : Func} {n : Nat} {w0 : World} {M0 : bB} {F : List Nat}
theorem sD {R : Ending → World → Prop} {tm : Array Value} {s : Nat → Ty} {tgs : List (Nat × Cont)} {pass : List Nat} (fr : Fr)
    (hs0 : ∀ c, c < fr.n → ∀ t ∈ (s c).cdeps, t ≠ 0) (ht0 : ∀ x ∈ tgs, x.1 ≠ 0 ∧ ∀ t ∈ x.2.cdeps, t ≠ 0)
    (h : ∀ w M, Wf w M → fr.base w M → (∀ c, c < fr.n → (s c).den w M (tm.getD c undef)) → (∀ x ∈ tgs, x.2.den w M x.1) → ∃ v, (results fn tm).run P w = .ok v w ∧ R (.returned v) w) :
    ∀ (rs : List Nat) (w : World) (M : bB), Wf w M → fr.base w M → (∀ c, c < fr.n → (s c).den w M (tm.getD c undef)) → (∀ x ∈ tgs, x.2.den w M x.1) → rs.Nodup → (∀ r ∈ rs, M r = some 0 ∧ fr.w0.heap.size ≤ r ∧ (∀ t, ¬ (1 ≤ t ∧ t ∉ fr.pass) → fr.M0 r ≠ some t) ∧ w.heap[r]? = some (.deferred (some []))) →
      LeavesInM Fence.wide 0 P fn tm R (rs.map sk) .returning w
  | [], w, M, wf, hb, hs, ht, _, _ => h w M wf hb hs ht
  | r :: rs, w, M, wf, hb, hs, ht, hnd, hr => by
    obtain ⟨a, b, c, d⟩ := hr r List.mem_cons_self
    have le := vD (w := w) (M := M) (o := .deferred none) a
    refine ⟨by simp, .inl ⟨r, _, rfl, run_takeDeferred d, ?_⟩⟩
    refine sD (pass := pass) fr hs0 ht0 h rs _ M ⟨fun b t h => by simpa using wf.lt b t h, wf.inj⟩ (Ab b c hb) (fun c hc => (s c).mono le (fun _ _ h => by cases h) (fun t ht h => hs0 c hc t ht (List.mem_singleton.1 h)) (hs c hc))
      (fun x hx => x.2.mono le (fun _ _ h => by cases h) (fun t htt h => (ht0 x hx).2 t htt (List.mem_singleton.1 h)) (fun h => (ht0 x hx).1 (List.mem_singleton.1 h)) (fun h => by cases h) (ht x hx)) (List.nodup_cons.1 hnd).2 (fun q hq => ?_)
    obtain ⟨a1, b1, c1, d1⟩ := hr q (List.mem_cons_of_mem _ hq)
    refine ⟨a1, b1, c1, ?_⟩
    rw [World.putObj_heap_other fun e => (List.nodup_cons.1 hnd).1 (by rw [← e]; exact hq)]; exact d1
def DT (n : Nat) (A : As) : Bool := ((List.range n).all fun c => (A.slots c).cdeps.all fun t => Nat.ble 1 t) && A.tags.all fun x => Nat.ble 1 x.1 && x.2.cdeps.all fun t => Nat.ble 1 t
theorem GQ {R : Ending → World → Prop} (hz : DT n A = true) (h : dR ⟨n, w0, M0, F, .plain⟩ A (bodyPost P fn R .ret)) : dR ⟨n, w0, M0, F, .marks⟩ A (bodyPostM Fence.wide 0 P fn R .ret) := by
 intro a w ⟨M, ok, hsl, htg⟩
 obtain ⟨rs, e, g1, g2, g3⟩ := ok.defers
 simp only [DT, Bool.and_eq_true, List.all_eq_true, List.mem_range, Nat.ble_eq] at hz
 show LeavesInM Fence.wide 0 P fn a.tmps R a.defers .returning w
 rw [e]
 refine sD (pass := []) (s := A.slots) (tgs := A.tags) ⟨n, w0, M0, F, .marks⟩ (fun c hc t ht => by have := hz.1 c hc t ht; omega) (fun x hx => ⟨by have := (hz.2 x hx).1; omega, fun t ht => by have := (hz.2 x hx).2 t ht; omega⟩) (fun w2 M2 wf hb hs ht => ?_) rs w M ok.wf ok.base hsl htg g2 (fun r hr => ?_)
 ·exact (h { tmps := a.tmps, defers := [] } w2 ⟨M2, ⟨wf, hb, ok.size, Defs.nil⟩, hs, ht⟩).2
 obtain ⟨a1, b1, c1⟩ := g3 r hr
 exact ⟨a1, b1.1, b1.2, c1⟩
theorem qq {f : FuncId} {fn : Func} {c : Code} {F : List Nat} {pre post : List (Nat × Cont)} {args : List Ty} {res : Ty} {n : Nat} (hf : P.funcs[f]? = some fn) (hb : fn.body = some c) (hn : (fn.name == "runtime.NumGoroutine") = false) (hnt : fn.ntmps = n) (hl : args.length ≤ n)
    (h : ∀ w0 M0, fU P ⟨n, w0, M0, F, .marks⟩ c (so args pre) (bodyPostM Fence.wide 0 P fn (cT F post w0 M0 res))) : fC P f F pre args post res := by
  refine ⟨⟨fn, hf, hn, by rw [hb]; rfl⟩, fun w M vs wf hd hpre => callsIn_wide.1 (callsIn_of_wp_marks (n := 0) hf hb trivial (h w M _ _ ?_))⟩
  have hlen := cL hd
  refine ⟨M, ⟨wf, Le.refl _ _ _ _, by simp [hnt, hlen]; omega, Defs.nil⟩, fun c hc => ?_, hpre⟩
  simp only [so]
  cases ha : args[c]? with
  | none => trivial
  | some ty =>
    obtain ⟨v, hv, hdv⟩ := dG hd c ty ha
    have : (vs.toArray ++ Array.replicate (fn.ntmps - vs.toArray.size) undef).getD c undef = v := by
      have hlt : c < vs.length := (List.getElem?_eq_some_iff.1 hv).1
      rw [Array.getD_eq_getD_getElem?, Array.getElem?_append_left (by simpa using hlt)]
      simp [hv]
    rw [this]; exact hdv
theorem Dd {α : Type} [Inhabited α] {xs : List α} {f : α → List Ty} {k : Nat} {t : List Ty} (h : (xs.map f)[k]? = some t) : k < xs.length ∧ t = f (nth xs k) := by
 rw [List.getElem?_map] at h
 obtain ⟨x, hx, rfl⟩ := Option.map_eq_some_iff.1 h
 obtain ⟨hk, e⟩ := List.getElem?_eq_some_iff.1 hx
 exact ⟨hk, by rw [iD hk, e]⟩
theorem D0 {α : Type} [Inhabited α] {xs : List α} {f : α → List Ty} {k : Nat} {t : List Ty} (h : k < xs.length) (e : f (nth xs k) = t) : (xs.map f)[k]? = some t := by
 rw [List.getElem?_map, List.getElem?_eq_getElem h, ← iD h, ← e]; rfl
end
section
variable {P : Program} {fr : Fr} {A : As} {Q : Exit → Act → World → Prop}
end
section
variable {P : Program} {fr : Fr} {ops : Array Oper} {A : As} {rest : List Oper} {K : As → List (As × Fx) → Prop} {d : Nat} {t ty' : TypeId} {p : String} {e : Array Edge} {x : Operand}
theorem IQ {tg : Nat} (hx : A.op fr x = .mp tg) (h : av P fr ops rest (A.set d (.mp tg)) fun A' l' => K A' ((A, { d := some d, ty := .mp tg, rs := bw x }) :: l')) : av P fr ops (⟨some d, .move x, t, p, e, none⟩ :: rest) A K := eA hx h
theorem Nw {tg : Nat} (hx : A.op fr x = .mp tg) (h : av P fr ops rest (A.set d (.mp tg)) fun A' l' => K A' ((A, { d := some d, ty := .mp tg, rs := bw x }) :: l')) : av P fr ops (⟨some d, .assign x, t, p, e, none⟩ :: rest) A K := gQ hx h
theorem Lt {κ β : Type} [DecidableEq κ] {enc : κ → Value} {V : VT β} {kvs : List (κ × β)} (hx : A.op fr x = .pm enc V kvs) (h : av P fr ops rest (A.set d (.pm enc V kvs)) fun A' l' => K A' ((A, { d := some d, ty := .pm enc V kvs, rs := bw x }) :: l')) : av P fr ops (⟨some d, .move x, t, p, e, none⟩ :: rest) A K := eA hx h
theorem MU {κ β : Type} [DecidableEq κ] {enc : κ → Value} {V : VT β} {kvs : List (κ × β)} (hx : A.op fr x = .pm enc V kvs) (h : av P fr ops rest (A.set d (.pm enc V kvs)) fun A' l' => K A' ((A, { d := some d, ty := .pm enc V kvs, rs := bw x }) :: l')) : av P fr ops (⟨some d, .assign x, t, p, e, none⟩ :: rest) A K := gQ hx h
theorem LA {κ β : Type} [DecidableEq κ] {ρ : List (Nat × Nat)} {a b : Nat} {enc : κ → Value} {V : VT β} {k1 k2 : List (κ × β)} (h : (a, b) ∈ ρ) (e : k1 = k2) : qO ρ a (.mp enc V k1) b (.mp enc V k2) := fun w M M' _ _ hre ⟨k, h1, es, clock, h2, h3, h4⟩ => by
 subst e
 refine ⟨k, hre.some _ h k h1, es, clock, h2, h3, iI hre.none ?_ ?_ h4⟩
 ·exact List.eq_nil_iff_forall_not_mem.2 fun u hu => by
   simp only [cC, List.mem_flatMap, List.mem_map] at hu
   obtain ⟨t, ⟨x, _, rfl⟩, hu⟩ := hu
   rw [(V.nodeps x.2).1] at hu; cases hu
 ·exact List.eq_nil_iff_forall_not_mem.2 fun u hu => by
   simp only [bX, List.mem_flatMap, List.mem_map] at hu
   obtain ⟨t, ⟨x, _, rfl⟩, hu⟩ := hu
   rw [(V.nodeps x.2).2] at hu; cases hu
end
section
variable {P : Program} {A : As} {fn : Func} {n : Nat} {w0 : World} {M0 : bB} [T : kf P]
theorem BA {α : Type} {E : El α} {xs ys : List α} {tm ty tg Tb : Nat} {ti : TI} (e : xs = ys) (hr : fn.results = #[.cell tm ty]) (ht : Nat.blt tm n = true) (hx : A.slots tm = .ptr tg 0) (hc : A.tag tg = some (.vec E Tb xs)) (h1 : fN tg) (hT : T.eE[ty]? = some ti) (ha : ti.k.agg = true) (hsz : xs.length * E.size = ti.size) (hne : xs ≠ []) : dR ⟨n, w0, M0, [], .plain⟩ A (bodyPost P fn (mL w0 M0 (.arr E ys)) .ret) := by
 subst e; exact I0 hr ht hx hc h1 hT ha hsz hne
end
end Go.T
namespace Go.T
open Go Go.RowKit
section
variable {P : Program} {fr : Fr} {ops : Array Oper} {A : As} {rest : List Oper} {K : As → List (As × Fx) → Prop} {d : Nat} {t ty' : TypeId} {p : String} {e : Array Edge} [T : kf P]
variable {α β : Type} {E : El α} {E' : El β} {x y : Operand} {tg off Tb : Nat} {ti te tf : TI} {ty : Ty} {o z : α}
theorem BZ {α : Type} (E : El α) (o : α) : [o].flatMap E.tys = E.tys o := by simp
theorem fy (hx : A.op fr x = .ptr tg off) (hc : A.tag tg = some (.vec E Tb [o])) (h1 : fN tg) (hT : T.eE[ty']? = some ti) (ha : ti.k.agg = false) (hl : (E.tys o)[off]? = some ty)
 (h : av P fr ops rest (A.set d ty) fun A' l => K A' ((A, { d := some d, ty := ty, rs := bw x, rt := [tg] }) :: l)) : av P fr ops (⟨some d, .load ty' x, t, p, e, none⟩ :: rest) A K :=
 bE (bL rfl rfl fun a w M wf hr ht => by
  have := cE (x := x) (fun _ h => h) hr
  rw [hx] at this
  obtain ⟨b, hb, e⟩ := this
  obtain ⟨v, hv, hd⟩ := lz wf h1 hb (nx hc w M ht) (by rw [BZ]; exact hl)
  exact ⟨v, by simp [execOp, e, gz hT ha hv], hd⟩) h
theorem nX {l : List Ty} {off n : Nat} {w : World} {M : bB} {b q : Nat} (h : ∀ (i : Nat) (t : Ty), l[i]? = some t → ∃ v, w.cell? ⟨b, q + i, none⟩ = some v ∧ t.den w M v) {m : List Ty} (hm : (l.drop off).take n = m) (hn : m.length = n) :
 ∃ cs : List Value, cs.length = n ∧ cB w M m cs ∧ ∀ j v, cs[j]? = some v → w.cell? ⟨b, q + off + j, none⟩ = some v := by
 have hget : ∀ (i : Nat) (t : Ty), (l.drop off)[i]? = some t → ∃ u, w.cell? ⟨b, q + off + i, none⟩ = some u ∧ t.den w M u := fun i t hi => by
  rw [List.getElem?_drop] at hi
  obtain ⟨v, hv, hd⟩ := h _ _ hi
  exact ⟨v, by rw [Nat.add_assoc]; exact hv, hd⟩
 have hle : n ≤ (l.drop off).length := by
  have := congrArg List.length hm
  rw [List.length_take, hn] at this; omega
 obtain ⟨cs, h1, h2, h3⟩ := A3 hget n hle
 exact ⟨cs, h1, hm ▸ h2, h3⟩
theorem dh {m : List Ty} (hx : A.op fr x = .ptr tg off) (hc : A.tag tg = some (.vec E Tb [o])) (h1 : fN tg) (hT : T.eE[ty']? = some ti) (ha : ti.k.agg = true) (hm : ((E.tys o).drop off).take ti.size = m) (hn : m.length = ti.size)
 (h : av P fr ops rest (A.set d (.agg m)) fun A' l => K A' ((A, { d := some d, ty := .agg m, rs := bw x, rt := [tg] }) :: l)) : av P fr ops (⟨some d, .load ty' x, t, p, e, none⟩ :: rest) A K :=
 bE (bL rfl rfl fun a w M wf hr ht => by
  have := cE (x := x) (fun _ h => h) hr
  rw [hx] at this
  obtain ⟨b, hb, e⟩ := this
  obtain ⟨cs, g1, g2, g3⟩ := nX (l := E.tys o) (b := b) (q := 0) (fun i t hi => by
   obtain ⟨v, hv, hd⟩ := lz wf h1 hb (nx hc w M ht) (by rw [BZ]; exact hi)
   exact ⟨v, by rw [Nat.zero_add]; exact hv, hd⟩) hm hn
  exact ⟨.agg cs.toArray, by simp only [execOp, e]; rw [Sem.run_bind, fu (off := off) hT ha g1 (by simpa using g3)]; rfl, cs.toArray, rfl, by simpa using g2⟩) h
def qT (E : El α) (o : α) (w : World) (M : bB) (v : Value) : Prop := ∃ cs : Array Value, v = .agg cs ∧ cB w M (E.tys o) cs.toList
def Ty.ao (E : El α) (o : α) : Ty :=
  { den := qT E o, mono := fun le _ _ ⟨cs, e, h⟩ => ⟨cs, e, bQ le (by rw [E.nodeps]; intro _ h; cases h) (by rw [E.nocdeps]; intro _ h; cases h) h⟩ }
def qX (E : El α) (o : α) (off : Nat) (w : World) (M : bB) (v : Value) : Prop := ∃ b q, v = .pointer (some ⟨b, q + off, none⟩) ∧ mK w M b q (E.tys o)
def Ty.pe (E : El α) (o : α) (off : Nat) : Ty :=
  ⟨qX E o off, [], [], fun le _ _ ⟨b, q, e, h⟩ => ⟨b, q, e, lp le (by rw [E.nodeps]; intro _ h; cases h) (by rw [E.nocdeps]; intro _ h; cases h) h⟩, true, fun _ ⟨_, _, e, _⟩ => e ▸ rfl⟩
theorem fq (hx : A.op fr x = .pe E o off) (hT : T.eE[ty']? = some ti) (ha : ti.k.agg = false) (hl : (E.tys o)[off]? = some ty)
 (h : av P fr ops rest (A.set d ty) fun A' l => K A' ((A, { d := some d, ty := ty, rs := bw x }) :: l)) : av P fr ops (⟨some d, .load ty' x, t, p, e, none⟩ :: rest) A K :=
 bE (bL (rt := []) rfl rfl fun a w M _ hr _ => by
  have := cE (x := x) (fun _ h => h) hr
  rw [hx] at this
  obtain ⟨b, q, e, hp⟩ := this
  obtain ⟨v, hv, hd⟩ := hp.2.2 off ty hl
  exact ⟨v, by simp [execOp, e, gz hT ha hv], hd⟩) h
theorem dn {m : List Ty} (hx : A.op fr x = .pe E o off) (hT : T.eE[ty']? = some ti) (ha : ti.k.agg = true) (hm : ((E.tys o).drop off).take ti.size = m) (hn : m.length = ti.size)
 (h : av P fr ops rest (A.set d (.agg m)) fun A' l => K A' ((A, { d := some d, ty := .agg m, rs := bw x }) :: l)) : av P fr ops (⟨some d, .load ty' x, t, p, e, none⟩ :: rest) A K :=
 bE (bL (rt := []) rfl rfl fun a w M _ hr _ => by
  have := cE (x := x) (fun _ h => h) hr
  rw [hx] at this
  obtain ⟨b, q, e, hp⟩ := this
  obtain ⟨cs, g1, g2, g3⟩ := nX hp.2.2 hm hn
  exact ⟨.agg cs.toArray, by simp only [execOp, e]; rw [Sem.run_bind, fu (off := q + off) hT ha g1 g3]; rfl, cs.toArray, rfl, by simpa using g2⟩) h
theorem gE {f : Nat} {fs : List (Nat × Nat)} {fo ft : Nat} (hx : A.op fr x = .pe E o off) (hT : T.eE[ty']? = some ti) (hk : ti.k = .struct fs) (hf : fs[f]? = some (fo, ft)) (hF : T.eE[ft]? = some tf) (h0 : tf.size ≠ 0)
 (h : av P fr ops rest (A.set d (.pe E o (off + fo))) fun A' l' => K A' ((A, { d := some d, ty := .pe E o (off + fo), rs := bw x }) :: l')) : av P fr ops (⟨some d, .fieldAddr ty' x f, t, p, e, none⟩ :: rest) A K :=
 bE (bL (rt := []) rfl rfl fun a w M _ hr _ => by
  have := cE (x := x) (fun _ h => h) hr
  rw [hx] at this
  obtain ⟨b, q, ex, hp⟩ := this
  refine ⟨_, by simp only [execOp, ex, Sem.run_bind, nA hT hk hf hF h0]; rfl, b, q, by simp [Nat.add_assoc], hp⟩) h
end
theorem dK.mono {P : Program} {f : FuncId} {args : List Ty} {r r' : Ty} (h : dK P f args r) (hs : r.Sub r') : dK P f args r' :=
 ⟨h.1, fun w M vs wf hM hd => (h.2 w M vs wf hM hd).mono fun _ _ ⟨v, M', e, a, b, c⟩ => ⟨v, M', e, a, b, hs _ _ _ c⟩⟩
section
variable {P : Program} {fr : Fr} {A : As} {Q : Exit → Act → World → Prop} {x y : Code}
theorem p8 {c : Operand} {b : Bool} (hc : A.op fr c = .bool b) (hb : b = true) (h1 : fU P fr x A Q) : fU P fr (.cond c x y) A Q := bt hc (fun _ => h1) (fun h => by rw [hb] at h; cases h)
theorem mY {c : Operand} {b : Bool} (hc : A.op fr c = .bool b) (hb : b = false) (h1 : fU P fr y A Q) : fU P fr (.cond c x y) A Q := bt hc (fun h => by rw [hb] at h; cases h) (fun _ => h1)
end
end Go.T
namespace Go.T
open Go Go.RowKit
def Ty.nd (t : Ty) (h1 : t.deps = []) (h2 : t.cdeps = []) : Ty := ⟨t.den, [], [], fun le _ _ h => t.mono le (by rw [h1]; intro _ h; cases h) (by rw [h2]; intro _ h; cases h) h, t.one, t.isOne⟩
theorem Cf {P : Program} {t : Ty} {args : List Ty} {res : Ty} (h1 : t.deps = []) (h2 : t.cdeps = []) (h : nT P t args res) : nT P (t.nd h1 h2) args res := h
def fR (c : Bool) (t : Ty) (w : World) (M : bB) (v : Value) : Prop := v.oneCell' = true ∧ (c = true → t.den w M v)
def Ty.when (c : Bool) (t : Ty) : Ty := { den := fR c t, deps := t.deps, cdeps := t.cdeps, mono := fun le hk hs h => ⟨h.1, fun hc => t.mono le hk hs (h.2 hc)⟩, one := true, isOne := fun _ h => h.1 }
section
variable {P : Program} {fr : Fr} {ops : Array Oper} {A : As} {rest : List Oper} {K : As → List (As × Fx) → Prop} {d : Nat} {t ty' : TypeId} {p : String} {e : Array Edge}
variable {α β : Type} {E : El α} {E' : El β} {x y : Operand} {tg off Tb : Nat} {ti te tf : TI} {ty : Ty} {o z : α} {xs : List α}
def qb (E : El α) (xs : List α) (off : Nat) (w : World) (M : bB) (v : Value) : Prop := ∃ b q, v = .pointer (some ⟨b, q + off, none⟩) ∧ mK w M b q (xs.flatMap E.tys)
def Ty.pa (E : El α) (xs : List α) (off : Nat) : Ty :=
  ⟨qb E xs off, [], [], fun le _ _ ⟨b, q, e, h⟩ => ⟨b, q, e, lp le (by rw [E.cO]; intro _ h; cases h) (by rw [E.cD]; intro _ h; cases h) h⟩, true, fun _ ⟨_, _, e, _⟩ => e ▸ rfl⟩
theorem nN (hx : A.op fr x = .arr E xs) (h : av P fr ops rest (A.set d (.pa E xs 0)) fun A' l' => K A' ((A, { d := some d, ty := .pa E xs 0, rs := bw x }) :: l')) : av P fr ops (⟨some d, .box ty' x, t, p, e, none⟩ :: rest) A K := by
 refine ⟨_, gC (f := { d := some d, ty := .pa E xs 0, rs := bw x }) rfl rfl (by simp) (by simp) (by simp) fun a w M wf hr _ => ?_, h⟩
 have hd := cE (x := x) (fun _ h => h) hr
 rw [hx] at hd
 obtain ⟨cs, ex, hds⟩ := hd
 obtain ⟨h1, h2, _⟩ := tP wf (.cells cs ty')
 refine ⟨.pointer (some ⟨w.heap.size, 0, none⟩), w.alloc (.cells cs ty'), ?_, M, h1, h2, ⟨_, 0, rfl, ?_⟩, by simp⟩
 ·simp [execOp, Instr.box, newVar, newRow, newObj, Sem.run, ex, Value.cells]
 exact rU (T := ty') wf hds
theorem BG (hx : A.op fr x = .ao E o) (h : av P fr ops rest (A.set d (.pe E o 0)) fun A' l' => K A' ((A, { d := some d, ty := .pe E o 0, rs := bw x }) :: l')) : av P fr ops (⟨some d, .box ty' x, t, p, e, none⟩ :: rest) A K := by
 refine ⟨_, gC (f := { d := some d, ty := .pe E o 0, rs := bw x }) rfl rfl (by simp) (by simp) (by simp) fun a w M wf hr _ => ?_, h⟩
 have hd := cE (x := x) (fun _ h => h) hr
 rw [hx] at hd
 obtain ⟨cs, ex, hds⟩ := hd
 obtain ⟨h1, h2, _⟩ := tP wf (.cells cs ty')
 refine ⟨.pointer (some ⟨w.heap.size, 0, none⟩), w.alloc (.cells cs ty'), ?_, M, h1, h2, ⟨_, 0, rfl, ?_⟩, by simp⟩
 ·simp [execOp, Instr.box, newVar, newRow, newObj, Sem.run, ex, Value.cells]
 exact rU (T := ty') wf hds
variable [T : kf P]
theorem fX [Inhabited α] {i : Nat} (hx : A.op fr x = .pa E xs off) (hT : T.eE[ty']? = some ti) (ha : ti.k.agg = false) (he : off = i * E.size) (hi : i < xs.length) (hl : (E.tys (nth xs i))[0]? = some ty)
 (h : av P fr ops rest (A.set d ty) fun A' l => K A' ((A, { d := some d, ty := ty, rs := bw x }) :: l)) : av P fr ops (⟨some d, .load ty' x, t, p, e, none⟩ :: rest) A K :=
 bE (bL (rt := []) rfl rfl fun a w M _ hr _ => by
  have := cE (x := x) (fun _ h => h) hr
  rw [hx] at this
  obtain ⟨b, q, e, hp⟩ := this
  obtain ⟨v, hv, hd⟩ := hp.2.2 off ty (by rw [he]; exact lO E xs hi 0 ty hl)
  exact ⟨v, by simp [execOp, e, gz hT ha hv], hd⟩) h
theorem w9 (hx : A.op fr x = .pa E xs 0) (hT : T.eE[ty']? = some ti) (ha : ti.k.agg = true) (hn : xs.length * E.size = ti.size)
 (h : av P fr ops rest (A.set d (.arr E xs)) fun A' l => K A' ((A, { d := some d, ty := .arr E xs, rs := bw x }) :: l)) : av P fr ops (⟨some d, .load ty' x, t, p, e, none⟩ :: rest) A K :=
 bE (bL (rt := []) rfl rfl fun a w M _ hr _ => by
  have := cE (x := x) (fun _ h => h) hr
  rw [hx] at this
  obtain ⟨b, q, e, hp⟩ := this
  obtain ⟨cs, g1, g2, g3⟩ := nX (off := 0) (n := ti.size) hp.2.2 (m := xs.flatMap E.tys) (by rw [List.drop_zero, List.take_of_length_le (by rw [cq]; omega)]) (by rw [cq]; exact hn)
  exact ⟨.agg cs.toArray, by simp only [execOp, e]; rw [Sem.run_bind, fu (off := q + 0) hT ha g1 g3]; rfl, cs.toArray, rfl, by simpa using g2⟩) h
theorem Cx {n : Nat} {k : IntKind} {i : Nat} {el : Nat} (hx : A.op fr x = .pa E xs off) (hy : A.op fr y = .int k i) (hT : T.eE[ty']? = some ti) (hk : ti.k = .array n el) (hE : T.eE[el]? = some te) (h1 : i < n)
 (h : av P fr ops rest (A.set d (.pa E xs (off + i * te.size))) fun A' l' => K A' ((A, { d := some d, ty := .pa E xs (off + i * te.size), rs := bw x ++ bw y }) :: l')) : av P fr ops (⟨some d, .indexAddr ty' x y, t, p, e, none⟩ :: rest) A K :=
 bE (bL (rt := []) rfl rfl fun a w M _ hr _ => by
  obtain ⟨hdx, hdy⟩ := op2 hr
  rw [hx] at hdx; rw [hy] at hdy
  obtain ⟨b, q, ex, hp⟩ := hdx
  have ey : a.eval y = .int k i := hdy
  refine ⟨_, by simp only [execOp, ex, ey, Sem.run_bind, oE hT hk hE (Int.natCast_nonneg i) (show (i : Int).toNat < n from h1)]; rfl, b, q, by simp [Nat.add_assoc], hp⟩) h
end
theorem fD {α : Type} {E : El α} {xs : List α} (e : xs = []) : iE (Ty.ex (.slice none 0 0)) (Ty.sl E xs) := e ▸ mE
def JS : List Ty → List Ty → Prop
  | [], [] => True
  | s :: ss, t :: ts => s.Sub t ∧ JS ss ts
  | _, _ => False
theorem tM {w : World} {M : bB} : ∀ {ss ts : List Ty} {vs : List Value}, JS ss ts → cB w M ss vs → cB w M ts vs
  | [], [], [], _, _ => trivial
  | _ :: _, _ :: _, _ :: _, ⟨h, h'⟩, ⟨h1, h2⟩ => ⟨h _ _ _ h1, tM h' h2⟩
theorem dK.args {P : Program} {f : FuncId} {a a' : List Ty} {r : Ty} (h : dK P f a r) (hs : JS a' a) : dK P f a' r :=
 ⟨h.1, fun w M vs wf hM hd => h.2 w M vs wf hM (tM hs hd)⟩
section
variable {P : Program} {A : As} {fn : Func} {n m : Nat} {w0 : World} {M0 : bB} {J : Nat → World → bB → Prop} {Jx : World → bB → Prop} {resD resS : Ty}
end
end Go.T
namespace Go.T
open Go Go.RowKit
section
variable {P : Program} {fr : Fr} {ops : Array Oper} {A : As} {rest : List Oper} {K : As → List (As × Fx) → Prop} {d : Nat} {t ty' ty2 : TypeId} {p : String} {e : Array Edge} {x y : Operand}
theorem wF {o : Oper} {f : Fx} {s : Nat} {g h : Bool} {ty : Ty} (hs : A.slots s = .gd (g && h) ty) (hg : g = true) (hx : wu P fr ops o (A.set s (.gd h ty)) f) : wu P fr ops o A f := by
  obtain ⟨h1, h2, h3, h4, h5⟩ := hx
  refine ⟨h1, h2, h3, h4, fun a w M wf hsz hr ht => h5 a w M wf hsz (fun c hc hcn => ?_) ht⟩
  have := hr c hc hcn
  simp only [As.set]
  cases hb : Nat.beq c s with
  | false => exact this
  | true =>
    have e : c = s := Nat.eq_of_beq_eq_true hb
    subst e
    rw [hs, hg, Bool.true_and] at this
    exact this
theorem tu {ty' : TypeId} (hu : P.underlying ty' = some .bool) (b1 b2 : Bool) (w : World) : (Op.equal ty' (.bool b1) (.bool b2)).run P w = .ok (b1 == b2) w := by
 unfold Op.equal Op.maxDepth
 rw [Op.equalIn]
 simp only [Sem.run_bind, run_underlying hu, Result.andThen_ok]
 rfl
theorem JN {b1 b2 : Bool} (hu : P.underlying ty' = some .bool) (hx : A.op fr x = .bool b1) (hy : A.op fr y = .bool b2)
 (h : av P fr ops rest (A.set d (.bool (b1 == b2))) fun A' l' => K A' ((A, { d := some d, ty := .bool (b1 == b2), rs := bw x ++ bw y }) :: l')) : av P fr ops (⟨some d, .binOp .eql ty' x y ty2, t, p, e, none⟩ :: rest) A K :=
 bE (bL rfl rfl fun a w M _ hrd _ => by
  obtain ⟨hdx, hdy⟩ := op2 hrd
  rw [hx] at hdx; rw [hy] at hdy
  have ex : a.eval x = .bool b1 := hdx
  have ey : a.eval y = .bool b2 := hdy
  exact ⟨.bool (b1 == b2), by simp only [execOp, ex, ey]; simp [eqGuard, binOp, go_sem, tu hu], rfl⟩) h
theorem ES {b1 b2 : Bool} (hu : P.underlying ty' = some .bool) (hx : A.op fr x = .bool b1) (hy : A.op fr y = .bool b2)
 (h : av P fr ops rest (A.set d (.bool (!(b1 == b2)))) fun A' l' => K A' ((A, { d := some d, ty := .bool (!(b1 == b2)), rs := bw x ++ bw y }) :: l')) : av P fr ops (⟨some d, .binOp .neq ty' x y ty2, t, p, e, none⟩ :: rest) A K :=
 bE (bL rfl rfl fun a w M _ hrd _ => by
  obtain ⟨hdx, hdy⟩ := op2 hrd
  rw [hx] at hdx; rw [hy] at hdy
  have ex : a.eval x = .bool b1 := hdx
  have ey : a.eval y = .bool b2 := hdy
  exact ⟨.bool (!(b1 == b2)), by simp only [execOp, ex, ey]; simp [eqGuard, binOp, go_sem, bne, tu hu], rfl⟩) h
section
variable {b : Frame} {a : Act} {k : List Item} {cs : List Frame} {w : World}
theorem jG {c : Code} : step P (lone (b.atR a (.code (.scope c) :: k)) cs w) = .next (lone (b.atR a (.code c :: .inScope c :: k)) cs w) :=
 step_lone_go (by simp [stepG, stepG.exec, Frame.atR])
theorem xS {c : Code} : step P (lone (b.atR a (.inScope c :: k)) cs w) = .next (lone (b.atR a k) cs w) :=
 step_lone_go (by simp [stepG, stepG.exec, Frame.atR])
end
theorem C4 {F : Fence} {n : Nat} {c : Code} {Q : Exit → Act → World → Prop} {a : Act} {w : World} (h : c.wpIn F n P (Exit.noGoto Q) a w) : (Code.scope c).wpIn F n P Q a w := by
  intro b k cs hro hb hr
  have h0 : (lone (b.atR a (.code (.scope c) :: k)) cs w).fenced P F := fenced_calm hb hr rfl
  obtain ⟨e, a₁, w₁, hq, harr⟩ := h b (.inScope c :: k) cs hro hb hr
  cases e with
  | normal => exact ⟨.normal, a₁, w₁, hq, .head h0 jG (StepsIn.trans harr (.one (fenced_calm hb hr rfl) xS))⟩
  | exit id =>
    have hx : exitTo id (.inScope c :: k) = exitTo id k := by simp [exitTo]
    exact ⟨.exit id, a₁, w₁, hq, fun k' hk => .head h0 jG (harr.1 k' (by rw [hx]; exact hk)),
      fun hr' hk => let ⟨k₁, h1, h2⟩ := harr.2 hr' (by rw [hx]; exact hk); ⟨k₁, h1, .head h0 jG h2⟩⟩
  | goto l => exact hq.elim
  | ret => exact ⟨_, a₁, w₁, hq, .of_steps (.one h0 jG) harr⟩
  | panic ch => exact ⟨_, a₁, w₁, hq, .of_steps (.one h0 jG) harr⟩
  | outgrown => exact ⟨_, a₁, w₁, hq, .of_steps (.one h0 jG) harr⟩
section
variable {Q : Exit → Act → World → Prop} {c : Code} {i : Nat}
theorem Kb (h : fU P fr c A (Exit.noGoto Q)) : fU P fr (.scope c) A Q := fun a w ha => C4 (h a w ha)
theorem KE (h : dR fr A (Q .normal)) : fU P fr (.label i) A Q := fun a w ha => wpIn_label (h a w ha)
theorem uJ (h : dR fr A (Q .ret)) : dR fr A (Exit.noGoto Q .ret) := h
end
def OU (p : Prop) (_ : World) (_ : bB) (v : Value) : Prop := ∃ c : Bool, v = .bool c ∧ (c = true → p)
def Ty.nb (p : Prop) : Ty := { den := OU p, mono := fun _ _ _ h => h, one := true, isOne := fun _ ⟨_, e, _⟩ => e ▸ rfl }
theorem gx {Q : Exit → Act → World → Prop} {c : Operand} {q : Prop} {x y : Code} (hc : A.op fr c = .nb q) (h1 : q → fU P fr x A Q) (h2 : True → fU P fr y A Q) : fU P fr (.cond c x y) A Q := fun a w ha => by
  have hv : ∃ b : Bool, a.eval c = .bool b ∧ (b = true → q) := by
    obtain ⟨M, _, hs, _⟩ := ha
    have := cE (x := c) (rs := bw c) (fun _ h => h) (fun c _ hn => hs c hn)
    rw [hc] at this; exact this
  obtain ⟨b, hv, hq⟩ := hv
  cases b with
  | true => exact wpIn_cond_true hv (h1 (hq rfl) a w ha)
  | false => exact wpIn_cond_false hv (h2 trivial a w ha)
theorem qi {ty' : TypeId} {el : TypeId} (hu : P.underlying ty' = some (.slice el)) (A : Option Addr) (n c : Nat) (w : World) : (Op.equal ty' (.slice A n c) (.slice none 0 0)).run P w = .ok A.isNone w := by
 unfold Op.equal Op.maxDepth
 rw [Op.equalIn]
 simp only [Sem.run_bind, run_underlying hu, Result.andThen_ok]
 cases A <;> rfl
theorem Dg {α : Type} {E : El α} {xs : List α} {el : TypeId} (hu : P.underlying ty' = some (.slice el)) (hx : A.op fr x = .sl E xs)
    (h : av P fr ops rest (A.set d (.nb (xs = []))) fun A' l' => K A' ((A, { d := some d, ty := .nb (xs = []), rs := bw x }) :: l')) : av P fr ops (⟨some d, .binOp .eql ty' x (.const (.slice none 0 0)) ty2, t, p, e, none⟩ :: rest) A K :=
  bE (bL (rt := []) rfl rfl fun a w M _ hr _ => by
    have := cE (x := x) (fun _ h => h) hr
    rw [hx] at this
    obtain ⟨ad, c, ex, _, _, hp⟩ := this
    have ey : a.eval (.const (.slice none 0 0)) = .slice none 0 0 := rfl
    refine ⟨.bool ad.isNone, by simp only [execOp, ex, ey]; simp [eqGuard, binOp, go_sem, qi hu], ad.isNone, rfl, fun hn => ?_⟩
    cases xs with
    | nil => rfl
    | cons y l =>
      obtain ⟨b, off, e, _⟩ := hp (by simp)
      rw [e] at hn; cases hn) h
theorem yE {α : Type} (E : El α) : ∀ (xs : List α) (n : Nat), (xs.flatMap E.tys).take (n * E.size) = (xs.take n).flatMap E.tys
  | [], n => by simp
  | x :: xs, 0 => by simp
  | x :: xs, n + 1 => by
    rw [List.flatMap_cons, List.take_succ_cons, List.flatMap_cons, ← yE E xs n, List.take_append, E.len, Nat.succ_mul, List.take_of_length_le (by rw [E.len]; omega)]
    congr 2; omega
theorem uD [T : kf P] {α : Type} {E : El α} {xs : List α} {len el : Nat} {parts : Array (Nat × Operand)} {ti te : TI} {ls : List (Nat × List Ty)} (hT : T.eE[ty']? = some ti) (hk : ti.k = .slice el) (hE : T.eE[el]? = some te) (hs : te.size = E.size) (hz : te.zero.length = te.size) (h0 : 0 < te.size) (hle : len * te.size ≤ 16777216) (hp : aW A fr parts.toList ls)
 (hf : uI (fun i => some (i * te.size, te.size)) ((List.range (len * te.size)).map fun j => Ty.ko (te.zero.getD (j % te.size) undef)) ls = some (xs.flatMap E.tys)) (hx : xs.length = len) (hpa : fr.pass.contains (d + 1) = false)
 (h : av P fr ops rest (A.after { d := some d, ty := .row E el (d + 1) xs, K := [d + 1], rs := parts.toList.flatMap fun x => bw x.2 }) fun A' l' => K A' ((A, { d := some d, ty := .row E el (d + 1) xs, K := [d + 1], rs := parts.toList.flatMap fun x => bw x.2 }) :: l')) : av P fr ops (⟨some d, .buildSlice ty' len parts, t, p, e, none⟩ :: rest) A K := by
 refine ⟨_, gC (f := { d := some d, ty := .row E el (d + 1) xs, K := [d + 1], rs := parts.toList.flatMap fun x => bw x.2 }) rfl rfl (by simp) (by simp) (by simp at hpa ⊢; exact hpa) fun a w M wf hr _ => ?_, h⟩
 obtain ⟨z, hz1, hz2⟩ := o7 hE (by intro hn; rw [hn] at hz; simp at hz; omega) w
 obtain ⟨_, D, _, hD, hkd, _⟩ := ct hT
 rw [hk] at hkd
 cases D <;> simp only [TK.of, reduceCtorEq, TK.slice.injEq] at hkd
 rename_i el0
 have hel : el0 = el := hkd
 subst hel
 have hzs : z.cells.size = te.size := by rw [← hz, ← hz2]; simp
 let zs : Array Value := if len * te.size = 0 then #[] else z.cells
 have hcells : cB w M ((List.range (len * te.size)).map fun j => Ty.ko (te.zero.getD (j % te.size) undef)) ((Array.range (len * te.size)).map (zs[· % zs.size]!)).toList := by
  refine gB (by simp) fun i u hi => ?_
  rw [List.getElem?_map] at hi
  simp only [Option.map_eq_some_iff] at hi
  obtain ⟨j, hj, rfl⟩ := hi
  have hlt : i < len * te.size := by have := (List.getElem?_eq_some_iff.1 hj).1; simpa using this
  rw [List.getElem?_range hlt] at hj
  injection hj with hj
  subst hj
  have hne : ¬ len * te.size = 0 := by omega
  refine ⟨te.zero.getD (i % te.size) undef, ?_, nM _ _ _⟩
  have hm : i % te.size < z.cells.size := by rw [hzs]; exact Nat.mod_lt _ h0
  have e1 : zs[i % zs.size]! = te.zero.getD (i % te.size) undef := by
   simp only [zs, if_neg hne, hzs]
   rw [getElem!_pos z.cells _ hm, ← hz2, List.getD_eq_getElem?_getD, List.getElem?_eq_getElem (by simpa using hm)]
   simp
  simp [List.getElem?_range hlt, e1]
 obtain ⟨cs', h1, h2⟩ := s6 hr hp (place := fun i => some (i * te.size, te.size)) (cs := (Array.range (len * te.size)).map (zs[· % zs.size]!)) (fun x hx c hc => List.mem_flatMap.2 ⟨x, hx, hc⟩) hcells hf
 have hparts : (parts.map fun x => (x.1, a.eval x.2)).toList = parts.toList.map fun x => (x.1, a.eval x.2) := by simp
 obtain ⟨h3, h4, h5⟩ := kQ wf (.cells cs' el0) (d + 1)
 have hcl : cs'.toList.length = len * te.size := by rw [cL h2, cq, hx, hs]
 have hmx : len ≤ maxLen := by
  have : len ≤ len * te.size := Nat.le_mul_of_pos_right _ h0
  simp only [maxLen]; omega
 refine ⟨.slice (some ⟨w.heap.size, 0, none⟩) len len, w.alloc (.cells cs' el0), ?_, _, h3, h4, ⟨cs'.toList, ⟨by rw [hcl, hx, hs], .inr ⟨w.heap.size, len, cs', by rw [hx], Nat.zero_le _, gO _ _, by rw [hx]; exact Nat.le_refl _, hmx, by rw [← hs]; simpa using hcl, by rw [List.take_of_length_le (by rw [hcl, hx, hs]; exact Nat.le_refl _)]⟩⟩, ?_, fun g hg => ?_⟩, by simp⟩
 ·have hbig : ¬ (len * te.size > 2 ^ 24) := by omega
  have hbig' : ¬ (2 ^ 24 < len * te.size) := by omega
  simp only [execOp, Instr.buildSlice, Sem.run_bind, run_underlying hD, Result.andThen_ok, dH hE]
  simp only [hbig', gt_iff_lt, if_false]
  by_cases hn : len * te.size = 0
  ·have : zs = #[] := if_pos hn
   rw [this] at h1
   simp only [hn, if_true, Sem.run_pure, Sem.run_bind, Result.andThen_ok]
   rw [hn] at h1
   simp only [hparts, h1]
   simp [newRow, newObj, Sem.run]
  have : zs = z.cells := if_neg hn
  rw [this] at h1
  simp only [if_neg hn, Sem.run_pure, Sem.run_bind, Result.andThen_ok, hz1]
  simp only [hparts, h1]
  simp [newRow, newObj, Sem.run]
 ·refine bQ h4 (fun u hu => ?_) (fun u hu => ?_) h2
  ·rw [E.cO] at hu; cases hu
  rw [E.cD] at hu; cases hu
 simp [Value.ownBlock] at hg
 subst hg; exact h5
end
end Go.T
namespace Go.T
open Go Go.RowKit
section
variable {A : As} {α : Type} {E : El α} {tg Tb : Nat} {xs : List α}
end
section
variable {P : Program} {fr : Fr} {ops : Array Oper} {A : As} {rest : List Oper} {K : As → List (As × Fx) → Prop} {d : Nat} {t ty' ty2 : TypeId} {p : String} {e : Array Edge} [T : kf P]
variable {α : Type} {E : El α} {xs : List α} {x y : Operand} {tg Tb : Nat} {ti : TI}
end
end Go.T
namespace Go.T
open Go Go.RowKit
section
variable {P : Program} {fr : Fr} {ops : Array Oper} {A : As} {rest : List Oper} {K : As → List (As × Fx) → Prop} {d : Nat} {t ty' ty2 : TypeId} {p : String} {e : Array Edge} [T : kf P]
variable {x y : Operand} {ti ts : TI}
end
end Go.T
namespace Go.T
open Go
section
variable {P : Program} {fr : Fr} {A : As} {c : Code} {Q : Exit → Act → World → Prop}
def uC (A : As) (tg : Nat) (t0 t : Ty) : Prop := ∀ w M v, Wf w M → (∀ x ∈ A.tags, x.2.den w M x.1) → t0.den w M v → t.den w (dV M tg) v
def yt (A : As) (tg : Nat) : List Ty → List Ty → Prop
  | [], [] => True
  | a :: l, b :: l' => uC A tg a b ∧ yt A tg l l'
  | _, _ => False
def J2 (A : As) (tg : Nat) (x : Nat × Cont) : Prop := ∀ w M, Wf w M → (∀ x ∈ A.tags, x.2.den w M x.1) → x.2.den w (dV M tg) x.1
def JL (A : As) (tg : Nat) : List (Nat × Cont) → Prop
  | [] => True
  | x :: l => J2 A tg x ∧ JL A tg l
theorem cH {tg : Nat} {t : Ty} (h : lS t.deps [tg] = true) : uC A tg t t := fun w M _ _ _ hd =>
 t.mono (iN (w := w)) (gN h) (fun _ _ h => by cases h) hd
theorem Ed {α : Type} {E : El α} {T tg : Nat} {xs : List α} : uC A tg (.row E T tg xs) (.sl E xs) := fun w M v wf _ hd =>
 w7 wf hd (fun b hb => by simp [dV, hb]) (fun b hb => by simp [dV, hb])
theorem pH {α : Type} {E : El α} {T tg n : Nat} {xs : List α} (hc : A.tag tg = some (.vec E T xs)) (hn : xs.length = n) (h1 : fN tg) : uC A tg (.vs tg n) (.sl E xs) := fun w M v wf ht hd => by
 have hv : gb E T xs w M tg := ht _ (cW hc)
 subst hn
 rcases hd with ⟨h0, rfl⟩ | ⟨b, cc, hb, e, hn1, hn2⟩
 ·exact ⟨none, 0, by rw [h0], by omega, by simp [maxLen], fun h => absurd h (by omega)⟩
 refine ⟨_, cc, e, hn1, hn2, fun _ => ⟨b, 0, rfl, by simp [dV, hb], wf.lt b _ hb, fun i t hi => ?_⟩⟩
 obtain ⟨u, hu, hdu⟩ := lz wf h1 hb hv hi
 refine ⟨u, by rw [Nat.zero_add]; exact hu, t.mono (iN (w := w)) ?_ ?_ hdu⟩
 ·intro u hu
  have : u ∈ cC (xs.flatMap E.tys) := List.mem_flatMap.2 ⟨t, List.mem_of_getElem? hi, hu⟩
  rw [E.cO] at this; cases this
 intro u _ h; cases h
theorem vh {tg : Nat} {w : World} {M : bB} (wf : Wf w M) (ht : ∀ x ∈ A.tags, x.2.den w M x.1) : ∀ {l l' : List Ty} {vs : List Value}, yt A tg l l' → cB w M l vs → cB w (dV M tg) l' vs
  | [], [], [], _, _ => trivial
  | _ :: _, _ :: _, _ :: _, ⟨h1, h2⟩, ⟨h3, h4⟩ => ⟨h1 _ _ _ wf ht h3, vh wf ht h2 h4⟩
theorem jr {tg o T : Nat} {l l' : List Ty} (ho : A.tag o = some (.cells T l)) (hne : Nat.beq o tg = false) (h : yt A tg l l') : J2 A tg (o, .cells T l') := fun w M wf ht => by
 obtain ⟨b, cs, hb, hh, hd⟩ := ht _ (cW ho)
 refine ⟨b, cs, ?_, hh, vh wf ht h hd⟩
 unfold dV
 rw [if_neg]
 ·exact hb
 rw [hb]; intro e; injection e with e; subst e; simp at hne
theorem xD {tg : Nat} {w : World} {M : bB} (wf : Wf w M) (ht : ∀ x ∈ A.tags, x.2.den w M x.1) : ∀ {lt : List (Nat × Cont)}, JL A tg lt → ∀ {x : Nat × Cont}, x ∈ lt → x.2.den w (dV M tg) x.1
  | y :: _, ⟨h1, h2⟩, x, hx => by
    rcases List.mem_cons.1 hx with rfl | hx
    · exact h1 w M wf ht
    · exact xD wf ht h2 hx
theorem pJ {tg : Nat} (l : List (Nat × Ty)) (lt : List (Nat × Cont)) (h1 : 1 ≤ tg) (hp : fr.pass.contains tg = false) (hl : z7 A tg l) (hlt : JL A tg lt) (h : fU P fr c ⟨(A.oM tg l).slots, lt ++ (A.oM tg l).tags⟩ Q) : fU P fr c A Q := fun a w ⟨M, ok, hsl, ht⟩ => by
  have le : Le (· ∈ ([] : List Nat)) (· ∈ [tg]) w M w (dV M tg) := iN
  refine h a w ⟨dV M tg, ⟨tG ok.wf, Fr.iK ok.base (by intro _ h; cases h) (fun t ht => by simp only [List.mem_singleton] at ht; subst ht; exact ⟨h1, by simpa using hp⟩) le, ok.size, ok.defers.step (by intro _ h; cases h) (fun t ht => by simp only [List.mem_singleton] at ht; subst ht; exact h1) le⟩, fun i hi => ?_, fun x hx => ?_⟩
  · have base : (fW [] [tg] A.slots i).den w (dV M tg) (a.tmps.getD i undef) := by
      rcases fH [] [tg] A.slots i with ⟨e, hdj⟩ | ⟨_, e⟩
      · rw [e]; exact (A.slots i).mono le (eR hdj).1 (eR hdj).2 (hsl i hi)
      · rw [e]; trivial
    show (nS l (fW [] [tg] A.slots) i).den _ _ _
    clear h
    induction l with
    | nil => exact base
    | cons x l ih =>
      obtain ⟨d, t⟩ := x
      unfold nS
      cases hb : Nat.beq i d with
      | false => simp only [cond_false]; exact ih hl.2
      | true =>
        have : i = d := Nat.eq_of_beq_eq_true hb
        subst this
        simp only [cond_true]
        exact hl.1 w M _ ok.wf ht (hsl i hi)
  · rcases List.mem_append.1 (show x ∈ lt ++ (A.oM tg l).tags from hx) with hx | hx
    · exact xD ok.wf ht hlt hx
    · exact gj le hx fun y hy _ => ht y hy
end
section
open Go.RowKit
variable {P : Program} {A : As} {fn : Func} {n : Nat} {w0 : World} {M0 : bB} {F : List Nat} {post : List (Nat × Cont)} [T : kf P]
theorem Jl (L : List Nat) {tm ty tg Tb : Nat} {l : List Ty} {ti : TI} {res : Ty} (hr : fn.results = #[.cell tm ty]) (ht : Nat.blt tm n = true) (hx : A.slots tm = .ptr tg 0) (hc : A.tag tg = some (.cells Tb l)) (h1 : fN tg) (hT : T.eE[ty]? = some ti) (ha : ti.k.agg = true) (hl : l.length = ti.size)
 (hL : ∀ t ∈ F, t ∈ L) (hp : qY A L post) (hs : BI L (.agg l) res) :
 dR ⟨n, w0, M0, F, .plain⟩ A (bodyPost P fn (cT F post w0 M0 res) .ret) := by
 intro a w ⟨M, ok, hsl, htg⟩
 have hd := hsl tm (by simpa using ht)
 rw [hx] at hd
 obtain ⟨b, hb, e⟩ := hd
 obtain ⟨b', cs, hb', hh, hds⟩ := htg _ (cW hc)
 obtain ⟨u, rfl⟩ : ∃ u, tg = u + 1 := ⟨tg - 1, by omega⟩
 have := ok.wf.inj b b' u (by omega) hb hb'
 subst this
 have hlen := cL hds
 have hload := fu (P := P) hT ha (w := w) (b := b) (off := 0) (cs := cs.toList) (by rw [hlen, hl]) (fun j v hj => by simpa [World.cell?, hh] using hj)
 have hload' : (loadVar ty ⟨b, 0, none⟩).run P w = .ok (.agg cs) w := by simpa [Instr.loadAt, Instr.sureAddr] using hload
 refine ⟨ok.gw (by simp), .agg cs, ?_, _, oN L M, rfl, pQ ok.wf, pU hL ok.base, hs _ _ _ ok.wf ⟨cs, rfl, hds⟩, vY ok.wf htg hp⟩
 have e' : a.tmps.getD tm undef = .pointer (some ⟨b, 0, none⟩) := e
 have e'' : a.tmps[tm]?.getD undef = .pointer (some ⟨b, 0, none⟩) := by rw [← Array.getD_eq_getD_getElem?]; exact e'
 simp [results, hr, e'', asAddr, hload']
end
end Go.T
namespace Go.T
open Go Go.RowKit
theorem nY {w : World} {g : Nat} {old : Array Value} {t : TypeId} (cs : Array Value) (hg : w.heap[g]? = some (.cells old t (0, 0))) : w.setRow g cs = { w with heap := w.heap.setIfInBounds g (.cells cs t (0, 0)) } := by
 unfold World.setRow
 congr 1
 obtain ⟨hlt, hv⟩ := Array.getElem?_eq_some_iff.1 hg
 apply Array.ext_getElem?
 intro i
 by_cases e : g = i
 ·subst e
  rw [Array.getElem?_modify, if_pos rfl, hg, Array.getElem?_setIfInBounds_self_of_lt hlt]; rfl
 rw [Array.getElem?_modify, if_neg e, Array.getElem?_setIfInBounds_ne e]
theorem yP {α : Type} (E : El α) : ∀ (xs : List α) (n : Nat), (xs.flatMap E.tys).drop (n * E.size) = (xs.drop n).flatMap E.tys
  | [], n => by simp
  | x :: xs, 0 => by simp
  | x :: xs, n + 1 => by
    rw [List.flatMap_cons, List.drop_succ_cons, ← yP E xs n, List.drop_append, E.len, Nat.succ_mul, List.drop_of_length_le (by rw [E.len]; omega), List.nil_append]
    congr 1; omega
theorem J5 {α : Type} {E : El α} {xs ys : List α} {w : World} {M : bB} {cur vs : List Value} {i : Nat} (hd : cB w M (xs.flatMap E.tys) (cur.take (xs.flatMap E.tys).length)) (hv : cB w M (ys.flatMap E.tys) vs) (hi : i + ys.length ≤ xs.length) :
 cB w M ((xs.take i ++ (ys ++ xs.drop (i + ys.length))).flatMap E.tys) ((cur.take (i * E.size) ++ vs ++ cur.drop (i * E.size + vs.length)).take ((xs.take i ++ (ys ++ xs.drop (i + ys.length))).flatMap E.tys).length) := by
 have hvl : vs.length = ys.length * E.size := by rw [cL hv, cq]
 have hN : (xs.flatMap E.tys).length = xs.length * E.size := cq E xs
 have hcl : xs.length * E.size ≤ cur.length := by
  have := cL hd
  rw [List.length_take, hN] at this; omega
 have hm : (i + ys.length) * E.size ≤ xs.length * E.size := Nat.mul_le_mul_right _ hi
 have hm2 : (i + ys.length) * E.size = i * E.size + ys.length * E.size := Nat.add_mul _ _ _
 have hxl : (xs.take i ++ (ys ++ xs.drop (i + ys.length))).length = xs.length := by simp; omega
 rw [cq E (xs.take i ++ (ys ++ xs.drop (i + ys.length))), hxl, List.flatMap_append, List.flatMap_append]
 have e : (cur.take (i * E.size) ++ vs ++ cur.drop (i * E.size + vs.length)).take (xs.length * E.size) = cur.take (i * E.size) ++ (vs ++ (cur.take (xs.length * E.size)).drop ((i + ys.length) * E.size)) := by
  have l1 : (cur.take (i * E.size)).length = i * E.size := by rw [List.length_take]; omega
  rw [List.append_assoc, List.take_append, List.take_append, l1]
  have e1 : (cur.take (i * E.size)).take (xs.length * E.size) = cur.take (i * E.size) := List.take_of_length_le (by omega)
  have e2 : vs.take (xs.length * E.size - i * E.size) = vs := List.take_of_length_le (by omega)
  rw [e1, e2, hvl, hm2, List.drop_take]
  congr 3; omega
 rw [e]
 rw [hN] at hd
 refine iW ?_ (iW hv ?_)
 ·have := pX (i * E.size) hd
  rw [yE, List.take_take, Nat.min_eq_left (by omega)] at this; exact this
 have := mj ((i + ys.length) * E.size) hd
 rw [yP] at this; exact this
section
variable {P : Program} {fr : Fr} {ops : Array Oper} {A : As} {rest : List Oper} {K : As → List (As × Fx) → Prop} {d : Nat} {t ty' : TypeId} {p : String} {e : Array Edge} [T : kf P]
theorem FO {α : Type} {xs : List α} {i : Nat} (h : i < xs.length) (z : α) : xs.take i ++ ([z] ++ xs.drop (i + [z].length)) = xs.set i z := by
 rw [List.set_eq_take_append_cons_drop, if_pos h]; rfl
theorem za {α : Type} {E : El α} {xs : List α} {x y : Operand} {tg off Tb : Nat} {ti : TI} {z : α} (i : Nat) (hx : A.op fr x = .ptr tg off) (he : off = i * E.size) (hc : A.tag tg = some (.vec E Tb xs)) (h1 : fN tg) (hT : T.eE[ty']? = some ti) (hsz : ti.size = E.size) (hy : A.op fr y = .agg (E.tys z)) (hi : i < xs.length)
 (h : av P fr ops rest (A.after { d := none, S := [tg], sets := [(tg, .vec E Tb (xs.set i z))], rs := bw x ++ bw y, rt := [tg] }) fun A' l'' => K A' ((A, { d := none, S := [tg], sets := [(tg, .vec E Tb (xs.set i z))], rs := bw x ++ bw y, rt := [tg] }) :: l'')) :
 av P fr ops (⟨none, .store ty' x y, t, p, e, none⟩ :: rest) A K := by
 refine ⟨_, jU rfl rfl rfl (by simp) (by simpa using h1.1) (by simp) fun a w M wf hr ht => ?_, h⟩
 obtain ⟨hdx, hdy⟩ := op2 hr
 rw [hx] at hdx; rw [hy] at hdy
 obtain ⟨b, hb, ex⟩ := hdx
 obtain ⟨vs, ey, hvs⟩ := hdy
 rcases nx hc w M ht with rfl | ⟨b', cs, hb', hh, hd⟩
 ·exact absurd hi (Nat.not_lt_zero _)
 obtain ⟨u, rfl⟩ : ∃ u, tg = u + 1 := ⟨tg - 1, by omega⟩
 have := wf.inj b b' u (by omega) hb hb'
 subst this
 have hlen := cL hd
 have hvl : vs.size = E.size := by have := cL hvs; rw [E.len] at this; simpa using this
 have hoff : i * E.size + E.size ≤ cs.size := by
  rw [cq, List.length_take] at hlen
  have : (i + 1) * E.size ≤ xs.length * E.size := Nat.mul_le_mul_right _ hi
  rw [Nat.succ_mul] at this
  simp at hlen; omega
 have hones : ∀ v ∈ vs.toList, v.oneCell' = true := lK hvs (fun t ht => by
  have := lH E [z] t (by simpa using ht)
  exact this)
 have hst := run_storeCells_at (P := P) b off Tb vs.toList 0 cs w hh (by simp [he, hvl]; omega) hones
 rw [nY _ hh] at hst
 obtain ⟨h1', h2', h3'⟩ := iF (cs' := (cs.toList.take (off + 0) ++ vs.toList ++ cs.toList.drop (off + 0 + vs.toList.length)).toArray) (Tb := Tb) wf hb _ rfl
 refine ⟨_, ?_, M, h1', h2', trivial, ?_⟩
 ·simp only [execOp, Instr.storeAt, Instr.sureAddr, ex, ey, storeVar, Value.cells, dH hT, Sem.run_bind, Sem.run_pure, Result.andThen_ok, hsz, hvl, hst]
  simp [hst]
 intro z' hz'
 simp only [List.mem_singleton] at hz'
 subst hz'
 refine .inr ⟨b, _, hb, h3', ?_⟩
 have hp := J5 (ys := [z]) (vs := vs.toList) (i := i) hd (by simpa using hvs) (by show i + 1 ≤ _; omega)
 rw [FO hi, ← he] at hp
 exact bQ h2' (by intro _ _ h; cases h) (by rw [E.cD]; intro _ h; cases h) (by simpa using hp)
end
section
variable {P : Program} {A : As} {fn : Func} {n : Nat} {w0 : World} {M0 : bB} [T : kf P]
theorem jh {tm ty tg Tb t2 : Nat} {l : List Ty} {ti : TI} {r1 r2 : Ty} (hr : fn.results = #[.cell tm ty, .tmp t2]) (ht : Nat.blt tm n = true) (h2 : Nat.blt t2 n = true) (hx : A.slots tm = .ptr tg 0) (hc : A.tag tg = some (.cells Tb l)) (h1 : fN tg) (hT : T.eE[ty]? = some ti) (ha : ti.k.agg = true) (hl : l.length = ti.size) (hs : iE (.agg l) r1) (hs2 : iE (A.slots t2) r2) :
 dR ⟨n, w0, M0, [], .plain⟩ A (bodyPost P fn (mL w0 M0 (Ty.kD [r1, r2])) .ret) := by
 intro a w ⟨M, ok, hsl, htg⟩
 have hd := hsl tm (by simpa using ht)
 rw [hx] at hd
 obtain ⟨b, hb, e⟩ := hd
 obtain ⟨b', cs, hb', hh, hds⟩ := htg _ (cW hc)
 obtain ⟨u, rfl⟩ : ∃ u, tg = u + 1 := ⟨tg - 1, by omega⟩
 have := ok.wf.inj b b' u (by omega) hb hb'
 subst this
 have hlen := cL hds
 have hload := fu (P := P) hT ha (w := w) (b := b) (off := 0) (cs := cs.toList) (by rw [hlen, hl]) (fun j v hj => by simpa [World.cell?, hh] using hj)
 have hload' : (loadVar ty ⟨b, 0, none⟩).run P w = .ok (.agg cs) w := by simpa [Instr.loadAt, Instr.sureAddr] using hload
 refine ⟨ok.gw (by simp), .tuple #[.agg cs, a.tmps.getD t2 undef], ?_, _, oZ M, rfl, rL ok.wf, og (fr := ⟨n, w0, M0, [], .plain⟩) (fun _ h => h) ok.base, _, rfl, hs _ _ _ ok.wf ⟨cs, rfl, hds⟩, hs2 _ _ _ ok.wf (hsl t2 (by simpa using h2)), trivial⟩
 have e' : a.tmps.getD tm undef = .pointer (some ⟨b, 0, none⟩) := e
 have e'' : a.tmps[tm]?.getD undef = .pointer (some ⟨b, 0, none⟩) := by rw [← Array.getD_eq_getD_getElem?]; exact e'
 simp [results, hr, e'', asAddr, hload']
end
section
variable {P : Program} {fr : Fr} {ops : Array Oper} {A : As} {rest : List Oper} {K : As → List (As × Fx) → Prop} {d : Nat} {t ty' : TypeId} {p : String} {e : Array Edge} [T : kf P]
end
end Go.T
namespace Go.T
open Go Go.RowKit
def Nk {α : Type} (E : El α) (xs : List α) (w : World) (M : bB) (v : Value) : Prop := m8 E xs w M v ∧ (xs = [] → v = .slice none 0 0)
def Ty.Fy {α : Type} (E : El α) (xs : List α) : Ty :=
  { den := Nk E xs, deps := [], cdeps := [], mono := fun le hk hs h => ⟨(Ty.sl E xs).mono le hk hs h.1, h.2⟩, one := true, isOne := fun _ ⟨⟨_, _, e, _⟩, _⟩ => e ▸ rfl }
theorem Ty.L0 {α : Type} {E : El α} {xs : List α} : (Ty.Fy E xs).Sub (Ty.sl E xs) := fun _ _ _ h => h.1
theorem CU {L : List Nat} {α : Type} {E : El α} {xs : List α} (e : xs = []) : BI L (Ty.ex (.slice none 0 0)) (Ty.Fy E xs) := fun w M v wf h => by
 subst e
 exact ⟨hU (L := L) (Gm (E := E)) w M v wf h, fun _ => h⟩
theorem Cy {L : List Nat} {α : Type} {E : El α} {T tg : Nat} {xs ys : List α} (h : 1 ≤ tg) (hL : L.contains tg = false) (e : xs = ys) (hne : ys ≠ []) : BI L (Ty.row E T tg xs) (Ty.Fy E ys) := fun w M v wf hd => ⟨HZ h hL e w M v wf hd, fun hx => absurd hx hne⟩
section
variable {P : Program} {fr : Fr} {ops : Array Oper} {A : As} {rest : List Oper} {K : As → List (As × Fx) → Prop} {d : Nat} {t ty' ty2 : TypeId} {p : String} {e : Array Edge} {x : Operand}
theorem Oc {α : Type} {E : El α} {xs : List α} (hx : A.op fr x = .Fy E xs) (h : av P fr ops rest (A.set d (.Fy E xs)) fun A' l => K A' ((A, { d := some d, ty := .Fy E xs, rs := bw x }) :: l)) : av P fr ops (⟨some d, .move x, t, p, e, none⟩ :: rest) A K := eA hx h
theorem Od {α : Type} {E : El α} {xs : List α} (hx : A.op fr x = .Fy E xs) (h : av P fr ops rest (A.set d (.Fy E xs)) fun A' l => K A' ((A, { d := some d, ty := .Fy E xs, rs := bw x }) :: l)) : av P fr ops (⟨some d, .assign x, t, p, e, none⟩ :: rest) A K := gQ hx h
theorem Jp {α : Type} {E : El α} {xs : List α} {w : World} {M : bB} {v : Value} (h : Nk E xs w M v) : ∃ ad n c, v = .slice ad n c ∧ ad.isNone = xs.isEmpty := by
  obtain ⟨⟨ad, c, ex, _, _, hp⟩, hn⟩ := h
  refine ⟨ad, _, c, ex, ?_⟩
  cases xs with
  | nil => have := hn rfl; rw [ex] at this; injection this with h1; rw [h1]; rfl
  | cons y l =>
    obtain ⟨b, off, e, _⟩ := hp (by simp)
    rw [e]; rfl
theorem Hi {α : Type} {E : El α} {xs : List α} {el : TypeId} (hu : P.underlying ty' = some (.slice el)) (hx : A.op fr x = .Fy E xs)
 (h : av P fr ops rest (A.set d (.bool xs.isEmpty)) fun A' l' => K A' ((A, { d := some d, ty := .bool xs.isEmpty, rs := bw x }) :: l')) : av P fr ops (⟨some d, .binOp .eql ty' x (.const (.slice none 0 0)) ty2, t, p, e, none⟩ :: rest) A K :=
 bE (bL (rt := []) rfl rfl fun a w M _ hr _ => by
  have := cE (x := x) (fun _ h => h) hr
  rw [hx] at this
  obtain ⟨ad, n, c, ex, hn⟩ := Jp this
  have ey : a.eval (.const (.slice none 0 0)) = .slice none 0 0 := rfl
  exact ⟨.bool ad.isNone, by simp only [execOp, ex, ey]; simp [eqGuard, binOp, go_sem, qi hu], by rw [hn]; rfl⟩) h
end
end Go.T
namespace Go.T
open Go Go.RowKit
section
variable {P : Program} {fr : Fr} {A : As} {Q : Exit → Act → World → Prop} {code : Code}
end
section
variable {P : Program} {fr : Fr} {ops : Array Oper} {A : As} {rest : List Oper} {K : As → List (As × Fx) → Prop} {d : Nat} {t ty' ty2 : TypeId} {p : String} {e : Array Edge}
end
section
variable {P : Program} {fr : Fr} {ops : Array Oper} {A : As} {rest : List Oper} {K : As → List (As × Fx) → Prop} {d : Nat} {t ty' ty2 : TypeId} {p : String} {e : Array Edge} [T : kf P]
end
end Go.T
namespace Go.T
open Go Go.RowKit
section
variable {P : Program} {fr : Fr} {ops : Array Oper} {A : As} {rest : List Oper} {K : As → List (As × Fx) → Prop} {d : Nat} {t : TypeId} {p : String} {e : Array Edge} {y : Operand}
theorem zx {c : Operand} {b : Bool} (hc : A.op fr c = .bool true) (hy : A.op fr y = .bool b)
 (h : av P fr ops rest (A.set d (.bool b)) fun A' l' => K A' ((A, { d := some d, ty := .bool b, rs := bw c ++ bw y }) :: l')) : av P fr ops (⟨some d, .pick c y (.const (.bool false)), t, p, e, none⟩ :: rest) A K :=
 bE (bL rfl rfl fun a w M _ hrd _ => by
  obtain ⟨hdc, hdy⟩ := op2 hrd
  rw [hc] at hdc; rw [hy] at hdy
  have ec : a.eval c = .bool true := hdc
  have ey : a.eval y = .bool b := hdy
  exact ⟨.bool b, by simp only [execOp, ec, ey]; simp [asBool], rfl⟩) h
theorem Du {c : Operand} (hc : A.op fr c = .bool false)
 (h : av P fr ops rest (A.set d (.bool false)) fun A' l' => K A' ((A, { d := some d, ty := .bool false, rs := bw c ++ bw y }) :: l')) : av P fr ops (⟨some d, .pick c y (.const (.bool false)), t, p, e, none⟩ :: rest) A K :=
 bE (bL rfl rfl fun a w M _ hrd _ => by
  obtain ⟨hdc, _⟩ := op2 hrd
  rw [hc] at hdc
  have ec : a.eval c = .bool false := hdc
  exact ⟨.bool false, by simp only [execOp, ec]; simp [asBool, Act.eval], rfl⟩) h
end
end Go.T
namespace Go.T
open Go Go.RowKit
structure LL (α : Type) where
  E : El α
  own : Nat → α → List Ty
  olen : ∀ J x, (own J x).length = E.size
  deps : ∀ J x, ∀ u ∈ cC (own J x), u = J
  cdeps : ∀ J x, ∀ u ∈ bX (own J x), u = J
  oones : ∀ J x, (own J x).all Ty.one = true
  oM : ∀ J x w M M' vs, Wf w M → (∀ b, M b = some J → M' b = none) → (∀ b, M b = none → M' b = none) → cB w M (own J x) vs → cB w M' (E.tys x) vs
  ren : ∀ J J' x w M M' vs, (∀ b, M b = some J → M' b = some J') → (∀ b, M b = none → M' b = none) → cB w M (own J x) vs → cB w M' (own J' x) vs
  mine : ∀ J x w M vs, cB w M (own J x) vs → ∀ g ∈ vs.filterMap Value.ownBlock, M g = some J
section
variable {α : Type} (E : LL α)
theorem LL.cO (J : Nat) (xs : List α) : ∀ u ∈ cC (xs.flatMap (E.own J)), u = J := by
 intro u hu
 simp only [cC, List.mem_flatMap] at hu
 obtain ⟨t, ⟨x, _, hx⟩, hu⟩ := hu
 exact E.deps J x u (List.mem_flatMap.2 ⟨t, hx, hu⟩)
theorem LL.cD (J : Nat) (xs : List α) : ∀ u ∈ bX (xs.flatMap (E.own J)), u = J := by
 intro u hu
 simp only [bX, List.mem_flatMap] at hu
 obtain ⟨t, ⟨x, _, hx⟩, hu⟩ := hu
 exact E.cdeps J x u (List.mem_flatMap.2 ⟨t, hx, hu⟩)
theorem LL.cq (J : Nat) : ∀ xs : List α, (xs.flatMap (E.own J)).length = xs.length * E.E.size
  | [] => by simp
  | x :: xs => by rw [List.flatMap_cons, List.length_append, E.olen, LL.cq J xs, List.length_cons, Nat.succ_mul, Nat.add_comm]
end
def M7 {α : Type} (E : LL α) (T tg J : Nat) (xs : List α) (w : World) (M : bB) (v : Value) : Prop :=
  ∃ cs, w.ownsRow 0 T E.E.size v xs.length cs ∧ cB w M (xs.flatMap (E.own J)) cs ∧ (cs.filterMap Value.ownBlock).Nodup ∧ ∀ g, v.ownBlock = some g → M g = some tg
def Ty.Kf {α : Type} (E : LL α) (T tg J : Nat) (xs : List α) : Ty :=
  ⟨M7 E T tg J xs, [tg, J], [tg, J], fun le hk hs ⟨cs, h1, h2, h4, h3⟩ =>
    ⟨cs, rP h1 fun g hg => (le.own g tg (h3 g hg) (hk tg (by simp))).2 (hs tg (by simp)),
     bQ le (fun u hu => by rw [E.cO J xs u hu]; exact hk J (by simp)) (fun u hu => by rw [E.cD J xs u hu]; exact hs J (by simp)) h2, h4,
     fun g hg => (le.own g tg (h3 g hg) (hk tg (by simp))).1⟩, true, fun _ ⟨cs, h1, _⟩ => by
      rcases h1.2 with ⟨rfl, _⟩ | ⟨_, _, _, rfl, _⟩ <;> rfl⟩
def Of (l : List Ty) (w : World) (M : bB) (v : Value) : Prop := ∃ b, v = .slice (some ⟨b, 0, none⟩) 1 1 ∧ mK w M b 0 l
def Ty.ms (l : List Ty) : Ty := ⟨Of l, cC l, bX l, fun le hk hs ⟨b, e, h⟩ => ⟨b, e, lp le hk hs h⟩, true, fun _ ⟨_, e, _⟩ => e ▸ rfl⟩
section
variable {P : Program} {fr : Fr} {ops : Array Oper} {A : As} {rest : List Oper} {K : As → List (As × Fx) → Prop} {d : Nat} {t ty' : TypeId} {p : String} {e : Array Edge} [T : kf P]
def kj (M : bB) (tg J : Nat) : bB := fun b => if M b = some tg then some J else M b
theorem oS {w : World} {M : bB} {tg J : Nat} : Le (· ∈ ([] : List Nat)) (· ∈ [tg]) w M w (kj M tg J) :=
 ⟨Nat.le_refl _, rfl, rfl, rfl, fun b _ hm => ⟨by simp [kj, hm], rfl⟩, fun b t hm hk => ⟨by simp only [List.mem_singleton] at hk; simp [kj, hm, hk], fun _ => rfl⟩⟩
theorem Bg {w : World} {M : bB} {tg J : Nat} (hJ : 4096 ≤ J) (wf : Wf w M) : Wf w (kj M tg J) := by
 have key : ∀ b t, kj M tg J b = some t → (M b = some tg ∧ t = J) ∨ M b = some t := fun b t h => by
  unfold kj at h
  split at h
  ·rename_i hm; injection h with h; exact .inl ⟨hm, h.symm⟩
  exact .inr h
 refine ⟨fun b t h => (key b t h).elim (fun h => wf.lt b _ h.1) (fun h => wf.lt b _ h), fun b b' t ht1 h h' => ?_⟩
 rcases key _ _ h with ⟨_, e⟩ | a
 ·omega
 rcases key _ _ h' with ⟨_, e⟩ | a'
 ·omega
 exact wf.inj b b' t ht1 a a'
theorem j5 {α : Type} {E : LL α} {x : Operand} {Te tg J : Nat} {xs : List α} {ti : TI} {el : Nat} (hx : A.op fr x = .Kf E Te tg J xs) (hT : T.eE[ty']? = some ti) (hk : ti.k = .slice el)
 (h : av P fr ops rest (A.set d (.int .i64 (xs.length : Nat))) fun A' l => K A' ((A, { d := some d, ty := .int .i64 (xs.length : Nat), rs := bw x }) :: l)) :
 av P fr ops (⟨some d, .call ⟨.builtin .len, #[x], #[ty']⟩, t, p, e, none⟩ :: rest) A K :=
 bE (bL rfl rfl fun a w M _ hr _ => by
  have := cE (x := x) (fun _ h => h) hr
  rw [hx] at this
  obtain ⟨cs, h1, _⟩ := this
  obtain ⟨_, D, _, hD, hkd, _⟩ := ct hT
  rw [hk] at hkd
  cases D <;> simp only [TK.of, reduceCtorEq, TK.slice.injEq] at hkd
  refine ⟨.int .i64 xs.length, ?_, rfl⟩
  rcases h1.2 with ⟨ex, hn⟩ | ⟨g, cap, cur, ex, _⟩
  ·simp [execOp, ex, resolve, invoke, builtin, Builtin.len_, run_underlying hD, hn, goInt]
  simp [execOp, ex, resolve, invoke, builtin, Builtin.len_, run_underlying hD, goInt]) h
end
end Go.T
namespace Go.Proofs.YtelbollidfdcjaaGreat
open Go Go.T
set_option maxHeartbeats 2000000
attribute [local irreducible] g6 fS m8 qg iZ iT ij ia ig qM iS qR dY gb qd gV qV nth fU dR av dK bodyPost Exit.then Exit.inBlock Code.wp Code.wpIn fR qb qX qT iw qW qc iY fC cT cU bodyPostM dr
set_option maxRecDepth 100000 in
theorem oH (l : List Int) (t : Ty) (h1 : t.one = true) (q : Int → Bool) (hd : t.deps = []) (hc : t.cdeps = []) (hf : ∀ x ∈ l, nT Tryz.prog t [Ty.int .i64 x] (Ty.bool (q x))) : dK Tryz.prog 141 [Ty.sl dD l, t] (Ty.int .i64 (fidx q l)) := by
 refine aa Tryz.func141 rfl (by decide) Tryz.ntmps141 (by exact Nat.le_of_ble_eq_true rfl) fun w0 M0 => ?_
 refine gH (s := 0) rfl rfl gD fun hl => ?_
 refine aE (aA (bk rfl (aD (aB (aE (aE (aA (ej rfl (b9 rfl rfl rfl ?_)))))))))
 refine bI rfl (aD (aB (af ?_)))
 refine cK (fun (k : {k : Nat // ∀ x ∈ l.take k, q x = false}) => live [(0, Ty.sl dD l), (1, t), (7, Ty.int .i64 l.length), (8, Ty.int .i64 (k.1 : Nat))] []) (fun k => l.length - k.1) (⟨0, by simp⟩) ?_ fun k => ?_
 ·(refine cv.mk' ?_ ?_ <;> (repeat' (first | exact aM | exact aL | refine aC ?_ (Ty.aV _) | refine aC ?_ (Ty.aF _))))
 refine aE (aA (bC rfl rfl rfl (aD (aB (aE ?_)))))
 refine az rfl (fun hc1 => ?_) (fun hc1 => ?_)
 ·
  refine aq (aB (aE (af (aE (aA (bI rfl (bk rfl (aD (aB ?_)))))))))
  refine aE (aA ?_)
  refine eA (ty := t) rfl ?_
  refine ej rfl (bI rfl ?_)
  refine ak rfl rfl rfl rfl rfl rfl (by omega) ?_
  refine aG rfl rfl rfl rfl ?_
  refine eI rfl (hf _ (cR (by omega))) rfl ?_
  refine aD (aB ?_)
  refine bt rfl (fun hc2 => ?_) (fun hc2 => ?_)
  ·
   refine aE (aA (bI rfl (bk rfl (aD (aB (ay (au (aQ (aQ ?_)))))))))
   refine au (aQ (bJ rfl rfl ?_))
   all_goals skip
   exact ah rfl rfl (congrArg (Ty.int .i64) (gk (by omega) k.2 (by rw [← iD]; exact hc2)).symm)
  refine aq (bM (aB (aA ?_)))
  refine b8 rfl rfl (by omega) (by omega) ?_
  refine bI rfl (aD ?_)
  refine bO (⟨k.1 + 1, by rw [cS (by omega)]; intro x hx; rcases List.mem_append.1 hx with h | h; exact k.2 x h; rw [List.mem_singleton.1 h]; exact hc2⟩) ?_ (by show l.length - (k.1 + 1) < l.length - k.1; omega)
  (refine cv.mk' ?_ ?_ <;> (repeat' (first | exact aM | exact aL | refine aC ?_ (Ty.aV _) | refine aC ?_ (Ty.aF _))))
  all_goals skip
 refine cI (aP (aP (aj rfl (aB (aE (aA (bk rfl (aD (aB ?_)))))))))
 refine ay (bJ rfl rfl ?_)
 all_goals skip
 exact ah rfl rfl (congrArg (Ty.int .i64) (iP (by have := k.2; rwa [List.take_of_length_le (by omega)] at this)).symm)
set_option maxRecDepth 100000 in
theorem qu (l : List Int) (t : Ty) (h1 : t.one = true) (q : Int → Bool) (hd : t.deps = []) (hc : t.cdeps = []) (hf : ∀ x ∈ l, nT Tryz.prog t [Ty.int .i64 x] (Ty.bool (q x))) : dK Tryz.prog 67 [Ty.sl dD l, t] (Ty.bool (l.any q)) := by
 refine aa Tryz.func67 rfl (by decide) Tryz.ntmps67 (by exact Nat.le_of_ble_eq_true rfl) fun w0 M0 => ?_
 refine aE (aA (cj rfl (aD (aB (aE (aA (ej rfl ?_)))))))
 refine eA (ty := t) rfl ?_
 refine aZ (oH l t h1 q hd hc hf) rfl (by exact bK rfl (bK hd rfl)) (by exact bF rfl (bF hc rfl)) rfl rfl ?_
 refine bC rfl rfl rfl (cj rfl (aD (aB (ay (bJ rfl rfl ?_)))))
 all_goals skip
 exact ah rfl rfl (congrArg Ty.bool (nP q l))
set_option maxRecDepth 100000 in
theorem ze (x : Int) (t : Ty) (h1 : t.one = true) (b : Bool) (hd : t.deps = []) (hc : t.cdeps = []) (hf : nT Tryz.prog t [Ty.int .i64 x] (Ty.bool b)) : dK Tryz.prog 170 [Ty.int .i64 x, Ty.pp [t]] (Ty.bool (!b)) := by
 refine aa Tryz.func170 rfl (by decide) Tryz.ntmps170 (by exact Nat.le_of_ble_eq_true rfl) fun w0 M0 => ?_
 refine aE (aA (cj rfl (aD (aB (aE (aA (aG rfl rfl rfl rfl (bI rfl (eI rfl hf rfl ?_)))))))))
 refine dX rfl (cj rfl (aD (aB (ay (bJ rfl rfl ?_)))))
 all_goals exact bY rfl rfl
set_option maxRecDepth 100000 in
theorem o9 (l : List Int) (t : Ty) (h1 : t.one = true) (q : Int → Bool) (hd : t.deps = []) (hc : t.cdeps = []) (hf : ∀ x ∈ l, nT Tryz.prog t [Ty.int .i64 x] (Ty.bool (q x))) : dK Tryz.prog 109 [Ty.sl dD l, t] (Ty.bool (l.all q)) := by
 refine aa Tryz.func109 rfl (by decide) Tryz.ntmps109 (by exact Nat.le_of_ble_eq_true rfl) fun w0 M0 => ?_
 refine aE (aA ?_)
 refine gA (ty := t) rfl h1 ?_
 refine cj rfl (aD (aB (aE (aA (ej rfl (cw rfl ?_))))))
 refine aZ (qu l (Ty.jD _ [Ty.pp [t]]) rfl (fun x => !q x) (by exact bK (bK hd rfl) rfl) (by exact bF (bF hc rfl) rfl) fun x hx => c9 (ze x t h1 (q x) hd hc (hf x hx)) rfl rfl (by exact bK (bK hd rfl) rfl) (by exact bF (bF hc rfl) rfl) rfl rfl) rfl (by exact bK rfl (bK (bK (bK hd rfl) rfl) rfl)) (by exact bF rfl (bF (bF (bF hc rfl) rfl) rfl)) rfl rfl ?_
 refine dX rfl (cj rfl (aD (aB (ay (bJ rfl rfl ?_)))))
 all_goals skip
 exact ah rfl rfl (congrArg Ty.bool (pP q l))
set_option maxRecDepth 100000 in
theorem uc (l : List sU) (t : Ty) (h1 : t.one = true) (q : sU → Bool) (hd : t.deps = []) (hc : t.cdeps = []) (hf : ∀ x ∈ l, nT Tryz.prog t [Ty.agg (fJ.tys x)] (Ty.bool (q x))) : dK Tryz.prog 200 [Ty.sl fJ l, t] (Ty.int .i64 (fidx q l)) := by
 refine aa Tryz.func200 rfl (by decide) Tryz.ntmps200 (by exact Nat.le_of_ble_eq_true rfl) fun w0 M0 => ?_
 refine gH (s := 0) rfl rfl gD fun hl => ?_
 refine aE (aA (bk rfl (aD (aB (aE (aE (aA (ej rfl (b9 rfl rfl rfl ?_)))))))))
 refine bI rfl (aD (aB (af ?_)))
 refine cK (fun (k : {k : Nat // ∀ x ∈ l.take k, q x = false}) => live [(0, Ty.sl fJ l), (1, t), (7, Ty.int .i64 l.length), (8, Ty.int .i64 (k.1 : Nat))] []) (fun k => l.length - k.1) (⟨0, by simp⟩) ?_ fun k => ?_
 ·(refine cv.mk' ?_ ?_ <;> (repeat' (first | exact aM | exact aL | refine aC ?_ (Ty.aV _) | refine aC ?_ (Ty.aF _))))
 refine aE (aA (bC rfl rfl rfl (aD (aB (aE ?_)))))
 refine az rfl (fun hc1 => ?_) (fun hc1 => ?_)
 ·
  refine aq (aB (aE (af (aE (aA (bI rfl (bk rfl (aD (aB ?_)))))))))
  refine aE (aA ?_)
  refine eA (ty := t) rfl ?_
  refine ej rfl (bI rfl ?_)
  refine ak rfl rfl rfl rfl rfl rfl (by omega) ?_
  refine aU rfl rfl rfl (by exact Nat.le_of_ble_eq_true rfl) ?_
  refine eI rfl (hf _ (cR (by omega))) rfl ?_
  refine aD (aB ?_)
  refine bt rfl (fun hc2 => ?_) (fun hc2 => ?_)
  ·
   refine aE (aA (bI rfl (bk rfl (aD (aB (ay (au (aQ (aQ ?_)))))))))
   refine au (aQ (bJ rfl rfl ?_))
   all_goals skip
   exact ah rfl rfl (congrArg (Ty.int .i64) (gk (by omega) k.2 (by rw [← iD]; exact hc2)).symm)
  refine aq (bM (aB (aA ?_)))
  refine b8 rfl rfl (by omega) (by omega) ?_
  refine bI rfl (aD ?_)
  refine bO (⟨k.1 + 1, by rw [cS (by omega)]; intro x hx; rcases List.mem_append.1 hx with h | h; exact k.2 x h; rw [List.mem_singleton.1 h]; exact hc2⟩) ?_ (by show l.length - (k.1 + 1) < l.length - k.1; omega)
  (refine cv.mk' ?_ ?_ <;> (repeat' (first | exact aM | exact aL | refine aC ?_ (Ty.aV _) | refine aC ?_ (Ty.aF _))))
  all_goals skip
 refine cI (aP (aP (aj rfl (aB (aE (aA (bk rfl (aD (aB ?_)))))))))
 refine ay (bJ rfl rfl ?_)
 all_goals skip
 exact ah rfl rfl (congrArg (Ty.int .i64) (iP (by have := k.2; rwa [List.take_of_length_le (by omega)] at this)).symm)
set_option maxRecDepth 100000 in
theorem q3 (l : List sU) (t : Ty) (h1 : t.one = true) (q : sU → Bool) (hd : t.deps = []) (hc : t.cdeps = []) (hf : ∀ x ∈ l, nT Tryz.prog t [Ty.agg (fJ.tys x)] (Ty.bool (q x))) : dK Tryz.prog 189 [Ty.sl fJ l, t] (Ty.bool (l.any q)) := by
 refine aa Tryz.func189 rfl (by decide) Tryz.ntmps189 (by exact Nat.le_of_ble_eq_true rfl) fun w0 M0 => ?_
 refine aE (aA (cj rfl (aD (aB (aE (aA (ej rfl ?_)))))))
 refine eA (ty := t) rfl ?_
 refine aZ (uc l t h1 q hd hc hf) rfl (by exact bK rfl (bK hd rfl)) (by exact bF rfl (bF hc rfl)) rfl rfl ?_
 refine bC rfl rfl rfl (cj rfl (aD (aB (ay (bJ rfl rfl ?_)))))
 all_goals skip
 exact ah rfl rfl (congrArg Ty.bool (nP q l))
set_option maxRecDepth 100000 in
theorem zV (x : sU) (t : Ty) (h1 : t.one = true) (b : Bool) (hd : t.deps = []) (hc : t.cdeps = []) (hf : nT Tryz.prog t [Ty.agg (fJ.tys x)] (Ty.bool b)) : dK Tryz.prog 190 [Ty.agg (fJ.tys x), Ty.pp [t]] (Ty.bool (!b)) := by
 refine aa Tryz.func190 rfl (by decide) Tryz.ntmps190 (by exact Nat.le_of_ble_eq_true rfl) fun w0 M0 => ?_
 refine aE (aA (bD rfl (cj rfl (aD (aB (aE (aA (aG rfl rfl rfl rfl ?_))))))))
 refine aU rfl rfl rfl (by exact Nat.le_of_ble_eq_true rfl) ?_
 refine eI rfl hf rfl (dX rfl (cj rfl (aD (aB (ay (bJ rfl rfl ?_))))))
 all_goals exact bY rfl rfl
set_option maxRecDepth 100000 in
theorem uB (l : List sU) (t : Ty) (h1 : t.one = true) (q : sU → Bool) (hd : t.deps = []) (hc : t.cdeps = []) (hf : ∀ x ∈ l, nT Tryz.prog t [Ty.agg (fJ.tys x)] (Ty.bool (q x))) : dK Tryz.prog 143 [Ty.sl fJ l, t] (Ty.bool (l.all q)) := by
 refine aa Tryz.func143 rfl (by decide) Tryz.ntmps143 (by exact Nat.le_of_ble_eq_true rfl) fun w0 M0 => ?_
 refine aE (aA ?_)
 refine gA (ty := t) rfl h1 ?_
 refine cj rfl (aD (aB (aE (aA (ej rfl (cw rfl ?_))))))
 refine aZ (q3 l (Ty.jD _ [Ty.pp [t]]) rfl (fun x => !q x) (by exact bK (bK hd rfl) rfl) (by exact bF (bF hc rfl) rfl) fun x hx => c9 (zV x t h1 (q x) hd hc (hf x hx)) rfl rfl (by exact bK (bK hd rfl) rfl) (by exact bF (bF hc rfl) rfl) rfl rfl) rfl (by exact bK rfl (bK (bK (bK hd rfl) rfl) rfl)) (by exact bF rfl (bF (bF (bF hc rfl) rfl) rfl)) rfl rfl ?_
 refine dX rfl (cj rfl (aD (aB (ay (bJ rfl rfl ?_)))))
 all_goals skip
 exact ah rfl rfl (congrArg Ty.bool (pP q l))
set_option maxRecDepth 100000 in
theorem uk (l : List Move) (t : Ty) (h1 : t.one = true) (q : Move → Bool) (hd : t.deps = []) (hc : t.cdeps = []) (hf : ∀ x ∈ l, nT Tryz.prog t [Ty.agg (eF.tys x)] (Ty.bool (q x))) : dK Tryz.prog 92 [Ty.sl eF l, t] (Ty.int .i64 (fidx q l)) := by
 refine aa Tryz.func92 rfl (by decide) Tryz.ntmps92 (by exact Nat.le_of_ble_eq_true rfl) fun w0 M0 => ?_
 refine gH (s := 0) rfl rfl gD fun hl => ?_
 refine aE (aA (bk rfl (aD (aB (aE (aE (aA (ej rfl (b9 rfl rfl rfl ?_)))))))))
 refine bI rfl (aD (aB (af ?_)))
 refine cK (fun (k : {k : Nat // ∀ x ∈ l.take k, q x = false}) => live [(0, Ty.sl eF l), (1, t), (7, Ty.int .i64 l.length), (8, Ty.int .i64 (k.1 : Nat))] []) (fun k => l.length - k.1) (⟨0, by simp⟩) ?_ fun k => ?_
 ·(refine cv.mk' ?_ ?_ <;> (repeat' (first | exact aM | exact aL | refine aC ?_ (Ty.aV _) | refine aC ?_ (Ty.aF _))))
 refine aE (aA (bC rfl rfl rfl (aD (aB (aE ?_)))))
 refine az rfl (fun hc1 => ?_) (fun hc1 => ?_)
 ·
  refine aq (aB (aE (af (aE (aA (bI rfl (bk rfl (aD (aB ?_)))))))))
  refine aE (aA ?_)
  refine eA (ty := t) rfl ?_
  refine ej rfl (bI rfl ?_)
  refine ak rfl rfl rfl rfl rfl rfl (by omega) ?_
  refine aU rfl rfl rfl (by exact Nat.le_of_ble_eq_true rfl) ?_
  refine eI rfl (hf _ (cR (by omega))) rfl ?_
  refine aD (aB ?_)
  refine bt rfl (fun hc2 => ?_) (fun hc2 => ?_)
  ·
   refine aE (aA (bI rfl (bk rfl (aD (aB (ay (au (aQ (aQ ?_)))))))))
   refine au (aQ (bJ rfl rfl ?_))
   all_goals skip
   exact ah rfl rfl (congrArg (Ty.int .i64) (gk (by omega) k.2 (by rw [← iD]; exact hc2)).symm)
  refine aq (bM (aB (aA ?_)))
  refine b8 rfl rfl (by omega) (by omega) ?_
  refine bI rfl (aD ?_)
  refine bO (⟨k.1 + 1, by rw [cS (by omega)]; intro x hx; rcases List.mem_append.1 hx with h | h; exact k.2 x h; rw [List.mem_singleton.1 h]; exact hc2⟩) ?_ (by show l.length - (k.1 + 1) < l.length - k.1; omega)
  (refine cv.mk' ?_ ?_ <;> (repeat' (first | exact aM | exact aL | refine aC ?_ (Ty.aV _) | refine aC ?_ (Ty.aF _))))
  all_goals skip
 refine cI (aP (aP (aj rfl (aB (aE (aA (bk rfl (aD (aB ?_)))))))))
 refine ay (bJ rfl rfl ?_)
 all_goals skip
 exact ah rfl rfl (congrArg (Ty.int .i64) (iP (by have := k.2; rwa [List.take_of_length_le (by omega)] at this)).symm)
set_option maxRecDepth 100000 in
theorem rE (l : List Move) (t : Ty) (h1 : t.one = true) (q : Move → Bool) (hd : t.deps = []) (hc : t.cdeps = []) (hf : ∀ x ∈ l, nT Tryz.prog t [Ty.agg (eF.tys x)] (Ty.bool (q x))) : dK Tryz.prog 23 [Ty.sl eF l, t] (Ty.bool (l.any q)) := by
 refine aa Tryz.func23 rfl (by decide) Tryz.ntmps23 (by exact Nat.le_of_ble_eq_true rfl) fun w0 M0 => ?_
 refine aE (aA (cj rfl (aD (aB (aE (aA (ej rfl ?_)))))))
 refine eA (ty := t) rfl ?_
 refine aZ (uk l t h1 q hd hc hf) rfl (by exact bK rfl (bK hd rfl)) (by exact bF rfl (bF hc rfl)) rfl rfl ?_
 refine bC rfl rfl rfl (cj rfl (aD (aB (ay (bJ rfl rfl ?_)))))
 all_goals skip
 exact ah rfl rfl (congrArg Ty.bool (nP q l))
set_option maxRecDepth 100000 in
theorem zb (x : Move) (t : Ty) (h1 : t.one = true) (b : Bool) (hd : t.deps = []) (hc : t.cdeps = []) (hf : nT Tryz.prog t [Ty.agg (eF.tys x)] (Ty.bool b)) : dK Tryz.prog 191 [Ty.agg (eF.tys x), Ty.pp [t]] (Ty.bool (!b)) := by
 refine aa Tryz.func191 rfl (by decide) Tryz.ntmps191 (by exact Nat.le_of_ble_eq_true rfl) fun w0 M0 => ?_
 refine aE (aA (bD rfl (cj rfl (aD (aB (aE (aA (aG rfl rfl rfl rfl ?_))))))))
 refine aU rfl rfl rfl (by exact Nat.le_of_ble_eq_true rfl) ?_
 refine eI rfl hf rfl (dX rfl (cj rfl (aD (aB (ay (bJ rfl rfl ?_))))))
 all_goals exact bY rfl rfl
set_option maxRecDepth 100000 in
theorem mH (l : List Move) (t : Ty) (h1 : t.one = true) (q : Move → Bool) (hd : t.deps = []) (hc : t.cdeps = []) (hf : ∀ x ∈ l, nT Tryz.prog t [Ty.agg (eF.tys x)] (Ty.bool (q x))) : dK Tryz.prog 146 [Ty.sl eF l, t] (Ty.bool (l.all q)) := by
 refine aa Tryz.func146 rfl (by decide) Tryz.ntmps146 (by exact Nat.le_of_ble_eq_true rfl) fun w0 M0 => ?_
 refine aE (aA ?_)
 refine gA (ty := t) rfl h1 ?_
 refine cj rfl (aD (aB (aE (aA (ej rfl (cw rfl ?_))))))
 refine aZ (rE l (Ty.jD _ [Ty.pp [t]]) rfl (fun x => !q x) (by exact bK (bK hd rfl) rfl) (by exact bF (bF hc rfl) rfl) fun x hx => c9 (zb x t h1 (q x) hd hc (hf x hx)) rfl rfl (by exact bK (bK hd rfl) rfl) (by exact bF (bF hc rfl) rfl) rfl rfl) rfl (by exact bK rfl (bK (bK (bK hd rfl) rfl) rfl)) (by exact bF rfl (bF (bF (bF hc rfl) rfl) rfl)) rfl rfl ?_
 refine dX rfl (cj rfl (aD (aB (ay (bJ rfl rfl ?_)))))
 all_goals skip
 exact ah rfl rfl (congrArg Ty.bool (pP q l))
set_option maxRecDepth 100000 in
theorem ud (l : List Level) (t : Ty) (h1 : t.one = true) (q : Level → Bool) (hd : t.deps = []) (hc : t.cdeps = []) (hf : ∀ x ∈ l, nT Tryz.prog t [Ty.agg (dU.tys x)] (Ty.bool (q x))) : dK Tryz.prog 163 [Ty.sl dU l, t] (Ty.int .i64 (fidx q l)) := by
 refine aa Tryz.func163 rfl (by decide) Tryz.ntmps163 (by exact Nat.le_of_ble_eq_true rfl) fun w0 M0 => ?_
 refine gH (s := 0) rfl rfl gD fun hl => ?_
 refine aE (aA (bk rfl (aD (aB (aE (aE (aA (ej rfl (b9 rfl rfl rfl ?_)))))))))
 refine bI rfl (aD (aB (af ?_)))
 refine cK (fun (k : {k : Nat // ∀ x ∈ l.take k, q x = false}) => live [(0, Ty.sl dU l), (1, t), (7, Ty.int .i64 l.length), (8, Ty.int .i64 (k.1 : Nat))] []) (fun k => l.length - k.1) (⟨0, by simp⟩) ?_ fun k => ?_
 ·(refine cv.mk' ?_ ?_ <;> (repeat' (first | exact aM | exact aL | refine aC ?_ (Ty.aV _) | refine aC ?_ (Ty.aF _))))
 refine aE (aA (bC rfl rfl rfl (aD (aB (aE ?_)))))
 refine az rfl (fun hc1 => ?_) (fun hc1 => ?_)
 ·
  refine aq (aB (aE (af (aE (aA (bI rfl (bk rfl (aD (aB ?_)))))))))
  refine aE (aA ?_)
  refine eA (ty := t) rfl ?_
  refine ej rfl (bI rfl ?_)
  refine ak rfl rfl rfl rfl rfl rfl (by omega) ?_
  refine aU rfl rfl rfl (by exact Nat.le_of_ble_eq_true rfl) ?_
  refine eI rfl (hf _ (cR (by omega))) rfl ?_
  refine aD (aB ?_)
  refine bt rfl (fun hc2 => ?_) (fun hc2 => ?_)
  ·
   refine aE (aA (bI rfl (bk rfl (aD (aB (ay (au (aQ (aQ ?_)))))))))
   refine au (aQ (bJ rfl rfl ?_))
   all_goals skip
   exact ah rfl rfl (congrArg (Ty.int .i64) (gk (by omega) k.2 (by rw [← iD]; exact hc2)).symm)
  refine aq (bM (aB (aA ?_)))
  refine b8 rfl rfl (by omega) (by omega) ?_
  refine bI rfl (aD ?_)
  refine bO (⟨k.1 + 1, by rw [cS (by omega)]; intro x hx; rcases List.mem_append.1 hx with h | h; exact k.2 x h; rw [List.mem_singleton.1 h]; exact hc2⟩) ?_ (by show l.length - (k.1 + 1) < l.length - k.1; omega)
  (refine cv.mk' ?_ ?_ <;> (repeat' (first | exact aM | exact aL | refine aC ?_ (Ty.aV _) | refine aC ?_ (Ty.aF _))))
  all_goals skip
 refine cI (aP (aP (aj rfl (aB (aE (aA (bk rfl (aD (aB ?_)))))))))
 refine ay (bJ rfl rfl ?_)
 all_goals skip
 exact ah rfl rfl (congrArg (Ty.int .i64) (iP (by have := k.2; rwa [List.take_of_length_le (by omega)] at this)).symm)
set_option maxRecDepth 100000 in
theorem rB (l : List Level) (t : Ty) (h1 : t.one = true) (q : Level → Bool) (hd : t.deps = []) (hc : t.cdeps = []) (hf : ∀ x ∈ l, nT Tryz.prog t [Ty.agg (dU.tys x)] (Ty.bool (q x))) : dK Tryz.prog 84 [Ty.sl dU l, t] (Ty.bool (l.any q)) := by
 refine aa Tryz.func84 rfl (by decide) Tryz.ntmps84 (by exact Nat.le_of_ble_eq_true rfl) fun w0 M0 => ?_
 refine aE (aA (cj rfl (aD (aB (aE (aA (ej rfl ?_)))))))
 refine eA (ty := t) rfl ?_
 refine aZ (ud l t h1 q hd hc hf) rfl (by exact bK rfl (bK hd rfl)) (by exact bF rfl (bF hc rfl)) rfl rfl ?_
 refine bC rfl rfl rfl (cj rfl (aD (aB (ay (bJ rfl rfl ?_)))))
 all_goals skip
 exact ah rfl rfl (congrArg Ty.bool (nP q l))
set_option maxRecDepth 100000 in
theorem zC (x : Level) (t : Ty) (h1 : t.one = true) (b : Bool) (hd : t.deps = []) (hc : t.cdeps = []) (hf : nT Tryz.prog t [Ty.agg (dU.tys x)] (Ty.bool b)) : dK Tryz.prog 192 [Ty.agg (dU.tys x), Ty.pp [t]] (Ty.bool (!b)) := by
 refine aa Tryz.func192 rfl (by decide) Tryz.ntmps192 (by exact Nat.le_of_ble_eq_true rfl) fun w0 M0 => ?_
 refine aE (aA (bD rfl (cj rfl (aD (aB (aE (aA (aG rfl rfl rfl rfl ?_))))))))
 refine aU rfl rfl rfl (by exact Nat.le_of_ble_eq_true rfl) ?_
 refine eI rfl hf rfl (dX rfl (cj rfl (aD (aB (ay (bJ rfl rfl ?_))))))
 all_goals exact bY rfl rfl
set_option maxRecDepth 100000 in
theorem mN (l : List Level) (t : Ty) (h1 : t.one = true) (q : Level → Bool) (hd : t.deps = []) (hc : t.cdeps = []) (hf : ∀ x ∈ l, nT Tryz.prog t [Ty.agg (dU.tys x)] (Ty.bool (q x))) : dK Tryz.prog 148 [Ty.sl dU l, t] (Ty.bool (l.all q)) := by
 refine aa Tryz.func148 rfl (by decide) Tryz.ntmps148 (by exact Nat.le_of_ble_eq_true rfl) fun w0 M0 => ?_
 refine aE (aA ?_)
 refine gA (ty := t) rfl h1 ?_
 refine cj rfl (aD (aB (aE (aA (ej rfl (cw rfl ?_))))))
 refine aZ (rB l (Ty.jD _ [Ty.pp [t]]) rfl (fun x => !q x) (by exact bK (bK hd rfl) rfl) (by exact bF (bF hc rfl) rfl) fun x hx => c9 (zC x t h1 (q x) hd hc (hf x hx)) rfl rfl (by exact bK (bK hd rfl) rfl) (by exact bF (bF hc rfl) rfl) rfl rfl) rfl (by exact bK rfl (bK (bK (bK hd rfl) rfl) rfl)) (by exact bF rfl (bF (bF (bF hc rfl) rfl) rfl)) rfl rfl ?_
 refine dX rfl (cj rfl (aD (aB (ay (bJ rfl rfl ?_)))))
 all_goals skip
 exact ah rfl rfl (congrArg Ty.bool (pP q l))
set_option maxRecDepth 100000 in
theorem uY (l : List BU) (t : Ty) (h1 : t.one = true) (q : BU → Bool) (hd : t.deps = []) (hc : t.cdeps = []) (hf : ∀ x ∈ l, nT Tryz.prog t [Ty.agg (q7.tys x)] (Ty.bool (q x))) : dK Tryz.prog 199 [Ty.sl q7 l, t] (Ty.int .i64 (fidx q l)) := by
 refine aa Tryz.func199 rfl (by decide) Tryz.ntmps199 (by exact Nat.le_of_ble_eq_true rfl) fun w0 M0 => ?_
 refine gH (s := 0) rfl rfl gD fun hl => ?_
 refine aE (aA (bk rfl (aD (aB (aE (aE (aA (ej rfl (b9 rfl rfl rfl ?_)))))))))
 refine bI rfl (aD (aB (af ?_)))
 refine cK (fun (k : {k : Nat // ∀ x ∈ l.take k, q x = false}) => live [(0, Ty.sl q7 l), (1, t), (7, Ty.int .i64 l.length), (8, Ty.int .i64 (k.1 : Nat))] []) (fun k => l.length - k.1) (⟨0, by simp⟩) ?_ fun k => ?_
 ·(refine cv.mk' ?_ ?_ <;> (repeat' (first | exact aM | exact aL | refine aC ?_ (Ty.aV _) | refine aC ?_ (Ty.aF _))))
 refine aE (aA (bC rfl rfl rfl (aD (aB (aE ?_)))))
 refine az rfl (fun hc1 => ?_) (fun hc1 => ?_)
 ·
  refine aq (aB (aE (af (aE (aA (bI rfl (bk rfl (aD (aB ?_)))))))))
  refine aE (aA ?_)
  refine eA (ty := t) rfl ?_
  refine ej rfl (bI rfl ?_)
  refine ak rfl rfl rfl rfl rfl rfl (by omega) ?_
  refine aU rfl rfl rfl (by exact Nat.le_of_ble_eq_true rfl) ?_
  refine eI rfl (hf _ (cR (by omega))) rfl ?_
  refine aD (aB ?_)
  refine bt rfl (fun hc2 => ?_) (fun hc2 => ?_)
  ·
   refine aE (aA (bI rfl (bk rfl (aD (aB (ay (au (aQ (aQ ?_)))))))))
   refine au (aQ (bJ rfl rfl ?_))
   all_goals skip
   exact ah rfl rfl (congrArg (Ty.int .i64) (gk (by omega) k.2 (by rw [← iD]; exact hc2)).symm)
  refine aq (bM (aB (aA ?_)))
  refine b8 rfl rfl (by omega) (by omega) ?_
  refine bI rfl (aD ?_)
  refine bO (⟨k.1 + 1, by rw [cS (by omega)]; intro x hx; rcases List.mem_append.1 hx with h | h; exact k.2 x h; rw [List.mem_singleton.1 h]; exact hc2⟩) ?_ (by show l.length - (k.1 + 1) < l.length - k.1; omega)
  (refine cv.mk' ?_ ?_ <;> (repeat' (first | exact aM | exact aL | refine aC ?_ (Ty.aV _) | refine aC ?_ (Ty.aF _))))
  all_goals skip
 refine cI (aP (aP (aj rfl (aB (aE (aA (bk rfl (aD (aB ?_)))))))))
 refine ay (bJ rfl rfl ?_)
 all_goals skip
 exact ah rfl rfl (congrArg (Ty.int .i64) (iP (by have := k.2; rwa [List.take_of_length_le (by omega)] at this)).symm)
set_option maxRecDepth 100000 in
theorem lW (l : List BU) (t : Ty) (h1 : t.one = true) (q : BU → Bool) (hd : t.deps = []) (hc : t.cdeps = []) (hf : ∀ x ∈ l, nT Tryz.prog t [Ty.agg (q7.tys x)] (Ty.bool (q x))) : dK Tryz.prog 185 [Ty.sl q7 l, t] (Ty.bool (l.any q)) := by
 refine aa Tryz.func185 rfl (by decide) Tryz.ntmps185 (by exact Nat.le_of_ble_eq_true rfl) fun w0 M0 => ?_
 refine aE (aA (cj rfl (aD (aB (aE (aA (ej rfl ?_)))))))
 refine eA (ty := t) rfl ?_
 refine aZ (uY l t h1 q hd hc hf) rfl (by exact bK rfl (bK hd rfl)) (by exact bF rfl (bF hc rfl)) rfl rfl ?_
 refine bC rfl rfl rfl (cj rfl (aD (aB (ay (bJ rfl rfl ?_)))))
 all_goals skip
 exact ah rfl rfl (congrArg Ty.bool (nP q l))
set_option maxRecDepth 100000 in
theorem z5 (x : BU) (t : Ty) (h1 : t.one = true) (b : Bool) (hd : t.deps = []) (hc : t.cdeps = []) (hf : nT Tryz.prog t [Ty.agg (q7.tys x)] (Ty.bool b)) : dK Tryz.prog 186 [Ty.agg (q7.tys x), Ty.pp [t]] (Ty.bool (!b)) := by
 refine aa Tryz.func186 rfl (by decide) Tryz.ntmps186 (by exact Nat.le_of_ble_eq_true rfl) fun w0 M0 => ?_
 refine aE (aA (bD rfl (cj rfl (aD (aB (aE (aA (aG rfl rfl rfl rfl ?_))))))))
 refine aU rfl rfl rfl (by exact Nat.le_of_ble_eq_true rfl) ?_
 refine eI rfl hf rfl (dX rfl (cj rfl (aD (aB (ay (bJ rfl rfl ?_))))))
 all_goals exact bY rfl rfl
set_option maxRecDepth 100000 in
theorem Bf (l : List BU) (t : Ty) (h1 : t.one = true) (q : BU → Bool) (hd : t.deps = []) (hc : t.cdeps = []) (hf : ∀ x ∈ l, nT Tryz.prog t [Ty.agg (q7.tys x)] (Ty.bool (q x))) : dK Tryz.prog 133 [Ty.sl q7 l, t] (Ty.bool (l.all q)) := by
 refine aa Tryz.func133 rfl (by decide) Tryz.ntmps133 (by exact Nat.le_of_ble_eq_true rfl) fun w0 M0 => ?_
 refine aE (aA ?_)
 refine gA (ty := t) rfl h1 ?_
 refine cj rfl (aD (aB (aE (aA (ej rfl (cw rfl ?_))))))
 refine aZ (lW l (Ty.jD _ [Ty.pp [t]]) rfl (fun x => !q x) (by exact bK (bK hd rfl) rfl) (by exact bF (bF hc rfl) rfl) fun x hx => c9 (z5 x t h1 (q x) hd hc (hf x hx)) rfl rfl (by exact bK (bK hd rfl) rfl) (by exact bF (bF hc rfl) rfl) rfl rfl) rfl (by exact bK rfl (bK (bK (bK hd rfl) rfl) rfl)) (by exact bF rfl (bF (bF (bF hc rfl) rfl) rfl)) rfl rfl ?_
 refine dX rfl (cj rfl (aD (aB (ay (bJ rfl rfl ?_)))))
 all_goals skip
 exact ah rfl rfl (congrArg Ty.bool (pP q l))
set_option maxRecDepth 100000 in
theorem ug (l : List bp) (t : Ty) (h1 : t.one = true) (q : bp → Bool) (hd : t.deps = []) (hc : t.cdeps = []) (hf : ∀ x ∈ l, nT Tryz.prog t [Ty.agg (dW.tys x)] (Ty.bool (q x))) : dK Tryz.prog 203 [Ty.sl dW l, t] (Ty.int .i64 (fidx q l)) := by
 refine aa Tryz.func203 rfl (by decide) Tryz.ntmps203 (by exact Nat.le_of_ble_eq_true rfl) fun w0 M0 => ?_
 refine gH (s := 0) rfl rfl gD fun hl => ?_
 refine aE (aA (bk rfl (aD (aB (aE (aE (aA (ej rfl (b9 rfl rfl rfl ?_)))))))))
 refine bI rfl (aD (aB (af ?_)))
 refine cK (fun (k : {k : Nat // ∀ x ∈ l.take k, q x = false}) => live [(0, Ty.sl dW l), (1, t), (7, Ty.int .i64 l.length), (8, Ty.int .i64 (k.1 : Nat))] []) (fun k => l.length - k.1) (⟨0, by simp⟩) ?_ fun k => ?_
 ·(refine cv.mk' ?_ ?_ <;> (repeat' (first | exact aM | exact aL | refine aC ?_ (Ty.aV _) | refine aC ?_ (Ty.aF _))))
 refine aE (aA (bC rfl rfl rfl (aD (aB (aE ?_)))))
 refine az rfl (fun hc1 => ?_) (fun hc1 => ?_)
 ·
  refine aq (aB (aE (af (aE (aA (bI rfl (bk rfl (aD (aB ?_)))))))))
  refine aE (aA ?_)
  refine eA (ty := t) rfl ?_
  refine ej rfl (bI rfl ?_)
  refine ak rfl rfl rfl rfl rfl rfl (by omega) ?_
  refine aU rfl rfl rfl (by exact Nat.le_of_ble_eq_true rfl) ?_
  refine eI rfl (hf _ (cR (by omega))) rfl ?_
  refine aD (aB ?_)
  refine bt rfl (fun hc2 => ?_) (fun hc2 => ?_)
  ·
   refine aE (aA (bI rfl (bk rfl (aD (aB (ay (au (aQ (aQ ?_)))))))))
   refine au (aQ (bJ rfl rfl ?_))
   all_goals skip
   exact ah rfl rfl (congrArg (Ty.int .i64) (gk (by omega) k.2 (by rw [← iD]; exact hc2)).symm)
  refine aq (bM (aB (aA ?_)))
  refine b8 rfl rfl (by omega) (by omega) ?_
  refine bI rfl (aD ?_)
  refine bO (⟨k.1 + 1, by rw [cS (by omega)]; intro x hx; rcases List.mem_append.1 hx with h | h; exact k.2 x h; rw [List.mem_singleton.1 h]; exact hc2⟩) ?_ (by show l.length - (k.1 + 1) < l.length - k.1; omega)
  (refine cv.mk' ?_ ?_ <;> (repeat' (first | exact aM | exact aL | refine aC ?_ (Ty.aV _) | refine aC ?_ (Ty.aF _))))
  all_goals skip
 refine cI (aP (aP (aj rfl (aB (aE (aA (bk rfl (aD (aB ?_)))))))))
 refine ay (bJ rfl rfl ?_)
 all_goals skip
 exact ah rfl rfl (congrArg (Ty.int .i64) (iP (by have := k.2; rwa [List.take_of_length_le (by omega)] at this)).symm)
set_option maxRecDepth 100000 in
theorem q9 (l : List bp) (t : Ty) (h1 : t.one = true) (q : bp → Bool) (hd : t.deps = []) (hc : t.cdeps = []) (hf : ∀ x ∈ l, nT Tryz.prog t [Ty.agg (dW.tys x)] (Ty.bool (q x))) : dK Tryz.prog 197 [Ty.sl dW l, t] (Ty.bool (l.any q)) := by
 refine aa Tryz.func197 rfl (by decide) Tryz.ntmps197 (by exact Nat.le_of_ble_eq_true rfl) fun w0 M0 => ?_
 refine aE (aA (cj rfl (aD (aB (aE (aA (ej rfl ?_)))))))
 refine eA (ty := t) rfl ?_
 refine aZ (ug l t h1 q hd hc hf) rfl (by exact bK rfl (bK hd rfl)) (by exact bF rfl (bF hc rfl)) rfl rfl ?_
 refine bC rfl rfl rfl (cj rfl (aD (aB (ay (bJ rfl rfl ?_)))))
 all_goals skip
 exact ah rfl rfl (congrArg Ty.bool (nP q l))
set_option maxRecDepth 100000 in
theorem zU (x : bp) (t : Ty) (h1 : t.one = true) (b : Bool) (hd : t.deps = []) (hc : t.cdeps = []) (hf : nT Tryz.prog t [Ty.agg (dW.tys x)] (Ty.bool b)) : dK Tryz.prog 198 [Ty.agg (dW.tys x), Ty.pp [t]] (Ty.bool (!b)) := by
 refine aa Tryz.func198 rfl (by decide) Tryz.ntmps198 (by exact Nat.le_of_ble_eq_true rfl) fun w0 M0 => ?_
 refine aE (aA (bD rfl (cj rfl (aD (aB (aE (aA (aG rfl rfl rfl rfl ?_))))))))
 refine aU rfl rfl rfl (by exact Nat.le_of_ble_eq_true rfl) ?_
 refine eI rfl hf rfl (dX rfl (cj rfl (aD (aB (ay (bJ rfl rfl ?_))))))
 all_goals exact bY rfl rfl
set_option maxRecDepth 100000 in
theorem AX (l : List bp) (t : Ty) (h1 : t.one = true) (q : bp → Bool) (hd : t.deps = []) (hc : t.cdeps = []) (hf : ∀ x ∈ l, nT Tryz.prog t [Ty.agg (dW.tys x)] (Ty.bool (q x))) : dK Tryz.prog 176 [Ty.sl dW l, t] (Ty.bool (l.all q)) := by
 refine aa Tryz.func176 rfl (by decide) Tryz.ntmps176 (by exact Nat.le_of_ble_eq_true rfl) fun w0 M0 => ?_
 refine aE (aA ?_)
 refine gA (ty := t) rfl h1 ?_
 refine cj rfl (aD (aB (aE (aA (ej rfl (cw rfl ?_))))))
 refine aZ (q9 l (Ty.jD _ [Ty.pp [t]]) rfl (fun x => !q x) (by exact bK (bK hd rfl) rfl) (by exact bF (bF hc rfl) rfl) fun x hx => c9 (zU x t h1 (q x) hd hc (hf x hx)) rfl rfl (by exact bK (bK hd rfl) rfl) (by exact bF (bF hc rfl) rfl) rfl rfl) rfl (by exact bK rfl (bK (bK (bK hd rfl) rfl) rfl)) (by exact bF rfl (bF (bF (bF hc rfl) rfl) rfl)) rfl rfl ?_
 refine dX rfl (cj rfl (aD (aB (ay (bJ rfl rfl ?_)))))
 all_goals skip
 exact ah rfl rfl (congrArg Ty.bool (pP q l))
set_option maxRecDepth 100000 in
theorem uj (l : List Span) (t : Ty) (h1 : t.one = true) (q : Span → Bool) (hd : t.deps = []) (hc : t.cdeps = []) (hf : ∀ x ∈ l, nT Tryz.prog t [Ty.agg (dS.tys x)] (Ty.bool (q x))) : dK Tryz.prog 38 [Ty.sl dS l, t] (Ty.int .i64 (fidx q l)) := by
 refine aa Tryz.func38 rfl (by decide) Tryz.ntmps38 (by exact Nat.le_of_ble_eq_true rfl) fun w0 M0 => ?_
 refine gH (s := 0) rfl rfl gD fun hl => ?_
 refine aE (aA (bk rfl (aD (aB (aE (aE (aA (ej rfl (b9 rfl rfl rfl ?_)))))))))
 refine bI rfl (aD (aB (af ?_)))
 refine cK (fun (k : {k : Nat // ∀ x ∈ l.take k, q x = false}) => live [(0, Ty.sl dS l), (1, t), (7, Ty.int .i64 l.length), (8, Ty.int .i64 (k.1 : Nat))] []) (fun k => l.length - k.1) (⟨0, by simp⟩) ?_ fun k => ?_
 ·(refine cv.mk' ?_ ?_ <;> (repeat' (first | exact aM | exact aL | refine aC ?_ (Ty.aV _) | refine aC ?_ (Ty.aF _))))
 refine aE (aA (bC rfl rfl rfl (aD (aB (aE ?_)))))
 refine az rfl (fun hc1 => ?_) (fun hc1 => ?_)
 ·
  refine aq (aB (aE (af (aE (aA (bI rfl (bk rfl (aD (aB ?_)))))))))
  refine aE (aA ?_)
  refine eA (ty := t) rfl ?_
  refine ej rfl (bI rfl ?_)
  refine ak rfl rfl rfl rfl rfl rfl (by omega) ?_
  refine aU rfl rfl rfl (by exact Nat.le_of_ble_eq_true rfl) ?_
  refine eI rfl (hf _ (cR (by omega))) rfl ?_
  refine aD (aB ?_)
  refine bt rfl (fun hc2 => ?_) (fun hc2 => ?_)
  ·
   refine aE (aA (bI rfl (bk rfl (aD (aB (ay (au (aQ (aQ ?_)))))))))
   refine au (aQ (bJ rfl rfl ?_))
   all_goals skip
   exact ah rfl rfl (congrArg (Ty.int .i64) (gk (by omega) k.2 (by rw [← iD]; exact hc2)).symm)
  refine aq (bM (aB (aA ?_)))
  refine b8 rfl rfl (by omega) (by omega) ?_
  refine bI rfl (aD ?_)
  refine bO (⟨k.1 + 1, by rw [cS (by omega)]; intro x hx; rcases List.mem_append.1 hx with h | h; exact k.2 x h; rw [List.mem_singleton.1 h]; exact hc2⟩) ?_ (by show l.length - (k.1 + 1) < l.length - k.1; omega)
  (refine cv.mk' ?_ ?_ <;> (repeat' (first | exact aM | exact aL | refine aC ?_ (Ty.aV _) | refine aC ?_ (Ty.aF _))))
  all_goals skip
 refine cI (aP (aP (aj rfl (aB (aE (aA (bk rfl (aD (aB ?_)))))))))
 refine ay (bJ rfl rfl ?_)
 all_goals skip
 exact ah rfl rfl (congrArg (Ty.int .i64) (iP (by have := k.2; rwa [List.take_of_length_le (by omega)] at this)).symm)
end Go.Proofs.YtelbollidfdcjaaGreat
