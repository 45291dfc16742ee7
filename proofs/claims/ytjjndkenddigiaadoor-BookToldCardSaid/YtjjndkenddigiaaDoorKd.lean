/- Lemmas: the program and the reference walked, plain laws. -/
import Derived.Test.YtjjndkenddigiaaDoorKc
namespace Go.T
open Go Go.RowKit
def viewF (Mc : Tags) (g : Option Nat) (own : Nat → Option Nat) : Tags := fun b => match Mc b with | none => none | some u => if u < Zt then some 7000 else if some b = g then some 1000 else match own b with | some t => some t | none => some 5000
structure OwnF (Mc : Tags) (g : Option Nat) (own : Nat → Option Nat) : Prop where
  at' : ∀ b t, own b = some t → Mc b = some (Zt + b) ∧ some b ≠ g ∧ 1001 < t ∧ t < 1010
  inj : ∀ b b' t, own b = some t → own b' = some t → b = b'
section
variable {Mc : Tags} {g : Option Nat} {own : Nat → Option Nat} {b : Nat}
theorem viewF_none (h : viewF Mc g own b = none) : Mc b = none := by
  unfold viewF at h
  split at h
  · assumption
  · split at h
    · cases h
    · split at h
      · cases h
      · split at h <;> cases h
theorem viewF_none' (h : Mc b = none) : viewF Mc g own b = none := by simp [viewF, h]
theorem viewF_g {b : Nat} (h : Mc b = some (Zt + b)) : viewF Mc (some b) own b = some 1000 := by
  have : ¬ Zt + b < Zt := by omega
  simp [viewF, h, this]
theorem viewF_own {t : Nat} (ho : OwnF Mc g own) (h : own b = some t) : viewF Mc g own b = some t := by
  obtain ⟨h1, h2, _⟩ := ho.at' b t h
  have : ¬ Zt + b < Zt := by omega
  simp [viewF, h1, h2, this, h]
theorem viewF_old (h : Mc b = some (Zt + b)) (hg : some b ≠ g) (ho : own b = none) : viewF Mc g own b = some 5000 := by
  have : ¬ Zt + b < Zt := by omega
  simp [viewF, h, hg, this, ho]
theorem viewF_wf {w : World} (wf : Wf w Mc) (ho : OwnF Mc g own) : Wf w (viewF Mc g own) := by
  refine ⟨fun b t h => ?_, fun b b' t ht h h' => ?_, wf.amb.same fun b h => viewF_none' h⟩
  · cases hm : Mc b with
    | none => rw [viewF_none' hm] at h; cases h
    | some u => exact wf.lt b u hm
  · have key : ∀ b, viewF Mc g own b = some (t + 1) → (some b = g ∧ t + 1 = 1000) ∨ own b = some (t + 1) := fun b h => by
      unfold viewF at h
      split at h
      · cases h
      · split at h
        · injection h with h; omega
        · split at h
          · injection h with h; rename_i hg; exact .inl ⟨hg, h.symm⟩
          · split at h
            · rename_i q hq; injection h with h; subst h; exact .inr hq
            · injection h with h; omega
    rcases key b h with ⟨e1, e2⟩ | e1 <;> rcases key b' h' with ⟨e3, e4⟩ | e3
    · rw [← e3] at e1; injection e1
    · have := (ho.at' _ _ e3).2.2.1; omega
    · have := (ho.at' _ _ e1).2.2.1; omega
    · exact ho.inj _ _ _ e1 e3
theorem viewF_ck {w : World} {J : World → Tags → Prop} (wf : Wf w Mc) (z : ZOk Mc) (hj : J w Mc) : dCK J w (viewF Mc g own) := by
  refine ⟨Mc, wf, z, hj, fun b h => viewF_none h, fun b u _ h hu => ?_⟩
  unfold viewF at h
  split at h
  · cases h
  · rename_i v hv
    split at h
    · injection h with h; exact absurd h.symm hu
    · rw [hv]; congr 1; exact z b v hv (by omega)
end
def takeF (own : Nat → Option Nat) (t : Nat) : Prop := t < Zt ∨ ∃ b, t = Zt + b ∧ own b ≠ none
def yPostF (own : Nat → Option Nat) (w : World) (Mc : Tags) (J1 Jx : World → Tags → Prop) (e : Ending) (w' : World) : Prop :=
  ∃ M', Wf w' M' ∧ ZOk M' ∧ Le (takeF own) (takeF own) w Mc w' M' ∧ ((e = .returned (.bool true) ∧ J1 w' M') ∨ (e = .returned (.bool false) ∧ Jx w' M'))
def MoreF (P : Program) (f : FuncId) (T : Nat) (capTys args : List Ty) (J0 J1 Jx : World → Tags → Prop) : Prop :=
  (∃ fn, P.funcs[f]? = some fn ∧ (fn.name == "runtime.NumGoroutine") = false ∧ fn.body.isNone = false) ∧
  ∀ (w : World) (Mc : Tags) (g : Nat) (own : Nat → Option Nat) (vs cs cs' : List Value), Wf w Mc → ZOk Mc → OwnF Mc (some g) own → dens w (viewF Mc (some g) own) args vs → dens w Mc capTys cs → dens w Mc capTys cs' → Mc g = some (Zt + g) →
    w.heap[g]? = some (.cells #[.func (.func f) #[] (cs' ++ [gp g]).toArray] T (0, 0)) → J0 w Mc →
    Calls P f (vs ++ (cs ++ [gp g])).toArray w (yPostF own w Mc J1 Jx)
def FndC (P : Program) (fv : Value) (encs : List (List Ty)) (J : Nat → World → Tags → Prop) (Jx : World → Tags → Prop) : Prop :=
  ∃ fid cs, fv = .func (.func fid) #[] cs ∧ (∃ fn, P.funcs[fid]? = some fn ∧ (fn.name == "runtime.NumGoroutine") = false ∧ fn.body.isNone = false) ∧
  ∀ (k : Nat) (tys : List Ty), encs[k]? = some tys → ∀ w Mc vs, Wf w Mc → ZOk Mc → J k w Mc → dens w Mc tys vs → Calls P fid (vs ++ cs.toList).toArray w (yPost w Mc (J (k + 1)) Jx)
def oldF (Mc : Tags) (g : Nat) (own : Nat → Option Nat) (b : Nat) : Prop := Mc b = some (Zt + b) ∧ b ≠ g ∧ own b = none
section
variable {P : Program}
theorem moreF_intro {f : FuncId} {fn : Func} {c : Code} {T : Nat} {capTys args : List Ty} {J0 J1 Jx : World → Tags → Prop} {n : Nat} (h0 : Cb J0) (hf : P.funcs[f]? = some fn) (hb : fn.body = some c) (hn : (fn.name == "runtime.NumGoroutine") = false) (hnt : fn.ntmps = n) (hl : (args ++ (capTys ++ [Ty.ptr 1000 0])).length ≤ n)
    (h3 : depsOf capTys = []) (h4 : cdepsOf capTys = [])
    (h : ∀ w Mc g own cs', Wf w Mc → ZOk Mc → OwnF Mc (some g) own → Mc g = some (Zt + g) → w.heap[g]? = some (.cells #[.func (.func f) #[] (cs' ++ [gp g]).toArray] T (0, 0)) →
      Tri P ⟨n, w, viewF Mc (some g) own, [7000, 5000, 1000], .marks⟩ c (entryG (args ++ (capTys ++ [Ty.ptr 1000 0])) [(7000, .ck h0), (1000, .cells T [.ex (.func (.func f) #[] (cs' ++ [gp g]).toArray)]), (1001, .me g T (.func (.func f) #[] (cs' ++ [gp g]).toArray) capTys cs' h3 h4), (5000, .snap w (oldF Mc g own))]) (bodyPostM Fence.wide 0 P fn (yPostF own w Mc J1 Jx))) : MoreF P f T capTys args J0 J1 Jx := by
  refine ⟨⟨fn, hf, hn, by rw [hb]; rfl⟩, fun w Mc g own vs cs cs' wf z ho hv hcs hcs' hg hh hj => callsIn_wide.1 (callsIn_of_wp_marks (n := 0) hf hb trivial (h w Mc g own cs' wf z ho hg hh _ _ ?_))⟩
  have hnn : ∀ b, Mc b = none → viewF Mc (some g) own b = none := fun b hb => viewF_none' hb
  have hg0 : viewF Mc (some g) own g = some 1000 := viewF_g hg
  have hall : dens w (viewF Mc (some g) own) (args ++ (capTys ++ [Ty.ptr 1000 0])) (vs ++ (cs ++ [gp g])) := dens_append hv (dens_append (conv_nodeps hnn h3 h4 hcs) ⟨⟨g, hg0, rfl⟩, trivial⟩)
  have hlen := dens_len hall
  refine ⟨viewF Mc (some g) own, ⟨viewF_wf wf ho, Le.refl _ _ _ _, by simp [hnt]; simp at hlen hl; omega, Defs.nil⟩, fun c hc => ?_, fun x hx => ?_⟩
  · simp only [entryG]
    cases ha : (args ++ (capTys ++ [Ty.ptr 1000 0]))[c]? with
    | none => trivial
    | some ty =>
      obtain ⟨v, hv, hdv⟩ := dens_get hall c ty ha
      have : ((vs ++ (cs ++ [gp g])).toArray ++ Array.replicate (fn.ntmps - (vs ++ (cs ++ [gp g])).toArray.size) undef).getD c undef = v := by
        have hlt : c < (vs ++ (cs ++ [gp g])).length := (List.getElem?_eq_some_iff.1 hv).1
        rw [Array.getD_eq_getD_getElem?, Array.getElem?_append_left (by simpa using hlt), List.getElem?_toArray, hv]; rfl
      rw [this]; exact hdv
  · simp only [entryG, List.mem_cons, List.not_mem_nil, or_false] at hx
    rcases hx with rfl | rfl | rfl | rfl
    · exact ⟨rfl, viewF_ck wf z hj⟩
    · exact ⟨g, _, hg0, hh, rfl, trivial⟩
    · exact ⟨hg0, hh, conv_nodeps hnn h3 h4 hcs'⟩
    · intro b ⟨hb1, hb2, hb3⟩
      exact ⟨viewF_old hb1 (by simpa using hb2) hb3, rfl⟩
section
variable {A : As} {fn : Func} {n : Nat} {J1 Jx : World → Tags → Prop}
theorem fret_le {w w' : World} {Mc M Mc' : Tags} {g T : Nat} {own : Nat → Option Nat} {v : Value} {tys : List Ty} {cs : List Value} {h3 : depsOf tys = []} {h4 : cdepsOf tys = []} (z : ZOk Mc) (wf : Wf w Mc) (hg : w.heap[g]? = some (.cells #[v] T (0, 0)))
    (hb : Le (fun t => 1 ≤ t) (fun t => 1 ≤ t ∧ t ∉ [7000, 5000, 1000]) w (viewF Mc (some g) own) w' M) (hm : (Cont.me g T v tys cs h3 h4).den w' M 1001) (ho : (Cont.snap w (oldF Mc g own)).den w' M 5000) (k1 : ∀ b, M b = none → Mc' b = none) (k2 : ∀ b u, b < w'.heap.size → M b = some u → u ≠ 7000 → Mc' b = some (Zt + b)) :
    Le (takeF own) (takeF own) w Mc w' Mc' := by
  refine ⟨hb.size, hb.os, hb.tape, hb.out, fun b hlt h => ?_, fun b t h ht => ?_⟩
  · obtain ⟨a, c⟩ := hb.pub b hlt (viewF_none' h)
    exact ⟨k1 b a, c⟩
  · have hz : ¬ t < Zt := fun e => ht (.inl e)
    have e := z b t h (by omega)
    subst e
    have hlt : b < w'.heap.size := Nat.lt_of_lt_of_le (wf.lt b _ h) hb.size
    have hno : own b = none := Classical.byContradiction fun e => ht (.inr ⟨b, rfl, e⟩)
    by_cases e : b = g
    · subst e
      exact ⟨k2 b 1000 hlt hm.1 (by decide), fun _ => hm.2.1.trans hg.symm⟩
    · obtain ⟨a, c⟩ := ho b ⟨h, e, hno⟩
      exact ⟨k2 b 5000 hlt a (by decide), fun _ => c⟩
variable [T : Tab P]
theorem results_cell1 {tm ty b : Nat} {ti : TI} {v : Value} {w : World} {tmps : Array Value} (hr : fn.results = #[.cell tm ty]) (hT : T.tab[ty]? = some ti) (ha : ti.k.agg = false) (e : tmps.getD tm undef = .pointer (some ⟨b, 0, none⟩)) (hc : w.cell? ⟨b, 0, none⟩ = some v) : (results fn tmps).run P w = .ok v w := by
  have hload : (loadVar ty ⟨b, 0, none⟩).run P w = .ok v w := by
    have := run_load1 (P := P) hT ha (w := w) (b := b) (off := 0) hc
    simpa [Instr.loadAt, Instr.sureAddr] using this
  have e'' : tmps[tm]?.getD undef = .pointer (some ⟨b, 0, none⟩) := by rw [← Array.getD_eq_getD_getElem?]; exact e
  simp [results, hr, e'', asAddr, hload]
theorem cell_at {tm tg Tb : Nat} {ty : Ty} {w : World} {M : Tags} {x : Value} (wf : Wf w M) (hx : (Ty.ptr tg 0).den w M x) (hc : (Cont.cells Tb [ty]).den w M tg) (h1 : Tag1 tg) : ∃ b v, x = .pointer (some ⟨b, 0, none⟩) ∧ w.cell? ⟨b, 0, none⟩ = some v ∧ ty.den w M v := by
  obtain ⟨b, hb, e⟩ := hx
  obtain ⟨b', ⟨cs⟩, hb', hh, hds⟩ := hc
  obtain ⟨u, rfl⟩ : ∃ u, tg = u + 1 := ⟨tg - 1, by have := h1.1; omega⟩
  have := wf.inj b b' u h1.2 hb hb'
  subst this
  match cs, hds with
  | [v], ⟨hv, _⟩ => exact ⟨b, v, e, by simp [World.cell?, hh], hv⟩
theorem i_retFy {tm ty tg Tb g Tg : Nat} {ti : TI} {w : World} {Mc : Tags} {own : Nat → Option Nat} {v : Value} {tys : List Ty} {cs : List Value} {t : Ty} {h3 : depsOf tys = []} {h4 : cdepsOf tys = []} {h1 : Cb J1} {hx : Cb Jx} (z : ZOk Mc) (wf : Wf w Mc) (hg : w.heap[g]? = some (.cells #[v] Tg (0, 0))) (hr : fn.results = #[.cell tm ty]) (htm : Nat.blt tm n = true) (hs : A.slots tm = .ptr tg 0) (hc : A.tag tg = some (.cells Tb [t])) (h1' : Tag1 tg) (hT : T.tab[ty]? = some ti) (ha : ti.k.agg = false) (hm : A.tag 1001 = some (.me g Tg v tys cs h3 h4)) (ho : A.tag 5000 = some (.snap w (oldF Mc g own))) (ht : t.Sub (.yb true h1 hx)) :
    Into ⟨n, w, viewF Mc (some g) own, [7000, 5000, 1000], .plain⟩ A (bodyPost P fn (yPostF own w Mc J1 Jx) .ret) := by
  intro a w' ⟨M, ok, hsl, htg⟩
  have hd := hsl tm (by simpa using htm)
  rw [hs] at hd
  obtain ⟨b, x, e, hcl, hdx⟩ := cell_at (tm := tm) ok.wf hd (htg _ (tag_mem hc)) h1'
  have hres := results_cell1 (P := P) (fn := fn) hr hT ha e hcl
  rcases ht _ _ _ hdx with ⟨ev, Mc', wf', z', hj, k1, k2⟩ | ⟨ev, Mc', wf', z', hj, k1, k2⟩
  · exact ⟨ok.nodefers (by simp), _, hres, Mc', wf', z', fret_le (h3 := h3) (h4 := h4) z wf hg ok.base (htg _ (tag_mem hm)) (htg _ (tag_mem ho)) k1 k2, .inl ⟨by rw [ev], hj⟩⟩
  · exact ⟨ok.nodefers (by simp), _, hres, Mc', wf', z', fret_le (h3 := h3) (h4 := h4) z wf hg ok.base (htg _ (tag_mem hm)) (htg _ (tag_mem ho)) k1 k2, .inr ⟨by rw [ev]; rfl, hj⟩⟩
theorem i_retFt {tm ty tg Tb g Tg : Nat} {ti : TI} {w : World} {Mc : Tags} {own : Nat → Option Nat} {v : Value} {tys : List Ty} {cs : List Value} {h3 : depsOf tys = []} {h4 : cdepsOf tys = []} {J : World → Tags → Prop} {hj : Cb J} (z : ZOk Mc) (wf : Wf w Mc) (e : J = J1) (hg : w.heap[g]? = some (.cells #[v] Tg (0, 0))) (hr : fn.results = #[.cell tm ty]) (htm : Nat.blt tm n = true) (hs : A.slots tm = .ptr tg 0) (hc : A.tag tg = some (.cells Tb [.bool true])) (h1' : Tag1 tg) (hT : T.tab[ty]? = some ti) (ha : ti.k.agg = false) (hm : A.tag 1001 = some (.me g Tg v tys cs h3 h4)) (ho : A.tag 5000 = some (.snap w (oldF Mc g own))) (hk : A.tag 7000 = some (.ck hj)) :
    Into ⟨n, w, viewF Mc (some g) own, [7000, 5000, 1000], .plain⟩ A (bodyPost P fn (yPostF own w Mc J1 Jx) .ret) := by
  subst e
  intro a w' ⟨M, ok, hsl, htg⟩
  have hd := hsl tm (by simpa using htm)
  rw [hs] at hd
  obtain ⟨b, x, e, hcl, hdx⟩ := cell_at (tm := tm) ok.wf hd (htg _ (tag_mem hc)) h1'
  have hres := results_cell1 (P := P) (fn := fn) hr hT ha e hcl
  have ev : x = .bool true := hdx
  obtain ⟨_, Mc', wf', z', hj, k1, k2⟩ := htg _ (tag_mem hk)
  exact ⟨ok.nodefers (by simp), _, hres, Mc', wf', z', fret_le (h3 := h3) (h4 := h4) z wf hg ok.base (htg _ (tag_mem hm)) (htg _ (tag_mem ho)) k1 k2, .inl ⟨by rw [ev], hj⟩⟩
theorem i_retFx {tm ty tg Tb g Tg : Nat} {ti : TI} {w : World} {Mc : Tags} {own : Nat → Option Nat} {v : Value} {tys : List Ty} {cs : List Value} {h3 : depsOf tys = []} {h4 : cdepsOf tys = []} {hx : Cb Jx} (z : ZOk Mc) (wf : Wf w Mc) (hg : w.heap[g]? = some (.cells #[v] Tg (0, 0))) (hr : fn.results = #[.cell tm ty]) (htm : Nat.blt tm n = true) (hs : A.slots tm = .ptr tg 0) (hc : A.tag tg = some (.cells Tb [.bool false])) (h1' : Tag1 tg) (hT : T.tab[ty]? = some ti) (ha : ti.k.agg = false) (hm : A.tag 1001 = some (.me g Tg v tys cs h3 h4)) (ho : A.tag 5000 = some (.snap w (oldF Mc g own))) (hk : A.tag 7000 = some (.ck hx)) :
    Into ⟨n, w, viewF Mc (some g) own, [7000, 5000, 1000], .plain⟩ A (bodyPost P fn (yPostF own w Mc J1 Jx) .ret) := by
  intro a w' ⟨M, ok, hsl, htg⟩
  have hd := hsl tm (by simpa using htm)
  rw [hs] at hd
  obtain ⟨b, x, e, hcl, hdx⟩ := cell_at (tm := tm) ok.wf hd (htg _ (tag_mem hc)) h1'
  have hres := results_cell1 (P := P) (fn := fn) hr hT ha e hcl
  have ev : x = .bool false := hdx
  obtain ⟨_, Mc', wf', z', hj, k1, k2⟩ := htg _ (tag_mem hk)
  exact ⟨ok.nodefers (by simp), _, hres, Mc', wf', z', fret_le (h3 := h3) (h4 := h4) z wf hg ok.base (htg _ (tag_mem hm)) (htg _ (tag_mem ho)) k1 k2, .inr ⟨by rw [ev], hj⟩⟩
end
variable {fr : Fr} {ops : Array Oper} {A : As} {rest : List Oper} {K : As → List (As × Fx) → Prop} {d : Nat} {t ty' : TypeId} {p : String} {e : Array Edge}
theorem r_callFnd {c k : Nat} {fv : Value} {encs : List (List Ty)} {J : Nat → World → Tags → Prop} {Jx : World → Tags → Prop} (hJ : ∀ k, Cb (J k)) (hJx : Cb Jx) (hF : FndC P fv encs J Jx) {xs : List Operand} {ats : Array TypeId} {tys : List Ty}
    (hc : A.op fr (.tmp c) = .ex fv) (hx : opsTy A fr xs = tys) (hd : depsOf tys = []) (hdc : cdepsOf tys = []) (hk : encs[k]? = some tys) (ht : A.tag 7000 = some (.ck (hJ k)))
    (h : TOps P fr ops rest (A.after { d := some d, ty := .yb true (hJ (k + 1)) hJx, S := [7000], rs := c :: xs.flatMap opR, rt := [7000] }) fun A' l' => K A' ((A, { d := some d, ty := .yb true (hJ (k + 1)) hJx, S := [7000], rs := c :: xs.flatMap opR, rt := [7000] }) :: l')) :
    TOps P fr ops (⟨some d, .call ⟨.value (.tmp c), xs.toArray, ats⟩, t, p, e, none⟩ :: rest) A K := by
  refine ⟨{ d := some d, ty := .yb true (hJ (k + 1)) hJx, S := [7000], rs := c :: xs.flatMap opR, rt := [7000] }, ⟨rfl, by simp, by simp, by simp, fun a w M wf hsz hrd htg => ?_⟩, h⟩
  rw [if_pos (by simp [Region.wanted])]
  have hcv := op_den (x := .tmp c) (rs := c :: xs.flatMap opR) (fun u hu => by exact (List.mem_singleton.1 hu) ▸ List.mem_cons_self) hrd
  rw [hc] at hcv
  obtain ⟨fid, cs, efv, ⟨fn, hf, hn, hb⟩, hcall⟩ := hF
  subst efv
  have hcv : a.eval (.tmp c) = .func (.func fid) #[] cs := hcv
  obtain ⟨_, Mc, wfc, z, hj, h1, h2⟩ := htg _ (tag_mem ht) (by simp)
  have hv : dens w Mc tys (xs.map a.eval) := conv_nodeps h1 hd hdc (hx ▸ opsTy_dens (rs := c :: xs.flatMap opR) hrd fun x hx c hc => List.mem_cons_of_mem _ (List.mem_flatMap.2 ⟨x, hx, hc⟩))
  have hn' : fn.name ≠ "runtime.NumGoroutine" := by simpa using hn
  have hb' : fn.body ≠ none := fun h => by rw [h] at hb; cases hb
  refine wp_in_enter (f := fid) (args := (xs.map a.eval ++ cs.toList).toArray) (by simp [execOp, resolve, hcv, Deferred.ofValue, invoke, callFunc, hf, hn', hb']) ((hcall k tys hk w Mc _ wfc z hj hv).mono fun en w' ⟨Mc', wf', z', le, hor⟩ => ?_)
  obtain ⟨g1, g2, g3, g4⟩ := backY_ok wf wf' h1 h2 le
  rcases hor with ⟨rfl, hj'⟩ | ⟨rfl, hj'⟩
  · exact ⟨.bool true, rfl, .bool true, rfl, _, g1, g2, .inl ⟨rfl, Mc', wf', z', hj', g3, g4⟩, by simp⟩
  · exact ⟨.bool false, rfl, .bool false, rfl, _, g1, g2, .inr ⟨rfl, Mc', wf', z', hj', g3, g4⟩, by simp⟩
def ownM (M : Tags) (ρ : List (Nat × Nat)) (b : Nat) : Option Nat := (M b).bind fun t => ρ.lookup t
def handOk (fr : Fr) (ρ : List (Nat × Nat)) (tg : Nat) : Bool := reOk ρ && ρ.all fun x => !fr.pass.contains x.1 && (!(x.1 == 7000) && (!(x.1 == tg) && (Nat.blt 1001 x.2 && Nat.blt x.2 1010)))
theorem handOk_spec {fr : Fr} {ρ : List (Nat × Nat)} {tg : Nat} (h : handOk fr ρ tg = true) : reOk ρ = true ∧ ∀ x ∈ ρ, x.1 ∉ fr.pass ∧ x.1 ≠ 7000 ∧ x.1 ≠ tg ∧ 1001 < x.2 ∧ x.2 < 1010 := by
  simp only [handOk, Bool.and_eq_true, List.all_eq_true, Bool.not_eq_true', Nat.blt_eq, beq_eq_false_iff_ne] at h
  refine ⟨h.1, fun x hx => ?_⟩
  obtain ⟨h1, h2, h3, h4, h5⟩ := h.2 x hx
  exact ⟨by simpa using h1, h2, h3, h4, h5⟩
def backF (w : World) (ρ : List (Nat × Nat)) (M Mc' : Tags) : Tags := fun b => if b < w.heap.size ∧ ownM M ρ b = none then M b else (Mc' b).map fun _ => 7000
theorem hand_view {w : World} {M Mc : Tags} {ρ : List (Nat × Nat)} {tg g : Nat} {fr : Fr} (hok : handOk fr ρ tg = true) (wf : Wf w M) (hg : M g = some tg) (h1 : ∀ b, M b = none → Mc b = none) (h2 : ∀ b u, b < w.heap.size → M b = some u → u ≠ 7000 → Mc b = some (Zt + b)) :
    OwnF Mc (some g) (ownM M ρ) ∧ Re ρ M (viewF Mc (some g) (ownM M ρ)) := by
  obtain ⟨hr, hq⟩ := handOk_spec hok
  have part : ∀ b t, ownM M ρ b = some t → ∃ u, M b = some u ∧ (u, t) ∈ ρ := fun b t h => by
    obtain ⟨u, hu, hl⟩ := Option.bind_eq_some_iff.1 h
    exact ⟨u, hu, lookup_mem' hl⟩
  have how : OwnF Mc (some g) (ownM M ρ) := by
    refine ⟨fun b t h => ?_, fun b b' t h h' => ?_⟩
    · obtain ⟨u, hu, hm⟩ := part b t h
      obtain ⟨_, e2, e3, e4, e5⟩ := hq _ hm
      refine ⟨h2 b u (wf.lt b u hu) hu e2, fun e => ?_, e4, e5⟩
      injection e with e
      subst e
      rw [hu] at hg; injection hg with hg; exact e3 hg
    · obtain ⟨u, hu, hm⟩ := part b t h
      obtain ⟨u', hu', hm'⟩ := part b' t h'
      have e : u = u' := ((reOk_spec hr _ hm).2.2 _ hm').2 rfl
      subst e
      obtain ⟨v, rfl⟩ : ∃ v, u = v + 1 := ⟨u - 1, by have := (reOk_spec hr _ hm).1; omega⟩
      exact wf.inj b b' v (by have := reOk_fam hr hm; have := (hq _ hm).2.2.2.2; omega) hu hu'
  refine ⟨how, ⟨fun b h => viewF_none' (h1 b h), fun x hx b h => viewF_own how ?_⟩⟩
  unfold ownM
  rw [h]; exact mem_lookup' hr hx
theorem backF_ok {w w' : World} {M Mc Mc' : Tags} {ρ : List (Nat × Nat)} (wf : Wf w M) (wf' : Wf w' Mc') (h1 : ∀ b, M b = none → Mc b = none) (h2 : ∀ b u, b < w.heap.size → M b = some u → u ≠ 7000 → Mc b = some (Zt + b)) (le : Le (takeF (ownM M ρ)) (takeF (ownM M ρ)) w Mc w' Mc') :
    Wf w' (backF w ρ M Mc') ∧ Le (· ∈ [7000]) (· ∈ ρ.map Prod.fst) w M w' (backF w ρ M Mc') ∧ (∀ b, backF w ρ M Mc' b = none → Mc' b = none) ∧ ∀ b u, b < w'.heap.size → backF w ρ M Mc' b = some u → u ≠ 7000 → Mc' b = some (Zt + b) := by
  have pubK : ∀ b, M b = none → ownM M ρ b = none := fun b h => by simp [ownM, h]
  have keep : ∀ b u, M b = some u → u ∉ ρ.map Prod.fst → ownM M ρ b = none := fun b u h hu => by
    unfold ownM
    rw [h]
    show ρ.lookup u = none
    cases hl : ρ.lookup u with
    | none => rfl
    | some c => exact absurd (List.mem_map.2 ⟨_, lookup_mem' hl, rfl⟩) hu
  have stay : ∀ b u, M b = some u → ownM M ρ b = none → u ≠ 7000 → Mc' b = some (Zt + b) ∧ w'.heap[b]? = w.heap[b]? := fun b u h ho hu => by
    have ht : ¬ takeF (ownM M ρ) (Zt + b) := by
      rintro (h | ⟨q, h, hq⟩)
      · omega
      · have : q = b := by omega
        subst this; exact hq ho
    obtain ⟨a, c⟩ := le.own b _ (h2 b u (wf.lt b u h) h hu) ht
    exact ⟨a, c ht⟩
  unfold backF
  refine ⟨⟨fun b u h => ?_, fun b b' u ht1 h h' => ?_, wf.amb.of fun b hb hm => ⟨by simp [hb, hm, pubK b hm], (le.pub b hb (h1 b hm)).2⟩⟩, ⟨le.size, le.os, le.tape, le.out, fun b hb hm => ⟨by simp [hb, hm, pubK b hm], (le.pub b hb (h1 b hm)).2⟩, fun b u hm hk => ⟨?_, fun hs => ?_⟩⟩, fun b h => ?_, fun b u _ h hu => ?_⟩
  · split at h
    · rename_i hc; exact Nat.lt_of_lt_of_le hc.1 le.size
    · obtain ⟨v, hv, _⟩ := Option.map_eq_some_iff.1 h
      exact wf'.lt b v hv
  · have part : ∀ b, (if b < w.heap.size ∧ ownM M ρ b = none then M b else (Mc' b).map fun _ => 7000) = some (u + 1) → M b = some (u + 1) := fun b h => by
      split at h
      · exact h
      · obtain ⟨v, _, hv⟩ := Option.map_eq_some_iff.1 h
        omega
    exact wf.inj b b' u ht1 (part b h) (part b' h')
  · rw [if_pos ⟨wf.lt b u hm, keep b u hm hk⟩]; exact hm
  · have hu : u ≠ 7000 := fun e => hs (by simp [e])
    exact (stay b u hm (keep b u hm hk) hu).2
  · split at h
    · rename_i hc; exact (le.pub b hc.1 (h1 b h)).1
    · simpa using h
  · split at h
    · rename_i hc; exact (stay b u h hc.2 hu).1
    · obtain ⟨v, _, hv⟩ := Option.map_eq_some_iff.1 h
      exact absurd hv.symm hu
theorem run_callFuncF {f : FuncId} {T : Nat} {capTys args : List Ty} {J0 J1 Jx : World → Tags → Prop} (hF : MoreF P f T capTys args J0 J1 Jx) (vs : Array Value) (w : World) : (callFunc f vs).run P w = .ok (.enter f vs) w := by
  obtain ⟨⟨fn, hf, hn, hb⟩, _⟩ := hF
  have hn' : fn.name ≠ "runtime.NumGoroutine" := by simpa using hn
  have hb' : fn.body ≠ none := fun h => by rw [h] at hb; cases hb
  simp [callFunc, hf, hn', hb']
theorem r_callF (ρ : List (Nat × Nat)) {c f T g : Nat} {capTys args ss : List Ty} {cs' : List Value} {J0 J1 Jx : World → Tags → Prop} (h0 : Cb J0) (h1 : Cb J1) (hx : Cb Jx) (hM : MoreF P f T capTys args J0 J1 Jx) {h3 : depsOf capTys = []} {h4 : cdepsOf capTys = []} {xs : List Operand} {ats : Array TypeId}
    (hc : A.op fr (.tmp c) = .ex (.func (.func f) #[] (cs' ++ [gp g]).toArray)) (hxs : opsTy A fr xs = ss) (hl : Convs ρ ss args) (hok : handOk fr ρ 1000 = true)
    (hme : A.tag 1001 = some (.me g T (.func (.func f) #[] (cs' ++ [gp g]).toArray) capTys cs' h3 h4)) (hck : A.tag 7000 = some (.ck h0))
    (h : TOps P fr ops rest (A.after { d := some d, ty := .yb true h1 hx, S := [7000], K := ρ.map Prod.fst, rs := c :: xs.flatMap opR, rt := [7000, 1001] }) fun A' l' => K A' ((A, { d := some d, ty := .yb true h1 hx, S := [7000], K := ρ.map Prod.fst, rs := c :: xs.flatMap opR, rt := [7000, 1001] }) :: l')) :
    TOps P fr ops (⟨some d, .call ⟨.value (.tmp c), xs.toArray, ats⟩, t, p, e, none⟩ :: rest) A K := by
  obtain ⟨hro, hq⟩ := handOk_spec hok
  refine ⟨{ d := some d, ty := .yb true h1 hx, S := [7000], K := ρ.map Prod.fst, rs := c :: xs.flatMap opR, rt := [7000, 1001] }, ⟨rfl, by simp, by simp, fun u hu => by
    obtain ⟨x, hx, rfl⟩ := List.mem_map.1 hu
    exact ⟨(reOk_spec hro x hx).1, (hq x hx).1⟩, fun a w M wf hsz hrd htg => ?_⟩, h⟩
  rw [if_pos (by simp [Region.wanted])]
  have hcv := op_den (x := .tmp c) (rs := c :: xs.flatMap opR) (fun u hu => by exact (List.mem_singleton.1 hu) ▸ List.mem_cons_self) hrd
  rw [hc] at hcv
  have hcv : a.eval (.tmp c) = .func (.func f) #[] (cs' ++ [gp g]).toArray := hcv
  obtain ⟨e1, e2, e3⟩ := htg _ (tag_mem hme) (by simp)
  obtain ⟨_, Mc, wfc, z, hj, k1, k2⟩ := htg _ (tag_mem hck) (by simp)
  have hg : g < w.heap.size := (Array.getElem?_eq_some_iff.1 e2).1
  obtain ⟨how, hre⟩ := hand_view hok wf e1 k1 k2
  have hv : dens w (viewF Mc (some g) (ownM M ρ)) args (xs.map a.eval) := convs_dens wf (viewF_wf wfc how) hre hl (hxs ▸ opsTy_dens (rs := c :: xs.flatMap opR) hrd fun x hx c hc => List.mem_cons_of_mem _ (List.mem_flatMap.2 ⟨x, hx, hc⟩))
  have hcs : dens w Mc capTys cs' := conv_nodeps k1 h3 h4 e3
  have hcall := hM.2 w Mc g (ownM M ρ) _ cs' cs' wfc z how hv hcs hcs (k2 g 1000 hg e1 (by decide)) e2 hj
  refine wp_in_enter (f := f) (args := (xs.map a.eval ++ (cs' ++ [gp g])).toArray) (by simp [execOp, resolve, hcv, Deferred.ofValue, invoke, run_callFuncF hM]) (hcall.mono fun en w' ⟨Mc', wf', z', le, hor⟩ => ?_)
  obtain ⟨g1, g2, g3, g4⟩ := backF_ok wf wf' k1 k2 le
  rcases hor with ⟨rfl, hj'⟩ | ⟨rfl, hj'⟩
  · exact ⟨.bool true, rfl, .bool true, rfl, _, g1, g2, .inl ⟨rfl, Mc', wf', z', hj', g3, g4⟩, by simp⟩
  · exact ⟨.bool false, rfl, .bool false, rfl, _, g1, g2, .inr ⟨rfl, Mc', wf', z', hj', g3, g4⟩, by simp⟩
theorem r_callF0 (ρ : List (Nat × Nat)) {dst : Option Nat} {c f T tg : Nat} {capTys args ss : List Ty} {J0 J1 Jx : World → Tags → Prop} (h0 : Cb J0) (h1 : Cb J1) (hx : Cb Jx) (hM : MoreF P f T capTys args J0 J1 Jx) (h3 : depsOf capTys = []) (h4 : cdepsOf capTys = []) {xs : List Operand} {ats : Array TypeId}
    (hc : A.op fr (.tmp c) = .clo f (capTys ++ [.ptr tg 0])) (hxs : opsTy A fr xs = ss) (hl : Convs ρ ss args) (hok : handOk fr ρ tg = true)
    (hcell : A.tag tg = some (.cells T [.clo f (capTys ++ [.ptr tg 0])])) (htg1 : Tag1 tg) (hck : A.tag 7000 = some (.ck h0))
    (h : TOps P fr ops rest (A.after { d := dst, ty := Ty.any, S := [7000], K := ρ.map Prod.fst, sets := [(7000, Cont.ce h1 hx)], rs := c :: xs.flatMap opR, rt := [7000, tg] }) fun A' l' => K A' ((A, { d := dst, ty := Ty.any, S := [7000], K := ρ.map Prod.fst, sets := [(7000, Cont.ce h1 hx)], rs := c :: xs.flatMap opR, rt := [7000, tg] }) :: l')) :
    TOps P fr ops (⟨dst, .call ⟨.value (.tmp c), xs.toArray, ats⟩, t, p, e, none⟩ :: rest) A K := by
  obtain ⟨hro, hq⟩ := handOk_spec hok
  refine ⟨_, ⟨rfl, by simp, by simp, fun u hu => by
    obtain ⟨x, hx, rfl⟩ := List.mem_map.1 hu
    exact ⟨(reOk_spec hro x hx).1, (hq x hx).1⟩, fun a w M wf hsz hrd htg => ?_⟩, h⟩
  rw [if_pos (by simp [Region.wanted])]
  have hcv := op_den (x := .tmp c) (rs := c :: xs.flatMap opR) (fun u hu => by exact (List.mem_singleton.1 hu) ▸ List.mem_cons_self) hrd
  rw [hc] at hcv
  obtain ⟨⟨cl⟩, ev, hcl⟩ := hcv
  have split : ∀ (l : List Value), dens w M (capTys ++ [.ptr tg 0]) l → ∃ cs b, l = cs ++ [gp b] ∧ dens w M capTys cs ∧ M b = some tg := fun l hl => by
    have hlen := dens_len hl
    rw [List.length_append, List.length_singleton] at hlen
    have g1 := dens_take capTys.length hl
    have g2 := dens_drop capTys.length hl
    rw [List.take_left] at g1
    rw [List.drop_left] at g2
    have e1 : (l.drop capTys.length).length = 1 := by rw [List.length_drop]; omega
    obtain ⟨v, hv⟩ := List.length_eq_one_iff.1 e1
    rw [hv] at g2
    obtain ⟨⟨b, hb, ev⟩, _⟩ := g2
    exact ⟨_, b, by subst ev; have h9 := List.take_append_drop capTys.length l; rw [hv] at h9; exact h9.symm, g1, hb⟩
  obtain ⟨cs, g, rfl, hcs, hg⟩ := split _ hcl
  obtain ⟨b', ⟨cells⟩, hb', hh, hdd⟩ := htg _ (tag_mem hcell) (by simp)
  obtain ⟨u, rfl⟩ : ∃ u, tg = u + 1 := ⟨tg - 1, by have := htg1.1; omega⟩
  have hbg : g = b' := wf.inj g b' u htg1.2 hg hb'
  subst hbg
  obtain ⟨v', rfl⟩ : ∃ v', cells = [v'] := by
    have hlen := dens_len hdd
    exact List.length_eq_one_iff.1 (by simpa using hlen)
  obtain ⟨⟨⟨cl'⟩, ev', hcl'⟩, _⟩ := hdd
  obtain ⟨cs', g', rfl, hcs', hg'⟩ := split _ hcl'
  have hgg : g' = g := wf.inj g' g u htg1.2 hg' hg
  subst hgg
  subst ev'
  obtain ⟨_, Mc, wfc, z, hj, k1, k2⟩ := htg _ (tag_mem hck) (by simp)
  have hgs : g' < w.heap.size := (Array.getElem?_eq_some_iff.1 hh).1
  have hcv : a.eval (.tmp c) = .func (.func f) #[] (cs ++ [gp g']).toArray := ev
  obtain ⟨how, hre⟩ := hand_view hok wf hg k1 k2
  have hv : dens w (viewF Mc (some g') (ownM M ρ)) args (xs.map a.eval) := convs_dens wf (viewF_wf wfc how) hre hl (hxs ▸ opsTy_dens (rs := c :: xs.flatMap opR) hrd fun x hx c hc => List.mem_cons_of_mem _ (List.mem_flatMap.2 ⟨x, hx, hc⟩))
  have hcall := hM.2 w Mc g' (ownM M ρ) _ cs cs' wfc z how hv (conv_nodeps k1 h3 h4 hcs) (conv_nodeps k1 h3 h4 hcs') (k2 g' _ hgs hg (by have := htg1.2; omega)) hh hj
  refine wp_in_enter (f := f) (args := (xs.map a.eval ++ (cs ++ [gp g'])).toArray) (by simp [execOp, resolve, hcv, Deferred.ofValue, invoke, run_callFuncF hM]) (hcall.mono fun en w' ⟨Mc', wf', z', le, hor⟩ => ?_)
  obtain ⟨g1, g2, g3, g4⟩ := backF_ok wf wf' k1 k2 le
  rcases hor with ⟨rfl, hj'⟩ | ⟨rfl, hj'⟩
  · exact ⟨.bool true, rfl, .bool true, rfl, _, g1, g2, trivial, fun x hx => by rw [List.mem_singleton.1 hx]; exact ⟨rfl, .inl ⟨Mc', wf', z', hj', g3, g4⟩⟩⟩
  · exact ⟨.bool false, rfl, .bool false, rfl, _, g1, g2, trivial, fun x hx => by rw [List.mem_singleton.1 hx]; exact ⟨rfl, .inr ⟨Mc', wf', z', hj', g3, g4⟩⟩⟩
end
end Go.T

namespace Go.T
open Go Go.RowKit
def CtrFd (P : Program) (f : FuncId) (args : Value → List Ty) (encs : List (List Ty)) : Prop :=
  (∃ fn, P.funcs[f]? = some fn ∧ (fn.name == "runtime.NumGoroutine") = false ∧ fn.body.isNone = false) ∧
  ∀ fv J Jx, (∀ k, Cb (J k)) → Cb Jx → FndC P fv encs J Jx → ∀ w M us, Wf w M → ZOk M → dens w M (args fv) us → J 0 w M → Calls P f us.toArray w (izPost w M encs.length J Jx)
theorem CtrG.ex {P : Program} {f : FuncId} {F : List Nat} {pre post : List (Nat × Cont)} {args : List Ty} {res : Ty} (h : CtrG P f F pre args post res) : ∃ fn, P.funcs[f]? = some fn ∧ (fn.name == "runtime.NumGoroutine") = false ∧ fn.body.isNone = false := h.1
section
variable {P : Program}
theorem fnFd_intro {f : FuncId} {fn : Func} {c : Code} {args : Value → List Ty} {encs : List (List Ty)} {n : Nat} (hf : P.funcs[f]? = some fn) (hb : fn.body = some c) (hn : (fn.name == "runtime.NumGoroutine") = false) (hnt : fn.ntmps = n) (hl : ∀ v, (args v).length ≤ n) (hdd : ∀ v, depsOf (args v) = [] ∧ cdepsOf (args v) = [])
    (h : ∀ fv J Jx (hJ : ∀ k, Cb (J k)) (hJx : Cb Jx), FndC P fv encs J Jx → ∀ w0 Mc, Wf w0 Mc → ZOk Mc → Tri P ⟨n, w0, startM Mc none, [7000, 5000], .plain⟩ c (entryG (args fv) [(7000, .ck (hJ 0)), (5000, .snap w0 (oldZ Mc))]) (bodyPost P fn (izPost w0 Mc encs.length J Jx))) : CtrFd P f args encs := by
  refine ⟨⟨fn, hf, hn, by rw [hb]; rfl⟩, fun fv J Jx hJ hJx hF w Mc vs wf z hd hj => calls_of_wp hf hb (wpIn_wide.1 (h fv J Jx hJ hJx hF w Mc wf z _ _ ?_))⟩
  have hall : dens w (startM Mc none) (args fv) vs := conv_nodeps (fun b hb => startM_none' hb) (hdd fv).1 (hdd fv).2 hd
  have hlen := dens_len hall
  have hl := hl fv
  refine ⟨startM Mc none, ⟨startM_wf wf, Le.refl _ _ _ _, by simp [hnt, hlen]; omega, Defs.nil⟩, fun c hc => ?_, fun x hx => ?_⟩
  · simp only [entryG]
    cases ha : (args fv)[c]? with
    | none => trivial
    | some ty =>
      obtain ⟨v, hv, hdv⟩ := dens_get hall c ty ha
      have : (vs.toArray ++ Array.replicate (fn.ntmps - vs.toArray.size) undef).getD c undef = v := by
        have hlt : c < vs.length := (List.getElem?_eq_some_iff.1 hv).1
        rw [Array.getD_eq_getD_getElem?, Array.getElem?_append_left (by simpa using hlt)]
        simp [hv]
      rw [this]; exact hdv
  · simp only [entryG, List.mem_cons, List.not_mem_nil, or_false] at hx
    rcases hx with rfl | rfl
    · exact ⟨rfl, startM_ck wf z hj⟩
    · intro b hb
      refine ⟨?_, rfl⟩
      have : ¬ Zt + b < Zt := by omega
      have hb : Mc b = some (Zt + b) := hb
      simp [startM, hb, this]
theorem i_retFd {A : As} {fn : Func} {n m k : Nat} {w0 : World} {Mc : Tags} {J : Nat → World → Tags → Prop} {Jx : World → Tags → Prop} {hJ : ∀ k, Cb (J k)} {h1 : Cb (J k)} {hx : Cb Jx} (z : ZOk Mc) (wf : Wf w0 Mc) (e : k = m) (hr : fn.results = #[]) (ht : A.tag 7000 = some (.ce h1 hx)) (ho : A.tag 5000 = some (.snap w0 (oldZ Mc))) : Into ⟨n, w0, startM Mc none, [7000, 5000], .plain⟩ A (bodyPost P fn (izPost w0 Mc m J Jx) .normal) := by
  subst e
  intro a w' ⟨M, ok, hsl, htg⟩
  obtain ⟨_, h | h⟩ := htg _ (tag_mem ht)
  · obtain ⟨Mc', wf', z', hj, k1, k2⟩ := h
    exact ⟨ok.nodefers (by simp), _, results_none hr _ _ _, _, Mc', rfl, wf', z', zret_le z wf ok.base (htg _ (tag_mem ho)) k1 k2, .inl hj⟩
  · obtain ⟨Mc', wf', z', hj, k1, k2⟩ := h
    exact ⟨ok.nodefers (by simp), _, results_none hr _ _ _, _, Mc', rfl, wf', z', zret_le z wf ok.base (htg _ (tag_mem ho)) k1 k2, .inr hj⟩
def JF (p : Prop) (S K : List Nat) (w1 : World) (M1 : Tags) (tgs : List (Nat × Cont)) (w : World) (M : Tags) : Prop :=
  p ∧ Le (· ∈ S) (· ∈ K) w1 M1 w M ∧ ∀ x ∈ tgs, x.2.den w M x.1
theorem JF_cb {p : Prop} {S K : List Nat} {w1 : World} {M1 : Tags} {tgs : List (Nat × Cont)} (hM : ∀ b u, M1 b = some u → u < Zt) (ht : tagsOk tgs = true) : Cb (JF p S K w1 M1 tgs) := by
  intro w M w' M' wf' le ⟨hp, h1, h2⟩
  refine ⟨hp, ⟨Nat.le_trans h1.size le.size, le.os.trans h1.os, le.tape.trans h1.tape, le.out.trans h1.out, fun b hb hm => ?_, fun b t hm hk => ?_⟩, fun x hx => ?_⟩
  · obtain ⟨a, c⟩ := h1.pub b hb hm
    obtain ⟨a', c'⟩ := le.pub b (Nat.lt_of_lt_of_le hb h1.size) a
    exact ⟨a', c'.trans c⟩
  · have := hM b t hm
    obtain ⟨a, c⟩ := h1.own b t hm hk
    obtain ⟨a', c'⟩ := le.own b t a (by omega)
    exact ⟨a', fun hs => (c' (by omega)).trans (c hs)⟩
  · obtain ⟨⟨_, e2⟩, e3, e4⟩ := tagsOk_spec ht x hx
    exact x.2.mono le (fun t ht hz => by have := (e3 t ht).2; omega) (fun t ht hz => by have := (e4 t ht).2; omega) (by omega) (by omega) (h2 x hx)
theorem fnd_of {fid : FuncId} {encs : List (List Ty)} {caps : List Ty} {cs : Array Value} {S K mv F : List Nat} {w1 : World} {M1 : Tags} {px : Prop} {ok : Nat → Prop} {tgs : Nat → List (Nat × Cont)} {tgx : List (Nat × Cont)} {ρ : List (Nat × Nat)} {pre post : Nat → List (Nat × Cont)} {argsF : Nat → List Ty} {go : Nat → Bool}
    (hex : ∃ fn, P.funcs[fid]? = some fn ∧ (fn.name == "runtime.NumGoroutine") = false ∧ fn.body.isNone = false)
    (hG : ∀ k, ok k → k < encs.length → CtrG P fid F (pre k) (argsF k) (post k) (Ty.bool (go k)))
    (hcs : dens w1 M1 caps cs.toList) (hdk : disj (depsOf caps) K = true) (hds : disj (cdepsOf caps) S = true)
    (hr : reOk ρ = true) (hmv : ∀ x ∈ ρ, x.1 ∈ mv ∨ x.2 ∈ F) (hmr : ∀ t ∈ mv, ∃ g, (t, g) ∈ ρ) (hS : ∀ t ∈ ρ.map Prod.fst, t ∈ S ∧ t < Zt) (hK : ∀ t ∈ mv, t ∈ K ∧ t < Zt)
    (hpub : ∀ tys ∈ encs, depsOf tys = [] ∧ cdepsOf tys = [])
    (harg : ∀ k tys, encs[k]? = some tys → Convs ρ (tys ++ caps) (argsF k))
    (hpre : ∀ k, PreCs ⟨anyT, tgs k⟩ ρ (pre k))
    (hpost1 : ∀ k, ok k → go k = true → PostCs (post k) ρ (tgs (k + 1))) (hpostx : ∀ k, ok k → go k = false → PostCs (post k) ρ tgx)
    (hok1 : ∀ k, ok k → k < encs.length → go k = true → ok (k + 1)) (hokx : ∀ k, ok k → k < encs.length → go k = false → px) :
    FndC P (.func (.func fid) #[] cs) encs (fun k => JF (ok k) S K w1 M1 (tgs k)) (JF px S K w1 M1 tgx) := by
  refine ⟨fid, cs, rfl, hex, fun k tys hk w Mc vs wf z ⟨hok, hle, htg⟩ hv => ?_⟩
  have hkl : k < encs.length := (List.getElem?_eq_some_iff.1 hk).1
  have hcs' : dens w Mc caps cs.toList := dens_mono hle (fun t ht hk => disj_spec hdk t ht hk) (fun t ht hs => disj_spec hds t ht hs) hcs
  have wfg := giveG_wf hr wf
  have hre := giveG_re hr (M := Mc)
  have hc := (hG k hok hkl).2 w _ (vs ++ cs.toList) wfg (convs_dens wf wfg hre (harg k tys hk) (dens_append hv hcs')) (pre_get (A := ⟨anyT, tgs k⟩) wf wfg hre (fun x hx _ => htg x hx) (hpre k))
  refine hc.mono fun en w' ⟨r, M', he, wf', le, hden, hp⟩ => ?_
  obtain ⟨h1, h2, h3⟩ := callG_left (mv := mv) hr hmv hmr wf wf' le
  have hz : ZOk (backG w ρ mv Mc M') := fun b u h hu => by
    unfold backG at h
    split at h
    · exact z b u h hu
    · obtain ⟨q, _, hl⟩ := Option.bind_eq_some_iff.1 h
      have hm := lookup_mem' hl
      obtain ⟨x, hx, e⟩ := List.mem_map.1 hm
      injection e with e1 e2
      have := (hS x.1 (List.mem_map.2 ⟨x, hx, rfl⟩)).2
      omega
  have hleN : Le (· ∈ S) (· ∈ K) w1 M1 w' (backG w ρ mv Mc M') := (hle.trans h2).weaken (fun t ht => ht.elim id fun h => (hS t h).1) (fun t ht => ht.elim id fun h => (hK t h).1)
  have hleZ : Le (fun t => t < Zt) (fun t => t < Zt) w Mc w' (backG w ρ mv Mc M') := h2.weaken (fun t ht => (hS t ht).2) (fun t ht => (hK t ht).2)
  have er : r = .bool (go k) := hden
  cases hgo : go k with
  | true => exact ⟨_, h1, hz, hleZ, .inl ⟨by rw [he, er, hgo], hok1 k hok hkl hgo, hleN, fun x hx => (post_get wf' h1 h3 hp (hpost1 k hok hgo) x hx).2⟩⟩
  | false => exact ⟨_, h1, hz, hleZ, .inr ⟨by rw [he, er, hgo], hokx k hok hkl hgo, hleN, fun x hx => (post_get wf' h1 h3 hp (hpostx k hok hgo) x hx).2⟩⟩
variable {fr : Fr} {ops : Array Oper} {A : As} {rest : List Oper} {K' : As → List (As × Fx) → Prop} {d : Nat} {t ty' : TypeId} {p : String} {e : Array Edge}
theorem opT_callFd {dst : Option Nat} {f fid : FuncId} {args : Value → List Ty} {encs : List (List Ty)} {xs : List Operand} {ats : Array TypeId} {ss caps : List Ty} {S K mv F : List Nat} {px : Prop} {ok : Nat → Prop} {tgs : Nat → List (Nat × Cont)} {tgx sets : List (Nat × Cont)} {ρ : List (Nat × Nat)} {pre post : Nat → List (Nat × Cont)} {argsF : Nat → List Ty} {go : Nat → Bool}
    (hF : CtrFd P f args encs) (hx : opsTy A fr xs = ss) (hfv : ∀ w M vs, dens w M ss vs → ∃ cs : Array Value, dens w M caps cs.toList ∧ dens w M (args (.func (.func fid) #[] cs)) vs) (hdd : ∀ v, depsOf (args v) = [] ∧ cdepsOf (args v) = [])
    (hex : ∃ fn, P.funcs[fid]? = some fn ∧ (fn.name == "runtime.NumGoroutine") = false ∧ fn.body.isNone = false)
    (hG : ∀ k, ok k → k < encs.length → CtrG P fid F (pre k) (argsF k) (post k) (Ty.bool (go k)))
    (hdk : disj (depsOf caps) K = true) (hds : disj (cdepsOf caps) S = true) (hcz : inZ (depsOf caps) = true)
    (hr : reOk ρ = true) (hmv : ∀ x ∈ ρ, x.1 ∈ mv ∨ x.2 ∈ F) (hmr : ∀ t ∈ mv, ∃ g, (t, g) ∈ ρ) (hS : ∀ t ∈ ρ.map Prod.fst, t ∈ S ∧ t < Zt) (hK : ∀ t ∈ mv, t ∈ K ∧ t < Zt)
    (hpub : ∀ tys ∈ encs, depsOf tys = [] ∧ cdepsOf tys = [])
    (harg : ∀ k tys, encs[k]? = some tys → Convs ρ (tys ++ caps) (argsF k))
    (hpre : ∀ k, PreCs ⟨anyT, tgs k⟩ ρ (pre k))
    (hpost1 : ∀ k, ok k → go k = true → PostCs (post k) ρ (tgs (k + 1))) (hpostx : ∀ k, ok k → go k = false → PostCs (post k) ρ tgx)
    (hok0 : ok 0) (hok1 : ∀ k, ok k → k < encs.length → go k = true → ok (k + 1)) (hokx : ∀ k, ok k → k < encs.length → go k = false → px)
    (htk : ∀ k, tagsOk (tgs k) = true) (htx : tagsOk tgx = true) (hc0 : allTags A (tgs 0)) (hS1 : ∀ t ∈ S, 1 ≤ t) (hK1 : ∀ t ∈ K, 1 ≤ t ∧ t ∉ fr.pass)
    (hout : ∀ x ∈ sets, x.1 ∈ S ∨ x.1 ∈ K) (hts : tagsOk sets = true) (hend : ok encs.length → ∀ w M, (∀ x ∈ tgs encs.length, x.2.den w M x.1) → ∀ x ∈ sets, x.2.den w M x.1) (hendx : px → ∀ w M, (∀ x ∈ tgx, x.2.den w M x.1) → ∀ x ∈ sets, x.2.den w M x.1) :
    OpT P fr ops ⟨dst, .call ⟨.value (.func f), xs.toArray, ats⟩, t, p, e, none⟩ A { d := dst, ty := Ty.any, S := S, K := K, sets := sets, rs := xs.flatMap opR, rt := A.tags.map Prod.fst } := by
  refine ⟨rfl, hout, hS1, hK1, fun a w M wf hsz hrd htg => ?_⟩
  rw [if_pos (by simp [Region.wanted])]
  have hvs : dens w M ss (xs.map a.eval) := hx ▸ opsTy_dens (rs := xs.flatMap opR) hrd fun x hx c hc => List.mem_flatMap.2 ⟨x, hx, hc⟩
  obtain ⟨cs, hcs, hav⟩ := hfv w M _ hvs
  have wfz := foldZ_wf wf
  have hzz : ZOk (foldZ M) := fun b u h hu => by have := foldZ_u h; omega
  have hle : Le (fun t => Zt ≤ t) (fun t => Zt ≤ t) w M w (foldZ M) := ⟨Nat.le_refl _, rfl, rfl, rfl, fun b _ hm => ⟨foldZ_none hm, rfl⟩, fun b u hm hk => ⟨foldZ_lt hm (Nat.lt_of_not_le hk), fun _ => rfl⟩⟩
  have hlt : ∀ b u, foldZ M b = some u → u < Zt := fun b u h => foldZ_u h
  have hcs' : dens w (foldZ M) caps cs.toList := dens_mono (S := fun _ => False) (K := fun t => Zt ≤ t) ⟨Nat.le_refl _, rfl, rfl, rfl, hle.pub, fun b u hm hk => ⟨(hle.own b u hm hk).1, fun _ => rfl⟩⟩ (fun t ht hz => by have := (inZ_spec hcz t ht).2; omega) (fun _ _ h => h) hcs
  have htg0 : ∀ x ∈ tgs 0, x.2.den w (foldZ M) x.1 := fun x hx => by
    obtain ⟨C, hC, hsub⟩ := allTags_get hc0 x hx
    have hm := tag_mem hC
    obtain ⟨⟨_, e2⟩, e3, e4⟩ := tagsOk_spec (htk 0) x hx
    refine x.2.mono (S := fun _ => False) (K := fun t => Zt ≤ t) ⟨Nat.le_refl _, rfl, rfl, rfl, hle.pub, fun b u hm hk => ⟨(hle.own b u hm hk).1, fun _ => rfl⟩⟩ (fun t ht hz => by have := (e3 t ht).2; omega) (fun _ _ h => h) (fun h => h) (by omega) (hsub _ _ _ (htg _ hm (List.mem_map.2 ⟨_, hm, rfl⟩)))
  have hfnd := fnd_of (P := P) (px := px) (ok := ok) (w1 := w) (M1 := foldZ M) hex hG hcs' hdk hds hr hmv hmr hS hK hpub harg hpre hpost1 hpostx hok1 hokx
  have hcall := hF.2 _ _ _ (fun k => JF_cb hlt (htk k)) (JF_cb hlt htx) hfnd w (foldZ M) _ wfz hzz (conv_nodeps (fun b h => foldZ_none h) (hdd _).1 (hdd _).2 hav) ⟨hok0, Le.refl _ _ _ _, htg0⟩
  have hrun : (execOp a.eval ⟨dst, .call ⟨.value (.func f), xs.toArray, ats⟩, t, p, e, none⟩).run P w = .ok (.enter f (xs.map a.eval).toArray) w := by
    obtain ⟨⟨fn, hf, hn, hb⟩, _⟩ := hF
    have hn' : fn.name ≠ "runtime.NumGoroutine" := by simpa using hn
    have hb' : fn.body ≠ none := fun h => by rw [h] at hb; cases hb
    simp [execOp, resolve, Act.eval, Deferred.ofValue, invoke, callFunc, hf, hn', hb']
  refine wp_in_enter hrun (hcall.mono fun en w' ⟨r, M', he, wf', z', leZ, hor⟩ => ?_)
  -- what holds in either case
  have key : Le (· ∈ S) (· ∈ K) w (foldZ M) w' M' ∧ ∀ x ∈ sets, x.2.den w' M' x.1 := by
    rcases hor with ⟨h1, h2, h3⟩ | ⟨h1, h2, h3⟩
    · exact ⟨h2, hend h1 _ _ h3⟩
    · exact ⟨h2, hendx h1 _ _ h3⟩
  obtain ⟨kl, ks⟩ := key
  have kept : ∀ b u, M b = some u → Zt ≤ u → backZ w M M' b = some u := fun b u h hu => by unfold backZ; rw [h]; simp [wf.lt b u h, hu]
  have other : ∀ b, (∀ u, M b = some u → u < Zt) → backZ w M M' b = foldZ M' b := fun b h => by
    unfold backZ
    cases hm : M b with
    | none => rfl
    | some u => have := h u hm; simp only; rw [if_neg (by omega)]
  have high : ∀ b u, M b = some u → Zt ≤ u → M' b = some 0 ∧ w'.heap[b]? = w.heap[b]? := fun b u h hu => by
    obtain ⟨a1, c1⟩ := kl.own b 0 (foldZ_ge h hu) (fun h => by have := (hK1 0 h).1; omega)
    exact ⟨a1, c1 (fun h => by have := hS1 0 h; omega)⟩
  have wf2 : Wf w' (backZ w M M') := by
    refine ⟨fun b u h => ?_, fun b b' u ht1 h h' => ?_, wf.amb.of fun b hb hm => ?_⟩
    · unfold backZ at h
      split at h
      · split at h
        · rename_i hc; exact Nat.lt_of_lt_of_le hc.1 kl.size
        · exact (foldZ_wf wf').lt b u h
      · exact (foldZ_wf wf').lt b u h
    · have part : ∀ b, backZ w M M' b = some (u + 1) → foldZ M' b = some (u + 1) := fun b h => by
        unfold backZ at h
        split at h
        · split at h
          · injection h with h
            rename_i v hc hcc
            subst h
            exact absurd hcc.2 (by have : Zt = 1000000 := rfl; omega)
          · exact h
        · exact h
      exact (foldZ_wf wf').inj b b' u ht1 (part b h) (part b' h')
    · obtain ⟨a1, c1⟩ := kl.pub b hb (foldZ_none hm)
      exact ⟨by rw [other b (fun u hu => by rw [hm] at hu; cases hu)]; exact foldZ_none a1, c1⟩
  have le2 : Le (· ∈ S) (· ∈ K) w M w' (backZ w M M') := by
    refine ⟨kl.size, kl.os, kl.tape, kl.out, fun b hb hm => ?_, fun b u hm hk => ?_⟩
    · obtain ⟨a1, c1⟩ := kl.pub b hb (foldZ_none hm)
      exact ⟨by rw [other b (fun u hu => by rw [hm] at hu; cases hu)]; exact foldZ_none a1, c1⟩
    · rcases Nat.lt_or_ge u Zt with hu | hu
      · obtain ⟨a1, c1⟩ := kl.own b u (foldZ_lt hm hu) hk
        exact ⟨by rw [other b (fun v hv => by rw [hm] at hv; injection hv with hv; omega)]; exact foldZ_lt a1 hu, c1⟩
      · exact ⟨kept b u hm hu, fun _ => (high b u hm hu).2⟩
  refine ⟨r, he, r, rfl, _, wf2, le2, trivial, fun x hx => ?_⟩
  obtain ⟨⟨e1, e2⟩, e3, e4⟩ := tagsOk_spec hts x hx
  refine x.2.mono (w := w') (M := M') (S := fun _ => False) (K := fun u => Zt ≤ u ∨ u = 0) ⟨Nat.le_refl _, rfl, rfl, rfl, fun b hb hm => ⟨?_, rfl⟩, fun b u hm hk => ⟨?_, fun _ => rfl⟩⟩ (fun u hu hz => by have := e3 u hu; omega) (fun _ _ h => h) (fun h => h) (by omega) (ks x hx)
  · rcases hmb : M b with _ | v
    · rw [other b (fun u hu => by rw [hmb] at hu; cases hu)]; exact foldZ_none hm
    · rcases Nat.lt_or_ge v Zt with hv | hv
      · rw [other b (fun u hu => by rw [hmb] at hu; injection hu with hu; omega)]; exact foldZ_none hm
      · have := (high b v hmb hv).1; rw [this] at hm; cases hm
  · have hu : u < Zt := Nat.lt_of_not_le fun h => hk (.inl h)
    rcases hmb : M b with _ | v
    · rw [other b (fun u hu => by rw [hmb] at hu; cases hu)]; exact foldZ_lt hm hu
    · rcases Nat.lt_or_ge v Zt with hv | hv
      · rw [other b (fun u hu => by rw [hmb] at hu; injection hu with hu; omega)]; exact foldZ_lt hm hu
      · have := (high b v hmb hv).1
        rw [this] at hm
        injection hm with hm
        exact absurd (.inr hm.symm) hk
theorem r_op {o : Oper} {f : Fx} (h' : OpT P fr ops o A f) (h : TOps P fr ops rest (A.after f) fun A' l' => K' A' ((A, f) :: l')) : TOps P fr ops (o :: rest) A K' := ⟨f, h', h⟩
end
end Go.T

namespace Go.T
open Go Go.RowKit
section
variable {P : Program} {fr : Fr} {ops : Array Oper} {A : As} {rest : List Oper} {K : As → List (As × Fx) → Prop} {d : Nat} {t ty' : TypeId} {p : String} {e : Array Edge} {x y : Operand} {ti te ts : TI} {el tg : Nat} [T : Tab P]
theorem r_convRS {src : TypeId} {a : Byt} (hx : A.op fr x = .row UB el tg a) (hS : T.tab[src]? = some ts) (hks : ts.k = .slice el) (hT : T.tab[ty']? = some ti) (hk : ti.k = .string) (hu : P.underlying el = some (.int .u8))
    (h : TOps P fr ops rest (A.set d (.str (bs a))) fun A' l' => K A' ((A, { d := some d, ty := .str (bs a), rs := opR x }) :: l')) : TOps P fr ops (⟨some d, .convert src ty' x, t, p, e, none⟩ :: rest) A K :=
  tops_pure (opT_pure rfl rfl fun ac w M wf hr _ => by
    have hdx := op_den (x := x) (fun _ h => h) hr
    rw [hx] at hdx
    obtain ⟨_, D, _, hD, hkd, _⟩ := tab_info hS
    rw [hks] at hkd
    cases D <;> simp only [TK.of, reduceCtorEq, TK.slice.injEq] at hkd
    subst hkd
    obtain ⟨cs, hown, hd, hM⟩ := hdx
    rcases hown.2 with ⟨ex, h0⟩ | ⟨g, cap, cur, ex, _, hh, hn, hm, hsz, htk⟩
    · have ha : a = [] := List.length_eq_zero_iff.1 h0
      subst ha
      refine ⟨.string (bs []), ?_, rfl⟩
      simp only [execOp, ex, Sem.run_bind, run_convert_bytes_string w src ty' _ none 0 0 hD hu (tab_string hT hk)]
      rfl
    · have hrun := run_convert_bytes_back (P := P) w src ty' _ ⟨g, 0, none⟩ cap a hD hu (tab_string hT hk) (fun j hj => by
        rw [Addr.add_lit]
        have hj2 : j < a.length := hj
        obtain ⟨u, hu, hdu⟩ := dens_get hd (j * 1 + 0) _ (flat_elem UB a hj2 0 (Ty.int .u8 ((nth a j).toNat : Int)) rfl)
        have hu2 : u = .int .u8 ((nth a j).toNat : Int) := hdu
        subst hu2
        rw [← htk, List.getElem?_take] at hu
        split at hu
        · rw [Nat.mul_one, Nat.add_zero] at hu
          rw [nth_lt hj2] at hu
          simpa [World.cell?, hh] using hu
        · cases hu)
      exact ⟨.string (bs a), by simp only [execOp, ex, Sem.run_bind, hrun]; rfl, rfl⟩) h
theorem r_loadFact {D off Tb : Nat} {l tys : List Ty} {vs : List Value} {v : Value} {ty : Ty} {h1 : depsOf tys = []} {h2 : cdepsOf tys = []} (tg : Nat) (hx : A.op fr x = .ptr D off) (hc : A.tag D = some (.cells Tb l)) (hD : Tag1 D) (hT : T.tab[ty']? = some ti) (ha : ti.k.agg = false) (hl : l[off]? = some (.ex v)) (hv : A.tag tg = some (Cont.fact tys vs h1 h2)) (hvs : vs[off]? = some v) (hty : tys[off]? = some ty)
    (h : TOps P fr ops rest (A.set d ty) fun A' l => K A' ((A, { d := some d, ty := ty, rs := opR x, rt := [D, tg] }) :: l)) : TOps P fr ops (⟨some d, .load ty' x, t, p, e, none⟩ :: rest) A K :=
  tops_pure (opT_pure rfl rfl fun a w M wf hr ht => by
    have := op_den (x := x) (fun _ h => h) hr
    rw [hx] at this
    obtain ⟨b, hb, e⟩ := this
    obtain ⟨u, hu, hd⟩ := own_cell wf hD hb (ht _ (tag_mem hc) (by simp)) hl
    have hd : u = v := hd
    subst hd
    have hf : dens w M tys vs := ht _ (tag_mem hv) (by simp)
    obtain ⟨u2, hu2, hd2⟩ := dens_get hf off ty hty
    rw [hvs] at hu2
    injection hu2 with hu2
    subst hu2
    exact ⟨u, by simp [execOp, e, run_load1 hT ha hu], hd2⟩) h
theorem r_loadFactN {D Tb : Nat} {tys : List Ty} {vs : List Value} {h1 : depsOf tys = []} {h2 : cdepsOf tys = []} (tg : Nat) (hx : A.op fr x = .ptr D 0) (hc : A.tag D = some (.cells Tb (vs.map Ty.ex))) (hD : Tag1 D) (hT : T.tab[ty']? = some ti) (ha : ti.k.agg = true) (hl : vs.length = ti.size) (hv : A.tag tg = some (Cont.fact tys vs h1 h2))
    (h : TOps P fr ops rest (A.set d (.agg tys)) fun A' l => K A' ((A, { d := some d, ty := .agg tys, rs := opR x, rt := [D, tg] }) :: l)) : TOps P fr ops (⟨some d, .load ty' x, t, p, e, none⟩ :: rest) A K :=
  tops_pure (opT_pure rfl rfl fun a w M wf hr ht => by
    have := op_den (x := x) (fun _ h => h) hr
    rw [hx] at this
    obtain ⟨b, hb, e⟩ := this
    obtain ⟨b', cs, hb', hh, hd⟩ := ht _ (tag_mem hc) (by simp)
    obtain ⟨u, rfl⟩ : ∃ u, D = u + 1 := ⟨D - 1, by have := hD.1; omega⟩
    have := wf.inj b b' u hD.2 hb hb'
    subst this
    have hcs := dens_ex_eq hd
    have hf : dens w M tys vs := ht _ (tag_mem hv) (by simp)
    have hload := run_loadN (P := P) hT ha (w := w) (b := b) (off := 0) (cs := vs) hl fun j v hj => by
      rw [← hcs] at hj
      simpa [World.cell?, hh] using hj
    exact ⟨.agg vs.toArray, by simp [execOp, e, hload], _, rfl, by simpa using hf⟩) h
omit T in
theorem r_box_own1 {ty : Ty} (hx : A.op fr x = ty) (h1 : ty.one = true) (hp : fr.pass.contains (d + 1) = false) (hdp : disj ty.deps [d + 1] = true)
    (h : TOps P fr ops rest (A.after { d := some d, ty := .ptr (d + 1) 0, K := [d + 1], sets := [(d + 1, .cells ty' [ty])], rs := opR x }) fun A' l' => K A' ((A, { d := some d, ty := .ptr (d + 1) 0, K := [d + 1], sets := [(d + 1, .cells ty' [ty])], rs := opR x }) :: l')) :
    TOps P fr ops (⟨some d, .box ty' x, t, p, e, none⟩ :: rest) A K := by
  refine ⟨_, opT_mem rfl rfl (by simp) (by simp) (by simp at hp ⊢; exact hp) fun a w M wf hr _ => ?_, h⟩
  have hd := op_den (x := x) (fun _ h => h) hr
  rw [hx] at hd
  have hone := ty.isOne h1 hd
  have hcells : (a.eval x).cells = #[a.eval x] := by
    cases hv : a.eval x <;> first | rfl | (rw [hv] at hone; simp [Value.oneCell'] at hone)
  obtain ⟨h1, h2, h3⟩ := le_alloc wf (.cells #[a.eval x] ty') (d + 1)
  refine ⟨.pointer (some ⟨w.heap.size, 0, none⟩), w.alloc (.cells #[a.eval x] ty'), ?_, _, h1, h2, ⟨_, h3, rfl⟩, ?_⟩
  · simp [execOp, Instr.box, newVar, newRow, newObj, Sem.run, hcells]
  · intro x hx
    simp only [List.mem_singleton] at hx
    subst hx
    exact ⟨w.heap.size, #[a.eval _], h3, alloc_new _ _, ty.mono h2 (disj_spec hdp) (by intro _ _ h; cases h) hd, trivial⟩
end
section
variable {P : Program} {fr : Fr} {A : As} {Q : Exit → Act → World → Prop} {c : Code}
theorem t_factTo (tg' : Nat) {tg : Nat} {tys tys' : List Ty} {vs : List Value} {h1 : depsOf tys = []} {h2 : cdepsOf tys = []} (h3 : depsOf tys' = []) (h4 : cdepsOf tys' = []) (hf : A.tag tg = some (Cont.fact tys vs h1 h2)) (hs : ∀ w M, dens w M tys vs → dens w M tys' vs)
    (h : Tri P fr c ⟨A.slots, (tg', Cont.fact tys' vs h3 h4) :: A.tags⟩ Q) : Tri P fr c A Q := by
  intro a w ⟨M, ok, hsl, htg⟩
  refine h a w ⟨M, ok, hsl, fun x hx => ?_⟩
  rcases List.mem_cons.1 hx with rfl | hx
  · have : dens w M tys vs := htg _ (tag_mem hf)
    exact hs _ _ this
  · exact htg x hx
end
end Go.T

namespace Go.Proofs.YtjjndkenddigiaaDoor
open Go Go.T
set_option maxHeartbeats 2000000
def finC (text : Byt) (fv : Value) : List Ty := [Ty.pp [Ty.str (bs text), Ty.ex fv]]
structure FIx (f : BForm) (text : Byt) (L0 : List (Byt × Rdr)) where
  s : Byt
  p : Rdr
  ok : RdrOk f p
  le : s.length ≤ text.length
  same : filS f p s (text.drop s.length) = L0
theorem cv_rdr {ρ : List (Nat × Nat)} {f : BForm} {p : Rdr} {a b : Nat} (h : (a, b) ∈ ρ) : Conv ρ (Ty.agg (rdrT f p a)) (Ty.agg (rdrT f p b)) :=
  cv_agg (cv_cons (cv_cons (cv_cons (cv_cons (cv_cons (cv_cons (cv_cons (cv_cons (cv_cons (cv_cons (cv_cons (cv_cons cv_nil (cv_pub rfl rfl)) (cv_row h)) (cv_pub rfl rfl)) (cv_pub rfl rfl)) (cv_pub rfl rfl)) (cv_pub rfl rfl)) (cv_pub rfl rfl)) (cv_pub rfl rfl)) (cv_pub rfl rfl)) (cv_pub rfl rfl)) (cv_pub rfl rfl)) (cv_pub rfl rfl))
theorem cc_rdrP {ρ : List (Nat × Nat)} {a b T : Nat} {f : BForm} {p : Rdr} {l : List Ty} (h : (a, b) ∈ ρ) (e : l = rdrPl f p) : ConvC ρ a (.cells T l) b (.cells T (rdrPl f p)) := by
  subst e
  exact cc_cells_eq h rfl rfl rfl
theorem fi_end {f : BForm} {text : Byt} {L0 : List (Byt × Rdr)} (x : FIx f text L0) (h : ¬ (x.s.length : Int) < (text.length : Int)) : L0 = if wholeR x.p = true then [(x.s, x.p)] else [] := by
  have e : text.drop x.s.length = [] := List.drop_of_length_le (by omega)
  have := x.same
  rw [e, fil_nil] at this
  exact this.symm
theorem fi_stop {f : BForm} {text : Byt} {L0 : List (Byt × Rdr)} (x : FIx f text L0) (h : x.s.length < text.length) (h2 : ¬ ((nth text x.s.length).toNat : Int) = 63) (h3 : ¬ nth text x.s.length ∈ canR f x.p) : L0 = [] := by
  rw [← x.same, drop_cons' h]
  exact fil_stop (fun e => h2 (by rw [e]; rfl)) h3
def FIx.next {f : BForm} {text : Byt} {L0 : List (Byt × Rdr)} (x : FIx f text L0) (h : x.s.length < text.length) (h2 : ¬ ((nth text x.s.length).toNat : Int) = 63) (h3 : nth text x.s.length ∈ canR f x.p) : FIx f text L0 :=
  ⟨x.s ++ [nth text x.s.length], nextR f x.p (nth text x.s.length), next_ok x.ok h3, by simp; omega, by
    have h0 := x.same
    rw [drop_cons' h, fil_step (fun e => h2 (by rw [e]; rfl)) h3] at h0
    simpa using h0⟩
theorem fi_torn {f : BForm} {text : Byt} {L0 : List (Byt × Rdr)} (x : FIx f text L0) (h : x.s.length < text.length) (h2 : ((nth text x.s.length).toNat : Int) = 63) : filS f x.p x.s (63 :: text.drop (x.s.length + 1)) = L0 := by
  have e : nth text x.s.length = 63 := UInt8.toNat_inj.1 (by show _ = 63; omega)
  have h0 := x.same
  rw [drop_cons' h, e] at h0
  exact h0
theorem fi_sub {f : BForm} {text : Byt} {L0 AL : List (Byt × Rdr)} {m0 : Nat} (x : FIx f text L0) (h : x.s.length < text.length) (h2 : ((nth text x.s.length).toNat : Int) = 63) (hp : L0 <+: AL.drop m0) {k : Nat} (hk : k < (canR f x.p).length) :
    filS f (nextR f x.p (nth (canR f x.p) k)) (x.s ++ [nth (canR f x.p) k]) (text.drop (x.s ++ [nth (canR f x.p) k]).length) <+: AL.drop (m0 + (upF f x.p x.s (text.drop (x.s.length + 1)) k).length) := by
  have h1 := up_pre (f := f) (p := x.p) (s := x.s) (t := text.drop (x.s.length + 1)) hk
  rw [fi_torn x h h2] at h1
  have := pre_drop (List.IsPrefix.trans h1 hp)
  simpa using this
theorem fi_up {f : BForm} {text : Byt} {L0 : List (Byt × Rdr)} {m0 : Nat} (x : FIx f text L0) {k : Nat} (hk : k < (canR f x.p).length) :
    m0 + (upF f x.p x.s (text.drop (x.s.length + 1)) k).length + (filS f (nextR f x.p (nth (canR f x.p) k)) (x.s ++ [nth (canR f x.p) k]) (text.drop (x.s ++ [nth (canR f x.p) k]).length)).length = m0 + (upF f x.p x.s (text.drop (x.s.length + 1)) (k + 1)).length := by
  rw [up_succ hk, List.length_append]; simp; omega
theorem plain_UB : ∀ x : UInt8, ∀ t ∈ UB.tys x, t.Plain := fun x t ht => by
  rw [show t = Ty.int .u8 (x.toNat : Int) from List.mem_singleton.1 ht]; exact plain_int _ _
attribute [local irreducible] figC canR numF digF' pushN letB lineB figR nextR stepQ sumL wholeR filS upF fillR
attribute [local irreducible] dInt dBool dSl dPp dPtr dAgg dTup dClo dAny dEx dStr dGd dCells dVec dVs dRow dOp nth Tri Into TOps Ctr bodyPost Exit.then Exit.inBlock Code.wp Code.wpIn dPa dArr dMp dMap CtrG keepPost iterPost bodyPostM roundQ
set_option maxRecDepth 100000 in
theorem k_Clone_rows (l : List BRow) (h : l.length ≤ 1000) : CtrG Tryd.prog 97 [] [] [Ty.sl BRowE l] [] (Ty.row BRowE 86 6 l) := by
  refine fnG_intro Tryd.func97 rfl (by decide) Tryd.ntmps97 (by exact Nat.le_of_ble_eq_true rfl) fun w0 M0 => ?_
  refine t_seq ?_
  refine t_region ?_
  refine asX rfl ?_
  refine r_nil ?_
  refine i_then ?_
  refine t_seq ?_
  refine t_seq ?_
  refine t_region ?_
  refine mvS rfl ?_
  refine r_eqnil und28 rfl ?_
  refine r_nil ?_
  refine i_then ?_
  refine t_cond_nb rfl (fun hc1 => ?_) (fun hc1 => ?_)
  ·
    refine t_seq ?_
    refine t_region ?_
    refine asX rfl ?_
    refine r_nil ?_
    refine i_then ?_
    refine t_ret ?_
    refine i_then_ret ?_
    refine g_ret1 [6] rfl rfl (by decide) (by repeat (exact rc_nil)) ?_
    all_goals skip
    all_goals (obtain rfl : l = [] := hc1; exact rg_cv cv_nilrow)
  ·
    refine t_skip ?_
    refine i_then ?_
    refine t_seq ?_
    refine t_region ?_
    refine r_buildRow (E := BRowE) rfl rfl rfl rfl ?_
    refine mvS rfl ?_
    refine r_append rfl rfl (by decide) rfl rfl rfl rfl rfl rfl (by decide) (by (simp <;> omega)) (by (simp <;> omega)) ?_
    refine asR rfl ?_
    refine r_nil ?_
    refine i_then ?_
    refine t_ret ?_
    refine g_ret1 [6] rfl rfl (by decide) (by repeat (exact rc_nil)) ?_
    all_goals skip
    all_goals exact rg_cv (cv_row (by decide))
set_option maxRecDepth 100000 in
theorem k_Clone_u8 (l : Byt) (h : l.length ≤ 65536) : CtrG Tryd.prog 98 [] [] [Ty.sl UB l] [] (Ty.row UB 5 6 l) := by
  refine fnG_intro Tryd.func98 rfl (by decide) Tryd.ntmps98 (by exact Nat.le_of_ble_eq_true rfl) fun w0 M0 => ?_
  refine t_seq ?_
  refine t_region ?_
  refine asX rfl ?_
  refine r_nil ?_
  refine i_then ?_
  refine t_seq ?_
  refine t_seq ?_
  refine t_region ?_
  refine mvS rfl ?_
  refine r_eqnil und27 rfl ?_
  refine r_nil ?_
  refine i_then ?_
  refine t_cond_nb rfl (fun hc1 => ?_) (fun hc1 => ?_)
  ·
    refine t_seq ?_
    refine t_region ?_
    refine asX rfl ?_
    refine r_nil ?_
    refine i_then ?_
    refine t_ret ?_
    refine i_then_ret ?_
    refine g_ret1 [6] rfl rfl (by decide) (by repeat (exact rc_nil)) ?_
    all_goals skip
    all_goals (obtain rfl : l = [] := hc1; exact rg_cv cv_nilrow)
  ·
    refine t_skip ?_
    refine i_then ?_
    refine t_seq ?_
    refine t_region ?_
    refine r_buildRow (E := UB) rfl rfl rfl rfl ?_
    refine mvS rfl ?_
    refine r_append rfl rfl (by decide) rfl rfl rfl rfl rfl rfl (by decide) (by (simp <;> omega)) (by (simp <;> omega)) ?_
    refine asR rfl ?_
    refine r_nil ?_
    refine i_then ?_
    refine t_ret ?_
    refine g_ret1 [6] rfl rfl (by decide) (by repeat (exact rc_nil)) ?_
    all_goals skip
    all_goals exact rg_cv (cv_row (by decide))
set_option maxRecDepth 100000 in
theorem k_canP (f : BForm) (p : Rdr) : CtrG Tryd.prog 91 [1000] [(1000, Cont.cells 140 (rdrPl f p))] [Ty.ptr 1000 0] [(1000, Cont.cells 140 (rdrPl f p))] (Ty.clo 108 [Ty.pp [Ty.ptr 1000 0]]) := by
  refine fnG_intro Tryd.func91 rfl (by decide) Tryd.ntmps91 (by exact Nat.le_of_ble_eq_true rfl) fun w0 M0 => ?_
  refine t_seq ?_
  refine t_region ?_
  refine r_box_one (ty := Ty.ptr 1000 0) rfl rfl ?_
  refine asX rfl ?_
  refine r_nil ?_
  refine i_then ?_
  refine t_seq ?_
  refine t_region ?_
  refine r_makeFunc rfl ?_
  refine asF rfl ?_
  refine r_nil ?_
  refine i_then ?_
  refine t_ret ?_
  refine g_ret1 [1000] rfl rfl (by decide) ?_ ?_
  exact rc_cons rfl (cc_rdrP (by decide) rfl) rc_nil
  all_goals skip
  all_goals exact rg_cv (cv_clo (cv_cons cv_nil (cv_pp (cv_cons cv_nil (cv_ptr (by decide))))))
set_option maxRecDepth 100000 in
theorem c_wholeP (f : BForm) (p : Rdr) : Ctr Tryd.prog 56 [Ty.pp (rdrPl f p)] (Ty.bool (wholeR p)) := by
  refine fn_intro Tryd.func56 rfl (by decide) Tryd.ntmps56 (by exact Nat.le_of_ble_eq_true rfl) fun w0 M0 => ?_
  refine t_seq ?_
  refine t_region ?_
  refine asB rfl ?_
  refine r_nil ?_
  refine i_then ?_
  refine t_seq ?_
  refine t_region ?_
  refine mvP rfl ?_
  refine r_nilCheck_pp rfl ?_
  refine r_field_pp rfl rfl rfl rfl rfl (by decide) ?_
  refine r_field_pp rfl rfl rfl rfl rfl (by decide) ?_
  refine r_load_pp rfl rfl rfl rfl ?_
  refine mvB rfl ?_
  apply r_guard (s := 8) rfl rfl rfl
  · intro hg; apply opT_of; (refine mvP rfl ?_); refine r_nil ?_; exact rfl
  · exact rfl
  · exact rfl
  apply r_guard (s := 8) rfl rfl rfl
  · intro hg; apply opT_strip (s := 9) rfl (by (rw [hg]; rfl)); apply opT_of; (refine r_nilCheck_pp rfl ?_); refine r_nil ?_; exact rfl
  · exact rfl
  · exact rfl
  apply r_guard (s := 8) rfl rfl rfl
  · intro hg; apply opT_strip (s := 10) rfl (by (rw [hg]; rfl)); apply opT_of; (refine r_field_pp rfl rfl rfl rfl rfl (by decide) ?_); refine r_nil ?_; exact rfl
  · exact rfl
  · exact rfl
  apply r_guard (s := 8) rfl rfl rfl
  · intro hg; apply opT_strip (s := 11) rfl (by (rw [hg]; rfl)); apply opT_of; (refine r_load_pp rfl rfl rfl rfl ?_); refine r_nil ?_; exact rfl
  · exact rfl
  · exact rfl
  apply r_guard (s := 8) rfl rfl rfl
  · intro hg; apply opT_strip (s := 12) rfl (by (rw [hg]; rfl)); apply opT_of; (refine r_eqlS rfl rfl ?_); refine r_nil ?_; exact rfl
  · exact rfl
  · exact rfl
  refine r_and rfl rfl ?_
  refine asB rfl ?_
  refine r_nil ?_
  refine i_then ?_
  refine t_ret ?_
  refine i_rp1 rfl rfl ?_
  all_goals skip
  all_goals exact ret_eq rfl rfl (congrArg Ty.bool (whole_eq p))
set_option maxRecDepth 100000 in
theorem c_fillS (f : BForm) (text : Byt) (hl : text.length ≤ 65536) (AL : List (Byt × Rdr)) (fv : Value) (J : Nat → World → Tags → Prop) (Jx : World → Tags → Prop) (hJ : ∀ k, Cb (J k)) (hJx : Cb Jx) (hF : FndC Tryd.prog fv (AL.map (encF f)) J Jx) (s : Byt) (p : Rdr) (m0 : Nat) (ho : RdrOk f p) (hs : s.length ≤ text.length) (hp : filS f p s (text.drop s.length) <+: AL.drop m0) (ih : ∀ (s' : Byt) (p' : Rdr) (k' : Nat), text.length - s'.length < text.length - s.length → s'.length ≤ text.length → RdrOk f p' → filS f p' s' (text.drop s'.length) <+: AL.drop k' → MoreF Tryd.prog 96 147 (finC text fv) [Ty.row UB 5 1002 s', Ty.agg (rdrT f p' 1003)] (J k') (J (k' + (filS f p' s' (text.drop s'.length)).length)) Jx) : MoreF Tryd.prog 96 147 (finC text fv) [Ty.row UB 5 1002 s, Ty.agg (rdrT f p 1003)] (J (m0)) (J (m0 + (filS f p s (text.drop s.length)).length)) Jx := by
  refine moreF_intro (hJ (m0)) Tryd.func96 rfl (by decide) Tryd.ntmps96 (by exact Nat.le_of_ble_eq_true rfl) rfl rfl fun w0 Mc g own cs0 wf0 z0 how0 hg0 hh0 => ?_
  refine t_seq ?_
  refine t_region ?_
  refine r_box_own1 (ty := Ty.row UB 5 1002 s) rfl rfl rfl rfl ?_
  refine r_box_own rfl rfl rfl ?_
  refine r_alloc rfl (by exact List.cons_ne_nil _ _) rfl ?_
  refine r_nil ?_
  refine i_then ?_
  refine t_seq ?_
  refine t_seq ?_
  refine t_region ?_
  refine r_load_ptr rfl rfl (by decide) rfl rfl rfl ?_
  refine r_len_row rfl rfl rfl ?_
  refine asI rfl ?_
  refine r_nil ?_
  refine i_then ?_
  refine t_block ?_
  refine t_loop (fun (x : {x : FIx f text (filS f p s (text.drop s.length)) // s.length ≤ x.s.length}) => live [(2, Ty.pp [Ty.str (bs text), Ty.ex fv]), (3, Ty.ptr 1000 0), (4, Ty.ptr 5 0), (5, Ty.ptr 6 0), (6, Ty.ptr 7 0), (7, Ty.int .i64 (x.1.s.length : Nat))] [(5, Cont.cells 27 [Ty.row UB 5 1002 x.1.s]), (6, Cont.cells 140 (rdrT f x.1.p 1003)), (7, Cont.cells 4 [Ty.bool false]), (7000, Cont.ck (hJ m0)), (1000, Cont.cells 147 [Ty.ex (.func (.func 96) #[] (cs0 ++ [gp g]).toArray)]), (1001, Cont.me g 147 (.func (.func 96) #[] (cs0 ++ [gp g]).toArray) (finC text fv) cs0 rfl rfl), (5000, Cont.snap w0 (oldF Mc g own))]) (fun x => text.length - x.1.s.length) (⟨⟨s, p, ho, hs, rfl⟩, Nat.le_refl _⟩) ?_ fun x => ?_
  · (refine Ent.mk' ?_ ?_ <;> (repeat' (first | exact allSub_zero | exact allTags_nil | refine allSub_succ' ?_ (Ty.sub_any _) | refine allSub_succ' ?_ (Ty.sub_refl _) | refine allTags_cons rfl (Cont.sub_refl _) ?_)))
    all_goals trace_state
  ·
    have hxl := x.1.le
    have hxs := x.2
    have hlp := x.1.ok.len
    refine t_seq ?_
    refine t_seq ?_
    refine t_region ?_
    refine mvI rfl ?_
    refine r_field_pp rfl rfl rfl rfl rfl (by decide) ?_
    refine r_load_pp rfl rfl rfl rfl ?_
    refine r_lenS rfl rfl rfl ?_
    refine r_bin rfl rfl rfl ?_
    refine r_nil ?_
    refine i_then ?_
    refine t_cond_dec rfl (fun hc1 => ?_) (fun hc1 => ?_)
    ·
      refine t_skip ?_
      refine i_then ?_
      refine t_seq ?_
      refine t_block ?_
      refine t_seq ?_
      have hlt : x.1.s.length < text.length := by omega
      refine t_region ?_
      refine r_field_pp rfl rfl rfl rfl rfl (by decide) ?_
      refine r_load_pp rfl rfl rfl rfl ?_
      refine mvI rfl ?_
      refine r_idxS (i := x.1.s.length) rfl rfl rfl rfl hlt ?_
      refine asI rfl ?_
      refine r_nil ?_
      refine i_then ?_
      refine t_seq ?_
      refine t_seq ?_
      refine t_region ?_
      refine mvI rfl ?_
      refine r_bin rfl rfl rfl ?_
      refine r_nil ?_
      refine i_then ?_
      refine t_cond_ndec rfl (fun hc2 => ?_) (fun hc2 => ?_)
      ·
        refine t_seq ?_
        refine t_seq ?_
        refine t_region ?_
        refine mvI rfl ?_
        refine r_callG [(6, 1000), (1003, 1001)] [1003] [(6, Cont.cells 140 (rdrT f (stepQ f x.1.p (nth text x.1.s.length)) 1003))] (k_step f _ x.1.ok (nth text x.1.s.length)) rfl rfl (by repeat (first | exact cv_nil | refine cv_cons ?_ ?_ | exact cv_ptr List.mem_cons_self | exact cv_pub rfl rfl)) (pre_cons (a := 6) (b := 1000) (by exact List.mem_cons_self) rfl (cc_rdr (by exact List.mem_cons_self) (List.mem_cons_of_mem _ List.mem_cons_self) rfl) pre_nil) (post_cons (a := 6) (b := 1000) (by exact List.mem_cons_self) rfl (cc_rdr (by exact List.mem_cons_self) (List.mem_cons_of_mem _ List.mem_cons_self) rfl) post_nil) (cv_pub rfl rfl) ?_
        refine r_not rfl ?_
        refine r_nil ?_
        refine i_then ?_
        refine t_cond_ndec rfl (fun hc3 => ?_) (fun hc3 => ?_)
        ·
          refine t_seq ?_
          refine t_region ?_
          refine r_store1 rfl rfl (by decide) rfl rfl (by exact (rfl : _ = Ty.bool _)) rfl (by exact Nat.le_of_ble_eq_true rfl) rfl rfl (by exact (rfl : _ = [_])) ?_
          refine r_nil ?_
          refine i_then ?_
          refine t_ret ?_
          refine i_then_ret ?_
          refine i_then_ret ?_
          refine i_block_ret ?_
          refine i_then_ret ?_
          refine i_then_ret ?_
          refine i_block_ret ?_
          refine i_then_ret ?_
          refine m_ret rfl ?_
          exact i_retFt (hj := hJ _) z0 wf0 (congrArg J (by rw [fi_stop x.1 hlt hc2 hc3]; rfl)) hh0 rfl rfl rfl rfl (by decide) rfl rfl rfl rfl rfl
        ·
          refine t_skip ?_
          refine i_then ?_
          refine t_seq ?_
          refine t_asC (tg := 6) (D := Cont.cells 140 (rdrT f (nextR f x.1.p (nth text x.1.s.length)) 1003)) rfl (by rw [stepQ_yes hc3]; exact Cont.sub_refl _) ?_
          refine t_region ?_
          refine r_load_ptr rfl rfl (by decide) rfl rfl rfl ?_
          refine mvI rfl ?_
          refine r_buildSlice (E := UB) (xs := [_]) rfl rfl rfl rfl rfl (by decide) (by decide) (by repeat (first | exact (Parts.nil : Parts _ _ [] _) | (show Parts _ _ ((_, _) :: _) _; apply Parts.one; (· exact (rfl : _ = Ty.int _ _)); (· exact rfl)))) (by exact rfl) rfl ?_
          refine r_append rfl rfl (by decide) rfl rfl rfl rfl rfl rfl (by decide) (by (simp <;> omega)) (by (simp <;> omega)) ?_
          refine r_store1 rfl rfl (by decide) rfl rfl (by exact (rfl : _ = Ty.row _ _ _ _)) rfl (by exact Nat.le_of_ble_eq_true rfl) rfl rfl (by exact (rfl : _ = [_])) ?_
          refine r_nil ?_
          refine i_then ?_
          refine t_exit ?_
          refine i_then_exit ?_
          refine i_block_exit rfl ?_
          refine i_then ?_
          refine t_region ?_
          refine mvI rfl ?_
          refine r_add rfl rfl (by omega) (by omega) ?_
          refine asI rfl ?_
          refine r_nil ?_
          refine i_round (⟨x.1.next hlt hc2 hc3, by show s.length ≤ (x.1.s ++ [_]).length; simp; omega⟩) ?_ (by show text.length - (x.1.s ++ [nth text x.1.s.length]).length < text.length - x.1.s.length; simp; omega)
          (refine Ent.mk' ?_ ?_ <;> (repeat' (first | exact allSub_zero | exact allTags_nil | refine allSub_succ' ?_ (Ty.sub_any _) | refine allSub_succ' ?_ (Ty.sub_refl _) | refine allTags_cons rfl (Cont.sub_refl _) ?_ | refine allSub_succ' ?_ ?_)))
          all_goals skip
          all_goals exact Ty.sub_int (by show ((x.1.s.length : Nat) : Int) + 1 = (((x.1.s ++ [nth text x.1.s.length]).length : Nat) : Int); simp)
      ·
        refine t_skip ?_
        refine i_then ?_
        refine t_seq ?_
        refine t_seq ?_
        refine t_pubC (tg := 1003) [] [(6, Cont.cells 140 (rdrPl f x.1.p))] (by decide) rfl trivial ⟨pubC_cells rfl rfl ⟨pubTy_same rfl, pubTy_same rfl, pubTy_same rfl, pubTy_same rfl, pubTy_same rfl, pubTy_same rfl, pubTy_same rfl, pubTy_same rfl, pubTy_same rfl, pubTy_same rfl, pubTy_row, pubTy_same rfl, trivial⟩, trivial⟩ ?_
        refine t_region ?_
        refine r_callG (res' := Ty.clo 108 [Ty.pp [Ty.ptr 6 0]]) [(6, 1000)] [] [(6, Cont.cells 140 (rdrPl f x.1.p))] (k_canP f x.1.p) rfl rfl (cv_cons cv_nil (cv_ptr (by exact List.mem_cons_self))) (pre_cons (a := 6) (b := 1000) (by exact List.mem_cons_self) rfl (cc_rdrP (by exact List.mem_cons_self) rfl) pre_nil) (post_cons (a := 6) (b := 1000) (by exact List.mem_cons_self) rfl (cc_rdrP (by exact List.mem_cons_self) rfl) post_nil) (cv_clo (cv_cons cv_nil (cv_pp (cv_cons cv_nil (cv_ptr (by exact List.mem_cons_self)))))) ?_
        refine r_nil ?_
        refine i_then ?_
        refine t_name (D := 6) (Tb := 140) (tys := rdrPl f x.1.p) (r := []) rfl rfl rfl (by decide) fun vs hvs => ?_
        obtain ⟨v0, v1, v2, v3, v4, v5, v6, v7, v8, v9, v10, v11, rfl⟩ := twelve hvs rfl
        refine t_factTo 4001 (tg := 4000) (tys := rdrPl f x.1.p) (tys' := rdrPl f x.1.p) (vs := [v0, v1, v2, v3, v4, v5, v6, v7, v8, v9, v10, v11]) rfl rfl rfl (fun _ _ h => h) ?_
        refine t_factTo 4000 (tg := 4001) (tys := rdrPl f x.1.p) (tys' := rdrN f x.1.p v10) (vs := [v0, v1, v2, v3, v4, v5, v6, v7, v8, v9, v10, v11]) rfl rfl rfl (fun _ _ ⟨h0, h1, h2, h3, h4, h5, h6, h7, h8, h9, _, h11⟩ => ⟨h0, h1, h2, h3, h4, h5, h6, h7, h8, h9, (dens_ex [v10]).1, h11⟩) ?_
        refine t_block ?_
        refine t_rangeFuncT (ps := [34]) (lk [(2, Ty.pp [Ty.str (bs text), Ty.ex fv]), (3, Ty.ptr 1000 0), (4, Ty.ptr 5 0), (5, Ty.ptr 6 0), (6, Ty.ptr 7 0)]) (fun k => [(6, Cont.cells 140 [Ty.ex v0, Ty.ex v1, Ty.ex v2, Ty.ex v3, Ty.ex v4, Ty.ex v5, Ty.ex v6, Ty.ex v7, Ty.ex v8, Ty.ex v9, Ty.ex v10, Ty.ex v11]), (4000, Cont.fact (rdrN f x.1.p v10) [v0, v1, v2, v3, v4, v5, v6, v7, v8, v9, v10, v11] rfl rfl), (4001, Cont.fact (rdrPl f x.1.p) [v0, v1, v2, v3, v4, v5, v6, v7, v8, v9, v10, v11] rfl rfl), (5, Cont.cells 27 [Ty.row UB 5 1002 x.1.s]), (7, Cont.cells 4 [Ty.bool false]), (7000, Cont.ck (hJ (m0 + (upF f x.1.p x.1.s (text.drop (x.1.s.length + 1)) k).length))), (1000, Cont.cells 147 [Ty.ex (.func (.func 96) #[] (cs0 ++ [gp g]).toArray)]), (1001, Cont.me g 147 (.func (.func 96) #[] (cs0 ++ [gp g]).toArray) (finC text fv) cs0 rfl rfl), (5000, Cont.snap w0 (oldF Mc g own))]) true [(7, Cont.cells 4 [Ty.bool false]), (7000, Cont.ck hJx), (1001, Cont.me g 147 (.func (.func 96) #[] (cs0 ++ [gp g]).toArray) (finC text fv) cs0 rfl rfl), (5000, Cont.snap w0 (oldF Mc g own))] [7000, 5000, 1000, 1001, 1002, 4000, 4001, 5, 6, 7] rfl rfl ((c_can1 f x.1.p x.1.ok v10 0 6 [v0, v1, v2, v3, v4, v5, v6, v7, v8, v9, v10, v11]).1) (ranges_X (D := 6) (n := 60) (sd := 5) (r := fun k => []) (fun b => c_can1 f x.1.p x.1.ok v10 b 6 [v0, v1, v2, v3, v4, v5, v6, v7, v8, v9, v10, v11]) (by decide) (by decide) rfl (fun k => List.mem_cons_self) (List.mem_cons_of_mem _ List.mem_cons_self)) (deps_lt rfl) (deps_lt rfl) (by decide) (by intro t ht; obtain ⟨y, _, rfl⟩ := List.mem_map.1 ht; exact ⟨rfl, rfl, rfl⟩) rfl rfl (fun _ => rfl) rfl ?_ ?_ ?_ ?_
        · (refine Ent.mk' ?_ ?_ <;> (repeat' (first | exact allSub_zero | exact allTags_nil | refine allSub_succ' ?_ (Ty.sub_any _) | refine allSub_succ' ?_ (Ty.sub_refl _) | refine allTags_cons rfl (Cont.sub_refl _) ?_ | refine allTags_cons rfl ?_ ?_)))
          all_goals exact ck_eq hJ (by rw [up_zero]; rfl)
        · intro k tys hk
          obtain ⟨hk1, rfl⟩ := enc_get hk
          have hmem := nth_mem hk1
          refine ⟨live [(2, Ty.pp [Ty.str (bs text), Ty.ex fv]), (3, Ty.ptr 1000 0), (4, Ty.ptr 5 0), (5, Ty.ptr 6 0), (6, Ty.ptr 7 0), (9, Ty.int .u8 ((nth (canR f x.1.p) k).toNat : Int))] [(6, Cont.cells 140 [Ty.ex v0, Ty.ex v1, Ty.ex v2, Ty.ex v3, Ty.ex v4, Ty.ex v5, Ty.ex v6, Ty.ex v7, Ty.ex v8, Ty.ex v9, Ty.ex v10, Ty.ex v11]), (4000, Cont.fact (rdrN f x.1.p v10) [v0, v1, v2, v3, v4, v5, v6, v7, v8, v9, v10, v11] rfl rfl), (4001, Cont.fact (rdrPl f x.1.p) [v0, v1, v2, v3, v4, v5, v6, v7, v8, v9, v10, v11] rfl rfl), (5, Cont.cells 27 [Ty.row UB 5 1002 x.1.s]), (7, Cont.cells 4 [Ty.bool false]), (7000, Cont.ck (hJ (m0 + (upF f x.1.p x.1.s (text.drop (x.1.s.length + 1)) k).length))), (1000, Cont.cells 147 [Ty.ex (.func (.func 96) #[] (cs0 ++ [gp g]).toArray)]), (1001, Cont.me g 147 (.func (.func 96) #[] (cs0 ++ [gp g]).toArray) (finC text fv) cs0 rfl rfl), (5000, Cont.snap w0 (oldF Mc g own))], fun l w M => ?_, fun l w M => ?_⟩
          ·
            refine t_region ?_
            refine asI rfl ?_
            refine r_nil ?_
            refine i_join ?_
            (refine Ent.mk' ?_ ?_ <;> (repeat' (first | exact allSub_zero | exact allTags_nil | refine allSub_succ' ?_ (Ty.sub_any _) | refine allSub_succ' ?_ (Ty.sub_refl _) | refine allTags_cons rfl (Cont.sub_refl _) ?_)))
          ·
            refine t_block ?_
            refine t_seq ?_
            refine t_region ?_
            refine r_loadFactN (tys := rdrPl f x.1.p) (vs := [v0, v1, v2, v3, v4, v5, v6, v7, v8, v9, v10, v11]) 4001 rfl rfl (by decide) rfl rfl rfl rfl ?_
            refine r_alloc rfl (by exact List.cons_ne_nil _ _) rfl ?_
            refine r_storeN rfl rfl (by decide) rfl rfl rfl rfl rfl rfl ?_
            refine r_nil ?_
            refine i_then ?_
            refine t_seq ?_
            refine t_region ?_
            refine r_field_ptr rfl rfl rfl rfl rfl (by decide) ?_
            refine r_loadFact 4001 rfl rfl (by decide) rfl rfl rfl rfl rfl rfl ?_
            refine r_callG [(39, 6)] [39] [] (k_Clone_rows x.1.p.read (by omega)) rfl rfl (by repeat (first | exact cv_nil | refine cv_cons ?_ ?_ | exact cv_pub rfl rfl)) pre_nil post_nil (cv_row (by exact List.mem_cons_self)) ?_
            refine r_field_ptr rfl rfl rfl rfl rfl (by decide) ?_
            refine r_store1 rfl rfl (by decide) rfl rfl (by exact (rfl : _ = Ty.row _ _ _ _)) rfl (by exact Nat.le_of_ble_eq_true rfl) rfl rfl (by exact rfl) ?_
            refine r_nil ?_
            refine i_then ?_
            refine t_seq ?_
            refine t_forget (B := live [(2, Ty.pp [Ty.str (bs text), Ty.ex fv]), (3, Ty.ptr 1000 0), (4, Ty.ptr 5 0), (5, Ty.ptr 6 0), (6, Ty.ptr 7 0), (9, Ty.int .u8 ((nth (canR f x.1.p) k).toNat : Int)), (10, Ty.ptr 11 0)] [(11, Cont.cells 140 (rdrT f (x.1.p) 39)), (6, Cont.cells 140 [Ty.ex v0, Ty.ex v1, Ty.ex v2, Ty.ex v3, Ty.ex v4, Ty.ex v5, Ty.ex v6, Ty.ex v7, Ty.ex v8, Ty.ex v9, Ty.ex v10, Ty.ex v11]), (4000, Cont.fact (rdrN f x.1.p v10) [v0, v1, v2, v3, v4, v5, v6, v7, v8, v9, v10, v11] rfl rfl), (4001, Cont.fact (rdrPl f x.1.p) [v0, v1, v2, v3, v4, v5, v6, v7, v8, v9, v10, v11] rfl rfl), (5, Cont.cells 27 [Ty.row UB 5 1002 x.1.s]), (7, Cont.cells 4 [Ty.bool false]), (7000, Cont.ck (hJ (m0 + (upF f x.1.p x.1.s (text.drop (x.1.s.length + 1)) k).length))), (1000, Cont.cells 147 [Ty.ex (.func (.func 96) #[] (cs0 ++ [gp g]).toArray)]), (1001, Cont.me g 147 (.func (.func 96) #[] (cs0 ++ [gp g]).toArray) (finC text fv) cs0 rfl rfl), (5000, Cont.snap w0 (oldF Mc g own))]) ?_ ?_
            · (refine Ent.mk' ?_ ?_ <;> (repeat' (first | exact allSub_zero | exact allTags_nil | refine allSub_succ' ?_ (Ty.sub_any _) | refine allSub_succ' ?_ (Ty.sub_refl _) | refine allTags_cons rfl (Cont.sub_refl _) ?_)))
            refine t_region ?_
            refine mvI rfl ?_
            refine r_callG [(11, 1000), (39, 1001)] [39] [(11, Cont.cells 140 (rdrT f (nextR f x.1.p (nth (canR f x.1.p) k)) 39))] (k_step f _ x.1.ok (nth (canR f x.1.p) k)) rfl rfl (by repeat (first | exact cv_nil | refine cv_cons ?_ ?_ | exact cv_ptr List.mem_cons_self | exact cv_pub rfl rfl)) (pre_cons (a := 11) (b := 1000) (by exact List.mem_cons_self) rfl (cc_rdr (by exact List.mem_cons_self) (List.mem_cons_of_mem _ List.mem_cons_self) rfl) pre_nil) (post_cons (a := 11) (b := 1000) (by exact List.mem_cons_self) rfl (cc_rdr (by exact List.mem_cons_self) (List.mem_cons_of_mem _ List.mem_cons_self) (by rw [stepQ_yes hmem])) post_nil) (cv_pub rfl rfl) ?_
            refine r_nil ?_
            refine i_then ?_
            refine t_seq ?_
            refine t_forget (B := live [(2, Ty.pp [Ty.str (bs text), Ty.ex fv]), (3, Ty.ptr 1000 0), (4, Ty.ptr 5 0), (5, Ty.ptr 6 0), (6, Ty.ptr 7 0), (9, Ty.int .u8 ((nth (canR f x.1.p) k).toNat : Int)), (10, Ty.ptr 11 0)] [(11, Cont.cells 140 (rdrT f (nextR f x.1.p (nth (canR f x.1.p) k)) 39)), (6, Cont.cells 140 [Ty.ex v0, Ty.ex v1, Ty.ex v2, Ty.ex v3, Ty.ex v4, Ty.ex v5, Ty.ex v6, Ty.ex v7, Ty.ex v8, Ty.ex v9, Ty.ex v10, Ty.ex v11]), (4000, Cont.fact (rdrN f x.1.p v10) [v0, v1, v2, v3, v4, v5, v6, v7, v8, v9, v10, v11] rfl rfl), (4001, Cont.fact (rdrPl f x.1.p) [v0, v1, v2, v3, v4, v5, v6, v7, v8, v9, v10, v11] rfl rfl), (5, Cont.cells 27 [Ty.row UB 5 1002 x.1.s]), (7, Cont.cells 4 [Ty.bool false]), (7000, Cont.ck (hJ (m0 + (upF f x.1.p x.1.s (text.drop (x.1.s.length + 1)) k).length))), (1000, Cont.cells 147 [Ty.ex (.func (.func 96) #[] (cs0 ++ [gp g]).toArray)]), (1001, Cont.me g 147 (.func (.func 96) #[] (cs0 ++ [gp g]).toArray) (finC text fv) cs0 rfl rfl), (5000, Cont.snap w0 (oldF Mc g own))]) ?_ ?_
            · (refine Ent.mk' ?_ ?_ <;> (repeat' (first | exact allSub_zero | exact allTags_nil | refine allSub_succ' ?_ (Ty.sub_any _) | refine allSub_succ' ?_ (Ty.sub_refl _) | refine allTags_cons rfl (Cont.sub_refl _) ?_)))
            refine t_draw mixed rfl ?_
            refine r_load_ptr rfl rfl (by decide) rfl rfl rfl ?_
            refine r_load_ptr rfl rfl (by decide) rfl rfl rfl ?_
            refine r_callGL [1002] 45 (k_Clone_u8 x.1.s (by omega)) rfl (by repeat (first | exact lends_nil | refine lends_cons (lend_row rfl) ?_)) plain_UB (by decide) (by decide) rfl ?_
            refine mvI rfl ?_
            refine r_buildSlice (E := UB) (xs := [_]) rfl rfl rfl rfl rfl (by decide) (by decide) (by repeat (first | exact (Parts.nil : Parts _ _ [] _) | (show Parts _ _ ((_, _) :: _) _; apply Parts.one; (· exact (rfl : _ = Ty.int _ _)); (· exact rfl)))) (by exact rfl) rfl ?_
            refine r_append rfl rfl (by decide) rfl rfl rfl rfl rfl rfl (by decide) (by (simp <;> omega)) (by (simp <;> omega)) ?_
            refine r_load_ptrN rfl rfl (by decide) rfl rfl (by exact Nat.le_of_ble_eq_true rfl) ?_
            refine r_callF (ss := [Ty.row UB 5 45 (x.1.s ++ [nth (canR f x.1.p) k]), Ty.agg (rdrT f (nextR f x.1.p (nth (canR f x.1.p) k)) 39)]) [(45, 1002), (39, 1003)] (hJ (m0 + (upF f x.1.p x.1.s (text.drop (x.1.s.length + 1)) k).length)) (hJ _) hJx (ih (x.1.s ++ [nth (canR f x.1.p) k]) (nextR f x.1.p (nth (canR f x.1.p) k)) (m0 + (upF f x.1.p x.1.s (text.drop (x.1.s.length + 1)) k).length) (by simp; omega) (by simp; omega) (next_ok x.1.ok hmem) (fi_sub x.1 hlt hc2 hp hk1)) rfl rfl (cv_cons (cv_cons cv_nil (cv_rdr (List.mem_cons_of_mem _ List.mem_cons_self))) (cv_row List.mem_cons_self)) rfl rfl rfl ?_
            refine r_notY (h1 := hJ _) (hx := hJx) rfl ?_
            refine r_nil ?_
            refine ⟨by kernel_rfl, ?_⟩
            refine i_then ?_
            refine t_condY (h1 := hJ _) (hx := hJx) rfl ?_ ?_
            ·
              refine t_seq ?_
              refine t_region ?_
              refine r_store1 rfl rfl (by decide) rfl rfl (by exact (rfl : _ = Ty.bool _)) rfl (by exact Nat.le_of_ble_eq_true rfl) rfl rfl (by exact (rfl : _ = [_])) ?_
              refine r_nil ?_
              refine i_then ?_
              refine t_ret ?_
              refine i_block_ret ?_
              refine q_ret ?_
              (refine Ent.mk' ?_ ?_ <;> (repeat' (first | exact allSub_zero | exact allTags_nil | refine allSub_succ' ?_ (Ty.sub_any _) | refine allTags_cons rfl (Cont.sub_refl _) ?_)))
            ·
              refine t_skip ?_
              refine i_block ?_
              refine q_normal ?_
              (refine Ent.mk' ?_ ?_ <;> (repeat' (first | exact allSub_zero | exact allTags_nil | refine allSub_succ' ?_ (Ty.sub_any _) | refine allTags_cons rfl (Cont.sub_refl _) ?_ | refine allTags_cons rfl ?_ ?_)))
              all_goals exact ck_eq hJ (fi_up x.1 hk1)
        ·
          refine i_block ?_
          refine i_then ?_
          refine t_seq ?_
          refine t_region ?_
          refine r_store1 rfl rfl (by decide) rfl rfl (by exact (rfl : _ = Ty.bool _)) rfl (by exact Nat.le_of_ble_eq_true rfl) rfl rfl (by exact (rfl : _ = [_])) ?_
          refine r_nil ?_
          refine i_then ?_
          refine t_ret ?_
          refine i_block_ret ?_
          refine i_then_ret ?_
          refine i_then_ret ?_
          refine i_block_ret ?_
          refine i_then_ret ?_
          refine m_ret rfl ?_
          exact i_retFt (hj := hJ _) z0 wf0 (congrArg J (by rw [List.length_map, up_all, fi_torn x.1 hlt hc2])) hh0 rfl rfl rfl rfl (by decide) rfl rfl rfl rfl rfl
        · intro _
          refine i_block_ret ?_
          refine i_then_ret ?_
          refine i_block_ret ?_
          refine i_then_ret ?_
          refine i_then_ret ?_
          refine i_block_ret ?_
          refine i_then_ret ?_
          refine m_ret rfl ?_
          exact i_retFx (hx := hJx) z0 wf0 hh0 rfl rfl rfl rfl (by decide) rfl rfl rfl rfl rfl
    ·
      refine t_exit ?_
      refine i_then_exit ?_
      refine i_then_exit ?_
      refine i_block_exit rfl ?_
      refine i_then ?_
      refine t_seq ?_
      refine t_pubC (tg := 1003) [] [(6, Cont.cells 140 (rdrPl f x.1.p))] (by decide) rfl trivial ⟨pubC_cells rfl rfl ⟨pubTy_same rfl, pubTy_same rfl, pubTy_same rfl, pubTy_same rfl, pubTy_same rfl, pubTy_same rfl, pubTy_same rfl, pubTy_same rfl, pubTy_same rfl, pubTy_same rfl, pubTy_row, pubTy_same rfl, trivial⟩, trivial⟩ ?_
      refine t_pub (tg := 6) [(5, Ty.pp (rdrPl f x.1.p))] (by decide) rfl ⟨pub_ptr (T := 140) (tg := 6) (off := 0) (l := rdrPl f x.1.p) rfl rfl rfl (by decide), trivial⟩ ?_
      refine t_region ?_
      refine r_call (c_wholeP _ _) rfl rfl rfl rfl rfl ?_
      refine r_not rfl ?_
      refine mvB rfl ?_
      cases hsp : (wholeR x.1.p)
      ·
        refine r_off rfl rfl rfl rfl ?_
        refine r_off rfl rfl rfl rfl ?_
        refine r_off rfl rfl rfl rfl ?_
        refine r_off rfl rfl rfl rfl ?_
        refine r_off rfl rfl rfl rfl ?_
        refine r_pkT rfl rfl ?_
        refine r_store1 (ty := Ty.bool true) rfl rfl (by decide) rfl rfl rfl rfl (by exact Nat.le_of_ble_eq_true rfl) rfl rfl (by exact (rfl : _ = [_])) ?_
        refine r_nil ?_
        refine i_then ?_
        refine t_ret ?_
        refine m_ret rfl ?_
        exact i_retFt (hj := hJ _) z0 wf0 (congrArg J (by rw [fi_end x.1 hc1, hsp]; rfl)) hh0 rfl rfl rfl rfl (by decide) rfl rfl rfl rfl rfl
      ·
        (refine r_on rfl rfl rfl (by apply opT_of; (refine r_field_pp rfl rfl rfl rfl rfl (by decide) ?_); refine r_nil ?_; exact rfl) ?_)
        (refine r_on rfl rfl rfl (by apply opT_of; (refine r_load_pp rfl rfl rfl rfl ?_); refine r_nil ?_; exact rfl) ?_)
        (refine r_on rfl rfl rfl (by apply opT_of; (refine r_load_ptr rfl rfl (by decide) rfl rfl rfl ?_); refine r_nil ?_; exact rfl) ?_)
        (refine r_on rfl rfl rfl (by apply opT_of; (refine r_convRS rfl rfl rfl rfl rfl Tryd.underlying5 ?_); refine r_nil ?_; exact rfl) ?_)
        (refine r_on rfl rfl rfl (by apply opT_of; (refine r_callFnd hJ hJx hF rfl rfl rfl rfl (by rw [List.getElem?_map, pre_get (by have h := hp; rw [fi_end x.1 hc1, hsp] at h; exact h)]; rfl) rfl ?_); refine r_nil ?_; exact rfl) ?_)
        refine r_pkF rfl rfl ?_
        refine r_store1 (ty := Ty.yb true (hJ (m0 + 1)) hJx) rfl rfl (by decide) rfl rfl rfl rfl (by exact Nat.le_of_ble_eq_true rfl) rfl rfl (by exact (rfl : _ = [_])) ?_
        refine r_nil ?_
        refine i_then ?_
        refine t_ret ?_
        refine m_ret rfl ?_
        exact i_retFy (h1 := hJ _) (hx := hJx) z0 wf0 hh0 rfl rfl rfl rfl (by decide) rfl rfl rfl rfl (Ty.sub_yb (h1 := hJ (m0 + 1)) (congrArg J (by rw [fi_end x.1 hc1, hsp]; rfl)))
end Go.Proofs.YtjjndkenddigiaaDoor

namespace Go.Proofs.YtjjndkenddigiaaDoor
open Go Go.T
theorem figs_few (a : Bool) : (figs a).length ≤ 10 := by cases a <;> decide
theorem can_few (f : BForm) (p : Rdr) : (canR f p).length ≤ 11 := by
  unfold canR
  split
  · simp
  · split
    · rw [figC_eq, List.length_append]
      have := figs_few (ctnB f p)
      split <;> simp <;> omega
    · split
      · split <;> simp
      · rw [List.length_append]
        split <;> split <;> simp
theorem flat_le {α β : Type} {n : Nat} (g : α → List β) : ∀ (l : List α), (∀ x ∈ l, (g x).length ≤ n) → (l.flatMap g).length ≤ l.length * n
  | [], _ => by simp
  | x :: l, h => by
    rw [List.flatMap_cons, List.length_append, List.length_cons, Nat.succ_mul]
    have := flat_le g l fun y hy => h y (List.mem_cons_of_mem _ hy)
    have := h x List.mem_cons_self
    omega
theorem fil_few {f : BForm} : ∀ (t : Byt) (p : Rdr), (fillR f p t).length ≤ 11 ^ tornN t
  | [], p => by
    rw [fillR]; split <;> simp [tornN]
  | c :: t, p => by
    rw [fillR]
    split
    · rename_i hc
      have e : tornN (c :: t) = tornN t := by unfold tornN; rw [List.count_cons_of_ne (by exact hc)]
      rw [e]
      split
      · simp
      · rw [List.length_map]; exact fil_few t _
    · rename_i hc
      have hc : c = 63 := by simpa using hc
      have e : tornN (c :: t) = tornN t + 1 := by unfold tornN; rw [hc, List.count_cons_self]
      rw [e, Nat.pow_succ, Nat.mul_comm]
      refine Nat.le_trans (flat_le (n := 11 ^ tornN t) _ _ fun d _ => ?_) (Nat.mul_le_mul_right _ (can_few f p))
      rw [List.length_map]; exact fil_few t _
theorem all_few {f : BForm} {text : Byt} (h : (tornN text : Int) ≤ 4) : (allF f text).length ≤ 14641 := by
  have h1 := fil_few (f := f) text Rdr.new
  have h2 : 11 ^ tornN text ≤ 11 ^ 4 := Nat.pow_le_pow_right (by omega) (by omega)
  unfold allF; omega
end Go.Proofs.YtjjndkenddigiaaDoor

namespace Go.Proofs.YtjjndkenddigiaaDoor
open Go Go.T
set_option maxHeartbeats 2000000
theorem c_fill1 (f : BForm) (text : Byt) (hl : text.length ≤ 65536) (AL : List (Byt × Rdr)) (fv : Value) (J : Nat → World → Tags → Prop) (Jx : World → Tags → Prop) (hJ : ∀ k, Cb (J k)) (hJx : Cb Jx) (hF : FndC Tryd.prog fv (AL.map (encF f)) J Jx) : ∀ (n : Nat) (s : Byt) (p : Rdr) (m0 : Nat), text.length - s.length ≤ n → RdrOk f p → s.length ≤ text.length → filS f p s (text.drop s.length) <+: AL.drop m0 →
    MoreF Tryd.prog 96 147 (finC text fv) [Ty.row UB 5 1002 s, Ty.agg (rdrT f p 1003)] (J m0) (J (m0 + (filS f p s (text.drop s.length)).length)) Jx
  | 0, s, p, m0, hn, ho, hs, hp => c_fillS f text hl AL fv J Jx hJ hJx hF s p m0 ho hs hp fun s' p' k' h _ _ _ => absurd h (by omega)
  | n + 1, s, p, m0, hn, ho, hs, hp => c_fillS f text hl AL fv J Jx hJ hJx hF s p m0 ho hs hp fun s' p' k' h h2 h3 h4 => c_fill1 f text hl AL fv J Jx hJ hJx hF n s' p' k' (by omega) h3 h2 h4
def finT (f : BForm) (text : Byt) (fv : Value) : List Ty := [Ty.agg [Ty.str (bs text), Ty.ex fv], frmT f]
theorem fin_hfv {f : BForm} {text : Byt} {fid : FuncId} {caps : List Ty} (w : World) (M : Tags) (vs : List Value) (h : dens w M [Ty.agg [Ty.str (bs text), Ty.clo fid caps], frmT f] vs) : ∃ cs : Array Value, dens w M caps cs.toList ∧ dens w M (finT f text (.func (.func fid) #[] cs)) vs := by
  match vs, h with
  | [v, u], ⟨⟨zs, e, ha⟩, h2, _⟩ =>
    obtain ⟨zs⟩ := zs
    match zs, ha with
    | [a1, a2], ⟨h3, ⟨cs, e2, h4⟩, _⟩ => exact ⟨cs, h4, ⟨⟨_, e, h3, e2, trivial⟩, h2, trivial⟩⟩
theorem allE_pub (f : BForm) (l : List (Byt × Rdr)) : ∀ tys ∈ l.map (encF f), depsOf tys = [] ∧ cdepsOf tys = [] := by
  intro t ht
  obtain ⟨y, _, rfl⟩ := List.mem_map.1 ht
  exact ⟨rfl, rfl⟩
def cntV (f : BForm) (text : Byt) : Int × Int := if tornE f text ≠ 0 then (0, tornE f text) else ((((allF f text).length : Nat) : Int), 0)
def filL (f : BForm) (text : Byt) (k : Nat) : List Byt := ((allF f text).take k).map Prod.fst
def filV (f : BForm) (text : Byt) : List Byt × Int := if tornE f text ≠ 0 then ([], tornE f text) else (filL f text 2, 0)
def resB (f : BForm) (text : Byt) (k : Nat) : Book := if k = 0 then Book.zero else ⟨f, (nth (allF f text) (k - 1)).2.read⟩
def resV (f : BForm) (text : Byt) : Book × Int := if tornE f text ≠ 0 then (Book.zero, tornE f text) else if (allF f text).length = 0 then (Book.zero, 6) else if (allF f text).length = 1 then (resB f text 1, 0) else (Book.zero, 7)
theorem cnt_1 {f : BForm} {text : Byt} (h : ¬ tornE f text = 0) : cntV f text = (0, tornE f text) := if_pos h
theorem cnt_2 {f : BForm} {text : Byt} (h : tornE f text = 0) : cntV f text = ((((allF f text).length : Nat) : Int), 0) := if_neg (fun e => e h)
theorem fv_1 {f : BForm} {text : Byt} (h : ¬ tornE f text = 0) : filV f text = ([], tornE f text) := if_pos h
theorem fv_2 {f : BForm} {text : Byt} (h : tornE f text = 0) : filV f text = (filL f text 2, 0) := if_neg (fun e => e h)
theorem rv_1 {f : BForm} {text : Byt} (h : ¬ tornE f text = 0) : resV f text = (Book.zero, tornE f text) := if_pos h
theorem rv_2 {f : BForm} {text : Byt} (h : tornE f text = 0) (h2 : ((min 2 (allF f text).length : Nat) : Int) = 0) : resV f text = (Book.zero, 6) := by
  unfold resV; rw [if_neg (fun e => e h), if_pos (by omega)]
theorem rv_3 {f : BForm} {text : Byt} (h : tornE f text = 0) (h2 : ¬ ((min 2 (allF f text).length : Nat) : Int) = 0) (h3 : ((min 2 (allF f text).length : Nat) : Int) = 1) : resV f text = (resB f text (min 2 (allF f text).length), 0) := by
  unfold resV; rw [if_neg (fun e => e h), if_neg (by omega), if_pos (by omega), show min 2 (allF f text).length = 1 by omega]
theorem rv_4 {f : BForm} {text : Byt} (h : tornE f text = 0) (h2 : ¬ ((min 2 (allF f text).length : Nat) : Int) = 0) (h3 : ¬ ((min 2 (allF f text).length : Nat) : Int) = 1) : resV f text = (Book.zero, 7) := by
  unfold resV; rw [if_neg (fun e => e h), if_neg (by omega), if_neg (by omega)]
theorem torn_ok {f : BForm} {text : Byt} (h : tornE f text = 0) : FormOk f ∧ text.length ≤ 65536 ∧ (tornN text : Int) ≤ 4 := by
  unfold tornE at h
  split at h
  · rename_i h1; exact absurd h h1
  · rename_i h1
    split at h
    · cases h
    · rename_i h2
      split at h
      · cases h
      · rename_i h3
        exact ⟨frmY_zero.1 (by simpa using h1), by omega, by omega⟩
theorem all_ok {f : BForm} {text : Byt} (hf : FormOk f) {k : Nat} (hk : k < (allF f text).length) : RdrOk f (nth (allF f text) k).2 := (fillR_ok text _ (new_ok hf) _ (nth_mem hk)).1
theorem enc_at {f : BForm} {text : Byt} {k : Nat} {tys : List Ty} (h : ((allF f text).map (encF f))[k]? = some tys) : k < (allF f text).length ∧ tys = encF f (nth (allF f text) k) := enc_get h
theorem filL_succ {f : BForm} {text : Byt} {k : Nat} (hk : k < (allF f text).length) : filL f text (k + 1) = filL f text k ++ [(nth (allF f text) k).1] := by
  unfold filL; rw [take_nth hk, List.map_append]; rfl
theorem filL_all {f : BForm} {text : Byt} (h : (allF f text).length < 2) : filL f text (allF f text).length = filL f text 2 := by
  unfold filL; rw [List.take_of_length_le (Nat.le_refl _), List.take_of_length_le (by omega)]
theorem filL_len (f : BForm) (text : Byt) (k : Nat) : (filL f text k).length ≤ k := by unfold filL; rw [List.length_map, List.length_take]; omega
theorem fil_nil0 {f : BForm} {text : Byt} : (Ty.ex (.slice none 0 0)).Sub (Ty.row StrE 9 500 (filL f text 0)) := by
  rw [show filL f text 0 = [] from by simp [filL]]; exact Ty.nil_row
theorem res_zero {f : BForm} {text : Byt} : Subs [Ty.ex (.slice none 0 0), Ty.int .i64 0, Ty.ex (.slice none 0 0)] (bokTys (resB f text 0)) := ⟨Ty.nil_sl, Ty.sub_refl _, Ty.nil_sl, trivial⟩
theorem resB_succ (f : BForm) (text : Byt) (k : Nat) : resB f text (k + 1) = ⟨f, (nth (allF f text) k).2.read⟩ := by unfold resB; rw [if_neg (by omega)]; rfl
theorem res_b (k : Nat) : decide ((k : Int) + 1 < 2) = decide (k + 1 < 2) := by rw [decide_eq_decide]; omega
theorem fil_b (l : List Byt) (s : Byt) : decide (((l ++ [s]).length : Int) < 2) = decide ((l.length : Int) + 1 < 2) := by simp
theorem filL_len2 {f : BForm} {text : Byt} {k : Nat} (h : k < (allF f text).length) : (filL f text k).length = k := by unfold filL; rw [List.length_map, List.length_take]; omega
theorem fil_px {f : BForm} {text : Byt} {k : Nat} (h : k < 2) (h2 : ¬ k + 1 < 2) : PostCs [(1000, Cont.cells 44 [Ty.row StrE 9 1001 (filL f text (k + 1))])] [(8, 1000), (500, 1001)] [(8, Cont.cells 44 [Ty.row StrE 9 500 (filL f text 2)])] := by
  obtain rfl : k = 1 := by omega
  exact post_cons (a := 8) (b := 1000) (by decide) rfl (cc_cells (by decide) (cv_cons cv_nil (cv_row (by decide)))) post_nil
theorem res_px {f : BForm} {text : Byt} {k : Nat} (h : k < 2) (h2 : ¬ k + 1 < 2) : PostCs [(1000, Cont.cells 30 (bokTys (resB f text (k + 1)))), (1001, Cont.cells 3 [Ty.int .i64 ((k + 1 : Nat) : Int)])] [(8, 1000), (9, 1001)] [(8, Cont.cells 30 (bokTys (resB f text 2))), (9, Cont.cells 3 [Ty.int .i64 ((2 : Nat) : Int)])] := by
  obtain rfl : k = 1 := by omega
  exact post_cons (a := 8) (b := 1000) (by decide) rfl (cc_cells_eq (by decide) rfl rfl rfl) (post_cons (a := 9) (b := 1001) (by decide) rfl (cc_cells_eq (by decide) rfl rfl rfl) post_nil)
attribute [local irreducible] allF tornE wholeR cntV filV resV filL resB
attribute [local irreducible] dInt dBool dSl dPp dPtr dAgg dTup dClo dAny dEx dStr dGd dCells dVec dVs dRow dOp nth Tri Into TOps Ctr bodyPost Exit.then Exit.inBlock Code.wp Code.wpIn dPa dArr dMp dMap CtrG keepPost iterPost bodyPostM roundQ
set_option maxRecDepth 100000 in
theorem c_fill (f : BForm) (hf : FormOk f) (text : Byt) (hl : text.length ≤ 65536) : CtrFd Tryd.prog 64 (fun fv => (finT f text fv)) ((allF f text).map (encF f)) := by
  refine fnFd_intro Tryd.func64 rfl (by decide) Tryd.ntmps64 (fun _ => by exact Nat.le_of_ble_eq_true rfl) (fun _ => ⟨rfl, rfl⟩) fun fv J Jx hJ hJx hF w0 Mc wf0 z0 => ?_
  refine t_seq ?_
  refine t_region ?_
  refine r_box_agg rfl ?_
  refine r_box_agg rfl ?_
  refine r_nil ?_
  refine i_then ?_
  refine t_seq ?_
  refine t_region ?_
  refine r_alloc rfl (by exact List.cons_ne_nil _ _) rfl ?_
  refine r_nil ?_
  refine i_then ?_
  refine t_seq ?_
  refine t_region ?_
  refine r_makeFunc rfl ?_
  refine r_store1 rfl rfl (by decide) rfl rfl (by exact (rfl : _ = Ty.clo _ _)) rfl (by exact Nat.le_of_ble_eq_true rfl) rfl rfl (by exact (rfl : _ = [_])) ?_
  refine r_nil ?_
  refine i_then ?_
  refine t_draw mixed rfl ?_
  refine r_load_ptr rfl rfl (by decide) rfl rfl rfl ?_
  refine r_load_ppN rfl rfl rfl (by exact Nat.le_of_ble_eq_true rfl) ?_
  refine r_callG [(9, 6), (500, 5)] [9, 500] [(9, Cont.cells 140 (rdrT f Rdr.new 500))] (k_opened f) rfl rfl (by repeat (first | exact cv_nil | refine cv_cons ?_ ?_ | exact cv_pub rfl rfl)) pre_nil (post_cons (a := 9) (b := 6) (by exact List.mem_cons_self) rfl (cc_rdr (by exact List.mem_cons_self) (List.mem_cons_of_mem _ List.mem_cons_self) rfl) post_nil) (cv_ptr (by exact List.mem_cons_self)) ?_
  refine r_nilCheck_ptr rfl ?_
  refine r_load_ptrN rfl rfl (by decide) rfl rfl (by exact Nat.le_of_ble_eq_true rfl) ?_
  refine r_callF0 (tg := 5) (ss := [Ty.ex (.slice none 0 0), Ty.agg (rdrT f Rdr.new 500)]) [(500, 1003)] (hJ 0) (hJ (0 + (filS f Rdr.new [] (text.drop ([] : Byt).length)).length)) hJx (c_fill1 f text hl (allF f text) fv J Jx hJ hJx hF text.length [] Rdr.new 0 (by simp) (new_ok hf) (Nat.zero_le _) (by rw [List.length_nil, List.drop_zero, fil_all, List.drop_zero]; exact List.prefix_rfl)) rfl rfl rfl rfl (cv_cons (cv_cons cv_nil (cv_rdr List.mem_cons_self)) cv_nilrow) rfl rfl (by decide) rfl ?_
  refine r_nil ?_
  refine ⟨by kernel_rfl, ?_⟩
  exact i_retFd (hJ := hJ) (h1 := hJ _) (hx := hJx) z0 wf0 (by rw [List.length_nil, List.drop_zero, fil_all, List.length_map, Nat.zero_add]) rfl rfl rfl
set_option maxRecDepth 100000 in
theorem k_Count1 (k : Nat) (h : k ≤ 100000) : CtrG Tryd.prog 63 [1000] [(1000, Cont.cells 3 [Ty.int .i64 (k : Nat)])] [Ty.any, Ty.any, Ty.ptr 1000 0] [(1000, Cont.cells 3 [Ty.int .i64 ((k + 1 : Nat) : Int)])] (Ty.bool true) := by
  refine fnG_intro Tryd.func63 rfl (by decide) Tryd.ntmps63 (by exact Nat.le_of_ble_eq_true rfl) fun w0 M0 => ?_
  refine t_seq ?_
  refine t_region ?_
  refine asB rfl ?_
  refine r_nil ?_
  refine i_then ?_
  refine t_seq ?_
  refine t_region ?_
  refine r_load_ptr rfl rfl (by decide) rfl rfl rfl ?_
  refine r_add rfl rfl (by omega) (by omega) ?_
  refine r_store1 rfl rfl (by decide) rfl rfl (by exact (rfl : _ = Ty.int _ _)) rfl (by exact Nat.le_of_ble_eq_true rfl) rfl rfl (by exact (rfl : _ = [_])) ?_
  refine r_nil ?_
  refine i_then ?_
  refine t_seq ?_
  refine t_region ?_
  refine asB rfl ?_
  refine r_nil ?_
  refine i_then ?_
  refine t_ret ?_
  refine g_ret1 [1000] rfl rfl (by decide) ?_ ?_
  exact rc_cons rfl (cc_cells_eq (by decide) rfl rfl rfl) rc_nil
  all_goals exact rg_cv (cv_pub rfl rfl)
set_option maxRecDepth 100000 in
theorem c_Count (f : BForm) (text : Byt) : Ctr Tryd.prog 19 [frmT f, Ty.str (bs text)] (Ty.tup [Ty.int .i64 (cntV f text).1, Ty.int .i64 (cntV f text).2]) := by
  refine fn_intro Tryd.func19 rfl (by decide) Tryd.ntmps19 (by exact Nat.le_of_ble_eq_true rfl) fun w0 M0 => ?_
  refine t_seq ?_
  refine t_region ?_
  refine r_box_agg rfl ?_
  refine asI rfl ?_
  refine asI rfl ?_
  refine r_nil ?_
  refine i_then ?_
  refine t_seq ?_
  refine t_seq ?_
  refine t_region ?_
  refine r_load_ppN rfl rfl rfl (by exact Nat.le_of_ble_eq_true rfl) ?_
  refine mvS' rfl ?_
  refine r_call (c_torn _ _) rfl rfl rfl rfl rfl ?_
  refine asI rfl ?_
  refine r_nil ?_
  refine i_then ?_
  refine t_seq ?_
  refine t_region ?_
  refine mvI rfl ?_
  refine r_bin rfl rfl rfl ?_
  refine r_nil ?_
  refine i_then ?_
  refine t_cond_ndec rfl (fun hc1 => ?_) (fun hc1 => ?_)
  ·
    refine t_seq ?_
    refine t_region ?_
    refine mvI rfl ?_
    refine asI rfl ?_
    refine asI rfl ?_
    refine r_nil ?_
    refine i_then ?_
    refine t_ret ?_
    refine i_then_ret ?_
    refine i_rp2 rfl rfl rfl ?_ ?_
    all_goals skip
    all_goals (rw [cnt_1 hc1]; exact ret_refl rfl rfl)
  ·
    refine t_skip ?_
    refine i_then ?_
    refine t_seq ?_
    refine t_region ?_
    refine r_alloc rfl (by exact List.cons_ne_nil _ _) rfl ?_
    refine r_store1 rfl rfl (by decide) rfl rfl (by exact (rfl : _ = Ty.int _ _)) rfl (by exact Nat.le_of_ble_eq_true rfl) rfl rfl (by exact (rfl : _ = [_])) ?_
    refine r_nil ?_
    refine i_then ?_
    refine t_seq ?_
    obtain ⟨hf, hl, h4⟩ := torn_ok hc1
    have hfew := all_few (f := f) h4
    refine t_region ?_
    refine mvS' rfl ?_
    refine r_makeFunc rfl ?_
    refine r_build rfl rfl (by exact List.cons_ne_nil _ _) rfl (by repeat (first | exact (Parts.nil : Parts _ _ [] _) | (show Parts _ _ ((_, _) :: _) _; apply Parts.one; (· first | exact (rfl : _ = Ty.clo _ _) | exact (rfl : _ = Ty.str _)); (· exact rfl)))) (by exact (rfl : _ = some [_, _])) ?_
    refine r_load_ppN rfl rfl rfl (by exact Nat.le_of_ble_eq_true rfl) ?_
    refine r_op (opT_callFd (fid := 63) (caps := [Ty.ptr 8 0]) (S := [8]) (K := []) (mv := []) (F := [1000]) (px := False) (ok := fun _ => True) (tgs := fun k => [(8, Cont.cells 3 [Ty.int .i64 (k : Nat)])]) (tgx := []) (sets := [(8, Cont.cells 3 [Ty.int .i64 ((allF f text).length : Nat)])]) (ρ := [(8, 1000)]) (pre := fun k => [(1000, Cont.cells 3 [Ty.int .i64 (k : Nat)])]) (post := fun k => [(1000, Cont.cells 3 [Ty.int .i64 ((k + 1 : Nat) : Int)])]) (argsF := fun _ => [Ty.any, Ty.any, Ty.ptr 1000 0]) (go := fun _ => true) (c_fill f hf text hl) rfl fin_hfv (fun _ => ⟨rfl, rfl⟩) (k_Count1 0 (by decide)).ex (fun k _ hk => k_Count1 k (by rw [List.length_map] at hk; omega)) rfl rfl rfl rfl (by decide) (by intro t h; cases h) (by decide) (by decide) (allE_pub f _) (fun k tys hk => by obtain ⟨_, rfl⟩ := enc_at hk; exact cv_cons (cv_cons (cv_cons cv_nil (cv_ptr (by decide))) cv_any) cv_any) (fun k => pre_cons (a := 8) (by decide) rfl (cc_cells_eq (by decide) rfl rfl rfl) pre_nil) (fun k _ _ => post_cons (a := 8) (b := 1000) (by decide) rfl (cc_cells_eq (by decide) rfl rfl rfl) post_nil) (fun k _ h => by cases h) trivial (fun _ _ _ _ => trivial) (fun _ _ _ h => by cases h) (fun _ => rfl) rfl (allTags_cons rfl (Cont.sub_subs ⟨Ty.sub_int rfl, trivial⟩) allTags_nil) (by decide) (by intro t h; cases h) (by simp) rfl (fun _ w M h x hx => by rw [List.length_map] at h; exact h x hx) (fun h => h.elim)) ?_
    refine r_nil ?_
    refine i_then ?_
    refine t_seq ?_
    refine t_region ?_
    refine r_load_ptr rfl rfl (by decide) rfl rfl rfl ?_
    refine asI rfl ?_
    refine asI rfl ?_
    refine r_nil ?_
    refine i_then ?_
    refine t_ret ?_
    refine i_rp2 rfl rfl rfl ?_ ?_
    all_goals skip
    all_goals (rw [cnt_2 hc1]; exact ret_refl rfl rfl)
set_option maxRecDepth 100000 in
theorem k_Fillings1 (s : Byt) (l : List Byt) (h : l.length ≤ 2) : CtrG Tryd.prog 65 [1000] [(1000, Cont.cells 44 [Ty.row StrE 9 1001 l])] [Ty.str (bs s), Ty.any, Ty.ptr 1000 0] [(1000, Cont.cells 44 [Ty.row StrE 9 1001 (l ++ [s])])] (Ty.bool (decide (((l.length : Nat) : Int) + 1 < 2))) := by
  refine fnG_intro Tryd.func65 rfl (by decide) Tryd.ntmps65 (by exact Nat.le_of_ble_eq_true rfl) fun w0 M0 => ?_
  refine t_seq ?_
  refine t_region ?_
  refine asB rfl ?_
  refine r_nil ?_
  refine i_then ?_
  refine t_seq ?_
  refine t_region ?_
  refine r_load_ptr rfl rfl (by decide) rfl rfl rfl ?_
  refine mvS' rfl ?_
  refine r_buildSlice (E := StrE) (xs := [_]) rfl rfl rfl rfl rfl (by decide) (by decide) (by repeat (first | exact (Parts.nil : Parts _ _ [] _) | (show Parts _ _ ((_, _) :: _) _; apply Parts.one; (· exact (rfl : _ = Ty.str _)); (· exact rfl)))) (by exact rfl) rfl ?_
  refine r_append rfl rfl (by decide) rfl rfl rfl rfl rfl rfl (by decide) (by (simp <;> omega)) (by (simp <;> omega)) ?_
  refine r_store1 rfl rfl (by decide) rfl rfl (by exact (rfl : _ = Ty.row _ _ _ _)) rfl (by exact Nat.le_of_ble_eq_true rfl) rfl rfl (by exact (rfl : _ = [_])) ?_
  refine r_nil ?_
  refine i_then ?_
  refine t_seq ?_
  refine t_region ?_
  refine r_load_ptr rfl rfl (by decide) rfl rfl rfl ?_
  refine r_len_row rfl rfl rfl ?_
  refine r_bin rfl rfl rfl ?_
  refine asB rfl ?_
  refine r_nil ?_
  refine i_then ?_
  refine t_ret ?_
  refine g_ret1 [1000, 1001] rfl rfl (by decide) ?_ ?_
  exact rc_cons rfl (cc_cells (by decide) (cv_cons cv_nil (cv_row (by decide)))) rc_nil
  all_goals skip
  all_goals exact rg_cv (cv_sub rfl rfl (Ty.sub_bool (fil_b _ _)))
theorem fil_ctr {f : BForm} {text : Byt} {k : Nat} (hk : k < (allF f text).length) (h2 : k < 2) : CtrG Tryd.prog 65 [1000] [(1000, Cont.cells 44 [Ty.row StrE 9 1001 (filL f text k)])] [Ty.str (bs (nth (allF f text) k).1), Ty.any, Ty.ptr 1000 0] [(1000, Cont.cells 44 [Ty.row StrE 9 1001 (filL f text (k + 1))])] (Ty.bool (decide (k + 1 < 2))) := by
  have h := k_Fillings1 (nth (allF f text) k).1 (filL f text k) (by have := filL_len f text k; omega)
  rw [← filL_succ hk, filL_len2 hk] at h
  rwa [show decide ((k : Int) + 1 < 2) = decide (k + 1 < 2) from by rw [decide_eq_decide]; omega] at h
set_option maxRecDepth 100000 in
theorem c_Fillings (f : BForm) (text : Byt) : Ctr Tryd.prog 20 [frmT f, Ty.str (bs text)] (Ty.tup [Ty.sl StrE (filV f text).1, Ty.int .i64 (filV f text).2]) := by
  refine fn_intro Tryd.func20 rfl (by decide) Tryd.ntmps20 (by exact Nat.le_of_ble_eq_true rfl) fun w0 M0 => ?_
  refine t_seq ?_
  refine t_region ?_
  refine r_box_agg rfl ?_
  refine asX rfl ?_
  refine asI rfl ?_
  refine r_nil ?_
  refine i_then ?_
  refine t_seq ?_
  refine t_seq ?_
  refine t_region ?_
  refine r_load_ppN rfl rfl rfl (by exact Nat.le_of_ble_eq_true rfl) ?_
  refine mvS' rfl ?_
  refine r_call (c_torn _ _) rfl rfl rfl rfl rfl ?_
  refine asI rfl ?_
  refine r_nil ?_
  refine i_then ?_
  refine t_seq ?_
  refine t_region ?_
  refine mvI rfl ?_
  refine r_bin rfl rfl rfl ?_
  refine r_nil ?_
  refine i_then ?_
  refine t_cond_ndec rfl (fun hc1 => ?_) (fun hc1 => ?_)
  ·
    refine t_seq ?_
    refine t_region ?_
    refine mvI rfl ?_
    refine asX rfl ?_
    refine asI rfl ?_
    refine r_nil ?_
    refine i_then ?_
    refine t_ret ?_
    refine i_then_ret ?_
    refine i_rp2 rfl rfl rfl ?_ ?_
    all_goals skip
    all_goals (rw [fv_1 hc1]; first | exact ret_refl rfl rfl | exact ret_nil)
  ·
    refine t_skip ?_
    refine i_then ?_
    refine t_seq ?_
    refine t_region ?_
    refine r_alloc rfl (by exact List.cons_ne_nil _ _) rfl ?_
    refine r_nil ?_
    refine i_then ?_
    refine t_seq ?_
    obtain ⟨hf, hl, h4⟩ := torn_ok hc1
    have hfew := all_few (f := f) h4
    refine t_region ?_
    refine mvS' rfl ?_
    refine r_makeFunc rfl ?_
    refine r_build rfl rfl (by exact List.cons_ne_nil _ _) rfl (by repeat (first | exact (Parts.nil : Parts _ _ [] _) | (show Parts _ _ ((_, _) :: _) _; apply Parts.one; (· first | exact (rfl : _ = Ty.clo _ _) | exact (rfl : _ = Ty.str _)); (· exact rfl)))) (by exact (rfl : _ = some [_, _])) ?_
    refine r_load_ppN rfl rfl rfl (by exact Nat.le_of_ble_eq_true rfl) ?_
    refine r_op (opT_callFd (fid := 65) (caps := [Ty.ptr 8 0]) (S := [8, 500]) (K := [500]) (mv := [500]) (F := [1000]) (px := 2 ≤ (allF f text).length) (ok := fun k => k < 2) (tgs := fun k => [(8, Cont.cells 44 [Ty.row StrE 9 500 (filL f text k)])]) (tgx := [(8, Cont.cells 44 [Ty.row StrE 9 500 (filL f text 2)])]) (sets := [(8, Cont.cells 44 [Ty.row StrE 9 500 (filL f text 2)])]) (ρ := [(8, 1000), (500, 1001)]) (pre := fun k => [(1000, Cont.cells 44 [Ty.row StrE 9 1001 (filL f text k)])]) (post := fun k => [(1000, Cont.cells 44 [Ty.row StrE 9 1001 (filL f text (k + 1))])]) (argsF := fun k => [Ty.str (bs (nth (allF f text) k).1), Ty.any, Ty.ptr 1000 0]) (go := fun k => decide (k + 1 < 2)) (c_fill f hf text hl) rfl fin_hfv (fun _ => ⟨rfl, rfl⟩) (k_Fillings1 [] [] (by decide)).ex (fun k h2 hk => by rw [List.length_map] at hk; exact fil_ctr hk h2) rfl rfl rfl rfl (by decide) (by intro t h; rw [List.mem_singleton.1 h]; exact ⟨1001, by decide⟩) (by decide) (by decide) (allE_pub f _) (fun k tys hk => by obtain ⟨_, rfl⟩ := enc_at hk; exact cv_cons (cv_cons (cv_cons cv_nil (cv_ptr (by decide))) cv_any) (cv_pub rfl rfl)) (fun k => pre_cons (a := 8) (by decide) rfl (cc_cells (by decide) (cv_cons cv_nil (cv_row (by decide)))) pre_nil) (fun k _ _ => post_cons (a := 8) (b := 1000) (by decide) rfl (cc_cells (by decide) (cv_cons cv_nil (cv_row (by decide)))) post_nil) (fun k h2 hg => fil_px h2 (of_decide_eq_false hg)) (by decide) (fun k _ _ hg => of_decide_eq_true hg) (fun k h1 h2 hg => by have hg := of_decide_eq_false hg; rw [List.length_map] at h2; omega) (fun _ => rfl) rfl (allTags_cons rfl (Cont.sub_subs ⟨fil_nil0, trivial⟩) allTags_nil) (by decide) (by intro t h; rw [List.mem_singleton.1 h]; exact ⟨by decide, by simp⟩) (by simp) rfl (fun hlt w M h x hx => by rw [List.length_map] at h hlt; rw [filL_all hlt] at h; exact h x hx) (fun _ w M h x hx => h x hx)) ?_
    refine r_nil ?_
    refine i_then ?_
    refine t_seq ?_
    refine t_region ?_
    refine r_load_ptr rfl rfl (by decide) rfl rfl rfl ?_
    refine asR rfl ?_
    refine asI rfl ?_
    refine r_nil ?_
    refine i_then ?_
    refine t_ret ?_
    refine i_rp2 rfl rfl rfl ?_ ?_
    all_goals skip
    all_goals (rw [fv_2 hc1]; first | exact ret_row (by decide) | exact ret_refl rfl rfl)
set_option maxRecDepth 100000 in
theorem c_bookP (f : BForm) (p : Rdr) (h : p.read.length ≤ 13) (hw : f.widths.length ≤ 1000) (hn : ∀ r ∈ p.read, r.nums.length ≤ 1000) : Ctr Tryd.prog 57 [Ty.pp (rdrPl f p)] (bokT ⟨f, p.read⟩) := by
  refine fn_intro Tryd.func57 rfl (by decide) Tryd.ntmps57 (by exact Nat.le_of_ble_eq_true rfl) fun w0 M0 => ?_
  refine t_seq ?_
  refine t_region ?_
  refine r_alloc rfl (by exact List.cons_ne_nil _ _) rfl ?_
  refine r_nil ?_
  refine i_then ?_
  refine t_seq ?_
  refine t_draw mixed rfl ?_
  refine mvP rfl ?_
  refine r_nilCheck_pp rfl ?_
  refine r_field_pp rfl rfl rfl rfl rfl (by decide) ?_
  refine r_load_ppN rfl rfl rfl (by exact Nat.le_of_ble_eq_true rfl) ?_
  refine mvP rfl ?_
  refine r_nilCheck_pp rfl ?_
  refine r_field_pp rfl rfl rfl rfl rfl (by decide) ?_
  refine r_load_pp rfl rfl rfl rfl ?_
  refine r_build rfl rfl (by exact List.cons_ne_nil _ _) rfl (by repeat (first | exact (Parts.nil : Parts _ _ [] _) | (show Parts _ _ ((_, _) :: _) _; apply Parts.one; (· exact (rfl : _ = Ty.sl _ _)); (· exact rfl)) | (show Parts _ _ ((_, _) :: _) _; apply Parts.agg; (· exact (rfl : _ = Ty.agg _))))) (by exact (rfl : _ = some [_, _, _])) ?_
  refine r_call (c_own ⟨f, p.read⟩ h hw hn) rfl rfl rfl rfl rfl ?_
  refine r_storeN rfl rfl (by decide) rfl rfl rfl rfl rfl rfl ?_
  refine r_nil ?_
  refine ⟨by kernel_rfl, ?_⟩
  refine i_then ?_
  refine t_ret ?_
  refine i_rcell rfl rfl rfl rfl (by decide) rfl rfl rfl ?_
  exact ret_refl rfl rfl
set_option maxRecDepth 100000 in
theorem k_Restore1 (f : BForm) (p : Rdr) (h : p.read.length ≤ 13) (hw : f.widths.length ≤ 1000) (hn : ∀ r ∈ p.read, r.nums.length ≤ 1000) (b : Book) (k : Nat) (hk : k ≤ 2) : CtrG Tryd.prog 66 [1000, 1001] [(1000, Cont.cells 30 (bokTys b)), (1001, Cont.cells 3 [Ty.int .i64 (k : Nat)])] [Ty.any, Ty.pp (rdrPl f p), Ty.ptr 1000 0, Ty.ptr 1001 0] [(1000, Cont.cells 30 (bokTys ⟨f, p.read⟩)), (1001, Cont.cells 3 [Ty.int .i64 ((k + 1 : Nat) : Int)])] (Ty.bool (decide (k + 1 < 2))) := by
  refine fnG_intro Tryd.func66 rfl (by decide) Tryd.ntmps66 (by exact Nat.le_of_ble_eq_true rfl) fun w0 M0 => ?_
  refine t_seq ?_
  refine t_region ?_
  refine asB rfl ?_
  refine r_nil ?_
  refine i_then ?_
  refine t_seq ?_
  refine t_region ?_
  refine mvP rfl ?_
  refine r_call (c_bookP f p h hw hn) rfl rfl rfl rfl rfl ?_
  refine r_storeN rfl rfl (by decide) rfl rfl rfl rfl rfl rfl ?_
  refine r_nil ?_
  refine i_then ?_
  refine t_seq ?_
  refine t_region ?_
  refine r_load_ptr rfl rfl (by decide) rfl rfl rfl ?_
  refine r_add rfl rfl (by omega) (by omega) ?_
  refine r_store1 rfl rfl (by decide) rfl rfl (by exact (rfl : _ = Ty.int _ _)) rfl (by exact Nat.le_of_ble_eq_true rfl) rfl rfl (by exact (rfl : _ = [_])) ?_
  refine r_nil ?_
  refine i_then ?_
  refine t_seq ?_
  refine t_region ?_
  refine r_load_ptr rfl rfl (by decide) rfl rfl rfl ?_
  refine r_bin rfl rfl rfl ?_
  refine asB rfl ?_
  refine r_nil ?_
  refine i_then ?_
  refine t_ret ?_
  refine g_ret1 [1000, 1001] rfl rfl (by decide) ?_ ?_
  exact rc_cons rfl (cc_cells_eq (by decide) rfl rfl rfl) (rc_cons rfl (cc_cells_eq (by decide) rfl rfl rfl) rc_nil)
  all_goals skip
  all_goals exact rg_cv (cv_sub rfl rfl (Ty.sub_bool (res_b k)))
theorem res_ctr {f : BForm} {text : Byt} {k : Nat} (hf : FormOk f) (ho : RdrOk f (nth (allF f text) k).2) (h2 : k < 2) : CtrG Tryd.prog 66 [1000, 1001] [(1000, Cont.cells 30 (bokTys (resB f text k))), (1001, Cont.cells 3 [Ty.int .i64 (k : Nat)])] [Ty.any, Ty.pp (rdrPl f (nth (allF f text) k).2), Ty.ptr 1000 0, Ty.ptr 1001 0] [(1000, Cont.cells 30 (bokTys (resB f text (k + 1)))), (1001, Cont.cells 3 [Ty.int .i64 ((k + 1 : Nat) : Int)])] (Ty.bool (decide (k + 1 < 2))) := by
  have h := k_Restore1 f (nth (allF f text) k).2 ho.len (by have := hf.n2; omega) ho.num_len (resB f text k) k (by omega)
  rwa [← resB_succ] at h
set_option maxRecDepth 100000 in
theorem c_Restore (f : BForm) (text : Byt) : Ctr Tryd.prog 21 [frmT f, Ty.str (bs text)] (Ty.tup [bokT (resV f text).1, Ty.int .i64 (resV f text).2]) := by
  refine fn_intro Tryd.func21 rfl (by decide) Tryd.ntmps21 (by exact Nat.le_of_ble_eq_true rfl) fun w0 M0 => ?_
  refine t_seq ?_
  refine t_region ?_
  refine r_box_agg rfl ?_
  refine r_alloc rfl (by exact List.cons_ne_nil _ _) rfl ?_
  refine asI rfl ?_
  refine r_nil ?_
  refine i_then ?_
  refine t_seq ?_
  refine t_seq ?_
  refine t_region ?_
  refine r_load_ppN rfl rfl rfl (by exact Nat.le_of_ble_eq_true rfl) ?_
  refine mvS' rfl ?_
  refine r_call (c_torn _ _) rfl rfl rfl rfl rfl ?_
  refine asI rfl ?_
  refine r_nil ?_
  refine i_then ?_
  refine t_seq ?_
  refine t_region ?_
  refine mvI rfl ?_
  refine r_bin rfl rfl rfl ?_
  refine r_nil ?_
  refine i_then ?_
  refine t_cond_ndec rfl (fun hc1 => ?_) (fun hc1 => ?_)
  ·
    refine t_seq ?_
    refine t_region ?_
    refine r_build rfl rfl (by exact List.cons_ne_nil _ _) rfl (by repeat (exact (Parts.nil : Parts _ _ [] _))) (by exact (rfl : _ = some [_, _, _])) ?_
    refine mvI rfl ?_
    refine r_storeN rfl rfl (by decide) rfl rfl rfl rfl rfl rfl ?_
    refine asI rfl ?_
    refine r_nil ?_
    refine i_then ?_
    refine t_ret ?_
    refine i_then_ret ?_
    refine i_rcell2 rfl rfl rfl rfl rfl (by decide) rfl rfl rfl ?_ ?_
    all_goals skip
    all_goals (rw [rv_1 hc1]; first | exact ret_sub rfl rfl zero_bok | exact ret_refl rfl rfl)
  ·
    refine t_skip ?_
    refine i_then ?_
    refine t_seq ?_
    refine t_region ?_
    refine r_alloc rfl (by exact List.cons_ne_nil _ _) rfl ?_
    refine r_nil ?_
    refine i_then ?_
    refine t_seq ?_
    refine t_region ?_
    refine r_alloc rfl (by exact List.cons_ne_nil _ _) rfl ?_
    refine r_store1 rfl rfl (by decide) rfl rfl (by exact (rfl : _ = Ty.int _ _)) rfl (by exact Nat.le_of_ble_eq_true rfl) rfl rfl (by exact (rfl : _ = [_])) ?_
    refine r_nil ?_
    refine i_then ?_
    refine t_seq ?_
    obtain ⟨hf, hl, h4⟩ := torn_ok hc1
    have hfew := all_few (f := f) h4
    refine t_region ?_
    refine mvS' rfl ?_
    refine r_makeFunc rfl ?_
    refine r_build rfl rfl (by exact List.cons_ne_nil _ _) rfl (by repeat (first | exact (Parts.nil : Parts _ _ [] _) | (show Parts _ _ ((_, _) :: _) _; apply Parts.one; (· first | exact (rfl : _ = Ty.clo _ _) | exact (rfl : _ = Ty.str _)); (· exact rfl)))) (by exact (rfl : _ = some [_, _])) ?_
    refine r_load_ppN rfl rfl rfl (by exact Nat.le_of_ble_eq_true rfl) ?_
    refine r_op (opT_callFd (fid := 66) (caps := [Ty.ptr 8 0, Ty.ptr 9 0]) (S := [8, 9]) (K := []) (mv := []) (F := [1000, 1001]) (px := 2 ≤ (allF f text).length) (ok := fun k => k < 2) (tgs := fun k => [(8, Cont.cells 30 (bokTys (resB f text k))), (9, Cont.cells 3 [Ty.int .i64 (k : Nat)])]) (tgx := [(8, Cont.cells 30 (bokTys (resB f text 2))), (9, Cont.cells 3 [Ty.int .i64 ((2 : Nat) : Int)])]) (sets := [(8, Cont.cells 30 (bokTys (resB f text (min 2 (allF f text).length)))), (9, Cont.cells 3 [Ty.int .i64 ((min 2 (allF f text).length : Nat) : Int)])]) (ρ := [(8, 1000), (9, 1001)]) (pre := fun k => [(1000, Cont.cells 30 (bokTys (resB f text k))), (1001, Cont.cells 3 [Ty.int .i64 (k : Nat)])]) (post := fun k => [(1000, Cont.cells 30 (bokTys (resB f text (k + 1)))), (1001, Cont.cells 3 [Ty.int .i64 ((k + 1 : Nat) : Int)])]) (argsF := fun k => [Ty.any, Ty.pp (rdrPl f (nth (allF f text) k).2), Ty.ptr 1000 0, Ty.ptr 1001 0]) (go := fun k => decide (k + 1 < 2)) (c_fill f hf text hl) rfl fin_hfv (fun _ => ⟨rfl, rfl⟩) (k_Restore1 f Rdr.new (by decide) (by have := hf.n2; omega) (by intro r h; cases h) Book.zero 0 (by decide)).ex (fun k h2 hk => by rw [List.length_map] at hk; have ho := all_ok hf hk; exact res_ctr hf ho h2) rfl rfl rfl rfl (by decide) (by intro t h; cases h) (by decide) (by decide) (allE_pub f _) (fun k tys hk => by obtain ⟨_, rfl⟩ := enc_at hk; exact cv_cons (cv_cons (cv_cons (cv_cons cv_nil (cv_ptr (by decide))) (cv_ptr (by decide))) (cv_pub rfl rfl)) cv_any) (fun k => pre_cons (a := 8) (by decide) rfl (cc_cells_eq (by decide) rfl rfl rfl) (pre_cons (a := 9) (by decide) rfl (cc_cells_eq (by decide) rfl rfl rfl) pre_nil)) (fun k _ _ => post_cons (a := 8) (b := 1000) (by decide) rfl (cc_cells_eq (by decide) rfl rfl rfl) (post_cons (a := 9) (b := 1001) (by decide) rfl (cc_cells_eq (by decide) rfl rfl rfl) post_nil)) (fun k h2 hg => res_px h2 (of_decide_eq_false hg)) (by decide) (fun k _ _ hg => of_decide_eq_true hg) (fun k h1 h2 hg => by have hg := of_decide_eq_false hg; rw [List.length_map] at h2; omega) (fun _ => rfl) rfl (allTags_cons rfl (Cont.sub_subs res_zero) (allTags_cons rfl (Cont.sub_subs ⟨Ty.sub_int rfl, trivial⟩) allTags_nil)) (by decide) (by intro t h; cases h) (by simp) rfl (fun hlt w M h x hx => by rw [List.length_map] at h hlt; rw [show min 2 (allF f text).length = (allF f text).length by omega] at hx; exact h x hx) (fun hge w M h x hx => by rw [show min 2 (allF f text).length = 2 by omega] at hx; exact h x hx)) ?_
    refine r_nil ?_
    refine i_then ?_
    refine t_seq ?_
    refine t_seq ?_
    refine t_region ?_
    refine r_load_ptr rfl rfl (by decide) rfl rfl rfl ?_
    refine r_nil ?_
    refine i_then ?_
    refine t_block ?_
    refine t_seq ?_
    refine t_region ?_
    refine r_bin rfl rfl rfl ?_
    refine asB rfl ?_
    refine r_nil ?_
    refine i_then ?_
    refine t_cond_dec rfl (fun hc2 => ?_) (fun hc2 => ?_)
    ·
      refine t_seq ?_
      refine t_region ?_
      refine r_build rfl rfl (by exact List.cons_ne_nil _ _) rfl (by repeat (exact (Parts.nil : Parts _ _ [] _))) (by exact (rfl : _ = some [_, _, _])) ?_
      refine r_storeN rfl rfl (by decide) rfl rfl rfl rfl rfl rfl ?_
      refine asI rfl ?_
      refine r_nil ?_
      refine i_then ?_
      refine t_ret ?_
      refine i_block_ret ?_
      refine i_then_ret ?_
      refine i_rcell2 rfl rfl rfl rfl rfl (by decide) rfl rfl rfl ?_ ?_
      all_goals skip
      all_goals (rw [rv_2 hc1 hc2]; first | exact ret_sub rfl rfl zero_bok | exact ret_refl rfl rfl)
    ·
      refine t_seq ?_
      refine t_region ?_
      refine r_bin rfl rfl rfl ?_
      refine asB rfl ?_
      refine r_nil ?_
      refine i_then ?_
      refine t_cond_dec rfl (fun hc3 => ?_) (fun hc3 => ?_)
      ·
        refine t_seq ?_
        refine t_region ?_
        refine r_load_ptrN rfl rfl (by decide) rfl rfl (by exact Nat.le_of_ble_eq_true rfl) ?_
        refine r_storeN rfl rfl (by decide) rfl rfl rfl rfl rfl rfl ?_
        refine asI rfl ?_
        refine r_nil ?_
        refine i_then ?_
        refine t_ret ?_
        refine i_block_ret ?_
        refine i_then_ret ?_
        refine i_rcell2 rfl rfl rfl rfl rfl (by decide) rfl rfl rfl ?_ ?_
        all_goals skip
        all_goals (rw [rv_3 hc1 hc2 hc3]; exact ret_refl rfl rfl)
      ·
        refine t_skip ?_
        refine i_block ?_
        refine i_then ?_
        refine t_seq ?_
        refine t_region ?_
        refine r_build rfl rfl (by exact List.cons_ne_nil _ _) rfl (by repeat (exact (Parts.nil : Parts _ _ [] _))) (by exact (rfl : _ = some [_, _, _])) ?_
        refine r_storeN rfl rfl (by decide) rfl rfl rfl rfl rfl rfl ?_
        refine asI rfl ?_
        refine r_nil ?_
        refine i_then ?_
        refine t_ret ?_
        refine i_rcell2 rfl rfl rfl rfl rfl (by decide) rfl rfl rfl ?_ ?_
        all_goals skip
        all_goals (rw [rv_4 hc1 hc2 hc3]; first | exact ret_sub rfl rfl zero_bok | exact ret_refl rfl rfl)
end Go.Proofs.YtjjndkenddigiaaDoor

namespace Go.Proofs.YtjjndkenddigiaaDoor
open Go Go.T Go.RowKit
def bTwo : Book := ⟨⟨[3, 2], 2⟩, [⟨[12, 5], false⟩, ⟨[100, 40], false⟩, ⟨[7, 0], true⟩]⟩
def tTwo : Byt := [32, 32, 49, 50, 124, 32, 53, 124, 107, 10, 32, 49, 48, 48, 124, 52, 48, 124, 114, 10, 61, 32, 32, 49, 49, 50, 124, 32, 32, 52, 53, 124, 10, 43, 32, 32, 49, 49, 50, 124, 32, 32, 52, 53, 124, 10, 45, 32, 32, 55, 124, 32, 48, 124, 106, 10, 61, 32, 32, 49, 49, 50, 124, 32, 32, 52, 53, 124, 10]
def tTwo1 : Byt := tTwo.take 8 ++ [106] ++ tTwo.drop 9
def tTwo2 : Byt := tTwo.take 34
def tTwo3 : Byt := [32, 32, 63, 50, 124, 32, 53, 124, 63, 10, 32, 49, 48, 48, 124, 52, 48, 124, 114, 10, 61, 32, 32, 49, 49, 50, 124, 32, 32, 52, 53, 124, 10, 43, 32, 32, 49, 49, 50, 124, 32, 32, 52, 53, 124, 10, 45, 32, 32, 55, 124, 32, 48, 124, 106, 10, 61, 32, 32, 49, 49, 50, 124, 32, 32, 52, 53, 124, 10]
def fOne : BForm := ⟨[1], 1⟩
def tOne : Byt := [32, 63, 124, 63, 10, 61, 32, 32, 63, 124, 10]
def lOne : List Byt := [[32, 48, 124, 97, 10, 61, 32, 32, 48, 124, 10], [32, 49, 124, 98, 10, 61, 32, 32, 49, 124, 10]]
theorem aw1 : printV bTwo = tTwo := by kernel_rfl
theorem aw1' : bokY bTwo = 0 := by kernel_rfl
theorem aw2 : parV bTwo.form tTwo1 = (Book.zero, 8, 11) := by kernel_rfl
theorem aw3 : parV bTwo.form tTwo2 = (Book.zero, 34, 11) := by kernel_rfl
theorem aw4 : tearV tTwo [2, 8] = (tTwo3, 0) := by kernel_rfl
theorem aw5 : allF bTwo.form tTwo3 = [(tTwo, (runR bTwo.form Rdr.new tTwo).2)] := by kernel_rfl
theorem aw5' : (runR bTwo.form Rdr.new tTwo).2.read = bTwo.rows := by kernel_rfl
theorem aw6 : (allF fOne tOne).length = 10 := by kernel_rfl
theorem aw7 : ((allF fOne tOne).take 2).map Prod.fst = lOne := by kernel_rfl
theorem aw8 : footV bTwo = [[112, 45], [112, 45]] := by kernel_rfl
end Go.Proofs.YtjjndkenddigiaaDoor

namespace Go.Proofs.YtjjndkenddigiaaDoor
open Go Go.T
set_option maxHeartbeats 4000000
theorem pubTy_row_eq {A : As} {α : Type} {E : El α} {T tg : Nat} {xs ys : List α} (h : xs = ys) : PubTy A tg (Ty.row E T tg xs) (Ty.sl E ys) := by subst h; exact pubTy_row
theorem row_eqB (a b : BRow) : ((a.struck == b.struck) && decide (a.nums = b.nums)) = decide (a = b) := by
  cases a; cases b; rw [Bool.eq_iff_iff]; simp [and_comm]
theorem sameB_eq (a b : Book) : ((decide (a.form.widths = b.form.widths) && decide (a.form.lines = b.form.lines)) && decide (a.rows = b.rows)) = decide (a = b) := by
  obtain ⟨⟨aw, al⟩, ar⟩ := a
  obtain ⟨⟨bw, bl⟩, br⟩ := b
  rw [Bool.eq_iff_iff]; simp [and_assoc]
theorem aw_res : resV bTwo.form tTwo3 = (bTwo, 0) := by
  have e1 : tornE bTwo.form tTwo3 = 0 := by kernel_rfl
  unfold resV resB
  rw [aw5, e1]
  have := aw5'
  rw [if_neg (by decide), if_neg (by decide), if_pos (by decide), if_neg (by decide)]
  show ((⟨bTwo.form, (runR bTwo.form Rdr.new tTwo).2.read⟩ : Book), (0 : Int)) = _
  rw [this]
theorem aw_cnt : cntV fOne tOne = (10, 0) := by
  have e1 : tornE fOne tOne = 0 := by kernel_rfl
  unfold cntV; rw [aw6, e1]; rfl
theorem aw_fil : filV fOne tOne = (lOne, 0) := by
  have e1 : tornE fOne tOne = 0 := by kernel_rfl
  unfold filV filL; rw [aw7, e1]; rfl
attribute [local irreducible] printV parV tearV cntV filV resV footV bokY
attribute [local irreducible] dInt dBool dSl dPp dPtr dAgg dTup dClo dAny dEx dStr dGd dCells dVec dVs dRow dOp nth Tri Into TOps Ctr bodyPost Exit.then Exit.inBlock Code.wp Code.wpIn dPa dArr dMp dMap CtrG keepPost iterPost bodyPostM roundQ
set_option maxRecDepth 100000 in
theorem c_same1 (a b : BRow) : Ctr Tryd.prog 60 [rowT a, rowT b] (Ty.bool (decide (a = b))) := by
  refine fn_intro Tryd.func60 rfl (by decide) Tryd.ntmps60 (by exact Nat.le_of_ble_eq_true rfl) fun w0 M0 => ?_
  refine t_seq ?_
  refine t_region ?_
  refine r_box_agg rfl ?_
  refine r_box_agg rfl ?_
  refine asB rfl ?_
  refine r_nil ?_
  refine i_then ?_
  refine t_seq ?_
  refine t_region ?_
  refine r_field_pp rfl rfl rfl rfl rfl (by decide) ?_
  refine r_load_pp rfl rfl rfl rfl ?_
  refine r_field_pp rfl rfl rfl rfl rfl (by decide) ?_
  refine r_load_pp rfl rfl rfl rfl ?_
  refine r_eql_B und4 rfl rfl ?_
  refine mvB rfl ?_
  apply r_guard (s := 10) rfl rfl rfl
  · intro hg; apply opT_of; (refine r_field_pp rfl rfl rfl rfl rfl (by decide) ?_); refine r_nil ?_; exact rfl
  · exact rfl
  · exact rfl
  apply r_guard (s := 10) rfl rfl rfl
  · intro hg; apply opT_strip (s := 11) rfl (by (rw [hg]; rfl)); apply opT_of; (refine r_load_pp rfl rfl rfl rfl ?_); refine r_nil ?_; exact rfl
  · exact rfl
  · exact rfl
  apply r_guard (s := 10) rfl rfl rfl
  · intro hg; apply opT_of; (refine r_field_pp rfl rfl rfl rfl rfl (by decide) ?_); refine r_nil ?_; exact rfl
  · exact rfl
  · exact rfl
  apply r_guard (s := 10) rfl rfl rfl
  · intro hg; apply opT_strip (s := 13) rfl (by (rw [hg]; rfl)); apply opT_of; (refine r_load_pp rfl rfl rfl rfl ?_); refine r_nil ?_; exact rfl
  · exact rfl
  · exact rfl
  apply r_guard (s := 10) rfl rfl rfl
  · intro hg; apply opT_strip (s := 12) rfl (by (rw [hg]; rfl)); apply opT_strip (s := 14) rfl (by (rw [hg]; rfl)); apply opT_of; (refine r_call (c_Eq_int _ _) rfl rfl rfl rfl rfl ?_); refine r_nil ?_; exact rfl
  · exact rfl
  · exact rfl
  refine r_and rfl rfl ?_
  refine asB rfl ?_
  refine r_nil ?_
  refine i_then ?_
  refine t_ret ?_
  refine i_rp1 rfl rfl ?_
  all_goals skip
  exact ret_eq rfl rfl (congrArg Ty.bool (row_eqB a b))
set_option maxRecDepth 100000 in
theorem c_EqualFunc (a b : List BRow) : Ctr Tryd.prog 59 [Ty.sl BRowE a, Ty.sl BRowE b, Ty.clo 60 []] (Ty.bool (decide (a = b))) := by
  refine fn_intro Tryd.func59 rfl (by decide) Tryd.ntmps59 (by exact Nat.le_of_ble_eq_true rfl) fun w0 M0 => ?_
  refine t_fact (s := 0) rfl rfl sl_len fun ha => ?_
  refine t_fact (s := 1) rfl rfl sl_len fun hb => ?_
  refine t_seq ?_
  refine t_region ?_
  refine asB rfl ?_
  refine r_nil ?_
  refine i_then ?_
  refine t_seq ?_
  refine t_seq ?_
  refine t_region ?_
  refine mvS rfl ?_
  refine r_len rfl rfl rfl ?_
  refine mvS rfl ?_
  refine r_len rfl rfl rfl ?_
  refine r_bin rfl rfl rfl ?_
  refine r_nil ?_
  refine i_then ?_
  refine t_cond_ndec rfl (fun hc1 => ?_) (fun hc1 => ?_)
  ·
    try (simp only [Classical.not_not] at hc1)
    refine t_seq ?_
    refine t_region ?_
    refine asB rfl ?_
    refine r_nil ?_
    refine i_then ?_
    refine t_ret ?_
    refine i_then_ret ?_
    refine i_rp1 rfl rfl ?_
    all_goals skip
    exact ret_eq rfl rfl (congrArg Ty.bool (by rw [eq_comm, decide_eq_false_iff_not]; intro e; subst e; exact hc1 rfl))
  ·
    try (simp only [Classical.not_not] at hc1)
    refine t_skip ?_
    refine i_then ?_
    refine t_seq ?_
    refine t_seq ?_
    refine t_region ?_
    refine mvS rfl ?_
    refine r_len rfl rfl rfl ?_
    refine mvI rfl ?_
    refine r_nil ?_
    refine i_then ?_
    refine t_block ?_
    refine t_loop (fun (k : {k : Nat // a.take k = b.take k}) => live [(1, Ty.sl BRowE b), (2, Ty.clo 60 []), (15, Ty.sl BRowE a), (16, Ty.int .i64 a.length), (17, Ty.int .i64 (k.1 : Nat))] []) (fun k => a.length - k.1) (⟨0, by simp⟩) ?_ fun k => ?_
    · (refine Ent.mk' ?_ ?_ <;> (repeat' (first | exact allSub_zero | exact allTags_nil | refine allSub_succ' ?_ (Ty.sub_any _) | refine allSub_succ' ?_ (Ty.sub_refl _))))
    ·
      have hlen : a.length = b.length := by omega
      refine t_seq ?_
      refine t_region ?_
      refine r_bin rfl rfl rfl ?_
      refine r_nil ?_
      refine i_then ?_
      refine t_seq ?_
      refine t_cond_dec rfl (fun hc2 => ?_) (fun hc2 => ?_)
      ·
        try (simp only [Classical.not_not] at hc2)
        refine t_skip ?_
        refine i_then ?_
        refine t_seq ?_
        refine t_block ?_
        refine t_seq ?_
        refine t_region ?_
        refine mvI rfl ?_
        refine r_index_slN rfl rfl rfl rfl rfl rfl (by omega) ?_
        refine r_load_ppN rfl rfl rfl (by exact Nat.le_of_ble_eq_true rfl) ?_
        refine r_alloc rfl (by exact List.cons_ne_nil _ _) rfl ?_
        refine asI rfl ?_
        refine r_storeN rfl rfl (by decide) rfl rfl rfl rfl rfl rfl ?_
        refine r_nil ?_
        refine i_then ?_
        refine t_seq ?_
        refine t_region ?_
        refine mvS rfl ?_
        refine mvI rfl ?_
        refine r_index_slN rfl rfl rfl rfl rfl rfl (by omega) ?_
        refine r_load_ppN rfl rfl rfl (by exact Nat.le_of_ble_eq_true rfl) ?_
        refine r_alloc rfl (by exact List.cons_ne_nil _ _) rfl ?_
        refine r_storeN rfl rfl (by decide) rfl rfl rfl rfl rfl rfl ?_
        refine r_nil ?_
        refine i_then ?_
        refine t_seq ?_
        refine t_region ?_
        refine mvF rfl ?_
        refine r_load_ptrN rfl rfl (by decide) rfl rfl (by exact Nat.le_of_ble_eq_true rfl) ?_
        refine r_load_ptrN rfl rfl (by decide) rfl rfl (by exact Nat.le_of_ble_eq_true rfl) ?_
        refine r_callv rfl (c_same1 (nth a k.1) (nth b k.1)) rfl rfl rfl rfl rfl ?_
        refine r_not rfl ?_
        refine r_nil ?_
        refine i_then ?_
        refine t_cond_ndec rfl (fun hc3 => ?_) (fun hc3 => ?_)
        ·
          try (simp only [Classical.not_not] at hc3)
          refine t_seq ?_
          refine t_region ?_
          refine asB rfl ?_
          refine r_nil ?_
          refine i_then ?_
          refine t_ret ?_
          refine i_block_ret ?_
          refine i_then_ret ?_
          refine i_then_ret ?_
          refine i_block_ret ?_
          refine i_then_ret ?_
          refine i_rp1 rfl rfl ?_
          all_goals skip
          exact ret_eq rfl rfl (congrArg Ty.bool (by rw [eq_comm, decide_eq_false_iff_not]; exact ne_of_nth (k := k.1) (hc3)))
        ·
          try (simp only [Classical.not_not] at hc3)
          refine t_skip ?_
          refine i_block ?_
          refine i_then ?_
          refine t_region ?_
          refine r_add rfl rfl (by omega) (by omega) ?_
          refine mvI rfl ?_
          refine r_nil ?_
          refine i_round (⟨k.1 + 1, by rw [take_nth (by omega), take_nth (by omega), k.2, hc3]⟩) ?_ (by show a.length - (k.1 + 1) < a.length - k.1; omega)
          (refine Ent.mk' ?_ ?_ <;> (repeat' (first | exact allSub_zero | exact allTags_nil | refine allSub_succ' ?_ (Ty.sub_any _) | refine allSub_succ' ?_ (Ty.sub_refl _))))
          all_goals skip
      ·
        try (simp only [Classical.not_not] at hc2)
        refine t_exit ?_
        refine i_then_exit ?_
        refine i_then_exit ?_
        refine i_block_exit rfl ?_
        refine i_then ?_
        refine t_seq ?_
        refine t_region ?_
        refine asB rfl ?_
        refine r_nil ?_
        refine i_then ?_
        refine t_ret ?_
        refine i_rp1 rfl rfl ?_
        all_goals skip
        exact ret_eq rfl rfl (congrArg Ty.bool (by rw [eq_comm, decide_eq_true_eq]; have := k.2; rwa [List.take_of_length_le (by omega), List.take_of_length_le (by omega)] at this))
set_option maxRecDepth 100000 in
theorem c_same (a b : Book) : Ctr Tryd.prog 17 [bokT a, bokT b] (Ty.bool (decide (a = b))) := by
  refine fn_intro Tryd.func17 rfl (by decide) Tryd.ntmps17 (by exact Nat.le_of_ble_eq_true rfl) fun w0 M0 => ?_
  refine t_seq ?_
  refine t_region ?_
  refine r_box_agg rfl ?_
  refine r_box_agg rfl ?_
  refine asB rfl ?_
  refine r_nil ?_
  refine i_then ?_
  refine t_seq ?_
  refine t_region ?_
  refine r_field_pp rfl rfl rfl rfl rfl (by decide) ?_
  refine r_field_pp rfl rfl rfl rfl rfl (by decide) ?_
  refine r_load_pp rfl rfl rfl rfl ?_
  refine r_field_pp rfl rfl rfl rfl rfl (by decide) ?_
  refine r_field_pp rfl rfl rfl rfl rfl (by decide) ?_
  refine r_load_pp rfl rfl rfl rfl ?_
  refine r_call (c_Eq_int _ _) rfl rfl rfl rfl rfl ?_
  refine mvB rfl ?_
  apply r_guard (s := 12) rfl rfl rfl
  · intro hg; apply opT_of; (refine r_field_pp rfl rfl rfl rfl rfl (by decide) ?_); refine r_nil ?_; exact rfl
  · exact rfl
  · exact rfl
  apply r_guard (s := 12) rfl rfl rfl
  · intro hg; apply opT_strip (s := 13) rfl (by (rw [hg]; rfl)); apply opT_of; (refine r_field_pp rfl rfl rfl rfl rfl (by decide) ?_); refine r_nil ?_; exact rfl
  · exact rfl
  · exact rfl
  apply r_guard (s := 12) rfl rfl rfl
  · intro hg; apply opT_strip (s := 14) rfl (by (rw [hg]; rfl)); apply opT_of; (refine r_load_pp rfl rfl rfl rfl ?_); refine r_nil ?_; exact rfl
  · exact rfl
  · exact rfl
  apply r_guard (s := 12) rfl rfl rfl
  · intro hg; apply opT_of; (refine r_field_pp rfl rfl rfl rfl rfl (by decide) ?_); refine r_nil ?_; exact rfl
  · exact rfl
  · exact rfl
  apply r_guard (s := 12) rfl rfl rfl
  · intro hg; apply opT_strip (s := 16) rfl (by (rw [hg]; rfl)); apply opT_of; (refine r_field_pp rfl rfl rfl rfl rfl (by decide) ?_); refine r_nil ?_; exact rfl
  · exact rfl
  · exact rfl
  apply r_guard (s := 12) rfl rfl rfl
  · intro hg; apply opT_strip (s := 17) rfl (by (rw [hg]; rfl)); apply opT_of; (refine r_load_pp rfl rfl rfl rfl ?_); refine r_nil ?_; exact rfl
  · exact rfl
  · exact rfl
  apply r_guard (s := 12) rfl rfl rfl
  · intro hg; apply opT_strip (s := 15) rfl (by (rw [hg]; rfl)); apply opT_strip (s := 18) rfl (by (rw [hg]; rfl)); apply opT_of; (refine r_bin rfl rfl rfl ?_); refine r_nil ?_; exact rfl
  · exact rfl
  · exact rfl
  refine r_and rfl rfl ?_
  refine mvB rfl ?_
  apply r_guard (s := 21) rfl rfl rfl
  · intro hg; apply opT_of; (refine r_field_pp rfl rfl rfl rfl rfl (by decide) ?_); refine r_nil ?_; exact rfl
  · exact rfl
  · exact rfl
  apply r_guard (s := 21) rfl rfl rfl
  · intro hg; apply opT_strip (s := 22) rfl (by (rw [hg]; rfl)); apply opT_of; (refine r_load_pp rfl rfl rfl rfl ?_); refine r_nil ?_; exact rfl
  · exact rfl
  · exact rfl
  apply r_guard (s := 21) rfl rfl rfl
  · intro hg; apply opT_of; (refine r_field_pp rfl rfl rfl rfl rfl (by decide) ?_); refine r_nil ?_; exact rfl
  · exact rfl
  · exact rfl
  apply r_guard (s := 21) rfl rfl rfl
  · intro hg; apply opT_strip (s := 24) rfl (by (rw [hg]; rfl)); apply opT_of; (refine r_load_pp rfl rfl rfl rfl ?_); refine r_nil ?_; exact rfl
  · exact rfl
  · exact rfl
  apply r_guard (s := 21) rfl rfl rfl
  · intro hg; apply opT_strip (s := 23) rfl (by (rw [hg]; rfl)); apply opT_strip (s := 25) rfl (by (rw [hg]; rfl)); apply opT_of; (refine r_call (c_EqualFunc a.rows b.rows) rfl rfl rfl rfl rfl ?_); refine r_nil ?_; exact rfl
  · exact rfl
  · exact rfl
  refine r_and rfl rfl ?_
  refine asB rfl ?_
  refine r_nil ?_
  refine i_then ?_
  refine t_ret ?_
  refine i_rp1 rfl rfl ?_
  all_goals skip
  all_goals exact ret_eq rfl rfl (congrArg Ty.bool (sameB_eq a b))
set_option maxRecDepth 100000 in
theorem c_Two : Ctr Tryd.prog 40 [] (Ty.tup [bokT bTwo, Ty.str (bs tTwo)]) := by
  refine fn_intro Tryd.func40 rfl (by decide) Tryd.ntmps40 (by exact Nat.le_of_ble_eq_true rfl) fun w0 M0 => ?_
  refine t_seq ?_
  refine t_region ?_
  refine r_alloc rfl (by exact List.cons_ne_nil _ _) rfl ?_
  refine asS' rfl ?_
  refine r_nil ?_
  refine i_then ?_
  refine t_seq ?_
  refine t_region ?_
  refine r_buildSlice (E := I64) (xs := [_, _]) rfl rfl rfl rfl rfl (by decide) (by decide) (by repeat (first | exact (Parts.nil : Parts _ _ [] _) | (show Parts _ _ ((_, _) :: _) _; apply Parts.one; (· exact (rfl : _ = Ty.int _ _)); (· exact rfl)))) (by exact rfl) rfl ?_
  refine r_build rfl rfl (by exact List.cons_ne_nil _ _) rfl (by repeat (first | exact (Parts.nil : Parts _ _ [] _) | (show Parts _ _ ((_, _) :: _) _; apply Parts.one; (· first | exact (rfl : _ = Ty.int _ _) | exact (rfl : _ = Ty.sl _ _)); (· exact rfl)))) (by exact (rfl : _ = some [_, _])) ?_
  refine r_buildSlice (E := I64) (xs := [_, _]) rfl rfl rfl rfl rfl (by decide) (by decide) (by repeat (first | exact (Parts.nil : Parts _ _ [] _) | (show Parts _ _ ((_, _) :: _) _; apply Parts.one; (· exact (rfl : _ = Ty.int _ _)); (· exact rfl)))) (by exact rfl) rfl ?_
  refine r_build rfl rfl (by exact List.cons_ne_nil _ _) rfl (by repeat (first | exact (Parts.nil : Parts _ _ [] _) | (show Parts _ _ ((_, _) :: _) _; apply Parts.one; (· exact (rfl : _ = Ty.sl _ _)); (· exact rfl)))) (by exact (rfl : _ = some [_, _])) ?_
  refine r_buildSlice (E := I64) (xs := [_, _]) rfl rfl rfl rfl rfl (by decide) (by decide) (by repeat (first | exact (Parts.nil : Parts _ _ [] _) | (show Parts _ _ ((_, _) :: _) _; apply Parts.one; (· exact (rfl : _ = Ty.int _ _)); (· exact rfl)))) (by exact rfl) rfl ?_
  refine r_build rfl rfl (by exact List.cons_ne_nil _ _) rfl (by repeat (first | exact (Parts.nil : Parts _ _ [] _) | (show Parts _ _ ((_, _) :: _) _; apply Parts.one; (· exact (rfl : _ = Ty.sl _ _)); (· exact rfl)))) (by exact (rfl : _ = some [_, _])) ?_
  refine r_buildSlice (E := I64) (xs := [_, _]) rfl rfl rfl rfl rfl (by decide) (by decide) (by repeat (first | exact (Parts.nil : Parts _ _ [] _) | (show Parts _ _ ((_, _) :: _) _; apply Parts.one; (· exact (rfl : _ = Ty.int _ _)); (· exact rfl)))) (by exact rfl) rfl ?_
  refine r_build rfl rfl (by exact List.cons_ne_nil _ _) rfl (by repeat (first | exact (Parts.nil : Parts _ _ [] _) | (show Parts _ _ ((_, _) :: _) _; apply Parts.one; (· first | exact (rfl : _ = Ty.sl _ _) | exact (rfl : _ = Ty.bool _)); (· exact rfl)))) (by exact (rfl : _ = some [_, _])) ?_
  refine r_buildSlice (E := BRowE) (xs := bTwo.rows) rfl rfl rfl rfl rfl (by decide) (by decide) (by repeat (first | exact (Parts.nil : Parts _ _ [] _) | (show Parts _ _ ((_, _) :: _) _; apply Parts.agg; (· exact (rfl : _ = Ty.agg _))))) (by exact rfl) rfl ?_
  refine r_build rfl rfl (by exact List.cons_ne_nil _ _) rfl (by repeat (first | exact (Parts.nil : Parts _ _ [] _) | (show Parts _ _ ((_, _) :: _) _; apply Parts.one; (· exact (rfl : _ = Ty.sl _ _)); (· exact rfl)) | (show Parts _ _ ((_, _) :: _) _; apply Parts.agg; (· exact (rfl : _ = Ty.agg _))))) (by exact (rfl : _ = some [_, _, _])) ?_
  refine r_storeN rfl rfl (by decide) rfl rfl rfl rfl rfl rfl ?_
  refine asS' rfl ?_
  refine r_nil ?_
  refine i_then ?_
  refine t_ret ?_
  refine i_rcell2 rfl rfl rfl rfl rfl (by decide) rfl rfl rfl ?_ ?_
  all_goals exact ret_refl rfl rfl
  all_goals trace_state
theorem two_rng : ∀ r ∈ bTwo.rows, Rng r.nums := by unfold Rng; decide
theorem c_aw1 : Ctr Tryd.prog 14 [bokT bTwo] (Ty.tup [Ty.str (bs tTwo), Ty.int .i64 0]) := by
  have h := c_Print bTwo two_rng
  rwa [aw1, aw1'] at h
theorem c_aw2 : Ctr Tryd.prog 15 [frmT bTwo.form, Ty.str (bs tTwo1)] (Ty.tup [bokT Book.zero, Ty.int .i64 8, Ty.int .i64 11]) := by
  have h := c_Parse bTwo.form tTwo1 (by decide)
  unfold parT at h
  rwa [aw2] at h
theorem c_aw3 : Ctr Tryd.prog 15 [frmT bTwo.form, Ty.str (bs tTwo2)] (Ty.tup [bokT Book.zero, Ty.int .i64 34, Ty.int .i64 11]) := by
  have h := c_Parse bTwo.form tTwo2 (by decide)
  unfold parT at h
  rwa [aw3] at h
theorem c_aw4 : Ctr Tryd.prog 34 [Ty.str (bs tTwo), Ty.sl I64 [2, 8]] (Ty.tup [Ty.str (bs tTwo3), Ty.int .i64 0]) := by
  have h := c_Tear tTwo [2, 8] (by decide)
  rwa [aw4] at h
theorem c_aw5 : Ctr Tryd.prog 21 [frmT bTwo.form, Ty.str (bs tTwo3)] (Ty.tup [bokT bTwo, Ty.int .i64 0]) := by
  have h := c_Restore bTwo.form tTwo3
  rwa [aw_res] at h
theorem c_aw6 : Ctr Tryd.prog 19 [frmT fOne, Ty.str (bs tOne)] (Ty.tup [Ty.int .i64 10, Ty.int .i64 0]) := by
  have h := c_Count fOne tOne
  rwa [aw_cnt] at h
theorem c_aw7 : Ctr Tryd.prog 20 [frmT fOne, Ty.str (bs tOne)] (Ty.tup [Ty.sl StrE lOne, Ty.int .i64 0]) := by
  have h := c_Fillings fOne tOne
  rwa [aw_fil] at h
theorem c_aw8 : Ctr Tryd.prog 41 [bokT bTwo] (Ty.tup [Ty.sl RowE [[112, 45], [112, 45]], Ty.int .i64 0]) := by
  have h := c_Foots bTwo two_rng
  rwa [aw8, aw1'] at h
set_option maxRecDepth 100000 in
theorem c_awake : Ctr Tryd.prog 11 [] (Ty.bool true) := by
  refine fn_intro Tryd.func11 rfl (by decide) Tryd.ntmps11 (by exact Nat.le_of_ble_eq_true rfl) fun w0 M0 => ?_
  refine t_seq ?_
  refine t_region ?_
  refine asB rfl ?_
  refine r_nil ?_
  refine i_then ?_
  refine t_seq ?_
  refine t_region ?_
  refine r_call (c_Two) rfl rfl rfl rfl rfl ?_
  refine mvT rfl ?_
  refine r_extract rfl rfl ?_
  refine r_extract rfl rfl ?_
  refine r_alloc rfl (by exact List.cons_ne_nil _ _) rfl ?_
  refine r_storeN rfl rfl (by decide) rfl rfl rfl rfl rfl rfl ?_
  refine asS' rfl ?_
  refine r_nil ?_
  refine i_then ?_
  refine t_seq ?_
  refine t_pub (tg := 2) [(1, Ty.pp (bokTys bTwo))] (by decide) rfl ⟨pub_ptr (T := 30) (tg := 2) (off := 0) (l := bokTys bTwo) rfl rfl rfl (by decide), trivial⟩ ?_
  refine t_region ?_
  refine r_load_ppN rfl rfl rfl (by exact Nat.le_of_ble_eq_true rfl) ?_
  refine r_call c_aw1 rfl rfl rfl rfl rfl ?_
  refine mvT rfl ?_
  refine r_extract rfl rfl ?_
  refine r_extract rfl rfl ?_
  refine asS' rfl ?_
  refine asI rfl ?_
  refine r_nil ?_
  refine i_then ?_
  refine t_seq ?_
  refine t_forget (B := live [(1, Ty.pp (bokTys bTwo)), (2, Ty.str (bs tTwo)), (3, Ty.str (bs tTwo)), (4, Ty.int .i64 0)] []) ?_ ?_
  · (refine Ent.mk' ?_ ?_ <;> (repeat' (first | exact allSub_zero | exact allTags_nil | refine allSub_succ' ?_ (Ty.sub_any _) | refine allSub_succ' ?_ (Ty.sub_refl _))))
  refine t_draw mixed rfl ?_
  refine r_field_pp rfl rfl rfl rfl rfl (by decide) ?_
  refine r_load_ppN rfl rfl rfl (by exact Nat.le_of_ble_eq_true rfl) ?_
  refine mvS' rfl ?_
  refine r_cutS_hi (hi := 8) rfl rfl rfl rfl (by decide) ?_
  refine r_catS rfl rfl (by decide) ?_
  refine mvS' rfl ?_
  refine r_cutS_lo (lo := 9) rfl rfl rfl rfl (by decide) ?_
  refine r_catS rfl rfl (by decide) ?_
  refine r_call c_aw2 rfl rfl rfl rfl rfl ?_
  refine mvT rfl ?_
  refine r_extract rfl rfl ?_
  refine r_extract rfl rfl ?_
  refine r_extract rfl rfl ?_
  refine r_alloc rfl (by exact List.cons_ne_nil _ _) rfl ?_
  refine r_storeN rfl rfl (by decide) rfl rfl rfl rfl rfl rfl ?_
  refine asI rfl ?_
  refine asI rfl ?_
  refine r_nil ?_
  refine ⟨by kernel_rfl, ?_⟩
  refine i_then ?_
  refine t_seq ?_
  refine t_forget (B := live [(1, Ty.pp (bokTys bTwo)), (2, Ty.str (bs tTwo)), (3, Ty.str (bs tTwo)), (4, Ty.int .i64 0), (6, Ty.int .i64 8), (7, Ty.int .i64 11)] []) ?_ ?_
  · (refine Ent.mk' ?_ ?_ <;> (repeat' (first | exact allSub_zero | exact allTags_nil | refine allSub_succ' ?_ (Ty.sub_any _) | refine allSub_succ' ?_ (Ty.sub_refl _))))
  refine t_draw mixed rfl ?_
  refine r_field_pp rfl rfl rfl rfl rfl (by decide) ?_
  refine r_load_ppN rfl rfl rfl (by exact Nat.le_of_ble_eq_true rfl) ?_
  refine mvS' rfl ?_
  refine r_cutS_hi (hi := 34) rfl rfl rfl rfl (by decide) ?_
  refine r_call c_aw3 rfl rfl rfl rfl rfl ?_
  refine mvT rfl ?_
  refine r_extract rfl rfl ?_
  refine r_extract rfl rfl ?_
  refine r_extract rfl rfl ?_
  refine r_alloc rfl (by exact List.cons_ne_nil _ _) rfl ?_
  refine r_storeN rfl rfl (by decide) rfl rfl rfl rfl rfl rfl ?_
  refine asI rfl ?_
  refine asI rfl ?_
  refine r_nil ?_
  refine ⟨by kernel_rfl, ?_⟩
  refine i_then ?_
  refine t_seq ?_
  refine t_forget (B := live [(1, Ty.pp (bokTys bTwo)), (2, Ty.str (bs tTwo)), (3, Ty.str (bs tTwo)), (4, Ty.int .i64 0), (6, Ty.int .i64 8), (7, Ty.int .i64 11), (9, Ty.int .i64 34), (10, Ty.int .i64 11)] []) ?_ ?_
  · (refine Ent.mk' ?_ ?_ <;> (repeat' (first | exact allSub_zero | exact allTags_nil | refine allSub_succ' ?_ (Ty.sub_any _) | refine allSub_succ' ?_ (Ty.sub_refl _))))
  refine t_region ?_
  refine mvS' rfl ?_
  refine r_buildSlice (E := I64) (xs := [_, _]) rfl rfl rfl rfl rfl (by decide) (by decide) (by repeat (first | exact (Parts.nil : Parts _ _ [] _) | (show Parts _ _ ((_, _) :: _) _; apply Parts.one; (· exact (rfl : _ = Ty.int _ _)); (· exact rfl)))) (by exact rfl) rfl ?_
  refine r_call c_aw4 rfl rfl rfl rfl rfl ?_
  refine mvT rfl ?_
  refine r_extract rfl rfl ?_
  refine r_extract rfl rfl ?_
  refine asS' rfl ?_
  refine asI rfl ?_
  refine r_nil ?_
  refine i_then ?_
  refine t_seq ?_
  refine t_region ?_
  refine r_field_pp rfl rfl rfl rfl rfl (by decide) ?_
  refine r_load_ppN rfl rfl rfl (by exact Nat.le_of_ble_eq_true rfl) ?_
  refine mvS' rfl ?_
  refine r_call c_aw5 rfl rfl rfl rfl rfl ?_
  refine mvT rfl ?_
  refine r_extract rfl rfl ?_
  refine r_extract rfl rfl ?_
  refine r_alloc rfl (by exact List.cons_ne_nil _ _) rfl ?_
  refine r_storeN rfl rfl (by decide) rfl rfl rfl rfl rfl rfl ?_
  refine asI rfl ?_
  refine r_nil ?_
  refine i_then ?_
  refine t_seq ?_
  refine t_forget (B := live [(1, Ty.pp (bokTys bTwo)), (2, Ty.str (bs tTwo)), (3, Ty.str (bs tTwo)), (4, Ty.int .i64 0), (6, Ty.int .i64 8), (7, Ty.int .i64 11), (9, Ty.int .i64 34), (10, Ty.int .i64 11), (12, Ty.int .i64 0), (13, Ty.ptr 14 0), (14, Ty.int .i64 0)] [(14, Cont.cells 30 (bokTys bTwo))]) ?_ ?_
  · (refine Ent.mk' ?_ ?_ <;> (repeat' (first | exact allSub_zero | exact allTags_nil | refine allSub_succ' ?_ (Ty.sub_any _) | refine allSub_succ' ?_ (Ty.sub_refl _) | refine allTags_cons rfl (Cont.sub_refl _) ?_)))
  refine t_pub (tg := 14) [(13, Ty.pp (bokTys bTwo))] (by decide) rfl ⟨pub_ptr (T := 30) (tg := 14) (off := 0) (l := bokTys bTwo) rfl rfl rfl (by decide), trivial⟩ ?_
  refine t_region ?_
  refine r_buildSlice (E := I64) (xs := [_]) rfl rfl rfl rfl rfl (by decide) (by decide) (by repeat (first | exact (Parts.nil : Parts _ _ [] _) | (show Parts _ _ ((_, _) :: _) _; apply Parts.one; (· exact (rfl : _ = Ty.int _ _)); (· exact rfl)))) (by exact rfl) rfl ?_
  refine r_build rfl rfl (by exact List.cons_ne_nil _ _) rfl (by repeat (first | exact (Parts.nil : Parts _ _ [] _) | (show Parts _ _ ((_, _) :: _) _; apply Parts.one; (· first | exact (rfl : _ = Ty.int _ _) | exact (rfl : _ = Ty.sl _ _)); (· exact rfl)))) (by exact (rfl : _ = some [_, _])) ?_
  refine r_alloc rfl (by exact List.cons_ne_nil _ _) rfl ?_
  refine r_storeN rfl rfl (by decide) rfl rfl rfl rfl rfl rfl ?_
  refine r_nil ?_
  refine i_then ?_
  refine t_seq ?_
  refine t_region ?_
  refine r_load_ptrN rfl rfl (by decide) rfl rfl (by exact Nat.le_of_ble_eq_true rfl) ?_
  refine r_call c_aw6 rfl rfl rfl rfl rfl ?_
  refine mvT rfl ?_
  refine r_extract rfl rfl ?_
  refine r_extract rfl rfl ?_
  refine asI rfl ?_
  refine asI rfl ?_
  refine r_nil ?_
  refine i_then ?_
  refine t_seq ?_
  refine t_region ?_
  refine r_load_ptrN rfl rfl (by decide) rfl rfl (by exact Nat.le_of_ble_eq_true rfl) ?_
  refine r_call c_aw7 rfl rfl rfl rfl rfl ?_
  refine mvT rfl ?_
  refine r_extract rfl rfl ?_
  refine r_extract rfl rfl ?_
  refine asS rfl ?_
  refine asI rfl ?_
  refine r_nil ?_
  refine i_then ?_
  refine t_seq ?_
  refine t_region ?_
  refine r_load_ppN rfl rfl rfl (by exact Nat.le_of_ble_eq_true rfl) ?_
  refine r_call c_aw8 rfl rfl rfl rfl rfl ?_
  refine mvT rfl ?_
  refine r_extract rfl rfl ?_
  refine r_extract rfl rfl ?_
  refine asS rfl ?_
  refine asI rfl ?_
  refine r_nil ?_
  refine i_then ?_
  refine t_seq ?_
  refine t_forget (B := live [(1, Ty.pp (bokTys bTwo)), (2, Ty.str (bs tTwo)), (3, Ty.str (bs tTwo)), (4, Ty.int .i64 0), (6, Ty.int .i64 8), (7, Ty.int .i64 11), (9, Ty.int .i64 34), (10, Ty.int .i64 11), (12, Ty.int .i64 0), (13, Ty.pp (bokTys bTwo)), (14, Ty.int .i64 0), (16, Ty.int .i64 10), (17, Ty.int .i64 0), (18, Ty.sl StrE lOne), (19, Ty.int .i64 0), (20, Ty.sl RowE [[112, 45], [112, 45]]), (21, Ty.int .i64 0)] []) ?_ ?_
  · (refine Ent.mk' ?_ ?_ <;> (repeat' (first | exact allSub_zero | exact allTags_nil | refine allSub_succ' ?_ (Ty.sub_any _) | refine allSub_succ' ?_ (Ty.sub_refl _))))
  refine t_region ?_
  refine mvI rfl ?_
  refine r_bin rfl rfl rfl ?_
  refine mvB rfl ?_
  apply r_guard (s := 85) rfl rfl rfl
  · intro hg; apply opT_of; (refine mvI rfl ?_); refine r_nil ?_; exact rfl
  · exact rfl
  · exact rfl
  apply r_guard (s := 85) rfl rfl rfl
  · intro hg; apply opT_strip (s := 86) rfl (by exact hg); apply opT_of; (refine r_bin rfl rfl rfl ?_); refine r_nil ?_; exact rfl
  · exact rfl
  · exact rfl
  refine r_and rfl rfl ?_
  refine mvB rfl ?_
  apply r_guard (s := 89) rfl rfl rfl
  · intro hg; apply opT_of; (refine mvI rfl ?_); refine r_nil ?_; exact rfl
  · exact rfl
  · exact rfl
  apply r_guard (s := 89) rfl rfl rfl
  · intro hg; apply opT_strip (s := 90) rfl (by exact hg); apply opT_of; (refine r_bin rfl rfl rfl ?_); refine r_nil ?_; exact rfl
  · exact rfl
  · exact rfl
  refine r_and rfl rfl ?_
  refine mvB rfl ?_
  apply r_guard (s := 93) rfl rfl rfl
  · intro hg; apply opT_of; (refine mvI rfl ?_); refine r_nil ?_; exact rfl
  · exact rfl
  · exact rfl
  apply r_guard (s := 93) rfl rfl rfl
  · intro hg; apply opT_strip (s := 94) rfl (by exact hg); apply opT_of; (refine r_bin rfl rfl rfl ?_); refine r_nil ?_; exact rfl
  · exact rfl
  · exact rfl
  refine r_and rfl rfl ?_
  refine mvB rfl ?_
  apply r_guard (s := 97) rfl rfl rfl
  · intro hg; apply opT_of; (refine mvI rfl ?_); refine r_nil ?_; exact rfl
  · exact rfl
  · exact rfl
  apply r_guard (s := 97) rfl rfl rfl
  · intro hg; apply opT_strip (s := 98) rfl (by exact hg); apply opT_of; (refine r_bin rfl rfl rfl ?_); refine r_nil ?_; exact rfl
  · exact rfl
  · exact rfl
  refine r_and rfl rfl ?_
  refine mvB rfl ?_
  apply r_guard (s := 101) rfl rfl rfl
  · intro hg; apply opT_of; (refine mvI rfl ?_); refine r_nil ?_; exact rfl
  · exact rfl
  · exact rfl
  apply r_guard (s := 101) rfl rfl rfl
  · intro hg; apply opT_strip (s := 102) rfl (by exact hg); apply opT_of; (refine r_bin rfl rfl rfl ?_); refine r_nil ?_; exact rfl
  · exact rfl
  · exact rfl
  refine r_and rfl rfl ?_
  refine mvB rfl ?_
  apply r_guard (s := 105) rfl rfl rfl
  · intro hg; apply opT_of; (refine mvI rfl ?_); refine r_nil ?_; exact rfl
  · exact rfl
  · exact rfl
  apply r_guard (s := 105) rfl rfl rfl
  · intro hg; apply opT_strip (s := 106) rfl (by exact hg); apply opT_of; (refine r_bin rfl rfl rfl ?_); refine r_nil ?_; exact rfl
  · exact rfl
  · exact rfl
  refine r_and rfl rfl ?_
  refine mvB rfl ?_
  apply r_guard (s := 109) rfl rfl rfl
  · intro hg; apply opT_of; (refine mvI rfl ?_); refine r_nil ?_; exact rfl
  · exact rfl
  · exact rfl
  apply r_guard (s := 109) rfl rfl rfl
  · intro hg; apply opT_strip (s := 110) rfl (by exact hg); apply opT_of; (refine r_bin rfl rfl rfl ?_); refine r_nil ?_; exact rfl
  · exact rfl
  · exact rfl
  refine r_and rfl rfl ?_
  refine mvB rfl ?_
  apply r_guard (s := 113) rfl rfl rfl
  · intro hg; apply opT_of; (refine mvS' rfl ?_); refine r_nil ?_; exact rfl
  · exact rfl
  · exact rfl
  apply r_guard (s := 113) rfl rfl rfl
  · intro hg; apply opT_of; (refine mvS' rfl ?_); refine r_nil ?_; exact rfl
  · exact rfl
  · exact rfl
  apply r_guard (s := 113) rfl rfl rfl
  · intro hg; apply opT_strip (s := 114) rfl (by exact hg); apply opT_strip (s := 115) rfl (by exact hg); apply opT_of; (refine r_eqlS rfl rfl ?_); refine r_nil ?_; exact rfl
  · exact rfl
  · exact rfl
  refine r_and rfl rfl ?_
  refine mvB rfl ?_
  apply r_guard (s := 118) rfl rfl rfl
  · intro hg; apply opT_of; (refine mvI rfl ?_); refine r_nil ?_; exact rfl
  · exact rfl
  · exact rfl
  apply r_guard (s := 118) rfl rfl rfl
  · intro hg; apply opT_strip (s := 119) rfl (by exact hg); apply opT_of; (refine r_bin rfl rfl rfl ?_); refine r_nil ?_; exact rfl
  · exact rfl
  · exact rfl
  refine r_and rfl rfl ?_
  refine mvB rfl ?_
  apply r_guard (s := 122) rfl rfl rfl
  · intro hg; apply opT_of; (refine mvI rfl ?_); refine r_nil ?_; exact rfl
  · exact rfl
  · exact rfl
  apply r_guard (s := 122) rfl rfl rfl
  · intro hg; apply opT_strip (s := 123) rfl (by exact hg); apply opT_of; (refine r_bin rfl rfl rfl ?_); refine r_nil ?_; exact rfl
  · exact rfl
  · exact rfl
  refine r_and rfl rfl ?_
  refine mvB rfl ?_
  apply r_guard (s := 126) rfl rfl rfl
  · intro hg; apply opT_of; (refine r_load_ppN rfl rfl rfl (by exact Nat.le_of_ble_eq_true rfl) ?_); refine r_nil ?_; exact rfl
  · exact rfl
  · exact rfl
  apply r_guard (s := 126) rfl rfl rfl
  · intro hg; apply opT_of; (refine r_load_ppN rfl rfl rfl (by exact Nat.le_of_ble_eq_true rfl) ?_); refine r_nil ?_; exact rfl
  · exact rfl
  · exact rfl
  apply r_guard (s := 126) rfl rfl rfl
  · intro hg; apply opT_strip (s := 127) rfl (by exact hg); apply opT_strip (s := 128) rfl (by exact hg); apply opT_of; (refine r_call (c_same _ _) rfl rfl rfl rfl rfl ?_); refine r_nil ?_; exact rfl
  · exact rfl
  · exact rfl
  refine r_and rfl rfl ?_
  refine mvB rfl ?_
  apply r_guard (s := 131) rfl rfl rfl
  · intro hg; apply opT_of; (refine mvI rfl ?_); refine r_nil ?_; exact rfl
  · exact rfl
  · exact rfl
  apply r_guard (s := 131) rfl rfl rfl
  · intro hg; apply opT_strip (s := 132) rfl (by exact hg); apply opT_of; (refine r_bin rfl rfl rfl ?_); refine r_nil ?_; exact rfl
  · exact rfl
  · exact rfl
  refine r_and rfl rfl ?_
  refine mvB rfl ?_
  apply r_guard (s := 135) rfl rfl rfl
  · intro hg; apply opT_of; (refine mvS rfl ?_); refine r_nil ?_; exact rfl
  · exact rfl
  · exact rfl
  apply r_guard (s := 135) rfl rfl rfl
  · intro hg; apply opT_of; (refine r_buildSlice (E := StrE) (xs := lOne) rfl rfl rfl rfl rfl (by decide) (by decide) (by repeat (first | exact (Parts.nil : Parts _ _ [] _) | (show Parts _ _ ((_, _) :: _) _; apply Parts.one; (· exact (rfl : _ = Ty.str _)); (· exact rfl)))) (by exact rfl) rfl ?_); refine r_nil ?_; exact rfl
  · exact rfl
  · exact rfl
  apply r_guard (s := 135) rfl rfl rfl
  · intro hg; apply opT_strip (s := 136) rfl (by exact hg); apply opT_strip (s := 137) rfl (by exact hg); apply opT_of; (refine r_call (c_Equal_str _ _) rfl rfl rfl rfl rfl ?_); refine r_nil ?_; exact rfl
  · exact rfl
  · exact rfl
  refine r_and rfl rfl ?_
  refine mvB rfl ?_
  apply r_guard (s := 140) rfl rfl rfl
  · intro hg; apply opT_of; (refine mvS rfl ?_); refine r_nil ?_; exact rfl
  · exact rfl
  · exact rfl
  apply r_guard (s := 140) rfl rfl rfl
  · intro hg; apply opT_of; (refine r_buildSlice (E := I64) (xs := [_, _]) rfl rfl rfl rfl rfl (by decide) (by decide) (by repeat (first | exact (Parts.nil : Parts _ _ [] _) | (show Parts _ _ ((_, _) :: _) _; apply Parts.one; (· exact (rfl : _ = Ty.int _ _)); (· exact rfl)))) (by exact rfl) rfl ?_); refine r_nil ?_; exact rfl
  · exact rfl
  · exact rfl
  apply r_guard (s := 140) rfl rfl rfl
  · intro hg; apply opT_of; (refine r_buildSlice (E := I64) (xs := [_, _]) rfl rfl rfl rfl rfl (by decide) (by decide) (by repeat (first | exact (Parts.nil : Parts _ _ [] _) | (show Parts _ _ ((_, _) :: _) _; apply Parts.one; (· exact (rfl : _ = Ty.int _ _)); (· exact rfl)))) (by exact rfl) rfl ?_); refine r_nil ?_; exact rfl
  · exact rfl
  · exact rfl
  apply r_guard (s := 140) rfl rfl rfl
  · intro hg; apply opT_strip (s := 142) rfl (by exact hg); apply opT_strip (s := 143) rfl (by exact hg); apply opT_of; (refine r_buildSlice (E := RowE) (xs := [[112, 45], [112, 45]]) rfl rfl rfl rfl rfl (by decide) (by decide) (by repeat (first | exact (Parts.nil : Parts _ _ [] _) | (show Parts _ _ ((_, _) :: _) _; apply Parts.one; (· exact (rfl : _ = Ty.sl _ _)); (· exact rfl)))) (by exact rfl) rfl ?_); refine r_nil ?_; exact rfl
  · exact rfl
  · exact rfl
  apply r_guard (s := 140) rfl rfl rfl
  · intro hg; apply opT_strip (s := 141) rfl (by exact hg); apply opT_strip (s := 144) rfl (by exact hg); apply opT_of; (refine r_call (c_EqRows _ _) rfl rfl rfl rfl rfl ?_); refine r_nil ?_; exact rfl
  · exact rfl
  · exact rfl
  refine r_and rfl rfl ?_
  refine asB rfl ?_
  refine r_nil ?_
  refine i_then ?_
  refine t_ret ?_
  refine i_rp1 rfl rfl ?_
  all_goals exact ret_refl rfl rfl
  all_goals trace_state
end Go.Proofs.YtjjndkenddigiaaDoor

namespace Go.Proofs.YtjjndkenddigiaaDoor
open Go Go.T
structure Sk where
  grain : List Int
  taken : Int
  mixed : Int
def U8 : El Int := El.mk' 1 (fun n => [Ty.int .u8 n]) (fun _ => rfl) (fun _ => ⟨rfl, rfl, rfl⟩)
def skTys (s : Sk) : List Ty := [Ty.sl U8 s.grain, Ty.int .i64 s.taken, Ty.int .u32 s.mixed]
def mixB (s : Sk) : Int := IntKind.u32.wrap (bits .xor .u32 s.mixed (IntKind.u32.wrap (nth s.grain (s.taken.tmod s.grain.length).toNat)) * 16777619)
def skMix1 (s : Sk) : Sk := if (s.grain.length : Int) > 0 then { s with mixed := mixB s } else s
def skTake (s : Sk) : Sk := { s with taken := s.taken + 1 }
def mixC (s : Sk) : Int := IntKind.u32.wrap (IntKind.u32.wrap (s.mixed * 1664525) + 1013904223)
def skMix2 (s : Sk) : Sk := if s.taken > (s.grain.length : Int) then { s with mixed := mixC s } else s
theorem skMix2_pos {s : Sk} (h : (s.grain.length : Int) < s.taken) : skMix2 s = { s with mixed := mixC s } := if_pos h
theorem skMix2_neg {s : Sk} (h : ¬ (s.grain.length : Int) < s.taken) : skMix2 s = s := if_neg h
def skNext (s : Sk) : Sk := skMix2 (skTake (skMix1 s))
theorem skNext_neg {s : Sk} (h : ¬ ((skMix1 s).grain.length : Int) < (skMix1 s).taken + 1) : (skMix1 s).mixed = (skNext s).mixed := (congrArg Sk.mixed (skMix2_neg (s := skTake (skMix1 s)) h)).symm
def skVal (s : Sk) : Int := IntKind.i64.wrap (bits .and .u32 (bits .xor .u32 s.mixed (s.mixed / 2 ^ (15 : Int).toNat) / 2 ^ (8 : Int).toNat) 65535)
def Sk.Ok (s : Sk) (n : Int) : Prop := 0 ≤ s.taken ∧ s.taken + n ≤ 4611686018427387904
theorem skMix1_pos {s : Sk} (h : (0 : Int) < s.grain.length) : skMix1 s = { s with mixed := mixB s } := if_pos h
theorem skMix1_neg {s : Sk} (h : ¬ (0 : Int) < s.grain.length) : skMix1 s = s := if_neg h
theorem tmod_in {a b : Int} (ha : 0 ≤ a) (hb : 0 < b) : 0 ≤ a.tmod b ∧ a.tmod b < b := by
  rw [Int.tmod_eq_emod_of_nonneg ha]
  exact ⟨Int.emod_nonneg _ (by omega), Int.emod_lt_of_pos _ hb⟩
theorem skMix1_taken (s : Sk) : (skMix1 s).taken = s.taken := by unfold skMix1; split <;> rfl
theorem skMix1_grain (s : Sk) : (skMix1 s).grain = s.grain := by unfold skMix1; split <;> rfl
theorem skMix2_taken (s : Sk) : (skMix2 s).taken = s.taken := by unfold skMix2; split <;> rfl
theorem skMix2_grain (s : Sk) : (skMix2 s).grain = s.grain := by unfold skMix2; split <;> rfl
theorem skNext_taken (s : Sk) : (skNext s).taken = s.taken + 1 := by unfold skNext; rw [skMix2_taken, skTake, skMix1_taken]
theorem bits_and_ffff (a : Int) : 0 ≤ bits .and .u32 a 65535 ∧ bits .and .u32 a 65535 ≤ 65535 := by
  have e : bits .and .u32 a 65535 = IntKind.u32.wrap (((BitVec.ofInt 32 a &&& BitVec.ofInt 32 65535).toNat : Nat) : Int) := rfl
  have h1 : (BitVec.ofInt 32 a &&& BitVec.ofInt 32 65535).toNat ≤ 65535 := by
    rw [BitVec.toNat_and]
    exact Nat.and_le_right
  rw [e]
  generalize (BitVec.ofInt 32 a &&& BitVec.ofInt 32 65535).toNat = n at h1
  have : IntKind.u32.wrap (n : Int) = (n : Int) % 4294967296 := rfl
  rw [this]; omega
theorem skVal_bound (s : Sk) : 0 ≤ skVal s ∧ skVal s ≤ 65535 := by
  have h := bits_and_ffff (bits .xor .u32 s.mixed (s.mixed / 2 ^ (15 : Int).toNat) / 2 ^ (8 : Int).toNat)
  unfold skVal
  rw [IntWalk.i64_in _ (by omega)]; exact h
def skBelow (s : Sk) (n : Int) : Int := (skVal (skNext s)).tmod (max 1 n)
theorem skBelow_bound (s : Sk) (n : Int) : 0 ≤ skBelow s n ∧ skBelow s n < max 1 n ∧ skBelow s n ≤ 65535 := by
  have h := skVal_bound (skNext s)
  unfold skBelow
  have h1 : (skVal (skNext s)).tmod (max 1 n) = skVal (skNext s) % max 1 n := Int.tmod_eq_emod_of_nonneg h.1
  have h2 := Int.emod_lt_of_pos (skVal (skNext s)) (show 0 < max 1 n by omega)
  have h3 := Int.emod_nonneg (skVal (skNext s)) (show max 1 n ≠ 0 by omega)
  have h4 : skVal (skNext s) % max 1 n ≤ skVal (skNext s) := by
    have := Int.mul_ediv_add_emod (skVal (skNext s)) (max 1 n)
    have hq : 0 ≤ skVal (skNext s) / max 1 n := Int.ediv_nonneg h.1 (by omega)
    have : 0 ≤ max 1 n * (skVal (skNext s) / max 1 n) := Int.mul_nonneg (by omega) hq
    omega
  omega
def skAmong (s : Sk) (lo hi : Int) : Int := lo + skBelow s (hi - lo + 1)
def skRare (s : Sk) (n : Int) : Bool := decide (skBelow s n = 0)
def skFill (grain : List Int) : Sk := ⟨grain, 0, bits .xor .u32 2166136261 (IntKind.u32.wrap grain.length)⟩
theorem skFill_ok (g : List Int) : (skFill g).Ok 4000000000000000000 := by unfold skFill Sk.Ok; simp
end Go.Proofs.YtjjndkenddigiaaDoor

namespace Go.Proofs.YtjjndkenddigiaaDoor
open Go Go.T
set_option maxHeartbeats 2000000
attribute [local irreducible] dInt dBool dSl dPp dPtr dAgg dTup dClo dAny dEx dStr dGd dCells dVec dVs dRow dOp nth Tri Into TOps Ctr bodyPost Exit.then Exit.inBlock Code.wp Code.wpIn dPa dArr dMp dMap CtrG keepPost iterPost bodyPostM roundQ
set_option maxRecDepth 100000 in
theorem c_handful (s : Sk) (h : s.Ok 1) : CtrG Tryd.prog 84 [1000] [(1000, Cont.cells 90 (skTys s))] [Ty.ptr 1000 0] [(1000, Cont.cells 90 (skTys (skNext s)))] (Ty.int .i64 (skVal (skNext s))) := by
  refine fnG_intro Tryd.func84 rfl (by decide) Tryd.ntmps84 (by exact Nat.le_of_ble_eq_true rfl) fun w0 M0 => ?_
  have h0 : 0 ≤ s.taken ∧ s.taken + 1 ≤ 4611686018427387904 := h
  refine t_seq ?_
  refine t_region ?_
  refine asI rfl ?_
  refine r_nil ?_
  refine i_then ?_
  refine t_join (J := live [(0, Ty.ptr 1000 0)] [(1000, Cont.cells 90 (skTys (skMix1 s)))]) ?_ ?_
  ·
    refine t_seq ?_
    refine t_region ?_
    refine mvO rfl ?_
    refine r_nilCheck_ptr rfl ?_
    refine r_field_ptr rfl rfl rfl rfl rfl (by decide) ?_
    refine r_load_ptr rfl rfl (by decide) rfl rfl rfl ?_
    refine r_len rfl rfl rfl ?_
    refine asI rfl ?_
    refine r_nil ?_
    refine i_then ?_
    refine t_seq ?_
    refine t_region ?_
    refine mvI rfl ?_
    refine r_bin rfl rfl rfl ?_
    refine r_nil ?_
    refine i_then ?_
    refine t_cond_dec rfl (fun hc1 => ?_) (fun hc1 => ?_)
    ·
      have hm := tmod_in (a := s.taken) (b := s.grain.length) h0.1 (by omega)
      refine t_draw mixed rfl ?_
      refine mvO rfl ?_
      refine mvO rfl ?_
      refine r_nilCheck_ptr rfl ?_
      refine r_field_ptr rfl rfl rfl rfl rfl (by decide) ?_
      refine r_load_ptr rfl rfl (by decide) rfl rfl rfl ?_
      refine mvO rfl ?_
      refine r_nilCheck_ptr rfl ?_
      refine r_field_ptr rfl rfl rfl rfl rfl (by decide) ?_
      refine r_load_ptr rfl rfl (by decide) rfl rfl rfl ?_
      refine mvO rfl ?_
      refine r_nilCheck_ptr rfl ?_
      refine r_field_ptr rfl rfl rfl rfl rfl (by decide) ?_
      refine r_load_ptr rfl rfl (by decide) rfl rfl rfl ?_
      refine mvI rfl ?_
      refine r_rem rfl rfl (by omega) ?_
      refine r_index_sl rfl rfl rfl rfl rfl rfl (by omega) (by omega) ?_
      refine r_load_pp rfl rfl rfl rfl ?_
      refine r_conv rfl rfl rfl rfl ?_
      refine r_bin rfl rfl rfl ?_
      refine r_bin rfl rfl rfl ?_
      refine r_nilCheck_ptr rfl ?_
      refine r_field_ptr rfl rfl rfl rfl rfl (by decide) ?_
      refine r_store1 rfl rfl (by decide) rfl rfl (by exact (rfl : _ = Ty.int _ _)) rfl (by exact Nat.le_of_ble_eq_true rfl) rfl rfl (by exact rfl) ?_
      refine r_nil ?_
      refine ⟨by kernel_rfl, ?_⟩
      refine i_join ?_
      (refine Ent.mk' ?_ ?_ <;> (repeat' (first | exact allSub_zero | exact allTags_nil | exact subs_nil | refine allSub_succ' ?_ (Ty.sub_any _) | refine allSub_succ' ?_ (Ty.sub_refl _) | refine allTags_cons rfl (Cont.sub_subs ?_) ?_ | refine subs_cons ?_ ?_)))
      all_goals first | exact Ty.sub_int (congrArg Sk.mixed (skMix1_pos hc1).symm) | exact Ty.sub_int (skMix1_taken s).symm | exact Ty.sub_sl (skMix1_grain s).symm
    ·
      refine t_skip ?_
      refine i_join ?_
      (refine Ent.mk' ?_ ?_ <;> (repeat' (first | exact allSub_zero | exact allTags_nil | exact subs_nil | refine allSub_succ' ?_ (Ty.sub_any _) | refine allSub_succ' ?_ (Ty.sub_refl _) | refine allTags_cons rfl (Cont.sub_subs ?_) ?_ | refine subs_cons ?_ ?_)))
      all_goals first | exact Ty.sub_int (congrArg Sk.mixed (skMix1_neg hc1).symm) | exact Ty.sub_int (skMix1_taken s).symm | exact Ty.sub_sl (skMix1_grain s).symm
  ·
    refine t_seq ?_
    have h1 := skMix1_taken s
    refine t_region ?_
    refine mvO rfl ?_
    refine r_nilCheck_ptr rfl ?_
    refine r_field_ptr rfl rfl rfl rfl rfl (by decide) ?_
    refine r_load_ptr rfl rfl (by decide) rfl rfl rfl ?_
    refine r_add rfl rfl (by omega) (by omega) ?_
    refine r_nilCheck_ptr rfl ?_
    refine r_field_ptr rfl rfl rfl rfl rfl (by decide) ?_
    refine r_store1 rfl rfl (by decide) rfl rfl (by exact (rfl : _ = Ty.int _ _)) rfl (by exact Nat.le_of_ble_eq_true rfl) rfl rfl (by exact rfl) ?_
    refine r_nil ?_
    refine i_then ?_
    refine t_join (J := live [(0, Ty.ptr 1000 0)] [(1000, Cont.cells 90 (skTys (skNext s)))]) ?_ ?_
    ·
      refine t_seq ?_
      refine t_draw mixed rfl ?_
      refine mvO rfl ?_
      refine r_nilCheck_ptr rfl ?_
      refine r_field_ptr rfl rfl rfl rfl rfl (by decide) ?_
      refine r_load_ptr rfl rfl (by decide) rfl rfl rfl ?_
      refine mvO rfl ?_
      refine r_nilCheck_ptr rfl ?_
      refine r_field_ptr rfl rfl rfl rfl rfl (by decide) ?_
      refine r_load_ptr rfl rfl (by decide) rfl rfl rfl ?_
      refine r_len rfl rfl rfl ?_
      refine r_bin rfl rfl rfl ?_
      refine r_nil ?_
      refine ⟨by kernel_rfl, ?_⟩
      refine i_then ?_
      refine t_cond_dec rfl (fun hc2 => ?_) (fun hc2 => ?_)
      ·
        refine t_region ?_
        refine mvO rfl ?_
        refine mvO rfl ?_
        refine r_nilCheck_ptr rfl ?_
        refine r_field_ptr rfl rfl rfl rfl rfl (by decide) ?_
        refine r_load_ptr rfl rfl (by decide) rfl rfl rfl ?_
        refine r_bin rfl rfl rfl ?_
        refine r_bin rfl rfl rfl ?_
        refine r_nilCheck_ptr rfl ?_
        refine r_field_ptr rfl rfl rfl rfl rfl (by decide) ?_
        refine r_store1 rfl rfl (by decide) rfl rfl (by exact (rfl : _ = Ty.int _ _)) rfl (by exact Nat.le_of_ble_eq_true rfl) rfl rfl (by exact rfl) ?_
        refine r_nil ?_
        refine i_join ?_
        (refine Ent.mk' ?_ ?_ <;> (repeat' (first | exact allSub_zero | exact allTags_nil | exact subs_nil | refine allSub_succ' ?_ (Ty.sub_any _) | refine allSub_succ' ?_ (Ty.sub_refl _) | refine allTags_cons rfl (Cont.sub_subs ?_) ?_ | refine subs_cons ?_ ?_)))
        all_goals first | exact Ty.sub_int (congrArg Sk.mixed (skMix2_pos (s := skTake (skMix1 s)) hc2).symm) | exact Ty.sub_int (skMix2_taken (skTake (skMix1 s))).symm | exact Ty.sub_sl (skMix2_grain (skTake (skMix1 s))).symm
      ·
        refine t_skip ?_
        refine i_join ?_
        (refine Ent.mk' ?_ ?_ <;> (repeat' (first | exact allSub_zero | exact allTags_nil | exact subs_nil | refine allSub_succ' ?_ (Ty.sub_any _) | refine allSub_succ' ?_ (Ty.sub_refl _) | refine allTags_cons rfl (Cont.sub_subs ?_) ?_ | refine subs_cons ?_ ?_)))
        all_goals first | exact Ty.sub_int (skNext_neg hc2) | exact Ty.sub_int (skMix2_taken (skTake (skMix1 s))).symm | exact Ty.sub_sl (skMix2_grain (skTake (skMix1 s))).symm
    ·
      refine t_seq ?_
      refine t_draw mixed rfl ?_
      refine mvO rfl ?_
      refine r_nilCheck_ptr rfl ?_
      refine r_field_ptr rfl rfl rfl rfl rfl (by decide) ?_
      refine r_load_ptr rfl rfl (by decide) rfl rfl rfl ?_
      refine mvO rfl ?_
      refine r_nilCheck_ptr rfl ?_
      refine r_field_ptr rfl rfl rfl rfl rfl (by decide) ?_
      refine r_load_ptr rfl rfl (by decide) rfl rfl rfl ?_
      refine r_shr rfl rfl (by omega) (by decide) ?_
      refine r_bin rfl rfl rfl ?_
      refine r_shr rfl rfl (by omega) (by decide) ?_
      refine r_bin rfl rfl rfl ?_
      refine r_conv rfl rfl rfl rfl ?_
      refine asI rfl ?_
      refine r_nil ?_
      refine ⟨by kernel_rfl, ?_⟩
      refine i_then ?_
      refine t_ret ?_
      refine g_ret1 [1000] rfl rfl (by decide) (by repeat (first | exact rc_nil | refine rc_cons rfl (cc_cells_eq (by decide) rfl rfl rfl) ?_)) ?_
      all_goals exact rg_cv (cv_pub rfl rfl)
      all_goals exact rg_cv (cv_eq rfl rfl rfl)
set_option maxRecDepth 100000 in
theorem c_Below (s : Sk) (h : s.Ok 1) (n : Int) : CtrG Tryd.prog 45 [1000] [(1000, Cont.cells 90 (skTys s))] [Ty.ptr 1000 0, Ty.int .i64 n] [(1000, Cont.cells 90 (skTys (skNext s)))] (Ty.int .i64 (skBelow s n)) := by
  refine fnG_intro Tryd.func45 rfl (by decide) Tryd.ntmps45 (by exact Nat.le_of_ble_eq_true rfl) fun w0 M0 => ?_
  refine t_seq ?_
  refine t_region ?_
  refine asI rfl ?_
  refine r_nil ?_
  refine i_then ?_
  refine t_seq ?_
  refine t_region ?_
  refine mvO rfl ?_
  refine r_callG [(1000, 1000)] [] [(1000, Cont.cells 90 (skTys (skNext s)))] (c_handful s h) rfl rfl (by repeat (first | exact cv_nil | refine cv_cons ?_ ?_ | exact cv_ptr List.mem_cons_self)) (pre_cons (a := 1000) (b := 1000) (by exact List.mem_cons_self) rfl (cc_cells_eq (by exact List.mem_cons_self) rfl rfl rfl) pre_nil) (post_cons (a := 1000) (b := 1000) (by exact List.mem_cons_self) rfl (cc_cells_eq (by exact List.mem_cons_self) rfl rfl rfl) post_nil) (cv_pub rfl rfl) ?_
  refine mvI rfl ?_
  refine r_max rfl rfl ?_
  refine r_rem rfl rfl (by omega) ?_
  refine asI rfl ?_
  refine r_nil ?_
  refine i_then ?_
  refine t_ret ?_
  refine g_ret1 [1000] rfl rfl (by decide) (by repeat (first | exact rc_nil | refine rc_cons rfl (cc_cells_eq (by decide) rfl rfl rfl) ?_)) ?_
  all_goals exact rg_cv (cv_pub rfl rfl)
set_option maxRecDepth 100000 in
theorem c_Among (s : Sk) (h : s.Ok 1) (lo hi : Int) (hlo : -1000000 ≤ lo ∧ lo ≤ 1000000) (hhi : -1000000 ≤ hi ∧ hi ≤ 1000000) : CtrG Tryd.prog 44 [1000] [(1000, Cont.cells 90 (skTys s))] [Ty.ptr 1000 0, Ty.int .i64 lo, Ty.int .i64 hi] [(1000, Cont.cells 90 (skTys (skNext s)))] (Ty.int .i64 (skAmong s lo hi)) := by
  refine fnG_intro Tryd.func44 rfl (by decide) Tryd.ntmps44 (by exact Nat.le_of_ble_eq_true rfl) fun w0 M0 => ?_
  have hb := skBelow_bound s (hi - lo + 1)
  refine t_seq ?_
  refine t_region ?_
  refine asI rfl ?_
  refine r_nil ?_
  refine i_then ?_
  refine t_seq ?_
  refine t_region ?_
  refine mvI rfl ?_
  refine mvO rfl ?_
  refine mvI rfl ?_
  refine mvI rfl ?_
  refine r_sub rfl rfl (by omega) (by omega) ?_
  refine r_add rfl rfl (by omega) (by omega) ?_
  refine r_callG [(1000, 1000)] [] [(1000, Cont.cells 90 (skTys (skNext s)))] (c_Below s h _) rfl rfl (by repeat (first | exact cv_nil | refine cv_cons ?_ ?_ | exact cv_ptr List.mem_cons_self | exact cv_pub rfl rfl)) (pre_cons (a := 1000) (b := 1000) (by exact List.mem_cons_self) rfl (cc_cells_eq (by exact List.mem_cons_self) rfl rfl rfl) pre_nil) (post_cons (a := 1000) (b := 1000) (by exact List.mem_cons_self) rfl (cc_cells_eq (by exact List.mem_cons_self) rfl rfl rfl) post_nil) (cv_pub rfl rfl) ?_
  refine r_add rfl rfl (by omega) (by omega) ?_
  refine asI rfl ?_
  refine r_nil ?_
  refine i_then ?_
  refine t_ret ?_
  refine g_ret1 [1000] rfl rfl (by decide) (by repeat (first | exact rc_nil | refine rc_cons rfl (cc_cells_eq (by decide) rfl rfl rfl) ?_)) ?_
  all_goals exact rg_cv (cv_pub rfl rfl)
set_option maxRecDepth 100000 in
theorem c_Rare (s : Sk) (h : s.Ok 1) (n : Int) : CtrG Tryd.prog 61 [1000] [(1000, Cont.cells 90 (skTys s))] [Ty.ptr 1000 0, Ty.int .i64 n] [(1000, Cont.cells 90 (skTys (skNext s)))] (Ty.bool (skRare s n)) := by
  refine fnG_intro Tryd.func61 rfl (by decide) Tryd.ntmps61 (by exact Nat.le_of_ble_eq_true rfl) fun w0 M0 => ?_
  refine t_seq ?_
  refine t_region ?_
  refine asB rfl ?_
  refine r_nil ?_
  refine i_then ?_
  refine t_seq ?_
  refine t_region ?_
  refine mvO rfl ?_
  refine mvI rfl ?_
  refine r_callG [(1000, 1000)] [] [(1000, Cont.cells 90 (skTys (skNext s)))] (c_Below s h n) rfl rfl (by repeat (first | exact cv_nil | refine cv_cons ?_ ?_ | exact cv_ptr List.mem_cons_self | exact cv_pub rfl rfl)) (pre_cons (a := 1000) (b := 1000) (by exact List.mem_cons_self) rfl (cc_cells_eq (by exact List.mem_cons_self) rfl rfl rfl) pre_nil) (post_cons (a := 1000) (b := 1000) (by exact List.mem_cons_self) rfl (cc_cells_eq (by exact List.mem_cons_self) rfl rfl rfl) post_nil) (cv_pub rfl rfl) ?_
  refine r_bin rfl rfl rfl ?_
  refine asB rfl ?_
  refine r_nil ?_
  refine i_then ?_
  refine t_ret ?_
  refine g_ret1 [1000] rfl rfl (by decide) (by repeat (first | exact rc_nil | refine rc_cons rfl (cc_cells_eq (by decide) rfl rfl rfl) ?_)) ?_
  all_goals exact rg_cv (cv_pub rfl rfl)
set_option maxRecDepth 100000 in
theorem c_Fill (g : List Int) : CtrG Tryd.prog 13 [] [] [Ty.sl U8 g] [(10, Cont.cells 90 (skTys (skFill g)))] (Ty.ptr 10 0) := by
  refine fnG_intro Tryd.func13 rfl (by decide) Tryd.ntmps13 (by exact Nat.le_of_ble_eq_true rfl) fun w0 M0 => ?_
  refine t_seq ?_
  refine t_region ?_
  refine asX rfl ?_
  refine r_nil ?_
  refine i_then ?_
  refine t_seq ?_
  skip
  refine t_region ?_
  refine mvS rfl ?_
  refine mvS rfl ?_
  refine r_len rfl rfl rfl ?_
  refine r_conv rfl rfl rfl rfl ?_
  refine r_bin rfl rfl rfl ?_
  refine r_build rfl rfl (by exact List.cons_ne_nil _ _) rfl (by repeat (first | exact (Parts.nil : Parts _ _ [] _) | (show Parts _ _ ((_, _) :: _) _; apply Parts.one; (· first | exact (rfl : _ = Ty.int _ _) | exact (rfl : _ = Ty.sl _ _)); (· exact rfl)))) (by exact (rfl : _ = some [_, _, _])) ?_
  refine r_box_own rfl rfl rfl ?_
  refine asO rfl ?_
  refine r_nil ?_
  refine i_then ?_
  refine t_ret ?_
  refine g_ret1 [10] rfl rfl (by decide) (by repeat (first | exact rc_nil | refine rc_cons rfl (cc_cells_eq (by decide) rfl rfl rfl) ?_)) ?_
  all_goals skip
  exact rg_cv (cv_ptr (by exact List.mem_cons_self))
end Go.Proofs.YtjjndkenddigiaaDoor

namespace Go.Proofs.YtjjndkenddigiaaDoor
open Go Go.T
def skN (s : Sk) : Nat → Sk
  | 0 => s
  | k + 1 => skNext (skN s k)
theorem skN_succ (s : Sk) (k : Nat) : skN s (k + 1) = skNext (skN s k) := rfl
theorem skN_add (s : Sk) (a : Nat) : ∀ b, skN (skN s a) b = skN s (a + b)
  | 0 => rfl
  | b + 1 => by rw [skN_succ, skN_add s a b]; rfl
theorem skN_taken (s : Sk) : ∀ k, (skN s k).taken = s.taken + k
  | 0 => by simp [skN]
  | k + 1 => by rw [skN_succ, skNext_taken, skN_taken s k]; omega
theorem skN_ok {s : Sk} {n : Int} {k : Nat} {m : Int} (h : s.Ok n) (hk : (k : Int) + m ≤ n) : (skN s k).Ok m := by
  have := skN_taken s k
  unfold Sk.Ok at *
  omega
def entV (f : BForm) (s : Sk) (k : Nat) : Int := skBelow (skN s (1 + 2 * k + 1)) (skAmong (skN s (1 + 2 * k)) 1 (ten (nth f.widths k)))
def entN (f : BForm) (s : Sk) (k : Nat) : List Int := (List.range k).map (entV f s)
def entR (f : BForm) (s : Sk) : BRow := ⟨entN f s f.widths.length, skRare s 5⟩
theorem entN_succ (f : BForm) (s : Sk) (k : Nat) : entN f s (k + 1) = entN f s k ++ [entV f s k] := by unfold entN; rw [List.range_succ, List.map_append]; rfl
theorem entN_len (f : BForm) (s : Sk) (k : Nat) : (entN f s k).length = k := by simp [entN]
def stp (f : BForm) : Nat := 1 + 2 * f.widths.length
def mdW (s : Sk) (k : Nat) : List Int := (List.range k).map fun i => skAmong (skN s (2 + i)) 1 4
theorem mdW_succ (s : Sk) (k : Nat) : mdW s (k + 1) = mdW s k ++ [skAmong (skN s (2 + k)) 1 4] := by unfold mdW; rw [List.range_succ, List.map_append]; rfl
theorem mdW_len (s : Sk) (k : Nat) : (mdW s k).length = k := by simp [mdW]
def mdC (s : Sk) : Nat := (skAmong (skN s 1) 1 4).toNat
def mdF (s : Sk) : BForm := ⟨mdW s (mdC s), skAmong s 1 6⟩
def mdS (s : Sk) (k : Nat) : Sk := skN s (2 + mdC s + 1 + k * stp (mdF s))
def mdR (s : Sk) (k : Nat) : List BRow := (List.range k).map fun j => entR (mdF s) (mdS s j)
theorem mdR_succ (s : Sk) (k : Nat) : mdR s (k + 1) = mdR s k ++ [entR (mdF s) (mdS s k)] := by unfold mdR; rw [List.range_succ, List.map_append]; rfl
theorem mdR_len (s : Sk) (k : Nat) : (mdR s k).length = k := by simp [mdR]
def mdN (s : Sk) (n : Int) : Nat := (skBelow (skN s (2 + mdC s)) (n + 1)).toNat
def mdB (s : Sk) (n : Int) : Book := ⟨mdF s, mdR s (mdN s n)⟩
theorem mdS_succ (s : Sk) (k : Nat) : skN (mdS s k) (stp (mdF s)) = mdS s (k + 1) := by
  unfold mdS
  rw [skN_add, Nat.succ_mul, Nat.add_assoc]
theorem among_bnd (s : Sk) {lo hi : Int} (h : lo ≤ hi) : lo ≤ skAmong s lo hi ∧ skAmong s lo hi ≤ hi := by
  have := skBelow_bound s (hi - lo + 1)
  unfold skAmong; omega
theorem mdC_bnd (s : Sk) : 1 ≤ mdC s ∧ mdC s ≤ 4 := by
  have := among_bnd (skN s 1) (lo := 1) (hi := 4) (by omega)
  unfold mdC; omega
theorem mdC_int (s : Sk) : ((mdC s : Nat) : Int) = skAmong (skN s 1) 1 4 := by
  have := among_bnd (skN s 1) (lo := 1) (hi := 4) (by omega)
  unfold mdC; omega
theorem mdN_bnd (s : Sk) {n : Int} (h : 0 ≤ n) : (mdN s n : Int) ≤ n := by
  have := skBelow_bound (skN s (2 + mdC s)) (n + 1)
  unfold mdN; omega
theorem mdN_int (s : Sk) (n : Int) : ((mdN s n : Nat) : Int) = skBelow (skN s (2 + mdC s)) (n + 1) := by
  have := skBelow_bound (skN s (2 + mdC s)) (n + 1)
  unfold mdN; omega
theorem mdF_wid (s : Sk) : (mdF s).widths.length = mdC s := mdW_len s _
theorem mdF_ok (s : Sk) : FormOk (mdF s) := by
  have h := mdC_bnd s
  have hl := among_bnd s (lo := 1) (hi := 6) (by omega)
  refine ⟨by rw [mdF_wid]; omega, by rw [mdF_wid]; omega, fun x hx => ?_, hl.1, hl.2⟩
  obtain ⟨i, _, rfl⟩ := List.mem_map.1 (show x ∈ (List.range (mdC s)).map _ from hx)
  exact among_bnd _ (by omega)
theorem nth_range {α : Type} [Inhabited α] {g : Nat → α} {n k : Nat} (h : k < n) : nth ((List.range n).map g) k = g k := by simp [nth, h]
theorem entR_ok {f : BForm} (hf : FormOk f) (s : Sk) : RowOk f (entR f s) := by
  refine ⟨entN_len f s _, fun c hc => ?_⟩
  show 0 ≤ nth (entN f s f.widths.length) c ∧ nth (entN f s f.widths.length) c < _
  have hw := nth_wid hf hc
  have ht := ten_pos (nth f.widths c)
  unfold entN
  rw [nth_range hc]
  have h1 := among_bnd (skN s (1 + 2 * c)) (lo := 1) (hi := ten (nth f.widths c)) (by omega)
  have h2 := skBelow_bound (skN s (1 + 2 * c + 1)) (skAmong (skN s (1 + 2 * c)) 1 (ten (nth f.widths c)))
  unfold entV; omega
theorem mdB_ok (s : Sk) {n : Int} (h : 0 ≤ n ∧ n ≤ 12) : BookOk (mdB s n) := by
  refine ⟨mdF_ok s, ?_, fun r hr => ?_⟩
  · show (mdR s (mdN s n)).length ≤ 12
    rw [mdR_len]
    have := mdN_bnd s h.1; omega
  · obtain ⟨j, _, rfl⟩ := List.mem_map.1 (show r ∈ (List.range (mdN s n)).map _ from hr)
    exact entR_ok (mdF_ok s) _
end Go.Proofs.YtjjndkenddigiaaDoor

namespace Go.Proofs.YtjjndkenddigiaaDoor
open Go Go.T
set_option maxHeartbeats 2000000
theorem ten_0 : (1 : Int) = ten ((0 : Nat) : Int) := rfl
theorem ten_s {k : Int} (h : 0 ≤ k) : ten k * 10 = ten (k + 1) := by rw [ten_next h]; omega
theorem ent_next (f : BForm) (s : Sk) (k : Nat) : entN f s k ++ [skBelow (skN s (1 + 2 * k + 1)) (skAmong (skN s (1 + 2 * k)) 1 (ten (nth f.widths k)))] = entN f s (k + 1) := (entN_succ f s k).symm
theorem mdS_0 (s : Sk) : skN s (2 + mdC s + 1) = mdS s 0 := by unfold mdS; simp
attribute [local irreducible] skAmong skBelow skRare mdS ten
attribute [local irreducible] dInt dBool dSl dPp dPtr dAgg dTup dClo dAny dEx dStr dGd dCells dVec dVs dRow dOp nth Tri Into TOps Ctr bodyPost Exit.then Exit.inBlock Code.wp Code.wpIn dPa dArr dMp dMap CtrG keepPost iterPost bodyPostM roundQ
set_option maxRecDepth 100000 in
theorem c_limits (w : Int) (h : 1 ≤ w ∧ w ≤ 4) : Ctr Tryd.prog 85 [Ty.int .i64 w] (Ty.int .i64 (ten w)) := by
  refine fn_intro Tryd.func85 rfl (by decide) Tryd.ntmps85 (by exact Nat.le_of_ble_eq_true rfl) fun w0 M0 => ?_
  refine t_seq ?_
  refine t_region ?_
  refine asI rfl ?_
  refine r_nil ?_
  refine i_then ?_
  refine t_seq ?_
  refine t_region ?_
  refine asI rfl ?_
  refine r_nil ?_
  refine i_then ?_
  refine t_seq ?_
  refine t_seq ?_
  refine t_region ?_
  refine mvI rfl ?_
  refine mvI rfl ?_
  refine r_nil ?_
  refine i_then ?_
  refine t_block ?_
  refine t_loop (fun (k : {k : Nat // (k : Int) ≤ w}) => live [(3, Ty.int .i64 (ten ((k.1 : Nat) : Int))), (4, Ty.int .i64 w), (5, Ty.int .i64 (k.1 : Nat))] []) (fun k => w.toNat - k.1) (⟨0, by omega⟩) ?_ fun k => ?_
  · (refine Ent.mk' ?_ ?_ <;> (repeat' (first | exact allSub_zero | exact allTags_nil | refine allSub_succ' ?_ (Ty.sub_any _) | refine allSub_succ' ?_ (Ty.sub_refl _) | refine allSub_succ' ?_ ?_)))
    all_goals exact Ty.sub_int ten_0
  ·
    have hk := k.2
    have ht := ten_small (k := k.1) (by omega)
    refine t_seq ?_
    refine t_region ?_
    refine r_bin rfl rfl rfl ?_
    refine r_nil ?_
    refine i_then ?_
    refine t_seq ?_
    refine t_cond_dec rfl (fun hc1 => ?_) (fun hc1 => ?_)
    ·
      refine t_skip ?_
      refine i_then ?_
      refine t_seq ?_
      refine t_block ?_
      refine t_region ?_
      refine mvI rfl ?_
      refine r_mul rfl rfl (by omega) (by omega) ?_
      refine asI rfl ?_
      refine r_nil ?_
      refine i_block ?_
      refine i_then ?_
      refine t_region ?_
      refine r_add rfl rfl (by omega) (by omega) ?_
      refine mvI rfl ?_
      refine r_nil ?_
      refine i_round (⟨k.1 + 1, by omega⟩) ?_ (by show w.toNat - (k.1 + 1) < w.toNat - k.1; omega)
      (refine Ent.mk' ?_ ?_ <;> (repeat' (first | exact allSub_zero | exact allTags_nil | refine allSub_succ' ?_ (Ty.sub_any _) | refine allSub_succ' ?_ (Ty.sub_refl _) | refine allSub_succ' ?_ ?_)))
      all_goals skip
      all_goals exact Ty.sub_int ((ten_s (k := ((k.1 : Nat) : Int)) (by omega)).trans (congrArg ten (Int.natCast_add k.1 1).symm))
    ·
      refine t_exit ?_
      refine i_then_exit ?_
      refine i_then_exit ?_
      refine i_block_exit rfl ?_
      refine i_then ?_
      refine t_seq ?_
      refine t_region ?_
      refine mvI rfl ?_
      refine asI rfl ?_
      refine r_nil ?_
      refine i_then ?_
      refine t_ret ?_
      refine i_rp1 rfl rfl ?_
      all_goals skip
      have hw : ((k.1 : Nat) : Int) = w := by omega
      exact ret_eq rfl rfl (congrArg (fun x => Ty.int .i64 (ten x)) hw)
set_option maxRecDepth 100000 in
theorem c_Entry (f : BForm) (hf : FormOk f) (s : Sk) (hs : s.Ok 20) : CtrG Tryd.prog 46 [1000] [(1000, Cont.cells 90 (skTys s))] [Ty.ptr 1000 0, frmT f] [(1000, Cont.cells 90 (skTys (skN s (stp f))))] (rowT (entR f s)) := by
  refine fnG_intro Tryd.func46 rfl (by decide) Tryd.ntmps46 (by exact Nat.le_of_ble_eq_true rfl) fun w0 M0 => ?_
  have hfw := hf.n2
  refine t_seq ?_
  refine t_region ?_
  refine r_box_agg rfl ?_
  refine r_alloc rfl (by exact List.cons_ne_nil _ _) rfl ?_
  refine r_nil ?_
  refine i_then ?_
  refine t_seq ?_
  refine t_region ?_
  refine mvO rfl ?_
  refine r_callG [(1000, 1000)] [] [(1000, Cont.cells 90 (skTys (skN s 1)))] (c_Rare s (skN_ok (k := 0) hs (by omega)) 5) rfl rfl (by repeat (first | exact cv_nil | refine cv_cons ?_ ?_ | exact cv_ptr List.mem_cons_self | exact cv_pub rfl rfl)) (pre_cons (a := 1000) (b := 1000) (by exact List.mem_cons_self) rfl (cc_cells_eq (by exact List.mem_cons_self) rfl rfl rfl) pre_nil) (post_cons (a := 1000) (b := 1000) (by exact List.mem_cons_self) rfl (cc_cells_eq (by exact List.mem_cons_self) rfl rfl rfl) post_nil) (cv_pub rfl rfl) ?_
  refine r_build rfl rfl (by exact List.cons_ne_nil _ _) rfl (by repeat (first | exact (Parts.nil : Parts _ _ [] _) | (show Parts _ _ ((_, _) :: _) _; apply Parts.one; (· exact (rfl : _ = Ty.bool _)); (· exact rfl)))) (by exact (rfl : _ = some [_, _])) ?_
  refine r_alloc rfl (by exact List.cons_ne_nil _ _) rfl ?_
  refine r_storeN rfl rfl (by decide) rfl rfl rfl rfl rfl rfl ?_
  refine r_nil ?_
  refine i_then ?_
  refine t_seq ?_
  refine t_seq ?_
  refine t_region ?_
  refine r_field_pp rfl rfl rfl rfl rfl (by decide) ?_
  refine r_load_pp rfl rfl rfl rfl ?_
  refine r_len rfl rfl rfl ?_
  refine mvI rfl ?_
  refine r_nil ?_
  refine i_then ?_
  refine t_block ?_
  refine t_loop (fun (k : {k : Nat // k ≤ f.widths.length}) => live [(0, Ty.ptr 1000 0), (3, Ty.pp (frmTys f)), (4, Ty.ptr 5 0), (5, Ty.ptr 6 0), (13, Ty.sl I64 f.widths), (14, Ty.int .i64 f.widths.length), (15, Ty.int .i64 (k.1 : Nat))] [(5, Cont.cells 86 [Ty.ex (.slice none 0 0), Ty.bool false]), (6, Cont.cells 86 [Ty.row I64 3 30 (entN f s k.1), Ty.bool (skRare s 5)]), (1000, Cont.cells 90 (skTys (skN s (1 + 2 * k.1))))]) (fun k => f.widths.length - k.1) (⟨0, by omega⟩) ?_ fun k => ?_
  · (refine Ent.mk' ?_ ?_ <;> (repeat' (first | exact allSub_zero | exact allTags_nil | exact subs_nil | refine allSub_succ' ?_ (Ty.sub_any _) | refine allSub_succ' ?_ (Ty.sub_refl _) | refine allTags_cons rfl (Cont.sub_refl _) ?_ | refine allTags_cons rfl (Cont.sub_subs ?_) ?_ | refine subs_cons ?_ (Ty.sub_refl _) | refine subs_cons ?_ Ty.nil_row)))
    all_goals trace_state
  ·
    have hk := k.2
    have hel := entN_len f s k.1
    refine t_seq ?_
    refine t_region ?_
    refine r_bin rfl rfl rfl ?_
    refine r_nil ?_
    refine i_then ?_
    refine t_seq ?_
    refine t_cond_dec rfl (fun hc1 => ?_) (fun hc1 => ?_)
    ·
      refine t_skip ?_
      refine i_then ?_
      refine t_seq ?_
      refine t_block ?_
      refine t_seq ?_
      have hw := nth_wid hf (c := k.1) (by omega)
      have ht := ten_small (k := (nth f.widths k.1).toNat) (by omega)
      rw [Int.toNat_of_nonneg (by omega)] at ht
      refine t_region ?_
      refine r_index_slN rfl rfl rfl rfl rfl rfl (by omega) ?_
      refine r_load_pp rfl rfl rfl rfl ?_
      refine asI rfl ?_
      refine r_nil ?_
      refine i_then ?_
      refine t_seq ?_
      refine t_region ?_
      refine mvI rfl ?_
      refine r_call (c_limits _ hw) rfl rfl rfl rfl rfl ?_
      refine asI rfl ?_
      refine r_nil ?_
      refine i_then ?_
      refine t_draw mixed rfl ?_
      refine r_field_ptr rfl rfl rfl rfl rfl (by decide) ?_
      refine r_load_ptr rfl rfl (by decide) rfl rfl rfl ?_
      refine mvO rfl ?_
      refine mvO rfl ?_
      refine mvI rfl ?_
      refine r_callG [(1000, 1000)] [] [(1000, Cont.cells 90 (skTys (skN s (1 + 2 * k.1 + 1))))] (c_Among (skN s (1 + 2 * k.1)) (skN_ok hs (by omega)) 1 (ten (nth f.widths k.1)) (by omega) (by omega)) rfl rfl (by repeat (first | exact cv_nil | refine cv_cons ?_ ?_ | exact cv_ptr List.mem_cons_self | exact cv_pub rfl rfl)) (pre_cons (a := 1000) (b := 1000) (by exact List.mem_cons_self) rfl (cc_cells_eq (by exact List.mem_cons_self) rfl rfl rfl) pre_nil) (post_cons (a := 1000) (b := 1000) (by exact List.mem_cons_self) rfl (cc_cells_eq (by exact List.mem_cons_self) rfl rfl rfl) post_nil) (cv_pub rfl rfl) ?_
      refine r_callG [(1000, 1000)] [] [(1000, Cont.cells 90 (skTys (skN s (1 + 2 * (k.1 + 1)))))] (c_Below (skN s (1 + 2 * k.1 + 1)) (skN_ok hs (by omega)) (skAmong (skN s (1 + 2 * k.1)) 1 (ten (nth f.widths k.1)))) rfl rfl (by repeat (first | exact cv_nil | refine cv_cons ?_ ?_ | exact cv_ptr List.mem_cons_self | exact cv_pub rfl rfl)) (pre_cons (a := 1000) (b := 1000) (by exact List.mem_cons_self) rfl (cc_cells_eq (by exact List.mem_cons_self) rfl rfl rfl) pre_nil) (post_cons (a := 1000) (b := 1000) (by exact List.mem_cons_self) rfl (cc_cells_eq (by exact List.mem_cons_self) rfl rfl rfl) post_nil) (cv_pub rfl rfl) ?_
      refine r_buildSlice (E := I64) (xs := [skBelow (skN s (1 + 2 * k.1 + 1)) (skAmong (skN s (1 + 2 * k.1)) 1 (ten (nth f.widths k.1)))]) rfl rfl rfl rfl rfl (by decide) (by decide) (by repeat (first | exact (Parts.nil : Parts _ _ [] _) | (show Parts _ _ ((_, _) :: _) _; apply Parts.one; (· exact (rfl : _ = Ty.int _ _)); (· exact rfl)))) (by exact rfl) rfl ?_
      refine r_append rfl rfl (by decide) rfl rfl rfl rfl rfl rfl (by decide) (by (simp <;> omega)) (by (simp <;> omega)) ?_
      refine r_field_ptr rfl rfl rfl rfl rfl (by decide) ?_
      refine r_store1 rfl rfl (by decide) rfl rfl (by exact (rfl : _ = Ty.row _ _ _ _)) rfl (by exact Nat.le_of_ble_eq_true rfl) rfl rfl (by exact rfl) ?_
      refine r_nil ?_
      refine ⟨by kernel_rfl, ?_⟩
      refine i_block ?_
      refine i_then ?_
      refine t_region ?_
      refine r_add rfl rfl (by omega) (by omega) ?_
      refine mvI rfl ?_
      refine r_nil ?_
      refine i_round (⟨k.1 + 1, by omega⟩) ?_ (by show f.widths.length - (k.1 + 1) < f.widths.length - k.1; omega)
      (refine Ent.mk' ?_ ?_ <;> (repeat' (first | exact allSub_zero | exact allTags_nil | exact subs_nil | refine allSub_succ' ?_ (Ty.sub_any _) | refine allSub_succ' ?_ (Ty.sub_refl _) | refine allTags_cons rfl (Cont.sub_refl _) ?_ | refine allTags_cons rfl (Cont.sub_subs ?_) ?_ | refine subs_cons ?_ (Ty.sub_refl _) | refine subs_cons ?_ ?_)))
      all_goals skip
      all_goals exact Ty.sub_row (ent_next f s k.1)
    ·
      refine t_exit ?_
      refine i_then_exit ?_
      refine i_then_exit ?_
      refine i_block_exit rfl ?_
      refine i_then ?_
      refine t_seq ?_
      refine t_pubC (tg := 30) [] [(6, Cont.cells 86 (BRowE.tys (entR f s)))] (by decide) rfl trivial ⟨pubC_cells rfl rfl ⟨pubTy_row_eq (by show entN f s k.1 = entN f s f.widths.length; rw [show k.1 = f.widths.length by omega]), pubTy_same rfl, trivial⟩, trivial⟩ ?_
      refine t_region ?_
      refine r_load_ptrN rfl rfl (by decide) rfl rfl (by exact Nat.le_of_ble_eq_true rfl) ?_
      refine r_storeN rfl rfl (by decide) rfl rfl rfl rfl rfl rfl ?_
      refine r_nil ?_
      refine i_then ?_
      refine t_ret ?_
      refine g_rcell [1000] rfl rfl rfl rfl (by decide) rfl rfl rfl (by decide) ?_ ?_
      exact rc_cons rfl (cc_cells_eq (by decide) rfl rfl (by rw [show k.1 = f.widths.length by omega]; rfl)) rc_nil
      all_goals exact rg_cv (cv_pub rfl rfl)
      all_goals trace_state
attribute [local irreducible] entR
set_option maxRecDepth 100000 in
theorem c_Made (s : Sk) (hs : s.Ok 200) (n : Int) (hn : 0 ≤ n ∧ n ≤ 12) : CtrG Tryd.prog 12 [1000] [(1000, Cont.cells 90 (skTys s))] [Ty.ptr 1000 0, Ty.int .i64 n] [] (bokT (mdB s n)) := by
  refine fnG_intro Tryd.func12 rfl (by decide) Tryd.ntmps12 (by exact Nat.le_of_ble_eq_true rfl) fun w0 M0 => ?_
  have hc := mdC_bnd s
  have hci := mdC_int s
  have hni := mdN_int s n
  have hnb := mdN_bnd s hn.1
  have hff := mdF_ok s
  have hst : stp (mdF s) = 1 + 2 * mdC s := by unfold stp; rw [mdF_wid]
  refine t_seq ?_
  refine t_region ?_
  refine r_alloc rfl (by exact List.cons_ne_nil _ _) rfl ?_
  refine r_nil ?_
  refine i_then ?_
  refine t_seq ?_
  refine t_region ?_
  refine mvO rfl ?_
  refine r_callG [(1000, 1000)] [] [(1000, Cont.cells 90 (skTys (skN s 1)))] (c_Among s (skN_ok (k := 0) hs (by omega)) 1 6 (by decide) (by decide)) rfl rfl (by repeat (first | exact cv_nil | refine cv_cons ?_ ?_ | exact cv_ptr List.mem_cons_self | exact cv_pub rfl rfl)) (pre_cons (a := 1000) (b := 1000) (by exact List.mem_cons_self) rfl (cc_cells_eq (by exact List.mem_cons_self) rfl rfl rfl) pre_nil) (post_cons (a := 1000) (b := 1000) (by exact List.mem_cons_self) rfl (cc_cells_eq (by exact List.mem_cons_self) rfl rfl rfl) post_nil) (cv_pub rfl rfl) ?_
  refine r_build rfl rfl (by exact List.cons_ne_nil _ _) rfl (by repeat (first | exact (Parts.nil : Parts _ _ [] _) | (show Parts _ _ ((_, _) :: _) _; apply Parts.one; (· exact (rfl : _ = Ty.int _ _)); (· exact rfl)))) (by exact (rfl : _ = some [_, _])) ?_
  refine r_build rfl rfl (by exact List.cons_ne_nil _ _) rfl (by repeat (first | exact (Parts.nil : Parts _ _ [] _) | (show Parts _ _ ((_, _) :: _) _; apply Parts.agg; (· exact (rfl : _ = Ty.agg _))))) (by exact (rfl : _ = some [_, _, _])) ?_
  refine r_alloc rfl (by exact List.cons_ne_nil _ _) rfl ?_
  refine r_storeN rfl rfl (by decide) rfl rfl rfl rfl rfl rfl ?_
  refine r_nil ?_
  refine i_then ?_
  refine t_seq ?_
  refine t_seq ?_
  refine t_region ?_
  refine mvO rfl ?_
  refine r_callG [(1000, 1000)] [] [(1000, Cont.cells 90 (skTys (skN s 2)))] (c_Among (skN s 1) (skN_ok hs (by omega)) 1 4 (by decide) (by decide)) rfl rfl (by repeat (first | exact cv_nil | refine cv_cons ?_ ?_ | exact cv_ptr List.mem_cons_self | exact cv_pub rfl rfl)) (pre_cons (a := 1000) (b := 1000) (by exact List.mem_cons_self) rfl (cc_cells_eq (by exact List.mem_cons_self) rfl rfl rfl) pre_nil) (post_cons (a := 1000) (b := 1000) (by exact List.mem_cons_self) rfl (cc_cells_eq (by exact List.mem_cons_self) rfl rfl rfl) post_nil) (cv_pub rfl rfl) ?_
  refine mvI rfl ?_
  refine r_nil ?_
  refine i_then ?_
  refine t_block ?_
  refine t_loop (fun (k : {k : Nat // k ≤ mdC s}) => live [(0, Ty.ptr 1000 0), (1, Ty.int .i64 n), (4, Ty.ptr 5 0), (5, Ty.ptr 6 0), (11, Ty.int .i64 (mdC s : Nat)), (12, Ty.int .i64 (k.1 : Nat))] [(5, Cont.cells 30 [Ty.ex (.slice none 0 0), Ty.int .i64 0, Ty.ex (.slice none 0 0)]), (6, Cont.cells 30 [Ty.row I64 3 21 (mdW s k.1), Ty.int .i64 (skAmong s 1 6), Ty.ex (.slice none 0 0)]), (1000, Cont.cells 90 (skTys (skN s (2 + k.1))))]) (fun k => mdC s - k.1) (⟨0, by omega⟩) ?_ fun k => ?_
  · (refine Ent.mk' ?_ ?_ <;> (repeat' (first | exact allSub_zero | exact allTags_nil | exact subs_nil | refine allSub_succ' ?_ (Ty.sub_any _) | refine allSub_succ' ?_ (Ty.sub_refl _) | refine allTags_cons rfl (Cont.sub_refl _) ?_ | refine allTags_cons rfl (Cont.sub_subs ?_) ?_ | refine subs_cons ?_ (Ty.sub_refl _) | refine subs_cons ?_ Ty.nil_row | refine allSub_succ' ?_ ?_)))
    all_goals exact Ty.sub_int hci.symm
  ·
    have hk := k.2
    have hwl := mdW_len s k.1
    refine t_seq ?_
    refine t_region ?_
    refine r_bin rfl rfl rfl ?_
    refine r_nil ?_
    refine i_then ?_
    refine t_seq ?_
    refine t_cond_dec rfl (fun hc1 => ?_) (fun hc1 => ?_)
    ·
      refine t_skip ?_
      refine i_then ?_
      refine t_seq ?_
      refine t_block ?_
      refine t_draw mixed rfl ?_
      refine r_field_ptr rfl rfl rfl rfl rfl (by decide) ?_
      refine r_field_ptr rfl rfl rfl rfl rfl (by decide) ?_
      refine r_load_ptr rfl rfl (by decide) rfl rfl rfl ?_
      refine mvO rfl ?_
      refine r_callG [(1000, 1000)] [] [(1000, Cont.cells 90 (skTys (skN s (2 + (k.1 + 1)))))] (c_Among (skN s (2 + k.1)) (skN_ok hs (by omega)) 1 4 (by decide) (by decide)) rfl rfl (by repeat (first | exact cv_nil | refine cv_cons ?_ ?_ | exact cv_ptr List.mem_cons_self | exact cv_pub rfl rfl)) (pre_cons (a := 1000) (b := 1000) (by exact List.mem_cons_self) rfl (cc_cells_eq (by exact List.mem_cons_self) rfl rfl rfl) pre_nil) (post_cons (a := 1000) (b := 1000) (by exact List.mem_cons_self) rfl (cc_cells_eq (by exact List.mem_cons_self) rfl rfl rfl) post_nil) (cv_pub rfl rfl) ?_
      refine r_buildSlice (E := I64) (xs := [skAmong (skN s (2 + k.1)) 1 4]) rfl rfl rfl rfl rfl (by decide) (by decide) (by repeat (first | exact (Parts.nil : Parts _ _ [] _) | (show Parts _ _ ((_, _) :: _) _; apply Parts.one; (· exact (rfl : _ = Ty.int _ _)); (· exact rfl)))) (by exact rfl) rfl ?_
      refine r_append rfl rfl (by decide) rfl rfl rfl rfl rfl rfl (by decide) (by (simp <;> omega)) (by (simp <;> omega)) ?_
      refine r_field_ptr rfl rfl rfl rfl rfl (by decide) ?_
      refine r_field_ptr rfl rfl rfl rfl rfl (by decide) ?_
      refine r_store1 rfl rfl (by decide) rfl rfl (by exact (rfl : _ = Ty.row _ _ _ _)) rfl (by exact Nat.le_of_ble_eq_true rfl) rfl rfl (by exact rfl) ?_
      refine r_nil ?_
      refine ⟨by kernel_rfl, ?_⟩
      refine i_block ?_
      refine i_then ?_
      refine t_region ?_
      refine r_add rfl rfl (by omega) (by omega) ?_
      refine mvI rfl ?_
      refine r_nil ?_
      refine i_round (⟨k.1 + 1, by omega⟩) ?_ (by show mdC s - (k.1 + 1) < mdC s - k.1; omega)
      (refine Ent.mk' ?_ ?_ <;> (repeat' (first | exact allSub_zero | exact allTags_nil | exact subs_nil | refine allSub_succ' ?_ (Ty.sub_any _) | refine allSub_succ' ?_ (Ty.sub_refl _) | refine allTags_cons rfl (Cont.sub_refl _) ?_ | refine allTags_cons rfl (Cont.sub_subs ?_) ?_ | refine subs_cons ?_ (Ty.sub_refl _) | refine subs_cons ?_ ?_)))
      all_goals skip
      all_goals exact Ty.sub_row (mdW_succ s k.1).symm
    ·
      refine t_exit ?_
      refine i_then_exit ?_
      refine i_then_exit ?_
      refine i_block_exit rfl ?_
      refine i_then ?_
      refine t_seq ?_
      refine t_seq ?_
      refine t_forget (B := live [(0, Ty.ptr 1000 0), (1, Ty.int .i64 n), (4, Ty.ptr 5 0), (5, Ty.ptr 6 0)] [(5, Cont.cells 30 [Ty.ex (.slice none 0 0), Ty.int .i64 0, Ty.ex (.slice none 0 0)]), (6, Cont.cells 30 [Ty.row I64 3 21 (mdW s k.1), Ty.int .i64 (skAmong s 1 6), Ty.ex (.slice none 0 0)]), (1000, Cont.cells 90 (skTys (skN s (2 + k.1))))]) ?_ ?_
      · (refine Ent.mk' ?_ ?_ <;> (repeat' (first | exact allSub_zero | exact allTags_nil | refine allSub_succ' ?_ (Ty.sub_any _) | refine allSub_succ' ?_ (Ty.sub_refl _) | refine allTags_cons rfl (Cont.sub_refl _) ?_)))
      have hkc : k.1 = mdC s := by omega
      refine t_pubC (tg := 21) [] [(6, Cont.cells 30 [Ty.sl I64 (mdF s).widths, Ty.int .i64 (mdF s).lines, Ty.ex (.slice none 0 0)])] (by decide) rfl trivial ⟨pubC_cells rfl rfl ⟨pubTy_row_eq (by rw [hkc]; rfl), pubTy_same rfl, pubTy_same rfl, trivial⟩, trivial⟩ ?_
      refine t_asC (tg := 1000) (D := Cont.cells 90 (skTys (skN s (2 + mdC s)))) rfl (by rw [hkc]; exact Cont.sub_refl _) ?_
      refine t_region ?_
      refine mvO rfl ?_
      refine mvI rfl ?_
      refine r_add rfl rfl (by omega) (by omega) ?_
      refine r_callG [(1000, 1000)] [] [(1000, Cont.cells 90 (skTys (skN s (2 + mdC s + 1))))] (c_Below (skN s (2 + mdC s)) (skN_ok hs (by omega)) (n + 1)) rfl rfl (by repeat (first | exact cv_nil | refine cv_cons ?_ ?_ | exact cv_ptr List.mem_cons_self | exact cv_pub rfl rfl)) (pre_cons (a := 1000) (b := 1000) (by exact List.mem_cons_self) rfl (cc_cells_eq (by exact List.mem_cons_self) rfl rfl rfl) pre_nil) (post_cons (a := 1000) (b := 1000) (by exact List.mem_cons_self) rfl (cc_cells_eq (by exact List.mem_cons_self) rfl rfl rfl) post_nil) (cv_pub rfl rfl) ?_
      refine mvI rfl ?_
      refine r_nil ?_
      refine i_then ?_
      refine t_block ?_
      refine t_loop (fun (j : {j : Nat // j ≤ mdN s n}) => live [(0, Ty.ptr 1000 0), (4, Ty.ptr 5 0), (5, Ty.ptr 6 0), (27, Ty.int .i64 (mdN s n : Nat)), (28, Ty.int .i64 (j.1 : Nat))] [(5, Cont.cells 30 [Ty.ex (.slice none 0 0), Ty.int .i64 0, Ty.ex (.slice none 0 0)]), (6, Cont.cells 30 [Ty.sl I64 (mdF s).widths, Ty.int .i64 (mdF s).lines, Ty.row BRowE 86 38 (mdR s j.1)]), (1000, Cont.cells 90 (skTys (mdS s j.1)))]) (fun j => mdN s n - j.1) (⟨0, by omega⟩) ?_ fun j => ?_
      · (refine Ent.mk' ?_ ?_ <;> (repeat' (first | exact allSub_zero | exact allTags_nil | exact subs_nil | refine allSub_succ' ?_ (Ty.sub_any _) | refine allSub_succ' ?_ (Ty.sub_refl _) | refine allTags_cons rfl (Cont.sub_refl _) ?_ | refine allTags_cons rfl (Cont.sub_subs ?_) ?_ | refine subs_cons ?_ (Ty.sub_refl _) | refine subs_cons ?_ Ty.nil_row | refine subs_cons ?_ ?_ | refine allSub_succ' ?_ ?_)))
        all_goals first | exact Ty.sub_int hni.symm | exact Ty.sub_int (congrArg Sk.mixed (mdS_0 s)) | exact Ty.sub_int (congrArg Sk.taken (mdS_0 s)) | exact Ty.sub_sl (congrArg Sk.grain (mdS_0 s))
      ·
        have hj := j.2
        have hrl := mdR_len s j.1
        have hso : (mdS s j.1).Ok 20 := by
          unfold mdS
          refine skN_ok hs ?_
          rw [hst]
          have h1 : j.1 * (1 + 2 * mdC s) ≤ 12 * 9 := Nat.mul_le_mul (by omega) (by omega)
          omega
        refine t_seq ?_
        refine t_region ?_
        refine r_bin rfl rfl rfl ?_
        refine r_nil ?_
        refine i_then ?_
        refine t_seq ?_
        refine t_cond_dec rfl (fun hc2 => ?_) (fun hc2 => ?_)
        ·
          refine t_skip ?_
          refine i_then ?_
          refine t_seq ?_
          refine t_block ?_
          refine t_draw mixed rfl ?_
          refine r_field_ptr rfl rfl rfl rfl rfl (by decide) ?_
          refine r_load_ptr rfl rfl (by decide) rfl rfl rfl ?_
          refine mvO rfl ?_
          refine r_field_ptr rfl rfl rfl rfl rfl (by decide) ?_
          refine r_load_ptrN rfl rfl (by decide) rfl rfl (by exact Nat.le_of_ble_eq_true rfl) ?_
          refine r_callG (res' := rowT (entR (mdF s) (mdS s j.1))) [(1000, 1000)] [] [(1000, Cont.cells 90 (skTys (mdS s (j.1 + 1))))] (c_Entry (mdF s) hff (mdS s j.1) hso) rfl rfl (cv_cons (cv_cons cv_nil (cv_pub rfl rfl)) (cv_ptr (by exact List.mem_cons_self))) (pre_cons (a := 1000) (b := 1000) (by exact List.mem_cons_self) rfl (cc_cells_eq (by exact List.mem_cons_self) rfl rfl rfl) pre_nil) (post_cons (a := 1000) (b := 1000) (by exact List.mem_cons_self) rfl (cc_cells_eq (by exact List.mem_cons_self) rfl rfl (by rw [mdS_succ])) post_nil) (cv_pub rfl rfl) ?_
          refine r_buildSlice (E := BRowE) (xs := [entR (mdF s) (mdS s j.1)]) rfl rfl rfl rfl rfl (by decide) (by decide) (by repeat (first | exact (Parts.nil : Parts _ _ [] _) | (show Parts _ _ ((_, _) :: _) _; apply Parts.agg; (· exact (rfl : _ = Ty.agg _))))) (by exact rfl) rfl ?_
          refine r_append rfl rfl (by decide) rfl rfl rfl rfl rfl rfl (by decide) (by (simp <;> omega)) (by (simp <;> omega)) ?_
          refine r_field_ptr rfl rfl rfl rfl rfl (by decide) ?_
          refine r_store1 rfl rfl (by decide) rfl rfl (by exact (rfl : _ = Ty.row _ _ _ _)) rfl (by exact Nat.le_of_ble_eq_true rfl) rfl rfl (by exact rfl) ?_
          refine r_nil ?_
          refine ⟨by kernel_rfl, ?_⟩
          refine i_block ?_
          refine i_then ?_
          refine t_region ?_
          refine r_add rfl rfl (by omega) (by omega) ?_
          refine mvI rfl ?_
          refine r_nil ?_
          refine i_round (⟨j.1 + 1, by omega⟩) ?_ (by show mdN s n - (j.1 + 1) < mdN s n - j.1; omega)
          (refine Ent.mk' ?_ ?_ <;> (repeat' (first | exact allSub_zero | exact allTags_nil | exact subs_nil | refine allSub_succ' ?_ (Ty.sub_any _) | refine allSub_succ' ?_ (Ty.sub_refl _) | refine allTags_cons rfl (Cont.sub_refl _) ?_ | refine allTags_cons rfl (Cont.sub_subs ?_) ?_ | refine subs_cons ?_ (Ty.sub_refl _) | refine subs_cons ?_ ?_)))
          all_goals skip
          all_goals exact Ty.sub_row (mdR_succ s j.1).symm
        ·
          refine t_exit ?_
          refine i_then_exit ?_
          refine i_then_exit ?_
          refine i_block_exit rfl ?_
          refine i_then ?_
          refine t_seq ?_
          refine t_pubC (tg := 38) [] [(6, Cont.cells 30 (bokTys (mdB s n)))] (by decide) rfl trivial ⟨pubC_cells rfl rfl ⟨pubTy_same rfl, pubTy_same rfl, pubTy_row_eq (by rw [show j.1 = mdN s n by omega]; rfl), trivial⟩, trivial⟩ ?_
          refine t_region ?_
          refine r_load_ptrN rfl rfl (by decide) rfl rfl (by exact Nat.le_of_ble_eq_true rfl) ?_
          refine r_storeN rfl rfl (by decide) rfl rfl rfl rfl rfl rfl ?_
          refine r_nil ?_
          refine i_then ?_
          refine t_ret ?_
          refine g_rcell [1000] rfl rfl rfl rfl (by decide) rfl rfl rfl (by decide) ?_ ?_
          exact rc_nil
          all_goals exact rg_cv (cv_pub rfl rfl)
          all_goals trace_state
end Go.Proofs.YtjjndkenddigiaaDoor

namespace Go.Proofs.YtjjndkenddigiaaDoor
open Go Go.T
def tnP (s : Sk) (t : Byt) : Nat → Sk × Byt × Nat
  | 0 => (skN s 2, t, (skBelow s t.length).toNat)
  | k + 1 => if skRare (skNext (tnP s t k).1) 3 = true then (skN (tnP s t k).1 3, (tnP s t k).2.1.set (tnP s t k).2.2 63, (skBelow (skN (tnP s t k).1 2) t.length).toNat)
    else (skN (tnP s t k).1 2, (tnP s t k).2.1.set (tnP s t k).2.2 63, ((((tnP s t k).2.2 : Nat) + skAmong (tnP s t k).1 1 12).tmod t.length).toNat)
theorem tn_yes {s : Sk} {t : Byt} {k : Nat} (h : skRare (skNext (tnP s t k).1) 3 = true) : tnP s t (k + 1) = (skN (tnP s t k).1 3, (tnP s t k).2.1.set (tnP s t k).2.2 63, (skBelow (skN (tnP s t k).1 2) t.length).toNat) := by
  rw [tnP, if_pos h]
theorem tn_no {s : Sk} {t : Byt} {k : Nat} (h : ¬ skRare (skNext (tnP s t k).1) 3 = true) : tnP s t (k + 1) = (skN (tnP s t k).1 2, (tnP s t k).2.1.set (tnP s t k).2.2 63, ((((tnP s t k).2.2 : Nat) + skAmong (tnP s t k).1 1 12).tmod t.length).toNat) := by
  rw [tnP, if_neg h]
theorem tn_ok {s : Sk} {t : Byt} (hs : s.Ok 20) : ∀ {k : Nat}, k ≤ 4 → (tnP s t k).1.Ok (18 - 3 * k) := by
  intro k
  induction k with
  | zero => intro _; exact skN_ok hs (by omega)
  | succ k ih =>
    intro hk
    have h := ih (by omega)
    by_cases hc : skRare (skNext (tnP s t k).1) 3 = true
    · rw [tn_yes hc]; exact skN_ok h (by omega)
    · rw [tn_no hc]; exact skN_ok h (by omega)
theorem tn_len {s : Sk} {t : Byt} (k : Nat) : (tnP s t k).2.1.length = t.length := by
  induction k with
  | zero => rfl
  | succ k ih =>
    by_cases hc : skRare (skNext (tnP s t k).1) 3 = true
    · rw [tn_yes hc]; simp [ih]
    · rw [tn_no hc]; simp [ih]
theorem tn_at {s : Sk} {t : Byt} (h : 0 < t.length) (k : Nat) : (tnP s t k).2.2 < t.length := by
  have hb : ∀ s, (skBelow s t.length).toNat < t.length := fun s => by
    have := skBelow_bound s t.length; omega
  cases k with
  | zero => exact hb s
  | succ k =>
    by_cases hc : skRare (skNext (tnP s t k).1) 3 = true
    · rw [tn_yes hc]; exact hb _
    · rw [tn_no hc]
      have h1 := among_bnd (tnP s t k).1 (lo := 1) (hi := 12) (by decide)
      have := tmod_in (a := ((tnP s t k).2.2 : Nat) + skAmong (tnP s t k).1 1 12) (b := t.length) (by omega) (by omega)
      show (_ : Int).toNat < _
      omega
theorem below_nat (s : Sk) (n : Int) : (((skBelow s n).toNat : Nat) : Int) = skBelow s n := by have := skBelow_bound s n; omega
theorem set_nth {α : Type} [Inhabited α] {l : List α} {i j : Nat} {v : α} (h : i < l.length) : nth (l.set i v) j = if j = i then v else nth l j := by
  unfold nth
  rw [List.getD_eq_getElem?_getD, List.getD_eq_getElem?_getD, List.getElem?_set]
  by_cases e : i = j
  · subst e; simp [h]
  · rw [if_neg e, if_neg (fun e' => e e'.symm)]
theorem set_cnt : ∀ (l : Byt) (i : Nat), tornN (l.set i 63) ≤ tornN l + 1
  | [], i => by simp
  | x :: l, 0 => by
    unfold tornN
    rw [List.set_cons_zero, List.count_cons_self, List.count_cons]; split <;> omega
  | x :: l, i + 1 => by
    have := set_cnt l i
    unfold tornN at this ⊢
    rw [List.set_cons_succ, List.count_cons, List.count_cons]; omega
theorem tn_agr {s : Sk} {t : Byt} (h : 0 < t.length) (k i : Nat) : nth (tnP s t k).2.1 i = 63 ∨ nth (tnP s t k).2.1 i = nth t i := by
  induction k with
  | zero => exact .inr rfl
  | succ k ih =>
    have e : (tnP s t (k + 1)).2.1 = (tnP s t k).2.1.set (tnP s t k).2.2 63 := by
      by_cases hc : skRare (skNext (tnP s t k).1) 3 = true
      · rw [tn_yes hc]
      · rw [tn_no hc]
    rw [e, set_nth (by rw [tn_len]; exact tn_at h k)]
    split
    · exact .inl rfl
    · exact ih
theorem tn_cnt {s : Sk} {t : Byt} (k : Nat) : tornN (tnP s t k).2.1 ≤ tornN t + k := by
  induction k with
  | zero => exact Nat.le_refl _
  | succ k ih =>
    have e : (tnP s t (k + 1)).2.1 = (tnP s t k).2.1.set (tnP s t k).2.2 63 := by
      by_cases hc : skRare (skNext (tnP s t k).1) 3 = true
      · rw [tn_yes hc]
      · rw [tn_no hc]
    rw [e]
    have := set_cnt (tnP s t k).2.1 (tnP s t k).2.2
    omega
def tnM (s : Sk) : Nat := (skAmong (skN s 1) 1 4).toNat
theorem tnM_bnd (s : Sk) : 1 ≤ tnM s ∧ tnM s ≤ 4 ∧ ((tnM s : Nat) : Int) = skAmong (skN s 1) 1 4 := by
  have := among_bnd (skN s 1) (lo := 1) (hi := 4) (by decide); unfold tnM; omega
def tornV (s : Sk) (t : Byt) : Byt := (tnP s t (tnM s)).2.1
theorem tornV_len (s : Sk) (t : Byt) : (tornV s t).length = t.length := tn_len _
theorem tornV_agr {s : Sk} {t : Byt} (h : 0 < t.length) (i : Nat) : nth (tornV s t) i = 63 ∨ nth (tornV s t) i = nth t i := tn_agr h _ i
theorem tornV_cnt {s : Sk} {t : Byt} (h : tornN t = 0) : tornN (tornV s t) ≤ 4 := by
  have := tn_cnt (s := s) (t := t) (tnM s)
  have := tnM_bnd s
  unfold tornV; omega
theorem no_torn {t : Byt} (h : ∀ x ∈ t, x ≠ 63) : tornN t = 0 := List.count_eq_zero.2 fun hm => h 63 hm rfl
def agrB (a b : Byt) : Bool := decide (a.length = b.length) && (List.range a.length).all fun i => decide (nth b i = 63) || decide (nth b i = nth a i)
theorem agr_yes {a b : Byt} (h : a.length = b.length) (h2 : ∀ i, i < a.length → nth b i = 63 ∨ nth b i = nth a i) : agrB a b = true := by
  unfold agrB
  simp only [h, decide_true, Bool.true_and, List.all_eq_true, List.mem_range, Bool.or_eq_true, decide_eq_true_eq]
  exact fun i hi => h2 i (by omega)
theorem agr_no1 {a b : Byt} (h : ¬ (a.length : Int) = b.length) : agrB a b = false := by
  unfold agrB; rw [decide_eq_false (by omega)]; rfl
theorem agr_no2 {a b : Byt} {i : Nat} (hi : i < a.length) (h : ¬ (((nth b i).toNat : Nat) : Int) = 63) (h2 : ¬ (((nth b i).toNat : Nat) : Int) = ((nth a i).toNat : Nat)) : agrB a b = false := by
  cases h3 : agrB a b with
  | false => rfl
  | true =>
    unfold agrB at h3
    simp only [Bool.and_eq_true, List.all_eq_true, List.mem_range, Bool.or_eq_true, decide_eq_true_eq] at h3
    rcases h3.2 i hi with e | e
    · exact absurd (by rw [e]; rfl) h
    · exact absurd (by rw [e]) h2
theorem byte_eq {x y : UInt8} (h : ((x.toNat : Nat) : Int) = (y.toNat : Nat)) : x = y := UInt8.toNat.inj (by omega)
end Go.Proofs.YtjjndkenddigiaaDoor

namespace Go.Proofs.YtjjndkenddigiaaDoor
open Go Go.T
inductive Rch (f : BForm) : Rdr → Byt → Rdr → Prop
  | nil (p : Rdr) : Rch f p [] p
  | cons {p q : Rdr} {c : UInt8} {t : Byt} (h : c ∈ canR f p) (h' : Rch f (nextR f p c) t q) : Rch f p (c :: t) q
theorem Rch.app {f : BForm} {p q r : Rdr} {t u : Byt} (h : Rch f p t q) (h' : Rch f q u r) : Rch f p (t ++ u) r := by
  induction h with
  | nil p => exact h'
  | cons hc _ ih => exact .cons hc (ih h')
theorem Rch.split {f : BForm} : ∀ {t u : Byt} {p r : Rdr}, Rch f p (t ++ u) r → ∃ q, Rch f p t q ∧ Rch f q u r
  | [], _, p, _, h => ⟨p, .nil p, h⟩
  | _ :: _, _, _, _, .cons hc h => let ⟨q, h1, h2⟩ := h.split; ⟨q, .cons hc h1, h2⟩
theorem Rch.run {f : BForm} {p q : Rdr} {t : Byt} (h : Rch f p t q) : runR f p t = (t.length, q) := by
  induction h with
  | nil p => rfl
  | @cons p q c t hc _ ih =>
    show (match stepR f p c with | none => (0, p) | some q => ((runR f q t).1 + 1, (runR f q t).2)) = _
    rw [show stepR f p c = some (nextR f p c) from if_pos hc]
    simp only [ih]; rfl
theorem Rch.ok {f : BForm} {p q : Rdr} {t : Byt} (h : Rch f p t q) (ho : RdrOk f p) : RdrOk f q := by
  induction h with
  | nil p => exact ho
  | cons hc _ ih => exact ih (next_ok ho hc)
theorem must_go {f : BForm} : ∀ (m : Byt) (p : Rdr), Rch f { p with must := m } m { p with must := [] }
  | [], p => .nil _
  | c :: m, p => .cons (by show c ∈ [c]; exact List.mem_singleton.2 rfl) (must_go m p)
theorem must_back {f : BForm} : ∀ (m : Byt) {t : Byt} {p q : Rdr}, Rch f { p with must := m } t q → q.must = [] → ∃ u, t = m ++ u ∧ Rch f { p with must := [] } u q
  | [], t, _, _, h, _ => ⟨t, rfl, h⟩
  | c :: m, [], p, q, h, hq => by
    cases h with
    | nil => cases hq
  | c :: m, d :: t, p, q, h, hq => by
    cases h with
    | cons hc h =>
      have e : d = c := List.mem_singleton.1 hc
      subst e
      obtain ⟨u, e, hu⟩ := must_back m (p := p) h hq
      exact ⟨u, by rw [e]; rfl, hu⟩
theorem whole_must {p : Rdr} (h : wholeR p = true) : p.must = [] ∧ p.closed = true := by
  unfold wholeR at h
  simp only [Bool.and_eq_true, List.isEmpty_iff] at h
  exact ⟨h.2, h.1⟩
def rdB (f : BForm) (rows : List BRow) (page : Int) (nums : List Int) (struck : Bool) (off num : Nat) : Rdr := ⟨rows.length, page, true, false, nums.length, off, num, decide (num ≠ 0), rows ++ [⟨nums, struck⟩], []⟩
def rdS (f : BForm) (rows : List BRow) (page : Int) (closed : Bool) : Rdr := ⟨rows.length, page, false, closed, if rows.length = 0 then 0 else f.widths.length, 0, 0, false, rows, []⟩
def rdE (f : BForm) (rows : List BRow) (page : Int) (nums : List Int) (struck : Bool) : Rdr :=
  if nums.length = f.widths.length then { rdS f (rows ++ [⟨nums, struck⟩]) (page + 1) false with must := [124, letB f ⟨nums, struck⟩, 10] } else { rdB f rows page nums struck 0 0 with must := [124] }
theorem pushN_rows {rows : List BRow} {nums : List Int} {struck : Bool} {n : Int} : pushN (rows ++ [⟨nums, struck⟩]) n = rows ++ [⟨nums ++ [n], struck⟩] := by
  unfold pushN
  have e : (rows ++ [(⟨nums, struck⟩ : BRow)]).length - 1 = rows.length := by simp
  rw [e, nth_snoc_new rfl, List.take_left]
theorem fig_mem {f : BForm} {p : Rdr} {c : UInt8} : c ∈ figC f p ↔ (c = 32 ∧ p.digits = false ∧ lastB f p = false) ∨ ∃ d, d < 10 ∧ (0 < d ∨ p.digits = true ∨ lastB f p = true) ∧ c = UInt8.ofNat (48 + d) := by
  rw [figC_eq, List.mem_append]
  refine or_congr ?_ ?_
  · unfold blkB
    cases p.digits <;> cases lastB f p <;> simp
  · unfold figs ctnB
    simp only [List.mem_map, List.mem_filter, List.mem_range, Bool.or_eq_true, decide_eq_true_eq]
    exact ⟨fun ⟨d, ⟨h1, h2⟩, e⟩ => ⟨d, h1, by rcases h2 with h | h; exact .inl h; exact .inr h, e.symm⟩, fun ⟨d, h1, h2, e⟩ => ⟨d, ⟨h1, by rcases h2 with h | h; exact .inl h; exact .inr h⟩, e.symm⟩⟩
theorem ofNat_dig {d : Nat} (h : d < 10) : UInt8.ofNat (48 + d) ≠ 32 ∧ ((UInt8.ofNat (48 + d)).toNat : Int) = 48 + d := by
  refine ⟨fun e => ?_, fig_val h⟩
  have := congrArg UInt8.toNat e
  rw [dig_toNat h] at this
  have e2 : (32 : UInt8).toNat = 32 := rfl
  omega
def chrF (w j m : Nat) : UInt8 := if m = 0 ∧ j + 1 < w then 32 else UInt8.ofNat (48 + m % 10)
theorem chr_can {f : BForm} {rows : List BRow} {page : Int} {nums : List Int} {struck : Bool} {off w m : Nat} (hw : nth f.widths nums.length = (w : Int)) (ho : off < w) : chrF w off m ∈ canR f (rdB f rows page nums struck off (m / 10)) := by
  have e : canR f (rdB f rows page nums struck off (m / 10)) = figC f (rdB f rows page nums struck off (m / 10)) := can_begun rfl rfl
  rw [e, fig_mem]
  have hl : lastB f (rdB f rows page nums struck off (m / 10)) = decide (off + 1 = w) := by
    show decide ((off : Int) = nth f.widths ((nums.length : Int)).toNat - 1) = _
    rw [Int.toNat_natCast, hw]
    rw [decide_eq_decide]; omega
  rw [hl]
  unfold chrF
  split
  · rename_i h
    refine .inl ⟨rfl, ?_, by simp; omega⟩
    show decide (m / 10 ≠ 0) = false
    simp; omega
  · rename_i h
    refine .inr ⟨m % 10, by omega, ?_, rfl⟩
    show _ ∨ decide (m / 10 ≠ 0) = true ∨ decide (off + 1 = w) = true
    simp only [decide_eq_true_eq]
    omega
theorem can_chr {f : BForm} {rows : List BRow} {page : Int} {nums : List Int} {struck : Bool} {off w n : Nat} {c : UInt8} (hw : nth f.widths nums.length = (w : Int)) (ho : off < w) (h : c ∈ canR f (rdB f rows page nums struck off n)) : ∃ m, m / 10 = n ∧ c = chrF w off m := by
  have e : canR f (rdB f rows page nums struck off n) = figC f (rdB f rows page nums struck off n) := can_begun rfl rfl
  rw [e, fig_mem] at h
  have hl : lastB f (rdB f rows page nums struck off n) = decide (off + 1 = w) := by
    show decide ((off : Int) = nth f.widths ((nums.length : Int)).toNat - 1) = _
    rw [Int.toNat_natCast, hw]
    rw [decide_eq_decide]; omega
  rw [hl] at h
  rcases h with ⟨h1, h2, h3⟩ | ⟨d, hd, h2, h3⟩
  · have h2 : decide (n ≠ 0) = false := h2
    simp at h2 h3
    refine ⟨0, by omega, ?_⟩
    unfold chrF; rw [if_pos ⟨rfl, by omega⟩]; exact h1
  · have h2 : 0 < d ∨ decide (n ≠ 0) = true ∨ decide (off + 1 = w) = true := h2
    simp only [decide_eq_true_eq] at h2
    refine ⟨10 * n + d, by omega, ?_⟩
    unfold chrF; rw [if_neg (by omega), show (10 * n + d) % 10 = d by omega]; exact h3
theorem num_chr {f : BForm} {rows : List BRow} {page : Int} {nums : List Int} {struck : Bool} {off w m : Nat} : numF (rdB f rows page nums struck off (m / 10)) (chrF w off m) = (m : Int) := by
  unfold numF
  show (if chrF w off m ≠ 32 then 10 * ((m / 10 : Nat) : Int) + (((chrF w off m).toNat : Int) - 48) else ((m / 10 : Nat) : Int)) = m
  unfold chrF
  split
  · rename_i h
    rw [if_neg (by simp)]; omega
  · have := ofNat_dig (d := m % 10) (by omega)
    rw [if_pos this.1, this.2]; omega
theorem dig_chr {f : BForm} {rows : List BRow} {page : Int} {nums : List Int} {struck : Bool} {off w m : Nat} (ho : off + 1 < w) : digF' (rdB f rows page nums struck off (m / 10)) (chrF w off m) = decide (m ≠ 0) := by
  unfold digF'
  show (decide (m / 10 ≠ 0) || decide (chrF w off m ≠ 32)) = _
  unfold chrF
  split
  · rename_i h
    rw [h.1]; rfl
  · rename_i h
    have := ofNat_dig (d := m % 10) (by omega)
    have hm : m ≠ 0 := fun e => h ⟨e, ho⟩
    rw [decide_eq_true this.1, decide_eq_true hm, Bool.or_true]
theorem next_chr {f : BForm} {rows : List BRow} {page : Int} {nums : List Int} {struck : Bool} {off w m : Nat} (hw : nth f.widths nums.length = (w : Int)) (ho : off + 1 < w) : nextR f (rdB f rows page nums struck off (m / 10)) (chrF w off m) = rdB f rows page nums struck (off + 1) m := by
  rw [next_f rfl rfl]
  have e : figR f (rdB f rows page nums struck off (m / 10)) (chrF w off m) = { rdB f rows page nums struck off (m / 10) with number := numF (rdB f rows page nums struck off (m / 10)) (chrF w off m), digits := digF' (rdB f rows page nums struck off (m / 10)) (chrF w off m), offset := (off : Int) + 1 } := if_pos (by
    show (off : Int) + 1 < nth f.widths ((nums.length : Int)).toNat
    rw [Int.toNat_natCast, hw]; omega)
  rw [e, num_chr, dig_chr ho]; rfl
theorem last_chr {f : BForm} {rows : List BRow} {page : Int} {nums : List Int} {struck : Bool} {off w m : Nat} (hw : nth f.widths nums.length = (w : Int)) (ho : off + 1 = w) : nextR f (rdB f rows page nums struck off (m / 10)) (chrF w off m) = rdE f rows page (nums ++ [(m : Int)]) struck := by
  rw [next_f rfl rfl]
  have hwd : ¬ (rdB f rows page nums struck off (m / 10)).offset + 1 < wid f (rdB f rows page nums struck off (m / 10)) := by
    show ¬ (off : Int) + 1 < nth f.widths ((nums.length : Int)).toNat
    rw [Int.toNat_natCast, hw]; omega
  have hr : pushN (rdB f rows page nums struck off (m / 10)).read (numF (rdB f rows page nums struck off (m / 10)) (chrF w off m)) = rows ++ [⟨nums ++ [(m : Int)], struck⟩] := by
    rw [num_chr]; exact pushN_rows
  unfold rdE
  split
  · rename_i hl
    rw [List.length_append, List.length_singleton] at hl
    rw [fig_3 hwd (by show ((nums.length : Int)) + 1 = _; omega), hr]
    have e1 : (rows ++ [(⟨nums ++ [(m : Int)], struck⟩ : BRow)]).length - 1 = rows.length := by simp
    rw [e1, nth_snoc_new rfl]
    unfold rdS rdB
    simp
    omega
  · rename_i hl
    rw [List.length_append, List.length_singleton] at hl
    rw [fig_2 hwd (by show ¬ ((nums.length : Int)) + 1 = _; omega), hr]
    unfold rdB
    simp
theorem byF_chr {n k w : Nat} (hk : k < w) : byF n k = chrF w (w - 1 - k) (n / 10 ^ k) := by
  unfold byF chrF
  have : (0 < k) ↔ (w - 1 - k + 1 < w) := by omega
  simp [this]
theorem fld_go {f : BForm} {rows : List BRow} {page : Int} {nums : List Int} {struck : Bool} {n w : Nat} (hw : nth f.widths nums.length = (w : Int)) : ∀ k, k + 1 ≤ w → Rch f (rdB f rows page nums struck (w - (k + 1)) (n / 10 ^ (k + 1))) (fldR n (k + 1)) (rdE f rows page (nums ++ [(n : Int)]) struck)
  | 0, hk => by
    have e : fldR n 1 = [chrF w (w - 1) n] := by
      rw [fldR_succ, byF_chr (w := w) (by omega)]; simp [fldR]
    rw [e, Nat.pow_one]
    refine .cons (chr_can hw (by omega)) ?_
    rw [last_chr hw (by omega)]
    exact .nil _
  | k + 1, hk => by
    rw [fldR_succ, byF_chr (w := w) (by omega)]
    have e : n / 10 ^ (k + 1 + 1) = n / 10 ^ (k + 1) / 10 := by rw [Nat.pow_succ, Nat.div_div_eq_div_mul]
    rw [e, show w - 1 - (k + 1) = w - (k + 1 + 1) by omega]
    refine .cons (chr_can hw (by omega)) ?_
    rw [next_chr hw (by omega), show w - (k + 1 + 1) + 1 = w - (k + 1) by omega]
    exact fld_go hw k (by omega)
theorem fld_back {f : BForm} {rows : List BRow} {page : Int} {nums : List Int} {struck : Bool} {w : Nat} (hw : nth f.widths nums.length = (w : Int)) : ∀ k m {t : Byt} {q : Rdr}, k + 1 ≤ w → Rch f (rdB f rows page nums struck (w - (k + 1)) m) t q → q.begun = false → ∃ n u, n / 10 ^ (k + 1) = m ∧ t = fldR n (k + 1) ++ u ∧ Rch f (rdE f rows page (nums ++ [(n : Int)]) struck) u q
  | k, m, [], q, hk, h, hq => by
    cases h with
    | nil => cases hq
  | 0, m, c :: t, q, hk, h, hq => by
    cases h with
    | cons hc h =>
      obtain ⟨n, e, rfl⟩ := can_chr hw (by omega) hc
      subst e
      rw [last_chr hw (by omega)] at h
      refine ⟨n, t, by rw [Nat.pow_one], ?_, h⟩
      rw [fldR_succ, byF_chr (w := w) (by omega)]; simp [fldR]
  | k + 1, m, c :: t, q, hk, h, hq => by
    cases h with
    | cons hc h =>
      obtain ⟨n', e, rfl⟩ := can_chr hw (by omega) hc
      subst e
      rw [next_chr hw (by omega), show w - (k + 1 + 1) + 1 = w - (k + 1) by omega] at h
      obtain ⟨n, u, e1, e2, h3⟩ := fld_back hw k n' (by omega) h hq
      refine ⟨n, u, by rw [← e1, Nat.pow_succ, Nat.div_div_eq_div_mul], ?_, h3⟩
      rw [fldR_succ n (k + 1), byF_chr (w := w) (by omega), e1, show w - 1 - (k + 1) = w - (k + 1 + 1) by omega, e2]; rfl
end Go.Proofs.YtjjndkenddigiaaDoor

namespace Go.Proofs.YtjjndkenddigiaaDoor
open Go Go.T
def colsB (f : BForm) (r : BRow) (c : Nat) : Nat → Byt
  | 0 => []
  | k + 1 => fldN (nth r.nums c) (nth f.widths c) ++ 124 :: colsB f r (c + 1) k
theorem cols_eq (f : BForm) (r : BRow) : ∀ (k c : Nat), colsB f r c k = ((List.range k).map fun i => fldN (nth r.nums (c + i)) (nth f.widths (c + i)) ++ [124]).flatten
  | 0, _ => rfl
  | k + 1, c => by
    rw [colsB, cols_eq f r k (c + 1), List.range_succ_eq_map]
    simp only [List.map_cons, List.flatten_cons, Nat.add_zero, List.map_map]
    rw [List.append_assoc]
    congr 1
    rw [List.singleton_append]
    congr 2
    apply List.map_congr_left
    intro i _
    simp only [Function.comp_apply]
    rw [show c + 1 + i = c + (i + 1) by omega]
def markB (r : BRow) : UInt8 := if r.struck then 45 else 32
theorem rowB_cols (f : BForm) (r : BRow) : rowB f r = markB r :: (colsB f r 0 f.widths.length ++ [letB f r, 10]) := by
  unfold rowB markB
  rw [cols_eq]
  simp
theorem Rch.one {f : BForm} {p : Rdr} {c : UInt8} (h : c ∈ canR f p) : Rch f p [c] (nextR f p c) := .cons h (.nil _)
theorem cols_go {f : BForm} (hf : FormOk f) {r : BRow} (hr : RowOk f r) (rows : List BRow) (page : Int) : ∀ (k c : Nat), c + (k + 1) = f.widths.length →
    Rch f (rdB f rows page (r.nums.take c) r.struck 0 0) (colsB f r c (k + 1)) { rdS f (rows ++ [r]) (page + 1) false with must := [letB f r, 10] }
  | k, c, hk => by
    have hc : c < f.widths.length := by omega
    have hlen := hr.len
    have htl : (r.nums.take c).length = c := by rw [List.length_take]; omega
    obtain ⟨hn0, hn1⟩ := hr.num c hc
    have hw := nth_wid hf hc
    have hwi : nth f.widths (r.nums.take c).length = (((nth f.widths c).toNat : Nat) : Int) := by rw [htl]; omega
    have hwp : (nth f.widths c).toNat - 1 + 1 = (nth f.widths c).toNat := by omega
    have h1 := fld_go (rows := rows) (page := page) (struck := r.struck) (n := (nth r.nums c).toNat) hwi ((nth f.widths c).toNat - 1) (by omega)
    rw [hwp, fld_ref hn0 hw.1 (by omega) hn1, Nat.sub_self, show (((nth r.nums c).toNat : Nat) : Int) = nth r.nums c by omega] at h1
    have hz : (nth r.nums c).toNat / 10 ^ (nth f.widths c).toNat = 0 := by
      apply Nat.div_eq_of_lt
      unfold ten at hn1; omega
    rw [hz] at h1
    have htk : r.nums.take c ++ [nth r.nums c] = r.nums.take (c + 1) := (take_nth (by omega)).symm
    rw [htk] at h1
    rw [colsB]
    refine h1.app ?_
    unfold rdE
    rw [show (r.nums.take (c + 1)).length = c + 1 by rw [List.length_take]; omega]
    match k, hk with
    | 0, hk =>
      rw [if_pos (by omega), show r.nums.take (c + 1) = r.nums from List.take_of_length_le (by omega)]
      have e : (⟨r.nums, r.struck⟩ : BRow) = r := rfl
      rw [e]
      exact .cons (List.mem_singleton.2 rfl) (.nil _)
    | k + 1, hk =>
      rw [if_neg (by omega)]
      exact .cons (List.mem_singleton.2 rfl) (cols_go hf hr rows page k (c + 1) (by omega))
theorem moB_S {f : BForm} {rows : List BRow} {page : Int} {cl : Bool} (h : page < f.lines) (h2 : rows.length < 12) : moB f (rdS f rows page cl) = true := by
  unfold moB rdS; simp; omega
theorem row_go {f : BForm} (hf : FormOk f) {r : BRow} (hr : RowOk f r) {rows : List BRow} {page : Int} (h : page < f.lines) (h2 : rows.length < 12) : Rch f (rdS f rows page false) (rowB f r) (rdS f (rows ++ [r]) (page + 1) false) := by
  rw [rowB_cols]
  have hm := moB_S (cl := false) h h2
  have hc : markB r ∈ canR f (rdS f rows page false) := by
    rw [can_open rfl rfl rfl, if_pos hm]
    unfold markB
    cases r.struck <;> simp
  refine .cons hc ?_
  have hnext : nextR f (rdS f rows page false) (markB r) = rdB f rows page (r.nums.take 0) r.struck 0 0 := by
    rw [next_r rfl rfl (by unfold markB; cases r.struck <;> decide) (by unfold markB; cases r.struck <;> decide)]
    have e : decide (((markB r).toNat : Int) = 45) = r.struck := by unfold markB; cases r.struck <;> rfl
    rw [e]; rfl
  rw [hnext]
  obtain ⟨k, hk⟩ : ∃ k, f.widths.length = k + 1 := ⟨f.widths.length - 1, by have := hf.n1; omega⟩
  have h1 := cols_go hf hr rows page k 0 (by omega)
  rw [← hk] at h1
  exact h1.app (must_go _ (rdS f (rows ++ [r]) (page + 1) false))
theorem cols_back {f : BForm} (hf : FormOk f) {rows : List BRow} {page : Int} {struck : Bool} : ∀ (k : Nat) (nums : List Int) {t : Byt} {q : Rdr}, nums.length + (k + 1) = f.widths.length → (∀ c, c < nums.length → 0 ≤ nth nums c ∧ nth nums c < ten (nth f.widths c)) →
    Rch f (rdB f rows page nums struck 0 0) t q → q.begun = false → q.must = [] → ∃ r u, RowOk f r ∧ r.struck = struck ∧ r.nums.take nums.length = nums ∧ t = colsB f r nums.length (k + 1) ++ [letB f r, 10] ++ u ∧ Rch f (rdS f (rows ++ [r]) (page + 1) false) u q
  | k, nums, t, q, hk, hb, h, hq, hqm => by
    have hc : nums.length < f.widths.length := by omega
    have hw := nth_wid hf hc
    have hwi : nth f.widths nums.length = (((nth f.widths nums.length).toNat : Nat) : Int) := by omega
    have hwp : (nth f.widths nums.length).toNat - 1 + 1 = (nth f.widths nums.length).toNat := by omega
    rw [show (0 : Nat) = (nth f.widths nums.length).toNat - ((nth f.widths nums.length).toNat - 1 + 1) by omega] at h
    obtain ⟨n, u, e1, e2, h3⟩ := fld_back hwi ((nth f.widths nums.length).toNat - 1) _ (by omega) h hq
    rw [hwp] at e1 e2
    have hn : (n : Int) < ten (nth f.widths nums.length) := by
      have e1 : n / 10 ^ (nth f.widths nums.length).toNat = 0 := by rw [e1]; omega
      have := (Nat.div_eq_zero_iff_lt (Nat.pow_pos (n := (nth f.widths nums.length).toNat) (show 0 < 10 by decide))).1 e1
      unfold ten; omega
    have hfd : fldR n (nth f.widths nums.length).toNat = fldN (n : Int) (nth f.widths nums.length) := by
      have := fld_ref (n := (n : Int)) (w := nth f.widths nums.length) (by omega) hw.1 (by omega) hn
      simpa using this
    rw [hfd] at e2
    have hlen : (nums ++ [(n : Int)]).length = nums.length + 1 := by simp
    unfold rdE at h3
    rw [hlen] at h3
    have hb' : ∀ c, c < (nums ++ [(n : Int)]).length → 0 ≤ nth (nums ++ [(n : Int)]) c ∧ nth (nums ++ [(n : Int)]) c < ten (nth f.widths c) := by
      intro c hc
      rw [hlen] at hc
      by_cases e : c < nums.length
      · rw [nth_snoc_old e]; exact hb c e
      · obtain rfl : c = nums.length := by omega
        rw [nth_snoc_new rfl]; exact ⟨by omega, hn⟩
    match k, hk with
    | 0, hk =>
      rw [if_pos (by omega)] at h3
      obtain ⟨u', e3, h4⟩ := must_back _ (p := rdS f (rows ++ [⟨nums ++ [(n : Int)], struck⟩]) (page + 1) false) h3 hqm
      refine ⟨⟨nums ++ [(n : Int)], struck⟩, u', ⟨by rw [hlen]; omega, fun c hc => hb' c (by rw [hlen]; omega)⟩, rfl, by simp, ?_, h4⟩
      rw [e2, e3, colsB, colsB]
      show _ = fldN (nth (nums ++ [(n : Int)]) nums.length) _ ++ [124] ++ _ ++ _
      rw [nth_snoc_new rfl]
      simp
    | k + 1, hk =>
      rw [if_neg (by omega)] at h3
      obtain ⟨u', e3, h4⟩ := must_back _ (p := rdB f rows page (nums ++ [(n : Int)]) struck 0 0) h3 hqm
      obtain ⟨r, v, g1, g2, g3, g4, g5⟩ := cols_back hf k (nums ++ [(n : Int)]) (by rw [hlen]; omega) hb' h4 hq hqm
      rw [hlen] at g3 g4
      have hnn : nth r.nums nums.length = (n : Int) := by
        have hl : nums.length < r.nums.length := by have := g1.len; omega
        have h9 := take_nth hl
        rw [g3] at h9
        have := List.append_inj_right' h9 rfl
        simpa using this.symm
      refine ⟨r, v, g1, g2, ?_, ?_, g5⟩
      · have := congrArg (List.take nums.length) g3
        rw [List.take_take, Nat.min_eq_left (by omega), List.take_left] at this
        exact this
      · rw [e2, e3, g4, show colsB f r nums.length (k + 1 + 1) = fldN (nth r.nums nums.length) (nth f.widths nums.length) ++ 124 :: colsB f r (nums.length + 1) (k + 1) from rfl, hnn]
        simp
theorem row_back {f : BForm} (hf : FormOk f) {rows : List BRow} {page : Int} {c : UInt8} {t : Byt} {q : Rdr} (h : Rch f (rdS f rows page false) (c :: t) q) (hc : c = 32 ∨ c = 45) (hq : q.begun = false) (hqm : q.must = []) :
    page < f.lines ∧ rows.length < 12 ∧ ∃ r u, RowOk f r ∧ c :: t = rowB f r ++ u ∧ Rch f (rdS f (rows ++ [r]) (page + 1) false) u q := by
  cases h with
  | cons hm h =>
    have hmo : moB f (rdS f rows page false) = true := by
      rw [can_open rfl rfl rfl] at hm
      cases hmo : moB f (rdS f rows page false) with
      | true => rfl
      | false =>
        rw [hmo, if_neg (by decide), List.nil_append] at hm
        split at hm
        · rw [List.mem_singleton.1 hm] at hc; rcases hc with h | h <;> exact absurd h (by decide)
        · cases hm
    have hmo' := hmo
    unfold moB rdS at hmo'
    simp only [Bool.and_eq_true, decide_eq_true_eq] at hmo'
    have hnext : nextR f (rdS f rows page false) c = rdB f rows page [] (decide (c = 45)) 0 0 := by
      rw [next_r rfl rfl (by rcases hc with rfl | rfl <;> decide) (by rcases hc with rfl | rfl <;> decide)]
      rcases hc with rfl | rfl <;> rfl
    rw [hnext] at h
    obtain ⟨k, hk⟩ : ∃ k, f.widths.length = k + 1 := ⟨f.widths.length - 1, by have := hf.n1; omega⟩
    obtain ⟨r, u, g1, g2, _, g4, g5⟩ := cols_back hf k [] (by simp; omega) (fun c hc => by cases hc) h hq hqm
    refine ⟨hmo'.1, by omega, r, u, g1, ?_, g5⟩
    rw [rowB_cols, g4, List.length_nil, hk]
    have : markB r = c := by
      unfold markB; rw [g2]
      rcases hc with rfl | rfl <;> rfl
    rw [this]; simp
theorem eqB_S {f : BForm} {rows : List BRow} {page : Int} : eqB (rdS f rows page false) = true ↔ page > 0 ∨ (rows.length = 0 ∧ page = 0) := by
  unfold eqB Rdr.fresh rdS
  simp only [Bool.or_eq_true, decide_eq_true_eq, Bool.and_eq_true]
  refine or_congr Iff.rfl ⟨fun h => ⟨by omega, h.2.1⟩, fun h => ?_⟩
  simp [h.1, h.2]
theorem eq_go {f : BForm} {rows : List BRow} {page : Int} (h : page > 0 ∨ (rows.length = 0 ∧ page = 0)) : Rch f (rdS f rows page false) (61 :: lineB f rows) (rdS f rows page true) := by
  have hm : (61 : UInt8) ∈ canR f (rdS f rows page false) := by
    rw [can_open rfl rfl rfl, if_pos (eqB_S.2 h)]; simp
  refine .cons hm ?_
  rw [next_e rfl rfl (by decide)]
  exact must_go (lineB f rows) (rdS f rows page true)
theorem plus_go {f : BForm} {rows : List BRow} {page : Int} (h : page = f.lines) (h2 : rows.length < 12) : Rch f (rdS f rows page true) (43 :: lineB f rows) (rdS f rows 0 false) := by
  have hm : (43 : UInt8) ∈ canR f (rdS f rows page true) := by
    rw [can_closed rfl rfl rfl, if_pos]
    · simp
    · unfold rdS; simp; omega
  refine .cons hm ?_
  rw [next_p rfl rfl (by decide)]
  exact must_go (lineB f rows) (rdS f rows 0 false)
inductive Good (f : BForm) : List BRow → Int → Bool → Byt → List BRow → Prop
  | fin {rows : List BRow} {page : Int} : Good f rows page true [] rows
  | row {rows R : List BRow} {page : Int} {r : BRow} {t : Byt} (h : page < f.lines) (h2 : rows.length < 12) (hr : RowOk f r) (h' : Good f (rows ++ [r]) (page + 1) false t R) : Good f rows page false (rowB f r ++ t) R
  | eq {rows R : List BRow} {page : Int} {t : Byt} (h : page > 0 ∨ (rows.length = 0 ∧ page = 0)) (h' : Good f rows page true t R) : Good f rows page false (61 :: lineB f rows ++ t) R
  | plus {rows R : List BRow} {page : Int} {t : Byt} (h : page = f.lines) (h2 : rows.length < 12) (h' : Good f rows 0 false t R) : Good f rows page true (43 :: lineB f rows ++ t) R
theorem good_rch {f : BForm} (hf : FormOk f) {rows R : List BRow} {page : Int} {cl : Bool} {t : Byt} (h : Good f rows page cl t R) : ∃ p', Rch f (rdS f rows page cl) t (rdS f R p' true) := by
  induction h with
  | @fin rows page => exact ⟨page, .nil _⟩
  | row h h2 hr _ ih => obtain ⟨p', h3⟩ := ih; exact ⟨p', (row_go hf hr h h2).app h3⟩
  | eq h _ ih => obtain ⟨p', h3⟩ := ih; exact ⟨p', (eq_go h).app h3⟩
  | plus h h2 _ ih => obtain ⟨p', h3⟩ := ih; exact ⟨p', (plus_go h h2).app h3⟩
theorem rch_good {f : BForm} (hf : FormOk f) : ∀ (n : Nat) {rows : List BRow} {page : Int} {cl : Bool} {t : Byt} {q : Rdr}, t.length ≤ n → Rch f (rdS f rows page cl) t q → q.begun = false → q.must = [] → q.closed = true → Good f rows page cl t q.read
  | n, rows, page, cl, [], q, _, h, _, _, hc => by
    cases h with
    | nil => have hc : cl = true := hc
             subst hc; exact .fin
  | 0, _, _, _, _ :: _, _, hn, _, _, _, _ => by simp at hn
  | n + 1, rows, page, true, c :: t, q, hn, h, hb, hm, hc => by
    cases h with
    | cons hm1 h =>
      rw [can_closed rfl rfl rfl] at hm1
      split at hm1
      · rename_i hd
        obtain rfl := List.mem_singleton.1 hm1
        rw [next_p rfl rfl (by decide)] at h
        obtain ⟨u, e, hu⟩ := must_back (lineB f rows) (p := rdS f rows 0 false) h hm
        unfold rdS at hd
        simp only [Bool.and_eq_true, decide_eq_true_eq] at hd
        rw [e]
        refine .plus hd.1 (by omega) (rch_good hf n ?_ hu hb hm hc)
        have := congrArg List.length e
        simp at this hn; omega
      · cases hm1
  | n + 1, rows, page, false, c :: t, q, hn, h, hb, hm, hc => by
    by_cases hrow : c = 32 ∨ c = 45
    · obtain ⟨h1, h2, r, u, hr, e, hu⟩ := row_back hf h hrow hb hm
      rw [e]
      refine .row h1 h2 hr (rch_good hf n ?_ hu hb hm hc)
      have := congrArg List.length e
      rw [rowB_cols] at this
      simp at this hn; omega
    · cases h with
      | cons hm1 h =>
        rw [can_open rfl rfl rfl] at hm1
        have h61 : c = 61 ∧ eqB (rdS f rows page false) = true := by
          rcases List.mem_append.1 hm1 with h | h
          · split at h
            · simp at h; exact absurd h hrow
            · cases h
          · split at h
            · rename_i he; exact ⟨List.mem_singleton.1 h, he⟩
            · cases h
        obtain ⟨rfl, he⟩ := h61
        rw [next_e rfl rfl (by decide)] at h
        obtain ⟨u, e, hu⟩ := must_back (lineB f rows) (p := rdS f rows page true) h hm
        rw [e]
        refine .eq (eqB_S.1 he) (rch_good hf n ?_ hu hb hm hc)
        have := congrArg List.length e
        simp at this hn; omega
end Go.Proofs.YtjjndkenddigiaaDoor

namespace Go.Proofs.YtjjndkenddigiaaDoor
open Go Go.T
def prnt (f : BForm) (L : Nat) : List BRow → Nat → List BRow → Byt
  | done, _, [] => 61 :: lineB f done
  | done, page, r :: rs => if page < L then rowB f r ++ prnt f L (done ++ [r]) (page + 1) rs else (61 :: lineB f done) ++ (43 :: lineB f done) ++ (rowB f r ++ prnt f L (done ++ [r]) 1 rs)
theorem prnt_chunk {f : BForm} {L : Nat} : ∀ (xs : List BRow) (done : List BRow) (page : Nat) (rest : List BRow), page + xs.length ≤ L → prnt f L done page (xs ++ rest) = rowsB f xs ++ prnt f L (done ++ xs) (page + xs.length) rest
  | [], done, page, rest, _ => by simp [rowsB]
  | x :: xs, done, page, rest, h => by
    simp only [List.length_cons] at h
    rw [List.cons_append, prnt, if_pos (by omega), prnt_chunk xs (done ++ [x]) (page + 1) rest (by omega)]
    simp only [rowsB, List.map_cons, List.flatten_cons, List.append_assoc, List.length_cons, List.singleton_append]
    rw [show page + 1 + xs.length = page + (xs.length + 1) by omega]
def pgsB (f : BForm) (rows : List BRow) (L i n : Nat) : Byt := ((List.range n).map fun j => pageB f rows L (i + j)).flatten
theorem pgsB_succ (f : BForm) (rows : List BRow) (L i n : Nat) : pgsB f rows L i (n + 1) = pageB f rows L i ++ pgsB f rows L (i + 1) n := by
  unfold pgsB
  rw [List.range_succ_eq_map]
  simp only [List.map_cons, List.flatten_cons, Nat.add_zero, List.map_map]
  congr 2
  apply List.map_congr_left
  intro j _
  simp only [Function.comp_apply]
  rw [show i + 1 + j = i + (j + 1) by omega]
theorem mid_split {rows : List BRow} {a b : Nat} (h : a ≤ b) : rows.drop a = ((rows.take b).drop a) ++ rows.drop b := by
  have h1 : rows.drop a = (rows.take b ++ rows.drop b).drop a := by rw [List.take_append_drop]
  rw [h1, List.drop_append]
  by_cases e : b ≤ rows.length
  · have : a - (rows.take b).length = 0 := by rw [List.length_take]; omega
    rw [this, List.drop_zero]
  · rw [List.drop_of_length_le (i := b) (by omega), List.drop_nil]
theorem take_mid {rows : List BRow} {a b : Nat} (h : a ≤ b) : rows.take a ++ (rows.take b).drop a = rows.take b := by
  have : rows.take a = (rows.take b).take a := by rw [List.take_take, Nat.min_eq_left h]
  rw [this, List.take_append_drop]
theorem pages_prnt {f : BForm} {rows : List BRow} {L : Nat} (hL : 1 ≤ L ∧ L ≤ 6) : ∀ (n i : Nat), i + (n + 1) = pgs L rows.length → 1 ≤ i →
    prnt f L (rows.take (i * L)) L (rows.drop (i * L)) = (61 :: lineB f (rows.take (i * L))) ++ pgsB f rows L i (n + 1) := by
  intro n
  induction n with
  | zero =>
    intro i hi h1
    have hend : endN L rows.length i = rows.length := by unfold endN; rw [if_neg (by omega)]
    have hfrm : frmN L rows.length i = i * L := by unfold frmN endN; rw [if_neg (by omega), if_pos (by omega), show i - 1 + 1 = i by omega]
    have hlt : i * L < rows.length := by
      unfold pgs at hi
      rcases six_cases hL with rfl | rfl | rfl | rfl | rfl | rfl <;> omega
    have hle : rows.length ≤ i * L + L := by
      unfold pgs at hi
      rcases six_cases hL with rfl | rfl | rfl | rfl | rfl | rfl <;> omega
    rw [pgsB_succ]
    have e0 : pgsB f rows L (i + 1) 0 = [] := rfl
    rw [e0, List.append_nil]
    unfold pageB topB midB
    rw [if_neg (by omega), hend, hfrm, List.take_length]
    match hd : rows.drop (i * L) with
    | [] => have := congrArg List.length hd; simp at this; omega
    | r :: rs =>
      have hlen := congrArg List.length hd
      simp only [List.length_drop, List.length_cons] at hlen
      rw [prnt, if_neg (by omega)]
      have h3 := prnt_chunk (f := f) (L := L) rs (rows.take (i * L) ++ [r]) 1 [] (by omega)
      rw [List.append_nil] at h3
      rw [h3]
      have e1 : rows.take (i * L) ++ [r] ++ rs = rows := by
        rw [List.append_assoc, List.singleton_append, ← hd, List.take_append_drop]
      rw [e1, prnt]
      simp only [rowsB, List.map_cons, List.flatten_cons, List.append_assoc]
  | succ n ih =>
    intro i hi h1
    have hend : endN L rows.length i = (i + 1) * L := by unfold endN; rw [if_pos (by omega)]
    have hfrm : frmN L rows.length i = i * L := by unfold frmN endN; rw [if_neg (by omega), if_pos (by omega), show i - 1 + 1 = i by omega]
    have hlt : (i + 1) * L < rows.length := by
      unfold pgs at hi
      rcases six_cases hL with rfl | rfl | rfl | rfl | rfl | rfl <;> omega
    have hmul : (i + 1) * L = i * L + L := Nat.succ_mul i L
    rw [pgsB_succ]
    have h2 := ih (i + 1) (by omega) (by omega)
    unfold pageB topB midB
    rw [if_neg (by omega), hend, hfrm]
    have hsp := mid_split (rows := rows) (a := i * L) (b := (i + 1) * L) (by omega)
    have hml : ((rows.take ((i + 1) * L)).drop (i * L)).length = L := by rw [List.length_drop, List.length_take]; omega
    have htk := take_mid (rows := rows) (a := i * L) (b := (i + 1) * L) (by omega)
    rw [hsp]
    match hd : (rows.take ((i + 1) * L)).drop (i * L) with
    | [] => rw [hd] at hml; simp at hml; omega
    | r :: rs =>
      rw [hd] at hml htk
      simp only [List.length_cons] at hml
      rw [List.cons_append, prnt, if_neg (by omega), prnt_chunk rs (rows.take (i * L) ++ [r]) 1 _ (by omega)]
      have e1 : rows.take (i * L) ++ [r] ++ rs = rows.take ((i + 1) * L) := by
        rw [List.append_assoc, List.singleton_append]; exact htk
      rw [e1, show 1 + rs.length = L by omega, h2]
      simp only [rowsB, List.map_cons, List.flatten_cons, List.append_assoc, List.cons_append]
theorem print_prnt {b : Book} (hb : BookOk b) : printB b = prnt b.form b.form.lines.toNat [] 0 b.rows := by
  obtain ⟨hf1, hf2⟩ : 1 ≤ b.form.lines.toNat ∧ b.form.lines.toNat ≤ 6 := by have := hb.form.l1; have := hb.form.l2; omega
  generalize hL : b.form.lines.toNat = L at *
  have e0 : printB b = pgsB b.form b.rows L 0 (pgs L b.rows.length) := by
    unfold printB prtB pgsB; rw [hL]
    congr 2
    funext j; rw [Nat.zero_add]
  rw [e0]
  obtain ⟨n, hn⟩ : ∃ n, pgs L b.rows.length = n + 1 := ⟨_, rfl⟩
  rw [hn, pgsB_succ]
  match n, hn with
  | 0, hn =>
    have hle : b.rows.length ≤ L := by
      unfold pgs at hn
      rcases six_cases ⟨hf1, hf2⟩ with rfl | rfl | rfl | rfl | rfl | rfl <;> omega
    have hend : endN L b.rows.length 0 = b.rows.length := by unfold endN; rw [if_neg (by omega)]
    have e1 : pgsB b.form b.rows L (0 + 1) 0 = [] := rfl
    rw [e1, List.append_nil]
    unfold pageB topB midB
    rw [if_pos rfl, hend, frmN_zero, List.take_length, List.drop_zero, List.nil_append]
    have h3 := prnt_chunk (f := b.form) (L := L) b.rows [] 0 [] (by omega)
    rw [List.append_nil, List.nil_append] at h3
    rw [h3, prnt]
  | n + 1, hn =>
    have hlt : L < b.rows.length := by
      unfold pgs at hn
      rcases six_cases ⟨hf1, hf2⟩ with rfl | rfl | rfl | rfl | rfl | rfl <;> omega
    have hend : endN L b.rows.length 0 = L := by unfold endN; rw [if_pos (by omega)]; omega
    unfold pageB topB midB
    rw [if_pos rfl, hend, frmN_zero, List.drop_zero, List.nil_append]
    have h2 := pages_prnt (f := b.form) (rows := b.rows) ⟨hf1, hf2⟩ n 1 (by omega) (by omega)
    rw [Nat.one_mul] at h2
    have h3 := prnt_chunk (f := b.form) (L := L) (b.rows.take L) [] 0 (b.rows.drop L) (by rw [List.length_take]; omega)
    rw [List.take_append_drop, List.nil_append, show 0 + (b.rows.take L).length = L by rw [List.length_take]; omega, h2] at h3
    rw [h3]
    simp
theorem prnt_good {f : BForm} (hf : FormOk f) : ∀ (rs done : List BRow) (page : Nat), page ≤ f.lines.toNat → (page = 0 → done = []) → (∀ r ∈ rs, RowOk f r) → done.length + rs.length ≤ 12 → Good f done page false (prnt f f.lines.toNat done page rs) (done ++ rs)
  | [], done, page, hp, h0, _, _ => by
    rw [prnt, List.append_nil, show (61 : UInt8) :: lineB f done = 61 :: lineB f done ++ [] by simp]
    refine .eq ?_ .fin
    by_cases e : page = 0
    · exact .inr ⟨by rw [h0 e]; rfl, by omega⟩
    · exact .inl (by omega)
  | r :: rs, done, page, hp, h0, hr, hl => by
    have hl1 := hf.l1
    simp only [List.length_cons] at hl
    have ih : ∀ p, p + 1 ≤ f.lines.toNat → Good f (done ++ [r]) ((p + 1 : Nat) : Int) false (prnt f f.lines.toNat (done ++ [r]) (p + 1) rs) (done ++ (r :: rs)) := fun p hp => by
      have := prnt_good hf rs (done ++ [r]) (p + 1) hp (fun h => by omega) (fun x hx => hr x (List.mem_cons_of_mem _ hx)) (by simp; omega)
      simpa using this
    rw [prnt]
    split
    · rename_i h
      exact .row (by omega) (by omega) (hr r List.mem_cons_self) (by have := ih page (by omega); exact_mod_cast this)
    · rename_i h
      have h1 := ih 0 (by omega)
      have h2 : Good f done 0 false (rowB f r ++ prnt f f.lines.toNat (done ++ [r]) 1 rs) (done ++ (r :: rs)) := .row (by omega) (by omega) (hr r List.mem_cons_self) (by exact_mod_cast h1)
      have h3 := Good.plus (f := f) (rows := done) (page := page) (by omega) (by omega) h2
      have h4 := Good.eq (f := f) (rows := done) (page := page) (.inl (by omega)) h3
      simpa [List.append_assoc] using h4
theorem print_good {b : Book} (hb : BookOk b) : Good b.form [] 0 false (printB b) b.rows := by
  rw [print_prnt hb]
  have := prnt_good hb.form b.rows [] 0 (Nat.zero_le _) (fun _ => rfl) hb.row (by have := hb.few; simpa using this)
  simpa using this
theorem good_rows {f : BForm} {rows R : List BRow} {page : Int} {cl : Bool} {t : Byt} (h : Good f rows page cl t R) : rows.length ≤ 12 → (∃ rs, R = rows ++ rs ∧ ∀ r ∈ rs, RowOk f r) ∧ R.length ≤ 12 := by
  induction h with
  | fin => exact fun h => ⟨⟨[], by simp, fun r h => by cases h⟩, h⟩
  | @row rows R page r t h h2 hr _ ih =>
    intro _
    obtain ⟨⟨rs, e, h3⟩, h4⟩ := ih (by simp; omega)
    refine ⟨⟨r :: rs, by rw [e]; simp, fun x hx => ?_⟩, h4⟩
    rcases List.mem_cons.1 hx with rfl | hx
    · exact hr
    · exact h3 x hx
  | eq h _ ih => exact ih
  | plus h h2 _ ih => exact ih
theorem good_zero {f : BForm} {rows R : List BRow} {t : Byt} (hne : rows ≠ []) (h : Good f rows 0 false t R) : ∃ r rs, R = rows ++ r :: rs := by
  cases h with
  | @row _ _ _ r _ _ h2 hr h' =>
    obtain ⟨⟨rs, e, _⟩, _⟩ := good_rows h' (by simp; omega)
    exact ⟨r, rs, by rw [e]; simp⟩
  | eq h _ =>
    rcases h with h | ⟨h, _⟩
    · omega
    · exact absurd (List.length_eq_zero_iff.1 h) hne
theorem good_prnt {f : BForm} (hf : FormOk f) {rows R : List BRow} {page : Int} {cl : Bool} {t : Byt} (h : Good f rows page cl t R) : ∀ rs, R = rows ++ rs → 0 ≤ page → page ≤ f.lines → page ≤ rows.length →
    (if cl = true then (61 :: lineB f rows) ++ t else t) = prnt f f.lines.toNat rows page.toNat rs := by
  induction h with
  | @fin rows page =>
    intro rs e _ _ _
    have : rs = [] := by simpa using e
    subst this
    rw [if_pos rfl, prnt]; simp
  | @row rows R page r t h h2 hr h' ih =>
    intro rs e h0 hl hp
    rw [if_neg (by decide)]
    obtain ⟨⟨rs', e', _⟩, _⟩ := good_rows h' (by simp; omega)
    have : rs = r :: rs' := by
      rw [e', List.append_assoc] at e
      have := List.append_cancel_left e
      simpa using this.symm
    subst this
    have h3 := ih rs' e' (by omega) (by omega) (by simp; omega)
    rw [if_neg (by decide)] at h3
    rw [prnt, if_pos (by omega), h3, show (page + 1).toNat = page.toNat + 1 by omega]
  | @eq rows R page t h h' ih =>
    intro rs e h0 hl hp
    have h3 := ih rs e h0 hl hp
    rw [if_pos rfl] at h3
    rw [if_neg (by decide)]; exact h3
  | @plus rows R page t h h2 h' ih =>
    intro rs e h0 hl hp
    rw [if_pos rfl]
    have hl1 := hf.l1
    have hne : rows ≠ [] := fun e => by rw [e] at hp; simp at hp; omega
    obtain ⟨r, rs', e'⟩ := good_zero hne h'
    have : rs = r :: rs' := by rw [e'] at e; exact (List.append_cancel_left e).symm
    subst this
    have h3 := ih (r :: rs') e (by omega) (by omega) (by omega)
    rw [if_neg (by decide), show (0 : Int).toNat = 0 from rfl, prnt, if_pos (by omega)] at h3
    rw [prnt, if_neg (by omega), h3]
    simp
theorem good_print {f : BForm} (hf : FormOk f) {R : List BRow} {t : Byt} (h : Good f [] 0 false t R) : BookOk ⟨f, R⟩ ∧ t = printB ⟨f, R⟩ := by
  obtain ⟨⟨rs, e, h3⟩, h4⟩ := good_rows h (by simp)
  rw [List.nil_append] at e
  subst e
  have hb : BookOk ⟨f, R⟩ := ⟨hf, h4, h3⟩
  refine ⟨hb, ?_⟩
  have h5 := good_prnt hf h R rfl (Int.le_refl _) (by have := hf.l1; omega) (by simp)
  rw [if_neg (by decide)] at h5
  rw [print_prnt hb]; exact h5
theorem run_print {b : Book} (hb : BookOk b) : ∃ p', Rch b.form Rdr.new (printB b) (rdS b.form b.rows p' true) := good_rch hb.form (print_good hb)
theorem par_print {b : Book} (hb : BookOk b) (hl : (printB b).length ≤ 65536) : parV b.form (printB b) = (b, (((printB b).length : Nat) : Int), 0) := by
  obtain ⟨p', h⟩ := run_print hb
  have hr := h.run
  unfold parV runN runP
  rw [hr, if_neg (fun e => e (frmY_zero.2 hb.form)), if_neg (by omega), if_neg]
  · rfl
  · rintro (h | h)
    · exact absurd h (by simp)
    · cases h
theorem print_len {b : Book} (hb : BookOk b) : (printB b).length ≤ 30000 := by
  have h1 := prt_len hb (pgs b.form.lines.toNat b.rows.length)
  have h2 := pgs_le (n := b.rows.length) (L := b.form.lines.toNat) (by have := hb.form.l1; have := hb.form.l2; omega) hb.few
  unfold printB; omega
theorem good_of {f : BForm} (hf : FormOk f) {t : Byt} {q : Rdr} (h : Rch f Rdr.new t q) (hq : wholeR q = true) : Good f [] 0 false t q.read := by
  have ho := h.ok (new_ok hf)
  obtain ⟨h1, h2⟩ := whole_must hq
  have hb : q.begun = false := by
    cases hb : q.begun with
    | false => rfl
    | true => have := (ho.beg hb).2.2.2.2.2.1; rw [h2] at this; cases this
  exact rch_good hf t.length (Nat.le_refl _) h hb h1 h2
end Go.Proofs.YtjjndkenddigiaaDoor

namespace Go.Proofs.YtjjndkenddigiaaDoor
open Go Go.T
section
variable {f : BForm} {r r' : BRow}
theorem sum_small {rows : List BRow} (hf : FormOk f) (hr : ∀ r ∈ rows, RowOk f r) (hl : rows.length ≤ 12) {c : Nat} (hc : c < f.widths.length) : 0 ≤ sumC rows c ∧ sumC rows c < ten (nth f.widths c + 2) := by
  have hw := nth_wid hf hc
  have key : ∀ rows : List BRow, (∀ r ∈ rows, RowOk f r) → 0 ≤ sumC rows c ∧ sumC rows c ≤ rows.length * ten (nth f.widths c) := by
    intro rows
    induction rows with
    | nil => intro _; simp [sumC]
    | cons r rows ih =>
      intro h
      have h1 := ih fun x hx => h x (List.mem_cons_of_mem _ hx)
      have h2 := (h r List.mem_cons_self).num c hc
      have e : sumC (r :: rows) c = wthR r c + sumC rows c := by simp [sumC]
      have h3 : 0 ≤ wthR r c ∧ wthR r c < ten (nth f.widths c) := by
        unfold wthR; split
        · exact ⟨Int.le_refl _, by have := ten_pos (nth f.widths c); omega⟩
        · exact h2
      rw [e, List.length_cons, Int.natCast_add, Int.add_mul]
      generalize (rows.length : Int) * ten (nth f.widths c) = q at *
      simp; omega
  have h1 := key rows hr
  have h4 : ten (nth f.widths c + 2) = 100 * ten (nth f.widths c) := by
    rw [show nth f.widths c + 2 = (nth f.widths c + 1) + 1 by omega, ten_next (by omega), ten_next (by omega)]; omega
  have h5 := ten_pos (nth f.widths c)
  have h6 : (rows.length : Int) * ten (nth f.widths c) ≤ 12 * ten (nth f.widths c) := Int.mul_le_mul_of_nonneg_right (by omega) (by omega)
  omega
end
end Go.Proofs.YtjjndkenddigiaaDoor

namespace Go.Proofs.YtjjndkenddigiaaDoor
open Go Go.T
end Go.Proofs.YtjjndkenddigiaaDoor

namespace Go.Proofs.YtjjndkenddigiaaDoor
open Go Go.T
def TxtB (x : UInt8) : Prop := x ≠ 63 ∧ x.toNat < 128
theorem txt_fld {x : UInt8} (h : FldB x) : TxtB x := by
  refine ⟨fun e => ?_, fldB_low h⟩
  subst e
  rcases h with h | h
  · exact absurd h (by decide)
  · exact absurd h.2 (by decide)
theorem txt_row {f : BForm} (hf : FormOk f) {r : BRow} (hr : RowOk f r) : ∀ x ∈ rowB f r, TxtB x := by
  rw [rowB_cols]
  have cols : ∀ (k c : Nat), c + k ≤ f.widths.length → ∀ x ∈ colsB f r c k, TxtB x := by
    intro k
    induction k with
    | zero => intro c _ x hx; cases hx
    | succ k ih =>
      intro c hc x hx
      rw [colsB] at hx
      rcases List.mem_append.1 hx with h | h
      · exact txt_fld (fldAt_fld hf hr (by omega) x h)
      · rcases List.mem_cons.1 h with rfl | h
        · exact ⟨by decide, by decide⟩
        · exact ih (c + 1) (by omega) x h
  have hlet : (letB f r).toNat = 97 + (letN f r).toNat % 23 := by
    unfold letB; rw [UInt8.toNat_ofNat']; omega
  intro x hx
  rcases List.mem_cons.1 hx with rfl | hx
  · unfold markB; cases r.struck <;> exact ⟨by decide, by decide⟩
  · rcases List.mem_append.1 hx with h | h
    · exact cols _ 0 (by omega) x h
    · simp only [List.mem_cons, List.not_mem_nil, or_false] at h
      rcases h with rfl | rfl
      · refine ⟨fun e => ?_, by omega⟩
        rw [e] at hlet
        have : (63 : UInt8).toNat = 63 := rfl
        omega
      · exact ⟨by decide, by decide⟩
theorem txt_line {f : BForm} (hf : FormOk f) {rows : List BRow} (hr : ∀ r ∈ rows, RowOk f r) (hl : rows.length ≤ 12) : ∀ x ∈ lineB f rows, TxtB x := by
  intro x hx
  unfold lineB at hx
  rcases List.mem_append.1 hx with h | h
  · obtain ⟨l, hl', hx⟩ := List.mem_flatten.1 h
    obtain ⟨c, hc, rfl⟩ := List.mem_map.1 hl'
    have hc := List.mem_range.1 hc
    rcases List.mem_append.1 hx with h | h
    · have hs := sum_small hf hr hl hc
      have hwd := nth_wid hf hc
      exact txt_fld (fldN_fld (by have := ten_le (w := nth f.widths c + 2) (by omega); omega) x h)
    · rw [List.mem_singleton.1 h]; exact ⟨by decide, by decide⟩
  · rw [List.mem_singleton.1 h]; exact ⟨by decide, by decide⟩
theorem good_txt {f : BForm} (hf : FormOk f) {rows R : List BRow} {page : Int} {cl : Bool} {t : Byt} (h : Good f rows page cl t R) : rows.length ≤ 12 → (∀ r ∈ rows, RowOk f r) → ∀ x ∈ t, TxtB x := by
  induction h with
  | fin => intro _ _ x hx; cases hx
  | @row rows R page r t h1 h2 hr _ ih =>
    intro hl hR x hx
    rcases List.mem_append.1 hx with h | h
    · exact txt_row hf hr x h
    · refine ih (by simp; omega) (fun y hy => ?_) x h
      rcases List.mem_append.1 hy with h | h
      · exact hR y h
      · rw [List.mem_singleton.1 h]; exact hr
  | eq _ _ ih =>
    intro hl hR x hx
    rcases List.mem_append.1 hx with h | h
    · rcases List.mem_cons.1 h with rfl | h
      · exact ⟨by decide, by decide⟩
      · exact txt_line hf hR hl x h
    · exact ih hl hR x h
  | plus _ _ _ ih =>
    intro hl hR x hx
    rcases List.mem_append.1 hx with h | h
    · rcases List.mem_cons.1 h with rfl | h
      · exact ⟨by decide, by decide⟩
      · exact txt_line hf hR hl x h
    · exact ih hl hR x h
theorem print_txt {b : Book} (hb : BookOk b) : ∀ x ∈ printB b, TxtB x := good_txt hb.form (print_good hb) (by simp) (fun r h => by cases h)
theorem print_pos {b : Book} (hb : BookOk b) : 0 < (printB b).length := by
  rw [print_prnt hb]
  cases hr : b.rows with
  | nil => simp [prnt]
  | cons r rs =>
    rw [prnt, if_pos (by have := hb.form.l1; omega), rowB_cols]; simp
end Go.Proofs.YtjjndkenddigiaaDoor

namespace Go.Proofs.YtjjndkenddigiaaDoor
open Go Go.T
set_option maxHeartbeats 2000000
theorem tn_0 (s : Sk) (t : Byt) : skN s 2 = (tnP s t 0).1 := rfl
theorem tn_0b (s : Sk) (t : Byt) : skBelow s t.length = (((tnP s t 0).2.2 : Nat) : Int) := (below_nat s _).symm
theorem tn_0c (s : Sk) (t : Byt) : t = (tnP s t 0).2.1 := rfl
theorem tn_s1 {s : Sk} {t : Byt} {k : Nat} (h : skRare (skN (tnP s t k).1 1) 3 = true) : skN (tnP s t k).1 3 = (tnP s t (k + 1)).1 := by rw [tn_yes h]
theorem tn_s2 {s : Sk} {t : Byt} {k : Nat} (h : skRare (skN (tnP s t k).1 1) 3 = false) : skN (tnP s t k).1 2 = (tnP s t (k + 1)).1 := by rw [tn_no (by intro h'; rw [show skNext (tnP s t k).1 = skN (tnP s t k).1 1 from rfl, h] at h'; cases h')]
theorem tn_b1 {s : Sk} {t : Byt} {k : Nat} (h : skRare (skN (tnP s t k).1 1) 3 = true) : skBelow (skN (tnP s t k).1 2) t.length = (((tnP s t (k + 1)).2.2 : Nat) : Int) := by rw [tn_yes h]; exact (below_nat _ _).symm
theorem tn_b2 {s : Sk} {t : Byt} {k : Nat} (h0 : 0 < t.length) (h : skRare (skN (tnP s t k).1 1) 3 = false) : (((tnP s t k).2.2 : Nat) + skAmong (tnP s t k).1 1 12).tmod t.length = (((tnP s t (k + 1)).2.2 : Nat) : Int) := by
  rw [tn_no (by intro h'; rw [show skNext (tnP s t k).1 = skN (tnP s t k).1 1 from rfl, h] at h'; cases h')]
  have h1 := among_bnd (tnP s t k).1 (lo := 1) (hi := 12) (by decide)
  have := tmod_in (a := ((tnP s t k).2.2 : Nat) + skAmong (tnP s t k).1 1 12) (b := t.length) (by omega) (by omega)
  exact (Int.toNat_of_nonneg this.1).symm
theorem tn_c1 {s : Sk} {t : Byt} {k : Nat} : (tnP s t k).2.1.set (tnP s t k).2.2 63 = (tnP s t (k + 1)).2.1 := by
  by_cases hc : skRare (skNext (tnP s t k).1) 3 = true
  · rw [tn_yes hc]
  · rw [tn_no hc]
theorem agr_step {a b : Byt} {k : Nat} (h : ∀ i, i < k → nth b i = 63 ∨ nth b i = nth a i) (hc : (!decide ((((nth b k).toNat : Nat) : Int) = 63) && !decide ((((nth b k).toNat : Nat) : Int) = ((nth a k).toNat : Nat))) = false) : ∀ i, i < k + 1 → nth b i = 63 ∨ nth b i = nth a i := by
  intro i hi
  by_cases e : i < k
  · exact h i e
  · obtain rfl : i = k := by omega
    rw [Bool.and_eq_false_iff, Bool.not_eq_false', Bool.not_eq_false', decide_eq_true_eq, decide_eq_true_eq] at hc
    rcases hc with h | h
    · exact .inl (byte_eq (y := 63) h)
    · exact .inr (byte_eq h)
theorem agr_stop {a b : Byt} {k : Nat} (hk : k < a.length) (hc : (!decide ((((nth b k).toNat : Nat) : Int) = 63) && !decide ((((nth b k).toNat : Nat) : Int) = ((nth a k).toNat : Nat))) = true) : agrB a b = false := by
  rw [Bool.and_eq_true, Bool.not_eq_true', Bool.not_eq_true', decide_eq_false_iff_not, decide_eq_false_iff_not] at hc
  exact agr_no2 hk hc.1 hc.2
attribute [local irreducible] skAmong skBelow skRare tnP agrB
attribute [local irreducible] dInt dBool dSl dPp dPtr dAgg dTup dClo dAny dEx dStr dGd dCells dVec dVs dRow dOp nth Tri Into TOps Ctr bodyPost Exit.then Exit.inBlock Code.wp Code.wpIn dPa dArr dMp dMap CtrG keepPost iterPost bodyPostM roundQ
set_option maxRecDepth 100000 in
theorem c_tornS (s : Sk) (hs : s.Ok 20) (t : Byt) (h0 : 0 < t.length) (hl : t.length ≤ 1000000) : CtrG Tryd.prog 18 [1000] [(1000, Cont.cells 90 (skTys s))] [Ty.ptr 1000 0, Ty.str (bs t), Ty.int .i64 4] [(1000, Cont.cells 90 (skTys (tnP s t (tnM s)).1))] (Ty.str (bs (tornV s t))) := by
  refine fnG_intro Tryd.func18 rfl (by decide) Tryd.ntmps18 (by exact Nat.le_of_ble_eq_true rfl) fun w0 M0 => ?_
  have hm := tnM_bnd s
  have hml : maxLen = 9223372036854775807 := rfl
  refine t_seq ?_
  refine t_region ?_
  refine asS' rfl ?_
  refine r_nil ?_
  refine i_then ?_
  refine t_seq ?_
  refine t_region ?_
  refine mvS' rfl ?_
  refine r_convSB rfl rfl rfl rfl rfl Tryd.underlying5 (by omega) rfl ?_
  refine asV rfl ?_
  refine r_nil ?_
  refine i_then ?_
  refine t_seq ?_
  refine t_region ?_
  refine mvO rfl ?_
  refine mvS' rfl ?_
  refine r_lenS rfl rfl rfl ?_
  refine r_callG [(1000, 1000)] [] [(1000, Cont.cells 90 (skTys (skN s 1)))] (c_Below s (skN_ok (k := 0) hs (by omega)) t.length) rfl rfl (by repeat (first | exact cv_nil | refine cv_cons ?_ ?_ | exact cv_ptr List.mem_cons_self | exact cv_pub rfl rfl)) (pre_cons (a := 1000) (b := 1000) (by exact List.mem_cons_self) rfl (cc_cells_eq (by exact List.mem_cons_self) rfl rfl rfl) pre_nil) (post_cons (a := 1000) (b := 1000) (by exact List.mem_cons_self) rfl (cc_cells_eq (by exact List.mem_cons_self) rfl rfl rfl) post_nil) (cv_pub rfl rfl) ?_
  refine asI rfl ?_
  refine r_nil ?_
  refine i_then ?_
  refine t_seq ?_
  refine t_seq ?_
  refine t_region ?_
  refine mvO rfl ?_
  refine mvI rfl ?_
  refine r_callG [(1000, 1000)] [] [(1000, Cont.cells 90 (skTys (skN s 2)))] (c_Among (skN s 1) (skN_ok hs (by omega)) 1 4 (by decide) (by decide)) rfl rfl (by repeat (first | exact cv_nil | refine cv_cons ?_ ?_ | exact cv_ptr List.mem_cons_self | exact cv_pub rfl rfl)) (pre_cons (a := 1000) (b := 1000) (by exact List.mem_cons_self) rfl (cc_cells_eq (by exact List.mem_cons_self) rfl rfl rfl) pre_nil) (post_cons (a := 1000) (b := 1000) (by exact List.mem_cons_self) rfl (cc_cells_eq (by exact List.mem_cons_self) rfl rfl rfl) post_nil) (cv_pub rfl rfl) ?_
  refine mvI rfl ?_
  refine r_nil ?_
  refine i_then ?_
  refine t_block ?_
  refine t_loop (fun (k : {k : Nat // k ≤ tnM s}) => live [(0, Ty.ptr 1000 0), (1, Ty.str (bs t)), (7, Ty.vs 11 t.length), (8, Ty.int .i64 ((tnP s t k.1).2.2 : Nat)), (17, Ty.int .i64 (tnM s : Nat)), (18, Ty.int .i64 (k.1 : Nat))] [(11, Cont.bv 5 (tnP s t k.1).2.1), (1000, Cont.cells 90 (skTys (tnP s t k.1).1))]) (fun k => tnM s - k.1) (⟨0, Nat.zero_le _⟩) ?_ fun k => ?_
  · (refine Ent.mk' ?_ ?_ <;> (repeat' (first | exact allSub_zero | exact allTags_nil | exact subs_nil | refine allSub_succ' ?_ (Ty.sub_any _) | refine allSub_succ' ?_ (Ty.sub_refl _) | refine allTags_cons rfl (Cont.sub_subs ?_) ?_ | refine subs_cons ?_ ?_ | refine allTags_cons rfl ?_ ?_ | refine allSub_succ' ?_ ?_)))
    all_goals first | exact Ty.sub_int hm.2.2.symm | exact Ty.sub_int (tn_0b s t) | exact Cont.sub_bv (tn_0c s t) | exact Ty.sub_int (congrArg Sk.mixed (tn_0 s t)) | exact Ty.sub_int (congrArg Sk.taken (tn_0 s t)) | exact Ty.sub_sl (congrArg Sk.grain (tn_0 s t))
  ·
    have hk := k.2
    have ho := tn_ok (t := t) hs (k := k.1) (by omega)
    have hat := tn_at (s := s) h0 k.1
    have hln := tn_len (s := s) (t := t) k.1
    have hal := among_bnd (tnP s t k.1).1 (lo := 1) (hi := 12) (by decide)
    refine t_seq ?_
    refine t_region ?_
    refine r_bin rfl rfl rfl ?_
    refine r_nil ?_
    refine i_then ?_
    refine t_seq ?_
    refine t_cond_dec rfl (fun hc1 => ?_) (fun hc1 => ?_)
    ·
      refine t_skip ?_
      refine i_then ?_
      refine t_seq ?_
      refine t_block ?_
      refine t_seq ?_
      refine t_region ?_
      refine r_move rfl ?_
      refine mvI rfl ?_
      refine r_index_vs rfl rfl rfl rfl rfl (by omega) ?_
      refine r_store_bv (i := (tnP s t k.1).2.2) (z := 63) rfl (Nat.mul_one _) rfl (by decide) rfl rfl rfl rfl (by rw [hln]; exact hat) ?_
      refine r_nil ?_
      refine i_then ?_
      refine t_seq ?_
      refine t_region ?_
      refine mvI rfl ?_
      refine mvO rfl ?_
      refine r_callG [(1000, 1000)] [] [(1000, Cont.cells 90 (skTys (skN (tnP s t k.1).1 1)))] (c_Among (tnP s t k.1).1 (skN_ok (k := 0) ho (by omega)) 1 12 (by decide) (by decide)) rfl rfl (by repeat (first | exact cv_nil | refine cv_cons ?_ ?_ | exact cv_ptr List.mem_cons_self | exact cv_pub rfl rfl)) (pre_cons (a := 1000) (b := 1000) (by exact List.mem_cons_self) rfl (cc_cells_eq (by exact List.mem_cons_self) rfl rfl rfl) pre_nil) (post_cons (a := 1000) (b := 1000) (by exact List.mem_cons_self) rfl (cc_cells_eq (by exact List.mem_cons_self) rfl rfl rfl) post_nil) (cv_pub rfl rfl) ?_
      refine r_add rfl rfl (by omega) (by omega) ?_
      refine mvS' rfl ?_
      refine r_lenS rfl rfl rfl ?_
      refine r_rem rfl rfl (by omega) ?_
      refine asI rfl ?_
      refine r_nil ?_
      refine i_then ?_
      refine t_seq ?_
      refine t_region ?_
      refine mvO rfl ?_
      refine r_callG [(1000, 1000)] [] [(1000, Cont.cells 90 (skTys (skN (tnP s t k.1).1 2)))] (c_Rare (skN (tnP s t k.1).1 1) (skN_ok ho (by omega)) 3) rfl rfl (by repeat (first | exact cv_nil | refine cv_cons ?_ ?_ | exact cv_ptr List.mem_cons_self | exact cv_pub rfl rfl)) (pre_cons (a := 1000) (b := 1000) (by exact List.mem_cons_self) rfl (cc_cells_eq (by exact List.mem_cons_self) rfl rfl rfl) pre_nil) (post_cons (a := 1000) (b := 1000) (by exact List.mem_cons_self) rfl (cc_cells_eq (by exact List.mem_cons_self) rfl rfl rfl) post_nil) (cv_pub rfl rfl) ?_
      refine r_nil ?_
      refine i_then ?_
      refine t_cond rfl (fun hc2 => ?_) (fun hc2 => ?_)
      ·
        refine t_region ?_
        refine mvO rfl ?_
        refine mvS' rfl ?_
        refine r_lenS rfl rfl rfl ?_
        refine r_callG [(1000, 1000)] [] [(1000, Cont.cells 90 (skTys (skN (tnP s t k.1).1 3)))] (c_Below (skN (tnP s t k.1).1 2) (skN_ok ho (by omega)) t.length) rfl rfl (by repeat (first | exact cv_nil | refine cv_cons ?_ ?_ | exact cv_ptr List.mem_cons_self | exact cv_pub rfl rfl)) (pre_cons (a := 1000) (b := 1000) (by exact List.mem_cons_self) rfl (cc_cells_eq (by exact List.mem_cons_self) rfl rfl rfl) pre_nil) (post_cons (a := 1000) (b := 1000) (by exact List.mem_cons_self) rfl (cc_cells_eq (by exact List.mem_cons_self) rfl rfl rfl) post_nil) (cv_pub rfl rfl) ?_
        refine asI rfl ?_
        refine r_nil ?_
        refine i_block ?_
        refine i_then ?_
        refine t_region ?_
        refine r_add rfl rfl (by omega) (by omega) ?_
        refine mvI rfl ?_
        refine r_nil ?_
        refine i_round (⟨k.1 + 1, by omega⟩) ?_ (by show tnM s - (k.1 + 1) < tnM s - k.1; omega)
        (refine Ent.mk' ?_ ?_ <;> (repeat' (first | exact allSub_zero | exact allTags_nil | exact subs_nil | refine allSub_succ' ?_ (Ty.sub_any _) | refine allSub_succ' ?_ (Ty.sub_refl _) | refine allTags_cons rfl (Cont.sub_subs ?_) ?_ | refine subs_cons ?_ ?_ | refine allTags_cons rfl ?_ ?_ | refine allSub_succ' ?_ ?_)))
        all_goals skip
        all_goals first | exact Cont.sub_bv (tn_c1 (s := s) (t := t) (k := k.1)) | (have hx : skRare (skN (tnP s t k.1).1 1) 3 = true := hc2; first | exact Ty.sub_int (tn_b1 (s := s) (t := t) (k := k.1) hx) | exact Ty.sub_int (congrArg Sk.mixed (tn_s1 (s := s) (t := t) (k := k.1) hx)) | exact Ty.sub_int (congrArg Sk.taken (tn_s1 (s := s) (t := t) (k := k.1) hx)) | exact Ty.sub_sl (congrArg Sk.grain (tn_s1 (s := s) (t := t) (k := k.1) hx)))
      ·
        refine t_skip ?_
        refine i_block ?_
        refine i_then ?_
        refine t_region ?_
        refine r_add rfl rfl (by omega) (by omega) ?_
        refine mvI rfl ?_
        refine r_nil ?_
        refine i_round (⟨k.1 + 1, by omega⟩) ?_ (by show tnM s - (k.1 + 1) < tnM s - k.1; omega)
        (refine Ent.mk' ?_ ?_ <;> (repeat' (first | exact allSub_zero | exact allTags_nil | exact subs_nil | refine allSub_succ' ?_ (Ty.sub_any _) | refine allSub_succ' ?_ (Ty.sub_refl _) | refine allTags_cons rfl (Cont.sub_subs ?_) ?_ | refine subs_cons ?_ ?_ | refine allTags_cons rfl ?_ ?_ | refine allSub_succ' ?_ ?_)))
        all_goals skip
        all_goals first | exact Cont.sub_bv (tn_c1 (s := s) (t := t) (k := k.1)) | (have hx : skRare (skN (tnP s t k.1).1 1) 3 = false := hc2; first | exact Ty.sub_int (tn_b2 (s := s) (t := t) (k := k.1) h0 hx) | exact Ty.sub_int (congrArg Sk.mixed (tn_s2 (s := s) (t := t) (k := k.1) hx)) | exact Ty.sub_int (congrArg Sk.taken (tn_s2 (s := s) (t := t) (k := k.1) hx)) | exact Ty.sub_sl (congrArg Sk.grain (tn_s2 (s := s) (t := t) (k := k.1) hx)))
    ·
      refine t_exit ?_
      refine i_then_exit ?_
      refine i_then_exit ?_
      refine i_block_exit rfl ?_
      refine i_then ?_
      refine t_seq ?_
      have hkm : k.1 = tnM s := by omega
      refine t_region ?_
      refine r_move rfl ?_
      refine r_convBS rfl rfl (by decide) hln.symm rfl rfl rfl rfl Tryd.underlying5 ?_
      refine asS' rfl ?_
      refine r_nil ?_
      refine i_then ?_
      refine t_ret ?_
      refine g_ret1 [1000] rfl rfl (by decide) ?_ ?_
      exact rc_cons rfl (cc_cells_eq (by decide) rfl rfl (by rw [hkm])) rc_nil
      all_goals skip
      exact rg_cv (cv_eq rfl rfl (congrArg (fun n => Ty.str (bs (tnP s t n).2.1)) hkm))
set_option maxRecDepth 100000 in
theorem c_agrees (a b : Byt) (hl : a.length ≤ 1000000) : Ctr Tryd.prog 22 [Ty.str (bs a), Ty.str (bs b)] (Ty.bool (agrB a b)) := by
  refine fn_intro Tryd.func22 rfl (by decide) Tryd.ntmps22 (by exact Nat.le_of_ble_eq_true rfl) fun w0 M0 => ?_
  refine t_seq ?_
  refine t_region ?_
  refine asB rfl ?_
  refine r_nil ?_
  refine i_then ?_
  refine t_seq ?_
  refine t_seq ?_
  refine t_region ?_
  refine mvS' rfl ?_
  refine r_lenS rfl rfl rfl ?_
  refine mvS' rfl ?_
  refine r_lenS rfl rfl rfl ?_
  refine r_bin rfl rfl rfl ?_
  refine r_nil ?_
  refine i_then ?_
  refine t_cond_ndec rfl (fun hc1 => ?_) (fun hc1 => ?_)
  ·
    refine t_seq ?_
    refine t_region ?_
    refine asB rfl ?_
    refine r_nil ?_
    refine i_then ?_
    refine t_ret ?_
    refine i_then_ret ?_
    refine i_rp1 rfl rfl ?_
    all_goals skip
    all_goals exact ret_eq rfl rfl (congrArg Ty.bool (agr_no1 hc1).symm)
  ·
    refine t_skip ?_
    refine i_then ?_
    refine t_seq ?_
    refine t_seq ?_
    refine t_region ?_
    refine mvS' rfl ?_
    refine r_lenS rfl rfl rfl ?_
    refine mvI rfl ?_
    refine r_nil ?_
    refine i_then ?_
    refine t_block ?_
    refine t_loop (fun (k : {k : Nat // k ≤ a.length ∧ ∀ i, i < k → nth b i = 63 ∨ nth b i = nth a i}) => live [(0, Ty.str (bs a)), (1, Ty.str (bs b)), (12, Ty.int .i64 a.length), (13, Ty.int .i64 (k.1 : Nat))] []) (fun k => a.length - k.1) (⟨0, Nat.zero_le _, fun i h => by omega⟩) ?_ fun k => ?_
    · (refine Ent.mk' ?_ ?_ <;> (repeat' (first | exact allSub_zero | exact allTags_nil | refine allSub_succ' ?_ (Ty.sub_any _) | refine allSub_succ' ?_ (Ty.sub_refl _))))
    ·
      have hk := k.2.1
      refine t_seq ?_
      refine t_region ?_
      refine r_bin rfl rfl rfl ?_
      refine r_nil ?_
      refine i_then ?_
      refine t_seq ?_
      refine t_cond_dec rfl (fun hc2 => ?_) (fun hc2 => ?_)
      ·
        refine t_skip ?_
        refine i_then ?_
        refine t_seq ?_
        refine t_block ?_
        refine t_seq ?_
        refine t_region ?_
        refine mvI rfl ?_
        refine asI rfl ?_
        refine r_nil ?_
        refine i_then ?_
        refine t_seq ?_
        refine t_draw mixed rfl ?_
        refine mvS' rfl ?_
        refine mvI rfl ?_
        refine r_idxS rfl rfl rfl rfl (i := k.1) (by omega) ?_
        refine r_bin rfl rfl rfl ?_
        refine mvB rfl ?_
        apply r_guard (s := 20) rfl rfl rfl
        · intro hg; apply opT_of; (refine mvS' rfl ?_); refine r_nil ?_; exact rfl
        · exact rfl
        · exact rfl
        apply r_guard (s := 20) rfl rfl rfl
        · intro hg; apply opT_of; (refine mvI rfl ?_); refine r_nil ?_; exact rfl
        · exact rfl
        · exact rfl
        apply r_guard (s := 20) rfl rfl rfl
        · intro hg; apply opT_strip (s := 21) rfl (by (rw [hg]; rfl)); apply opT_strip (s := 22) rfl (by (rw [hg]; rfl)); apply opT_of; (refine r_idxS rfl rfl rfl rfl (i := k.1) (by omega) ?_); refine r_nil ?_; exact rfl
        · exact rfl
        · exact rfl
        apply r_guard (s := 20) rfl rfl rfl
        · intro hg; apply opT_of; (refine mvS' rfl ?_); refine r_nil ?_; exact rfl
        · exact rfl
        · exact rfl
        apply r_guard (s := 20) rfl rfl rfl
        · intro hg; apply opT_of; (refine mvI rfl ?_); refine r_nil ?_; exact rfl
        · exact rfl
        · exact rfl
        apply r_guard (s := 20) rfl rfl rfl
        · intro hg; apply opT_strip (s := 24) rfl (by (rw [hg]; rfl)); apply opT_strip (s := 25) rfl (by (rw [hg]; rfl)); apply opT_of; (refine r_idxS rfl rfl rfl rfl (i := k.1) (by omega) ?_); refine r_nil ?_; exact rfl
        · exact rfl
        · exact rfl
        apply r_guard (s := 20) rfl rfl rfl
        · intro hg; apply opT_strip (s := 23) rfl (by (rw [hg]; rfl)); apply opT_strip (s := 26) rfl (by (rw [hg]; rfl)); apply opT_of; (refine r_bin rfl rfl rfl ?_); refine r_nil ?_; exact rfl
        · exact rfl
        · exact rfl
        refine r_and rfl rfl ?_
        refine r_nil ?_
        refine ⟨by kernel_rfl, ?_⟩
        refine i_then ?_
        refine t_cond rfl (fun hc3 => ?_) (fun hc3 => ?_)
        ·
          refine t_seq ?_
          refine t_region ?_
          refine asB rfl ?_
          refine r_nil ?_
          refine i_then ?_
          refine t_ret ?_
          refine i_block_ret ?_
          refine i_then_ret ?_
          refine i_then_ret ?_
          refine i_block_ret ?_
          refine i_then_ret ?_
          refine i_rp1 rfl rfl ?_
          all_goals skip
          all_goals exact ret_eq rfl rfl (congrArg Ty.bool (agr_stop (by omega) hc3).symm)
        ·
          refine t_skip ?_
          refine i_block ?_
          refine i_then ?_
          refine t_region ?_
          refine r_add rfl rfl (by omega) (by omega) ?_
          refine mvI rfl ?_
          refine r_nil ?_
          refine i_round (⟨k.1 + 1, by omega, agr_step k.2.2 hc3⟩) ?_ (by show a.length - (k.1 + 1) < a.length - k.1; omega)
          (refine Ent.mk' ?_ ?_ <;> (repeat' (first | exact allSub_zero | exact allTags_nil | refine allSub_succ' ?_ (Ty.sub_any _) | refine allSub_succ' ?_ (Ty.sub_refl _))))
          all_goals skip
      ·
        refine t_exit ?_
        refine i_then_exit ?_
        refine i_then_exit ?_
        refine i_block_exit rfl ?_
        refine i_then ?_
        refine t_seq ?_
        refine t_region ?_
        refine asB rfl ?_
        refine r_nil ?_
        refine i_then ?_
        refine t_ret ?_
        refine i_rp1 rfl rfl ?_
        all_goals skip
        all_goals exact ret_eq rfl rfl (congrArg Ty.bool (agr_yes (by omega) fun i hi => k.2.2 i (by omega)).symm)
end Go.Proofs.YtjjndkenddigiaaDoor

namespace Go.Proofs.YtjjndkenddigiaaDoor
open Go Go.T
end Go.Proofs.YtjjndkenddigiaaDoor

namespace Go.Proofs.YtjjndkenddigiaaDoor
open Go Go.T
set_option maxHeartbeats 4000000
theorem mem_nthI {l : List Int} {x : Int} (h : x ∈ l) : ∃ i, i < l.length ∧ x = nth l i := by
  obtain ⟨i, hi, rfl⟩ := List.getElem_of_mem h
  exact ⟨i, hi, by simp [nth, hi]⟩
theorem rng_of {b : Book} (hb : BookOk b) : ∀ r ∈ b.rows, Rng r.nums := by
  intro r hr x hx
  have ho := hb.row r hr
  obtain ⟨c, hc, rfl⟩ := mem_nthI hx
  have h1 := ho.num c (by rw [← ho.len]; exact hc)
  have h2 := nth_wid hb.form (c := c) (by rw [← ho.len]; exact hc)
  have h3 := ten_le (w := nth b.form.widths c) (by omega)
  omega
theorem printV_ok {b : Book} (hb : BookOk b) : printV b = printB b := by unfold printV; rw [if_pos (bokY_zero.2 hb)]
theorem c_PrintOk {b : Book} (hb : BookOk b) : Ctr Tryd.prog 14 [bokT b] (Ty.tup [Ty.str (bs (printB b)), Ty.int .i64 0]) := by
  have h := c_Print b (rng_of hb)
  rwa [printV_ok hb, bokY_zero.2 hb] at h
theorem c_ParseIs {f : BForm} {t : Byt} {q : Book} {i y : Int} (hl : f.widths.length ≤ 1000000) (h : parV f t = (q, i, y)) : Ctr Tryd.prog 15 [frmT f, Ty.str (bs t)] (Ty.tup [bokT q, Ty.int .i64 i, Ty.int .i64 y]) := by
  have h2 := c_Parse f t hl
  unfold parT at h2
  rwa [h] at h2
theorem fill_200 (g : List Int) : (skFill g).Ok 200 := by have := skFill_ok g; unfold Sk.Ok at *; omega
attribute [local irreducible] parV printB mdB mdF
attribute [local irreducible] dInt dBool dSl dPp dPtr dAgg dTup dClo dAny dEx dStr dGd dCells dVec dVs dRow dOp nth Tri Into TOps Ctr bodyPost Exit.then Exit.inBlock Code.wp Code.wpIn dPa dArr dMp dMap CtrG keepPost iterPost bodyPostM roundQ
end Go.Proofs.YtjjndkenddigiaaDoor

namespace Go.Proofs.YtjjndkenddigiaaDoor
open Go Go.T
end Go.Proofs.YtjjndkenddigiaaDoor

namespace Go.Proofs.YtjjndkenddigiaaDoor
open Go Go.T
set_option maxHeartbeats 4000000
theorem c_RestoreIs {f : BForm} {t : Byt} {q : Book} {y : Int} (h : resV f t = (q, y)) : Ctr Tryd.prog 21 [frmT f, Ty.str (bs t)] (Ty.tup [bokT q, Ty.int .i64 y]) := by
  have h2 := c_Restore f t
  rwa [h] at h2
attribute [local irreducible] parV printB mdB mdF resV
attribute [local irreducible] dInt dBool dSl dPp dPtr dAgg dTup dClo dAny dEx dStr dGd dCells dVec dVs dRow dOp nth Tri Into TOps Ctr bodyPost Exit.then Exit.inBlock Code.wp Code.wpIn dPa dArr dMp dMap CtrG keepPost iterPost bodyPostM roundQ
end Go.Proofs.YtjjndkenddigiaaDoor

namespace Go.Proofs.YtjjndkenddigiaaDoor
open Go Go.T
end Go.Proofs.YtjjndkenddigiaaDoor

namespace Go.Proofs.YtjjndkenddigiaaDoor
open Go Go.T
set_option maxHeartbeats 4000000
theorem c_agreesIs {t m : Byt} (hl : t.length ≤ 1000000) (h : agrB t m = true) : Ctr Tryd.prog 22 [Ty.str (bs t), Ty.str (bs m)] (Ty.bool true) := by
  have h2 := c_agrees t m hl
  rwa [h] at h2
attribute [local irreducible] parV printB mdB mdF resV tornV tearV agrB
attribute [local irreducible] dInt dBool dSl dPp dPtr dAgg dTup dClo dAny dEx dStr dGd dCells dVec dVs dRow dOp nth Tri Into TOps Ctr bodyPost Exit.then Exit.inBlock Code.wp Code.wpIn dPa dArr dMp dMap CtrG keepPost iterPost bodyPostM roundQ
end Go.Proofs.YtjjndkenddigiaaDoor

namespace Go.Proofs.YtjjndkenddigiaaDoor
open Go Go.T
def agL : Byt → Byt → Prop
  | [], [] => True
  | x :: xs, c :: cs => (c = 63 ∨ c = x) ∧ agL xs cs
  | _, _ => False
theorem agL_of : ∀ (t s : Byt), s.length = t.length → (∀ i, i < t.length → nth s i = 63 ∨ nth s i = nth t i) → agL t s
  | [], [], _, _ => trivial
  | [], _ :: _, h, _ => by simp at h
  | _ :: _, [], h, _ => by simp at h
  | x :: xs, c :: cs, h, h2 => ⟨h2 0 (by simp), agL_of xs cs (by simpa using h) fun i hi => h2 (i + 1) (by simpa using hi)⟩
theorem agL_nth : ∀ (t s : Byt), agL t s → s.length = t.length ∧ ∀ i, i < t.length → nth s i = 63 ∨ nth s i = nth t i
  | [], [], _ => ⟨rfl, fun i hi => by simp at hi⟩
  | [], _ :: _, h => h.elim
  | _ :: _, [], h => h.elim
  | x :: xs, c :: cs, h => by
    obtain ⟨h1, h2⟩ := agL_nth xs cs h.2
    refine ⟨by simp [h1], fun i hi => ?_⟩
    cases i with
    | zero => exact h.1
    | succ i => exact h2 i (by simpa using hi)
theorem fil_mem {f : BForm} : ∀ (t : Byt) (p : Rdr), ∀ x ∈ fillR f p t, Rch f p x.1 x.2 ∧ wholeR x.2 = true ∧ agL x.1 t
  | [], p, x, hx => by
    rw [fillR] at hx
    split at hx
    · rename_i hw
      rw [List.mem_singleton.1 hx]; exact ⟨.nil _, hw, trivial⟩
    · cases hx
  | c :: t, p, x, hx => by
    rw [fillR] at hx
    by_cases hc : c ≠ 63
    · rw [if_pos hc] at hx
      unfold stepR at hx
      by_cases hm : c ∈ canR f p
      · rw [if_pos hm] at hx
        obtain ⟨y, hy, rfl⟩ := List.mem_map.1 hx
        obtain ⟨h1, h2, h3⟩ := fil_mem t _ y hy
        exact ⟨.cons hm h1, h2, .inr rfl, h3⟩
      · rw [if_neg hm] at hx; cases hx
    · rw [if_neg hc] at hx
      obtain ⟨d, hd, hx⟩ := List.mem_flatMap.1 hx
      obtain ⟨y, hy, rfl⟩ := List.mem_map.1 hx
      obtain ⟨h1, h2, h3⟩ := fil_mem t _ y hy
      exact ⟨.cons hd h1, h2, .inl (Classical.not_not.1 hc), h3⟩
theorem fil_in {f : BForm} {q : Rdr} (hw : wholeR q = true) : ∀ (w t : Byt) (p : Rdr), Rch f p w q → agL w t → (w, q) ∈ fillR f p t
  | [], [], p, h, _ => by
    cases h
    rw [fillR, if_pos hw]; exact List.mem_singleton.2 rfl
  | [], _ :: _, _, _, h => h.elim
  | _ :: _, [], _, _, h => h.elim
  | x :: w, c :: t, p, h, ha => by
    cases h with
    | cons hm h =>
      have ih := fil_in hw w t _ h ha.2
      rw [fillR]
      by_cases hc : c ≠ 63
      · rw [if_pos hc]
        obtain rfl := ha.1.resolve_left hc
        unfold stepR
        rw [if_pos hm]
        exact List.mem_map.2 ⟨_, ih, rfl⟩
      · rw [if_neg hc]
        exact List.mem_flatMap.2 ⟨x, hm, List.mem_map.2 ⟨_, ih, rfl⟩⟩
theorem can_asc (f : BForm) (p : Rdr) : (canR f p).Pairwise (· < ·) := by
  unfold canR
  split
  · exact List.pairwise_singleton _ _
  · split
    · unfold figC
      generalize p.digits = a
      generalize lastB f p = c
      cases a <;> cases c <;> decide
    · split
      · split <;> simp
      · split <;> split <;> simp <;> decide
theorem bl_cons {x : UInt8} {a b : Byt} : Op.bytesLess (x :: a) (x :: b) = Op.bytesLess a b := by
  rw [Op.bytesLess]
  simp
theorem bl_lt {x y : UInt8} {a b : Byt} (h : x < y) : Op.bytesLess (x :: a) (y :: b) = true := by
  rw [Op.bytesLess]
  simp [h]
theorem fil_asc {f : BForm} : ∀ (t : Byt) (p : Rdr), (fillR f p t).Pairwise fun x y => Op.bytesLess x.1 y.1 = true
  | [], p => by
    rw [fillR]; split
    · exact List.pairwise_singleton _ _
    · exact .nil
  | c :: t, p => by
    rw [fillR]
    by_cases hc : c ≠ 63
    · rw [if_pos hc]
      split
      · exact .nil
      · rw [List.pairwise_map]
        exact (fil_asc t _).imp fun h => by rw [bl_cons]; exact h
    · rw [if_neg hc, List.pairwise_flatMap]
      refine ⟨fun d _ => ?_, (can_asc f p).imp fun h x hx y hy => ?_⟩
      · rw [List.pairwise_map]
        exact (fil_asc t _).imp fun h => by rw [bl_cons]; exact h
      · obtain ⟨x, _, rfl⟩ := List.mem_map.1 hx
        obtain ⟨y, _, rfl⟩ := List.mem_map.1 hy
        exact bl_lt h
theorem bl_no : ∀ {a b : Byt}, Op.bytesLess a b = true → Op.bytesLess b a = false ∧ a ≠ b
  | [], [], h => by cases h
  | _ :: _, [], h => by cases h
  | [], _ :: _, _ => ⟨rfl, by simp⟩
  | x :: a, y :: b, h => by
    rw [Op.bytesLess, Bool.or_eq_true, Bool.and_eq_true, decide_eq_true_eq, beq_iff_eq] at h
    rcases h with h | ⟨rfl, h⟩
    · have h1 : ¬ y < x := fun h2 => by
        have e1 := UInt8.lt_iff_toNat_lt.1 h
        have e2 := UInt8.lt_iff_toNat_lt.1 h2
        omega
      have h2 : y ≠ x := fun e => by
        subst e
        have e1 := UInt8.lt_iff_toNat_lt.1 h
        omega
      exact ⟨by rw [Op.bytesLess]; simp [h1, h2], fun e => h2 (by injection e with e1 _; exact e1.symm)⟩
    · obtain ⟨h1, h2⟩ := bl_no h
      exact ⟨by rw [bl_cons]; exact h1, fun e => h2 (by injection e)⟩
section
variable {b : Book} (hb : BookOk b) {s : Byt} (hs : agL (printB b) s)
include hb
theorem told_at {k : Nat} (hk : k < (allF b.form s).length) : BookOk ⟨b.form, (nth (allF b.form s) k).2.read⟩ ∧ (nth (allF b.form s) k).1 = printB ⟨b.form, (nth (allF b.form s) k).2.read⟩ ∧ agL (nth (allF b.form s) k).1 s := by
  obtain ⟨h1, h2, h3⟩ := fil_mem s Rdr.new _ (nth_mem hk)
  obtain ⟨h4, h5⟩ := good_print hb.form (good_of hb.form h1 h2)
  exact ⟨h4, h5, h3⟩
theorem told_par {k : Nat} (hk : k < (allF b.form s).length) : parV b.form (nth (allF b.form s) k).1 = (⟨b.form, (nth (allF b.form s) k).2.read⟩, (((nth (allF b.form s) k).1.length : Nat) : Int), 0) := by
  obtain ⟨h1, h2, _⟩ := told_at hb hk
  have h3 := par_print h1 (by have := print_len h1; omega)
  rw [h2]; exact h3
include hs
theorem told_in : ∃ k, k < (allF b.form s).length ∧ (nth (allF b.form s) k).1 = printB b ∧ (nth (allF b.form s) k).2.read = b.rows := by
  obtain ⟨p', h⟩ := run_print hb
  have hm : (printB b, rdS b.form b.rows p' true) ∈ allF b.form s := fil_in (q := rdS b.form b.rows p' true) rfl (printB b) s Rdr.new h hs
  obtain ⟨k, hk, e⟩ := List.getElem_of_mem hm
  refine ⟨k, hk, ?_⟩
  have e2 : nth (allF b.form s) k = (printB b, rdS b.form b.rows p' true) := by
    rw [← e]; unfold nth; rw [List.getD_eq_getElem?_getD, List.getElem?_eq_getElem hk]; rfl
  rw [e2]; exact ⟨rfl, rfl⟩
end
theorem asc_at {f : BForm} {s : Byt} {i k : Nat} (h : i < k) (hk : k < (allF f s).length) : Op.bytesLess (nth (allF f s) i).1 (nth (allF f s) k).1 = true := by
  have hp := List.pairwise_iff_getElem.1 (fil_asc s Rdr.new) i k (by exact Nat.lt_trans h hk) hk h
  have e : ∀ j (hj : j < (allF f s).length), nth (allF f s) j = (allF f s)[j] := fun j hj => by
    unfold nth; rw [List.getD_eq_getElem?_getD, List.getElem?_eq_getElem hj]; rfl
  rw [e i (by omega), e k hk]; exact hp
end Go.Proofs.YtjjndkenddigiaaDoor
