/- Lemmas: the program and the reference walked, plain laws. -/
import Derived.Test.YtpnndljmhpepgaaWc
namespace Go.T
open Go Go.RowKit
def dCK (J : World → Tags → Prop) (w : World) (M : Tags) : Prop :=
  ∃ Mc, Wf w Mc ∧ ZOk Mc ∧ J w Mc ∧ (∀ b, M b = none → Mc b = none) ∧ ∀ b u, b < w.heap.size → M b = some u → u ≠ 7000 → Mc b = some (Zt + b)
theorem dCK_mono {J : World → Tags → Prop} (hJ : Cb J) {S K : Nat → Prop} {w w' : World} {M M' : Tags} (le : Le S K w M w' M') (hs : ¬ S 7000) (hk : ¬ K 7000) (h : dCK J w M) : dCK J w' M' := by
  obtain ⟨Mc, wf, z, hj, h1, h2⟩ := h
  have own : ∀ b, M b = some 7000 → M' b = some 7000 ∧ w'.heap[b]? = w.heap[b]? := fun b h => let ⟨a, c⟩ := le.own b _ h hk; ⟨a, c hs⟩
  have mb : ∀ b t, Mc b = some t → t < Zt → M b = some 7000 := fun b t h ht => by
    cases hm : M b with
    | none => rw [h1 b hm] at h; cases h
    | some u =>
      by_cases e : u = 7000
      · rw [e]
      · have := h2 b u (wf.lt b t h) hm e
        rw [this] at h; injection h with h; omega
  let N : Tags := fun b => if b < w'.heap.size then (match M' b with | none => none | some u => if u = 7000 then (if b < w.heap.size ∧ M b = some 7000 then Mc b else some (Zt + b)) else some (Zt + b)) else none
  have hN : ∀ b, N b = if b < w'.heap.size then (match M' b with | none => none | some u => if u = 7000 then (if b < w.heap.size ∧ M b = some 7000 then Mc b else some (Zt + b)) else some (Zt + b)) else none := fun _ => rfl
  have zok : ZOk N := by
    intro b u h hu
    rw [hN] at h
    split at h
    · split at h
      · cases h
      · split at h
        · split at h
          · exact z b u h hu
          · injection h with h; exact h.symm
        · injection h with h; exact h.symm
    · cases h
  have wf' : Wf w' N := by
    refine ⟨fun b t h => ?_, fun b b' t ht1 h h' => ?_⟩
    · rw [hN] at h
      split at h
      · assumption
      · cases h
    · have part : ∀ b, N b = some (t + 1) → Mc b = some (t + 1) := fun b h => by
        have hz : t + 1 < Zt := by unfold Zt; omega
        rw [hN] at h
        split at h
        · split at h
          · cases h
          · split at h
            · split at h
              · exact h
              · injection h with h; omega
            · injection h with h; omega
        · cases h
      exact wf.inj b b' t ht1 (part b h) (part b' h')
  have lez : Le (fun t => Zt ≤ t) (fun t => Zt ≤ t) w Mc w' N := by
    refine ⟨le.size, le.os, le.tape, le.out, fun b hb hm => ?_, fun b t hm ht => ?_⟩
    · have hb' : b < w'.heap.size := Nat.lt_of_lt_of_le hb le.size
      cases hmb : M b with
      | none =>
        obtain ⟨a, c⟩ := le.pub b hb hmb
        exact ⟨by rw [hN, if_pos hb', a], c⟩
      | some u =>
        by_cases e : u = 7000
        · subst e
          obtain ⟨a, c⟩ := own b hmb
          exact ⟨by rw [hN, if_pos hb', a]; show (if (7000 : Nat) = 7000 then _ else _) = _; rw [if_pos rfl, if_pos ⟨hb, hmb⟩]; exact hm, c⟩
        · rw [h2 b u hb hmb e] at hm; cases hm
    · have hlt := wf.lt b t hm
      have h0 := mb b t hm (Nat.lt_of_not_le ht)
      obtain ⟨a, c⟩ := own b h0
      refine ⟨?_, fun _ => c⟩
      rw [hN, if_pos (Nat.lt_of_lt_of_le hlt le.size), a]
      show (if (7000 : Nat) = 7000 then _ else _) = _
      rw [if_pos rfl, if_pos ⟨hlt, h0⟩]; exact hm
  refine ⟨N, wf', zok, hJ _ _ _ _ wf' lez hj, fun b h => ?_, fun b u hb h hu => ?_⟩
  · rw [hN, h]; split <;> rfl
  · rw [hN, if_pos hb, h]; show (if u = 7000 then _ else _) = _; rw [if_neg hu]
def Cont.ck {J : World → Tags → Prop} (hJ : Cb J) : Cont :=
  { den := fun w M t => t = 7000 ∧ dCK J w M
    mono := fun le _ _ hs hk ⟨e, h⟩ => ⟨e, dCK_mono hJ le (e ▸ hs) (e ▸ hk) h⟩ }
theorem Cont.sub_ck {J : Nat → World → Tags → Prop} (hJ : ∀ k, Cb (J k)) {a b : Nat} (e : a = b) : (Cont.ck (hJ a)).Sub (Cont.ck (hJ b)) := by subst e; exact Cont.sub_refl _
def dYb (b1 : Bool) (J1 Jx : World → Tags → Prop) (w : World) (M : Tags) (v : Value) : Prop := (v = .bool b1 ∧ dCK J1 w M) ∨ (v = .bool (!b1) ∧ dCK Jx w M)
def Ty.yb {J1 Jx : World → Tags → Prop} (b1 : Bool) (h1 : Cb J1) (hx : Cb Jx) : Ty :=
  ⟨dYb b1 J1 Jx, [7000], [7000], fun le hk hs h => h.imp (fun ⟨e, h⟩ => ⟨e, dCK_mono h1 le (hs _ (by simp)) (hk _ (by simp)) h⟩) (fun ⟨e, h⟩ => ⟨e, dCK_mono hx le (hs _ (by simp)) (hk _ (by simp)) h⟩), true, fun _ h => h.elim (fun ⟨e, _⟩ => e ▸ rfl) (fun ⟨e, _⟩ => e ▸ rfl)⟩
theorem Ty.sub_yb {J1 J2 Jx : World → Tags → Prop} {b1 : Bool} {h1 : Cb J1} {h2 : Cb J2} {hx : Cb Jx} (e : J1 = J2) : (Ty.yb b1 h1 hx).Sub (Ty.yb b1 h2 hx) := by subst e; exact Ty.sub_refl _
def Cont.me (g T : Nat) (v : Value) (tys : List Ty) (cs : List Value) (h1 : depsOf tys = []) (h2 : cdepsOf tys = []) : Cont :=
  { den := fun w M _ => M g = some 1000 ∧ w.heap[g]? = some (.cells #[v] T (0, 0)) ∧ dens w M tys cs
    deps := [1000], cdeps := [1000]
    mono := fun le hk hs _ _ ⟨e1, e2, e3⟩ => let ⟨a, c⟩ := le.own g _ e1 (hk 1000 (by simp)); ⟨a, (c (hs 1000 (by simp))).trans e2, dens_mono le (by rw [h1]; intro _ h; cases h) (by rw [h2]; intro _ h; cases h) e3⟩ }
def Cont.snap (w0 : World) (old : Nat → Prop) : Cont :=
  { den := fun w M t => ∀ b, old b → M b = some t ∧ w.heap[b]? = w0.heap[b]?
    mono := fun le _ _ hs hk h b hb => let ⟨a, c⟩ := le.own b _ (h b hb).1 hk; ⟨a, (c hs).trans (h b hb).2⟩ }
def backY (w : World) (M1 Mc' : Tags) : Tags := fun b => if b < w.heap.size then M1 b else (Mc' b).map fun _ => 7000
theorem backY_ok {w w' : World} {M1 Mc Mc' : Tags} (wf1 : Wf w M1) (wf' : Wf w' Mc') (h1 : ∀ b, M1 b = none → Mc b = none) (h2 : ∀ b u, b < w.heap.size → M1 b = some u → u ≠ 7000 → Mc b = some (Zt + b)) (le : Le (fun t => t < Zt) (fun t => t < Zt) w Mc w' Mc') :
    Wf w' (backY w M1 Mc') ∧ Le (· ∈ [7000]) (· ∈ ([] : List Nat)) w M1 w' (backY w M1 Mc') ∧ (∀ b, backY w M1 Mc' b = none → Mc' b = none) ∧ ∀ b u, b < w'.heap.size → backY w M1 Mc' b = some u → u ≠ 7000 → Mc' b = some (Zt + b) := by
  unfold backY
  refine ⟨⟨fun b u h => ?_, fun b b' u ht1 h h' => ?_⟩, ⟨le.size, le.os, le.tape, le.out, fun b hb hm => ⟨by simp [hb, hm], (le.pub b hb (h1 b hm)).2⟩, fun b u hm _ => ⟨by simp [wf1.lt b u hm, hm], fun hs => ?_⟩⟩, fun b h => ?_, fun b u _ h hu => ?_⟩
  · split at h
    · exact Nat.lt_of_lt_of_le ‹_› le.size
    · obtain ⟨v, hv, _⟩ := Option.map_eq_some_iff.1 h
      exact wf'.lt b v hv
  · have part : ∀ b, (if b < w.heap.size then M1 b else (Mc' b).map fun _ => 7000) = some (u + 1) → M1 b = some (u + 1) := fun b h => by
      split at h
      · exact h
      · obtain ⟨v, _, hv⟩ := Option.map_eq_some_iff.1 h
        omega
    exact wf1.inj b b' u ht1 (part b h) (part b' h')
  · have hu : u ≠ 7000 := fun e => hs (by simp [e])
    exact (le.own b _ (h2 b u (wf1.lt b _ hm) hm hu) (by omega)).2 (by omega)
  · split at h
    · exact (le.pub b ‹_› (h1 b h)).1
    · simpa using h
  · split at h
    · exact (le.own b _ (h2 b u ‹_› h hu) (by omega)).1
    · obtain ⟨v, _, hv⟩ := Option.map_eq_some_iff.1 h
      exact absurd hv.symm hu
def pubL (M : Tags) (L : List Nat) : Tags := fun b => match M b with | none => none | some t => if t ∈ L then none else some t
theorem pubL_none {M : Tags} {L : List Nat} {b : Nat} (h : M b = none) : pubL M L b = none := by simp [pubL, h]
theorem pubL_lend {M : Tags} {L : List Nat} {b : Nat} (h : lend M L b = none) : pubL M L b = none := by
  unfold lend at h; unfold pubL
  cases hm : M b with
  | none => rfl
  | some t =>
    rw [hm] at h
    show (if t ∈ L then none else some t) = none
    by_cases e : t ∈ L
    · rw [if_pos e]
    · have h : (if t ∈ L then none else some 0) = none := h
      rw [if_neg e] at h; cases h
theorem pubL_le {w : World} {M : Tags} {L : List Nat} : Le (· ∈ ([] : List Nat)) (· ∈ L) w M w (pubL M L) :=
  ⟨Nat.le_refl _, rfl, rfl, rfl, fun b _ hm => ⟨pubL_none hm, rfl⟩, fun b t hm hk => ⟨by simp [pubL, hm, hk], fun _ => rfl⟩⟩
theorem pubL_some {M : Tags} {L : List Nat} {b t : Nat} (h : pubL M L b = some t) : M b = some t := by
  unfold pubL at h
  split at h
  · cases h
  · split at h
    · cases h
    · rename_i hm _; rw [hm]; exact h
theorem pubL_wf {w : World} {M : Tags} {L : List Nat} (wf : Wf w M) : Wf w (pubL M L) := ⟨fun b t h => wf.lt b t (pubL_some h), fun b b' t ht h h' => wf.inj b b' t ht (pubL_some h) (pubL_some h')⟩
def yPost (w : World) (Mc : Tags) (J1 Jx : World → Tags → Prop) (e : Ending) (w' : World) : Prop :=
  ∃ M', Wf w' M' ∧ ZOk M' ∧ Le (fun t => t < Zt) (fun t => t < Zt) w Mc w' M' ∧ ((e = .returned (.bool true) ∧ J1 w' M') ∨ (e = .returned (.bool false) ∧ Jx w' M'))
abbrev gp (g : Nat) : Value := .pointer (some ⟨g, 0, none⟩)
def MoreY (P : Program) (f : FuncId) (T : Nat) (capTys args : List Ty) (J0 J1 Jx : World → Tags → Prop) : Prop :=
  (∃ fn, P.funcs[f]? = some fn ∧ (fn.name == "runtime.NumGoroutine") = false ∧ fn.body.isNone = false) ∧
  ∀ (w : World) (Mc : Tags) (g : Nat) (vs cs cs' : List Value), Wf w Mc → ZOk Mc → dens w Mc args vs → dens w Mc capTys cs → dens w Mc capTys cs' → Mc g = some (Zt + g) →
    w.heap[g]? = some (.cells #[.func (.func f) #[] (cs' ++ [gp g]).toArray] T (0, 0)) → J0 w Mc →
    Calls P f (vs ++ (cs ++ [gp g])).toArray w (yPost w Mc J1 Jx)
section
variable {P : Program} {fr : Fr} {ops : Array Oper} {A : As} {rest : List Oper} {K : As → List (As × Fx) → Prop} {d : Nat} {t ty' : TypeId} {p : String} {e : Array Edge}
theorem r_yieldY {c l k : Nat} {encs : List (List Ty)} {J : Nat → World → Tags → Prop} {Jx : World → Tags → Prop} (hJ : ∀ k, Cb (J k)) (hJx : Cb Jx) (hY : Yld P l encs J Jx) {xs : List Operand} {ats : Array TypeId} {tys : List Ty}
    (hkd : fr.kd = .plain) (hc : A.op fr (.tmp c) = .ex (yv l)) (hx : opsTy A fr xs = tys) (hd : depsOf tys = []) (hdc : cdepsOf tys = []) (hk : encs[k]? = some tys) (ht : A.tag 7000 = some (.ck (hJ k)))
    (h : TOps P fr ops rest (A.after { d := some d, ty := .yb true (hJ (k + 1)) hJx, S := [7000], rs := c :: xs.flatMap opR, rt := [7000] }) fun A' l' => K A' ((A, { d := some d, ty := .yb true (hJ (k + 1)) hJx, S := [7000], rs := c :: xs.flatMap opR, rt := [7000] }) :: l')) :
    TOps P fr ops (⟨some d, .call ⟨.value (.tmp c), xs.toArray, ats⟩, t, p, e, none⟩ :: rest) A K := by
  refine ⟨{ d := some d, ty := .yb true (hJ (k + 1)) hJx, S := [7000], rs := c :: xs.flatMap opR, rt := [7000] }, ⟨rfl, by simp, by simp, by simp, fun a w M wf hsz hrd htg => ?_⟩, h⟩
  rw [if_pos (by simp [Region.wanted])]
  have hcv := op_den (x := .tmp c) (rs := c :: xs.flatMap opR) (fun u hu => by exact (List.mem_singleton.1 hu) ▸ List.mem_cons_self) hrd
  rw [hc] at hcv
  have hcv : a.eval (.tmp c) = yv l := hcv
  obtain ⟨_, Mc, wfc, z, hj, h1, h2⟩ := htg _ (tag_mem ht) (by simp)
  have hv : dens w Mc tys (xs.map a.eval) := conv_nodeps h1 hd hdc (hx ▸ opsTy_dens (rs := c :: xs.flatMap opR) hrd fun x hx c hc => List.mem_cons_of_mem _ (List.mem_flatMap.2 ⟨x, hx, hc⟩))
  obtain ⟨fn, tmps, assign, body, hy, hR⟩ := hY k tys hk w Mc _ wfc z hj hv
  refine ⟨fun f _ => fr.kd.fn_true f, ?_⟩
  have hrun : (execOp a.eval ⟨some d, .call ⟨.value (.tmp c), xs.toArray, ats⟩, t, p, e, none⟩).run P w = .ok (.round l fn tmps assign body) w := by
    simp [execOp, resolve, hcv, yv, Deferred.ofValue, invoke, hy]
  rw [Oper.semAt_eq _ _ _ (by intro c h; cases h), hrun, Oper.uponIn_round]
  refine ⟨fun h => (by rw [fr.kd.depth_none] at h; cases h), ?_⟩
  have hfe : fr.kd.fence = Fence.wide := by rw [hkd]; rfl
  rw [hfe]
  refine RoundIn.mono hR fun en w' ⟨Mc', wf', z', le, hor⟩ => ?_
  obtain ⟨g1, g2, g3, g4⟩ := backY_ok wf wf' h1 h2 le
  rcases hor with ⟨rfl, hj'⟩ | ⟨rfl, hj'⟩
  · exact ⟨.bool true, rfl, _, g1, g2, .inl ⟨rfl, Mc', wf', z', hj', g3, g4⟩, by simp⟩
  · exact ⟨.bool false, rfl, _, g1, g2, .inr ⟨rfl, Mc', wf', z', hj', g3, g4⟩, by simp⟩
theorem run_callFuncY {f : FuncId} {T : Nat} {capTys args : List Ty} {J0 J1 Jx : World → Tags → Prop} (hF : MoreY P f T capTys args J0 J1 Jx) (vs : Array Value) (w : World) : (callFunc f vs).run P w = .ok (.enter f vs) w := by
  obtain ⟨⟨fn, hf, hn, hb⟩, _⟩ := hF
  have hn' : fn.name ≠ "runtime.NumGoroutine" := by simpa using hn
  have hb' : fn.body ≠ none := fun h => by rw [h] at hb; cases hb
  simp [callFunc, hf, hn', hb']
theorem r_callY (L : List Nat) {c f T g : Nat} {capTys args ss : List Ty} {cs' : List Value} {J0 J1 Jx : World → Tags → Prop} (h0 : Cb J0) (h1 : Cb J1) (hx : Cb Jx) (hM : MoreY P f T capTys args J0 J1 Jx) {h3 : depsOf capTys = []} {h4 : cdepsOf capTys = []} {xs : List Operand} {ats : Array TypeId}
    (hc : A.op fr (.tmp c) = .ex (.func (.func f) #[] (cs' ++ [gp g]).toArray)) (hxs : opsTy A fr xs = ss) (hl : Lends L ss args) (hd : depsOf args = []) (hdc : cdepsOf args = [])
    (hme : A.tag 1001 = some (.me g T (.func (.func f) #[] (cs' ++ [gp g]).toArray) capTys cs' h3 h4)) (hck : A.tag 7000 = some (.ck h0)) (hL : ∀ u ∈ L, 1 ≤ u ∧ u ∉ fr.pass) (hL7 : L.contains 7000 = false) (hL1 : L.contains 1000 = false)
    (h : TOps P fr ops rest (A.after { d := some d, ty := .yb true h1 hx, S := [7000], K := L, rs := c :: xs.flatMap opR, rt := [7000, 1001] }) fun A' l' => K A' ((A, { d := some d, ty := .yb true h1 hx, S := [7000], K := L, rs := c :: xs.flatMap opR, rt := [7000, 1001] }) :: l')) :
    TOps P fr ops (⟨some d, .call ⟨.value (.tmp c), xs.toArray, ats⟩, t, p, e, none⟩ :: rest) A K := by
  refine ⟨{ d := some d, ty := .yb true h1 hx, S := [7000], K := L, rs := c :: xs.flatMap opR, rt := [7000, 1001] }, ⟨rfl, by simp, by simp, hL, fun a w M wf hsz hrd htg => ?_⟩, h⟩
  rw [if_pos (by simp [Region.wanted])]
  have hcv := op_den (x := .tmp c) (rs := c :: xs.flatMap opR) (fun u hu => by exact (List.mem_singleton.1 hu) ▸ List.mem_cons_self) hrd
  rw [hc] at hcv
  have hcv : a.eval (.tmp c) = .func (.func f) #[] (cs' ++ [gp g]).toArray := hcv
  obtain ⟨e1, e2, e3⟩ := htg _ (tag_mem hme) (by simp)
  obtain ⟨_, hck'⟩ := htg _ (tag_mem hck) (by simp)
  have hck1 : dCK J0 w (pubL M L) := dCK_mono h0 (pubL_le (w := w) (M := M) (L := L)) (by simp) (by simpa using hL7) hck'
  obtain ⟨Mc, wfc, z, hj, k1, k2⟩ := hck1
  have e1' : pubL M L g = some 1000 := by have : 1000 ∉ L := by simpa using hL1
                                          simp [pubL, e1, this]
  have hg : g < w.heap.size := (Array.getElem?_eq_some_iff.1 e2).1
  have hv : dens w Mc args (xs.map a.eval) := conv_nodeps (fun b hb => k1 b (pubL_lend hb)) hd hdc (lends_dens wf hl (hxs ▸ opsTy_dens (rs := c :: xs.flatMap opR) hrd fun x hx c hc => List.mem_cons_of_mem _ (List.mem_flatMap.2 ⟨x, hx, hc⟩)))
  have hcs : dens w Mc capTys cs' := conv_nodeps (fun b hb => k1 b (pubL_none hb)) h3 h4 e3
  have hcall := hM.2 w Mc g _ cs' cs' wfc z hv hcs hcs (k2 g 1000 hg e1' (by decide)) e2 hj
  refine wp_in_enter (f := f) (args := (xs.map a.eval ++ (cs' ++ [gp g])).toArray) (by simp [execOp, resolve, hcv, Deferred.ofValue, invoke, run_callFuncY hM]) (hcall.mono fun en w' ⟨Mc', wf', z', le, hor⟩ => ?_)
  obtain ⟨g1, g2, g3, g4⟩ := backY_ok (pubL_wf (L := L) wf) wf' k1 k2 le
  have g2' : Le (· ∈ [7000]) (· ∈ L) w M w' (backY w (pubL M L) Mc') := ((pubL_le (w := w) (M := M) (L := L)).trans g2).weaken (fun u hu => by rcases hu with h | h; cases h; exact h) (fun u hu => by rcases hu with h | h; exact h; cases h)
  rcases hor with ⟨rfl, hj'⟩ | ⟨rfl, hj'⟩
  · exact ⟨.bool true, rfl, .bool true, rfl, _, g1, g2', .inl ⟨rfl, Mc', wf', z', hj', g3, g4⟩, by simp⟩
  · exact ⟨.bool false, rfl, .bool false, rfl, _, g1, g2', .inr ⟨rfl, Mc', wf', z', hj', g3, g4⟩, by simp⟩
theorem r_callY0 {c f T tg : Nat} {capTys args ss : List Ty} {J0 J1 Jx : World → Tags → Prop} (h0 : Cb J0) (h1 : Cb J1) (hx : Cb Jx) (hM : MoreY P f T capTys args J0 J1 Jx) (h3 : depsOf capTys = []) (h4 : cdepsOf capTys = []) {xs : List Operand} {ats : Array TypeId}
    (hc : A.op fr (.tmp c) = .clo f (capTys ++ [.ptr tg 0])) (hxs : opsTy A fr xs = ss) (hl : Lends [] ss args) (hd : depsOf args = []) (hdc : cdepsOf args = [])
    (hcell : A.tag tg = some (.cells T [.clo f (capTys ++ [.ptr tg 0])])) (htg1 : Tag1 tg) (hck : A.tag 7000 = some (.ck h0))
    (h : TOps P fr ops rest (A.after { d := some d, ty := .yb true h1 hx, S := [7000], rs := c :: xs.flatMap opR, rt := [7000, tg] }) fun A' l' => K A' ((A, { d := some d, ty := .yb true h1 hx, S := [7000], rs := c :: xs.flatMap opR, rt := [7000, tg] }) :: l')) :
    TOps P fr ops (⟨some d, .call ⟨.value (.tmp c), xs.toArray, ats⟩, t, p, e, none⟩ :: rest) A K := by
  refine ⟨{ d := some d, ty := .yb true h1 hx, S := [7000], rs := c :: xs.flatMap opR, rt := [7000, tg] }, ⟨rfl, by simp, by simp, by simp, fun a w M wf hsz hrd htg => ?_⟩, h⟩
  rw [if_pos (by simp [Region.wanted])]
  have hcv := op_den (x := .tmp c) (rs := c :: xs.flatMap opR) (fun u hu => by exact (List.mem_singleton.1 hu) ▸ List.mem_cons_self) hrd
  rw [hc] at hcv
  obtain ⟨⟨cl⟩, ev, hcl⟩ := hcv
  have split : ∀ (l : List Value), dens w M (capTys ++ [.ptr tg 0]) l → ∃ cs b, l = cs ++ [gp b] ∧ dens w M capTys cs ∧ M b = some tg := fun l hl => by
    have hlen := dens_len hl
    rw [List.length_append, List.length_singleton] at hlen
    have g1 := dens_take capTys.length hl
    have g2 := dens_drop capTys.length hl
    rw [List.take_left] at g1
    rw [List.drop_left] at g2
    have e1 : (l.drop capTys.length).length = 1 := by rw [List.length_drop]; omega
    obtain ⟨v, hv⟩ := List.length_eq_one_iff.1 e1
    rw [hv] at g2
    obtain ⟨⟨b, hb, ev⟩, _⟩ := g2
    exact ⟨_, b, by subst ev; have h9 := List.take_append_drop capTys.length l; rw [hv] at h9; exact h9.symm, g1, hb⟩
  obtain ⟨cs, g, rfl, hcs, hg⟩ := split _ hcl
  obtain ⟨b', ⟨cells⟩, hb', hh, hdd⟩ := htg _ (tag_mem hcell) (by simp)
  obtain ⟨u, rfl⟩ : ∃ u, tg = u + 1 := ⟨tg - 1, by have := htg1.1; omega⟩
  have hbg : g = b' := wf.inj g b' u htg1.2 hg hb'
  subst hbg
  obtain ⟨v', rfl⟩ : ∃ v', cells = [v'] := by
    have hlen := dens_len hdd
    exact List.length_eq_one_iff.1 (by simpa using hlen)
  obtain ⟨⟨⟨cl'⟩, ev', hcl'⟩, _⟩ := hdd
  obtain ⟨cs', g', rfl, hcs', hg'⟩ := split _ hcl'
  have hgg : g' = g := wf.inj g' g u htg1.2 hg' hg
  subst hgg
  subst ev'
  obtain ⟨_, Mc, wfc, z, hj, k1, k2⟩ := htg _ (tag_mem hck) (by simp)
  have hgs : g' < w.heap.size := (Array.getElem?_eq_some_iff.1 hh).1
  have hcv : a.eval (.tmp c) = .func (.func f) #[] (cs ++ [gp g']).toArray := ev
  have hv : dens w Mc args (xs.map a.eval) := conv_nodeps (fun b hb => k1 b (by
      unfold lend at hb
      cases hm : M b with
      | none => rfl
      | some q => rw [hm] at hb; simp at hb)) hd hdc (lends_dens wf hl (hxs ▸ opsTy_dens (rs := c :: xs.flatMap opR) hrd fun x hx c hc => List.mem_cons_of_mem _ (List.mem_flatMap.2 ⟨x, hx, hc⟩)))
  have hcall := hM.2 w Mc g' _ cs cs' wfc z hv (conv_nodeps k1 h3 h4 hcs) (conv_nodeps k1 h3 h4 hcs') (k2 g' _ hgs hg (by have := htg1.2; omega)) hh hj
  refine wp_in_enter (f := f) (args := (xs.map a.eval ++ (cs ++ [gp g'])).toArray) (by simp [execOp, resolve, hcv, Deferred.ofValue, invoke, run_callFuncY hM]) (hcall.mono fun en w' ⟨Mc', wf', z', le, hor⟩ => ?_)
  obtain ⟨g1, g2, g3, g4⟩ := backY_ok wf wf' k1 k2 le
  rcases hor with ⟨rfl, hj'⟩ | ⟨rfl, hj'⟩
  · exact ⟨.bool true, rfl, .bool true, rfl, _, g1, g2, .inl ⟨rfl, Mc', wf', z', hj', g3, g4⟩, by simp⟩
  · exact ⟨.bool false, rfl, .bool false, rfl, _, g1, g2, .inr ⟨rfl, Mc', wf', z', hj', g3, g4⟩, by simp⟩
theorem r_notY {x : Operand} {J1 Jx : World → Tags → Prop} {h1 : Cb J1} {hx : Cb Jx} {b1 : Bool} (hop : A.op fr x = .yb b1 h1 hx)
    (h : TOps P fr ops rest (A.set d (.yb (!b1) h1 hx)) fun A' l' => K A' ((A, { d := some d, ty := .yb (!b1) h1 hx, rs := opR x }) :: l')) : TOps P fr ops (⟨some d, .unOp .not ty' x, t, p, e, none⟩ :: rest) A K :=
  tops_pure (opT_pure rfl rfl fun a w M _ hrd _ => by
    have hdx := op_den (x := x) (fun _ h => h) hrd
    rw [hop] at hdx
    rcases hdx with ⟨ex, hj⟩ | ⟨ex, hj⟩
    · exact ⟨.bool (!b1), by simp [execOp, ex, Op.unary], .inl ⟨rfl, hj⟩⟩
    · exact ⟨.bool (!!b1), by simp [execOp, ex, Op.unary], .inr ⟨rfl, hj⟩⟩) h
end
section
variable {P : Program} {fr : Fr} {A : As} {Q : Exit → Act → World → Prop} {x y : Code}
theorem t_condY {c : Operand} {J1 Jx : World → Tags → Prop} {h1 : Cb J1} {hx : Cb Jx} (hc : A.op fr c = .yb false h1 hx) (hth : Tri P fr x ⟨A.slots, (7000, .ck hx) :: A.tags⟩ Q) (hel : Tri P fr y ⟨A.slots, (7000, .ck h1) :: A.tags⟩ Q) : Tri P fr (.cond c x y) A Q := fun a w ha => by
  obtain ⟨M, ok, hs, ht⟩ := ha
  have hd := op_den (x := c) (rs := opR c) (fun _ h => h) (fun c _ hn => hs c hn)
  rw [hc] at hd
  rcases hd with ⟨ev, hj⟩ | ⟨ev, hj⟩
  · exact wpIn_cond_false ev (hel a w ⟨M, ok, hs, fun x hx => by
      rcases List.mem_cons.1 hx with rfl | hx
      · exact ⟨rfl, hj⟩
      · exact ht x hx⟩)
  · exact wpIn_cond_true ev (hth a w ⟨M, ok, hs, fun x hx => by
      rcases List.mem_cons.1 hx with rfl | hx
      · exact ⟨rfl, hj⟩
      · exact ht x hx⟩)
end
def startM (Mc : Tags) (g : Option Nat) : Tags := fun b => match Mc b with | none => none | some u => if u < Zt then some 7000 else if some b = g then some 1000 else some 5000
theorem startM_none {Mc : Tags} {g : Option Nat} {b : Nat} (h : startM Mc g b = none) : Mc b = none := by
  unfold startM at h
  split at h
  · assumption
  · split at h
    · cases h
    · split at h <;> cases h
theorem startM_none' {Mc : Tags} {g : Option Nat} {b : Nat} (h : Mc b = none) : startM Mc g b = none := by simp [startM, h]
theorem startM_wf {w : World} {Mc : Tags} {g : Option Nat} (wf : Wf w Mc) : Wf w (startM Mc g) := by
  refine ⟨fun b t h => ?_, fun b b' t ht h h' => ?_⟩
  · cases hm : Mc b with
    | none => rw [startM_none' hm] at h; cases h
    | some u => exact wf.lt b u hm
  · have key : ∀ b, startM Mc g b = some (t + 1) → some b = g := fun b h => by
      unfold startM at h
      split at h
      · cases h
      · split at h
        · injection h with h; omega
        · split at h
          · assumption
          · injection h with h; omega
    have e1 := key b h
    have e2 := key b' h'
    rw [← e2] at e1; injection e1
theorem startM_ck {w : World} {Mc : Tags} {g : Option Nat} {J : World → Tags → Prop} (wf : Wf w Mc) (z : ZOk Mc) (hj : J w Mc) : dCK J w (startM Mc g) := by
  refine ⟨Mc, wf, z, hj, fun b h => startM_none h, fun b u _ h hu => ?_⟩
  unfold startM at h
  split at h
  · cases h
  · rename_i v hv
    split at h
    · injection h with h; exact absurd h.symm hu
    · rw [hv]; congr 1; exact z b v hv (by omega)
def oldB (Mc : Tags) (g : Nat) (b : Nat) : Prop := Mc b = some (Zt + b) ∧ b ≠ g
section
variable {P : Program}
theorem moreY_intro {f : FuncId} {fn : Func} {c : Code} {T : Nat} {capTys args : List Ty} {J0 J1 Jx : World → Tags → Prop} {n : Nat} (h0 : Cb J0) (hf : P.funcs[f]? = some fn) (hb : fn.body = some c) (hn : (fn.name == "runtime.NumGoroutine") = false) (hnt : fn.ntmps = n) (hl : (args ++ (capTys ++ [Ty.ptr 1000 0])).length ≤ n)
    (hd : depsOf args = []) (hdc : cdepsOf args = []) (h3 : depsOf capTys = []) (h4 : cdepsOf capTys = [])
    (h : ∀ w Mc g cs', Wf w Mc → ZOk Mc → Mc g = some (Zt + g) → w.heap[g]? = some (.cells #[.func (.func f) #[] (cs' ++ [gp g]).toArray] T (0, 0)) →
      Tri P ⟨n, w, startM Mc (some g), [7000, 5000, 1000], .plain⟩ c (entryG (args ++ (capTys ++ [Ty.ptr 1000 0])) [(7000, .ck h0), (1000, .cells T [.ex (.func (.func f) #[] (cs' ++ [gp g]).toArray)]), (1001, .me g T (.func (.func f) #[] (cs' ++ [gp g]).toArray) capTys cs' h3 h4), (5000, .snap w (oldB Mc g))]) (bodyPost P fn (yPost w Mc J1 Jx))) : MoreY P f T capTys args J0 J1 Jx := by
  refine ⟨⟨fn, hf, hn, by rw [hb]; rfl⟩, fun w Mc g vs cs cs' wf z hv hcs hcs' hg hh hj => calls_of_wp hf hb (wpIn_wide.1 (h w Mc g cs' wf z hg hh _ _ ?_))⟩
  have hnn : ∀ b, Mc b = none → startM Mc (some g) b = none := fun b hb => startM_none' hb
  have hg0 : startM Mc (some g) g = some 1000 := by simp [startM, hg]
  have hall : dens w (startM Mc (some g)) (args ++ (capTys ++ [Ty.ptr 1000 0])) (vs ++ (cs ++ [gp g])) := dens_append (conv_nodeps hnn hd hdc hv) (dens_append (conv_nodeps hnn h3 h4 hcs) ⟨⟨g, hg0, rfl⟩, trivial⟩)
  have hlen := dens_len hall
  refine ⟨startM Mc (some g), ⟨startM_wf wf, Le.refl _ _ _ _, by simp [hnt]; simp at hlen hl; omega, Defs.nil⟩, fun c hc => ?_, fun x hx => ?_⟩
  · simp only [entryG]
    cases ha : (args ++ (capTys ++ [Ty.ptr 1000 0]))[c]? with
    | none => trivial
    | some ty =>
      obtain ⟨v, hv, hdv⟩ := dens_get hall c ty ha
      have : ((vs ++ (cs ++ [gp g])).toArray ++ Array.replicate (fn.ntmps - (vs ++ (cs ++ [gp g])).toArray.size) undef).getD c undef = v := by
        have hlt : c < (vs ++ (cs ++ [gp g])).length := (List.getElem?_eq_some_iff.1 hv).1
        rw [Array.getD_eq_getD_getElem?, Array.getElem?_append_left (by simpa using hlt), List.getElem?_toArray, hv]; rfl
      rw [this]; exact hdv
  · simp only [entryG, List.mem_cons, List.not_mem_nil, or_false] at hx
    rcases hx with rfl | rfl | rfl | rfl
    · exact ⟨rfl, startM_ck wf z hj⟩
    · exact ⟨g, _, hg0, hh, rfl, trivial⟩
    · exact ⟨hg0, hh, conv_nodeps hnn h3 h4 hcs'⟩
    · intro b ⟨hb1, hb2⟩
      refine ⟨?_, rfl⟩
      have : ¬ Zt + b < Zt := by omega
      simp [startM, hb1, this, hb2]
variable {A : As} {fn : Func} {n : Nat} {J1 Jx : World → Tags → Prop}
theorem yret_le {w w' : World} {Mc M Mc' : Tags} {g T : Nat} {v : Value} {tys : List Ty} {cs : List Value} {h3 : depsOf tys = []} {h4 : cdepsOf tys = []} (z : ZOk Mc) (wf : Wf w Mc) (hg : w.heap[g]? = some (.cells #[v] T (0, 0)))
    (hb : Le (fun t => 1 ≤ t) (fun t => 1 ≤ t ∧ t ∉ [7000, 5000, 1000]) w (startM Mc (some g)) w' M) (hm : (Cont.me g T v tys cs h3 h4).den w' M 1001) (ho : (Cont.snap w (oldB Mc g)).den w' M 5000) (k1 : ∀ b, M b = none → Mc' b = none) (k2 : ∀ b u, b < w'.heap.size → M b = some u → u ≠ 7000 → Mc' b = some (Zt + b)) :
    Le (fun t => t < Zt) (fun t => t < Zt) w Mc w' Mc' := by
  refine ⟨hb.size, hb.os, hb.tape, hb.out, fun b hlt h => ?_, fun b t h ht => ?_⟩
  · obtain ⟨a, c⟩ := hb.pub b hlt (startM_none' h)
    exact ⟨k1 b a, c⟩
  · have e := z b t h (by omega)
    subst e
    have hlt : b < w'.heap.size := Nat.lt_of_lt_of_le (wf.lt b _ h) hb.size
    by_cases e : b = g
    · subst e
      exact ⟨k2 b 1000 hlt hm.1 (by decide), fun _ => hm.2.1.trans hg.symm⟩
    · obtain ⟨a, c⟩ := ho b ⟨h, e⟩
      exact ⟨k2 b 5000 hlt a (by decide), fun _ => c⟩
theorem i_retY {tm g T : Nat} {w : World} {Mc : Tags} {v : Value} {tys : List Ty} {cs : List Value} {h3 : depsOf tys = []} {h4 : cdepsOf tys = []} {h1 : Cb J1} {hx : Cb Jx} (z : ZOk Mc) (wf : Wf w Mc) (hg : w.heap[g]? = some (.cells #[v] T (0, 0))) (hr : fn.results = #[.tmp tm]) (htm : Nat.blt tm n = true) (hm : A.tag 1001 = some (.me g T v tys cs h3 h4)) (ho : A.tag 5000 = some (.snap w (oldB Mc g))) (hs : (A.slots tm).Sub (.yb true h1 hx)) :
    Into ⟨n, w, startM Mc (some g), [7000, 5000, 1000], .plain⟩ A (bodyPost P fn (yPost w Mc J1 Jx) .ret) := by
  intro a w' ⟨M, ok, hsl, htg⟩
  rcases hs _ _ _ (hsl tm (by simpa using htm)) with ⟨ev, Mc', wf', z', hj, k1, k2⟩ | ⟨ev, Mc', wf', z', hj, k1, k2⟩
  · exact ⟨ok.nodefers (by simp), _, results_tmp hr _ _ _, Mc', wf', z', yret_le (h3 := h3) (h4 := h4) z wf hg ok.base (htg _ (tag_mem hm)) (htg _ (tag_mem ho)) k1 k2, .inl ⟨by rw [ev], hj⟩⟩
  · exact ⟨ok.nodefers (by simp), _, results_tmp hr _ _ _, Mc', wf', z', yret_le (h3 := h3) (h4 := h4) z wf hg ok.base (htg _ (tag_mem hm)) (htg _ (tag_mem ho)) k1 k2, .inr ⟨by rw [ev]; rfl, hj⟩⟩
theorem i_retYx {tm g T : Nat} {w : World} {Mc : Tags} {v : Value} {tys : List Ty} {cs : List Value} {h3 : depsOf tys = []} {h4 : cdepsOf tys = []} {hx : Cb Jx} (z : ZOk Mc) (wf : Wf w Mc) (hg : w.heap[g]? = some (.cells #[v] T (0, 0))) (hr : fn.results = #[.tmp tm]) (htm : Nat.blt tm n = true) (hm : A.tag 1001 = some (.me g T v tys cs h3 h4)) (ho : A.tag 5000 = some (.snap w (oldB Mc g))) (hs : A.slots tm = .bool false) (hk : A.tag 7000 = some (.ck hx)) :
    Into ⟨n, w, startM Mc (some g), [7000, 5000, 1000], .plain⟩ A (bodyPost P fn (yPost w Mc J1 Jx) .ret) := by
  intro a w' ⟨M, ok, hsl, htg⟩
  have ev := hsl tm (by simpa using htm)
  rw [hs] at ev
  obtain ⟨_, Mc', wf', z', hj, k1, k2⟩ := htg _ (tag_mem hk)
  have ev : a.tmps.getD tm undef = .bool false := ev
  exact ⟨ok.nodefers (by simp), _, results_tmp hr _ _ _, Mc', wf', z', yret_le (h3 := h3) (h4 := h4) z wf hg ok.base (htg _ (tag_mem hm)) (htg _ (tag_mem ho)) k1 k2, .inr ⟨by rw [ev], hj⟩⟩
theorem fnYI_intro {f : FuncId} {c : Code} {args : Nat → List Ty} {encs : List (List Ty)} (hf : P.funcs[f]? = some fn) (hb : fn.body = some c) (hn : (fn.name == "runtime.NumGoroutine") = false) (hnt : fn.ntmps = n) (hl : ∀ l, (args l).length ≤ n) (hdd : ∀ l, depsOf (args l) = [] ∧ cdepsOf (args l) = [])
    (h : ∀ l J Jx (hJ : ∀ k, Cb (J k)) (_ : Cb Jx), Yld P l encs J Jx → ∀ w0 M0, Tri P ⟨n, w0, M0, [7000, 5000], .plain⟩ c (entryG (args l) [(7000, .ck (hJ 0))]) (bodyPost P fn (iterPost encs.length J Jx (Ty.tup []) (Ty.tup [])))) : CtrI P f args encs (Ty.tup []) (Ty.tup []) := by
  refine ⟨⟨fn, hf, hn, by rw [hb]; rfl⟩, fun l J Jx hJ hJx hY w Mc vs wf z hd hj => calls_of_wp hf hb (wpIn_wide.1 (h l J Jx hJ hJx hY w (startM Mc none) _ _ ?_))⟩
  have hall : dens w (startM Mc none) (args l) vs := conv_nodeps (fun b hb => startM_none' hb) (hdd l).1 (hdd l).2 hd
  have hlen := dens_len hall
  have hl := hl l
  refine ⟨startM Mc none, ⟨startM_wf wf, Le.refl _ _ _ _, by simp [hnt, hlen]; omega, Defs.nil⟩, fun c hc => ?_, fun x hx => ?_⟩
  · simp only [entryG]
    cases ha : (args l)[c]? with
    | none => trivial
    | some ty =>
      obtain ⟨v, hv, hdv⟩ := dens_get hall c ty ha
      have : (vs.toArray ++ Array.replicate (fn.ntmps - vs.toArray.size) undef).getD c undef = v := by
        have hlt : c < vs.length := (List.getElem?_eq_some_iff.1 hv).1
        rw [Array.getD_eq_getD_getElem?, Array.getElem?_append_left (by simpa using hlt)]
        simp [hv]
      rw [this]; exact hdv
  · rw [List.mem_singleton.1 hx]; exact ⟨rfl, startM_ck wf z hj⟩
theorem i_retYI {s : Nat} {w0 : World} {M0 : Tags} {J : Nat → World → Tags → Prop} {m : Nat} {h1 : Cb (J m)} {hx : Cb Jx} (hr : fn.results = #[]) (hsn : Nat.blt s n = true) (hs : A.slots s = .yb true h1 hx) : Into ⟨n, w0, M0, [7000, 5000], .plain⟩ A (bodyPost P fn (iterPost m J Jx (Ty.tup []) (Ty.tup [])) .normal) := by
  intro a w' ⟨M, ok, hsl, htg⟩
  have hd := hsl s (by simpa using hsn)
  rw [hs] at hd
  rcases hd with ⟨ev, Mc', wf', z', hj, k1, k2⟩ | ⟨ev, Mc', wf', z', hj, k1, k2⟩
  · exact ⟨ok.nodefers (by simp), _, results_none hr _ _ _, _, Mc', rfl, wf', z', .inl ⟨⟨_, rfl, trivial⟩, hj⟩⟩
  · exact ⟨ok.nodefers (by simp), _, results_none hr _ _ _, _, Mc', rfl, wf', z', .inr ⟨⟨_, rfl, trivial⟩, hj⟩⟩
end
end Go.T

namespace Go.Proofs.Ytpnndljmhpepgaa
open Go Go.T
set_option maxHeartbeats 4000000
def rndEnc (l : List Tur) : List Ty := [Ty.sl TurE l]
def moreCaps (d : Desk) (gg : Int) (p : Pl) (li : Nat) : List Ty := [Ty.pp [Ty.pe DeskE d 0], Ty.pp [Ty.int .i64 gg], Ty.pp [Ty.ex (yv li)], Ty.pp (plT p)]
theorem same_tur (t : Tur) (k : Int) : (decide (t.lot = t.lot) && decide (t.aim = k)) = decide (t.aim = k) := by rw [decide_eq_true rfl, Bool.true_and]
theorem rnd_get {R : List (List Tur)} {k : Nat} {l : List Tur} (h : [l] <+: R.drop k) : (R.map rndEnc)[k]? = some [Ty.sl TurE l] := by rw [List.getElem?_map, pre_get h]; rfl
attribute [local irreducible] dInt dBool dSl dPp dPtr dAgg dTup dClo dAny dEx dStr dGd dCells dVec dVs dRow dOp nth Tri Into TOps Ctr bodyPost Exit.then Exit.inBlock Code.wp Code.wpIn dWhen dPa dPe dAo dArr dMp dPm dMap dCJ CtrG CtrI OpY keepPost iterPost bodyPostM roundQ
attribute [local irreducible] dYb dCK dRowJ dMs dFit
set_option maxRecDepth 100000 in
theorem k_Clone_tur (l : List Tur) (h : l.length ≤ 1000) : CtrG Try.prog 108 [] [] [Ty.sl TurE l] [] (Ty.row TurE 55 6 l) := by
  refine fnG_intro Try.func108 rfl (by decide) Try.ntmps108 (by exact Nat.le_of_ble_eq_true rfl) fun w0 M0 => ?_
  refine t_seq ?_
  refine t_region ?_
  refine asX rfl ?_
  refine r_nil ?_
  refine i_then ?_
  refine t_seq ?_
  refine t_seq ?_
  refine t_region ?_
  refine mvS rfl ?_
  refine r_eqnil und42 rfl ?_
  refine r_nil ?_
  refine i_then ?_
  refine t_cond_nb rfl (fun hc1 => ?_) (fun hc1 => ?_)
  ·
    refine t_seq ?_
    refine t_region ?_
    refine asX rfl ?_
    refine r_nil ?_
    refine i_then ?_
    refine t_ret ?_
    refine i_then_ret ?_
    refine g_ret1 [6] rfl rfl (by decide) (by repeat (exact rc_nil)) ?_
    all_goals skip
    all_goals (obtain rfl : l = [] := hc1; exact rg_cv cv_nilrow)
  ·
    refine t_skip ?_
    refine i_then ?_
    refine t_seq ?_
    refine t_region ?_
    refine r_buildRow (E := TurE) rfl rfl rfl rfl ?_
    refine mvS rfl ?_
    refine r_append rfl rfl (by decide) rfl rfl rfl rfl rfl rfl (by decide) (by (simp <;> omega)) (by (simp <;> omega)) ?_
    refine asR rfl ?_
    refine r_nil ?_
    refine i_then ?_
    refine t_ret ?_
    refine g_ret1 [6] rfl rfl (by decide) (by repeat (exact rc_nil)) ?_
    all_goals skip
    all_goals exact rg_cv (cv_row (by decide))
set_option maxRecDepth 100000 in
theorem c_more1 (t : Tur) (k : Int) : Ctr Try.prog 139 [Ty.agg (TurE.tys t), Ty.pp [Ty.int .i64 k]] (Ty.bool (decide (t.aim = k))) := by
  refine fn_intro Try.func139 rfl (by decide) Try.ntmps139 (by exact Nat.le_of_ble_eq_true rfl) fun w0 M0 => ?_
  refine t_seq ?_
  refine t_region ?_
  refine r_box_agg rfl ?_
  refine asB rfl ?_
  refine r_nil ?_
  refine i_then ?_
  refine t_seq ?_
  refine t_region ?_
  refine r_load_ppN rfl rfl rfl (by exact Nat.le_of_ble_eq_true rfl) ?_
  refine r_field_pp rfl rfl rfl rfl rfl (by decide) ?_
  refine r_load_pp rfl rfl rfl rfl ?_
  refine r_load_pp rfl rfl rfl rfl ?_
  refine r_build rfl rfl (by exact List.cons_ne_nil _ _) rfl (by repeat (first | exact (Parts.nil : Parts _ _ [] _) | (show Parts _ _ ((_, _) :: _) _; apply Parts.one; (· exact (rfl : _ = Ty.int _ _)); (· exact rfl)))) (by exact (rfl : _ = some [_, _])) ?_
  refine r_eql_A (eqt55 _ _ _ _) rfl rfl ?_
  refine asB rfl ?_
  refine r_nil ?_
  refine i_then ?_
  refine t_ret ?_
  refine i_rp1 rfl rfl ?_
  all_goals skip
  exact ret_eq rfl rfl (congrArg Ty.bool (same_tur t k))
set_option maxRecDepth 100000 in
theorem c_moreS (d : Desk) (hs : d.b.Small) (h6 : d.b.lots.length ≤ 6) (gg : Int) (p : Pl) (R : List (List Tur)) (li : Nat) (J : Nat → World → Tags → Prop) (Jx : World → Tags → Prop) (hJ : ∀ k, Cb (J k)) (hJx : Cb Jx) (hY : Yld Try.prog li (R.map rndEnc) J Jx) (l : List Tur) (lot : Nat) (lz : Int) (hlz : lz = (lot : Int)) (k : Nat) (hlot : lot ≤ d.b.lots.length) (hl : l.length ≤ lot) (hp : roundsW d.b p gg l lot <+: R.drop k) (ih : lot < d.b.lots.length → ∀ (l' : List Tur) (k' : Nat), l'.length ≤ lot + 1 → roundsW d.b p gg l' (lot + 1) <+: R.drop k' → MoreY Try.prog 136 170 (moreCaps d gg p li) [Ty.sl TurE l', Ty.int .i64 (lz + 1)] (J k') (J (k' + (roundsW d.b p gg l' (lot + 1)).length)) Jx) : MoreY Try.prog 136 170 (moreCaps d gg p li) [Ty.sl TurE l, Ty.int .i64 lz] (J (k)) (J (k + (roundsW d.b p gg l lot).length)) Jx := by
  subst hlz
  refine moreY_intro (hJ (k)) Try.func136 rfl (by decide) Try.ntmps136 (by exact Nat.le_of_ble_eq_true rfl) rfl rfl rfl rfl fun w0 Mc g cs0 wf0 z0 hg0 hh0 => ?_
  have hs1 := hs.sizes
  refine t_seq ?_
  refine t_region ?_
  refine asB rfl ?_
  refine r_nil ?_
  refine i_then ?_
  refine t_seq ?_
  refine t_seq ?_
  refine t_region ?_
  refine mvI rfl ?_
  refine r_load_pp rfl rfl rfl rfl ?_
  refine r_nilCheck_pe rfl ?_
  refine r_field_pe rfl rfl rfl rfl rfl (by decide) ?_
  refine r_field_pe rfl rfl rfl rfl rfl (by decide) ?_
  refine r_load_pe rfl rfl rfl rfl ?_
  refine r_len rfl rfl rfl ?_
  refine r_bin rfl rfl rfl ?_
  refine mvB rfl ?_
  apply r_guard (s := 19) rfl rfl rfl
  · intro hg; apply opT_of; (refine mvS rfl ?_); refine r_nil ?_; exact rfl
  · exact rfl
  · exact rfl
  apply r_guard (s := 19) rfl rfl rfl
  · intro hg; apply opT_strip (s := 20) rfl (by (rw [hg]; rfl)); apply opT_of; (refine r_len rfl rfl rfl ?_); refine r_nil ?_; exact rfl
  · exact rfl
  · exact rfl
  apply r_guard (s := 19) rfl rfl rfl
  · intro hg; apply opT_of; (refine r_load_pp rfl rfl rfl rfl ?_); refine r_nil ?_; exact rfl
  · exact rfl
  · exact rfl
  apply r_guard (s := 19) rfl rfl rfl
  · intro hg; apply opT_strip (s := 21) rfl (by (rw [hg]; rfl)); apply opT_strip (s := 22) rfl (by (rw [hg]; rfl)); apply opT_of; (refine r_bin rfl rfl rfl ?_); refine r_nil ?_; exact rfl
  · exact rfl
  · exact rfl
  refine r_or rfl rfl ?_
  refine r_nil ?_
  refine i_then ?_
  refine t_cond rfl (fun hc1 => ?_) (fun hc1 => ?_)
  ·
    refine t_seq ?_
    refine t_region ?_
    refine r_load_pp rfl rfl rfl rfl ?_
    refine mvS rfl ?_
    refine r_yieldY hJ hJx hY rfl rfl rfl rfl rfl (rnd_get (by have h := hp; rw [rounds_end (hc1)] at h; exact h)) rfl ?_
    refine r_assign (ty := Ty.yb true (hJ (k + 1)) hJx) rfl ?_
    refine r_nil ?_
    refine i_then ?_
    refine t_ret ?_
    refine i_then_ret ?_
    exact i_retY (h1 := hJ _) (hx := hJx) z0 wf0 hh0 rfl rfl rfl rfl (Ty.sub_yb (h1 := hJ (k + 1)) (congrArg J (by rw [rounds_end hc1]; rfl)))
  ·
    refine t_skip ?_
    refine i_then ?_
    refine t_seq ?_
    refine t_seq ?_
    obtain ⟨hne1, hne2⟩ := not_end (b := d.b) (l := l) (lot := lot) (g := gg) (hc1) hlot
    refine t_region ?_
    refine r_load_pp rfl rfl rfl rfl ?_
    refine r_nilCheck_pe rfl ?_
    refine r_field_pe rfl rfl rfl rfl rfl (by decide) ?_
    refine r_field_pe rfl rfl rfl rfl rfl (by decide) ?_
    refine r_load_pe rfl rfl rfl rfl ?_
    refine r_len rfl rfl rfl ?_
    refine mvI rfl ?_
    refine r_nil ?_
    refine i_then ?_
    refine t_block ?_
    refine t_loop (fun (q : {q : Nat // q ≤ d.b.sizes.length}) => live [(0, Ty.sl TurE l), (1, Ty.int .i64 (lot : Nat)), (2, Ty.pp [Ty.pe DeskE d 0]), (3, Ty.pp [Ty.int .i64 gg]), (4, Ty.pp [Ty.ex (yv li)]), (5, Ty.pp (plT p)), (6, Ty.ptr 1000 0), (33, Ty.int .i64 d.b.sizes.length), (34, Ty.int .i64 (q.1 : Nat))] [(7000, Cont.ck (hJ (k + (roundUp d.b p gg l lot q.1).length))), (1000, Cont.cells 170 [Ty.ex (.func (.func 136) #[] (cs0 ++ [gp g]).toArray)]), (1001, Cont.me g 170 (.func (.func 136) #[] (cs0 ++ [gp g]).toArray) (moreCaps d gg p li) cs0 rfl rfl), (5000, Cont.snap w0 (oldB Mc g))]) (fun q => d.b.sizes.length - q.1) (⟨0, by omega⟩) ?_ fun q => ?_
    · (refine Ent.mk' ?_ ?_ <;> (repeat' (first | exact allSub_zero | exact allTags_nil | refine allSub_succ' ?_ (Ty.sub_any _) | refine allSub_succ' ?_ (Ty.sub_refl _) | refine allTags_cons rfl (Cont.sub_refl _) ?_)))
    ·
      refine t_seq ?_
      refine t_region ?_
      refine r_bin rfl rfl rfl ?_
      refine r_nil ?_
      refine i_then ?_
      refine t_seq ?_
      refine t_cond_dec rfl (fun hc2 => ?_) (fun hc2 => ?_)
      ·
        refine t_skip ?_
        refine i_then ?_
        refine t_seq ?_
        refine t_block ?_
        refine t_seq ?_
        refine t_region ?_
        refine mvI rfl ?_
        refine r_alloc rfl (by exact List.cons_ne_nil _ _) rfl ?_
        refine r_store1 rfl rfl (by decide) rfl rfl (by exact (rfl : _ = Ty.int _ _)) rfl (by exact Nat.le_of_ble_eq_true rfl) rfl rfl (by exact (rfl : _ = [_])) ?_
        refine r_nil ?_
        refine i_then ?_
        refine t_seq ?_
        refine t_seq ?_
        refine t_pub (tg := 11) [(10, Ty.pp [Ty.int .i64 (q.1 : Nat)])] (by decide) rfl ⟨pub_ptr (T := 3) (tg := 11) (off := 0) (l := [Ty.int .i64 (q.1 : Nat)]) rfl rfl rfl (by decide), trivial⟩ ?_
        refine t_draw mixed rfl ?_
        refine r_load_pp rfl rfl rfl rfl ?_
        refine r_load_ppN rfl rfl rfl (by exact Nat.le_of_ble_eq_true rfl) ?_
        refine r_load_pp rfl rfl rfl rfl ?_
        refine r_call (c_taken d h6 p (q.1 : Nat)) rfl rfl rfl rfl rfl ?_
        refine mvB rfl ?_
        apply r_guard (s := 41) rfl rfl rfl
        · intro hg; apply opT_of; (refine r_load_pp rfl rfl rfl rfl ?_); refine r_nil ?_; exact rfl
        · exact rfl
        · exact rfl
        apply r_guard (s := 41) rfl rfl rfl
        · intro hg; apply opT_strip (s := 42) rfl (by (rw [hg]; rfl)); apply opT_of; (refine r_nilCheck_pe rfl ?_); refine r_nil ?_; exact rfl
        · exact rfl
        · exact rfl
        apply r_guard (s := 41) rfl rfl rfl
        · intro hg; apply opT_strip (s := 43) rfl (by (rw [hg]; rfl)); apply opT_of; (refine r_field_pe rfl rfl rfl rfl rfl (by decide) ?_); refine r_nil ?_; exact rfl
        · exact rfl
        · exact rfl
        apply r_guard (s := 41) rfl rfl rfl
        · intro hg; apply opT_strip (s := 44) rfl (by (rw [hg]; rfl)); apply opT_of; (refine r_load_peN rfl rfl rfl rfl rfl ?_); refine r_nil ?_; exact rfl
        · exact rfl
        · exact rfl
        apply r_guard (s := 41) rfl rfl rfl
        · intro hg; apply opT_of; (refine r_load_pp rfl rfl rfl rfl ?_); refine r_nil ?_; exact rfl
        · exact rfl
        · exact rfl
        apply r_guard (s := 41) rfl rfl rfl
        · intro hg; apply opT_of; (refine mvI rfl ?_); refine r_nil ?_; exact rfl
        · exact rfl
        · exact rfl
        apply r_guard (s := 41) rfl rfl rfl
        · intro hg; apply opT_strip (s := 45) rfl (by (rw [hg]; rfl)); apply opT_strip (s := 46) rfl (by (rw [hg]; rfl)); apply opT_strip (s := 47) rfl (by (rw [hg]; rfl)); apply opT_of; (refine r_call (c_holds d.b (q.1 : Nat) (lot : Nat) ⟨by omega, by omega⟩ ⟨by omega, by omega⟩) rfl rfl rfl rfl rfl ?_); refine r_nil ?_; exact rfl
        · exact rfl
        · exact rfl
        apply r_guard (s := 41) rfl rfl rfl
        · intro hg; apply opT_strip (s := 48) rfl (by (rw [hg]; rfl)); apply opT_of; (refine r_not rfl ?_); refine r_nil ?_; exact rfl
        · exact rfl
        · exact rfl
        refine r_or rfl rfl ?_
        refine mvB rfl ?_
        apply r_guard (s := 51) rfl rfl rfl
        · intro hg; apply opT_of; (refine mvS rfl ?_); refine r_nil ?_; exact rfl
        · exact rfl
        · exact rfl
        apply r_guard (s := 51) rfl rfl rfl
        · intro hg; apply opT_of; (refine r_makeFunc rfl ?_); refine r_nil ?_; exact rfl
        · exact rfl
        · exact rfl
        apply r_guard (s := 51) rfl rfl rfl
        · intro hg; apply opT_strip (s := 52) rfl (by (rw [hg]; rfl)); apply opT_strip (s := 53) rfl (by (rw [hg]; rfl)); apply opT_of; (refine r_call (c_ContainsFunc_tur l (Ty.clo 139 [Ty.pp [Ty.int .i64 (q.1 : Nat)]]) rfl (fun t => decide (t.aim = ((q.1 : Nat) : Int))) rfl rfl fun x _ => cal_clo (c_more1 x (q.1 : Nat)) rfl rfl rfl rfl rfl rfl) rfl rfl rfl rfl rfl ?_); refine r_nil ?_; exact rfl
        · exact rfl
        · exact rfl
        refine r_or rfl rfl ?_
        refine r_nil ?_
        refine ⟨by kernel_rfl, ?_⟩
        refine i_then ?_
        refine t_cond rfl (fun hc3 => ?_) (fun hc3 => ?_)
        ·
          refine t_exit ?_
          refine i_then_exit ?_
          refine i_block_exit rfl ?_
          refine i_then ?_
          refine t_region ?_
          refine r_add rfl rfl (by omega) (by omega) ?_
          refine mvI rfl ?_
          refine r_nil ?_
          refine i_round (⟨q.1 + 1, by omega⟩) ?_ (by show d.b.sizes.length - (q.1 + 1) < d.b.sizes.length - q.1; omega)
          (refine Ent.mk' ?_ ?_ <;> (repeat' (first | exact allSub_zero | exact allTags_nil | refine allSub_succ' ?_ (Ty.sub_any _) | refine allSub_succ' ?_ (Ty.sub_refl _) | refine allTags_cons rfl (Cont.sub_refl _) ?_ | refine allTags_cons rfl ?_ ?_)))
          all_goals skip
          all_goals exact Cont.sub_ck hJ (by rw [roundUp_succ, roundK_no hc3, List.append_nil])
        ·
          refine t_skip ?_
          refine i_then ?_
          refine t_seq ?_
          have hsk : skipR d.b p l q.1 lot = false := hc3
          have hpk := pre_round (n := q.1) hne1 hne2 hp (by omega)
          rw [roundK_yes hsk] at hpk
          refine t_draw mixed rfl ?_
          refine r_load_ptr rfl rfl (by decide) rfl rfl rfl ?_
          refine mvS rfl ?_
          refine r_callG [(59, 6)] [59] [] (k_Clone_tur l (by omega)) rfl rfl (by repeat (first | exact cv_nil | refine cv_cons ?_ ?_ | exact cv_pub rfl rfl)) pre_nil post_nil (cv_row (by exact List.mem_cons_self)) ?_
          refine mvI rfl ?_
          refine r_load_pp rfl rfl rfl rfl ?_
          refine r_build rfl rfl (by exact List.cons_ne_nil _ _) rfl (by repeat (first | exact (Parts.nil : Parts _ _ [] _) | (show Parts _ _ ((_, _) :: _) _; apply Parts.one; (· exact (rfl : _ = Ty.int _ _)); (· exact rfl)))) (by exact (rfl : _ = some [_, _])) ?_
          refine r_buildSlice (E := TurE) (xs := [⟨(lot : Int), (q.1 : Nat)⟩]) rfl rfl rfl rfl rfl (by decide) (by decide) (by repeat (first | exact (Parts.nil : Parts _ _ [] _) | (show Parts _ _ ((_, _) :: _) _; apply Parts.agg; (· exact (rfl : _ = Ty.agg _))))) (by exact rfl) rfl ?_
          refine r_append rfl rfl (by decide) rfl rfl rfl rfl rfl rfl (by decide) (by (simp <;> omega)) (by (simp <;> omega)) ?_
          refine mvI rfl ?_
          refine r_add rfl rfl (by omega) (by omega) ?_
          refine r_callY [59] (hJ (k + (roundUp d.b p gg l lot q.1).length)) (hJ _) hJx (ih hne1 (l ++ [⟨(lot : Int), (q.1 : Nat)⟩]) (k + (roundUp d.b p gg l lot q.1).length) (by simp; omega) hpk) rfl rfl (by repeat (first | exact lends_nil | refine lends_cons (lend_pub rfl rfl) ?_ | refine lends_cons (lend_row rfl) ?_)) rfl rfl rfl rfl (fun u hu => by rw [List.mem_singleton.1 hu]; exact ⟨by decide, by simp⟩) rfl rfl ?_
          refine r_notY (h1 := hJ _) (hx := hJx) rfl ?_
          refine r_nil ?_
          refine ⟨by kernel_rfl, ?_⟩
          refine i_then ?_
          refine t_condY (h1 := hJ _) (hx := hJx) rfl ?_ ?_
          ·
            refine t_seq ?_
            refine t_region ?_
            refine asB rfl ?_
            refine r_nil ?_
            refine i_then ?_
            refine t_ret ?_
            refine i_block_ret ?_
            refine i_then_ret ?_
            refine i_then_ret ?_
            refine i_block_ret ?_
            refine i_then_ret ?_
            exact i_retYx (hx := hJx) z0 wf0 hh0 rfl rfl rfl rfl rfl rfl
          ·
            refine t_skip ?_
            refine i_block ?_
            refine i_then ?_
            refine t_region ?_
            refine r_add rfl rfl (by omega) (by omega) ?_
            refine mvI rfl ?_
            refine r_nil ?_
            refine i_round (⟨q.1 + 1, by omega⟩) ?_ (by show d.b.sizes.length - (q.1 + 1) < d.b.sizes.length - q.1; omega)
            (refine Ent.mk' ?_ ?_ <;> (repeat' (first | exact allSub_zero | exact allTags_nil | refine allSub_succ' ?_ (Ty.sub_any _) | refine allSub_succ' ?_ (Ty.sub_refl _) | refine allTags_cons rfl (Cont.sub_refl _) ?_ | refine allTags_cons rfl ?_ ?_)))
            all_goals skip
            all_goals exact Cont.sub_ck hJ (by rw [roundUp_succ, roundK_yes hsk, List.length_append]; omega)
      ·
        refine t_exit ?_
        refine i_then_exit ?_
        refine i_then_exit ?_
        refine i_block_exit rfl ?_
        refine i_then ?_
        refine t_seq ?_
        refine t_region ?_
        refine r_load_ptr rfl rfl (by decide) rfl rfl rfl ?_
        refine mvS rfl ?_
        refine mvI rfl ?_
        refine r_add rfl rfl (by omega) (by omega) ?_
        refine r_callY [] (hJ (k + (roundUp d.b p gg l lot q.1).length)) (hJ _) hJx (ih hne1 l (k + (roundUp d.b p gg l lot q.1).length) (by omega) (by rw [show q.1 = d.b.sizes.length by have := q.2; omega]; exact pre_last hne1 hne2 hp)) rfl rfl (by repeat (first | exact lends_nil | refine lends_cons (lend_pub rfl rfl) ?_)) rfl rfl rfl rfl (fun u hu => by cases hu) rfl rfl ?_
        refine r_assign (ty := Ty.yb true (hJ _) hJx) rfl ?_
        refine r_nil ?_
        refine i_then ?_
        refine t_ret ?_
        exact i_retY (h1 := hJ _) (hx := hJx) z0 wf0 hh0 rfl rfl rfl rfl (Ty.sub_yb (h1 := hJ (k + (roundUp d.b p gg l lot q.1).length + (roundsW d.b p gg l (lot + 1)).length)) (congrArg J (by rw [rounds_on hne1 hne2, List.length_append, show q.1 = d.b.sizes.length by have := q.2; omega]; omega)))
theorem c_more (d : Desk) (hs : d.b.Small) (h6 : d.b.lots.length ≤ 6) (gg : Int) (p : Pl) (R : List (List Tur)) (li : Nat) (J : Nat → World → Tags → Prop) (Jx : World → Tags → Prop) (hJ : ∀ k, Cb (J k)) (hJx : Cb Jx) (hY : Yld Try.prog li (R.map rndEnc) J Jx) : ∀ (m lot : Nat) (lz : Int) (l : List Tur) (k : Nat), lot + m = d.b.lots.length → lz = (lot : Int) → l.length ≤ lot → roundsW d.b p gg l lot <+: R.drop k →
    MoreY Try.prog 136 170 (moreCaps d gg p li) [Ty.sl TurE l, Ty.int .i64 lz] (J k) (J (k + (roundsW d.b p gg l lot).length)) Jx
  | 0, lot, lz, l, k, hm, hlz, hl, hp => c_moreS d hs h6 gg p R li J Jx hJ hJx hY l lot lz hlz k (by omega) hl hp (fun h => by omega)
  | m + 1, lot, lz, l, k, hm, hlz, hl, hp => c_moreS d hs h6 gg p R li J Jx hJ hJx hY l lot lz hlz k (by omega) hl hp (fun _ l' k' hl' hp' => c_more d hs h6 gg p R li J Jx hJ hJx hY m (lot + 1) (lz + 1) l' k' (by omega) (by omega) hl' hp')
set_option maxRecDepth 100000 in
theorem c_rounds1 (d : Desk) (hs : d.b.Small) (h6 : d.b.lots.length ≤ 6) (gg : Int) (p : Pl) : CtrI Try.prog 135 (fun l => [Ty.ex (yv l), Ty.pp [Ty.pe DeskE d 0], Ty.pp [Ty.int .i64 gg], Ty.pp (plT p)]) ((allR d.b p gg).map rndEnc) (Ty.tup []) (Ty.tup []) := by
  refine fnYI_intro Try.func135 rfl (by decide) Try.ntmps135 (fun _ => by exact Nat.le_of_ble_eq_true rfl) (fun _ => ⟨rfl, rfl⟩) fun l J Jx hJ hJx hY w0 M0 => ?_
  refine t_seq ?_
  refine t_region ?_
  refine r_box_one (by exact (rfl : _ = Ty.ex _)) rfl ?_
  refine r_nil ?_
  refine i_then ?_
  refine t_seq ?_
  refine t_region ?_
  refine r_alloc rfl (by exact List.cons_ne_nil _ _) rfl ?_
  refine r_nil ?_
  refine i_then ?_
  refine t_seq ?_
  refine t_region ?_
  refine r_makeFunc rfl ?_
  refine r_store1 rfl rfl (by decide) rfl rfl (by exact (rfl : _ = Ty.clo _ _)) rfl (by exact Nat.le_of_ble_eq_true rfl) rfl rfl (by exact (rfl : _ = [_])) ?_
  refine r_nil ?_
  refine i_then ?_
  refine t_region ?_
  refine r_load_ptr rfl rfl (by decide) rfl rfl rfl ?_
  refine r_callY0 (tg := 6) (hJ 0) (hJ _) hJx (c_more d hs h6 gg p (allR d.b p gg) l J Jx hJ hJx hY d.b.lots.length 0 0 [] 0 (by omega) rfl (Nat.le_refl _) (List.prefix_rfl)) rfl rfl rfl rfl (by repeat (first | exact lends_nil | refine lends_cons (lend_pub rfl rfl) ?_ | refine lends_cons lend_nil ?_)) rfl rfl rfl (by decide) rfl ?_
  refine r_nil ?_
  exact i_retYI (h1 := hJ _) (hx := hJx) rfl (s := 8) rfl (by rw [List.length_map, Nat.zero_add]; rfl)
set_option maxRecDepth 100000 in
theorem c_rounds (d : Desk) (p : Pl) (gg : Int) : Ctr Try.prog 112 [Ty.pe DeskE d 0, Ty.agg (plT p), Ty.int .i64 gg] (Ty.clo 135 [Ty.pp [Ty.pe DeskE d 0], Ty.pp [Ty.int .i64 gg], Ty.pp (plT p)]) := by
  refine fn_intro Try.func112 rfl (by decide) Try.ntmps112 (by exact Nat.le_of_ble_eq_true rfl) fun w0 M0 => ?_
  refine t_seq ?_
  refine t_region ?_
  refine r_box_one (by exact (rfl : _ = Ty.pe _ _ _)) rfl ?_
  refine r_box_agg rfl ?_
  refine r_box_one (by exact (rfl : _ = Ty.int _ _)) rfl ?_
  refine asX rfl ?_
  refine r_nil ?_
  refine i_then ?_
  refine t_seq ?_
  refine t_region ?_
  refine r_makeFunc rfl ?_
  refine asF rfl ?_
  refine r_nil ?_
  refine i_then ?_
  refine t_ret ?_
  refine i_rp1 rfl rfl ?_
  all_goals exact ret_refl rfl rfl
  skip
end Go.Proofs.Ytpnndljmhpepgaa

namespace Go.Proofs.Ytpnndljmhpepgaa
open Go Go.T
def OkT (b : Barn) (p : Pl) (t : Tur) : Prop := (0 ≤ t.lot ∧ t.lot < b.lots.length) ∧ (0 ≤ t.aim ∧ t.aim < b.sizes.length) ∧ takenP b p t.aim = false ∧ b.hold t.aim t.lot = true
structure RoundOk (b : Barn) (p : Pl) (g : Int) (l : List Tur) : Prop where
  len : (l.length : Int) ≤ g
  ok : ∀ t ∈ l, OkT b p t
  apart : l.Pairwise fun s t => s.lot < t.lot ∧ s.aim ≠ t.aim
theorem skip_no {b : Barn} {p : Pl} {l : List Tur} {k lot : Nat} : skipR b p l k lot = false ↔ (takenP b p k = false ∧ b.hold k lot = true) ∧ ∀ t ∈ l, t.aim ≠ (k : Int) := by
  unfold skipR
  simp only [Bool.or_eq_false_iff, Bool.not_eq_false', List.any_eq_false, decide_eq_true_eq]
theorem mem_rounds {b : Barn} {p : Pl} {g : Int} : ∀ (m lot : Nat) (l0 l : List Tur), lot + m = b.lots.length → RoundOk b p g l0 → (∀ t ∈ l0, t.lot < lot) →
    (l ∈ roundsW b p g l0 lot ↔ ∃ r, l = l0 ++ r ∧ RoundOk b p g l ∧ ∀ t ∈ r, (lot : Int) ≤ t.lot)
  | 0, lot, l0, l, hm, h0, hl0 => by
    rw [rounds_end (by rw [decide_eq_true (show (lot : Int) = b.lots.length by omega)]; rfl), List.mem_singleton]
    constructor
    · rintro rfl; exact ⟨[], (List.append_nil _).symm, h0, fun t h => by cases h⟩
    · rintro ⟨r, rfl, h1, h2⟩
      cases r with
      | nil => exact List.append_nil _
      | cons t r =>
        have := h1.ok t (List.mem_append.2 (.inr List.mem_cons_self))
        have := h2 t List.mem_cons_self
        have := this; have := ‹OkT b p t›.1; omega
  | m + 1, lot, l0, l, hm, h0, hl0 => by
    by_cases hg : (l0.length : Int) = g
    · rw [rounds_end (by rw [decide_eq_true hg, Bool.or_true]), List.mem_singleton]
      constructor
      · rintro rfl; exact ⟨[], (List.append_nil _).symm, h0, fun t h => by cases h⟩
      · rintro ⟨r, rfl, h1, h2⟩
        have := h1.len
        rw [List.length_append] at this
        have : r = [] := List.length_eq_zero_iff.1 (by omega)
        rw [this, List.append_nil]
    · have hlen := h0.len
      rw [rounds_on (by omega) hg, List.mem_append, mem_rounds m (lot + 1) l0 l (by omega) h0 (fun t ht => by have := hl0 t ht; omega)]
      unfold roundUp
      rw [List.mem_flatMap]
      constructor
      · rintro (⟨k, hk, h⟩ | ⟨r, h1, h2, h3⟩)
        · rw [List.mem_range] at hk
          cases hs : skipR b p l0 k lot with
          | true => rw [roundK_no hs] at h; cases h
          | false =>
            rw [roundK_yes hs] at h
            obtain ⟨⟨e1, e2⟩, e3⟩ := skip_no.1 hs
            have hok : RoundOk b p g (l0 ++ [⟨lot, k⟩]) := by
              refine ⟨by rw [List.length_append]; simp; omega, fun t ht => ?_, ?_⟩
              · rcases List.mem_append.1 ht with ht | ht
                · exact h0.ok t ht
                · rw [List.mem_singleton.1 ht]
                  exact ⟨⟨by show 0 ≤ (lot : Int); omega, by show (lot : Int) < _; omega⟩, ⟨by show 0 ≤ (k : Int); omega, by show (k : Int) < _; omega⟩, e1, e2⟩
              · rw [List.pairwise_append]
                refine ⟨h0.apart, List.pairwise_singleton _ _, fun s hs t ht => ?_⟩
                rw [List.mem_singleton.1 ht]
                exact ⟨hl0 s hs, e3 s hs⟩
            obtain ⟨r, f1, f2, f3⟩ := (mem_rounds m (lot + 1) (l0 ++ [⟨lot, k⟩]) l (by omega) hok (fun t ht => by
              rcases List.mem_append.1 ht with ht | ht
              · have := hl0 t ht; omega
              · rw [List.mem_singleton.1 ht]; show (lot : Int) < _; omega)).1 h
            refine ⟨⟨lot, k⟩ :: r, by rw [f1, List.append_assoc]; rfl, f2, fun t ht => ?_⟩
            rcases List.mem_cons.1 ht with rfl | ht
            · exact Int.le_refl _
            · have := f3 t ht; omega
        · exact ⟨r, h1, h2, fun t ht => by have := h3 t ht; omega⟩
      · rintro ⟨r, h1, h2, h3⟩
        cases r with
        | nil => exact .inr ⟨[], h1, h2, fun t ht => by cases ht⟩
        | cons t r =>
          subst h1
          have ht := h2.ok t (List.mem_append.2 (.inr List.mem_cons_self))
          have hge := h3 t List.mem_cons_self
          have hap := h2.apart
          rw [List.pairwise_append, List.pairwise_cons] at hap
          obtain ⟨a1, ⟨a2, a3⟩, a4⟩ := hap
          by_cases e : t.lot = lot
          · refine .inl ⟨t.aim.toNat, List.mem_range.2 (by have := ht.2.1; omega), ?_⟩
            have ek : ((t.aim.toNat : Nat) : Int) = t.aim := by have := ht.2.1; omega
            have ee : (⟨(lot : Int), ((t.aim.toNat : Nat) : Int)⟩ : Tur) = t := by cases t; simp only [Tur.mk.injEq] at *; exact ⟨e.symm, ek⟩
            have hs : skipR b p l0 t.aim.toNat lot = false := skip_no.2 ⟨⟨by rw [ek]; exact ht.2.2.1, by rw [ek, ← e]; exact ht.2.2.2⟩, fun s hs => by rw [ek]; exact (a4 s hs t List.mem_cons_self).2⟩
            rw [roundK_yes hs, ee]
            have hok : RoundOk b p g (l0 ++ [t]) := by
              refine ⟨by have := h2.len; rw [List.length_append, List.length_cons] at this; rw [List.length_append]; simp; omega, fun s hs => h2.ok s ?_, ?_⟩
              · rcases List.mem_append.1 hs with hs | hs
                · exact List.mem_append.2 (.inl hs)
                · exact List.mem_append.2 (.inr (by rw [List.mem_singleton.1 hs]; exact List.mem_cons_self))
              · rw [List.pairwise_append]
                exact ⟨h0.apart, List.pairwise_singleton _ _, fun s hs u hu => by rw [List.mem_singleton.1 hu]; exact a4 s hs t List.mem_cons_self⟩
            refine (mem_rounds m (lot + 1) (l0 ++ [t]) _ (by omega) hok (fun s hs => ?_)).2 ⟨r, by rw [List.append_assoc]; rfl, h2, fun s hs => ?_⟩
            · rcases List.mem_append.1 hs with hs | hs
              · have := hl0 s hs; omega
              · rw [List.mem_singleton.1 hs, e]; omega
            · have := (a2 s hs).1; omega
          · refine .inr ⟨t :: r, rfl, h2, fun s hs => ?_⟩
            rcases List.mem_cons.1 hs with rfl | hs
            · omega
            · have := (a2 s hs).1; omega
theorem mem_allR {b : Barn} {p : Pl} {g : Int} (hg : 0 ≤ g) {l : List Tur} : l ∈ allR b p g ↔ RoundOk b p g l := by
  unfold allR
  rw [mem_rounds b.lots.length 0 [] l (by omega) ⟨by simp; exact hg, (fun t h => by cases h), List.Pairwise.nil⟩ (fun t h => by cases h)]
  constructor
  · rintro ⟨r, _, h, _⟩; exact h
  · intro h; exact ⟨l, rfl, h, fun t ht => by have := (h.ok t ht).1.1; omega⟩
def movedAll (p : Pl) (l : List Tur) : Pl := l.foldl moved p
theorem movedAll_snoc (p : Pl) (l : List Tur) (t : Tur) : movedAll p (l ++ [t]) = moved (movedAll p l) t := by unfold movedAll; rw [List.foldl_append]; rfl
theorem moved_nth {p : Pl} {t : Tur} {i : Nat} (h : i < 6) : nth (moved p t).1 i = if t.lot.toNat = i then t.aim else nth p.1 i := nthA_set (by rw [p.2]; exact h)
theorem all_nth {b : Barn} {p : Pl} {g : Int} : ∀ (l : List Tur), RoundOk b p g l → ∀ i, i < 6 → nth (movedAll p l).1 i = nth p.1 i ∨ ∃ t ∈ l, nth (movedAll p l).1 i = t.aim := by
  refine snoc_ind (fun _ i _ => .inl rfl) fun l t ih h i hi => ?_
  rw [movedAll_snoc, moved_nth hi]
  by_cases e : t.lot.toNat = i
  · rw [if_pos e]; exact .inr ⟨t, List.mem_append.2 (.inr (List.mem_singleton.2 rfl)), rfl⟩
  · rw [if_neg e]
    have hl : RoundOk b p g l := ⟨by have := h.len; rw [List.length_append] at this; simp at this; omega, fun s hs => h.ok s (List.mem_append.2 (.inl hs)), (List.pairwise_append.1 h.apart).1⟩
    rcases ih hl i hi with h1 | ⟨s, hs, h1⟩
    · exact .inl h1
    · exact .inr ⟨s, List.mem_append.2 (.inl hs), h1⟩
theorem round_go {b : Barn} {p : Pl} {g : Int} (h6 : b.lots.length ≤ 6) : ∀ (l : List Tur), RoundOk b p g l → goP b p l = some (movedAll p l) := by
  refine snoc_ind (fun _ => rfl) fun l t ih h => ?_
  have hl : RoundOk b p g l := ⟨by have := h.len; rw [List.length_append] at this; simp at this; omega, fun s hs => h.ok s (List.mem_append.2 (.inl hs)), (List.pairwise_append.1 h.apart).1⟩
  have ht := h.ok t (List.mem_append.2 (.inr (List.mem_singleton.2 rfl)))
  have hap := (List.pairwise_append.1 h.apart).2.2
  rw [movedAll_snoc]
  refine goP_snoc (ih hl) (mem_turnsL.2 ⟨ht.1.1, ht.1.2, ht.2.1.1, ht.2.1.2, ?_, ht.2.2.2⟩)
  rw [Bool.eq_false_iff]
  intro hc
  obtain ⟨i, hi, e⟩ := (taken_iff h6).1 hc
  rcases all_nth l hl i (by omega) with h1 | ⟨s, hs, h1⟩
  · have := (taken_iff h6).2 ⟨i, hi, h1.symm.trans e⟩
    rw [ht.2.2.1] at this; cases this
  · exact (hap s hs t (List.mem_singleton.2 rfl)).2 (h1.symm.trans e)
def goR (b : Barn) (g : Int) : Pl → List (List Tur) → Option Pl
  | p, [] => some p
  | p, l :: rs => if l ∈ allR b p g then goR b g (movedAll p l) rs else none
theorem goR_append (b : Barn) (g : Int) : ∀ (rs : List (List Tur)) (p : Pl) (rs' : List (List Tur)), goR b g p (rs ++ rs') = (goR b g p rs).bind fun q => goR b g q rs'
  | [], p, rs' => rfl
  | l :: rs, p, rs' => by
    show (if l ∈ allR b p g then goR b g (movedAll p l) (rs ++ rs') else none) = Option.bind (if l ∈ allR b p g then goR b g (movedAll p l) rs else none) _
    by_cases h : l ∈ allR b p g
    · rw [if_pos h, if_pos h, goR_append b g rs (movedAll p l) rs']
    · rw [if_neg h, if_neg h]; rfl
theorem goR_one {b : Barn} {g : Int} {p : Pl} {l : List Tur} (h : l ∈ allR b p g) : goR b g p [l] = some (movedAll p l) := if_pos h
theorem goR_snoc {b : Barn} {g : Int} {p q : Pl} {rs : List (List Tur)} {l : List Tur} (h1 : goR b g p rs = some q) (h2 : l ∈ allR b q g) : goR b g p (rs ++ [l]) = some (movedAll q l) := by
  rw [goR_append, h1]; exact goR_one h2
theorem goR_snoc_inv {b : Barn} {g : Int} {p r : Pl} {rs : List (List Tur)} {l : List Tur} (h : goR b g p (rs ++ [l]) = some r) : ∃ q, goR b g p rs = some q ∧ l ∈ allR b q g ∧ r = movedAll q l := by
  rw [goR_append] at h
  cases h1 : goR b g p rs with
  | none => rw [h1] at h; cases h
  | some q =>
    rw [h1] at h
    have h : (if l ∈ allR b q g then some (movedAll q l) else none) = some r := h
    by_cases h2 : l ∈ allR b q g
    · rw [if_pos h2] at h; injection h with h; exact ⟨q, rfl, h2, h.symm⟩
    · rw [if_neg h2] at h; cases h
structure RSt where
  ways : List (Pl × Way)
  queue : List Pl
def relaxR (p : Pl) (x : RSt) (l : List Tur) : RSt := if (mget x.ways (movedAll p l)).isSome = true then x else ⟨mput x.ways (movedAll p l) ⟨p, l, 0⟩, x.queue ++ [movedAll p l]⟩
theorem relaxR_yes {p : Pl} {x : RSt} {l : List Tur} (h : (mget x.ways (movedAll p l)).isSome = true) : relaxR p x l = x := if_pos h
theorem relaxR_no {p : Pl} {x : RSt} {l : List Tur} (h : (mget x.ways (movedAll p l)).isSome = false) : relaxR p x l = ⟨mput x.ways (movedAll p l) ⟨p, l, 0⟩, x.queue ++ [movedAll p l]⟩ := if_neg (by rw [h]; decide)
structure RInv (b : Barn) (g : Int) (dep : Pl → Nat) (D : Nat) (cur : Option (Pl × List (List Tur))) (x : RSt) : Prop where
  start : mget x.ways (firstP b) = some way0
  dep0 : dep (firstP b) = 0
  keys : (x.ways.map Prod.fst).Nodup
  via : ∀ q w, mget x.ways q = some w → q = firstP b ∨ (w.byT ∈ allR b w.frm g ∧ q = movedAll w.frm w.byT ∧ (∃ w', mget x.ways w.frm = some w') ∧ dep q = dep w.frm + 1)
  depl : ∀ q w, mget x.ways q = some w → dep q < x.ways.length
  bins : ∀ q w, mget x.ways q = some w → inBins q
  qin : ∀ q ∈ x.queue, (∃ w, mget x.ways q = some w) ∧ D ≤ dep q ∧ dep q ≤ D + 1
  srt : x.queue.Pairwise fun s t => dep s ≤ dep t
  old : ∀ q w, mget x.ways q = some w → q ∈ x.queue ∨ (dep q ≤ D ∧ madeP b q = false ∧ ((∃ ls, cur = some (q, ls)) ∨ ∀ l ∈ allR b q g, (∃ w', mget x.ways (movedAll q l) = some w') ∧ dep (movedAll q l) ≤ dep q + 1))
  curs : ∀ p ls, cur = some (p, ls) → (∃ w, mget x.ways p = some w) ∧ dep p = D ∧ ∀ l ∈ ls, (∃ w', mget x.ways (movedAll p l) = some w') ∧ dep (movedAll p l) ≤ dep p + 1
def setDep (dep : Pl → Nat) (q : Pl) (n : Nat) : Pl → Nat := fun r => if r = q then n else dep r
variable {b : Barn} {g : Int} {dep : Pl → Nat} {D : Nat} {x : RSt} {p : Pl}
theorem relaxR_inv (hr : b.Right) (hg : 0 ≤ g) {ls : List (List Tur)} {l : List Tur} (h : RInv b g dep D (some (p, ls)) x) (hl : l ∈ allR b p g) : ∃ dep', RInv b g dep' D (some (p, ls ++ [l])) (relaxR p x l) := by
  obtain ⟨⟨wp, hwp⟩, hpD, hps⟩ := h.curs p ls rfl
  cases hm : (mget x.ways (movedAll p l)).isSome with
  | true =>
    rw [relaxR_yes hm]
    obtain ⟨w0, hw0⟩ := Option.isSome_iff_exists.1 hm
    refine ⟨dep, { h with old := fun q w hq => ?_, curs := fun p' ls' e => ?_ }⟩
    · rcases h.old q w hq with h1 | ⟨h1, h2, h3⟩
      · exact .inl h1
      · refine .inr ⟨h1, h2, ?_⟩
        rcases h3 with ⟨ls', e⟩ | h3
        · injection e with e; injection e with e1 e2; exact .inl ⟨_, by rw [e1]⟩
        · exact .inr h3
    · injection e with e; injection e with e1 e2; subst e1; subst e2
      refine ⟨⟨wp, hwp⟩, hpD, fun l' hl' => ?_⟩
      rcases List.mem_append.1 hl' with hl' | hl'
      · exact hps l' hl'
      · rw [List.mem_singleton.1 hl']
        refine ⟨⟨w0, hw0⟩, ?_⟩
        rcases h.old _ w0 hw0 with h1 | ⟨h1, _⟩
        · have := (h.qin _ h1).2.2; omega
        · omega
  | false =>
    rw [relaxR_no hm]
    have hnone : mget x.ways (movedAll p l) = none := by
      cases e : mget x.ways (movedAll p l) with
      | none => rfl
      | some w => rw [e] at hm; cases hm
    have hne : ∀ r w, mget x.ways r = some w → r ≠ movedAll p l := fun r w hw e => by rw [e, hnone] at hw; cases hw
    have hget : ∀ r, mget (mput x.ways (movedAll p l) ⟨p, l, 0⟩) r = if movedAll p l = r then some ⟨p, l, 0⟩ else mget x.ways r := fun r => mget_mput _ _ _ _
    have hold : ∀ r w, mget x.ways r = some w → mget (mput x.ways (movedAll p l) ⟨p, l, 0⟩) r = some w := fun r w hw => by rw [hget, if_neg (fun e => hne r w hw e.symm)]; exact hw
    have hdep : ∀ r w, mget x.ways r = some w → setDep dep (movedAll p l) (D + 1) r = dep r := fun r w hw => if_neg (hne r w hw)
    have hnew : setDep dep (movedAll p l) (D + 1) (movedAll p l) = D + 1 := if_pos rfl
    have hlen : (mput x.ways (movedAll p l) ⟨p, l, 0⟩).length = x.ways.length + 1 := mput_len _ _ _ hnone
    have split : ∀ r w, mget (mput x.ways (movedAll p l) ⟨p, l, 0⟩) r = some w → (r = movedAll p l ∧ w = ⟨p, l, 0⟩) ∨ mget x.ways r = some w := fun r w hw => by
      rw [hget] at hw
      by_cases e : movedAll p l = r
      · rw [if_pos e] at hw; injection hw with hw; exact .inl ⟨e.symm, hw.symm⟩
      · rw [if_neg e] at hw; exact .inr hw
    refine ⟨setDep dep (movedAll p l) (D + 1), hold _ _ h.start, (hdep _ _ h.start).trans h.dep0, mput_nodup _ _ _ h.keys, fun q w hw => ?_, fun q w hw => ?_, fun q w hw => ?_, fun q hq => ?_, ?_, fun q w hw => ?_, fun p' ls' e => ?_⟩
    · rcases split q w hw with ⟨rfl, rfl⟩ | hw
      · exact .inr ⟨hl, rfl, ⟨wp, hold _ _ hwp⟩, by rw [hnew, hdep _ _ hwp, hpD]⟩
      · rcases h.via q w hw with h1 | ⟨h1, h2, ⟨w', h3⟩, h4⟩
        · exact .inl h1
        · exact .inr ⟨h1, h2, ⟨w', hold _ _ h3⟩, by rw [hdep _ _ hw, hdep _ _ h3]; exact h4⟩
    · rw [hlen]
      rcases split q w hw with ⟨rfl, rfl⟩ | hw
      · have := h.depl p wp hwp; rw [hnew]; omega
      · have := h.depl q w hw; rw [hdep _ _ hw]; omega
    · rcases split q w hw with ⟨rfl, rfl⟩ | hw
      · exact goP_bins hr l (h.bins p wp hwp) (round_go hr.lots l ((mem_allR hg).1 hl))
      · exact h.bins q w hw
    · rcases List.mem_append.1 hq with hq | hq
      · obtain ⟨⟨w, hw⟩, h2⟩ := h.qin q hq
        exact ⟨⟨w, hold _ _ hw⟩, by rw [hdep _ _ hw]; exact h2⟩
      · rw [List.mem_singleton.1 hq, hnew]
        exact ⟨⟨_, by rw [hget, if_pos rfl]⟩, by omega, by omega⟩
    · rw [List.pairwise_append]
      refine ⟨h.srt.imp_of_mem fun {s t} hs ht hst => ?_, List.pairwise_singleton _ _, fun s hs t ht => ?_⟩
      · obtain ⟨⟨ws, h1⟩, _⟩ := h.qin s hs
        obtain ⟨⟨wt, h2⟩, _⟩ := h.qin t ht
        rw [hdep _ _ h1, hdep _ _ h2]; exact hst
      · obtain ⟨⟨ws, h1⟩, _, h2⟩ := h.qin s hs
        rw [List.mem_singleton.1 ht, hnew, hdep _ _ h1]; exact h2
    · rcases split q w hw with ⟨rfl, rfl⟩ | hw
      · exact .inl (List.mem_append.2 (.inr (List.mem_singleton.2 rfl)))
      · rcases h.old q w hw with h1 | ⟨h1, h2, h3⟩
        · exact .inl (List.mem_append.2 (.inl h1))
        · refine .inr ⟨by rw [hdep _ _ hw]; exact h1, h2, ?_⟩
          rcases h3 with ⟨ls', e⟩ | h3
          · injection e with e; injection e with e1 e2; exact .inl ⟨_, by rw [e1]⟩
          · refine .inr fun l' hl' => ?_
            obtain ⟨⟨w', h4⟩, h5⟩ := h3 l' hl'
            exact ⟨⟨w', hold _ _ h4⟩, by rw [hdep _ _ h4, hdep _ _ hw]; exact h5⟩
    · injection e with e; injection e with e1 e2; subst e1; subst e2
      refine ⟨⟨wp, hold _ _ hwp⟩, by rw [hdep _ _ hwp]; exact hpD, fun l' hl' => ?_⟩
      rcases List.mem_append.1 hl' with hl' | hl'
      · obtain ⟨⟨w', h4⟩, h5⟩ := hps l' hl'
        exact ⟨⟨w', hold _ _ h4⟩, by rw [hdep _ _ h4, hdep _ _ hwp]; exact h5⟩
      · rw [List.mem_singleton.1 hl', hnew, hdep _ _ hwp]
        exact ⟨⟨_, by rw [hget, if_pos rfl]⟩, by omega⟩
def foldR (b : Barn) (g : Int) (p : Pl) (z : RSt) (k : Nat) : RSt := ((allR b p g).take k).foldl (relaxR p) z
theorem foldR_succ {z : RSt} {k : Nat} (hk : k < (allR b p g).length) : foldR b g p z (k + 1) = relaxR p (foldR b g p z k) (nth (allR b p g) k) := by
  unfold foldR; rw [take_nth hk, List.foldl_append]; rfl
theorem foldR_inv (hr : b.Right) (hg : 0 ≤ g) {z : RSt} (h : RInv b g dep D (some (p, [])) z) : ∀ k, k ≤ (allR b p g).length → ∃ dep', RInv b g dep' D (some (p, (allR b p g).take k)) (foldR b g p z k)
  | 0, _ => ⟨dep, by rw [List.take_zero]; exact h⟩
  | k + 1, hk => by
    obtain ⟨dep', h1⟩ := foldR_inv hr hg h k (by omega)
    rw [foldR_succ (by omega), take_nth (by omega)]
    exact relaxR_inv hr hg h1 (nth_mem (by omega))
theorem popR_inv {rest : List Pl} (h : RInv b g dep D none x) (hq : x.queue = p :: rest) (hm : madeP b p = false) : RInv b g dep (dep p) (some (p, [])) ⟨x.ways, rest⟩ := by
  have hp := h.qin p (by rw [hq]; exact List.mem_cons_self)
  have hs := h.srt
  rw [hq, List.pairwise_cons] at hs
  refine ⟨h.start, h.dep0, h.keys, h.via, h.depl, h.bins, fun q hq' => ?_, hs.2, fun q w hw => ?_, fun p' ls e => ?_⟩
  · have h1 := h.qin q (by rw [hq]; exact List.mem_cons_of_mem _ hq')
    have := hs.1 q hq'
    exact ⟨h1.1, this, by omega⟩
  · rcases h.old q w hw with h1 | ⟨h1, h2, h3⟩
    · rw [hq] at h1
      rcases List.mem_cons.1 h1 with rfl | h1
      · exact .inr ⟨Nat.le_refl _, hm, .inl ⟨[], rfl⟩⟩
      · exact .inl h1
    · refine .inr ⟨by omega, h2, ?_⟩
      rcases h3 with ⟨ls, e⟩ | h3
      · cases e
      · exact .inr h3
  · injection e with e; injection e with e1 e2; subst e1; subst e2
    exact ⟨hp.1, rfl, fun l hl => by cases hl⟩
theorem doneR_inv (h : RInv b g dep D (some (p, allR b p g)) x) : RInv b g dep D none x :=
  { h with
    old := fun q w hw => by
      rcases h.old q w hw with h1 | ⟨h1, h2, h3⟩
      · exact .inl h1
      · refine .inr ⟨h1, h2, .inr ?_⟩
        rcases h3 with ⟨ls, e⟩ | h3
        · injection e with e; injection e with e1 e2; subst e1
          exact (h.curs p _ rfl).2.2
        · exact h3
    curs := fun _ _ e => by cases e }
def rst0 (b : Barn) : RSt := ⟨[(firstP b, way0)], [firstP b]⟩
theorem rinv0 (hr : b.Right) : RInv b g (fun _ => 0) 0 none (rst0 b) := by
  have key : ∀ q w, mget (rst0 b).ways q = some w → q = firstP b := fun q w h => by
    simp only [rst0, mget] at h
    by_cases e : firstP b = q
    · exact e.symm
    · rw [if_neg e] at h; cases h
  refine ⟨by simp [rst0, mget], rfl, by simp [rst0], fun q w h => .inl (key q w h), fun q w h => by simp [rst0], fun q w h => by rw [key q w h]; exact first_bins hr, fun q hq => ?_, by simp [rst0], fun q w h => .inl (by rw [key q w h]; simp [rst0]), fun _ _ e => by cases e⟩
  rw [List.mem_singleton.1 hq]
  exact ⟨⟨way0, by simp [rst0, mget]⟩, Nat.le_refl _, by omega⟩
def stepR (b : Barn) (g : Int) (x : RSt) : RSt ⊕ Found :=
  match x.queue with
  | [] => .inr ⟨x.ways, pl0, false⟩
  | p :: rest => if madeP b p = true then .inr ⟨x.ways, p, true⟩ else .inl (foldR b g p ⟨x.ways, rest⟩ (allR b p g).length)
def runR (b : Barn) (g : Int) : Nat → RSt → Option Found
  | 0, _ => none
  | n + 1, x => match stepR b g x with
    | .inr f => some f
    | .inl y => runR b g n y
def EndsR (b : Barn) (g : Int) (x : RSt) (f : Found) : Prop := ∃ n, runR b g n x = some f
theorem runR_det : ∀ {n m : Nat} {x : RSt} {f f' : Found}, runR b g n x = some f → runR b g m x = some f' → f = f'
  | 0, _, _, _, _, h, _ => by cases h
  | _, 0, _, _, _, _, h => by cases h
  | n + 1, m + 1, x, f, f', h, h' => by
    unfold runR at h h'
    cases e : stepR b g x with
    | inr y => rw [e] at h h'; injection h with h; injection h' with h'; rw [← h, ← h']
    | inl y => rw [e] at h h'; exact runR_det h h'
theorem EndsR.det {f f' : Found} (h : EndsR b g x f) (h' : EndsR b g x f') : f = f' := let ⟨_, h⟩ := h; let ⟨_, h'⟩ := h'; runR_det h h'
theorem EndsR.step {y : RSt} {f : Found} (e : stepR b g x = .inl y) (h : EndsR b g y f) : EndsR b g x f := by
  obtain ⟨n, h⟩ := h
  exact ⟨n + 1, by unfold runR; rw [e]; exact h⟩
theorem EndsR.stop {f : Found} (e : stepR b g x = .inr f) : EndsR b g x f := ⟨1, by unfold runR; rw [e]⟩
open Classical in
noncomputable def roundsM (b : Barn) (g : Int) : Found := if h : ∃ f, EndsR b g (rst0 b) f then h.choose else default
theorem roundsM_eq {f : Found} (h : EndsR b g (rst0 b) f) : roundsM b g = f := by
  unfold roundsM
  rw [dif_pos ⟨f, h⟩]
  exact (Exists.choose_spec (⟨f, h⟩ : ∃ f, EndsR b g (rst0 b) f)).det h
theorem stepR_end (h : x.queue = []) : stepR b g x = .inr ⟨x.ways, pl0, false⟩ := by unfold stepR; rw [h]
theorem stepR_found {rest : List Pl} (hq : x.queue = p :: rest) (hm : madeP b p = true) : stepR b g x = .inr ⟨x.ways, p, true⟩ := by unfold stepR; rw [hq]; exact if_pos hm
theorem stepR_new {rest : List Pl} (hq : x.queue = p :: rest) (hm : madeP b p = false) : stepR b g x = .inl (foldR b g p ⟨x.ways, rest⟩ (allR b p g).length) := by unfold stepR; rw [hq]; exact if_neg (by rw [hm]; decide)
theorem RInv.few {cur : Option (Pl × List (List Tur))} (h : RInv b g dep D cur x) : x.ways.length ≤ placesN := by
  have := few_places h.keys fun p hp => by
    obtain ⟨w, hw⟩ := mem_mget hp
    exact h.bins p w hw
  rwa [List.length_map] at this
noncomputable def muR (x : RSt) : Nat := (placesN - x.ways.length) * 2 + x.queue.length
theorem foldR_len (z : RSt) : ∀ (l : List (List Tur)), (l.foldl (relaxR p) z).ways.length ≥ z.ways.length ∧ (l.foldl (relaxR p) z).queue.length + z.ways.length ≤ z.queue.length + (l.foldl (relaxR p) z).ways.length := by
  intro l
  induction l generalizing z with
  | nil => exact ⟨Nat.le_refl _, Nat.le_refl _⟩
  | cons t l ih =>
    rw [List.foldl_cons]
    obtain ⟨h1, h2⟩ := ih (relaxR p z t)
    cases hm : (mget z.ways (movedAll p t)).isSome with
    | true => rw [relaxR_yes hm] at h1 h2 ⊢; exact ⟨h1, h2⟩
    | false =>
      have hn : mget z.ways (movedAll p t) = none := by
        cases e : mget z.ways (movedAll p t) with
        | none => rfl
        | some w => rw [e] at hm; cases hm
      rw [relaxR_no hm] at h1 h2 ⊢
      have := mput_len z.ways (movedAll p t) ⟨p, t, 0⟩ hn
      simp only [List.length_append, List.length_singleton] at h1 h2
      rw [this] at h1 h2
      exact ⟨by omega, by omega⟩
theorem muR_new {rest : List Pl} {dep' : Pl → Nat} {D' : Nat} {cur' : Option (Pl × List (List Tur))} (hq : x.queue = p :: rest) (h : RInv b g dep' D' cur' (foldR b g p ⟨x.ways, rest⟩ (allR b p g).length)) : muR (foldR b g p ⟨x.ways, rest⟩ (allR b p g).length) < muR x := by
  have h1 := h.few
  have h2 := foldR_len (p := p) ⟨x.ways, rest⟩ ((allR b p g).take (allR b p g).length)
  unfold muR
  rw [hq, List.length_cons]
  have h2 : (foldR b g p ⟨x.ways, rest⟩ (allR b p g).length).ways.length ≥ x.ways.length ∧ (foldR b g p ⟨x.ways, rest⟩ (allR b p g).length).queue.length + x.ways.length ≤ rest.length + (foldR b g p ⟨x.ways, rest⟩ (allR b p g).length).ways.length := h2
  omega
theorem newR_inv (hr : b.Right) (hg : 0 ≤ g) {rest : List Pl} (h : RInv b g dep D none x) (hq : x.queue = p :: rest) (hm : madeP b p = false) : ∃ dep' D', RInv b g dep' D' none (foldR b g p ⟨x.ways, rest⟩ (allR b p g).length) := by
  obtain ⟨dep', h1⟩ := foldR_inv hr hg (popR_inv h hq hm) _ (Nat.le_refl _)
  rw [List.take_length] at h1
  exact ⟨dep', _, doneR_inv h1⟩
structure RSpec (b : Barn) (g : Int) (f : Found) : Prop where
  yes : f.is = true → ∃ L, Chain f.ways (firstP b) f.last L ∧ goR b g (firstP b) L = some f.last ∧ madeP b f.last = true ∧ (L.length ≤ 40000000) ∧ ∀ rs q, goR b g (firstP b) rs = some q → madeP b q = true → L.length ≤ rs.length
  no : f.is = false → ∀ rs q, goR b g (firstP b) rs = some q → madeP b q = false
theorem RInv.near (h : RInv b g dep D none x) (hq : ∀ q ∈ x.queue, D ≤ dep q) : ∀ (rs : List (List Tur)) (q : Pl), goR b g (firstP b) rs = some q → (rs.length ≤ D ∨ x.queue = []) → ∃ w, mget x.ways q = some w ∧ dep q ≤ rs.length := by
  refine snoc_ind (fun q e _ => ?_) fun rs l ih q e hl => ?_
  · injection e with e; subst e; exact ⟨_, h.start, by rw [h.dep0]; exact Nat.zero_le _⟩
  · obtain ⟨r, e1, e2, e3⟩ := goR_snoc_inv e
    rw [List.length_append, List.length_singleton] at hl ⊢
    obtain ⟨w, hw, hd⟩ := ih r e1 (hl.imp (fun h => by omega) id)
    rcases h.old r w hw with h1 | ⟨_, _, h3⟩
    · rcases hl with hl | hl
      · have := hq r h1; omega
      · rw [hl] at h1; cases h1
    · rcases h3 with ⟨ls, e⟩ | h3
      · cases e
      · obtain ⟨⟨w', h4⟩, h5⟩ := h3 l e2
        subst e3; exact ⟨w', h4, by omega⟩
theorem RInv.chain (h : RInv b g dep D none x) : ∀ (n : Nat) (p : Pl) (w : Way), mget x.ways p = some w → dep p ≤ n → ∃ A, Chain x.ways (firstP b) p A ∧ goR b g (firstP b) A = some p ∧ A.length = dep p := by
  intro n
  induction n with
  | zero =>
    intro p w hw hn
    rcases h.via p w hw with e | ⟨_, _, _, h4⟩
    · subst e; exact ⟨[], .nil, rfl, h.dep0.symm⟩
    · omega
  | succ n ih =>
    intro p w hw hn
    by_cases e : p = firstP b
    · subst e; exact ⟨[], .nil, rfl, h.dep0.symm⟩
    rcases h.via p w hw with e' | ⟨h1, h2, ⟨w', h3⟩, h4⟩
    · exact absurd e' e
    · obtain ⟨A, g1, g2, g3⟩ := ih w.frm w' h3 (by omega)
      exact ⟨A ++ [w.byT], .snoc e hw g1, by rw [h2]; exact goR_snoc g2 h1, by rw [List.length_append, g3, h4]; rfl⟩
theorem rspec_end (h : RInv b g dep D none x) (hq : x.queue = []) : RSpec b g ⟨x.ways, pl0, false⟩ := by
  refine ⟨(fun e => by cases e), fun _ rs q e => ?_⟩
  obtain ⟨w, hw, _⟩ := h.near (fun q hq' => by rw [hq] at hq'; cases hq') rs q e (.inr hq)
  rcases h.old q w hw with h1 | ⟨_, h2, _⟩
  · rw [hq] at h1; cases h1
  · exact h2
theorem rspec_found {rest : List Pl} (h : RInv b g dep D none x) (hq : x.queue = p :: rest) (hm : madeP b p = true) : RSpec b g ⟨x.ways, p, true⟩ := by
  obtain ⟨⟨w, hw⟩, h1, h2⟩ := h.qin p (by rw [hq]; exact List.mem_cons_self)
  refine ⟨fun _ => ?_, (fun e => by cases e)⟩
  obtain ⟨A, g1, g2, g3⟩ := h.chain _ p w hw (Nat.le_refl _)
  have hd := h.depl p w hw
  have hf := h.few
  have hN := placesN_eq
  refine ⟨A, g1, g2, hm, by omega, fun rs q e hq' => ?_⟩
  have hs := h.srt
  rw [hq, List.pairwise_cons] at hs
  -- those of the queue are no nearer than p
  have hmin : ∀ r ∈ x.queue, dep p ≤ dep r := fun r hr => by
    rw [hq] at hr
    rcases List.mem_cons.1 hr with rfl | hr
    · exact Nat.le_refl _
    · exact hs.1 r hr
  refine Nat.le_of_not_lt fun hlt => ?_
  have key : ∀ (rs : List (List Tur)) (q : Pl), goR b g (firstP b) rs = some q → rs.length < dep p → (∃ w, mget x.ways q = some w) ∧ dep q ≤ rs.length := by
    refine snoc_ind (fun q e _ => ?_) fun rs l ih q e hl => ?_
    · injection e with e; subst e; exact ⟨⟨_, h.start⟩, by rw [h.dep0]; exact Nat.zero_le _⟩
    · obtain ⟨r, e1, e2, e3⟩ := goR_snoc_inv e
      rw [List.length_append, List.length_singleton] at hl ⊢
      obtain ⟨⟨w, hw⟩, hd⟩ := ih r e1 (by omega)
      rcases h.old r w hw with h1 | ⟨_, _, h3⟩
      · have := hmin r h1; omega
      · rcases h3 with ⟨ls, e⟩ | h3
        · cases e
        · obtain ⟨h4, h5⟩ := h3 l e2
          subst e3; exact ⟨h4, by omega⟩
  obtain ⟨⟨w', hw'⟩, hd'⟩ := key rs q e (by omega)
  rcases h.old q w' hw' with h1 | ⟨_, h2, _⟩
  · have := hmin q h1; omega
  · rw [hq'] at h2; cases h2
theorem rounds_ends (hr : b.Right) (hg : 0 ≤ g) : ∀ (n : Nat) (x : RSt) (dep : Pl → Nat) (D : Nat), muR x < n → RInv b g dep D none x → ∃ f, EndsR b g x f ∧ RSpec b g f := by
  intro n
  induction n with
  | zero => intro x _ _ hx _; omega
  | succ n ih =>
    intro x dep D hx h
    cases hq : x.queue with
    | nil => exact ⟨_, .stop (stepR_end hq), rspec_end h hq⟩
    | cons p rest =>
      cases hm : madeP b p with
      | true => exact ⟨_, .stop (stepR_found hq hm), rspec_found h hq hm⟩
      | false =>
        obtain ⟨dep', D', h'⟩ := newR_inv hr hg h hq hm
        obtain ⟨f, h1, h2⟩ := ih _ dep' D' (by have := muR_new hq h'; omega) h'
        exact ⟨f, h1.step (stepR_new hq hm), h2⟩
theorem rounds_spec (hr : b.Right) (hg : 0 ≤ g) : RSpec b g (roundsM b g) ∧ EndsR b g (rst0 b) (roundsM b g) := by
  obtain ⟨f, h1, h2⟩ := rounds_ends hr hg _ (rst0 b) _ 0 (Nat.lt_succ_self _) (rinv0 hr)
  rw [roundsM_eq h1]; exact ⟨h2, h1⟩
def SameR (b : Barn) (g : Int) (x : RSt) : Prop := ∀ f, EndsR b g x f → roundsM b g = f
theorem sameR0 : SameR b g (rst0 b) := fun _ h => roundsM_eq h
theorem SameR.step {y : RSt} (h : SameR b g x) (e : stepR b g x = .inl y) : SameR b g y := fun f hf => h f (hf.step e)
theorem SameR.stop {f : Found} (h : SameR b g x) (e : stepR b g x = .inr f) : roundsM b g = f := h f (.stop e)
def askE (b : Barn) (g : Int) : Int := if checkB b = 0 then if inB g 1 3 = true then 0 else 3 else checkB b
theorem ask_zero {b : Barn} {g : Int} (h : askE b g = 0) : checkB b = 0 ∧ 1 ≤ g ∧ g ≤ 3 := by
  unfold askE at h
  split at h
  · rename_i h1
    split at h
    · rename_i h2; exact ⟨h1, inB_true.1 h2⟩
    · cases h
  · rename_i h1; exact absurd h h1
theorem ask_3 {b : Barn} {g : Int} (h : (decide (checkB b = 0) && !inB g 1 3) = true) : askE b g = 3 := by
  simp only [Bool.and_eq_true, decide_eq_true_eq, Bool.not_eq_true'] at h
  unfold askE; rw [if_pos h.1, if_neg (by rw [h.2]; decide)]
theorem ask_ok {b : Barn} {g : Int} (h : (decide (checkB b = 0) && !inB g 1 3) = false) : askE b g = checkB b := by
  unfold askE
  split
  · rename_i h1
    rw [decide_eq_true h1, Bool.true_and, Bool.not_eq_false'] at h
    rw [if_pos h, h1]
  · rfl
noncomputable def roundsV (b : Barn) (g : Int) : List (List Tur) := if askE b g = 0 then if (roundsM b g).is = true then chainM (roundsM b g).ways (firstP b) (roundsM b g).last else [] else []
noncomputable def roundsE (b : Barn) (g : Int) : Int := if askE b g = 0 then if (roundsM b g).is = true then 0 else 7 else askE b g
theorem take_moved {p : Pl} {l : List Tur} {j : Nat} (h : j < l.length) : moved (movedAll p (l.take j)) (nth l j) = movedAll p (l.take (j + 1)) := by rw [take_nth h, movedAll_snoc]
def headR (x : RSt) : Pl := nth x.queue 0
def restR (x : RSt) : RSt := ⟨x.ways, x.queue.drop 1⟩
theorem rowR {x : RSt} (h : 0 < x.queue.length) : x.queue = headR x :: x.queue.drop 1 := by
  have := drop_nth h
  rw [List.drop_zero] at this
  exact this
theorem frR_yes {p : Pl} {z : RSt} {k : Nat} (hk : k < (allR b p g).length) (h : (mget (foldR b g p z k).ways (movedAll p (nth (allR b p g) k))).isSome = true) : foldR b g p z k = foldR b g p z (k + 1) := by rw [foldR_succ hk, relaxR_yes h]
theorem frR_no {p : Pl} {z : RSt} {k : Nat} (hk : k < (allR b p g).length) (h : (mget (foldR b g p z k).ways (movedAll p (nth (allR b p g) k))).isSome = false) :
    mput (foldR b g p z k).ways (movedAll p (nth (allR b p g) k)) ⟨p, nth (allR b p g) k, 0⟩ = (foldR b g p z (k + 1)).ways ∧ (foldR b g p z k).queue ++ [movedAll p (nth (allR b p g) k)] = (foldR b g p z (k + 1)).queue := by
  rw [foldR_succ hk, relaxR_no h]; exact ⟨rfl, rfl⟩
structure RIxs (b : Barn) (g : Int) (x : RSt) : Prop where
  inv : ∃ dep D, RInv b g dep D none x
  same : SameR b g x
theorem rixs0 (hr : b.Right) : RIxs b g (rst0 b) := ⟨⟨_, 0, rinv0 hr⟩, sameR0⟩
theorem RIxs.len (h : RIxs b g x) : x.ways.length ≤ placesN := let ⟨_, _, h⟩ := h.inv; h.few
theorem RIxs.next (h : RIxs b g x) (hr : b.Right) (hg : 0 ≤ g) (hq : 0 < x.queue.length) (hm : madeP b (headR x) = false) : RIxs b g (foldR b g (headR x) (restR x) (allR b (headR x) g).length) ∧ muR (foldR b g (headR x) (restR x) (allR b (headR x) g).length) < muR x := by
  obtain ⟨dep, D, h1⟩ := h.inv
  obtain ⟨dep', D', h2⟩ := newR_inv hr hg h1 (rowR hq) hm
  exact ⟨⟨⟨dep', D', h2⟩, h.same.step (stepR_new (rowR hq) hm)⟩, muR_new (rowR hq) h2⟩
theorem foldR_qlen (h : x.queue.length ≤ x.ways.length + 1) (p : Pl) (k : Nat) : (foldR b g p x k).queue.length ≤ (foldR b g p x k).ways.length + 1 := by
  have h2 := foldR_len (p := p) x ((allR b p g).take k)
  have h2 : (foldR b g p x k).ways.length ≥ x.ways.length ∧ (foldR b g p x k).queue.length + x.ways.length ≤ x.queue.length + (foldR b g p x k).ways.length := h2
  omega
theorem foldR_few (h : RIxs b g x) (hr : b.Right) (hg : 0 ≤ g) (hq : 0 < x.queue.length) (hm : madeP b (headR x) = false) {k : Nat} (hk : k ≤ (allR b (headR x) g).length) : (foldR b g (headR x) (restR x) k).ways.length ≤ placesN := by
  obtain ⟨dep, D, h1⟩ := h.inv
  obtain ⟨dep', h2⟩ := foldR_inv hr hg (popR_inv h1 (rowR hq) hm) k hk
  exact h2.few
end Go.Proofs.Ytpnndljmhpepgaa

namespace Go.T
open Go Go.RowKit
section
variable {P : Program} {fr : Fr} {ops : Array Oper} {A : As} {rest : List Oper} {K : As → List (As × Fx) → Prop} {d : Nat} {t ty' : TypeId} {p : String} {e : Array Edge} [T : Tab P]
variable {α : Type} {E : El α} {Tb J : Nat} {xs ys : List α}
theorem r_lenO {x : Operand} {ti : TI} {el : Nat} (hx : A.op fr x = .rowO E Tb J xs) (hT : T.tab[ty']? = some ti) (hk : ti.k = .slice el)
    (h : TOps P fr ops rest (A.set d (.int .i64 (xs.length : Nat))) fun A' l => K A' ((A, { d := some d, ty := .int .i64 (xs.length : Nat), rs := opR x }) :: l)) :
    TOps P fr ops (⟨some d, .call ⟨.builtin .len, #[x], #[ty']⟩, t, p, e, none⟩ :: rest) A K :=
  tops_pure (opT_pure rfl rfl fun a w M _ hr _ => by
    have := op_den (x := x) (fun _ h => h) hr
    rw [hx] at this
    have h1 := this
    obtain ⟨_, D, _, hD, hkd, _⟩ := tab_info hT
    rw [hk] at hkd
    cases D <;> simp only [TK.of, reduceCtorEq, TK.slice.injEq] at hkd
    refine ⟨.int .i64 xs.length, ?_, rfl⟩
    rcases h1 with ⟨hn, ex⟩ | ⟨g, off, c, cur, ex, _⟩
    · simp [execOp, ex, resolve, invoke, builtin, Builtin.len_, run_underlying hD, hn, goInt]
    · simp [execOp, ex, resolve, invoke, builtin, Builtin.len_, run_underlying hD, goInt]) h
theorem r_indexO [Inhabited α] {x y : Operand} {kd : IntKind} {i : Nat} {ti te : TI} {el : Nat} (hx : A.op fr x = .rowO E Tb J xs) (hy : A.op fr y = .int kd i) (hT : T.tab[ty']? = some ti) (hk : ti.k = .slice el) (hE : T.tab[el]? = some te) (hs : te.size = E.size) (hi : i < xs.length)
    (h : TOps P fr ops rest (A.set d (.op J (E.tys (nth xs i)))) fun A' l' => K A' ((A, { d := some d, ty := .op J (E.tys (nth xs i)), rs := opR x ++ opR y }) :: l')) : TOps P fr ops (⟨some d, .indexAddr ty' x y, t, p, e, none⟩ :: rest) A K :=
  tops_pure (opT_pure rfl rfl fun a w M _ hr _ => by
    obtain ⟨hdx, hdy⟩ := op2 hr
    rw [hx] at hdx; rw [hy] at hdy
    have h1 := hdx
    have ey : a.eval y = .int kd i := hdy
    rcases h1 with ⟨h0, _⟩ | ⟨g, off, c, cur, ex, hg, hh, hn, _, _, hd⟩
    · subst h0; simp at hi
    · refine ⟨_, by simp only [execOp, ex, ey, Sem.run_bind, run_index_slice hT hk hE (Int.natCast_nonneg i) (show (i : Int).toNat < xs.length from hi)]; rfl, g, off + i * te.size, by simp, hg, fun j ty hj => ?_⟩
      rw [hs]
      exact rowO_cell hh hd hi hj) h
theorem r_cutO {x y : Operand} {kd : IntKind} {lo : Nat} {ti te : TI} {el : Nat} (hx : A.op fr x = .rowO E Tb J xs) (hy : A.op fr y = .int kd lo) (hT : T.tab[ty']? = some ti) (hk : ti.k = .slice el) (hE : T.tab[el]? = some te) (hs : te.size = E.size) (hlo : lo ≤ xs.length) (h0 : 0 < xs.length)
    (h : TOps P fr ops rest (A.set d (.rowO E Tb J (xs.drop lo))) fun A' l' => K A' ((A, { d := some d, ty := .rowO E Tb J (xs.drop lo), rs := opR x ++ opR y }) :: l')) : TOps P fr ops (⟨some d, .slice ty' x (some y) none none, t, p, e, none⟩ :: rest) A K :=
  tops_pure (opT_pure rfl rfl fun a w M _ hr _ => by
    obtain ⟨hdx, hdy⟩ := op2 hr
    rw [hx] at hdx; rw [hy] at hdy
    have h1 := hdx
    have ey : a.eval y = .int kd lo := hdy
    obtain ⟨_, D, _, hD, hkd, _⟩ := tab_info hT
    rw [hk] at hkd
    cases D <;> simp only [TK.of, reduceCtorEq, TK.slice.injEq] at hkd
    subst hkd
    have hsz := fun w => run_sizeOf' (P := P) hE w
    rcases h1 with ⟨hn, _⟩ | ⟨g, off, c, cur, ex, hg, hh, hn, hc, hsz2, hd⟩
    · subst hn; simp at h0
    have hlc : lo ≤ c := by omega
    have hrun : ∃ ad, (execOp a.eval ⟨some d, .slice ty' x (some y) none none, t, p, e, none⟩).run P w = .ok (.value (.slice (some ad) (xs.length - lo) (c - lo))) w ∧ ad = (if c = lo then (⟨g, off, none⟩ : Addr) else ⟨g, off + lo * E.size, none⟩) := by
      refine ⟨_, ?_, rfl⟩
      simp [execOp, ex, ey, Instr.sliceAt, Instr.slice, run_underlying hD, Instr.sliceBounds, Instr.sliceBound, asIntOf, hsz, hs, hlo]
      by_cases hcl : c = lo
      · simp [hcl]
      · simp [hcl]; exact Addr.add_lit _ _ _
    obtain ⟨ad, hrun, had⟩ := hrun
    have hlen : (xs.drop lo).length = xs.length - lo := List.length_drop
    have key : dens w M ((xs.drop lo).flatMap E.tys) ((cur.toList.drop (off + lo * E.size)).take ((xs.drop lo).length * E.size)) := by
      have := dens_drop (lo * E.size) hd
      rw [List.drop_take, List.drop_drop, ← Nat.sub_mul] at this
      have e1 : (xs.flatMap E.tys).drop (lo * E.size) = (xs.drop lo).flatMap E.tys := by
        have : xs.flatMap E.tys = (xs.take lo).flatMap E.tys ++ (xs.drop lo).flatMap E.tys := by rw [← List.flatMap_append, List.take_append_drop]
        rw [this, List.drop_left' (by rw [flat_len, List.length_take, Nat.min_eq_left hlo])]
      rw [e1] at this
      rw [hlen]; exact this
    by_cases hcl : c = lo
    · rw [if_pos hcl] at had
      subst had
      refine ⟨_, hrun, .inr ⟨g, off, c - lo, cur, by rw [hlen], hg, hh, by rw [hlen]; omega, by omega, ?_, ?_⟩⟩
      · have : c - lo = 0 := by omega
        rw [this]; omega
      · have h0' : xs.drop lo = [] := List.eq_nil_of_length_eq_zero (by rw [hlen]; omega)
        rw [h0']; simp [dens]
    · rw [if_neg hcl] at had
      subst had
      refine ⟨_, hrun, .inr ⟨g, off + lo * E.size, c - lo, cur, by rw [hlen], hg, hh, by rw [hlen]; omega, by omega, ?_, key⟩⟩
      rw [Nat.add_assoc, ← Nat.add_mul, show lo + (c - lo) = c by omega]; exact hsz2) h
theorem r_appendO {x y : Operand} {st el : Nat} {ti te : TI} (hx : A.op fr x = .rowO E el J xs) (hy : A.op fr y = .sl E ys) (hJ : 4096 ≤ J) (hp : fr.pass.contains J = false) (hpos : 0 < ys.length) (hT : T.tab[st]? = some ti) (hk : ti.k = .slice el) (hE : T.tab[el]? = some te) (hs : te.size = E.size) (hz : te.zero.length = te.size) (h0 : 0 < te.size)
    (hlen : (xs.length + ys.length) * te.bytes ≤ 140737488355328) (hlen' : xs.length + ys.length ≤ 9223372036854775807)
    (h : TOps P fr ops rest (A.after { d := some d, ty := .rowO E el J (xs ++ ys), S := [J], rs := opR x ++ opR y }) fun A' l' => K A' ((A, { d := some d, ty := .rowO E el J (xs ++ ys), S := [J], rs := opR x ++ opR y }) :: l')) :
    TOps P fr ops (⟨some d, .call ⟨.builtin .append, #[x, y], #[st, st]⟩, t, p, e, none⟩ :: rest) A K := by
  refine ⟨_, opT_mem rfl rfl (by simp) (by simp; omega) (by simp) fun a w M wf hr htg => ?_, h⟩
  obtain ⟨hdx, hdy⟩ := op2 hr
  rw [hx] at hdx; rw [hy] at hdy
  have hrow := hdx
  obtain ⟨_, D, _, hD, hkd, _⟩ := tab_info hT
  rw [hk] at hkd
  cases D <;> simp only [TK.of, reduceCtorEq, TK.slice.injEq] at hkd
  subst hkd
  rename_i el
  obtain ⟨i, _, hi, _, _, hsz, hby, hze⟩ := tab_info hE
  obtain ⟨zz, hiz, hzc⟩ : ∃ z, i.zero = some z ∧ z.cells.size = i.size := by
    cases hiz : i.zero with
    | none => rw [hiz] at hze; rw [← hze] at hz; simp at hz; omega
    | some z => rw [hiz] at hze; exact ⟨z, rfl, by simp at hze; rw [hsz, ← hz, ← hze]; simp⟩
  obtain ⟨ad, c', ey, hc1, hc2, hpp⟩ := hdy
  obtain ⟨b', off', rfl, hp'⟩ := hpp hpos
  obtain ⟨news, hn1, hn2, hn3⟩ := pub_cells hp' _ (Nat.le_refl _)
  rw [List.take_length] at hn2
  have hnl : news.length = ys.length * i.size := by rw [hn1, flat_len, hsz, hs]
  have hnews : ∀ j u, news[j]? = some u → w.cell? ((⟨b', off', none⟩ : Addr).add j) = some u := fun j u hj => by rw [Addr.add_lit]; exact hn3 j u hj
  have hones := dens_ones hn2 (flat_ones E ys)
  have hesz : E.size = i.size := by rw [hsz, hs]
  -- behind a growth
  have grown : ∀ (olds : List Value) (cap : Nat), dens w M (xs.flatMap E.tys) olds → cap < xs.length + ys.length →
      (Builtin.append_ #[st, st] t #[a.eval x, a.eval y]).run P w = .ok (.slice (some ⟨w.heap.size, 0, none⟩) (xs.length + ys.length) (grownCap w (xs.length + ys.length) cap el)) (w.drew.alloc (.cells (olds.toArray ++ news.toArray ++ Builtin.zeroCells zz.cells (grownCap w (xs.length + ys.length) cap el - (xs.length + ys.length))) el)) →
      ∃ v w', (execOp a.eval ⟨some d, .call ⟨.builtin .append, #[x, y], #[st, st]⟩, t, p, e, none⟩).run P w = .ok (.value v) w' ∧ Fx.left { d := some d, ty := .rowO E el J (xs ++ ys), S := [J], rs := opR x ++ opR y } w M w' v := by
    intro olds cap hdo hcap hrun
    have holen : olds.length = xs.length * i.size := by rw [dens_len hdo, flat_len, hesz]
    have hge := grownCap_ge w (xs.length + ys.length) cap el
    have hcm : grownCap w (xs.length + ys.length) cap el ≤ maxLen := grownCap_le_maxLen w (xs.length + ys.length) cap el (by simp only [maxLen]; omega)
    have hsize : (w.drew.alloc (.cells (olds.toArray ++ news.toArray ++ Builtin.zeroCells zz.cells (grownCap w (xs.length + ys.length) cap el - (xs.length + ys.length))) el)).heap.size = w.heap.size + 1 := by simp
    have hold : ∀ b2, b2 < w.heap.size → (w.drew.alloc (.cells (olds.toArray ++ news.toArray ++ Builtin.zeroCells zz.cells (grownCap w (xs.length + ys.length) cap el - (xs.length + ys.length))) el)).heap[b2]? = w.heap[b2]? := fun b2 h => Below.heap_alloc w.drew _ b2 h
    have hnew : (w.drew.alloc (.cells (olds.toArray ++ news.toArray ++ Builtin.zeroCells zz.cells (grownCap w (xs.length + ys.length) cap el - (xs.length + ys.length))) el)).heap[w.heap.size]? = some (.cells (olds.toArray ++ news.toArray ++ Builtin.zeroCells zz.cells (grownCap w (xs.length + ys.length) cap el - (xs.length + ys.length))) el (0, 0)) := alloc_new w.drew _
    have hos : (w.drew.alloc (.cells (olds.toArray ++ news.toArray ++ Builtin.zeroCells zz.cells (grownCap w (xs.length + ys.length) cap el - (xs.length + ys.length))) el)).os = w.os ∧ (w.drew.alloc (.cells (olds.toArray ++ news.toArray ++ Builtin.zeroCells zz.cells (grownCap w (xs.length + ys.length) cap el - (xs.length + ys.length))) el)).tape = w.tape ∧ (w.drew.alloc (.cells (olds.toArray ++ news.toArray ++ Builtin.zeroCells zz.cells (grownCap w (xs.length + ys.length) cap el - (xs.length + ys.length))) el)).output = w.output := ⟨rfl, rfl, rfl⟩
    have hcs : (olds.toArray ++ news.toArray ++ Builtin.zeroCells zz.cells (grownCap w (xs.length + ys.length) cap el - (xs.length + ys.length))).size = grownCap w (xs.length + ys.length) cap el * i.size := by
      simp only [Array.size_append, List.size_toArray, size_zeroCells, hzc, holen, hnl, ← Nat.add_mul]
      congr 1
      omega
    have htk : ((olds.toArray ++ news.toArray ++ Builtin.zeroCells zz.cells (grownCap w (xs.length + ys.length) cap el - (xs.length + ys.length))).toList.drop 0).take ((xs ++ ys).length * E.size) = olds ++ news := by
      rw [List.drop_zero]
      simp only [Array.toList_append]
      rw [List.take_left' (by rw [List.length_append, holen, hnl, List.length_append, hesz, Nat.add_mul])]
    generalize hw' : (w.drew.alloc (.cells (olds.toArray ++ news.toArray ++ Builtin.zeroCells zz.cells (grownCap w (xs.length + ys.length) cap el - (xs.length + ys.length))) el)) = w' at *
    generalize hcu : (olds.toArray ++ news.toArray ++ Builtin.zeroCells zz.cells (grownCap w (xs.length + ys.length) cap el - (xs.length + ys.length))) = cu at *
    have le : Le (· ∈ [J]) (· ∈ ([] : List Nat)) w M w' (fun b2 => if b2 = w.heap.size then some J else M b2) :=
      ⟨by omega, hos.1, hos.2.1, hos.2.2, fun b2 hb2 hm => ⟨by rw [if_neg (by omega)]; exact hm, hold b2 hb2⟩, fun b2 u hm _ => by
        have := wf.lt b2 u hm
        exact ⟨by rw [if_neg (by omega)]; exact hm, fun _ => hold b2 this⟩⟩
    have le0 : Le (· ∈ ([] : List Nat)) (· ∈ ([] : List Nat)) w M w' (fun b2 => if b2 = w.heap.size then some J else M b2) :=
      ⟨by omega, hos.1, hos.2.1, hos.2.2, fun b2 hb2 hm => ⟨by rw [if_neg (by omega)]; exact hm, hold b2 hb2⟩, fun b2 u hm _ => by
        have := wf.lt b2 u hm
        exact ⟨by rw [if_neg (by omega)]; exact hm, fun _ => hold b2 this⟩⟩
    have wf' : Wf w' (fun b2 => if b2 = w.heap.size then some J else M b2) := by
      refine ⟨fun b2 u hm => ?_, fun b2 b3 u ht1 hm hm' => ?_⟩
      · split at hm
        · omega
        · have := wf.lt b2 u hm; omega
      · split at hm
        · injection hm with hm; omega
        · split at hm'
          · injection hm' with hm'; omega
          · exact wf.inj b2 b3 u ht1 hm hm'
    refine ⟨.slice (some ⟨w.heap.size, 0, none⟩) (xs.length + ys.length) (grownCap w (xs.length + ys.length) cap el), w', by simp [execOp, resolve, invoke, builtin, hrun], _, wf', le, .inr ⟨w.heap.size, 0, grownCap w (xs.length + ys.length) cap el, cu, by rw [List.length_append], by simp, hnew, by rw [List.length_append]; exact hge, hcm, by rw [hcs, hesz]; omega, ?_⟩, by simp⟩
    rw [htk, List.flatMap_append]
    exact dens_app (dens_mono le0 (by rw [E.flat_deps]; intro _ h; cases h) (by rw [E.flat_cdeps]; intro _ h; cases h) hdo) (dens_mono le0 (by rw [E.flat_deps]; intro _ h; cases h) (by rw [E.flat_cdeps]; intro _ h; cases h) hn2)
  rcases hrow with ⟨hxe, ex⟩ | ⟨g, off, cap, cur, ex, hg, hh, hxc, hcm, hfit, hdx⟩
  · have hrn := run_append_nil (P := P) w st t el i zz hD hi hiz ⟨b', off', none⟩ ys.length c' news hnl hnews hpos (by omega) (by rw [hby]; have := hlen; rw [Nat.add_mul] at this; omega)
    subst hxe
    refine grown [] 0 trivial (by simpa using hpos) ?_
    rw [ex, ey]
    simpa using hrn
  · by_cases hroom : xs.length + ys.length ≤ cap
    · -- in place
      have hm : (xs.length + ys.length) * E.size ≤ cap * E.size := Nat.mul_le_mul_right _ hroom
      rw [Nat.add_mul] at hm
      have hcf : off + xs.length * i.size + news.length ≤ cur.size := by rw [hnl, ← hesz]; omega
      have hf := run_firstCells_some (P := P) w i.size ys.length ⟨b', off', none⟩ ys.length c' news hnl hnews
      have hst := run_storeCells_at (P := P) g (off + xs.length * i.size) el news 0 cur w hh (by simpa using hcf) hones
      rw [setRow_set _ hh] at hst
      simp only [Nat.add_zero] at hst
      obtain ⟨h1', h2', h3'⟩ := store_le (cs' := (cur.toList.take (off + xs.length * i.size) ++ news ++ cur.toList.drop (off + xs.length * i.size + news.length)).toArray) (Tb := el) wf hg _ rfl
      have hrun : (Builtin.append_ #[st, st] t #[a.eval x, a.eval y]).run P w = .ok (.slice (some ⟨g, off, none⟩) (xs.length + ys.length) cap) { w with heap := w.heap.setIfInBounds g (.cells (cur.toList.take (off + xs.length * i.size) ++ news ++ cur.toList.drop (off + xs.length * i.size + news.length)).toArray el (0, 0)) } := by
        rw [ex, ey]
        simp [Builtin.append_, run_underlying hD, sizeOf, typeInfo, hi, Builtin.lenOf, hroom, hf, Addr.add_lit, hst]
      have le : Le (· ∈ [J]) (· ∈ ([] : List Nat)) w M { w with heap := w.heap.setIfInBounds g (.cells (cur.toList.take (off + xs.length * i.size) ++ news ++ cur.toList.drop (off + xs.length * i.size + news.length)).toArray el (0, 0)) } M :=
        h2'.weaken (fun u hu => by simp only [List.mem_singleton] at hu; subst hu; simp) (fun _ h => by cases h)
      refine ⟨.slice (some ⟨g, off, none⟩) (xs.length + ys.length) cap, _, by simp [execOp, resolve, invoke, builtin, hrun], M, h1', le, .inr ⟨g, off, cap, _, by rw [List.length_append], hg, h3', by rw [List.length_append]; exact hroom, hcm, ?_, ?_⟩, by simp⟩
      · simp only [List.size_toArray, List.length_append, List.length_take, List.length_drop, Array.length_toList]
        omega
      · rw [List.length_append, Nat.add_mul, hesz, ← hnl, List.toList_toArray, put_take _ _ _ _ (by simpa using hcf), List.flatMap_append]
        refine dens_mono h2' (by rw [← List.flatMap_append, E.flat_deps]; intro _ h; cases h) (by rw [← List.flatMap_append, E.flat_cdeps]; intro _ h; cases h) (dens_app ?_ hn2)
        rw [← hesz]; exact hdx
    · have holds : ∀ j u, ((cur.toList.drop off).take (xs.length * E.size))[j]? = some u → w.cell? ((⟨g, off, none⟩ : Addr).add j) = some u := fun j u hj => by
        rw [List.getElem?_take] at hj
        split at hj
        · rw [List.getElem?_drop] at hj
          rw [Addr.add_lit]
          simpa [World.cell?, hh] using hj
        · cases hj
      have hol : ((cur.toList.drop off).take (xs.length * E.size)).length = xs.length * i.size := by rw [dens_len hdx, flat_len, hesz]
      have hrn := run_append_grow (P := P) w st t el i zz hD hi hiz ⟨g, off, none⟩ xs.length cap _ hol holds ⟨b', off', none⟩ ys.length c' news hnl hnews (by omega) (by omega) (growslice_fits (by omega) (by rw [hby]; exact hlen))
      refine grown _ cap hdx (by omega) ?_
      rw [ex, ey]
      exact hrn
end
section
variable {P : Program} {fr : Fr} {A : As} {c : Code} {Q : Exit → Act → World → Prop}
theorem t_toO {α : Type} {E : El α} {T Tc J tg c0 : Nat} {xs : List α} (hc : A.tag c0 = some (.cells Tc [.row E T tg xs])) (h1 : Tag1 tg) (hne : Nat.beq c0 tg = false) (hJ : 4096 ≤ J) (hp : fr.pass.contains tg = false)
    (h : Tri P fr c ⟨killSlots [] [tg] A.slots, (c0, .cells Tc [.rowO E T J xs]) :: killTags [] [tg] A.tags⟩ Q) : Tri P fr c A Q := fun a w ⟨M, ok, hsl, ht⟩ => by
  have le : Le (· ∈ ([] : List Nat)) (· ∈ [tg]) w M w (giveJ M tg J) := giveJ_le
  refine h a w ⟨giveJ M tg J, ⟨giveJ_wf hJ ok.wf, Fr.base_step ok.base (by intro _ h; cases h) (fun t ht => by simp only [List.mem_singleton] at ht; subst ht; exact ⟨h1.1, by simpa using hp⟩) le, ok.size, ok.defers.step (by intro _ h; cases h) (fun t ht => by simp only [List.mem_singleton] at ht; subst ht; exact h1.1) le⟩, fun i hi => ?_, fun x hx => ?_⟩
  · rcases killSlots_spec [] [tg] A.slots i with ⟨e, hdj⟩ | ⟨_, e⟩
    · show (killSlots [] [tg] A.slots i).den _ _ _
      rw [e]; exact (A.slots i).mono le (safe_spec hdj).1 (safe_spec hdj).2 (hsl i hi)
    · show (killSlots [] [tg] A.slots i).den _ _ _
      rw [e]; trivial
  · rcases List.mem_cons.1 hx with rfl | hx
    · obtain ⟨b, cs, hb, hh, hd⟩ := ht _ (tag_mem hc)
      refine ⟨b, cs, ?_, hh, ?_⟩
      · unfold giveJ
        rw [if_neg]
        · exact hb
        · rw [hb]; intro e; injection e with e; have e : c0 = tg := e; rw [e] at hne; simp at hne
      · obtain ⟨cs⟩ := cs
        match cs, hd with
        | [v], ⟨⟨vs, hown, hcs, hM⟩, _⟩ =>
          refine ⟨?_, trivial⟩
          rcases hown.2 with ⟨ez, h0⟩ | ⟨g, cap, cur, ez, _, hh, hnc, hcap, hsz, htk⟩
          · exact .inl ⟨List.length_eq_zero_iff.1 h0, ez⟩
          · have hg : M g = some tg := hM g (by rw [ez]; rfl)
            refine .inr ⟨g, 0, cap, cur, ez, by simp [giveJ, hg], hh, hnc, hcap, by omega, ?_⟩
            rw [List.drop_zero, htk]
            exact dens_mono (giveJ_le (w := w)) (by rw [E.flat_deps]; intro _ h; cases h) (by rw [E.flat_cdeps]; intro _ h; cases h) hcs
    · exact killTags_den le hx fun y hy _ => ht y hy
end
end Go.T

namespace Go.Proofs.Ytpnndljmhpepgaa
open Go Go.T
set_option maxHeartbeats 16000000
theorem roundsV_1 {b : Barn} {g : Int} (h : ¬ askE b g = 0) : roundsV b g = [] := if_neg h
theorem roundsE_1 {b : Barn} {g : Int} (h : ¬ askE b g = 0) : roundsE b g = askE b g := if_neg h
theorem roundsV_2 {b : Barn} {g : Int} {f : Found} (h : askE b g = 0) (e : roundsM b g = f) (hf : f.is = true) : chainM f.ways (firstP b) f.last = roundsV b g := by unfold roundsV; rw [if_pos h, e, if_pos hf]
theorem roundsE_2 {b : Barn} {g : Int} {f : Found} (h : askE b g = 0) (e : roundsM b g = f) (hf : f.is = true) : roundsE b g = 0 := by unfold roundsE; rw [if_pos h, e, if_pos hf]
theorem roundsV_3 {b : Barn} {g : Int} {f : Found} (h : askE b g = 0) (e : roundsM b g = f) (hf : f.is = false) : roundsV b g = [] := by unfold roundsV; rw [if_pos h, e, if_neg (by rw [hf]; decide)]
theorem roundsE_3 {b : Barn} {g : Int} {f : Found} (h : askE b g = 0) (e : roundsM b g = f) (hf : f.is = false) : roundsE b g = 7 := by unfold roundsE; rw [if_pos h, e, if_neg (by rw [hf]; decide)]
theorem chain_found {b : Barn} {g : Int} {f : Found} (hr : b.Right) (hg : 0 ≤ g) (e : roundsM b g = f) (hf : f.is = true) : Chain f.ways (firstP b) f.last (chainM f.ways (firstP b) f.last) ∧ (chainM f.ways (firstP b) f.last).length ≤ 40000000 := by
  obtain ⟨h, _⟩ := rounds_spec (g := g) hr hg
  rw [e] at h
  obtain ⟨L, h1, _, _, h2, _⟩ := h.yes hf
  rw [chainM_spec h1]; exact ⟨h1, h2⟩
theorem queue_yes {n : Nat} (h : (decide ((n : Int) > 0) && !false) = true) : 0 < n := by
  simp only [Bool.and_eq_true, decide_eq_true_eq] at h; omega
theorem queue_no {n : Nat} (h : (decide ((n : Int) > 0) && !false) = false) : n = 0 := by
  simp only [Bool.not_false, Bool.and_true, decide_eq_false_iff_not] at h; omega
theorem not_b' {b : Bool} (h : (!b) = false) : b = true := by cases b <;> first | rfl | cases h
theorem not_a' {b : Bool} (h : (!b) = true) : b = false := by cases b <;> first | rfl | cases h
attribute [local irreducible] dInt dBool dSl dPp dPtr dAgg dTup dClo dAny dEx dStr dGd dCells dVec dVs dRow dOp nth Tri Into TOps Ctr bodyPost Exit.then Exit.inBlock Code.wp Code.wpIn dWhen dPa dPe dAo dArr dMp dPm dMap dCJ CtrG CtrI OpY keepPost iterPost bodyPostM roundQ
set_option maxRecDepth 100000 in
theorem c_asked (b : Barn) (hs : b.Small) (g : Int) : Ctr Try.prog 110 [barnT b, Ty.int .i64 g] (Ty.tup [Ty.when (decide (askE b g = 0)) (Ty.pe DeskE ⟨b, firstP b⟩ 0), Ty.int .i64 (askE b g)]) := by
  refine fn_intro Try.func110 rfl (by decide) Try.ntmps110 (by exact Nat.le_of_ble_eq_true rfl) fun w0 M0 => ?_
  refine t_seq ?_
  refine t_region ?_
  refine r_box_agg rfl ?_
  refine asX rfl ?_
  refine asI rfl ?_
  refine r_nil ?_
  refine i_then ?_
  refine t_seq ?_
  refine t_region ?_
  refine r_load_ppN rfl rfl rfl (by exact Nat.le_of_ble_eq_true rfl) ?_
  refine r_call (c_open b hs) rfl rfl rfl rfl rfl ?_
  refine mvT rfl ?_
  refine r_extract rfl rfl ?_
  refine r_extract rfl rfl ?_
  refine asW rfl ?_
  refine asI rfl ?_
  refine r_nil ?_
  refine i_then ?_
  refine t_seq ?_
  refine t_seq ?_
  refine t_region ?_
  refine mvI rfl ?_
  refine r_bin rfl rfl rfl ?_
  refine mvB rfl ?_
  apply r_guard (s := 15) rfl rfl rfl
  · intro hg; apply opT_of; (refine mvI rfl ?_); refine r_nil ?_; exact rfl
  · exact rfl
  · exact rfl
  apply r_guard (s := 15) rfl rfl rfl
  · intro hg; apply opT_strip (s := 16) rfl (by (rw [hg]; rfl)); apply opT_of; (refine r_call (c_in _ _ _) rfl rfl rfl rfl rfl ?_); refine r_nil ?_; exact rfl
  · exact rfl
  · exact rfl
  apply r_guard (s := 15) rfl rfl rfl
  · intro hg; apply opT_strip (s := 17) rfl (by (rw [hg]; rfl)); apply opT_of; (refine r_not rfl ?_); refine r_nil ?_; exact rfl
  · exact rfl
  · exact rfl
  refine r_and rfl rfl ?_
  refine r_nil ?_
  refine i_then ?_
  refine t_cond rfl (fun hc1 => ?_) (fun hc1 => ?_)
  ·
    refine t_seq ?_
    refine t_region ?_
    refine asX rfl ?_
    refine asI rfl ?_
    refine r_nil ?_
    refine i_then ?_
    refine t_ret ?_
    refine i_then_ret ?_
    refine i_rp2 rfl rfl rfl ?_ ?_
    all_goals skip
    all_goals first | exact ret_sub rfl rfl (Ty.sub_when rfl fun h => absurd (of_decide_eq_true h) (by rw [ask_3 hc1]; decide)) | exact ret_eq rfl rfl (congrArg (Ty.int .i64) (ask_3 hc1).symm)
  ·
    refine t_skip ?_
    refine i_then ?_
    refine t_seq ?_
    refine t_region ?_
    refine mvW rfl ?_
    refine mvI rfl ?_
    refine asW rfl ?_
    refine asI rfl ?_
    refine r_nil ?_
    refine i_then ?_
    refine t_ret ?_
    refine i_rp2 rfl rfl rfl ?_ ?_
    all_goals skip
    all_goals first | exact ret_sub rfl rfl (Ty.sub_when rfl fun h => Ty.when_sub (by rw [← ask_ok hc1]; exact h)) | exact ret_eq rfl rfl (congrArg (Ty.int .i64) (ask_ok hc1).symm)
set_option maxRecDepth 100000 in
theorem c_Rounds (b : Barn) (hs : b.Small) (g : Int) : Ctr Try.prog 57 [barnT b, Ty.int .i64 g] (Ty.tup [Ty.sl RowT (roundsV b g), Ty.int .i64 (roundsE b g)]) := by
  refine fnM_intro Try.func57 rfl (by decide) Try.ntmps57 (by exact Nat.le_of_ble_eq_true rfl) fun w0 M0 => ?_
  refine t_seq ?_
  refine t_region ?_
  refine r_box_agg rfl ?_
  refine asX rfl ?_
  refine asI rfl ?_
  refine r_nil ?_
  refine i_then ?_
  refine t_seq ?_
  refine t_region ?_
  refine r_load_ppN rfl rfl rfl (by exact Nat.le_of_ble_eq_true rfl) ?_
  refine mvI rfl ?_
  refine r_call (c_asked b hs g) rfl rfl rfl rfl rfl ?_
  refine mvT rfl ?_
  refine r_extract rfl rfl ?_
  refine r_extract rfl rfl ?_
  refine asW rfl ?_
  refine asI rfl ?_
  refine r_nil ?_
  refine i_then ?_
  refine t_seq ?_
  refine t_seq ?_
  refine t_region ?_
  refine mvI rfl ?_
  refine r_bin rfl rfl rfl ?_
  refine r_nil ?_
  refine i_then ?_
  refine t_cond_ndec rfl (fun hc1 => ?_) (fun hc1 => ?_)
  ·
    refine t_seq ?_
    refine t_region ?_
    refine mvI rfl ?_
    refine asX rfl ?_
    refine asI rfl ?_
    refine r_nil ?_
    refine i_then ?_
    refine t_ret ?_
    refine i_then_ret ?_
    refine m_ret rfl ?_
    refine i_rp2 rfl rfl rfl ?_ ?_
    all_goals skip
    all_goals first | exact ret_nil_eq (roundsV_1 hc1) | exact ret_eq rfl rfl (congrArg (Ty.int .i64) (roundsE_1 hc1).symm)
  ·
    refine t_skip ?_
    refine i_then ?_
    refine t_seq ?_
    have hask := ask_zero hc1
    have hr := check_right hask.1
    have h6 := hr.lots
    have hg : 0 ≤ g := by omega
    have hN := placesN_eq
    refine t_as (s := 6) rfl (Ty.when_sub (decide_eq_true hc1)) ?_
    refine t_region ?_
    refine r_makeMap (encN 6) WayV mapT121 rfl ?_
    refine mvPe rfl ?_
    refine r_nilCheck_pe rfl ?_
    refine r_field_pe rfl rfl rfl rfl rfl (by decide) ?_
    refine r_load_peN rfl rfl rfl rfl rfl ?_
    refine r_build rfl rfl (by exact List.cons_ne_nil _ _) rfl (by repeat (exact (Parts.nil : Parts _ _ [] _))) (by exact rfl) ?_
    refine r_insert (r_mapUpdateS plKey (k := firstP b) (v := way0) rfl rfl (by decide) rfl (key_pl (firstP b)) rfl way0_sub mapT121 ?_)
    refine mvM rfl ?_
    refine r_build rfl rfl (by exact List.cons_ne_nil _ _) rfl (by repeat (first | exact (Parts.nil : Parts _ _ [] _) | (show Parts _ _ ((_, _) :: _) _; apply Parts.one; (· exact (rfl : _ = Ty.mp _)); (· exact rfl)))) (by exact rfl) ?_
    refine r_alloc rfl (by exact List.cons_ne_nil _ _) rfl ?_
    refine r_storeN rfl rfl (by decide) rfl rfl rfl rfl rfl rfl ?_
    refine r_nil ?_
    refine i_then ?_
    refine t_seq ?_
    refine t_forget (B := live [(1, Ty.int .i64 g), (6, Ty.pe DeskE ⟨b, firstP b⟩ 0), (8, Ty.ptr 9 0)] [(9, Cont.cells 125 [Ty.mp 27, Ty.int .i64 0, Ty.int .i64 0, Ty.int .i64 0, Ty.int .i64 0, Ty.int .i64 0, Ty.int .i64 0, Ty.bool false]), (27, Cont.mp (encN 6) WayV (rst0 b).ways)]) ?_ ?_
    · (refine Ent.mk' ?_ ?_ <;> (repeat' (first | exact allSub_zero | exact allTags_nil | refine allSub_succ' ?_ (Ty.sub_any _) | refine allSub_succ' ?_ (Ty.sub_refl _) | refine allTags_cons rfl (Cont.sub_refl _) ?_)))
    refine t_region ?_
    refine mvPe rfl ?_
    refine r_nilCheck_pe rfl ?_
    refine r_field_pe rfl rfl rfl rfl rfl (by decide) ?_
    refine r_load_peN rfl rfl rfl rfl rfl ?_
    refine r_buildRowN (E := PlE) (xs := [firstP b]) rfl rfl rfl rfl rfl (by decide) (by decide) (by repeat (first | exact (Parts.nil : Parts _ _ [] _) | (show Parts _ _ ((_, _) :: _) _; apply Parts.agg; (· exact (rfl : _ = Ty.agg _))))) (by exact rfl) rfl rfl ?_
    refine r_alloc rfl (by exact List.cons_ne_nil _ _) rfl ?_
    refine r_store1 rfl rfl (by decide) rfl rfl (by exact (rfl : _ = Ty.row _ _ _ _)) rfl (by exact Nat.le_of_ble_eq_true rfl) rfl rfl (by exact (rfl : _ = [_])) ?_
    refine r_nil ?_
    refine i_then ?_
    refine t_seq ?_
    refine t_toO (J := 4100) (tg := 39) (c0 := 10) rfl (by decide) rfl (by decide) rfl ?_
    refine t_block ?_
    refine t_loop (fun (x : {x : RSt // RIxs b g x ∧ x.queue.length ≤ x.ways.length + 1}) => live [(1, Ty.int .i64 g), (6, Ty.pe DeskE ⟨b, firstP b⟩ 0), (8, Ty.ptr 9 0), (9, Ty.ptr 10 0)] [(9, Cont.cells 125 [Ty.mp 27, Ty.int .i64 0, Ty.int .i64 0, Ty.int .i64 0, Ty.int .i64 0, Ty.int .i64 0, Ty.int .i64 0, Ty.bool false]), (10, Cont.cells 148 [Ty.rowO PlE 123 4100 x.1.queue]), (27, Cont.mp (encN 6) WayV x.1.ways)]) (fun x => muR x.1) (⟨rst0 b, rixs0 hr, by simp [rst0]⟩) ?_ fun x => ?_
    · (refine Ent.mk' ?_ ?_ <;> (repeat' (first | exact allSub_zero | exact allTags_nil | refine allSub_succ' ?_ (Ty.sub_any _) | refine allSub_succ' ?_ (Ty.sub_refl _) | refine allTags_cons rfl (Cont.sub_refl _) ?_)))
    ·
      refine t_seq ?_
      refine t_seq ?_
      refine t_region ?_
      refine r_load_ptr rfl rfl (by decide) rfl rfl rfl ?_
      refine r_lenO rfl rfl rfl ?_
      refine r_bin rfl rfl rfl ?_
      refine mvB rfl ?_
      apply r_guard (s := 42) rfl rfl rfl
      · intro hg; apply opT_of; (refine r_field_ptr rfl rfl rfl rfl rfl (by decide) ?_); refine r_nil ?_; exact rfl
      · exact rfl
      · exact rfl
      apply r_guard (s := 42) rfl rfl rfl
      · intro hg; apply opT_strip (s := 43) rfl (by (rw [hg]; rfl)); apply opT_of; (refine r_load_ptr rfl rfl (by decide) rfl rfl rfl ?_); refine r_nil ?_; exact rfl
      · exact rfl
      · exact rfl
      apply r_guard (s := 42) rfl rfl rfl
      · intro hg; apply opT_strip (s := 44) rfl (by (rw [hg]; rfl)); apply opT_of; (refine r_not rfl ?_); refine r_nil ?_; exact rfl
      · exact rfl
      · exact rfl
      refine r_and rfl rfl ?_
      refine r_nil ?_
      refine i_then ?_
      refine t_cond rfl (fun hc2 => ?_) (fun hc2 => ?_)
      ·
        refine t_skip ?_
        refine i_then ?_
        refine t_block ?_
        refine t_seq ?_
        have hlen : 0 < x.1.queue.length := queue_yes hc2
        refine t_region ?_
        refine r_load_ptr rfl rfl (by decide) rfl rfl rfl ?_
        refine r_indexO (i := 0) rfl rfl rfl rfl rfl rfl hlen ?_
        refine r_load_opN rfl rfl rfl (by exact Nat.le_of_ble_eq_true rfl) ?_
        refine r_alloc rfl (by exact List.cons_ne_nil _ _) rfl ?_
        refine r_storeN rfl rfl (by decide) rfl rfl rfl rfl rfl rfl ?_
        refine r_nil ?_
        refine i_then ?_
        refine t_seq ?_
        refine t_region ?_
        refine r_load_ptr rfl rfl (by decide) rfl rfl rfl ?_
        refine r_cutO (lo := 1) rfl rfl rfl rfl rfl rfl hlen hlen ?_
        refine r_store1 (ty := Ty.rowO PlE 123 4100 (x.1.queue.drop 1)) rfl rfl (by decide) rfl rfl rfl rfl (by exact Nat.le_of_ble_eq_true rfl) rfl rfl (by exact (rfl : _ = [_])) ?_
        refine r_nil ?_
        refine i_then ?_
        refine t_seq ?_
        refine t_seq ?_
        refine t_forget (B := live [(1, Ty.int .i64 g), (6, Ty.pe DeskE ⟨b, firstP b⟩ 0), (8, Ty.ptr 9 0), (9, Ty.ptr 10 0), (10, Ty.ptr 11 0)] [(9, Cont.cells 125 [Ty.mp 27, Ty.int .i64 0, Ty.int .i64 0, Ty.int .i64 0, Ty.int .i64 0, Ty.int .i64 0, Ty.int .i64 0, Ty.bool false]), (10, Cont.cells 148 [Ty.rowO PlE 123 4100 (restR x.1).queue]), (11, Cont.cells 123 (plT (headR x.1))), (27, Cont.mp (encN 6) WayV x.1.ways)]) ?_ ?_
        · (refine Ent.mk' ?_ ?_ <;> (repeat' (first | exact allSub_zero | exact allTags_nil | refine allSub_succ' ?_ (Ty.sub_any _) | refine allSub_succ' ?_ (Ty.sub_refl _) | refine allTags_cons rfl (Cont.sub_refl _) ?_)))
        refine t_region ?_
        refine mvPe rfl ?_
        refine r_load_ptrN rfl rfl (by decide) rfl rfl (by exact Nat.le_of_ble_eq_true rfl) ?_
        refine r_call (c_made ⟨b, firstP b⟩ h6 (headR x.1)) rfl rfl rfl rfl rfl ?_
        refine r_nil ?_
        refine i_then ?_
        refine t_cond rfl (fun hc3 => ?_) (fun hc3 => ?_)
        ·
          refine t_seq ?_
          refine t_region ?_
          refine r_load_ptrN rfl rfl (by decide) rfl rfl (by exact Nat.le_of_ble_eq_true rfl) ?_
          refine r_field_ptr rfl rfl rfl rfl rfl (by decide) ?_
          refine r_storeO rfl rfl (by decide) rfl rfl rfl (by exact Nat.le_of_ble_eq_true rfl) rfl rfl rfl rfl ?_
          refine r_field_ptr rfl rfl rfl rfl rfl (by decide) ?_
          refine r_store1 rfl rfl (by decide) rfl rfl (by exact (rfl : _ = Ty.bool _)) rfl (by exact Nat.le_of_ble_eq_true rfl) rfl rfl (by exact rfl) ?_
          refine r_nil ?_
          refine i_then ?_
          refine t_exit ?_
          refine i_then_exit ?_
          refine i_block_exit' rfl ?_
          refine i_then_exit ?_
          refine i_block_exit rfl ?_
          refine i_then ?_
          refine t_seq ?_
          refine t_seq ?_
          refine t_region ?_
          refine r_field_ptr rfl rfl rfl rfl rfl (by decide) ?_
          refine r_load_ptr rfl rfl (by decide) rfl rfl rfl ?_
          refine r_not rfl ?_
          refine r_nil ?_
          refine i_then ?_
          refine t_cond_ff rfl (rfl) ?_
          refine t_skip ?_
          refine i_then ?_
          refine t_seq ?_
          have hfm : roundsM b g = ⟨x.1.ways, headR x.1, true⟩ := x.2.1.same.stop (stepR_found (rowR hlen) hc3)
          have hch := chain_found hr hg hfm rfl
          refine t_pubC (tg := 27) [] [(9, Cont.cells 125 [Ty.pm (encN 6) WayV x.1.ways, Ty.int .i64 (nth (headR x.1).1 0), Ty.int .i64 (nth (headR x.1).1 1), Ty.int .i64 (nth (headR x.1).1 2), Ty.int .i64 (nth (headR x.1).1 3), Ty.int .i64 (nth (headR x.1).1 4), Ty.int .i64 (nth (headR x.1).1 5), Ty.bool true])] (by decide) rfl trivial ⟨pubC_cells rfl rfl ⟨pubTy_mp rfl (by decide), pubTy_same rfl, pubTy_same rfl, pubTy_same rfl, pubTy_same rfl, pubTy_same rfl, pubTy_same rfl, pubTy_same rfl, trivial⟩, trivial⟩ ?_
          refine t_forget (B := live [(6, Ty.pe DeskE ⟨b, firstP b⟩ 0), (8, Ty.ptr 9 0)] [(9, Cont.cells 125 (foundTys ⟨x.1.ways, headR x.1, true⟩))]) ?_ ?_
          · (refine Ent.mk' ?_ ?_ <;> (repeat' (first | exact allSub_zero | exact allTags_nil | refine allSub_succ' ?_ (Ty.sub_any _) | refine allSub_succ' ?_ (Ty.sub_refl _) | refine allTags_cons rfl (Cont.sub_refl _) ?_)))
          refine t_draw mixed rfl ?_
          refine r_load_ptrN rfl rfl (by decide) rfl rfl (by exact Nat.le_of_ble_eq_true rfl) ?_
          refine mvPe rfl ?_
          refine r_nilCheck_pe rfl ?_
          refine r_field_pe rfl rfl rfl rfl rfl (by decide) ?_
          refine r_load_peN rfl rfl rfl rfl rfl ?_
          refine r_call (c_plan ⟨x.1.ways, headR x.1, true⟩ (firstP b) _ hch.1 hch.2) rfl rfl rfl rfl rfl ?_
          refine asS rfl ?_
          refine asI rfl ?_
          refine r_nil ?_
          refine ⟨by kernel_rfl, ?_⟩
          refine i_then ?_
          refine t_ret ?_
          refine m_ret rfl ?_
          refine i_rp2 rfl rfl rfl ?_ ?_
          all_goals skip
          all_goals first | exact ret_eq rfl rfl (congrArg (Ty.sl RowT) (roundsV_2 hc1 hfm rfl)) | exact ret_eq rfl rfl (congrArg (Ty.int .i64) (roundsE_2 hc1 hfm rfl).symm)
        ·
          refine t_skip ?_
          refine i_then ?_
          refine t_seq ?_
          refine t_region ?_
          refine mvPe rfl ?_
          refine r_load_ptrN rfl rfl (by decide) rfl rfl (by exact Nat.le_of_ble_eq_true rfl) ?_
          refine mvI rfl ?_
          refine r_call (c_rounds ⟨b, firstP b⟩ (headR x.1) g) rfl rfl rfl rfl rfl ?_
          refine r_nil ?_
          refine i_then ?_
          refine t_block ?_
          refine t_rangeFunc (ps := [62]) (lk [(1, Ty.int .i64 g), (6, Ty.pe DeskE ⟨b, firstP b⟩ 0), (8, Ty.ptr 9 0), (9, Ty.ptr 10 0), (10, Ty.ptr 11 0)]) (fun k => [(9, Cont.cells 125 [Ty.mp 27, Ty.int .i64 0, Ty.int .i64 0, Ty.int .i64 0, Ty.int .i64 0, Ty.int .i64 0, Ty.int .i64 0, Ty.bool false]), (10, Cont.cells 148 [Ty.rowO PlE 123 4100 (foldR b g (headR x.1) (restR x.1) k).queue]), (11, Cont.cells 123 (plT (headR x.1))), (27, Cont.mp (encN 6) WayV (foldR b g (headR x.1) (restR x.1) k).ways)]) false [] [9, 10, 11, 27] rfl rfl (c_rounds1 ⟨b, firstP b⟩ (small_right hr) h6 g (headR x.1)) rfl rfl (by decide) (by intro t ht; obtain ⟨x, _, rfl⟩ := List.mem_map.1 ht; exact ⟨rfl, rfl, rfl⟩) rfl rfl (fun _ => rfl) rfl ?_ ?_ ?_ (by intro h; cases h)
          · (refine Ent.mk' ?_ ?_ <;> (repeat' (first | exact allSub_zero | exact allTags_nil | refine allSub_succ' ?_ (Ty.sub_any _) | refine allSub_succ' ?_ (Ty.sub_refl _) | refine allTags_cons rfl (Cont.sub_refl _) ?_)))
          · intro k tys hk
            obtain ⟨hk1, rfl⟩ := enc_get hk
            have hk1 : k < (allR b (headR x.1) g).length := hk1
            have hok := (mem_allR hg).1 (nth_mem (xs := allR b (headR x.1) g) hk1)
            have hlg := hok.len
            have hfw := foldR_few x.2.1 hr hg hlen hc3 (Nat.le_of_lt hk1)
            have hql := foldR_qlen (x := restR x.1) (b := b) (g := g) (by have := x.2.2; show (x.1.queue.drop 1).length ≤ x.1.ways.length + 1; rw [List.length_drop]; omega) (headR x.1) k
            refine ⟨live [(1, Ty.int .i64 g), (6, Ty.pe DeskE ⟨b, firstP b⟩ 0), (8, Ty.ptr 9 0), (9, Ty.ptr 10 0), (10, Ty.ptr 11 0), (11, Ty.sl TurE (nth (allR b (headR x.1) g) k))] [(9, Cont.cells 125 [Ty.mp 27, Ty.int .i64 0, Ty.int .i64 0, Ty.int .i64 0, Ty.int .i64 0, Ty.int .i64 0, Ty.int .i64 0, Ty.bool false]), (10, Cont.cells 148 [Ty.rowO PlE 123 4100 (foldR b g (headR x.1) (restR x.1) k).queue]), (11, Cont.cells 123 (plT (headR x.1))), (27, Cont.mp (encN 6) WayV (foldR b g (headR x.1) (restR x.1) k).ways)], fun l w M => ?_, fun l w M => ?_⟩
            ·
              refine t_region ?_
              refine asS rfl ?_
              refine r_nil ?_
              refine i_join ?_
              (refine Ent.mk' ?_ ?_ <;> (repeat' (first | exact allSub_zero | exact allTags_nil | refine allSub_succ' ?_ (Ty.sub_any _) | refine allSub_succ' ?_ (Ty.sub_refl _) | refine allTags_cons rfl (Cont.sub_refl _) ?_)))
            ·
              refine t_block ?_
              refine t_seq ?_
              refine t_region ?_
              refine r_load_ptrN rfl rfl (by decide) rfl rfl (by exact Nat.le_of_ble_eq_true rfl) ?_
              refine r_alloc rfl (by exact List.cons_ne_nil _ _) rfl ?_
              refine r_storeN rfl rfl (by decide) rfl rfl rfl rfl rfl rfl ?_
              refine r_nil ?_
              refine i_then ?_
              refine t_seq ?_
              refine t_seq ?_
              refine t_region ?_
              refine mvS rfl ?_
              refine r_len rfl rfl rfl ?_
              refine mvI rfl ?_
              refine r_nil ?_
              refine i_then ?_
              refine t_block ?_
              refine t_loop (fun (j : {j : Nat // j ≤ (nth (allR b (headR x.1) g) k).length}) => live [(1, Ty.int .i64 g), (6, Ty.pe DeskE ⟨b, firstP b⟩ 0), (8, Ty.ptr 9 0), (9, Ty.ptr 10 0), (10, Ty.ptr 11 0), (11, Ty.sl TurE (nth (allR b (headR x.1) g) k)), (12, Ty.ptr 13 0), (64, Ty.sl TurE (nth (allR b (headR x.1) g) k)), (65, Ty.int .i64 (nth (allR b (headR x.1) g) k).length), (66, Ty.int .i64 (j.1 : Nat))] [(9, Cont.cells 125 [Ty.mp 27, Ty.int .i64 0, Ty.int .i64 0, Ty.int .i64 0, Ty.int .i64 0, Ty.int .i64 0, Ty.int .i64 0, Ty.bool false]), (10, Cont.cells 148 [Ty.rowO PlE 123 4100 (foldR b g (headR x.1) (restR x.1) k).queue]), (11, Cont.cells 123 (plT (headR x.1))), (13, Cont.cells 123 (plT (movedAll (headR x.1) ((nth (allR b (headR x.1) g) k).take j.1)))), (27, Cont.mp (encN 6) WayV (foldR b g (headR x.1) (restR x.1) k).ways)]) (fun j => (nth (allR b (headR x.1) g) k).length - j.1) (⟨0, by omega⟩) ?_ fun j => ?_
              · (refine Ent.mk' ?_ ?_ <;> (repeat' (first | exact allSub_zero | exact allTags_nil | refine allSub_succ' ?_ (Ty.sub_any _) | refine allSub_succ' ?_ (Ty.sub_refl _) | refine allTags_cons rfl (Cont.sub_refl _) ?_)))
              ·
                refine t_seq ?_
                refine t_region ?_
                refine r_bin rfl rfl rfl ?_
                refine r_nil ?_
                refine i_then ?_
                refine t_seq ?_
                refine t_cond_dec rfl (fun hc5 => ?_) (fun hc5 => ?_)
                ·
                  refine t_skip ?_
                  refine i_then ?_
                  refine t_seq ?_
                  refine t_block ?_
                  refine t_seq ?_
                  refine t_region ?_
                  refine r_index_slN rfl rfl rfl rfl rfl rfl (by omega) ?_
                  refine r_load_ppN rfl rfl rfl (by exact Nat.le_of_ble_eq_true rfl) ?_
                  refine r_alloc rfl (by exact List.cons_ne_nil _ _) rfl ?_
                  refine r_storeN rfl rfl (by decide) rfl rfl rfl rfl rfl rfl ?_
                  refine r_nil ?_
                  refine i_then ?_
                  have htk := hok.ok _ (nth_mem (xs := nth (allR b (headR x.1) g) k) (k := j.1) (by omega))
                  have htm := take_moved (p := headR x.1) (l := nth (allR b (headR x.1) g) k) (j := j.1) (by omega)
                  have htl : (0 : Int) ≤ (nth (nth (allR b (headR x.1) g) k) j.1).lot ∧ (nth (nth (allR b (headR x.1) g) k) j.1).lot < b.lots.length := htk.1
                  refine t_region ?_
                  refine r_field_ptr rfl rfl rfl rfl rfl (by decide) ?_
                  refine r_load_ptr rfl rfl (by decide) rfl rfl rfl ?_
                  refine r_field_ptr rfl rfl rfl rfl rfl (by decide) ?_
                  refine r_load_ptr rfl rfl (by decide) rfl rfl rfl ?_
                  refine r_index_ptrI (n := 6) rfl rfl rfl rfl rfl htl.1 (by omega) ?_
                  refine r_store1 (l' := plT (moved (movedAll (headR x.1) ((nth (allR b (headR x.1) g) k).take j.1)) (nth (nth (allR b (headR x.1) g) k) j.1))) rfl rfl (by decide) rfl rfl (by exact (rfl : _ = Ty.int _ _)) rfl (by show 0 + _ * 1 < 6; omega) rfl rfl (pl_moved _ _ (by omega)) ?_
                  refine r_nil ?_
                  refine i_block ?_
                  refine i_then ?_
                  refine t_region ?_
                  refine r_add rfl rfl (by omega) (by omega) ?_
                  refine mvI rfl ?_
                  refine r_nil ?_
                  refine i_round (⟨j.1 + 1, by omega⟩) ?_ (by show (nth (allR b (headR x.1) g) k).length - (j.1 + 1) < (nth (allR b (headR x.1) g) k).length - j.1; omega)
                  (refine Ent.mk' ?_ ?_ <;> (repeat' (first | exact allSub_zero | exact allTags_nil | exact subs_nil | refine allSub_succ' ?_ (Ty.sub_any _) | refine allSub_succ' ?_ (Ty.sub_refl _) | refine allTags_cons rfl (Cont.sub_refl _) ?_ | refine allTags_cons rfl (Cont.sub_subs ?_) ?_ | refine subs_cons ?_ ?_)))
                  all_goals skip
                  all_goals first | exact Ty.sub_int (congrArg (fun p : Pl => nth p.1 0) htm) | exact Ty.sub_int (congrArg (fun p : Pl => nth p.1 1) htm) | exact Ty.sub_int (congrArg (fun p : Pl => nth p.1 2) htm) | exact Ty.sub_int (congrArg (fun p : Pl => nth p.1 3) htm) | exact Ty.sub_int (congrArg (fun p : Pl => nth p.1 4) htm) | exact Ty.sub_int (congrArg (fun p : Pl => nth p.1 5) htm)
                ·
                  refine t_exit ?_
                  refine i_then_exit ?_
                  refine i_then_exit ?_
                  refine i_block_exit rfl ?_
                  refine i_then ?_
                  refine t_seq ?_
                  refine t_forget (B := live [(1, Ty.int .i64 g), (6, Ty.pe DeskE ⟨b, firstP b⟩ 0), (8, Ty.ptr 9 0), (9, Ty.ptr 10 0), (10, Ty.ptr 11 0), (11, Ty.sl TurE (nth (allR b (headR x.1) g) k)), (12, Ty.ptr 13 0)] [(9, Cont.cells 125 [Ty.mp 27, Ty.int .i64 0, Ty.int .i64 0, Ty.int .i64 0, Ty.int .i64 0, Ty.int .i64 0, Ty.int .i64 0, Ty.bool false]), (10, Cont.cells 148 [Ty.rowO PlE 123 4100 (foldR b g (headR x.1) (restR x.1) k).queue]), (11, Cont.cells 123 (plT (headR x.1))), (13, Cont.cells 123 (plT (movedAll (headR x.1) ((nth (allR b (headR x.1) g) k).take j.1)))), (27, Cont.mp (encN 6) WayV (foldR b g (headR x.1) (restR x.1) k).ways)]) ?_ ?_
                  · (refine Ent.mk' ?_ ?_ <;> (repeat' (first | exact allSub_zero | exact allTags_nil | refine allSub_succ' ?_ (Ty.sub_any _) | refine allSub_succ' ?_ (Ty.sub_refl _) | refine allTags_cons rfl (Cont.sub_refl _) ?_)))
                  refine t_asC (tg := 13) rfl (Cont.sub_cells (congrArg plT (show movedAll (headR x.1) ((nth (allR b (headR x.1) g) k).take j.1) = movedAll (headR x.1) (nth (allR b (headR x.1) g) k) by rw [List.take_of_length_le (by omega)]))) ?_
                  refine t_region ?_
                  refine r_field_ptr rfl rfl rfl rfl rfl (by decide) ?_
                  refine r_load_ptr rfl rfl (by decide) rfl rfl rfl ?_
                  refine r_load_ptrN rfl rfl (by decide) rfl rfl (by exact Nat.le_of_ble_eq_true rfl) ?_
                  refine r_lookup2 plKey (k := movedAll (headR x.1) (nth (allR b (headR x.1) g) k)) (z0 := way0) rfl rfl (by decide) rfl (key_pl _) mapT121 zero147 way_zero ?_
                  refine mvT rfl ?_
                  refine r_extract rfl rfl ?_
                  refine r_extract rfl rfl ?_
                  refine r_alloc rfl (by exact List.cons_ne_nil _ _) rfl ?_
                  refine r_storeN rfl rfl (by decide) rfl rfl rfl rfl rfl rfl ?_
                  refine asB rfl ?_
                  refine r_nil ?_
                  refine i_then ?_
                  refine t_seq ?_
                  refine t_region ?_
                  refine mvB rfl ?_
                  refine r_not rfl ?_
                  refine r_nil ?_
                  refine i_then ?_
                  refine t_cond rfl (fun hc6 => ?_) (fun hc6 => ?_)
                  ·
                    refine t_seq ?_
                    refine t_region ?_
                    refine r_field_ptr rfl rfl rfl rfl rfl (by decide) ?_
                    refine r_load_ptr rfl rfl (by decide) rfl rfl rfl ?_
                    refine r_load_ptrN rfl rfl (by decide) rfl rfl (by exact Nat.le_of_ble_eq_true rfl) ?_
                    refine r_load_ptrN rfl rfl (by decide) rfl rfl (by exact Nat.le_of_ble_eq_true rfl) ?_
                    refine mvS rfl ?_
                    refine r_build rfl rfl (by exact List.cons_ne_nil _ _) rfl (by repeat (first | exact (Parts.nil : Parts _ _ [] _) | (show Parts _ _ ((_, _) :: _) _; apply Parts.one; (· first | exact (rfl : _ = Ty.int _ _) | exact (rfl : _ = Ty.sl _ _)); (· exact rfl)) | (show Parts _ _ ((_, _) :: _) _; apply Parts.agg; (· exact (rfl : _ = Ty.agg _))))) (by exact rfl) ?_
                    refine r_mapUpdate plKey (k := movedAll (headR x.1) (nth (allR b (headR x.1) g) k)) (v := ⟨headR x.1, nth (allR b (headR x.1) g) k, 0⟩) rfl rfl (by decide) rfl (key_pl _) rfl rfl mapT121 ?_
                    refine r_nil ?_
                    refine i_then ?_
                    refine t_region ?_
                    refine r_load_ptr rfl rfl (by decide) rfl rfl rfl ?_
                    refine r_load_ptrN rfl rfl (by decide) rfl rfl (by exact Nat.le_of_ble_eq_true rfl) ?_
                    refine r_buildSlice (E := PlE) (xs := [movedAll (headR x.1) (nth (allR b (headR x.1) g) k)]) rfl rfl rfl rfl rfl (by decide) (by decide) (by repeat (first | exact (Parts.nil : Parts _ _ [] _) | (show Parts _ _ ((_, _) :: _) _; apply Parts.agg; (· exact (rfl : _ = Ty.agg _))))) (by exact rfl) rfl ?_
                    refine r_appendO rfl rfl (by decide) rfl (by show 0 < 1; decide) rfl rfl rfl rfl rfl (by decide) (by show (_ + 1) * 48 ≤ _; omega) (by show _ + 1 ≤ _; omega) ?_
                    refine r_store1 (ty := Ty.rowO PlE 123 4100 ((foldR b g (headR x.1) (restR x.1) k).queue ++ [movedAll (headR x.1) (nth (allR b (headR x.1) g) k)])) rfl rfl (by decide) rfl rfl rfl rfl (by exact Nat.le_of_ble_eq_true rfl) rfl rfl (by exact (rfl : _ = [_])) ?_
                    refine r_nil ?_
                    refine i_block ?_
                    refine q_normal ?_
                    (refine Ent.mk' ?_ ?_ <;> (repeat' (first | exact allSub_zero | exact allTags_nil | exact subs_nil | refine allSub_succ' ?_ (Ty.sub_any _) | refine allTags_cons rfl (Cont.sub_refl _) ?_ | refine allTags_cons rfl (Cont.sub_subs ?_) ?_ | refine subs_cons ?_ ?_ | refine allTags_cons rfl ?_ ?_)))
                    all_goals first | exact Ty.sub_eq (congrArg (Ty.rowO PlE 123 4100) (frR_no hk1 (not_a' hc6)).2) | exact Cont.sub_mp (frR_no hk1 (not_a' hc6)).1
                  ·
                    refine t_skip ?_
                    refine i_block ?_
                    refine q_normal ?_
                    (refine Ent.mk' ?_ ?_ <;> (repeat' (first | exact allSub_zero | exact allTags_nil | exact subs_nil | refine allSub_succ' ?_ (Ty.sub_any _) | refine allTags_cons rfl (Cont.sub_refl _) ?_ | refine allTags_cons rfl (Cont.sub_subs ?_) ?_ | refine subs_cons ?_ ?_ | refine allTags_cons rfl ?_ ?_)))
                    all_goals first | exact Ty.sub_eq (congrArg (fun z : RSt => Ty.rowO PlE 123 4100 z.queue) (frR_yes hk1 (not_b' hc6))) | exact Cont.sub_mp (congrArg RSt.ways (frR_yes hk1 (not_b' hc6)))
          ·
            refine i_block ?_
            refine i_block ?_
            refine i_round (⟨foldR b g (headR x.1) (restR x.1) (allR b (headR x.1) g).length, (x.2.1.next hr hg hlen hc3).1, foldR_qlen (by have := x.2.2; show (x.1.queue.drop 1).length ≤ x.1.ways.length + 1; rw [List.length_drop]; omega) _ _⟩) ?_ (by exact (x.2.1.next hr hg hlen hc3).2)
            (refine Ent.mk' ?_ ?_ <;> (repeat' (first | exact allSub_zero | exact allTags_nil | exact subs_nil | refine allSub_succ' ?_ (Ty.sub_any _) | refine allSub_succ' ?_ (Ty.sub_refl _) | refine allTags_cons rfl (Cont.sub_refl _) ?_ | refine allTags_cons rfl (Cont.sub_subs ?_) ?_ | refine subs_cons ?_ ?_ | refine allTags_cons rfl ?_ ?_)))
            all_goals skip
            all_goals first | exact Cont.sub_mp (congrArg (fun n => (foldR b g (headR x.1) (restR x.1) n).ways) (List.length_map _)) | exact Ty.sub_eq (congrArg (fun n => Ty.rowO PlE 123 4100 (foldR b g (headR x.1) (restR x.1) n).queue) (List.length_map _))
      ·
        refine t_exit ?_
        refine i_then_exit ?_
        refine i_then_exit ?_
        refine i_block_exit rfl ?_
        refine i_then ?_
        refine t_seq ?_
        refine t_seq ?_
        refine t_region ?_
        refine r_field_ptr rfl rfl rfl rfl rfl (by decide) ?_
        refine r_load_ptr rfl rfl (by decide) rfl rfl rfl ?_
        refine r_not rfl ?_
        refine r_nil ?_
        refine i_then ?_
        refine t_cond_tt rfl (rfl) ?_
        refine t_seq ?_
        refine t_region ?_
        refine asX rfl ?_
        refine asI rfl ?_
        refine r_nil ?_
        refine i_then ?_
        refine t_ret ?_
        refine i_then_ret ?_
        refine m_ret rfl ?_
        refine i_rp2 rfl rfl rfl ?_ ?_
        all_goals skip
        all_goals first | exact ret_nil_eq (roundsV_3 hc1 (x.2.1.same.stop (stepR_end (List.length_eq_zero_iff.1 (queue_no hc2)))) rfl) | exact ret_eq rfl rfl (congrArg (Ty.int .i64) (roundsE_3 hc1 (x.2.1.same.stop (stepR_end (List.length_eq_zero_iff.1 (queue_no hc2)))) rfl).symm)
set_option maxRecDepth 100000 in
theorem c_Least (b : Barn) (hs : b.Small) (g : Int) : Ctr Try.prog 55 [barnT b, Ty.int .i64 g] (Ty.tup [Ty.int .i64 (roundsV b g).length, Ty.int .i64 (roundsE b g)]) := by
  refine fn_intro Try.func55 rfl (by decide) Try.ntmps55 (by exact Nat.le_of_ble_eq_true rfl) fun w0 M0 => ?_
  refine t_seq ?_
  refine t_region ?_
  refine r_box_agg rfl ?_
  refine asI rfl ?_
  refine asI rfl ?_
  refine r_nil ?_
  refine i_then ?_
  refine t_seq ?_
  refine t_region ?_
  refine r_load_ppN rfl rfl rfl (by exact Nat.le_of_ble_eq_true rfl) ?_
  refine mvI rfl ?_
  refine r_call (c_Rounds b hs g) rfl rfl rfl rfl rfl ?_
  refine mvT rfl ?_
  refine r_extract rfl rfl ?_
  refine r_extract rfl rfl ?_
  refine asS rfl ?_
  refine asI rfl ?_
  refine r_nil ?_
  refine i_then ?_
  refine t_seq ?_
  refine t_region ?_
  refine mvS rfl ?_
  refine r_len rfl rfl rfl ?_
  refine mvI rfl ?_
  refine asI rfl ?_
  refine asI rfl ?_
  refine r_nil ?_
  refine i_then ?_
  refine t_ret ?_
  refine i_rp2 rfl rfl rfl ?_ ?_
  all_goals exact ret_refl rfl rfl
end Go.Proofs.Ytpnndljmhpepgaa

namespace Go.Proofs.Ytpnndljmhpepgaa
open Go Go.T
def three (l : List Int) : Barn := ⟨[50, 50, 50] ++ l, [⟨30, 0, 1⟩, ⟨20, 1, 0⟩, ⟨40, 2, 2⟩]⟩
def okRun (b : Barn) (c : Tur → Int) (all : Bool) (n : Nat) (P : Found → Bool) : Bool := match runN b c all n (st0 b) with
  | some f => P f
  | none => false
theorem run_ok {b : Barn} {c : Tur → Int} {all : Bool} {n : Nat} {P : Found → Bool} (h : okRun b c all n P = true) : P (searchM b c all) = true := by
  unfold okRun at h
  cases e : runN b c all n (st0 b) with
  | none => rw [e] at h; cases h
  | some f => rw [e] at h; rw [searchM_eq ⟨n, e⟩]; exact h
def okRunR (b : Barn) (g : Int) (n : Nat) (P : Found → Bool) : Bool := match runR b g n (rst0 b) with
  | some f => P f
  | none => false
theorem runR_ok {b : Barn} {g : Int} {n : Nat} {P : Found → Bool} (h : okRunR b g n P = true) : P (roundsM b g) = true := by
  unfold okRunR at h
  cases e : runR b g n (rst0 b) with
  | none => rw [e] at h; cases h
  | some f => rw [e] at h; rw [roundsM_eq ⟨n, e⟩]; exact h
theorem three_ok1 : checkB (three [50]) = 0 := by decide
theorem three_ok2 : checkB (three [15]) = 0 := by decide
theorem ex1 : okRun (three [50]) oneC false 100 (fun f => f.is && decide (((mget f.ways f.last).getD way0).all = 3)) = true := by kernel_rfl
theorem ex2 : okRun (three [50]) (sackC (three [50])) false 400 (fun f => f.is && decide (((mget f.ways f.last).getD way0).all = 70)) = true := by kernel_rfl
theorem ex3 : okRun (three [15]) oneC false 100 (fun f => !f.is) = true := by kernel_rfl
theorem ex4 : okRun (three [15]) oneC true 100 (fun f => decide (f.ways.length = 1)) = true := by kernel_rfl
def chainF (ways : List (Pl × Way)) (first : Pl) : Nat → Pl → Option (List (List Tur))
  | 0, p => if p = first then some [] else none
  | n + 1, p => if p = first then some [] else match mget ways p with
    | none => none
    | some w => (chainF ways first n w.frm).map fun A => A ++ [w.byT]
theorem chainF_spec {ways : List (Pl × Way)} {first : Pl} : ∀ {n : Nat} {p : Pl} {A : List (List Tur)}, chainF ways first n p = some A → Chain ways first p A
  | 0, p, A, h => by
    unfold chainF at h
    by_cases e : p = first
    · rw [if_pos e] at h; injection h with h; subst h; subst e; exact .nil
    · rw [if_neg e] at h; cases h
  | n + 1, p, A, h => by
    unfold chainF at h
    by_cases e : p = first
    · rw [if_pos e] at h; injection h with h; subst h; subst e; exact .nil
    · rw [if_neg e] at h
      cases hw : mget ways p with
      | none => rw [hw] at h; cases h
      | some w =>
        rw [hw] at h
        obtain ⟨B, hB, rfl⟩ := Option.map_eq_some_iff.1 h
        exact .snoc e hw (chainF_spec hB)
def lenIs (b : Barn) (f : Found) (n : Nat) : Bool := match chainF f.ways (firstP b) 20 f.last with
  | some A => decide (A.length = n)
  | none => false
theorem lenIs_spec {b : Barn} {f : Found} {n : Nat} (h : lenIs b f n = true) : (chainM f.ways (firstP b) f.last).length = n := by
  unfold lenIs at h
  cases e : chainF f.ways (firstP b) 20 f.last with
  | none => rw [e] at h; cases h
  | some A => rw [e] at h; rw [chainM_spec (chainF_spec e)]; exact of_decide_eq_true h
theorem ex5 : okRunR (three [50, 50]) 2 200 (fun f => f.is && lenIs (three [50, 50]) f 2) = true := by kernel_rfl
theorem two_of {a b : Bool} (h : (a && b) = true) : a = true ∧ b = true := by simpa using h
theorem aw1 : costR (three [50]) oneC = 3 := by
  have h := two_of (run_ok ex1)
  unfold costR costV; rw [if_pos three_ok1, if_pos h.1]; exact of_decide_eq_true h.2
theorem aw2 : planE (three [50]) oneC = 0 := by
  have h := two_of (run_ok ex1)
  unfold planE; rw [if_pos three_ok1, if_pos h.1]
theorem aw3 : costR (three [50]) (sackC (three [50])) = 70 := by
  have h := two_of (run_ok ex2)
  unfold costR costV; rw [if_pos three_ok1, if_pos h.1]; exact of_decide_eq_true h.2
theorem aw4 : planE (three [50]) (sackC (three [50])) = 0 := by
  have h := two_of (run_ok ex2)
  unfold planE; rw [if_pos three_ok1, if_pos h.1]
theorem aw5 : planE (three [15]) oneC = 7 := by
  have h := run_ok ex3
  unfold planE; rw [if_pos three_ok2, if_neg (by simpa using h)]
theorem aw6 : placesV (three [15]) = 1 := by
  have h := run_ok ex4
  unfold placesV; rw [if_pos three_ok2, of_decide_eq_true h]; rfl
theorem aw7 : showV (three [50]) [[1, 0]] = (3, 0) := by kernel_rfl
theorem aw8 : ((roundsV (three [50, 50]) 2).length : Int) = 2 := by
  have h := two_of (runR_ok ex5)
  have ha : askE (three [50, 50]) 2 = 0 := by decide
  unfold roundsV; rw [if_pos ha, if_pos h.1, lenIs_spec h.2]; rfl
theorem aw9 : roundsE (three [50, 50]) 2 = 0 := by
  have h := two_of (runR_ok ex5)
  have ha : askE (three [50, 50]) 2 = 0 := by decide
  unfold roundsE; rw [if_pos ha, if_pos h.1]
def exPlan : List Tur := [⟨1, 3⟩, ⟨0, 1⟩, ⟨1, 0⟩]
theorem aw10 : makesB (three [25]) exPlan = true := by kernel_rfl
theorem aw11 : (doneV (three [25]) exPlan).2.2 = 0 := by kernel_rfl
theorem three_small {l : List Int} (h : l.length ≤ 9) : (three l).Small := ⟨by show ([50, 50, 50] ++ l).length ≤ 12; rw [List.length_append]; simp; omega, by show 3 ≤ 10; decide⟩
end Go.Proofs.Ytpnndljmhpepgaa

namespace Go.Proofs.Ytpnndljmhpepgaa
open Go Go.T
set_option maxHeartbeats 4000000
attribute [local irreducible] costR planE placesV showV roundsV roundsE makesB doneV planR sackC
attribute [local irreducible] dInt dBool dSl dPp dPtr dAgg dTup dClo dAny dEx dStr dGd dCells dVec dVs dRow dOp nth Tri Into TOps Ctr bodyPost Exit.then Exit.inBlock Code.wp Code.wpIn dWhen dPa dPe dAo dArr dMp dPm dMap dCJ CtrG CtrI OpY keepPost iterPost bodyPostM roundQ
set_option maxRecDepth 100000 in
theorem c_Three (l : List Int) (h : l.length ≤ 9) : Ctr Try.prog 67 [Ty.sl I64 l] (barnT (three l)) := by
  refine fn_intro Try.func67 rfl (by decide) Try.ntmps67 (by exact Nat.le_of_ble_eq_true rfl) fun w0 M0 => ?_
  refine t_seq ?_
  refine t_region ?_
  refine r_alloc rfl (by exact List.cons_ne_nil _ _) rfl ?_
  refine r_nil ?_
  refine i_then ?_
  refine t_seq ?_
  refine t_region ?_
  refine r_buildRowN (E := I64) (xs := [50, 50, 50]) rfl rfl rfl rfl rfl (by decide) (by decide) (by repeat (first | exact (Parts.nil : Parts _ _ [] _) | (show Parts _ _ ((_, _) :: _) _; apply Parts.one; (· exact (rfl : _ = Ty.int _ _)); (· exact rfl)))) (by exact rfl) rfl rfl ?_
  refine mvS rfl ?_
  refine r_append rfl rfl (by decide) rfl rfl rfl rfl rfl rfl (by decide) (by (simp <;> omega)) (by (simp <;> omega)) ?_
  refine r_build rfl rfl (by exact List.cons_ne_nil _ _) rfl (by repeat (first | exact (Parts.nil : Parts _ _ [] _) | (show Parts _ _ ((_, _) :: _) _; apply Parts.one; (· exact (rfl : _ = Ty.int _ _)); (· exact rfl)))) (by exact (rfl : _ = some [_, _, _])) ?_
  refine r_build rfl rfl (by exact List.cons_ne_nil _ _) rfl (by repeat (first | exact (Parts.nil : Parts _ _ [] _) | (show Parts _ _ ((_, _) :: _) _; apply Parts.one; (· exact (rfl : _ = Ty.int _ _)); (· exact rfl)))) (by exact (rfl : _ = some [_, _, _])) ?_
  refine r_build rfl rfl (by exact List.cons_ne_nil _ _) rfl (by repeat (first | exact (Parts.nil : Parts _ _ [] _) | (show Parts _ _ ((_, _) :: _) _; apply Parts.one; (· exact (rfl : _ = Ty.int _ _)); (· exact rfl)))) (by exact (rfl : _ = some [_, _, _])) ?_
  refine r_buildSlice (E := LotE) (xs := [⟨30, 0, 1⟩, ⟨20, 1, 0⟩, ⟨40, 2, 2⟩]) rfl rfl rfl rfl rfl (by decide) (by decide) (by repeat (first | exact (Parts.nil : Parts _ _ [] _) | (show Parts _ _ ((_, _) :: _) _; apply Parts.agg; (· exact (rfl : _ = Ty.agg _))))) (by exact rfl) rfl ?_
  refine r_build rfl rfl (by exact List.cons_ne_nil _ _) rfl (by repeat (first | exact (Parts.nil : Parts _ _ [] _) | (show Parts _ _ ((_, _) :: _) _; apply Parts.one; (· first | exact (rfl : _ = Ty.sl _ _) | exact (rfl : _ = Ty.row _ _ _ _)); (· exact rfl)))) (by exact (rfl : _ = some [_, _])) ?_
  refine r_storeN rfl rfl (by decide) rfl rfl rfl rfl rfl rfl ?_
  refine r_nil ?_
  refine i_then ?_
  refine t_ret ?_
  refine i_rcell rfl rfl rfl rfl (by decide) rfl rfl rfl ?_
  exact ret_agg ⟨ret_row_eq (by decide) rfl, ret_eq rfl rfl rfl, trivial⟩
set_option maxRecDepth 100000 in
theorem c_awake : Ctr Try.prog 14 [] (Ty.bool true) := by
  refine fn_intro Try.func14 rfl (by decide) Try.ntmps14 (by exact Nat.le_of_ble_eq_true rfl) fun w0 M0 => ?_
  refine t_seq ?_
  refine t_region ?_
  refine asB rfl ?_
  refine r_nil ?_
  refine i_then ?_
  refine t_seq ?_
  refine t_region ?_
  refine r_buildSlice (E := I64) (xs := [_]) rfl rfl rfl rfl rfl (by decide) (by decide) (by repeat (first | exact (Parts.nil : Parts _ _ [] _) | (show Parts _ _ ((_, _) :: _) _; apply Parts.one; (· exact (rfl : _ = Ty.int _ _)); (· exact rfl)))) (by exact rfl) rfl ?_
  refine r_call (c_Three [50] (by decide)) rfl rfl rfl rfl rfl ?_
  refine r_call (c_Fewest (three [50]) (three_small (by decide))) rfl rfl rfl rfl rfl ?_
  refine mvT rfl ?_
  refine r_extract rfl rfl ?_
  refine r_extract rfl rfl ?_
  refine asI rfl ?_
  refine asI rfl ?_
  refine r_nil ?_
  refine i_then ?_
  refine t_seq ?_
  refine t_region ?_
  refine r_buildSlice (E := I64) (xs := [_]) rfl rfl rfl rfl rfl (by decide) (by decide) (by repeat (first | exact (Parts.nil : Parts _ _ [] _) | (show Parts _ _ ((_, _) :: _) _; apply Parts.one; (· exact (rfl : _ = Ty.int _ _)); (· exact rfl)))) (by exact rfl) rfl ?_
  refine r_call (c_Three [50] (by decide)) rfl rfl rfl rfl rfl ?_
  refine r_call (c_Lightest (three [50]) (three_small (by decide))) rfl rfl rfl rfl rfl ?_
  refine mvT rfl ?_
  refine r_extract rfl rfl ?_
  refine r_extract rfl rfl ?_
  refine r_extract rfl rfl ?_
  refine asS rfl ?_
  refine asI rfl ?_
  refine asI rfl ?_
  refine r_nil ?_
  refine i_then ?_
  refine t_seq ?_
  refine t_region ?_
  refine r_buildSlice (E := I64) (xs := [_]) rfl rfl rfl rfl rfl (by decide) (by decide) (by repeat (first | exact (Parts.nil : Parts _ _ [] _) | (show Parts _ _ ((_, _) :: _) _; apply Parts.one; (· exact (rfl : _ = Ty.int _ _)); (· exact rfl)))) (by exact rfl) rfl ?_
  refine r_call (c_Three [15] (by decide)) rfl rfl rfl rfl rfl ?_
  refine r_call (c_Fewest (three [15]) (three_small (by decide))) rfl rfl rfl rfl rfl ?_
  refine mvT rfl ?_
  refine r_extract rfl rfl ?_
  refine r_extract rfl rfl ?_
  refine asI rfl ?_
  refine asI rfl ?_
  refine r_nil ?_
  refine i_then ?_
  refine t_seq ?_
  refine t_region ?_
  refine r_buildSlice (E := I64) (xs := [_]) rfl rfl rfl rfl rfl (by decide) (by decide) (by repeat (first | exact (Parts.nil : Parts _ _ [] _) | (show Parts _ _ ((_, _) :: _) _; apply Parts.one; (· exact (rfl : _ = Ty.int _ _)); (· exact rfl)))) (by exact rfl) rfl ?_
  refine r_call (c_Three [15] (by decide)) rfl rfl rfl rfl rfl ?_
  refine r_call (c_Places (three [15]) (three_small (by decide))) rfl rfl rfl rfl rfl ?_
  refine mvT rfl ?_
  refine r_extract rfl rfl ?_
  refine r_extract rfl rfl ?_
  refine asI rfl ?_
  refine asI rfl ?_
  refine r_nil ?_
  refine i_then ?_
  refine t_seq ?_
  refine t_region ?_
  refine r_buildSlice (E := I64) (xs := [_]) rfl rfl rfl rfl rfl (by decide) (by decide) (by repeat (first | exact (Parts.nil : Parts _ _ [] _) | (show Parts _ _ ((_, _) :: _) _; apply Parts.one; (· exact (rfl : _ = Ty.int _ _)); (· exact rfl)))) (by exact rfl) rfl ?_
  refine r_call (c_Three [50] (by decide)) rfl rfl rfl rfl rfl ?_
  refine r_buildSlice (E := I64) (xs := [_, _]) rfl rfl rfl rfl rfl (by decide) (by decide) (by repeat (first | exact (Parts.nil : Parts _ _ [] _) | (show Parts _ _ ((_, _) :: _) _; apply Parts.one; (· exact (rfl : _ = Ty.int _ _)); (· exact rfl)))) (by exact rfl) rfl ?_
  refine r_buildSlice (E := RowE) (xs := [[1, 0]]) rfl rfl rfl rfl rfl (by decide) (by decide) (by repeat (first | exact (Parts.nil : Parts _ _ [] _) | (show Parts _ _ ((_, _) :: _) _; apply Parts.one; (· exact (rfl : _ = Ty.sl _ _)); (· exact rfl)))) (by exact rfl) rfl ?_
  refine r_call (c_Shows (three [50]) (three_small (by decide)) [[1, 0]] (by decide) (by decide)) rfl rfl rfl rfl rfl ?_
  refine mvT rfl ?_
  refine r_extract rfl rfl ?_
  refine r_extract rfl rfl ?_
  refine asI rfl ?_
  refine asI rfl ?_
  refine r_nil ?_
  refine i_then ?_
  refine t_seq ?_
  refine t_region ?_
  refine r_buildSlice (E := I64) (xs := [_, _]) rfl rfl rfl rfl rfl (by decide) (by decide) (by repeat (first | exact (Parts.nil : Parts _ _ [] _) | (show Parts _ _ ((_, _) :: _) _; apply Parts.one; (· exact (rfl : _ = Ty.int _ _)); (· exact rfl)))) (by exact rfl) rfl ?_
  refine r_call (c_Three [50, 50] (by decide)) rfl rfl rfl rfl rfl ?_
  refine r_call (c_Least (three [50, 50]) (three_small (by decide)) 2) rfl rfl rfl rfl rfl ?_
  refine mvT rfl ?_
  refine r_extract rfl rfl ?_
  refine r_extract rfl rfl ?_
  refine asI rfl ?_
  refine asI rfl ?_
  refine r_nil ?_
  refine i_then ?_
  refine t_seq ?_
  refine t_region ?_
  refine r_buildSlice (E := I64) (xs := [_]) rfl rfl rfl rfl rfl (by decide) (by decide) (by repeat (first | exact (Parts.nil : Parts _ _ [] _) | (show Parts _ _ ((_, _) :: _) _; apply Parts.one; (· exact (rfl : _ = Ty.int _ _)); (· exact rfl)))) (by exact rfl) rfl ?_
  refine r_call (c_Three [25] (by decide)) rfl rfl rfl rfl rfl ?_
  refine r_build rfl rfl (by exact List.cons_ne_nil _ _) rfl (by repeat (first | exact (Parts.nil : Parts _ _ [] _) | (show Parts _ _ ((_, _) :: _) _; apply Parts.one; (· exact (rfl : _ = Ty.int _ _)); (· exact rfl)))) (by exact (rfl : _ = some [_, _])) ?_
  refine r_build rfl rfl (by exact List.cons_ne_nil _ _) rfl (by repeat (first | exact (Parts.nil : Parts _ _ [] _) | (show Parts _ _ ((_, _) :: _) _; apply Parts.one; (· exact (rfl : _ = Ty.int _ _)); (· exact rfl)))) (by exact (rfl : _ = some [_, _])) ?_
  refine r_build rfl rfl (by exact List.cons_ne_nil _ _) rfl (by repeat (first | exact (Parts.nil : Parts _ _ [] _) | (show Parts _ _ ((_, _) :: _) _; apply Parts.one; (· exact (rfl : _ = Ty.int _ _)); (· exact rfl)))) (by exact (rfl : _ = some [_, _])) ?_
  refine r_buildSlice (E := TurE) (xs := exPlan) rfl rfl rfl rfl rfl (by decide) (by decide) (by repeat (first | exact (Parts.nil : Parts _ _ [] _) | (show Parts _ _ ((_, _) :: _) _; apply Parts.agg; (· exact (rfl : _ = Ty.agg _))))) (by exact rfl) rfl ?_
  refine r_call (c_Makes (three [25]) (three_small (by decide)) exPlan (by decide)) rfl rfl rfl rfl rfl ?_
  refine mvT rfl ?_
  refine r_extract rfl rfl ?_
  refine r_extract rfl rfl ?_
  refine asB rfl ?_
  refine asI rfl ?_
  refine r_nil ?_
  refine i_then ?_
  refine t_seq ?_
  refine t_as (s := 1) rfl (Ty.sub_int aw1) ?_
  refine t_as (s := 2) rfl (Ty.sub_int aw2) ?_
  refine t_as (s := 4) rfl (Ty.sub_int aw3) ?_
  refine t_as (s := 5) rfl (Ty.sub_int aw4) ?_
  refine t_as (s := 7) rfl (Ty.sub_int aw5) ?_
  refine t_as (s := 8) rfl (Ty.sub_int aw6) ?_
  refine t_as (s := 9) rfl (Ty.sub_int three_ok2) ?_
  refine t_as (s := 10) rfl (Ty.sub_int (congrArg Prod.fst aw7)) ?_
  refine t_as (s := 11) rfl (Ty.sub_int (congrArg Prod.snd aw7)) ?_
  refine t_as (s := 12) rfl (Ty.sub_int aw8) ?_
  refine t_as (s := 13) rfl (Ty.sub_int aw9) ?_
  refine t_as (s := 14) rfl (Ty.sub_bool aw10) ?_
  refine t_as (s := 15) rfl (Ty.sub_int aw11) ?_
  refine t_forget (B := live [(1, Ty.int .i64 3), (2, Ty.int .i64 0), (4, Ty.int .i64 70), (5, Ty.int .i64 0), (7, Ty.int .i64 7), (8, Ty.int .i64 1), (9, Ty.int .i64 0), (10, Ty.int .i64 3), (11, Ty.int .i64 0), (12, Ty.int .i64 2), (13, Ty.int .i64 0), (14, Ty.bool true), (15, Ty.int .i64 0)] []) ?_ ?_
  · (refine Ent.mk' ?_ ?_ <;> (repeat' (first | exact allSub_zero | exact allTags_nil | refine allSub_succ' ?_ (Ty.sub_any _) | refine allSub_succ' ?_ (Ty.sub_refl _))))
  refine t_region ?_
  refine mvI rfl ?_
  refine r_bin rfl rfl rfl ?_
  refine mvB rfl ?_
  apply r_guard (s := 67) rfl rfl rfl
  · intro hg; apply opT_of; (refine mvI rfl ?_); refine r_nil ?_; exact rfl
  · exact rfl
  · exact rfl
  apply r_guard (s := 67) rfl rfl rfl
  · intro hg; apply opT_strip (s := 68) rfl (by exact hg); apply opT_of; (refine r_bin rfl rfl rfl ?_); refine r_nil ?_; exact rfl
  · exact rfl
  · exact rfl
  refine r_and rfl rfl ?_
  refine mvB rfl ?_
  apply r_guard (s := 71) rfl rfl rfl
  · intro hg; apply opT_of; (refine mvI rfl ?_); refine r_nil ?_; exact rfl
  · exact rfl
  · exact rfl
  apply r_guard (s := 71) rfl rfl rfl
  · intro hg; apply opT_strip (s := 72) rfl (by exact hg); apply opT_of; (refine r_bin rfl rfl rfl ?_); refine r_nil ?_; exact rfl
  · exact rfl
  · exact rfl
  refine r_and rfl rfl ?_
  refine mvB rfl ?_
  apply r_guard (s := 75) rfl rfl rfl
  · intro hg; apply opT_of; (refine mvI rfl ?_); refine r_nil ?_; exact rfl
  · exact rfl
  · exact rfl
  apply r_guard (s := 75) rfl rfl rfl
  · intro hg; apply opT_strip (s := 76) rfl (by exact hg); apply opT_of; (refine r_bin rfl rfl rfl ?_); refine r_nil ?_; exact rfl
  · exact rfl
  · exact rfl
  refine r_and rfl rfl ?_
  refine mvB rfl ?_
  apply r_guard (s := 79) rfl rfl rfl
  · intro hg; apply opT_of; (refine mvI rfl ?_); refine r_nil ?_; exact rfl
  · exact rfl
  · exact rfl
  apply r_guard (s := 79) rfl rfl rfl
  · intro hg; apply opT_strip (s := 80) rfl (by exact hg); apply opT_of; (refine r_bin rfl rfl rfl ?_); refine r_nil ?_; exact rfl
  · exact rfl
  · exact rfl
  refine r_and rfl rfl ?_
  refine mvB rfl ?_
  apply r_guard (s := 83) rfl rfl rfl
  · intro hg; apply opT_of; (refine mvI rfl ?_); refine r_nil ?_; exact rfl
  · exact rfl
  · exact rfl
  apply r_guard (s := 83) rfl rfl rfl
  · intro hg; apply opT_strip (s := 84) rfl (by exact hg); apply opT_of; (refine r_bin rfl rfl rfl ?_); refine r_nil ?_; exact rfl
  · exact rfl
  · exact rfl
  refine r_and rfl rfl ?_
  refine mvB rfl ?_
  apply r_guard (s := 87) rfl rfl rfl
  · intro hg; apply opT_of; (refine mvI rfl ?_); refine r_nil ?_; exact rfl
  · exact rfl
  · exact rfl
  apply r_guard (s := 87) rfl rfl rfl
  · intro hg; apply opT_strip (s := 88) rfl (by exact hg); apply opT_of; (refine r_bin rfl rfl rfl ?_); refine r_nil ?_; exact rfl
  · exact rfl
  · exact rfl
  refine r_and rfl rfl ?_
  refine mvB rfl ?_
  apply r_guard (s := 91) rfl rfl rfl
  · intro hg; apply opT_of; (refine mvI rfl ?_); refine r_nil ?_; exact rfl
  · exact rfl
  · exact rfl
  apply r_guard (s := 91) rfl rfl rfl
  · intro hg; apply opT_strip (s := 92) rfl (by exact hg); apply opT_of; (refine r_bin rfl rfl rfl ?_); refine r_nil ?_; exact rfl
  · exact rfl
  · exact rfl
  refine r_and rfl rfl ?_
  refine mvB rfl ?_
  apply r_guard (s := 95) rfl rfl rfl
  · intro hg; apply opT_of; (refine mvI rfl ?_); refine r_nil ?_; exact rfl
  · exact rfl
  · exact rfl
  apply r_guard (s := 95) rfl rfl rfl
  · intro hg; apply opT_strip (s := 96) rfl (by exact hg); apply opT_of; (refine r_bin rfl rfl rfl ?_); refine r_nil ?_; exact rfl
  · exact rfl
  · exact rfl
  refine r_and rfl rfl ?_
  refine mvB rfl ?_
  apply r_guard (s := 99) rfl rfl rfl
  · intro hg; apply opT_of; (refine mvI rfl ?_); refine r_nil ?_; exact rfl
  · exact rfl
  · exact rfl
  apply r_guard (s := 99) rfl rfl rfl
  · intro hg; apply opT_strip (s := 100) rfl (by exact hg); apply opT_of; (refine r_bin rfl rfl rfl ?_); refine r_nil ?_; exact rfl
  · exact rfl
  · exact rfl
  refine r_and rfl rfl ?_
  refine mvB rfl ?_
  apply r_guard (s := 103) rfl rfl rfl
  · intro hg; apply opT_of; (refine mvI rfl ?_); refine r_nil ?_; exact rfl
  · exact rfl
  · exact rfl
  apply r_guard (s := 103) rfl rfl rfl
  · intro hg; apply opT_strip (s := 104) rfl (by exact hg); apply opT_of; (refine r_bin rfl rfl rfl ?_); refine r_nil ?_; exact rfl
  · exact rfl
  · exact rfl
  refine r_and rfl rfl ?_
  refine mvB rfl ?_
  apply r_guard (s := 107) rfl rfl rfl
  · intro hg; apply opT_of; (refine mvI rfl ?_); refine r_nil ?_; exact rfl
  · exact rfl
  · exact rfl
  apply r_guard (s := 107) rfl rfl rfl
  · intro hg; apply opT_strip (s := 108) rfl (by exact hg); apply opT_of; (refine r_bin rfl rfl rfl ?_); refine r_nil ?_; exact rfl
  · exact rfl
  · exact rfl
  refine r_and rfl rfl ?_
  refine mvB rfl ?_
  apply r_guard (s := 111) rfl rfl rfl
  · intro hg; apply opT_of; (refine mvB rfl ?_); refine r_nil ?_; exact rfl
  · exact rfl
  · exact rfl
  refine r_and rfl rfl ?_
  refine asB rfl ?_
  refine r_nil ?_
  refine i_then ?_
  refine t_ret ?_
  refine i_rp1 rfl rfl ?_
  all_goals exact ret_refl rfl rfl
  skip
end Go.Proofs.Ytpnndljmhpepgaa

namespace Go.Proofs.Ytpnndljmhpepgaa
open Go Go.T
structure Sk where
  grain : List Int
  taken : Int
  mixed : Int
def U8 : El Int := El.mk' 1 (fun n => [Ty.int .u8 n]) (fun _ => rfl) (fun _ => ⟨rfl, rfl, rfl⟩)
def skTys (s : Sk) : List Ty := [Ty.sl U8 s.grain, Ty.int .i64 s.taken, Ty.int .u32 s.mixed]
def mixB (s : Sk) : Int := IntKind.u32.wrap (bits .xor .u32 s.mixed (IntKind.u32.wrap (nth s.grain (s.taken.tmod s.grain.length).toNat)) * 16777619)
def skMix1 (s : Sk) : Sk := if (s.grain.length : Int) > 0 then { s with mixed := mixB s } else s
def skTake (s : Sk) : Sk := { s with taken := s.taken + 1 }
def mixC (s : Sk) : Int := IntKind.u32.wrap (IntKind.u32.wrap (s.mixed * 1664525) + 1013904223)
def skMix2 (s : Sk) : Sk := if s.taken > (s.grain.length : Int) then { s with mixed := mixC s } else s
theorem skMix2_pos {s : Sk} (h : (s.grain.length : Int) < s.taken) : skMix2 s = { s with mixed := mixC s } := if_pos h
theorem skMix2_neg {s : Sk} (h : ¬ (s.grain.length : Int) < s.taken) : skMix2 s = s := if_neg h
def skNext (s : Sk) : Sk := skMix2 (skTake (skMix1 s))
theorem skNext_neg {s : Sk} (h : ¬ ((skMix1 s).grain.length : Int) < (skMix1 s).taken + 1) : (skMix1 s).mixed = (skNext s).mixed := (congrArg Sk.mixed (skMix2_neg (s := skTake (skMix1 s)) h)).symm
def skVal (s : Sk) : Int := IntKind.i64.wrap (bits .and .u32 (bits .xor .u32 s.mixed (s.mixed / 2 ^ (15 : Int).toNat) / 2 ^ (8 : Int).toNat) 65535)
def Sk.Ok (s : Sk) (n : Int) : Prop := 0 ≤ s.taken ∧ s.taken + n ≤ 4611686018427387904
theorem skMix1_pos {s : Sk} (h : (0 : Int) < s.grain.length) : skMix1 s = { s with mixed := mixB s } := if_pos h
theorem skMix1_neg {s : Sk} (h : ¬ (0 : Int) < s.grain.length) : skMix1 s = s := if_neg h
theorem tmod_in {a b : Int} (ha : 0 ≤ a) (hb : 0 < b) : 0 ≤ a.tmod b ∧ a.tmod b < b := by
  rw [Int.tmod_eq_emod_of_nonneg ha]
  exact ⟨Int.emod_nonneg _ (by omega), Int.emod_lt_of_pos _ hb⟩
theorem skMix1_taken (s : Sk) : (skMix1 s).taken = s.taken := by unfold skMix1; split <;> rfl
theorem skMix1_grain (s : Sk) : (skMix1 s).grain = s.grain := by unfold skMix1; split <;> rfl
theorem skMix2_taken (s : Sk) : (skMix2 s).taken = s.taken := by unfold skMix2; split <;> rfl
theorem skMix2_grain (s : Sk) : (skMix2 s).grain = s.grain := by unfold skMix2; split <;> rfl
theorem skNext_taken (s : Sk) : (skNext s).taken = s.taken + 1 := by unfold skNext; rw [skMix2_taken, skTake, skMix1_taken]
theorem bits_and_ffff (a : Int) : 0 ≤ bits .and .u32 a 65535 ∧ bits .and .u32 a 65535 ≤ 65535 := by
  have e : bits .and .u32 a 65535 = IntKind.u32.wrap (((BitVec.ofInt 32 a &&& BitVec.ofInt 32 65535).toNat : Nat) : Int) := rfl
  have h1 : (BitVec.ofInt 32 a &&& BitVec.ofInt 32 65535).toNat ≤ 65535 := by
    rw [BitVec.toNat_and]
    exact Nat.and_le_right
  rw [e]
  generalize (BitVec.ofInt 32 a &&& BitVec.ofInt 32 65535).toNat = n at h1
  have : IntKind.u32.wrap (n : Int) = (n : Int) % 4294967296 := rfl
  rw [this]; omega
theorem skVal_bound (s : Sk) : 0 ≤ skVal s ∧ skVal s ≤ 65535 := by
  have h := bits_and_ffff (bits .xor .u32 s.mixed (s.mixed / 2 ^ (15 : Int).toNat) / 2 ^ (8 : Int).toNat)
  unfold skVal
  rw [IntWalk.i64_in _ (by omega)]; exact h
def skBelow (s : Sk) (n : Int) : Int := (skVal (skNext s)).tmod (max 1 n)
theorem skBelow_bound (s : Sk) (n : Int) : 0 ≤ skBelow s n ∧ skBelow s n < max 1 n ∧ skBelow s n ≤ 65535 := by
  have h := skVal_bound (skNext s)
  unfold skBelow
  have h1 : (skVal (skNext s)).tmod (max 1 n) = skVal (skNext s) % max 1 n := Int.tmod_eq_emod_of_nonneg h.1
  have h2 := Int.emod_lt_of_pos (skVal (skNext s)) (show 0 < max 1 n by omega)
  have h3 := Int.emod_nonneg (skVal (skNext s)) (show max 1 n ≠ 0 by omega)
  have h4 : skVal (skNext s) % max 1 n ≤ skVal (skNext s) := by
    have := Int.mul_ediv_add_emod (skVal (skNext s)) (max 1 n)
    have hq : 0 ≤ skVal (skNext s) / max 1 n := Int.ediv_nonneg h.1 (by omega)
    have : 0 ≤ max 1 n * (skVal (skNext s) / max 1 n) := Int.mul_nonneg (by omega) hq
    omega
  omega
def skAmong (s : Sk) (lo hi : Int) : Int := lo + skBelow s (hi - lo + 1)
def skRare (s : Sk) (n : Int) : Bool := decide (skBelow s n = 0)
def skFill (grain : List Int) : Sk := ⟨grain, 0, bits .xor .u32 2166136261 (IntKind.u32.wrap grain.length)⟩
theorem skFill_ok (g : List Int) : (skFill g).Ok 4000000000000000000 := by unfold skFill Sk.Ok; simp
def modM (v n : Int) : Int := if n < 1 then 0 else (v.tmod n + n).tmod n
def insL (xs : List Int) (i : Nat) (k : Int) : List Int := xs.take i ++ k :: xs.drop i
theorem insL_len {xs : List Int} {i : Nat} (h : i ≤ xs.length) (k : Int) : (insL xs i k).length = xs.length + 1 := by simp [insL]; omega
theorem insL_mem {xs : List Int} {i : Nat} {k x : Int} : x ∈ insL xs i k ↔ x = k ∨ x ∈ xs := by
  unfold insL
  rw [List.mem_append, List.mem_cons]
  constructor
  · rintro (h | rfl | h)
    · exact .inr (List.mem_of_mem_take h)
    · exact .inl rfl
    · exact .inr (List.mem_of_mem_drop h)
  · rintro (rfl | h)
    · exact .inr (.inl rfl)
    · rw [← List.take_append_drop i xs, List.mem_append] at h
      exact h.imp id .inr
theorem insL_nodup {xs : List Int} {i : Nat} {k : Int} (h : xs.Nodup) (hk : k ∉ xs) : (insL xs i k).Nodup := by
  unfold insL
  have h2 : (xs.take i ++ xs.drop i).Nodup := by rw [List.take_append_drop]; exact h
  rw [List.nodup_append] at h2 ⊢
  obtain ⟨a, b, c⟩ := h2
  refine ⟨a, List.nodup_cons.2 ⟨fun h => hk (List.mem_of_mem_drop h), b⟩, fun x hx y hy => ?_⟩
  rcases List.mem_cons.1 hy with rfl | hy
  · rintro rfl; exact hk (List.mem_of_mem_take hx)
  · exact c x hx y hy
def shufUp (s : Sk) : Nat → List Int × Sk
  | 0 => ([], s)
  | k + 1 => (insL (shufUp s k).1 (skBelow (shufUp s k).2 ((k : Int) + 1)).toNat k, skNext (shufUp s k).2)
theorem shuf_spec (s : Sk) : ∀ k, (shufUp s k).1.length = k ∧ (shufUp s k).1.Nodup ∧ (∀ x, x ∈ (shufUp s k).1 ↔ 0 ≤ x ∧ x < (k : Int)) ∧ (shufUp s k).2.taken = s.taken + k
  | 0 => ⟨rfl, List.nodup_nil, fun x => ⟨fun h => (by cases h), fun h => by omega⟩, by simp [shufUp]⟩
  | k + 1 => by
    obtain ⟨h1, h2, h3, h4⟩ := shuf_spec s k
    have hb := skBelow_bound (shufUp s k).2 ((k : Int) + 1)
    refine ⟨?_, insL_nodup h2 (fun h => by have := (h3 _).1 h; omega), fun x => ?_, ?_⟩
    · show (insL _ _ _).length = _
      rw [insL_len (by omega), h1]
    · show x ∈ insL _ _ _ ↔ _
      rw [insL_mem, h3]; omega
    · show (skNext _).taken = _
      rw [skNext_taken, h4]; omega
end Go.Proofs.Ytpnndljmhpepgaa

namespace Go.Proofs.Ytpnndljmhpepgaa
open Go Go.T
set_option maxHeartbeats 2000000
attribute [local irreducible] dInt dBool dSl dPp dPtr dAgg dTup dClo dAny dEx dStr dGd dCells dVec dVs dRow dOp nth Tri Into TOps Ctr bodyPost Exit.then Exit.inBlock Code.wp Code.wpIn dWhen dPa dPe dAo dArr dMp dPm dMap dCJ CtrG CtrI OpY keepPost iterPost bodyPostM roundQ
set_option maxRecDepth 100000 in
theorem c_handful (s : Sk) (h : s.Ok 1) : CtrG Try.prog 132 [1000] [(1000, Cont.cells 141 (skTys s))] [Ty.ptr 1000 0] [(1000, Cont.cells 141 (skTys (skNext s)))] (Ty.int .i64 (skVal (skNext s))) := by
  refine fnG_intro Try.func132 rfl (by decide) Try.ntmps132 (by exact Nat.le_of_ble_eq_true rfl) fun w0 M0 => ?_
  have h0 : 0 ≤ s.taken ∧ s.taken + 1 ≤ 4611686018427387904 := h
  refine t_seq ?_
  refine t_region ?_
  refine asI rfl ?_
  refine r_nil ?_
  refine i_then ?_
  refine t_join (J := live [(0, Ty.ptr 1000 0)] [(1000, Cont.cells 141 (skTys (skMix1 s)))]) ?_ ?_
  ·
    refine t_seq ?_
    refine t_region ?_
    refine mvO rfl ?_
    refine r_nilCheck_ptr rfl ?_
    refine r_field_ptr rfl rfl rfl rfl rfl (by decide) ?_
    refine r_load_ptr rfl rfl (by decide) rfl rfl rfl ?_
    refine r_len rfl rfl rfl ?_
    refine asI rfl ?_
    refine r_nil ?_
    refine i_then ?_
    refine t_seq ?_
    refine t_region ?_
    refine mvI rfl ?_
    refine r_bin rfl rfl rfl ?_
    refine r_nil ?_
    refine i_then ?_
    refine t_cond_dec rfl (fun hc1 => ?_) (fun hc1 => ?_)
    ·
      have hm := tmod_in (a := s.taken) (b := s.grain.length) h0.1 (by omega)
      refine t_draw mixed rfl ?_
      refine mvO rfl ?_
      refine mvO rfl ?_
      refine r_nilCheck_ptr rfl ?_
      refine r_field_ptr rfl rfl rfl rfl rfl (by decide) ?_
      refine r_load_ptr rfl rfl (by decide) rfl rfl rfl ?_
      refine mvO rfl ?_
      refine r_nilCheck_ptr rfl ?_
      refine r_field_ptr rfl rfl rfl rfl rfl (by decide) ?_
      refine r_load_ptr rfl rfl (by decide) rfl rfl rfl ?_
      refine mvO rfl ?_
      refine r_nilCheck_ptr rfl ?_
      refine r_field_ptr rfl rfl rfl rfl rfl (by decide) ?_
      refine r_load_ptr rfl rfl (by decide) rfl rfl rfl ?_
      refine mvI rfl ?_
      refine r_rem rfl rfl (by omega) ?_
      refine r_index_sl rfl rfl rfl rfl rfl rfl (by omega) (by omega) ?_
      refine r_load_pp rfl rfl rfl rfl ?_
      refine r_conv rfl rfl rfl rfl ?_
      refine r_bin rfl rfl rfl ?_
      refine r_bin rfl rfl rfl ?_
      refine r_nilCheck_ptr rfl ?_
      refine r_field_ptr rfl rfl rfl rfl rfl (by decide) ?_
      refine r_store1 rfl rfl (by decide) rfl rfl (by exact (rfl : _ = Ty.int _ _)) rfl (by exact Nat.le_of_ble_eq_true rfl) rfl rfl (by exact rfl) ?_
      refine r_nil ?_
      refine ⟨by kernel_rfl, ?_⟩
      refine i_join ?_
      (refine Ent.mk' ?_ ?_ <;> (repeat' (first | exact allSub_zero | exact allTags_nil | exact subs_nil | refine allSub_succ' ?_ (Ty.sub_any _) | refine allSub_succ' ?_ (Ty.sub_refl _) | refine allTags_cons rfl (Cont.sub_subs ?_) ?_ | refine subs_cons ?_ ?_)))
      all_goals first | exact Ty.sub_int (congrArg Sk.mixed (skMix1_pos hc1).symm) | exact Ty.sub_int (skMix1_taken s).symm | exact Ty.sub_sl (skMix1_grain s).symm
    ·
      refine t_skip ?_
      refine i_join ?_
      (refine Ent.mk' ?_ ?_ <;> (repeat' (first | exact allSub_zero | exact allTags_nil | exact subs_nil | refine allSub_succ' ?_ (Ty.sub_any _) | refine allSub_succ' ?_ (Ty.sub_refl _) | refine allTags_cons rfl (Cont.sub_subs ?_) ?_ | refine subs_cons ?_ ?_)))
      all_goals first | exact Ty.sub_int (congrArg Sk.mixed (skMix1_neg hc1).symm) | exact Ty.sub_int (skMix1_taken s).symm | exact Ty.sub_sl (skMix1_grain s).symm
  ·
    refine t_seq ?_
    have h1 := skMix1_taken s
    refine t_region ?_
    refine mvO rfl ?_
    refine r_nilCheck_ptr rfl ?_
    refine r_field_ptr rfl rfl rfl rfl rfl (by decide) ?_
    refine r_load_ptr rfl rfl (by decide) rfl rfl rfl ?_
    refine r_add rfl rfl (by omega) (by omega) ?_
    refine r_nilCheck_ptr rfl ?_
    refine r_field_ptr rfl rfl rfl rfl rfl (by decide) ?_
    refine r_store1 rfl rfl (by decide) rfl rfl (by exact (rfl : _ = Ty.int _ _)) rfl (by exact Nat.le_of_ble_eq_true rfl) rfl rfl (by exact rfl) ?_
    refine r_nil ?_
    refine i_then ?_
    refine t_join (J := live [(0, Ty.ptr 1000 0)] [(1000, Cont.cells 141 (skTys (skNext s)))]) ?_ ?_
    ·
      refine t_seq ?_
      refine t_draw mixed rfl ?_
      refine mvO rfl ?_
      refine r_nilCheck_ptr rfl ?_
      refine r_field_ptr rfl rfl rfl rfl rfl (by decide) ?_
      refine r_load_ptr rfl rfl (by decide) rfl rfl rfl ?_
      refine mvO rfl ?_
      refine r_nilCheck_ptr rfl ?_
      refine r_field_ptr rfl rfl rfl rfl rfl (by decide) ?_
      refine r_load_ptr rfl rfl (by decide) rfl rfl rfl ?_
      refine r_len rfl rfl rfl ?_
      refine r_bin rfl rfl rfl ?_
      refine r_nil ?_
      refine ⟨by kernel_rfl, ?_⟩
      refine i_then ?_
      refine t_cond_dec rfl (fun hc2 => ?_) (fun hc2 => ?_)
      ·
        refine t_region ?_
        refine mvO rfl ?_
        refine mvO rfl ?_
        refine r_nilCheck_ptr rfl ?_
        refine r_field_ptr rfl rfl rfl rfl rfl (by decide) ?_
        refine r_load_ptr rfl rfl (by decide) rfl rfl rfl ?_
        refine r_bin rfl rfl rfl ?_
        refine r_bin rfl rfl rfl ?_
        refine r_nilCheck_ptr rfl ?_
        refine r_field_ptr rfl rfl rfl rfl rfl (by decide) ?_
        refine r_store1 rfl rfl (by decide) rfl rfl (by exact (rfl : _ = Ty.int _ _)) rfl (by exact Nat.le_of_ble_eq_true rfl) rfl rfl (by exact rfl) ?_
        refine r_nil ?_
        refine i_join ?_
        (refine Ent.mk' ?_ ?_ <;> (repeat' (first | exact allSub_zero | exact allTags_nil | exact subs_nil | refine allSub_succ' ?_ (Ty.sub_any _) | refine allSub_succ' ?_ (Ty.sub_refl _) | refine allTags_cons rfl (Cont.sub_subs ?_) ?_ | refine subs_cons ?_ ?_)))
        all_goals first | exact Ty.sub_int (congrArg Sk.mixed (skMix2_pos (s := skTake (skMix1 s)) hc2).symm) | exact Ty.sub_int (skMix2_taken (skTake (skMix1 s))).symm | exact Ty.sub_sl (skMix2_grain (skTake (skMix1 s))).symm
      ·
        refine t_skip ?_
        refine i_join ?_
        (refine Ent.mk' ?_ ?_ <;> (repeat' (first | exact allSub_zero | exact allTags_nil | exact subs_nil | refine allSub_succ' ?_ (Ty.sub_any _) | refine allSub_succ' ?_ (Ty.sub_refl _) | refine allTags_cons rfl (Cont.sub_subs ?_) ?_ | refine subs_cons ?_ ?_)))
        all_goals first | exact Ty.sub_int (skNext_neg hc2) | exact Ty.sub_int (skMix2_taken (skTake (skMix1 s))).symm | exact Ty.sub_sl (skMix2_grain (skTake (skMix1 s))).symm
    ·
      refine t_seq ?_
      refine t_draw mixed rfl ?_
      refine mvO rfl ?_
      refine r_nilCheck_ptr rfl ?_
      refine r_field_ptr rfl rfl rfl rfl rfl (by decide) ?_
      refine r_load_ptr rfl rfl (by decide) rfl rfl rfl ?_
      refine mvO rfl ?_
      refine r_nilCheck_ptr rfl ?_
      refine r_field_ptr rfl rfl rfl rfl rfl (by decide) ?_
      refine r_load_ptr rfl rfl (by decide) rfl rfl rfl ?_
      refine r_shr rfl rfl (by omega) (by decide) ?_
      refine r_bin rfl rfl rfl ?_
      refine r_shr rfl rfl (by omega) (by decide) ?_
      refine r_bin rfl rfl rfl ?_
      refine r_conv rfl rfl rfl rfl ?_
      refine asI rfl ?_
      refine r_nil ?_
      refine ⟨by kernel_rfl, ?_⟩
      refine i_then ?_
      refine t_ret ?_
      refine g_ret1 [1000] rfl rfl (by decide) (by repeat (first | exact rc_nil | refine rc_cons rfl (cc_cells_eq (by decide) rfl rfl rfl) ?_)) ?_
      all_goals exact rg_cv (cv_pub rfl rfl)
      all_goals exact rg_cv (cv_eq rfl rfl rfl)
set_option maxRecDepth 100000 in
theorem c_Below (s : Sk) (h : s.Ok 1) (n : Int) : CtrG Try.prog 106 [1000] [(1000, Cont.cells 141 (skTys s))] [Ty.ptr 1000 0, Ty.int .i64 n] [(1000, Cont.cells 141 (skTys (skNext s)))] (Ty.int .i64 (skBelow s n)) := by
  refine fnG_intro Try.func106 rfl (by decide) Try.ntmps106 (by exact Nat.le_of_ble_eq_true rfl) fun w0 M0 => ?_
  refine t_seq ?_
  refine t_region ?_
  refine asI rfl ?_
  refine r_nil ?_
  refine i_then ?_
  refine t_seq ?_
  refine t_region ?_
  refine mvO rfl ?_
  refine r_callG [(1000, 1000)] [] [(1000, Cont.cells 141 (skTys (skNext s)))] (c_handful s h) rfl rfl (by repeat (first | exact cv_nil | refine cv_cons ?_ ?_ | exact cv_ptr List.mem_cons_self)) (pre_cons (a := 1000) (b := 1000) (by exact List.mem_cons_self) rfl (cc_cells_eq (by exact List.mem_cons_self) rfl rfl rfl) pre_nil) (post_cons (a := 1000) (b := 1000) (by exact List.mem_cons_self) rfl (cc_cells_eq (by exact List.mem_cons_self) rfl rfl rfl) post_nil) (cv_pub rfl rfl) ?_
  refine mvI rfl ?_
  refine r_max rfl rfl ?_
  refine r_rem rfl rfl (by omega) ?_
  refine asI rfl ?_
  refine r_nil ?_
  refine i_then ?_
  refine t_ret ?_
  refine g_ret1 [1000] rfl rfl (by decide) (by repeat (first | exact rc_nil | refine rc_cons rfl (cc_cells_eq (by decide) rfl rfl rfl) ?_)) ?_
  all_goals exact rg_cv (cv_pub rfl rfl)
set_option maxRecDepth 100000 in
theorem c_Among (s : Sk) (h : s.Ok 1) (lo hi : Int) (hlo : -1000000 ≤ lo ∧ lo ≤ 1000000) (hhi : -1000000 ≤ hi ∧ hi ≤ 1000000) : CtrG Try.prog 105 [1000] [(1000, Cont.cells 141 (skTys s))] [Ty.ptr 1000 0, Ty.int .i64 lo, Ty.int .i64 hi] [(1000, Cont.cells 141 (skTys (skNext s)))] (Ty.int .i64 (skAmong s lo hi)) := by
  refine fnG_intro Try.func105 rfl (by decide) Try.ntmps105 (by exact Nat.le_of_ble_eq_true rfl) fun w0 M0 => ?_
  have hb := skBelow_bound s (hi - lo + 1)
  refine t_seq ?_
  refine t_region ?_
  refine asI rfl ?_
  refine r_nil ?_
  refine i_then ?_
  refine t_seq ?_
  refine t_region ?_
  refine mvI rfl ?_
  refine mvO rfl ?_
  refine mvI rfl ?_
  refine mvI rfl ?_
  refine r_sub rfl rfl (by omega) (by omega) ?_
  refine r_add rfl rfl (by omega) (by omega) ?_
  refine r_callG [(1000, 1000)] [] [(1000, Cont.cells 141 (skTys (skNext s)))] (c_Below s h _) rfl rfl (by repeat (first | exact cv_nil | refine cv_cons ?_ ?_ | exact cv_ptr List.mem_cons_self | exact cv_pub rfl rfl)) (pre_cons (a := 1000) (b := 1000) (by exact List.mem_cons_self) rfl (cc_cells_eq (by exact List.mem_cons_self) rfl rfl rfl) pre_nil) (post_cons (a := 1000) (b := 1000) (by exact List.mem_cons_self) rfl (cc_cells_eq (by exact List.mem_cons_self) rfl rfl rfl) post_nil) (cv_pub rfl rfl) ?_
  refine r_add rfl rfl (by omega) (by omega) ?_
  refine asI rfl ?_
  refine r_nil ?_
  refine i_then ?_
  refine t_ret ?_
  refine g_ret1 [1000] rfl rfl (by decide) (by repeat (first | exact rc_nil | refine rc_cons rfl (cc_cells_eq (by decide) rfl rfl rfl) ?_)) ?_
  all_goals exact rg_cv (cv_pub rfl rfl)
set_option maxRecDepth 100000 in
theorem c_Rare (s : Sk) (h : s.Ok 1) (n : Int) : CtrG Try.prog 107 [1000] [(1000, Cont.cells 141 (skTys s))] [Ty.ptr 1000 0, Ty.int .i64 n] [(1000, Cont.cells 141 (skTys (skNext s)))] (Ty.bool (skRare s n)) := by
  refine fnG_intro Try.func107 rfl (by decide) Try.ntmps107 (by exact Nat.le_of_ble_eq_true rfl) fun w0 M0 => ?_
  refine t_seq ?_
  refine t_region ?_
  refine asB rfl ?_
  refine r_nil ?_
  refine i_then ?_
  refine t_seq ?_
  refine t_region ?_
  refine mvO rfl ?_
  refine mvI rfl ?_
  refine r_callG [(1000, 1000)] [] [(1000, Cont.cells 141 (skTys (skNext s)))] (c_Below s h n) rfl rfl (by repeat (first | exact cv_nil | refine cv_cons ?_ ?_ | exact cv_ptr List.mem_cons_self | exact cv_pub rfl rfl)) (pre_cons (a := 1000) (b := 1000) (by exact List.mem_cons_self) rfl (cc_cells_eq (by exact List.mem_cons_self) rfl rfl rfl) pre_nil) (post_cons (a := 1000) (b := 1000) (by exact List.mem_cons_self) rfl (cc_cells_eq (by exact List.mem_cons_self) rfl rfl rfl) post_nil) (cv_pub rfl rfl) ?_
  refine r_bin rfl rfl rfl ?_
  refine asB rfl ?_
  refine r_nil ?_
  refine i_then ?_
  refine t_ret ?_
  refine g_ret1 [1000] rfl rfl (by decide) (by repeat (first | exact rc_nil | refine rc_cons rfl (cc_cells_eq (by decide) rfl rfl rfl) ?_)) ?_
  all_goals exact rg_cv (cv_pub rfl rfl)
set_option maxRecDepth 100000 in
theorem c_Fill (g : List Int) : CtrG Try.prog 51 [] [] [Ty.sl U8 g] [(10, Cont.cells 141 (skTys (skFill g)))] (Ty.ptr 10 0) := by
  refine fnG_intro Try.func51 rfl (by decide) Try.ntmps51 (by exact Nat.le_of_ble_eq_true rfl) fun w0 M0 => ?_
  refine t_seq ?_
  refine t_region ?_
  refine asX rfl ?_
  refine r_nil ?_
  refine i_then ?_
  refine t_seq ?_
  skip
  refine t_region ?_
  refine mvS rfl ?_
  refine mvS rfl ?_
  refine r_len rfl rfl rfl ?_
  refine r_conv rfl rfl rfl rfl ?_
  refine r_bin rfl rfl rfl ?_
  refine r_build rfl rfl (by exact List.cons_ne_nil _ _) rfl (by repeat (first | exact (Parts.nil : Parts _ _ [] _) | (show Parts _ _ ((_, _) :: _) _; apply Parts.one; (· first | exact (rfl : _ = Ty.int _ _) | exact (rfl : _ = Ty.sl _ _)); (· exact rfl)))) (by exact (rfl : _ = some [_, _, _])) ?_
  refine r_box_own rfl rfl rfl ?_
  refine asO rfl ?_
  refine r_nil ?_
  refine i_then ?_
  refine t_ret ?_
  refine g_ret1 [10] rfl rfl (by decide) (by repeat (first | exact rc_nil | refine rc_cons rfl (cc_cells_eq (by decide) rfl rfl rfl) ?_)) ?_
  all_goals skip
  exact rg_cv (cv_ptr (by exact List.mem_cons_self))
end Go.Proofs.Ytpnndljmhpepgaa

namespace Go.Proofs.Ytpnndljmhpepgaa
open Go Go.T Go.RowKit Go.Shelf
def rhoI : Ren := ⟨fun n => if n = 21 then 109 else if n = 27 then 133 else if n = 28 then 134 else if n = 35 then 149 else if n = 39 then 152 else n, fun n => n, fun n => n⟩
theorem aggI {t : Nat} {D : TypeDesc} (h : Try.prog.underlying t = some D) (hd : (match D with | .struct _ => false | .array _ _ => false | _ => true) = true) : ∀ w, (isAgg t).run Try.prog w = .ok false w := fun w => by
  cases D <;> simp_all [isAgg, run_underlying h]
set_option maxRecDepth 100000 in
theorem laidI : Lays2.n21 Try.prog rhoI where
  mixed := by kernel_rfl
  f21 := by kernel_rfl
  f27 := by kernel_rfl
  f28 := by kernel_rfl
  f35 := by kernel_rfl
  f39 := by kernel_rfl
  t0 := by kernel_rfl
  a0 := aggI (D := TypeDesc.tuple #[]) (by kernel_rfl) rfl
  z0 := fun w => run_sizeOf' (P := Try.prog) (t := 0) rfl w
  v0 := fun w => run_zeroOf (by kernel_rfl) w
  t3 := by kernel_rfl
  a3 := aggI (D := TypeDesc.int IntKind.i64) (by kernel_rfl) rfl
  z3 := fun w => run_sizeOf' (P := Try.prog) (t := 3) rfl w
  v3 := fun w => run_zeroOf (by kernel_rfl) w
  t4 := by kernel_rfl
  a4 := aggI (D := TypeDesc.bool) (by kernel_rfl) rfl
  z4 := fun w => run_sizeOf' (P := Try.prog) (t := 4) rfl w
  v4 := fun w => run_zeroOf (by kernel_rfl) w
  t22 := by kernel_rfl
  a22 := aggI (D := TypeDesc.slice 3) (by kernel_rfl) rfl
  z22 := fun w => run_sizeOf' (P := Try.prog) (t := 22) rfl w
  v22 := fun w => run_zeroOf (by kernel_rfl) w
  i3 := by kernel_rfl
def putL (l : List Value) (o : Nat) (vs : List Value) : List Value := l.take o ++ vs ++ l.drop (o + vs.length)
theorem putL_len {l : List Value} {o : Nat} {vs : List Value} (h : o + vs.length ≤ l.length) : (putL l o vs).length = l.length := by
  simp [putL]; omega
theorem putL_cons {l : List Value} {o : Nat} {v : Value} {vs : List Value} (h : o < l.length) : putL (l.set o v) (o + 1) vs = putL l o (v :: vs) := by
  have e : l.set o v = l.take o ++ v :: l.drop (o + 1) := by rw [List.set_eq_take_append_cons_drop, if_pos h]
  have h1 : (l.take o).length = o := by simp; omega
  unfold putL
  rw [e]
  have t1 : (l.take o ++ v :: l.drop (o + 1)).take (o + 1) = l.take o ++ [v] := by
    rw [List.take_append, h1, show o + 1 - o = 1 by omega, List.take_of_length_le (by omega)]; rfl
  have t2 : (l.take o ++ v :: l.drop (o + 1)).drop (o + 1 + vs.length) = l.drop (o + (v :: vs).length) := by
    rw [List.drop_append, h1, List.drop_eq_nil_of_le (by omega), List.nil_append, show o + 1 + vs.length - o = vs.length + 1 by omega, List.drop_succ_cons, List.drop_drop, List.length_cons]
    congr 1; omega
  rw [t1, t2]; simp
theorem size_put {c d : Array Value} {o : Nat} {vs : List Value} (h : d.toList = putL c.toList o vs) (hb : o + vs.length ≤ c.size) : d.size = c.size := by
  have := congrArg List.length h
  rw [putL_len (by simpa using hb)] at this
  simpa using this
theorem set_cells {b T : Nat} : ∀ (vs : List Value) (o : Nat) (w : World) (cs : Array Value), w.heap[b]? = some (.cells cs T (0, 0)) → o + vs.length ≤ cs.size →
    ∃ cs' : Array Value, (w.setCells b o vs).heap[b]? = some (.cells cs' T (0, 0)) ∧ cs'.toList = putL cs.toList o vs ∧ (w.setCells b o vs).heap.size = w.heap.size ∧
      (w.setCells b o vs).os = w.os ∧ (w.setCells b o vs).tape = w.tape ∧ (w.setCells b o vs).output = w.output ∧ ∀ k, k ≠ b → (w.setCells b o vs).heap[k]? = w.heap[k]?
  | [], o, w, cs, h, _ => ⟨cs, h, by simp [putL], rfl, rfl, rfl, rfl, fun _ _ => rfl⟩
  | v :: vs, o, w, cs, h, hl => by
    have hl : o + (vs.length + 1) ≤ cs.size := hl
    have hb : b < w.heap.size := (Array.getElem?_eq_some_iff.1 h).1
    have e := setCell_block (off := o) h v
    have h1 : (w.setCell ⟨b, o, none⟩ v).heap[b]? = some (.cells (cs.setIfInBounds o v) T (0, 0)) := by rw [e]; simp [hb]
    obtain ⟨cs', g1, g2, g3, g4, g5, g6, g7⟩ := set_cells vs (o + 1) (w.setCell ⟨b, o, none⟩ v) (cs.setIfInBounds o v) h1 (by simp; omega)
    refine ⟨cs', g1, ?_, g3.trans (by rw [e]; simp), g4.trans (by rw [e]), g5.trans (by rw [e]), g6.trans (by rw [e]), fun k hk => (g7 k hk).trans ?_⟩
    · rw [g2, Array.toList_setIfInBounds, putL_cons (by simp; omega)]
    · rw [e]; exact Array.getElem?_setIfInBounds_ne (Ne.symm hk)
def dPx (T : Nat) (cs : Array Value) (w : World) (M : Tags) (v : Value) : Prop := ∃ b, v = .slice (some ⟨b, 0, none⟩) cs.size cs.size ∧ M b = none ∧ w.heap[b]? = some (.cells cs T (0, 0))
def pxTy (T : Nat) (cs : Array Value) : Ty := { den := dPx T cs, mono := fun le _ _ ⟨b, e, h1, h2⟩ => let ⟨h3, h4⟩ := le.pub b (Array.getElem?_eq_some_iff.1 h2).1 h1; ⟨b, e, h3, h4.trans h2⟩ }
def ints (l : List Int) : List Value := l.map fun n => .int .i64 n
theorem dens_ints {w : World} {M : Tags} : ∀ {xs : List Int} {cs : List Value}, dens w M (xs.flatMap I64.tys) cs → cs = ints xs
  | [], [], _ => rfl
  | x :: xs, c :: cs, ⟨h, h'⟩ => by
    have h : c = .int .i64 x := h
    rw [dens_ints h', h]; rfl
theorem ints_dens {w : World} {M : Tags} : ∀ xs : List Int, dens w M (xs.flatMap I64.tys) (ints xs)
  | [] => trivial
  | _ :: xs => ⟨rfl, ints_dens xs⟩
def InsDone (w w' : World) (v v' : Value) (l : List Value) : Prop :=
  w'.ownsRow 0 3 1 v' l.length l ∧ w.grownBy w' v.ownBlock ∧ (v'.ownBlock = v.ownBlock ∨ v'.ownBlock = some w.heap.size)
theorem one_ints (l : List Int) : ∀ v ∈ ints l, v.oneCell' = true := fun v hv => by obtain ⟨n, _, rfl⟩ := List.mem_map.1 hv; rfl
theorem own_of {w : World} {g c : Nat} {cs : Array Value} {l : List Value} (h : w.heap[g]? = some (.cells cs 3 (0, 0))) (hs : cs.size = c) (hl : cs.toList.take l.length = l) (hc : l.length ≤ c) (hm : c ≤ maxLen) : w.ownsRow 0 3 1 (.slice (some ⟨g, 0, none⟩) l.length c) l.length l :=
  ⟨(Nat.mul_one _).symm, .inr ⟨g, c, cs, rfl, Nat.zero_le _, h, hc, hm, by rw [hs, Nat.mul_one], by rw [Nat.mul_one]; exact hl⟩⟩
theorem cell_of {w : World} {b T : Nat} {cs : Array Value} (h : w.heap[b]? = some (.cells cs T (0, 0))) {j : Nat} {v : Value} (hj : cs.toList[j]? = some v) : w.cell? ⟨b, j, none⟩ = some v := by
  simpa [World.cell?, h] using hj
theorem froz_of {w : World} {b T : Nat} {cs : Array Value} (h : w.heap[b]? = some (.cells cs T (0, 0))) (j : Nat) : w.frozen? ⟨b, j, none⟩ = false := by simp [World.frozen?, h]
theorem shape_of {w : World} {b T : Nat} {cs : Array Value} (h : w.heap[b]? = some (.cells cs T (0, 0))) : w.shape? b = some (T, cs.size) := by simp [World.shape?, h]
theorem new_row {w : World} {v : Value} {l : List Value} {cs : Array Value} {c : Nat} (hs : cs.size = c) (hl : cs.toList.take l.length = l) (hc : l.length ≤ c) (hm : c ≤ maxLen) : InsDone w (w.drew.alloc (.cells cs 3)) v (.slice (some ⟨w.heap.size, 0, none⟩) l.length c) l :=
  ⟨own_of (alloc_new w.drew _) hs hl hc hm, ⟨rfl, rfl, rfl, by show w.heap.size ≤ (w.heap.push _).size; simp, fun k hk _ => Below.heap_alloc w.drew _ k hk⟩, .inr rfl⟩
theorem ints_ins (xs : List Int) (i : Nat) (k : Int) : ints (insL xs i k) = (ints xs).take i ++ .int .i64 k :: (ints xs).drop i := by simp [ints, insL]
theorem ints_len (l : List Int) : (ints l).length = l.length := by simp [ints]
set_option maxRecDepth 100000 in
theorem ins_run {w : World} {M : Tags} {tg : Nat} {xs : List Int} {v u : Value} {i : Nat} {k : Int} (_ : 1 ≤ tg) (hrow : dRow I64 3 tg xs w M v) (hu : dPx 3 #[.int .i64 k] w M u) (hi : i ≤ xs.length) (hlen : xs.length ≤ 1000000) :
    Calls Try.prog 109 #[v, .int .i64 i, u] w fun e w' => ∃ v', e = .returned v' ∧ InsDone w w' v v' (ints (insL xs i k)) := by
  obtain ⟨vb, rfl, hM, hvb⟩ := hu
  obtain ⟨cs, ⟨hcl, hown⟩, hd, hg⟩ := hrow
  obtain rfl := dens_ints hd
  have hil := insL_len hi k
  have hiL : (ints (insL xs i k)).length = xs.length + 1 := by rw [ints_len, hil]
  have hmax : (1000001 : Nat) ≤ maxLen := by simp [maxLen]
  have hvs : ∀ j x, [Value.int .i64 k][j]? = some x → w.cell? ⟨vb, 0 + j, none⟩ = some x := fun j x hj => by rw [Nat.zero_add]; exact cell_of hvb (by simpa using hj)
  have h1v : ∀ x ∈ [Value.int .i64 k], x.oneCell' = true := fun x hx => by rw [List.mem_singleton.1 hx]; rfl
  have hgrow : ∀ (base : Option Addr) (c : Nat), xs.length ≤ c → c < xs.length + 1 → i = xs.length → (base = none → xs.length = 0) → (∀ a, base = some a → ∀ j x, (ints xs)[j]? = some x → w.cell? (a.add j) = some x) →
      Calls Try.prog 109 #[.slice base xs.length c, .int .i64 i, .slice (some ⟨vb, 0, none⟩) 1 1] w fun e w' => ∃ v', e = .returned v' ∧ InsDone w w' (.slice base xs.length c) v' (ints (insL xs i k)) := by
    intro base c hnc hroom hin hnil hcs
    subst hin
    refine (Any2.slices_Insert_int_end_grow laidI base xs.length c vb 0 1 1 (ints xs) [.int .i64 k] w (by omega) hnc hroom (by omega) (ints_len xs) rfl hnil hcs hvs h1v).mono fun e w' ⟨he, hw⟩ => ?_
    refine ⟨_, he, ?_⟩
    have hge := grownCap_ge w (xs.length + 1) c (rhoI.t 3)
    have hle := grownCap_le_maxLen w (xs.length + 1) c (rhoI.t 3) (by omega)
    generalize grownCap w (xs.length + 1) c (rhoI.t 3) = C at *
    have hz : ∀ n, (Builtin.zeroCells (Value.int .i64 0).cells n).size = n := fun n => by rw [size_zeroCells]; simp [Value.cells]
    have hsz : ((ints xs ++ [Value.int .i64 k]).toArray ++ Builtin.zeroCells (Value.int .i64 0).cells (C - (xs.length + 1))).size = C := by
      rw [Array.size_append, hz, List.size_toArray, List.length_append, ints_len, List.length_singleton]; omega
    have l2 := ints_len xs
    have hnr := new_row (w := w) (v := .slice base xs.length c) (l := ints (insL xs xs.length k)) hsz (by rw [hiL, ints_ins, Array.toList_append, List.take_append_of_le_length (by simp [l2]), List.take_of_length_le (by simp [l2]), List.take_of_length_le (l := ints xs) (by omega), List.drop_of_length_le (l := ints xs) (by omega)]) (by omega) hle
    rw [hiL] at hnr
    rw [hw]; exact hnr
  rcases hown with ⟨rfl, hn⟩ | ⟨g, c, cur, rfl, _, hh, hnc, hcm, hsz, htk⟩
  · have := hgrow none 0 (by omega) (by omega) (by omega) (fun _ => hn) (fun a ha => by cases ha)
    rw [hn] at this; exact this
  · have h64 : I64.size = 1 := rfl
    rw [h64, Nat.mul_one] at hsz htk
    have hMg : M g = some tg := hg g rfl
    have hne : vb ≠ g := fun e => by rw [e, hMg] at hM; cases hM
    have hcell : ∀ j x, (ints xs)[j]? = some x → w.cell? ⟨g, 0 + j, none⟩ = some x := fun j x hj => by
      rw [Nat.zero_add]
      refine cell_of hh ?_
      rw [← htk, List.getElem?_take] at hj
      split at hj
      · exact hj
      · cases hj
    by_cases hroom : xs.length + 1 ≤ c
    · have hspare : ∀ j, j < c → (w.cell? ⟨g, 0 + j, none⟩).isSome = true := fun j hj => by simp [World.cell?, hh, hsz, hj]
      have hdone : ∀ (w' : World) (cur' : Array Value), w'.heap[g]? = some (.cells cur' 3 (0, 0)) → cur'.size = c → cur'.toList.take (xs.length + 1) = ints (insL xs i k) → w.grownBy w' (some g) → InsDone w w' (.slice (some ⟨g, 0, none⟩) xs.length c) (.slice (some ⟨g, 0, none⟩) (xs.length + 1) c) (ints (insL xs i k)) := fun w' cur' e1 e2 e3 e4 => by
        rw [← hiL] at e3 ⊢
        exact ⟨own_of e1 e2 e3 (by omega) hcm, e4, .inl rfl⟩
      have hc63 : c ≤ 9223372036854775807 := by simpa [maxLen] using hcm
      by_cases hlt : i < xs.length
      · refine (Any2.slices_Insert_int_shift laidI g 0 xs.length c i vb 0 1 1 (ints xs) [.int .i64 k] w hlt (by omega) hroom hc63 hne (ints_len xs) rfl hcell (fun j hj => hspare j (by omega)) (fun j _ => froz_of hh _) hvs (one_ints xs) h1v 3 3 1 c (shape_of hvb) (by rw [shape_of hh, hsz]) (by omega) (froz_of hvb _) (froz_of hvb _)).mono fun e w' ⟨he, hw⟩ => ?_
        refine ⟨_, he, ?_⟩
        have hdl : (List.drop i (ints xs)).length = xs.length - i := by rw [List.length_drop, ints_len]
        obtain ⟨c1, a1, a2, a3, a4, a5, a6, a7⟩ := set_cells (b := g) (T := 3) ((ints xs).drop i) (0 + (i + 1)) w.drew cur hh (by rw [hdl]; omega)
        have hs1 : c1.size = c := by rw [size_put a2 (by rw [hdl]; omega), hsz]
        obtain ⟨c2, b1, b2, b3, b4, b5, b6, b7⟩ := set_cells (b := g) (T := 3) [.int .i64 k] (0 + i) (w.drew.setCells g (0 + (i + 1)) ((ints xs).drop i)) c1 a1 (by rw [hs1]; simp; omega)
        rw [hw]
        refine hdone _ c2 b1 (by rw [size_put b2 (by rw [hs1]; simp; omega), hs1]) ?_ ⟨b4.trans a4, b5.trans a5, b6.trans a6, by rw [b3, a3]; exact Nat.le_refl _, fun j hj hne' => ?_⟩
        · have hcu : cur.toList.length = c := by rw [Array.length_toList, hsz]
          have ht : cur.toList.take i = (ints xs).take i := by rw [← htk, List.take_take, Nat.min_eq_left (by omega)]
          rw [b2, a2, ints_ins]
          unfold putL
          simp only [Nat.zero_add, hdl, List.length_singleton]
          have l1 : (cur.toList.take (i + 1)).length = i + 1 := by rw [List.length_take, hcu]; omega
          have e1 : ((cur.toList.take (i + 1) ++ (ints xs).drop i ++ cur.toList.drop (i + 1 + (xs.length - i)))).take i = (ints xs).take i := by
            rw [List.append_assoc, List.take_append_of_le_length (by omega), List.take_take, Nat.min_eq_left (by omega), ht]
          have e2 : ((cur.toList.take (i + 1) ++ (ints xs).drop i ++ cur.toList.drop (i + 1 + (xs.length - i)))).drop (i + 1) = (ints xs).drop i ++ cur.toList.drop (i + 1 + (xs.length - i)) := by
            rw [List.append_assoc, List.drop_append_of_le_length (by omega), List.drop_of_length_le (by omega), List.nil_append]
          rw [e1, e2]
          have l2 : ((ints xs).take i).length = i := by rw [List.length_take, ints_len]; omega
          rw [← List.append_assoc, List.take_append_of_le_length (by simp only [List.length_append, l2, hdl, List.length_singleton]; omega), List.take_of_length_le (by simp only [List.length_append, l2, hdl, List.length_singleton]; omega), List.append_assoc]; rfl
        · have hj' : j ≠ g := fun e => hne' (by rw [e])
          rw [b7 j hj', a7 j hj']; rfl
      · obtain rfl : i = xs.length := by omega
        refine (Any2.slices_Insert_int_end_room laidI g 0 xs.length c vb 0 1 1 [.int .i64 k] w (by omega) hroom hc63 rfl (fun j hj => by rw [Nat.add_assoc]; exact hspare _ (by omega)) (fun j _ => froz_of hh _) hvs h1v).mono fun e w' ⟨he, hw⟩ => ?_
        refine ⟨_, he, ?_⟩
        obtain ⟨c1, a1, a2, a3, a4, a5, a6, a7⟩ := set_cells (b := g) (T := 3) [.int .i64 k] (0 + xs.length) w cur hh (by simp; omega)
        rw [hw]
        refine hdone _ c1 a1 (by rw [size_put a2 (by simp; omega), hsz]) ?_ ⟨a4, a5, a6, by rw [a3]; exact Nat.le_refl _, fun j hj hne' => a7 j fun e => hne' (by rw [e])⟩
        have l2 : (ints xs).length = xs.length := ints_len xs
        rw [a2, ints_ins]
        unfold putL
        simp only [Nat.zero_add, List.length_singleton]
        rw [htk, List.take_of_length_le (l := ints xs) (by omega), List.drop_of_length_le (l := ints xs) (by omega), List.take_append_of_le_length (by simp; omega), List.take_of_length_le (by simp; omega)]
    · by_cases hlt : i < xs.length
      · refine (Any2.slices_Insert_int_grow laidI g 0 xs.length c i vb 0 1 1 (ints xs) [.int .i64 k] w hlt (by omega) hnc (by omega) (by omega) (ints_len xs) rfl hcell hvs (one_ints xs) h1v).mono fun e w' ⟨he, hw⟩ => ?_
        refine ⟨_, he, ?_⟩
        have hge := grownCap_ge w (xs.length + 1) c (rhoI.t 3)
        have hle := grownCap_le_maxLen w (xs.length + 1) c (rhoI.t 3) (by omega)
        generalize grownCap w (xs.length + 1) c (rhoI.t 3) = C at *
        have hz : ∀ n, (Builtin.zeroCells (Value.int .i64 0).cells n).size = n := fun n => by rw [size_zeroCells]; simp [Value.cells]
        have hdl : (List.drop i (ints xs)).length = xs.length - i := by rw [List.length_drop, ints_len]
        have htl : (List.take i (ints xs)).length = i := by rw [List.length_take, ints_len]; omega
        obtain ⟨nb, hnb⟩ : ∃ nb, nb = ((ints xs).take i).toArray ++ Builtin.zeroCells (Value.int .i64 0).cells (xs.length + 1 - i) ++ Builtin.zeroCells (Value.int .i64 0).cells (C - (xs.length + 1)) := ⟨_, rfl⟩
        have hns : nb.size = C := by rw [hnb]; simp only [Array.size_append, hz]; simp only [List.size_toArray, htl]; omega
        have hnt : nb.toList.take i = (ints xs).take i := by rw [hnb]; simp only [Array.toList_append, List.append_assoc]; rw [List.take_append_of_le_length (by simp only [htl]; exact Nat.le_refl _), List.take_of_length_le (by simp only [htl]; exact Nat.le_refl _)]
        rw [← hnb] at hw
        have h0 : (w.alloc (.cells nb 3)).drew.heap[w.heap.size]? = some (.cells nb 3 (0, 0)) := alloc_new w _
        obtain ⟨c1, a1, a2, a3, a4, a5, a6, a7⟩ := set_cells (b := w.heap.size) (T := 3) [.int .i64 k] i (w.alloc (.cells nb 3)).drew nb h0 (by rw [hns]; simp; omega)
        have hs1 : c1.size = C := by rw [size_put a2 (by rw [hns]; simp; omega), hns]
        obtain ⟨c2, b1, b2, b3, b4, b5, b6, b7⟩ := set_cells (b := w.heap.size) (T := 3) ((ints xs).drop i) (i + 1) ((w.alloc (.cells nb 3)).drew.setCells w.heap.size i [.int .i64 k]).drew c1 a1 (by rw [hs1, hdl]; omega)
        rw [hw, ← hiL]
        rw [← hiL] at hge
        have hal : (w.alloc (.cells nb 3)).drew.heap.size = w.heap.size + 1 := by show (w.heap.push _).size = _; simp
        refine ⟨own_of b1 (by rw [size_put b2 (by rw [hs1, hdl]; omega), hs1]) ?_ hge hle, ⟨b4.trans a4, b5.trans a5, b6.trans a6, ?_, fun j hj _ => ?_⟩, .inr rfl⟩
        · have hcu : nb.toList.length = C := by rw [Array.length_toList, hns]
          rw [hiL, b2, a2, ints_ins]
          unfold putL
          simp only [hdl, List.length_singleton]
          have l1 : (nb.toList.take i).length = i := by rw [List.length_take, hcu]; omega
          have e1 : ((nb.toList.take i ++ [Value.int .i64 k] ++ nb.toList.drop (i + 1))).take (i + 1) = (ints xs).take i ++ [.int .i64 k] := by
            rw [List.take_append_of_le_length (by simp; omega), List.take_of_length_le (by simp; omega), hnt]
          rw [e1]
          rw [List.take_append_of_le_length (by simp only [List.length_append, htl, hdl, List.length_singleton]; omega), List.take_of_length_le (by simp only [List.length_append, htl, hdl, List.length_singleton]; omega), List.append_assoc]; rfl
        · exact Nat.le_trans (Nat.le_succ _) (Nat.le_of_eq (b3.trans (a3.trans hal)).symm)
        · have hjn : j ≠ w.heap.size := by omega
          exact (b7 j hjn).trans ((a7 j hjn).trans (Below.heap_alloc w _ j hj))
      · refine hgrow (some ⟨g, 0, none⟩) c hnc (by omega) (by omega) (fun h => by cases h) (fun a ha j x hj => ?_)
        obtain rfl := Option.some.inj ha
        rw [Addr.add_lit]
        exact hcell j x hj
end Go.Proofs.Ytpnndljmhpepgaa

namespace Go.Proofs.Ytpnndljmhpepgaa
open Go Go.T Go.RowKit
theorem own_len {w : World} {v : Value} {n m : Nat} {l : List Value} (e : n = m) (h1 : l.length = n * 1) (h2 : (v = .slice none 0 0 ∧ n = 0) ∨ ∃ g cap cur, v = .slice (some ⟨g, 0, none⟩) n cap ∧ 0 ≤ g ∧ w.heap[g]? = some (.cells cur 3 (0, 0)) ∧ n ≤ cap ∧ cap ≤ maxLen ∧ cur.size = cap * 1 ∧ cur.toList.take (n * 1) = l) : w.ownsRow 0 3 1 v m l := e ▸ ⟨h1, h2⟩
section
variable {fr : Fr} {ops : Array Oper} {A : As} {rest : List Oper} {K : As → List (As × Fx) → Prop} {d : Nat} {t ty' : TypeId} {p : String} {e : Array Edge} {x y z : Operand}
theorem run_callIns (vs : Array Value) (w : World) : (callFunc 109 vs).run Try.prog w = .ok (.enter 109 vs) w := by
  have hn' : Try.f109.name ≠ "runtime.NumGoroutine" := by
    have h : (Try.f109.name == "runtime.NumGoroutine") = false := by kernel_rfl
    simpa using h
  have hb' : Try.f109.body ≠ none := fun h => by
    have hb : Try.f109.body.isNone = false := by kernel_rfl
    rw [h] at hb; cases hb
  simp [callFunc, Try.func109, hn', hb']
theorem r_insert (tg : Nat) {xs : List Int} {i : Nat} {k : Int} {ats : Array TypeId} (hx : (A.op fr x).Sub (.row I64 3 tg xs)) (hy : A.op fr y = .int .i64 (i : Nat)) (hz : A.op fr z = pxTy 3 #[.int .i64 k]) (hi : i ≤ xs.length) (hl : xs.length ≤ 1000000) (h1 : 1 ≤ tg) (hp : fr.pass.contains tg = false)
    (h : TOps Try.prog fr ops rest (A.after { d := some d, ty := .row I64 3 tg (insL xs i k), K := [tg], rs := opR x ++ (opR y ++ opR z) }) fun A' l => K A' ((A, { d := some d, ty := .row I64 3 tg (insL xs i k), K := [tg], rs := opR x ++ (opR y ++ opR z) }) :: l)) :
    TOps Try.prog fr ops (⟨some d, .call ⟨.value (.func 109), #[x, y, z], ats⟩, t, p, e, none⟩ :: rest) A K := by
  refine ⟨_, ⟨rfl, by simp, by simp, by simp only [List.mem_singleton]; intro u hu; subst hu; exact ⟨h1, by simpa using hp⟩, fun a w M wf _ hrd _ => ?_⟩, h⟩
  rw [if_pos (by simp [Region.wanted])]
  have hdx := op_den (x := x) (fun _ h => List.mem_append_left _ h) hrd
  have hdy := op_den (x := y) (fun _ h => List.mem_append_right _ (List.mem_append_left _ h)) hrd
  have hdz := op_den (x := z) (fun _ h => List.mem_append_right _ (List.mem_append_right _ h)) hrd
  rw [hy] at hdy
  rw [hz] at hdz
  have ey : a.eval y = .int .i64 (i : Nat) := hdy
  have hrow : dRow I64 3 tg xs w M (a.eval x) := hx _ _ _ hdx
  have hc := ins_run h1 hrow hdz hi hl
  have hrun : (execOp a.eval ⟨some d, .call ⟨.value (.func 109), #[x, y, z], ats⟩, t, p, e, none⟩).run Try.prog w = .ok (.enter 109 #[a.eval x, .int .i64 i, a.eval z]) w := by
    rw [← ey]
    simp [execOp, resolve, Act.eval, Deferred.ofValue, invoke]
  refine wp_in_enter hrun ?_
  refine hc.mono fun en w' ⟨v', he, hown, hgr, hob⟩ => ?_
  obtain ⟨cs0, _, _, hM⟩ := hrow
  have hb : ∀ b, v'.ownBlock = some b → b < w'.heap.size := by
    intro b hb
    rcases hown.2 with ⟨rfl, _⟩ | ⟨g, cap, cur, rfl, _, hh, _⟩
    · simp [Value.ownBlock] at hb
    · simp [Value.ownBlock] at hb; subst hb; exact (Array.getElem?_eq_some_iff.1 hh).1
  have hle := retag_le (t := tg) (g := v'.ownBlock) hgr.size hgr.os hgr.tape hgr.output (fun b hb hlt => by
      rcases hob with e | e
      · exact hM b (e ▸ hb)
      · exact absurd hlt (by rw [← Option.some.inj (e.symm.trans hb)]; exact Nat.lt_irrefl _)) (fun b hlt hne => hgr.block b hlt (fun e => hne (hM b e.symm))) wf
  refine ⟨v', he, v', rfl, retag M tg v'.ownBlock, retag_wf wf hgr.size hb, hle, ⟨ints (insL xs i k), ?_, ints_dens _, fun g hg => by simp [retag, hg]⟩, by simp⟩
  exact own_len (ints_len _) hown.1 hown.2
theorem r_buildPx {k : Int} (hx : A.op fr x = .int .i64 k)
    (h : TOps Try.prog fr ops rest (A.set d (pxTy 3 #[.int .i64 k])) fun A' l' => K A' ((A, { d := some d, ty := pxTy 3 #[.int .i64 k], rs := opR x }) :: l')) : TOps Try.prog fr ops (⟨some d, .buildSlice 22 1 #[(0, x)], t, p, e, none⟩ :: rest) A K := by
  refine ⟨_, opT_mem (f := { d := some d, ty := pxTy 3 #[.int .i64 k], rs := opR x }) rfl rfl (by simp) (by simp) (by simp) fun a w M wf hr _ => ?_, h⟩
  have hd := op_den (x := x) (fun _ h => h) hr
  rw [hx] at hd
  have ex : a.eval x = .int .i64 k := hd
  obtain ⟨h3, h4, h5⟩ := le_new wf (.cells #[.int .i64 k] 3)
  refine ⟨.slice (some ⟨w.heap.size, 0, none⟩) 1 1, w.alloc (.cells #[.int .i64 k] 3), ?_, M, h3, h4, ⟨w.heap.size, rfl, h5, alloc_new _ _⟩, by simp⟩
  have hu : Try.prog.underlying 22 = some (.slice 3) := by kernel_rfl
  have hz : ∀ w, (zeroValue 3).run Try.prog w = .ok (.int .i64 0) w := fun w => run_zeroOf (by kernel_rfl) w
  have hs : ∀ w, (sizeOf 3).run Try.prog w = .ok 1 w := fun w => run_sizeOf' (P := Try.prog) (t := 3) rfl w
  simp [execOp, Instr.buildSlice, run_underlying hu, hs, hz, ex, newRow, newObj, Sem.run, Value.cells, Instr.fill, show Array.range 1 = #[0] from rfl]
end
end Go.Proofs.Ytpnndljmhpepgaa

namespace Go.Proofs.Ytpnndljmhpepgaa
open Go Go.T
set_option maxHeartbeats 2000000
attribute [local irreducible] dInt dBool dSl dPp dPtr dAgg dTup dClo dAny dEx dStr dGd dCells dVec dVs dRow dOp nth Tri Into TOps Ctr bodyPost Exit.then Exit.inBlock Code.wp Code.wpIn dWhen dPa dPe dAo dArr dMp dPm dMap dCJ CtrG CtrI OpY keepPost iterPost bodyPostM roundQ
set_option maxRecDepth 100000 in
theorem c_Shuffle (s : Sk) (n : Nat) (hn : n ≤ 1000) (h : s.Ok (n + 1)) : CtrG Try.prog 54 [1000] [(1000, Cont.cells 141 (skTys s))] [Ty.ptr 1000 0, Ty.int .i64 (n : Nat)] [(1000, Cont.cells 141 (skTys (shufUp s n).2))] (Ty.sl I64 (shufUp s n).1) := by
  refine fnG_intro Try.func54 rfl (by decide) Try.ntmps54 (by exact Nat.le_of_ble_eq_true rfl) fun w0 M0 => ?_
  have h0 : 0 ≤ s.taken ∧ s.taken + (n + 1) ≤ 4611686018427387904 := h
  refine t_seq ?_
  refine t_region ?_
  refine asX rfl ?_
  refine r_nil ?_
  refine i_then ?_
  refine t_seq ?_
  refine t_region ?_
  refine asX rfl ?_
  refine r_nil ?_
  refine i_then ?_
  refine t_seq ?_
  refine t_seq ?_
  refine t_region ?_
  refine mvI rfl ?_
  refine mvI rfl ?_
  refine r_nil ?_
  refine i_then ?_
  refine t_block ?_
  refine t_loop (fun (k : {k : Nat // k ≤ n}) => live [(0, Ty.ptr 1000 0), (5, Ty.row I64 3 19 (shufUp s k.1).1), (7, Ty.int .i64 (n : Nat)), (8, Ty.int .i64 (k.1 : Nat))] [(1000, Cont.cells 141 (skTys (shufUp s k.1).2))]) (fun k => n - k.1) (⟨0, by omega⟩) ?_ fun k => ?_
  · (refine Ent.mk' ?_ ?_ <;> (repeat' (first | exact allSub_zero | exact allTags_nil | refine allSub_succ' ?_ (Ty.sub_any _) | refine allSub_succ' ?_ (Ty.sub_refl _) | refine allSub_succ' ?_ Ty.nil_row | refine allTags_cons rfl (Cont.sub_refl _) ?_)))
  ·
    obtain ⟨hs1, _, _, hs4⟩ := shuf_spec s k.1
    have hk2 := k.2
    refine t_seq ?_
    refine t_region ?_
    refine r_bin rfl rfl rfl ?_
    refine r_nil ?_
    refine i_then ?_
    refine t_seq ?_
    refine t_cond_dec rfl (fun hc1 => ?_) (fun hc1 => ?_)
    ·
      refine t_skip ?_
      refine i_then ?_
      refine t_seq ?_
      refine t_block ?_
      refine t_seq ?_
      refine t_region ?_
      refine mvI rfl ?_
      refine asI rfl ?_
      refine r_nil ?_
      refine i_then ?_
      have hok : (shufUp s k.1).2.Ok 1 := ⟨by omega, by omega⟩
      have hb := skBelow_bound (shufUp s k.1).2 ((k.1 : Int) + 1)
      refine t_region ?_
      refine mvR rfl ?_
      refine mvO rfl ?_
      refine mvI rfl ?_
      refine r_add rfl rfl (by omega) (by omega) ?_
      refine r_callG [(1000, 1000)] [] [(1000, Cont.cells 141 (skTys (skNext (shufUp s k.1).2)))] (c_Below (shufUp s k.1).2 hok _) rfl rfl (by repeat (first | exact cv_nil | refine cv_cons ?_ ?_ | exact cv_ptr List.mem_cons_self | exact cv_pub rfl rfl)) (pre_cons (a := 1000) (b := 1000) (by exact List.mem_cons_self) rfl (cc_cells_eq (by exact List.mem_cons_self) rfl rfl rfl) pre_nil) (post_cons (a := 1000) (b := 1000) (by exact List.mem_cons_self) rfl (cc_cells_eq (by exact List.mem_cons_self) rfl rfl rfl) post_nil) (cv_pub rfl rfl) ?_
      refine mvI rfl ?_
      refine r_buildPx rfl ?_
      refine r_insert 19 (i := (skBelow (shufUp s k.1).2 ((k.1 : Int) + 1)).toNat) (k := (k.1 : Nat)) (Ty.sub_refl _) (congrArg (Ty.int .i64) (Int.toNat_of_nonneg hb.1).symm) rfl (by omega) (by omega) (by decide) rfl ?_
      refine asR rfl ?_
      refine r_nil ?_
      refine i_block ?_
      refine i_then ?_
      refine t_region ?_
      refine r_add rfl rfl (by omega) (by omega) ?_
      refine mvI rfl ?_
      refine r_nil ?_
      refine i_round (⟨k.1 + 1, by omega⟩) ?_ (by show n - (k.1 + 1) < n - k.1; omega)
      (refine Ent.mk' ?_ ?_ <;> (repeat' (first | exact allSub_zero | exact allTags_nil | refine allSub_succ' ?_ (Ty.sub_any _) | refine allSub_succ' ?_ (Ty.sub_refl _) | refine allTags_cons rfl (Cont.sub_refl _) ?_)))
      all_goals skip
    ·
      refine t_exit ?_
      refine i_then_exit ?_
      refine i_then_exit ?_
      refine i_block_exit rfl ?_
      refine i_then ?_
      refine t_seq ?_
      obtain ⟨k, hk⟩ := k
      obtain rfl : k = n := by have h1 : ¬ (k : Int) < (n : Int) := hc1; have h2 : k ≤ n := hk; omega
      refine t_region ?_
      refine mvR rfl ?_
      refine asR rfl ?_
      refine r_nil ?_
      refine i_then ?_
      refine t_ret ?_
      refine g_ret1 [1000] rfl rfl (by decide) (by repeat (first | exact rc_nil | refine rc_cons rfl (cc_cells_eq (by decide) rfl rfl rfl) ?_)) ?_
      all_goals exact rg_row (by decide) rfl rfl
      all_goals exact rg_row (by decide) rfl rfl
end Go.Proofs.Ytpnndljmhpepgaa

namespace Go.Proofs.Ytpnndljmhpepgaa
open Go Go.T
theorem skAmong_in (s : Sk) {lo hi : Int} (h : lo ≤ hi) : lo ≤ skAmong s lo hi ∧ skAmong s lo hi ≤ hi := by
  have := skBelow_bound s (hi - lo + 1)
  unfold skAmong; omega
theorem right_check {b : Barn} (h : b.Right) : checkB b = 0 := by
  have hb := h.bins
  have h1 : manyB b = false := by
    unfold manyB
    rw [Bool.or_eq_false_iff, Bool.not_eq_false', inB_true, decide_eq_false_iff_not]
    have := h.lots; omega
  have h2 : rangeB b = false := by
    unfold rangeB
    rw [Bool.or_eq_false_iff, Bool.not_eq_false', Bool.not_eq_false', List.all_eq_true, List.all_eq_true]
    exact ⟨fun n hn => inB_true.2 (h.size n hn), fun l hl => inB_true.2 (h.sacks l hl)⟩
  have h3 : notB b = false := by
    unfold notB
    rw [Bool.not_eq_false', List.all_eq_true]
    intro l hl
    have e1 := h.inn l hl
    have e2 := h.aim l hl
    simp only [Bool.and_eq_true, Bool.or_eq_true, decide_eq_true_eq, Barn.bin, inB_true]
    omega
  have h4 : twiceB b = false := by
    unfold twiceB
    rw [any_range_false]
    intro i hi
    unfold twiceI
    rw [List.any_eq_false]
    intro x hx
    rw [List.mem_take_iff_getElem] at hx
    obtain ⟨k, hk, rfl⟩ := hx
    rw [← nth_lt]
    obtain ⟨e1, e2⟩ := h.apart i k (by omega) hi
    simp only [clashL, Bool.or_eq_true, Bool.and_eq_true, decide_eq_true_eq, Bool.not_eq_true', decide_eq_false_iff_not, not_or, not_and]
    exact ⟨e1, fun e => by have := e2 e; omega⟩
  have h5 : fullB b = false := by
    unfold fullB
    rw [any_range_false]
    intro i hi
    obtain ⟨e1, e2⟩ := h.holds i hi
    simp only [fullI, Barn.hold, Bool.or_eq_false_iff, Bool.not_eq_false', decide_eq_true_eq, Bool.and_eq_false_iff, Int.toNat_natCast]
    refine ⟨e1, ?_⟩
    by_cases e : (nth b.lots i).aim = -1
    · exact .inl e
    · exact .inr (e2 e)
  unfold checkB
  rw [if_neg (by rw [h1]; decide), if_neg (by rw [h2]; decide), if_neg (by rw [h3]; decide), if_neg (by rw [h4]; decide), if_neg (by rw [h5]; decide)]
def sizeUp (s : Sk) : Nat → List Int × Sk
  | 0 => ([], s)
  | k + 1 => ((sizeUp s k).1 ++ [skAmong (sizeUp s k).2 20 60], skNext (sizeUp s k).2)
theorem sizeUp_ok (s : Sk) : ∀ k, (sizeUp s k).1.length = k ∧ (∀ x ∈ (sizeUp s k).1, 20 ≤ x ∧ x ≤ 60) ∧ (sizeUp s k).2.taken = s.taken + k
  | 0 => ⟨rfl, fun x h => (by cases h), by simp [sizeUp]⟩
  | k + 1 => by
    obtain ⟨h1, h2, h3⟩ := sizeUp_ok s k
    refine ⟨by show ((sizeUp s k).1 ++ [_]).length = _; rw [List.length_append, h1]; rfl, fun x hx => ?_, by show (skNext _).taken = _; rw [skNext_taken, h3]; omega⟩
    rcases List.mem_append.1 (show x ∈ (sizeUp s k).1 ++ [skAmong (sizeUp s k).2 20 60] from hx) with hx | hx
    · exact h2 x hx
    · rw [List.mem_singleton.1 hx]; exact skAmong_in _ (by omega)
structure Md where
  s : Sk
  bins : Int
  lots : Int
def Md.n (d : Md) : Nat := (skAmong d.s 2 d.bins).toNat
def Md.up (d : Md) (k : Nat) : List Int × Sk := sizeUp (skNext d.s) k
def Md.sizes (d : Md) : List Int := (d.up d.n).1
def Md.many (d : Md) : Nat := (skBelow (d.up d.n).2 (min d.lots (d.n : Nat) + 1)).toNat
def Md.to (d : Md) : List Int × Sk := shufUp (skNext (d.up d.n).2) d.n
def Md.ks (d : Md) : List Int × Sk := shufUp d.to.2 d.n
def Md.aimV (d : Md) (s : Sk) (k : Nat) : Int := if skRare (skNext s) 4 = true then -1 else nth d.to.1 k
def Md.sackV (d : Md) (s : Sk) (k : Nat) : Int := skAmong s 1 (nth d.sizes (nth d.ks.1 k).toNat)
def Md.lotV (d : Md) (s : Sk) (k : Nat) : Lot := ⟨if d.aimV s k ≠ -1 ∧ nth d.sizes (d.aimV s k).toNat < d.sackV s k then nth d.sizes (d.aimV s k).toNat else d.sackV s k, nth d.ks.1 k, d.aimV s k⟩
def Md.lt (d : Md) : Nat → List Lot × Sk
  | 0 => ([], d.ks.2)
  | k + 1 => ((d.lt k).1 ++ [d.lotV (d.lt k).2 k], skNext (skNext (d.lt k).2))
def Md.barn (d : Md) : Barn := ⟨d.sizes, (d.lt d.many).1⟩
def Md.sk (d : Md) : Sk := (d.lt d.many).2
structure Md.Ok (d : Md) : Prop where
  bins : 2 ≤ d.bins ∧ d.bins ≤ 7
  lots : 0 ≤ d.lots ∧ d.lots ≤ 6
variable {d : Md}
theorem Md.n_in (h : d.Ok) : 2 ≤ d.n ∧ d.n ≤ 7 ∧ (d.n : Int) ≤ d.bins ∧ (d.n : Int) = skAmong d.s 2 d.bins := by
  have h1 := skAmong_in d.s h.bins.1
  have h2 := h.bins
  unfold Md.n; omega
theorem Md.sizes_ok (d : Md) : d.sizes.length = d.n ∧ (∀ x ∈ d.sizes, 20 ≤ x ∧ x ≤ 60) := ⟨(sizeUp_ok _ _).1, (sizeUp_ok _ _).2.1⟩
theorem Md.up_taken (d : Md) (k : Nat) : (d.up k).2.taken = d.s.taken + 1 + k := by
  have := (sizeUp_ok (skNext d.s) k).2.2
  rw [skNext_taken] at this; exact this
theorem Md.many_in (h : d.Ok) : d.many ≤ d.n ∧ (d.many : Int) ≤ d.lots ∧ (d.many : Int) = skBelow (d.up d.n).2 (min d.lots (d.n : Nat) + 1) := by
  have h1 := skBelow_bound (d.up d.n).2 (min d.lots (d.n : Nat) + 1)
  have h2 := h.lots
  unfold Md.many; omega
theorem Md.to_ok (d : Md) : d.to.1.length = d.n ∧ d.to.1.Nodup ∧ (∀ x ∈ d.to.1, 0 ≤ x ∧ x < (d.n : Int)) ∧ d.to.2.taken = d.s.taken + 2 + 2 * d.n := by
  obtain ⟨h1, h2, h3, h4⟩ := shuf_spec (skNext (d.up d.n).2) d.n
  refine ⟨h1, h2, fun x hx => (h3 x).1 hx, ?_⟩
  show (shufUp _ _).2.taken = _
  rw [h4, skNext_taken, d.up_taken]; omega
theorem Md.ks_ok (d : Md) : d.ks.1.length = d.n ∧ d.ks.1.Nodup ∧ (∀ x ∈ d.ks.1, 0 ≤ x ∧ x < (d.n : Int)) ∧ d.ks.2.taken = d.s.taken + 2 + 3 * d.n := by
  obtain ⟨h1, h2, h3, h4⟩ := shuf_spec d.to.2 d.n
  refine ⟨h1, h2, fun x hx => (h3 x).1 hx, ?_⟩
  show (shufUp _ _).2.taken = _
  rw [h4, d.to_ok.2.2.2]; omega
theorem Md.lt_len (d : Md) : ∀ k, (d.lt k).1.length = k ∧ (d.lt k).2.taken = d.s.taken + 2 + 3 * d.n + 2 * k
  | 0 => ⟨rfl, by show d.ks.2.taken = _; rw [d.ks_ok.2.2.2]; simp⟩
  | k + 1 => by
    obtain ⟨h1, h2⟩ := d.lt_len k
    refine ⟨by show ((d.lt k).1 ++ [_]).length = _; rw [List.length_append, h1]; rfl, ?_⟩
    show (skNext (skNext _)).taken = _
    rw [skNext_taken, skNext_taken, h2]; omega
theorem Md.lt_nth (d : Md) : ∀ k i, i < k → nth (d.lt k).1 i = d.lotV (d.lt i).2 i
  | 0, i, h => by omega
  | k + 1, i, h => by
    have hl := (d.lt_len k).1
    show nth ((d.lt k).1 ++ [d.lotV (d.lt k).2 k]) i = _
    unfold nth
    by_cases e : i < k
    · rw [List.getD_eq_getElem?_getD, List.getElem?_append_left (by omega), ← List.getD_eq_getElem?_getD]
      exact d.lt_nth k i e
    · have e : i = k := by omega
      subst e
      rw [List.getD_eq_getElem?_getD, List.getElem?_append_right (by omega), hl]; simp
theorem Md.size_at (d : Md) {x : Int} (h : 0 ≤ x ∧ x < (d.n : Int)) : 20 ≤ nth d.sizes x.toNat ∧ nth d.sizes x.toNat ≤ 60 := d.sizes_ok.2 _ (nth_mem (by rw [d.sizes_ok.1]; omega))
theorem nodup_nth {l : List Int} (h : l.Nodup) {i k : Nat} (hi : i < l.length) (hk : k < l.length) (e : nth l i = nth l k) : i = k := by
  rw [nth_lt hi, nth_lt hk] at e
  rw [List.nodup_iff_pairwise_ne, List.pairwise_iff_getElem] at h
  rcases Nat.lt_trichotomy i k with c | c | c
  · exact absurd e (h i k hi hk c)
  · exact c
  · exact absurd e.symm (h k i hk hi c)
theorem Md.lot_ok (d : Md) (s : Sk) {k : Nat} (hk : k < d.n) : (0 ≤ nth d.ks.1 k ∧ nth d.ks.1 k < (d.n : Int)) ∧ (d.aimV s k = -1 ∨ (d.aimV s k = nth d.to.1 k ∧ 0 ≤ nth d.to.1 k ∧ nth d.to.1 k < (d.n : Int))) ∧ 1 ≤ d.sackV s k ∧ d.sackV s k ≤ nth d.sizes (nth d.ks.1 k).toNat := by
  have h1 := d.ks_ok.2.2.1 _ (nth_mem (xs := d.ks.1) (k := k) (by rw [d.ks_ok.1]; exact hk))
  have h2 := d.to_ok.2.2.1 _ (nth_mem (xs := d.to.1) (k := k) (by rw [d.to_ok.1]; exact hk))
  have h3 := d.size_at h1
  refine ⟨h1, ?_, ?_⟩
  · unfold Md.aimV
    by_cases e : skRare (skNext s) 4 = true
    · exact .inl (if_pos e)
    · exact .inr ⟨if_neg e, h2⟩
  · exact skAmong_in s (by omega)
theorem Md.right (h : d.Ok) : d.barn.Right := by
  have hn := d.n_in h
  have hm := d.many_in h
  have hs := d.sizes_ok
  have hl := (d.lt_len d.many).1
  have hlots : d.barn.lots.length = d.many := hl
  have hsz : d.barn.sizes.length = d.n := hs.1
  have key : ∀ l ∈ d.barn.lots, ∃ i, i < d.many ∧ l = d.lotV (d.lt i).2 i := fun l hl' => by
    obtain ⟨i, hi, rfl⟩ := mem_nth hl'
    rw [hlots] at hi
    exact ⟨i, hi, d.lt_nth _ i hi⟩
  have hlo := h.lots
  have hsack : ∀ i, i < d.many → 1 ≤ (d.lotV (d.lt i).2 i).sacks ∧ (d.lotV (d.lt i).2 i).sacks ≤ nth d.sizes (nth d.ks.1 i).toNat ∧ ((d.lotV (d.lt i).2 i).aim ≠ -1 → (d.lotV (d.lt i).2 i).sacks ≤ nth d.sizes (d.lotV (d.lt i).2 i).aim.toNat) := fun i hi => by
    obtain ⟨e1, e2, e3, e4⟩ := d.lot_ok (d.lt i).2 (k := i) (by omega)
    unfold Md.lotV
    show 1 ≤ ite _ _ _ ∧ ite _ _ _ ≤ _ ∧ (d.aimV _ _ ≠ -1 → ite _ _ _ ≤ _)
    by_cases c : d.aimV (d.lt i).2 i ≠ -1 ∧ nth d.sizes (d.aimV (d.lt i).2 i).toNat < d.sackV (d.lt i).2 i
    · rw [if_pos c]
      rcases e2 with e2 | ⟨e2, e5⟩
      · exact absurd e2 c.1
      · have := d.size_at (x := d.aimV (d.lt i).2 i) (by omega)
        exact ⟨by omega, by omega, fun _ => Int.le_refl _⟩
    · rw [if_neg c]
      refine ⟨e3, e4, fun hne => ?_⟩
      show d.sackV (d.lt i).2 i ≤ nth d.sizes (d.aimV (d.lt i).2 i).toNat
      · by_cases c2 : nth d.sizes (d.aimV (d.lt i).2 i).toNat < d.sackV (d.lt i).2 i
        · exact absurd ⟨hne, c2⟩ c
        · omega
  refine ⟨by omega, by omega, fun x hx => by have := hs.2 x hx; omega, fun l hl' => ?_, fun l hl' => ?_, fun l hl' => ?_, fun i k hk hi => ?_, fun i hi => ?_⟩
  · obtain ⟨i, hi, rfl⟩ := key l hl'
    have h1 := hsack i hi
    have h2 := d.size_at (d.lot_ok (d.lt i).2 (k := i) (by omega)).1
    omega
  · obtain ⟨i, hi, rfl⟩ := key l hl'
    have h2 := (d.lot_ok (d.lt i).2 (k := i) (by omega)).1
    show 0 ≤ nth d.ks.1 i ∧ nth d.ks.1 i < _
    rw [hsz]; exact h2
  · obtain ⟨i, hi, rfl⟩ := key l hl'
    have h2 := (d.lot_ok (d.lt i).2 (k := i) (by omega)).2.1
    show -1 ≤ d.aimV _ _ ∧ d.aimV _ _ < _
    rw [hsz]; omega
  · rw [hlots] at hi
    have e1 : nth d.barn.lots i = d.lotV (d.lt i).2 i := d.lt_nth _ i hi
    have e2 : nth d.barn.lots k = d.lotV (d.lt k).2 k := d.lt_nth _ k (by omega)
    rw [e1, e2]
    refine ⟨fun e => ?_, fun e => ?_⟩
    · have := nodup_nth d.ks_ok.2.1 (i := i) (k := k) (by rw [d.ks_ok.1]; omega) (by rw [d.ks_ok.1]; omega) e
      omega
    · have e : d.aimV (d.lt i).2 i = d.aimV (d.lt k).2 k := e
      show d.aimV (d.lt i).2 i = -1
      rcases (d.lot_ok (d.lt i).2 (k := i) (by omega)).2.1 with h1 | ⟨h1, h1'⟩
      · exact h1
      · rcases (d.lot_ok (d.lt k).2 (k := k) (by omega)).2.1 with h2 | ⟨h2, h2'⟩
        · omega
        · have := nodup_nth d.to_ok.2.1 (i := i) (k := k) (by rw [d.to_ok.1]; omega) (by rw [d.to_ok.1]; omega) (by omega)
          omega
  · rw [hlots] at hi
    have e1 : nth d.barn.lots i = d.lotV (d.lt i).2 i := d.lt_nth _ i hi
    rw [e1]
    exact ⟨(hsack i hi).2.1, (hsack i hi).2.2⟩
end Go.Proofs.Ytpnndljmhpepgaa

namespace Go.Proofs.Ytpnndljmhpepgaa
open Go Go.T
set_option maxHeartbeats 4000000
attribute [local irreducible] dInt dBool dSl dPp dPtr dAgg dTup dClo dAny dEx dStr dGd dCells dVec dVs dRow dOp nth Tri Into TOps Ctr bodyPost Exit.then Exit.inBlock Code.wp Code.wpIn dWhen dPa dPe dAo dArr dMp dPm dMap dCJ CtrG CtrI OpY keepPost iterPost bodyPostM roundQ
theorem c_Shuffle_at (s : Sk) (n m : Nat) (e : m = n) (hn : n ≤ 1000) (h : s.Ok (n + 1)) : CtrG Try.prog 54 [1000] [(1000, Cont.cells 141 (skTys s))] [Ty.ptr 1000 0, Ty.int .i64 (m : Nat)] [(1000, Cont.cells 141 (skTys (shufUp s n).2))] (Ty.sl I64 (shufUp s n).1) := by
  subst e; exact c_Shuffle s m hn h
theorem aim_in {d : Md} {s : Sk} {i : Nat} (hi : i < d.n) (h : (!decide (d.aimV s i = -1)) = true) : 0 ≤ d.aimV s i ∧ (d.aimV s i).toNat < d.sizes.length := by
  have h1 := (d.lot_ok s hi).2.1
  have h2 := d.sizes_ok.1
  simp only [Bool.not_eq_true', decide_eq_false_iff_not] at h
  omega
theorem aim_rare {d : Md} {s : Sk} {i : Nat} (h : skRare (skNext s) 4 = true) : -1 = d.aimV s i := (if_pos h).symm
theorem aim_not {d : Md} {s : Sk} {i : Nat} (h : skRare (skNext s) 4 = false) : nth d.to.1 i = d.aimV s i := (if_neg (by rw [h]; decide)).symm
theorem less_yes {a b c : Int} (h : (!decide (a = -1) && decide (b < c)) = true) : a ≠ -1 ∧ b < c := by simpa using h
theorem less_no {a b c : Int} (h : (!decide (a = -1) && decide (b < c)) = false) : ¬ (a ≠ -1 ∧ b < c) := fun ⟨h1, h2⟩ => by rw [decide_eq_false h1, decide_eq_true h2] at h; cases h
theorem sack_less {d : Md} {s : Sk} {i : Nat} (h : (!decide (d.aimV s i = -1) && decide (nth d.sizes (d.aimV s i).toNat < d.sackV s i)) = true) : nth d.sizes (d.aimV s i).toNat = (d.lotV s i).sacks := (if_pos (less_yes h)).symm
theorem sack_same {d : Md} {s : Sk} {i : Nat} (h : (!decide (d.aimV s i = -1) && decide (nth d.sizes (d.aimV s i).toNat < d.sackV s i)) = false) : d.sackV s i = (d.lotV s i).sacks := (if_neg (less_no h)).symm
theorem up_zero (d : Md) : d.up 0 = ([], skNext d.s) := rfl
theorem up_succ (d : Md) (k : Nat) : d.up (k + 1) = ((d.up k).1 ++ [skAmong (d.up k).2 20 60], skNext (d.up k).2) := rfl
theorem lt_zero (d : Md) : d.lt 0 = ([], d.ks.2) := rfl
theorem lt_succ (d : Md) (k : Nat) : d.lt (k + 1) = ((d.lt k).1 ++ [d.lotV (d.lt k).2 k], skNext (skNext (d.lt k).2)) := rfl
theorem to_eq (d : Md) : shufUp (skNext (d.up d.n).2) d.n = d.to := rfl
theorem ks_eq (d : Md) : shufUp d.to.2 d.n = d.ks := rfl
attribute [local irreducible] Md.up Md.to Md.ks Md.lt Md.aimV Md.sackV shufUp Md.n Md.many Md.sizes
set_option maxRecDepth 100000 in
theorem c_Made (d : Md) (hd : d.Ok) (h : d.s.Ok 1000) : CtrG Try.prog 50 [1000] [(1000, Cont.cells 141 (skTys d.s))] [Ty.ptr 1000 0, Ty.int .i64 d.bins, Ty.int .i64 d.lots, Ty.bool false] [(1000, Cont.cells 141 (skTys d.sk))] (barnT d.barn) := by
  refine fnG_intro Try.func50 rfl (by decide) Try.ntmps50 (by exact Nat.le_of_ble_eq_true rfl) fun w0 M0 => ?_
  have h0 : 0 ≤ d.s.taken ∧ d.s.taken + 1000 ≤ 4611686018427387904 := h
  have hdb := hd.bins
  have hdl := hd.lots
  have hn := d.n_in hd
  have hm := d.many_in hd
  have hsz := d.sizes_ok
  have hto := d.to_ok
  have hks := d.ks_ok
  have hs1 := skNext_taken d.s
  have hup : ∀ k, (d.up k).1.length = k ∧ (d.up k).2.taken = d.s.taken + 1 + k := fun k => ⟨by unfold Md.up; exact (sizeUp_ok _ k).1, d.up_taken k⟩
  refine t_seq ?_
  refine t_region ?_
  refine r_alloc rfl (by exact List.cons_ne_nil _ _) rfl ?_
  refine r_nil ?_
  refine i_then ?_
  refine t_seq ?_
  refine t_region ?_
  refine r_alloc rfl (by exact List.cons_ne_nil _ _) rfl ?_
  refine r_nil ?_
  refine i_then ?_
  refine t_seq ?_
  refine t_seq ?_
  refine t_region ?_
  refine mvO rfl ?_
  refine mvI rfl ?_
  refine r_callG [(1000, 1000)] [] [(1000, Cont.cells 141 (skTys (skNext d.s)))] (c_Among d.s ⟨by omega, by omega⟩ 2 d.bins (by omega) (by omega)) rfl rfl (by repeat (first | exact cv_nil | refine cv_cons ?_ ?_ | exact cv_ptr List.mem_cons_self | exact cv_pub rfl rfl)) (pre_cons (a := 1000) (b := 1000) (by exact List.mem_cons_self) rfl (cc_cells_eq (by exact List.mem_cons_self) rfl rfl rfl) pre_nil) (post_cons (a := 1000) (b := 1000) (by exact List.mem_cons_self) rfl (cc_cells_eq (by exact List.mem_cons_self) rfl rfl rfl) post_nil) (cv_pub rfl rfl) ?_
  refine mvI rfl ?_
  refine r_nil ?_
  refine i_then ?_
  refine t_block ?_
  refine t_loop (fun (k : {k : Nat // k ≤ d.n}) => live [(0, Ty.ptr 1000 0), (2, Ty.int .i64 d.lots), (3, Ty.bool false), (8, Ty.ptr 9 0), (9, Ty.ptr 10 0), (18, Ty.int .i64 (d.n : Nat)), (19, Ty.int .i64 (k.1 : Nat))] [(9, Cont.cells 25 [Ty.ex (.slice none 0 0), Ty.ex (.slice none 0 0)]), (10, Cont.cells 25 [Ty.row I64 3 27 (d.up k.1).1, Ty.ex (.slice none 0 0)]), (1000, Cont.cells 141 (skTys (d.up k.1).2))]) (fun k => d.n - k.1) (⟨0, by omega⟩) ?_ fun k => ?_
  · (refine Ent.mk' ?_ ?_ <;> (repeat' (first | exact allSub_zero | exact allTags_nil | exact subs_nil | refine allSub_succ' ?_ (Ty.sub_any _) | refine allSub_succ' ?_ (Ty.sub_refl _) | refine allTags_cons rfl (Cont.sub_refl _) ?_ | refine allTags_cons rfl (Cont.sub_subs ?_) ?_ | refine subs_cons ?_ (Ty.sub_refl _) | refine subs_cons ?_ ?_ | refine allSub_succ' ?_ ?_)))
    all_goals first | exact Ty.sub_int hn.2.2.2.symm | exact Ty.sub_int (congrArg (fun p : List Int × Sk => p.2.mixed) (up_zero d).symm) | exact Ty.sub_int (congrArg (fun p : List Int × Sk => p.2.taken) (up_zero d).symm) | exact Ty.sub_sl (congrArg (fun p : List Int × Sk => p.2.grain) (up_zero d).symm) | exact nil_row_eq (congrArg Prod.fst (up_zero d).symm)
  ·
    have hk := k.2
    have hul := (hup k.1).1
    have hut := (hup k.1).2
    refine t_seq ?_
    refine t_region ?_
    refine r_bin rfl rfl rfl ?_
    refine r_nil ?_
    refine i_then ?_
    refine t_seq ?_
    refine t_cond_dec rfl (fun hc1 => ?_) (fun hc1 => ?_)
    ·
      refine t_skip ?_
      refine i_then ?_
      refine t_seq ?_
      refine t_block ?_
      refine t_draw mixed rfl ?_
      refine r_field_ptr rfl rfl rfl rfl rfl (by decide) ?_
      refine r_load_ptr rfl rfl (by decide) rfl rfl rfl ?_
      refine mvO rfl ?_
      refine r_callG [(1000, 1000)] [] [(1000, Cont.cells 141 (skTys (skNext (d.up k.1).2)))] (c_Among (d.up k.1).2 ⟨by omega, by omega⟩ 20 60 (by omega) (by omega)) rfl rfl (by repeat (first | exact cv_nil | refine cv_cons ?_ ?_ | exact cv_ptr List.mem_cons_self | exact cv_pub rfl rfl)) (pre_cons (a := 1000) (b := 1000) (by exact List.mem_cons_self) rfl (cc_cells_eq (by exact List.mem_cons_self) rfl rfl rfl) pre_nil) (post_cons (a := 1000) (b := 1000) (by exact List.mem_cons_self) rfl (cc_cells_eq (by exact List.mem_cons_self) rfl rfl rfl) post_nil) (cv_pub rfl rfl) ?_
      refine r_buildSlice (E := I64) (xs := [_]) rfl rfl rfl rfl rfl (by decide) (by decide) (by repeat (first | exact (Parts.nil : Parts _ _ [] _) | (show Parts _ _ ((_, _) :: _) _; apply Parts.one; (· exact (rfl : _ = Ty.int _ _)); (· exact rfl)))) (by exact rfl) rfl ?_
      refine r_append rfl rfl (by decide) rfl rfl rfl rfl rfl rfl (by decide) (by (simp <;> omega)) (by (simp <;> omega)) ?_
      refine r_field_ptr rfl rfl rfl rfl rfl (by decide) ?_
      refine r_store1 rfl rfl (by decide) rfl rfl (by exact (rfl : _ = Ty.row _ _ _ _)) rfl (by exact Nat.le_of_ble_eq_true rfl) rfl rfl (by exact rfl) ?_
      refine r_nil ?_
      refine ⟨by kernel_rfl, ?_⟩
      refine i_block ?_
      refine i_then ?_
      refine t_region ?_
      refine r_add rfl rfl (by omega) (by omega) ?_
      refine mvI rfl ?_
      refine r_nil ?_
      refine i_round (⟨k.1 + 1, by omega⟩) ?_ (by show d.n - (k.1 + 1) < d.n - k.1; omega)
      (refine Ent.mk' ?_ ?_ <;> (repeat' (first | exact allSub_zero | exact allTags_nil | exact subs_nil | refine allSub_succ' ?_ (Ty.sub_any _) | refine allSub_succ' ?_ (Ty.sub_refl _) | refine allTags_cons rfl (Cont.sub_refl _) ?_ | refine allTags_cons rfl (Cont.sub_subs ?_) ?_ | refine subs_cons ?_ (Ty.sub_refl _) | refine subs_cons ?_ ?_)))
      all_goals skip
      all_goals first | exact Ty.sub_row (congrArg Prod.fst (up_succ d _)).symm | exact Ty.sub_int (congrArg (fun p : List Int × Sk => p.2.mixed) (up_succ d _).symm) | exact Ty.sub_int (congrArg (fun p : List Int × Sk => p.2.taken) (up_succ d _).symm) | exact Ty.sub_sl (congrArg (fun p : List Int × Sk => p.2.grain) (up_succ d _).symm)
    ·
      refine t_exit ?_
      refine i_then_exit ?_
      refine i_then_exit ?_
      refine i_block_exit rfl ?_
      refine i_then ?_
      refine t_seq ?_
      obtain ⟨k, hk⟩ := k
      obtain rfl : k = d.n := by have h1 : ¬ (k : Int) < (d.n : Int) := hc1; have h2 : k ≤ d.n := hk; omega
      have hun := (hup d.n).1
      have hut := (hup d.n).2
      refine t_region ?_
      refine mvO rfl ?_
      refine mvI rfl ?_
      refine r_field_ptr rfl rfl rfl rfl rfl (by decide) ?_
      refine r_load_ptr rfl rfl (by decide) rfl rfl rfl ?_
      refine r_len_row rfl rfl rfl ?_
      refine r_min rfl rfl ?_
      refine r_add rfl rfl (by omega) (by omega) ?_
      refine r_callG [(1000, 1000)] [] [(1000, Cont.cells 141 (skTys (skNext (d.up d.n).2)))] (c_Below (d.up d.n).2 ⟨by omega, by omega⟩ _) rfl rfl (by repeat (first | exact cv_nil | refine cv_cons ?_ ?_ | exact cv_ptr List.mem_cons_self | exact cv_pub rfl rfl)) (pre_cons (a := 1000) (b := 1000) (by exact List.mem_cons_self) rfl (cc_cells_eq (by exact List.mem_cons_self) rfl rfl rfl) pre_nil) (post_cons (a := 1000) (b := 1000) (by exact List.mem_cons_self) rfl (cc_cells_eq (by exact List.mem_cons_self) rfl rfl rfl) post_nil) (cv_pub rfl rfl) ?_
      refine asI rfl ?_
      refine r_nil ?_
      refine i_then ?_
      refine t_seq ?_
      refine t_seq ?_
      refine t_region ?_
      refine mvB rfl ?_
      refine r_nil ?_
      refine i_then ?_
      refine t_cond_ff rfl (rfl) ?_
      refine t_skip ?_
      refine i_then ?_
      refine t_seq ?_
      have hsn : skNext (d.up d.n).2 = skNext (d.up d.n).2 := rfl
      have hst := skNext_taken (d.up d.n).2
      refine t_as (s := 10) rfl (Ty.sub_int (show skBelow (d.up d.n).2 (min d.lots ((d.up d.n).1.length : Nat) + 1) = (d.many : Nat) by rw [hun]; exact hm.2.2.symm)) ?_
      refine t_asC (tg := 10) rfl (Cont.sub_cells (congrArg (fun l => [Ty.row I64 3 27 l, Ty.ex (.slice none 0 0)]) (show (d.up d.n).1 = d.sizes by unfold Md.sizes; rfl))) ?_
      refine t_pubC (tg := 27) [] [(10, Cont.cells 25 [Ty.sl I64 d.sizes, Ty.ex (.slice none 0 0)])] (by decide) rfl trivial ⟨pubC_cells rfl rfl ⟨pubTy_row, pubTy_same rfl, trivial⟩, trivial⟩ ?_
      refine t_forget (B := live [(0, Ty.ptr 1000 0), (8, Ty.ptr 9 0), (9, Ty.ptr 10 0), (10, Ty.int .i64 (d.many : Nat))] [(9, Cont.cells 25 [Ty.ex (.slice none 0 0), Ty.ex (.slice none 0 0)]), (10, Cont.cells 25 [Ty.sl I64 d.sizes, Ty.ex (.slice none 0 0)]), (1000, Cont.cells 141 (skTys (skNext (d.up d.n).2)))]) ?_ ?_
      · (refine Ent.mk' ?_ ?_ <;> (repeat' (first | exact allSub_zero | exact allTags_nil | refine allSub_succ' ?_ (Ty.sub_any _) | refine allSub_succ' ?_ (Ty.sub_refl _) | refine allTags_cons rfl (Cont.sub_refl _) ?_)))
      refine t_region ?_
      refine mvO rfl ?_
      refine r_field_ptr rfl rfl rfl rfl rfl (by decide) ?_
      refine r_load_ptr rfl rfl (by decide) rfl rfl rfl ?_
      refine r_len rfl rfl rfl ?_
      refine r_callG [(1000, 1000)] [] [(1000, Cont.cells 141 (skTys d.to.2))] (c_Shuffle_at (skNext (d.up d.n).2) d.n d.sizes.length hsz.1 (by omega) ⟨by omega, by omega⟩) rfl rfl (by repeat (first | exact cv_nil | refine cv_cons ?_ ?_ | exact cv_ptr List.mem_cons_self | exact cv_pub rfl rfl)) (pre_cons (a := 1000) (b := 1000) (by exact List.mem_cons_self) rfl (cc_cells_eq (by exact List.mem_cons_self) rfl rfl rfl) pre_nil) (post_cons (a := 1000) (b := 1000) (by exact List.mem_cons_self) rfl (cc_cells_eq (by exact List.mem_cons_self) rfl rfl (by rw [to_eq])) post_nil) (cv_pub rfl rfl) ?_
      refine asS rfl ?_
      refine r_nil ?_
      refine i_then ?_
      refine t_seq ?_
      refine t_seq ?_
      refine t_as (s := 12) rfl (Ty.sub_sl (show (shufUp (skNext (d.up d.n).2) d.n).1 = d.to.1 by rw [to_eq])) ?_
      have hkl : d.many ≤ (shufUp d.to.2 d.n).1.length := by rw [ks_eq, hks.1]; omega
      refine t_region ?_
      refine mvO rfl ?_
      refine r_field_ptr rfl rfl rfl rfl rfl (by decide) ?_
      refine r_load_ptr rfl rfl (by decide) rfl rfl rfl ?_
      refine r_len rfl rfl rfl ?_
      refine r_callG [(1000, 1000)] [] [(1000, Cont.cells 141 (skTys d.ks.2))] (c_Shuffle_at d.to.2 d.n d.sizes.length hsz.1 (by omega) ⟨by omega, by omega⟩) rfl rfl (by repeat (first | exact cv_nil | refine cv_cons ?_ ?_ | exact cv_ptr List.mem_cons_self | exact cv_pub rfl rfl)) (pre_cons (a := 1000) (b := 1000) (by exact List.mem_cons_self) rfl (cc_cells_eq (by exact List.mem_cons_self) rfl rfl rfl) pre_nil) (post_cons (a := 1000) (b := 1000) (by exact List.mem_cons_self) rfl (cc_cells_eq (by exact List.mem_cons_self) rfl rfl (by rw [ks_eq])) post_nil) (cv_pub rfl rfl) ?_
      refine mvI rfl ?_
      refine r_cut_hi rfl rfl rfl rfl rfl rfl hkl ?_
      refine r_len rfl rfl rfl ?_
      refine mvI rfl ?_
      refine r_nil ?_
      refine i_then ?_
      refine t_as (s := 66) rfl (Ty.sub_sl (show (shufUp d.to.2 d.n).1.take d.many = d.ks.1.take d.many by rw [ks_eq])) ?_
      refine t_as (s := 67) rfl (Ty.sub_int (show (((shufUp d.to.2 d.n).1.take d.many).length : Int) = (d.many : Nat) by rw [ks_eq, List.length_take, hks.1]; omega)) ?_
      refine t_block ?_
      refine t_loop (fun (i : {i : Nat // i ≤ d.many}) => live [(0, Ty.ptr 1000 0), (8, Ty.ptr 9 0), (9, Ty.ptr 10 0), (12, Ty.sl I64 d.to.1), (66, Ty.sl I64 (d.ks.1.take d.many)), (67, Ty.int .i64 (d.many : Nat)), (68, Ty.int .i64 (i.1 : Nat))] [(9, Cont.cells 25 [Ty.ex (.slice none 0 0), Ty.ex (.slice none 0 0)]), (10, Cont.cells 25 [Ty.sl I64 d.sizes, Ty.row LotE 57 115 (d.lt i.1).1]), (1000, Cont.cells 141 (skTys (d.lt i.1).2))]) (fun i => d.many - i.1) (⟨0, by omega⟩) ?_ fun i => ?_
      · (refine Ent.mk' ?_ ?_ <;> (repeat' (first | exact allSub_zero | exact allTags_nil | exact subs_nil | refine allSub_succ' ?_ (Ty.sub_any _) | refine allSub_succ' ?_ (Ty.sub_refl _) | refine allTags_cons rfl (Cont.sub_refl _) ?_ | refine allTags_cons rfl (Cont.sub_subs ?_) ?_ | refine subs_cons ?_ (Ty.sub_refl _) | refine subs_cons ?_ ?_)))
        all_goals first | exact Ty.sub_int (congrArg (fun p : List Lot × Sk => p.2.mixed) (lt_zero d).symm) | exact Ty.sub_int (congrArg (fun p : List Lot × Sk => p.2.taken) (lt_zero d).symm) | exact Ty.sub_sl (congrArg (fun p : List Lot × Sk => p.2.grain) (lt_zero d).symm) | exact nil_row_eq (congrArg Prod.fst (lt_zero d).symm)
      ·
        have hi := i.2
        have hll := (d.lt_len i.1).1
        have hlt := (d.lt_len i.1).2
        have hkt : (d.ks.1.take d.many).length = d.many := by rw [List.length_take, hks.1]; omega
        refine t_seq ?_
        refine t_region ?_
        refine r_bin rfl rfl rfl ?_
        refine r_nil ?_
        refine i_then ?_
        refine t_seq ?_
        refine t_cond_dec rfl (fun hc3 => ?_) (fun hc3 => ?_)
        ·
          refine t_skip ?_
          refine i_then ?_
          refine t_seq ?_
          refine t_block ?_
          refine t_seq ?_
          refine t_region ?_
          refine mvI rfl ?_
          refine r_index_slN rfl rfl rfl rfl rfl rfl (by omega) ?_
          refine r_load_pp rfl rfl rfl rfl ?_
          refine asI rfl ?_
          refine asI rfl ?_
          refine r_nil ?_
          refine i_then ?_
          refine t_seq ?_
          have hlo := d.lot_ok (d.lt i.1).2 (k := i.1) (by omega)
          have hlk := hlo.1
          have hlz := d.size_at hlk
          refine t_as (s := 14) rfl (Ty.sub_int (show nth (d.ks.1.take d.many) i.1 = nth d.ks.1 i.1 by rw [nth_lt (by omega), nth_lt (by rw [hks.1]; omega), List.getElem_take])) ?_
          refine t_draw mixed rfl ?_
          refine mvO rfl ?_
          refine r_field_ptr rfl rfl rfl rfl rfl (by decide) ?_
          refine r_load_ptr rfl rfl (by decide) rfl rfl rfl ?_
          refine mvI rfl ?_
          refine r_index_sl rfl rfl rfl rfl rfl rfl hlk.1 (by rw [hsz.1]; omega) ?_
          refine r_load_pp rfl rfl rfl rfl ?_
          refine r_callG [(1000, 1000)] [] [(1000, Cont.cells 141 (skTys (skNext (d.lt i.1).2)))] (c_Among (d.lt i.1).2 ⟨by omega, by omega⟩ 1 (nth d.sizes (nth d.ks.1 i.1).toNat) (by omega) (by omega)) rfl rfl (by repeat (first | exact cv_nil | refine cv_cons ?_ ?_ | exact cv_ptr List.mem_cons_self | exact cv_pub rfl rfl)) (pre_cons (a := 1000) (b := 1000) (by exact List.mem_cons_self) rfl (cc_cells_eq (by exact List.mem_cons_self) rfl rfl rfl) pre_nil) (post_cons (a := 1000) (b := 1000) (by exact List.mem_cons_self) rfl (cc_cells_eq (by exact List.mem_cons_self) rfl rfl rfl) post_nil) (cv_pub rfl rfl) ?_
          refine mvI rfl ?_
          refine mvS rfl ?_
          refine mvI rfl ?_
          refine r_index_slN rfl rfl rfl rfl rfl rfl (by rw [hto.1]; omega) ?_
          refine r_load_pp rfl rfl rfl rfl ?_
          refine r_build rfl rfl (by exact List.cons_ne_nil _ _) rfl (by repeat (first | exact (Parts.nil : Parts _ _ [] _) | (show Parts _ _ ((_, _) :: _) _; apply Parts.one; (· exact (rfl : _ = Ty.int _ _)); (· exact rfl)))) (by exact (rfl : _ = some [_, _, _])) ?_
          refine r_alloc rfl (by exact List.cons_ne_nil _ _) rfl ?_
          refine r_storeN rfl rfl (by decide) rfl rfl rfl rfl rfl rfl ?_
          refine r_nil ?_
          refine ⟨by kernel_rfl, ?_⟩
          refine i_then ?_
          refine t_join (J := live [(0, Ty.ptr 1000 0), (8, Ty.ptr 9 0), (9, Ty.ptr 10 0), (12, Ty.sl I64 d.to.1), (15, Ty.ptr 16 0), (66, Ty.sl I64 (d.ks.1.take d.many)), (67, Ty.int .i64 (d.many : Nat)), (68, Ty.int .i64 (i.1 : Nat))] [(9, Cont.cells 25 [Ty.ex (.slice none 0 0), Ty.ex (.slice none 0 0)]), (10, Cont.cells 25 [Ty.sl I64 d.sizes, Ty.row LotE 57 115 (d.lt i.1).1]), (16, Cont.cells 57 [Ty.int .i64 (d.sackV (d.lt i.1).2 i.1), Ty.int .i64 (nth d.ks.1 i.1), Ty.int .i64 (d.aimV (d.lt i.1).2 i.1)]), (1000, Cont.cells 141 (skTys (skNext (skNext (d.lt i.1).2))))]) ?_ ?_
          ·
            refine t_seq ?_
            have hst2 := skNext_taken (d.lt i.1).2
            refine t_region ?_
            refine mvO rfl ?_
            refine r_callG [(1000, 1000)] [] [(1000, Cont.cells 141 (skTys (skNext (skNext (d.lt i.1).2))))] (c_Rare (skNext (d.lt i.1).2) ⟨by omega, by omega⟩ 4) rfl rfl (by repeat (first | exact cv_nil | refine cv_cons ?_ ?_ | exact cv_ptr List.mem_cons_self | exact cv_pub rfl rfl)) (pre_cons (a := 1000) (b := 1000) (by exact List.mem_cons_self) rfl (cc_cells_eq (by exact List.mem_cons_self) rfl rfl rfl) pre_nil) (post_cons (a := 1000) (b := 1000) (by exact List.mem_cons_self) rfl (cc_cells_eq (by exact List.mem_cons_self) rfl rfl rfl) post_nil) (cv_pub rfl rfl) ?_
            refine r_nil ?_
            refine i_then ?_
            refine t_cond_dec rfl (fun hc4 => ?_) (fun hc4 => ?_)
            ·
              refine t_region ?_
              refine r_field_ptr rfl rfl rfl rfl rfl (by decide) ?_
              refine r_store1 rfl rfl (by decide) rfl rfl (by exact (rfl : _ = Ty.int _ _)) rfl (by exact Nat.le_of_ble_eq_true rfl) rfl rfl (by exact rfl) ?_
              refine r_nil ?_
              refine i_join ?_
              (refine Ent.mk' ?_ ?_ <;> (repeat' (first | exact allSub_zero | exact allTags_nil | exact subs_nil | refine allSub_succ' ?_ (Ty.sub_any _) | refine allSub_succ' ?_ (Ty.sub_refl _) | refine allTags_cons rfl (Cont.sub_refl _) ?_ | refine allTags_cons rfl (Cont.sub_subs ?_) ?_ | refine subs_cons ?_ (Ty.sub_refl _) | refine subs_cons ?_ ?_)))
              all_goals first | exact Ty.sub_int (aim_rare (decide_eq_true hc4)) | exact Ty.sub_int (by unfold Md.sackV; rfl)
            ·
              refine t_skip ?_
              refine i_join ?_
              (refine Ent.mk' ?_ ?_ <;> (repeat' (first | exact allSub_zero | exact allTags_nil | exact subs_nil | refine allSub_succ' ?_ (Ty.sub_any _) | refine allSub_succ' ?_ (Ty.sub_refl _) | refine allTags_cons rfl (Cont.sub_refl _) ?_ | refine allTags_cons rfl (Cont.sub_subs ?_) ?_ | refine subs_cons ?_ (Ty.sub_refl _) | refine subs_cons ?_ ?_)))
              all_goals first | exact Ty.sub_int (aim_not (decide_eq_false hc4)) | exact Ty.sub_int (by unfold Md.sackV; rfl)
          ·
            refine t_join (J := live [(0, Ty.ptr 1000 0), (8, Ty.ptr 9 0), (9, Ty.ptr 10 0), (12, Ty.sl I64 d.to.1), (15, Ty.ptr 16 0), (66, Ty.sl I64 (d.ks.1.take d.many)), (67, Ty.int .i64 (d.many : Nat)), (68, Ty.int .i64 (i.1 : Nat))] [(9, Cont.cells 25 [Ty.ex (.slice none 0 0), Ty.ex (.slice none 0 0)]), (10, Cont.cells 25 [Ty.sl I64 d.sizes, Ty.row LotE 57 115 (d.lt i.1).1]), (16, Cont.cells 57 (LotE.tys (d.lotV (d.lt i.1).2 i.1))), (1000, Cont.cells 141 (skTys (skNext (skNext (d.lt i.1).2))))]) ?_ ?_
            ·
              refine t_seq ?_
              refine t_draw mixed rfl ?_
              refine r_field_ptr rfl rfl rfl rfl rfl (by decide) ?_
              refine r_load_ptr rfl rfl (by decide) rfl rfl rfl ?_
              refine r_bin rfl rfl rfl ?_
              refine mvB rfl ?_
              apply r_guard (s := 92) rfl rfl rfl
              · intro hg; apply opT_of; (refine r_field_ptr rfl rfl rfl rfl rfl (by decide) ?_); refine r_nil ?_; exact rfl
              · exact rfl
              · exact rfl
              apply r_guard (s := 92) rfl rfl rfl
              · intro hg; apply opT_strip (s := 93) rfl (by (rw [hg]; rfl)); apply opT_of; (refine r_load_ptr rfl rfl (by decide) rfl rfl rfl ?_); refine r_nil ?_; exact rfl
              · exact rfl
              · exact rfl
              apply r_guard (s := 92) rfl rfl rfl
              · intro hg; apply opT_of; (refine r_field_ptr rfl rfl rfl rfl rfl (by decide) ?_); refine r_nil ?_; exact rfl
              · exact rfl
              · exact rfl
              apply r_guard (s := 92) rfl rfl rfl
              · intro hg; apply opT_strip (s := 95) rfl (by (rw [hg]; rfl)); apply opT_of; (refine r_load_ptr rfl rfl (by decide) rfl rfl rfl ?_); refine r_nil ?_; exact rfl
              · exact rfl
              · exact rfl
              apply r_guard (s := 92) rfl rfl rfl
              · intro hg; apply opT_strip (s := 94) rfl (by (rw [hg]; rfl)); apply opT_strip (s := 96) rfl (by (rw [hg]; rfl)); apply opT_of; (refine r_index_sl rfl rfl rfl rfl rfl rfl (aim_in (by omega) hg).1 (aim_in (by omega) hg).2 ?_); refine r_nil ?_; exact rfl
              · exact rfl
              · exact rfl
              apply r_guard (s := 92) rfl rfl rfl
              · intro hg; apply opT_strip (s := 97) rfl (by (rw [hg]; rfl)); apply opT_of; (refine r_load_pp rfl rfl rfl rfl ?_); refine r_nil ?_; exact rfl
              · exact rfl
              · exact rfl
              apply r_guard (s := 92) rfl rfl rfl
              · intro hg; apply opT_of; (refine r_field_ptr rfl rfl rfl rfl rfl (by decide) ?_); refine r_nil ?_; exact rfl
              · exact rfl
              · exact rfl
              apply r_guard (s := 92) rfl rfl rfl
              · intro hg; apply opT_strip (s := 99) rfl (by (rw [hg]; rfl)); apply opT_of; (refine r_load_ptr rfl rfl (by decide) rfl rfl rfl ?_); refine r_nil ?_; exact rfl
              · exact rfl
              · exact rfl
              apply r_guard (s := 92) rfl rfl rfl
              · intro hg; apply opT_strip (s := 98) rfl (by (rw [hg]; rfl)); apply opT_strip (s := 100) rfl (by (rw [hg]; rfl)); apply opT_of; (refine r_bin rfl rfl rfl ?_); refine r_nil ?_; exact rfl
              · exact rfl
              · exact rfl
              refine r_and rfl rfl ?_
              refine r_nil ?_
              refine ⟨by kernel_rfl, ?_⟩
              refine i_then ?_
              refine t_cond rfl (fun hc5 => ?_) (fun hc5 => ?_)
              ·
                have hai := aim_in (i := i.1) (s := (d.lt i.1).2) (by omega) (show (!decide (d.aimV (d.lt i.1).2 i.1 = -1)) = true by have := (less_yes hc5).1; simpa using this)
                refine t_region ?_
                refine r_field_ptr rfl rfl rfl rfl rfl (by decide) ?_
                refine r_load_ptr rfl rfl (by decide) rfl rfl rfl ?_
                refine r_field_ptr rfl rfl rfl rfl rfl (by decide) ?_
                refine r_load_ptr rfl rfl (by decide) rfl rfl rfl ?_
                refine r_index_sl rfl rfl rfl rfl rfl rfl hai.1 hai.2 ?_
                refine r_load_pp rfl rfl rfl rfl ?_
                refine r_field_ptr rfl rfl rfl rfl rfl (by decide) ?_
                refine r_store1 rfl rfl (by decide) rfl rfl (by exact (rfl : _ = Ty.int _ _)) rfl (by exact Nat.le_of_ble_eq_true rfl) rfl rfl (by exact rfl) ?_
                refine r_nil ?_
                refine i_join ?_
                (refine Ent.mk' ?_ ?_ <;> (repeat' (first | exact allSub_zero | exact allTags_nil | exact subs_nil | refine allSub_succ' ?_ (Ty.sub_any _) | refine allSub_succ' ?_ (Ty.sub_refl _) | refine allTags_cons rfl (Cont.sub_refl _) ?_ | refine allTags_cons rfl (Cont.sub_subs ?_) ?_ | refine subs_cons ?_ (Ty.sub_refl _) | refine subs_cons ?_ ?_)))
                all_goals exact Ty.sub_int (sack_less hc5)
              ·
                refine t_skip ?_
                refine i_join ?_
                (refine Ent.mk' ?_ ?_ <;> (repeat' (first | exact allSub_zero | exact allTags_nil | exact subs_nil | refine allSub_succ' ?_ (Ty.sub_any _) | refine allSub_succ' ?_ (Ty.sub_refl _) | refine allTags_cons rfl (Cont.sub_refl _) ?_ | refine allTags_cons rfl (Cont.sub_subs ?_) ?_ | refine subs_cons ?_ (Ty.sub_refl _) | refine subs_cons ?_ ?_)))
                all_goals exact Ty.sub_int (sack_same hc5)
            ·
              refine t_region ?_
              refine r_field_ptr rfl rfl rfl rfl rfl (by decide) ?_
              refine r_load_ptr rfl rfl (by decide) rfl rfl rfl ?_
              refine r_load_ptrN rfl rfl (by decide) rfl rfl (by exact Nat.le_of_ble_eq_true rfl) ?_
              refine r_buildSlice (E := LotE) (xs := [d.lotV (d.lt i.1).2 i.1]) rfl rfl rfl rfl rfl (by decide) (by decide) (by repeat (first | exact (Parts.nil : Parts _ _ [] _) | (show Parts _ _ ((_, _) :: _) _; apply Parts.agg; (· exact (rfl : _ = Ty.agg _))))) (by exact rfl) rfl ?_
              refine r_append rfl rfl (by decide) rfl rfl rfl rfl rfl rfl (by decide) (by (simp <;> omega)) (by (simp <;> omega)) ?_
              refine r_field_ptr rfl rfl rfl rfl rfl (by decide) ?_
              refine r_store1 rfl rfl (by decide) rfl rfl (by exact (rfl : _ = Ty.row _ _ _ _)) rfl (by exact Nat.le_of_ble_eq_true rfl) rfl rfl (by exact rfl) ?_
              refine r_nil ?_
              refine i_block ?_
              refine i_then ?_
              refine t_region ?_
              refine r_add rfl rfl (by omega) (by omega) ?_
              refine mvI rfl ?_
              refine r_nil ?_
              refine i_round (⟨i.1 + 1, by omega⟩) ?_ (by show d.many - (i.1 + 1) < d.many - i.1; omega)
              (refine Ent.mk' ?_ ?_ <;> (repeat' (first | exact allSub_zero | exact allTags_nil | exact subs_nil | refine allSub_succ' ?_ (Ty.sub_any _) | refine allSub_succ' ?_ (Ty.sub_refl _) | refine allTags_cons rfl (Cont.sub_refl _) ?_ | refine allTags_cons rfl (Cont.sub_subs ?_) ?_ | refine subs_cons ?_ (Ty.sub_refl _) | refine subs_cons ?_ ?_)))
              all_goals skip
              all_goals first | exact Ty.sub_row (congrArg Prod.fst (lt_succ d _)).symm | exact Ty.sub_int (congrArg (fun p : List Lot × Sk => p.2.mixed) (lt_succ d _).symm) | exact Ty.sub_int (congrArg (fun p : List Lot × Sk => p.2.taken) (lt_succ d _).symm) | exact Ty.sub_sl (congrArg (fun p : List Lot × Sk => p.2.grain) (lt_succ d _).symm)
        ·
          refine t_exit ?_
          refine i_then_exit ?_
          refine i_then_exit ?_
          refine i_block_exit rfl ?_
          refine i_then ?_
          refine t_seq ?_
          obtain ⟨i, hi⟩ := i
          obtain rfl : i = d.many := by have h1 : ¬ (i : Int) < (d.many : Int) := hc3; have h2 : i ≤ d.many := hi; omega
          refine t_pubC (tg := 115) [] [(10, Cont.cells 25 [Ty.sl I64 d.sizes, Ty.sl LotE (d.lt d.many).1])] (by decide) rfl trivial ⟨pubC_cells rfl rfl ⟨pubTy_same rfl, pubTy_row, trivial⟩, trivial⟩ ?_
          refine t_region ?_
          refine r_load_ptrN rfl rfl (by decide) rfl rfl (by exact Nat.le_of_ble_eq_true rfl) ?_
          refine r_storeN rfl rfl (by decide) rfl rfl rfl rfl rfl rfl ?_
          refine r_nil ?_
          refine i_then ?_
          refine t_ret ?_
          refine g_rcell [1000] rfl rfl rfl rfl (by decide) rfl rfl rfl (by decide) (by repeat (first | exact rc_nil | refine rc_cons rfl (cc_cells_eq (by decide) rfl rfl rfl) ?_)) ?_
          all_goals exact rg_cv (cv_pub rfl rfl)
          all_goals trace_state
end Go.Proofs.Ytpnndljmhpepgaa

namespace Go.T
open Go Go.RowKit
section
variable {P : Program} {fr : Fr} {ops : Array Oper} {A : As} {rest : List Oper} {K : As → List (As × Fx) → Prop} {d : Nat} {t : TypeId} {p : String} {e : Array Edge}
end
end Go.T

namespace Go.Proofs.Ytpnndljmhpepgaa
open Go Go.T
def innL (b : Barn) : List Int := b.lots.map fun l => l.inn
def noT (b : Barn) (p : List Int) (t : Tur) : Bool := decide (t.lot < 0) || decide (t.lot ≥ p.length) || decide (t.aim < 0) || decide (t.aim ≥ b.sizes.length) || decide (t.aim ∈ p) || decide (nth b.sizes t.aim.toNat < (nth b.lots t.lot.toNat).sacks)
theorem noT_false {b : Barn} {p : List Int} {t : Tur} : noT b p t = false ↔ (0 ≤ t.lot ∧ t.lot < p.length) ∧ (0 ≤ t.aim ∧ t.aim < b.sizes.length) ∧ t.aim ∉ p ∧ (nth b.lots t.lot.toNat).sacks ≤ nth b.sizes t.aim.toNat := by
  unfold noT
  simp only [Bool.or_eq_false_iff, decide_eq_false_iff_not]
  constructor
  · rintro ⟨⟨⟨⟨⟨h1, h2⟩, h3⟩, h4⟩, h5⟩, h6⟩; exact ⟨by omega, by omega, h5, by omega⟩
  · rintro ⟨h1, h2, h3, h4⟩; exact ⟨⟨⟨⟨⟨by omega, by omega⟩, by omega⟩, by omega⟩, h3⟩, by omega⟩
def lawGo (b : Barn) : List Int → List Tur → Option (List Int)
  | p, [] => some p
  | p, t :: l => if noT b p t = true then none else lawGo b (p.set t.lot.toNat t.aim) l
def lawV (b : Barn) (plan : List Tur) : List Int × Bool := match lawGo b (innL b) plan with
  | some p => (p, true)
  | none => ([], false)
structure LIx (b : Barn) (plan : List Tur) (k : Nat) (p : List Int) : Prop where
  same : lawGo b (innL b) plan = lawGo b p (plan.drop k)
  len : p.length = b.lots.length
  le : k ≤ plan.length
section
variable {b : Barn} {plan : List Tur} {k : Nat} {p : List Int}
theorem LIx.next (h : LIx b plan k p) (hk : k < plan.length) (hn : noT b p (nth plan k) = false) : LIx b plan (k + 1) (p.set (nth plan k).lot.toNat (nth plan k).aim) := by
  refine ⟨?_, by rw [List.length_set]; exact h.len, hk⟩
  rw [h.same, drop_nth hk]
  exact if_neg (by rw [hn]; decide)
theorem LIx.end (h : LIx b plan k p) (hk : plan.length ≤ k) : lawV b plan = (p, true) := by
  unfold lawV
  rw [h.same, List.drop_of_length_le hk]; rfl
end
theorem takenP_not {b : Barn} {P : Pl} {x : Int} : takenP b P x = false ↔ x ∉ P.1.take b.lots.length := by
  unfold takenP; rw [List.any_eq_false]; simp only [decide_eq_true_eq]
  exact ⟨fun h hm => h _ hm rfl, fun h y hy e => h (e ▸ hy)⟩
theorem noT_turns {b : Barn} {P : Pl} (h6 : b.lots.length ≤ 6) {t : Tur} : noT b (P.1.take b.lots.length) t = false ↔ t ∈ turnsL b P := by
  rw [noT_false, mem_turnsL]
  have hl : (P.1.take b.lots.length).length = b.lots.length := by rw [List.length_take, P.2]; omega
  rw [hl, takenP_not]; unfold Barn.hold; rw [decide_eq_true_eq]
  constructor
  · rintro ⟨⟨h1, h2⟩, ⟨h3, h4⟩, h5, h6⟩; exact ⟨h1, h2, h3, h4, h5, h6⟩
  · rintro ⟨h1, h2, h3, h4, h5, h6⟩; exact ⟨⟨h1, h2⟩, ⟨h3, h4⟩, h5, h6⟩
theorem set_take {P : Pl} {t : Tur} {n : Nat} : (P.1.take n).set t.lot.toNat t.aim = (moved P t).1.take n := by
  unfold moved; rw [List.take_set]
theorem go_law {b : Barn} (h6 : b.lots.length ≤ 6) : ∀ (l : List Tur) (P : Pl), lawGo b (P.1.take b.lots.length) l = (goP b P l).map fun q => q.1.take b.lots.length
  | [], P => rfl
  | t :: l, P => by
    show (if noT b (P.1.take b.lots.length) t = true then none else lawGo b ((P.1.take b.lots.length).set t.lot.toNat t.aim) l) = Option.map _ (if t ∈ turnsL b P then goP b (moved P t) l else none)
    by_cases h : t ∈ turnsL b P
    · rw [if_pos h, if_neg (by rw [(noT_turns h6).2 h]; decide), set_take, go_law h6 l]
    · rw [if_neg h, if_pos (by
        cases e : noT b (P.1.take b.lots.length) t with
        | true => rfl
        | false => exact absurd ((noT_turns h6).1 e) h)]; rfl
theorem first_inn {b : Barn} (h6 : b.lots.length ≤ 6) : (firstP b).1.take b.lots.length = innL b := by
  unfold firstP innL
  show List.take _ (List.take 6 _) = _
  rw [List.take_take, Nat.min_eq_left h6, List.take_append_of_le_length (by simp)]
  exact List.take_of_length_le (by simp)
theorem law_go {b : Barn} (h6 : b.lots.length ≤ 6) (l : List Tur) : lawGo b (innL b) l = (goP b (firstP b) l).map fun q => q.1.take b.lots.length := by rw [← first_inn h6, go_law h6]
theorem lawV_iff {b : Barn} (h6 : b.lots.length ≤ 6) {l : List Tur} : (lawV b l).2 = true ↔ ∃ q, goP b (firstP b) l = some q := by
  unfold lawV
  rw [law_go h6]
  cases goP b (firstP b) l with
  | none => exact ⟨(fun h => by cases h), fun ⟨_, h⟩ => by cases h⟩
  | some q => exact ⟨fun _ => ⟨q, rfl⟩, fun _ => rfl⟩
theorem lawV_some {b : Barn} (h6 : b.lots.length ≤ 6) {l : List Tur} {q : Pl} (h : goP b (firstP b) l = some q) : lawV b l = (q.1.take b.lots.length, true) := by
  unfold lawV; rw [law_go h6, h]; rfl
theorem lawV_none {b : Barn} (h6 : b.lots.length ≤ 6) {l : List Tur} (h : goP b (firstP b) l = none) : lawV b l = ([], false) := by
  unfold lawV; rw [law_go h6, h]; rfl
def okI (b : Barn) (p : List Int) (i : Nat) : Bool := decide ((nth b.lots i).aim = -1) || decide ((nth b.lots i).aim = nth p i)
def isUp (b : Barn) (plan : List Tur) (k : Nat) : Bool := (lawV b plan).2 && (List.range k).all (okI b (lawV b plan).1)
def rightV (b : Barn) (plan : List Tur) : Bool := isUp b plan (lawV b plan).1.length
theorem nth_take {l : List Int} {n i : Nat} (h : i < n) : nth (l.take n) i = nth l i := by
  unfold nth; rw [List.getD_eq_getElem?_getD, List.getD_eq_getElem?_getD, List.getElem?_take_of_lt h]
theorem right_iff {b : Barn} (h6 : b.lots.length ≤ 6) {l : List Tur} : rightV b l = true ↔ ∃ q, goP b (firstP b) l = some q ∧ madeP b q = true := by
  unfold rightV isUp
  cases h : goP b (firstP b) l with
  | none => rw [lawV_none h6 h]; exact ⟨(fun h => by cases h), fun ⟨_, h, _⟩ => by cases h⟩
  | some q =>
    rw [lawV_some h6 h]
    have hl : (q.1.take b.lots.length).length = b.lots.length := by rw [List.length_take, q.2]; omega
    have e : (true && (List.range (q.1.take b.lots.length).length).all (okI b (q.1.take b.lots.length))) = madeP b q := by
      rw [hl, Bool.true_and]
      unfold madeP
      rw [Bool.eq_iff_iff, List.all_eq_true, List.all_eq_true]
      have key : ∀ i, i ∈ List.range b.lots.length → okI b (q.1.take b.lots.length) i = (decide ((nth b.lots i).aim = -1) || decide ((nth b.lots i).aim = nth q.1 i)) := fun i hi => by
        unfold okI; rw [nth_take (List.mem_range.1 hi)]
      exact ⟨fun H i hi => by rw [← key i hi]; exact H i hi, fun H i hi => by rw [key i hi]; exact H i hi⟩
    show (true && _) = true ↔ _
    rw [e]
    exact ⟨fun h => ⟨q, rfl, h⟩, fun ⟨q', h1, h2⟩ => by injection h1 with h1; rw [h1]; exact h2⟩
def tryT (b : Barn) (s : Sk) : Tur := ⟨skBelow s b.lots.length, skBelow (skNext s) b.sizes.length⟩
def walkS (b : Barn) (s : Sk) : Nat → List Tur × Sk
  | 0 => ([], s)
  | k + 1 => (if (lawV b ((walkS b s k).1 ++ [tryT b (walkS b s k).2])).2 = true then (walkS b s k).1 ++ [tryT b (walkS b s k).2] else (walkS b s k).1, skNext (skNext (walkS b s k).2))
def walkN (s : Sk) (most : Int) : Nat := (skBelow s (most + 1)).toNat
def walkP (b : Barn) (s : Sk) (most : Int) : List Tur := (walkS b (skNext s) (walkN s most)).1
def walkE (b : Barn) (s : Sk) (most : Int) : Sk := (walkS b (skNext s) (walkN s most)).2
structure WalkOk (b : Barn) (s : Sk) (most : Int) (l : List Tur) (e : Sk) : Prop where
  len : (l.length : Int) ≤ most
  taken : s.taken ≤ e.taken ∧ e.taken ≤ s.taken + 1 + 2 * most
  ok : (lawV b l).2 = true
theorem go_rng {b : Barn} : ∀ (l : List Tur) {p q : Pl}, goP b p l = some q → ∀ t ∈ l, (0 ≤ t.lot ∧ t.lot < b.lots.length) ∧ 0 ≤ t.aim ∧ t.aim < b.sizes.length
  | [], p, q, _, t, ht => by cases ht
  | u :: l, p, q, h, t, ht => by
    have h : (if u ∈ turnsL b p then goP b (moved p u) l else none) = some q := h
    by_cases hu : u ∈ turnsL b p
    · rw [if_pos hu] at h
      rcases List.mem_cons.1 ht with rfl | ht
      · have := mem_turnsL.1 hu
        exact ⟨⟨this.1, this.2.1⟩, this.2.2.1, this.2.2.2.1⟩
      · exact go_rng l h t ht
    · rw [if_neg hu] at h; cases h
end Go.Proofs.Ytpnndljmhpepgaa

namespace Go.Proofs.Ytpnndljmhpepgaa
open Go Go.T
set_option maxHeartbeats 4000000
def innU (b : Barn) (k : Nat) : List Int := (b.lots.take k).map fun l => l.inn
attribute [local irreducible] dInt dBool dSl dPp dPtr dAgg dTup dClo dAny dEx dStr dGd dCells dVec dVs dRow dOp nth Tri Into TOps Ctr bodyPost Exit.then Exit.inBlock Code.wp Code.wpIn dWhen dPa dPe dAo dArr dMp dPm dMap dCJ CtrG CtrI OpY keepPost iterPost bodyPostM roundQ
end Go.Proofs.Ytpnndljmhpepgaa

namespace Go.Proofs.Ytpnndljmhpepgaa
open Go Go.T
def apartP (b : Barn) (p : Pl) : Prop := ∀ i k, i < b.lots.length → k < b.lots.length → nth p.1 i = nth p.1 k → i = k
theorem goP_cons {b : Barn} {p q : Pl} {t : Tur} {l : List Tur} (h : goP b p (t :: l) = some q) : t ∈ turnsL b p ∧ goP b (moved p t) l = some q := by
  have h : (if t ∈ turnsL b p then goP b (moved p t) l else none) = some q := h
  by_cases hu : t ∈ turnsL b p
  · rw [if_pos hu] at h; exact ⟨hu, h⟩
  · rw [if_neg hu] at h; cases h
theorem goP_cons' {b : Barn} {p : Pl} {t : Tur} {l : List Tur} (h : t ∈ turnsL b p) : goP b p (t :: l) = goP b (moved p t) l := if_pos h
theorem first_nth {b : Barn} (h6 : b.lots.length ≤ 6) {i : Nat} (hi : i < b.lots.length) : nth (firstP b).1 i = (nth b.lots i).inn := by
  rw [← nth_take (n := b.lots.length) hi, first_inn h6]
  unfold innL
  rw [nth_lt (by rw [List.length_map]; exact hi), nth_lt hi, List.getElem_map]
theorem made_at {b : Barn} {q : Pl} (h : madeP b q = true) {i : Nat} (hi : i < b.lots.length) : (nth b.lots i).aim = -1 ∨ (nth b.lots i).aim = nth q.1 i := by
  unfold madeP at h
  have := List.all_eq_true.1 h i (List.mem_range.2 hi)
  simpa using this
theorem filtUp_nodup (p : Nat → Bool) (n : Nat) : (filtUp p n).Nodup := by
  unfold filtUp
  rw [List.nodup_iff_pairwise_ne, List.pairwise_map]
  have h : ((List.range n).filter p).Pairwise fun a c => a ≠ c := List.Pairwise.filter _ (List.nodup_iff_pairwise_ne.1 List.nodup_range)
  exact h.imp fun hne e => hne (by omega)
structure Cheap (b : Barn) (c : Tur → Int) (e : Int) (l : List Tur) (n : Int) : Prop where
  err : e = 0 ∨ e = 7
  yes : e = 0 → rightV b l = true ∧ costL c l = n ∧ ∀ x, rightV b x = true → n ≤ costL c x
  no : e = 7 → l = [] ∧ n = 0 ∧ ∀ x, rightV b x = false
theorem cheap {b : Barn} {c : Tur → Int} (hr : b.Right) (hc : CostOk b c) : Cheap b c (planE b c) (planR b c) (costR b c) := by
  have h0 := right_check hr
  have hp := plan_spec hr hc
  have h6 := hr.lots
  unfold planE planR costR
  rw [if_pos h0, if_pos h0, if_pos h0]
  cases hi : (searchM b c false).is with
  | true =>
    rw [if_pos rfl]
    refine ⟨.inl rfl, fun _ => ?_, fun e => by cases e⟩
    obtain ⟨q, h1, h2, h3, h4⟩ := hp.yes hi
    refine ⟨(right_iff h6).2 ⟨q, h1, h2⟩, h3, fun x hx => ?_⟩
    obtain ⟨q', g1, g2⟩ := (right_iff h6).1 hx
    exact h4 x q' g1 g2
  | false =>
    rw [if_neg (by decide)]
    refine ⟨.inr rfl, (fun e => by cases e), fun _ => ⟨if_neg (by rw [hi]; decide), if_neg (by rw [hi]; decide), fun x => ?_⟩⟩
    rw [Bool.eq_false_iff]; intro hx
    obtain ⟨q', g1, g2⟩ := (right_iff h6).1 hx
    have := hp.no hi x q' g1
    rw [g2] at this; cases this
theorem cost_one (l : List Tur) : costL oneC l = l.length := by
  unfold costL oneC
  induction l with
  | nil => rfl
  | cons t l ih => rw [List.map_cons, List.sum_cons, ih, List.length_cons]; omega
theorem right_rng {b : Barn} (h6 : b.lots.length ≤ 6) {l : List Tur} (h : (lawV b l).2 = true) : ∀ t ∈ l, (0 ≤ t.lot ∧ t.lot < b.lots.length) ∧ 0 ≤ t.aim ∧ t.aim < b.sizes.length := by
  obtain ⟨q, hq⟩ := (lawV_iff h6).1 h
  exact go_rng l hq
theorem rightV_ok {b : Barn} {l : List Tur} (h : rightV b l = true) : (lawV b l).2 = true := by
  unfold rightV isUp at h
  rw [Bool.and_eq_true] at h; exact h.1
def leastUp (b : Barn) (l : List Int) (k : Nat) : Int := ((l.take k).map fun (i : Int) => (nth b.lots i.toNat).sacks).sum
theorem must_in (b : Barn) : ∀ i ∈ mustL b, 0 ≤ i ∧ i < b.lots.length := fun i hi => by
  obtain ⟨k, hk, _, rfl⟩ := filtUp_mem.1 hi; omega
end Go.Proofs.Ytpnndljmhpepgaa

namespace Go.Proofs.Ytpnndljmhpepgaa
open Go Go.T
set_option maxHeartbeats 4000000
theorem fill_ok8 (g : List Int) : (skFill g).Ok 1000 := by have h := skFill_ok g; unfold Sk.Ok at *; omega
theorem made8 (g : List Int) (bins lots : Int) (hb : 2 ≤ bins ∧ bins ≤ 7) (hl : 0 ≤ lots ∧ lots ≤ 6) : ∃ b s', b.Right ∧ (b.sizes.length : Int) ≤ bins ∧ (b.lots.length : Int) ≤ lots ∧ CtrG Try.prog 50 [1000] [(1000, Cont.cells 141 (skTys (skFill g)))] [Ty.ptr 1000 0, Ty.int .i64 bins, Ty.int .i64 lots, Ty.bool false] [(1000, Cont.cells 141 (skTys s'))] (barnT b) :=
  have hd : Md.Ok ⟨skFill g, bins, lots⟩ := ⟨hb, hl⟩
  ⟨_, _, Md.right hd, by have h := (Md.n_in hd).2.2.1; have e := (Md.sizes_ok ⟨skFill g, bins, lots⟩).1; exact Int.le_trans (Int.ofNat_le.2 (Nat.le_of_eq e)) h, by have h := (Md.many_in hd).2.1; have e := (Md.lt_len ⟨skFill g, bins, lots⟩ (Md.many ⟨skFill g, bins, lots⟩)).1; exact Int.le_trans (Int.ofNat_le.2 (Nat.le_of_eq e)) h, c_Made ⟨skFill g, bins, lots⟩ hd (fill_ok8 g)⟩
def walksE (b : Barn) (s : Sk) (most : Int) : Nat → Sk
  | 0 => s
  | k + 1 => walkE b (walksE b s most k) most
attribute [local irreducible] planR planE costR walkP walkE sumUp leastUp rightV mustL checkB
attribute [local irreducible] dInt dBool dSl dPp dPtr dAgg dTup dClo dAny dEx dStr dGd dCells dVec dVs dRow dOp nth Tri Into TOps Ctr bodyPost Exit.then Exit.inBlock Code.wp Code.wpIn dWhen dPa dPe dAo dArr dMp dPm dMap dCJ CtrG CtrI OpY keepPost iterPost bodyPostM roundQ
end Go.Proofs.Ytpnndljmhpepgaa

namespace Go.T
open Go Go.RowKit
end Go.T

namespace Go.Proofs.Ytpnndljmhpepgaa
open Go Go.T
variable {b : Barn} {g : Int}
theorem goR_cons {p q : Pl} {l : List Tur} {rs : List (List Tur)} (h : goR b g p (l :: rs) = some q) : l ∈ allR b p g ∧ goR b g (movedAll p l) rs = some q := by
  have h : (if l ∈ allR b p g then goR b g (movedAll p l) rs else none) = some q := h
  by_cases hu : l ∈ allR b p g
  · rw [if_pos hu] at h; exact ⟨hu, h⟩
  · rw [if_neg hu] at h; cases h
theorem goR_cons' {p : Pl} {l : List Tur} {rs : List (List Tur)} (h : l ∈ allR b p g) : goR b g p (l :: rs) = goR b g (movedAll p l) rs := if_pos h
theorem goR_flat (h6 : b.lots.length ≤ 6) (hg : 0 ≤ g) : ∀ (rs : List (List Tur)) {p q : Pl}, goR b g p rs = some q → goP b p rs.flatten = some q
  | [], p, q, h => h
  | l :: rs, p, q, h => by
    obtain ⟨h1, h2⟩ := goR_cons h
    rw [List.flatten_cons, goP_append, round_go h6 l ((mem_allR hg).1 h1)]
    exact goR_flat h6 hg rs h2
theorem one_round {p : Pl} {t : Tur} (hg : 1 ≤ g) (h : t ∈ turnsL b p) : [t] ∈ allR b p g := by
  rw [mem_allR (by omega)]
  have := mem_turnsL.1 h
  refine ⟨by simpa using hg, fun u hu => ?_, List.pairwise_singleton _ _⟩
  rw [List.mem_singleton.1 hu]
  exact ⟨⟨this.1, this.2.1⟩, ⟨this.2.2.1, this.2.2.2.1⟩, this.2.2.2.2.1, this.2.2.2.2.2⟩
theorem goR_singles (hg : 1 ≤ g) : ∀ (l : List Tur) {p q : Pl}, goP b p l = some q → goR b g p (l.map fun t => [t]) = some q
  | [], p, q, h => h
  | t :: l, p, q, h => by
    obtain ⟨h1, h2⟩ := goP_cons h
    rw [List.map_cons, goR_cons' (one_round hg h1)]
    exact goR_singles hg l h2
theorem goR_more {g' : Int} (hg : 0 ≤ g) (hgg : g ≤ g') : ∀ (rs : List (List Tur)) {p q : Pl}, goR b g p rs = some q → goR b g' p rs = some q
  | [], p, q, h => h
  | l :: rs, p, q, h => by
    obtain ⟨h1, h2⟩ := goR_cons h
    have h3 := (mem_allR hg).1 h1
    rw [goR_cons' ((mem_allR (by omega)).2 ⟨by have := h3.len; omega, h3.ok, h3.apart⟩)]
    exact goR_more hg hgg rs h2
theorem goR_rows (hg : 0 ≤ g) : ∀ (rs : List (List Tur)) {p q : Pl}, goR b g p rs = some q → ∀ l ∈ rs, (l.length : Int) ≤ g
  | [], p, q, _, l, hl => by cases hl
  | r :: rs, p, q, h, l, hl => by
    obtain ⟨h1, h2⟩ := goR_cons h
    rcases List.mem_cons.1 hl with rfl | hl
    · exact ((mem_allR hg).1 h1).len
    · exact goR_rows hg rs h2 l hl
theorem flat_le (hg : 0 ≤ g) : ∀ (rs : List (List Tur)), (∀ l ∈ rs, (l.length : Int) ≤ g) → (rs.flatten.length : Int) ≤ rs.length * g
  | [], _ => by simp
  | l :: rs, h => by
    have h1 := h l List.mem_cons_self
    have h2 := flat_le hg rs fun r hr => h r (List.mem_cons_of_mem _ hr)
    rw [List.flatten_cons, List.length_append, List.length_cons]
    have e : (((rs.length + 1 : Nat) : Int)) * g = rs.length * g + g := by rw [Int.natCast_add, Int.add_mul]; simp
    rw [e]; omega
structure Rnds (b : Barn) (g e : Int) (rs : List (List Tur)) : Prop where
  err : e = 0 ∨ e = 7
  yes : e = 0 → ∃ q, goR b g (firstP b) rs = some q ∧ madeP b q = true ∧ ∀ rs' q', goR b g (firstP b) rs' = some q' → madeP b q' = true → rs.length ≤ rs'.length
  no : e = 7 → rs = [] ∧ ∀ rs' q, goR b g (firstP b) rs' = some q → madeP b q = false
theorem rnds (hr : b.Right) (hg : 1 ≤ g ∧ g ≤ 3) : Rnds b g (roundsE b g) (roundsV b g) := by
  have h0 := right_check hr
  obtain ⟨hs, _⟩ := rounds_spec hr (show 0 ≤ g by omega)
  have ha : askE b g = 0 := by unfold askE; rw [if_pos h0, if_pos (inB_true.2 hg)]
  unfold roundsE roundsV
  rw [if_pos ha, if_pos ha]
  cases hi : (roundsM b g).is with
  | true =>
    rw [if_pos rfl, if_pos rfl]
    refine ⟨.inl rfl, fun _ => ?_, fun e => by cases e⟩
    obtain ⟨L, h1, h2, h3, _, h4⟩ := hs.yes hi
    rw [chainM_spec h1]
    exact ⟨_, h2, h3, h4⟩
  | false =>
    rw [if_neg (by decide), if_neg (by decide)]
    exact ⟨.inr rfl, (fun e => by cases e), fun _ => ⟨rfl, hs.no hi⟩⟩
section
variable {e e' n : Int} {l : List Tur} {rs rs' : List (List Tur)}
theorem Rnds.same (h : Rnds b g e' rs) (h6 : b.lots.length ≤ 6) (hg : 1 ≤ g) (hc : Cheap b oneC e l n) : e' = e := by
  rcases h.err with rfl | rfl
  · rcases hc.err with rfl | rfl
    · rfl
    · obtain ⟨q, h1, h2, _⟩ := h.yes rfl
      have := (hc.no rfl).2.2 rs.flatten
      rw [(right_iff h6).2 ⟨q, goR_flat h6 (by omega) rs h1, h2⟩] at this; cases this
  · rcases hc.err with rfl | rfl
    · obtain ⟨q, h1, h2⟩ := (right_iff h6).1 (hc.yes rfl).1
      have := (h.no rfl).2 _ q (goR_singles hg l h1)
      rw [h2] at this; cases this
    · rfl
theorem Rnds.right (h : Rnds b g 0 rs) (h6 : b.lots.length ≤ 6) (hg : 1 ≤ g) : rightV b rs.flatten = true := by
  obtain ⟨q, h1, h2, _⟩ := h.yes rfl
  exact (right_iff h6).2 ⟨q, goR_flat h6 (by omega) rs h1, h2⟩
theorem Rnds.few (h : Rnds b g 0 rs) (h6 : b.lots.length ≤ 6) (hg : 1 ≤ g) (hc : Cheap b oneC 0 l n) : n ≤ rs.length * g ∧ (rs.length : Int) ≤ n := by
  obtain ⟨q, h1, h2, h3⟩ := h.yes rfl
  obtain ⟨c1, c2, c3⟩ := hc.yes rfl
  rw [cost_one] at c2
  constructor
  · have h4 := c3 _ (h.right h6 hg)
    rw [cost_one] at h4
    have := flat_le (by omega) rs (goR_rows (by omega) rs h1)
    omega
  · obtain ⟨q', g1, g2⟩ := (right_iff h6).1 c1
    have := h3 _ q' (goR_singles hg l g1) g2
    rw [List.length_map] at this; omega
theorem Rnds.less (h : Rnds b g 0 rs) (h' : Rnds b (g + 1) 0 rs') (hg : 1 ≤ g) : rs'.length ≤ rs.length := by
  obtain ⟨q, h1, h2, _⟩ := h.yes rfl
  obtain ⟨_, _, _, h3⟩ := h'.yes rfl
  exact h3 _ q (goR_more (by omega) (by omega) rs h1) h2
end
def listsM (m : Nat) : Nat → List (List Int)
  | 0 => [[]]
  | n + 1 => (List.range m).flatMap fun (k : Nat) => (listsM m n).map fun l => (k : Int) :: l
theorem go_tail {b : Barn} : ∀ (l : List Tur) {p q : Pl}, goP b p l = some q → q.1.drop b.lots.length = p.1.drop b.lots.length
  | [], p, q, h => by injection h with h; rw [h]
  | t :: l, p, q, h => by
    obtain ⟨h1, h2⟩ := goP_cons h
    have h3 := mem_turnsL.1 h1
    rw [go_tail l h2]
    unfold moved
    exact List.drop_set_of_lt (by omega)
def ordB (l : List Tur) : Bool := (List.range (l.length - 1)).any fun i => decide ((nth l (i + 1)).lot ≤ (nth l i).lot)
def twI (b : Barn) (p : Pl) (l : List Tur) (i : Nat) : Bool := takenP b p (nth l i).aim || (l.take i).any fun u => decide (u.aim = (nth l i).aim)
def twB (b : Barn) (p : Pl) (l : List Tur) : Bool := (List.range l.length).any fun i => twI b p l i
def roundE (b : Barn) (p : Pl) (g : Int) (l : List Tur) : Int :=
  if (!l.all fun t => b.lot t.lot && b.bin t.aim) = true then 1 else if ordB l = true then 4 else if twB b p l = true then 5 else if (!l.all fun t => b.hold t.aim t.lot) = true then 9 else if (l.length : Int) > g then 2 else 0
def worksGo (b : Barn) (g : Int) : Pl → List (List Tur) → Bool × Int
  | p, [] => (madeP b p, 0)
  | p, l :: rs => if roundE b p g l = 0 then worksGo b g (movedAll p l) rs else (false, roundE b p g l)
def worksV (b : Barn) (g : Int) (rs : List (List Tur)) : Bool × Int := if askE b g = 0 then if (rs.length : Int) > 6000 then (false, 2) else worksGo b g (firstP b) rs else (false, askE b g)
structure WIx (b : Barn) (g : Int) (rs : List (List Tur)) (k : Nat) (p : Pl) : Prop where
  same : worksGo b g (firstP b) rs = worksGo b g p (rs.drop k)
  le : k ≤ rs.length
theorem WIx.next {rs : List (List Tur)} {k : Nat} {p : Pl} (h : WIx b g rs k p) (hk : k < rs.length) (he : roundE b p g (nth rs k) = 0) : WIx b g rs (k + 1) (movedAll p (nth rs k)) :=
  ⟨by rw [h.same, drop_nth hk]; exact if_pos he, hk⟩
theorem WIx.end {rs : List (List Tur)} {k : Nat} {p : Pl} (h : WIx b g rs k p) (hk : rs.length ≤ k) : worksGo b g (firstP b) rs = (madeP b p, 0) := by
  rw [h.same, List.drop_of_length_le hk]; rfl
end Go.Proofs.Ytpnndljmhpepgaa

namespace Go.Proofs.Ytpnndljmhpepgaa
open Go Go.T
def putP (b : Barn) (p : Pl) : Barn := ⟨b.sizes, (List.range b.lots.length).map fun i => ⟨(nth b.lots i).sacks, nth p.1 i, (nth b.lots i).aim⟩⟩
variable {b : Barn} {p q : Pl} {t : Tur}
def backL : Pl → List Tur → List Tur
  | _, [] => []
  | p, t :: l => ⟨t.lot, nth p.1 t.lot.toNat⟩ :: backL (moved p t) l
structure VP (b : Barn) (p : Pl) : Prop where
  apart : apartP b p
  named : ∀ i, i < b.lots.length → 0 ≤ nth p.1 i ∧ nth p.1 i < b.sizes.length
  holds : ∀ i, i < b.lots.length → (nth b.lots i).sacks ≤ nth b.sizes (nth p.1 i).toNat
theorem places_of {c : Barn} (hr : c.Right) {L : List Pl} (hn : L.Nodup) (h : ∀ r, r ∈ L ↔ ∃ l, goP c (firstP c) l = some r) : placesV c = (L.length : Nat) := by
  unfold placesV
  rw [if_pos (right_check hr)]
  obtain ⟨hs, _⟩ := search_spec hr (one_ok c) true
  have hw := (hs.whole rfl).2
  have e1 := nodup_sub hs.keys (L := L) fun r hr' => by
    obtain ⟨w, hw'⟩ := mem_mget hr'
    obtain ⟨l, hl, _⟩ := hs.walk r w hw'
    exact (h r).2 ⟨l, hl⟩
  have e2 := nodup_sub hn (L := (searchM c oneC true).ways.map Prod.fst) fun r hr' => by
    obtain ⟨l, hl⟩ := (h r).1 hr'
    obtain ⟨w, hw'⟩ := hw l r hl
    exact mget_some_mem hw'
  rw [List.length_map] at e1 e2
  congr 1
  omega
theorem reached (hr : b.Right) : ∃ L : List Pl, L.Nodup ∧ (∀ r, r ∈ L ↔ ∃ l, goP b (firstP b) l = some r) ∧ placesV b = (L.length : Nat) := by
  obtain ⟨hs, _⟩ := search_spec hr (one_ok b) true
  have hw := (hs.whole rfl).2
  have h : ∀ r, r ∈ (searchM b oneC true).ways.map Prod.fst ↔ ∃ l, goP b (firstP b) l = some r := fun r => by
    constructor
    · intro hr'
      obtain ⟨w, hw'⟩ := mem_mget hr'
      obtain ⟨l, hl, _⟩ := hs.walk r w hw'
      exact ⟨l, hl⟩
    · rintro ⟨l, hl⟩
      obtain ⟨w, hw'⟩ := hw l r hl
      exact mget_some_mem hw'
  exact ⟨_, hs.keys, h, places_of hr hs.keys h⟩
structure Backs (b : Barn) (plan : List Tur) (a : Barn) (back : List Tur) (p : List Int) : Prop where
  done : doneV b plan = (a, back, 0)
  home : doneV a back = (b, plan, 0)
  right : a.Right
  cost : costL (sackC a) back = costL (sackC b) plan
  ok : (lawV a back).2 = true
  at_ : lawV b plan = (p, true)
  sizes : a.sizes = b.sizes
  len : a.lots.length = b.lots.length
  plen : p.length = b.lots.length
  lot : ∀ i, i < b.lots.length → nth a.lots i = ⟨(nth b.lots i).sacks, nth p i, (nth b.lots i).aim⟩
  places : placesV a = placesV b
  one : 1 ≤ placesV b
  makes : makesB b plan = rightV b plan
  few : ∀ e l n e' l' n', Cheap b oneC e l n → Cheap a oneC e' l' n' → e = e' ∧ (e = 0 → n ≤ n' + plan.length ∧ n' ≤ n + plan.length)
end Go.Proofs.Ytpnndljmhpepgaa

namespace Go.Proofs.Ytpnndljmhpepgaa
open Go Go.T
def widerB (b : Barn) (n : Int) : Barn := ⟨b.sizes ++ [n], b.lots⟩
def looserB (b : Barn) (i : Nat) : Barn := ⟨b.sizes, b.lots.set i ⟨(nth b.lots i).sacks, (nth b.lots i).inn, -1⟩⟩
variable {b : Barn} {n : Int} {i : Nat}
theorem nth_left {l : List Int} (h : i < l.length) : nth (l ++ [n]) i = nth l i := by
  unfold nth; rw [List.getD_eq_getElem?_getD, List.getD_eq_getElem?_getD, List.getElem?_append_left h]
theorem wider_len (b : Barn) (n : Int) : (widerB b n).sizes.length = b.sizes.length + 1 := by
  show (b.sizes ++ [n]).length = _; rw [List.length_append]; rfl
theorem wider_right (hr : b.Right) (hl : b.sizes.length ≤ 6) (hn : 0 ≤ n ∧ n ≤ 300) : (widerB b n).Right := by
  have hb := hr.bins
  have e := wider_len b n
  refine ⟨by omega, hr.lots, fun x hx => ?_, hr.sacks, fun l hl' => ?_, fun l hl' => ?_, hr.apart, fun i hi => ?_⟩
  · rcases List.mem_append.1 (show x ∈ b.sizes ++ [n] from hx) with h | h
    · exact hr.size x h
    · rw [List.mem_singleton.1 h]; exact hn
  · have := hr.inn l hl'; omega
  · have := hr.aim l hl'; omega
  · have h1 := hr.holds i hi
    have h2 := hr.inn _ (nth_mem hi)
    have h3 := hr.aim _ (nth_mem hi)
    refine ⟨?_, fun hne => ?_⟩
    · show (nth b.lots i).sacks ≤ nth (b.sizes ++ [n]) (nth b.lots i).inn.toNat
      rw [nth_left (by omega)]; exact h1.1
    · show (nth b.lots i).sacks ≤ nth (b.sizes ++ [n]) (nth b.lots i).aim.toNat
      have hne' : (nth b.lots i).aim ≠ -1 := hne
      rw [nth_left (by omega)]; exact h1.2 hne
theorem wider_turns {p : Pl} {t : Tur} (h : t ∈ turnsL b p) : t ∈ turnsL (widerB b n) p := by
  rw [mem_turnsL] at h ⊢
  obtain ⟨h1, h2, h3, h4, h5, h6⟩ := h
  refine ⟨h1, h2, h3, by rw [wider_len]; omega, h5, ?_⟩
  unfold Barn.hold at h6 ⊢
  show decide (nth (b.sizes ++ [n]) t.aim.toNat ≥ _) = true
  rw [nth_left (by omega)]; exact h6
theorem wider_go : ∀ (l : List Tur) {p q : Pl}, goP b p l = some q → goP (widerB b n) p l = some q
  | [], _, _, h => h
  | t :: l, p, q, h => by
    obtain ⟨h1, h2⟩ := goP_cons h
    rw [goP_cons' (wider_turns h1)]; exact wider_go l h2
theorem wider_rightV (h6 : b.lots.length ≤ 6) {l : List Tur} (h : rightV b l = true) : rightV (widerB b n) l = true := by
  obtain ⟨q, h1, h2⟩ := (right_iff h6).1 h
  exact (right_iff (b := widerB b n) h6).2 ⟨q, wider_go l h1, h2⟩
theorem wider_places (hr : b.Right) (hr' : (widerB b n).Right) : placesV b ≤ placesV (widerB b n) := by
  obtain ⟨L, h1, h2, h3⟩ := reached hr
  obtain ⟨L', g1, g2, g3⟩ := reached hr'
  have := nodup_sub h1 (L := L') fun r hr0 => by
    obtain ⟨l, hl⟩ := (h2 r).1 hr0
    exact (g2 r).2 ⟨l, wider_go l hl⟩
  rw [h3, g3]; omega
theorem looser_len (b : Barn) (i : Nat) : (looserB b i).lots.length = b.lots.length := by
  show (b.lots.set _ _).length = _; rw [List.length_set]
theorem looser_nth {k : Nat} (hk : k < b.lots.length) : nth (looserB b i).lots k = if i = k then ⟨(nth b.lots k).sacks, (nth b.lots k).inn, -1⟩ else nth b.lots k := by
  have hk' : k < (b.lots.set i ⟨(nth b.lots i).sacks, (nth b.lots i).inn, -1⟩).length := by rw [List.length_set]; exact hk
  show nth (b.lots.set i _) k = _
  rw [nth_lt hk', List.getElem_set]
  by_cases e : i = k
  · subst e; rw [if_pos rfl, if_pos rfl]
  · rw [if_neg e, if_neg e, nth_lt hk]
theorem looser_sacks {k : Nat} (hk : k < b.lots.length) : (nth (looserB b i).lots k).sacks = (nth b.lots k).sacks ∧ (nth (looserB b i).lots k).inn = (nth b.lots k).inn ∧ ((nth (looserB b i).lots k).aim = (nth b.lots k).aim ∨ (nth (looserB b i).lots k).aim = -1) := by
  rw [looser_nth hk]
  by_cases e : i = k
  · rw [if_pos e]; exact ⟨rfl, rfl, .inr rfl⟩
  · rw [if_neg e]; exact ⟨rfl, rfl, .inl rfl⟩
theorem looser_mem {l : Lot} (h : l ∈ (looserB b i).lots) : ∃ k, k < b.lots.length ∧ l.sacks = (nth b.lots k).sacks ∧ l.inn = (nth b.lots k).inn ∧ (l.aim = (nth b.lots k).aim ∨ l.aim = -1) := by
  obtain ⟨k, hk, rfl⟩ := mem_nth h
  rw [looser_len] at hk
  exact ⟨k, hk, looser_sacks hk⟩
theorem looser_right (hr : b.Right) (i : Nat) : (looserB b i).Right := by
  have e := looser_len b i
  have hb := hr.bins
  refine ⟨hr.bins, by rw [e]; exact hr.lots, hr.size, fun l hl => ?_, fun l hl => ?_, fun l hl => ?_, fun x k hk hx => ?_, fun k hk => ?_⟩
  · obtain ⟨k, hk, h1, _, _⟩ := looser_mem hl
    rw [h1]; exact hr.sacks _ (nth_mem hk)
  · obtain ⟨k, hk, _, h1, _⟩ := looser_mem hl
    rw [h1]; exact hr.inn _ (nth_mem hk)
  · obtain ⟨k, hk, _, _, h1⟩ := looser_mem hl
    have h2 := hr.aim _ (nth_mem hk)
    show -1 ≤ l.aim ∧ l.aim < (b.sizes.length : Int)
    omega
  · rw [e] at hx
    obtain ⟨_, h2, h3⟩ := looser_sacks (i := i) (k := x) hx
    obtain ⟨_, g2, g3⟩ := looser_sacks (b := b) (i := i) (k := k) (by omega)
    have h4 := hr.apart x k hk hx
    rw [h2, g2]
    refine ⟨h4.1, fun e' => ?_⟩
    rcases h3 with h3 | h3
    · rcases g3 with g3 | g3
      · rw [h3]; exact h4.2 (by rw [← h3, ← g3]; exact e')
      · rw [e']; exact g3
    · exact h3
  · rw [e] at hk
    obtain ⟨h1, h2, h3⟩ := looser_sacks (i := i) (k := k) hk
    have h4 := hr.holds k hk
    rw [h1, h2]
    refine ⟨h4.1, fun hne => ?_⟩
    rcases h3 with h3 | h3
    · rw [h3] at hne ⊢; exact h4.2 hne
    · exact absurd h3 hne
theorem looser_turns {p : Pl} {t : Tur} : t ∈ turnsL (looserB b i) p ↔ t ∈ turnsL b p := by
  rw [mem_turnsL, mem_turnsL, looser_len]
  have h1 : takenP (looserB b i) p t.aim = takenP b p t.aim := by unfold takenP; rw [looser_len]
  rw [h1]
  have h2 : 0 ≤ t.lot → t.lot < b.lots.length → Barn.hold (looserB b i) t.aim t.lot = b.hold t.aim t.lot := fun h0 h => by
    unfold Barn.hold
    rw [(looser_sacks (i := i) (k := t.lot.toNat) (by omega)).1]; rfl
  constructor
  · rintro ⟨a1, a2, a3, a4, a5, a6⟩; exact ⟨a1, a2, a3, a4, a5, (h2 a1 a2).symm.trans a6⟩
  · rintro ⟨a1, a2, a3, a4, a5, a6⟩; exact ⟨a1, a2, a3, a4, a5, (h2 a1 a2).trans a6⟩
theorem looser_go : ∀ (l : List Tur) {p q : Pl}, goP b p l = some q → goP (looserB b i) p l = some q
  | [], _, _, h => h
  | t :: l, p, q, h => by
    obtain ⟨h1, h2⟩ := goP_cons h
    rw [goP_cons' (looser_turns.2 h1)]; exact looser_go l h2
theorem looser_first (b : Barn) (i : Nat) : firstP (looserB b i) = firstP b := by
  apply Subtype.ext
  show List.take 6 (((looserB b i).lots.map fun (l : Lot) => l.inn) ++ _) = List.take 6 ((b.lots.map fun (l : Lot) => l.inn) ++ _)
  congr 2
  apply List.ext_getElem
  · rw [List.length_map, List.length_map, looser_len]
  · intro k h1 h2
    rw [List.length_map] at h2
    rw [List.length_map] at h1
    rw [List.getElem_map, List.getElem_map, ← nth_lt h1, ← nth_lt h2]
    exact (looser_sacks h2).2.1
theorem looser_rightV (h6 : b.lots.length ≤ 6) {l : List Tur} (h : rightV b l = true) : rightV (looserB b i) l = true := by
  obtain ⟨q, h1, h2⟩ := (right_iff h6).1 h
  refine (right_iff (b := looserB b i) (by rw [looser_len]; exact h6)).2 ⟨q, by rw [looser_first]; exact looser_go l h1, ?_⟩
  unfold madeP
  rw [List.all_eq_true, looser_len]
  intro k hk
  have hk := List.mem_range.1 hk
  rcases (looser_sacks (i := i) hk).2.2 with e | e
  · rw [e]
    rcases made_at h2 hk with e | e
    · rw [decide_eq_true e]; rfl
    · rw [decide_eq_true e, Bool.or_true]
  · rw [decide_eq_true e]; rfl
theorem cheap_more {b' : Barn} {c : Tur → Int} {e e' n n' : Int} {l l' : List Tur} (h : ∀ l, rightV b l = true → rightV b' l = true) (hc : Cheap b c e l n) (hc' : Cheap b' c e' l' n') (h0 : e = 0) : e' = 0 ∧ n' ≤ n := by
  obtain ⟨h1, h2, _⟩ := hc.yes h0
  have h3 := h l h1
  rcases hc'.err with e0 | e7
  · exact ⟨e0, by rw [← h2]; exact (hc'.yes e0).2.2 l h3⟩
  · rw [(hc'.no e7).2.2 l] at h3; cases h3
theorem inn_nodup (hr : b.Right) : (innL b).Nodup := by
  rw [List.nodup_iff_pairwise_ne, List.pairwise_iff_getElem]
  intro i k hi hk hik e
  unfold innL at hi hk e
  rw [List.length_map] at hi hk
  rw [List.getElem_map, List.getElem_map, ← nth_lt hi, ← nth_lt hk] at e
  exact (hr.apart k i hik hk).1 e.symm
theorem free_inn {k : Int} : b.free k = true ↔ k ∉ innL b := by
  unfold Barn.free innL
  rw [List.all_eq_true, List.mem_map]
  constructor
  · rintro h ⟨l, hl, e⟩
    have := h l hl
    rw [decide_eq_true e] at this; cases this
  · intro h l hl
    rw [decide_eq_false fun e => h ⟨l, hl, e⟩]; rfl
theorem filtUp_true (n : Nat) : (filtUp (fun _ => true) n).length = n := by
  unfold filtUp; rw [List.length_map, List.filter_eq_self.2 (fun _ _ => rfl), List.length_range]
theorem free_count (hr : b.Right) : (freeL b).length + b.lots.length = b.sizes.length := by
  have hn : (freeL b ++ innL b).Nodup := by
    rw [List.nodup_append]
    refine ⟨filtUp_nodup _ _, inn_nodup hr, fun x hx y hy e => ?_⟩
    obtain ⟨k, _, h1, e'⟩ := filtUp_mem.1 hx
    have h1 : b.free (k : Int) = true := h1
    rw [← e', e] at h1
    exact free_inn.1 h1 hy
  have hl : (innL b).length = b.lots.length := by unfold innL; rw [List.length_map]
  have h1 := nodup_sub hn (L := filtUp (fun _ => true) b.sizes.length) fun x hx => by
    rcases List.mem_append.1 hx with h | h
    · obtain ⟨k, h1, _, h2⟩ := filtUp_mem.1 h
      exact filtUp_mem.2 ⟨k, h1, rfl, h2⟩
    · obtain ⟨l, hl', rfl⟩ := List.mem_map.1 h
      have := hr.inn l hl'
      exact filtUp_mem.2 ⟨l.inn.toNat, by omega, rfl, by omega⟩
  have h2 := nodup_sub (filtUp_nodup (fun _ => true) b.sizes.length) (L := freeL b ++ innL b) fun x hx => by
    obtain ⟨k, h1, _, h2⟩ := filtUp_mem.1 hx
    by_cases e : b.free (k : Int) = true
    · exact List.mem_append.2 (.inl (filtUp_mem.2 ⟨k, h1, e, h2⟩))
    · rw [free_inn] at e
      rw [h2]
      exact List.mem_append.2 (.inr (Classical.not_not.1 e))
  rw [filtUp_true, List.length_append] at h1 h2
  omega
theorem no_free (h6 : b.lots.length ≤ 6) (h : (freeL b).length = 0) {l : List Tur} {q : Pl} (hg : goP b (firstP b) l = some q) : l = [] ∧ q = firstP b := by
  cases l with
  | nil => injection hg with hg; exact ⟨rfl, hg.symm⟩
  | cons t l =>
    obtain ⟨h1, _⟩ := goP_cons hg
    obtain ⟨_, _, h3, h4, h5, _⟩ := mem_turnsL.1 h1
    have hf : b.free t.aim = true := by
      rw [free_inn]
      rw [takenP_not, first_inn h6] at h5; exact h5
    have : t.aim ∈ freeL b := filtUp_mem.2 ⟨t.aim.toNat, by omega, by rw [show ((t.aim.toNat : Nat) : Int) = t.aim by omega]; exact hf, by omega⟩
    rw [List.length_eq_zero_iff.1 h] at this; cases this
theorem no_places (hr : b.Right) (h : (freeL b).length = 0) : placesV b = 1 := by
  refine places_of hr (L := [firstP b]) (by simp) fun r => ?_
  rw [List.mem_singleton]
  constructor
  · rintro rfl; exact ⟨[], rfl⟩
  · rintro ⟨l, hl⟩; exact (no_free hr.lots h hl).2
theorem no_cost (hr : b.Right) (h : (freeL b).length = 0) {c : Tur → Int} {e n : Int} {l : List Tur} (hc : Cheap b c e l n) (h0 : e = 0) : n = 0 := by
  obtain ⟨h1, h2, _⟩ := hc.yes h0
  obtain ⟨q, g1, _⟩ := (right_iff hr.lots).1 h1
  rw [(no_free hr.lots h g1).1] at h2
  rw [← h2]; rfl
theorem no_lots (h : b.lots.length = 0) {e n : Int} {l : List Tur} (hc : Cheap b oneC e l n) : e = 0 ∧ n = 0 := by
  have h1 : rightV b [] = true := by
    refine (right_iff (by omega)).2 ⟨firstP b, rfl, ?_⟩
    unfold madeP; rw [h]; rfl
  rcases hc.err with e0 | e7
  · obtain ⟨h2, h3, h4⟩ := hc.yes e0
    have h5 := h4 [] h1
    rw [cost_one] at h3 h5
    exact ⟨e0, by rw [List.length_nil] at h5; omega⟩
  · rw [(hc.no e7).2.2 []] at h1; cases h1
structure Roomy (b : Barn) (n : Int) : Prop where
  free : ((freeL b).length : Int) = b.sizes.length - b.lots.length
  places : (freeL b).length = 0 → placesV b = 1
  cost : (freeL b).length = 0 → planE b oneC = 0 → costR b oneC = 0
  right : (widerB b n).Right
  more : placesV b ≤ placesV (widerB b n)
  few : planE b oneC = 0 → planE (widerB b n) oneC = 0 ∧ costR (widerB b n) oneC ≤ costR b oneC
  none : b.lots.length = 0 → planE b oneC = 0 ∧ costR b oneC = 0
  loose : ∀ i, planE b oneC = 0 → planE (looserB b i) oneC = 0 ∧ costR (looserB b i) oneC ≤ costR b oneC
theorem roomy (hr : b.Right) (hl : b.sizes.length ≤ 6) (hn : 0 ≤ n ∧ n ≤ 300) : Roomy b n := by
  have hw := wider_right hr hl hn
  have h1 := cheap hr (one_ok b)
  have h2 := cheap hw (one_ok _)
  have hf := free_count hr
  exact ⟨by omega, no_places hr, fun h => no_cost hr h h1, hw, wider_places hr hw, cheap_more (fun _ => wider_rightV hr.lots) h1 h2, fun h => no_lots h h1, fun i => cheap_more (fun _ => looser_rightV hr.lots) h1 (cheap (looser_right hr i) (one_ok _))⟩
end Go.Proofs.Ytpnndljmhpepgaa
