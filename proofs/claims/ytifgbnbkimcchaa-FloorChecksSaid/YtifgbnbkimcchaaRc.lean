/- Lemmas: the program and the reference walked, plain laws. -/
import Derived.Test.YtifgbnbkimcchaaRb
namespace Go.T
open Go Go.RowKit
def Zt : Nat := 1000000
def ZOk (M : Tags) : Prop := ∀ b u, M b = some u → Zt ≤ u → u = Zt + b
def Cb (J : World → Tags → Prop) : Prop := ∀ w M w' M', Wf w' M' → Le (fun t => Zt ≤ t) (fun t => Zt ≤ t) w M w' M' → J w M → J w' M'
def Yld (P : Program) (l : Nat) (encs : List (List Ty)) (J : Nat → World → Tags → Prop) (Jx : World → Tags → Prop) : Prop :=
  ∀ (k : Nat) (tys : List Ty), encs[k]? = some tys → ∀ w M vs, Wf w M → ZOk M → J k w M → dens w M tys vs →
    YieldAt Fence.wide 0 P l vs.toArray w fun e w' => ∃ M', Wf w' M' ∧ ZOk M' ∧ Le (fun t => t < Zt) (fun t => t < Zt) w M w' M' ∧ ((e = .returned (.bool true) ∧ J (k + 1) w' M') ∨ (e = .returned (.bool false) ∧ Jx w' M'))
def CtrI (P : Program) (f : FuncId) (args : Nat → List Ty) (encs : List (List Ty)) (resD resS : Ty) : Prop :=
  (∃ fn, P.funcs[f]? = some fn ∧ (fn.name == "runtime.NumGoroutine") = false ∧ fn.body.isNone = false) ∧
  ∀ l J Jx, (∀ k, Cb (J k)) → Cb Jx → Yld P l encs J Jx → ∀ w M vs, Wf w M → ZOk M → dens w M (args l) vs → J 0 w M →
    Calls P f vs.toArray w fun e w' => ∃ r M', e = .returned r ∧ Wf w' M' ∧ ZOk M' ∧ ((resD.den w' M' r ∧ J encs.length w' M') ∨ (resS.den w' M' r ∧ Jx w' M'))
def dCJ (J : World → Tags → Prop) (w : World) (M : Tags) (_ : Nat) : Prop :=
  ∃ Mc, Wf w Mc ∧ ZOk Mc ∧ J w Mc ∧ (∀ b, M b = none → Mc b = none) ∧ ∀ b t, b < w.heap.size → M b = some (t + 1) → Mc b = some (Zt + b)
def CJ {J : World → Tags → Prop} (hJ : Cb J) : Cont :=
  { den := dCJ J, deps := [0], cdeps := [0]
    mono := fun {S K w w' M M' t} le hk hs _ _ ⟨Mc, wf, z, hj, h1, h2⟩ => by
      have hk0 : ¬ K 0 := hk 0 (by simp)
      have hs0 : ¬ S 0 := hs 0 (by simp)
      have zero : ∀ b, M b = some 0 → M' b = some 0 ∧ w'.heap[b]? = w.heap[b]? := fun b h => let ⟨a, c⟩ := le.own b 0 h hk0; ⟨a, c hs0⟩
      have mb : ∀ b t, Mc b = some t → t < Zt → M b = some 0 := fun b t h ht => by
        cases hm : M b with
        | none => rw [h1 b hm] at h; cases h
        | some u =>
          cases u with
          | zero => rfl
          | succ u =>
            have := h2 b u (wf.lt b t h) hm
            rw [this] at h; injection h with h; omega
      have lez : Le (fun t => Zt ≤ t) (fun t => Zt ≤ t) w Mc w' (fun b => if b < w'.heap.size then (match M' b with | none => none | some (_ + 1) => some (Zt + b) | some 0 => if b < w.heap.size ∧ M b = some 0 then Mc b else some (Zt + b)) else none) := by
        refine ⟨le.size, le.os, le.tape, le.out, fun b hb hm => ?_, fun b t hm ht => ?_⟩
        · cases hmb : M b with
          | none =>
            obtain ⟨a, c⟩ := le.pub b hb hmb
            refine ⟨?_, c⟩
            simp only [a]; split <;> rfl
          | some u =>
            cases u with
            | zero =>
              obtain ⟨a, c⟩ := zero b hmb
              refine ⟨?_, c⟩
              simp only [a, hmb, hb, and_self, if_true, hm]; split <;> rfl
            | succ u => rw [h2 b u hb hmb] at hm; cases hm
        · have hlt := wf.lt b t hm
          have h0 := mb b t hm (Nat.lt_of_not_le ht)
          obtain ⟨a, c⟩ := zero b h0
          refine ⟨?_, fun _ => c⟩
          have : b < w'.heap.size := Nat.lt_of_lt_of_le hlt le.size
          simp only [this, if_true, a, h0, hlt, and_self]; exact hm
      have zok : ZOk (fun b => if b < w'.heap.size then (match M' b with | none => none | some (_ + 1) => some (Zt + b) | some 0 => if b < w.heap.size ∧ M b = some 0 then Mc b else some (Zt + b)) else none) := by
        intro b u h hu
        simp only at h
        split at h
        · split at h
          · cases h
          · injection h with h; exact h.symm
          · split at h
            · exact z b u h hu
            · injection h with h; exact h.symm
        · cases h
      have wf' : Wf w' (fun b => if b < w'.heap.size then (match M' b with | none => none | some (_ + 1) => some (Zt + b) | some 0 => if b < w.heap.size ∧ M b = some 0 then Mc b else some (Zt + b)) else none) := by
        refine ⟨fun b t h => ?_, fun b b' t ht1 h h' => ?_⟩
        · split at h
          · assumption
          · cases h
        · by_cases hz : Zt ≤ t + 1
          · have e1 := zok b _ h hz
            have e2 := zok b' _ h' hz
            omega
          · have part : ∀ b, (if b < w'.heap.size then (match M' b with | none => none | some (_ + 1) => some (Zt + b) | some 0 => if b < w.heap.size ∧ M b = some 0 then Mc b else some (Zt + b)) else none) = some (t + 1) → Mc b = some (t + 1) := fun b h => by
              split at h
              · split at h
                · cases h
                · injection h with h; omega
                · split at h
                  · exact h
                  · injection h with h; omega
              · cases h
            exact wf.inj b b' t ht1 (part b h) (part b' h')
      refine ⟨_, wf', zok, hJ _ _ _ _ wf' lez hj, fun b h => ?_, fun b t hb h => ?_⟩
      · simp only [h]; split <;> rfl
      · simp only [h, hb, if_true] }
section
variable {P : Program} {fr : Fr} {ops : Array Oper} {A : As} {rest : List Oper} {K : As → List (As × Fx) → Prop} {d : Nat} {t : TypeId} {p : String} {e : Array Edge} {Q : Exit → Act → World → Prop}
def OpY (P : Program) (fr : Fr) (ops : Array Oper) (o : Oper) (A : As) (f g : Fx) : Prop :=
  (f.d = o.dst ∧ f.K = []) ∧ (g.d = o.dst ∧ g.K = []) ∧
  ∀ a w M, Wf w M → a.tmps.size = fr.n → (∀ c, c < fr.n → (A.slots c).den w M (a.tmps.getD c undef)) → (∀ x ∈ A.tags, x.2.den w M x.1) →
    Region.wanted o (yielded ops a.tmps) = true ∧ o.wpIn fr.kd.fence 0 P a w (fun a' w' => ∃ v, a' = a.put o.dst v ∧ (f.left w M w' v ∨ g.left w M w' v)) (fun _ _ _ => False)
theorem holds_afterI {f : Fx} {a : Act} {w w' : World} {M : Tags} {v : Value} (hkd : fr.kd = .iter) (hK : f.K = [])
    (ok : Ok fr a w M) (hs : ∀ c, c < fr.n → (A.slots c).den w M (a.tmps.getD c undef)) (ht : ∀ x ∈ A.tags, x.2.den w M x.1) (hl : f.left w M w' v) : (A.after f).holds fr (a.put f.d v) w' := by
  obtain ⟨M', wf', le, hv, hsets⟩ := hl
  have hnd := ok.nodefers (by rw [hkd]; simp)
  have hb : fr.base w' M' := (ok.base.trans le).weaken (fun t _ => by rw [hkd]; trivial) (fun t ht => ht.elim id (fun h => by rw [hK] at h; cases h))
  refine ⟨M', ⟨wf', hb, by rw [size_put, ok.size], by rw [defers_put, hnd]; exact Defs.nil⟩, fun c hc => ?_, fun x hx => ?_⟩
  · rw [getD_put a f.d v c (by rw [ok.size]; exact hc)]
    have key : (killSlots f.S f.K A.slots c).den w' M' (a.tmps.getD c undef) := by
      rcases killSlots_spec f.S f.K A.slots c with ⟨e, hdj⟩ | ⟨_, e⟩
      · rw [e]
        exact (A.slots c).mono le (safe_spec hdj).1 (safe_spec hdj).2 (hs c hc)
      · rw [e]; trivial
    simp only [As.after, setSlot]
    cases hfd : f.d with
    | none => simpa using key
    | some d =>
      by_cases e : d = c
      · subst e; simpa using hv
      · have e' : Nat.beq c d = false := by cases h : Nat.beq c d with | false => rfl | true => exact absurd (Nat.eq_of_beq_eq_true h).symm e
        simpa [e, e'] using key
  · rcases List.mem_append.1 hx with hx | hx
    · exact hsets x hx
    · exact killTags_den le hx fun y hy _ => ht y hy
theorem tops_app {rest : List Oper} : ∀ (l : List Oper) (A : As) (K : As → List (As × Fx) → Prop) (a : Act) (w : World), TOps P fr ops l A K → A.holds fr a w →
    (∀ A' s a w, K A' s → A'.holds fr a w → wpListIn fr.kd.fence 0 P ops Q rest a w) → wpListIn fr.kd.fence 0 P ops Q (l ++ rest) a w
  | [], A, K, a, w, h, ha, hk => hk A [] a w h ha
  | o :: l, A, K, a, w, ⟨f, ⟨hd, hsets, hS, hK, hop⟩, hrest⟩, ⟨M, ok, hs, ht⟩, hk => by
    have h := hop a w M ok.wf ok.size (fun c _ hc => hs c hc) (fun x hx _ => ht x hx)
    rw [List.cons_append]
    unfold wpListIn
    split
    · rename_i hw
      rw [if_pos hw] at h
      refine Oper.wp_weaken (fun a' w' ⟨v, e, hl⟩ => ?_) h
      subst e
      rw [← hd]
      exact tops_app l _ _ _ _ hrest (holds_after hS hK ok hs ht hl) fun A' s a w hk' hA => hk A' _ a w hk' hA
    · rename_i hw
      rw [if_neg hw] at h
      refine ⟨fun f _ => fr.kd.fn_true f, ?_⟩
      rw [← hd]
      exact tops_app l _ _ _ _ hrest (holds_after hS hK ok hs ht h) fun A' s a w hk' hA => hk A' _ a w hk' hA
theorem t_regionY {id : Nat} {l1 l2 : List Oper} {o : Oper} (hkd : fr.kd = .iter)
    (h : TOps P fr (l1 ++ o :: l2).toArray l1 A fun A1 _ => ∃ f g, OpY P fr (l1 ++ o :: l2).toArray o A1 f g ∧ TOps P fr (l1 ++ o :: l2).toArray l2 (A1.after f) (fun A' _ => Into fr A' (Q .normal)) ∧ TOps P fr (l1 ++ o :: l2).toArray l2 (A1.after g) (fun A' _ => Into fr A' (Q .normal))) :
    Tri P fr (.region id (l1 ++ o :: l2).toArray false) A Q := by
  intro a w ha
  refine wpIn_region_lit (tops_app l1 A _ a w h ha fun A1 s a w ⟨f, g, ⟨⟨hf1, hf2⟩, ⟨hg1, hg2⟩, hop⟩, h1, h2⟩ ⟨M, ok, hs, ht⟩ => ?_)
  obtain ⟨hw, hwp⟩ := hop a w M ok.wf ok.size hs ht
  unfold wpListIn
  rw [if_pos hw]
  refine Oper.wp_weaken (fun a' w' ⟨v, e, hl⟩ => ?_) hwp
  subst e
  rcases hl with hl | hl
  · rw [← hf1]; exact tops_list l2 _ _ _ _ h1 (holds_afterI hkd hf2 ok hs ht hl) fun _ _ _ _ hk hA => hk _ _ hA
  · rw [← hg1]; exact tops_list l2 _ _ _ _ h2 (holds_afterI hkd hg2 ok hs ht hl) fun _ _ _ _ hk hA => hk _ _ hA
theorem opT_on {op : Op} {dst : Option Nat} {j s : Nat} {want : Bool} {f : Fx} (hs : dstOf ops j = some s) (hn : Nat.blt s fr.n = true) (hc : A.slots s = .bool want) (h1 : OpT P fr ops ⟨dst, op, t, p, e, none⟩ A f) :
    OpT P fr ops ⟨dst, op, t, p, e, some (j, want)⟩ A { f with rs := s :: f.rs } := by
  obtain ⟨hd, hsets, hS, hK, hop⟩ := h1
  refine ⟨hd, hsets, hS, hK, fun a w M wf hsz hrd htg => ?_⟩
  have hv := hrd s List.mem_cons_self (by simpa using hn)
  rw [hc] at hv
  have hy := yielded_bool (ops := ops) hs (by rw [hsz]; simpa using hn) hv
  have hw : Region.wanted ⟨dst, op, t, p, e, some (j, want)⟩ (yielded ops a.tmps) = true := by simp [Region.wanted, hy]
  have h := hop a w M wf hsz (fun c hc => hrd c (List.mem_cons_of_mem _ hc)) htg
  rw [if_pos (by simp [Region.wanted])] at h
  rw [if_pos hw]
  exact h
theorem r_on {op : Op} {dst : Option Nat} {j s : Nat} {want : Bool} {f : Fx} (hs : dstOf ops j = some s) (hn : Nat.blt s fr.n = true) (hc : A.slots s = .bool want) (h1 : OpT P fr ops ⟨dst, op, t, p, e, none⟩ A f)
    (h : TOps P fr ops rest (A.after f) fun A' l' => K A' ((A, { f with rs := s :: f.rs }) :: l')) : TOps P fr ops (⟨dst, op, t, p, e, some (j, want)⟩ :: rest) A K := ⟨_, opT_on hs hn hc h1, h⟩
theorem r_off {op : Op} {j s : Nat} {want c : Bool} (hs : dstOf ops j = some s) (hn : Nat.blt s fr.n = true) (hc : A.slots s = .bool c) (hne : (c == want) = false)
    (h : TOps P fr ops rest (A.set d (.ex undef)) fun A' l' => K A' ((A, { d := some d, ty := .ex undef, rs := [s] }) :: l')) : TOps P fr ops (⟨some d, op, t, p, e, some (j, want)⟩ :: rest) A K := by
  refine ⟨{ d := some d, ty := .ex undef, rs := [s] }, ⟨rfl, (by simp), (by simp), (by simp), fun a w M wf hsz hrd htg => ?_⟩, h⟩
  have hv := hrd s List.mem_cons_self (by simpa using hn)
  rw [hc] at hv
  have hy := yielded_bool (ops := ops) hs (by rw [hsz]; simpa using hn) hv
  have hw : Region.wanted ⟨some d, op, t, p, e, some (j, want)⟩ (yielded ops a.tmps) = false := by
    simp only [Region.wanted, hy]
    cases c <;> cases want <;> simp_all
  rw [if_neg (by rw [hw]; simp)]
  exact ⟨M, wf, Le.refl _ _ _ _, rfl, by simp⟩
def yv (l : Nat) : Value := .func (.yield l) #[] #[]
theorem opY_on {op : Op} {dst : Option Nat} {j s : Nat} {want : Bool} {f g : Fx} (hs : dstOf ops j = some s) (hn : Nat.blt s fr.n = true) (hc : A.slots s = .bool want) (h1 : OpY P fr ops ⟨dst, op, t, p, e, none⟩ A f g) :
    OpY P fr ops ⟨dst, op, t, p, e, some (j, want)⟩ A f g := by
  obtain ⟨hf, hg, hop⟩ := h1
  refine ⟨hf, hg, fun a w M wf hsz hrd htg => ?_⟩
  have hv := hrd s (by simpa using hn)
  rw [hc] at hv
  have hy := yielded_bool (ops := ops) hs (by rw [hsz]; simpa using hn) hv
  exact ⟨by simp [Region.wanted, hy], (hop a w M wf hsz hrd htg).2⟩
theorem opY_yield {c l k : Nat} {encs : List (List Ty)} {J : Nat → World → Tags → Prop} {Jx : World → Tags → Prop} (hJ : ∀ k, Cb (J k)) (hJx : Cb Jx) (hY : Yld P l encs J Jx) {xs : List Operand} {ats : Array TypeId} {tys : List Ty} {dst : Option Nat}
    (hkd : fr.kd = .iter) (hc : A.op fr (.tmp c) = .ex (yv l)) (hx : opsTy A fr xs = tys) (hd : depsOf tys = []) (hdc : cdepsOf tys = []) (hk : encs[k]? = some tys) (ht : A.tag 0 = some (CJ (hJ k))) :
    OpY P fr ops ⟨dst, .call ⟨.value (.tmp c), xs.toArray, ats⟩, t, p, e, none⟩ A { d := dst, ty := .bool true, S := [0], sets := [(0, CJ (hJ (k + 1)))] } { d := dst, ty := .bool false, S := [0], sets := [(0, CJ hJx)] } := by
  refine ⟨⟨rfl, rfl⟩, ⟨rfl, rfl⟩, fun a w M wf hsz hrd htg => ⟨by simp [Region.wanted], ?_⟩⟩
  have hcv := op_den (x := .tmp c) (rs := c :: xs.flatMap opR) (fun u hu => by exact (List.mem_singleton.1 hu) ▸ List.mem_cons_self) (fun c _ hn => hrd c hn)
  rw [hc] at hcv
  have hcv : a.eval (.tmp c) = yv l := hcv
  obtain ⟨Mc, wfc, z, hj, h1, h2⟩ := htg _ (tag_mem ht)
  have hv : dens w Mc tys (xs.map a.eval) := conv_nodeps h1 hd hdc (hx ▸ opsTy_dens (rs := c :: xs.flatMap opR) (fun c _ hn => hrd c hn) fun x hx c hc => List.mem_cons_of_mem _ (List.mem_flatMap.2 ⟨x, hx, hc⟩))
  obtain ⟨fn, tmps, assign, body, hy, hR⟩ := hY k tys hk w Mc _ wfc z hj hv
  refine ⟨fun f _ => fr.kd.fn_true f, ?_⟩
  have hrun : (execOp a.eval ⟨dst, .call ⟨.value (.tmp c), xs.toArray, ats⟩, t, p, e, none⟩).run P w = .ok (.round l fn tmps assign body) w := by
    simp [execOp, resolve, hcv, yv, Deferred.ofValue, invoke, hy]
  rw [Oper.semAt_eq _ _ _ (by intro c h; cases h), hrun, Oper.uponIn_round]
  refine ⟨fun h => (by rw [fr.kd.depth_none] at h; cases h), ?_⟩
  have hfe : fr.kd.fence = Fence.wide := by rw [hkd]; rfl
  rw [hfe]
  refine RoundIn.mono hR fun en w' ⟨Mc', wf', z', le, hor⟩ => ?_
  have Mle : Le (· ∈ [0]) (· ∈ ([] : List Nat)) w M w' (fun b => if b < w.heap.size then M b else (Mc' b).map fun _ => 0) := by
    refine ⟨le.size, le.os, le.tape, le.out, fun b hb hm => ⟨by simp [hb, hm], (le.pub b hb (h1 b hm)).2⟩, fun b u hm _ => ⟨by simp [wf.lt b u hm, hm], fun hs => ?_⟩⟩
    cases u with
    | zero => exact absurd (by simp) hs
    | succ u => exact (le.own b _ (h2 b u (wf.lt b _ hm) hm) (by omega)).2 (by omega)
  have Mwf : Wf w' (fun b => if b < w.heap.size then M b else (Mc' b).map fun _ => 0) := by
    refine ⟨fun b u h => ?_, fun b b' u ht1 h h' => ?_⟩
    · split at h
      · exact Nat.lt_of_lt_of_le ‹_› le.size
      · obtain ⟨v, hv, _⟩ := Option.map_eq_some_iff.1 h
        exact wf'.lt b v hv
    · have part : ∀ b, (if b < w.heap.size then M b else (Mc' b).map fun _ => 0) = some (u + 1) → M b = some (u + 1) := fun b h => by
        split at h
        · exact h
        · obtain ⟨v, _, hv⟩ := Option.map_eq_some_iff.1 h
          cases hv
      exact wf.inj b b' u ht1 (part b h) (part b' h')
  have hc1 : ∀ b, (if b < w.heap.size then M b else (Mc' b).map fun _ => 0) = none → Mc' b = none := fun b h => by
    split at h
    · exact (le.pub b ‹_› (h1 b h)).1
    · simpa using h
  have hc2 : ∀ b u, b < w'.heap.size → (if b < w.heap.size then M b else (Mc' b).map fun _ => 0) = some (u + 1) → Mc' b = some (Zt + b) := fun b u _ h => by
    split at h
    · exact (le.own b _ (h2 b u ‹_› h) (by omega)).1
    · obtain ⟨v, _, hv⟩ := Option.map_eq_some_iff.1 h
      cases hv
  rcases hor with ⟨rfl, hj'⟩ | ⟨rfl, hj'⟩
  · exact ⟨.bool true, rfl, .inl ⟨_, Mwf, Mle, rfl, fun x hx => by rw [List.mem_singleton.1 hx]; exact ⟨Mc', wf', z', hj', hc1, hc2⟩⟩⟩
  · exact ⟨.bool false, rfl, .inr ⟨_, Mwf, Mle, rfl, fun x hx => by rw [List.mem_singleton.1 hx]; exact ⟨Mc', wf', z', hj', hc1, hc2⟩⟩⟩
end
def iterPost (n : Nat) (J : Nat → World → Tags → Prop) (Jx : World → Tags → Prop) (resD resS : Ty) (e : Ending) (w' : World) : Prop :=
  ∃ r M', e = .returned r ∧ Wf w' M' ∧ ZOk M' ∧ ((resD.den w' M' r ∧ J n w' M') ∨ (resS.den w' M' r ∧ Jx w' M'))
section
variable {P : Program} {A : As}
theorem fnI_intro {f : FuncId} {fn : Func} {c : Code} {args : Nat → List Ty} {encs : List (List Ty)} {resD resS : Ty} {n : Nat} (hf : P.funcs[f]? = some fn) (hb : fn.body = some c) (hn : (fn.name == "runtime.NumGoroutine") = false) (hnt : fn.ntmps = n) (hl : ∀ l, (args l).length ≤ n) (hdd : ∀ l, depsOf (args l) = [] ∧ cdepsOf (args l) = [])
    (h : ∀ l J Jx (hJ : ∀ k, Cb (J k)) (hJx : Cb Jx), Yld P l encs J Jx → ∀ w0 M0, Tri P ⟨n, w0, M0, [], .iter⟩ c (entryG (args l) [(0, CJ (hJ 0))]) (bodyPost P fn (iterPost encs.length J Jx resD resS))) : CtrI P f args encs resD resS := by
  refine ⟨⟨fn, hf, hn, by rw [hb]; rfl⟩, fun l J Jx hJ hJx hY w M vs wf z hd hj => calls_of_wp hf hb (wpIn_wide.1 (h l J Jx hJ hJx hY w (fgn M) _ _ ?_))⟩
  have hlen := dens_len hd
  have hl := hl l
  refine ⟨fgn M, ⟨fgn_wf wf, Le.refl _ _ _ _, by simp [hnt, hlen]; omega, Defs.nil⟩, fun c hc => ?_, fun x hx => ?_⟩
  · simp only [entryG]
    cases ha : (args l)[c]? with
    | none => trivial
    | some ty =>
      obtain ⟨v, hv, hdv⟩ := dens_get (dens_foreign (hdd l).1 (hdd l).2 hd) c ty ha
      have : (vs.toArray ++ Array.replicate (fn.ntmps - vs.toArray.size) undef).getD c undef = v := by
        have hlt : c < vs.length := (List.getElem?_eq_some_iff.1 hv).1
        rw [Array.getD_eq_getD_getElem?, Array.getElem?_append_left (by simpa using hlt)]
        simp [hv]
      rw [this]; exact hdv
  · rw [List.mem_singleton.1 hx]
    refine ⟨M, wf, z, hj, fun b h => ?_, fun b t _ h => ?_⟩
    · unfold fgn at h; simpa using h
    · have := fgn_zero b _ h; omega
variable {fn : Func} {n m : Nat} {w0 : World} {M0 : Tags} {J : Nat → World → Tags → Prop} {Jx : World → Tags → Prop} {resD resS : Ty}
theorem y_ret0 {hJ : Cb (J m)} (hr : fn.results = #[]) (ht : A.tag 0 = some (CJ hJ)) : Into ⟨n, w0, M0, [], .iter⟩ A (bodyPost P fn (iterPost m J Jx (Ty.tup []) resS) .ret) := by
  intro a w ⟨M, ok, hsl, htg⟩
  obtain ⟨Mc, wfc, z, hj, h1, h2⟩ := htg _ (tag_mem ht)
  exact ⟨ok.nodefers (by simp), _, results_none hr _ _ _, _, Mc, rfl, wfc, z, .inl ⟨⟨_, rfl, trivial⟩, hj⟩⟩
theorem y_ret0x {hJx : Cb Jx} (hr : fn.results = #[]) (ht : A.tag 0 = some (CJ hJx)) : Into ⟨n, w0, M0, [], .iter⟩ A (bodyPost P fn (iterPost m J Jx resD (Ty.tup [])) .ret) := by
  intro a w ⟨M, ok, hsl, htg⟩
  obtain ⟨Mc, wfc, z, hj, h1, h2⟩ := htg _ (tag_mem ht)
  exact ⟨ok.nodefers (by simp), _, results_none hr _ _ _, _, Mc, rfl, wfc, z, .inr ⟨⟨_, rfl, trivial⟩, hj⟩⟩
end
end Go.T

namespace Go.T
open Go Go.RowKit
theorem Zt_pos : 1 ≤ Zt := by decide
def foldZ (M : Tags) : Tags := fun b => match M b with | none => none | some t => if Zt ≤ t then some 0 else some t
theorem foldZ_none {M : Tags} {b : Nat} (h : M b = none) : foldZ M b = none := by simp [foldZ, h]
theorem foldZ_lt {M : Tags} {b t : Nat} (h : M b = some t) (ht : t < Zt) : foldZ M b = some t := by
  have : ¬ Zt ≤ t := by omega
  simp [foldZ, h, this]
theorem foldZ_ge {M : Tags} {b t : Nat} (h : M b = some t) (ht : Zt ≤ t) : foldZ M b = some 0 := by simp [foldZ, h, ht]
theorem foldZ_some {M : Tags} {b t : Nat} (h : foldZ M b = some (t + 1)) : M b = some (t + 1) ∧ t + 1 < Zt := by
  unfold foldZ at h
  split at h
  · cases h
  · rename_i u hu
    split at h
    · cases h
    · injection h with h; subst h; exact ⟨hu, by omega⟩
theorem foldZ_wf {w : World} {M : Tags} (wf : Wf w M) : Wf w (foldZ M) :=
  ⟨fun b t h => by
    cases hm : M b with
    | none => rw [foldZ_none hm] at h; cases h
    | some u => exact wf.lt b u hm, fun b b' t ht1 h h' => wf.inj b b' t ht1 (foldZ_some h).1 (foldZ_some h').1⟩
theorem foldZ_u {M : Tags} {b u : Nat} (h : foldZ M b = some u) : u < Zt := by
  unfold foldZ at h
  split at h
  · cases h
  · split at h
    · injection h with h; subst h; decide
    · injection h with h; omega
def pinOk (n : Nat) (pass : List Nat) (s : Nat → Ty) : Bool := (List.range n).all fun c => (s c).cdeps.isEmpty && (s c).deps.all fun t => pass.contains t
def passOk (l l' : List Nat) : Bool := l.all (fun t => l'.contains t) && l'.all fun t => Nat.ble 1 t && Nat.blt t 1000000
def inZ (l : List Nat) : Bool := l.all fun t => Nat.ble 1 t && Nat.blt t 1000000
def tagsOk (l : List (Nat × Cont)) : Bool := l.all fun x => Nat.ble 1 x.1 && (Nat.blt x.1 1000000 && (inZ x.2.deps && inZ x.2.cdeps))
theorem inZ_spec {l : List Nat} (h : inZ l = true) : ∀ t ∈ l, 1 ≤ t ∧ t < Zt := by
  intro t ht
  simp only [inZ, List.all_eq_true, Bool.and_eq_true, Nat.ble_eq, Nat.blt_eq] at h
  exact h t ht
theorem tagsOk_spec {l : List (Nat × Cont)} (h : tagsOk l = true) : ∀ x ∈ l, (1 ≤ x.1 ∧ x.1 < Zt) ∧ (∀ t ∈ x.2.deps, 1 ≤ t ∧ t < Zt) ∧ ∀ t ∈ x.2.cdeps, 1 ≤ t ∧ t < Zt := by
  intro x hx
  simp only [tagsOk, List.all_eq_true, Bool.and_eq_true, Nat.ble_eq, Nat.blt_eq] at h
  obtain ⟨h1, h2, h3, h4⟩ := h x hx
  exact ⟨⟨h1, h2⟩, inZ_spec h3, inZ_spec h4⟩
theorem pinOk_spec {n : Nat} {pass : List Nat} {s : Nat → Ty} (h : pinOk n pass s = true) : ∀ c, c < n → (s c).cdeps = [] ∧ ∀ t ∈ (s c).deps, t ∈ pass := by
  intro c hc
  simp only [pinOk, List.all_eq_true, Bool.and_eq_true, List.mem_range, List.isEmpty_iff, List.contains_iff_mem] at h
  exact h c hc
theorem passOk_spec {l l' : List Nat} (h : passOk l l' = true) : (∀ t ∈ l, t ∈ l') ∧ ∀ t ∈ l', 1 ≤ t ∧ t < Zt := by
  simp only [passOk, Bool.and_eq_true, List.all_eq_true, List.contains_iff_mem, Nat.ble_eq, Nat.blt_eq] at h
  exact ⟨h.1, h.2⟩
theorem fold_den {w : World} {M : Tags} {n : Nat} : ∀ (l : List (Nat × Ty)) (vs : List Value) (tm : Array Value) (s : Nat → Ty), (l.map Prod.fst).Nodup → tm.size = n → (∀ c, c < n → (s c).den w M (tm.getD c undef)) → dens w M (l.map Prod.snd) vs →
    (((l.map Prod.fst).zip vs).foldl (fun t (p, v) => t.setIfInBounds p v) tm).size = n ∧ ∀ c, c < n → (setL l s c).den w M ((((l.map Prod.fst).zip vs).foldl (fun t (p, v) => t.setIfInBounds p v) tm).getD c undef)
  | [], [], tm, s, _, hsz, hs, _ => ⟨hsz, hs⟩
  | (d, ty) :: l, v :: vs, tm, s, hnd, hsz, hs, ⟨hv, hvs⟩ => by
    simp only [List.map_cons, List.nodup_cons] at hnd
    have hs' : ∀ c, c < n → ((fun i => bif Nat.beq i d then ty else s i) c).den w M ((tm.setIfInBounds d v).getD c undef) := fun c hc => by
      simp only [Array.getD_eq_getD_getElem?, Array.getElem?_setIfInBounds]
      by_cases e : d = c
      · subst e; simpa [hsz, hc] using hv
      · have e' : Nat.beq c d = false := by cases h : Nat.beq c d with | false => rfl | true => exact absurd (Nat.eq_of_beq_eq_true h).symm e
        simpa [e, e', Array.getD_eq_getD_getElem?] using hs c hc
    obtain ⟨h1, h2⟩ := fold_den l vs (tm.setIfInBounds d v) (fun i => bif Nat.beq i d then ty else s i) hnd.2 (by simpa using hsz) hs' hvs
    have hset : ∀ c, setL ((d, ty) :: l) s c = setL l (fun i => bif Nat.beq i d then ty else s i) c := by
      intro c
      have hl : ∀ (l : List (Nat × Ty)) (s s' : Nat → Ty), (∀ i, i = c → i ∉ l.map Prod.fst → s i = s' i) → setL l s c = setL l s' c := by
        intro l
        induction l with
        | nil => intro s s' h; exact h c rfl (by simp)
        | cons x l ih =>
          intro s s' h
          simp only [setL]
          cases hb : Nat.beq c x.1 with
          | true => rfl
          | false =>
            simp only [cond_false]
            refine ih s s' fun i hi hm => h i hi fun hm' => ?_
            rw [List.map_cons] at hm'
            rcases List.mem_cons.1 hm' with h1 | h1
            · rw [← h1, hi] at hb; simp at hb
            · exact hm h1
      simp only [setL]
      by_cases e : c = d
      · subst e
        have hb : Nat.beq c c = true := by simp
        rw [hb, cond_true]
        have : ∀ (l : List (Nat × Ty)) (s : Nat → Ty), c ∉ l.map Prod.fst → setL l s c = s c := by
          intro l
          induction l with
          | nil => intro s _; rfl
          | cons x l ih =>
            intro s h
            simp only [List.map_cons, List.mem_cons, not_or] at h
            have hb : Nat.beq c x.1 = false := by cases hb : Nat.beq c x.1 with | false => rfl | true => exact absurd (Nat.eq_of_beq_eq_true hb) h.1
            simp only [setL, hb, cond_false]
            exact ih s h.2
        rw [this l _ hnd.1]
        simp
      · have hb : Nat.beq c d = false := by cases hb : Nat.beq c d with | false => rfl | true => exact absurd (Nat.eq_of_beq_eq_true hb) e
        rw [hb, cond_false]
        exact hl l _ _ fun i hi _ => by subst hi; simp [hb]
    refine ⟨h1, fun c hc => ?_⟩
    rw [hset]; exact h2 c hc
def anyT : Nat → Ty := fun _ => Ty.any
def roundQ (fr : Fr) (B : List (Nat × Cont)) (br : Bool) (tr : List (Nat × Cont)) : Exit → Act → World → Prop
  | .normal, a, w => As.holds fr ⟨anyT, B⟩ a w
  | .ret, a, w => br = true ∧ As.holds fr ⟨anyT, tr⟩ a w
  | _, _, _ => False
theorem q_normal {fr : Fr} {A : As} {B : List (Nat × Cont)} {br : Bool} {tr : List (Nat × Cont)} (h : Ent fr A ⟨anyT, B⟩) : Into fr A (roundQ fr B br tr .normal) := fun _ _ ha => h.holds ha
def RoundT (P : Program) (n : Nat) (pass : List Nat) (assign body : Code) (A : As) (B : List (Nat × Cont)) (br : Bool) (tr : List (Nat × Cont)) : Prop :=
  ∃ A1 : As, (∀ l w M, Tri P ⟨n, w, M, pass, .round l⟩ assign A (Exit.then (fun a w' => A1.holds ⟨n, w, M, pass, .round l⟩ a w') fun _ _ _ => False)) ∧
    ∀ l w M, Tri P ⟨n, w, M, pass, .round l⟩ body (A1.after { d := none, S := [0] }) (roundQ ⟨n, w, M, pass, .round l⟩ B br tr)
section
variable {P : Program} {fr : Fr} {A : As} {Q : Exit → Act → World → Prop}
theorem base_put {w : World} {M : Tags} {l : Nat} {o : Obj} (h0 : fr.w0.heap.size ≤ l) (h1 : ∀ t, ¬ (1 ≤ t ∧ t ∉ fr.pass) → fr.M0 l ≠ some t) (hb : fr.base w M) : fr.base (w.putObj l o) M := by
  refine ⟨by simpa using hb.size, hb.os, hb.tape, hb.out, fun b hlt hm => ⟨(hb.pub b hlt hm).1, ?_⟩, fun b t hm hk => ⟨(hb.own b t hm hk).1, fun hs => ?_⟩⟩
  · rw [World.putObj_heap_other (by omega)]; exact (hb.pub b hlt hm).2
  · rw [World.putObj_heap_other (fun e => h1 t hk (by rw [← e]; exact hm))]; exact (hb.own b t hm hk).2 hs
theorem le_put0 {w : World} {M : Tags} {l : Nat} {o : Obj} (hl : M l = some 0) : Le (· ∈ [0]) (· ∈ ([] : List Nat)) w M (w.putObj l o) M := by
  refine ⟨by simp, rfl, rfl, rfl, fun b hb hm => ⟨hm, World.putObj_heap_other fun e => by rw [e, hl] at hm; cases hm⟩, fun b t hm _ => ⟨hm, fun hs => World.putObj_heap_other fun e => ?_⟩⟩
  rw [e, hl] at hm; injection hm with hm; exact hs (by simp [hm])
def JJ (fr : Fr) (s : Nat → Ty) (tm : Array Value) (ds : List Deferred) (l : Nat) (r : Loop) (tg : List (Nat × Cont)) (w : World) (M : Tags) : Prop :=
  fr.base w M ∧ (∀ c, c < fr.n → (s c).den w M (tm.getD c undef)) ∧ (∀ x ∈ tg, x.2.den w M x.1) ∧ M l = some 0 ∧ w.heap[l]? = some (.loop r) ∧ Defs fr w M ds
theorem JJ_cb {s : Nat → Ty} {tm : Array Value} {ds : List Deferred} {l : Nat} {r : Loop} {tg : List (Nat × Cont)} {pass' : List Nat} (hpass : passOk fr.pass pass' = true) (hs : pinOk fr.n pass' s = true) (ht : tagsOk tg = true) : Cb (JJ fr s tm ds l r tg) := by
  intro w M w' M' wf' le ⟨h1, h2, h3, h4, h5, h6⟩
  obtain ⟨hp1, hp2⟩ := passOk_spec hpass
  obtain ⟨a, c⟩ := le.own l 0 h4 (by decide)
  refine ⟨Fr.base_step h1 (fun t ht => Nat.le_trans Zt_pos ht) (fun t ht => ⟨Nat.le_trans Zt_pos ht, fun hm => by have := (hp2 t (hp1 t hm)).2; omega⟩) le, fun c hc => ?_, fun x hx => ?_, a, (c (by decide)).trans h5, h6.step (fun t ht => Nat.le_trans Zt_pos ht) (fun t ht => Nat.le_trans Zt_pos ht) le⟩
  · obtain ⟨e1, e2⟩ := pinOk_spec hs c hc
    exact (s c).mono le (fun t ht hz => by have := (hp2 t (e2 t ht)).2; omega) (by rw [e1]; intro _ h; cases h) (h2 c hc)
  · obtain ⟨⟨_, e2⟩, e3, e4⟩ := tagsOk_spec ht x hx
    exact x.2.mono le (fun t ht hz => by have := (e3 t ht).2; omega) (fun t ht hz => by have := (e4 t ht).2; omega) (by omega) (by omega) (h3 x hx)
def backZ (w : World) (M M3 : Tags) : Tags := fun b => match M b with | some u => if b < w.heap.size ∧ Zt ≤ u then some u else foldZ M3 b | none => foldZ M3 b
theorem round_end {s : Nat → Ty} {tm : Array Value} {ds : List Deferred} {l : Nat} {r r3 r4 : Loop} {tg0 tg : List (Nat × Cont)} {pass' : List Nat} (hpass : passOk fr.pass pass' = true) (hs : pinOk fr.n pass' s = true) (ht : tagsOk tg = true) (hkd : fr.kd = .marks)
    (h0 : fr.w0.heap.size ≤ l) (h1 : ∀ t, ¬ (1 ≤ t ∧ t ∉ fr.pass) → fr.M0 l ≠ some t)
    {w w1 w3 : World} {M M1 M3 : Tags} (wf : Wf w M) (z : ZOk M) (hj : JJ fr s tm ds l r tg0 w M)
    (le1 : Le (fun t => 1 ≤ t) (fun t => 1 ≤ t ∧ t ∉ pass') w (foldZ M) w1 M1) (wf3 : Wf w3 M3) (le3 : Le (fun t => 1 ≤ t) (fun t => 1 ≤ t ∧ t ∉ pass') (w1.putObj l (.loop r3)) M1 w3 M3)
    (htg : ∀ x ∈ tg, x.2.den w3 M3 x.1) :
    w3.heap[l]? = some (.loop r3) ∧ ∃ M4, Wf (w3.putObj l (.loop r4)) M4 ∧ ZOk M4 ∧ Le (fun t => t < Zt) (fun t => t < Zt) w M (w3.putObj l (.loop r4)) M4 ∧ JJ fr s tm ds l r4 tg (w3.putObj l (.loop r4)) M4 := by
  obtain ⟨hb, hsl, _, hl, hrec, hdef⟩ := hj
  obtain ⟨hp1, hp2⟩ := passOk_spec hpass
  have hlt : l < w.heap.size := wf.lt l 0 hl
  have hZ : (1 : Nat) ≤ Zt := by decide
  -- a block whose tag is 0, or another one that stays
  have zero : ∀ b, foldZ M b = some 0 → M3 b = some 0 ∧ (b ≠ l → w3.heap[b]? = w.heap[b]?) := fun b h => by
    obtain ⟨a, c⟩ := le1.own b 0 h (by omega)
    obtain ⟨a', c'⟩ := le3.own b 0 a (by omega)
    exact ⟨a', fun e => (c' (by omega)).trans ((World.putObj_heap_other e).trans (c (by omega)))⟩
  have pas : ∀ b t, t ∈ pass' → M b = some t → M3 b = some t := fun b t hm h => by
    obtain ⟨a, _⟩ := le1.own b t (foldZ_lt h (hp2 t hm).2) (fun h => h.2 hm)
    exact (le3.own b t a fun h => h.2 hm).1
  have pub : ∀ b, b < w.heap.size → M b = none → M3 b = none ∧ w3.heap[b]? = w.heap[b]? := fun b hb h => by
    obtain ⟨a, c⟩ := le1.pub b hb (foldZ_none h)
    obtain ⟨a', c'⟩ := le3.pub b (by simpa using Nat.lt_of_lt_of_le hb le1.size) a
    exact ⟨a', c'.trans ((World.putObj_heap_other fun e => by rw [e, hl] at h; cases h).trans c)⟩
  have hl0 : foldZ M l = some 0 := foldZ_lt hl (by decide)
  have hM1l := (le1.own l 0 hl0 (by omega)).1
  have hl1 : l < w1.heap.size := Nat.lt_of_lt_of_le hlt le1.size
  have hrec3 : w3.heap[l]? = some (.loop r3) := ((le3.own l 0 hM1l (by omega)).2 (by omega)).trans (World.putObj_heap_same hl1)
  have hM3l := (zero l hl0).1
  have hsz3 : w.heap.size ≤ w3.heap.size := Nat.le_trans le1.size (by simpa using le3.size)
  refine ⟨hrec3, backZ w M M3, ?_⟩
  -- how the tags are
  have kept : ∀ b u, M b = some u → Zt ≤ u → backZ w M M3 b = some u := fun b u h hu => by
    unfold backZ; rw [h]; simp [wf.lt b u h, hu]
  have other : ∀ b, (∀ u, M b = some u → u < Zt) → backZ w M M3 b = foldZ M3 b := fun b h => by
    unfold backZ
    cases hm : M b with
    | none => rfl
    | some u => have := h u hm; simp only; rw [if_neg (by omega)]
  have from3 : ∀ b t, M3 b = some t → 1 ≤ t → ∀ u, M b = some u → u < Zt := fun b t h h1 u hu => by
    rcases Nat.lt_or_ge u Zt with h2 | h2
    · exact h2
    · have := (zero b (foldZ_ge hu h2)).1
      rw [this] at h; injection h with h; omega
  have none3 : ∀ b, M3 b = none → ∀ u, M b = some u → u < Zt := fun b h u hu => by
    rcases Nat.lt_or_ge u Zt with h2 | h2
    · exact h2
    · have := (zero b (foldZ_ge hu h2)).1
      rw [this] at h; cases h
  have zok : ZOk (backZ w M M3) := fun b u h hu => by
    unfold backZ at h
    split at h
    · rename_i v hv
      split at h
      · injection h with h; subst h; exact z b v hv hu
      · have := foldZ_u h; omega
    · have := foldZ_u h; omega
  have wf4 : Wf (w3.putObj l (.loop r4)) (backZ w M M3) := by
    refine ⟨fun b t h => ?_, fun b b' t ht1 h h' => ?_⟩
    · rw [World.putObj_size]
      unfold backZ at h
      split at h
      · split at h
        · rename_i hc; exact Nat.lt_of_lt_of_le hc.1 hsz3
        · exact (foldZ_wf wf3).lt b t h
      · exact (foldZ_wf wf3).lt b t h
    · by_cases hz : Zt ≤ t + 1
      · have e1 := zok b _ h hz
        have e2 := zok b' _ h' hz
        omega
      · have part : ∀ b, backZ w M M3 b = some (t + 1) → M3 b = some (t + 1) := fun b h => by
          unfold backZ at h
          split at h
          · split at h
            · injection h with h; omega
            · exact (foldZ_some h).1
          · exact (foldZ_some h).1
        exact wf3.inj b b' t ht1 (part b h) (part b' h')
  have le0 : Le (· ∈ [0]) (· ∈ ([] : List Nat)) w3 M3 (w3.putObj l (.loop r4)) M3 := le_put0 hM3l
  have leZ : Le (fun t => t < Zt) (fun t => t < Zt) w M (w3.putObj l (.loop r4)) (backZ w M M3) := by
    refine ⟨by simpa using hsz3, (le0.os.trans (le3.os.trans le1.os)), (le0.tape.trans (le3.tape.trans le1.tape)), (le0.out.trans (le3.out.trans le1.out)), fun b hb hm => ?_, fun b t hm ht => ⟨kept b t hm (by omega), fun _ => ?_⟩⟩
    · obtain ⟨a, c⟩ := pub b hb hm
      refine ⟨by rw [other b (fun u hu => by rw [hm] at hu; cases hu)]; exact foldZ_none a, ?_⟩
      rw [World.putObj_heap_other fun e => by rw [e, hl] at hm; cases hm]; exact c
    · have hbl : b ≠ l := fun e => by rw [e, hl] at hm; injection hm with hm; omega
      rw [World.putObj_heap_other hbl]
      exact (zero b (foldZ_ge hm (by omega))).2 hbl
  refine ⟨wf4, zok, leZ, ?_, fun c hc => ?_, fun x hx => ?_, ?_, World.putObj_heap_same (Nat.lt_of_lt_of_le hlt hsz3), ?_⟩
  · refine ⟨Nat.le_trans hb.size leZ.size, leZ.os.trans hb.os, leZ.tape.trans hb.tape, leZ.out.trans hb.out, fun b hlt' hm => ?_, fun b t hm hk => ?_⟩
    · obtain ⟨a, c⟩ := hb.pub b hlt' hm
      obtain ⟨a', c'⟩ := leZ.pub b (Nat.lt_of_lt_of_le hlt' hb.size) a
      exact ⟨a', c'.trans c⟩
    · obtain ⟨a, c⟩ := hb.own b t hm hk
      have hbl : b ≠ l := fun e => h1 t hk (e ▸ hm)
      by_cases ht0 : t = 0
      · subst ht0
        obtain ⟨a', c'⟩ := zero b (foldZ_lt a (by decide))
        refine ⟨by rw [other b (fun u hu => by rw [a] at hu; injection hu with hu; omega)]; exact foldZ_lt a' (by decide), fun hs => ?_⟩
        rw [World.putObj_heap_other hbl]; exact (c' hbl).trans (c hs)
      · have htp : t ∈ fr.pass := Classical.byContradiction fun h => hk ⟨by omega, h⟩
        have htp' := hp1 t htp
        refine ⟨by rw [other b (fun u hu => by rw [a] at hu; injection hu with hu; have := (hp2 t htp').2; omega)]; exact foldZ_lt (pas b t htp' a) (hp2 t htp').2, fun hs => absurd (FK.canS_of (k := fr.kd) (by omega : 1 ≤ t)) hs⟩
  · obtain ⟨e1, e2⟩ := pinOk_spec hs c hc
    refine (s c).mono (S := fun _ => True) (K := fun t => t ∉ pass') ⟨leZ.size, leZ.os, leZ.tape, leZ.out, leZ.pub, fun b t hm hk => ⟨?_, fun h => absurd trivial h⟩⟩ (fun t ht h => h (e2 t ht)) (by rw [e1]; intro _ h; cases h) (hsl c hc)
    have htp : t ∈ pass' := Classical.byContradiction fun h => hk h
    rw [other b (fun u hu => by rw [hm] at hu; injection hu with hu; have := (hp2 t htp).2; omega)]
    exact foldZ_lt (pas b t htp hm) (hp2 t htp).2
  · obtain ⟨⟨g1, g2⟩, e3, e4⟩ := tagsOk_spec ht x hx
    refine x.2.mono (w := w3) (M := M3) (S := fun t => t = 0) (K := fun t => t = 0 ∨ Zt ≤ t) ⟨by simp, rfl, rfl, rfl, fun b hb hm => ⟨?_, ?_⟩, fun b t hm hk => ⟨?_, fun _ => ?_⟩⟩ (fun t ht h => by have := e3 t ht; omega) (fun t ht h => by have := (e4 t ht).1; omega) (by omega) (by omega) (htg x hx)
    · rw [other b (none3 b hm)]; exact foldZ_none hm
    · exact World.putObj_heap_other fun e => by rw [e, hM3l] at hm; cases hm
    · have ht1 : 1 ≤ t := Nat.pos_of_ne_zero fun h => hk (.inl h)
      rw [other b (from3 b t hm ht1)]; exact foldZ_lt hm (Nat.lt_of_not_le fun h => hk (.inr h))
    · exact World.putObj_heap_other fun e => by rw [e, hM3l] at hm; injection hm with hm; exact hk (.inl hm.symm)
  · rw [other l (fun u hu => by rw [hl] at hu; injection hu with hu; omega)]; exact foldZ_lt hM3l (by decide)
  · obtain ⟨rs, e, g1, g2, g3⟩ := hdef
    refine ⟨rs, e, g1, g2, fun q hq => ?_⟩
    obtain ⟨a, b, c⟩ := g3 q hq
    have hql : q ≠ l := fun e => by rw [e, hrec] at c; cases c
    obtain ⟨a', c'⟩ := zero q (foldZ_lt a (by decide))
    refine ⟨by rw [other q (fun u hu => by rw [a] at hu; injection hu with hu; omega)]; exact foldZ_lt a' (by decide), b, ?_⟩
    rw [World.putObj_heap_other hql]; exact (c' hql).trans c
theorem t_rangeFunc {g : Operand} {ps : List Tmp} {assign body : Code} {gf : FuncId} {caps : List Ty} {encs : List (List Ty)} {resD resS : Ty} (s : Nat → Ty) (tg : Nat → List (Nat × Cont)) (br : Bool) (tr : List (Nat × Cont)) (pass' : List Nat)
    (hkd : fr.kd = .marks) (hg : A.op fr g = .clo gf caps) (hI : CtrI P gf (fun l => Ty.ex (yv l) :: caps) encs resD resS) (hcd : depsOf caps = []) (hcc : cdepsOf caps = [])
    (hps : ps.Nodup) (hlen : ∀ tys ∈ encs, tys.length = ps.length ∧ depsOf tys = [] ∧ cdepsOf tys = []) (hpass : passOk fr.pass pass' = true) (hs : pinOk fr.n pass' s = true) (htg : ∀ k, tagsOk (tg k) = true) (htr : tagsOk tr = true)
    (h0 : Ent fr A ⟨s, tg 0⟩)
    (hround : ∀ k tys, encs[k]? = some tys → RoundT P fr.n pass' assign body ⟨setL (ps.zip tys) s, tg k⟩ (tg (k + 1)) br tr)
    (hdone : Into fr ⟨s, tg encs.length⟩ (Q .normal)) (hret : br = true → Into fr ⟨s, tr⟩ (Q .ret)) :
    Tri P fr (.rangeFunc g ps.toArray assign body) A Q := by
  intro a w ha
  have hfe : fr.kd.fence = Fence.wide := by rw [hkd]; rfl
  rw [hfe]
  obtain ⟨hp1, hp2⟩ := passOk_spec hpass
  have hgv : ∃ cs : Array Value, a.eval g = .func (.func gf) #[] cs ∧ ∃ M, dens w M caps cs.toList := by
    obtain ⟨M, _, hsl, _⟩ := ha
    have := op_den (x := g) (rs := opR g) (fun _ h => h) (fun c _ hn => hsl c hn)
    rw [hg] at this
    obtain ⟨cs, e, hd⟩ := this
    exact ⟨cs, e, M, hd⟩
  obtain ⟨M, ok, hsl0, htg0⟩ := id ha
  have hcs : ∃ cs : Array Value, a.eval g = .func (.func gf) #[] cs ∧ dens w M caps cs.toList := by
    have := op_den (x := g) (rs := opR g) (fun _ h => h) (fun c _ hn => hsl0 c hn)
    rw [hg] at this
    exact this
  obtain ⟨cs, hev, hcaps⟩ := hcs
  have hB0 := h0.holds (a := a) (w := w) ⟨M, ok, hsl0, htg0⟩
  -- the same tags: the assertion that is forgotten down to holds of them, too
  have hslB : ∀ c, c < fr.n → (s c).den w M (a.tmps.getD c undef) := fun c hc => (allSub_get h0.slots c hc) _ _ _ (hsl0 c hc)
  have htgB : ∀ x ∈ tg 0, x.2.den w M x.1 := fun x hx => by
    obtain ⟨C, hC, hsub⟩ := allTags_get h0.tags x hx
    exact hsub _ _ _ (htg0 _ (tag_mem hC))
  have hZ : (1 : Nat) ≤ Zt := by decide
  refine wpIn_rangeFunc fun fn _ => ?_
  obtain ⟨w1, hw1⟩ : ∃ w1, (w.alloc (.deferred (some []))).alloc (.loop { state := .ready, pending := none, fn, tmps := a.tmps, params := ps.toArray, assign, body, defers := w.heap.size }) = w1 := ⟨_, rfl⟩
  refine ⟨w.heap.size + 1, _, w1, { target := .fn (.func gf) cs, args := #[yv (w.heap.size + 1)] }, w1, gf, (yv (w.heap.size + 1) :: cs.toList).toArray, w1, by rw [← hw1]; exact run_enterLoop_outer fn a.tmps ps.toArray assign body, ?_, fun _ _ => trivial, ?_, (fun h => by cases h), ?_⟩
  · simp [resolve, rangeCall, hev, Deferred.ofValue, yv]; rfl
  · obtain ⟨⟨fn', hf, hn, hb⟩, _⟩ := hI
    have hn' : fn'.name ≠ "runtime.NumGoroutine" := by simpa using hn
    have hb' : fn'.body ≠ none := fun h => by rw [h] at hb; cases hb
    simp [invoke, callFunc, hf, hn', hb']
  -- the world in which the iterator is called
  have hnone : ∀ b, w.heap.size ≤ b → M b = none := fun b hb => by
    cases hm : M b with
    | none => rfl
    | some t => have := ok.wf.lt b t hm; omega
  have hsz1 : w1.heap.size = w.heap.size + 2 := by rw [← hw1]; simp
  have hD : w1.heap[w.heap.size]? = some (.deferred (some [])) := by
    rw [← hw1]
    show ((w.heap.push _).push _)[w.heap.size]? = _
    rw [Array.getElem?_push, if_neg (by simp), Array.getElem?_push, if_pos rfl]
  have hL : w1.heap[w.heap.size + 1]? = some (.loop { state := .ready, pending := none, fn, tmps := a.tmps, params := ps.toArray, assign, body, defers := w.heap.size }) := by
    rw [← hw1]
    show ((w.heap.push _).push _)[w.heap.size + 1]? = _
    rw [Array.getElem?_push, if_pos (by simp)]
  have hold : ∀ b, b < w.heap.size → w1.heap[b]? = w.heap[b]? := fun b hb => by
    rw [← hw1]
    show ((w.heap.push _).push _)[b]? = _
    rw [Array.getElem?_push, if_neg (by simp; omega), Array.getElem?_push, if_neg (by omega)]
  have hw1os : w1.os = w.os ∧ w1.tape = w.tape ∧ w1.output = w.output := by rw [← hw1]; exact ⟨rfl, rfl, rfl⟩
  have leN : Le (fun t => Zt ≤ t) (fun t => Zt ≤ t) w M w1 (fun b => if b = w.heap.size ∨ b = w.heap.size + 1 then some 0 else foldZ M b) := by
    refine ⟨by omega, hw1os.1, hw1os.2.1, hw1os.2.2, fun b hb hm => ⟨?_, hold b hb⟩, fun b t hm ht => ⟨?_, fun _ => hold b (ok.wf.lt b t hm)⟩⟩
    · rw [if_neg (by omega)]; exact foldZ_none hm
    · have := ok.wf.lt b t hm
      rw [if_neg (by omega)]; exact foldZ_lt hm (Nat.lt_of_not_le ht)
  have wf1 : Wf w1 (fun b => if b = w.heap.size ∨ b = w.heap.size + 1 then some 0 else foldZ M b) := by
    refine ⟨fun b t h => ?_, fun b b' t ht1 h h' => ?_⟩
    · split at h
      · omega
      · have := (foldZ_wf ok.wf).lt b t h; omega
    · have part : ∀ b, (if b = w.heap.size ∨ b = w.heap.size + 1 then some 0 else foldZ M b) = some (t + 1) → foldZ M b = some (t + 1) := fun b h => by
        split at h
        · cases h
        · exact h
      exact (foldZ_wf ok.wf).inj b b' t ht1 (part b h) (part b' h')
  have z1 : ZOk (fun b => if b = w.heap.size ∨ b = w.heap.size + 1 then some 0 else foldZ M b) := fun b u h hu => by
    simp only at h
    split at h
    · injection h with h; omega
    · have := foldZ_u h; omega
  have hbl0 : fr.w0.heap.size ≤ w.heap.size + 1 := Nat.le_succ_of_le ok.base.size
  have hbl1 : ∀ t, ¬ (1 ≤ t ∧ t ∉ fr.pass) → fr.M0 (w.heap.size + 1) ≠ some t := fun t ht h => by
    have := (ok.base.own _ t h ht).1
    rw [hnone _ (by omega)] at this; cases this
  have defs1 : Defs fr w1 (fun b => if b = w.heap.size ∨ b = w.heap.size + 1 then some 0 else foldZ M b) (markOf w.heap.size :: a.defers) := by
    obtain ⟨rs, e, g1, g2, g3⟩ := ok.defers
    refine ⟨w.heap.size :: rs, by rw [e]; rfl, fun _ => hkd, List.nodup_cons.2 ⟨fun h => ?_, g2⟩, fun q hq => ?_⟩
    · have := ok.wf.lt _ _ (g3 _ h).1; omega
    · rcases List.mem_cons.1 hq with rfl | hq
      · refine ⟨by simp, ⟨ok.base.size, fun t ht h => ?_⟩, hD⟩
        have := (ok.base.own _ t h ht).1
        rw [hnone _ (Nat.le_refl _)] at this; cases this
      · obtain ⟨a1, b1, c1⟩ := g3 q hq
        have := ok.wf.lt _ _ a1
        exact ⟨by simp only; rw [if_neg (by omega)]; exact foldZ_lt a1 (by decide), b1, (hold q this).trans c1⟩
  -- between two rounds
  let R : LoopState → Option Code → Loop := fun st pe => { state := st, pending := pe, fn, tmps := a.tmps, params := ps.toArray, assign, body, defers := w.heap.size }
  let J : Nat → World → Tags → Prop := fun k => JJ fr s a.tmps (markOf w.heap.size :: a.defers) (w.heap.size + 1) (R .ready none) (tg k)
  let Jx : World → Tags → Prop := fun w' M' => br = true ∧ JJ fr s a.tmps (markOf w.heap.size :: a.defers) (w.heap.size + 1) (R .done (some .ret)) tr w' M'
  have hJ : ∀ k, Cb (J k) := fun k => JJ_cb hpass hs (htg k)
  have hJx : Cb Jx := fun w M w' M' wf le ⟨h, hj⟩ => ⟨h, JJ_cb hpass hs htr w M w' M' wf le hj⟩
  have hj0 : J 0 w1 (fun b => if b = w.heap.size ∨ b = w.heap.size + 1 then some 0 else foldZ M b) := by
    refine ⟨Fr.base_step ok.base (fun t ht => by omega) (fun t ht => ⟨by omega, fun hm => by have := (hp2 t (hp1 t hm)).2; omega⟩) leN, fun c hc => ?_, fun x hx => ?_, by simp, hL, defs1⟩
    · obtain ⟨e1, e2⟩ := pinOk_spec hs c hc
      exact (s c).mono leN (fun t ht hz => by have := (hp2 t (e2 t ht)).2; omega) (by rw [e1]; intro _ h; cases h) (hslB c hc)
    · obtain ⟨⟨_, e2⟩, e3, e4⟩ := tagsOk_spec (htg 0) x hx
      exact x.2.mono leN (fun t ht hz => by have := (e3 t ht).2; omega) (fun t ht hz => by have := (e4 t ht).2; omega) (by omega) (by omega) (htgB x hx)
  have hY : Yld P (w.heap.size + 1) encs J Jx := by
    intro k tys hk w2 M2 vs wf2 z2 hj hv
    obtain ⟨jb, jsl, jtg, jl, jrec, jdef⟩ := id hj
    have hvl := dens_len hv
    obtain ⟨htl, hte, htc⟩ := hlen tys (List.mem_of_getElem? hk)
    have hrunY := run_yield (P := P) (args := vs.toArray) jrec (by simp [R]; omega)
    refine ⟨_, _, _, _, hrunY, roundIn_of_wpIn trivial ?_⟩
    obtain ⟨A1, hassign, hbody⟩ := hround k tys hk
    have hzip : (ps.zip tys).map Prod.fst = ps := by rw [List.map_fst_zip (by omega)]
    have hzip2 : (ps.zip tys).map Prod.snd = tys := by rw [List.map_snd_zip (by omega)]
    have conv : ∀ {t : Ty} {v : Value}, (∀ u ∈ t.deps, u < Zt) → t.den w2 M2 v → t.den w2 (foldZ M2) v := fun {t v} hd h =>
      t.mono (S := fun _ => False) (K := fun u => Zt ≤ u) ⟨Nat.le_refl _, rfl, rfl, rfl, fun b _ hm => ⟨foldZ_none hm, rfl⟩, fun b u hm hk => ⟨foldZ_lt hm (Nat.lt_of_not_le hk), fun _ => rfl⟩⟩ (fun u hu hz => by have := hd u hu; omega) (fun _ _ h => h) h
    have convC : ∀ {C : Cont} {t : Nat}, (∀ u ∈ C.deps, u < Zt) → t < Zt → C.den w2 M2 t → C.den w2 (foldZ M2) t := fun {C t} hd ht h =>
      C.mono (S := fun _ => False) (K := fun u => Zt ≤ u) ⟨Nat.le_refl _, rfl, rfl, rfl, fun b _ hm => ⟨foldZ_none hm, rfl⟩, fun b u hm hk => ⟨foldZ_lt hm (Nat.lt_of_not_le hk), fun _ => rfl⟩⟩ (fun u hu hz => by have := hd u hu; omega) (fun _ _ h => h) (fun h => h) (by omega) h
    obtain ⟨fsz, fden⟩ := fold_den (w := w2) (M := foldZ M2) (n := fr.n) (ps.zip tys) vs a.tmps s (by rw [hzip]; exact hps) ok.size (fun c hc => conv (fun u hu => (hp2 u ((pinOk_spec hs c hc).2 u hu)).2) (jsl c hc)) (by rw [hzip2]; exact conv_nodeps (fun b h => foldZ_none h) hte htc hv)
    rw [hzip] at fsz fden
    have htm : ((R .ready none).params.zip vs.toArray).foldl (fun tmps (t, v) => tmps.setIfInBounds t v) a.tmps = (ps.zip vs).foldl (fun t (p, v) => t.setIfInBounds p v) a.tmps := by simp [R]
    have hA0 : As.holds ⟨fr.n, w2, foldZ M2, pass', .round (w.heap.size + 1)⟩ ⟨setL (ps.zip tys) s, tg k⟩ { tmps := ((R .ready none).params.zip vs.toArray).foldl (fun tmps (t, v) => tmps.setIfInBounds t v) a.tmps, defers := [] } w2 := by
      rw [htm]
      exact ⟨foldZ M2, ⟨foldZ_wf wf2, Le.refl _ _ _ _, fsz, Defs.nil⟩, fden, fun x hx => by
        obtain ⟨⟨_, e2⟩, e3, _⟩ := tagsOk_spec (htg k) x hx
        exact convC (fun u hu => (e3 u hu).2) e2 (jtg x hx)⟩
    have h1 := hassign (w.heap.size + 1) w2 (foldZ M2) _ _ hA0
    refine Go.wpIn_mono h1 fun e a1 w3 hq => ?_
    cases e with
    | normal =>
      obtain ⟨M3, ok3, hsl3, htg3⟩ := hq
      obtain ⟨l3, l3'⟩ := ok3.base.own (w.heap.size + 1) 0 (foldZ_lt jl (by decide)) (by simp)
      have rec3 : w3.heap[w.heap.size + 1]? = some (.loop (R .ready none)) := (l3' (by simp [FK.canS])).trans jrec
      refine ⟨_, run_beginRound rec3 rfl, ?_⟩
      have hkill := le_put0 (w := w3) (M := M3) (o := .loop { R .ready none with state := .busy }) l3
      have hb0 : As.holds ⟨fr.n, w3.putObj (w.heap.size + 1) (.loop { R .ready none with state := .busy }), M3, pass', .round (w.heap.size + 1)⟩ (A1.after { d := none, S := [0] }) a1 (w3.putObj (w.heap.size + 1) (.loop { R .ready none with state := .busy })) := by
        refine ⟨M3, ⟨⟨fun b t h => by simpa using ok3.wf.lt b t h, ok3.wf.inj⟩, Le.refl _ _ _ _, ok3.size, by rw [ok3.nodefers (by simp)]; exact Defs.nil⟩, fun c hc => ?_, fun x hx => ?_⟩
        · simp only [As.after, setSlot]
          rcases killSlots_spec [0] [] A1.slots c with ⟨e, hdj⟩ | ⟨_, e⟩
          · rw [e]; exact (A1.slots c).mono hkill (safe_spec hdj).1 (safe_spec hdj).2 (hsl3 c hc)
          · rw [e]; trivial
        · exact killTags_den hkill (by simpa [As.after] using hx) fun y hy _ => htg3 y hy
      have h2 := hbody (w.heap.size + 1) _ M3 _ _ hb0
      refine Go.wpIn_mono h2 fun e a4 w4 hq4 => ?_
      have le1 : Le (fun t => 1 ≤ t) (fun t => 1 ≤ t ∧ t ∉ pass') w2 (foldZ M2) w3 M3 := ok3.base
      cases e with
      | normal =>
        obtain ⟨M4, ok4, _, htg4⟩ := hq4
        obtain ⟨r4, M5, g1, g2, g3, g4⟩ := round_end (r4 := R .ready none) hpass hs (htg (k + 1)) hkd hbl0 hbl1 wf2 z2 hj le1 ok4.wf ok4.base htg4
        exact ⟨_, _, run_endRound none r4, M5, g1, g2, g3, .inl ⟨rfl, g4⟩⟩
      | ret =>
        obtain ⟨hbr, M4, ok4, _, htg4⟩ := hq4
        obtain ⟨r4, M5, g1, g2, g3, g4⟩ := round_end (r4 := R .done (some .ret)) hpass hs htr hkd hbl0 hbl1 wf2 z2 hj le1 ok4.wf ok4.base htg4
        exact ⟨_, _, run_endRound (some .ret) r4, M5, g1, g2, g3, .inr ⟨rfl, hbr, g4⟩⟩
      | exit id => exact hq4.elim
      | goto l => exact hq4.elim
      | panic c => exact hq4.elim
      | outgrown => exact hq4.elim
    | ret => exact hq.elim
    | exit id => exact hq.elim
    | goto l => exact hq.elim
    | panic c => exact hq.elim
    | outgrown => exact hq.elim
  have fin : ∀ (r : Loop) (tgs : List (Nat × Cont)) (w' : World) (M' : Tags) (o : Obj), tagsOk tgs = true → Wf w' M' → JJ fr s a.tmps (markOf w.heap.size :: a.defers) (w.heap.size + 1) r tgs w' M' → As.holds fr ⟨s, tgs⟩ { tmps := a.tmps, defers := [{ target := .collected w.heap.size, args := #[] }] ++ a.defers } (w'.putObj (w.heap.size + 1) o) := by
    intro r tgs w' M' o hok wf' ⟨jb, jsl, jtg, jl, jrec, jdef⟩
    have hk0 := le_put0 (w := w') (M := M') (o := o) jl
    refine ⟨M', ⟨⟨fun b t h => by simpa using wf'.lt b t h, wf'.inj⟩, base_put hbl0 hbl1 jb, ok.size, ?_⟩, fun c hc => ?_, fun x hx => ?_⟩
    · obtain ⟨rs, e, g1, g2, g3⟩ := jdef
      refine ⟨rs, e, g1, g2, fun q hq => ?_⟩
      obtain ⟨a1, b1, c1⟩ := g3 q hq
      exact ⟨a1, b1, by rw [World.putObj_heap_other fun e => by rw [e, jrec] at c1; cases c1]; exact c1⟩
    · obtain ⟨e1, e2⟩ := pinOk_spec hs c hc
      exact (s c).mono hk0 (fun _ _ h => by cases h) (by rw [e1]; intro _ h; cases h) (jsl c hc)
    · obtain ⟨⟨e1, e2⟩, e3, e4⟩ := tagsOk_spec hok x hx
      exact x.2.mono hk0 (fun _ _ h => by cases h) (fun t ht h => by have := (e4 t ht).1; rw [List.mem_singleton.1 h] at this; omega) (fun h => by rw [List.mem_singleton.1 h] at e1; omega) (fun h => by cases h) (jtg x hx)
  refine CallsIn.mono (callsIn_wide.2 (hI.2 (w.heap.size + 1) J Jx hJ hJx hY w1 _ (yv (w.heap.size + 1) :: cs.toList) wf1 z1 ⟨rfl, ?_⟩ hj0)) ?_
  · exact dens_mono leN (by rw [hcd]; intro _ h; cases h) (by rw [hcc]; intro _ h; cases h) hcaps
  · rintro e w' ⟨r, M', he, wf', z', hor⟩
    subst he
    rcases hor with ⟨_, hj⟩ | ⟨_, hbr, hj⟩
    · refine ⟨none, _, run_endLoop hj.2.2.2.2.1 (by simp [R]), ?_⟩
      exact hdone _ _ (fin _ _ w' M' _ (htg _) wf' hj)
    · refine ⟨some .ret, _, run_endLoop hj.2.2.2.2.1 (by simp [R]), ?_⟩
      exact wpIn_ret (hret hbr _ _ (fin _ _ w' M' _ htr wf' hj))
end
section
variable {P : Program} {A : As} {fn : Func} {n : Nat} {w0 : World} {M0 : Tags} {F : List Nat}
theorem leaves_marks {R : Ending → World → Prop} {tm : Array Value} {s : Nat → Ty} {tgs : List (Nat × Cont)} {pass : List Nat} (fr : Fr)
    (hs0 : ∀ c, c < fr.n → ∀ t ∈ (s c).cdeps, t ≠ 0) (ht0 : ∀ x ∈ tgs, x.1 ≠ 0 ∧ ∀ t ∈ x.2.cdeps, t ≠ 0)
    (h : ∀ w M, Wf w M → fr.base w M → (∀ c, c < fr.n → (s c).den w M (tm.getD c undef)) → (∀ x ∈ tgs, x.2.den w M x.1) → ∃ v, (results fn tm).run P w = .ok v w ∧ R (.returned v) w) :
    ∀ (rs : List Nat) (w : World) (M : Tags), Wf w M → fr.base w M → (∀ c, c < fr.n → (s c).den w M (tm.getD c undef)) → (∀ x ∈ tgs, x.2.den w M x.1) → rs.Nodup → (∀ r ∈ rs, M r = some 0 ∧ fr.w0.heap.size ≤ r ∧ (∀ t, ¬ (1 ≤ t ∧ t ∉ fr.pass) → fr.M0 r ≠ some t) ∧ w.heap[r]? = some (.deferred (some []))) →
      LeavesInM Fence.wide 0 P fn tm R (rs.map markOf) .returning w
  | [], w, M, wf, hb, hs, ht, _, _ => h w M wf hb hs ht
  | r :: rs, w, M, wf, hb, hs, ht, hnd, hr => by
    obtain ⟨a, b, c, d⟩ := hr r List.mem_cons_self
    have le := le_put0 (w := w) (M := M) (o := .deferred none) a
    refine ⟨by simp, .inl ⟨r, _, rfl, run_takeDeferred d, ?_⟩⟩
    refine leaves_marks (pass := pass) fr hs0 ht0 h rs _ M ⟨fun b t h => by simpa using wf.lt b t h, wf.inj⟩ (base_put b c hb) (fun c hc => (s c).mono le (fun _ _ h => by cases h) (fun t ht h => hs0 c hc t ht (List.mem_singleton.1 h)) (hs c hc))
      (fun x hx => x.2.mono le (fun _ _ h => by cases h) (fun t htt h => (ht0 x hx).2 t htt (List.mem_singleton.1 h)) (fun h => (ht0 x hx).1 (List.mem_singleton.1 h)) (fun h => by cases h) (ht x hx)) (List.nodup_cons.1 hnd).2 (fun q hq => ?_)
    obtain ⟨a1, b1, c1, d1⟩ := hr q (List.mem_cons_of_mem _ hq)
    refine ⟨a1, b1, c1, ?_⟩
    rw [World.putObj_heap_other fun e => (List.nodup_cons.1 hnd).1 (by rw [← e]; exact hq)]; exact d1
def notZero (n : Nat) (A : As) : Bool := ((List.range n).all fun c => (A.slots c).cdeps.all fun t => Nat.ble 1 t) && A.tags.all fun x => Nat.ble 1 x.1 && x.2.cdeps.all fun t => Nat.ble 1 t
theorem m_ret {R : Ending → World → Prop} (hz : notZero n A = true) (h : Into ⟨n, w0, M0, F, .plain⟩ A (bodyPost P fn R .ret)) : Into ⟨n, w0, M0, F, .marks⟩ A (bodyPostM Fence.wide 0 P fn R .ret) := by
  intro a w ⟨M, ok, hsl, htg⟩
  obtain ⟨rs, e, g1, g2, g3⟩ := ok.defers
  simp only [notZero, Bool.and_eq_true, List.all_eq_true, List.mem_range, Nat.ble_eq] at hz
  show LeavesInM Fence.wide 0 P fn a.tmps R a.defers .returning w
  rw [e]
  refine leaves_marks (pass := []) (s := A.slots) (tgs := A.tags) ⟨n, w0, M0, F, .marks⟩ (fun c hc t ht => by have := hz.1 c hc t ht; omega) (fun x hx => ⟨by have := (hz.2 x hx).1; omega, fun t ht => by have := (hz.2 x hx).2 t ht; omega⟩) (fun w2 M2 wf hb hs ht => ?_) rs w M ok.wf ok.base hsl htg g2 (fun r hr => ?_)
  · exact (h { tmps := a.tmps, defers := [] } w2 ⟨M2, ⟨wf, hb, ok.size, Defs.nil⟩, hs, ht⟩).2
  · obtain ⟨a1, b1, c1⟩ := g3 r hr
    exact ⟨a1, b1.1, b1.2, c1⟩
theorem fnM_intro {f : FuncId} {fn : Func} {c : Code} {args : List Ty} {res : Ty} {n : Nat} (hf : P.funcs[f]? = some fn) (hb : fn.body = some c) (hn : (fn.name == "runtime.NumGoroutine") = false) (hnt : fn.ntmps = n) (hl : args.length ≤ n)
    (h : ∀ w0 M0, Tri P ⟨n, w0, M0, [], .marks⟩ c (entry args) (bodyPostM Fence.wide 0 P fn (retPost w0 M0 res))) : Ctr P f args res := by
  refine ⟨⟨fn, hf, hn, by rw [hb]; rfl⟩, fun w M vs wf hM hd => callsIn_wide.1 (callsIn_of_wp_marks (n := 0) hf hb trivial (h w M _ _ ?_))⟩
  have hlen := dens_len hd
  refine ⟨M, ⟨wf, Le.refl _ _ _ _, by simp [hnt, hlen]; omega, Defs.nil⟩, fun c hc => ?_, by simp [entry]⟩
  simp only [entry]
  cases ha : args[c]? with
  | none => trivial
  | some ty =>
    obtain ⟨v, hv, hdv⟩ := dens_get hd c ty ha
    have : (vs.toArray ++ Array.replicate (fn.ntmps - vs.toArray.size) undef).getD c undef = v := by
      have hlt : c < vs.length := (List.getElem?_eq_some_iff.1 hv).1
      rw [Array.getD_eq_getD_getElem?, Array.getElem?_append_left (by simpa using hlt)]
      simp [hv]
    rw [this]; exact hdv
theorem enc_get {α : Type} [Inhabited α] {xs : List α} {f : α → List Ty} {k : Nat} {t : List Ty} (h : (xs.map f)[k]? = some t) : k < xs.length ∧ t = f (nth xs k) := by
  rw [List.getElem?_map] at h
  obtain ⟨x, hx, rfl⟩ := Option.map_eq_some_iff.1 h
  obtain ⟨hk, e⟩ := List.getElem?_eq_some_iff.1 hx
  exact ⟨hk, by rw [nth_lt hk, e]⟩
theorem get_enc {α : Type} [Inhabited α] {xs : List α} {f : α → List Ty} {k : Nat} {t : List Ty} (h : k < xs.length) (e : f (nth xs k) = t) : (xs.map f)[k]? = some t := by
  rw [List.getElem?_map, List.getElem?_eq_getElem h, ← nth_lt h, ← e]; rfl
end
section
variable {P : Program} {fr : Fr} {A : As} {Q : Exit → Act → World → Prop}
theorem t_regionYn (n : Nat) {id : Nat} {l : List Oper} {o : Oper} (hl : l[n]? = some o) (hkd : fr.kd = .iter)
    (h : TOps P fr l.toArray (l.take n) A fun A1 _ => ∃ f g, OpY P fr l.toArray o A1 f g ∧ TOps P fr l.toArray (l.drop (n + 1)) (A1.after f) (fun A' _ => Into fr A' (Q .normal)) ∧ TOps P fr l.toArray (l.drop (n + 1)) (A1.after g) (fun A' _ => Into fr A' (Q .normal))) :
    Tri P fr (.region id l.toArray false) A Q := by
  have e : l.take n ++ o :: l.drop (n + 1) = l := by
    obtain ⟨hn, he⟩ := List.getElem?_eq_some_iff.1 hl
    rw [← he, List.getElem_cons_drop, List.take_append_drop]
  have := t_regionY (P := P) (fr := fr) (A := A) (Q := Q) (id := id) (l1 := l.take n) (l2 := l.drop (n + 1)) (o := o) hkd
  rw [e] at this
  exact this h
end
section
variable {P : Program} {fr : Fr} {ops : Array Oper} {A : As} {rest : List Oper} {K : As → List (As × Fx) → Prop} {d : Nat} {t ty' : TypeId} {p : String} {e : Array Edge} {x : Operand}
theorem mvM {tg : Nat} (hx : A.op fr x = .mp tg) (h : TOps P fr ops rest (A.set d (.mp tg)) fun A' l' => K A' ((A, { d := some d, ty := .mp tg, rs := opR x }) :: l')) : TOps P fr ops (⟨some d, .move x, t, p, e, none⟩ :: rest) A K := r_move hx h
theorem asM {tg : Nat} (hx : A.op fr x = .mp tg) (h : TOps P fr ops rest (A.set d (.mp tg)) fun A' l' => K A' ((A, { d := some d, ty := .mp tg, rs := opR x }) :: l')) : TOps P fr ops (⟨some d, .assign x, t, p, e, none⟩ :: rest) A K := r_assign hx h
theorem mvMP {κ β : Type} [DecidableEq κ] {enc : κ → Value} {V : VT β} {kvs : List (κ × β)} (hx : A.op fr x = .pm enc V kvs) (h : TOps P fr ops rest (A.set d (.pm enc V kvs)) fun A' l' => K A' ((A, { d := some d, ty := .pm enc V kvs, rs := opR x }) :: l')) : TOps P fr ops (⟨some d, .move x, t, p, e, none⟩ :: rest) A K := r_move hx h
theorem asMP {κ β : Type} [DecidableEq κ] {enc : κ → Value} {V : VT β} {kvs : List (κ × β)} (hx : A.op fr x = .pm enc V kvs) (h : TOps P fr ops rest (A.set d (.pm enc V kvs)) fun A' l' => K A' ((A, { d := some d, ty := .pm enc V kvs, rs := opR x }) :: l')) : TOps P fr ops (⟨some d, .assign x, t, p, e, none⟩ :: rest) A K := r_assign hx h
end
section
variable {P : Program} {A : As} {fn : Func} {n : Nat} {w0 : World} {M0 : Tags} [T : Tab P]
theorem i_rcella_eq {α : Type} {E : El α} {xs ys : List α} {tm ty tg Tb : Nat} {ti : TI} (e : xs = ys) (hr : fn.results = #[.cell tm ty]) (ht : Nat.blt tm n = true) (hx : A.slots tm = .ptr tg 0) (hc : A.tag tg = some (.vec E Tb xs)) (h1 : Tag1 tg) (hT : T.tab[ty]? = some ti) (ha : ti.k.agg = true) (hsz : xs.length * E.size = ti.size) (hne : xs ≠ []) : Into ⟨n, w0, M0, [], .plain⟩ A (bodyPost P fn (retPost w0 M0 (.arr E ys)) .ret) := by
  subst e; exact i_rcella hr ht hx hc h1 hT ha hsz hne
end
end Go.T

namespace Go.T
open Go Go.RowKit
section
variable {P : Program} {fr : Fr} {ops : Array Oper} {A : As} {rest : List Oper} {K : As → List (As × Fx) → Prop} {d : Nat} {t ty' : TypeId} {p : String} {e : Array Edge} [T : Tab P]
variable {α β : Type} {E : El α} {E' : El β} {x y : Operand} {tg off Tb : Nat} {ti te tf : TI} {ty : Ty} {o z : α}
theorem one_flat {α : Type} (E : El α) (o : α) : [o].flatMap E.tys = E.tys o := by simp
theorem r_load_ob (hx : A.op fr x = .ptr tg off) (hc : A.tag tg = some (.vec E Tb [o])) (h1 : Tag1 tg) (hT : T.tab[ty']? = some ti) (ha : ti.k.agg = false) (hl : (E.tys o)[off]? = some ty)
    (h : TOps P fr ops rest (A.set d ty) fun A' l => K A' ((A, { d := some d, ty := ty, rs := opR x, rt := [tg] }) :: l)) : TOps P fr ops (⟨some d, .load ty' x, t, p, e, none⟩ :: rest) A K :=
  tops_pure (opT_pure rfl rfl fun a w M wf hr ht => by
    have := op_den (x := x) (fun _ h => h) hr
    rw [hx] at this
    obtain ⟨b, hb, e⟩ := this
    obtain ⟨v, hv, hd⟩ := vec_cell wf h1 hb (vec_den hc w M ht) (by rw [one_flat]; exact hl)
    exact ⟨v, by simp [execOp, e, run_load1 hT ha hv], hd⟩) h
theorem cells_take {l : List Ty} {off n : Nat} {w : World} {M : Tags} {b q : Nat} (h : ∀ (i : Nat) (t : Ty), l[i]? = some t → ∃ v, w.cell? ⟨b, q + i, none⟩ = some v ∧ t.den w M v) {m : List Ty} (hm : (l.drop off).take n = m) (hn : m.length = n) :
    ∃ cs : List Value, cs.length = n ∧ dens w M m cs ∧ ∀ j v, cs[j]? = some v → w.cell? ⟨b, q + off + j, none⟩ = some v := by
  have hget : ∀ (i : Nat) (t : Ty), (l.drop off)[i]? = some t → ∃ u, w.cell? ⟨b, q + off + i, none⟩ = some u ∧ t.den w M u := fun i t hi => by
    rw [List.getElem?_drop] at hi
    obtain ⟨v, hv, hd⟩ := h _ _ hi
    exact ⟨v, by rw [Nat.add_assoc]; exact hv, hd⟩
  have hle : n ≤ (l.drop off).length := by
    have := congrArg List.length hm
    rw [List.length_take, hn] at this; omega
  obtain ⟨cs, h1, h2, h3⟩ := op_cells hget n hle
  exact ⟨cs, h1, hm ▸ h2, h3⟩
theorem r_store_ob (hx : A.op fr x = .ptr tg off) (hc : A.tag tg = some (.vec E Tb [o])) (h1 : Tag1 tg) (hT : T.tab[ty']? = some ti) (hsz : ti.size = 1) (hy : A.op fr y = ty) (ho : ty.one = true) (hoff : off < E.size) (hdt : disj ty.cdeps [tg] = true) (hl : (E.tys o).set off ty = E.tys z)
    (h : TOps P fr ops rest (A.after { d := none, S := [tg], sets := [(tg, .vec E Tb [z])], rs := opR x ++ opR y, rt := [tg] }) fun A' l'' => K A' ((A, { d := none, S := [tg], sets := [(tg, .vec E Tb [z])], rs := opR x ++ opR y, rt := [tg] }) :: l'')) :
    TOps P fr ops (⟨none, .store ty' x y, t, p, e, none⟩ :: rest) A K := by
  have hin : Inhabited α := ⟨o⟩
  exact r_store_vec (E := E) (xs := [o]) (i := 0) (o := off) (z := z) (by rw [hx]; congr 1; omega) hc h1 hT hsz hy ho (by simp) hoff hdt (by have : nth [o] 0 = o := rfl; rw [this]; exact hl) h
def dAo (E : El α) (o : α) (w : World) (M : Tags) (v : Value) : Prop := ∃ cs : Array Value, v = .agg cs ∧ dens w M (E.tys o) cs.toList
def Ty.ao (E : El α) (o : α) : Ty :=
  { den := dAo E o, mono := fun le _ _ ⟨cs, e, h⟩ => ⟨cs, e, dens_mono le (by rw [E.nodeps]; intro _ h; cases h) (by rw [E.nocdeps]; intro _ h; cases h) h⟩ }
theorem r_buildO (E : El α) (o : α) {parts : Array (Nat × Operand)} {fs : List (Nat × Nat)} {ls : List (Nat × List Ty)} (hT : T.tab[ty']? = some ti) (hk : ti.k = .struct fs) (hz : ti.zero ≠ []) (hfs : (fs.all fun f => (T.tab[f.2]?).isSome) = true) (hp : Parts A fr parts.toList ls) (hf : fillT (placesOf T.tab fs) (ti.zero.map Ty.ofVal) ls = some (E.tys o))
    (h : TOps P fr ops rest (A.set d (.ao E o)) fun A' l' => K A' ((A, { d := some d, ty := .ao E o, rs := parts.toList.flatMap fun x => opR x.2 }) :: l')) : TOps P fr ops (⟨some d, .build ty' parts, t, p, e, none⟩ :: rest) A K := by
  have key : TOps P fr ops [⟨some d, .build ty' parts, t, p, e, none⟩] A fun _ l => ∃ f, l = [(A, f)] ∧ f = { d := some d, ty := .agg (E.tys o), rs := parts.toList.flatMap fun x => opR x.2 } := r_build hT hk hz hfs hp hf (r_nil ⟨_, rfl, rfl⟩)
  obtain ⟨f, hop, f', hl, hf'⟩ := key
  have e1 : f = f' := by injection hl with h1 _; injection h1
  subst e1; subst hf'
  obtain ⟨a1, a2, a3, a4, a5⟩ := hop
  refine ⟨{ d := some d, ty := .ao E o, rs := parts.toList.flatMap fun x => opR x.2 }, ⟨a1, a2, a3, a4, fun a w M wf hs hr ht => ?_⟩, h⟩
  exact a5 a w M wf hs hr ht
theorem r_box_ob (o : α) (hx : A.op fr x = .ao E o) (hp : fr.pass.contains (d + 1) = false)
    (h : TOps P fr ops rest (A.after { d := some d, ty := .ptr (d + 1) 0, K := [d + 1], sets := [(d + 1, .vec E ty' [o])], rs := opR x }) fun A' l' => K A' ((A, { d := some d, ty := .ptr (d + 1) 0, K := [d + 1], sets := [(d + 1, .vec E ty' [o])], rs := opR x }) :: l')) :
    TOps P fr ops (⟨some d, .box ty' x, t, p, e, none⟩ :: rest) A K := by
  have _ := T
  refine ⟨_, opT_mem rfl rfl (by simp) (by simp) (by simp at hp ⊢; exact hp) fun a w M wf hr _ => ?_, h⟩
  have hd := op_den (x := x) (fun _ h => h) hr
  rw [hx] at hd
  obtain ⟨cs, ex, hds⟩ := hd
  obtain ⟨h1, h2, h3⟩ := le_alloc wf (.cells cs ty') (d + 1)
  refine ⟨.pointer (some ⟨w.heap.size, 0, none⟩), w.alloc (.cells cs ty'), ?_, _, h1, h2, ⟨_, h3, rfl⟩, ?_⟩
  · simp [execOp, Instr.box, newVar, newRow, newObj, Sem.run, ex, Value.cells]
  · intro x hx
    simp only [List.mem_singleton] at hx
    subst hx
    refine .inr ⟨w.heap.size, cs, h3, alloc_new _ _, ?_⟩
    have hlen := dens_len hds
    rw [one_flat, ← hlen, List.take_length]
    exact dens_mono h2 (by rw [E.nodeps]; intro _ h; cases h) (by intro _ _ h; cases h) hds
def dPe (E : El α) (o : α) (off : Nat) (w : World) (M : Tags) (v : Value) : Prop := ∃ b q, v = .pointer (some ⟨b, q + off, none⟩) ∧ pubAt w M b q (E.tys o)
def Ty.pe (E : El α) (o : α) (off : Nat) : Ty :=
  ⟨dPe E o off, [], [], fun le _ _ ⟨b, q, e, h⟩ => ⟨b, q, e, pubAt_mono le (by rw [E.nodeps]; intro _ h; cases h) (by rw [E.nocdeps]; intro _ h; cases h) h⟩, true, fun _ ⟨_, _, e, _⟩ => e ▸ rfl⟩
theorem r_load_pe (hx : A.op fr x = .pe E o off) (hT : T.tab[ty']? = some ti) (ha : ti.k.agg = false) (hl : (E.tys o)[off]? = some ty)
    (h : TOps P fr ops rest (A.set d ty) fun A' l => K A' ((A, { d := some d, ty := ty, rs := opR x }) :: l)) : TOps P fr ops (⟨some d, .load ty' x, t, p, e, none⟩ :: rest) A K :=
  tops_pure (opT_pure (rt := []) rfl rfl fun a w M _ hr _ => by
    have := op_den (x := x) (fun _ h => h) hr
    rw [hx] at this
    obtain ⟨b, q, e, hp⟩ := this
    obtain ⟨v, hv, hd⟩ := hp.2.2 off ty hl
    exact ⟨v, by simp [execOp, e, run_load1 hT ha hv], hd⟩) h
theorem r_load_peA {ys : List β} (hx : A.op fr x = .pe E o off) (hT : T.tab[ty']? = some ti) (ha : ti.k.agg = true) (hm : ((E.tys o).drop off).take ti.size = ys.flatMap E'.tys) (hn : (ys.flatMap E'.tys).length = ti.size)
    (h : TOps P fr ops rest (A.set d (.arr E' ys)) fun A' l => K A' ((A, { d := some d, ty := .arr E' ys, rs := opR x }) :: l)) : TOps P fr ops (⟨some d, .load ty' x, t, p, e, none⟩ :: rest) A K :=
  tops_pure (opT_pure (rt := []) rfl rfl fun a w M _ hr _ => by
    have := op_den (x := x) (fun _ h => h) hr
    rw [hx] at this
    obtain ⟨b, q, e, hp⟩ := this
    obtain ⟨cs, g1, g2, g3⟩ := cells_take hp.2.2 hm hn
    exact ⟨.agg cs.toArray, by simp only [execOp, e]; rw [Sem.run_bind, run_loadN (off := q + off) hT ha g1 g3]; rfl, cs.toArray, rfl, by simpa using g2⟩) h
theorem r_nilCheck_pe (hx : A.op fr x = .pe E o off) (h : TOps P fr ops rest (A.set d (.pe E o off)) fun A' l' => K A' ((A, { d := some d, ty := .pe E o off, rs := opR x }) :: l')) : TOps P fr ops (⟨some d, .nilCheck x, t, p, e, none⟩ :: rest) A K :=
  tops_pure (opT_pure (rt := []) rfl rfl fun a w M _ hr _ => by
    have _ := T
    have := op_den (x := x) (fun _ h => h) hr
    rw [hx] at this
    have hd := this
    obtain ⟨b, q, e, hp⟩ := this
    exact ⟨a.eval x, by simp [execOp, e], hd⟩) h
theorem r_field_pe {f : Nat} {fs : List (Nat × Nat)} {fo ft : Nat} (hx : A.op fr x = .pe E o off) (hT : T.tab[ty']? = some ti) (hk : ti.k = .struct fs) (hf : fs[f]? = some (fo, ft)) (hF : T.tab[ft]? = some tf) (h0 : tf.size ≠ 0)
    (h : TOps P fr ops rest (A.set d (.pe E o (off + fo))) fun A' l' => K A' ((A, { d := some d, ty := .pe E o (off + fo), rs := opR x }) :: l')) : TOps P fr ops (⟨some d, .fieldAddr ty' x f, t, p, e, none⟩ :: rest) A K :=
  tops_pure (opT_pure (rt := []) rfl rfl fun a w M _ hr _ => by
    have := op_den (x := x) (fun _ h => h) hr
    rw [hx] at this
    obtain ⟨b, q, ex, hp⟩ := this
    refine ⟨_, by simp only [execOp, ex, Sem.run_bind, run_field hT hk hf hF h0]; rfl, b, q, by simp [Nat.add_assoc], hp⟩) h
theorem r_index_pe {n : Nat} {k : IntKind} {i : Nat} {el : Nat} (hx : A.op fr x = .pe E o off) (hy : A.op fr y = .int k i) (hT : T.tab[ty']? = some ti) (hk : ti.k = .array n el) (hE : T.tab[el]? = some te) (h1 : i < n)
    (h : TOps P fr ops rest (A.set d (.pe E o (off + i * te.size))) fun A' l' => K A' ((A, { d := some d, ty := .pe E o (off + i * te.size), rs := opR x ++ opR y }) :: l')) : TOps P fr ops (⟨some d, .indexAddr ty' x y, t, p, e, none⟩ :: rest) A K :=
  tops_pure (opT_pure (rt := []) rfl rfl fun a w M _ hr _ => by
    obtain ⟨hdx, hdy⟩ := op2 hr
    rw [hx] at hdx; rw [hy] at hdy
    obtain ⟨b, q, ex, hp⟩ := hdx
    have ey : a.eval y = .int k i := hdy
    refine ⟨_, by simp only [execOp, ex, ey, Sem.run_bind, run_index_array hT hk hE (Int.natCast_nonneg i) (show (i : Int).toNat < n from h1)]; rfl, b, q, by simp [Nat.add_assoc], hp⟩) h
theorem mvPe (hx : A.op fr x = .pe E o off) (h : TOps P fr ops rest (A.set d (.pe E o off)) fun A' l' => K A' ((A, { d := some d, ty := .pe E o off, rs := opR x }) :: l')) : TOps P fr ops (⟨some d, .move x, t, p, e, none⟩ :: rest) A K := by
  have _ := T
  exact r_move hx h
theorem asPe (hx : A.op fr x = .pe E o off) (h : TOps P fr ops rest (A.set d (.pe E o off)) fun A' l' => K A' ((A, { d := some d, ty := .pe E o off, rs := opR x }) :: l')) : TOps P fr ops (⟨some d, .assign x, t, p, e, none⟩ :: rest) A K := by
  have _ := T
  exact r_assign hx h
theorem pub_ob {s : Nat} (hx : A.slots s = .ptr tg off) (hc : A.tag tg = some (.vec E Tb [o])) (h1 : Tag1 tg) : PubTo A tg s (.pe E o off) := by
  intro w M v wf ht hv
  rw [hx] at hv
  obtain ⟨b, hb, e⟩ := hv
  have hv := ht _ (tag_mem hc)
  refine ⟨b, 0, by simpa using e, by simp [pubTag, hb], wf.lt b _ hb, fun i t hi => ?_⟩
  obtain ⟨u, hu, hd⟩ := vec_cell (E := E) (Tb := Tb) (xs := [o]) wf h1 hb hv (by rw [one_flat]; exact hi)
  refine ⟨u, by rw [Nat.zero_add]; exact hu, t.mono (pubTag_le (w := w) (tg := tg)) ?_ ?_ hd⟩
  · intro u hu
    have : u ∈ depsOf (E.tys o) := List.mem_flatMap.2 ⟨t, List.mem_of_getElem? hi, hu⟩
    rw [E.nodeps] at this; cases this
  · intro u _ h; cases h
end
theorem Ctr.mono {P : Program} {f : FuncId} {args : List Ty} {r r' : Ty} (h : Ctr P f args r) (hs : r.Sub r') : Ctr P f args r' :=
  ⟨h.1, fun w M vs wf hM hd => (h.2 w M vs wf hM hd).mono fun _ _ ⟨v, M', e, a, b, c⟩ => ⟨v, M', e, a, b, hs _ _ _ c⟩⟩
section
variable {P : Program} {fr : Fr} {A : As} {Q : Exit → Act → World → Prop} {x y : Code}
theorem t_cond_tt {c : Operand} {b : Bool} (hc : A.op fr c = .bool b) (hb : b = true) (h1 : Tri P fr x A Q) : Tri P fr (.cond c x y) A Q := t_cond hc (fun _ => h1) (fun h => by rw [hb] at h; cases h)
theorem t_cond_ff {c : Operand} {b : Bool} (hc : A.op fr c = .bool b) (hb : b = false) (h1 : Tri P fr y A Q) : Tri P fr (.cond c x y) A Q := t_cond hc (fun h => by rw [hb] at h; cases h) (fun _ => h1)
end
end Go.T

namespace Go.T
open Go Go.RowKit
def Ty.nd (t : Ty) (h1 : t.deps = []) (h2 : t.cdeps = []) : Ty := ⟨t.den, [], [], fun le _ _ h => t.mono le (by rw [h1]; intro _ h; cases h) (by rw [h2]; intro _ h; cases h) h, t.one, t.isOne⟩
theorem cal_nd {P : Program} {t : Ty} {args : List Ty} {res : Ty} (h1 : t.deps = []) (h2 : t.cdeps = []) (h : Cal P t args res) : Cal P (t.nd h1 h2) args res := h
def dWhen (c : Bool) (t : Ty) (w : World) (M : Tags) (v : Value) : Prop := v.oneCell' = true ∧ (c = true → t.den w M v)
def Ty.when (c : Bool) (t : Ty) : Ty := { den := dWhen c t, deps := t.deps, cdeps := t.cdeps, mono := fun le hk hs h => ⟨h.1, fun hc => t.mono le hk hs (h.2 hc)⟩, one := true, isOne := fun _ h => h.1 }
theorem Ty.when_sub {c : Bool} {t : Ty} (h : c = true) : (Ty.when c t).Sub t := fun _ _ _ hd => hd.2 h
theorem Ty.sub_when {c : Bool} {s t : Ty} (ho : s.one = true) (h : c = true → s.Sub t) : s.Sub (Ty.when c t) := fun _ _ _ hd => ⟨s.isOne ho hd, fun hc => h hc _ _ _ hd⟩
theorem Ty.pp_sub1 {s t : Ty} (h : s.Sub t) : (Ty.pp [s]).Sub (Ty.pp [t]) := fun w M v ⟨b, off, e, h1, h2, h3⟩ => ⟨b, off, e, h1, h2, fun i u hu => by
  cases i with
  | zero =>
    simp at hu; subst hu
    obtain ⟨x, hx, hd⟩ := h3 0 s rfl
    exact ⟨x, hx, h _ _ _ hd⟩
  | succ i => simp at hu⟩
theorem Ty.tup2_sub {a b c d : Ty} (h1 : a.Sub c) (h2 : b.Sub d) : (Ty.tup [a, b]).Sub (Ty.tup [c, d]) := fun _ _ _ ⟨cs, e, hd⟩ => ⟨cs, e, by
  cases h : cs.toList with
  | nil => rw [h] at hd; exact hd.elim
  | cons x l => cases l with
    | nil => rw [h] at hd; exact hd.2.elim
    | cons y l => rw [h] at hd; exact ⟨h1 _ _ _ hd.1, h2 _ _ _ hd.2.1, hd.2.2⟩⟩
section
variable {P : Program} {fr : Fr} {ops : Array Oper} {A : As} {rest : List Oper} {K : As → List (As × Fx) → Prop} {d : Nat} {t ty' : TypeId} {p : String} {e : Array Edge}
variable {α β : Type} {E : El α} {E' : El β} {x y : Operand} {tg off Tb : Nat} {ti te tf : TI} {ty : Ty} {o z : α} {xs : List α}
def dPa (E : El α) (xs : List α) (off : Nat) (w : World) (M : Tags) (v : Value) : Prop := ∃ b q, v = .pointer (some ⟨b, q + off, none⟩) ∧ pubAt w M b q (xs.flatMap E.tys)
def Ty.pa (E : El α) (xs : List α) (off : Nat) : Ty :=
  ⟨dPa E xs off, [], [], fun le _ _ ⟨b, q, e, h⟩ => ⟨b, q, e, pubAt_mono le (by rw [E.flat_deps]; intro _ h; cases h) (by rw [E.flat_cdeps]; intro _ h; cases h) h⟩, true, fun _ ⟨_, _, e, _⟩ => e ▸ rfl⟩
theorem r_box_arr (hx : A.op fr x = .arr E xs) (h : TOps P fr ops rest (A.set d (.pa E xs 0)) fun A' l' => K A' ((A, { d := some d, ty := .pa E xs 0, rs := opR x }) :: l')) : TOps P fr ops (⟨some d, .box ty' x, t, p, e, none⟩ :: rest) A K := by
  refine ⟨_, opT_mem (f := { d := some d, ty := .pa E xs 0, rs := opR x }) rfl rfl (by simp) (by simp) (by simp) fun a w M wf hr _ => ?_, h⟩
  have hd := op_den (x := x) (fun _ h => h) hr
  rw [hx] at hd
  obtain ⟨cs, ex, hds⟩ := hd
  obtain ⟨h1, h2, _⟩ := le_new wf (.cells cs ty')
  refine ⟨.pointer (some ⟨w.heap.size, 0, none⟩), w.alloc (.cells cs ty'), ?_, M, h1, h2, ⟨_, 0, rfl, ?_⟩, by simp⟩
  · simp [execOp, Instr.box, newVar, newRow, newObj, Sem.run, ex, Value.cells]
  · exact pub_new (T := ty') wf hds
theorem asW {c : Bool} {ty : Ty} (hx : A.op fr x = .when c ty) (h : TOps P fr ops rest (A.set d (.when c ty)) fun A' l' => K A' ((A, { d := some d, ty := .when c ty, rs := opR x }) :: l')) : TOps P fr ops (⟨some d, .assign x, t, p, e, none⟩ :: rest) A K := r_assign hx h
variable [T : Tab P]
theorem r_load_pa [Inhabited α] {i : Nat} (hx : A.op fr x = .pa E xs off) (hT : T.tab[ty']? = some ti) (ha : ti.k.agg = false) (he : off = i * E.size) (hi : i < xs.length) (hl : (E.tys (nth xs i))[0]? = some ty)
    (h : TOps P fr ops rest (A.set d ty) fun A' l => K A' ((A, { d := some d, ty := ty, rs := opR x }) :: l)) : TOps P fr ops (⟨some d, .load ty' x, t, p, e, none⟩ :: rest) A K :=
  tops_pure (opT_pure (rt := []) rfl rfl fun a w M _ hr _ => by
    have := op_den (x := x) (fun _ h => h) hr
    rw [hx] at this
    obtain ⟨b, q, e, hp⟩ := this
    obtain ⟨v, hv, hd⟩ := hp.2.2 off ty (by rw [he]; exact flat_elem E xs hi 0 ty hl)
    exact ⟨v, by simp [execOp, e, run_load1 hT ha hv], hd⟩) h
theorem r_index_pa {n : Nat} {k : IntKind} {i : Nat} {el : Nat} (hx : A.op fr x = .pa E xs off) (hy : A.op fr y = .int k i) (hT : T.tab[ty']? = some ti) (hk : ti.k = .array n el) (hE : T.tab[el]? = some te) (h1 : i < n)
    (h : TOps P fr ops rest (A.set d (.pa E xs (off + i * te.size))) fun A' l' => K A' ((A, { d := some d, ty := .pa E xs (off + i * te.size), rs := opR x ++ opR y }) :: l')) : TOps P fr ops (⟨some d, .indexAddr ty' x y, t, p, e, none⟩ :: rest) A K :=
  tops_pure (opT_pure (rt := []) rfl rfl fun a w M _ hr _ => by
    obtain ⟨hdx, hdy⟩ := op2 hr
    rw [hx] at hdx; rw [hy] at hdy
    obtain ⟨b, q, ex, hp⟩ := hdx
    have ey : a.eval y = .int k i := hdy
    refine ⟨_, by simp only [execOp, ex, ey, Sem.run_bind, run_index_array hT hk hE (Int.natCast_nonneg i) (show (i : Int).toNat < n from h1)]; rfl, b, q, by simp [Nat.add_assoc], hp⟩) h
theorem r_index_peI {n : Nat} {k : IntKind} {i : Int} {el : Nat} (hx : A.op fr x = .pe E o off) (hy : A.op fr y = .int k i) (hT : T.tab[ty']? = some ti) (hk : ti.k = .array n el) (hE : T.tab[el]? = some te) (h0 : 0 ≤ i) (h1 : i.toNat < n)
    (h : TOps P fr ops rest (A.set d (.pe E o (off + i.toNat * te.size))) fun A' l' => K A' ((A, { d := some d, ty := .pe E o (off + i.toNat * te.size), rs := opR x ++ opR y }) :: l')) : TOps P fr ops (⟨some d, .indexAddr ty' x y, t, p, e, none⟩ :: rest) A K :=
  tops_pure (opT_pure (rt := []) rfl rfl fun a w M _ hr _ => by
    obtain ⟨hdx, hdy⟩ := op2 hr
    rw [hx] at hdx; rw [hy] at hdy
    obtain ⟨b, q, ex, hp⟩ := hdx
    have ey : a.eval y = .int k i := hdy
    refine ⟨_, by simp only [execOp, ex, ey, Sem.run_bind, run_index_array hT hk hE h0 h1]; rfl, b, q, by simp [Nat.add_assoc], hp⟩) h
theorem r_shrI {ty2 : TypeId} {a : Nat} {b : Int} (hx : A.op fr x = .int .i64 (a : Nat)) (hy : A.op fr y = .int .i64 b) (h0 : 0 ≤ b) (h1 : b ≤ 63)
    (h : TOps P fr ops rest (A.set d (.int .i64 ((a >>> b.toNat : Nat) : Int))) fun A' l' => K A' ((A, { d := some d, ty := .int .i64 ((a >>> b.toNat : Nat) : Int), rs := opR x ++ opR y }) :: l')) : TOps P fr ops (⟨some d, .binOp .shr ty' x y ty2, t, p, e, none⟩ :: rest) A K :=
  by
  have _ := T
  exact r_shrN (b := b.toNat) hx (by rw [hy, Int.toNat_of_nonneg h0]) (by omega) h
end
theorem ret_nil_eq {α : Type} {E : El α} {xs : List α} (e : xs = []) : RetSub (Ty.ex (.slice none 0 0)) (Ty.sl E xs) := e ▸ ret_nil
theorem vi64_zero (w : World) (M : Tags) : (VI64.ty 0).den w M (.int .i64 0) := rfl
def SubL : List Ty → List Ty → Prop
  | [], [] => True
  | s :: ss, t :: ts => s.Sub t ∧ SubL ss ts
  | _, _ => False
theorem subL_dens {w : World} {M : Tags} : ∀ {ss ts : List Ty} {vs : List Value}, SubL ss ts → dens w M ss vs → dens w M ts vs
  | [], [], [], _, _ => trivial
  | _ :: _, _ :: _, _ :: _, ⟨h, h'⟩, ⟨h1, h2⟩ => ⟨h _ _ _ h1, subL_dens h' h2⟩
theorem Ctr.args {P : Program} {f : FuncId} {a a' : List Ty} {r : Ty} (h : Ctr P f a r) (hs : SubL a' a) : Ctr P f a' r :=
  ⟨h.1, fun w M vs wf hM hd => h.2 w M vs wf hM (subL_dens hs hd)⟩
section
variable {P : Program} {A : As} {fn : Func} {n m : Nat} {w0 : World} {M0 : Tags} {J : Nat → World → Tags → Prop} {Jx : World → Tags → Prop} {resD resS : Ty}
theorem y_ret0e {k : Nat} {hJ : ∀ k, Cb (J k)} (e : k = m) (hr : fn.results = #[]) (ht : A.tag 0 = some (CJ (hJ k))) : Into ⟨n, w0, M0, [], .iter⟩ A (bodyPost P fn (iterPost m J Jx (Ty.tup []) resS) .ret) := by
  subst e; exact y_ret0 hr ht
end
end Go.T

namespace Go.Proofs.Ytifgbnbkimcchaa
open Go Go.T
attribute [local irreducible] dInt dBool dSl dPp dPtr dAgg dTup dClo dAny dEx dStr dGd dCells dVec dVs dRow dOp nth Tri Into TOps Ctr bodyPost Exit.then Exit.inBlock Code.wp Code.wpIn dWhen dPa dPe dAo dArr dMp dPm dMap dCJ CtrG CtrI OpY keepPost iterPost bodyPostM roundQ
set_option maxRecDepth 100000 in
theorem c_ahead (f : Flr) (hs : f.Small) (hf : f.Ruled) : Ctr Try.prog 107 [flrT f] (Ty.arr N64 (aheadP f)) := by
  refine fn_intro Try.func107 rfl (by decide) Try.ntmps107 (by exact Nat.le_of_ble_eq_true rfl) fun w0 M0 => ?_
  have hs1 := hs.bears; have hs2 := hs.bins; have hs3 := hs.turnings; have hs4 := hs.rules
  refine t_seq ?_
  refine t_region ?_
  refine r_box_agg rfl ?_
  refine r_alloc rfl (by exact List.cons_ne_nil _ _) rfl ?_
  refine r_nil ?_
  refine i_then ?_
  refine t_seq ?_
  refine t_region ?_
  refine r_allocV (E := N64) (xs := List.replicate 8 0) rfl (by exact List.cons_ne_nil _ _) rfl rfl ?_
  refine r_nil ?_
  refine i_then ?_
  refine t_block ?_
  refine t_loop (fun (x : {x : Nat × List Nat // iterR f x.1 x.2 = aheadP f ∧ Sets x.2 ∧ 2040 < x.1 + x.2.sum}) => live [(1, Ty.pp (flrTys f)), (2, Ty.ptr 3 0), (3, Ty.ptr 4 0)] [(3, Cont.cells 133 [Ty.int .i64 0, Ty.int .i64 0, Ty.int .i64 0, Ty.int .i64 0, Ty.int .i64 0, Ty.int .i64 0, Ty.int .i64 0, Ty.int .i64 0]), (4, Cont.vec N64 133 x.1.2)]) (fun x => x.1.1) (⟨(2041, List.replicate 8 0), rfl, sets_start, by decide⟩) ?_ fun x => ?_
  · (refine Ent.mk' ?_ ?_ <;> (repeat' (first | exact allSub_zero | exact allTags_nil | refine allSub_succ' ?_ (Ty.sub_any _) | refine allSub_succ' ?_ (Ty.sub_refl _) | refine allTags_cons rfl (Cont.sub_refl _) ?_)))
  ·
    obtain ⟨hx1, hx2, hx3⟩ := x.2
    have hxl := hx2.len
    refine t_block ?_
    refine t_seq ?_
    refine t_region ?_
    refine r_load_vecN rfl rfl (by decide) rfl rfl (by rw [hxl]; rfl) (fun e => by rw [e] at hxl; cases hxl) ?_
    refine r_alloc rfl (by exact List.cons_ne_nil _ _) rfl ?_
    refine r_store_arr rfl rfl (by decide) rfl rfl (by rw [hxl]; rfl) rfl ?_
    refine r_nil ?_
    refine i_then ?_
    refine t_seq ?_
    refine t_seq ?_
    refine t_region ?_
    refine r_field_pp rfl rfl rfl rfl rfl (by decide) ?_
    refine r_load_pp rfl rfl rfl rfl ?_
    refine r_len rfl rfl rfl ?_
    refine mvI rfl ?_
    refine r_nil ?_
    refine i_then ?_
    refine t_block ?_
    refine t_loop (fun (k : Nat) => live [(1, Ty.pp (flrTys f)), (2, Ty.ptr 3 0), (3, Ty.ptr 4 0), (4, Ty.ptr 5 0), (9, Ty.sl RulE f.rules), (10, Ty.int .i64 f.rules.length), (11, Ty.int .i64 (k : Nat))] [(3, Cont.cells 133 [Ty.int .i64 0, Ty.int .i64 0, Ty.int .i64 0, Ty.int .i64 0, Ty.int .i64 0, Ty.int .i64 0, Ty.int .i64 0, Ty.int .i64 0]), (4, Cont.vec N64 133 ((f.rules.take k).foldl stepR x.1.2)), (5, Cont.vec N64 133 x.1.2)]) (fun k => f.rules.length - k) (0) ?_ fun k => ?_
    · (refine Ent.mk' ?_ ?_ <;> (repeat' (first | exact allSub_zero | exact allTags_nil | refine allSub_succ' ?_ (Ty.sub_any _) | refine allSub_succ' ?_ (Ty.sub_refl _) | refine allTags_cons rfl (Cont.sub_refl _) ?_)))
    ·
      refine t_seq ?_
      refine t_region ?_
      refine r_bin rfl rfl rfl ?_
      refine r_nil ?_
      refine i_then ?_
      refine t_seq ?_
      refine t_cond_dec rfl (fun hc1 => ?_) (fun hc1 => ?_)
      ·
        refine t_skip ?_
        refine i_then ?_
        refine t_seq ?_
        refine t_block ?_
        refine t_seq ?_
        refine t_region ?_
        refine r_index_slN rfl rfl rfl rfl rfl rfl (by omega) ?_
        refine r_load_ppN rfl rfl rfl (by exact Nat.le_of_ble_eq_true rfl) ?_
        refine r_alloc rfl (by exact List.cons_ne_nil _ _) rfl ?_
        refine r_storeN rfl rfl (by decide) rfl rfl rfl rfl rfl rfl ?_
        refine r_nil ?_
        refine i_then ?_
        have hrk := hf.2 _ (nth_mem (xs := f.rules) (k := k) (by omega))
        have h8 := hf.1
        have hsk := (fold_grow (f.rules.take k) x.1.2 hx2 fun r hr => ruled8 hf r (List.mem_of_mem_take hr)).1
        have hlk := hsk.len
        have hb1 := hsk.nth (nth f.rules k).nxt.toNat
        have hb2 := hsk.nth (nth f.rules k).fst.toNat
        have hsh : 1 <<< (nth f.rules k).fst.toNat < 256 := by rw [Nat.shiftLeft_eq, Nat.one_mul]; exact (Nat.pow_lt_pow_right (by decide) (show (nth f.rules k).fst.toNat < 8 by omega) : 2 ^ _ < 2 ^ 8)
        have hor : nth ((f.rules.take k).foldl stepR x.1.2) (nth f.rules k).fst.toNat ||| 1 <<< (nth f.rules k).fst.toNat < 256 := Nat.or_lt_two_pow (n := 8) hb2 hsh
        refine t_draw mixed rfl ?_
        refine r_field_ptr rfl rfl rfl rfl rfl (by decide) ?_
        refine r_load_ptr rfl rfl (by decide) rfl rfl rfl ?_
        refine r_index_ptrI (n := 8) rfl rfl rfl rfl rfl (by omega) (by omega) ?_
        refine r_load_vecA rfl rfl rfl (by decide) rfl rfl (by omega) rfl ?_
        refine r_field_ptr rfl rfl rfl rfl rfl (by decide) ?_
        refine r_load_ptr rfl rfl (by decide) rfl rfl rfl ?_
        refine r_index_ptrI (n := 8) rfl rfl rfl rfl rfl (by omega) (by omega) ?_
        refine r_load_vecA rfl rfl rfl (by decide) rfl rfl (by omega) rfl ?_
        refine r_field_ptr rfl rfl rfl rfl rfl (by decide) ?_
        refine r_load_ptr rfl rfl (by decide) rfl rfl rfl ?_
        refine r_shlI (a := 1) rfl rfl (by omega) (by omega) (one_shl (by omega)) ?_
        refine r_orN rfl rfl (by omega) (Nat.lt_trans hsh (by decide)) ?_
        refine r_orN rfl rfl (by omega) (Nat.lt_trans hor (by decide)) ?_
        refine r_index_ptrI (n := 8) rfl rfl rfl rfl rfl (by omega) (by omega) ?_
        refine r_store_vecA (z := nth ((f.rules.take k).foldl stepR x.1.2) (nth f.rules k).nxt.toNat ||| (nth ((f.rules.take k).foldl stepR x.1.2) (nth f.rules k).fst.toNat ||| 1 <<< (nth f.rules k).fst.toNat)) rfl rfl rfl (by decide) rfl rfl (by exact (rfl : _ = Ty.int _ _)) rfl (by omega) (by decide) rfl rfl ?_
        refine r_nil ?_
        refine ⟨by kernel_rfl, ?_⟩
        refine i_block ?_
        refine i_then ?_
        refine t_region ?_
        refine r_add rfl rfl (by omega) (by omega) ?_
        refine mvI rfl ?_
        refine r_nil ?_
        refine i_round (k + 1) ?_ (by omega)
        (refine Ent.mk' ?_ ?_ <;> (repeat' (first | exact allSub_zero | exact allTags_nil | refine allSub_succ' ?_ (Ty.sub_any _) | refine allSub_succ' ?_ (Ty.sub_refl _) | refine allTags_cons rfl (Cont.sub_refl _) ?_ | refine allTags_cons rfl ?_ ?_)))
        all_goals skip
        exact Cont.sub_vec (by rw [take_nth (by omega), List.foldl_append]; rfl)
      ·
        refine t_exit ?_
        refine i_then_exit ?_
        refine i_then_exit ?_
        refine i_block_exit rfl ?_
        refine i_then ?_
        refine t_seq ?_
        have hsk := (fold_grow (f.rules.take k) x.1.2 hx2 fun r hr => ruled8 hf r (List.mem_of_mem_take hr)).1
        have hlk := hsk.len
        refine t_region ?_
        refine r_load_vecN rfl rfl (by decide) rfl rfl (by rw [hlk]; rfl) (fun e => by rw [e] at hlk; cases hlk) ?_
        refine r_load_vecN rfl rfl (by decide) rfl rfl (by rw [hxl]; rfl) (fun e => by rw [e] at hxl; cases hxl) ?_
        refine r_eqla (eqn133 _ _ hlk hxl) rfl rfl ?_
        refine r_nil ?_
        refine i_then ?_
        refine t_cond_dec rfl (fun hc2 => ?_) (fun hc2 => ?_)
        ·
          refine t_seq ?_
          refine t_region ?_
          refine r_load_vecN rfl rfl (by decide) rfl rfl (by rw [hlk]; rfl) (fun e => by rw [e] at hlk; cases hlk) ?_
          refine r_store_arr rfl rfl (by decide) rfl rfl (by rw [hlk]; rfl) rfl ?_
          refine r_nil ?_
          refine i_then ?_
          refine t_ret ?_
          refine i_block_ret ?_
          refine i_then_ret ?_
          refine i_block_ret ?_
          refine i_rcella_eq (hc2.trans ((iter_end hx2 hx3 (by have h := hc2; rw [List.take_of_length_le (by omega)] at h; exact h)).symm.trans hx1)) rfl rfl rfl rfl (by decide) rfl rfl (by rw [hlk]; rfl) (fun e => by rw [e] at hlk; cases hlk)
        ·
          refine t_skip ?_
          refine i_block ?_
          refine i_round (⟨(x.1.1 - 1, roundR f x.1.2), by obtain ⟨m, e1, e2, e3, e4⟩ := iter_next hf hx2 hx3 (fun e => hc2 (by rw [List.take_of_length_le (by omega)]; exact e)); exact ⟨by show iterR f (x.1.1 - 1) _ = _; rw [show x.1.1 - 1 = m by omega, ← e2]; exact hx1, e3, by show 2040 < x.1.1 - 1 + (roundR f x.1.2).sum; omega⟩⟩) ?_ (by show x.1.1 - 1 < x.1.1; have := sets_sum hx2; omega)
          (refine Ent.mk' ?_ ?_ <;> (repeat' (first | exact allSub_zero | exact allTags_nil | refine allSub_succ' ?_ (Ty.sub_any _) | refine allSub_succ' ?_ (Ty.sub_refl _) | refine allTags_cons rfl (Cont.sub_refl _) ?_ | refine allTags_cons rfl ?_ ?_)))
          all_goals skip
          exact Cont.sub_vec (congrArg (fun l => l.foldl stepR x.1.2) (List.take_of_length_le (by omega)))
end Go.Proofs.Ytifgbnbkimcchaa

namespace Go.Proofs.Ytifgbnbkimcchaa
open Go Go.T
structure Brd where
  f : Flr
  before : List Nat
  adds : List Int
  first : List Int
def brdTys (b : Brd) : List Ty := flrTys b.f ++ (b.before.flatMap N64.tys ++ (b.adds.flatMap I64.tys ++ b.first.flatMap I64.tys))
structure Brd.Sized (b : Brd) : Prop where
  before : b.before.length = 8
  adds : b.adds.length = 32
  first : b.first.length = 4
theorem n64_map : ∀ xs : List Nat, xs.flatMap N64.tys = xs.map fun n => Ty.int .i64 (n : Nat)
  | [] => rfl
  | x :: xs => by rw [List.flatMap_cons, n64_map xs]; rfl
theorem i64_map : ∀ xs : List Int, xs.flatMap I64.tys = xs.map fun n => Ty.int .i64 n
  | [] => rfl
  | x :: xs => by rw [List.flatMap_cons, i64_map xs]; rfl
theorem brdTys_eq (b : Brd) : brdTys b = flrTys b.f ++ ((b.before.map fun n => Ty.int .i64 (n : Nat)) ++ ((b.adds.map fun n => Ty.int .i64 n) ++ b.first.map fun n => Ty.int .i64 n)) := by
  unfold brdTys; rw [n64_map, i64_map, i64_map]
theorem map_nth {α : Type} [Inhabited α] {l : List α} (g : α → Ty) {k : Nat} (h : k < l.length) : (l.map g)[k]? = some (g (nth l k)) := by
  rw [List.getElem?_map, List.getElem?_eq_getElem h, nth_lt h]; rfl
theorem flrTys_len (f : Flr) : (flrTys f).length = 4 := rfl
theorem brd_before {b : Brd} (h : b.Sized) {i : Nat} (hi : i < 8) : (brdTys b)[4 + i]? = some (Ty.int .i64 (nth b.before i : Nat)) := by
  rw [brdTys_eq, List.getElem?_append_right (by rw [flrTys_len]; omega), flrTys_len, List.getElem?_append_left (by simp [h.before]; omega), show 4 + i - 4 = i by omega]
  exact map_nth _ (by rw [h.before]; exact hi)
theorem brd_adds {b : Brd} (h : b.Sized) {i : Nat} (hi : i < 32) : (brdTys b)[12 + i]? = some (Ty.int .i64 (nth b.adds i)) := by
  rw [brdTys_eq, List.getElem?_append_right (by rw [flrTys_len]; omega), flrTys_len, List.getElem?_append_right (by simp [h.before]; omega), List.getElem?_append_left (by simp [h.before, h.adds]; omega)]
  simp only [List.length_map, h.before]
  rw [show 12 + i - 4 - 8 = i by omega]
  exact map_nth _ (by rw [h.adds]; exact hi)
theorem brd_first {b : Brd} (h : b.Sized) {i : Nat} (hi : i < 4) : (brdTys b)[44 + i]? = some (Ty.int .i64 (nth b.first i)) := by
  rw [brdTys_eq, List.getElem?_append_right (by rw [flrTys_len]; omega), flrTys_len, List.getElem?_append_right (by simp [h.before]; omega), List.getElem?_append_right (by simp [h.before, h.adds]; omega)]
  simp only [List.length_map, h.before, h.adds]
  rw [show 44 + i - 4 - 8 - 32 = i by omega]
  exact map_nth _ (by rw [h.first]; exact hi)
theorem brd_len {b : Brd} (h : b.Sized) : (brdTys b).length = 48 := by rw [brdTys_eq]; simp [flrTys_len, h.before, h.adds, h.first]
theorem brd_set_adds {b : Brd} (h : b.Sized) {i : Nat} (hi : i < 32) (v : Int) : (brdTys b).set (12 + i) (Ty.int .i64 v) = brdTys { b with adds := b.adds.set i v } := by
  rw [brdTys_eq, brdTys_eq, List.set_append_right _ _ (by rw [flrTys_len]; omega), flrTys_len, List.set_append_right _ _ (by simp [h.before]; omega), List.set_append_left _ _ (by simp [h.before, h.adds]; omega)]
  simp only [List.length_map, h.before]
  rw [show 12 + i - 4 - 8 = i by omega, List.map_set]
theorem brd_set_first {b : Brd} (h : b.Sized) {i : Nat} (hi : i < 4) (v : Int) : (brdTys b).set (44 + i) (Ty.int .i64 v) = brdTys { b with first := b.first.set i v } := by
  rw [brdTys_eq, brdTys_eq, List.set_append_right _ _ (by rw [flrTys_len]; omega), flrTys_len, List.set_append_right _ _ (by simp [h.before]; omega), List.set_append_right _ _ (by simp [h.before, h.adds]; omega)]
  simp only [List.length_map, h.before, h.adds]
  rw [show 44 + i - 4 - 8 - 32 = i by omega, List.map_set]
def clashP (f : Flr) : Bool := (List.range 8).any fun t => (nth (aheadP f) t).testBit t
def checkP (f : Flr) : Int := if rightM f ≠ 0 then rightM f else if clashP f then 7 else 0
def openE (f : Flr) (bad : Bool) : Int := if checkP f ≠ 0 then checkP f else if bad then 1 else 0
structure Flr.Right (f : Flr) : Prop where
  ranged : f.Ranged
  named : f.Named
  ruled : f.Ruled
theorem right_right {f : Flr} (h : rightM f = 0) : f.Right := by
  unfold rightM at h
  split at h
  · cases h
  rename_i h1
  split at h
  · cases h
  rename_i h2
  split at h
  · cases h
  rename_i h3
  split at h
  · cases h
  rename_i h4
  have hr := ranged_right (Bool.eq_false_iff.2 h1) (Bool.eq_false_iff.2 h2) (Bool.eq_false_iff.2 h3)
  have h4 := Bool.eq_false_iff.2 h4
  simp only [right4, Bool.or_eq_false_iff, Bool.not_eq_false', List.all_eq_true, Bool.and_eq_true] at h4
  refine ⟨hr, fun t ht => ?_, ⟨hr.turnings, fun r hr => ?_⟩⟩
  · have := inB_true (h4.1 t ht).1; have := inB_true (h4.1 t ht).2; omega
  · have := inB_true (h4.2 r hr).1; have := inB_true (h4.2 r hr).2; omega
theorem check_right {f : Flr} (h : checkP f = 0) : f.Right := by
  unfold checkP at h
  split at h
  · exact absurd h ‹_›
  · exact right_right (Classical.byContradiction fun e => ‹¬ rightM f ≠ 0› e)
theorem sets_ahead {f : Flr} (hf : f.Ruled) : Sets (aheadP f) := by
  have : ∀ n out, Sets out → Sets (iterR f n out) := by
    intro n
    induction n with
    | zero => intro out h; exact h
    | succ n ih => intro out h; rw [iterR]; split
                   · exact h
                   · exact ih _ (fold_grow f.rules out h (ruled8 hf)).1
  exact this _ _ sets_start
def shareP (f : Flr) (bin : Int) (b : Nat) : Int := if bin = -1 then 0 else nth (nth f.bins bin.toNat).shares b
def addS (f : Flr) (t b : Nat) : Int := (nth f.turnings t).sacks * (shareP f (nth f.turnings t).dst b - shareP f (nth f.turnings t).src b)
def firstS (f : Flr) (b q : Nat) : Int := ((f.bins.take q).map fun x => x.has * nth x.shares b).sum
def addF (f : Flr) (k a j : Nat) : Int := if j / 4 < f.turnings.length ∧ (j % 4 < k ∨ (j % 4 = k ∧ j / 4 < a)) then addS f (j / 4) (j % 4) else 0
def firstF (f : Flr) (k q j : Nat) : Int := if j < k then firstS f j f.bins.length else if j = k then firstS f k q else 0
def brdS (f : Flr) (k q a : Nat) : Brd := { f := f, before := aheadP f, adds := (List.range 32).map (addF f k a), first := (List.range 4).map (firstF f k q) }
def brdM (f : Flr) : Brd := brdS f f.bears.length 0 0
theorem brdS_sized {f : Flr} (hf : f.Ruled) (k q a : Nat) : (brdS f k q a).Sized := ⟨(sets_ahead hf).len, by simp [brdS], by simp [brdS]⟩
theorem range_set {α : Type} (n i : Nat) (g g' : Nat → α) (v : α) (h : ∀ j, j < n → g' j = if j = i then v else g j) : ((List.range n).map g).set i v = (List.range n).map g' := by
  apply List.ext_getElem?
  intro j
  rw [List.getElem?_set]
  by_cases e : i = j
  · subst e
    by_cases hi : i < n
    · simp [hi, h i hi]
    · simp [hi]
  · rw [if_neg e]
    simp only [List.getElem?_map]
    by_cases hj : j < n
    · rw [List.getElem?_range hj]; simp only [Option.map_some]; rw [h j hj, if_neg (fun x => e x.symm)]
    · rw [List.getElem?_eq_none (by simpa using hj)]; rfl
theorem firstS_succ (f : Flr) (b : Nat) {q : Nat} (h : q < f.bins.length) : firstS f b (q + 1) = firstS f b q + (nth f.bins q).has * nth (nth f.bins q).shares b := by
  unfold firstS
  rw [take_nth h, List.map_append, List.sum_append]; simp
theorem brdS_first {f : Flr} {k q a : Nat} (hk : k < 4) : nth (brdS f k q a).first k = firstS f k q := by
  show nth ((List.range 4).map (firstF f k q)) k = _
  rw [nth_map_range _ hk]; simp [firstF]
theorem brdS_set_first {f : Flr} (hf : f.Ruled) {k q a : Nat} (hk : k < 4) (hq : q < f.bins.length) :
    (brdTys (brdS f k q a)).set (44 + k) (Ty.int .i64 (firstS f k q + (nth f.bins q).has * nth (nth f.bins q).shares k)) = brdTys (brdS f k (q + 1) a) := by
  rw [brd_set_first (brdS_sized hf k q a) hk, ← firstS_succ f k hq]
  have e : (brdS f k q a).first.set k (firstS f k (q + 1)) = (brdS f k (q + 1) a).first := range_set 4 k (firstF f k q) (firstF f k (q + 1)) _ fun j _ => by
    unfold firstF
    by_cases e : j = k
    · subst e; simp
    · simp [e]
  show brdTys ⟨f, aheadP f, _, (brdS f k q a).first.set k (firstS f k (q + 1))⟩ = _
  rw [e]; rfl
theorem brdS_set_adds {f : Flr} (hf : f.Ruled) {k q a : Nat} (hk : k < 4) (ha : a < f.turnings.length) :
    (brdTys (brdS f k q a)).set (12 + (a * 4 + k)) (Ty.int .i64 (addS f a k)) = brdTys (brdS f k q (a + 1)) := by
  have h8 := hf.1
  rw [brd_set_adds (brdS_sized hf k q a) (by omega)]
  have e : (brdS f k q a).adds.set (a * 4 + k) (addS f a k) = (brdS f k q (a + 1)).adds := range_set 32 (a * 4 + k) (addF f k a) (addF f k (a + 1)) _ fun j _ => by
    unfold addF
    by_cases e : j = a * 4 + k
    · subst e
      rw [if_pos rfl, if_pos ⟨by omega, .inr ⟨by omega, by omega⟩⟩, show (a * 4 + k) / 4 = a by omega, show (a * 4 + k) % 4 = k by omega]
    · rw [if_neg e]
      by_cases h1 : j / 4 < f.turnings.length ∧ (j % 4 < k ∨ (j % 4 = k ∧ j / 4 < a))
      · rw [if_pos h1, if_pos (by omega)]
      · rw [if_neg h1, if_neg (by omega)]
  unfold brdS at e ⊢
  simp only at e ⊢
  rw [e]
theorem brdS_next (f : Flr) (k : Nat) : brdS f k f.bins.length f.turnings.length = brdS f (k + 1) 0 0 := by
  unfold brdS
  congr 1
  · refine List.map_congr_left fun j _ => ?_
    unfold addF
    by_cases h1 : j / 4 < f.turnings.length ∧ (j % 4 < k ∨ (j % 4 = k ∧ j / 4 < f.turnings.length))
    · rw [if_pos h1, if_pos (by omega)]
    · rw [if_neg h1, if_neg (by omega)]
  · refine List.map_congr_left fun j _ => ?_
    unfold firstF
    by_cases h1 : j < k
    · rw [if_pos h1, if_pos (by omega)]
    · rw [if_neg h1]
      by_cases h2 : j = k
      · subst h2; rw [if_pos rfl, if_pos (by omega)]
      · rw [if_neg h2, if_neg (by omega)]
        by_cases h3 : j = k + 1
        · subst h3; rw [if_pos rfl]; simp [firstS]
        · rw [if_neg h3]
theorem brdS_zero (f : Flr) : brdS f 0 0 0 = { f := f, before := aheadP f, adds := List.replicate 32 0, first := List.replicate 4 0 } := by
  unfold brdS
  congr 1
  · refine List.ext_getElem? fun j => ?_
    simp only [List.getElem?_map, List.getElem?_replicate]
    by_cases h : j < 32
    · rw [List.getElem?_range h, if_pos h]; simp [addF]
    · rw [List.getElem?_eq_none (by simpa using h), if_neg h]; rfl
theorem mul4 {a c : Int} {A : Int} (ha : 0 ≤ a ∧ a ≤ A) (hc : 0 ≤ c ∧ c ≤ 4) : 0 ≤ a * c ∧ a * c ≤ 4 * A := by
  have : c = 0 ∨ c = 1 ∨ c = 2 ∨ c = 3 ∨ c = 4 := by omega
  rcases this with rfl | rfl | rfl | rfl | rfl <;> omega
theorem mul4' {a c : Int} {A : Int} (ha : 0 ≤ a ∧ a ≤ A) (hc : -4 ≤ c ∧ c ≤ 4) : -(4 * A) ≤ a * c ∧ a * c ≤ 4 * A := by
  have : c = -4 ∨ c = -3 ∨ c = -2 ∨ c = -1 ∨ c = 0 ∨ c = 1 ∨ c = 2 ∨ c = 3 ∨ c = 4 := by omega
  rcases this with rfl | rfl | rfl | rfl | rfl | rfl | rfl | rfl | rfl <;> omega
theorem firstS_bound {f : Flr} (hr : f.Ranged) (b : Nat) : ∀ q, q ≤ f.bins.length → 0 ≤ firstS f b q ∧ firstS f b q ≤ 1200 * q
  | 0, _ => by simp [firstS]
  | q + 1, h => by
    rw [firstS_succ f b h]
    have h1 := firstS_bound hr b q (by omega)
    have h2 := mul4 (hr.hasR _ (nth_mem h)) (share_bound hr (b := b) h)
    omega
theorem shareP_bound {f : Flr} (hr : f.Ranged) {i : Int} (hi : -1 ≤ i ∧ i < f.bins.length) (b : Nat) : 0 ≤ shareP f i b ∧ shareP f i b ≤ 4 := by
  unfold shareP
  split
  · omega
  · exact share_bound hr (by omega)
theorem addS_bound {f : Flr} (hr : f.Ranged) (hn : f.Named) {t : Nat} (ht : t < f.turnings.length) (b : Nat) : -1200 ≤ addS f t b ∧ addS f t b ≤ 1200 := by
  have h1 := hn _ (nth_mem ht)
  have h2 := shareP_bound hr h1.1 b
  have h3 := shareP_bound hr h1.2 b
  have h4 := hr.sacksR _ (nth_mem ht)
  exact mul4' (A := 300) (by omega) (by omega)
abbrev SB := { b : Brd // b.Sized }
theorem depsOf_app2 {l l' : List Ty} : depsOf (l ++ l') = depsOf l ++ depsOf l' := by simp [depsOf]
theorem cdepsOf_app2 {l l' : List Ty} : cdepsOf (l ++ l') = cdepsOf l ++ cdepsOf l' := by simp [cdepsOf]
theorem brd_deps (b : Brd) : depsOf (brdTys b) = [] := by unfold brdTys; rw [depsOf_app2, depsOf_app2, depsOf_app2, El.flat_deps, El.flat_deps, El.flat_deps]; rfl
theorem brd_cdeps (b : Brd) : cdepsOf (brdTys b) = [] := by unfold brdTys; rw [cdepsOf_app2, cdepsOf_app2, cdepsOf_app2, El.flat_cdeps, El.flat_cdeps, El.flat_cdeps]; rfl
def BrdE : El SB := ⟨48, fun b => brdTys b.1, fun b => brd_len b.2, fun b => brd_deps b.1, fun b => brd_cdeps b.1, fun b => by
  rw [List.all_eq_true]
  intro t ht
  unfold brdTys at ht
  simp only [List.mem_append] at ht
  rcases ht with h | h | h | h
  · simp only [flrTys, List.mem_cons, List.not_mem_nil, or_false] at h
    rcases h with rfl | rfl | rfl | rfl <;> rfl
  · exact flat_ones _ _ t h
  · exact flat_ones _ _ t h
  · exact flat_ones _ _ t h⟩
def sbS (f : Flr) (hf : f.Ruled) (k q a : Nat) : SB := ⟨brdS f k q a, brdS_sized hf k q a⟩
def sbM (f : Flr) (hf : f.Ruled) : SB := sbS f hf f.bears.length 0 0
theorem sb_load_first {f : Flr} {hf : f.Ruled} {k q a : Nat} (hk : k < 4) : (BrdE.tys (sbS f hf k q a))[0 + 44 + k * 1]? = some (Ty.int .i64 (firstS f k q)) := by
  rw [show 0 + 44 + k * 1 = 44 + k by omega]
  exact (brd_first (brdS_sized hf k q a) hk).trans (by rw [brdS_first hk])
theorem sb_set_first {f : Flr} {hf : f.Ruled} {k q a : Nat} (hk : k < 4) (hq : q < f.bins.length) :
    (BrdE.tys (sbS f hf k q a)).set (0 + 44 + k * 1) (Ty.int .i64 (firstS f k q + (nth f.bins q).has * nth (nth f.bins q).shares k)) = BrdE.tys (sbS f hf k (q + 1) a) := by
  rw [show 0 + 44 + k * 1 = 44 + k by omega]
  exact brdS_set_first hf hk hq
theorem sb_set_adds {f : Flr} {hf : f.Ruled} {k q a : Nat} (hk : k < 4) (ha : a < f.turnings.length) :
    (BrdE.tys (sbS f hf k q a)).set (0 + 12 + a * 4 + k * 1) (Ty.int .i64 (addS f a k)) = BrdE.tys (sbS f hf k q (a + 1)) := by
  rw [show 0 + 12 + a * 4 + k * 1 = 12 + (a * 4 + k) by omega]
  exact brdS_set_adds hf hk ha
theorem sb_next (f : Flr) (hf : f.Ruled) (k : Nat) : sbS f hf k f.bins.length f.turnings.length = sbS f hf (k + 1) 0 0 := Subtype.ext (brdS_next f k)
theorem len8 {α : Type} {l : List α} (h : l.length = 8) : ∃ a b c d e f g i, l = [a, b, c, d, e, f, g, i] := by
  match l, h with
  | [a, b, c, d, e, f, g, i], _ => exact ⟨a, b, c, d, e, f, g, i, rfl⟩
theorem fill_brd (f : Flr) (hf : f.Ruled) (place : Nat → Option (Nat × Nat)) (h0 : place 0 = some (0, 4)) (h1 : place 1 = some (4, 8)) :
    fillT place ((List.replicate 4 (Ty.ex (.slice none 0 0))) ++ List.replicate 44 (Ty.int .i64 0)) [(0, flrTys f), (1, (aheadP f).flatMap N64.tys)] = some (BrdE.tys (sbS f hf 0 0 0)) := by
  have hl : ((aheadP f).flatMap N64.tys).length = 8 := by rw [n64_map, List.length_map, (sets_ahead hf).len]
  have e : BrdE.tys (sbS f hf 0 0 0) = flrTys f ++ ((aheadP f).flatMap N64.tys ++ (List.replicate 36 (Ty.int .i64 0))) := by
    show brdTys (brdS f 0 0 0) = _
    rw [brdS_zero]; rfl
  rw [e]
  obtain ⟨a, b, c, d, x, y, g, i, h⟩ := len8 hl
  rw [h]
  simp only [fillT, h0, h1]
  rfl
end Go.Proofs.Ytifgbnbkimcchaa

namespace Go.Proofs.Ytifgbnbkimcchaa
open Go Go.T
structure Fine (b : SB) : Prop where
  nb1 : 1 ≤ b.1.f.bears.length
  nb : b.1.f.bears.length ≤ 4
  nt : b.1.f.turnings.length ≤ 8
  bears : ∀ k, 0 ≤ nth b.1.f.bears k ∧ nth b.1.f.bears k ≤ 4000
  before : ∀ k, nth b.1.before k < 256
  adds : ∀ k, -1200 ≤ nth b.1.adds k ∧ nth b.1.adds k ≤ 1200
  first : ∀ k, 0 ≤ nth b.1.first k ∧ nth b.1.first k ≤ 7200
theorem nth_out' {α : Type} [Inhabited α] {l : List α} {k : Nat} (h : l.length ≤ k) : nth l k = default := by
  show l.getD k default = default
  rw [List.getD_eq_getElem?_getD, List.getElem?_eq_none h]; rfl
theorem fine_sb {f : Flr} (h : f.Right) : Fine (sbM f h.ruled) := by
  have hr := h.ranged
  have h4 := hr.bears
  have h6 := hr.bins
  refine ⟨hr.bears1, hr.bears, hr.turnings, fun k => bear_bound hr k, fun k => (sets_ahead h.ruled).nth k, fun k => ?_, fun k => ?_⟩
  · show -1200 ≤ nth ((List.range 32).map (addF f f.bears.length 0)) k ∧ nth ((List.range 32).map (addF f f.bears.length 0)) k ≤ 1200
    rcases Nat.lt_or_ge k 32 with hk | hk
    · rw [nth_map_range _ hk]
      unfold addF
      split
      · rename_i hc; exact addS_bound hr h.named hc.1 _
      · omega
    · rw [nth_out (by simpa using hk)]; omega
  · show 0 ≤ nth ((List.range 4).map (firstF f f.bears.length 0)) k ∧ nth ((List.range 4).map (firstF f f.bears.length 0)) k ≤ 7200
    rcases Nat.lt_or_ge k 4 with hk | hk
    · rw [nth_map_range _ hk]
      unfold firstF
      split
      · have := firstS_bound hr k f.bins.length (Nat.le_refl _); omega
      · split
        · have := firstS_bound hr f.bears.length 0 (Nat.zero_le _); omega
        · omega
    · rw [nth_out (by simpa using hk)]; omega
def loadAt (b : SB) (ms : List Int) (i : Nat) : Int := nth b.1.first i + (ms.map fun t => nth b.1.adds (t.toNat * 4 + i)).sum
def loadP (b : SB) (s : Nat) : List Int := (List.range 4).map (loadAt b (membersM s))
def partL (b : SB) (ms : List Int) (k j : Nat) : List Int := (List.range 4).map fun i => if i < j then loadAt b (ms.take (k + 1)) i else loadAt b (ms.take k) i
theorem loadAt_succ (b : SB) {ms : List Int} {k : Nat} (h : k < ms.length) (i : Nat) : loadAt b (ms.take (k + 1)) i = loadAt b (ms.take k) i + nth b.1.adds ((nth ms k).toNat * 4 + i) := by
  unfold loadAt
  rw [take_nth h, List.map_append, List.sum_append]; simp; omega
theorem loadAt_bound {b : SB} (h : Fine b) (ms : List Int) (i : Nat) : -(1200 * ms.length) ≤ loadAt b ms i ∧ loadAt b ms i ≤ 7200 + 1200 * ms.length := by
  have h1 := h.first i
  have h2 := sum_bound (l := ms.map fun t => nth b.1.adds (t.toNat * 4 + i)) (lo := -1200) (hi := 1200) fun n hn => by
    obtain ⟨t, _, rfl⟩ := List.mem_map.1 hn
    exact h.adds _
  rw [List.length_map] at h2
  unfold loadAt; omega
theorem members_len (s : Nat) : (membersM s).length ≤ 8 := bitsUp_len s 8
theorem partL_len (b : SB) (ms : List Int) (k j : Nat) : (partL b ms k j).length = 4 := by simp [partL]
theorem partL_nth (b : SB) (ms : List Int) (k : Nat) {j : Nat} (h : j < 4) : nth (partL b ms k j) j = loadAt b (ms.take k) j := by
  rw [partL, nth_map_range _ h]; simp
theorem partL_set (b : SB) {ms : List Int} {k j : Nat} (hk : k < ms.length) (hj : j < 4) : (partL b ms k j).set j (nth (partL b ms k j) j + nth b.1.adds ((nth ms k).toNat * 4 + j)) = partL b ms k (j + 1) := by
  rw [partL_nth b ms k hj, ← loadAt_succ b hk]
  exact range_set 4 j (fun i => if i < j then loadAt b (ms.take (k + 1)) i else loadAt b (ms.take k) i) (fun i => if i < j + 1 then loadAt b (ms.take (k + 1)) i else loadAt b (ms.take k) i) _ fun i _ => by
    by_cases e : i = j
    · subst e; simp
    · by_cases h1 : i < j
      · rw [if_pos (by omega), if_neg e, if_pos h1]
      · rw [if_neg (by omega), if_neg e, if_neg h1]
theorem partL_next (b : SB) (ms : List Int) (k : Nat) : partL b ms k 4 = partL b ms (k + 1) 0 := List.map_congr_left fun i hi => by
  have := List.mem_range.1 hi
  rw [if_pos this, if_neg (by omega)]
theorem partL_start (b : SB) (ms : List Int) : b.1.first = partL b ms 0 0 := by
  apply List.ext_getElem?
  intro i
  have h4 := b.2.first
  by_cases h : i < 4
  · rw [List.getElem?_eq_getElem (by omega), partL, List.getElem?_map, List.getElem?_range h]
    simp only [Option.map_some, Nat.not_lt_zero, if_false]
    simp [loadAt, nth_lt (show i < b.1.first.length by omega)]
  · rw [List.getElem?_eq_none (by omega), List.getElem?_eq_none (by rw [partL_len]; omega)]
theorem partL_end (b : SB) (s k : Nat) (h : (membersM s).length ≤ k) : partL b (membersM s) k 0 = loadP b s := List.map_congr_left fun i _ => by
  rw [if_neg (by omega), List.take_of_length_le h]
theorem loadP_len (b : SB) (s : Nat) : (loadP b s).length = 4 := by simp [loadP]
theorem loadP_nth (b : SB) (s : Nat) {i : Nat} (h : i < 4) : nth (loadP b s) i = loadAt b (membersM s) i := nth_map_range _ h
theorem loadP_bound {b : SB} (h : Fine b) (s i : Nat) : -20000 ≤ nth (loadP b s) i ∧ nth (loadP b s) i ≤ 20000 := by
  rcases Nat.lt_or_ge i 4 with hi | hi
  · rw [loadP_nth b s hi]
    have := loadAt_bound h (membersM s) i
    have := members_len s
    omega
  · rw [nth_out (by rw [loadP_len]; exact hi)]; omega
def marginP (b : SB) (l : List Int) : Int := minRow b.1.f l b.1.f.bears.length (nth b.1.f.bears 0 - nth l 0)
def keepsP (b : SB) (s : Nat) : Bool := decide (marginP b (loadP b s) ≥ 0)
def wholeP (b : SB) (s : Nat) : Bool := (membersM s).all fun t => decide (andNotN (nth b.1.before t.toNat) s = 0)
theorem members_lt {s : Nat} : ∀ t ∈ membersM s, 0 ≤ t ∧ t < 8 := by
  intro t ht
  obtain ⟨i, hi, rfl⟩ := List.mem_map.1 ht
  have := List.mem_range.1 (List.mem_filter.1 hi).1
  omega
def setsUp (b : SB) (k : Nat) : List Nat := (List.range k).filter (wholeP b)
def setsP (b : SB) : List Nat := setsUp b (1 <<< b.1.f.turnings.length)
theorem setsUp_yes {b : SB} {k : Nat} (h : wholeP b k = true) : setsUp b (k + 1) = setsUp b k ++ [k] := by simp [setsUp, List.range_succ, List.filter_append, h]
theorem setsUp_no {b : SB} {k : Nat} (h : wholeP b k = false) : setsUp b (k + 1) = setsUp b k := by simp [setsUp, List.range_succ, List.filter_append, h]
theorem setsUp_nth {b : SB} {k m : Nat} (hk : k < m) (h : wholeP b k = true) : nth (setsUp b m) (setsUp b k).length = k ∧ (setsUp b k).length < (setsUp b m).length := by
  have : ∀ m, k + 1 ≤ m → ∃ r, setsUp b m = (setsUp b k ++ [k]) ++ r := by
    intro m hm
    induction m with
    | zero => omega
    | succ m ih =>
      rcases Nat.lt_or_ge m (k + 1) with h1 | h1
      · rw [show m + 1 = k + 1 by omega]; exact ⟨[], by rw [setsUp_yes h, List.append_nil]⟩
      · obtain ⟨r, hr⟩ := ih h1
        cases hw : wholeP b m with
        | true => exact ⟨r ++ [m], by rw [setsUp_yes hw, hr, List.append_assoc]⟩
        | false => exact ⟨r, by rw [setsUp_no hw, hr]⟩
  obtain ⟨r, hr⟩ := this m hk
  refine ⟨?_, ?_⟩
  · rw [hr, nth_lt (by simp)]; simp
  · rw [hr]; simp
theorem shl_pow (n : Nat) : 1 <<< n = 2 ^ n := by rw [Nat.shiftLeft_eq, Nat.one_mul]
theorem shl_le {n : Nat} (h : n ≤ 8) : 1 <<< n ≤ 256 ∧ 1 ≤ 1 <<< n := by
  rw [shl_pow]
  exact ⟨Nat.pow_le_pow_right (n := 2) (by omega) h, Nat.one_le_two_pow⟩
def heavyS (b : SB) (bay : Nat) (st : Int × Int) (s : Nat) : Int × Int := if nth (loadP b s) bay > st.2 then ((s : Int), nth (loadP b s) bay) else st
def heavyUp (b : SB) (bay k : Nat) : Int × Int := ((setsP b).take k).foldl (heavyS b bay) (0, nth b.1.first bay)
def heavyP (b : SB) (bay : Nat) : Int × Int := (setsP b).foldl (heavyS b bay) (0, nth b.1.first bay)
theorem heavyUp_succ {b : SB} {bay k : Nat} (h : k < (setsP b).length) : heavyUp b bay (k + 1) = heavyS b bay (heavyUp b bay k) (nth (setsP b) k) := by
  unfold heavyUp; rw [take_nth h, List.foldl_append]; rfl
abbrev KV := List (Int × Int)
def mg (m : KV) (k : Int) : Int := (mget m k).getD 0
def wayT (b : SB) (s : Nat) (m : KV) (t : Nat) : KV := if s.testBit t then m else mput m s (mg m s + mg m ((s ||| 1 <<< t : Nat) : Int))
def wayIn (b : SB) (s : Nat) (m : KV) (j : Nat) : KV := (List.range j).foldl (wayT b s) m
def wayTop (b : SB) (s : Nat) (m : KV) : KV := if (s : Int) = (1 <<< b.1.f.turnings.length : Nat) - 1 then mput m s 1 else m
def wayS (b : SB) (q : Nat → Bool) (s : Nat) (m : KV) : KV := if !wholeP b s || !q s then m else wayIn b s (wayTop b s m) b.1.f.turnings.length
def waysDn (b : SB) (q : Nat → Bool) (n : Nat) : Nat → KV
  | 0 => []
  | k + 1 => wayS b q (n - (k + 1)) (waysDn b q n k)
def waysP (b : SB) (q : Nat → Bool) : KV := waysDn b q (1 <<< b.1.f.turnings.length) (1 <<< b.1.f.turnings.length)
theorem wayIn_succ (b : SB) (s : Nat) (m : KV) (j : Nat) : wayIn b s m (j + 1) = wayT b s (wayIn b s m j) j := by simp [wayIn, List.range_succ]
theorem mg_mput (m : KV) (k v k' : Int) : mg (mput m k v) k' = if k = k' then v else mg m k' := by
  unfold mg; rw [mget_mput]; split <;> rfl
def pop (s : Nat) : Nat := (membersM s).length
theorem pop_or_all : ((List.range 256).all fun s => (List.range 8).all fun t => s.testBit t || (pop (s ||| 1 <<< t) == pop s + 1 && Nat.blt (s ||| 1 <<< t) 256)) = true := by decide +kernel
theorem pop_or {s t : Nat} (hs : s < 256) (ht : t < 8) (h : s.testBit t = false) : pop (s ||| 1 <<< t) = pop s + 1 ∧ (s ||| 1 <<< t) < 256 := by
  have h1 := List.all_eq_true.1 (List.all_eq_true.1 pop_or_all s (List.mem_range.2 hs)) t (List.mem_range.2 ht)
  rw [h, Bool.false_or, Bool.and_eq_true, beq_iff_eq, Nat.blt_eq] at h1
  exact h1
def Small (m : KV) : Prop := ∀ s : Nat, s < 256 → 0 ≤ mg m s ∧ mg m s ≤ 8 ^ (8 - pop s)
theorem pop_le (s : Nat) : pop s ≤ 8 := members_len s
theorem bit_ne {s t : Nat} (h : s.testBit t = false) : (s ||| 1 <<< t) ≠ s := fun e => by
  have : (s ||| 1 <<< t).testBit t = true := by rw [Nat.testBit_or, shl_pow, Nat.testBit_two_pow_self]; simp
  rw [e, h] at this; cases this
def SmallAt (m : KV) (s j : Nat) : Prop := (∀ s' : Nat, s' < 256 → s' ≠ s → 0 ≤ mg m s' ∧ mg m s' ≤ 8 ^ (8 - pop s')) ∧ 0 ≤ mg m s ∧ mg m s ≤ (if pop s = 8 then (1 : Int) else (j : Int) * 8 ^ (7 - pop s))
theorem smallAt_step {b : SB} {m : KV} {s j : Nat} (hs : s < 256) (hj : j < 8) (h : SmallAt m s j) : SmallAt (wayT b s m j) s (j + 1) ∧ (s.testBit j = false → 0 ≤ mg m s + mg m ((s ||| 1 <<< j : Nat) : Int) ∧ mg m s + mg m ((s ||| 1 <<< j : Nat) : Int) ≤ 8 ^ 8 + 8 ^ 8) := by
  obtain ⟨h1, h2, h3⟩ := h
  have hp8 : ∀ e, e ≤ 8 → (8 : Int) ^ e ≤ 8 ^ 8 := fun e he => by
    have : (8 : Nat) ^ e ≤ 8 ^ 8 := Nat.pow_le_pow_right (by omega) he
    exact_mod_cast this
  have hpos : ∀ e : Nat, (0 : Int) ≤ 8 ^ e := fun e => Int.le_of_lt (Int.pow_pos (by omega))
  unfold wayT
  cases hb : s.testBit j with
  | true =>
    simp only [if_true]
    refine ⟨⟨h1, h2, ?_⟩, fun h => by cases h⟩
    split at h3
    · rw [if_pos ‹_›]; exact h3
    · rw [if_neg ‹_›]
      have := hpos (7 - pop s)
      have e : ((j + 1 : Nat) : Int) * 8 ^ (7 - pop s) = j * 8 ^ (7 - pop s) + 8 ^ (7 - pop s) := by rw [Int.natCast_add, Int.add_mul]; simp
      omega
  | false =>
    obtain ⟨p1, p2⟩ := pop_or hs hj hb
    have hne := bit_ne hb
    obtain ⟨g1, g2⟩ := h1 _ p2 hne
    have hlt : pop s ≤ 7 := by have := pop_le (s ||| 1 <<< j); omega
    rw [p1, show 8 - (pop s + 1) = 7 - pop s by omega] at g2
    rw [if_neg (by omega)] at h3
    have hj8 : (j : Int) * 8 ^ (7 - pop s) ≤ 7 * 8 ^ (7 - pop s) := Int.mul_le_mul_of_nonneg_right (by omega) (hpos _)
    have h87 : (8 : Int) * 8 ^ (7 - pop s) ≤ 8 ^ 8 := by
      have := hp8 (7 - pop s + 1) (by omega)
      rw [Int.pow_succ, Int.mul_comm] at this; exact this
    have := hpos (7 - pop s)
    simp only [Bool.false_eq_true, if_false]
    refine ⟨⟨fun s' hs' hn => ?_, ?_⟩, fun _ => ⟨by omega, by omega⟩⟩
    · rw [mg_mput, if_neg (fun e => hn (by exact_mod_cast e.symm))]; exact h1 s' hs' hn
    · rw [mg_mput, if_pos rfl, if_neg (by omega)]
      have e : ((j + 1 : Nat) : Int) * 8 ^ (7 - pop s) = j * 8 ^ (7 - pop s) + 8 ^ (7 - pop s) := by rw [Int.natCast_add, Int.add_mul]; simp
      omega
theorem wayT_other (b : SB) {s s' : Nat} (h : s' ≠ s) (m : KV) (t : Nat) : mg (wayT b s m t) s' = mg m s' := by
  unfold wayT
  split
  · rfl
  · rw [mg_mput, if_neg (fun e => h (by exact_mod_cast e.symm))]
theorem wayIn_other (b : SB) {s s' : Nat} (h : s' ≠ s) (m : KV) (j : Nat) : mg (wayIn b s m j) s' = mg m s' := by
  induction j with
  | zero => rfl
  | succ j ih => rw [wayIn_succ, wayT_other b h, ih]
theorem wayTop_other (b : SB) {s s' : Nat} (h : s' ≠ s) (m : KV) : mg (wayTop b s m) s' = mg m s' := by
  unfold wayTop
  split
  · rw [mg_mput, if_neg (fun e => h (by exact_mod_cast e.symm))]
  · rfl
theorem wayS_other (b : SB) (q : Nat → Bool) {s s' : Nat} (h : s' ≠ s) (m : KV) : mg (wayS b q s m) s' = mg m s' := by
  unfold wayS
  split
  · rfl
  · rw [wayIn_other b h, wayTop_other b h]
theorem full_bit {n j : Nat} (h : j < n) : (1 <<< n - 1).testBit j = true := by rw [shl_pow, Nat.testBit_two_pow_sub_one]; simpa using h
theorem wayIn_full (b : SB) {s n : Nat} (hs : s = 1 <<< n - 1) (m : KV) {j : Nat} (hj : j ≤ n) : wayIn b s m j = m := by
  induction j with
  | zero => rfl
  | succ j ih => rw [wayIn_succ, ih (by omega), wayT, hs, full_bit (by omega)]; rfl
structure Clean (n k : Nat) (m : KV) : Prop where
  small : ∀ s : Nat, s < 256 → 0 ≤ mg m s ∧ mg m s ≤ 8 ^ (8 - pop s)
  zero : ∀ s : Nat, s + k < n → mg m s = 0
theorem not_top {b : SB} {s : Nat} {m : KV} (h : s ≠ 1 <<< b.1.f.turnings.length - 1) (h1 : 1 ≤ 1 <<< b.1.f.turnings.length) : wayTop b s m = m := by
  unfold wayTop; rw [if_neg (by omega)]
theorem is_top {b : SB} {s : Nat} {m : KV} (h : s = 1 <<< b.1.f.turnings.length - 1) (h1 : 1 ≤ 1 <<< b.1.f.turnings.length) : wayTop b s m = mput m s 1 := by
  unfold wayTop; rw [if_pos (by omega)]
theorem smallAt_in {b : SB} (hb : Fine b) {s n k : Nat} {m : KV} (hn : n = 1 <<< b.1.f.turnings.length) (hs : s + (k + 1) = n) (hc : Clean n k m) (hne : s ≠ n - 1) : ∀ j, j ≤ b.1.f.turnings.length → SmallAt (wayIn b s m j) s j
  | 0, _ => by
    refine ⟨fun s' hs' _ => hc.small s' hs', ?_, ?_⟩
    · show 0 ≤ mg m s; rw [hc.zero s (by omega)]; exact Int.le_refl _
    · show mg m s ≤ _
      rw [hc.zero s (by omega)]; split <;> simp
  | j + 1, hj => by
    rw [wayIn_succ]
    have := shl_le hb.nt
    exact (smallAt_step (by omega) (by have := hb.nt; omega) (smallAt_in hb hn hs hc hne j (by omega))).1
theorem way_bound {b : SB} (hb : Fine b) {s n k : Nat} {m : KV} (hn : n = 1 <<< b.1.f.turnings.length) (hs : s + (k + 1) = n) (hc : Clean n k m) {j : Nat} (hj : j < b.1.f.turnings.length) (h : s.testBit j = false) :
    let m' := wayIn b s (wayTop b s m) j
    0 ≤ mg m' s + mg m' ((s ||| 1 <<< j : Nat) : Int) ∧ mg m' s + mg m' ((s ||| 1 <<< j : Nat) : Int) ≤ 8 ^ 8 + 8 ^ 8 := by
  have h1 := shl_le hb.nt
  have hne : s ≠ n - 1 := fun e => by rw [e, hn, full_bit hj] at h; cases h
  rw [not_top (by omega) (by omega)]
  exact (smallAt_step (b := b) (by omega) (by have := hb.nt; omega) (smallAt_in hb hn hs hc hne j (by omega))).2 h
theorem clean_step {b : SB} (hb : Fine b) {q : Nat → Bool} {s n k : Nat} {m : KV} (hn : n = 1 <<< b.1.f.turnings.length) (hs : s + (k + 1) = n) (hc : Clean n k m) : Clean n (k + 1) (wayS b q s m) := by
  have h1 := shl_le hb.nt
  have hpos : ∀ e : Nat, (1 : Int) ≤ 8 ^ e := fun e => by have : (0 : Int) < 8 ^ e := Int.pow_pos (by omega); omega
  refine ⟨fun s' hs' => ?_, fun s' h => ?_⟩
  · by_cases e : s' = s
    · subst e
      unfold wayS
      split
      · exact hc.small s' hs'
      · by_cases ht : s' = n - 1
        · rw [is_top (by omega) (by omega), wayIn_full b (by omega) _ (Nat.le_refl _), mg_mput, if_pos rfl]
          exact ⟨by omega, hpos _⟩
        · rw [not_top (by omega) (by omega)]
          obtain ⟨_, g2, g3⟩ := smallAt_in hb hn hs hc ht _ (Nat.le_refl _)
          refine ⟨g2, ?_⟩
          split at g3
          · exact Int.le_trans g3 (hpos _)
          · rename_i hp
            have hp7 : pop s' ≤ 7 := by have := pop_le s'; omega
            have e8 : (8 : Int) ^ (8 - pop s') = 8 ^ (7 - pop s') * 8 := by rw [show 8 - pop s' = 7 - pop s' + 1 by omega, Int.pow_succ]
            have : (b.1.f.turnings.length : Int) * 8 ^ (7 - pop s') ≤ 8 * 8 ^ (7 - pop s') := Int.mul_le_mul_of_nonneg_right (by have := hb.nt; omega) (Int.le_trans (by omega) (hpos _))
            rw [e8, Int.mul_comm (8 ^ (7 - pop s')) 8]; omega
    · rw [wayS_other b q e]; exact hc.small s' hs'
  · rw [wayS_other b q (by omega)]; exact hc.zero s' (by omega)
theorem clean_all {b : SB} (hb : Fine b) (q : Nat → Bool) {n : Nat} (hn : n = 1 <<< b.1.f.turnings.length) : ∀ k, k ≤ n → Clean n k (waysDn b q n k)
  | 0, _ => ⟨fun s _ => ⟨Int.le_refl _, Int.le_of_lt (Int.pow_pos (by omega))⟩, fun _ _ => rfl⟩
  | k + 1, h => clean_step hb hn (by omega) (clean_all hb q hn k (by omega))
end Go.Proofs.Ytifgbnbkimcchaa

namespace Go.Proofs.Ytifgbnbkimcchaa
open Go Go.T
attribute [local irreducible] dInt dBool dSl dPp dPtr dAgg dTup dClo dAny dEx dStr dGd dCells dVec dVs dRow dOp nth Tri Into TOps Ctr bodyPost Exit.then Exit.inBlock Code.wp Code.wpIn dWhen dPa dPe dAo dArr dMp dPm dMap dCJ CtrG CtrI OpY keepPost iterPost bodyPostM roundQ
set_option maxRecDepth 100000 in
theorem c_Check (f : Flr) (hs : f.Small) : Ctr Try.prog 43 [flrT f] (Ty.int .i64 (checkP f)) := by
  refine fn_intro Try.func43 rfl (by decide) Try.ntmps43 (by exact Nat.le_of_ble_eq_true rfl) fun w0 M0 => ?_
  have hs1 := hs.bears; have hs2 := hs.bins; have hs3 := hs.turnings; have hs4 := hs.rules
  refine t_seq ?_
  refine t_region ?_
  refine r_box_agg rfl ?_
  refine asI rfl ?_
  refine r_nil ?_
  refine i_then ?_
  refine t_seq ?_
  refine t_seq ?_
  refine t_region ?_
  refine r_load_ppN rfl rfl rfl (by exact Nat.le_of_ble_eq_true rfl) ?_
  refine r_call (c_right f hs) rfl rfl rfl rfl rfl ?_
  refine asI rfl ?_
  refine r_nil ?_
  refine i_then ?_
  refine t_seq ?_
  refine t_region ?_
  refine mvI rfl ?_
  refine r_bin rfl rfl rfl ?_
  refine r_nil ?_
  refine i_then ?_
  refine t_cond_ndec rfl (fun hc1 => ?_) (fun hc1 => ?_)
  ·
    refine t_seq ?_
    refine t_region ?_
    refine mvI rfl ?_
    refine asI rfl ?_
    refine r_nil ?_
    refine i_then ?_
    refine t_ret ?_
    refine i_then_ret ?_
    refine i_rp1 rfl rfl ?_
    all_goals skip
    exact ret_eq rfl rfl (congrArg (Ty.int .i64) (by rw [checkP, if_pos hc1]))
  ·
    refine t_skip ?_
    refine i_then ?_
    refine t_seq ?_
    refine t_seq ?_
    have h0 : rightM f = 0 := hc1
    have hf := (right_right h0).ruled
    have hsa := sets_ahead hf
    have hla := hsa.len
    refine t_region ?_
    refine r_load_ppN rfl rfl rfl (by exact Nat.le_of_ble_eq_true rfl) ?_
    refine r_call (c_ahead f hs hf) rfl rfl rfl rfl rfl ?_
    refine mvI rfl ?_
    refine r_nil ?_
    refine i_then ?_
    refine t_block ?_
    refine t_loop (fun (k : {k : Nat // k ≤ 8 ∧ ∀ j, j < k → (nth (aheadP f) j).testBit j = false}) => live [(12, Ty.arr N64 (aheadP f)), (13, Ty.int .i64 (k.1 : Nat))] []) (fun k => 8 - k.1) (⟨0, by omega, fun j hj => absurd hj (Nat.not_lt_zero _)⟩) ?_ fun k => ?_
    · (refine Ent.mk' ?_ ?_ <;> (repeat' (first | exact allSub_zero | exact allTags_nil | refine allSub_succ' ?_ (Ty.sub_any _) | refine allSub_succ' ?_ (Ty.sub_refl _))))
    ·
      have hk := k.2.1
      refine t_seq ?_
      refine t_region ?_
      refine r_bin rfl rfl rfl ?_
      refine r_nil ?_
      refine i_then ?_
      refine t_seq ?_
      refine t_cond_dec rfl (fun hc2 => ?_) (fun hc2 => ?_)
      ·
        refine t_skip ?_
        refine i_then ?_
        refine t_seq ?_
        refine t_block ?_
        refine t_seq ?_
        have hnk := hsa.nth k.1
        refine t_region ?_
        refine mvI rfl ?_
        refine r_indexa (n := 8) rfl rfl rfl rfl rfl rfl rfl (by omega) (by omega) rfl ?_
        refine asI rfl ?_
        refine asI rfl ?_
        refine r_nil ?_
        refine i_then ?_
        refine t_seq ?_
        have hsh := Nat.shiftRight_le (nth (aheadP f) k.1) k.1
        refine t_region ?_
        refine mvI rfl ?_
        refine mvI rfl ?_
        refine r_shrN rfl rfl (by omega) ?_
        refine r_andN (b := 1) rfl rfl (by omega) (by omega) ?_
        refine r_bin rfl rfl rfl ?_
        refine r_nil ?_
        refine i_then ?_
        refine t_cond_dec rfl (fun hc3 => ?_) (fun hc3 => ?_)
        ·
          refine t_seq ?_
          refine t_region ?_
          refine asI rfl ?_
          refine r_nil ?_
          refine i_then ?_
          refine t_ret ?_
          refine i_block_ret ?_
          refine i_then_ret ?_
          refine i_then_ret ?_
          refine i_block_ret ?_
          refine i_then_ret ?_
          refine i_rp1 rfl rfl ?_
          all_goals skip
          exact ret_eq rfl rfl (congrArg (Ty.int .i64) (by rw [checkP, if_neg (fun h => h h0), if_pos]; exact List.any_eq_true.2 ⟨k.1, List.mem_range.2 (by omega), (shift_bit _ _).1 (by omega)⟩))
        ·
          refine t_skip ?_
          refine i_block ?_
          refine i_then ?_
          refine t_region ?_
          refine r_add rfl rfl (by omega) (by omega) ?_
          refine mvI rfl ?_
          refine r_nil ?_
          refine i_round (⟨k.1 + 1, by omega, fun j hj => (Nat.lt_or_ge j k.1).elim (k.2.2 j) fun h => by rw [show j = k.1 by omega]; exact Bool.eq_false_iff.2 fun h1 => hc3 (by have := (shift_bit (nth (aheadP f) k.1) k.1).2 h1; omega)⟩) ?_ (by show 8 - (k.1 + 1) < 8 - k.1; have := k.2.1; omega)
          (refine Ent.mk' ?_ ?_ <;> (repeat' (first | exact allSub_zero | exact allTags_nil | refine allSub_succ' ?_ (Ty.sub_any _) | refine allSub_succ' ?_ (Ty.sub_refl _))))
          all_goals skip
      ·
        refine t_exit ?_
        refine i_then_exit ?_
        refine i_then_exit ?_
        refine i_block_exit rfl ?_
        refine i_then ?_
        refine t_seq ?_
        refine t_region ?_
        refine asI rfl ?_
        refine r_nil ?_
        refine i_then ?_
        refine t_ret ?_
        refine i_rp1 rfl rfl ?_
        all_goals skip
        exact ret_eq rfl rfl (congrArg (Ty.int .i64) (by rw [checkP, if_neg (fun h => h h0), if_neg]; intro hb; obtain ⟨j, hj, hb⟩ := List.any_eq_true.1 hb; have := List.mem_range.1 hj; rw [k.2.2 j (by omega)] at hb; cases hb))
set_option maxRecDepth 100000 in
theorem c_opened1 (f : Flr) (hs : f.Small) (b : Bool) (he : checkP f ≠ 0) : Ctr Try.prog 83 [flrT f, Ty.bool b] (Ty.tup [Ty.ex (.pointer none), Ty.int .i64 (checkP f)]) := by
  refine fn_intro Try.func83 rfl (by decide) Try.ntmps83 (by exact Nat.le_of_ble_eq_true rfl) fun w0 M0 => ?_
  have hs1 := hs.bears; have hs2 := hs.bins; have hs3 := hs.turnings; have hs4 := hs.rules
  refine t_seq ?_
  refine t_region ?_
  refine r_box_agg rfl ?_
  refine asX rfl ?_
  refine asI rfl ?_
  refine r_nil ?_
  refine i_then ?_
  refine t_seq ?_
  refine t_seq ?_
  refine t_region ?_
  refine r_load_ppN rfl rfl rfl (by exact Nat.le_of_ble_eq_true rfl) ?_
  refine r_call (c_Check f hs) rfl rfl rfl rfl rfl ?_
  refine asI rfl ?_
  refine r_nil ?_
  refine i_then ?_
  refine t_seq ?_
  refine t_region ?_
  refine mvI rfl ?_
  refine r_bin rfl rfl rfl ?_
  refine r_nil ?_
  refine i_then ?_
  refine t_cond_tt rfl (by rw [decide_eq_false he]; rfl) ?_
  refine t_seq ?_
  refine t_region ?_
  refine mvI rfl ?_
  refine asX rfl ?_
  refine asI rfl ?_
  refine r_nil ?_
  refine i_then ?_
  refine t_ret ?_
  refine i_then_ret ?_
  refine i_rp2 rfl rfl rfl ?_ ?_
  all_goals exact ret_refl rfl rfl
  skip
set_option maxRecDepth 100000 in
theorem c_opened2 (f : Flr) (hs : f.Small) (h0 : checkP f = 0) : Ctr Try.prog 83 [flrT f, Ty.bool true] (Ty.tup [Ty.ex (.pointer none), Ty.int .i64 1]) := by
  refine fn_intro Try.func83 rfl (by decide) Try.ntmps83 (by exact Nat.le_of_ble_eq_true rfl) fun w0 M0 => ?_
  have hs1 := hs.bears; have hs2 := hs.bins; have hs3 := hs.turnings; have hs4 := hs.rules
  refine t_seq ?_
  refine t_region ?_
  refine r_box_agg rfl ?_
  refine asX rfl ?_
  refine asI rfl ?_
  refine r_nil ?_
  refine i_then ?_
  refine t_seq ?_
  refine t_seq ?_
  refine t_region ?_
  refine r_load_ppN rfl rfl rfl (by exact Nat.le_of_ble_eq_true rfl) ?_
  refine r_call (c_Check f hs) rfl rfl rfl rfl rfl ?_
  refine asI rfl ?_
  refine r_nil ?_
  refine i_then ?_
  refine t_seq ?_
  refine t_region ?_
  refine mvI rfl ?_
  refine r_bin rfl rfl rfl ?_
  refine r_nil ?_
  refine i_then ?_
  refine t_cond_ff rfl (by rw [h0]; rfl) ?_
  refine t_skip ?_
  refine i_then ?_
  refine t_seq ?_
  refine t_seq ?_
  refine t_region ?_
  refine mvB rfl ?_
  refine r_nil ?_
  refine i_then ?_
  refine t_cond_tt rfl (rfl) ?_
  refine t_seq ?_
  refine t_region ?_
  refine asX rfl ?_
  refine asI rfl ?_
  refine r_nil ?_
  refine i_then ?_
  refine t_ret ?_
  refine i_then_ret ?_
  refine i_rp2 rfl rfl rfl ?_ ?_
  all_goals exact ret_refl rfl rfl
set_option maxRecDepth 100000 in
theorem c_opened (f : Flr) (hs : f.Small) (h0 : checkP f = 0) : Ctr Try.prog 83 [flrT f, Ty.bool false] (Ty.tup [Ty.pe BrdE (sbM f (check_right h0).ruled) 0, Ty.int .i64 0]) := by
  refine fn_intro Try.func83 rfl (by decide) Try.ntmps83 (by exact Nat.le_of_ble_eq_true rfl) fun w0 M0 => ?_
  have hs1 := hs.bears; have hs2 := hs.bins; have hs3 := hs.turnings; have hs4 := hs.rules
  have hr := (check_right h0).ranged
  have hn := (check_right h0).named
  have hf := (check_right h0).ruled
  have hb4 := hr.bears
  have hr8 := hr.turnings
  have hr6 := hr.bins
  refine t_seq ?_
  refine t_region ?_
  refine r_box_agg rfl ?_
  refine asX rfl ?_
  refine asI rfl ?_
  refine r_nil ?_
  refine i_then ?_
  refine t_seq ?_
  refine t_seq ?_
  refine t_region ?_
  refine r_load_ppN rfl rfl rfl (by exact Nat.le_of_ble_eq_true rfl) ?_
  refine r_call (c_Check f hs) rfl rfl rfl rfl rfl ?_
  refine asI rfl ?_
  refine r_nil ?_
  refine i_then ?_
  refine t_seq ?_
  refine t_region ?_
  refine mvI rfl ?_
  refine r_bin rfl rfl rfl ?_
  refine r_nil ?_
  refine i_then ?_
  refine t_cond_ff rfl (by rw [h0]; rfl) ?_
  refine t_skip ?_
  refine i_then ?_
  refine t_seq ?_
  refine t_seq ?_
  refine t_region ?_
  refine mvB rfl ?_
  refine r_nil ?_
  refine i_then ?_
  refine t_cond_ff rfl (rfl) ?_
  refine t_skip ?_
  refine i_then ?_
  refine t_seq ?_
  refine t_draw mixed rfl ?_
  refine r_load_ppN rfl rfl rfl (by exact Nat.le_of_ble_eq_true rfl) ?_
  refine r_load_ppN rfl rfl rfl (by exact Nat.le_of_ble_eq_true rfl) ?_
  refine r_call (c_ahead f hs hf) rfl rfl rfl rfl rfl ?_
  refine r_buildO BrdE (sbS f hf 0 0 0) rfl rfl (by exact List.cons_ne_nil _ _) rfl (by repeat (first | exact (Parts.nil : Parts _ _ [] _) | (show Parts _ _ ((_, _) :: _) _; apply Parts.agg; (· exact (rfl : _ = Ty.agg _))) | (show Parts _ _ ((_, _) :: _) _; apply Parts.arr; (· exact (rfl : _ = Ty.arr _ _))))) (fill_brd f hf _ rfl rfl) ?_
  refine r_box_ob (E := BrdE) (sbS f hf 0 0 0) rfl rfl ?_
  refine asO rfl ?_
  refine r_nil ?_
  refine ⟨by kernel_rfl, ?_⟩
  refine i_then ?_
  refine t_seq ?_
  refine t_seq ?_
  refine t_region ?_
  refine r_field_pp rfl rfl rfl rfl rfl (by decide) ?_
  refine r_load_pp rfl rfl rfl rfl ?_
  refine r_len rfl rfl rfl ?_
  refine mvI rfl ?_
  refine r_nil ?_
  refine i_then ?_
  refine t_block ?_
  refine t_loop (fun (k : {k : Nat // k ≤ f.bears.length}) => live [(2, Ty.pp (flrTys f)), (7, Ty.ptr 24 0), (26, Ty.int .i64 f.bears.length), (27, Ty.int .i64 (k.1 : Nat))] [(24, Cont.vec BrdE 138 [sbS f hf k.1 0 0])]) (fun k => f.bears.length - k.1) (⟨0, by omega⟩) ?_ fun k => ?_
  · (refine Ent.mk' ?_ ?_ <;> (repeat' (first | exact allSub_zero | exact allTags_nil | refine allSub_succ' ?_ (Ty.sub_any _) | refine allSub_succ' ?_ (Ty.sub_refl _) | refine allTags_cons rfl (Cont.sub_refl _) ?_)))
  ·
    refine t_seq ?_
    refine t_region ?_
    refine r_bin rfl rfl rfl ?_
    refine r_nil ?_
    refine i_then ?_
    refine t_seq ?_
    refine t_cond_dec rfl (fun hc3 => ?_) (fun hc3 => ?_)
    ·
      refine t_skip ?_
      refine i_then ?_
      refine t_seq ?_
      refine t_block ?_
      refine t_seq ?_
      refine t_region ?_
      refine mvI rfl ?_
      refine asI rfl ?_
      refine r_nil ?_
      refine i_then ?_
      refine t_seq ?_
      refine t_seq ?_
      refine t_region ?_
      refine r_field_pp rfl rfl rfl rfl rfl (by decide) ?_
      refine r_load_pp rfl rfl rfl rfl ?_
      refine r_len rfl rfl rfl ?_
      refine mvI rfl ?_
      refine r_nil ?_
      refine i_then ?_
      refine t_block ?_
      refine t_loop (fun (q : {q : Nat // q ≤ f.bins.length}) => live [(2, Ty.pp (flrTys f)), (7, Ty.ptr 24 0), (8, Ty.int .i64 (k.1 : Nat)), (26, Ty.int .i64 f.bears.length), (27, Ty.int .i64 (k.1 : Nat)), (31, Ty.sl BinE f.bins), (32, Ty.int .i64 f.bins.length), (33, Ty.int .i64 (q.1 : Nat))] [(24, Cont.vec BrdE 138 [sbS f hf k.1 q.1 0])]) (fun q => f.bins.length - q.1) (⟨0, by omega⟩) ?_ fun q => ?_
      · (refine Ent.mk' ?_ ?_ <;> (repeat' (first | exact allSub_zero | exact allTags_nil | refine allSub_succ' ?_ (Ty.sub_any _) | refine allSub_succ' ?_ (Ty.sub_refl _) | refine allTags_cons rfl (Cont.sub_refl _) ?_)))
      ·
        refine t_seq ?_
        refine t_region ?_
        refine r_bin rfl rfl rfl ?_
        refine r_nil ?_
        refine i_then ?_
        refine t_seq ?_
        refine t_cond_dec rfl (fun hc4 => ?_) (fun hc4 => ?_)
        ·
          refine t_skip ?_
          refine i_then ?_
          refine t_seq ?_
          refine t_block ?_
          refine t_seq ?_
          refine t_region ?_
          refine r_index_slN rfl rfl rfl rfl rfl rfl (by omega) ?_
          refine r_load_ppN rfl rfl rfl (by exact Nat.le_of_ble_eq_true rfl) ?_
          refine r_alloc rfl (by exact List.cons_ne_nil _ _) rfl ?_
          refine r_storeN rfl rfl (by decide) rfl rfl rfl rfl rfl rfl ?_
          refine r_nil ?_
          refine i_then ?_
          have hsh := hr.shares _ (nth_mem (xs := f.bins) (k := q.1) (by omega))
          have hm := mul4 (hr.hasR _ (nth_mem (xs := f.bins) (k := q.1) (by omega))) (share_bound hr (i := q.1) (b := k.1) (by omega))
          have hfb := firstS_bound hr k.1 q.1 (by omega)
          refine t_draw mixed rfl ?_
          refine mvO rfl ?_
          refine mvI rfl ?_
          refine r_nilCheck_ptr rfl ?_
          refine r_field_ptr rfl rfl rfl rfl rfl (by decide) ?_
          refine r_index_ptr rfl rfl rfl rfl rfl (by omega) ?_
          refine r_load_ob rfl rfl (by decide) rfl rfl (sb_load_first (by omega)) ?_
          refine r_field_ptr rfl rfl rfl rfl rfl (by decide) ?_
          refine r_load_ptr rfl rfl (by decide) rfl rfl rfl ?_
          refine r_field_ptr rfl rfl rfl rfl rfl (by decide) ?_
          refine r_load_ptr rfl rfl (by decide) rfl rfl rfl ?_
          refine mvI rfl ?_
          refine r_index_slN rfl rfl rfl rfl rfl rfl (by omega) ?_
          refine r_load_pp rfl rfl rfl rfl ?_
          refine r_mul rfl rfl (by omega) (by omega) ?_
          refine r_add rfl rfl (by omega) (by omega) ?_
          refine r_nilCheck_ptr rfl ?_
          refine r_field_ptr rfl rfl rfl rfl rfl (by decide) ?_
          refine r_index_ptr rfl rfl rfl rfl rfl (by omega) ?_
          refine r_store_ob (z := sbS f hf k.1 (q.1 + 1) 0) rfl rfl (by decide) rfl rfl (by exact (rfl : _ = Ty.int _ _)) rfl (show 0 + 44 + k.1 * 1 < 48 by omega) rfl (sb_set_first (by omega) (by omega)) ?_
          refine r_nil ?_
          refine ⟨by kernel_rfl, ?_⟩
          refine i_block ?_
          refine i_then ?_
          refine t_region ?_
          refine r_add rfl rfl (by omega) (by omega) ?_
          refine mvI rfl ?_
          refine r_nil ?_
          refine i_round (⟨q.1 + 1, by omega⟩) ?_ (by show f.bins.length - (q.1 + 1) < f.bins.length - q.1; omega)
          (refine Ent.mk' ?_ ?_ <;> (repeat' (first | exact allSub_zero | exact allTags_nil | refine allSub_succ' ?_ (Ty.sub_any _) | refine allSub_succ' ?_ (Ty.sub_refl _) | refine allTags_cons rfl (Cont.sub_refl _) ?_)))
          all_goals skip
        ·
          refine t_exit ?_
          refine i_then_exit ?_
          refine i_then_exit ?_
          refine i_block_exit rfl ?_
          refine i_then ?_
          refine t_seq ?_
          refine t_region ?_
          refine r_field_pp rfl rfl rfl rfl rfl (by decide) ?_
          refine r_load_pp rfl rfl rfl rfl ?_
          refine r_len rfl rfl rfl ?_
          refine mvI rfl ?_
          refine r_nil ?_
          refine i_then ?_
          refine t_block ?_
          refine t_loop (fun (a : {a : Nat // a ≤ f.turnings.length}) => live [(2, Ty.pp (flrTys f)), (7, Ty.ptr 24 0), (8, Ty.int .i64 (k.1 : Nat)), (26, Ty.int .i64 f.bears.length), (27, Ty.int .i64 (k.1 : Nat)), (57, Ty.sl TrnE f.turnings), (58, Ty.int .i64 f.turnings.length), (59, Ty.int .i64 (a.1 : Nat))] [(24, Cont.vec BrdE 138 [sbS f hf k.1 q.1 a.1])]) (fun a => f.turnings.length - a.1) (⟨0, by omega⟩) ?_ fun a => ?_
          · (refine Ent.mk' ?_ ?_ <;> (repeat' (first | exact allSub_zero | exact allTags_nil | refine allSub_succ' ?_ (Ty.sub_any _) | refine allSub_succ' ?_ (Ty.sub_refl _) | refine allTags_cons rfl (Cont.sub_refl _) ?_)))
          ·
            refine t_seq ?_
            refine t_region ?_
            refine r_bin rfl rfl rfl ?_
            refine r_nil ?_
            refine i_then ?_
            refine t_seq ?_
            refine t_cond_dec rfl (fun hc5 => ?_) (fun hc5 => ?_)
            ·
              refine t_skip ?_
              refine i_then ?_
              refine t_seq ?_
              refine t_block ?_
              refine t_seq ?_
              refine t_region ?_
              refine mvI rfl ?_
              refine r_index_slN rfl rfl rfl rfl rfl rfl (by omega) ?_
              refine r_load_ppN rfl rfl rfl (by exact Nat.le_of_ble_eq_true rfl) ?_
              refine r_alloc rfl (by exact List.cons_ne_nil _ _) rfl ?_
              refine asI rfl ?_
              refine r_storeN rfl rfl (by decide) rfl rfl rfl rfl rfl rfl ?_
              refine r_nil ?_
              refine i_then ?_
              have hna := hn _ (nth_mem (xs := f.turnings) (k := a.1) (by omega))
              have h1 := shareP_bound hr hna.1 k.1
              have h2 := shareP_bound hr hna.2 k.1
              have h3 := addS_bound hr hn (t := a.1) (by omega) k.1
              unfold shareP at h1 h2
              unfold addS shareP at h3
              refine t_draw mixed rfl ?_
              refine mvO rfl ?_
              refine mvI rfl ?_
              refine mvI rfl ?_
              refine r_field_ptr rfl rfl rfl rfl rfl (by decide) ?_
              refine r_load_ptr rfl rfl (by decide) rfl rfl rfl ?_
              refine r_load_ppN rfl rfl rfl (by exact Nat.le_of_ble_eq_true rfl) ?_
              refine r_field_ptr rfl rfl rfl rfl rfl (by decide) ?_
              refine r_load_ptr rfl rfl (by decide) rfl rfl rfl ?_
              refine mvI rfl ?_
              refine r_call (c_share f hs hr _ k.1 hna.2 (by omega)) rfl rfl rfl rfl rfl ?_
              refine r_load_ppN rfl rfl rfl (by exact Nat.le_of_ble_eq_true rfl) ?_
              refine r_field_ptr rfl rfl rfl rfl rfl (by decide) ?_
              refine r_load_ptr rfl rfl (by decide) rfl rfl rfl ?_
              refine mvI rfl ?_
              refine r_call (c_share f hs hr _ k.1 hna.1 (by omega)) rfl rfl rfl rfl rfl ?_
              refine r_sub rfl rfl (by omega) (by omega) ?_
              refine r_mul rfl rfl (by omega) (by omega) ?_
              refine r_nilCheck_ptr rfl ?_
              refine r_field_ptr rfl rfl rfl rfl rfl (by decide) ?_
              refine r_index_ptr rfl rfl rfl rfl rfl (by omega) ?_
              refine r_index_ptr rfl rfl rfl rfl rfl (by omega) ?_
              refine r_store_ob (z := sbS f hf k.1 q.1 (a.1 + 1)) rfl rfl (by decide) rfl rfl (by exact (rfl : _ = Ty.int _ _)) rfl (show 0 + 12 + a.1 * 4 + k.1 * 1 < 48 by omega) rfl (sb_set_adds (by omega) (by omega)) ?_
              refine r_nil ?_
              refine ⟨by kernel_rfl, ?_⟩
              refine i_block ?_
              refine i_then ?_
              refine t_region ?_
              refine r_add rfl rfl (by omega) (by omega) ?_
              refine mvI rfl ?_
              refine r_nil ?_
              refine i_round (⟨a.1 + 1, by omega⟩) ?_ (by show f.turnings.length - (a.1 + 1) < f.turnings.length - a.1; omega)
              (refine Ent.mk' ?_ ?_ <;> (repeat' (first | exact allSub_zero | exact allTags_nil | refine allSub_succ' ?_ (Ty.sub_any _) | refine allSub_succ' ?_ (Ty.sub_refl _) | refine allTags_cons rfl (Cont.sub_refl _) ?_)))
              all_goals skip
            ·
              refine t_exit ?_
              refine i_then_exit ?_
              refine i_then_exit ?_
              refine i_block_exit rfl ?_
              refine i_block ?_
              refine i_then ?_
              refine t_region ?_
              refine r_add rfl rfl (by omega) (by omega) ?_
              refine mvI rfl ?_
              refine r_nil ?_
              refine i_round (⟨k.1 + 1, by omega⟩) ?_ (by show f.bears.length - (k.1 + 1) < f.bears.length - k.1; omega)
              (refine Ent.mk' ?_ ?_ <;> (repeat' (first | exact allSub_zero | exact allTags_nil | refine allSub_succ' ?_ (Ty.sub_any _) | refine allSub_succ' ?_ (Ty.sub_refl _) | refine allTags_cons rfl ?_ ?_)))
              all_goals skip
              exact Cont.sub_vec (by rw [show q.1 = f.bins.length by have := q.2; omega, show a.1 = f.turnings.length by have := a.2; omega, sb_next])
    ·
      refine t_exit ?_
      refine i_then_exit ?_
      refine i_then_exit ?_
      refine i_block_exit rfl ?_
      refine i_then ?_
      refine t_seq ?_
      refine t_pub (tg := 24) [(7, Ty.pe BrdE (sbS f hf k.1 0 0) 0)] (by decide) rfl ⟨pub_ob rfl rfl (by decide), trivial⟩ ?_
      refine t_region ?_
      refine mvPe rfl ?_
      refine asPe rfl ?_
      refine asI rfl ?_
      refine r_nil ?_
      refine i_then ?_
      refine t_ret ?_
      refine i_rp2 rfl rfl rfl ?_ ?_
      all_goals first | exact ret_refl rfl rfl | skip
      exact ret_eq rfl rfl (by rw [show k.1 = f.bears.length by have := k.2; omega]; rfl)
set_option maxRecDepth 100000 in
theorem c_whole1 (b : SB) (s t : Nat) (hs : s < 256) (ht : t < 8) (hb : ∀ k, nth b.1.before k < 256) : Ctr Try.prog 128 [Ty.int .i64 (t : Nat), Ty.pp [Ty.pe BrdE b 0], Ty.pp [Ty.int .i64 (s : Nat)]] (Ty.bool (decide (andNotN (nth b.1.before t) s = 0))) := by
  refine fn_intro Try.func128 rfl (by decide) Try.ntmps128 (by exact Nat.le_of_ble_eq_true rfl) fun w0 M0 => ?_
  have hbt := hb t
  refine t_seq ?_
  refine t_region ?_
  refine asB rfl ?_
  refine r_nil ?_
  refine i_then ?_
  refine t_seq ?_
  refine t_draw mixed rfl ?_
  refine r_load_pp rfl rfl rfl rfl ?_
  refine mvI rfl ?_
  refine r_nilCheck_pe rfl ?_
  refine r_field_pe rfl rfl rfl rfl rfl (by decide) ?_
  refine r_index_pe rfl rfl rfl rfl rfl (by omega) ?_
  refine r_load_pe (ty := Ty.int .i64 (nth b.1.before t : Nat)) rfl rfl rfl (by rw [show 0 + 4 + t * 1 = 4 + t by omega]; exact brd_before b.2 ht) ?_
  refine r_load_pp rfl rfl rfl rfl ?_
  refine r_andNotN rfl rfl (by omega) ?_
  refine r_bin rfl rfl rfl ?_
  refine asB rfl ?_
  refine r_nil ?_
  refine ⟨by kernel_rfl, ?_⟩
  refine i_then ?_
  refine t_ret ?_
  refine i_rp1 rfl rfl ?_
  all_goals skip
  exact ret_eq rfl rfl (congrArg Ty.bool (decide_eq_decide.2 (by omega)))
set_option maxRecDepth 100000 in
theorem c_whole (b : SB) (s : Nat) (hs : s < 256) (hb : ∀ k, nth b.1.before k < 256) : Ctr Try.prog 97 [Ty.pe BrdE b 0, Ty.int .i64 (s : Nat)] (Ty.bool (wholeP b s)) := by
  refine fn_intro Try.func97 rfl (by decide) Try.ntmps97 (by exact Nat.le_of_ble_eq_true rfl) fun w0 M0 => ?_
  refine t_seq ?_
  refine t_region ?_
  refine r_box_one (by exact (rfl : _ = Ty.pe _ _ _)) rfl ?_
  refine r_box_one (by exact (rfl : _ = Ty.int _ _)) rfl ?_
  refine asB rfl ?_
  refine r_nil ?_
  refine i_then ?_
  refine t_seq ?_
  refine t_region ?_
  refine r_load_pp rfl rfl rfl rfl ?_
  refine r_call (c_members s hs) rfl rfl rfl rfl rfl ?_
  refine r_makeFunc rfl ?_
  refine r_call (c_every_int (membersM s) (Ty.clo _ [Ty.pp [Ty.pe BrdE b 0], Ty.pp [Ty.int .i64 (s : Nat)]]) rfl (fun t => decide (andNotN (nth b.1.before t.toNat) s = 0)) rfl rfl fun t ht => by have h := members_lt t ht; obtain ⟨n, rfl⟩ := Int.eq_ofNat_of_zero_le h.1; exact cal_clo (c_whole1 b s n hs (by omega) hb) rfl rfl rfl rfl rfl rfl) rfl rfl rfl rfl rfl ?_
  refine asB rfl ?_
  refine r_nil ?_
  refine i_then ?_
  refine t_ret ?_
  refine i_rp1 rfl rfl ?_
  all_goals exact ret_refl rfl rfl
set_option maxRecDepth 100000 in
theorem c_sets (b : SB) : Ctr Try.prog 146 [Ty.pe BrdE b 0] (Ty.clo 159 [Ty.pp [Ty.pe BrdE b 0]]) := by
  refine fn_intro Try.func146 rfl (by decide) Try.ntmps146 (by exact Nat.le_of_ble_eq_true rfl) fun w0 M0 => ?_
  refine t_seq ?_
  refine t_region ?_
  refine r_box_one (by exact (rfl : _ = Ty.pe _ _ _)) rfl ?_
  refine asX rfl ?_
  refine r_nil ?_
  refine i_then ?_
  refine t_seq ?_
  refine t_region ?_
  refine r_makeFunc rfl ?_
  refine asF rfl ?_
  refine r_nil ?_
  refine i_then ?_
  refine t_ret ?_
  refine i_rp1 rfl rfl ?_
  all_goals exact ret_refl rfl rfl
end Go.Proofs.Ytifgbnbkimcchaa

namespace Go.Proofs.Ytifgbnbkimcchaa
open Go Go.T
attribute [local irreducible] dInt dBool dSl dPp dPtr dAgg dTup dClo dAny dEx dStr dGd dCells dVec dVs dRow dOp nth Tri Into TOps Ctr bodyPost Exit.then Exit.inBlock Code.wp Code.wpIn dWhen dPa dPe dAo dArr dMp dPm dMap dCJ CtrG CtrI OpY keepPost iterPost bodyPostM roundQ
theorem brd_take_first (b : SB) : ((BrdE.tys b).drop (0 + 44)).take 4 = b.1.first.flatMap I64.tys := by
  show ((brdTys b.1).drop 44).take 4 = _
  have h1 := b.2.before
  have h2 := b.2.adds
  have h3 := b.2.first
  rw [brdTys_eq, i64_map, List.drop_append, List.drop_append, List.drop_append]
  simp only [flrTys_len, List.length_map, h1, h2]
  rw [List.drop_eq_nil_of_le (by rw [flrTys_len]; omega), List.drop_eq_nil_of_le (by simp [h1]), List.drop_eq_nil_of_le (by simp [h2])]
  simp only [List.nil_append, Nat.reduceSub, List.drop_zero]
  rw [List.take_of_length_le (by simp [h3])]
set_option maxRecDepth 100000 in
theorem c_load (b : SB) (hb : Fine b) (s : Nat) (hs : s < 256) : Ctr Try.prog 99 [Ty.pe BrdE b 0, Ty.int .i64 (s : Nat)] (Ty.arr I64 (loadP b s)) := by
  refine fn_intro Try.func99 rfl (by decide) Try.ntmps99 (by exact Nat.le_of_ble_eq_true rfl) fun w0 M0 => ?_
  have hml := members_len s
  have hfl := b.2.first
  refine t_seq ?_
  refine t_region ?_
  refine r_alloc rfl (by exact List.cons_ne_nil _ _) rfl ?_
  refine r_nil ?_
  refine i_then ?_
  refine t_seq ?_
  refine t_region ?_
  refine mvPe rfl ?_
  refine r_nilCheck_pe rfl ?_
  refine r_field_pe rfl rfl rfl rfl rfl (by decide) ?_
  refine r_load_peA (E' := I64) (ys := b.1.first) rfl rfl rfl (brd_take_first b) (by rw [i64_map, List.length_map, hfl]) ?_
  refine r_alloc rfl (by exact List.cons_ne_nil _ _) rfl ?_
  refine r_store_arr rfl rfl (by decide) rfl rfl (by rw [hfl]; rfl) rfl ?_
  refine r_nil ?_
  refine i_then ?_
  refine t_seq ?_
  refine t_seq ?_
  refine t_region ?_
  refine mvI rfl ?_
  refine r_call (c_members s hs) rfl rfl rfl rfl rfl ?_
  refine r_len rfl rfl rfl ?_
  refine mvI rfl ?_
  refine r_nil ?_
  refine i_then ?_
  refine t_block ?_
  refine t_loop (fun (k : {k : Nat // k ≤ (membersM s).length}) => live [(0, Ty.pe BrdE b 0), (4, Ty.ptr 5 0), (5, Ty.ptr 6 0), (14, Ty.sl I64 (membersM s)), (15, Ty.int .i64 (membersM s).length), (16, Ty.int .i64 (k.1 : Nat))] [(5, Cont.cells 135 [Ty.int .i64 0, Ty.int .i64 0, Ty.int .i64 0, Ty.int .i64 0]), (6, Cont.vec I64 135 (partL b (membersM s) k.1 0))]) (fun k => (membersM s).length - k.1) (⟨0, by omega⟩) ?_ fun k => ?_
  · (refine Ent.mk' ?_ ?_ <;> (repeat' (first | exact allSub_zero | exact allTags_nil | refine allSub_succ' ?_ (Ty.sub_any _) | refine allSub_succ' ?_ (Ty.sub_refl _) | refine allTags_cons rfl (Cont.sub_refl _) ?_ | refine allTags_cons rfl ?_ ?_)))
    exact Cont.sub_vec (partL_start b _)
  ·
    refine t_seq ?_
    refine t_region ?_
    refine r_bin rfl rfl rfl ?_
    refine r_nil ?_
    refine i_then ?_
    refine t_seq ?_
    refine t_cond_dec rfl (fun hc1 => ?_) (fun hc1 => ?_)
    ·
      refine t_skip ?_
      refine i_then ?_
      refine t_seq ?_
      refine t_block ?_
      refine t_seq ?_
      refine t_region ?_
      refine r_index_slN rfl rfl rfl rfl rfl rfl (by omega) ?_
      refine r_load_pp rfl rfl rfl rfl ?_
      refine asI rfl ?_
      refine r_nil ?_
      refine i_then ?_
      refine t_seq ?_
      refine t_region ?_
      refine mvI rfl ?_
      refine r_nil ?_
      refine i_then ?_
      refine t_block ?_
      refine t_loop (fun (j : {j : Nat // j ≤ 4}) => live [(0, Ty.pe BrdE b 0), (4, Ty.ptr 5 0), (5, Ty.ptr 6 0), (7, Ty.int .i64 (nth (membersM s) k.1)), (14, Ty.sl I64 (membersM s)), (15, Ty.int .i64 (membersM s).length), (16, Ty.int .i64 (k.1 : Nat)), (20, Ty.int .i64 (j.1 : Nat))] [(5, Cont.cells 135 [Ty.int .i64 0, Ty.int .i64 0, Ty.int .i64 0, Ty.int .i64 0]), (6, Cont.vec I64 135 (partL b (membersM s) k.1 j.1))]) (fun j => 4 - j.1) (⟨0, by omega⟩) ?_ fun j => ?_
      · (refine Ent.mk' ?_ ?_ <;> (repeat' (first | exact allSub_zero | exact allTags_nil | refine allSub_succ' ?_ (Ty.sub_any _) | refine allSub_succ' ?_ (Ty.sub_refl _) | refine allTags_cons rfl (Cont.sub_refl _) ?_)))
      ·
        refine t_seq ?_
        refine t_region ?_
        refine r_bin rfl rfl rfl ?_
        refine r_nil ?_
        refine i_then ?_
        refine t_seq ?_
        refine t_cond_dec rfl (fun hc2 => ?_) (fun hc2 => ?_)
        ·
          refine t_skip ?_
          refine i_then ?_
          refine t_seq ?_
          refine t_block ?_
          refine t_seq ?_
          refine t_region ?_
          refine mvI rfl ?_
          refine asI rfl ?_
          refine r_nil ?_
          refine i_then ?_
          have hpl := partL_len b (membersM s) k.1 j.1
          have hmt := members_lt _ (nth_mem (xs := membersM s) (k := k.1) (by omega))
          have hla := loadAt_bound hb ((membersM s).take k.1) j.1
          have hlt : ((membersM s).take k.1).length ≤ 8 := by rw [List.length_take]; omega
          have hnp := partL_nth b (membersM s) k.1 (j := j.1) (by omega)
          have had := hb.adds ((nth (membersM s) k.1).toNat * 4 + j.1)
          rw [← hnp] at hla
          refine t_draw mixed rfl ?_
          refine mvI rfl ?_
          refine r_index_ptr rfl rfl rfl rfl rfl (by omega) ?_
          refine r_load_vecA rfl rfl rfl (by decide) rfl rfl (by omega) rfl ?_
          refine mvPe rfl ?_
          refine mvI rfl ?_
          refine mvI rfl ?_
          refine r_nilCheck_pe rfl ?_
          refine r_field_pe rfl rfl rfl rfl rfl (by decide) ?_
          refine r_index_peI (n := 8) rfl rfl rfl rfl rfl (by omega) (by omega) ?_
          refine r_index_pe rfl rfl rfl rfl rfl (by omega) ?_
          refine r_load_pe (ty := Ty.int .i64 (nth b.1.adds ((nth (membersM s) k.1).toNat * 4 + j.1))) rfl rfl rfl (by rw [show 0 + 12 + (nth (membersM s) k.1).toNat * 4 + j.1 * 1 = 12 + ((nth (membersM s) k.1).toNat * 4 + j.1) by omega]; exact brd_adds b.2 (by omega)) ?_
          refine r_add rfl rfl (by omega) (by omega) ?_
          refine r_index_ptr rfl rfl rfl rfl rfl (by omega) ?_
          refine r_store_vecA rfl rfl rfl (by decide) rfl rfl (by exact (rfl : _ = Ty.int _ _)) rfl (by omega) (by decide) rfl rfl ?_
          refine r_nil ?_
          refine ⟨by kernel_rfl, ?_⟩
          refine i_block ?_
          refine i_then ?_
          refine t_region ?_
          refine r_add rfl rfl (by omega) (by omega) ?_
          refine mvI rfl ?_
          refine r_nil ?_
          refine i_round (⟨j.1 + 1, by omega⟩) ?_ (by show 4 - (j.1 + 1) < 4 - j.1; omega)
          (refine Ent.mk' ?_ ?_ <;> (repeat' (first | exact allSub_zero | exact allTags_nil | refine allSub_succ' ?_ (Ty.sub_any _) | refine allSub_succ' ?_ (Ty.sub_refl _) | refine allTags_cons rfl (Cont.sub_refl _) ?_ | refine allTags_cons rfl ?_ ?_)))
          all_goals skip
          exact Cont.sub_vec (partL_set b (by omega) (by omega))
        ·
          refine t_exit ?_
          refine i_then_exit ?_
          refine i_then_exit ?_
          refine i_block_exit rfl ?_
          refine i_block ?_
          refine i_then ?_
          refine t_region ?_
          refine r_add rfl rfl (by omega) (by omega) ?_
          refine mvI rfl ?_
          refine r_nil ?_
          refine i_round (⟨k.1 + 1, by omega⟩) ?_ (by show (membersM s).length - (k.1 + 1) < (membersM s).length - k.1; omega)
          (refine Ent.mk' ?_ ?_ <;> (repeat' (first | exact allSub_zero | exact allTags_nil | refine allSub_succ' ?_ (Ty.sub_any _) | refine allSub_succ' ?_ (Ty.sub_refl _) | refine allTags_cons rfl (Cont.sub_refl _) ?_ | refine allTags_cons rfl ?_ ?_)))
          all_goals skip
          exact Cont.sub_vec (by rw [show j.1 = 4 by have := j.2; omega, partL_next])
    ·
      refine t_exit ?_
      refine i_then_exit ?_
      refine i_then_exit ?_
      refine i_block_exit rfl ?_
      refine i_then ?_
      refine t_seq ?_
      refine t_region ?_
      refine r_load_vecN rfl rfl (by decide) rfl rfl (by rw [partL_len]; rfl) (fun e => by have h := congrArg List.length e; rw [partL_len] at h; cases h) ?_
      refine r_store_arr rfl rfl (by decide) rfl rfl (by rw [partL_len]; rfl) rfl ?_
      refine r_nil ?_
      refine i_then ?_
      refine t_ret ?_
      refine i_rcella_eq (partL_end b s k.1 (by omega)) rfl rfl rfl rfl (by decide) rfl rfl (by rw [partL_len]; rfl) (fun e => by have h := congrArg List.length e; rw [partL_len] at h; cases h)
set_option maxRecDepth 100000 in
theorem c_margin (b : SB) (hb : Fine b) (l : List Int) (hl : l.length = 4) (hl2 : ∀ i, -100000 ≤ nth l i ∧ nth l i ≤ 100000) : Ctr Try.prog 98 [Ty.pe BrdE b 0, Ty.arr I64 l] (Ty.int .i64 (marginP b l)) := by
  refine fn_intro Try.func98 rfl (by decide) Try.ntmps98 (by exact Nat.le_of_ble_eq_true rfl) fun w0 M0 => ?_
  have h1 := hb.nb1
  have h4 := hb.nb
  have hb0 := hb.bears 0
  have hl0 := hl2 0
  refine t_seq ?_
  refine t_region ?_
  refine r_box_arr rfl ?_
  refine asI rfl ?_
  refine r_nil ?_
  refine i_then ?_
  refine t_seq ?_
  refine t_draw mixed rfl ?_
  refine mvPe rfl ?_
  refine r_nilCheck_pe rfl ?_
  refine r_field_pe rfl rfl rfl rfl rfl (by decide) ?_
  refine r_field_pe rfl rfl rfl rfl rfl (by decide) ?_
  refine r_load_pe rfl rfl rfl rfl ?_
  refine r_index_slN (i := 0) rfl rfl rfl rfl rfl rfl (by omega) ?_
  refine r_load_pp rfl rfl rfl rfl ?_
  refine r_index_pa (i := 0) rfl rfl rfl rfl rfl (by decide) ?_
  refine r_load_pa (i := 0) rfl rfl rfl rfl (by omega) rfl ?_
  refine r_sub rfl rfl (by omega) (by omega) ?_
  refine asI rfl ?_
  refine r_nil ?_
  refine ⟨by kernel_rfl, ?_⟩
  refine i_then ?_
  refine t_seq ?_
  refine t_seq ?_
  refine t_region ?_
  refine mvPe rfl ?_
  refine r_nilCheck_pe rfl ?_
  refine r_field_pe rfl rfl rfl rfl rfl (by decide) ?_
  refine r_field_pe rfl rfl rfl rfl rfl (by decide) ?_
  refine r_load_pe rfl rfl rfl rfl ?_
  refine r_len rfl rfl rfl ?_
  refine mvI rfl ?_
  refine r_nil ?_
  refine i_then ?_
  refine t_block ?_
  refine t_loop (fun (k : {k : Nat // k ≤ b.1.f.bears.length}) => live [(3, Ty.pa I64 l 0), (5, Ty.int .i64 (minRow b.1.f l k.1 (nth b.1.f.bears 0 - nth l 0))), (22, Ty.sl I64 b.1.f.bears), (23, Ty.int .i64 b.1.f.bears.length), (24, Ty.int .i64 (k.1 : Nat))] []) (fun k => b.1.f.bears.length - k.1) (⟨0, by omega⟩) ?_ fun k => ?_
  · (refine Ent.mk' ?_ ?_ <;> (repeat' (first | exact allSub_zero | exact allTags_nil | refine allSub_succ' ?_ (Ty.sub_any _) | refine allSub_succ' ?_ (Ty.sub_refl _))))
  ·
    refine t_seq ?_
    refine t_region ?_
    refine r_bin rfl rfl rfl ?_
    refine r_nil ?_
    refine i_then ?_
    refine t_seq ?_
    refine t_cond_dec rfl (fun hc1 => ?_) (fun hc1 => ?_)
    ·
      refine t_skip ?_
      refine i_then ?_
      refine t_seq ?_
      refine t_block ?_
      refine t_seq ?_
      refine t_region ?_
      refine mvI rfl ?_
      refine r_index_slN rfl rfl rfl rfl rfl rfl (by omega) ?_
      refine r_load_pp rfl rfl rfl rfl ?_
      refine asI rfl ?_
      refine asI rfl ?_
      refine r_nil ?_
      refine i_then ?_
      have hbk := hb.bears k.1
      have hlk := hl2 k.1
      refine t_region ?_
      refine mvI rfl ?_
      refine mvI rfl ?_
      refine mvI rfl ?_
      refine r_index_pa rfl rfl rfl rfl rfl (show k.1 < 4 by omega) ?_
      refine r_load_pa rfl rfl rfl (Nat.zero_add _) (by omega) rfl ?_
      refine r_sub rfl rfl (by omega) (by omega) ?_
      refine r_buildSlice (E := I64) (xs := [_]) rfl rfl rfl rfl rfl (by decide) (by decide) (by repeat (first | exact (Parts.nil : Parts _ _ [] _) | (show Parts _ _ ((_, _) :: _) _; apply Parts.one; (· exact (rfl : _ = Ty.int _ _)); (· exact rfl)))) (by exact rfl) rfl ?_
      refine r_call (c_least _ _) rfl rfl rfl rfl rfl ?_
      refine asI rfl ?_
      refine r_nil ?_
      refine i_block ?_
      refine i_then ?_
      refine t_region ?_
      refine r_add rfl rfl (by omega) (by omega) ?_
      refine mvI rfl ?_
      refine r_nil ?_
      refine i_round (⟨k.1 + 1, by omega⟩) ?_ (by show b.1.f.bears.length - (k.1 + 1) < b.1.f.bears.length - k.1; omega)
      (refine Ent.mk' ?_ ?_ <;> (repeat' (first | exact allSub_zero | exact allTags_nil | refine allSub_succ' ?_ (Ty.sub_any _) | refine allSub_succ' ?_ (Ty.sub_refl _) | refine allSub_succ' ?_ ?_)))
      all_goals skip
      exact Ty.sub_int (by rw [minRow_succ]; rfl)
    ·
      refine t_exit ?_
      refine i_then_exit ?_
      refine i_then_exit ?_
      refine i_block_exit rfl ?_
      refine i_then ?_
      refine t_seq ?_
      refine t_region ?_
      refine mvI rfl ?_
      refine asI rfl ?_
      refine r_nil ?_
      refine i_then ?_
      refine t_ret ?_
      refine i_rp1 rfl rfl ?_
      all_goals skip
      exact ret_eq rfl rfl (congrArg (Ty.int .i64) (by rw [show k.1 = b.1.f.bears.length by have := k.2; omega]; rfl))
set_option maxRecDepth 100000 in
theorem c_keeps1 (b : SB) (hb : Fine b) (s : Nat) (hs : s < 256) : Ctr Try.prog 126 [Ty.int .i64 (s : Nat), Ty.pp [Ty.pe BrdE b 0]] (Ty.bool (keepsP b s)) := by
  refine fn_intro Try.func126 rfl (by decide) Try.ntmps126 (by exact Nat.le_of_ble_eq_true rfl) fun w0 M0 => ?_
  refine t_seq ?_
  refine t_region ?_
  refine asB rfl ?_
  refine r_nil ?_
  refine i_then ?_
  refine t_seq ?_
  refine t_draw mixed rfl ?_
  refine r_load_pp rfl rfl rfl rfl ?_
  refine r_load_pp rfl rfl rfl rfl ?_
  refine mvI rfl ?_
  refine r_call (c_load b hb s hs) rfl rfl rfl rfl rfl ?_
  refine r_call (c_margin b hb _ (loadP_len b s) (fun i => by have := loadP_bound hb s i; omega)) rfl rfl rfl rfl rfl ?_
  refine r_bin rfl rfl rfl ?_
  refine asB rfl ?_
  refine r_nil ?_
  refine ⟨by kernel_rfl, ?_⟩
  refine i_then ?_
  refine t_ret ?_
  refine i_rp1 rfl rfl ?_
  all_goals exact ret_refl rfl rfl
set_option maxRecDepth 100000 in
theorem c_keeps (b : SB) : Ctr Try.prog 96 [Ty.pe BrdE b 0] (Ty.agg [Ty.clo 126 [Ty.pp [Ty.pe BrdE b 0]]]) := by
  refine fn_intro Try.func96 rfl (by decide) Try.ntmps96 (by exact Nat.le_of_ble_eq_true rfl) fun w0 M0 => ?_
  refine t_seq ?_
  refine t_region ?_
  refine r_box_one (by exact (rfl : _ = Ty.pe _ _ _)) rfl ?_
  refine r_alloc rfl (by exact List.cons_ne_nil _ _) rfl ?_
  refine r_nil ?_
  refine i_then ?_
  refine t_seq ?_
  refine t_region ?_
  refine r_makeFunc rfl ?_
  refine r_build rfl rfl (by exact List.cons_ne_nil _ _) rfl (by repeat (first | exact (Parts.nil : Parts _ _ [] _) | (show Parts _ _ ((_, _) :: _) _; apply Parts.one; (· exact (rfl : _ = Ty.clo _ _)); (· exact rfl)))) (by exact (rfl : _ = some [_])) ?_
  refine r_storeN rfl rfl (by decide) rfl rfl rfl rfl rfl rfl ?_
  refine r_nil ?_
  refine i_then ?_
  refine t_ret ?_
  refine i_rcell rfl rfl rfl rfl (by decide) rfl rfl rfl ?_
  exact ret_eq rfl rfl rfl
theorem c_whole_at (b : SB) (s : Nat) (hs : s < 256) (hb : ∀ k, nth b.1.before k < 256) {v : Bool} (h : wholeP b s = v) : Ctr Try.prog 97 [Ty.pe BrdE b 0, Ty.int .i64 (s : Nat)] (Ty.bool v) := h ▸ c_whole b s hs hb
def setEnc (b : SB) (s : Nat) : List Ty := [Ty.int .i64 (s : Nat), Ty.arr I64 (loadP b s)]
set_option maxRecDepth 100000 in
theorem c_sets1 (b : SB) (hb : Fine b) : CtrI Try.prog 159 (fun l => [Ty.ex (yv l), Ty.pp [Ty.pe BrdE b 0]]) ((setsP b).map (setEnc b)) (Ty.tup []) (Ty.tup []) := by
  refine fnI_intro Try.func159 rfl (by decide) Try.ntmps159 (fun _ => by exact Nat.le_of_ble_eq_true rfl) (fun _ => ⟨rfl, rfl⟩) fun l J Jx hJ hJx hY w0 M0 => ?_
  have hnt := hb.nt
  have hsl := shl_le hnt
  have hlen : ((setsP b).map (setEnc b)).length = (setsP b).length := List.length_map _
  refine t_seq ?_
  refine t_region ?_
  refine r_load_pp rfl rfl rfl rfl ?_
  refine r_nilCheck_pe rfl ?_
  refine r_field_pe rfl rfl rfl rfl rfl (by decide) ?_
  refine r_field_pe rfl rfl rfl rfl rfl (by decide) ?_
  refine r_load_pe rfl rfl rfl rfl ?_
  refine r_len rfl rfl rfl ?_
  refine r_shlN (a := 1) rfl rfl (by omega) (by omega) ?_
  refine mvI rfl ?_
  refine r_nil ?_
  refine i_then ?_
  refine t_block ?_
  refine t_loop (fun (k : {k : Nat // k ≤ 1 <<< b.1.f.turnings.length}) => live [(0, Ty.ex (yv l)), (1, Ty.pp [Ty.pe BrdE b 0]), (10, Ty.int .i64 ((1 <<< b.1.f.turnings.length : Nat) : Int)), (11, Ty.int .i64 (k.1 : Nat))] [(0, CJ (hJ (setsUp b k.1).length))]) (fun k => 1 <<< b.1.f.turnings.length - k.1) (⟨0, by omega⟩) ?_ fun k => ?_
  · (refine Ent.mk' ?_ ?_ <;> (repeat' (first | exact allSub_zero | exact allTags_nil | refine allSub_succ' ?_ (Ty.sub_any _) | refine allSub_succ' ?_ (Ty.sub_refl _) | refine allTags_cons rfl (Cont.sub_refl _) ?_)))
  ·
    refine t_seq ?_
    refine t_region ?_
    refine r_bin rfl rfl rfl ?_
    refine r_nil ?_
    refine i_then ?_
    refine t_seq ?_
    refine t_cond_dec rfl (fun hc1 => ?_) (fun hc1 => ?_)
    ·
      refine t_skip ?_
      refine i_then ?_
      refine t_seq ?_
      refine t_block ?_
      refine t_seq ?_
      refine t_region ?_
      refine mvI rfl ?_
      refine asI rfl ?_
      refine r_nil ?_
      refine i_then ?_
      refine t_seq ?_
      cases hsp : (wholeP b k.1)
      ·
        refine t_region ?_
        refine r_load_pp rfl rfl rfl rfl ?_
        refine mvI rfl ?_
        refine r_call (c_whole_at b k.1 (by omega) hb.before hsp) rfl rfl rfl rfl rfl ?_
        refine mvB rfl ?_
        refine r_off rfl rfl rfl rfl ?_
        refine r_off rfl rfl rfl rfl ?_
        refine r_off rfl rfl rfl rfl ?_
        refine r_off rfl rfl rfl rfl ?_
        refine r_off rfl rfl rfl rfl ?_
        refine r_off rfl rfl rfl rfl ?_
        refine r_off rfl rfl rfl rfl ?_
        refine r_pick (ty := Ty.bool false) rfl rfl rfl (fun h => Bool.noConfusion h) (fun _ => Ty.sub_refl _) ?_
        refine r_nil ?_
        refine i_then ?_
        refine t_cond_ff rfl (rfl) ?_
        refine t_skip ?_
        refine i_block ?_
        refine i_then ?_
        refine t_region ?_
        refine r_add rfl rfl (by omega) (by omega) ?_
        refine mvI rfl ?_
        refine r_nil ?_
        refine i_round (⟨k.1 + 1, by omega⟩) ?_ (by exact Nat.sub_lt_sub_left (Int.ofNat_lt.1 hc1) (Nat.lt_succ_self _))
        (refine Ent.mk' ?_ ?_ <;> (repeat' (first | exact allSub_zero | exact allTags_nil | refine allSub_succ' ?_ (Ty.sub_any _) | refine allSub_succ' ?_ (Ty.sub_refl _) | refine allTags_cons rfl ?_ ?_)))
        all_goals skip
        exact Cont.sub_eq (congrArg (fun n => CJ (hJ n)) (by show (setsUp b k.1).length = (setsUp b (k.1 + 1)).length; rw [setsUp_no hsp]))
      ·
        refine t_regionYn 9 rfl rfl ?_
        refine r_load_pp rfl rfl rfl rfl ?_
        refine mvI rfl ?_
        refine r_call (c_whole_at b k.1 (by omega) hb.before hsp) rfl rfl rfl rfl rfl ?_
        refine mvB rfl ?_
        (refine r_on rfl rfl rfl (by apply opT_of; (refine mvX rfl ?_); refine r_nil ?_; exact rfl) ?_)
        (refine r_on rfl rfl rfl (by apply opT_of; (refine mvI rfl ?_); refine r_nil ?_; exact rfl) ?_)
        (refine r_on rfl rfl rfl (by apply opT_of; (refine r_load_pp rfl rfl rfl rfl ?_); refine r_nil ?_; exact rfl) ?_)
        (refine r_on rfl rfl rfl (by apply opT_of; (refine mvI rfl ?_); refine r_nil ?_; exact rfl) ?_)
        (refine r_on rfl rfl rfl (by apply opT_of; (refine r_call (c_load b hb k.1 (by omega)) rfl rfl rfl rfl rfl ?_); refine r_nil ?_; exact rfl) ?_)
        refine r_nil ?_
        refine ⟨_, _, opY_on rfl rfl rfl (opY_yield hJ hJx hY rfl rfl rfl rfl rfl (get_enc (setsUp_nth (Int.ofNat_lt.1 hc1) hsp).2 (congrArg (setEnc b) (setsUp_nth (Int.ofNat_lt.1 hc1) hsp).1)) rfl), ?_, ?_⟩
        ·
          (refine r_on rfl rfl rfl (by apply opT_of; (refine r_not rfl ?_); refine r_nil ?_; exact rfl) ?_)
          refine r_pick (ty := Ty.bool false) rfl rfl rfl (fun _ => (Ty.sub_refl _ : Ty.Sub (Ty.bool (!true)) _)) (fun h => Bool.noConfusion h) ?_
          refine r_nil ?_
          refine i_then ?_
          refine t_cond_ff rfl (rfl) ?_
          refine t_skip ?_
          refine i_block ?_
          refine i_then ?_
          refine t_region ?_
          refine r_add rfl rfl (by omega) (by omega) ?_
          refine mvI rfl ?_
          refine r_nil ?_
          refine i_round (⟨k.1 + 1, by omega⟩) ?_ (by exact Nat.sub_lt_sub_left (Int.ofNat_lt.1 hc1) (Nat.lt_succ_self _))
          (refine Ent.mk' ?_ ?_ <;> (repeat' (first | exact allSub_zero | exact allTags_nil | refine allSub_succ' ?_ (Ty.sub_any _) | refine allSub_succ' ?_ (Ty.sub_refl _) | refine allTags_cons rfl ?_ ?_)))
          all_goals skip
          exact Cont.sub_eq (congrArg (fun n => CJ (hJ n)) (by show (setsUp b k.1).length + 1 = (setsUp b (k.1 + 1)).length; rw [setsUp_yes hsp, List.length_append]; rfl))
        ·
          (refine r_on rfl rfl rfl (by apply opT_of; (refine r_not rfl ?_); refine r_nil ?_; exact rfl) ?_)
          refine r_pick (ty := Ty.bool true) rfl rfl rfl (fun _ => (Ty.sub_refl _ : Ty.Sub (Ty.bool (!false)) _)) (fun h => Bool.noConfusion h) ?_
          refine r_nil ?_
          refine i_then ?_
          refine t_cond_tt rfl (rfl) ?_
          refine t_ret ?_
          refine i_block_ret ?_
          refine i_then_ret ?_
          refine i_then_ret ?_
          refine i_block_ret ?_
          exact y_ret0x rfl rfl
    ·
      refine t_exit ?_
      refine i_then_exit ?_
      refine i_then_exit ?_
      refine i_block_exit rfl ?_
      refine i_end ?_
      exact y_ret0e (hJ := hJ) (by rw [List.length_map, show k.1 = 1 <<< b.1.f.turnings.length by have := k.2; omega]; rfl) rfl rfl
set_option maxRecDepth 100000 in
theorem c_heaviest (b : SB) (hb : Fine b) (bay : Nat) (hbay : bay < 4) : Ctr Try.prog 111 [Ty.pe BrdE b 0, Ty.int .i64 (bay : Nat)] (Ty.tup [Ty.int .i64 (heavyP b bay).1, Ty.int .i64 (heavyP b bay).2]) := by
  refine fnM_intro Try.func111 rfl (by decide) Try.ntmps111 (by exact Nat.le_of_ble_eq_true rfl) fun w0 M0 => ?_
  refine t_seq ?_
  refine t_region ?_
  refine r_box_one (by exact (rfl : _ = Ty.int _ _)) rfl ?_
  refine asI rfl ?_
  refine asI rfl ?_
  refine r_nil ?_
  refine i_then ?_
  refine t_seq ?_
  refine t_draw mixed rfl ?_
  refine mvPe rfl ?_
  refine r_load_pp rfl rfl rfl rfl ?_
  refine r_nilCheck_pe rfl ?_
  refine r_field_pe rfl rfl rfl rfl rfl (by decide) ?_
  refine r_index_pe rfl rfl rfl rfl rfl hbay ?_
  refine r_load_pe (ty := Ty.int .i64 (nth b.1.first bay)) rfl rfl rfl (by rw [show 0 + 44 + bay * 1 = 44 + bay by omega]; exact brd_first b.2 hbay) ?_
  refine r_alloc rfl (by exact List.cons_ne_nil _ _) rfl ?_
  refine r_alloc rfl (by exact List.cons_ne_nil _ _) rfl ?_
  refine r_store1 rfl rfl (by decide) rfl rfl (by exact (rfl : _ = Ty.int _ _)) rfl (by exact Nat.le_of_ble_eq_true rfl) rfl rfl (by exact (rfl : _ = [_])) ?_
  refine r_store1 rfl rfl (by decide) rfl rfl (by exact (rfl : _ = Ty.int _ _)) rfl (by exact Nat.le_of_ble_eq_true rfl) rfl rfl (by exact (rfl : _ = [_])) ?_
  refine r_nil ?_
  refine ⟨by kernel_rfl, ?_⟩
  refine i_then ?_
  refine t_seq ?_
  refine t_seq ?_
  refine t_region ?_
  refine mvPe rfl ?_
  refine r_call (c_sets b) rfl rfl rfl rfl rfl ?_
  refine r_nil ?_
  refine i_then ?_
  refine t_block ?_
  refine t_rangeFunc (ps := [18, 19]) (lk [(0, Ty.pe BrdE b 0), (3, Ty.pp [Ty.int .i64 (bay : Nat)]), (6, Ty.ptr 7 0), (7, Ty.ptr 8 0)]) (fun k => [(7, Cont.cells 3 [Ty.int .i64 (heavyUp b bay k).1]), (8, Cont.cells 3 [Ty.int .i64 (heavyUp b bay k).2])]) false [] [7, 8] rfl rfl (c_sets1 b hb) rfl rfl (by decide) (by intro t ht; obtain ⟨x, _, rfl⟩ := List.mem_map.1 ht; exact ⟨rfl, rfl, rfl⟩) rfl rfl (fun _ => rfl) rfl ?_ ?_ ?_ (by intro h; cases h)
  · (refine Ent.mk' ?_ ?_ <;> (repeat' (first | exact allSub_zero | exact allTags_nil | refine allSub_succ' ?_ (Ty.sub_any _) | refine allSub_succ' ?_ (Ty.sub_refl _) | refine allTags_cons rfl (Cont.sub_refl _) ?_)))
  · intro k tys hk
    obtain ⟨hk1, rfl⟩ := enc_get hk
    have hll := loadP_len b (nth (setsP b) k)
    refine ⟨live [(3, Ty.pp [Ty.int .i64 (bay : Nat)]), (6, Ty.ptr 7 0), (7, Ty.ptr 8 0), (8, Ty.int .i64 (nth (setsP b) k : Nat)), (9, Ty.ptr 10 0)] [(7, Cont.cells 3 [Ty.int .i64 (heavyUp b bay k).1]), (8, Cont.cells 3 [Ty.int .i64 (heavyUp b bay k).2]), (10, Cont.vec I64 135 (loadP b (nth (setsP b) k)))], fun l w M => ?_, fun l w M => ?_⟩
    ·
      refine t_seq ?_
      refine t_region ?_
      refine asI rfl ?_
      refine r_nil ?_
      refine i_then ?_
      refine t_region ?_
      refine r_alloc rfl (by exact List.cons_ne_nil _ _) rfl ?_
      refine r_store_arr rfl rfl (by decide) rfl rfl (by rw [hll]; rfl) rfl ?_
      refine r_nil ?_
      refine i_join ?_
      (refine Ent.mk' ?_ ?_ <;> (repeat' (first | exact allSub_zero | exact allTags_nil | refine allSub_succ' ?_ (Ty.sub_any _) | refine allSub_succ' ?_ (Ty.sub_refl _) | refine allTags_cons rfl (Cont.sub_refl _) ?_)))
    ·
      refine t_block ?_
      refine t_seq ?_
      refine t_draw mixed rfl ?_
      refine r_load_pp rfl rfl rfl rfl ?_
      refine r_index_ptr rfl rfl rfl rfl rfl hbay ?_
      refine r_load_vecA rfl rfl rfl (by decide) rfl rfl (by omega) rfl ?_
      refine r_load_ptr rfl rfl (by decide) rfl rfl rfl ?_
      refine r_bin rfl rfl rfl ?_
      refine r_nil ?_
      refine ⟨by kernel_rfl, ?_⟩
      refine i_then ?_
      refine t_cond_dec rfl (fun hc1 => ?_) (fun hc1 => ?_)
      ·
        refine t_draw mixed rfl ?_
        refine mvI rfl ?_
        refine r_load_pp rfl rfl rfl rfl ?_
        refine r_index_ptr rfl rfl rfl rfl rfl hbay ?_
        refine r_load_vecA rfl rfl rfl (by decide) rfl rfl (by omega) rfl ?_
        refine r_store1 rfl rfl (by decide) rfl rfl (by exact (rfl : _ = Ty.int _ _)) rfl (by exact Nat.le_of_ble_eq_true rfl) rfl rfl (by exact (rfl : _ = [_])) ?_
        refine r_store1 rfl rfl (by decide) rfl rfl (by exact (rfl : _ = Ty.int _ _)) rfl (by exact Nat.le_of_ble_eq_true rfl) rfl rfl (by exact (rfl : _ = [_])) ?_
        refine r_nil ?_
        refine ⟨by kernel_rfl, ?_⟩
        refine i_block ?_
        refine q_normal ?_
        (refine Ent.mk' ?_ ?_ <;> (repeat' (first | exact allSub_zero | exact allTags_nil | exact subs_nil | refine allSub_succ' ?_ (Ty.sub_any _) | refine allTags_cons rfl (Cont.sub_subs ?_) ?_ | refine subs_cons ?_ ?_)))
        all_goals exact Ty.sub_int (by rw [heavyUp_succ hk1, heavyS, if_pos hc1])
      ·
        refine t_skip ?_
        refine i_block ?_
        refine q_normal ?_
        (refine Ent.mk' ?_ ?_ <;> (repeat' (first | exact allSub_zero | exact allTags_nil | exact subs_nil | refine allSub_succ' ?_ (Ty.sub_any _) | refine allTags_cons rfl (Cont.sub_subs ?_) ?_ | refine subs_cons ?_ ?_)))
        all_goals exact Ty.sub_int (by rw [heavyUp_succ hk1, heavyS, if_neg hc1])
  ·
    refine i_block ?_
    refine i_then ?_
    refine t_seq ?_
    refine t_draw mixed rfl ?_
    refine r_load_ptr rfl rfl (by decide) rfl rfl rfl ?_
    refine r_load_ptr rfl rfl (by decide) rfl rfl rfl ?_
    refine asI rfl ?_
    refine asI rfl ?_
    refine r_nil ?_
    refine ⟨by kernel_rfl, ?_⟩
    refine i_then ?_
    refine t_ret ?_
    refine m_ret rfl ?_
    refine i_rp2 rfl rfl rfl ?_ ?_
    all_goals skip
    all_goals exact ret_eq rfl rfl (congrArg (Ty.int .i64) (by rw [List.length_map, heavyUp, List.take_length]; rfl))
end Go.Proofs.Ytifgbnbkimcchaa

namespace Go.Proofs.Ytifgbnbkimcchaa
open Go Go.T
def sbD (f : Flr) : SB := ⟨{ f := f, before := List.replicate 8 0, adds := List.replicate 32 0, first := List.replicate 4 0 }, ⟨rfl, rfl, rfl⟩⟩
def boardsOf (f : Flr) : SB := if h : checkP f = 0 then sbM f (check_right h).ruled else sbD f
theorem boardsOf_eq {f : Flr} (h : checkP f = 0) : boardsOf f = sbM f (check_right h).ruled := dif_pos h
theorem boardsOf_fine {f : Flr} (h : checkP f = 0) : Fine (boardsOf f) := by rw [boardsOf_eq h]; exact fine_sb (check_right h)
theorem boardsOf_f (f : Flr) : (boardsOf f).1.f = f := by
  unfold boardsOf; split <;> rfl
theorem openE_zero {f : Flr} {b : Bool} (h : openE f b = 0) : checkP f = 0 ∧ b = false := by
  unfold openE at h
  split at h
  · exact absurd h ‹_›
  · split at h
    · cases h
    · rename_i h1 h2
      exact ⟨Classical.byContradiction fun e => h1 e, Bool.eq_false_iff.2 h2⟩
def mostP (f : Flr) (bay : Int) : Int × Int :=
  if openE f (!inB bay 0 (f.bears.length - 1)) ≠ 0 then (0, openE f (!inB bay 0 (f.bears.length - 1))) else ((heavyP (boardsOf f) bay.toNat).2, 0)
def kwaysP (f : Flr) : KV := waysP (boardsOf f) (keepsP (boardsOf f))
def countP (f : Flr) : Int × Int := if openE f false ≠ 0 then (0, openE f false) else (mg (kwaysP f) 0, 0)
def firstsUp (f : Flr) (k : Nat) : List Int := ((List.range k).filter fun t => decide (mg (kwaysP f) ((1 <<< t : Nat) : Int) > 0)).map fun (t : Nat) => (t : Int)
def firstsP (f : Flr) : List Int × Int := if openE f false ≠ 0 then ([], openE f false) else if mg (kwaysP f) 0 = 0 then ([], 6) else (firstsUp f f.turnings.length, 0)
theorem firstsUp_succ (f : Flr) (k : Nat) : firstsUp f (k + 1) = firstsUp f k ++ if mg (kwaysP f) ((1 <<< k : Nat) : Int) > 0 then [(k : Int)] else [] := by
  unfold firstsUp
  rw [List.range_succ, List.filter_append, List.map_append]
  congr 1
  by_cases h : mg (kwaysP f) ((1 <<< k : Nat) : Int) > 0
  · rw [if_pos h, List.filter_cons_of_pos (by exact decide_eq_true h)]; rfl
  · rw [if_neg h, List.filter_cons_of_neg (by simpa using h)]; rfl
theorem firstsUp_len (f : Flr) (k : Nat) : (firstsUp f k).length ≤ k := by
  have := List.length_filter_le (fun t => decide (mg (kwaysP f) ((1 <<< t : Nat) : Int) > 0)) (List.range k)
  simpa [firstsUp] using this
end Go.Proofs.Ytifgbnbkimcchaa

namespace Go.Proofs.Ytifgbnbkimcchaa
open Go Go.T
attribute [local irreducible] dInt dBool dSl dPp dPtr dAgg dTup dClo dAny dEx dStr dGd dCells dVec dVs dRow dOp nth Tri Into TOps Ctr bodyPost Exit.then Exit.inBlock Code.wp Code.wpIn dWhen dPa dPe dAo dArr dMp dPm dMap dCJ CtrG CtrI OpY keepPost iterPost bodyPostM roundQ
theorem und3 : Try.prog.underlying 3 = some (.int .i64) := by kernel_rfl
theorem zero3 : zeroOf Try.prog 3 = some (.int .i64 0) := by kernel_rfl
theorem mapT143 : mapOf Try.prog 143 = some (3, 3) := by kernel_rfl
theorem c_open (f : Flr) (hs : f.Small) (b : Bool) : Ctr Try.prog 83 [flrT f, Ty.bool b] (Ty.tup [Ty.when (decide (openE f b = 0)) (Ty.pe BrdE (boardsOf f) 0), Ty.int .i64 (openE f b)]) := by
  by_cases h0 : checkP f = 0
  · cases b with
    | true =>
      have e : openE f true = 1 := by rw [openE, if_neg (fun h => h h0), if_pos rfl]
      rw [e]
      exact (c_opened2 f hs h0).mono (Ty.tup2_sub (Ty.sub_when rfl fun h => by simp at h) (Ty.sub_refl _))
    | false =>
      have e : openE f false = 0 := by rw [openE, if_neg (fun h => h h0), if_neg (by simp)]
      rw [e, boardsOf_eq h0]
      exact (c_opened f hs h0).mono (Ty.tup2_sub (Ty.sub_when rfl fun _ => Ty.sub_refl _) (Ty.sub_refl _))
  · have e : openE f b = checkP f := by rw [openE, if_pos h0]
    rw [e]
    exact (c_opened1 f hs b h0).mono (Ty.tup2_sub (Ty.sub_when rfl fun h => by simp [h0] at h) (Ty.sub_refl _))
set_option maxRecDepth 100000 in
theorem c_ways (b : SB) (hb : Fine b) (q : Nat → Bool) (t : Ty) (h1 : t.deps = []) (h2 : t.cdeps = []) (hq : ∀ s : Nat, s < 256 → Cal Try.prog t [Ty.int .i64 (s : Nat)] (Ty.bool (q s))) : Ctr Try.prog 95 [Ty.pe BrdE b 0, Ty.agg [Ty.nd t h1 h2]] (Ty.pm (Value.int .i64) VI64 (waysP b q)) := by
  refine fn_intro Try.func95 rfl (by decide) Try.ntmps95 (by exact Nat.le_of_ble_eq_true rfl) fun w0 M0 => ?_
  have hnt := hb.nt
  have hsl := shl_le hnt
  obtain ⟨N, hN⟩ : ∃ N, N = 1 <<< b.1.f.turnings.length := ⟨_, rfl⟩
  refine t_seq ?_
  refine t_region ?_
  refine r_box_agg rfl ?_
  refine asX rfl ?_
  refine r_nil ?_
  refine i_then ?_
  refine t_seq ?_
  refine t_region ?_
  refine r_makeMap (Value.int .i64) VI64 mapT143 rfl ?_
  refine asM rfl ?_
  refine r_nil ?_
  refine i_then ?_
  refine t_seq ?_
  refine t_seq ?_
  refine t_region ?_
  refine mvPe rfl ?_
  refine r_nilCheck_pe rfl ?_
  refine r_field_pe rfl rfl rfl rfl rfl (by decide) ?_
  refine r_field_pe rfl rfl rfl rfl rfl (by decide) ?_
  refine r_load_pe rfl rfl rfl rfl ?_
  refine r_len rfl rfl rfl ?_
  refine r_shlN (a := 1) rfl rfl (by omega) (by omega) ?_
  refine r_sub rfl rfl (by omega) (by omega) ?_
  refine asI rfl ?_
  refine r_nil ?_
  refine i_then ?_
  refine t_block ?_
  refine t_loop (fun (k : {k : Nat // k ≤ N}) => live [(0, Ty.pe BrdE b 0), (3, Ty.pp [Ty.nd t h1 h2]), (5, Ty.mp 9), (6, Ty.int .i64 ((N : Int) - (k.1 + 1)))] [(9, Cont.mp (Value.int .i64) VI64 (waysDn b q N k.1))]) (fun k => N - k.1) (⟨0, by omega⟩) ?_ fun k => ?_
  · (refine Ent.mk' ?_ ?_ <;> (repeat' (first | exact allSub_zero | exact allTags_nil | refine allSub_succ' ?_ (Ty.sub_any _) | refine allSub_succ' ?_ (Ty.sub_refl _) | refine allTags_cons rfl (Cont.sub_refl _) ?_ | refine allSub_succ' ?_ ?_)))
    exact Ty.sub_int (by show ((1 <<< b.1.f.turnings.length : Nat) : Int) - 1 = (N : Int) - (((0 : Nat) : Int) + 1); rw [← hN]; simp)
  ·
    refine t_seq ?_
    refine t_seq ?_
    refine t_region ?_
    refine mvI rfl ?_
    refine r_bin rfl rfl rfl ?_
    refine r_nil ?_
    refine i_then ?_
    refine t_cond_dec rfl (fun hc1 => ?_) (fun hc1 => ?_)
    ·
      refine t_skip ?_
      refine i_then ?_
      refine t_seq ?_
      refine t_block ?_
      refine t_seq ?_
      refine t_seq ?_
      obtain ⟨s, hs⟩ : ∃ s : Nat, s + (k.1 + 1) = N := ⟨N - (k.1 + 1), by omega⟩
      have hs256 : s < 256 := by omega
      have hcl := clean_all hb q hN k.1 (by omega)
      refine t_as (s := 6) rfl (Ty.sub_int (show (N : Int) - (k.1 + 1) = (s : Nat) by omega)) ?_
      refine t_region ?_
      refine mvPe rfl ?_
      refine mvI rfl ?_
      refine r_call (c_whole b s hs256 hb.before) rfl rfl rfl rfl rfl ?_
      refine r_not rfl ?_
      refine mvB rfl ?_
      apply r_guard (s := 25) rfl rfl rfl
      · intro hg; apply opT_of; (refine r_field_pp rfl rfl rfl rfl rfl (by decide) ?_); refine r_nil ?_; exact rfl
      · exact rfl
      · exact rfl
      apply r_guard (s := 25) rfl rfl rfl
      · intro hg; apply opT_strip (s := 26) rfl (by (rw [hg]; rfl)); apply opT_of; (refine r_load_pp rfl rfl rfl rfl ?_); refine r_nil ?_; exact rfl
      · exact rfl
      · exact rfl
      apply r_guard (s := 25) rfl rfl rfl
      · intro hg; apply opT_of; (refine mvI rfl ?_); refine r_nil ?_; exact rfl
      · exact rfl
      · exact rfl
      apply r_guard (s := 25) rfl rfl rfl
      · intro hg; apply opT_strip (s := 27) rfl (by (rw [hg]; rfl)); apply opT_strip (s := 28) rfl (by (rw [hg]; rfl)); apply opT_of; (refine r_callc rfl (cal_nd h1 h2 (hq s hs256)) rfl ?_); refine r_nil ?_; exact rfl
      · exact rfl
      · exact rfl
      apply r_guard (s := 25) rfl rfl rfl
      · intro hg; apply opT_strip (s := 29) rfl (by (rw [hg]; rfl)); apply opT_of; (refine r_not rfl ?_); refine r_nil ?_; exact rfl
      · exact rfl
      · exact rfl
      refine r_or rfl rfl ?_
      refine r_nil ?_
      refine i_then ?_
      refine t_cond rfl (fun hc2 => ?_) (fun hc2 => ?_)
      ·
        refine t_exit ?_
        refine i_then_exit ?_
        refine i_block_exit rfl ?_
        refine i_then ?_
        refine t_region ?_
        refine mvI rfl ?_
        refine r_sub rfl rfl (by omega) (by omega) ?_
        refine asI rfl ?_
        refine r_nil ?_
        refine i_round (⟨k.1 + 1, by omega⟩) ?_ (by exact Nat.sub_lt_sub_left (by omega) (Nat.lt_succ_self _))
        (refine Ent.mk' ?_ ?_ <;> (repeat' (first | exact allSub_zero | exact allTags_nil | refine allSub_succ' ?_ (Ty.sub_any _) | refine allSub_succ' ?_ (Ty.sub_refl _) | refine allTags_cons rfl ?_ ?_ | refine allSub_succ' ?_ ?_)))
        all_goals skip
        all_goals first | exact Ty.sub_int (by show (s : Int) - 1 = (N : Int) - (((k.1 + 1 : Nat) : Int) + 1); omega) | exact Cont.sub_mp (by show waysDn b q N k.1 = waysDn b q N (k.1 + 1); rw [waysDn, show N - (k.1 + 1) = s by omega, wayS, if_pos hc2])
      ·
        refine t_skip ?_
        refine i_then ?_
        refine t_join (J := live [(0, Ty.pe BrdE b 0), (3, Ty.pp [Ty.nd t h1 h2]), (5, Ty.mp 9), (6, Ty.int .i64 (s : Nat))] [(9, Cont.mp (Value.int .i64) VI64 (wayTop b s (waysDn b q N k.1)))]) ?_ ?_
        ·
          refine t_seq ?_
          refine t_region ?_
          refine mvI rfl ?_
          refine mvPe rfl ?_
          refine r_nilCheck_pe rfl ?_
          refine r_field_pe rfl rfl rfl rfl rfl (by decide) ?_
          refine r_field_pe rfl rfl rfl rfl rfl (by decide) ?_
          refine r_load_pe rfl rfl rfl rfl ?_
          refine r_len rfl rfl rfl ?_
          refine r_shlN (a := 1) rfl rfl (by omega) (by omega) ?_
          refine r_sub rfl rfl (by omega) (by omega) ?_
          refine r_bin rfl rfl rfl ?_
          refine r_nil ?_
          refine i_then ?_
          refine t_cond_dec rfl (fun hc3 => ?_) (fun hc3 => ?_)
          ·
            refine t_region ?_
            refine mvM rfl ?_
            refine mvI rfl ?_
            refine r_mapUpdate (intKey Try.prog 3 .i64 und3) rfl rfl (by decide) rfl key_int rfl rfl mapT143 ?_
            refine r_nil ?_
            refine i_join ?_
            (refine Ent.mk' ?_ ?_ <;> (repeat' (first | exact allSub_zero | exact allTags_nil | refine allSub_succ' ?_ (Ty.sub_any _) | refine allSub_succ' ?_ (Ty.sub_refl _) | refine allTags_cons rfl ?_ ?_)))
            exact Cont.sub_mp (by rw [wayTop, if_pos (by omega)])
          ·
            refine t_skip ?_
            refine i_join ?_
            (refine Ent.mk' ?_ ?_ <;> (repeat' (first | exact allSub_zero | exact allTags_nil | refine allSub_succ' ?_ (Ty.sub_any _) | refine allSub_succ' ?_ (Ty.sub_refl _) | refine allTags_cons rfl ?_ ?_)))
            exact Cont.sub_mp (by rw [wayTop, if_neg (by omega)])
        ·
          refine t_seq ?_
          refine t_region ?_
          refine mvPe rfl ?_
          refine r_nilCheck_pe rfl ?_
          refine r_field_pe rfl rfl rfl rfl rfl (by decide) ?_
          refine r_field_pe rfl rfl rfl rfl rfl (by decide) ?_
          refine r_load_pe rfl rfl rfl rfl ?_
          refine r_len rfl rfl rfl ?_
          refine mvI rfl ?_
          refine r_nil ?_
          refine i_then ?_
          refine t_block ?_
          refine t_loop (fun (j : {j : Nat // j ≤ b.1.f.turnings.length}) => live [(0, Ty.pe BrdE b 0), (3, Ty.pp [Ty.nd t h1 h2]), (5, Ty.mp 9), (6, Ty.int .i64 (s : Nat)), (49, Ty.int .i64 b.1.f.turnings.length), (50, Ty.int .i64 (j.1 : Nat))] [(9, Cont.mp (Value.int .i64) VI64 (wayIn b s (wayTop b s (waysDn b q N k.1)) j.1))]) (fun j => b.1.f.turnings.length - j.1) (⟨0, by omega⟩) ?_ fun j => ?_
          · (refine Ent.mk' ?_ ?_ <;> (repeat' (first | exact allSub_zero | exact allTags_nil | refine allSub_succ' ?_ (Ty.sub_any _) | refine allSub_succ' ?_ (Ty.sub_refl _) | refine allTags_cons rfl (Cont.sub_refl _) ?_)))
          ·
            refine t_seq ?_
            refine t_region ?_
            refine r_bin rfl rfl rfl ?_
            refine r_nil ?_
            refine i_then ?_
            refine t_seq ?_
            refine t_cond_dec rfl (fun hc4 => ?_) (fun hc4 => ?_)
            ·
              refine t_skip ?_
              refine i_then ?_
              refine t_seq ?_
              refine t_block ?_
              refine t_seq ?_
              refine t_region ?_
              refine mvI rfl ?_
              refine asI rfl ?_
              refine r_nil ?_
              refine i_then ?_
              refine t_seq ?_
              have hsh := Nat.shiftRight_le s j.1
              refine t_region ?_
              refine mvI rfl ?_
              refine mvI rfl ?_
              refine r_shrN rfl rfl (by omega) ?_
              refine r_andN (b := 1) rfl rfl (by omega) (by omega) ?_
              refine r_bin rfl rfl rfl ?_
              refine r_nil ?_
              refine i_then ?_
              refine t_cond_dec rfl (fun hc5 => ?_) (fun hc5 => ?_)
              ·
                have hbit : s.testBit j.1 = false := Bool.eq_false_iff.2 fun h => by have := (shift_bit s j.1).2 h; omega
                have hwb := way_bound hb hN hs hcl (j := j.1) (by omega) hbit
                simp only [mg] at hwb
                have hpo := (pop_or hs256 (show j.1 < 8 by omega) hbit).2
                refine t_draw mixed rfl ?_
                refine mvM rfl ?_
                refine mvI rfl ?_
                refine r_lookup (intKey Try.prog 3 .i64 und3) (z0 := (0 : Int)) rfl rfl (by decide) rfl key_int mapT143 zero3 vi64_zero ?_
                refine mvM rfl ?_
                refine mvI rfl ?_
                refine mvI rfl ?_
                refine r_shlN (a := 1) rfl rfl (by omega) (one_shl (by omega)) ?_
                refine r_orN rfl rfl (by omega) (one_shl (by omega)) ?_
                refine r_lookup (intKey Try.prog 3 .i64 und3) (z0 := (0 : Int)) rfl rfl (by decide) rfl key_int mapT143 zero3 vi64_zero ?_
                refine r_add rfl rfl (by omega) (by omega) ?_
                refine r_mapUpdate (intKey Try.prog 3 .i64 und3) rfl rfl (by decide) rfl key_int rfl rfl mapT143 ?_
                refine r_nil ?_
                refine ⟨by kernel_rfl, ?_⟩
                refine i_block ?_
                refine i_then ?_
                refine t_region ?_
                refine r_add rfl rfl (by omega) (by omega) ?_
                refine mvI rfl ?_
                refine r_nil ?_
                refine i_round (⟨j.1 + 1, by omega⟩) ?_ (by show b.1.f.turnings.length - (j.1 + 1) < b.1.f.turnings.length - j.1; omega)
                (refine Ent.mk' ?_ ?_ <;> (repeat' (first | exact allSub_zero | exact allTags_nil | refine allSub_succ' ?_ (Ty.sub_any _) | refine allSub_succ' ?_ (Ty.sub_refl _) | refine allTags_cons rfl ?_ ?_)))
                all_goals skip
                all_goals exact Cont.sub_mp (by rw [wayIn_succ, wayT, if_neg (by simp [hbit])]; rfl)
              ·
                refine t_skip ?_
                refine i_block ?_
                refine i_then ?_
                refine t_region ?_
                refine r_add rfl rfl (by omega) (by omega) ?_
                refine mvI rfl ?_
                refine r_nil ?_
                refine i_round (⟨j.1 + 1, by omega⟩) ?_ (by show b.1.f.turnings.length - (j.1 + 1) < b.1.f.turnings.length - j.1; omega)
                (refine Ent.mk' ?_ ?_ <;> (repeat' (first | exact allSub_zero | exact allTags_nil | refine allSub_succ' ?_ (Ty.sub_any _) | refine allSub_succ' ?_ (Ty.sub_refl _) | refine allTags_cons rfl ?_ ?_)))
                all_goals skip
                all_goals exact Cont.sub_mp (by rw [wayIn_succ, wayT, if_pos (by refine (shift_bit s j.1).1 ?_; have := Nat.mod_two_eq_zero_or_one (s >>> j.1); rw [Nat.and_one_is_mod] at *; omega)])
            ·
              refine t_exit ?_
              refine i_then_exit ?_
              refine i_then_exit ?_
              refine i_block_exit rfl ?_
              refine i_block ?_
              refine i_then ?_
              refine t_region ?_
              refine mvI rfl ?_
              refine r_sub rfl rfl (by omega) (by omega) ?_
              refine asI rfl ?_
              refine r_nil ?_
              refine i_round (⟨k.1 + 1, by omega⟩) ?_ (by exact Nat.sub_lt_sub_left (by omega) (Nat.lt_succ_self _))
              (refine Ent.mk' ?_ ?_ <;> (repeat' (first | exact allSub_zero | exact allTags_nil | refine allSub_succ' ?_ (Ty.sub_any _) | refine allSub_succ' ?_ (Ty.sub_refl _) | refine allTags_cons rfl ?_ ?_ | refine allSub_succ' ?_ ?_)))
              all_goals skip
              all_goals first | exact Ty.sub_int (by show (s : Int) - 1 = (N : Int) - (((k.1 + 1 : Nat) : Int) + 1); omega) | exact Cont.sub_mp (by show wayIn b s (wayTop b s (waysDn b q N k.1)) j.1 = waysDn b q N (k.1 + 1); rw [waysDn, show N - (k.1 + 1) = s by omega, wayS, if_neg (fun h => by rw [hc2] at h; cases h), show j.1 = b.1.f.turnings.length by have := j.2; omega])
    ·
      refine t_exit ?_
      refine i_then_exit ?_
      refine i_then_exit ?_
      refine i_block_exit rfl ?_
      refine i_then ?_
      refine t_seq ?_
      refine t_pub (tg := 9) [(5, Ty.pm (Value.int .i64) VI64 (waysDn b q N k.1))] (by decide) rfl ⟨pub_mp rfl rfl (by decide), trivial⟩ ?_
      refine t_region ?_
      refine mvMP rfl ?_
      refine asMP rfl ?_
      refine r_nil ?_
      refine i_then ?_
      refine t_ret ?_
      refine i_rp1 rfl rfl ?_
      all_goals skip
      exact ret_eq rfl rfl (by rw [show k.1 = N by have := k.2; omega, hN]; rfl)
theorem c_kways (b : SB) (hb : Fine b) : Ctr Try.prog 95 [Ty.pe BrdE b 0, Ty.agg [Ty.clo 126 [Ty.pp [Ty.pe BrdE b 0]]]] (Ty.pm (Value.int .i64) VI64 (waysP b (keepsP b))) :=
  (c_ways b hb (keepsP b) (Ty.clo 126 [Ty.pp [Ty.pe BrdE b 0]]) rfl rfl fun s hs => cal_clo (c_keeps1 b hb s hs) rfl rfl rfl rfl rfl rfl).args ⟨Ty.sub_refl _, fun _ _ _ h => h, trivial⟩
set_option maxRecDepth 100000 in
theorem c_Most (f : Flr) (hs : f.Small) (bay : Int) : Ctr Try.prog 56 [flrT f, Ty.int .i64 bay] (Ty.tup [Ty.int .i64 (mostP f bay).1, Ty.int .i64 (mostP f bay).2]) := by
  refine fn_intro Try.func56 rfl (by decide) Try.ntmps56 (by exact Nat.le_of_ble_eq_true rfl) fun w0 M0 => ?_
  have hs1 := hs.bears; have hs2 := hs.bins; have hs3 := hs.turnings; have hs4 := hs.rules
  refine t_seq ?_
  refine t_region ?_
  refine r_box_agg rfl ?_
  refine asI rfl ?_
  refine asI rfl ?_
  refine r_nil ?_
  refine i_then ?_
  refine t_seq ?_
  refine t_draw mixed rfl ?_
  refine r_load_ppN rfl rfl rfl (by exact Nat.le_of_ble_eq_true rfl) ?_
  refine r_load_ppN rfl rfl rfl (by exact Nat.le_of_ble_eq_true rfl) ?_
  refine mvI rfl ?_
  refine r_call (c_bay f hs _) rfl rfl rfl rfl rfl ?_
  refine r_not rfl ?_
  refine r_call (c_open f hs _) rfl rfl rfl rfl rfl ?_
  refine mvT rfl ?_
  refine r_extract rfl rfl ?_
  refine r_extract rfl rfl ?_
  refine asW rfl ?_
  refine asI rfl ?_
  refine r_nil ?_
  refine ⟨by kernel_rfl, ?_⟩
  refine i_then ?_
  refine t_seq ?_
  refine t_seq ?_
  refine t_region ?_
  refine mvI rfl ?_
  refine r_bin rfl rfl rfl ?_
  refine r_nil ?_
  refine i_then ?_
  refine t_cond_ndec rfl (fun hc1 => ?_) (fun hc1 => ?_)
  ·
    refine t_seq ?_
    refine t_region ?_
    refine mvI rfl ?_
    refine asI rfl ?_
    refine asI rfl ?_
    refine r_nil ?_
    refine i_then ?_
    refine t_ret ?_
    refine i_then_ret ?_
    refine i_rp2 rfl rfl rfl ?_ ?_
    all_goals skip
    all_goals exact ret_eq rfl rfl (congrArg (Ty.int .i64) (by rw [mostP, if_pos hc1]))
  ·
    refine t_skip ?_
    refine i_then ?_
    refine t_seq ?_
    have h0 := openE_zero hc1
    have hin := inB_true (n := bay) (lo := 0) (hi := (f.bears.length : Int) - 1) (by have := h0.2; simpa using this)
    obtain ⟨n, rfl⟩ := Int.eq_ofNat_of_zero_le hin.1
    have hr := (check_right h0.1).ranged
    have hb4 := hr.bears
    have hfi := boardsOf_fine h0.1
    refine t_as (s := 6) rfl (Ty.when_sub (decide_eq_true hc1)) ?_
    refine t_region ?_
    refine mvPe rfl ?_
    refine mvI rfl ?_
    refine r_call (c_heaviest (boardsOf f) hfi n (by omega)) rfl rfl rfl rfl rfl ?_
    refine mvT rfl ?_
    refine r_extract rfl rfl ?_
    refine r_extract rfl rfl ?_
    refine asI rfl ?_
    refine asI rfl ?_
    refine r_nil ?_
    refine i_then ?_
    refine t_seq ?_
    refine t_region ?_
    refine mvI rfl ?_
    refine asI rfl ?_
    refine asI rfl ?_
    refine r_nil ?_
    refine i_then ?_
    refine t_ret ?_
    refine i_rp2 rfl rfl rfl ?_ ?_
    all_goals skip
    all_goals exact ret_eq rfl rfl (congrArg (Ty.int .i64) (by rw [mostP, if_neg (fun h => h hc1)]; try rfl))
set_option maxRecDepth 100000 in
theorem c_Count (f : Flr) (hs : f.Small) : Ctr Try.prog 34 [flrT f] (Ty.tup [Ty.int .i64 (countP f).1, Ty.int .i64 (countP f).2]) := by
  refine fn_intro Try.func34 rfl (by decide) Try.ntmps34 (by exact Nat.le_of_ble_eq_true rfl) fun w0 M0 => ?_
  have hs1 := hs.bears; have hs2 := hs.bins; have hs3 := hs.turnings; have hs4 := hs.rules
  refine t_seq ?_
  refine t_region ?_
  refine r_box_agg rfl ?_
  refine asI rfl ?_
  refine asI rfl ?_
  refine r_nil ?_
  refine i_then ?_
  refine t_seq ?_
  refine t_region ?_
  refine r_load_ppN rfl rfl rfl (by exact Nat.le_of_ble_eq_true rfl) ?_
  refine r_call (c_open f hs _) rfl rfl rfl rfl rfl ?_
  refine mvT rfl ?_
  refine r_extract rfl rfl ?_
  refine r_extract rfl rfl ?_
  refine asW rfl ?_
  refine asI rfl ?_
  refine r_nil ?_
  refine i_then ?_
  refine t_seq ?_
  refine t_seq ?_
  refine t_region ?_
  refine mvI rfl ?_
  refine r_bin rfl rfl rfl ?_
  refine r_nil ?_
  refine i_then ?_
  refine t_cond_ndec rfl (fun hc1 => ?_) (fun hc1 => ?_)
  ·
    refine t_seq ?_
    refine t_region ?_
    refine mvI rfl ?_
    refine asI rfl ?_
    refine asI rfl ?_
    refine r_nil ?_
    refine i_then ?_
    refine t_ret ?_
    refine i_then_ret ?_
    refine i_rp2 rfl rfl rfl ?_ ?_
    all_goals skip
    all_goals exact ret_eq rfl rfl (congrArg (Ty.int .i64) (by rw [countP, if_pos hc1]))
  ·
    refine t_skip ?_
    refine i_then ?_
    refine t_seq ?_
    have h0 := openE_zero hc1
    have hfi := boardsOf_fine h0.1
    refine t_as (s := 4) rfl (Ty.when_sub (decide_eq_true hc1)) ?_
    refine t_region ?_
    refine mvPe rfl ?_
    refine mvPe rfl ?_
    refine r_call (c_keeps (boardsOf f)) rfl rfl rfl rfl rfl ?_
    refine r_call (c_kways (boardsOf f) hfi) rfl rfl rfl rfl rfl ?_
    refine r_lookupP (intKey Try.prog 3 .i64 und3) (z0 := (0 : Int)) rfl rfl key_int mapT143 zero3 vi64_zero ?_
    refine asI rfl ?_
    refine asI rfl ?_
    refine r_nil ?_
    refine i_then ?_
    refine t_ret ?_
    refine i_rp2 rfl rfl rfl ?_ ?_
    all_goals skip
    all_goals exact ret_eq rfl rfl (congrArg (Ty.int .i64) (by rw [countP, if_neg (fun h => h hc1)]; try rfl))
set_option maxRecDepth 100000 in
theorem c_Firsts (f : Flr) (hs : f.Small) : Ctr Try.prog 35 [flrT f] (Ty.tup [Ty.sl I64 (firstsP f).1, Ty.int .i64 (firstsP f).2]) := by
  refine fn_intro Try.func35 rfl (by decide) Try.ntmps35 (by exact Nat.le_of_ble_eq_true rfl) fun w0 M0 => ?_
  have hs1 := hs.bears; have hs2 := hs.bins; have hs3 := hs.turnings; have hs4 := hs.rules
  refine t_seq ?_
  refine t_region ?_
  refine r_box_agg rfl ?_
  refine asX rfl ?_
  refine asI rfl ?_
  refine r_nil ?_
  refine i_then ?_
  refine t_seq ?_
  refine t_region ?_
  refine r_load_ppN rfl rfl rfl (by exact Nat.le_of_ble_eq_true rfl) ?_
  refine r_call (c_open f hs _) rfl rfl rfl rfl rfl ?_
  refine mvT rfl ?_
  refine r_extract rfl rfl ?_
  refine r_extract rfl rfl ?_
  refine asW rfl ?_
  refine asI rfl ?_
  refine r_nil ?_
  refine i_then ?_
  refine t_seq ?_
  refine t_seq ?_
  refine t_region ?_
  refine mvI rfl ?_
  refine r_bin rfl rfl rfl ?_
  refine r_nil ?_
  refine i_then ?_
  refine t_cond_ndec rfl (fun hc1 => ?_) (fun hc1 => ?_)
  ·
    refine t_seq ?_
    refine t_region ?_
    refine mvI rfl ?_
    refine asX rfl ?_
    refine asI rfl ?_
    refine r_nil ?_
    refine i_then ?_
    refine t_ret ?_
    refine i_then_ret ?_
    refine i_rp2 rfl rfl rfl ?_ ?_
    all_goals skip
    all_goals first | exact ret_eq rfl rfl (congrArg (Ty.int .i64) (by rw [firstsP, if_pos hc1])) | exact ret_nil_eq (by rw [firstsP, if_pos hc1])
  ·
    refine t_skip ?_
    refine i_then ?_
    refine t_seq ?_
    have h0 := openE_zero hc1
    have hfi := boardsOf_fine h0.1
    have hnt := (check_right h0.1).ranged.turnings
    refine t_as (s := 4) rfl (Ty.when_sub (decide_eq_true hc1)) ?_
    refine t_region ?_
    refine mvPe rfl ?_
    refine mvPe rfl ?_
    refine r_call (c_keeps (boardsOf f)) rfl rfl rfl rfl rfl ?_
    refine r_call (c_kways (boardsOf f) hfi) rfl rfl rfl rfl rfl ?_
    refine asMP rfl ?_
    refine r_nil ?_
    refine i_then ?_
    refine t_seq ?_
    refine t_seq ?_
    refine t_region ?_
    refine mvMP rfl ?_
    refine r_lookupP (intKey Try.prog 3 .i64 und3) (z0 := (0 : Int)) rfl rfl key_int mapT143 zero3 vi64_zero ?_
    refine r_bin rfl rfl rfl ?_
    refine r_nil ?_
    refine i_then ?_
    refine t_cond_dec rfl (fun hc2 => ?_) (fun hc2 => ?_)
    ·
      refine t_seq ?_
      refine t_region ?_
      refine asX rfl ?_
      refine asI rfl ?_
      refine r_nil ?_
      refine i_then ?_
      refine t_ret ?_
      refine i_then_ret ?_
      refine i_rp2 rfl rfl rfl ?_ ?_
      all_goals skip
      all_goals first | exact ret_eq rfl rfl (congrArg (Ty.int .i64) (by rw [firstsP, if_neg (fun h => h hc1), if_pos (show mg (kwaysP f) 0 = 0 from hc2)])) | exact ret_nil_eq (by rw [firstsP, if_neg (fun h => h hc1), if_pos (show mg (kwaysP f) 0 = 0 from hc2)])
    ·
      refine t_skip ?_
      refine i_then ?_
      refine t_seq ?_
      refine t_region ?_
      refine asX rfl ?_
      refine r_nil ?_
      refine i_then ?_
      refine t_seq ?_
      refine t_seq ?_
      refine t_region ?_
      refine r_field_pp rfl rfl rfl rfl rfl (by decide) ?_
      refine r_load_pp rfl rfl rfl rfl ?_
      refine r_len rfl rfl rfl ?_
      refine mvI rfl ?_
      refine r_nil ?_
      refine i_then ?_
      refine t_block ?_
      refine t_loop (fun (k : {k : Nat // k ≤ f.turnings.length}) => live [(6, Ty.pm (Value.int .i64) VI64 (kwaysP f)), (7, Ty.row I64 3 39 (firstsUp f k.1)), (25, Ty.sl TrnE f.turnings), (26, Ty.int .i64 f.turnings.length), (27, Ty.int .i64 (k.1 : Nat))] []) (fun k => f.turnings.length - k.1) (⟨0, by omega⟩) ?_ fun k => ?_
      · (refine Ent.mk' ?_ ?_ <;> (repeat' (first | exact allSub_zero | exact allTags_nil | refine allSub_succ' ?_ (Ty.sub_any _) | refine allSub_succ' ?_ (Ty.sub_refl _) | refine allSub_succ' ?_ Ty.nil_row)))
      ·
        have hfl := firstsUp_len f k.1
        refine t_seq ?_
        refine t_region ?_
        refine r_bin rfl rfl rfl ?_
        refine r_nil ?_
        refine i_then ?_
        refine t_seq ?_
        refine t_cond_dec rfl (fun hc3 => ?_) (fun hc3 => ?_)
        ·
          refine t_skip ?_
          refine i_then ?_
          refine t_seq ?_
          refine t_block ?_
          refine t_seq ?_
          refine t_region ?_
          refine mvI rfl ?_
          refine asI rfl ?_
          refine r_nil ?_
          refine i_then ?_
          refine t_seq ?_
          refine t_region ?_
          refine mvMP rfl ?_
          refine mvI rfl ?_
          refine r_shlN (a := 1) rfl rfl (by omega) (one_shl (by omega)) ?_
          refine r_lookupP (intKey Try.prog 3 .i64 und3) (z0 := (0 : Int)) rfl rfl key_int mapT143 zero3 vi64_zero ?_
          refine r_bin rfl rfl rfl ?_
          refine r_nil ?_
          refine i_then ?_
          refine t_cond_dec rfl (fun hc4 => ?_) (fun hc4 => ?_)
          ·
            refine t_region ?_
            refine mvR rfl ?_
            refine mvI rfl ?_
            refine r_buildSlice (E := I64) (xs := [_]) rfl rfl rfl rfl rfl (by decide) (by decide) (by repeat (first | exact (Parts.nil : Parts _ _ [] _) | (show Parts _ _ ((_, _) :: _) _; apply Parts.one; (· exact (rfl : _ = Ty.int _ _)); (· exact rfl)))) (by exact rfl) rfl ?_
            refine r_append rfl rfl (by decide) rfl rfl rfl rfl rfl rfl (by decide) (by (simp <;> omega)) (by (simp <;> omega)) ?_
            refine asR rfl ?_
            refine r_nil ?_
            refine i_block ?_
            refine i_then ?_
            refine t_region ?_
            refine r_add rfl rfl (by omega) (by omega) ?_
            refine mvI rfl ?_
            refine r_nil ?_
            refine i_round (⟨k.1 + 1, by omega⟩) ?_ (by show f.turnings.length - (k.1 + 1) < f.turnings.length - k.1; omega)
            (refine Ent.mk' ?_ ?_ <;> (repeat' (first | exact allSub_zero | exact allTags_nil | refine allSub_succ' ?_ (Ty.sub_any _) | refine allSub_succ' ?_ (Ty.sub_refl _) | refine allSub_succ' ?_ ?_)))
            all_goals skip
            all_goals exact Ty.sub_row (by rw [firstsUp_succ, if_pos (by show (mget (kwaysP f) _).getD 0 > 0; omega)])
          ·
            refine t_skip ?_
            refine i_block ?_
            refine i_then ?_
            refine t_region ?_
            refine r_add rfl rfl (by omega) (by omega) ?_
            refine mvI rfl ?_
            refine r_nil ?_
            refine i_round (⟨k.1 + 1, by omega⟩) ?_ (by show f.turnings.length - (k.1 + 1) < f.turnings.length - k.1; omega)
            (refine Ent.mk' ?_ ?_ <;> (repeat' (first | exact allSub_zero | exact allTags_nil | refine allSub_succ' ?_ (Ty.sub_any _) | refine allSub_succ' ?_ (Ty.sub_refl _) | refine allSub_succ' ?_ ?_)))
            all_goals skip
            all_goals exact Ty.sub_row (by rw [firstsUp_succ, if_neg (by show ¬ (mget (kwaysP f) _).getD 0 > 0; omega), List.append_nil])
        ·
          refine t_exit ?_
          refine i_then_exit ?_
          refine i_then_exit ?_
          refine i_block_exit rfl ?_
          refine i_then ?_
          refine t_seq ?_
          refine t_region ?_
          refine mvR rfl ?_
          refine asR rfl ?_
          refine asI rfl ?_
          refine r_nil ?_
          refine i_then ?_
          refine t_ret ?_
          refine i_rp2 rfl rfl rfl ?_ ?_
          all_goals skip
          all_goals first | exact ret_eq rfl rfl (congrArg (Ty.int .i64) (by rw [firstsP, if_neg (fun h => h hc1), if_neg (show ¬ mg (kwaysP f) 0 = 0 from hc2)])) | exact ret_row_eq (by decide) (by rw [firstsP, if_neg (fun h => h hc1), if_neg (show ¬ mg (kwaysP f) 0 = 0 from hc2), show k.1 = f.turnings.length by have := k.2; omega])
end Go.Proofs.Ytifgbnbkimcchaa

namespace Go.Proofs.Ytifgbnbkimcchaa
open Go Go.T
def addB (b : SB) (bay j : Nat) : Int := nth b.1.adds (j * 4 + bay)
def addsUp (b : SB) (bay k : Nat) : List Int := (List.range 8).map fun j => if j < k then max 0 (addB b bay j) else 0
def lessUp (b : SB) (bay k : Nat) : List Int := (List.range 8).map fun j => if j < k then max 0 (-(addB b bay j)) else 0
def boundUpP (b : SB) (bay k : Nat) : Int := nth b.1.first bay + ((List.range k).map fun j => max 0 (addB b bay j)).sum
structure PSt where
  adds : List Int
  less : List Int
  bound : Int
def payT (st : PSt) (p : Pay) : PSt := ⟨st.adds.set p.src.toNat (nth st.adds p.src.toNat - p.much), st.less.set p.dst.toNat (nth st.less p.dst.toNat - p.much), st.bound - p.much⟩
def payBad (st : PSt) (p : Pay) : Bool := decide (p.much > nth st.adds p.src.toNat) || decide (p.much > nth st.less p.dst.toNat)
def payP (st : PSt) (p : Pay) : Option PSt := if payBad st p then none else some (payT st p)
def paysP (st : PSt) (l : List Pay) : Option PSt := l.foldl (fun o p => o.bind fun s => payP s p) (some st)
def pay0 (b : SB) (bay : Nat) : PSt := ⟨addsUp b bay b.1.f.turnings.length, lessUp b bay b.1.f.turnings.length, boundUpP b bay b.1.f.turnings.length⟩
def turnOk (f : Flr) (p : Pay) : Bool := inB p.src 0 (f.turnings.length - 1) && inB p.dst 0 (f.turnings.length - 1)
def aheadOk (b : SB) (p : Pay) : Bool := decide (((nth b.1.before p.src.toNat >>> p.dst.toNat &&& 1 : Nat) : Int) = 1)
def boundsP (f : Flr) (bay : Int) (pays : List Pay) : Int × Int :=
  if openE f (!inB bay 0 (f.bears.length - 1)) ≠ 0 then (0, openE f (!inB bay 0 (f.bears.length - 1)))
  else if !pays.all (turnOk f) then (0, 1)
  else if !pays.all (fun p => decide (p.much ≥ 1)) then (0, 3)
  else if !pays.all (aheadOk (boardsOf f)) then (0, 4)
  else match paysP (pay0 (boardsOf f) bay.toNat) pays with
    | none => (0, 8)
    | some st => (st.bound, 0)
theorem addsUp_set (b : SB) (bay : Nat) {k : Nat} (hk : k < 8) : (addsUp b bay k).set k (max 0 (addB b bay k)) = addsUp b bay (k + 1) :=
  range_set 8 k (fun j => if j < k then max 0 (addB b bay j) else 0) (fun j => if j < k + 1 then max 0 (addB b bay j) else 0) _ fun j _ => by
    by_cases e : j = k
    · subst e; simp
    · by_cases h : j < k
      · rw [if_pos (by omega), if_neg e, if_pos h]
      · rw [if_neg (by omega), if_neg e, if_neg h]
theorem lessUp_set (b : SB) (bay : Nat) {k : Nat} (hk : k < 8) : (lessUp b bay k).set k (max 0 (-(addB b bay k))) = lessUp b bay (k + 1) :=
  range_set 8 k (fun j => if j < k then max 0 (-(addB b bay j)) else 0) (fun j => if j < k + 1 then max 0 (-(addB b bay j)) else 0) _ fun j _ => by
    by_cases e : j = k
    · subst e; simp
    · by_cases h : j < k
      · rw [if_pos (by omega), if_neg e, if_pos h]
      · rw [if_neg (by omega), if_neg e, if_neg h]
theorem addsUp_nth (b : SB) (bay : Nat) {k : Nat} (hk : k < 8) : nth (addsUp b bay (k + 1)) k = max 0 (addB b bay k) := by
  rw [addsUp, nth_map_range _ hk]; simp
theorem boundUpP_succ (b : SB) (bay k : Nat) : boundUpP b bay (k + 1) = boundUpP b bay k + max 0 (addB b bay k) := by
  unfold boundUpP; rw [List.range_succ, List.map_append, List.sum_append]; simp; omega
theorem addB_bound {b : SB} (h : Fine b) (bay j : Nat) : -1200 ≤ addB b bay j ∧ addB b bay j ≤ 1200 := h.adds _
theorem boundUpP_bound {b : SB} (h : Fine b) (bay : Nat) : ∀ k, 0 ≤ boundUpP b bay k ∧ boundUpP b bay k ≤ 7200 + 1200 * k
  | 0 => by have := h.first bay; simp [boundUpP]; omega
  | k + 1 => by
    rw [boundUpP_succ]
    have := boundUpP_bound h bay k
    have := addB_bound h bay k
    omega
structure PSt.Fine (st : PSt) (k : Nat) : Prop where
  la : st.adds.length = 8
  ll : st.less.length = 8
  adds : ∀ j, 0 ≤ nth st.adds j ∧ nth st.adds j ≤ 1200
  less : ∀ j, 0 ≤ nth st.less j ∧ nth st.less j ≤ 1200
  bound : -(1200 * k) ≤ st.bound ∧ st.bound ≤ 20000
theorem nth_set_int {l : List Int} {i : Nat} (v : Int) (j : Nat) : nth (l.set i v) j = if i = j ∧ i < l.length then v else nth l j := by
  show (l.set i v).getD j default = _
  rw [List.getD_eq_getElem?_getD, List.getElem?_set]
  by_cases e : i = j
  · subst e
    by_cases h : i < l.length
    · simp [h]
    · rw [if_pos rfl, if_neg h, if_neg (by simp [h]), nth_out' (by omega)]; rfl
  · rw [if_neg e, if_neg (by simp [e])]
    show _ = l.getD j default
    rw [List.getD_eq_getElem?_getD]
theorem payT_fine {st : PSt} {k : Nat} {p : Pay} (h : st.Fine k) (h1 : 1 ≤ p.much) (hb : payBad st p = false) : (payT st p).Fine (k + 1) := by
  simp only [payBad, Bool.or_eq_false_iff, decide_eq_false_iff_not] at hb
  have ha := h.adds p.src.toNat
  have hl := h.less p.dst.toNat
  have hbd := h.bound
  refine ⟨by simp [payT, h.la], by simp [payT, h.ll], fun j => ?_, fun j => ?_, ?_⟩
  · simp only [payT]; rw [nth_set_int]; split
    · omega
    · exact h.adds j
  · simp only [payT]; rw [nth_set_int]; split
    · omega
    · exact h.less j
  · simp only [payT]; omega
theorem pay0_fine {b : SB} (h : Go.Proofs.Ytifgbnbkimcchaa.Fine b) (bay : Nat) : (pay0 b bay).Fine 0 := by
  have hnt := h.nt
  refine ⟨by simp [pay0, addsUp], by simp [pay0, lessUp], fun j => ?_, fun j => ?_, ?_⟩
  · simp only [pay0, addsUp]
    rcases Nat.lt_or_ge j 8 with hj | hj
    · rw [nth_map_range _ hj]; have := addB_bound h bay j; split <;> omega
    · rw [nth_out (by simpa using hj)]; omega
  · simp only [pay0, lessUp]
    rcases Nat.lt_or_ge j 8 with hj | hj
    · rw [nth_map_range _ hj]; have := addB_bound h bay j; split <;> omega
    · rw [nth_out (by simpa using hj)]; omega
  · have := boundUpP_bound h bay b.1.f.turnings.length
    simp only [pay0]; omega
theorem paysP_none : ∀ l : List Pay, l.foldl (fun o p => o.bind fun s => payP s p) none = none
  | [] => rfl
  | _ :: l => paysP_none l
theorem paysP_succ {pays : List Pay} {st s : PSt} {k : Nat} (hk : k < pays.length) (h : paysP st (pays.take k) = some s) : paysP st (pays.take (k + 1)) = payP s (nth pays k) := by
  unfold paysP at h ⊢
  rw [take_nth hk, List.foldl_append, h]; rfl
theorem paysP_stop {pays : List Pay} {st s : PSt} {k : Nat} (hk : k < pays.length) (h : paysP st (pays.take k) = some s) (hn : payP s (nth pays k) = none) : paysP st pays = none := by
  have := paysP_succ hk h
  rw [hn] at this
  have e : paysP st pays = (pays.drop (k + 1)).foldl (fun o p => o.bind fun s => payP s p) (paysP st (pays.take (k + 1))) := by
    unfold paysP; rw [← List.foldl_append, List.take_append_drop]
  rw [e, this, paysP_none]
theorem wayIn_val (b : SB) (s : Nat) (m : KV) : ∀ j, mg (wayIn b s m j) s = mg m s + ((List.range j).map fun t => if s.testBit t then 0 else mg m ((s ||| 1 <<< t : Nat) : Int)).sum
  | 0 => by simp [wayIn]
  | j + 1 => by
    rw [wayIn_succ, wayT, List.range_succ, List.map_append, List.sum_append]
    cases hb : s.testBit j with
    | true => simp only [if_true]; rw [wayIn_val b s m j]; simp [hb]
    | false =>
      simp only [Bool.false_eq_true, if_false]
      rw [mg_mput, if_pos rfl, wayIn_val b s m j, wayIn_other b (bit_ne hb)]
      simp [hb]; omega
theorem waysDn_later (b : SB) (q : Nat → Bool) (n : Nat) {s k : Nat} (h : n ≤ s + k) : ∀ k', k ≤ k' → k' ≤ n → mg (waysDn b q n k') s = mg (waysDn b q n k) s := by
  intro k' h1 h2
  induction k' with
  | zero => rw [show k = 0 by omega]
  | succ k' ih =>
    rcases Nat.lt_or_ge k' k with h3 | h3
    · rw [show k' + 1 = k by omega]
    · rw [waysDn, wayS_other b q (by omega), ih h3 (by omega)]
theorem or_lt {s t n : Nat} (hs : s < 2 ^ n) (ht : t < n) : s ||| 1 <<< t < 2 ^ n := Nat.or_lt_two_pow hs (by rw [shl_pow]; exact Nat.pow_lt_pow_right (by omega) ht)
theorem or_gt {s t : Nat} (h : s.testBit t = false) : s < s ||| 1 <<< t := Nat.lt_of_le_of_ne Nat.left_le_or (fun e => bit_ne h e.symm)
theorem ways_eq {b : SB} (hb : Fine b) (q : Nat → Bool) {s : Nat} (hs : s < 2 ^ b.1.f.turnings.length) :
    mg (waysP b q) s = if !wholeP b s || !q s then (0 : Int) else (if s + 1 = 2 ^ b.1.f.turnings.length then (1 : Int) else 0) + ((List.range b.1.f.turnings.length).map fun t => if s.testBit t then 0 else mg (waysP b q) ((s ||| 1 <<< t : Nat) : Int)).sum := by
  obtain ⟨N, hN⟩ : ∃ N, N = 1 <<< b.1.f.turnings.length := ⟨_, rfl⟩
  have hN2 : N = 2 ^ b.1.f.turnings.length := by rw [hN, shl_pow]
  have hw : waysP b q = waysDn b q N N := by rw [waysP, hN]
  have hsl := shl_le hb.nt
  rw [hw]
  have hfin : mg (waysDn b q N N) s = mg (waysDn b q N (N - s)) s := waysDn_later b q N (by omega) N (by omega) (Nat.le_refl _)
  have hk : N - s = (N - (s + 1)) + 1 := by omega
  rw [hfin, hk, waysDn, show N - (N - (s + 1) + 1) = s by omega, wayS]
  have hcl := clean_all hb q hN (N - (s + 1)) (by omega)
  have h0 : mg (waysDn b q N (N - (s + 1))) s = 0 := hcl.zero s (by omega)
  split
  · exact h0
  · rw [wayIn_val]
    have hsum : ((List.range b.1.f.turnings.length).map fun t => if s.testBit t then 0 else mg (wayTop b s (waysDn b q N (N - (s + 1)))) ((s ||| 1 <<< t : Nat) : Int)) = (List.range b.1.f.turnings.length).map fun t => if s.testBit t then 0 else mg (waysDn b q N N) ((s ||| 1 <<< t : Nat) : Int) := by
      refine List.map_congr_left fun t ht => ?_
      cases hbt : s.testBit t with
      | true => rfl
      | false =>
        simp only [Bool.false_eq_true, if_false]
        have := or_gt hbt
        rw [wayTop_other b (by omega), ← waysDn_later b q N (k := N - (s + 1)) (by omega) N (by omega) (Nat.le_refl _)]
    rw [hsum]
    congr 1
    unfold wayTop
    by_cases e : s + 1 = 2 ^ b.1.f.turnings.length
    · rw [if_pos (by omega), if_pos e, mg_mput, if_pos rfl]
    · rw [if_neg (by omega), if_neg e, h0]
def okNext (w : KV) (s t : Nat) : Bool := !s.testBit t && decide (mg w ((s ||| 1 <<< t : Nat) : Int) > 0)
def nextUp (w : KV) (s j : Nat) : Int := match (List.range j).find? (okNext w s) with | some t => (t : Int) | none => -1
def safeUp (w : KV) (n : Nat) : Nat → List Int × Nat
  | 0 => ([], 0)
  | i + 1 => let st := safeUp w n i; (st.1 ++ [nextUp w st.2 n], st.2 ||| 1 <<< (nextUp w st.2 n).toNat)
def safeP (f : Flr) : List Int × Int := if openE f false ≠ 0 then ([], openE f false) else if mg (kwaysP f) 0 = 0 then ([], 6) else ((safeUp (kwaysP f) f.turnings.length f.turnings.length).1, 0)
theorem nextUp_succ (w : KV) (s j : Nat) : nextUp w s (j + 1) = if nextUp w s j < 0 ∧ okNext w s j = true then (j : Int) else nextUp w s j := by
  unfold nextUp
  rw [List.range_succ, List.find?_append]
  cases h : (List.range j).find? (okNext w s) with
  | some t => simp only [Option.some_or]; rw [if_neg (by omega)]
  | none =>
    simp only [Option.none_or, List.find?_cons, List.find?_nil]
    cases hk : okNext w s j with
    | true => simp
    | false => simp
theorem nextUp_bound (w : KV) (s j : Nat) : -1 ≤ nextUp w s j ∧ nextUp w s j < j := by
  induction j with
  | zero => exact ⟨Int.le_refl _, by show (-1 : Int) < ((0 : Nat) : Int); decide⟩
  | succ j ih => rw [nextUp_succ]; split <;> omega
theorem nextUp_some {w : KV} {s n : Nat} (h : ∃ t, t < n ∧ okNext w s t = true) : 0 ≤ nextUp w s n ∧ okNext w s (nextUp w s n).toNat = true := by
  obtain ⟨t, ht, hk⟩ := h
  unfold nextUp
  cases hf : (List.range n).find? (okNext w s) with
  | some u => exact ⟨Int.natCast_nonneg u, by simpa using List.find?_some hf⟩
  | none =>
    have := List.find?_eq_none.1 hf t (List.mem_range.2 ht)
    exact absurd hk (by simpa using this)
theorem sum_pos {l : List Int} (h : 0 < l.sum) : ∃ x ∈ l, 0 < x := by
  induction l with
  | nil => simp at h
  | cons x l ih =>
    rw [List.sum_cons] at h
    by_cases hx : 0 < x
    · exact ⟨x, List.mem_cons_self, hx⟩
    · obtain ⟨y, hy, h2⟩ := ih (by omega)
      exact ⟨y, List.mem_cons_of_mem _ hy, h2⟩
theorem alive {b : SB} (hb : Fine b) (q : Nat → Bool) {s : Nat} (hs : s < 2 ^ b.1.f.turnings.length) (hp : 0 < mg (waysP b q) s) (hn : s + 1 ≠ 2 ^ b.1.f.turnings.length) : ∃ t, t < b.1.f.turnings.length ∧ okNext (waysP b q) s t = true := by
  rw [ways_eq hb q hs] at hp
  split at hp
  · omega
  · first | rw [if_neg hn, Int.zero_add] at hp | rw [Int.zero_add] at hp
    obtain ⟨x, hx, h0⟩ := sum_pos hp
    obtain ⟨t, ht, rfl⟩ := List.mem_map.1 hx
    refine ⟨t, List.mem_range.1 ht, ?_⟩
    cases hbt : s.testBit t with
    | true => rw [hbt] at h0; simp at h0
    | false => rw [hbt] at h0; simp only [Bool.false_eq_true, if_false] at h0; simp [okNext, hbt]; exact h0
theorem pop_full_all : ((List.range 9).all fun n => pop (2 ^ n - 1) == n) = true := by decide +kernel
theorem pop_full {n : Nat} (h : n ≤ 8) : pop (2 ^ n - 1) = n := by
  have := List.all_eq_true.1 pop_full_all n (List.mem_range.2 (by omega))
  simpa using this
theorem pow256 {n s : Nat} (h : n ≤ 8) (hs : s < 2 ^ n) : s < 256 := Nat.lt_of_lt_of_le hs (Nat.pow_le_pow_right (n := 2) (by omega) h)
theorem okNext_spec {w : KV} {s t : Nat} (h : okNext w s t = true) : s.testBit t = false ∧ 0 < mg w ((s ||| 1 <<< t : Nat) : Int) := by
  simp only [okNext, Bool.and_eq_true, Bool.not_eq_true', decide_eq_true_eq] at h; exact h
theorem safe_inv {b : SB} (hb : Fine b) (q : Nat → Bool) (h0 : 0 < mg (waysP b q) 0) : ∀ i, i ≤ b.1.f.turnings.length → (safeUp (waysP b q) b.1.f.turnings.length i).2 < 2 ^ b.1.f.turnings.length ∧ pop (safeUp (waysP b q) b.1.f.turnings.length i).2 = i ∧ 0 < mg (waysP b q) ((safeUp (waysP b q) b.1.f.turnings.length i).2 : Nat) ∧ (safeUp (waysP b q) b.1.f.turnings.length i).1.length = i
  | 0, _ => ⟨Nat.two_pow_pos _, by show pop 0 = 0; decide +kernel, h0, rfl⟩
  | i + 1, hi => by
    obtain ⟨h1, h2, h3, h4⟩ := safe_inv hb q h0 i (by omega)
    have hnt := hb.nt
    have hne : (safeUp (waysP b q) b.1.f.turnings.length i).2 + 1 ≠ 2 ^ b.1.f.turnings.length := fun e => by
      have : (safeUp (waysP b q) b.1.f.turnings.length i).2 = 2 ^ b.1.f.turnings.length - 1 := by omega
      rw [this, pop_full hnt] at h2; omega
    obtain ⟨n1, n2⟩ := nextUp_some (alive hb q h1 h3 hne)
    obtain ⟨o1, o2⟩ := okNext_spec n2
    have hlt := (nextUp_bound (waysP b q) (safeUp (waysP b q) b.1.f.turnings.length i).2 b.1.f.turnings.length).2
    refine ⟨or_lt h1 (by omega), ?_, o2, ?_⟩
    · have := (pop_or (pow256 hnt h1) (by omega) o1).1
      show pop (_ ||| _) = _
      rw [this, h2]
    · show (_ ++ [_]).length = _
      rw [List.length_append, h4]; rfl
theorem safe_next {b : SB} (hb : Fine b) (q : Nat → Bool) (h0 : 0 < mg (waysP b q) 0) {i : Nat} (hi : i < b.1.f.turnings.length) :
    0 ≤ nextUp (waysP b q) (safeUp (waysP b q) b.1.f.turnings.length i).2 b.1.f.turnings.length := by
  obtain ⟨h1, h2, h3, h4⟩ := safe_inv hb q h0 i (by omega)
  have hnt := hb.nt
  have hne : (safeUp (waysP b q) b.1.f.turnings.length i).2 + 1 ≠ 2 ^ b.1.f.turnings.length := fun e => by
    have : (safeUp (waysP b q) b.1.f.turnings.length i).2 = 2 ^ b.1.f.turnings.length - 1 := by omega
    rw [this, pop_full hnt] at h2; omega
  exact (nextUp_some (alive hb q h1 h3 hne)).1
theorem ways_nonneg {b : SB} (hb : Fine b) (q : Nat → Bool) {s : Nat} (hs : s < 256) : 0 ≤ mg (waysP b q) s :=
  ((clean_all hb q rfl _ (Nat.le_refl _)).small s hs).1
structure BSt where
  best : KV
  next : KV
  found : Bool
def bestT (b : SB) (own : Int) (s : Nat) (st : BSt) (t : Nat) : BSt :=
  if s.testBit t || !wholeP b (s ||| 1 <<< t) then st
  else if !st.found || decide (min own (mg st.best ((s ||| 1 <<< t : Nat) : Int)) > mg st.best s) then ⟨mput st.best s (min own (mg st.best ((s ||| 1 <<< t : Nat) : Int))), mput st.next s t, true⟩
  else st
def bestIn (b : SB) (s : Nat) (m n : KV) (j : Nat) : BSt := (List.range j).foldl (bestT b (marginP b (loadP b s)) s) ⟨mput m s (marginP b (loadP b s)), n, false⟩
theorem bestIn_succ (b : SB) (s : Nat) (m n : KV) (j : Nat) : bestIn b s m n (j + 1) = bestT b (marginP b (loadP b s)) s (bestIn b s m n j) j := by simp [bestIn, List.range_succ]
def bestS (b : SB) (s : Nat) (x : KV × KV) : KV × KV := if !wholeP b s then x else ((bestIn b s x.1 x.2 b.1.f.turnings.length).best, (bestIn b s x.1 x.2 b.1.f.turnings.length).next)
def bestDn (b : SB) (n : Nat) : Nat → KV × KV
  | 0 => ([], [])
  | k + 1 => bestS b (n - (k + 1)) (bestDn b n k)
def bestP (b : SB) : KV × KV := bestDn b (1 <<< b.1.f.turnings.length) (1 <<< b.1.f.turnings.length)
def outsUp (next : KV) : Nat → List Int × Nat
  | 0 => ([], 0)
  | i + 1 => let st := outsUp next i; (st.1 ++ [mg next st.2], st.2 ||| 1 <<< (mg next st.2).toNat)
def safestP (f : Flr) : List Int × Int × Int :=
  if openE f false ≠ 0 then ([], 0, openE f false) else ((outsUp (bestP (boardsOf f)).2 f.turnings.length).1, mg (bestP (boardsOf f)).1 0, 0)
def Nexts (n : Nat) (m : KV) : Prop := ∀ k, 0 ≤ mg m k ∧ mg m k < n ∨ mg m k = 0
theorem nexts_put {n : Nat} {m : KV} (h : Nexts n m) (k : Int) {t : Nat} (ht : t < n) : Nexts n (mput m k t) := fun k' => by
  rw [mg_mput]; split
  · left; omega
  · exact h k'
theorem bestIn_nexts {b : SB} {s : Nat} {m n : KV} (h : Nexts b.1.f.turnings.length n) : ∀ j, j ≤ b.1.f.turnings.length → Nexts b.1.f.turnings.length (bestIn b s m n j).next
  | 0, _ => h
  | j + 1, hj => by
    rw [bestIn_succ, bestT]
    have := bestIn_nexts (m := m) (s := s) h j (by omega)
    split
    · exact this
    · split
      · exact nexts_put this _ (by omega)
      · exact this
theorem bestDn_nexts (b : SB) (n : Nat) : ∀ k, Nexts b.1.f.turnings.length (bestDn b n k).2
  | 0 => fun _ => .inr rfl
  | k + 1 => by
    rw [bestDn, bestS]
    split
    · exact bestDn_nexts b n k
    · exact bestIn_nexts (bestDn_nexts b n k) _ (Nat.le_refl _)
theorem outs_bound {n : Nat} {next : KV} (h : Nexts n next) (hn : n ≤ 8) : ∀ i, (outsUp next i).2 < 256 ∧ (outsUp next i).1.length = i
  | 0 => ⟨by show 0 < 256; omega, rfl⟩
  | i + 1 => by
    obtain ⟨h1, h2⟩ := outs_bound h hn i
    have h3 := h ((outsUp next i).2 : Nat)
    refine ⟨?_, ?_⟩
    · show _ ||| _ < 2 ^ 8
      exact or_lt h1 (by omega)
    · show (_ ++ [_]).length = _
      rw [List.length_append, h2]; rfl
end Go.Proofs.Ytifgbnbkimcchaa

namespace Go.Proofs.Ytifgbnbkimcchaa
open Go Go.T
set_option maxHeartbeats 2000000
attribute [local irreducible] dInt dBool dSl dPp dPtr dAgg dTup dClo dAny dEx dStr dGd dCells dVec dVs dRow dOp nth Tri Into TOps Ctr bodyPost Exit.then Exit.inBlock Code.wp Code.wpIn dWhen dPa dPe dAo dArr dMp dPm dMap dCJ CtrG CtrI OpY keepPost iterPost bodyPostM roundQ
set_option maxRecDepth 100000 in
theorem c_Bounds1 (f : Flr) (hs : f.Small) (p : Pay) : Ctr Try.prog 86 [Ty.agg (PayE.tys p), Ty.pp (flrTys f)] (Ty.bool (turnOk f p)) := by
  refine fn_intro Try.func86 rfl (by decide) Try.ntmps86 (by exact Nat.le_of_ble_eq_true rfl) fun w0 M0 => ?_
  have hs1 := hs.bears; have hs2 := hs.bins; have hs3 := hs.turnings; have hs4 := hs.rules
  refine t_seq ?_
  refine t_region ?_
  refine r_box_agg rfl ?_
  refine asB rfl ?_
  refine r_nil ?_
  refine i_then ?_
  refine t_seq ?_
  refine t_region ?_
  refine r_load_ppN rfl rfl rfl (by exact Nat.le_of_ble_eq_true rfl) ?_
  refine r_field_pp rfl rfl rfl rfl rfl (by decide) ?_
  refine r_load_pp rfl rfl rfl rfl ?_
  refine r_call (c_turning f hs _) rfl rfl rfl rfl rfl ?_
  refine mvB rfl ?_
  apply r_guard (s := 8) rfl rfl rfl
  · intro hg; apply opT_of; (refine r_load_ppN rfl rfl rfl (by exact Nat.le_of_ble_eq_true rfl) ?_); refine r_nil ?_; exact rfl
  · exact rfl
  · exact rfl
  apply r_guard (s := 8) rfl rfl rfl
  · intro hg; apply opT_of; (refine r_field_pp rfl rfl rfl rfl rfl (by decide) ?_); refine r_nil ?_; exact rfl
  · exact rfl
  · exact rfl
  apply r_guard (s := 8) rfl rfl rfl
  · intro hg; apply opT_strip (s := 10) rfl (by (rw [hg]; rfl)); apply opT_of; (refine r_load_pp rfl rfl rfl rfl ?_); refine r_nil ?_; exact rfl
  · exact rfl
  · exact rfl
  apply r_guard (s := 8) rfl rfl rfl
  · intro hg; apply opT_strip (s := 9) rfl (by (rw [hg]; rfl)); apply opT_strip (s := 11) rfl (by (rw [hg]; rfl)); apply opT_of; (refine r_call (c_turning f hs _) rfl rfl rfl rfl rfl ?_); refine r_nil ?_; exact rfl
  · exact rfl
  · exact rfl
  refine r_and rfl rfl ?_
  refine asB rfl ?_
  refine r_nil ?_
  refine i_then ?_
  refine t_ret ?_
  refine i_rp1 rfl rfl ?_
  all_goals exact ret_refl rfl rfl
set_option maxRecDepth 100000 in
theorem c_Bounds2 (p : Pay) : Ctr Try.prog 88 [Ty.agg (PayE.tys p)] (Ty.bool (decide (p.much ≥ 1))) := by
  refine fn_intro Try.func88 rfl (by decide) Try.ntmps88 (by exact Nat.le_of_ble_eq_true rfl) fun w0 M0 => ?_
  refine t_seq ?_
  refine t_region ?_
  refine r_box_agg rfl ?_
  refine asB rfl ?_
  refine r_nil ?_
  refine i_then ?_
  refine t_seq ?_
  refine t_region ?_
  refine r_field_pp rfl rfl rfl rfl rfl (by decide) ?_
  refine r_load_pp rfl rfl rfl rfl ?_
  refine r_bin rfl rfl rfl ?_
  refine asB rfl ?_
  refine r_nil ?_
  refine i_then ?_
  refine t_ret ?_
  refine i_rp1 rfl rfl ?_
  all_goals exact ret_refl rfl rfl
set_option maxRecDepth 100000 in
theorem c_Bounds3 (b : SB) (hb : Fine b) (p : Pay) (h1 : 0 ≤ p.src ∧ p.src < 8) (h2 : 0 ≤ p.dst ∧ p.dst < 8) : Ctr Try.prog 89 [Ty.agg (PayE.tys p), Ty.pp [Ty.pe BrdE b 0]] (Ty.bool (aheadOk b p)) := by
  refine fn_intro Try.func89 rfl (by decide) Try.ntmps89 (by exact Nat.le_of_ble_eq_true rfl) fun w0 M0 => ?_
  have hbt := hb.before p.src.toNat
  have hsh := Nat.shiftRight_le (nth b.1.before p.src.toNat) p.dst.toNat
  refine t_seq ?_
  refine t_region ?_
  refine r_box_agg rfl ?_
  refine asB rfl ?_
  refine r_nil ?_
  refine i_then ?_
  refine t_seq ?_
  refine t_draw mixed rfl ?_
  refine r_load_pp rfl rfl rfl rfl ?_
  refine r_field_pp rfl rfl rfl rfl rfl (by decide) ?_
  refine r_load_pp rfl rfl rfl rfl ?_
  refine r_nilCheck_pe rfl ?_
  refine r_field_pe rfl rfl rfl rfl rfl (by decide) ?_
  refine r_index_peI (n := 8) rfl rfl rfl rfl rfl (by omega) (by omega) ?_
  refine r_load_pe (ty := Ty.int .i64 (nth b.1.before p.src.toNat : Nat)) rfl rfl rfl (by rw [show 0 + 4 + p.src.toNat * 1 = 4 + p.src.toNat by omega]; exact brd_before b.2 (by omega)) ?_
  refine r_field_pp rfl rfl rfl rfl rfl (by decide) ?_
  refine r_load_pp rfl rfl rfl rfl ?_
  refine r_shrI rfl rfl (by omega) (by omega) ?_
  refine r_andN (b := 1) rfl rfl (by omega) (by omega) ?_
  refine r_bin rfl rfl rfl ?_
  refine asB rfl ?_
  refine r_nil ?_
  refine ⟨by kernel_rfl, ?_⟩
  refine i_then ?_
  refine t_ret ?_
  refine i_rp1 rfl rfl ?_
  all_goals exact ret_refl rfl rfl
theorem turnOk_of {f : Flr} {p : Pay} (hn : f.turnings.length ≤ 8) (h : turnOk f p = true) : (0 ≤ p.src ∧ p.src < 8) ∧ 0 ≤ p.dst ∧ p.dst < 8 := by
  simp only [turnOk, Bool.and_eq_true] at h
  have h1 := inB_true h.1
  have h2 := inB_true h.2
  omega
theorem all_nth {α : Type} [Inhabited α] {l : List α} {q : α → Bool} (h : (!l.all q) = false) {k : Nat} (hk : k < l.length) : q (nth l k) = true :=
  List.all_eq_true.1 (by simpa using h) _ (nth_mem hk)
set_option maxRecDepth 100000 in
theorem c_Bounds (f : Flr) (hs : f.Small) (bay : Int) (pays : List Pay) (hp : pays.length ≤ 1000) : Ctr Try.prog 22 [flrT f, Ty.int .i64 bay, Ty.sl PayE pays] (Ty.tup [Ty.int .i64 (boundsP f bay pays).1, Ty.int .i64 (boundsP f bay pays).2]) := by
  refine fn_intro Try.func22 rfl (by decide) Try.ntmps22 (by exact Nat.le_of_ble_eq_true rfl) fun w0 M0 => ?_
  have hs1 := hs.bears; have hs2 := hs.bins; have hs3 := hs.turnings; have hs4 := hs.rules
  refine t_seq ?_
  refine t_region ?_
  refine r_box_agg rfl ?_
  refine asI rfl ?_
  refine asI rfl ?_
  refine r_nil ?_
  refine i_then ?_
  refine t_seq ?_
  refine t_draw mixed rfl ?_
  refine r_load_ppN rfl rfl rfl (by exact Nat.le_of_ble_eq_true rfl) ?_
  refine r_load_ppN rfl rfl rfl (by exact Nat.le_of_ble_eq_true rfl) ?_
  refine mvI rfl ?_
  refine r_call (c_bay f hs _) rfl rfl rfl rfl rfl ?_
  refine r_not rfl ?_
  refine r_call (c_open f hs _) rfl rfl rfl rfl rfl ?_
  refine mvT rfl ?_
  refine r_extract rfl rfl ?_
  refine r_extract rfl rfl ?_
  refine r_alloc rfl (by exact List.cons_ne_nil _ _) rfl ?_
  refine r_store1 rfl rfl (by decide) rfl rfl (by exact (rfl : _ = Ty.when _ _)) rfl (by exact Nat.le_of_ble_eq_true rfl) rfl rfl (by exact (rfl : _ = [_])) ?_
  refine asI rfl ?_
  refine r_nil ?_
  refine ⟨by kernel_rfl, ?_⟩
  refine i_then ?_
  refine t_seq ?_
  refine t_block ?_
  refine t_seq ?_
  refine t_region ?_
  refine mvI rfl ?_
  refine r_bin rfl rfl rfl ?_
  refine asB rfl ?_
  refine r_nil ?_
  refine i_then ?_
  refine t_cond_ndec rfl (fun hc1 => ?_) (fun hc1 => ?_)
  ·
    refine t_seq ?_
    refine t_region ?_
    refine mvI rfl ?_
    refine asI rfl ?_
    refine asI rfl ?_
    refine r_nil ?_
    refine i_then ?_
    refine t_ret ?_
    refine i_block_ret ?_
    refine i_then_ret ?_
    refine i_rp2 rfl rfl rfl ?_ ?_
    all_goals skip
    all_goals exact ret_eq rfl rfl (congrArg (Ty.int .i64) (by rw [boundsP, if_pos hc1]))
  ·
    refine t_seq ?_
    have h0 := openE_zero hc1
    have hin := inB_true (n := bay) (lo := 0) (hi := (f.bears.length : Int) - 1) (by have := h0.2; simpa using this)
    obtain ⟨n, rfl⟩ := Int.eq_ofNat_of_zero_le hin.1
    have hr := (check_right h0.1).ranged
    have hb4 := hr.bears
    have hfi := boardsOf_fine h0.1
    have hff := boardsOf_f f
    have hnt : f.turnings.length ≤ 8 := by have := hfi.nt; rw [hff] at this; exact this
    refine t_pub (tg := 9) [(8, Ty.pp [Ty.when (decide (openE f (!inB (n : Int) 0 (f.bears.length - 1)) = 0)) (Ty.pe BrdE (boardsOf f) 0)])] (by decide) rfl ⟨pub_ptr (T := 128) (tg := 9) (off := 0) (l := [Ty.when (decide (openE f (!inB (n : Int) 0 (f.bears.length - 1)) = 0)) (Ty.pe BrdE (boardsOf f) 0)]) rfl rfl rfl (by decide), trivial⟩ ?_
    refine t_as (s := 8) rfl (Ty.pp_sub1 (Ty.when_sub (decide_eq_true hc1))) ?_
    refine t_region ?_
    refine mvS rfl ?_
    refine r_makeFunc rfl ?_
    refine r_call (c_every_pay pays (Ty.clo _ [Ty.pp (flrTys f)]) rfl (turnOk f) rfl rfl fun p _ => cal_clo (c_Bounds1 f hs p) rfl rfl rfl rfl rfl rfl) rfl rfl rfl rfl rfl ?_
    refine r_not rfl ?_
    refine asB rfl ?_
    refine r_nil ?_
    refine i_then ?_
    refine t_cond rfl (fun hc2 => ?_) (fun hc2 => ?_)
    ·
      refine t_seq ?_
      refine t_region ?_
      refine asI rfl ?_
      refine asI rfl ?_
      refine r_nil ?_
      refine i_then ?_
      refine t_ret ?_
      refine i_block_ret ?_
      refine i_then_ret ?_
      refine i_rp2 rfl rfl rfl ?_ ?_
      all_goals skip
      all_goals exact ret_eq rfl rfl (congrArg (Ty.int .i64) (by rw [boundsP, if_neg (fun h => h hc1), if_pos hc2]))
    ·
      refine t_seq ?_
      refine t_region ?_
      refine mvS rfl ?_
      refine r_call (c_every_pay pays (Ty.clo _ []) rfl (fun p => decide (p.much ≥ 1)) rfl rfl fun p _ => cal_clo (c_Bounds2 p) rfl rfl rfl rfl rfl rfl) rfl rfl rfl rfl rfl ?_
      refine r_not rfl ?_
      refine asB rfl ?_
      refine r_nil ?_
      refine i_then ?_
      refine t_cond rfl (fun hc3 => ?_) (fun hc3 => ?_)
      ·
        refine t_seq ?_
        refine t_region ?_
        refine asI rfl ?_
        refine asI rfl ?_
        refine r_nil ?_
        refine i_then ?_
        refine t_ret ?_
        refine i_block_ret ?_
        refine i_then_ret ?_
        refine i_rp2 rfl rfl rfl ?_ ?_
        all_goals skip
        all_goals exact ret_eq rfl rfl (congrArg (Ty.int .i64) (by rw [boundsP, if_neg (fun h => h hc1), if_neg (Bool.eq_false_iff.1 hc2), if_pos hc3]))
      ·
        refine t_seq ?_
        refine t_region ?_
        refine mvS rfl ?_
        refine r_makeFunc rfl ?_
        refine r_call (c_every_pay pays (Ty.clo _ [Ty.pp [Ty.pe BrdE (boardsOf f) 0]]) rfl (aheadOk (boardsOf f)) rfl rfl fun p hpm => cal_clo (c_Bounds3 (boardsOf f) hfi p (turnOk_of hnt (List.all_eq_true.1 (by simpa using hc2) p hpm)).1 (turnOk_of hnt (List.all_eq_true.1 (by simpa using hc2) p hpm)).2) rfl rfl rfl rfl rfl rfl) rfl rfl rfl rfl rfl ?_
        refine r_not rfl ?_
        refine asB rfl ?_
        refine r_nil ?_
        refine i_then ?_
        refine t_cond rfl (fun hc4 => ?_) (fun hc4 => ?_)
        ·
          refine t_seq ?_
          refine t_region ?_
          refine asI rfl ?_
          refine asI rfl ?_
          refine r_nil ?_
          refine i_then ?_
          refine t_ret ?_
          refine i_block_ret ?_
          refine i_then_ret ?_
          refine i_rp2 rfl rfl rfl ?_ ?_
          all_goals skip
          all_goals exact ret_eq rfl rfl (congrArg (Ty.int .i64) (by rw [boundsP, if_neg (fun h => h hc1), if_neg (Bool.eq_false_iff.1 hc2), if_neg (Bool.eq_false_iff.1 hc3), if_pos hc4]))
        ·
          refine t_skip ?_
          refine i_block ?_
          refine i_then ?_
          refine t_seq ?_
          refine t_region ?_
          refine r_allocV (E := I64) (xs := List.replicate 8 0) rfl (by exact List.cons_ne_nil _ _) rfl rfl ?_
          refine r_allocV (E := I64) (xs := List.replicate 8 0) rfl (by exact List.cons_ne_nil _ _) rfl rfl ?_
          refine r_nil ?_
          refine i_then ?_
          refine t_seq ?_
          refine t_region ?_
          refine r_load_pp rfl rfl rfl rfl ?_
          refine mvI rfl ?_
          refine r_nilCheck_pe rfl ?_
          refine r_field_pe rfl rfl rfl rfl rfl (by decide) ?_
          refine r_index_pe rfl rfl rfl rfl rfl (by omega) ?_
          refine r_load_pe (ty := Ty.int .i64 (nth (boardsOf f).1.first n)) rfl rfl rfl (by rw [show 0 + 44 + n * 1 = 44 + n by omega]; exact brd_first (boardsOf f).2 (by omega)) ?_
          refine asI rfl ?_
          refine r_nil ?_
          refine i_then ?_
          refine t_seq ?_
          refine t_seq ?_
          refine t_region ?_
          refine r_field_pp rfl rfl rfl rfl rfl (by decide) ?_
          refine r_load_pp rfl rfl rfl rfl ?_
          refine r_len rfl rfl rfl ?_
          refine mvI rfl ?_
          refine r_nil ?_
          refine i_then ?_
          refine t_block ?_
          refine t_loop (fun (k : {k : Nat // k ≤ f.turnings.length}) => live [(1, Ty.int .i64 (n : Nat)), (2, Ty.sl PayE pays), (3, Ty.pp (flrTys f)), (8, Ty.pp [Ty.pe BrdE (boardsOf f) 0]), (10, Ty.ptr 11 0), (11, Ty.ptr 12 0), (12, Ty.int .i64 (boundUpP (boardsOf f) n k.1)), (52, Ty.int .i64 f.turnings.length), (53, Ty.int .i64 (k.1 : Nat))] [(11, Cont.vec I64 133 (addsUp (boardsOf f) n k.1)), (12, Cont.vec I64 133 (lessUp (boardsOf f) n k.1))]) (fun k => f.turnings.length - k.1) (⟨0, by omega⟩) ?_ fun k => ?_
          · (refine Ent.mk' ?_ ?_ <;> (repeat' (first | exact allSub_zero | exact allTags_nil | refine allSub_succ' ?_ (Ty.sub_any _) | refine allSub_succ' ?_ (Ty.sub_refl _) | refine allTags_cons rfl (Cont.sub_refl _) ?_ | refine allSub_succ' ?_ ?_)))
            all_goals exact Ty.sub_int (by simp [boundUpP])
          ·
            have hab := addB_bound hfi n k.1
            have hbu := boundUpP_bound hfi n k.1
            have hau : (addsUp (boardsOf f) n k.1).length = 8 := by simp [addsUp]
            have hlu : (lessUp (boardsOf f) n k.1).length = 8 := by simp [lessUp]
            refine t_seq ?_
            refine t_region ?_
            refine r_bin rfl rfl rfl ?_
            refine r_nil ?_
            refine i_then ?_
            refine t_seq ?_
            refine t_cond_dec rfl (fun hc5 => ?_) (fun hc5 => ?_)
            ·
              refine t_skip ?_
              refine i_then ?_
              refine t_seq ?_
              refine t_block ?_
              refine t_seq ?_
              refine t_region ?_
              refine mvI rfl ?_
              refine asI rfl ?_
              refine r_nil ?_
              refine i_then ?_
              refine t_seq ?_
              refine t_region ?_
              refine r_load_pp rfl rfl rfl rfl ?_
              refine mvI rfl ?_
              refine mvI rfl ?_
              refine r_nilCheck_pe rfl ?_
              refine r_field_pe rfl rfl rfl rfl rfl (by decide) ?_
              refine r_index_pe rfl rfl rfl rfl rfl (by omega) ?_
              refine r_index_pe rfl rfl rfl rfl rfl (by omega) ?_
              refine r_load_pe (ty := Ty.int .i64 (addB (boardsOf f) n k.1)) rfl rfl rfl (by rw [show 0 + 12 + k.1 * 4 + n * 1 = 12 + (k.1 * 4 + n) by omega]; exact brd_adds (boardsOf f).2 (by omega)) ?_
              refine asI rfl ?_
              refine r_nil ?_
              refine i_then ?_
              refine t_seq ?_
              refine t_region ?_
              refine mvI rfl ?_
              refine mvI rfl ?_
              refine mvI rfl ?_
              refine r_max rfl rfl ?_
              refine mvI rfl ?_
              refine r_neg rfl ?_
              refine r_max rfl rfl ?_
              refine r_index_ptr rfl rfl rfl rfl rfl (by omega) ?_
              refine r_store_vecA (z := max 0 (addB (boardsOf f) n k.1)) rfl rfl rfl (by decide) rfl rfl (by exact (rfl : _ = Ty.int _ _)) rfl (by omega) (by decide) rfl rfl ?_
              refine r_index_ptr rfl rfl rfl rfl rfl (by omega) ?_
              refine r_store_vecA (z := max 0 (-(addB (boardsOf f) n k.1))) rfl rfl rfl (by decide) rfl rfl (by exact (rfl : _ = Ty.int _ _)) rfl (by omega) (by decide) rfl (by rw [IntWalk.i64_in _ (by omega), Int.zero_sub]; rfl) ?_
              refine r_nil ?_
              refine i_then ?_
              refine t_region ?_
              refine mvI rfl ?_
              refine mvI rfl ?_
              refine r_index_ptr rfl rfl rfl rfl rfl (by omega) ?_
              refine r_load_vecA rfl rfl rfl (by decide) rfl rfl (by (simp <;> omega)) rfl ?_
              refine r_bin rfl rfl rfl ?_
              refine asI rfl ?_
              refine r_nil ?_
              refine i_block ?_
              refine i_then ?_
              refine t_region ?_
              refine r_add rfl rfl (by omega) (by omega) ?_
              refine mvI rfl ?_
              refine r_nil ?_
              refine i_round (⟨k.1 + 1, by omega⟩) ?_ (by show f.turnings.length - (k.1 + 1) < f.turnings.length - k.1; omega)
              (refine Ent.mk' ?_ ?_ <;> (repeat' (first | exact allSub_zero | exact allTags_nil | refine allSub_succ' ?_ (Ty.sub_any _) | refine allSub_succ' ?_ (Ty.sub_refl _) | refine allTags_cons rfl ?_ ?_ | refine allSub_succ' ?_ ?_)))
              all_goals skip
              all_goals first | exact Ty.sub_int (by rw [boundUpP_succ, addsUp_set _ _ (by omega), addsUp_nth _ _ (by omega), IntWalk.i64_in _ (by omega)]) | exact Cont.sub_vec (addsUp_set _ _ (by omega)) | exact Cont.sub_vec (lessUp_set _ _ (by omega))
            ·
              refine t_exit ?_
              refine i_then_exit ?_
              refine i_then_exit ?_
              refine i_block_exit rfl ?_
              refine i_then ?_
              refine t_seq ?_
              refine t_seq ?_
              refine t_region ?_
              refine mvS rfl ?_
              refine r_len rfl rfl rfl ?_
              refine mvI rfl ?_
              refine r_nil ?_
              refine i_then ?_
              refine t_block ?_
              refine t_loop (fun (x : {x : Nat × PSt // x.1 ≤ pays.length ∧ paysP (pay0 (boardsOf f) n) (pays.take x.1) = some x.2 ∧ x.2.Fine x.1}) => live [(10, Ty.ptr 11 0), (11, Ty.ptr 12 0), (12, Ty.int .i64 x.1.2.bound), (79, Ty.sl PayE pays), (80, Ty.int .i64 pays.length), (81, Ty.int .i64 (x.1.1 : Nat))] [(11, Cont.vec I64 133 x.1.2.adds), (12, Cont.vec I64 133 x.1.2.less)]) (fun x => pays.length - x.1.1) (⟨(0, pay0 (boardsOf f) n), by omega, rfl, pay0_fine hfi n⟩) ?_ fun x => ?_
              · (refine Ent.mk' ?_ ?_ <;> (repeat' (first | exact allSub_zero | exact allTags_nil | refine allSub_succ' ?_ (Ty.sub_any _) | refine allSub_succ' ?_ (Ty.sub_refl _) | refine allTags_cons rfl ?_ ?_ | refine allSub_succ' ?_ ?_)))
                all_goals first | exact Ty.sub_int (by show boundUpP _ n k.1 = boundUpP _ n _; rw [hff, show k.1 = f.turnings.length by have := k.2; omega]) | exact Cont.sub_vec (by show addsUp _ n k.1 = addsUp _ n _; rw [hff, show k.1 = f.turnings.length by have := k.2; omega]) | exact Cont.sub_vec (by show lessUp _ n k.1 = lessUp _ n _; rw [hff, show k.1 = f.turnings.length by have := k.2; omega])
              ·
                obtain ⟨hx1, hx2, hx3⟩ := x.2
                have hla := hx3.la
                have hll := hx3.ll
                refine t_seq ?_
                refine t_region ?_
                refine r_bin rfl rfl rfl ?_
                refine r_nil ?_
                refine i_then ?_
                refine t_seq ?_
                refine t_cond_dec rfl (fun hc6 => ?_) (fun hc6 => ?_)
                ·
                  refine t_skip ?_
                  refine i_then ?_
                  refine t_seq ?_
                  refine t_block ?_
                  refine t_seq ?_
                  refine t_region ?_
                  refine r_index_slN rfl rfl rfl rfl rfl rfl (by omega) ?_
                  refine r_load_ppN rfl rfl rfl (by exact Nat.le_of_ble_eq_true rfl) ?_
                  refine r_alloc rfl (by exact List.cons_ne_nil _ _) rfl ?_
                  refine r_storeN rfl rfl (by decide) rfl rfl rfl rfl rfl rfl ?_
                  refine r_nil ?_
                  refine i_then ?_
                  refine t_seq ?_
                  refine t_seq ?_
                  have hto := turnOk_of hnt (all_nth hc2 (k := x.1.1) (by omega))
                  have hmu := of_decide_eq_true (all_nth hc3 (k := x.1.1) (by omega))
                  have hax := hx3.adds (nth pays x.1.1).src.toNat
                  have hlx := hx3.less (nth pays x.1.1).dst.toNat
                  have hbx := hx3.bound
                  refine t_draw mixed rfl ?_
                  refine r_field_ptr rfl rfl rfl rfl rfl (by decide) ?_
                  refine r_load_ptr rfl rfl (by decide) rfl rfl rfl ?_
                  refine r_field_ptr rfl rfl rfl rfl rfl (by decide) ?_
                  refine r_load_ptr rfl rfl (by decide) rfl rfl rfl ?_
                  refine r_index_ptrI (n := 8) rfl rfl rfl rfl rfl (by omega) (by omega) ?_
                  refine r_load_vecA rfl rfl rfl (by decide) rfl rfl (by omega) rfl ?_
                  refine r_bin rfl rfl rfl ?_
                  refine mvB rfl ?_
                  apply r_guard (s := 92) rfl rfl rfl
                  · intro hg; apply opT_of; (refine r_field_ptr rfl rfl rfl rfl rfl (by decide) ?_); refine r_nil ?_; exact rfl
                  · exact rfl
                  · exact rfl
                  apply r_guard (s := 92) rfl rfl rfl
                  · intro hg; apply opT_strip (s := 93) rfl (by (rw [hg]; rfl)); apply opT_of; (refine r_load_ptr rfl rfl (by decide) rfl rfl rfl ?_); refine r_nil ?_; exact rfl
                  · exact rfl
                  · exact rfl
                  apply r_guard (s := 92) rfl rfl rfl
                  · intro hg; apply opT_of; (refine r_field_ptr rfl rfl rfl rfl rfl (by decide) ?_); refine r_nil ?_; exact rfl
                  · exact rfl
                  · exact rfl
                  apply r_guard (s := 92) rfl rfl rfl
                  · intro hg; apply opT_strip (s := 95) rfl (by (rw [hg]; rfl)); apply opT_of; (refine r_load_ptr rfl rfl (by decide) rfl rfl rfl ?_); refine r_nil ?_; exact rfl
                  · exact rfl
                  · exact rfl
                  apply r_guard (s := 92) rfl rfl rfl
                  · intro hg; apply opT_strip (s := 96) rfl (by (rw [hg]; rfl)); apply opT_of; (refine r_index_ptrI (n := 8) rfl rfl rfl rfl rfl (by omega) (by omega) ?_); refine r_nil ?_; exact rfl
                  · exact rfl
                  · exact rfl
                  apply r_guard (s := 92) rfl rfl rfl
                  · intro hg; apply opT_strip (s := 97) rfl (by (rw [hg]; rfl)); apply opT_of; (refine r_load_vecA rfl rfl rfl (by decide) rfl rfl (by omega) rfl ?_); refine r_nil ?_; exact rfl
                  · exact rfl
                  · exact rfl
                  apply r_guard (s := 92) rfl rfl rfl
                  · intro hg; apply opT_strip (s := 94) rfl (by (rw [hg]; rfl)); apply opT_strip (s := 98) rfl (by (rw [hg]; rfl)); apply opT_of; (refine r_bin rfl rfl rfl ?_); refine r_nil ?_; exact rfl
                  · exact rfl
                  · exact rfl
                  refine r_or rfl rfl ?_
                  refine r_nil ?_
                  refine ⟨by kernel_rfl, ?_⟩
                  refine i_then ?_
                  refine t_cond rfl (fun hc7 => ?_) (fun hc7 => ?_)
                  ·
                    refine t_seq ?_
                    refine t_region ?_
                    refine asI rfl ?_
                    refine asI rfl ?_
                    refine r_nil ?_
                    refine i_then ?_
                    refine t_ret ?_
                    refine i_then_ret ?_
                    refine i_block_ret ?_
                    refine i_then_ret ?_
                    refine i_then_ret ?_
                    refine i_block_ret ?_
                    refine i_then_ret ?_
                    refine i_rp2 rfl rfl rfl ?_ ?_
                    all_goals skip
                    all_goals exact ret_eq rfl rfl (congrArg (Ty.int .i64) (by rw [boundsP, if_neg (fun h => h hc1), if_neg (Bool.eq_false_iff.1 hc2), if_neg (Bool.eq_false_iff.1 hc3), if_neg (Bool.eq_false_iff.1 hc4), show (n : Int).toNat = n from rfl, paysP_stop (by omega) hx2 (by rw [payP, if_pos (show payBad x.1.2 (nth pays x.1.1) = true from hc7)])]))
                  ·
                    refine t_skip ?_
                    refine i_then ?_
                    refine t_seq ?_
                    have h7 := hc7
                    simp only [Bool.or_eq_false_iff, decide_eq_false_iff_not] at h7
                    refine t_draw mixed rfl ?_
                    refine r_field_ptr rfl rfl rfl rfl rfl (by decide) ?_
                    refine r_load_ptr rfl rfl (by decide) rfl rfl rfl ?_
                    refine r_index_ptrI (n := 8) rfl rfl rfl rfl rfl (by omega) (by omega) ?_
                    refine r_load_vecA rfl rfl rfl (by decide) rfl rfl (by omega) rfl ?_
                    refine r_field_ptr rfl rfl rfl rfl rfl (by decide) ?_
                    refine r_load_ptr rfl rfl (by decide) rfl rfl rfl ?_
                    refine r_sub rfl rfl (by omega) (by omega) ?_
                    refine r_index_ptrI (n := 8) rfl rfl rfl rfl rfl (by omega) (by omega) ?_
                    refine r_store_vecA rfl rfl rfl (by decide) rfl rfl (by exact (rfl : _ = Ty.int _ _)) rfl (by omega) (by decide) rfl rfl ?_
                    refine r_nil ?_
                    refine ⟨by kernel_rfl, ?_⟩
                    refine i_then ?_
                    refine t_seq ?_
                    refine t_draw mixed rfl ?_
                    refine r_field_ptr rfl rfl rfl rfl rfl (by decide) ?_
                    refine r_load_ptr rfl rfl (by decide) rfl rfl rfl ?_
                    refine r_index_ptrI (n := 8) rfl rfl rfl rfl rfl (by omega) (by omega) ?_
                    refine r_load_vecA rfl rfl rfl (by decide) rfl rfl (by omega) rfl ?_
                    refine r_field_ptr rfl rfl rfl rfl rfl (by decide) ?_
                    refine r_load_ptr rfl rfl (by decide) rfl rfl rfl ?_
                    refine r_sub rfl rfl (by omega) (by omega) ?_
                    refine r_index_ptrI (n := 8) rfl rfl rfl rfl rfl (by omega) (by omega) ?_
                    refine r_store_vecA rfl rfl rfl (by decide) rfl rfl (by exact (rfl : _ = Ty.int _ _)) rfl (by omega) (by decide) rfl rfl ?_
                    refine r_nil ?_
                    refine ⟨by kernel_rfl, ?_⟩
                    refine i_then ?_
                    refine t_region ?_
                    refine mvI rfl ?_
                    refine r_field_ptr rfl rfl rfl rfl rfl (by decide) ?_
                    refine r_load_ptr rfl rfl (by decide) rfl rfl rfl ?_
                    refine r_sub rfl rfl (by omega) (by omega) ?_
                    refine asI rfl ?_
                    refine r_nil ?_
                    refine i_block ?_
                    refine i_then ?_
                    refine t_region ?_
                    refine r_add rfl rfl (by omega) (by omega) ?_
                    refine mvI rfl ?_
                    refine r_nil ?_
                    refine i_round (⟨(x.1.1 + 1, payT x.1.2 (nth pays x.1.1)), by omega, by rw [paysP_succ (by omega) hx2, payP, if_neg (Bool.eq_false_iff.1 (show payBad x.1.2 (nth pays x.1.1) = false from hc7))], payT_fine hx3 hmu hc7⟩) ?_ (by show pays.length - (x.1.1 + 1) < pays.length - x.1.1; omega)
                    (refine Ent.mk' ?_ ?_ <;> (repeat' (first | exact allSub_zero | exact allTags_nil | refine allSub_succ' ?_ (Ty.sub_any _) | refine allSub_succ' ?_ (Ty.sub_refl _) | refine allTags_cons rfl (Cont.sub_refl _) ?_)))
                    all_goals skip
                ·
                  refine t_exit ?_
                  refine i_then_exit ?_
                  refine i_then_exit ?_
                  refine i_block_exit rfl ?_
                  refine i_then ?_
                  refine t_seq ?_
                  refine t_region ?_
                  refine mvI rfl ?_
                  refine asI rfl ?_
                  refine asI rfl ?_
                  refine r_nil ?_
                  refine i_then ?_
                  refine t_ret ?_
                  refine i_rp2 rfl rfl rfl ?_ ?_
                  all_goals skip
                  all_goals exact ret_eq rfl rfl (congrArg (Ty.int .i64) (by rw [boundsP, if_neg (fun h => h hc1), if_neg (Bool.eq_false_iff.1 hc2), if_neg (Bool.eq_false_iff.1 hc3), if_neg (Bool.eq_false_iff.1 hc4), show (n : Int).toNat = n from rfl]; have h := hx2; rw [List.take_of_length_le (by omega)] at h; rw [h]))
end Go.Proofs.Ytifgbnbkimcchaa

namespace Go.Proofs.Ytifgbnbkimcchaa
open Go Go.T
set_option maxHeartbeats 2000000
attribute [local irreducible] dInt dBool dSl dPp dPtr dAgg dTup dClo dAny dEx dStr dGd dCells dVec dVs dRow dOp nth Tri Into TOps Ctr bodyPost Exit.then Exit.inBlock Code.wp Code.wpIn dWhen dPa dPe dAo dArr dMp dPm dMap dCJ CtrG CtrI OpY keepPost iterPost bodyPostM roundQ
theorem nextUp_yes {w : KV} {s j : Nat} (h1 : nextUp w s j < 0) (h2 : ((s >>> j &&& 1 : Nat) : Int) = 0) (h3 : (mget w ((s ||| 1 <<< j : Nat) : Int)).getD 0 > 0) : nextUp w s (j + 1) = j := by
  have hb : s.testBit j = false := Bool.eq_false_iff.2 fun h => by have := (shift_bit s j).2 h; omega
  have hk : okNext w s j = true := by simp only [okNext, hb, mg]; simpa using h3
  rw [nextUp_succ, if_pos ⟨h1, hk⟩]
theorem nextUp_no {w : KV} {s j : Nat} (h : ¬ (nextUp w s j < 0 ∧ ((s >>> j &&& 1 : Nat) : Int) = 0 ∧ (mget w ((s ||| 1 <<< j : Nat) : Int)).getD 0 > 0)) : nextUp w s (j + 1) = nextUp w s j := by
  rw [nextUp_succ, if_neg]
  rintro ⟨h1, h2⟩
  obtain ⟨h3, h4⟩ := okNext_spec h2
  refine h ⟨h1, ?_, h4⟩
  have := Nat.mod_two_eq_zero_or_one (s >>> j)
  have h5 : ¬ (s >>> j &&& 1 = 1) := fun e => by rw [shift_bit] at e; rw [e] at h3; cases h3
  rw [Nat.and_one_is_mod] at *
  omega
set_option maxRecDepth 100000 in
theorem c_Safe (f : Flr) (hs : f.Small) : Ctr Try.prog 32 [flrT f] (Ty.tup [Ty.sl I64 (safeP f).1, Ty.int .i64 (safeP f).2]) := by
  refine fn_intro Try.func32 rfl (by decide) Try.ntmps32 (by exact Nat.le_of_ble_eq_true rfl) fun w0 M0 => ?_
  have hs1 := hs.bears; have hs2 := hs.bins; have hs3 := hs.turnings; have hs4 := hs.rules
  refine t_seq ?_
  refine t_region ?_
  refine r_box_agg rfl ?_
  refine asX rfl ?_
  refine asI rfl ?_
  refine r_nil ?_
  refine i_then ?_
  refine t_seq ?_
  refine t_region ?_
  refine r_load_ppN rfl rfl rfl (by exact Nat.le_of_ble_eq_true rfl) ?_
  refine r_call (c_open f hs _) rfl rfl rfl rfl rfl ?_
  refine mvT rfl ?_
  refine r_extract rfl rfl ?_
  refine r_extract rfl rfl ?_
  refine asW rfl ?_
  refine asI rfl ?_
  refine r_nil ?_
  refine i_then ?_
  refine t_seq ?_
  refine t_seq ?_
  refine t_region ?_
  refine mvI rfl ?_
  refine r_bin rfl rfl rfl ?_
  refine r_nil ?_
  refine i_then ?_
  refine t_cond_ndec rfl (fun hc1 => ?_) (fun hc1 => ?_)
  ·
    refine t_seq ?_
    refine t_region ?_
    refine mvI rfl ?_
    refine asX rfl ?_
    refine asI rfl ?_
    refine r_nil ?_
    refine i_then ?_
    refine t_ret ?_
    refine i_then_ret ?_
    refine i_rp2 rfl rfl rfl ?_ ?_
    all_goals skip
    all_goals first | exact ret_eq rfl rfl (congrArg (Ty.int .i64) (by rw [safeP, if_pos hc1])) | exact ret_nil_eq (by rw [safeP, if_pos hc1])
  ·
    refine t_skip ?_
    refine i_then ?_
    refine t_seq ?_
    have h0 := openE_zero hc1
    have hfi := boardsOf_fine h0.1
    have hff := boardsOf_f f
    have hnt : f.turnings.length ≤ 8 := by have := hfi.nt; rw [hff] at this; exact this
    refine t_as (s := 4) rfl (Ty.when_sub (decide_eq_true hc1)) ?_
    refine t_region ?_
    refine mvPe rfl ?_
    refine mvPe rfl ?_
    refine r_call (c_keeps (boardsOf f)) rfl rfl rfl rfl rfl ?_
    refine r_call (c_kways (boardsOf f) hfi) rfl rfl rfl rfl rfl ?_
    refine asMP rfl ?_
    refine r_nil ?_
    refine i_then ?_
    refine t_seq ?_
    refine t_seq ?_
    refine t_region ?_
    refine mvMP rfl ?_
    refine r_lookupP (intKey Try.prog 3 .i64 und3) (z0 := (0 : Int)) rfl rfl key_int mapT143 zero3 vi64_zero ?_
    refine r_bin rfl rfl rfl ?_
    refine r_nil ?_
    refine i_then ?_
    refine t_cond_dec rfl (fun hc2 => ?_) (fun hc2 => ?_)
    ·
      refine t_seq ?_
      refine t_region ?_
      refine asX rfl ?_
      refine asI rfl ?_
      refine r_nil ?_
      refine i_then ?_
      refine t_ret ?_
      refine i_then_ret ?_
      refine i_rp2 rfl rfl rfl ?_ ?_
      all_goals skip
      all_goals first | exact ret_eq rfl rfl (congrArg (Ty.int .i64) (by rw [safeP, if_neg (fun h => h hc1), if_pos (show mg (kwaysP f) 0 = 0 from hc2)])) | exact ret_nil_eq (by rw [safeP, if_neg (fun h => h hc1), if_pos (show mg (kwaysP f) 0 = 0 from hc2)])
    ·
      refine t_skip ?_
      refine i_then ?_
      refine t_seq ?_
      have hpos : 0 < mg (kwaysP f) 0 := by have h1 := ways_nonneg hfi (keepsP (boardsOf f)) (s := 0) (by omega); have h2 : ¬ mg (kwaysP f) 0 = 0 := hc2; have h3 : 0 ≤ mg (kwaysP f) 0 := h1; omega
      have hinv : ∀ i, i ≤ f.turnings.length → (safeUp (kwaysP f) f.turnings.length i).2 < 2 ^ f.turnings.length ∧ (safeUp (kwaysP f) f.turnings.length i).1.length = i := fun i hi => by have h := safe_inv hfi (keepsP (boardsOf f)) hpos i (by rw [hff]; exact hi); rw [hff] at h; exact ⟨h.1, h.2.2.2⟩
      have hnxt : ∀ i, i < f.turnings.length → 0 ≤ nextUp (kwaysP f) (safeUp (kwaysP f) f.turnings.length i).2 f.turnings.length := fun i hi => by have h := safe_next hfi (keepsP (boardsOf f)) hpos (i := i) (by rw [hff]; exact hi); rw [hff] at h; exact h
      refine t_region ?_
      refine asX rfl ?_
      refine r_nil ?_
      refine i_then ?_
      refine t_seq ?_
      refine t_region ?_
      refine asI rfl ?_
      refine r_nil ?_
      refine i_then ?_
      refine t_seq ?_
      refine t_seq ?_
      refine t_region ?_
      refine r_field_pp rfl rfl rfl rfl rfl (by decide) ?_
      refine r_load_pp rfl rfl rfl rfl ?_
      refine r_len rfl rfl rfl ?_
      refine mvI rfl ?_
      refine r_nil ?_
      refine i_then ?_
      refine t_block ?_
      refine t_loop (fun (i : {k : Nat // k ≤ f.turnings.length}) => live [(1, Ty.pp (flrTys f)), (6, Ty.pm (Value.int .i64) VI64 (kwaysP f)), (7, Ty.row I64 3 61 (safeUp (kwaysP f) f.turnings.length i.1).1), (8, Ty.int .i64 ((safeUp (kwaysP f) f.turnings.length i.1).2 : Nat)), (28, Ty.int .i64 f.turnings.length), (29, Ty.int .i64 (i.1 : Nat))] []) (fun i => f.turnings.length - i.1) (⟨0, by omega⟩) ?_ fun i => ?_
      · (refine Ent.mk' ?_ ?_ <;> (repeat' (first | exact allSub_zero | exact allTags_nil | refine allSub_succ' ?_ (Ty.sub_any _) | refine allSub_succ' ?_ (Ty.sub_refl _) | refine allSub_succ' ?_ Ty.nil_row)))
      ·
        obtain ⟨hi1, hi4⟩ := hinv i.1 i.2
        have hs256 := pow256 hnt hi1
        obtain ⟨s, hse⟩ : ∃ s, s = (safeUp (kwaysP f) f.turnings.length i.1).2 := ⟨_, rfl⟩
        have hs2 : s < 256 := hse ▸ hs256
        refine t_as (s := 8) rfl (Ty.sub_int (by rw [← hse])) ?_
        refine t_seq ?_
        refine t_region ?_
        refine r_bin rfl rfl rfl ?_
        refine r_nil ?_
        refine i_then ?_
        refine t_seq ?_
        refine t_cond_dec rfl (fun hc3 => ?_) (fun hc3 => ?_)
        ·
          refine t_skip ?_
          refine i_then ?_
          refine t_seq ?_
          refine t_block ?_
          refine t_seq ?_
          refine t_region ?_
          refine asI rfl ?_
          refine r_nil ?_
          refine i_then ?_
          refine t_seq ?_
          refine t_seq ?_
          refine t_region ?_
          refine r_field_pp rfl rfl rfl rfl rfl (by decide) ?_
          refine r_load_pp rfl rfl rfl rfl ?_
          refine r_len rfl rfl rfl ?_
          refine mvI rfl ?_
          refine r_nil ?_
          refine i_then ?_
          refine t_block ?_
          refine t_loop (fun (j : {k : Nat // k ≤ f.turnings.length}) => live [(1, Ty.pp (flrTys f)), (6, Ty.pm (Value.int .i64) VI64 (kwaysP f)), (7, Ty.row I64 3 61 (safeUp (kwaysP f) f.turnings.length i.1).1), (8, Ty.int .i64 (s : Nat)), (9, Ty.int .i64 (nextUp (kwaysP f) s j.1)), (28, Ty.int .i64 f.turnings.length), (29, Ty.int .i64 (i.1 : Nat)), (33, Ty.int .i64 f.turnings.length), (34, Ty.int .i64 (j.1 : Nat))] []) (fun j => f.turnings.length - j.1) (⟨0, by omega⟩) ?_ fun j => ?_
          · (refine Ent.mk' ?_ ?_ <;> (repeat' (first | exact allSub_zero | exact allTags_nil | refine allSub_succ' ?_ (Ty.sub_any _) | refine allSub_succ' ?_ (Ty.sub_refl _))))
          ·
            refine t_seq ?_
            refine t_region ?_
            refine r_bin rfl rfl rfl ?_
            refine r_nil ?_
            refine i_then ?_
            refine t_seq ?_
            refine t_cond_dec rfl (fun hc4 => ?_) (fun hc4 => ?_)
            ·
              refine t_skip ?_
              refine i_then ?_
              refine t_seq ?_
              refine t_block ?_
              refine t_seq ?_
              refine t_region ?_
              refine mvI rfl ?_
              refine asI rfl ?_
              refine r_nil ?_
              refine i_then ?_
              refine t_seq ?_
              have hsh := Nat.shiftRight_le s j.1
              have hone := one_shl (i := j.1) (by omega)
              refine t_region ?_
              refine mvI rfl ?_
              refine r_bin rfl rfl rfl ?_
              refine mvB rfl ?_
              apply r_guard (s := 39) rfl rfl rfl
              · intro hg; apply opT_of; (refine mvI rfl ?_); refine r_nil ?_; exact rfl
              · exact rfl
              · exact rfl
              apply r_guard (s := 39) rfl rfl rfl
              · intro hg; apply opT_of; (refine mvI rfl ?_); refine r_nil ?_; exact rfl
              · exact rfl
              · exact rfl
              apply r_guard (s := 39) rfl rfl rfl
              · intro hg; apply opT_strip (s := 40) rfl (by (rw [hg]; rfl)); apply opT_strip (s := 41) rfl (by (rw [hg]; rfl)); apply opT_of; (refine r_shrN rfl rfl (by omega) ?_); refine r_nil ?_; exact rfl
              · exact rfl
              · exact rfl
              apply r_guard (s := 39) rfl rfl rfl
              · intro hg; apply opT_strip (s := 42) rfl (by (rw [hg]; rfl)); apply opT_of; (refine r_andN (b := 1) rfl rfl (by omega) (by omega) ?_); refine r_nil ?_; exact rfl
              · exact rfl
              · exact rfl
              apply r_guard (s := 39) rfl rfl rfl
              · intro hg; apply opT_strip (s := 43) rfl (by (rw [hg]; rfl)); apply opT_of; (refine r_bin rfl rfl rfl ?_); refine r_nil ?_; exact rfl
              · exact rfl
              · exact rfl
              refine r_and rfl rfl ?_
              refine mvB rfl ?_
              apply r_guard (s := 46) rfl rfl rfl
              · intro hg; apply opT_of; (refine mvMP rfl ?_); refine r_nil ?_; exact rfl
              · exact rfl
              · exact rfl
              apply r_guard (s := 46) rfl rfl rfl
              · intro hg; apply opT_of; (refine mvI rfl ?_); refine r_nil ?_; exact rfl
              · exact rfl
              · exact rfl
              apply r_guard (s := 46) rfl rfl rfl
              · intro hg; apply opT_of; (refine mvI rfl ?_); refine r_nil ?_; exact rfl
              · exact rfl
              · exact rfl
              apply r_guard (s := 46) rfl rfl rfl
              · intro hg; apply opT_strip (s := 49) rfl (by (rw [hg]; rfl)); apply opT_of; (refine r_shlN (a := 1) rfl rfl (by omega) (by omega) ?_); refine r_nil ?_; exact rfl
              · exact rfl
              · exact rfl
              apply r_guard (s := 46) rfl rfl rfl
              · intro hg; apply opT_strip (s := 48) rfl (by (rw [hg]; rfl)); apply opT_strip (s := 50) rfl (by (rw [hg]; rfl)); apply opT_of; (refine r_orN rfl rfl (by omega) (by omega) ?_); refine r_nil ?_; exact rfl
              · exact rfl
              · exact rfl
              apply r_guard (s := 46) rfl rfl rfl
              · intro hg; apply opT_strip (s := 47) rfl (by (rw [hg]; rfl)); apply opT_strip (s := 51) rfl (by (rw [hg]; rfl)); apply opT_of; (refine r_lookupP (intKey Try.prog 3 .i64 und3) (z0 := (0 : Int)) rfl rfl key_int mapT143 zero3 vi64_zero ?_); refine r_nil ?_; exact rfl
              · exact rfl
              · exact rfl
              apply r_guard (s := 46) rfl rfl rfl
              · intro hg; apply opT_strip (s := 52) rfl (by (rw [hg]; rfl)); apply opT_of; (refine r_bin rfl rfl rfl ?_); refine r_nil ?_; exact rfl
              · exact rfl
              · exact rfl
              refine r_and rfl rfl ?_
              refine r_nil ?_
              refine i_then ?_
              refine t_cond rfl (fun hc5 => ?_) (fun hc5 => ?_)
              ·
                refine t_region ?_
                refine mvI rfl ?_
                refine asI rfl ?_
                refine r_nil ?_
                refine i_block ?_
                refine i_then ?_
                refine t_region ?_
                refine r_add rfl rfl (by omega) (by omega) ?_
                refine mvI rfl ?_
                refine r_nil ?_
                refine i_round (⟨j.1 + 1, by omega⟩) ?_ (by show f.turnings.length - (j.1 + 1) < f.turnings.length - j.1; omega)
                (refine Ent.mk' ?_ ?_ <;> (repeat' (first | exact allSub_zero | exact allTags_nil | refine allSub_succ' ?_ (Ty.sub_any _) | refine allSub_succ' ?_ (Ty.sub_refl _) | refine allSub_succ' ?_ ?_)))
                all_goals skip
                all_goals exact Ty.sub_int (nextUp_yes (by simp only [Bool.and_eq_true, decide_eq_true_eq] at hc5; exact hc5.1.1) (by simp only [Bool.and_eq_true, decide_eq_true_eq] at hc5; exact hc5.1.2) (by simp only [Bool.and_eq_true, decide_eq_true_eq] at hc5; exact hc5.2)).symm
              ·
                refine t_skip ?_
                refine i_block ?_
                refine i_then ?_
                refine t_region ?_
                refine r_add rfl rfl (by omega) (by omega) ?_
                refine mvI rfl ?_
                refine r_nil ?_
                refine i_round (⟨j.1 + 1, by omega⟩) ?_ (by show f.turnings.length - (j.1 + 1) < f.turnings.length - j.1; omega)
                (refine Ent.mk' ?_ ?_ <;> (repeat' (first | exact allSub_zero | exact allTags_nil | refine allSub_succ' ?_ (Ty.sub_any _) | refine allSub_succ' ?_ (Ty.sub_refl _) | refine allSub_succ' ?_ ?_)))
                all_goals skip
                all_goals exact Ty.sub_int (nextUp_no fun h => by rw [decide_eq_true h.1, decide_eq_true h.2.1, decide_eq_true h.2.2] at hc5; cases hc5).symm
            ·
              refine t_exit ?_
              refine i_then_exit ?_
              refine i_then_exit ?_
              refine i_block_exit rfl ?_
              refine i_then ?_
              have hj : j.1 = f.turnings.length := by have := j.2; omega
              have hn0 : 0 ≤ nextUp (kwaysP f) s j.1 := by rw [hj, hse]; exact hnxt i.1 (by omega)
              have hn1 := nextUp_bound (kwaysP f) s j.1
              have hone := one_shl (i := (nextUp (kwaysP f) s j.1).toNat) (by omega)
              refine t_draw mixed rfl ?_
              refine mvR rfl ?_
              refine mvI rfl ?_
              refine r_buildSlice (E := I64) (xs := [_]) rfl rfl rfl rfl rfl (by decide) (by decide) (by repeat (first | exact (Parts.nil : Parts _ _ [] _) | (show Parts _ _ ((_, _) :: _) _; apply Parts.one; (· exact (rfl : _ = Ty.int _ _)); (· exact rfl)))) (by exact rfl) rfl ?_
              refine r_append rfl rfl (by decide) rfl rfl rfl rfl rfl rfl (by decide) (by (simp <;> omega)) (by (simp <;> omega)) ?_
              refine mvI rfl ?_
              refine mvI rfl ?_
              refine r_shlI (a := 1) rfl rfl (by omega) (by omega) (by omega) ?_
              refine r_orN rfl rfl (by omega) (by omega) ?_
              refine asR rfl ?_
              refine asI rfl ?_
              refine r_nil ?_
              refine ⟨by kernel_rfl, ?_⟩
              refine i_block ?_
              refine i_then ?_
              refine t_region ?_
              refine r_add rfl rfl (by omega) (by omega) ?_
              refine mvI rfl ?_
              refine r_nil ?_
              refine i_round (⟨i.1 + 1, by omega⟩) ?_ (by show f.turnings.length - (i.1 + 1) < f.turnings.length - i.1; omega)
              (refine Ent.mk' ?_ ?_ <;> (repeat' (first | exact allSub_zero | exact allTags_nil | refine allSub_succ' ?_ (Ty.sub_any _) | refine allSub_succ' ?_ (Ty.sub_refl _) | refine allSub_succ' ?_ ?_)))
              all_goals skip
              all_goals first | exact Ty.sub_row (by rw [hse, show j.1 = f.turnings.length by have := j.2; omega]; rfl) | exact Ty.sub_int (by rw [hse, show j.1 = f.turnings.length by have := j.2; omega]; rfl)
        ·
          refine t_exit ?_
          refine i_then_exit ?_
          refine i_then_exit ?_
          refine i_block_exit rfl ?_
          refine i_then ?_
          refine t_seq ?_
          refine t_region ?_
          refine mvR rfl ?_
          refine asR rfl ?_
          refine asI rfl ?_
          refine r_nil ?_
          refine i_then ?_
          refine t_ret ?_
          refine i_rp2 rfl rfl rfl ?_ ?_
          all_goals skip
          all_goals first | exact ret_eq rfl rfl (congrArg (Ty.int .i64) (by rw [safeP, if_neg (fun h => h hc1), if_neg (show ¬ mg (kwaysP f) 0 = 0 from hc2)])) | exact ret_row_eq (by decide) (by rw [safeP, if_neg (fun h => h hc1), if_neg (show ¬ mg (kwaysP f) 0 = 0 from hc2), show i.1 = f.turnings.length by have := i.2; omega])
theorem best_skip {b : SB} {s j : Nat} {m n : KV} (h : (decide (((s >>> j &&& 1 : Nat) : Int) = 1) || !wholeP b (s ||| 1 <<< j)) = true) : bestIn b s m n (j + 1) = bestIn b s m n j := by
  rw [bestIn_succ, bestT, if_pos]
  rw [Bool.or_eq_true] at h ⊢
  refine h.imp (fun h => (shift_bit s j).1 ?_) id
  have := of_decide_eq_true h
  omega
theorem best_go {b : SB} {s j : Nat} (h : (decide (((s >>> j &&& 1 : Nat) : Int) = 1) || !wholeP b (s ||| 1 <<< j)) = false) : ¬ (s.testBit j || !wholeP b (s ||| 1 <<< j)) = true := by
  rw [Bool.or_eq_false_iff] at h
  rw [h.2, Bool.or_false, ← shift_bit]
  have := of_decide_eq_false h.1
  omega
theorem best_new {b : SB} {s j : Nat} {m n : KV} (h : (decide (((s >>> j &&& 1 : Nat) : Int) = 1) || !wholeP b (s ||| 1 <<< j)) = false)
    (h2 : (!(bestIn b s m n j).found || decide (mg (bestIn b s m n j).best s < min (marginP b (loadP b s)) (mg (bestIn b s m n j).best ((s ||| 1 <<< j : Nat) : Int)))) = true) :
    bestIn b s m n (j + 1) = ⟨mput (bestIn b s m n j).best s (min (marginP b (loadP b s)) (mg (bestIn b s m n j).best ((s ||| 1 <<< j : Nat) : Int))), mput (bestIn b s m n j).next s j, true⟩ := by
  rw [bestIn_succ, bestT, if_neg (best_go h), if_pos h2]
theorem best_old {b : SB} {s j : Nat} {m n : KV} (h : (decide (((s >>> j &&& 1 : Nat) : Int) = 1) || !wholeP b (s ||| 1 <<< j)) = false)
    (h2 : (!(bestIn b s m n j).found || decide (mg (bestIn b s m n j).best s < min (marginP b (loadP b s)) (mg (bestIn b s m n j).best ((s ||| 1 <<< j : Nat) : Int)))) = false) :
    bestIn b s m n (j + 1) = bestIn b s m n j := by
  rw [bestIn_succ, bestT, if_neg (best_go h), if_neg (Bool.eq_false_iff.1 h2)]
theorem bestP_nexts (f : Flr) : Nexts f.turnings.length (bestP (boardsOf f)).2 := by
  have h : Nexts (boardsOf f).1.f.turnings.length (bestP (boardsOf f)).2 := bestDn_nexts _ _ _
  rwa [boardsOf_f] at h
set_option maxRecDepth 100000 in
theorem c_Safest (f : Flr) (hs : f.Small) : Ctr Try.prog 33 [flrT f] (Ty.tup [Ty.sl I64 (safestP f).1, Ty.int .i64 (safestP f).2.1, Ty.int .i64 (safestP f).2.2]) := by
  refine fn_intro Try.func33 rfl (by decide) Try.ntmps33 (by exact Nat.le_of_ble_eq_true rfl) fun w0 M0 => ?_
  have hs1 := hs.bears; have hs2 := hs.bins; have hs3 := hs.turnings; have hs4 := hs.rules
  refine t_seq ?_
  refine t_region ?_
  refine r_box_agg rfl ?_
  refine asX rfl ?_
  refine asI rfl ?_
  refine asI rfl ?_
  refine r_nil ?_
  refine i_then ?_
  refine t_seq ?_
  refine t_region ?_
  refine r_load_ppN rfl rfl rfl (by exact Nat.le_of_ble_eq_true rfl) ?_
  refine r_call (c_open f hs _) rfl rfl rfl rfl rfl ?_
  refine mvT rfl ?_
  refine r_extract rfl rfl ?_
  refine r_extract rfl rfl ?_
  refine asW rfl ?_
  refine asI rfl ?_
  refine r_nil ?_
  refine i_then ?_
  refine t_seq ?_
  refine t_seq ?_
  refine t_region ?_
  refine mvI rfl ?_
  refine r_bin rfl rfl rfl ?_
  refine r_nil ?_
  refine i_then ?_
  refine t_cond_ndec rfl (fun hc1 => ?_) (fun hc1 => ?_)
  ·
    refine t_seq ?_
    refine t_region ?_
    refine mvI rfl ?_
    refine asX rfl ?_
    refine asI rfl ?_
    refine asI rfl ?_
    refine r_nil ?_
    refine i_then ?_
    refine t_ret ?_
    refine i_then_ret ?_
    refine i_rp3 rfl rfl rfl rfl ?_ ?_ ?_
    all_goals skip
    all_goals first | exact ret_eq rfl rfl (congrArg (Ty.int .i64) (by rw [safestP, if_pos hc1])) | exact ret_nil_eq (by rw [safestP, if_pos hc1])
  ·
    refine t_skip ?_
    refine i_then ?_
    refine t_seq ?_
    have h0 := openE_zero hc1
    have hfi := boardsOf_fine h0.1
    have hff := boardsOf_f f
    have hnt : f.turnings.length ≤ 8 := by have := hfi.nt; rw [hff] at this; exact this
    have hsl := shl_le hnt
    obtain ⟨N, hN⟩ : ∃ N, N = 1 <<< f.turnings.length := ⟨_, rfl⟩
    refine t_as (s := 5) rfl (Ty.when_sub (decide_eq_true hc1)) ?_
    refine t_region ?_
    refine r_makeMap (Value.int .i64) VI64 mapT143 rfl ?_
    refine r_makeMap (Value.int .i64) VI64 mapT143 rfl ?_
    refine asM rfl ?_
    refine asM rfl ?_
    refine r_nil ?_
    refine i_then ?_
    refine t_seq ?_
    refine t_seq ?_
    refine t_region ?_
    refine r_field_pp rfl rfl rfl rfl rfl (by decide) ?_
    refine r_load_pp rfl rfl rfl rfl ?_
    refine r_len rfl rfl rfl ?_
    refine r_shlN (a := 1) rfl rfl (by omega) (by omega) ?_
    refine r_sub rfl rfl (by omega) (by omega) ?_
    refine asI rfl ?_
    refine r_nil ?_
    refine i_then ?_
    refine t_block ?_
    refine t_loop (fun (k : {k : Nat // k ≤ N}) => live [(1, Ty.pp (flrTys f)), (5, Ty.pe BrdE (boardsOf f) 0), (7, Ty.mp 26), (8, Ty.mp 27), (9, Ty.int .i64 ((N : Int) - (k.1 + 1)))] [(26, Cont.mp (Value.int .i64) VI64 (bestDn (boardsOf f) N k.1).1), (27, Cont.mp (Value.int .i64) VI64 (bestDn (boardsOf f) N k.1).2)]) (fun k => N - k.1) (⟨0, by omega⟩) ?_ fun k => ?_
    · (refine Ent.mk' ?_ ?_ <;> (repeat' (first | exact allSub_zero | exact allTags_nil | refine allSub_succ' ?_ (Ty.sub_any _) | refine allSub_succ' ?_ (Ty.sub_refl _) | refine allTags_cons rfl (Cont.sub_refl _) ?_ | refine allSub_succ' ?_ ?_)))
      all_goals exact Ty.sub_int (by show ((1 <<< f.turnings.length : Nat) : Int) - 1 = (N : Int) - (((0 : Nat) : Int) + 1); rw [← hN]; simp)
    ·
      refine t_seq ?_
      refine t_seq ?_
      refine t_region ?_
      refine mvI rfl ?_
      refine r_bin rfl rfl rfl ?_
      refine r_nil ?_
      refine i_then ?_
      refine t_cond_dec rfl (fun hc2 => ?_) (fun hc2 => ?_)
      ·
        refine t_skip ?_
        refine i_then ?_
        refine t_seq ?_
        refine t_block ?_
        refine t_seq ?_
        refine t_seq ?_
        obtain ⟨s, hse⟩ : ∃ s : Nat, s + (k.1 + 1) = N := ⟨N - (k.1 + 1), by omega⟩
        have hs256 : s < 256 := by omega
        have hd : bestDn (boardsOf f) N (k.1 + 1) = bestS (boardsOf f) s (bestDn (boardsOf f) N k.1) := by rw [bestDn, show N - (k.1 + 1) = s by omega]
        refine t_as (s := 9) rfl (Ty.sub_int (show (N : Int) - (k.1 + 1) = (s : Nat) by omega)) ?_
        refine t_region ?_
        refine mvPe rfl ?_
        refine mvI rfl ?_
        refine r_call (c_whole (boardsOf f) _ (by omega) hfi.before) rfl rfl rfl rfl rfl ?_
        refine r_not rfl ?_
        refine r_nil ?_
        refine i_then ?_
        refine t_cond rfl (fun hc3 => ?_) (fun hc3 => ?_)
        ·
          refine t_exit ?_
          refine i_then_exit ?_
          refine i_block_exit rfl ?_
          refine i_then ?_
          refine t_region ?_
          refine mvI rfl ?_
          refine r_sub rfl rfl (by omega) (by omega) ?_
          refine asI rfl ?_
          refine r_nil ?_
          refine i_round (⟨k.1 + 1, by omega⟩) ?_ (by exact Nat.sub_lt_sub_left (by omega) (Nat.lt_succ_self _))
          (refine Ent.mk' ?_ ?_ <;> (repeat' (first | exact allSub_zero | exact allTags_nil | refine allSub_succ' ?_ (Ty.sub_any _) | refine allSub_succ' ?_ (Ty.sub_refl _) | refine allTags_cons rfl ?_ ?_ | refine allSub_succ' ?_ ?_)))
          all_goals skip
          all_goals first | exact Ty.sub_int (by show (s : Int) - 1 = (N : Int) - (((k.1 + 1 : Nat) : Int) + 1); omega) | exact Cont.sub_mp (by show _ = (bestDn _ N (k.1 + 1)).1; rw [hd, bestS, if_pos hc3]) | exact Cont.sub_mp (by show _ = (bestDn _ N (k.1 + 1)).2; rw [hd, bestS, if_pos hc3])
        ·
          refine t_skip ?_
          refine i_then ?_
          refine t_seq ?_
          refine t_region ?_
          refine mvPe rfl ?_
          refine mvPe rfl ?_
          refine mvI rfl ?_
          refine r_call (c_load (boardsOf f) hfi s hs256) rfl rfl rfl rfl rfl ?_
          refine r_call (c_margin (boardsOf f) hfi _ (loadP_len (boardsOf f) s) (fun i => by have := loadP_bound hfi s i; omega)) rfl rfl rfl rfl rfl ?_
          refine asI rfl ?_
          refine r_nil ?_
          refine i_then ?_
          refine t_seq ?_
          refine t_region ?_
          refine mvM rfl ?_
          refine mvI rfl ?_
          refine mvI rfl ?_
          refine r_mapUpdate (intKey Try.prog 3 .i64 und3) rfl rfl (by decide) rfl key_int rfl rfl mapT143 ?_
          refine r_nil ?_
          refine i_then ?_
          refine t_seq ?_
          refine t_region ?_
          refine asB rfl ?_
          refine r_nil ?_
          refine i_then ?_
          refine t_seq ?_
          refine t_region ?_
          refine r_field_pp rfl rfl rfl rfl rfl (by decide) ?_
          refine r_load_pp rfl rfl rfl rfl ?_
          refine r_len rfl rfl rfl ?_
          refine mvI rfl ?_
          refine r_nil ?_
          refine i_then ?_
          refine t_block ?_
          refine t_loop (fun (j : {k : Nat // k ≤ f.turnings.length}) => live [(1, Ty.pp (flrTys f)), (5, Ty.pe BrdE (boardsOf f) 0), (7, Ty.mp 26), (8, Ty.mp 27), (9, Ty.int .i64 (s : Nat)), (10, Ty.int .i64 (marginP (boardsOf f) (loadP (boardsOf f) s))), (11, Ty.bool (bestIn (boardsOf f) s (bestDn (boardsOf f) N k.1).1 (bestDn (boardsOf f) N k.1).2 j.1).found), (50, Ty.int .i64 f.turnings.length), (51, Ty.int .i64 (j.1 : Nat))] [(26, Cont.mp (Value.int .i64) VI64 (bestIn (boardsOf f) s (bestDn (boardsOf f) N k.1).1 (bestDn (boardsOf f) N k.1).2 j.1).best), (27, Cont.mp (Value.int .i64) VI64 (bestIn (boardsOf f) s (bestDn (boardsOf f) N k.1).1 (bestDn (boardsOf f) N k.1).2 j.1).next)]) (fun j => f.turnings.length - j.1) (⟨0, by omega⟩) ?_ fun j => ?_
          · (refine Ent.mk' ?_ ?_ <;> (repeat' (first | exact allSub_zero | exact allTags_nil | refine allSub_succ' ?_ (Ty.sub_any _) | refine allSub_succ' ?_ (Ty.sub_refl _) | refine allTags_cons rfl (Cont.sub_refl _) ?_)))
          ·
            refine t_seq ?_
            refine t_region ?_
            refine r_bin rfl rfl rfl ?_
            refine r_nil ?_
            refine i_then ?_
            refine t_seq ?_
            refine t_cond_dec rfl (fun hc4 => ?_) (fun hc4 => ?_)
            ·
              refine t_skip ?_
              refine i_then ?_
              refine t_seq ?_
              refine t_block ?_
              refine t_seq ?_
              refine t_region ?_
              refine mvI rfl ?_
              refine asI rfl ?_
              refine r_nil ?_
              refine i_then ?_
              refine t_seq ?_
              refine t_seq ?_
              have hsh := Nat.shiftRight_le s j.1
              have hone := one_shl (i := j.1) (by omega)
              have h1k : 1 <<< j.1 < 256 := by rw [Nat.shiftLeft_eq, Nat.one_mul]; exact Nat.pow_lt_pow_right (n := 8) (by decide) (by omega)
              have hor : s ||| 1 <<< j.1 < 256 := Nat.or_lt_two_pow (n := 8) hs256 h1k
              refine t_region ?_
              refine mvI rfl ?_
              refine mvI rfl ?_
              refine r_shrN rfl rfl (by omega) ?_
              refine r_andN (b := 1) rfl rfl (by omega) (by omega) ?_
              refine r_bin rfl rfl rfl ?_
              refine mvB rfl ?_
              apply r_guard (s := 59) rfl rfl rfl
              · intro hg; apply opT_of; (refine mvPe rfl ?_); refine r_nil ?_; exact rfl
              · exact rfl
              · exact rfl
              apply r_guard (s := 59) rfl rfl rfl
              · intro hg; apply opT_of; (refine mvI rfl ?_); refine r_nil ?_; exact rfl
              · exact rfl
              · exact rfl
              apply r_guard (s := 59) rfl rfl rfl
              · intro hg; apply opT_of; (refine mvI rfl ?_); refine r_nil ?_; exact rfl
              · exact rfl
              · exact rfl
              apply r_guard (s := 59) rfl rfl rfl
              · intro hg; apply opT_strip (s := 62) rfl (by (rw [hg]; rfl)); apply opT_of; (refine r_shlN (a := 1) rfl rfl (by omega) (by omega) ?_); refine r_nil ?_; exact rfl
              · exact rfl
              · exact rfl
              apply r_guard (s := 59) rfl rfl rfl
              · intro hg; apply opT_strip (s := 61) rfl (by (rw [hg]; rfl)); apply opT_strip (s := 63) rfl (by (rw [hg]; rfl)); apply opT_of; (refine r_orN rfl rfl (by omega) (by omega) ?_); refine r_nil ?_; exact rfl
              · exact rfl
              · exact rfl
              apply r_guard (s := 59) rfl rfl rfl
              · intro hg; apply opT_strip (s := 60) rfl (by (rw [hg]; rfl)); apply opT_strip (s := 64) rfl (by (rw [hg]; rfl)); apply opT_of; (refine r_call (c_whole (boardsOf f) _ (by omega) hfi.before) rfl rfl rfl rfl rfl ?_); refine r_nil ?_; exact rfl
              · exact rfl
              · exact rfl
              apply r_guard (s := 59) rfl rfl rfl
              · intro hg; apply opT_strip (s := 65) rfl (by (rw [hg]; rfl)); apply opT_of; (refine r_not rfl ?_); refine r_nil ?_; exact rfl
              · exact rfl
              · exact rfl
              refine r_or rfl rfl ?_
              refine r_nil ?_
              refine i_then ?_
              refine t_cond rfl (fun hc5 => ?_) (fun hc5 => ?_)
              ·
                refine t_exit ?_
                refine i_then_exit ?_
                refine i_block_exit rfl ?_
                refine i_then ?_
                refine t_region ?_
                refine r_add rfl rfl (by omega) (by omega) ?_
                refine mvI rfl ?_
                refine r_nil ?_
                refine i_round (⟨j.1 + 1, by omega⟩) ?_ (by show f.turnings.length - (j.1 + 1) < f.turnings.length - j.1; omega)
                (refine Ent.mk' ?_ ?_ <;> (repeat' (first | exact allSub_zero | exact allTags_nil | refine allSub_succ' ?_ (Ty.sub_any _) | refine allSub_succ' ?_ (Ty.sub_refl _) | refine allTags_cons rfl ?_ ?_ | refine allSub_succ' ?_ ?_)))
                all_goals skip
                all_goals first | exact Ty.sub_bool (congrArg BSt.found (best_skip hc5).symm) | exact Cont.sub_mp (congrArg BSt.best (best_skip hc5).symm) | exact Cont.sub_mp (congrArg BSt.next (best_skip hc5).symm)
              ·
                refine t_skip ?_
                refine i_then ?_
                refine t_seq ?_
                refine t_region ?_
                refine mvI rfl ?_
                refine mvM rfl ?_
                refine mvI rfl ?_
                refine mvI rfl ?_
                refine r_shlN (a := 1) rfl rfl (by omega) (by omega) ?_
                refine r_orN rfl rfl (by omega) (by omega) ?_
                refine r_lookup (intKey Try.prog 3 .i64 und3) (z0 := (0 : Int)) rfl rfl (by decide) rfl key_int mapT143 zero3 vi64_zero ?_
                refine r_buildSlice (E := I64) (xs := [_]) rfl rfl rfl rfl rfl (by decide) (by decide) (by repeat (first | exact (Parts.nil : Parts _ _ [] _) | (show Parts _ _ ((_, _) :: _) _; apply Parts.one; (· exact (rfl : _ = Ty.int _ _)); (· exact rfl)))) (by exact rfl) rfl ?_
                refine r_call (c_least _ _) rfl rfl rfl rfl rfl ?_
                refine asI rfl ?_
                refine r_nil ?_
                refine i_then ?_
                refine t_seq ?_
                refine t_region ?_
                refine mvB rfl ?_
                refine r_not rfl ?_
                refine mvB rfl ?_
                apply r_guard (s := 79) rfl rfl rfl
                · intro hg; apply opT_of; (refine mvI rfl ?_); refine r_nil ?_; exact rfl
                · exact rfl
                · exact rfl
                apply r_guard (s := 79) rfl rfl rfl
                · intro hg; apply opT_of; (refine mvM rfl ?_); refine r_nil ?_; exact rfl
                · exact rfl
                · exact rfl
                apply r_guard (s := 79) rfl rfl rfl
                · intro hg; apply opT_of; (refine mvI rfl ?_); refine r_nil ?_; exact rfl
                · exact rfl
                · exact rfl
                apply r_guard (s := 79) rfl rfl rfl
                · intro hg; apply opT_strip (s := 81) rfl (by (rw [hg]; rfl)); apply opT_strip (s := 82) rfl (by (rw [hg]; rfl)); apply opT_of; (refine r_lookup (intKey Try.prog 3 .i64 und3) (z0 := (0 : Int)) rfl rfl (by decide) rfl key_int mapT143 zero3 vi64_zero ?_); refine r_nil ?_; exact rfl
                · exact rfl
                · exact rfl
                apply r_guard (s := 79) rfl rfl rfl
                · intro hg; apply opT_strip (s := 80) rfl (by (rw [hg]; rfl)); apply opT_strip (s := 83) rfl (by (rw [hg]; rfl)); apply opT_of; (refine r_bin rfl rfl rfl ?_); refine r_nil ?_; exact rfl
                · exact rfl
                · exact rfl
                refine r_or rfl rfl ?_
                refine r_nil ?_
                refine i_then ?_
                refine t_cond rfl (fun hc6 => ?_) (fun hc6 => ?_)
                ·
                  refine t_region ?_
                  refine mvM rfl ?_
                  refine mvI rfl ?_
                  refine mvM rfl ?_
                  refine mvI rfl ?_
                  refine mvI rfl ?_
                  refine mvI rfl ?_
                  refine r_mapUpdate (intKey Try.prog 3 .i64 und3) rfl rfl (by decide) rfl key_int rfl rfl mapT143 ?_
                  refine r_mapUpdate (intKey Try.prog 3 .i64 und3) rfl rfl (by decide) rfl key_int rfl rfl mapT143 ?_
                  refine asB rfl ?_
                  refine r_nil ?_
                  refine i_block ?_
                  refine i_then ?_
                  refine t_region ?_
                  refine r_add rfl rfl (by omega) (by omega) ?_
                  refine mvI rfl ?_
                  refine r_nil ?_
                  refine i_round (⟨j.1 + 1, by omega⟩) ?_ (by show f.turnings.length - (j.1 + 1) < f.turnings.length - j.1; omega)
                  (refine Ent.mk' ?_ ?_ <;> (repeat' (first | exact allSub_zero | exact allTags_nil | refine allSub_succ' ?_ (Ty.sub_any _) | refine allSub_succ' ?_ (Ty.sub_refl _) | refine allTags_cons rfl ?_ ?_ | refine allSub_succ' ?_ ?_)))
                  all_goals skip
                  all_goals first | exact Ty.sub_bool (congrArg BSt.found (best_new hc5 hc6).symm) | exact Cont.sub_mp (congrArg BSt.best (best_new hc5 hc6).symm) | exact Cont.sub_mp (congrArg BSt.next (best_new hc5 hc6).symm)
                ·
                  refine t_skip ?_
                  refine i_block ?_
                  refine i_then ?_
                  refine t_region ?_
                  refine r_add rfl rfl (by omega) (by omega) ?_
                  refine mvI rfl ?_
                  refine r_nil ?_
                  refine i_round (⟨j.1 + 1, by omega⟩) ?_ (by show f.turnings.length - (j.1 + 1) < f.turnings.length - j.1; omega)
                  (refine Ent.mk' ?_ ?_ <;> (repeat' (first | exact allSub_zero | exact allTags_nil | refine allSub_succ' ?_ (Ty.sub_any _) | refine allSub_succ' ?_ (Ty.sub_refl _) | refine allTags_cons rfl ?_ ?_ | refine allSub_succ' ?_ ?_)))
                  all_goals skip
                  all_goals first | exact Ty.sub_bool (congrArg BSt.found (best_old hc5 hc6).symm) | exact Cont.sub_mp (congrArg BSt.best (best_old hc5 hc6).symm) | exact Cont.sub_mp (congrArg BSt.next (best_old hc5 hc6).symm)
            ·
              refine t_exit ?_
              refine i_then_exit ?_
              refine i_then_exit ?_
              refine i_block_exit rfl ?_
              refine i_block ?_
              refine i_then ?_
              refine t_region ?_
              refine mvI rfl ?_
              refine r_sub rfl rfl (by omega) (by omega) ?_
              refine asI rfl ?_
              refine r_nil ?_
              refine i_round (⟨k.1 + 1, by omega⟩) ?_ (by exact Nat.sub_lt_sub_left (by omega) (Nat.lt_succ_self _))
              (refine Ent.mk' ?_ ?_ <;> (repeat' (first | exact allSub_zero | exact allTags_nil | refine allSub_succ' ?_ (Ty.sub_any _) | refine allSub_succ' ?_ (Ty.sub_refl _) | refine allTags_cons rfl ?_ ?_ | refine allSub_succ' ?_ ?_)))
              all_goals skip
              all_goals first | exact Ty.sub_int (by show (s : Int) - 1 = (N : Int) - (((k.1 + 1 : Nat) : Int) + 1); omega) | exact Cont.sub_mp (by show _ = (bestDn _ N (k.1 + 1)).1; rw [hd, bestS, if_neg (Bool.eq_false_iff.1 hc3), hff, show j.1 = f.turnings.length by have := j.2; omega]) | exact Cont.sub_mp (by show _ = (bestDn _ N (k.1 + 1)).2; rw [hd, bestS, if_neg (Bool.eq_false_iff.1 hc3), hff, show j.1 = f.turnings.length by have := j.2; omega])
      ·
        refine t_exit ?_
        refine i_then_exit ?_
        refine i_then_exit ?_
        refine i_block_exit rfl ?_
        refine i_then ?_
        refine t_seq ?_
        have hnx := bestP_nexts f
        refine t_region ?_
        refine asX rfl ?_
        refine r_nil ?_
        refine i_then ?_
        refine t_seq ?_
        refine t_region ?_
        refine asI rfl ?_
        refine r_nil ?_
        refine i_then ?_
        refine t_seq ?_
        refine t_seq ?_
        refine t_region ?_
        refine r_field_pp rfl rfl rfl rfl rfl (by decide) ?_
        refine r_load_pp rfl rfl rfl rfl ?_
        refine r_len rfl rfl rfl ?_
        refine mvI rfl ?_
        refine r_nil ?_
        refine i_then ?_
        refine t_block ?_
        refine t_loop (fun (i : {k : Nat // k ≤ f.turnings.length}) => live [(1, Ty.pp (flrTys f)), (7, Ty.mp 26), (8, Ty.mp 27), (14, Ty.row I64 3 105 (outsUp (bestP (boardsOf f)).2 i.1).1), (15, Ty.int .i64 ((outsUp (bestP (boardsOf f)).2 i.1).2 : Nat)), (95, Ty.int .i64 f.turnings.length), (96, Ty.int .i64 (i.1 : Nat))] [(26, Cont.mp (Value.int .i64) VI64 (bestP (boardsOf f)).1), (27, Cont.mp (Value.int .i64) VI64 (bestP (boardsOf f)).2)]) (fun i => f.turnings.length - i.1) (⟨0, by omega⟩) ?_ fun i => ?_
        · (refine Ent.mk' ?_ ?_ <;> (repeat' (first | exact allSub_zero | exact allTags_nil | refine allSub_succ' ?_ (Ty.sub_any _) | refine allSub_succ' ?_ (Ty.sub_refl _) | refine allSub_succ' ?_ Ty.nil_row | refine allTags_cons rfl ?_ ?_)))
          all_goals first | exact Cont.sub_mp (by show (bestDn _ N k.1).1 = (bestP (boardsOf f)).1; rw [bestP, hff, ← hN, show k.1 = N by have := k.2; omega]) | exact Cont.sub_mp (by show (bestDn _ N k.1).2 = (bestP (boardsOf f)).2; rw [bestP, hff, ← hN, show k.1 = N by have := k.2; omega])
        ·
          have hob := outs_bound hnx hnt i.1
          refine t_seq ?_
          refine t_region ?_
          refine r_bin rfl rfl rfl ?_
          refine r_nil ?_
          refine i_then ?_
          refine t_seq ?_
          refine t_cond_dec rfl (fun hc7 => ?_) (fun hc7 => ?_)
          ·
            refine t_skip ?_
            refine i_then ?_
            refine t_seq ?_
            refine t_block ?_
            refine t_seq ?_
            refine t_region ?_
            refine mvM rfl ?_
            refine mvI rfl ?_
            refine r_lookup (intKey Try.prog 3 .i64 und3) (z0 := (0 : Int)) rfl rfl (by decide) rfl key_int mapT143 zero3 vi64_zero ?_
            refine asI rfl ?_
            refine r_nil ?_
            refine i_then ?_
            have hv := hnx ((outsUp (bestP (boardsOf f)).2 i.1).2 : Nat)
            simp only [mg] at hv
            have hone := one_shl (i := ((mget (bestP (boardsOf f)).2 ((outsUp (bestP (boardsOf f)).2 i.1).2 : Nat)).getD 0).toNat) (by omega)
            refine t_draw mixed rfl ?_
            refine mvR rfl ?_
            refine mvI rfl ?_
            refine r_buildSlice (E := I64) (xs := [_]) rfl rfl rfl rfl rfl (by decide) (by decide) (by repeat (first | exact (Parts.nil : Parts _ _ [] _) | (show Parts _ _ ((_, _) :: _) _; apply Parts.one; (· exact (rfl : _ = Ty.int _ _)); (· exact rfl)))) (by exact rfl) rfl ?_
            refine r_append rfl rfl (by decide) rfl rfl rfl rfl rfl rfl (by decide) (by (simp <;> omega)) (by (simp <;> omega)) ?_
            refine mvI rfl ?_
            refine mvI rfl ?_
            refine r_shlI (a := 1) rfl rfl (by omega) (by omega) (by omega) ?_
            refine r_orN rfl rfl (by omega) (by omega) ?_
            refine asR rfl ?_
            refine asI rfl ?_
            refine r_nil ?_
            refine ⟨by kernel_rfl, ?_⟩
            refine i_block ?_
            refine i_then ?_
            refine t_region ?_
            refine r_add rfl rfl (by omega) (by omega) ?_
            refine mvI rfl ?_
            refine r_nil ?_
            refine i_round (⟨i.1 + 1, by omega⟩) ?_ (by show f.turnings.length - (i.1 + 1) < f.turnings.length - i.1; omega)
            (refine Ent.mk' ?_ ?_ <;> (repeat' (first | exact allSub_zero | exact allTags_nil | refine allSub_succ' ?_ (Ty.sub_any _) | refine allSub_succ' ?_ (Ty.sub_refl _) | refine allTags_cons rfl (Cont.sub_refl _) ?_)))
            all_goals skip
          ·
            refine t_exit ?_
            refine i_then_exit ?_
            refine i_then_exit ?_
            refine i_block_exit rfl ?_
            refine i_then ?_
            refine t_seq ?_
            refine t_draw mixed rfl ?_
            refine mvR rfl ?_
            refine mvM rfl ?_
            refine r_lookup (intKey Try.prog 3 .i64 und3) (z0 := (0 : Int)) rfl rfl (by decide) rfl key_int mapT143 zero3 vi64_zero ?_
            refine asR rfl ?_
            refine asI rfl ?_
            refine asI rfl ?_
            refine r_nil ?_
            refine ⟨by kernel_rfl, ?_⟩
            refine i_then ?_
            refine t_ret ?_
            refine i_rp3 rfl rfl rfl rfl ?_ ?_ ?_
            all_goals skip
            all_goals first | exact ret_eq rfl rfl (congrArg (Ty.int .i64) (by rw [safestP, if_neg (fun h => h hc1)]; try rfl)) | exact ret_row_eq (by decide) (by rw [safestP, if_neg (fun h => h hc1), show i.1 = f.turnings.length by have := i.2; omega])
end Go.Proofs.Ytifgbnbkimcchaa
