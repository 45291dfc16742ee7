/- Lemmas: the program and the reference walked, plain laws. -/
import Derived.Orders
import Derived.Below
import Derived.WalkKit
import Derived.OrdersIn
import Derived.TacticsIn
import Derived.RangeFuncCalls
import Derived.ChangeKeysEq
import Derived.Maps.AppendAt
import Derived.Laws.MakeOwn
import Derived.Laws.CopyRow
import Derived.Test.YtelbollidfdcjaaGreatChecked
import Derived.RangeFuncRecord
import Derived.Lib.AppendZerosOnto
import Derived.JoinedOf
import Derived.OpenShut
import Derived.WideKeyArgs
import Derived.Deep.Frames
import Derived.Deep.Slices
import Derived.Deep.Strs
import Derived.Lib.SmallJoins
import Derived.KernelRfl
import Derived.Test.YtelbollidfdcjaaGreatRows
namespace Go.T
open Go Go.RowKit
abbrev bB := Nat → Option Nat
structure Wf (w : World) (M : bB) : Prop where
  lt : ∀ b t, M b = some t → b < w.heap.size
  inj : ∀ b b' t, t + 1 < 4096 → M b = some (t + 1) → M b' = some (t + 1) → b = b'
abbrev fN (t : Nat) : Prop := 1 ≤ t ∧ t < 4096
structure Le (S K : Nat → Prop) (w : World) (M : bB) (w' : World) (M' : bB) : Prop where
  size : w.heap.size ≤ w'.heap.size
  os : w'.os = w.os
  tape : w'.tape = w.tape
  out : w'.output = w.output
  oM : ∀ b, b < w.heap.size → M b = none → M' b = none ∧ w'.heap[b]? = w.heap[b]?
  own : ∀ b t, M b = some t → ¬ K t → M' b = some t ∧ (¬ S t → w'.heap[b]? = w.heap[b]?)
theorem Le.refl (S K : Nat → Prop) (w : World) (M : bB) : Le S K w M w M :=
 ⟨Nat.le_refl _, rfl, rfl, rfl, fun _ _ h => ⟨h, rfl⟩, fun _ _ h _ => ⟨h, fun _ => rfl⟩⟩
theorem Le.trans {S K S' K' : Nat → Prop} {w w' w'' : World} {M M' M'' : bB} (h : Le S K w M w' M') (h' : Le S' K' w' M' w'' M'') :
 Le (fun t => S t ∨ S' t) (fun t => K t ∨ K' t) w M w'' M'' where
 size := Nat.le_trans h.size h'.size
 os := h'.os.trans h.os
 tape := h'.tape.trans h.tape
 out := h'.out.trans h.out
 oM b hb hm := by
  obtain ⟨h1, h2⟩ := h.oM b hb hm
  obtain ⟨h3, h4⟩ := h'.oM b (Nat.lt_of_lt_of_le hb h.size) h1
  exact ⟨h3, h4.trans h2⟩
 own b t hm hk := by
  obtain ⟨h1, h2⟩ := h.own b t hm (fun h => hk (.inl h))
  obtain ⟨h3, h4⟩ := h'.own b t h1 (fun h => hk (.inr h))
  exact ⟨h3, fun hs => (h4 fun h => hs (.inr h)).trans (h2 fun h => hs (.inl h))⟩
theorem Le.weaken {S K S' K' : Nat → Prop} {w w' : World} {M M' : bB} (h : Le S K w M w' M') (hs : ∀ t, S t → S' t) (hk : ∀ t, K t → K' t) : Le S' K' w M w' M' :=
 ⟨h.size, h.os, h.tape, h.out, h.oM, fun b t hm ht => let ⟨a, b'⟩ := h.own b t hm (fun x => ht (hk t x)); ⟨a, fun x => b' fun y => x (hs t y)⟩⟩
structure Ty where
  den : World → bB → Value → Prop
  deps : List Nat := []
  cdeps : List Nat := []
  mono : ∀ {S K : Nat → Prop} {w w' : World} {M M' : bB} {v : Value}, Le S K w M w' M' → (∀ t ∈ deps, ¬ K t) → (∀ t ∈ cdeps, ¬ S t) → den w M v → den w' M' v
  one : Bool := false
  isOne : ∀ {w : World} {M : bB} {v : Value}, one = true → den w M v → v.oneCell' = true := by intro _ _ _ h; cases h
def ig (_ : World) (_ : bB) (_ : Value) : Prop := True
def Ty.any : Ty := { den := ig, mono := fun _ _ _ _ => trivial }
def cC (l : List Ty) : List Nat := l.flatMap Ty.deps
def bX (l : List Ty) : List Nat := l.flatMap Ty.cdeps
def cB (w : World) (M : bB) : List Ty → List Value → Prop
  | [], [] => True
  | t :: ts, v :: vs => t.den w M v ∧ cB w M ts vs
  | _, _ => False
theorem bQ {S K : Nat → Prop} {w w' : World} {M M' : bB} (le : Le S K w M w' M') : ∀ {l : List Ty} {vs : List Value}, (∀ t ∈ cC l, ¬ K t) → (∀ t ∈ bX l, ¬ S t) → cB w M l vs → cB w' M' l vs
  | [], [], _, _, _ => trivial
  | t :: ts, v :: vs, hd, hc, ⟨h, hs⟩ => ⟨t.mono le (fun u hu => hd u (by simp [cC, hu])) (fun u hu => hc u (by simp [bX, hu])) h, bQ le (fun u hu => hd u (by simp only [cC, List.flatMap_cons, List.mem_append]; exact .inr hu)) (fun u hu => hc u (by simp only [bX, List.flatMap_cons, List.mem_append]; exact .inr hu)) hs⟩
theorem cL {w : World} {M : bB} : ∀ {l : List Ty} {vs : List Value}, cB w M l vs → vs.length = l.length
  | [], [], _ => rfl
  | _ :: _, _ :: _, ⟨_, h⟩ => by simp [cL h]
theorem dG {w : World} {M : bB} : ∀ {l : List Ty} {vs : List Value}, cB w M l vs → ∀ (i : Nat) (t : Ty), l[i]? = some t → ∃ v, vs[i]? = some v ∧ t.den w M v
  | [], [], _, i, t, h => by simp at h
  | u :: ts, v :: vs, ⟨h1, h2⟩, i, t, h => by
    cases i with
    | zero => simp at h; subst h; exact ⟨v, by simp, h1⟩
    | succ i => simp at h; obtain ⟨x, hx, hd⟩ := dG h2 i t h; exact ⟨x, by simpa using hx, hd⟩
theorem gB {w : World} {M : bB} : ∀ {l : List Ty} {vs : List Value}, vs.length = l.length → (∀ (i : Nat) (t : Ty), l[i]? = some t → ∃ v, vs[i]? = some v ∧ t.den w M v) → cB w M l vs
  | [], [], _, _ => trivial
  | u :: ts, v :: vs, hl, h => by
    refine ⟨?_, gB (by simpa using hl) fun i t hi => ?_⟩
    · obtain ⟨x, hx, hd⟩ := h 0 u rfl
      simp at hx; subst hx; exact hd
    · obtain ⟨x, hx, hd⟩ := h (i + 1) t (by simpa using hi)
      exact ⟨x, by simpa using hx, hd⟩
theorem mj {w : World} {M : bB} : ∀ (n : Nat) {l : List Ty} {vs : List Value}, cB w M l vs → cB w M (l.drop n) (vs.drop n)
  | 0, _, _, h => h
  | n + 1, [], [], _ => trivial
  | n + 1, _ :: ts, _ :: vs, ⟨_, h⟩ => mj n h
theorem pX {w : World} {M : bB} : ∀ (n : Nat) {l : List Ty} {vs : List Value}, cB w M l vs → cB w M (l.take n) (vs.take n)
  | 0, _, _, _ => trivial
  | n + 1, [], [], _ => trivial
  | n + 1, _ :: ts, _ :: vs, ⟨h1, h2⟩ => ⟨h1, pX n h2⟩
def lS (l k : List Nat) : Bool := l.all fun x => !k.contains x
def Ty.safe (t : Ty) (S K : List Nat) : Bool := lS t.deps K && lS t.cdeps S
theorem gN {l k : List Nat} (h : lS l k = true) : ∀ t ∈ l, ¬ (t ∈ k) := by
 intro t ht hk
 simp only [lS, List.all_eq_true] at h
 have := h t ht
 simp [hk] at this
theorem vk (t : Ty) : t.safe [] [] = true := by simp [Ty.safe, lS]
theorem eR {t : Ty} {S K : List Nat} (h : t.safe S K = true) : (∀ u ∈ t.deps, ¬ (u ∈ K)) ∧ ∀ u ∈ t.cdeps, ¬ (u ∈ S) := by
 simp only [Ty.safe, Bool.and_eq_true] at h; exact ⟨gN h.1, gN h.2⟩
def Ty.weak (S K : List Nat) (t : Ty) : Ty := bif t.safe S K then t else Ty.any
def dY (T : TypeId) (l : List Ty) (w : World) (M : bB) (t : Nat) : Prop := ∃ b cs, M b = some t ∧ w.heap[b]? = some (.cells cs T (0, 0)) ∧ cB w M l cs.toList
structure Cont where
  den : World → bB → Nat → Prop
  deps : List Nat := []
  cdeps : List Nat := []
  mono : ∀ {S K : Nat → Prop} {w w' : World} {M M' : bB} {t : Nat}, Le S K w M w' M' → (∀ u ∈ deps, ¬ K u) → (∀ u ∈ cdeps, ¬ S u) → ¬ S t → ¬ K t → den w M t → den w' M' t
  view : Option (TypeId × List Ty) := none
  viewOk : ∀ {T : TypeId} {l : List Ty}, view = some (T, l) → cC l = deps ∧ bX l = cdeps ∧ ∀ {w : World} {M : bB} {t : Nat}, den w M t → dY T l w M t := by intro _ _ h; cases h
def Cont.safe (t : Cont) (S K : List Nat) : Bool := lS t.deps K && lS t.cdeps S
theorem nk {t : Cont} {S K : List Nat} (h : t.safe S K = true) : (∀ u ∈ t.deps, ¬ (u ∈ K)) ∧ ∀ u ∈ t.cdeps, ¬ (u ∈ S) := by
 simp only [Cont.safe, Bool.and_eq_true] at h; exact ⟨gN h.1, gN h.2⟩
def Cont.cells (T : TypeId) (l : List Ty) : Cont :=
  { den := dY T l, deps := cC l, cdeps := bX l
    mono := fun le hk hc hs hkt ⟨b, cs, h1, h2, h3⟩ => let ⟨h4, h5⟩ := le.own b _ h1 hkt; ⟨b, cs, h4, (h5 hs).trans h2, bQ le hk hc h3⟩
    view := some (T, l)
    viewOk := fun h => by injection h with h; injection h with h1 h2; subst h1; subst h2; exact ⟨rfl, rfl, fun h => h⟩ }
def Cont.soft (S K : List Nat) (C : Cont) : Option Cont :=
  match C.view with
  | some (T, l) => some (.cells T (l.map (Ty.weak S K)))
  | none => none
theorem yS {S K : List Nat} {w w' : World} {M M' : bB} (le : Le (· ∈ S) (· ∈ K) w M w' M') : ∀ {l : List Ty} {vs : List Value}, cB w M l vs → cB w' M' (l.map (Ty.weak S K)) vs
  | [], [], _ => trivial
  | t :: _, _ :: _, ⟨h, hs⟩ => by
    refine ⟨?_, yS le hs⟩
    unfold Ty.weak
    cases hc : t.safe S K with
    | true => exact t.mono le (eR hc).1 (eR hc).2 h
    | false => trivial
theorem Gg {S K : List Nat} {w w' : World} {M M' : bB} {C D : Cont} {t : Nat} (le : Le (· ∈ S) (· ∈ K) w M w' M') (hs : t ∉ S) (hk : t ∉ K) (h : C.soft S K = some D) (hd : C.den w M t) : D.den w' M' t := by
 unfold Cont.soft at h
 split at h
 ·rename_i T l hv
  injection h with h
  subst h
  obtain ⟨b, cs, h1, h2, h3⟩ := (C.viewOk hv).2.2 hd
  obtain ⟨h4, h5⟩ := le.own b t h1 hk
  exact ⟨b, cs, h4, (h5 hs).trans h2, yS le h3⟩
 cases h
theorem xk {S K : List Nat} : ∀ {l : List Ty} {u : Nat}, (u ∈ cC (l.map (Ty.weak S K)) → u ∈ cC l) ∧ (u ∈ bX (l.map (Ty.weak S K)) → u ∈ bX l) := by
  intro l u
  simp only [cC, bX, List.mem_flatMap, List.mem_map]
  constructor
  · rintro ⟨_, ⟨t, ht, rfl⟩, hu⟩
    unfold Ty.weak at hu
    cases hc : t.safe S K with
    | true => rw [hc] at hu; exact ⟨t, ht, hu⟩
    | false => rw [hc] at hu; simp [Ty.any] at hu
  · rintro ⟨_, ⟨t, ht, rfl⟩, hu⟩
    unfold Ty.weak at hu
    cases hc : t.safe S K with
    | true => rw [hc] at hu; exact ⟨t, ht, hu⟩
    | false => rw [hc] at hu; simp [Ty.any] at hu
def Cont.Ly (D C : Cont) : Prop := (∀ u ∈ D.deps, u ∈ C.deps) ∧ ∀ u ∈ D.cdeps, u ∈ C.cdeps
theorem FF {S K : List Nat} {C D : Cont} (h : C.soft S K = some D) : D.Ly C := by
 unfold Cont.soft at h
 split at h
 ·rename_i T l hv
  injection h with h
  subst h
  obtain ⟨e1, e2, _⟩ := C.viewOk hv
  exact ⟨fun u hu => e1 ▸ xk.1 hu, fun u hu => e2 ▸ xk.2 hu⟩
 cases h
theorem D1 {l l' k : List Nat} (h : ∀ u ∈ l', u ∈ l) (hd : lS l k = true) : lS l' k = true := by
 simp only [lS, List.all_eq_true] at hd ⊢
 exact fun u hu => hd u (h u hu)
theorem yg {C D : Cont} {S K : List Nat} (h : D.Ly C) (hs : C.safe S K = true) : D.safe S K = true := by
 simp only [Cont.safe, Bool.and_eq_true] at hs ⊢
 exact ⟨D1 h.1 hs.1, D1 h.2 hs.2⟩
structure As where
  slots : Nat → Ty
  tags : List (Nat × Cont)
inductive FK where
  | plain | marks | round (l : Nat) | iter
structure Fr where
  n : Nat
  w0 : World
  M0 : bB
  pass : List Nat
  kd : FK
def FK.JC : FK → Nat → Prop
  | .iter, _ => True
  | _, t => 1 ≤ t
theorem FK.D5 {k : FK} {t : Nat} (h : 1 ≤ t) : k.JC t := by cases k <;> first | exact h | trivial
def FK.iq : FK → Fence
  | .round l => Fence.wide.inRound l
  | _ => Fence.wide
theorem FK.vA (k : FK) (f : FuncId) : k.iq.fn f := by cases k <;> trivial
theorem FK.xC (k : FK) : k.iq.depth = none := by cases k <;> rfl
theorem FK.calls {k : FK} {n : Nat} {P : Program} {f : FuncId} {args : Array Value} {w : World} {R : Ending → World → Prop} (h : Calls P f args w R) : CallsIn k.iq n P f args w R := by
 have h' : CallsIn Fence.wide n P f args w R := callsIn_wide.2 h
 cases k <;> first | exact h' | exact CallsIn.inRound _ h'
theorem Hv {k : FK} {P : Program} {o : Oper} {a : Act} {w : World} {K : Act → World → Prop} (hnd : ∀ c, o.op ≠ .defer c) (hnr : ∀ row args w', (execOp a.eval o).run P w ≠ .ok (.row row args) w') (h : o.wp P a w K fun _ _ _ => False) : o.wpIn k.iq 0 P a w K fun _ _ _ => False := by
  refine ⟨fun f _ => k.vA f, ?_⟩
  unfold Oper.wp at h
  rw [Oper.semAt_eq k.iq.round a.eval o hnd]
  generalize hr : (execOp a.eval o).run P w = r at *
  cases r with
  | ok n w' =>
    cases n <;> simp only [Oper.upon, Oper.uponIn] at h ⊢ <;> first
      | exact h
      | exact ⟨fun hd => (by rw [k.xC] at hd; cases hd), FK.calls h⟩
      | exact absurd rfl (hnr _ _ _)
  | halt x w' => cases x <;> simp only [Oper.upon, Oper.uponIn] at h ⊢
theorem zB {ρ : Operand → Value} {o : Oper} {P : Program} {w w' : World} {n : Next} (h : (execOp ρ o).run P w = .ok n w') (hn : ∀ d, n ≠ .defer d) : ∀ c, o.op ≠ .defer c := by
  intro c hc
  unfold execOp at h
  rw [hc] at h
  rw [Sem.run_bind] at h
  cases hr : (resolve ρ c o.type).run P w with
  | ok d w2 => rw [hr] at h; injection h with h; exact hn d h.symm
  | halt x w2 => rw [hr] at h; cases h
theorem oY {k : FK} {P : Program} {o : Oper} {a : Act} {w w' : World} {v : Value} {K : Act → World → Prop} (hv : (execOp a.eval o).run P w = .ok (.value v) w') (h : K (a.put o.dst v) w') : o.wpIn k.iq 0 P a w K fun _ _ _ => False := by
 refine Hv (zB hv fun _ h => by cases h) (fun _ _ _ hr => by rw [hv] at hr; cases hr) ?_
 unfold Oper.wp
 rw [hv, Oper.upon_value]; exact h
theorem vV {k : FK} {P : Program} {o : Oper} {a : Act} {w w' : World} {K : Act → World → Prop} (hv : (execOp a.eval o).run P w = .ok .skip w') (h : K (a.put o.dst undef) w') : o.wpIn k.iq 0 P a w K fun _ _ _ => False := by
 refine Hv (zB hv fun _ h => by cases h) (fun _ _ _ hr => by rw [hv] at hr; cases hr) ?_
 unfold Oper.wp
 rw [hv, Oper.upon_skip]; exact h
theorem kH {k : FK} {P : Program} {o : Oper} {a : Act} {w w' : World} {f : FuncId} {args : Array Value} {K : Act → World → Prop} (hv : (execOp a.eval o).run P w = .ok (.enter f args) w') (h : Calls P f args w' fun e w'' => ∃ v, e = .returned v ∧ K (a.put o.dst v) w'') : o.wpIn k.iq 0 P a w K fun _ _ _ => False := by
 refine Hv (zB hv fun _ h => by cases h) (fun _ _ _ hr => by rw [hv] at hr; cases hr) ?_
 unfold Oper.wp
 rw [hv, Oper.upon_enter]
 exact h.mono fun e w'' ⟨v, e1, hk⟩ => by subst e1; exact hk
def Fr.base (fr : Fr) (w : World) (M : bB) : Prop := Le fr.kd.JC (fun t => 1 ≤ t ∧ t ∉ fr.pass) fr.w0 fr.M0 w M
def sk (r : Nat) : Deferred := { target := .collected r, args := #[] }
def Defs (fr : Fr) (w : World) (M : bB) (ds : List Deferred) : Prop :=
  ∃ rs : List Nat, ds = rs.map sk ∧ (rs ≠ [] → fr.kd = .marks) ∧ rs.Nodup ∧ ∀ r ∈ rs, M r = some 0 ∧ (fr.w0.heap.size ≤ r ∧ ∀ t, ¬ (1 ≤ t ∧ t ∉ fr.pass) → fr.M0 r ≠ some t) ∧ w.heap[r]? = some (.deferred (some []))
theorem Defs.nil {fr : Fr} {w : World} {M : bB} : Defs fr w M [] := ⟨[], rfl, fun h => absurd rfl h, List.nodup_nil, fun _ h => by cases h⟩
theorem Defs.step {fr : Fr} {w w' : World} {M M' : bB} {S K : Nat → Prop} {ds : List Deferred} (hs : ∀ t, S t → 1 ≤ t) (hk : ∀ t, K t → 1 ≤ t) (le : Le S K w M w' M') (h : Defs fr w M ds) : Defs fr w' M' ds := by
 obtain ⟨rs, e, h1, h2, h3⟩ := h
 refine ⟨rs, e, h1, h2, fun r hr => ?_⟩
 obtain ⟨a, b, c⟩ := h3 r hr
 obtain ⟨d, f⟩ := le.own r 0 a (fun h => by have := hk 0 h; omega)
 exact ⟨d, b, (f fun h => by have := hs 0 h; omega).trans c⟩
structure Ok (fr : Fr) (a : Act) (w : World) (M : bB) : Prop where
  wf : Wf w M
  base : fr.base w M
  size : a.tmps.size = fr.n
  defers : Defs fr w M a.defers
theorem Ok.gw {fr : Fr} {a : Act} {w : World} {M : bB} (h : Ok fr a w M) (hk : fr.kd ≠ .marks) : a.defers = [] := by
  obtain ⟨rs, e, h1, _⟩ := h.defers
  cases rs with
  | nil => exact e
  | cons r rs => exact absurd (h1 (by simp)) hk
def As.holds (fr : Fr) (A : As) (a : Act) (w : World) : Prop :=
  ∃ M, Ok fr a w M ∧ (∀ c, c < fr.n → (A.slots c).den w M (a.tmps.getD c undef)) ∧ ∀ x ∈ A.tags, x.2.den w M x.1
structure Fx where
  d : Option Nat
  ty : Ty := Ty.any
  S : List Nat := []
  K : List Nat := []
  sets : List (Nat × Cont) := []
  rs : List Nat := []
  rt : List Nat := []
def fW (S K : List Nat) (s : Nat → Ty) : Nat → Ty :=
  match S, K with
  | [], [] => s
  | S, K => fun c => bif (s c).safe S K then s c else Ty.any
def qA (d : Option Nat) (ty : Ty) (s : Nat → Ty) : Nat → Ty :=
  match d with
  | none => s
  | some d => fun c => bif Nat.beq c d then ty else s c
def mo (S K : List Nat) (l : List (Nat × Cont)) : List (Nat × Cont) :=
  match S, K with
  | [], [] => l
  | _, _ => l.filterMap fun x => bif S.contains x.1 || K.contains x.1 then none else bif x.2.safe S K then some x else (x.2.soft S K).map fun C => (x.1, C)
def As.after (A : As) (f : Fx) : As := ⟨qA f.d f.ty (fW f.S f.K A.slots), f.sets ++ mo f.S f.K A.tags⟩
def Fx.left (f : Fx) (w : World) (M : bB) (w' : World) (v : Value) : Prop :=
  ∃ M', Wf w' M' ∧ Le (· ∈ f.S) (· ∈ f.K) w M w' M' ∧ f.ty.den w' M' v ∧ ∀ x ∈ f.sets, x.2.den w' M' x.1
def wu (P : Program) (fr : Fr) (ops : Array Oper) (o : Oper) (A : As) (f : Fx) : Prop :=
  f.d = o.dst ∧ (∀ x ∈ f.sets, x.1 ∈ f.S ∨ x.1 ∈ f.K) ∧ (∀ t ∈ f.S, 1 ≤ t) ∧ (∀ t ∈ f.K, 1 ≤ t ∧ t ∉ fr.pass) ∧
  ∀ a w M, Wf w M → a.tmps.size = fr.n → (∀ c ∈ f.rs, c < fr.n → (A.slots c).den w M (a.tmps.getD c undef)) → (∀ x ∈ A.tags, x.1 ∈ f.rt → x.2.den w M x.1) →
    if Region.wanted o (yielded ops a.tmps) then o.wpIn fr.kd.iq 0 P a w (fun a' w' => ∃ v, a' = a.put o.dst v ∧ f.left w M w' v) (fun _ _ _ => False) else f.left w M w undef
def av (P : Program) (fr : Fr) (ops : Array Oper) : List Oper → As → (As → List (As × Fx) → Prop) → Prop
  | [], A, K => K A []
  | o :: rest, A, K => ∃ f, wu P fr ops o A f ∧ av P fr ops rest (A.after f) fun A' l => K A' ((A, f) :: l)
section
variable {P : Program} {fr : Fr} {ops : Array Oper}
theorem fH (S K : List Nat) (s : Nat → Ty) (c : Nat) : (fW S K s c = s c ∧ (s c).safe S K = true) ∨ ((s c).safe S K = false ∧ fW S K s c = Ty.any) := by
  unfold fW
  split
  · exact .inl ⟨rfl, vk _⟩
  · cases h : (s c).safe _ _ with
    | true => exact .inl ⟨by simp only [h, cond_true], rfl⟩
    | false => exact .inr ⟨rfl, by simp only [h, cond_false]⟩
theorem n5 {S K : List Nat} {l : List (Nat × Cont)} {x : Nat × Cont} (h : x ∈ mo S K l) : x.1 ∉ S ∧ x.1 ∉ K ∧ ∃ y ∈ l, y.1 = x.1 ∧ ((y = x ∧ y.2.safe S K = true) ∨ (y.2.safe S K = false ∧ y.2.soft S K = some x.2)) := by
  unfold mo at h
  split at h
  · exact ⟨by simp, by simp, x, h, rfl, .inl ⟨rfl, by simp [Cont.safe, lS]⟩⟩
  · obtain ⟨y, hy, hx⟩ := List.mem_filterMap.1 h
    cases hc : (S.contains y.1 || K.contains y.1) with
    | true => rw [hc] at hx; cases hx
    | false =>
      rw [hc, cond_false] at hx
      simp only [Bool.or_eq_false_iff, List.contains_eq_mem, decide_eq_false_iff_not] at hc
      cases hs : y.2.safe S K with
      | true => rw [hs, cond_true] at hx; injection hx with hx; subst hx; exact ⟨hc.1, hc.2, y, hy, rfl, .inl ⟨rfl, hs⟩⟩
      | false =>
        rw [hs, cond_false] at hx
        obtain ⟨D, hD, hx⟩ := Option.map_eq_some_iff.1 hx
        subst hx
        exact ⟨hc.1, hc.2, y, hy, rfl, .inr ⟨hs, hD⟩⟩
theorem gj {S K : List Nat} {w w' : World} {M M' : bB} {l : List (Nat × Cont)} {x : Nat × Cont} (le : Le (· ∈ S) (· ∈ K) w M w' M') (h : x ∈ mo S K l) (hd : ∀ y ∈ l, y.1 = x.1 → y.2.den w M y.1) : x.2.den w' M' x.1 := by
 obtain ⟨h1, h2, y, hy, e, ⟨rfl, hs⟩ | ⟨_, hs⟩⟩ := n5 h
 ·exact y.2.mono le (nk hs).1 (nk hs).2 h1 h2 (hd y hy rfl)
 have := hd y hy e
 rw [e] at this
 exact Gg le h1 h2 hs this
theorem CB (a : Act) (d : Option Nat) (v : Value) (c : Nat) (hc : c < a.tmps.size) : (a.put d v).tmps.getD c undef = if d = some c then v else a.tmps.getD c undef := by
  cases d with
  | none => simp [Act.put]
  | some d =>
    simp only [Act.put, Array.getD_eq_getD_getElem?, Array.getElem?_setIfInBounds, Option.some.injEq]
    by_cases e : d = c
    · subst e; simp [hc]
    · simp [e]
theorem size_put (a : Act) (d : Option Nat) (v : Value) : (a.put d v).tmps.size = a.tmps.size := by cases d <;> simp [Act.put]
theorem vX (a : Act) (d : Option Nat) (v : Value) : (a.put d v).defers = a.defers := by cases d <;> simp [Act.put]
theorem Fr.iK {w w' : World} {M M' : bB} {S K : Nat → Prop} (hb : fr.base w M) (hs : ∀ t, S t → 1 ≤ t) (hk : ∀ t, K t → 1 ≤ t ∧ t ∉ fr.pass) (h : Le S K w M w' M') : fr.base w' M' :=
 (hb.trans h).weaken (fun t ht => ht.elim id (fun h => FK.D5 (hs t h))) (fun t ht => ht.elim id (hk t))
theorem tq {A : As} {f : Fx} {a : Act} {w w' : World} {M : bB} {v : Value} (hS : ∀ t ∈ f.S, 1 ≤ t) (hK : ∀ t ∈ f.K, 1 ≤ t ∧ t ∉ fr.pass) 
    (ok : Ok fr a w M) (hs : ∀ c, c < fr.n → (A.slots c).den w M (a.tmps.getD c undef)) (ht : ∀ x ∈ A.tags, x.2.den w M x.1) (hl : f.left w M w' v) : (A.after f).holds fr (a.put f.d v) w' := by
  obtain ⟨M', wf', le, hv, hsets⟩ := hl
  refine ⟨M', ⟨wf', Fr.iK ok.base hS hK le, by rw [size_put, ok.size], by rw [vX]; exact ok.defers.step hS (fun t ht => (hK t ht).1) le⟩, fun c hc => ?_, fun x hx => ?_⟩
  · rw [CB a f.d v c (by rw [ok.size]; exact hc)]
    have key : (fW f.S f.K A.slots c).den w' M' (a.tmps.getD c undef) := by
      rcases fH f.S f.K A.slots c with ⟨e, hdj⟩ | ⟨_, e⟩
      · rw [e]
        exact (A.slots c).mono le (eR hdj).1 (eR hdj).2 (hs c hc)
      · rw [e]; trivial
    simp only [As.after, qA]
    cases hfd : f.d with
    | none => simpa using key
    | some d =>
      by_cases e : d = c
      · subst e; simpa using hv
      · have e' : Nat.beq c d = false := by cases h : Nat.beq c d with | false => rfl | true => exact absurd (Nat.eq_of_beq_eq_true h).symm e
        simpa [e, e'] using key
  · rcases List.mem_append.1 hx with hx | hx
    · exact hsets x hx
    · exact gj le hx fun y hy _ => ht y hy
end
end Go.T
namespace Go.T
open Go Go.RowKit
section
variable {P : Program} {fr : Fr} {ops : Array Oper}
theorem Oper.tR {F : Fence} {o : Oper} {a : Act} {w : World} {K K' : Act → World → Prop} {Q : Exit → Act → World → Prop} (h : ∀ a w, K a w → K' a w)
    (hh : o.wpIn F 0 P a w K fun _ _ _ => False) : o.wpIn F 0 P a w K' Q := by
  unfold Oper.wpIn at *
  refine ⟨hh.1, ?_⟩
  have hh := hh.2
  generalize (o.semAt F.round a.eval).run P w = r at *
  cases r with
  | ok n w' =>
    cases n <;> simp only [Oper.uponIn] at hh ⊢ <;>
      first
        | exact h _ _ hh
        | exact ⟨hh.1, CallsIn.mono hh.2 (fun e w'' he => by
            cases e with
            | returned v => exact h _ _ he
            | panicked c => exact he.elim
            | outgrown => obtain ⟨_, _, f⟩ := he; exact f.elim)⟩
        | exact ⟨hh.1, RoundIn.mono hh.2 (fun e w'' he => by
            cases e with
            | returned v => exact h _ _ he
            | panicked c => exact he.elim
            | outgrown => obtain ⟨_, _, f⟩ := he; exact f.elim)⟩
        | exact ⟨hh.1, RowsIn.mono hh.2 (fun _ _ he => h _ _ he)⟩
  | halt x w' => cases x <;> simp only [Oper.uponIn] at hh ⊢
theorem tN {Q : Exit → Act → World → Prop} : ∀ (l : List Oper) (A : As) (K : As → List (As × Fx) → Prop) (a : Act) (w : World), av P fr ops l A K → A.holds fr a w →
    (∀ A' s a w, K A' s → A'.holds fr a w → Q .normal a w) → wpListIn fr.kd.iq 0 P ops Q l a w
  | [], A, K, a, w, h, ha, hk => hk A [] a w h ha
  | o :: rest, A, K, a, w, ⟨f, ⟨hd, hsets, hS, hK, hop⟩, hrest⟩, ⟨M, ok, hs, ht⟩, hk => by
    have h := hop a w M ok.wf ok.size (fun c _ hc => hs c hc) (fun x hx _ => ht x hx)
    unfold wpListIn
    split
    · rename_i hw
      rw [if_pos hw] at h
      refine Oper.tR (fun a' w' ⟨v, e, hl⟩ => ?_) h
      subst e
      rw [← hd]
      exact tN rest _ _ _ _ hrest (tq hS hK ok hs ht hl) fun A' s a w hk' hA => hk A' _ a w hk' hA
    · rename_i hw
      rw [if_neg hw] at h
      refine ⟨fun f _ => fr.kd.vA f, ?_⟩
      rw [← hd]
      exact tN rest _ _ _ _ hrest (tq hS hK ok hs ht h) fun A' s a w hk' hA => hk A' _ a w hk' hA
def hit (s : As × Fx) (c : Nat) : Bool := s.2.d == some c || !(s.1.slots c).safe s.2.S s.2.K
def jL (s : As × Fx) (t : Nat) : Bool := (s.2.S.contains t || s.2.K.contains t) || s.1.tags.any fun x => x.1 == t && !x.2.safe s.2.S s.2.K
def Fx.calm (f : Fx) : Bool := f.S.isEmpty && f.K.isEmpty
def Fx.slotsOf (f : Fx) : List Nat := f.d.toList ++ f.rs
def Fx.mT (f : Fx) : List Nat := f.S ++ (f.K ++ f.rt)
def conflict (n : Nat) (s t : As × Fx) : Bool :=
  t.2.slotsOf.any (hit s) || s.2.slotsOf.any (hit t) || t.2.mT.any (jL s) || s.2.mT.any (jL t) ||
  (!s.2.calm && !t.2.calm && ((List.range n).any (fun c => hit s c && hit t c) || s.1.tags.any fun x => jL s x.1 && jL t x.1))
def nj (ops : Array Oper) (i j : Nat) : Bool :=
  match ops[j]? with
  | some o => o.after.toList.any fun e => Region.binds .any e && e.on == i
  | none => false
def L3 (ops : Array Oper) : Nat → List Nat → List Nat
  | 0, s => s
  | k + 1, s => L3 ops k (bif s.any fun m => nj ops k m then k :: s else s)
def path (ops : Array Oper) (i j : Nat) : Bool := nj ops i j || (L3 ops j [j]).contains i
def HK (n : Nat) (ops : Array Oper) (s t : As × Fx) (i j : Nat) : Bool := !(decide (i < j) && conflict n s t) || path ops i j
def NN (ops : Array Oper) (steps : List ((As × Fx) × Nat)) (i k c : Nat) : Bool := steps.any fun m => decide (k < m.2) && (decide (m.2 < i) && (hit m.1 c && path ops m.2 i))
def zS (ops : Array Oper) (steps : List ((As × Fx) × Nat)) (s t : As × Fx) (i k : Nat) : Bool :=
  (if i == k then true else if k < i then t.2.d.toList.all (fun c => t.2.ty.safe s.2.S s.2.K || (hit s c || NN ops steps i k c)) && t.2.sets.all (fun x => x.2.safe s.2.S s.2.K || jL s x.1)
    else (t.2.ty.safe s.2.S s.2.K && t.2.sets.all (fun x => x.2.safe s.2.S s.2.K)) || path ops i k)
def Dh (n : Nat) (A0 : As) (s : As × Fx) : Bool :=
  s.2.calm || ((List.range n).all (fun c => (A0.slots c).safe s.2.S s.2.K || hit s c) && A0.tags.all (fun x => x.2.safe s.2.S s.2.K || jL s x.1))
def zM (n : Nat) (ops : Array Oper) (A0 : As) (steps : List (As × Fx)) : Bool :=
  steps.zipIdx.all fun s => Dh n A0 s.1 && steps.zipIdx.all fun t => HK n ops s.1 t.1 s.2 t.2 && (s.1.2.calm || zS ops steps.zipIdx s.1 t.1 s.2 t.2)
theorem vW : ∀ (l : List Oper) (k : Nat) (A : As) (K : As → List (As × Fx) → Prop), av P fr ops l A K → (∀ j, l[j]? = ops[k + j]?) →
    ∃ (st : Nat → As) (fx : Nat → Fx), st 0 = A ∧ (∀ i, i < l.length → ∃ o, ops[k + i]? = some o ∧ wu P fr ops o (st i) (fx i)) ∧ (∀ i, i < l.length → st (i + 1) = (st i).after (fx i)) ∧
      K (st l.length) ((List.range l.length).map fun i => (st i, fx i))
  | [], k, A, K, h, _ => ⟨fun _ => A, fun _ => ⟨none, Ty.any, [], [], [], [], []⟩, rfl, fun i hi => absurd hi (Nat.not_lt_zero _), fun i hi => absurd hi (Nat.not_lt_zero _), h⟩
  | o :: rest, k, A, K, ⟨f, hop, hrest⟩, hl => by
    obtain ⟨st, fx, h0, h1, h2, h3⟩ := vW rest (k + 1) _ _ hrest (fun j => by have := hl (j + 1); simpa [Nat.add_assoc, Nat.add_comm 1 j] using this)
    refine ⟨fun i => match i with | 0 => A | i + 1 => st i, fun i => match i with | 0 => f | i + 1 => fx i, rfl, fun i hi => ?_, fun i hi => ?_, ?_⟩
    · cases i with
      | zero => exact ⟨o, by have := hl 0; simpa using this.symm, hop⟩
      | succ i => obtain ⟨o', ho', h⟩ := h1 i (by simpa using hi); exact ⟨o', by rw [← ho']; congr 1; omega, h⟩
    · cases i with
      | zero => exact h0
      | succ i => exact h2 i (by simpa using hi)
    · simp only [List.length_cons, List.range_succ_eq_map, List.map_cons, List.map_map]
      exact h3
variable {st : Nat → As} {fx : Nat → Fx} {m : Nat}
theorem vN {A : As} {f : Fx} {c : Nat} (h : hit (A, f) c = false) : (A.after f).slots c = A.slots c := by
  simp only [hit, Bool.or_eq_false_iff, beq_eq_false_iff_ne, Bool.not_eq_false'] at h
  rcases fH f.S f.K A.slots c with ⟨e, _⟩ | ⟨e, _⟩
  · simp only [As.after, qA]
    cases hd : f.d with
    | none => simpa using e
    | some d =>
      have : Nat.beq c d = false := by cases hb : Nat.beq c d with | false => rfl | true => exact absurd (by rw [hd, Nat.eq_of_beq_eq_true hb]) h.1
      simpa [this] using e
  · rw [h.2] at e; cases e
theorem DD {A : As} {f : Fx} {c : Nat} (h : f.d = some c) : (A.after f).slots c = f.ty := by simp [As.after, qA, h]
theorem wR {A : As} {f : Fx} {c : Nat} (h : f.d ≠ some c) (hk : (A.slots c).safe f.S f.K = false) : (A.after f).slots c = Ty.any := by
  rcases fH f.S f.K A.slots c with ⟨_, e⟩ | ⟨_, e⟩
  · rw [hk] at e; cases e
  · simp only [As.after, qA]
    cases hd : f.d with
    | none => simpa using e
    | some d =>
      have : Nat.beq c d = false := by cases hb : Nat.beq c d with | false => rfl | true => exact absurd (by rw [hd, Nat.eq_of_beq_eq_true hb]) h
      simpa [this] using e
theorem Fb (hstep : ∀ i, i < m → st (i + 1) = (st i).after (fx i)) (c : Nat) : ∀ j, j ≤ m →
    (st j).slots c = (st 0).slots c ∨ (st j).slots c = Ty.any ∨ ∃ k, k < j ∧ (fx k).d = some c ∧ (st j).slots c = (fx k).ty ∧ ∀ u, k < u → u < j → hit (st u, fx u) c = false := by
  intro j
  induction j with
  | zero => exact fun _ => .inl rfl
  | succ j ih =>
    intro hj
    have ih := ih (by omega)
    rw [hstep j (by omega)]
    by_cases hd : (fx j).d = some c
    · exact .inr (.inr ⟨j, by omega, hd, DD hd, fun u h1 h2 => by omega⟩)
    · cases hk : ((st j).slots c).safe (fx j).S (fx j).K with
      | false => exact .inr (.inl (wR hd hk))
      | true =>
        rw [vN (by simp [hit, hd, hk])]
        rcases ih with h | h | ⟨k, h1, h2, h3, h4⟩
        · exact .inl h
        · exact .inr (.inl h)
        · refine .inr (.inr ⟨k, by omega, h2, h3, fun u g1 g2 => ?_⟩)
          by_cases e : u = j
          · subst e; simp [hit, hd, hk]
          · exact h4 u g1 (by omega)
theorem Ge (hstep : ∀ i, i < m → st (i + 1) = (st i).after (fx i)) (x : Nat × Cont) : ∀ j, j ≤ m → x ∈ (st j).tags →
    ∃ y : Nat × Cont, y.1 = x.1 ∧ x.2.Ly y.2 ∧ (y ∈ (st 0).tags ∨ ∃ k, k < j ∧ y ∈ (fx k).sets) := by
  intro j
  induction j generalizing x with
  | zero => exact fun _ h => ⟨x, rfl, ⟨fun _ h => h, fun _ h => h⟩, .inl h⟩
  | succ j ih =>
    intro hj hx
    rw [hstep j (by omega)] at hx
    rcases List.mem_append.1 hx with h | h
    · exact ⟨x, rfl, ⟨fun _ h => h, fun _ h => h⟩, .inr ⟨j, by omega, h⟩⟩
    · obtain ⟨_, _, y, hy, e, ⟨rfl, _⟩ | ⟨_, hs⟩⟩ := n5 h
      · obtain ⟨z, h1, h2, h3⟩ := ih y (by omega) hy
        exact ⟨z, h1, h2, h3.imp id fun ⟨k, hk, h⟩ => ⟨k, by omega, h⟩⟩
      · obtain ⟨z, h1, h2, h3⟩ := ih y (by omega) hy
        have hl := FF hs
        exact ⟨z, h1.trans e, ⟨fun u hu => h2.1 u (hl.1 u hu), fun u hu => h2.2 u (hl.2 u hu)⟩, h3.imp id fun ⟨k, hk, h⟩ => ⟨k, by omega, h⟩⟩
theorem xY (hstep : ∀ i, i < m → st (i + 1) = (st i).after (fx i)) (c i : Nat) : ∀ j, i ≤ j → j ≤ m → (∀ k, i ≤ k → k < j → hit (st k, fx k) c = false) → (st j).slots c = (st i).slots c := by
  intro j
  induction j with
  | zero => intro h _ _; have : i = 0 := by omega
            subst this; rfl
  | succ j ih =>
    intro h hj hn
    by_cases e : i = j + 1
    · subst e; rfl
    · rw [hstep j (by omega), vN (hn j (by omega) (by omega))]
      exact ih (by omega) (by omega) fun k h1 h2 => hn k h1 (by omega)
theorem B3 (hstep : ∀ i, i < m → st (i + 1) = (st i).after (fx i)) (hset : ∀ i, i < m → ∀ x ∈ (fx i).sets, x.1 ∈ (fx i).S ∨ x.1 ∈ (fx i).K) (x : Nat × Cont) (i : Nat) : ∀ j, i ≤ j → j ≤ m →
    (∀ k, i ≤ k → k < j → jL (st k, fx k) x.1 = false) → x ∈ (st j).tags → x ∈ (st i).tags := by
  intro j
  induction j with
  | zero => intro h _ _ hx; have : i = 0 := by omega
            subst this; exact hx
  | succ j ih =>
    intro h hj hn hx
    by_cases e : i = j + 1
    · subst e; exact hx
    · refine ih (by omega) (by omega) (fun k h1 h2 => hn k h1 (by omega)) ?_
      rw [hstep j (by omega)] at hx
      have hh := hn j (by omega) (by omega)
      simp only [jL, Bool.or_eq_false_iff, List.contains_eq_mem, decide_eq_false_iff_not, List.any_eq_false, Bool.and_eq_true, beq_iff_eq, Bool.not_eq_true', not_and, Bool.not_eq_false] at hh
      rcases List.mem_append.1 hx with h1 | h1
      · rcases hset j (by omega) x h1 with h2 | h2
        · exact absurd h2 hh.1.1
        · exact absurd h2 hh.1.2
      · obtain ⟨_, _, y, hy, e, ⟨rfl, _⟩ | ⟨hu, _⟩⟩ := n5 h1
        · exact hy
        · have := hh.2 y hy e; rw [hu] at this; cases this
end
end Go.T
namespace Go.T
open Go Go.RowKit
section
variable {P : Program} {fr : Fr} {ops : Array Oper} {st : Nat → As} {fx : Nat → Fx} {m : Nat}
structure Ls (P : Program) (fr : Fr) (ops : Array Oper) (st : Nat → As) (fx : Nat → Fx) (m : Nat) : Prop where
  sz : ops.size = m
  op : ∀ i, i < m → ∃ o, ops[i]? = some o ∧ wu P fr ops o (st i) (fx i)
  step : ∀ i, i < m → st (i + 1) = (st i).after (fx i)
  pair : ∀ i j, i < j → j < m → conflict fr.n (st i, fx i) (st j, fx j) = true → path ops i j = true
  star : ∀ i k, i < m → k < m → (fx i).calm = false → zS ops ((List.range m).map fun i => (st i, fx i)).zipIdx (st i, fx i) (st k, fx k) i k = true
  one : ∀ i, i < m → Dh fr.n (st 0) (st i, fx i) = true
def lG (listed : Array Bool) (i : Nat) : Prop := listed.getD i false = true
theorem tE {q : Nat → Prop} (h : ∀ k m, nj ops k m = true → q m → q k) : ∀ (k : Nat) (s : List Nat), (∀ x ∈ s, q x) → ∀ x ∈ L3 ops k s, q x
  | 0, _, hs => hs
  | k + 1, s, hs => by
    refine tE h k _ fun x hx => ?_
    cases hc : s.any fun m => nj ops k m with
    | false => rw [hc] at hx; exact hs x hx
    | true =>
      rw [hc] at hx
      obtain ⟨m, hm, he⟩ := List.any_eq_true.1 hc
      rcases List.mem_cons.1 hx with rfl | hx
      · exact h _ m he (hs m hm)
      · exact hs x hx
theorem jy {listed : Array Bool} (hdown : ∀ k j, nj ops k j = true → lG listed j → lG listed k) {i j : Nat} (h : path ops i j = true) (hj : lG listed j) : lG listed i := by
 simp only [path, Bool.or_eq_true, List.contains_eq_mem, decide_eq_true_eq] at h
 rcases h with h | h
 ·exact hdown i j h hj
 exact tE (q := lG listed) hdown j [j] (fun x hx => by rw [List.mem_singleton.1 hx]; exact hj) i h
theorem r6 {listed : Array Bool} (hdown : ∀ k j, nj ops k j = true → lG listed j → lG listed k) {i k : Nat} (hpre : ∀ k, nj ops k i = true → lG listed k) (h : path ops k i = true) (hne : k ≠ i) : lG listed k := by
 simp only [path, Bool.or_eq_true, List.contains_eq_mem, decide_eq_true_eq] at h
 rcases h with h | h
 ·exact hpre k h
 refine (tE (q := fun x => x = i ∨ lG listed x) (fun a m he hm => ?_) i [i] (fun x hx => .inl (List.mem_singleton.1 hx)) k h).resolve_left hne
 rcases hm with rfl | hm
 ·exact .inr (hpre a he)
 exact .inr (hdown a m he hm)
structure Inv (fr : Fr) (ops : Array Oper) (st : Nat → As) (fx : Nat → Fx) (m : Nat) (listed : Array Bool) (a : Act) (w : World) (M : bB) : Prop where
  ok : Ok fr a w M
  down : ∀ k j, nj ops k j = true → lG listed j → lG listed k
  slot : ∀ c, c < fr.n → ∀ j, j ≤ m → (∀ i, i < j → hit (st i, fx i) c = true → lG listed i) → (∀ i, j ≤ i → i < m → hit (st i, fx i) c = true → ¬ lG listed i) →
    ((st j).slots c).den w M (a.tmps.getD c undef)
  tag : ∀ j, j ≤ m → ∀ x ∈ (st j).tags, (∀ i, i < j → jL (st i, fx i) x.1 = true → lG listed i) → (∀ i, j ≤ i → i < m → jL (st i, fx i) x.1 = true → ¬ lG listed i) → x.2.den w M x.1
theorem rO {listed : Array Bool} {i k : Nat} (h : lG (listed.setIfInBounds i true) k) : lG listed k ∨ k = i := by
 by_cases e : i = k
 ·exact .inr e.symm
 exact .inl (by simpa [lG, Array.getElem?_setIfInBounds_ne e] using h)
theorem u9 {listed : Array Bool} {i k : Nat} (h : lG listed k) : lG (listed.setIfInBounds i true) k := getD_set_true h
theorem B9 {listed : Array Bool} {i : Nat} (h : i < listed.size) : lG (listed.setIfInBounds i true) i := by simp [lG, h]
theorem yL {n : Nat} {s t : As × Fx} {c : Nat} (h : c ∈ t.2.slotsOf) (hh : hit s c = true) : conflict n s t = true := by
 have : t.2.slotsOf.any (hit s) = true := List.any_eq_true.2 ⟨c, h, hh⟩
 simp [conflict, this]
theorem w5 {n : Nat} {s t : As × Fx} {c : Nat} (h : c ∈ s.2.slotsOf) (hh : hit t c = true) : conflict n s t = true := by
 have : s.2.slotsOf.any (hit t) = true := List.any_eq_true.2 ⟨c, h, hh⟩
 simp [conflict, this]
theorem BK {n : Nat} {s t : As × Fx} {c : Nat} (h : c ∈ t.2.mT) (hh : jL s c = true) : conflict n s t = true := by
 have : t.2.mT.any (jL s) = true := List.any_eq_true.2 ⟨c, h, hh⟩
 simp [conflict, this]
theorem yu {n : Nat} {s t : As × Fx} {c : Nat} (h : c ∈ s.2.mT) (hh : jL t c = true) : conflict n s t = true := by
 have : s.2.mT.any (jL t) = true := List.any_eq_true.2 ⟨c, h, hh⟩
 simp [conflict, this]
theorem IE {s : As × Fx} {c : Nat} (h : s.2.d = some c) : hit s c = true := by simp [hit, h]
theorem wL {s : As × Fx} {c : Nat} (h : hit s c = true) (hd : s.2.d ≠ some c) : (s.1.slots c).safe s.2.S s.2.K = false ∧ s.2.calm = false := by
  have h1 : (s.1.slots c).safe s.2.S s.2.K = false := by
    simp only [hit, Bool.or_eq_true, beq_iff_eq, hd, false_or, Bool.not_eq_true'] at h; exact h
  refine ⟨h1, ?_⟩
  cases hk : s.2.calm with
  | false => rfl
  | true =>
    simp only [Fx.calm, Bool.and_eq_true, List.isEmpty_iff] at hk
    rw [hk.1, hk.2, vk] at h1; cases h1
theorem qa {f : Fx} {c : Nat} (h : f.d = some c) : c ∈ f.slotsOf := by simp [Fx.slotsOf, h]
theorem Fk {n : Nat} {s t : As × Fx} {c : Nat} (hc : c < n) (h : hit s c = true) (h' : hit t c = true) : conflict n s t = true := by
 by_cases hd : s.2.d = some c
 ·exact w5 (qa hd) h'
 by_cases hd' : t.2.d = some c
 ·exact yL (qa hd') h
 have h1 := (wL h hd).2
 have h2 := (wL h' hd').2
 have : ((List.range n).any fun c => hit s c && hit t c) = true := List.any_eq_true.2 ⟨c, List.mem_range.2 hc, by simp [h, h']⟩
 simp [conflict, h1, h2, this]
theorem calm_eq {f : Fx} (h : f.calm = true) : f.S = [] ∧ f.K = [] := by simpa [Fx.calm] using h
theorem tT (t : Cont) : t.safe [] [] = true := by simp [Cont.safe, lS]
theorem rG {n : Nat} {s t : As × Fx} {c : Nat} (h : jL s c = true) (h' : jL t c = true) : conflict n s t = true := by
  have hs : (c ∈ s.2.S ∨ c ∈ s.2.K) ∨ ∃ x ∈ s.1.tags, x.1 = c ∧ x.2.safe s.2.S s.2.K = false := by
    simpa only [jL, Bool.or_eq_true, List.contains_eq_mem, decide_eq_true_eq, List.any_eq_true, Bool.and_eq_true, beq_iff_eq, Bool.not_eq_true'] using h
  have ht : (c ∈ t.2.S ∨ c ∈ t.2.K) ∨ ∃ x ∈ t.1.tags, x.1 = c ∧ x.2.safe t.2.S t.2.K = false := by
    simpa only [jL, Bool.or_eq_true, List.contains_eq_mem, decide_eq_true_eq, List.any_eq_true, Bool.and_eq_true, beq_iff_eq, Bool.not_eq_true'] using h'
  rcases hs with hs | ⟨x, hx, rfl, hxs⟩
  · exact yu (by simp only [Fx.mT, List.mem_append]; exact hs.elim .inl fun h => .inr (.inl h)) h'
  · rcases ht with ht | ⟨y, _, _, hys⟩
    · exact BK (by simp only [Fx.mT, List.mem_append]; exact ht.elim .inl fun h => .inr (.inl h)) h
    · have c1 : s.2.calm = false := by
        cases hc : s.2.calm with
        | false => rfl
        | true => rw [(calm_eq hc).1, (calm_eq hc).2, tT] at hxs; cases hxs
      have c2 : t.2.calm = false := by
        cases hc : t.2.calm with
        | false => rfl
        | true => rw [(calm_eq hc).1, (calm_eq hc).2, tT] at hys; cases hys
      have : (s.1.tags.any fun x => jL s x.1 && jL t x.1) = true := List.any_eq_true.2 ⟨x, hx, by simp [h, h']⟩
      simp [conflict, c1, c2, this]
theorem Ls.Bp (r : Ls P fr ops st fx m) {listed : Array Bool} (hdown : ∀ k j, nj ops k j = true → lG listed j → lG listed k) {i c j : Nat} (hi : i < m) (hni : ¬ lG listed i) (hc : c < fr.n) (hj : j ≤ m)
    (hnh : hit (st i, fx i) c = false) (h1 : ∀ k, k < j → hit (st k, fx k) c = true → lG listed k) (h2 : ∀ k, j ≤ k → k < m → hit (st k, fx k) c = true → ¬ lG listed k) (hpre : ∀ k, nj ops k i = true → lG listed k) : ((st j).slots c).safe (fx i).S (fx i).K = true := by
  cases hK : (fx i).calm with
  | true =>
    rw [(calm_eq hK).1, (calm_eq hK).2]; exact vk _
  | false =>
    rcases Fb r.step c j hj with e | e | ⟨k, hk, hd, e, hlast⟩
    · rw [e]
      have := r.one i hi
      simp only [Dh, hK, Bool.false_or, Bool.and_eq_true, List.all_eq_true, List.mem_range] at this
      have := this.1 c hc
      simpa [hnh] using this
    · rw [e]; simp [Ty.any, Ty.safe, lS]
    · rw [e]
      have hkm : k < m := by omega
      have := r.star i k hi hkm hK
      by_cases hik : i = k
      · subst hik; rw [IE (s := (st i, fx i)) hd] at hnh; cases hnh
      · simp only [zS, beq_iff_eq, hik, if_false] at this
        by_cases hlt : k < i
        · simp only [hlt, if_true, hd, Option.toList_some, List.all_cons, List.all_nil, Bool.and_true, Bool.and_eq_true, hnh, Bool.false_or, Bool.or_eq_true] at this
          rcases this.1 with h | h
          · exact h
          · obtain ⟨⟨q, u⟩, hq, h⟩ := List.any_eq_true.1 h
            rw [List.mem_zipIdx_iff_getElem?] at hq
            have hum : u < m := by
              have := (List.getElem?_eq_some_iff.1 hq).1
              simpa using this
            rw [List.getElem?_map, List.getElem?_range hum] at hq
            injection hq with hq
            subst hq
            simp only [Bool.and_eq_true, decide_eq_true_eq] at h
            obtain ⟨g1, g2, g3, g4⟩ := h
            rcases Nat.lt_or_ge u j with h | h
            · rw [hlast u g1 h] at g3; cases g3
            · exact absurd (r6 hdown hpre g4 (by omega)) (h2 u h hum g3)
        · simp only [hlt, if_false, Bool.and_eq_true, Bool.or_eq_true] at this
          rcases this with h | h
          · exact h.1
          · exact absurd (jy hdown h (h1 k hk (IE hd))) hni
theorem Ls.Je (r : Ls P fr ops st fx m) {listed : Array Bool} (hdown : ∀ k j, nj ops k j = true → lG listed j → lG listed k) {i j : Nat} (hi : i < m) (hni : ¬ lG listed i) (hj : j ≤ m) {x : Nat × Cont} (hx : x ∈ (st j).tags)
    (hnh : jL (st i, fx i) x.1 = false) (h1 : ∀ k, k < j → jL (st k, fx k) x.1 = true → lG listed k) : x.2.safe (fx i).S (fx i).K = true := by
  cases hK : (fx i).calm with
  | true =>
    rw [(calm_eq hK).1, (calm_eq hK).2]; exact tT _
  | false =>
    obtain ⟨y, e, hl, h | ⟨k, hk, h⟩⟩ := Ge r.step x j hj hx
    · refine yg hl ?_
      have := r.one i hi
      simp only [Dh, hK, Bool.false_or, Bool.and_eq_true, List.all_eq_true] at this
      have := this.2 y h
      rw [e, hnh, Bool.or_false] at this; exact this
    · refine yg hl ?_
      have hkm : k < m := by omega
      have hst := r.star i k hi hkm hK
      have hin : y.1 ∈ (fx k).S ∨ y.1 ∈ (fx k).K := by obtain ⟨_, _, ho⟩ := r.op k hkm; exact ho.2.1 y h
      have hkh : jL (st k, fx k) x.1 = true := by
        rw [← e]
        simp only [jL, Bool.or_eq_true, List.contains_eq_mem, decide_eq_true_eq]; exact .inl hin
      unfold zS at hst
      by_cases hik : i = k
      · subst hik; rw [hkh] at hnh; cases hnh
      · simp only [beq_iff_eq, hik, if_false] at hst
        by_cases hlt : k < i
        · simp only [hlt, if_true, Bool.and_eq_true, List.all_eq_true] at hst
          have := hst.2 y h
          rw [e, hnh, Bool.or_false] at this; exact this
        · simp only [hlt, if_false, Bool.and_eq_true, Bool.or_eq_true, List.all_eq_true] at hst
          rcases hst with hst | hst
          · exact hst.2 y h
          · exact absurd (jy hdown hst (h1 k hk hkh)) hni
theorem Inv.step (r : Ls P fr ops st fx m) {listed : Array Bool} {a : Act} {w w' : World} {M : bB} {v : Value} (inv : Inv fr ops st fx m listed a w M) {i : Nat} (hi : i < m) (hsz : i < listed.size) (hni : ¬ lG listed i)
    (hpre : ∀ k, nj ops k i = true → lG listed k) {o : Oper} (hop : wu P fr ops o (st i) (fx i)) (hl : (fx i).left w M w' v) :
    ∃ M', Inv fr ops st fx m (listed.setIfInBounds i true) (a.put o.dst v) w' M' := by
  obtain ⟨hd, hsets, hS, hK, _⟩ := hop
  obtain ⟨M', wf', le, hv, hse⟩ := hl
  have hset : ∀ i, i < m → ∀ x ∈ (fx i).sets, x.1 ∈ (fx i).S ∨ x.1 ∈ (fx i).K := fun i hi => by
    obtain ⟨_, _, h⟩ := r.op i hi; exact h.2.1
  refine ⟨M', ⟨⟨wf', Fr.iK inv.ok.base hS hK le, by rw [size_put, inv.ok.size], by rw [vX]; exact inv.ok.defers.step hS (fun t ht => (hK t ht).1) le⟩, ?_, ?_, ?_⟩⟩
  · intro k j he hj
    rcases rO hj with h | rfl
    · exact u9 (inv.down k j he h)
    · exact u9 (hpre k he)
  · intro c hc j hj h1 h2
    rw [← hd, CB a (fx i).d v c (by rw [inv.ok.size]; exact hc)]
    cases hh : hit (st i, fx i) c with
    | true =>
      have hij : i < j := by
        rcases Nat.lt_or_ge i j with h | h
        · exact h
        · exact absurd (B9 hsz) (h2 i h hi hh)
      have hno : ∀ k, i + 1 ≤ k → k < j → hit (st k, fx k) c = false := by
        intro k hk hkj
        cases hkc : hit (st k, fx k) c with
        | false => rfl
        | true =>
          have hlk : lG listed k := (rO (h1 k hkj hkc)).resolve_right (by omega)
          exact absurd (jy inv.down (r.pair i k (by omega) (by omega) (Fk hc hh hkc)) hlk) hni
      rw [xY r.step c (i + 1) j (by omega) hj hno, r.step i hi]
      by_cases e : (fx i).d = some c
      · rw [DD e, if_pos e]; exact hv
      · rw [wR e (wL hh e).1]; trivial
    | false =>
      have e : (fx i).d ≠ some c := fun e => by rw [IE (s := (st i, fx i)) e] at hh; cases hh
      rw [if_neg e]
      have h1' : ∀ k, k < j → hit (st k, fx k) c = true → lG listed k := fun k hk hkc =>
        (rO (h1 k hk hkc)).resolve_right (fun e => by subst e; rw [hh] at hkc; cases hkc)
      have h2' : ∀ k, j ≤ k → k < m → hit (st k, fx k) c = true → ¬ lG listed k := fun k hk hkm hkc hlk => h2 k hk hkm hkc (u9 hlk)
      exact ((st j).slots c).mono le (eR (r.Bp inv.down hi hni hc hj hh h1' h2' hpre)).1 (eR (r.Bp inv.down hi hni hc hj hh h1' h2' hpre)).2 (inv.slot c hc j hj h1' h2')
  · intro j hj x hx h1 h2
    cases hh : jL (st i, fx i) x.1 with
    | true =>
      have hij : i < j := by
        rcases Nat.lt_or_ge i j with h | h
        · exact h
        · exact absurd (B9 hsz) (h2 i h hi hh)
      have hno : ∀ k, i + 1 ≤ k → k < j → jL (st k, fx k) x.1 = false := by
        intro k hk hkj
        cases hkc : jL (st k, fx k) x.1 with
        | false => rfl
        | true =>
          have hlk : lG listed k := (rO (h1 k hkj hkc)).resolve_right (by omega)
          exact absurd (jy inv.down (r.pair i k (by omega) (by omega) (rG hh hkc)) hlk) hni
      have hx' := B3 r.step hset x (i + 1) j (by omega) hj hno hx
      rw [r.step i hi] at hx'
      rcases List.mem_append.1 hx' with h | h
      · exact hse x h
      · refine gj le h fun y hy e => inv.tag i (by omega) y hy (fun k hk hkc => ?_) fun k hk hkm hkc hlk => ?_
        · rw [e] at hkc
          exact r6 inv.down hpre (r.pair k i hk hi (rG hkc hh)) (by omega)
        · rw [e] at hkc
          rcases Nat.lt_or_ge i k with hlt | hge
          · exact hni (jy inv.down (r.pair i k hlt hkm (rG hh hkc)) hlk)
          · have : k = i := by omega
            subst this; exact hni hlk
    | false =>
      have h1' : ∀ k, k < j → jL (st k, fx k) x.1 = true → lG listed k := fun k hk hkc =>
        (rO (h1 k hk hkc)).resolve_right (fun e => by subst e; rw [hh] at hkc; cases hkc)
      have hsafe := r.Je inv.down hi hni hj hx hh h1'
      simp only [jL, Bool.or_eq_false_iff, List.contains_eq_mem, decide_eq_false_iff_not] at hh
      exact x.2.mono le (nk hsafe).1 (nk hsafe).2 hh.1.1 hh.1.2 (inv.tag j hj x hx h1' fun k hk hkm hkc hlk => h2 k hk hkm hkc (u9 hlk))
theorem GF {listed : Array Bool} {i : Nat} {o : Oper} (ho : ops[i]? = some o) (h : ∀ e ∈ o.after, Region.binds .any e = true → listed.getD e.on false = true) : ∀ k, nj ops k i = true → lG listed k := by
 intro k hk
 simp only [nj, ho, List.any_eq_true, Bool.and_eq_true, beq_iff_eq] at hk
 obtain ⟨e, he, hb, hon⟩ := hk
 subst hon
 exact h e (Array.mem_toList_iff.1 he) hb
theorem C6 (r : Ls P fr ops st fx m) {Q : Exit → Act → World → Prop} (hQ : ∀ a w, (st m).holds fr a w → Q .normal a w) (hacyc : ∀ i j, nj ops i j = true → i < j) :
    ∀ (fuel : Nat) (listed : Array Bool) (a : Act) (w : World) (M : bB), listed.size = m → (listed.toList.countP fun b => !b) ≤ fuel → Inv fr ops st fx m listed a w M → wpAnyIn fr.kd.iq 0 P .any ops Q fuel listed a w := by
  have hfin : ∀ (listed : Array Bool) (a : Act) (w : World) (M : bB), listed.size = m → Region.ready .any ops listed = [] → Inv fr ops st fx m listed a w M → Q .normal a w := by
    intro listed a w M hsz hr inv
    have hall : ∀ i, i < m → lG listed i := by
      intro i
      induction i using Nat.strongRecOn with
      | _ i ih =>
        intro hi
        refine Classical.byContradiction fun hn => ?_
        obtain ⟨o, ho, _⟩ := r.op i hi
        have hmem : i ∈ Region.ready .any ops listed := by
          rw [mem_ready]
          refine ⟨?_, o, ho, fun e he hb => ?_⟩
          · simp only [lG, Array.getD_eq_getD_getElem?] at hn ⊢
            rw [Array.getElem?_eq_getElem (by omega)] at hn ⊢
            simpa using hn
          · have hed : nj ops e.on i = true := by
              simp only [nj, ho, List.any_eq_true, Bool.and_eq_true, beq_iff_eq]
              exact ⟨e, Array.mem_toList_iff.2 he, hb, rfl⟩
            have := hacyc _ _ hed
            exact ih e.on this (by omega)
        rw [hr] at hmem
        cases hmem
    refine hQ a w ⟨M, inv.ok, fun c hc => inv.slot c hc m (Nat.le_refl _) (fun i hi _ => hall i hi) (fun i h1 h2 => absurd h2 (by omega)),
      fun x hx => inv.tag m (Nat.le_refl _) x hx (fun i hi _ => hall i hi) (fun i h1 h2 => absurd h2 (by omega))⟩
  intro fuel
  induction fuel with
  | zero =>
    intro listed a w M hsz hcnt inv
    have hr : Region.ready .any ops listed = [] := by
      refine List.eq_nil_iff_forall_not_mem.2 fun i hi => ?_
      rw [mem_ready] at hi
      obtain ⟨h0, o, ho, _⟩ := hi
      have hlt : i < listed.size := by rw [hsz, ← r.sz]; exact (Array.getElem?_eq_some_iff.1 ho).1
      have : 0 < listed.toList.countP fun b => !b := by
        rw [List.countP_pos_iff]
        refine ⟨listed[i], by simp, ?_⟩
        simpa [Array.getD_eq_getD_getElem?, Array.getElem?_eq_getElem hlt] using h0
      omega
    exact ⟨hr, hfin listed a w M hsz hr inv⟩
  | succ fuel ih =>
    intro listed a w M hsz hcnt inv
    refine ⟨fun hr => hfin listed a w M hsz hr inv, fun i hi => ?_⟩
    rw [mem_ready] at hi
    obtain ⟨h0, o, ho, hpre⟩ := hi
    have hlt : i < listed.size := by rw [hsz, ← r.sz]; exact (Array.getElem?_eq_some_iff.1 ho).1
    have him : i < m := by omega
    have hni : ¬ lG listed i := by
      simp only [lG, Array.getD_eq_getD_getElem?, Array.getElem?_eq_getElem hlt, Option.getD_some] at h0 ⊢
      simp [h0]
    have hpre' := GF ho hpre
    obtain ⟨o', ho', hop⟩ := r.op i him
    rw [ho] at ho'
    injection ho' with ho'
    subst ho'
    have hcnt' : ((listed.setIfInBounds i true).toList.countP fun b => !b) ≤ fuel := by
      have hb : listed[i] = false := by simpa [Array.getD_eq_getD_getElem?, Array.getElem?_eq_getElem hlt] using h0
      have h1 : (listed.setIfInBounds i true).toList = listed.toList.set i true := by simp
      rw [h1, List.countP_set (by simpa using hlt)]
      simp only [Array.getElem_toList, hb]
      have : 0 < listed.toList.countP fun b => !b := by
        rw [List.countP_pos_iff]
        exact ⟨listed[i], by simp, by simp [hb]⟩
      simp only [Bool.not_false, Bool.not_true, if_true, Bool.false_eq_true, if_false]
      omega
    have hnext : ∀ w' v, (fx i).left w M w' v → wpAnyIn fr.kd.iq 0 P .any ops Q fuel (listed.setIfInBounds i true) (a.put o.dst v) w' := fun w' v hl => by
      obtain ⟨M', inv'⟩ := inv.step r him hlt hni hpre' hop hl
      exact ih _ _ _ M' (by simpa using hsz) hcnt' inv'
    have h := hop.2.2.2.2 a w M inv.ok.wf inv.ok.size
      (fun c hc hcn => inv.slot c hcn i (by omega)
        (fun k hk hkc => r6 inv.down hpre' (r.pair k i hk him (yL (by simp [Fx.slotsOf, hc]) hkc)) (by omega))
        (fun k hk hkm hkc hlk => by
          rcases Nat.lt_or_ge i k with h | h
          · exact hni (jy inv.down (r.pair i k h hkm (w5 (by simp [Fx.slotsOf, hc]) hkc)) hlk)
          · have : k = i := by omega
            subst this; exact hni hlk))
      (fun x hx hrt => inv.tag i (by omega) x hx
        (fun k hk hkc => r6 inv.down hpre' (r.pair k i hk him (BK (by simp [Fx.mT, hrt]) hkc)) (by omega))
        (fun k hk hkm hkc hlk => by
          rcases Nat.lt_or_ge i k with h | h
          · exact hni (jy inv.down (r.pair i k h hkm (yu (by simp [Fx.mT, hrt]) hkc)) hlk)
          · have : k = i := by omega
            subst this; exact hni hlk))
    simp only [wpOpIn, ho]
    split
    · rename_i hw
      rw [if_pos hw] at h
      exact Oper.tR (fun a' w' ⟨v, e, hl⟩ => by subst e; exact hnext w' v hl) h
    · rename_i hw
      rw [if_neg hw] at h
      exact ⟨fun f _ => fr.kd.vA f, hnext w undef h⟩
def forward (ops : Array Oper) : Bool := ops.toList.zipIdx.all fun x => x.1.after.toList.all fun e => !Region.binds .any e || decide (e.on < x.2)
theorem zY (h : forward ops = true) : ∀ i j, nj ops i j = true → i < j := by
 intro i j he
 unfold nj at he
 split at he
 ·rename_i o ho
  simp only [forward, List.all_eq_true] at h
  have hm : (o, j) ∈ ops.toList.zipIdx := by
   rw [List.mem_zipIdx_iff_getElem?]; simpa using ho
  have h2 := h _ hm
  simp only [List.any_eq_true, Bool.and_eq_true, beq_iff_eq] at he
  obtain ⟨e, he, hb, hon⟩ := he
  have := h2 e he
  simp only [hb, Bool.not_true, Bool.false_or, decide_eq_true_eq] at this
  omega
 cases he
theorem vH {S K : Nat → Prop} (w : World) (M : bB) : Le S K w M { w with drawn := w.drawn + 1 } M :=
 ⟨Nat.le_refl _, rfl, rfl, rfl, fun _ _ h => ⟨h, rfl⟩, fun _ _ h _ => ⟨h, fun _ => rfl⟩⟩
theorem Ik {id : Nat} {l : List Oper} {A : As} {Q : Exit → Act → World → Prop} (hm : P.follows .mixedOrders = true) (hf : forward l.toArray = true)
    (h : av P fr l.toArray l A fun A' s => zM fr.n l.toArray A s = true ∧ ∀ a w, A'.holds fr a w → Q .normal a w) :
    ∀ a w, A.holds fr a w → (Code.region id l.toArray true).wpIn fr.kd.iq 0 P Q a w := by
  intro a w ⟨M, ok, hs, ht⟩
  obtain ⟨st, fx, h0, h1, h2, hord, hK⟩ := vW l 0 A _ h (fun j => by simp)
  subst h0
  have hmem : ∀ i, i < l.length → ((st i, fx i), i) ∈ ((List.range l.length).map fun i => (st i, fx i)).zipIdx := fun i hi => by
    rw [List.mem_zipIdx_iff_getElem?]; simp [List.getElem?_range hi]
  simp only [zM, List.all_eq_true, Bool.and_eq_true] at hord
  have r : Ls P fr l.toArray st fx l.length := by
    refine ⟨by simp, fun i hi => by simpa using h1 i hi, h2, fun i j hij hj hc => ?_, fun i k hi hk hK => ?_, fun i hi => (hord _ (hmem i hi)).1⟩
    · have := ((hord _ (hmem i (by omega))).2 _ (hmem j hj)).1
      simpa [HK, hij, hc] using this
    · have := ((hord _ (hmem i hi)).2 _ (hmem k hk)).2
      simpa [hK] using this
  refine wpIn_region_any hm ?_
  refine C6 r hK (zY hf) _ _ _ _ M (by simp) (by simp [List.countP_replicate]) ⟨⟨⟨ok.wf.lt, ok.wf.inj⟩, Fr.iK (S := fun _ => False) (K := fun _ => False) ok.base (fun _ h => h.elim) (fun _ h => h.elim) (vH w M), ok.size, ok.defers.step (S := fun _ => False) (K := fun _ => False) (fun _ h => h.elim) (fun _ h => h.elim) (vH w M)⟩, ?_, ?_, ?_⟩
  · intro k j _ hj; simp [lG, Array.getElem?_replicate] at hj; split at hj <;> simp at hj
  · intro c hc j hj h1' _
    have : (st j).slots c = (st 0).slots c := xY h2 c 0 j (Nat.zero_le _) hj fun k _ hk => by
      cases hh : hit (st k, fx k) c with
      | false => rfl
      | true => have := h1' k hk hh; simp [lG, Array.getElem?_replicate] at this; split at this <;> simp at this
    rw [this]
    exact ((st 0).slots c).mono (S := fun _ => False) (K := fun _ => False) (vH w M) (fun _ _ h => h) (fun _ _ h => h) (hs c hc)
  · intro j hj x hx h1' _
    have hset : ∀ i, i < l.length → ∀ x ∈ (fx i).sets, x.1 ∈ (fx i).S ∨ x.1 ∈ (fx i).K := fun i hi => by
      obtain ⟨_, _, h⟩ := h1 i hi; exact h.2.1
    have hx0 := B3 h2 hset x 0 j (Nat.zero_le _) hj (fun k _ hk => by
      cases hh : jL (st k, fx k) x.1 with
      | false => rfl
      | true => have := h1' k hk hh; simp [lG, Array.getElem?_replicate] at this; split at this <;> simp at this) hx
    exact x.2.mono (S := fun _ => False) (K := fun _ => False) (vH w M) (fun _ _ h => h) (fun _ _ h => h) (fun h => h) (fun h => h) (ht x hx0)
theorem FZ {id : Nat} {l : List Oper} {A : As} {Q : Exit → Act → World → Prop} (h : av P fr l.toArray l A fun A' _ => ∀ a w, A'.holds fr a w → Q .normal a w) :
 ∀ a w, A.holds fr a w → (Code.region id l.toArray false).wpIn fr.kd.iq 0 P Q a w := fun _ _ ha =>
 wpIn_region_lit (tN l A _ _ _ h ha fun _ _ _ _ hk hA => hk _ _ hA)
end
end Go.T
namespace Go.T
open Go Go.RowKit
def qM (v : Value) (_ : World) (_ : bB) (x : Value) : Prop := x = v
def Ty.ex (v : Value) : Ty := ⟨qM v, [], [], fun _ _ _ h => h, v.oneCell', fun h e => (show _ = _ from e) ▸ h⟩
def g6 (k : IntKind) (n : Int) (_ : World) (_ : bB) (x : Value) : Prop := x = .int k n
def Ty.int (k : IntKind) (n : Int) : Ty := ⟨g6 k n, [], [], fun _ _ _ h => h, true, fun _ e => (show _ = _ from e) ▸ rfl⟩
def fS (b : Bool) (_ : World) (_ : bB) (x : Value) : Prop := x = .bool b
def Ty.bool (b : Bool) : Ty := ⟨fS b, [], [], fun _ _ _ h => h, true, fun _ e => (show _ = _ from e) ▸ rfl⟩
def iS (s : ByteArray) (_ : World) (_ : bB) (x : Value) : Prop := x = .string s
def Ty.str (s : ByteArray) : Ty := ⟨iS s, [], [], fun _ _ _ h => h, true, fun _ e => (show _ = _ from e) ▸ rfl⟩
def iZ (t off : Nat) (_ : World) (M : bB) (x : Value) : Prop := ∃ b, M b = some t ∧ x = .pointer (some ⟨b, off, none⟩)
def Ty.ptr (t off : Nat) : Ty := ⟨iZ t off, [t], [], fun le hk _ ⟨b, h, e⟩ => ⟨b, (le.own b t h (hk t (by simp))).1, e⟩, true, fun _ ⟨_, _, e⟩ => e ▸ rfl⟩
def iT (l : List Ty) (w : World) (M : bB) (x : Value) : Prop := ∃ cs : Array Value, x = .agg cs ∧ cB w M l cs.toList
def Ty.agg (l : List Ty) : Ty := { den := iT l, deps := cC l, cdeps := bX l, mono := fun le hk hs ⟨cs, e, h⟩ => ⟨cs, e, bQ le hk hs h⟩ }
def ij (l : List Ty) (w : World) (M : bB) (x : Value) : Prop := ∃ cs : Array Value, x = .tuple cs ∧ cB w M l cs.toList
def Ty.kD (l : List Ty) : Ty := { den := ij l, deps := cC l, cdeps := bX l, mono := fun le hk hs ⟨cs, e, h⟩ => ⟨cs, e, bQ le hk hs h⟩ }
def ia (f : FuncId) (caps : List Ty) (w : World) (M : bB) (x : Value) : Prop := ∃ cs : Array Value, x = .func (.func f) #[] cs ∧ cB w M caps cs.toList
def Ty.jD (f : FuncId) (caps : List Ty) : Ty := ⟨ia f caps, cC caps, bX caps, fun le hk hs ⟨cs, e, h⟩ => ⟨cs, e, bQ le hk hs h⟩, true, fun _ ⟨_, e, _⟩ => e ▸ rfl⟩
def qR (g : Bool) (t : Ty) (w : World) (M : bB) (x : Value) : Prop := (g = true → t.den w M x) ∧ (g = false → x = undef)
def Ty.gd (g : Bool) (t : Ty) : Ty := { den := qR g t, deps := t.deps, cdeps := t.cdeps, mono := fun le hk hs h => ⟨fun hg => t.mono le hk hs (h.1 hg), h.2⟩ }
def mK (w : World) (M : bB) (b off : Nat) (l : List Ty) : Prop :=
  M b = none ∧ b < w.heap.size ∧ ∀ (i : Nat) (t : Ty), l[i]? = some t → ∃ v, w.cell? ⟨b, off + i, none⟩ = some v ∧ t.den w M v
theorem lp {S K : Nat → Prop} {w w' : World} {M M' : bB} (le : Le S K w M w' M') {b off : Nat} {l : List Ty} (hk : ∀ t ∈ cC l, ¬ K t) (hs : ∀ t ∈ bX l, ¬ S t) (h : mK w M b off l) : mK w' M' b off l := by
 obtain ⟨h1, h2, h3⟩ := h
 obtain ⟨h4, h5⟩ := le.oM b h2 h1
 refine ⟨h4, Nat.lt_of_lt_of_le h2 le.size, fun i t hi => ?_⟩
 obtain ⟨v, hc, hd⟩ := h3 i t hi
 refine ⟨v, ?_, t.mono le (fun u hu => hk u ?_) (fun u hu => hs u ?_) hd⟩
 ·rw [← hc]; exact World.cell?_of_block (w := w) h5
 ·simp only [cC, List.mem_flatMap]; exact ⟨t, List.mem_of_getElem? hi, hu⟩
 simp only [bX, List.mem_flatMap]; exact ⟨t, List.mem_of_getElem? hi, hu⟩
theorem wT {w : World} {M : bB} {b off : Nat} {l : List Ty} (n : Nat) (h : mK w M b off l) : mK w M b (off + n) (l.drop n) :=
 ⟨h.1, h.2.1, fun i t hi => by rw [List.getElem?_drop] at hi; obtain ⟨v, hv, hd⟩ := h.2.2 (n + i) t hi; exact ⟨v, by rw [Nat.add_assoc]; exact hv, hd⟩⟩
theorem CT {w : World} {M : bB} {b off : Nat} {l : List Ty} (n : Nat) (h : mK w M b off l) : mK w M b off (l.take n) :=
 ⟨h.1, h.2.1, fun i t hi => h.2.2 i t (by rw [List.getElem?_take] at hi; split at hi <;> simp_all)⟩
def qg (l : List Ty) (w : World) (M : bB) (x : Value) : Prop := ∃ b off, x = .pointer (some ⟨b, off, none⟩) ∧ mK w M b off l
def Ty.pp (l : List Ty) : Ty := ⟨qg l, cC l, bX l, fun le hk hs ⟨b, off, e, h⟩ => ⟨b, off, e, lp le hk hs h⟩, true, fun _ ⟨_, _, e, _⟩ => e ▸ rfl⟩
structure El (α : Type) where
  size : Nat
  tys : α → List Ty
  len : ∀ x, (tys x).length = size
  nodeps : ∀ x, cC (tys x) = []
  nocdeps : ∀ x, bX (tys x) = []
  ones : ∀ x, (tys x).all Ty.one = true
def dD : El Int := ⟨1, fun n => [Ty.int .i64 n], fun _ => rfl, fun _ => rfl, fun _ => rfl, fun _ => rfl⟩
def nth {α : Type} [Inhabited α] (xs : List α) (k : Nat) : α := xs.getD k default
theorem iD {α : Type} [Inhabited α] {xs : List α} {k : Nat} (h : k < xs.length) : nth xs k = xs[k] := by simp [nth, h]
theorem cR {α : Type} [Inhabited α] {xs : List α} {k : Nat} (h : k < xs.length) : nth xs k ∈ xs := by rw [iD h]; exact List.getElem_mem h
theorem cS {α : Type} [Inhabited α] {xs : List α} {k : Nat} (h : k < xs.length) : xs.take (k + 1) = xs.take k ++ [nth xs k] := by
 rw [List.take_succ_eq_append_getElem h, iD h]
theorem rX {α : Type} [Inhabited α] {xs : List α} {k : Nat} (h : k < xs.length) : xs.drop k = nth xs k :: xs.drop (k + 1) := by
 rw [iD h]; exact List.drop_eq_getElem_cons h
theorem El.cO {α : Type} (E : El α) (xs : List α) : cC (xs.flatMap E.tys) = [] := by
 refine List.eq_nil_iff_forall_not_mem.2 fun t ht => ?_
 simp only [cC, List.mem_flatMap] at ht
 obtain ⟨x, ⟨y, _, hx⟩, hu⟩ := ht
 have h' : t ∈ cC (E.tys y) := by simp only [cC, List.mem_flatMap]; exact ⟨x, hx, hu⟩
 rw [E.nodeps y] at h'; cases h'
theorem El.cD {α : Type} (E : El α) (xs : List α) : bX (xs.flatMap E.tys) = [] := by
 refine List.eq_nil_iff_forall_not_mem.2 fun t ht => ?_
 simp only [bX, List.mem_flatMap] at ht
 obtain ⟨x, ⟨y, _, hx⟩, hu⟩ := ht
 have h' : t ∈ bX (E.tys y) := by simp only [bX, List.mem_flatMap]; exact ⟨x, hx, hu⟩
 rw [E.nocdeps y] at h'; cases h'
def m8 {α : Type} (E : El α) (xs : List α) (w : World) (M : bB) (x : Value) : Prop :=
  ∃ A c, x = .slice A xs.length c ∧ xs.length ≤ c ∧ c ≤ maxLen ∧ (0 < xs.length → ∃ b off, A = some ⟨b, off, none⟩ ∧ mK w M b off (xs.flatMap E.tys))
def Ty.sl {α : Type} (E : El α) (xs : List α) : Ty :=
  ⟨m8 E xs, [], [], fun le _ _ ⟨A, c, e, h1, h2, h⟩ => ⟨A, c, e, h1, h2, fun h0 => let ⟨b, off, e, h⟩ := h h0; ⟨b, off, e, lp le (by rw [E.cO]; intro _ h; cases h) (by rw [E.cD]; intro _ h; cases h) h⟩⟩, true, fun _ ⟨_, _, e, _⟩ => e ▸ rfl⟩
theorem sL {α : Type} (E : El α) : ∀ (xs : List α) (k j : Nat), k < xs.length → j < E.size → (xs.flatMap E.tys)[k * E.size + j]? = (xs[k]?).bind fun x => (E.tys x)[j]?
  | [], k, j, h, _ => absurd h (Nat.not_lt_zero _)
  | x :: xs, 0, j, _, hj => by simp [List.getElem?_append, E.len, hj]
  | x :: xs, k + 1, j, h, hj => by
    have := sL E xs k j (by simpa using h) hj
    rw [List.flatMap_cons, List.getElem?_append, if_neg (by rw [E.len, Nat.succ_mul]; omega), E.len, List.getElem?_cons_succ, ← this]
    congr 1
    rw [Nat.succ_mul]; omega
def Ty.ko : Value → Ty
  | .int k n => .int k n
  | .bool b => .bool b
  | .string s => .str s
  | v => .ex v
def As.op (A : As) (fr : Fr) : Operand → Ty
  | .tmp t => bif Nat.blt t fr.n then A.slots t else Ty.any
  | .const v => Ty.ko v
  | .func f => Ty.jD f []
  | .global _ => Ty.any
def bw : Operand → List Nat
  | .tmp t => [t]
  | _ => []
theorem nM (w : World) (M : bB) (v : Value) : (Ty.ko v).den w M v := by cases v <;> rfl
theorem cE {fr : Fr} {A : As} {a : Act} {w : World} {M : bB} {x : Operand} {rs : List Nat} (hr : ∀ c ∈ bw x, c ∈ rs) (h : ∀ c ∈ rs, c < fr.n → (A.slots c).den w M (a.tmps.getD c undef)) : (A.op fr x).den w M (a.eval x) := by
  cases x with
  | tmp t =>
    simp only [As.op, Act.eval]
    cases hb : Nat.blt t fr.n with
    | true => exact h t (hr t (by simp [bw])) (by simpa using hb)
    | false => trivial
  | const v => exact nM w M v
  | func f => exact ⟨#[], rfl, trivial⟩
  | global g => trivial
def As.set (A : As) (d : Nat) (ty : Ty) : As := ⟨fun c => bif Nat.beq c d then ty else A.slots c, A.tags⟩
section
variable {P : Program} {fr : Fr} {ops : Array Oper} {A : As} {rest : List Oper} {K : As → List (As × Fx) → Prop} {d : Nat} {t : TypeId} {p : String} {e : Array Edge}
theorem bL {o : Oper} {rs : List Nat} {ty : Ty} {rt : List Nat} (hg : o.guard = none) (hd : o.dst = some d)
 (h : ∀ (a : Act) w M, Wf w M → (∀ c ∈ rs, c < fr.n → (A.slots c).den w M (a.tmps.getD c undef)) → (∀ x ∈ A.tags, x.1 ∈ rt → x.2.den w M x.1) → ∃ v, (execOp a.eval o).run P w = .ok (.value v) w ∧ ty.den w M v) :
 wu P fr ops o A { d := some d, ty := ty, rs := rs, rt := rt } := by
 refine ⟨hd.symm, by simp, by simp, by simp, fun a w M wf _ hr ht => ?_⟩
 rw [if_pos (by simp [Region.wanted, hg])]
 obtain ⟨v, hv, hty⟩ := h a w M wf hr ht
 refine oY hv ?_
 exact ⟨v, rfl, M, wf, Le.refl _ _ _ _, hty, by simp⟩
theorem bE {o : Oper} {rs : List Nat} {ty : Ty} {rt : List Nat} (hop : wu P fr ops o A { d := some d, ty := ty, rs := rs, rt := rt })
 (h : av P fr ops rest (A.set d ty) fun A' l => K A' ((A, { d := some d, ty := ty, rs := rs, rt := rt }) :: l)) : av P fr ops (o :: rest) A K := ⟨_, hop, h⟩
theorem aD (h : K A []) : av P fr ops [] A K := h
theorem eA {x : Operand} {ty : Ty} (hx : A.op fr x = ty) (h : av P fr ops rest (A.set d ty) fun A' l => K A' ((A, { d := some d, ty := ty, rs := bw x }) :: l)) :
 av P fr ops (⟨some d, .move x, t, p, e, none⟩ :: rest) A K :=
 bE (bL rfl rfl fun a w M _ hr _ => ⟨a.eval x, by simp [execOp], hx ▸ cE (fun _ h => h) hr⟩) h
theorem gQ {x : Operand} {ty : Ty} (hx : A.op fr x = ty) (h : av P fr ops rest (A.set d ty) fun A' l => K A' ((A, { d := some d, ty := ty, rs := bw x }) :: l)) :
 av P fr ops (⟨some d, .assign x, t, p, e, none⟩ :: rest) A K :=
 bE (bL rfl rfl fun a w M _ hr _ => ⟨a.eval x, by simp [execOp], hx ▸ cE (fun _ h => h) hr⟩) h
theorem op2 {a : Act} {w : World} {M : bB} {x y : Operand} (hr : ∀ c ∈ bw x ++ bw y, c < fr.n → (A.slots c).den w M (a.tmps.getD c undef)) :
 (A.op fr x).den w M (a.eval x) ∧ (A.op fr y).den w M (a.eval y) :=
 ⟨cE (fun c h => List.mem_append_left _ h) hr, cE (fun c h => List.mem_append_right _ h) hr⟩
def Lj (op : BinOp) (k : IntKind) (a b : Int) : Option Ty :=
  match op with
  | .add => some (.int k (k.wrap (a + b)))
  | .sub => some (.int k (k.wrap (a - b)))
  | .mul => some (.int k (k.wrap (a * b)))
  | .and => some (.int k (bits .and k a b))
  | .or => some (.int k (bits .or k a b))
  | .xor => some (.int k (bits .xor k a b))
  | .andNot => some (.int k (bits .andNot k a b))
  | .eql => some (.bool (decide (a = b)))
  | .neq => some (.bool (!decide (a = b)))
  | .lss => some (.bool (decide (a < b)))
  | .leq => some (.bool (decide (a ≤ b)))
  | .gtr => some (.bool (decide (b < a)))
  | .geq => some (.bool (decide (b ≤ a)))
  | _ => none
theorem D9 (a b : Int) : (a == b) = decide (a = b) := by rw [Bool.eq_iff_iff]; simp
theorem GK {op : BinOp} {k : IntKind} {a b : Int} {ty : Ty} (h : Lj op k a b = some ty) (x y : Operand) (t : TypeId) (w : World) (M : bB) :
 ∃ v, (do eqGuard op t x y (.int k a) (.int k b); binOp op t (.int k a) (.int k b) : Sem Value).run P w = .ok v w ∧ ty.den w M v := by
 cases op <;> simp only [Lj, Option.some.injEq, reduceCtorEq] at h <;> subst h <;> refine ⟨_, ?_, rfl⟩ <;> simp [go_sem, Op.intArith, bne, D9]
end
end Go.T
namespace Go.T
open Go Go.RowKit
inductive TK where
  | int (k : IntKind) | bool | string | ptr (e : Nat) | slice (e : Nat) | array (n e : Nat) | struct (fs : List (Nat × Nat)) | map (k e : Nat) | func | other
structure TI where
  k : TK
  size : Nat
  bytes : Nat
  zero : List Value
def TK.of : TypeDesc → TK
  | .int k => .int k
  | .bool => .bool
  | .string => .string
  | .pointer e => .ptr e
  | .slice e => .slice e
  | .array n e => .array n e
  | .struct fs => .struct (fs.toList.map fun f => (f.offset, f.type))
  | .map k e => .map k e
  | .func .. => .func
  | _ => .other
def TK.agg : TK → Bool
  | .struct _ | .array .. => true
  | _ => false
def FQ (P : Program) (t : Nat) : Option TI :=
  match P.info? t, P.underlying t with
  | some i, some d => some ⟨TK.of d, i.size, i.bytes, match i.zero with | some z => z.cells.toList | none => []⟩
  | _, _ => none
class kf (P : Program) where
  eE : List TI
  ok : ∀ (t : Nat) (x : TI), eE[t]? = some x → FQ P t = some x
theorem kf.of {P : Program} {l : List TI} (h : (List.range l.length).map (FQ P) = l.map some) : ∀ (t : Nat) (x : TI), l[t]? = some x → FQ P t = some x := by
 intro t x hx
 have hlt : t < l.length := (List.getElem?_eq_some_iff.1 hx).1
 have h1 : ((List.range l.length).map (FQ P))[t]? = (l.map some)[t]? := by rw [h]
 simp [List.getElem?_range hlt, hx] at h1
 exact h1
section
variable {P : Program} [T : kf P] {fr : Fr} {ops : Array Oper} {A : As} {rest : List Oper} {K : As → List (As × Fx) → Prop} {d : Nat} {t ty' : TypeId} {p : String} {e : Array Edge}
theorem ct {t : Nat} {x : TI} (h : T.eE[t]? = some x) : ∃ i D, P.info? t = some i ∧ P.underlying t = some D ∧ TK.of D = x.k ∧ i.size = x.size ∧ i.bytes = x.bytes ∧ (match i.zero with | some z => z.cells.toList | none => []) = x.zero := by
 have h := T.ok t x h
 unfold FQ at h
 split at h
 ·rename_i i D hi hD
  injection h with h
  subst h
  exact ⟨i, D, hi, hD, rfl, rfl, rfl, rfl⟩
 cases h
theorem dH {t : Nat} {x : TI} (h : T.eE[t]? = some x) (w : World) : (sizeOf t).run P w = .ok x.size w := by
 obtain ⟨i, _, hi, _, _, hs, _⟩ := ct h
 simp [sizeOf, typeInfo, hi, hs]
theorem wj {t : Nat} {x : TI} (h : T.eE[t]? = some x) (w : World) : (isAgg t).run P w = .ok x.k.agg w := by
 obtain ⟨i, D, _, hD, hk, _⟩ := ct h
 rw [← hk]
 cases D <;> simp [isAgg, run_underlying hD, TK.of, TK.agg]
theorem gz {t : Nat} {x : TI} (h : T.eE[t]? = some x) (ha : x.k.agg = false) {w : World} {b off : Nat} {v : Value} (hc : w.cell? ⟨b, off, none⟩ = some v) :
 (Instr.loadAt t (.pointer (some ⟨b, off, none⟩))).run P w = .ok v w := by
 simp [Instr.loadAt, Instr.sureAddr, loadVar, wj h, ha, load, Sem.run, hc]
theorem fu {t : Nat} {x : TI} (h : T.eE[t]? = some x) (ha : x.k.agg = true) {w : World} {b off : Nat} {cs : List Value} (hl : cs.length = x.size) (hc : ∀ j v, cs[j]? = some v → w.cell? ⟨b, off + j, none⟩ = some v) :
 (Instr.loadAt t (.pointer (some ⟨b, off, none⟩))).run P w = .ok (.agg cs.toArray) w := by
 have := run_loadCells_list (P := P) (w := w) ⟨b, off, none⟩ cs (fun j v hj => by rw [Addr.add_lit]; exact hc j v hj)
 rw [hl] at this
 simp [Instr.loadAt, Instr.sureAddr, loadVar, wj h, ha, dH h, this]
theorem mm {w : World} {M : bB} {b off : Nat} {l : List Ty} (h : mK w M b off l) : ∀ n, n ≤ l.length → ∃ cs : List Value, cs.length = n ∧ cB w M (l.take n) cs ∧ ∀ j v, cs[j]? = some v → w.cell? ⟨b, off + j, none⟩ = some v := by
  intro n
  induction n with
  | zero => exact fun _ => ⟨[], rfl, trivial, fun j v h => by simp at h⟩
  | succ n ih =>
    intro hn
    obtain ⟨cs, h1, h2, h3⟩ := ih (by omega)
    obtain ⟨v, hv, hd⟩ := h.2.2 n l[n] (List.getElem?_eq_getElem (by omega))
    refine ⟨cs ++ [v], by simp [h1], ?_, fun j u hj => ?_⟩
    · refine gB (by simp [h1]; omega) fun i t hi => ?_
      rw [List.getElem?_take] at hi
      split at hi
      · rename_i hlt
        by_cases e : i = n
        · subst e
          rw [List.getElem?_eq_getElem (by omega)] at hi
          injection hi with hi
          subst hi
          exact ⟨v, by rw [List.getElem?_append_right (by omega)]; simp [h1], hd⟩
        · obtain ⟨x, hx, hdx⟩ := dG h2 i t (by rw [List.getElem?_take, if_pos (by omega)]; exact hi)
          exact ⟨x, by rw [List.getElem?_append_left (by omega)]; exact hx, hdx⟩
      · cases hi
    · rcases Nat.lt_or_ge j n with hlt | hge
      · rw [List.getElem?_append_left (by omega)] at hj; exact h3 j u hj
      · rw [List.getElem?_append_right (by omega)] at hj
        have : j = n := by
          rcases Nat.lt_or_ge (j - cs.length) 1 with h | h
          · omega
          · rw [List.getElem?_eq_none (by simpa using h)] at hj; cases hj
        subst this
        simp [h1] at hj
        subst hj; exact hv
theorem aG {x : Operand} {l : List Ty} {ti : TI} {ty : Ty} (hx : A.op fr x = .pp l) (hT : T.eE[ty']? = some ti) (ha : ti.k.agg = false) (hl : l[0]? = some ty)
 (h : av P fr ops rest (A.set d ty) fun A' l => K A' ((A, { d := some d, ty := ty, rs := bw x }) :: l)) : av P fr ops (⟨some d, .load ty' x, t, p, e, none⟩ :: rest) A K :=
 bE (bL rfl rfl fun a w M _ hr _ => by
  have := cE (x := x) (fun _ h => h) hr
  rw [hx] at this
  obtain ⟨b, off, e, hp⟩ := this
  obtain ⟨v, hv, hd⟩ := hp.2.2 0 ty hl
  have hv' : w.cell? ⟨b, off, none⟩ = some v := hv
  exact ⟨v, by simp [execOp, e, gz hT ha hv'], hd⟩) h
theorem aU {x : Operand} {l : List Ty} {ti : TI} (hx : A.op fr x = .pp l) (hT : T.eE[ty']? = some ti) (ha : ti.k.agg = true) (hl : ti.size ≤ l.length)
 (h : av P fr ops rest (A.set d (.agg (l.take ti.size))) fun A' l' => K A' ((A, { d := some d, ty := .agg (l.take ti.size), rs := bw x }) :: l')) : av P fr ops (⟨some d, .load ty' x, t, p, e, none⟩ :: rest) A K :=
 bE (bL rfl rfl fun a w M _ hr _ => by
  have := cE (x := x) (fun _ h => h) hr
  rw [hx] at this
  obtain ⟨b, off, e, hp⟩ := this
  obtain ⟨cs, h1, h2, h3⟩ := mm hp _ hl
  exact ⟨.agg cs.toArray, by simp [execOp, e, fu hT ha h1 h3], cs.toArray, rfl, by simpa using h2⟩) h
def As.tag (A : As) (t : Nat) : Option Cont := A.tags.lookup t
theorem cW {A : As} {t : Nat} {C : Cont} (h : A.tag t = some C) : (t, C) ∈ A.tags := by
  unfold As.tag at h
  revert h
  generalize A.tags = l
  induction l with
  | nil => intro h; cases h
  | cons x l ih =>
    intro h
    obtain ⟨u, D⟩ := x
    rw [List.lookup_cons] at h
    split at h
    · rename_i he
      injection h with h
      subst h
      have : t = u := by simpa using he
      subst this; exact List.mem_cons_self
    · exact List.mem_cons_of_mem _ (ih h)
theorem BX {w : World} {M : bB} {tg T b off : Nat} {l : List Ty} {ty : Ty} (wf : Wf w M) (h1 : fN tg) (hb : M b = some tg) (hc : (Cont.cells T l).den w M tg) (hl : l[off]? = some ty) :
 ∃ v, w.cell? ⟨b, off, none⟩ = some v ∧ ty.den w M v := by
 obtain ⟨b', cs, hb', hh, hd⟩ := hc
 obtain ⟨u, rfl⟩ : ∃ u, tg = u + 1 := ⟨tg - 1, by omega⟩
 have := wf.inj b b' u (by omega) hb hb'
 subst this
 obtain ⟨v, hv, hdv⟩ := dG hd off ty hl
 exact ⟨v, by simpa [World.cell?, hh] using hv, hdv⟩
theorem aX {x : Operand} {tg off Tb : Nat} {l : List Ty} {ti : TI} {ty : Ty} (hx : A.op fr x = .ptr tg off) (hc : A.tag tg = some (.cells Tb l)) (h1 : fN tg) (hT : T.eE[ty']? = some ti) (ha : ti.k.agg = false) (hl : l[off]? = some ty)
 (h : av P fr ops rest (A.set d ty) fun A' l => K A' ((A, { d := some d, ty := ty, rs := bw x, rt := [tg] }) :: l)) : av P fr ops (⟨some d, .load ty' x, t, p, e, none⟩ :: rest) A K :=
 bE (bL rfl rfl fun a w M wf hr ht => by
  have := cE (x := x) (fun _ h => h) hr
  rw [hx] at this
  obtain ⟨b, hb, e⟩ := this
  obtain ⟨v, hv, hd⟩ := BX wf h1 hb (ht _ (cW hc) (by simp)) hl
  exact ⟨v, by simp [execOp, e, gz hT ha hv], hd⟩) h
theorem bf {x : Operand} {tg off Tb : Nat} {l : List Ty} {ti : TI} (hx : A.op fr x = .ptr tg off) (hc : A.tag tg = some (.cells Tb l)) (h1 : fN tg) (hT : T.eE[ty']? = some ti) (ha : ti.k.agg = true) (hl : off + ti.size ≤ l.length)
 (h : av P fr ops rest (A.set d (.agg ((l.drop off).take ti.size))) fun A' l' => K A' ((A, { d := some d, ty := .agg ((l.drop off).take ti.size), rs := bw x, rt := [tg] }) :: l')) : av P fr ops (⟨some d, .load ty' x, t, p, e, none⟩ :: rest) A K :=
 bE (bL rfl rfl fun a w M wf hr ht => by
  have := cE (x := x) (fun _ h => h) hr
  rw [hx] at this
  obtain ⟨b, hb, e⟩ := this
  obtain ⟨b', cs, hb', hh, hd⟩ := ht _ (cW hc) (by simp)
  obtain ⟨u, rfl⟩ : ∃ u, tg = u + 1 := ⟨tg - 1, by omega⟩
  have := wf.inj b b' u (by omega) hb hb'
  subst this
  have hlen := cL hd
  have h2 := pX ti.size (mj off hd)
  refine ⟨.agg ((cs.toList.drop off).take ti.size).toArray, ?_, _, rfl, by simpa using h2⟩
  have := fu (P := P) hT ha (w := w) (b := b) (off := off) (cs := (cs.toList.drop off).take ti.size) (by simp at hlen ⊢; omega) (fun j v hj => by
   rw [List.getElem?_take] at hj
   split at hj
   ·rw [List.getElem?_drop] at hj
    simpa [World.cell?, hh] using hj
   cases hj)
  simp [execOp, e, this]) h
theorem nA {t f : Nat} {ti : TI} {fs : List (Nat × Nat)} {o ft : Nat} {tf : TI} (hT : T.eE[t]? = some ti) (hk : ti.k = .struct fs) (hf : fs[f]? = some (o, ft)) (hF : T.eE[ft]? = some tf) (h0 : tf.size ≠ 0) (b off : Nat) (w : World) :
 (Instr.fieldAt t (.pointer (some ⟨b, off, none⟩)) f).run P w = .ok (.pointer (some ⟨b, off + o, none⟩)) w := by
 obtain ⟨i, D, _, hD, hkd, _⟩ := ct hT
 rw [hk] at hkd
 cases D <;> simp only [TK.of, reduceCtorEq, TK.struct.injEq] at hkd
 rename_i fields
 subst hkd
 simp only [List.getElem?_map, Option.map_eq_some_iff, Prod.mk.injEq] at hf
 obtain ⟨g, hg, ho, hft⟩ := hf
 subst ho; subst hft
 have hg' : fields[f]? = some g := by simpa using hg
 simp [Instr.fieldAt, run_underlying hD, hg', Instr.sureAddr, fieldPlace, dH hF, h0]
 exact Addr.add_lit _ _ _
theorem aI {x : Operand} {f : Nat} {l : List Ty} {ti tf : TI} {fs : List (Nat × Nat)} {o ft : Nat} (hx : A.op fr x = .pp l) (hT : T.eE[ty']? = some ti) (hk : ti.k = .struct fs) (hf : fs[f]? = some (o, ft)) (hF : T.eE[ft]? = some tf) (h0 : tf.size ≠ 0)
 (h : av P fr ops rest (A.set d (.pp (l.drop o))) fun A' l' => K A' ((A, { d := some d, ty := .pp (l.drop o), rs := bw x }) :: l')) : av P fr ops (⟨some d, .fieldAddr ty' x f, t, p, e, none⟩ :: rest) A K :=
 bE (bL rfl rfl fun a w M _ hr _ => by
  have := cE (x := x) (fun _ h => h) hr
  rw [hx] at this
  obtain ⟨b, off, e, hp⟩ := this
  exact ⟨_, by simp [execOp, e, nA hT hk hf hF h0], b, off + o, rfl, wT o hp⟩) h
theorem aS {x : Operand} {f tg off : Nat} {ti tf : TI} {fs : List (Nat × Nat)} {o ft : Nat} (hx : A.op fr x = .ptr tg off) (hT : T.eE[ty']? = some ti) (hk : ti.k = .struct fs) (hf : fs[f]? = some (o, ft)) (hF : T.eE[ft]? = some tf) (h0 : tf.size ≠ 0)
 (h : av P fr ops rest (A.set d (.ptr tg (off + o))) fun A' l' => K A' ((A, { d := some d, ty := .ptr tg (off + o), rs := bw x }) :: l')) : av P fr ops (⟨some d, .fieldAddr ty' x f, t, p, e, none⟩ :: rest) A K :=
 bE (bL rfl rfl fun a w M _ hr _ => by
  have := cE (x := x) (fun _ h => h) hr
  rw [hx] at this
  obtain ⟨b, hb, e⟩ := this
  exact ⟨_, by simp [execOp, e, nA hT hk hf hF h0], b, hb, rfl⟩) h
theorem gq {t e : Nat} {ti te : TI} (hT : T.eE[t]? = some ti) (hk : ti.k = .slice e) (hE : T.eE[e]? = some te) {b off len c : Nat} {k : IntKind} {i : Int} (h0 : 0 ≤ i) (h1 : i.toNat < len) (w : World) :
 (Instr.indexAt t (.slice (some ⟨b, off, none⟩) len c) (.int k i)).run P w = .ok (.pointer (some ⟨b, off + i.toNat * te.size, none⟩)) w := by
 obtain ⟨_, D, _, hD, hkd, _⟩ := ct hT
 rw [hk] at hkd
 cases D <;> simp only [TK.of, reduceCtorEq, TK.slice.injEq] at hkd
 subst hkd
 have : 0 ≤ i ∧ i < (len : Int) := ⟨h0, by omega⟩
 simp [Instr.indexAt, asIntOf, run_underlying hD, this, dH hE]
 exact Addr.add_lit _ _ _
theorem oE {t e n : Nat} {ti te : TI} (hT : T.eE[t]? = some ti) (hk : ti.k = .array n e) (hE : T.eE[e]? = some te) {b off : Nat} {k : IntKind} {i : Int} (h0 : 0 ≤ i) (h1 : i.toNat < n) (w : World) :
 (Instr.indexAt t (.pointer (some ⟨b, off, none⟩)) (.int k i)).run P w = .ok (.pointer (some ⟨b, off + i.toNat * te.size, none⟩)) w := by
 obtain ⟨_, D, _, hD, hkd, _⟩ := ct hT
 rw [hk] at hkd
 cases D <;> simp only [TK.of, reduceCtorEq, TK.array.injEq] at hkd
 obtain ⟨e1, e2⟩ := hkd
 subst e1; subst e2
 have h2 : i < (_ : Nat) := Int.lt_of_lt_of_le (Int.lt_add_one_of_le (Int.self_le_toNat i)) (Int.ofNat_le.2 h1)
 simp [Instr.indexAt, asIntOf, run_underlying hD, Instr.sureAddr, h0, h2, dH hE]
 exact Addr.add_lit _ _ _
theorem lO {α : Type} [Inhabited α] (E : El α) (xs : List α) {k : Nat} (hk : k < xs.length) (i : Nat) (ty : Ty) (h : (E.tys (nth xs k))[i]? = some ty) : (xs.flatMap E.tys)[k * E.size + i]? = some ty := by
 have hi : i < E.size := by
  have := (List.getElem?_eq_some_iff.1 h).1
  rw [E.len] at this; exact this
 rw [sL E xs k i hk hi, List.getElem?_eq_getElem hk, ← iD hk]
 exact h
theorem jm {α : Type} [Inhabited α] {x y : Operand} {E : El α} {xs : List α} {k : IntKind} {i : Int} {ti te : TI} {el : Nat} (hx : A.op fr x = .sl E xs) (hy : A.op fr y = .int k i) (hT : T.eE[ty']? = some ti) (hk : ti.k = .slice el) (hE : T.eE[el]? = some te) (hs : te.size = E.size)
 (h0 : 0 ≤ i) (h1 : i.toNat < xs.length)
 (h : av P fr ops rest (A.set d (.pp (E.tys (nth xs i.toNat)))) fun A' l' => K A' ((A, { d := some d, ty := .pp (E.tys (nth xs i.toNat)), rs := bw x ++ bw y }) :: l')) : av P fr ops (⟨some d, .indexAddr ty' x y, t, p, e, none⟩ :: rest) A K :=
 bE (bL rfl rfl fun a w M _ hr _ => by
  obtain ⟨hdx, hdy⟩ := op2 hr
  rw [hx] at hdx; rw [hy] at hdy
  obtain ⟨ad, c, ex, _, _, hp⟩ := hdx
  obtain ⟨b, off, rfl, hp'⟩ := hp (by omega)
  have ey : a.eval y = .int k i := hdy
  refine ⟨_, by simp only [execOp, ex, ey, Sem.run_bind, gq hT hk hE h0 h1]; rfl, b, off + i.toNat * te.size, rfl, hp'.1, hp'.2.1, fun j ty hj => ?_⟩
  obtain ⟨v, hv, hd⟩ := hp'.2.2 _ ty (lO E xs h1 j ty hj)
  exact ⟨v, by rw [hs, Nat.add_assoc]; exact hv, hd⟩) h
end
end Go.T
namespace Go.T
open Go Go.RowKit
def mL (w0 : World) (M0 : bB) (res : Ty) (e : Ending) (w' : World) : Prop :=
  ∃ r M', e = .returned r ∧ Wf w' M' ∧ Le (fun t => 1 ≤ t) (fun t => 1 ≤ t) w0 M0 w' M' ∧ res.den w' M' r
def dK (P : Program) (f : FuncId) (args : List Ty) (res : Ty) : Prop :=
  (∃ fn, P.funcs[f]? = some fn ∧ (fn.name == "runtime.NumGoroutine") = false ∧ fn.body.isNone = false) ∧
  ∀ w M vs, Wf w M → (∀ b t, M b = some t → t = 0) → cB w M args vs → Calls P f vs.toArray w (mL w M res)
def fU (P : Program) (fr : Fr) (c : Code) (A : As) (Q : Exit → Act → World → Prop) : Prop := ∀ a w, A.holds fr a w → c.wpIn fr.kd.iq 0 P Q a w
def dR (fr : Fr) (A : As) (R : Act → World → Prop) : Prop := ∀ a w, A.holds fr a w → R a w
section
variable {P : Program} {fr : Fr} {ops : Array Oper} {A : As} {rest : List Oper} {K : As → List (As × Fx) → Prop} {d : Nat} {t ty' : TypeId} {p : String} {e : Array Edge} {Q : Exit → Act → World → Prop} {x y : Code} {id : Nat} {l : List Oper}
theorem aE (h : fU P fr x A (Exit.then (fun a w => y.wpIn fr.kd.iq 0 P Q a w) Q)) : fU P fr (.seq x y) A Q := fun a w ha => wpIn_seq (h a w ha)
theorem aA (h : av P fr l.toArray l A fun A' _ => dR fr A' (Q .normal)) : fU P fr (.region id l.toArray false) A Q := FZ h
theorem cN (hm : P.follows .mixedOrders = true) (hf : forward l.toArray = true) (h : av P fr l.toArray l A fun A' s => zM fr.n l.toArray A s = true ∧ dR fr A' (Q .normal)) : fU P fr (.region id l.toArray true) A Q := Ik hm hf h
theorem aB (h : fU P fr y A Q) {Q' : Exit → Act → World → Prop} : dR fr A (Exit.then (fun a w => y.wpIn fr.kd.iq 0 P Q a w) Q' .normal) := h
theorem aP {n : Act → World → Prop} {i : Nat} (h : dR fr A (Q (.exit i))) : dR fr A (Exit.then n Q (.exit i)) := h
theorem aQ {n : Act → World → Prop} (h : dR fr A (Q .ret)) : dR fr A (Exit.then n Q .ret) := h
theorem aq (h : dR fr A (Q .normal)) : fU P fr .skip A Q := fun a w ha => wpIn_skip (h a w ha)
theorem cI {i : Nat} (h : dR fr A (Q (.exit i))) : fU P fr (.exit i) A Q := fun a w ha => wpIn_exit (h a w ha)
theorem ay (h : dR fr A (Q .ret)) : fU P fr .ret A Q := fun a w ha => wpIn_ret (h a w ha)
theorem af (h : fU P fr x A (Exit.inBlock id Q)) : fU P fr (.block id x) A Q := fun a w ha => wpIn_block (h a w ha)
theorem bM (h : dR fr A (Q .normal)) : dR fr A (Exit.inBlock id Q .normal) := h
theorem au (h : dR fr A (Q .ret)) : dR fr A (Exit.inBlock id Q .ret) := h
theorem aj {i : Nat} (hi : i = id) (h : dR fr A (Q .normal)) : dR fr A (Exit.inBlock id Q (.exit i)) := fun a w ha => by simpa [Exit.inBlock, hi] using h a w ha
theorem gG {i : Nat} (hi : Nat.beq i id = false) (h : dR fr A (Q (.exit i))) : dR fr A (Exit.inBlock id Q (.exit i)) := fun a w ha => by
 have : i ≠ id := fun e => by rw [e] at hi; simp at hi
 simpa [Exit.inBlock, this] using h a w ha
theorem bt {c : Operand} {b : Bool} (hc : A.op fr c = .bool b) (h1 : b = true → fU P fr x A Q) (h2 : b = false → fU P fr y A Q) : fU P fr (.cond c x y) A Q := fun a w ha => by
  have hv : a.eval c = .bool b := by
    obtain ⟨M, _, hs, _⟩ := ha
    have := cE (x := c) (rs := bw c) (fun _ h => h) (fun c _ hn => hs c hn)
    rw [hc] at this; exact this
  cases b with
  | true => exact wpIn_cond_true hv (h1 rfl a w ha)
  | false => exact wpIn_cond_false hv (h2 rfl a w ha)
def Ty.Sub (s t : Ty) : Prop := ∀ w M v, s.den w M v → t.den w M v
theorem Ty.aF (s : Ty) : s.Sub s := fun _ _ _ h => h
theorem Ty.aV (s : Ty) : s.Sub Ty.any := fun _ _ _ _ => trivial
theorem Ty.sub_eq {s t : Ty} (h : s = t) : s.Sub t := h ▸ Ty.aF s
def Cont.Sub (s t : Cont) : Prop := ∀ w M v, s.den w M v → t.den w M v
theorem Cont.aF (s : Cont) : s.Sub s := fun _ _ _ h => h
theorem Cont.sub_eq {s t : Cont} (h : s = t) : s.Sub t := h ▸ Cont.aF s
def qj (A B : As) : Nat → Prop
  | 0 => True
  | k + 1 => (A.slots k).Sub (B.slots k) ∧ qj A B k
theorem aM {A B : As} : qj A B 0 := trivial
theorem qy {A B : As} : ∀ {n : Nat}, qj A B n → ∀ c, c < n → (A.slots c).Sub (B.slots c)
  | 0, _, c, hc => absurd hc (Nat.not_lt_zero c)
  | n + 1, h, c, hc => if e : c = n then e ▸ h.1 else qy h.2 c (by omega)
def allTags (A : As) : List (Nat × Cont) → Prop
  | [] => True
  | x :: l => (∃ C, A.tag x.1 = some C ∧ C.Sub x.2) ∧ allTags A l
theorem aL : allTags A [] := trivial
theorem aK {u : Nat} {C D : Cont} {l : List (Nat × Cont)} (h : A.tag u = some D) (hs : D.Sub C) (h' : allTags A l) : allTags A ((u, C) :: l) := ⟨⟨D, h, hs⟩, h'⟩
theorem oc : ∀ {l : List (Nat × Cont)}, allTags A l → ∀ x ∈ l, ∃ C, A.tag x.1 = some C ∧ C.Sub x.2
  | [], _, x, hx => by cases hx
  | y :: l, h, x, hx => by
    rcases List.mem_cons.1 hx with rfl | hx
    · exact h.1
    · exact oc h.2 x hx
structure cv (fr : Fr) (A B : As) : Prop where
  slots : qj A B fr.n
  tags : allTags A B.tags
theorem cv.holds {A B : As} (h : cv fr A B) {a : Act} {w : World} : A.holds fr a w → B.holds fr a w := fun ⟨M, ok, hs, ht⟩ =>
 ⟨M, ok, fun c hc => qy h.slots c hc _ _ _ (hs c hc), fun x hx => by
  obtain ⟨C, hC, hsub⟩ := oc h.tags x hx
  exact hsub _ _ _ (ht _ (cW hC))⟩
theorem sC {B : As} (h : cv fr A B) (h' : fU P fr x B Q) : fU P fr x A Q := fun a w ha => h' a w (h.holds ha)
theorem oq {J : As} (h : fU P fr x A (Exit.then (fun a w => J.holds fr a w) Q)) (h' : fU P fr y J Q) : fU P fr (.seq x y) A Q := fun a w ha =>
 wpIn_seq (Go.wpIn_mono (h a w ha) fun e a w hq => by cases e <;> first | exact h' a w hq | exact hq)
theorem gl {J : As} (h : cv fr A J) : dR fr A (Exit.then (fun a w => J.holds fr a w) Q .normal) := fun a w ha => h.holds ha
theorem cK {ι : Type} (I : ι → As) (μ : ι → Nat) (i0 : ι) (h0 : cv fr A (I i0))
    (h : ∀ i, fU P fr x (I i) (Exit.then (fun a w => ∃ j, (I j).holds fr a w ∧ μ j < μ i) Q)) : fU P fr (.loop x) A Q := by
  intro a w ha b k cs hro hb hr
  have key : ∀ (n : Nat) (i : ι), μ i = n → ∀ a w, (I i).holds fr a w → ∃ e a' w', Q e a' w' ∧ ArrivesIn (Machine.fenced P fr.kd.iq) P (lone (b.atR a (.code x :: .inLoop x :: k)) cs w) b k cs e a' w' := by
    intro n
    induction n using Nat.strongRecOn with
    | _ n ih =>
      intro i hi a w ha
      obtain ⟨e, a₁, w₁, hq, harr⟩ := h i a w ha b (.inLoop x :: k) cs hro hb hr
      cases e with
      | normal =>
        obtain ⟨j, hj, hlt⟩ := hq
        obtain ⟨e₂, a₂, w₂, hq₂, harr₂⟩ := ih (μ j) (hi ▸ hlt) j rfl a₁ w₁ hj
        exact ⟨e₂, a₂, w₂, hq₂, .of_steps (StepsIn.trans harr (.one (fenced_calm hb hr rfl) stepR_inLoop)) harr₂⟩
      | exit id => exact ⟨_, a₁, w₁, hq, .pass (x := .inLoop x) rfl (fun _ _ => .inl (by simp)) harr⟩
      | goto l => exact ⟨_, a₁, w₁, hq, .pass (x := .inLoop x) rfl (fun _ _ => .inl (by simp)) harr⟩
      | ret => exact ⟨_, a₁, w₁, hq, .pass (x := .inLoop x) rfl (fun _ _ => .inl (by simp)) harr⟩
      | panic ch => exact ⟨_, a₁, w₁, hq, .pass (x := .inLoop x) rfl (fun _ _ => .inl (by simp)) harr⟩
      | outgrown => exact ⟨_, a₁, w₁, hq, .pass (x := .inLoop x) rfl (fun _ _ => .inl (by simp)) harr⟩
  obtain ⟨e, a', w', hq, harr⟩ := key _ i0 rfl a w (h0.holds ha)
  exact ⟨e, a', w', hq, .of_steps (.one (fenced_calm hb hr rfl) stepR_loop) harr⟩
theorem bO {ι : Type} {I : ι → As} {μ : ι → Nat} {i : ι} (j : ι) (h : cv fr A (I j)) (hlt : μ j < μ i) : dR fr A (Exit.then (fun a w => ∃ j, (I j).holds fr a w ∧ μ j < μ i) Q .normal) := fun a w ha => ⟨j, h.holds ha, hlt⟩
def entry (args : List Ty) : As := ⟨fun c => (args[c]?).getD Ty.any, []⟩
theorem aa {f : FuncId} {fn : Func} {c : Code} {args : List Ty} {res : Ty} {n : Nat} (hf : P.funcs[f]? = some fn) (hb : fn.body = some c) (hn : (fn.name == "runtime.NumGoroutine") = false) (hnt : fn.ntmps = n) (hl : args.length ≤ n)
    (h : ∀ w0 M0, fU P ⟨n, w0, M0, [], .plain⟩ c (entry args) (bodyPost P fn (mL w0 M0 res))) : dK P f args res := by
  refine ⟨⟨fn, hf, hn, by rw [hb]; rfl⟩, fun w M vs wf hM hd => calls_of_wp hf hb (wpIn_wide.1 (h w M _ _ ?_))⟩
  have hlen := cL hd
  refine ⟨M, ⟨wf, Le.refl _ _ _ _, by simp [hnt, hlen]; omega, Defs.nil⟩, fun c hc => ?_, by simp [entry]⟩
  simp only [entry]
  cases ha : args[c]? with
  | none => trivial
  | some ty =>
    obtain ⟨v, hv, hdv⟩ := dG hd c ty ha
    have : (vs.toArray ++ Array.replicate (fn.ntmps - vs.toArray.size) undef).getD c undef = v := by
      have hlt : c < vs.length := (List.getElem?_eq_some_iff.1 hv).1
      rw [Array.getD_eq_getD_getElem?, Array.getElem?_append_left (by simpa using hlt)]
      simp [hv]
    rw [this]; exact hdv
theorem Nm {fn : Func} {R : Ending → World → Prop} (h : dR fr A (bodyPost P fn R .ret)) : dR fr A (bodyPost P fn R .normal) := h
def JD (M : bB) : bB := fun b => (M b).map fun _ => 0
theorem xG {M : bB} {b t : Nat} (h : JD M b = some t) : t = 0 ∧ ∃ u, M b = some u := by
  unfold JD at h
  cases hm : M b with
  | none => rw [hm] at h; cases h
  | some u => rw [hm] at h; injection h with h; exact ⟨h.symm, u, rfl⟩
theorem Gs {w : World} {M : bB} (wf : Wf w M) : Wf w (JD M) := ⟨fun b t h => let ⟨_, u, hu⟩ := xG h; wf.lt b u hu, fun b b' t _ h _ => by have := (xG h).1; omega⟩
theorem AQ {M : bB} (b t : Nat) (h : JD M b = some t) : t = 0 := (xG h).1
theorem BJ {M : bB} {b : Nat} (h : M b = none) : JD M b = none := by simp [JD, h]
theorem HC {M : bB} {b t : Nat} (h : M b = some t) : JD M b = some 0 := by simp [JD, h]
def lP (w : World) (M : bB) : bB := fun b => if b < w.heap.size then M b else none
theorem yG {w w' : World} {M M' : bB} {res : Ty} {r : Value} (wf : Wf w M) (le : Le (fun t => 1 ≤ t) (fun t => 1 ≤ t) w (JD M) w' M') (hd : res.deps = []) (hdc : res.cdeps = []) (hr : res.den w' M' r) :
    Wf w' (lP w M) ∧ Le (· ∈ ([] : List Nat)) (· ∈ ([] : List Nat)) w M w' (lP w M) ∧ res.den w' (lP w M) r := by
  have hold : ∀ b, b < w.heap.size → w'.heap[b]? = w.heap[b]? := fun b hb => by
    cases hm : M b with
    | none => exact (le.oM b hb (BJ hm)).2
    | some t => exact (le.own b 0 (HC hm) (by omega)).2 (by omega)
  refine ⟨⟨fun b t h => ?_, fun b b' t ht1 h h' => ?_⟩, ⟨le.size, le.os, le.tape, le.out, fun b hb hm => ⟨?_, hold b hb⟩, fun b t hm _ => ⟨?_, fun _ => hold b (wf.lt b t hm)⟩⟩, ?_⟩
  · unfold lP at h
    split at h
    · exact Nat.lt_of_lt_of_le ‹_› le.size
    · cases h
  · unfold lP at h h'
    split at h <;> split at h' <;> first | exact wf.inj b b' t ht1 h h' | cases h | cases h'
  · simp [lP, hm]
  · simp [lP, wf.lt b t hm, hm]
  · refine res.mono (S := fun _ => True) (K := fun _ => True) ⟨Nat.le_refl _, rfl, rfl, rfl, fun b _ hm => ⟨?_, rfl⟩, fun b t _ h => absurd trivial h⟩ (by rw [hd]; intro _ h; cases h) (by rw [hdc]; intro _ h; cases h) hr
    unfold lP
    split
    · rename_i hlt
      cases hmb : M b with
      | none => rfl
      | some t =>
        have := (le.own b 0 (HC hmb) (by omega)).1
        rw [hm] at this; cases this
    · rfl
def mw (A : As) (fr : Fr) (xs : List Operand) : List Ty := xs.map (A.op fr)
theorem gF {a : Act} {w : World} {M : bB} {rs : List Nat} (h : ∀ c ∈ rs, c < fr.n → (A.slots c).den w M (a.tmps.getD c undef)) : ∀ {xs : List Operand}, (∀ x ∈ xs, ∀ c ∈ bw x, c ∈ rs) → cB w M (mw A fr xs) (xs.map a.eval)
  | [], _ => trivial
  | x :: xs, hr => ⟨cE (hr x List.mem_cons_self) h, gF h fun y hy => hr y (List.mem_cons_of_mem _ hy)⟩
theorem eT {w : World} {M : bB} : ∀ {l l' : List Ty} {vs vs' : List Value}, cB w M l vs → cB w M l' vs' → cB w M (l ++ l') (vs ++ vs')
  | [], _, [], _, _, h => h
  | _ :: _, _, _ :: _, _, ⟨h1, h2⟩, h => ⟨h1, eT h2 h⟩
theorem rJ {w : World} {M : bB} {l : List Ty} {vs : List Value} (hd : cC l = []) (hdc : bX l = []) (h : cB w M l vs) : cB w (JD M) l vs :=
 bQ (S := fun _ => True) (K := fun _ => True) ⟨Nat.le_refl _, rfl, rfl, rfl, fun b _ hm => ⟨BJ hm, rfl⟩, fun b t _ h => absurd trivial h⟩ (by rw [hd]; intro _ h; cases h) (by rw [hdc]; intro _ h; cases h) h
theorem lD {f : FuncId} {args : List Ty} {res : Ty} (hF : dK P f args res) (vs : Array Value) (w : World) : (callFunc f vs).run P w = .ok (.enter f vs) w := by
 obtain ⟨⟨fn, hf, hn, hb⟩, _⟩ := hF
 have hn' : fn.name ≠ "runtime.NumGoroutine" := by simpa using hn
 have hb' : fn.body ≠ none := fun h => by rw [h] at hb; cases hb
 simp [callFunc, hf, hn', hb']
theorem GO {f : FuncId} {args : List Ty} {res : Ty} (hF : dK P f args res) {xs : Array Operand} {ats : Array TypeId} (hx : mw A fr xs.toList = args) (hd : cC args = []) (hdc : bX args = []) (hr : res.deps = []) (hrc : res.cdeps = []) :
 wu P fr ops ⟨some d, .call ⟨.value (.func f), xs, ats⟩, t, p, e, none⟩ A { d := some d, ty := res, rs := xs.toList.flatMap bw } := by
 refine ⟨rfl, (by simp), (by simp), (by simp), fun a w M wf _ hrd _ => ?_⟩
 rw [if_pos (by simp [Region.wanted])]
 have hv : cB w M args (xs.toList.map a.eval) := hx ▸ gF hrd fun x hx c hc => List.mem_flatMap.2 ⟨x, hx, hc⟩
 have hc := hF.2 w _ _ (Gs wf) AQ (rJ hd hdc hv)
 have hrun : (execOp a.eval ⟨some d, .call ⟨.value (.func f), xs, ats⟩, t, p, e, none⟩).run P w = .ok (.enter f (xs.map a.eval)) w := by
  simp [execOp, resolve, Act.eval, Deferred.ofValue, invoke, lD hF]
 refine kH hrun ?_
 have hvs : (xs.toList.map a.eval).toArray = xs.map a.eval := by rw [← Array.toList_map]
 rw [← hvs]
 refine hc.mono fun en w' ⟨r, M', he, _, le, hden⟩ => ?_
 obtain ⟨h1, h2, h3⟩ := yG wf le hr hrc hden
 exact ⟨r, he, r, rfl, _, h1, h2, h3, by simp⟩
theorem aZ {f : FuncId} {args : List Ty} {res : Ty} (hF : dK P f args res) {xs : List Operand} {ats : Array TypeId} (hx : mw A fr xs = args) (hd : cC args = []) (hdc : bX args = []) (hr : res.deps = []) (hrc : res.cdeps = [])
 (h : av P fr ops rest (A.set d res) fun A' l => K A' ((A, { d := some d, ty := res, rs := xs.flatMap bw }) :: l)) : av P fr ops (⟨some d, .call ⟨.value (.func f), xs.toArray, ats⟩, t, p, e, none⟩ :: rest) A K :=
 ⟨_, GO hF hx hd hdc hr hrc, h⟩
end
end Go.T
namespace Go.T
open Go Go.RowKit
section
variable {P : Program} {fr : Fr} {ops : Array Oper} {A : As} {rest : List Oper} {K : As → List (As × Fx) → Prop} {d : Nat} {t ty' ty2 : TypeId} {p : String} {e : Array Edge}
theorem bC {op : BinOp} {x y : Operand} {k : IntKind} {a b : Int} {ty : Ty} (hx : A.op fr x = .int k a) (hy : A.op fr y = .int k b) (hr : Lj op k a b = some ty)
 (h : av P fr ops rest (A.set d ty) fun A' l' => K A' ((A, { d := some d, ty := ty, rs := bw x ++ bw y }) :: l')) : av P fr ops (⟨some d, .binOp op ty' x y ty2, t, p, e, none⟩ :: rest) A K :=
 bE (bL rfl rfl fun a w M _ hrd _ => by
  obtain ⟨hdx, hdy⟩ := op2 hrd
  rw [hx] at hdx; rw [hy] at hdy
  have ex : a.eval x = .int k _ := hdx
  have ey : a.eval y = .int k _ := hdy
  obtain ⟨v, hv', hd⟩ := GK (P := P) hr x y ty' w M
  refine ⟨v, ?_, hd⟩
  simp only [Sem.run_bind] at hv'
  simp only [execOp, ex, ey, Sem.run_bind, hv']
  rfl) h
theorem b8 {x y : Operand} {a b : Int} (hx : A.op fr x = .int .i64 a) (hy : A.op fr y = .int .i64 b) (h1 : -9223372036854775808 ≤ a + b) (h2 : a + b ≤ 9223372036854775807)
 (h : av P fr ops rest (A.set d (.int .i64 (a + b))) fun A' l' => K A' ((A, { d := some d, ty := .int .i64 (a + b), rs := bw x ++ bw y }) :: l')) : av P fr ops (⟨some d, .binOp .add ty' x y ty2, t, p, e, none⟩ :: rest) A K := by
 refine bC (op := .add) hx hy (ty := .int .i64 (a + b)) ?_ h
 show some _ = some _
 rw [IntWalk.i64_in (a + b) (by omega)]
theorem iA {x y : Operand} {a b : Int} (hx : A.op fr x = .int .i64 a) (hy : A.op fr y = .int .i64 b) (h1 : -9223372036854775808 ≤ a - b) (h2 : a - b ≤ 9223372036854775807)
 (h : av P fr ops rest (A.set d (.int .i64 (a - b))) fun A' l' => K A' ((A, { d := some d, ty := .int .i64 (a - b), rs := bw x ++ bw y }) :: l')) : av P fr ops (⟨some d, .binOp .sub ty' x y ty2, t, p, e, none⟩ :: rest) A K := by
 refine bC (op := .sub) hx hy (ty := .int .i64 (a - b)) ?_ h
 show some _ = some _
 rw [IntWalk.i64_in (a - b) (by omega)]
theorem AN {x y : Operand} {a b : Int} (hx : A.op fr x = .int .i64 a) (hy : A.op fr y = .int .i64 b) (h1 : -9223372036854775808 ≤ a * b) (h2 : a * b ≤ 9223372036854775807)
 (h : av P fr ops rest (A.set d (.int .i64 (a * b))) fun A' l' => K A' ((A, { d := some d, ty := .int .i64 (a * b), rs := bw x ++ bw y }) :: l')) : av P fr ops (⟨some d, .binOp .mul ty' x y ty2, t, p, e, none⟩ :: rest) A K := by
 refine bC (op := .mul) hx hy (ty := .int .i64 (a * b)) ?_ h
 show some _ = some _
 rw [IntWalk.i64_in (a * b) ⟨h1, h2⟩]
theorem dX {x : Operand} {b : Bool} (hx : A.op fr x = .bool b)
 (h : av P fr ops rest (A.set d (.bool (!b))) fun A' l' => K A' ((A, { d := some d, ty := .bool (!b), rs := bw x }) :: l')) : av P fr ops (⟨some d, .unOp .not ty' x, t, p, e, none⟩ :: rest) A K :=
 bE (bL rfl rfl fun a w M _ hrd _ => by
  have hdx := cE (x := x) (fun _ h => h) hrd
  rw [hx] at hdx
  have ex : a.eval x = .bool b := hdx
  exact ⟨.bool (!b), by simp [execOp, ex, Op.unary], rfl⟩) h
theorem Np {x : Operand} {k : IntKind} {b : Int} (hx : A.op fr x = .int k b)
 (h : av P fr ops rest (A.set d (.int k (k.wrap (0 - b)))) fun A' l' => K A' ((A, { d := some d, ty := .int k (k.wrap (0 - b)), rs := bw x }) :: l')) : av P fr ops (⟨some d, .unOp .neg ty' x, t, p, e, none⟩ :: rest) A K :=
 bE (bL rfl rfl fun a w M _ hrd _ => by
  have hdx := cE (x := x) (fun _ h => h) hrd
  rw [hx] at hdx
  have ex : a.eval x = .int k b := hdx
  exact ⟨.int k (k.wrap (0 - b)), by simp [execOp, ex, Op.unary, Op.intArith], rfl⟩) h
theorem bP {x : Operand} {l : List Ty} {i : Nat} {ty : Ty} (hx : A.op fr x = .kD l) (hl : l[i]? = some ty)
 (h : av P fr ops rest (A.set d ty) fun A' l' => K A' ((A, { d := some d, ty := ty, rs := bw x }) :: l')) : av P fr ops (⟨some d, .extract x i, t, p, e, none⟩ :: rest) A K :=
 bE (bL rfl rfl fun a w M _ hrd _ => by
  have hdx := cE (x := x) (fun _ h => h) hrd
  rw [hx] at hdx
  obtain ⟨cs, ex, hd⟩ := hdx
  obtain ⟨v, hv, hdv⟩ := dG hd i ty hl
  exact ⟨v, by simp [execOp, ex, Instr.extract, show cs[i]? = some v by simpa using hv], hdv⟩) h
theorem bh {x : Operand} {l : List Ty} (hx : A.op fr x = .pp l)
 (h : av P fr ops rest (A.set d (.pp l)) fun A' l' => K A' ((A, { d := some d, ty := .pp l, rs := bw x }) :: l')) : av P fr ops (⟨some d, .nilCheck x, t, p, e, none⟩ :: rest) A K :=
 bE (bL rfl rfl fun a w M _ hrd _ => by
  have hdx := cE (x := x) (fun _ h => h) hrd
  rw [hx] at hdx
  have hdx' := hdx
  obtain ⟨b, off, ex, hp⟩ := hdx
  exact ⟨a.eval x, by simp [execOp, ex], hdx'⟩) h
theorem fG {x : Operand} {tg off : Nat} (hx : A.op fr x = .ptr tg off)
 (h : av P fr ops rest (A.set d (.ptr tg off)) fun A' l' => K A' ((A, { d := some d, ty := .ptr tg off, rs := bw x }) :: l')) : av P fr ops (⟨some d, .nilCheck x, t, p, e, none⟩ :: rest) A K :=
 bE (bL rfl rfl fun a w M _ hrd _ => by
  have hdx := cE (x := x) (fun _ h => h) hrd
  rw [hx] at hdx
  have hdx' := hdx
  obtain ⟨b, hb, ex⟩ := hdx
  exact ⟨a.eval x, by simp [execOp, ex], hdx'⟩) h
variable [T : kf P]
theorem b9 {α : Type} {x : Operand} {E : El α} {xs : List α} {ti : TI} {el : Nat} (hx : A.op fr x = .sl E xs) (hT : T.eE[ty']? = some ti) (hk : ti.k = .slice el)
 (h : av P fr ops rest (A.set d (.int .i64 xs.length)) fun A' l' => K A' ((A, { d := some d, ty := .int .i64 xs.length, rs := bw x }) :: l')) :
 av P fr ops (⟨some d, .call ⟨.builtin .len, #[x], #[ty']⟩, t, p, e, none⟩ :: rest) A K :=
 bE (bL rfl rfl fun a w M _ hrd _ => by
  have hdx := cE (x := x) (fun _ h => h) hrd
  rw [hx] at hdx
  obtain ⟨ad, c, ex, _⟩ := hdx
  obtain ⟨_, D, _, hD, hkd, _⟩ := ct hT
  rw [hk] at hkd
  cases D <;> simp only [TK.of, reduceCtorEq, TK.slice.injEq] at hkd
  exact ⟨.int .i64 xs.length, by simp [execOp, resolve, invoke, builtin, ex, Builtin.len_, run_underlying hD, goInt], rfl⟩) h
end
end Go.T
namespace Go.T
open Go Go.RowKit
def lk : List (Nat × Ty) → Nat → Ty
  | [], _ => Ty.any
  | (d, t) :: l, c => bif Nat.beq c d then t else lk l c
def live (l : List (Nat × Ty)) (tg : List (Nat × Cont) := []) : As := ⟨lk l, tg⟩
theorem aC {A B : As} {k : Nat} (h' : qj A B k) (h : (A.slots k).Sub (B.slots k)) : qj A B (k + 1) := ⟨h, h'⟩
theorem cv.mk' {fr : Fr} {A B : As} (h : qj A B fr.n) (h' : allTags A B.tags) : cv fr A B := ⟨h, h'⟩
theorem Ty.bU {k : IntKind} {a b : Int} (h : a = b) : (Ty.int k a).Sub (Ty.int k b) := h ▸ Ty.aF _
theorem Ty.dM {a b : Bool} (h : a = b) : (Ty.bool a).Sub (Ty.bool b) := h ▸ Ty.aF _
theorem Ty.qt {α : Type} {E : El α} {a b : List α} (h : a = b) : (Ty.sl E a).Sub (Ty.sl E b) := h ▸ Ty.aF _
theorem az {P : Program} {fr : Fr} {A : As} {Q : Exit → Act → World → Prop} {x y : Code} {c : Operand} {q : Prop} [inst : Decidable q] (hc : A.op fr c = .bool (decide q)) (h1 : q → fU P fr x A Q) (h2 : ¬ q → fU P fr y A Q) : fU P fr (.cond c x y) A Q :=
 bt hc (fun h => h1 (of_decide_eq_true h)) (fun h => h2 (of_decide_eq_false h))
theorem bz {P : Program} {fr : Fr} {A : As} {Q : Exit → Act → World → Prop} {x y : Code} {c : Operand} {q : Prop} [inst : Decidable q] (hc : A.op fr c = .bool (!decide q)) (h1 : ¬ q → fU P fr x A Q) (h2 : q → fU P fr y A Q) : fU P fr (.cond c x y) A Q :=
 bt hc (fun h => h1 (of_decide_eq_false (by simpa using h))) (fun h => h2 (of_decide_eq_true (by simpa using h)))
section
variable {P : Program} {fr : Fr} {ops : Array Oper} {A : As} {rest : List Oper} {K : As → List (As × Fx) → Prop} {d : Nat} {t ty' : TypeId} {p : String} {e : Array Edge} [T : kf P]
theorem ak {α : Type} [Inhabited α] {x y : Operand} {E : El α} {xs : List α} {k : IntKind} {i : Nat} {ti te : TI} {el : Nat} (hx : A.op fr x = .sl E xs) (hy : A.op fr y = .int k i) (hT : T.eE[ty']? = some ti) (hk : ti.k = .slice el) (hE : T.eE[el]? = some te) (hs : te.size = E.size)
 (h1 : i < xs.length)
 (h : av P fr ops rest (A.set d (.pp (E.tys (nth xs i)))) fun A' l' => K A' ((A, { d := some d, ty := .pp (E.tys (nth xs i)), rs := bw x ++ bw y }) :: l')) : av P fr ops (⟨some d, .indexAddr ty' x y, t, p, e, none⟩ :: rest) A K :=
 jm hx hy hT hk hE hs (Int.natCast_nonneg _) h1 h
end
end Go.T
namespace Go.T
open Go Go.RowKit
theorem gC {P : Program} {fr : Fr} {ops : Array Oper} {o : Oper} {A : As} {f : Fx} (hg : o.guard = none) (hd : f.d = o.dst) (hsets : ∀ x ∈ f.sets, x.1 ∈ f.S ∨ x.1 ∈ f.K) (hS : ∀ t ∈ f.S, 1 ≤ t) (hK : ∀ t ∈ f.K, 1 ≤ t ∧ t ∉ fr.pass)
 (h : ∀ (a : Act) w M, Wf w M → (∀ c ∈ f.rs, c < fr.n → (A.slots c).den w M (a.tmps.getD c undef)) → (∀ x ∈ A.tags, x.1 ∈ f.rt → x.2.den w M x.1) → ∃ v w', (execOp a.eval o).run P w = .ok (.value v) w' ∧ f.left w M w' v) : wu P fr ops o A f := by
 refine ⟨hd, hsets, hS, hK, fun a w M wf _ hr ht => ?_⟩
 rw [if_pos (by simp [Region.wanted, hg])]
 obtain ⟨v, w', hv, hl⟩ := h a w M wf hr ht
 refine oY hv ?_
 exact ⟨v, rfl, hl⟩
theorem jU {P : Program} {fr : Fr} {ops : Array Oper} {o : Oper} {A : As} {f : Fx} (hg : o.guard = none) (hd : f.d = o.dst) (hty : f.ty = Ty.any) (hsets : ∀ x ∈ f.sets, x.1 ∈ f.S ∨ x.1 ∈ f.K) (hS : ∀ t ∈ f.S, 1 ≤ t) (hK : ∀ t ∈ f.K, 1 ≤ t ∧ t ∉ fr.pass)
 (h : ∀ (a : Act) w M, Wf w M → (∀ c ∈ f.rs, c < fr.n → (A.slots c).den w M (a.tmps.getD c undef)) → (∀ x ∈ A.tags, x.1 ∈ f.rt → x.2.den w M x.1) → ∃ w', (execOp a.eval o).run P w = .ok .skip w' ∧ f.left w M w' undef) : wu P fr ops o A f := by
 refine ⟨hd, hsets, hS, hK, fun a w M wf _ hr ht => ?_⟩
 rw [if_pos (by simp [Region.wanted, hg])]
 obtain ⟨w', hv, hl⟩ := h a w M wf hr ht
 refine vV hv ?_
 exact ⟨undef, rfl, hl⟩
def mh (M : bB) (t : Nat) (g : Option Nat) : bB := fun b => if g = some b then some t else if M b = some t then none else M b
theorem AW {w w' : World} {M : bB} {t : Nat} {g : Option Nat} (wf : Wf w M) (hs : w.heap.size ≤ w'.heap.size) (hg : ∀ b, g = some b → b < w'.heap.size) : Wf w' (mh M t g) := by
 refine ⟨fun b u h => ?_, fun b b' u ht1 h h' => ?_⟩
 ·unfold mh at h
  split at h
  ·exact hg b (by assumption)
  split at h
  ·cases h
  exact Nat.lt_of_lt_of_le (wf.lt b u h) hs
 have key : ∀ c, mh M t g c = some (u + 1) → (g = some c ∧ t = u + 1) ∨ (M c = some (u + 1) ∧ t ≠ u + 1) := by
  intro c hc
  unfold mh at hc
  by_cases e : g = some c
  ·rw [if_pos e] at hc; injection hc with hc; exact .inl ⟨e, hc⟩
  rw [if_neg e] at hc
  by_cases e' : M c = some t
  ·rw [if_pos e'] at hc; cases hc
  rw [if_neg e'] at hc; exact .inr ⟨hc, fun ht => e' (by rw [ht]; exact hc)⟩
 rcases key b h with ⟨h1, h2⟩ | ⟨h1, h2⟩ <;> rcases key b' h' with ⟨h3, h4⟩ | ⟨h3, h4⟩
 ·rw [h1] at h3; injection h3
 ·exact absurd h2 h4
 ·exact absurd h4 h2
 exact wf.inj b b' u ht1 h1 h3
theorem Ad {w w' : World} {M : bB} {t : Nat} {g : Option Nat} (hsz : w.heap.size ≤ w'.heap.size) (hos : w'.os = w.os) (htp : w'.tape = w.tape) (hout : w'.output = w.output)
 (hg : ∀ b, g = some b → b < w.heap.size → M b = some t) (hk : ∀ b, b < w.heap.size → M b ≠ some t → w'.heap[b]? = w.heap[b]?) (wf : Wf w M) : Le (· ∈ ([] : List Nat)) (· ∈ [t]) w M w' (mh M t g) := by
 refine ⟨hsz, hos, htp, hout, fun b hb hm => ⟨?_, hk b hb (by rw [hm]; simp)⟩, fun b u hm hu => ⟨?_, fun _ => hk b (wf.lt b u hm) (by rw [hm]; intro e; injection e with e; exact hu (by simp [e]))⟩⟩
 ·unfold mh
  split
  ·rename_i e; rw [hg b e hb] at hm; cases hm
  rw [if_neg (by rw [hm]; simp)]; exact hm
 have hne : M b ≠ some t := by rw [hm]; intro e; injection e with e; exact hu (by simp [e])
 unfold mh
 split
 ·rename_i e; exact absurd (hg b e (wf.lt b u hm)) hne
 first | exact hm | (rw [if_neg hne]; exact hm)
theorem kQ {w : World} {M : bB} (wf : Wf w M) (o : Obj) (t : Nat) : Wf (w.alloc o) (mh M t (some w.heap.size)) ∧ Le (· ∈ ([] : List Nat)) (· ∈ [t]) w M (w.alloc o) (mh M t (some w.heap.size)) ∧ mh M t (some w.heap.size) w.heap.size = some t :=
 ⟨AW wf (by simp) (fun b e => by injection e with e; simp [← e]), Ad (by simp) rfl rfl rfl (fun b e hb => by injection e with e; omega) (fun b hb _ => Below.heap_alloc w o b hb) wf, by simp [mh]⟩
theorem tP {w : World} {M : bB} (wf : Wf w M) (o : Obj) : Wf (w.alloc o) M ∧ Le (· ∈ ([] : List Nat)) (· ∈ ([] : List Nat)) w M (w.alloc o) M ∧ M w.heap.size = none :=
  ⟨⟨fun b t h => by have := wf.lt b t h; simp; omega, wf.inj⟩, ⟨by simp, rfl, rfl, rfl, fun b hb h => ⟨h, Below.heap_alloc w o b hb⟩, fun b t h _ => ⟨h, fun _ => Below.heap_alloc w o b (wf.lt b t h)⟩⟩, by
    cases h : M w.heap.size with
    | none => rfl
    | some t => have := wf.lt _ t h; omega⟩
theorem gO (w : World) (o : Obj) : (w.alloc o).heap[w.heap.size]? = some o := by
 show (w.heap.push o)[w.heap.size]? = some o
 simp
theorem rU {w : World} {M : bB} (wf : Wf w M) {cs : List Value} {T : TypeId} {l : List Ty} (h : cB w M l cs) : mK (w.alloc (.cells cs.toArray T)) M w.heap.size 0 l := by
 obtain ⟨wf', le, hn⟩ := tP wf (.cells cs.toArray T)
 refine ⟨hn, by simp, fun i t hi => ?_⟩
 obtain ⟨v, hv, hd⟩ := dG h i t hi
 exact ⟨v, by simp [hv], t.mono le (by intro _ _ h; cases h) (by intro _ _ h; cases h) hd⟩
theorem mD (w : World) (M : bB) : ∀ l : List Value, cB w M (l.map Ty.ko) l
  | [] => trivial
  | v :: l => ⟨nM w M v, mD w M l⟩
section
variable {P : Program} {fr : Fr} {ops : Array Oper} {A : As} {rest : List Oper} {K : As → List (As × Fx) → Prop} {d : Nat} {t ty' : TypeId} {p : String} {e : Array Edge} [T : kf P]
theorem o7 {t : Nat} {x : TI} (h : T.eE[t]? = some x) (hz : x.zero ≠ []) (w : World) : ∃ z : Value, (zeroValue t).run P w = .ok z w ∧ z.cells.toList = x.zero := by
  obtain ⟨i, _, hi, _, _, _, _, hze⟩ := ct h
  cases hiz : i.zero with
  | none => rw [hiz] at hze; exact absurd hze.symm hz
  | some z => rw [hiz] at hze; exact ⟨z, by simp [zeroValue, typeInfo, hi, hiz], hze⟩
theorem bu {ti : TI} (hT : T.eE[ty']? = some ti) (hz : ti.zero ≠ []) (hp : fr.pass.contains (d + 1) = false)
 (h : av P fr ops rest (A.after { d := some d, ty := .ptr (d + 1) 0, K := [d + 1], sets := [(d + 1, .cells ty' (ti.zero.map Ty.ko))] }) fun A' l' => K A' ((A, { d := some d, ty := .ptr (d + 1) 0, K := [d + 1], sets := [(d + 1, .cells ty' (ti.zero.map Ty.ko))] }) :: l')) :
 av P fr ops (⟨some d, .alloc ty', t, p, e, none⟩ :: rest) A K := by
 refine ⟨_, gC rfl rfl (by simp) (by simp) (by simp at hp ⊢; exact hp) fun a w M wf _ _ => ?_, h⟩
 obtain ⟨z, hz1, hz2⟩ := o7 hT hz w
 obtain ⟨h1, h2, h3⟩ := kQ wf (.cells z.cells ty') (d + 1)
 refine ⟨.pointer (some ⟨w.heap.size, 0, none⟩), w.alloc (.cells z.cells ty'), ?_, _, h1, h2, ⟨_, h3, rfl⟩, ?_⟩
 ·simp [execOp, Instr.alloc, newVar, newRow, newObj, Sem.run, hz1]
 intro x hx
 simp only [List.mem_singleton] at hx
 subst hx
 exact ⟨w.heap.size, z.cells, h3, gO _ _, by rw [hz2]; exact mD _ _ _⟩
theorem iF {w : World} {M : bB} {tg b : Nat} {cs' : Array Value} {Tb : TypeId} (wf : Wf w M) (hb : M b = some tg) (w' : World) (hw : w' = { w with heap := w.heap.setIfInBounds b (.cells cs' Tb (0, 0)) }) :
 Wf w' M ∧ Le (· ∈ [tg]) (· ∈ ([] : List Nat)) w M w' M ∧ w'.heap[b]? = some (.cells cs' Tb (0, 0)) := by
 have hlt := wf.lt b tg hb
 subst hw
 refine ⟨⟨fun b' t h => by simpa using wf.lt b' t h, wf.inj⟩, ⟨by simp, rfl, rfl, rfl, fun b' hb' hm => ⟨hm, ?_⟩, fun b' t hm _ => ⟨hm, fun hs => ?_⟩⟩, by simp [hlt]⟩
 ·have : b ≠ b' := fun e => by rw [← e, hb] at hm; cases hm
  simp [Array.getElem?_setIfInBounds_ne this]
 have : b ≠ b' := fun e => hs (by rw [← e, hb] at hm; injection hm with hm; simp [hm])
 simp [Array.getElem?_setIfInBounds_ne this]
theorem gJ {w : World} {b off : Nat} {cs : Array Value} {Tb : TypeId} (h : w.heap[b]? = some (.cells cs Tb (0, 0))) (v : Value) : w.setCell ⟨b, off, none⟩ v = { w with heap := w.heap.setIfInBounds b (.cells (cs.setIfInBounds off v) Tb (0, 0)) } := by
 unfold World.setCell
 congr 1
 apply Array.ext_getElem?
 intro i
 rw [Array.getElem?_modify]
 by_cases e : b = i
 ·subst e
  obtain ⟨hlt, hv⟩ := Array.getElem?_eq_some_iff.1 h
  simp [hv, hlt]
 simp [e, Array.getElem?_setIfInBounds_ne e]
theorem lR {w : World} {M : bB} {l : List Ty} {vs : List Value} {i : Nat} {ty : Ty} {v : Value} (h : cB w M l vs) (hv : ty.den w M v) : cB w M (l.set i ty) (vs.set i v) := by
 have hl := cL h
 refine gB (by simp [hl]) fun j t hj => ?_
 rw [List.getElem?_set] at hj
 split at hj
 ·rename_i e
  subst e
  split at hj
  ·injection hj with hj
   subst hj
   exact ⟨v, by rw [List.getElem?_set]; simp; omega, hv⟩
  cases hj
 rename_i e
 obtain ⟨u, hu, hd⟩ := dG h j t hj
 exact ⟨u, by rw [List.getElem?_set]; simp [e, hu], hd⟩
theorem dF {x y : Operand} {tg off Tb : Nat} {l : List Ty} {ti : TI} {ty : Ty} (hx : A.op fr x = .ptr tg off) (hc : A.tag tg = some (.cells Tb l)) (h1 : fN tg) (hT : T.eE[ty']? = some ti) (hsz : ti.size = 1) (hy : A.op fr y = ty) (ho : ty.one = true) (hoff : off < l.length)
 (hdl : lS (bX l) [tg] = true) (hdt : lS ty.cdeps [tg] = true) {l' : List Ty} (hl : l.set off ty = l')
 (h : av P fr ops rest (A.after { d := none, S := [tg], sets := [(tg, .cells Tb l')], rs := bw x ++ bw y, rt := [tg] }) fun A' l'' => K A' ((A, { d := none, S := [tg], sets := [(tg, .cells Tb l')], rs := bw x ++ bw y, rt := [tg] }) :: l'')) :
 av P fr ops (⟨none, .store ty' x y, t, p, e, none⟩ :: rest) A K := by
 subst hl
 refine ⟨_, jU rfl rfl rfl (by simp) (by simpa using h1.1) (by simp) fun a w M wf hr ht => ?_, h⟩
 obtain ⟨hdx, hdy⟩ := op2 hr
 rw [hx] at hdx; rw [hy] at hdy
 obtain ⟨b, hb, ex⟩ := hdx
 obtain ⟨b', cs, hb', hh, hd⟩ := ht _ (cW hc) (by simp)
 obtain ⟨u, rfl⟩ : ∃ u, tg = u + 1 := ⟨tg - 1, by omega⟩
 have := wf.inj b b' u (by omega) hb hb'
 subst this
 have hone := ty.isOne ho hdy
 have hlen := cL hd
 have hcells : (a.eval y).cells = #[a.eval y] := by
  cases hv : a.eval y <;> first | rfl | (rw [hv] at hone; simp [Value.oneCell'] at hone)
 have hcell : w.cell? ⟨b, off, none⟩ = some (cs[off]'(by simp at hlen; omega)) := by simp [World.cell?, hh]
 have hfz : w.frozen? ⟨b, off, none⟩ = false := by simp [World.frozen?, hh]
 obtain ⟨h1', h2', h3'⟩ := iF wf hb _ (gJ hh (off := off) (a.eval y))
 refine ⟨w.setCell ⟨b, off, none⟩ (a.eval y), ?_, M, h1', h2', trivial, ?_⟩
 ·have hst := run_store P w ⟨b, off, none⟩ (a.eval y) .plain hone
  rw [hcell] at hst
  simp only [hfz] at hst
  simp [execOp, Instr.storeAt, Instr.sureAddr, ex, storeVar, hcells, dH hT, hsz, storeCells, hst, Addr.add]
 intro z hz
 simp only [List.mem_singleton] at hz
 subst hz
 refine ⟨b, _, hb, h3', ?_⟩
 rw [Array.toList_setIfInBounds]
 refine lR (bQ h2' (by intro _ _ h; cases h) (gN hdl) hd) (ty.mono h2' (by intro _ _ h; cases h) (gN hdt) hdy)
theorem jC {w : World} {b : Nat} {Tb : TypeId} : ∀ (vs pre : List Value) (cs : Array Value), w.heap[b]? = some (.cells cs Tb (0, 0)) → cs.size = pre.length + vs.length → cs.toList.take pre.length = pre → (∀ v ∈ vs, v.oneCell' = true) →
    (storeCells ⟨b, 0, none⟩ vs pre.length).run P w = .ok () { w with heap := w.heap.setIfInBounds b (.cells (pre ++ vs).toArray Tb (0, 0)) }
  | [], pre, cs, hh, hs, hp, _ => by
    have _ := T
    have e : (pre ++ []).toArray = cs := by
      apply Array.ext'
      simp only [List.append_nil]
      rw [← hp, List.take_of_length_le]
      simp at hs ⊢; omega
    rw [e]
    have hw : ({ w with heap := w.heap.setIfInBounds b (.cells cs Tb (0, 0)) } : World) = w := by
      obtain ⟨hlt, hv⟩ := Array.getElem?_eq_some_iff.1 hh
      have : w.heap.setIfInBounds b (.cells cs Tb (0, 0)) = w.heap := by
        apply Array.ext_getElem?
        intro i
        by_cases e : b = i
        · subst e; simp [hlt, hv]
        · simp [Array.getElem?_setIfInBounds_ne e]
      rw [this]
    rw [hw]
    simp [storeCells]
  | v :: vs, pre, cs, hh, hs, hp, h1 => by
    have hlt : pre.length < cs.size := by rw [hs]; simp
    have hb : b < w.heap.size := (Array.getElem?_eq_some_iff.1 hh).1
    have hcell : w.cell? ⟨b, 0 + pre.length, none⟩ = some cs[pre.length] := by simp [World.cell?, hh]
    have hfz : w.frozen? ⟨b, 0 + pre.length, none⟩ = false := by simp [World.frozen?, hh]
    have hst := run_store P w ⟨b, 0 + pre.length, none⟩ v .plain (h1 v List.mem_cons_self)
    rw [hcell] at hst
    simp only [hfz] at hst
    have hadd : Addr.add ⟨b, 0, none⟩ pre.length = ⟨b, 0 + pre.length, none⟩ := Addr.add_lit _ _ _
    simp only [storeCells, hadd, Sem.run_bind, hst, if_false, Bool.false_eq_true, Result.andThen_ok]
    rw [gJ hh]
    have ih := jC (w := { w with heap := w.heap.setIfInBounds b (.cells (cs.setIfInBounds (0 + pre.length) v) Tb (0, 0)) }) (b := b) (Tb := Tb) vs (pre ++ [v]) (cs.setIfInBounds (0 + pre.length) v)
      (by simp [hb]) (by simp at hs ⊢; omega) (by
        rw [Array.toList_setIfInBounds, List.length_append, List.length_singleton, Nat.zero_add]
        rw [List.take_succ_eq_append_getElem (by simpa using hlt)]
        simp [List.take_set_of_le, hp]) (fun u hu => h1 u (List.mem_cons_of_mem _ hu))
    rw [List.length_append, List.length_singleton] at ih
    rw [ih]
    simp
theorem bq {x y : Operand} {tg Tb : Nat} {l l' : List Ty} {ti : TI} (hx : A.op fr x = .ptr tg 0) (hc : A.tag tg = some (.cells Tb l)) (h1 : fN tg) (hT : T.eE[ty']? = some ti) (hy : A.op fr y = .agg l') (hsz : ti.size = l'.length) (hlen : l.length = l'.length) (ho : l'.all Ty.one = true) (hdt : lS (bX l') [tg] = true)
 (h : av P fr ops rest (A.after { d := none, S := [tg], sets := [(tg, .cells Tb l')], rs := bw x ++ bw y, rt := [tg] }) fun A' l'' => K A' ((A, { d := none, S := [tg], sets := [(tg, .cells Tb l')], rs := bw x ++ bw y, rt := [tg] }) :: l'')) :
 av P fr ops (⟨none, .store ty' x y, t, p, e, none⟩ :: rest) A K := by
 refine ⟨_, jU rfl rfl rfl (by simp) (by simpa using h1.1) (by simp) fun a w M wf hr ht => ?_, h⟩
 obtain ⟨hdx, hdy⟩ := op2 hr
 rw [hx] at hdx; rw [hy] at hdy
 obtain ⟨b, hb, ex⟩ := hdx
 obtain ⟨vs, ey, hvs⟩ := hdy
 obtain ⟨b', cs, hb', hh, hd⟩ := ht _ (cW hc) (by simp)
 obtain ⟨u, rfl⟩ : ∃ u, tg = u + 1 := ⟨tg - 1, by omega⟩
 have := wf.inj b b' u (by omega) hb hb'
 subst this
 have hl1 := cL hd
 have hl2 := cL hvs
 obtain ⟨h1', h2', h3'⟩ := iF (cs' := vs) (Tb := Tb) wf hb _ rfl
 have hones : ∀ v ∈ vs.toList, v.oneCell' = true := fun v hv => by
  obtain ⟨i, hi, hvi⟩ := List.getElem_of_mem hv
  have hlt : i < l'.length := by omega
  obtain ⟨u', hu', hdu⟩ := dG hvs i l'[i] (List.getElem?_eq_getElem hlt)
  rw [List.getElem?_eq_getElem hi, hvi] at hu'
  injection hu' with hu'
  subst hu'
  exact (l'[i]).isOne (List.all_eq_true.1 ho _ (List.getElem_mem hlt)) hdu
 refine ⟨_, ?_, M, h1', h2', trivial, ?_⟩
 ·have hst := jC (P := P) (w := w) (b := b) (Tb := Tb) vs.toList [] cs hh (by simp at hl1 hl2 ⊢; omega) (by simp) hones
  have hsz' : vs.size = ti.size := by simp at hl2; omega
  simp only [List.length_nil, List.nil_append] at hst
  simp [execOp, Instr.storeAt, Instr.sureAddr, ex, ey, storeVar, Value.cells, dH hT, hsz', hst]
 intro z hz
 simp only [List.mem_singleton] at hz
 subst hz
 exact ⟨b, vs, hb, h3', bQ h2' (by intro _ _ h; cases h) (gN hdt) hvs⟩
end
section
variable {P : Program} {fr : Fr} {ops : Array Oper} {A : As} {rest : List Oper} {K : As → List (As × Fx) → Prop} {d : Nat} {t ty' : TypeId} {p : String} {e : Array Edge}
theorem bD {x : Operand} {l : List Ty} (hx : A.op fr x = .agg l)
 (h : av P fr ops rest (A.set d (.pp l)) fun A' l' => K A' ((A, { d := some d, ty := .pp l, rs := bw x }) :: l')) : av P fr ops (⟨some d, .box ty' x, t, p, e, none⟩ :: rest) A K := by
 refine ⟨_, gC (f := { d := some d, ty := .pp l, rs := bw x }) rfl rfl (by simp) (by simp) (by simp) fun a w M wf hr _ => ?_, h⟩
 have hd := cE (x := x) (fun _ h => h) hr
 rw [hx] at hd
 obtain ⟨cs, ex, hds⟩ := hd
 obtain ⟨h1, h2, _⟩ := tP wf (.cells cs ty')
 refine ⟨.pointer (some ⟨w.heap.size, 0, none⟩), w.alloc (.cells cs ty'), ?_, M, h1, h2, ⟨_, 0, rfl, ?_⟩, by simp⟩
 ·simp [execOp, Instr.box, newVar, newRow, newObj, Sem.run, ex, Value.cells]
 exact rU (T := ty') wf hds
theorem gA {x : Operand} {ty : Ty} (hx : A.op fr x = ty) (h1 : ty.one = true)
 (h : av P fr ops rest (A.set d (.pp [ty])) fun A' l' => K A' ((A, { d := some d, ty := .pp [ty], rs := bw x }) :: l')) : av P fr ops (⟨some d, .box ty' x, t, p, e, none⟩ :: rest) A K := by
 refine ⟨_, gC (f := { d := some d, ty := .pp [ty], rs := bw x }) rfl rfl (by simp) (by simp) (by simp) fun a w M wf hr _ => ?_, h⟩
 have hd := cE (x := x) (fun _ h => h) hr
 rw [hx] at hd
 have hone := ty.isOne h1 hd
 have hcells : (a.eval x).cells = #[a.eval x] := by
  cases hv : a.eval x <;> first | rfl | (rw [hv] at hone; simp [Value.oneCell'] at hone)
 obtain ⟨h1, h2, _⟩ := tP wf (.cells #[a.eval x] ty')
 refine ⟨.pointer (some ⟨w.heap.size, 0, none⟩), w.alloc (.cells #[a.eval x] ty'), ?_, M, h1, h2, ⟨_, 0, rfl, ?_⟩, by simp⟩
 ·simp [execOp, Instr.box, newVar, newRow, newObj, Sem.run, hcells]
 exact rU (T := ty') (cs := [a.eval x]) wf ⟨hd, trivial⟩
theorem yJ {x : Operand} {l : List Ty} (hx : A.op fr x = .agg l) (hp : fr.pass.contains (d + 1) = false) (hdp : lS (cC l) [d + 1] = true) 
 (h : av P fr ops rest (A.after { d := some d, ty := .ptr (d + 1) 0, K := [d + 1], sets := [(d + 1, .cells ty' l)], rs := bw x }) fun A' l' => K A' ((A, { d := some d, ty := .ptr (d + 1) 0, K := [d + 1], sets := [(d + 1, .cells ty' l)], rs := bw x }) :: l')) :
 av P fr ops (⟨some d, .box ty' x, t, p, e, none⟩ :: rest) A K := by
 refine ⟨_, gC rfl rfl (by simp) (by simp) (by simp at hp ⊢; exact hp) fun a w M wf hr _ => ?_, h⟩
 have hd := cE (x := x) (fun _ h => h) hr
 rw [hx] at hd
 obtain ⟨cs, ex, hds⟩ := hd
 obtain ⟨h1, h2, h3⟩ := kQ wf (.cells cs ty') (d + 1)
 refine ⟨.pointer (some ⟨w.heap.size, 0, none⟩), w.alloc (.cells cs ty'), ?_, _, h1, h2, ⟨_, h3, rfl⟩, ?_⟩
 ·simp [execOp, Instr.box, newVar, newRow, newObj, Sem.run, ex, Value.cells]
 intro x hx
 simp only [List.mem_singleton] at hx
 subst hx
 exact ⟨w.heap.size, cs, h3, gO _ _, bQ h2 (gN hdp) (by intro _ _ h; cases h) hds⟩
theorem cw {f : FuncId} {xs : List Operand} {l : List Ty} (hx : mw A fr xs = l)
 (h : av P fr ops rest (A.set d (.jD f l)) fun A' l' => K A' ((A, { d := some d, ty := .jD f l, rs := xs.flatMap bw }) :: l')) : av P fr ops (⟨some d, .makeFunc (.func f) #[] xs.toArray, t, p, e, none⟩ :: rest) A K :=
 bE (bL rfl rfl fun a w M _ hr _ => by
  have hv : cB w M l (xs.map a.eval) := hx ▸ gF hr fun x hx c hc => List.mem_flatMap.2 ⟨x, hx, hc⟩
  exact ⟨.func (.func f) #[] (xs.map a.eval).toArray, by simp [execOp, Instr.makeFunc], _, rfl, by simpa using hv⟩) h
end
end Go.T
namespace Go.T
open Go Go.RowKit
def gV {α : Type} (E : El α) (T tg : Nat) (xs : List α) (w : World) (M : bB) (v : Value) : Prop :=
  ∃ cs, w.ownsRow 0 T E.size v xs.length cs ∧ cB w M (xs.flatMap E.tys) cs ∧ ∀ g, v.ownBlock = some g → M g = some tg
theorem rP {w w' : World} {T size n : Nat} {v : Value} {cs : List Value} (h : w.ownsRow 0 T size v n cs) (hk : ∀ g, v.ownBlock = some g → w'.heap[g]? = w.heap[g]?) : w'.ownsRow 0 T size v n cs := by
 refine ⟨h.1, ?_⟩
 rcases h.2 with h | ⟨g, cap, cur, hv, h0, hh, rest⟩
 ·exact .inl h
 exact .inr ⟨g, cap, cur, hv, h0, (hk g (by rw [hv]; rfl)).trans hh, rest⟩
def Ty.row {α : Type} (E : El α) (T tg : Nat) (xs : List α) : Ty :=
  ⟨gV E T tg xs, [tg], [tg], fun le hk hs ⟨cs, h1, h2, h3⟩ =>
    ⟨cs, rP h1 fun g hg => (le.own g tg (h3 g hg) (hk tg (by simp))).2 (hs tg (by simp)),
     bQ le (by rw [E.cO]; intro _ h; cases h) (by rw [E.cD]; intro _ h; cases h) h2,
     fun g hg => (le.own g tg (h3 g hg) (hk tg (by simp))).1⟩, true, fun _ ⟨cs, h1, _⟩ => by
      rcases h1.2 with ⟨rfl, _⟩ | ⟨_, _, _, rfl, _⟩ <;> rfl⟩
theorem Ty.dQ {α : Type} {E : El α} {T tg : Nat} : (Ty.ex (.slice none 0 0)).Sub (Ty.row E T tg []) := by
 intro w M v h
 have h : v = .slice none 0 0 := h
 subst h
 exact ⟨[], ⟨by simp, .inl ⟨rfl, rfl⟩⟩, trivial, fun g hg => by simp [Value.ownBlock] at hg⟩
theorem Ty.gY {α : Type} {E : El α} {T tg : Nat} {xs ys : List α} (h : xs = ys) : (Ty.row E T tg xs).Sub (Ty.row E T tg ys) := h ▸ Ty.aF _
theorem Ty.tQ {α : Type} {E : El α} : (Ty.ex (.slice none 0 0)).Sub (Ty.sl E []) := by
 intro w M v h
 have h : v = .slice none 0 0 := h
 subst h
 exact ⟨none, 0, rfl, Nat.le_refl _, by simp [maxLen], fun h => absurd h (by simp)⟩
theorem iW {w : World} {M : bB} {l l' : List Ty} {vs vs' : List Value} (h : cB w M l vs) (h' : cB w M l' vs') : cB w M (l ++ l') (vs ++ vs') := eT h h'
theorem cq {α : Type} (E : El α) : ∀ xs : List α, (xs.flatMap E.tys).length = xs.length * E.size
  | [] => by simp
  | x :: xs => by rw [List.flatMap_cons, List.length_append, E.len, cq E xs, List.length_cons, Nat.succ_mul, Nat.add_comm]
theorem lH {α : Type} (E : El α) (xs : List α) : ∀ t ∈ xs.flatMap E.tys, t.one = true := by
 intro t ht
 simp only [List.mem_flatMap] at ht
 obtain ⟨x, _, hx⟩ := ht
 exact List.all_eq_true.1 (E.ones x) t hx
theorem lK {w : World} {M : bB} {l : List Ty} {vs : List Value} (h : cB w M l vs) (ho : ∀ t ∈ l, t.one = true) : ∀ v ∈ vs, v.oneCell' = true := by
 intro v hv
 obtain ⟨i, hi, rfl⟩ := List.getElem_of_mem hv
 have hl := cL h
 have hlt : i < l.length := by omega
 obtain ⟨u, hu, hd⟩ := dG h i l[i] (List.getElem?_eq_getElem hlt)
 rw [List.getElem?_eq_getElem hi] at hu
 injection hu with hu
 rw [hu]
 exact (l[i]).isOne (ho _ (List.getElem_mem hlt)) hd
section
variable {P : Program} {fr : Fr} {ops : Array Oper} {A : As} {rest : List Oper} {K : As → List (As × Fx) → Prop} {d : Nat} {t ty' : TypeId} {p : String} {e : Array Edge} [T : kf P]
theorem we {α : Type} {E : El α} {w : World} {M : bB} {st el tg : Nat} {ty : TypeId} {ti te : TI} {xs ys : List α} {v y : Value} (wf : Wf w M) (hT : T.eE[st]? = some ti) (hk : ti.k = .slice el) (hE : T.eE[el]? = some te) (hs : te.size = E.size) (hz : te.zero.length = te.size) (h0 : 0 < te.size)
    (hx : gV E el tg xs w M v) (hy : m8 E ys w M y) (hlen : (xs.length + ys.length) * te.bytes ≤ 140737488355328) (hlen' : xs.length + ys.length ≤ 9223372036854775807) :
    ∃ v' w' M', (Builtin.append_ #[st, st] ty #[v, y]).run P w = .ok v' w' ∧ Wf w' M' ∧ Le (· ∈ ([] : List Nat)) (· ∈ [tg]) w M w' M' ∧ gV E el tg (xs ++ ys) w' M' v' := by
  obtain ⟨_, D, _, hD, hkd, _⟩ := ct hT
  rw [hk] at hkd
  cases D <;> simp only [TK.of, reduceCtorEq, TK.slice.injEq] at hkd
  subst hkd
  rename_i el
  obtain ⟨i, _, hi, _, _, hsz, hby, hze⟩ := ct hE
  obtain ⟨z, hiz, hzc⟩ : ∃ z, i.zero = some z ∧ z.cells.size = i.size := by
    cases hiz : i.zero with
    | none => rw [hiz] at hze; rw [← hze] at hz; simp at hz; omega
    | some z => rw [hiz] at hze; exact ⟨z, rfl, by simp at hze; rw [hsz, ← hz, ← hze]; simp⟩
  obtain ⟨cs, hown, hd, hM⟩ := hx
  obtain ⟨ad, c, rfl, hc1, hc2, hp⟩ := hy
  have hfin : ∀ v' w' (news : List Value), w'.ownsRow 0 el i.size v' (xs.length + ys.length) (cs ++ news) → w.grownBy w' v.ownBlock → (v'.ownBlock = v.ownBlock ∨ v'.ownBlock = some w.heap.size) → cB w M (ys.flatMap E.tys) news →
      ∃ M', Wf w' M' ∧ Le (· ∈ ([] : List Nat)) (· ∈ [tg]) w M w' M' ∧ gV E el tg (xs ++ ys) w' M' v' := by
    intro v' w' news h1 h2 h3 h4
    have hb : ∀ b, v'.ownBlock = some b → b < w'.heap.size := by
      intro b hb
      rcases h1.2 with ⟨rfl, _⟩ | ⟨g, cap, cur, rfl, _, hh, _⟩
      · simp [Value.ownBlock] at hb
      · simp [Value.ownBlock] at hb; subst hb; exact (Array.getElem?_eq_some_iff.1 hh).1
    have hle := Ad (t := tg) (g := v'.ownBlock) h2.size h2.os h2.tape h2.output (fun b hb hlt => by
        rcases h3 with e | e
        · exact hM b (e ▸ hb)
        · rw [e] at hb; injection hb with hb; omega) (fun b hlt hne => h2.block b hlt (fun e => hne (hM b e.symm))) wf
    refine ⟨mh M tg v'.ownBlock, AW wf h2.size hb, hle, cs ++ news, by rw [List.length_append, ← hs, ← hsz]; exact h1, ?_, fun g hg => by simp [mh, hg]⟩
    rw [List.flatMap_append]
    exact iW (bQ hle (by rw [E.cO]; intro _ h; cases h) (by rw [E.cD]; intro _ h; cases h) hd) (bQ hle (by rw [E.cO]; intro _ h; cases h) (by rw [E.cD]; intro _ h; cases h) h4)
  have hown' : w.ownsRow 0 el i.size v xs.length cs := by rw [hsz, hs]; exact hown
  by_cases hys : ys = []
  · subst hys
    cases ad with
    | none =>
      have hrun : (Builtin.append_ #[st, st] ty #[v, .slice none 0 c]).run P w = .ok v w := by
        rcases hown.2 with ⟨rfl, _⟩ | ⟨g, cap, cur, rfl, _, _, hnc, _⟩
        · simp [Builtin.append_, run_underlying hD, sizeOf, typeInfo, hi, Builtin.lenOf, Builtin.firstCells]
        · simp [Builtin.append_, run_underlying hD, sizeOf, typeInfo, hi, Builtin.lenOf, Builtin.firstCells, hnc, storeCells]
      obtain ⟨M', h1, h2, h3⟩ := hfin v w [] (by simpa using hown') (World.grownBy.refl w _) (.inl rfl) trivial
      exact ⟨v, w, M', hrun, h1, h2, h3⟩
    | some a =>
      obtain ⟨v', w', hrun, h2, h3, _, h5⟩ := run_append_own_at (P := P) w 0 st ty el i z i.size i.bytes hD hi hiz rfl rfl hzc (by omega) v xs.length cs hown' a 0 c [] (by simp) (by simp) (by simp) (by simp only [maxLen]; simp at hlen'; omega) (by rw [hby]; simpa using hlen) (Nat.zero_le _)
      obtain ⟨M', h1', h2', h3'⟩ := hfin v' w' [] h2 h3 h5 trivial
      exact ⟨v', w', M', hrun, h1', h2', h3'⟩
  · have hpos : 0 < ys.length := List.length_pos_iff.2 hys
    obtain ⟨b, off, rfl, hp'⟩ := hp hpos
    obtain ⟨news, hn1, hn2, hn3⟩ := mm hp' _ (Nat.le_refl _)
    rw [List.take_length] at hn2
    obtain ⟨v', w', hrun, h2, h3, _, h5⟩ := run_append_own_at (P := P) w 0 st ty el i z i.size i.bytes hD hi hiz rfl rfl hzc (by omega) v xs.length cs hown' ⟨b, off, none⟩ ys.length c news (by rw [hn1, cq, hsz, hs])
      (fun j u hj => by rw [Addr.add_lit]; exact hn3 j u hj) (lK hn2 (lH E ys)) (by simp only [maxLen]; omega) (by rw [hby]; exact hlen) (Nat.zero_le _)
    obtain ⟨M', h1', h2', h3'⟩ := hfin v' w' news h2 h3 h5 hn2
    exact ⟨v', w', M', hrun, h1', h2', h3'⟩
theorem q4 {α : Type} {E : El α} {x y : Operand} {st el tg : Nat} {ti te : TI} {xs ys : List α} (hx : (A.op fr x).Sub (.row E el tg xs)) (hy : A.op fr y = .sl E ys) (h1 : 1 ≤ tg) (hp : fr.pass.contains tg = false) (hT : T.eE[st]? = some ti) (hk : ti.k = .slice el) (hE : T.eE[el]? = some te) (hs : te.size = E.size) (hz : te.zero.length = te.size) (h0 : 0 < te.size)
 (hlen : (xs.length + ys.length) * te.bytes ≤ 140737488355328) (hlen' : xs.length + ys.length ≤ 9223372036854775807) :
 wu P fr ops ⟨some d, .call ⟨.builtin .append, #[x, y], #[st, st]⟩, t, p, e, none⟩ A { d := some d, ty := .row E el tg (xs ++ ys), K := [tg], rs := bw x ++ bw y } := by
 refine gC rfl rfl (by simp) (by simp) (by simp at hp ⊢; exact ⟨h1, hp⟩) fun a w M wf hr _ => ?_
 obtain ⟨hdx, hdy⟩ := op2 hr
 rw [hy] at hdy
 obtain ⟨v', w', M', hrun, h1', h2', h3'⟩ := we (P := P) (ty := t) wf hT hk hE hs hz h0 (hx _ _ _ hdx) hdy hlen hlen'
 exact ⟨v', w', by simp [execOp, resolve, invoke, builtin, hrun], M', h1', h2', h3', by simp⟩
theorem fI {α : Type} {E : El α} {x y : Operand} {st el tg : Nat} {ti te : TI} {xs ys : List α} (hx : A.op fr x = .row E el tg xs) (hy : A.op fr y = .sl E ys) (h1 : 1 ≤ tg) (hp : fr.pass.contains tg = false) (hT : T.eE[st]? = some ti) (hk : ti.k = .slice el) (hE : T.eE[el]? = some te) (hs : te.size = E.size) (hz : te.zero.length = te.size) (h0 : 0 < te.size)
 (hlen : (xs.length + ys.length) * te.bytes ≤ 140737488355328) (hlen' : xs.length + ys.length ≤ 9223372036854775807)
 (h : av P fr ops rest (A.after { d := some d, ty := .row E el tg (xs ++ ys), K := [tg], rs := bw x ++ bw y }) fun A' l' => K A' ((A, { d := some d, ty := .row E el tg (xs ++ ys), K := [tg], rs := bw x ++ bw y }) :: l')) :
 av P fr ops (⟨some d, .call ⟨.builtin .append, #[x, y], #[st, st]⟩, t, p, e, none⟩ :: rest) A K :=
 ⟨_, q4 (hx ▸ Ty.aF _) hy h1 hp hT hk hE hs hz h0 hlen hlen', h⟩
theorem yT {α : Type} {E : El α} {x y : Operand} {st el : Nat} {ti te : TI} {ys : List α} (hx : A.op fr x = .ex (.slice none 0 0)) (hy : A.op fr y = .sl E ys) (hp : fr.pass.contains (d + 1) = false) (hT : T.eE[st]? = some ti) (hk : ti.k = .slice el) (hE : T.eE[el]? = some te) (hs : te.size = E.size) (hz : te.zero.length = te.size) (h0 : 0 < te.size)
 (hlen : ys.length * te.bytes ≤ 140737488355328) (hlen' : ys.length ≤ 9223372036854775807)
 (h : av P fr ops rest (A.after { d := some d, ty := .row E el (d + 1) ys, K := [d + 1], rs := bw x ++ bw y }) fun A' l' => K A' ((A, { d := some d, ty := .row E el (d + 1) ys, K := [d + 1], rs := bw x ++ bw y }) :: l')) :
 av P fr ops (⟨some d, .call ⟨.builtin .append, #[x, y], #[st, st]⟩, t, p, e, none⟩ :: rest) A K :=
 ⟨_, q4 (xs := []) (hx ▸ Ty.dQ) hy (by omega) hp hT hk hE hs hz h0 (by simpa using hlen) (by simpa using hlen'), h⟩
theorem vC {α : Type} {E : El α} {x y : Operand} {k k' : IntKind} {n : Int} {el : Nat} {ti te : TI} (hx : A.op fr x = .int k 0) (hy : A.op fr y = .int k' n) (hT : T.eE[ty']? = some ti) (hk : ti.k = .slice el) (hE : T.eE[el]? = some te) (hs : te.size = E.size) (hz : te.zero.length = te.size) (hzp : 0 < te.size) (hp : fr.pass.contains (d + 1) = false)
    (hn : 0 ≤ n) (hlen : (te.bytes : Int) * n ≤ 281474976710656) (hlen' : n ≤ 9223372036854775807)
    (h : av P fr ops rest (A.after { d := some d, ty := .row E el (d + 1) [], K := [d + 1], rs := bw x ++ bw y }) fun A' l' => K A' ((A, { d := some d, ty := .row E el (d + 1) [], K := [d + 1], rs := bw x ++ bw y }) :: l')) :
    av P fr ops (⟨some d, .makeSlice ty' x y, t, p, e, none⟩ :: rest) A K := by
  refine ⟨_, gC rfl rfl (by simp) (by simp) (by simp at hp ⊢; exact hp) fun a w M wf hr _ => ?_, h⟩
  obtain ⟨hdx, hdy⟩ := op2 hr
  rw [hx] at hdx; rw [hy] at hdy
  have ex : a.eval x = .int k 0 := hdx
  have ey : a.eval y = .int k' n := hdy
  obtain ⟨_, D, _, hD, hkd, _⟩ := ct hT
  rw [hk] at hkd
  cases D <;> simp only [TK.of, reduceCtorEq, TK.slice.injEq] at hkd
  rename_i el0
  have hel : el0 = el := hkd
  subst hel
  obtain ⟨i, _, hi, _, _, hsz, hby, hze⟩ := ct hE
  obtain ⟨z, hiz⟩ : ∃ z, i.zero = some z := by
    cases hiz : i.zero with
    | none => rw [hiz] at hze; rw [← hze] at hz; simp at hz; omega
    | some z => exact ⟨z, rfl⟩
  have hrun := run_make (P := P) w ty' _ i z hD hi hiz k k' 0 n (Int.le_refl _) hn (by rw [hby]; exact hlen) hlen'
  obtain ⟨h1, h2, h3⟩ := kQ wf (.cells (madeCells z.cells (n.toNat * i.size)) el0) (d + 1)
  refine ⟨_, _, by simp [execOp, ex, ey, hrun], _, h1, h2, ⟨[], ⟨by simp, .inr ⟨w.heap.size, n.toNat, _, rfl, Nat.zero_le _, gO _ _, Nat.zero_le _, by simp only [maxLen]; omega, ?_, by simp⟩⟩, trivial, ?_⟩, by simp⟩
  · simp [madeCells, hsz, hs]
  · intro g hg
    simp [Value.ownBlock] at hg
    subst hg; exact h3
theorem J4 {α : Type} {E : El α} {xs : List α} {w : World} {M : bB} {ad : Option Addr} {c lo hi : Nat} (hc : xs.length ≤ c) (hc2 : c ≤ maxLen) (hp : 0 < xs.length → ∃ b off, ad = some ⟨b, off, none⟩ ∧ mK w M b off (xs.flatMap E.tys)) (h1 : lo ≤ hi) (h2 : hi ≤ xs.length) :
 m8 E ((xs.take hi).drop lo) w M (.slice (if c = lo then ad else ad.map (·.add (lo * E.size))) (hi - lo) (c - lo)) := by
 have hl : ((xs.take hi).drop lo).length = hi - lo := by rw [List.length_drop, List.length_take, Nat.min_eq_left h2]
 refine ⟨_, c - lo, by rw [hl], by rw [hl]; omega, Nat.le_trans (Nat.sub_le _ _) hc2, fun hpos => ?_⟩
 have hlt : lo < hi := by rw [hl] at hpos; omega
 obtain ⟨b, off, rfl, hp'⟩ := hp (by omega)
 refine ⟨b, off + lo * E.size, by rw [if_neg (by omega)]; exact congrArg some (Addr.add_lit _ _ _), ?_⟩
 have h3 := CT ((hi - lo) * E.size) (wT (lo * E.size) hp')
 have e : ((xs.take hi).drop lo).flatMap E.tys = ((xs.flatMap E.tys).drop (lo * E.size)).take ((hi - lo) * E.size) := by
  have e1 : xs.flatMap E.tys = (xs.take lo).flatMap E.tys ++ (((xs.take hi).drop lo).flatMap E.tys ++ (xs.drop hi).flatMap E.tys) := by
   rw [← List.flatMap_append, ← List.flatMap_append]
   congr 1
   have : xs.take lo = (xs.take hi).take lo := by rw [List.take_take, Nat.min_eq_left h1]
   rw [this, ← List.append_assoc, List.take_append_drop, List.take_append_drop]
  have L1 : ((xs.take lo).flatMap E.tys).length = lo * E.size := by rw [cq, List.length_take, Nat.min_eq_left (by omega)]
  have L2 : (((xs.take hi).drop lo).flatMap E.tys).length = (hi - lo) * E.size := by rw [cq, hl]
  rw [e1, List.drop_left' L1, List.take_left' L2]
 rw [e]; exact h3
end
end Go.T
namespace Go.T
open Go Go.RowKit
def iw {α : Type} (E : El α) (xs : List α) (w : World) (M : bB) (v : Value) : Prop := ∃ cs : Array Value, v = .agg cs ∧ cB w M (xs.flatMap E.tys) cs.toList
def Ty.arr {α : Type} (E : El α) (xs : List α) : Ty :=
  { den := iw E xs, mono := fun le _ _ ⟨cs, e, h⟩ => ⟨cs, e, bQ le (by rw [E.cO]; intro _ h; cases h) (by rw [E.cD]; intro _ h; cases h) h⟩ }
section
variable {P : Program} {fr : Fr} {ops : Array Oper} {A : As} {rest : List Oper} {K : As → List (As × Fx) → Prop} {d : Nat} {t ty' : TypeId} {p : String} {e : Array Edge} [T : kf P]
theorem DR {α : Type} {E : El α} {w : World} {M : bB} {st el : Nat} {ti te : TI} {xs : List α} {v : Value} (hT : T.eE[st]? = some ti) (hk : ti.k = .slice el) (hE : T.eE[el]? = some te) (hs : te.size = E.size) (hx : m8 E xs w M v)
 {lo hi : Nat} {ol oh : Option Value} (hlo : (ol = none ∧ lo = 0) ∨ ∃ k : IntKind, ol = some (.int k lo)) (hhi : (oh = none ∧ hi = xs.length) ∨ ∃ k : IntKind, oh = some (.int k hi)) (h1 : lo ≤ hi) (h2 : hi ≤ xs.length) :
 ∃ v', (Instr.sliceAt st v ol oh none).run P w = .ok v' w ∧ m8 E ((xs.take hi).drop lo) w M v' := by
 obtain ⟨_, D, _, hD, hkd, _⟩ := ct hT
 rw [hk] at hkd
 cases D <;> simp only [TK.of, reduceCtorEq, TK.slice.injEq] at hkd
 subst hkd
 obtain ⟨ad, c, rfl, hc, hc2, hp⟩ := hx
 have hsz := fun w => dH (P := P) hE w
 refine ⟨_, ?_, J4 hc hc2 hp h1 h2⟩
 have hic : hi ≤ c := by omega
 rcases hlo with ⟨rfl, rfl⟩ | ⟨k, rfl⟩ <;> rcases hhi with ⟨rfl, rfl⟩ | ⟨k', rfl⟩ <;>
  simp [Instr.sliceAt, Instr.slice, run_underlying hD, Instr.sliceBounds, Instr.sliceBound, asIntOf, hsz, hs, hic, h1]
theorem Iu {α : Type} {E : El α} {x y : Operand} {k : IntKind} {el : Nat} {ti te : TI} {xs : List α} {hi : Nat} (hx : A.op fr x = .sl E xs) (hy : A.op fr y = .int k hi) (hT : T.eE[ty']? = some ti) (hk : ti.k = .slice el) (hE : T.eE[el]? = some te) (hs : te.size = E.size) (h2 : hi ≤ xs.length)
 (h : av P fr ops rest (A.set d (.sl E (xs.take hi))) fun A' l' => K A' ((A, { d := some d, ty := .sl E (xs.take hi), rs := bw x ++ bw y }) :: l')) : av P fr ops (⟨some d, .slice ty' x none (some y) none, t, p, e, none⟩ :: rest) A K :=
 bE (bL rfl rfl fun a w M _ hr _ => by
  obtain ⟨hdx, hdy⟩ := op2 hr
  rw [hx] at hdx; rw [hy] at hdy
  have ey : a.eval y = .int k hi := hdy
  obtain ⟨v', h3, h4⟩ := DR (P := P) hT hk hE hs hdx (lo := 0) (hi := hi) (ol := none) (oh := some (.int k hi)) (.inl ⟨rfl, rfl⟩) (.inr ⟨k, rfl⟩) (Nat.zero_le _) h2
  exact ⟨v', by simp [execOp, ey, h3], (show m8 E _ w M v' by simpa using h4)⟩) h
theorem HJ {α : Type} {E : El α} {x y : Operand} {k : IntKind} {el : Nat} {ti te : TI} {xs : List α} {lo : Nat} (hx : A.op fr x = .sl E xs) (hy : A.op fr y = .int k lo) (hT : T.eE[ty']? = some ti) (hk : ti.k = .slice el) (hE : T.eE[el]? = some te) (hs : te.size = E.size) (h2 : lo ≤ xs.length)
 (h : av P fr ops rest (A.set d (.sl E (xs.drop lo))) fun A' l' => K A' ((A, { d := some d, ty := .sl E (xs.drop lo), rs := bw x ++ bw y }) :: l')) : av P fr ops (⟨some d, .slice ty' x (some y) none none, t, p, e, none⟩ :: rest) A K :=
 bE (bL rfl rfl fun a w M _ hr _ => by
  obtain ⟨hdx, hdy⟩ := op2 hr
  rw [hx] at hdx; rw [hy] at hdy
  have ey : a.eval y = .int k lo := hdy
  obtain ⟨v', h3, h4⟩ := DR (P := P) hT hk hE hs hdx (lo := lo) (hi := xs.length) (ol := some (.int k lo)) (oh := none) (.inr ⟨k, rfl⟩) (.inl ⟨rfl, rfl⟩) h2 (Nat.le_refl _)
  exact ⟨v', by simp [execOp, ey, h3], (show m8 E _ w M v' by simpa using h4)⟩) h
inductive aW (A : As) (fr : Fr) : List (Nat × Operand) → List (Nat × List Ty) → Prop
  | nil : aW A fr [] []
  | one {i : Nat} {x : Operand} {ty : Ty} {l : List (Nat × Operand)} {r : List (Nat × List Ty)} (hx : A.op fr x = ty) (h1 : ty.one = true) (h : aW A fr l r) : aW A fr ((i, x) :: l) ((i, [ty]) :: r)
  | sub {i : Nat} {x : Operand} {ta : Ty} {tys : List Ty} {l : List (Nat × Operand)} {r : List (Nat × List Ty)} (hx : A.op fr x = ta) (hs : ∀ w M v, ta.den w M v → (Ty.agg tys).den w M v) (h : aW A fr l r) : aW A fr ((i, x) :: l) ((i, tys) :: r)
theorem aW.agg {A : As} {fr : Fr} {i : Nat} {x : Operand} {tys : List Ty} {l : List (Nat × Operand)} {r : List (Nat × List Ty)} (hx : A.op fr x = .agg tys) (h : aW A fr l r) : aW A fr ((i, x) :: l) ((i, tys) :: r) := .sub hx (fun _ _ _ h => h) h
theorem aW.arr {A : As} {fr : Fr} {i : Nat} {x : Operand} {α : Type} {E : El α} {xs : List α} {l : List (Nat × Operand)} {r : List (Nat × List Ty)} (hx : A.op fr x = .arr E xs) (h : aW A fr l r) : aW A fr ((i, x) :: l) ((i, xs.flatMap E.tys) :: r) := .sub hx (fun _ _ _ h => h) h
def splice (cells : List Ty) (off : Nat) (l : List Ty) : List Ty := cells.take off ++ (l ++ cells.drop (off + l.length))
def uI (place : Nat → Option (Nat × Nat)) (cells : List Ty) : List (Nat × List Ty) → Option (List Ty)
  | [] => some cells
  | (i, l) :: rest =>
    match place i with
    | none => none
    | some (off, size) => bif (Nat.beq l.length size && Nat.ble (off + l.length) cells.length) then uI place (splice cells off l) rest else none
theorem yF (cs : Array Value) (off : Nat) : ∀ (vs : List Value) (j : Nat), off + j + vs.length ≤ cs.size →
    ((vs.zipIdx j).foldl (fun cs (x : Value × Nat) => cs.setIfInBounds (off + x.2) x.1) cs).toList = cs.toList.take (off + j) ++ (vs ++ cs.toList.drop (off + j + vs.length)) := by
  intro vs
  induction vs generalizing cs with
  | nil => intro j _; simp
  | cons v vs ih =>
    intro j h
    simp only [List.zipIdx_cons, List.foldl_cons]
    rw [ih (cs.setIfInBounds (off + j) v) (j + 1) (by simp at h ⊢; omega)]
    have hlt : off + j < cs.toList.length := by simp at h ⊢; omega
    rw [Array.toList_setIfInBounds, ← Nat.add_assoc, List.take_succ_eq_append_getElem (by simpa using hlt), List.take_set_of_le (Nat.le_refl _), List.getElem_set_self, List.drop_set_of_lt (by omega)]
    simp [Nat.add_assoc, Nat.add_comm 1]
theorem uO {w : World} {M : bB} {cells l : List Ty} {cs : List Value} {vs : List Value} {off : Nat} (h : cB w M cells cs) (hv : cB w M l vs) : cB w M (splice cells off l) (cs.take off ++ (vs ++ cs.drop (off + vs.length))) := by
 rw [cL hv]
 exact eT (pX off h) (eT hv (mj _ h))
theorem s6 {a : Act} {w : World} {M : bB} {rs : List Nat} (hr : ∀ c ∈ rs, c < fr.n → (A.slots c).den w M (a.tmps.getD c undef)) {place : Nat → Option (Nat × Nat)} {parts : List (Nat × Operand)} {ls : List (Nat × List Ty)} (hp : aW A fr parts ls) :
    ∀ {cells out : List Ty} {cs : Array Value}, (∀ x ∈ parts, ∀ c ∈ bw x.2, c ∈ rs) → cB w M cells cs.toList → uI place cells ls = some out →
      ∃ cs', Instr.fill place cs (parts.map fun x => (x.1, a.eval x.2)) = some cs' ∧ cB w M out cs'.toList := by
  induction hp with
  | nil => intro cells out cs _ h hf; simp only [uI, Option.some.injEq] at hf; subst hf; exact ⟨cs, rfl, h⟩
  | @one i x ty l r hx h1 _ ih =>
    intro cells out cs hrs h hf
    have hd := cE (x := x) (hrs _ List.mem_cons_self) hr
    rw [hx] at hd
    have hone := ty.isOne h1 hd
    have hcells : (a.eval x).cells = #[a.eval x] := by
      cases hv : a.eval x <;> first | rfl | (rw [hv] at hone; simp [Value.oneCell'] at hone)
    simp only [uI] at hf
    cases hpl : place i with
    | none => rw [hpl] at hf; cases hf
    | some os =>
      obtain ⟨off, size⟩ := os
      rw [hpl] at hf
      simp only [List.length_cons, List.length_nil, cond_eq_ite, Bool.and_eq_true, Nat.beq_eq_true_eq, Nat.ble_eq] at hf
      split at hf
      · rename_i hc
        have hlen := cL h
        have hs := uO (off := off) h (show cB w M [ty] [a.eval x] from ⟨hd, trivial⟩)
        have hfold := yF cs off [a.eval x] 0 (by simp at hlen ⊢; omega)
        obtain ⟨cs', h1', h2'⟩ := ih (cs := cs.setIfInBounds off (a.eval x)) (fun y hy => hrs y (List.mem_cons_of_mem _ hy)) (by rw [show (cs.setIfInBounds off (a.eval x)).toList = _ from hfold]; simpa using hs) hf
        refine ⟨cs', ?_, h2'⟩
        have hsz : 1 = size := by have := Nat.eq_of_beq_eq_true hc.1; simpa using this
        have hle : ¬ (off + 1 > cs.size) := by simp at hlen; omega
        simp only [List.map_cons, Instr.fill, hpl, hcells]
        simp [← hsz, hle, h1']
      · cases hf
  | @sub i x ta tys l r hx hsub _ ih =>
    intro cells out cs hrs h hf
    have hd := cE (x := x) (hrs _ List.mem_cons_self) hr
    rw [hx] at hd
    obtain ⟨vs, ev, hvs⟩ := hsub _ _ _ hd
    simp only [uI] at hf
    cases hpl : place i with
    | none => rw [hpl] at hf; cases hf
    | some os =>
      obtain ⟨off, size⟩ := os
      rw [hpl] at hf
      simp only [cond_eq_ite, Bool.and_eq_true, Nat.beq_eq_true_eq, Nat.ble_eq] at hf
      split at hf
      · rename_i hc
        have hlen := cL h
        have hlv := cL hvs
        have hs := uO (off := off) h hvs
        have hfold := yF cs off vs.toList 0 (by simp at hlen hlv ⊢; omega)
        obtain ⟨cs', h1', h2'⟩ := ih (cs := (vs.toList.zipIdx.foldl (fun cs (x : Value × Nat) => cs.setIfInBounds (off + x.2) x.1) cs)) (fun y hy => hrs y (List.mem_cons_of_mem _ hy)) (by rw [hfold]; simpa using hs) hf
        refine ⟨cs', ?_, h2'⟩
        have hsz : vs.size = size := by have := Nat.eq_of_beq_eq_true hc.1; simp at hlv; omega
        have hle : ¬ (off + vs.size > cs.size) := by simp at hlen hlv; omega
        simp only [List.map_cons, Instr.fill, hpl, ev]
        have hv2 : (Value.agg vs).cells = vs := rfl
        simp only [hv2]
        have hfold' : Array.foldl (fun cs (x : Value × Nat) => cs.setIfInBounds (off + x.2) x.1) cs vs.zipIdx = vs.toList.zipIdx.foldl (fun cs (x : Value × Nat) => cs.setIfInBounds (off + x.2) x.1) cs := by
          rw [← Array.foldl_toList, Array.toList_zipIdx]
        rw [← h1', ← hfold']
        simp [hsz]
        omega
      · cases hf
end
end Go.T
namespace Go.T
open Go Go.RowKit
def placesOf (eE : List TI) (fs : List (Nat × Nat)) (i : Nat) : Option (Nat × Nat) :=
  match fs[i]? with
  | some (o, ft) => match eE[ft]? with
    | some tf => some (o, tf.size)
    | none => none
  | none => none
section
variable {P : Program} {fr : Fr} {ops : Array Oper} {A : As} {rest : List Oper} {K : As → List (As × Fx) → Prop} {d : Nat} {t ty' : TypeId} {p : String} {e : Array Edge} [T : kf P]
def sN (f : Field) : Sem (Nat × Nat) := do pure (f.offset, ← sizeOf f.type)
theorem z4 {f : Field} {tf : TI} (h : T.eE[f.type]? = some tf) (w : World) : (sN f).run P w = .ok (f.offset, tf.size) w := by simp [sN, dH h]
theorem oC {w : World} : ∀ (fs : List Field), (∀ f ∈ fs, ∃ tf, T.eE[f.type]? = some tf) →
    ∃ r, (fs.mapM sN).run P w = .ok r w ∧ ∀ i : Nat, r[i]? = placesOf T.eE (fs.map fun f => (f.offset, f.type)) i
  | [], _ => ⟨[], by simp, fun i => by simp [placesOf]⟩
  | f :: fs, h => by
    obtain ⟨tf, htf⟩ := h f List.mem_cons_self
    obtain ⟨r, hr, hi⟩ := oC (w := w) fs fun g hg => h g (List.mem_cons_of_mem _ hg)
    refine ⟨(f.offset, tf.size) :: r, by simp [z4 htf, hr], fun i => ?_⟩
    cases i with
    | zero => simp [placesOf, htf]
    | succ i => simpa [placesOf] using hi i
theorem dJ {parts : Array (Nat × Operand)} {ti : TI} {fs : List (Nat × Nat)} {ls : List (Nat × List Ty)} {out : List Ty} (hT : T.eE[ty']? = some ti) (hk : ti.k = .struct fs) (hz : ti.zero ≠ []) (hfs : (fs.all fun f => (T.eE[f.2]?).isSome) = true) (hp : aW A fr parts.toList ls) (hf : uI (placesOf T.eE fs) (ti.zero.map Ty.ko) ls = some out)
 (h : av P fr ops rest (A.set d (.agg out)) fun A' l' => K A' ((A, { d := some d, ty := .agg out, rs := parts.toList.flatMap fun x => bw x.2 }) :: l')) : av P fr ops (⟨some d, .build ty' parts, t, p, e, none⟩ :: rest) A K :=
 bE (bL rfl rfl fun a w M _ hr _ => by
  obtain ⟨z, hz1, hz2⟩ := o7 hT hz w
  obtain ⟨i, D, _, hD, hkd, _⟩ := ct hT
  rw [hk] at hkd
  cases D <;> simp only [TK.of, reduceCtorEq, TK.struct.injEq] at hkd
  rename_i fields
  subst hkd
  obtain ⟨r, hr1, hr2⟩ := oC (P := P) (w := w) fields.toList fun f hf => by
   simp only [List.all_eq_true] at hfs
   have := hfs (f.offset, f.type) (List.mem_map.2 ⟨f, hf, rfl⟩)
   exact Option.isSome_iff_exists.1 this
  obtain ⟨cs', h1, h2⟩ := s6 hr hp (place := placesOf T.eE (fields.toList.map fun f => (f.offset, f.type))) (cs := z.cells) (fun x hx c hc => List.mem_flatMap.2 ⟨x, hx, hc⟩) (by rw [hz2]; exact mD _ _ _) hf
  refine ⟨.agg cs', ?_, cs', rfl, h2⟩
  have hm0 : (fields.mapM sN).run P w = .ok r.toArray w := by
   rw [Array.mapM_eq_mapM_toList]
   simp [hr1]
  have hm : (fields.mapM (fun f => do pure (f.offset, ← sizeOf f.type) : Field → Sem (Nat × Nat))).run P w = .ok r.toArray w := hm0
  have hfun : (fun i : Nat => r.toArray[i]?) = placesOf T.eE (fields.toList.map fun f => (f.offset, f.type)) := funext fun i => by simpa using hr2 i
  have hparts : (parts.map fun x => (x.1, a.eval x.2)).toList = parts.toList.map fun x => (x.1, a.eval x.2) := by simp
  simp only [execOp, Instr.build, Sem.run_bind, hz1, Result.andThen_ok, run_underlying hD]
  simp only [hm, Result.andThen_ok, hfun, hparts, h1]
  simp) h
theorem bg {α : Type} {E : El α} {xs : List α} {len el : Nat} {parts : Array (Nat × Operand)} {ti te : TI} {ls : List (Nat × List Ty)} (hT : T.eE[ty']? = some ti) (hk : ti.k = .slice el) (hE : T.eE[el]? = some te) (hs : te.size = E.size) (hz : te.zero.length = te.size) (h0 : 0 < te.size) (hle : len * te.size ≤ 16777216) (hp : aW A fr parts.toList ls)
 (hf : uI (fun i => some (i * te.size, te.size)) ((List.range (len * te.size)).map fun j => Ty.ko (te.zero.getD (j % te.size) undef)) ls = some (xs.flatMap E.tys)) (hx : xs.length = len)
 (h : av P fr ops rest (A.set d (.sl E xs)) fun A' l' => K A' ((A, { d := some d, ty := .sl E xs, rs := parts.toList.flatMap fun x => bw x.2 }) :: l')) : av P fr ops (⟨some d, .buildSlice ty' len parts, t, p, e, none⟩ :: rest) A K := by
 refine ⟨_, gC (f := { d := some d, ty := .sl E xs, rs := parts.toList.flatMap fun x => bw x.2 }) rfl rfl (by simp) (by simp) (by simp) fun a w M wf hr _ => ?_, h⟩
 obtain ⟨z, hz1, hz2⟩ := o7 hE (by intro hn; rw [hn] at hz; simp at hz; omega) w
 obtain ⟨_, D, _, hD, hkd, _⟩ := ct hT
 rw [hk] at hkd
 cases D <;> simp only [TK.of, reduceCtorEq, TK.slice.injEq] at hkd
 rename_i el0
 have hel : el0 = el := hkd
 subst hel
 have hzs : z.cells.size = te.size := by rw [← hz, ← hz2]; simp
 let zs : Array Value := if len * te.size = 0 then #[] else z.cells
 have hcells : cB w M ((List.range (len * te.size)).map fun j => Ty.ko (te.zero.getD (j % te.size) undef)) ((Array.range (len * te.size)).map (zs[· % zs.size]!)).toList := by
  refine gB (by simp) fun i u hi => ?_
  rw [List.getElem?_map] at hi
  simp only [Option.map_eq_some_iff] at hi
  obtain ⟨j, hj, rfl⟩ := hi
  have hlt : i < len * te.size := by have := (List.getElem?_eq_some_iff.1 hj).1; simpa using this
  rw [List.getElem?_range hlt] at hj
  injection hj with hj
  subst hj
  have hne : ¬ len * te.size = 0 := by omega
  refine ⟨te.zero.getD (i % te.size) undef, ?_, nM _ _ _⟩
  have hm : i % te.size < z.cells.size := by rw [hzs]; exact Nat.mod_lt _ h0
  have e1 : zs[i % zs.size]! = te.zero.getD (i % te.size) undef := by
   simp only [zs, if_neg hne, hzs]
   rw [getElem!_pos z.cells _ hm, ← hz2, List.getD_eq_getElem?_getD, List.getElem?_eq_getElem (by simpa using hm)]
   simp
  simp [List.getElem?_range hlt, e1]
 obtain ⟨cs', h1, h2⟩ := s6 hr hp (place := fun i => some (i * te.size, te.size)) (cs := (Array.range (len * te.size)).map (zs[· % zs.size]!)) (fun x hx c hc => List.mem_flatMap.2 ⟨x, hx, hc⟩) hcells hf
 have hparts : (parts.map fun x => (x.1, a.eval x.2)).toList = parts.toList.map fun x => (x.1, a.eval x.2) := by simp
 obtain ⟨h3, h4, _⟩ := tP wf (.cells cs' el0)
 refine ⟨.slice (some ⟨w.heap.size, 0, none⟩) len len, w.alloc (.cells cs' el0), ?_, M, h3, h4, ⟨some ⟨w.heap.size, 0, none⟩, len, by rw [hx], by omega, ?_, fun _ => ⟨_, 0, rfl, ?_⟩⟩, by simp⟩
 ·have hbig : ¬ (len * te.size > 2 ^ 24) := by omega
  have hbig' : ¬ (2 ^ 24 < len * te.size) := by omega
  simp only [execOp, Instr.buildSlice, Sem.run_bind, run_underlying hD, Result.andThen_ok, dH hE]
  simp only [hbig', gt_iff_lt, if_false]
  by_cases hn : len * te.size = 0
  ·have : zs = #[] := if_pos hn
   rw [this] at h1
   simp only [hn, if_true, Sem.run_pure, Sem.run_bind, Result.andThen_ok]
   rw [hn] at h1
   simp only [hparts, h1]
   simp [newRow, newObj, Sem.run]
  have : zs = z.cells := if_neg hn
  rw [this] at h1
  simp only [if_neg hn, Sem.run_pure, Sem.run_bind, Result.andThen_ok, hz1]
  simp only [hparts, h1]
  simp [newRow, newObj, Sem.run]
 ·have : len ≤ len * te.size := Nat.le_mul_of_pos_right _ h0
  simp only [maxLen]; omega
 have := rU (T := el0) (cs := cs'.toList) wf h2
 simpa using this
def Ty.Plain (t : Ty) : Prop := ∀ w M w' M' v, t.den w M v → t.den w' M' v
theorem c6 (k : IntKind) (n : Int) : (Ty.int k n).Plain := fun _ _ _ _ _ h => h
theorem jv (b : Bool) : (Ty.bool b).Plain := fun _ _ _ _ _ h => h
theorem wK : ∀ {l : List Ty}, (∀ t ∈ l, t.Plain) → ∀ {w M w' M' vs}, cB w M l vs → cB w' M' l vs
  | [], _, _, _, _, _, [], _ => trivial
  | _ :: _, h, _, _, _, _, _ :: _, ⟨h1, h2⟩ => ⟨h _ List.mem_cons_self _ _ _ _ _ h1, wK (fun t ht => h t (List.mem_cons_of_mem _ ht)) h2⟩
theorem j9 {l : List Ty} (h : ∀ t ∈ l, t.Plain) : (Ty.kD l).Plain := fun _ _ _ _ _ ⟨cs, e, hd⟩ => ⟨cs, e, wK h hd⟩
theorem jw : ∀ t ∈ ([] : List Ty), t.Plain := by intro _ h; cases h
theorem jB {t : Ty} {l : List Ty} (h : t.Plain) (h' : ∀ t ∈ l, t.Plain) : ∀ u ∈ t :: l, u.Plain := by
 intro u hu
 rcases List.mem_cons.1 hu with rfl | hu
 ·exact h
 exact h' u hu
def pI (M : bB) (L : List Nat) : bB := fun b => match M b with | none => none | some t => if t ∈ L then none else some 0
def E0 (L : List Nat) (s t : Ty) : Prop := ∀ w M v, Wf w M → s.den w M v → t.den w (pI M L) v
theorem jJ {M : bB} {L : List Nat} {b : Nat} (h : M b = none) : pI M L b = none := by simp [pI, h]
theorem zP {M : bB} {L : List Nat} {b t : Nat} (h : M b = some t) (ht : t ∈ L) : pI M L b = none := by simp [pI, h, ht]
theorem qD {M : bB} {L : List Nat} (b t : Nat) (h : pI M L b = some t) : t = 0 := by
 unfold pI at h
 split at h
 ·cases h
 split at h
 ·cases h
 injection h with h; exact h.symm
theorem EZ {M : bB} {L : List Nat} {b t : Nat} (h : pI M L b = some t) : ∃ u, M b = some u := by
 unfold pI at h
 split at h
 ·cases h
 rename_i u hu; exact ⟨u, hu⟩
theorem EG {w : World} {M : bB} {L : List Nat} (wf : Wf w M) : Wf w (pI M L) :=
 ⟨fun b t h => let ⟨u, hu⟩ := EZ h; wf.lt b u hu, fun b b' t _ h _ => by have := qD _ _ h; omega⟩
theorem bR {L : List Nat} {t : Ty} (h1 : t.deps = []) (h2 : t.cdeps = []) : E0 L t t := fun w M v _ h =>
 t.mono (S := fun _ => True) (K := fun _ => True) ⟨Nat.le_refl _, rfl, rfl, rfl, fun b _ hm => ⟨jJ hm, rfl⟩, fun b t _ h => absurd trivial h⟩ (by rw [h1]; intro _ h; cases h) (by rw [h2]; intro _ h; cases h) h
theorem w7 {α : Type} {E : El α} {T tg : Nat} {xs : List α} {w : World} {M M' : bB} {v : Value} (wf : Wf w M) (h : gV E T tg xs w M v) (hM : ∀ b, M b = some tg → M' b = none) (hle : ∀ b, M b = none → M' b = none) : m8 E xs w M' v := by
 obtain ⟨cs, h1, h2, h3⟩ := h
 rcases h1.2 with ⟨rfl, h0⟩ | ⟨g, cap, cur, rfl, _, hh, hn, hcap, hcs, htk⟩
 ·exact ⟨none, 0, by rw [h0], by omega, by simp [maxLen], fun h => absurd h (by omega)⟩
 have hg : M g = some tg := h3 g rfl
 refine ⟨some ⟨g, 0, none⟩, cap, rfl, hn, hcap, fun _ => ⟨g, 0, rfl, hM g hg, wf.lt g _ hg, fun i t hi => ?_⟩⟩
 have h2' := bQ (S := fun _ => True) (K := fun _ => True) (w' := w) (M' := M') ⟨Nat.le_refl _, rfl, rfl, rfl, fun b _ hm => ⟨hle b hm, rfl⟩, fun b t _ h => absurd trivial h⟩ (by rw [E.cO]; intro _ h; cases h) (by rw [E.cD]; intro _ h; cases h) h2
 obtain ⟨u, hu, hd⟩ := dG h2' i t hi
 refine ⟨u, ?_, hd⟩
 rw [← htk, List.getElem?_take] at hu
 split at hu
 ·simpa [World.cell?, hh] using hu
 cases hu
theorem wm {L : List Nat} {α : Type} {E : El α} {T tg : Nat} {xs : List α} (h : L.contains tg = true) : E0 L (Ty.row E T tg xs) (Ty.sl E xs) := fun w M v wf hr =>
 w7 wf hr (fun b hb => zP hb (by simpa using h)) (fun b hb => jJ hb)
theorem wA {L : List Nat} {α : Type} {E : El α} : E0 L (Ty.ex (.slice none 0 0)) (Ty.sl E []) := fun w M v _ h => Ty.tQ _ _ _ h
def x9 (L : List Nat) : List Ty → List Ty → Prop
  | [], [] => True
  | s :: ss, t :: ts => E0 L s t ∧ x9 L ss ts
  | _, _ => False
theorem tZ {L : List Nat} : x9 L [] [] := trivial
theorem ga {L : List Nat} {s t : Ty} {ss ts : List Ty} (h : E0 L s t) (h' : x9 L ss ts) : x9 L (s :: ss) (t :: ts) := ⟨h, h'⟩
theorem v9 {L : List Nat} {w : World} {M : bB} (wf : Wf w M) : ∀ {ss ts : List Ty} {vs : List Value}, x9 L ss ts → cB w M ss vs → cB w (pI M L) ts vs
  | [], [], [], _, _ => trivial
  | _ :: _, _ :: _, _ :: _, ⟨h, h'⟩, ⟨h1, h2⟩ => ⟨h _ _ _ wf h1, v9 wf h' h2⟩
theorem wg {L : List Nat} {w w' : World} {M M' : bB} {res : Ty} {r : Value} (wf : Wf w M) (le : Le (fun t => 1 ≤ t) (fun t => 1 ≤ t) w (pI M L) w' M') (hp : res.Plain) (hr : res.den w' M' r) :
    Wf w' (lP w M) ∧ Le (· ∈ ([] : List Nat)) (· ∈ ([] : List Nat)) w M w' (lP w M) ∧ res.den w' (lP w M) r := by
  have hold : ∀ b, b < w.heap.size → w'.heap[b]? = w.heap[b]? := fun b hb => by
    cases hm : pI M L b with
    | none => exact (le.oM b hb hm).2
    | some t =>
      have := qD _ _ hm
      subst this
      exact (le.own b 0 hm (by omega)).2 (by omega)
  refine ⟨⟨fun b t h => ?_, fun b b' t ht1 h h' => ?_⟩, ⟨le.size, le.os, le.tape, le.out, fun b hb hm => ⟨?_, hold b hb⟩, fun b t hm _ => ⟨?_, fun _ => hold b (wf.lt b t hm)⟩⟩, hp _ _ _ _ _ hr⟩
  · unfold lP at h
    split at h
    · exact Nat.lt_of_lt_of_le ‹_› le.size
    · cases h
  · unfold lP at h h'
    split at h <;> split at h' <;> first | exact wf.inj b b' t ht1 h h' | cases h | cases h'
  · simp [lP, hm]
  · simp [lP, wf.lt b t hm, hm]
omit T in
theorem z9 (L : List Nat) {f : FuncId} {args : List Ty} {res : Ty} (hF : dK P f args res) {xs : List Operand} {ats : Array TypeId} {ss : List Ty} (hx : mw A fr xs = ss) (hl : x9 L ss args) (hp : res.Plain)
 (h : av P fr ops rest (A.set d res) fun A' l => K A' ((A, { d := some d, ty := res, rs := xs.flatMap bw }) :: l)) : av P fr ops (⟨some d, .call ⟨.value (.func f), xs.toArray, ats⟩, t, p, e, none⟩ :: rest) A K := by
 refine ⟨{ d := some d, ty := res, rs := xs.flatMap bw }, ⟨rfl, by simp, by simp, by simp, fun a w M wf _ hrd _ => ?_⟩, h⟩
 rw [if_pos (by simp [Region.wanted])]
 have hv : cB w M ss (xs.map a.eval) := hx ▸ gF hrd fun x hx c hc => List.mem_flatMap.2 ⟨x, hx, hc⟩
 have hc := hF.2 w _ _ (EG (L := L) wf) qD (v9 wf hl hv)
 have hrun : (execOp a.eval ⟨some d, .call ⟨.value (.func f), xs.toArray, ats⟩, t, p, e, none⟩).run P w = .ok (.enter f (xs.map a.eval).toArray) w := by
  simp [execOp, resolve, Act.eval, Deferred.ofValue, invoke, lD hF]
 refine kH hrun ?_
 refine hc.mono fun en w' ⟨r, M', he, _, le, hden⟩ => ?_
 obtain ⟨h1, h2, h3⟩ := wg wf le hp hden
 exact ⟨r, he, r, rfl, _, h1, h2, h3, by simp⟩
end
end Go.T
namespace Go.T
open Go Go.RowKit
def oZ (M : bB) : bB := fun b => match M b with | some 0 => some 0 | _ => none
def iE (s t : Ty) : Prop := ∀ w M v, Wf w M → s.den w M v → t.den w (oZ M) v
theorem sw {M : bB} {b : Nat} (h : M b = none) : oZ M b = none := by simp [oZ, h]
theorem EW {M : bB} {b t : Nat} (h : M b = some (t + 1)) : oZ M b = none := by simp [oZ, h]
theorem Ef {M : bB} {b : Nat} (h : M b = some 0) : oZ M b = some 0 := by simp [oZ, h]
theorem yY {M : bB} {b t : Nat} (h : oZ M b = some t) : t = 0 ∧ M b = some 0 := by
 unfold oZ at h
 split at h
 ·rename_i h'; injection h with h; exact ⟨h.symm, h'⟩
 cases h
theorem rL {w : World} {M : bB} (wf : Wf w M) : Wf w (oZ M) :=
 ⟨fun b t h => wf.lt b 0 (yY h).2, fun b b' t _ h _ => by have := (yY h).1; omega⟩
theorem bY {t : Ty} (h1 : t.deps = []) (h2 : t.cdeps = []) : iE t t := fun w M v _ h =>
 t.mono (S := fun _ => True) (K := fun _ => True) ⟨Nat.le_refl _, rfl, rfl, rfl, fun b _ hm => ⟨sw hm, rfl⟩, fun b t _ h => absurd trivial h⟩ (by rw [h1]; intro _ h; cases h) (by rw [h2]; intro _ h; cases h) h
theorem ah {s t : Ty} (h1 : t.deps = []) (h2 : t.cdeps = []) (h : s = t) : iE s t := by subst h; exact bY h1 h2
theorem jT {α : Type} {E : El α} {T tg : Nat} {xs : List α} (h : 1 ≤ tg) : iE (Ty.row E T tg xs) (Ty.sl E xs) := fun w M v wf hr =>
 w7 wf hr (fun b hb => by obtain ⟨u, rfl⟩ : ∃ u, tg = u + 1 := ⟨tg - 1, by omega⟩; exact EW hb) (fun b hb => sw hb)
theorem vm {α : Type} {E : El α} {T tg : Nat} {xs ys : List α} (h : 1 ≤ tg) (e : xs = ys) : iE (Ty.row E T tg xs) (Ty.sl E ys) := e ▸ jT h
theorem mE {α : Type} {E : El α} : iE (Ty.ex (.slice none 0 0)) (Ty.sl E []) := fun _ _ _ _ h => Ty.tQ _ _ _ h
def pz : List Ty → List Ty → Prop
  | [], [] => True
  | s :: ss, t :: ts => iE s t ∧ pz ss ts
  | _, _ => False
theorem Bx : pz [] [] := trivial
theorem p4 {s t : Ty} {ss ts : List Ty} (h : iE s t) (h' : pz ss ts) : pz (s :: ss) (t :: ts) := ⟨h, h'⟩
theorem yh {w : World} {M : bB} (wf : Wf w M) : ∀ {ss ts : List Ty} {vs : List Value}, pz ss ts → cB w M ss vs → cB w (oZ M) ts vs
  | [], [], [], _, _ => trivial
  | _ :: _, _ :: _, _ :: _, ⟨h, h'⟩, ⟨h1, h2⟩ => ⟨h _ _ _ wf h1, yh wf h' h2⟩
theorem Dp {ss ts : List Ty} (h : pz ss ts) : iE (Ty.agg ss) (Ty.agg ts) := fun _ _ _ wf ⟨cs, e, hd⟩ => ⟨cs, e, yh wf h hd⟩
theorem og {fr : Fr} {w : World} {M : bB} (hk : ∀ t, fr.kd.JC t → 1 ≤ t) (hb : fr.base w M) : Le (fun t => 1 ≤ t) (fun t => 1 ≤ t) fr.w0 fr.M0 w (oZ M) :=
 ⟨hb.size, hb.os, hb.tape, hb.out, fun b hlt hm => ⟨sw (hb.oM b hlt hm).1, (hb.oM b hlt hm).2⟩, fun b t hm ht => by
  have : t = 0 := by omega
  subst this
  obtain ⟨h1, h2⟩ := hb.own b 0 hm (by omega)
  exact ⟨Ef h1, fun _ => h2 (fun h => by have := hk 0 h; omega)⟩⟩
section
variable {P : Program} {fr : Fr} {A : As} {Q : Exit → Act → World → Prop} {c : Code} {fn : Func} {n : Nat} {w0 : World} {M0 : bB}
theorem bJ {tm : Nat} {res : Ty} (hr : fn.results = #[.tmp tm]) (ht : Nat.blt tm n = true) (hs : iE (A.slots tm) res) : dR ⟨n, w0, M0, [], .plain⟩ A (bodyPost P fn (mL w0 M0 res) .ret) := by
 intro a w ⟨M, ok, hsl, _⟩
 exact ⟨ok.gw (by simp), _, results_tmp hr _ _ _, _, oZ M, rfl, rL ok.wf, og (fr := ⟨n, w0, M0, [], .plain⟩) (fun _ h => h) ok.base, hs _ _ _ ok.wf (hsl tm (by simpa using ht))⟩
theorem eX {t1 t2 : Nat} {r1 r2 : Ty} (hr : fn.results = #[.tmp t1, .tmp t2]) (h1 : Nat.blt t1 n = true) (h2 : Nat.blt t2 n = true) (hs1 : iE (A.slots t1) r1) (hs2 : iE (A.slots t2) r2) :
 dR ⟨n, w0, M0, [], .plain⟩ A (bodyPost P fn (mL w0 M0 (Ty.kD [r1, r2])) .ret) := by
 intro a w ⟨M, ok, hsl, _⟩
 exact ⟨ok.gw (by simp), _, results_tmp2 hr _ _ _, _, oZ M, rfl, rL ok.wf, og (fr := ⟨n, w0, M0, [], .plain⟩) (fun _ h => h) ok.base, _, rfl, hs1 _ _ _ ok.wf (hsl t1 (by simpa using h1)), hs2 _ _ _ ok.wf (hsl t2 (by simpa using h2)), trivial⟩
theorem gH {F : Prop} {s : Nat} {ty : Ty} (hs : Nat.blt s fr.n = true) (hx : A.slots s = ty) (hf : ∀ w M v, ty.den w M v → F) (h : F → fU P fr c A Q) : fU P fr c A Q := fun a w ha => by
 obtain ⟨M, ok, hsl, ht⟩ := ha
 have := hsl s (by simpa using hs)
 rw [hx] at this
 exact h (hf _ _ _ this) a w ⟨M, ok, hsl, ht⟩
theorem gD {α : Type} {E : El α} {xs : List α} (w : World) (M : bB) (v : Value) (h : (Ty.sl E xs).den w M v) : xs.length ≤ 9223372036854775807 := by
 obtain ⟨A, c, _, h1, h2, _⟩ := h
 simp only [maxLen] at h2; omega
theorem iU {s : Nat} {ty ty' : Ty} (hx : A.slots s = ty) (h : ty.Sub ty') (h' : fU P fr c (A.set s ty') Q) : fU P fr c A Q := fun a w ⟨M, ok, hsl, ht⟩ =>
  h' a w ⟨M, ok, fun i hi => by
    show ((A.set s ty').slots i).den w M _
    simp only [As.set]
    cases hb : Nat.beq i s with
    | false => exact hsl i hi
    | true =>
      have : i = s := Nat.eq_of_beq_eq_true hb
      subst this
      exact h _ _ _ (hx ▸ hsl i hi), ht⟩
end
def gb {α : Type} (E : El α) (T : Nat) (xs : List α) (w : World) (M : bB) (t : Nat) : Prop :=
  xs = [] ∨ ∃ b cs, M b = some t ∧ w.heap[b]? = some (.cells cs T (0, 0)) ∧ cB w M (xs.flatMap E.tys) (cs.toList.take (xs.flatMap E.tys).length)
theorem AE {α : Type} {E : El α} {T : Nat} {xs : List α} {w : World} {M : bB} {t : Nat} (h : dY T (xs.flatMap E.tys) w M t) : gb E T xs w M t := by
 obtain ⟨b, cs, h1, h2, h3⟩ := h
 exact .inr ⟨b, cs, h1, h2, by rw [← cL h3, List.take_length]; exact h3⟩
def Cont.vec {α : Type} (E : El α) (T : Nat) (xs : List α) : Cont :=
  { den := gb E T xs, mono := fun le _ _ hs hk h => h.imp id fun ⟨b, cs, h1, h2, h3⟩ => let ⟨h4, h5⟩ := le.own b _ h1 hk
    ⟨b, cs, h4, (h5 hs).trans h2, bQ le (by rw [E.cO]; intro _ h; cases h) (by rw [E.cD]; intro _ h; cases h) h3⟩ }
theorem Cont.fF {α : Type} {E : El α} {T : Nat} {xs ys : List α} (h : xs = ys) : (Cont.vec E T xs).Sub (Cont.vec E T ys) := h ▸ Cont.aF _
theorem Cont.m7 {T : Nat} {l l' : List Ty} (h : l = l') : (Cont.cells T l).Sub (Cont.cells T l') := h ▸ Cont.aF _
def qd (tg n : Nat) (_ : World) (M : bB) (x : Value) : Prop := (n = 0 ∧ x = .slice none 0 0) ∨ ∃ b c, M b = some tg ∧ x = .slice (some ⟨b, 0, none⟩) n c ∧ n ≤ c ∧ c ≤ maxLen
def Ty.vs (tg n : Nat) : Ty := ⟨qd tg n, [tg], [], fun le hk _ h => h.imp id fun ⟨b, c, h, e, h1, h2⟩ => ⟨b, c, (le.own b tg h (hk tg (by simp))).1, e, h1, h2⟩, true, fun _ h => by
  rcases h with ⟨_, rfl⟩ | ⟨_, _, _, rfl, _⟩ <;> rfl⟩
section
variable {P : Program} {fr : Fr} {ops : Array Oper} {A : As} {rest : List Oper} {K : As → List (As × Fx) → Prop} {d : Nat} {t ty' : TypeId} {p : String} {e : Array Edge} [T : kf P]
theorem BQ {α : Type} {E : El α} {xs : List α} {ti : TI} (hT : T.eE[ty']? = some ti) (hz : ti.zero ≠ []) (hzx : ti.zero.map Ty.ko = xs.flatMap E.tys) (hp : fr.pass.contains (d + 1) = false)
 (h : av P fr ops rest (A.after { d := some d, ty := .ptr (d + 1) 0, K := [d + 1], sets := [(d + 1, .vec E ty' xs)] }) fun A' l' => K A' ((A, { d := some d, ty := .ptr (d + 1) 0, K := [d + 1], sets := [(d + 1, .vec E ty' xs)] }) :: l')) :
 av P fr ops (⟨some d, .alloc ty', t, p, e, none⟩ :: rest) A K := by
 refine ⟨_, gC rfl rfl (by simp) (by simp) (by simp at hp ⊢; exact hp) fun a w M wf _ _ => ?_, h⟩
 obtain ⟨z, hz1, hz2⟩ := o7 hT hz w
 obtain ⟨h1, h2, h3⟩ := kQ wf (.cells z.cells ty') (d + 1)
 refine ⟨.pointer (some ⟨w.heap.size, 0, none⟩), w.alloc (.cells z.cells ty'), ?_, _, h1, h2, ⟨_, h3, rfl⟩, ?_⟩
 ·simp [execOp, Instr.alloc, newVar, newRow, newObj, Sem.run, hz1]
 intro x hx
 simp only [List.mem_singleton] at hx
 subst hx
 exact AE ⟨w.heap.size, z.cells, h3, gO _ _, by rw [hz2, ← hzx]; exact mD _ _ _⟩
theorem ur {α : Type} {E : El α} {x0 : α} {x y : Operand} {k k' : IntKind} {n : Int} {el : Nat} {ti te : TI} (hx : A.op fr x = .int k n) (hy : A.op fr y = .int k' n) (hT : T.eE[ty']? = some ti) (hk : ti.k = .slice el) (hE : T.eE[el]? = some te) (hs : te.size = E.size) (hz : te.zero.map Ty.ko = E.tys x0) (hzp : 0 < te.size) (hp : fr.pass.contains (d + 1) = false)
    (hn : 0 ≤ n) (hlen : (te.bytes : Int) * n ≤ 281474976710656) (hlen' : n ≤ 9223372036854775807)
    (h : av P fr ops rest (A.after { d := some d, ty := .vs (d + 1) n.toNat, K := [d + 1], sets := [(d + 1, .vec E el (List.replicate n.toNat x0))], rs := bw x ++ bw y }) fun A' l' => K A' ((A, { d := some d, ty := .vs (d + 1) n.toNat, K := [d + 1], sets := [(d + 1, .vec E el (List.replicate n.toNat x0))], rs := bw x ++ bw y }) :: l')) :
    av P fr ops (⟨some d, .makeSlice ty' x y, t, p, e, none⟩ :: rest) A K := by
  refine ⟨_, gC rfl rfl (by simp) (by simp) (by simp at hp ⊢; exact hp) fun a w M wf hr _ => ?_, h⟩
  obtain ⟨hdx, hdy⟩ := op2 hr
  rw [hx] at hdx; rw [hy] at hdy
  have ex : a.eval x = .int k n := hdx
  have ey : a.eval y = .int k' n := hdy
  obtain ⟨_, D, _, hD, hkd, _⟩ := ct hT
  rw [hk] at hkd
  cases D <;> simp only [TK.of, reduceCtorEq, TK.slice.injEq] at hkd
  rename_i el0
  have hel : el0 = el := hkd
  subst hel
  obtain ⟨i, _, hi, _, _, hsz, hby, hze⟩ := ct hE
  have hzl : te.zero.length = te.size := by rw [← List.length_map (f := Ty.ko), hz, E.len, hs]
  obtain ⟨z, hiz⟩ : ∃ z, i.zero = some z := by
    cases hiz : i.zero with
    | none => rw [hiz] at hze; rw [← hze] at hzl; simp at hzl; omega
    | some z => exact ⟨z, rfl⟩
  rw [hiz] at hze
  have hrun := run_make (P := P) w ty' _ i z hD hi hiz k k' n n hn (Int.le_refl _) (by rw [hby]; exact hlen) hlen'
  obtain ⟨h1, h2, h3⟩ := kQ wf (.cells (madeCells z.cells (n.toNat * i.size)) el0) (d + 1)
  refine ⟨_, _, by simp [execOp, ex, ey, hrun], _, h1, h2, .inr ⟨_, _, h3, rfl, Nat.le_refl _, by simp only [maxLen]; omega⟩, ?_⟩
  intro x hx
  simp only [List.mem_singleton] at hx
  subst hx
  refine AE ⟨w.heap.size, _, h3, gO _ _, ?_⟩
  have hzs : z.cells.size = te.size := by rw [← hzl, ← hze]; simp
  refine gB (by rw [cq]; simp [madeCells, hsz, hs]) fun j ty hj => ?_
  have hjl : j < n.toNat * te.size := by
    have := (List.getElem?_eq_some_iff.1 hj).1
    rw [cq, List.length_replicate, ← hs] at this; exact this
  have hq : j / te.size < n.toNat := Nat.div_lt_of_lt_mul (by rw [Nat.mul_comm]; exact hjl)
  have hm : j % te.size < te.size := Nat.mod_lt _ hzp
  have hget := sL E (List.replicate n.toNat x0) (j / te.size) (j % te.size) (by simpa using hq) (by rw [← hs]; exact hm)
  have hdecomp : j / te.size * E.size + j % te.size = j := by rw [← hs, Nat.mul_comm]; exact Nat.div_add_mod j te.size
  rw [hdecomp, hj] at hget
  simp only [List.getElem?_replicate, hq, if_true, Option.bind_some] at hget
  rw [← hz, List.getElem?_map] at hget
  obtain ⟨u, hu, hty⟩ := Option.map_eq_some_iff.1 hget.symm
  refine ⟨u, ?_, hty ▸ nM _ _ _⟩
  have hu' : z.cells[j % z.cells.size]? = some u := by rw [hzs]; rw [← hze] at hu; simpa using hu
  simp only [madeCells, Array.toList_map, List.getElem?_map, Array.toList_range, hsz]
  rw [List.getElem?_range hjl]
  simp only [Option.map_some]
  rw [getElem!_def, hu']
theorem fQ {x y : Operand} {tg n : Nat} {k : IntKind} {i : Int} {ti te : TI} {el : Nat} (hx : A.op fr x = .vs tg n) (hy : A.op fr y = .int k i) (hT : T.eE[ty']? = some ti) (hk : ti.k = .slice el) (hE : T.eE[el]? = some te) (h0 : 0 ≤ i) (h1 : i.toNat < n)
 (h : av P fr ops rest (A.set d (.ptr tg (i.toNat * te.size))) fun A' l' => K A' ((A, { d := some d, ty := .ptr tg (i.toNat * te.size), rs := bw x ++ bw y }) :: l')) : av P fr ops (⟨some d, .indexAddr ty' x y, t, p, e, none⟩ :: rest) A K :=
 bE (bL rfl rfl fun a w M _ hr _ => by
  obtain ⟨hdx, hdy⟩ := op2 hr
  rw [hx] at hdx; rw [hy] at hdy
  rcases hdx with ⟨h0, _⟩ | ⟨b, c, hb, ex, _⟩
  ·omega
  have ey : a.eval y = .int k i := hdy
  refine ⟨_, by simp only [execOp, ex, ey, Sem.run_bind, gq hT hk hE h0 h1]; rfl, b, hb, ?_⟩
  simp) h
theorem cx {x y : Operand} {tg n : Nat} {k : IntKind} {i : Nat} {ti te : TI} {el : Nat} (hx : A.op fr x = .vs tg n) (hy : A.op fr y = .int k i) (hT : T.eE[ty']? = some ti) (hk : ti.k = .slice el) (hE : T.eE[el]? = some te) (h1 : i < n)
 (h : av P fr ops rest (A.set d (.ptr tg (i * te.size))) fun A' l' => K A' ((A, { d := some d, ty := .ptr tg (i * te.size), rs := bw x ++ bw y }) :: l')) : av P fr ops (⟨some d, .indexAddr ty' x y, t, p, e, none⟩ :: rest) A K :=
 fQ hx hy hT hk hE (Int.natCast_nonneg _) h1 h
theorem nx {α : Type} {E : El α} {Tb : Nat} {xs : List α} {tg : Nat} (h : A.tag tg = some (.vec E Tb xs)) : ∀ w M, (∀ x ∈ A.tags, x.1 ∈ [tg] → x.2.den w M x.1) → gb E Tb xs w M tg := fun _ _ ht => ht _ (cW h) (by simp)
theorem lz {α : Type} {E : El α} {Tb b tg off : Nat} {xs : List α} {w : World} {M : bB} {ty : Ty} (wf : Wf w M) (h1 : fN tg) (hb : M b = some tg) (h : gb E Tb xs w M tg) (hl : (xs.flatMap E.tys)[off]? = some ty) : ∃ v, w.cell? ⟨b, off, none⟩ = some v ∧ ty.den w M v := by
 rcases h with rfl | ⟨b', cs, hb', hh, hd⟩
 ·simp at hl
 obtain ⟨u, rfl⟩ : ∃ u, tg = u + 1 := ⟨tg - 1, by omega⟩
 have := wf.inj b b' u (by omega) hb hb'
 subst this
 obtain ⟨v, hv, hdv⟩ := dG hd off ty hl
 rw [List.getElem?_take] at hv
 split at hv
 ·exact ⟨v, by simpa [World.cell?, hh] using hv, hdv⟩
 cases hv
theorem qp {α : Type} [Inhabited α] {E : El α} {xs : List α} {x : Operand} {tg i o Tb : Nat} {ti : TI} {ty : Ty} (hx : A.op fr x = .ptr tg (i * E.size + o)) (hc : A.tag tg = some (.vec E Tb xs)) (h1 : fN tg) (hT : T.eE[ty']? = some ti) (ha : ti.k.agg = false) (hi : i < xs.length) (hl : (E.tys (nth xs i))[o]? = some ty)
 (h : av P fr ops rest (A.set d ty) fun A' l => K A' ((A, { d := some d, ty := ty, rs := bw x, rt := [tg] }) :: l)) : av P fr ops (⟨some d, .load ty' x, t, p, e, none⟩ :: rest) A K :=
 bE (bL rfl rfl fun a w M wf hr ht => by
  have := cE (x := x) (fun _ h => h) hr
  rw [hx] at this
  obtain ⟨b, hb, e⟩ := this
  obtain ⟨v, hv, hd⟩ := lz wf h1 hb (nx hc w M ht) (lO E xs hi o ty hl)
  exact ⟨v, by simp [execOp, e, gz hT ha hv], hd⟩) h
theorem vT {α : Type} [Inhabited α] (E : El α) {y : α} {o : Nat} {ty : Ty} : ∀ (xs : List α) (i : Nat), i < xs.length → (E.tys (nth xs i)).set o ty = E.tys y → o < E.size → (xs.flatMap E.tys).set (i * E.size + o) ty = (xs.set i y).flatMap E.tys
  | [], i, h, _, _ => absurd h (Nat.not_lt_zero _)
  | x :: xs, 0, _, hy, ho => by
    have hy : (E.tys x).set o ty = E.tys y := hy
    rw [List.set_cons_zero, List.flatMap_cons, List.flatMap_cons, ← hy, Nat.zero_mul, Nat.zero_add, List.set_append, if_pos (by rw [E.len]; exact ho)]
  | x :: xs, i + 1, h, hy, ho => by
    have ih := vT E xs i (by simpa using h) hy ho
    rw [List.set_cons_succ, List.flatMap_cons, List.flatMap_cons, ← ih, List.set_append, if_neg (by rw [E.len, Nat.succ_mul]; omega), E.len]
    congr 2
    rw [Nat.succ_mul]; omega
theorem uL {α : Type} [Inhabited α] {E : El α} {xs : List α} {x y : Operand} {tg i o Tb : Nat} {ti : TI} {ty : Ty} {z : α} (hx : A.op fr x = .ptr tg (i * E.size + o)) (hc : A.tag tg = some (.vec E Tb xs)) (h1 : fN tg) (hT : T.eE[ty']? = some ti) (hsz : ti.size = 1) (hy : A.op fr y = ty) (ho : ty.one = true) (hi : i < xs.length) (hoe : o < E.size)
 (hdt : lS ty.cdeps [tg] = true) (hl : (E.tys (nth xs i)).set o ty = E.tys z)
 (h : av P fr ops rest (A.after { d := none, S := [tg], sets := [(tg, .vec E Tb (xs.set i z))], rs := bw x ++ bw y, rt := [tg] }) fun A' l'' => K A' ((A, { d := none, S := [tg], sets := [(tg, .vec E Tb (xs.set i z))], rs := bw x ++ bw y, rt := [tg] }) :: l'')) :
 av P fr ops (⟨none, .store ty' x y, t, p, e, none⟩ :: rest) A K := by
 refine ⟨_, jU rfl rfl rfl (by simp) (by simpa using h1.1) (by simp) fun a w M wf hr ht => ?_, h⟩
 obtain ⟨hdx, hdy⟩ := op2 hr
 rw [hx] at hdx; rw [hy] at hdy
 obtain ⟨b, hb, ex⟩ := hdx
 rcases nx hc w M ht with rfl | ⟨b', cs, hb', hh, hd⟩
 ·exact absurd hi (Nat.not_lt_zero _)
 obtain ⟨u, rfl⟩ : ∃ u, tg = u + 1 := ⟨tg - 1, by omega⟩
 have := wf.inj b b' u (by omega) hb hb'
 subst this
 have hone := ty.isOne ho hdy
 have hlen := cL hd
 have hoff : i * E.size + o < cs.size := by
  rw [cq, List.length_take] at hlen
  have : (i + 1) * E.size ≤ xs.length * E.size := Nat.mul_le_mul_right _ hi
  rw [Nat.succ_mul] at this
  simp at hlen; omega
 have hcells : (a.eval y).cells = #[a.eval y] := by
  cases hv : a.eval y <;> first | rfl | (rw [hv] at hone; simp [Value.oneCell'] at hone)
 have hcell : w.cell? ⟨b, i * E.size + o, none⟩ = some cs[i * E.size + o] := by simp [World.cell?, hh]
 have hfz : w.frozen? ⟨b, i * E.size + o, none⟩ = false := by simp [World.frozen?, hh]
 obtain ⟨h1', h2', h3'⟩ := iF wf hb _ (gJ hh (off := i * E.size + o) (a.eval y))
 refine ⟨w.setCell ⟨b, i * E.size + o, none⟩ (a.eval y), ?_, M, h1', h2', trivial, ?_⟩
 ·have hst := run_store P w ⟨b, i * E.size + o, none⟩ (a.eval y) .plain hone
  rw [hcell] at hst
  simp only [hfz] at hst
  simp [execOp, Instr.storeAt, Instr.sureAddr, ex, storeVar, hcells, dH hT, hsz, storeCells, hst, Addr.add]
 intro z' hz'
 simp only [List.mem_singleton] at hz'
 subst hz'
 refine .inr ⟨b, _, hb, h3', ?_⟩
 rw [Array.toList_setIfInBounds, ← vT E xs i hi hl hoe, List.length_set, List.take_set]
 exact lR (bQ h2' (by intro _ _ h; cases h) (by rw [E.cD]; intro _ h; cases h) hd) (ty.mono h2' (by intro _ _ h; cases h) (gN hdt) hdy)
end
end Go.T
namespace Go.T
open Go Go.RowKit
section
variable {P : Program} {fr : Fr} {ops : Array Oper} {A : As} {rest : List Oper} {K : As → List (As × Fx) → Prop} {d : Nat} {t ty' : TypeId} {p : String} {e : Array Edge} [T : kf P]
variable {α : Type} [Inhabited α] {E : El α} {xs : List α} {x y : Operand} {tg i o s Tb : Nat} {ti : TI} {ty : Ty} {z : α}
theorem eV (hx : A.op fr x = .ptr tg (0 + i * s)) (hc : A.tag tg = some (.vec E Tb xs)) (hs : s = E.size) (h1 : fN tg) (hT : T.eE[ty']? = some ti) (ha : ti.k.agg = false) (hi : i < xs.length) (hl : (E.tys (nth xs i))[0]? = some ty)
 (h : av P fr ops rest (A.set d ty) fun A' l => K A' ((A, { d := some d, ty := ty, rs := bw x, rt := [tg] }) :: l)) : av P fr ops (⟨some d, .load ty' x, t, p, e, none⟩ :: rest) A K :=
 qp (o := 0) (by rw [hx, hs, Nat.zero_add, Nat.add_zero]) hc h1 hT ha hi hl h
theorem cX (hx : A.op fr x = .ptr tg (i * s)) (hc : A.tag tg = some (.vec E Tb xs)) (hs : s = E.size) (h1 : fN tg) (hT : T.eE[ty']? = some ti) (ha : ti.k.agg = false) (hi : i < xs.length) (hl : (E.tys (nth xs i))[0]? = some ty)
 (h : av P fr ops rest (A.set d ty) fun A' l => K A' ((A, { d := some d, ty := ty, rs := bw x, rt := [tg] }) :: l)) : av P fr ops (⟨some d, .load ty' x, t, p, e, none⟩ :: rest) A K :=
 qp (o := 0) (by rw [hx, hs, Nat.add_zero]) hc h1 hT ha hi hl h
theorem eU (hx : A.op fr x = .ptr tg (i * s + o)) (hc : A.tag tg = some (.vec E Tb xs)) (hs : s = E.size) (h1 : fN tg) (hT : T.eE[ty']? = some ti) (ha : ti.k.agg = false) (hi : i < xs.length) (hl : (E.tys (nth xs i))[o]? = some ty)
 (h : av P fr ops rest (A.set d ty) fun A' l => K A' ((A, { d := some d, ty := ty, rs := bw x, rt := [tg] }) :: l)) : av P fr ops (⟨some d, .load ty' x, t, p, e, none⟩ :: rest) A K :=
 qp (by rw [hx, hs]) hc h1 hT ha hi hl h
theorem sA (hx : A.op fr x = .ptr tg (0 + i * s)) (hc : A.tag tg = some (.vec E Tb xs)) (hs : s = E.size) (h1 : fN tg) (hT : T.eE[ty']? = some ti) (hsz : ti.size = 1) (hy : A.op fr y = ty) (ho : ty.one = true) (hi : i < xs.length) (hoe : 0 < E.size) (hdt : lS ty.cdeps [tg] = true) (hl : (E.tys (nth xs i)).set 0 ty = E.tys z)
 (h : av P fr ops rest (A.after { d := none, S := [tg], sets := [(tg, .vec E Tb (xs.set i z))], rs := bw x ++ bw y, rt := [tg] }) fun A' l'' => K A' ((A, { d := none, S := [tg], sets := [(tg, .vec E Tb (xs.set i z))], rs := bw x ++ bw y, rt := [tg] }) :: l'')) :
 av P fr ops (⟨none, .store ty' x y, t, p, e, none⟩ :: rest) A K :=
 uL (o := 0) (by rw [hx, hs, Nat.zero_add, Nat.add_zero]) hc h1 hT hsz hy ho hi hoe hdt hl h
theorem jg (hx : A.op fr x = .ptr tg (i * s)) (hc : A.tag tg = some (.vec E Tb xs)) (hs : s = E.size) (h1 : fN tg) (hT : T.eE[ty']? = some ti) (hsz : ti.size = 1) (hy : A.op fr y = ty) (ho : ty.one = true) (hi : i < xs.length) (hoe : 0 < E.size) (hdt : lS ty.cdeps [tg] = true) (hl : (E.tys (nth xs i)).set 0 ty = E.tys z)
 (h : av P fr ops rest (A.after { d := none, S := [tg], sets := [(tg, .vec E Tb (xs.set i z))], rs := bw x ++ bw y, rt := [tg] }) fun A' l'' => K A' ((A, { d := none, S := [tg], sets := [(tg, .vec E Tb (xs.set i z))], rs := bw x ++ bw y, rt := [tg] }) :: l'')) :
 av P fr ops (⟨none, .store ty' x y, t, p, e, none⟩ :: rest) A K :=
 uL (o := 0) (by rw [hx, hs, Nat.add_zero]) hc h1 hT hsz hy ho hi hoe hdt hl h
end
def OW (l : List Ty) : Prop := cC l = [] ∧ bX l = [] ∧ l.all Ty.one = true
def El.mk' {α : Type} (n : Nat) (f : α → List Ty) (h : ∀ x, (f x).length = n) (h' : ∀ x, OW (f x)) : El α := ⟨n, f, h, fun x => (h' x).1, fun x => (h' x).2.1, fun x => (h' x).2.2⟩
end Go.T
namespace Go.T
open Go Go.RowKit
section
variable {P : Program} {fr : Fr} {ops : Array Oper} {A : As} {rest : List Oper} {K : As → List (As × Fx) → Prop} {d : Nat} {t ty' : TypeId} {p : String} {e : Array Edge} {x y z : Operand} {k : IntKind} {n : Int} {b : Bool} {l : List Ty}
theorem aO {o : Oper} {f : Fx} (h : av P fr ops [o] A fun _ l => l = [(A, f)]) : wu P fr ops o A f := by
 obtain ⟨g, hg, hK⟩ := h
 have hK : [(A, g)] = [(A, f)] := hK
 simp only [List.cons.injEq, Prod.mk.injEq, and_true, true_and] at hK
 exact hK ▸ hg
theorem aH {o : Oper} {f : Fx} {s : Nat} {g : Bool} {ty : Ty} (hs : A.slots s = .gd g ty) (hg : g = true) (h : wu P fr ops o (A.set s ty) f) : wu P fr ops o A f := by
  obtain ⟨h1, h2, h3, h4, h5⟩ := h
  refine ⟨h1, h2, h3, h4, fun a w M wf hsz hr ht => h5 a w M wf hsz (fun c hc hcn => ?_) ht⟩
  have := hr c hc hcn
  simp only [As.set]
  cases hb : Nat.beq c s with
  | false => exact this
  | true =>
    have e : c = s := Nat.eq_of_beq_eq_true hb
    subst e
    rw [hs] at this
    exact this.1 hg
def ot (ops : Array Oper) (j : Nat) : Option Nat := (ops[j]?).bind (·.dst)
theorem lE {a : Act} {j s : Nat} {c : Bool} (hs : ot ops j = some s) (hn : s < a.tmps.size) (hv : a.tmps.getD s undef = .bool c) : yielded ops a.tmps j = some c := by
 unfold yielded
 unfold ot at hs
 rw [hs]
 have : a.tmps[s]? = some (.bool c) := by
  rw [Array.getElem?_eq_getElem hn]
  rw [Array.getD_eq_getD_getElem?, Array.getElem?_eq_getElem hn] at hv
  simpa using hv
 simp [this]
theorem qN {a : Act} {j s : Nat} (hs : ot ops j = some s) (hn : s < a.tmps.size) (hv : a.tmps.getD s undef = undef) : yielded ops a.tmps j = none := by
 unfold yielded
 unfold ot at hs
 rw [hs]
 have : a.tmps[s]? = some undef := by
  rw [Array.getElem?_eq_getElem hn]
  rw [Array.getD_eq_getD_getElem?, Array.getElem?_eq_getElem hn] at hv
  simpa using hv
 simp [this, undef]
def iz (d s : Nat) (g : Bool) (f : Fx) : Fx := { d := some d, ty := .gd g f.ty, rs := s :: f.rs, rt := f.rt }
theorem xg {op : Op} {j s : Nat} {want g : Bool} {gt : Ty} {f : Fx} (hs : ot ops j = some s) (hn : Nat.blt s fr.n = true) (hgt : A.slots s = gt)
    (hg : ∀ w M v, gt.den w M v → (g = true → v = .bool want) ∧ (g = false → v = .bool (!want) ∨ v = undef))
    (h1 : g = true → wu P fr ops ⟨some d, op, t, p, e, none⟩ A f) (hS : f.S = []) (hK : f.K = []) :
    wu P fr ops ⟨some d, op, t, p, e, some (j, want)⟩ A (iz d s g f) := by
  refine ⟨rfl, by simp [iz], by simp [iz], by simp [iz], fun a w M wf hsz hr ht => ?_⟩
  have hn' : s < fr.n := by simpa using hn
  have hv := hr s (by simp [iz]) hn'
  rw [hgt] at hv
  obtain ⟨hv1, hv2⟩ := hg _ _ _ hv
  cases g with
  | true =>
    have hy := lE (ops := ops) hs (by rw [hsz]; exact hn') (hv1 rfl)
    rw [if_pos (by simp [Region.wanted, hy])]
    obtain ⟨hd, _, _, _, h5⟩ := h1 rfl
    have h6 := h5 a w M wf hsz (fun c hc hcn => hr c (by simp [iz, hc]) hcn) (fun x hx hxr => ht x hx hxr)
    rw [if_pos (by simp [Region.wanted])] at h6
    refine Oper.tR (o := ⟨some d, op, t, p, e, some (j, want)⟩) (K := fun a' w' => ∃ v, a' = a.put (some d) v ∧ f.left w M w' v) ?_ h6
    rintro a' w' ⟨v, ha, M', wf', le, hty, _⟩
    rw [hS, hK] at le
    exact ⟨v, ha, M', wf', le, ⟨fun _ => hty, fun h => (by cases h)⟩, by simp [iz]⟩
  | false =>
    have hy : yielded ops a.tmps j ≠ some want := by
      rcases hv2 rfl with hv | hv
      · rw [lE (ops := ops) hs (by rw [hsz]; exact hn') hv]; cases want <;> simp
      · rw [qN (ops := ops) hs (by rw [hsz]; exact hn') hv]; simp
    rw [if_neg (by simpa [Region.wanted] using hy)]
    exact ⟨M, wf, Le.refl _ _ _ _, ⟨fun h => (by cases h), fun _ => rfl⟩, by simp [iz]⟩
theorem aJ {op : Op} {j s : Nat} {want c : Bool} {f : Fx} (hs : ot ops j = some s) (hn : Nat.blt s fr.n = true) (hc : A.slots s = .bool c) (h1 : c = want → wu P fr ops ⟨some d, op, t, p, e, none⟩ A f) (hS : f.S = []) (hK : f.K = [])
 (h : av P fr ops rest (A.set d (.gd (c == want) f.ty)) fun A' l' => K A' ((A, iz d s (c == want) f) :: l')) : av P fr ops (⟨some d, op, t, p, e, some (j, want)⟩ :: rest) A K :=
 ⟨iz d s (c == want) f, xg hs hn hc (fun w M v hv => by
  have hv : v = .bool c := hv
  subst hv
  cases c <;> cases want <;> simp) (fun hg => h1 (by simpa using hg)) hS hK, h⟩
theorem gr {op : Op} {j s : Nat} {want g c : Bool} {f : Fx} (hs : ot ops j = some s) (hn : Nat.blt s fr.n = true) (hc : A.slots s = .gd g (.bool c)) (h1 : g = true → c = want → wu P fr ops ⟨some d, op, t, p, e, none⟩ A f) (hS : f.S = []) (hK : f.K = [])
    (h : av P fr ops rest (A.set d (.gd (g && (c == want)) f.ty)) fun A' l' => K A' ((A, iz d s (g && (c == want)) f) :: l')) : av P fr ops (⟨some d, op, t, p, e, some (j, want)⟩ :: rest) A K :=
  ⟨iz d s (g && (c == want)) f, xg hs hn hc (fun w M v hv => by
    cases g with
    | true =>
      have hv : v = .bool c := hv.1 rfl
      subst hv
      cases c <;> cases want <;> simp
    | false => exact ⟨fun h => (by cases h), fun _ => .inr (hv.2 rfl)⟩) (fun hg => by simp only [Bool.and_eq_true, beq_iff_eq] at hg; exact h1 hg.1 hg.2) hS hK, h⟩
theorem eC {c : Operand} {b1 b2 : Bool} (hc : A.op fr c = .bool b1) (hy : A.op fr y = .gd (b1 == true) (.bool b2))
    (h : av P fr ops rest (A.set d (.bool (b1 && b2))) fun A' l' => K A' ((A, { d := some d, ty := .bool (b1 && b2), rs := bw c ++ bw y }) :: l')) : av P fr ops (⟨some d, .pick c y (.const (.bool false)), t, p, e, none⟩ :: rest) A K :=
  bE (bL rfl rfl fun a w M _ hrd _ => by
    obtain ⟨hdc, hdy⟩ := op2 hrd
    rw [hc] at hdc; rw [hy] at hdy
    have ec : a.eval c = .bool b1 := hdc
    cases b1 with
    | true =>
      have ey : a.eval y = .bool b2 := hdy.1 rfl
      exact ⟨.bool b2, by simp only [execOp, ec, ey]; simp [asBool], rfl⟩
    | false => exact ⟨.bool false, by simp only [execOp, ec]; simp [asBool, Act.eval], rfl⟩) h
theorem iC {c : Operand} {b1 b2 : Bool} (hc : A.op fr c = .bool b1) (hy : A.op fr y = .gd (b1 == false) (.bool b2))
    (h : av P fr ops rest (A.set d (.bool (b1 || b2))) fun A' l' => K A' ((A, { d := some d, ty := .bool (b1 || b2), rs := bw c ++ bw y }) :: l')) : av P fr ops (⟨some d, .pick c (.const (.bool true)) y, t, p, e, none⟩ :: rest) A K :=
  bE (bL rfl rfl fun a w M _ hrd _ => by
    obtain ⟨hdc, hdy⟩ := op2 hrd
    rw [hc] at hdc; rw [hy] at hdy
    have ec : a.eval c = .bool b1 := hdc
    cases b1 with
    | false =>
      have ey : a.eval y = .bool b2 := hdy.1 rfl
      exact ⟨.bool b2, by simp only [execOp, ec, ey]; simp [asBool], rfl⟩
    | true => exact ⟨.bool true, by simp only [execOp, ec]; simp [asBool, Act.eval], rfl⟩) h
theorem bI (hx : A.op fr x = .int k n) (h : av P fr ops rest (A.set d (.int k n)) fun A' l => K A' ((A, { d := some d, ty := .int k n, rs := bw x }) :: l)) : av P fr ops (⟨some d, .move x, t, p, e, none⟩ :: rest) A K := eA hx h
theorem bk (hx : A.op fr x = .int k n) (h : av P fr ops rest (A.set d (.int k n)) fun A' l => K A' ((A, { d := some d, ty := .int k n, rs := bw x }) :: l)) : av P fr ops (⟨some d, .assign x, t, p, e, none⟩ :: rest) A K := gQ hx h
theorem e8 (hx : A.op fr x = .bool b) (h : av P fr ops rest (A.set d (.bool b)) fun A' l => K A' ((A, { d := some d, ty := .bool b, rs := bw x }) :: l)) : av P fr ops (⟨some d, .move x, t, p, e, none⟩ :: rest) A K := eA hx h
theorem cj (hx : A.op fr x = .bool b) (h : av P fr ops rest (A.set d (.bool b)) fun A' l => K A' ((A, { d := some d, ty := .bool b, rs := bw x }) :: l)) : av P fr ops (⟨some d, .assign x, t, p, e, none⟩ :: rest) A K := gQ hx h
theorem ej {α : Type} {E : El α} {xs : List α} (hx : A.op fr x = .sl E xs) (h : av P fr ops rest (A.set d (.sl E xs)) fun A' l => K A' ((A, { d := some d, ty := .sl E xs, rs := bw x }) :: l)) : av P fr ops (⟨some d, .move x, t, p, e, none⟩ :: rest) A K := eA hx h
theorem xX {α : Type} {E : El α} {xs : List α} (hx : A.op fr x = .sl E xs) (h : av P fr ops rest (A.set d (.sl E xs)) fun A' l => K A' ((A, { d := some d, ty := .sl E xs, rs := bw x }) :: l)) : av P fr ops (⟨some d, .assign x, t, p, e, none⟩ :: rest) A K := gQ hx h
theorem AL {α : Type} {E : El α} {T tg : Nat} {xs : List α} (hx : A.op fr x = .row E T tg xs) (h : av P fr ops rest (A.set d (.row E T tg xs)) fun A' l => K A' ((A, { d := some d, ty := .row E T tg xs, rs := bw x }) :: l)) : av P fr ops (⟨some d, .move x, t, p, e, none⟩ :: rest) A K := eA hx h
theorem AK {α : Type} {E : El α} {T tg : Nat} {xs : List α} (hx : A.op fr x = .row E T tg xs) (h : av P fr ops rest (A.set d (.row E T tg xs)) fun A' l => K A' ((A, { d := some d, ty := .row E T tg xs, rs := bw x }) :: l)) : av P fr ops (⟨some d, .assign x, t, p, e, none⟩ :: rest) A K := gQ hx h
theorem sV {tg m : Nat} (hx : A.op fr x = .vs tg m) (h : av P fr ops rest (A.set d (.vs tg m)) fun A' l => K A' ((A, { d := some d, ty := .vs tg m, rs := bw x }) :: l)) : av P fr ops (⟨some d, .move x, t, p, e, none⟩ :: rest) A K := eA hx h
theorem Kt {tg m : Nat} (hx : A.op fr x = .vs tg m) (h : av P fr ops rest (A.set d (.vs tg m)) fun A' l => K A' ((A, { d := some d, ty := .vs tg m, rs := bw x }) :: l)) : av P fr ops (⟨some d, .assign x, t, p, e, none⟩ :: rest) A K := gQ hx h
theorem Fv {v : Value} (hx : A.op fr x = .ex v) (h : av P fr ops rest (A.set d (.ex v)) fun A' l => K A' ((A, { d := some d, ty := .ex v, rs := bw x }) :: l)) : av P fr ops (⟨some d, .move x, t, p, e, none⟩ :: rest) A K := eA hx h
theorem kE {v : Value} (hx : A.op fr x = .ex v) (h : av P fr ops rest (A.set d (.ex v)) fun A' l => K A' ((A, { d := some d, ty := .ex v, rs := bw x }) :: l)) : av P fr ops (⟨some d, .assign x, t, p, e, none⟩ :: rest) A K := gQ hx h
theorem ji (hx : A.op fr x = .pp l) (h : av P fr ops rest (A.set d (.pp l)) fun A' l' => K A' ((A, { d := some d, ty := .pp l, rs := bw x }) :: l')) : av P fr ops (⟨some d, .move x, t, p, e, none⟩ :: rest) A K := eA hx h
theorem Jo (hx : A.op fr x = .pp l) (h : av P fr ops rest (A.set d (.pp l)) fun A' l' => K A' ((A, { d := some d, ty := .pp l, rs := bw x }) :: l')) : av P fr ops (⟨some d, .assign x, t, p, e, none⟩ :: rest) A K := gQ hx h
theorem sn (hx : A.op fr x = .kD l) (h : av P fr ops rest (A.set d (.kD l)) fun A' l' => K A' ((A, { d := some d, ty := .kD l, rs := bw x }) :: l')) : av P fr ops (⟨some d, .move x, t, p, e, none⟩ :: rest) A K := eA hx h
theorem Mk {f : Nat} (hx : A.op fr x = .jD f l) (h : av P fr ops rest (A.set d (.jD f l)) fun A' l' => K A' ((A, { d := some d, ty := .jD f l, rs := bw x }) :: l')) : av P fr ops (⟨some d, .move x, t, p, e, none⟩ :: rest) A K := eA hx h
theorem OB {f : Nat} (hx : A.op fr x = .jD f l) (h : av P fr ops rest (A.set d (.jD f l)) fun A' l' => K A' ((A, { d := some d, ty := .jD f l, rs := bw x }) :: l')) : av P fr ops (⟨some d, .assign x, t, p, e, none⟩ :: rest) A K := gQ hx h
end
end Go.T
namespace Go.T
open Go Go.RowKit
theorem bK {t : Ty} {l : List Ty} (h : t.deps = []) (h' : cC l = []) : cC (t :: l) = [] := by simp only [cC, List.flatMap_cons, h, List.nil_append] at h' ⊢; exact h'
theorem bF {t : Ty} {l : List Ty} (h : t.cdeps = []) (h' : bX l = []) : bX (t :: l) = [] := by simp only [bX, List.flatMap_cons, h, List.nil_append] at h' ⊢; exact h'
def G7 (P : Program) (t : Nat) (l1 l2 : List Ty) (c : Bool) : Prop :=
  P.eqGuardType P.depth t = false ∧ ∀ w M (cs ds : Array Value), cB w M l1 cs.toList → cB w M l2 ds.toList → (Op.equal t (.agg cs) (.agg ds)).run P w = .ok c w
section
variable {P : Program} {fr : Fr} {ops : Array Oper} {A : As} {rest : List Oper} {K : As → List (As × Fx) → Prop} {d : Nat} {t ty' ty2 : TypeId} {p : String} {e : Array Edge} {x y : Operand}
theorem JV {l1 l2 : List Ty} {c : Bool} (hE : G7 P ty' l1 l2 c) (hx : A.op fr x = .agg l1) (hy : A.op fr y = .agg l2)
 (h : av P fr ops rest (A.set d (.bool c)) fun A' l' => K A' ((A, { d := some d, ty := .bool c, rs := bw x ++ bw y }) :: l')) : av P fr ops (⟨some d, .binOp .eql ty' x y ty2, t, p, e, none⟩ :: rest) A K :=
 bE (bL rfl rfl fun a w M _ hrd _ => by
  obtain ⟨hdx, hdy⟩ := op2 hrd
  rw [hx] at hdx; rw [hy] at hdy
  obtain ⟨cs, ex, h1⟩ := hdx
  obtain ⟨ds, ey, h2⟩ := hdy
  exact ⟨.bool c, by simp only [execOp, ex, ey]; simp [eqGuard, hE.1, binOp, hE.2 w M cs ds h1 h2], rfl⟩) h
theorem r7 {l1 l2 : List Ty} {c : Bool} (hE : G7 P ty' l1 l2 c) (hx : A.op fr x = .agg l1) (hy : A.op fr y = .agg l2)
 (h : av P fr ops rest (A.set d (.bool (!c))) fun A' l' => K A' ((A, { d := some d, ty := .bool (!c), rs := bw x ++ bw y }) :: l')) : av P fr ops (⟨some d, .binOp .neq ty' x y ty2, t, p, e, none⟩ :: rest) A K :=
 bE (bL rfl rfl fun a w M _ hrd _ => by
  obtain ⟨hdx, hdy⟩ := op2 hrd
  rw [hx] at hdx; rw [hy] at hdy
  obtain ⟨cs, ex, h1⟩ := hdx
  obtain ⟨ds, ey, h2⟩ := hdy
  exact ⟨.bool (!c), by simp only [execOp, ex, ey]; simp [eqGuard, hE.1, binOp, hE.2 w M cs ds h1 h2], rfl⟩) h
theorem Km {ts : Array TypeId} {k : IntKind} {a b : Int} (hx : A.op fr x = .int k a) (hy : A.op fr y = .int k b)
 (h : av P fr ops rest (A.set d (.int k (min a b))) fun A' l' => K A' ((A, { d := some d, ty := .int k (min a b), rs := bw x ++ bw y }) :: l')) : av P fr ops (⟨some d, .call ⟨.builtin .min, #[x, y], ts⟩, t, p, e, none⟩ :: rest) A K :=
 bE (bL rfl rfl fun ac w M _ hrd _ => by
  obtain ⟨hdx, hdy⟩ := op2 hrd
  rw [hx] at hdx; rw [hy] at hdy
  have ex : ac.eval x = .int k a := hdx
  have ey : ac.eval y = .int k b := hdy
  refine ⟨.int k (min a b), ?_, rfl⟩
  simp [execOp, resolve, invoke, builtin, ex, ey, Builtin.min_, Builtin.min2]
  omega) h
theorem EB {ts : Array TypeId} {k : IntKind} {a b : Int} (hx : A.op fr x = .int k a) (hy : A.op fr y = .int k b)
 (h : av P fr ops rest (A.set d (.int k (max a b))) fun A' l' => K A' ((A, { d := some d, ty := .int k (max a b), rs := bw x ++ bw y }) :: l')) : av P fr ops (⟨some d, .call ⟨.builtin .max, #[x, y], ts⟩, t, p, e, none⟩ :: rest) A K :=
 bE (bL rfl rfl fun ac w M _ hrd _ => by
  obtain ⟨hdx, hdy⟩ := op2 hrd
  rw [hx] at hdx; rw [hy] at hdy
  have ex : ac.eval x = .int k a := hdx
  have ey : ac.eval y = .int k b := hdy
  refine ⟨.int k (max a b), ?_, rfl⟩
  simp [execOp, resolve, invoke, builtin, ex, ey, Builtin.max_, Builtin.max2]
  omega) h
variable [T : kf P]
theorem ju {α : Type} {E : El α} {Te tg : Nat} {xs : List α} {ti : TI} {el : Nat} (hx : A.op fr x = .row E Te tg xs) (hT : T.eE[ty']? = some ti) (hk : ti.k = .slice el)
 (h : av P fr ops rest (A.set d (.int .i64 xs.length)) fun A' l' => K A' ((A, { d := some d, ty := .int .i64 xs.length, rs := bw x }) :: l')) :
 av P fr ops (⟨some d, .call ⟨.builtin .len, #[x], #[ty']⟩, t, p, e, none⟩ :: rest) A K :=
 bE (bL rfl rfl fun a w M _ hrd _ => by
  have hdx := cE (x := x) (fun _ h => h) hrd
  rw [hx] at hdx
  obtain ⟨cs, hown, _⟩ := hdx
  obtain ⟨_, D, _, hD, hkd, _⟩ := ct hT
  rw [hk] at hkd
  cases D <;> simp only [TK.of, reduceCtorEq, TK.slice.injEq] at hkd
  rcases hown.2 with ⟨ex, h0⟩ | ⟨g, cap, cur, ex, _⟩
  ·exact ⟨.int .i64 xs.length, by simp [execOp, resolve, invoke, builtin, ex, Builtin.len_, run_underlying hD, goInt, h0], rfl⟩
  exact ⟨.int .i64 xs.length, by simp [execOp, resolve, invoke, builtin, ex, Builtin.len_, run_underlying hD, goInt], rfl⟩) h
theorem jX {tg n : Nat} {ti : TI} {el : Nat} (hx : A.op fr x = .vs tg n) (hT : T.eE[ty']? = some ti) (hk : ti.k = .slice el)
 (h : av P fr ops rest (A.set d (.int .i64 n)) fun A' l' => K A' ((A, { d := some d, ty := .int .i64 n, rs := bw x }) :: l')) :
 av P fr ops (⟨some d, .call ⟨.builtin .len, #[x], #[ty']⟩, t, p, e, none⟩ :: rest) A K :=
 bE (bL rfl rfl fun a w M _ hrd _ => by
  have hdx := cE (x := x) (fun _ h => h) hrd
  rw [hx] at hdx
  obtain ⟨_, D, _, hD, hkd, _⟩ := ct hT
  rw [hk] at hkd
  cases D <;> simp only [TK.of, reduceCtorEq, TK.slice.injEq] at hkd
  rcases hdx with ⟨h0, ex⟩ | ⟨b, c, _, ex, _⟩
  ·exact ⟨.int .i64 n, by simp [execOp, resolve, invoke, builtin, ex, Builtin.len_, run_underlying hD, goInt, h0], rfl⟩
  exact ⟨.int .i64 n, by simp [execOp, resolve, invoke, builtin, ex, Builtin.len_, run_underlying hD, goInt], rfl⟩) h
theorem lF {ti : TI} {el : Nat} (hx : A.op fr x = .ex (.slice none 0 0)) (hT : T.eE[ty']? = some ti) (hk : ti.k = .slice el)
 (h : av P fr ops rest (A.set d (.int .i64 0)) fun A' l' => K A' ((A, { d := some d, ty := .int .i64 0, rs := bw x }) :: l')) :
 av P fr ops (⟨some d, .call ⟨.builtin .len, #[x], #[ty']⟩, t, p, e, none⟩ :: rest) A K :=
 bE (bL rfl rfl fun a w M _ hrd _ => by
  have hdx := cE (x := x) (fun _ h => h) hrd
  rw [hx] at hdx
  have ex : a.eval x = .slice none 0 0 := hdx
  obtain ⟨_, D, _, hD, hkd, _⟩ := ct hT
  rw [hk] at hkd
  cases D <;> simp only [TK.of, reduceCtorEq, TK.slice.injEq] at hkd
  exact ⟨.int .i64 0, by simp [execOp, resolve, invoke, builtin, ex, Builtin.len_, run_underlying hD, goInt], rfl⟩) h
theorem Fi {α : Type} [Inhabited α] {E : El α} {Te tg : Nat} {xs : List α} {w : World} {M : bB} {v : Value} (h : gV E Te tg xs w M v) {i : Nat} (hi : i < xs.length) :
 ∃ g cap, v = .slice (some ⟨g, 0, none⟩) xs.length cap ∧ M g = some tg ∧ ∀ (j : Nat) (t : Ty), (E.tys (nth xs i))[j]? = some t → ∃ u, w.cell? ⟨g, i * E.size + j, none⟩ = some u ∧ t.den w M u := by
 obtain ⟨cs, hown, hd, hM⟩ := h
 rcases hown.2 with ⟨_, h0⟩ | ⟨g, cap, cur, ex, _, hh, _, _, _, htk⟩
 ·omega
 refine ⟨g, cap, ex, hM g (by rw [ex]; rfl), fun j t hj => ?_⟩
 obtain ⟨u, hu, hdu⟩ := dG hd _ t (lO E xs hi j t hj)
 refine ⟨u, ?_, hdu⟩
 rw [← htk, List.getElem?_take] at hu
 split at hu
 ·simpa [World.cell?, hh] using hu
 cases hu
end
end Go.T
namespace Go.T
open Go Go.RowKit
section
variable {P : Program} {A : As} {fn : Func} {n : Nat} {w0 : World} {M0 : bB} [T : kf P]
theorem p7 {tm ty tg Tb : Nat} {l : List Ty} {ti : TI} {res : Ty} (hr : fn.results = #[.cell tm ty]) (ht : Nat.blt tm n = true) (hx : A.slots tm = .ptr tg 0) (hc : A.tag tg = some (.cells Tb l)) (h1 : fN tg) (hT : T.eE[ty]? = some ti) (ha : ti.k.agg = true) (hl : l.length = ti.size) (hs : iE (.agg l) res) :
 dR ⟨n, w0, M0, [], .plain⟩ A (bodyPost P fn (mL w0 M0 res) .ret) := by
 intro a w ⟨M, ok, hsl, htg⟩
 have hd := hsl tm (by simpa using ht)
 rw [hx] at hd
 obtain ⟨b, hb, e⟩ := hd
 obtain ⟨b', cs, hb', hh, hds⟩ := htg _ (cW hc)
 obtain ⟨u, rfl⟩ : ∃ u, tg = u + 1 := ⟨tg - 1, by omega⟩
 have := ok.wf.inj b b' u (by omega) hb hb'
 subst this
 have hlen := cL hds
 have hload := fu (P := P) hT ha (w := w) (b := b) (off := 0) (cs := cs.toList) (by rw [hlen, hl]) (fun j v hj => by simpa [World.cell?, hh] using hj)
 have hload' : (loadVar ty ⟨b, 0, none⟩).run P w = .ok (.agg cs) w := by simpa [Instr.loadAt, Instr.sureAddr] using hload
 refine ⟨ok.gw (by simp), .agg cs, ?_, _, oZ M, rfl, rL ok.wf, og (fr := ⟨n, w0, M0, [], .plain⟩) (fun _ h => h) ok.base, hs _ _ _ ok.wf ⟨cs, rfl, hds⟩⟩
 have e' : a.tmps.getD tm undef = .pointer (some ⟨b, 0, none⟩) := e
 have e'' : a.tmps[tm]?.getD undef = .pointer (some ⟨b, 0, none⟩) := by rw [← Array.getD_eq_getD_getElem?]; exact e'
 simp [results, hr, e'', asAddr, hload']
end
end Go.T
namespace Go.T
open Go Go.RowKit
def FB : List Ty → List Ty → Prop
  | [], [] => True
  | s :: ss, t :: ts => s.Sub t ∧ FB ss ts
  | _, _ => False
theorem c7 : FB [] [] := trivial
theorem bG {s t : Ty} {ss ts : List Ty} (h' : FB ss ts) (h : s.Sub t) : FB (s :: ss) (t :: ts) := ⟨h, h'⟩
theorem yq {w : World} {M : bB} : ∀ {ss ts : List Ty} {vs : List Value}, FB ss ts → cB w M ss vs → cB w M ts vs
  | [], [], [], _, _ => trivial
  | _ :: _, _ :: _, _ :: _, ⟨h, h'⟩, ⟨h1, h2⟩ => ⟨h _ _ _ h1, yq h' h2⟩
theorem Cont.dB {T : Nat} {l l' : List Ty} (h : FB l l') : (Cont.cells T l).Sub (Cont.cells T l') := fun _ _ _ ⟨b, cs, h1, h2, h3⟩ => ⟨b, cs, h1, h2, yq h h3⟩
def qV (tg : Nat) (l : List Ty) (w : World) (M : bB) (v : Value) : Prop :=
  ∃ b off, v = .pointer (some ⟨b, off, none⟩) ∧ M b = some tg ∧ ∀ (i : Nat) (t : Ty), l[i]? = some t → ∃ u, w.cell? ⟨b, off + i, none⟩ = some u ∧ t.den w M u
def Ty.op (tg : Nat) (l : List Ty) : Ty :=
  ⟨qV tg l, tg :: cC l, tg :: bX l, fun le hk hs ⟨b, off, e, hb, h⟩ => by
    obtain ⟨h4, h5⟩ := le.own b tg hb (hk tg List.mem_cons_self)
    refine ⟨b, off, e, h4, fun i t hi => ?_⟩
    obtain ⟨v, hc, hd⟩ := h i t hi
    refine ⟨v, ?_, t.mono le (fun u hu => hk u ?_) (fun u hu => hs u ?_) hd⟩
    · rw [← hc]; exact World.cell?_of_block (h5 (hs tg List.mem_cons_self))
    · exact List.mem_cons_of_mem _ (List.mem_flatMap.2 ⟨t, List.mem_of_getElem? hi, hu⟩)
    · exact List.mem_cons_of_mem _ (List.mem_flatMap.2 ⟨t, List.mem_of_getElem? hi, hu⟩), true, fun _ ⟨_, _, e, _⟩ => e ▸ rfl⟩
theorem A3 {w : World} {M : bB} {b off : Nat} {l : List Ty} (h : ∀ (i : Nat) (t : Ty), l[i]? = some t → ∃ u, w.cell? ⟨b, off + i, none⟩ = some u ∧ t.den w M u) : ∀ n, n ≤ l.length → ∃ cs : List Value, cs.length = n ∧ cB w M (l.take n) cs ∧ ∀ j v, cs[j]? = some v → w.cell? ⟨b, off + j, none⟩ = some v := by
  intro n
  induction n with
  | zero => exact fun _ => ⟨[], rfl, trivial, fun j v h => by simp at h⟩
  | succ n ih =>
    intro hn
    obtain ⟨cs, h1, h2, h3⟩ := ih (by omega)
    obtain ⟨v, hv, hd⟩ := h n l[n] (List.getElem?_eq_getElem (by omega))
    refine ⟨cs ++ [v], by simp [h1], ?_, fun j u hj => ?_⟩
    · rw [List.take_succ_eq_append_getElem (by omega)]
      exact iW h2 ⟨hd, trivial⟩
    · rcases Nat.lt_or_ge j cs.length with hj' | hj'
      · rw [List.getElem?_append_left hj'] at hj; exact h3 j u hj
      · rw [List.getElem?_append_right hj'] at hj
        have : j = n := by
          rcases Nat.lt_or_ge (j - cs.length) 1 with h | h
          · omega
          · rw [List.getElem?_eq_none (by simpa using h)] at hj; cases hj
        subst this
        rw [h1, Nat.sub_self] at hj
        simp at hj; subst hj; exact hv
section
variable {P : Program} {fr : Fr} {ops : Array Oper} {A : As} {rest : List Oper} {K : As → List (As × Fx) → Prop} {d : Nat} {t ty' : TypeId} {p : String} {e : Array Edge} [T : kf P]
theorem r8 {α : Type} [Inhabited α] {x y : Operand} {E : El α} {Te tg : Nat} {xs : List α} {k : IntKind} {i : Nat} {ti te : TI} {el : Nat} (hx : A.op fr x = .row E Te tg xs) (hy : A.op fr y = .int k i) (hT : T.eE[ty']? = some ti) (hk : ti.k = .slice el) (hE : T.eE[el]? = some te) (hs : te.size = E.size)
 (h1 : i < xs.length)
 (h : av P fr ops rest (A.set d (.op tg (E.tys (nth xs i)))) fun A' l' => K A' ((A, { d := some d, ty := .op tg (E.tys (nth xs i)), rs := bw x ++ bw y }) :: l')) : av P fr ops (⟨some d, .indexAddr ty' x y, t, p, e, none⟩ :: rest) A K :=
 bE (bL rfl rfl fun a w M _ hr _ => by
  obtain ⟨hdx, hdy⟩ := op2 hr
  rw [hx] at hdx; rw [hy] at hdy
  obtain ⟨g, cap, ex, hg, hc⟩ := Fi hdx h1
  have ey : a.eval y = .int k i := hdy
  refine ⟨_, by simp only [execOp, ex, ey, Sem.run_bind, gq hT hk hE (Int.natCast_nonneg i) (show (i : Int).toNat < xs.length from h1)]; rfl, g, 0 + i * te.size, by simp, hg, fun j ty hj => ?_⟩
  obtain ⟨u, hu, hd⟩ := hc j ty hj
  exact ⟨u, by rw [hs, Nat.zero_add]; exact hu, hd⟩) h
theorem fT {x : Operand} {tg : Nat} {l : List Ty} {ti : TI} {ty : Ty} (hx : A.op fr x = .op tg l) (hT : T.eE[ty']? = some ti) (ha : ti.k.agg = false) (hl : l[0]? = some ty)
 (h : av P fr ops rest (A.set d ty) fun A' l => K A' ((A, { d := some d, ty := ty, rs := bw x }) :: l)) : av P fr ops (⟨some d, .load ty' x, t, p, e, none⟩ :: rest) A K :=
 bE (bL rfl rfl fun a w M _ hr _ => by
  have := cE (x := x) (fun _ h => h) hr
  rw [hx] at this
  obtain ⟨b, off, e, _, hp⟩ := this
  obtain ⟨v, hv, hd⟩ := hp 0 ty hl
  have hv' : w.cell? ⟨b, off, none⟩ = some v := hv
  exact ⟨v, by simp [execOp, e, gz hT ha hv'], hd⟩) h
theorem dj {x : Operand} {tg : Nat} {l : List Ty} {ti : TI} (hx : A.op fr x = .op tg l) (hT : T.eE[ty']? = some ti) (ha : ti.k.agg = true) (hl : ti.size ≤ l.length)
 (h : av P fr ops rest (A.set d (.agg (l.take ti.size))) fun A' l' => K A' ((A, { d := some d, ty := .agg (l.take ti.size), rs := bw x }) :: l')) : av P fr ops (⟨some d, .load ty' x, t, p, e, none⟩ :: rest) A K :=
 bE (bL rfl rfl fun a w M _ hr _ => by
  have := cE (x := x) (fun _ h => h) hr
  rw [hx] at this
  obtain ⟨b, off, e, _, hp⟩ := this
  obtain ⟨cs, h1, h2, h3⟩ := A3 hp _ hl
  exact ⟨.agg cs.toArray, by simp [execOp, e, fu hT ha h1 h3], cs.toArray, rfl, by simpa using h2⟩) h
theorem gI {x : Operand} {f tg : Nat} {l : List Ty} {ti tf : TI} {fs : List (Nat × Nat)} {o ft : Nat} (hx : A.op fr x = .op tg l) (hT : T.eE[ty']? = some ti) (hk : ti.k = .struct fs) (hf : fs[f]? = some (o, ft)) (hF : T.eE[ft]? = some tf) (h0 : tf.size ≠ 0)
 (h : av P fr ops rest (A.set d (.op tg (l.drop o))) fun A' l' => K A' ((A, { d := some d, ty := .op tg (l.drop o), rs := bw x }) :: l')) : av P fr ops (⟨some d, .fieldAddr ty' x f, t, p, e, none⟩ :: rest) A K :=
 bE (bL rfl rfl fun a w M _ hr _ => by
  have := cE (x := x) (fun _ h => h) hr
  rw [hx] at this
  obtain ⟨b, off, e, hb, hp⟩ := this
  exact ⟨_, by simp [execOp, e, nA hT hk hf hF h0], b, off + o, rfl, hb, fun i t hi => by rw [List.getElem?_drop] at hi; rw [Nat.add_assoc]; exact hp (o + i) t hi⟩) h
end
section
variable {P : Program} {fr : Fr} {A : As} {Q : Exit → Act → World → Prop} {c : Code}
def dV (M : bB) (tg : Nat) : bB := fun b => if M b = some tg then none else M b
theorem iN {w : World} {M : bB} {tg : Nat} : Le (· ∈ ([] : List Nat)) (· ∈ [tg]) w M w (dV M tg) :=
 ⟨Nat.le_refl _, rfl, rfl, rfl, fun b _ hm => ⟨by simp [dV, hm], rfl⟩, fun b t hm hk => ⟨by simp only [List.mem_singleton] at hk; simp [dV, hm, hk], fun _ => rfl⟩⟩
theorem tG {w : World} {M : bB} {tg : Nat} (wf : Wf w M) : Wf w (dV M tg) := by
 have key : ∀ b t, dV M tg b = some t → M b = some t := fun b t h => by
  unfold dV at h; split at h
  ·cases h
  exact h
 exact ⟨fun b t h => wf.lt b t (key b t h), fun b b' t ht1 h h' => wf.inj b b' t ht1 (key _ _ h) (key _ _ h')⟩
def ya (A : As) (tg s : Nat) (t : Ty) : Prop := ∀ w M v, Wf w M → (∀ x ∈ A.tags, x.2.den w M x.1) → (A.slots s).den w M v → t.den w (dV M tg) v
def z7 (A : As) (tg : Nat) : List (Nat × Ty) → Prop
  | [] => True
  | x :: l => ya A tg x.1 x.2 ∧ z7 A tg l
def nS (l : List (Nat × Ty)) (s : Nat → Ty) : Nat → Ty := fun i => match l with | [] => s i | (d, t) :: l => bif Nat.beq i d then t else nS l s i
def As.oM (A : As) (tg : Nat) (l : List (Nat × Ty)) : As := ⟨nS l (fW [] [tg] A.slots), mo [] [tg] A.tags⟩
theorem jO {tg : Nat} (l : List (Nat × Ty)) (h1 : 1 ≤ tg) (hp : fr.pass.contains tg = false) (hl : z7 A tg l) (h : fU P fr c (A.oM tg l) Q) : fU P fr c A Q := fun a w ⟨M, ok, hsl, ht⟩ => by
  have le : Le (· ∈ ([] : List Nat)) (· ∈ [tg]) w M w (dV M tg) := iN
  refine h a w ⟨dV M tg, ⟨tG ok.wf, Fr.iK ok.base (by intro _ h; cases h) (fun t ht => by simp only [List.mem_singleton] at ht; subst ht; exact ⟨h1, by simpa using hp⟩) le, ok.size, ok.defers.step (by intro _ h; cases h) (fun t ht => by simp only [List.mem_singleton] at ht; subst ht; exact h1) le⟩, fun i hi => ?_, fun x hx => gj le hx fun y hy _ => ht y hy⟩
  have base : (fW [] [tg] A.slots i).den w (dV M tg) (a.tmps.getD i undef) := by
    rcases fH [] [tg] A.slots i with ⟨e, hdj⟩ | ⟨_, e⟩
    · rw [e]; exact (A.slots i).mono le (eR hdj).1 (eR hdj).2 (hsl i hi)
    · rw [e]; trivial
  show (nS l (fW [] [tg] A.slots) i).den _ _ _
  clear h
  induction l with
  | nil => exact base
  | cons x l ih =>
    obtain ⟨d, t⟩ := x
    unfold nS
    cases hb : Nat.beq i d with
    | false => simp only [cond_false]; exact ih hl.2
    | true =>
      have : i = d := Nat.eq_of_beq_eq_true hb
      subst this
      simp only [cond_true]
      exact hl.1 w M _ ok.wf ht (hsl i hi)
theorem pZ {α : Type} {E : El α} {T tg s : Nat} {xs : List α} (hx : A.slots s = .row E T tg xs) : ya A tg s (.sl E xs) := fun w M v wf _ hd => by
 rw [hx] at hd
 exact w7 wf hd (fun b hb => by simp [dV, hb]) (fun b hb => by simp [dV, hb])
theorem IA {α : Type} {E : El α} {T tg s n : Nat} {xs : List α} (hx : A.slots s = .vs tg n) (hc : A.tag tg = some (.vec E T xs)) (hn : xs.length = n) (h1 : fN tg) : ya A tg s (.sl E xs) := fun w M v wf ht hd => by
 rw [hx] at hd
 have hv : gb E T xs w M tg := ht _ (cW hc)
 subst hn
 rcases hd with ⟨h0, rfl⟩ | ⟨b, cc, hb, e, hn1, hn2⟩
 ·exact ⟨none, 0, by rw [h0], by omega, by simp [maxLen], fun h => absurd h (by omega)⟩
 refine ⟨_, cc, e, hn1, hn2, fun _ => ⟨b, 0, rfl, by simp [dV, hb], wf.lt b _ hb, fun i t hi => ?_⟩⟩
 obtain ⟨u, hu, hdu⟩ := lz wf h1 hb hv hi
 refine ⟨u, by rw [Nat.zero_add]; exact hu, t.mono (iN (w := w)) ?_ ?_ hdu⟩
 ·intro u hu
  have : u ∈ cC (xs.flatMap E.tys) := List.mem_flatMap.2 ⟨t, List.mem_of_getElem? hi, hu⟩
  rw [E.cO] at this; cases this
 intro u _ h; cases h
theorem kC {T tg s off : Nat} {l : List Ty} (hx : A.slots s = .ptr tg off) (hc : A.tag tg = some (.cells T l)) (hd : lS (cC l) [tg] = true) (h1 : fN tg) : ya A tg s (.pp (l.drop off)) := fun w M v wf ht hv => by
 rw [hx] at hv
 obtain ⟨b, hb, e⟩ := hv
 have hcc : (Cont.cells T l).den w M tg := ht _ (cW hc)
 refine ⟨b, off, e, by simp [dV, hb], wf.lt b _ hb, fun i t hi => ?_⟩
 rw [List.getElem?_drop] at hi
 obtain ⟨u, hu, hdu⟩ := BX wf h1 hb hcc hi
 refine ⟨u, hu, t.mono (iN (w := w)) ?_ ?_ hdu⟩
 ·intro u hu
  exact gN hd u (List.mem_flatMap.2 ⟨t, List.mem_of_getElem? hi, hu⟩)
 intro u _ h; cases h
end
end Go.T
namespace Go.Proofs.YtelbollidfdcjaaGreat
open Go Go.T
def types : List TI := [
  ⟨.other, 1, 0, [.tuple #[]]⟩,
  ⟨.func, 1, 8, [.nilFunc]⟩,
  ⟨.int .i64, 1, 8, [.int .i64 0]⟩,
  ⟨.int .i64, 1, 8, [.int .i64 0]⟩,
  ⟨.bool, 1, 1, [.bool false]⟩,
  ⟨.int .u8, 1, 1, [.int .u8 0]⟩,
  ⟨.int .u8, 1, 1, [.int .u8 0]⟩,
  ⟨.struct [(0, 2), (1, 3), (2, 4), (3, 6)], 4, 24, [.int .i64 0, .int .i64 0, .bool false, .int .u8 0]⟩,
  ⟨.struct [(0, 2), (1, 3), (2, 4), (3, 6)], 4, 24, [.int .i64 0, .int .i64 0, .bool false, .int .u8 0]⟩,
  ⟨.string, 1, 16, [.string ByteArray.empty]⟩,
  ⟨.string, 1, 16, [.string ByteArray.empty]⟩,
  ⟨.string, 1, 16, [.string ByteArray.empty]⟩,
  ⟨.int .u64, 1, 8, [.int .u64 0]⟩,
  ⟨.struct [(0, 9), (1, 12)], 2, 24, [.string ByteArray.empty, .int .u64 0]⟩,
  ⟨.struct [(0, 9), (1, 12)], 2, 24, [.string ByteArray.empty, .int .u64 0]⟩,
  ⟨.ptr 238, 1, 8, [.pointer none]⟩,
  ⟨.ptr 241, 1, 8, [.pointer none]⟩,
  ⟨.ptr 249, 1, 8, [.pointer none]⟩,
  ⟨.struct [(0, 17)], 1, 8, [.pointer none]⟩,
  ⟨.struct [(0, 17)], 1, 8, [.pointer none]⟩,
  ⟨.other, 1, 16, [.nilIface]⟩,
  ⟨.int .i32, 1, 4, [.int .i32 0]⟩,
  ⟨.slice 5, 1, 24, [.slice none 0 0]⟩,
  ⟨.slice 39, 1, 24, [.slice none 0 0]⟩,
  ⟨.slice 41, 1, 24, [.slice none 0 0]⟩,
  ⟨.slice 102, 1, 24, [.slice none 0 0]⟩,
  ⟨.struct [(0, 3), (1, 23), (2, 24), (3, 25)], 4, 80, [.int .i64 0, .slice none 0 0, .slice none 0 0, .slice none 0 0]⟩,
  ⟨.struct [(0, 3), (1, 23), (2, 24), (3, 25)], 4, 80, [.int .i64 0, .slice none 0 0, .slice none 0 0, .slice none 0 0]⟩,
  ⟨.slice 3, 1, 24, [.slice none 0 0]⟩,
  ⟨.struct [(0, 28), (1, 28)], 2, 48, [.slice none 0 0, .slice none 0 0]⟩,
  ⟨.struct [(0, 28), (1, 28)], 2, 48, [.slice none 0 0, .slice none 0 0]⟩,
  ⟨.other, 1, 0, [.tuple #[.agg #[.int .i64 0, .slice none 0 0, .slice none 0 0, .slice none 0 0], .agg #[.slice none 0 0, .slice none 0 0]]]⟩,
  ⟨.func, 1, 8, [.nilFunc]⟩,
  ⟨.ptr 149, 1, 8, [.pointer none]⟩,
  ⟨.func, 1, 8, [.nilFunc]⟩,
  ⟨.func, 1, 8, [.nilFunc]⟩,
  ⟨.struct [(0, 3), (1, 3)], 2, 16, [.int .i64 0, .int .i64 0]⟩,
  ⟨.struct [(0, 3), (1, 3)], 2, 16, [.int .i64 0, .int .i64 0]⟩,
  ⟨.struct [(0, 3), (1, 37)], 3, 24, [.int .i64 0, .int .i64 0, .int .i64 0]⟩,
  ⟨.struct [(0, 3), (1, 37)], 3, 24, [.int .i64 0, .int .i64 0, .int .i64 0]⟩,
  ⟨.struct [(0, 3), (1, 3), (2, 3), (3, 37)], 5, 40, [.int .i64 0, .int .i64 0, .int .i64 0, .int .i64 0, .int .i64 0]⟩,
  ⟨.struct [(0, 3), (1, 3), (2, 3), (3, 37)], 5, 40, [.int .i64 0, .int .i64 0, .int .i64 0, .int .i64 0, .int .i64 0]⟩,
  ⟨.func, 1, 8, [.nilFunc]⟩,
  ⟨.slice 37, 1, 24, [.slice none 0 0]⟩,
  ⟨.int .i64, 1, 8, [.int .i64 0]⟩,
  ⟨.other, 1, 0, [.tuple #[.slice none 0 0, .int .i64 0]]⟩,
  ⟨.func, 1, 8, [.nilFunc]⟩,
  ⟨.func, 1, 8, [.nilFunc]⟩,
  ⟨.func, 1, 8, [.nilFunc]⟩,
  ⟨.func, 1, 8, [.nilFunc]⟩,
  ⟨.func, 1, 8, [.nilFunc]⟩,
  ⟨.func, 1, 8, [.nilFunc]⟩,
  ⟨.func, 1, 8, [.nilFunc]⟩,
  ⟨.func, 1, 8, [.nilFunc]⟩,
  ⟨.func, 1, 8, [.nilFunc]⟩,
  ⟨.func, 1, 8, [.nilFunc]⟩,
  ⟨.slice 163, 1, 24, [.slice none 0 0]⟩,
  ⟨.slice 164, 1, 24, [.slice none 0 0]⟩,
  ⟨.slice 165, 1, 24, [.slice none 0 0]⟩,
  ⟨.struct [(0, 3), (1, 56), (2, 57), (3, 58)], 4, 80, [.int .i64 0, .slice none 0 0, .slice none 0 0, .slice none 0 0]⟩,
  ⟨.struct [(0, 3), (1, 56), (2, 57), (3, 58)], 4, 80, [.int .i64 0, .slice none 0 0, .slice none 0 0, .slice none 0 0]⟩,
  ⟨.func, 1, 8, [.nilFunc]⟩,
  ⟨.func, 1, 8, [.nilFunc]⟩,
  ⟨.slice 43, 1, 24, [.slice none 0 0]⟩,
  ⟨.slice 4, 1, 24, [.slice none 0 0]⟩,
  ⟨.struct [(0, 4), (1, 63), (2, 43), (3, 43), (4, 64)], 5, 104, [.bool false, .slice none 0 0, .slice none 0 0, .slice none 0 0, .slice none 0 0]⟩,
  ⟨.struct [(0, 4), (1, 63), (2, 43), (3, 43), (4, 64)], 5, 104, [.bool false, .slice none 0 0, .slice none 0 0, .slice none 0 0, .slice none 0 0]⟩,
  ⟨.func, 1, 8, [.nilFunc]⟩,
  ⟨.other, 1, 0, [.tuple #[.int .i64 0, .int .i64 0]]⟩,
  ⟨.func, 1, 8, [.nilFunc]⟩,
  ⟨.func, 1, 8, [.nilFunc]⟩,
  ⟨.func, 1, 8, [.nilFunc]⟩,
  ⟨.int .u16, 1, 2, [.int .u16 0]⟩,
  ⟨.func, 1, 8, [.nilFunc]⟩,
  ⟨.func, 1, 8, [.nilFunc]⟩,
  ⟨.func, 1, 8, [.nilFunc]⟩,
  ⟨.func, 1, 8, [.nilFunc]⟩,
  ⟨.other, 1, 0, [.tuple #[.slice none 0 0, .bool false, .slice none 0 0, .bool false]]⟩,
  ⟨.func, 1, 8, [.nilFunc]⟩,
  ⟨.func, 1, 8, [.nilFunc]⟩,
  ⟨.func, 1, 8, [.nilFunc]⟩,
  ⟨.other, 1, 0, [.tuple #[.bool false, .int .i64 0]]⟩,
  ⟨.func, 1, 8, [.nilFunc]⟩,
  ⟨.other, 1, 0, [.tuple #[.slice none 0 0, .int .i64 0]]⟩,
  ⟨.func, 1, 8, [.nilFunc]⟩,
  ⟨.func, 1, 8, [.nilFunc]⟩,
  ⟨.func, 1, 8, [.nilFunc]⟩,
  ⟨.other, 1, 0, [.tuple #[.agg #[.slice none 0 0, .slice none 0 0], .int .i64 0]]⟩,
  ⟨.func, 1, 8, [.nilFunc]⟩,
  ⟨.other, 1, 0, [.tuple #[.agg #[.int .i64 0, .int .i64 0], .int .i64 0]]⟩,
  ⟨.func, 1, 8, [.nilFunc]⟩,
  ⟨.func, 1, 8, [.nilFunc]⟩,
  ⟨.func, 1, 8, [.nilFunc]⟩,
  ⟨.func, 1, 8, [.nilFunc]⟩,
  ⟨.func, 1, 8, [.nilFunc]⟩,
  ⟨.struct [(0, 28), (1, 28)], 2, 48, [.slice none 0 0, .slice none 0 0]⟩,
  ⟨.func, 1, 8, [.nilFunc]⟩,
  ⟨.func, 1, 8, [.nilFunc]⟩,
  ⟨.other, 1, 0, [.tuple #[.agg #[.int .i64 0, .slice none 0 0, .slice none 0 0, .slice none 0 0], .int .i64 0]]⟩,
  ⟨.func, 1, 8, [.nilFunc]⟩,
  ⟨.func, 1, 8, [.nilFunc]⟩,
  ⟨.struct [(0, 3), (1, 3), (2, 37)], 4, 32, [.int .i64 0, .int .i64 0, .int .i64 0, .int .i64 0]⟩,
  ⟨.struct [(0, 3), (1, 3), (2, 37)], 4, 32, [.int .i64 0, .int .i64 0, .int .i64 0, .int .i64 0]⟩,
  ⟨.func, 1, 8, [.nilFunc]⟩,
  ⟨.slice 109, 1, 24, [.slice none 0 0]⟩,
  ⟨.struct [(0, 104), (1, 4)], 2, 32, [.slice none 0 0, .bool false]⟩,
  ⟨.struct [(0, 104), (1, 4)], 2, 32, [.slice none 0 0, .bool false]⟩,
  ⟨.func, 1, 8, [.nilFunc]⟩,
  ⟨.struct [(0, 3), (1, 3)], 2, 16, [.int .i64 0, .int .i64 0]⟩,
  ⟨.struct [(0, 3), (1, 3)], 2, 16, [.int .i64 0, .int .i64 0]⟩,
  ⟨.func, 1, 8, [.nilFunc]⟩,
  ⟨.slice 189, 1, 24, [.slice none 0 0]⟩,
  ⟨.func, 1, 8, [.nilFunc]⟩,
  ⟨.other, 1, 0, [.tuple #[.agg #[.slice none 0 0, .bool false], .int .i64 0]]⟩,
  ⟨.func, 1, 8, [.nilFunc]⟩,
  ⟨.func, 1, 8, [.nilFunc]⟩,
  ⟨.func, 1, 8, [.nilFunc]⟩,
  ⟨.func, 1, 8, [.nilFunc]⟩,
  ⟨.func, 1, 8, [.nilFunc]⟩,
  ⟨.func, 1, 8, [.nilFunc]⟩,
  ⟨.ptr 37, 1, 8, [.pointer none]⟩,
  ⟨.func, 1, 8, [.nilFunc]⟩,
  ⟨.func, 1, 8, [.nilFunc]⟩,
  ⟨.func, 1, 8, [.nilFunc]⟩,
  ⟨.func, 1, 8, [.nilFunc]⟩,
  ⟨.func, 1, 8, [.nilFunc]⟩,
  ⟨.func, 1, 8, [.nilFunc]⟩,
  ⟨.func, 1, 8, [.nilFunc]⟩,
  ⟨.slice 27, 1, 24, [.slice none 0 0]⟩,
  ⟨.func, 1, 8, [.nilFunc]⟩,
  ⟨.slice 28, 1, 24, [.slice none 0 0]⟩,
  ⟨.func, 1, 8, [.nilFunc]⟩,
  ⟨.func, 1, 8, [.nilFunc]⟩,
  ⟨.other, 1, 0, [.tuple #[.slice none 0 0, .int .i64 0]]⟩,
  ⟨.func, 1, 8, [.nilFunc]⟩,
  ⟨.func, 1, 8, [.nilFunc]⟩,
  ⟨.func, 1, 8, [.nilFunc]⟩,
  ⟨.func, 1, 8, [.nilFunc]⟩,
  ⟨.func, 1, 8, [.nilFunc]⟩,
  ⟨.func, 1, 8, [.nilFunc]⟩,
  ⟨.array 4 3, 4, 32, [.int .i64 0, .int .i64 0, .int .i64 0, .int .i64 0]⟩,
  ⟨.ptr 3, 1, 8, [.pointer none]⟩,
  ⟨.slice 141, 1, 24, [.slice none 0 0]⟩,
  ⟨.func, 1, 8, [.nilFunc]⟩,
  ⟨.func, 1, 8, [.nilFunc]⟩,
  ⟨.func, 1, 8, [.nilFunc]⟩,
  ⟨.func, 1, 8, [.nilFunc]⟩,
  ⟨.int .u32, 1, 4, [.int .u32 0]⟩,
  ⟨.struct [(0, 22), (1, 3), (2, 147)], 3, 40, [.slice none 0 0, .int .i64 0, .int .u32 0]⟩,
  ⟨.struct [(0, 22), (1, 3), (2, 147)], 3, 40, [.slice none 0 0, .int .i64 0, .int .u32 0]⟩,
  ⟨.func, 1, 8, [.nilFunc]⟩,
  ⟨.func, 1, 8, [.nilFunc]⟩,
  ⟨.ptr 185, 1, 8, [.pointer none]⟩,
  ⟨.other, 1, 0, [.tuple #[.pointer none, .int .i64 0]]⟩,
  ⟨.func, 1, 8, [.nilFunc]⟩,
  ⟨.func, 1, 8, [.nilFunc]⟩,
  ⟨.func, 1, 8, [.nilFunc]⟩,
  ⟨.func, 1, 8, [.nilFunc]⟩,
  ⟨.func, 1, 8, [.nilFunc]⟩,
  ⟨.func, 1, 8, [.nilFunc]⟩,
  ⟨.func, 1, 8, [.nilFunc]⟩,
  ⟨.func, 1, 8, [.nilFunc]⟩,
  ⟨.func, 1, 8, [.nilFunc]⟩,
  ⟨.struct [(0, 3), (1, 37)], 3, 24, [.int .i64 0, .int .i64 0, .int .i64 0]⟩,
  ⟨.struct [(0, 3), (1, 3), (2, 3), (3, 37)], 5, 40, [.int .i64 0, .int .i64 0, .int .i64 0, .int .i64 0, .int .i64 0]⟩,
  ⟨.struct [(0, 3), (1, 3), (2, 37)], 4, 32, [.int .i64 0, .int .i64 0, .int .i64 0, .int .i64 0]⟩,
  ⟨.func, 1, 8, [.nilFunc]⟩,
  ⟨.func, 1, 8, [.nilFunc]⟩,
  ⟨.ptr 66, 1, 8, [.pointer none]⟩,
  ⟨.func, 1, 8, [.nilFunc]⟩,
  ⟨.func, 1, 8, [.nilFunc]⟩,
  ⟨.func, 1, 8, [.nilFunc]⟩,
  ⟨.func, 1, 8, [.nilFunc]⟩,
  ⟨.func, 1, 8, [.nilFunc]⟩,
  ⟨.func, 1, 8, [.nilFunc]⟩,
  ⟨.other, 1, 0, [.tuple #[.slice none 0 0, .bool false]]⟩,
  ⟨.func, 1, 8, [.nilFunc]⟩,
  ⟨.func, 1, 8, [.nilFunc]⟩,
  ⟨.func, 1, 8, [.nilFunc]⟩,
  ⟨.array 8 4, 8, 8, [.bool false, .bool false, .bool false, .bool false, .bool false, .bool false, .bool false, .bool false]⟩,
  ⟨.array 8 4, 8, 8, [.bool false, .bool false, .bool false, .bool false, .bool false, .bool false, .bool false, .bool false]⟩,
  ⟨.func, 1, 8, [.nilFunc]⟩,
  ⟨.func, 1, 8, [.nilFunc]⟩,
  ⟨.slice 187, 1, 24, [.slice none 0 0]⟩,
  ⟨.struct [(0, 27), (4, 183), (5, 28)], 6, 128, [.int .i64 0, .slice none 0 0, .slice none 0 0, .slice none 0 0, .slice none 0 0, .slice none 0 0]⟩,
  ⟨.struct [(0, 27), (4, 183), (5, 28)], 6, 128, [.int .i64 0, .slice none 0 0, .slice none 0 0, .slice none 0 0, .slice none 0 0, .slice none 0 0]⟩,
  ⟨.struct [(0, 3), (1, 3), (2, 3), (3, 3)], 4, 32, [.int .i64 0, .int .i64 0, .int .i64 0, .int .i64 0]⟩,
  ⟨.struct [(0, 3), (1, 3), (2, 3), (3, 3)], 4, 32, [.int .i64 0, .int .i64 0, .int .i64 0, .int .i64 0]⟩,
  ⟨.func, 1, 8, [.nilFunc]⟩,
  ⟨.struct [(0, 3), (1, 3)], 2, 16, [.int .i64 0, .int .i64 0]⟩,
  ⟨.other, 1, 0, [.tuple #[.int .i64 0, .int .i64 0]]⟩,
  ⟨.func, 1, 8, [.nilFunc]⟩,
  ⟨.func, 1, 8, [.nilFunc]⟩,
  ⟨.func, 1, 8, [.nilFunc]⟩,
  ⟨.other, 1, 0, [.tuple #[.int .i64 0, .bool false]]⟩,
  ⟨.func, 1, 8, [.nilFunc]⟩,
  ⟨.map 3 199, 1, 8, [.map none]⟩,
  ⟨.func, 1, 8, [.nilFunc]⟩,
  ⟨.struct [(0, 3), (1, 4)], 2, 16, [.int .i64 0, .bool false]⟩,
  ⟨.struct [(0, 3), (1, 4)], 2, 16, [.int .i64 0, .bool false]⟩,
  ⟨.other, 1, 0, [.tuple #[.agg #[.int .i64 0, .bool false], .bool false]]⟩,
  ⟨.func, 1, 8, [.nilFunc]⟩,
  ⟨.func, 1, 8, [.nilFunc]⟩,
  ⟨.func, 1, 8, [.nilFunc]⟩,
  ⟨.func, 1, 8, [.nilFunc]⟩,
  ⟨.func, 1, 8, [.nilFunc]⟩,
  ⟨.func, 1, 8, [.nilFunc]⟩,
  ⟨.func, 1, 8, [.nilFunc]⟩,
  ⟨.func, 1, 8, [.nilFunc]⟩,
  ⟨.func, 1, 8, [.nilFunc]⟩,
  ⟨.func, 1, 8, [.nilFunc]⟩,
  ⟨.func, 1, 8, [.nilFunc]⟩,
  ⟨.func, 1, 8, [.nilFunc]⟩,
  ⟨.struct [(0, 118), (1, 4)], 2, 16, [.nilFunc, .bool false]⟩,
  ⟨.struct [(0, 118), (1, 4)], 2, 16, [.nilFunc, .bool false]⟩,
  ⟨.func, 1, 8, [.nilFunc]⟩,
  ⟨.func, 1, 8, [.nilFunc]⟩,
  ⟨.func, 1, 8, [.nilFunc]⟩,
  ⟨.func, 1, 8, [.nilFunc]⟩,
  ⟨.func, 1, 8, [.nilFunc]⟩,
  ⟨.func, 1, 8, [.nilFunc]⟩,
  ⟨.func, 1, 8, [.nilFunc]⟩,
  ⟨.slice 199, 1, 24, [.slice none 0 0]⟩,
  ⟨.func, 1, 8, [.nilFunc]⟩,
  ⟨.func, 1, 8, [.nilFunc]⟩,
  ⟨.func, 1, 8, [.nilFunc]⟩,
  ⟨.func, 1, 8, [.nilFunc]⟩,
  ⟨.map 3 222, 1, 8, [.map none]⟩,
  ⟨.func, 1, 8, [.nilFunc]⟩,
  ⟨.int .u64, 1, 8, [.int .u64 0]⟩,
  ⟨.func, 1, 8, [.nilFunc]⟩,
  ⟨.func, 1, 8, [.nilFunc]⟩,
  ⟨.func, 1, 8, [.nilFunc]⟩,
  ⟨.func, 1, 8, [.nilFunc]⟩,
  ⟨.func, 1, 8, [.nilFunc]⟩,
  ⟨.func, 1, 8, [.nilFunc]⟩,
  ⟨.func, 1, 8, [.nilFunc]⟩,
  ⟨.struct [(0, 17), (1, 17), (2, 17), (3, 9)], 4, 40, [.pointer none, .pointer none, .pointer none, .string ByteArray.empty]⟩,
  ⟨.struct [(0, 17), (1, 17), (2, 17), (3, 9)], 4, 40, [.pointer none, .pointer none, .pointer none, .string ByteArray.empty]⟩,
  ⟨.array 0 16, 0, 0, []⟩,
  ⟨.struct [(0, 239)], 0, 0, []⟩,
  ⟨.struct [(0, 239)], 0, 0, []⟩,
  ⟨.int .u8, 1, 1, [.int .u8 0]⟩,
  ⟨.int .u8, 1, 1, [.int .u8 0]⟩,
  ⟨.func, 1, 8, [.nilFunc]⟩,
  ⟨.ptr 5, 1, 8, [.pointer none]⟩,
  ⟨.int .i32, 1, 4, [.int .i32 0]⟩,
  ⟨.int .i32, 1, 4, [.int .i32 0]⟩,
  ⟨.struct [(0, 12), (1, 12), (2, 147), (3, 242), (4, 5), (5, 5), (6, 243), (7, 244), (8, 245), (9, 246), (10, 247)], 11, 48, [.int .u64 0, .int .u64 0, .int .u32 0, .int .u8 0, .int .u8 0, .int .u8 0, .int .u8 0, .nilFunc, .pointer none, .int .i32 0, .int .i32 0]⟩,
  ⟨.struct [(0, 12), (1, 12), (2, 147), (3, 242), (4, 5), (5, 5), (6, 243), (7, 244), (8, 245), (9, 246), (10, 247)], 11, 48, [.int .u64 0, .int .u64 0, .int .u32 0, .int .u8 0, .int .u8 0, .int .u8 0, .int .u8 0, .nilFunc, .pointer none, .int .i32 0, .int .i32 0]⟩,
  ⟨.other, 1, 8, [.pointer none]⟩]
theorem I5 : (List.range types.length).map (FQ Tryz.prog) = types.map some := by kernel_rfl
instance eE : kf Tryz.prog := ⟨types, kf.of I5⟩
theorem mX {P : Program} {w : World} {t : Nat} {k : IntKind} {a b : Int} (d : Nat) (h : P.underlying t = some (.int k)) : (Op.equalIn (d + 1) t (.int k a) (.int k b)).run P w = .ok (decide (a = b)) w := by
 simp [Op.equalIn, run_underlying h, D9]
theorem My (a0 a1 b0 b1 : Int) (w : World) : (Op.equal 37 (.agg #[.int .i64 a0, .int .i64 a1]) (.agg #[.int .i64 b0, .int .i64 b1])).run Tryz.prog w = .ok ((decide (a0 = b0) && decide (a1 = b1))) w := by
 have hs : Tryz.prog.stoodInHeld 37 = false := by kernel_rfl
 have e3 : ∀ (x y : Int) (w : World), (Op.equalIn 9999 3 (.int .i64 x) (.int .i64 y)).run Tryz.prog w = .ok (decide (x = y)) w := fun x y w => mX 9998 Tryz.underlying3
 have g3 : ∀ w, (isAgg 3).run Tryz.prog w = .ok false w := fun w => by simp [isAgg, run_underlying Tryz.underlying3]
 unfold Op.equal Op.maxDepth
 rw [Op.equalIn]
 simp only [Sem.run_bind, run_underlying Tryz.underlying37, Result.andThen_ok]
 simp [hs, part, g3, e3]
 by_cases h0 : a0 = b0 <;> by_cases h1 : a1 = b1 <;> simp [h0, h1]
theorem Kn (a0 a1 b0 b1 : Int) : G7 Tryz.prog 37 [Ty.int .i64 a0, Ty.int .i64 a1] [Ty.int .i64 b0, Ty.int .i64 b1] ((decide (a0 = b0) && decide (a1 = b1))) :=
  ⟨by kernel_rfl, fun w M cs ds h1 h2 => by
    obtain ⟨cs⟩ := cs
    obtain ⟨ds⟩ := ds
    match cs, ds, h1, h2 with
    | [u0, u1], [v0, v1], h1, h2 =>
      simp only [cB, Ty.int, g6, and_true] at h1 h2
      obtain ⟨rfl, rfl⟩ := h1
      obtain ⟨rfl, rfl⟩ := h2
      exact My _ _ _ _ w⟩
theorem LN (a0 a1 b0 b1 : Int) (w : World) : (Op.equal 109 (.agg #[.int .i64 a0, .int .i64 a1]) (.agg #[.int .i64 b0, .int .i64 b1])).run Tryz.prog w = .ok ((decide (a0 = b0) && decide (a1 = b1))) w := by
 have hs : Tryz.prog.stoodInHeld 109 = false := by kernel_rfl
 have e3 : ∀ (x y : Int) (w : World), (Op.equalIn 9999 3 (.int .i64 x) (.int .i64 y)).run Tryz.prog w = .ok (decide (x = y)) w := fun x y w => mX 9998 Tryz.underlying3
 have g3 : ∀ w, (isAgg 3).run Tryz.prog w = .ok false w := fun w => by simp [isAgg, run_underlying Tryz.underlying3]
 unfold Op.equal Op.maxDepth
 rw [Op.equalIn]
 simp only [Sem.run_bind, run_underlying Tryz.underlying109, Result.andThen_ok]
 simp [hs, part, g3, e3]
 by_cases h0 : a0 = b0 <;> by_cases h1 : a1 = b1 <;> simp [h0, h1]
theorem MQ (a0 a1 b0 b1 : Int) : G7 Tryz.prog 109 [Ty.int .i64 a0, Ty.int .i64 a1] [Ty.int .i64 b0, Ty.int .i64 b1] ((decide (a0 = b0) && decide (a1 = b1))) :=
  ⟨by kernel_rfl, fun w M cs ds h1 h2 => by
    obtain ⟨cs⟩ := cs
    obtain ⟨ds⟩ := ds
    match cs, ds, h1, h2 with
    | [u0, u1], [v0, v1], h1, h2 =>
      simp only [cB, Ty.int, g6, and_true] at h1 h2
      obtain ⟨rfl, rfl⟩ := h1
      obtain ⟨rfl, rfl⟩ := h2
      exact LN _ _ _ _ w⟩
theorem mixed : Tryz.prog.follows .mixedOrders = true := by kernel_rfl
end Go.Proofs.YtelbollidfdcjaaGreat
namespace Go.Proofs.YtelbollidfdcjaaGreat
open Go Go.T
def cg (f : Nat → Int) : Nat → Int
  | 0 => 0
  | n + 1 => cg f n + f n
theorem fE {f g : Nat → Int} : ∀ {n : Nat}, (∀ i, i < n → f i = g i) → cg f n = cg g n
  | 0, _ => rfl
  | n + 1, h => by unfold cg; rw [fE fun i hi => h i (by omega), h n (by omega)]
theorem wo (f g : Nat → Int) : ∀ n, cg (fun i => f i + g i) n = cg f n + cg g n
  | 0 => rfl
  | n + 1 => by unfold cg; rw [wo f g n]; omega
theorem kR (f g : Nat → Int) : ∀ n, cg (fun i => f i - g i) n = cg f n - cg g n
  | 0 => rfl
  | n + 1 => by unfold cg; rw [kR f g n]; omega
theorem rZ (k : Int) (f : Nat → Int) : ∀ n, cg (fun i => k * f i) n = k * cg f n
  | 0 => (Int.mul_zero k).symm
  | n + 1 => by unfold cg; rw [rZ k f n, Int.mul_add]
theorem rT {f g : Nat → Int} : ∀ {n : Nat}, (∀ i, i < n → f i ≤ g i) → cg f n ≤ cg g n
  | 0, _ => Int.le_refl _
  | n + 1, h => by
    unfold cg
    have := rT (n := n) fun i hi => h i (by omega)
    have := h n (by omega)
    omega
theorem gP {f : Nat → Int} {n : Nat} (h : ∀ i, i < n → f i = 0) : cg f n = 0 := by
  induction n with
  | zero => rfl
  | succ n ih => unfold cg; rw [ih fun i hi => h i (by omega), h n (by omega)]; rfl
theorem zH {f g : Nat → Int} {n k : Nat} (hk : k < n) (h : ∀ i, i < n → f i ≤ g i) (hl : f k < g k) : cg f n < cg g n := by
  induction n with
  | zero => omega
  | succ n ih =>
    unfold cg
    by_cases e : k = n
    · subst e
      have := rT (f := f) (g := g) (n := k) fun i hi => h i (by omega)
      omega
    · have := ih (by omega) fun i hi => h i (by omega)
      have := h n (by omega)
      omega
theorem jf {f : Nat → Int} {n k : Nat} (hk : k < n) (h : ∀ i, i < n → i ≠ k → f i = 0) : cg f n = f k := by
  induction n with
  | zero => omega
  | succ n ih =>
    unfold cg
    by_cases e : k = n
    · subst e; rw [gP fun i hi => h i (by omega) (by omega)]; omega
    · rw [ih (by omega) fun i hi hn => h i (by omega) hn, h n (by omega) (by omega)]; omega
theorem yW (f : Nat → Nat → Int) (m : Nat) : ∀ n, cg (fun i => cg (f i) m) n = cg (fun j => cg (fun i => f i j) n) m
  | 0 => (gP fun _ _ => rfl).symm
  | n + 1 => by
    show cg (fun i => cg (f i) m) n + cg (f n) m = cg (fun j => cg (fun i => f i j) n + f n j) m
    rw [yW f m n, wo]
theorem nH {f : Nat → Int} {b : Int} : ∀ {n : Nat}, (∀ i, i < n → -b ≤ f i ∧ f i ≤ b) → -(b * n) ≤ cg f n ∧ cg f n ≤ b * n
  | 0, _ => by simp [cg]
  | n + 1, h => by
    unfold cg
    have h1 := nH (n := n) fun i hi => h i (by omega)
    have h2 := h n (by omega)
    rw [show ((n + 1 : Nat) : Int) = n + 1 by omega, Int.mul_add]
    omega
structure bp where
  src : Int
  dst : Int
  lo : Int
  hi : Int
deriving DecidableEq, Inhabited
structure Way where
  ix : Nat
  more : Bool
deriving DecidableEq
instance : Inhabited Way := ⟨⟨0, false⟩⟩
def ind (p : Prop) [Decidable p] : Int := if p then 1 else 0
theorem eZ {p : Prop} [Decidable p] (h : p) : ind p = 1 := if_pos h
theorem dm {p : Prop} [Decidable p] (h : ¬ p) : ind p = 0 := if_neg h
section
variable {fl : List bp} {a a' : List Int} {n : Nat}
def over (fl : List bp) (a : List Int) (c : Int) : Int := cg (fun i => (ind ((nth fl i).dst = c) - ind ((nth fl i).src = c)) * nth a i) fl.length
structure Net (fl : List bp) (n : Nat) : Prop where
  src : ∀ i, i < fl.length → 0 ≤ (nth fl i).src ∧ (nth fl i).src < n
  dst : ∀ i, i < fl.length → 0 ≤ (nth fl i).dst ∧ (nth fl i).dst < n
  ne : ∀ i, i < fl.length → (nth fl i).src ≠ (nth fl i).dst
def xP (fl : List bp) (a : List Int) : Prop := a.length = fl.length ∧ ∀ i, i < fl.length → (nth fl i).lo ≤ nth a i ∧ nth a i ≤ (nth fl i).hi
def Bc (fl : List bp) (n : Nat) (a : List Int) : Prop := ∀ c : Nat, c < n → over fl a c = 0
def gW (fl : List bp) (n : Nat) (a : List Int) : Prop := xP fl a ∧ Bc fl n a
theorem DN {π : Int → Int} {x : Int} (h : 0 ≤ x ∧ x < n) : cg (fun c => π c * ind (x = (c : Int))) n = π x := by
 rw [jf (k := x.toNat) (by omega) fun i hi hn => by rw [dm (by omega), Int.mul_zero], eZ (by omega), Int.mul_one]
 congr 1; omega
theorem wJ (hN : Net fl n) (π : Int → Int) : cg (fun c => π c * over fl a c) n = cg (fun i => (π (nth fl i).dst - π (nth fl i).src) * nth a i) fl.length := by
 unfold over
 rw [fE (g := fun c : Nat => cg (fun i => π c * ((ind ((nth fl i).dst = c) - ind ((nth fl i).src = c)) * nth a i)) fl.length) fun c _ => (rZ _ _ _).symm, yW]
 refine fE fun i hi => ?_
 rw [fE (g := fun c : Nat => nth a i * (π c * ind ((nth fl i).dst = c) - π c * ind ((nth fl i).src = c))) fun c _ => by
  rw [← Int.mul_sub, Int.mul_comm (_ - _) (nth a i), ← Int.mul_assoc, Int.mul_comm (π c), Int.mul_assoc], rZ, kR, DN (hN.dst i hi), DN (hN.src i hi), Int.mul_comm]
theorem wV (hN : Net fl n) (h : Bc fl n a) (π : Int → Int) : cg (fun i => (π (nth fl i).dst - π (nth fl i).src) * nth a i) fl.length = 0 := by
 rw [← wJ hN]
 exact gP fun c hc => by rw [h c hc, Int.mul_zero]
def Way.fin (w : Way) (fl : List bp) : Int := if w.more then (nth fl w.ix).dst else (nth fl w.ix).src
def Way.gp (w : Way) (fl : List bp) : Int := if w.more then (nth fl w.ix).src else (nth fl w.ix).dst
def Way.room (w : Way) (fl : List bp) (a : List Int) : Int := if w.more then (nth fl w.ix).hi - nth a w.ix else nth a w.ix - (nth fl w.ix).lo
def Open (fl : List bp) (a : List Int) (w : Way) : Prop := w.ix < fl.length ∧ 0 < w.room fl a
theorem F9 (hN : Net fl n) (hI : xP fl a) (R : Int → Bool) (hcl : ∀ w, Open fl a w → R (w.gp fl) = true → R (w.fin fl) = true)
    (h0 : ∀ c : Nat, c < n → R c = true → 0 ≤ over fl a c) {c0 : Nat} (hc0 : c0 < n) (hR0 : R c0 = true) (hp : 0 < over fl a c0) : ¬ ∃ a', gW fl n a' := by
  rintro ⟨a', hI', hE⟩
  have h1 := wJ (a := a) hN fun c => ind (R c = true)
  have h2 := wV hN hE fun c => ind (R c = true)
  have hpos : 0 < cg (fun c : Nat => ind (R c = true) * over fl a c) n := by
    have := zH (f := fun _ => 0) (g := fun c : Nat => ind (R c = true) * over fl a c) hc0 (fun i hi => by
      cases h : R i with
      | true => rw [eZ rfl, Int.one_mul]; exact h0 i hi h
      | false => rw [dm (by decide), Int.zero_mul]; exact Int.le_refl _) (by show (0 : Int) < _; rw [hR0, eZ rfl, Int.one_mul]; exact hp)
    rwa [gP fun _ _ => rfl] at this
  have hle : cg (fun i => (ind (R (nth fl i).dst = true) - ind (R (nth fl i).src = true)) * nth a i) fl.length ≤ cg (fun i => (ind (R (nth fl i).dst = true) - ind (R (nth fl i).src = true)) * nth a' i) fl.length := by
    refine rT fun i hi => ?_
    have b1 := hI.2 i hi
    have b2 := hI'.2 i hi
    have c1 := hcl ⟨i, true⟩
    have c2 := hcl ⟨i, false⟩
    simp only [Open, Way.room, Way.gp, Way.fin, if_true, if_false, Bool.false_eq_true] at c1 c2
    have e1 : ind (true = true) = 1 := rfl
    have e0 : ind (false = true) = 0 := rfl
    cases hd : R (nth fl i).dst <;> cases hs : R (nth fl i).src <;> rw [hd] at c1 c2 <;> rw [hs] at c1 c2
    · simp [ind]
    · rw [e1, e0]
      have : ¬ 0 < (nth fl i).hi - nth a i := fun h => by have := c1 ⟨hi, h⟩ rfl; cases this
      omega
    · rw [e1, e0]
      have : ¬ 0 < nth a i - (nth fl i).lo := fun h => by have := c2 ⟨hi, h⟩ rfl; cases this
      omega
    · simp [ind]
  omega
theorem GC (hN : Net fl n) (ha : gW fl n a) (ha' : gW fl n a') (g : Nat → Int) (p : Int → Int)
 (h : ∀ w, Open fl a w → p (w.gp fl) + (if w.more then g w.ix else - g w.ix) ≤ p (w.fin fl)) : cg (fun i => g i * nth a' i) fl.length ≤ cg (fun i => g i * nth a i) fl.length := by
 have h1 := wV hN ha.2 p
 have h2 := wV hN ha'.2 p
 have hle : cg (fun i => g i * nth a' i - (p (nth fl i).dst - p (nth fl i).src) * nth a' i) fl.length ≤ cg (fun i => g i * nth a i - (p (nth fl i).dst - p (nth fl i).src) * nth a i) fl.length := by
  refine rT fun i hi => ?_
  have b1 := ha.1.2 i hi
  have b2 := ha'.1.2 i hi
  have c1 := h ⟨i, true⟩
  have c2 := h ⟨i, false⟩
  simp only [Open, Way.room, Way.gp, Way.fin, if_true, if_false, Bool.false_eq_true] at c1 c2
  rw [← Int.sub_mul, ← Int.sub_mul]
  generalize hr : g i - (p (nth fl i).dst - p (nth fl i).src) = r at *
  by_cases e1 : nth a i < (nth fl i).hi
  ·have := c1 ⟨hi, by omega⟩
   by_cases e2 : (nth fl i).lo < nth a i
   ·have := c2 ⟨hi, by omega⟩
    have : r = 0 := by omega
    subst this; simp
   exact Int.mul_le_mul_of_nonpos_left (by omega) (by omega)
  by_cases e2 : (nth fl i).lo < nth a i
  ·have := c2 ⟨hi, by omega⟩
   exact Int.mul_le_mul_of_nonneg_left (by omega) (by omega)
  have : nth a' i = nth a i := by omega
  rw [this]; exact Int.le_refl _
 rw [kR, kR, h1, h2] at hle
 omega
end
end Go.Proofs.YtelbollidfdcjaaGreat
namespace Go.T
open Go Go.RowKit
section
variable {P : Program} {fr : Fr} {ops : Array Oper} {A : As} {rest : List Oper} {K : As → List (As × Fx) → Prop} {d : Nat} {t ty' : TypeId} {p : String} {e : Array Edge}
theorem Hj {α : Type} {E : El α} {T tg tg' : Nat} {xs : List α} {w : World} {M M' : bB} {v : Value} (h : gV E T tg xs w M v) (hM : ∀ b, M b = some tg → M' b = some tg') (hn : ∀ b, M b = none → M' b = none) : gV E T tg' xs w M' v := by
 obtain ⟨cs, h1, h2, h3⟩ := h
 refine ⟨cs, h1, ?_, fun g hg => hM g (h3 g hg)⟩
 exact bQ (S := fun _ => True) (K := fun _ => True) ⟨Nat.le_refl _, rfl, rfl, rfl, fun b _ hm => ⟨hn b hm, rfl⟩, fun b t _ h => absurd trivial h⟩ (by rw [E.cO]; intro _ h; cases h) (by rw [E.cD]; intro _ h; cases h) h2
end
section
variable {P : Program} {fr : Fr} {ops : Array Oper} {A : As} {rest : List Oper} {K : As → List (As × Fx) → Prop} {d : Nat} {t ty' : TypeId} {p : String} {e : Array Edge} [T : kf P]
theorem wq {α : Type} {E : El α} {el : Nat} {ti te : TI} (hT : T.eE[ty']? = some ti) (hk : ti.k = .slice el) (hE : T.eE[el]? = some te) (hp : fr.pass.contains (d + 1) = false)
 (h : av P fr ops rest (A.after { d := some d, ty := .row E el (d + 1) [], K := [d + 1] }) fun A' l' => K A' ((A, { d := some d, ty := .row E el (d + 1) [], K := [d + 1] }) :: l')) :
 av P fr ops (⟨some d, .buildSlice ty' 0 #[], t, p, e, none⟩ :: rest) A K := by
 refine ⟨_, gC rfl rfl (by simp) (by simp) (by simp at hp ⊢; exact hp) fun a w M wf hr _ => ?_, h⟩
 obtain ⟨_, D, _, hD, hkd, _⟩ := ct hT
 rw [hk] at hkd
 cases D <;> simp only [TK.of, reduceCtorEq, TK.slice.injEq] at hkd
 rename_i el0
 have hel : el0 = el := hkd
 subst hel
 obtain ⟨h1, h2, h3⟩ := kQ wf (.cells #[] el0) (d + 1)
 refine ⟨.slice (some ⟨w.heap.size, 0, none⟩) 0 0, w.alloc (.cells #[] el0), ?_, _, h1, h2, ⟨[], ⟨by simp, .inr ⟨w.heap.size, 0, #[], rfl, Nat.zero_le _, gO _ _, Nat.le_refl _, by simp [maxLen], by simp, by simp⟩⟩, trivial, ?_⟩, by simp⟩
 ·simp only [execOp, Instr.buildSlice, Sem.run_bind, run_underlying hD, Result.andThen_ok, dH hE]
  simp [newRow, newObj, Sem.run, Instr.fill, show Array.range 0 = #[] from rfl, Sem.new]
 intro g hg
 simp [Value.ownBlock] at hg
 subst hg; exact h3
end
end Go.T
namespace Go.T
open Go Go.RowKit
def nT (P : Program) (t : Ty) (args : List Ty) (res : Ty) : Prop :=
  res.deps = [] ∧ res.cdeps = [] ∧ ∃ f full, dK P f full res ∧ cC full = [] ∧ bX full = [] ∧
    ∀ w M v vs, t.den w M v → cB w M args vs → ∃ first caps : Array Value, v = .func (.func f) first caps ∧ cB w M full (first.toList ++ (vs ++ caps.toList))
def OK (f : FuncId) (bd : List Ty) (w : World) (M : bB) (x : Value) : Prop := ∃ bs : Array Value, x = .func (.func f) bs #[] ∧ cB w M bd bs.toList
def Ty.Ks (f : FuncId) (bd : List Ty) : Ty := ⟨OK f bd, cC bd, bX bd, fun le hk hs ⟨bs, e, h⟩ => ⟨bs, e, bQ le hk hs h⟩, true, fun _ ⟨_, e, _⟩ => e ▸ rfl⟩
theorem wD {l l' : List Ty} : cC (l ++ l') = cC l ++ cC l' := by simp [cC]
theorem uK {l l' : List Ty} : bX (l ++ l') = bX l ++ bX l' := by simp [bX]
theorem c9 {P : Program} {f : FuncId} {caps args : List Ty} {res : Ty} (hF : dK P f (args ++ caps) res) (h1 : cC args = []) (h2 : bX args = []) (h3 : cC caps = []) (h4 : bX caps = []) (h5 : res.deps = []) (h6 : res.cdeps = []) : nT P (.jD f caps) args res :=
 ⟨h5, h6, f, args ++ caps, hF, by rw [wD, h1, h3]; rfl, by rw [uK, h2, h4]; rfl, fun w M v vs ⟨cs, e, hd⟩ hv => ⟨#[], cs, e, by show cB w M (args ++ caps) (vs ++ cs.toList); exact eT hv hd⟩⟩
theorem Dn {P : Program} {f : FuncId} {bd args : List Ty} {res : Ty} (hF : dK P f (bd ++ args) res) (h1 : cC args = []) (h2 : bX args = []) (h3 : cC bd = []) (h4 : bX bd = []) (h5 : res.deps = []) (h6 : res.cdeps = []) : nT P (.Ks f bd) args res :=
 ⟨h5, h6, f, bd ++ args, hF, by rw [wD, h1, h3]; rfl, by rw [uK, h2, h4]; rfl, fun w M v vs ⟨bs, e, hd⟩ hv => ⟨bs, #[], e, by rw [List.append_nil]; exact eT hd hv⟩⟩
section
variable {P : Program} {fr : Fr} {ops : Array Oper} {A : As} {rest : List Oper} {K : As → List (As × Fx) → Prop} {d : Nat} {t ty' : TypeId} {p : String} {e : Array Edge}
theorem E5 {f : FuncId} {xs : List Operand} {l : List Ty} (hx : mw A fr xs = l)
 (h : av P fr ops rest (A.set d (.Ks f l)) fun A' l' => K A' ((A, { d := some d, ty := .Ks f l, rs := xs.flatMap bw }) :: l')) : av P fr ops (⟨some d, .makeFunc (.func f) xs.toArray #[], t, p, e, none⟩ :: rest) A K :=
 bE (bL rfl rfl fun a w M _ hr _ => by
  have hv : cB w M l (xs.map a.eval) := hx ▸ gF hr fun x hx c hc => List.mem_flatMap.2 ⟨x, hx, hc⟩
  exact ⟨.func (.func f) (xs.map a.eval).toArray #[], by simp [execOp, Instr.makeFunc], _, rfl, by simpa using hv⟩) h
theorem eI {c : Nat} {tc : Ty} {args : List Ty} {res : Ty} (hc : A.op fr (.tmp c) = tc) (hF : nT P tc args res) {xs : List Operand} {ats : Array TypeId} (hx : mw A fr xs = args)
 (h : av P fr ops rest (A.set d res) fun A' l => K A' ((A, { d := some d, ty := res, rs := c :: xs.flatMap bw }) :: l)) : av P fr ops (⟨some d, .call ⟨.value (.tmp c), xs.toArray, ats⟩, t, p, e, none⟩ :: rest) A K := by
 refine ⟨{ d := some d, ty := res, rs := c :: xs.flatMap bw }, ⟨rfl, (by simp), (by simp), (by simp), fun a w M wf _ hrd _ => ?_⟩, h⟩
 rw [if_pos (by simp [Region.wanted])]
 obtain ⟨hr, hrc, f, full, hC, hd, hdc, hval⟩ := hF
 have hcv := cE (x := .tmp c) (fun u hu => by exact (List.mem_singleton.1 hu) ▸ List.mem_cons_self) hrd
 rw [hc] at hcv
 obtain ⟨first, caps, ec, hfull⟩ := hval w M _ _ hcv (hx ▸ gF hrd fun x hx c hc => List.mem_cons_of_mem _ (List.mem_flatMap.2 ⟨x, hx, hc⟩))
 have hcall := hC.2 w _ _ (Gs wf) AQ (rJ hd hdc hfull)
 have hrun : (execOp a.eval ⟨some d, .call ⟨.value (.tmp c), xs.toArray, ats⟩, t, p, e, none⟩).run P w = .ok (.enter f (first.toList ++ (xs.map a.eval ++ caps.toList)).toArray) w := by
  simp [execOp, resolve, ec, Deferred.ofValue, invoke, lD hC]
 refine kH hrun ?_
 refine hcall.mono fun en w' ⟨r, M', he, _, le, hden⟩ => ?_
 obtain ⟨h1, h2, h3⟩ := yG wf le hr hrc hden
 exact ⟨r, he, r, rfl, _, h1, h2, h3, by simp⟩
end
end Go.T
namespace Go.T
open Go Go.RowKit
section
variable {P : Program} {fr : Fr} {ops : Array Oper} {A : As} {rest : List Oper} {K : As → List (As × Fx) → Prop} {d : Nat} {t ty' ty2 : TypeId} {p : String} {e : Array Edge} {x y : Operand}
end
end Go.T
namespace Go.T
open Go Go.RowKit
section
variable {P : Program} {fr : Fr} {ops : Array Oper} {A : As} {rest : List Oper} {K : As → List (As × Fx) → Prop} {d : Nat} {t ty' : TypeId} {p : String} {e : Array Edge} [T : kf P]
variable {α : Type} [Inhabited α] {E : El α} {xs : List α} {x y : Operand} {tg i o s Tb : Nat} {ti : TI} {ty : Ty} {z : α}
theorem sB {off n : Nat} {k : IntKind} {j : Int} {te : TI} {el : Nat} (hx : A.op fr x = .ptr tg off) (hy : A.op fr y = .int k j) (hT : T.eE[ty']? = some ti) (hk : ti.k = .array n el) (hE : T.eE[el]? = some te) (h0 : 0 ≤ j) (h1 : j.toNat < n)
 (h : av P fr ops rest (A.set d (.ptr tg (off + j.toNat * te.size))) fun A' l' => K A' ((A, { d := some d, ty := .ptr tg (off + j.toNat * te.size), rs := bw x ++ bw y }) :: l')) : av P fr ops (⟨some d, .indexAddr ty' x y, t, p, e, none⟩ :: rest) A K :=
 bE (bL rfl rfl fun a w M _ hr _ => by
  obtain ⟨hdx, hdy⟩ := op2 hr
  rw [hx] at hdx; rw [hy] at hdy
  obtain ⟨b, hb, ex⟩ := hdx
  have ey : a.eval y = .int k j := hdy
  exact ⟨_, by simp only [execOp, ex, ey, Sem.run_bind, oE hT hk hE h0 h1]; rfl, b, hb, rfl⟩) h
end
end Go.T
namespace Go.T
open Go Go.RowKit
section
variable {P : Program} {fr : Fr} {ops : Array Oper} {A : As} {rest : List Oper} {K : As → List (As × Fx) → Prop} {d : Nat} {t ty' ty2 : TypeId} {p : String} {e : Array Edge} [T : kf P]
variable {α : Type} [Inhabited α] {E : El α} {xs ys : List α} {x y : Operand} {tg i o s Tb : Nat} {ti : TI} {ty : Ty} {z : α}
theorem hO (hx : A.op fr x = .ptr tg 0) (hc : A.tag tg = some (.vec E Tb xs)) (h1 : fN tg) (hT : T.eE[ty']? = some ti) (ha : ti.k.agg = true) (hsz : xs.length * E.size = ti.size) (hne : xs ≠ [])
 (h : av P fr ops rest (A.set d (.arr E xs)) fun A' l' => K A' ((A, { d := some d, ty := .arr E xs, rs := bw x, rt := [tg] }) :: l')) : av P fr ops (⟨some d, .load ty' x, t, p, e, none⟩ :: rest) A K :=
 bE (bL rfl rfl fun a w M wf hr ht => by
  have _ := (inferInstance : Inhabited α)
  have := cE (x := x) (fun _ h => h) hr
  rw [hx] at this
  obtain ⟨b, hb, e⟩ := this
  rcases nx hc w M ht with h0 | ⟨b', cs, hb', hh, hd⟩
  ·exact absurd h0 hne
  obtain ⟨u, rfl⟩ : ∃ u, tg = u + 1 := ⟨tg - 1, by omega⟩
  have := wf.inj b b' u (by omega) hb hb'
  subst this
  have hlen := cL hd
  rw [cq] at hlen hd
  refine ⟨.agg (cs.toList.take (xs.length * E.size)).toArray, ?_, _, rfl, by simpa using hd⟩
  have := fu (P := P) hT ha (w := w) (b := b) (off := 0) (cs := cs.toList.take (xs.length * E.size)) (by rw [hlen, hsz]) (fun j v hj => by
   rw [List.getElem?_take] at hj
   split at hj
   ·simpa [World.cell?, hh] using hj
   cases hj)
  simp [execOp, e, this]) h
omit T in
theorem MI {c : Bool} (hE : G7 P ty' (xs.flatMap E.tys) (ys.flatMap E.tys) c) (hx : A.op fr x = .arr E xs) (hy : A.op fr y = .arr E ys)
 (h : av P fr ops rest (A.set d (.bool c)) fun A' l' => K A' ((A, { d := some d, ty := .bool c, rs := bw x ++ bw y }) :: l')) : av P fr ops (⟨some d, .binOp .eql ty' x y ty2, t, p, e, none⟩ :: rest) A K :=
 bE (bL rfl rfl fun a w M _ hrd _ => by
  have _ := (inferInstance : Inhabited α)
  obtain ⟨hdx, hdy⟩ := op2 hrd
  rw [hx] at hdx; rw [hy] at hdy
  obtain ⟨cs, ex, h1⟩ := hdx
  obtain ⟨ds, ey, h2⟩ := hdy
  exact ⟨.bool c, by simp only [execOp, ex, ey]; simp [eqGuard, hE.1, binOp, hE.2 w M cs ds h1 h2], rfl⟩) h
theorem Bi {l : List Ty} (hx : A.op fr x = .ptr tg 0) (hc : A.tag tg = some (.cells Tb l)) (h1 : fN tg) (hT : T.eE[ty']? = some ti) (hy : A.op fr y = .arr E xs) (hsz : xs.length * E.size = ti.size) (hlen : l.length = ti.size)
 (h : av P fr ops rest (A.after { d := none, S := [tg], sets := [(tg, .vec E Tb xs)], rs := bw x ++ bw y, rt := [tg] }) fun A' l'' => K A' ((A, { d := none, S := [tg], sets := [(tg, .vec E Tb xs)], rs := bw x ++ bw y, rt := [tg] }) :: l'')) :
 av P fr ops (⟨none, .store ty' x y, t, p, e, none⟩ :: rest) A K := by
 have _ := (inferInstance : Inhabited α)
 refine ⟨_, jU rfl rfl rfl (by simp) (by simpa using h1.1) (by simp) fun a w M wf hr ht => ?_, h⟩
 obtain ⟨hdx, hdy⟩ := op2 hr
 rw [hx] at hdx; rw [hy] at hdy
 obtain ⟨b, hb, ex⟩ := hdx
 obtain ⟨vs, ey, hvs⟩ := hdy
 obtain ⟨b', cs, hb', hh, hd⟩ := ht _ (cW hc) (by simp)
 obtain ⟨u, rfl⟩ : ∃ u, tg = u + 1 := ⟨tg - 1, by omega⟩
 have := wf.inj b b' u (by omega) hb hb'
 subst this
 have hl1 := cL hd
 have hl2 := cL hvs
 rw [cq] at hl2
 obtain ⟨h1', h2', h3'⟩ := iF (cs' := vs) (Tb := Tb) wf hb _ rfl
 have hones : ∀ v ∈ vs.toList, v.oneCell' = true := lK hvs (lH E xs)
 refine ⟨_, ?_, M, h1', h2', trivial, ?_⟩
 ·have hst := jC (P := P) (w := w) (b := b) (Tb := Tb) vs.toList [] cs hh (by simp at hl1 hl2 ⊢; omega) (by simp) hones
  have hsz' : vs.size = ti.size := by simp at hl2; omega
  simp only [List.length_nil, List.nil_append] at hst
  simp [execOp, Instr.storeAt, Instr.sureAddr, ex, ey, storeVar, Value.cells, dH hT, hsz', hst]
 intro z hz
 simp only [List.mem_singleton] at hz
 subst hz
 exact AE ⟨b, vs, hb, h3', bQ h2' (by intro _ _ h; cases h) (by rw [E.cD]; intro _ h; cases h) hvs⟩
end
section
variable {P : Program} {A : As} {fn : Func} {n : Nat} {w0 : World} {M0 : bB} [T : kf P]
theorem I0 {α : Type} {E : El α} {xs : List α} {tm ty tg Tb : Nat} {ti : TI} (hr : fn.results = #[.cell tm ty]) (ht : Nat.blt tm n = true) (hx : A.slots tm = .ptr tg 0) (hc : A.tag tg = some (.vec E Tb xs)) (h1 : fN tg) (hT : T.eE[ty]? = some ti) (ha : ti.k.agg = true) (hsz : xs.length * E.size = ti.size) (hne : xs ≠ []) :
 dR ⟨n, w0, M0, [], .plain⟩ A (bodyPost P fn (mL w0 M0 (.arr E xs)) .ret) := by
 intro a w ⟨M, ok, hsl, htg⟩
 have hd := hsl tm (by simpa using ht)
 rw [hx] at hd
 obtain ⟨b, hb, e⟩ := hd
 have hv : gb E Tb xs w M tg := htg _ (cW hc)
 rcases hv with h0 | ⟨b', cs, hb', hh, hds⟩
 ·exact absurd h0 hne
 obtain ⟨u, rfl⟩ : ∃ u, tg = u + 1 := ⟨tg - 1, by omega⟩
 have := ok.wf.inj b b' u (by omega) hb hb'
 subst this
 have hlen := cL hds
 rw [cq] at hlen hds
 have hload := fu (P := P) hT ha (w := w) (b := b) (off := 0) (cs := cs.toList.take (xs.length * E.size)) (by rw [hlen, hsz]) (fun j v hj => by
  rw [List.getElem?_take] at hj
  split at hj
  ·simpa [World.cell?, hh] using hj
  cases hj)
 have hload' : (loadVar ty ⟨b, 0, none⟩).run P w = .ok (.agg (cs.toList.take (xs.length * E.size)).toArray) w := by simpa [Instr.loadAt, Instr.sureAddr] using hload
 refine ⟨ok.gw (by simp), .agg (cs.toList.take (xs.length * E.size)).toArray, ?_, _, oZ M, rfl, rL ok.wf, og (fr := ⟨n, w0, M0, [], .plain⟩) (fun _ h => h) ok.base, (bY rfl rfl : iE (Ty.arr E xs) (Ty.arr E xs)) _ _ _ ok.wf ⟨_, rfl, by simpa using hds⟩⟩
 have e' : a.tmps.getD tm undef = .pointer (some ⟨b, 0, none⟩) := e
 have e'' : a.tmps[tm]?.getD undef = .pointer (some ⟨b, 0, none⟩) := by rw [← Array.getD_eq_getD_getElem?]; exact e'
 simp [results, hr, e'', asAddr, hload']
end
section
variable {P : Program} {fr : Fr} {ops : Array Oper} {A : As} {rest : List Oper} {K : As → List (As × Fx) → Prop} {d : Nat} {t ty' ty2 : TypeId} {p : String} {e : Array Edge} {x y : Operand}
end
end Go.T
