/- Lemmas: the program and the reference walked, plain laws. -/
import Derived.Orders
import Derived.Below
import Derived.WalkKit
import Derived.OrdersIn
import Derived.TacticsIn
import Derived.RangeFuncCalls
import Derived.ChangeKeysEq
import Derived.Maps.AppendAt
import Derived.Laws.MakeOwn
import Derived.Laws.CopyRow
import Derived.Test.YtelbollidfdcjaaGreatChecked
import Derived.RangeFuncRecord
import Derived.Lib.AppendZerosOnto
import Derived.JoinedOf
import Derived.OpenShut
import Derived.WideKeyArgs
import Derived.Deep.Frames
import Derived.Deep.Slices
import Derived.Deep.Strs
import Derived.Lib.SmallJoins
import Derived.KernelRfl
import Derived.SizedLaws
import Derived.Test.YtelbollidfdcjaaGreatRows
namespace Go.T
open Go Go.RowKit
abbrev bC := Nat → Option Nat
structure Wf (w : World) (M : bC) : Prop where
  lt : ∀ b t, M b = some t → b < w.heap.size
  inj : ∀ b b' t, t + 1 < 4096 → M b = some (t + 1) → M b' = some (t + 1) → b = b'
abbrev gE (t : Nat) : Prop := 1 ≤ t ∧ t < 4096
structure Le (S K : Nat → Prop) (w : World) (M : bC) (w' : World) (M' : bC) : Prop where
  size : w.heap.size ≤ w'.heap.size
  os : w'.os = w.os
  tape : w'.tape = w.tape
  out : w'.output = w.output
  ql : ∀ b, b < w.heap.size → M b = none → M' b = none ∧ w'.heap[b]? = w.heap[b]?
  own : ∀ b t, M b = some t → ¬ K t → M' b = some t ∧ (¬ S t → w'.heap[b]? = w.heap[b]?)
theorem Le.refl (S K : Nat → Prop) (w : World) (M : bC) : Le S K w M w M :=
 ⟨Nat.le_refl _, rfl, rfl, rfl, fun _ _ h => ⟨h, rfl⟩, fun _ _ h _ => ⟨h, fun _ => rfl⟩⟩
theorem Le.trans {S K S' K' : Nat → Prop} {w w' w'' : World} {M M' M'' : bC} (h : Le S K w M w' M') (h' : Le S' K' w' M' w'' M'') :
 Le (fun t => S t ∨ S' t) (fun t => K t ∨ K' t) w M w'' M'' where
 size := Nat.le_trans h.size h'.size
 os := h'.os.trans h.os
 tape := h'.tape.trans h.tape
 out := h'.out.trans h.out
 ql b hb hm := by
  obtain ⟨h1, h2⟩ := h.ql b hb hm
  obtain ⟨h3, h4⟩ := h'.ql b (Nat.lt_of_lt_of_le hb h.size) h1
  exact ⟨h3, h4.trans h2⟩
 own b t hm hk := by
  obtain ⟨h1, h2⟩ := h.own b t hm (fun h => hk (.inl h))
  obtain ⟨h3, h4⟩ := h'.own b t h1 (fun h => hk (.inr h))
  exact ⟨h3, fun hs => (h4 fun h => hs (.inr h)).trans (h2 fun h => hs (.inl h))⟩
theorem Le.weaken {S K S' K' : Nat → Prop} {w w' : World} {M M' : bC} (h : Le S K w M w' M') (hs : ∀ t, S t → S' t) (hk : ∀ t, K t → K' t) : Le S' K' w M w' M' :=
 ⟨h.size, h.os, h.tape, h.out, h.ql, fun b t hm ht => let ⟨a, b'⟩ := h.own b t hm (fun x => ht (hk t x)); ⟨a, fun x => b' fun y => x (hs t y)⟩⟩
structure Ty where
  den : World → bC → Value → Prop
  deps : List Nat := []
  cdeps : List Nat := []
  mono : ∀ {S K : Nat → Prop} {w w' : World} {M M' : bC} {v : Value}, Le S K w M w' M' → (∀ t ∈ deps, ¬ K t) → (∀ t ∈ cdeps, ¬ S t) → den w M v → den w' M' v
  one : Bool := false
  isOne : ∀ {w : World} {M : bC} {v : Value}, one = true → den w M v → v.oneCell' = true := by intro _ _ _ h; cases h
def gx (_ : World) (_ : bC) (_ : Value) : Prop := True
def Ty.any : Ty := { den := gx, mono := fun _ _ _ _ => trivial }
def cF (l : List Ty) : List Nat := l.flatMap Ty.deps
def bY (l : List Ty) : List Nat := l.flatMap Ty.cdeps
def cI (w : World) (M : bC) : List Ty → List Value → Prop
  | [], [] => True
  | t :: ts, v :: vs => t.den w M v ∧ cI w M ts vs
  | _, _ => False
theorem bl {S K : Nat → Prop} {w w' : World} {M M' : bC} (le : Le S K w M w' M') : ∀ {l : List Ty} {vs : List Value}, (∀ t ∈ cF l, ¬ K t) → (∀ t ∈ bY l, ¬ S t) → cI w M l vs → cI w' M' l vs
  | [], [], _, _, _ => trivial
  | t :: ts, v :: vs, hd, hc, ⟨h, hs⟩ => ⟨t.mono le (fun u hu => hd u (by simp [cF, hu])) (fun u hu => hc u (by simp [bY, hu])) h, bl le (fun u hu => hd u (by simp only [cF, List.flatMap_cons, List.mem_append]; exact .inr hu)) (fun u hu => hc u (by simp only [bY, List.flatMap_cons, List.mem_append]; exact .inr hu)) hs⟩
theorem cW {w : World} {M : bC} : ∀ {l : List Ty} {vs : List Value}, cI w M l vs → vs.length = l.length
  | [], [], _ => rfl
  | _ :: _, _ :: _, ⟨_, h⟩ => by simp [cW h]
theorem dW {w : World} {M : bC} : ∀ {l : List Ty} {vs : List Value}, cI w M l vs → ∀ (i : Nat) (t : Ty), l[i]? = some t → ∃ v, vs[i]? = some v ∧ t.den w M v
  | [], [], _, i, t, h => by simp at h
  | u :: ts, v :: vs, ⟨h1, h2⟩, i, t, h => by
    cases i with
    | zero => simp at h; subst h; exact ⟨v, by simp, h1⟩
    | succ i => simp at h; obtain ⟨x, hx, hd⟩ := dW h2 i t h; exact ⟨x, by simpa using hx, hd⟩
theorem fm {w : World} {M : bC} : ∀ {l : List Ty} {vs : List Value}, vs.length = l.length → (∀ (i : Nat) (t : Ty), l[i]? = some t → ∃ v, vs[i]? = some v ∧ t.den w M v) → cI w M l vs
  | [], [], _, _ => trivial
  | u :: ts, v :: vs, hl, h => by
    refine ⟨?_, fm (by simpa using hl) fun i t hi => ?_⟩
    · obtain ⟨x, hx, hd⟩ := h 0 u rfl
      simp at hx; subst hx; exact hd
    · obtain ⟨x, hx, hd⟩ := h (i + 1) t (by simpa using hi)
      exact ⟨x, by simpa using hx, hd⟩
theorem nF {w : World} {M : bC} : ∀ (n : Nat) {l : List Ty} {vs : List Value}, cI w M l vs → cI w M (l.drop n) (vs.drop n)
  | 0, _, _, h => h
  | n + 1, [], [], _ => trivial
  | n + 1, _ :: ts, _ :: vs, ⟨_, h⟩ => nF n h
theorem qE {w : World} {M : bC} : ∀ (n : Nat) {l : List Ty} {vs : List Value}, cI w M l vs → cI w M (l.take n) (vs.take n)
  | 0, _, _, _ => trivial
  | n + 1, [], [], _ => trivial
  | n + 1, _ :: ts, _ :: vs, ⟨h1, h2⟩ => ⟨h1, qE n h2⟩
def k7 (l k : List Nat) : Bool := l.all fun x => !k.contains x
def Ty.safe (t : Ty) (S K : List Nat) : Bool := k7 t.deps K && k7 t.cdeps S
theorem gN {l k : List Nat} (h : k7 l k = true) : ∀ t ∈ l, ¬ (t ∈ k) := by
 intro t ht hk
 simp only [k7, List.all_eq_true] at h
 have := h t ht
 simp [hk] at this
theorem wv (t : Ty) : t.safe [] [] = true := by simp [Ty.safe, k7]
theorem fT {t : Ty} {S K : List Nat} (h : t.safe S K = true) : (∀ u ∈ t.deps, ¬ (u ∈ K)) ∧ ∀ u ∈ t.cdeps, ¬ (u ∈ S) := by
 simp only [Ty.safe, Bool.and_eq_true] at h; exact ⟨gN h.1, gN h.2⟩
def Ty.weak (S K : List Nat) (t : Ty) : Ty := bif t.safe S K then t else Ty.any
def dN (T : TypeId) (l : List Ty) (w : World) (M : bC) (t : Nat) : Prop := ∃ b cs, M b = some t ∧ w.heap[b]? = some (.cells cs T (0, 0)) ∧ cI w M l cs.toList
structure Cont where
  den : World → bC → Nat → Prop
  deps : List Nat := []
  cdeps : List Nat := []
  mono : ∀ {S K : Nat → Prop} {w w' : World} {M M' : bC} {t : Nat}, Le S K w M w' M' → (∀ u ∈ deps, ¬ K u) → (∀ u ∈ cdeps, ¬ S u) → ¬ S t → ¬ K t → den w M t → den w' M' t
  view : Option (TypeId × List Ty) := none
  viewOk : ∀ {T : TypeId} {l : List Ty}, view = some (T, l) → cF l = deps ∧ bY l = cdeps ∧ ∀ {w : World} {M : bC} {t : Nat}, den w M t → dN T l w M t := by intro _ _ h; cases h
def Cont.safe (t : Cont) (S K : List Nat) : Bool := k7 t.deps K && k7 t.cdeps S
theorem ny {t : Cont} {S K : List Nat} (h : t.safe S K = true) : (∀ u ∈ t.deps, ¬ (u ∈ K)) ∧ ∀ u ∈ t.cdeps, ¬ (u ∈ S) := by
 simp only [Cont.safe, Bool.and_eq_true] at h; exact ⟨gN h.1, gN h.2⟩
def Cont.cells (T : TypeId) (l : List Ty) : Cont :=
  { den := dN T l, deps := cF l, cdeps := bY l
    mono := fun le hk hc hs hkt ⟨b, cs, h1, h2, h3⟩ => let ⟨h4, h5⟩ := le.own b _ h1 hkt; ⟨b, cs, h4, (h5 hs).trans h2, bl le hk hc h3⟩
    view := some (T, l)
    viewOk := fun h => by injection h with h; injection h with h1 h2; subst h1; subst h2; exact ⟨rfl, rfl, fun h => h⟩ }
def Cont.soft (S K : List Nat) (C : Cont) : Option Cont :=
  match C.view with
  | some (T, l) => some (.cells T (l.map (Ty.weak S K)))
  | none => none
theorem zT {S K : List Nat} {w w' : World} {M M' : bC} (le : Le (· ∈ S) (· ∈ K) w M w' M') : ∀ {l : List Ty} {vs : List Value}, cI w M l vs → cI w' M' (l.map (Ty.weak S K)) vs
  | [], [], _ => trivial
  | t :: _, _ :: _, ⟨h, hs⟩ => by
    refine ⟨?_, zT le hs⟩
    unfold Ty.weak
    cases hc : t.safe S K with
    | true => exact t.mono le (fT hc).1 (fT hc).2 h
    | false => trivial
theorem Ld {S K : List Nat} {w w' : World} {M M' : bC} {C D : Cont} {t : Nat} (le : Le (· ∈ S) (· ∈ K) w M w' M') (hs : t ∉ S) (hk : t ∉ K) (h : C.soft S K = some D) (hd : C.den w M t) : D.den w' M' t := by
 unfold Cont.soft at h
 split at h
 ·rename_i T l hv
  injection h with h
  subst h
  obtain ⟨b, cs, h1, h2, h3⟩ := (C.viewOk hv).2.2 hd
  obtain ⟨h4, h5⟩ := le.own b t h1 hk
  exact ⟨b, cs, h4, (h5 hs).trans h2, zT le h3⟩
 cases h
theorem zB {S K : List Nat} : ∀ {l : List Ty} {u : Nat}, (u ∈ cF (l.map (Ty.weak S K)) → u ∈ cF l) ∧ (u ∈ bY (l.map (Ty.weak S K)) → u ∈ bY l) := by
  intro l u
  simp only [cF, bY, List.mem_flatMap, List.mem_map]
  constructor
  · rintro ⟨_, ⟨t, ht, rfl⟩, hu⟩
    unfold Ty.weak at hu
    cases hc : t.safe S K with
    | true => rw [hc] at hu; exact ⟨t, ht, hu⟩
    | false => rw [hc] at hu; simp [Ty.any] at hu
  · rintro ⟨_, ⟨t, ht, rfl⟩, hu⟩
    unfold Ty.weak at hu
    cases hc : t.safe S K with
    | true => rw [hc] at hu; exact ⟨t, ht, hu⟩
    | false => rw [hc] at hu; simp [Ty.any] at hu
def Cont.PM (D C : Cont) : Prop := (∀ u ∈ D.deps, u ∈ C.deps) ∧ ∀ u ∈ D.cdeps, u ∈ C.cdeps
theorem HR {S K : List Nat} {C D : Cont} (h : C.soft S K = some D) : D.PM C := by
 unfold Cont.soft at h
 split at h
 ·rename_i T l hv
  injection h with h
  subst h
  obtain ⟨e1, e2, _⟩ := C.viewOk hv
  exact ⟨fun u hu => e1 ▸ zB.1 hu, fun u hu => e2 ▸ zB.2 hu⟩
 cases h
theorem FX {l l' k : List Nat} (h : ∀ u ∈ l', u ∈ l) (hd : k7 l k = true) : k7 l' k = true := by
 simp only [k7, List.all_eq_true] at hd ⊢
 exact fun u hu => hd u (h u hu)
theorem zm {C D : Cont} {S K : List Nat} (h : D.PM C) (hs : C.safe S K = true) : D.safe S K = true := by
 simp only [Cont.safe, Bool.and_eq_true] at hs ⊢
 exact ⟨FX h.1 hs.1, FX h.2 hs.2⟩
structure As where
  slots : Nat → Ty
  tags : List (Nat × Cont)
inductive FK where
  | plain | marks | round (l : Nat) | iter
structure Fr where
  n : Nat
  w0 : World
  M0 : bC
  pass : List Nat
  kd : FK
def FK.KF : FK → Nat → Prop
  | .iter, _ => True
  | _, t => 1 ≤ t
theorem FK.FT {k : FK} {t : Nat} (h : 1 ≤ t) : k.KF t := by cases k <;> first | exact h | trivial
def FK.jA : FK → Fence
  | .round l => Fence.wide.inRound l
  | _ => Fence.wide
theorem FK.v9 (k : FK) (f : FuncId) : k.jA.fn f := by cases k <;> trivial
theorem FK.wj (k : FK) : k.jA.depth = none := by cases k <;> rfl
theorem FK.calls {k : FK} {n : Nat} {P : Program} {f : FuncId} {args : Array Value} {w : World} {R : Ending → World → Prop} (h : Calls P f args w R) : CallsIn k.jA n P f args w R := by
 have h' : CallsIn Fence.wide n P f args w R := callsIn_wide.2 h
 cases k <;> first | exact h' | exact CallsIn.inRound _ h'
theorem IT {k : FK} {P : Program} {o : Oper} {a : Act} {w : World} {K : Act → World → Prop} (hnd : ∀ c, o.op ≠ .defer c) (hnr : ∀ row args w', (execOp a.eval o).run P w ≠ .ok (.row row args) w') (h : o.wp P a w K fun _ _ _ => False) : o.wpIn k.jA 0 P a w K fun _ _ _ => False := by
  refine ⟨fun f _ => k.v9 f, ?_⟩
  unfold Oper.wp at h
  rw [Oper.semAt_eq k.jA.round a.eval o hnd]
  generalize hr : (execOp a.eval o).run P w = r at *
  cases r with
  | ok n w' =>
    cases n <;> simp only [Oper.upon, Oper.uponIn] at h ⊢ <;> first
      | exact h
      | exact ⟨fun hd => (by rw [k.wj] at hd; cases hd), FK.calls h⟩
      | exact absurd rfl (hnr _ _ _)
  | halt x w' => cases x <;> simp only [Oper.upon, Oper.uponIn] at h ⊢
theorem A4 {ρ : Operand → Value} {o : Oper} {P : Program} {w w' : World} {n : Next} (h : (execOp ρ o).run P w = .ok n w') (hn : ∀ d, n ≠ .defer d) : ∀ c, o.op ≠ .defer c := by
  intro c hc
  unfold execOp at h
  rw [hc] at h
  rw [Sem.run_bind] at h
  cases hr : (resolve ρ c o.type).run P w with
  | ok d w2 => rw [hr] at h; injection h with h; exact hn d h.symm
  | halt x w2 => rw [hr] at h; cases h
theorem oy {k : FK} {P : Program} {o : Oper} {a : Act} {w w' : World} {v : Value} {K : Act → World → Prop} (hv : (execOp a.eval o).run P w = .ok (.value v) w') (h : K (a.put o.dst v) w') : o.wpIn k.jA 0 P a w K fun _ _ _ => False := by
 refine IT (A4 hv fun _ h => by cases h) (fun _ _ _ hr => by rw [hv] at hr; cases hr) ?_
 unfold Oper.wp
 rw [hv, Oper.upon_value]; exact h
theorem xY {k : FK} {P : Program} {o : Oper} {a : Act} {w w' : World} {K : Act → World → Prop} (hv : (execOp a.eval o).run P w = .ok .skip w') (h : K (a.put o.dst undef) w') : o.wpIn k.jA 0 P a w K fun _ _ _ => False := by
 refine IT (A4 hv fun _ h => by cases h) (fun _ _ _ hr => by rw [hv] at hr; cases hr) ?_
 unfold Oper.wp
 rw [hv, Oper.upon_skip]; exact h
theorem mK {k : FK} {P : Program} {o : Oper} {a : Act} {w w' : World} {f : FuncId} {args : Array Value} {K : Act → World → Prop} (hv : (execOp a.eval o).run P w = .ok (.enter f args) w') (h : Calls P f args w' fun e w'' => ∃ v, e = .returned v ∧ K (a.put o.dst v) w'') : o.wpIn k.jA 0 P a w K fun _ _ _ => False := by
 refine IT (A4 hv fun _ h => by cases h) (fun _ _ _ hr => by rw [hv] at hr; cases hr) ?_
 unfold Oper.wp
 rw [hv, Oper.upon_enter]
 exact h.mono fun e w'' ⟨v, e1, hk⟩ => by subst e1; exact hk
def Fr.base (fr : Fr) (w : World) (M : bC) : Prop := Le fr.kd.KF (fun t => 1 ≤ t ∧ t ∉ fr.pass) fr.w0 fr.M0 w M
def tq (r : Nat) : Deferred := { target := .collected r, args := #[] }
def Defs (fr : Fr) (w : World) (M : bC) (ds : List Deferred) : Prop :=
  ∃ rs : List Nat, ds = rs.map tq ∧ (rs ≠ [] → fr.kd = .marks) ∧ rs.Nodup ∧ ∀ r ∈ rs, M r = some 0 ∧ (fr.w0.heap.size ≤ r ∧ ∀ t, ¬ (1 ≤ t ∧ t ∉ fr.pass) → fr.M0 r ≠ some t) ∧ w.heap[r]? = some (.deferred (some []))
theorem Defs.nil {fr : Fr} {w : World} {M : bC} : Defs fr w M [] := ⟨[], rfl, fun h => absurd rfl h, List.nodup_nil, fun _ h => by cases h⟩
theorem Defs.step {fr : Fr} {w w' : World} {M M' : bC} {S K : Nat → Prop} {ds : List Deferred} (hs : ∀ t, S t → 1 ≤ t) (hk : ∀ t, K t → 1 ≤ t) (le : Le S K w M w' M') (h : Defs fr w M ds) : Defs fr w' M' ds := by
 obtain ⟨rs, e, h1, h2, h3⟩ := h
 refine ⟨rs, e, h1, h2, fun r hr => ?_⟩
 obtain ⟨a, b, c⟩ := h3 r hr
 obtain ⟨d, f⟩ := le.own r 0 a (fun h => by have := hk 0 h; omega)
 exact ⟨d, b, (f fun h => by have := hs 0 h; omega).trans c⟩
structure Ok (fr : Fr) (a : Act) (w : World) (M : bC) : Prop where
  wf : Wf w M
  base : fr.base w M
  size : a.tmps.size = fr.n
  defers : Defs fr w M a.defers
theorem Ok.gl {fr : Fr} {a : Act} {w : World} {M : bC} (h : Ok fr a w M) (hk : fr.kd ≠ .marks) : a.defers = [] := by
  obtain ⟨rs, e, h1, _⟩ := h.defers
  cases rs with
  | nil => exact e
  | cons r rs => exact absurd (h1 (by simp)) hk
def As.holds (fr : Fr) (A : As) (a : Act) (w : World) : Prop :=
  ∃ M, Ok fr a w M ∧ (∀ c, c < fr.n → (A.slots c).den w M (a.tmps.getD c undef)) ∧ ∀ x ∈ A.tags, x.2.den w M x.1
structure Fx where
  d : Option Nat
  ty : Ty := Ty.any
  S : List Nat := []
  K : List Nat := []
  sets : List (Nat × Cont) := []
  rs : List Nat := []
  rt : List Nat := []
def gj (S K : List Nat) (s : Nat → Ty) : Nat → Ty :=
  match S, K with
  | [], [] => s
  | S, K => fun c => bif (s c).safe S K then s c else Ty.any
def qd (d : Option Nat) (ty : Ty) (s : Nat → Ty) : Nat → Ty :=
  match d with
  | none => s
  | some d => fun c => bif Nat.beq c d then ty else s c
def mz (S K : List Nat) (l : List (Nat × Cont)) : List (Nat × Cont) :=
  match S, K with
  | [], [] => l
  | _, _ => l.filterMap fun x => bif S.contains x.1 || K.contains x.1 then none else bif x.2.safe S K then some x else (x.2.soft S K).map fun C => (x.1, C)
def As.after (A : As) (f : Fx) : As := ⟨qd f.d f.ty (gj f.S f.K A.slots), f.sets ++ mz f.S f.K A.tags⟩
def Fx.left (f : Fx) (w : World) (M : bC) (w' : World) (v : Value) : Prop :=
  ∃ M', Wf w' M' ∧ Le (· ∈ f.S) (· ∈ f.K) w M w' M' ∧ f.ty.den w' M' v ∧ ∀ x ∈ f.sets, x.2.den w' M' x.1
def xp (P : Program) (fr : Fr) (ops : Array Oper) (o : Oper) (A : As) (f : Fx) : Prop :=
  f.d = o.dst ∧ (∀ x ∈ f.sets, x.1 ∈ f.S ∨ x.1 ∈ f.K) ∧ (∀ t ∈ f.S, 1 ≤ t) ∧ (∀ t ∈ f.K, 1 ≤ t ∧ t ∉ fr.pass) ∧
  ∀ a w M, Wf w M → a.tmps.size = fr.n → (∀ c ∈ f.rs, c < fr.n → (A.slots c).den w M (a.tmps.getD c undef)) → (∀ x ∈ A.tags, x.1 ∈ f.rt → x.2.den w M x.1) →
    if Region.wanted o (yielded ops a.tmps) then o.wpIn fr.kd.jA 0 P a w (fun a' w' => ∃ v, a' = a.put o.dst v ∧ f.left w M w' v) (fun _ _ _ => False) else f.left w M w undef
def bA (P : Program) (fr : Fr) (ops : Array Oper) : List Oper → As → (As → List (As × Fx) → Prop) → Prop
  | [], A, K => K A []
  | o :: rest, A, K => ∃ f, xp P fr ops o A f ∧ bA P fr ops rest (A.after f) fun A' l => K A' ((A, f) :: l)
section
variable {P : Program} {fr : Fr} {ops : Array Oper}
theorem fq (S K : List Nat) (s : Nat → Ty) (c : Nat) : (gj S K s c = s c ∧ (s c).safe S K = true) ∨ ((s c).safe S K = false ∧ gj S K s c = Ty.any) := by
  unfold gj
  split
  · exact .inl ⟨rfl, wv _⟩
  · cases h : (s c).safe _ _ with
    | true => exact .inl ⟨by simp only [h, cond_true], rfl⟩
    | false => exact .inr ⟨rfl, by simp only [h, cond_false]⟩
theorem oH {S K : List Nat} {l : List (Nat × Cont)} {x : Nat × Cont} (h : x ∈ mz S K l) : x.1 ∉ S ∧ x.1 ∉ K ∧ ∃ y ∈ l, y.1 = x.1 ∧ ((y = x ∧ y.2.safe S K = true) ∨ (y.2.safe S K = false ∧ y.2.soft S K = some x.2)) := by
  unfold mz at h
  split at h
  · exact ⟨by simp, by simp, x, h, rfl, .inl ⟨rfl, by simp [Cont.safe, k7]⟩⟩
  · obtain ⟨y, hy, hx⟩ := List.mem_filterMap.1 h
    cases hc : (S.contains y.1 || K.contains y.1) with
    | true => rw [hc] at hx; cases hx
    | false =>
      rw [hc, cond_false] at hx
      simp only [Bool.or_eq_false_iff, List.contains_eq_mem, decide_eq_false_iff_not] at hc
      cases hs : y.2.safe S K with
      | true => rw [hs, cond_true] at hx; injection hx with hx; subst hx; exact ⟨hc.1, hc.2, y, hy, rfl, .inl ⟨rfl, hs⟩⟩
      | false =>
        rw [hs, cond_false] at hx
        obtain ⟨D, hD, hx⟩ := Option.map_eq_some_iff.1 hx
        subst hx
        exact ⟨hc.1, hc.2, y, hy, rfl, .inr ⟨hs, hD⟩⟩
theorem iV {S K : List Nat} {w w' : World} {M M' : bC} {l : List (Nat × Cont)} {x : Nat × Cont} (le : Le (· ∈ S) (· ∈ K) w M w' M') (h : x ∈ mz S K l) (hd : ∀ y ∈ l, y.1 = x.1 → y.2.den w M y.1) : x.2.den w' M' x.1 := by
 obtain ⟨h1, h2, y, hy, e, ⟨rfl, hs⟩ | ⟨_, hs⟩⟩ := oH h
 ·exact y.2.mono le (ny hs).1 (ny hs).2 h1 h2 (hd y hy rfl)
 have := hd y hy e
 rw [e] at this
 exact Ld le h1 h2 hs this
theorem Bq (a : Act) (d : Option Nat) (v : Value) (c : Nat) (hc : c < a.tmps.size) : (a.put d v).tmps.getD c undef = if d = some c then v else a.tmps.getD c undef := by
  cases d with
  | none => simp [Act.put]
  | some d =>
    simp only [Act.put, Array.getD_eq_getD_getElem?, Array.getElem?_setIfInBounds, Option.some.injEq]
    by_cases e : d = c
    · subst e; simp [hc]
    · simp [e]
theorem size_put (a : Act) (d : Option Nat) (v : Value) : (a.put d v).tmps.size = a.tmps.size := by cases d <;> simp [Act.put]
theorem wK (a : Act) (d : Option Nat) (v : Value) : (a.put d v).defers = a.defers := by cases d <;> simp [Act.put]
theorem Fr.jT {w w' : World} {M M' : bC} {S K : Nat → Prop} (hb : fr.base w M) (hs : ∀ t, S t → 1 ≤ t) (hk : ∀ t, K t → 1 ≤ t ∧ t ∉ fr.pass) (h : Le S K w M w' M') : fr.base w' M' :=
 (hb.trans h).weaken (fun t ht => ht.elim id (fun h => FK.FT (hs t h))) (fun t ht => ht.elim id (hk t))
theorem uq {A : As} {f : Fx} {a : Act} {w w' : World} {M : bC} {v : Value} (hS : ∀ t ∈ f.S, 1 ≤ t) (hK : ∀ t ∈ f.K, 1 ≤ t ∧ t ∉ fr.pass) 
    (ok : Ok fr a w M) (hs : ∀ c, c < fr.n → (A.slots c).den w M (a.tmps.getD c undef)) (ht : ∀ x ∈ A.tags, x.2.den w M x.1) (hl : f.left w M w' v) : (A.after f).holds fr (a.put f.d v) w' := by
  obtain ⟨M', wf', le, hv, hsets⟩ := hl
  refine ⟨M', ⟨wf', Fr.jT ok.base hS hK le, by rw [size_put, ok.size], by rw [wK]; exact ok.defers.step hS (fun t ht => (hK t ht).1) le⟩, fun c hc => ?_, fun x hx => ?_⟩
  · rw [Bq a f.d v c (by rw [ok.size]; exact hc)]
    have key : (gj f.S f.K A.slots c).den w' M' (a.tmps.getD c undef) := by
      rcases fq f.S f.K A.slots c with ⟨e, hdj⟩ | ⟨_, e⟩
      · rw [e]
        exact (A.slots c).mono le (fT hdj).1 (fT hdj).2 (hs c hc)
      · rw [e]; trivial
    simp only [As.after, qd]
    cases hfd : f.d with
    | none => simpa using key
    | some d =>
      by_cases e : d = c
      · subst e; simpa using hv
      · have e' : Nat.beq c d = false := by cases h : Nat.beq c d with | false => rfl | true => exact absurd (Nat.eq_of_beq_eq_true h).symm e
        simpa [e, e'] using key
  · rcases List.mem_append.1 hx with hx | hx
    · exact hsets x hx
    · exact iV le hx fun y hy _ => ht y hy
end
end Go.T
namespace Go.T
open Go Go.RowKit
section
variable {P : Program} {fr : Fr} {ops : Array Oper}
theorem Oper.uL {F : Fence} {o : Oper} {a : Act} {w : World} {K K' : Act → World → Prop} {Q : Exit → Act → World → Prop} (h : ∀ a w, K a w → K' a w)
    (hh : o.wpIn F 0 P a w K fun _ _ _ => False) : o.wpIn F 0 P a w K' Q := by
  unfold Oper.wpIn at *
  refine ⟨hh.1, ?_⟩
  have hh := hh.2
  generalize (o.semAt F.round a.eval).run P w = r at *
  cases r with
  | ok n w' =>
    cases n <;> simp only [Oper.uponIn] at hh ⊢ <;>
      first
        | exact h _ _ hh
        | exact ⟨hh.1, CallsIn.mono hh.2 (fun e w'' he => by
            cases e with
            | returned v => exact h _ _ he
            | panicked c => exact he.elim
            | outgrown => obtain ⟨_, _, f⟩ := he; exact f.elim)⟩
        | exact ⟨hh.1, RoundIn.mono hh.2 (fun e w'' he => by
            cases e with
            | returned v => exact h _ _ he
            | panicked c => exact he.elim
            | outgrown => obtain ⟨_, _, f⟩ := he; exact f.elim)⟩
        | exact ⟨hh.1, RowsIn.mono hh.2 (fun _ _ he => h _ _ he)⟩
  | halt x w' => cases x <;> simp only [Oper.uponIn] at hh ⊢
theorem ud {Q : Exit → Act → World → Prop} : ∀ (l : List Oper) (A : As) (K : As → List (As × Fx) → Prop) (a : Act) (w : World), bA P fr ops l A K → A.holds fr a w →
    (∀ A' s a w, K A' s → A'.holds fr a w → Q .normal a w) → wpListIn fr.kd.jA 0 P ops Q l a w
  | [], A, K, a, w, h, ha, hk => hk A [] a w h ha
  | o :: rest, A, K, a, w, ⟨f, ⟨hd, hsets, hS, hK, hop⟩, hrest⟩, ⟨M, ok, hs, ht⟩, hk => by
    have h := hop a w M ok.wf ok.size (fun c _ hc => hs c hc) (fun x hx _ => ht x hx)
    unfold wpListIn
    split
    · rename_i hw
      rw [if_pos hw] at h
      refine Oper.uL (fun a' w' ⟨v, e, hl⟩ => ?_) h
      subst e
      rw [← hd]
      exact ud rest _ _ _ _ hrest (uq hS hK ok hs ht hl) fun A' s a w hk' hA => hk A' _ a w hk' hA
    · rename_i hw
      rw [if_neg hw] at h
      refine ⟨fun f _ => fr.kd.v9 f, ?_⟩
      rw [← hd]
      exact ud rest _ _ _ _ hrest (uq hS hK ok hs ht h) fun A' s a w hk' hA => hk A' _ a w hk' hA
def hit (s : As × Fx) (c : Nat) : Bool := s.2.d == some c || !(s.1.slots c).safe s.2.S s.2.K
def jZ (s : As × Fx) (t : Nat) : Bool := (s.2.S.contains t || s.2.K.contains t) || s.1.tags.any fun x => x.1 == t && !x.2.safe s.2.S s.2.K
def Fx.calm (f : Fx) : Bool := f.S.isEmpty && f.K.isEmpty
def Fx.slotsOf (f : Fx) : List Nat := f.d.toList ++ f.rs
def Fx.mS (f : Fx) : List Nat := f.S ++ (f.K ++ f.rt)
def conflict (n : Nat) (s t : As × Fx) : Bool :=
  t.2.slotsOf.any (hit s) || s.2.slotsOf.any (hit t) || t.2.mS.any (jZ s) || s.2.mS.any (jZ t) ||
  (!s.2.calm && !t.2.calm && ((List.range n).any (fun c => hit s c && hit t c) || s.1.tags.any fun x => jZ s x.1 && jZ t x.1))
def oM (ops : Array Oper) (i j : Nat) : Bool :=
  match ops[j]? with
  | some o => o.after.toList.any fun e => Region.binds .any e && e.on == i
  | none => false
def PT (ops : Array Oper) : Nat → List Nat → List Nat
  | 0, s => s
  | k + 1, s => PT ops k (bif s.any fun m => oM ops k m then k :: s else s)
def path (ops : Array Oper) (i j : Nat) : Bool := oM ops i j || (PT ops j [j]).contains i
def KG (n : Nat) (ops : Array Oper) (s t : As × Fx) (i j : Nat) : Bool := !(decide (i < j) && conflict n s t) || path ops i j
def RJ (ops : Array Oper) (steps : List ((As × Fx) × Nat)) (i k c : Nat) : Bool := steps.any fun m => decide (k < m.2) && (decide (m.2 < i) && (hit m.1 c && path ops m.2 i))
def Ac (ops : Array Oper) (steps : List ((As × Fx) × Nat)) (s t : As × Fx) (i k : Nat) : Bool :=
  (if i == k then true else if k < i then t.2.d.toList.all (fun c => t.2.ty.safe s.2.S s.2.K || (hit s c || RJ ops steps i k c)) && t.2.sets.all (fun x => x.2.safe s.2.S s.2.K || jZ s x.1)
    else (t.2.ty.safe s.2.S s.2.K && t.2.sets.all (fun x => x.2.safe s.2.S s.2.K)) || path ops i k)
def FD (n : Nat) (A0 : As) (s : As × Fx) : Bool :=
  s.2.calm || ((List.range n).all (fun c => (A0.slots c).safe s.2.S s.2.K || hit s c) && A0.tags.all (fun x => x.2.safe s.2.S s.2.K || jZ s x.1))
def BG (n : Nat) (ops : Array Oper) (A0 : As) (steps : List (As × Fx)) : Bool :=
  steps.zipIdx.all fun s => FD n A0 s.1 && steps.zipIdx.all fun t => KG n ops s.1 t.1 s.2 t.2 && (s.1.2.calm || Ac ops steps.zipIdx s.1 t.1 s.2 t.2)
theorem x9 : ∀ (l : List Oper) (k : Nat) (A : As) (K : As → List (As × Fx) → Prop), bA P fr ops l A K → (∀ j, l[j]? = ops[k + j]?) →
    ∃ (st : Nat → As) (fx : Nat → Fx), st 0 = A ∧ (∀ i, i < l.length → ∃ o, ops[k + i]? = some o ∧ xp P fr ops o (st i) (fx i)) ∧ (∀ i, i < l.length → st (i + 1) = (st i).after (fx i)) ∧
      K (st l.length) ((List.range l.length).map fun i => (st i, fx i))
  | [], k, A, K, h, _ => ⟨fun _ => A, fun _ => ⟨none, Ty.any, [], [], [], [], []⟩, rfl, fun i hi => absurd hi (Nat.not_lt_zero _), fun i hi => absurd hi (Nat.not_lt_zero _), h⟩
  | o :: rest, k, A, K, ⟨f, hop, hrest⟩, hl => by
    obtain ⟨st, fx, h0, h1, h2, h3⟩ := x9 rest (k + 1) _ _ hrest (fun j => by have := hl (j + 1); simpa [Nat.add_assoc, Nat.add_comm 1 j] using this)
    refine ⟨fun i => match i with | 0 => A | i + 1 => st i, fun i => match i with | 0 => f | i + 1 => fx i, rfl, fun i hi => ?_, fun i hi => ?_, ?_⟩
    · cases i with
      | zero => exact ⟨o, by have := hl 0; simpa using this.symm, hop⟩
      | succ i => obtain ⟨o', ho', h⟩ := h1 i (by simpa using hi); exact ⟨o', by rw [← ho']; congr 1; omega, h⟩
    · cases i with
      | zero => exact h0
      | succ i => exact h2 i (by simpa using hi)
    · simp only [List.length_cons, List.range_succ_eq_map, List.map_cons, List.map_map]
      exact h3
variable {st : Nat → As} {fx : Nat → Fx} {m : Nat}
theorem w7 {A : As} {f : Fx} {c : Nat} (h : hit (A, f) c = false) : (A.after f).slots c = A.slots c := by
  simp only [hit, Bool.or_eq_false_iff, beq_eq_false_iff_ne, Bool.not_eq_false'] at h
  rcases fq f.S f.K A.slots c with ⟨e, _⟩ | ⟨e, _⟩
  · simp only [As.after, qd]
    cases hd : f.d with
    | none => simpa using e
    | some d =>
      have : Nat.beq c d = false := by cases hb : Nat.beq c d with | false => rfl | true => exact absurd (by rw [hd, Nat.eq_of_beq_eq_true hb]) h.1
      simpa [this] using e
  · rw [h.2] at e; cases e
theorem Fl {A : As} {f : Fx} {c : Nat} (h : f.d = some c) : (A.after f).slots c = f.ty := by simp [As.after, qd, h]
theorem wV {A : As} {f : Fx} {c : Nat} (h : f.d ≠ some c) (hk : (A.slots c).safe f.S f.K = false) : (A.after f).slots c = Ty.any := by
  rcases fq f.S f.K A.slots c with ⟨_, e⟩ | ⟨_, e⟩
  · rw [hk] at e; cases e
  · simp only [As.after, qd]
    cases hd : f.d with
    | none => simpa using e
    | some d =>
      have : Nat.beq c d = false := by cases hb : Nat.beq c d with | false => rfl | true => exact absurd (by rw [hd, Nat.eq_of_beq_eq_true hb]) h
      simpa [this] using e
theorem HK (hstep : ∀ i, i < m → st (i + 1) = (st i).after (fx i)) (c : Nat) : ∀ j, j ≤ m →
    (st j).slots c = (st 0).slots c ∨ (st j).slots c = Ty.any ∨ ∃ k, k < j ∧ (fx k).d = some c ∧ (st j).slots c = (fx k).ty ∧ ∀ u, k < u → u < j → hit (st u, fx u) c = false := by
  intro j
  induction j with
  | zero => exact fun _ => .inl rfl
  | succ j ih =>
    intro hj
    have ih := ih (by omega)
    rw [hstep j (by omega)]
    by_cases hd : (fx j).d = some c
    · exact .inr (.inr ⟨j, by omega, hd, Fl hd, fun u h1 h2 => by omega⟩)
    · cases hk : ((st j).slots c).safe (fx j).S (fx j).K with
      | false => exact .inr (.inl (wV hd hk))
      | true =>
        rw [w7 (by simp [hit, hd, hk])]
        rcases ih with h | h | ⟨k, h1, h2, h3, h4⟩
        · exact .inl h
        · exact .inr (.inl h)
        · refine .inr (.inr ⟨k, by omega, h2, h3, fun u g1 g2 => ?_⟩)
          by_cases e : u = j
          · subst e; simp [hit, hd, hk]
          · exact h4 u g1 (by omega)
theorem JQ (hstep : ∀ i, i < m → st (i + 1) = (st i).after (fx i)) (x : Nat × Cont) : ∀ j, j ≤ m → x ∈ (st j).tags →
    ∃ y : Nat × Cont, y.1 = x.1 ∧ x.2.PM y.2 ∧ (y ∈ (st 0).tags ∨ ∃ k, k < j ∧ y ∈ (fx k).sets) := by
  intro j
  induction j generalizing x with
  | zero => exact fun _ h => ⟨x, rfl, ⟨fun _ h => h, fun _ h => h⟩, .inl h⟩
  | succ j ih =>
    intro hj hx
    rw [hstep j (by omega)] at hx
    rcases List.mem_append.1 hx with h | h
    · exact ⟨x, rfl, ⟨fun _ h => h, fun _ h => h⟩, .inr ⟨j, by omega, h⟩⟩
    · obtain ⟨_, _, y, hy, e, ⟨rfl, _⟩ | ⟨_, hs⟩⟩ := oH h
      · obtain ⟨z, h1, h2, h3⟩ := ih y (by omega) hy
        exact ⟨z, h1, h2, h3.imp id fun ⟨k, hk, h⟩ => ⟨k, by omega, h⟩⟩
      · obtain ⟨z, h1, h2, h3⟩ := ih y (by omega) hy
        have hl := HR hs
        exact ⟨z, h1.trans e, ⟨fun u hu => h2.1 u (hl.1 u hu), fun u hu => h2.2 u (hl.2 u hu)⟩, h3.imp id fun ⟨k, hk, h⟩ => ⟨k, by omega, h⟩⟩
theorem yy (hstep : ∀ i, i < m → st (i + 1) = (st i).after (fx i)) (c i : Nat) : ∀ j, i ≤ j → j ≤ m → (∀ k, i ≤ k → k < j → hit (st k, fx k) c = false) → (st j).slots c = (st i).slots c := by
  intro j
  induction j with
  | zero => intro h _ _; have : i = 0 := by omega
            subst this; rfl
  | succ j ih =>
    intro h hj hn
    by_cases e : i = j + 1
    · subst e; rfl
    · rw [hstep j (by omega), w7 (hn j (by omega) (by omega))]
      exact ih (by omega) (by omega) fun k h1 h2 => hn k h1 (by omega)
theorem DJ (hstep : ∀ i, i < m → st (i + 1) = (st i).after (fx i)) (hset : ∀ i, i < m → ∀ x ∈ (fx i).sets, x.1 ∈ (fx i).S ∨ x.1 ∈ (fx i).K) (x : Nat × Cont) (i : Nat) : ∀ j, i ≤ j → j ≤ m →
    (∀ k, i ≤ k → k < j → jZ (st k, fx k) x.1 = false) → x ∈ (st j).tags → x ∈ (st i).tags := by
  intro j
  induction j with
  | zero => intro h _ _ hx; have : i = 0 := by omega
            subst this; exact hx
  | succ j ih =>
    intro h hj hn hx
    by_cases e : i = j + 1
    · subst e; exact hx
    · refine ih (by omega) (by omega) (fun k h1 h2 => hn k h1 (by omega)) ?_
      rw [hstep j (by omega)] at hx
      have hh := hn j (by omega) (by omega)
      simp only [jZ, Bool.or_eq_false_iff, List.contains_eq_mem, decide_eq_false_iff_not, List.any_eq_false, Bool.and_eq_true, beq_iff_eq, Bool.not_eq_true', not_and, Bool.not_eq_false] at hh
      rcases List.mem_append.1 hx with h1 | h1
      · rcases hset j (by omega) x h1 with h2 | h2
        · exact absurd h2 hh.1.1
        · exact absurd h2 hh.1.2
      · obtain ⟨_, _, y, hy, e, ⟨rfl, _⟩ | ⟨hu, _⟩⟩ := oH h1
        · exact hy
        · have := hh.2 y hy e; rw [hu] at this; cases this
end
end Go.T
namespace Go.T
open Go Go.RowKit
section
variable {P : Program} {fr : Fr} {ops : Array Oper} {st : Nat → As} {fx : Nat → Fx} {m : Nat}
structure PU (P : Program) (fr : Fr) (ops : Array Oper) (st : Nat → As) (fx : Nat → Fx) (m : Nat) : Prop where
  sz : ops.size = m
  op : ∀ i, i < m → ∃ o, ops[i]? = some o ∧ xp P fr ops o (st i) (fx i)
  step : ∀ i, i < m → st (i + 1) = (st i).after (fx i)
  pair : ∀ i j, i < j → j < m → conflict fr.n (st i, fx i) (st j, fx j) = true → path ops i j = true
  star : ∀ i k, i < m → k < m → (fx i).calm = false → Ac ops ((List.range m).map fun i => (st i, fx i)).zipIdx (st i, fx i) (st k, fx k) i k = true
  one : ∀ i, i < m → FD fr.n (st 0) (st i, fx i) = true
def lX (listed : Array Bool) (i : Nat) : Prop := listed.getD i false = true
theorem tP {q : Nat → Prop} (h : ∀ k m, oM ops k m = true → q m → q k) : ∀ (k : Nat) (s : List Nat), (∀ x ∈ s, q x) → ∀ x ∈ PT ops k s, q x
  | 0, _, hs => hs
  | k + 1, s, hs => by
    refine tP h k _ fun x hx => ?_
    cases hc : s.any fun m => oM ops k m with
    | false => rw [hc] at hx; exact hs x hx
    | true =>
      rw [hc] at hx
      obtain ⟨m, hm, he⟩ := List.any_eq_true.1 hc
      rcases List.mem_cons.1 hx with rfl | hx
      · exact h _ m he (hs m hm)
      · exact hs x hx
theorem j3 {listed : Array Bool} (hdown : ∀ k j, oM ops k j = true → lX listed j → lX listed k) {i j : Nat} (h : path ops i j = true) (hj : lX listed j) : lX listed i := by
 simp only [path, Bool.or_eq_true, List.contains_eq_mem, decide_eq_true_eq] at h
 rcases h with h | h
 ·exact hdown i j h hj
 exact tP (q := lX listed) hdown j [j] (fun x hx => by rw [List.mem_singleton.1 hx]; exact hj) i h
theorem s6 {listed : Array Bool} (hdown : ∀ k j, oM ops k j = true → lX listed j → lX listed k) {i k : Nat} (hpre : ∀ k, oM ops k i = true → lX listed k) (h : path ops k i = true) (hne : k ≠ i) : lX listed k := by
 simp only [path, Bool.or_eq_true, List.contains_eq_mem, decide_eq_true_eq] at h
 rcases h with h | h
 ·exact hpre k h
 refine (tP (q := fun x => x = i ∨ lX listed x) (fun a m he hm => ?_) i [i] (fun x hx => .inl (List.mem_singleton.1 hx)) k h).resolve_left hne
 rcases hm with rfl | hm
 ·exact .inr (hpre a he)
 exact .inr (hdown a m he hm)
structure Inv (fr : Fr) (ops : Array Oper) (st : Nat → As) (fx : Nat → Fx) (m : Nat) (listed : Array Bool) (a : Act) (w : World) (M : bC) : Prop where
  ok : Ok fr a w M
  down : ∀ k j, oM ops k j = true → lX listed j → lX listed k
  slot : ∀ c, c < fr.n → ∀ j, j ≤ m → (∀ i, i < j → hit (st i, fx i) c = true → lX listed i) → (∀ i, j ≤ i → i < m → hit (st i, fx i) c = true → ¬ lX listed i) →
    ((st j).slots c).den w M (a.tmps.getD c undef)
  tag : ∀ j, j ≤ m → ∀ x ∈ (st j).tags, (∀ i, i < j → jZ (st i, fx i) x.1 = true → lX listed i) → (∀ i, j ≤ i → i < m → jZ (st i, fx i) x.1 = true → ¬ lX listed i) → x.2.den w M x.1
theorem tB {listed : Array Bool} {i k : Nat} (h : lX (listed.setIfInBounds i true) k) : lX listed k ∨ k = i := by
 by_cases e : i = k
 ·exact .inr e.symm
 exact .inl (by simpa [lX, Array.getElem?_setIfInBounds_ne e] using h)
theorem vo {listed : Array Bool} {i k : Nat} (h : lX listed k) : lX (listed.setIfInBounds i true) k := getD_set_true h
theorem Cf {listed : Array Bool} {i : Nat} (h : i < listed.size) : lX (listed.setIfInBounds i true) i := by simp [lX, h]
theorem y4 {n : Nat} {s t : As × Fx} {c : Nat} (h : c ∈ t.2.slotsOf) (hh : hit s c = true) : conflict n s t = true := by
 have : t.2.slotsOf.any (hit s) = true := List.any_eq_true.2 ⟨c, h, hh⟩
 simp [conflict, this]
theorem wU {n : Nat} {s t : As × Fx} {c : Nat} (h : c ∈ s.2.slotsOf) (hh : hit t c = true) : conflict n s t = true := by
 have : s.2.slotsOf.any (hit t) = true := List.any_eq_true.2 ⟨c, h, hh⟩
 simp [conflict, this]
theorem Ca {n : Nat} {s t : As × Fx} {c : Nat} (h : c ∈ t.2.mS) (hh : jZ s c = true) : conflict n s t = true := by
 have : t.2.mS.any (jZ s) = true := List.any_eq_true.2 ⟨c, h, hh⟩
 simp [conflict, this]
theorem yx {n : Nat} {s t : As × Fx} {c : Nat} (h : c ∈ s.2.mS) (hh : jZ t c = true) : conflict n s t = true := by
 have : s.2.mS.any (jZ t) = true := List.any_eq_true.2 ⟨c, h, hh⟩
 simp [conflict, this]
theorem KA {s : As × Fx} {c : Nat} (h : s.2.d = some c) : hit s c = true := by simp [hit, h]
theorem w5 {s : As × Fx} {c : Nat} (h : hit s c = true) (hd : s.2.d ≠ some c) : (s.1.slots c).safe s.2.S s.2.K = false ∧ s.2.calm = false := by
  have h1 : (s.1.slots c).safe s.2.S s.2.K = false := by
    simp only [hit, Bool.or_eq_true, beq_iff_eq, hd, false_or, Bool.not_eq_true'] at h; exact h
  refine ⟨h1, ?_⟩
  cases hk : s.2.calm with
  | false => rfl
  | true =>
    simp only [Fx.calm, Bool.and_eq_true, List.isEmpty_iff] at hk
    rw [hk.1, hk.2, wv] at h1; cases h1
theorem q7 {f : Fx} {c : Nat} (h : f.d = some c) : c ∈ f.slotsOf := by simp [Fx.slotsOf, h]
theorem Hr {n : Nat} {s t : As × Fx} {c : Nat} (hc : c < n) (h : hit s c = true) (h' : hit t c = true) : conflict n s t = true := by
 by_cases hd : s.2.d = some c
 ·exact wU (q7 hd) h'
 by_cases hd' : t.2.d = some c
 ·exact y4 (q7 hd') h
 have h1 := (w5 h hd).2
 have h2 := (w5 h' hd').2
 have : ((List.range n).any fun c => hit s c && hit t c) = true := List.any_eq_true.2 ⟨c, List.mem_range.2 hc, by simp [h, h']⟩
 simp [conflict, h1, h2, this]
theorem calm_eq {f : Fx} (h : f.calm = true) : f.S = [] ∧ f.K = [] := by simpa [Fx.calm] using h
theorem tv (t : Cont) : t.safe [] [] = true := by simp [Cont.safe, k7]
theorem rq {n : Nat} {s t : As × Fx} {c : Nat} (h : jZ s c = true) (h' : jZ t c = true) : conflict n s t = true := by
  have hs : (c ∈ s.2.S ∨ c ∈ s.2.K) ∨ ∃ x ∈ s.1.tags, x.1 = c ∧ x.2.safe s.2.S s.2.K = false := by
    simpa only [jZ, Bool.or_eq_true, List.contains_eq_mem, decide_eq_true_eq, List.any_eq_true, Bool.and_eq_true, beq_iff_eq, Bool.not_eq_true'] using h
  have ht : (c ∈ t.2.S ∨ c ∈ t.2.K) ∨ ∃ x ∈ t.1.tags, x.1 = c ∧ x.2.safe t.2.S t.2.K = false := by
    simpa only [jZ, Bool.or_eq_true, List.contains_eq_mem, decide_eq_true_eq, List.any_eq_true, Bool.and_eq_true, beq_iff_eq, Bool.not_eq_true'] using h'
  rcases hs with hs | ⟨x, hx, rfl, hxs⟩
  · exact yx (by simp only [Fx.mS, List.mem_append]; exact hs.elim .inl fun h => .inr (.inl h)) h'
  · rcases ht with ht | ⟨y, _, _, hys⟩
    · exact Ca (by simp only [Fx.mS, List.mem_append]; exact ht.elim .inl fun h => .inr (.inl h)) h
    · have c1 : s.2.calm = false := by
        cases hc : s.2.calm with
        | false => rfl
        | true => rw [(calm_eq hc).1, (calm_eq hc).2, tv] at hxs; cases hxs
      have c2 : t.2.calm = false := by
        cases hc : t.2.calm with
        | false => rfl
        | true => rw [(calm_eq hc).1, (calm_eq hc).2, tv] at hys; cases hys
      have : (s.1.tags.any fun x => jZ s x.1 && jZ t x.1) = true := List.any_eq_true.2 ⟨x, hx, by simp [h, h']⟩
      simp [conflict, c1, c2, this]
theorem PU.Co (r : PU P fr ops st fx m) {listed : Array Bool} (hdown : ∀ k j, oM ops k j = true → lX listed j → lX listed k) {i c j : Nat} (hi : i < m) (hni : ¬ lX listed i) (hc : c < fr.n) (hj : j ≤ m)
    (hnh : hit (st i, fx i) c = false) (h1 : ∀ k, k < j → hit (st k, fx k) c = true → lX listed k) (h2 : ∀ k, j ≤ k → k < m → hit (st k, fx k) c = true → ¬ lX listed k) (hpre : ∀ k, oM ops k i = true → lX listed k) : ((st j).slots c).safe (fx i).S (fx i).K = true := by
  cases hK : (fx i).calm with
  | true =>
    rw [(calm_eq hK).1, (calm_eq hK).2]; exact wv _
  | false =>
    rcases HK r.step c j hj with e | e | ⟨k, hk, hd, e, hlast⟩
    · rw [e]
      have := r.one i hi
      simp only [FD, hK, Bool.false_or, Bool.and_eq_true, List.all_eq_true, List.mem_range] at this
      have := this.1 c hc
      simpa [hnh] using this
    · rw [e]; simp [Ty.any, Ty.safe, k7]
    · rw [e]
      have hkm : k < m := by omega
      have := r.star i k hi hkm hK
      by_cases hik : i = k
      · subst hik; rw [KA (s := (st i, fx i)) hd] at hnh; cases hnh
      · simp only [Ac, beq_iff_eq, hik, if_false] at this
        by_cases hlt : k < i
        · simp only [hlt, if_true, hd, Option.toList_some, List.all_cons, List.all_nil, Bool.and_true, Bool.and_eq_true, hnh, Bool.false_or, Bool.or_eq_true] at this
          rcases this.1 with h | h
          · exact h
          · obtain ⟨⟨q, u⟩, hq, h⟩ := List.any_eq_true.1 h
            rw [List.mem_zipIdx_iff_getElem?] at hq
            have hum : u < m := by
              have := (List.getElem?_eq_some_iff.1 hq).1
              simpa using this
            rw [List.getElem?_map, List.getElem?_range hum] at hq
            injection hq with hq
            subst hq
            simp only [Bool.and_eq_true, decide_eq_true_eq] at h
            obtain ⟨g1, g2, g3, g4⟩ := h
            rcases Nat.lt_or_ge u j with h | h
            · rw [hlast u g1 h] at g3; cases g3
            · exact absurd (s6 hdown hpre g4 (by omega)) (h2 u h hum g3)
        · simp only [hlt, if_false, Bool.and_eq_true, Bool.or_eq_true] at this
          rcases this with h | h
          · exact h.1
          · exact absurd (j3 hdown h (h1 k hk (KA hd))) hni
theorem PU.MK (r : PU P fr ops st fx m) {listed : Array Bool} (hdown : ∀ k j, oM ops k j = true → lX listed j → lX listed k) {i j : Nat} (hi : i < m) (hni : ¬ lX listed i) (hj : j ≤ m) {x : Nat × Cont} (hx : x ∈ (st j).tags)
    (hnh : jZ (st i, fx i) x.1 = false) (h1 : ∀ k, k < j → jZ (st k, fx k) x.1 = true → lX listed k) : x.2.safe (fx i).S (fx i).K = true := by
  cases hK : (fx i).calm with
  | true =>
    rw [(calm_eq hK).1, (calm_eq hK).2]; exact tv _
  | false =>
    obtain ⟨y, e, hl, h | ⟨k, hk, h⟩⟩ := JQ r.step x j hj hx
    · refine zm hl ?_
      have := r.one i hi
      simp only [FD, hK, Bool.false_or, Bool.and_eq_true, List.all_eq_true] at this
      have := this.2 y h
      rw [e, hnh, Bool.or_false] at this; exact this
    · refine zm hl ?_
      have hkm : k < m := by omega
      have hst := r.star i k hi hkm hK
      have hin : y.1 ∈ (fx k).S ∨ y.1 ∈ (fx k).K := by obtain ⟨_, _, ho⟩ := r.op k hkm; exact ho.2.1 y h
      have hkh : jZ (st k, fx k) x.1 = true := by
        rw [← e]
        simp only [jZ, Bool.or_eq_true, List.contains_eq_mem, decide_eq_true_eq]; exact .inl hin
      unfold Ac at hst
      by_cases hik : i = k
      · subst hik; rw [hkh] at hnh; cases hnh
      · simp only [beq_iff_eq, hik, if_false] at hst
        by_cases hlt : k < i
        · simp only [hlt, if_true, Bool.and_eq_true, List.all_eq_true] at hst
          have := hst.2 y h
          rw [e, hnh, Bool.or_false] at this; exact this
        · simp only [hlt, if_false, Bool.and_eq_true, Bool.or_eq_true, List.all_eq_true] at hst
          rcases hst with hst | hst
          · exact hst.2 y h
          · exact absurd (j3 hdown hst (h1 k hk hkh)) hni
theorem Inv.step (r : PU P fr ops st fx m) {listed : Array Bool} {a : Act} {w w' : World} {M : bC} {v : Value} (inv : Inv fr ops st fx m listed a w M) {i : Nat} (hi : i < m) (hsz : i < listed.size) (hni : ¬ lX listed i)
    (hpre : ∀ k, oM ops k i = true → lX listed k) {o : Oper} (hop : xp P fr ops o (st i) (fx i)) (hl : (fx i).left w M w' v) :
    ∃ M', Inv fr ops st fx m (listed.setIfInBounds i true) (a.put o.dst v) w' M' := by
  obtain ⟨hd, hsets, hS, hK, _⟩ := hop
  obtain ⟨M', wf', le, hv, hse⟩ := hl
  have hset : ∀ i, i < m → ∀ x ∈ (fx i).sets, x.1 ∈ (fx i).S ∨ x.1 ∈ (fx i).K := fun i hi => by
    obtain ⟨_, _, h⟩ := r.op i hi; exact h.2.1
  refine ⟨M', ⟨⟨wf', Fr.jT inv.ok.base hS hK le, by rw [size_put, inv.ok.size], by rw [wK]; exact inv.ok.defers.step hS (fun t ht => (hK t ht).1) le⟩, ?_, ?_, ?_⟩⟩
  · intro k j he hj
    rcases tB hj with h | rfl
    · exact vo (inv.down k j he h)
    · exact vo (hpre k he)
  · intro c hc j hj h1 h2
    rw [← hd, Bq a (fx i).d v c (by rw [inv.ok.size]; exact hc)]
    cases hh : hit (st i, fx i) c with
    | true =>
      have hij : i < j := by
        rcases Nat.lt_or_ge i j with h | h
        · exact h
        · exact absurd (Cf hsz) (h2 i h hi hh)
      have hno : ∀ k, i + 1 ≤ k → k < j → hit (st k, fx k) c = false := by
        intro k hk hkj
        cases hkc : hit (st k, fx k) c with
        | false => rfl
        | true =>
          have hlk : lX listed k := (tB (h1 k hkj hkc)).resolve_right (by omega)
          exact absurd (j3 inv.down (r.pair i k (by omega) (by omega) (Hr hc hh hkc)) hlk) hni
      rw [yy r.step c (i + 1) j (by omega) hj hno, r.step i hi]
      by_cases e : (fx i).d = some c
      · rw [Fl e, if_pos e]; exact hv
      · rw [wV e (w5 hh e).1]; trivial
    | false =>
      have e : (fx i).d ≠ some c := fun e => by rw [KA (s := (st i, fx i)) e] at hh; cases hh
      rw [if_neg e]
      have h1' : ∀ k, k < j → hit (st k, fx k) c = true → lX listed k := fun k hk hkc =>
        (tB (h1 k hk hkc)).resolve_right (fun e => by subst e; rw [hh] at hkc; cases hkc)
      have h2' : ∀ k, j ≤ k → k < m → hit (st k, fx k) c = true → ¬ lX listed k := fun k hk hkm hkc hlk => h2 k hk hkm hkc (vo hlk)
      exact ((st j).slots c).mono le (fT (r.Co inv.down hi hni hc hj hh h1' h2' hpre)).1 (fT (r.Co inv.down hi hni hc hj hh h1' h2' hpre)).2 (inv.slot c hc j hj h1' h2')
  · intro j hj x hx h1 h2
    cases hh : jZ (st i, fx i) x.1 with
    | true =>
      have hij : i < j := by
        rcases Nat.lt_or_ge i j with h | h
        · exact h
        · exact absurd (Cf hsz) (h2 i h hi hh)
      have hno : ∀ k, i + 1 ≤ k → k < j → jZ (st k, fx k) x.1 = false := by
        intro k hk hkj
        cases hkc : jZ (st k, fx k) x.1 with
        | false => rfl
        | true =>
          have hlk : lX listed k := (tB (h1 k hkj hkc)).resolve_right (by omega)
          exact absurd (j3 inv.down (r.pair i k (by omega) (by omega) (rq hh hkc)) hlk) hni
      have hx' := DJ r.step hset x (i + 1) j (by omega) hj hno hx
      rw [r.step i hi] at hx'
      rcases List.mem_append.1 hx' with h | h
      · exact hse x h
      · refine iV le h fun y hy e => inv.tag i (by omega) y hy (fun k hk hkc => ?_) fun k hk hkm hkc hlk => ?_
        · rw [e] at hkc
          exact s6 inv.down hpre (r.pair k i hk hi (rq hkc hh)) (by omega)
        · rw [e] at hkc
          rcases Nat.lt_or_ge i k with hlt | hge
          · exact hni (j3 inv.down (r.pair i k hlt hkm (rq hh hkc)) hlk)
          · have : k = i := by omega
            subst this; exact hni hlk
    | false =>
      have h1' : ∀ k, k < j → jZ (st k, fx k) x.1 = true → lX listed k := fun k hk hkc =>
        (tB (h1 k hk hkc)).resolve_right (fun e => by subst e; rw [hh] at hkc; cases hkc)
      have hsafe := r.MK inv.down hi hni hj hx hh h1'
      simp only [jZ, Bool.or_eq_false_iff, List.contains_eq_mem, decide_eq_false_iff_not] at hh
      exact x.2.mono le (ny hsafe).1 (ny hsafe).2 hh.1.1 hh.1.2 (inv.tag j hj x hx h1' fun k hk hkm hkc hlk => h2 k hk hkm hkc (vo hlk))
theorem Kh {listed : Array Bool} {i : Nat} {o : Oper} (ho : ops[i]? = some o) (h : ∀ e ∈ o.after, Region.binds .any e = true → listed.getD e.on false = true) : ∀ k, oM ops k i = true → lX listed k := by
 intro k hk
 simp only [oM, ho, List.any_eq_true, Bool.and_eq_true, beq_iff_eq] at hk
 obtain ⟨e, he, hb, hon⟩ := hk
 subst hon
 exact h e (Array.mem_toList_iff.1 he) hb
theorem Ef (r : PU P fr ops st fx m) {Q : Exit → Act → World → Prop} (hQ : ∀ a w, (st m).holds fr a w → Q .normal a w) (hacyc : ∀ i j, oM ops i j = true → i < j) :
    ∀ (fuel : Nat) (listed : Array Bool) (a : Act) (w : World) (M : bC), listed.size = m → (listed.toList.countP fun b => !b) ≤ fuel → Inv fr ops st fx m listed a w M → wpAnyIn fr.kd.jA 0 P .any ops Q fuel listed a w := by
  have hfin : ∀ (listed : Array Bool) (a : Act) (w : World) (M : bC), listed.size = m → Region.ready .any ops listed = [] → Inv fr ops st fx m listed a w M → Q .normal a w := by
    intro listed a w M hsz hr inv
    have hall : ∀ i, i < m → lX listed i := by
      intro i
      induction i using Nat.strongRecOn with
      | _ i ih =>
        intro hi
        refine Classical.byContradiction fun hn => ?_
        obtain ⟨o, ho, _⟩ := r.op i hi
        have hmem : i ∈ Region.ready .any ops listed := by
          rw [mem_ready]
          refine ⟨?_, o, ho, fun e he hb => ?_⟩
          · simp only [lX, Array.getD_eq_getD_getElem?] at hn ⊢
            rw [Array.getElem?_eq_getElem (by omega)] at hn ⊢
            simpa using hn
          · have hed : oM ops e.on i = true := by
              simp only [oM, ho, List.any_eq_true, Bool.and_eq_true, beq_iff_eq]
              exact ⟨e, Array.mem_toList_iff.2 he, hb, rfl⟩
            have := hacyc _ _ hed
            exact ih e.on this (by omega)
        rw [hr] at hmem
        cases hmem
    refine hQ a w ⟨M, inv.ok, fun c hc => inv.slot c hc m (Nat.le_refl _) (fun i hi _ => hall i hi) (fun i h1 h2 => absurd h2 (by omega)),
      fun x hx => inv.tag m (Nat.le_refl _) x hx (fun i hi _ => hall i hi) (fun i h1 h2 => absurd h2 (by omega))⟩
  intro fuel
  induction fuel with
  | zero =>
    intro listed a w M hsz hcnt inv
    have hr : Region.ready .any ops listed = [] := by
      refine List.eq_nil_iff_forall_not_mem.2 fun i hi => ?_
      rw [mem_ready] at hi
      obtain ⟨h0, o, ho, _⟩ := hi
      have hlt : i < listed.size := by rw [hsz, ← r.sz]; exact (Array.getElem?_eq_some_iff.1 ho).1
      have : 0 < listed.toList.countP fun b => !b := by
        rw [List.countP_pos_iff]
        refine ⟨listed[i], by simp, ?_⟩
        simpa [Array.getD_eq_getD_getElem?, Array.getElem?_eq_getElem hlt] using h0
      omega
    exact ⟨hr, hfin listed a w M hsz hr inv⟩
  | succ fuel ih =>
    intro listed a w M hsz hcnt inv
    refine ⟨fun hr => hfin listed a w M hsz hr inv, fun i hi => ?_⟩
    rw [mem_ready] at hi
    obtain ⟨h0, o, ho, hpre⟩ := hi
    have hlt : i < listed.size := by rw [hsz, ← r.sz]; exact (Array.getElem?_eq_some_iff.1 ho).1
    have him : i < m := by omega
    have hni : ¬ lX listed i := by
      simp only [lX, Array.getD_eq_getD_getElem?, Array.getElem?_eq_getElem hlt, Option.getD_some] at h0 ⊢
      simp [h0]
    have hpre' := Kh ho hpre
    obtain ⟨o', ho', hop⟩ := r.op i him
    rw [ho] at ho'
    injection ho' with ho'
    subst ho'
    have hcnt' : ((listed.setIfInBounds i true).toList.countP fun b => !b) ≤ fuel := by
      have hb : listed[i] = false := by simpa [Array.getD_eq_getD_getElem?, Array.getElem?_eq_getElem hlt] using h0
      have h1 : (listed.setIfInBounds i true).toList = listed.toList.set i true := by simp
      rw [h1, List.countP_set (by simpa using hlt)]
      simp only [Array.getElem_toList, hb]
      have : 0 < listed.toList.countP fun b => !b := by
        rw [List.countP_pos_iff]
        exact ⟨listed[i], by simp, by simp [hb]⟩
      simp only [Bool.not_false, Bool.not_true, if_true, Bool.false_eq_true, if_false]
      omega
    have hnext : ∀ w' v, (fx i).left w M w' v → wpAnyIn fr.kd.jA 0 P .any ops Q fuel (listed.setIfInBounds i true) (a.put o.dst v) w' := fun w' v hl => by
      obtain ⟨M', inv'⟩ := inv.step r him hlt hni hpre' hop hl
      exact ih _ _ _ M' (by simpa using hsz) hcnt' inv'
    have h := hop.2.2.2.2 a w M inv.ok.wf inv.ok.size
      (fun c hc hcn => inv.slot c hcn i (by omega)
        (fun k hk hkc => s6 inv.down hpre' (r.pair k i hk him (y4 (by simp [Fx.slotsOf, hc]) hkc)) (by omega))
        (fun k hk hkm hkc hlk => by
          rcases Nat.lt_or_ge i k with h | h
          · exact hni (j3 inv.down (r.pair i k h hkm (wU (by simp [Fx.slotsOf, hc]) hkc)) hlk)
          · have : k = i := by omega
            subst this; exact hni hlk))
      (fun x hx hrt => inv.tag i (by omega) x hx
        (fun k hk hkc => s6 inv.down hpre' (r.pair k i hk him (Ca (by simp [Fx.mS, hrt]) hkc)) (by omega))
        (fun k hk hkm hkc hlk => by
          rcases Nat.lt_or_ge i k with h | h
          · exact hni (j3 inv.down (r.pair i k h hkm (yx (by simp [Fx.mS, hrt]) hkc)) hlk)
          · have : k = i := by omega
            subst this; exact hni hlk))
    simp only [wpOpIn, ho]
    split
    · rename_i hw
      rw [if_pos hw] at h
      exact Oper.uL (fun a' w' ⟨v, e, hl⟩ => by subst e; exact hnext w' v hl) h
    · rename_i hw
      rw [if_neg hw] at h
      exact ⟨fun f _ => fr.kd.v9 f, hnext w undef h⟩
def forward (ops : Array Oper) : Bool := ops.toList.zipIdx.all fun x => x.1.after.toList.all fun e => !Region.binds .any e || decide (e.on < x.2)
theorem Ba (h : forward ops = true) : ∀ i j, oM ops i j = true → i < j := by
 intro i j he
 unfold oM at he
 split at he
 ·rename_i o ho
  simp only [forward, List.all_eq_true] at h
  have hm : (o, j) ∈ ops.toList.zipIdx := by
   rw [List.mem_zipIdx_iff_getElem?]; simpa using ho
  have h2 := h _ hm
  simp only [List.any_eq_true, Bool.and_eq_true, beq_iff_eq] at he
  obtain ⟨e, he, hb, hon⟩ := he
  have := h2 e he
  simp only [hb, Bool.not_true, Bool.false_or, decide_eq_true_eq] at this
  omega
 cases he
theorem ve {S K : Nat → Prop} (w : World) (M : bC) : Le S K w M { w with drawn := w.drawn + 1 } M :=
 ⟨Nat.le_refl _, rfl, rfl, rfl, fun _ _ h => ⟨h, rfl⟩, fun _ _ h _ => ⟨h, fun _ => rfl⟩⟩
theorem JO {id : Nat} {l : List Oper} {A : As} {Q : Exit → Act → World → Prop} (hm : P.follows .mixedOrders = true) (hf : forward l.toArray = true)
    (h : bA P fr l.toArray l A fun A' s => BG fr.n l.toArray A s = true ∧ ∀ a w, A'.holds fr a w → Q .normal a w) :
    ∀ a w, A.holds fr a w → (Code.region id l.toArray true).wpIn fr.kd.jA 0 P Q a w := by
  intro a w ⟨M, ok, hs, ht⟩
  obtain ⟨st, fx, h0, h1, h2, hord, hK⟩ := x9 l 0 A _ h (fun j => by simp)
  subst h0
  have hmem : ∀ i, i < l.length → ((st i, fx i), i) ∈ ((List.range l.length).map fun i => (st i, fx i)).zipIdx := fun i hi => by
    rw [List.mem_zipIdx_iff_getElem?]; simp [List.getElem?_range hi]
  simp only [BG, List.all_eq_true, Bool.and_eq_true] at hord
  have r : PU P fr l.toArray st fx l.length := by
    refine ⟨by simp, fun i hi => by simpa using h1 i hi, h2, fun i j hij hj hc => ?_, fun i k hi hk hK => ?_, fun i hi => (hord _ (hmem i hi)).1⟩
    · have := ((hord _ (hmem i (by omega))).2 _ (hmem j hj)).1
      simpa [KG, hij, hc] using this
    · have := ((hord _ (hmem i hi)).2 _ (hmem k hk)).2
      simpa [hK] using this
  refine wpIn_region_any hm ?_
  refine Ef r hK (Ba hf) _ _ _ _ M (by simp) (by simp [List.countP_replicate]) ⟨⟨⟨ok.wf.lt, ok.wf.inj⟩, Fr.jT (S := fun _ => False) (K := fun _ => False) ok.base (fun _ h => h.elim) (fun _ h => h.elim) (ve w M), ok.size, ok.defers.step (S := fun _ => False) (K := fun _ => False) (fun _ h => h.elim) (fun _ h => h.elim) (ve w M)⟩, ?_, ?_, ?_⟩
  · intro k j _ hj; simp [lX, Array.getElem?_replicate] at hj; split at hj <;> simp at hj
  · intro c hc j hj h1' _
    have : (st j).slots c = (st 0).slots c := yy h2 c 0 j (Nat.zero_le _) hj fun k _ hk => by
      cases hh : hit (st k, fx k) c with
      | false => rfl
      | true => have := h1' k hk hh; simp [lX, Array.getElem?_replicate] at this; split at this <;> simp at this
    rw [this]
    exact ((st 0).slots c).mono (S := fun _ => False) (K := fun _ => False) (ve w M) (fun _ _ h => h) (fun _ _ h => h) (hs c hc)
  · intro j hj x hx h1' _
    have hset : ∀ i, i < l.length → ∀ x ∈ (fx i).sets, x.1 ∈ (fx i).S ∨ x.1 ∈ (fx i).K := fun i hi => by
      obtain ⟨_, _, h⟩ := h1 i hi; exact h.2.1
    have hx0 := DJ h2 hset x 0 j (Nat.zero_le _) hj (fun k _ hk => by
      cases hh : jZ (st k, fx k) x.1 with
      | false => rfl
      | true => have := h1' k hk hh; simp [lX, Array.getElem?_replicate] at this; split at this <;> simp at this) hx
    exact x.2.mono (S := fun _ => False) (K := fun _ => False) (ve w M) (fun _ _ h => h) (fun _ _ h => h) (fun h => h) (fun h => h) (ht x hx0)
theorem HO {id : Nat} {l : List Oper} {A : As} {Q : Exit → Act → World → Prop} (h : bA P fr l.toArray l A fun A' _ => ∀ a w, A'.holds fr a w → Q .normal a w) :
 ∀ a w, A.holds fr a w → (Code.region id l.toArray false).wpIn fr.kd.jA 0 P Q a w := fun _ _ ha =>
 wpIn_region_lit (ud l A _ _ _ h ha fun _ _ _ _ hk hA => hk _ _ hA)
end
end Go.T
namespace Go.T
open Go Go.RowKit
def nj (v : Value) (_ : World) (_ : bC) (x : Value) : Prop := x = v
def Ty.ex (v : Value) : Ty := ⟨nj v, [], [], fun _ _ _ h => h, v.oneCell', fun h e => (show _ = _ from e) ▸ h⟩
def gL (k : IntKind) (n : Int) (_ : World) (_ : bC) (x : Value) : Prop := x = .int k n
def Ty.int (k : IntKind) (n : Int) : Ty := ⟨gL k n, [], [], fun _ _ _ h => h, true, fun _ e => (show _ = _ from e) ▸ rfl⟩
def eX (b : Bool) (_ : World) (_ : bC) (x : Value) : Prop := x = .bool b
def Ty.bool (b : Bool) : Ty := ⟨eX b, [], [], fun _ _ _ h => h, true, fun _ e => (show _ = _ from e) ▸ rfl⟩
def gr (s : ByteArray) (_ : World) (_ : bC) (x : Value) : Prop := x = .string s
def Ty.str (s : ByteArray) : Ty := ⟨gr s, [], [], fun _ _ _ h => h, true, fun _ e => (show _ = _ from e) ▸ rfl⟩
def gy (t off : Nat) (_ : World) (M : bC) (x : Value) : Prop := ∃ b, M b = some t ∧ x = .pointer (some ⟨b, off, none⟩)
def Ty.ptr (t off : Nat) : Ty := ⟨gy t off, [t], [], fun le hk _ ⟨b, h, e⟩ => ⟨b, (le.own b t h (hk t (by simp))).1, e⟩, true, fun _ ⟨_, _, e⟩ => e ▸ rfl⟩
def g6 (l : List Ty) (w : World) (M : bC) (x : Value) : Prop := ∃ cs : Array Value, x = .agg cs ∧ cI w M l cs.toList
def Ty.agg (l : List Ty) : Ty := { den := g6 l, deps := cF l, cdeps := bY l, mono := fun le hk hs ⟨cs, e, h⟩ => ⟨cs, e, bl le hk hs h⟩ }
def gu (l : List Ty) (w : World) (M : bC) (x : Value) : Prop := ∃ cs : Array Value, x = .tuple cs ∧ cI w M l cs.toList
def Ty.j8 (l : List Ty) : Ty := { den := gu l, deps := cF l, cdeps := bY l, mono := fun le hk hs ⟨cs, e, h⟩ => ⟨cs, e, bl le hk hs h⟩ }
def gw (f : FuncId) (caps : List Ty) (w : World) (M : bC) (x : Value) : Prop := ∃ cs : Array Value, x = .func (.func f) #[] cs ∧ cI w M caps cs.toList
def Ty.jw (f : FuncId) (caps : List Ty) : Ty := ⟨gw f caps, cF caps, bY caps, fun le hk hs ⟨cs, e, h⟩ => ⟨cs, e, bl le hk hs h⟩, true, fun _ ⟨_, e, _⟩ => e ▸ rfl⟩
def ni (g : Bool) (t : Ty) (w : World) (M : bC) (x : Value) : Prop := (g = true → t.den w M x) ∧ (g = false → x = undef)
def Ty.gd (g : Bool) (t : Ty) : Ty := { den := ni g t, deps := t.deps, cdeps := t.cdeps, mono := fun le hk hs h => ⟨fun hg => t.mono le hk hs (h.1 hg), h.2⟩ }
def mq (w : World) (M : bC) (b off : Nat) (l : List Ty) : Prop :=
  M b = none ∧ b < w.heap.size ∧ ∀ (i : Nat) (t : Ty), l[i]? = some t → ∃ v, w.cell? ⟨b, off + i, none⟩ = some v ∧ t.den w M v
theorem oF {S K : Nat → Prop} {w w' : World} {M M' : bC} (le : Le S K w M w' M') {b off : Nat} {l : List Ty} (hk : ∀ t ∈ cF l, ¬ K t) (hs : ∀ t ∈ bY l, ¬ S t) (h : mq w M b off l) : mq w' M' b off l := by
 obtain ⟨h1, h2, h3⟩ := h
 obtain ⟨h4, h5⟩ := le.ql b h2 h1
 refine ⟨h4, Nat.lt_of_lt_of_le h2 le.size, fun i t hi => ?_⟩
 obtain ⟨v, hc, hd⟩ := h3 i t hi
 refine ⟨v, ?_, t.mono le (fun u hu => hk u ?_) (fun u hu => hs u ?_) hd⟩
 ·rw [← hc]; exact World.cell?_of_block (w := w) h5
 ·simp only [cF, List.mem_flatMap]; exact ⟨t, List.mem_of_getElem? hi, hu⟩
 simp only [bY, List.mem_flatMap]; exact ⟨t, List.mem_of_getElem? hi, hu⟩
theorem wE {w : World} {M : bC} {b off : Nat} {l : List Ty} (n : Nat) (h : mq w M b off l) : mq w M b (off + n) (l.drop n) :=
 ⟨h.1, h.2.1, fun i t hi => by rw [List.getElem?_drop] at hi; obtain ⟨v, hv, hd⟩ := h.2.2 (n + i) t hi; exact ⟨v, by rw [Nat.add_assoc]; exact hv, hd⟩⟩
theorem EG {w : World} {M : bC} {b off : Nat} {l : List Ty} (n : Nat) (h : mq w M b off l) : mq w M b off (l.take n) :=
 ⟨h.1, h.2.1, fun i t hi => h.2.2 i t (by rw [List.getElem?_take] at hi; split at hi <;> simp_all)⟩
def nh (l : List Ty) (w : World) (M : bC) (x : Value) : Prop := ∃ b off, x = .pointer (some ⟨b, off, none⟩) ∧ mq w M b off l
def Ty.pp (l : List Ty) : Ty := ⟨nh l, cF l, bY l, fun le hk hs ⟨b, off, e, h⟩ => ⟨b, off, e, oF le hk hs h⟩, true, fun _ ⟨_, _, e, _⟩ => e ▸ rfl⟩
structure El (α : Type) where
  size : Nat
  tys : α → List Ty
  len : ∀ x, (tys x).length = size
  nodeps : ∀ x, cF (tys x) = []
  nocdeps : ∀ x, bY (tys x) = []
  ones : ∀ x, (tys x).all Ty.one = true
def cT : El Int := ⟨1, fun n => [Ty.int .i64 n], fun _ => rfl, fun _ => rfl, fun _ => rfl, fun _ => rfl⟩
def nth {α : Type} [Inhabited α] (xs : List α) (k : Nat) : α := xs.getD k default
theorem fk {α : Type} [Inhabited α] {xs : List α} {k : Nat} (h : k < xs.length) : nth xs k = xs[k] := by simp [nth, h]
theorem cX {α : Type} [Inhabited α] {xs : List α} {k : Nat} (h : k < xs.length) : nth xs k ∈ xs := by rw [fk h]; exact List.getElem_mem h
theorem cQ {α : Type} [Inhabited α] {xs : List α} {k : Nat} (h : k < xs.length) : xs.take (k + 1) = xs.take k ++ [nth xs k] := by
 rw [List.take_succ_eq_append_getElem h, fk h]
theorem lf {α : Type} [Inhabited α] {xs : List α} {k : Nat} (h : k < xs.length) : xs.drop k = nth xs k :: xs.drop (k + 1) := by
 rw [fk h]; exact List.drop_eq_getElem_cons h
theorem El.cY {α : Type} (E : El α) (xs : List α) : cF (xs.flatMap E.tys) = [] := by
 refine List.eq_nil_iff_forall_not_mem.2 fun t ht => ?_
 simp only [cF, List.mem_flatMap] at ht
 obtain ⟨x, ⟨y, _, hx⟩, hu⟩ := ht
 have h' : t ∈ cF (E.tys y) := by simp only [cF, List.mem_flatMap]; exact ⟨x, hx, hu⟩
 rw [E.nodeps y] at h'; cases h'
theorem El.cS {α : Type} (E : El α) (xs : List α) : bY (xs.flatMap E.tys) = [] := by
 refine List.eq_nil_iff_forall_not_mem.2 fun t ht => ?_
 simp only [bY, List.mem_flatMap] at ht
 obtain ⟨x, ⟨y, _, hx⟩, hu⟩ := ht
 have h' : t ∈ bY (E.tys y) := by simp only [bY, List.mem_flatMap]; exact ⟨x, hx, hu⟩
 rw [E.nocdeps y] at h'; cases h'
def lN {α : Type} (E : El α) (xs : List α) (w : World) (M : bC) (x : Value) : Prop :=
  ∃ A c, x = .slice A xs.length c ∧ xs.length ≤ c ∧ c ≤ maxLen ∧ (0 < xs.length → ∃ b off, A = some ⟨b, off, none⟩ ∧ mq w M b off (xs.flatMap E.tys))
def Ty.sl {α : Type} (E : El α) (xs : List α) : Ty :=
  ⟨lN E xs, [], [], fun le _ _ ⟨A, c, e, h1, h2, h⟩ => ⟨A, c, e, h1, h2, fun h0 => let ⟨b, off, e, h⟩ := h h0; ⟨b, off, e, oF le (by rw [E.cY]; intro _ h; cases h) (by rw [E.cS]; intro _ h; cases h) h⟩⟩, true, fun _ ⟨_, _, e, _⟩ => e ▸ rfl⟩
theorem ou {α : Type} (E : El α) : ∀ (xs : List α) (k j : Nat), k < xs.length → j < E.size → (xs.flatMap E.tys)[k * E.size + j]? = (xs[k]?).bind fun x => (E.tys x)[j]?
  | [], k, j, h, _ => absurd h (Nat.not_lt_zero _)
  | x :: xs, 0, j, _, hj => by simp [List.getElem?_append, E.len, hj]
  | x :: xs, k + 1, j, h, hj => by
    have := ou E xs k j (by simpa using h) hj
    rw [List.flatMap_cons, List.getElem?_append, if_neg (by rw [E.len, Nat.succ_mul]; omega), E.len, List.getElem?_cons_succ, ← this]
    congr 1
    rw [Nat.succ_mul]; omega
def Ty.jU : Value → Ty
  | .int k n => .int k n
  | .bool b => .bool b
  | .string s => .str s
  | v => .ex v
def As.op (A : As) (fr : Fr) : Operand → Ty
  | .tmp t => bif Nat.blt t fr.n then A.slots t else Ty.any
  | .const v => Ty.jU v
  | .func f => Ty.jw f []
  | .global _ => Ty.any
def cJ : Operand → List Nat
  | .tmp t => [t]
  | _ => []
theorem j6 (w : World) (M : bC) (v : Value) : (Ty.jU v).den w M v := by cases v <;> rfl
theorem cV {fr : Fr} {A : As} {a : Act} {w : World} {M : bC} {x : Operand} {rs : List Nat} (hr : ∀ c ∈ cJ x, c ∈ rs) (h : ∀ c ∈ rs, c < fr.n → (A.slots c).den w M (a.tmps.getD c undef)) : (A.op fr x).den w M (a.eval x) := by
  cases x with
  | tmp t =>
    simp only [As.op, Act.eval]
    cases hb : Nat.blt t fr.n with
    | true => exact h t (hr t (by simp [cJ])) (by simpa using hb)
    | false => trivial
  | const v => exact j6 w M v
  | func f => exact ⟨#[], rfl, trivial⟩
  | global g => trivial
def As.set (A : As) (d : Nat) (ty : Ty) : As := ⟨fun c => bif Nat.beq c d then ty else A.slots c, A.tags⟩
section
variable {P : Program} {fr : Fr} {ops : Array Oper} {A : As} {rest : List Oper} {K : As → List (As × Fx) → Prop} {d : Nat} {t : TypeId} {p : String} {e : Array Edge}
theorem bT {o : Oper} {rs : List Nat} {ty : Ty} {rt : List Nat} (hg : o.guard = none) (hd : o.dst = some d)
 (h : ∀ (a : Act) w M, Wf w M → (∀ c ∈ rs, c < fr.n → (A.slots c).den w M (a.tmps.getD c undef)) → (∀ x ∈ A.tags, x.1 ∈ rt → x.2.den w M x.1) → ∃ v, (execOp a.eval o).run P w = .ok (.value v) w ∧ ty.den w M v) :
 xp P fr ops o A { d := some d, ty := ty, rs := rs, rt := rt } := by
 refine ⟨hd.symm, by simp, by simp, by simp, fun a w M wf _ hr ht => ?_⟩
 rw [if_pos (by simp [Region.wanted, hg])]
 obtain ⟨v, hv, hty⟩ := h a w M wf hr ht
 refine oy hv ?_
 exact ⟨v, rfl, M, wf, Le.refl _ _ _ _, hty, by simp⟩
theorem bJ {o : Oper} {rs : List Nat} {ty : Ty} {rt : List Nat} (hop : xp P fr ops o A { d := some d, ty := ty, rs := rs, rt := rt })
 (h : bA P fr ops rest (A.set d ty) fun A' l => K A' ((A, { d := some d, ty := ty, rs := rs, rt := rt }) :: l)) : bA P fr ops (o :: rest) A K := ⟨_, hop, h⟩
theorem aD (h : K A []) : bA P fr ops [] A K := h
theorem eB {x : Operand} {ty : Ty} (hx : A.op fr x = ty) (h : bA P fr ops rest (A.set d ty) fun A' l => K A' ((A, { d := some d, ty := ty, rs := cJ x }) :: l)) :
 bA P fr ops (⟨some d, .move x, t, p, e, none⟩ :: rest) A K :=
 bJ (bT rfl rfl fun a w M _ hr _ => ⟨a.eval x, by simp [execOp], hx ▸ cV (fun _ h => h) hr⟩) h
theorem gi {x : Operand} {ty : Ty} (hx : A.op fr x = ty) (h : bA P fr ops rest (A.set d ty) fun A' l => K A' ((A, { d := some d, ty := ty, rs := cJ x }) :: l)) :
 bA P fr ops (⟨some d, .assign x, t, p, e, none⟩ :: rest) A K :=
 bJ (bT rfl rfl fun a w M _ hr _ => ⟨a.eval x, by simp [execOp], hx ▸ cV (fun _ h => h) hr⟩) h
theorem op2 {a : Act} {w : World} {M : bC} {x y : Operand} (hr : ∀ c ∈ cJ x ++ cJ y, c < fr.n → (A.slots c).den w M (a.tmps.getD c undef)) :
 (A.op fr x).den w M (a.eval x) ∧ (A.op fr y).den w M (a.eval y) :=
 ⟨cV (fun c h => List.mem_append_left _ h) hr, cV (fun c h => List.mem_append_right _ h) hr⟩
def Pd (op : BinOp) (k : IntKind) (a b : Int) : Option Ty :=
  match op with
  | .add => some (.int k (k.wrap (a + b)))
  | .sub => some (.int k (k.wrap (a - b)))
  | .mul => some (.int k (k.wrap (a * b)))
  | .and => some (.int k (bits .and k a b))
  | .or => some (.int k (bits .or k a b))
  | .xor => some (.int k (bits .xor k a b))
  | .andNot => some (.int k (bits .andNot k a b))
  | .eql => some (.bool (decide (a = b)))
  | .neq => some (.bool (!decide (a = b)))
  | .lss => some (.bool (decide (a < b)))
  | .leq => some (.bool (decide (a ≤ b)))
  | .gtr => some (.bool (decide (b < a)))
  | .geq => some (.bool (decide (b ≤ a)))
  | _ => none
theorem Fp (a b : Int) : (a == b) = decide (a = b) := by rw [Bool.eq_iff_iff]; simp
theorem LS {op : BinOp} {k : IntKind} {a b : Int} {ty : Ty} (h : Pd op k a b = some ty) (x y : Operand) (t : TypeId) (w : World) (M : bC) :
 ∃ v, (do eqGuard op t x y (.int k a) (.int k b); binOp op t (.int k a) (.int k b) : Sem Value).run P w = .ok v w ∧ ty.den w M v := by
 cases op <;> simp only [Pd, Option.some.injEq, reduceCtorEq] at h <;> subst h <;> refine ⟨_, ?_, rfl⟩ <;> simp [go_sem, Op.intArith, bne, Fp]
end
end Go.T
namespace Go.Proofs.YtelbollidfdcjaaGreat
open Go Go.T
def c7 (f : Nat → Int) : Nat → Int
  | 0 => 0
  | n + 1 => c7 f n + f n
theorem fO {f g : Nat → Int} : ∀ {n : Nat}, (∀ i, i < n → f i = g i) → c7 f n = c7 g n
  | 0, _ => rfl
  | n + 1, h => by unfold c7; rw [fO fun i hi => h i (by omega), h n (by omega)]
theorem x8 (f g : Nat → Int) : ∀ n, c7 (fun i => f i + g i) n = c7 f n + c7 g n
  | 0 => rfl
  | n + 1 => by unfold c7; rw [x8 f g n]; omega
theorem kf (f g : Nat → Int) : ∀ n, c7 (fun i => f i - g i) n = c7 f n - c7 g n
  | 0 => rfl
  | n + 1 => by unfold c7; rw [kf f g n]; omega
theorem sY (k : Int) (f : Nat → Int) : ∀ n, c7 (fun i => k * f i) n = k * c7 f n
  | 0 => (Int.mul_zero k).symm
  | n + 1 => by unfold c7; rw [sY k f n, Int.mul_add]
theorem sx {f g : Nat → Int} : ∀ {n : Nat}, (∀ i, i < n → f i ≤ g i) → c7 f n ≤ c7 g n
  | 0, _ => Int.le_refl _
  | n + 1, h => by
    unfold c7
    have := sx (n := n) fun i hi => h i (by omega)
    have := h n (by omega)
    omega
theorem gb {f : Nat → Int} {n : Nat} (h : ∀ i, i < n → f i = 0) : c7 f n = 0 := by
  induction n with
  | zero => rfl
  | succ n ih => unfold c7; rw [ih fun i hi => h i (by omega), h n (by omega)]; rfl
theorem Aq {f g : Nat → Int} {n k : Nat} (hk : k < n) (h : ∀ i, i < n → f i ≤ g i) (hl : f k < g k) : c7 f n < c7 g n := by
  induction n with
  | zero => omega
  | succ n ih =>
    unfold c7
    by_cases e : k = n
    · subst e
      have := sx (f := f) (g := g) (n := k) fun i hi => h i (by omega)
      omega
    · have := ih (by omega) fun i hi => h i (by omega)
      have := h n (by omega)
      omega
theorem je {f : Nat → Int} {n k : Nat} (hk : k < n) (h : ∀ i, i < n → i ≠ k → f i = 0) : c7 f n = f k := by
  induction n with
  | zero => omega
  | succ n ih =>
    unfold c7
    by_cases e : k = n
    · subst e; rw [gb fun i hi => h i (by omega) (by omega)]; omega
    · rw [ih (by omega) fun i hi hn => h i (by omega) hn, h n (by omega) (by omega)]; omega
theorem zx (f : Nat → Nat → Int) (m : Nat) : ∀ n, c7 (fun i => c7 (f i) m) n = c7 (fun j => c7 (fun i => f i j) n) m
  | 0 => (gb fun _ _ => rfl).symm
  | n + 1 => by
    show c7 (fun i => c7 (f i) m) n + c7 (f n) m = c7 (fun j => c7 (fun i => f i j) n + f n j) m
    rw [zx f m n, x8]
theorem p5 {f : Nat → Int} {b : Int} : ∀ {n : Nat}, (∀ i, i < n → -b ≤ f i ∧ f i ≤ b) → -(b * n) ≤ c7 f n ∧ c7 f n ≤ b * n
  | 0, _ => by simp [c7]
  | n + 1, h => by
    unfold c7
    have h1 := p5 (n := n) fun i hi => h i (by omega)
    have h2 := h n (by omega)
    rw [show ((n + 1 : Nat) : Int) = n + 1 by omega, Int.mul_add]
    omega
structure cB where
  src : Int
  dst : Int
  lo : Int
  hi : Int
deriving DecidableEq, Inhabited
structure Way where
  ix : Nat
  more : Bool
deriving DecidableEq
instance : Inhabited Way := ⟨⟨0, false⟩⟩
def ind (p : Prop) [Decidable p] : Int := if p then 1 else 0
theorem fj {p : Prop} [Decidable p] (h : p) : ind p = 1 := if_pos h
theorem fD {p : Prop} [Decidable p] (h : ¬ p) : ind p = 0 := if_neg h
section
variable {fl : List cB} {a a' : List Int} {n : Nat}
def over (fl : List cB) (a : List Int) (c : Int) : Int := c7 (fun i => (ind ((nth fl i).dst = c) - ind ((nth fl i).src = c)) * nth a i) fl.length
structure Net (fl : List cB) (n : Nat) : Prop where
  src : ∀ i, i < fl.length → 0 ≤ (nth fl i).src ∧ (nth fl i).src < n
  dst : ∀ i, i < fl.length → 0 ≤ (nth fl i).dst ∧ (nth fl i).dst < n
  ne : ∀ i, i < fl.length → (nth fl i).src ≠ (nth fl i).dst
def yR (fl : List cB) (a : List Int) : Prop := a.length = fl.length ∧ ∀ i, i < fl.length → (nth fl i).lo ≤ nth a i ∧ nth a i ≤ (nth fl i).hi
def DU (fl : List cB) (n : Nat) (a : List Int) : Prop := ∀ c : Nat, c < n → over fl a c = 0
def g5 (fl : List cB) (n : Nat) (a : List Int) : Prop := yR fl a ∧ DU fl n a
theorem Fi {π : Int → Int} {x : Int} (h : 0 ≤ x ∧ x < n) : c7 (fun c => π c * ind (x = (c : Int))) n = π x := by
 rw [je (k := x.toNat) (by omega) fun i hi hn => by rw [fD (by omega), Int.mul_zero], fj (by omega), Int.mul_one]
 congr 1; omega
theorem yJ (hN : Net fl n) (π : Int → Int) : c7 (fun c => π c * over fl a c) n = c7 (fun i => (π (nth fl i).dst - π (nth fl i).src) * nth a i) fl.length := by
 unfold over
 rw [fO (g := fun c : Nat => c7 (fun i => π c * ((ind ((nth fl i).dst = c) - ind ((nth fl i).src = c)) * nth a i)) fl.length) fun c _ => (sY _ _ _).symm, zx]
 refine fO fun i hi => ?_
 rw [fO (g := fun c : Nat => nth a i * (π c * ind ((nth fl i).dst = c) - π c * ind ((nth fl i).src = c))) fun c _ => by
  rw [← Int.mul_sub, Int.mul_comm (_ - _) (nth a i), ← Int.mul_assoc, Int.mul_comm (π c), Int.mul_assoc], sY, kf, Fi (hN.dst i hi), Fi (hN.src i hi), Int.mul_comm]
theorem wS (hN : Net fl n) (h : DU fl n a) (π : Int → Int) : c7 (fun i => (π (nth fl i).dst - π (nth fl i).src) * nth a i) fl.length = 0 := by
 rw [← yJ hN]
 exact gb fun c hc => by rw [h c hc, Int.mul_zero]
def Way.fin (w : Way) (fl : List cB) : Int := if w.more then (nth fl w.ix).dst else (nth fl w.ix).src
def Way.iA (w : Way) (fl : List cB) : Int := if w.more then (nth fl w.ix).src else (nth fl w.ix).dst
def Way.room (w : Way) (fl : List cB) (a : List Int) : Int := if w.more then (nth fl w.ix).hi - nth a w.ix else nth a w.ix - (nth fl w.ix).lo
def Open (fl : List cB) (a : List Int) (w : Way) : Prop := w.ix < fl.length ∧ 0 < w.room fl a
theorem Jq (hN : Net fl n) (hI : yR fl a) (R : Int → Bool) (hcl : ∀ w, Open fl a w → R (w.iA fl) = true → R (w.fin fl) = true)
    (h0 : ∀ c : Nat, c < n → R c = true → 0 ≤ over fl a c) {c0 : Nat} (hc0 : c0 < n) (hR0 : R c0 = true) (hp : 0 < over fl a c0) : ¬ ∃ a', g5 fl n a' := by
  rintro ⟨a', hI', hE⟩
  have h1 := yJ (a := a) hN fun c => ind (R c = true)
  have h2 := wS hN hE fun c => ind (R c = true)
  have hpos : 0 < c7 (fun c : Nat => ind (R c = true) * over fl a c) n := by
    have := Aq (f := fun _ => 0) (g := fun c : Nat => ind (R c = true) * over fl a c) hc0 (fun i hi => by
      cases h : R i with
      | true => rw [fj rfl, Int.one_mul]; exact h0 i hi h
      | false => rw [fD (by decide), Int.zero_mul]; exact Int.le_refl _) (by show (0 : Int) < _; rw [hR0, fj rfl, Int.one_mul]; exact hp)
    rwa [gb fun _ _ => rfl] at this
  have hle : c7 (fun i => (ind (R (nth fl i).dst = true) - ind (R (nth fl i).src = true)) * nth a i) fl.length ≤ c7 (fun i => (ind (R (nth fl i).dst = true) - ind (R (nth fl i).src = true)) * nth a' i) fl.length := by
    refine sx fun i hi => ?_
    have b1 := hI.2 i hi
    have b2 := hI'.2 i hi
    have c1 := hcl ⟨i, true⟩
    have c2 := hcl ⟨i, false⟩
    simp only [Open, Way.room, Way.iA, Way.fin, if_true, if_false, Bool.false_eq_true] at c1 c2
    have e1 : ind (true = true) = 1 := rfl
    have e0 : ind (false = true) = 0 := rfl
    cases hd : R (nth fl i).dst <;> cases hs : R (nth fl i).src <;> rw [hd] at c1 c2 <;> rw [hs] at c1 c2
    · simp [ind]
    · rw [e1, e0]
      have : ¬ 0 < (nth fl i).hi - nth a i := fun h => by have := c1 ⟨hi, h⟩ rfl; cases this
      omega
    · rw [e1, e0]
      have : ¬ 0 < nth a i - (nth fl i).lo := fun h => by have := c2 ⟨hi, h⟩ rfl; cases this
      omega
    · simp [ind]
  omega
theorem Li (hN : Net fl n) (ha : g5 fl n a) (ha' : g5 fl n a') (g : Nat → Int) (p : Int → Int)
 (h : ∀ w, Open fl a w → p (w.iA fl) + (if w.more then g w.ix else - g w.ix) ≤ p (w.fin fl)) : c7 (fun i => g i * nth a' i) fl.length ≤ c7 (fun i => g i * nth a i) fl.length := by
 have h1 := wS hN ha.2 p
 have h2 := wS hN ha'.2 p
 have hle : c7 (fun i => g i * nth a' i - (p (nth fl i).dst - p (nth fl i).src) * nth a' i) fl.length ≤ c7 (fun i => g i * nth a i - (p (nth fl i).dst - p (nth fl i).src) * nth a i) fl.length := by
  refine sx fun i hi => ?_
  have b1 := ha.1.2 i hi
  have b2 := ha'.1.2 i hi
  have c1 := h ⟨i, true⟩
  have c2 := h ⟨i, false⟩
  simp only [Open, Way.room, Way.iA, Way.fin, if_true, if_false, Bool.false_eq_true] at c1 c2
  rw [← Int.sub_mul, ← Int.sub_mul]
  generalize hr : g i - (p (nth fl i).dst - p (nth fl i).src) = r at *
  by_cases e1 : nth a i < (nth fl i).hi
  ·have := c1 ⟨hi, by omega⟩
   by_cases e2 : (nth fl i).lo < nth a i
   ·have := c2 ⟨hi, by omega⟩
    have : r = 0 := by omega
    subst this; simp
   exact Int.mul_le_mul_of_nonpos_left (by omega) (by omega)
  by_cases e2 : (nth fl i).lo < nth a i
  ·have := c2 ⟨hi, by omega⟩
   exact Int.mul_le_mul_of_nonneg_left (by omega) (by omega)
  have : nth a' i = nth a i := by omega
  rw [this]; exact Int.le_refl _
 rw [kf, kf, h1, h2] at hle
 omega
end
end Go.Proofs.YtelbollidfdcjaaGreat
namespace Go.T
open Go Go.RowKit
inductive TK where
  | int (k : IntKind) | bool | string | ptr (e : Nat) | slice (e : Nat) | array (n e : Nat) | struct (fs : List (Nat × Nat)) | map (k e : Nat) | func | other
structure TI where
  k : TK
  size : Nat
  bytes : Nat
  zero : List Value
def TK.of : TypeDesc → TK
  | .int k => .int k
  | .bool => .bool
  | .string => .string
  | .pointer e => .ptr e
  | .slice e => .slice e
  | .array n e => .array n e
  | .struct fs => .struct (fs.toList.map fun f => (f.offset, f.type))
  | .map k e => .map k e
  | .func .. => .func
  | _ => .other
def TK.agg : TK → Bool
  | .struct _ | .array .. => true
  | _ => false
def G1 (P : Program) (t : Nat) : Option TI :=
  match P.info? t, P.underlying t with
  | some i, some d => some ⟨TK.of d, i.size, i.bytes, match i.zero with | some z => z.cells.toList | none => []⟩
  | _, _ => none
class lD (P : Program) where
  eN : List TI
  ok : ∀ (t : Nat) (x : TI), eN[t]? = some x → G1 P t = some x
theorem lD.of {P : Program} {l : List TI} (h : (List.range l.length).map (G1 P) = l.map some) : ∀ (t : Nat) (x : TI), l[t]? = some x → G1 P t = some x := by
 intro t x hx
 have hlt : t < l.length := (List.getElem?_eq_some_iff.1 hx).1
 have h1 : ((List.range l.length).map (G1 P))[t]? = (l.map some)[t]? := by rw [h]
 simp [List.getElem?_range hlt, hx] at h1
 exact h1
section
variable {P : Program} [T : lD P] {fr : Fr} {ops : Array Oper} {A : As} {rest : List Oper} {K : As → List (As × Fx) → Prop} {d : Nat} {t ty' : TypeId} {p : String} {e : Array Edge}
theorem cz {t : Nat} {x : TI} (h : T.eN[t]? = some x) : ∃ i D, P.info? t = some i ∧ P.underlying t = some D ∧ TK.of D = x.k ∧ i.size = x.size ∧ i.bytes = x.bytes ∧ (match i.zero with | some z => z.cells.toList | none => []) = x.zero := by
 have h := T.ok t x h
 unfold G1 at h
 split at h
 ·rename_i i D hi hD
  injection h with h
  subst h
  exact ⟨i, D, hi, hD, rfl, rfl, rfl, rfl⟩
 cases h
theorem dO {t : Nat} {x : TI} (h : T.eN[t]? = some x) (w : World) : (sizeOf t).run P w = .ok x.size w := by
 obtain ⟨i, _, hi, _, _, hs, _⟩ := cz h
 simp [sizeOf, typeInfo, hi, hs]
theorem xd {t : Nat} {x : TI} (h : T.eN[t]? = some x) (w : World) : (isAgg t).run P w = .ok x.k.agg w := by
 obtain ⟨i, D, _, hD, hk, _⟩ := cz h
 rw [← hk]
 cases D <;> simp [isAgg, run_underlying hD, TK.of, TK.agg]
theorem kC {t : Nat} {x : TI} (h : T.eN[t]? = some x) (ha : x.k.agg = false) {w : World} {b off : Nat} {v : Value} (hc : w.cell? ⟨b, off, none⟩ = some v) :
 (Instr.loadAt t (.pointer (some ⟨b, off, none⟩))).run P w = .ok v w := by
 simp [Instr.loadAt, Instr.sureAddr, loadVar, xd h, ha, load, Sem.run, hc]
theorem iJ {t : Nat} {x : TI} (h : T.eN[t]? = some x) (ha : x.k.agg = true) {w : World} {b off : Nat} {cs : List Value} (hl : cs.length = x.size) (hc : ∀ j v, cs[j]? = some v → w.cell? ⟨b, off + j, none⟩ = some v) :
 (Instr.loadAt t (.pointer (some ⟨b, off, none⟩))).run P w = .ok (.agg cs.toArray) w := by
 have := run_loadCells_list (P := P) (w := w) ⟨b, off, none⟩ cs (fun j v hj => by rw [Addr.add_lit]; exact hc j v hj)
 rw [hl] at this
 simp [Instr.loadAt, Instr.sureAddr, loadVar, xd h, ha, dO h, this]
theorem m6 {w : World} {M : bC} {b off : Nat} {l : List Ty} (h : mq w M b off l) : ∀ n, n ≤ l.length → ∃ cs : List Value, cs.length = n ∧ cI w M (l.take n) cs ∧ ∀ j v, cs[j]? = some v → w.cell? ⟨b, off + j, none⟩ = some v := by
  intro n
  induction n with
  | zero => exact fun _ => ⟨[], rfl, trivial, fun j v h => by simp at h⟩
  | succ n ih =>
    intro hn
    obtain ⟨cs, h1, h2, h3⟩ := ih (by omega)
    obtain ⟨v, hv, hd⟩ := h.2.2 n l[n] (List.getElem?_eq_getElem (by omega))
    refine ⟨cs ++ [v], by simp [h1], ?_, fun j u hj => ?_⟩
    · refine fm (by simp [h1]; omega) fun i t hi => ?_
      rw [List.getElem?_take] at hi
      split at hi
      · rename_i hlt
        by_cases e : i = n
        · subst e
          rw [List.getElem?_eq_getElem (by omega)] at hi
          injection hi with hi
          subst hi
          exact ⟨v, by rw [List.getElem?_append_right (by omega)]; simp [h1], hd⟩
        · obtain ⟨x, hx, hdx⟩ := dW h2 i t (by rw [List.getElem?_take, if_pos (by omega)]; exact hi)
          exact ⟨x, by rw [List.getElem?_append_left (by omega)]; exact hx, hdx⟩
      · cases hi
    · rcases Nat.lt_or_ge j n with hlt | hge
      · rw [List.getElem?_append_left (by omega)] at hj; exact h3 j u hj
      · rw [List.getElem?_append_right (by omega)] at hj
        have : j = n := by
          rcases Nat.lt_or_ge (j - cs.length) 1 with h | h
          · omega
          · rw [List.getElem?_eq_none (by simpa using h)] at hj; cases hj
        subst this
        simp [h1] at hj
        subst hj; exact hv
theorem aJ {x : Operand} {l : List Ty} {ti : TI} {ty : Ty} (hx : A.op fr x = .pp l) (hT : T.eN[ty']? = some ti) (ha : ti.k.agg = false) (hl : l[0]? = some ty)
 (h : bA P fr ops rest (A.set d ty) fun A' l => K A' ((A, { d := some d, ty := ty, rs := cJ x }) :: l)) : bA P fr ops (⟨some d, .load ty' x, t, p, e, none⟩ :: rest) A K :=
 bJ (bT rfl rfl fun a w M _ hr _ => by
  have := cV (x := x) (fun _ h => h) hr
  rw [hx] at this
  obtain ⟨b, off, e, hp⟩ := this
  obtain ⟨v, hv, hd⟩ := hp.2.2 0 ty hl
  have hv' : w.cell? ⟨b, off, none⟩ = some v := hv
  exact ⟨v, by simp [execOp, e, kC hT ha hv'], hd⟩) h
theorem aX {x : Operand} {l : List Ty} {ti : TI} (hx : A.op fr x = .pp l) (hT : T.eN[ty']? = some ti) (ha : ti.k.agg = true) (hl : ti.size ≤ l.length)
 (h : bA P fr ops rest (A.set d (.agg (l.take ti.size))) fun A' l' => K A' ((A, { d := some d, ty := .agg (l.take ti.size), rs := cJ x }) :: l')) : bA P fr ops (⟨some d, .load ty' x, t, p, e, none⟩ :: rest) A K :=
 bJ (bT rfl rfl fun a w M _ hr _ => by
  have := cV (x := x) (fun _ h => h) hr
  rw [hx] at this
  obtain ⟨b, off, e, hp⟩ := this
  obtain ⟨cs, h1, h2, h3⟩ := m6 hp _ hl
  exact ⟨.agg cs.toArray, by simp [execOp, e, iJ hT ha h1 h3], cs.toArray, rfl, by simpa using h2⟩) h
def As.tag (A : As) (t : Nat) : Option Cont := A.tags.lookup t
theorem cj {A : As} {t : Nat} {C : Cont} (h : A.tag t = some C) : (t, C) ∈ A.tags := by
  unfold As.tag at h
  revert h
  generalize A.tags = l
  induction l with
  | nil => intro h; cases h
  | cons x l ih =>
    intro h
    obtain ⟨u, D⟩ := x
    rw [List.lookup_cons] at h
    split at h
    · rename_i he
      injection h with h
      subst h
      have : t = u := by simpa using he
      subst this; exact List.mem_cons_self
    · exact List.mem_cons_of_mem _ (ih h)
theorem B8 {w : World} {M : bC} {tg T b off : Nat} {l : List Ty} {ty : Ty} (wf : Wf w M) (h1 : gE tg) (hb : M b = some tg) (hc : (Cont.cells T l).den w M tg) (hl : l[off]? = some ty) :
 ∃ v, w.cell? ⟨b, off, none⟩ = some v ∧ ty.den w M v := by
 obtain ⟨b', cs, hb', hh, hd⟩ := hc
 obtain ⟨u, rfl⟩ : ∃ u, tg = u + 1 := ⟨tg - 1, by omega⟩
 have := wf.inj b b' u (by omega) hb hb'
 subst this
 obtain ⟨v, hv, hdv⟩ := dW hd off ty hl
 exact ⟨v, by simpa [World.cell?, hh] using hv, hdv⟩
theorem aZ {x : Operand} {tg off Tb : Nat} {l : List Ty} {ti : TI} {ty : Ty} (hx : A.op fr x = .ptr tg off) (hc : A.tag tg = some (.cells Tb l)) (h1 : gE tg) (hT : T.eN[ty']? = some ti) (ha : ti.k.agg = false) (hl : l[off]? = some ty)
 (h : bA P fr ops rest (A.set d ty) fun A' l => K A' ((A, { d := some d, ty := ty, rs := cJ x, rt := [tg] }) :: l)) : bA P fr ops (⟨some d, .load ty' x, t, p, e, none⟩ :: rest) A K :=
 bJ (bT rfl rfl fun a w M wf hr ht => by
  have := cV (x := x) (fun _ h => h) hr
  rw [hx] at this
  obtain ⟨b, hb, e⟩ := this
  obtain ⟨v, hv, hd⟩ := B8 wf h1 hb (ht _ (cj hc) (by simp)) hl
  exact ⟨v, by simp [execOp, e, kC hT ha hv], hd⟩) h
theorem bg {x : Operand} {tg off Tb : Nat} {l : List Ty} {ti : TI} (hx : A.op fr x = .ptr tg off) (hc : A.tag tg = some (.cells Tb l)) (h1 : gE tg) (hT : T.eN[ty']? = some ti) (ha : ti.k.agg = true) (hl : off + ti.size ≤ l.length)
 (h : bA P fr ops rest (A.set d (.agg ((l.drop off).take ti.size))) fun A' l' => K A' ((A, { d := some d, ty := .agg ((l.drop off).take ti.size), rs := cJ x, rt := [tg] }) :: l')) : bA P fr ops (⟨some d, .load ty' x, t, p, e, none⟩ :: rest) A K :=
 bJ (bT rfl rfl fun a w M wf hr ht => by
  have := cV (x := x) (fun _ h => h) hr
  rw [hx] at this
  obtain ⟨b, hb, e⟩ := this
  obtain ⟨b', cs, hb', hh, hd⟩ := ht _ (cj hc) (by simp)
  obtain ⟨u, rfl⟩ : ∃ u, tg = u + 1 := ⟨tg - 1, by omega⟩
  have := wf.inj b b' u (by omega) hb hb'
  subst this
  have hlen := cW hd
  have h2 := qE ti.size (nF off hd)
  refine ⟨.agg ((cs.toList.drop off).take ti.size).toArray, ?_, _, rfl, by simpa using h2⟩
  have := iJ (P := P) hT ha (w := w) (b := b) (off := off) (cs := (cs.toList.drop off).take ti.size) (by simp at hlen ⊢; omega) (fun j v hj => by
   rw [List.getElem?_take] at hj
   split at hj
   ·rw [List.getElem?_drop] at hj
    simpa [World.cell?, hh] using hj
   cases hj)
  simp [execOp, e, this]) h
theorem tW {t f : Nat} {ti : TI} {fs : List (Nat × Nat)} {o ft : Nat} {tf : TI} (hT : T.eN[t]? = some ti) (hk : ti.k = .struct fs) (hf : fs[f]? = some (o, ft)) (hF : T.eN[ft]? = some tf) (h0 : tf.size ≠ 0) (b off : Nat) (w : World) :
 (Instr.fieldAt t (.pointer (some ⟨b, off, none⟩)) f).run P w = .ok (.pointer (some ⟨b, off + o, none⟩)) w := by
 obtain ⟨i, D, _, hD, hkd, _⟩ := cz hT
 rw [hk] at hkd
 cases D <;> simp only [TK.of, reduceCtorEq, TK.struct.injEq] at hkd
 rename_i fields
 subst hkd
 simp only [List.getElem?_map, Option.map_eq_some_iff, Prod.mk.injEq] at hf
 obtain ⟨g, hg, ho, hft⟩ := hf
 subst ho; subst hft
 have hg' : fields[f]? = some g := by simpa using hg
 simp [Instr.fieldAt, run_underlying hD, hg', Instr.sureAddr, fieldPlace, dO hF, h0]
 exact Addr.add_lit _ _ _
theorem aL {x : Operand} {f : Nat} {l : List Ty} {ti tf : TI} {fs : List (Nat × Nat)} {o ft : Nat} (hx : A.op fr x = .pp l) (hT : T.eN[ty']? = some ti) (hk : ti.k = .struct fs) (hf : fs[f]? = some (o, ft)) (hF : T.eN[ft]? = some tf) (h0 : tf.size ≠ 0)
 (h : bA P fr ops rest (A.set d (.pp (l.drop o))) fun A' l' => K A' ((A, { d := some d, ty := .pp (l.drop o), rs := cJ x }) :: l')) : bA P fr ops (⟨some d, .fieldAddr ty' x f, t, p, e, none⟩ :: rest) A K :=
 bJ (bT rfl rfl fun a w M _ hr _ => by
  have := cV (x := x) (fun _ h => h) hr
  rw [hx] at this
  obtain ⟨b, off, e, hp⟩ := this
  exact ⟨_, by simp [execOp, e, tW hT hk hf hF h0], b, off + o, rfl, wE o hp⟩) h
theorem aS {x : Operand} {f tg off : Nat} {ti tf : TI} {fs : List (Nat × Nat)} {o ft : Nat} (hx : A.op fr x = .ptr tg off) (hT : T.eN[ty']? = some ti) (hk : ti.k = .struct fs) (hf : fs[f]? = some (o, ft)) (hF : T.eN[ft]? = some tf) (h0 : tf.size ≠ 0)
 (h : bA P fr ops rest (A.set d (.ptr tg (off + o))) fun A' l' => K A' ((A, { d := some d, ty := .ptr tg (off + o), rs := cJ x }) :: l')) : bA P fr ops (⟨some d, .fieldAddr ty' x f, t, p, e, none⟩ :: rest) A K :=
 bJ (bT rfl rfl fun a w M _ hr _ => by
  have := cV (x := x) (fun _ h => h) hr
  rw [hx] at this
  obtain ⟨b, hb, e⟩ := this
  exact ⟨_, by simp [execOp, e, tW hT hk hf hF h0], b, hb, rfl⟩) h
theorem iG {t e : Nat} {ti te : TI} (hT : T.eN[t]? = some ti) (hk : ti.k = .slice e) (hE : T.eN[e]? = some te) {b off len c : Nat} {k : IntKind} {i : Int} (h0 : 0 ≤ i) (h1 : i.toNat < len) (w : World) :
 (Instr.indexAt t (.slice (some ⟨b, off, none⟩) len c) (.int k i)).run P w = .ok (.pointer (some ⟨b, off + i.toNat * te.size, none⟩)) w := by
 obtain ⟨_, D, _, hD, hkd, _⟩ := cz hT
 rw [hk] at hkd
 cases D <;> simp only [TK.of, reduceCtorEq, TK.slice.injEq] at hkd
 subst hkd
 have : 0 ≤ i ∧ i < (len : Int) := ⟨h0, by omega⟩
 simp [Instr.indexAt, asIntOf, run_underlying hD, this, dO hE]
 exact Addr.add_lit _ _ _
theorem oU {t e n : Nat} {ti te : TI} (hT : T.eN[t]? = some ti) (hk : ti.k = .array n e) (hE : T.eN[e]? = some te) {b off : Nat} {k : IntKind} {i : Int} (h0 : 0 ≤ i) (h1 : i.toNat < n) (w : World) :
 (Instr.indexAt t (.pointer (some ⟨b, off, none⟩)) (.int k i)).run P w = .ok (.pointer (some ⟨b, off + i.toNat * te.size, none⟩)) w := by
 obtain ⟨_, D, _, hD, hkd, _⟩ := cz hT
 rw [hk] at hkd
 cases D <;> simp only [TK.of, reduceCtorEq, TK.array.injEq] at hkd
 obtain ⟨e1, e2⟩ := hkd
 subst e1; subst e2
 have h2 : i < (_ : Nat) := Int.lt_of_lt_of_le (Int.lt_add_one_of_le (Int.self_le_toNat i)) (Int.ofNat_le.2 h1)
 simp [Instr.indexAt, asIntOf, run_underlying hD, Instr.sureAddr, h0, h2, dO hE]
 exact Addr.add_lit _ _ _
theorem mj {α : Type} [Inhabited α] (E : El α) (xs : List α) {k : Nat} (hk : k < xs.length) (i : Nat) (ty : Ty) (h : (E.tys (nth xs k))[i]? = some ty) : (xs.flatMap E.tys)[k * E.size + i]? = some ty := by
 have hi : i < E.size := by
  have := (List.getElem?_eq_some_iff.1 h).1
  rw [E.len] at this; exact this
 rw [ou E xs k i hk hi, List.getElem?_eq_getElem hk, ← fk hk]
 exact h
theorem kA {α : Type} [Inhabited α] {x y : Operand} {E : El α} {xs : List α} {k : IntKind} {i : Int} {ti te : TI} {el : Nat} (hx : A.op fr x = .sl E xs) (hy : A.op fr y = .int k i) (hT : T.eN[ty']? = some ti) (hk : ti.k = .slice el) (hE : T.eN[el]? = some te) (hs : te.size = E.size)
 (h0 : 0 ≤ i) (h1 : i.toNat < xs.length)
 (h : bA P fr ops rest (A.set d (.pp (E.tys (nth xs i.toNat)))) fun A' l' => K A' ((A, { d := some d, ty := .pp (E.tys (nth xs i.toNat)), rs := cJ x ++ cJ y }) :: l')) : bA P fr ops (⟨some d, .indexAddr ty' x y, t, p, e, none⟩ :: rest) A K :=
 bJ (bT rfl rfl fun a w M _ hr _ => by
  obtain ⟨hdx, hdy⟩ := op2 hr
  rw [hx] at hdx; rw [hy] at hdy
  obtain ⟨ad, c, ex, _, _, hp⟩ := hdx
  obtain ⟨b, off, rfl, hp'⟩ := hp (by omega)
  have ey : a.eval y = .int k i := hdy
  refine ⟨_, by simp only [execOp, ex, ey, Sem.run_bind, iG hT hk hE h0 h1]; rfl, b, off + i.toNat * te.size, rfl, hp'.1, hp'.2.1, fun j ty hj => ?_⟩
  obtain ⟨v, hv, hd⟩ := hp'.2.2 _ ty (mj E xs h1 j ty hj)
  exact ⟨v, by rw [hs, Nat.add_assoc]; exact hv, hd⟩) h
end
end Go.T
namespace Go.T
open Go Go.RowKit
def lV (w0 : World) (M0 : bC) (res : Ty) (e : Ending) (w' : World) : Prop :=
  ∃ r M', e = .returned r ∧ Wf w' M' ∧ Le (fun t => 1 ≤ t) (fun t => 1 ≤ t) w0 M0 w' M' ∧ res.den w' M' r
def dJ (P : Program) (f : FuncId) (args : List Ty) (res : Ty) : Prop :=
  (∃ fn, P.funcs[f]? = some fn ∧ (fn.name == "runtime.NumGoroutine") = false ∧ fn.body.isNone = false) ∧
  ∀ w M vs, Wf w M → (∀ b t, M b = some t → t = 0) → cI w M args vs → Calls P f vs.toArray w (lV w M res)
def fP (P : Program) (fr : Fr) (c : Code) (A : As) (Q : Exit → Act → World → Prop) : Prop := ∀ a w, A.holds fr a w → c.wpIn fr.kd.jA 0 P Q a w
def dQ (fr : Fr) (A : As) (R : Act → World → Prop) : Prop := ∀ a w, A.holds fr a w → R a w
section
variable {P : Program} {fr : Fr} {ops : Array Oper} {A : As} {rest : List Oper} {K : As → List (As × Fx) → Prop} {d : Nat} {t ty' : TypeId} {p : String} {e : Array Edge} {Q : Exit → Act → World → Prop} {x y : Code} {id : Nat} {l : List Oper}
theorem aE (h : fP P fr x A (Exit.then (fun a w => y.wpIn fr.kd.jA 0 P Q a w) Q)) : fP P fr (.seq x y) A Q := fun a w ha => wpIn_seq (h a w ha)
theorem aA (h : bA P fr l.toArray l A fun A' _ => dQ fr A' (Q .normal)) : fP P fr (.region id l.toArray false) A Q := HO h
theorem cP (hm : P.follows .mixedOrders = true) (hf : forward l.toArray = true) (h : bA P fr l.toArray l A fun A' s => BG fr.n l.toArray A s = true ∧ dQ fr A' (Q .normal)) : fP P fr (.region id l.toArray true) A Q := JO hm hf h
theorem aC (h : fP P fr y A Q) {Q' : Exit → Act → World → Prop} : dQ fr A (Exit.then (fun a w => y.wpIn fr.kd.jA 0 P Q a w) Q' .normal) := h
theorem aP {n : Act → World → Prop} {i : Nat} (h : dQ fr A (Q (.exit i))) : dQ fr A (Exit.then n Q (.exit i)) := h
theorem aQ {n : Act → World → Prop} (h : dQ fr A (Q .ret)) : dQ fr A (Exit.then n Q .ret) := h
theorem aj (h : dQ fr A (Q .normal)) : fP P fr .skip A Q := fun a w ha => wpIn_skip (h a w ha)
theorem bz {i : Nat} (h : dQ fr A (Q (.exit i))) : fP P fr (.exit i) A Q := fun a w ha => wpIn_exit (h a w ha)
theorem az (h : dQ fr A (Q .ret)) : fP P fr .ret A Q := fun a w ha => wpIn_ret (h a w ha)
theorem aY (h : fP P fr x A (Exit.inBlock id Q)) : fP P fr (.block id x) A Q := fun a w ha => wpIn_block (h a w ha)
theorem bI (h : dQ fr A (Q .normal)) : dQ fr A (Exit.inBlock id Q .normal) := h
theorem ay (h : dQ fr A (Q .ret)) : dQ fr A (Exit.inBlock id Q .ret) := h
theorem aa {i : Nat} (hi : i = id) (h : dQ fr A (Q .normal)) : dQ fr A (Exit.inBlock id Q (.exit i)) := fun a w ha => by simpa [Exit.inBlock, hi] using h a w ha
theorem gV {i : Nat} (hi : Nat.beq i id = false) (h : dQ fr A (Q (.exit i))) : dQ fr A (Exit.inBlock id Q (.exit i)) := fun a w ha => by
 have : i ≠ id := fun e => by rw [e] at hi; simp at hi
 simpa [Exit.inBlock, this] using h a w ha
theorem cH {c : Operand} {b : Bool} (hc : A.op fr c = .bool b) (h1 : b = true → fP P fr x A Q) (h2 : b = false → fP P fr y A Q) : fP P fr (.cond c x y) A Q := fun a w ha => by
  have hv : a.eval c = .bool b := by
    obtain ⟨M, _, hs, _⟩ := ha
    have := cV (x := c) (rs := cJ c) (fun _ h => h) (fun c _ hn => hs c hn)
    rw [hc] at this; exact this
  cases b with
  | true => exact wpIn_cond_true hv (h1 rfl a w ha)
  | false => exact wpIn_cond_false hv (h2 rfl a w ha)
def Ty.Sub (s t : Ty) : Prop := ∀ w M v, s.den w M v → t.den w M v
theorem Ty.aF (s : Ty) : s.Sub s := fun _ _ _ h => h
theorem Ty.aT (s : Ty) : s.Sub Ty.any := fun _ _ _ _ => trivial
theorem Ty.sub_eq {s t : Ty} (h : s = t) : s.Sub t := h ▸ Ty.aF s
def Cont.Sub (s t : Cont) : Prop := ∀ w M v, s.den w M v → t.den w M v
theorem Cont.aF (s : Cont) : s.Sub s := fun _ _ _ h => h
theorem Cont.sub_eq {s t : Cont} (h : s = t) : s.Sub t := h ▸ Cont.aF s
def rT (A B : As) : Nat → Prop
  | 0 => True
  | k + 1 => (A.slots k).Sub (B.slots k) ∧ rT A B k
theorem aI {A B : As} : rT A B 0 := trivial
theorem rU {A B : As} : ∀ {n : Nat}, rT A B n → ∀ c, c < n → (A.slots c).Sub (B.slots c)
  | 0, _, c, hc => absurd hc (Nat.not_lt_zero c)
  | n + 1, h, c, hc => if e : c = n then e ▸ h.1 else rU h.2 c (by omega)
def allTags (A : As) : List (Nat × Cont) → Prop
  | [] => True
  | x :: l => (∃ C, A.tag x.1 = some C ∧ C.Sub x.2) ∧ allTags A l
theorem aH : allTags A [] := trivial
theorem aG {u : Nat} {C D : Cont} {l : List (Nat × Cont)} (h : A.tag u = some D) (hs : D.Sub C) (h' : allTags A l) : allTags A ((u, C) :: l) := ⟨⟨D, h, hs⟩, h'⟩
theorem pT : ∀ {l : List (Nat × Cont)}, allTags A l → ∀ x ∈ l, ∃ C, A.tag x.1 = some C ∧ C.Sub x.2
  | [], _, x, hx => by cases hx
  | y :: l, h, x, hx => by
    rcases List.mem_cons.1 hx with rfl | hx
    · exact h.1
    · exact pT h.2 x hx
structure cg (fr : Fr) (A B : As) : Prop where
  slots : rT A B fr.n
  tags : allTags A B.tags
theorem cg.holds {A B : As} (h : cg fr A B) {a : Act} {w : World} : A.holds fr a w → B.holds fr a w := fun ⟨M, ok, hs, ht⟩ =>
 ⟨M, ok, fun c hc => rU h.slots c hc _ _ _ (hs c hc), fun x hx => by
  obtain ⟨C, hC, hsub⟩ := pT h.tags x hx
  exact hsub _ _ _ (ht _ (cj hC))⟩
theorem iQ {B : As} (h : cg fr A B) (h' : fP P fr x B Q) : fP P fr x A Q := fun a w ha => h' a w (h.holds ha)
theorem j4 {J : As} (h : fP P fr x A (Exit.then (fun a w => J.holds fr a w) Q)) (h' : fP P fr y J Q) : fP P fr (.seq x y) A Q := fun a w ha =>
 wpIn_seq (Go.wpIn_mono (h a w ha) fun e a w hq => by cases e <;> first | exact h' a w hq | exact hq)
theorem eW {J : As} (h : cg fr A J) : dQ fr A (Exit.then (fun a w => J.holds fr a w) Q .normal) := fun a w ha => h.holds ha
theorem b9 {ι : Type} (I : ι → As) (μ : ι → Nat) (i0 : ι) (h0 : cg fr A (I i0))
    (h : ∀ i, fP P fr x (I i) (Exit.then (fun a w => ∃ j, (I j).holds fr a w ∧ μ j < μ i) Q)) : fP P fr (.loop x) A Q := by
  intro a w ha b k cs hro hb hr
  have key : ∀ (n : Nat) (i : ι), μ i = n → ∀ a w, (I i).holds fr a w → ∃ e a' w', Q e a' w' ∧ ArrivesIn (Machine.fenced P fr.kd.jA) P (lone (b.atR a (.code x :: .inLoop x :: k)) cs w) b k cs e a' w' := by
    intro n
    induction n using Nat.strongRecOn with
    | _ n ih =>
      intro i hi a w ha
      obtain ⟨e, a₁, w₁, hq, harr⟩ := h i a w ha b (.inLoop x :: k) cs hro hb hr
      cases e with
      | normal =>
        obtain ⟨j, hj, hlt⟩ := hq
        obtain ⟨e₂, a₂, w₂, hq₂, harr₂⟩ := ih (μ j) (hi ▸ hlt) j rfl a₁ w₁ hj
        exact ⟨e₂, a₂, w₂, hq₂, .of_steps (StepsIn.trans harr (.one (fenced_calm hb hr rfl) stepR_inLoop)) harr₂⟩
      | exit id => exact ⟨_, a₁, w₁, hq, .pass (x := .inLoop x) rfl (fun _ _ => .inl (by simp)) harr⟩
      | goto l => exact ⟨_, a₁, w₁, hq, .pass (x := .inLoop x) rfl (fun _ _ => .inl (by simp)) harr⟩
      | ret => exact ⟨_, a₁, w₁, hq, .pass (x := .inLoop x) rfl (fun _ _ => .inl (by simp)) harr⟩
      | panic ch => exact ⟨_, a₁, w₁, hq, .pass (x := .inLoop x) rfl (fun _ _ => .inl (by simp)) harr⟩
      | outgrown => exact ⟨_, a₁, w₁, hq, .pass (x := .inLoop x) rfl (fun _ _ => .inl (by simp)) harr⟩
  obtain ⟨e, a', w', hq, harr⟩ := key _ i0 rfl a w (h0.holds ha)
  exact ⟨e, a', w', hq, .of_steps (.one (fenced_calm hb hr rfl) stepR_loop) harr⟩
theorem bM {ι : Type} {I : ι → As} {μ : ι → Nat} {i : ι} (j : ι) (h : cg fr A (I j)) (hlt : μ j < μ i) : dQ fr A (Exit.then (fun a w => ∃ j, (I j).holds fr a w ∧ μ j < μ i) Q .normal) := fun a w ha => ⟨j, h.holds ha, hlt⟩
def entry (args : List Ty) : As := ⟨fun c => (args[c]?).getD Ty.any, []⟩
theorem ak {f : FuncId} {fn : Func} {c : Code} {args : List Ty} {res : Ty} {n : Nat} (hf : P.funcs[f]? = some fn) (hb : fn.body = some c) (hn : (fn.name == "runtime.NumGoroutine") = false) (hnt : fn.ntmps = n) (hl : args.length ≤ n)
    (h : ∀ w0 M0, fP P ⟨n, w0, M0, [], .plain⟩ c (entry args) (bodyPost P fn (lV w0 M0 res))) : dJ P f args res := by
  refine ⟨⟨fn, hf, hn, by rw [hb]; rfl⟩, fun w M vs wf hM hd => calls_of_wp hf hb (wpIn_wide.1 (h w M _ _ ?_))⟩
  have hlen := cW hd
  refine ⟨M, ⟨wf, Le.refl _ _ _ _, by simp [hnt, hlen]; omega, Defs.nil⟩, fun c hc => ?_, by simp [entry]⟩
  simp only [entry]
  cases ha : args[c]? with
  | none => trivial
  | some ty =>
    obtain ⟨v, hv, hdv⟩ := dW hd c ty ha
    have : (vs.toArray ++ Array.replicate (fn.ntmps - vs.toArray.size) undef).getD c undef = v := by
      have hlt : c < vs.length := (List.getElem?_eq_some_iff.1 hv).1
      rw [Array.getD_eq_getD_getElem?, Array.getElem?_append_left (by simpa using hlt)]
      simp [hv]
    rw [this]; exact hdv
theorem N3 {fn : Func} {R : Ending → World → Prop} (h : dQ fr A (bodyPost P fn R .ret)) : dQ fr A (bodyPost P fn R .normal) := h
def L5 (M : bC) : bC := fun b => (M b).map fun _ => 0
theorem yF {M : bC} {b t : Nat} (h : L5 M b = some t) : t = 0 ∧ ∃ u, M b = some u := by
  unfold L5 at h
  cases hm : M b with
  | none => rw [hm] at h; cases h
  | some u => rw [hm] at h; injection h with h; exact ⟨h.symm, u, rfl⟩
theorem LI {w : World} {M : bC} (wf : Wf w M) : Wf w (L5 M) := ⟨fun b t h => let ⟨_, u, hu⟩ := yF h; wf.lt b u hu, fun b b' t _ h _ => by have := (yF h).1; omega⟩
theorem CX {M : bC} (b t : Nat) (h : L5 M b = some t) : t = 0 := (yF h).1
theorem C7 {M : bC} {b : Nat} (h : M b = none) : L5 M b = none := by simp [L5, h]
theorem Jf {M : bC} {b t : Nat} (h : M b = some t) : L5 M b = some 0 := by simp [L5, h]
def l6 (w : World) (M : bC) : bC := fun b => if b < w.heap.size then M b else none
theorem zO {w w' : World} {M M' : bC} {res : Ty} {r : Value} (wf : Wf w M) (le : Le (fun t => 1 ≤ t) (fun t => 1 ≤ t) w (L5 M) w' M') (hd : res.deps = []) (hdc : res.cdeps = []) (hr : res.den w' M' r) :
    Wf w' (l6 w M) ∧ Le (· ∈ ([] : List Nat)) (· ∈ ([] : List Nat)) w M w' (l6 w M) ∧ res.den w' (l6 w M) r := by
  have hold : ∀ b, b < w.heap.size → w'.heap[b]? = w.heap[b]? := fun b hb => by
    cases hm : M b with
    | none => exact (le.ql b hb (C7 hm)).2
    | some t => exact (le.own b 0 (Jf hm) (by omega)).2 (by omega)
  refine ⟨⟨fun b t h => ?_, fun b b' t ht1 h h' => ?_⟩, ⟨le.size, le.os, le.tape, le.out, fun b hb hm => ⟨?_, hold b hb⟩, fun b t hm _ => ⟨?_, fun _ => hold b (wf.lt b t hm)⟩⟩, ?_⟩
  · unfold l6 at h
    split at h
    · exact Nat.lt_of_lt_of_le ‹_› le.size
    · cases h
  · unfold l6 at h h'
    split at h <;> split at h' <;> first | exact wf.inj b b' t ht1 h h' | cases h | cases h'
  · simp [l6, hm]
  · simp [l6, wf.lt b t hm, hm]
  · refine res.mono (S := fun _ => True) (K := fun _ => True) ⟨Nat.le_refl _, rfl, rfl, rfl, fun b _ hm => ⟨?_, rfl⟩, fun b t _ h => absurd trivial h⟩ (by rw [hd]; intro _ h; cases h) (by rw [hdc]; intro _ h; cases h) hr
    unfold l6
    split
    · rename_i hlt
      cases hmb : M b with
      | none => rfl
      | some t =>
        have := (le.own b 0 (Jf hmb) (by omega)).1
        rw [hm] at this; cases this
    · rfl
def oW (A : As) (fr : Fr) (xs : List Operand) : List Ty := xs.map (A.op fr)
theorem iD {a : Act} {w : World} {M : bC} {rs : List Nat} (h : ∀ c ∈ rs, c < fr.n → (A.slots c).den w M (a.tmps.getD c undef)) : ∀ {xs : List Operand}, (∀ x ∈ xs, ∀ c ∈ cJ x, c ∈ rs) → cI w M (oW A fr xs) (xs.map a.eval)
  | [], _ => trivial
  | x :: xs, hr => ⟨cV (hr x List.mem_cons_self) h, iD h fun y hy => hr y (List.mem_cons_of_mem _ hy)⟩
theorem fB {w : World} {M : bC} : ∀ {l l' : List Ty} {vs vs' : List Value}, cI w M l vs → cI w M l' vs' → cI w M (l ++ l') (vs ++ vs')
  | [], _, [], _, _, h => h
  | _ :: _, _, _ :: _, _, ⟨h1, h2⟩, h => ⟨h1, fB h2 h⟩
theorem sR {w : World} {M : bC} {l : List Ty} {vs : List Value} (hd : cF l = []) (hdc : bY l = []) (h : cI w M l vs) : cI w (L5 M) l vs :=
 bl (S := fun _ => True) (K := fun _ => True) ⟨Nat.le_refl _, rfl, rfl, rfl, fun b _ hm => ⟨C7 hm, rfl⟩, fun b t _ h => absurd trivial h⟩ (by rw [hd]; intro _ h; cases h) (by rw [hdc]; intro _ h; cases h) h
theorem nu {f : FuncId} {args : List Ty} {res : Ty} (hF : dJ P f args res) (vs : Array Value) (w : World) : (callFunc f vs).run P w = .ok (.enter f vs) w := by
 obtain ⟨⟨fn, hf, hn, hb⟩, _⟩ := hF
 have hn' : fn.name ≠ "runtime.NumGoroutine" := by simpa using hn
 have hb' : fn.body ≠ none := fun h => by rw [h] at hb; cases hb
 simp [callFunc, hf, hn', hb']
theorem LH {f : FuncId} {args : List Ty} {res : Ty} (hF : dJ P f args res) {xs : Array Operand} {ats : Array TypeId} (hx : oW A fr xs.toList = args) (hd : cF args = []) (hdc : bY args = []) (hr : res.deps = []) (hrc : res.cdeps = []) :
 xp P fr ops ⟨some d, .call ⟨.value (.func f), xs, ats⟩, t, p, e, none⟩ A { d := some d, ty := res, rs := xs.toList.flatMap cJ } := by
 refine ⟨rfl, (by simp), (by simp), (by simp), fun a w M wf _ hrd _ => ?_⟩
 rw [if_pos (by simp [Region.wanted])]
 have hv : cI w M args (xs.toList.map a.eval) := hx ▸ iD hrd fun x hx c hc => List.mem_flatMap.2 ⟨x, hx, hc⟩
 have hc := hF.2 w _ _ (LI wf) CX (sR hd hdc hv)
 have hrun : (execOp a.eval ⟨some d, .call ⟨.value (.func f), xs, ats⟩, t, p, e, none⟩).run P w = .ok (.enter f (xs.map a.eval)) w := by
  simp [execOp, resolve, Act.eval, Deferred.ofValue, invoke, nu hF]
 refine mK hrun ?_
 have hvs : (xs.toList.map a.eval).toArray = xs.map a.eval := by rw [← Array.toList_map]
 rw [← hvs]
 refine hc.mono fun en w' ⟨r, M', he, _, le, hden⟩ => ?_
 obtain ⟨h1, h2, h3⟩ := zO wf le hr hrc hden
 exact ⟨r, he, r, rfl, _, h1, h2, h3, by simp⟩
theorem af {f : FuncId} {args : List Ty} {res : Ty} (hF : dJ P f args res) {xs : List Operand} {ats : Array TypeId} (hx : oW A fr xs = args) (hd : cF args = []) (hdc : bY args = []) (hr : res.deps = []) (hrc : res.cdeps = [])
 (h : bA P fr ops rest (A.set d res) fun A' l => K A' ((A, { d := some d, ty := res, rs := xs.flatMap cJ }) :: l)) : bA P fr ops (⟨some d, .call ⟨.value (.func f), xs.toArray, ats⟩, t, p, e, none⟩ :: rest) A K :=
 ⟨_, LH hF hx hd hdc hr hrc, h⟩
end
end Go.T
namespace Go.T
open Go Go.RowKit
section
variable {P : Program} {fr : Fr} {ops : Array Oper} {A : As} {rest : List Oper} {K : As → List (As × Fx) → Prop} {d : Nat} {t ty' ty2 : TypeId} {p : String} {e : Array Edge}
theorem bB {op : BinOp} {x y : Operand} {k : IntKind} {a b : Int} {ty : Ty} (hx : A.op fr x = .int k a) (hy : A.op fr y = .int k b) (hr : Pd op k a b = some ty)
 (h : bA P fr ops rest (A.set d ty) fun A' l' => K A' ((A, { d := some d, ty := ty, rs := cJ x ++ cJ y }) :: l')) : bA P fr ops (⟨some d, .binOp op ty' x y ty2, t, p, e, none⟩ :: rest) A K :=
 bJ (bT rfl rfl fun a w M _ hrd _ => by
  obtain ⟨hdx, hdy⟩ := op2 hrd
  rw [hx] at hdx; rw [hy] at hdy
  have ex : a.eval x = .int k _ := hdx
  have ey : a.eval y = .int k _ := hdy
  obtain ⟨v, hv', hd⟩ := LS (P := P) hr x y ty' w M
  refine ⟨v, ?_, hd⟩
  simp only [Sem.run_bind] at hv'
  simp only [execOp, ex, ey, Sem.run_bind, hv']
  rfl) h
theorem bq {x y : Operand} {a b : Int} (hx : A.op fr x = .int .i64 a) (hy : A.op fr y = .int .i64 b) (h1 : -9223372036854775808 ≤ a + b) (h2 : a + b ≤ 9223372036854775807)
 (h : bA P fr ops rest (A.set d (.int .i64 (a + b))) fun A' l' => K A' ((A, { d := some d, ty := .int .i64 (a + b), rs := cJ x ++ cJ y }) :: l')) : bA P fr ops (⟨some d, .binOp .add ty' x y ty2, t, p, e, none⟩ :: rest) A K := by
 refine bB (op := .add) hx hy (ty := .int .i64 (a + b)) ?_ h
 show some _ = some _
 rw [IntWalk.i64_in (a + b) (by omega)]
theorem gH {x y : Operand} {a b : Int} (hx : A.op fr x = .int .i64 a) (hy : A.op fr y = .int .i64 b) (h1 : -9223372036854775808 ≤ a - b) (h2 : a - b ≤ 9223372036854775807)
 (h : bA P fr ops rest (A.set d (.int .i64 (a - b))) fun A' l' => K A' ((A, { d := some d, ty := .int .i64 (a - b), rs := cJ x ++ cJ y }) :: l')) : bA P fr ops (⟨some d, .binOp .sub ty' x y ty2, t, p, e, none⟩ :: rest) A K := by
 refine bB (op := .sub) hx hy (ty := .int .i64 (a - b)) ?_ h
 show some _ = some _
 rw [IntWalk.i64_in (a - b) (by omega)]
theorem sw {x y : Operand} {a b : Int} (hx : A.op fr x = .int .i64 a) (hy : A.op fr y = .int .i64 b) (h1 : -9223372036854775808 ≤ a * b) (h2 : a * b ≤ 9223372036854775807)
 (h : bA P fr ops rest (A.set d (.int .i64 (a * b))) fun A' l' => K A' ((A, { d := some d, ty := .int .i64 (a * b), rs := cJ x ++ cJ y }) :: l')) : bA P fr ops (⟨some d, .binOp .mul ty' x y ty2, t, p, e, none⟩ :: rest) A K := by
 refine bB (op := .mul) hx hy (ty := .int .i64 (a * b)) ?_ h
 show some _ = some _
 rw [IntWalk.i64_in (a * b) ⟨h1, h2⟩]
theorem FB {x y : Operand} {k : IntKind} {a b : Int} (hx : A.op fr x = .int k a) (hy : A.op fr y = .int k b) (h0 : b ≠ 0)
 (h : bA P fr ops rest (A.set d (.int k (a.tmod b))) fun A' l' => K A' ((A, { d := some d, ty := .int k (a.tmod b), rs := cJ x ++ cJ y }) :: l')) : bA P fr ops (⟨some d, .binOp .rem ty' x y ty2, t, p, e, none⟩ :: rest) A K :=
 bJ (bT rfl rfl fun ac w M _ hrd _ => by
  obtain ⟨hdx, hdy⟩ := op2 hrd
  rw [hx] at hdx; rw [hy] at hdy
  have ex : ac.eval x = .int k _ := hdx
  have ey : ac.eval y = .int k _ := hdy
  exact ⟨.int k (a.tmod b), by simp only [execOp, ex, ey]; simp [go_sem, Op.intDiv, h0], rfl⟩) h
theorem F3 {x y : Operand} {k : IntKind} {a b : Int} (hx : A.op fr x = .int k a) (hy : A.op fr y = .int k b) (h0 : b ≠ 0)
 (h : bA P fr ops rest (A.set d (.int k (k.wrap (a.tdiv b)))) fun A' l' => K A' ((A, { d := some d, ty := .int k (k.wrap (a.tdiv b)), rs := cJ x ++ cJ y }) :: l')) : bA P fr ops (⟨some d, .binOp .quo ty' x y ty2, t, p, e, none⟩ :: rest) A K :=
 bJ (bT rfl rfl fun ac w M _ hrd _ => by
  obtain ⟨hdx, hdy⟩ := op2 hrd
  rw [hx] at hdx; rw [hy] at hdy
  have ex : ac.eval x = .int k _ := hdx
  have ey : ac.eval y = .int k _ := hdy
  exact ⟨.int k (k.wrap (a.tdiv b)), by simp only [execOp, ex, ey]; simp [go_sem, Op.intDiv, h0], rfl⟩) h
theorem dm {x : Operand} {b : Bool} (hx : A.op fr x = .bool b)
 (h : bA P fr ops rest (A.set d (.bool (!b))) fun A' l' => K A' ((A, { d := some d, ty := .bool (!b), rs := cJ x }) :: l')) : bA P fr ops (⟨some d, .unOp .not ty' x, t, p, e, none⟩ :: rest) A K :=
 bJ (bT rfl rfl fun a w M _ hrd _ => by
  have hdx := cV (x := x) (fun _ h => h) hrd
  rw [hx] at hdx
  have ex : a.eval x = .bool b := hdx
  exact ⟨.bool (!b), by simp [execOp, ex, Op.unary], rfl⟩) h
theorem Qp {x : Operand} {k : IntKind} {b : Int} (hx : A.op fr x = .int k b)
 (h : bA P fr ops rest (A.set d (.int k (k.wrap (0 - b)))) fun A' l' => K A' ((A, { d := some d, ty := .int k (k.wrap (0 - b)), rs := cJ x }) :: l')) : bA P fr ops (⟨some d, .unOp .neg ty' x, t, p, e, none⟩ :: rest) A K :=
 bJ (bT rfl rfl fun a w M _ hrd _ => by
  have hdx := cV (x := x) (fun _ h => h) hrd
  rw [hx] at hdx
  have ex : a.eval x = .int k b := hdx
  exact ⟨.int k (k.wrap (0 - b)), by simp [execOp, ex, Op.unary, Op.intArith], rfl⟩) h
theorem bQ {x : Operand} {l : List Ty} {i : Nat} {ty : Ty} (hx : A.op fr x = .j8 l) (hl : l[i]? = some ty)
 (h : bA P fr ops rest (A.set d ty) fun A' l' => K A' ((A, { d := some d, ty := ty, rs := cJ x }) :: l')) : bA P fr ops (⟨some d, .extract x i, t, p, e, none⟩ :: rest) A K :=
 bJ (bT rfl rfl fun a w M _ hrd _ => by
  have hdx := cV (x := x) (fun _ h => h) hrd
  rw [hx] at hdx
  obtain ⟨cs, ex, hd⟩ := hdx
  obtain ⟨v, hv, hdv⟩ := dW hd i ty hl
  exact ⟨v, by simp [execOp, ex, Instr.extract, show cs[i]? = some v by simpa using hv], hdv⟩) h
theorem cA {x : Operand} {l : List Ty} (hx : A.op fr x = .pp l)
 (h : bA P fr ops rest (A.set d (.pp l)) fun A' l' => K A' ((A, { d := some d, ty := .pp l, rs := cJ x }) :: l')) : bA P fr ops (⟨some d, .nilCheck x, t, p, e, none⟩ :: rest) A K :=
 bJ (bT rfl rfl fun a w M _ hrd _ => by
  have hdx := cV (x := x) (fun _ h => h) hrd
  rw [hx] at hdx
  have hdx' := hdx
  obtain ⟨b, off, ex, hp⟩ := hdx
  exact ⟨a.eval x, by simp [execOp, ex], hdx'⟩) h
theorem cZ {x : Operand} {tg off : Nat} (hx : A.op fr x = .ptr tg off)
 (h : bA P fr ops rest (A.set d (.ptr tg off)) fun A' l' => K A' ((A, { d := some d, ty := .ptr tg off, rs := cJ x }) :: l')) : bA P fr ops (⟨some d, .nilCheck x, t, p, e, none⟩ :: rest) A K :=
 bJ (bT rfl rfl fun a w M _ hrd _ => by
  have hdx := cV (x := x) (fun _ h => h) hrd
  rw [hx] at hdx
  have hdx' := hdx
  obtain ⟨b, hb, ex⟩ := hdx
  exact ⟨a.eval x, by simp [execOp, ex], hdx'⟩) h
variable [T : lD P]
theorem cD {α : Type} {x : Operand} {E : El α} {xs : List α} {ti : TI} {el : Nat} (hx : A.op fr x = .sl E xs) (hT : T.eN[ty']? = some ti) (hk : ti.k = .slice el)
 (h : bA P fr ops rest (A.set d (.int .i64 xs.length)) fun A' l' => K A' ((A, { d := some d, ty := .int .i64 xs.length, rs := cJ x }) :: l')) :
 bA P fr ops (⟨some d, .call ⟨.builtin .len, #[x], #[ty']⟩, t, p, e, none⟩ :: rest) A K :=
 bJ (bT rfl rfl fun a w M _ hrd _ => by
  have hdx := cV (x := x) (fun _ h => h) hrd
  rw [hx] at hdx
  obtain ⟨ad, c, ex, _⟩ := hdx
  obtain ⟨_, D, _, hD, hkd, _⟩ := cz hT
  rw [hk] at hkd
  cases D <;> simp only [TK.of, reduceCtorEq, TK.slice.injEq] at hkd
  exact ⟨.int .i64 xs.length, by simp [execOp, resolve, invoke, builtin, ex, Builtin.len_, run_underlying hD, goInt], rfl⟩) h
end
end Go.T
namespace Go.T
open Go Go.RowKit
def lk : List (Nat × Ty) → Nat → Ty
  | [], _ => Ty.any
  | (d, t) :: l, c => bif Nat.beq c d then t else lk l c
def live (l : List (Nat × Ty)) (tg : List (Nat × Cont) := []) : As := ⟨lk l, tg⟩
theorem aB {A B : As} {k : Nat} (h' : rT A B k) (h : (A.slots k).Sub (B.slots k)) : rT A B (k + 1) := ⟨h, h'⟩
theorem cg.mk' {fr : Fr} {A B : As} (h : rT A B fr.n) (h' : allTags A B.tags) : cg fr A B := ⟨h, h'⟩
theorem Ty.bN {k : IntKind} {a b : Int} (h : a = b) : (Ty.int k a).Sub (Ty.int k b) := h ▸ Ty.aF _
theorem Ty.c9 {a b : Bool} (h : a = b) : (Ty.bool a).Sub (Ty.bool b) := h ▸ Ty.aF _
theorem Ty.j7 {α : Type} {E : El α} {a b : List α} (h : a = b) : (Ty.sl E a).Sub (Ty.sl E b) := h ▸ Ty.aF _
theorem ah {P : Program} {fr : Fr} {A : As} {Q : Exit → Act → World → Prop} {x y : Code} {c : Operand} {q : Prop} [inst : Decidable q] (hc : A.op fr c = .bool (decide q)) (h1 : q → fP P fr x A Q) (h2 : ¬ q → fP P fr y A Q) : fP P fr (.cond c x y) A Q :=
 cH hc (fun h => h1 (of_decide_eq_true h)) (fun h => h2 (of_decide_eq_false h))
theorem cx {P : Program} {fr : Fr} {A : As} {Q : Exit → Act → World → Prop} {x y : Code} {c : Operand} {q : Prop} [inst : Decidable q] (hc : A.op fr c = .bool (!decide q)) (h1 : ¬ q → fP P fr x A Q) (h2 : q → fP P fr y A Q) : fP P fr (.cond c x y) A Q :=
 cH hc (fun h => h1 (of_decide_eq_false (by simpa using h))) (fun h => h2 (of_decide_eq_true (by simpa using h)))
section
variable {P : Program} {fr : Fr} {ops : Array Oper} {A : As} {rest : List Oper} {K : As → List (As × Fx) → Prop} {d : Nat} {t ty' : TypeId} {p : String} {e : Array Edge} [T : lD P]
theorem aq {α : Type} [Inhabited α] {x y : Operand} {E : El α} {xs : List α} {k : IntKind} {i : Nat} {ti te : TI} {el : Nat} (hx : A.op fr x = .sl E xs) (hy : A.op fr y = .int k i) (hT : T.eN[ty']? = some ti) (hk : ti.k = .slice el) (hE : T.eN[el]? = some te) (hs : te.size = E.size)
 (h1 : i < xs.length)
 (h : bA P fr ops rest (A.set d (.pp (E.tys (nth xs i)))) fun A' l' => K A' ((A, { d := some d, ty := .pp (E.tys (nth xs i)), rs := cJ x ++ cJ y }) :: l')) : bA P fr ops (⟨some d, .indexAddr ty' x y, t, p, e, none⟩ :: rest) A K :=
 kA hx hy hT hk hE hs (Int.natCast_nonneg _) h1 h
end
end Go.T
namespace Go.T
open Go Go.RowKit
theorem gC {P : Program} {fr : Fr} {ops : Array Oper} {o : Oper} {A : As} {f : Fx} (hg : o.guard = none) (hd : f.d = o.dst) (hsets : ∀ x ∈ f.sets, x.1 ∈ f.S ∨ x.1 ∈ f.K) (hS : ∀ t ∈ f.S, 1 ≤ t) (hK : ∀ t ∈ f.K, 1 ≤ t ∧ t ∉ fr.pass)
 (h : ∀ (a : Act) w M, Wf w M → (∀ c ∈ f.rs, c < fr.n → (A.slots c).den w M (a.tmps.getD c undef)) → (∀ x ∈ A.tags, x.1 ∈ f.rt → x.2.den w M x.1) → ∃ v w', (execOp a.eval o).run P w = .ok (.value v) w' ∧ f.left w M w' v) : xp P fr ops o A f := by
 refine ⟨hd, hsets, hS, hK, fun a w M wf _ hr ht => ?_⟩
 rw [if_pos (by simp [Region.wanted, hg])]
 obtain ⟨v, w', hv, hl⟩ := h a w M wf hr ht
 refine oy hv ?_
 exact ⟨v, rfl, hl⟩
theorem l7 {P : Program} {fr : Fr} {ops : Array Oper} {o : Oper} {A : As} {f : Fx} (hg : o.guard = none) (hd : f.d = o.dst) (hty : f.ty = Ty.any) (hsets : ∀ x ∈ f.sets, x.1 ∈ f.S ∨ x.1 ∈ f.K) (hS : ∀ t ∈ f.S, 1 ≤ t) (hK : ∀ t ∈ f.K, 1 ≤ t ∧ t ∉ fr.pass)
 (h : ∀ (a : Act) w M, Wf w M → (∀ c ∈ f.rs, c < fr.n → (A.slots c).den w M (a.tmps.getD c undef)) → (∀ x ∈ A.tags, x.1 ∈ f.rt → x.2.den w M x.1) → ∃ w', (execOp a.eval o).run P w = .ok .skip w' ∧ f.left w M w' undef) : xp P fr ops o A f := by
 refine ⟨hd, hsets, hS, hK, fun a w M wf _ hr ht => ?_⟩
 rw [if_pos (by simp [Region.wanted, hg])]
 obtain ⟨w', hv, hl⟩ := h a w M wf hr ht
 refine xY hv ?_
 exact ⟨undef, rfl, hl⟩
def jx (M : bC) (t : Nat) (g : Option Nat) : bC := fun b => if g = some b then some t else if M b = some t then none else M b
theorem wM {w w' : World} {M : bC} {t : Nat} {g : Option Nat} (wf : Wf w M) (hs : w.heap.size ≤ w'.heap.size) (hg : ∀ b, g = some b → b < w'.heap.size) : Wf w' (jx M t g) := by
 refine ⟨fun b u h => ?_, fun b b' u ht1 h h' => ?_⟩
 ·unfold jx at h
  split at h
  ·exact hg b (by assumption)
  split at h
  ·cases h
  exact Nat.lt_of_lt_of_le (wf.lt b u h) hs
 have key : ∀ c, jx M t g c = some (u + 1) → (g = some c ∧ t = u + 1) ∨ (M c = some (u + 1) ∧ t ≠ u + 1) := by
  intro c hc
  unfold jx at hc
  by_cases e : g = some c
  ·rw [if_pos e] at hc; injection hc with hc; exact .inl ⟨e, hc⟩
  rw [if_neg e] at hc
  by_cases e' : M c = some t
  ·rw [if_pos e'] at hc; cases hc
  rw [if_neg e'] at hc; exact .inr ⟨hc, fun ht => e' (by rw [ht]; exact hc)⟩
 rcases key b h with ⟨h1, h2⟩ | ⟨h1, h2⟩ <;> rcases key b' h' with ⟨h3, h4⟩ | ⟨h3, h4⟩
 ·rw [h1] at h3; injection h3
 ·exact absurd h2 h4
 ·exact absurd h4 h2
 exact wf.inj b b' u ht1 h1 h3
theorem xN {w w' : World} {M : bC} {t : Nat} {g : Option Nat} (hsz : w.heap.size ≤ w'.heap.size) (hos : w'.os = w.os) (htp : w'.tape = w.tape) (hout : w'.output = w.output)
 (hg : ∀ b, g = some b → b < w.heap.size → M b = some t) (hk : ∀ b, b < w.heap.size → M b ≠ some t → w'.heap[b]? = w.heap[b]?) (wf : Wf w M) : Le (· ∈ ([] : List Nat)) (· ∈ [t]) w M w' (jx M t g) := by
 refine ⟨hsz, hos, htp, hout, fun b hb hm => ⟨?_, hk b hb (by rw [hm]; simp)⟩, fun b u hm hu => ⟨?_, fun _ => hk b (wf.lt b u hm) (by rw [hm]; intro e; injection e with e; exact hu (by simp [e]))⟩⟩
 ·unfold jx
  split
  ·rename_i e; rw [hg b e hb] at hm; cases hm
  rw [if_neg (by rw [hm]; simp)]; exact hm
 have hne : M b ≠ some t := by rw [hm]; intro e; injection e with e; exact hu (by simp [e])
 unfold jx
 split
 ·rename_i e; exact absurd (hg b e (wf.lt b u hm)) hne
 first | exact hm | (rw [if_neg hne]; exact hm)
theorem jh {w : World} {M : bC} (wf : Wf w M) (o : Obj) (t : Nat) : Wf (w.alloc o) (jx M t (some w.heap.size)) ∧ Le (· ∈ ([] : List Nat)) (· ∈ [t]) w M (w.alloc o) (jx M t (some w.heap.size)) ∧ jx M t (some w.heap.size) w.heap.size = some t :=
 ⟨wM wf (by simp) (fun b e => by injection e with e; simp [← e]), xN (by simp) rfl rfl rfl (fun b e hb => by injection e with e; omega) (fun b hb _ => Below.heap_alloc w o b hb) wf, by simp [jx]⟩
theorem uT {w : World} {M : bC} (wf : Wf w M) (o : Obj) : Wf (w.alloc o) M ∧ Le (· ∈ ([] : List Nat)) (· ∈ ([] : List Nat)) w M (w.alloc o) M ∧ M w.heap.size = none :=
  ⟨⟨fun b t h => by have := wf.lt b t h; simp; omega, wf.inj⟩, ⟨by simp, rfl, rfl, rfl, fun b hb h => ⟨h, Below.heap_alloc w o b hb⟩, fun b t h _ => ⟨h, fun _ => Below.heap_alloc w o b (wf.lt b t h)⟩⟩, by
    cases h : M w.heap.size with
    | none => rfl
    | some t => have := wf.lt _ t h; omega⟩
theorem gq (w : World) (o : Obj) : (w.alloc o).heap[w.heap.size]? = some o := by
 show (w.heap.push o)[w.heap.size]? = some o
 simp
theorem tM {w : World} {M : bC} (wf : Wf w M) {cs : List Value} {T : TypeId} {l : List Ty} (h : cI w M l cs) : mq (w.alloc (.cells cs.toArray T)) M w.heap.size 0 l := by
 obtain ⟨wf', le, hn⟩ := uT wf (.cells cs.toArray T)
 refine ⟨hn, by simp, fun i t hi => ?_⟩
 obtain ⟨v, hv, hd⟩ := dW h i t hi
 exact ⟨v, by simp [hv], t.mono le (by intro _ _ h; cases h) (by intro _ _ h; cases h) hd⟩
theorem mN (w : World) (M : bC) : ∀ l : List Value, cI w M (l.map Ty.jU) l
  | [] => trivial
  | v :: l => ⟨j6 w M v, mN w M l⟩
section
variable {P : Program} {fr : Fr} {ops : Array Oper} {A : As} {rest : List Oper} {K : As → List (As × Fx) → Prop} {d : Nat} {t ty' : TypeId} {p : String} {e : Array Edge} [T : lD P]
theorem nC {t : Nat} {x : TI} (h : T.eN[t]? = some x) (hz : x.zero ≠ []) (w : World) : ∃ z : Value, (zeroValue t).run P w = .ok z w ∧ z.cells.toList = x.zero := by
  obtain ⟨i, _, hi, _, _, _, _, hze⟩ := cz h
  cases hiz : i.zero with
  | none => rw [hiz] at hze; exact absurd hze.symm hz
  | some z => rw [hiz] at hze; exact ⟨z, by simp [zeroValue, typeInfo, hi, hiz], hze⟩
theorem bu {ti : TI} (hT : T.eN[ty']? = some ti) (hz : ti.zero ≠ []) (hp : fr.pass.contains (d + 1) = false)
 (h : bA P fr ops rest (A.after { d := some d, ty := .ptr (d + 1) 0, K := [d + 1], sets := [(d + 1, .cells ty' (ti.zero.map Ty.jU))] }) fun A' l' => K A' ((A, { d := some d, ty := .ptr (d + 1) 0, K := [d + 1], sets := [(d + 1, .cells ty' (ti.zero.map Ty.jU))] }) :: l')) :
 bA P fr ops (⟨some d, .alloc ty', t, p, e, none⟩ :: rest) A K := by
 refine ⟨_, gC rfl rfl (by simp) (by simp) (by simp at hp ⊢; exact hp) fun a w M wf _ _ => ?_, h⟩
 obtain ⟨z, hz1, hz2⟩ := nC hT hz w
 obtain ⟨h1, h2, h3⟩ := jh wf (.cells z.cells ty') (d + 1)
 refine ⟨.pointer (some ⟨w.heap.size, 0, none⟩), w.alloc (.cells z.cells ty'), ?_, _, h1, h2, ⟨_, h3, rfl⟩, ?_⟩
 ·simp [execOp, Instr.alloc, newVar, newRow, newObj, Sem.run, hz1]
 intro x hx
 simp only [List.mem_singleton] at hx
 subst hx
 exact ⟨w.heap.size, z.cells, h3, gq _ _, by rw [hz2]; exact mN _ _ _⟩
theorem kZ {w : World} {M : bC} {tg b : Nat} {cs' : Array Value} {Tb : TypeId} (wf : Wf w M) (hb : M b = some tg) (w' : World) (hw : w' = { w with heap := w.heap.setIfInBounds b (.cells cs' Tb (0, 0)) }) :
 Wf w' M ∧ Le (· ∈ [tg]) (· ∈ ([] : List Nat)) w M w' M ∧ w'.heap[b]? = some (.cells cs' Tb (0, 0)) := by
 have hlt := wf.lt b tg hb
 subst hw
 refine ⟨⟨fun b' t h => by simpa using wf.lt b' t h, wf.inj⟩, ⟨by simp, rfl, rfl, rfl, fun b' hb' hm => ⟨hm, ?_⟩, fun b' t hm _ => ⟨hm, fun hs => ?_⟩⟩, by simp [hlt]⟩
 ·have : b ≠ b' := fun e => by rw [← e, hb] at hm; cases hm
  simp [Array.getElem?_setIfInBounds_ne this]
 have : b ≠ b' := fun e => hs (by rw [← e, hb] at hm; injection hm with hm; simp [hm])
 simp [Array.getElem?_setIfInBounds_ne this]
theorem mY {w : World} {b off : Nat} {cs : Array Value} {Tb : TypeId} (h : w.heap[b]? = some (.cells cs Tb (0, 0))) (v : Value) : w.setCell ⟨b, off, none⟩ v = { w with heap := w.heap.setIfInBounds b (.cells (cs.setIfInBounds off v) Tb (0, 0)) } := by
 unfold World.setCell
 congr 1
 apply Array.ext_getElem?
 intro i
 rw [Array.getElem?_modify]
 by_cases e : b = i
 ·subst e
  obtain ⟨hlt, hv⟩ := Array.getElem?_eq_some_iff.1 h
  simp [hv, hlt]
 simp [e, Array.getElem?_setIfInBounds_ne e]
theorem su {w : World} {M : bC} {l : List Ty} {vs : List Value} {i : Nat} {ty : Ty} {v : Value} (h : cI w M l vs) (hv : ty.den w M v) : cI w M (l.set i ty) (vs.set i v) := by
 have hl := cW h
 refine fm (by simp [hl]) fun j t hj => ?_
 rw [List.getElem?_set] at hj
 split at hj
 ·rename_i e
  subst e
  split at hj
  ·injection hj with hj
   subst hj
   exact ⟨v, by rw [List.getElem?_set]; simp; omega, hv⟩
  cases hj
 rename_i e
 obtain ⟨u, hu, hd⟩ := dW h j t hj
 exact ⟨u, by rw [List.getElem?_set]; simp [e, hu], hd⟩
theorem cv {x y : Operand} {tg off Tb : Nat} {l : List Ty} {ti : TI} {ty : Ty} (hx : A.op fr x = .ptr tg off) (hc : A.tag tg = some (.cells Tb l)) (h1 : gE tg) (hT : T.eN[ty']? = some ti) (hsz : ti.size = 1) (hy : A.op fr y = ty) (ho : ty.one = true) (hoff : off < l.length)
 (hdl : k7 (bY l) [tg] = true) (hdt : k7 ty.cdeps [tg] = true) {l' : List Ty} (hl : l.set off ty = l')
 (h : bA P fr ops rest (A.after { d := none, S := [tg], sets := [(tg, .cells Tb l')], rs := cJ x ++ cJ y, rt := [tg] }) fun A' l'' => K A' ((A, { d := none, S := [tg], sets := [(tg, .cells Tb l')], rs := cJ x ++ cJ y, rt := [tg] }) :: l'')) :
 bA P fr ops (⟨none, .store ty' x y, t, p, e, none⟩ :: rest) A K := by
 subst hl
 refine ⟨_, l7 rfl rfl rfl (by simp) (by simpa using h1.1) (by simp) fun a w M wf hr ht => ?_, h⟩
 obtain ⟨hdx, hdy⟩ := op2 hr
 rw [hx] at hdx; rw [hy] at hdy
 obtain ⟨b, hb, ex⟩ := hdx
 obtain ⟨b', cs, hb', hh, hd⟩ := ht _ (cj hc) (by simp)
 obtain ⟨u, rfl⟩ : ∃ u, tg = u + 1 := ⟨tg - 1, by omega⟩
 have := wf.inj b b' u (by omega) hb hb'
 subst this
 have hone := ty.isOne ho hdy
 have hlen := cW hd
 have hcells : (a.eval y).cells = #[a.eval y] := by
  cases hv : a.eval y <;> first | rfl | (rw [hv] at hone; simp [Value.oneCell'] at hone)
 have hcell : w.cell? ⟨b, off, none⟩ = some (cs[off]'(by simp at hlen; omega)) := by simp [World.cell?, hh]
 have hfz : w.frozen? ⟨b, off, none⟩ = false := by simp [World.frozen?, hh]
 obtain ⟨h1', h2', h3'⟩ := kZ wf hb _ (mY hh (off := off) (a.eval y))
 refine ⟨w.setCell ⟨b, off, none⟩ (a.eval y), ?_, M, h1', h2', trivial, ?_⟩
 ·have hst := run_store P w ⟨b, off, none⟩ (a.eval y) .plain hone
  rw [hcell] at hst
  simp only [hfz] at hst
  simp [execOp, Instr.storeAt, Instr.sureAddr, ex, storeVar, hcells, dO hT, hsz, storeCells, hst, Addr.add]
 intro z hz
 simp only [List.mem_singleton] at hz
 subst hz
 refine ⟨b, _, hb, h3', ?_⟩
 rw [Array.toList_setIfInBounds]
 refine su (bl h2' (by intro _ _ h; cases h) (gN hdl) hd) (ty.mono h2' (by intro _ _ h; cases h) (gN hdt) hdy)
theorem jG {w : World} {b : Nat} {Tb : TypeId} : ∀ (vs pre : List Value) (cs : Array Value), w.heap[b]? = some (.cells cs Tb (0, 0)) → cs.size = pre.length + vs.length → cs.toList.take pre.length = pre → (∀ v ∈ vs, v.oneCell' = true) →
    (storeCells ⟨b, 0, none⟩ vs pre.length).run P w = .ok () { w with heap := w.heap.setIfInBounds b (.cells (pre ++ vs).toArray Tb (0, 0)) }
  | [], pre, cs, hh, hs, hp, _ => by
    have _ := T
    have e : (pre ++ []).toArray = cs := by
      apply Array.ext'
      simp only [List.append_nil]
      rw [← hp, List.take_of_length_le]
      simp at hs ⊢; omega
    rw [e]
    have hw : ({ w with heap := w.heap.setIfInBounds b (.cells cs Tb (0, 0)) } : World) = w := by
      obtain ⟨hlt, hv⟩ := Array.getElem?_eq_some_iff.1 hh
      have : w.heap.setIfInBounds b (.cells cs Tb (0, 0)) = w.heap := by
        apply Array.ext_getElem?
        intro i
        by_cases e : b = i
        · subst e; simp [hlt, hv]
        · simp [Array.getElem?_setIfInBounds_ne e]
      rw [this]
    rw [hw]
    simp [storeCells]
  | v :: vs, pre, cs, hh, hs, hp, h1 => by
    have hlt : pre.length < cs.size := by rw [hs]; simp
    have hb : b < w.heap.size := (Array.getElem?_eq_some_iff.1 hh).1
    have hcell : w.cell? ⟨b, 0 + pre.length, none⟩ = some cs[pre.length] := by simp [World.cell?, hh]
    have hfz : w.frozen? ⟨b, 0 + pre.length, none⟩ = false := by simp [World.frozen?, hh]
    have hst := run_store P w ⟨b, 0 + pre.length, none⟩ v .plain (h1 v List.mem_cons_self)
    rw [hcell] at hst
    simp only [hfz] at hst
    have hadd : Addr.add ⟨b, 0, none⟩ pre.length = ⟨b, 0 + pre.length, none⟩ := Addr.add_lit _ _ _
    simp only [storeCells, hadd, Sem.run_bind, hst, if_false, Bool.false_eq_true, Result.andThen_ok]
    rw [mY hh]
    have ih := jG (w := { w with heap := w.heap.setIfInBounds b (.cells (cs.setIfInBounds (0 + pre.length) v) Tb (0, 0)) }) (b := b) (Tb := Tb) vs (pre ++ [v]) (cs.setIfInBounds (0 + pre.length) v)
      (by simp [hb]) (by simp at hs ⊢; omega) (by
        rw [Array.toList_setIfInBounds, List.length_append, List.length_singleton, Nat.zero_add]
        rw [List.take_succ_eq_append_getElem (by simpa using hlt)]
        simp [List.take_set_of_le, hp]) (fun u hu => h1 u (List.mem_cons_of_mem _ hu))
    rw [List.length_append, List.length_singleton] at ih
    rw [ih]
    simp
theorem bh {x y : Operand} {tg Tb : Nat} {l l' : List Ty} {ti : TI} (hx : A.op fr x = .ptr tg 0) (hc : A.tag tg = some (.cells Tb l)) (h1 : gE tg) (hT : T.eN[ty']? = some ti) (hy : A.op fr y = .agg l') (hsz : ti.size = l'.length) (hlen : l.length = l'.length) (ho : l'.all Ty.one = true) (hdt : k7 (bY l') [tg] = true)
 (h : bA P fr ops rest (A.after { d := none, S := [tg], sets := [(tg, .cells Tb l')], rs := cJ x ++ cJ y, rt := [tg] }) fun A' l'' => K A' ((A, { d := none, S := [tg], sets := [(tg, .cells Tb l')], rs := cJ x ++ cJ y, rt := [tg] }) :: l'')) :
 bA P fr ops (⟨none, .store ty' x y, t, p, e, none⟩ :: rest) A K := by
 refine ⟨_, l7 rfl rfl rfl (by simp) (by simpa using h1.1) (by simp) fun a w M wf hr ht => ?_, h⟩
 obtain ⟨hdx, hdy⟩ := op2 hr
 rw [hx] at hdx; rw [hy] at hdy
 obtain ⟨b, hb, ex⟩ := hdx
 obtain ⟨vs, ey, hvs⟩ := hdy
 obtain ⟨b', cs, hb', hh, hd⟩ := ht _ (cj hc) (by simp)
 obtain ⟨u, rfl⟩ : ∃ u, tg = u + 1 := ⟨tg - 1, by omega⟩
 have := wf.inj b b' u (by omega) hb hb'
 subst this
 have hl1 := cW hd
 have hl2 := cW hvs
 obtain ⟨h1', h2', h3'⟩ := kZ (cs' := vs) (Tb := Tb) wf hb _ rfl
 have hones : ∀ v ∈ vs.toList, v.oneCell' = true := fun v hv => by
  obtain ⟨i, hi, hvi⟩ := List.getElem_of_mem hv
  have hlt : i < l'.length := by omega
  obtain ⟨u', hu', hdu⟩ := dW hvs i l'[i] (List.getElem?_eq_getElem hlt)
  rw [List.getElem?_eq_getElem hi, hvi] at hu'
  injection hu' with hu'
  subst hu'
  exact (l'[i]).isOne (List.all_eq_true.1 ho _ (List.getElem_mem hlt)) hdu
 refine ⟨_, ?_, M, h1', h2', trivial, ?_⟩
 ·have hst := jG (P := P) (w := w) (b := b) (Tb := Tb) vs.toList [] cs hh (by simp at hl1 hl2 ⊢; omega) (by simp) hones
  have hsz' : vs.size = ti.size := by simp at hl2; omega
  simp only [List.length_nil, List.nil_append] at hst
  simp [execOp, Instr.storeAt, Instr.sureAddr, ex, ey, storeVar, Value.cells, dO hT, hsz', hst]
 intro z hz
 simp only [List.mem_singleton] at hz
 subst hz
 exact ⟨b, vs, hb, h3', bl h2' (by intro _ _ h; cases h) (gN hdt) hvs⟩
end
section
variable {P : Program} {fr : Fr} {ops : Array Oper} {A : As} {rest : List Oper} {K : As → List (As × Fx) → Prop} {d : Nat} {t ty' : TypeId} {p : String} {e : Array Edge}
theorem bD {x : Operand} {l : List Ty} (hx : A.op fr x = .agg l)
 (h : bA P fr ops rest (A.set d (.pp l)) fun A' l' => K A' ((A, { d := some d, ty := .pp l, rs := cJ x }) :: l')) : bA P fr ops (⟨some d, .box ty' x, t, p, e, none⟩ :: rest) A K := by
 refine ⟨_, gC (f := { d := some d, ty := .pp l, rs := cJ x }) rfl rfl (by simp) (by simp) (by simp) fun a w M wf hr _ => ?_, h⟩
 have hd := cV (x := x) (fun _ h => h) hr
 rw [hx] at hd
 obtain ⟨cs, ex, hds⟩ := hd
 obtain ⟨h1, h2, _⟩ := uT wf (.cells cs ty')
 refine ⟨.pointer (some ⟨w.heap.size, 0, none⟩), w.alloc (.cells cs ty'), ?_, M, h1, h2, ⟨_, 0, rfl, ?_⟩, by simp⟩
 ·simp [execOp, Instr.box, newVar, newRow, newObj, Sem.run, ex, Value.cells]
 exact tM (T := ty') wf hds
theorem gM {x : Operand} {ty : Ty} (hx : A.op fr x = ty) (h1 : ty.one = true)
 (h : bA P fr ops rest (A.set d (.pp [ty])) fun A' l' => K A' ((A, { d := some d, ty := .pp [ty], rs := cJ x }) :: l')) : bA P fr ops (⟨some d, .box ty' x, t, p, e, none⟩ :: rest) A K := by
 refine ⟨_, gC (f := { d := some d, ty := .pp [ty], rs := cJ x }) rfl rfl (by simp) (by simp) (by simp) fun a w M wf hr _ => ?_, h⟩
 have hd := cV (x := x) (fun _ h => h) hr
 rw [hx] at hd
 have hone := ty.isOne h1 hd
 have hcells : (a.eval x).cells = #[a.eval x] := by
  cases hv : a.eval x <;> first | rfl | (rw [hv] at hone; simp [Value.oneCell'] at hone)
 obtain ⟨h1, h2, _⟩ := uT wf (.cells #[a.eval x] ty')
 refine ⟨.pointer (some ⟨w.heap.size, 0, none⟩), w.alloc (.cells #[a.eval x] ty'), ?_, M, h1, h2, ⟨_, 0, rfl, ?_⟩, by simp⟩
 ·simp [execOp, Instr.box, newVar, newRow, newObj, Sem.run, hcells]
 exact tM (T := ty') (cs := [a.eval x]) wf ⟨hd, trivial⟩
theorem zu {x : Operand} {l : List Ty} (hx : A.op fr x = .agg l) (hp : fr.pass.contains (d + 1) = false) (hdp : k7 (cF l) [d + 1] = true) 
 (h : bA P fr ops rest (A.after { d := some d, ty := .ptr (d + 1) 0, K := [d + 1], sets := [(d + 1, .cells ty' l)], rs := cJ x }) fun A' l' => K A' ((A, { d := some d, ty := .ptr (d + 1) 0, K := [d + 1], sets := [(d + 1, .cells ty' l)], rs := cJ x }) :: l')) :
 bA P fr ops (⟨some d, .box ty' x, t, p, e, none⟩ :: rest) A K := by
 refine ⟨_, gC rfl rfl (by simp) (by simp) (by simp at hp ⊢; exact hp) fun a w M wf hr _ => ?_, h⟩
 have hd := cV (x := x) (fun _ h => h) hr
 rw [hx] at hd
 obtain ⟨cs, ex, hds⟩ := hd
 obtain ⟨h1, h2, h3⟩ := jh wf (.cells cs ty') (d + 1)
 refine ⟨.pointer (some ⟨w.heap.size, 0, none⟩), w.alloc (.cells cs ty'), ?_, _, h1, h2, ⟨_, h3, rfl⟩, ?_⟩
 ·simp [execOp, Instr.box, newVar, newRow, newObj, Sem.run, ex, Value.cells]
 intro x hx
 simp only [List.mem_singleton] at hx
 subst hx
 exact ⟨w.heap.size, cs, h3, gq _ _, bl h2 (gN hdp) (by intro _ _ h; cases h) hds⟩
theorem dK {f : FuncId} {xs : List Operand} {l : List Ty} (hx : oW A fr xs = l)
 (h : bA P fr ops rest (A.set d (.jw f l)) fun A' l' => K A' ((A, { d := some d, ty := .jw f l, rs := xs.flatMap cJ }) :: l')) : bA P fr ops (⟨some d, .makeFunc (.func f) #[] xs.toArray, t, p, e, none⟩ :: rest) A K :=
 bJ (bT rfl rfl fun a w M _ hr _ => by
  have hv : cI w M l (xs.map a.eval) := hx ▸ iD hr fun x hx c hc => List.mem_flatMap.2 ⟨x, hx, hc⟩
  exact ⟨.func (.func f) #[] (xs.map a.eval).toArray, by simp [execOp, Instr.makeFunc], _, rfl, by simpa using hv⟩) h
end
end Go.T
namespace Go.T
open Go Go.RowKit
def fu {α : Type} (E : El α) (T tg : Nat) (xs : List α) (w : World) (M : bC) (v : Value) : Prop :=
  ∃ cs, w.ownsRow 0 T E.size v xs.length cs ∧ cI w M (xs.flatMap E.tys) cs ∧ ∀ g, v.ownBlock = some g → M g = some tg
theorem tJ {w w' : World} {T size n : Nat} {v : Value} {cs : List Value} (h : w.ownsRow 0 T size v n cs) (hk : ∀ g, v.ownBlock = some g → w'.heap[g]? = w.heap[g]?) : w'.ownsRow 0 T size v n cs := by
 refine ⟨h.1, ?_⟩
 rcases h.2 with h | ⟨g, cap, cur, hv, h0, hh, rest⟩
 ·exact .inl h
 exact .inr ⟨g, cap, cur, hv, h0, (hk g (by rw [hv]; rfl)).trans hh, rest⟩
def Ty.row {α : Type} (E : El α) (T tg : Nat) (xs : List α) : Ty :=
  ⟨fu E T tg xs, [tg], [tg], fun le hk hs ⟨cs, h1, h2, h3⟩ =>
    ⟨cs, tJ h1 fun g hg => (le.own g tg (h3 g hg) (hk tg (by simp))).2 (hs tg (by simp)),
     bl le (by rw [E.cY]; intro _ h; cases h) (by rw [E.cS]; intro _ h; cases h) h2,
     fun g hg => (le.own g tg (h3 g hg) (hk tg (by simp))).1⟩, true, fun _ ⟨cs, h1, _⟩ => by
      rcases h1.2 with ⟨rfl, _⟩ | ⟨_, _, _, rfl, _⟩ <;> rfl⟩
theorem Ty.gZ {α : Type} {E : El α} {T tg : Nat} : (Ty.ex (.slice none 0 0)).Sub (Ty.row E T tg []) := by
 intro w M v h
 have h : v = .slice none 0 0 := h
 subst h
 exact ⟨[], ⟨by simp, .inl ⟨rfl, rfl⟩⟩, trivial, fun g hg => by simp [Value.ownBlock] at hg⟩
theorem Ty.eU {α : Type} {E : El α} {T tg : Nat} {xs ys : List α} (h : xs = ys) : (Ty.row E T tg xs).Sub (Ty.row E T tg ys) := h ▸ Ty.aF _
theorem Ty.yA {α : Type} {E : El α} : (Ty.ex (.slice none 0 0)).Sub (Ty.sl E []) := by
 intro w M v h
 have h : v = .slice none 0 0 := h
 subst h
 exact ⟨none, 0, rfl, Nat.le_refl _, by simp [maxLen], fun h => absurd h (by simp)⟩
theorem jm {w : World} {M : bC} {l l' : List Ty} {vs vs' : List Value} (h : cI w M l vs) (h' : cI w M l' vs') : cI w M (l ++ l') (vs ++ vs') := fB h h'
theorem c6 {α : Type} (E : El α) : ∀ xs : List α, (xs.flatMap E.tys).length = xs.length * E.size
  | [] => by simp
  | x :: xs => by rw [List.flatMap_cons, List.length_append, E.len, c6 E xs, List.length_cons, Nat.succ_mul, Nat.add_comm]
theorem lY {α : Type} (E : El α) (xs : List α) : ∀ t ∈ xs.flatMap E.tys, t.one = true := by
 intro t ht
 simp only [List.mem_flatMap] at ht
 obtain ⟨x, _, hx⟩ := ht
 exact List.all_eq_true.1 (E.ones x) t hx
theorem kO {w : World} {M : bC} {l : List Ty} {vs : List Value} (h : cI w M l vs) (ho : ∀ t ∈ l, t.one = true) : ∀ v ∈ vs, v.oneCell' = true := by
 intro v hv
 obtain ⟨i, hi, rfl⟩ := List.getElem_of_mem hv
 have hl := cW h
 have hlt : i < l.length := by omega
 obtain ⟨u, hu, hd⟩ := dW h i l[i] (List.getElem?_eq_getElem hlt)
 rw [List.getElem?_eq_getElem hi] at hu
 injection hu with hu
 rw [hu]
 exact (l[i]).isOne (ho _ (List.getElem_mem hlt)) hd
section
variable {P : Program} {fr : Fr} {ops : Array Oper} {A : As} {rest : List Oper} {K : As → List (As × Fx) → Prop} {d : Nat} {t ty' : TypeId} {p : String} {e : Array Edge} [T : lD P]
theorem wk {α : Type} {E : El α} {w : World} {M : bC} {st el tg : Nat} {ty : TypeId} {ti te : TI} {xs ys : List α} {v y : Value} (wf : Wf w M) (hT : T.eN[st]? = some ti) (hk : ti.k = .slice el) (hE : T.eN[el]? = some te) (hs : te.size = E.size) (hz : te.zero.length = te.size) (h0 : 0 < te.size)
    (hx : fu E el tg xs w M v) (hy : lN E ys w M y) (hlen : (xs.length + ys.length) * te.bytes ≤ 140737488355328) (hlen' : xs.length + ys.length ≤ 9223372036854775807) :
    ∃ v' w' M', (Builtin.append_ #[st, st] ty #[v, y]).run P w = .ok v' w' ∧ Wf w' M' ∧ Le (· ∈ ([] : List Nat)) (· ∈ [tg]) w M w' M' ∧ fu E el tg (xs ++ ys) w' M' v' := by
  obtain ⟨_, D, _, hD, hkd, _⟩ := cz hT
  rw [hk] at hkd
  cases D <;> simp only [TK.of, reduceCtorEq, TK.slice.injEq] at hkd
  subst hkd
  rename_i el
  obtain ⟨i, _, hi, _, _, hsz, hby, hze⟩ := cz hE
  obtain ⟨z, hiz, hzc⟩ : ∃ z, i.zero = some z ∧ z.cells.size = i.size := by
    cases hiz : i.zero with
    | none => rw [hiz] at hze; rw [← hze] at hz; simp at hz; omega
    | some z => rw [hiz] at hze; exact ⟨z, rfl, by simp at hze; rw [hsz, ← hz, ← hze]; simp⟩
  obtain ⟨cs, hown, hd, hM⟩ := hx
  obtain ⟨ad, c, rfl, hc1, hc2, hp⟩ := hy
  have hfin : ∀ v' w' (news : List Value), w'.ownsRow 0 el i.size v' (xs.length + ys.length) (cs ++ news) → w.grownBy w' v.ownBlock → (v'.ownBlock = v.ownBlock ∨ v'.ownBlock = some w.heap.size) → cI w M (ys.flatMap E.tys) news →
      ∃ M', Wf w' M' ∧ Le (· ∈ ([] : List Nat)) (· ∈ [tg]) w M w' M' ∧ fu E el tg (xs ++ ys) w' M' v' := by
    intro v' w' news h1 h2 h3 h4
    have hb : ∀ b, v'.ownBlock = some b → b < w'.heap.size := by
      intro b hb
      rcases h1.2 with ⟨rfl, _⟩ | ⟨g, cap, cur, rfl, _, hh, _⟩
      · simp [Value.ownBlock] at hb
      · simp [Value.ownBlock] at hb; subst hb; exact (Array.getElem?_eq_some_iff.1 hh).1
    have hle := xN (t := tg) (g := v'.ownBlock) h2.size h2.os h2.tape h2.output (fun b hb hlt => by
        rcases h3 with e | e
        · exact hM b (e ▸ hb)
        · rw [e] at hb; injection hb with hb; omega) (fun b hlt hne => h2.block b hlt (fun e => hne (hM b e.symm))) wf
    refine ⟨jx M tg v'.ownBlock, wM wf h2.size hb, hle, cs ++ news, by rw [List.length_append, ← hs, ← hsz]; exact h1, ?_, fun g hg => by simp [jx, hg]⟩
    rw [List.flatMap_append]
    exact jm (bl hle (by rw [E.cY]; intro _ h; cases h) (by rw [E.cS]; intro _ h; cases h) hd) (bl hle (by rw [E.cY]; intro _ h; cases h) (by rw [E.cS]; intro _ h; cases h) h4)
  have hown' : w.ownsRow 0 el i.size v xs.length cs := by rw [hsz, hs]; exact hown
  by_cases hys : ys = []
  · subst hys
    cases ad with
    | none =>
      have hrun : (Builtin.append_ #[st, st] ty #[v, .slice none 0 c]).run P w = .ok v w := by
        rcases hown.2 with ⟨rfl, _⟩ | ⟨g, cap, cur, rfl, _, _, hnc, _⟩
        · simp [Builtin.append_, run_underlying hD, sizeOf, typeInfo, hi, Builtin.lenOf, Builtin.firstCells]
        · simp [Builtin.append_, run_underlying hD, sizeOf, typeInfo, hi, Builtin.lenOf, Builtin.firstCells, hnc, storeCells]
      obtain ⟨M', h1, h2, h3⟩ := hfin v w [] (by simpa using hown') (World.grownBy.refl w _) (.inl rfl) trivial
      exact ⟨v, w, M', hrun, h1, h2, h3⟩
    | some a =>
      obtain ⟨v', w', hrun, h2, h3, _, h5⟩ := run_append_own_at (P := P) w 0 st ty el i z i.size i.bytes hD hi hiz rfl rfl hzc (by omega) v xs.length cs hown' a 0 c [] (by simp) (by simp) (by simp) (by simp only [maxLen]; simp at hlen'; omega) (by rw [hby]; simpa using hlen) (Nat.zero_le _)
      obtain ⟨M', h1', h2', h3'⟩ := hfin v' w' [] h2 h3 h5 trivial
      exact ⟨v', w', M', hrun, h1', h2', h3'⟩
  · have hpos : 0 < ys.length := List.length_pos_iff.2 hys
    obtain ⟨b, off, rfl, hp'⟩ := hp hpos
    obtain ⟨news, hn1, hn2, hn3⟩ := m6 hp' _ (Nat.le_refl _)
    rw [List.take_length] at hn2
    obtain ⟨v', w', hrun, h2, h3, _, h5⟩ := run_append_own_at (P := P) w 0 st ty el i z i.size i.bytes hD hi hiz rfl rfl hzc (by omega) v xs.length cs hown' ⟨b, off, none⟩ ys.length c news (by rw [hn1, c6, hsz, hs])
      (fun j u hj => by rw [Addr.add_lit]; exact hn3 j u hj) (kO hn2 (lY E ys)) (by simp only [maxLen]; omega) (by rw [hby]; exact hlen) (Nat.zero_le _)
    obtain ⟨M', h1', h2', h3'⟩ := hfin v' w' news h2 h3 h5 hn2
    exact ⟨v', w', M', hrun, h1', h2', h3'⟩
theorem wQ {α : Type} {E : El α} {x y : Operand} {st el tg : Nat} {ti te : TI} {xs ys : List α} (hx : (A.op fr x).Sub (.row E el tg xs)) (hy : A.op fr y = .sl E ys) (h1 : 1 ≤ tg) (hp : fr.pass.contains tg = false) (hT : T.eN[st]? = some ti) (hk : ti.k = .slice el) (hE : T.eN[el]? = some te) (hs : te.size = E.size) (hz : te.zero.length = te.size) (h0 : 0 < te.size)
 (hlen : (xs.length + ys.length) * te.bytes ≤ 140737488355328) (hlen' : xs.length + ys.length ≤ 9223372036854775807) :
 xp P fr ops ⟨some d, .call ⟨.builtin .append, #[x, y], #[st, st]⟩, t, p, e, none⟩ A { d := some d, ty := .row E el tg (xs ++ ys), K := [tg], rs := cJ x ++ cJ y } := by
 refine gC rfl rfl (by simp) (by simp) (by simp at hp ⊢; exact ⟨h1, hp⟩) fun a w M wf hr _ => ?_
 obtain ⟨hdx, hdy⟩ := op2 hr
 rw [hy] at hdy
 obtain ⟨v', w', M', hrun, h1', h2', h3'⟩ := wk (P := P) (ty := t) wf hT hk hE hs hz h0 (hx _ _ _ hdx) hdy hlen hlen'
 exact ⟨v', w', by simp [execOp, resolve, invoke, builtin, hrun], M', h1', h2', h3', by simp⟩
theorem dj {α : Type} {E : El α} {x y : Operand} {st el tg : Nat} {ti te : TI} {xs ys : List α} (hx : A.op fr x = .row E el tg xs) (hy : A.op fr y = .sl E ys) (h1 : 1 ≤ tg) (hp : fr.pass.contains tg = false) (hT : T.eN[st]? = some ti) (hk : ti.k = .slice el) (hE : T.eN[el]? = some te) (hs : te.size = E.size) (hz : te.zero.length = te.size) (h0 : 0 < te.size)
 (hlen : (xs.length + ys.length) * te.bytes ≤ 140737488355328) (hlen' : xs.length + ys.length ≤ 9223372036854775807)
 (h : bA P fr ops rest (A.after { d := some d, ty := .row E el tg (xs ++ ys), K := [tg], rs := cJ x ++ cJ y }) fun A' l' => K A' ((A, { d := some d, ty := .row E el tg (xs ++ ys), K := [tg], rs := cJ x ++ cJ y }) :: l')) :
 bA P fr ops (⟨some d, .call ⟨.builtin .append, #[x, y], #[st, st]⟩, t, p, e, none⟩ :: rest) A K :=
 ⟨_, wQ (hx ▸ Ty.aF _) hy h1 hp hT hk hE hs hz h0 hlen hlen', h⟩
theorem vl {α : Type} {E : El α} {x y : Operand} {k k' : IntKind} {n : Int} {el : Nat} {ti te : TI} (hx : A.op fr x = .int k 0) (hy : A.op fr y = .int k' n) (hT : T.eN[ty']? = some ti) (hk : ti.k = .slice el) (hE : T.eN[el]? = some te) (hs : te.size = E.size) (hz : te.zero.length = te.size) (hzp : 0 < te.size) (hp : fr.pass.contains (d + 1) = false)
    (hn : 0 ≤ n) (hlen : (te.bytes : Int) * n ≤ 281474976710656) (hlen' : n ≤ 9223372036854775807)
    (h : bA P fr ops rest (A.after { d := some d, ty := .row E el (d + 1) [], K := [d + 1], rs := cJ x ++ cJ y }) fun A' l' => K A' ((A, { d := some d, ty := .row E el (d + 1) [], K := [d + 1], rs := cJ x ++ cJ y }) :: l')) :
    bA P fr ops (⟨some d, .makeSlice ty' x y, t, p, e, none⟩ :: rest) A K := by
  refine ⟨_, gC rfl rfl (by simp) (by simp) (by simp at hp ⊢; exact hp) fun a w M wf hr _ => ?_, h⟩
  obtain ⟨hdx, hdy⟩ := op2 hr
  rw [hx] at hdx; rw [hy] at hdy
  have ex : a.eval x = .int k 0 := hdx
  have ey : a.eval y = .int k' n := hdy
  obtain ⟨_, D, _, hD, hkd, _⟩ := cz hT
  rw [hk] at hkd
  cases D <;> simp only [TK.of, reduceCtorEq, TK.slice.injEq] at hkd
  rename_i el0
  have hel : el0 = el := hkd
  subst hel
  obtain ⟨i, _, hi, _, _, hsz, hby, hze⟩ := cz hE
  obtain ⟨z, hiz⟩ : ∃ z, i.zero = some z := by
    cases hiz : i.zero with
    | none => rw [hiz] at hze; rw [← hze] at hz; simp at hz; omega
    | some z => exact ⟨z, rfl⟩
  have hrun := run_make (P := P) w ty' _ i z hD hi hiz k k' 0 n (Int.le_refl _) hn (by rw [hby]; exact hlen) hlen'
  obtain ⟨h1, h2, h3⟩ := jh wf (.cells (madeCells z.cells (n.toNat * i.size)) el0) (d + 1)
  refine ⟨_, _, by simp [execOp, ex, ey, hrun], _, h1, h2, ⟨[], ⟨by simp, .inr ⟨w.heap.size, n.toNat, _, rfl, Nat.zero_le _, gq _ _, Nat.zero_le _, by simp only [maxLen]; omega, ?_, by simp⟩⟩, trivial, ?_⟩, by simp⟩
  · simp [madeCells, hsz, hs]
  · intro g hg
    simp [Value.ownBlock] at hg
    subst hg; exact h3
theorem MS {α : Type} {E : El α} {xs : List α} {w : World} {M : bC} {ad : Option Addr} {c lo hi : Nat} (hc : xs.length ≤ c) (hc2 : c ≤ maxLen) (hp : 0 < xs.length → ∃ b off, ad = some ⟨b, off, none⟩ ∧ mq w M b off (xs.flatMap E.tys)) (h1 : lo ≤ hi) (h2 : hi ≤ xs.length) :
 lN E ((xs.take hi).drop lo) w M (.slice (if c = lo then ad else ad.map (·.add (lo * E.size))) (hi - lo) (c - lo)) := by
 have hl : ((xs.take hi).drop lo).length = hi - lo := by rw [List.length_drop, List.length_take, Nat.min_eq_left h2]
 refine ⟨_, c - lo, by rw [hl], by rw [hl]; omega, Nat.le_trans (Nat.sub_le _ _) hc2, fun hpos => ?_⟩
 have hlt : lo < hi := by rw [hl] at hpos; omega
 obtain ⟨b, off, rfl, hp'⟩ := hp (by omega)
 refine ⟨b, off + lo * E.size, by rw [if_neg (by omega)]; exact congrArg some (Addr.add_lit _ _ _), ?_⟩
 have h3 := EG ((hi - lo) * E.size) (wE (lo * E.size) hp')
 have e : ((xs.take hi).drop lo).flatMap E.tys = ((xs.flatMap E.tys).drop (lo * E.size)).take ((hi - lo) * E.size) := by
  have e1 : xs.flatMap E.tys = (xs.take lo).flatMap E.tys ++ (((xs.take hi).drop lo).flatMap E.tys ++ (xs.drop hi).flatMap E.tys) := by
   rw [← List.flatMap_append, ← List.flatMap_append]
   congr 1
   have : xs.take lo = (xs.take hi).take lo := by rw [List.take_take, Nat.min_eq_left h1]
   rw [this, ← List.append_assoc, List.take_append_drop, List.take_append_drop]
  have L1 : ((xs.take lo).flatMap E.tys).length = lo * E.size := by rw [c6, List.length_take, Nat.min_eq_left (by omega)]
  have L2 : (((xs.take hi).drop lo).flatMap E.tys).length = (hi - lo) * E.size := by rw [c6, hl]
  rw [e1, List.drop_left' L1, List.take_left' L2]
 rw [e]; exact h3
end
end Go.T
namespace Go.T
open Go Go.RowKit
def g7 {α : Type} (E : El α) (xs : List α) (w : World) (M : bC) (v : Value) : Prop := ∃ cs : Array Value, v = .agg cs ∧ cI w M (xs.flatMap E.tys) cs.toList
def Ty.arr {α : Type} (E : El α) (xs : List α) : Ty :=
  { den := g7 E xs, mono := fun le _ _ ⟨cs, e, h⟩ => ⟨cs, e, bl le (by rw [E.cY]; intro _ h; cases h) (by rw [E.cS]; intro _ h; cases h) h⟩ }
section
variable {P : Program} {fr : Fr} {ops : Array Oper} {A : As} {rest : List Oper} {K : As → List (As × Fx) → Prop} {d : Nat} {t ty' : TypeId} {p : String} {e : Array Edge} [T : lD P]
theorem F2 {α : Type} {E : El α} {w : World} {M : bC} {st el : Nat} {ti te : TI} {xs : List α} {v : Value} (hT : T.eN[st]? = some ti) (hk : ti.k = .slice el) (hE : T.eN[el]? = some te) (hs : te.size = E.size) (hx : lN E xs w M v)
 {lo hi : Nat} {ol oh : Option Value} (hlo : (ol = none ∧ lo = 0) ∨ ∃ k : IntKind, ol = some (.int k lo)) (hhi : (oh = none ∧ hi = xs.length) ∨ ∃ k : IntKind, oh = some (.int k hi)) (h1 : lo ≤ hi) (h2 : hi ≤ xs.length) :
 ∃ v', (Instr.sliceAt st v ol oh none).run P w = .ok v' w ∧ lN E ((xs.take hi).drop lo) w M v' := by
 obtain ⟨_, D, _, hD, hkd, _⟩ := cz hT
 rw [hk] at hkd
 cases D <;> simp only [TK.of, reduceCtorEq, TK.slice.injEq] at hkd
 subst hkd
 obtain ⟨ad, c, rfl, hc, hc2, hp⟩ := hx
 have hsz := fun w => dO (P := P) hE w
 refine ⟨_, ?_, MS hc hc2 hp h1 h2⟩
 have hic : hi ≤ c := by omega
 rcases hlo with ⟨rfl, rfl⟩ | ⟨k, rfl⟩ <;> rcases hhi with ⟨rfl, rfl⟩ | ⟨k', rfl⟩ <;>
  simp [Instr.sliceAt, Instr.slice, run_underlying hD, Instr.sliceBounds, Instr.sliceBound, asIntOf, hsz, hs, hic, h1]
theorem CZ {α : Type} {E : El α} {x y : Operand} {k : IntKind} {el : Nat} {ti te : TI} {xs : List α} {hi : Nat} (hx : A.op fr x = .sl E xs) (hy : A.op fr y = .int k hi) (hT : T.eN[ty']? = some ti) (hk : ti.k = .slice el) (hE : T.eN[el]? = some te) (hs : te.size = E.size) (h2 : hi ≤ xs.length)
 (h : bA P fr ops rest (A.set d (.sl E (xs.take hi))) fun A' l' => K A' ((A, { d := some d, ty := .sl E (xs.take hi), rs := cJ x ++ cJ y }) :: l')) : bA P fr ops (⟨some d, .slice ty' x none (some y) none, t, p, e, none⟩ :: rest) A K :=
 bJ (bT rfl rfl fun a w M _ hr _ => by
  obtain ⟨hdx, hdy⟩ := op2 hr
  rw [hx] at hdx; rw [hy] at hdy
  have ey : a.eval y = .int k hi := hdy
  obtain ⟨v', h3, h4⟩ := F2 (P := P) hT hk hE hs hdx (lo := 0) (hi := hi) (ol := none) (oh := some (.int k hi)) (.inl ⟨rfl, rfl⟩) (.inr ⟨k, rfl⟩) (Nat.zero_le _) h2
  exact ⟨v', by simp [execOp, ey, h3], (show lN E _ w M v' by simpa using h4)⟩) h
theorem Kb {α : Type} {E : El α} {x y : Operand} {k : IntKind} {el : Nat} {ti te : TI} {xs : List α} {lo : Nat} (hx : A.op fr x = .sl E xs) (hy : A.op fr y = .int k lo) (hT : T.eN[ty']? = some ti) (hk : ti.k = .slice el) (hE : T.eN[el]? = some te) (hs : te.size = E.size) (h2 : lo ≤ xs.length)
 (h : bA P fr ops rest (A.set d (.sl E (xs.drop lo))) fun A' l' => K A' ((A, { d := some d, ty := .sl E (xs.drop lo), rs := cJ x ++ cJ y }) :: l')) : bA P fr ops (⟨some d, .slice ty' x (some y) none none, t, p, e, none⟩ :: rest) A K :=
 bJ (bT rfl rfl fun a w M _ hr _ => by
  obtain ⟨hdx, hdy⟩ := op2 hr
  rw [hx] at hdx; rw [hy] at hdy
  have ey : a.eval y = .int k lo := hdy
  obtain ⟨v', h3, h4⟩ := F2 (P := P) hT hk hE hs hdx (lo := lo) (hi := xs.length) (ol := some (.int k lo)) (oh := none) (.inr ⟨k, rfl⟩) (.inl ⟨rfl, rfl⟩) h2 (Nat.le_refl _)
  exact ⟨v', by simp [execOp, ey, h3], (show lN E _ w M v' by simpa using h4)⟩) h
inductive aV (A : As) (fr : Fr) : List (Nat × Operand) → List (Nat × List Ty) → Prop
  | nil : aV A fr [] []
  | one {i : Nat} {x : Operand} {ty : Ty} {l : List (Nat × Operand)} {r : List (Nat × List Ty)} (hx : A.op fr x = ty) (h1 : ty.one = true) (h : aV A fr l r) : aV A fr ((i, x) :: l) ((i, [ty]) :: r)
  | sub {i : Nat} {x : Operand} {ta : Ty} {tys : List Ty} {l : List (Nat × Operand)} {r : List (Nat × List Ty)} (hx : A.op fr x = ta) (hs : ∀ w M v, ta.den w M v → (Ty.agg tys).den w M v) (h : aV A fr l r) : aV A fr ((i, x) :: l) ((i, tys) :: r)
theorem aV.agg {A : As} {fr : Fr} {i : Nat} {x : Operand} {tys : List Ty} {l : List (Nat × Operand)} {r : List (Nat × List Ty)} (hx : A.op fr x = .agg tys) (h : aV A fr l r) : aV A fr ((i, x) :: l) ((i, tys) :: r) := .sub hx (fun _ _ _ h => h) h
theorem aV.arr {A : As} {fr : Fr} {i : Nat} {x : Operand} {α : Type} {E : El α} {xs : List α} {l : List (Nat × Operand)} {r : List (Nat × List Ty)} (hx : A.op fr x = .arr E xs) (h : aV A fr l r) : aV A fr ((i, x) :: l) ((i, xs.flatMap E.tys) :: r) := .sub hx (fun _ _ _ h => h) h
def splice (cells : List Ty) (off : Nat) (l : List Ty) : List Ty := cells.take off ++ (l ++ cells.drop (off + l.length))
def tA (place : Nat → Option (Nat × Nat)) (cells : List Ty) : List (Nat × List Ty) → Option (List Ty)
  | [] => some cells
  | (i, l) :: rest =>
    match place i with
    | none => none
    | some (off, size) => bif (Nat.beq l.length size && Nat.ble (off + l.length) cells.length) then tA place (splice cells off l) rest else none
theorem zk (cs : Array Value) (off : Nat) : ∀ (vs : List Value) (j : Nat), off + j + vs.length ≤ cs.size →
    ((vs.zipIdx j).foldl (fun cs (x : Value × Nat) => cs.setIfInBounds (off + x.2) x.1) cs).toList = cs.toList.take (off + j) ++ (vs ++ cs.toList.drop (off + j + vs.length)) := by
  intro vs
  induction vs generalizing cs with
  | nil => intro j _; simp
  | cons v vs ih =>
    intro j h
    simp only [List.zipIdx_cons, List.foldl_cons]
    rw [ih (cs.setIfInBounds (off + j) v) (j + 1) (by simp at h ⊢; omega)]
    have hlt : off + j < cs.toList.length := by simp at h ⊢; omega
    rw [Array.toList_setIfInBounds, ← Nat.add_assoc, List.take_succ_eq_append_getElem (by simpa using hlt), List.take_set_of_le (Nat.le_refl _), List.getElem_set_self, List.drop_set_of_lt (by omega)]
    simp [Nat.add_assoc, Nat.add_comm 1]
theorem uk {w : World} {M : bC} {cells l : List Ty} {cs : List Value} {vs : List Value} {off : Nat} (h : cI w M cells cs) (hv : cI w M l vs) : cI w M (splice cells off l) (cs.take off ++ (vs ++ cs.drop (off + vs.length))) := by
 rw [cW hv]
 exact fB (qE off h) (fB hv (nF _ h))
theorem qH {a : Act} {w : World} {M : bC} {rs : List Nat} (hr : ∀ c ∈ rs, c < fr.n → (A.slots c).den w M (a.tmps.getD c undef)) {place : Nat → Option (Nat × Nat)} {parts : List (Nat × Operand)} {ls : List (Nat × List Ty)} (hp : aV A fr parts ls) :
    ∀ {cells out : List Ty} {cs : Array Value}, (∀ x ∈ parts, ∀ c ∈ cJ x.2, c ∈ rs) → cI w M cells cs.toList → tA place cells ls = some out →
      ∃ cs', Instr.fill place cs (parts.map fun x => (x.1, a.eval x.2)) = some cs' ∧ cI w M out cs'.toList := by
  induction hp with
  | nil => intro cells out cs _ h hf; simp only [tA, Option.some.injEq] at hf; subst hf; exact ⟨cs, rfl, h⟩
  | @one i x ty l r hx h1 _ ih =>
    intro cells out cs hrs h hf
    have hd := cV (x := x) (hrs _ List.mem_cons_self) hr
    rw [hx] at hd
    have hone := ty.isOne h1 hd
    have hcells : (a.eval x).cells = #[a.eval x] := by
      cases hv : a.eval x <;> first | rfl | (rw [hv] at hone; simp [Value.oneCell'] at hone)
    simp only [tA] at hf
    cases hpl : place i with
    | none => rw [hpl] at hf; cases hf
    | some os =>
      obtain ⟨off, size⟩ := os
      rw [hpl] at hf
      simp only [List.length_cons, List.length_nil, cond_eq_ite, Bool.and_eq_true, Nat.beq_eq_true_eq, Nat.ble_eq] at hf
      split at hf
      · rename_i hc
        have hlen := cW h
        have hs := uk (off := off) h (show cI w M [ty] [a.eval x] from ⟨hd, trivial⟩)
        have hfold := zk cs off [a.eval x] 0 (by simp at hlen ⊢; omega)
        obtain ⟨cs', h1', h2'⟩ := ih (cs := cs.setIfInBounds off (a.eval x)) (fun y hy => hrs y (List.mem_cons_of_mem _ hy)) (by rw [show (cs.setIfInBounds off (a.eval x)).toList = _ from hfold]; simpa using hs) hf
        refine ⟨cs', ?_, h2'⟩
        have hsz : 1 = size := by have := Nat.eq_of_beq_eq_true hc.1; simpa using this
        have hle : ¬ (off + 1 > cs.size) := by simp at hlen; omega
        simp only [List.map_cons, Instr.fill, hpl, hcells]
        simp [← hsz, hle, h1']
      · cases hf
  | @sub i x ta tys l r hx hsub _ ih =>
    intro cells out cs hrs h hf
    have hd := cV (x := x) (hrs _ List.mem_cons_self) hr
    rw [hx] at hd
    obtain ⟨vs, ev, hvs⟩ := hsub _ _ _ hd
    simp only [tA] at hf
    cases hpl : place i with
    | none => rw [hpl] at hf; cases hf
    | some os =>
      obtain ⟨off, size⟩ := os
      rw [hpl] at hf
      simp only [cond_eq_ite, Bool.and_eq_true, Nat.beq_eq_true_eq, Nat.ble_eq] at hf
      split at hf
      · rename_i hc
        have hlen := cW h
        have hlv := cW hvs
        have hs := uk (off := off) h hvs
        have hfold := zk cs off vs.toList 0 (by simp at hlen hlv ⊢; omega)
        obtain ⟨cs', h1', h2'⟩ := ih (cs := (vs.toList.zipIdx.foldl (fun cs (x : Value × Nat) => cs.setIfInBounds (off + x.2) x.1) cs)) (fun y hy => hrs y (List.mem_cons_of_mem _ hy)) (by rw [hfold]; simpa using hs) hf
        refine ⟨cs', ?_, h2'⟩
        have hsz : vs.size = size := by have := Nat.eq_of_beq_eq_true hc.1; simp at hlv; omega
        have hle : ¬ (off + vs.size > cs.size) := by simp at hlen hlv; omega
        simp only [List.map_cons, Instr.fill, hpl, ev]
        have hv2 : (Value.agg vs).cells = vs := rfl
        simp only [hv2]
        have hfold' : Array.foldl (fun cs (x : Value × Nat) => cs.setIfInBounds (off + x.2) x.1) cs vs.zipIdx = vs.toList.zipIdx.foldl (fun cs (x : Value × Nat) => cs.setIfInBounds (off + x.2) x.1) cs := by
          rw [← Array.foldl_toList, Array.toList_zipIdx]
        rw [← h1', ← hfold']
        simp [hsz]
        omega
      · cases hf
end
end Go.T
namespace Go.T
open Go Go.RowKit
def placesOf (eN : List TI) (fs : List (Nat × Nat)) (i : Nat) : Option (Nat × Nat) :=
  match fs[i]? with
  | some (o, ft) => match eN[ft]? with
    | some tf => some (o, tf.size)
    | none => none
  | none => none
section
variable {P : Program} {fr : Fr} {ops : Array Oper} {A : As} {rest : List Oper} {K : As → List (As × Fx) → Prop} {d : Nat} {t ty' : TypeId} {p : String} {e : Array Edge} [T : lD P]
def s9 (f : Field) : Sem (Nat × Nat) := do pure (f.offset, ← sizeOf f.type)
theorem An {f : Field} {tf : TI} (h : T.eN[f.type]? = some tf) (w : World) : (s9 f).run P w = .ok (f.offset, tf.size) w := by simp [s9, dO h]
theorem oZ {w : World} : ∀ (fs : List Field), (∀ f ∈ fs, ∃ tf, T.eN[f.type]? = some tf) →
    ∃ r, (fs.mapM s9).run P w = .ok r w ∧ ∀ i : Nat, r[i]? = placesOf T.eN (fs.map fun f => (f.offset, f.type)) i
  | [], _ => ⟨[], by simp, fun i => by simp [placesOf]⟩
  | f :: fs, h => by
    obtain ⟨tf, htf⟩ := h f List.mem_cons_self
    obtain ⟨r, hr, hi⟩ := oZ (w := w) fs fun g hg => h g (List.mem_cons_of_mem _ hg)
    refine ⟨(f.offset, tf.size) :: r, by simp [An htf, hr], fun i => ?_⟩
    cases i with
    | zero => simp [placesOf, htf]
    | succ i => simpa [placesOf] using hi i
theorem dI {parts : Array (Nat × Operand)} {ti : TI} {fs : List (Nat × Nat)} {ls : List (Nat × List Ty)} {out : List Ty} (hT : T.eN[ty']? = some ti) (hk : ti.k = .struct fs) (hz : ti.zero ≠ []) (hfs : (fs.all fun f => (T.eN[f.2]?).isSome) = true) (hp : aV A fr parts.toList ls) (hf : tA (placesOf T.eN fs) (ti.zero.map Ty.jU) ls = some out)
 (h : bA P fr ops rest (A.set d (.agg out)) fun A' l' => K A' ((A, { d := some d, ty := .agg out, rs := parts.toList.flatMap fun x => cJ x.2 }) :: l')) : bA P fr ops (⟨some d, .build ty' parts, t, p, e, none⟩ :: rest) A K :=
 bJ (bT rfl rfl fun a w M _ hr _ => by
  obtain ⟨z, hz1, hz2⟩ := nC hT hz w
  obtain ⟨i, D, _, hD, hkd, _⟩ := cz hT
  rw [hk] at hkd
  cases D <;> simp only [TK.of, reduceCtorEq, TK.struct.injEq] at hkd
  rename_i fields
  subst hkd
  obtain ⟨r, hr1, hr2⟩ := oZ (P := P) (w := w) fields.toList fun f hf => by
   simp only [List.all_eq_true] at hfs
   have := hfs (f.offset, f.type) (List.mem_map.2 ⟨f, hf, rfl⟩)
   exact Option.isSome_iff_exists.1 this
  obtain ⟨cs', h1, h2⟩ := qH hr hp (place := placesOf T.eN (fields.toList.map fun f => (f.offset, f.type))) (cs := z.cells) (fun x hx c hc => List.mem_flatMap.2 ⟨x, hx, hc⟩) (by rw [hz2]; exact mN _ _ _) hf
  refine ⟨.agg cs', ?_, cs', rfl, h2⟩
  have hm0 : (fields.mapM s9).run P w = .ok r.toArray w := by
   rw [Array.mapM_eq_mapM_toList]
   simp [hr1]
  have hm : (fields.mapM (fun f => do pure (f.offset, ← sizeOf f.type) : Field → Sem (Nat × Nat))).run P w = .ok r.toArray w := hm0
  have hfun : (fun i : Nat => r.toArray[i]?) = placesOf T.eN (fields.toList.map fun f => (f.offset, f.type)) := funext fun i => by simpa using hr2 i
  have hparts : (parts.map fun x => (x.1, a.eval x.2)).toList = parts.toList.map fun x => (x.1, a.eval x.2) := by simp
  simp only [execOp, Instr.build, Sem.run_bind, hz1, Result.andThen_ok, run_underlying hD]
  simp only [hm, Result.andThen_ok, hfun, hparts, h1]
  simp) h
theorem bW {α : Type} {E : El α} {xs : List α} {len el : Nat} {parts : Array (Nat × Operand)} {ti te : TI} {ls : List (Nat × List Ty)} (hT : T.eN[ty']? = some ti) (hk : ti.k = .slice el) (hE : T.eN[el]? = some te) (hs : te.size = E.size) (hz : te.zero.length = te.size) (h0 : 0 < te.size) (hle : len * te.size ≤ 16777216) (hp : aV A fr parts.toList ls)
 (hf : tA (fun i => some (i * te.size, te.size)) ((List.range (len * te.size)).map fun j => Ty.jU (te.zero.getD (j % te.size) undef)) ls = some (xs.flatMap E.tys)) (hx : xs.length = len)
 (h : bA P fr ops rest (A.set d (.sl E xs)) fun A' l' => K A' ((A, { d := some d, ty := .sl E xs, rs := parts.toList.flatMap fun x => cJ x.2 }) :: l')) : bA P fr ops (⟨some d, .buildSlice ty' len parts, t, p, e, none⟩ :: rest) A K := by
 refine ⟨_, gC (f := { d := some d, ty := .sl E xs, rs := parts.toList.flatMap fun x => cJ x.2 }) rfl rfl (by simp) (by simp) (by simp) fun a w M wf hr _ => ?_, h⟩
 obtain ⟨z, hz1, hz2⟩ := nC hE (by intro hn; rw [hn] at hz; simp at hz; omega) w
 obtain ⟨_, D, _, hD, hkd, _⟩ := cz hT
 rw [hk] at hkd
 cases D <;> simp only [TK.of, reduceCtorEq, TK.slice.injEq] at hkd
 rename_i el0
 have hel : el0 = el := hkd
 subst hel
 have hzs : z.cells.size = te.size := by rw [← hz, ← hz2]; simp
 let zs : Array Value := if len * te.size = 0 then #[] else z.cells
 have hcells : cI w M ((List.range (len * te.size)).map fun j => Ty.jU (te.zero.getD (j % te.size) undef)) ((Array.range (len * te.size)).map (zs[· % zs.size]!)).toList := by
  refine fm (by simp) fun i u hi => ?_
  rw [List.getElem?_map] at hi
  simp only [Option.map_eq_some_iff] at hi
  obtain ⟨j, hj, rfl⟩ := hi
  have hlt : i < len * te.size := by have := (List.getElem?_eq_some_iff.1 hj).1; simpa using this
  rw [List.getElem?_range hlt] at hj
  injection hj with hj
  subst hj
  have hne : ¬ len * te.size = 0 := by omega
  refine ⟨te.zero.getD (i % te.size) undef, ?_, j6 _ _ _⟩
  have hm : i % te.size < z.cells.size := by rw [hzs]; exact Nat.mod_lt _ h0
  have e1 : zs[i % zs.size]! = te.zero.getD (i % te.size) undef := by
   simp only [zs, if_neg hne, hzs]
   rw [getElem!_pos z.cells _ hm, ← hz2, List.getD_eq_getElem?_getD, List.getElem?_eq_getElem (by simpa using hm)]
   simp
  simp [List.getElem?_range hlt, e1]
 obtain ⟨cs', h1, h2⟩ := qH hr hp (place := fun i => some (i * te.size, te.size)) (cs := (Array.range (len * te.size)).map (zs[· % zs.size]!)) (fun x hx c hc => List.mem_flatMap.2 ⟨x, hx, hc⟩) hcells hf
 have hparts : (parts.map fun x => (x.1, a.eval x.2)).toList = parts.toList.map fun x => (x.1, a.eval x.2) := by simp
 obtain ⟨h3, h4, _⟩ := uT wf (.cells cs' el0)
 refine ⟨.slice (some ⟨w.heap.size, 0, none⟩) len len, w.alloc (.cells cs' el0), ?_, M, h3, h4, ⟨some ⟨w.heap.size, 0, none⟩, len, by rw [hx], by omega, ?_, fun _ => ⟨_, 0, rfl, ?_⟩⟩, by simp⟩
 ·have hbig : ¬ (len * te.size > 2 ^ 24) := by omega
  have hbig' : ¬ (2 ^ 24 < len * te.size) := by omega
  simp only [execOp, Instr.buildSlice, Sem.run_bind, run_underlying hD, Result.andThen_ok, dO hE]
  simp only [hbig', gt_iff_lt, if_false]
  by_cases hn : len * te.size = 0
  ·have : zs = #[] := if_pos hn
   rw [this] at h1
   simp only [hn, if_true, Sem.run_pure, Sem.run_bind, Result.andThen_ok]
   rw [hn] at h1
   simp only [hparts, h1]
   simp [newRow, newObj, Sem.run]
  have : zs = z.cells := if_neg hn
  rw [this] at h1
  simp only [if_neg hn, Sem.run_pure, Sem.run_bind, Result.andThen_ok, hz1]
  simp only [hparts, h1]
  simp [newRow, newObj, Sem.run]
 ·have : len ≤ len * te.size := Nat.le_mul_of_pos_right _ h0
  simp only [maxLen]; omega
 have := tM (T := el0) (cs := cs'.toList) wf h2
 simpa using this
def Ty.Plain (t : Ty) : Prop := ∀ w M w' M' v, t.den w M v → t.den w' M' v
theorem dc (k : IntKind) (n : Int) : (Ty.int k n).Plain := fun _ _ _ _ _ h => h
theorem yI : ∀ {l : List Ty}, (∀ t ∈ l, t.Plain) → ∀ {w M w' M' vs}, cI w M l vs → cI w' M' l vs
  | [], _, _, _, _, _, [], _ => trivial
  | _ :: _, h, _, _, _, _, _ :: _, ⟨h1, h2⟩ => ⟨h _ List.mem_cons_self _ _ _ _ _ h1, yI (fun t ht => h t (List.mem_cons_of_mem _ ht)) h2⟩
theorem qY {l : List Ty} (h : ∀ t ∈ l, t.Plain) : (Ty.j8 l).Plain := fun _ _ _ _ _ ⟨cs, e, hd⟩ => ⟨cs, e, yI h hd⟩
theorem qU : ∀ t ∈ ([] : List Ty), t.Plain := by intro _ h; cases h
theorem oB {t : Ty} {l : List Ty} (h : t.Plain) (h' : ∀ t ∈ l, t.Plain) : ∀ u ∈ t :: l, u.Plain := by
 intro u hu
 rcases List.mem_cons.1 hu with rfl | hu
 ·exact h
 exact h' u hu
def qt (M : bC) (L : List Nat) : bC := fun b => match M b with | none => none | some t => if t ∈ L then none else some 0
def QK (L : List Nat) (s t : Ty) : Prop := ∀ w M v, Wf w M → s.den w M v → t.den w (qt M L) v
theorem jS {M : bC} {L : List Nat} {b : Nat} (h : M b = none) : qt M L b = none := by simp [qt, h]
theorem At {M : bC} {L : List Nat} {b t : Nat} (h : M b = some t) (ht : t ∈ L) : qt M L b = none := by simp [qt, h, ht]
theorem uF {M : bC} {L : List Nat} (b t : Nat) (h : qt M L b = some t) : t = 0 := by
 unfold qt at h
 split at h
 ·cases h
 split at h
 ·cases h
 injection h with h; exact h.symm
theorem Hh {M : bC} {L : List Nat} {b t : Nat} (h : qt M L b = some t) : ∃ u, M b = some u := by
 unfold qt at h
 split at h
 ·cases h
 rename_i u hu; exact ⟨u, hu⟩
theorem Ma {w : World} {M : bC} {L : List Nat} (wf : Wf w M) : Wf w (qt M L) :=
 ⟨fun b t h => let ⟨u, hu⟩ := Hh h; wf.lt b u hu, fun b b' t _ h _ => by have := uF _ _ h; omega⟩
theorem bV {L : List Nat} {t : Ty} (h1 : t.deps = []) (h2 : t.cdeps = []) : QK L t t := fun w M v _ h =>
 t.mono (S := fun _ => True) (K := fun _ => True) ⟨Nat.le_refl _, rfl, rfl, rfl, fun b _ hm => ⟨jS hm, rfl⟩, fun b t _ h => absurd trivial h⟩ (by rw [h1]; intro _ h; cases h) (by rw [h2]; intro _ h; cases h) h
theorem wW {α : Type} {E : El α} {T tg : Nat} {xs : List α} {w : World} {M M' : bC} {v : Value} (wf : Wf w M) (h : fu E T tg xs w M v) (hM : ∀ b, M b = some tg → M' b = none) (hle : ∀ b, M b = none → M' b = none) : lN E xs w M' v := by
 obtain ⟨cs, h1, h2, h3⟩ := h
 rcases h1.2 with ⟨rfl, h0⟩ | ⟨g, cap, cur, rfl, _, hh, hn, hcap, hcs, htk⟩
 ·exact ⟨none, 0, by rw [h0], by omega, by simp [maxLen], fun h => absurd h (by omega)⟩
 have hg : M g = some tg := h3 g rfl
 refine ⟨some ⟨g, 0, none⟩, cap, rfl, hn, hcap, fun _ => ⟨g, 0, rfl, hM g hg, wf.lt g _ hg, fun i t hi => ?_⟩⟩
 have h2' := bl (S := fun _ => True) (K := fun _ => True) (w' := w) (M' := M') ⟨Nat.le_refl _, rfl, rfl, rfl, fun b _ hm => ⟨hle b hm, rfl⟩, fun b t _ h => absurd trivial h⟩ (by rw [E.cY]; intro _ h; cases h) (by rw [E.cS]; intro _ h; cases h) h2
 obtain ⟨u, hu, hd⟩ := dW h2' i t hi
 refine ⟨u, ?_, hd⟩
 rw [← htk, List.getElem?_take] at hu
 split at hu
 ·simpa [World.cell?, hh] using hu
 cases hu
theorem EB {L : List Nat} {w w' : World} {M M' : bC} {res : Ty} {r : Value} (wf : Wf w M) (le : Le (fun t => 1 ≤ t) (fun t => 1 ≤ t) w (qt M L) w' M') (hp : res.Plain) (hr : res.den w' M' r) :
    Wf w' (l6 w M) ∧ Le (· ∈ ([] : List Nat)) (· ∈ ([] : List Nat)) w M w' (l6 w M) ∧ res.den w' (l6 w M) r := by
  have hold : ∀ b, b < w.heap.size → w'.heap[b]? = w.heap[b]? := fun b hb => by
    cases hm : qt M L b with
    | none => exact (le.ql b hb hm).2
    | some t =>
      have := uF _ _ hm
      subst this
      exact (le.own b 0 hm (by omega)).2 (by omega)
  refine ⟨⟨fun b t h => ?_, fun b b' t ht1 h h' => ?_⟩, ⟨le.size, le.os, le.tape, le.out, fun b hb hm => ⟨?_, hold b hb⟩, fun b t hm _ => ⟨?_, fun _ => hold b (wf.lt b t hm)⟩⟩, hp _ _ _ _ _ hr⟩
  · unfold l6 at h
    split at h
    · exact Nat.lt_of_lt_of_le ‹_› le.size
    · cases h
  · unfold l6 at h h'
    split at h <;> split at h' <;> first | exact wf.inj b b' t ht1 h h' | cases h | cases h'
  · simp [l6, hm]
  · simp [l6, wf.lt b t hm, hm]
end
end Go.T
namespace Go.T
open Go Go.RowKit
def og (M : bC) : bC := fun b => match M b with | some 0 => some 0 | _ => none
def gU (s t : Ty) : Prop := ∀ w M v, Wf w M → s.den w M v → t.den w (og M) v
theorem uG {M : bC} {b : Nat} (h : M b = none) : og M b = none := by simp [og, h]
theorem Hv {M : bC} {b t : Nat} (h : M b = some (t + 1)) : og M b = none := by simp [og, h]
theorem Gl {M : bC} {b : Nat} (h : M b = some 0) : og M b = some 0 := by simp [og, h]
theorem AS {M : bC} {b t : Nat} (h : og M b = some t) : t = 0 ∧ M b = some 0 := by
 unfold og at h
 split at h
 ·rename_i h'; injection h with h; exact ⟨h.symm, h'⟩
 cases h
theorem qi {w : World} {M : bC} (wf : Wf w M) : Wf w (og M) :=
 ⟨fun b t h => wf.lt b 0 (AS h).2, fun b b' t _ h _ => by have := (AS h).1; omega⟩
theorem cG {t : Ty} (h1 : t.deps = []) (h2 : t.cdeps = []) : gU t t := fun w M v _ h =>
 t.mono (S := fun _ => True) (K := fun _ => True) ⟨Nat.le_refl _, rfl, rfl, rfl, fun b _ hm => ⟨uG hm, rfl⟩, fun b t _ h => absurd trivial h⟩ (by rw [h1]; intro _ h; cases h) (by rw [h2]; intro _ h; cases h) h
theorem av {s t : Ty} (h1 : t.deps = []) (h2 : t.cdeps = []) (h : s = t) : gU s t := by subst h; exact cG h1 h2
theorem oP {α : Type} {E : El α} {T tg : Nat} {xs : List α} (h : 1 ≤ tg) : gU (Ty.row E T tg xs) (Ty.sl E xs) := fun w M v wf hr =>
 wW wf hr (fun b hb => by obtain ⟨u, rfl⟩ : ∃ u, tg = u + 1 := ⟨tg - 1, by omega⟩; exact Hv hb) (fun b hb => uG hb)
theorem wR {α : Type} {E : El α} {T tg : Nat} {xs ys : List α} (h : 1 ≤ tg) (e : xs = ys) : gU (Ty.row E T tg xs) (Ty.sl E ys) := e ▸ oP h
theorem BK {α : Type} {E : El α} : gU (Ty.ex (.slice none 0 0)) (Ty.sl E []) := fun _ _ _ _ h => Ty.yA _ _ _ h
def qV : List Ty → List Ty → Prop
  | [], [] => True
  | s :: ss, t :: ts => gU s t ∧ qV ss ts
  | _, _ => False
theorem CK : qV [] [] := trivial
theorem qq {s t : Ty} {ss ts : List Ty} (h : gU s t) (h' : qV ss ts) : qV (s :: ss) (t :: ts) := ⟨h, h'⟩
theorem yt {w : World} {M : bC} (wf : Wf w M) : ∀ {ss ts : List Ty} {vs : List Value}, qV ss ts → cI w M ss vs → cI w (og M) ts vs
  | [], [], [], _, _ => trivial
  | _ :: _, _ :: _, _ :: _, ⟨h, h'⟩, ⟨h1, h2⟩ => ⟨h _ _ _ wf h1, yt wf h' h2⟩
theorem Fj {ss ts : List Ty} (h : qV ss ts) : gU (Ty.agg ss) (Ty.agg ts) := fun _ _ _ wf ⟨cs, e, hd⟩ => ⟨cs, e, yt wf h hd⟩
theorem nO {fr : Fr} {w : World} {M : bC} (hk : ∀ t, fr.kd.KF t → 1 ≤ t) (hb : fr.base w M) : Le (fun t => 1 ≤ t) (fun t => 1 ≤ t) fr.w0 fr.M0 w (og M) :=
 ⟨hb.size, hb.os, hb.tape, hb.out, fun b hlt hm => ⟨uG (hb.ql b hlt hm).1, (hb.ql b hlt hm).2⟩, fun b t hm ht => by
  have : t = 0 := by omega
  subst this
  obtain ⟨h1, h2⟩ := hb.own b 0 hm (by omega)
  exact ⟨Gl h1, fun _ => h2 (fun h => by have := hk 0 h; omega)⟩⟩
section
variable {P : Program} {fr : Fr} {A : As} {Q : Exit → Act → World → Prop} {c : Code} {fn : Func} {n : Nat} {w0 : World} {M0 : bC}
theorem bR {tm : Nat} {res : Ty} (hr : fn.results = #[.tmp tm]) (ht : Nat.blt tm n = true) (hs : gU (A.slots tm) res) : dQ ⟨n, w0, M0, [], .plain⟩ A (bodyPost P fn (lV w0 M0 res) .ret) := by
 intro a w ⟨M, ok, hsl, _⟩
 exact ⟨ok.gl (by simp), _, results_tmp hr _ _ _, _, og M, rfl, qi ok.wf, nO (fr := ⟨n, w0, M0, [], .plain⟩) (fun _ h => h) ok.base, hs _ _ _ ok.wf (hsl tm (by simpa using ht))⟩
theorem fG {t1 t2 : Nat} {r1 r2 : Ty} (hr : fn.results = #[.tmp t1, .tmp t2]) (h1 : Nat.blt t1 n = true) (h2 : Nat.blt t2 n = true) (hs1 : gU (A.slots t1) r1) (hs2 : gU (A.slots t2) r2) :
 dQ ⟨n, w0, M0, [], .plain⟩ A (bodyPost P fn (lV w0 M0 (Ty.j8 [r1, r2])) .ret) := by
 intro a w ⟨M, ok, hsl, _⟩
 exact ⟨ok.gl (by simp), _, results_tmp2 hr _ _ _, _, og M, rfl, qi ok.wf, nO (fr := ⟨n, w0, M0, [], .plain⟩) (fun _ h => h) ok.base, _, rfl, hs1 _ _ _ ok.wf (hsl t1 (by simpa using h1)), hs2 _ _ _ ok.wf (hsl t2 (by simpa using h2)), trivial⟩
theorem gJ {F : Prop} {s : Nat} {ty : Ty} (hs : Nat.blt s fr.n = true) (hx : A.slots s = ty) (hf : ∀ w M v, ty.den w M v → F) (h : F → fP P fr c A Q) : fP P fr c A Q := fun a w ha => by
 obtain ⟨M, ok, hsl, ht⟩ := ha
 have := hsl s (by simpa using hs)
 rw [hx] at this
 exact h (hf _ _ _ this) a w ⟨M, ok, hsl, ht⟩
theorem gK {α : Type} {E : El α} {xs : List α} (w : World) (M : bC) (v : Value) (h : (Ty.sl E xs).den w M v) : xs.length ≤ 9223372036854775807 := by
 obtain ⟨A, c, _, h1, h2, _⟩ := h
 simp only [maxLen] at h2; omega
theorem iC {s : Nat} {ty ty' : Ty} (hx : A.slots s = ty) (h : ty.Sub ty') (h' : fP P fr c (A.set s ty') Q) : fP P fr c A Q := fun a w ⟨M, ok, hsl, ht⟩ =>
  h' a w ⟨M, ok, fun i hi => by
    show ((A.set s ty').slots i).den w M _
    simp only [As.set]
    cases hb : Nat.beq i s with
    | false => exact hsl i hi
    | true =>
      have : i = s := Nat.eq_of_beq_eq_true hb
      subst this
      exact h _ _ _ (hx ▸ hsl i hi), ht⟩
end
def fX {α : Type} (E : El α) (T : Nat) (xs : List α) (w : World) (M : bC) (t : Nat) : Prop :=
  xs = [] ∨ ∃ b cs, M b = some t ∧ w.heap[b]? = some (.cells cs T (0, 0)) ∧ cI w M (xs.flatMap E.tys) (cs.toList.take (xs.flatMap E.tys).length)
theorem Al {α : Type} {E : El α} {T : Nat} {xs : List α} {w : World} {M : bC} {t : Nat} (h : dN T (xs.flatMap E.tys) w M t) : fX E T xs w M t := by
 obtain ⟨b, cs, h1, h2, h3⟩ := h
 exact .inr ⟨b, cs, h1, h2, by rw [← cW h3, List.take_length]; exact h3⟩
def Cont.vec {α : Type} (E : El α) (T : Nat) (xs : List α) : Cont :=
  { den := fX E T xs, mono := fun le _ _ hs hk h => h.imp id fun ⟨b, cs, h1, h2, h3⟩ => let ⟨h4, h5⟩ := le.own b _ h1 hk
    ⟨b, cs, h4, (h5 hs).trans h2, bl le (by rw [E.cY]; intro _ h; cases h) (by rw [E.cS]; intro _ h; cases h) h3⟩ }
theorem Cont.cy {α : Type} {E : El α} {T : Nat} {xs ys : List α} (h : xs = ys) : (Cont.vec E T xs).Sub (Cont.vec E T ys) := h ▸ Cont.aF _
theorem Cont.nM {T : Nat} {l l' : List Ty} (h : l = l') : (Cont.cells T l).Sub (Cont.cells T l') := h ▸ Cont.aF _
def nH (tg n : Nat) (_ : World) (M : bC) (x : Value) : Prop := (n = 0 ∧ x = .slice none 0 0) ∨ ∃ b c, M b = some tg ∧ x = .slice (some ⟨b, 0, none⟩) n c ∧ n ≤ c ∧ c ≤ maxLen
def Ty.vs (tg n : Nat) : Ty := ⟨nH tg n, [tg], [], fun le hk _ h => h.imp id fun ⟨b, c, h, e, h1, h2⟩ => ⟨b, c, (le.own b tg h (hk tg (by simp))).1, e, h1, h2⟩, true, fun _ h => by
  rcases h with ⟨_, rfl⟩ | ⟨_, _, _, rfl, _⟩ <;> rfl⟩
section
variable {P : Program} {fr : Fr} {ops : Array Oper} {A : As} {rest : List Oper} {K : As → List (As × Fx) → Prop} {d : Nat} {t ty' : TypeId} {p : String} {e : Array Edge} [T : lD P]
theorem Da {α : Type} {E : El α} {xs : List α} {ti : TI} (hT : T.eN[ty']? = some ti) (hz : ti.zero ≠ []) (hzx : ti.zero.map Ty.jU = xs.flatMap E.tys) (hp : fr.pass.contains (d + 1) = false)
 (h : bA P fr ops rest (A.after { d := some d, ty := .ptr (d + 1) 0, K := [d + 1], sets := [(d + 1, .vec E ty' xs)] }) fun A' l' => K A' ((A, { d := some d, ty := .ptr (d + 1) 0, K := [d + 1], sets := [(d + 1, .vec E ty' xs)] }) :: l')) :
 bA P fr ops (⟨some d, .alloc ty', t, p, e, none⟩ :: rest) A K := by
 refine ⟨_, gC rfl rfl (by simp) (by simp) (by simp at hp ⊢; exact hp) fun a w M wf _ _ => ?_, h⟩
 obtain ⟨z, hz1, hz2⟩ := nC hT hz w
 obtain ⟨h1, h2, h3⟩ := jh wf (.cells z.cells ty') (d + 1)
 refine ⟨.pointer (some ⟨w.heap.size, 0, none⟩), w.alloc (.cells z.cells ty'), ?_, _, h1, h2, ⟨_, h3, rfl⟩, ?_⟩
 ·simp [execOp, Instr.alloc, newVar, newRow, newObj, Sem.run, hz1]
 intro x hx
 simp only [List.mem_singleton] at hx
 subst hx
 exact Al ⟨w.heap.size, z.cells, h3, gq _ _, by rw [hz2, ← hzx]; exact mN _ _ _⟩
theorem qo {α : Type} {E : El α} {x0 : α} {x y : Operand} {k k' : IntKind} {n : Int} {el : Nat} {ti te : TI} (hx : A.op fr x = .int k n) (hy : A.op fr y = .int k' n) (hT : T.eN[ty']? = some ti) (hk : ti.k = .slice el) (hE : T.eN[el]? = some te) (hs : te.size = E.size) (hz : te.zero.map Ty.jU = E.tys x0) (hzp : 0 < te.size) (hp : fr.pass.contains (d + 1) = false)
    (hn : 0 ≤ n) (hlen : (te.bytes : Int) * n ≤ 281474976710656) (hlen' : n ≤ 9223372036854775807)
    (h : bA P fr ops rest (A.after { d := some d, ty := .vs (d + 1) n.toNat, K := [d + 1], sets := [(d + 1, .vec E el (List.replicate n.toNat x0))], rs := cJ x ++ cJ y }) fun A' l' => K A' ((A, { d := some d, ty := .vs (d + 1) n.toNat, K := [d + 1], sets := [(d + 1, .vec E el (List.replicate n.toNat x0))], rs := cJ x ++ cJ y }) :: l')) :
    bA P fr ops (⟨some d, .makeSlice ty' x y, t, p, e, none⟩ :: rest) A K := by
  refine ⟨_, gC rfl rfl (by simp) (by simp) (by simp at hp ⊢; exact hp) fun a w M wf hr _ => ?_, h⟩
  obtain ⟨hdx, hdy⟩ := op2 hr
  rw [hx] at hdx; rw [hy] at hdy
  have ex : a.eval x = .int k n := hdx
  have ey : a.eval y = .int k' n := hdy
  obtain ⟨_, D, _, hD, hkd, _⟩ := cz hT
  rw [hk] at hkd
  cases D <;> simp only [TK.of, reduceCtorEq, TK.slice.injEq] at hkd
  rename_i el0
  have hel : el0 = el := hkd
  subst hel
  obtain ⟨i, _, hi, _, _, hsz, hby, hze⟩ := cz hE
  have hzl : te.zero.length = te.size := by rw [← List.length_map (f := Ty.jU), hz, E.len, hs]
  obtain ⟨z, hiz⟩ : ∃ z, i.zero = some z := by
    cases hiz : i.zero with
    | none => rw [hiz] at hze; rw [← hze] at hzl; simp at hzl; omega
    | some z => exact ⟨z, rfl⟩
  rw [hiz] at hze
  have hrun := run_make (P := P) w ty' _ i z hD hi hiz k k' n n hn (Int.le_refl _) (by rw [hby]; exact hlen) hlen'
  obtain ⟨h1, h2, h3⟩ := jh wf (.cells (madeCells z.cells (n.toNat * i.size)) el0) (d + 1)
  refine ⟨_, _, by simp [execOp, ex, ey, hrun], _, h1, h2, .inr ⟨_, _, h3, rfl, Nat.le_refl _, by simp only [maxLen]; omega⟩, ?_⟩
  intro x hx
  simp only [List.mem_singleton] at hx
  subst hx
  refine Al ⟨w.heap.size, _, h3, gq _ _, ?_⟩
  have hzs : z.cells.size = te.size := by rw [← hzl, ← hze]; simp
  refine fm (by rw [c6]; simp [madeCells, hsz, hs]) fun j ty hj => ?_
  have hjl : j < n.toNat * te.size := by
    have := (List.getElem?_eq_some_iff.1 hj).1
    rw [c6, List.length_replicate, ← hs] at this; exact this
  have hq : j / te.size < n.toNat := Nat.div_lt_of_lt_mul (by rw [Nat.mul_comm]; exact hjl)
  have hm : j % te.size < te.size := Nat.mod_lt _ hzp
  have hget := ou E (List.replicate n.toNat x0) (j / te.size) (j % te.size) (by simpa using hq) (by rw [← hs]; exact hm)
  have hdecomp : j / te.size * E.size + j % te.size = j := by rw [← hs, Nat.mul_comm]; exact Nat.div_add_mod j te.size
  rw [hdecomp, hj] at hget
  simp only [List.getElem?_replicate, hq, if_true, Option.bind_some] at hget
  rw [← hz, List.getElem?_map] at hget
  obtain ⟨u, hu, hty⟩ := Option.map_eq_some_iff.1 hget.symm
  refine ⟨u, ?_, hty ▸ j6 _ _ _⟩
  have hu' : z.cells[j % z.cells.size]? = some u := by rw [hzs]; rw [← hze] at hu; simpa using hu
  simp only [madeCells, Array.toList_map, List.getElem?_map, Array.toList_range, hsz]
  rw [List.getElem?_range hjl]
  simp only [Option.map_some]
  rw [getElem!_def, hu']
theorem gO {x y : Operand} {tg n : Nat} {k : IntKind} {i : Int} {ti te : TI} {el : Nat} (hx : A.op fr x = .vs tg n) (hy : A.op fr y = .int k i) (hT : T.eN[ty']? = some ti) (hk : ti.k = .slice el) (hE : T.eN[el]? = some te) (h0 : 0 ≤ i) (h1 : i.toNat < n)
 (h : bA P fr ops rest (A.set d (.ptr tg (i.toNat * te.size))) fun A' l' => K A' ((A, { d := some d, ty := .ptr tg (i.toNat * te.size), rs := cJ x ++ cJ y }) :: l')) : bA P fr ops (⟨some d, .indexAddr ty' x y, t, p, e, none⟩ :: rest) A K :=
 bJ (bT rfl rfl fun a w M _ hr _ => by
  obtain ⟨hdx, hdy⟩ := op2 hr
  rw [hx] at hdx; rw [hy] at hdy
  rcases hdx with ⟨h0, _⟩ | ⟨b, c, hb, ex, _⟩
  ·omega
  have ey : a.eval y = .int k i := hdy
  refine ⟨_, by simp only [execOp, ex, ey, Sem.run_bind, iG hT hk hE h0 h1]; rfl, b, hb, ?_⟩
  simp) h
theorem dP {x y : Operand} {tg n : Nat} {k : IntKind} {i : Nat} {ti te : TI} {el : Nat} (hx : A.op fr x = .vs tg n) (hy : A.op fr y = .int k i) (hT : T.eN[ty']? = some ti) (hk : ti.k = .slice el) (hE : T.eN[el]? = some te) (h1 : i < n)
 (h : bA P fr ops rest (A.set d (.ptr tg (i * te.size))) fun A' l' => K A' ((A, { d := some d, ty := .ptr tg (i * te.size), rs := cJ x ++ cJ y }) :: l')) : bA P fr ops (⟨some d, .indexAddr ty' x y, t, p, e, none⟩ :: rest) A K :=
 gO hx hy hT hk hE (Int.natCast_nonneg _) h1 h
theorem sn {α : Type} {E : El α} {Tb : Nat} {xs : List α} {tg : Nat} (h : A.tag tg = some (.vec E Tb xs)) : ∀ w M, (∀ x ∈ A.tags, x.1 ∈ [tg] → x.2.den w M x.1) → fX E Tb xs w M tg := fun _ _ ht => ht _ (cj h) (by simp)
theorem mw {α : Type} {E : El α} {Tb b tg off : Nat} {xs : List α} {w : World} {M : bC} {ty : Ty} (wf : Wf w M) (h1 : gE tg) (hb : M b = some tg) (h : fX E Tb xs w M tg) (hl : (xs.flatMap E.tys)[off]? = some ty) : ∃ v, w.cell? ⟨b, off, none⟩ = some v ∧ ty.den w M v := by
 rcases h with rfl | ⟨b', cs, hb', hh, hd⟩
 ·simp at hl
 obtain ⟨u, rfl⟩ : ∃ u, tg = u + 1 := ⟨tg - 1, by omega⟩
 have := wf.inj b b' u (by omega) hb hb'
 subst this
 obtain ⟨v, hv, hdv⟩ := dW hd off ty hl
 rw [List.getElem?_take] at hv
 split at hv
 ·exact ⟨v, by simpa [World.cell?, hh] using hv, hdv⟩
 cases hv
theorem xL {α : Type} [Inhabited α] {E : El α} {xs : List α} {x : Operand} {tg i o Tb : Nat} {ti : TI} {ty : Ty} (hx : A.op fr x = .ptr tg (i * E.size + o)) (hc : A.tag tg = some (.vec E Tb xs)) (h1 : gE tg) (hT : T.eN[ty']? = some ti) (ha : ti.k.agg = false) (hi : i < xs.length) (hl : (E.tys (nth xs i))[o]? = some ty)
 (h : bA P fr ops rest (A.set d ty) fun A' l => K A' ((A, { d := some d, ty := ty, rs := cJ x, rt := [tg] }) :: l)) : bA P fr ops (⟨some d, .load ty' x, t, p, e, none⟩ :: rest) A K :=
 bJ (bT rfl rfl fun a w M wf hr ht => by
  have := cV (x := x) (fun _ h => h) hr
  rw [hx] at this
  obtain ⟨b, hb, e⟩ := this
  obtain ⟨v, hv, hd⟩ := mw wf h1 hb (sn hc w M ht) (mj E xs hi o ty hl)
  exact ⟨v, by simp [execOp, e, kC hT ha hv], hd⟩) h
theorem Ct {α : Type} [Inhabited α] (E : El α) {y : α} {o : Nat} {ty : Ty} : ∀ (xs : List α) (i : Nat), i < xs.length → (E.tys (nth xs i)).set o ty = E.tys y → o < E.size → (xs.flatMap E.tys).set (i * E.size + o) ty = (xs.set i y).flatMap E.tys
  | [], i, h, _, _ => absurd h (Nat.not_lt_zero _)
  | x :: xs, 0, _, hy, ho => by
    have hy : (E.tys x).set o ty = E.tys y := hy
    rw [List.set_cons_zero, List.flatMap_cons, List.flatMap_cons, ← hy, Nat.zero_mul, Nat.zero_add, List.set_append, if_pos (by rw [E.len]; exact ho)]
  | x :: xs, i + 1, h, hy, ho => by
    have ih := Ct E xs i (by simpa using h) hy ho
    rw [List.set_cons_succ, List.flatMap_cons, List.flatMap_cons, ← ih, List.set_append, if_neg (by rw [E.len, Nat.succ_mul]; omega), E.len]
    congr 2
    rw [Nat.succ_mul]; omega
theorem pG {α : Type} [Inhabited α] {E : El α} {xs : List α} {x y : Operand} {tg i o Tb : Nat} {ti : TI} {ty : Ty} {z : α} (hx : A.op fr x = .ptr tg (i * E.size + o)) (hc : A.tag tg = some (.vec E Tb xs)) (h1 : gE tg) (hT : T.eN[ty']? = some ti) (hsz : ti.size = 1) (hy : A.op fr y = ty) (ho : ty.one = true) (hi : i < xs.length) (hoe : o < E.size)
 (hdt : k7 ty.cdeps [tg] = true) (hl : (E.tys (nth xs i)).set o ty = E.tys z)
 (h : bA P fr ops rest (A.after { d := none, S := [tg], sets := [(tg, .vec E Tb (xs.set i z))], rs := cJ x ++ cJ y, rt := [tg] }) fun A' l'' => K A' ((A, { d := none, S := [tg], sets := [(tg, .vec E Tb (xs.set i z))], rs := cJ x ++ cJ y, rt := [tg] }) :: l'')) :
 bA P fr ops (⟨none, .store ty' x y, t, p, e, none⟩ :: rest) A K := by
 refine ⟨_, l7 rfl rfl rfl (by simp) (by simpa using h1.1) (by simp) fun a w M wf hr ht => ?_, h⟩
 obtain ⟨hdx, hdy⟩ := op2 hr
 rw [hx] at hdx; rw [hy] at hdy
 obtain ⟨b, hb, ex⟩ := hdx
 rcases sn hc w M ht with rfl | ⟨b', cs, hb', hh, hd⟩
 ·exact absurd hi (Nat.not_lt_zero _)
 obtain ⟨u, rfl⟩ : ∃ u, tg = u + 1 := ⟨tg - 1, by omega⟩
 have := wf.inj b b' u (by omega) hb hb'
 subst this
 have hone := ty.isOne ho hdy
 have hlen := cW hd
 have hoff : i * E.size + o < cs.size := by
  rw [c6, List.length_take] at hlen
  have : (i + 1) * E.size ≤ xs.length * E.size := Nat.mul_le_mul_right _ hi
  rw [Nat.succ_mul] at this
  simp at hlen; omega
 have hcells : (a.eval y).cells = #[a.eval y] := by
  cases hv : a.eval y <;> first | rfl | (rw [hv] at hone; simp [Value.oneCell'] at hone)
 have hcell : w.cell? ⟨b, i * E.size + o, none⟩ = some cs[i * E.size + o] := by simp [World.cell?, hh]
 have hfz : w.frozen? ⟨b, i * E.size + o, none⟩ = false := by simp [World.frozen?, hh]
 obtain ⟨h1', h2', h3'⟩ := kZ wf hb _ (mY hh (off := i * E.size + o) (a.eval y))
 refine ⟨w.setCell ⟨b, i * E.size + o, none⟩ (a.eval y), ?_, M, h1', h2', trivial, ?_⟩
 ·have hst := run_store P w ⟨b, i * E.size + o, none⟩ (a.eval y) .plain hone
  rw [hcell] at hst
  simp only [hfz] at hst
  simp [execOp, Instr.storeAt, Instr.sureAddr, ex, storeVar, hcells, dO hT, hsz, storeCells, hst, Addr.add]
 intro z' hz'
 simp only [List.mem_singleton] at hz'
 subst hz'
 refine .inr ⟨b, _, hb, h3', ?_⟩
 rw [Array.toList_setIfInBounds, ← Ct E xs i hi hl hoe, List.length_set, List.take_set]
 exact su (bl h2' (by intro _ _ h; cases h) (by rw [E.cS]; intro _ h; cases h) hd) (ty.mono h2' (by intro _ _ h; cases h) (gN hdt) hdy)
end
end Go.T
namespace Go.T
open Go Go.RowKit
section
variable {P : Program} {fr : Fr} {ops : Array Oper} {A : As} {rest : List Oper} {K : As → List (As × Fx) → Prop} {d : Nat} {t ty' : TypeId} {p : String} {e : Array Edge} [T : lD P]
variable {α : Type} [Inhabited α] {E : El α} {xs : List α} {x y : Operand} {tg i o s Tb : Nat} {ti : TI} {ty : Ty} {z : α}
theorem fA (hx : A.op fr x = .ptr tg (i * s)) (hc : A.tag tg = some (.vec E Tb xs)) (hs : s = E.size) (h1 : gE tg) (hT : T.eN[ty']? = some ti) (ha : ti.k.agg = false) (hi : i < xs.length) (hl : (E.tys (nth xs i))[0]? = some ty)
 (h : bA P fr ops rest (A.set d ty) fun A' l => K A' ((A, { d := some d, ty := ty, rs := cJ x, rt := [tg] }) :: l)) : bA P fr ops (⟨some d, .load ty' x, t, p, e, none⟩ :: rest) A K :=
 xL (o := 0) (by rw [hx, hs, Nat.add_zero]) hc h1 hT ha hi hl h
theorem sW (hx : A.op fr x = .ptr tg (0 + i * s)) (hc : A.tag tg = some (.vec E Tb xs)) (hs : s = E.size) (h1 : gE tg) (hT : T.eN[ty']? = some ti) (hsz : ti.size = 1) (hy : A.op fr y = ty) (ho : ty.one = true) (hi : i < xs.length) (hoe : 0 < E.size) (hdt : k7 ty.cdeps [tg] = true) (hl : (E.tys (nth xs i)).set 0 ty = E.tys z)
 (h : bA P fr ops rest (A.after { d := none, S := [tg], sets := [(tg, .vec E Tb (xs.set i z))], rs := cJ x ++ cJ y, rt := [tg] }) fun A' l'' => K A' ((A, { d := none, S := [tg], sets := [(tg, .vec E Tb (xs.set i z))], rs := cJ x ++ cJ y, rt := [tg] }) :: l'')) :
 bA P fr ops (⟨none, .store ty' x y, t, p, e, none⟩ :: rest) A K :=
 pG (o := 0) (by rw [hx, hs, Nat.zero_add, Nat.add_zero]) hc h1 hT hsz hy ho hi hoe hdt hl h
theorem jj (hx : A.op fr x = .ptr tg (i * s)) (hc : A.tag tg = some (.vec E Tb xs)) (hs : s = E.size) (h1 : gE tg) (hT : T.eN[ty']? = some ti) (hsz : ti.size = 1) (hy : A.op fr y = ty) (ho : ty.one = true) (hi : i < xs.length) (hoe : 0 < E.size) (hdt : k7 ty.cdeps [tg] = true) (hl : (E.tys (nth xs i)).set 0 ty = E.tys z)
 (h : bA P fr ops rest (A.after { d := none, S := [tg], sets := [(tg, .vec E Tb (xs.set i z))], rs := cJ x ++ cJ y, rt := [tg] }) fun A' l'' => K A' ((A, { d := none, S := [tg], sets := [(tg, .vec E Tb (xs.set i z))], rs := cJ x ++ cJ y, rt := [tg] }) :: l'')) :
 bA P fr ops (⟨none, .store ty' x y, t, p, e, none⟩ :: rest) A K :=
 pG (o := 0) (by rw [hx, hs, Nat.add_zero]) hc h1 hT hsz hy ho hi hoe hdt hl h
end
def SH (l : List Ty) : Prop := cF l = [] ∧ bY l = [] ∧ l.all Ty.one = true
def El.mk' {α : Type} (n : Nat) (f : α → List Ty) (h : ∀ x, (f x).length = n) (h' : ∀ x, SH (f x)) : El α := ⟨n, f, h, fun x => (h' x).1, fun x => (h' x).2.1, fun x => (h' x).2.2⟩
end Go.T
namespace Go.T
open Go Go.RowKit
section
variable {P : Program} {fr : Fr} {ops : Array Oper} {A : As} {rest : List Oper} {K : As → List (As × Fx) → Prop} {d : Nat} {t ty' : TypeId} {p : String} {e : Array Edge} {x y z : Operand} {k : IntKind} {n : Int} {b : Bool} {l : List Ty}
theorem aO {o : Oper} {f : Fx} (h : bA P fr ops [o] A fun _ l => l = [(A, f)]) : xp P fr ops o A f := by
 obtain ⟨g, hg, hK⟩ := h
 have hK : [(A, g)] = [(A, f)] := hK
 simp only [List.cons.injEq, Prod.mk.injEq, and_true, true_and] at hK
 exact hK ▸ hg
theorem aK {o : Oper} {f : Fx} {s : Nat} {g : Bool} {ty : Ty} (hs : A.slots s = .gd g ty) (hg : g = true) (h : xp P fr ops o (A.set s ty) f) : xp P fr ops o A f := by
  obtain ⟨h1, h2, h3, h4, h5⟩ := h
  refine ⟨h1, h2, h3, h4, fun a w M wf hsz hr ht => h5 a w M wf hsz (fun c hc hcn => ?_) ht⟩
  have := hr c hc hcn
  simp only [As.set]
  cases hb : Nat.beq c s with
  | false => exact this
  | true =>
    have e : c = s := Nat.eq_of_beq_eq_true hb
    subst e
    rw [hs] at this
    exact this.1 hg
def pY (ops : Array Oper) (j : Nat) : Option Nat := (ops[j]?).bind (·.dst)
theorem lT {a : Act} {j s : Nat} {c : Bool} (hs : pY ops j = some s) (hn : s < a.tmps.size) (hv : a.tmps.getD s undef = .bool c) : yielded ops a.tmps j = some c := by
 unfold yielded
 unfold pY at hs
 rw [hs]
 have : a.tmps[s]? = some (.bool c) := by
  rw [Array.getElem?_eq_getElem hn]
  rw [Array.getD_eq_getD_getElem?, Array.getElem?_eq_getElem hn] at hv
  simpa using hv
 simp [this]
theorem qy {a : Act} {j s : Nat} (hs : pY ops j = some s) (hn : s < a.tmps.size) (hv : a.tmps.getD s undef = undef) : yielded ops a.tmps j = none := by
 unfold yielded
 unfold pY at hs
 rw [hs]
 have : a.tmps[s]? = some undef := by
  rw [Array.getElem?_eq_getElem hn]
  rw [Array.getD_eq_getD_getElem?, Array.getElem?_eq_getElem hn] at hv
  simpa using hv
 simp [this, undef]
def jF (d s : Nat) (g : Bool) (f : Fx) : Fx := { d := some d, ty := .gd g f.ty, rs := s :: f.rs, rt := f.rt }
theorem yu {op : Op} {j s : Nat} {want g : Bool} {gt : Ty} {f : Fx} (hs : pY ops j = some s) (hn : Nat.blt s fr.n = true) (hgt : A.slots s = gt)
    (hg : ∀ w M v, gt.den w M v → (g = true → v = .bool want) ∧ (g = false → v = .bool (!want) ∨ v = undef))
    (h1 : g = true → xp P fr ops ⟨some d, op, t, p, e, none⟩ A f) (hS : f.S = []) (hK : f.K = []) :
    xp P fr ops ⟨some d, op, t, p, e, some (j, want)⟩ A (jF d s g f) := by
  refine ⟨rfl, by simp [jF], by simp [jF], by simp [jF], fun a w M wf hsz hr ht => ?_⟩
  have hn' : s < fr.n := by simpa using hn
  have hv := hr s (by simp [jF]) hn'
  rw [hgt] at hv
  obtain ⟨hv1, hv2⟩ := hg _ _ _ hv
  cases g with
  | true =>
    have hy := lT (ops := ops) hs (by rw [hsz]; exact hn') (hv1 rfl)
    rw [if_pos (by simp [Region.wanted, hy])]
    obtain ⟨hd, _, _, _, h5⟩ := h1 rfl
    have h6 := h5 a w M wf hsz (fun c hc hcn => hr c (by simp [jF, hc]) hcn) (fun x hx hxr => ht x hx hxr)
    rw [if_pos (by simp [Region.wanted])] at h6
    refine Oper.uL (o := ⟨some d, op, t, p, e, some (j, want)⟩) (K := fun a' w' => ∃ v, a' = a.put (some d) v ∧ f.left w M w' v) ?_ h6
    rintro a' w' ⟨v, ha, M', wf', le, hty, _⟩
    rw [hS, hK] at le
    exact ⟨v, ha, M', wf', le, ⟨fun _ => hty, fun h => (by cases h)⟩, by simp [jF]⟩
  | false =>
    have hy : yielded ops a.tmps j ≠ some want := by
      rcases hv2 rfl with hv | hv
      · rw [lT (ops := ops) hs (by rw [hsz]; exact hn') hv]; cases want <;> simp
      · rw [qy (ops := ops) hs (by rw [hsz]; exact hn') hv]; simp
    rw [if_neg (by simpa [Region.wanted] using hy)]
    exact ⟨M, wf, Le.refl _ _ _ _, ⟨fun h => (by cases h), fun _ => rfl⟩, by simp [jF]⟩
theorem aM {op : Op} {j s : Nat} {want c : Bool} {f : Fx} (hs : pY ops j = some s) (hn : Nat.blt s fr.n = true) (hc : A.slots s = .bool c) (h1 : c = want → xp P fr ops ⟨some d, op, t, p, e, none⟩ A f) (hS : f.S = []) (hK : f.K = [])
 (h : bA P fr ops rest (A.set d (.gd (c == want) f.ty)) fun A' l' => K A' ((A, jF d s (c == want) f) :: l')) : bA P fr ops (⟨some d, op, t, p, e, some (j, want)⟩ :: rest) A K :=
 ⟨jF d s (c == want) f, yu hs hn hc (fun w M v hv => by
  have hv : v = .bool c := hv
  subst hv
  cases c <;> cases want <;> simp) (fun hg => h1 (by simpa using hg)) hS hK, h⟩
theorem fo {op : Op} {j s : Nat} {want g c : Bool} {f : Fx} (hs : pY ops j = some s) (hn : Nat.blt s fr.n = true) (hc : A.slots s = .gd g (.bool c)) (h1 : g = true → c = want → xp P fr ops ⟨some d, op, t, p, e, none⟩ A f) (hS : f.S = []) (hK : f.K = [])
    (h : bA P fr ops rest (A.set d (.gd (g && (c == want)) f.ty)) fun A' l' => K A' ((A, jF d s (g && (c == want)) f) :: l')) : bA P fr ops (⟨some d, op, t, p, e, some (j, want)⟩ :: rest) A K :=
  ⟨jF d s (g && (c == want)) f, yu hs hn hc (fun w M v hv => by
    cases g with
    | true =>
      have hv : v = .bool c := hv.1 rfl
      subst hv
      cases c <;> cases want <;> simp
    | false => exact ⟨fun h => (by cases h), fun _ => .inr (hv.2 rfl)⟩) (fun hg => by simp only [Bool.and_eq_true, beq_iff_eq] at hg; exact h1 hg.1 hg.2) hS hK, h⟩
theorem dV {c : Operand} {b1 b2 : Bool} (hc : A.op fr c = .bool b1) (hy : A.op fr y = .gd (b1 == true) (.bool b2))
    (h : bA P fr ops rest (A.set d (.bool (b1 && b2))) fun A' l' => K A' ((A, { d := some d, ty := .bool (b1 && b2), rs := cJ c ++ cJ y }) :: l')) : bA P fr ops (⟨some d, .pick c y (.const (.bool false)), t, p, e, none⟩ :: rest) A K :=
  bJ (bT rfl rfl fun a w M _ hrd _ => by
    obtain ⟨hdc, hdy⟩ := op2 hrd
    rw [hc] at hdc; rw [hy] at hdy
    have ec : a.eval c = .bool b1 := hdc
    cases b1 with
    | true =>
      have ey : a.eval y = .bool b2 := hdy.1 rfl
      exact ⟨.bool b2, by simp only [execOp, ec, ey]; simp [asBool], rfl⟩
    | false => exact ⟨.bool false, by simp only [execOp, ec]; simp [asBool, Act.eval], rfl⟩) h
theorem ir {c : Operand} {b1 b2 : Bool} (hc : A.op fr c = .bool b1) (hy : A.op fr y = .gd (b1 == false) (.bool b2))
    (h : bA P fr ops rest (A.set d (.bool (b1 || b2))) fun A' l' => K A' ((A, { d := some d, ty := .bool (b1 || b2), rs := cJ c ++ cJ y }) :: l')) : bA P fr ops (⟨some d, .pick c (.const (.bool true)) y, t, p, e, none⟩ :: rest) A K :=
  bJ (bT rfl rfl fun a w M _ hrd _ => by
    obtain ⟨hdc, hdy⟩ := op2 hrd
    rw [hc] at hdc; rw [hy] at hdy
    have ec : a.eval c = .bool b1 := hdc
    cases b1 with
    | false =>
      have ey : a.eval y = .bool b2 := hdy.1 rfl
      exact ⟨.bool b2, by simp only [execOp, ec, ey]; simp [asBool], rfl⟩
    | true => exact ⟨.bool true, by simp only [execOp, ec]; simp [asBool, Act.eval], rfl⟩) h
theorem bF (hx : A.op fr x = .int k n) (h : bA P fr ops rest (A.set d (.int k n)) fun A' l => K A' ((A, { d := some d, ty := .int k n, rs := cJ x }) :: l)) : bA P fr ops (⟨some d, .move x, t, p, e, none⟩ :: rest) A K := eB hx h
theorem bZ (hx : A.op fr x = .int k n) (h : bA P fr ops rest (A.set d (.int k n)) fun A' l => K A' ((A, { d := some d, ty := .int k n, rs := cJ x }) :: l)) : bA P fr ops (⟨some d, .assign x, t, p, e, none⟩ :: rest) A K := gi hx h
theorem eO (hx : A.op fr x = .bool b) (h : bA P fr ops rest (A.set d (.bool b)) fun A' l => K A' ((A, { d := some d, ty := .bool b, rs := cJ x }) :: l)) : bA P fr ops (⟨some d, .move x, t, p, e, none⟩ :: rest) A K := eB hx h
theorem cm (hx : A.op fr x = .bool b) (h : bA P fr ops rest (A.set d (.bool b)) fun A' l => K A' ((A, { d := some d, ty := .bool b, rs := cJ x }) :: l)) : bA P fr ops (⟨some d, .assign x, t, p, e, none⟩ :: rest) A K := gi hx h
theorem eA {α : Type} {E : El α} {xs : List α} (hx : A.op fr x = .sl E xs) (h : bA P fr ops rest (A.set d (.sl E xs)) fun A' l => K A' ((A, { d := some d, ty := .sl E xs, rs := cJ x }) :: l)) : bA P fr ops (⟨some d, .move x, t, p, e, none⟩ :: rest) A K := eB hx h
theorem va {α : Type} {E : El α} {xs : List α} (hx : A.op fr x = .sl E xs) (h : bA P fr ops rest (A.set d (.sl E xs)) fun A' l => K A' ((A, { d := some d, ty := .sl E xs, rs := cJ x }) :: l)) : bA P fr ops (⟨some d, .assign x, t, p, e, none⟩ :: rest) A K := gi hx h
theorem Eb {α : Type} {E : El α} {T tg : Nat} {xs : List α} (hx : A.op fr x = .row E T tg xs) (h : bA P fr ops rest (A.set d (.row E T tg xs)) fun A' l => K A' ((A, { d := some d, ty := .row E T tg xs, rs := cJ x }) :: l)) : bA P fr ops (⟨some d, .move x, t, p, e, none⟩ :: rest) A K := eB hx h
theorem yW {α : Type} {E : El α} {T tg : Nat} {xs : List α} (hx : A.op fr x = .row E T tg xs) (h : bA P fr ops rest (A.set d (.row E T tg xs)) fun A' l => K A' ((A, { d := some d, ty := .row E T tg xs, rs := cJ x }) :: l)) : bA P fr ops (⟨some d, .assign x, t, p, e, none⟩ :: rest) A K := gi hx h
theorem L4 {tg m : Nat} (hx : A.op fr x = .vs tg m) (h : bA P fr ops rest (A.set d (.vs tg m)) fun A' l => K A' ((A, { d := some d, ty := .vs tg m, rs := cJ x }) :: l)) : bA P fr ops (⟨some d, .move x, t, p, e, none⟩ :: rest) A K := eB hx h
theorem Ro {tg m : Nat} (hx : A.op fr x = .vs tg m) (h : bA P fr ops rest (A.set d (.vs tg m)) fun A' l => K A' ((A, { d := some d, ty := .vs tg m, rs := cJ x }) :: l)) : bA P fr ops (⟨some d, .assign x, t, p, e, none⟩ :: rest) A K := gi hx h
theorem R2 {v : Value} (hx : A.op fr x = .ex v) (h : bA P fr ops rest (A.set d (.ex v)) fun A' l => K A' ((A, { d := some d, ty := .ex v, rs := cJ x }) :: l)) : bA P fr ops (⟨some d, .move x, t, p, e, none⟩ :: rest) A K := eB hx h
theorem lE {v : Value} (hx : A.op fr x = .ex v) (h : bA P fr ops rest (A.set d (.ex v)) fun A' l => K A' ((A, { d := some d, ty := .ex v, rs := cJ x }) :: l)) : bA P fr ops (⟨some d, .assign x, t, p, e, none⟩ :: rest) A K := gi hx h
theorem jv (hx : A.op fr x = .pp l) (h : bA P fr ops rest (A.set d (.pp l)) fun A' l' => K A' ((A, { d := some d, ty := .pp l, rs := cJ x }) :: l')) : bA P fr ops (⟨some d, .move x, t, p, e, none⟩ :: rest) A K := eB hx h
theorem L8 (hx : A.op fr x = .pp l) (h : bA P fr ops rest (A.set d (.pp l)) fun A' l' => K A' ((A, { d := some d, ty := .pp l, rs := cJ x }) :: l')) : bA P fr ops (⟨some d, .assign x, t, p, e, none⟩ :: rest) A K := gi hx h
theorem L3 {tg o : Nat} (hx : A.op fr x = .ptr tg o) (h : bA P fr ops rest (A.set d (.ptr tg o)) fun A' l' => K A' ((A, { d := some d, ty := .ptr tg o, rs := cJ x }) :: l')) : bA P fr ops (⟨some d, .move x, t, p, e, none⟩ :: rest) A K := eB hx h
theorem sU (hx : A.op fr x = .j8 l) (h : bA P fr ops rest (A.set d (.j8 l)) fun A' l' => K A' ((A, { d := some d, ty := .j8 l, rs := cJ x }) :: l')) : bA P fr ops (⟨some d, .move x, t, p, e, none⟩ :: rest) A K := eB hx h
theorem RR {f : Nat} (hx : A.op fr x = .jw f l) (h : bA P fr ops rest (A.set d (.jw f l)) fun A' l' => K A' ((A, { d := some d, ty := .jw f l, rs := cJ x }) :: l')) : bA P fr ops (⟨some d, .move x, t, p, e, none⟩ :: rest) A K := eB hx h
theorem R4 {f : Nat} (hx : A.op fr x = .jw f l) (h : bA P fr ops rest (A.set d (.jw f l)) fun A' l' => K A' ((A, { d := some d, ty := .jw f l, rs := cJ x }) :: l')) : bA P fr ops (⟨some d, .assign x, t, p, e, none⟩ :: rest) A K := gi hx h
end
end Go.T
namespace Go.T
open Go Go.RowKit
theorem bP {t : Ty} {l : List Ty} (h : t.deps = []) (h' : cF l = []) : cF (t :: l) = [] := by simp only [cF, List.flatMap_cons, h, List.nil_append] at h' ⊢; exact h'
theorem bG {t : Ty} {l : List Ty} (h : t.cdeps = []) (h' : bY l = []) : bY (t :: l) = [] := by simp only [bY, List.flatMap_cons, h, List.nil_append] at h' ⊢; exact h'
def JX (P : Program) (t : Nat) (l1 l2 : List Ty) (c : Bool) : Prop :=
  P.eqGuardType P.depth t = false ∧ ∀ w M (cs ds : Array Value), cI w M l1 cs.toList → cI w M l2 ds.toList → (Op.equal t (.agg cs) (.agg ds)).run P w = .ok c w
section
variable {P : Program} {fr : Fr} {ops : Array Oper} {A : As} {rest : List Oper} {K : As → List (As × Fx) → Prop} {d : Nat} {t ty' ty2 : TypeId} {p : String} {e : Array Edge} {x y : Operand}
theorem MQ {l1 l2 : List Ty} {c : Bool} (hE : JX P ty' l1 l2 c) (hx : A.op fr x = .agg l1) (hy : A.op fr y = .agg l2)
 (h : bA P fr ops rest (A.set d (.bool c)) fun A' l' => K A' ((A, { d := some d, ty := .bool c, rs := cJ x ++ cJ y }) :: l')) : bA P fr ops (⟨some d, .binOp .eql ty' x y ty2, t, p, e, none⟩ :: rest) A K :=
 bJ (bT rfl rfl fun a w M _ hrd _ => by
  obtain ⟨hdx, hdy⟩ := op2 hrd
  rw [hx] at hdx; rw [hy] at hdy
  obtain ⟨cs, ex, h1⟩ := hdx
  obtain ⟨ds, ey, h2⟩ := hdy
  exact ⟨.bool c, by simp only [execOp, ex, ey]; simp [eqGuard, hE.1, binOp, hE.2 w M cs ds h1 h2], rfl⟩) h
theorem sD {l1 l2 : List Ty} {c : Bool} (hE : JX P ty' l1 l2 c) (hx : A.op fr x = .agg l1) (hy : A.op fr y = .agg l2)
 (h : bA P fr ops rest (A.set d (.bool (!c))) fun A' l' => K A' ((A, { d := some d, ty := .bool (!c), rs := cJ x ++ cJ y }) :: l')) : bA P fr ops (⟨some d, .binOp .neq ty' x y ty2, t, p, e, none⟩ :: rest) A K :=
 bJ (bT rfl rfl fun a w M _ hrd _ => by
  obtain ⟨hdx, hdy⟩ := op2 hrd
  rw [hx] at hdx; rw [hy] at hdy
  obtain ⟨cs, ex, h1⟩ := hdx
  obtain ⟨ds, ey, h2⟩ := hdy
  exact ⟨.bool (!c), by simp only [execOp, ex, ey]; simp [eqGuard, hE.1, binOp, hE.2 w M cs ds h1 h2], rfl⟩) h
theorem Jz {ts : Array TypeId} {k : IntKind} {a b : Int} (hx : A.op fr x = .int k a) (hy : A.op fr y = .int k b)
 (h : bA P fr ops rest (A.set d (.int k (min a b))) fun A' l' => K A' ((A, { d := some d, ty := .int k (min a b), rs := cJ x ++ cJ y }) :: l')) : bA P fr ops (⟨some d, .call ⟨.builtin .min, #[x, y], ts⟩, t, p, e, none⟩ :: rest) A K :=
 bJ (bT rfl rfl fun ac w M _ hrd _ => by
  obtain ⟨hdx, hdy⟩ := op2 hrd
  rw [hx] at hdx; rw [hy] at hdy
  have ex : ac.eval x = .int k a := hdx
  have ey : ac.eval y = .int k b := hdy
  refine ⟨.int k (min a b), ?_, rfl⟩
  simp [execOp, resolve, invoke, builtin, ex, ey, Builtin.min_, Builtin.min2]
  omega) h
theorem CW {ts : Array TypeId} {k : IntKind} {a b : Int} (hx : A.op fr x = .int k a) (hy : A.op fr y = .int k b)
 (h : bA P fr ops rest (A.set d (.int k (max a b))) fun A' l' => K A' ((A, { d := some d, ty := .int k (max a b), rs := cJ x ++ cJ y }) :: l')) : bA P fr ops (⟨some d, .call ⟨.builtin .max, #[x, y], ts⟩, t, p, e, none⟩ :: rest) A K :=
 bJ (bT rfl rfl fun ac w M _ hrd _ => by
  obtain ⟨hdx, hdy⟩ := op2 hrd
  rw [hx] at hdx; rw [hy] at hdy
  have ex : ac.eval x = .int k a := hdx
  have ey : ac.eval y = .int k b := hdy
  refine ⟨.int k (max a b), ?_, rfl⟩
  simp [execOp, resolve, invoke, builtin, ex, ey, Builtin.max_, Builtin.max2]
  omega) h
variable [T : lD P]
theorem G8 {α : Type} {E : El α} {Te tg : Nat} {xs : List α} {ti : TI} {el : Nat} (hx : A.op fr x = .row E Te tg xs) (hT : T.eN[ty']? = some ti) (hk : ti.k = .slice el)
 (h : bA P fr ops rest (A.set d (.int .i64 xs.length)) fun A' l' => K A' ((A, { d := some d, ty := .int .i64 xs.length, rs := cJ x }) :: l')) :
 bA P fr ops (⟨some d, .call ⟨.builtin .len, #[x], #[ty']⟩, t, p, e, none⟩ :: rest) A K :=
 bJ (bT rfl rfl fun a w M _ hrd _ => by
  have hdx := cV (x := x) (fun _ h => h) hrd
  rw [hx] at hdx
  obtain ⟨cs, hown, _⟩ := hdx
  obtain ⟨_, D, _, hD, hkd, _⟩ := cz hT
  rw [hk] at hkd
  cases D <;> simp only [TK.of, reduceCtorEq, TK.slice.injEq] at hkd
  rcases hown.2 with ⟨ex, h0⟩ | ⟨g, cap, cur, ex, _⟩
  ·exact ⟨.int .i64 xs.length, by simp [execOp, resolve, invoke, builtin, ex, Builtin.len_, run_underlying hD, goInt, h0], rfl⟩
  exact ⟨.int .i64 xs.length, by simp [execOp, resolve, invoke, builtin, ex, Builtin.len_, run_underlying hD, goInt], rfl⟩) h
theorem KX {tg n : Nat} {ti : TI} {el : Nat} (hx : A.op fr x = .vs tg n) (hT : T.eN[ty']? = some ti) (hk : ti.k = .slice el)
 (h : bA P fr ops rest (A.set d (.int .i64 n)) fun A' l' => K A' ((A, { d := some d, ty := .int .i64 n, rs := cJ x }) :: l')) :
 bA P fr ops (⟨some d, .call ⟨.builtin .len, #[x], #[ty']⟩, t, p, e, none⟩ :: rest) A K :=
 bJ (bT rfl rfl fun a w M _ hrd _ => by
  have hdx := cV (x := x) (fun _ h => h) hrd
  rw [hx] at hdx
  obtain ⟨_, D, _, hD, hkd, _⟩ := cz hT
  rw [hk] at hkd
  cases D <;> simp only [TK.of, reduceCtorEq, TK.slice.injEq] at hkd
  rcases hdx with ⟨h0, ex⟩ | ⟨b, c, _, ex, _⟩
  ·exact ⟨.int .i64 n, by simp [execOp, resolve, invoke, builtin, ex, Builtin.len_, run_underlying hD, goInt, h0], rfl⟩
  exact ⟨.int .i64 n, by simp [execOp, resolve, invoke, builtin, ex, Builtin.len_, run_underlying hD, goInt], rfl⟩) h
end
end Go.T
namespace Go.T
open Go Go.RowKit
section
variable {P : Program} {A : As} {fn : Func} {n : Nat} {w0 : World} {M0 : bC} [T : lD P]
theorem lO {tm ty tg Tb : Nat} {l : List Ty} {ti : TI} {res : Ty} (hr : fn.results = #[.cell tm ty]) (ht : Nat.blt tm n = true) (hx : A.slots tm = .ptr tg 0) (hc : A.tag tg = some (.cells Tb l)) (h1 : gE tg) (hT : T.eN[ty]? = some ti) (ha : ti.k.agg = true) (hl : l.length = ti.size) (hs : gU (.agg l) res) :
 dQ ⟨n, w0, M0, [], .plain⟩ A (bodyPost P fn (lV w0 M0 res) .ret) := by
 intro a w ⟨M, ok, hsl, htg⟩
 have hd := hsl tm (by simpa using ht)
 rw [hx] at hd
 obtain ⟨b, hb, e⟩ := hd
 obtain ⟨b', cs, hb', hh, hds⟩ := htg _ (cj hc)
 obtain ⟨u, rfl⟩ : ∃ u, tg = u + 1 := ⟨tg - 1, by omega⟩
 have := ok.wf.inj b b' u (by omega) hb hb'
 subst this
 have hlen := cW hds
 have hload := iJ (P := P) hT ha (w := w) (b := b) (off := 0) (cs := cs.toList) (by rw [hlen, hl]) (fun j v hj => by simpa [World.cell?, hh] using hj)
 have hload' : (loadVar ty ⟨b, 0, none⟩).run P w = .ok (.agg cs) w := by simpa [Instr.loadAt, Instr.sureAddr] using hload
 refine ⟨ok.gl (by simp), .agg cs, ?_, _, og M, rfl, qi ok.wf, nO (fr := ⟨n, w0, M0, [], .plain⟩) (fun _ h => h) ok.base, hs _ _ _ ok.wf ⟨cs, rfl, hds⟩⟩
 have e' : a.tmps.getD tm undef = .pointer (some ⟨b, 0, none⟩) := e
 have e'' : a.tmps[tm]?.getD undef = .pointer (some ⟨b, 0, none⟩) := by rw [← Array.getD_eq_getD_getElem?]; exact e'
 simp [results, hr, e'', asAddr, hload']
end
end Go.T
namespace Go.T
open Go Go.RowKit
def HP : List Ty → List Ty → Prop
  | [], [] => True
  | s :: ss, t :: ts => s.Sub t ∧ HP ss ts
  | _, _ => False
theorem dH : HP [] [] := trivial
theorem bS {s t : Ty} {ss ts : List Ty} (h' : HP ss ts) (h : s.Sub t) : HP (s :: ss) (t :: ts) := ⟨h, h'⟩
theorem z7 {w : World} {M : bC} : ∀ {ss ts : List Ty} {vs : List Value}, HP ss ts → cI w M ss vs → cI w M ts vs
  | [], [], [], _, _ => trivial
  | _ :: _, _ :: _, _ :: _, ⟨h, h'⟩, ⟨h1, h2⟩ => ⟨h _ _ _ h1, z7 h' h2⟩
theorem Cont.dG {T : Nat} {l l' : List Ty} (h : HP l l') : (Cont.cells T l).Sub (Cont.cells T l') := fun _ _ _ ⟨b, cs, h1, h2, h3⟩ => ⟨b, cs, h1, h2, z7 h h3⟩
def nZ (tg : Nat) (l : List Ty) (w : World) (M : bC) (v : Value) : Prop :=
  ∃ b off, v = .pointer (some ⟨b, off, none⟩) ∧ M b = some tg ∧ ∀ (i : Nat) (t : Ty), l[i]? = some t → ∃ u, w.cell? ⟨b, off + i, none⟩ = some u ∧ t.den w M u
def Ty.op (tg : Nat) (l : List Ty) : Ty :=
  ⟨nZ tg l, tg :: cF l, tg :: bY l, fun le hk hs ⟨b, off, e, hb, h⟩ => by
    obtain ⟨h4, h5⟩ := le.own b tg hb (hk tg List.mem_cons_self)
    refine ⟨b, off, e, h4, fun i t hi => ?_⟩
    obtain ⟨v, hc, hd⟩ := h i t hi
    refine ⟨v, ?_, t.mono le (fun u hu => hk u ?_) (fun u hu => hs u ?_) hd⟩
    · rw [← hc]; exact World.cell?_of_block (h5 (hs tg List.mem_cons_self))
    · exact List.mem_cons_of_mem _ (List.mem_flatMap.2 ⟨t, List.mem_of_getElem? hi, hu⟩)
    · exact List.mem_cons_of_mem _ (List.mem_flatMap.2 ⟨t, List.mem_of_getElem? hi, hu⟩), true, fun _ ⟨_, _, e, _⟩ => e ▸ rfl⟩
theorem Lj {w : World} {M : bC} {b off : Nat} {l : List Ty} (h : ∀ (i : Nat) (t : Ty), l[i]? = some t → ∃ u, w.cell? ⟨b, off + i, none⟩ = some u ∧ t.den w M u) : ∀ n, n ≤ l.length → ∃ cs : List Value, cs.length = n ∧ cI w M (l.take n) cs ∧ ∀ j v, cs[j]? = some v → w.cell? ⟨b, off + j, none⟩ = some v := by
  intro n
  induction n with
  | zero => exact fun _ => ⟨[], rfl, trivial, fun j v h => by simp at h⟩
  | succ n ih =>
    intro hn
    obtain ⟨cs, h1, h2, h3⟩ := ih (by omega)
    obtain ⟨v, hv, hd⟩ := h n l[n] (List.getElem?_eq_getElem (by omega))
    refine ⟨cs ++ [v], by simp [h1], ?_, fun j u hj => ?_⟩
    · rw [List.take_succ_eq_append_getElem (by omega)]
      exact jm h2 ⟨hd, trivial⟩
    · rcases Nat.lt_or_ge j cs.length with hj' | hj'
      · rw [List.getElem?_append_left hj'] at hj; exact h3 j u hj
      · rw [List.getElem?_append_right hj'] at hj
        have : j = n := by
          rcases Nat.lt_or_ge (j - cs.length) 1 with h | h
          · omega
          · rw [List.getElem?_eq_none (by simpa using h)] at hj; cases hj
        subst this
        rw [h1, Nat.sub_self] at hj
        simp at hj; subst hj; exact hv
section
variable {P : Program} {fr : Fr} {ops : Array Oper} {A : As} {rest : List Oper} {K : As → List (As × Fx) → Prop} {d : Nat} {t ty' : TypeId} {p : String} {e : Array Edge} [T : lD P]
theorem GZ {x : Operand} {tg : Nat} {l : List Ty} {ti : TI} {ty : Ty} (hx : A.op fr x = .op tg l) (hT : T.eN[ty']? = some ti) (ha : ti.k.agg = false) (hl : l[0]? = some ty)
 (h : bA P fr ops rest (A.set d ty) fun A' l => K A' ((A, { d := some d, ty := ty, rs := cJ x }) :: l)) : bA P fr ops (⟨some d, .load ty' x, t, p, e, none⟩ :: rest) A K :=
 bJ (bT rfl rfl fun a w M _ hr _ => by
  have := cV (x := x) (fun _ h => h) hr
  rw [hx] at this
  obtain ⟨b, off, e, _, hp⟩ := this
  obtain ⟨v, hv, hd⟩ := hp 0 ty hl
  have hv' : w.cell? ⟨b, off, none⟩ = some v := hv
  exact ⟨v, by simp [execOp, e, kC hT ha hv'], hd⟩) h
end
section
variable {P : Program} {fr : Fr} {A : As} {Q : Exit → Act → World → Prop} {c : Code}
theorem RE {α : Type} {E : El α} {T tg s : Nat} {xs : List α} (hs : Nat.blt s fr.n = true) (hx : A.slots s = .row E T tg xs)
    (h : fP P fr c ⟨fun i => bif Nat.beq i s then .vs tg xs.length else A.slots i, (tg, .vec E T xs) :: A.tags⟩ Q) : fP P fr c A Q := fun a w ⟨M, ok, hsl, ht⟩ => by
  have hd := hsl s (by simpa using hs)
  rw [hx] at hd
  obtain ⟨cs, h1, h2, h3⟩ := hd
  have key : nH tg xs.length w M (a.tmps.getD s undef) ∧ fX E T xs w M tg := by
    rcases h1.2 with ⟨e, h0⟩ | ⟨g, cap, cur, ex, _, hh, hn1, hcap, _, htk⟩
    · exact ⟨.inl ⟨h0, e⟩, .inl (List.length_eq_zero_iff.1 h0)⟩
    · have hg : M g = some tg := h3 g (by rw [ex]; rfl)
      exact ⟨.inr ⟨g, cap, hg, ex, hn1, hcap⟩, .inr ⟨g, cur, hg, hh, by rw [c6, htk]; exact h2⟩⟩
  refine h a w ⟨M, ok, fun i hi => ?_, fun x hx => ?_⟩
  · cases hb : Nat.beq i s with
    | false => simpa only [hb, cond_false] using hsl i hi
    | true =>
      have : i = s := Nat.eq_of_beq_eq_true hb
      subst this
      simp only [hb, cond_true]
      exact key.1
  · rcases List.mem_cons.1 hx with rfl | hx
    · exact key.2
    · exact ht x hx
def eE (M : bC) (tg : Nat) : bC := fun b => if M b = some tg then none else M b
theorem jN {w : World} {M : bC} {tg : Nat} : Le (· ∈ ([] : List Nat)) (· ∈ [tg]) w M w (eE M tg) :=
 ⟨Nat.le_refl _, rfl, rfl, rfl, fun b _ hm => ⟨by simp [eE, hm], rfl⟩, fun b t hm hk => ⟨by simp only [List.mem_singleton] at hk; simp [eE, hm, hk], fun _ => rfl⟩⟩
theorem AN {w : World} {M : bC} {tg : Nat} (wf : Wf w M) : Wf w (eE M tg) := by
 have key : ∀ b t, eE M tg b = some t → M b = some t := fun b t h => by
  unfold eE at h; split at h
  ·cases h
  exact h
 exact ⟨fun b t h => wf.lt b t (key b t h), fun b b' t ht1 h h' => wf.inj b b' t ht1 (key _ _ h) (key _ _ h')⟩
def yw (A : As) (tg s : Nat) (t : Ty) : Prop := ∀ w M v, Wf w M → (∀ x ∈ A.tags, x.2.den w M x.1) → (A.slots s).den w M v → t.den w (eE M tg) v
def D4 (A : As) (tg : Nat) : List (Nat × Ty) → Prop
  | [] => True
  | x :: l => yw A tg x.1 x.2 ∧ D4 A tg l
def pZ (l : List (Nat × Ty)) (s : Nat → Ty) : Nat → Ty := fun i => match l with | [] => s i | (d, t) :: l => bif Nat.beq i d then t else pZ l s i
def As.ql (A : As) (tg : Nat) (l : List (Nat × Ty)) : As := ⟨pZ l (gj [] [tg] A.slots), mz [] [tg] A.tags⟩
theorem k8 {tg : Nat} (l : List (Nat × Ty)) (h1 : 1 ≤ tg) (hp : fr.pass.contains tg = false) (hl : D4 A tg l) (h : fP P fr c (A.ql tg l) Q) : fP P fr c A Q := fun a w ⟨M, ok, hsl, ht⟩ => by
  have le : Le (· ∈ ([] : List Nat)) (· ∈ [tg]) w M w (eE M tg) := jN
  refine h a w ⟨eE M tg, ⟨AN ok.wf, Fr.jT ok.base (by intro _ h; cases h) (fun t ht => by simp only [List.mem_singleton] at ht; subst ht; exact ⟨h1, by simpa using hp⟩) le, ok.size, ok.defers.step (by intro _ h; cases h) (fun t ht => by simp only [List.mem_singleton] at ht; subst ht; exact h1) le⟩, fun i hi => ?_, fun x hx => iV le hx fun y hy _ => ht y hy⟩
  have base : (gj [] [tg] A.slots i).den w (eE M tg) (a.tmps.getD i undef) := by
    rcases fq [] [tg] A.slots i with ⟨e, hdj⟩ | ⟨_, e⟩
    · rw [e]; exact (A.slots i).mono le (fT hdj).1 (fT hdj).2 (hsl i hi)
    · rw [e]; trivial
  show (pZ l (gj [] [tg] A.slots) i).den _ _ _
  clear h
  induction l with
  | nil => exact base
  | cons x l ih =>
    obtain ⟨d, t⟩ := x
    unfold pZ
    cases hb : Nat.beq i d with
    | false => simp only [cond_false]; exact ih hl.2
    | true =>
      have : i = d := Nat.eq_of_beq_eq_true hb
      subst this
      simp only [cond_true]
      exact hl.1 w M _ ok.wf ht (hsl i hi)
theorem vw {α : Type} {E : El α} {T tg s : Nat} {xs : List α} (hx : A.slots s = .row E T tg xs) : yw A tg s (.sl E xs) := fun w M v wf _ hd => by
 rw [hx] at hd
 exact wW wf hd (fun b hb => by simp [eE, hb]) (fun b hb => by simp [eE, hb])
theorem P6 {α : Type} {E : El α} {T tg s n : Nat} {xs : List α} (hx : A.slots s = .vs tg n) (hc : A.tag tg = some (.vec E T xs)) (hn : xs.length = n) (h1 : gE tg) : yw A tg s (.sl E xs) := fun w M v wf ht hd => by
 rw [hx] at hd
 have hv : fX E T xs w M tg := ht _ (cj hc)
 subst hn
 rcases hd with ⟨h0, rfl⟩ | ⟨b, cc, hb, e, hn1, hn2⟩
 ·exact ⟨none, 0, by rw [h0], by omega, by simp [maxLen], fun h => absurd h (by omega)⟩
 refine ⟨_, cc, e, hn1, hn2, fun _ => ⟨b, 0, rfl, by simp [eE, hb], wf.lt b _ hb, fun i t hi => ?_⟩⟩
 obtain ⟨u, hu, hdu⟩ := mw wf h1 hb hv hi
 refine ⟨u, by rw [Nat.zero_add]; exact hu, t.mono (jN (w := w)) ?_ ?_ hdu⟩
 ·intro u hu
  have : u ∈ cF (xs.flatMap E.tys) := List.mem_flatMap.2 ⟨t, List.mem_of_getElem? hi, hu⟩
  rw [E.cY] at this; cases this
 intro u _ h; cases h
theorem mM {T tg s off : Nat} {l : List Ty} (hx : A.slots s = .ptr tg off) (hc : A.tag tg = some (.cells T l)) (hd : k7 (cF l) [tg] = true) (h1 : gE tg) : yw A tg s (.pp (l.drop off)) := fun w M v wf ht hv => by
 rw [hx] at hv
 obtain ⟨b, hb, e⟩ := hv
 have hcc : (Cont.cells T l).den w M tg := ht _ (cj hc)
 refine ⟨b, off, e, by simp [eE, hb], wf.lt b _ hb, fun i t hi => ?_⟩
 rw [List.getElem?_drop] at hi
 obtain ⟨u, hu, hdu⟩ := B8 wf h1 hb hcc hi
 refine ⟨u, hu, t.mono (jN (w := w)) ?_ ?_ hdu⟩
 ·intro u hu
  exact gN hd u (List.mem_flatMap.2 ⟨t, List.mem_of_getElem? hi, hu⟩)
 intro u _ h; cases h
end
end Go.T
namespace Go.T
open Go Go.RowKit
section
variable {P : Program} {fr : Fr} {ops : Array Oper} {A : As} {rest : List Oper} {K : As → List (As × Fx) → Prop} {d : Nat} {t ty' : TypeId} {p : String} {e : Array Edge}
theorem yL {α : Type} {E : El α} {T tg tg' : Nat} {xs : List α} {w : World} {M M' : bC} {v : Value} (h : fu E T tg xs w M v) (hM : ∀ b, M b = some tg → M' b = some tg') (hn : ∀ b, M b = none → M' b = none) : fu E T tg' xs w M' v := by
 obtain ⟨cs, h1, h2, h3⟩ := h
 refine ⟨cs, h1, ?_, fun g hg => hM g (h3 g hg)⟩
 exact bl (S := fun _ => True) (K := fun _ => True) ⟨Nat.le_refl _, rfl, rfl, rfl, fun b _ hm => ⟨hn b hm, rfl⟩, fun b t _ h => absurd trivial h⟩ (by rw [E.cY]; intro _ h; cases h) (by rw [E.cS]; intro _ h; cases h) h2
end
section
variable {P : Program} {fr : Fr} {ops : Array Oper} {A : As} {rest : List Oper} {K : As → List (As × Fx) → Prop} {d : Nat} {t ty' : TypeId} {p : String} {e : Array Edge} [T : lD P]
theorem xz {α : Type} {E : El α} {el : Nat} {ti te : TI} (hT : T.eN[ty']? = some ti) (hk : ti.k = .slice el) (hE : T.eN[el]? = some te) (hp : fr.pass.contains (d + 1) = false)
 (h : bA P fr ops rest (A.after { d := some d, ty := .row E el (d + 1) [], K := [d + 1] }) fun A' l' => K A' ((A, { d := some d, ty := .row E el (d + 1) [], K := [d + 1] }) :: l')) :
 bA P fr ops (⟨some d, .buildSlice ty' 0 #[], t, p, e, none⟩ :: rest) A K := by
 refine ⟨_, gC rfl rfl (by simp) (by simp) (by simp at hp ⊢; exact hp) fun a w M wf hr _ => ?_, h⟩
 obtain ⟨_, D, _, hD, hkd, _⟩ := cz hT
 rw [hk] at hkd
 cases D <;> simp only [TK.of, reduceCtorEq, TK.slice.injEq] at hkd
 rename_i el0
 have hel : el0 = el := hkd
 subst hel
 obtain ⟨h1, h2, h3⟩ := jh wf (.cells #[] el0) (d + 1)
 refine ⟨.slice (some ⟨w.heap.size, 0, none⟩) 0 0, w.alloc (.cells #[] el0), ?_, _, h1, h2, ⟨[], ⟨by simp, .inr ⟨w.heap.size, 0, #[], rfl, Nat.zero_le _, gq _ _, Nat.le_refl _, by simp [maxLen], by simp, by simp⟩⟩, trivial, ?_⟩, by simp⟩
 ·simp only [execOp, Instr.buildSlice, Sem.run_bind, run_underlying hD, Result.andThen_ok, dO hE]
  simp [newRow, newObj, Sem.run, Instr.fill, show Array.range 0 = #[] from rfl, Sem.new]
 intro g hg
 simp [Value.ownBlock] at hg
 subst hg; exact h3
end
end Go.T
namespace Go.T
open Go Go.RowKit
def oS (P : Program) (t : Ty) (args : List Ty) (res : Ty) : Prop :=
  res.deps = [] ∧ res.cdeps = [] ∧ ∃ f full, dJ P f full res ∧ cF full = [] ∧ bY full = [] ∧
    ∀ w M v vs, t.den w M v → cI w M args vs → ∃ first caps : Array Value, v = .func (.func f) first caps ∧ cI w M full (first.toList ++ (vs ++ caps.toList))
def Ra (f : FuncId) (bd : List Ty) (w : World) (M : bC) (x : Value) : Prop := ∃ bs : Array Value, x = .func (.func f) bs #[] ∧ cI w M bd bs.toList
def Ty.RI (f : FuncId) (bd : List Ty) : Ty := ⟨Ra f bd, cF bd, bY bd, fun le hk hs ⟨bs, e, h⟩ => ⟨bs, e, bl le hk hs h⟩, true, fun _ ⟨_, e, _⟩ => e ▸ rfl⟩
theorem wT {l l' : List Ty} : cF (l ++ l') = cF l ++ cF l' := by simp [cF]
theorem vR {l l' : List Ty} : bY (l ++ l') = bY l ++ bY l' := by simp [bY]
theorem dU {P : Program} {f : FuncId} {caps args : List Ty} {res : Ty} (hF : dJ P f (args ++ caps) res) (h1 : cF args = []) (h2 : bY args = []) (h3 : cF caps = []) (h4 : bY caps = []) (h5 : res.deps = []) (h6 : res.cdeps = []) : oS P (.jw f caps) args res :=
 ⟨h5, h6, f, args ++ caps, hF, by rw [wT, h1, h3]; rfl, by rw [vR, h2, h4]; rfl, fun w M v vs ⟨cs, e, hd⟩ hv => ⟨#[], cs, e, by show cI w M (args ++ caps) (vs ++ cs.toList); exact fB hv hd⟩⟩
theorem FL {P : Program} {f : FuncId} {bd args : List Ty} {res : Ty} (hF : dJ P f (bd ++ args) res) (h1 : cF args = []) (h2 : bY args = []) (h3 : cF bd = []) (h4 : bY bd = []) (h5 : res.deps = []) (h6 : res.cdeps = []) : oS P (.RI f bd) args res :=
 ⟨h5, h6, f, bd ++ args, hF, by rw [wT, h1, h3]; rfl, by rw [vR, h2, h4]; rfl, fun w M v vs ⟨bs, e, hd⟩ hv => ⟨bs, #[], e, by rw [List.append_nil]; exact fB hd hv⟩⟩
section
variable {P : Program} {fr : Fr} {ops : Array Oper} {A : As} {rest : List Oper} {K : As → List (As × Fx) → Prop} {d : Nat} {t ty' : TypeId} {p : String} {e : Array Edge}
theorem H7 {f : FuncId} {xs : List Operand} {l : List Ty} (hx : oW A fr xs = l)
 (h : bA P fr ops rest (A.set d (.RI f l)) fun A' l' => K A' ((A, { d := some d, ty := .RI f l, rs := xs.flatMap cJ }) :: l')) : bA P fr ops (⟨some d, .makeFunc (.func f) xs.toArray #[], t, p, e, none⟩ :: rest) A K :=
 bJ (bT rfl rfl fun a w M _ hr _ => by
  have hv : cI w M l (xs.map a.eval) := hx ▸ iD hr fun x hx c hc => List.mem_flatMap.2 ⟨x, hx, hc⟩
  exact ⟨.func (.func f) (xs.map a.eval).toArray #[], by simp [execOp, Instr.makeFunc], _, rfl, by simpa using hv⟩) h
theorem eV {c : Nat} {tc : Ty} {args : List Ty} {res : Ty} (hc : A.op fr (.tmp c) = tc) (hF : oS P tc args res) {xs : List Operand} {ats : Array TypeId} (hx : oW A fr xs = args)
 (h : bA P fr ops rest (A.set d res) fun A' l => K A' ((A, { d := some d, ty := res, rs := c :: xs.flatMap cJ }) :: l)) : bA P fr ops (⟨some d, .call ⟨.value (.tmp c), xs.toArray, ats⟩, t, p, e, none⟩ :: rest) A K := by
 refine ⟨{ d := some d, ty := res, rs := c :: xs.flatMap cJ }, ⟨rfl, (by simp), (by simp), (by simp), fun a w M wf _ hrd _ => ?_⟩, h⟩
 rw [if_pos (by simp [Region.wanted])]
 obtain ⟨hr, hrc, f, full, hC, hd, hdc, hval⟩ := hF
 have hcv := cV (x := .tmp c) (fun u hu => by exact (List.mem_singleton.1 hu) ▸ List.mem_cons_self) hrd
 rw [hc] at hcv
 obtain ⟨first, caps, ec, hfull⟩ := hval w M _ _ hcv (hx ▸ iD hrd fun x hx c hc => List.mem_cons_of_mem _ (List.mem_flatMap.2 ⟨x, hx, hc⟩))
 have hcall := hC.2 w _ _ (LI wf) CX (sR hd hdc hfull)
 have hrun : (execOp a.eval ⟨some d, .call ⟨.value (.tmp c), xs.toArray, ats⟩, t, p, e, none⟩).run P w = .ok (.enter f (first.toList ++ (xs.map a.eval ++ caps.toList)).toArray) w := by
  simp [execOp, resolve, ec, Deferred.ofValue, invoke, nu hC]
 refine mK hrun ?_
 refine hcall.mono fun en w' ⟨r, M', he, _, le, hden⟩ => ?_
 obtain ⟨h1, h2, h3⟩ := zO wf le hr hrc hden
 exact ⟨r, he, r, rfl, _, h1, h2, h3, by simp⟩
end
end Go.T
namespace Go.T
open Go Go.RowKit
section
variable {P : Program} {fr : Fr} {ops : Array Oper} {A : As} {rest : List Oper} {K : As → List (As × Fx) → Prop} {d : Nat} {t ty' ty2 : TypeId} {p : String} {e : Array Edge} {x y : Operand}
end
end Go.T
namespace Go.T
open Go Go.RowKit
section
variable {P : Program} {fr : Fr} {ops : Array Oper} {A : As} {rest : List Oper} {K : As → List (As × Fx) → Prop} {d : Nat} {t ty' : TypeId} {p : String} {e : Array Edge} [T : lD P]
variable {α : Type} [Inhabited α] {E : El α} {xs : List α} {x y : Operand} {tg i o s Tb : Nat} {ti : TI} {ty : Ty} {z : α}
theorem tH {off n : Nat} {k : IntKind} {j : Int} {te : TI} {el : Nat} (hx : A.op fr x = .ptr tg off) (hy : A.op fr y = .int k j) (hT : T.eN[ty']? = some ti) (hk : ti.k = .array n el) (hE : T.eN[el]? = some te) (h0 : 0 ≤ j) (h1 : j.toNat < n)
 (h : bA P fr ops rest (A.set d (.ptr tg (off + j.toNat * te.size))) fun A' l' => K A' ((A, { d := some d, ty := .ptr tg (off + j.toNat * te.size), rs := cJ x ++ cJ y }) :: l')) : bA P fr ops (⟨some d, .indexAddr ty' x y, t, p, e, none⟩ :: rest) A K :=
 bJ (bT rfl rfl fun a w M _ hr _ => by
  obtain ⟨hdx, hdy⟩ := op2 hr
  rw [hx] at hdx; rw [hy] at hdy
  obtain ⟨b, hb, ex⟩ := hdx
  have ey : a.eval y = .int k j := hdy
  exact ⟨_, by simp only [execOp, ex, ey, Sem.run_bind, oU hT hk hE h0 h1]; rfl, b, hb, rfl⟩) h
end
end Go.T
namespace Go.T
open Go Go.RowKit
section
variable {P : Program} {fr : Fr} {ops : Array Oper} {A : As} {rest : List Oper} {K : As → List (As × Fx) → Prop} {d : Nat} {t ty' ty2 : TypeId} {p : String} {e : Array Edge} [T : lD P]
variable {α : Type} [Inhabited α] {E : El α} {xs ys : List α} {x y : Operand} {tg i o s Tb : Nat} {ti : TI} {ty : Ty} {z : α}
theorem iO (hx : A.op fr x = .ptr tg 0) (hc : A.tag tg = some (.vec E Tb xs)) (h1 : gE tg) (hT : T.eN[ty']? = some ti) (ha : ti.k.agg = true) (hsz : xs.length * E.size = ti.size) (hne : xs ≠ [])
 (h : bA P fr ops rest (A.set d (.arr E xs)) fun A' l' => K A' ((A, { d := some d, ty := .arr E xs, rs := cJ x, rt := [tg] }) :: l')) : bA P fr ops (⟨some d, .load ty' x, t, p, e, none⟩ :: rest) A K :=
 bJ (bT rfl rfl fun a w M wf hr ht => by
  have _ := (inferInstance : Inhabited α)
  have := cV (x := x) (fun _ h => h) hr
  rw [hx] at this
  obtain ⟨b, hb, e⟩ := this
  rcases sn hc w M ht with h0 | ⟨b', cs, hb', hh, hd⟩
  ·exact absurd h0 hne
  obtain ⟨u, rfl⟩ : ∃ u, tg = u + 1 := ⟨tg - 1, by omega⟩
  have := wf.inj b b' u (by omega) hb hb'
  subst this
  have hlen := cW hd
  rw [c6] at hlen hd
  refine ⟨.agg (cs.toList.take (xs.length * E.size)).toArray, ?_, _, rfl, by simpa using hd⟩
  have := iJ (P := P) hT ha (w := w) (b := b) (off := 0) (cs := cs.toList.take (xs.length * E.size)) (by rw [hlen, hsz]) (fun j v hj => by
   rw [List.getElem?_take] at hj
   split at hj
   ·simpa [World.cell?, hh] using hj
   cases hj)
  simp [execOp, e, this]) h
omit T in
theorem Pg {c : Bool} (hE : JX P ty' (xs.flatMap E.tys) (ys.flatMap E.tys) c) (hx : A.op fr x = .arr E xs) (hy : A.op fr y = .arr E ys)
 (h : bA P fr ops rest (A.set d (.bool c)) fun A' l' => K A' ((A, { d := some d, ty := .bool c, rs := cJ x ++ cJ y }) :: l')) : bA P fr ops (⟨some d, .binOp .eql ty' x y ty2, t, p, e, none⟩ :: rest) A K :=
 bJ (bT rfl rfl fun a w M _ hrd _ => by
  have _ := (inferInstance : Inhabited α)
  obtain ⟨hdx, hdy⟩ := op2 hrd
  rw [hx] at hdx; rw [hy] at hdy
  obtain ⟨cs, ex, h1⟩ := hdx
  obtain ⟨ds, ey, h2⟩ := hdy
  exact ⟨.bool c, by simp only [execOp, ex, ey]; simp [eqGuard, hE.1, binOp, hE.2 w M cs ds h1 h2], rfl⟩) h
theorem Cc {l : List Ty} (hx : A.op fr x = .ptr tg 0) (hc : A.tag tg = some (.cells Tb l)) (h1 : gE tg) (hT : T.eN[ty']? = some ti) (hy : A.op fr y = .arr E xs) (hsz : xs.length * E.size = ti.size) (hlen : l.length = ti.size)
 (h : bA P fr ops rest (A.after { d := none, S := [tg], sets := [(tg, .vec E Tb xs)], rs := cJ x ++ cJ y, rt := [tg] }) fun A' l'' => K A' ((A, { d := none, S := [tg], sets := [(tg, .vec E Tb xs)], rs := cJ x ++ cJ y, rt := [tg] }) :: l'')) :
 bA P fr ops (⟨none, .store ty' x y, t, p, e, none⟩ :: rest) A K := by
 have _ := (inferInstance : Inhabited α)
 refine ⟨_, l7 rfl rfl rfl (by simp) (by simpa using h1.1) (by simp) fun a w M wf hr ht => ?_, h⟩
 obtain ⟨hdx, hdy⟩ := op2 hr
 rw [hx] at hdx; rw [hy] at hdy
 obtain ⟨b, hb, ex⟩ := hdx
 obtain ⟨vs, ey, hvs⟩ := hdy
 obtain ⟨b', cs, hb', hh, hd⟩ := ht _ (cj hc) (by simp)
 obtain ⟨u, rfl⟩ : ∃ u, tg = u + 1 := ⟨tg - 1, by omega⟩
 have := wf.inj b b' u (by omega) hb hb'
 subst this
 have hl1 := cW hd
 have hl2 := cW hvs
 rw [c6] at hl2
 obtain ⟨h1', h2', h3'⟩ := kZ (cs' := vs) (Tb := Tb) wf hb _ rfl
 have hones : ∀ v ∈ vs.toList, v.oneCell' = true := kO hvs (lY E xs)
 refine ⟨_, ?_, M, h1', h2', trivial, ?_⟩
 ·have hst := jG (P := P) (w := w) (b := b) (Tb := Tb) vs.toList [] cs hh (by simp at hl1 hl2 ⊢; omega) (by simp) hones
  have hsz' : vs.size = ti.size := by simp at hl2; omega
  simp only [List.length_nil, List.nil_append] at hst
  simp [execOp, Instr.storeAt, Instr.sureAddr, ex, ey, storeVar, Value.cells, dO hT, hsz', hst]
 intro z hz
 simp only [List.mem_singleton] at hz
 subst hz
 exact Al ⟨b, vs, hb, h3', bl h2' (by intro _ _ h; cases h) (by rw [E.cS]; intro _ h; cases h) hvs⟩
end
section
variable {P : Program} {A : As} {fn : Func} {n : Nat} {w0 : World} {M0 : bC} [T : lD P]
theorem Lh {α : Type} {E : El α} {xs : List α} {tm ty tg Tb : Nat} {ti : TI} (hr : fn.results = #[.cell tm ty]) (ht : Nat.blt tm n = true) (hx : A.slots tm = .ptr tg 0) (hc : A.tag tg = some (.vec E Tb xs)) (h1 : gE tg) (hT : T.eN[ty]? = some ti) (ha : ti.k.agg = true) (hsz : xs.length * E.size = ti.size) (hne : xs ≠ []) :
 dQ ⟨n, w0, M0, [], .plain⟩ A (bodyPost P fn (lV w0 M0 (.arr E xs)) .ret) := by
 intro a w ⟨M, ok, hsl, htg⟩
 have hd := hsl tm (by simpa using ht)
 rw [hx] at hd
 obtain ⟨b, hb, e⟩ := hd
 have hv : fX E Tb xs w M tg := htg _ (cj hc)
 rcases hv with h0 | ⟨b', cs, hb', hh, hds⟩
 ·exact absurd h0 hne
 obtain ⟨u, rfl⟩ : ∃ u, tg = u + 1 := ⟨tg - 1, by omega⟩
 have := ok.wf.inj b b' u (by omega) hb hb'
 subst this
 have hlen := cW hds
 rw [c6] at hlen hds
 have hload := iJ (P := P) hT ha (w := w) (b := b) (off := 0) (cs := cs.toList.take (xs.length * E.size)) (by rw [hlen, hsz]) (fun j v hj => by
  rw [List.getElem?_take] at hj
  split at hj
  ·simpa [World.cell?, hh] using hj
  cases hj)
 have hload' : (loadVar ty ⟨b, 0, none⟩).run P w = .ok (.agg (cs.toList.take (xs.length * E.size)).toArray) w := by simpa [Instr.loadAt, Instr.sureAddr] using hload
 refine ⟨ok.gl (by simp), .agg (cs.toList.take (xs.length * E.size)).toArray, ?_, _, og M, rfl, qi ok.wf, nO (fr := ⟨n, w0, M0, [], .plain⟩) (fun _ h => h) ok.base, (cG rfl rfl : gU (Ty.arr E xs) (Ty.arr E xs)) _ _ _ ok.wf ⟨_, rfl, by simpa using hds⟩⟩
 have e' : a.tmps.getD tm undef = .pointer (some ⟨b, 0, none⟩) := e
 have e'' : a.tmps[tm]?.getD undef = .pointer (some ⟨b, 0, none⟩) := by rw [← Array.getD_eq_getD_getElem?]; exact e'
 simp [results, hr, e'', asAddr, hload']
end
section
variable {P : Program} {fr : Fr} {ops : Array Oper} {A : As} {rest : List Oper} {K : As → List (As × Fx) → Prop} {d : Nat} {t ty' ty2 : TypeId} {p : String} {e : Array Edge} {x y : Operand}
end
end Go.T
namespace Go.T
open Go Go.RowKit
structure Re (ρ : List (Nat × Nat)) (M M' : bC) : Prop where
  none : ∀ b, M b = none → M' b = none
  some : ∀ x ∈ ρ, ∀ b, M b = some x.1 → M' b = some x.2
def Conv (ρ : List (Nat × Nat)) (s t : Ty) : Prop := ∀ w M M' v, Wf w M → Wf w M' → Re ρ M M' → s.den w M v → t.den w M' v
def lp (ρ : List (Nat × Nat)) : List Ty → List Ty → Prop
  | [], [] => True
  | s :: ss, t :: ts => Conv ρ s t ∧ lp ρ ss ts
  | _, _ => False
theorem bX {ρ : List (Nat × Nat)} : lp ρ [] [] := trivial
theorem aN {ρ : List (Nat × Nat)} {s t : Ty} {ss ts : List Ty} (h' : lp ρ ss ts) (h : Conv ρ s t) : lp ρ (s :: ss) (t :: ts) := ⟨h, h'⟩
theorem kN {ρ : List (Nat × Nat)} {w : World} {M M' : bC} (wf : Wf w M) (wf' : Wf w M') (hre : Re ρ M M') : ∀ {ss ts : List Ty} {vs : List Value}, lp ρ ss ts → cI w M ss vs → cI w M' ts vs
  | [], [], [], _, _ => trivial
  | _ :: _, _ :: _, _ :: _, ⟨h, h'⟩, ⟨h1, h2⟩ => ⟨h _ _ _ _ wf wf' hre h1, kN wf wf' hre h' h2⟩
theorem zX {ρ : List (Nat × Nat)} : ∀ {ss ts : List Ty}, lp ρ ss ts → ∀ (i : Nat) (t : Ty), ts[i]? = some t → ∃ s, ss[i]? = some s ∧ Conv ρ s t
  | [], [], _, i, t, h => by simp at h
  | s :: ss, u :: ts, ⟨h, h'⟩, i, t, ht => by
    cases i with
    | zero => simp at ht; subst ht; exact ⟨s, by simp, h⟩
    | succ i => simp at ht; obtain ⟨x, hx, hc⟩ := zX h' i t ht; exact ⟨x, by simpa using hx, hc⟩
theorem aU {ρ : List (Nat × Nat)} {t : Ty} (h1 : t.deps = []) (h2 : t.cdeps = []) : Conv ρ t t := fun w M M' v _ _ hre h =>
 t.mono (S := fun _ => True) (K := fun _ => True) ⟨Nat.le_refl _, rfl, rfl, rfl, fun b _ hm => ⟨hre.none b hm, rfl⟩, fun b t _ h => absurd trivial h⟩ (by rw [h1]; intro _ h; cases h) (by rw [h2]; intro _ h; cases h) h
theorem pK {ρ : List (Nat × Nat)} {s t : Ty} (h1 : t.deps = []) (h2 : t.cdeps = []) (h : s = t) : Conv ρ s t := by subst h; exact aU h1 h2
theorem jg {ρ : List (Nat × Nat)} {a b off : Nat} (h : (a, b) ∈ ρ) : Conv ρ (.ptr a off) (.ptr b off) := fun _ _ _ _ _ _ hre ⟨k, hk, e⟩ => ⟨k, hre.some _ h k hk, e⟩
theorem De {ρ : List (Nat × Nat)} {α : Type} {E : El α} {T a b : Nat} {xs : List α} (h : (a, b) ∈ ρ) : Conv ρ (.row E T a xs) (.row E T b xs) := fun _ _ _ _ _ _ hre hr =>
 yL hr (fun k hk => hre.some _ h k hk) hre.none
theorem zf {ρ : List (Nat × Nat)} {α : Type} {E : El α} {T b : Nat} : Conv ρ (.ex (.slice none 0 0)) (.row E T b ([] : List α)) := fun _ _ _ _ _ _ _ h => Ty.gZ _ _ _ h
theorem Jh {ρ : List (Nat × Nat)} {α : Type} {E : El α} : Conv ρ (.ex (.slice none 0 0)) (.sl E ([] : List α)) := fun _ _ _ _ _ _ _ h => Ty.yA _ _ _ h
theorem dg {ρ : List (Nat × Nat)} {a b n : Nat} (h : (a, b) ∈ ρ) : Conv ρ (.vs a n) (.vs b n) := fun _ _ _ _ _ _ hre hv =>
 hv.imp id fun ⟨k, c, hk, e, h1, h2⟩ => ⟨k, c, hre.some _ h k hk, e, h1, h2⟩
theorem Ob {ρ : List (Nat × Nat)} {l l' : List Ty} (h : lp ρ l l') : Conv ρ (.agg l) (.agg l') := fun _ _ _ _ wf wf' hre ⟨cs, e, hd⟩ => ⟨cs, e, kN wf wf' hre h hd⟩
theorem EZ {ρ : List (Nat × Nat)} {l l' : List Ty} (h : lp ρ l l') : Conv ρ (.j8 l) (.j8 l') := fun _ _ _ _ wf wf' hre ⟨cs, e, hd⟩ => ⟨cs, e, kN wf wf' hre h hd⟩
theorem tj {ρ : List (Nat × Nat)} {f : FuncId} {l l' : List Ty} (h : lp ρ l l') : Conv ρ (.jw f l) (.jw f l') := fun _ _ _ _ wf wf' hre ⟨cs, e, hd⟩ => ⟨cs, e, kN wf wf' hre h hd⟩
theorem fJ {ρ : List (Nat × Nat)} {l l' : List Ty} (h : lp ρ l l') : Conv ρ (.pp l) (.pp l') := fun _ _ _ _ wf wf' hre ⟨b, off, e, hm, hlt, hd⟩ =>
 ⟨b, off, e, hre.none b hm, hlt, fun i t ht => let ⟨s, hs, hc⟩ := zX h i t ht; let ⟨v, hv, hdv⟩ := hd i s hs; ⟨v, hv, hc _ _ _ _ wf wf' hre hdv⟩⟩
def pH (ρ : List (Nat × Nat)) (a : Nat) (C : Cont) (b : Nat) (D : Cont) : Prop := ∀ w M M', Wf w M → Wf w M' → Re ρ M M' → C.den w M a → D.den w M' b
theorem gm {ρ : List (Nat × Nat)} {a b T : Nat} {l l' : List Ty} (h : (a, b) ∈ ρ) (hc : lp ρ l l') : pH ρ a (.cells T l) b (.cells T l') := fun _ _ _ wf wf' hre ⟨k, cs, h1, h2, h3⟩ =>
 ⟨k, cs, hre.some _ h k h1, h2, kN wf wf' hre hc h3⟩
theorem g9 {w : World} {M M' : bC} (hre : ∀ b, M b = none → M' b = none) {l : List Ty} {vs : List Value} (h1 : cF l = []) (h2 : bY l = []) (h : cI w M l vs) : cI w M' l vs :=
 bl (S := fun _ => True) (K := fun _ => True) ⟨Nat.le_refl _, rfl, rfl, rfl, fun b _ hm => ⟨hre b hm, rfl⟩, fun b t _ h => absurd trivial h⟩ (by rw [h1]; intro _ h; cases h) (by rw [h2]; intro _ h; cases h) h
theorem bp {ρ : List (Nat × Nat)} {a b T : Nat} {α : Type} {E : El α} {xs ys : List α} (h : (a, b) ∈ ρ) (e : xs = ys) : pH ρ a (.vec E T xs) b (.vec E T ys) := fun _ _ _ _ _ hre hd => by
 subst e
 exact hd.imp id fun ⟨k, cs, h1, h2, h3⟩ => ⟨k, cs, hre.some _ h k h1, h2, g9 hre.none (E.cY _) (E.cS _) h3⟩
theorem kg {ρ : List (Nat × Nat)} {a b T : Nat} {l l' : List Ty} (h : (a, b) ∈ ρ) (h1 : cF l' = []) (h2 : bY l' = []) (e : l = l') : pH ρ a (.cells T l) b (.cells T l') := fun _ _ _ _ _ hre ⟨k, cs, h3, h4, h5⟩ => by
 subst e
 exact ⟨k, cs, hre.some _ h k h3, h4, g9 hre.none h1 h2 h5⟩
def cL (F : List Nat) (post : List (Nat × Cont)) (w0 : World) (M0 : bC) (res : Ty) (e : Ending) (w' : World) : Prop :=
  ∃ r M', e = .returned r ∧ Wf w' M' ∧ Le (fun t => 1 ≤ t) (fun t => 1 ≤ t ∧ t ∉ F) w0 M0 w' M' ∧ res.den w' M' r ∧ ∀ x ∈ post, x.2.den w' M' x.1
def eP (P : Program) (f : FuncId) (F : List Nat) (pre : List (Nat × Cont)) (args : List Ty) (post : List (Nat × Cont)) (res : Ty) : Prop :=
  (∃ fn, P.funcs[f]? = some fn ∧ (fn.name == "runtime.NumGoroutine") = false ∧ fn.body.isNone = false) ∧
  ∀ w M vs, Wf w M → cI w M args vs → (∀ x ∈ pre, x.2.den w M x.1) → Calls P f vs.toArray w (cL F post w M res)
section
variable {P : Program} {fr : Fr} {ops : Array Oper} {A : As} {rest : List Oper} {K : As → List (As × Fx) → Prop} {d : Nat} {t ty' : TypeId} {p : String} {e : Array Edge}
def uH (args : List Ty) (pre : List (Nat × Cont)) : As := ⟨fun c => (args[c]?).getD Ty.any, pre⟩
theorem fS {f : FuncId} {fn : Func} {c : Code} {F : List Nat} {pre post : List (Nat × Cont)} {args : List Ty} {res : Ty} {n : Nat} (hf : P.funcs[f]? = some fn) (hb : fn.body = some c) (hn : (fn.name == "runtime.NumGoroutine") = false) (hnt : fn.ntmps = n) (hl : args.length ≤ n)
    (h : ∀ w0 M0, fP P ⟨n, w0, M0, F, .plain⟩ c (uH args pre) (bodyPost P fn (cL F post w0 M0 res))) : eP P f F pre args post res := by
  refine ⟨⟨fn, hf, hn, by rw [hb]; rfl⟩, fun w M vs wf hd hpre => calls_of_wp hf hb (wpIn_wide.1 (h w M _ _ ?_))⟩
  have hlen := cW hd
  refine ⟨M, ⟨wf, Le.refl _ _ _ _, by simp [hnt, hlen]; omega, Defs.nil⟩, fun c hc => ?_, hpre⟩
  simp only [uH]
  cases ha : args[c]? with
  | none => trivial
  | some ty =>
    obtain ⟨v, hv, hdv⟩ := dW hd c ty ha
    have : (vs.toArray ++ Array.replicate (fn.ntmps - vs.toArray.size) undef).getD c undef = v := by
      have hlt : c < vs.length := (List.getElem?_eq_some_iff.1 hv).1
      rw [Array.getD_eq_getD_getElem?, Array.getElem?_append_left (by simpa using hlt)]
      simp [hv]
    rw [this]; exact hdv
def o8 (L : List Nat) (M : bC) : bC := fun b => match M b with | none => none | some t => if t = 0 ∨ t ∈ L then some t else none
theorem uU {L : List Nat} {M : bC} {b : Nat} (h : M b = none) : o8 L M b = none := by simp [o8, h]
theorem Fc {L : List Nat} {M : bC} {b t : Nat} (h : M b = some t) (ht : t = 0 ∨ t ∈ L) : o8 L M b = some t := by simp [o8, h, ht]
theorem Ly {L : List Nat} {M : bC} {b t : Nat} (h : M b = some t) (h0 : 1 ≤ t) (ht : t ∉ L) : o8 L M b = none := by
 have : ¬ (t = 0 ∨ t ∈ L) := fun h => h.elim (by omega) ht
 simp [o8, h, this]
theorem uV {L : List Nat} {M : bC} {b t : Nat} (h : o8 L M b = some t) : M b = some t := by
 unfold o8 at h
 split at h
 ·cases h
 rename_i u hu
 split at h
 ·rw [← h]; exact hu
 cases h
theorem qj {L : List Nat} {w : World} {M : bC} (wf : Wf w M) : Wf w (o8 L M) :=
 ⟨fun b t h => wf.lt b t (uV h), fun b b' t ht1 h h' => wf.inj b b' t ht1 (uV h) (uV h')⟩
def NP (L : List Nat) : List (Nat × Nat) := L.map fun x => (x, x)
theorem GR {L : List Nat} {M : bC} : Re (NP L) M (o8 L M) :=
 ⟨fun b h => uU h, fun x hx b h => by
  obtain ⟨y, hy, rfl⟩ := List.mem_map.1 hx
  exact Fc h (.inr hy)⟩
def Br (L : List Nat) (s t : Ty) : Prop := ∀ w M v, Wf w M → s.den w M v → t.den w (o8 L M) v
theorem iR {L : List Nat} {s t : Ty} (h : Conv (NP L) s t) : Br L s t := fun w M v wf hs => h w M _ v wf (qj wf) GR hs
theorem Im {L : List Nat} {α : Type} {E : El α} {T tg : Nat} {xs ys : List α} (h : 1 ≤ tg) (hL : L.contains tg = false) (e : xs = ys) : Br L (Ty.row E T tg xs) (Ty.sl E ys) := fun w M v wf hr => by
 subst e
 exact wW wf hr (fun b hb => Ly hb h (by simpa using hL)) (fun b hb => uU hb)
def q9 (A : As) (L : List Nat) : List (Nat × Cont) → Prop
  | [] => True
  | (b, D) :: r => (∃ C, A.tag b = some C ∧ pH (NP L) b C b D) ∧ q9 A L r
theorem gS {L : List Nat} : q9 A L [] := trivial
theorem eG {L : List Nat} {b : Nat} {C D : Cont} {r : List (Nat × Cont)} (h : A.tag b = some C) (hc : pH (NP L) b C b D) (h' : q9 A L r) : q9 A L ((b, D) :: r) := ⟨⟨C, h, hc⟩, h'⟩
theorem x7 {L : List Nat} {w : World} {M : bC} (wf : Wf w M) (ht : ∀ x ∈ A.tags, x.2.den w M x.1) : ∀ {r : List (Nat × Cont)}, q9 A L r → ∀ x ∈ r, x.2.den w (o8 L M) x.1
  | (b, D) :: r, ⟨⟨C, h, hc⟩, h'⟩, x, hx => by
    rcases List.mem_cons.1 hx with rfl | hx
    · exact hc w M _ wf (qj wf) GR (ht _ (cj h))
    · exact x7 wf ht h' x hx
theorem qT {L : List Nat} {fr : Fr} {w : World} {M : bC} (hL : ∀ t ∈ fr.pass, t ∈ L) (hb : fr.base w M) : Le fr.kd.KF (fun t => 1 ≤ t ∧ t ∉ fr.pass) fr.w0 fr.M0 w (o8 L M) :=
 ⟨hb.size, hb.os, hb.tape, hb.out, fun b hlt hm => ⟨uU (hb.ql b hlt hm).1, (hb.ql b hlt hm).2⟩, fun b t hm ht => by
  obtain ⟨h1, h2⟩ := hb.own b t hm ht
  refine ⟨Fc h1 ?_, fun hs => h2 hs⟩
  by_cases h0 : t = 0
  ·exact .inl h0
  refine .inr (hL t ?_)
  by_cases h : t ∈ fr.pass
  ·exact h
  exact absurd ⟨by omega, h⟩ ht⟩
section
variable {fn : Func} {n : Nat} {w0 : World} {M0 : bC} {F : List Nat} {post : List (Nat × Cont)}
theorem JM (L : List Nat) (hr : fn.results = #[]) (hL : ∀ t ∈ F, t ∈ L) (hp : q9 A L post) : dQ ⟨n, w0, M0, F, .plain⟩ A (bodyPost P fn (cL F post w0 M0 (Ty.j8 [])) .ret) := by
 intro a w ⟨M, ok, hsl, ht⟩
 exact ⟨ok.gl (by simp), _, results_none hr _ _ _, _, o8 L M, rfl, qj ok.wf, qT hL ok.base, ⟨_, rfl, trivial⟩, x7 ok.wf ht hp⟩
theorem iq (L : List Nat) {tm : Nat} {res : Ty} (hr : fn.results = #[.tmp tm]) (htm : Nat.blt tm n = true) (hL : ∀ t ∈ F, t ∈ L) (hp : q9 A L post) (hs : Br L (A.slots tm) res) : dQ ⟨n, w0, M0, F, .plain⟩ A (bodyPost P fn (cL F post w0 M0 res) .ret) := by
 intro a w ⟨M, ok, hsl, ht⟩
 exact ⟨ok.gl (by simp), _, results_tmp hr _ _ _, _, o8 L M, rfl, qj ok.wf, qT hL ok.base, hs _ _ _ ok.wf (hsl tm (by simpa using htm)), x7 ok.wf ht hp⟩
theorem Ab (L : List Nat) {t1 t2 : Nat} {r1 r2 : Ty} (hr : fn.results = #[.tmp t1, .tmp t2]) (h1 : Nat.blt t1 n = true) (h2 : Nat.blt t2 n = true) (hL : ∀ t ∈ F, t ∈ L) (hp : q9 A L post) (hs1 : Br L (A.slots t1) r1) (hs2 : Br L (A.slots t2) r2) :
 dQ ⟨n, w0, M0, F, .plain⟩ A (bodyPost P fn (cL F post w0 M0 (Ty.j8 [r1, r2])) .ret) := by
 intro a w ⟨M, ok, hsl, ht⟩
 exact ⟨ok.gl (by simp), _, results_tmp2 hr _ _ _, _, o8 L M, rfl, qj ok.wf, qT hL ok.base, ⟨_, rfl, hs1 _ _ _ ok.wf (hsl t1 (by simpa using h1)), hs2 _ _ _ ok.wf (hsl t2 (by simpa using h2)), trivial⟩, x7 ok.wf ht hp⟩
end
theorem q5 {f : FuncId} {F : List Nat} {pre post : List (Nat × Cont)} {args : List Ty} {res : Ty} (hF : eP P f F pre args post res) (vs : Array Value) (w : World) : (callFunc f vs).run P w = .ok (.enter f vs) w := by
 obtain ⟨⟨fn, hf, hn, hb⟩, _⟩ := hF
 have hn' : fn.name ≠ "runtime.NumGoroutine" := by simpa using hn
 have hb' : fn.body ≠ none := fun h => by rw [h] at hb; cases hb
 simp [callFunc, hf, hn', hb']
def p8 (ρ : List (Nat × Nat)) (M : bC) : bC := fun b => match M b with | none => none | some t => some ((ρ.lookup t).getD 0)
def sQ (ρ : List (Nat × Nat)) : Bool := ρ.all fun x => Nat.ble 1 x.1 && (Nat.ble 1 x.2 && (Nat.blt x.1 4096 == Nat.blt x.2 4096 && ρ.all fun y => (x.1 == y.1) == (x.2 == y.2)))
theorem kI {ρ : List (Nat × Nat)} (h : sQ ρ = true) : ∀ x ∈ ρ, 1 ≤ x.1 ∧ 1 ≤ x.2 ∧ ∀ y ∈ ρ, (x.1 = y.1 ↔ x.2 = y.2) := by
 intro x hx
 simp only [sQ, List.all_eq_true, Bool.and_eq_true, Nat.ble_eq, beq_iff_eq] at h
 obtain ⟨h1, h2, _, h3⟩ := h x hx
 refine ⟨h1, h2, fun y hy => ?_⟩
 have := h3 y hy
 rw [Bool.eq_iff_iff] at this
 simpa using this
theorem wB {ρ : List (Nat × Nat)} (h : sQ ρ = true) {a b : Nat} (hm : (a, b) ∈ ρ) : a < 4096 ↔ b < 4096 := by
 simp only [sQ, List.all_eq_true, Bool.and_eq_true, beq_iff_eq] at h
 have := (h _ hm).2.2.1
 rw [Bool.eq_iff_iff] at this
 simpa using this
theorem jY {ρ : List (Nat × Nat)} {a b : Nat} (h : ρ.lookup a = some b) : (a, b) ∈ ρ := by
  induction ρ with
  | nil => cases h
  | cons x l ih =>
    obtain ⟨k, v⟩ := x
    rw [List.lookup_cons] at h
    by_cases e : a = k
    · subst e; simp at h; subst h; exact List.mem_cons_self
    · have : (a == k) = false := by simpa using e
      rw [this] at h; exact List.mem_cons_of_mem _ (ih h)
theorem pJ {ρ : List (Nat × Nat)} (h : sQ ρ = true) {a b : Nat} (hm : (a, b) ∈ ρ) : ρ.lookup a = some b := by
  cases hl : ρ.lookup a with
  | none =>
    exfalso
    induction ρ with
    | nil => cases hm
    | cons x l ih =>
      obtain ⟨k, v⟩ := x
      rw [List.lookup_cons] at hl
      by_cases e : a = k
      · subst e; simp at hl
      · have e' : (a == k) = false := by simpa using e
        rw [e'] at hl
        rcases List.mem_cons.1 hm with hm | hm
        · exact e (congrArg Prod.fst hm)
        · refine ih ?_ hm hl
          simp only [sQ, List.all_eq_true, List.mem_cons, forall_eq_or_imp, Bool.and_eq_true] at h ⊢
          exact fun x hx => ⟨(h.2 x hx).1, (h.2 x hx).2.1, (h.2 x hx).2.2.1, (h.2 x hx).2.2.2.2⟩
  | some c =>
    have := ((kI h _ hm).2.2 _ (jY hl)).1 rfl
    exact congrArg some this.symm
theorem yD {ρ : List (Nat × Nat)} {M : bC} {b g : Nat} (h : p8 ρ M b = some g) (h1 : 1 ≤ g) : ∃ t, M b = some t ∧ (t, g) ∈ ρ := by
  unfold p8 at h
  split at h
  · cases h
  · rename_i t ht
    cases hl : ρ.lookup t with
    | none => rw [hl] at h; injection h with h; simp at h; omega
    | some c => rw [hl] at h; injection h with h; simp at h; subst h; exact ⟨t, ht, jY hl⟩
theorem oO {ρ : List (Nat × Nat)} {M : bC} {b : Nat} (h : M b = none) : p8 ρ M b = none := by simp [p8, h]
theorem B0 {ρ : List (Nat × Nat)} (hr : sQ ρ = true) {M : bC} {b t g : Nat} (h : M b = some t) (hm : (t, g) ∈ ρ) : p8 ρ M b = some g := by simp [p8, h, pJ hr hm]
theorem y6 {ρ : List (Nat × Nat)} {M : bC} {b t : Nat} (h : M b = some t) (hm : ρ.lookup t = none) : p8 ρ M b = some 0 := by simp [p8, h, hm]
theorem Km {ρ : List (Nat × Nat)} (hr : sQ ρ = true) {w : World} {M : bC} (wf : Wf w M) : Wf w (p8 ρ M) := by
  refine ⟨fun b t h => ?_, fun b b' t ht1 h h' => ?_⟩
  · cases hm : M b with
    | none => rw [oO hm] at h; cases h
    | some u => exact wf.lt b u hm
  · obtain ⟨u, hu, m⟩ := yD h (by omega)
    obtain ⟨u', hu', m'⟩ := yD h' (by omega)
    have e : u = u' := ((kI hr _ m).2.2 _ m').2 rfl
    subst e
    obtain ⟨v, rfl⟩ : ∃ v, u = v + 1 := ⟨u - 1, by have := (kI hr _ m).1; omega⟩
    exact wf.inj b b' v (by have := wB hr m; omega) hu hu'
theorem Bf {ρ : List (Nat × Nat)} (hr : sQ ρ = true) {M : bC} : Re ρ M (p8 ρ M) := ⟨fun _ h => oO h, fun _ hx _ h => B0 hr h hx⟩
def lF (ρ : List (Nat × Nat)) : List (Nat × Nat) := ρ.map fun x => (x.2, x.1)
theorem NC {ρ : List (Nat × Nat)} (h : sQ ρ = true) : sQ (lF ρ) = true := by
 simp only [sQ, lF, List.all_eq_true, Bool.and_eq_true, List.mem_map] at h ⊢
 rintro _ ⟨x, hx, rfl⟩
 obtain ⟨h1, h2, h4, h3⟩ := h x hx
 refine ⟨h2, h1, by simpa using (beq_iff_eq.1 h4).symm, ?_⟩
 rintro _ ⟨y, hy, rfl⟩
 have := h3 y hy
 simp only [beq_iff_eq] at this ⊢
 exact this.symm
def pP (w : World) (ρ : List (Nat × Nat)) (mv : List Nat) (M M' : bC) : bC := fun b =>
  if b < w.heap.size ∧ (∀ t, M b = some t → t ∉ mv) then M b else (M' b).bind fun g => (lF ρ).lookup g
theorem D9 {ρ : List (Nat × Nat)} {mv F : List Nat} {w w' : World} {M M' : bC} (hr : sQ ρ = true) (hmv : ∀ x ∈ ρ, x.1 ∈ mv ∨ x.2 ∈ F) (hmr : ∀ t ∈ mv, ∃ g, (t, g) ∈ ρ) (wf : Wf w M) (wf' : Wf w' M') (le : Le (fun t => 1 ≤ t) (fun t => 1 ≤ t ∧ t ∉ F) w (p8 ρ M) w' M') :
    Wf w' (pP w ρ mv M M') ∧ Le (· ∈ ρ.map Prod.fst) (· ∈ mv) w M w' (pP w ρ mv M M') ∧ Re (lF ρ) M' (pP w ρ mv M M') := by
  have hsw := NC hr
  have memsw : ∀ {t g : Nat}, (t, g) ∈ ρ → (g, t) ∈ lF ρ := fun h => List.mem_map.2 ⟨_, h, rfl⟩
  have memsw' : ∀ {t g : Nat}, (g, t) ∈ lF ρ → (t, g) ∈ ρ := fun h => by
    obtain ⟨⟨a, b⟩, hx, he⟩ := List.mem_map.1 h
    injection he with h1 h2
    subst h1; subst h2; exact hx
  -- an old block whose tag stays
  have old : ∀ b t, M b = some t → t ∉ mv → M' b = some ((ρ.lookup t).getD 0) := fun b t hm hn => by
    cases hl : ρ.lookup t with
    | none => exact (le.own b 0 (y6 hm hl) (by omega)).1
    | some g =>
      have hx := jY hl
      have hg : g ∈ F := (hmv _ hx).resolve_left hn
      exact (le.own b g (B0 hr hm hx) (fun h => h.2 hg)).1
  have key : ∀ b, M' b = none → pP w ρ mv M M' b = none := fun b h => by
    unfold pP
    split
    · rename_i hc
      cases hm : M b with
      | none => rfl
      | some t => rw [old b t hm (hc.2 t hm)] at h; cases h
    · rw [h]; rfl
  have key2 : ∀ t g, (t, g) ∈ ρ → ∀ b, M' b = some g → pP w ρ mv M M' b = some t := fun t g hx b h => by
    have h1 := (kI hr _ hx)
    unfold pP
    split
    · rename_i hc
      cases hm : M b with
      | none =>
        have := (le.ql b hc.1 (oO hm)).1
        rw [this] at h; cases h
      | some u =>
        have h2 := old b u hm (hc.2 u hm)
        rw [h2] at h
        injection h with h
        cases hl : ρ.lookup u with
        | none => rw [hl] at h; simp at h; omega
        | some c =>
          rw [hl] at h; simp at h; subst h
          have := (h1.2.2 _ (jY hl)).2 rfl
          exact congrArg some this.symm
    · rw [h]; exact pJ hsw (memsw hx)
  refine ⟨⟨fun b t h => ?_, fun b b' t ht1 h h' => ?_⟩, ⟨le.size, le.os, le.tape, le.out, fun b hb hm => ?_, fun b t hm hk => ?_⟩, ⟨key, fun x hx b h => key2 _ _ (memsw' hx) b h⟩⟩
  · unfold pP at h
    split at h
    · rename_i hc; exact Nat.lt_of_lt_of_le hc.1 le.size
    · obtain ⟨g, hg, _⟩ := Option.bind_eq_some_iff.1 h
      exact wf'.lt b g hg
  · -- injective
    have part : ∀ b, pP w ρ mv M M' b = some (t + 1) → (M b = some (t + 1) ∧ t + 1 ∉ mv) ∨ ∃ g, (t + 1, g) ∈ ρ ∧ M' b = some g ∧ 1 ≤ g := fun b h => by
      unfold pP at h
      split at h
      · rename_i hc; exact .inl ⟨h, hc.2 _ h⟩
      · obtain ⟨g, hg, hl⟩ := Option.bind_eq_some_iff.1 h
        have hx := memsw' (jY hl)
        exact .inr ⟨g, hx, hg, (kI hr _ hx).2.1⟩
    have both : ∀ b b' g, (t + 1, g) ∈ ρ → M' b = some g → 1 ≤ g → (M b' = some (t + 1) ∧ t + 1 ∉ mv) → b = b' := fun b b' g hx hg h1 ⟨hm, hn⟩ => by
      have h2 := old b' _ hm hn
      rw [pJ hr hx] at h2
      simp at h2
      obtain ⟨v, rfl⟩ : ∃ v, g = v + 1 := ⟨g - 1, by omega⟩
      exact wf'.inj b b' v (by have := wB hr hx; omega) hg h2
    rcases part b h with h1 | ⟨g, hx, hg, h1⟩ <;> rcases part b' h' with h2 | ⟨g', hx', hg', h2⟩
    · exact wf.inj b b' t ht1 h1.1 h2.1
    · exact (both b' b g' hx' hg' h2 h1).symm
    · exact both b b' g hx hg h1 h2
    · have : g = g' := ((kI hr _ hx).2.2 _ hx').1 rfl
      subst this
      obtain ⟨v, rfl⟩ : ∃ v, g = v + 1 := ⟨g - 1, by omega⟩
      exact wf'.inj b b' v (by have := wB hr hx; omega) hg hg'
  · obtain ⟨h1, h2⟩ := le.ql b hb (oO hm)
    exact ⟨key b h1, h2⟩
  · have hb := wf.lt b t hm
    refine ⟨?_, fun hs => ?_⟩
    · unfold pP
      rw [if_pos ⟨hb, fun u hu => by rw [hm] at hu; injection hu with hu; exact hu ▸ hk⟩]; exact hm
    · have hl : ρ.lookup t = none := by
        cases hl : ρ.lookup t with
        | none => rfl
        | some c => exact absurd (List.mem_map.2 ⟨_, jY hl, rfl⟩) hs
      exact (le.own b 0 (y6 hm hl) (by omega)).2 (by omega)
def RT (fr : Fr) (ρ : List (Nat × Nat)) (mv F : List Nat) : Bool :=
  sQ ρ && (ρ.all (fun x => mv.contains x.1 || F.contains x.2) && mv.all fun t => Nat.ble 1 t && (!fr.pass.contains t && ρ.any fun x => x.1 == t))
def Q6 (d : Option Nat) (res : Ty) (ρ : List (Nat × Nat)) (mv : List Nat) (sets : List (Nat × Cont)) (rs : List Nat) : Fx := { d := d, ty := res, S := ρ.map Prod.fst, K := mv, sets := sets, rs := rs, rt := ρ.map Prod.fst }
def uy (A : As) (ρ : List (Nat × Nat)) : List (Nat × Cont) → Prop
  | [] => True
  | (b, D) :: r => (∃ a C, (a, b) ∈ ρ ∧ A.tag a = some C ∧ pH ρ a C b D) ∧ uy A ρ r
theorem pre_nil {ρ : List (Nat × Nat)} : uy A ρ [] := trivial
theorem dA {ρ : List (Nat × Nat)} {a b : Nat} {C D : Cont} {r : List (Nat × Cont)} (hm : (a, b) ∈ ρ) (h : A.tag a = some C) (hc : pH ρ a C b D) (h' : uy A ρ r) : uy A ρ ((b, D) :: r) := ⟨⟨a, C, hm, h, hc⟩, h'⟩
theorem E1 {ρ : List (Nat × Nat)} {w : World} {M M' : bC} (wf : Wf w M) (wf' : Wf w M') (hre : Re ρ M M') (ht : ∀ x ∈ A.tags, x.1 ∈ ρ.map Prod.fst → x.2.den w M x.1) : ∀ {r : List (Nat × Cont)}, uy A ρ r → ∀ x ∈ r, x.2.den w M' x.1
  | (b, D) :: r, ⟨⟨a, C, hm, h, hc⟩, h'⟩, x, hx => by
    rcases List.mem_cons.1 hx with rfl | hx
    · exact hc w M M' wf wf' hre (ht _ (cj h) (List.mem_map.2 ⟨_, hm, rfl⟩))
    · exact E1 wf wf' hre ht h' x hx
def nq (post : List (Nat × Cont)) (ρ : List (Nat × Nat)) : List (Nat × Cont) → Prop
  | [] => True
  | (a, D) :: r => (∃ b C, (a, b) ∈ ρ ∧ post.lookup b = some C ∧ pH (lF ρ) b C a D) ∧ nq post ρ r
theorem post_nil {ρ : List (Nat × Nat)} {post : List (Nat × Cont)} : nq post ρ [] := trivial
theorem bk {ρ : List (Nat × Nat)} {a b : Nat} {C D : Cont} {post r : List (Nat × Cont)} (hm : (a, b) ∈ ρ) (h : post.lookup b = some C) (hc : pH (lF ρ) b C a D) (h' : nq post ρ r) : nq post ρ ((a, D) :: r) := ⟨⟨b, C, hm, h, hc⟩, h'⟩
theorem Cn {ρ : List (Nat × Nat)} {post : List (Nat × Cont)} {w : World} {M M' : bC} (wf : Wf w M) (wf' : Wf w M') (hre : Re (lF ρ) M M') (ht : ∀ x ∈ post, x.2.den w M x.1) : ∀ {r : List (Nat × Cont)}, nq post ρ r → ∀ x ∈ r, x.1 ∈ ρ.map Prod.fst ∧ x.2.den w M' x.1
  | (a, D) :: r, ⟨⟨b, C, hm, h, hc⟩, h'⟩, x, hx => by
    rcases List.mem_cons.1 hx with rfl | hx
    · exact ⟨List.mem_map.2 ⟨_, hm, rfl⟩, hc w M M' wf wf' hre (ht _ (cj (A := ⟨fun _ => Ty.any, post⟩) h))⟩
    · exact Cn wf wf' hre ht h' x hx
theorem zE {ρ : List (Nat × Nat)} {post : List (Nat × Cont)} : ∀ {r : List (Nat × Cont)}, nq post ρ r → ∀ x ∈ r, x.1 ∈ ρ.map Prod.fst
  | (a, D) :: r, ⟨⟨b, C, hm, h, hc⟩, h'⟩, x, hx => by
    rcases List.mem_cons.1 hx with rfl | hx
    · exact List.mem_map.2 ⟨_, hm, rfl⟩
    · exact zE h' x hx
theorem AD (ρ : List (Nat × Nat)) (mv : List Nat) {f : FuncId} {F : List Nat} {pre post sets : List (Nat × Cont)} {args ss : List Ty} {res res' : Ty} (hF : eP P f F pre args post res) {dst : Option Nat} {call : Call} {rs : List Nat}
 (hrun : ∀ (a : Act) w M, Wf w M → (∀ c ∈ rs, c < fr.n → (A.slots c).den w M (a.tmps.getD c undef)) → ∃ vs : List Value, (execOp a.eval ⟨dst, .call call, t, p, e, none⟩).run P w = .ok (.enter f vs.toArray) w ∧ cI w M ss vs)
 (hok : RT fr ρ mv F = true) (ha : lp ρ ss args) (hpre : uy A ρ pre) (hpost : nq post ρ sets) (hres : Conv (lF ρ) res res') :
 xp P fr ops ⟨dst, .call call, t, p, e, none⟩ A (Q6 dst res' ρ mv sets rs) := by
 simp only [RT, Bool.and_eq_true] at hok
 obtain ⟨hr, hmv, hmr⟩ := hok
 simp only [List.all_eq_true, Bool.or_eq_true, List.contains_iff_mem] at hmv
 simp only [List.all_eq_true, Bool.and_eq_true, Nat.ble_eq, List.any_eq_true, beq_iff_eq, Bool.not_eq_true', ← Bool.not_eq_true, List.contains_iff_mem] at hmr
 refine ⟨rfl, fun x hx => .inl (zE hpost x hx), fun u hu => ?_, fun u hu => ⟨(hmr u hu).1, (hmr u hu).2.1⟩, fun a w M wf _ hrd htg => ?_⟩
 ·obtain ⟨x, hx, rfl⟩ := List.mem_map.1 hu
  exact (kI hr x hx).1
 rw [if_pos (by simp [Region.wanted])]
 obtain ⟨vs, hrun, hd⟩ := hrun a w M wf hrd
 have wfg := Km hr wf
 have hc := hF.2 w _ vs wfg (kN wf wfg (Bf hr) ha hd) (E1 wf wfg (Bf hr) htg hpre)
 refine mK hrun ?_
 refine hc.mono fun en w' ⟨r, M', he, wf', le, hden, hp⟩ => ?_
 obtain ⟨h1, h2, h3⟩ := D9 (mv := mv) hr hmv (fun u hu => by obtain ⟨x, hx, e⟩ := (hmr u hu).2.2; exact ⟨x.2, by rw [← e]; exact hx⟩) wf wf' le
 exact ⟨r, he, r, rfl, _, h1, h2, hres _ _ _ _ wf' h1 h3 hden, fun x hx => (Cn wf' h1 h3 hp hpost x hx).2⟩
theorem ym {f : FuncId} {F : List Nat} {pre post : List (Nat × Cont)} {args : List Ty} {res : Ty} (hF : eP P f F pre args post res) {dst : Option Nat} {xs : List Operand} {ats : Array TypeId} {ss : List Ty} (hx : oW A fr xs = ss) (a : Act) (w : World) (M : bC) (_ : Wf w M)
 (hrd : ∀ c ∈ xs.flatMap cJ, c < fr.n → (A.slots c).den w M (a.tmps.getD c undef)) : ∃ vs : List Value, (execOp a.eval ⟨dst, .call ⟨.value (.func f), xs.toArray, ats⟩, t, p, e, none⟩).run P w = .ok (.enter f vs.toArray) w ∧ cI w M ss vs := by
 refine ⟨xs.map a.eval, ?_, hx ▸ iD hrd fun x hx c hc => List.mem_flatMap.2 ⟨x, hx, hc⟩⟩
 simp [execOp, resolve, Act.eval, Deferred.ofValue, invoke, q5 hF]
theorem dL (ρ : List (Nat × Nat)) (mv : List Nat) (sets : List (Nat × Cont)) {f : FuncId} {F : List Nat} {pre post : List (Nat × Cont)} {args ss : List Ty} {res res' : Ty} (hF : eP P f F pre args post res) {dst : Option Nat} {xs : List Operand} {ats : Array TypeId}
 (hx : oW A fr xs = ss) (hok : RT fr ρ mv F = true) (ha : lp ρ ss args) (hpre : uy A ρ pre) (hpost : nq post ρ sets) (hres : Conv (lF ρ) res res')
 (h : bA P fr ops rest (A.after (Q6 dst res' ρ mv sets (xs.flatMap cJ))) fun A' l => K A' ((A, Q6 dst res' ρ mv sets (xs.flatMap cJ)) :: l)) : bA P fr ops (⟨dst, .call ⟨.value (.func f), xs.toArray, ats⟩, t, p, e, none⟩ :: rest) A K :=
 ⟨_, AD ρ mv hF (ym hF hx) hok ha hpre hpost hres, h⟩
theorem xI {c : Nat} {f : FuncId} {F : List Nat} {pre post : List (Nat × Cont)} {args caps : List Ty} {res : Ty} (hc : A.op fr (.tmp c) = .jw f caps) (hF : eP P f F pre args post res) {dst : Option Nat} {xs : List Operand} {ats : Array TypeId} {ss : List Ty} (hx : oW A fr xs ++ caps = ss) (a : Act) (w : World) (M : bC) (_ : Wf w M)
 (hrd : ∀ u ∈ c :: xs.flatMap cJ, u < fr.n → (A.slots u).den w M (a.tmps.getD u undef)) : ∃ vs : List Value, (execOp a.eval ⟨dst, .call ⟨.value (.tmp c), xs.toArray, ats⟩, t, p, e, none⟩).run P w = .ok (.enter f vs.toArray) w ∧ cI w M ss vs := by
 have hcv := cV (x := .tmp c) (fun u hu => by exact (List.mem_singleton.1 hu) ▸ List.mem_cons_self) hrd
 rw [hc] at hcv
 obtain ⟨cs, ec, hcs⟩ := hcv
 refine ⟨xs.map a.eval ++ cs.toList, ?_, hx ▸ fB (iD hrd fun x hx c hc => List.mem_cons_of_mem _ (List.mem_flatMap.2 ⟨x, hx, hc⟩)) hcs⟩
 simp [execOp, resolve, ec, Deferred.ofValue, invoke, q5 hF]
theorem CR (ρ : List (Nat × Nat)) (mv : List Nat) (sets : List (Nat × Cont)) {c : Nat} {f : FuncId} {F : List Nat} {pre post : List (Nat × Cont)} {args caps ss : List Ty} {res res' : Ty} (hc : A.op fr (.tmp c) = .jw f caps) (hF : eP P f F pre args post res) {dst : Option Nat} {xs : List Operand} {ats : Array TypeId}
 (hx : oW A fr xs ++ caps = ss) (hok : RT fr ρ mv F = true) (ha : lp ρ ss args) (hpre : uy A ρ pre) (hpost : nq post ρ sets) (hres : Conv (lF ρ) res res')
 (h : bA P fr ops rest (A.after (Q6 dst res' ρ mv sets (c :: xs.flatMap cJ))) fun A' l => K A' ((A, Q6 dst res' ρ mv sets (c :: xs.flatMap cJ)) :: l)) : bA P fr ops (⟨dst, .call ⟨.value (.tmp c), xs.toArray, ats⟩, t, p, e, none⟩ :: rest) A K :=
 ⟨_, AD ρ mv hF (xI hc hF hx) hok ha hpre hpost hres, h⟩
end
end Go.T
namespace Go.T
open Go Go.RowKit
def e9 {κ β : Type} [DecidableEq κ] : List (κ × β) → κ → Option β
  | [], _ => none
  | x :: l, k => if x.1 = k then some x.2 else e9 l k
def iE {κ β : Type} [DecidableEq κ] : List (κ × β) → κ → β → List (κ × β)
  | [], k, v => [(k, v)]
  | x :: l, k, v => if x.1 = k then (k, v) :: l else x :: iE l k v
theorem y9 {κ β : Type} [DecidableEq κ] (l : List (κ × β)) (k : κ) (v : β) (k' : κ) : e9 (iE l k v) k' = if k = k' then some v else e9 l k' := by
  induction l with
  | nil => simp [iE, e9]
  | cons x l ih =>
    simp only [iE]
    by_cases h : x.1 = k
    · subst h; simp only [if_true, e9]; by_cases h2 : x.1 = k' <;> simp [h2]
    · rw [if_neg h]; simp only [e9, ih]
      by_cases h2 : x.1 = k'
      · subst h2; rw [if_pos rfl, if_pos rfl, if_neg (fun e => h e.symm)]
      · rw [if_neg h2, if_neg h2]
structure yf (P : Program) (kt : TypeId) (κ : Type) [DecidableEq κ] where
  enc : κ → Value
  find : ∀ (k : κ) (ks : List κ) (es : List MapEntry) (w : World), es.map (·.key) = ks.map enc →
    (Instr.findKey kt (enc k) es).run P w = .ok ((ks.findIdx? (fun x => decide (x = k))).bind fun i => (es[i]?).map fun e => (i, e.val)) w
  check : ∀ (b : Bool) (k : κ) (w : World), (Instr.checkKey b 10000 kt (enc k)).run P w = .ok () w
  same : ∀ k, Instr.sameBits 10000 (enc k) (enc k) = true
theorem vI (kt : IntKind) (k : Int) : ∀ (ks : List Int) (es : List MapEntry) (i : Nat), es.map (·.key) = ks.map (Value.int kt) →
    Instr.findNow (.int kt) (.int kt k) es i = some ((ks.findIdx? (fun x => decide (x = k))).bind fun j => (es[j]?).map fun e => (i + j, e.val))
  | [], [], i, _ => rfl
  | [], e :: es, i, h => by cases h
  | x :: ks, [], i, h => by cases h
  | x :: ks, e :: es, i, h => by
    simp only [List.map_cons, List.cons.injEq] at h
    obtain ⟨h1, h2⟩ := h
    rw [Instr.findNow, h1]
    simp only [Instr.sameNow, if_true]
    by_cases hx : x = k
    · subst hx; simp [List.findIdx?_cons]
    · have hb : (k == x) = false := by rw [beq_eq_false_iff_ne]; exact fun e => hx e.symm
      rw [hb, vI kt k ks es (i + 1) h2]
      simp only [List.findIdx?_cons, decide_eq_false hx, Bool.false_eq_true, if_false]
      cases (ks.findIdx? fun x => decide (x = k)) with
      | none => rfl
      | some j => simp [Nat.add_assoc, Nat.add_comm]; rw [show j + (i + 1) = i + (j + 1) from by omega]
theorem IL {P : Program} (kt : TypeId) (q : IntKind) (h : P.underlying kt = some (.int q)) (b : Bool) (k : Int) (n : Nat) (w : World) : (Instr.checkKey b (n + 1) kt (.int q k)).run P w = .ok () w := by simp [Instr.checkKey, underlying, h]
theorem Js (q : IntKind) (k : Int) (n : Nat) : Instr.sameBits n (.int q k) (.int q k) = true := by cases n <;> simp [Instr.sameBits]
def P5 (P : Program) (kt : TypeId) (q : IntKind) (h : P.underlying kt = some (.int q)) : yf P kt Int where
  enc := Value.int q
  find k ks es w he := by
    have := vI q k ks es 0 he
    simp [Instr.findKey, underlying, h, this]
  check b k w := IL kt q h b k 9999 w
  same k := Js q k 10000
section
variable {κ β : Type} [DecidableEq κ]
def AR (enc : κ → Value) (vt : β → Ty) (kvs : List (κ × β)) (w : World) (M : bC) (b : Nat) : Prop :=
  ∃ es clock, w.heap[b]? = some (.map es clock) ∧ es.toList.map (·.key) = kvs.map (fun x => enc x.1) ∧ cI w M (kvs.map fun x => vt x.2) (es.toList.map (·.val))
theorem rm {enc : κ → Value} {vt : β → Ty} (hv : ∀ v, (vt v).deps = [] ∧ (vt v).cdeps = []) {kvs : List (κ × β)} {S K : Nat → Prop} {w w' : World} {M M' : bC} {b : Nat} (le : Le S K w M w' M') (hb : w'.heap[b]? = w.heap[b]?) (h : AR enc vt kvs w M b) : AR enc vt kvs w' M' b := by
 have _ := (inferInstance : DecidableEq κ)
 obtain ⟨es, clock, h1, h2, h3⟩ := h
 refine ⟨es, clock, hb.trans h1, h2, bl le (fun u hu => ?_) (fun u hu => ?_) h3⟩
 ·simp only [cF, List.mem_flatMap, List.mem_map] at hu
  obtain ⟨t, ⟨x, _, rfl⟩, hu⟩ := hu
  rw [(hv x.2).1] at hu; cases hu
 simp only [bY, List.mem_flatMap, List.mem_map] at hu
 obtain ⟨t, ⟨x, _, rfl⟩, hu⟩ := hu
 rw [(hv x.2).2] at hu; cases hu
structure VT (β : Type) where
  ty : β → Ty
  nodeps : ∀ v, (ty v).deps = [] ∧ (ty v).cdeps = []
def g8 (enc : κ → Value) (V : VT β) (kvs : List (κ × β)) (w : World) (M : bC) (t : Nat) : Prop := ∃ b, M b = some t ∧ AR enc V.ty kvs w M b
def Cont.mp (enc : κ → Value) (V : VT β) (kvs : List (κ × β)) : Cont :=
  { den := g8 enc V kvs
    mono := fun le _ _ hs hk ⟨b, h1, h2⟩ => let ⟨h3, h4⟩ := le.own b _ h1 hk; ⟨b, h3, rm V.nodeps le (h4 hs) h2⟩ }
theorem Cont.wo {enc : κ → Value} {V : VT β} {k1 k2 : List (κ × β)} (h : k1 = k2) : (Cont.mp enc V k1).Sub (Cont.mp enc V k2) := by subst h; exact Cont.aF _
def nY (tg : Nat) (_ : World) (M : bC) (v : Value) : Prop := ∃ b, v = .map (some b) ∧ M b = some tg
def Ty.mp (tg : Nat) : Ty := ⟨nY tg, [tg], [], fun le hk _ ⟨b, e, h⟩ => ⟨b, e, (le.own b tg h (hk tg (by simp))).1⟩, true, fun _ ⟨_, e, _⟩ => e ▸ rfl⟩
def nV (enc : κ → Value) (V : VT β) (kvs : List (κ × β)) (w : World) (M : bC) (v : Value) : Prop := ∃ b, v = .map (some b) ∧ M b = none ∧ b < w.heap.size ∧ AR enc V.ty kvs w M b
def Ty.pm (enc : κ → Value) (V : VT β) (kvs : List (κ × β)) : Ty := ⟨nV enc V kvs, [], [], fun le _ _ ⟨b, e, h, hb, h2⟩ => let ⟨h3, h4⟩ := le.ql b hb h; ⟨b, e, h3, Nat.lt_of_lt_of_le hb le.size, rm V.nodeps le h4 h2⟩, true, fun _ ⟨_, e, _⟩ => e ▸ rfl⟩
end
section
variable {P : Program} {κ β : Type} [DecidableEq κ]
theorem pQ (kvs : List (κ × β)) (k : κ) (i : Nat) (h : (kvs.map Prod.fst).findIdx? (fun x => decide (x = k)) = some i) : ∃ v, kvs[i]? = some (k, v) ∧ e9 kvs k = some v ∧ ∀ z, iE kvs k z = kvs.set i (k, z) := by
  induction kvs generalizing i with
  | nil => cases h
  | cons x l ih =>
    rw [List.map_cons, List.findIdx?_cons] at h
    by_cases hx : x.1 = k
    · subst hx
      simp at h; subst h
      exact ⟨x.2, by simp, by simp [e9], fun z => by simp [iE]⟩
    · rw [decide_eq_false hx] at h
      simp only [Bool.false_eq_true, if_false, Option.map_eq_some_iff] at h
      obtain ⟨j, hj, rfl⟩ := h
      obtain ⟨v, h1, h2, h3⟩ := ih j hj
      exact ⟨v, by simpa using h1, by simp [e9, hx, h2], fun z => by simp [iE, hx, h3]⟩
theorem qp (kvs : List (κ × β)) (k : κ) (h : (kvs.map Prod.fst).findIdx? (fun x => decide (x = k)) = none) : e9 kvs k = none ∧ ∀ z, iE kvs k z = kvs ++ [(k, z)] := by
  induction kvs with
  | nil => exact ⟨rfl, fun _ => rfl⟩
  | cons x l ih =>
    rw [List.map_cons, List.findIdx?_cons] at h
    by_cases hx : x.1 = k
    · simp [hx] at h
    · rw [decide_eq_false hx] at h
      simp only [Bool.false_eq_true, if_false, Option.map_eq_none_iff] at h
      obtain ⟨h1, h2⟩ := ih h
      exact ⟨by simp [e9, hx, h1], fun z => by simp [iE, hx, h2]⟩
theorem sJ {kt : TypeId} (KK : yf P kt κ) {vt : β → Ty} {kvs : List (κ × β)} {w : World} {M : bC} {es : Array MapEntry} (h2 : es.toList.map (·.key) = kvs.map (fun x => KK.enc x.1)) (h3 : cI w M (kvs.map fun x => vt x.2) (es.toList.map (·.val))) (k : κ) :
    (∃ i v e, (kvs.map Prod.fst).findIdx? (fun x => decide (x = k)) = some i ∧ e9 kvs k = some v ∧ es[i]? = some e ∧ e.key = KK.enc k ∧ (vt v).den w M e.val ∧ (Instr.findKey kt (KK.enc k) es.toList).run P w = .ok (some (i, e.val)) w) ∨
    ((kvs.map Prod.fst).findIdx? (fun x => decide (x = k)) = none ∧ e9 kvs k = none ∧ (Instr.findKey kt (KK.enc k) es.toList).run P w = .ok none w) := by
  have hf := KK.find k (kvs.map Prod.fst) es.toList w (by rw [h2, List.map_map]; rfl)
  cases hi : (kvs.map Prod.fst).findIdx? (fun x => decide (x = k)) with
  | none => right; rw [hi] at hf; exact ⟨rfl, (qp kvs k hi).1, hf⟩
  | some i =>
    left
    rw [hi] at hf
    obtain ⟨v, hv, hg, _⟩ := pQ kvs k i hi
    have hl : i < es.toList.length := by
      have := congrArg List.length h2
      rw [List.length_map, List.length_map] at this
      rw [this]; exact (List.getElem?_eq_some_iff.1 hv).1
    obtain ⟨u, hu, hd⟩ := dW h3 i (vt v) (by rw [List.getElem?_map, hv]; rfl)
    rw [List.getElem?_map, List.getElem?_eq_getElem hl] at hu
    injection hu with hu
    have hk := congrArg (fun l : List Value => l[i]?) h2
    simp only [List.getElem?_map, hv, List.getElem?_eq_getElem hl, Option.map_some] at hk
    injection hk with hk
    refine ⟨i, v, es.toList[i], rfl, hg, ?_, hk, hu ▸ hd, ?_⟩
    · rw [← Array.getElem?_toList, List.getElem?_eq_getElem hl]
    · rw [hf]; show Result.ok ((es.toList[i]?).map _) w = _; rw [List.getElem?_eq_getElem hl]; rfl
end
def zeroOf (P : Program) (t : TypeId) : Option Value := (P.info? t).bind (·.zero)
theorem yN {P : Program} {t : TypeId} {z : Value} (h : zeroOf P t = some z) (w : World) : (zeroValue t).run P w = .ok z w := by
  unfold zeroOf at h
  cases hi : P.info? t with
  | none => rw [hi] at h; cases h
  | some i =>
    rw [hi] at h
    have h' : i.zero = some z := h
    simp [zeroValue, typeInfo, hi, h']
def mapOf (P : Program) (t : TypeId) : Option (TypeId × TypeId) := match P.underlying t with | some (.map k e) => some (k, e) | _ => none
theorem qZ {P : Program} {t k e : TypeId} (h : mapOf P t = some (k, e)) : P.underlying t = some (.map k e) := by
 unfold mapOf at h
 split at h
 ·rename_i k' e' hu; injection h with h; injection h with h1 h2; subst h1; subst h2; exact hu
 cases h
section
variable {P : Program} {fr : Fr} {ops : Array Oper} {A : As} {rest : List Oper} {K : As → List (As × Fx) → Prop} {d : Nat} {t mt kt et : TypeId} {p : String} {e : Array Edge}
variable {κ β : Type} [DecidableEq κ]
theorem IG (enc : κ → Value) (V : VT β) (hm : mapOf P mt = some (kt, et)) (hp : fr.pass.contains (d + 1) = false)
 (h : bA P fr ops rest (A.after { d := some d, ty := .mp (d + 1), K := [d + 1], sets := [(d + 1, .mp enc V [])] }) fun A' l' => K A' ((A, { d := some d, ty := .mp (d + 1), K := [d + 1], sets := [(d + 1, .mp enc V [])] }) :: l')) :
 bA P fr ops (⟨some d, .makeMap mt none, t, p, e, none⟩ :: rest) A K := by
 refine ⟨_, ⟨rfl, (by simp), (by simp), (fun u hu => ?_), fun a w M wf _ _ _ => ?_⟩, h⟩
 ·rw [List.mem_singleton.1 hu]; exact ⟨by omega, by simpa using hp⟩
 rw [if_pos (by simp [Region.wanted])]
 have hrun : (execOp a.eval ⟨some d, .makeMap mt none, t, p, e, none⟩).run P w = .ok (.value (.map (some w.heap.size))) { w with heap := w.heap.push (.map #[] 0) } := by
  simp [execOp, Instr.makeMap, newObj, Sem.run]
 refine oy hrun ?_
 refine ⟨_, rfl, fun b => if b = w.heap.size then some (d + 1) else if M b = some (d + 1) then none else M b, ⟨fun b u hb => ?_, fun b b' u ht1 hb hb' => ?_⟩, ⟨by simp, rfl, rfl, rfl, fun b hlt hm => ⟨?_, ?_⟩, fun b u hm hk => ⟨?_, fun _ => ?_⟩⟩, ⟨_, rfl, by simp⟩, fun x hx => ?_⟩
 ·simp only [Array.size_push]
  split at hb
  ·omega
  split at hb
  ·cases hb
  have := wf.lt b u hb; omega
 ·by_cases h1 : b = w.heap.size <;> by_cases h2 : b' = w.heap.size
  ·rw [h1, h2]
  ·exfalso
   simp only [h1, h2, if_true, if_false] at hb hb'
   injection hb with hb
   split at hb'
   ·cases hb'
   rename_i hn; rw [← hb] at hb'; exact hn hb'
  ·exfalso
   simp only [h1, h2, if_true, if_false] at hb hb'
   injection hb' with hb'
   split at hb
   ·cases hb
   rename_i hn; rw [← hb'] at hb; exact hn hb
  simp only [h1, h2, if_false] at hb hb'
  split at hb
  ·cases hb
  split at hb'
  ·cases hb'
  exact wf.inj b b' u ht1 hb hb'
 ·rw [if_neg (by omega), if_neg (by rw [hm]; simp)]; exact hm
 ·simp [Array.getElem?_push]; intro h; omega
 ·have hlt := wf.lt b u hm
  rw [if_neg (by omega), if_neg (by rw [hm]; intro h; injection h with h; exact hk (by simp [h]))]; exact hm
 ·have hlt := wf.lt b u hm
  simp [Array.getElem?_push]; intro h; omega
 rw [List.mem_singleton.1 hx]
 exact ⟨w.heap.size, by simp, #[], 0, by simp, rfl, trivial⟩
theorem rI {w : World} {M : bC} {b : Nat} (KK : yf P kt κ) (V : VT β) {kvs : List (κ × β)} {z0 : β} {zv : Value} (hm : mapOf P mt = some (kt, et)) (hz : zeroOf P et = some zv) (hzd : (V.ty z0).den w M zv) (h : AR KK.enc V.ty kvs w M b) (k : κ) :
 (∃ v, (Instr.lookup mt (.map (some b)) (KK.enc k) false).run P w = .ok v w ∧ (V.ty ((e9 kvs k).getD z0)).den w M v) ∧
 ∃ v, (Instr.lookup mt (.map (some b)) (KK.enc k) true).run P w = .ok (.tuple #[v, .bool (e9 kvs k).isSome]) w ∧ (V.ty ((e9 kvs k).getD z0)).den w M v := by
 obtain ⟨es, clock, h1, h2, h3⟩ := h
 have hu := qZ hm
 have hzr := yN hz
 rcases sJ KK h2 h3 k with ⟨i, v, en, _, hg, _, _, hd, hf⟩ | ⟨_, hg, hf⟩
 ·rw [hg]
  refine ⟨⟨en.val, ?_, hd⟩, en.val, ?_, hd⟩ <;> simp [Instr.lookup, underlying, hu, getObj, Sem.run, h1, KK.check, hf]
 rw [hg]
 refine ⟨⟨zv, ?_, hzd⟩, zv, ?_, hzd⟩ <;> simp [Instr.lookup, underlying, hu, getObj, Sem.run, h1, KK.check, hf, hzr]
theorem Ku {x : Operand} {tg : Nat} {enc : κ → Value} {V : VT β} {kvs : List (κ × β)} (hx : A.op fr x = .mp tg) (hc : A.tag tg = some (.mp enc V kvs)) (h1 : gE tg) {a : Act} {w : World} {M : bC} {rs : List Nat} (wf : Wf w M) (hr : ∀ c ∈ cJ x, c ∈ rs) (hrd : ∀ c ∈ rs, c < fr.n → (A.slots c).den w M (a.tmps.getD c undef)) (htg : ∀ y ∈ A.tags, y.1 ∈ [tg] → y.2.den w M y.1) :
 ∃ b, a.eval x = .map (some b) ∧ M b = some tg ∧ AR enc V.ty kvs w M b := by
 have hxd := cV hr hrd
 rw [hx] at hxd
 obtain ⟨b, e1, e2⟩ := hxd
 obtain ⟨b', h2, h3⟩ := htg _ (cj hc) (by simp)
 obtain ⟨u, rfl⟩ : ∃ u, tg = u + 1 := ⟨tg - 1, by omega⟩
 have : b = b' := wf.inj b b' u (by omega) e2 h2
 subst this
 exact ⟨b, e1, e2, h3⟩
def vP (kty : Ty) (v : Value) : Prop := ∀ w M x, kty.den w M x → x = v
theorem MW {q : IntKind} {n : Int} : vP (.int q n) (.int q n) := fun _ _ _ h => h
theorem yM {x y : Operand} {tg : Nat} {kty : Ty} {k : κ} (KK : yf P kt κ) {V : VT β} {kvs : List (κ × β)} {z0 : β} {zv : Value} (hx : A.op fr x = .mp tg) (hc : A.tag tg = some (.mp KK.enc V kvs)) (h1 : gE tg) (hy : A.op fr y = kty) (hk : vP kty (KK.enc k)) (hm : mapOf P mt = some (kt, et)) (hz : zeroOf P et = some zv) (hzd : ∀ w M, (V.ty z0).den w M zv)
 (h : bA P fr ops rest (A.set d (V.ty ((e9 kvs k).getD z0))) fun A' l' => K A' ((A, { d := some d, ty := V.ty ((e9 kvs k).getD z0), rs := cJ x ++ cJ y, rt := [tg] }) :: l')) :
 bA P fr ops (⟨some d, .lookup mt x y false, t, p, e, none⟩ :: rest) A K :=
 bJ (bT rfl rfl fun a w M wf hrd htg => by
  obtain ⟨b, e1, _, h3⟩ := Ku hx hc h1 wf (fun c hc => List.mem_append_left _ hc) hrd htg
  have hyd := cV (fun c hc => List.mem_append_right (cJ x) hc) hrd
  rw [hy] at hyd
  obtain ⟨v, hv, hd⟩ := (rI KK V hm hz (hzd w M) h3 k).1
  refine ⟨v, ?_, hd⟩
  simp only [execOp, e1, hk _ _ _ hyd]
  simp [hv]) h
theorem AQ {x y : Operand} {tg : Nat} {kty : Ty} {k : κ} (KK : yf P kt κ) {V : VT β} {kvs : List (κ × β)} {z0 : β} {zv : Value} (hx : A.op fr x = .mp tg) (hc : A.tag tg = some (.mp KK.enc V kvs)) (h1 : gE tg) (hy : A.op fr y = kty) (hk : vP kty (KK.enc k)) (hm : mapOf P mt = some (kt, et)) (hz : zeroOf P et = some zv) (hzd : ∀ w M, (V.ty z0).den w M zv)
 (h : bA P fr ops rest (A.set d (.j8 [V.ty ((e9 kvs k).getD z0), .bool (e9 kvs k).isSome])) fun A' l' => K A' ((A, { d := some d, ty := .j8 [V.ty ((e9 kvs k).getD z0), .bool (e9 kvs k).isSome], rs := cJ x ++ cJ y, rt := [tg] }) :: l')) :
 bA P fr ops (⟨some d, .lookup mt x y true, t, p, e, none⟩ :: rest) A K :=
 bJ (bT rfl rfl fun a w M wf hrd htg => by
  obtain ⟨b, e1, _, h3⟩ := Ku hx hc h1 wf (fun c hc => List.mem_append_left _ hc) hrd htg
  have hyd := cV (fun c hc => List.mem_append_right (cJ x) hc) hrd
  rw [hy] at hyd
  obtain ⟨v, hv, hd⟩ := (rI KK V hm hz (hzd w M) h3 k).2
  refine ⟨.tuple #[v, .bool (e9 kvs k).isSome], ?_, #[v, .bool (e9 kvs k).isSome], rfl, hd, rfl, trivial⟩
  simp only [execOp, e1, hk _ _ _ hyd]
  simp [hv]) h
theorem zC {x y : Operand} {kty : Ty} {k : κ} (KK : yf P kt κ) {V : VT β} {kvs : List (κ × β)} {z0 : β} {zv : Value} (hx : A.op fr x = .pm KK.enc V kvs) (hy : A.op fr y = kty) (hk : vP kty (KK.enc k)) (hm : mapOf P mt = some (kt, et)) (hz : zeroOf P et = some zv) (hzd : ∀ w M, (V.ty z0).den w M zv)
 (h : bA P fr ops rest (A.set d (V.ty ((e9 kvs k).getD z0))) fun A' l' => K A' ((A, { d := some d, ty := V.ty ((e9 kvs k).getD z0), rs := cJ x ++ cJ y }) :: l')) :
 bA P fr ops (⟨some d, .lookup mt x y false, t, p, e, none⟩ :: rest) A K :=
 bJ (bT (rt := []) rfl rfl fun a w M wf hrd _ => by
  have hxd := cV (fun c hc => List.mem_append_left (cJ y) hc) hrd
  rw [hx] at hxd
  obtain ⟨b, e1, _, _, h3⟩ := hxd
  have hyd := cV (fun c hc => List.mem_append_right (cJ x) hc) hrd
  rw [hy] at hyd
  obtain ⟨v, hv, hd⟩ := (rI KK V hm hz (hzd w M) h3 k).1
  refine ⟨v, ?_, hd⟩
  simp only [execOp, e1, hk _ _ _ hyd]
  simp [hv]) h
theorem CH {x y z : Operand} {tg : Nat} {kty vty : Ty} {k : κ} {v : β} (KK : yf P kt κ) {V : VT β} {kvs : List (κ × β)} (hx : A.op fr x = .mp tg) (hc : A.tag tg = some (.mp KK.enc V kvs)) (h1 : gE tg) (hy : A.op fr y = kty) (hk : vP kty (KK.enc k)) (hz : A.op fr z = vty) (hv : vty = V.ty v) (hm : mapOf P mt = some (kt, et))
 (h : bA P fr ops rest (A.after { d := none, S := [tg], sets := [(tg, .mp KK.enc V (iE kvs k v))], rs := cJ x ++ (cJ y ++ cJ z), rt := [tg] }) fun A' l' => K A' ((A, { d := none, S := [tg], sets := [(tg, .mp KK.enc V (iE kvs k v))], rs := cJ x ++ (cJ y ++ cJ z), rt := [tg] }) :: l')) :
 bA P fr ops (⟨none, .mapUpdate mt x y z, t, p, e, none⟩ :: rest) A K := by
 subst hv
 refine ⟨_, ⟨rfl, (fun x hx => .inl (by rw [List.mem_singleton.1 hx]; exact List.mem_singleton.2 rfl)), (fun u hu => by rw [List.mem_singleton.1 hu]; exact h1.1), (by simp), fun a w M wf _ hrd htg => ?_⟩, h⟩
 rw [if_pos (by simp [Region.wanted])]
 obtain ⟨b, e1, e2, es, clock, h3, h4, h5⟩ := Ku hx hc h1 wf (fun c hc => List.mem_append_left _ hc) hrd htg
 have hyd := cV (fun c hc => List.mem_append_right (cJ x) (List.mem_append_left (cJ z) hc)) hrd
 have hzd := cV (fun c hc => List.mem_append_right (cJ x) (List.mem_append_right (cJ y) hc)) hrd
 rw [hy] at hyd
 rw [hz] at hzd
 have hu := qZ hm
 have hblt : b < w.heap.size := wf.lt b _ e2
 -- whatever is put there
 have fin : ∀ (es' : Array MapEntry) (clock' : Nat), es'.toList.map (·.key) = (iE kvs k v).map (fun x => KK.enc x.1) → cI w M ((iE kvs k v).map fun x => V.ty x.2) (es'.toList.map (·.val)) →
  (Instr.mapUpdate mt (.map (some b)) (KK.enc k) (a.eval z)).run P w = .ok () { w with heap := w.heap.setIfInBounds b (.map es' clock') } →
  Oper.wpIn fr.kd.jA 0 P ⟨none, .mapUpdate mt x y z, t, p, e, none⟩ a w (fun a' w' => ∃ v', a' = a.put none v' ∧ Fx.left { d := none, S := [tg], sets := [(tg, .mp KK.enc V (iE kvs k v))], rs := cJ x ++ (cJ y ++ cJ z), rt := [tg] } w M w' v') (fun _ _ _ => False) := by
  intro es' clock' hk' hd' hrun
  have hr : (execOp a.eval ⟨none, .mapUpdate mt x y z, t, p, e, none⟩).run P w = .ok .skip { w with heap := w.heap.setIfInBounds b (.map es' clock') } := by
   simp only [execOp, e1, hk _ _ _ hyd]
   simp [hrun]
  refine xY hr ?_
  have le : Le (· ∈ [tg]) (· ∈ ([] : List Nat)) w M { w with heap := w.heap.setIfInBounds b (.map es' clock') } M := by
   refine ⟨by simp, rfl, rfl, rfl, fun b2 hlt hm2 => ⟨hm2, ?_⟩, fun b2 u hm2 _ => ⟨hm2, fun hs => ?_⟩⟩
   ·have : b ≠ b2 := fun h => by subst h; rw [e2] at hm2; cases hm2
    simp [Array.getElem?_setIfInBounds, this]
   have : b ≠ b2 := fun h => by subst h; rw [e2] at hm2; injection hm2 with hm2; exact hs (by simp [hm2])
   simp [Array.getElem?_setIfInBounds, this]
  refine ⟨undef, rfl, M, ⟨fun b2 u h => by simpa using wf.lt b2 u h, wf.inj⟩, le, trivial, fun x hx => ?_⟩
  rw [List.mem_singleton.1 hx]
  refine ⟨b, e2, es', clock', by simp [hblt], hk', ?_⟩
  refine bl le (fun _ _ => by simp) (fun u hu => ?_) hd'
  simp only [bY, List.mem_flatMap, List.mem_map] at hu
  obtain ⟨t', ⟨x', _, rfl⟩, hu⟩ := hu
  rw [(V.nodeps x'.2).2] at hu; cases hu
 rcases sJ KK h4 h5 k with ⟨i, v0, en, hi, hg, hen, hkey, hd, hf⟩ | ⟨hi, hg, hf⟩
 ·obtain ⟨v1, hv1, _, hput⟩ := pQ kvs k i hi
  have hil : i < es.size := (Array.getElem?_eq_some_iff.1 hen).1
  refine fin (es.modify i fun e => { e with key := KK.enc k, val := a.eval z }) clock ?_ ?_ ?_
  ·rw [hput, List.map_set]
   have : (es.modify i fun e => { e with key := KK.enc k, val := a.eval z }).toList = es.toList.set i { en with key := KK.enc k, val := a.eval z } := by
    rw [Array.toList_modify, List.modify_eq_set, Array.getElem?_toList, hen]; rfl
   rw [this, List.map_set, h4]
  ·rw [hput, List.map_set]
   have : (es.modify i fun e => { e with key := KK.enc k, val := a.eval z }).toList = es.toList.set i { en with key := KK.enc k, val := a.eval z } := by
    rw [Array.toList_modify, List.modify_eq_set, Array.getElem?_toList, hen]; rfl
   rw [this, List.map_set]
   exact su h5 hzd
  simp [Instr.mapUpdate, underlying, hu, getObj, setObj, Sem.run, h3, KK.check, hf, hen, hkey, Instr.keyThatStays, KK.same]
 obtain ⟨_, hput⟩ := qp kvs k hi
 refine fin (es.push { key := KK.enc k, val := a.eval z, born := clock }) (clock + 1) ?_ ?_ ?_
 ·rw [hput]; simp [h4]
 ·rw [hput]; simp only [Array.toList_push, List.map_append, List.map_cons, List.map_nil]
  exact fB h5 ⟨hzd, trivial⟩
 simp [Instr.mapUpdate, underlying, hu, getObj, setObj, Sem.run, h3, KK.check, hf]
end
section
variable {P : Program} {fr : Fr} {A : As} {Q : Exit → Act → World → Prop} {c : Code} {κ β : Type} [DecidableEq κ]
theorem Oc {enc : κ → Value} {V : VT β} {kvs : List (κ × β)} {tg s : Nat} (hx : A.slots s = .mp tg) (hc : A.tag tg = some (.mp enc V kvs)) (h1 : gE tg) : yw A tg s (.pm enc V kvs) := by
 intro w M v wf ht hv
 rw [hx] at hv
 obtain ⟨b, e1, e2⟩ := hv
 obtain ⟨b', h2, h3⟩ := ht _ (cj hc)
 obtain ⟨u, rfl⟩ : ∃ u, tg = u + 1 := ⟨tg - 1, by omega⟩
 have : b = b' := wf.inj b b' u (by omega) e2 h2
 subst this
 exact ⟨b, e1, by simp [eE, e2], wf.lt b _ e2, rm V.nodeps (jN (tg := u + 1)) rfl h3⟩
end
end Go.T
namespace Go.Proofs.YtelbollidfdcjaaGreat
open Go Go.T
def fidx {α : Type} (p : α → Bool) (l : List α) : Int := match l.findIdx? p with | some i => (i : Int) | none => -1
theorem hU {α : Type} {p : α → Bool} {l : List α} {k : Nat} (hk : k < l.length) (h : ∀ x ∈ l.take k, p x = false) (hp : p l[k] = true) : fidx p l = k := by
 have : l.findIdx? p = some k := by
  rw [List.findIdx?_eq_some_iff_getElem]
  refine ⟨hk, hp, fun j hj => ?_⟩
  have := h l[j] (by rw [List.mem_take_iff_getElem]; exact ⟨j, by omega, rfl⟩)
  simp [this]
 simp [fidx, this]
theorem iU {α : Type} {p : α → Bool} {l : List α} (h : ∀ x ∈ l, p x = false) : fidx p l = -1 := by
 have : l.findIdx? p = none := by simpa using h
 simp [fidx, this]
theorem oD {α : Type} (p : α → Bool) (l : List α) : decide (0 ≤ fidx p l) = l.any p := by
  unfold fidx
  cases h : l.findIdx? p with
  | none =>
    rw [List.findIdx?_eq_none_iff] at h
    have : l.any p = false := by simpa using h
    rw [this]; rfl
  | some i =>
    have : l.any p = true := by
      rw [List.findIdx?_eq_some_iff_getElem] at h
      obtain ⟨hi, hp, _⟩ := h
      rw [List.any_eq_true]; exact ⟨_, List.getElem_mem hi, hp⟩
    rw [this]; simp
def AI (n lo hi : Int) : Bool := decide (n ≥ lo) && decide (n ≤ hi)
def kH (n lo hi : Int) : Bool := decide (n < lo) || decide (n > hi)
theorem fQ {n lo hi : Int} : AI n lo hi = true ↔ lo ≤ n ∧ n ≤ hi := by unfold AI; simp
theorem ng {b : Bool} (h : b = false) : ¬ b = true := by rw [h]; decide
theorem oQ {α : Type} [Inhabited α] {l : List α} {x : α} (h : x ∈ l) : ∃ m, m < l.length ∧ x = nth l m := by
 obtain ⟨m, hm, e⟩ := List.getElem_of_mem h
 exact ⟨m, hm, by rw [fk hm]; exact e.symm⟩
theorem mQ : ∀ {n : Nat} {l : List Nat}, l.Nodup → (∀ y ∈ l, y < n) → l.length ≤ n
  | 0, l, _, hr => by
    cases l with
    | nil => simp
    | cons a _ => exact absurd (hr a List.mem_cons_self) (by omega)
  | n + 1, l, hn, hr => by
    by_cases h : n ∈ l
    · have h1 := List.length_erase_of_mem h
      have h2 := mQ (n := n) (l := l.erase n) (hn.erase n) fun y hy => by
        have h3 := (hn.mem_erase_iff (a := y) (b := n)).1 hy
        have := hr y h3.2
        have := h3.1
        omega
      omega
    · have h2 := mQ (n := n) (l := l) hn fun y hy => by
        have := hr y hy
        have : y ≠ n := fun e => h (e ▸ hy)
        omega
      omega
theorem iz {α : Type} [Inhabited α] {l : List α} {i j : Nat} {v : α} (h : j < l.length) : nth (l.set i v) j = if i = j then v else nth l j := by
 unfold nth
 rw [List.getD_eq_getElem?_getD, List.getD_eq_getElem?_getD, List.getElem?_set]
 by_cases e : i = j
 ·subst e; rw [if_pos rfl, if_pos rfl, if_pos h]; rfl
 rw [if_neg e, if_neg e]
theorem zR {α : Type} : ∀ (l : List α), l = [] ∨ ∃ l' x, l = l' ++ [x]
  | [] => .inl rfl
  | x :: l => by
    rcases zR l with h | ⟨l', y, h⟩
    · subst h; exact .inr ⟨[], x, rfl⟩
    · subst h; exact .inr ⟨x :: l', y, rfl⟩
theorem C8 {α : Type} {C : List α → Prop} (h0 : C []) (h1 : ∀ l x, C l → C (l ++ [x])) : ∀ l, C l := by
  intro l
  have key : ∀ n (l : List α), l.length = n → C l := by
    intro n
    induction n with
    | zero => intro l h; rw [List.length_eq_zero_iff.1 h]; exact h0
    | succ n ih =>
      intro l h
      rcases zR l with e | ⟨l', x, e⟩
      · subst e; cases h
      · subst e; exact h1 l' x (ih l' (by simpa using h))
  exact key _ l rfl
section
variable {κ β : Type} [DecidableEq κ]
theorem q6 (q : List (κ × β)) (k : κ) (v : β) (x : κ) : x ∈ (iE q k v).map Prod.fst ↔ x = k ∨ x ∈ q.map Prod.fst := by
  induction q with
  | nil => simp [iE]
  | cons y l ih =>
    simp only [iE]
    by_cases h : y.1 = k
    · subst h; simp
    · rw [if_neg h]; simp only [List.map_cons, List.mem_cons, ih]
      constructor
      · rintro (h | h | h)
        · exact .inr (.inl h)
        · exact .inl h
        · exact .inr (.inr h)
      · rintro (h | h | h)
        · exact .inr (.inl h)
        · exact .inl h
        · exact .inr (.inr h)
theorem D8 (q : List (κ × β)) (k : κ) (v : β) (hn : (q.map Prod.fst).Nodup) : ((iE q k v).map Prod.fst).Nodup := by
  induction q with
  | nil => simp [iE]
  | cons y l ih =>
    rw [List.map_cons, List.nodup_cons] at hn
    simp only [iE]
    by_cases h : y.1 = k
    · subst h; rw [if_pos rfl, List.map_cons, List.nodup_cons]; exact hn
    · rw [if_neg h, List.map_cons, List.nodup_cons]
      refine ⟨fun hm => ?_, ih hn.2⟩
      rcases (q6 l k v y.1).1 hm with e | e
      · exact h e
      · exact hn.1 e
theorem mX {q : List (κ × β)} {k : κ} {v : β} (h : e9 q k = some v) : k ∈ q.map Prod.fst := by
  induction q with
  | nil => cases h
  | cons y l ih =>
    simp only [e9] at h
    by_cases e : y.1 = k
    · subst e; simp
    · rw [if_neg e] at h; exact List.mem_cons_of_mem _ (ih h)
theorem pE {q : List (κ × β)} {k : κ} (h : k ∈ q.map Prod.fst) : ∃ v, e9 q k = some v := by
  induction q with
  | nil => cases h
  | cons y l ih =>
    simp only [e9]
    by_cases e : y.1 = k
    · exact ⟨_, if_pos e⟩
    · rw [if_neg e]; rw [List.map_cons, List.mem_cons] at h
      exact ih (h.resolve_left fun h => e h.symm)
theorem Bs (q : List (κ × β)) (k : κ) (v : β) (h : e9 q k = none) : (iE q k v).length = q.length + 1 := by
  induction q with
  | nil => rfl
  | cons y l ih =>
    simp only [e9] at h
    by_cases e : y.1 = k
    · rw [if_pos e] at h; cases h
    · rw [if_neg e] at h; simp only [iE, if_neg e, List.length_cons, ih h]
end
theorem s7 {n : Nat} {l : List Int} (h : l.Nodup) (hr : ∀ y ∈ l, 0 ≤ y ∧ y < (n : Int)) : l.length ≤ n := by
 have h1 : (l.map Int.toNat).Nodup := by
  rw [List.nodup_iff_pairwise_ne, List.pairwise_map]
  refine (List.nodup_iff_pairwise_ne.1 h).imp_of_mem fun {a b} ha hb hne e => hne ?_
  have := hr a ha; have := hr b hb; omega
 have h2 := mQ (n := n) h1 fun y hy => by
  obtain ⟨z, hz, rfl⟩ := List.mem_map.1 hy
  have := hr z hz; omega
 rwa [List.length_map] at h2
section
variable {σ ρ : Type} [Inhabited ρ] {step : σ → σ ⊕ ρ} {x y : σ} {r s : ρ}
def B1 (step : σ → σ ⊕ ρ) : Nat → σ → Option ρ
  | 0, _ => none
  | n + 1, x => match step x with | .inl y => B1 step n y | .inr r => some r
def p9 (step : σ → σ ⊕ ρ) (x : σ) (r : ρ) : Prop := ∃ n, B1 step n x = some r
omit [Inhabited ρ] in
theorem Ck : ∀ {n m : Nat} {x : σ}, B1 step n x = some r → B1 step m x = some s → r = s
  | 0, _, _, h, _ => by cases h
  | _ + 1, 0, _, _, h => by cases h
  | n + 1, m + 1, x, h, h' => by
    unfold B1 at h h'
    cases e : step x with
    | inl y => rw [e] at h h'; exact Ck h h'
    | inr t => rw [e] at h h'; injection h with h; injection h' with h'; rw [← h, h']
omit [Inhabited ρ] in
theorem p9.SI (h : p9 step x r) (h' : p9 step x s) : r = s := let ⟨_, h⟩ := h; let ⟨_, h'⟩ := h'; Ck h h'
noncomputable def nK (step : σ → σ ⊕ ρ) (x : σ) : ρ := open Classical in if h : ∃ r, p9 step x r then h.choose else default
theorem A8 (h : p9 step x r) : nK step x = r := by
 have hx : ∃ r, p9 step x r := ⟨r, h⟩
 unfold nK; rw [dif_pos hx]; exact hx.choose_spec.SI h
omit [Inhabited ρ] in
theorem Dl (e : step x = .inr r) : p9 step x r := ⟨1, by unfold B1; rw [e]⟩
theorem iY (e : step x = .inr r) : nK step x = r := A8 (Dl e)
omit [Inhabited ρ] in
theorem w8 (e : step x = .inl y) : p9 step x r ↔ p9 step y r := by
  constructor
  · rintro ⟨n, h⟩
    cases n with
    | zero => cases h
    | succ n => unfold B1 at h; rw [e] at h; exact ⟨n, h⟩
  · rintro ⟨n, h⟩; exact ⟨n + 1, by unfold B1; rw [e]; exact h⟩
theorem iI (e : step x = .inl y) : nK step x = nK step y := by
 by_cases h : ∃ r, p9 step y r
 ·obtain ⟨r, h⟩ := h
  rw [A8 h, A8 ((w8 e).2 h)]
 have h' : ¬ ∃ r, p9 step x r := fun ⟨r, hr⟩ => h ⟨r, (w8 e).1 hr⟩
 unfold nK; rw [dif_neg h, dif_neg h']
theorem nG (I : σ → Prop) (S : ρ → Prop) (mu : σ → Nat) (h : ∀ x, I x → (∃ y, step x = .inl y ∧ I y ∧ mu y < mu x) ∨ ∃ r, step x = .inr r ∧ S r) : ∀ x, I x → S (nK step x) := by
  have key : ∀ n x, mu x < n → I x → S (nK step x) := by
    intro n
    induction n with
    | zero => intro x hx; omega
    | succ n ih =>
      intro x hx hI
      rcases h x hI with ⟨y, e, hy, hm⟩ | ⟨r, e, hr⟩
      · rw [iI e]; exact ih y (by omega) hy
      · rw [iY e]; exact hr
  exact fun x hx => key _ x (Nat.lt_succ_self _) hx
end
end Go.Proofs.YtelbollidfdcjaaGreat
