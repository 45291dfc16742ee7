/- Lemmas: the program and the reference walked, plain laws. -/
import Derived.Orders
import Derived.Below
import Derived.WalkKit
import Derived.OrdersIn
import Derived.TacticsIn
import Derived.RangeFuncCalls
import Derived.ChangeKeysEq
import Derived.Maps.AppendAt
import Derived.Laws.MakeOwn
import Derived.Laws.CopyRow
import Derived.Test.YtelbollidfdcjaaGreatChecked
import Derived.RangeFuncRecord
import Derived.Lib.AppendZerosOnto
import Derived.JoinedOf
import Derived.OpenShut
import Derived.WideKeyArgs
import Derived.Deep.Frames
import Derived.Deep.Slices
import Derived.Deep.Strs
import Derived.Lib.SmallJoins
import Derived.KernelRfl
import Derived.Test.YtelbollidfdcjaaGreatRows
namespace Go.T
open Go Go.RowKit
abbrev bB := Nat → Option Nat
structure Wf (w : World) (M : bB) : Prop where
  lt : ∀ b t, M b = some t → b < w.heap.size
  inj : ∀ b b' t, t + 1 < 4096 → M b = some (t + 1) → M b' = some (t + 1) → b = b'
abbrev gI (t : Nat) : Prop := 1 ≤ t ∧ t < 4096
structure Le (S K : Nat → Prop) (w : World) (M : bB) (w' : World) (M' : bB) : Prop where
  size : w.heap.size ≤ w'.heap.size
  os : w'.os = w.os
  tape : w'.tape = w.tape
  out : w'.output = w.output
  qG : ∀ b, b < w.heap.size → M b = none → M' b = none ∧ w'.heap[b]? = w.heap[b]?
  own : ∀ b t, M b = some t → ¬ K t → M' b = some t ∧ (¬ S t → w'.heap[b]? = w.heap[b]?)
theorem Le.refl (S K : Nat → Prop) (w : World) (M : bB) : Le S K w M w M :=
 ⟨Nat.le_refl _, rfl, rfl, rfl, fun _ _ h => ⟨h, rfl⟩, fun _ _ h _ => ⟨h, fun _ => rfl⟩⟩
theorem Le.trans {S K S' K' : Nat → Prop} {w w' w'' : World} {M M' M'' : bB} (h : Le S K w M w' M') (h' : Le S' K' w' M' w'' M'') :
 Le (fun t => S t ∨ S' t) (fun t => K t ∨ K' t) w M w'' M'' where
 size := Nat.le_trans h.size h'.size
 os := h'.os.trans h.os
 tape := h'.tape.trans h.tape
 out := h'.out.trans h.out
 qG b hb hm := by
  obtain ⟨h1, h2⟩ := h.qG b hb hm
  obtain ⟨h3, h4⟩ := h'.qG b (Nat.lt_of_lt_of_le hb h.size) h1
  exact ⟨h3, h4.trans h2⟩
 own b t hm hk := by
  obtain ⟨h1, h2⟩ := h.own b t hm (fun h => hk (.inl h))
  obtain ⟨h3, h4⟩ := h'.own b t h1 (fun h => hk (.inr h))
  exact ⟨h3, fun hs => (h4 fun h => hs (.inr h)).trans (h2 fun h => hs (.inl h))⟩
theorem Le.weaken {S K S' K' : Nat → Prop} {w w' : World} {M M' : bB} (h : Le S K w M w' M') (hs : ∀ t, S t → S' t) (hk : ∀ t, K t → K' t) : Le S' K' w M w' M' :=
 ⟨h.size, h.os, h.tape, h.out, h.qG, fun b t hm ht => let ⟨a, b'⟩ := h.own b t hm (fun x => ht (hk t x)); ⟨a, fun x => b' fun y => x (hs t y)⟩⟩
structure Ty where
  den : World → bB → Value → Prop
  deps : List Nat := []
  cdeps : List Nat := []
  mono : ∀ {S K : Nat → Prop} {w w' : World} {M M' : bB} {v : Value}, Le S K w M w' M' → (∀ t ∈ deps, ¬ K t) → (∀ t ∈ cdeps, ¬ S t) → den w M v → den w' M' v
  one : Bool := false
  isOne : ∀ {w : World} {M : bB} {v : Value}, one = true → den w M v → v.oneCell' = true := by intro _ _ _ h; cases h
def jJ (_ : World) (_ : bB) (_ : Value) : Prop := True
def Ty.any : Ty := { den := jJ, mono := fun _ _ _ _ => trivial }
def cN (l : List Ty) : List Nat := l.flatMap Ty.deps
def bw (l : List Ty) : List Nat := l.flatMap Ty.cdeps
def cV (w : World) (M : bB) : List Ty → List Value → Prop
  | [], [] => True
  | t :: ts, v :: vs => t.den w M v ∧ cV w M ts vs
  | _, _ => False
theorem cI {S K : Nat → Prop} {w w' : World} {M M' : bB} (le : Le S K w M w' M') : ∀ {l : List Ty} {vs : List Value}, (∀ t ∈ cN l, ¬ K t) → (∀ t ∈ bw l, ¬ S t) → cV w M l vs → cV w' M' l vs
  | [], [], _, _, _ => trivial
  | t :: ts, v :: vs, hd, hc, ⟨h, hs⟩ => ⟨t.mono le (fun u hu => hd u (by simp [cN, hu])) (fun u hu => hc u (by simp [bw, hu])) h, cI le (fun u hu => hd u (by simp only [cN, List.flatMap_cons, List.mem_append]; exact .inr hu)) (fun u hu => hc u (by simp only [bw, List.flatMap_cons, List.mem_append]; exact .inr hu)) hs⟩
theorem cX {w : World} {M : bB} : ∀ {l : List Ty} {vs : List Value}, cV w M l vs → vs.length = l.length
  | [], [], _ => rfl
  | _ :: _, _ :: _, ⟨_, h⟩ => by simp [cX h]
theorem dc {w : World} {M : bB} : ∀ {l : List Ty} {vs : List Value}, cV w M l vs → ∀ (i : Nat) (t : Ty), l[i]? = some t → ∃ v, vs[i]? = some v ∧ t.den w M v
  | [], [], _, i, t, h => by simp at h
  | u :: ts, v :: vs, ⟨h1, h2⟩, i, t, h => by
    cases i with
    | zero => simp at h; subst h; exact ⟨v, by simp, h1⟩
    | succ i => simp at h; obtain ⟨x, hx, hd⟩ := dc h2 i t h; exact ⟨x, by simpa using hx, hd⟩
theorem iG {w : World} {M : bB} : ∀ {l : List Ty} {vs : List Value}, vs.length = l.length → (∀ (i : Nat) (t : Ty), l[i]? = some t → ∃ v, vs[i]? = some v ∧ t.den w M v) → cV w M l vs
  | [], [], _, _ => trivial
  | u :: ts, v :: vs, hl, h => by
    refine ⟨?_, iG (by simpa using hl) fun i t hi => ?_⟩
    · obtain ⟨x, hx, hd⟩ := h 0 u rfl
      simp at hx; subst hx; exact hd
    · obtain ⟨x, hx, hd⟩ := h (i + 1) t (by simpa using hi)
      exact ⟨x, by simpa using hx, hd⟩
theorem lN {w : World} {M : bB} : ∀ (n : Nat) {l : List Ty} {vs : List Value}, cV w M l vs → cV w M (l.drop n) (vs.drop n)
  | 0, _, _, h => h
  | n + 1, [], [], _ => trivial
  | n + 1, _ :: ts, _ :: vs, ⟨_, h⟩ => lN n h
theorem nI {w : World} {M : bB} : ∀ (n : Nat) {l : List Ty} {vs : List Value}, cV w M l vs → cV w M (l.take n) (vs.take n)
  | 0, _, _, _ => trivial
  | n + 1, [], [], _ => trivial
  | n + 1, _ :: ts, _ :: vs, ⟨h1, h2⟩ => ⟨h1, nI n h2⟩
def kg (l k : List Nat) : Bool := l.all fun x => !k.contains x
def Ty.safe (t : Ty) (S K : List Nat) : Bool := kg t.deps K && kg t.cdeps S
theorem gA {l k : List Nat} (h : kg l k = true) : ∀ t ∈ l, ¬ (t ∈ k) := by
 intro t ht hk
 simp only [kg, List.all_eq_true] at h
 have := h t ht
 simp [hk] at this
theorem wK (t : Ty) : t.safe [] [] = true := by simp [Ty.safe, kg]
theorem fL {t : Ty} {S K : List Nat} (h : t.safe S K = true) : (∀ u ∈ t.deps, ¬ (u ∈ K)) ∧ ∀ u ∈ t.cdeps, ¬ (u ∈ S) := by
 simp only [Ty.safe, Bool.and_eq_true] at h; exact ⟨gA h.1, gA h.2⟩
def Ty.weak (S K : List Nat) (t : Ty) : Ty := bif t.safe S K then t else Ty.any
def eI (T : TypeId) (l : List Ty) (w : World) (M : bB) (t : Nat) : Prop := ∃ b cs, M b = some t ∧ w.heap[b]? = some (.cells cs T (0, 0)) ∧ cV w M l cs.toList
structure Cont where
  den : World → bB → Nat → Prop
  deps : List Nat := []
  cdeps : List Nat := []
  mono : ∀ {S K : Nat → Prop} {w w' : World} {M M' : bB} {t : Nat}, Le S K w M w' M' → (∀ u ∈ deps, ¬ K u) → (∀ u ∈ cdeps, ¬ S u) → ¬ S t → ¬ K t → den w M t → den w' M' t
  view : Option (TypeId × List Ty) := none
  viewOk : ∀ {T : TypeId} {l : List Ty}, view = some (T, l) → cN l = deps ∧ bw l = cdeps ∧ ∀ {w : World} {M : bB} {t : Nat}, den w M t → eI T l w M t := by intro _ _ h; cases h
def Cont.safe (t : Cont) (S K : List Nat) : Bool := kg t.deps K && kg t.cdeps S
theorem nQ {t : Cont} {S K : List Nat} (h : t.safe S K = true) : (∀ u ∈ t.deps, ¬ (u ∈ K)) ∧ ∀ u ∈ t.cdeps, ¬ (u ∈ S) := by
 simp only [Cont.safe, Bool.and_eq_true] at h; exact ⟨gA h.1, gA h.2⟩
def Cont.cells (T : TypeId) (l : List Ty) : Cont :=
  { den := eI T l, deps := cN l, cdeps := bw l
    mono := fun le hk hc hs hkt ⟨b, cs, h1, h2, h3⟩ => let ⟨h4, h5⟩ := le.own b _ h1 hkt; ⟨b, cs, h4, (h5 hs).trans h2, cI le hk hc h3⟩
    view := some (T, l)
    viewOk := fun h => by injection h with h; injection h with h1 h2; subst h1; subst h2; exact ⟨rfl, rfl, fun h => h⟩ }
def Cont.soft (S K : List Nat) (C : Cont) : Option Cont :=
  match C.view with
  | some (T, l) => some (.cells T (l.map (Ty.weak S K)))
  | none => none
theorem xV {S K : List Nat} {w w' : World} {M M' : bB} (le : Le (· ∈ S) (· ∈ K) w M w' M') : ∀ {l : List Ty} {vs : List Value}, cV w M l vs → cV w' M' (l.map (Ty.weak S K)) vs
  | [], [], _ => trivial
  | t :: _, _ :: _, ⟨h, hs⟩ => by
    refine ⟨?_, xV le hs⟩
    unfold Ty.weak
    cases hc : t.safe S K with
    | true => exact t.mono le (fL hc).1 (fL hc).2 h
    | false => trivial
theorem IL {S K : List Nat} {w w' : World} {M M' : bB} {C D : Cont} {t : Nat} (le : Le (· ∈ S) (· ∈ K) w M w' M') (hs : t ∉ S) (hk : t ∉ K) (h : C.soft S K = some D) (hd : C.den w M t) : D.den w' M' t := by
 unfold Cont.soft at h
 split at h
 ·rename_i T l hv
  injection h with h
  subst h
  obtain ⟨b, cs, h1, h2, h3⟩ := (C.viewOk hv).2.2 hd
  obtain ⟨h4, h5⟩ := le.own b t h1 hk
  exact ⟨b, cs, h4, (h5 hs).trans h2, xV le h3⟩
 cases h
theorem yc {S K : List Nat} : ∀ {l : List Ty} {u : Nat}, (u ∈ cN (l.map (Ty.weak S K)) → u ∈ cN l) ∧ (u ∈ bw (l.map (Ty.weak S K)) → u ∈ bw l) := by
  intro l u
  simp only [cN, bw, List.mem_flatMap, List.mem_map]
  constructor
  · rintro ⟨_, ⟨t, ht, rfl⟩, hu⟩
    unfold Ty.weak at hu
    cases hc : t.safe S K with
    | true => rw [hc] at hu; exact ⟨t, ht, hu⟩
    | false => rw [hc] at hu; simp [Ty.any] at hu
  · rintro ⟨_, ⟨t, ht, rfl⟩, hu⟩
    unfold Ty.weak at hu
    cases hc : t.safe S K with
    | true => rw [hc] at hu; exact ⟨t, ht, hu⟩
    | false => rw [hc] at hu; simp [Ty.any] at hu
def Cont.Lv (D C : Cont) : Prop := (∀ u ∈ D.deps, u ∈ C.deps) ∧ ∀ u ∈ D.cdeps, u ∈ C.cdeps
theorem E1 {S K : List Nat} {C D : Cont} (h : C.soft S K = some D) : D.Lv C := by
 unfold Cont.soft at h
 split at h
 ·rename_i T l hv
  injection h with h
  subst h
  obtain ⟨e1, e2, _⟩ := C.viewOk hv
  exact ⟨fun u hu => e1 ▸ yc.1 hu, fun u hu => e2 ▸ yc.2 hu⟩
 cases h
theorem Dg {l l' k : List Nat} (h : ∀ u ∈ l', u ∈ l) (hd : kg l k = true) : kg l' k = true := by
 simp only [kg, List.all_eq_true] at hd ⊢
 exact fun u hu => hd u (h u hu)
theorem yx {C D : Cont} {S K : List Nat} (h : D.Lv C) (hs : C.safe S K = true) : D.safe S K = true := by
 simp only [Cont.safe, Bool.and_eq_true] at hs ⊢
 exact ⟨Dg h.1 hs.1, Dg h.2 hs.2⟩
structure As where
  slots : Nat → Ty
  tags : List (Nat × Cont)
inductive FK where
  | plain | marks | round (l : Nat) | iter
structure Fr where
  n : Nat
  w0 : World
  M0 : bB
  pass : List Nat
  kd : FK
def FK.HM : FK → Nat → Prop
  | .iter, _ => True
  | _, t => 1 ≤ t
theorem FK.EO {k : FK} {t : Nat} (h : 1 ≤ t) : k.HM t := by cases k <;> first | exact h | trivial
def FK.jC : FK → Fence
  | .round l => Fence.wide.inRound l
  | _ => Fence.wide
theorem FK.ue (k : FK) (f : FuncId) : k.jC.fn f := by cases k <;> trivial
theorem FK.wm (k : FK) : k.jC.depth = none := by cases k <;> rfl
theorem FK.calls {k : FK} {n : Nat} {P : Program} {f : FuncId} {args : Array Value} {w : World} {R : Ending → World → Prop} (h : Calls P f args w R) : CallsIn k.jC n P f args w R := by
 have h' : CallsIn Fence.wide n P f args w R := callsIn_wide.2 h
 cases k <;> first | exact h' | exact CallsIn.inRound _ h'
theorem IM {k : FK} {P : Program} {o : Oper} {a : Act} {w : World} {K : Act → World → Prop} (hnd : ∀ c, o.op ≠ .defer c) (hnr : ∀ row args w', (execOp a.eval o).run P w ≠ .ok (.row row args) w') (h : o.wp P a w K fun _ _ _ => False) : o.wpIn k.jC 0 P a w K fun _ _ _ => False := by
  refine ⟨fun f _ => k.ue f, ?_⟩
  unfold Oper.wp at h
  rw [Oper.semAt_eq k.jC.round a.eval o hnd]
  generalize hr : (execOp a.eval o).run P w = r at *
  cases r with
  | ok n w' =>
    cases n <;> simp only [Oper.upon, Oper.uponIn] at h ⊢ <;> first
      | exact h
      | exact ⟨fun hd => (by rw [k.wm] at hd; cases hd), FK.calls h⟩
      | exact absurd rfl (hnr _ _ _)
  | halt x w' => cases x <;> simp only [Oper.upon, Oper.uponIn] at h ⊢
theorem z5 {ρ : Operand → Value} {o : Oper} {P : Program} {w w' : World} {n : Next} (h : (execOp ρ o).run P w = .ok n w') (hn : ∀ d, n ≠ .defer d) : ∀ c, o.op ≠ .defer c := by
  intro c hc
  unfold execOp at h
  rw [hc] at h
  rw [Sem.run_bind] at h
  cases hr : (resolve ρ c o.type).run P w with
  | ok d w2 => rw [hr] at h; injection h with h; exact hn d h.symm
  | halt x w2 => rw [hr] at h; cases h
theorem oV {k : FK} {P : Program} {o : Oper} {a : Act} {w w' : World} {v : Value} {K : Act → World → Prop} (hv : (execOp a.eval o).run P w = .ok (.value v) w') (h : K (a.put o.dst v) w') : o.wpIn k.jC 0 P a w K fun _ _ _ => False := by
 refine IM (z5 hv fun _ h => by cases h) (fun _ _ _ hr => by rw [hv] at hr; cases hr) ?_
 unfold Oper.wp
 rw [hv, Oper.upon_value]; exact h
theorem wA {k : FK} {P : Program} {o : Oper} {a : Act} {w w' : World} {K : Act → World → Prop} (hv : (execOp a.eval o).run P w = .ok .skip w') (h : K (a.put o.dst undef) w') : o.wpIn k.jC 0 P a w K fun _ _ _ => False := by
 refine IM (z5 hv fun _ h => by cases h) (fun _ _ _ hr => by rw [hv] at hr; cases hr) ?_
 unfold Oper.wp
 rw [hv, Oper.upon_skip]; exact h
theorem mF {k : FK} {P : Program} {o : Oper} {a : Act} {w w' : World} {f : FuncId} {args : Array Value} {K : Act → World → Prop} (hv : (execOp a.eval o).run P w = .ok (.enter f args) w') (h : Calls P f args w' fun e w'' => ∃ v, e = .returned v ∧ K (a.put o.dst v) w'') : o.wpIn k.jC 0 P a w K fun _ _ _ => False := by
 refine IM (z5 hv fun _ h => by cases h) (fun _ _ _ hr => by rw [hv] at hr; cases hr) ?_
 unfold Oper.wp
 rw [hv, Oper.upon_enter]
 exact h.mono fun e w'' ⟨v, e1, hk⟩ => by subst e1; exact hk
def Fr.base (fr : Fr) (w : World) (M : bB) : Prop := Le fr.kd.HM (fun t => 1 ≤ t ∧ t ∉ fr.pass) fr.w0 fr.M0 w M
def tA (r : Nat) : Deferred := { target := .collected r, args := #[] }
def Defs (fr : Fr) (w : World) (M : bB) (ds : List Deferred) : Prop :=
  ∃ rs : List Nat, ds = rs.map tA ∧ (rs ≠ [] → fr.kd = .marks) ∧ rs.Nodup ∧ ∀ r ∈ rs, M r = some 0 ∧ (fr.w0.heap.size ≤ r ∧ ∀ t, ¬ (1 ≤ t ∧ t ∉ fr.pass) → fr.M0 r ≠ some t) ∧ w.heap[r]? = some (.deferred (some []))
theorem Defs.nil {fr : Fr} {w : World} {M : bB} : Defs fr w M [] := ⟨[], rfl, fun h => absurd rfl h, List.nodup_nil, fun _ h => by cases h⟩
theorem Defs.step {fr : Fr} {w w' : World} {M M' : bB} {S K : Nat → Prop} {ds : List Deferred} (hs : ∀ t, S t → 1 ≤ t) (hk : ∀ t, K t → 1 ≤ t) (le : Le S K w M w' M') (h : Defs fr w M ds) : Defs fr w' M' ds := by
 obtain ⟨rs, e, h1, h2, h3⟩ := h
 refine ⟨rs, e, h1, h2, fun r hr => ?_⟩
 obtain ⟨a, b, c⟩ := h3 r hr
 obtain ⟨d, f⟩ := le.own r 0 a (fun h => by have := hk 0 h; omega)
 exact ⟨d, b, (f fun h => by have := hs 0 h; omega).trans c⟩
structure Ok (fr : Fr) (a : Act) (w : World) (M : bB) : Prop where
  wf : Wf w M
  base : fr.base w M
  size : a.tmps.size = fr.n
  defers : Defs fr w M a.defers
theorem Ok.gP {fr : Fr} {a : Act} {w : World} {M : bB} (h : Ok fr a w M) (hk : fr.kd ≠ .marks) : a.defers = [] := by
  obtain ⟨rs, e, h1, _⟩ := h.defers
  cases rs with
  | nil => exact e
  | cons r rs => exact absurd (h1 (by simp)) hk
def As.holds (fr : Fr) (A : As) (a : Act) (w : World) : Prop :=
  ∃ M, Ok fr a w M ∧ (∀ c, c < fr.n → (A.slots c).den w M (a.tmps.getD c undef)) ∧ ∀ x ∈ A.tags, x.2.den w M x.1
structure Fx where
  d : Option Nat
  ty : Ty := Ty.any
  S : List Nat := []
  K : List Nat := []
  sets : List (Nat × Cont) := []
  rs : List Nat := []
  rt : List Nat := []
def gZ (S K : List Nat) (s : Nat → Ty) : Nat → Ty :=
  match S, K with
  | [], [] => s
  | S, K => fun c => bif (s c).safe S K then s c else Ty.any
def pU (d : Option Nat) (ty : Ty) (s : Nat → Ty) : Nat → Ty :=
  match d with
  | none => s
  | some d => fun c => bif Nat.beq c d then ty else s c
def mo (S K : List Nat) (l : List (Nat × Cont)) : List (Nat × Cont) :=
  match S, K with
  | [], [] => l
  | _, _ => l.filterMap fun x => bif S.contains x.1 || K.contains x.1 then none else bif x.2.safe S K then some x else (x.2.soft S K).map fun C => (x.1, C)
def As.after (A : As) (f : Fx) : As := ⟨pU f.d f.ty (gZ f.S f.K A.slots), f.sets ++ mo f.S f.K A.tags⟩
def Fx.left (f : Fx) (w : World) (M : bB) (w' : World) (v : Value) : Prop :=
  ∃ M', Wf w' M' ∧ Le (· ∈ f.S) (· ∈ f.K) w M w' M' ∧ f.ty.den w' M' v ∧ ∀ x ∈ f.sets, x.2.den w' M' x.1
def wo (P : Program) (fr : Fr) (ops : Array Oper) (o : Oper) (A : As) (f : Fx) : Prop :=
  f.d = o.dst ∧ (∀ x ∈ f.sets, x.1 ∈ f.S ∨ x.1 ∈ f.K) ∧ (∀ t ∈ f.S, 1 ≤ t) ∧ (∀ t ∈ f.K, 1 ≤ t ∧ t ∉ fr.pass) ∧
  ∀ a w M, Wf w M → a.tmps.size = fr.n → (∀ c ∈ f.rs, c < fr.n → (A.slots c).den w M (a.tmps.getD c undef)) → (∀ x ∈ A.tags, x.1 ∈ f.rt → x.2.den w M x.1) →
    if Region.wanted o (yielded ops a.tmps) then o.wpIn fr.kd.jC 0 P a w (fun a' w' => ∃ v, a' = a.put o.dst v ∧ f.left w M w' v) (fun _ _ _ => False) else f.left w M w undef
def ak (P : Program) (fr : Fr) (ops : Array Oper) : List Oper → As → (As → List (As × Fx) → Prop) → Prop
  | [], A, K => K A []
  | o :: rest, A, K => ∃ f, wo P fr ops o A f ∧ ak P fr ops rest (A.after f) fun A' l => K A' ((A, f) :: l)
section
variable {P : Program} {fr : Fr} {ops : Array Oper}
theorem ff (S K : List Nat) (s : Nat → Ty) (c : Nat) : (gZ S K s c = s c ∧ (s c).safe S K = true) ∨ ((s c).safe S K = false ∧ gZ S K s c = Ty.any) := by
  unfold gZ
  split
  · exact .inl ⟨rfl, wK _⟩
  · cases h : (s c).safe _ _ with
    | true => exact .inl ⟨by simp only [h, cond_true], rfl⟩
    | false => exact .inr ⟨rfl, by simp only [h, cond_false]⟩
theorem nr {S K : List Nat} {l : List (Nat × Cont)} {x : Nat × Cont} (h : x ∈ mo S K l) : x.1 ∉ S ∧ x.1 ∉ K ∧ ∃ y ∈ l, y.1 = x.1 ∧ ((y = x ∧ y.2.safe S K = true) ∨ (y.2.safe S K = false ∧ y.2.soft S K = some x.2)) := by
  unfold mo at h
  split at h
  · exact ⟨by simp, by simp, x, h, rfl, .inl ⟨rfl, by simp [Cont.safe, kg]⟩⟩
  · obtain ⟨y, hy, hx⟩ := List.mem_filterMap.1 h
    cases hc : (S.contains y.1 || K.contains y.1) with
    | true => rw [hc] at hx; cases hx
    | false =>
      rw [hc, cond_false] at hx
      simp only [Bool.or_eq_false_iff, List.contains_eq_mem, decide_eq_false_iff_not] at hc
      cases hs : y.2.safe S K with
      | true => rw [hs, cond_true] at hx; injection hx with hx; subst hx; exact ⟨hc.1, hc.2, y, hy, rfl, .inl ⟨rfl, hs⟩⟩
      | false =>
        rw [hs, cond_false] at hx
        obtain ⟨D, hD, hx⟩ := Option.map_eq_some_iff.1 hx
        subst hx
        exact ⟨hc.1, hc.2, y, hy, rfl, .inr ⟨hs, hD⟩⟩
theorem iW {S K : List Nat} {w w' : World} {M M' : bB} {l : List (Nat × Cont)} {x : Nat × Cont} (le : Le (· ∈ S) (· ∈ K) w M w' M') (h : x ∈ mo S K l) (hd : ∀ y ∈ l, y.1 = x.1 → y.2.den w M y.1) : x.2.den w' M' x.1 := by
 obtain ⟨h1, h2, y, hy, e, ⟨rfl, hs⟩ | ⟨_, hs⟩⟩ := nr h
 ·exact y.2.mono le (nQ hs).1 (nQ hs).2 h1 h2 (hd y hy rfl)
 have := hd y hy e
 rw [e] at this
 exact IL le h1 h2 hs this
theorem Ah (a : Act) (d : Option Nat) (v : Value) (c : Nat) (hc : c < a.tmps.size) : (a.put d v).tmps.getD c undef = if d = some c then v else a.tmps.getD c undef := by
  cases d with
  | none => simp [Act.put]
  | some d =>
    simp only [Act.put, Array.getD_eq_getD_getElem?, Array.getElem?_setIfInBounds, Option.some.injEq]
    by_cases e : d = c
    · subst e; simp [hc]
    · simp [e]
theorem size_put (a : Act) (d : Option Nat) (v : Value) : (a.put d v).tmps.size = a.tmps.size := by cases d <;> simp [Act.put]
theorem wJ (a : Act) (d : Option Nat) (v : Value) : (a.put d v).defers = a.defers := by cases d <;> simp [Act.put]
theorem Fr.jc {w w' : World} {M M' : bB} {S K : Nat → Prop} (hb : fr.base w M) (hs : ∀ t, S t → 1 ≤ t) (hk : ∀ t, K t → 1 ≤ t ∧ t ∉ fr.pass) (h : Le S K w M w' M') : fr.base w' M' :=
 (hb.trans h).weaken (fun t ht => ht.elim id (fun h => FK.EO (hs t h))) (fun t ht => ht.elim id (hk t))
theorem tZ {A : As} {f : Fx} {a : Act} {w w' : World} {M : bB} {v : Value} (hS : ∀ t ∈ f.S, 1 ≤ t) (hK : ∀ t ∈ f.K, 1 ≤ t ∧ t ∉ fr.pass) 
    (ok : Ok fr a w M) (hs : ∀ c, c < fr.n → (A.slots c).den w M (a.tmps.getD c undef)) (ht : ∀ x ∈ A.tags, x.2.den w M x.1) (hl : f.left w M w' v) : (A.after f).holds fr (a.put f.d v) w' := by
  obtain ⟨M', wf', le, hv, hsets⟩ := hl
  refine ⟨M', ⟨wf', Fr.jc ok.base hS hK le, by rw [size_put, ok.size], by rw [wJ]; exact ok.defers.step hS (fun t ht => (hK t ht).1) le⟩, fun c hc => ?_, fun x hx => ?_⟩
  · rw [Ah a f.d v c (by rw [ok.size]; exact hc)]
    have key : (gZ f.S f.K A.slots c).den w' M' (a.tmps.getD c undef) := by
      rcases ff f.S f.K A.slots c with ⟨e, hdj⟩ | ⟨_, e⟩
      · rw [e]
        exact (A.slots c).mono le (fL hdj).1 (fL hdj).2 (hs c hc)
      · rw [e]; trivial
    simp only [As.after, pU]
    cases hfd : f.d with
    | none => simpa using key
    | some d =>
      by_cases e : d = c
      · subst e; simpa using hv
      · have e' : Nat.beq c d = false := by cases h : Nat.beq c d with | false => rfl | true => exact absurd (Nat.eq_of_beq_eq_true h).symm e
        simpa [e, e'] using key
  · rcases List.mem_append.1 hx with hx | hx
    · exact hsets x hx
    · exact iW le hx fun y hy _ => ht y hy
end
end Go.T
namespace Go.T
open Go Go.RowKit
section
variable {P : Program} {fr : Fr} {ops : Array Oper}
theorem Oper.tQ {F : Fence} {o : Oper} {a : Act} {w : World} {K K' : Act → World → Prop} {Q : Exit → Act → World → Prop} (h : ∀ a w, K a w → K' a w)
    (hh : o.wpIn F 0 P a w K fun _ _ _ => False) : o.wpIn F 0 P a w K' Q := by
  unfold Oper.wpIn at *
  refine ⟨hh.1, ?_⟩
  have hh := hh.2
  generalize (o.semAt F.round a.eval).run P w = r at *
  cases r with
  | ok n w' =>
    cases n <;> simp only [Oper.uponIn] at hh ⊢ <;>
      first
        | exact h _ _ hh
        | exact ⟨hh.1, CallsIn.mono hh.2 (fun e w'' he => by
            cases e with
            | returned v => exact h _ _ he
            | panicked c => exact he.elim
            | outgrown => obtain ⟨_, _, f⟩ := he; exact f.elim)⟩
        | exact ⟨hh.1, RoundIn.mono hh.2 (fun e w'' he => by
            cases e with
            | returned v => exact h _ _ he
            | panicked c => exact he.elim
            | outgrown => obtain ⟨_, _, f⟩ := he; exact f.elim)⟩
        | exact ⟨hh.1, RowsIn.mono hh.2 (fun _ _ he => h _ _ he)⟩
  | halt x w' => cases x <;> simp only [Oper.uponIn] at hh ⊢
theorem s9 {Q : Exit → Act → World → Prop} : ∀ (l : List Oper) (A : As) (K : As → List (As × Fx) → Prop) (a : Act) (w : World), ak P fr ops l A K → A.holds fr a w →
    (∀ A' s a w, K A' s → A'.holds fr a w → Q .normal a w) → wpListIn fr.kd.jC 0 P ops Q l a w
  | [], A, K, a, w, h, ha, hk => hk A [] a w h ha
  | o :: rest, A, K, a, w, ⟨f, ⟨hd, hsets, hS, hK, hop⟩, hrest⟩, ⟨M, ok, hs, ht⟩, hk => by
    have h := hop a w M ok.wf ok.size (fun c _ hc => hs c hc) (fun x hx _ => ht x hx)
    unfold wpListIn
    split
    · rename_i hw
      rw [if_pos hw] at h
      refine Oper.tQ (fun a' w' ⟨v, e, hl⟩ => ?_) h
      subst e
      rw [← hd]
      exact s9 rest _ _ _ _ hrest (tZ hS hK ok hs ht hl) fun A' s a w hk' hA => hk A' _ a w hk' hA
    · rename_i hw
      rw [if_neg hw] at h
      refine ⟨fun f _ => fr.kd.ue f, ?_⟩
      rw [← hd]
      exact s9 rest _ _ _ _ hrest (tZ hS hK ok hs ht h) fun A' s a w hk' hA => hk A' _ a w hk' hA
def hit (s : As × Fx) (c : Nat) : Bool := s.2.d == some c || !(s.1.slots c).safe s.2.S s.2.K
def jh (s : As × Fx) (t : Nat) : Bool := (s.2.S.contains t || s.2.K.contains t) || s.1.tags.any fun x => x.1 == t && !x.2.safe s.2.S s.2.K
def Fx.calm (f : Fx) : Bool := f.S.isEmpty && f.K.isEmpty
def Fx.slotsOf (f : Fx) : List Nat := f.d.toList ++ f.rs
def Fx.mU (f : Fx) : List Nat := f.S ++ (f.K ++ f.rt)
def conflict (n : Nat) (s t : As × Fx) : Bool :=
  t.2.slotsOf.any (hit s) || s.2.slotsOf.any (hit t) || t.2.mU.any (jh s) || s.2.mU.any (jh t) ||
  (!s.2.calm && !t.2.calm && ((List.range n).any (fun c => hit s c && hit t c) || s.1.tags.any fun x => jh s x.1 && jh t x.1))
def n4 (ops : Array Oper) (i j : Nat) : Bool :=
  match ops[j]? with
  | some o => o.after.toList.any fun e => Region.binds .any e && e.on == i
  | none => false
def LM (ops : Array Oper) : Nat → List Nat → List Nat
  | 0, s => s
  | k + 1, s => LM ops k (bif s.any fun m => n4 ops k m then k :: s else s)
def path (ops : Array Oper) (i j : Nat) : Bool := n4 ops i j || (LM ops j [j]).contains i
def GQ (n : Nat) (ops : Array Oper) (s t : As × Fx) (i j : Nat) : Bool := !(decide (i < j) && conflict n s t) || path ops i j
def Mf (ops : Array Oper) (steps : List ((As × Fx) × Nat)) (i k c : Nat) : Bool := steps.any fun m => decide (k < m.2) && (decide (m.2 < i) && (hit m.1 c && path ops m.2 i))
def zC (ops : Array Oper) (steps : List ((As × Fx) × Nat)) (s t : As × Fx) (i k : Nat) : Bool :=
  (if i == k then true else if k < i then t.2.d.toList.all (fun c => t.2.ty.safe s.2.S s.2.K || (hit s c || Mf ops steps i k c)) && t.2.sets.all (fun x => x.2.safe s.2.S s.2.K || jh s x.1)
    else (t.2.ty.safe s.2.S s.2.K && t.2.sets.all (fun x => x.2.safe s.2.S s.2.K)) || path ops i k)
def Dt (n : Nat) (A0 : As) (s : As × Fx) : Bool :=
  s.2.calm || ((List.range n).all (fun c => (A0.slots c).safe s.2.S s.2.K || hit s c) && A0.tags.all (fun x => x.2.safe s.2.S s.2.K || jh s x.1))
def zZ (n : Nat) (ops : Array Oper) (A0 : As) (steps : List (As × Fx)) : Bool :=
  steps.zipIdx.all fun s => Dt n A0 s.1 && steps.zipIdx.all fun t => GQ n ops s.1 t.1 s.2 t.2 && (s.1.2.calm || zC ops steps.zipIdx s.1 t.1 s.2 t.2)
theorem vN : ∀ (l : List Oper) (k : Nat) (A : As) (K : As → List (As × Fx) → Prop), ak P fr ops l A K → (∀ j, l[j]? = ops[k + j]?) →
    ∃ (st : Nat → As) (fx : Nat → Fx), st 0 = A ∧ (∀ i, i < l.length → ∃ o, ops[k + i]? = some o ∧ wo P fr ops o (st i) (fx i)) ∧ (∀ i, i < l.length → st (i + 1) = (st i).after (fx i)) ∧
      K (st l.length) ((List.range l.length).map fun i => (st i, fx i))
  | [], k, A, K, h, _ => ⟨fun _ => A, fun _ => ⟨none, Ty.any, [], [], [], [], []⟩, rfl, fun i hi => absurd hi (Nat.not_lt_zero _), fun i hi => absurd hi (Nat.not_lt_zero _), h⟩
  | o :: rest, k, A, K, ⟨f, hop, hrest⟩, hl => by
    obtain ⟨st, fx, h0, h1, h2, h3⟩ := vN rest (k + 1) _ _ hrest (fun j => by have := hl (j + 1); simpa [Nat.add_assoc, Nat.add_comm 1 j] using this)
    refine ⟨fun i => match i with | 0 => A | i + 1 => st i, fun i => match i with | 0 => f | i + 1 => fx i, rfl, fun i hi => ?_, fun i hi => ?_, ?_⟩
    · cases i with
      | zero => exact ⟨o, by have := hl 0; simpa using this.symm, hop⟩
      | succ i => obtain ⟨o', ho', h⟩ := h1 i (by simpa using hi); exact ⟨o', by rw [← ho']; congr 1; omega, h⟩
    · cases i with
      | zero => exact h0
      | succ i => exact h2 i (by simpa using hi)
    · simp only [List.length_cons, List.range_succ_eq_map, List.map_cons, List.map_map]
      exact h3
variable {st : Nat → As} {fx : Nat → Fx} {m : Nat}
theorem vh {A : As} {f : Fx} {c : Nat} (h : hit (A, f) c = false) : (A.after f).slots c = A.slots c := by
  simp only [hit, Bool.or_eq_false_iff, beq_eq_false_iff_ne, Bool.not_eq_false'] at h
  rcases ff f.S f.K A.slots c with ⟨e, _⟩ | ⟨e, _⟩
  · simp only [As.after, pU]
    cases hd : f.d with
    | none => simpa using e
    | some d =>
      have : Nat.beq c d = false := by cases hb : Nat.beq c d with | false => rfl | true => exact absurd (by rw [hd, Nat.eq_of_beq_eq_true hb]) h.1
      simpa [this] using e
  · rw [h.2] at e; cases e
theorem D4 {A : As} {f : Fx} {c : Nat} (h : f.d = some c) : (A.after f).slots c = f.ty := by simp [As.after, pU, h]
theorem wq {A : As} {f : Fx} {c : Nat} (h : f.d ≠ some c) (hk : (A.slots c).safe f.S f.K = false) : (A.after f).slots c = Ty.any := by
  rcases ff f.S f.K A.slots c with ⟨_, e⟩ | ⟨_, e⟩
  · rw [hk] at e; cases e
  · simp only [As.after, pU]
    cases hd : f.d with
    | none => simpa using e
    | some d =>
      have : Nat.beq c d = false := by cases hb : Nat.beq c d with | false => rfl | true => exact absurd (by rw [hd, Nat.eq_of_beq_eq_true hb]) h
      simpa [this] using e
theorem Eu (hstep : ∀ i, i < m → st (i + 1) = (st i).after (fx i)) (c : Nat) : ∀ j, j ≤ m →
    (st j).slots c = (st 0).slots c ∨ (st j).slots c = Ty.any ∨ ∃ k, k < j ∧ (fx k).d = some c ∧ (st j).slots c = (fx k).ty ∧ ∀ u, k < u → u < j → hit (st u, fx u) c = false := by
  intro j
  induction j with
  | zero => exact fun _ => .inl rfl
  | succ j ih =>
    intro hj
    have ih := ih (by omega)
    rw [hstep j (by omega)]
    by_cases hd : (fx j).d = some c
    · exact .inr (.inr ⟨j, by omega, hd, D4 hd, fun u h1 h2 => by omega⟩)
    · cases hk : ((st j).slots c).safe (fx j).S (fx j).K with
      | false => exact .inr (.inl (wq hd hk))
      | true =>
        rw [vh (by simp [hit, hd, hk])]
        rcases ih with h | h | ⟨k, h1, h2, h3, h4⟩
        · exact .inl h
        · exact .inr (.inl h)
        · refine .inr (.inr ⟨k, by omega, h2, h3, fun u g1 g2 => ?_⟩)
          by_cases e : u = j
          · subst e; simp [hit, hd, hk]
          · exact h4 u g1 (by omega)
theorem HK (hstep : ∀ i, i < m → st (i + 1) = (st i).after (fx i)) (x : Nat × Cont) : ∀ j, j ≤ m → x ∈ (st j).tags →
    ∃ y : Nat × Cont, y.1 = x.1 ∧ x.2.Lv y.2 ∧ (y ∈ (st 0).tags ∨ ∃ k, k < j ∧ y ∈ (fx k).sets) := by
  intro j
  induction j generalizing x with
  | zero => exact fun _ h => ⟨x, rfl, ⟨fun _ h => h, fun _ h => h⟩, .inl h⟩
  | succ j ih =>
    intro hj hx
    rw [hstep j (by omega)] at hx
    rcases List.mem_append.1 hx with h | h
    · exact ⟨x, rfl, ⟨fun _ h => h, fun _ h => h⟩, .inr ⟨j, by omega, h⟩⟩
    · obtain ⟨_, _, y, hy, e, ⟨rfl, _⟩ | ⟨_, hs⟩⟩ := nr h
      · obtain ⟨z, h1, h2, h3⟩ := ih y (by omega) hy
        exact ⟨z, h1, h2, h3.imp id fun ⟨k, hk, h⟩ => ⟨k, by omega, h⟩⟩
      · obtain ⟨z, h1, h2, h3⟩ := ih y (by omega) hy
        have hl := E1 hs
        exact ⟨z, h1.trans e, ⟨fun u hu => h2.1 u (hl.1 u hu), fun u hu => h2.2 u (hl.2 u hu)⟩, h3.imp id fun ⟨k, hk, h⟩ => ⟨k, by omega, h⟩⟩
theorem yz (hstep : ∀ i, i < m → st (i + 1) = (st i).after (fx i)) (c i : Nat) : ∀ j, i ≤ j → j ≤ m → (∀ k, i ≤ k → k < j → hit (st k, fx k) c = false) → (st j).slots c = (st i).slots c := by
  intro j
  induction j with
  | zero => intro h _ _; have : i = 0 := by omega
            subst this; rfl
  | succ j ih =>
    intro h hj hn
    by_cases e : i = j + 1
    · subst e; rfl
    · rw [hstep j (by omega), vh (hn j (by omega) (by omega))]
      exact ih (by omega) (by omega) fun k h1 h2 => hn k h1 (by omega)
theorem AO (hstep : ∀ i, i < m → st (i + 1) = (st i).after (fx i)) (hset : ∀ i, i < m → ∀ x ∈ (fx i).sets, x.1 ∈ (fx i).S ∨ x.1 ∈ (fx i).K) (x : Nat × Cont) (i : Nat) : ∀ j, i ≤ j → j ≤ m →
    (∀ k, i ≤ k → k < j → jh (st k, fx k) x.1 = false) → x ∈ (st j).tags → x ∈ (st i).tags := by
  intro j
  induction j with
  | zero => intro h _ _ hx; have : i = 0 := by omega
            subst this; exact hx
  | succ j ih =>
    intro h hj hn hx
    by_cases e : i = j + 1
    · subst e; exact hx
    · refine ih (by omega) (by omega) (fun k h1 h2 => hn k h1 (by omega)) ?_
      rw [hstep j (by omega)] at hx
      have hh := hn j (by omega) (by omega)
      simp only [jh, Bool.or_eq_false_iff, List.contains_eq_mem, decide_eq_false_iff_not, List.any_eq_false, Bool.and_eq_true, beq_iff_eq, Bool.not_eq_true', not_and, Bool.not_eq_false] at hh
      rcases List.mem_append.1 hx with h1 | h1
      · rcases hset j (by omega) x h1 with h2 | h2
        · exact absurd h2 hh.1.1
        · exact absurd h2 hh.1.2
      · obtain ⟨_, _, y, hy, e, ⟨rfl, _⟩ | ⟨hu, _⟩⟩ := nr h1
        · exact hy
        · have := hh.2 y hy e; rw [hu] at this; cases this
end
end Go.T
namespace Go.T
open Go Go.RowKit
section
variable {P : Program} {fr : Fr} {ops : Array Oper} {st : Nat → As} {fx : Nat → Fx} {m : Nat}
structure LW (P : Program) (fr : Fr) (ops : Array Oper) (st : Nat → As) (fx : Nat → Fx) (m : Nat) : Prop where
  sz : ops.size = m
  op : ∀ i, i < m → ∃ o, ops[i]? = some o ∧ wo P fr ops o (st i) (fx i)
  step : ∀ i, i < m → st (i + 1) = (st i).after (fx i)
  pair : ∀ i j, i < j → j < m → conflict fr.n (st i, fx i) (st j, fx j) = true → path ops i j = true
  star : ∀ i k, i < m → k < m → (fx i).calm = false → zC ops ((List.range m).map fun i => (st i, fx i)).zipIdx (st i, fx i) (st k, fx k) i k = true
  one : ∀ i, i < m → Dt fr.n (st 0) (st i, fx i) = true
def lP (listed : Array Bool) (i : Nat) : Prop := listed.getD i false = true
theorem sU {q : Nat → Prop} (h : ∀ k m, n4 ops k m = true → q m → q k) : ∀ (k : Nat) (s : List Nat), (∀ x ∈ s, q x) → ∀ x ∈ LM ops k s, q x
  | 0, _, hs => hs
  | k + 1, s, hs => by
    refine sU h k _ fun x hx => ?_
    cases hc : s.any fun m => n4 ops k m with
    | false => rw [hc] at hx; exact hs x hx
    | true =>
      rw [hc] at hx
      obtain ⟨m, hm, he⟩ := List.any_eq_true.1 hc
      rcases List.mem_cons.1 hx with rfl | hx
      · exact h _ m he (hs m hm)
      · exact hs x hx
theorem j5 {listed : Array Bool} (hdown : ∀ k j, n4 ops k j = true → lP listed j → lP listed k) {i j : Nat} (h : path ops i j = true) (hj : lP listed j) : lP listed i := by
 simp only [path, Bool.or_eq_true, List.contains_eq_mem, decide_eq_true_eq] at h
 rcases h with h | h
 ·exact hdown i j h hj
 exact sU (q := lP listed) hdown j [j] (fun x hx => by rw [List.mem_singleton.1 hx]; exact hj) i h
theorem rF {listed : Array Bool} (hdown : ∀ k j, n4 ops k j = true → lP listed j → lP listed k) {i k : Nat} (hpre : ∀ k, n4 ops k i = true → lP listed k) (h : path ops k i = true) (hne : k ≠ i) : lP listed k := by
 simp only [path, Bool.or_eq_true, List.contains_eq_mem, decide_eq_true_eq] at h
 rcases h with h | h
 ·exact hpre k h
 refine (sU (q := fun x => x = i ∨ lP listed x) (fun a m he hm => ?_) i [i] (fun x hx => .inl (List.mem_singleton.1 hx)) k h).resolve_left hne
 rcases hm with rfl | hm
 ·exact .inr (hpre a he)
 exact .inr (hdown a m he hm)
structure Inv (fr : Fr) (ops : Array Oper) (st : Nat → As) (fx : Nat → Fx) (m : Nat) (listed : Array Bool) (a : Act) (w : World) (M : bB) : Prop where
  ok : Ok fr a w M
  down : ∀ k j, n4 ops k j = true → lP listed j → lP listed k
  slot : ∀ c, c < fr.n → ∀ j, j ≤ m → (∀ i, i < j → hit (st i, fx i) c = true → lP listed i) → (∀ i, j ≤ i → i < m → hit (st i, fx i) c = true → ¬ lP listed i) →
    ((st j).slots c).den w M (a.tmps.getD c undef)
  tag : ∀ j, j ≤ m → ∀ x ∈ (st j).tags, (∀ i, i < j → jh (st i, fx i) x.1 = true → lP listed i) → (∀ i, j ≤ i → i < m → jh (st i, fx i) x.1 = true → ¬ lP listed i) → x.2.den w M x.1
theorem rA {listed : Array Bool} {i k : Nat} (h : lP (listed.setIfInBounds i true) k) : lP listed k ∨ k = i := by
 by_cases e : i = k
 ·exact .inr e.symm
 exact .inl (by simpa [lP, Array.getElem?_setIfInBounds_ne e] using h)
theorem vI {listed : Array Bool} {i k : Nat} (h : lP listed k) : lP (listed.setIfInBounds i true) k := getD_set_true h
theorem A8 {listed : Array Bool} {i : Nat} (h : i < listed.size) : lP (listed.setIfInBounds i true) i := by simp [lP, h]
theorem yG {n : Nat} {s t : As × Fx} {c : Nat} (h : c ∈ t.2.slotsOf) (hh : hit s c = true) : conflict n s t = true := by
 have : t.2.slotsOf.any (hit s) = true := List.any_eq_true.2 ⟨c, h, hh⟩
 simp [conflict, this]
theorem vJ {n : Nat} {s t : As × Fx} {c : Nat} (h : c ∈ s.2.slotsOf) (hh : hit t c = true) : conflict n s t = true := by
 have : s.2.slotsOf.any (hit t) = true := List.any_eq_true.2 ⟨c, h, hh⟩
 simp [conflict, this]
theorem Bv {n : Nat} {s t : As × Fx} {c : Nat} (h : c ∈ t.2.mU) (hh : jh s c = true) : conflict n s t = true := by
 have : t.2.mU.any (jh s) = true := List.any_eq_true.2 ⟨c, h, hh⟩
 simp [conflict, this]
theorem yX {n : Nat} {s t : As × Fx} {c : Nat} (h : c ∈ s.2.mU) (hh : jh t c = true) : conflict n s t = true := by
 have : s.2.mU.any (jh t) = true := List.any_eq_true.2 ⟨c, h, hh⟩
 simp [conflict, this]
theorem GX {s : As × Fx} {c : Nat} (h : s.2.d = some c) : hit s c = true := by simp [hit, h]
theorem vm {s : As × Fx} {c : Nat} (h : hit s c = true) (hd : s.2.d ≠ some c) : (s.1.slots c).safe s.2.S s.2.K = false ∧ s.2.calm = false := by
  have h1 : (s.1.slots c).safe s.2.S s.2.K = false := by
    simp only [hit, Bool.or_eq_true, beq_iff_eq, hd, false_or, Bool.not_eq_true'] at h; exact h
  refine ⟨h1, ?_⟩
  cases hk : s.2.calm with
  | false => rfl
  | true =>
    simp only [Fx.calm, Bool.and_eq_true, List.isEmpty_iff] at hk
    rw [hk.1, hk.2, wK] at h1; cases h1
theorem qS {f : Fx} {c : Nat} (h : f.d = some c) : c ∈ f.slotsOf := by simp [Fx.slotsOf, h]
theorem Eb {n : Nat} {s t : As × Fx} {c : Nat} (hc : c < n) (h : hit s c = true) (h' : hit t c = true) : conflict n s t = true := by
 by_cases hd : s.2.d = some c
 ·exact vJ (qS hd) h'
 by_cases hd' : t.2.d = some c
 ·exact yG (qS hd') h
 have h1 := (vm h hd).2
 have h2 := (vm h' hd').2
 have : ((List.range n).any fun c => hit s c && hit t c) = true := List.any_eq_true.2 ⟨c, List.mem_range.2 hc, by simp [h, h']⟩
 simp [conflict, h1, h2, this]
theorem calm_eq {f : Fx} (h : f.calm = true) : f.S = [] ∧ f.K = [] := by simpa [Fx.calm] using h
theorem tP (t : Cont) : t.safe [] [] = true := by simp [Cont.safe, kg]
theorem qz {n : Nat} {s t : As × Fx} {c : Nat} (h : jh s c = true) (h' : jh t c = true) : conflict n s t = true := by
  have hs : (c ∈ s.2.S ∨ c ∈ s.2.K) ∨ ∃ x ∈ s.1.tags, x.1 = c ∧ x.2.safe s.2.S s.2.K = false := by
    simpa only [jh, Bool.or_eq_true, List.contains_eq_mem, decide_eq_true_eq, List.any_eq_true, Bool.and_eq_true, beq_iff_eq, Bool.not_eq_true'] using h
  have ht : (c ∈ t.2.S ∨ c ∈ t.2.K) ∨ ∃ x ∈ t.1.tags, x.1 = c ∧ x.2.safe t.2.S t.2.K = false := by
    simpa only [jh, Bool.or_eq_true, List.contains_eq_mem, decide_eq_true_eq, List.any_eq_true, Bool.and_eq_true, beq_iff_eq, Bool.not_eq_true'] using h'
  rcases hs with hs | ⟨x, hx, rfl, hxs⟩
  · exact yX (by simp only [Fx.mU, List.mem_append]; exact hs.elim .inl fun h => .inr (.inl h)) h'
  · rcases ht with ht | ⟨y, _, _, hys⟩
    · exact Bv (by simp only [Fx.mU, List.mem_append]; exact ht.elim .inl fun h => .inr (.inl h)) h
    · have c1 : s.2.calm = false := by
        cases hc : s.2.calm with
        | false => rfl
        | true => rw [(calm_eq hc).1, (calm_eq hc).2, tP] at hxs; cases hxs
      have c2 : t.2.calm = false := by
        cases hc : t.2.calm with
        | false => rfl
        | true => rw [(calm_eq hc).1, (calm_eq hc).2, tP] at hys; cases hys
      have : (s.1.tags.any fun x => jh s x.1 && jh t x.1) = true := List.any_eq_true.2 ⟨x, hx, by simp [h, h']⟩
      simp [conflict, c1, c2, this]
theorem LW.BF (r : LW P fr ops st fx m) {listed : Array Bool} (hdown : ∀ k j, n4 ops k j = true → lP listed j → lP listed k) {i c j : Nat} (hi : i < m) (hni : ¬ lP listed i) (hc : c < fr.n) (hj : j ≤ m)
    (hnh : hit (st i, fx i) c = false) (h1 : ∀ k, k < j → hit (st k, fx k) c = true → lP listed k) (h2 : ∀ k, j ≤ k → k < m → hit (st k, fx k) c = true → ¬ lP listed k) (hpre : ∀ k, n4 ops k i = true → lP listed k) : ((st j).slots c).safe (fx i).S (fx i).K = true := by
  cases hK : (fx i).calm with
  | true =>
    rw [(calm_eq hK).1, (calm_eq hK).2]; exact wK _
  | false =>
    rcases Eu r.step c j hj with e | e | ⟨k, hk, hd, e, hlast⟩
    · rw [e]
      have := r.one i hi
      simp only [Dt, hK, Bool.false_or, Bool.and_eq_true, List.all_eq_true, List.mem_range] at this
      have := this.1 c hc
      simpa [hnh] using this
    · rw [e]; simp [Ty.any, Ty.safe, kg]
    · rw [e]
      have hkm : k < m := by omega
      have := r.star i k hi hkm hK
      by_cases hik : i = k
      · subst hik; rw [GX (s := (st i, fx i)) hd] at hnh; cases hnh
      · simp only [zC, beq_iff_eq, hik, if_false] at this
        by_cases hlt : k < i
        · simp only [hlt, if_true, hd, Option.toList_some, List.all_cons, List.all_nil, Bool.and_true, Bool.and_eq_true, hnh, Bool.false_or, Bool.or_eq_true] at this
          rcases this.1 with h | h
          · exact h
          · obtain ⟨⟨q, u⟩, hq, h⟩ := List.any_eq_true.1 h
            rw [List.mem_zipIdx_iff_getElem?] at hq
            have hum : u < m := by
              have := (List.getElem?_eq_some_iff.1 hq).1
              simpa using this
            rw [List.getElem?_map, List.getElem?_range hum] at hq
            injection hq with hq
            subst hq
            simp only [Bool.and_eq_true, decide_eq_true_eq] at h
            obtain ⟨g1, g2, g3, g4⟩ := h
            rcases Nat.lt_or_ge u j with h | h
            · rw [hlast u g1 h] at g3; cases g3
            · exact absurd (rF hdown hpre g4 (by omega)) (h2 u h hum g3)
        · simp only [hlt, if_false, Bool.and_eq_true, Bool.or_eq_true] at this
          rcases this with h | h
          · exact h.1
          · exact absurd (j5 hdown h (h1 k hk (GX hd))) hni
theorem LW.JH (r : LW P fr ops st fx m) {listed : Array Bool} (hdown : ∀ k j, n4 ops k j = true → lP listed j → lP listed k) {i j : Nat} (hi : i < m) (hni : ¬ lP listed i) (hj : j ≤ m) {x : Nat × Cont} (hx : x ∈ (st j).tags)
    (hnh : jh (st i, fx i) x.1 = false) (h1 : ∀ k, k < j → jh (st k, fx k) x.1 = true → lP listed k) : x.2.safe (fx i).S (fx i).K = true := by
  cases hK : (fx i).calm with
  | true =>
    rw [(calm_eq hK).1, (calm_eq hK).2]; exact tP _
  | false =>
    obtain ⟨y, e, hl, h | ⟨k, hk, h⟩⟩ := HK r.step x j hj hx
    · refine yx hl ?_
      have := r.one i hi
      simp only [Dt, hK, Bool.false_or, Bool.and_eq_true, List.all_eq_true] at this
      have := this.2 y h
      rw [e, hnh, Bool.or_false] at this; exact this
    · refine yx hl ?_
      have hkm : k < m := by omega
      have hst := r.star i k hi hkm hK
      have hin : y.1 ∈ (fx k).S ∨ y.1 ∈ (fx k).K := by obtain ⟨_, _, ho⟩ := r.op k hkm; exact ho.2.1 y h
      have hkh : jh (st k, fx k) x.1 = true := by
        rw [← e]
        simp only [jh, Bool.or_eq_true, List.contains_eq_mem, decide_eq_true_eq]; exact .inl hin
      unfold zC at hst
      by_cases hik : i = k
      · subst hik; rw [hkh] at hnh; cases hnh
      · simp only [beq_iff_eq, hik, if_false] at hst
        by_cases hlt : k < i
        · simp only [hlt, if_true, Bool.and_eq_true, List.all_eq_true] at hst
          have := hst.2 y h
          rw [e, hnh, Bool.or_false] at this; exact this
        · simp only [hlt, if_false, Bool.and_eq_true, Bool.or_eq_true, List.all_eq_true] at hst
          rcases hst with hst | hst
          · exact hst.2 y h
          · exact absurd (j5 hdown hst (h1 k hk hkh)) hni
theorem Inv.step (r : LW P fr ops st fx m) {listed : Array Bool} {a : Act} {w w' : World} {M : bB} {v : Value} (inv : Inv fr ops st fx m listed a w M) {i : Nat} (hi : i < m) (hsz : i < listed.size) (hni : ¬ lP listed i)
    (hpre : ∀ k, n4 ops k i = true → lP listed k) {o : Oper} (hop : wo P fr ops o (st i) (fx i)) (hl : (fx i).left w M w' v) :
    ∃ M', Inv fr ops st fx m (listed.setIfInBounds i true) (a.put o.dst v) w' M' := by
  obtain ⟨hd, hsets, hS, hK, _⟩ := hop
  obtain ⟨M', wf', le, hv, hse⟩ := hl
  have hset : ∀ i, i < m → ∀ x ∈ (fx i).sets, x.1 ∈ (fx i).S ∨ x.1 ∈ (fx i).K := fun i hi => by
    obtain ⟨_, _, h⟩ := r.op i hi; exact h.2.1
  refine ⟨M', ⟨⟨wf', Fr.jc inv.ok.base hS hK le, by rw [size_put, inv.ok.size], by rw [wJ]; exact inv.ok.defers.step hS (fun t ht => (hK t ht).1) le⟩, ?_, ?_, ?_⟩⟩
  · intro k j he hj
    rcases rA hj with h | rfl
    · exact vI (inv.down k j he h)
    · exact vI (hpre k he)
  · intro c hc j hj h1 h2
    rw [← hd, Ah a (fx i).d v c (by rw [inv.ok.size]; exact hc)]
    cases hh : hit (st i, fx i) c with
    | true =>
      have hij : i < j := by
        rcases Nat.lt_or_ge i j with h | h
        · exact h
        · exact absurd (A8 hsz) (h2 i h hi hh)
      have hno : ∀ k, i + 1 ≤ k → k < j → hit (st k, fx k) c = false := by
        intro k hk hkj
        cases hkc : hit (st k, fx k) c with
        | false => rfl
        | true =>
          have hlk : lP listed k := (rA (h1 k hkj hkc)).resolve_right (by omega)
          exact absurd (j5 inv.down (r.pair i k (by omega) (by omega) (Eb hc hh hkc)) hlk) hni
      rw [yz r.step c (i + 1) j (by omega) hj hno, r.step i hi]
      by_cases e : (fx i).d = some c
      · rw [D4 e, if_pos e]; exact hv
      · rw [wq e (vm hh e).1]; trivial
    | false =>
      have e : (fx i).d ≠ some c := fun e => by rw [GX (s := (st i, fx i)) e] at hh; cases hh
      rw [if_neg e]
      have h1' : ∀ k, k < j → hit (st k, fx k) c = true → lP listed k := fun k hk hkc =>
        (rA (h1 k hk hkc)).resolve_right (fun e => by subst e; rw [hh] at hkc; cases hkc)
      have h2' : ∀ k, j ≤ k → k < m → hit (st k, fx k) c = true → ¬ lP listed k := fun k hk hkm hkc hlk => h2 k hk hkm hkc (vI hlk)
      exact ((st j).slots c).mono le (fL (r.BF inv.down hi hni hc hj hh h1' h2' hpre)).1 (fL (r.BF inv.down hi hni hc hj hh h1' h2' hpre)).2 (inv.slot c hc j hj h1' h2')
  · intro j hj x hx h1 h2
    cases hh : jh (st i, fx i) x.1 with
    | true =>
      have hij : i < j := by
        rcases Nat.lt_or_ge i j with h | h
        · exact h
        · exact absurd (A8 hsz) (h2 i h hi hh)
      have hno : ∀ k, i + 1 ≤ k → k < j → jh (st k, fx k) x.1 = false := by
        intro k hk hkj
        cases hkc : jh (st k, fx k) x.1 with
        | false => rfl
        | true =>
          have hlk : lP listed k := (rA (h1 k hkj hkc)).resolve_right (by omega)
          exact absurd (j5 inv.down (r.pair i k (by omega) (by omega) (qz hh hkc)) hlk) hni
      have hx' := AO r.step hset x (i + 1) j (by omega) hj hno hx
      rw [r.step i hi] at hx'
      rcases List.mem_append.1 hx' with h | h
      · exact hse x h
      · refine iW le h fun y hy e => inv.tag i (by omega) y hy (fun k hk hkc => ?_) fun k hk hkm hkc hlk => ?_
        · rw [e] at hkc
          exact rF inv.down hpre (r.pair k i hk hi (qz hkc hh)) (by omega)
        · rw [e] at hkc
          rcases Nat.lt_or_ge i k with hlt | hge
          · exact hni (j5 inv.down (r.pair i k hlt hkm (qz hh hkc)) hlk)
          · have : k = i := by omega
            subst this; exact hni hlk
    | false =>
      have h1' : ∀ k, k < j → jh (st k, fx k) x.1 = true → lP listed k := fun k hk hkc =>
        (rA (h1 k hk hkc)).resolve_right (fun e => by subst e; rw [hh] at hkc; cases hkc)
      have hsafe := r.JH inv.down hi hni hj hx hh h1'
      simp only [jh, Bool.or_eq_false_iff, List.contains_eq_mem, decide_eq_false_iff_not] at hh
      exact x.2.mono le (nQ hsafe).1 (nQ hsafe).2 hh.1.1 hh.1.2 (inv.tag j hj x hx h1' fun k hk hkm hkc hlk => h2 k hk hkm hkc (vI hlk))
theorem Gc {listed : Array Bool} {i : Nat} {o : Oper} (ho : ops[i]? = some o) (h : ∀ e ∈ o.after, Region.binds .any e = true → listed.getD e.on false = true) : ∀ k, n4 ops k i = true → lP listed k := by
 intro k hk
 simp only [n4, ho, List.any_eq_true, Bool.and_eq_true, beq_iff_eq] at hk
 obtain ⟨e, he, hb, hon⟩ := hk
 subst hon
 exact h e (Array.mem_toList_iff.1 he) hb
theorem DB (r : LW P fr ops st fx m) {Q : Exit → Act → World → Prop} (hQ : ∀ a w, (st m).holds fr a w → Q .normal a w) (hacyc : ∀ i j, n4 ops i j = true → i < j) :
    ∀ (fuel : Nat) (listed : Array Bool) (a : Act) (w : World) (M : bB), listed.size = m → (listed.toList.countP fun b => !b) ≤ fuel → Inv fr ops st fx m listed a w M → wpAnyIn fr.kd.jC 0 P .any ops Q fuel listed a w := by
  have hfin : ∀ (listed : Array Bool) (a : Act) (w : World) (M : bB), listed.size = m → Region.ready .any ops listed = [] → Inv fr ops st fx m listed a w M → Q .normal a w := by
    intro listed a w M hsz hr inv
    have hall : ∀ i, i < m → lP listed i := by
      intro i
      induction i using Nat.strongRecOn with
      | _ i ih =>
        intro hi
        refine Classical.byContradiction fun hn => ?_
        obtain ⟨o, ho, _⟩ := r.op i hi
        have hmem : i ∈ Region.ready .any ops listed := by
          rw [mem_ready]
          refine ⟨?_, o, ho, fun e he hb => ?_⟩
          · simp only [lP, Array.getD_eq_getD_getElem?] at hn ⊢
            rw [Array.getElem?_eq_getElem (by omega)] at hn ⊢
            simpa using hn
          · have hed : n4 ops e.on i = true := by
              simp only [n4, ho, List.any_eq_true, Bool.and_eq_true, beq_iff_eq]
              exact ⟨e, Array.mem_toList_iff.2 he, hb, rfl⟩
            have := hacyc _ _ hed
            exact ih e.on this (by omega)
        rw [hr] at hmem
        cases hmem
    refine hQ a w ⟨M, inv.ok, fun c hc => inv.slot c hc m (Nat.le_refl _) (fun i hi _ => hall i hi) (fun i h1 h2 => absurd h2 (by omega)),
      fun x hx => inv.tag m (Nat.le_refl _) x hx (fun i hi _ => hall i hi) (fun i h1 h2 => absurd h2 (by omega))⟩
  intro fuel
  induction fuel with
  | zero =>
    intro listed a w M hsz hcnt inv
    have hr : Region.ready .any ops listed = [] := by
      refine List.eq_nil_iff_forall_not_mem.2 fun i hi => ?_
      rw [mem_ready] at hi
      obtain ⟨h0, o, ho, _⟩ := hi
      have hlt : i < listed.size := by rw [hsz, ← r.sz]; exact (Array.getElem?_eq_some_iff.1 ho).1
      have : 0 < listed.toList.countP fun b => !b := by
        rw [List.countP_pos_iff]
        refine ⟨listed[i], by simp, ?_⟩
        simpa [Array.getD_eq_getD_getElem?, Array.getElem?_eq_getElem hlt] using h0
      omega
    exact ⟨hr, hfin listed a w M hsz hr inv⟩
  | succ fuel ih =>
    intro listed a w M hsz hcnt inv
    refine ⟨fun hr => hfin listed a w M hsz hr inv, fun i hi => ?_⟩
    rw [mem_ready] at hi
    obtain ⟨h0, o, ho, hpre⟩ := hi
    have hlt : i < listed.size := by rw [hsz, ← r.sz]; exact (Array.getElem?_eq_some_iff.1 ho).1
    have him : i < m := by omega
    have hni : ¬ lP listed i := by
      simp only [lP, Array.getD_eq_getD_getElem?, Array.getElem?_eq_getElem hlt, Option.getD_some] at h0 ⊢
      simp [h0]
    have hpre' := Gc ho hpre
    obtain ⟨o', ho', hop⟩ := r.op i him
    rw [ho] at ho'
    injection ho' with ho'
    subst ho'
    have hcnt' : ((listed.setIfInBounds i true).toList.countP fun b => !b) ≤ fuel := by
      have hb : listed[i] = false := by simpa [Array.getD_eq_getD_getElem?, Array.getElem?_eq_getElem hlt] using h0
      have h1 : (listed.setIfInBounds i true).toList = listed.toList.set i true := by simp
      rw [h1, List.countP_set (by simpa using hlt)]
      simp only [Array.getElem_toList, hb]
      have : 0 < listed.toList.countP fun b => !b := by
        rw [List.countP_pos_iff]
        exact ⟨listed[i], by simp, by simp [hb]⟩
      simp only [Bool.not_false, Bool.not_true, if_true, Bool.false_eq_true, if_false]
      omega
    have hnext : ∀ w' v, (fx i).left w M w' v → wpAnyIn fr.kd.jC 0 P .any ops Q fuel (listed.setIfInBounds i true) (a.put o.dst v) w' := fun w' v hl => by
      obtain ⟨M', inv'⟩ := inv.step r him hlt hni hpre' hop hl
      exact ih _ _ _ M' (by simpa using hsz) hcnt' inv'
    have h := hop.2.2.2.2 a w M inv.ok.wf inv.ok.size
      (fun c hc hcn => inv.slot c hcn i (by omega)
        (fun k hk hkc => rF inv.down hpre' (r.pair k i hk him (yG (by simp [Fx.slotsOf, hc]) hkc)) (by omega))
        (fun k hk hkm hkc hlk => by
          rcases Nat.lt_or_ge i k with h | h
          · exact hni (j5 inv.down (r.pair i k h hkm (vJ (by simp [Fx.slotsOf, hc]) hkc)) hlk)
          · have : k = i := by omega
            subst this; exact hni hlk))
      (fun x hx hrt => inv.tag i (by omega) x hx
        (fun k hk hkc => rF inv.down hpre' (r.pair k i hk him (Bv (by simp [Fx.mU, hrt]) hkc)) (by omega))
        (fun k hk hkm hkc hlk => by
          rcases Nat.lt_or_ge i k with h | h
          · exact hni (j5 inv.down (r.pair i k h hkm (yX (by simp [Fx.mU, hrt]) hkc)) hlk)
          · have : k = i := by omega
            subst this; exact hni hlk))
    simp only [wpOpIn, ho]
    split
    · rename_i hw
      rw [if_pos hw] at h
      exact Oper.tQ (fun a' w' ⟨v, e, hl⟩ => by subst e; exact hnext w' v hl) h
    · rename_i hw
      rw [if_neg hw] at h
      exact ⟨fun f _ => fr.kd.ue f, hnext w undef h⟩
def forward (ops : Array Oper) : Bool := ops.toList.zipIdx.all fun x => x.1.after.toList.all fun e => !Region.binds .any e || decide (e.on < x.2)
theorem zU (h : forward ops = true) : ∀ i j, n4 ops i j = true → i < j := by
 intro i j he
 unfold n4 at he
 split at he
 ·rename_i o ho
  simp only [forward, List.all_eq_true] at h
  have hm : (o, j) ∈ ops.toList.zipIdx := by
   rw [List.mem_zipIdx_iff_getElem?]; simpa using ho
  have h2 := h _ hm
  simp only [List.any_eq_true, Bool.and_eq_true, beq_iff_eq] at he
  obtain ⟨e, he, hb, hon⟩ := he
  have := h2 e he
  simp only [hb, Bool.not_true, Bool.false_or, decide_eq_true_eq] at this
  omega
 cases he
theorem um {S K : Nat → Prop} (w : World) (M : bB) : Le S K w M { w with drawn := w.drawn + 1 } M :=
 ⟨Nat.le_refl _, rfl, rfl, rfl, fun _ _ h => ⟨h, rfl⟩, fun _ _ h _ => ⟨h, fun _ => rfl⟩⟩
theorem IF {id : Nat} {l : List Oper} {A : As} {Q : Exit → Act → World → Prop} (hm : P.follows .mixedOrders = true) (hf : forward l.toArray = true)
    (h : ak P fr l.toArray l A fun A' s => zZ fr.n l.toArray A s = true ∧ ∀ a w, A'.holds fr a w → Q .normal a w) :
    ∀ a w, A.holds fr a w → (Code.region id l.toArray true).wpIn fr.kd.jC 0 P Q a w := by
  intro a w ⟨M, ok, hs, ht⟩
  obtain ⟨st, fx, h0, h1, h2, hord, hK⟩ := vN l 0 A _ h (fun j => by simp)
  subst h0
  have hmem : ∀ i, i < l.length → ((st i, fx i), i) ∈ ((List.range l.length).map fun i => (st i, fx i)).zipIdx := fun i hi => by
    rw [List.mem_zipIdx_iff_getElem?]; simp [List.getElem?_range hi]
  simp only [zZ, List.all_eq_true, Bool.and_eq_true] at hord
  have r : LW P fr l.toArray st fx l.length := by
    refine ⟨by simp, fun i hi => by simpa using h1 i hi, h2, fun i j hij hj hc => ?_, fun i k hi hk hK => ?_, fun i hi => (hord _ (hmem i hi)).1⟩
    · have := ((hord _ (hmem i (by omega))).2 _ (hmem j hj)).1
      simpa [GQ, hij, hc] using this
    · have := ((hord _ (hmem i hi)).2 _ (hmem k hk)).2
      simpa [hK] using this
  refine wpIn_region_any hm ?_
  refine DB r hK (zU hf) _ _ _ _ M (by simp) (by simp [List.countP_replicate]) ⟨⟨⟨ok.wf.lt, ok.wf.inj⟩, Fr.jc (S := fun _ => False) (K := fun _ => False) ok.base (fun _ h => h.elim) (fun _ h => h.elim) (um w M), ok.size, ok.defers.step (S := fun _ => False) (K := fun _ => False) (fun _ h => h.elim) (fun _ h => h.elim) (um w M)⟩, ?_, ?_, ?_⟩
  · intro k j _ hj; simp [lP, Array.getElem?_replicate] at hj; split at hj <;> simp at hj
  · intro c hc j hj h1' _
    have : (st j).slots c = (st 0).slots c := yz h2 c 0 j (Nat.zero_le _) hj fun k _ hk => by
      cases hh : hit (st k, fx k) c with
      | false => rfl
      | true => have := h1' k hk hh; simp [lP, Array.getElem?_replicate] at this; split at this <;> simp at this
    rw [this]
    exact ((st 0).slots c).mono (S := fun _ => False) (K := fun _ => False) (um w M) (fun _ _ h => h) (fun _ _ h => h) (hs c hc)
  · intro j hj x hx h1' _
    have hset : ∀ i, i < l.length → ∀ x ∈ (fx i).sets, x.1 ∈ (fx i).S ∨ x.1 ∈ (fx i).K := fun i hi => by
      obtain ⟨_, _, h⟩ := h1 i hi; exact h.2.1
    have hx0 := AO h2 hset x 0 j (Nat.zero_le _) hj (fun k _ hk => by
      cases hh : jh (st k, fx k) x.1 with
      | false => rfl
      | true => have := h1' k hk hh; simp [lP, Array.getElem?_replicate] at this; split at this <;> simp at this) hx
    exact x.2.mono (S := fun _ => False) (K := fun _ => False) (um w M) (fun _ _ h => h) (fun _ _ h => h) (fun h => h) (fun h => h) (ht x hx0)
theorem FZ {id : Nat} {l : List Oper} {A : As} {Q : Exit → Act → World → Prop} (h : ak P fr l.toArray l A fun A' _ => ∀ a w, A'.holds fr a w → Q .normal a w) :
 ∀ a w, A.holds fr a w → (Code.region id l.toArray false).wpIn fr.kd.jC 0 P Q a w := fun _ _ ha =>
 wpIn_region_lit (s9 l A _ _ _ h ha fun _ _ _ _ hk hA => hk _ _ hA)
end
end Go.T
namespace Go.T
open Go Go.RowKit
def q3 (v : Value) (_ : World) (_ : bB) (x : Value) : Prop := x = v
def Ty.ex (v : Value) : Ty := ⟨q3 v, [], [], fun _ _ _ h => h, v.oneCell', fun h e => (show _ = _ from e) ▸ h⟩
def ir (k : IntKind) (n : Int) (_ : World) (_ : bB) (x : Value) : Prop := x = .int k n
def Ty.int (k : IntKind) (n : Int) : Ty := ⟨ir k n, [], [], fun _ _ _ h => h, true, fun _ e => (show _ = _ from e) ▸ rfl⟩
def fj (b : Bool) (_ : World) (_ : bB) (x : Value) : Prop := x = .bool b
def Ty.bool (b : Bool) : Ty := ⟨fj b, [], [], fun _ _ _ h => h, true, fun _ e => (show _ = _ from e) ▸ rfl⟩
def jR (s : ByteArray) (_ : World) (_ : bB) (x : Value) : Prop := x = .string s
def Ty.str (s : ByteArray) : Ty := ⟨jR s, [], [], fun _ _ _ h => h, true, fun _ e => (show _ = _ from e) ▸ rfl⟩
def jL (t off : Nat) (_ : World) (M : bB) (x : Value) : Prop := ∃ b, M b = some t ∧ x = .pointer (some ⟨b, off, none⟩)
def Ty.ptr (t off : Nat) : Ty := ⟨jL t off, [t], [], fun le hk _ ⟨b, h, e⟩ => ⟨b, (le.own b t h (hk t (by simp))).1, e⟩, true, fun _ ⟨_, _, e⟩ => e ▸ rfl⟩
def jQ (l : List Ty) (w : World) (M : bB) (x : Value) : Prop := ∃ cs : Array Value, x = .agg cs ∧ cV w M l cs.toList
def Ty.agg (l : List Ty) : Ty := { den := jQ l, deps := cN l, cdeps := bw l, mono := fun le hk hs ⟨cs, e, h⟩ => ⟨cs, e, cI le hk hs h⟩ }
def jI (l : List Ty) (w : World) (M : bB) (x : Value) : Prop := ∃ cs : Array Value, x = .tuple cs ∧ cV w M l cs.toList
def Ty.kH (l : List Ty) : Ty := { den := jI l, deps := cN l, cdeps := bw l, mono := fun le hk hs ⟨cs, e, h⟩ => ⟨cs, e, cI le hk hs h⟩ }
def jN (f : FuncId) (caps : List Ty) (w : World) (M : bB) (x : Value) : Prop := ∃ cs : Array Value, x = .func (.func f) #[] cs ∧ cV w M caps cs.toList
def Ty.jz (f : FuncId) (caps : List Ty) : Ty := ⟨jN f caps, cN caps, bw caps, fun le hk hs ⟨cs, e, h⟩ => ⟨cs, e, cI le hk hs h⟩, true, fun _ ⟨_, e, _⟩ => e ▸ rfl⟩
def qd (g : Bool) (t : Ty) (w : World) (M : bB) (x : Value) : Prop := (g = true → t.den w M x) ∧ (g = false → x = undef)
def Ty.gd (g : Bool) (t : Ty) : Ty := { den := qd g t, deps := t.deps, cdeps := t.cdeps, mono := fun le hk hs h => ⟨fun hg => t.mono le hk hs (h.1 hg), h.2⟩ }
def mm (w : World) (M : bB) (b off : Nat) (l : List Ty) : Prop :=
  M b = none ∧ b < w.heap.size ∧ ∀ (i : Nat) (t : Ty), l[i]? = some t → ∃ v, w.cell? ⟨b, off + i, none⟩ = some v ∧ t.den w M v
theorem nq {S K : Nat → Prop} {w w' : World} {M M' : bB} (le : Le S K w M w' M') {b off : Nat} {l : List Ty} (hk : ∀ t ∈ cN l, ¬ K t) (hs : ∀ t ∈ bw l, ¬ S t) (h : mm w M b off l) : mm w' M' b off l := by
 obtain ⟨h1, h2, h3⟩ := h
 obtain ⟨h4, h5⟩ := le.qG b h2 h1
 refine ⟨h4, Nat.lt_of_lt_of_le h2 le.size, fun i t hi => ?_⟩
 obtain ⟨v, hc, hd⟩ := h3 i t hi
 refine ⟨v, ?_, t.mono le (fun u hu => hk u ?_) (fun u hu => hs u ?_) hd⟩
 ·rw [← hc]; exact World.cell?_of_block (w := w) h5
 ·simp only [cN, List.mem_flatMap]; exact ⟨t, List.mem_of_getElem? hi, hu⟩
 simp only [bw, List.mem_flatMap]; exact ⟨t, List.mem_of_getElem? hi, hu⟩
theorem vR {w : World} {M : bB} {b off : Nat} {l : List Ty} (n : Nat) (h : mm w M b off l) : mm w M b (off + n) (l.drop n) :=
 ⟨h.1, h.2.1, fun i t hi => by rw [List.getElem?_drop] at hi; obtain ⟨v, hv, hd⟩ := h.2.2 (n + i) t hi; exact ⟨v, by rw [Nat.add_assoc]; exact hv, hd⟩⟩
theorem CX {w : World} {M : bB} {b off : Nat} {l : List Ty} (n : Nat) (h : mm w M b off l) : mm w M b off (l.take n) :=
 ⟨h.1, h.2.1, fun i t hi => h.2.2 i t (by rw [List.getElem?_take] at hi; split at hi <;> simp_all)⟩
def qW (l : List Ty) (w : World) (M : bB) (x : Value) : Prop := ∃ b off, x = .pointer (some ⟨b, off, none⟩) ∧ mm w M b off l
def Ty.pp (l : List Ty) : Ty := ⟨qW l, cN l, bw l, fun le hk hs ⟨b, off, e, h⟩ => ⟨b, off, e, nq le hk hs h⟩, true, fun _ ⟨_, _, e, _⟩ => e ▸ rfl⟩
structure El (α : Type) where
  size : Nat
  tys : α → List Ty
  len : ∀ x, (tys x).length = size
  nodeps : ∀ x, cN (tys x) = []
  nocdeps : ∀ x, bw (tys x) = []
  ones : ∀ x, (tys x).all Ty.one = true
def cy : El Int := ⟨1, fun n => [Ty.int .i64 n], fun _ => rfl, fun _ => rfl, fun _ => rfl, fun _ => rfl⟩
def nth {α : Type} [Inhabited α] (xs : List α) (k : Nat) : α := xs.getD k default
theorem hU {α : Type} [Inhabited α] {xs : List α} {k : Nat} (h : k < xs.length) : nth xs k = xs[k] := by simp [nth, h]
theorem cx {α : Type} [Inhabited α] {xs : List α} {k : Nat} (h : k < xs.length) : nth xs k ∈ xs := by rw [hU h]; exact List.getElem_mem h
theorem eG {α : Type} [Inhabited α] {xs : List α} {k : Nat} (h : k < xs.length) : xs.take (k + 1) = xs.take k ++ [nth xs k] := by
 rw [List.take_succ_eq_append_getElem h, hU h]
theorem rz {α : Type} [Inhabited α] {xs : List α} {k : Nat} (h : k < xs.length) : xs.drop k = nth xs k :: xs.drop (k + 1) := by
 rw [hU h]; exact List.drop_eq_getElem_cons h
theorem El.dM {α : Type} (E : El α) (xs : List α) : cN (xs.flatMap E.tys) = [] := by
 refine List.eq_nil_iff_forall_not_mem.2 fun t ht => ?_
 simp only [cN, List.mem_flatMap] at ht
 obtain ⟨x, ⟨y, _, hx⟩, hu⟩ := ht
 have h' : t ∈ cN (E.tys y) := by simp only [cN, List.mem_flatMap]; exact ⟨x, hx, hu⟩
 rw [E.nodeps y] at h'; cases h'
theorem El.cv {α : Type} (E : El α) (xs : List α) : bw (xs.flatMap E.tys) = [] := by
 refine List.eq_nil_iff_forall_not_mem.2 fun t ht => ?_
 simp only [bw, List.mem_flatMap] at ht
 obtain ⟨x, ⟨y, _, hx⟩, hu⟩ := ht
 have h' : t ∈ bw (E.tys y) := by simp only [bw, List.mem_flatMap]; exact ⟨x, hx, hu⟩
 rw [E.nocdeps y] at h'; cases h'
def nK {α : Type} (E : El α) (xs : List α) (w : World) (M : bB) (x : Value) : Prop :=
  ∃ A c, x = .slice A xs.length c ∧ xs.length ≤ c ∧ c ≤ maxLen ∧ (0 < xs.length → ∃ b off, A = some ⟨b, off, none⟩ ∧ mm w M b off (xs.flatMap E.tys))
def Ty.sl {α : Type} (E : El α) (xs : List α) : Ty :=
  ⟨nK E xs, [], [], fun le _ _ ⟨A, c, e, h1, h2, h⟩ => ⟨A, c, e, h1, h2, fun h0 => let ⟨b, off, e, h⟩ := h h0; ⟨b, off, e, nq le (by rw [E.dM]; intro _ h; cases h) (by rw [E.cv]; intro _ h; cases h) h⟩⟩, true, fun _ ⟨_, _, e, _⟩ => e ▸ rfl⟩
theorem rU {α : Type} (E : El α) : ∀ (xs : List α) (k j : Nat), k < xs.length → j < E.size → (xs.flatMap E.tys)[k * E.size + j]? = (xs[k]?).bind fun x => (E.tys x)[j]?
  | [], k, j, h, _ => absurd h (Nat.not_lt_zero _)
  | x :: xs, 0, j, _, hj => by simp [List.getElem?_append, E.len, hj]
  | x :: xs, k + 1, j, h, hj => by
    have := rU E xs k j (by simpa using h) hj
    rw [List.flatMap_cons, List.getElem?_append, if_neg (by rw [E.len, Nat.succ_mul]; omega), E.len, List.getElem?_cons_succ, ← this]
    congr 1
    rw [Nat.succ_mul]; omega
def Ty.fM : Value → Ty
  | .int k n => .int k n
  | .bool b => .bool b
  | .string s => .str s
  | v => .ex v
def As.op (A : As) (fr : Fr) : Operand → Ty
  | .tmp t => bif Nat.blt t fr.n then A.slots t else Ty.any
  | .const v => Ty.fM v
  | .func f => Ty.jz f []
  | .global _ => Ty.any
def cR : Operand → List Nat
  | .tmp t => [t]
  | _ => []
theorem nE (w : World) (M : bB) (v : Value) : (Ty.fM v).den w M v := by cases v <;> rfl
theorem cY {fr : Fr} {A : As} {a : Act} {w : World} {M : bB} {x : Operand} {rs : List Nat} (hr : ∀ c ∈ cR x, c ∈ rs) (h : ∀ c ∈ rs, c < fr.n → (A.slots c).den w M (a.tmps.getD c undef)) : (A.op fr x).den w M (a.eval x) := by
  cases x with
  | tmp t =>
    simp only [As.op, Act.eval]
    cases hb : Nat.blt t fr.n with
    | true => exact h t (hr t (by simp [cR])) (by simpa using hb)
    | false => trivial
  | const v => exact nE w M v
  | func f => exact ⟨#[], rfl, trivial⟩
  | global g => trivial
def As.set (A : As) (d : Nat) (ty : Ty) : As := ⟨fun c => bif Nat.beq c d then ty else A.slots c, A.tags⟩
section
variable {P : Program} {fr : Fr} {ops : Array Oper} {A : As} {rest : List Oper} {K : As → List (As × Fx) → Prop} {d : Nat} {t : TypeId} {p : String} {e : Array Edge}
theorem bW {o : Oper} {rs : List Nat} {ty : Ty} {rt : List Nat} (hg : o.guard = none) (hd : o.dst = some d)
 (h : ∀ (a : Act) w M, Wf w M → (∀ c ∈ rs, c < fr.n → (A.slots c).den w M (a.tmps.getD c undef)) → (∀ x ∈ A.tags, x.1 ∈ rt → x.2.den w M x.1) → ∃ v, (execOp a.eval o).run P w = .ok (.value v) w ∧ ty.den w M v) :
 wo P fr ops o A { d := some d, ty := ty, rs := rs, rt := rt } := by
 refine ⟨hd.symm, by simp, by simp, by simp, fun a w M wf _ hr ht => ?_⟩
 rw [if_pos (by simp [Region.wanted, hg])]
 obtain ⟨v, hv, hty⟩ := h a w M wf hr ht
 refine oV hv ?_
 exact ⟨v, rfl, M, wf, Le.refl _ _ _ _, hty, by simp⟩
theorem bP {o : Oper} {rs : List Nat} {ty : Ty} {rt : List Nat} (hop : wo P fr ops o A { d := some d, ty := ty, rs := rs, rt := rt })
 (h : ak P fr ops rest (A.set d ty) fun A' l => K A' ((A, { d := some d, ty := ty, rs := rs, rt := rt }) :: l)) : ak P fr ops (o :: rest) A K := ⟨_, hop, h⟩
theorem aD (h : K A []) : ak P fr ops [] A K := h
theorem eL {x : Operand} {ty : Ty} (hx : A.op fr x = ty) (h : ak P fr ops rest (A.set d ty) fun A' l => K A' ((A, { d := some d, ty := ty, rs := cR x }) :: l)) :
 ak P fr ops (⟨some d, .move x, t, p, e, none⟩ :: rest) A K :=
 bP (bW rfl rfl fun a w M _ hr _ => ⟨a.eval x, by simp [execOp], hx ▸ cY (fun _ h => h) hr⟩) h
theorem gG {x : Operand} {ty : Ty} (hx : A.op fr x = ty) (h : ak P fr ops rest (A.set d ty) fun A' l => K A' ((A, { d := some d, ty := ty, rs := cR x }) :: l)) :
 ak P fr ops (⟨some d, .assign x, t, p, e, none⟩ :: rest) A K :=
 bP (bW rfl rfl fun a w M _ hr _ => ⟨a.eval x, by simp [execOp], hx ▸ cY (fun _ h => h) hr⟩) h
theorem op2 {a : Act} {w : World} {M : bB} {x y : Operand} (hr : ∀ c ∈ cR x ++ cR y, c < fr.n → (A.slots c).den w M (a.tmps.getD c undef)) :
 (A.op fr x).den w M (a.eval x) ∧ (A.op fr y).den w M (a.eval y) :=
 ⟨cY (fun c h => List.mem_append_left _ h) hr, cY (fun c h => List.mem_append_right _ h) hr⟩
def L6 (op : BinOp) (k : IntKind) (a b : Int) : Option Ty :=
  match op with
  | .add => some (.int k (k.wrap (a + b)))
  | .sub => some (.int k (k.wrap (a - b)))
  | .mul => some (.int k (k.wrap (a * b)))
  | .and => some (.int k (bits .and k a b))
  | .or => some (.int k (bits .or k a b))
  | .xor => some (.int k (bits .xor k a b))
  | .andNot => some (.int k (bits .andNot k a b))
  | .eql => some (.bool (decide (a = b)))
  | .neq => some (.bool (!decide (a = b)))
  | .lss => some (.bool (decide (a < b)))
  | .leq => some (.bool (decide (a ≤ b)))
  | .gtr => some (.bool (decide (b < a)))
  | .geq => some (.bool (decide (b ≤ a)))
  | _ => none
theorem EP (a b : Int) : (a == b) = decide (a = b) := by rw [Bool.eq_iff_iff]; simp
theorem HP {op : BinOp} {k : IntKind} {a b : Int} {ty : Ty} (h : L6 op k a b = some ty) (x y : Operand) (t : TypeId) (w : World) (M : bB) :
 ∃ v, (do eqGuard op t x y (.int k a) (.int k b); binOp op t (.int k a) (.int k b) : Sem Value).run P w = .ok v w ∧ ty.den w M v := by
 cases op <;> simp only [L6, Option.some.injEq, reduceCtorEq] at h <;> subst h <;> refine ⟨_, ?_, rfl⟩ <;> simp [go_sem, Op.intArith, bne, EP]
end
end Go.T
namespace Go.Proofs.YtelbollidfdcjaaGreat
open Go Go.T
def dH (f : Nat → Int) : Nat → Int
  | 0 => 0
  | n + 1 => dH f n + f n
theorem fF {f g : Nat → Int} : ∀ {n : Nat}, (∀ i, i < n → f i = g i) → dH f n = dH g n
  | 0, _ => rfl
  | n + 1, h => by unfold dH; rw [fF fun i hi => h i (by omega), h n (by omega)]
theorem vu (f g : Nat → Int) : ∀ n, dH (fun i => f i + g i) n = dH f n + dH g n
  | 0 => rfl
  | n + 1 => by unfold dH; rw [vu f g n]; omega
theorem kX (f g : Nat → Int) : ∀ n, dH (fun i => f i - g i) n = dH f n - dH g n
  | 0 => rfl
  | n + 1 => by unfold dH; rw [kX f g n]; omega
theorem rV (k : Int) (f : Nat → Int) : ∀ n, dH (fun i => k * f i) n = k * dH f n
  | 0 => (Int.mul_zero k).symm
  | n + 1 => by unfold dH; rw [rV k f n, Int.mul_add]
theorem nj {f g : Nat → Int} : ∀ {n : Nat}, (∀ i, i < n → f i ≤ g i) → dH f n ≤ dH g n
  | 0, _ => Int.le_refl _
  | n + 1, h => by
    unfold dH
    have := nj (n := n) fun i hi => h i (by omega)
    have := h n (by omega)
    omega
theorem fU {f : Nat → Int} {n : Nat} (h : ∀ i, i < n → f i = 0) : dH f n = 0 := by
  induction n with
  | zero => rfl
  | succ n ih => unfold dH; rw [ih fun i hi => h i (by omega), h n (by omega)]; rfl
theorem uo {f g : Nat → Int} {n k : Nat} (hk : k < n) (h : ∀ i, i < n → f i ≤ g i) (hl : f k < g k) : dH f n < dH g n := by
  induction n with
  | zero => omega
  | succ n ih =>
    unfold dH
    by_cases e : k = n
    · subst e
      have := nj (f := f) (g := g) (n := k) fun i hi => h i (by omega)
      omega
    · have := ih (by omega) fun i hi => h i (by omega)
      have := h n (by omega)
      omega
theorem jt {f : Nat → Int} {n k : Nat} (hk : k < n) (h : ∀ i, i < n → i ≠ k → f i = 0) : dH f n = f k := by
  induction n with
  | zero => omega
  | succ n ih =>
    unfold dH
    by_cases e : k = n
    · subst e; rw [fU fun i hi => h i (by omega) (by omega)]; omega
    · rw [ih (by omega) fun i hi hn => h i (by omega) hn, h n (by omega) (by omega)]; omega
theorem xT (f : Nat → Nat → Int) (m : Nat) : ∀ n, dH (fun i => dH (f i) m) n = dH (fun j => dH (fun i => f i j) n) m
  | 0 => (fU fun _ _ => rfl).symm
  | n + 1 => by
    show dH (fun i => dH (f i) m) n + dH (f n) m = dH (fun j => dH (fun i => f i j) n + f n j) m
    rw [xT f m n, vu]
theorem rB {f : Nat → Int} {b : Int} : ∀ {n : Nat}, (∀ i, i < n → -b ≤ f i ∧ f i ≤ b) → -(b * n) ≤ dH f n ∧ dH f n ≤ b * n
  | 0, _ => by simp [dH]
  | n + 1, h => by
    unfold dH
    have h1 := rB (n := n) fun i hi => h i (by omega)
    have h2 := h n (by omega)
    rw [show ((n + 1 : Nat) : Int) = n + 1 by omega, Int.mul_add]
    omega
structure cB where
  src : Int
  dst : Int
  lo : Int
  hi : Int
deriving DecidableEq, Inhabited
structure Way where
  ix : Nat
  more : Bool
deriving DecidableEq
instance : Inhabited Way := ⟨⟨0, false⟩⟩
def ind (p : Prop) [Decidable p] : Int := if p then 1 else 0
theorem fO {p : Prop} [Decidable p] (h : p) : ind p = 1 := if_pos h
theorem fK {p : Prop} [Decidable p] (h : ¬ p) : ind p = 0 := if_neg h
section
variable {fl : List cB} {a a' : List Int} {n : Nat}
def over (fl : List cB) (a : List Int) (c : Int) : Int := dH (fun i => (ind ((nth fl i).dst = c) - ind ((nth fl i).src = c)) * nth a i) fl.length
structure Net (fl : List cB) (n : Nat) : Prop where
  src : ∀ i, i < fl.length → 0 ≤ (nth fl i).src ∧ (nth fl i).src < n
  dst : ∀ i, i < fl.length → 0 ≤ (nth fl i).dst ∧ (nth fl i).dst < n
  ne : ∀ i, i < fl.length → (nth fl i).src ≠ (nth fl i).dst
def xC (fl : List cB) (a : List Int) : Prop := a.length = fl.length ∧ ∀ i, i < fl.length → (nth fl i).lo ≤ nth a i ∧ nth a i ≤ (nth fl i).hi
def At (fl : List cB) (n : Nat) (a : List Int) : Prop := ∀ c : Nat, c < n → over fl a c = 0
def gQ (fl : List cB) (n : Nat) (a : List Int) : Prop := xC fl a ∧ At fl n a
theorem Dy {π : Int → Int} {x : Int} (h : 0 ≤ x ∧ x < n) : dH (fun c => π c * ind (x = (c : Int))) n = π x := by
 rw [jt (k := x.toNat) (by omega) fun i hi hn => by rw [fK (by omega), Int.mul_zero], fO (by omega), Int.mul_one]
 congr 1; omega
theorem sH (hN : Net fl n) (π : Int → Int) : dH (fun c => π c * over fl a c) n = dH (fun i => (π (nth fl i).dst - π (nth fl i).src) * nth a i) fl.length := by
 unfold over
 rw [fF (g := fun c : Nat => dH (fun i => π c * ((ind ((nth fl i).dst = c) - ind ((nth fl i).src = c)) * nth a i)) fl.length) fun c _ => (rV _ _ _).symm, xT]
 refine fF fun i hi => ?_
 rw [fF (g := fun c : Nat => nth a i * (π c * ind ((nth fl i).dst = c) - π c * ind ((nth fl i).src = c))) fun c _ => by
  rw [← Int.mul_sub, Int.mul_comm (_ - _) (nth a i), ← Int.mul_assoc, Int.mul_comm (π c), Int.mul_assoc], rV, kX, Dy (hN.dst i hi), Dy (hN.src i hi), Int.mul_comm]
theorem r6 (hN : Net fl n) (h : At fl n a) (π : Int → Int) : dH (fun i => (π (nth fl i).dst - π (nth fl i).src) * nth a i) fl.length = 0 := by
 rw [← sH hN]
 exact fU fun c hc => by rw [h c hc, Int.mul_zero]
def Way.fin (w : Way) (fl : List cB) : Int := if w.more then (nth fl w.ix).dst else (nth fl w.ix).src
def Way.gb (w : Way) (fl : List cB) : Int := if w.more then (nth fl w.ix).src else (nth fl w.ix).dst
def Way.room (w : Way) (fl : List cB) (a : List Int) : Int := if w.more then (nth fl w.ix).hi - nth a w.ix else nth a w.ix - (nth fl w.ix).lo
def Open (fl : List cB) (a : List Int) (w : Way) : Prop := w.ix < fl.length ∧ 0 < w.room fl a
theorem GM (hN : Net fl n) (hI : xC fl a) (R : Int → Bool) (hcl : ∀ w, Open fl a w → R (w.gb fl) = true → R (w.fin fl) = true)
    (h0 : ∀ c : Nat, c < n → R c = true → 0 ≤ over fl a c) {c0 : Nat} (hc0 : c0 < n) (hR0 : R c0 = true) (hp : 0 < over fl a c0) : ¬ ∃ a', gQ fl n a' := by
  rintro ⟨a', hI', hE⟩
  have h1 := sH (a := a) hN fun c => ind (R c = true)
  have h2 := r6 hN hE fun c => ind (R c = true)
  have hpos : 0 < dH (fun c : Nat => ind (R c = true) * over fl a c) n := by
    have := uo (f := fun _ => 0) (g := fun c : Nat => ind (R c = true) * over fl a c) hc0 (fun i hi => by
      cases h : R i with
      | true => rw [fO rfl, Int.one_mul]; exact h0 i hi h
      | false => rw [fK (by decide), Int.zero_mul]; exact Int.le_refl _) (by show (0 : Int) < _; rw [hR0, fO rfl, Int.one_mul]; exact hp)
    rwa [fU fun _ _ => rfl] at this
  have hle : dH (fun i => (ind (R (nth fl i).dst = true) - ind (R (nth fl i).src = true)) * nth a i) fl.length ≤ dH (fun i => (ind (R (nth fl i).dst = true) - ind (R (nth fl i).src = true)) * nth a' i) fl.length := by
    refine nj fun i hi => ?_
    have b1 := hI.2 i hi
    have b2 := hI'.2 i hi
    have c1 := hcl ⟨i, true⟩
    have c2 := hcl ⟨i, false⟩
    simp only [Open, Way.room, Way.gb, Way.fin, if_true, if_false, Bool.false_eq_true] at c1 c2
    have e1 : ind (true = true) = 1 := rfl
    have e0 : ind (false = true) = 0 := rfl
    cases hd : R (nth fl i).dst <;> cases hs : R (nth fl i).src <;> rw [hd] at c1 c2 <;> rw [hs] at c1 c2
    · simp [ind]
    · rw [e1, e0]
      have : ¬ 0 < (nth fl i).hi - nth a i := fun h => by have := c1 ⟨hi, h⟩ rfl; cases this
      omega
    · rw [e1, e0]
      have : ¬ 0 < nth a i - (nth fl i).lo := fun h => by have := c2 ⟨hi, h⟩ rfl; cases this
      omega
    · simp [ind]
  omega
theorem GD (hN : Net fl n) (ha : gQ fl n a) (ha' : gQ fl n a') (g : Nat → Int) (p : Int → Int)
 (h : ∀ w, Open fl a w → p (w.gb fl) + (if w.more then g w.ix else - g w.ix) ≤ p (w.fin fl)) : dH (fun i => g i * nth a' i) fl.length ≤ dH (fun i => g i * nth a i) fl.length := by
 have h1 := r6 hN ha.2 p
 have h2 := r6 hN ha'.2 p
 have hle : dH (fun i => g i * nth a' i - (p (nth fl i).dst - p (nth fl i).src) * nth a' i) fl.length ≤ dH (fun i => g i * nth a i - (p (nth fl i).dst - p (nth fl i).src) * nth a i) fl.length := by
  refine nj fun i hi => ?_
  have b1 := ha.1.2 i hi
  have b2 := ha'.1.2 i hi
  have c1 := h ⟨i, true⟩
  have c2 := h ⟨i, false⟩
  simp only [Open, Way.room, Way.gb, Way.fin, if_true, if_false, Bool.false_eq_true] at c1 c2
  rw [← Int.sub_mul, ← Int.sub_mul]
  generalize hr : g i - (p (nth fl i).dst - p (nth fl i).src) = r at *
  by_cases e1 : nth a i < (nth fl i).hi
  ·have := c1 ⟨hi, by omega⟩
   by_cases e2 : (nth fl i).lo < nth a i
   ·have := c2 ⟨hi, by omega⟩
    have : r = 0 := by omega
    subst this; simp
   exact Int.mul_le_mul_of_nonpos_left (by omega) (by omega)
  by_cases e2 : (nth fl i).lo < nth a i
  ·have := c2 ⟨hi, by omega⟩
   exact Int.mul_le_mul_of_nonneg_left (by omega) (by omega)
  have : nth a' i = nth a i := by omega
  rw [this]; exact Int.le_refl _
 rw [kX, kX, h1, h2] at hle
 omega
end
end Go.Proofs.YtelbollidfdcjaaGreat
namespace Go.T
open Go Go.RowKit
inductive TK where
  | int (k : IntKind) | bool | string | ptr (e : Nat) | slice (e : Nat) | array (n e : Nat) | struct (fs : List (Nat × Nat)) | map (k e : Nat) | func | other
structure TI where
  k : TK
  size : Nat
  bytes : Nat
  zero : List Value
def TK.of : TypeDesc → TK
  | .int k => .int k
  | .bool => .bool
  | .string => .string
  | .pointer e => .ptr e
  | .slice e => .slice e
  | .array n e => .array n e
  | .struct fs => .struct (fs.toList.map fun f => (f.offset, f.type))
  | .map k e => .map k e
  | .func .. => .func
  | _ => .other
def TK.agg : TK → Bool
  | .struct _ | .array .. => true
  | _ => false
def FQ (P : Program) (t : Nat) : Option TI :=
  match P.info? t, P.underlying t with
  | some i, some d => some ⟨TK.of d, i.size, i.bytes, match i.zero with | some z => z.cells.toList | none => []⟩
  | _, _ => none
class k8 (P : Program) where
  e9 : List TI
  ok : ∀ (t : Nat) (x : TI), e9[t]? = some x → FQ P t = some x
theorem k8.of {P : Program} {l : List TI} (h : (List.range l.length).map (FQ P) = l.map some) : ∀ (t : Nat) (x : TI), l[t]? = some x → FQ P t = some x := by
 intro t x hx
 have hlt : t < l.length := (List.getElem?_eq_some_iff.1 hx).1
 have h1 : ((List.range l.length).map (FQ P))[t]? = (l.map some)[t]? := by rw [h]
 simp [List.getElem?_range hlt, hx] at h1
 exact h1
section
variable {P : Program} [T : k8 P] {fr : Fr} {ops : Array Oper} {A : As} {rest : List Oper} {K : As → List (As × Fx) → Prop} {d : Nat} {t ty' : TypeId} {p : String} {e : Array Edge}
theorem dU {t : Nat} {x : TI} (h : T.e9[t]? = some x) : ∃ i D, P.info? t = some i ∧ P.underlying t = some D ∧ TK.of D = x.k ∧ i.size = x.size ∧ i.bytes = x.bytes ∧ (match i.zero with | some z => z.cells.toList | none => []) = x.zero := by
 have h := T.ok t x h
 unfold FQ at h
 split at h
 ·rename_i i D hi hD
  injection h with h
  subst h
  exact ⟨i, D, hi, hD, rfl, rfl, rfl, rfl⟩
 cases h
theorem dh {t : Nat} {x : TI} (h : T.e9[t]? = some x) (w : World) : (sizeOf t).run P w = .ok x.size w := by
 obtain ⟨i, _, hi, _, _, hs, _⟩ := dU h
 simp [sizeOf, typeInfo, hi, hs]
theorem vi {t : Nat} {x : TI} (h : T.e9[t]? = some x) (w : World) : (isAgg t).run P w = .ok x.k.agg w := by
 obtain ⟨i, D, _, hD, hk, _⟩ := dU h
 rw [← hk]
 cases D <;> simp [isAgg, run_underlying hD, TK.of, TK.agg]
theorem lJ {t : Nat} {x : TI} (h : T.e9[t]? = some x) (ha : x.k.agg = false) {w : World} {b off : Nat} {v : Value} (hc : w.cell? ⟨b, off, none⟩ = some v) :
 (Instr.loadAt t (.pointer (some ⟨b, off, none⟩))).run P w = .ok v w := by
 simp [Instr.loadAt, Instr.sureAddr, loadVar, vi h, ha, load, Sem.run, hc]
theorem gX {t : Nat} {x : TI} (h : T.e9[t]? = some x) (ha : x.k.agg = true) {w : World} {b off : Nat} {cs : List Value} (hl : cs.length = x.size) (hc : ∀ j v, cs[j]? = some v → w.cell? ⟨b, off + j, none⟩ = some v) :
 (Instr.loadAt t (.pointer (some ⟨b, off, none⟩))).run P w = .ok (.agg cs.toArray) w := by
 have := run_loadCells_list (P := P) (w := w) ⟨b, off, none⟩ cs (fun j v hj => by rw [Addr.add_lit]; exact hc j v hj)
 rw [hl] at this
 simp [Instr.loadAt, Instr.sureAddr, loadVar, vi h, ha, dh h, this]
theorem pO {w : World} {M : bB} {b off : Nat} {l : List Ty} (h : mm w M b off l) : ∀ n, n ≤ l.length → ∃ cs : List Value, cs.length = n ∧ cV w M (l.take n) cs ∧ ∀ j v, cs[j]? = some v → w.cell? ⟨b, off + j, none⟩ = some v := by
  intro n
  induction n with
  | zero => exact fun _ => ⟨[], rfl, trivial, fun j v h => by simp at h⟩
  | succ n ih =>
    intro hn
    obtain ⟨cs, h1, h2, h3⟩ := ih (by omega)
    obtain ⟨v, hv, hd⟩ := h.2.2 n l[n] (List.getElem?_eq_getElem (by omega))
    refine ⟨cs ++ [v], by simp [h1], ?_, fun j u hj => ?_⟩
    · refine iG (by simp [h1]; omega) fun i t hi => ?_
      rw [List.getElem?_take] at hi
      split at hi
      · rename_i hlt
        by_cases e : i = n
        · subst e
          rw [List.getElem?_eq_getElem (by omega)] at hi
          injection hi with hi
          subst hi
          exact ⟨v, by rw [List.getElem?_append_right (by omega)]; simp [h1], hd⟩
        · obtain ⟨x, hx, hdx⟩ := dc h2 i t (by rw [List.getElem?_take, if_pos (by omega)]; exact hi)
          exact ⟨x, by rw [List.getElem?_append_left (by omega)]; exact hx, hdx⟩
      · cases hi
    · rcases Nat.lt_or_ge j n with hlt | hge
      · rw [List.getElem?_append_left (by omega)] at hj; exact h3 j u hj
      · rw [List.getElem?_append_right (by omega)] at hj
        have : j = n := by
          rcases Nat.lt_or_ge (j - cs.length) 1 with h | h
          · omega
          · rw [List.getElem?_eq_none (by simpa using h)] at hj; cases hj
        subst this
        simp [h1] at hj
        subst hj; exact hv
theorem aO {x : Operand} {l : List Ty} {ti : TI} {ty : Ty} (hx : A.op fr x = .pp l) (hT : T.e9[ty']? = some ti) (ha : ti.k.agg = false) (hl : l[0]? = some ty)
 (h : ak P fr ops rest (A.set d ty) fun A' l => K A' ((A, { d := some d, ty := ty, rs := cR x }) :: l)) : ak P fr ops (⟨some d, .load ty' x, t, p, e, none⟩ :: rest) A K :=
 bP (bW rfl rfl fun a w M _ hr _ => by
  have := cY (x := x) (fun _ h => h) hr
  rw [hx] at this
  obtain ⟨b, off, e, hp⟩ := this
  obtain ⟨v, hv, hd⟩ := hp.2.2 0 ty hl
  have hv' : w.cell? ⟨b, off, none⟩ = some v := hv
  exact ⟨v, by simp [execOp, e, lJ hT ha hv'], hd⟩) h
theorem aZ {x : Operand} {l : List Ty} {ti : TI} (hx : A.op fr x = .pp l) (hT : T.e9[ty']? = some ti) (ha : ti.k.agg = true) (hl : ti.size ≤ l.length)
 (h : ak P fr ops rest (A.set d (.agg (l.take ti.size))) fun A' l' => K A' ((A, { d := some d, ty := .agg (l.take ti.size), rs := cR x }) :: l')) : ak P fr ops (⟨some d, .load ty' x, t, p, e, none⟩ :: rest) A K :=
 bP (bW rfl rfl fun a w M _ hr _ => by
  have := cY (x := x) (fun _ h => h) hr
  rw [hx] at this
  obtain ⟨b, off, e, hp⟩ := this
  obtain ⟨cs, h1, h2, h3⟩ := pO hp _ hl
  exact ⟨.agg cs.toArray, by simp [execOp, e, gX hT ha h1 h3], cs.toArray, rfl, by simpa using h2⟩) h
def As.tag (A : As) (t : Nat) : Option Cont := A.tags.lookup t
theorem dB {A : As} {t : Nat} {C : Cont} (h : A.tag t = some C) : (t, C) ∈ A.tags := by
  unfold As.tag at h
  revert h
  generalize A.tags = l
  induction l with
  | nil => intro h; cases h
  | cons x l ih =>
    intro h
    obtain ⟨u, D⟩ := x
    rw [List.lookup_cons] at h
    split at h
    · rename_i he
      injection h with h
      subst h
      have : t = u := by simpa using he
      subst this; exact List.mem_cons_self
    · exact List.mem_cons_of_mem _ (ih h)
theorem BC {w : World} {M : bB} {tg T b off : Nat} {l : List Ty} {ty : Ty} (wf : Wf w M) (h1 : gI tg) (hb : M b = some tg) (hc : (Cont.cells T l).den w M tg) (hl : l[off]? = some ty) :
 ∃ v, w.cell? ⟨b, off, none⟩ = some v ∧ ty.den w M v := by
 obtain ⟨b', cs, hb', hh, hd⟩ := hc
 obtain ⟨u, rfl⟩ : ∃ u, tg = u + 1 := ⟨tg - 1, by omega⟩
 have := wf.inj b b' u (by omega) hb hb'
 subst this
 obtain ⟨v, hv, hdv⟩ := dc hd off ty hl
 exact ⟨v, by simpa [World.cell?, hh] using hv, hdv⟩
theorem aU {x : Operand} {tg off Tb : Nat} {l : List Ty} {ti : TI} {ty : Ty} (hx : A.op fr x = .ptr tg off) (hc : A.tag tg = some (.cells Tb l)) (h1 : gI tg) (hT : T.e9[ty']? = some ti) (ha : ti.k.agg = false) (hl : l[off]? = some ty)
 (h : ak P fr ops rest (A.set d ty) fun A' l => K A' ((A, { d := some d, ty := ty, rs := cR x, rt := [tg] }) :: l)) : ak P fr ops (⟨some d, .load ty' x, t, p, e, none⟩ :: rest) A K :=
 bP (bW rfl rfl fun a w M wf hr ht => by
  have := cY (x := x) (fun _ h => h) hr
  rw [hx] at this
  obtain ⟨b, hb, e⟩ := this
  obtain ⟨v, hv, hd⟩ := BC wf h1 hb (ht _ (dB hc) (by simp)) hl
  exact ⟨v, by simp [execOp, e, lJ hT ha hv], hd⟩) h
theorem bh {x : Operand} {tg off Tb : Nat} {l : List Ty} {ti : TI} (hx : A.op fr x = .ptr tg off) (hc : A.tag tg = some (.cells Tb l)) (h1 : gI tg) (hT : T.e9[ty']? = some ti) (ha : ti.k.agg = true) (hl : off + ti.size ≤ l.length)
 (h : ak P fr ops rest (A.set d (.agg ((l.drop off).take ti.size))) fun A' l' => K A' ((A, { d := some d, ty := .agg ((l.drop off).take ti.size), rs := cR x, rt := [tg] }) :: l')) : ak P fr ops (⟨some d, .load ty' x, t, p, e, none⟩ :: rest) A K :=
 bP (bW rfl rfl fun a w M wf hr ht => by
  have := cY (x := x) (fun _ h => h) hr
  rw [hx] at this
  obtain ⟨b, hb, e⟩ := this
  obtain ⟨b', cs, hb', hh, hd⟩ := ht _ (dB hc) (by simp)
  obtain ⟨u, rfl⟩ : ∃ u, tg = u + 1 := ⟨tg - 1, by omega⟩
  have := wf.inj b b' u (by omega) hb hb'
  subst this
  have hlen := cX hd
  have h2 := nI ti.size (lN off hd)
  refine ⟨.agg ((cs.toList.drop off).take ti.size).toArray, ?_, _, rfl, by simpa using h2⟩
  have := gX (P := P) hT ha (w := w) (b := b) (off := off) (cs := (cs.toList.drop off).take ti.size) (by simp at hlen ⊢; omega) (fun j v hj => by
   rw [List.getElem?_take] at hj
   split at hj
   ·rw [List.getElem?_drop] at hj
    simpa [World.cell?, hh] using hj
   cases hj)
  simp [execOp, e, this]) h
theorem sw {t f : Nat} {ti : TI} {fs : List (Nat × Nat)} {o ft : Nat} {tf : TI} (hT : T.e9[t]? = some ti) (hk : ti.k = .struct fs) (hf : fs[f]? = some (o, ft)) (hF : T.e9[ft]? = some tf) (h0 : tf.size ≠ 0) (b off : Nat) (w : World) :
 (Instr.fieldAt t (.pointer (some ⟨b, off, none⟩)) f).run P w = .ok (.pointer (some ⟨b, off + o, none⟩)) w := by
 obtain ⟨i, D, _, hD, hkd, _⟩ := dU hT
 rw [hk] at hkd
 cases D <;> simp only [TK.of, reduceCtorEq, TK.struct.injEq] at hkd
 rename_i fields
 subst hkd
 simp only [List.getElem?_map, Option.map_eq_some_iff, Prod.mk.injEq] at hf
 obtain ⟨g, hg, ho, hft⟩ := hf
 subst ho; subst hft
 have hg' : fields[f]? = some g := by simpa using hg
 simp [Instr.fieldAt, run_underlying hD, hg', Instr.sureAddr, fieldPlace, dh hF, h0]
 exact Addr.add_lit _ _ _
theorem aR {x : Operand} {f : Nat} {l : List Ty} {ti tf : TI} {fs : List (Nat × Nat)} {o ft : Nat} (hx : A.op fr x = .pp l) (hT : T.e9[ty']? = some ti) (hk : ti.k = .struct fs) (hf : fs[f]? = some (o, ft)) (hF : T.e9[ft]? = some tf) (h0 : tf.size ≠ 0)
 (h : ak P fr ops rest (A.set d (.pp (l.drop o))) fun A' l' => K A' ((A, { d := some d, ty := .pp (l.drop o), rs := cR x }) :: l')) : ak P fr ops (⟨some d, .fieldAddr ty' x f, t, p, e, none⟩ :: rest) A K :=
 bP (bW rfl rfl fun a w M _ hr _ => by
  have := cY (x := x) (fun _ h => h) hr
  rw [hx] at this
  obtain ⟨b, off, e, hp⟩ := this
  exact ⟨_, by simp [execOp, e, sw hT hk hf hF h0], b, off + o, rfl, vR o hp⟩) h
theorem aN {x : Operand} {f tg off : Nat} {ti tf : TI} {fs : List (Nat × Nat)} {o ft : Nat} (hx : A.op fr x = .ptr tg off) (hT : T.e9[ty']? = some ti) (hk : ti.k = .struct fs) (hf : fs[f]? = some (o, ft)) (hF : T.e9[ft]? = some tf) (h0 : tf.size ≠ 0)
 (h : ak P fr ops rest (A.set d (.ptr tg (off + o))) fun A' l' => K A' ((A, { d := some d, ty := .ptr tg (off + o), rs := cR x }) :: l')) : ak P fr ops (⟨some d, .fieldAddr ty' x f, t, p, e, none⟩ :: rest) A K :=
 bP (bW rfl rfl fun a w M _ hr _ => by
  have := cY (x := x) (fun _ h => h) hr
  rw [hx] at this
  obtain ⟨b, hb, e⟩ := this
  exact ⟨_, by simp [execOp, e, sw hT hk hf hF h0], b, hb, rfl⟩) h
theorem jG {t e : Nat} {ti te : TI} (hT : T.e9[t]? = some ti) (hk : ti.k = .slice e) (hE : T.e9[e]? = some te) {b off len c : Nat} {k : IntKind} {i : Int} (h0 : 0 ≤ i) (h1 : i.toNat < len) (w : World) :
 (Instr.indexAt t (.slice (some ⟨b, off, none⟩) len c) (.int k i)).run P w = .ok (.pointer (some ⟨b, off + i.toNat * te.size, none⟩)) w := by
 obtain ⟨_, D, _, hD, hkd, _⟩ := dU hT
 rw [hk] at hkd
 cases D <;> simp only [TK.of, reduceCtorEq, TK.slice.injEq] at hkd
 subst hkd
 have : 0 ≤ i ∧ i < (len : Int) := ⟨h0, by omega⟩
 simp [Instr.indexAt, asIntOf, run_underlying hD, this, dh hE]
 exact Addr.add_lit _ _ _
theorem oD {t e n : Nat} {ti te : TI} (hT : T.e9[t]? = some ti) (hk : ti.k = .array n e) (hE : T.e9[e]? = some te) {b off : Nat} {k : IntKind} {i : Int} (h0 : 0 ≤ i) (h1 : i.toNat < n) (w : World) :
 (Instr.indexAt t (.pointer (some ⟨b, off, none⟩)) (.int k i)).run P w = .ok (.pointer (some ⟨b, off + i.toNat * te.size, none⟩)) w := by
 obtain ⟨_, D, _, hD, hkd, _⟩ := dU hT
 rw [hk] at hkd
 cases D <;> simp only [TK.of, reduceCtorEq, TK.array.injEq] at hkd
 obtain ⟨e1, e2⟩ := hkd
 subst e1; subst e2
 have h2 : i < (_ : Nat) := Int.lt_of_lt_of_le (Int.lt_add_one_of_le (Int.self_le_toNat i)) (Int.ofNat_le.2 h1)
 simp [Instr.indexAt, asIntOf, run_underlying hD, Instr.sureAddr, h0, h2, dh hE]
 exact Addr.add_lit _ _ _
theorem lQ {α : Type} [Inhabited α] (E : El α) (xs : List α) {k : Nat} (hk : k < xs.length) (i : Nat) (ty : Ty) (h : (E.tys (nth xs k))[i]? = some ty) : (xs.flatMap E.tys)[k * E.size + i]? = some ty := by
 have hi : i < E.size := by
  have := (List.getElem?_eq_some_iff.1 h).1
  rw [E.len] at this; exact this
 rw [rU E xs k i hk hi, List.getElem?_eq_getElem hk, ← hU hk]
 exact h
theorem lz {α : Type} [Inhabited α] {x y : Operand} {E : El α} {xs : List α} {k : IntKind} {i : Int} {ti te : TI} {el : Nat} (hx : A.op fr x = .sl E xs) (hy : A.op fr y = .int k i) (hT : T.e9[ty']? = some ti) (hk : ti.k = .slice el) (hE : T.e9[el]? = some te) (hs : te.size = E.size)
 (h0 : 0 ≤ i) (h1 : i.toNat < xs.length)
 (h : ak P fr ops rest (A.set d (.pp (E.tys (nth xs i.toNat)))) fun A' l' => K A' ((A, { d := some d, ty := .pp (E.tys (nth xs i.toNat)), rs := cR x ++ cR y }) :: l')) : ak P fr ops (⟨some d, .indexAddr ty' x y, t, p, e, none⟩ :: rest) A K :=
 bP (bW rfl rfl fun a w M _ hr _ => by
  obtain ⟨hdx, hdy⟩ := op2 hr
  rw [hx] at hdx; rw [hy] at hdy
  obtain ⟨ad, c, ex, _, _, hp⟩ := hdx
  obtain ⟨b, off, rfl, hp'⟩ := hp (by omega)
  have ey : a.eval y = .int k i := hdy
  refine ⟨_, by simp only [execOp, ex, ey, Sem.run_bind, jG hT hk hE h0 h1]; rfl, b, off + i.toNat * te.size, rfl, hp'.1, hp'.2.1, fun j ty hj => ?_⟩
  obtain ⟨v, hv, hd⟩ := hp'.2.2 _ ty (lQ E xs h1 j ty hj)
  exact ⟨v, by rw [hs, Nat.add_assoc]; exact hv, hd⟩) h
end
end Go.T
namespace Go.T
open Go Go.RowKit
def mK (w0 : World) (M0 : bB) (res : Ty) (e : Ending) (w' : World) : Prop :=
  ∃ r M', e = .returned r ∧ Wf w' M' ∧ Le (fun t => 1 ≤ t) (fun t => 1 ≤ t) w0 M0 w' M' ∧ res.den w' M' r
def eB (P : Program) (f : FuncId) (args : List Ty) (res : Ty) : Prop :=
  (∃ fn, P.funcs[f]? = some fn ∧ (fn.name == "runtime.NumGoroutine") = false ∧ fn.body.isNone = false) ∧
  ∀ w M vs, Wf w M → (∀ b t, M b = some t → t = 0) → cV w M args vs → Calls P f vs.toArray w (mK w M res)
def fV (P : Program) (fr : Fr) (c : Code) (A : As) (Q : Exit → Act → World → Prop) : Prop := ∀ a w, A.holds fr a w → c.wpIn fr.kd.jC 0 P Q a w
def dm (fr : Fr) (A : As) (R : Act → World → Prop) : Prop := ∀ a w, A.holds fr a w → R a w
section
variable {P : Program} {fr : Fr} {ops : Array Oper} {A : As} {rest : List Oper} {K : As → List (As × Fx) → Prop} {d : Nat} {t ty' : TypeId} {p : String} {e : Array Edge} {Q : Exit → Act → World → Prop} {x y : Code} {id : Nat} {l : List Oper}
theorem aG (h : fV P fr x A (Exit.then (fun a w => y.wpIn fr.kd.jC 0 P Q a w) Q)) : fV P fr (.seq x y) A Q := fun a w ha => wpIn_seq (h a w ha)
theorem aA (h : ak P fr l.toArray l A fun A' _ => dm fr A' (Q .normal)) : fV P fr (.region id l.toArray false) A Q := FZ h
theorem cZ (hm : P.follows .mixedOrders = true) (hf : forward l.toArray = true) (h : ak P fr l.toArray l A fun A' s => zZ fr.n l.toArray A s = true ∧ dm fr A' (Q .normal)) : fV P fr (.region id l.toArray true) A Q := IF hm hf h
theorem aC (h : fV P fr y A Q) {Q' : Exit → Act → World → Prop} : dm fr A (Exit.then (fun a w => y.wpIn fr.kd.jC 0 P Q a w) Q' .normal) := h
theorem aQ {n : Act → World → Prop} {i : Nat} (h : dm fr A (Q (.exit i))) : dm fr A (Exit.then n Q (.exit i)) := h
theorem aW {n : Act → World → Prop} (h : dm fr A (Q .ret)) : dm fr A (Exit.then n Q .ret) := h
theorem aq (h : dm fr A (Q .normal)) : fV P fr .skip A Q := fun a w ha => wpIn_skip (h a w ha)
theorem cj {i : Nat} (h : dm fr A (Q (.exit i))) : fV P fr (.exit i) A Q := fun a w ha => wpIn_exit (h a w ha)
theorem bE (h : dm fr A (Q .ret)) : fV P fr .ret A Q := fun a w ha => wpIn_ret (h a w ha)
theorem au (h : fV P fr x A (Exit.inBlock id Q)) : fV P fr (.block id x) A Q := fun a w ha => wpIn_block (h a w ha)
theorem bV (h : dm fr A (Q .normal)) : dm fr A (Exit.inBlock id Q .normal) := h
theorem bL (h : dm fr A (Q .ret)) : dm fr A (Exit.inBlock id Q .ret) := h
theorem av {i : Nat} (hi : i = id) (h : dm fr A (Q .normal)) : dm fr A (Exit.inBlock id Q (.exit i)) := fun a w ha => by simpa [Exit.inBlock, hi] using h a w ha
theorem gK {i : Nat} (hi : Nat.beq i id = false) (h : dm fr A (Q (.exit i))) : dm fr A (Exit.inBlock id Q (.exit i)) := fun a w ha => by
 have : i ≠ id := fun e => by rw [e] at hi; simp at hi
 simpa [Exit.inBlock, this] using h a w ha
theorem ct {c : Operand} {b : Bool} (hc : A.op fr c = .bool b) (h1 : b = true → fV P fr x A Q) (h2 : b = false → fV P fr y A Q) : fV P fr (.cond c x y) A Q := fun a w ha => by
  have hv : a.eval c = .bool b := by
    obtain ⟨M, _, hs, _⟩ := ha
    have := cY (x := c) (rs := cR c) (fun _ h => h) (fun c _ hn => hs c hn)
    rw [hc] at this; exact this
  cases b with
  | true => exact wpIn_cond_true hv (h1 rfl a w ha)
  | false => exact wpIn_cond_false hv (h2 rfl a w ha)
def Ty.Sub (s t : Ty) : Prop := ∀ w M v, s.den w M v → t.den w M v
theorem Ty.aE (s : Ty) : s.Sub s := fun _ _ _ h => h
theorem Ty.aT (s : Ty) : s.Sub Ty.any := fun _ _ _ _ => trivial
theorem Ty.sub_eq {s t : Ty} (h : s = t) : s.Sub t := h ▸ Ty.aE s
def Cont.Sub (s t : Cont) : Prop := ∀ w M v, s.den w M v → t.den w M v
theorem Cont.aE (s : Cont) : s.Sub s := fun _ _ _ h => h
theorem Cont.sub_eq {s t : Cont} (h : s = t) : s.Sub t := h ▸ Cont.aE s
def q4 (A B : As) : Nat → Prop
  | 0 => True
  | k + 1 => (A.slots k).Sub (B.slots k) ∧ q4 A B k
theorem aI {A B : As} : q4 A B 0 := trivial
theorem ql {A B : As} : ∀ {n : Nat}, q4 A B n → ∀ c, c < n → (A.slots c).Sub (B.slots c)
  | 0, _, c, hc => absurd hc (Nat.not_lt_zero c)
  | n + 1, h, c, hc => if e : c = n then e ▸ h.1 else ql h.2 c (by omega)
def allTags (A : As) : List (Nat × Cont) → Prop
  | [] => True
  | x :: l => (∃ C, A.tag x.1 = some C ∧ C.Sub x.2) ∧ allTags A l
theorem aJ : allTags A [] := trivial
theorem aF {u : Nat} {C D : Cont} {l : List (Nat × Cont)} (h : A.tag u = some D) (hs : D.Sub C) (h' : allTags A l) : allTags A ((u, C) :: l) := ⟨⟨D, h, hs⟩, h'⟩
theorem pH : ∀ {l : List (Nat × Cont)}, allTags A l → ∀ x ∈ l, ∃ C, A.tag x.1 = some C ∧ C.Sub x.2
  | [], _, x, hx => by cases hx
  | y :: l, h, x, hx => by
    rcases List.mem_cons.1 hx with rfl | hx
    · exact h.1
    · exact pH h.2 x hx
structure dG (fr : Fr) (A B : As) : Prop where
  slots : q4 A B fr.n
  tags : allTags A B.tags
theorem dG.holds {A B : As} (h : dG fr A B) {a : Act} {w : World} : A.holds fr a w → B.holds fr a w := fun ⟨M, ok, hs, ht⟩ =>
 ⟨M, ok, fun c hc => ql h.slots c hc _ _ _ (hs c hc), fun x hx => by
  obtain ⟨C, hC, hsub⟩ := pH h.tags x hx
  exact hsub _ _ _ (ht _ (dB hC))⟩
theorem cr {B : As} (h : dG fr A B) (h' : fV P fr x B Q) : fV P fr x A Q := fun a w ha => h' a w (h.holds ha)
theorem kC {J : As} (h : fV P fr x A (Exit.then (fun a w => J.holds fr a w) Q)) (h' : fV P fr y J Q) : fV P fr (.seq x y) A Q := fun a w ha =>
 wpIn_seq (Go.wpIn_mono (h a w ha) fun e a w hq => by cases e <;> first | exact h' a w hq | exact hq)
theorem ew {J : As} (h : dG fr A J) : dm fr A (Exit.then (fun a w => J.holds fr a w) Q .normal) := fun a w ha => h.holds ha
theorem cg {ι : Type} (I : ι → As) (μ : ι → Nat) (i0 : ι) (h0 : dG fr A (I i0))
    (h : ∀ i, fV P fr x (I i) (Exit.then (fun a w => ∃ j, (I j).holds fr a w ∧ μ j < μ i) Q)) : fV P fr (.loop x) A Q := by
  intro a w ha b k cs hro hb hr
  have key : ∀ (n : Nat) (i : ι), μ i = n → ∀ a w, (I i).holds fr a w → ∃ e a' w', Q e a' w' ∧ ArrivesIn (Machine.fenced P fr.kd.jC) P (lone (b.atR a (.code x :: .inLoop x :: k)) cs w) b k cs e a' w' := by
    intro n
    induction n using Nat.strongRecOn with
    | _ n ih =>
      intro i hi a w ha
      obtain ⟨e, a₁, w₁, hq, harr⟩ := h i a w ha b (.inLoop x :: k) cs hro hb hr
      cases e with
      | normal =>
        obtain ⟨j, hj, hlt⟩ := hq
        obtain ⟨e₂, a₂, w₂, hq₂, harr₂⟩ := ih (μ j) (hi ▸ hlt) j rfl a₁ w₁ hj
        exact ⟨e₂, a₂, w₂, hq₂, .of_steps (StepsIn.trans harr (.one (fenced_calm hb hr rfl) stepR_inLoop)) harr₂⟩
      | exit id => exact ⟨_, a₁, w₁, hq, .pass (x := .inLoop x) rfl (fun _ _ => .inl (by simp)) harr⟩
      | goto l => exact ⟨_, a₁, w₁, hq, .pass (x := .inLoop x) rfl (fun _ _ => .inl (by simp)) harr⟩
      | ret => exact ⟨_, a₁, w₁, hq, .pass (x := .inLoop x) rfl (fun _ _ => .inl (by simp)) harr⟩
      | panic ch => exact ⟨_, a₁, w₁, hq, .pass (x := .inLoop x) rfl (fun _ _ => .inl (by simp)) harr⟩
      | outgrown => exact ⟨_, a₁, w₁, hq, .pass (x := .inLoop x) rfl (fun _ _ => .inl (by simp)) harr⟩
  obtain ⟨e, a', w', hq, harr⟩ := key _ i0 rfl a w (h0.holds ha)
  exact ⟨e, a', w', hq, .of_steps (.one (fenced_calm hb hr rfl) stepR_loop) harr⟩
theorem bk {ι : Type} {I : ι → As} {μ : ι → Nat} {i : ι} (j : ι) (h : dG fr A (I j)) (hlt : μ j < μ i) : dm fr A (Exit.then (fun a w => ∃ j, (I j).holds fr a w ∧ μ j < μ i) Q .normal) := fun a w ha => ⟨j, h.holds ha, hlt⟩
def entry (args : List Ty) : As := ⟨fun c => (args[c]?).getD Ty.any, []⟩
theorem bC {f : FuncId} {fn : Func} {c : Code} {args : List Ty} {res : Ty} {n : Nat} (hf : P.funcs[f]? = some fn) (hb : fn.body = some c) (hn : (fn.name == "runtime.NumGoroutine") = false) (hnt : fn.ntmps = n) (hl : args.length ≤ n)
    (h : ∀ w0 M0, fV P ⟨n, w0, M0, [], .plain⟩ c (entry args) (bodyPost P fn (mK w0 M0 res))) : eB P f args res := by
  refine ⟨⟨fn, hf, hn, by rw [hb]; rfl⟩, fun w M vs wf hM hd => calls_of_wp hf hb (wpIn_wide.1 (h w M _ _ ?_))⟩
  have hlen := cX hd
  refine ⟨M, ⟨wf, Le.refl _ _ _ _, by simp [hnt, hlen]; omega, Defs.nil⟩, fun c hc => ?_, by simp [entry]⟩
  simp only [entry]
  cases ha : args[c]? with
  | none => trivial
  | some ty =>
    obtain ⟨v, hv, hdv⟩ := dc hd c ty ha
    have : (vs.toArray ++ Array.replicate (fn.ntmps - vs.toArray.size) undef).getD c undef = v := by
      have hlt : c < vs.length := (List.getElem?_eq_some_iff.1 hv).1
      rw [Array.getD_eq_getD_getElem?, Array.getElem?_append_left (by simpa using hlt)]
      simp [hv]
    rw [this]; exact hdv
theorem Mx {fn : Func} {R : Ending → World → Prop} (h : dm fr A (bodyPost P fn R .ret)) : dm fr A (bodyPost P fn R .normal) := h
def IZ (M : bB) : bB := fun b => (M b).map fun _ => 0
theorem vr {M : bB} {b t : Nat} (h : IZ M b = some t) : t = 0 ∧ ∃ u, M b = some u := by
  unfold IZ at h
  cases hm : M b with
  | none => rw [hm] at h; cases h
  | some u => rw [hm] at h; injection h with h; exact ⟨h.symm, u, rfl⟩
theorem HS {w : World} {M : bB} (wf : Wf w M) : Wf w (IZ M) := ⟨fun b t h => let ⟨_, u, hu⟩ := vr h; wf.lt b u hu, fun b b' t _ h _ => by have := (vr h).1; omega⟩
theorem Ab {M : bB} (b t : Nat) (h : IZ M b = some t) : t = 0 := (vr h).1
theorem Ai {M : bB} {b : Nat} (h : M b = none) : IZ M b = none := by simp [IZ, h]
theorem HH {M : bB} {b t : Nat} (h : M b = some t) : IZ M b = some 0 := by simp [IZ, h]
def lZ (w : World) (M : bB) : bB := fun b => if b < w.heap.size then M b else none
theorem yq {w w' : World} {M M' : bB} {res : Ty} {r : Value} (wf : Wf w M) (le : Le (fun t => 1 ≤ t) (fun t => 1 ≤ t) w (IZ M) w' M') (hd : res.deps = []) (hdc : res.cdeps = []) (hr : res.den w' M' r) :
    Wf w' (lZ w M) ∧ Le (· ∈ ([] : List Nat)) (· ∈ ([] : List Nat)) w M w' (lZ w M) ∧ res.den w' (lZ w M) r := by
  have hold : ∀ b, b < w.heap.size → w'.heap[b]? = w.heap[b]? := fun b hb => by
    cases hm : M b with
    | none => exact (le.qG b hb (Ai hm)).2
    | some t => exact (le.own b 0 (HH hm) (by omega)).2 (by omega)
  refine ⟨⟨fun b t h => ?_, fun b b' t ht1 h h' => ?_⟩, ⟨le.size, le.os, le.tape, le.out, fun b hb hm => ⟨?_, hold b hb⟩, fun b t hm _ => ⟨?_, fun _ => hold b (wf.lt b t hm)⟩⟩, ?_⟩
  · unfold lZ at h
    split at h
    · exact Nat.lt_of_lt_of_le ‹_› le.size
    · cases h
  · unfold lZ at h h'
    split at h <;> split at h' <;> first | exact wf.inj b b' t ht1 h h' | cases h | cases h'
  · simp [lZ, hm]
  · simp [lZ, wf.lt b t hm, hm]
  · refine res.mono (S := fun _ => True) (K := fun _ => True) ⟨Nat.le_refl _, rfl, rfl, rfl, fun b _ hm => ⟨?_, rfl⟩, fun b t _ h => absurd trivial h⟩ (by rw [hd]; intro _ h; cases h) (by rw [hdc]; intro _ h; cases h) hr
    unfold lZ
    split
    · rename_i hlt
      cases hmb : M b with
      | none => rfl
      | some t =>
        have := (le.own b 0 (HH hmb) (by omega)).1
        rw [hm] at this; cases this
    · rfl
def oH (A : As) (fr : Fr) (xs : List Operand) : List Ty := xs.map (A.op fr)
theorem gr {a : Act} {w : World} {M : bB} {rs : List Nat} (h : ∀ c ∈ rs, c < fr.n → (A.slots c).den w M (a.tmps.getD c undef)) : ∀ {xs : List Operand}, (∀ x ∈ xs, ∀ c ∈ cR x, c ∈ rs) → cV w M (oH A fr xs) (xs.map a.eval)
  | [], _ => trivial
  | x :: xs, hr => ⟨cY (hr x List.mem_cons_self) h, gr h fun y hy => hr y (List.mem_cons_of_mem _ hy)⟩
theorem eK {w : World} {M : bB} : ∀ {l l' : List Ty} {vs vs' : List Value}, cV w M l vs → cV w M l' vs' → cV w M (l ++ l') (vs ++ vs')
  | [], _, [], _, _, h => h
  | _ :: _, _, _ :: _, _, ⟨h1, h2⟩, h => ⟨h1, eK h2 h⟩
theorem rS {w : World} {M : bB} {l : List Ty} {vs : List Value} (hd : cN l = []) (hdc : bw l = []) (h : cV w M l vs) : cV w (IZ M) l vs :=
 cI (S := fun _ => True) (K := fun _ => True) ⟨Nat.le_refl _, rfl, rfl, rfl, fun b _ hm => ⟨Ai hm, rfl⟩, fun b t _ h => absurd trivial h⟩ (by rw [hd]; intro _ h; cases h) (by rw [hdc]; intro _ h; cases h) h
theorem n5 {f : FuncId} {args : List Ty} {res : Ty} (hF : eB P f args res) (vs : Array Value) (w : World) : (callFunc f vs).run P w = .ok (.enter f vs) w := by
 obtain ⟨⟨fn, hf, hn, hb⟩, _⟩ := hF
 have hn' : fn.name ≠ "runtime.NumGoroutine" := by simpa using hn
 have hb' : fn.body ≠ none := fun h => by rw [h] at hb; cases hb
 simp [callFunc, hf, hn', hb']
theorem IJ {f : FuncId} {args : List Ty} {res : Ty} (hF : eB P f args res) {xs : Array Operand} {ats : Array TypeId} (hx : oH A fr xs.toList = args) (hd : cN args = []) (hdc : bw args = []) (hr : res.deps = []) (hrc : res.cdeps = []) :
 wo P fr ops ⟨some d, .call ⟨.value (.func f), xs, ats⟩, t, p, e, none⟩ A { d := some d, ty := res, rs := xs.toList.flatMap cR } := by
 refine ⟨rfl, (by simp), (by simp), (by simp), fun a w M wf _ hrd _ => ?_⟩
 rw [if_pos (by simp [Region.wanted])]
 have hv : cV w M args (xs.toList.map a.eval) := hx ▸ gr hrd fun x hx c hc => List.mem_flatMap.2 ⟨x, hx, hc⟩
 have hc := hF.2 w _ _ (HS wf) Ab (rS hd hdc hv)
 have hrun : (execOp a.eval ⟨some d, .call ⟨.value (.func f), xs, ats⟩, t, p, e, none⟩).run P w = .ok (.enter f (xs.map a.eval)) w := by
  simp [execOp, resolve, Act.eval, Deferred.ofValue, invoke, n5 hF]
 refine mF hrun ?_
 have hvs : (xs.toList.map a.eval).toArray = xs.map a.eval := by rw [← Array.toList_map]
 rw [← hvs]
 refine hc.mono fun en w' ⟨r, M', he, _, le, hden⟩ => ?_
 obtain ⟨h1, h2, h3⟩ := yq wf le hr hrc hden
 exact ⟨r, he, r, rfl, _, h1, h2, h3, by simp⟩
theorem bA {f : FuncId} {args : List Ty} {res : Ty} (hF : eB P f args res) {xs : List Operand} {ats : Array TypeId} (hx : oH A fr xs = args) (hd : cN args = []) (hdc : bw args = []) (hr : res.deps = []) (hrc : res.cdeps = [])
 (h : ak P fr ops rest (A.set d res) fun A' l => K A' ((A, { d := some d, ty := res, rs := xs.flatMap cR }) :: l)) : ak P fr ops (⟨some d, .call ⟨.value (.func f), xs.toArray, ats⟩, t, p, e, none⟩ :: rest) A K :=
 ⟨_, IJ hF hx hd hdc hr hrc, h⟩
end
end Go.T
namespace Go.T
open Go Go.RowKit
section
variable {P : Program} {fr : Fr} {ops : Array Oper} {A : As} {rest : List Oper} {K : As → List (As × Fx) → Prop} {d : Nat} {t ty' ty2 : TypeId} {p : String} {e : Array Edge}
theorem bJ {op : BinOp} {x y : Operand} {k : IntKind} {a b : Int} {ty : Ty} (hx : A.op fr x = .int k a) (hy : A.op fr y = .int k b) (hr : L6 op k a b = some ty)
 (h : ak P fr ops rest (A.set d ty) fun A' l' => K A' ((A, { d := some d, ty := ty, rs := cR x ++ cR y }) :: l')) : ak P fr ops (⟨some d, .binOp op ty' x y ty2, t, p, e, none⟩ :: rest) A K :=
 bP (bW rfl rfl fun a w M _ hrd _ => by
  obtain ⟨hdx, hdy⟩ := op2 hrd
  rw [hx] at hdx; rw [hy] at hdy
  have ex : a.eval x = .int k _ := hdx
  have ey : a.eval y = .int k _ := hdy
  obtain ⟨v, hv', hd⟩ := HP (P := P) hr x y ty' w M
  refine ⟨v, ?_, hd⟩
  simp only [Sem.run_bind] at hv'
  simp only [execOp, ex, ey, Sem.run_bind, hv']
  rfl) h
theorem cD {x y : Operand} {a b : Int} (hx : A.op fr x = .int .i64 a) (hy : A.op fr y = .int .i64 b) (h1 : -9223372036854775808 ≤ a + b) (h2 : a + b ≤ 9223372036854775807)
 (h : ak P fr ops rest (A.set d (.int .i64 (a + b))) fun A' l' => K A' ((A, { d := some d, ty := .int .i64 (a + b), rs := cR x ++ cR y }) :: l')) : ak P fr ops (⟨some d, .binOp .add ty' x y ty2, t, p, e, none⟩ :: rest) A K := by
 refine bJ (op := .add) hx hy (ty := .int .i64 (a + b)) ?_ h
 show some _ = some _
 rw [IntWalk.i64_in (a + b) (by omega)]
theorem iC {x y : Operand} {a b : Int} (hx : A.op fr x = .int .i64 a) (hy : A.op fr y = .int .i64 b) (h1 : -9223372036854775808 ≤ a - b) (h2 : a - b ≤ 9223372036854775807)
 (h : ak P fr ops rest (A.set d (.int .i64 (a - b))) fun A' l' => K A' ((A, { d := some d, ty := .int .i64 (a - b), rs := cR x ++ cR y }) :: l')) : ak P fr ops (⟨some d, .binOp .sub ty' x y ty2, t, p, e, none⟩ :: rest) A K := by
 refine bJ (op := .sub) hx hy (ty := .int .i64 (a - b)) ?_ h
 show some _ = some _
 rw [IntWalk.i64_in (a - b) (by omega)]
theorem D8 {x y : Operand} {a b : Int} (hx : A.op fr x = .int .i64 a) (hy : A.op fr y = .int .i64 b) (h1 : -9223372036854775808 ≤ a * b) (h2 : a * b ≤ 9223372036854775807)
 (h : ak P fr ops rest (A.set d (.int .i64 (a * b))) fun A' l' => K A' ((A, { d := some d, ty := .int .i64 (a * b), rs := cR x ++ cR y }) :: l')) : ak P fr ops (⟨some d, .binOp .mul ty' x y ty2, t, p, e, none⟩ :: rest) A K := by
 refine bJ (op := .mul) hx hy (ty := .int .i64 (a * b)) ?_ h
 show some _ = some _
 rw [IntWalk.i64_in (a * b) ⟨h1, h2⟩]
theorem KE {x y : Operand} {k : IntKind} {a b : Int} (hx : A.op fr x = .int k a) (hy : A.op fr y = .int k b) (h0 : b ≠ 0)
 (h : ak P fr ops rest (A.set d (.int k (a.tmod b))) fun A' l' => K A' ((A, { d := some d, ty := .int k (a.tmod b), rs := cR x ++ cR y }) :: l')) : ak P fr ops (⟨some d, .binOp .rem ty' x y ty2, t, p, e, none⟩ :: rest) A K :=
 bP (bW rfl rfl fun ac w M _ hrd _ => by
  obtain ⟨hdx, hdy⟩ := op2 hrd
  rw [hx] at hdx; rw [hy] at hdy
  have ex : ac.eval x = .int k _ := hdx
  have ey : ac.eval y = .int k _ := hdy
  exact ⟨.int k (a.tmod b), by simp only [execOp, ex, ey]; simp [go_sem, Op.intDiv, h0], rfl⟩) h
theorem Mm {x y : Operand} {k : IntKind} {a b : Int} (hx : A.op fr x = .int k a) (hy : A.op fr y = .int k b) (h0 : b ≠ 0)
 (h : ak P fr ops rest (A.set d (.int k (k.wrap (a.tdiv b)))) fun A' l' => K A' ((A, { d := some d, ty := .int k (k.wrap (a.tdiv b)), rs := cR x ++ cR y }) :: l')) : ak P fr ops (⟨some d, .binOp .quo ty' x y ty2, t, p, e, none⟩ :: rest) A K :=
 bP (bW rfl rfl fun ac w M _ hrd _ => by
  obtain ⟨hdx, hdy⟩ := op2 hrd
  rw [hx] at hdx; rw [hy] at hdy
  have ex : ac.eval x = .int k _ := hdx
  have ey : ac.eval y = .int k _ := hdy
  exact ⟨.int k (k.wrap (a.tdiv b)), by simp only [execOp, ex, ey]; simp [go_sem, Op.intDiv, h0], rfl⟩) h
theorem KP {x y : Operand} {k k' : IntKind} {a b : Int} (hx : A.op fr x = .int k a) (hy : A.op fr y = .int k' b) (h0 : 0 ≤ b) (h1 : b ≤ k.bits)
 (h : ak P fr ops rest (A.set d (.int k (a / 2 ^ b.toNat))) fun A' l' => K A' ((A, { d := some d, ty := .int k (a / 2 ^ b.toNat), rs := cR x ++ cR y }) :: l')) : ak P fr ops (⟨some d, .binOp .shr ty' x y ty2, t, p, e, none⟩ :: rest) A K :=
 bP (bW rfl rfl fun ac w M _ hrd _ => by
  obtain ⟨hdx, hdy⟩ := op2 hrd
  rw [hx] at hdx; rw [hy] at hdy
  have ex : ac.eval x = .int k _ := hdx
  have ey : ac.eval y = .int k' _ := hdy
  exact ⟨.int k (a / 2 ^ b.toNat), by simp only [execOp, ex, ey, eqGuard_shr, binOp_shr, shift_shr k k' a b h0 h1]; simp, rfl⟩) h
theorem eD {x : Operand} {b : Bool} (hx : A.op fr x = .bool b)
 (h : ak P fr ops rest (A.set d (.bool (!b))) fun A' l' => K A' ((A, { d := some d, ty := .bool (!b), rs := cR x }) :: l')) : ak P fr ops (⟨some d, .unOp .not ty' x, t, p, e, none⟩ :: rest) A K :=
 bP (bW rfl rfl fun a w M _ hrd _ => by
  have hdx := cY (x := x) (fun _ h => h) hrd
  rw [hx] at hdx
  have ex : a.eval x = .bool b := hdx
  exact ⟨.bool (!b), by simp [execOp, ex, Op.unary], rfl⟩) h
theorem MD {x : Operand} {k : IntKind} {b : Int} (hx : A.op fr x = .int k b)
 (h : ak P fr ops rest (A.set d (.int k (k.wrap (0 - b)))) fun A' l' => K A' ((A, { d := some d, ty := .int k (k.wrap (0 - b)), rs := cR x }) :: l')) : ak P fr ops (⟨some d, .unOp .neg ty' x, t, p, e, none⟩ :: rest) A K :=
 bP (bW rfl rfl fun a w M _ hrd _ => by
  have hdx := cY (x := x) (fun _ h => h) hrd
  rw [hx] at hdx
  have ex : a.eval x = .int k b := hdx
  exact ⟨.int k (k.wrap (0 - b)), by simp [execOp, ex, Op.unary, Op.intArith], rfl⟩) h
theorem bO {x : Operand} {l : List Ty} {i : Nat} {ty : Ty} (hx : A.op fr x = .kH l) (hl : l[i]? = some ty)
 (h : ak P fr ops rest (A.set d ty) fun A' l' => K A' ((A, { d := some d, ty := ty, rs := cR x }) :: l')) : ak P fr ops (⟨some d, .extract x i, t, p, e, none⟩ :: rest) A K :=
 bP (bW rfl rfl fun a w M _ hrd _ => by
  have hdx := cY (x := x) (fun _ h => h) hrd
  rw [hx] at hdx
  obtain ⟨cs, ex, hd⟩ := hdx
  obtain ⟨v, hv, hdv⟩ := dc hd i ty hl
  exact ⟨v, by simp [execOp, ex, Instr.extract, show cs[i]? = some v by simpa using hv], hdv⟩) h
theorem b9 {x : Operand} {l : List Ty} (hx : A.op fr x = .pp l)
 (h : ak P fr ops rest (A.set d (.pp l)) fun A' l' => K A' ((A, { d := some d, ty := .pp l, rs := cR x }) :: l')) : ak P fr ops (⟨some d, .nilCheck x, t, p, e, none⟩ :: rest) A K :=
 bP (bW rfl rfl fun a w M _ hrd _ => by
  have hdx := cY (x := x) (fun _ h => h) hrd
  rw [hx] at hdx
  have hdx' := hdx
  obtain ⟨b, off, ex, hp⟩ := hdx
  exact ⟨a.eval x, by simp [execOp, ex], hdx'⟩) h
theorem cC {x : Operand} {tg off : Nat} (hx : A.op fr x = .ptr tg off)
 (h : ak P fr ops rest (A.set d (.ptr tg off)) fun A' l' => K A' ((A, { d := some d, ty := .ptr tg off, rs := cR x }) :: l')) : ak P fr ops (⟨some d, .nilCheck x, t, p, e, none⟩ :: rest) A K :=
 bP (bW rfl rfl fun a w M _ hrd _ => by
  have hdx := cY (x := x) (fun _ h => h) hrd
  rw [hx] at hdx
  have hdx' := hdx
  obtain ⟨b, hb, ex⟩ := hdx
  exact ⟨a.eval x, by simp [execOp, ex], hdx'⟩) h
variable [T : k8 P]
theorem dP {α : Type} {x : Operand} {E : El α} {xs : List α} {ti : TI} {el : Nat} (hx : A.op fr x = .sl E xs) (hT : T.e9[ty']? = some ti) (hk : ti.k = .slice el)
 (h : ak P fr ops rest (A.set d (.int .i64 xs.length)) fun A' l' => K A' ((A, { d := some d, ty := .int .i64 xs.length, rs := cR x }) :: l')) :
 ak P fr ops (⟨some d, .call ⟨.builtin .len, #[x], #[ty']⟩, t, p, e, none⟩ :: rest) A K :=
 bP (bW rfl rfl fun a w M _ hrd _ => by
  have hdx := cY (x := x) (fun _ h => h) hrd
  rw [hx] at hdx
  obtain ⟨ad, c, ex, _⟩ := hdx
  obtain ⟨_, D, _, hD, hkd, _⟩ := dU hT
  rw [hk] at hkd
  cases D <;> simp only [TK.of, reduceCtorEq, TK.slice.injEq] at hkd
  exact ⟨.int .i64 xs.length, by simp [execOp, resolve, invoke, builtin, ex, Builtin.len_, run_underlying hD, goInt], rfl⟩) h
end
end Go.T
namespace Go.T
open Go Go.RowKit
def lk : List (Nat × Ty) → Nat → Ty
  | [], _ => Ty.any
  | (d, t) :: l, c => bif Nat.beq c d then t else lk l c
def live (l : List (Nat × Ty)) (tg : List (Nat × Cont) := []) : As := ⟨lk l, tg⟩
theorem aB {A B : As} {k : Nat} (h' : q4 A B k) (h : (A.slots k).Sub (B.slots k)) : q4 A B (k + 1) := ⟨h, h'⟩
theorem dG.mk' {fr : Fr} {A B : As} (h : q4 A B fr.n) (h' : allTags A B.tags) : dG fr A B := ⟨h, h'⟩
theorem Ty.aa {k : IntKind} {a b : Int} (h : a = b) : (Ty.int k a).Sub (Ty.int k b) := h ▸ Ty.aE _
theorem Ty.oQ {a b : Bool} (h : a = b) : (Ty.bool a).Sub (Ty.bool b) := h ▸ Ty.aE _
theorem Ty.eV {α : Type} {E : El α} {a b : List α} (h : a = b) : (Ty.sl E a).Sub (Ty.sl E b) := h ▸ Ty.aE _
theorem aj {P : Program} {fr : Fr} {A : As} {Q : Exit → Act → World → Prop} {x y : Code} {c : Operand} {q : Prop} [inst : Decidable q] (hc : A.op fr c = .bool (decide q)) (h1 : q → fV P fr x A Q) (h2 : ¬ q → fV P fr y A Q) : fV P fr (.cond c x y) A Q :=
 ct hc (fun h => h1 (of_decide_eq_true h)) (fun h => h2 (of_decide_eq_false h))
theorem dL {P : Program} {fr : Fr} {A : As} {Q : Exit → Act → World → Prop} {x y : Code} {c : Operand} {q : Prop} [inst : Decidable q] (hc : A.op fr c = .bool (!decide q)) (h1 : ¬ q → fV P fr x A Q) (h2 : q → fV P fr y A Q) : fV P fr (.cond c x y) A Q :=
 ct hc (fun h => h1 (of_decide_eq_false (by simpa using h))) (fun h => h2 (of_decide_eq_true (by simpa using h)))
section
variable {P : Program} {fr : Fr} {ops : Array Oper} {A : As} {rest : List Oper} {K : As → List (As × Fx) → Prop} {d : Nat} {t ty' : TypeId} {p : String} {e : Array Edge} [T : k8 P]
theorem bf {α : Type} [Inhabited α] {x y : Operand} {E : El α} {xs : List α} {k : IntKind} {i : Nat} {ti te : TI} {el : Nat} (hx : A.op fr x = .sl E xs) (hy : A.op fr y = .int k i) (hT : T.e9[ty']? = some ti) (hk : ti.k = .slice el) (hE : T.e9[el]? = some te) (hs : te.size = E.size)
 (h1 : i < xs.length)
 (h : ak P fr ops rest (A.set d (.pp (E.tys (nth xs i)))) fun A' l' => K A' ((A, { d := some d, ty := .pp (E.tys (nth xs i)), rs := cR x ++ cR y }) :: l')) : ak P fr ops (⟨some d, .indexAddr ty' x y, t, p, e, none⟩ :: rest) A K :=
 lz hx hy hT hk hE hs (Int.natCast_nonneg _) h1 h
end
end Go.T
namespace Go.T
open Go Go.RowKit
theorem iB {P : Program} {fr : Fr} {ops : Array Oper} {o : Oper} {A : As} {f : Fx} (hg : o.guard = none) (hd : f.d = o.dst) (hsets : ∀ x ∈ f.sets, x.1 ∈ f.S ∨ x.1 ∈ f.K) (hS : ∀ t ∈ f.S, 1 ≤ t) (hK : ∀ t ∈ f.K, 1 ≤ t ∧ t ∉ fr.pass)
 (h : ∀ (a : Act) w M, Wf w M → (∀ c ∈ f.rs, c < fr.n → (A.slots c).den w M (a.tmps.getD c undef)) → (∀ x ∈ A.tags, x.1 ∈ f.rt → x.2.den w M x.1) → ∃ v w', (execOp a.eval o).run P w = .ok (.value v) w' ∧ f.left w M w' v) : wo P fr ops o A f := by
 refine ⟨hd, hsets, hS, hK, fun a w M wf _ hr ht => ?_⟩
 rw [if_pos (by simp [Region.wanted, hg])]
 obtain ⟨v, w', hv, hl⟩ := h a w M wf hr ht
 refine oV hv ?_
 exact ⟨v, rfl, hl⟩
theorem l6 {P : Program} {fr : Fr} {ops : Array Oper} {o : Oper} {A : As} {f : Fx} (hg : o.guard = none) (hd : f.d = o.dst) (hty : f.ty = Ty.any) (hsets : ∀ x ∈ f.sets, x.1 ∈ f.S ∨ x.1 ∈ f.K) (hS : ∀ t ∈ f.S, 1 ≤ t) (hK : ∀ t ∈ f.K, 1 ≤ t ∧ t ∉ fr.pass)
 (h : ∀ (a : Act) w M, Wf w M → (∀ c ∈ f.rs, c < fr.n → (A.slots c).den w M (a.tmps.getD c undef)) → (∀ x ∈ A.tags, x.1 ∈ f.rt → x.2.den w M x.1) → ∃ w', (execOp a.eval o).run P w = .ok .skip w' ∧ f.left w M w' undef) : wo P fr ops o A f := by
 refine ⟨hd, hsets, hS, hK, fun a w M wf _ hr ht => ?_⟩
 rw [if_pos (by simp [Region.wanted, hg])]
 obtain ⟨w', hv, hl⟩ := h a w M wf hr ht
 refine wA hv ?_
 exact ⟨undef, rfl, hl⟩
def m4 (M : bB) (t : Nat) (g : Option Nat) : bB := fun b => if g = some b then some t else if M b = some t then none else M b
theorem BJ {w w' : World} {M : bB} {t : Nat} {g : Option Nat} (wf : Wf w M) (hs : w.heap.size ≤ w'.heap.size) (hg : ∀ b, g = some b → b < w'.heap.size) : Wf w' (m4 M t g) := by
 refine ⟨fun b u h => ?_, fun b b' u ht1 h h' => ?_⟩
 ·unfold m4 at h
  split at h
  ·exact hg b (by assumption)
  split at h
  ·cases h
  exact Nat.lt_of_lt_of_le (wf.lt b u h) hs
 have key : ∀ c, m4 M t g c = some (u + 1) → (g = some c ∧ t = u + 1) ∨ (M c = some (u + 1) ∧ t ≠ u + 1) := by
  intro c hc
  unfold m4 at hc
  by_cases e : g = some c
  ·rw [if_pos e] at hc; injection hc with hc; exact .inl ⟨e, hc⟩
  rw [if_neg e] at hc
  by_cases e' : M c = some t
  ·rw [if_pos e'] at hc; cases hc
  rw [if_neg e'] at hc; exact .inr ⟨hc, fun ht => e' (by rw [ht]; exact hc)⟩
 rcases key b h with ⟨h1, h2⟩ | ⟨h1, h2⟩ <;> rcases key b' h' with ⟨h3, h4⟩ | ⟨h3, h4⟩
 ·rw [h1] at h3; injection h3
 ·exact absurd h2 h4
 ·exact absurd h4 h2
 exact wf.inj b b' u ht1 h1 h3
theorem BW {w w' : World} {M : bB} {t : Nat} {g : Option Nat} (hsz : w.heap.size ≤ w'.heap.size) (hos : w'.os = w.os) (htp : w'.tape = w.tape) (hout : w'.output = w.output)
 (hg : ∀ b, g = some b → b < w.heap.size → M b = some t) (hk : ∀ b, b < w.heap.size → M b ≠ some t → w'.heap[b]? = w.heap[b]?) (wf : Wf w M) : Le (· ∈ ([] : List Nat)) (· ∈ [t]) w M w' (m4 M t g) := by
 refine ⟨hsz, hos, htp, hout, fun b hb hm => ⟨?_, hk b hb (by rw [hm]; simp)⟩, fun b u hm hu => ⟨?_, fun _ => hk b (wf.lt b u hm) (by rw [hm]; intro e; injection e with e; exact hu (by simp [e]))⟩⟩
 ·unfold m4
  split
  ·rename_i e; rw [hg b e hb] at hm; cases hm
  rw [if_neg (by rw [hm]; simp)]; exact hm
 have hne : M b ≠ some t := by rw [hm]; intro e; injection e with e; exact hu (by simp [e])
 unfold m4
 split
 ·rename_i e; exact absurd (hg b e (wf.lt b u hm)) hne
 first | exact hm | (rw [if_neg hne]; exact hm)
theorem lV {w : World} {M : bB} (wf : Wf w M) (o : Obj) (t : Nat) : Wf (w.alloc o) (m4 M t (some w.heap.size)) ∧ Le (· ∈ ([] : List Nat)) (· ∈ [t]) w M (w.alloc o) (m4 M t (some w.heap.size)) ∧ m4 M t (some w.heap.size) w.heap.size = some t :=
 ⟨BJ wf (by simp) (fun b e => by injection e with e; simp [← e]), BW (by simp) rfl rfl rfl (fun b e hb => by injection e with e; omega) (fun b hb _ => Below.heap_alloc w o b hb) wf, by simp [m4]⟩
theorem va {w : World} {M : bB} (wf : Wf w M) (o : Obj) : Wf (w.alloc o) M ∧ Le (· ∈ ([] : List Nat)) (· ∈ ([] : List Nat)) w M (w.alloc o) M ∧ M w.heap.size = none :=
  ⟨⟨fun b t h => by have := wf.lt b t h; simp; omega, wf.inj⟩, ⟨by simp, rfl, rfl, rfl, fun b hb h => ⟨h, Below.heap_alloc w o b hb⟩, fun b t h _ => ⟨h, fun _ => Below.heap_alloc w o b (wf.lt b t h)⟩⟩, by
    cases h : M w.heap.size with
    | none => rfl
    | some t => have := wf.lt _ t h; omega⟩
theorem iY (w : World) (o : Obj) : (w.alloc o).heap[w.heap.size]? = some o := by
 show (w.heap.push o)[w.heap.size]? = some o
 simp
theorem uk {w : World} {M : bB} (wf : Wf w M) {cs : List Value} {T : TypeId} {l : List Ty} (h : cV w M l cs) : mm (w.alloc (.cells cs.toArray T)) M w.heap.size 0 l := by
 obtain ⟨wf', le, hn⟩ := va wf (.cells cs.toArray T)
 refine ⟨hn, by simp, fun i t hi => ?_⟩
 obtain ⟨v, hv, hd⟩ := dc h i t hi
 exact ⟨v, by simp [hv], t.mono le (by intro _ _ h; cases h) (by intro _ _ h; cases h) hd⟩
theorem l9 (w : World) (M : bB) : ∀ l : List Value, cV w M (l.map Ty.fM) l
  | [] => trivial
  | v :: l => ⟨nE w M v, l9 w M l⟩
section
variable {P : Program} {fr : Fr} {ops : Array Oper} {A : As} {rest : List Oper} {K : As → List (As × Fx) → Prop} {d : Nat} {t ty' : TypeId} {p : String} {e : Array Edge} [T : k8 P]
theorem oq {t : Nat} {x : TI} (h : T.e9[t]? = some x) (hz : x.zero ≠ []) (w : World) : ∃ z : Value, (zeroValue t).run P w = .ok z w ∧ z.cells.toList = x.zero := by
  obtain ⟨i, _, hi, _, _, _, _, hze⟩ := dU h
  cases hiz : i.zero with
  | none => rw [hiz] at hze; exact absurd hze.symm hz
  | some z => rw [hiz] at hze; exact ⟨z, by simp [zeroValue, typeInfo, hi, hiz], hze⟩
theorem cE {ti : TI} (hT : T.e9[ty']? = some ti) (hz : ti.zero ≠ []) (hp : fr.pass.contains (d + 1) = false)
 (h : ak P fr ops rest (A.after { d := some d, ty := .ptr (d + 1) 0, K := [d + 1], sets := [(d + 1, .cells ty' (ti.zero.map Ty.fM))] }) fun A' l' => K A' ((A, { d := some d, ty := .ptr (d + 1) 0, K := [d + 1], sets := [(d + 1, .cells ty' (ti.zero.map Ty.fM))] }) :: l')) :
 ak P fr ops (⟨some d, .alloc ty', t, p, e, none⟩ :: rest) A K := by
 refine ⟨_, iB rfl rfl (by simp) (by simp) (by simp at hp ⊢; exact hp) fun a w M wf _ _ => ?_, h⟩
 obtain ⟨z, hz1, hz2⟩ := oq hT hz w
 obtain ⟨h1, h2, h3⟩ := lV wf (.cells z.cells ty') (d + 1)
 refine ⟨.pointer (some ⟨w.heap.size, 0, none⟩), w.alloc (.cells z.cells ty'), ?_, _, h1, h2, ⟨_, h3, rfl⟩, ?_⟩
 ·simp [execOp, Instr.alloc, newVar, newRow, newObj, Sem.run, hz1]
 intro x hx
 simp only [List.mem_singleton] at hx
 subst hx
 exact ⟨w.heap.size, z.cells, h3, iY _ _, by rw [hz2]; exact l9 _ _ _⟩
theorem kV {w : World} {M : bB} {tg b : Nat} {cs' : Array Value} {Tb : TypeId} (wf : Wf w M) (hb : M b = some tg) (w' : World) (hw : w' = { w with heap := w.heap.setIfInBounds b (.cells cs' Tb (0, 0)) }) :
 Wf w' M ∧ Le (· ∈ [tg]) (· ∈ ([] : List Nat)) w M w' M ∧ w'.heap[b]? = some (.cells cs' Tb (0, 0)) := by
 have hlt := wf.lt b tg hb
 subst hw
 refine ⟨⟨fun b' t h => by simpa using wf.lt b' t h, wf.inj⟩, ⟨by simp, rfl, rfl, rfl, fun b' hb' hm => ⟨hm, ?_⟩, fun b' t hm _ => ⟨hm, fun hs => ?_⟩⟩, by simp [hlt]⟩
 ·have : b ≠ b' := fun e => by rw [← e, hb] at hm; cases hm
  simp [Array.getElem?_setIfInBounds_ne this]
 have : b ≠ b' := fun e => hs (by rw [← e, hb] at hm; injection hm with hm; simp [hm])
 simp [Array.getElem?_setIfInBounds_ne this]
theorem mV {w : World} {b off : Nat} {cs : Array Value} {Tb : TypeId} (h : w.heap[b]? = some (.cells cs Tb (0, 0))) (v : Value) : w.setCell ⟨b, off, none⟩ v = { w with heap := w.heap.setIfInBounds b (.cells (cs.setIfInBounds off v) Tb (0, 0)) } := by
 unfold World.setCell
 congr 1
 apply Array.ext_getElem?
 intro i
 rw [Array.getElem?_modify]
 by_cases e : b = i
 ·subst e
  obtain ⟨hlt, hv⟩ := Array.getElem?_eq_some_iff.1 h
  simp [hv, hlt]
 simp [e, Array.getElem?_setIfInBounds_ne e]
theorem rJ {w : World} {M : bB} {l : List Ty} {vs : List Value} {i : Nat} {ty : Ty} {v : Value} (h : cV w M l vs) (hv : ty.den w M v) : cV w M (l.set i ty) (vs.set i v) := by
 have hl := cX h
 refine iG (by simp [hl]) fun j t hj => ?_
 rw [List.getElem?_set] at hj
 split at hj
 ·rename_i e
  subst e
  split at hj
  ·injection hj with hj
   subst hj
   exact ⟨v, by rw [List.getElem?_set]; simp; omega, hv⟩
  cases hj
 rename_i e
 obtain ⟨u, hu, hd⟩ := dc h j t hj
 exact ⟨u, by rw [List.getElem?_set]; simp [e, hu], hd⟩
theorem cw {x y : Operand} {tg off Tb : Nat} {l : List Ty} {ti : TI} {ty : Ty} (hx : A.op fr x = .ptr tg off) (hc : A.tag tg = some (.cells Tb l)) (h1 : gI tg) (hT : T.e9[ty']? = some ti) (hsz : ti.size = 1) (hy : A.op fr y = ty) (ho : ty.one = true) (hoff : off < l.length)
 (hdl : kg (bw l) [tg] = true) (hdt : kg ty.cdeps [tg] = true) {l' : List Ty} (hl : l.set off ty = l')
 (h : ak P fr ops rest (A.after { d := none, S := [tg], sets := [(tg, .cells Tb l')], rs := cR x ++ cR y, rt := [tg] }) fun A' l'' => K A' ((A, { d := none, S := [tg], sets := [(tg, .cells Tb l')], rs := cR x ++ cR y, rt := [tg] }) :: l'')) :
 ak P fr ops (⟨none, .store ty' x y, t, p, e, none⟩ :: rest) A K := by
 subst hl
 refine ⟨_, l6 rfl rfl rfl (by simp) (by simpa using h1.1) (by simp) fun a w M wf hr ht => ?_, h⟩
 obtain ⟨hdx, hdy⟩ := op2 hr
 rw [hx] at hdx; rw [hy] at hdy
 obtain ⟨b, hb, ex⟩ := hdx
 obtain ⟨b', cs, hb', hh, hd⟩ := ht _ (dB hc) (by simp)
 obtain ⟨u, rfl⟩ : ∃ u, tg = u + 1 := ⟨tg - 1, by omega⟩
 have := wf.inj b b' u (by omega) hb hb'
 subst this
 have hone := ty.isOne ho hdy
 have hlen := cX hd
 have hcells : (a.eval y).cells = #[a.eval y] := by
  cases hv : a.eval y <;> first | rfl | (rw [hv] at hone; simp [Value.oneCell'] at hone)
 have hcell : w.cell? ⟨b, off, none⟩ = some (cs[off]'(by simp at hlen; omega)) := by simp [World.cell?, hh]
 have hfz : w.frozen? ⟨b, off, none⟩ = false := by simp [World.frozen?, hh]
 obtain ⟨h1', h2', h3'⟩ := kV wf hb _ (mV hh (off := off) (a.eval y))
 refine ⟨w.setCell ⟨b, off, none⟩ (a.eval y), ?_, M, h1', h2', trivial, ?_⟩
 ·have hst := run_store P w ⟨b, off, none⟩ (a.eval y) .plain hone
  rw [hcell] at hst
  simp only [hfz] at hst
  simp [execOp, Instr.storeAt, Instr.sureAddr, ex, storeVar, hcells, dh hT, hsz, storeCells, hst, Addr.add]
 intro z hz
 simp only [List.mem_singleton] at hz
 subst hz
 refine ⟨b, _, hb, h3', ?_⟩
 rw [Array.toList_setIfInBounds]
 refine rJ (cI h2' (by intro _ _ h; cases h) (gA hdl) hd) (ty.mono h2' (by intro _ _ h; cases h) (gA hdt) hdy)
theorem jK {w : World} {b : Nat} {Tb : TypeId} : ∀ (vs pre : List Value) (cs : Array Value), w.heap[b]? = some (.cells cs Tb (0, 0)) → cs.size = pre.length + vs.length → cs.toList.take pre.length = pre → (∀ v ∈ vs, v.oneCell' = true) →
    (storeCells ⟨b, 0, none⟩ vs pre.length).run P w = .ok () { w with heap := w.heap.setIfInBounds b (.cells (pre ++ vs).toArray Tb (0, 0)) }
  | [], pre, cs, hh, hs, hp, _ => by
    have _ := T
    have e : (pre ++ []).toArray = cs := by
      apply Array.ext'
      simp only [List.append_nil]
      rw [← hp, List.take_of_length_le]
      simp at hs ⊢; omega
    rw [e]
    have hw : ({ w with heap := w.heap.setIfInBounds b (.cells cs Tb (0, 0)) } : World) = w := by
      obtain ⟨hlt, hv⟩ := Array.getElem?_eq_some_iff.1 hh
      have : w.heap.setIfInBounds b (.cells cs Tb (0, 0)) = w.heap := by
        apply Array.ext_getElem?
        intro i
        by_cases e : b = i
        · subst e; simp [hlt, hv]
        · simp [Array.getElem?_setIfInBounds_ne e]
      rw [this]
    rw [hw]
    simp [storeCells]
  | v :: vs, pre, cs, hh, hs, hp, h1 => by
    have hlt : pre.length < cs.size := by rw [hs]; simp
    have hb : b < w.heap.size := (Array.getElem?_eq_some_iff.1 hh).1
    have hcell : w.cell? ⟨b, 0 + pre.length, none⟩ = some cs[pre.length] := by simp [World.cell?, hh]
    have hfz : w.frozen? ⟨b, 0 + pre.length, none⟩ = false := by simp [World.frozen?, hh]
    have hst := run_store P w ⟨b, 0 + pre.length, none⟩ v .plain (h1 v List.mem_cons_self)
    rw [hcell] at hst
    simp only [hfz] at hst
    have hadd : Addr.add ⟨b, 0, none⟩ pre.length = ⟨b, 0 + pre.length, none⟩ := Addr.add_lit _ _ _
    simp only [storeCells, hadd, Sem.run_bind, hst, if_false, Bool.false_eq_true, Result.andThen_ok]
    rw [mV hh]
    have ih := jK (w := { w with heap := w.heap.setIfInBounds b (.cells (cs.setIfInBounds (0 + pre.length) v) Tb (0, 0)) }) (b := b) (Tb := Tb) vs (pre ++ [v]) (cs.setIfInBounds (0 + pre.length) v)
      (by simp [hb]) (by simp at hs ⊢; omega) (by
        rw [Array.toList_setIfInBounds, List.length_append, List.length_singleton, Nat.zero_add]
        rw [List.take_succ_eq_append_getElem (by simpa using hlt)]
        simp [List.take_set_of_le, hp]) (fun u hu => h1 u (List.mem_cons_of_mem _ hu))
    rw [List.length_append, List.length_singleton] at ih
    rw [ih]
    simp
theorem b8 {x y : Operand} {tg Tb : Nat} {l l' : List Ty} {ti : TI} (hx : A.op fr x = .ptr tg 0) (hc : A.tag tg = some (.cells Tb l)) (h1 : gI tg) (hT : T.e9[ty']? = some ti) (hy : A.op fr y = .agg l') (hsz : ti.size = l'.length) (hlen : l.length = l'.length) (ho : l'.all Ty.one = true) (hdt : kg (bw l') [tg] = true)
 (h : ak P fr ops rest (A.after { d := none, S := [tg], sets := [(tg, .cells Tb l')], rs := cR x ++ cR y, rt := [tg] }) fun A' l'' => K A' ((A, { d := none, S := [tg], sets := [(tg, .cells Tb l')], rs := cR x ++ cR y, rt := [tg] }) :: l'')) :
 ak P fr ops (⟨none, .store ty' x y, t, p, e, none⟩ :: rest) A K := by
 refine ⟨_, l6 rfl rfl rfl (by simp) (by simpa using h1.1) (by simp) fun a w M wf hr ht => ?_, h⟩
 obtain ⟨hdx, hdy⟩ := op2 hr
 rw [hx] at hdx; rw [hy] at hdy
 obtain ⟨b, hb, ex⟩ := hdx
 obtain ⟨vs, ey, hvs⟩ := hdy
 obtain ⟨b', cs, hb', hh, hd⟩ := ht _ (dB hc) (by simp)
 obtain ⟨u, rfl⟩ : ∃ u, tg = u + 1 := ⟨tg - 1, by omega⟩
 have := wf.inj b b' u (by omega) hb hb'
 subst this
 have hl1 := cX hd
 have hl2 := cX hvs
 obtain ⟨h1', h2', h3'⟩ := kV (cs' := vs) (Tb := Tb) wf hb _ rfl
 have hones : ∀ v ∈ vs.toList, v.oneCell' = true := fun v hv => by
  obtain ⟨i, hi, hvi⟩ := List.getElem_of_mem hv
  have hlt : i < l'.length := by omega
  obtain ⟨u', hu', hdu⟩ := dc hvs i l'[i] (List.getElem?_eq_getElem hlt)
  rw [List.getElem?_eq_getElem hi, hvi] at hu'
  injection hu' with hu'
  subst hu'
  exact (l'[i]).isOne (List.all_eq_true.1 ho _ (List.getElem_mem hlt)) hdu
 refine ⟨_, ?_, M, h1', h2', trivial, ?_⟩
 ·have hst := jK (P := P) (w := w) (b := b) (Tb := Tb) vs.toList [] cs hh (by simp at hl1 hl2 ⊢; omega) (by simp) hones
  have hsz' : vs.size = ti.size := by simp at hl2; omega
  simp only [List.length_nil, List.nil_append] at hst
  simp [execOp, Instr.storeAt, Instr.sureAddr, ex, ey, storeVar, Value.cells, dh hT, hsz', hst]
 intro z hz
 simp only [List.mem_singleton] at hz
 subst hz
 exact ⟨b, vs, hb, h3', cI h2' (by intro _ _ h; cases h) (gA hdt) hvs⟩
end
section
variable {P : Program} {fr : Fr} {ops : Array Oper} {A : As} {rest : List Oper} {K : As → List (As × Fx) → Prop} {d : Nat} {t ty' : TypeId} {p : String} {e : Array Edge}
theorem bR {x : Operand} {l : List Ty} (hx : A.op fr x = .agg l)
 (h : ak P fr ops rest (A.set d (.pp l)) fun A' l' => K A' ((A, { d := some d, ty := .pp l, rs := cR x }) :: l')) : ak P fr ops (⟨some d, .box ty' x, t, p, e, none⟩ :: rest) A K := by
 refine ⟨_, iB (f := { d := some d, ty := .pp l, rs := cR x }) rfl rfl (by simp) (by simp) (by simp) fun a w M wf hr _ => ?_, h⟩
 have hd := cY (x := x) (fun _ h => h) hr
 rw [hx] at hd
 obtain ⟨cs, ex, hds⟩ := hd
 obtain ⟨h1, h2, _⟩ := va wf (.cells cs ty')
 refine ⟨.pointer (some ⟨w.heap.size, 0, none⟩), w.alloc (.cells cs ty'), ?_, M, h1, h2, ⟨_, 0, rfl, ?_⟩, by simp⟩
 ·simp [execOp, Instr.box, newVar, newRow, newObj, Sem.run, ex, Value.cells]
 exact uk (T := ty') wf hds
theorem gY {x : Operand} {ty : Ty} (hx : A.op fr x = ty) (h1 : ty.one = true)
 (h : ak P fr ops rest (A.set d (.pp [ty])) fun A' l' => K A' ((A, { d := some d, ty := .pp [ty], rs := cR x }) :: l')) : ak P fr ops (⟨some d, .box ty' x, t, p, e, none⟩ :: rest) A K := by
 refine ⟨_, iB (f := { d := some d, ty := .pp [ty], rs := cR x }) rfl rfl (by simp) (by simp) (by simp) fun a w M wf hr _ => ?_, h⟩
 have hd := cY (x := x) (fun _ h => h) hr
 rw [hx] at hd
 have hone := ty.isOne h1 hd
 have hcells : (a.eval x).cells = #[a.eval x] := by
  cases hv : a.eval x <;> first | rfl | (rw [hv] at hone; simp [Value.oneCell'] at hone)
 obtain ⟨h1, h2, _⟩ := va wf (.cells #[a.eval x] ty')
 refine ⟨.pointer (some ⟨w.heap.size, 0, none⟩), w.alloc (.cells #[a.eval x] ty'), ?_, M, h1, h2, ⟨_, 0, rfl, ?_⟩, by simp⟩
 ·simp [execOp, Instr.box, newVar, newRow, newObj, Sem.run, hcells]
 exact uk (T := ty') (cs := [a.eval x]) wf ⟨hd, trivial⟩
theorem sY {x : Operand} {l : List Ty} (hx : A.op fr x = .agg l) (hp : fr.pass.contains (d + 1) = false) (hdp : kg (cN l) [d + 1] = true) 
 (h : ak P fr ops rest (A.after { d := some d, ty := .ptr (d + 1) 0, K := [d + 1], sets := [(d + 1, .cells ty' l)], rs := cR x }) fun A' l' => K A' ((A, { d := some d, ty := .ptr (d + 1) 0, K := [d + 1], sets := [(d + 1, .cells ty' l)], rs := cR x }) :: l')) :
 ak P fr ops (⟨some d, .box ty' x, t, p, e, none⟩ :: rest) A K := by
 refine ⟨_, iB rfl rfl (by simp) (by simp) (by simp at hp ⊢; exact hp) fun a w M wf hr _ => ?_, h⟩
 have hd := cY (x := x) (fun _ h => h) hr
 rw [hx] at hd
 obtain ⟨cs, ex, hds⟩ := hd
 obtain ⟨h1, h2, h3⟩ := lV wf (.cells cs ty') (d + 1)
 refine ⟨.pointer (some ⟨w.heap.size, 0, none⟩), w.alloc (.cells cs ty'), ?_, _, h1, h2, ⟨_, h3, rfl⟩, ?_⟩
 ·simp [execOp, Instr.box, newVar, newRow, newObj, Sem.run, ex, Value.cells]
 intro x hx
 simp only [List.mem_singleton] at hx
 subst hx
 exact ⟨w.heap.size, cs, h3, iY _ _, cI h2 (gA hdp) (by intro _ _ h; cases h) hds⟩
theorem dS {f : FuncId} {xs : List Operand} {l : List Ty} (hx : oH A fr xs = l)
 (h : ak P fr ops rest (A.set d (.jz f l)) fun A' l' => K A' ((A, { d := some d, ty := .jz f l, rs := xs.flatMap cR }) :: l')) : ak P fr ops (⟨some d, .makeFunc (.func f) #[] xs.toArray, t, p, e, none⟩ :: rest) A K :=
 bP (bW rfl rfl fun a w M _ hr _ => by
  have hv : cV w M l (xs.map a.eval) := hx ▸ gr hr fun x hx c hc => List.mem_flatMap.2 ⟨x, hx, hc⟩
  exact ⟨.func (.func f) #[] (xs.map a.eval).toArray, by simp [execOp, Instr.makeFunc], _, rfl, by simpa using hv⟩) h
end
end Go.T
namespace Go.T
open Go Go.RowKit
def gx {α : Type} (E : El α) (T tg : Nat) (xs : List α) (w : World) (M : bB) (v : Value) : Prop :=
  ∃ cs, w.ownsRow 0 T E.size v xs.length cs ∧ cV w M (xs.flatMap E.tys) cs ∧ ∀ g, v.ownBlock = some g → M g = some tg
theorem zW {w w' : World} {T size n : Nat} {v : Value} {cs : List Value} (h : w.ownsRow 0 T size v n cs) (hk : ∀ g, v.ownBlock = some g → w'.heap[g]? = w.heap[g]?) : w'.ownsRow 0 T size v n cs := by
 refine ⟨h.1, ?_⟩
 rcases h.2 with h | ⟨g, cap, cur, hv, h0, hh, rest⟩
 ·exact .inl h
 exact .inr ⟨g, cap, cur, hv, h0, (hk g (by rw [hv]; rfl)).trans hh, rest⟩
def Ty.row {α : Type} (E : El α) (T tg : Nat) (xs : List α) : Ty :=
  ⟨gx E T tg xs, [tg], [tg], fun le hk hs ⟨cs, h1, h2, h3⟩ =>
    ⟨cs, zW h1 fun g hg => (le.own g tg (h3 g hg) (hk tg (by simp))).2 (hs tg (by simp)),
     cI le (by rw [E.dM]; intro _ h; cases h) (by rw [E.cv]; intro _ h; cases h) h2,
     fun g hg => (le.own g tg (h3 g hg) (hk tg (by simp))).1⟩, true, fun _ ⟨cs, h1, _⟩ => by
      rcases h1.2 with ⟨rfl, _⟩ | ⟨_, _, _, rfl, _⟩ <;> rfl⟩
theorem Ty.lI {α : Type} {E : El α} {T tg : Nat} : (Ty.ex (.slice none 0 0)).Sub (Ty.row E T tg []) := by
 intro w M v h
 have h : v = .slice none 0 0 := h
 subst h
 exact ⟨[], ⟨by simp, .inl ⟨rfl, rfl⟩⟩, trivial, fun g hg => by simp [Value.ownBlock] at hg⟩
theorem Ty.eU {α : Type} {E : El α} {T tg : Nat} {xs ys : List α} (h : xs = ys) : (Ty.row E T tg xs).Sub (Ty.row E T tg ys) := h ▸ Ty.aE _
theorem Ty.v9 {α : Type} {E : El α} : (Ty.ex (.slice none 0 0)).Sub (Ty.sl E []) := by
 intro w M v h
 have h : v = .slice none 0 0 := h
 subst h
 exact ⟨none, 0, rfl, Nat.le_refl _, by simp [maxLen], fun h => absurd h (by simp)⟩
theorem kZ {w : World} {M : bB} {l l' : List Ty} {vs vs' : List Value} (h : cV w M l vs) (h' : cV w M l' vs') : cV w M (l ++ l') (vs ++ vs') := eK h h'
theorem dR {α : Type} (E : El α) : ∀ xs : List α, (xs.flatMap E.tys).length = xs.length * E.size
  | [] => by simp
  | x :: xs => by rw [List.flatMap_cons, List.length_append, E.len, dR E xs, List.length_cons, Nat.succ_mul, Nat.add_comm]
theorem m5 {α : Type} (E : El α) (xs : List α) : ∀ t ∈ xs.flatMap E.tys, t.one = true := by
 intro t ht
 simp only [List.mem_flatMap] at ht
 obtain ⟨x, _, hx⟩ := ht
 exact List.all_eq_true.1 (E.ones x) t hx
theorem mw {w : World} {M : bB} {l : List Ty} {vs : List Value} (h : cV w M l vs) (ho : ∀ t ∈ l, t.one = true) : ∀ v ∈ vs, v.oneCell' = true := by
 intro v hv
 obtain ⟨i, hi, rfl⟩ := List.getElem_of_mem hv
 have hl := cX h
 have hlt : i < l.length := by omega
 obtain ⟨u, hu, hd⟩ := dc h i l[i] (List.getElem?_eq_getElem hlt)
 rw [List.getElem?_eq_getElem hi] at hu
 injection hu with hu
 rw [hu]
 exact (l[i]).isOne (ho _ (List.getElem_mem hlt)) hd
section
variable {P : Program} {fr : Fr} {ops : Array Oper} {A : As} {rest : List Oper} {K : As → List (As × Fx) → Prop} {d : Nat} {t ty' : TypeId} {p : String} {e : Array Edge} [T : k8 P]
theorem wM {α : Type} {E : El α} {w : World} {M : bB} {st el tg : Nat} {ty : TypeId} {ti te : TI} {xs ys : List α} {v y : Value} (wf : Wf w M) (hT : T.e9[st]? = some ti) (hk : ti.k = .slice el) (hE : T.e9[el]? = some te) (hs : te.size = E.size) (hz : te.zero.length = te.size) (h0 : 0 < te.size)
    (hx : gx E el tg xs w M v) (hy : nK E ys w M y) (hlen : (xs.length + ys.length) * te.bytes ≤ 140737488355328) (hlen' : xs.length + ys.length ≤ 9223372036854775807) :
    ∃ v' w' M', (Builtin.append_ #[st, st] ty #[v, y]).run P w = .ok v' w' ∧ Wf w' M' ∧ Le (· ∈ ([] : List Nat)) (· ∈ [tg]) w M w' M' ∧ gx E el tg (xs ++ ys) w' M' v' := by
  obtain ⟨_, D, _, hD, hkd, _⟩ := dU hT
  rw [hk] at hkd
  cases D <;> simp only [TK.of, reduceCtorEq, TK.slice.injEq] at hkd
  subst hkd
  rename_i el
  obtain ⟨i, _, hi, _, _, hsz, hby, hze⟩ := dU hE
  obtain ⟨z, hiz, hzc⟩ : ∃ z, i.zero = some z ∧ z.cells.size = i.size := by
    cases hiz : i.zero with
    | none => rw [hiz] at hze; rw [← hze] at hz; simp at hz; omega
    | some z => rw [hiz] at hze; exact ⟨z, rfl, by simp at hze; rw [hsz, ← hz, ← hze]; simp⟩
  obtain ⟨cs, hown, hd, hM⟩ := hx
  obtain ⟨ad, c, rfl, hc1, hc2, hp⟩ := hy
  have hfin : ∀ v' w' (news : List Value), w'.ownsRow 0 el i.size v' (xs.length + ys.length) (cs ++ news) → w.grownBy w' v.ownBlock → (v'.ownBlock = v.ownBlock ∨ v'.ownBlock = some w.heap.size) → cV w M (ys.flatMap E.tys) news →
      ∃ M', Wf w' M' ∧ Le (· ∈ ([] : List Nat)) (· ∈ [tg]) w M w' M' ∧ gx E el tg (xs ++ ys) w' M' v' := by
    intro v' w' news h1 h2 h3 h4
    have hb : ∀ b, v'.ownBlock = some b → b < w'.heap.size := by
      intro b hb
      rcases h1.2 with ⟨rfl, _⟩ | ⟨g, cap, cur, rfl, _, hh, _⟩
      · simp [Value.ownBlock] at hb
      · simp [Value.ownBlock] at hb; subst hb; exact (Array.getElem?_eq_some_iff.1 hh).1
    have hle := BW (t := tg) (g := v'.ownBlock) h2.size h2.os h2.tape h2.output (fun b hb hlt => by
        rcases h3 with e | e
        · exact hM b (e ▸ hb)
        · rw [e] at hb; injection hb with hb; omega) (fun b hlt hne => h2.block b hlt (fun e => hne (hM b e.symm))) wf
    refine ⟨m4 M tg v'.ownBlock, BJ wf h2.size hb, hle, cs ++ news, by rw [List.length_append, ← hs, ← hsz]; exact h1, ?_, fun g hg => by simp [m4, hg]⟩
    rw [List.flatMap_append]
    exact kZ (cI hle (by rw [E.dM]; intro _ h; cases h) (by rw [E.cv]; intro _ h; cases h) hd) (cI hle (by rw [E.dM]; intro _ h; cases h) (by rw [E.cv]; intro _ h; cases h) h4)
  have hown' : w.ownsRow 0 el i.size v xs.length cs := by rw [hsz, hs]; exact hown
  by_cases hys : ys = []
  · subst hys
    cases ad with
    | none =>
      have hrun : (Builtin.append_ #[st, st] ty #[v, .slice none 0 c]).run P w = .ok v w := by
        rcases hown.2 with ⟨rfl, _⟩ | ⟨g, cap, cur, rfl, _, _, hnc, _⟩
        · simp [Builtin.append_, run_underlying hD, sizeOf, typeInfo, hi, Builtin.lenOf, Builtin.firstCells]
        · simp [Builtin.append_, run_underlying hD, sizeOf, typeInfo, hi, Builtin.lenOf, Builtin.firstCells, hnc, storeCells]
      obtain ⟨M', h1, h2, h3⟩ := hfin v w [] (by simpa using hown') (World.grownBy.refl w _) (.inl rfl) trivial
      exact ⟨v, w, M', hrun, h1, h2, h3⟩
    | some a =>
      obtain ⟨v', w', hrun, h2, h3, _, h5⟩ := run_append_own_at (P := P) w 0 st ty el i z i.size i.bytes hD hi hiz rfl rfl hzc (by omega) v xs.length cs hown' a 0 c [] (by simp) (by simp) (by simp) (by simp only [maxLen]; simp at hlen'; omega) (by rw [hby]; simpa using hlen) (Nat.zero_le _)
      obtain ⟨M', h1', h2', h3'⟩ := hfin v' w' [] h2 h3 h5 trivial
      exact ⟨v', w', M', hrun, h1', h2', h3'⟩
  · have hpos : 0 < ys.length := List.length_pos_iff.2 hys
    obtain ⟨b, off, rfl, hp'⟩ := hp hpos
    obtain ⟨news, hn1, hn2, hn3⟩ := pO hp' _ (Nat.le_refl _)
    rw [List.take_length] at hn2
    obtain ⟨v', w', hrun, h2, h3, _, h5⟩ := run_append_own_at (P := P) w 0 st ty el i z i.size i.bytes hD hi hiz rfl rfl hzc (by omega) v xs.length cs hown' ⟨b, off, none⟩ ys.length c news (by rw [hn1, dR, hsz, hs])
      (fun j u hj => by rw [Addr.add_lit]; exact hn3 j u hj) (mw hn2 (m5 E ys)) (by simp only [maxLen]; omega) (by rw [hby]; exact hlen) (Nat.zero_le _)
    obtain ⟨M', h1', h2', h3'⟩ := hfin v' w' news h2 h3 h5 hn2
    exact ⟨v', w', M', hrun, h1', h2', h3'⟩
theorem vf {α : Type} {E : El α} {x y : Operand} {st el tg : Nat} {ti te : TI} {xs ys : List α} (hx : (A.op fr x).Sub (.row E el tg xs)) (hy : A.op fr y = .sl E ys) (h1 : 1 ≤ tg) (hp : fr.pass.contains tg = false) (hT : T.e9[st]? = some ti) (hk : ti.k = .slice el) (hE : T.e9[el]? = some te) (hs : te.size = E.size) (hz : te.zero.length = te.size) (h0 : 0 < te.size)
 (hlen : (xs.length + ys.length) * te.bytes ≤ 140737488355328) (hlen' : xs.length + ys.length ≤ 9223372036854775807) :
 wo P fr ops ⟨some d, .call ⟨.builtin .append, #[x, y], #[st, st]⟩, t, p, e, none⟩ A { d := some d, ty := .row E el tg (xs ++ ys), K := [tg], rs := cR x ++ cR y } := by
 refine iB rfl rfl (by simp) (by simp) (by simp at hp ⊢; exact ⟨h1, hp⟩) fun a w M wf hr _ => ?_
 obtain ⟨hdx, hdy⟩ := op2 hr
 rw [hy] at hdy
 obtain ⟨v', w', M', hrun, h1', h2', h3'⟩ := wM (P := P) (ty := t) wf hT hk hE hs hz h0 (hx _ _ _ hdx) hdy hlen hlen'
 exact ⟨v', w', by simp [execOp, resolve, invoke, builtin, hrun], M', h1', h2', h3', by simp⟩
theorem fZ {α : Type} {E : El α} {x y : Operand} {st el tg : Nat} {ti te : TI} {xs ys : List α} (hx : A.op fr x = .row E el tg xs) (hy : A.op fr y = .sl E ys) (h1 : 1 ≤ tg) (hp : fr.pass.contains tg = false) (hT : T.e9[st]? = some ti) (hk : ti.k = .slice el) (hE : T.e9[el]? = some te) (hs : te.size = E.size) (hz : te.zero.length = te.size) (h0 : 0 < te.size)
 (hlen : (xs.length + ys.length) * te.bytes ≤ 140737488355328) (hlen' : xs.length + ys.length ≤ 9223372036854775807)
 (h : ak P fr ops rest (A.after { d := some d, ty := .row E el tg (xs ++ ys), K := [tg], rs := cR x ++ cR y }) fun A' l' => K A' ((A, { d := some d, ty := .row E el tg (xs ++ ys), K := [tg], rs := cR x ++ cR y }) :: l')) :
 ak P fr ops (⟨some d, .call ⟨.builtin .append, #[x, y], #[st, st]⟩, t, p, e, none⟩ :: rest) A K :=
 ⟨_, vf (hx ▸ Ty.aE _) hy h1 hp hT hk hE hs hz h0 hlen hlen', h⟩
theorem Iz {α : Type} {E : El α} {xs : List α} {w : World} {M : bB} {ad : Option Addr} {c lo hi : Nat} (hc : xs.length ≤ c) (hc2 : c ≤ maxLen) (hp : 0 < xs.length → ∃ b off, ad = some ⟨b, off, none⟩ ∧ mm w M b off (xs.flatMap E.tys)) (h1 : lo ≤ hi) (h2 : hi ≤ xs.length) :
 nK E ((xs.take hi).drop lo) w M (.slice (if c = lo then ad else ad.map (·.add (lo * E.size))) (hi - lo) (c - lo)) := by
 have hl : ((xs.take hi).drop lo).length = hi - lo := by rw [List.length_drop, List.length_take, Nat.min_eq_left h2]
 refine ⟨_, c - lo, by rw [hl], by rw [hl]; omega, Nat.le_trans (Nat.sub_le _ _) hc2, fun hpos => ?_⟩
 have hlt : lo < hi := by rw [hl] at hpos; omega
 obtain ⟨b, off, rfl, hp'⟩ := hp (by omega)
 refine ⟨b, off + lo * E.size, by rw [if_neg (by omega)]; exact congrArg some (Addr.add_lit _ _ _), ?_⟩
 have h3 := CX ((hi - lo) * E.size) (vR (lo * E.size) hp')
 have e : ((xs.take hi).drop lo).flatMap E.tys = ((xs.flatMap E.tys).drop (lo * E.size)).take ((hi - lo) * E.size) := by
  have e1 : xs.flatMap E.tys = (xs.take lo).flatMap E.tys ++ (((xs.take hi).drop lo).flatMap E.tys ++ (xs.drop hi).flatMap E.tys) := by
   rw [← List.flatMap_append, ← List.flatMap_append]
   congr 1
   have : xs.take lo = (xs.take hi).take lo := by rw [List.take_take, Nat.min_eq_left h1]
   rw [this, ← List.append_assoc, List.take_append_drop, List.take_append_drop]
  have L1 : ((xs.take lo).flatMap E.tys).length = lo * E.size := by rw [dR, List.length_take, Nat.min_eq_left (by omega)]
  have L2 : (((xs.take hi).drop lo).flatMap E.tys).length = (hi - lo) * E.size := by rw [dR, hl]
  rw [e1, List.drop_left' L1, List.take_left' L2]
 rw [e]; exact h3
end
end Go.T
namespace Go.T
open Go Go.RowKit
def jT {α : Type} (E : El α) (xs : List α) (w : World) (M : bB) (v : Value) : Prop := ∃ cs : Array Value, v = .agg cs ∧ cV w M (xs.flatMap E.tys) cs.toList
def Ty.arr {α : Type} (E : El α) (xs : List α) : Ty :=
  { den := jT E xs, mono := fun le _ _ ⟨cs, e, h⟩ => ⟨cs, e, cI le (by rw [E.dM]; intro _ h; cases h) (by rw [E.cv]; intro _ h; cases h) h⟩ }
section
variable {P : Program} {fr : Fr} {ops : Array Oper} {A : As} {rest : List Oper} {K : As → List (As × Fx) → Prop} {d : Nat} {t ty' : TypeId} {p : String} {e : Array Edge} [T : k8 P]
theorem Dd {α : Type} {E : El α} {w : World} {M : bB} {st el : Nat} {ti te : TI} {xs : List α} {v : Value} (hT : T.e9[st]? = some ti) (hk : ti.k = .slice el) (hE : T.e9[el]? = some te) (hs : te.size = E.size) (hx : nK E xs w M v)
 {lo hi : Nat} {ol oh : Option Value} (hlo : (ol = none ∧ lo = 0) ∨ ∃ k : IntKind, ol = some (.int k lo)) (hhi : (oh = none ∧ hi = xs.length) ∨ ∃ k : IntKind, oh = some (.int k hi)) (h1 : lo ≤ hi) (h2 : hi ≤ xs.length) :
 ∃ v', (Instr.sliceAt st v ol oh none).run P w = .ok v' w ∧ nK E ((xs.take hi).drop lo) w M v' := by
 obtain ⟨_, D, _, hD, hkd, _⟩ := dU hT
 rw [hk] at hkd
 cases D <;> simp only [TK.of, reduceCtorEq, TK.slice.injEq] at hkd
 subst hkd
 obtain ⟨ad, c, rfl, hc, hc2, hp⟩ := hx
 have hsz := fun w => dh (P := P) hE w
 refine ⟨_, ?_, Iz hc hc2 hp h1 h2⟩
 have hic : hi ≤ c := by omega
 rcases hlo with ⟨rfl, rfl⟩ | ⟨k, rfl⟩ <;> rcases hhi with ⟨rfl, rfl⟩ | ⟨k', rfl⟩ <;>
  simp [Instr.sliceAt, Instr.slice, run_underlying hD, Instr.sliceBounds, Instr.sliceBound, asIntOf, hsz, hs, hic, h1]
theorem G9 {α : Type} {E : El α} {x y : Operand} {k : IntKind} {el : Nat} {ti te : TI} {xs : List α} {hi : Nat} (hx : A.op fr x = .sl E xs) (hy : A.op fr y = .int k hi) (hT : T.e9[ty']? = some ti) (hk : ti.k = .slice el) (hE : T.e9[el]? = some te) (hs : te.size = E.size) (h2 : hi ≤ xs.length)
 (h : ak P fr ops rest (A.set d (.sl E (xs.take hi))) fun A' l' => K A' ((A, { d := some d, ty := .sl E (xs.take hi), rs := cR x ++ cR y }) :: l')) : ak P fr ops (⟨some d, .slice ty' x none (some y) none, t, p, e, none⟩ :: rest) A K :=
 bP (bW rfl rfl fun a w M _ hr _ => by
  obtain ⟨hdx, hdy⟩ := op2 hr
  rw [hx] at hdx; rw [hy] at hdy
  have ey : a.eval y = .int k hi := hdy
  obtain ⟨v', h3, h4⟩ := Dd (P := P) hT hk hE hs hdx (lo := 0) (hi := hi) (ol := none) (oh := some (.int k hi)) (.inl ⟨rfl, rfl⟩) (.inr ⟨k, rfl⟩) (Nat.zero_le _) h2
  exact ⟨v', by simp [execOp, ey, h3], (show nK E _ w M v' by simpa using h4)⟩) h
theorem G8 {α : Type} {E : El α} {x y : Operand} {k : IntKind} {el : Nat} {ti te : TI} {xs : List α} {lo : Nat} (hx : A.op fr x = .sl E xs) (hy : A.op fr y = .int k lo) (hT : T.e9[ty']? = some ti) (hk : ti.k = .slice el) (hE : T.e9[el]? = some te) (hs : te.size = E.size) (h2 : lo ≤ xs.length)
 (h : ak P fr ops rest (A.set d (.sl E (xs.drop lo))) fun A' l' => K A' ((A, { d := some d, ty := .sl E (xs.drop lo), rs := cR x ++ cR y }) :: l')) : ak P fr ops (⟨some d, .slice ty' x (some y) none none, t, p, e, none⟩ :: rest) A K :=
 bP (bW rfl rfl fun a w M _ hr _ => by
  obtain ⟨hdx, hdy⟩ := op2 hr
  rw [hx] at hdx; rw [hy] at hdy
  have ey : a.eval y = .int k lo := hdy
  obtain ⟨v', h3, h4⟩ := Dd (P := P) hT hk hE hs hdx (lo := lo) (hi := xs.length) (ol := some (.int k lo)) (oh := none) (.inr ⟨k, rfl⟩) (.inl ⟨rfl, rfl⟩) h2 (Nat.le_refl _)
  exact ⟨v', by simp [execOp, ey, h3], (show nK E _ w M v' by simpa using h4)⟩) h
inductive aY (A : As) (fr : Fr) : List (Nat × Operand) → List (Nat × List Ty) → Prop
  | nil : aY A fr [] []
  | one {i : Nat} {x : Operand} {ty : Ty} {l : List (Nat × Operand)} {r : List (Nat × List Ty)} (hx : A.op fr x = ty) (h1 : ty.one = true) (h : aY A fr l r) : aY A fr ((i, x) :: l) ((i, [ty]) :: r)
  | sub {i : Nat} {x : Operand} {ta : Ty} {tys : List Ty} {l : List (Nat × Operand)} {r : List (Nat × List Ty)} (hx : A.op fr x = ta) (hs : ∀ w M v, ta.den w M v → (Ty.agg tys).den w M v) (h : aY A fr l r) : aY A fr ((i, x) :: l) ((i, tys) :: r)
theorem aY.agg {A : As} {fr : Fr} {i : Nat} {x : Operand} {tys : List Ty} {l : List (Nat × Operand)} {r : List (Nat × List Ty)} (hx : A.op fr x = .agg tys) (h : aY A fr l r) : aY A fr ((i, x) :: l) ((i, tys) :: r) := .sub hx (fun _ _ _ h => h) h
theorem aY.arr {A : As} {fr : Fr} {i : Nat} {x : Operand} {α : Type} {E : El α} {xs : List α} {l : List (Nat × Operand)} {r : List (Nat × List Ty)} (hx : A.op fr x = .arr E xs) (h : aY A fr l r) : aY A fr ((i, x) :: l) ((i, xs.flatMap E.tys) :: r) := .sub hx (fun _ _ _ h => h) h
def splice (cells : List Ty) (off : Nat) (l : List Ty) : List Ty := cells.take off ++ (l ++ cells.drop (off + l.length))
def uK (place : Nat → Option (Nat × Nat)) (cells : List Ty) : List (Nat × List Ty) → Option (List Ty)
  | [] => some cells
  | (i, l) :: rest =>
    match place i with
    | none => none
    | some (off, size) => bif (Nat.beq l.length size && Nat.ble (off + l.length) cells.length) then uK place (splice cells off l) rest else none
theorem yt (cs : Array Value) (off : Nat) : ∀ (vs : List Value) (j : Nat), off + j + vs.length ≤ cs.size →
    ((vs.zipIdx j).foldl (fun cs (x : Value × Nat) => cs.setIfInBounds (off + x.2) x.1) cs).toList = cs.toList.take (off + j) ++ (vs ++ cs.toList.drop (off + j + vs.length)) := by
  intro vs
  induction vs generalizing cs with
  | nil => intro j _; simp
  | cons v vs ih =>
    intro j h
    simp only [List.zipIdx_cons, List.foldl_cons]
    rw [ih (cs.setIfInBounds (off + j) v) (j + 1) (by simp at h ⊢; omega)]
    have hlt : off + j < cs.toList.length := by simp at h ⊢; omega
    rw [Array.toList_setIfInBounds, ← Nat.add_assoc, List.take_succ_eq_append_getElem (by simpa using hlt), List.take_set_of_le (Nat.le_refl _), List.getElem_set_self, List.drop_set_of_lt (by omega)]
    simp [Nat.add_assoc, Nat.add_comm 1]
theorem tv {w : World} {M : bB} {cells l : List Ty} {cs : List Value} {vs : List Value} {off : Nat} (h : cV w M cells cs) (hv : cV w M l vs) : cV w M (splice cells off l) (cs.take off ++ (vs ++ cs.drop (off + vs.length))) := by
 rw [cX hv]
 exact eK (nI off h) (eK hv (lN _ h))
theorem sy {a : Act} {w : World} {M : bB} {rs : List Nat} (hr : ∀ c ∈ rs, c < fr.n → (A.slots c).den w M (a.tmps.getD c undef)) {place : Nat → Option (Nat × Nat)} {parts : List (Nat × Operand)} {ls : List (Nat × List Ty)} (hp : aY A fr parts ls) :
    ∀ {cells out : List Ty} {cs : Array Value}, (∀ x ∈ parts, ∀ c ∈ cR x.2, c ∈ rs) → cV w M cells cs.toList → uK place cells ls = some out →
      ∃ cs', Instr.fill place cs (parts.map fun x => (x.1, a.eval x.2)) = some cs' ∧ cV w M out cs'.toList := by
  induction hp with
  | nil => intro cells out cs _ h hf; simp only [uK, Option.some.injEq] at hf; subst hf; exact ⟨cs, rfl, h⟩
  | @one i x ty l r hx h1 _ ih =>
    intro cells out cs hrs h hf
    have hd := cY (x := x) (hrs _ List.mem_cons_self) hr
    rw [hx] at hd
    have hone := ty.isOne h1 hd
    have hcells : (a.eval x).cells = #[a.eval x] := by
      cases hv : a.eval x <;> first | rfl | (rw [hv] at hone; simp [Value.oneCell'] at hone)
    simp only [uK] at hf
    cases hpl : place i with
    | none => rw [hpl] at hf; cases hf
    | some os =>
      obtain ⟨off, size⟩ := os
      rw [hpl] at hf
      simp only [List.length_cons, List.length_nil, cond_eq_ite, Bool.and_eq_true, Nat.beq_eq_true_eq, Nat.ble_eq] at hf
      split at hf
      · rename_i hc
        have hlen := cX h
        have hs := tv (off := off) h (show cV w M [ty] [a.eval x] from ⟨hd, trivial⟩)
        have hfold := yt cs off [a.eval x] 0 (by simp at hlen ⊢; omega)
        obtain ⟨cs', h1', h2'⟩ := ih (cs := cs.setIfInBounds off (a.eval x)) (fun y hy => hrs y (List.mem_cons_of_mem _ hy)) (by rw [show (cs.setIfInBounds off (a.eval x)).toList = _ from hfold]; simpa using hs) hf
        refine ⟨cs', ?_, h2'⟩
        have hsz : 1 = size := by have := Nat.eq_of_beq_eq_true hc.1; simpa using this
        have hle : ¬ (off + 1 > cs.size) := by simp at hlen; omega
        simp only [List.map_cons, Instr.fill, hpl, hcells]
        simp [← hsz, hle, h1']
      · cases hf
  | @sub i x ta tys l r hx hsub _ ih =>
    intro cells out cs hrs h hf
    have hd := cY (x := x) (hrs _ List.mem_cons_self) hr
    rw [hx] at hd
    obtain ⟨vs, ev, hvs⟩ := hsub _ _ _ hd
    simp only [uK] at hf
    cases hpl : place i with
    | none => rw [hpl] at hf; cases hf
    | some os =>
      obtain ⟨off, size⟩ := os
      rw [hpl] at hf
      simp only [cond_eq_ite, Bool.and_eq_true, Nat.beq_eq_true_eq, Nat.ble_eq] at hf
      split at hf
      · rename_i hc
        have hlen := cX h
        have hlv := cX hvs
        have hs := tv (off := off) h hvs
        have hfold := yt cs off vs.toList 0 (by simp at hlen hlv ⊢; omega)
        obtain ⟨cs', h1', h2'⟩ := ih (cs := (vs.toList.zipIdx.foldl (fun cs (x : Value × Nat) => cs.setIfInBounds (off + x.2) x.1) cs)) (fun y hy => hrs y (List.mem_cons_of_mem _ hy)) (by rw [hfold]; simpa using hs) hf
        refine ⟨cs', ?_, h2'⟩
        have hsz : vs.size = size := by have := Nat.eq_of_beq_eq_true hc.1; simp at hlv; omega
        have hle : ¬ (off + vs.size > cs.size) := by simp at hlen hlv; omega
        simp only [List.map_cons, Instr.fill, hpl, ev]
        have hv2 : (Value.agg vs).cells = vs := rfl
        simp only [hv2]
        have hfold' : Array.foldl (fun cs (x : Value × Nat) => cs.setIfInBounds (off + x.2) x.1) cs vs.zipIdx = vs.toList.zipIdx.foldl (fun cs (x : Value × Nat) => cs.setIfInBounds (off + x.2) x.1) cs := by
          rw [← Array.foldl_toList, Array.toList_zipIdx]
        rw [← h1', ← hfold']
        simp [hsz]
        omega
      · cases hf
end
end Go.T
namespace Go.T
open Go Go.RowKit
def placesOf (e9 : List TI) (fs : List (Nat × Nat)) (i : Nat) : Option (Nat × Nat) :=
  match fs[i]? with
  | some (o, ft) => match e9[ft]? with
    | some tf => some (o, tf.size)
    | none => none
  | none => none
section
variable {P : Program} {fr : Fr} {ops : Array Oper} {A : As} {rest : List Oper} {K : As → List (As × Fx) → Prop} {d : Nat} {t ty' : TypeId} {p : String} {e : Array Edge} [T : k8 P]
def rm (f : Field) : Sem (Nat × Nat) := do pure (f.offset, ← sizeOf f.type)
theorem zx {f : Field} {tf : TI} (h : T.e9[f.type]? = some tf) (w : World) : (rm f).run P w = .ok (f.offset, tf.size) w := by simp [rm, dh h]
theorem oE {w : World} : ∀ (fs : List Field), (∀ f ∈ fs, ∃ tf, T.e9[f.type]? = some tf) →
    ∃ r, (fs.mapM rm).run P w = .ok r w ∧ ∀ i : Nat, r[i]? = placesOf T.e9 (fs.map fun f => (f.offset, f.type)) i
  | [], _ => ⟨[], by simp, fun i => by simp [placesOf]⟩
  | f :: fs, h => by
    obtain ⟨tf, htf⟩ := h f List.mem_cons_self
    obtain ⟨r, hr, hi⟩ := oE (w := w) fs fun g hg => h g (List.mem_cons_of_mem _ hg)
    refine ⟨(f.offset, tf.size) :: r, by simp [zx htf, hr], fun i => ?_⟩
    cases i with
    | zero => simp [placesOf, htf]
    | succ i => simpa [placesOf] using hi i
theorem dD {parts : Array (Nat × Operand)} {ti : TI} {fs : List (Nat × Nat)} {ls : List (Nat × List Ty)} {out : List Ty} (hT : T.e9[ty']? = some ti) (hk : ti.k = .struct fs) (hz : ti.zero ≠ []) (hfs : (fs.all fun f => (T.e9[f.2]?).isSome) = true) (hp : aY A fr parts.toList ls) (hf : uK (placesOf T.e9 fs) (ti.zero.map Ty.fM) ls = some out)
 (h : ak P fr ops rest (A.set d (.agg out)) fun A' l' => K A' ((A, { d := some d, ty := .agg out, rs := parts.toList.flatMap fun x => cR x.2 }) :: l')) : ak P fr ops (⟨some d, .build ty' parts, t, p, e, none⟩ :: rest) A K :=
 bP (bW rfl rfl fun a w M _ hr _ => by
  obtain ⟨z, hz1, hz2⟩ := oq hT hz w
  obtain ⟨i, D, _, hD, hkd, _⟩ := dU hT
  rw [hk] at hkd
  cases D <;> simp only [TK.of, reduceCtorEq, TK.struct.injEq] at hkd
  rename_i fields
  subst hkd
  obtain ⟨r, hr1, hr2⟩ := oE (P := P) (w := w) fields.toList fun f hf => by
   simp only [List.all_eq_true] at hfs
   have := hfs (f.offset, f.type) (List.mem_map.2 ⟨f, hf, rfl⟩)
   exact Option.isSome_iff_exists.1 this
  obtain ⟨cs', h1, h2⟩ := sy hr hp (place := placesOf T.e9 (fields.toList.map fun f => (f.offset, f.type))) (cs := z.cells) (fun x hx c hc => List.mem_flatMap.2 ⟨x, hx, hc⟩) (by rw [hz2]; exact l9 _ _ _) hf
  refine ⟨.agg cs', ?_, cs', rfl, h2⟩
  have hm0 : (fields.mapM rm).run P w = .ok r.toArray w := by
   rw [Array.mapM_eq_mapM_toList]
   simp [hr1]
  have hm : (fields.mapM (fun f => do pure (f.offset, ← sizeOf f.type) : Field → Sem (Nat × Nat))).run P w = .ok r.toArray w := hm0
  have hfun : (fun i : Nat => r.toArray[i]?) = placesOf T.e9 (fields.toList.map fun f => (f.offset, f.type)) := funext fun i => by simpa using hr2 i
  have hparts : (parts.map fun x => (x.1, a.eval x.2)).toList = parts.toList.map fun x => (x.1, a.eval x.2) := by simp
  simp only [execOp, Instr.build, Sem.run_bind, hz1, Result.andThen_ok, run_underlying hD]
  simp only [hm, Result.andThen_ok, hfun, hparts, h1]
  simp) h
theorem bt {α : Type} {E : El α} {xs : List α} {len el : Nat} {parts : Array (Nat × Operand)} {ti te : TI} {ls : List (Nat × List Ty)} (hT : T.e9[ty']? = some ti) (hk : ti.k = .slice el) (hE : T.e9[el]? = some te) (hs : te.size = E.size) (hz : te.zero.length = te.size) (h0 : 0 < te.size) (hle : len * te.size ≤ 16777216) (hp : aY A fr parts.toList ls)
 (hf : uK (fun i => some (i * te.size, te.size)) ((List.range (len * te.size)).map fun j => Ty.fM (te.zero.getD (j % te.size) undef)) ls = some (xs.flatMap E.tys)) (hx : xs.length = len)
 (h : ak P fr ops rest (A.set d (.sl E xs)) fun A' l' => K A' ((A, { d := some d, ty := .sl E xs, rs := parts.toList.flatMap fun x => cR x.2 }) :: l')) : ak P fr ops (⟨some d, .buildSlice ty' len parts, t, p, e, none⟩ :: rest) A K := by
 refine ⟨_, iB (f := { d := some d, ty := .sl E xs, rs := parts.toList.flatMap fun x => cR x.2 }) rfl rfl (by simp) (by simp) (by simp) fun a w M wf hr _ => ?_, h⟩
 obtain ⟨z, hz1, hz2⟩ := oq hE (by intro hn; rw [hn] at hz; simp at hz; omega) w
 obtain ⟨_, D, _, hD, hkd, _⟩ := dU hT
 rw [hk] at hkd
 cases D <;> simp only [TK.of, reduceCtorEq, TK.slice.injEq] at hkd
 rename_i el0
 have hel : el0 = el := hkd
 subst hel
 have hzs : z.cells.size = te.size := by rw [← hz, ← hz2]; simp
 let zs : Array Value := if len * te.size = 0 then #[] else z.cells
 have hcells : cV w M ((List.range (len * te.size)).map fun j => Ty.fM (te.zero.getD (j % te.size) undef)) ((Array.range (len * te.size)).map (zs[· % zs.size]!)).toList := by
  refine iG (by simp) fun i u hi => ?_
  rw [List.getElem?_map] at hi
  simp only [Option.map_eq_some_iff] at hi
  obtain ⟨j, hj, rfl⟩ := hi
  have hlt : i < len * te.size := by have := (List.getElem?_eq_some_iff.1 hj).1; simpa using this
  rw [List.getElem?_range hlt] at hj
  injection hj with hj
  subst hj
  have hne : ¬ len * te.size = 0 := by omega
  refine ⟨te.zero.getD (i % te.size) undef, ?_, nE _ _ _⟩
  have hm : i % te.size < z.cells.size := by rw [hzs]; exact Nat.mod_lt _ h0
  have e1 : zs[i % zs.size]! = te.zero.getD (i % te.size) undef := by
   simp only [zs, if_neg hne, hzs]
   rw [getElem!_pos z.cells _ hm, ← hz2, List.getD_eq_getElem?_getD, List.getElem?_eq_getElem (by simpa using hm)]
   simp
  simp [List.getElem?_range hlt, e1]
 obtain ⟨cs', h1, h2⟩ := sy hr hp (place := fun i => some (i * te.size, te.size)) (cs := (Array.range (len * te.size)).map (zs[· % zs.size]!)) (fun x hx c hc => List.mem_flatMap.2 ⟨x, hx, hc⟩) hcells hf
 have hparts : (parts.map fun x => (x.1, a.eval x.2)).toList = parts.toList.map fun x => (x.1, a.eval x.2) := by simp
 obtain ⟨h3, h4, _⟩ := va wf (.cells cs' el0)
 refine ⟨.slice (some ⟨w.heap.size, 0, none⟩) len len, w.alloc (.cells cs' el0), ?_, M, h3, h4, ⟨some ⟨w.heap.size, 0, none⟩, len, by rw [hx], by omega, ?_, fun _ => ⟨_, 0, rfl, ?_⟩⟩, by simp⟩
 ·have hbig : ¬ (len * te.size > 2 ^ 24) := by omega
  have hbig' : ¬ (2 ^ 24 < len * te.size) := by omega
  simp only [execOp, Instr.buildSlice, Sem.run_bind, run_underlying hD, Result.andThen_ok, dh hE]
  simp only [hbig', gt_iff_lt, if_false]
  by_cases hn : len * te.size = 0
  ·have : zs = #[] := if_pos hn
   rw [this] at h1
   simp only [hn, if_true, Sem.run_pure, Sem.run_bind, Result.andThen_ok]
   rw [hn] at h1
   simp only [hparts, h1]
   simp [newRow, newObj, Sem.run]
  have : zs = z.cells := if_neg hn
  rw [this] at h1
  simp only [if_neg hn, Sem.run_pure, Sem.run_bind, Result.andThen_ok, hz1]
  simp only [hparts, h1]
  simp [newRow, newObj, Sem.run]
 ·have : len ≤ len * te.size := Nat.le_mul_of_pos_right _ h0
  simp only [maxLen]; omega
 have := uk (T := el0) (cs := cs'.toList) wf h2
 simpa using this
def Ty.Plain (t : Ty) : Prop := ∀ w M w' M' v, t.den w M v → t.den w' M' v
theorem dA (k : IntKind) (n : Int) : (Ty.int k n).Plain := fun _ _ _ _ _ h => h
theorem wE : ∀ {l : List Ty}, (∀ t ∈ l, t.Plain) → ∀ {w M w' M' vs}, cV w M l vs → cV w' M' l vs
  | [], _, _, _, _, _, [], _ => trivial
  | _ :: _, h, _, _, _, _, _ :: _, ⟨h1, h2⟩ => ⟨h _ List.mem_cons_self _ _ _ _ _ h1, wE (fun t ht => h t (List.mem_cons_of_mem _ ht)) h2⟩
theorem pq {l : List Ty} (h : ∀ t ∈ l, t.Plain) : (Ty.kH l).Plain := fun _ _ _ _ _ ⟨cs, e, hd⟩ => ⟨cs, e, wE h hd⟩
theorem p9 : ∀ t ∈ ([] : List Ty), t.Plain := by intro _ h; cases h
theorem n7 {t : Ty} {l : List Ty} (h : t.Plain) (h' : ∀ t ∈ l, t.Plain) : ∀ u ∈ t :: l, u.Plain := by
 intro u hu
 rcases List.mem_cons.1 hu with rfl | hu
 ·exact h
 exact h' u hu
def qF (M : bB) (L : List Nat) : bB := fun b => match M b with | none => none | some t => if t ∈ L then none else some 0
def I6 (L : List Nat) (s t : Ty) : Prop := ∀ w M v, Wf w M → s.den w M v → t.den w (qF M L) v
theorem jg {M : bB} {L : List Nat} {b : Nat} (h : M b = none) : qF M L b = none := by simp [qF, h]
theorem y6 {M : bB} {L : List Nat} {b t : Nat} (h : M b = some t) (ht : t ∈ L) : qF M L b = none := by simp [qF, h, ht]
theorem sj {M : bB} {L : List Nat} (b t : Nat) (h : qF M L b = some t) : t = 0 := by
 unfold qF at h
 split at h
 ·cases h
 split at h
 ·cases h
 injection h with h; exact h.symm
theorem Et {M : bB} {L : List Nat} {b t : Nat} (h : qF M L b = some t) : ∃ u, M b = some u := by
 unfold qF at h
 split at h
 ·cases h
 rename_i u hu; exact ⟨u, hu⟩
theorem J2 {w : World} {M : bB} {L : List Nat} (wf : Wf w M) : Wf w (qF M L) :=
 ⟨fun b t h => let ⟨u, hu⟩ := Et h; wf.lt b u hu, fun b b' t _ h _ => by have := sj _ _ h; omega⟩
theorem bI {L : List Nat} {t : Ty} (h1 : t.deps = []) (h2 : t.cdeps = []) : I6 L t t := fun w M v _ h =>
 t.mono (S := fun _ => True) (K := fun _ => True) ⟨Nat.le_refl _, rfl, rfl, rfl, fun b _ hm => ⟨jg hm, rfl⟩, fun b t _ h => absurd trivial h⟩ (by rw [h1]; intro _ h; cases h) (by rw [h2]; intro _ h; cases h) h
theorem vZ {α : Type} {E : El α} {T tg : Nat} {xs : List α} {w : World} {M M' : bB} {v : Value} (wf : Wf w M) (h : gx E T tg xs w M v) (hM : ∀ b, M b = some tg → M' b = none) (hle : ∀ b, M b = none → M' b = none) : nK E xs w M' v := by
 obtain ⟨cs, h1, h2, h3⟩ := h
 rcases h1.2 with ⟨rfl, h0⟩ | ⟨g, cap, cur, rfl, _, hh, hn, hcap, hcs, htk⟩
 ·exact ⟨none, 0, by rw [h0], by omega, by simp [maxLen], fun h => absurd h (by omega)⟩
 have hg : M g = some tg := h3 g rfl
 refine ⟨some ⟨g, 0, none⟩, cap, rfl, hn, hcap, fun _ => ⟨g, 0, rfl, hM g hg, wf.lt g _ hg, fun i t hi => ?_⟩⟩
 have h2' := cI (S := fun _ => True) (K := fun _ => True) (w' := w) (M' := M') ⟨Nat.le_refl _, rfl, rfl, rfl, fun b _ hm => ⟨hle b hm, rfl⟩, fun b t _ h => absurd trivial h⟩ (by rw [E.dM]; intro _ h; cases h) (by rw [E.cv]; intro _ h; cases h) h2
 obtain ⟨u, hu, hd⟩ := dc h2' i t hi
 refine ⟨u, ?_, hd⟩
 rw [← htk, List.getElem?_take] at hu
 split at hu
 ·simpa [World.cell?, hh] using hu
 cases hu
theorem fI {L : List Nat} {α : Type} {E : El α} {T tg : Nat} {xs : List α} (h : L.contains tg = true) : I6 L (Ty.row E T tg xs) (Ty.sl E xs) := fun w M v wf hr =>
 vZ wf hr (fun b hb => y6 hb (by simpa using h)) (fun b hb => jg hb)
theorem o7 {L : List Nat} {α : Type} {E : El α} : I6 L (Ty.ex (.slice none 0 0)) (Ty.sl E []) := fun w M v _ h => Ty.v9 _ _ _ h
theorem Co {L : List Nat} {w w' : World} {M M' : bB} {res : Ty} {r : Value} (wf : Wf w M) (le : Le (fun t => 1 ≤ t) (fun t => 1 ≤ t) w (qF M L) w' M') (hp : res.Plain) (hr : res.den w' M' r) :
    Wf w' (lZ w M) ∧ Le (· ∈ ([] : List Nat)) (· ∈ ([] : List Nat)) w M w' (lZ w M) ∧ res.den w' (lZ w M) r := by
  have hold : ∀ b, b < w.heap.size → w'.heap[b]? = w.heap[b]? := fun b hb => by
    cases hm : qF M L b with
    | none => exact (le.qG b hb hm).2
    | some t =>
      have := sj _ _ hm
      subst this
      exact (le.own b 0 hm (by omega)).2 (by omega)
  refine ⟨⟨fun b t h => ?_, fun b b' t ht1 h h' => ?_⟩, ⟨le.size, le.os, le.tape, le.out, fun b hb hm => ⟨?_, hold b hb⟩, fun b t hm _ => ⟨?_, fun _ => hold b (wf.lt b t hm)⟩⟩, hp _ _ _ _ _ hr⟩
  · unfold lZ at h
    split at h
    · exact Nat.lt_of_lt_of_le ‹_› le.size
    · cases h
  · unfold lZ at h h'
    split at h <;> split at h' <;> first | exact wf.inj b b' t ht1 h h' | cases h | cases h'
  · simp [lZ, hm]
  · simp [lZ, wf.lt b t hm, hm]
end
end Go.T
namespace Go.T
open Go Go.RowKit
def pF (M : bB) : bB := fun b => match M b with | some 0 => some 0 | _ => none
def gl (s t : Ty) : Prop := ∀ w M v, Wf w M → s.den w M v → t.den w (pF M) v
theorem tU {M : bB} {b : Nat} (h : M b = none) : pF M b = none := by simp [pF, h]
theorem FG {M : bB} {b t : Nat} (h : M b = some (t + 1)) : pF M b = none := by simp [pF, h]
theorem E7 {M : bB} {b : Nat} (h : M b = some 0) : pF M b = some 0 := by simp [pF, h]
theorem yj {M : bB} {b t : Nat} (h : pF M b = some t) : t = 0 ∧ M b = some 0 := by
 unfold pF at h
 split at h
 ·rename_i h'; injection h with h; exact ⟨h.symm, h'⟩
 cases h
theorem rQ {w : World} {M : bB} (wf : Wf w M) : Wf w (pF M) :=
 ⟨fun b t h => wf.lt b 0 (yj h).2, fun b b' t _ h _ => by have := (yj h).1; omega⟩
theorem cQ {t : Ty} (h1 : t.deps = []) (h2 : t.cdeps = []) : gl t t := fun w M v _ h =>
 t.mono (S := fun _ => True) (K := fun _ => True) ⟨Nat.le_refl _, rfl, rfl, rfl, fun b _ hm => ⟨tU hm, rfl⟩, fun b t _ h => absurd trivial h⟩ (by rw [h1]; intro _ h; cases h) (by rw [h2]; intro _ h; cases h) h
theorem bH {s t : Ty} (h1 : t.deps = []) (h2 : t.cdeps = []) (h : s = t) : gl s t := by subst h; exact cQ h1 h2
theorem zb {α : Type} {E : El α} {T tg : Nat} {xs : List α} (h : 1 ≤ tg) : gl (Ty.row E T tg xs) (Ty.sl E xs) := fun w M v wf hr =>
 vZ wf hr (fun b hb => by obtain ⟨u, rfl⟩ : ∃ u, tg = u + 1 := ⟨tg - 1, by omega⟩; exact FG hb) (fun b hb => tU hb)
theorem wI {α : Type} {E : El α} {T tg : Nat} {xs ys : List α} (h : 1 ≤ tg) (e : xs = ys) : gl (Ty.row E T tg xs) (Ty.sl E ys) := e ▸ zb h
theorem uy {α : Type} {E : El α} : gl (Ty.ex (.slice none 0 0)) (Ty.sl E []) := fun _ _ _ _ h => Ty.v9 _ _ _ h
def pP : List Ty → List Ty → Prop
  | [], [] => True
  | s :: ss, t :: ts => gl s t ∧ pP ss ts
  | _, _ => False
theorem rO : pP [] [] := trivial
theorem jf {s t : Ty} {ss ts : List Ty} (h : gl s t) (h' : pP ss ts) : pP (s :: ss) (t :: ts) := ⟨h, h'⟩
theorem yS {w : World} {M : bB} (wf : Wf w M) : ∀ {ss ts : List Ty} {vs : List Value}, pP ss ts → cV w M ss vs → cV w (pF M) ts vs
  | [], [], [], _, _ => trivial
  | _ :: _, _ :: _, _ :: _, ⟨h, h'⟩, ⟨h1, h2⟩ => ⟨h _ _ _ wf h1, yS wf h' h2⟩
theorem vE {ss ts : List Ty} (h : pP ss ts) : gl (Ty.agg ss) (Ty.agg ts) := fun _ _ _ wf ⟨cs, e, hd⟩ => ⟨cs, e, yS wf h hd⟩
theorem oZ {fr : Fr} {w : World} {M : bB} (hk : ∀ t, fr.kd.HM t → 1 ≤ t) (hb : fr.base w M) : Le (fun t => 1 ≤ t) (fun t => 1 ≤ t) fr.w0 fr.M0 w (pF M) :=
 ⟨hb.size, hb.os, hb.tape, hb.out, fun b hlt hm => ⟨tU (hb.qG b hlt hm).1, (hb.qG b hlt hm).2⟩, fun b t hm ht => by
  have : t = 0 := by omega
  subst this
  obtain ⟨h1, h2⟩ := hb.own b 0 hm (by omega)
  exact ⟨E7 h1, fun _ => h2 (fun h => by have := hk 0 h; omega)⟩⟩
section
variable {P : Program} {fr : Fr} {A : As} {Q : Exit → Act → World → Prop} {c : Code} {fn : Func} {n : Nat} {w0 : World} {M0 : bB}
theorem bz {tm : Nat} {res : Ty} (hr : fn.results = #[.tmp tm]) (ht : Nat.blt tm n = true) (hs : gl (A.slots tm) res) : dm ⟨n, w0, M0, [], .plain⟩ A (bodyPost P fn (mK w0 M0 res) .ret) := by
 intro a w ⟨M, ok, hsl, _⟩
 exact ⟨ok.gP (by simp), _, results_tmp hr _ _ _, _, pF M, rfl, rQ ok.wf, oZ (fr := ⟨n, w0, M0, [], .plain⟩) (fun _ h => h) ok.base, hs _ _ _ ok.wf (hsl tm (by simpa using ht))⟩
theorem fq {t1 t2 : Nat} {r1 r2 : Ty} (hr : fn.results = #[.tmp t1, .tmp t2]) (h1 : Nat.blt t1 n = true) (h2 : Nat.blt t2 n = true) (hs1 : gl (A.slots t1) r1) (hs2 : gl (A.slots t2) r2) :
 dm ⟨n, w0, M0, [], .plain⟩ A (bodyPost P fn (mK w0 M0 (Ty.kH [r1, r2])) .ret) := by
 intro a w ⟨M, ok, hsl, _⟩
 exact ⟨ok.gP (by simp), _, results_tmp2 hr _ _ _, _, pF M, rfl, rQ ok.wf, oZ (fr := ⟨n, w0, M0, [], .plain⟩) (fun _ h => h) ok.base, _, rfl, hs1 _ _ _ ok.wf (hsl t1 (by simpa using h1)), hs2 _ _ _ ok.wf (hsl t2 (by simpa using h2)), trivial⟩
theorem j7 {F : Prop} {s : Nat} {ty : Ty} (hs : Nat.blt s fr.n = true) (hx : A.slots s = ty) (hf : ∀ w M v, ty.den w M v → F) (h : F → fV P fr c A Q) : fV P fr c A Q := fun a w ha => by
 obtain ⟨M, ok, hsl, ht⟩ := ha
 have := hsl s (by simpa using hs)
 rw [hx] at this
 exact h (hf _ _ _ this) a w ⟨M, ok, hsl, ht⟩
theorem j6 {α : Type} {E : El α} {xs : List α} (w : World) (M : bB) (v : Value) (h : (Ty.sl E xs).den w M v) : xs.length ≤ 9223372036854775807 := by
 obtain ⟨A, c, _, h1, h2, _⟩ := h
 simp only [maxLen] at h2; omega
theorem vD {α : Type} {E : El α} {T tg : Nat} {xs : List α} (w : World) (M : bB) (v : Value) (h : (Ty.row E T tg xs).den w M v) : xs.length ≤ 9223372036854775807 := by
 obtain ⟨cs, h1, _⟩ := h
 rcases h1.2 with ⟨_, h0⟩ | ⟨g, cap, cur, _, _, _, hn, hcap, _⟩
 ·omega
 simp only [maxLen] at hcap; omega
theorem iF {s : Nat} {ty ty' : Ty} (hx : A.slots s = ty) (h : ty.Sub ty') (h' : fV P fr c (A.set s ty') Q) : fV P fr c A Q := fun a w ⟨M, ok, hsl, ht⟩ =>
  h' a w ⟨M, ok, fun i hi => by
    show ((A.set s ty').slots i).den w M _
    simp only [As.set]
    cases hb : Nat.beq i s with
    | false => exact hsl i hi
    | true =>
      have : i = s := Nat.eq_of_beq_eq_true hb
      subst this
      exact h _ _ _ (hx ▸ hsl i hi), ht⟩
end
def gu {α : Type} (E : El α) (T : Nat) (xs : List α) (w : World) (M : bB) (t : Nat) : Prop :=
  xs = [] ∨ ∃ b cs, M b = some t ∧ w.heap[b]? = some (.cells cs T (0, 0)) ∧ cV w M (xs.flatMap E.tys) (cs.toList.take (xs.flatMap E.tys).length)
theorem zQ {α : Type} {E : El α} {T : Nat} {xs : List α} {w : World} {M : bB} {t : Nat} (h : eI T (xs.flatMap E.tys) w M t) : gu E T xs w M t := by
 obtain ⟨b, cs, h1, h2, h3⟩ := h
 exact .inr ⟨b, cs, h1, h2, by rw [← cX h3, List.take_length]; exact h3⟩
def Cont.vec {α : Type} (E : El α) (T : Nat) (xs : List α) : Cont :=
  { den := gu E T xs, mono := fun le _ _ hs hk h => h.imp id fun ⟨b, cs, h1, h2, h3⟩ => let ⟨h4, h5⟩ := le.own b _ h1 hk
    ⟨b, cs, h4, (h5 hs).trans h2, cI le (by rw [E.dM]; intro _ h; cases h) (by rw [E.cv]; intro _ h; cases h) h3⟩ }
theorem Cont.dn {α : Type} {E : El α} {T : Nat} {xs ys : List α} (h : xs = ys) : (Cont.vec E T xs).Sub (Cont.vec E T ys) := h ▸ Cont.aE _
theorem Cont.mz {T : Nat} {l l' : List Ty} (h : l = l') : (Cont.cells T l).Sub (Cont.cells T l') := h ▸ Cont.aE _
def qj (tg n : Nat) (_ : World) (M : bB) (x : Value) : Prop := (n = 0 ∧ x = .slice none 0 0) ∨ ∃ b c, M b = some tg ∧ x = .slice (some ⟨b, 0, none⟩) n c ∧ n ≤ c ∧ c ≤ maxLen
def Ty.vs (tg n : Nat) : Ty := ⟨qj tg n, [tg], [], fun le hk _ h => h.imp id fun ⟨b, c, h, e, h1, h2⟩ => ⟨b, c, (le.own b tg h (hk tg (by simp))).1, e, h1, h2⟩, true, fun _ h => by
  rcases h with ⟨_, rfl⟩ | ⟨_, _, _, rfl, _⟩ <;> rfl⟩
section
variable {P : Program} {fr : Fr} {ops : Array Oper} {A : As} {rest : List Oper} {K : As → List (As × Fx) → Prop} {d : Nat} {t ty' : TypeId} {p : String} {e : Array Edge} [T : k8 P]
theorem Bl {α : Type} {E : El α} {xs : List α} {ti : TI} (hT : T.e9[ty']? = some ti) (hz : ti.zero ≠ []) (hzx : ti.zero.map Ty.fM = xs.flatMap E.tys) (hp : fr.pass.contains (d + 1) = false)
 (h : ak P fr ops rest (A.after { d := some d, ty := .ptr (d + 1) 0, K := [d + 1], sets := [(d + 1, .vec E ty' xs)] }) fun A' l' => K A' ((A, { d := some d, ty := .ptr (d + 1) 0, K := [d + 1], sets := [(d + 1, .vec E ty' xs)] }) :: l')) :
 ak P fr ops (⟨some d, .alloc ty', t, p, e, none⟩ :: rest) A K := by
 refine ⟨_, iB rfl rfl (by simp) (by simp) (by simp at hp ⊢; exact hp) fun a w M wf _ _ => ?_, h⟩
 obtain ⟨z, hz1, hz2⟩ := oq hT hz w
 obtain ⟨h1, h2, h3⟩ := lV wf (.cells z.cells ty') (d + 1)
 refine ⟨.pointer (some ⟨w.heap.size, 0, none⟩), w.alloc (.cells z.cells ty'), ?_, _, h1, h2, ⟨_, h3, rfl⟩, ?_⟩
 ·simp [execOp, Instr.alloc, newVar, newRow, newObj, Sem.run, hz1]
 intro x hx
 simp only [List.mem_singleton] at hx
 subst hx
 exact zQ ⟨w.heap.size, z.cells, h3, iY _ _, by rw [hz2, ← hzx]; exact l9 _ _ _⟩
theorem zL {α : Type} {E : El α} {x0 : α} {x y : Operand} {k k' : IntKind} {n : Int} {el : Nat} {ti te : TI} (hx : A.op fr x = .int k n) (hy : A.op fr y = .int k' n) (hT : T.e9[ty']? = some ti) (hk : ti.k = .slice el) (hE : T.e9[el]? = some te) (hs : te.size = E.size) (hz : te.zero.map Ty.fM = E.tys x0) (hzp : 0 < te.size) (hp : fr.pass.contains (d + 1) = false)
    (hn : 0 ≤ n) (hlen : (te.bytes : Int) * n ≤ 281474976710656) (hlen' : n ≤ 9223372036854775807)
    (h : ak P fr ops rest (A.after { d := some d, ty := .vs (d + 1) n.toNat, K := [d + 1], sets := [(d + 1, .vec E el (List.replicate n.toNat x0))], rs := cR x ++ cR y }) fun A' l' => K A' ((A, { d := some d, ty := .vs (d + 1) n.toNat, K := [d + 1], sets := [(d + 1, .vec E el (List.replicate n.toNat x0))], rs := cR x ++ cR y }) :: l')) :
    ak P fr ops (⟨some d, .makeSlice ty' x y, t, p, e, none⟩ :: rest) A K := by
  refine ⟨_, iB rfl rfl (by simp) (by simp) (by simp at hp ⊢; exact hp) fun a w M wf hr _ => ?_, h⟩
  obtain ⟨hdx, hdy⟩ := op2 hr
  rw [hx] at hdx; rw [hy] at hdy
  have ex : a.eval x = .int k n := hdx
  have ey : a.eval y = .int k' n := hdy
  obtain ⟨_, D, _, hD, hkd, _⟩ := dU hT
  rw [hk] at hkd
  cases D <;> simp only [TK.of, reduceCtorEq, TK.slice.injEq] at hkd
  rename_i el0
  have hel : el0 = el := hkd
  subst hel
  obtain ⟨i, _, hi, _, _, hsz, hby, hze⟩ := dU hE
  have hzl : te.zero.length = te.size := by rw [← List.length_map (f := Ty.fM), hz, E.len, hs]
  obtain ⟨z, hiz⟩ : ∃ z, i.zero = some z := by
    cases hiz : i.zero with
    | none => rw [hiz] at hze; rw [← hze] at hzl; simp at hzl; omega
    | some z => exact ⟨z, rfl⟩
  rw [hiz] at hze
  have hrun := run_make (P := P) w ty' _ i z hD hi hiz k k' n n hn (Int.le_refl _) (by rw [hby]; exact hlen) hlen'
  obtain ⟨h1, h2, h3⟩ := lV wf (.cells (madeCells z.cells (n.toNat * i.size)) el0) (d + 1)
  refine ⟨_, _, by simp [execOp, ex, ey, hrun], _, h1, h2, .inr ⟨_, _, h3, rfl, Nat.le_refl _, by simp only [maxLen]; omega⟩, ?_⟩
  intro x hx
  simp only [List.mem_singleton] at hx
  subst hx
  refine zQ ⟨w.heap.size, _, h3, iY _ _, ?_⟩
  have hzs : z.cells.size = te.size := by rw [← hzl, ← hze]; simp
  refine iG (by rw [dR]; simp [madeCells, hsz, hs]) fun j ty hj => ?_
  have hjl : j < n.toNat * te.size := by
    have := (List.getElem?_eq_some_iff.1 hj).1
    rw [dR, List.length_replicate, ← hs] at this; exact this
  have hq : j / te.size < n.toNat := Nat.div_lt_of_lt_mul (by rw [Nat.mul_comm]; exact hjl)
  have hm : j % te.size < te.size := Nat.mod_lt _ hzp
  have hget := rU E (List.replicate n.toNat x0) (j / te.size) (j % te.size) (by simpa using hq) (by rw [← hs]; exact hm)
  have hdecomp : j / te.size * E.size + j % te.size = j := by rw [← hs, Nat.mul_comm]; exact Nat.div_add_mod j te.size
  rw [hdecomp, hj] at hget
  simp only [List.getElem?_replicate, hq, if_true, Option.bind_some] at hget
  rw [← hz, List.getElem?_map] at hget
  obtain ⟨u, hu, hty⟩ := Option.map_eq_some_iff.1 hget.symm
  refine ⟨u, ?_, hty ▸ nE _ _ _⟩
  have hu' : z.cells[j % z.cells.size]? = some u := by rw [hzs]; rw [← hze] at hu; simpa using hu
  simp only [madeCells, Array.toList_map, List.getElem?_map, Array.toList_range, hsz]
  rw [List.getElem?_range hjl]
  simp only [Option.map_some]
  rw [getElem!_def, hu']
theorem gC {x y : Operand} {tg n : Nat} {k : IntKind} {i : Int} {ti te : TI} {el : Nat} (hx : A.op fr x = .vs tg n) (hy : A.op fr y = .int k i) (hT : T.e9[ty']? = some ti) (hk : ti.k = .slice el) (hE : T.e9[el]? = some te) (h0 : 0 ≤ i) (h1 : i.toNat < n)
 (h : ak P fr ops rest (A.set d (.ptr tg (i.toNat * te.size))) fun A' l' => K A' ((A, { d := some d, ty := .ptr tg (i.toNat * te.size), rs := cR x ++ cR y }) :: l')) : ak P fr ops (⟨some d, .indexAddr ty' x y, t, p, e, none⟩ :: rest) A K :=
 bP (bW rfl rfl fun a w M _ hr _ => by
  obtain ⟨hdx, hdy⟩ := op2 hr
  rw [hx] at hdx; rw [hy] at hdy
  rcases hdx with ⟨h0, _⟩ | ⟨b, c, hb, ex, _⟩
  ·omega
  have ey : a.eval y = .int k i := hdy
  refine ⟨_, by simp only [execOp, ex, ey, Sem.run_bind, jG hT hk hE h0 h1]; rfl, b, hb, ?_⟩
  simp) h
theorem eJ {x y : Operand} {tg n : Nat} {k : IntKind} {i : Nat} {ti te : TI} {el : Nat} (hx : A.op fr x = .vs tg n) (hy : A.op fr y = .int k i) (hT : T.e9[ty']? = some ti) (hk : ti.k = .slice el) (hE : T.e9[el]? = some te) (h1 : i < n)
 (h : ak P fr ops rest (A.set d (.ptr tg (i * te.size))) fun A' l' => K A' ((A, { d := some d, ty := .ptr tg (i * te.size), rs := cR x ++ cR y }) :: l')) : ak P fr ops (⟨some d, .indexAddr ty' x y, t, p, e, none⟩ :: rest) A K :=
 gC hx hy hT hk hE (Int.natCast_nonneg _) h1 h
theorem sA {α : Type} {E : El α} {Tb : Nat} {xs : List α} {tg : Nat} (h : A.tag tg = some (.vec E Tb xs)) : ∀ w M, (∀ x ∈ A.tags, x.1 ∈ [tg] → x.2.den w M x.1) → gu E Tb xs w M tg := fun _ _ ht => ht _ (dB h) (by simp)
theorem oX {α : Type} {E : El α} {Tb b tg off : Nat} {xs : List α} {w : World} {M : bB} {ty : Ty} (wf : Wf w M) (h1 : gI tg) (hb : M b = some tg) (h : gu E Tb xs w M tg) (hl : (xs.flatMap E.tys)[off]? = some ty) : ∃ v, w.cell? ⟨b, off, none⟩ = some v ∧ ty.den w M v := by
 rcases h with rfl | ⟨b', cs, hb', hh, hd⟩
 ·simp at hl
 obtain ⟨u, rfl⟩ : ∃ u, tg = u + 1 := ⟨tg - 1, by omega⟩
 have := wf.inj b b' u (by omega) hb hb'
 subst this
 obtain ⟨v, hv, hdv⟩ := dc hd off ty hl
 rw [List.getElem?_take] at hv
 split at hv
 ·exact ⟨v, by simpa [World.cell?, hh] using hv, hdv⟩
 cases hv
theorem wk {α : Type} [Inhabited α] {E : El α} {xs : List α} {x : Operand} {tg i o Tb : Nat} {ti : TI} {ty : Ty} (hx : A.op fr x = .ptr tg (i * E.size + o)) (hc : A.tag tg = some (.vec E Tb xs)) (h1 : gI tg) (hT : T.e9[ty']? = some ti) (ha : ti.k.agg = false) (hi : i < xs.length) (hl : (E.tys (nth xs i))[o]? = some ty)
 (h : ak P fr ops rest (A.set d ty) fun A' l => K A' ((A, { d := some d, ty := ty, rs := cR x, rt := [tg] }) :: l)) : ak P fr ops (⟨some d, .load ty' x, t, p, e, none⟩ :: rest) A K :=
 bP (bW rfl rfl fun a w M wf hr ht => by
  have := cY (x := x) (fun _ h => h) hr
  rw [hx] at this
  obtain ⟨b, hb, e⟩ := this
  obtain ⟨v, hv, hd⟩ := oX wf h1 hb (sA hc w M ht) (lQ E xs hi o ty hl)
  exact ⟨v, by simp [execOp, e, lJ hT ha hv], hd⟩) h
theorem Ae {α : Type} [Inhabited α] (E : El α) {y : α} {o : Nat} {ty : Ty} : ∀ (xs : List α) (i : Nat), i < xs.length → (E.tys (nth xs i)).set o ty = E.tys y → o < E.size → (xs.flatMap E.tys).set (i * E.size + o) ty = (xs.set i y).flatMap E.tys
  | [], i, h, _, _ => absurd h (Nat.not_lt_zero _)
  | x :: xs, 0, _, hy, ho => by
    have hy : (E.tys x).set o ty = E.tys y := hy
    rw [List.set_cons_zero, List.flatMap_cons, List.flatMap_cons, ← hy, Nat.zero_mul, Nat.zero_add, List.set_append, if_pos (by rw [E.len]; exact ho)]
  | x :: xs, i + 1, h, hy, ho => by
    have ih := Ae E xs i (by simpa using h) hy ho
    rw [List.set_cons_succ, List.flatMap_cons, List.flatMap_cons, ← ih, List.set_append, if_neg (by rw [E.len, Nat.succ_mul]; omega), E.len]
    congr 2
    rw [Nat.succ_mul]; omega
theorem pG {α : Type} [Inhabited α] {E : El α} {xs : List α} {x y : Operand} {tg i o Tb : Nat} {ti : TI} {ty : Ty} {z : α} (hx : A.op fr x = .ptr tg (i * E.size + o)) (hc : A.tag tg = some (.vec E Tb xs)) (h1 : gI tg) (hT : T.e9[ty']? = some ti) (hsz : ti.size = 1) (hy : A.op fr y = ty) (ho : ty.one = true) (hi : i < xs.length) (hoe : o < E.size)
 (hdt : kg ty.cdeps [tg] = true) (hl : (E.tys (nth xs i)).set o ty = E.tys z)
 (h : ak P fr ops rest (A.after { d := none, S := [tg], sets := [(tg, .vec E Tb (xs.set i z))], rs := cR x ++ cR y, rt := [tg] }) fun A' l'' => K A' ((A, { d := none, S := [tg], sets := [(tg, .vec E Tb (xs.set i z))], rs := cR x ++ cR y, rt := [tg] }) :: l'')) :
 ak P fr ops (⟨none, .store ty' x y, t, p, e, none⟩ :: rest) A K := by
 refine ⟨_, l6 rfl rfl rfl (by simp) (by simpa using h1.1) (by simp) fun a w M wf hr ht => ?_, h⟩
 obtain ⟨hdx, hdy⟩ := op2 hr
 rw [hx] at hdx; rw [hy] at hdy
 obtain ⟨b, hb, ex⟩ := hdx
 rcases sA hc w M ht with rfl | ⟨b', cs, hb', hh, hd⟩
 ·exact absurd hi (Nat.not_lt_zero _)
 obtain ⟨u, rfl⟩ : ∃ u, tg = u + 1 := ⟨tg - 1, by omega⟩
 have := wf.inj b b' u (by omega) hb hb'
 subst this
 have hone := ty.isOne ho hdy
 have hlen := cX hd
 have hoff : i * E.size + o < cs.size := by
  rw [dR, List.length_take] at hlen
  have : (i + 1) * E.size ≤ xs.length * E.size := Nat.mul_le_mul_right _ hi
  rw [Nat.succ_mul] at this
  simp at hlen; omega
 have hcells : (a.eval y).cells = #[a.eval y] := by
  cases hv : a.eval y <;> first | rfl | (rw [hv] at hone; simp [Value.oneCell'] at hone)
 have hcell : w.cell? ⟨b, i * E.size + o, none⟩ = some cs[i * E.size + o] := by simp [World.cell?, hh]
 have hfz : w.frozen? ⟨b, i * E.size + o, none⟩ = false := by simp [World.frozen?, hh]
 obtain ⟨h1', h2', h3'⟩ := kV wf hb _ (mV hh (off := i * E.size + o) (a.eval y))
 refine ⟨w.setCell ⟨b, i * E.size + o, none⟩ (a.eval y), ?_, M, h1', h2', trivial, ?_⟩
 ·have hst := run_store P w ⟨b, i * E.size + o, none⟩ (a.eval y) .plain hone
  rw [hcell] at hst
  simp only [hfz] at hst
  simp [execOp, Instr.storeAt, Instr.sureAddr, ex, storeVar, hcells, dh hT, hsz, storeCells, hst, Addr.add]
 intro z' hz'
 simp only [List.mem_singleton] at hz'
 subst hz'
 refine .inr ⟨b, _, hb, h3', ?_⟩
 rw [Array.toList_setIfInBounds, ← Ae E xs i hi hl hoe, List.length_set, List.take_set]
 exact rJ (cI h2' (by intro _ _ h; cases h) (by rw [E.cv]; intro _ h; cases h) hd) (ty.mono h2' (by intro _ _ h; cases h) (gA hdt) hdy)
end
end Go.T
namespace Go.T
open Go Go.RowKit
section
variable {P : Program} {fr : Fr} {ops : Array Oper} {A : As} {rest : List Oper} {K : As → List (As × Fx) → Prop} {d : Nat} {t ty' : TypeId} {p : String} {e : Array Edge} [T : k8 P]
variable {α : Type} [Inhabited α] {E : El α} {xs : List α} {x y : Operand} {tg i o s Tb : Nat} {ti : TI} {ty : Ty} {z : α}
theorem eo (hx : A.op fr x = .ptr tg (i * s)) (hc : A.tag tg = some (.vec E Tb xs)) (hs : s = E.size) (h1 : gI tg) (hT : T.e9[ty']? = some ti) (ha : ti.k.agg = false) (hi : i < xs.length) (hl : (E.tys (nth xs i))[0]? = some ty)
 (h : ak P fr ops rest (A.set d ty) fun A' l => K A' ((A, { d := some d, ty := ty, rs := cR x, rt := [tg] }) :: l)) : ak P fr ops (⟨some d, .load ty' x, t, p, e, none⟩ :: rest) A K :=
 wk (o := 0) (by rw [hx, hs, Nat.add_zero]) hc h1 hT ha hi hl h
theorem uM (hx : A.op fr x = .ptr tg (i * s + o)) (hc : A.tag tg = some (.vec E Tb xs)) (hs : s = E.size) (h1 : gI tg) (hT : T.e9[ty']? = some ti) (ha : ti.k.agg = false) (hi : i < xs.length) (hl : (E.tys (nth xs i))[o]? = some ty)
 (h : ak P fr ops rest (A.set d ty) fun A' l => K A' ((A, { d := some d, ty := ty, rs := cR x, rt := [tg] }) :: l)) : ak P fr ops (⟨some d, .load ty' x, t, p, e, none⟩ :: rest) A K :=
 wk (by rw [hx, hs]) hc h1 hT ha hi hl h
theorem sQ (hx : A.op fr x = .ptr tg (0 + i * s)) (hc : A.tag tg = some (.vec E Tb xs)) (hs : s = E.size) (h1 : gI tg) (hT : T.e9[ty']? = some ti) (hsz : ti.size = 1) (hy : A.op fr y = ty) (ho : ty.one = true) (hi : i < xs.length) (hoe : 0 < E.size) (hdt : kg ty.cdeps [tg] = true) (hl : (E.tys (nth xs i)).set 0 ty = E.tys z)
 (h : ak P fr ops rest (A.after { d := none, S := [tg], sets := [(tg, .vec E Tb (xs.set i z))], rs := cR x ++ cR y, rt := [tg] }) fun A' l'' => K A' ((A, { d := none, S := [tg], sets := [(tg, .vec E Tb (xs.set i z))], rs := cR x ++ cR y, rt := [tg] }) :: l'')) :
 ak P fr ops (⟨none, .store ty' x y, t, p, e, none⟩ :: rest) A K :=
 pG (o := 0) (by rw [hx, hs, Nat.zero_add, Nat.add_zero]) hc h1 hT hsz hy ho hi hoe hdt hl h
theorem iU (hx : A.op fr x = .ptr tg (i * s)) (hc : A.tag tg = some (.vec E Tb xs)) (hs : s = E.size) (h1 : gI tg) (hT : T.e9[ty']? = some ti) (hsz : ti.size = 1) (hy : A.op fr y = ty) (ho : ty.one = true) (hi : i < xs.length) (hoe : 0 < E.size) (hdt : kg ty.cdeps [tg] = true) (hl : (E.tys (nth xs i)).set 0 ty = E.tys z)
 (h : ak P fr ops rest (A.after { d := none, S := [tg], sets := [(tg, .vec E Tb (xs.set i z))], rs := cR x ++ cR y, rt := [tg] }) fun A' l'' => K A' ((A, { d := none, S := [tg], sets := [(tg, .vec E Tb (xs.set i z))], rs := cR x ++ cR y, rt := [tg] }) :: l'')) :
 ak P fr ops (⟨none, .store ty' x y, t, p, e, none⟩ :: rest) A K :=
 pG (o := 0) (by rw [hx, hs, Nat.add_zero]) hc h1 hT hsz hy ho hi hoe hdt hl h
theorem nR (hx : A.op fr x = .ptr tg (i * s + o)) (hc : A.tag tg = some (.vec E Tb xs)) (hs : s = E.size) (h1 : gI tg) (hT : T.e9[ty']? = some ti) (hsz : ti.size = 1) (hy : A.op fr y = ty) (ho : ty.one = true) (hi : i < xs.length) (hoe : o < E.size) (hdt : kg ty.cdeps [tg] = true) (hl : (E.tys (nth xs i)).set o ty = E.tys z)
 (h : ak P fr ops rest (A.after { d := none, S := [tg], sets := [(tg, .vec E Tb (xs.set i z))], rs := cR x ++ cR y, rt := [tg] }) fun A' l'' => K A' ((A, { d := none, S := [tg], sets := [(tg, .vec E Tb (xs.set i z))], rs := cR x ++ cR y, rt := [tg] }) :: l'')) :
 ak P fr ops (⟨none, .store ty' x y, t, p, e, none⟩ :: rest) A K :=
 pG (by rw [hx, hs]) hc h1 hT hsz hy ho hi hoe hdt hl h
end
def Nl (l : List Ty) : Prop := cN l = [] ∧ bw l = [] ∧ l.all Ty.one = true
def El.mk' {α : Type} (n : Nat) (f : α → List Ty) (h : ∀ x, (f x).length = n) (h' : ∀ x, Nl (f x)) : El α := ⟨n, f, h, fun x => (h' x).1, fun x => (h' x).2.1, fun x => (h' x).2.2⟩
end Go.T
namespace Go.T
open Go Go.RowKit
section
variable {P : Program} {fr : Fr} {ops : Array Oper} {A : As} {rest : List Oper} {K : As → List (As × Fx) → Prop} {d : Nat} {t ty' : TypeId} {p : String} {e : Array Edge} {x y z : Operand} {k : IntKind} {n : Int} {b : Bool} {l : List Ty}
theorem aX {o : Oper} {f : Fx} (h : ak P fr ops [o] A fun _ l => l = [(A, f)]) : wo P fr ops o A f := by
 obtain ⟨g, hg, hK⟩ := h
 have hK : [(A, g)] = [(A, f)] := hK
 simp only [List.cons.injEq, Prod.mk.injEq, and_true, true_and] at hK
 exact hK ▸ hg
theorem aS {o : Oper} {f : Fx} {s : Nat} {g : Bool} {ty : Ty} (hs : A.slots s = .gd g ty) (hg : g = true) (h : wo P fr ops o (A.set s ty) f) : wo P fr ops o A f := by
  obtain ⟨h1, h2, h3, h4, h5⟩ := h
  refine ⟨h1, h2, h3, h4, fun a w M wf hsz hr ht => h5 a w M wf hsz (fun c hc hcn => ?_) ht⟩
  have := hr c hc hcn
  simp only [As.set]
  cases hb : Nat.beq c s with
  | false => exact this
  | true =>
    have e : c = s := Nat.eq_of_beq_eq_true hb
    subst e
    rw [hs] at this
    exact this.1 hg
def oS (ops : Array Oper) (j : Nat) : Option Nat := (ops[j]?).bind (·.dst)
theorem lF {a : Act} {j s : Nat} {c : Bool} (hs : oS ops j = some s) (hn : s < a.tmps.size) (hv : a.tmps.getD s undef = .bool c) : yielded ops a.tmps j = some c := by
 unfold yielded
 unfold oS at hs
 rw [hs]
 have : a.tmps[s]? = some (.bool c) := by
  rw [Array.getElem?_eq_getElem hn]
  rw [Array.getD_eq_getD_getElem?, Array.getElem?_eq_getElem hn] at hv
  simpa using hv
 simp [this]
theorem qP {a : Act} {j s : Nat} (hs : oS ops j = some s) (hn : s < a.tmps.size) (hv : a.tmps.getD s undef = undef) : yielded ops a.tmps j = none := by
 unfold yielded
 unfold oS at hs
 rw [hs]
 have : a.tmps[s]? = some undef := by
  rw [Array.getElem?_eq_getElem hn]
  rw [Array.getD_eq_getD_getElem?, Array.getElem?_eq_getElem hn] at hv
  simpa using hv
 simp [this, undef]
def jH (d s : Nat) (g : Bool) (f : Fx) : Fx := { d := some d, ty := .gd g f.ty, rs := s :: f.rs, rt := f.rt }
theorem xw {op : Op} {j s : Nat} {want g : Bool} {gt : Ty} {f : Fx} (hs : oS ops j = some s) (hn : Nat.blt s fr.n = true) (hgt : A.slots s = gt)
    (hg : ∀ w M v, gt.den w M v → (g = true → v = .bool want) ∧ (g = false → v = .bool (!want) ∨ v = undef))
    (h1 : g = true → wo P fr ops ⟨some d, op, t, p, e, none⟩ A f) (hS : f.S = []) (hK : f.K = []) :
    wo P fr ops ⟨some d, op, t, p, e, some (j, want)⟩ A (jH d s g f) := by
  refine ⟨rfl, by simp [jH], by simp [jH], by simp [jH], fun a w M wf hsz hr ht => ?_⟩
  have hn' : s < fr.n := by simpa using hn
  have hv := hr s (by simp [jH]) hn'
  rw [hgt] at hv
  obtain ⟨hv1, hv2⟩ := hg _ _ _ hv
  cases g with
  | true =>
    have hy := lF (ops := ops) hs (by rw [hsz]; exact hn') (hv1 rfl)
    rw [if_pos (by simp [Region.wanted, hy])]
    obtain ⟨hd, _, _, _, h5⟩ := h1 rfl
    have h6 := h5 a w M wf hsz (fun c hc hcn => hr c (by simp [jH, hc]) hcn) (fun x hx hxr => ht x hx hxr)
    rw [if_pos (by simp [Region.wanted])] at h6
    refine Oper.tQ (o := ⟨some d, op, t, p, e, some (j, want)⟩) (K := fun a' w' => ∃ v, a' = a.put (some d) v ∧ f.left w M w' v) ?_ h6
    rintro a' w' ⟨v, ha, M', wf', le, hty, _⟩
    rw [hS, hK] at le
    exact ⟨v, ha, M', wf', le, ⟨fun _ => hty, fun h => (by cases h)⟩, by simp [jH]⟩
  | false =>
    have hy : yielded ops a.tmps j ≠ some want := by
      rcases hv2 rfl with hv | hv
      · rw [lF (ops := ops) hs (by rw [hsz]; exact hn') hv]; cases want <;> simp
      · rw [qP (ops := ops) hs (by rw [hsz]; exact hn') hv]; simp
    rw [if_neg (by simpa [Region.wanted] using hy)]
    exact ⟨M, wf, Le.refl _ _ _ _, ⟨fun h => (by cases h), fun _ => rfl⟩, by simp [jH]⟩
theorem aV {op : Op} {j s : Nat} {want c : Bool} {f : Fx} (hs : oS ops j = some s) (hn : Nat.blt s fr.n = true) (hc : A.slots s = .bool c) (h1 : c = want → wo P fr ops ⟨some d, op, t, p, e, none⟩ A f) (hS : f.S = []) (hK : f.K = [])
 (h : ak P fr ops rest (A.set d (.gd (c == want) f.ty)) fun A' l' => K A' ((A, jH d s (c == want) f) :: l')) : ak P fr ops (⟨some d, op, t, p, e, some (j, want)⟩ :: rest) A K :=
 ⟨jH d s (c == want) f, xw hs hn hc (fun w M v hv => by
  have hv : v = .bool c := hv
  subst hv
  cases c <;> cases want <;> simp) (fun hg => h1 (by simpa using hg)) hS hK, h⟩
theorem fN {op : Op} {j s : Nat} {want g c : Bool} {f : Fx} (hs : oS ops j = some s) (hn : Nat.blt s fr.n = true) (hc : A.slots s = .gd g (.bool c)) (h1 : g = true → c = want → wo P fr ops ⟨some d, op, t, p, e, none⟩ A f) (hS : f.S = []) (hK : f.K = [])
    (h : ak P fr ops rest (A.set d (.gd (g && (c == want)) f.ty)) fun A' l' => K A' ((A, jH d s (g && (c == want)) f) :: l')) : ak P fr ops (⟨some d, op, t, p, e, some (j, want)⟩ :: rest) A K :=
  ⟨jH d s (g && (c == want)) f, xw hs hn hc (fun w M v hv => by
    cases g with
    | true =>
      have hv : v = .bool c := hv.1 rfl
      subst hv
      cases c <;> cases want <;> simp
    | false => exact ⟨fun h => (by cases h), fun _ => .inr (hv.2 rfl)⟩) (fun hg => by simp only [Bool.and_eq_true, beq_iff_eq] at hg; exact h1 hg.1 hg.2) hS hK, h⟩
theorem ep {c : Operand} {b1 b2 : Bool} (hc : A.op fr c = .bool b1) (hy : A.op fr y = .gd (b1 == true) (.bool b2))
    (h : ak P fr ops rest (A.set d (.bool (b1 && b2))) fun A' l' => K A' ((A, { d := some d, ty := .bool (b1 && b2), rs := cR c ++ cR y }) :: l')) : ak P fr ops (⟨some d, .pick c y (.const (.bool false)), t, p, e, none⟩ :: rest) A K :=
  bP (bW rfl rfl fun a w M _ hrd _ => by
    obtain ⟨hdc, hdy⟩ := op2 hrd
    rw [hc] at hdc; rw [hy] at hdy
    have ec : a.eval c = .bool b1 := hdc
    cases b1 with
    | true =>
      have ey : a.eval y = .bool b2 := hdy.1 rfl
      exact ⟨.bool b2, by simp only [execOp, ec, ey]; simp [asBool], rfl⟩
    | false => exact ⟨.bool false, by simp only [execOp, ec]; simp [asBool, Act.eval], rfl⟩) h
theorem oK {c : Operand} {b1 b2 : Bool} (hc : A.op fr c = .bool b1) (hy : A.op fr y = .gd (b1 == false) (.bool b2))
    (h : ak P fr ops rest (A.set d (.bool (b1 || b2))) fun A' l' => K A' ((A, { d := some d, ty := .bool (b1 || b2), rs := cR c ++ cR y }) :: l')) : ak P fr ops (⟨some d, .pick c (.const (.bool true)) y, t, p, e, none⟩ :: rest) A K :=
  bP (bW rfl rfl fun a w M _ hrd _ => by
    obtain ⟨hdc, hdy⟩ := op2 hrd
    rw [hc] at hdc; rw [hy] at hdy
    have ec : a.eval c = .bool b1 := hdc
    cases b1 with
    | false =>
      have ey : a.eval y = .bool b2 := hdy.1 rfl
      exact ⟨.bool b2, by simp only [execOp, ec, ey]; simp [asBool], rfl⟩
    | true => exact ⟨.bool true, by simp only [execOp, ec]; simp [asBool, Act.eval], rfl⟩) h
theorem bS (hx : A.op fr x = .int k n) (h : ak P fr ops rest (A.set d (.int k n)) fun A' l => K A' ((A, { d := some d, ty := .int k n, rs := cR x }) :: l)) : ak P fr ops (⟨some d, .move x, t, p, e, none⟩ :: rest) A K := eL hx h
theorem cJ (hx : A.op fr x = .int k n) (h : ak P fr ops rest (A.set d (.int k n)) fun A' l => K A' ((A, { d := some d, ty := .int k n, rs := cR x }) :: l)) : ak P fr ops (⟨some d, .assign x, t, p, e, none⟩ :: rest) A K := gG hx h
theorem gj (hx : A.op fr x = .bool b) (h : ak P fr ops rest (A.set d (.bool b)) fun A' l => K A' ((A, { d := some d, ty := .bool b, rs := cR x }) :: l)) : ak P fr ops (⟨some d, .move x, t, p, e, none⟩ :: rest) A K := eL hx h
theorem dg (hx : A.op fr x = .bool b) (h : ak P fr ops rest (A.set d (.bool b)) fun A' l => K A' ((A, { d := some d, ty := .bool b, rs := cR x }) :: l)) : ak P fr ops (⟨some d, .assign x, t, p, e, none⟩ :: rest) A K := gG hx h
theorem gw {α : Type} {E : El α} {xs : List α} (hx : A.op fr x = .sl E xs) (h : ak P fr ops rest (A.set d (.sl E xs)) fun A' l => K A' ((A, { d := some d, ty := .sl E xs, rs := cR x }) :: l)) : ak P fr ops (⟨some d, .move x, t, p, e, none⟩ :: rest) A K := eL hx h
theorem DP {α : Type} {E : El α} {xs : List α} (hx : A.op fr x = .sl E xs) (h : ak P fr ops rest (A.set d (.sl E xs)) fun A' l => K A' ((A, { d := some d, ty := .sl E xs, rs := cR x }) :: l)) : ak P fr ops (⟨some d, .assign x, t, p, e, none⟩ :: rest) A K := gG hx h
theorem Jw {α : Type} {E : El α} {T tg : Nat} {xs : List α} (hx : A.op fr x = .row E T tg xs) (h : ak P fr ops rest (A.set d (.row E T tg xs)) fun A' l => K A' ((A, { d := some d, ty := .row E T tg xs, rs := cR x }) :: l)) : ak P fr ops (⟨some d, .move x, t, p, e, none⟩ :: rest) A K := eL hx h
theorem GV {α : Type} {E : El α} {T tg : Nat} {xs : List α} (hx : A.op fr x = .row E T tg xs) (h : ak P fr ops rest (A.set d (.row E T tg xs)) fun A' l => K A' ((A, { d := some d, ty := .row E T tg xs, rs := cR x }) :: l)) : ak P fr ops (⟨some d, .assign x, t, p, e, none⟩ :: rest) A K := gG hx h
theorem IY {tg m : Nat} (hx : A.op fr x = .vs tg m) (h : ak P fr ops rest (A.set d (.vs tg m)) fun A' l => K A' ((A, { d := some d, ty := .vs tg m, rs := cR x }) :: l)) : ak P fr ops (⟨some d, .move x, t, p, e, none⟩ :: rest) A K := eL hx h
theorem NK {tg m : Nat} (hx : A.op fr x = .vs tg m) (h : ak P fr ops rest (A.set d (.vs tg m)) fun A' l => K A' ((A, { d := some d, ty := .vs tg m, rs := cR x }) :: l)) : ak P fr ops (⟨some d, .assign x, t, p, e, none⟩ :: rest) A K := gG hx h
theorem NY {v : Value} (hx : A.op fr x = .ex v) (h : ak P fr ops rest (A.set d (.ex v)) fun A' l => K A' ((A, { d := some d, ty := .ex v, rs := cR x }) :: l)) : ak P fr ops (⟨some d, .move x, t, p, e, none⟩ :: rest) A K := eL hx h
theorem nC {v : Value} (hx : A.op fr x = .ex v) (h : ak P fr ops rest (A.set d (.ex v)) fun A' l => K A' ((A, { d := some d, ty := .ex v, rs := cR x }) :: l)) : ak P fr ops (⟨some d, .assign x, t, p, e, none⟩ :: rest) A K := gG hx h
theorem jF (hx : A.op fr x = .pp l) (h : ak P fr ops rest (A.set d (.pp l)) fun A' l' => K A' ((A, { d := some d, ty := .pp l, rs := cR x }) :: l')) : ak P fr ops (⟨some d, .move x, t, p, e, none⟩ :: rest) A K := eL hx h
theorem Ia (hx : A.op fr x = .pp l) (h : ak P fr ops rest (A.set d (.pp l)) fun A' l' => K A' ((A, { d := some d, ty := .pp l, rs := cR x }) :: l')) : ak P fr ops (⟨some d, .assign x, t, p, e, none⟩ :: rest) A K := gG hx h
theorem mS {tg o : Nat} (hx : A.op fr x = .ptr tg o) (h : ak P fr ops rest (A.set d (.ptr tg o)) fun A' l' => K A' ((A, { d := some d, ty := .ptr tg o, rs := cR x }) :: l')) : ak P fr ops (⟨some d, .move x, t, p, e, none⟩ :: rest) A K := eL hx h
theorem NA {tg o : Nat} (hx : A.op fr x = .ptr tg o) (h : ak P fr ops rest (A.set d (.ptr tg o)) fun A' l' => K A' ((A, { d := some d, ty := .ptr tg o, rs := cR x }) :: l')) : ak P fr ops (⟨some d, .assign x, t, p, e, none⟩ :: rest) A K := gG hx h
theorem qJ (hx : A.op fr x = .kH l) (h : ak P fr ops rest (A.set d (.kH l)) fun A' l' => K A' ((A, { d := some d, ty := .kH l, rs := cR x }) :: l')) : ak P fr ops (⟨some d, .move x, t, p, e, none⟩ :: rest) A K := eL hx h
theorem NC {f : Nat} (hx : A.op fr x = .jz f l) (h : ak P fr ops rest (A.set d (.jz f l)) fun A' l' => K A' ((A, { d := some d, ty := .jz f l, rs := cR x }) :: l')) : ak P fr ops (⟨some d, .move x, t, p, e, none⟩ :: rest) A K := eL hx h
theorem Nd {f : Nat} (hx : A.op fr x = .jz f l) (h : ak P fr ops rest (A.set d (.jz f l)) fun A' l' => K A' ((A, { d := some d, ty := .jz f l, rs := cR x }) :: l')) : ak P fr ops (⟨some d, .assign x, t, p, e, none⟩ :: rest) A K := gG hx h
end
end Go.T
namespace Go.T
open Go Go.RowKit
theorem bg {t : Ty} {l : List Ty} (h : t.deps = []) (h' : cN l = []) : cN (t :: l) = [] := by simp only [cN, List.flatMap_cons, h, List.nil_append] at h' ⊢; exact h'
theorem bT {t : Ty} {l : List Ty} (h : t.cdeps = []) (h' : bw l = []) : bw (t :: l) = [] := by simp only [bw, List.flatMap_cons, h, List.nil_append] at h' ⊢; exact h'
def KZ (P : Program) (t : Nat) (l1 l2 : List Ty) (c : Bool) : Prop :=
  P.eqGuardType P.depth t = false ∧ ∀ w M (cs ds : Array Value), cV w M l1 cs.toList → cV w M l2 ds.toList → (Op.equal t (.agg cs) (.agg ds)).run P w = .ok c w
section
variable {P : Program} {fr : Fr} {ops : Array Oper} {A : As} {rest : List Oper} {K : As → List (As × Fx) → Prop} {d : Nat} {t ty' ty2 : TypeId} {p : String} {e : Array Edge} {x y : Operand}
theorem Ip {l1 l2 : List Ty} {c : Bool} (hE : KZ P ty' l1 l2 c) (hx : A.op fr x = .agg l1) (hy : A.op fr y = .agg l2)
 (h : ak P fr ops rest (A.set d (.bool c)) fun A' l' => K A' ((A, { d := some d, ty := .bool c, rs := cR x ++ cR y }) :: l')) : ak P fr ops (⟨some d, .binOp .eql ty' x y ty2, t, p, e, none⟩ :: rest) A K :=
 bP (bW rfl rfl fun a w M _ hrd _ => by
  obtain ⟨hdx, hdy⟩ := op2 hrd
  rw [hx] at hdx; rw [hy] at hdy
  obtain ⟨cs, ex, h1⟩ := hdx
  obtain ⟨ds, ey, h2⟩ := hdy
  exact ⟨.bool c, by simp only [execOp, ex, ey]; simp [eqGuard, hE.1, binOp, hE.2 w M cs ds h1 h2], rfl⟩) h
theorem DN {l1 l2 : List Ty} {c : Bool} (hE : KZ P ty' l1 l2 c) (hx : A.op fr x = .agg l1) (hy : A.op fr y = .agg l2)
 (h : ak P fr ops rest (A.set d (.bool (!c))) fun A' l' => K A' ((A, { d := some d, ty := .bool (!c), rs := cR x ++ cR y }) :: l')) : ak P fr ops (⟨some d, .binOp .neq ty' x y ty2, t, p, e, none⟩ :: rest) A K :=
 bP (bW rfl rfl fun a w M _ hrd _ => by
  obtain ⟨hdx, hdy⟩ := op2 hrd
  rw [hx] at hdx; rw [hy] at hdy
  obtain ⟨cs, ex, h1⟩ := hdx
  obtain ⟨ds, ey, h2⟩ := hdy
  exact ⟨.bool (!c), by simp only [execOp, ex, ey]; simp [eqGuard, hE.1, binOp, hE.2 w M cs ds h1 h2], rfl⟩) h
theorem qL {ts : Array TypeId} {k : IntKind} {a b : Int} (hx : A.op fr x = .int k a) (hy : A.op fr y = .int k b)
 (h : ak P fr ops rest (A.set d (.int k (min a b))) fun A' l' => K A' ((A, { d := some d, ty := .int k (min a b), rs := cR x ++ cR y }) :: l')) : ak P fr ops (⟨some d, .call ⟨.builtin .min, #[x, y], ts⟩, t, p, e, none⟩ :: rest) A K :=
 bP (bW rfl rfl fun ac w M _ hrd _ => by
  obtain ⟨hdx, hdy⟩ := op2 hrd
  rw [hx] at hdx; rw [hy] at hdy
  have ex : ac.eval x = .int k a := hdx
  have ey : ac.eval y = .int k b := hdy
  refine ⟨.int k (min a b), ?_, rfl⟩
  simp [execOp, resolve, invoke, builtin, ex, ey, Builtin.min_, Builtin.min2]
  omega) h
theorem td {ts : Array TypeId} {k : IntKind} {a b : Int} (hx : A.op fr x = .int k a) (hy : A.op fr y = .int k b)
 (h : ak P fr ops rest (A.set d (.int k (max a b))) fun A' l' => K A' ((A, { d := some d, ty := .int k (max a b), rs := cR x ++ cR y }) :: l')) : ak P fr ops (⟨some d, .call ⟨.builtin .max, #[x, y], ts⟩, t, p, e, none⟩ :: rest) A K :=
 bP (bW rfl rfl fun ac w M _ hrd _ => by
  obtain ⟨hdx, hdy⟩ := op2 hrd
  rw [hx] at hdx; rw [hy] at hdy
  have ex : ac.eval x = .int k a := hdx
  have ey : ac.eval y = .int k b := hdy
  refine ⟨.int k (max a b), ?_, rfl⟩
  simp [execOp, resolve, invoke, builtin, ex, ey, Builtin.max_, Builtin.max2]
  omega) h
variable [T : k8 P]
theorem m6 {α : Type} {E : El α} {Te tg : Nat} {xs : List α} {ti : TI} {el : Nat} (hx : A.op fr x = .row E Te tg xs) (hT : T.e9[ty']? = some ti) (hk : ti.k = .slice el)
 (h : ak P fr ops rest (A.set d (.int .i64 xs.length)) fun A' l' => K A' ((A, { d := some d, ty := .int .i64 xs.length, rs := cR x }) :: l')) :
 ak P fr ops (⟨some d, .call ⟨.builtin .len, #[x], #[ty']⟩, t, p, e, none⟩ :: rest) A K :=
 bP (bW rfl rfl fun a w M _ hrd _ => by
  have hdx := cY (x := x) (fun _ h => h) hrd
  rw [hx] at hdx
  obtain ⟨cs, hown, _⟩ := hdx
  obtain ⟨_, D, _, hD, hkd, _⟩ := dU hT
  rw [hk] at hkd
  cases D <;> simp only [TK.of, reduceCtorEq, TK.slice.injEq] at hkd
  rcases hown.2 with ⟨ex, h0⟩ | ⟨g, cap, cur, ex, _⟩
  ·exact ⟨.int .i64 xs.length, by simp [execOp, resolve, invoke, builtin, ex, Builtin.len_, run_underlying hD, goInt, h0], rfl⟩
  exact ⟨.int .i64 xs.length, by simp [execOp, resolve, invoke, builtin, ex, Builtin.len_, run_underlying hD, goInt], rfl⟩) h
theorem ow {tg n : Nat} {ti : TI} {el : Nat} (hx : A.op fr x = .vs tg n) (hT : T.e9[ty']? = some ti) (hk : ti.k = .slice el)
 (h : ak P fr ops rest (A.set d (.int .i64 n)) fun A' l' => K A' ((A, { d := some d, ty := .int .i64 n, rs := cR x }) :: l')) :
 ak P fr ops (⟨some d, .call ⟨.builtin .len, #[x], #[ty']⟩, t, p, e, none⟩ :: rest) A K :=
 bP (bW rfl rfl fun a w M _ hrd _ => by
  have hdx := cY (x := x) (fun _ h => h) hrd
  rw [hx] at hdx
  obtain ⟨_, D, _, hD, hkd, _⟩ := dU hT
  rw [hk] at hkd
  cases D <;> simp only [TK.of, reduceCtorEq, TK.slice.injEq] at hkd
  rcases hdx with ⟨h0, ex⟩ | ⟨b, c, _, ex, _⟩
  ·exact ⟨.int .i64 n, by simp [execOp, resolve, invoke, builtin, ex, Builtin.len_, run_underlying hD, goInt, h0], rfl⟩
  exact ⟨.int .i64 n, by simp [execOp, resolve, invoke, builtin, ex, Builtin.len_, run_underlying hD, goInt], rfl⟩) h
theorem Ee {α : Type} [Inhabited α] {E : El α} {Te tg : Nat} {xs : List α} {w : World} {M : bB} {v : Value} (h : gx E Te tg xs w M v) {i : Nat} (hi : i < xs.length) :
 ∃ g cap, v = .slice (some ⟨g, 0, none⟩) xs.length cap ∧ M g = some tg ∧ ∀ (j : Nat) (t : Ty), (E.tys (nth xs i))[j]? = some t → ∃ u, w.cell? ⟨g, i * E.size + j, none⟩ = some u ∧ t.den w M u := by
 obtain ⟨cs, hown, hd, hM⟩ := h
 rcases hown.2 with ⟨_, h0⟩ | ⟨g, cap, cur, ex, _, hh, _, _, _, htk⟩
 ·omega
 refine ⟨g, cap, ex, hM g (by rw [ex]; rfl), fun j t hj => ?_⟩
 obtain ⟨u, hu, hdu⟩ := dc hd _ t (lQ E xs hi j t hj)
 refine ⟨u, ?_, hdu⟩
 rw [← htk, List.getElem?_take] at hu
 split at hu
 ·simpa [World.cell?, hh] using hu
 cases hu
end
end Go.T
namespace Go.T
open Go Go.RowKit
section
variable {P : Program} {A : As} {fn : Func} {n : Nat} {w0 : World} {M0 : bB} [T : k8 P]
theorem zl {tm ty tg Tb : Nat} {l : List Ty} {ti : TI} {res : Ty} (hr : fn.results = #[.cell tm ty]) (ht : Nat.blt tm n = true) (hx : A.slots tm = .ptr tg 0) (hc : A.tag tg = some (.cells Tb l)) (h1 : gI tg) (hT : T.e9[ty]? = some ti) (ha : ti.k.agg = true) (hl : l.length = ti.size) (hs : gl (.agg l) res) :
 dm ⟨n, w0, M0, [], .plain⟩ A (bodyPost P fn (mK w0 M0 res) .ret) := by
 intro a w ⟨M, ok, hsl, htg⟩
 have hd := hsl tm (by simpa using ht)
 rw [hx] at hd
 obtain ⟨b, hb, e⟩ := hd
 obtain ⟨b', cs, hb', hh, hds⟩ := htg _ (dB hc)
 obtain ⟨u, rfl⟩ : ∃ u, tg = u + 1 := ⟨tg - 1, by omega⟩
 have := ok.wf.inj b b' u (by omega) hb hb'
 subst this
 have hlen := cX hds
 have hload := gX (P := P) hT ha (w := w) (b := b) (off := 0) (cs := cs.toList) (by rw [hlen, hl]) (fun j v hj => by simpa [World.cell?, hh] using hj)
 have hload' : (loadVar ty ⟨b, 0, none⟩).run P w = .ok (.agg cs) w := by simpa [Instr.loadAt, Instr.sureAddr] using hload
 refine ⟨ok.gP (by simp), .agg cs, ?_, _, pF M, rfl, rQ ok.wf, oZ (fr := ⟨n, w0, M0, [], .plain⟩) (fun _ h => h) ok.base, hs _ _ _ ok.wf ⟨cs, rfl, hds⟩⟩
 have e' : a.tmps.getD tm undef = .pointer (some ⟨b, 0, none⟩) := e
 have e'' : a.tmps[tm]?.getD undef = .pointer (some ⟨b, 0, none⟩) := by rw [← Array.getD_eq_getD_getElem?]; exact e'
 simp [results, hr, e'', asAddr, hload']
end
end Go.T
namespace Go.T
open Go Go.RowKit
def FU : List Ty → List Ty → Prop
  | [], [] => True
  | s :: ss, t :: ts => s.Sub t ∧ FU ss ts
  | _, _ => False
theorem cT : FU [] [] := trivial
theorem bM {s t : Ty} {ss ts : List Ty} (h' : FU ss ts) (h : s.Sub t) : FU (s :: ss) (t :: ts) := ⟨h, h'⟩
theorem yO {w : World} {M : bB} : ∀ {ss ts : List Ty} {vs : List Value}, FU ss ts → cV w M ss vs → cV w M ts vs
  | [], [], [], _, _ => trivial
  | _ :: _, _ :: _, _ :: _, ⟨h, h'⟩, ⟨h1, h2⟩ => ⟨h _ _ _ h1, yO h' h2⟩
theorem Cont.cS {T : Nat} {l l' : List Ty} (h : FU l l') : (Cont.cells T l).Sub (Cont.cells T l') := fun _ _ _ ⟨b, cs, h1, h2, h3⟩ => ⟨b, cs, h1, h2, yO h h3⟩
def qy (tg : Nat) (l : List Ty) (w : World) (M : bB) (v : Value) : Prop :=
  ∃ b off, v = .pointer (some ⟨b, off, none⟩) ∧ M b = some tg ∧ ∀ (i : Nat) (t : Ty), l[i]? = some t → ∃ u, w.cell? ⟨b, off + i, none⟩ = some u ∧ t.den w M u
def Ty.op (tg : Nat) (l : List Ty) : Ty :=
  ⟨qy tg l, tg :: cN l, tg :: bw l, fun le hk hs ⟨b, off, e, hb, h⟩ => by
    obtain ⟨h4, h5⟩ := le.own b tg hb (hk tg List.mem_cons_self)
    refine ⟨b, off, e, h4, fun i t hi => ?_⟩
    obtain ⟨v, hc, hd⟩ := h i t hi
    refine ⟨v, ?_, t.mono le (fun u hu => hk u ?_) (fun u hu => hs u ?_) hd⟩
    · rw [← hc]; exact World.cell?_of_block (h5 (hs tg List.mem_cons_self))
    · exact List.mem_cons_of_mem _ (List.mem_flatMap.2 ⟨t, List.mem_of_getElem? hi, hu⟩)
    · exact List.mem_cons_of_mem _ (List.mem_flatMap.2 ⟨t, List.mem_of_getElem? hi, hu⟩), true, fun _ ⟨_, _, e, _⟩ => e ▸ rfl⟩
theorem Bz {w : World} {M : bB} {b off : Nat} {l : List Ty} (h : ∀ (i : Nat) (t : Ty), l[i]? = some t → ∃ u, w.cell? ⟨b, off + i, none⟩ = some u ∧ t.den w M u) : ∀ n, n ≤ l.length → ∃ cs : List Value, cs.length = n ∧ cV w M (l.take n) cs ∧ ∀ j v, cs[j]? = some v → w.cell? ⟨b, off + j, none⟩ = some v := by
  intro n
  induction n with
  | zero => exact fun _ => ⟨[], rfl, trivial, fun j v h => by simp at h⟩
  | succ n ih =>
    intro hn
    obtain ⟨cs, h1, h2, h3⟩ := ih (by omega)
    obtain ⟨v, hv, hd⟩ := h n l[n] (List.getElem?_eq_getElem (by omega))
    refine ⟨cs ++ [v], by simp [h1], ?_, fun j u hj => ?_⟩
    · rw [List.take_succ_eq_append_getElem (by omega)]
      exact kZ h2 ⟨hd, trivial⟩
    · rcases Nat.lt_or_ge j cs.length with hj' | hj'
      · rw [List.getElem?_append_left hj'] at hj; exact h3 j u hj
      · rw [List.getElem?_append_right hj'] at hj
        have : j = n := by
          rcases Nat.lt_or_ge (j - cs.length) 1 with h | h
          · omega
          · rw [List.getElem?_eq_none (by simpa using h)] at hj; cases hj
        subst this
        rw [h1, Nat.sub_self] at hj
        simp at hj; subst hj; exact hv
section
variable {P : Program} {fr : Fr} {ops : Array Oper} {A : As} {rest : List Oper} {K : As → List (As × Fx) → Prop} {d : Nat} {t ty' : TypeId} {p : String} {e : Array Edge} [T : k8 P]
theorem sK {α : Type} [Inhabited α] {x y : Operand} {E : El α} {Te tg : Nat} {xs : List α} {k : IntKind} {i : Nat} {ti te : TI} {el : Nat} (hx : A.op fr x = .row E Te tg xs) (hy : A.op fr y = .int k i) (hT : T.e9[ty']? = some ti) (hk : ti.k = .slice el) (hE : T.e9[el]? = some te) (hs : te.size = E.size)
 (h1 : i < xs.length)
 (h : ak P fr ops rest (A.set d (.op tg (E.tys (nth xs i)))) fun A' l' => K A' ((A, { d := some d, ty := .op tg (E.tys (nth xs i)), rs := cR x ++ cR y }) :: l')) : ak P fr ops (⟨some d, .indexAddr ty' x y, t, p, e, none⟩ :: rest) A K :=
 bP (bW rfl rfl fun a w M _ hr _ => by
  obtain ⟨hdx, hdy⟩ := op2 hr
  rw [hx] at hdx; rw [hy] at hdy
  obtain ⟨g, cap, ex, hg, hc⟩ := Ee hdx h1
  have ey : a.eval y = .int k i := hdy
  refine ⟨_, by simp only [execOp, ex, ey, Sem.run_bind, jG hT hk hE (Int.natCast_nonneg i) (show (i : Int).toNat < xs.length from h1)]; rfl, g, 0 + i * te.size, by simp, hg, fun j ty hj => ?_⟩
  obtain ⟨u, hu, hd⟩ := hc j ty hj
  exact ⟨u, by rw [hs, Nat.zero_add]; exact hu, hd⟩) h
theorem xq {x : Operand} {tg : Nat} {l : List Ty} {ti : TI} {ty : Ty} (hx : A.op fr x = .op tg l) (hT : T.e9[ty']? = some ti) (ha : ti.k.agg = false) (hl : l[0]? = some ty)
 (h : ak P fr ops rest (A.set d ty) fun A' l => K A' ((A, { d := some d, ty := ty, rs := cR x }) :: l)) : ak P fr ops (⟨some d, .load ty' x, t, p, e, none⟩ :: rest) A K :=
 bP (bW rfl rfl fun a w M _ hr _ => by
  have := cY (x := x) (fun _ h => h) hr
  rw [hx] at this
  obtain ⟨b, off, e, _, hp⟩ := this
  obtain ⟨v, hv, hd⟩ := hp 0 ty hl
  have hv' : w.cell? ⟨b, off, none⟩ = some v := hv
  exact ⟨v, by simp [execOp, e, lJ hT ha hv'], hd⟩) h
theorem Ci {x : Operand} {tg : Nat} {l : List Ty} {ti : TI} (hx : A.op fr x = .op tg l) (hT : T.e9[ty']? = some ti) (ha : ti.k.agg = true) (hl : ti.size ≤ l.length)
 (h : ak P fr ops rest (A.set d (.agg (l.take ti.size))) fun A' l' => K A' ((A, { d := some d, ty := .agg (l.take ti.size), rs := cR x }) :: l')) : ak P fr ops (⟨some d, .load ty' x, t, p, e, none⟩ :: rest) A K :=
 bP (bW rfl rfl fun a w M _ hr _ => by
  have := cY (x := x) (fun _ h => h) hr
  rw [hx] at this
  obtain ⟨b, off, e, _, hp⟩ := this
  obtain ⟨cs, h1, h2, h3⟩ := Bz hp _ hl
  exact ⟨.agg cs.toArray, by simp [execOp, e, gX hT ha h1 h3], cs.toArray, rfl, by simpa using h2⟩) h
end
section
variable {P : Program} {fr : Fr} {A : As} {Q : Exit → Act → World → Prop} {c : Code}
def eN (M : bB) (tg : Nat) : bB := fun b => if M b = some tg then none else M b
theorem jd {w : World} {M : bB} {tg : Nat} : Le (· ∈ ([] : List Nat)) (· ∈ [tg]) w M w (eN M tg) :=
 ⟨Nat.le_refl _, rfl, rfl, rfl, fun b _ hm => ⟨by simp [eN, hm], rfl⟩, fun b t hm hk => ⟨by simp only [List.mem_singleton] at hk; simp [eN, hm, hk], fun _ => rfl⟩⟩
theorem xQ {w : World} {M : bB} {tg : Nat} (wf : Wf w M) : Wf w (eN M tg) := by
 have key : ∀ b t, eN M tg b = some t → M b = some t := fun b t h => by
  unfold eN at h; split at h
  ·cases h
  exact h
 exact ⟨fun b t h => wf.lt b t (key b t h), fun b b' t ht1 h h' => wf.inj b b' t ht1 (key _ _ h) (key _ _ h')⟩
def yp (A : As) (tg s : Nat) (t : Ty) : Prop := ∀ w M v, Wf w M → (∀ x ∈ A.tags, x.2.den w M x.1) → (A.slots s).den w M v → t.den w (eN M tg) v
def C9 (A : As) (tg : Nat) : List (Nat × Ty) → Prop
  | [] => True
  | x :: l => yp A tg x.1 x.2 ∧ C9 A tg l
def oa (l : List (Nat × Ty)) (s : Nat → Ty) : Nat → Ty := fun i => match l with | [] => s i | (d, t) :: l => bif Nat.beq i d then t else oa l s i
def As.qG (A : As) (tg : Nat) (l : List (Nat × Ty)) : As := ⟨oa l (gZ [] [tg] A.slots), mo [] [tg] A.tags⟩
theorem k6 {tg : Nat} (l : List (Nat × Ty)) (h1 : 1 ≤ tg) (hp : fr.pass.contains tg = false) (hl : C9 A tg l) (h : fV P fr c (A.qG tg l) Q) : fV P fr c A Q := fun a w ⟨M, ok, hsl, ht⟩ => by
  have le : Le (· ∈ ([] : List Nat)) (· ∈ [tg]) w M w (eN M tg) := jd
  refine h a w ⟨eN M tg, ⟨xQ ok.wf, Fr.jc ok.base (by intro _ h; cases h) (fun t ht => by simp only [List.mem_singleton] at ht; subst ht; exact ⟨h1, by simpa using hp⟩) le, ok.size, ok.defers.step (by intro _ h; cases h) (fun t ht => by simp only [List.mem_singleton] at ht; subst ht; exact h1) le⟩, fun i hi => ?_, fun x hx => iW le hx fun y hy _ => ht y hy⟩
  have base : (gZ [] [tg] A.slots i).den w (eN M tg) (a.tmps.getD i undef) := by
    rcases ff [] [tg] A.slots i with ⟨e, hdj⟩ | ⟨_, e⟩
    · rw [e]; exact (A.slots i).mono le (fL hdj).1 (fL hdj).2 (hsl i hi)
    · rw [e]; trivial
  show (oa l (gZ [] [tg] A.slots) i).den _ _ _
  clear h
  induction l with
  | nil => exact base
  | cons x l ih =>
    obtain ⟨d, t⟩ := x
    unfold oa
    cases hb : Nat.beq i d with
    | false => simp only [cond_false]; exact ih hl.2
    | true =>
      have : i = d := Nat.eq_of_beq_eq_true hb
      subst this
      simp only [cond_true]
      exact hl.1 w M _ ok.wf ht (hsl i hi)
theorem AH {α : Type} {E : El α} {T tg s : Nat} {xs : List α} (hx : A.slots s = .row E T tg xs) : yp A tg s (.sl E xs) := fun w M v wf _ hd => by
 rw [hx] at hd
 exact vZ wf hd (fun b hb => by simp [eN, hb]) (fun b hb => by simp [eN, hb])
theorem K7 {α : Type} {E : El α} {T tg s n : Nat} {xs : List α} (hx : A.slots s = .vs tg n) (hc : A.tag tg = some (.vec E T xs)) (hn : xs.length = n) (h1 : gI tg) : yp A tg s (.sl E xs) := fun w M v wf ht hd => by
 rw [hx] at hd
 have hv : gu E T xs w M tg := ht _ (dB hc)
 subst hn
 rcases hd with ⟨h0, rfl⟩ | ⟨b, cc, hb, e, hn1, hn2⟩
 ·exact ⟨none, 0, by rw [h0], by omega, by simp [maxLen], fun h => absurd h (by omega)⟩
 refine ⟨_, cc, e, hn1, hn2, fun _ => ⟨b, 0, rfl, by simp [eN, hb], wf.lt b _ hb, fun i t hi => ?_⟩⟩
 obtain ⟨u, hu, hdu⟩ := oX wf h1 hb hv hi
 refine ⟨u, by rw [Nat.zero_add]; exact hu, t.mono (jd (w := w)) ?_ ?_ hdu⟩
 ·intro u hu
  have : u ∈ cN (xs.flatMap E.tys) := List.mem_flatMap.2 ⟨t, List.mem_of_getElem? hi, hu⟩
  rw [E.dM] at this; cases this
 intro u _ h; cases h
theorem mE {T tg s off : Nat} {l : List Ty} (hx : A.slots s = .ptr tg off) (hc : A.tag tg = some (.cells T l)) (hd : kg (cN l) [tg] = true) (h1 : gI tg) : yp A tg s (.pp (l.drop off)) := fun w M v wf ht hv => by
 rw [hx] at hv
 obtain ⟨b, hb, e⟩ := hv
 have hcc : (Cont.cells T l).den w M tg := ht _ (dB hc)
 refine ⟨b, off, e, by simp [eN, hb], wf.lt b _ hb, fun i t hi => ?_⟩
 rw [List.getElem?_drop] at hi
 obtain ⟨u, hu, hdu⟩ := BC wf h1 hb hcc hi
 refine ⟨u, hu, t.mono (jd (w := w)) ?_ ?_ hdu⟩
 ·intro u hu
  exact gA hd u (List.mem_flatMap.2 ⟨t, List.mem_of_getElem? hi, hu⟩)
 intro u _ h; cases h
end
end Go.T
namespace Go.T
open Go Go.RowKit
section
variable {P : Program} {fr : Fr} {ops : Array Oper} {A : As} {rest : List Oper} {K : As → List (As × Fx) → Prop} {d : Nat} {t ty' : TypeId} {p : String} {e : Array Edge}
theorem HI {α : Type} {E : El α} {T tg tg' : Nat} {xs : List α} {w : World} {M M' : bB} {v : Value} (h : gx E T tg xs w M v) (hM : ∀ b, M b = some tg → M' b = some tg') (hn : ∀ b, M b = none → M' b = none) : gx E T tg' xs w M' v := by
 obtain ⟨cs, h1, h2, h3⟩ := h
 refine ⟨cs, h1, ?_, fun g hg => hM g (h3 g hg)⟩
 exact cI (S := fun _ => True) (K := fun _ => True) ⟨Nat.le_refl _, rfl, rfl, rfl, fun b _ hm => ⟨hn b hm, rfl⟩, fun b t _ h => absurd trivial h⟩ (by rw [E.dM]; intro _ h; cases h) (by rw [E.cv]; intro _ h; cases h) h2
end
section
variable {P : Program} {fr : Fr} {ops : Array Oper} {A : As} {rest : List Oper} {K : As → List (As × Fx) → Prop} {d : Nat} {t ty' : TypeId} {p : String} {e : Array Edge} [T : k8 P]
theorem wh {α : Type} {E : El α} {el : Nat} {ti te : TI} (hT : T.e9[ty']? = some ti) (hk : ti.k = .slice el) (hE : T.e9[el]? = some te) (hp : fr.pass.contains (d + 1) = false)
 (h : ak P fr ops rest (A.after { d := some d, ty := .row E el (d + 1) [], K := [d + 1] }) fun A' l' => K A' ((A, { d := some d, ty := .row E el (d + 1) [], K := [d + 1] }) :: l')) :
 ak P fr ops (⟨some d, .buildSlice ty' 0 #[], t, p, e, none⟩ :: rest) A K := by
 refine ⟨_, iB rfl rfl (by simp) (by simp) (by simp at hp ⊢; exact hp) fun a w M wf hr _ => ?_, h⟩
 obtain ⟨_, D, _, hD, hkd, _⟩ := dU hT
 rw [hk] at hkd
 cases D <;> simp only [TK.of, reduceCtorEq, TK.slice.injEq] at hkd
 rename_i el0
 have hel : el0 = el := hkd
 subst hel
 obtain ⟨h1, h2, h3⟩ := lV wf (.cells #[] el0) (d + 1)
 refine ⟨.slice (some ⟨w.heap.size, 0, none⟩) 0 0, w.alloc (.cells #[] el0), ?_, _, h1, h2, ⟨[], ⟨by simp, .inr ⟨w.heap.size, 0, #[], rfl, Nat.zero_le _, iY _ _, Nat.le_refl _, by simp [maxLen], by simp, by simp⟩⟩, trivial, ?_⟩, by simp⟩
 ·simp only [execOp, Instr.buildSlice, Sem.run_bind, run_underlying hD, Result.andThen_ok, dh hE]
  simp [newRow, newObj, Sem.run, Instr.fill, show Array.range 0 = #[] from rfl, Sem.new]
 intro g hg
 simp [Value.ownBlock] at hg
 subst hg; exact h3
end
end Go.T
namespace Go.T
open Go Go.RowKit
def oP (P : Program) (t : Ty) (args : List Ty) (res : Ty) : Prop :=
  res.deps = [] ∧ res.cdeps = [] ∧ ∃ f full, eB P f full res ∧ cN full = [] ∧ bw full = [] ∧
    ∀ w M v vs, t.den w M v → cV w M args vs → ∃ first caps : Array Value, v = .func (.func f) first caps ∧ cV w M full (first.toList ++ (vs ++ caps.toList))
def NT (f : FuncId) (bd : List Ty) (w : World) (M : bB) (x : Value) : Prop := ∃ bs : Array Value, x = .func (.func f) bs #[] ∧ cV w M bd bs.toList
def Ty.MO (f : FuncId) (bd : List Ty) : Ty := ⟨NT f bd, cN bd, bw bd, fun le hk hs ⟨bs, e, h⟩ => ⟨bs, e, cI le hk hs h⟩, true, fun _ ⟨_, e, _⟩ => e ▸ rfl⟩
theorem w6 {l l' : List Ty} : cN (l ++ l') = cN l ++ cN l' := by simp [cN]
theorem uL {l l' : List Ty} : bw (l ++ l') = bw l ++ bw l' := by simp [bw]
theorem dV {P : Program} {f : FuncId} {caps args : List Ty} {res : Ty} (hF : eB P f (args ++ caps) res) (h1 : cN args = []) (h2 : bw args = []) (h3 : cN caps = []) (h4 : bw caps = []) (h5 : res.deps = []) (h6 : res.cdeps = []) : oP P (.jz f caps) args res :=
 ⟨h5, h6, f, args ++ caps, hF, by rw [w6, h1, h3]; rfl, by rw [uL, h2, h4]; rfl, fun w M v vs ⟨cs, e, hd⟩ hv => ⟨#[], cs, e, by show cV w M (args ++ caps) (vs ++ cs.toList); exact eK hv hd⟩⟩
theorem DT {P : Program} {f : FuncId} {bd args : List Ty} {res : Ty} (hF : eB P f (bd ++ args) res) (h1 : cN args = []) (h2 : bw args = []) (h3 : cN bd = []) (h4 : bw bd = []) (h5 : res.deps = []) (h6 : res.cdeps = []) : oP P (.MO f bd) args res :=
 ⟨h5, h6, f, bd ++ args, hF, by rw [w6, h1, h3]; rfl, by rw [uL, h2, h4]; rfl, fun w M v vs ⟨bs, e, hd⟩ hv => ⟨bs, #[], e, by rw [List.append_nil]; exact eK hd hv⟩⟩
section
variable {P : Program} {fr : Fr} {ops : Array Oper} {A : As} {rest : List Oper} {K : As → List (As × Fx) → Prop} {d : Nat} {t ty' : TypeId} {p : String} {e : Array Edge}
theorem FO {f : FuncId} {xs : List Operand} {l : List Ty} (hx : oH A fr xs = l)
 (h : ak P fr ops rest (A.set d (.MO f l)) fun A' l' => K A' ((A, { d := some d, ty := .MO f l, rs := xs.flatMap cR }) :: l')) : ak P fr ops (⟨some d, .makeFunc (.func f) xs.toArray #[], t, p, e, none⟩ :: rest) A K :=
 bP (bW rfl rfl fun a w M _ hr _ => by
  have hv : cV w M l (xs.map a.eval) := hx ▸ gr hr fun x hx c hc => List.mem_flatMap.2 ⟨x, hx, hc⟩
  exact ⟨.func (.func f) (xs.map a.eval).toArray #[], by simp [execOp, Instr.makeFunc], _, rfl, by simpa using hv⟩) h
theorem eX {c : Nat} {tc : Ty} {args : List Ty} {res : Ty} (hc : A.op fr (.tmp c) = tc) (hF : oP P tc args res) {xs : List Operand} {ats : Array TypeId} (hx : oH A fr xs = args)
 (h : ak P fr ops rest (A.set d res) fun A' l => K A' ((A, { d := some d, ty := res, rs := c :: xs.flatMap cR }) :: l)) : ak P fr ops (⟨some d, .call ⟨.value (.tmp c), xs.toArray, ats⟩, t, p, e, none⟩ :: rest) A K := by
 refine ⟨{ d := some d, ty := res, rs := c :: xs.flatMap cR }, ⟨rfl, (by simp), (by simp), (by simp), fun a w M wf _ hrd _ => ?_⟩, h⟩
 rw [if_pos (by simp [Region.wanted])]
 obtain ⟨hr, hrc, f, full, hC, hd, hdc, hval⟩ := hF
 have hcv := cY (x := .tmp c) (fun u hu => by exact (List.mem_singleton.1 hu) ▸ List.mem_cons_self) hrd
 rw [hc] at hcv
 obtain ⟨first, caps, ec, hfull⟩ := hval w M _ _ hcv (hx ▸ gr hrd fun x hx c hc => List.mem_cons_of_mem _ (List.mem_flatMap.2 ⟨x, hx, hc⟩))
 have hcall := hC.2 w _ _ (HS wf) Ab (rS hd hdc hfull)
 have hrun : (execOp a.eval ⟨some d, .call ⟨.value (.tmp c), xs.toArray, ats⟩, t, p, e, none⟩).run P w = .ok (.enter f (first.toList ++ (xs.map a.eval ++ caps.toList)).toArray) w := by
  simp [execOp, resolve, ec, Deferred.ofValue, invoke, n5 hC]
 refine mF hrun ?_
 refine hcall.mono fun en w' ⟨r, M', he, _, le, hden⟩ => ?_
 obtain ⟨h1, h2, h3⟩ := yq wf le hr hrc hden
 exact ⟨r, he, r, rfl, _, h1, h2, h3, by simp⟩
end
end Go.T
namespace Go.T
open Go Go.RowKit
section
variable {P : Program} {fr : Fr} {ops : Array Oper} {A : As} {rest : List Oper} {K : As → List (As × Fx) → Prop} {d : Nat} {t ty' ty2 : TypeId} {p : String} {e : Array Edge} {x y : Operand}
end
end Go.T
namespace Go.T
open Go Go.RowKit
section
variable {P : Program} {fr : Fr} {ops : Array Oper} {A : As} {rest : List Oper} {K : As → List (As × Fx) → Prop} {d : Nat} {t ty' : TypeId} {p : String} {e : Array Edge} [T : k8 P]
variable {α : Type} [Inhabited α] {E : El α} {xs : List α} {x y : Operand} {tg i o s Tb : Nat} {ti : TI} {ty : Ty} {z : α}
theorem ry {off n : Nat} {k : IntKind} {j : Int} {te : TI} {el : Nat} (hx : A.op fr x = .ptr tg off) (hy : A.op fr y = .int k j) (hT : T.e9[ty']? = some ti) (hk : ti.k = .array n el) (hE : T.e9[el]? = some te) (h0 : 0 ≤ j) (h1 : j.toNat < n)
 (h : ak P fr ops rest (A.set d (.ptr tg (off + j.toNat * te.size))) fun A' l' => K A' ((A, { d := some d, ty := .ptr tg (off + j.toNat * te.size), rs := cR x ++ cR y }) :: l')) : ak P fr ops (⟨some d, .indexAddr ty' x y, t, p, e, none⟩ :: rest) A K :=
 bP (bW rfl rfl fun a w M _ hr _ => by
  obtain ⟨hdx, hdy⟩ := op2 hr
  rw [hx] at hdx; rw [hy] at hdy
  obtain ⟨b, hb, ex⟩ := hdx
  have ey : a.eval y = .int k j := hdy
  exact ⟨_, by simp only [execOp, ex, ey, Sem.run_bind, oD hT hk hE h0 h1]; rfl, b, hb, rfl⟩) h
end
end Go.T
namespace Go.T
open Go Go.RowKit
section
variable {P : Program} {fr : Fr} {ops : Array Oper} {A : As} {rest : List Oper} {K : As → List (As × Fx) → Prop} {d : Nat} {t ty' ty2 : TypeId} {p : String} {e : Array Edge} [T : k8 P]
variable {α : Type} [Inhabited α] {E : El α} {xs ys : List α} {x y : Operand} {tg i o s Tb : Nat} {ti : TI} {ty : Ty} {z : α}
theorem iJ (hx : A.op fr x = .ptr tg 0) (hc : A.tag tg = some (.vec E Tb xs)) (h1 : gI tg) (hT : T.e9[ty']? = some ti) (ha : ti.k.agg = true) (hsz : xs.length * E.size = ti.size) (hne : xs ≠ [])
 (h : ak P fr ops rest (A.set d (.arr E xs)) fun A' l' => K A' ((A, { d := some d, ty := .arr E xs, rs := cR x, rt := [tg] }) :: l')) : ak P fr ops (⟨some d, .load ty' x, t, p, e, none⟩ :: rest) A K :=
 bP (bW rfl rfl fun a w M wf hr ht => by
  have _ := (inferInstance : Inhabited α)
  have := cY (x := x) (fun _ h => h) hr
  rw [hx] at this
  obtain ⟨b, hb, e⟩ := this
  rcases sA hc w M ht with h0 | ⟨b', cs, hb', hh, hd⟩
  ·exact absurd h0 hne
  obtain ⟨u, rfl⟩ : ∃ u, tg = u + 1 := ⟨tg - 1, by omega⟩
  have := wf.inj b b' u (by omega) hb hb'
  subst this
  have hlen := cX hd
  rw [dR] at hlen hd
  refine ⟨.agg (cs.toList.take (xs.length * E.size)).toArray, ?_, _, rfl, by simpa using hd⟩
  have := gX (P := P) hT ha (w := w) (b := b) (off := 0) (cs := cs.toList.take (xs.length * E.size)) (by rw [hlen, hsz]) (fun j v hj => by
   rw [List.getElem?_take] at hj
   split at hj
   ·simpa [World.cell?, hh] using hj
   cases hj)
  simp [execOp, e, this]) h
omit T in
theorem L0 {c : Bool} (hE : KZ P ty' (xs.flatMap E.tys) (ys.flatMap E.tys) c) (hx : A.op fr x = .arr E xs) (hy : A.op fr y = .arr E ys)
 (h : ak P fr ops rest (A.set d (.bool c)) fun A' l' => K A' ((A, { d := some d, ty := .bool c, rs := cR x ++ cR y }) :: l')) : ak P fr ops (⟨some d, .binOp .eql ty' x y ty2, t, p, e, none⟩ :: rest) A K :=
 bP (bW rfl rfl fun a w M _ hrd _ => by
  have _ := (inferInstance : Inhabited α)
  obtain ⟨hdx, hdy⟩ := op2 hrd
  rw [hx] at hdx; rw [hy] at hdy
  obtain ⟨cs, ex, h1⟩ := hdx
  obtain ⟨ds, ey, h2⟩ := hdy
  exact ⟨.bool c, by simp only [execOp, ex, ey]; simp [eqGuard, hE.1, binOp, hE.2 w M cs ds h1 h2], rfl⟩) h
theorem BG {l : List Ty} (hx : A.op fr x = .ptr tg 0) (hc : A.tag tg = some (.cells Tb l)) (h1 : gI tg) (hT : T.e9[ty']? = some ti) (hy : A.op fr y = .arr E xs) (hsz : xs.length * E.size = ti.size) (hlen : l.length = ti.size)
 (h : ak P fr ops rest (A.after { d := none, S := [tg], sets := [(tg, .vec E Tb xs)], rs := cR x ++ cR y, rt := [tg] }) fun A' l'' => K A' ((A, { d := none, S := [tg], sets := [(tg, .vec E Tb xs)], rs := cR x ++ cR y, rt := [tg] }) :: l'')) :
 ak P fr ops (⟨none, .store ty' x y, t, p, e, none⟩ :: rest) A K := by
 have _ := (inferInstance : Inhabited α)
 refine ⟨_, l6 rfl rfl rfl (by simp) (by simpa using h1.1) (by simp) fun a w M wf hr ht => ?_, h⟩
 obtain ⟨hdx, hdy⟩ := op2 hr
 rw [hx] at hdx; rw [hy] at hdy
 obtain ⟨b, hb, ex⟩ := hdx
 obtain ⟨vs, ey, hvs⟩ := hdy
 obtain ⟨b', cs, hb', hh, hd⟩ := ht _ (dB hc) (by simp)
 obtain ⟨u, rfl⟩ : ∃ u, tg = u + 1 := ⟨tg - 1, by omega⟩
 have := wf.inj b b' u (by omega) hb hb'
 subst this
 have hl1 := cX hd
 have hl2 := cX hvs
 rw [dR] at hl2
 obtain ⟨h1', h2', h3'⟩ := kV (cs' := vs) (Tb := Tb) wf hb _ rfl
 have hones : ∀ v ∈ vs.toList, v.oneCell' = true := mw hvs (m5 E xs)
 refine ⟨_, ?_, M, h1', h2', trivial, ?_⟩
 ·have hst := jK (P := P) (w := w) (b := b) (Tb := Tb) vs.toList [] cs hh (by simp at hl1 hl2 ⊢; omega) (by simp) hones
  have hsz' : vs.size = ti.size := by simp at hl2; omega
  simp only [List.length_nil, List.nil_append] at hst
  simp [execOp, Instr.storeAt, Instr.sureAddr, ex, ey, storeVar, Value.cells, dh hT, hsz', hst]
 intro z hz
 simp only [List.mem_singleton] at hz
 subst hz
 exact zQ ⟨b, vs, hb, h3', cI h2' (by intro _ _ h; cases h) (by rw [E.cv]; intro _ h; cases h) hvs⟩
end
section
variable {P : Program} {A : As} {fn : Func} {n : Nat} {w0 : World} {M0 : bB} [T : k8 P]
theorem IN {α : Type} {E : El α} {xs : List α} {tm ty tg Tb : Nat} {ti : TI} (hr : fn.results = #[.cell tm ty]) (ht : Nat.blt tm n = true) (hx : A.slots tm = .ptr tg 0) (hc : A.tag tg = some (.vec E Tb xs)) (h1 : gI tg) (hT : T.e9[ty]? = some ti) (ha : ti.k.agg = true) (hsz : xs.length * E.size = ti.size) (hne : xs ≠ []) :
 dm ⟨n, w0, M0, [], .plain⟩ A (bodyPost P fn (mK w0 M0 (.arr E xs)) .ret) := by
 intro a w ⟨M, ok, hsl, htg⟩
 have hd := hsl tm (by simpa using ht)
 rw [hx] at hd
 obtain ⟨b, hb, e⟩ := hd
 have hv : gu E Tb xs w M tg := htg _ (dB hc)
 rcases hv with h0 | ⟨b', cs, hb', hh, hds⟩
 ·exact absurd h0 hne
 obtain ⟨u, rfl⟩ : ∃ u, tg = u + 1 := ⟨tg - 1, by omega⟩
 have := ok.wf.inj b b' u (by omega) hb hb'
 subst this
 have hlen := cX hds
 rw [dR] at hlen hds
 have hload := gX (P := P) hT ha (w := w) (b := b) (off := 0) (cs := cs.toList.take (xs.length * E.size)) (by rw [hlen, hsz]) (fun j v hj => by
  rw [List.getElem?_take] at hj
  split at hj
  ·simpa [World.cell?, hh] using hj
  cases hj)
 have hload' : (loadVar ty ⟨b, 0, none⟩).run P w = .ok (.agg (cs.toList.take (xs.length * E.size)).toArray) w := by simpa [Instr.loadAt, Instr.sureAddr] using hload
 refine ⟨ok.gP (by simp), .agg (cs.toList.take (xs.length * E.size)).toArray, ?_, _, pF M, rfl, rQ ok.wf, oZ (fr := ⟨n, w0, M0, [], .plain⟩) (fun _ h => h) ok.base, (cQ rfl rfl : gl (Ty.arr E xs) (Ty.arr E xs)) _ _ _ ok.wf ⟨_, rfl, by simpa using hds⟩⟩
 have e' : a.tmps.getD tm undef = .pointer (some ⟨b, 0, none⟩) := e
 have e'' : a.tmps[tm]?.getD undef = .pointer (some ⟨b, 0, none⟩) := by rw [← Array.getD_eq_getD_getElem?]; exact e'
 simp [results, hr, e'', asAddr, hload']
end
section
variable {P : Program} {fr : Fr} {ops : Array Oper} {A : As} {rest : List Oper} {K : As → List (As × Fx) → Prop} {d : Nat} {t ty' ty2 : TypeId} {p : String} {e : Array Edge} {x y : Operand}
end
end Go.T
namespace Go.T
open Go Go.RowKit
structure Re (ρ : List (Nat × Nat)) (M M' : bB) : Prop where
  none : ∀ b, M b = none → M' b = none
  some : ∀ x ∈ ρ, ∀ b, M b = some x.1 → M' b = some x.2
def Conv (ρ : List (Nat × Nat)) (s t : Ty) : Prop := ∀ w M M' v, Wf w M → Wf w M' → Re ρ M M' → s.den w M v → t.den w M' v
def lu (ρ : List (Nat × Nat)) : List Ty → List Ty → Prop
  | [], [] => True
  | s :: ss, t :: ts => Conv ρ s t ∧ lu ρ ss ts
  | _, _ => False
theorem bK {ρ : List (Nat × Nat)} : lu ρ [] [] := trivial
theorem aH {ρ : List (Nat × Nat)} {s t : Ty} {ss ts : List Ty} (h' : lu ρ ss ts) (h : Conv ρ s t) : lu ρ (s :: ss) (t :: ts) := ⟨h, h'⟩
theorem kB {ρ : List (Nat × Nat)} {w : World} {M M' : bB} (wf : Wf w M) (wf' : Wf w M') (hre : Re ρ M M') : ∀ {ss ts : List Ty} {vs : List Value}, lu ρ ss ts → cV w M ss vs → cV w M' ts vs
  | [], [], [], _, _ => trivial
  | _ :: _, _ :: _, _ :: _, ⟨h, h'⟩, ⟨h1, h2⟩ => ⟨h _ _ _ _ wf wf' hre h1, kB wf wf' hre h' h2⟩
theorem xj {ρ : List (Nat × Nat)} : ∀ {ss ts : List Ty}, lu ρ ss ts → ∀ (i : Nat) (t : Ty), ts[i]? = some t → ∃ s, ss[i]? = some s ∧ Conv ρ s t
  | [], [], _, i, t, h => by simp at h
  | s :: ss, u :: ts, ⟨h, h'⟩, i, t, ht => by
    cases i with
    | zero => simp at ht; subst ht; exact ⟨s, by simp, h⟩
    | succ i => simp at ht; obtain ⟨x, hx, hc⟩ := xj h' i t ht; exact ⟨x, by simpa using hx, hc⟩
theorem aM {ρ : List (Nat × Nat)} {t : Ty} (h1 : t.deps = []) (h2 : t.cdeps = []) : Conv ρ t t := fun w M M' v _ _ hre h =>
 t.mono (S := fun _ => True) (K := fun _ => True) ⟨Nat.le_refl _, rfl, rfl, rfl, fun b _ hm => ⟨hre.none b hm, rfl⟩, fun b t _ h => absurd trivial h⟩ (by rw [h1]; intro _ h; cases h) (by rw [h2]; intro _ h; cases h) h
theorem n9 {ρ : List (Nat × Nat)} {s t : Ty} (h1 : t.deps = []) (h2 : t.cdeps = []) (h : s = t) : Conv ρ s t := by subst h; exact aM h1 h2
theorem dN {ρ : List (Nat × Nat)} {a b off : Nat} (h : (a, b) ∈ ρ) : Conv ρ (.ptr a off) (.ptr b off) := fun _ _ _ _ _ _ hre ⟨k, hk, e⟩ => ⟨k, hre.some _ h k hk, e⟩
theorem CZ {ρ : List (Nat × Nat)} {α : Type} {E : El α} {T a b : Nat} {xs : List α} (h : (a, b) ∈ ρ) : Conv ρ (.row E T a xs) (.row E T b xs) := fun _ _ _ _ _ _ hre hr =>
 HI hr (fun k hk => hre.some _ h k hk) hre.none
theorem yR {ρ : List (Nat × Nat)} {α : Type} {E : El α} {T b : Nat} : Conv ρ (.ex (.slice none 0 0)) (.row E T b ([] : List α)) := fun _ _ _ _ _ _ _ h => Ty.lI _ _ _ h
theorem HW {ρ : List (Nat × Nat)} {α : Type} {E : El α} : Conv ρ (.ex (.slice none 0 0)) (.sl E ([] : List α)) := fun _ _ _ _ _ _ _ h => Ty.v9 _ _ _ h
theorem eF {ρ : List (Nat × Nat)} {a b n : Nat} (h : (a, b) ∈ ρ) : Conv ρ (.vs a n) (.vs b n) := fun _ _ _ _ _ _ hre hv =>
 hv.imp id fun ⟨k, c, hk, e, h1, h2⟩ => ⟨k, c, hre.some _ h k hk, e, h1, h2⟩
theorem IU {ρ : List (Nat × Nat)} {l l' : List Ty} (h : lu ρ l l') : Conv ρ (.agg l) (.agg l') := fun _ _ _ _ wf wf' hre ⟨cs, e, hd⟩ => ⟨cs, e, kB wf wf' hre h hd⟩
theorem zw {ρ : List (Nat × Nat)} {l l' : List Ty} (h : lu ρ l l') : Conv ρ (.kH l) (.kH l') := fun _ _ _ _ wf wf' hre ⟨cs, e, hd⟩ => ⟨cs, e, kB wf wf' hre h hd⟩
theorem tV {ρ : List (Nat × Nat)} {f : FuncId} {l l' : List Ty} (h : lu ρ l l') : Conv ρ (.jz f l) (.jz f l') := fun _ _ _ _ wf wf' hre ⟨cs, e, hd⟩ => ⟨cs, e, kB wf wf' hre h hd⟩
theorem eW {ρ : List (Nat × Nat)} {l l' : List Ty} (h : lu ρ l l') : Conv ρ (.pp l) (.pp l') := fun _ _ _ _ wf wf' hre ⟨b, off, e, hm, hlt, hd⟩ =>
 ⟨b, off, e, hre.none b hm, hlt, fun i t ht => let ⟨s, hs, hc⟩ := xj h i t ht; let ⟨v, hv, hdv⟩ := hd i s hs; ⟨v, hv, hc _ _ _ _ wf wf' hre hdv⟩⟩
def qI (ρ : List (Nat × Nat)) (a : Nat) (C : Cont) (b : Nat) (D : Cont) : Prop := ∀ w M M', Wf w M → Wf w M' → Re ρ M M' → C.den w M a → D.den w M' b
theorem iw {ρ : List (Nat × Nat)} {a b T : Nat} {l l' : List Ty} (h : (a, b) ∈ ρ) (hc : lu ρ l l') : qI ρ a (.cells T l) b (.cells T l') := fun _ _ _ wf wf' hre ⟨k, cs, h1, h2, h3⟩ =>
 ⟨k, cs, hre.some _ h k h1, h2, kB wf wf' hre hc h3⟩
theorem iK {w : World} {M M' : bB} (hre : ∀ b, M b = none → M' b = none) {l : List Ty} {vs : List Value} (h1 : cN l = []) (h2 : bw l = []) (h : cV w M l vs) : cV w M' l vs :=
 cI (S := fun _ => True) (K := fun _ => True) ⟨Nat.le_refl _, rfl, rfl, rfl, fun b _ hm => ⟨hre b hm, rfl⟩, fun b t _ h => absurd trivial h⟩ (by rw [h1]; intro _ h; cases h) (by rw [h2]; intro _ h; cases h) h
theorem cA {ρ : List (Nat × Nat)} {a b T : Nat} {α : Type} {E : El α} {xs ys : List α} (h : (a, b) ∈ ρ) (e : xs = ys) : qI ρ a (.vec E T xs) b (.vec E T ys) := fun _ _ _ _ _ hre hd => by
 subst e
 exact hd.imp id fun ⟨k, cs, h1, h2, h3⟩ => ⟨k, cs, hre.some _ h k h1, h2, iK hre.none (E.dM _) (E.cv _) h3⟩
theorem ah {ρ : List (Nat × Nat)} {a b T : Nat} {l l' : List Ty} (h : (a, b) ∈ ρ) (h1 : cN l' = []) (h2 : bw l' = []) (e : l = l') : qI ρ a (.cells T l) b (.cells T l') := fun _ _ _ _ _ hre ⟨k, cs, h3, h4, h5⟩ => by
 subst e
 exact ⟨k, cs, hre.some _ h k h3, h4, iK hre.none h1 h2 h5⟩
def cm (F : List Nat) (post : List (Nat × Cont)) (w0 : World) (M0 : bB) (res : Ty) (e : Ending) (w' : World) : Prop :=
  ∃ r M', e = .returned r ∧ Wf w' M' ∧ Le (fun t => 1 ≤ t) (fun t => 1 ≤ t ∧ t ∉ F) w0 M0 w' M' ∧ res.den w' M' r ∧ ∀ x ∈ post, x.2.den w' M' x.1
def eR (P : Program) (f : FuncId) (F : List Nat) (pre : List (Nat × Cont)) (args : List Ty) (post : List (Nat × Cont)) (res : Ty) : Prop :=
  (∃ fn, P.funcs[f]? = some fn ∧ (fn.name == "runtime.NumGoroutine") = false ∧ fn.body.isNone = false) ∧
  ∀ w M vs, Wf w M → cV w M args vs → (∀ x ∈ pre, x.2.den w M x.1) → Calls P f vs.toArray w (cm F post w M res)
section
variable {P : Program} {fr : Fr} {ops : Array Oper} {A : As} {rest : List Oper} {K : As → List (As × Fx) → Prop} {d : Nat} {t ty' : TypeId} {p : String} {e : Array Edge}
def s7 (args : List Ty) (pre : List (Nat × Cont)) : As := ⟨fun c => (args[c]?).getD Ty.any, pre⟩
theorem dw {f : FuncId} {fn : Func} {c : Code} {F : List Nat} {pre post : List (Nat × Cont)} {args : List Ty} {res : Ty} {n : Nat} (hf : P.funcs[f]? = some fn) (hb : fn.body = some c) (hn : (fn.name == "runtime.NumGoroutine") = false) (hnt : fn.ntmps = n) (hl : args.length ≤ n)
    (h : ∀ w0 M0, fV P ⟨n, w0, M0, F, .plain⟩ c (s7 args pre) (bodyPost P fn (cm F post w0 M0 res))) : eR P f F pre args post res := by
  refine ⟨⟨fn, hf, hn, by rw [hb]; rfl⟩, fun w M vs wf hd hpre => calls_of_wp hf hb (wpIn_wide.1 (h w M _ _ ?_))⟩
  have hlen := cX hd
  refine ⟨M, ⟨wf, Le.refl _ _ _ _, by simp [hnt, hlen]; omega, Defs.nil⟩, fun c hc => ?_, hpre⟩
  simp only [s7]
  cases ha : args[c]? with
  | none => trivial
  | some ty =>
    obtain ⟨v, hv, hdv⟩ := dc hd c ty ha
    have : (vs.toArray ++ Array.replicate (fn.ntmps - vs.toArray.size) undef).getD c undef = v := by
      have hlt : c < vs.length := (List.getElem?_eq_some_iff.1 hv).1
      rw [Array.getD_eq_getD_getElem?, Array.getElem?_append_left (by simpa using hlt)]
      simp [hv]
    rw [this]; exact hdv
def oM (L : List Nat) (M : bB) : bB := fun b => match M b with | none => none | some t => if t = 0 ∨ t ∈ L then some t else none
theorem s8 {L : List Nat} {M : bB} {b : Nat} (h : M b = none) : oM L M b = none := by simp [oM, h]
theorem Di {L : List Nat} {M : bB} {b t : Nat} (h : M b = some t) (ht : t = 0 ∨ t ∈ L) : oM L M b = some t := by simp [oM, h, ht]
theorem H7 {L : List Nat} {M : bB} {b t : Nat} (h : M b = some t) (h0 : 1 ≤ t) (ht : t ∉ L) : oM L M b = none := by
 have : ¬ (t = 0 ∨ t ∈ L) := fun h => h.elim (by omega) ht
 simp [oM, h, this]
theorem sV {L : List Nat} {M : bB} {b t : Nat} (h : oM L M b = some t) : M b = some t := by
 unfold oM at h
 split at h
 ·cases h
 rename_i u hu
 split at h
 ·rw [← h]; exact hu
 cases h
theorem nY {L : List Nat} {w : World} {M : bB} (wf : Wf w M) : Wf w (oM L M) :=
 ⟨fun b t h => wf.lt b t (sV h), fun b b' t ht1 h h' => wf.inj b b' t ht1 (sV h) (sV h')⟩
def JE (L : List Nat) : List (Nat × Nat) := L.map fun x => (x, x)
theorem EB {L : List Nat} {M : bB} : Re (JE L) M (oM L M) :=
 ⟨fun b h => s8 h, fun x hx b h => by
  obtain ⟨y, hy, rfl⟩ := List.mem_map.1 hx
  exact Di h (.inr hy)⟩
def xG (L : List Nat) (s t : Ty) : Prop := ∀ w M v, Wf w M → s.den w M v → t.den w (oM L M) v
theorem fS {L : List Nat} {s t : Ty} (h : Conv (JE L) s t) : xG L s t := fun w M v wf hs => h w M _ v wf (nY wf) EB hs
theorem IP {L : List Nat} {α : Type} {E : El α} {T tg : Nat} {xs ys : List α} (h : 1 ≤ tg) (hL : L.contains tg = false) (e : xs = ys) : xG L (Ty.row E T tg xs) (Ty.sl E ys) := fun w M v wf hr => by
 subst e
 exact vZ wf hr (fun b hb => H7 hb h (by simpa using hL)) (fun b hb => s8 hb)
def o9 (A : As) (L : List Nat) : List (Nat × Cont) → Prop
  | [] => True
  | (b, D) :: r => (∃ C, A.tag b = some C ∧ qI (JE L) b C b D) ∧ o9 A L r
theorem fC {L : List Nat} : o9 A L [] := trivial
theorem dy {L : List Nat} {b : Nat} {C D : Cont} {r : List (Nat × Cont)} (h : A.tag b = some C) (hc : qI (JE L) b C b D) (h' : o9 A L r) : o9 A L ((b, D) :: r) := ⟨⟨C, h, hc⟩, h'⟩
theorem su {L : List Nat} {w : World} {M : bB} (wf : Wf w M) (ht : ∀ x ∈ A.tags, x.2.den w M x.1) : ∀ {r : List (Nat × Cont)}, o9 A L r → ∀ x ∈ r, x.2.den w (oM L M) x.1
  | (b, D) :: r, ⟨⟨C, h, hc⟩, h'⟩, x, hx => by
    rcases List.mem_cons.1 hx with rfl | hx
    · exact hc w M _ wf (nY wf) EB (ht _ (dB h))
    · exact su wf ht h' x hx
theorem nD {L : List Nat} {fr : Fr} {w : World} {M : bB} (hL : ∀ t ∈ fr.pass, t ∈ L) (hb : fr.base w M) : Le fr.kd.HM (fun t => 1 ≤ t ∧ t ∉ fr.pass) fr.w0 fr.M0 w (oM L M) :=
 ⟨hb.size, hb.os, hb.tape, hb.out, fun b hlt hm => ⟨s8 (hb.qG b hlt hm).1, (hb.qG b hlt hm).2⟩, fun b t hm ht => by
  obtain ⟨h1, h2⟩ := hb.own b t hm ht
  refine ⟨Di h1 ?_, fun hs => h2 hs⟩
  by_cases h0 : t = 0
  ·exact .inl h0
  refine .inr (hL t ?_)
  by_cases h : t ∈ fr.pass
  ·exact h
  exact absurd ⟨by omega, h⟩ ht⟩
section
variable {fn : Func} {n : Nat} {w0 : World} {M0 : bB} {F : List Nat} {post : List (Nat × Cont)}
theorem Lx (L : List Nat) (hr : fn.results = #[]) (hL : ∀ t ∈ F, t ∈ L) (hp : o9 A L post) : dm ⟨n, w0, M0, F, .plain⟩ A (bodyPost P fn (cm F post w0 M0 (Ty.kH [])) .ret) := by
 intro a w ⟨M, ok, hsl, ht⟩
 exact ⟨ok.gP (by simp), _, results_none hr _ _ _, _, oM L M, rfl, nY ok.wf, nD hL ok.base, ⟨_, rfl, trivial⟩, su ok.wf ht hp⟩
theorem gL (L : List Nat) {tm : Nat} {res : Ty} (hr : fn.results = #[.tmp tm]) (htm : Nat.blt tm n = true) (hL : ∀ t ∈ F, t ∈ L) (hp : o9 A L post) (hs : xG L (A.slots tm) res) : dm ⟨n, w0, M0, F, .plain⟩ A (bodyPost P fn (cm F post w0 M0 res) .ret) := by
 intro a w ⟨M, ok, hsl, ht⟩
 exact ⟨ok.gP (by simp), _, results_tmp hr _ _ _, _, oM L M, rfl, nY ok.wf, nD hL ok.base, hs _ _ _ ok.wf (hsl tm (by simpa using htm)), su ok.wf ht hp⟩
theorem ze (L : List Nat) {t1 t2 : Nat} {r1 r2 : Ty} (hr : fn.results = #[.tmp t1, .tmp t2]) (h1 : Nat.blt t1 n = true) (h2 : Nat.blt t2 n = true) (hL : ∀ t ∈ F, t ∈ L) (hp : o9 A L post) (hs1 : xG L (A.slots t1) r1) (hs2 : xG L (A.slots t2) r2) :
 dm ⟨n, w0, M0, F, .plain⟩ A (bodyPost P fn (cm F post w0 M0 (Ty.kH [r1, r2])) .ret) := by
 intro a w ⟨M, ok, hsl, ht⟩
 exact ⟨ok.gP (by simp), _, results_tmp2 hr _ _ _, _, oM L M, rfl, nY ok.wf, nD hL ok.base, ⟨_, rfl, hs1 _ _ _ ok.wf (hsl t1 (by simpa using h1)), hs2 _ _ _ ok.wf (hsl t2 (by simpa using h2)), trivial⟩, su ok.wf ht hp⟩
end
theorem qK {f : FuncId} {F : List Nat} {pre post : List (Nat × Cont)} {args : List Ty} {res : Ty} (hF : eR P f F pre args post res) (vs : Array Value) (w : World) : (callFunc f vs).run P w = .ok (.enter f vs) w := by
 obtain ⟨⟨fn, hf, hn, hb⟩, _⟩ := hF
 have hn' : fn.name ≠ "runtime.NumGoroutine" := by simpa using hn
 have hb' : fn.body ≠ none := fun h => by rw [h] at hb; cases hb
 simp [callFunc, hf, hn', hb']
def pJ (ρ : List (Nat × Nat)) (M : bB) : bB := fun b => match M b with | none => none | some t => some ((ρ.lookup t).getD 0)
def sO (ρ : List (Nat × Nat)) : Bool := ρ.all fun x => Nat.ble 1 x.1 && (Nat.ble 1 x.2 && (Nat.blt x.1 4096 == Nat.blt x.2 4096 && ρ.all fun y => (x.1 == y.1) == (x.2 == y.2)))
theorem j4 {ρ : List (Nat × Nat)} (h : sO ρ = true) : ∀ x ∈ ρ, 1 ≤ x.1 ∧ 1 ≤ x.2 ∧ ∀ y ∈ ρ, (x.1 = y.1 ↔ x.2 = y.2) := by
 intro x hx
 simp only [sO, List.all_eq_true, Bool.and_eq_true, Nat.ble_eq, beq_iff_eq] at h
 obtain ⟨h1, h2, _, h3⟩ := h x hx
 refine ⟨h1, h2, fun y hy => ?_⟩
 have := h3 y hy
 rw [Bool.eq_iff_iff] at this
 simpa using this
theorem w7 {ρ : List (Nat × Nat)} (h : sO ρ = true) {a b : Nat} (hm : (a, b) ∈ ρ) : a < 4096 ↔ b < 4096 := by
 simp only [sO, List.all_eq_true, Bool.and_eq_true, beq_iff_eq] at h
 have := (h _ hm).2.2.1
 rw [Bool.eq_iff_iff] at this
 simpa using this
theorem jV {ρ : List (Nat × Nat)} {a b : Nat} (h : ρ.lookup a = some b) : (a, b) ∈ ρ := by
  induction ρ with
  | nil => cases h
  | cons x l ih =>
    obtain ⟨k, v⟩ := x
    rw [List.lookup_cons] at h
    by_cases e : a = k
    · subst e; simp at h; subst h; exact List.mem_cons_self
    · have : (a == k) = false := by simpa using e
      rw [this] at h; exact List.mem_cons_of_mem _ (ih h)
theorem pE {ρ : List (Nat × Nat)} (h : sO ρ = true) {a b : Nat} (hm : (a, b) ∈ ρ) : ρ.lookup a = some b := by
  cases hl : ρ.lookup a with
  | none =>
    exfalso
    induction ρ with
    | nil => cases hm
    | cons x l ih =>
      obtain ⟨k, v⟩ := x
      rw [List.lookup_cons] at hl
      by_cases e : a = k
      · subst e; simp at hl
      · have e' : (a == k) = false := by simpa using e
        rw [e'] at hl
        rcases List.mem_cons.1 hm with hm | hm
        · exact e (congrArg Prod.fst hm)
        · refine ih ?_ hm hl
          simp only [sO, List.all_eq_true, List.mem_cons, forall_eq_or_imp, Bool.and_eq_true] at h ⊢
          exact fun x hx => ⟨(h.2 x hx).1, (h.2 x hx).2.1, (h.2 x hx).2.2.1, (h.2 x hx).2.2.2.2⟩
  | some c =>
    have := ((j4 h _ hm).2.2 _ (jV hl)).1 rfl
    exact congrArg some this.symm
theorem wS {ρ : List (Nat × Nat)} {M : bB} {b g : Nat} (h : pJ ρ M b = some g) (h1 : 1 ≤ g) : ∃ t, M b = some t ∧ (t, g) ∈ ρ := by
  unfold pJ at h
  split at h
  · cases h
  · rename_i t ht
    cases hl : ρ.lookup t with
    | none => rw [hl] at h; injection h with h; simp at h; omega
    | some c => rw [hl] at h; injection h with h; simp at h; subst h; exact ⟨t, ht, jV hl⟩
theorem nP {ρ : List (Nat × Nat)} {M : bB} {b : Nat} (h : M b = none) : pJ ρ M b = none := by simp [pJ, h]
theorem Bg {ρ : List (Nat × Nat)} (hr : sO ρ = true) {M : bB} {b t g : Nat} (h : M b = some t) (hm : (t, g) ∈ ρ) : pJ ρ M b = some g := by simp [pJ, h, pE hr hm]
theorem xk {ρ : List (Nat × Nat)} {M : bB} {b t : Nat} (h : M b = some t) (hm : ρ.lookup t = none) : pJ ρ M b = some 0 := by simp [pJ, h, hm]
theorem Ff {ρ : List (Nat × Nat)} (hr : sO ρ = true) {w : World} {M : bB} (wf : Wf w M) : Wf w (pJ ρ M) := by
  refine ⟨fun b t h => ?_, fun b b' t ht1 h h' => ?_⟩
  · cases hm : M b with
    | none => rw [nP hm] at h; cases h
    | some u => exact wf.lt b u hm
  · obtain ⟨u, hu, m⟩ := wS h (by omega)
    obtain ⟨u', hu', m'⟩ := wS h' (by omega)
    have e : u = u' := ((j4 hr _ m).2.2 _ m').2 rfl
    subst e
    obtain ⟨v, rfl⟩ : ∃ v, u = v + 1 := ⟨u - 1, by have := (j4 hr _ m).1; omega⟩
    exact wf.inj b b' v (by have := w7 hr m; omega) hu hu'
theorem Bf {ρ : List (Nat × Nat)} (hr : sO ρ = true) {M : bB} : Re ρ M (pJ ρ M) := ⟨fun _ h => nP h, fun _ hx _ h => Bg hr h hx⟩
def kr (ρ : List (Nat × Nat)) : List (Nat × Nat) := ρ.map fun x => (x.2, x.1)
theorem Jm {ρ : List (Nat × Nat)} (h : sO ρ = true) : sO (kr ρ) = true := by
 simp only [sO, kr, List.all_eq_true, Bool.and_eq_true, List.mem_map] at h ⊢
 rintro _ ⟨x, hx, rfl⟩
 obtain ⟨h1, h2, h4, h3⟩ := h x hx
 refine ⟨h2, h1, by simpa using (beq_iff_eq.1 h4).symm, ?_⟩
 rintro _ ⟨y, hy, rfl⟩
 have := h3 y hy
 simp only [beq_iff_eq] at this ⊢
 exact this.symm
def pL (w : World) (ρ : List (Nat × Nat)) (mv : List Nat) (M M' : bB) : bB := fun b =>
  if b < w.heap.size ∧ (∀ t, M b = some t → t ∉ mv) then M b else (M' b).bind fun g => (kr ρ).lookup g
theorem C7 {ρ : List (Nat × Nat)} {mv F : List Nat} {w w' : World} {M M' : bB} (hr : sO ρ = true) (hmv : ∀ x ∈ ρ, x.1 ∈ mv ∨ x.2 ∈ F) (hmr : ∀ t ∈ mv, ∃ g, (t, g) ∈ ρ) (wf : Wf w M) (wf' : Wf w' M') (le : Le (fun t => 1 ≤ t) (fun t => 1 ≤ t ∧ t ∉ F) w (pJ ρ M) w' M') :
    Wf w' (pL w ρ mv M M') ∧ Le (· ∈ ρ.map Prod.fst) (· ∈ mv) w M w' (pL w ρ mv M M') ∧ Re (kr ρ) M' (pL w ρ mv M M') := by
  have hsw := Jm hr
  have memsw : ∀ {t g : Nat}, (t, g) ∈ ρ → (g, t) ∈ kr ρ := fun h => List.mem_map.2 ⟨_, h, rfl⟩
  have memsw' : ∀ {t g : Nat}, (g, t) ∈ kr ρ → (t, g) ∈ ρ := fun h => by
    obtain ⟨⟨a, b⟩, hx, he⟩ := List.mem_map.1 h
    injection he with h1 h2
    subst h1; subst h2; exact hx
  -- an old block whose tag stays
  have old : ∀ b t, M b = some t → t ∉ mv → M' b = some ((ρ.lookup t).getD 0) := fun b t hm hn => by
    cases hl : ρ.lookup t with
    | none => exact (le.own b 0 (xk hm hl) (by omega)).1
    | some g =>
      have hx := jV hl
      have hg : g ∈ F := (hmv _ hx).resolve_left hn
      exact (le.own b g (Bg hr hm hx) (fun h => h.2 hg)).1
  have key : ∀ b, M' b = none → pL w ρ mv M M' b = none := fun b h => by
    unfold pL
    split
    · rename_i hc
      cases hm : M b with
      | none => rfl
      | some t => rw [old b t hm (hc.2 t hm)] at h; cases h
    · rw [h]; rfl
  have key2 : ∀ t g, (t, g) ∈ ρ → ∀ b, M' b = some g → pL w ρ mv M M' b = some t := fun t g hx b h => by
    have h1 := (j4 hr _ hx)
    unfold pL
    split
    · rename_i hc
      cases hm : M b with
      | none =>
        have := (le.qG b hc.1 (nP hm)).1
        rw [this] at h; cases h
      | some u =>
        have h2 := old b u hm (hc.2 u hm)
        rw [h2] at h
        injection h with h
        cases hl : ρ.lookup u with
        | none => rw [hl] at h; simp at h; omega
        | some c =>
          rw [hl] at h; simp at h; subst h
          have := (h1.2.2 _ (jV hl)).2 rfl
          exact congrArg some this.symm
    · rw [h]; exact pE hsw (memsw hx)
  refine ⟨⟨fun b t h => ?_, fun b b' t ht1 h h' => ?_⟩, ⟨le.size, le.os, le.tape, le.out, fun b hb hm => ?_, fun b t hm hk => ?_⟩, ⟨key, fun x hx b h => key2 _ _ (memsw' hx) b h⟩⟩
  · unfold pL at h
    split at h
    · rename_i hc; exact Nat.lt_of_lt_of_le hc.1 le.size
    · obtain ⟨g, hg, _⟩ := Option.bind_eq_some_iff.1 h
      exact wf'.lt b g hg
  · -- injective
    have part : ∀ b, pL w ρ mv M M' b = some (t + 1) → (M b = some (t + 1) ∧ t + 1 ∉ mv) ∨ ∃ g, (t + 1, g) ∈ ρ ∧ M' b = some g ∧ 1 ≤ g := fun b h => by
      unfold pL at h
      split at h
      · rename_i hc; exact .inl ⟨h, hc.2 _ h⟩
      · obtain ⟨g, hg, hl⟩ := Option.bind_eq_some_iff.1 h
        have hx := memsw' (jV hl)
        exact .inr ⟨g, hx, hg, (j4 hr _ hx).2.1⟩
    have both : ∀ b b' g, (t + 1, g) ∈ ρ → M' b = some g → 1 ≤ g → (M b' = some (t + 1) ∧ t + 1 ∉ mv) → b = b' := fun b b' g hx hg h1 ⟨hm, hn⟩ => by
      have h2 := old b' _ hm hn
      rw [pE hr hx] at h2
      simp at h2
      obtain ⟨v, rfl⟩ : ∃ v, g = v + 1 := ⟨g - 1, by omega⟩
      exact wf'.inj b b' v (by have := w7 hr hx; omega) hg h2
    rcases part b h with h1 | ⟨g, hx, hg, h1⟩ <;> rcases part b' h' with h2 | ⟨g', hx', hg', h2⟩
    · exact wf.inj b b' t ht1 h1.1 h2.1
    · exact (both b' b g' hx' hg' h2 h1).symm
    · exact both b b' g hx hg h1 h2
    · have : g = g' := ((j4 hr _ hx).2.2 _ hx').1 rfl
      subst this
      obtain ⟨v, rfl⟩ : ∃ v, g = v + 1 := ⟨g - 1, by omega⟩
      exact wf'.inj b b' v (by have := w7 hr hx; omega) hg hg'
  · obtain ⟨h1, h2⟩ := le.qG b hb (nP hm)
    exact ⟨key b h1, h2⟩
  · have hb := wf.lt b t hm
    refine ⟨?_, fun hs => ?_⟩
    · unfold pL
      rw [if_pos ⟨hb, fun u hu => by rw [hm] at hu; injection hu with hu; exact hu ▸ hk⟩]; exact hm
    · have hl : ρ.lookup t = none := by
        cases hl : ρ.lookup t with
        | none => rfl
        | some c => exact absurd (List.mem_map.2 ⟨_, jV hl, rfl⟩) hs
      exact (le.own b 0 (xk hm hl) (by omega)).2 (by omega)
def NF (fr : Fr) (ρ : List (Nat × Nat)) (mv F : List Nat) : Bool :=
  sO ρ && (ρ.all (fun x => mv.contains x.1 || F.contains x.2) && mv.all fun t => Nat.ble 1 t && (!fr.pass.contains t && ρ.any fun x => x.1 == t))
def Mr (d : Option Nat) (res : Ty) (ρ : List (Nat × Nat)) (mv : List Nat) (sets : List (Nat × Cont)) (rs : List Nat) : Fx := { d := d, ty := res, S := ρ.map Prod.fst, K := mv, sets := sets, rs := rs, rt := ρ.map Prod.fst }
def uO (A : As) (ρ : List (Nat × Nat)) : List (Nat × Cont) → Prop
  | [] => True
  | (b, D) :: r => (∃ a C, (a, b) ∈ ρ ∧ A.tag a = some C ∧ qI ρ a C b D) ∧ uO A ρ r
theorem pre_nil {ρ : List (Nat × Nat)} : uO A ρ [] := trivial
theorem bq {ρ : List (Nat × Nat)} {a b : Nat} {C D : Cont} {r : List (Nat × Cont)} (hm : (a, b) ∈ ρ) (h : A.tag a = some C) (hc : qI ρ a C b D) (h' : uO A ρ r) : uO A ρ ((b, D) :: r) := ⟨⟨a, C, hm, h, hc⟩, h'⟩
theorem Dj {ρ : List (Nat × Nat)} {w : World} {M M' : bB} (wf : Wf w M) (wf' : Wf w M') (hre : Re ρ M M') (ht : ∀ x ∈ A.tags, x.1 ∈ ρ.map Prod.fst → x.2.den w M x.1) : ∀ {r : List (Nat × Cont)}, uO A ρ r → ∀ x ∈ r, x.2.den w M' x.1
  | (b, D) :: r, ⟨⟨a, C, hm, h, hc⟩, h'⟩, x, hx => by
    rcases List.mem_cons.1 hx with rfl | hx
    · exact hc w M M' wf wf' hre (ht _ (dB h) (List.mem_map.2 ⟨_, hm, rfl⟩))
    · exact Dj wf wf' hre ht h' x hx
def nv (post : List (Nat × Cont)) (ρ : List (Nat × Nat)) : List (Nat × Cont) → Prop
  | [] => True
  | (a, D) :: r => (∃ b C, (a, b) ∈ ρ ∧ post.lookup b = some C ∧ qI (kr ρ) b C a D) ∧ nv post ρ r
theorem post_nil {ρ : List (Nat × Nat)} {post : List (Nat × Cont)} : nv post ρ [] := trivial
theorem bG {ρ : List (Nat × Nat)} {a b : Nat} {C D : Cont} {post r : List (Nat × Cont)} (hm : (a, b) ∈ ρ) (h : post.lookup b = some C) (hc : qI (kr ρ) b C a D) (h' : nv post ρ r) : nv post ρ ((a, D) :: r) := ⟨⟨b, C, hm, h, hc⟩, h'⟩
theorem Ax {ρ : List (Nat × Nat)} {post : List (Nat × Cont)} {w : World} {M M' : bB} (wf : Wf w M) (wf' : Wf w M') (hre : Re (kr ρ) M M') (ht : ∀ x ∈ post, x.2.den w M x.1) : ∀ {r : List (Nat × Cont)}, nv post ρ r → ∀ x ∈ r, x.1 ∈ ρ.map Prod.fst ∧ x.2.den w M' x.1
  | (a, D) :: r, ⟨⟨b, C, hm, h, hc⟩, h'⟩, x, hx => by
    rcases List.mem_cons.1 hx with rfl | hx
    · exact ⟨List.mem_map.2 ⟨_, hm, rfl⟩, hc w M M' wf wf' hre (ht _ (dB (A := ⟨fun _ => Ty.any, post⟩) h))⟩
    · exact Ax wf wf' hre ht h' x hx
theorem yD {ρ : List (Nat × Nat)} {post : List (Nat × Cont)} : ∀ {r : List (Nat × Cont)}, nv post ρ r → ∀ x ∈ r, x.1 ∈ ρ.map Prod.fst
  | (a, D) :: r, ⟨⟨b, C, hm, h, hc⟩, h'⟩, x, hx => by
    rcases List.mem_cons.1 hx with rfl | hx
    · exact List.mem_map.2 ⟨_, hm, rfl⟩
    · exact yD h' x hx
theorem xp (ρ : List (Nat × Nat)) (mv : List Nat) {f : FuncId} {F : List Nat} {pre post sets : List (Nat × Cont)} {args ss : List Ty} {res res' : Ty} (hF : eR P f F pre args post res) {dst : Option Nat} {call : Call} {rs : List Nat}
 (hrun : ∀ (a : Act) w M, Wf w M → (∀ c ∈ rs, c < fr.n → (A.slots c).den w M (a.tmps.getD c undef)) → ∃ vs : List Value, (execOp a.eval ⟨dst, .call call, t, p, e, none⟩).run P w = .ok (.enter f vs.toArray) w ∧ cV w M ss vs)
 (hok : NF fr ρ mv F = true) (ha : lu ρ ss args) (hpre : uO A ρ pre) (hpost : nv post ρ sets) (hres : Conv (kr ρ) res res') :
 wo P fr ops ⟨dst, .call call, t, p, e, none⟩ A (Mr dst res' ρ mv sets rs) := by
 simp only [NF, Bool.and_eq_true] at hok
 obtain ⟨hr, hmv, hmr⟩ := hok
 simp only [List.all_eq_true, Bool.or_eq_true, List.contains_iff_mem] at hmv
 simp only [List.all_eq_true, Bool.and_eq_true, Nat.ble_eq, List.any_eq_true, beq_iff_eq, Bool.not_eq_true', ← Bool.not_eq_true, List.contains_iff_mem] at hmr
 refine ⟨rfl, fun x hx => .inl (yD hpost x hx), fun u hu => ?_, fun u hu => ⟨(hmr u hu).1, (hmr u hu).2.1⟩, fun a w M wf _ hrd htg => ?_⟩
 ·obtain ⟨x, hx, rfl⟩ := List.mem_map.1 hu
  exact (j4 hr x hx).1
 rw [if_pos (by simp [Region.wanted])]
 obtain ⟨vs, hrun, hd⟩ := hrun a w M wf hrd
 have wfg := Ff hr wf
 have hc := hF.2 w _ vs wfg (kB wf wfg (Bf hr) ha hd) (Dj wf wfg (Bf hr) htg hpre)
 refine mF hrun ?_
 refine hc.mono fun en w' ⟨r, M', he, wf', le, hden, hp⟩ => ?_
 obtain ⟨h1, h2, h3⟩ := C7 (mv := mv) hr hmv (fun u hu => by obtain ⟨x, hx, e⟩ := (hmr u hu).2.2; exact ⟨x.2, by rw [← e]; exact hx⟩) wf wf' le
 exact ⟨r, he, r, rfl, _, h1, h2, hres _ _ _ _ wf' h1 h3 hden, fun x hx => (Ax wf' h1 h3 hp hpost x hx).2⟩
theorem xD {f : FuncId} {F : List Nat} {pre post : List (Nat × Cont)} {args : List Ty} {res : Ty} (hF : eR P f F pre args post res) {dst : Option Nat} {xs : List Operand} {ats : Array TypeId} {ss : List Ty} (hx : oH A fr xs = ss) (a : Act) (w : World) (M : bB) (_ : Wf w M)
 (hrd : ∀ c ∈ xs.flatMap cR, c < fr.n → (A.slots c).den w M (a.tmps.getD c undef)) : ∃ vs : List Value, (execOp a.eval ⟨dst, .call ⟨.value (.func f), xs.toArray, ats⟩, t, p, e, none⟩).run P w = .ok (.enter f vs.toArray) w ∧ cV w M ss vs := by
 refine ⟨xs.map a.eval, ?_, hx ▸ gr hrd fun x hx c hc => List.mem_flatMap.2 ⟨x, hx, hc⟩⟩
 simp [execOp, resolve, Act.eval, Deferred.ofValue, invoke, qK hF]
theorem bu (ρ : List (Nat × Nat)) (mv : List Nat) (sets : List (Nat × Cont)) {f : FuncId} {F : List Nat} {pre post : List (Nat × Cont)} {args ss : List Ty} {res res' : Ty} (hF : eR P f F pre args post res) {dst : Option Nat} {xs : List Operand} {ats : Array TypeId}
 (hx : oH A fr xs = ss) (hok : NF fr ρ mv F = true) (ha : lu ρ ss args) (hpre : uO A ρ pre) (hpost : nv post ρ sets) (hres : Conv (kr ρ) res res')
 (h : ak P fr ops rest (A.after (Mr dst res' ρ mv sets (xs.flatMap cR))) fun A' l => K A' ((A, Mr dst res' ρ mv sets (xs.flatMap cR)) :: l)) : ak P fr ops (⟨dst, .call ⟨.value (.func f), xs.toArray, ats⟩, t, p, e, none⟩ :: rest) A K :=
 ⟨_, xp ρ mv hF (xD hF hx) hok ha hpre hpost hres, h⟩
theorem vO {c : Nat} {f : FuncId} {F : List Nat} {pre post : List (Nat × Cont)} {args caps : List Ty} {res : Ty} (hc : A.op fr (.tmp c) = .jz f caps) (hF : eR P f F pre args post res) {dst : Option Nat} {xs : List Operand} {ats : Array TypeId} {ss : List Ty} (hx : oH A fr xs ++ caps = ss) (a : Act) (w : World) (M : bB) (_ : Wf w M)
 (hrd : ∀ u ∈ c :: xs.flatMap cR, u < fr.n → (A.slots u).den w M (a.tmps.getD u undef)) : ∃ vs : List Value, (execOp a.eval ⟨dst, .call ⟨.value (.tmp c), xs.toArray, ats⟩, t, p, e, none⟩).run P w = .ok (.enter f vs.toArray) w ∧ cV w M ss vs := by
 have hcv := cY (x := .tmp c) (fun u hu => by exact (List.mem_singleton.1 hu) ▸ List.mem_cons_self) hrd
 rw [hc] at hcv
 obtain ⟨cs, ec, hcs⟩ := hcv
 refine ⟨xs.map a.eval ++ cs.toList, ?_, hx ▸ eK (gr hrd fun x hx c hc => List.mem_cons_of_mem _ (List.mem_flatMap.2 ⟨x, hx, hc⟩)) hcs⟩
 simp [execOp, resolve, ec, Deferred.ofValue, invoke, qK hF]
theorem B6 (ρ : List (Nat × Nat)) (mv : List Nat) (sets : List (Nat × Cont)) {c : Nat} {f : FuncId} {F : List Nat} {pre post : List (Nat × Cont)} {args caps ss : List Ty} {res res' : Ty} (hc : A.op fr (.tmp c) = .jz f caps) (hF : eR P f F pre args post res) {dst : Option Nat} {xs : List Operand} {ats : Array TypeId}
 (hx : oH A fr xs ++ caps = ss) (hok : NF fr ρ mv F = true) (ha : lu ρ ss args) (hpre : uO A ρ pre) (hpost : nv post ρ sets) (hres : Conv (kr ρ) res res')
 (h : ak P fr ops rest (A.after (Mr dst res' ρ mv sets (c :: xs.flatMap cR))) fun A' l => K A' ((A, Mr dst res' ρ mv sets (c :: xs.flatMap cR)) :: l)) : ak P fr ops (⟨dst, .call ⟨.value (.tmp c), xs.toArray, ats⟩, t, p, e, none⟩ :: rest) A K :=
 ⟨_, xp ρ mv hF (vO hc hF hx) hok ha hpre hpost hres, h⟩
end
end Go.T
namespace Go.T
open Go Go.RowKit
def eT {κ β : Type} [DecidableEq κ] : List (κ × β) → κ → Option β
  | [], _ => none
  | x :: l, k => if x.1 = k then some x.2 else eT l k
def gm {κ β : Type} [DecidableEq κ] : List (κ × β) → κ → β → List (κ × β)
  | [], k, v => [(k, v)]
  | x :: l, k, v => if x.1 = k then (k, v) :: l else x :: gm l k v
theorem ym {κ β : Type} [DecidableEq κ] (l : List (κ × β)) (k : κ) (v : β) (k' : κ) : eT (gm l k v) k' = if k = k' then some v else eT l k' := by
  induction l with
  | nil => simp [gm, eT]
  | cons x l ih =>
    simp only [gm]
    by_cases h : x.1 = k
    · subst h; simp only [if_true, eT]; by_cases h2 : x.1 = k' <;> simp [h2]
    · rw [if_neg h]; simp only [eT, ih]
      by_cases h2 : x.1 = k'
      · subst h2; rw [if_pos rfl, if_pos rfl, if_neg (fun e => h e.symm)]
      · rw [if_neg h2, if_neg h2]
structure xF (P : Program) (kt : TypeId) (κ : Type) [DecidableEq κ] where
  enc : κ → Value
  find : ∀ (k : κ) (ks : List κ) (es : List MapEntry) (w : World), es.map (·.key) = ks.map enc →
    (Instr.findKey kt (enc k) es).run P w = .ok ((ks.findIdx? (fun x => decide (x = k))).bind fun i => (es[i]?).map fun e => (i, e.val)) w
  check : ∀ (b : Bool) (k : κ) (w : World), (Instr.checkKey b 10000 kt (enc k)).run P w = .ok () w
  same : ∀ k, Instr.sameBits 10000 (enc k) (enc k) = true
theorem uB (kt : IntKind) (k : Int) : ∀ (ks : List Int) (es : List MapEntry) (i : Nat), es.map (·.key) = ks.map (Value.int kt) →
    Instr.findNow (.int kt) (.int kt k) es i = some ((ks.findIdx? (fun x => decide (x = k))).bind fun j => (es[j]?).map fun e => (i + j, e.val))
  | [], [], i, _ => rfl
  | [], e :: es, i, h => by cases h
  | x :: ks, [], i, h => by cases h
  | x :: ks, e :: es, i, h => by
    simp only [List.map_cons, List.cons.injEq] at h
    obtain ⟨h1, h2⟩ := h
    rw [Instr.findNow, h1]
    simp only [Instr.sameNow, if_true]
    by_cases hx : x = k
    · subst hx; simp [List.findIdx?_cons]
    · have hb : (k == x) = false := by rw [beq_eq_false_iff_ne]; exact fun e => hx e.symm
      rw [hb, uB kt k ks es (i + 1) h2]
      simp only [List.findIdx?_cons, decide_eq_false hx, Bool.false_eq_true, if_false]
      cases (ks.findIdx? fun x => decide (x = k)) with
      | none => rfl
      | some j => simp [Nat.add_assoc, Nat.add_comm]; rw [show j + (i + 1) = i + (j + 1) from by omega]
theorem E5 {P : Program} (kt : TypeId) (q : IntKind) (h : P.underlying kt = some (.int q)) (b : Bool) (k : Int) (n : Nat) (w : World) : (Instr.checkKey b (n + 1) kt (.int q k)).run P w = .ok () w := by simp [Instr.checkKey, underlying, h]
theorem HY (q : IntKind) (k : Int) (n : Nat) : Instr.sameBits n (.int q k) (.int q k) = true := by cases n <;> simp [Instr.sameBits]
def LB (P : Program) (kt : TypeId) (q : IntKind) (h : P.underlying kt = some (.int q)) : xF P kt Int where
  enc := Value.int q
  find k ks es w he := by
    have := uB q k ks es 0 he
    simp [Instr.findKey, underlying, h, this]
  check b k w := E5 kt q h b k 9999 w
  same k := HY q k 10000
section
variable {κ β : Type} [DecidableEq κ]
def xS (enc : κ → Value) (vt : β → Ty) (kvs : List (κ × β)) (w : World) (M : bB) (b : Nat) : Prop :=
  ∃ es clock, w.heap[b]? = some (.map es clock) ∧ es.toList.map (·.key) = kvs.map (fun x => enc x.1) ∧ cV w M (kvs.map fun x => vt x.2) (es.toList.map (·.val))
theorem qV {enc : κ → Value} {vt : β → Ty} (hv : ∀ v, (vt v).deps = [] ∧ (vt v).cdeps = []) {kvs : List (κ × β)} {S K : Nat → Prop} {w w' : World} {M M' : bB} {b : Nat} (le : Le S K w M w' M') (hb : w'.heap[b]? = w.heap[b]?) (h : xS enc vt kvs w M b) : xS enc vt kvs w' M' b := by
 have _ := (inferInstance : DecidableEq κ)
 obtain ⟨es, clock, h1, h2, h3⟩ := h
 refine ⟨es, clock, hb.trans h1, h2, cI le (fun u hu => ?_) (fun u hu => ?_) h3⟩
 ·simp only [cN, List.mem_flatMap, List.mem_map] at hu
  obtain ⟨t, ⟨x, _, rfl⟩, hu⟩ := hu
  rw [(hv x.2).1] at hu; cases hu
 simp only [bw, List.mem_flatMap, List.mem_map] at hu
 obtain ⟨t, ⟨x, _, rfl⟩, hu⟩ := hu
 rw [(hv x.2).2] at hu; cases hu
structure VT (β : Type) where
  ty : β → Ty
  nodeps : ∀ v, (ty v).deps = [] ∧ (ty v).cdeps = []
def jM (enc : κ → Value) (V : VT β) (kvs : List (κ × β)) (w : World) (M : bB) (t : Nat) : Prop := ∃ b, M b = some t ∧ xS enc V.ty kvs w M b
def Cont.mp (enc : κ → Value) (V : VT β) (kvs : List (κ × β)) : Cont :=
  { den := jM enc V kvs
    mono := fun le _ _ hs hk ⟨b, h1, h2⟩ => let ⟨h3, h4⟩ := le.own b _ h1 hk; ⟨b, h3, qV V.nodeps le (h4 hs) h2⟩ }
theorem Cont.vc {enc : κ → Value} {V : VT β} {k1 k2 : List (κ × β)} (h : k1 = k2) : (Cont.mp enc V k1).Sub (Cont.mp enc V k2) := by subst h; exact Cont.aE _
def qZ (tg : Nat) (_ : World) (M : bB) (v : Value) : Prop := ∃ b, v = .map (some b) ∧ M b = some tg
def Ty.mp (tg : Nat) : Ty := ⟨qZ tg, [tg], [], fun le hk _ ⟨b, e, h⟩ => ⟨b, e, (le.own b tg h (hk tg (by simp))).1⟩, true, fun _ ⟨_, e, _⟩ => e ▸ rfl⟩
def q6 (enc : κ → Value) (V : VT β) (kvs : List (κ × β)) (w : World) (M : bB) (v : Value) : Prop := ∃ b, v = .map (some b) ∧ M b = none ∧ b < w.heap.size ∧ xS enc V.ty kvs w M b
def Ty.pm (enc : κ → Value) (V : VT β) (kvs : List (κ × β)) : Ty := ⟨q6 enc V kvs, [], [], fun le _ _ ⟨b, e, h, hb, h2⟩ => let ⟨h3, h4⟩ := le.qG b hb h; ⟨b, e, h3, Nat.lt_of_lt_of_le hb le.size, qV V.nodeps le h4 h2⟩, true, fun _ ⟨_, e, _⟩ => e ▸ rfl⟩
end
section
variable {P : Program} {κ β : Type} [DecidableEq κ]
theorem pM (kvs : List (κ × β)) (k : κ) (i : Nat) (h : (kvs.map Prod.fst).findIdx? (fun x => decide (x = k)) = some i) : ∃ v, kvs[i]? = some (k, v) ∧ eT kvs k = some v ∧ ∀ z, gm kvs k z = kvs.set i (k, z) := by
  induction kvs generalizing i with
  | nil => cases h
  | cons x l ih =>
    rw [List.map_cons, List.findIdx?_cons] at h
    by_cases hx : x.1 = k
    · subst hx
      simp at h; subst h
      exact ⟨x.2, by simp, by simp [eT], fun z => by simp [gm]⟩
    · rw [decide_eq_false hx] at h
      simp only [Bool.false_eq_true, if_false, Option.map_eq_some_iff] at h
      obtain ⟨j, hj, rfl⟩ := h
      obtain ⟨v, h1, h2, h3⟩ := ih j hj
      exact ⟨v, by simpa using h1, by simp [eT, hx, h2], fun z => by simp [gm, hx, h3]⟩
theorem pN (kvs : List (κ × β)) (k : κ) (h : (kvs.map Prod.fst).findIdx? (fun x => decide (x = k)) = none) : eT kvs k = none ∧ ∀ z, gm kvs k z = kvs ++ [(k, z)] := by
  induction kvs with
  | nil => exact ⟨rfl, fun _ => rfl⟩
  | cons x l ih =>
    rw [List.map_cons, List.findIdx?_cons] at h
    by_cases hx : x.1 = k
    · simp [hx] at h
    · rw [decide_eq_false hx] at h
      simp only [Bool.false_eq_true, if_false, Option.map_eq_none_iff] at h
      obtain ⟨h1, h2⟩ := ih h
      exact ⟨by simp [eT, hx, h1], fun z => by simp [gm, hx, h2]⟩
theorem rK {kt : TypeId} (KK : xF P kt κ) {vt : β → Ty} {kvs : List (κ × β)} {w : World} {M : bB} {es : Array MapEntry} (h2 : es.toList.map (·.key) = kvs.map (fun x => KK.enc x.1)) (h3 : cV w M (kvs.map fun x => vt x.2) (es.toList.map (·.val))) (k : κ) :
    (∃ i v e, (kvs.map Prod.fst).findIdx? (fun x => decide (x = k)) = some i ∧ eT kvs k = some v ∧ es[i]? = some e ∧ e.key = KK.enc k ∧ (vt v).den w M e.val ∧ (Instr.findKey kt (KK.enc k) es.toList).run P w = .ok (some (i, e.val)) w) ∨
    ((kvs.map Prod.fst).findIdx? (fun x => decide (x = k)) = none ∧ eT kvs k = none ∧ (Instr.findKey kt (KK.enc k) es.toList).run P w = .ok none w) := by
  have hf := KK.find k (kvs.map Prod.fst) es.toList w (by rw [h2, List.map_map]; rfl)
  cases hi : (kvs.map Prod.fst).findIdx? (fun x => decide (x = k)) with
  | none => right; rw [hi] at hf; exact ⟨rfl, (pN kvs k hi).1, hf⟩
  | some i =>
    left
    rw [hi] at hf
    obtain ⟨v, hv, hg, _⟩ := pM kvs k i hi
    have hl : i < es.toList.length := by
      have := congrArg List.length h2
      rw [List.length_map, List.length_map] at this
      rw [this]; exact (List.getElem?_eq_some_iff.1 hv).1
    obtain ⟨u, hu, hd⟩ := dc h3 i (vt v) (by rw [List.getElem?_map, hv]; rfl)
    rw [List.getElem?_map, List.getElem?_eq_getElem hl] at hu
    injection hu with hu
    have hk := congrArg (fun l : List Value => l[i]?) h2
    simp only [List.getElem?_map, hv, List.getElem?_eq_getElem hl, Option.map_some] at hk
    injection hk with hk
    refine ⟨i, v, es.toList[i], rfl, hg, ?_, hk, hu ▸ hd, ?_⟩
    · rw [← Array.getElem?_toList, List.getElem?_eq_getElem hl]
    · rw [hf]; show Result.ok ((es.toList[i]?).map _) w = _; rw [List.getElem?_eq_getElem hl]; rfl
end
def zeroOf (P : Program) (t : TypeId) : Option Value := (P.info? t).bind (·.zero)
theorem vl {P : Program} {t : TypeId} {z : Value} (h : zeroOf P t = some z) (w : World) : (zeroValue t).run P w = .ok z w := by
  unfold zeroOf at h
  cases hi : P.info? t with
  | none => rw [hi] at h; cases h
  | some i =>
    rw [hi] at h
    have h' : i.zero = some z := h
    simp [zeroValue, typeInfo, hi, h']
def mapOf (P : Program) (t : TypeId) : Option (TypeId × TypeId) := match P.underlying t with | some (.map k e) => some (k, e) | _ => none
theorem pT {P : Program} {t k e : TypeId} (h : mapOf P t = some (k, e)) : P.underlying t = some (.map k e) := by
 unfold mapOf at h
 split at h
 ·rename_i k' e' hu; injection h with h; injection h with h1 h2; subst h1; subst h2; exact hu
 cases h
section
variable {P : Program} {fr : Fr} {ops : Array Oper} {A : As} {rest : List Oper} {K : As → List (As × Fx) → Prop} {d : Nat} {t mt kt et : TypeId} {p : String} {e : Array Edge}
variable {κ β : Type} [DecidableEq κ]
theorem En (enc : κ → Value) (V : VT β) (hm : mapOf P mt = some (kt, et)) (hp : fr.pass.contains (d + 1) = false)
 (h : ak P fr ops rest (A.after { d := some d, ty := .mp (d + 1), K := [d + 1], sets := [(d + 1, .mp enc V [])] }) fun A' l' => K A' ((A, { d := some d, ty := .mp (d + 1), K := [d + 1], sets := [(d + 1, .mp enc V [])] }) :: l')) :
 ak P fr ops (⟨some d, .makeMap mt none, t, p, e, none⟩ :: rest) A K := by
 refine ⟨_, ⟨rfl, (by simp), (by simp), (fun u hu => ?_), fun a w M wf _ _ _ => ?_⟩, h⟩
 ·rw [List.mem_singleton.1 hu]; exact ⟨by omega, by simpa using hp⟩
 rw [if_pos (by simp [Region.wanted])]
 have hrun : (execOp a.eval ⟨some d, .makeMap mt none, t, p, e, none⟩).run P w = .ok (.value (.map (some w.heap.size))) { w with heap := w.heap.push (.map #[] 0) } := by
  simp [execOp, Instr.makeMap, newObj, Sem.run]
 refine oV hrun ?_
 refine ⟨_, rfl, fun b => if b = w.heap.size then some (d + 1) else if M b = some (d + 1) then none else M b, ⟨fun b u hb => ?_, fun b b' u ht1 hb hb' => ?_⟩, ⟨by simp, rfl, rfl, rfl, fun b hlt hm => ⟨?_, ?_⟩, fun b u hm hk => ⟨?_, fun _ => ?_⟩⟩, ⟨_, rfl, by simp⟩, fun x hx => ?_⟩
 ·simp only [Array.size_push]
  split at hb
  ·omega
  split at hb
  ·cases hb
  have := wf.lt b u hb; omega
 ·by_cases h1 : b = w.heap.size <;> by_cases h2 : b' = w.heap.size
  ·rw [h1, h2]
  ·exfalso
   simp only [h1, h2, if_true, if_false] at hb hb'
   injection hb with hb
   split at hb'
   ·cases hb'
   rename_i hn; rw [← hb] at hb'; exact hn hb'
  ·exfalso
   simp only [h1, h2, if_true, if_false] at hb hb'
   injection hb' with hb'
   split at hb
   ·cases hb
   rename_i hn; rw [← hb'] at hb; exact hn hb
  simp only [h1, h2, if_false] at hb hb'
  split at hb
  ·cases hb
  split at hb'
  ·cases hb'
  exact wf.inj b b' u ht1 hb hb'
 ·rw [if_neg (by omega), if_neg (by rw [hm]; simp)]; exact hm
 ·simp [Array.getElem?_push]; intro h; omega
 ·have hlt := wf.lt b u hm
  rw [if_neg (by omega), if_neg (by rw [hm]; intro h; injection h with h; exact hk (by simp [h]))]; exact hm
 ·have hlt := wf.lt b u hm
  simp [Array.getElem?_push]; intro h; omega
 rw [List.mem_singleton.1 hx]
 exact ⟨w.heap.size, by simp, #[], 0, by simp, rfl, trivial⟩
theorem qU {w : World} {M : bB} {b : Nat} (KK : xF P kt κ) (V : VT β) {kvs : List (κ × β)} {z0 : β} {zv : Value} (hm : mapOf P mt = some (kt, et)) (hz : zeroOf P et = some zv) (hzd : (V.ty z0).den w M zv) (h : xS KK.enc V.ty kvs w M b) (k : κ) :
 (∃ v, (Instr.lookup mt (.map (some b)) (KK.enc k) false).run P w = .ok v w ∧ (V.ty ((eT kvs k).getD z0)).den w M v) ∧
 ∃ v, (Instr.lookup mt (.map (some b)) (KK.enc k) true).run P w = .ok (.tuple #[v, .bool (eT kvs k).isSome]) w ∧ (V.ty ((eT kvs k).getD z0)).den w M v := by
 obtain ⟨es, clock, h1, h2, h3⟩ := h
 have hu := pT hm
 have hzr := vl hz
 rcases rK KK h2 h3 k with ⟨i, v, en, _, hg, _, _, hd, hf⟩ | ⟨_, hg, hf⟩
 ·rw [hg]
  refine ⟨⟨en.val, ?_, hd⟩, en.val, ?_, hd⟩ <;> simp [Instr.lookup, underlying, hu, getObj, Sem.run, h1, KK.check, hf]
 rw [hg]
 refine ⟨⟨zv, ?_, hzd⟩, zv, ?_, hzd⟩ <;> simp [Instr.lookup, underlying, hu, getObj, Sem.run, h1, KK.check, hf, hzr]
theorem IC {x : Operand} {tg : Nat} {enc : κ → Value} {V : VT β} {kvs : List (κ × β)} (hx : A.op fr x = .mp tg) (hc : A.tag tg = some (.mp enc V kvs)) (h1 : gI tg) {a : Act} {w : World} {M : bB} {rs : List Nat} (wf : Wf w M) (hr : ∀ c ∈ cR x, c ∈ rs) (hrd : ∀ c ∈ rs, c < fr.n → (A.slots c).den w M (a.tmps.getD c undef)) (htg : ∀ y ∈ A.tags, y.1 ∈ [tg] → y.2.den w M y.1) :
 ∃ b, a.eval x = .map (some b) ∧ M b = some tg ∧ xS enc V.ty kvs w M b := by
 have hxd := cY hr hrd
 rw [hx] at hxd
 obtain ⟨b, e1, e2⟩ := hxd
 obtain ⟨b', h2, h3⟩ := htg _ (dB hc) (by simp)
 obtain ⟨u, rfl⟩ : ∃ u, tg = u + 1 := ⟨tg - 1, by omega⟩
 have : b = b' := wf.inj b b' u (by omega) e2 h2
 subst this
 exact ⟨b, e1, e2, h3⟩
def uD (kty : Ty) (v : Value) : Prop := ∀ w M x, kty.den w M x → x = v
theorem Jo {q : IntKind} {n : Int} : uD (.int q n) (.int q n) := fun _ _ _ h => h
theorem wR {x y : Operand} {tg : Nat} {kty : Ty} {k : κ} (KK : xF P kt κ) {V : VT β} {kvs : List (κ × β)} {z0 : β} {zv : Value} (hx : A.op fr x = .mp tg) (hc : A.tag tg = some (.mp KK.enc V kvs)) (h1 : gI tg) (hy : A.op fr y = kty) (hk : uD kty (KK.enc k)) (hm : mapOf P mt = some (kt, et)) (hz : zeroOf P et = some zv) (hzd : ∀ w M, (V.ty z0).den w M zv)
 (h : ak P fr ops rest (A.set d (V.ty ((eT kvs k).getD z0))) fun A' l' => K A' ((A, { d := some d, ty := V.ty ((eT kvs k).getD z0), rs := cR x ++ cR y, rt := [tg] }) :: l')) :
 ak P fr ops (⟨some d, .lookup mt x y false, t, p, e, none⟩ :: rest) A K :=
 bP (bW rfl rfl fun a w M wf hrd htg => by
  obtain ⟨b, e1, _, h3⟩ := IC hx hc h1 wf (fun c hc => List.mem_append_left _ hc) hrd htg
  have hyd := cY (fun c hc => List.mem_append_right (cR x) hc) hrd
  rw [hy] at hyd
  obtain ⟨v, hv, hd⟩ := (qU KK V hm hz (hzd w M) h3 k).1
  refine ⟨v, ?_, hd⟩
  simp only [execOp, e1, hk _ _ _ hyd]
  simp [hv]) h
theorem pZ {x y : Operand} {tg : Nat} {kty : Ty} {k : κ} (KK : xF P kt κ) {V : VT β} {kvs : List (κ × β)} {z0 : β} {zv : Value} (hx : A.op fr x = .mp tg) (hc : A.tag tg = some (.mp KK.enc V kvs)) (h1 : gI tg) (hy : A.op fr y = kty) (hk : uD kty (KK.enc k)) (hm : mapOf P mt = some (kt, et)) (hz : zeroOf P et = some zv) (hzd : ∀ w M, (V.ty z0).den w M zv)
 (h : ak P fr ops rest (A.set d (.kH [V.ty ((eT kvs k).getD z0), .bool (eT kvs k).isSome])) fun A' l' => K A' ((A, { d := some d, ty := .kH [V.ty ((eT kvs k).getD z0), .bool (eT kvs k).isSome], rs := cR x ++ cR y, rt := [tg] }) :: l')) :
 ak P fr ops (⟨some d, .lookup mt x y true, t, p, e, none⟩ :: rest) A K :=
 bP (bW rfl rfl fun a w M wf hrd htg => by
  obtain ⟨b, e1, _, h3⟩ := IC hx hc h1 wf (fun c hc => List.mem_append_left _ hc) hrd htg
  have hyd := cY (fun c hc => List.mem_append_right (cR x) hc) hrd
  rw [hy] at hyd
  obtain ⟨v, hv, hd⟩ := (qU KK V hm hz (hzd w M) h3 k).2
  refine ⟨.tuple #[v, .bool (eT kvs k).isSome], ?_, #[v, .bool (eT kvs k).isSome], rfl, hd, rfl, trivial⟩
  simp only [execOp, e1, hk _ _ _ hyd]
  simp [hv]) h
theorem xz {x y : Operand} {kty : Ty} {k : κ} (KK : xF P kt κ) {V : VT β} {kvs : List (κ × β)} {z0 : β} {zv : Value} (hx : A.op fr x = .pm KK.enc V kvs) (hy : A.op fr y = kty) (hk : uD kty (KK.enc k)) (hm : mapOf P mt = some (kt, et)) (hz : zeroOf P et = some zv) (hzd : ∀ w M, (V.ty z0).den w M zv)
 (h : ak P fr ops rest (A.set d (V.ty ((eT kvs k).getD z0))) fun A' l' => K A' ((A, { d := some d, ty := V.ty ((eT kvs k).getD z0), rs := cR x ++ cR y }) :: l')) :
 ak P fr ops (⟨some d, .lookup mt x y false, t, p, e, none⟩ :: rest) A K :=
 bP (bW (rt := []) rfl rfl fun a w M wf hrd _ => by
  have hxd := cY (fun c hc => List.mem_append_left (cR y) hc) hrd
  rw [hx] at hxd
  obtain ⟨b, e1, _, _, h3⟩ := hxd
  have hyd := cY (fun c hc => List.mem_append_right (cR x) hc) hrd
  rw [hy] at hyd
  obtain ⟨v, hv, hd⟩ := (qU KK V hm hz (hzd w M) h3 k).1
  refine ⟨v, ?_, hd⟩
  simp only [execOp, e1, hk _ _ _ hyd]
  simp [hv]) h
theorem Ad {x y z : Operand} {tg : Nat} {kty vty : Ty} {k : κ} {v : β} (KK : xF P kt κ) {V : VT β} {kvs : List (κ × β)} (hx : A.op fr x = .mp tg) (hc : A.tag tg = some (.mp KK.enc V kvs)) (h1 : gI tg) (hy : A.op fr y = kty) (hk : uD kty (KK.enc k)) (hz : A.op fr z = vty) (hv : vty = V.ty v) (hm : mapOf P mt = some (kt, et))
 (h : ak P fr ops rest (A.after { d := none, S := [tg], sets := [(tg, .mp KK.enc V (gm kvs k v))], rs := cR x ++ (cR y ++ cR z), rt := [tg] }) fun A' l' => K A' ((A, { d := none, S := [tg], sets := [(tg, .mp KK.enc V (gm kvs k v))], rs := cR x ++ (cR y ++ cR z), rt := [tg] }) :: l')) :
 ak P fr ops (⟨none, .mapUpdate mt x y z, t, p, e, none⟩ :: rest) A K := by
 subst hv
 refine ⟨_, ⟨rfl, (fun x hx => .inl (by rw [List.mem_singleton.1 hx]; exact List.mem_singleton.2 rfl)), (fun u hu => by rw [List.mem_singleton.1 hu]; exact h1.1), (by simp), fun a w M wf _ hrd htg => ?_⟩, h⟩
 rw [if_pos (by simp [Region.wanted])]
 obtain ⟨b, e1, e2, es, clock, h3, h4, h5⟩ := IC hx hc h1 wf (fun c hc => List.mem_append_left _ hc) hrd htg
 have hyd := cY (fun c hc => List.mem_append_right (cR x) (List.mem_append_left (cR z) hc)) hrd
 have hzd := cY (fun c hc => List.mem_append_right (cR x) (List.mem_append_right (cR y) hc)) hrd
 rw [hy] at hyd
 rw [hz] at hzd
 have hu := pT hm
 have hblt : b < w.heap.size := wf.lt b _ e2
 -- whatever is put there
 have fin : ∀ (es' : Array MapEntry) (clock' : Nat), es'.toList.map (·.key) = (gm kvs k v).map (fun x => KK.enc x.1) → cV w M ((gm kvs k v).map fun x => V.ty x.2) (es'.toList.map (·.val)) →
  (Instr.mapUpdate mt (.map (some b)) (KK.enc k) (a.eval z)).run P w = .ok () { w with heap := w.heap.setIfInBounds b (.map es' clock') } →
  Oper.wpIn fr.kd.jC 0 P ⟨none, .mapUpdate mt x y z, t, p, e, none⟩ a w (fun a' w' => ∃ v', a' = a.put none v' ∧ Fx.left { d := none, S := [tg], sets := [(tg, .mp KK.enc V (gm kvs k v))], rs := cR x ++ (cR y ++ cR z), rt := [tg] } w M w' v') (fun _ _ _ => False) := by
  intro es' clock' hk' hd' hrun
  have hr : (execOp a.eval ⟨none, .mapUpdate mt x y z, t, p, e, none⟩).run P w = .ok .skip { w with heap := w.heap.setIfInBounds b (.map es' clock') } := by
   simp only [execOp, e1, hk _ _ _ hyd]
   simp [hrun]
  refine wA hr ?_
  have le : Le (· ∈ [tg]) (· ∈ ([] : List Nat)) w M { w with heap := w.heap.setIfInBounds b (.map es' clock') } M := by
   refine ⟨by simp, rfl, rfl, rfl, fun b2 hlt hm2 => ⟨hm2, ?_⟩, fun b2 u hm2 _ => ⟨hm2, fun hs => ?_⟩⟩
   ·have : b ≠ b2 := fun h => by subst h; rw [e2] at hm2; cases hm2
    simp [Array.getElem?_setIfInBounds, this]
   have : b ≠ b2 := fun h => by subst h; rw [e2] at hm2; injection hm2 with hm2; exact hs (by simp [hm2])
   simp [Array.getElem?_setIfInBounds, this]
  refine ⟨undef, rfl, M, ⟨fun b2 u h => by simpa using wf.lt b2 u h, wf.inj⟩, le, trivial, fun x hx => ?_⟩
  rw [List.mem_singleton.1 hx]
  refine ⟨b, e2, es', clock', by simp [hblt], hk', ?_⟩
  refine cI le (fun _ _ => by simp) (fun u hu => ?_) hd'
  simp only [bw, List.mem_flatMap, List.mem_map] at hu
  obtain ⟨t', ⟨x', _, rfl⟩, hu⟩ := hu
  rw [(V.nodeps x'.2).2] at hu; cases hu
 rcases rK KK h4 h5 k with ⟨i, v0, en, hi, hg, hen, hkey, hd, hf⟩ | ⟨hi, hg, hf⟩
 ·obtain ⟨v1, hv1, _, hput⟩ := pM kvs k i hi
  have hil : i < es.size := (Array.getElem?_eq_some_iff.1 hen).1
  refine fin (es.modify i fun e => { e with key := KK.enc k, val := a.eval z }) clock ?_ ?_ ?_
  ·rw [hput, List.map_set]
   have : (es.modify i fun e => { e with key := KK.enc k, val := a.eval z }).toList = es.toList.set i { en with key := KK.enc k, val := a.eval z } := by
    rw [Array.toList_modify, List.modify_eq_set, Array.getElem?_toList, hen]; rfl
   rw [this, List.map_set, h4]
  ·rw [hput, List.map_set]
   have : (es.modify i fun e => { e with key := KK.enc k, val := a.eval z }).toList = es.toList.set i { en with key := KK.enc k, val := a.eval z } := by
    rw [Array.toList_modify, List.modify_eq_set, Array.getElem?_toList, hen]; rfl
   rw [this, List.map_set]
   exact rJ h5 hzd
  simp [Instr.mapUpdate, underlying, hu, getObj, setObj, Sem.run, h3, KK.check, hf, hen, hkey, Instr.keyThatStays, KK.same]
 obtain ⟨_, hput⟩ := pN kvs k hi
 refine fin (es.push { key := KK.enc k, val := a.eval z, born := clock }) (clock + 1) ?_ ?_ ?_
 ·rw [hput]; simp [h4]
 ·rw [hput]; simp only [Array.toList_push, List.map_append, List.map_cons, List.map_nil]
  exact eK h5 ⟨hzd, trivial⟩
 simp [Instr.mapUpdate, underlying, hu, getObj, setObj, Sem.run, h3, KK.check, hf]
end
section
variable {P : Program} {fr : Fr} {A : As} {Q : Exit → Act → World → Prop} {c : Code} {κ β : Type} [DecidableEq κ]
theorem Li {enc : κ → Value} {V : VT β} {kvs : List (κ × β)} {tg s : Nat} (hx : A.slots s = .mp tg) (hc : A.tag tg = some (.mp enc V kvs)) (h1 : gI tg) : yp A tg s (.pm enc V kvs) := by
 intro w M v wf ht hv
 rw [hx] at hv
 obtain ⟨b, e1, e2⟩ := hv
 obtain ⟨b', h2, h3⟩ := ht _ (dB hc)
 obtain ⟨u, rfl⟩ : ∃ u, tg = u + 1 := ⟨tg - 1, by omega⟩
 have : b = b' := wf.inj b b' u (by omega) e2 h2
 subst this
 exact ⟨b, e1, by simp [eN, e2], wf.lt b _ e2, qV V.nodeps (jd (tg := u + 1)) rfl h3⟩
end
end Go.T
namespace Go.Proofs.YtelbollidfdcjaaGreat
open Go Go.T
def fidx {α : Type} (p : α → Bool) (l : List α) : Int := match l.findIdx? p with | some i => (i : Int) | none => -1
theorem gk {α : Type} {p : α → Bool} {l : List α} {k : Nat} (hk : k < l.length) (h : ∀ x ∈ l.take k, p x = false) (hp : p l[k] = true) : fidx p l = k := by
 have : l.findIdx? p = some k := by
  rw [List.findIdx?_eq_some_iff_getElem]
  refine ⟨hk, hp, fun j hj => ?_⟩
  have := h l[j] (by rw [List.mem_take_iff_getElem]; exact ⟨j, by omega, rfl⟩)
  simp [this]
 simp [fidx, this]
theorem iQ {α : Type} {p : α → Bool} {l : List α} (h : ∀ x ∈ l, p x = false) : fidx p l = -1 := by
 have : l.findIdx? p = none := by simpa using h
 simp [fidx, this]
theorem pR {α : Type} (p : α → Bool) (l : List α) : decide (0 ≤ fidx p l) = l.any p := by
  unfold fidx
  cases h : l.findIdx? p with
  | none =>
    rw [List.findIdx?_eq_none_iff] at h
    have : l.any p = false := by simpa using h
    rw [this]; rfl
  | some i =>
    have : l.any p = true := by
      rw [List.findIdx?_eq_some_iff_getElem] at h
      obtain ⟨hi, hp, _⟩ := h
      rw [List.any_eq_true]; exact ⟨_, List.getElem_mem hi, hp⟩
    rw [this]; simp
def BU (n lo hi : Int) : Bool := decide (n ≥ lo) && decide (n ≤ hi)
theorem gV {n lo hi : Int} : BU n lo hi = true ↔ lo ≤ n ∧ n ≤ hi := by unfold BU; simp
theorem ng {b : Bool} (h : b = false) : ¬ b = true := by rw [h]; decide
theorem kK {α : Type} [Inhabited α] {l : List α} {x : α} (h : x ∈ l) : ∃ m, m < l.length ∧ x = nth l m := by
 obtain ⟨m, hm, e⟩ := List.getElem_of_mem h
 exact ⟨m, hm, by rw [hU hm]; exact e.symm⟩
theorem mL : ∀ {n : Nat} {l : List Nat}, l.Nodup → (∀ y ∈ l, y < n) → l.length ≤ n
  | 0, l, _, hr => by
    cases l with
    | nil => simp
    | cons a _ => exact absurd (hr a List.mem_cons_self) (by omega)
  | n + 1, l, hn, hr => by
    by_cases h : n ∈ l
    · have h1 := List.length_erase_of_mem h
      have h2 := mL (n := n) (l := l.erase n) (hn.erase n) fun y hy => by
        have h3 := (hn.mem_erase_iff (a := y) (b := n)).1 hy
        have := hr y h3.2
        have := h3.1
        omega
      omega
    · have h2 := mL (n := n) (l := l) hn fun y hy => by
        have := hr y hy
        have : y ≠ n := fun e => h (e ▸ hy)
        omega
      omega
theorem iL {α : Type} [Inhabited α] {l : List α} {i j : Nat} {v : α} (h : j < l.length) : nth (l.set i v) j = if i = j then v else nth l j := by
 unfold nth
 rw [List.getD_eq_getElem?_getD, List.getD_eq_getElem?_getD, List.getElem?_set]
 by_cases e : i = j
 ·subst e; rw [if_pos rfl, if_pos rfl, if_pos h]; rfl
 rw [if_neg e, if_neg e]
theorem yY {α : Type} : ∀ (l : List α), l = [] ∨ ∃ l' x, l = l' ++ [x]
  | [] => .inl rfl
  | x :: l => by
    rcases yY l with h | ⟨l', y, h⟩
    · subst h; exact .inr ⟨[], x, rfl⟩
    · subst h; exact .inr ⟨x :: l', y, rfl⟩
theorem A4 {α : Type} {C : List α → Prop} (h0 : C []) (h1 : ∀ l x, C l → C (l ++ [x])) : ∀ l, C l := by
  intro l
  have key : ∀ n (l : List α), l.length = n → C l := by
    intro n
    induction n with
    | zero => intro l h; rw [List.length_eq_zero_iff.1 h]; exact h0
    | succ n ih =>
      intro l h
      rcases yY l with e | ⟨l', x, e⟩
      · subst e; cases h
      · subst e; exact h1 l' x (ih l' (by simpa using h))
  exact key _ l rfl
section
variable {κ β : Type} [DecidableEq κ]
theorem qM (q : List (κ × β)) (k : κ) (v : β) (x : κ) : x ∈ (gm q k v).map Prod.fst ↔ x = k ∨ x ∈ q.map Prod.fst := by
  induction q with
  | nil => simp [gm]
  | cons y l ih =>
    simp only [gm]
    by_cases h : y.1 = k
    · subst h; simp
    · rw [if_neg h]; simp only [List.map_cons, List.mem_cons, ih]
      constructor
      · rintro (h | h | h)
        · exact .inr (.inl h)
        · exact .inl h
        · exact .inr (.inr h)
      · rintro (h | h | h)
        · exact .inr (.inl h)
        · exact .inl h
        · exact .inr (.inr h)
theorem CW (q : List (κ × β)) (k : κ) (v : β) (hn : (q.map Prod.fst).Nodup) : ((gm q k v).map Prod.fst).Nodup := by
  induction q with
  | nil => simp [gm]
  | cons y l ih =>
    rw [List.map_cons, List.nodup_cons] at hn
    simp only [gm]
    by_cases h : y.1 = k
    · subst h; rw [if_pos rfl, List.map_cons, List.nodup_cons]; exact hn
    · rw [if_neg h, List.map_cons, List.nodup_cons]
      refine ⟨fun hm => ?_, ih hn.2⟩
      rcases (qM l k v y.1).1 hm with e | e
      · exact h e
      · exact hn.1 e
theorem kL {q : List (κ × β)} {k : κ} {v : β} (h : eT q k = some v) : k ∈ q.map Prod.fst := by
  induction q with
  | nil => cases h
  | cons y l ih =>
    simp only [eT] at h
    by_cases e : y.1 = k
    · subst e; simp
    · rw [if_neg e] at h; exact List.mem_cons_of_mem _ (ih h)
theorem mh {q : List (κ × β)} {k : κ} (h : k ∈ q.map Prod.fst) : ∃ v, eT q k = some v := by
  induction q with
  | nil => cases h
  | cons y l ih =>
    simp only [eT]
    by_cases e : y.1 = k
    · exact ⟨_, if_pos e⟩
    · rw [if_neg e]; rw [List.map_cons, List.mem_cons] at h
      exact ih (h.resolve_left fun h => e h.symm)
theorem Af (q : List (κ × β)) (k : κ) (v : β) (h : eT q k = none) : (gm q k v).length = q.length + 1 := by
  induction q with
  | nil => rfl
  | cons y l ih =>
    simp only [eT] at h
    by_cases e : y.1 = k
    · rw [if_pos e] at h; cases h
    · rw [if_neg e] at h; simp only [gm, if_neg e, List.length_cons, ih h]
end
theorem sF {n : Nat} {l : List Int} (h : l.Nodup) (hr : ∀ y ∈ l, 0 ≤ y ∧ y < (n : Int)) : l.length ≤ n := by
 have h1 : (l.map Int.toNat).Nodup := by
  rw [List.nodup_iff_pairwise_ne, List.pairwise_map]
  refine (List.nodup_iff_pairwise_ne.1 h).imp_of_mem fun {a b} ha hb hne e => hne ?_
  have := hr a ha; have := hr b hb; omega
 have h2 := mL (n := n) h1 fun y hy => by
  obtain ⟨z, hz, rfl⟩ := List.mem_map.1 hy
  have := hr z hz; omega
 rwa [List.length_map] at h2
section
variable {σ ρ : Type} [Inhabited ρ] {step : σ → σ ⊕ ρ} {x y : σ} {r s : ρ}
def A7 (step : σ → σ ⊕ ρ) : Nat → σ → Option ρ
  | 0, _ => none
  | n + 1, x => match step x with | .inl y => A7 step n y | .inr r => some r
def o8 (step : σ → σ ⊕ ρ) (x : σ) (r : ρ) : Prop := ∃ n, A7 step n x = some r
omit [Inhabited ρ] in
theorem Bt : ∀ {n m : Nat} {x : σ}, A7 step n x = some r → A7 step m x = some s → r = s
  | 0, _, _, h, _ => by cases h
  | _ + 1, 0, _, _, h => by cases h
  | n + 1, m + 1, x, h, h' => by
    unfold A7 at h h'
    cases e : step x with
    | inl y => rw [e] at h h'; exact Bt h h'
    | inr t => rw [e] at h h'; injection h with h; injection h' with h'; rw [← h, h']
omit [Inhabited ρ] in
theorem o8.Nf (h : o8 step x r) (h' : o8 step x s) : r = s := let ⟨_, h⟩ := h; let ⟨_, h'⟩ := h'; Bt h h'
noncomputable def mZ (step : σ → σ ⊕ ρ) (x : σ) : ρ := open Classical in if h : ∃ r, o8 step x r then h.choose else default
theorem y7 (h : o8 step x r) : mZ step x = r := by
 have hx : ∃ r, o8 step x r := ⟨r, h⟩
 unfold mZ; rw [dif_pos hx]; exact hx.choose_spec.Nf h
omit [Inhabited ρ] in
theorem Cy (e : step x = .inr r) : o8 step x r := ⟨1, by unfold A7; rw [e]⟩
theorem iV (e : step x = .inr r) : mZ step x = r := y7 (Cy e)
omit [Inhabited ρ] in
theorem vV (e : step x = .inl y) : o8 step x r ↔ o8 step y r := by
  constructor
  · rintro ⟨n, h⟩
    cases n with
    | zero => cases h
    | succ n => unfold A7 at h; rw [e] at h; exact ⟨n, h⟩
  · rintro ⟨n, h⟩; exact ⟨n + 1, by unfold A7; rw [e]; exact h⟩
theorem g8 (e : step x = .inl y) : mZ step x = mZ step y := by
 by_cases h : ∃ r, o8 step y r
 ·obtain ⟨r, h⟩ := h
  rw [y7 h, y7 ((vV e).2 h)]
 have h' : ¬ ∃ r, o8 step x r := fun ⟨r, hr⟩ => h ⟨r, (vV e).1 hr⟩
 unfold mZ; rw [dif_neg h, dif_neg h']
theorem m7 (I : σ → Prop) (S : ρ → Prop) (mu : σ → Nat) (h : ∀ x, I x → (∃ y, step x = .inl y ∧ I y ∧ mu y < mu x) ∨ ∃ r, step x = .inr r ∧ S r) : ∀ x, I x → S (mZ step x) := by
  have key : ∀ n x, mu x < n → I x → S (mZ step x) := by
    intro n
    induction n with
    | zero => intro x hx; omega
    | succ n ih =>
      intro x hx hI
      rcases h x hI with ⟨y, e, hy, hm⟩ | ⟨r, e, hr⟩
      · rw [g8 e]; exact ih y (by omega) hy
      · rw [iV e]; exact hr
  exact fun x hx => key _ x (Nat.lt_succ_self _) hx
end
end Go.Proofs.YtelbollidfdcjaaGreat
