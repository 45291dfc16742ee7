/- Lemmas: the program and the reference walked, plain laws. -/
import Derived.Orders
import Derived.Below
import Derived.WalkKit
import Derived.OrdersIn
import Derived.TacticsIn
import Derived.RangeFuncCalls
import Derived.ChangeKeysEq
import Derived.Maps.AppendAt
import Derived.Laws.MakeOwn
import Derived.Laws.CopyRow
import Derived.RangeFuncRecord
import Derived.JoinedOf
import Derived.OpenShut
import Derived.WideKeyArgs
import Derived.Deep.Frames
import Derived.Deep.Slices
import Derived.Deep.Strs
import Derived.Lib.SmallJoins
import Derived.Test.YtmmcenjknimhbaaGreatChecked
import Derived.KernelRfl
import Derived.Lib.AppendZerosOnto
import Derived.Shelf.Spec.SlicesInsertGrow
import Derived.Test.YtmmcenjknimhbaaGreatRows
namespace Go.T
open Go Go.RowKit
abbrev ah := Nat → Option Nat
structure Wf (w : World) (M : ah) : Prop where
  lt : ∀ b t, M b = some t → b < w.heap.size
  inj : ∀ b b' t, t + 1 < 4096 → M b = some (t + 1) → M b' = some (t + 1) → b = b'
abbrev e8 (t : Nat) : Prop := 1 ≤ t ∧ t < 4096
structure Le (S K : Nat → Prop) (w : World) (M : ah) (w' : World) (M' : ah) : Prop where
  size : w.heap.size ≤ w'.heap.size
  os : w'.os = w.os
  tape : w'.tape = w.tape
  out : w'.output = w.output
  oK : ∀ b, b < w.heap.size → M b = none → M' b = none ∧ w'.heap[b]? = w.heap[b]?
  own : ∀ b t, M b = some t → ¬ K t → M' b = some t ∧ (¬ S t → w'.heap[b]? = w.heap[b]?)
theorem Le.refl (S K : Nat → Prop) (w : World) (M : ah) : Le S K w M w M :=
 ⟨Nat.le_refl _, rfl, rfl, rfl, fun _ _ h => ⟨h, rfl⟩, fun _ _ h _ => ⟨h, fun _ => rfl⟩⟩
theorem Le.trans {S K S' K' : Nat → Prop} {w w' w'' : World} {M M' M'' : ah} (h : Le S K w M w' M') (h' : Le S' K' w' M' w'' M'') :
 Le (fun t => S t ∨ S' t) (fun t => K t ∨ K' t) w M w'' M'' where
 size := Nat.le_trans h.size h'.size
 os := h'.os.trans h.os
 tape := h'.tape.trans h.tape
 out := h'.out.trans h.out
 oK b hb hm := by
  obtain ⟨h1, h2⟩ := h.oK b hb hm
  obtain ⟨h3, h4⟩ := h'.oK b (Nat.lt_of_lt_of_le hb h.size) h1
  exact ⟨h3, h4.trans h2⟩
 own b t hm hk := by
  obtain ⟨h1, h2⟩ := h.own b t hm (fun h => hk (.inl h))
  obtain ⟨h3, h4⟩ := h'.own b t h1 (fun h => hk (.inr h))
  exact ⟨h3, fun hs => (h4 fun h => hs (.inr h)).trans (h2 fun h => hs (.inl h))⟩
theorem Le.weaken {S K S' K' : Nat → Prop} {w w' : World} {M M' : ah} (h : Le S K w M w' M') (hs : ∀ t, S t → S' t) (hk : ∀ t, K t → K' t) : Le S' K' w M w' M' :=
 ⟨h.size, h.os, h.tape, h.out, h.oK, fun b t hm ht => let ⟨a, b'⟩ := h.own b t hm (fun x => ht (hk t x)); ⟨a, fun x => b' fun y => x (hs t y)⟩⟩
structure Ty where
  den : World → ah → Value → Prop
  deps : List Nat := []
  cdeps : List Nat := []
  mono : ∀ {S K : Nat → Prop} {w w' : World} {M M' : ah} {v : Value}, Le S K w M w' M' → (∀ t ∈ deps, ¬ K t) → (∀ t ∈ cdeps, ¬ S t) → den w M v → den w' M' v
  one : Bool := false
  isOne : ∀ {w : World} {M : ah} {v : Value}, one = true → den w M v → v.oneCell' = true := by intro _ _ _ h; cases h
def ff (_ : World) (_ : ah) (_ : Value) : Prop := True
def Ty.any : Ty := { den := ff, mono := fun _ _ _ _ => trivial }
def bl (l : List Ty) : List Nat := l.flatMap Ty.deps
def bL (l : List Ty) : List Nat := l.flatMap Ty.cdeps
def bt (w : World) (M : ah) : List Ty → List Value → Prop
  | [], [] => True
  | t :: ts, v :: vs => t.den w M v ∧ bt w M ts vs
  | _, _ => False
theorem bV {S K : Nat → Prop} {w w' : World} {M M' : ah} (le : Le S K w M w' M') : ∀ {l : List Ty} {vs : List Value}, (∀ t ∈ bl l, ¬ K t) → (∀ t ∈ bL l, ¬ S t) → bt w M l vs → bt w' M' l vs
  | [], [], _, _, _ => trivial
  | t :: ts, v :: vs, hd, hc, ⟨h, hs⟩ => ⟨t.mono le (fun u hu => hd u (by simp [bl, hu])) (fun u hu => hc u (by simp [bL, hu])) h, bV le (fun u hu => hd u (by simp only [bl, List.flatMap_cons, List.mem_append]; exact .inr hu)) (fun u hu => hc u (by simp only [bL, List.flatMap_cons, List.mem_append]; exact .inr hu)) hs⟩
theorem bw {w : World} {M : ah} : ∀ {l : List Ty} {vs : List Value}, bt w M l vs → vs.length = l.length
  | [], [], _ => rfl
  | _ :: _, _ :: _, ⟨_, h⟩ => by simp [bw h]
theorem dF {w : World} {M : ah} : ∀ {l : List Ty} {vs : List Value}, bt w M l vs → ∀ (i : Nat) (t : Ty), l[i]? = some t → ∃ v, vs[i]? = some v ∧ t.den w M v
  | [], [], _, i, t, h => by simp at h
  | u :: ts, v :: vs, ⟨h1, h2⟩, i, t, h => by
    cases i with
    | zero => simp at h; subst h; exact ⟨v, by simp, h1⟩
    | succ i => simp at h; obtain ⟨x, hx, hd⟩ := dF h2 i t h; exact ⟨x, by simpa using hx, hd⟩
theorem g9 {w : World} {M : ah} : ∀ {l : List Ty} {vs : List Value}, vs.length = l.length → (∀ (i : Nat) (t : Ty), l[i]? = some t → ∃ v, vs[i]? = some v ∧ t.den w M v) → bt w M l vs
  | [], [], _, _ => trivial
  | u :: ts, v :: vs, hl, h => by
    refine ⟨?_, g9 (by simpa using hl) fun i t hi => ?_⟩
    · obtain ⟨x, hx, hd⟩ := h 0 u rfl
      simp at hx; subst hx; exact hd
    · obtain ⟨x, hx, hd⟩ := h (i + 1) t (by simpa using hi)
      exact ⟨x, by simpa using hx, hd⟩
theorem iN {w : World} {M : ah} : ∀ (n : Nat) {l : List Ty} {vs : List Value}, bt w M l vs → bt w M (l.drop n) (vs.drop n)
  | 0, _, _, h => h
  | n + 1, [], [], _ => trivial
  | n + 1, _ :: ts, _ :: vs, ⟨_, h⟩ => iN n h
theorem ju {w : World} {M : ah} : ∀ (n : Nat) {l : List Ty} {vs : List Value}, bt w M l vs → bt w M (l.take n) (vs.take n)
  | 0, _, _, _ => trivial
  | n + 1, [], [], _ => trivial
  | n + 1, _ :: ts, _ :: vs, ⟨h1, h2⟩ => ⟨h1, ju n h2⟩
def kJ (l k : List Nat) : Bool := l.all fun x => !k.contains x
def Ty.safe (t : Ty) (S K : List Nat) : Bool := kJ t.deps K && kJ t.cdeps S
theorem fK {l k : List Nat} (h : kJ l k = true) : ∀ t ∈ l, ¬ (t ∈ k) := by
 intro t ht hk
 simp only [kJ, List.all_eq_true] at h
 have := h t ht
 simp [hk] at this
theorem yI (t : Ty) : t.safe [] [] = true := by simp [Ty.safe, kJ]
theorem eJ {t : Ty} {S K : List Nat} (h : t.safe S K = true) : (∀ u ∈ t.deps, ¬ (u ∈ K)) ∧ ∀ u ∈ t.cdeps, ¬ (u ∈ S) := by
 simp only [Ty.safe, Bool.and_eq_true] at h; exact ⟨fK h.1, fK h.2⟩
def Ty.weak (S K : List Nat) (t : Ty) : Ty := bif t.safe S K then t else Ty.any
def cw (T : TypeId) (l : List Ty) (w : World) (M : ah) (t : Nat) : Prop := ∃ b cs, M b = some t ∧ w.heap[b]? = some (.cells cs T (0, 0)) ∧ bt w M l cs.toList
structure Cont where
  den : World → ah → Nat → Prop
  deps : List Nat := []
  cdeps : List Nat := []
  mono : ∀ {S K : Nat → Prop} {w w' : World} {M M' : ah} {t : Nat}, Le S K w M w' M' → (∀ u ∈ deps, ¬ K u) → (∀ u ∈ cdeps, ¬ S u) → ¬ S t → ¬ K t → den w M t → den w' M' t
  view : Option (TypeId × List Ty) := none
  viewOk : ∀ {T : TypeId} {l : List Ty}, view = some (T, l) → bl l = deps ∧ bL l = cdeps ∧ ∀ {w : World} {M : ah} {t : Nat}, den w M t → cw T l w M t := by intro _ _ h; cases h
def Cont.safe (t : Cont) (S K : List Nat) : Bool := kJ t.deps K && kJ t.cdeps S
theorem pE {t : Cont} {S K : List Nat} (h : t.safe S K = true) : (∀ u ∈ t.deps, ¬ (u ∈ K)) ∧ ∀ u ∈ t.cdeps, ¬ (u ∈ S) := by
 simp only [Cont.safe, Bool.and_eq_true] at h; exact ⟨fK h.1, fK h.2⟩
def Cont.cells (T : TypeId) (l : List Ty) : Cont :=
  { den := cw T l, deps := bl l, cdeps := bL l
    mono := fun le hk hc hs hkt ⟨b, cs, h1, h2, h3⟩ => let ⟨h4, h5⟩ := le.own b _ h1 hkt; ⟨b, cs, h4, (h5 hs).trans h2, bV le hk hc h3⟩
    view := some (T, l)
    viewOk := fun h => by injection h with h; injection h with h1 h2; subst h1; subst h2; exact ⟨rfl, rfl, fun h => h⟩ }
def Cont.soft (S K : List Nat) (C : Cont) : Option Cont :=
  match C.view with
  | some (T, l) => some (.cells T (l.map (Ty.weak S K)))
  | none => none
theorem Bf {S K : List Nat} {w w' : World} {M M' : ah} (le : Le (· ∈ S) (· ∈ K) w M w' M') : ∀ {l : List Ty} {vs : List Value}, bt w M l vs → bt w' M' (l.map (Ty.weak S K)) vs
  | [], [], _ => trivial
  | t :: _, _ :: _, ⟨h, hs⟩ => by
    refine ⟨?_, Bf le hs⟩
    unfold Ty.weak
    cases hc : t.safe S K with
    | true => exact t.mono le (eJ hc).1 (eJ hc).2 h
    | false => trivial
theorem K7 {S K : List Nat} {w w' : World} {M M' : ah} {C D : Cont} {t : Nat} (le : Le (· ∈ S) (· ∈ K) w M w' M') (hs : t ∉ S) (hk : t ∉ K) (h : C.soft S K = some D) (hd : C.den w M t) : D.den w' M' t := by
 unfold Cont.soft at h
 split at h
 ·rename_i T l hv
  injection h with h
  subst h
  obtain ⟨b, cs, h1, h2, h3⟩ := (C.viewOk hv).2.2 hd
  obtain ⟨h4, h5⟩ := le.own b t h1 hk
  exact ⟨b, cs, h4, (h5 hs).trans h2, Bf le h3⟩
 cases h
theorem A3 {S K : List Nat} : ∀ {l : List Ty} {u : Nat}, (u ∈ bl (l.map (Ty.weak S K)) → u ∈ bl l) ∧ (u ∈ bL (l.map (Ty.weak S K)) → u ∈ bL l) := by
  intro l u
  simp only [bl, bL, List.mem_flatMap, List.mem_map]
  constructor
  · rintro ⟨_, ⟨t, ht, rfl⟩, hu⟩
    unfold Ty.weak at hu
    cases hc : t.safe S K with
    | true => rw [hc] at hu; exact ⟨t, ht, hu⟩
    | false => rw [hc] at hu; simp [Ty.any] at hu
  · rintro ⟨_, ⟨t, ht, rfl⟩, hu⟩
    unfold Ty.weak at hu
    cases hc : t.safe S K with
    | true => rw [hc] at hu; exact ⟨t, ht, hu⟩
    | false => rw [hc] at hu; simp [Ty.any] at hu
def Cont.PL (D C : Cont) : Prop := (∀ u ∈ D.deps, u ∈ C.deps) ∧ ∀ u ∈ D.cdeps, u ∈ C.cdeps
theorem KA {S K : List Nat} {C D : Cont} (h : C.soft S K = some D) : D.PL C := by
 unfold Cont.soft at h
 split at h
 ·rename_i T l hv
  injection h with h
  subst h
  obtain ⟨e1, e2, _⟩ := C.viewOk hv
  exact ⟨fun u hu => e1 ▸ A3.1 hu, fun u hu => e2 ▸ A3.2 hu⟩
 cases h
theorem H8 {l l' k : List Nat} (h : ∀ u ∈ l', u ∈ l) (hd : kJ l k = true) : kJ l' k = true := by
 simp only [kJ, List.all_eq_true] at hd ⊢
 exact fun u hu => hd u (h u hu)
theorem BN {C D : Cont} {S K : List Nat} (h : D.PL C) (hs : C.safe S K = true) : D.safe S K = true := by
 simp only [Cont.safe, Bool.and_eq_true] at hs ⊢
 exact ⟨H8 h.1 hs.1, H8 h.2 hs.2⟩
structure As where
  slots : Nat → Ty
  tags : List (Nat × Cont)
inductive FK where
  | plain | marks | round (l : Nat) | iter
structure Fr where
  n : Nat
  w0 : World
  M0 : ah
  pass : List Nat
  kd : FK
def FK.Lo : FK → Nat → Prop
  | .iter, _ => True
  | _, t => 1 ≤ t
theorem FK.Hr {k : FK} {t : Nat} (h : 1 ≤ t) : k.Lo t := by cases k <;> first | exact h | trivial
def FK.gT : FK → Fence
  | .round l => Fence.wide.inRound l
  | _ => Fence.wide
theorem FK.oW (k : FK) (f : FuncId) : k.gT.fn f := by cases k <;> trivial
theorem FK.sQ (k : FK) : k.gT.depth = none := by cases k <;> rfl
theorem FK.calls {k : FK} {n : Nat} {P : Program} {f : FuncId} {args : Array Value} {w : World} {R : Ending → World → Prop} (h : Calls P f args w R) : CallsIn k.gT n P f args w R := by
 have h' : CallsIn Fence.wide n P f args w R := callsIn_wide.2 h
 cases k <;> first | exact h' | exact CallsIn.inRound _ h'
theorem Kx {k : FK} {P : Program} {o : Oper} {a : Act} {w : World} {K : Act → World → Prop} (hnd : ∀ c, o.op ≠ .defer c) (hnr : ∀ row args w', (execOp a.eval o).run P w ≠ .ok (.row row args) w') (h : o.wp P a w K fun _ _ _ => False) : o.wpIn k.gT 0 P a w K fun _ _ _ => False := by
  refine ⟨fun f _ => k.oW f, ?_⟩
  unfold Oper.wp at h
  rw [Oper.semAt_eq k.gT.round a.eval o hnd]
  generalize hr : (execOp a.eval o).run P w = r at *
  cases r with
  | ok n w' =>
    cases n <;> simp only [Oper.upon, Oper.uponIn] at h ⊢ <;> first
      | exact h
      | exact ⟨fun hd => (by rw [k.sQ] at hd; cases hd), FK.calls h⟩
      | exact absurd rfl (hnr _ _ _)
  | halt x w' => cases x <;> simp only [Oper.upon, Oper.uponIn] at h ⊢
theorem Cd {ρ : Operand → Value} {o : Oper} {P : Program} {w w' : World} {n : Next} (h : (execOp ρ o).run P w = .ok n w') (hn : ∀ d, n ≠ .defer d) : ∀ c, o.op ≠ .defer c := by
  intro c hc
  unfold execOp at h
  rw [hc] at h
  rw [Sem.run_bind] at h
  cases hr : (resolve ρ c o.type).run P w with
  | ok d w2 => rw [hr] at h; injection h with h; exact hn d h.symm
  | halt x w2 => rw [hr] at h; cases h
theorem qn {k : FK} {P : Program} {o : Oper} {a : Act} {w w' : World} {v : Value} {K : Act → World → Prop} (hv : (execOp a.eval o).run P w = .ok (.value v) w') (h : K (a.put o.dst v) w') : o.wpIn k.gT 0 P a w K fun _ _ _ => False := by
 refine Kx (Cd hv fun _ h => by cases h) (fun _ _ _ hr => by rw [hv] at hr; cases hr) ?_
 unfold Oper.wp
 rw [hv, Oper.upon_value]; exact h
theorem tF {k : FK} {P : Program} {o : Oper} {a : Act} {w w' : World} {K : Act → World → Prop} (hv : (execOp a.eval o).run P w = .ok .skip w') (h : K (a.put o.dst undef) w') : o.wpIn k.gT 0 P a w K fun _ _ _ => False := by
 refine Kx (Cd hv fun _ h => by cases h) (fun _ _ _ hr => by rw [hv] at hr; cases hr) ?_
 unfold Oper.wp
 rw [hv, Oper.upon_skip]; exact h
theorem eZ {k : FK} {P : Program} {o : Oper} {a : Act} {w w' : World} {f : FuncId} {args : Array Value} {K : Act → World → Prop} (hv : (execOp a.eval o).run P w = .ok (.enter f args) w') (h : Calls P f args w' fun e w'' => ∃ v, e = .returned v ∧ K (a.put o.dst v) w'') : o.wpIn k.gT 0 P a w K fun _ _ _ => False := by
 refine Kx (Cd hv fun _ h => by cases h) (fun _ _ _ hr => by rw [hv] at hr; cases hr) ?_
 unfold Oper.wp
 rw [hv, Oper.upon_enter]
 exact h.mono fun e w'' ⟨v, e1, hk⟩ => by subst e1; exact hk
def Fr.base (fr : Fr) (w : World) (M : ah) : Prop := Le fr.kd.Lo (fun t => 1 ≤ t ∧ t ∉ fr.pass) fr.w0 fr.M0 w M
def wG (r : Nat) : Deferred := { target := .collected r, args := #[] }
def Defs (fr : Fr) (w : World) (M : ah) (ds : List Deferred) : Prop :=
  ∃ rs : List Nat, ds = rs.map wG ∧ (rs ≠ [] → fr.kd = .marks) ∧ rs.Nodup ∧ ∀ r ∈ rs, M r = some 0 ∧ (fr.w0.heap.size ≤ r ∧ ∀ t, ¬ (1 ≤ t ∧ t ∉ fr.pass) → fr.M0 r ≠ some t) ∧ w.heap[r]? = some (.deferred (some []))
theorem Defs.nil {fr : Fr} {w : World} {M : ah} : Defs fr w M [] := ⟨[], rfl, fun h => absurd rfl h, List.nodup_nil, fun _ h => by cases h⟩
theorem Defs.step {fr : Fr} {w w' : World} {M M' : ah} {S K : Nat → Prop} {ds : List Deferred} (hs : ∀ t, S t → 1 ≤ t) (hk : ∀ t, K t → 1 ≤ t) (le : Le S K w M w' M') (h : Defs fr w M ds) : Defs fr w' M' ds := by
 obtain ⟨rs, e, h1, h2, h3⟩ := h
 refine ⟨rs, e, h1, h2, fun r hr => ?_⟩
 obtain ⟨a, b, c⟩ := h3 r hr
 obtain ⟨d, f⟩ := le.own r 0 a (fun h => by have := hk 0 h; omega)
 exact ⟨d, b, (f fun h => by have := hs 0 h; omega).trans c⟩
structure Ok (fr : Fr) (a : Act) (w : World) (M : ah) : Prop where
  wf : Wf w M
  base : fr.base w M
  size : a.tmps.size = fr.n
  defers : Defs fr w M a.defers
theorem Ok.eD {fr : Fr} {a : Act} {w : World} {M : ah} (h : Ok fr a w M) (hk : fr.kd ≠ .marks) : a.defers = [] := by
  obtain ⟨rs, e, h1, _⟩ := h.defers
  cases rs with
  | nil => exact e
  | cons r rs => exact absurd (h1 (by simp)) hk
def As.holds (fr : Fr) (A : As) (a : Act) (w : World) : Prop :=
  ∃ M, Ok fr a w M ∧ (∀ c, c < fr.n → (A.slots c).den w M (a.tmps.getD c undef)) ∧ ∀ x ∈ A.tags, x.2.den w M x.1
structure Fx where
  d : Option Nat
  ty : Ty := Ty.any
  S : List Nat := []
  K : List Nat := []
  sets : List (Nat × Cont) := []
  rs : List Nat := []
  rt : List Nat := []
def fC (S K : List Nat) (s : Nat → Ty) : Nat → Ty :=
  match S, K with
  | [], [] => s
  | S, K => fun c => bif (s c).safe S K then s c else Ty.any
def o7 (d : Option Nat) (ty : Ty) (s : Nat → Ty) : Nat → Ty :=
  match d with
  | none => s
  | some d => fun c => bif Nat.beq c d then ty else s c
def oJ (S K : List Nat) (l : List (Nat × Cont)) : List (Nat × Cont) :=
  match S, K with
  | [], [] => l
  | _, _ => l.filterMap fun x => bif S.contains x.1 || K.contains x.1 then none else bif x.2.safe S K then some x else (x.2.soft S K).map fun C => (x.1, C)
def As.after (A : As) (f : Fx) : As := ⟨o7 f.d f.ty (fC f.S f.K A.slots), f.sets ++ oJ f.S f.K A.tags⟩
def Fx.left (f : Fx) (w : World) (M : ah) (w' : World) (v : Value) : Prop :=
  ∃ M', Wf w' M' ∧ Le (· ∈ f.S) (· ∈ f.K) w M w' M' ∧ f.ty.den w' M' v ∧ ∀ x ∈ f.sets, x.2.den w' M' x.1
def xe (P : Program) (fr : Fr) (ops : Array Oper) (o : Oper) (A : As) (f : Fx) : Prop :=
  f.d = o.dst ∧ (∀ x ∈ f.sets, x.1 ∈ f.S ∨ x.1 ∈ f.K) ∧ (∀ t ∈ f.S, 1 ≤ t) ∧ (∀ t ∈ f.K, 1 ≤ t ∧ t ∉ fr.pass) ∧
  ∀ a w M, Wf w M → a.tmps.size = fr.n → (∀ c ∈ f.rs, c < fr.n → (A.slots c).den w M (a.tmps.getD c undef)) → (∀ x ∈ A.tags, x.1 ∈ f.rt → x.2.den w M x.1) →
    if Region.wanted o (yielded ops a.tmps) then o.wpIn fr.kd.gT 0 P a w (fun a' w' => ∃ v, a' = a.put o.dst v ∧ f.left w M w' v) (fun _ _ _ => False) else f.left w M w undef
def aV (P : Program) (fr : Fr) (ops : Array Oper) : List Oper → As → (As → List (As × Fx) → Prop) → Prop
  | [], A, K => K A []
  | o :: rest, A, K => ∃ f, xe P fr ops o A f ∧ aV P fr ops rest (A.after f) fun A' l => K A' ((A, f) :: l)
section
variable {P : Program} {fr : Fr} {ops : Array Oper}
theorem ep (S K : List Nat) (s : Nat → Ty) (c : Nat) : (fC S K s c = s c ∧ (s c).safe S K = true) ∨ ((s c).safe S K = false ∧ fC S K s c = Ty.any) := by
  unfold fC
  split
  · exact .inl ⟨rfl, yI _⟩
  · cases h : (s c).safe _ _ with
    | true => exact .inl ⟨by simp only [h, cond_true], rfl⟩
    | false => exact .inr ⟨rfl, by simp only [h, cond_false]⟩
theorem pH {S K : List Nat} {l : List (Nat × Cont)} {x : Nat × Cont} (h : x ∈ oJ S K l) : x.1 ∉ S ∧ x.1 ∉ K ∧ ∃ y ∈ l, y.1 = x.1 ∧ ((y = x ∧ y.2.safe S K = true) ∨ (y.2.safe S K = false ∧ y.2.soft S K = some x.2)) := by
  unfold oJ at h
  split at h
  · exact ⟨by simp, by simp, x, h, rfl, .inl ⟨rfl, by simp [Cont.safe, kJ]⟩⟩
  · obtain ⟨y, hy, hx⟩ := List.mem_filterMap.1 h
    cases hc : (S.contains y.1 || K.contains y.1) with
    | true => rw [hc] at hx; cases hx
    | false =>
      rw [hc, cond_false] at hx
      simp only [Bool.or_eq_false_iff, List.contains_eq_mem, decide_eq_false_iff_not] at hc
      cases hs : y.2.safe S K with
      | true => rw [hs, cond_true] at hx; injection hx with hx; subst hx; exact ⟨hc.1, hc.2, y, hy, rfl, .inl ⟨rfl, hs⟩⟩
      | false =>
        rw [hs, cond_false] at hx
        obtain ⟨D, hD, hx⟩ := Option.map_eq_some_iff.1 hx
        subst hx
        exact ⟨hc.1, hc.2, y, hy, rfl, .inr ⟨hs, hD⟩⟩
theorem gb {S K : List Nat} {w w' : World} {M M' : ah} {l : List (Nat × Cont)} {x : Nat × Cont} (le : Le (· ∈ S) (· ∈ K) w M w' M') (h : x ∈ oJ S K l) (hd : ∀ y ∈ l, y.1 = x.1 → y.2.den w M y.1) : x.2.den w' M' x.1 := by
 obtain ⟨h1, h2, y, hy, e, ⟨rfl, hs⟩ | ⟨_, hs⟩⟩ := pH h
 ·exact y.2.mono le (pE hs).1 (pE hs).2 h1 h2 (hd y hy rfl)
 have := hd y hy e
 rw [e] at this
 exact K7 le h1 h2 hs this
theorem zg (a : Act) (d : Option Nat) (v : Value) (c : Nat) (hc : c < a.tmps.size) : (a.put d v).tmps.getD c undef = if d = some c then v else a.tmps.getD c undef := by
  cases d with
  | none => simp [Act.put]
  | some d =>
    simp only [Act.put, Array.getD_eq_getD_getElem?, Array.getElem?_setIfInBounds, Option.some.injEq]
    by_cases e : d = c
    · subst e; simp [hc]
    · simp [e]
theorem size_put (a : Act) (d : Option Nat) (v : Value) : (a.put d v).tmps.size = a.tmps.size := by cases d <;> simp [Act.put]
theorem sK (a : Act) (d : Option Nat) (v : Value) : (a.put d v).defers = a.defers := by cases d <;> simp [Act.put]
theorem Fr.jF {w w' : World} {M M' : ah} {S K : Nat → Prop} (hb : fr.base w M) (hs : ∀ t, S t → 1 ≤ t) (hk : ∀ t, K t → 1 ≤ t ∧ t ∉ fr.pass) (h : Le S K w M w' M') : fr.base w' M' :=
 (hb.trans h).weaken (fun t ht => ht.elim id (fun h => FK.Hr (hs t h))) (fun t ht => ht.elim id (hk t))
theorem nI {A : As} {f : Fx} {a : Act} {w w' : World} {M : ah} {v : Value} (hS : ∀ t ∈ f.S, 1 ≤ t) (hK : ∀ t ∈ f.K, 1 ≤ t ∧ t ∉ fr.pass) 
    (ok : Ok fr a w M) (hs : ∀ c, c < fr.n → (A.slots c).den w M (a.tmps.getD c undef)) (ht : ∀ x ∈ A.tags, x.2.den w M x.1) (hl : f.left w M w' v) : (A.after f).holds fr (a.put f.d v) w' := by
  obtain ⟨M', wf', le, hv, hsets⟩ := hl
  refine ⟨M', ⟨wf', Fr.jF ok.base hS hK le, by rw [size_put, ok.size], by rw [sK]; exact ok.defers.step hS (fun t ht => (hK t ht).1) le⟩, fun c hc => ?_, fun x hx => ?_⟩
  · rw [zg a f.d v c (by rw [ok.size]; exact hc)]
    have key : (fC f.S f.K A.slots c).den w' M' (a.tmps.getD c undef) := by
      rcases ep f.S f.K A.slots c with ⟨e, hdj⟩ | ⟨_, e⟩
      · rw [e]
        exact (A.slots c).mono le (eJ hdj).1 (eJ hdj).2 (hs c hc)
      · rw [e]; trivial
    simp only [As.after, o7]
    cases hfd : f.d with
    | none => simpa using key
    | some d =>
      by_cases e : d = c
      · subst e; simpa using hv
      · have e' : Nat.beq c d = false := by cases h : Nat.beq c d with | false => rfl | true => exact absurd (Nat.eq_of_beq_eq_true h).symm e
        simpa [e, e'] using key
  · rcases List.mem_append.1 hx with hx | hx
    · exact hsets x hx
    · exact gb le hx fun y hy _ => ht y hy
end
end Go.T
namespace Go.T
open Go Go.RowKit
section
variable {P : Program} {fr : Fr} {ops : Array Oper}
theorem Oper.nu {F : Fence} {o : Oper} {a : Act} {w : World} {K K' : Act → World → Prop} {Q : Exit → Act → World → Prop} (h : ∀ a w, K a w → K' a w)
    (hh : o.wpIn F 0 P a w K fun _ _ _ => False) : o.wpIn F 0 P a w K' Q := by
  unfold Oper.wpIn at *
  refine ⟨hh.1, ?_⟩
  have hh := hh.2
  generalize (o.semAt F.round a.eval).run P w = r at *
  cases r with
  | ok n w' =>
    cases n <;> simp only [Oper.uponIn] at hh ⊢ <;>
      first
        | exact h _ _ hh
        | exact ⟨hh.1, CallsIn.mono hh.2 (fun e w'' he => by
            cases e with
            | returned v => exact h _ _ he
            | panicked c => exact he.elim
            | outgrown => obtain ⟨_, _, f⟩ := he; exact f.elim)⟩
        | exact ⟨hh.1, RoundIn.mono hh.2 (fun e w'' he => by
            cases e with
            | returned v => exact h _ _ he
            | panicked c => exact he.elim
            | outgrown => obtain ⟨_, _, f⟩ := he; exact f.elim)⟩
        | exact ⟨hh.1, RowsIn.mono hh.2 (fun _ _ he => h _ _ he)⟩
  | halt x w' => cases x <;> simp only [Oper.uponIn] at hh ⊢
theorem oN {Q : Exit → Act → World → Prop} : ∀ (l : List Oper) (A : As) (K : As → List (As × Fx) → Prop) (a : Act) (w : World), aV P fr ops l A K → A.holds fr a w →
    (∀ A' s a w, K A' s → A'.holds fr a w → Q .normal a w) → wpListIn fr.kd.gT 0 P ops Q l a w
  | [], A, K, a, w, h, ha, hk => hk A [] a w h ha
  | o :: rest, A, K, a, w, ⟨f, ⟨hd, hsets, hS, hK, hop⟩, hrest⟩, ⟨M, ok, hs, ht⟩, hk => by
    have h := hop a w M ok.wf ok.size (fun c _ hc => hs c hc) (fun x hx _ => ht x hx)
    unfold wpListIn
    split
    · rename_i hw
      rw [if_pos hw] at h
      refine Oper.nu (fun a' w' ⟨v, e, hl⟩ => ?_) h
      subst e
      rw [← hd]
      exact oN rest _ _ _ _ hrest (nI hS hK ok hs ht hl) fun A' s a w hk' hA => hk A' _ a w hk' hA
    · rename_i hw
      rw [if_neg hw] at h
      refine ⟨fun f _ => fr.kd.oW f, ?_⟩
      rw [← hd]
      exact oN rest _ _ _ _ hrest (nI hS hK ok hs ht h) fun A' s a w hk' hA => hk A' _ a w hk' hA
def hit (s : As × Fx) (c : Nat) : Bool := s.2.d == some c || !(s.1.slots c).safe s.2.S s.2.K
def jP (s : As × Fx) (t : Nat) : Bool := (s.2.S.contains t || s.2.K.contains t) || s.1.tags.any fun x => x.1 == t && !x.2.safe s.2.S s.2.K
def Fx.calm (f : Fx) : Bool := f.S.isEmpty && f.K.isEmpty
def Fx.slotsOf (f : Fx) : List Nat := f.d.toList ++ f.rs
def Fx.nY (f : Fx) : List Nat := f.S ++ (f.K ++ f.rt)
def conflict (n : Nat) (s t : As × Fx) : Bool :=
  t.2.slotsOf.any (hit s) || s.2.slotsOf.any (hit t) || t.2.nY.any (jP s) || s.2.nY.any (jP t) ||
  (!s.2.calm && !t.2.calm && ((List.range n).any (fun c => hit s c && hit t c) || s.1.tags.any fun x => jP s x.1 && jP t x.1))
def pP (ops : Array Oper) (i j : Nat) : Bool :=
  match ops[j]? with
  | some o => o.after.toList.any fun e => Region.binds .any e && e.on == i
  | none => false
def PS (ops : Array Oper) : Nat → List Nat → List Nat
  | 0, s => s
  | k + 1, s => PS ops k (bif s.any fun m => pP ops k m then k :: s else s)
def path (ops : Array Oper) (i j : Nat) : Bool := pP ops i j || (PS ops j [j]).contains i
def LD (n : Nat) (ops : Array Oper) (s t : As × Fx) (i j : Nat) : Bool := !(decide (i < j) && conflict n s t) || path ops i j
def Q7 (ops : Array Oper) (steps : List ((As × Fx) × Nat)) (i k c : Nat) : Bool := steps.any fun m => decide (k < m.2) && (decide (m.2 < i) && (hit m.1 c && path ops m.2 i))
def Cs (ops : Array Oper) (steps : List ((As × Fx) × Nat)) (s t : As × Fx) (i k : Nat) : Bool :=
  (if i == k then true else if k < i then t.2.d.toList.all (fun c => t.2.ty.safe s.2.S s.2.K || (hit s c || Q7 ops steps i k c)) && t.2.sets.all (fun x => x.2.safe s.2.S s.2.K || jP s x.1)
    else (t.2.ty.safe s.2.S s.2.K && t.2.sets.all (fun x => x.2.safe s.2.S s.2.K)) || path ops i k)
def IL (n : Nat) (A0 : As) (s : As × Fx) : Bool :=
  s.2.calm || ((List.range n).all (fun c => (A0.slots c).safe s.2.S s.2.K || hit s c) && A0.tags.all (fun x => x.2.safe s.2.S s.2.K || jP s x.1))
def pM (n : Nat) (ops : Array Oper) (A0 : As) (steps : List (As × Fx)) : Bool :=
  steps.zipIdx.all fun s => IL n A0 s.1 && steps.zipIdx.all fun t => LD n ops s.1 t.1 s.2 t.2 && (s.1.2.calm || Cs ops steps.zipIdx s.1 t.1 s.2 t.2)
theorem yl : ∀ (l : List Oper) (k : Nat) (A : As) (K : As → List (As × Fx) → Prop), aV P fr ops l A K → (∀ j, l[j]? = ops[k + j]?) →
    ∃ (st : Nat → As) (fx : Nat → Fx), st 0 = A ∧ (∀ i, i < l.length → ∃ o, ops[k + i]? = some o ∧ xe P fr ops o (st i) (fx i)) ∧ (∀ i, i < l.length → st (i + 1) = (st i).after (fx i)) ∧
      K (st l.length) ((List.range l.length).map fun i => (st i, fx i))
  | [], k, A, K, h, _ => ⟨fun _ => A, fun _ => ⟨none, Ty.any, [], [], [], [], []⟩, rfl, fun i hi => absurd hi (Nat.not_lt_zero _), fun i hi => absurd hi (Nat.not_lt_zero _), h⟩
  | o :: rest, k, A, K, ⟨f, hop, hrest⟩, hl => by
    obtain ⟨st, fx, h0, h1, h2, h3⟩ := yl rest (k + 1) _ _ hrest (fun j => by have := hl (j + 1); simpa [Nat.add_assoc, Nat.add_comm 1 j] using this)
    refine ⟨fun i => match i with | 0 => A | i + 1 => st i, fun i => match i with | 0 => f | i + 1 => fx i, rfl, fun i hi => ?_, fun i hi => ?_, ?_⟩
    · cases i with
      | zero => exact ⟨o, by have := hl 0; simpa using this.symm, hop⟩
      | succ i => obtain ⟨o', ho', h⟩ := h1 i (by simpa using hi); exact ⟨o', by rw [← ho']; congr 1; omega, h⟩
    · cases i with
      | zero => exact h0
      | succ i => exact h2 i (by simpa using hi)
    · simp only [List.length_cons, List.range_succ_eq_map, List.map_cons, List.map_map]
      exact h3
variable {st : Nat → As} {fx : Nat → Fx} {m : Nat}
theorem zF {A : As} {f : Fx} {c : Nat} (h : hit (A, f) c = false) : (A.after f).slots c = A.slots c := by
  simp only [hit, Bool.or_eq_false_iff, beq_eq_false_iff_ne, Bool.not_eq_false'] at h
  rcases ep f.S f.K A.slots c with ⟨e, _⟩ | ⟨e, _⟩
  · simp only [As.after, o7]
    cases hd : f.d with
    | none => simpa using e
    | some d =>
      have : Nat.beq c d = false := by cases hb : Nat.beq c d with | false => rfl | true => exact absurd (by rw [hd, Nat.eq_of_beq_eq_true hb]) h.1
      simpa [this] using e
  · rw [h.2] at e; cases e
theorem IN {A : As} {f : Fx} {c : Nat} (h : f.d = some c) : (A.after f).slots c = f.ty := by simp [As.after, o7, h]
theorem zE {A : As} {f : Fx} {c : Nat} (h : f.d ≠ some c) (hk : (A.slots c).safe f.S f.K = false) : (A.after f).slots c = Ty.any := by
  rcases ep f.S f.K A.slots c with ⟨_, e⟩ | ⟨_, e⟩
  · rw [hk] at e; cases e
  · simp only [As.after, o7]
    cases hd : f.d with
    | none => simpa using e
    | some d =>
      have : Nat.beq c d = false := by cases hb : Nat.beq c d with | false => rfl | true => exact absurd (by rw [hd, Nat.eq_of_beq_eq_true hb]) h
      simpa [this] using e
theorem KG (hstep : ∀ i, i < m → st (i + 1) = (st i).after (fx i)) (c : Nat) : ∀ j, j ≤ m →
    (st j).slots c = (st 0).slots c ∨ (st j).slots c = Ty.any ∨ ∃ k, k < j ∧ (fx k).d = some c ∧ (st j).slots c = (fx k).ty ∧ ∀ u, k < u → u < j → hit (st u, fx u) c = false := by
  intro j
  induction j with
  | zero => exact fun _ => .inl rfl
  | succ j ih =>
    intro hj
    have ih := ih (by omega)
    rw [hstep j (by omega)]
    by_cases hd : (fx j).d = some c
    · exact .inr (.inr ⟨j, by omega, hd, IN hd, fun u h1 h2 => by omega⟩)
    · cases hk : ((st j).slots c).safe (fx j).S (fx j).K with
      | false => exact .inr (.inl (zE hd hk))
      | true =>
        rw [zF (by simp [hit, hd, hk])]
        rcases ih with h | h | ⟨k, h1, h2, h3, h4⟩
        · exact .inl h
        · exact .inr (.inl h)
        · refine .inr (.inr ⟨k, by omega, h2, h3, fun u g1 g2 => ?_⟩)
          by_cases e : u = j
          · subst e; simp [hit, hd, hk]
          · exact h4 u g1 (by omega)
theorem MF (hstep : ∀ i, i < m → st (i + 1) = (st i).after (fx i)) (x : Nat × Cont) : ∀ j, j ≤ m → x ∈ (st j).tags →
    ∃ y : Nat × Cont, y.1 = x.1 ∧ x.2.PL y.2 ∧ (y ∈ (st 0).tags ∨ ∃ k, k < j ∧ y ∈ (fx k).sets) := by
  intro j
  induction j generalizing x with
  | zero => exact fun _ h => ⟨x, rfl, ⟨fun _ h => h, fun _ h => h⟩, .inl h⟩
  | succ j ih =>
    intro hj hx
    rw [hstep j (by omega)] at hx
    rcases List.mem_append.1 hx with h | h
    · exact ⟨x, rfl, ⟨fun _ h => h, fun _ h => h⟩, .inr ⟨j, by omega, h⟩⟩
    · obtain ⟨_, _, y, hy, e, ⟨rfl, _⟩ | ⟨_, hs⟩⟩ := pH h
      · obtain ⟨z, h1, h2, h3⟩ := ih y (by omega) hy
        exact ⟨z, h1, h2, h3.imp id fun ⟨k, hk, h⟩ => ⟨k, by omega, h⟩⟩
      · obtain ⟨z, h1, h2, h3⟩ := ih y (by omega) hy
        have hl := KA hs
        exact ⟨z, h1.trans e, ⟨fun u hu => h2.1 u (hl.1 u hu), fun u hu => h2.2 u (hl.2 u hu)⟩, h3.imp id fun ⟨k, hk, h⟩ => ⟨k, by omega, h⟩⟩
theorem By (hstep : ∀ i, i < m → st (i + 1) = (st i).after (fx i)) (c i : Nat) : ∀ j, i ≤ j → j ≤ m → (∀ k, i ≤ k → k < j → hit (st k, fx k) c = false) → (st j).slots c = (st i).slots c := by
  intro j
  induction j with
  | zero => intro h _ _; have : i = 0 := by omega
            subst this; rfl
  | succ j ih =>
    intro h hj hn
    by_cases e : i = j + 1
    · subst e; rfl
    · rw [hstep j (by omega), zF (hn j (by omega) (by omega))]
      exact ih (by omega) (by omega) fun k h1 h2 => hn k h1 (by omega)
theorem Ef (hstep : ∀ i, i < m → st (i + 1) = (st i).after (fx i)) (hset : ∀ i, i < m → ∀ x ∈ (fx i).sets, x.1 ∈ (fx i).S ∨ x.1 ∈ (fx i).K) (x : Nat × Cont) (i : Nat) : ∀ j, i ≤ j → j ≤ m →
    (∀ k, i ≤ k → k < j → jP (st k, fx k) x.1 = false) → x ∈ (st j).tags → x ∈ (st i).tags := by
  intro j
  induction j with
  | zero => intro h _ _ hx; have : i = 0 := by omega
            subst this; exact hx
  | succ j ih =>
    intro h hj hn hx
    by_cases e : i = j + 1
    · subst e; exact hx
    · refine ih (by omega) (by omega) (fun k h1 h2 => hn k h1 (by omega)) ?_
      rw [hstep j (by omega)] at hx
      have hh := hn j (by omega) (by omega)
      simp only [jP, Bool.or_eq_false_iff, List.contains_eq_mem, decide_eq_false_iff_not, List.any_eq_false, Bool.and_eq_true, beq_iff_eq, Bool.not_eq_true', not_and, Bool.not_eq_false] at hh
      rcases List.mem_append.1 hx with h1 | h1
      · rcases hset j (by omega) x h1 with h2 | h2
        · exact absurd h2 hh.1.1
        · exact absurd h2 hh.1.2
      · obtain ⟨_, _, y, hy, e, ⟨rfl, _⟩ | ⟨hu, _⟩⟩ := pH h1
        · exact hy
        · have := hh.2 y hy e; rw [hu] at this; cases this
end
end Go.T
namespace Go.T
open Go Go.RowKit
section
variable {P : Program} {fr : Fr} {ops : Array Oper} {st : Nat → As} {fx : Nat → Fx} {m : Nat}
structure PV (P : Program) (fr : Fr) (ops : Array Oper) (st : Nat → As) (fx : Nat → Fx) (m : Nat) : Prop where
  sz : ops.size = m
  op : ∀ i, i < m → ∃ o, ops[i]? = some o ∧ xe P fr ops o (st i) (fx i)
  step : ∀ i, i < m → st (i + 1) = (st i).after (fx i)
  pair : ∀ i j, i < j → j < m → conflict fr.n (st i, fx i) (st j, fx j) = true → path ops i j = true
  star : ∀ i k, i < m → k < m → (fx i).calm = false → Cs ops ((List.range m).map fun i => (st i, fx i)).zipIdx (st i, fx i) (st k, fx k) i k = true
  one : ∀ i, i < m → IL fr.n (st 0) (st i, fx i) = true
def lq (listed : Array Bool) (i : Nat) : Prop := listed.getD i false = true
theorem va {q : Nat → Prop} (h : ∀ k m, pP ops k m = true → q m → q k) : ∀ (k : Nat) (s : List Nat), (∀ x ∈ s, q x) → ∀ x ∈ PS ops k s, q x
  | 0, _, hs => hs
  | k + 1, s, hs => by
    refine va h k _ fun x hx => ?_
    cases hc : s.any fun m => pP ops k m with
    | false => rw [hc] at hx; exact hs x hx
    | true =>
      rw [hc] at hx
      obtain ⟨m, hm, he⟩ := List.any_eq_true.1 hc
      rcases List.mem_cons.1 hx with rfl | hx
      · exact h _ m he (hs m hm)
      · exact hs x hx
theorem j3 {listed : Array Bool} (hdown : ∀ k j, pP ops k j = true → lq listed j → lq listed k) {i j : Nat} (h : path ops i j = true) (hj : lq listed j) : lq listed i := by
 simp only [path, Bool.or_eq_true, List.contains_eq_mem, decide_eq_true_eq] at h
 rcases h with h | h
 ·exact hdown i j h hj
 exact va (q := lq listed) hdown j [j] (fun x hx => by rw [List.mem_singleton.1 hx]; exact hj) i h
theorem uU {listed : Array Bool} (hdown : ∀ k j, pP ops k j = true → lq listed j → lq listed k) {i k : Nat} (hpre : ∀ k, pP ops k i = true → lq listed k) (h : path ops k i = true) (hne : k ≠ i) : lq listed k := by
 simp only [path, Bool.or_eq_true, List.contains_eq_mem, decide_eq_true_eq] at h
 rcases h with h | h
 ·exact hpre k h
 refine (va (q := fun x => x = i ∨ lq listed x) (fun a m he hm => ?_) i [i] (fun x hx => .inl (List.mem_singleton.1 hx)) k h).resolve_left hne
 rcases hm with rfl | hm
 ·exact .inr (hpre a he)
 exact .inr (hdown a m he hm)
structure Inv (fr : Fr) (ops : Array Oper) (st : Nat → As) (fx : Nat → Fx) (m : Nat) (listed : Array Bool) (a : Act) (w : World) (M : ah) : Prop where
  ok : Ok fr a w M
  down : ∀ k j, pP ops k j = true → lq listed j → lq listed k
  slot : ∀ c, c < fr.n → ∀ j, j ≤ m → (∀ i, i < j → hit (st i, fx i) c = true → lq listed i) → (∀ i, j ≤ i → i < m → hit (st i, fx i) c = true → ¬ lq listed i) →
    ((st j).slots c).den w M (a.tmps.getD c undef)
  tag : ∀ j, j ≤ m → ∀ x ∈ (st j).tags, (∀ i, i < j → jP (st i, fx i) x.1 = true → lq listed i) → (∀ i, j ≤ i → i < m → jP (st i, fx i) x.1 = true → ¬ lq listed i) → x.2.den w M x.1
theorem uX {listed : Array Bool} {i k : Nat} (h : lq (listed.setIfInBounds i true) k) : lq listed k ∨ k = i := by
 by_cases e : i = k
 ·exact .inr e.symm
 exact .inl (by simpa [lq, Array.getElem?_setIfInBounds_ne e] using h)
theorem xV {listed : Array Bool} {i k : Nat} (h : lq listed k) : lq (listed.setIfInBounds i true) k := getD_set_true h
theorem FJ {listed : Array Bool} {i : Nat} (h : i < listed.size) : lq (listed.setIfInBounds i true) i := by simp [lq, h]
theorem CA {n : Nat} {s t : As × Fx} {c : Nat} (h : c ∈ t.2.slotsOf) (hh : hit s c = true) : conflict n s t = true := by
 have : t.2.slotsOf.any (hit s) = true := List.any_eq_true.2 ⟨c, h, hh⟩
 simp [conflict, this]
theorem AM {n : Nat} {s t : As × Fx} {c : Nat} (h : c ∈ s.2.slotsOf) (hh : hit t c = true) : conflict n s t = true := by
 have : s.2.slotsOf.any (hit t) = true := List.any_eq_true.2 ⟨c, h, hh⟩
 simp [conflict, this]
theorem Ea {n : Nat} {s t : As × Fx} {c : Nat} (h : c ∈ t.2.nY) (hh : jP s c = true) : conflict n s t = true := by
 have : t.2.nY.any (jP s) = true := List.any_eq_true.2 ⟨c, h, hh⟩
 simp [conflict, this]
theorem BZ {n : Nat} {s t : As × Fx} {c : Nat} (h : c ∈ s.2.nY) (hh : jP t c = true) : conflict n s t = true := by
 have : s.2.nY.any (jP t) = true := List.any_eq_true.2 ⟨c, h, hh⟩
 simp [conflict, this]
theorem Mg {s : As × Fx} {c : Nat} (h : s.2.d = some c) : hit s c = true := by simp [hit, h]
theorem yq {s : As × Fx} {c : Nat} (h : hit s c = true) (hd : s.2.d ≠ some c) : (s.1.slots c).safe s.2.S s.2.K = false ∧ s.2.calm = false := by
  have h1 : (s.1.slots c).safe s.2.S s.2.K = false := by
    simp only [hit, Bool.or_eq_true, beq_iff_eq, hd, false_or, Bool.not_eq_true'] at h; exact h
  refine ⟨h1, ?_⟩
  cases hk : s.2.calm with
  | false => rfl
  | true =>
    simp only [Fx.calm, Bool.and_eq_true, List.isEmpty_iff] at hk
    rw [hk.1, hk.2, yI] at h1; cases h1
theorem sC {f : Fx} {c : Nat} (h : f.d = some c) : c ∈ f.slotsOf := by simp [Fx.slotsOf, h]
theorem Im {n : Nat} {s t : As × Fx} {c : Nat} (hc : c < n) (h : hit s c = true) (h' : hit t c = true) : conflict n s t = true := by
 by_cases hd : s.2.d = some c
 ·exact AM (sC hd) h'
 by_cases hd' : t.2.d = some c
 ·exact CA (sC hd') h
 have h1 := (yq h hd).2
 have h2 := (yq h' hd').2
 have : ((List.range n).any fun c => hit s c && hit t c) = true := List.any_eq_true.2 ⟨c, List.mem_range.2 hc, by simp [h, h']⟩
 simp [conflict, h1, h2, this]
theorem calm_eq {f : Fx} (h : f.calm = true) : f.S = [] ∧ f.K = [] := by simpa [Fx.calm] using h
theorem vu (t : Cont) : t.safe [] [] = true := by simp [Cont.safe, kJ]
theorem sR {n : Nat} {s t : As × Fx} {c : Nat} (h : jP s c = true) (h' : jP t c = true) : conflict n s t = true := by
  have hs : (c ∈ s.2.S ∨ c ∈ s.2.K) ∨ ∃ x ∈ s.1.tags, x.1 = c ∧ x.2.safe s.2.S s.2.K = false := by
    simpa only [jP, Bool.or_eq_true, List.contains_eq_mem, decide_eq_true_eq, List.any_eq_true, Bool.and_eq_true, beq_iff_eq, Bool.not_eq_true'] using h
  have ht : (c ∈ t.2.S ∨ c ∈ t.2.K) ∨ ∃ x ∈ t.1.tags, x.1 = c ∧ x.2.safe t.2.S t.2.K = false := by
    simpa only [jP, Bool.or_eq_true, List.contains_eq_mem, decide_eq_true_eq, List.any_eq_true, Bool.and_eq_true, beq_iff_eq, Bool.not_eq_true'] using h'
  rcases hs with hs | ⟨x, hx, rfl, hxs⟩
  · exact BZ (by simp only [Fx.nY, List.mem_append]; exact hs.elim .inl fun h => .inr (.inl h)) h'
  · rcases ht with ht | ⟨y, _, _, hys⟩
    · exact Ea (by simp only [Fx.nY, List.mem_append]; exact ht.elim .inl fun h => .inr (.inl h)) h
    · have c1 : s.2.calm = false := by
        cases hc : s.2.calm with
        | false => rfl
        | true => rw [(calm_eq hc).1, (calm_eq hc).2, vu] at hxs; cases hxs
      have c2 : t.2.calm = false := by
        cases hc : t.2.calm with
        | false => rfl
        | true => rw [(calm_eq hc).1, (calm_eq hc).2, vu] at hys; cases hys
      have : (s.1.tags.any fun x => jP s x.1 && jP t x.1) = true := List.any_eq_true.2 ⟨x, hx, by simp [h, h']⟩
      simp [conflict, c1, c2, this]
theorem PV.Ez (r : PV P fr ops st fx m) {listed : Array Bool} (hdown : ∀ k j, pP ops k j = true → lq listed j → lq listed k) {i c j : Nat} (hi : i < m) (hni : ¬ lq listed i) (hc : c < fr.n) (hj : j ≤ m)
    (hnh : hit (st i, fx i) c = false) (h1 : ∀ k, k < j → hit (st k, fx k) c = true → lq listed k) (h2 : ∀ k, j ≤ k → k < m → hit (st k, fx k) c = true → ¬ lq listed k) (hpre : ∀ k, pP ops k i = true → lq listed k) : ((st j).slots c).safe (fx i).S (fx i).K = true := by
  cases hK : (fx i).calm with
  | true =>
    rw [(calm_eq hK).1, (calm_eq hK).2]; exact yI _
  | false =>
    rcases KG r.step c j hj with e | e | ⟨k, hk, hd, e, hlast⟩
    · rw [e]
      have := r.one i hi
      simp only [IL, hK, Bool.false_or, Bool.and_eq_true, List.all_eq_true, List.mem_range] at this
      have := this.1 c hc
      simpa [hnh] using this
    · rw [e]; simp [Ty.any, Ty.safe, kJ]
    · rw [e]
      have hkm : k < m := by omega
      have := r.star i k hi hkm hK
      by_cases hik : i = k
      · subst hik; rw [Mg (s := (st i, fx i)) hd] at hnh; cases hnh
      · simp only [Cs, beq_iff_eq, hik, if_false] at this
        by_cases hlt : k < i
        · simp only [hlt, if_true, hd, Option.toList_some, List.all_cons, List.all_nil, Bool.and_true, Bool.and_eq_true, hnh, Bool.false_or, Bool.or_eq_true] at this
          rcases this.1 with h | h
          · exact h
          · obtain ⟨⟨q, u⟩, hq, h⟩ := List.any_eq_true.1 h
            rw [List.mem_zipIdx_iff_getElem?] at hq
            have hum : u < m := by
              have := (List.getElem?_eq_some_iff.1 hq).1
              simpa using this
            rw [List.getElem?_map, List.getElem?_range hum] at hq
            injection hq with hq
            subst hq
            simp only [Bool.and_eq_true, decide_eq_true_eq] at h
            obtain ⟨g1, g2, g3, g4⟩ := h
            rcases Nat.lt_or_ge u j with h | h
            · rw [hlast u g1 h] at g3; cases g3
            · exact absurd (uU hdown hpre g4 (by omega)) (h2 u h hum g3)
        · simp only [hlt, if_false, Bool.and_eq_true, Bool.or_eq_true] at this
          rcases this with h | h
          · exact h.1
          · exact absurd (j3 hdown h (h1 k hk (Mg hd))) hni
theorem PV.OF (r : PV P fr ops st fx m) {listed : Array Bool} (hdown : ∀ k j, pP ops k j = true → lq listed j → lq listed k) {i j : Nat} (hi : i < m) (hni : ¬ lq listed i) (hj : j ≤ m) {x : Nat × Cont} (hx : x ∈ (st j).tags)
    (hnh : jP (st i, fx i) x.1 = false) (h1 : ∀ k, k < j → jP (st k, fx k) x.1 = true → lq listed k) : x.2.safe (fx i).S (fx i).K = true := by
  cases hK : (fx i).calm with
  | true =>
    rw [(calm_eq hK).1, (calm_eq hK).2]; exact vu _
  | false =>
    obtain ⟨y, e, hl, h | ⟨k, hk, h⟩⟩ := MF r.step x j hj hx
    · refine BN hl ?_
      have := r.one i hi
      simp only [IL, hK, Bool.false_or, Bool.and_eq_true, List.all_eq_true] at this
      have := this.2 y h
      rw [e, hnh, Bool.or_false] at this; exact this
    · refine BN hl ?_
      have hkm : k < m := by omega
      have hst := r.star i k hi hkm hK
      have hin : y.1 ∈ (fx k).S ∨ y.1 ∈ (fx k).K := by obtain ⟨_, _, ho⟩ := r.op k hkm; exact ho.2.1 y h
      have hkh : jP (st k, fx k) x.1 = true := by
        rw [← e]
        simp only [jP, Bool.or_eq_true, List.contains_eq_mem, decide_eq_true_eq]; exact .inl hin
      unfold Cs at hst
      by_cases hik : i = k
      · subst hik; rw [hkh] at hnh; cases hnh
      · simp only [beq_iff_eq, hik, if_false] at hst
        by_cases hlt : k < i
        · simp only [hlt, if_true, Bool.and_eq_true, List.all_eq_true] at hst
          have := hst.2 y h
          rw [e, hnh, Bool.or_false] at this; exact this
        · simp only [hlt, if_false, Bool.and_eq_true, Bool.or_eq_true, List.all_eq_true] at hst
          rcases hst with hst | hst
          · exact hst.2 y h
          · exact absurd (j3 hdown hst (h1 k hk hkh)) hni
theorem Inv.step (r : PV P fr ops st fx m) {listed : Array Bool} {a : Act} {w w' : World} {M : ah} {v : Value} (inv : Inv fr ops st fx m listed a w M) {i : Nat} (hi : i < m) (hsz : i < listed.size) (hni : ¬ lq listed i)
    (hpre : ∀ k, pP ops k i = true → lq listed k) {o : Oper} (hop : xe P fr ops o (st i) (fx i)) (hl : (fx i).left w M w' v) :
    ∃ M', Inv fr ops st fx m (listed.setIfInBounds i true) (a.put o.dst v) w' M' := by
  obtain ⟨hd, hsets, hS, hK, _⟩ := hop
  obtain ⟨M', wf', le, hv, hse⟩ := hl
  have hset : ∀ i, i < m → ∀ x ∈ (fx i).sets, x.1 ∈ (fx i).S ∨ x.1 ∈ (fx i).K := fun i hi => by
    obtain ⟨_, _, h⟩ := r.op i hi; exact h.2.1
  refine ⟨M', ⟨⟨wf', Fr.jF inv.ok.base hS hK le, by rw [size_put, inv.ok.size], by rw [sK]; exact inv.ok.defers.step hS (fun t ht => (hK t ht).1) le⟩, ?_, ?_, ?_⟩⟩
  · intro k j he hj
    rcases uX hj with h | rfl
    · exact xV (inv.down k j he h)
    · exact xV (hpre k he)
  · intro c hc j hj h1 h2
    rw [← hd, zg a (fx i).d v c (by rw [inv.ok.size]; exact hc)]
    cases hh : hit (st i, fx i) c with
    | true =>
      have hij : i < j := by
        rcases Nat.lt_or_ge i j with h | h
        · exact h
        · exact absurd (FJ hsz) (h2 i h hi hh)
      have hno : ∀ k, i + 1 ≤ k → k < j → hit (st k, fx k) c = false := by
        intro k hk hkj
        cases hkc : hit (st k, fx k) c with
        | false => rfl
        | true =>
          have hlk : lq listed k := (uX (h1 k hkj hkc)).resolve_right (by omega)
          exact absurd (j3 inv.down (r.pair i k (by omega) (by omega) (Im hc hh hkc)) hlk) hni
      rw [By r.step c (i + 1) j (by omega) hj hno, r.step i hi]
      by_cases e : (fx i).d = some c
      · rw [IN e, if_pos e]; exact hv
      · rw [zE e (yq hh e).1]; trivial
    | false =>
      have e : (fx i).d ≠ some c := fun e => by rw [Mg (s := (st i, fx i)) e] at hh; cases hh
      rw [if_neg e]
      have h1' : ∀ k, k < j → hit (st k, fx k) c = true → lq listed k := fun k hk hkc =>
        (uX (h1 k hk hkc)).resolve_right (fun e => by subst e; rw [hh] at hkc; cases hkc)
      have h2' : ∀ k, j ≤ k → k < m → hit (st k, fx k) c = true → ¬ lq listed k := fun k hk hkm hkc hlk => h2 k hk hkm hkc (xV hlk)
      exact ((st j).slots c).mono le (eJ (r.Ez inv.down hi hni hc hj hh h1' h2' hpre)).1 (eJ (r.Ez inv.down hi hni hc hj hh h1' h2' hpre)).2 (inv.slot c hc j hj h1' h2')
  · intro j hj x hx h1 h2
    cases hh : jP (st i, fx i) x.1 with
    | true =>
      have hij : i < j := by
        rcases Nat.lt_or_ge i j with h | h
        · exact h
        · exact absurd (FJ hsz) (h2 i h hi hh)
      have hno : ∀ k, i + 1 ≤ k → k < j → jP (st k, fx k) x.1 = false := by
        intro k hk hkj
        cases hkc : jP (st k, fx k) x.1 with
        | false => rfl
        | true =>
          have hlk : lq listed k := (uX (h1 k hkj hkc)).resolve_right (by omega)
          exact absurd (j3 inv.down (r.pair i k (by omega) (by omega) (sR hh hkc)) hlk) hni
      have hx' := Ef r.step hset x (i + 1) j (by omega) hj hno hx
      rw [r.step i hi] at hx'
      rcases List.mem_append.1 hx' with h | h
      · exact hse x h
      · refine gb le h fun y hy e => inv.tag i (by omega) y hy (fun k hk hkc => ?_) fun k hk hkm hkc hlk => ?_
        · rw [e] at hkc
          exact uU inv.down hpre (r.pair k i hk hi (sR hkc hh)) (by omega)
        · rw [e] at hkc
          rcases Nat.lt_or_ge i k with hlt | hge
          · exact hni (j3 inv.down (r.pair i k hlt hkm (sR hh hkc)) hlk)
          · have : k = i := by omega
            subst this; exact hni hlk
    | false =>
      have h1' : ∀ k, k < j → jP (st k, fx k) x.1 = true → lq listed k := fun k hk hkc =>
        (uX (h1 k hk hkc)).resolve_right (fun e => by subst e; rw [hh] at hkc; cases hkc)
      have hsafe := r.OF inv.down hi hni hj hx hh h1'
      simp only [jP, Bool.or_eq_false_iff, List.contains_eq_mem, decide_eq_false_iff_not] at hh
      exact x.2.mono le (pE hsafe).1 (pE hsafe).2 hh.1.1 hh.1.2 (inv.tag j hj x hx h1' fun k hk hkm hkc hlk => h2 k hk hkm hkc (xV hlk))
theorem Ms {listed : Array Bool} {i : Nat} {o : Oper} (ho : ops[i]? = some o) (h : ∀ e ∈ o.after, Region.binds .any e = true → listed.getD e.on false = true) : ∀ k, pP ops k i = true → lq listed k := by
 intro k hk
 simp only [pP, ho, List.any_eq_true, Bool.and_eq_true, beq_iff_eq] at hk
 obtain ⟨e, he, hb, hon⟩ := hk
 subst hon
 exact h e (Array.mem_toList_iff.1 he) hb
theorem Gr (r : PV P fr ops st fx m) {Q : Exit → Act → World → Prop} (hQ : ∀ a w, (st m).holds fr a w → Q .normal a w) (hacyc : ∀ i j, pP ops i j = true → i < j) :
    ∀ (fuel : Nat) (listed : Array Bool) (a : Act) (w : World) (M : ah), listed.size = m → (listed.toList.countP fun b => !b) ≤ fuel → Inv fr ops st fx m listed a w M → wpAnyIn fr.kd.gT 0 P .any ops Q fuel listed a w := by
  have hfin : ∀ (listed : Array Bool) (a : Act) (w : World) (M : ah), listed.size = m → Region.ready .any ops listed = [] → Inv fr ops st fx m listed a w M → Q .normal a w := by
    intro listed a w M hsz hr inv
    have hall : ∀ i, i < m → lq listed i := by
      intro i
      induction i using Nat.strongRecOn with
      | _ i ih =>
        intro hi
        refine Classical.byContradiction fun hn => ?_
        obtain ⟨o, ho, _⟩ := r.op i hi
        have hmem : i ∈ Region.ready .any ops listed := by
          rw [mem_ready]
          refine ⟨?_, o, ho, fun e he hb => ?_⟩
          · simp only [lq, Array.getD_eq_getD_getElem?] at hn ⊢
            rw [Array.getElem?_eq_getElem (by omega)] at hn ⊢
            simpa using hn
          · have hed : pP ops e.on i = true := by
              simp only [pP, ho, List.any_eq_true, Bool.and_eq_true, beq_iff_eq]
              exact ⟨e, Array.mem_toList_iff.2 he, hb, rfl⟩
            have := hacyc _ _ hed
            exact ih e.on this (by omega)
        rw [hr] at hmem
        cases hmem
    refine hQ a w ⟨M, inv.ok, fun c hc => inv.slot c hc m (Nat.le_refl _) (fun i hi _ => hall i hi) (fun i h1 h2 => absurd h2 (by omega)),
      fun x hx => inv.tag m (Nat.le_refl _) x hx (fun i hi _ => hall i hi) (fun i h1 h2 => absurd h2 (by omega))⟩
  intro fuel
  induction fuel with
  | zero =>
    intro listed a w M hsz hcnt inv
    have hr : Region.ready .any ops listed = [] := by
      refine List.eq_nil_iff_forall_not_mem.2 fun i hi => ?_
      rw [mem_ready] at hi
      obtain ⟨h0, o, ho, _⟩ := hi
      have hlt : i < listed.size := by rw [hsz, ← r.sz]; exact (Array.getElem?_eq_some_iff.1 ho).1
      have : 0 < listed.toList.countP fun b => !b := by
        rw [List.countP_pos_iff]
        refine ⟨listed[i], by simp, ?_⟩
        simpa [Array.getD_eq_getD_getElem?, Array.getElem?_eq_getElem hlt] using h0
      omega
    exact ⟨hr, hfin listed a w M hsz hr inv⟩
  | succ fuel ih =>
    intro listed a w M hsz hcnt inv
    refine ⟨fun hr => hfin listed a w M hsz hr inv, fun i hi => ?_⟩
    rw [mem_ready] at hi
    obtain ⟨h0, o, ho, hpre⟩ := hi
    have hlt : i < listed.size := by rw [hsz, ← r.sz]; exact (Array.getElem?_eq_some_iff.1 ho).1
    have him : i < m := by omega
    have hni : ¬ lq listed i := by
      simp only [lq, Array.getD_eq_getD_getElem?, Array.getElem?_eq_getElem hlt, Option.getD_some] at h0 ⊢
      simp [h0]
    have hpre' := Ms ho hpre
    obtain ⟨o', ho', hop⟩ := r.op i him
    rw [ho] at ho'
    injection ho' with ho'
    subst ho'
    have hcnt' : ((listed.setIfInBounds i true).toList.countP fun b => !b) ≤ fuel := by
      have hb : listed[i] = false := by simpa [Array.getD_eq_getD_getElem?, Array.getElem?_eq_getElem hlt] using h0
      have h1 : (listed.setIfInBounds i true).toList = listed.toList.set i true := by simp
      rw [h1, List.countP_set (by simpa using hlt)]
      simp only [Array.getElem_toList, hb]
      have : 0 < listed.toList.countP fun b => !b := by
        rw [List.countP_pos_iff]
        exact ⟨listed[i], by simp, by simp [hb]⟩
      simp only [Bool.not_false, Bool.not_true, if_true, Bool.false_eq_true, if_false]
      omega
    have hnext : ∀ w' v, (fx i).left w M w' v → wpAnyIn fr.kd.gT 0 P .any ops Q fuel (listed.setIfInBounds i true) (a.put o.dst v) w' := fun w' v hl => by
      obtain ⟨M', inv'⟩ := inv.step r him hlt hni hpre' hop hl
      exact ih _ _ _ M' (by simpa using hsz) hcnt' inv'
    have h := hop.2.2.2.2 a w M inv.ok.wf inv.ok.size
      (fun c hc hcn => inv.slot c hcn i (by omega)
        (fun k hk hkc => uU inv.down hpre' (r.pair k i hk him (CA (by simp [Fx.slotsOf, hc]) hkc)) (by omega))
        (fun k hk hkm hkc hlk => by
          rcases Nat.lt_or_ge i k with h | h
          · exact hni (j3 inv.down (r.pair i k h hkm (AM (by simp [Fx.slotsOf, hc]) hkc)) hlk)
          · have : k = i := by omega
            subst this; exact hni hlk))
      (fun x hx hrt => inv.tag i (by omega) x hx
        (fun k hk hkc => uU inv.down hpre' (r.pair k i hk him (Ea (by simp [Fx.nY, hrt]) hkc)) (by omega))
        (fun k hk hkm hkc hlk => by
          rcases Nat.lt_or_ge i k with h | h
          · exact hni (j3 inv.down (r.pair i k h hkm (BZ (by simp [Fx.nY, hrt]) hkc)) hlk)
          · have : k = i := by omega
            subst this; exact hni hlk))
    simp only [wpOpIn, ho]
    split
    · rename_i hw
      rw [if_pos hw] at h
      exact Oper.nu (fun a' w' ⟨v, e, hl⟩ => by subst e; exact hnext w' v hl) h
    · rename_i hw
      rw [if_neg hw] at h
      exact ⟨fun f _ => fr.kd.oW f, hnext w undef h⟩
def forward (ops : Array Oper) : Bool := ops.toList.zipIdx.all fun x => x.1.after.toList.all fun e => !Region.binds .any e || decide (e.on < x.2)
theorem DF (h : forward ops = true) : ∀ i j, pP ops i j = true → i < j := by
 intro i j he
 unfold pP at he
 split at he
 ·rename_i o ho
  simp only [forward, List.all_eq_true] at h
  have hm : (o, j) ∈ ops.toList.zipIdx := by
   rw [List.mem_zipIdx_iff_getElem?]; simpa using ho
  have h2 := h _ hm
  simp only [List.any_eq_true, Bool.and_eq_true, beq_iff_eq] at he
  obtain ⟨e, he, hb, hon⟩ := he
  have := h2 e he
  simp only [hb, Bool.not_true, Bool.false_or, decide_eq_true_eq] at this
  omega
 cases he
theorem xg {S K : Nat → Prop} (w : World) (M : ah) : Le S K w M { w with drawn := w.drawn + 1 } M :=
 ⟨Nat.le_refl _, rfl, rfl, rfl, fun _ _ h => ⟨h, rfl⟩, fun _ _ h _ => ⟨h, fun _ => rfl⟩⟩
theorem KZ {id : Nat} {l : List Oper} {A : As} {Q : Exit → Act → World → Prop} (hm : P.follows .mixedOrders = true) (hf : forward l.toArray = true)
    (h : aV P fr l.toArray l A fun A' s => pM fr.n l.toArray A s = true ∧ ∀ a w, A'.holds fr a w → Q .normal a w) :
    ∀ a w, A.holds fr a w → (Code.region id l.toArray true).wpIn fr.kd.gT 0 P Q a w := by
  intro a w ⟨M, ok, hs, ht⟩
  obtain ⟨st, fx, h0, h1, h2, hord, hK⟩ := yl l 0 A _ h (fun j => by simp)
  subst h0
  have hmem : ∀ i, i < l.length → ((st i, fx i), i) ∈ ((List.range l.length).map fun i => (st i, fx i)).zipIdx := fun i hi => by
    rw [List.mem_zipIdx_iff_getElem?]; simp [List.getElem?_range hi]
  simp only [pM, List.all_eq_true, Bool.and_eq_true] at hord
  have r : PV P fr l.toArray st fx l.length := by
    refine ⟨by simp, fun i hi => by simpa using h1 i hi, h2, fun i j hij hj hc => ?_, fun i k hi hk hK => ?_, fun i hi => (hord _ (hmem i hi)).1⟩
    · have := ((hord _ (hmem i (by omega))).2 _ (hmem j hj)).1
      simpa [LD, hij, hc] using this
    · have := ((hord _ (hmem i hi)).2 _ (hmem k hk)).2
      simpa [hK] using this
  refine wpIn_region_any hm ?_
  refine Gr r hK (DF hf) _ _ _ _ M (by simp) (by simp [List.countP_replicate]) ⟨⟨⟨ok.wf.lt, ok.wf.inj⟩, Fr.jF (S := fun _ => False) (K := fun _ => False) ok.base (fun _ h => h.elim) (fun _ h => h.elim) (xg w M), ok.size, ok.defers.step (S := fun _ => False) (K := fun _ => False) (fun _ h => h.elim) (fun _ h => h.elim) (xg w M)⟩, ?_, ?_, ?_⟩
  · intro k j _ hj; simp [lq, Array.getElem?_replicate] at hj; split at hj <;> simp at hj
  · intro c hc j hj h1' _
    have : (st j).slots c = (st 0).slots c := By h2 c 0 j (Nat.zero_le _) hj fun k _ hk => by
      cases hh : hit (st k, fx k) c with
      | false => rfl
      | true => have := h1' k hk hh; simp [lq, Array.getElem?_replicate] at this; split at this <;> simp at this
    rw [this]
    exact ((st 0).slots c).mono (S := fun _ => False) (K := fun _ => False) (xg w M) (fun _ _ h => h) (fun _ _ h => h) (hs c hc)
  · intro j hj x hx h1' _
    have hset : ∀ i, i < l.length → ∀ x ∈ (fx i).sets, x.1 ∈ (fx i).S ∨ x.1 ∈ (fx i).K := fun i hi => by
      obtain ⟨_, _, h⟩ := h1 i hi; exact h.2.1
    have hx0 := Ef h2 hset x 0 j (Nat.zero_le _) hj (fun k _ hk => by
      cases hh : jP (st k, fx k) x.1 with
      | false => rfl
      | true => have := h1' k hk hh; simp [lq, Array.getElem?_replicate] at this; split at this <;> simp at this) hx
    exact x.2.mono (S := fun _ => False) (K := fun _ => False) (xg w M) (fun _ _ h => h) (fun _ _ h => h) (fun h => h) (fun h => h) (ht x hx0)
theorem JD {id : Nat} {l : List Oper} {A : As} {Q : Exit → Act → World → Prop} (h : aV P fr l.toArray l A fun A' _ => ∀ a w, A'.holds fr a w → Q .normal a w) :
 ∀ a w, A.holds fr a w → (Code.region id l.toArray false).wpIn fr.kd.gT 0 P Q a w := fun _ _ ha =>
 wpIn_region_lit (oN l A _ _ _ h ha fun _ _ _ _ hk hA => hk _ _ hA)
end
end Go.T
namespace Go.T
open Go Go.RowKit
def nB (v : Value) (_ : World) (_ : ah) (x : Value) : Prop := x = v
def Ty.ex (v : Value) : Ty := ⟨nB v, [], [], fun _ _ _ h => h, v.oneCell', fun h e => (show _ = _ from e) ▸ h⟩
def fL (k : IntKind) (n : Int) (_ : World) (_ : ah) (x : Value) : Prop := x = .int k n
def Ty.int (k : IntKind) (n : Int) : Ty := ⟨fL k n, [], [], fun _ _ _ h => h, true, fun _ e => (show _ = _ from e) ▸ rfl⟩
def dg (b : Bool) (_ : World) (_ : ah) (x : Value) : Prop := x = .bool b
def Ty.bool (b : Bool) : Ty := ⟨dg b, [], [], fun _ _ _ h => h, true, fun _ e => (show _ = _ from e) ▸ rfl⟩
def gB (s : ByteArray) (_ : World) (_ : ah) (x : Value) : Prop := x = .string s
def Ty.str (s : ByteArray) : Ty := ⟨gB s, [], [], fun _ _ _ h => h, true, fun _ e => (show _ = _ from e) ▸ rfl⟩
def fZ (t off : Nat) (_ : World) (M : ah) (x : Value) : Prop := ∃ b, M b = some t ∧ x = .pointer (some ⟨b, off, none⟩)
def Ty.ptr (t off : Nat) : Ty := ⟨fZ t off, [t], [], fun le hk _ ⟨b, h, e⟩ => ⟨b, (le.own b t h (hk t (by simp))).1, e⟩, true, fun _ ⟨_, _, e⟩ => e ▸ rfl⟩
def gA (l : List Ty) (w : World) (M : ah) (x : Value) : Prop := ∃ cs : Array Value, x = .agg cs ∧ bt w M l cs.toList
def Ty.agg (l : List Ty) : Ty := { den := gA l, deps := bl l, cdeps := bL l, mono := fun le hk hs ⟨cs, e, h⟩ => ⟨cs, e, bV le hk hs h⟩ }
def fy (l : List Ty) (w : World) (M : ah) (x : Value) : Prop := ∃ cs : Array Value, x = .tuple cs ∧ bt w M l cs.toList
def Ty.jk (l : List Ty) : Ty := { den := fy l, deps := bl l, cdeps := bL l, mono := fun le hk hs ⟨cs, e, h⟩ => ⟨cs, e, bV le hk hs h⟩ }
def fm (f : FuncId) (caps : List Ty) (w : World) (M : ah) (x : Value) : Prop := ∃ cs : Array Value, x = .func (.func f) #[] cs ∧ bt w M caps cs.toList
def Ty.jh (f : FuncId) (caps : List Ty) : Ty := ⟨fm f caps, bl caps, bL caps, fun le hk hs ⟨cs, e, h⟩ => ⟨cs, e, bV le hk hs h⟩, true, fun _ ⟨_, e, _⟩ => e ▸ rfl⟩
def m6 (g : Bool) (t : Ty) (w : World) (M : ah) (x : Value) : Prop := (g = true → t.den w M x) ∧ (g = false → x = undef)
def Ty.gd (g : Bool) (t : Ty) : Ty := { den := m6 g t, deps := t.deps, cdeps := t.cdeps, mono := fun le hk hs h => ⟨fun hg => t.mono le hk hs (h.1 hg), h.2⟩ }
def nH (w : World) (M : ah) (b off : Nat) (l : List Ty) : Prop :=
  M b = none ∧ b < w.heap.size ∧ ∀ (i : Nat) (t : Ty), l[i]? = some t → ∃ v, w.cell? ⟨b, off + i, none⟩ = some v ∧ t.den w M v
theorem mT {S K : Nat → Prop} {w w' : World} {M M' : ah} (le : Le S K w M w' M') {b off : Nat} {l : List Ty} (hk : ∀ t ∈ bl l, ¬ K t) (hs : ∀ t ∈ bL l, ¬ S t) (h : nH w M b off l) : nH w' M' b off l := by
 obtain ⟨h1, h2, h3⟩ := h
 obtain ⟨h4, h5⟩ := le.oK b h2 h1
 refine ⟨h4, Nat.lt_of_lt_of_le h2 le.size, fun i t hi => ?_⟩
 obtain ⟨v, hc, hd⟩ := h3 i t hi
 refine ⟨v, ?_, t.mono le (fun u hu => hk u ?_) (fun u hu => hs u ?_) hd⟩
 ·rw [← hc]; exact World.cell?_of_block (w := w) h5
 ·simp only [bl, List.mem_flatMap]; exact ⟨t, List.mem_of_getElem? hi, hu⟩
 simp only [bL, List.mem_flatMap]; exact ⟨t, List.mem_of_getElem? hi, hu⟩
theorem y5 {w : World} {M : ah} {b off : Nat} {l : List Ty} (n : Nat) (h : nH w M b off l) : nH w M b (off + n) (l.drop n) :=
 ⟨h.1, h.2.1, fun i t hi => by rw [List.getElem?_drop] at hi; obtain ⟨v, hv, hd⟩ := h.2.2 (n + i) t hi; exact ⟨v, by rw [Nat.add_assoc]; exact hv, hd⟩⟩
theorem zX {w : World} {M : ah} {b off : Nat} {l : List Ty} (n : Nat) (h : nH w M b off l) : nH w M b off (l.take n) :=
 ⟨h.1, h.2.1, fun i t hi => h.2.2 i t (by rw [List.getElem?_take] at hi; split at hi <;> simp_all)⟩
def nG (l : List Ty) (w : World) (M : ah) (x : Value) : Prop := ∃ b off, x = .pointer (some ⟨b, off, none⟩) ∧ nH w M b off l
def Ty.pp (l : List Ty) : Ty := ⟨nG l, bl l, bL l, fun le hk hs ⟨b, off, e, h⟩ => ⟨b, off, e, mT le hk hs h⟩, true, fun _ ⟨_, _, e, _⟩ => e ▸ rfl⟩
structure El (α : Type) where
  size : Nat
  tys : α → List Ty
  len : ∀ x, (tys x).length = size
  nodeps : ∀ x, bl (tys x) = []
  nocdeps : ∀ x, bL (tys x) = []
  ones : ∀ x, (tys x).all Ty.one = true
def eB : El Int := ⟨1, fun n => [Ty.int .i64 n], fun _ => rfl, fun _ => rfl, fun _ => rfl, fun _ => rfl⟩
def nth {α : Type} [Inhabited α] (xs : List α) (k : Nat) : α := xs.getD k default
theorem cL {α : Type} [Inhabited α] {xs : List α} {k : Nat} (h : k < xs.length) : nth xs k = xs[k] := by simp [nth, h]
theorem bh {α : Type} [Inhabited α] {xs : List α} {k : Nat} (h : k < xs.length) : nth xs k ∈ xs := by rw [cL h]; exact List.getElem_mem h
theorem cE {α : Type} [Inhabited α] {xs : List α} {k : Nat} (h : k < xs.length) : xs.take (k + 1) = xs.take k ++ [nth xs k] := by
 rw [List.take_succ_eq_append_getElem h, cL h]
theorem kr {α : Type} [Inhabited α] {xs : List α} {k : Nat} (h : k < xs.length) : xs.drop k = nth xs k :: xs.drop (k + 1) := by
 rw [cL h]; exact List.drop_eq_getElem_cons h
theorem El.cW {α : Type} (E : El α) (xs : List α) : bl (xs.flatMap E.tys) = [] := by
 refine List.eq_nil_iff_forall_not_mem.2 fun t ht => ?_
 simp only [bl, List.mem_flatMap] at ht
 obtain ⟨x, ⟨y, _, hx⟩, hu⟩ := ht
 have h' : t ∈ bl (E.tys y) := by simp only [bl, List.mem_flatMap]; exact ⟨x, hx, hu⟩
 rw [E.nodeps y] at h'; cases h'
theorem El.cC {α : Type} (E : El α) (xs : List α) : bL (xs.flatMap E.tys) = [] := by
 refine List.eq_nil_iff_forall_not_mem.2 fun t ht => ?_
 simp only [bL, List.mem_flatMap] at ht
 obtain ⟨x, ⟨y, _, hx⟩, hu⟩ := ht
 have h' : t ∈ bL (E.tys y) := by simp only [bL, List.mem_flatMap]; exact ⟨x, hx, hu⟩
 rw [E.nocdeps y] at h'; cases h'
def lG {α : Type} (E : El α) (xs : List α) (w : World) (M : ah) (x : Value) : Prop :=
  ∃ A c, x = .slice A xs.length c ∧ xs.length ≤ c ∧ c ≤ maxLen ∧ (0 < xs.length → ∃ b off, A = some ⟨b, off, none⟩ ∧ nH w M b off (xs.flatMap E.tys))
def Ty.sl {α : Type} (E : El α) (xs : List α) : Ty :=
  ⟨lG E xs, [], [], fun le _ _ ⟨A, c, e, h1, h2, h⟩ => ⟨A, c, e, h1, h2, fun h0 => let ⟨b, off, e, h⟩ := h h0; ⟨b, off, e, mT le (by rw [E.cW]; intro _ h; cases h) (by rw [E.cC]; intro _ h; cases h) h⟩⟩, true, fun _ ⟨_, _, e, _⟩ => e ▸ rfl⟩
theorem uG {α : Type} (E : El α) : ∀ (xs : List α) (k j : Nat), k < xs.length → j < E.size → (xs.flatMap E.tys)[k * E.size + j]? = (xs[k]?).bind fun x => (E.tys x)[j]?
  | [], k, j, h, _ => absurd h (Nat.not_lt_zero _)
  | x :: xs, 0, j, _, hj => by simp [List.getElem?_append, E.len, hj]
  | x :: xs, k + 1, j, h, hj => by
    have := uG E xs k j (by simpa using h) hj
    rw [List.flatMap_cons, List.getElem?_append, if_neg (by rw [E.len, Nat.succ_mul]; omega), E.len, List.getElem?_cons_succ, ← this]
    congr 1
    rw [Nat.succ_mul]; omega
def Ty.m9 : Value → Ty
  | .int k n => .int k n
  | .bool b => .bool b
  | .string s => .str s
  | v => .ex v
def As.op (A : As) (fr : Fr) : Operand → Ty
  | .tmp t => bif Nat.blt t fr.n then A.slots t else Ty.any
  | .const v => Ty.m9 v
  | .func f => Ty.jh f []
  | .global _ => Ty.any
def bR : Operand → List Nat
  | .tmp t => [t]
  | _ => []
theorem n5 (w : World) (M : ah) (v : Value) : (Ty.m9 v).den w M v := by cases v <;> rfl
theorem bk {fr : Fr} {A : As} {a : Act} {w : World} {M : ah} {x : Operand} {rs : List Nat} (hr : ∀ c ∈ bR x, c ∈ rs) (h : ∀ c ∈ rs, c < fr.n → (A.slots c).den w M (a.tmps.getD c undef)) : (A.op fr x).den w M (a.eval x) := by
  cases x with
  | tmp t =>
    simp only [As.op, Act.eval]
    cases hb : Nat.blt t fr.n with
    | true => exact h t (hr t (by simp [bR])) (by simpa using hb)
    | false => trivial
  | const v => exact n5 w M v
  | func f => exact ⟨#[], rfl, trivial⟩
  | global g => trivial
def As.set (A : As) (d : Nat) (ty : Ty) : As := ⟨fun c => bif Nat.beq c d then ty else A.slots c, A.tags⟩
section
variable {P : Program} {fr : Fr} {ops : Array Oper} {A : As} {rest : List Oper} {K : As → List (As × Fx) → Prop} {d : Nat} {t : TypeId} {p : String} {e : Array Edge}
theorem bH {o : Oper} {rs : List Nat} {ty : Ty} {rt : List Nat} (hg : o.guard = none) (hd : o.dst = some d)
 (h : ∀ (a : Act) w M, Wf w M → (∀ c ∈ rs, c < fr.n → (A.slots c).den w M (a.tmps.getD c undef)) → (∀ x ∈ A.tags, x.1 ∈ rt → x.2.den w M x.1) → ∃ v, (execOp a.eval o).run P w = .ok (.value v) w ∧ ty.den w M v) :
 xe P fr ops o A { d := some d, ty := ty, rs := rs, rt := rt } := by
 refine ⟨hd.symm, by simp, by simp, by simp, fun a w M wf _ hr ht => ?_⟩
 rw [if_pos (by simp [Region.wanted, hg])]
 obtain ⟨v, hv, hty⟩ := h a w M wf hr ht
 refine qn hv ?_
 exact ⟨v, rfl, M, wf, Le.refl _ _ _ _, hty, by simp⟩
theorem bB {o : Oper} {rs : List Nat} {ty : Ty} {rt : List Nat} (hop : xe P fr ops o A { d := some d, ty := ty, rs := rs, rt := rt })
 (h : aV P fr ops rest (A.set d ty) fun A' l => K A' ((A, { d := some d, ty := ty, rs := rs, rt := rt }) :: l)) : aV P fr ops (o :: rest) A K := ⟨_, hop, h⟩
theorem aD (h : K A []) : aV P fr ops [] A K := h
theorem ej {x : Operand} {ty : Ty} (hx : A.op fr x = ty) (h : aV P fr ops rest (A.set d ty) fun A' l => K A' ((A, { d := some d, ty := ty, rs := bR x }) :: l)) :
 aV P fr ops (⟨some d, .move x, t, p, e, none⟩ :: rest) A K :=
 bB (bH rfl rfl fun a w M _ hr _ => ⟨a.eval x, by simp [execOp], hx ▸ bk (fun _ h => h) hr⟩) h
theorem fY {x : Operand} {ty : Ty} (hx : A.op fr x = ty) (h : aV P fr ops rest (A.set d ty) fun A' l => K A' ((A, { d := some d, ty := ty, rs := bR x }) :: l)) :
 aV P fr ops (⟨some d, .assign x, t, p, e, none⟩ :: rest) A K :=
 bB (bH rfl rfl fun a w M _ hr _ => ⟨a.eval x, by simp [execOp], hx ▸ bk (fun _ h => h) hr⟩) h
theorem op2 {a : Act} {w : World} {M : ah} {x y : Operand} (hr : ∀ c ∈ bR x ++ bR y, c < fr.n → (A.slots c).den w M (a.tmps.getD c undef)) :
 (A.op fr x).den w M (a.eval x) ∧ (A.op fr y).den w M (a.eval y) :=
 ⟨bk (fun c h => List.mem_append_left _ h) hr, bk (fun c h => List.mem_append_right _ h) hr⟩
def P5 (op : BinOp) (k : IntKind) (a b : Int) : Option Ty :=
  match op with
  | .add => some (.int k (k.wrap (a + b)))
  | .sub => some (.int k (k.wrap (a - b)))
  | .mul => some (.int k (k.wrap (a * b)))
  | .and => some (.int k (bits .and k a b))
  | .or => some (.int k (bits .or k a b))
  | .xor => some (.int k (bits .xor k a b))
  | .andNot => some (.int k (bits .andNot k a b))
  | .eql => some (.bool (decide (a = b)))
  | .neq => some (.bool (!decide (a = b)))
  | .lss => some (.bool (decide (a < b)))
  | .leq => some (.bool (decide (a ≤ b)))
  | .gtr => some (.bool (decide (b < a)))
  | .geq => some (.bool (decide (b ≤ a)))
  | _ => none
theorem Hw (a b : Int) : (a == b) = decide (a = b) := by rw [Bool.eq_iff_iff]; simp
theorem Kg {op : BinOp} {k : IntKind} {a b : Int} {ty : Ty} (h : P5 op k a b = some ty) (x y : Operand) (t : TypeId) (w : World) (M : ah) :
 ∃ v, (do eqGuard op t x y (.int k a) (.int k b); binOp op t (.int k a) (.int k b) : Sem Value).run P w = .ok v w ∧ ty.den w M v := by
 cases op <;> simp only [P5, Option.some.injEq, reduceCtorEq] at h <;> subst h <;> refine ⟨_, ?_, rfl⟩ <;> simp [go_sem, Op.intArith, bne, Hw]
end
end Go.T
namespace Go.T
open Go Go.RowKit
inductive TK where
  | int (k : IntKind) | bool | string | ptr (e : Nat) | slice (e : Nat) | array (n e : Nat) | struct (fs : List (Nat × Nat)) | map (k e : Nat) | func | other
structure TI where
  k : TK
  size : Nat
  bytes : Nat
  zero : List Value
def TK.of : TypeDesc → TK
  | .int k => .int k
  | .bool => .bool
  | .string => .string
  | .pointer e => .ptr e
  | .slice e => .slice e
  | .array n e => .array n e
  | .struct fs => .struct (fs.toList.map fun f => (f.offset, f.type))
  | .map k e => .map k e
  | .func .. => .func
  | _ => .other
def TK.agg : TK → Bool
  | .struct _ | .array .. => true
  | _ => false
def IZ (P : Program) (t : Nat) : Option TI :=
  match P.info? t, P.underlying t with
  | some i, some d => some ⟨TK.of d, i.size, i.bytes, match i.zero with | some z => z.cells.toList | none => []⟩
  | _, _ => none
class k5 (P : Program) where
  tab : List TI
  ok : ∀ (t : Nat) (x : TI), tab[t]? = some x → IZ P t = some x
theorem k5.of {P : Program} {l : List TI} (h : (List.range l.length).map (IZ P) = l.map some) : ∀ (t : Nat) (x : TI), l[t]? = some x → IZ P t = some x := by
 intro t x hx
 have hlt : t < l.length := (List.getElem?_eq_some_iff.1 hx).1
 have h1 : ((List.range l.length).map (IZ P))[t]? = (l.map some)[t]? := by rw [h]
 simp [List.getElem?_range hlt, hx] at h1
 exact h1
section
variable {P : Program} [T : k5 P] {fr : Fr} {ops : Array Oper} {A : As} {rest : List Oper} {K : As → List (As × Fx) → Prop} {d : Nat} {t ty' : TypeId} {p : String} {e : Array Edge}
theorem cF {t : Nat} {x : TI} (h : T.tab[t]? = some x) : ∃ i D, P.info? t = some i ∧ P.underlying t = some D ∧ TK.of D = x.k ∧ i.size = x.size ∧ i.bytes = x.bytes ∧ (match i.zero with | some z => z.cells.toList | none => []) = x.zero := by
 have h := T.ok t x h
 unfold IZ at h
 split at h
 ·rename_i i D hi hD
  injection h with h
  subst h
  exact ⟨i, D, hi, hD, rfl, rfl, rfl, rfl⟩
 cases h
theorem bz {t : Nat} {x : TI} (h : T.tab[t]? = some x) (w : World) : (sizeOf t).run P w = .ok x.size w := by
 obtain ⟨i, _, hi, _, _, hs, _⟩ := cF h
 simp [sizeOf, typeInfo, hi, hs]
theorem mM {t : Nat} {x : TI} (h : T.tab[t]? = some x) (w : World) : (isAgg t).run P w = .ok x.k.agg w := by
 obtain ⟨i, D, _, hD, hk, _⟩ := cF h
 rw [← hk]
 cases D <;> simp [isAgg, run_underlying hD, TK.of, TK.agg]
theorem lZ {t : Nat} {x : TI} (h : T.tab[t]? = some x) (ha : x.k.agg = false) {w : World} {b off : Nat} {v : Value} (hc : w.cell? ⟨b, off, none⟩ = some v) :
 (Instr.loadAt t (.pointer (some ⟨b, off, none⟩))).run P w = .ok v w := by
 simp [Instr.loadAt, Instr.sureAddr, loadVar, mM h, ha, load, Sem.run, hc]
theorem fX {t : Nat} {x : TI} (h : T.tab[t]? = some x) (ha : x.k.agg = true) {w : World} {b off : Nat} {cs : List Value} (hl : cs.length = x.size) (hc : ∀ j v, cs[j]? = some v → w.cell? ⟨b, off + j, none⟩ = some v) :
 (Instr.loadAt t (.pointer (some ⟨b, off, none⟩))).run P w = .ok (.agg cs.toArray) w := by
 have := run_loadCells_list (P := P) (w := w) ⟨b, off, none⟩ cs (fun j v hj => by rw [Addr.add_lit]; exact hc j v hj)
 rw [hl] at this
 simp [Instr.loadAt, Instr.sureAddr, loadVar, mM h, ha, bz h, this]
theorem oI {w : World} {M : ah} {b off : Nat} {l : List Ty} (h : nH w M b off l) : ∀ n, n ≤ l.length → ∃ cs : List Value, cs.length = n ∧ bt w M (l.take n) cs ∧ ∀ j v, cs[j]? = some v → w.cell? ⟨b, off + j, none⟩ = some v := by
  intro n
  induction n with
  | zero => exact fun _ => ⟨[], rfl, trivial, fun j v h => by simp at h⟩
  | succ n ih =>
    intro hn
    obtain ⟨cs, h1, h2, h3⟩ := ih (by omega)
    obtain ⟨v, hv, hd⟩ := h.2.2 n l[n] (List.getElem?_eq_getElem (by omega))
    refine ⟨cs ++ [v], by simp [h1], ?_, fun j u hj => ?_⟩
    · refine g9 (by simp [h1]; omega) fun i t hi => ?_
      rw [List.getElem?_take] at hi
      split at hi
      · rename_i hlt
        by_cases e : i = n
        · subst e
          rw [List.getElem?_eq_getElem (by omega)] at hi
          injection hi with hi
          subst hi
          exact ⟨v, by rw [List.getElem?_append_right (by omega)]; simp [h1], hd⟩
        · obtain ⟨x, hx, hdx⟩ := dF h2 i t (by rw [List.getElem?_take, if_pos (by omega)]; exact hi)
          exact ⟨x, by rw [List.getElem?_append_left (by omega)]; exact hx, hdx⟩
      · cases hi
    · rcases Nat.lt_or_ge j n with hlt | hge
      · rw [List.getElem?_append_left (by omega)] at hj; exact h3 j u hj
      · rw [List.getElem?_append_right (by omega)] at hj
        have : j = n := by
          rcases Nat.lt_or_ge (j - cs.length) 1 with h | h
          · omega
          · rw [List.getElem?_eq_none (by simpa using h)] at hj; cases hj
        subst this
        simp [h1] at hj
        subst hj; exact hv
theorem aL {x : Operand} {l : List Ty} {ti : TI} {ty : Ty} (hx : A.op fr x = .pp l) (hT : T.tab[ty']? = some ti) (ha : ti.k.agg = false) (hl : l[0]? = some ty)
 (h : aV P fr ops rest (A.set d ty) fun A' l => K A' ((A, { d := some d, ty := ty, rs := bR x }) :: l)) : aV P fr ops (⟨some d, .load ty' x, t, p, e, none⟩ :: rest) A K :=
 bB (bH rfl rfl fun a w M _ hr _ => by
  have := bk (x := x) (fun _ h => h) hr
  rw [hx] at this
  obtain ⟨b, off, e, hp⟩ := this
  obtain ⟨v, hv, hd⟩ := hp.2.2 0 ty hl
  have hv' : w.cell? ⟨b, off, none⟩ = some v := hv
  exact ⟨v, by simp [execOp, e, lZ hT ha hv'], hd⟩) h
theorem aa {x : Operand} {l : List Ty} {ti : TI} (hx : A.op fr x = .pp l) (hT : T.tab[ty']? = some ti) (ha : ti.k.agg = true) (hl : ti.size ≤ l.length)
 (h : aV P fr ops rest (A.set d (.agg (l.take ti.size))) fun A' l' => K A' ((A, { d := some d, ty := .agg (l.take ti.size), rs := bR x }) :: l')) : aV P fr ops (⟨some d, .load ty' x, t, p, e, none⟩ :: rest) A K :=
 bB (bH rfl rfl fun a w M _ hr _ => by
  have := bk (x := x) (fun _ h => h) hr
  rw [hx] at this
  obtain ⟨b, off, e, hp⟩ := this
  obtain ⟨cs, h1, h2, h3⟩ := oI hp _ hl
  exact ⟨.agg cs.toArray, by simp [execOp, e, fX hT ha h1 h3], cs.toArray, rfl, by simpa using h2⟩) h
def As.tag (A : As) (t : Nat) : Option Cont := A.tags.lookup t
theorem cM {A : As} {t : Nat} {C : Cont} (h : A.tag t = some C) : (t, C) ∈ A.tags := by
  unfold As.tag at h
  revert h
  generalize A.tags = l
  induction l with
  | nil => intro h; cases h
  | cons x l ih =>
    intro h
    obtain ⟨u, D⟩ := x
    rw [List.lookup_cons] at h
    split at h
    · rename_i he
      injection h with h
      subst h
      have : t = u := by simpa using he
      subst this; exact List.mem_cons_self
    · exact List.mem_cons_of_mem _ (ih h)
theorem Dl {w : World} {M : ah} {tg T b off : Nat} {l : List Ty} {ty : Ty} (wf : Wf w M) (h1 : e8 tg) (hb : M b = some tg) (hc : (Cont.cells T l).den w M tg) (hl : l[off]? = some ty) :
 ∃ v, w.cell? ⟨b, off, none⟩ = some v ∧ ty.den w M v := by
 obtain ⟨b', cs, hb', hh, hd⟩ := hc
 obtain ⟨u, rfl⟩ : ∃ u, tg = u + 1 := ⟨tg - 1, by omega⟩
 have := wf.inj b b' u (by omega) hb hb'
 subst this
 obtain ⟨v, hv, hdv⟩ := dF hd off ty hl
 exact ⟨v, by simpa [World.cell?, hh] using hv, hdv⟩
theorem aU {x : Operand} {tg off Tb : Nat} {l : List Ty} {ti : TI} {ty : Ty} (hx : A.op fr x = .ptr tg off) (hc : A.tag tg = some (.cells Tb l)) (h1 : e8 tg) (hT : T.tab[ty']? = some ti) (ha : ti.k.agg = false) (hl : l[off]? = some ty)
 (h : aV P fr ops rest (A.set d ty) fun A' l => K A' ((A, { d := some d, ty := ty, rs := bR x, rt := [tg] }) :: l)) : aV P fr ops (⟨some d, .load ty' x, t, p, e, none⟩ :: rest) A K :=
 bB (bH rfl rfl fun a w M wf hr ht => by
  have := bk (x := x) (fun _ h => h) hr
  rw [hx] at this
  obtain ⟨b, hb, e⟩ := this
  obtain ⟨v, hv, hd⟩ := Dl wf h1 hb (ht _ (cM hc) (by simp)) hl
  exact ⟨v, by simp [execOp, e, lZ hT ha hv], hd⟩) h
theorem bI {x : Operand} {tg off Tb : Nat} {l : List Ty} {ti : TI} (hx : A.op fr x = .ptr tg off) (hc : A.tag tg = some (.cells Tb l)) (h1 : e8 tg) (hT : T.tab[ty']? = some ti) (ha : ti.k.agg = true) (hl : off + ti.size ≤ l.length)
 (h : aV P fr ops rest (A.set d (.agg ((l.drop off).take ti.size))) fun A' l' => K A' ((A, { d := some d, ty := .agg ((l.drop off).take ti.size), rs := bR x, rt := [tg] }) :: l')) : aV P fr ops (⟨some d, .load ty' x, t, p, e, none⟩ :: rest) A K :=
 bB (bH rfl rfl fun a w M wf hr ht => by
  have := bk (x := x) (fun _ h => h) hr
  rw [hx] at this
  obtain ⟨b, hb, e⟩ := this
  obtain ⟨b', cs, hb', hh, hd⟩ := ht _ (cM hc) (by simp)
  obtain ⟨u, rfl⟩ : ∃ u, tg = u + 1 := ⟨tg - 1, by omega⟩
  have := wf.inj b b' u (by omega) hb hb'
  subst this
  have hlen := bw hd
  have h2 := ju ti.size (iN off hd)
  refine ⟨.agg ((cs.toList.drop off).take ti.size).toArray, ?_, _, rfl, by simpa using h2⟩
  have := fX (P := P) hT ha (w := w) (b := b) (off := off) (cs := (cs.toList.drop off).take ti.size) (by simp at hlen ⊢; omega) (fun j v hj => by
   rw [List.getElem?_take] at hj
   split at hj
   ·rw [List.getElem?_drop] at hj
    simpa [World.cell?, hh] using hj
   cases hj)
  simp [execOp, e, this]) h
theorem vF {t f : Nat} {ti : TI} {fs : List (Nat × Nat)} {o ft : Nat} {tf : TI} (hT : T.tab[t]? = some ti) (hk : ti.k = .struct fs) (hf : fs[f]? = some (o, ft)) (hF : T.tab[ft]? = some tf) (h0 : tf.size ≠ 0) (b off : Nat) (w : World) :
 (Instr.fieldAt t (.pointer (some ⟨b, off, none⟩)) f).run P w = .ok (.pointer (some ⟨b, off + o, none⟩)) w := by
 obtain ⟨i, D, _, hD, hkd, _⟩ := cF hT
 rw [hk] at hkd
 cases D <;> simp only [TK.of, reduceCtorEq, TK.struct.injEq] at hkd
 rename_i fields
 subst hkd
 simp only [List.getElem?_map, Option.map_eq_some_iff, Prod.mk.injEq] at hf
 obtain ⟨g, hg, ho, hft⟩ := hf
 subst ho; subst hft
 have hg' : fields[f]? = some g := by simpa using hg
 simp [Instr.fieldAt, run_underlying hD, hg', Instr.sureAddr, fieldPlace, bz hF, h0]
 exact Addr.add_lit _ _ _
theorem aQ {x : Operand} {f : Nat} {l : List Ty} {ti tf : TI} {fs : List (Nat × Nat)} {o ft : Nat} (hx : A.op fr x = .pp l) (hT : T.tab[ty']? = some ti) (hk : ti.k = .struct fs) (hf : fs[f]? = some (o, ft)) (hF : T.tab[ft]? = some tf) (h0 : tf.size ≠ 0)
 (h : aV P fr ops rest (A.set d (.pp (l.drop o))) fun A' l' => K A' ((A, { d := some d, ty := .pp (l.drop o), rs := bR x }) :: l')) : aV P fr ops (⟨some d, .fieldAddr ty' x f, t, p, e, none⟩ :: rest) A K :=
 bB (bH rfl rfl fun a w M _ hr _ => by
  have := bk (x := x) (fun _ h => h) hr
  rw [hx] at this
  obtain ⟨b, off, e, hp⟩ := this
  exact ⟨_, by simp [execOp, e, vF hT hk hf hF h0], b, off + o, rfl, y5 o hp⟩) h
theorem aR {x : Operand} {f tg off : Nat} {ti tf : TI} {fs : List (Nat × Nat)} {o ft : Nat} (hx : A.op fr x = .ptr tg off) (hT : T.tab[ty']? = some ti) (hk : ti.k = .struct fs) (hf : fs[f]? = some (o, ft)) (hF : T.tab[ft]? = some tf) (h0 : tf.size ≠ 0)
 (h : aV P fr ops rest (A.set d (.ptr tg (off + o))) fun A' l' => K A' ((A, { d := some d, ty := .ptr tg (off + o), rs := bR x }) :: l')) : aV P fr ops (⟨some d, .fieldAddr ty' x f, t, p, e, none⟩ :: rest) A K :=
 bB (bH rfl rfl fun a w M _ hr _ => by
  have := bk (x := x) (fun _ h => h) hr
  rw [hx] at this
  obtain ⟨b, hb, e⟩ := this
  exact ⟨_, by simp [execOp, e, vF hT hk hf hF h0], b, hb, rfl⟩) h
theorem gj {t e : Nat} {ti te : TI} (hT : T.tab[t]? = some ti) (hk : ti.k = .slice e) (hE : T.tab[e]? = some te) {b off len c : Nat} {k : IntKind} {i : Int} (h0 : 0 ≤ i) (h1 : i.toNat < len) (w : World) :
 (Instr.indexAt t (.slice (some ⟨b, off, none⟩) len c) (.int k i)).run P w = .ok (.pointer (some ⟨b, off + i.toNat * te.size, none⟩)) w := by
 obtain ⟨_, D, _, hD, hkd, _⟩ := cF hT
 rw [hk] at hkd
 cases D <;> simp only [TK.of, reduceCtorEq, TK.slice.injEq] at hkd
 subst hkd
 have : 0 ≤ i ∧ i < (len : Int) := ⟨h0, by omega⟩
 simp [Instr.indexAt, asIntOf, run_underlying hD, this, bz hE]
 exact Addr.add_lit _ _ _
theorem iq {t e n : Nat} {ti te : TI} (hT : T.tab[t]? = some ti) (hk : ti.k = .array n e) (hE : T.tab[e]? = some te) {b off : Nat} {k : IntKind} {i : Int} (h0 : 0 ≤ i) (h1 : i.toNat < n) (w : World) :
 (Instr.indexAt t (.pointer (some ⟨b, off, none⟩)) (.int k i)).run P w = .ok (.pointer (some ⟨b, off + i.toNat * te.size, none⟩)) w := by
 obtain ⟨_, D, _, hD, hkd, _⟩ := cF hT
 rw [hk] at hkd
 cases D <;> simp only [TK.of, reduceCtorEq, TK.array.injEq] at hkd
 obtain ⟨e1, e2⟩ := hkd
 subst e1; subst e2
 have h2 : i < (_ : Nat) := Int.lt_of_lt_of_le (Int.lt_add_one_of_le (Int.self_le_toNat i)) (Int.ofNat_le.2 h1)
 simp [Instr.indexAt, asIntOf, run_underlying hD, Instr.sureAddr, h0, h2, bz hE]
 exact Addr.add_lit _ _ _
theorem l6 {α : Type} [Inhabited α] (E : El α) (xs : List α) {k : Nat} (hk : k < xs.length) (i : Nat) (ty : Ty) (h : (E.tys (nth xs k))[i]? = some ty) : (xs.flatMap E.tys)[k * E.size + i]? = some ty := by
 have hi : i < E.size := by
  have := (List.getElem?_eq_some_iff.1 h).1
  rw [E.len] at this; exact this
 rw [uG E xs k i hk hi, List.getElem?_eq_getElem hk, ← cL hk]
 exact h
theorem dX {α : Type} [Inhabited α] {x y : Operand} {E : El α} {xs : List α} {k : IntKind} {i : Int} {ti te : TI} {el : Nat} (hx : A.op fr x = .sl E xs) (hy : A.op fr y = .int k i) (hT : T.tab[ty']? = some ti) (hk : ti.k = .slice el) (hE : T.tab[el]? = some te) (hs : te.size = E.size)
 (h0 : 0 ≤ i) (h1 : i.toNat < xs.length)
 (h : aV P fr ops rest (A.set d (.pp (E.tys (nth xs i.toNat)))) fun A' l' => K A' ((A, { d := some d, ty := .pp (E.tys (nth xs i.toNat)), rs := bR x ++ bR y }) :: l')) : aV P fr ops (⟨some d, .indexAddr ty' x y, t, p, e, none⟩ :: rest) A K :=
 bB (bH rfl rfl fun a w M _ hr _ => by
  obtain ⟨hdx, hdy⟩ := op2 hr
  rw [hx] at hdx; rw [hy] at hdy
  obtain ⟨ad, c, ex, _, _, hp⟩ := hdx
  obtain ⟨b, off, rfl, hp'⟩ := hp (by omega)
  have ey : a.eval y = .int k i := hdy
  refine ⟨_, by simp only [execOp, ex, ey, Sem.run_bind, gj hT hk hE h0 h1]; rfl, b, off + i.toNat * te.size, rfl, hp'.1, hp'.2.1, fun j ty hj => ?_⟩
  obtain ⟨v, hv, hd⟩ := hp'.2.2 _ ty (l6 E xs h1 j ty hj)
  exact ⟨v, by rw [hs, Nat.add_assoc]; exact hv, hd⟩) h
end
end Go.T
namespace Go.T
open Go Go.RowKit
def jY (w0 : World) (M0 : ah) (res : Ty) (e : Ending) (w' : World) : Prop :=
  ∃ r M', e = .returned r ∧ Wf w' M' ∧ Le (fun t => 1 ≤ t) (fun t => 1 ≤ t) w0 M0 w' M' ∧ res.den w' M' r
def cy (P : Program) (f : FuncId) (args : List Ty) (res : Ty) : Prop :=
  (∃ fn, P.funcs[f]? = some fn ∧ (fn.name == "runtime.NumGoroutine") = false ∧ fn.body.isNone = false) ∧
  ∀ w M vs, Wf w M → (∀ b t, M b = some t → t = 0) → bt w M args vs → Calls P f vs.toArray w (jY w M res)
def eU (P : Program) (fr : Fr) (c : Code) (A : As) (Q : Exit → Act → World → Prop) : Prop := ∀ a w, A.holds fr a w → c.wpIn fr.kd.gT 0 P Q a w
def cm (fr : Fr) (A : As) (R : Act → World → Prop) : Prop := ∀ a w, A.holds fr a w → R a w
section
variable {P : Program} {fr : Fr} {ops : Array Oper} {A : As} {rest : List Oper} {K : As → List (As × Fx) → Prop} {d : Nat} {t ty' : TypeId} {p : String} {e : Array Edge} {Q : Exit → Act → World → Prop} {x y : Code} {id : Nat} {l : List Oper}
theorem aF (h : eU P fr x A (Exit.then (fun a w => y.wpIn fr.kd.gT 0 P Q a w) Q)) : eU P fr (.seq x y) A Q := fun a w ha => wpIn_seq (h a w ha)
theorem aA (h : aV P fr l.toArray l A fun A' _ => cm fr A' (Q .normal)) : eU P fr (.region id l.toArray false) A Q := JD h
theorem cq (hm : P.follows .mixedOrders = true) (hf : forward l.toArray = true) (h : aV P fr l.toArray l A fun A' s => pM fr.n l.toArray A s = true ∧ cm fr A' (Q .normal)) : eU P fr (.region id l.toArray true) A Q := KZ hm hf h
theorem aC (h : eU P fr y A Q) {Q' : Exit → Act → World → Prop} : cm fr A (Exit.then (fun a w => y.wpIn fr.kd.gT 0 P Q a w) Q' .normal) := h
theorem aN {n : Act → World → Prop} {i : Nat} (h : cm fr A (Q (.exit i))) : cm fr A (Exit.then n Q (.exit i)) := h
theorem aP {n : Act → World → Prop} (h : cm fr A (Q .ret)) : cm fr A (Exit.then n Q .ret) := h
theorem ak (h : cm fr A (Q .normal)) : eU P fr .skip A Q := fun a w ha => wpIn_skip (h a w ha)
theorem b9 {i : Nat} (h : cm fr A (Q (.exit i))) : eU P fr (.exit i) A Q := fun a w ha => wpIn_exit (h a w ha)
theorem au (h : cm fr A (Q .ret)) : eU P fr .ret A Q := fun a w ha => wpIn_ret (h a w ha)
theorem aY (h : eU P fr x A (Exit.inBlock id Q)) : eU P fr (.block id x) A Q := fun a w ha => wpIn_block (h a w ha)
theorem bJ (h : cm fr A (Q .normal)) : cm fr A (Exit.inBlock id Q .normal) := h
theorem af (h : cm fr A (Q .ret)) : cm fr A (Exit.inBlock id Q .ret) := h
theorem aZ {i : Nat} (hi : i = id) (h : cm fr A (Q .normal)) : cm fr A (Exit.inBlock id Q (.exit i)) := fun a w ha => by simpa [Exit.inBlock, hi] using h a w ha
theorem kP {i : Nat} (hi : Nat.beq i id = false) (h : cm fr A (Q (.exit i))) : cm fr A (Exit.inBlock id Q (.exit i)) := fun a w ha => by
 have : i ≠ id := fun e => by rw [e] at hi; simp at hi
 simpa [Exit.inBlock, this] using h a w ha
theorem c8 {c : Operand} {b : Bool} (hc : A.op fr c = .bool b) (h1 : b = true → eU P fr x A Q) (h2 : b = false → eU P fr y A Q) : eU P fr (.cond c x y) A Q := fun a w ha => by
  have hv : a.eval c = .bool b := by
    obtain ⟨M, _, hs, _⟩ := ha
    have := bk (x := c) (rs := bR c) (fun _ h => h) (fun c _ hn => hs c hn)
    rw [hc] at this; exact this
  cases b with
  | true => exact wpIn_cond_true hv (h1 rfl a w ha)
  | false => exact wpIn_cond_false hv (h2 rfl a w ha)
def Ty.Sub (s t : Ty) : Prop := ∀ w M v, s.den w M v → t.den w M v
theorem Ty.aG (s : Ty) : s.Sub s := fun _ _ _ h => h
theorem Ty.aS (s : Ty) : s.Sub Ty.any := fun _ _ _ _ => trivial
theorem Ty.sub_eq {s t : Ty} (h : s = t) : s.Sub t := h ▸ Ty.aG s
def Cont.Sub (s t : Cont) : Prop := ∀ w M v, s.den w M v → t.den w M v
theorem Cont.aG (s : Cont) : s.Sub s := fun _ _ _ h => h
theorem Cont.sub_eq {s t : Cont} (h : s = t) : s.Sub t := h ▸ Cont.aG s
def s7 (A B : As) : Nat → Prop
  | 0 => True
  | k + 1 => (A.slots k).Sub (B.slots k) ∧ s7 A B k
theorem aH {A B : As} : s7 A B 0 := trivial
theorem tC {A B : As} : ∀ {n : Nat}, s7 A B n → ∀ c, c < n → (A.slots c).Sub (B.slots c)
  | 0, _, c, hc => absurd hc (Nat.not_lt_zero c)
  | n + 1, h, c, hc => if e : c = n then e ▸ h.1 else tC h.2 c (by omega)
def allTags (A : As) : List (Nat × Cont) → Prop
  | [] => True
  | x :: l => (∃ C, A.tag x.1 = some C ∧ C.Sub x.2) ∧ allTags A l
theorem aI : allTags A [] := trivial
theorem aK {u : Nat} {C D : Cont} {l : List (Nat × Cont)} (h : A.tag u = some D) (hs : D.Sub C) (h' : allTags A l) : allTags A ((u, C) :: l) := ⟨⟨D, h, hs⟩, h'⟩
theorem qN : ∀ {l : List (Nat × Cont)}, allTags A l → ∀ x ∈ l, ∃ C, A.tag x.1 = some C ∧ C.Sub x.2
  | [], _, x, hx => by cases hx
  | y :: l, h, x, hx => by
    rcases List.mem_cons.1 hx with rfl | hx
    · exact h.1
    · exact qN h.2 x hx
structure cr (fr : Fr) (A B : As) : Prop where
  slots : s7 A B fr.n
  tags : allTags A B.tags
theorem cr.holds {A B : As} (h : cr fr A B) {a : Act} {w : World} : A.holds fr a w → B.holds fr a w := fun ⟨M, ok, hs, ht⟩ =>
 ⟨M, ok, fun c hc => tC h.slots c hc _ _ _ (hs c hc), fun x hx => by
  obtain ⟨C, hC, hsub⟩ := qN h.tags x hx
  exact hsub _ _ _ (ht _ (cM hC))⟩
theorem dH {B : As} (h : cr fr A B) (h' : eU P fr x B Q) : eU P fr x A Q := fun a w ha => h' a w (h.holds ha)
theorem vG {J : As} (h : eU P fr x A (Exit.then (fun a w => J.holds fr a w) Q)) (h' : eU P fr y J Q) : eU P fr (.seq x y) A Q := fun a w ha =>
 wpIn_seq (Go.wpIn_mono (h a w ha) fun e a w hq => by cases e <;> first | exact h' a w hq | exact hq)
theorem iy {J : As} (h : cr fr A J) : cm fr A (Exit.then (fun a w => J.holds fr a w) Q .normal) := fun a w ha => h.holds ha
theorem cI {ι : Type} (I : ι → As) (μ : ι → Nat) (i0 : ι) (h0 : cr fr A (I i0))
    (h : ∀ i, eU P fr x (I i) (Exit.then (fun a w => ∃ j, (I j).holds fr a w ∧ μ j < μ i) Q)) : eU P fr (.loop x) A Q := by
  intro a w ha b k cs hro hb hr
  have key : ∀ (n : Nat) (i : ι), μ i = n → ∀ a w, (I i).holds fr a w → ∃ e a' w', Q e a' w' ∧ ArrivesIn (Machine.fenced P fr.kd.gT) P (lone (b.atR a (.code x :: .inLoop x :: k)) cs w) b k cs e a' w' := by
    intro n
    induction n using Nat.strongRecOn with
    | _ n ih =>
      intro i hi a w ha
      obtain ⟨e, a₁, w₁, hq, harr⟩ := h i a w ha b (.inLoop x :: k) cs hro hb hr
      cases e with
      | normal =>
        obtain ⟨j, hj, hlt⟩ := hq
        obtain ⟨e₂, a₂, w₂, hq₂, harr₂⟩ := ih (μ j) (hi ▸ hlt) j rfl a₁ w₁ hj
        exact ⟨e₂, a₂, w₂, hq₂, .of_steps (StepsIn.trans harr (.one (fenced_calm hb hr rfl) stepR_inLoop)) harr₂⟩
      | exit id => exact ⟨_, a₁, w₁, hq, .pass (x := .inLoop x) rfl (fun _ _ => .inl (by simp)) harr⟩
      | goto l => exact ⟨_, a₁, w₁, hq, .pass (x := .inLoop x) rfl (fun _ _ => .inl (by simp)) harr⟩
      | ret => exact ⟨_, a₁, w₁, hq, .pass (x := .inLoop x) rfl (fun _ _ => .inl (by simp)) harr⟩
      | panic ch => exact ⟨_, a₁, w₁, hq, .pass (x := .inLoop x) rfl (fun _ _ => .inl (by simp)) harr⟩
      | outgrown => exact ⟨_, a₁, w₁, hq, .pass (x := .inLoop x) rfl (fun _ _ => .inl (by simp)) harr⟩
  obtain ⟨e, a', w', hq, harr⟩ := key _ i0 rfl a w (h0.holds ha)
  exact ⟨e, a', w', hq, .of_steps (.one (fenced_calm hb hr rfl) stepR_loop) harr⟩
theorem bS {ι : Type} {I : ι → As} {μ : ι → Nat} {i : ι} (j : ι) (h : cr fr A (I j)) (hlt : μ j < μ i) : cm fr A (Exit.then (fun a w => ∃ j, (I j).holds fr a w ∧ μ j < μ i) Q .normal) := fun a w ha => ⟨j, h.holds ha, hlt⟩
def entry (args : List Ty) : As := ⟨fun c => (args[c]?).getD Ty.any, []⟩
theorem aX {f : FuncId} {fn : Func} {c : Code} {args : List Ty} {res : Ty} {n : Nat} (hf : P.funcs[f]? = some fn) (hb : fn.body = some c) (hn : (fn.name == "runtime.NumGoroutine") = false) (hnt : fn.ntmps = n) (hl : args.length ≤ n)
    (h : ∀ w0 M0, eU P ⟨n, w0, M0, [], .plain⟩ c (entry args) (bodyPost P fn (jY w0 M0 res))) : cy P f args res := by
  refine ⟨⟨fn, hf, hn, by rw [hb]; rfl⟩, fun w M vs wf hM hd => calls_of_wp hf hb (wpIn_wide.1 (h w M _ _ ?_))⟩
  have hlen := bw hd
  refine ⟨M, ⟨wf, Le.refl _ _ _ _, by simp [hnt, hlen]; omega, Defs.nil⟩, fun c hc => ?_, by simp [entry]⟩
  simp only [entry]
  cases ha : args[c]? with
  | none => trivial
  | some ty =>
    obtain ⟨v, hv, hdv⟩ := dF hd c ty ha
    have : (vs.toArray ++ Array.replicate (fn.ntmps - vs.toArray.size) undef).getD c undef = v := by
      have hlt : c < vs.length := (List.getElem?_eq_some_iff.1 hv).1
      rw [Array.getD_eq_getD_getElem?, Array.getElem?_append_left (by simpa using hlt)]
      simp [hv]
    rw [this]; exact hdv
theorem HT {fn : Func} {R : Ending → World → Prop} (h : cm fr A (bodyPost P fn R .ret)) : cm fr A (bodyPost P fn R .normal) := h
def Jn (M : ah) : ah := fun b => (M b).map fun _ => 0
theorem AB {M : ah} {b t : Nat} (h : Jn M b = some t) : t = 0 ∧ ∃ u, M b = some u := by
  unfold Jn at h
  cases hm : M b with
  | none => rw [hm] at h; cases h
  | some u => rw [hm] at h; injection h with h; exact ⟨h.symm, u, rfl⟩
theorem CT {w : World} {M : ah} (wf : Wf w M) : Wf w (Jn M) := ⟨fun b t h => let ⟨_, u, hu⟩ := AB h; wf.lt b u hu, fun b b' t _ h _ => by have := (AB h).1; omega⟩
theorem uH {M : ah} (b t : Nat) (h : Jn M b = some t) : t = 0 := (AB h).1
theorem Et {M : ah} {b : Nat} (h : M b = none) : Jn M b = none := by simp [Jn, h]
theorem L9 {M : ah} {b t : Nat} (h : M b = some t) : Jn M b = some 0 := by simp [Jn, h]
def mX (w : World) (M : ah) : ah := fun b => if b < w.heap.size then M b else none
theorem vN {w w' : World} {M M' : ah} {res : Ty} {r : Value} (wf : Wf w M) (le : Le (fun t => 1 ≤ t) (fun t => 1 ≤ t) w (Jn M) w' M') (hd : res.deps = []) (hdc : res.cdeps = []) (hr : res.den w' M' r) :
    Wf w' (mX w M) ∧ Le (· ∈ ([] : List Nat)) (· ∈ ([] : List Nat)) w M w' (mX w M) ∧ res.den w' (mX w M) r := by
  have hold : ∀ b, b < w.heap.size → w'.heap[b]? = w.heap[b]? := fun b hb => by
    cases hm : M b with
    | none => exact (le.oK b hb (Et hm)).2
    | some t => exact (le.own b 0 (L9 hm) (by omega)).2 (by omega)
  refine ⟨⟨fun b t h => ?_, fun b b' t ht1 h h' => ?_⟩, ⟨le.size, le.os, le.tape, le.out, fun b hb hm => ⟨?_, hold b hb⟩, fun b t hm _ => ⟨?_, fun _ => hold b (wf.lt b t hm)⟩⟩, ?_⟩
  · unfold mX at h
    split at h
    · exact Nat.lt_of_lt_of_le ‹_› le.size
    · cases h
  · unfold mX at h h'
    split at h <;> split at h' <;> first | exact wf.inj b b' t ht1 h h' | cases h | cases h'
  · simp [mX, hm]
  · simp [mX, wf.lt b t hm, hm]
  · refine res.mono (S := fun _ => True) (K := fun _ => True) ⟨Nat.le_refl _, rfl, rfl, rfl, fun b _ hm => ⟨?_, rfl⟩, fun b t _ h => absurd trivial h⟩ (by rw [hd]; intro _ h; cases h) (by rw [hdc]; intro _ h; cases h) hr
    unfold mX
    split
    · rename_i hlt
      cases hmb : M b with
      | none => rfl
      | some t =>
        have := (le.own b 0 (L9 hmb) (by omega)).1
        rw [hm] at this; cases this
    · rfl
def jr (A : As) (fr : Fr) (xs : List Operand) : List Ty := xs.map (A.op fr)
theorem dw {a : Act} {w : World} {M : ah} {rs : List Nat} (h : ∀ c ∈ rs, c < fr.n → (A.slots c).den w M (a.tmps.getD c undef)) : ∀ {xs : List Operand}, (∀ x ∈ xs, ∀ c ∈ bR x, c ∈ rs) → bt w M (jr A fr xs) (xs.map a.eval)
  | [], _ => trivial
  | x :: xs, hr => ⟨bk (hr x List.mem_cons_self) h, dw h fun y hy => hr y (List.mem_cons_of_mem _ hy)⟩
theorem dO {w : World} {M : ah} : ∀ {l l' : List Ty} {vs vs' : List Value}, bt w M l vs → bt w M l' vs' → bt w M (l ++ l') (vs ++ vs')
  | [], _, [], _, _, h => h
  | _ :: _, _, _ :: _, _, ⟨h1, h2⟩, h => ⟨h1, dO h2 h⟩
theorem lU {w : World} {M : ah} {l : List Ty} {vs : List Value} (hd : bl l = []) (hdc : bL l = []) (h : bt w M l vs) : bt w (Jn M) l vs :=
 bV (S := fun _ => True) (K := fun _ => True) ⟨Nat.le_refl _, rfl, rfl, rfl, fun b _ hm => ⟨Et hm, rfl⟩, fun b t _ h => absurd trivial h⟩ (by rw [hd]; intro _ h; cases h) (by rw [hdc]; intro _ h; cases h) h
theorem iK {f : FuncId} {args : List Ty} {res : Ty} (hF : cy P f args res) (vs : Array Value) (w : World) : (callFunc f vs).run P w = .ok (.enter f vs) w := by
 obtain ⟨⟨fn, hf, hn, hb⟩, _⟩ := hF
 have hn' : fn.name ≠ "runtime.NumGoroutine" := by simpa using hn
 have hb' : fn.body ≠ none := fun h => by rw [h] at hb; cases hb
 simp [callFunc, hf, hn', hb']
theorem KW {f : FuncId} {args : List Ty} {res : Ty} (hF : cy P f args res) {xs : Array Operand} {ats : Array TypeId} (hx : jr A fr xs.toList = args) (hd : bl args = []) (hdc : bL args = []) (hr : res.deps = []) (hrc : res.cdeps = []) :
 xe P fr ops ⟨some d, .call ⟨.value (.func f), xs, ats⟩, t, p, e, none⟩ A { d := some d, ty := res, rs := xs.toList.flatMap bR } := by
 refine ⟨rfl, (by simp), (by simp), (by simp), fun a w M wf _ hrd _ => ?_⟩
 rw [if_pos (by simp [Region.wanted])]
 have hv : bt w M args (xs.toList.map a.eval) := hx ▸ dw hrd fun x hx c hc => List.mem_flatMap.2 ⟨x, hx, hc⟩
 have hc := hF.2 w _ _ (CT wf) uH (lU hd hdc hv)
 have hrun : (execOp a.eval ⟨some d, .call ⟨.value (.func f), xs, ats⟩, t, p, e, none⟩).run P w = .ok (.enter f (xs.map a.eval)) w := by
  simp [execOp, resolve, Act.eval, Deferred.ofValue, invoke, iK hF]
 refine eZ hrun ?_
 have hvs : (xs.toList.map a.eval).toArray = xs.map a.eval := by rw [← Array.toList_map]
 rw [← hvs]
 refine hc.mono fun en w' ⟨r, M', he, _, le, hden⟩ => ?_
 obtain ⟨h1, h2, h3⟩ := vN wf le hr hrc hden
 exact ⟨r, he, r, rfl, _, h1, h2, h3, by simp⟩
theorem aq {f : FuncId} {args : List Ty} {res : Ty} (hF : cy P f args res) {xs : List Operand} {ats : Array TypeId} (hx : jr A fr xs = args) (hd : bl args = []) (hdc : bL args = []) (hr : res.deps = []) (hrc : res.cdeps = [])
 (h : aV P fr ops rest (A.set d res) fun A' l => K A' ((A, { d := some d, ty := res, rs := xs.flatMap bR }) :: l)) : aV P fr ops (⟨some d, .call ⟨.value (.func f), xs.toArray, ats⟩, t, p, e, none⟩ :: rest) A K :=
 ⟨_, KW hF hx hd hdc hr hrc, h⟩
theorem I7 {c : Nat} {f : FuncId} {caps args : List Ty} {res : Ty} (hc : A.op fr (.tmp c) = .jh f caps) (hF : cy P f args res) {xs : Array Operand} {ats : Array TypeId} (hx : jr A fr xs.toList ++ caps = args) (hd : bl args = []) (hdc : bL args = []) (hr : res.deps = []) (hrc : res.cdeps = []) :
 xe P fr ops ⟨some d, .call ⟨.value (.tmp c), xs, ats⟩, t, p, e, none⟩ A { d := some d, ty := res, rs := c :: xs.toList.flatMap bR } := by
 refine ⟨rfl, (by simp), (by simp), (by simp), fun a w M wf _ hrd _ => ?_⟩
 rw [if_pos (by simp [Region.wanted])]
 have hcv := bk (x := .tmp c) (fun u hu => by exact (List.mem_singleton.1 hu) ▸ List.mem_cons_self) hrd
 rw [hc] at hcv
 obtain ⟨cs, ec, hcs⟩ := hcv
 have hv : bt w M args (xs.toList.map a.eval ++ cs.toList) := hx ▸ dO (dw hrd fun x hx c hc => List.mem_cons_of_mem _ (List.mem_flatMap.2 ⟨x, hx, hc⟩)) hcs
 have hc := hF.2 w _ _ (CT wf) uH (lU hd hdc hv)
 have hrun : (execOp a.eval ⟨some d, .call ⟨.value (.tmp c), xs, ats⟩, t, p, e, none⟩).run P w = .ok (.enter f (xs.map a.eval ++ cs)) w := by
  simp [execOp, resolve, ec, Deferred.ofValue, invoke, iK hF]
 refine eZ hrun ?_
 have hvs : (xs.toList.map a.eval ++ cs.toList).toArray = xs.map a.eval ++ cs := by rw [← Array.toList_map, ← Array.toList_append]
 rw [← hvs]
 refine hc.mono fun en w' ⟨r, M', he, _, le, hden⟩ => ?_
 obtain ⟨h1, h2, h3⟩ := vN wf le hr hrc hden
 exact ⟨r, he, r, rfl, _, h1, h2, h3, by simp⟩
theorem ID {c : Nat} {f : FuncId} {caps args : List Ty} {res : Ty} (hc : A.op fr (.tmp c) = .jh f caps) (hF : cy P f args res) {xs : List Operand} {ats : Array TypeId} (hx : jr A fr xs ++ caps = args) (hd : bl args = []) (hdc : bL args = []) (hr : res.deps = []) (hrc : res.cdeps = [])
 (h : aV P fr ops rest (A.set d res) fun A' l => K A' ((A, { d := some d, ty := res, rs := c :: xs.flatMap bR }) :: l)) : aV P fr ops (⟨some d, .call ⟨.value (.tmp c), xs.toArray, ats⟩, t, p, e, none⟩ :: rest) A K :=
 ⟨_, I7 hc hF hx hd hdc hr hrc, h⟩
end
end Go.T
namespace Go.T
open Go Go.RowKit
section
variable {P : Program} {fr : Fr} {ops : Array Oper} {A : As} {rest : List Oper} {K : As → List (As × Fx) → Prop} {d : Nat} {t ty' ty2 : TypeId} {p : String} {e : Array Edge}
theorem av {op : BinOp} {x y : Operand} {k : IntKind} {a b : Int} {ty : Ty} (hx : A.op fr x = .int k a) (hy : A.op fr y = .int k b) (hr : P5 op k a b = some ty)
 (h : aV P fr ops rest (A.set d ty) fun A' l' => K A' ((A, { d := some d, ty := ty, rs := bR x ++ bR y }) :: l')) : aV P fr ops (⟨some d, .binOp op ty' x y ty2, t, p, e, none⟩ :: rest) A K :=
 bB (bH rfl rfl fun a w M _ hrd _ => by
  obtain ⟨hdx, hdy⟩ := op2 hrd
  rw [hx] at hdx; rw [hy] at hdy
  have ex : a.eval x = .int k _ := hdx
  have ey : a.eval y = .int k _ := hdy
  obtain ⟨v, hv', hd⟩ := Kg (P := P) hr x y ty' w M
  refine ⟨v, ?_, hd⟩
  simp only [Sem.run_bind] at hv'
  simp only [execOp, ex, ey, Sem.run_bind, hv']
  rfl) h
theorem cD {x y : Operand} {a b : Int} (hx : A.op fr x = .int .i64 a) (hy : A.op fr y = .int .i64 b) (h1 : -9223372036854775808 ≤ a + b) (h2 : a + b ≤ 9223372036854775807)
 (h : aV P fr ops rest (A.set d (.int .i64 (a + b))) fun A' l' => K A' ((A, { d := some d, ty := .int .i64 (a + b), rs := bR x ++ bR y }) :: l')) : aV P fr ops (⟨some d, .binOp .add ty' x y ty2, t, p, e, none⟩ :: rest) A K := by
 refine av (op := .add) hx hy (ty := .int .i64 (a + b)) ?_ h
 show some _ = some _
 rw [IntWalk.i64_in (a + b) (by omega)]
theorem jo {x y : Operand} {a b : Int} (hx : A.op fr x = .int .i64 a) (hy : A.op fr y = .int .i64 b) (h1 : -9223372036854775808 ≤ a - b) (h2 : a - b ≤ 9223372036854775807)
 (h : aV P fr ops rest (A.set d (.int .i64 (a - b))) fun A' l' => K A' ((A, { d := some d, ty := .int .i64 (a - b), rs := bR x ++ bR y }) :: l')) : aV P fr ops (⟨some d, .binOp .sub ty' x y ty2, t, p, e, none⟩ :: rest) A K := by
 refine av (op := .sub) hx hy (ty := .int .i64 (a - b)) ?_ h
 show some _ = some _
 rw [IntWalk.i64_in (a - b) (by omega)]
theorem KN {x y : Operand} {a b : Int} (hx : A.op fr x = .int .i64 a) (hy : A.op fr y = .int .i64 b) (h1 : -9223372036854775808 ≤ a * b) (h2 : a * b ≤ 9223372036854775807)
 (h : aV P fr ops rest (A.set d (.int .i64 (a * b))) fun A' l' => K A' ((A, { d := some d, ty := .int .i64 (a * b), rs := bR x ++ bR y }) :: l')) : aV P fr ops (⟨some d, .binOp .mul ty' x y ty2, t, p, e, none⟩ :: rest) A K := by
 refine av (op := .mul) hx hy (ty := .int .i64 (a * b)) ?_ h
 show some _ = some _
 rw [IntWalk.i64_in (a * b) ⟨h1, h2⟩]
theorem L3 {x y : Operand} {k : IntKind} {a b : Int} (hx : A.op fr x = .int k a) (hy : A.op fr y = .int k b) (h0 : b ≠ 0)
 (h : aV P fr ops rest (A.set d (.int k (a.tmod b))) fun A' l' => K A' ((A, { d := some d, ty := .int k (a.tmod b), rs := bR x ++ bR y }) :: l')) : aV P fr ops (⟨some d, .binOp .rem ty' x y ty2, t, p, e, none⟩ :: rest) A K :=
 bB (bH rfl rfl fun ac w M _ hrd _ => by
  obtain ⟨hdx, hdy⟩ := op2 hrd
  rw [hx] at hdx; rw [hy] at hdy
  have ex : ac.eval x = .int k _ := hdx
  have ey : ac.eval y = .int k _ := hdy
  exact ⟨.int k (a.tmod b), by simp only [execOp, ex, ey]; simp [go_sem, Op.intDiv, h0], rfl⟩) h
theorem Ly {x y : Operand} {k k' : IntKind} {a b : Int} (hx : A.op fr x = .int k a) (hy : A.op fr y = .int k' b) (h0 : 0 ≤ b) (h1 : b ≤ k.bits)
 (h : aV P fr ops rest (A.set d (.int k (a / 2 ^ b.toNat))) fun A' l' => K A' ((A, { d := some d, ty := .int k (a / 2 ^ b.toNat), rs := bR x ++ bR y }) :: l')) : aV P fr ops (⟨some d, .binOp .shr ty' x y ty2, t, p, e, none⟩ :: rest) A K :=
 bB (bH rfl rfl fun ac w M _ hrd _ => by
  obtain ⟨hdx, hdy⟩ := op2 hrd
  rw [hx] at hdx; rw [hy] at hdy
  have ex : ac.eval x = .int k _ := hdx
  have ey : ac.eval y = .int k' _ := hdy
  exact ⟨.int k (a / 2 ^ b.toNat), by simp only [execOp, ex, ey, eqGuard_shr, binOp_shr, shift_shr k k' a b h0 h1]; simp, rfl⟩) h
theorem Qx {x y : Operand} {k k' : IntKind} {a b : Int} (hx : A.op fr x = .int k a) (hy : A.op fr y = .int k' b) (h0 : 0 ≤ b) (h1 : b ≤ k.bits)
 (h : aV P fr ops rest (A.set d (.int k (k.wrap (a * 2 ^ b.toNat)))) fun A' l' => K A' ((A, { d := some d, ty := .int k (k.wrap (a * 2 ^ b.toNat)), rs := bR x ++ bR y }) :: l')) : aV P fr ops (⟨some d, .binOp .shl ty' x y ty2, t, p, e, none⟩ :: rest) A K :=
 bB (bH rfl rfl fun ac w M _ hrd _ => by
  obtain ⟨hdx, hdy⟩ := op2 hrd
  rw [hx] at hdx; rw [hy] at hdy
  have ex : ac.eval x = .int k _ := hdx
  have ey : ac.eval y = .int k' _ := hdy
  exact ⟨.int k (k.wrap (a * 2 ^ b.toNat)), by simp only [execOp, ex, ey, eqGuard_shl, binOp_shl, shift_shl k k' a b h0 h1]; simp, rfl⟩) h
theorem dK {x : Operand} {b : Bool} (hx : A.op fr x = .bool b)
 (h : aV P fr ops rest (A.set d (.bool (!b))) fun A' l' => K A' ((A, { d := some d, ty := .bool (!b), rs := bR x }) :: l')) : aV P fr ops (⟨some d, .unOp .not ty' x, t, p, e, none⟩ :: rest) A K :=
 bB (bH rfl rfl fun a w M _ hrd _ => by
  have hdx := bk (x := x) (fun _ h => h) hrd
  rw [hx] at hdx
  have ex : a.eval x = .bool b := hdx
  exact ⟨.bool (!b), by simp [execOp, ex, Op.unary], rfl⟩) h
theorem bF {x : Operand} {l : List Ty} {i : Nat} {ty : Ty} (hx : A.op fr x = .jk l) (hl : l[i]? = some ty)
 (h : aV P fr ops rest (A.set d ty) fun A' l' => K A' ((A, { d := some d, ty := ty, rs := bR x }) :: l')) : aV P fr ops (⟨some d, .extract x i, t, p, e, none⟩ :: rest) A K :=
 bB (bH rfl rfl fun a w M _ hrd _ => by
  have hdx := bk (x := x) (fun _ h => h) hrd
  rw [hx] at hdx
  obtain ⟨cs, ex, hd⟩ := hdx
  obtain ⟨v, hv, hdv⟩ := dF hd i ty hl
  exact ⟨v, by simp [execOp, ex, Instr.extract, show cs[i]? = some v by simpa using hv], hdv⟩) h
theorem cX {x : Operand} {tg off : Nat} (hx : A.op fr x = .ptr tg off)
 (h : aV P fr ops rest (A.set d (.ptr tg off)) fun A' l' => K A' ((A, { d := some d, ty := .ptr tg off, rs := bR x }) :: l')) : aV P fr ops (⟨some d, .nilCheck x, t, p, e, none⟩ :: rest) A K :=
 bB (bH rfl rfl fun a w M _ hrd _ => by
  have hdx := bk (x := x) (fun _ h => h) hrd
  rw [hx] at hdx
  have hdx' := hdx
  obtain ⟨b, hb, ex⟩ := hdx
  exact ⟨a.eval x, by simp [execOp, ex], hdx'⟩) h
theorem vg {c x y : Operand} {b : Bool} {ty1 ty2' : Ty} (hc : A.op fr c = .bool b) (hx : A.op fr x = ty1) (hy : A.op fr y = ty2') {ty : Ty} (h1 : b = true → ty1.Sub ty) (h2 : b = false → ty2'.Sub ty)
    (h : aV P fr ops rest (A.set d ty) fun A' l' => K A' ((A, { d := some d, ty := ty, rs := bR c ++ (bR x ++ bR y) }) :: l')) : aV P fr ops (⟨some d, .pick c x y, t, p, e, none⟩ :: rest) A K :=
  bB (bH rfl rfl fun a w M _ hrd _ => by
    have hdc := bk (x := c) (fun _ h => List.mem_append_left _ h) hrd
    have hdx := bk (x := x) (fun _ h => List.mem_append_right _ (List.mem_append_left _ h)) hrd
    have hdy := bk (x := y) (fun _ h => List.mem_append_right _ (List.mem_append_right _ h)) hrd
    rw [hc] at hdc; rw [hx] at hdx; rw [hy] at hdy
    have ec : a.eval c = .bool b := hdc
    cases b with
    | true => exact ⟨a.eval x, by simp [execOp, ec, asBool], h1 rfl _ _ _ hdx⟩
    | false => exact ⟨a.eval y, by simp [execOp, ec, asBool], h2 rfl _ _ _ hdy⟩) h
variable [T : k5 P]
theorem bq {α : Type} {x : Operand} {E : El α} {xs : List α} {ti : TI} {el : Nat} (hx : A.op fr x = .sl E xs) (hT : T.tab[ty']? = some ti) (hk : ti.k = .slice el)
 (h : aV P fr ops rest (A.set d (.int .i64 xs.length)) fun A' l' => K A' ((A, { d := some d, ty := .int .i64 xs.length, rs := bR x }) :: l')) :
 aV P fr ops (⟨some d, .call ⟨.builtin .len, #[x], #[ty']⟩, t, p, e, none⟩ :: rest) A K :=
 bB (bH rfl rfl fun a w M _ hrd _ => by
  have hdx := bk (x := x) (fun _ h => h) hrd
  rw [hx] at hdx
  obtain ⟨ad, c, ex, _⟩ := hdx
  obtain ⟨_, D, _, hD, hkd, _⟩ := cF hT
  rw [hk] at hkd
  cases D <;> simp only [TK.of, reduceCtorEq, TK.slice.injEq] at hkd
  exact ⟨.int .i64 xs.length, by simp [execOp, resolve, invoke, builtin, ex, Builtin.len_, run_underlying hD, goInt], rfl⟩) h
end
end Go.T
namespace Go.T
open Go Go.RowKit
def lk : List (Nat × Ty) → Nat → Ty
  | [], _ => Ty.any
  | (d, t) :: l, c => bif Nat.beq c d then t else lk l c
def live (l : List (Nat × Ty)) (tg : List (Nat × Cont) := []) : As := ⟨lk l, tg⟩
theorem aB {A B : As} {k : Nat} (h' : s7 A B k) (h : (A.slots k).Sub (B.slots k)) : s7 A B (k + 1) := ⟨h, h'⟩
theorem cr.mk' {fr : Fr} {A B : As} (h : s7 A B fr.n) (h' : allTags A B.tags) : cr fr A B := ⟨h, h'⟩
theorem Ty.bg {k : IntKind} {a b : Int} (h : a = b) : (Ty.int k a).Sub (Ty.int k b) := h ▸ Ty.aG _
theorem Ty.Mp {a b : Bool} (h : a = b) : (Ty.bool a).Sub (Ty.bool b) := h ▸ Ty.aG _
theorem Ty.k8 {α : Type} {E : El α} {a b : List α} (h : a = b) : (Ty.sl E a).Sub (Ty.sl E b) := h ▸ Ty.aG _
theorem aj {P : Program} {fr : Fr} {A : As} {Q : Exit → Act → World → Prop} {x y : Code} {c : Operand} {q : Prop} [inst : Decidable q] (hc : A.op fr c = .bool (decide q)) (h1 : q → eU P fr x A Q) (h2 : ¬ q → eU P fr y A Q) : eU P fr (.cond c x y) A Q :=
 c8 hc (fun h => h1 (of_decide_eq_true h)) (fun h => h2 (of_decide_eq_false h))
theorem dB {P : Program} {fr : Fr} {A : As} {Q : Exit → Act → World → Prop} {x y : Code} {c : Operand} {q : Prop} [inst : Decidable q] (hc : A.op fr c = .bool (!decide q)) (h1 : ¬ q → eU P fr x A Q) (h2 : q → eU P fr y A Q) : eU P fr (.cond c x y) A Q :=
 c8 hc (fun h => h1 (of_decide_eq_false (by simpa using h))) (fun h => h2 (of_decide_eq_true (by simpa using h)))
section
variable {P : Program} {fr : Fr} {ops : Array Oper} {A : As} {rest : List Oper} {K : As → List (As × Fx) → Prop} {d : Nat} {t ty' : TypeId} {p : String} {e : Array Edge} [T : k5 P]
theorem bC {α : Type} [Inhabited α] {x y : Operand} {E : El α} {xs : List α} {k : IntKind} {i : Nat} {ti te : TI} {el : Nat} (hx : A.op fr x = .sl E xs) (hy : A.op fr y = .int k i) (hT : T.tab[ty']? = some ti) (hk : ti.k = .slice el) (hE : T.tab[el]? = some te) (hs : te.size = E.size)
 (h1 : i < xs.length)
 (h : aV P fr ops rest (A.set d (.pp (E.tys (nth xs i)))) fun A' l' => K A' ((A, { d := some d, ty := .pp (E.tys (nth xs i)), rs := bR x ++ bR y }) :: l')) : aV P fr ops (⟨some d, .indexAddr ty' x y, t, p, e, none⟩ :: rest) A K :=
 dX hx hy hT hk hE hs (Int.natCast_nonneg _) h1 h
end
end Go.T
namespace Go.T
open Go Go.RowKit
theorem fH {P : Program} {fr : Fr} {ops : Array Oper} {o : Oper} {A : As} {f : Fx} (hg : o.guard = none) (hd : f.d = o.dst) (hsets : ∀ x ∈ f.sets, x.1 ∈ f.S ∨ x.1 ∈ f.K) (hS : ∀ t ∈ f.S, 1 ≤ t) (hK : ∀ t ∈ f.K, 1 ≤ t ∧ t ∉ fr.pass)
 (h : ∀ (a : Act) w M, Wf w M → (∀ c ∈ f.rs, c < fr.n → (A.slots c).den w M (a.tmps.getD c undef)) → (∀ x ∈ A.tags, x.1 ∈ f.rt → x.2.den w M x.1) → ∃ v w', (execOp a.eval o).run P w = .ok (.value v) w' ∧ f.left w M w' v) : xe P fr ops o A f := by
 refine ⟨hd, hsets, hS, hK, fun a w M wf _ hr ht => ?_⟩
 rw [if_pos (by simp [Region.wanted, hg])]
 obtain ⟨v, w', hv, hl⟩ := h a w M wf hr ht
 refine qn hv ?_
 exact ⟨v, rfl, hl⟩
theorem kf {P : Program} {fr : Fr} {ops : Array Oper} {o : Oper} {A : As} {f : Fx} (hg : o.guard = none) (hd : f.d = o.dst) (hty : f.ty = Ty.any) (hsets : ∀ x ∈ f.sets, x.1 ∈ f.S ∨ x.1 ∈ f.K) (hS : ∀ t ∈ f.S, 1 ≤ t) (hK : ∀ t ∈ f.K, 1 ≤ t ∧ t ∉ fr.pass)
 (h : ∀ (a : Act) w M, Wf w M → (∀ c ∈ f.rs, c < fr.n → (A.slots c).den w M (a.tmps.getD c undef)) → (∀ x ∈ A.tags, x.1 ∈ f.rt → x.2.den w M x.1) → ∃ w', (execOp a.eval o).run P w = .ok .skip w' ∧ f.left w M w' undef) : xe P fr ops o A f := by
 refine ⟨hd, hsets, hS, hK, fun a w M wf _ hr ht => ?_⟩
 rw [if_pos (by simp [Region.wanted, hg])]
 obtain ⟨w', hv, hl⟩ := h a w M wf hr ht
 refine tF hv ?_
 exact ⟨undef, rfl, hl⟩
def lF (M : ah) (t : Nat) (g : Option Nat) : ah := fun b => if g = some b then some t else if M b = some t then none else M b
theorem yM {w w' : World} {M : ah} {t : Nat} {g : Option Nat} (wf : Wf w M) (hs : w.heap.size ≤ w'.heap.size) (hg : ∀ b, g = some b → b < w'.heap.size) : Wf w' (lF M t g) := by
 refine ⟨fun b u h => ?_, fun b b' u ht1 h h' => ?_⟩
 ·unfold lF at h
  split at h
  ·exact hg b (by assumption)
  split at h
  ·cases h
  exact Nat.lt_of_lt_of_le (wf.lt b u h) hs
 have key : ∀ c, lF M t g c = some (u + 1) → (g = some c ∧ t = u + 1) ∨ (M c = some (u + 1) ∧ t ≠ u + 1) := by
  intro c hc
  unfold lF at hc
  by_cases e : g = some c
  ·rw [if_pos e] at hc; injection hc with hc; exact .inl ⟨e, hc⟩
  rw [if_neg e] at hc
  by_cases e' : M c = some t
  ·rw [if_pos e'] at hc; cases hc
  rw [if_neg e'] at hc; exact .inr ⟨hc, fun ht => e' (by rw [ht]; exact hc)⟩
 rcases key b h with ⟨h1, h2⟩ | ⟨h1, h2⟩ <;> rcases key b' h' with ⟨h3, h4⟩ | ⟨h3, h4⟩
 ·rw [h1] at h3; injection h3
 ·exact absurd h2 h4
 ·exact absurd h4 h2
 exact wf.inj b b' u ht1 h1 h3
theorem yA {w w' : World} {M : ah} {t : Nat} {g : Option Nat} (hsz : w.heap.size ≤ w'.heap.size) (hos : w'.os = w.os) (htp : w'.tape = w.tape) (hout : w'.output = w.output)
 (hg : ∀ b, g = some b → b < w.heap.size → M b = some t) (hk : ∀ b, b < w.heap.size → M b ≠ some t → w'.heap[b]? = w.heap[b]?) (wf : Wf w M) : Le (· ∈ ([] : List Nat)) (· ∈ [t]) w M w' (lF M t g) := by
 refine ⟨hsz, hos, htp, hout, fun b hb hm => ⟨?_, hk b hb (by rw [hm]; simp)⟩, fun b u hm hu => ⟨?_, fun _ => hk b (wf.lt b u hm) (by rw [hm]; intro e; injection e with e; exact hu (by simp [e]))⟩⟩
 ·unfold lF
  split
  ·rename_i e; rw [hg b e hb] at hm; cases hm
  rw [if_neg (by rw [hm]; simp)]; exact hm
 have hne : M b ≠ some t := by rw [hm]; intro e; injection e with e; exact hu (by simp [e])
 unfold lF
 split
 ·rename_i e; exact absurd (hg b e (wf.lt b u hm)) hne
 first | exact hm | (rw [if_neg hne]; exact hm)
theorem jS {w : World} {M : ah} (wf : Wf w M) (o : Obj) (t : Nat) : Wf (w.alloc o) (lF M t (some w.heap.size)) ∧ Le (· ∈ ([] : List Nat)) (· ∈ [t]) w M (w.alloc o) (lF M t (some w.heap.size)) ∧ lF M t (some w.heap.size) w.heap.size = some t :=
 ⟨yM wf (by simp) (fun b e => by injection e with e; simp [← e]), yA (by simp) rfl rfl rfl (fun b e hb => by injection e with e; omega) (fun b hb _ => Below.heap_alloc w o b hb) wf, by simp [lF]⟩
theorem zi {w : World} {M : ah} (wf : Wf w M) (o : Obj) : Wf (w.alloc o) M ∧ Le (· ∈ ([] : List Nat)) (· ∈ ([] : List Nat)) w M (w.alloc o) M ∧ M w.heap.size = none :=
  ⟨⟨fun b t h => by have := wf.lt b t h; simp; omega, wf.inj⟩, ⟨by simp, rfl, rfl, rfl, fun b hb h => ⟨h, Below.heap_alloc w o b hb⟩, fun b t h _ => ⟨h, fun _ => Below.heap_alloc w o b (wf.lt b t h)⟩⟩, by
    cases h : M w.heap.size with
    | none => rfl
    | some t => have := wf.lt _ t h; omega⟩
theorem fD (w : World) (o : Obj) : (w.alloc o).heap[w.heap.size]? = some o := by
 show (w.heap.push o)[w.heap.size]? = some o
 simp
theorem Cr {w : World} {M : ah} (wf : Wf w M) {cs : List Value} {T : TypeId} {l : List Ty} (h : bt w M l cs) : nH (w.alloc (.cells cs.toArray T)) M w.heap.size 0 l := by
 obtain ⟨wf', le, hn⟩ := zi wf (.cells cs.toArray T)
 refine ⟨hn, by simp, fun i t hi => ?_⟩
 obtain ⟨v, hv, hd⟩ := dF h i t hi
 exact ⟨v, by simp [hv], t.mono le (by intro _ _ h; cases h) (by intro _ _ h; cases h) hd⟩
theorem nR (w : World) (M : ah) : ∀ l : List Value, bt w M (l.map Ty.m9) l
  | [] => trivial
  | v :: l => ⟨n5 w M v, nR w M l⟩
section
variable {P : Program} {fr : Fr} {ops : Array Oper} {A : As} {rest : List Oper} {K : As → List (As × Fx) → Prop} {d : Nat} {t ty' : TypeId} {p : String} {e : Array Edge} [T : k5 P]
theorem qi {t : Nat} {x : TI} (h : T.tab[t]? = some x) (hz : x.zero ≠ []) (w : World) : ∃ z : Value, (zeroValue t).run P w = .ok z w ∧ z.cells.toList = x.zero := by
  obtain ⟨i, _, hi, _, _, _, _, hze⟩ := cF h
  cases hiz : i.zero with
  | none => rw [hiz] at hze; exact absurd hze.symm hz
  | some z => rw [hiz] at hze; exact ⟨z, by simp [zeroValue, typeInfo, hi, hiz], hze⟩
theorem bX {ti : TI} (hT : T.tab[ty']? = some ti) (hz : ti.zero ≠ []) (hp : fr.pass.contains (d + 1) = false)
 (h : aV P fr ops rest (A.after { d := some d, ty := .ptr (d + 1) 0, K := [d + 1], sets := [(d + 1, .cells ty' (ti.zero.map Ty.m9))] }) fun A' l' => K A' ((A, { d := some d, ty := .ptr (d + 1) 0, K := [d + 1], sets := [(d + 1, .cells ty' (ti.zero.map Ty.m9))] }) :: l')) :
 aV P fr ops (⟨some d, .alloc ty', t, p, e, none⟩ :: rest) A K := by
 refine ⟨_, fH rfl rfl (by simp) (by simp) (by simp at hp ⊢; exact hp) fun a w M wf _ _ => ?_, h⟩
 obtain ⟨z, hz1, hz2⟩ := qi hT hz w
 obtain ⟨h1, h2, h3⟩ := jS wf (.cells z.cells ty') (d + 1)
 refine ⟨.pointer (some ⟨w.heap.size, 0, none⟩), w.alloc (.cells z.cells ty'), ?_, _, h1, h2, ⟨_, h3, rfl⟩, ?_⟩
 ·simp [execOp, Instr.alloc, newVar, newRow, newObj, Sem.run, hz1]
 intro x hx
 simp only [List.mem_singleton] at hx
 subst hx
 exact ⟨w.heap.size, z.cells, h3, fD _ _, by rw [hz2]; exact nR _ _ _⟩
theorem jW {w : World} {M : ah} {tg b : Nat} {cs' : Array Value} {Tb : TypeId} (wf : Wf w M) (hb : M b = some tg) (w' : World) (hw : w' = { w with heap := w.heap.setIfInBounds b (.cells cs' Tb (0, 0)) }) :
 Wf w' M ∧ Le (· ∈ [tg]) (· ∈ ([] : List Nat)) w M w' M ∧ w'.heap[b]? = some (.cells cs' Tb (0, 0)) := by
 have hlt := wf.lt b tg hb
 subst hw
 refine ⟨⟨fun b' t h => by simpa using wf.lt b' t h, wf.inj⟩, ⟨by simp, rfl, rfl, rfl, fun b' hb' hm => ⟨hm, ?_⟩, fun b' t hm _ => ⟨hm, fun hs => ?_⟩⟩, by simp [hlt]⟩
 ·have : b ≠ b' := fun e => by rw [← e, hb] at hm; cases hm
  simp [Array.getElem?_setIfInBounds_ne this]
 have : b ≠ b' := fun e => hs (by rw [← e, hb] at hm; injection hm with hm; simp [hm])
 simp [Array.getElem?_setIfInBounds_ne this]
theorem kQ {w : World} {b off : Nat} {cs : Array Value} {Tb : TypeId} (h : w.heap[b]? = some (.cells cs Tb (0, 0))) (v : Value) : w.setCell ⟨b, off, none⟩ v = { w with heap := w.heap.setIfInBounds b (.cells (cs.setIfInBounds off v) Tb (0, 0)) } := by
 unfold World.setCell
 congr 1
 apply Array.ext_getElem?
 intro i
 rw [Array.getElem?_modify]
 by_cases e : b = i
 ·subst e
  obtain ⟨hlt, hv⟩ := Array.getElem?_eq_some_iff.1 h
  simp [hv, hlt]
 simp [e, Array.getElem?_setIfInBounds_ne e]
theorem ny {w : World} {M : ah} {l : List Ty} {vs : List Value} {i : Nat} {ty : Ty} {v : Value} (h : bt w M l vs) (hv : ty.den w M v) : bt w M (l.set i ty) (vs.set i v) := by
 have hl := bw h
 refine g9 (by simp [hl]) fun j t hj => ?_
 rw [List.getElem?_set] at hj
 split at hj
 ·rename_i e
  subst e
  split at hj
  ·injection hj with hj
   subst hj
   exact ⟨v, by rw [List.getElem?_set]; simp; omega, hv⟩
  cases hj
 rename_i e
 obtain ⟨u, hu, hd⟩ := dF h j t hj
 exact ⟨u, by rw [List.getElem?_set]; simp [e, hu], hd⟩
theorem cj {x y : Operand} {tg off Tb : Nat} {l : List Ty} {ti : TI} {ty : Ty} (hx : A.op fr x = .ptr tg off) (hc : A.tag tg = some (.cells Tb l)) (h1 : e8 tg) (hT : T.tab[ty']? = some ti) (hsz : ti.size = 1) (hy : A.op fr y = ty) (ho : ty.one = true) (hoff : off < l.length)
 (hdl : kJ (bL l) [tg] = true) (hdt : kJ ty.cdeps [tg] = true) {l' : List Ty} (hl : l.set off ty = l')
 (h : aV P fr ops rest (A.after { d := none, S := [tg], sets := [(tg, .cells Tb l')], rs := bR x ++ bR y, rt := [tg] }) fun A' l'' => K A' ((A, { d := none, S := [tg], sets := [(tg, .cells Tb l')], rs := bR x ++ bR y, rt := [tg] }) :: l'')) :
 aV P fr ops (⟨none, .store ty' x y, t, p, e, none⟩ :: rest) A K := by
 subst hl
 refine ⟨_, kf rfl rfl rfl (by simp) (by simpa using h1.1) (by simp) fun a w M wf hr ht => ?_, h⟩
 obtain ⟨hdx, hdy⟩ := op2 hr
 rw [hx] at hdx; rw [hy] at hdy
 obtain ⟨b, hb, ex⟩ := hdx
 obtain ⟨b', cs, hb', hh, hd⟩ := ht _ (cM hc) (by simp)
 obtain ⟨u, rfl⟩ : ∃ u, tg = u + 1 := ⟨tg - 1, by omega⟩
 have := wf.inj b b' u (by omega) hb hb'
 subst this
 have hone := ty.isOne ho hdy
 have hlen := bw hd
 have hcells : (a.eval y).cells = #[a.eval y] := by
  cases hv : a.eval y <;> first | rfl | (rw [hv] at hone; simp [Value.oneCell'] at hone)
 have hcell : w.cell? ⟨b, off, none⟩ = some (cs[off]'(by simp at hlen; omega)) := by simp [World.cell?, hh]
 have hfz : w.frozen? ⟨b, off, none⟩ = false := by simp [World.frozen?, hh]
 obtain ⟨h1', h2', h3'⟩ := jW wf hb _ (kQ hh (off := off) (a.eval y))
 refine ⟨w.setCell ⟨b, off, none⟩ (a.eval y), ?_, M, h1', h2', trivial, ?_⟩
 ·have hst := run_store P w ⟨b, off, none⟩ (a.eval y) .plain hone
  rw [hcell] at hst
  simp only [hfz] at hst
  simp [execOp, Instr.storeAt, Instr.sureAddr, ex, storeVar, hcells, bz hT, hsz, storeCells, hst, Addr.add]
 intro z hz
 simp only [List.mem_singleton] at hz
 subst hz
 refine ⟨b, _, hb, h3', ?_⟩
 rw [Array.toList_setIfInBounds]
 refine ny (bV h2' (by intro _ _ h; cases h) (fK hdl) hd) (ty.mono h2' (by intro _ _ h; cases h) (fK hdt) hdy)
theorem jA {w : World} {b : Nat} {Tb : TypeId} : ∀ (vs pre : List Value) (cs : Array Value), w.heap[b]? = some (.cells cs Tb (0, 0)) → cs.size = pre.length + vs.length → cs.toList.take pre.length = pre → (∀ v ∈ vs, v.oneCell' = true) →
    (storeCells ⟨b, 0, none⟩ vs pre.length).run P w = .ok () { w with heap := w.heap.setIfInBounds b (.cells (pre ++ vs).toArray Tb (0, 0)) }
  | [], pre, cs, hh, hs, hp, _ => by
    have _ := T
    have e : (pre ++ []).toArray = cs := by
      apply Array.ext'
      simp only [List.append_nil]
      rw [← hp, List.take_of_length_le]
      simp at hs ⊢; omega
    rw [e]
    have hw : ({ w with heap := w.heap.setIfInBounds b (.cells cs Tb (0, 0)) } : World) = w := by
      obtain ⟨hlt, hv⟩ := Array.getElem?_eq_some_iff.1 hh
      have : w.heap.setIfInBounds b (.cells cs Tb (0, 0)) = w.heap := by
        apply Array.ext_getElem?
        intro i
        by_cases e : b = i
        · subst e; simp [hlt, hv]
        · simp [Array.getElem?_setIfInBounds_ne e]
      rw [this]
    rw [hw]
    simp [storeCells]
  | v :: vs, pre, cs, hh, hs, hp, h1 => by
    have hlt : pre.length < cs.size := by rw [hs]; simp
    have hb : b < w.heap.size := (Array.getElem?_eq_some_iff.1 hh).1
    have hcell : w.cell? ⟨b, 0 + pre.length, none⟩ = some cs[pre.length] := by simp [World.cell?, hh]
    have hfz : w.frozen? ⟨b, 0 + pre.length, none⟩ = false := by simp [World.frozen?, hh]
    have hst := run_store P w ⟨b, 0 + pre.length, none⟩ v .plain (h1 v List.mem_cons_self)
    rw [hcell] at hst
    simp only [hfz] at hst
    have hadd : Addr.add ⟨b, 0, none⟩ pre.length = ⟨b, 0 + pre.length, none⟩ := Addr.add_lit _ _ _
    simp only [storeCells, hadd, Sem.run_bind, hst, if_false, Bool.false_eq_true, Result.andThen_ok]
    rw [kQ hh]
    have ih := jA (w := { w with heap := w.heap.setIfInBounds b (.cells (cs.setIfInBounds (0 + pre.length) v) Tb (0, 0)) }) (b := b) (Tb := Tb) vs (pre ++ [v]) (cs.setIfInBounds (0 + pre.length) v)
      (by simp [hb]) (by simp at hs ⊢; omega) (by
        rw [Array.toList_setIfInBounds, List.length_append, List.length_singleton, Nat.zero_add]
        rw [List.take_succ_eq_append_getElem (by simpa using hlt)]
        simp [List.take_set_of_le, hp]) (fun u hu => h1 u (List.mem_cons_of_mem _ hu))
    rw [List.length_append, List.length_singleton] at ih
    rw [ih]
    simp
theorem bW {x y : Operand} {tg Tb : Nat} {l l' : List Ty} {ti : TI} (hx : A.op fr x = .ptr tg 0) (hc : A.tag tg = some (.cells Tb l)) (h1 : e8 tg) (hT : T.tab[ty']? = some ti) (hy : A.op fr y = .agg l') (hsz : ti.size = l'.length) (hlen : l.length = l'.length) (ho : l'.all Ty.one = true) (hdt : kJ (bL l') [tg] = true)
 (h : aV P fr ops rest (A.after { d := none, S := [tg], sets := [(tg, .cells Tb l')], rs := bR x ++ bR y, rt := [tg] }) fun A' l'' => K A' ((A, { d := none, S := [tg], sets := [(tg, .cells Tb l')], rs := bR x ++ bR y, rt := [tg] }) :: l'')) :
 aV P fr ops (⟨none, .store ty' x y, t, p, e, none⟩ :: rest) A K := by
 refine ⟨_, kf rfl rfl rfl (by simp) (by simpa using h1.1) (by simp) fun a w M wf hr ht => ?_, h⟩
 obtain ⟨hdx, hdy⟩ := op2 hr
 rw [hx] at hdx; rw [hy] at hdy
 obtain ⟨b, hb, ex⟩ := hdx
 obtain ⟨vs, ey, hvs⟩ := hdy
 obtain ⟨b', cs, hb', hh, hd⟩ := ht _ (cM hc) (by simp)
 obtain ⟨u, rfl⟩ : ∃ u, tg = u + 1 := ⟨tg - 1, by omega⟩
 have := wf.inj b b' u (by omega) hb hb'
 subst this
 have hl1 := bw hd
 have hl2 := bw hvs
 obtain ⟨h1', h2', h3'⟩ := jW (cs' := vs) (Tb := Tb) wf hb _ rfl
 have hones : ∀ v ∈ vs.toList, v.oneCell' = true := fun v hv => by
  obtain ⟨i, hi, hvi⟩ := List.getElem_of_mem hv
  have hlt : i < l'.length := by omega
  obtain ⟨u', hu', hdu⟩ := dF hvs i l'[i] (List.getElem?_eq_getElem hlt)
  rw [List.getElem?_eq_getElem hi, hvi] at hu'
  injection hu' with hu'
  subst hu'
  exact (l'[i]).isOne (List.all_eq_true.1 ho _ (List.getElem_mem hlt)) hdu
 refine ⟨_, ?_, M, h1', h2', trivial, ?_⟩
 ·have hst := jA (P := P) (w := w) (b := b) (Tb := Tb) vs.toList [] cs hh (by simp at hl1 hl2 ⊢; omega) (by simp) hones
  have hsz' : vs.size = ti.size := by simp at hl2; omega
  simp only [List.length_nil, List.nil_append] at hst
  simp [execOp, Instr.storeAt, Instr.sureAddr, ex, ey, storeVar, Value.cells, bz hT, hsz', hst]
 intro z hz
 simp only [List.mem_singleton] at hz
 subst hz
 exact ⟨b, vs, hb, h3', bV h2' (by intro _ _ h; cases h) (fK hdt) hvs⟩
end
section
variable {P : Program} {fr : Fr} {ops : Array Oper} {A : As} {rest : List Oper} {K : As → List (As × Fx) → Prop} {d : Nat} {t ty' : TypeId} {p : String} {e : Array Edge}
theorem az {x : Operand} {l : List Ty} (hx : A.op fr x = .agg l)
 (h : aV P fr ops rest (A.set d (.pp l)) fun A' l' => K A' ((A, { d := some d, ty := .pp l, rs := bR x }) :: l')) : aV P fr ops (⟨some d, .box ty' x, t, p, e, none⟩ :: rest) A K := by
 refine ⟨_, fH (f := { d := some d, ty := .pp l, rs := bR x }) rfl rfl (by simp) (by simp) (by simp) fun a w M wf hr _ => ?_, h⟩
 have hd := bk (x := x) (fun _ h => h) hr
 rw [hx] at hd
 obtain ⟨cs, ex, hds⟩ := hd
 obtain ⟨h1, h2, _⟩ := zi wf (.cells cs ty')
 refine ⟨.pointer (some ⟨w.heap.size, 0, none⟩), w.alloc (.cells cs ty'), ?_, M, h1, h2, ⟨_, 0, rfl, ?_⟩, by simp⟩
 ·simp [execOp, Instr.box, newVar, newRow, newObj, Sem.run, ex, Value.cells]
 exact Cr (T := ty') wf hds
theorem dy {x : Operand} {ty : Ty} (hx : A.op fr x = ty) (h1 : ty.one = true)
 (h : aV P fr ops rest (A.set d (.pp [ty])) fun A' l' => K A' ((A, { d := some d, ty := .pp [ty], rs := bR x }) :: l')) : aV P fr ops (⟨some d, .box ty' x, t, p, e, none⟩ :: rest) A K := by
 refine ⟨_, fH (f := { d := some d, ty := .pp [ty], rs := bR x }) rfl rfl (by simp) (by simp) (by simp) fun a w M wf hr _ => ?_, h⟩
 have hd := bk (x := x) (fun _ h => h) hr
 rw [hx] at hd
 have hone := ty.isOne h1 hd
 have hcells : (a.eval x).cells = #[a.eval x] := by
  cases hv : a.eval x <;> first | rfl | (rw [hv] at hone; simp [Value.oneCell'] at hone)
 obtain ⟨h1, h2, _⟩ := zi wf (.cells #[a.eval x] ty')
 refine ⟨.pointer (some ⟨w.heap.size, 0, none⟩), w.alloc (.cells #[a.eval x] ty'), ?_, M, h1, h2, ⟨_, 0, rfl, ?_⟩, by simp⟩
 ·simp [execOp, Instr.box, newVar, newRow, newObj, Sem.run, hcells]
 exact Cr (T := ty') (cs := [a.eval x]) wf ⟨hd, trivial⟩
theorem Je {x : Operand} {l : List Ty} (hx : A.op fr x = .agg l) (hp : fr.pass.contains (d + 1) = false) (hdp : kJ (bl l) [d + 1] = true) 
 (h : aV P fr ops rest (A.after { d := some d, ty := .ptr (d + 1) 0, K := [d + 1], sets := [(d + 1, .cells ty' l)], rs := bR x }) fun A' l' => K A' ((A, { d := some d, ty := .ptr (d + 1) 0, K := [d + 1], sets := [(d + 1, .cells ty' l)], rs := bR x }) :: l')) :
 aV P fr ops (⟨some d, .box ty' x, t, p, e, none⟩ :: rest) A K := by
 refine ⟨_, fH rfl rfl (by simp) (by simp) (by simp at hp ⊢; exact hp) fun a w M wf hr _ => ?_, h⟩
 have hd := bk (x := x) (fun _ h => h) hr
 rw [hx] at hd
 obtain ⟨cs, ex, hds⟩ := hd
 obtain ⟨h1, h2, h3⟩ := jS wf (.cells cs ty') (d + 1)
 refine ⟨.pointer (some ⟨w.heap.size, 0, none⟩), w.alloc (.cells cs ty'), ?_, _, h1, h2, ⟨_, h3, rfl⟩, ?_⟩
 ·simp [execOp, Instr.box, newVar, newRow, newObj, Sem.run, ex, Value.cells]
 intro x hx
 simp only [List.mem_singleton] at hx
 subst hx
 exact ⟨w.heap.size, cs, h3, fD _ _, bV h2 (fK hdp) (by intro _ _ h; cases h) hds⟩
theorem cx {f : FuncId} {xs : List Operand} {l : List Ty} (hx : jr A fr xs = l)
 (h : aV P fr ops rest (A.set d (.jh f l)) fun A' l' => K A' ((A, { d := some d, ty := .jh f l, rs := xs.flatMap bR }) :: l')) : aV P fr ops (⟨some d, .makeFunc (.func f) #[] xs.toArray, t, p, e, none⟩ :: rest) A K :=
 bB (bH rfl rfl fun a w M _ hr _ => by
  have hv : bt w M l (xs.map a.eval) := hx ▸ dw hr fun x hx c hc => List.mem_flatMap.2 ⟨x, hx, hc⟩
  exact ⟨.func (.func f) #[] (xs.map a.eval).toArray, by simp [execOp, Instr.makeFunc], _, rfl, by simpa using hv⟩) h
end
end Go.T
namespace Go.T
open Go Go.RowKit
def ew {α : Type} (E : El α) (T tg : Nat) (xs : List α) (w : World) (M : ah) (v : Value) : Prop :=
  ∃ cs, w.ownsRow 0 T E.size v xs.length cs ∧ bt w M (xs.flatMap E.tys) cs ∧ ∀ g, v.ownBlock = some g → M g = some tg
theorem C6 {w w' : World} {T size n : Nat} {v : Value} {cs : List Value} (h : w.ownsRow 0 T size v n cs) (hk : ∀ g, v.ownBlock = some g → w'.heap[g]? = w.heap[g]?) : w'.ownsRow 0 T size v n cs := by
 refine ⟨h.1, ?_⟩
 rcases h.2 with h | ⟨g, cap, cur, hv, h0, hh, rest⟩
 ·exact .inl h
 exact .inr ⟨g, cap, cur, hv, h0, (hk g (by rw [hv]; rfl)).trans hh, rest⟩
def Ty.row {α : Type} (E : El α) (T tg : Nat) (xs : List α) : Ty :=
  ⟨ew E T tg xs, [tg], [tg], fun le hk hs ⟨cs, h1, h2, h3⟩ =>
    ⟨cs, C6 h1 fun g hg => (le.own g tg (h3 g hg) (hk tg (by simp))).2 (hs tg (by simp)),
     bV le (by rw [E.cW]; intro _ h; cases h) (by rw [E.cC]; intro _ h; cases h) h2,
     fun g hg => (le.own g tg (h3 g hg) (hk tg (by simp))).1⟩, true, fun _ ⟨cs, h1, _⟩ => by
      rcases h1.2 with ⟨rfl, _⟩ | ⟨_, _, _, rfl, _⟩ <;> rfl⟩
theorem Ty.iP {α : Type} {E : El α} {T tg : Nat} : (Ty.ex (.slice none 0 0)).Sub (Ty.row E T tg []) := by
 intro w M v h
 have h : v = .slice none 0 0 := h
 subst h
 exact ⟨[], ⟨by simp, .inl ⟨rfl, rfl⟩⟩, trivial, fun g hg => by simp [Value.ownBlock] at hg⟩
theorem Ty.gy {α : Type} {E : El α} {T tg : Nat} {xs ys : List α} (h : xs = ys) : (Ty.row E T tg xs).Sub (Ty.row E T tg ys) := h ▸ Ty.aG _
theorem Ty.qp {α : Type} {E : El α} : (Ty.ex (.slice none 0 0)).Sub (Ty.sl E []) := by
 intro w M v h
 have h : v = .slice none 0 0 := h
 subst h
 exact ⟨none, 0, rfl, Nat.le_refl _, by simp [maxLen], fun h => absurd h (by simp)⟩
theorem kU {w : World} {M : ah} {l l' : List Ty} {vs vs' : List Value} (h : bt w M l vs) (h' : bt w M l' vs') : bt w M (l ++ l') (vs ++ vs') := dO h h'
theorem cg {α : Type} (E : El α) : ∀ xs : List α, (xs.flatMap E.tys).length = xs.length * E.size
  | [] => by simp
  | x :: xs => by rw [List.flatMap_cons, List.length_append, E.len, cg E xs, List.length_cons, Nat.succ_mul, Nat.add_comm]
theorem iO {α : Type} (E : El α) (xs : List α) : ∀ t ∈ xs.flatMap E.tys, t.one = true := by
 intro t ht
 simp only [List.mem_flatMap] at ht
 obtain ⟨x, _, hx⟩ := ht
 exact List.all_eq_true.1 (E.ones x) t hx
theorem lu {w : World} {M : ah} {l : List Ty} {vs : List Value} (h : bt w M l vs) (ho : ∀ t ∈ l, t.one = true) : ∀ v ∈ vs, v.oneCell' = true := by
 intro v hv
 obtain ⟨i, hi, rfl⟩ := List.getElem_of_mem hv
 have hl := bw h
 have hlt : i < l.length := by omega
 obtain ⟨u, hu, hd⟩ := dF h i l[i] (List.getElem?_eq_getElem hlt)
 rw [List.getElem?_eq_getElem hi] at hu
 injection hu with hu
 rw [hu]
 exact (l[i]).isOne (ho _ (List.getElem_mem hlt)) hd
section
variable {P : Program} {fr : Fr} {ops : Array Oper} {A : As} {rest : List Oper} {K : As → List (As × Fx) → Prop} {d : Nat} {t ty' : TypeId} {p : String} {e : Array Edge} [T : k5 P]
theorem yd {α : Type} {E : El α} {w : World} {M : ah} {st el tg : Nat} {ty : TypeId} {ti te : TI} {xs ys : List α} {v y : Value} (wf : Wf w M) (hT : T.tab[st]? = some ti) (hk : ti.k = .slice el) (hE : T.tab[el]? = some te) (hs : te.size = E.size) (hz : te.zero.length = te.size) (h0 : 0 < te.size)
    (hx : ew E el tg xs w M v) (hy : lG E ys w M y) (hlen : (xs.length + ys.length) * te.bytes ≤ 140737488355328) (hlen' : xs.length + ys.length ≤ 9223372036854775807) :
    ∃ v' w' M', (Builtin.append_ #[st, st] ty #[v, y]).run P w = .ok v' w' ∧ Wf w' M' ∧ Le (· ∈ ([] : List Nat)) (· ∈ [tg]) w M w' M' ∧ ew E el tg (xs ++ ys) w' M' v' := by
  obtain ⟨_, D, _, hD, hkd, _⟩ := cF hT
  rw [hk] at hkd
  cases D <;> simp only [TK.of, reduceCtorEq, TK.slice.injEq] at hkd
  subst hkd
  rename_i el
  obtain ⟨i, _, hi, _, _, hsz, hby, hze⟩ := cF hE
  obtain ⟨z, hiz, hzc⟩ : ∃ z, i.zero = some z ∧ z.cells.size = i.size := by
    cases hiz : i.zero with
    | none => rw [hiz] at hze; rw [← hze] at hz; simp at hz; omega
    | some z => rw [hiz] at hze; exact ⟨z, rfl, by simp at hze; rw [hsz, ← hz, ← hze]; simp⟩
  obtain ⟨cs, hown, hd, hM⟩ := hx
  obtain ⟨ad, c, rfl, hc1, hc2, hp⟩ := hy
  have hfin : ∀ v' w' (news : List Value), w'.ownsRow 0 el i.size v' (xs.length + ys.length) (cs ++ news) → w.grownBy w' v.ownBlock → (v'.ownBlock = v.ownBlock ∨ v'.ownBlock = some w.heap.size) → bt w M (ys.flatMap E.tys) news →
      ∃ M', Wf w' M' ∧ Le (· ∈ ([] : List Nat)) (· ∈ [tg]) w M w' M' ∧ ew E el tg (xs ++ ys) w' M' v' := by
    intro v' w' news h1 h2 h3 h4
    have hb : ∀ b, v'.ownBlock = some b → b < w'.heap.size := by
      intro b hb
      rcases h1.2 with ⟨rfl, _⟩ | ⟨g, cap, cur, rfl, _, hh, _⟩
      · simp [Value.ownBlock] at hb
      · simp [Value.ownBlock] at hb; subst hb; exact (Array.getElem?_eq_some_iff.1 hh).1
    have hle := yA (t := tg) (g := v'.ownBlock) h2.size h2.os h2.tape h2.output (fun b hb hlt => by
        rcases h3 with e | e
        · exact hM b (e ▸ hb)
        · rw [e] at hb; injection hb with hb; omega) (fun b hlt hne => h2.block b hlt (fun e => hne (hM b e.symm))) wf
    refine ⟨lF M tg v'.ownBlock, yM wf h2.size hb, hle, cs ++ news, by rw [List.length_append, ← hs, ← hsz]; exact h1, ?_, fun g hg => by simp [lF, hg]⟩
    rw [List.flatMap_append]
    exact kU (bV hle (by rw [E.cW]; intro _ h; cases h) (by rw [E.cC]; intro _ h; cases h) hd) (bV hle (by rw [E.cW]; intro _ h; cases h) (by rw [E.cC]; intro _ h; cases h) h4)
  have hown' : w.ownsRow 0 el i.size v xs.length cs := by rw [hsz, hs]; exact hown
  by_cases hys : ys = []
  · subst hys
    cases ad with
    | none =>
      have hrun : (Builtin.append_ #[st, st] ty #[v, .slice none 0 c]).run P w = .ok v w := by
        rcases hown.2 with ⟨rfl, _⟩ | ⟨g, cap, cur, rfl, _, _, hnc, _⟩
        · simp [Builtin.append_, run_underlying hD, sizeOf, typeInfo, hi, Builtin.lenOf, Builtin.firstCells]
        · simp [Builtin.append_, run_underlying hD, sizeOf, typeInfo, hi, Builtin.lenOf, Builtin.firstCells, hnc, storeCells]
      obtain ⟨M', h1, h2, h3⟩ := hfin v w [] (by simpa using hown') (World.grownBy.refl w _) (.inl rfl) trivial
      exact ⟨v, w, M', hrun, h1, h2, h3⟩
    | some a =>
      obtain ⟨v', w', hrun, h2, h3, _, h5⟩ := run_append_own_at (P := P) w 0 st ty el i z i.size i.bytes hD hi hiz rfl rfl hzc (by omega) v xs.length cs hown' a 0 c [] (by simp) (by simp) (by simp) (by simp only [maxLen]; simp at hlen'; omega) (by rw [hby]; simpa using hlen) (Nat.zero_le _)
      obtain ⟨M', h1', h2', h3'⟩ := hfin v' w' [] h2 h3 h5 trivial
      exact ⟨v', w', M', hrun, h1', h2', h3'⟩
  · have hpos : 0 < ys.length := List.length_pos_iff.2 hys
    obtain ⟨b, off, rfl, hp'⟩ := hp hpos
    obtain ⟨news, hn1, hn2, hn3⟩ := oI hp' _ (Nat.le_refl _)
    rw [List.take_length] at hn2
    obtain ⟨v', w', hrun, h2, h3, _, h5⟩ := run_append_own_at (P := P) w 0 st ty el i z i.size i.bytes hD hi hiz rfl rfl hzc (by omega) v xs.length cs hown' ⟨b, off, none⟩ ys.length c news (by rw [hn1, cg, hsz, hs])
      (fun j u hj => by rw [Addr.add_lit]; exact hn3 j u hj) (lu hn2 (iO E ys)) (by simp only [maxLen]; omega) (by rw [hby]; exact hlen) (Nat.zero_le _)
    obtain ⟨M', h1', h2', h3'⟩ := hfin v' w' news h2 h3 h5 hn2
    exact ⟨v', w', M', hrun, h1', h2', h3'⟩
theorem GM {α : Type} {E : El α} {x y : Operand} {st el tg : Nat} {ti te : TI} {xs ys : List α} (hx : (A.op fr x).Sub (.row E el tg xs)) (hy : A.op fr y = .sl E ys) (h1 : 1 ≤ tg) (hp : fr.pass.contains tg = false) (hT : T.tab[st]? = some ti) (hk : ti.k = .slice el) (hE : T.tab[el]? = some te) (hs : te.size = E.size) (hz : te.zero.length = te.size) (h0 : 0 < te.size)
 (hlen : (xs.length + ys.length) * te.bytes ≤ 140737488355328) (hlen' : xs.length + ys.length ≤ 9223372036854775807) :
 xe P fr ops ⟨some d, .call ⟨.builtin .append, #[x, y], #[st, st]⟩, t, p, e, none⟩ A { d := some d, ty := .row E el tg (xs ++ ys), K := [tg], rs := bR x ++ bR y } := by
 refine fH rfl rfl (by simp) (by simp) (by simp at hp ⊢; exact ⟨h1, hp⟩) fun a w M wf hr _ => ?_
 obtain ⟨hdx, hdy⟩ := op2 hr
 rw [hy] at hdy
 obtain ⟨v', w', M', hrun, h1', h2', h3'⟩ := yd (P := P) (ty := t) wf hT hk hE hs hz h0 (hx _ _ _ hdx) hdy hlen hlen'
 exact ⟨v', w', by simp [execOp, resolve, invoke, builtin, hrun], M', h1', h2', h3', by simp⟩
theorem dz {α : Type} {E : El α} {x y : Operand} {st el tg : Nat} {ti te : TI} {xs ys : List α} (hx : A.op fr x = .row E el tg xs) (hy : A.op fr y = .sl E ys) (h1 : 1 ≤ tg) (hp : fr.pass.contains tg = false) (hT : T.tab[st]? = some ti) (hk : ti.k = .slice el) (hE : T.tab[el]? = some te) (hs : te.size = E.size) (hz : te.zero.length = te.size) (h0 : 0 < te.size)
 (hlen : (xs.length + ys.length) * te.bytes ≤ 140737488355328) (hlen' : xs.length + ys.length ≤ 9223372036854775807)
 (h : aV P fr ops rest (A.after { d := some d, ty := .row E el tg (xs ++ ys), K := [tg], rs := bR x ++ bR y }) fun A' l' => K A' ((A, { d := some d, ty := .row E el tg (xs ++ ys), K := [tg], rs := bR x ++ bR y }) :: l')) :
 aV P fr ops (⟨some d, .call ⟨.builtin .append, #[x, y], #[st, st]⟩, t, p, e, none⟩ :: rest) A K :=
 ⟨_, GM (hx ▸ Ty.aG _) hy h1 hp hT hk hE hs hz h0 hlen hlen', h⟩
theorem Ni {α : Type} {E : El α} {xs : List α} {w : World} {M : ah} {ad : Option Addr} {c lo hi : Nat} (hc : xs.length ≤ c) (hc2 : c ≤ maxLen) (hp : 0 < xs.length → ∃ b off, ad = some ⟨b, off, none⟩ ∧ nH w M b off (xs.flatMap E.tys)) (h1 : lo ≤ hi) (h2 : hi ≤ xs.length) :
 lG E ((xs.take hi).drop lo) w M (.slice (if c = lo then ad else ad.map (·.add (lo * E.size))) (hi - lo) (c - lo)) := by
 have hl : ((xs.take hi).drop lo).length = hi - lo := by rw [List.length_drop, List.length_take, Nat.min_eq_left h2]
 refine ⟨_, c - lo, by rw [hl], by rw [hl]; omega, Nat.le_trans (Nat.sub_le _ _) hc2, fun hpos => ?_⟩
 have hlt : lo < hi := by rw [hl] at hpos; omega
 obtain ⟨b, off, rfl, hp'⟩ := hp (by omega)
 refine ⟨b, off + lo * E.size, by rw [if_neg (by omega)]; exact congrArg some (Addr.add_lit _ _ _), ?_⟩
 have h3 := zX ((hi - lo) * E.size) (y5 (lo * E.size) hp')
 have e : ((xs.take hi).drop lo).flatMap E.tys = ((xs.flatMap E.tys).drop (lo * E.size)).take ((hi - lo) * E.size) := by
  have e1 : xs.flatMap E.tys = (xs.take lo).flatMap E.tys ++ (((xs.take hi).drop lo).flatMap E.tys ++ (xs.drop hi).flatMap E.tys) := by
   rw [← List.flatMap_append, ← List.flatMap_append]
   congr 1
   have : xs.take lo = (xs.take hi).take lo := by rw [List.take_take, Nat.min_eq_left h1]
   rw [this, ← List.append_assoc, List.take_append_drop, List.take_append_drop]
  have L1 : ((xs.take lo).flatMap E.tys).length = lo * E.size := by rw [cg, List.length_take, Nat.min_eq_left (by omega)]
  have L2 : (((xs.take hi).drop lo).flatMap E.tys).length = (hi - lo) * E.size := by rw [cg, hl]
  rw [e1, List.drop_left' L1, List.take_left' L2]
 rw [e]; exact h3
end
end Go.T
namespace Go.T
open Go Go.RowKit
def iY {α : Type} (E : El α) (xs : List α) (w : World) (M : ah) (v : Value) : Prop := ∃ cs : Array Value, v = .agg cs ∧ bt w M (xs.flatMap E.tys) cs.toList
def Ty.arr {α : Type} (E : El α) (xs : List α) : Ty :=
  { den := iY E xs, mono := fun le _ _ ⟨cs, e, h⟩ => ⟨cs, e, bV le (by rw [E.cW]; intro _ h; cases h) (by rw [E.cC]; intro _ h; cases h) h⟩ }
section
variable {P : Program} {fr : Fr} {ops : Array Oper} {A : As} {rest : List Oper} {K : As → List (As × Fx) → Prop} {d : Nat} {t ty' : TypeId} {p : String} {e : Array Edge} [T : k5 P]
theorem NJ {α : Type} {E : El α} {w : World} {M : ah} {st el : Nat} {ti te : TI} {xs : List α} {v : Value} (hT : T.tab[st]? = some ti) (hk : ti.k = .slice el) (hE : T.tab[el]? = some te) (hs : te.size = E.size) (hx : lG E xs w M v)
 {lo hi : Nat} {ol oh : Option Value} (hlo : (ol = none ∧ lo = 0) ∨ ∃ k : IntKind, ol = some (.int k lo)) (hhi : (oh = none ∧ hi = xs.length) ∨ ∃ k : IntKind, oh = some (.int k hi)) (h1 : lo ≤ hi) (h2 : hi ≤ xs.length) :
 ∃ v', (Instr.sliceAt st v ol oh none).run P w = .ok v' w ∧ lG E ((xs.take hi).drop lo) w M v' := by
 obtain ⟨_, D, _, hD, hkd, _⟩ := cF hT
 rw [hk] at hkd
 cases D <;> simp only [TK.of, reduceCtorEq, TK.slice.injEq] at hkd
 subst hkd
 obtain ⟨ad, c, rfl, hc, hc2, hp⟩ := hx
 have hsz := fun w => bz (P := P) hE w
 refine ⟨_, ?_, Ni hc hc2 hp h1 h2⟩
 have hic : hi ≤ c := by omega
 rcases hlo with ⟨rfl, rfl⟩ | ⟨k, rfl⟩ <;> rcases hhi with ⟨rfl, rfl⟩ | ⟨k', rfl⟩ <;>
  simp [Instr.sliceAt, Instr.slice, run_underlying hD, Instr.sliceBounds, Instr.sliceBound, asIntOf, hsz, hs, hic, h1]
theorem qF {α : Type} {E : El α} {x y : Operand} {k : IntKind} {el : Nat} {ti te : TI} {xs : List α} {hi : Nat} (hx : A.op fr x = .sl E xs) (hy : A.op fr y = .int k hi) (hT : T.tab[ty']? = some ti) (hk : ti.k = .slice el) (hE : T.tab[el]? = some te) (hs : te.size = E.size) (h2 : hi ≤ xs.length)
 (h : aV P fr ops rest (A.set d (.sl E (xs.take hi))) fun A' l' => K A' ((A, { d := some d, ty := .sl E (xs.take hi), rs := bR x ++ bR y }) :: l')) : aV P fr ops (⟨some d, .slice ty' x none (some y) none, t, p, e, none⟩ :: rest) A K :=
 bB (bH rfl rfl fun a w M _ hr _ => by
  obtain ⟨hdx, hdy⟩ := op2 hr
  rw [hx] at hdx; rw [hy] at hdy
  have ey : a.eval y = .int k hi := hdy
  obtain ⟨v', h3, h4⟩ := NJ (P := P) hT hk hE hs hdx (lo := 0) (hi := hi) (ol := none) (oh := some (.int k hi)) (.inl ⟨rfl, rfl⟩) (.inr ⟨k, rfl⟩) (Nat.zero_le _) h2
  exact ⟨v', by simp [execOp, ey, h3], (show lG E _ w M v' by simpa using h4)⟩) h
theorem uy {x : Operand} {f : Nat} {l : List Ty} {ti tf : TI} {fs : List (Nat × Nat)} {o ft : Nat} {ty : Ty} (hx : A.op fr x = .agg l) (hT : T.tab[ty']? = some ti) (hk : ti.k = .struct fs) (hf : fs[f]? = some (o, ft)) (hF : T.tab[ft]? = some tf) (ha : tf.k.agg = false) (hl : l[o]? = some ty)
 (h : aV P fr ops rest (A.set d ty) fun A' l' => K A' ((A, { d := some d, ty := ty, rs := bR x }) :: l')) : aV P fr ops (⟨some d, .field ty' x f, t, p, e, none⟩ :: rest) A K :=
 bB (bH rfl rfl fun a w M _ hr _ => by
  have hdx := bk (x := x) (fun _ h => h) hr
  rw [hx] at hdx
  obtain ⟨cs, ex, hd⟩ := hdx
  obtain ⟨v, hv, hdv⟩ := dF hd o ty hl
  obtain ⟨i, D, _, hD, hkd, _⟩ := cF hT
  rw [hk] at hkd
  cases D <;> simp only [TK.of, reduceCtorEq, TK.struct.injEq] at hkd
  rename_i fields
  subst hkd
  simp only [List.getElem?_map, Option.map_eq_some_iff, Prod.mk.injEq] at hf
  obtain ⟨g, hg, ho, hft⟩ := hf
  subst ho; subst hft
  have hg' : fields[f]? = some g := by simpa using hg
  have hv' : cs[g.offset]? = some v := by simpa using hv
  exact ⟨v, by simp [execOp, Instr.field, ex, run_underlying hD, hg', asAgg, part, mM hF, ha, hv'], hdv⟩) h
theorem KH {x : Operand} {f : Nat} {l : List Ty} {ti tf : TI} {fs : List (Nat × Nat)} {o ft : Nat} (hx : A.op fr x = .agg l) (hT : T.tab[ty']? = some ti) (hk : ti.k = .struct fs) (hf : fs[f]? = some (o, ft)) (hF : T.tab[ft]? = some tf) (ha : tf.k.agg = true)
 (h : aV P fr ops rest (A.set d (.agg ((l.drop o).take tf.size))) fun A' l' => K A' ((A, { d := some d, ty := .agg ((l.drop o).take tf.size), rs := bR x }) :: l')) : aV P fr ops (⟨some d, .field ty' x f, t, p, e, none⟩ :: rest) A K :=
 bB (bH rfl rfl fun a w M _ hr _ => by
  have hdx := bk (x := x) (fun _ h => h) hr
  rw [hx] at hdx
  obtain ⟨cs, ex, hd⟩ := hdx
  obtain ⟨i, D, _, hD, hkd, _⟩ := cF hT
  rw [hk] at hkd
  cases D <;> simp only [TK.of, reduceCtorEq, TK.struct.injEq] at hkd
  rename_i fields
  subst hkd
  simp only [List.getElem?_map, Option.map_eq_some_iff, Prod.mk.injEq] at hf
  obtain ⟨g, hg, ho, hft⟩ := hf
  subst ho; subst hft
  have hg' : fields[f]? = some g := by simpa using hg
  refine ⟨.agg (cs.extract g.offset (g.offset + tf.size)), by simp [execOp, Instr.field, ex, run_underlying hD, hg', asAgg, part, mM hF, ha, bz hF], _, rfl, ?_⟩
  have := ju tf.size (iN g.offset hd)
  rw [Array.toList_extract, List.extract_eq_take_drop]
  simpa using this) h
inductive aT (A : As) (fr : Fr) : List (Nat × Operand) → List (Nat × List Ty) → Prop
  | nil : aT A fr [] []
  | one {i : Nat} {x : Operand} {ty : Ty} {l : List (Nat × Operand)} {r : List (Nat × List Ty)} (hx : A.op fr x = ty) (h1 : ty.one = true) (h : aT A fr l r) : aT A fr ((i, x) :: l) ((i, [ty]) :: r)
  | sub {i : Nat} {x : Operand} {ta : Ty} {tys : List Ty} {l : List (Nat × Operand)} {r : List (Nat × List Ty)} (hx : A.op fr x = ta) (hs : ∀ w M v, ta.den w M v → (Ty.agg tys).den w M v) (h : aT A fr l r) : aT A fr ((i, x) :: l) ((i, tys) :: r)
theorem aT.agg {A : As} {fr : Fr} {i : Nat} {x : Operand} {tys : List Ty} {l : List (Nat × Operand)} {r : List (Nat × List Ty)} (hx : A.op fr x = .agg tys) (h : aT A fr l r) : aT A fr ((i, x) :: l) ((i, tys) :: r) := .sub hx (fun _ _ _ h => h) h
theorem aT.arr {A : As} {fr : Fr} {i : Nat} {x : Operand} {α : Type} {E : El α} {xs : List α} {l : List (Nat × Operand)} {r : List (Nat × List Ty)} (hx : A.op fr x = .arr E xs) (h : aT A fr l r) : aT A fr ((i, x) :: l) ((i, xs.flatMap E.tys) :: r) := .sub hx (fun _ _ _ h => h) h
def splice (cells : List Ty) (off : Nat) (l : List Ty) : List Ty := cells.take off ++ (l ++ cells.drop (off + l.length))
def qj (place : Nat → Option (Nat × Nat)) (cells : List Ty) : List (Nat × List Ty) → Option (List Ty)
  | [] => some cells
  | (i, l) :: rest =>
    match place i with
    | none => none
    | some (off, size) => bif (Nat.beq l.length size && Nat.ble (off + l.length) cells.length) then qj place (splice cells off l) rest else none
theorem B1 (cs : Array Value) (off : Nat) : ∀ (vs : List Value) (j : Nat), off + j + vs.length ≤ cs.size →
    ((vs.zipIdx j).foldl (fun cs (x : Value × Nat) => cs.setIfInBounds (off + x.2) x.1) cs).toList = cs.toList.take (off + j) ++ (vs ++ cs.toList.drop (off + j + vs.length)) := by
  intro vs
  induction vs generalizing cs with
  | nil => intro j _; simp
  | cons v vs ih =>
    intro j h
    simp only [List.zipIdx_cons, List.foldl_cons]
    rw [ih (cs.setIfInBounds (off + j) v) (j + 1) (by simp at h ⊢; omega)]
    have hlt : off + j < cs.toList.length := by simp at h ⊢; omega
    rw [Array.toList_setIfInBounds, ← Nat.add_assoc, List.take_succ_eq_append_getElem (by simpa using hlt), List.take_set_of_le (Nat.le_refl _), List.getElem_set_self, List.drop_set_of_lt (by omega)]
    simp [Nat.add_assoc, Nat.add_comm 1]
theorem wX {w : World} {M : ah} {cells l : List Ty} {cs : List Value} {vs : List Value} {off : Nat} (h : bt w M cells cs) (hv : bt w M l vs) : bt w M (splice cells off l) (cs.take off ++ (vs ++ cs.drop (off + vs.length))) := by
 rw [bw hv]
 exact dO (ju off h) (dO hv (iN _ h))
theorem v8 {a : Act} {w : World} {M : ah} {rs : List Nat} (hr : ∀ c ∈ rs, c < fr.n → (A.slots c).den w M (a.tmps.getD c undef)) {place : Nat → Option (Nat × Nat)} {parts : List (Nat × Operand)} {ls : List (Nat × List Ty)} (hp : aT A fr parts ls) :
    ∀ {cells out : List Ty} {cs : Array Value}, (∀ x ∈ parts, ∀ c ∈ bR x.2, c ∈ rs) → bt w M cells cs.toList → qj place cells ls = some out →
      ∃ cs', Instr.fill place cs (parts.map fun x => (x.1, a.eval x.2)) = some cs' ∧ bt w M out cs'.toList := by
  induction hp with
  | nil => intro cells out cs _ h hf; simp only [qj, Option.some.injEq] at hf; subst hf; exact ⟨cs, rfl, h⟩
  | @one i x ty l r hx h1 _ ih =>
    intro cells out cs hrs h hf
    have hd := bk (x := x) (hrs _ List.mem_cons_self) hr
    rw [hx] at hd
    have hone := ty.isOne h1 hd
    have hcells : (a.eval x).cells = #[a.eval x] := by
      cases hv : a.eval x <;> first | rfl | (rw [hv] at hone; simp [Value.oneCell'] at hone)
    simp only [qj] at hf
    cases hpl : place i with
    | none => rw [hpl] at hf; cases hf
    | some os =>
      obtain ⟨off, size⟩ := os
      rw [hpl] at hf
      simp only [List.length_cons, List.length_nil, cond_eq_ite, Bool.and_eq_true, Nat.beq_eq_true_eq, Nat.ble_eq] at hf
      split at hf
      · rename_i hc
        have hlen := bw h
        have hs := wX (off := off) h (show bt w M [ty] [a.eval x] from ⟨hd, trivial⟩)
        have hfold := B1 cs off [a.eval x] 0 (by simp at hlen ⊢; omega)
        obtain ⟨cs', h1', h2'⟩ := ih (cs := cs.setIfInBounds off (a.eval x)) (fun y hy => hrs y (List.mem_cons_of_mem _ hy)) (by rw [show (cs.setIfInBounds off (a.eval x)).toList = _ from hfold]; simpa using hs) hf
        refine ⟨cs', ?_, h2'⟩
        have hsz : 1 = size := by have := Nat.eq_of_beq_eq_true hc.1; simpa using this
        have hle : ¬ (off + 1 > cs.size) := by simp at hlen; omega
        simp only [List.map_cons, Instr.fill, hpl, hcells]
        simp [← hsz, hle, h1']
      · cases hf
  | @sub i x ta tys l r hx hsub _ ih =>
    intro cells out cs hrs h hf
    have hd := bk (x := x) (hrs _ List.mem_cons_self) hr
    rw [hx] at hd
    obtain ⟨vs, ev, hvs⟩ := hsub _ _ _ hd
    simp only [qj] at hf
    cases hpl : place i with
    | none => rw [hpl] at hf; cases hf
    | some os =>
      obtain ⟨off, size⟩ := os
      rw [hpl] at hf
      simp only [cond_eq_ite, Bool.and_eq_true, Nat.beq_eq_true_eq, Nat.ble_eq] at hf
      split at hf
      · rename_i hc
        have hlen := bw h
        have hlv := bw hvs
        have hs := wX (off := off) h hvs
        have hfold := B1 cs off vs.toList 0 (by simp at hlen hlv ⊢; omega)
        obtain ⟨cs', h1', h2'⟩ := ih (cs := (vs.toList.zipIdx.foldl (fun cs (x : Value × Nat) => cs.setIfInBounds (off + x.2) x.1) cs)) (fun y hy => hrs y (List.mem_cons_of_mem _ hy)) (by rw [hfold]; simpa using hs) hf
        refine ⟨cs', ?_, h2'⟩
        have hsz : vs.size = size := by have := Nat.eq_of_beq_eq_true hc.1; simp at hlv; omega
        have hle : ¬ (off + vs.size > cs.size) := by simp at hlen hlv; omega
        simp only [List.map_cons, Instr.fill, hpl, ev]
        have hv2 : (Value.agg vs).cells = vs := rfl
        simp only [hv2]
        have hfold' : Array.foldl (fun cs (x : Value × Nat) => cs.setIfInBounds (off + x.2) x.1) cs vs.zipIdx = vs.toList.zipIdx.foldl (fun cs (x : Value × Nat) => cs.setIfInBounds (off + x.2) x.1) cs := by
          rw [← Array.foldl_toList, Array.toList_zipIdx]
        rw [← h1', ← hfold']
        simp [hsz]
        omega
      · cases hf
end
end Go.T
namespace Go.T
open Go Go.RowKit
def placesOf (tab : List TI) (fs : List (Nat × Nat)) (i : Nat) : Option (Nat × Nat) :=
  match fs[i]? with
  | some (o, ft) => match tab[ft]? with
    | some tf => some (o, tf.size)
    | none => none
  | none => none
section
variable {P : Program} {fr : Fr} {ops : Array Oper} {A : As} {rest : List Oper} {K : As → List (As × Fx) → Prop} {d : Nat} {t ty' : TypeId} {p : String} {e : Array Edge} [T : k5 P]
def tj (f : Field) : Sem (Nat × Nat) := do pure (f.offset, ← sizeOf f.type)
theorem Cp {f : Field} {tf : TI} (h : T.tab[f.type]? = some tf) (w : World) : (tj f).run P w = .ok (f.offset, tf.size) w := by simp [tj, bz h]
theorem pW {w : World} : ∀ (fs : List Field), (∀ f ∈ fs, ∃ tf, T.tab[f.type]? = some tf) →
    ∃ r, (fs.mapM tj).run P w = .ok r w ∧ ∀ i : Nat, r[i]? = placesOf T.tab (fs.map fun f => (f.offset, f.type)) i
  | [], _ => ⟨[], by simp, fun i => by simp [placesOf]⟩
  | f :: fs, h => by
    obtain ⟨tf, htf⟩ := h f List.mem_cons_self
    obtain ⟨r, hr, hi⟩ := pW (w := w) fs fun g hg => h g (List.mem_cons_of_mem _ hg)
    refine ⟨(f.offset, tf.size) :: r, by simp [Cp htf, hr], fun i => ?_⟩
    cases i with
    | zero => simp [placesOf, htf]
    | succ i => simpa [placesOf] using hi i
theorem c6 {parts : Array (Nat × Operand)} {ti : TI} {fs : List (Nat × Nat)} {ls : List (Nat × List Ty)} {out : List Ty} (hT : T.tab[ty']? = some ti) (hk : ti.k = .struct fs) (hz : ti.zero ≠ []) (hfs : (fs.all fun f => (T.tab[f.2]?).isSome) = true) (hp : aT A fr parts.toList ls) (hf : qj (placesOf T.tab fs) (ti.zero.map Ty.m9) ls = some out)
 (h : aV P fr ops rest (A.set d (.agg out)) fun A' l' => K A' ((A, { d := some d, ty := .agg out, rs := parts.toList.flatMap fun x => bR x.2 }) :: l')) : aV P fr ops (⟨some d, .build ty' parts, t, p, e, none⟩ :: rest) A K :=
 bB (bH rfl rfl fun a w M _ hr _ => by
  obtain ⟨z, hz1, hz2⟩ := qi hT hz w
  obtain ⟨i, D, _, hD, hkd, _⟩ := cF hT
  rw [hk] at hkd
  cases D <;> simp only [TK.of, reduceCtorEq, TK.struct.injEq] at hkd
  rename_i fields
  subst hkd
  obtain ⟨r, hr1, hr2⟩ := pW (P := P) (w := w) fields.toList fun f hf => by
   simp only [List.all_eq_true] at hfs
   have := hfs (f.offset, f.type) (List.mem_map.2 ⟨f, hf, rfl⟩)
   exact Option.isSome_iff_exists.1 this
  obtain ⟨cs', h1, h2⟩ := v8 hr hp (place := placesOf T.tab (fields.toList.map fun f => (f.offset, f.type))) (cs := z.cells) (fun x hx c hc => List.mem_flatMap.2 ⟨x, hx, hc⟩) (by rw [hz2]; exact nR _ _ _) hf
  refine ⟨.agg cs', ?_, cs', rfl, h2⟩
  have hm0 : (fields.mapM tj).run P w = .ok r.toArray w := by
   rw [Array.mapM_eq_mapM_toList]
   simp [hr1]
  have hm : (fields.mapM (fun f => do pure (f.offset, ← sizeOf f.type) : Field → Sem (Nat × Nat))).run P w = .ok r.toArray w := hm0
  have hfun : (fun i : Nat => r.toArray[i]?) = placesOf T.tab (fields.toList.map fun f => (f.offset, f.type)) := funext fun i => by simpa using hr2 i
  have hparts : (parts.map fun x => (x.1, a.eval x.2)).toList = parts.toList.map fun x => (x.1, a.eval x.2) := by simp
  simp only [execOp, Instr.build, Sem.run_bind, hz1, Result.andThen_ok, run_underlying hD]
  simp only [hm, Result.andThen_ok, hfun, hparts, h1]
  simp) h
theorem bY {α : Type} {E : El α} {xs : List α} {len el : Nat} {parts : Array (Nat × Operand)} {ti te : TI} {ls : List (Nat × List Ty)} (hT : T.tab[ty']? = some ti) (hk : ti.k = .slice el) (hE : T.tab[el]? = some te) (hs : te.size = E.size) (hz : te.zero.length = te.size) (h0 : 0 < te.size) (hle : len * te.size ≤ 16777216) (hp : aT A fr parts.toList ls)
 (hf : qj (fun i => some (i * te.size, te.size)) ((List.range (len * te.size)).map fun j => Ty.m9 (te.zero.getD (j % te.size) undef)) ls = some (xs.flatMap E.tys)) (hx : xs.length = len)
 (h : aV P fr ops rest (A.set d (.sl E xs)) fun A' l' => K A' ((A, { d := some d, ty := .sl E xs, rs := parts.toList.flatMap fun x => bR x.2 }) :: l')) : aV P fr ops (⟨some d, .buildSlice ty' len parts, t, p, e, none⟩ :: rest) A K := by
 refine ⟨_, fH (f := { d := some d, ty := .sl E xs, rs := parts.toList.flatMap fun x => bR x.2 }) rfl rfl (by simp) (by simp) (by simp) fun a w M wf hr _ => ?_, h⟩
 obtain ⟨z, hz1, hz2⟩ := qi hE (by intro hn; rw [hn] at hz; simp at hz; omega) w
 obtain ⟨_, D, _, hD, hkd, _⟩ := cF hT
 rw [hk] at hkd
 cases D <;> simp only [TK.of, reduceCtorEq, TK.slice.injEq] at hkd
 rename_i el0
 have hel : el0 = el := hkd
 subst hel
 have hzs : z.cells.size = te.size := by rw [← hz, ← hz2]; simp
 let zs : Array Value := if len * te.size = 0 then #[] else z.cells
 have hcells : bt w M ((List.range (len * te.size)).map fun j => Ty.m9 (te.zero.getD (j % te.size) undef)) ((Array.range (len * te.size)).map (zs[· % zs.size]!)).toList := by
  refine g9 (by simp) fun i u hi => ?_
  rw [List.getElem?_map] at hi
  simp only [Option.map_eq_some_iff] at hi
  obtain ⟨j, hj, rfl⟩ := hi
  have hlt : i < len * te.size := by have := (List.getElem?_eq_some_iff.1 hj).1; simpa using this
  rw [List.getElem?_range hlt] at hj
  injection hj with hj
  subst hj
  have hne : ¬ len * te.size = 0 := by omega
  refine ⟨te.zero.getD (i % te.size) undef, ?_, n5 _ _ _⟩
  have hm : i % te.size < z.cells.size := by rw [hzs]; exact Nat.mod_lt _ h0
  have e1 : zs[i % zs.size]! = te.zero.getD (i % te.size) undef := by
   simp only [zs, if_neg hne, hzs]
   rw [getElem!_pos z.cells _ hm, ← hz2, List.getD_eq_getElem?_getD, List.getElem?_eq_getElem (by simpa using hm)]
   simp
  simp [List.getElem?_range hlt, e1]
 obtain ⟨cs', h1, h2⟩ := v8 hr hp (place := fun i => some (i * te.size, te.size)) (cs := (Array.range (len * te.size)).map (zs[· % zs.size]!)) (fun x hx c hc => List.mem_flatMap.2 ⟨x, hx, hc⟩) hcells hf
 have hparts : (parts.map fun x => (x.1, a.eval x.2)).toList = parts.toList.map fun x => (x.1, a.eval x.2) := by simp
 obtain ⟨h3, h4, _⟩ := zi wf (.cells cs' el0)
 refine ⟨.slice (some ⟨w.heap.size, 0, none⟩) len len, w.alloc (.cells cs' el0), ?_, M, h3, h4, ⟨some ⟨w.heap.size, 0, none⟩, len, by rw [hx], by omega, ?_, fun _ => ⟨_, 0, rfl, ?_⟩⟩, by simp⟩
 ·have hbig : ¬ (len * te.size > 2 ^ 24) := by omega
  have hbig' : ¬ (2 ^ 24 < len * te.size) := by omega
  simp only [execOp, Instr.buildSlice, Sem.run_bind, run_underlying hD, Result.andThen_ok, bz hE]
  simp only [hbig', gt_iff_lt, if_false]
  by_cases hn : len * te.size = 0
  ·have : zs = #[] := if_pos hn
   rw [this] at h1
   simp only [hn, if_true, Sem.run_pure, Sem.run_bind, Result.andThen_ok]
   rw [hn] at h1
   simp only [hparts, h1]
   simp [newRow, newObj, Sem.run]
  have : zs = z.cells := if_neg hn
  rw [this] at h1
  simp only [if_neg hn, Sem.run_pure, Sem.run_bind, Result.andThen_ok, hz1]
  simp only [hparts, h1]
  simp [newRow, newObj, Sem.run]
 ·have : len ≤ len * te.size := Nat.le_mul_of_pos_right _ h0
  simp only [maxLen]; omega
 have := Cr (T := el0) (cs := cs'.toList) wf h2
 simpa using this
def Ty.Plain (t : Ty) : Prop := ∀ w M w' M' v, t.den w M v → t.den w' M' v
theorem BK (k : IntKind) (n : Int) : (Ty.int k n).Plain := fun _ _ _ _ _ h => h
theorem yj (b : Bool) : (Ty.bool b).Plain := fun _ _ _ _ _ h => h
theorem sy : ∀ {l : List Ty}, (∀ t ∈ l, t.Plain) → ∀ {w M w' M' vs}, bt w M l vs → bt w' M' l vs
  | [], _, _, _, _, _, [], _ => trivial
  | _ :: _, h, _, _, _, _, _ :: _, ⟨h1, h2⟩ => ⟨h _ List.mem_cons_self _ _ _ _ _ h1, sy (fun t ht => h t (List.mem_cons_of_mem _ ht)) h2⟩
theorem Ie {l : List Ty} (h : ∀ t ∈ l, t.Plain) : (Ty.jk l).Plain := fun _ _ _ _ _ ⟨cs, e, hd⟩ => ⟨cs, e, sy h hd⟩
theorem BL : ∀ t ∈ ([] : List Ty), t.Plain := by intro _ h; cases h
theorem og {t : Ty} {l : List Ty} (h : t.Plain) (h' : ∀ t ∈ l, t.Plain) : ∀ u ∈ t :: l, u.Plain := by
 intro u hu
 rcases List.mem_cons.1 hu with rfl | hu
 ·exact h
 exact h' u hu
def lM (M : ah) (L : List Nat) : ah := fun b => match M b with | none => none | some t => if t ∈ L then none else some 0
def JN (L : List Nat) (s t : Ty) : Prop := ∀ w M v, Wf w M → s.den w M v → t.den w (lM M L) v
theorem vL {M : ah} {L : List Nat} {b : Nat} (h : M b = none) : lM M L b = none := by simp [lM, h]
theorem Hg {M : ah} {L : List Nat} {b t : Nat} (h : M b = some t) (ht : t ∈ L) : lM M L b = none := by simp [lM, h, ht]
theorem jy {M : ah} {L : List Nat} (b t : Nat) (h : lM M L b = some t) : t = 0 := by
 unfold lM at h
 split at h
 ·cases h
 split at h
 ·cases h
 injection h with h; exact h.symm
theorem Jf {M : ah} {L : List Nat} {b t : Nat} (h : lM M L b = some t) : ∃ u, M b = some u := by
 unfold lM at h
 split at h
 ·cases h
 rename_i u hu; exact ⟨u, hu⟩
theorem xm {w : World} {M : ah} {L : List Nat} (wf : Wf w M) : Wf w (lM M L) :=
 ⟨fun b t h => let ⟨u, hu⟩ := Jf h; wf.lt b u hu, fun b b' t _ h _ => by have := jy _ _ h; omega⟩
theorem nr {L : List Nat} {t : Ty} (h1 : t.deps = []) (h2 : t.cdeps = []) : JN L t t := fun w M v _ h =>
 t.mono (S := fun _ => True) (K := fun _ => True) ⟨Nat.le_refl _, rfl, rfl, rfl, fun b _ hm => ⟨vL hm, rfl⟩, fun b t _ h => absurd trivial h⟩ (by rw [h1]; intro _ h; cases h) (by rw [h2]; intro _ h; cases h) h
theorem yK {α : Type} {E : El α} {T tg : Nat} {xs : List α} {w : World} {M M' : ah} {v : Value} (wf : Wf w M) (h : ew E T tg xs w M v) (hM : ∀ b, M b = some tg → M' b = none) (hle : ∀ b, M b = none → M' b = none) : lG E xs w M' v := by
 obtain ⟨cs, h1, h2, h3⟩ := h
 rcases h1.2 with ⟨rfl, h0⟩ | ⟨g, cap, cur, rfl, _, hh, hn, hcap, hcs, htk⟩
 ·exact ⟨none, 0, by rw [h0], by omega, by simp [maxLen], fun h => absurd h (by omega)⟩
 have hg : M g = some tg := h3 g rfl
 refine ⟨some ⟨g, 0, none⟩, cap, rfl, hn, hcap, fun _ => ⟨g, 0, rfl, hM g hg, wf.lt g _ hg, fun i t hi => ?_⟩⟩
 have h2' := bV (S := fun _ => True) (K := fun _ => True) (w' := w) (M' := M') ⟨Nat.le_refl _, rfl, rfl, rfl, fun b _ hm => ⟨hle b hm, rfl⟩, fun b t _ h => absurd trivial h⟩ (by rw [E.cW]; intro _ h; cases h) (by rw [E.cC]; intro _ h; cases h) h2
 obtain ⟨u, hu, hd⟩ := dF h2' i t hi
 refine ⟨u, ?_, hd⟩
 rw [← htk, List.getElem?_take] at hu
 split at hu
 ·simpa [World.cell?, hh] using hu
 cases hu
theorem zL {L : List Nat} {α : Type} {E : El α} {T tg : Nat} {xs : List α} (h : L.contains tg = true) : JN L (Ty.row E T tg xs) (Ty.sl E xs) := fun w M v wf hr =>
 yK wf hr (fun b hb => Hg hb (by simpa using h)) (fun b hb => vL hb)
theorem Du {L : List Nat} {α : Type} {E : El α} : JN L (Ty.ex (.slice none 0 0)) (Ty.sl E []) := fun w M v _ h => Ty.qp _ _ _ h
def r6 (L : List Nat) : List Ty → List Ty → Prop
  | [], [] => True
  | s :: ss, t :: ts => JN L s t ∧ r6 L ss ts
  | _, _ => False
theorem lY {L : List Nat} : r6 L [] [] := trivial
theorem gE {L : List Nat} {s t : Ty} {ss ts : List Ty} (h : JN L s t) (h' : r6 L ss ts) : r6 L (s :: ss) (t :: ts) := ⟨h, h'⟩
theorem j4 {L : List Nat} {w : World} {M : ah} (wf : Wf w M) : ∀ {ss ts : List Ty} {vs : List Value}, r6 L ss ts → bt w M ss vs → bt w (lM M L) ts vs
  | [], [], [], _, _ => trivial
  | _ :: _, _ :: _, _ :: _, ⟨h, h'⟩, ⟨h1, h2⟩ => ⟨h _ _ _ wf h1, j4 wf h' h2⟩
theorem yZ {L : List Nat} {w w' : World} {M M' : ah} {res : Ty} {r : Value} (wf : Wf w M) (le : Le (fun t => 1 ≤ t) (fun t => 1 ≤ t) w (lM M L) w' M') (hp : res.Plain) (hr : res.den w' M' r) :
    Wf w' (mX w M) ∧ Le (· ∈ ([] : List Nat)) (· ∈ ([] : List Nat)) w M w' (mX w M) ∧ res.den w' (mX w M) r := by
  have hold : ∀ b, b < w.heap.size → w'.heap[b]? = w.heap[b]? := fun b hb => by
    cases hm : lM M L b with
    | none => exact (le.oK b hb hm).2
    | some t =>
      have := jy _ _ hm
      subst this
      exact (le.own b 0 hm (by omega)).2 (by omega)
  refine ⟨⟨fun b t h => ?_, fun b b' t ht1 h h' => ?_⟩, ⟨le.size, le.os, le.tape, le.out, fun b hb hm => ⟨?_, hold b hb⟩, fun b t hm _ => ⟨?_, fun _ => hold b (wf.lt b t hm)⟩⟩, hp _ _ _ _ _ hr⟩
  · unfold mX at h
    split at h
    · exact Nat.lt_of_lt_of_le ‹_› le.size
    · cases h
  · unfold mX at h h'
    split at h <;> split at h' <;> first | exact wf.inj b b' t ht1 h h' | cases h | cases h'
  · simp [mX, hm]
  · simp [mX, wf.lt b t hm, hm]
omit T in
theorem N5 (L : List Nat) {f : FuncId} {args : List Ty} {res : Ty} (hF : cy P f args res) {xs : List Operand} {ats : Array TypeId} {ss : List Ty} (hx : jr A fr xs = ss) (hl : r6 L ss args) (hp : res.Plain)
 (h : aV P fr ops rest (A.set d res) fun A' l => K A' ((A, { d := some d, ty := res, rs := xs.flatMap bR }) :: l)) : aV P fr ops (⟨some d, .call ⟨.value (.func f), xs.toArray, ats⟩, t, p, e, none⟩ :: rest) A K := by
 refine ⟨{ d := some d, ty := res, rs := xs.flatMap bR }, ⟨rfl, by simp, by simp, by simp, fun a w M wf _ hrd _ => ?_⟩, h⟩
 rw [if_pos (by simp [Region.wanted])]
 have hv : bt w M ss (xs.map a.eval) := hx ▸ dw hrd fun x hx c hc => List.mem_flatMap.2 ⟨x, hx, hc⟩
 have hc := hF.2 w _ _ (xm (L := L) wf) jy (j4 wf hl hv)
 have hrun : (execOp a.eval ⟨some d, .call ⟨.value (.func f), xs.toArray, ats⟩, t, p, e, none⟩).run P w = .ok (.enter f (xs.map a.eval).toArray) w := by
  simp [execOp, resolve, Act.eval, Deferred.ofValue, invoke, iK hF]
 refine eZ hrun ?_
 refine hc.mono fun en w' ⟨r, M', he, _, le, hden⟩ => ?_
 obtain ⟨h1, h2, h3⟩ := yZ wf le hp hden
 exact ⟨r, he, r, rfl, _, h1, h2, h3, by simp⟩
end
end Go.T
namespace Go.T
open Go Go.RowKit
def oz (M : ah) : ah := fun b => match M b with | some 0 => some 0 | _ => none
def eu (s t : Ty) : Prop := ∀ w M v, Wf w M → s.den w M v → t.den w (oz M) v
theorem vP {M : ah} {b : Nat} (h : M b = none) : oz M b = none := by simp [oz, h]
theorem JZ {M : ah} {b t : Nat} (h : M b = some (t + 1)) : oz M b = none := by simp [oz, h]
theorem JW {M : ah} {b : Nat} (h : M b = some 0) : oz M b = some 0 := by simp [oz, h]
theorem Ao {M : ah} {b t : Nat} (h : oz M b = some t) : t = 0 ∧ M b = some 0 := by
 unfold oz at h
 split at h
 ·rename_i h'; injection h with h; exact ⟨h.symm, h'⟩
 cases h
theorem ot {w : World} {M : ah} (wf : Wf w M) : Wf w (oz M) :=
 ⟨fun b t h => wf.lt b 0 (Ao h).2, fun b b' t _ h _ => by have := (Ao h).1; omega⟩
theorem bQ {t : Ty} (h1 : t.deps = []) (h2 : t.cdeps = []) : eu t t := fun w M v _ h =>
 t.mono (S := fun _ => True) (K := fun _ => True) ⟨Nat.le_refl _, rfl, rfl, rfl, fun b _ hm => ⟨vP hm, rfl⟩, fun b t _ h => absurd trivial h⟩ (by rw [h1]; intro _ h; cases h) (by rw [h2]; intro _ h; cases h) h
theorem tw {s t : Ty} (h1 : s.deps = []) (h2 : s.cdeps = []) (h : s.Sub t) : eu s t := fun w M v wf hs => h _ _ _ (bQ h1 h2 w M v wf hs)
theorem bD {s t : Ty} (h1 : t.deps = []) (h2 : t.cdeps = []) (h : s = t) : eu s t := by subst h; exact bQ h1 h2
theorem xz {α : Type} {E : El α} {T tg : Nat} {xs : List α} (h : 1 ≤ tg) : eu (Ty.row E T tg xs) (Ty.sl E xs) := fun w M v wf hr =>
 yK wf hr (fun b hb => by obtain ⟨u, rfl⟩ : ∃ u, tg = u + 1 := ⟨tg - 1, by omega⟩; exact JZ hb) (fun b hb => vP hb)
theorem j7 {α : Type} {E : El α} {T tg : Nat} {xs ys : List α} (h : 1 ≤ tg) (e : xs = ys) : eu (Ty.row E T tg xs) (Ty.sl E ys) := e ▸ xz h
theorem OC {α : Type} {E : El α} : eu (Ty.ex (.slice none 0 0)) (Ty.sl E []) := fun _ _ _ _ h => Ty.qp _ _ _ h
def DQ : List Ty → List Ty → Prop
  | [], [] => True
  | s :: ss, t :: ts => eu s t ∧ DQ ss ts
  | _, _ => False
theorem Bk {w : World} {M : ah} (wf : Wf w M) : ∀ {ss ts : List Ty} {vs : List Value}, DQ ss ts → bt w M ss vs → bt w (oz M) ts vs
  | [], [], [], _, _ => trivial
  | _ :: _, _ :: _, _ :: _, ⟨h, h'⟩, ⟨h1, h2⟩ => ⟨h _ _ _ wf h1, Bk wf h' h2⟩
theorem OJ {ss ts : List Ty} (h : DQ ss ts) : eu (Ty.agg ss) (Ty.agg ts) := fun _ _ _ wf ⟨cs, e, hd⟩ => ⟨cs, e, Bk wf h hd⟩
theorem mN {fr : Fr} {w : World} {M : ah} (hk : ∀ t, fr.kd.Lo t → 1 ≤ t) (hb : fr.base w M) : Le (fun t => 1 ≤ t) (fun t => 1 ≤ t) fr.w0 fr.M0 w (oz M) :=
 ⟨hb.size, hb.os, hb.tape, hb.out, fun b hlt hm => ⟨vP (hb.oK b hlt hm).1, (hb.oK b hlt hm).2⟩, fun b t hm ht => by
  have : t = 0 := by omega
  subst this
  obtain ⟨h1, h2⟩ := hb.own b 0 hm (by omega)
  exact ⟨JW h1, fun _ => h2 (fun h => by have := hk 0 h; omega)⟩⟩
section
variable {P : Program} {fr : Fr} {A : As} {Q : Exit → Act → World → Prop} {c : Code} {fn : Func} {n : Nat} {w0 : World} {M0 : ah}
theorem bT {tm : Nat} {res : Ty} (hr : fn.results = #[.tmp tm]) (ht : Nat.blt tm n = true) (hs : eu (A.slots tm) res) : cm ⟨n, w0, M0, [], .plain⟩ A (bodyPost P fn (jY w0 M0 res) .ret) := by
 intro a w ⟨M, ok, hsl, _⟩
 exact ⟨ok.eD (by simp), _, results_tmp hr _ _ _, _, oz M, rfl, ot ok.wf, mN (fr := ⟨n, w0, M0, [], .plain⟩) (fun _ h => h) ok.base, hs _ _ _ ok.wf (hsl tm (by simpa using ht))⟩
theorem gG {t1 t2 : Nat} {r1 r2 : Ty} (hr : fn.results = #[.tmp t1, .tmp t2]) (h1 : Nat.blt t1 n = true) (h2 : Nat.blt t2 n = true) (hs1 : eu (A.slots t1) r1) (hs2 : eu (A.slots t2) r2) :
 cm ⟨n, w0, M0, [], .plain⟩ A (bodyPost P fn (jY w0 M0 (Ty.jk [r1, r2])) .ret) := by
 intro a w ⟨M, ok, hsl, _⟩
 exact ⟨ok.eD (by simp), _, results_tmp2 hr _ _ _, _, oz M, rfl, ot ok.wf, mN (fr := ⟨n, w0, M0, [], .plain⟩) (fun _ h => h) ok.base, _, rfl, hs1 _ _ _ ok.wf (hsl t1 (by simpa using h1)), hs2 _ _ _ ok.wf (hsl t2 (by simpa using h2)), trivial⟩
theorem r5 {t1 t2 t3 : Nat} {r1 r2 r3 : Ty} (hr : fn.results = #[.tmp t1, .tmp t2, .tmp t3]) (h1 : Nat.blt t1 n = true) (h2 : Nat.blt t2 n = true) (h3 : Nat.blt t3 n = true) (hs1 : eu (A.slots t1) r1) (hs2 : eu (A.slots t2) r2) (hs3 : eu (A.slots t3) r3) :
 cm ⟨n, w0, M0, [], .plain⟩ A (bodyPost P fn (jY w0 M0 (Ty.jk [r1, r2, r3])) .ret) := by
 intro a w ⟨M, ok, hsl, _⟩
 exact ⟨ok.eD (by simp), .tuple #[a.tmps.getD t1 undef, a.tmps.getD t2 undef, a.tmps.getD t3 undef], by simp [results, hr], _, oz M, rfl, ot ok.wf, mN (fr := ⟨n, w0, M0, [], .plain⟩) (fun _ h => h) ok.base, _, rfl, hs1 _ _ _ ok.wf (hsl t1 (by simpa using h1)), hs2 _ _ _ ok.wf (hsl t2 (by simpa using h2)), hs3 _ _ _ ok.wf (hsl t3 (by simpa using h3)), trivial⟩
theorem jv {F : Prop} {s : Nat} {ty : Ty} (hs : Nat.blt s fr.n = true) (hx : A.slots s = ty) (hf : ∀ w M v, ty.den w M v → F) (h : F → eU P fr c A Q) : eU P fr c A Q := fun a w ha => by
 obtain ⟨M, ok, hsl, ht⟩ := ha
 have := hsl s (by simpa using hs)
 rw [hx] at this
 exact h (hf _ _ _ this) a w ⟨M, ok, hsl, ht⟩
theorem j9 {α : Type} {E : El α} {xs : List α} (w : World) (M : ah) (v : Value) (h : (Ty.sl E xs).den w M v) : xs.length ≤ 9223372036854775807 := by
 obtain ⟨A, c, _, h1, h2, _⟩ := h
 simp only [maxLen] at h2; omega
theorem x6 {α : Type} {E : El α} {T tg : Nat} {xs : List α} (w : World) (M : ah) (v : Value) (h : (Ty.row E T tg xs).den w M v) : xs.length ≤ 9223372036854775807 := by
 obtain ⟨cs, h1, _⟩ := h
 rcases h1.2 with ⟨_, h0⟩ | ⟨g, cap, cur, _, _, _, hn, hcap, _⟩
 ·omega
 simp only [maxLen] at hcap; omega
theorem iX {s : Nat} {ty ty' : Ty} (hx : A.slots s = ty) (h : ty.Sub ty') (h' : eU P fr c (A.set s ty') Q) : eU P fr c A Q := fun a w ⟨M, ok, hsl, ht⟩ =>
  h' a w ⟨M, ok, fun i hi => by
    show ((A.set s ty').slots i).den w M _
    simp only [As.set]
    cases hb : Nat.beq i s with
    | false => exact hsl i hi
    | true =>
      have : i = s := Nat.eq_of_beq_eq_true hb
      subst this
      exact h _ _ _ (hx ▸ hsl i hi), ht⟩
end
def fA {α : Type} (E : El α) (T : Nat) (xs : List α) (w : World) (M : ah) (t : Nat) : Prop :=
  xs = [] ∨ ∃ b cs, M b = some t ∧ w.heap[b]? = some (.cells cs T (0, 0)) ∧ bt w M (xs.flatMap E.tys) (cs.toList.take (xs.flatMap E.tys).length)
theorem Cj {α : Type} {E : El α} {T : Nat} {xs : List α} {w : World} {M : ah} {t : Nat} (h : cw T (xs.flatMap E.tys) w M t) : fA E T xs w M t := by
 obtain ⟨b, cs, h1, h2, h3⟩ := h
 exact .inr ⟨b, cs, h1, h2, by rw [← bw h3, List.take_length]; exact h3⟩
def Cont.vec {α : Type} (E : El α) (T : Nat) (xs : List α) : Cont :=
  { den := fA E T xs, mono := fun le _ _ hs hk h => h.imp id fun ⟨b, cs, h1, h2, h3⟩ => let ⟨h4, h5⟩ := le.own b _ h1 hk
    ⟨b, cs, h4, (h5 hs).trans h2, bV le (by rw [E.cW]; intro _ h; cases h) (by rw [E.cC]; intro _ h; cases h) h3⟩ }
theorem Cont.iM {α : Type} {E : El α} {T : Nat} {xs ys : List α} (h : xs = ys) : (Cont.vec E T xs).Sub (Cont.vec E T ys) := h ▸ Cont.aG _
theorem Cont.nw {T : Nat} {l l' : List Ty} (h : l = l') : (Cont.cells T l).Sub (Cont.cells T l') := h ▸ Cont.aG _
def m4 (tg n : Nat) (_ : World) (M : ah) (x : Value) : Prop := (n = 0 ∧ x = .slice none 0 0) ∨ ∃ b c, M b = some tg ∧ x = .slice (some ⟨b, 0, none⟩) n c ∧ n ≤ c ∧ c ≤ maxLen
def Ty.vs (tg n : Nat) : Ty := ⟨m4 tg n, [tg], [], fun le hk _ h => h.imp id fun ⟨b, c, h, e, h1, h2⟩ => ⟨b, c, (le.own b tg h (hk tg (by simp))).1, e, h1, h2⟩, true, fun _ h => by
  rcases h with ⟨_, rfl⟩ | ⟨_, _, _, rfl, _⟩ <;> rfl⟩
section
variable {P : Program} {fr : Fr} {ops : Array Oper} {A : As} {rest : List Oper} {K : As → List (As × Fx) → Prop} {d : Nat} {t ty' : TypeId} {p : String} {e : Array Edge} [T : k5 P]
theorem MB {α : Type} {E : El α} {xs : List α} {ti : TI} (hT : T.tab[ty']? = some ti) (hz : ti.zero ≠ []) (hzx : ti.zero.map Ty.m9 = xs.flatMap E.tys) (hp : fr.pass.contains (d + 1) = false)
 (h : aV P fr ops rest (A.after { d := some d, ty := .ptr (d + 1) 0, K := [d + 1], sets := [(d + 1, .vec E ty' xs)] }) fun A' l' => K A' ((A, { d := some d, ty := .ptr (d + 1) 0, K := [d + 1], sets := [(d + 1, .vec E ty' xs)] }) :: l')) :
 aV P fr ops (⟨some d, .alloc ty', t, p, e, none⟩ :: rest) A K := by
 refine ⟨_, fH rfl rfl (by simp) (by simp) (by simp at hp ⊢; exact hp) fun a w M wf _ _ => ?_, h⟩
 obtain ⟨z, hz1, hz2⟩ := qi hT hz w
 obtain ⟨h1, h2, h3⟩ := jS wf (.cells z.cells ty') (d + 1)
 refine ⟨.pointer (some ⟨w.heap.size, 0, none⟩), w.alloc (.cells z.cells ty'), ?_, _, h1, h2, ⟨_, h3, rfl⟩, ?_⟩
 ·simp [execOp, Instr.alloc, newVar, newRow, newObj, Sem.run, hz1]
 intro x hx
 simp only [List.mem_singleton] at hx
 subst hx
 exact Cj ⟨w.heap.size, z.cells, h3, fD _ _, by rw [hz2, ← hzx]; exact nR _ _ _⟩
theorem Ng {α : Type} {E : El α} {x0 : α} {x y : Operand} {k k' : IntKind} {n : Int} {el : Nat} {ti te : TI} (hx : A.op fr x = .int k n) (hy : A.op fr y = .int k' n) (hT : T.tab[ty']? = some ti) (hk : ti.k = .slice el) (hE : T.tab[el]? = some te) (hs : te.size = E.size) (hz : te.zero.map Ty.m9 = E.tys x0) (hzp : 0 < te.size) (hp : fr.pass.contains (d + 1) = false)
    (hn : 0 ≤ n) (hlen : (te.bytes : Int) * n ≤ 281474976710656) (hlen' : n ≤ 9223372036854775807)
    (h : aV P fr ops rest (A.after { d := some d, ty := .vs (d + 1) n.toNat, K := [d + 1], sets := [(d + 1, .vec E el (List.replicate n.toNat x0))], rs := bR x ++ bR y }) fun A' l' => K A' ((A, { d := some d, ty := .vs (d + 1) n.toNat, K := [d + 1], sets := [(d + 1, .vec E el (List.replicate n.toNat x0))], rs := bR x ++ bR y }) :: l')) :
    aV P fr ops (⟨some d, .makeSlice ty' x y, t, p, e, none⟩ :: rest) A K := by
  refine ⟨_, fH rfl rfl (by simp) (by simp) (by simp at hp ⊢; exact hp) fun a w M wf hr _ => ?_, h⟩
  obtain ⟨hdx, hdy⟩ := op2 hr
  rw [hx] at hdx; rw [hy] at hdy
  have ex : a.eval x = .int k n := hdx
  have ey : a.eval y = .int k' n := hdy
  obtain ⟨_, D, _, hD, hkd, _⟩ := cF hT
  rw [hk] at hkd
  cases D <;> simp only [TK.of, reduceCtorEq, TK.slice.injEq] at hkd
  rename_i el0
  have hel : el0 = el := hkd
  subst hel
  obtain ⟨i, _, hi, _, _, hsz, hby, hze⟩ := cF hE
  have hzl : te.zero.length = te.size := by rw [← List.length_map (f := Ty.m9), hz, E.len, hs]
  obtain ⟨z, hiz⟩ : ∃ z, i.zero = some z := by
    cases hiz : i.zero with
    | none => rw [hiz] at hze; rw [← hze] at hzl; simp at hzl; omega
    | some z => exact ⟨z, rfl⟩
  rw [hiz] at hze
  have hrun := run_make (P := P) w ty' _ i z hD hi hiz k k' n n hn (Int.le_refl _) (by rw [hby]; exact hlen) hlen'
  obtain ⟨h1, h2, h3⟩ := jS wf (.cells (madeCells z.cells (n.toNat * i.size)) el0) (d + 1)
  refine ⟨_, _, by simp [execOp, ex, ey, hrun], _, h1, h2, .inr ⟨_, _, h3, rfl, Nat.le_refl _, by simp only [maxLen]; omega⟩, ?_⟩
  intro x hx
  simp only [List.mem_singleton] at hx
  subst hx
  refine Cj ⟨w.heap.size, _, h3, fD _ _, ?_⟩
  have hzs : z.cells.size = te.size := by rw [← hzl, ← hze]; simp
  refine g9 (by rw [cg]; simp [madeCells, hsz, hs]) fun j ty hj => ?_
  have hjl : j < n.toNat * te.size := by
    have := (List.getElem?_eq_some_iff.1 hj).1
    rw [cg, List.length_replicate, ← hs] at this; exact this
  have hq : j / te.size < n.toNat := Nat.div_lt_of_lt_mul (by rw [Nat.mul_comm]; exact hjl)
  have hm : j % te.size < te.size := Nat.mod_lt _ hzp
  have hget := uG E (List.replicate n.toNat x0) (j / te.size) (j % te.size) (by simpa using hq) (by rw [← hs]; exact hm)
  have hdecomp : j / te.size * E.size + j % te.size = j := by rw [← hs, Nat.mul_comm]; exact Nat.div_add_mod j te.size
  rw [hdecomp, hj] at hget
  simp only [List.getElem?_replicate, hq, if_true, Option.bind_some] at hget
  rw [← hz, List.getElem?_map] at hget
  obtain ⟨u, hu, hty⟩ := Option.map_eq_some_iff.1 hget.symm
  refine ⟨u, ?_, hty ▸ n5 _ _ _⟩
  have hu' : z.cells[j % z.cells.size]? = some u := by rw [hzs]; rw [← hze] at hu; simpa using hu
  simp only [madeCells, Array.toList_map, List.getElem?_map, Array.toList_range, hsz]
  rw [List.getElem?_range hjl]
  simp only [Option.map_some]
  rw [getElem!_def, hu']
theorem gS {x y : Operand} {tg n : Nat} {k : IntKind} {i : Int} {ti te : TI} {el : Nat} (hx : A.op fr x = .vs tg n) (hy : A.op fr y = .int k i) (hT : T.tab[ty']? = some ti) (hk : ti.k = .slice el) (hE : T.tab[el]? = some te) (h0 : 0 ≤ i) (h1 : i.toNat < n)
 (h : aV P fr ops rest (A.set d (.ptr tg (i.toNat * te.size))) fun A' l' => K A' ((A, { d := some d, ty := .ptr tg (i.toNat * te.size), rs := bR x ++ bR y }) :: l')) : aV P fr ops (⟨some d, .indexAddr ty' x y, t, p, e, none⟩ :: rest) A K :=
 bB (bH rfl rfl fun a w M _ hr _ => by
  obtain ⟨hdx, hdy⟩ := op2 hr
  rw [hx] at hdx; rw [hy] at hdy
  rcases hdx with ⟨h0, _⟩ | ⟨b, c, hb, ex, _⟩
  ·omega
  have ey : a.eval y = .int k i := hdy
  refine ⟨_, by simp only [execOp, ex, ey, Sem.run_bind, gj hT hk hE h0 h1]; rfl, b, hb, ?_⟩
  simp) h
theorem ou {x y : Operand} {tg n : Nat} {k : IntKind} {i : Nat} {ti te : TI} {el : Nat} (hx : A.op fr x = .vs tg n) (hy : A.op fr y = .int k i) (hT : T.tab[ty']? = some ti) (hk : ti.k = .slice el) (hE : T.tab[el]? = some te) (h1 : i < n)
 (h : aV P fr ops rest (A.set d (.ptr tg (i * te.size))) fun A' l' => K A' ((A, { d := some d, ty := .ptr tg (i * te.size), rs := bR x ++ bR y }) :: l')) : aV P fr ops (⟨some d, .indexAddr ty' x y, t, p, e, none⟩ :: rest) A K :=
 gS hx hy hT hk hE (Int.natCast_nonneg _) h1 h
theorem fq {x y : Operand} {tg off n : Nat} {k : IntKind} {i : Nat} {ti te : TI} {el : Nat} (hx : A.op fr x = .ptr tg off) (hy : A.op fr y = .int k i) (hT : T.tab[ty']? = some ti) (hk : ti.k = .array n el) (hE : T.tab[el]? = some te) (h1 : i < n)
 (h : aV P fr ops rest (A.set d (.ptr tg (off + i * te.size))) fun A' l' => K A' ((A, { d := some d, ty := .ptr tg (off + i * te.size), rs := bR x ++ bR y }) :: l')) : aV P fr ops (⟨some d, .indexAddr ty' x y, t, p, e, none⟩ :: rest) A K :=
 bB (bH rfl rfl fun a w M _ hr _ => by
  obtain ⟨hdx, hdy⟩ := op2 hr
  rw [hx] at hdx; rw [hy] at hdy
  obtain ⟨b, hb, ex⟩ := hdx
  have ey : a.eval y = .int k i := hdy
  refine ⟨_, by simp only [execOp, ex, ey, Sem.run_bind, iq hT hk hE (Int.natCast_nonneg i) (show (i : Int).toNat < n from h1)]; rfl, b, hb, ?_⟩
  simp) h
theorem nL {α : Type} {E : El α} {Tb : Nat} {xs : List α} {tg : Nat} (h : A.tag tg = some (.vec E Tb xs)) : ∀ w M, (∀ x ∈ A.tags, x.1 ∈ [tg] → x.2.den w M x.1) → fA E Tb xs w M tg := fun _ _ ht => ht _ (cM h) (by simp)
theorem kg {α : Type} {E : El α} {Tb b tg off : Nat} {xs : List α} {w : World} {M : ah} {ty : Ty} (wf : Wf w M) (h1 : e8 tg) (hb : M b = some tg) (h : fA E Tb xs w M tg) (hl : (xs.flatMap E.tys)[off]? = some ty) : ∃ v, w.cell? ⟨b, off, none⟩ = some v ∧ ty.den w M v := by
 rcases h with rfl | ⟨b', cs, hb', hh, hd⟩
 ·simp at hl
 obtain ⟨u, rfl⟩ : ∃ u, tg = u + 1 := ⟨tg - 1, by omega⟩
 have := wf.inj b b' u (by omega) hb hb'
 subst this
 obtain ⟨v, hv, hdv⟩ := dF hd off ty hl
 rw [List.getElem?_take] at hv
 split at hv
 ·exact ⟨v, by simpa [World.cell?, hh] using hv, hdv⟩
 cases hv
theorem yP {α : Type} [Inhabited α] {E : El α} {xs : List α} {x : Operand} {tg i o Tb : Nat} {ti : TI} {ty : Ty} (hx : A.op fr x = .ptr tg (i * E.size + o)) (hc : A.tag tg = some (.vec E Tb xs)) (h1 : e8 tg) (hT : T.tab[ty']? = some ti) (ha : ti.k.agg = false) (hi : i < xs.length) (hl : (E.tys (nth xs i))[o]? = some ty)
 (h : aV P fr ops rest (A.set d ty) fun A' l => K A' ((A, { d := some d, ty := ty, rs := bR x, rt := [tg] }) :: l)) : aV P fr ops (⟨some d, .load ty' x, t, p, e, none⟩ :: rest) A K :=
 bB (bH rfl rfl fun a w M wf hr ht => by
  have := bk (x := x) (fun _ h => h) hr
  rw [hx] at this
  obtain ⟨b, hb, e⟩ := this
  obtain ⟨v, hv, hd⟩ := kg wf h1 hb (nL hc w M ht) (l6 E xs hi o ty hl)
  exact ⟨v, by simp [execOp, e, lZ hT ha hv], hd⟩) h
theorem E5 {α : Type} [Inhabited α] (E : El α) {y : α} {o : Nat} {ty : Ty} : ∀ (xs : List α) (i : Nat), i < xs.length → (E.tys (nth xs i)).set o ty = E.tys y → o < E.size → (xs.flatMap E.tys).set (i * E.size + o) ty = (xs.set i y).flatMap E.tys
  | [], i, h, _, _ => absurd h (Nat.not_lt_zero _)
  | x :: xs, 0, _, hy, ho => by
    have hy : (E.tys x).set o ty = E.tys y := hy
    rw [List.set_cons_zero, List.flatMap_cons, List.flatMap_cons, ← hy, Nat.zero_mul, Nat.zero_add, List.set_append, if_pos (by rw [E.len]; exact ho)]
  | x :: xs, i + 1, h, hy, ho => by
    have ih := E5 E xs i (by simpa using h) hy ho
    rw [List.set_cons_succ, List.flatMap_cons, List.flatMap_cons, ← ih, List.set_append, if_neg (by rw [E.len, Nat.succ_mul]; omega), E.len]
    congr 2
    rw [Nat.succ_mul]; omega
theorem kY {α : Type} [Inhabited α] {E : El α} {xs : List α} {x y : Operand} {tg i o Tb : Nat} {ti : TI} {ty : Ty} {z : α} (hx : A.op fr x = .ptr tg (i * E.size + o)) (hc : A.tag tg = some (.vec E Tb xs)) (h1 : e8 tg) (hT : T.tab[ty']? = some ti) (hsz : ti.size = 1) (hy : A.op fr y = ty) (ho : ty.one = true) (hi : i < xs.length) (hoe : o < E.size)
 (hdt : kJ ty.cdeps [tg] = true) (hl : (E.tys (nth xs i)).set o ty = E.tys z)
 (h : aV P fr ops rest (A.after { d := none, S := [tg], sets := [(tg, .vec E Tb (xs.set i z))], rs := bR x ++ bR y, rt := [tg] }) fun A' l'' => K A' ((A, { d := none, S := [tg], sets := [(tg, .vec E Tb (xs.set i z))], rs := bR x ++ bR y, rt := [tg] }) :: l'')) :
 aV P fr ops (⟨none, .store ty' x y, t, p, e, none⟩ :: rest) A K := by
 refine ⟨_, kf rfl rfl rfl (by simp) (by simpa using h1.1) (by simp) fun a w M wf hr ht => ?_, h⟩
 obtain ⟨hdx, hdy⟩ := op2 hr
 rw [hx] at hdx; rw [hy] at hdy
 obtain ⟨b, hb, ex⟩ := hdx
 rcases nL hc w M ht with rfl | ⟨b', cs, hb', hh, hd⟩
 ·exact absurd hi (Nat.not_lt_zero _)
 obtain ⟨u, rfl⟩ : ∃ u, tg = u + 1 := ⟨tg - 1, by omega⟩
 have := wf.inj b b' u (by omega) hb hb'
 subst this
 have hone := ty.isOne ho hdy
 have hlen := bw hd
 have hoff : i * E.size + o < cs.size := by
  rw [cg, List.length_take] at hlen
  have : (i + 1) * E.size ≤ xs.length * E.size := Nat.mul_le_mul_right _ hi
  rw [Nat.succ_mul] at this
  simp at hlen; omega
 have hcells : (a.eval y).cells = #[a.eval y] := by
  cases hv : a.eval y <;> first | rfl | (rw [hv] at hone; simp [Value.oneCell'] at hone)
 have hcell : w.cell? ⟨b, i * E.size + o, none⟩ = some cs[i * E.size + o] := by simp [World.cell?, hh]
 have hfz : w.frozen? ⟨b, i * E.size + o, none⟩ = false := by simp [World.frozen?, hh]
 obtain ⟨h1', h2', h3'⟩ := jW wf hb _ (kQ hh (off := i * E.size + o) (a.eval y))
 refine ⟨w.setCell ⟨b, i * E.size + o, none⟩ (a.eval y), ?_, M, h1', h2', trivial, ?_⟩
 ·have hst := run_store P w ⟨b, i * E.size + o, none⟩ (a.eval y) .plain hone
  rw [hcell] at hst
  simp only [hfz] at hst
  simp [execOp, Instr.storeAt, Instr.sureAddr, ex, storeVar, hcells, bz hT, hsz, storeCells, hst, Addr.add]
 intro z' hz'
 simp only [List.mem_singleton] at hz'
 subst hz'
 refine .inr ⟨b, _, hb, h3', ?_⟩
 rw [Array.toList_setIfInBounds, ← E5 E xs i hi hl hoe, List.length_set, List.take_set]
 exact ny (bV h2' (by intro _ _ h; cases h) (by rw [E.cC]; intro _ h; cases h) hd) (ty.mono h2' (by intro _ _ h; cases h) (fK hdt) hdy)
end
end Go.T
namespace Go.T
open Go Go.RowKit
section
variable {P : Program} {fr : Fr} {ops : Array Oper} {A : As} {rest : List Oper} {K : As → List (As × Fx) → Prop} {d : Nat} {t ty' : TypeId} {p : String} {e : Array Edge} [T : k5 P]
variable {α : Type} [Inhabited α] {E : El α} {xs : List α} {x y : Operand} {tg i o s Tb : Nat} {ti : TI} {ty : Ty} {z : α}
theorem ko (hx : A.op fr x = .ptr tg (0 + i * s)) (hc : A.tag tg = some (.vec E Tb xs)) (hs : s = E.size) (h1 : e8 tg) (hT : T.tab[ty']? = some ti) (ha : ti.k.agg = false) (hi : i < xs.length) (hl : (E.tys (nth xs i))[0]? = some ty)
 (h : aV P fr ops rest (A.set d ty) fun A' l => K A' ((A, { d := some d, ty := ty, rs := bR x, rt := [tg] }) :: l)) : aV P fr ops (⟨some d, .load ty' x, t, p, e, none⟩ :: rest) A K :=
 yP (o := 0) (by rw [hx, hs, Nat.zero_add, Nat.add_zero]) hc h1 hT ha hi hl h
theorem w9 (hx : A.op fr x = .ptr tg (i * s)) (hc : A.tag tg = some (.vec E Tb xs)) (hs : s = E.size) (h1 : e8 tg) (hT : T.tab[ty']? = some ti) (ha : ti.k.agg = false) (hi : i < xs.length) (hl : (E.tys (nth xs i))[0]? = some ty)
 (h : aV P fr ops rest (A.set d ty) fun A' l => K A' ((A, { d := some d, ty := ty, rs := bR x, rt := [tg] }) :: l)) : aV P fr ops (⟨some d, .load ty' x, t, p, e, none⟩ :: rest) A K :=
 yP (o := 0) (by rw [hx, hs, Nat.add_zero]) hc h1 hT ha hi hl h
theorem uS (hx : A.op fr x = .ptr tg (0 + i * s)) (hc : A.tag tg = some (.vec E Tb xs)) (hs : s = E.size) (h1 : e8 tg) (hT : T.tab[ty']? = some ti) (hsz : ti.size = 1) (hy : A.op fr y = ty) (ho : ty.one = true) (hi : i < xs.length) (hoe : 0 < E.size) (hdt : kJ ty.cdeps [tg] = true) (hl : (E.tys (nth xs i)).set 0 ty = E.tys z)
 (h : aV P fr ops rest (A.after { d := none, S := [tg], sets := [(tg, .vec E Tb (xs.set i z))], rs := bR x ++ bR y, rt := [tg] }) fun A' l'' => K A' ((A, { d := none, S := [tg], sets := [(tg, .vec E Tb (xs.set i z))], rs := bR x ++ bR y, rt := [tg] }) :: l'')) :
 aV P fr ops (⟨none, .store ty' x y, t, p, e, none⟩ :: rest) A K :=
 kY (o := 0) (by rw [hx, hs, Nat.zero_add, Nat.add_zero]) hc h1 hT hsz hy ho hi hoe hdt hl h
theorem o8 (hx : A.op fr x = .ptr tg (i * s)) (hc : A.tag tg = some (.vec E Tb xs)) (hs : s = E.size) (h1 : e8 tg) (hT : T.tab[ty']? = some ti) (hsz : ti.size = 1) (hy : A.op fr y = ty) (ho : ty.one = true) (hi : i < xs.length) (hoe : 0 < E.size) (hdt : kJ ty.cdeps [tg] = true) (hl : (E.tys (nth xs i)).set 0 ty = E.tys z)
 (h : aV P fr ops rest (A.after { d := none, S := [tg], sets := [(tg, .vec E Tb (xs.set i z))], rs := bR x ++ bR y, rt := [tg] }) fun A' l'' => K A' ((A, { d := none, S := [tg], sets := [(tg, .vec E Tb (xs.set i z))], rs := bR x ++ bR y, rt := [tg] }) :: l'')) :
 aV P fr ops (⟨none, .store ty' x y, t, p, e, none⟩ :: rest) A K :=
 kY (o := 0) (by rw [hx, hs, Nat.add_zero]) hc h1 hT hsz hy ho hi hoe hdt hl h
theorem Cc (hx : A.op fr x = .ptr tg (i * s + o)) (hc : A.tag tg = some (.vec E Tb xs)) (hs : s = E.size) (h1 : e8 tg) (hT : T.tab[ty']? = some ti) (hsz : ti.size = 1) (hy : A.op fr y = ty) (ho : ty.one = true) (hi : i < xs.length) (hoe : o < E.size) (hdt : kJ ty.cdeps [tg] = true) (hl : (E.tys (nth xs i)).set o ty = E.tys z)
 (h : aV P fr ops rest (A.after { d := none, S := [tg], sets := [(tg, .vec E Tb (xs.set i z))], rs := bR x ++ bR y, rt := [tg] }) fun A' l'' => K A' ((A, { d := none, S := [tg], sets := [(tg, .vec E Tb (xs.set i z))], rs := bR x ++ bR y, rt := [tg] }) :: l'')) :
 aV P fr ops (⟨none, .store ty' x y, t, p, e, none⟩ :: rest) A K :=
 kY (by rw [hx, hs]) hc h1 hT hsz hy ho hi hoe hdt hl h
end
def R9 (l : List Ty) : Prop := bl l = [] ∧ bL l = [] ∧ l.all Ty.one = true
def El.mk' {α : Type} (n : Nat) (f : α → List Ty) (h : ∀ x, (f x).length = n) (h' : ∀ x, R9 (f x)) : El α := ⟨n, f, h, fun x => (h' x).1, fun x => (h' x).2.1, fun x => (h' x).2.2⟩
end Go.T
namespace Go.T
open Go Go.RowKit
section
variable {P : Program} {fr : Fr} {ops : Array Oper} {A : As} {rest : List Oper} {K : As → List (As × Fx) → Prop} {d : Nat} {t ty' : TypeId} {p : String} {e : Array Edge} {x y z : Operand} {k : IntKind} {n : Int} {b : Bool} {l : List Ty}
theorem aO {o : Oper} {f : Fx} (h : aV P fr ops [o] A fun _ l => l = [(A, f)]) : xe P fr ops o A f := by
 obtain ⟨g, hg, hK⟩ := h
 have hK : [(A, g)] = [(A, f)] := hK
 simp only [List.cons.injEq, Prod.mk.injEq, and_true, true_and] at hK
 exact hK ▸ hg
theorem aJ {o : Oper} {f : Fx} {s : Nat} {g : Bool} {ty : Ty} (hs : A.slots s = .gd g ty) (hg : g = true) (h : xe P fr ops o (A.set s ty) f) : xe P fr ops o A f := by
  obtain ⟨h1, h2, h3, h4, h5⟩ := h
  refine ⟨h1, h2, h3, h4, fun a w M wf hsz hr ht => h5 a w M wf hsz (fun c hc hcn => ?_) ht⟩
  have := hr c hc hcn
  simp only [As.set]
  cases hb : Nat.beq c s with
  | false => exact this
  | true =>
    have e : c = s := Nat.eq_of_beq_eq_true hb
    subst e
    rw [hs] at this
    exact this.1 hg
def nQ (ops : Array Oper) (j : Nat) : Option Nat := (ops[j]?).bind (·.dst)
theorem jg {a : Act} {j s : Nat} {c : Bool} (hs : nQ ops j = some s) (hn : s < a.tmps.size) (hv : a.tmps.getD s undef = .bool c) : yielded ops a.tmps j = some c := by
 unfold yielded
 unfold nQ at hs
 rw [hs]
 have : a.tmps[s]? = some (.bool c) := by
  rw [Array.getElem?_eq_getElem hn]
  rw [Array.getD_eq_getD_getElem?, Array.getElem?_eq_getElem hn] at hv
  simpa using hv
 simp [this]
theorem AR {a : Act} {j s : Nat} (hs : nQ ops j = some s) (hn : s < a.tmps.size) (hv : a.tmps.getD s undef = undef) : yielded ops a.tmps j = none := by
 unfold yielded
 unfold nQ at hs
 rw [hs]
 have : a.tmps[s]? = some undef := by
  rw [Array.getElem?_eq_getElem hn]
  rw [Array.getD_eq_getD_getElem?, Array.getElem?_eq_getElem hn] at hv
  simpa using hv
 simp [this, undef]
def ig (d s : Nat) (g : Bool) (f : Fx) : Fx := { d := some d, ty := .gd g f.ty, rs := s :: f.rs, rt := f.rt }
theorem Bo {op : Op} {j s : Nat} {want g : Bool} {gt : Ty} {f : Fx} (hs : nQ ops j = some s) (hn : Nat.blt s fr.n = true) (hgt : A.slots s = gt)
    (hg : ∀ w M v, gt.den w M v → (g = true → v = .bool want) ∧ (g = false → v = .bool (!want) ∨ v = undef))
    (h1 : g = true → xe P fr ops ⟨some d, op, t, p, e, none⟩ A f) (hS : f.S = []) (hK : f.K = []) :
    xe P fr ops ⟨some d, op, t, p, e, some (j, want)⟩ A (ig d s g f) := by
  refine ⟨rfl, by simp [ig], by simp [ig], by simp [ig], fun a w M wf hsz hr ht => ?_⟩
  have hn' : s < fr.n := by simpa using hn
  have hv := hr s (by simp [ig]) hn'
  rw [hgt] at hv
  obtain ⟨hv1, hv2⟩ := hg _ _ _ hv
  cases g with
  | true =>
    have hy := jg (ops := ops) hs (by rw [hsz]; exact hn') (hv1 rfl)
    rw [if_pos (by simp [Region.wanted, hy])]
    obtain ⟨hd, _, _, _, h5⟩ := h1 rfl
    have h6 := h5 a w M wf hsz (fun c hc hcn => hr c (by simp [ig, hc]) hcn) (fun x hx hxr => ht x hx hxr)
    rw [if_pos (by simp [Region.wanted])] at h6
    refine Oper.nu (o := ⟨some d, op, t, p, e, some (j, want)⟩) (K := fun a' w' => ∃ v, a' = a.put (some d) v ∧ f.left w M w' v) ?_ h6
    rintro a' w' ⟨v, ha, M', wf', le, hty, _⟩
    rw [hS, hK] at le
    exact ⟨v, ha, M', wf', le, ⟨fun _ => hty, fun h => (by cases h)⟩, by simp [ig]⟩
  | false =>
    have hy : yielded ops a.tmps j ≠ some want := by
      rcases hv2 rfl with hv | hv
      · rw [jg (ops := ops) hs (by rw [hsz]; exact hn') hv]; cases want <;> simp
      · rw [AR (ops := ops) hs (by rw [hsz]; exact hn') hv]; simp
    rw [if_neg (by simpa [Region.wanted] using hy)]
    exact ⟨M, wf, Le.refl _ _ _ _, ⟨fun h => (by cases h), fun _ => rfl⟩, by simp [ig]⟩
theorem aM {op : Op} {j s : Nat} {want c : Bool} {f : Fx} (hs : nQ ops j = some s) (hn : Nat.blt s fr.n = true) (hc : A.slots s = .bool c) (h1 : c = want → xe P fr ops ⟨some d, op, t, p, e, none⟩ A f) (hS : f.S = []) (hK : f.K = [])
 (h : aV P fr ops rest (A.set d (.gd (c == want) f.ty)) fun A' l' => K A' ((A, ig d s (c == want) f) :: l')) : aV P fr ops (⟨some d, op, t, p, e, some (j, want)⟩ :: rest) A K :=
 ⟨ig d s (c == want) f, Bo hs hn hc (fun w M v hv => by
  have hv : v = .bool c := hv
  subst hv
  cases c <;> cases want <;> simp) (fun hg => h1 (by simpa using hg)) hS hK, h⟩
theorem eo {op : Op} {j s : Nat} {want g c : Bool} {f : Fx} (hs : nQ ops j = some s) (hn : Nat.blt s fr.n = true) (hc : A.slots s = .gd g (.bool c)) (h1 : g = true → c = want → xe P fr ops ⟨some d, op, t, p, e, none⟩ A f) (hS : f.S = []) (hK : f.K = [])
    (h : aV P fr ops rest (A.set d (.gd (g && (c == want)) f.ty)) fun A' l' => K A' ((A, ig d s (g && (c == want)) f) :: l')) : aV P fr ops (⟨some d, op, t, p, e, some (j, want)⟩ :: rest) A K :=
  ⟨ig d s (g && (c == want)) f, Bo hs hn hc (fun w M v hv => by
    cases g with
    | true =>
      have hv : v = .bool c := hv.1 rfl
      subst hv
      cases c <;> cases want <;> simp
    | false => exact ⟨fun h => (by cases h), fun _ => .inr (hv.2 rfl)⟩) (fun hg => by simp only [Bool.and_eq_true, beq_iff_eq] at hg; exact h1 hg.1 hg.2) hS hK, h⟩
theorem fu {c : Operand} {b1 b2 : Bool} (hc : A.op fr c = .bool b1) (hy : A.op fr y = .gd (b1 == true) (.bool b2))
    (h : aV P fr ops rest (A.set d (.bool (b1 && b2))) fun A' l' => K A' ((A, { d := some d, ty := .bool (b1 && b2), rs := bR c ++ bR y }) :: l')) : aV P fr ops (⟨some d, .pick c y (.const (.bool false)), t, p, e, none⟩ :: rest) A K :=
  bB (bH rfl rfl fun a w M _ hrd _ => by
    obtain ⟨hdc, hdy⟩ := op2 hrd
    rw [hc] at hdc; rw [hy] at hdy
    have ec : a.eval c = .bool b1 := hdc
    cases b1 with
    | true =>
      have ey : a.eval y = .bool b2 := hdy.1 rfl
      exact ⟨.bool b2, by simp only [execOp, ec, ey]; simp [asBool], rfl⟩
    | false => exact ⟨.bool false, by simp only [execOp, ec]; simp [asBool, Act.eval], rfl⟩) h
theorem iS {c : Operand} {b1 b2 : Bool} (hc : A.op fr c = .bool b1) (hy : A.op fr y = .gd (b1 == false) (.bool b2))
    (h : aV P fr ops rest (A.set d (.bool (b1 || b2))) fun A' l' => K A' ((A, { d := some d, ty := .bool (b1 || b2), rs := bR c ++ bR y }) :: l')) : aV P fr ops (⟨some d, .pick c (.const (.bool true)) y, t, p, e, none⟩ :: rest) A K :=
  bB (bH rfl rfl fun a w M _ hrd _ => by
    obtain ⟨hdc, hdy⟩ := op2 hrd
    rw [hc] at hdc; rw [hy] at hdy
    have ec : a.eval c = .bool b1 := hdc
    cases b1 with
    | false =>
      have ey : a.eval y = .bool b2 := hdy.1 rfl
      exact ⟨.bool b2, by simp only [execOp, ec, ey]; simp [asBool], rfl⟩
    | true => exact ⟨.bool true, by simp only [execOp, ec]; simp [asBool, Act.eval], rfl⟩) h
theorem bP (hx : A.op fr x = .int k n) (h : aV P fr ops rest (A.set d (.int k n)) fun A' l => K A' ((A, { d := some d, ty := .int k n, rs := bR x }) :: l)) : aV P fr ops (⟨some d, .move x, t, p, e, none⟩ :: rest) A K := ej hx h
theorem b8 (hx : A.op fr x = .int k n) (h : aV P fr ops rest (A.set d (.int k n)) fun A' l => K A' ((A, { d := some d, ty := .int k n, rs := bR x }) :: l)) : aV P fr ops (⟨some d, .assign x, t, p, e, none⟩ :: rest) A K := fY hx h
theorem gw (hx : A.op fr x = .bool b) (h : aV P fr ops rest (A.set d (.bool b)) fun A' l => K A' ((A, { d := some d, ty := .bool b, rs := bR x }) :: l)) : aV P fr ops (⟨some d, .move x, t, p, e, none⟩ :: rest) A K := ej hx h
theorem dJ (hx : A.op fr x = .bool b) (h : aV P fr ops rest (A.set d (.bool b)) fun A' l => K A' ((A, { d := some d, ty := .bool b, rs := bR x }) :: l)) : aV P fr ops (⟨some d, .assign x, t, p, e, none⟩ :: rest) A K := fY hx h
theorem eV {α : Type} {E : El α} {xs : List α} (hx : A.op fr x = .sl E xs) (h : aV P fr ops rest (A.set d (.sl E xs)) fun A' l => K A' ((A, { d := some d, ty := .sl E xs, rs := bR x }) :: l)) : aV P fr ops (⟨some d, .move x, t, p, e, none⟩ :: rest) A K := ej hx h
theorem xO {α : Type} {E : El α} {xs : List α} (hx : A.op fr x = .sl E xs) (h : aV P fr ops rest (A.set d (.sl E xs)) fun A' l => K A' ((A, { d := some d, ty := .sl E xs, rs := bR x }) :: l)) : aV P fr ops (⟨some d, .assign x, t, p, e, none⟩ :: rest) A K := fY hx h
theorem AO {α : Type} {E : El α} {T tg : Nat} {xs : List α} (hx : A.op fr x = .row E T tg xs) (h : aV P fr ops rest (A.set d (.row E T tg xs)) fun A' l => K A' ((A, { d := some d, ty := .row E T tg xs, rs := bR x }) :: l)) : aV P fr ops (⟨some d, .move x, t, p, e, none⟩ :: rest) A K := ej hx h
theorem uT {α : Type} {E : El α} {T tg : Nat} {xs : List α} (hx : A.op fr x = .row E T tg xs) (h : aV P fr ops rest (A.set d (.row E T tg xs)) fun A' l => K A' ((A, { d := some d, ty := .row E T tg xs, rs := bR x }) :: l)) : aV P fr ops (⟨some d, .assign x, t, p, e, none⟩ :: rest) A K := fY hx h
theorem FZ {tg m : Nat} (hx : A.op fr x = .vs tg m) (h : aV P fr ops rest (A.set d (.vs tg m)) fun A' l => K A' ((A, { d := some d, ty := .vs tg m, rs := bR x }) :: l)) : aV P fr ops (⟨some d, .move x, t, p, e, none⟩ :: rest) A K := ej hx h
theorem SG {tg m : Nat} (hx : A.op fr x = .vs tg m) (h : aV P fr ops rest (A.set d (.vs tg m)) fun A' l => K A' ((A, { d := some d, ty := .vs tg m, rs := bR x }) :: l)) : aV P fr ops (⟨some d, .assign x, t, p, e, none⟩ :: rest) A K := fY hx h
theorem KL {v : Value} (hx : A.op fr x = .ex v) (h : aV P fr ops rest (A.set d (.ex v)) fun A' l => K A' ((A, { d := some d, ty := .ex v, rs := bR x }) :: l)) : aV P fr ops (⟨some d, .move x, t, p, e, none⟩ :: rest) A K := ej hx h
theorem iT {v : Value} (hx : A.op fr x = .ex v) (h : aV P fr ops rest (A.set d (.ex v)) fun A' l => K A' ((A, { d := some d, ty := .ex v, rs := bR x }) :: l)) : aV P fr ops (⟨some d, .assign x, t, p, e, none⟩ :: rest) A K := fY hx h
theorem uJ {tg o : Nat} (hx : A.op fr x = .ptr tg o) (h : aV P fr ops rest (A.set d (.ptr tg o)) fun A' l' => K A' ((A, { d := some d, ty := .ptr tg o, rs := bR x }) :: l')) : aV P fr ops (⟨some d, .move x, t, p, e, none⟩ :: rest) A K := ej hx h
theorem RZ {tg o : Nat} (hx : A.op fr x = .ptr tg o) (h : aV P fr ops rest (A.set d (.ptr tg o)) fun A' l' => K A' ((A, { d := some d, ty := .ptr tg o, rs := bR x }) :: l')) : aV P fr ops (⟨some d, .assign x, t, p, e, none⟩ :: rest) A K := fY hx h
theorem uq (hx : A.op fr x = .jk l) (h : aV P fr ops rest (A.set d (.jk l)) fun A' l' => K A' ((A, { d := some d, ty := .jk l, rs := bR x }) :: l')) : aV P fr ops (⟨some d, .move x, t, p, e, none⟩ :: rest) A K := ej hx h
theorem Rr {f : Nat} (hx : A.op fr x = .jh f l) (h : aV P fr ops rest (A.set d (.jh f l)) fun A' l' => K A' ((A, { d := some d, ty := .jh f l, rs := bR x }) :: l')) : aV P fr ops (⟨some d, .move x, t, p, e, none⟩ :: rest) A K := ej hx h
theorem RK {f : Nat} (hx : A.op fr x = .jh f l) (h : aV P fr ops rest (A.set d (.jh f l)) fun A' l' => K A' ((A, { d := some d, ty := .jh f l, rs := bR x }) :: l')) : aV P fr ops (⟨some d, .assign x, t, p, e, none⟩ :: rest) A K := fY hx h
end
end Go.T
namespace Go.T
open Go Go.RowKit
theorem bG {t : Ty} {l : List Ty} (h : t.deps = []) (h' : bl l = []) : bl (t :: l) = [] := by simp only [bl, List.flatMap_cons, h, List.nil_append] at h' ⊢; exact h'
theorem bA {t : Ty} {l : List Ty} (h : t.cdeps = []) (h' : bL l = []) : bL (t :: l) = [] := by simp only [bL, List.flatMap_cons, h, List.nil_append] at h' ⊢; exact h'
def QI (P : Program) (t : Nat) (l1 l2 : List Ty) (c : Bool) : Prop :=
  P.eqGuardType P.depth t = false ∧ ∀ w M (cs ds : Array Value), bt w M l1 cs.toList → bt w M l2 ds.toList → (Op.equal t (.agg cs) (.agg ds)).run P w = .ok c w
section
variable {P : Program} {fr : Fr} {ops : Array Oper} {A : As} {rest : List Oper} {K : As → List (As × Fx) → Prop} {d : Nat} {t ty' ty2 : TypeId} {p : String} {e : Array Edge} {x y : Operand}
theorem NV {l1 l2 : List Ty} {c : Bool} (hE : QI P ty' l1 l2 c) (hx : A.op fr x = .agg l1) (hy : A.op fr y = .agg l2)
 (h : aV P fr ops rest (A.set d (.bool c)) fun A' l' => K A' ((A, { d := some d, ty := .bool c, rs := bR x ++ bR y }) :: l')) : aV P fr ops (⟨some d, .binOp .eql ty' x y ty2, t, p, e, none⟩ :: rest) A K :=
 bB (bH rfl rfl fun a w M _ hrd _ => by
  obtain ⟨hdx, hdy⟩ := op2 hrd
  rw [hx] at hdx; rw [hy] at hdy
  obtain ⟨cs, ex, h1⟩ := hdx
  obtain ⟨ds, ey, h2⟩ := hdy
  exact ⟨.bool c, by simp only [execOp, ex, ey]; simp [eqGuard, hE.1, binOp, hE.2 w M cs ds h1 h2], rfl⟩) h
theorem NM {l1 l2 : List Ty} {c : Bool} (hE : QI P ty' l1 l2 c) (hx : A.op fr x = .agg l1) (hy : A.op fr y = .agg l2)
 (h : aV P fr ops rest (A.set d (.bool (!c))) fun A' l' => K A' ((A, { d := some d, ty := .bool (!c), rs := bR x ++ bR y }) :: l')) : aV P fr ops (⟨some d, .binOp .neq ty' x y ty2, t, p, e, none⟩ :: rest) A K :=
 bB (bH rfl rfl fun a w M _ hrd _ => by
  obtain ⟨hdx, hdy⟩ := op2 hrd
  rw [hx] at hdx; rw [hy] at hdy
  obtain ⟨cs, ex, h1⟩ := hdx
  obtain ⟨ds, ey, h2⟩ := hdy
  exact ⟨.bool (!c), by simp only [execOp, ex, ey]; simp [eqGuard, hE.1, binOp, hE.2 w M cs ds h1 h2], rfl⟩) h
theorem Oo {ts : Array TypeId} {k : IntKind} {a b : Int} (hx : A.op fr x = .int k a) (hy : A.op fr y = .int k b)
 (h : aV P fr ops rest (A.set d (.int k (min a b))) fun A' l' => K A' ((A, { d := some d, ty := .int k (min a b), rs := bR x ++ bR y }) :: l')) : aV P fr ops (⟨some d, .call ⟨.builtin .min, #[x, y], ts⟩, t, p, e, none⟩ :: rest) A K :=
 bB (bH rfl rfl fun ac w M _ hrd _ => by
  obtain ⟨hdx, hdy⟩ := op2 hrd
  rw [hx] at hdx; rw [hy] at hdy
  have ex : ac.eval x = .int k a := hdx
  have ey : ac.eval y = .int k b := hdy
  refine ⟨.int k (min a b), ?_, rfl⟩
  simp [execOp, resolve, invoke, builtin, ex, ey, Builtin.min_, Builtin.min2]
  omega) h
theorem Oq {ts : Array TypeId} {k : IntKind} {a b : Int} (hx : A.op fr x = .int k a) (hy : A.op fr y = .int k b)
 (h : aV P fr ops rest (A.set d (.int k (max a b))) fun A' l' => K A' ((A, { d := some d, ty := .int k (max a b), rs := bR x ++ bR y }) :: l')) : aV P fr ops (⟨some d, .call ⟨.builtin .max, #[x, y], ts⟩, t, p, e, none⟩ :: rest) A K :=
 bB (bH rfl rfl fun ac w M _ hrd _ => by
  obtain ⟨hdx, hdy⟩ := op2 hrd
  rw [hx] at hdx; rw [hy] at hdy
  have ex : ac.eval x = .int k a := hdx
  have ey : ac.eval y = .int k b := hdy
  refine ⟨.int k (max a b), ?_, rfl⟩
  simp [execOp, resolve, invoke, builtin, ex, ey, Builtin.max_, Builtin.max2]
  omega) h
variable [T : k5 P]
theorem JR {α : Type} {E : El α} {Te tg : Nat} {xs : List α} {ti : TI} {el : Nat} (hx : A.op fr x = .row E Te tg xs) (hT : T.tab[ty']? = some ti) (hk : ti.k = .slice el)
 (h : aV P fr ops rest (A.set d (.int .i64 xs.length)) fun A' l' => K A' ((A, { d := some d, ty := .int .i64 xs.length, rs := bR x }) :: l')) :
 aV P fr ops (⟨some d, .call ⟨.builtin .len, #[x], #[ty']⟩, t, p, e, none⟩ :: rest) A K :=
 bB (bH rfl rfl fun a w M _ hrd _ => by
  have hdx := bk (x := x) (fun _ h => h) hrd
  rw [hx] at hdx
  obtain ⟨cs, hown, _⟩ := hdx
  obtain ⟨_, D, _, hD, hkd, _⟩ := cF hT
  rw [hk] at hkd
  cases D <;> simp only [TK.of, reduceCtorEq, TK.slice.injEq] at hkd
  rcases hown.2 with ⟨ex, h0⟩ | ⟨g, cap, cur, ex, _⟩
  ·exact ⟨.int .i64 xs.length, by simp [execOp, resolve, invoke, builtin, ex, Builtin.len_, run_underlying hD, goInt, h0], rfl⟩
  exact ⟨.int .i64 xs.length, by simp [execOp, resolve, invoke, builtin, ex, Builtin.len_, run_underlying hD, goInt], rfl⟩) h
theorem zC {tg n : Nat} {ti : TI} {el : Nat} (hx : A.op fr x = .vs tg n) (hT : T.tab[ty']? = some ti) (hk : ti.k = .slice el)
 (h : aV P fr ops rest (A.set d (.int .i64 n)) fun A' l' => K A' ((A, { d := some d, ty := .int .i64 n, rs := bR x }) :: l')) :
 aV P fr ops (⟨some d, .call ⟨.builtin .len, #[x], #[ty']⟩, t, p, e, none⟩ :: rest) A K :=
 bB (bH rfl rfl fun a w M _ hrd _ => by
  have hdx := bk (x := x) (fun _ h => h) hrd
  rw [hx] at hdx
  obtain ⟨_, D, _, hD, hkd, _⟩ := cF hT
  rw [hk] at hkd
  cases D <;> simp only [TK.of, reduceCtorEq, TK.slice.injEq] at hkd
  rcases hdx with ⟨h0, ex⟩ | ⟨b, c, _, ex, _⟩
  ·exact ⟨.int .i64 n, by simp [execOp, resolve, invoke, builtin, ex, Builtin.len_, run_underlying hD, goInt, h0], rfl⟩
  exact ⟨.int .i64 n, by simp [execOp, resolve, invoke, builtin, ex, Builtin.len_, run_underlying hD, goInt], rfl⟩) h
theorem q7 {ti : TI} {el : Nat} (hx : A.op fr x = .ex (.slice none 0 0)) (hT : T.tab[ty']? = some ti) (hk : ti.k = .slice el)
 (h : aV P fr ops rest (A.set d (.int .i64 0)) fun A' l' => K A' ((A, { d := some d, ty := .int .i64 0, rs := bR x }) :: l')) :
 aV P fr ops (⟨some d, .call ⟨.builtin .len, #[x], #[ty']⟩, t, p, e, none⟩ :: rest) A K :=
 bB (bH rfl rfl fun a w M _ hrd _ => by
  have hdx := bk (x := x) (fun _ h => h) hrd
  rw [hx] at hdx
  have ex : a.eval x = .slice none 0 0 := hdx
  obtain ⟨_, D, _, hD, hkd, _⟩ := cF hT
  rw [hk] at hkd
  cases D <;> simp only [TK.of, reduceCtorEq, TK.slice.injEq] at hkd
  exact ⟨.int .i64 0, by simp [execOp, resolve, invoke, builtin, ex, Builtin.len_, run_underlying hD, goInt], rfl⟩) h
theorem IX {α : Type} [Inhabited α] {E : El α} {Te tg : Nat} {xs : List α} {w : World} {M : ah} {v : Value} (h : ew E Te tg xs w M v) {i : Nat} (hi : i < xs.length) :
 ∃ g cap, v = .slice (some ⟨g, 0, none⟩) xs.length cap ∧ M g = some tg ∧ ∀ (j : Nat) (t : Ty), (E.tys (nth xs i))[j]? = some t → ∃ u, w.cell? ⟨g, i * E.size + j, none⟩ = some u ∧ t.den w M u := by
 obtain ⟨cs, hown, hd, hM⟩ := h
 rcases hown.2 with ⟨_, h0⟩ | ⟨g, cap, cur, ex, _, hh, _, _, _, htk⟩
 ·omega
 refine ⟨g, cap, ex, hM g (by rw [ex]; rfl), fun j t hj => ?_⟩
 obtain ⟨u, hu, hdu⟩ := dF hd _ t (l6 E xs hi j t hj)
 refine ⟨u, ?_, hdu⟩
 rw [← htk, List.getElem?_take] at hu
 split at hu
 ·simpa [World.cell?, hh] using hu
 cases hu
end
end Go.T
namespace Go.T
open Go Go.RowKit
section
variable {P : Program} {A : As} {fn : Func} {n : Nat} {w0 : World} {M0 : ah} [T : k5 P]
theorem xk {tm ty tg Tb : Nat} {l : List Ty} {ti : TI} {res : Ty} (hr : fn.results = #[.cell tm ty]) (ht : Nat.blt tm n = true) (hx : A.slots tm = .ptr tg 0) (hc : A.tag tg = some (.cells Tb l)) (h1 : e8 tg) (hT : T.tab[ty]? = some ti) (ha : ti.k.agg = true) (hl : l.length = ti.size) (hs : eu (.agg l) res) :
 cm ⟨n, w0, M0, [], .plain⟩ A (bodyPost P fn (jY w0 M0 res) .ret) := by
 intro a w ⟨M, ok, hsl, htg⟩
 have hd := hsl tm (by simpa using ht)
 rw [hx] at hd
 obtain ⟨b, hb, e⟩ := hd
 obtain ⟨b', cs, hb', hh, hds⟩ := htg _ (cM hc)
 obtain ⟨u, rfl⟩ : ∃ u, tg = u + 1 := ⟨tg - 1, by omega⟩
 have := ok.wf.inj b b' u (by omega) hb hb'
 subst this
 have hlen := bw hds
 have hload := fX (P := P) hT ha (w := w) (b := b) (off := 0) (cs := cs.toList) (by rw [hlen, hl]) (fun j v hj => by simpa [World.cell?, hh] using hj)
 have hload' : (loadVar ty ⟨b, 0, none⟩).run P w = .ok (.agg cs) w := by simpa [Instr.loadAt, Instr.sureAddr] using hload
 refine ⟨ok.eD (by simp), .agg cs, ?_, _, oz M, rfl, ot ok.wf, mN (fr := ⟨n, w0, M0, [], .plain⟩) (fun _ h => h) ok.base, hs _ _ _ ok.wf ⟨cs, rfl, hds⟩⟩
 have e' : a.tmps.getD tm undef = .pointer (some ⟨b, 0, none⟩) := e
 have e'' : a.tmps[tm]?.getD undef = .pointer (some ⟨b, 0, none⟩) := by rw [← Array.getD_eq_getD_getElem?]; exact e'
 simp [results, hr, e'', asAddr, hload']
end
end Go.T
namespace Go.T
open Go Go.RowKit
def Iy : List Ty → List Ty → Prop
  | [], [] => True
  | s :: ss, t :: ts => s.Sub t ∧ Iy ss ts
  | _, _ => False
theorem dU : Iy [] [] := trivial
theorem cQ {s t : Ty} {ss ts : List Ty} (h' : Iy ss ts) (h : s.Sub t) : Iy (s :: ss) (t :: ts) := ⟨h, h'⟩
theorem Bv {w : World} {M : ah} : ∀ {ss ts : List Ty} {vs : List Value}, Iy ss ts → bt w M ss vs → bt w M ts vs
  | [], [], [], _, _ => trivial
  | _ :: _, _ :: _, _ :: _, ⟨h, h'⟩, ⟨h1, h2⟩ => ⟨h _ _ _ h1, Bv h' h2⟩
theorem Cont.dV {T : Nat} {l l' : List Ty} (h : Iy l l') : (Cont.cells T l).Sub (Cont.cells T l') := fun _ _ _ ⟨b, cs, h1, h2, h3⟩ => ⟨b, cs, h1, h2, Bv h h3⟩
def nM (tg : Nat) (l : List Ty) (w : World) (M : ah) (v : Value) : Prop :=
  ∃ b off, v = .pointer (some ⟨b, off, none⟩) ∧ M b = some tg ∧ ∀ (i : Nat) (t : Ty), l[i]? = some t → ∃ u, w.cell? ⟨b, off + i, none⟩ = some u ∧ t.den w M u
def Ty.op (tg : Nat) (l : List Ty) : Ty :=
  ⟨nM tg l, tg :: bl l, tg :: bL l, fun le hk hs ⟨b, off, e, hb, h⟩ => by
    obtain ⟨h4, h5⟩ := le.own b tg hb (hk tg List.mem_cons_self)
    refine ⟨b, off, e, h4, fun i t hi => ?_⟩
    obtain ⟨v, hc, hd⟩ := h i t hi
    refine ⟨v, ?_, t.mono le (fun u hu => hk u ?_) (fun u hu => hs u ?_) hd⟩
    · rw [← hc]; exact World.cell?_of_block (h5 (hs tg List.mem_cons_self))
    · exact List.mem_cons_of_mem _ (List.mem_flatMap.2 ⟨t, List.mem_of_getElem? hi, hu⟩)
    · exact List.mem_cons_of_mem _ (List.mem_flatMap.2 ⟨t, List.mem_of_getElem? hi, hu⟩), true, fun _ ⟨_, _, e, _⟩ => e ▸ rfl⟩
theorem FO {w : World} {M : ah} {b off : Nat} {l : List Ty} (h : ∀ (i : Nat) (t : Ty), l[i]? = some t → ∃ u, w.cell? ⟨b, off + i, none⟩ = some u ∧ t.den w M u) : ∀ n, n ≤ l.length → ∃ cs : List Value, cs.length = n ∧ bt w M (l.take n) cs ∧ ∀ j v, cs[j]? = some v → w.cell? ⟨b, off + j, none⟩ = some v := by
  intro n
  induction n with
  | zero => exact fun _ => ⟨[], rfl, trivial, fun j v h => by simp at h⟩
  | succ n ih =>
    intro hn
    obtain ⟨cs, h1, h2, h3⟩ := ih (by omega)
    obtain ⟨v, hv, hd⟩ := h n l[n] (List.getElem?_eq_getElem (by omega))
    refine ⟨cs ++ [v], by simp [h1], ?_, fun j u hj => ?_⟩
    · rw [List.take_succ_eq_append_getElem (by omega)]
      exact kU h2 ⟨hd, trivial⟩
    · rcases Nat.lt_or_ge j cs.length with hj' | hj'
      · rw [List.getElem?_append_left hj'] at hj; exact h3 j u hj
      · rw [List.getElem?_append_right hj'] at hj
        have : j = n := by
          rcases Nat.lt_or_ge (j - cs.length) 1 with h | h
          · omega
          · rw [List.getElem?_eq_none (by simpa using h)] at hj; cases hj
        subst this
        rw [h1, Nat.sub_self] at hj
        simp at hj; subst hj; exact hv
section
variable {P : Program} {fr : Fr} {ops : Array Oper} {A : As} {rest : List Oper} {K : As → List (As × Fx) → Prop} {d : Nat} {t ty' : TypeId} {p : String} {e : Array Edge} [T : k5 P]
theorem DI {α : Type} [Inhabited α] {x y : Operand} {E : El α} {Te tg : Nat} {xs : List α} {k : IntKind} {i : Nat} {ti te : TI} {el : Nat} (hx : A.op fr x = .row E Te tg xs) (hy : A.op fr y = .int k i) (hT : T.tab[ty']? = some ti) (hk : ti.k = .slice el) (hE : T.tab[el]? = some te) (hs : te.size = E.size)
 (h1 : i < xs.length)
 (h : aV P fr ops rest (A.set d (.op tg (E.tys (nth xs i)))) fun A' l' => K A' ((A, { d := some d, ty := .op tg (E.tys (nth xs i)), rs := bR x ++ bR y }) :: l')) : aV P fr ops (⟨some d, .indexAddr ty' x y, t, p, e, none⟩ :: rest) A K :=
 bB (bH rfl rfl fun a w M _ hr _ => by
  obtain ⟨hdx, hdy⟩ := op2 hr
  rw [hx] at hdx; rw [hy] at hdy
  obtain ⟨g, cap, ex, hg, hc⟩ := IX hdx h1
  have ey : a.eval y = .int k i := hdy
  refine ⟨_, by simp only [execOp, ex, ey, Sem.run_bind, gj hT hk hE (Int.natCast_nonneg i) (show (i : Int).toNat < xs.length from h1)]; rfl, g, 0 + i * te.size, by simp, hg, fun j ty hj => ?_⟩
  obtain ⟨u, hu, hd⟩ := hc j ty hj
  exact ⟨u, by rw [hs, Nat.zero_add]; exact hu, hd⟩) h
theorem JK {x : Operand} {tg : Nat} {l : List Ty} {ti : TI} {ty : Ty} (hx : A.op fr x = .op tg l) (hT : T.tab[ty']? = some ti) (ha : ti.k.agg = false) (hl : l[0]? = some ty)
 (h : aV P fr ops rest (A.set d ty) fun A' l => K A' ((A, { d := some d, ty := ty, rs := bR x }) :: l)) : aV P fr ops (⟨some d, .load ty' x, t, p, e, none⟩ :: rest) A K :=
 bB (bH rfl rfl fun a w M _ hr _ => by
  have := bk (x := x) (fun _ h => h) hr
  rw [hx] at this
  obtain ⟨b, off, e, _, hp⟩ := this
  obtain ⟨v, hv, hd⟩ := hp 0 ty hl
  have hv' : w.cell? ⟨b, off, none⟩ = some v := hv
  exact ⟨v, by simp [execOp, e, lZ hT ha hv'], hd⟩) h
theorem zV {x : Operand} {tg : Nat} {l : List Ty} {ti : TI} (hx : A.op fr x = .op tg l) (hT : T.tab[ty']? = some ti) (ha : ti.k.agg = true) (hl : ti.size ≤ l.length)
 (h : aV P fr ops rest (A.set d (.agg (l.take ti.size))) fun A' l' => K A' ((A, { d := some d, ty := .agg (l.take ti.size), rs := bR x }) :: l')) : aV P fr ops (⟨some d, .load ty' x, t, p, e, none⟩ :: rest) A K :=
 bB (bH rfl rfl fun a w M _ hr _ => by
  have := bk (x := x) (fun _ h => h) hr
  rw [hx] at this
  obtain ⟨b, off, e, _, hp⟩ := this
  obtain ⟨cs, h1, h2, h3⟩ := FO hp _ hl
  exact ⟨.agg cs.toArray, by simp [execOp, e, fX hT ha h1 h3], cs.toArray, rfl, by simpa using h2⟩) h
end
section
variable {P : Program} {fr : Fr} {A : As} {Q : Exit → Act → World → Prop} {c : Code}
theorem LP {α : Type} {E : El α} {T tg s : Nat} {xs : List α} (hs : Nat.blt s fr.n = true) (hx : A.slots s = .row E T tg xs)
    (h : eU P fr c ⟨fun i => bif Nat.beq i s then .vs tg xs.length else A.slots i, (tg, .vec E T xs) :: A.tags⟩ Q) : eU P fr c A Q := fun a w ⟨M, ok, hsl, ht⟩ => by
  have hd := hsl s (by simpa using hs)
  rw [hx] at hd
  obtain ⟨cs, h1, h2, h3⟩ := hd
  have key : m4 tg xs.length w M (a.tmps.getD s undef) ∧ fA E T xs w M tg := by
    rcases h1.2 with ⟨e, h0⟩ | ⟨g, cap, cur, ex, _, hh, hn1, hcap, _, htk⟩
    · exact ⟨.inl ⟨h0, e⟩, .inl (List.length_eq_zero_iff.1 h0)⟩
    · have hg : M g = some tg := h3 g (by rw [ex]; rfl)
      exact ⟨.inr ⟨g, cap, hg, ex, hn1, hcap⟩, .inr ⟨g, cur, hg, hh, by rw [cg, htk]; exact h2⟩⟩
  refine h a w ⟨M, ok, fun i hi => ?_, fun x hx => ?_⟩
  · cases hb : Nat.beq i s with
    | false => simpa only [hb, cond_false] using hsl i hi
    | true =>
      have : i = s := Nat.eq_of_beq_eq_true hb
      subst this
      simp only [hb, cond_true]
      exact key.1
  · rcases List.mem_cons.1 hx with rfl | hx
    · exact key.2
    · exact ht x hx
def eK (M : ah) (tg : Nat) : ah := fun b => if M b = some tg then none else M b
theorem iI {w : World} {M : ah} {tg : Nat} : Le (· ∈ ([] : List Nat)) (· ∈ [tg]) w M w (eK M tg) :=
 ⟨Nat.le_refl _, rfl, rfl, rfl, fun b _ hm => ⟨by simp [eK, hm], rfl⟩, fun b t hm hk => ⟨by simp only [List.mem_singleton] at hk; simp [eK, hm, hk], fun _ => rfl⟩⟩
theorem CE {w : World} {M : ah} {tg : Nat} (wf : Wf w M) : Wf w (eK M tg) := by
 have key : ∀ b t, eK M tg b = some t → M b = some t := fun b t h => by
  unfold eK at h; split at h
  ·cases h
  exact h
 exact ⟨fun b t h => wf.lt b t (key b t h), fun b b' t ht1 h h' => wf.inj b b' t ht1 (key _ _ h) (key _ _ h')⟩
def Bu (A : As) (tg s : Nat) (t : Ty) : Prop := ∀ w M v, Wf w M → (∀ x ∈ A.tags, x.2.den w M x.1) → (A.slots s).den w M v → t.den w (eK M tg) v
def GC (A : As) (tg : Nat) : List (Nat × Ty) → Prop
  | [] => True
  | x :: l => Bu A tg x.1 x.2 ∧ GC A tg l
def p7 (l : List (Nat × Ty)) (s : Nat → Ty) : Nat → Ty := fun i => match l with | [] => s i | (d, t) :: l => bif Nat.beq i d then t else p7 l s i
def As.oK (A : As) (tg : Nat) (l : List (Nat × Ty)) : As := ⟨p7 l (fC [] [tg] A.slots), oJ [] [tg] A.tags⟩
theorem mC {tg : Nat} (l : List (Nat × Ty)) (h1 : 1 ≤ tg) (hp : fr.pass.contains tg = false) (hl : GC A tg l) (h : eU P fr c (A.oK tg l) Q) : eU P fr c A Q := fun a w ⟨M, ok, hsl, ht⟩ => by
  have le : Le (· ∈ ([] : List Nat)) (· ∈ [tg]) w M w (eK M tg) := iI
  refine h a w ⟨eK M tg, ⟨CE ok.wf, Fr.jF ok.base (by intro _ h; cases h) (fun t ht => by simp only [List.mem_singleton] at ht; subst ht; exact ⟨h1, by simpa using hp⟩) le, ok.size, ok.defers.step (by intro _ h; cases h) (fun t ht => by simp only [List.mem_singleton] at ht; subst ht; exact h1) le⟩, fun i hi => ?_, fun x hx => gb le hx fun y hy _ => ht y hy⟩
  have base : (fC [] [tg] A.slots i).den w (eK M tg) (a.tmps.getD i undef) := by
    rcases ep [] [tg] A.slots i with ⟨e, hdj⟩ | ⟨_, e⟩
    · rw [e]; exact (A.slots i).mono le (eJ hdj).1 (eJ hdj).2 (hsl i hi)
    · rw [e]; trivial
  show (p7 l (fC [] [tg] A.slots) i).den _ _ _
  clear h
  induction l with
  | nil => exact base
  | cons x l ih =>
    obtain ⟨d, t⟩ := x
    unfold p7
    cases hb : Nat.beq i d with
    | false => simp only [cond_false]; exact ih hl.2
    | true =>
      have : i = d := Nat.eq_of_beq_eq_true hb
      subst this
      simp only [cond_true]
      exact hl.1 w M _ ok.wf ht (hsl i hi)
theorem Of {α : Type} {E : El α} {T tg s : Nat} {xs : List α} (hx : A.slots s = .row E T tg xs) : Bu A tg s (.sl E xs) := fun w M v wf _ hd => by
 rw [hx] at hd
 exact yK wf hd (fun b hb => by simp [eK, hb]) (fun b hb => by simp [eK, hb])
theorem DK {α : Type} {E : El α} {T tg s n : Nat} {xs : List α} (hx : A.slots s = .vs tg n) (hc : A.tag tg = some (.vec E T xs)) (hn : xs.length = n) (h1 : e8 tg) : Bu A tg s (.sl E xs) := fun w M v wf ht hd => by
 rw [hx] at hd
 have hv : fA E T xs w M tg := ht _ (cM hc)
 subst hn
 rcases hd with ⟨h0, rfl⟩ | ⟨b, cc, hb, e, hn1, hn2⟩
 ·exact ⟨none, 0, by rw [h0], by omega, by simp [maxLen], fun h => absurd h (by omega)⟩
 refine ⟨_, cc, e, hn1, hn2, fun _ => ⟨b, 0, rfl, by simp [eK, hb], wf.lt b _ hb, fun i t hi => ?_⟩⟩
 obtain ⟨u, hu, hdu⟩ := kg wf h1 hb hv hi
 refine ⟨u, by rw [Nat.zero_add]; exact hu, t.mono (iI (w := w)) ?_ ?_ hdu⟩
 ·intro u hu
  have : u ∈ bl (xs.flatMap E.tys) := List.mem_flatMap.2 ⟨t, List.mem_of_getElem? hi, hu⟩
  rw [E.cW] at this; cases this
 intro u _ h; cases h
theorem ow {T tg s off : Nat} {l : List Ty} (hx : A.slots s = .ptr tg off) (hc : A.tag tg = some (.cells T l)) (hd : kJ (bl l) [tg] = true) (h1 : e8 tg) : Bu A tg s (.pp (l.drop off)) := fun w M v wf ht hv => by
 rw [hx] at hv
 obtain ⟨b, hb, e⟩ := hv
 have hcc : (Cont.cells T l).den w M tg := ht _ (cM hc)
 refine ⟨b, off, e, by simp [eK, hb], wf.lt b _ hb, fun i t hi => ?_⟩
 rw [List.getElem?_drop] at hi
 obtain ⟨u, hu, hdu⟩ := Dl wf h1 hb hcc hi
 refine ⟨u, hu, t.mono (iI (w := w)) ?_ ?_ hdu⟩
 ·intro u hu
  exact fK hd u (List.mem_flatMap.2 ⟨t, List.mem_of_getElem? hi, hu⟩)
 intro u _ h; cases h
end
end Go.T
namespace Go.T
open Go Go.RowKit
section
variable {P : Program} {fr : Fr} {ops : Array Oper} {A : As} {rest : List Oper} {K : As → List (As × Fx) → Prop} {d : Nat} {t ty' : TypeId} {p : String} {e : Array Edge}
def wO (w : World) (M M' : ah) (tg g : Nat) : ah := fun b => if b < w.heap.size ∧ M b ≠ some tg then M b else if M' b = some g then some tg else none
theorem K9 {α : Type} {E : El α} {T tg tg' : Nat} {xs : List α} {w : World} {M M' : ah} {v : Value} (h : ew E T tg xs w M v) (hM : ∀ b, M b = some tg → M' b = some tg') (hn : ∀ b, M b = none → M' b = none) : ew E T tg' xs w M' v := by
 obtain ⟨cs, h1, h2, h3⟩ := h
 refine ⟨cs, h1, ?_, fun g hg => hM g (h3 g hg)⟩
 exact bV (S := fun _ => True) (K := fun _ => True) ⟨Nat.le_refl _, rfl, rfl, rfl, fun b _ hm => ⟨hn b hm, rfl⟩, fun b t _ h => absurd trivial h⟩ (by rw [E.cW]; intro _ h; cases h) (by rw [E.cC]; intro _ h; cases h) h2
def oQ (w : World) (M : ah) (L : List Nat) : ah := fun b => if b < w.heap.size then (match M b with | none => none | some t => if t ∈ L then none else some t) else none
theorem F6 {L : List Nat} {w w' : World} {M M' : ah} {res : Ty} {r : Value} (wf : Wf w M) (le : Le (fun t => 1 ≤ t) (fun t => 1 ≤ t) w (lM M L) w' M') (hd : res.deps = []) (hdc : res.cdeps = []) (hr : res.den w' M' r) :
    Wf w' (oQ w M L) ∧ Le (· ∈ ([] : List Nat)) (· ∈ L) w M w' (oQ w M L) ∧ res.den w' (oQ w M L) r := by
  have hold : ∀ b, b < w.heap.size → w'.heap[b]? = w.heap[b]? := fun b hb => by
    cases hm : lM M L b with
    | none => exact (le.oK b hb hm).2
    | some t =>
      have := jy _ _ hm
      subst this
      exact (le.own b 0 hm (by omega)).2 (by omega)
  have key : ∀ b t, oQ w M L b = some t → M b = some t ∧ b < w.heap.size := fun b t h => by
    unfold oQ at h
    split at h
    · split at h
      · cases h
      · split at h
        · cases h
        · rename_i hb _ _ hm _; injection h with h; subst h; exact ⟨hm, hb⟩
    · cases h
  refine ⟨⟨fun b t h => Nat.lt_of_lt_of_le (key b t h).2 le.size, fun b b' t ht1 h h' => wf.inj b b' t ht1 (key _ _ h).1 (key _ _ h').1⟩, ⟨le.size, le.os, le.tape, le.out, fun b hb hm => ⟨by simp [oQ, hm], hold b hb⟩, fun b t hm hk => ⟨by simp [oQ, wf.lt b t hm, hm, hk], fun _ => hold b (wf.lt b t hm)⟩⟩, ?_⟩
  refine res.mono (S := fun _ => True) (K := fun _ => True) ⟨Nat.le_refl _, rfl, rfl, rfl, fun b _ hm => ⟨?_, rfl⟩, fun b t _ h => absurd trivial h⟩ (by rw [hd]; intro _ h; cases h) (by rw [hdc]; intro _ h; cases h) hr
  cases hc : oQ w M L b with
  | none => rfl
  | some t =>
    exfalso
    obtain ⟨hmb, hb⟩ := key b t hc
    have hL : t ∉ L := fun h => by simp [oQ, hb, hmb, h] at hc
    have hl : lM M L b = some 0 := by simp [lM, hmb, hL]
    have := (le.own b 0 hl (by omega)).1
    rw [hm] at this; cases this
theorem Oa (L : List Nat) {f : FuncId} {args : List Ty} {res : Ty} (hF : cy P f args res) {xs : List Operand} {ats : Array TypeId} {ss : List Ty} (hx : jr A fr xs = ss) (hl : r6 L ss args) (hr : res.deps = []) (hrc : res.cdeps = []) (h1 : ∀ u ∈ L, 1 ≤ u ∧ u ∉ fr.pass)
 (h : aV P fr ops rest (A.after { d := some d, ty := res, K := L, rs := xs.flatMap bR }) fun A' l => K A' ((A, { d := some d, ty := res, K := L, rs := xs.flatMap bR }) :: l)) : aV P fr ops (⟨some d, .call ⟨.value (.func f), xs.toArray, ats⟩, t, p, e, none⟩ :: rest) A K := by
 refine ⟨{ d := some d, ty := res, K := L, rs := xs.flatMap bR }, ⟨rfl, by simp, by simp, h1, fun a w M wf _ hrd _ => ?_⟩, h⟩
 rw [if_pos (by simp [Region.wanted])]
 have hv : bt w M ss (xs.map a.eval) := hx ▸ dw hrd fun x hx c hc => List.mem_flatMap.2 ⟨x, hx, hc⟩
 have hc := hF.2 w _ _ (xm (L := L) wf) jy (j4 wf hl hv)
 have hrun : (execOp a.eval ⟨some d, .call ⟨.value (.func f), xs.toArray, ats⟩, t, p, e, none⟩).run P w = .ok (.enter f (xs.map a.eval).toArray) w := by
  simp [execOp, resolve, Act.eval, Deferred.ofValue, invoke, iK hF]
 refine eZ hrun ?_
 refine hc.mono fun en w' ⟨r, M', he, _, le, hden⟩ => ?_
 obtain ⟨h1, h2, h3⟩ := F6 wf le hr hrc hden
 exact ⟨r, he, r, rfl, _, h1, h2, h3, by simp⟩
end
section
variable {P : Program} {fr : Fr} {ops : Array Oper} {A : As} {rest : List Oper} {K : As → List (As × Fx) → Prop} {d : Nat} {t ty' : TypeId} {p : String} {e : Array Edge} [T : k5 P]
theorem ox {α : Type} {E : El α} {el : Nat} {ti te : TI} (hT : T.tab[ty']? = some ti) (hk : ti.k = .slice el) (hE : T.tab[el]? = some te) (hp : fr.pass.contains (d + 1) = false)
 (h : aV P fr ops rest (A.after { d := some d, ty := .row E el (d + 1) [], K := [d + 1] }) fun A' l' => K A' ((A, { d := some d, ty := .row E el (d + 1) [], K := [d + 1] }) :: l')) :
 aV P fr ops (⟨some d, .buildSlice ty' 0 #[], t, p, e, none⟩ :: rest) A K := by
 refine ⟨_, fH rfl rfl (by simp) (by simp) (by simp at hp ⊢; exact hp) fun a w M wf hr _ => ?_, h⟩
 obtain ⟨_, D, _, hD, hkd, _⟩ := cF hT
 rw [hk] at hkd
 cases D <;> simp only [TK.of, reduceCtorEq, TK.slice.injEq] at hkd
 rename_i el0
 have hel : el0 = el := hkd
 subst hel
 obtain ⟨h1, h2, h3⟩ := jS wf (.cells #[] el0) (d + 1)
 refine ⟨.slice (some ⟨w.heap.size, 0, none⟩) 0 0, w.alloc (.cells #[] el0), ?_, _, h1, h2, ⟨[], ⟨by simp, .inr ⟨w.heap.size, 0, #[], rfl, Nat.zero_le _, fD _ _, Nat.le_refl _, by simp [maxLen], by simp, by simp⟩⟩, trivial, ?_⟩, by simp⟩
 ·simp only [execOp, Instr.buildSlice, Sem.run_bind, run_underlying hD, Result.andThen_ok, bz hE]
  simp [newRow, newObj, Sem.run, Instr.fill, show Array.range 0 = #[] from rfl, Sem.new]
 intro g hg
 simp [Value.ownBlock] at hg
 subst hg; exact h3
end
end Go.T
namespace Go.T
open Go Go.RowKit
def rS (P : Program) (t : Ty) (args : List Ty) (res : Ty) : Prop :=
  res.deps = [] ∧ res.cdeps = [] ∧ ∃ f full, cy P f full res ∧ bl full = [] ∧ bL full = [] ∧
    ∀ w M v vs, t.den w M v → bt w M args vs → ∃ first caps : Array Value, v = .func (.func f) first caps ∧ bt w M full (first.toList ++ (vs ++ caps.toList))
def RW (f : FuncId) (bd : List Ty) (w : World) (M : ah) (x : Value) : Prop := ∃ bs : Array Value, x = .func (.func f) bs #[] ∧ bt w M bd bs.toList
def Ty.Mx (f : FuncId) (bd : List Ty) : Ty := ⟨RW f bd, bl bd, bL bd, fun le hk hs ⟨bs, e, h⟩ => ⟨bs, e, bV le hk hs h⟩, true, fun _ ⟨_, e, _⟩ => e ▸ rfl⟩
theorem zZ {l l' : List Ty} : bl (l ++ l') = bl l ++ bl l' := by simp [bl]
theorem wQ {l l' : List Ty} : bL (l ++ l') = bL l ++ bL l' := by simp [bL]
theorem dM {P : Program} {f : FuncId} {caps args : List Ty} {res : Ty} (hF : cy P f (args ++ caps) res) (h1 : bl args = []) (h2 : bL args = []) (h3 : bl caps = []) (h4 : bL caps = []) (h5 : res.deps = []) (h6 : res.cdeps = []) : rS P (.jh f caps) args res :=
 ⟨h5, h6, f, args ++ caps, hF, by rw [zZ, h1, h3]; rfl, by rw [wQ, h2, h4]; rfl, fun w M v vs ⟨cs, e, hd⟩ hv => ⟨#[], cs, e, by show bt w M (args ++ caps) (vs ++ cs.toList); exact dO hv hd⟩⟩
theorem uE {P : Program} {f : FuncId} {bd args : List Ty} {res : Ty} (hF : cy P f (bd ++ args) res) (h1 : bl args = []) (h2 : bL args = []) (h3 : bl bd = []) (h4 : bL bd = []) (h5 : res.deps = []) (h6 : res.cdeps = []) : rS P (.Mx f bd) args res :=
 ⟨h5, h6, f, bd ++ args, hF, by rw [zZ, h1, h3]; rfl, by rw [wQ, h2, h4]; rfl, fun w M v vs ⟨bs, e, hd⟩ hv => ⟨bs, #[], e, by rw [List.append_nil]; exact dO hd hv⟩⟩
section
variable {P : Program} {fr : Fr} {ops : Array Oper} {A : As} {rest : List Oper} {K : As → List (As × Fx) → Prop} {d : Nat} {t ty' : TypeId} {p : String} {e : Array Edge}
theorem rA {f : FuncId} {xs : List Operand} {l : List Ty} (hx : jr A fr xs = l)
 (h : aV P fr ops rest (A.set d (.Mx f l)) fun A' l' => K A' ((A, { d := some d, ty := .Mx f l, rs := xs.flatMap bR }) :: l')) : aV P fr ops (⟨some d, .makeFunc (.func f) xs.toArray #[], t, p, e, none⟩ :: rest) A K :=
 bB (bH rfl rfl fun a w M _ hr _ => by
  have hv : bt w M l (xs.map a.eval) := hx ▸ dw hr fun x hx c hc => List.mem_flatMap.2 ⟨x, hx, hc⟩
  exact ⟨.func (.func f) (xs.map a.eval).toArray #[], by simp [execOp, Instr.makeFunc], _, rfl, by simpa using hv⟩) h
theorem gH {c : Nat} {tc : Ty} {args : List Ty} {res : Ty} (hc : A.op fr (.tmp c) = tc) (hF : rS P tc args res) {xs : List Operand} {ats : Array TypeId} (hx : jr A fr xs = args)
 (h : aV P fr ops rest (A.set d res) fun A' l => K A' ((A, { d := some d, ty := res, rs := c :: xs.flatMap bR }) :: l)) : aV P fr ops (⟨some d, .call ⟨.value (.tmp c), xs.toArray, ats⟩, t, p, e, none⟩ :: rest) A K := by
 refine ⟨{ d := some d, ty := res, rs := c :: xs.flatMap bR }, ⟨rfl, (by simp), (by simp), (by simp), fun a w M wf _ hrd _ => ?_⟩, h⟩
 rw [if_pos (by simp [Region.wanted])]
 obtain ⟨hr, hrc, f, full, hC, hd, hdc, hval⟩ := hF
 have hcv := bk (x := .tmp c) (fun u hu => by exact (List.mem_singleton.1 hu) ▸ List.mem_cons_self) hrd
 rw [hc] at hcv
 obtain ⟨first, caps, ec, hfull⟩ := hval w M _ _ hcv (hx ▸ dw hrd fun x hx c hc => List.mem_cons_of_mem _ (List.mem_flatMap.2 ⟨x, hx, hc⟩))
 have hcall := hC.2 w _ _ (CT wf) uH (lU hd hdc hfull)
 have hrun : (execOp a.eval ⟨some d, .call ⟨.value (.tmp c), xs.toArray, ats⟩, t, p, e, none⟩).run P w = .ok (.enter f (first.toList ++ (xs.map a.eval ++ caps.toList)).toArray) w := by
  simp [execOp, resolve, ec, Deferred.ofValue, invoke, iK hC]
 refine eZ hrun ?_
 refine hcall.mono fun en w' ⟨r, M', he, _, le, hden⟩ => ?_
 obtain ⟨h1, h2, h3⟩ := vN wf le hr hrc hden
 exact ⟨r, he, r, rfl, _, h1, h2, h3, by simp⟩
end
end Go.T
namespace Go.T
open Go Go.RowKit
def ij (a b : Nat) : Nat := (BitVec.ofNat 64 a &&& ~~~BitVec.ofNat 64 b).toNat
theorem tQ {n : Nat} (h : n < 9223372036854775808) : IntKind.i64.wrap (n : Int) = n := IntWalk.i64_in _ (by omega)
theorem LB {a b : Nat} (ha : a < 9223372036854775808) (hb : b < 9223372036854775808) : bits .and .i64 a b = ((a &&& b : Nat) : Int) := by
 have h : (BitVec.ofInt 64 (a : Int) &&& BitVec.ofInt 64 (b : Int)).toNat = a &&& b := by
  rw [BitVec.ofInt_natCast, BitVec.ofInt_natCast, BitVec.toNat_and, BitVec.toNat_ofNat, BitVec.toNat_ofNat, Nat.mod_eq_of_lt (by omega), Nat.mod_eq_of_lt (by omega)]
 show IntKind.i64.wrap (((BitVec.ofInt 64 (a : Int) &&& BitVec.ofInt 64 (b : Int)).toNat : Nat) : Int) = _
 rw [h, tQ (Nat.lt_of_le_of_lt Nat.and_le_left ha)]
theorem N2 {a b : Nat} (ha : a < 9223372036854775808) (hb : b < 9223372036854775808) : bits .or .i64 a b = ((a ||| b : Nat) : Int) := by
 have h : (BitVec.ofInt 64 (a : Int) ||| BitVec.ofInt 64 (b : Int)).toNat = a ||| b := by
  rw [BitVec.ofInt_natCast, BitVec.ofInt_natCast, BitVec.toNat_or, BitVec.toNat_ofNat, BitVec.toNat_ofNat, Nat.mod_eq_of_lt (by omega), Nat.mod_eq_of_lt (by omega)]
 show IntKind.i64.wrap (((BitVec.ofInt 64 (a : Int) ||| BitVec.ofInt 64 (b : Int)).toNat : Nat) : Int) = _
 rw [h, tQ (show a ||| b < 2 ^ 63 from Nat.or_lt_two_pow (by omega) (by omega))]
theorem KJ (a b : Nat) (ha : a < 9223372036854775808) : ij a b ≤ a := by
 unfold ij
 rw [BitVec.toNat_and, BitVec.toNat_ofNat, Nat.mod_eq_of_lt (by omega)]
 exact Nat.and_le_left
theorem FX {a b : Nat} (ha : a < 9223372036854775808) : bits .andNot .i64 a b = ((ij a b : Nat) : Int) := by
 show IntKind.i64.wrap (((BitVec.ofInt 64 (a : Int) &&& ~~~BitVec.ofInt 64 (b : Int)).toNat : Nat) : Int) = _
 rw [BitVec.ofInt_natCast, BitVec.ofInt_natCast]
 exact tQ (Nat.lt_of_le_of_lt (KJ a b ha) ha)
theorem xE {a b : Nat} (ha : a < 9223372036854775808) (hb : b < 9223372036854775808) : ij a b = 0 ↔ ∀ i, a.testBit i = true → b.testBit i = true := by
  have key : ∀ i, (ij a b).testBit i = (a.testBit i && !b.testBit i) := fun i => by
    unfold ij
    rw [← BitVec.getLsbD, BitVec.getLsbD_and, BitVec.getLsbD_not, BitVec.getLsbD_ofNat, BitVec.getLsbD_ofNat]
    by_cases hi : i < 64
    · simp [hi]
    · have : a.testBit i = false := Nat.testBit_lt_two_pow (Nat.lt_of_lt_of_le ha (Nat.le_trans (by decide : 9223372036854775808 ≤ 2 ^ 64) (Nat.pow_le_pow_right (by omega) (by omega))))
      simp [hi, this]
  constructor
  · intro h i hi
    have := key i
    rw [h, hi] at this
    simp at this; exact this
  · intro h
    refine Nat.eq_of_testBit_eq fun i => ?_
    rw [key]
    cases hi : a.testBit i with
    | false => simp
    | true => simp [h i hi]
theorem C8 {i : Nat} (h : i ≤ 62) : 1 <<< i < 9223372036854775808 := by
 rw [Nat.shiftLeft_eq, Nat.one_mul]
 exact Nat.pow_lt_pow_right (by omega) (show i < 63 by omega)
section
variable {P : Program} {fr : Fr} {ops : Array Oper} {A : As} {rest : List Oper} {K : As → List (As × Fx) → Prop} {d : Nat} {t ty' ty2 : TypeId} {p : String} {e : Array Edge} {x y : Operand}
theorem Ft {a b : Nat} (hx : A.op fr x = .int .i64 (a : Nat)) (hy : A.op fr y = .int .i64 (b : Nat)) (h1 : a < 9223372036854775808) (h2 : b < 9223372036854775808)
 (h : aV P fr ops rest (A.set d (.int .i64 ((a &&& b : Nat) : Int))) fun A' l' => K A' ((A, { d := some d, ty := .int .i64 ((a &&& b : Nat) : Int), rs := bR x ++ bR y }) :: l')) : aV P fr ops (⟨some d, .binOp .and ty' x y ty2, t, p, e, none⟩ :: rest) A K :=
 av (op := .and) hx hy (ty := .int .i64 ((a &&& b : Nat) : Int)) (by show some _ = some _; rw [LB h1 h2]) h
theorem Kz {a b : Nat} (hx : A.op fr x = .int .i64 (a : Nat)) (hy : A.op fr y = .int .i64 (b : Nat)) (h1 : a < 9223372036854775808) (h2 : b < 9223372036854775808)
 (h : aV P fr ops rest (A.set d (.int .i64 ((a ||| b : Nat) : Int))) fun A' l' => K A' ((A, { d := some d, ty := .int .i64 ((a ||| b : Nat) : Int), rs := bR x ++ bR y }) :: l')) : aV P fr ops (⟨some d, .binOp .or ty' x y ty2, t, p, e, none⟩ :: rest) A K :=
 av (op := .or) hx hy (ty := .int .i64 ((a ||| b : Nat) : Int)) (by show some _ = some _; rw [N2 h1 h2]) h
theorem I2 {a b : Nat} (hx : A.op fr x = .int .i64 (a : Nat)) (hy : A.op fr y = .int .i64 (b : Nat)) (h1 : a < 9223372036854775808)
 (h : aV P fr ops rest (A.set d (.int .i64 ((ij a b : Nat) : Int))) fun A' l' => K A' ((A, { d := some d, ty := .int .i64 ((ij a b : Nat) : Int), rs := bR x ++ bR y }) :: l')) : aV P fr ops (⟨some d, .binOp .andNot ty' x y ty2, t, p, e, none⟩ :: rest) A K :=
 av (op := .andNot) hx hy (ty := .int .i64 ((ij a b : Nat) : Int)) (by show some _ = some _; rw [FX h1]) h
theorem CL {a b : Nat} (hx : A.op fr x = .int .i64 (a : Nat)) (hy : A.op fr y = .int .i64 (b : Nat)) (h1 : b ≤ 63)
 (h : aV P fr ops rest (A.set d (.int .i64 ((a >>> b : Nat) : Int))) fun A' l' => K A' ((A, { d := some d, ty := .int .i64 ((a >>> b : Nat) : Int), rs := bR x ++ bR y }) :: l')) : aV P fr ops (⟨some d, .binOp .shr ty' x y ty2, t, p, e, none⟩ :: rest) A K := by
 have e : ((a : Int) / 2 ^ (b : Int).toNat) = ((a >>> b : Nat) : Int) := by rw [Nat.shiftRight_eq_div_pow]; simp
 refine Ly hx hy (Int.natCast_nonneg _) (by show (b : Int) ≤ ((64 : Nat) : Int); omega) ?_
 rw [e]; exact h
theorem F0 {a b : Nat} (hx : A.op fr x = .int .i64 (a : Nat)) (hy : A.op fr y = .int .i64 (b : Nat)) (h1 : b ≤ 63) (h2 : a <<< b < 9223372036854775808)
 (h : aV P fr ops rest (A.set d (.int .i64 ((a <<< b : Nat) : Int))) fun A' l' => K A' ((A, { d := some d, ty := .int .i64 ((a <<< b : Nat) : Int), rs := bR x ++ bR y }) :: l')) : aV P fr ops (⟨some d, .binOp .shl ty' x y ty2, t, p, e, none⟩ :: rest) A K := by
 have e : IntKind.i64.wrap ((a : Int) * 2 ^ (b : Int).toNat) = ((a <<< b : Nat) : Int) := by
  have : ((a : Int) * 2 ^ (b : Int).toNat) = ((a <<< b : Nat) : Int) := by rw [Nat.shiftLeft_eq]; simp
  rw [this, tQ h2]
 refine Qx hx hy (Int.natCast_nonneg _) (by show (b : Int) ≤ ((64 : Nat) : Int); omega) ?_
 rw [e]; exact h
end
end Go.T
namespace Go.T
open Go Go.RowKit
section
variable {P : Program} {fr : Fr} {ops : Array Oper} {A : As} {rest : List Oper} {K : As → List (As × Fx) → Prop} {d : Nat} {t ty' : TypeId} {p : String} {e : Array Edge} [T : k5 P]
variable {α : Type} [Inhabited α] {E : El α} {xs : List α} {x y : Operand} {tg i o s Tb : Nat} {ti : TI} {ty : Ty} {z : α}
theorem jX {off n : Nat} {k : IntKind} {j : Int} {te : TI} {el : Nat} (hx : A.op fr x = .ptr tg off) (hy : A.op fr y = .int k j) (hT : T.tab[ty']? = some ti) (hk : ti.k = .array n el) (hE : T.tab[el]? = some te) (h0 : 0 ≤ j) (h1 : j.toNat < n)
 (h : aV P fr ops rest (A.set d (.ptr tg (off + j.toNat * te.size))) fun A' l' => K A' ((A, { d := some d, ty := .ptr tg (off + j.toNat * te.size), rs := bR x ++ bR y }) :: l')) : aV P fr ops (⟨some d, .indexAddr ty' x y, t, p, e, none⟩ :: rest) A K :=
 bB (bH rfl rfl fun a w M _ hr _ => by
  obtain ⟨hdx, hdy⟩ := op2 hr
  rw [hx] at hdx; rw [hy] at hdy
  obtain ⟨b, hb, ex⟩ := hdx
  have ey : a.eval y = .int k j := hdy
  exact ⟨_, by simp only [execOp, ex, ey, Sem.run_bind, iq hT hk hE h0 h1]; rfl, b, hb, rfl⟩) h
end
end Go.T
namespace Go.T
open Go Go.RowKit
section
variable {P : Program} {fr : Fr} {ops : Array Oper} {A : As} {rest : List Oper} {K : As → List (As × Fx) → Prop} {d : Nat} {t ty' ty2 : TypeId} {p : String} {e : Array Edge} [T : k5 P]
variable {α : Type} [Inhabited α] {E : El α} {xs ys : List α} {x y : Operand} {tg i o s Tb : Nat} {ti : TI} {ty : Ty} {z : α}
theorem kZ (hx : A.op fr x = .ptr tg 0) (hc : A.tag tg = some (.vec E Tb xs)) (h1 : e8 tg) (hT : T.tab[ty']? = some ti) (ha : ti.k.agg = true) (hsz : xs.length * E.size = ti.size) (hne : xs ≠ [])
 (h : aV P fr ops rest (A.set d (.arr E xs)) fun A' l' => K A' ((A, { d := some d, ty := .arr E xs, rs := bR x, rt := [tg] }) :: l')) : aV P fr ops (⟨some d, .load ty' x, t, p, e, none⟩ :: rest) A K :=
 bB (bH rfl rfl fun a w M wf hr ht => by
  have _ := (inferInstance : Inhabited α)
  have := bk (x := x) (fun _ h => h) hr
  rw [hx] at this
  obtain ⟨b, hb, e⟩ := this
  rcases nL hc w M ht with h0 | ⟨b', cs, hb', hh, hd⟩
  ·exact absurd h0 hne
  obtain ⟨u, rfl⟩ : ∃ u, tg = u + 1 := ⟨tg - 1, by omega⟩
  have := wf.inj b b' u (by omega) hb hb'
  subst this
  have hlen := bw hd
  rw [cg] at hlen hd
  refine ⟨.agg (cs.toList.take (xs.length * E.size)).toArray, ?_, _, rfl, by simpa using hd⟩
  have := fX (P := P) hT ha (w := w) (b := b) (off := 0) (cs := cs.toList.take (xs.length * E.size)) (by rw [hlen, hsz]) (fun j v hj => by
   rw [List.getElem?_take] at hj
   split at hj
   ·simpa [World.cell?, hh] using hj
   cases hj)
  simp [execOp, e, this]) h
theorem L4 {n j : Nat} {k : IntKind} {te : TI} {el : Nat} (hx : A.op fr x = .arr E xs) (hy : A.op fr y = .int k j) (hT : T.tab[ty']? = some ti) (hk : ti.k = .array n el) (hE : T.tab[el]? = some te) (ha : te.k.agg = false) (hs : te.size = E.size) (h1 : j < n) (hi : j < xs.length) (hl : (E.tys (nth xs j))[0]? = some ty)
 (h : aV P fr ops rest (A.set d ty) fun A' l' => K A' ((A, { d := some d, ty := ty, rs := bR x ++ bR y }) :: l')) : aV P fr ops (⟨some d, .index ty' x y, t, p, e, none⟩ :: rest) A K :=
 bB (bH rfl rfl fun a w M _ hr _ => by
  obtain ⟨hdx, hdy⟩ := op2 hr
  rw [hx] at hdx; rw [hy] at hdy
  obtain ⟨cs, ex, hd⟩ := hdx
  have ey : a.eval y = .int k j := hdy
  obtain ⟨v, hv, hdv⟩ := dF hd (j * te.size) ty (by have := l6 E xs hi 0 ty hl; rwa [Nat.add_zero, ← hs] at this)
  obtain ⟨_, D, _, hD, hkd, _⟩ := cF hT
  rw [hk] at hkd
  cases D <;> simp only [TK.of, reduceCtorEq, TK.array.injEq] at hkd
  obtain ⟨e1, e2⟩ := hkd
  subst e1; subst e2
  have hv' : cs[j * te.size]? = some v := by simpa using hv
  exact ⟨v, by simp [execOp, Instr.index, asIntOf, ex, ey, run_underlying hD, bz hE, part, mM hE, ha, hv', h1], hdv⟩) h
omit T in
theorem PY {c : Bool} (hE : QI P ty' (xs.flatMap E.tys) (ys.flatMap E.tys) c) (hx : A.op fr x = .arr E xs) (hy : A.op fr y = .arr E ys)
 (h : aV P fr ops rest (A.set d (.bool c)) fun A' l' => K A' ((A, { d := some d, ty := .bool c, rs := bR x ++ bR y }) :: l')) : aV P fr ops (⟨some d, .binOp .eql ty' x y ty2, t, p, e, none⟩ :: rest) A K :=
 bB (bH rfl rfl fun a w M _ hrd _ => by
  have _ := (inferInstance : Inhabited α)
  obtain ⟨hdx, hdy⟩ := op2 hrd
  rw [hx] at hdx; rw [hy] at hdy
  obtain ⟨cs, ex, h1⟩ := hdx
  obtain ⟨ds, ey, h2⟩ := hdy
  exact ⟨.bool c, by simp only [execOp, ex, ey]; simp [eqGuard, hE.1, binOp, hE.2 w M cs ds h1 h2], rfl⟩) h
theorem jL {l : List Ty} (hx : A.op fr x = .ptr tg 0) (hc : A.tag tg = some (.cells Tb l)) (h1 : e8 tg) (hT : T.tab[ty']? = some ti) (hy : A.op fr y = .arr E xs) (hsz : xs.length * E.size = ti.size) (hlen : l.length = ti.size)
 (h : aV P fr ops rest (A.after { d := none, S := [tg], sets := [(tg, .vec E Tb xs)], rs := bR x ++ bR y, rt := [tg] }) fun A' l'' => K A' ((A, { d := none, S := [tg], sets := [(tg, .vec E Tb xs)], rs := bR x ++ bR y, rt := [tg] }) :: l'')) :
 aV P fr ops (⟨none, .store ty' x y, t, p, e, none⟩ :: rest) A K := by
 have _ := (inferInstance : Inhabited α)
 refine ⟨_, kf rfl rfl rfl (by simp) (by simpa using h1.1) (by simp) fun a w M wf hr ht => ?_, h⟩
 obtain ⟨hdx, hdy⟩ := op2 hr
 rw [hx] at hdx; rw [hy] at hdy
 obtain ⟨b, hb, ex⟩ := hdx
 obtain ⟨vs, ey, hvs⟩ := hdy
 obtain ⟨b', cs, hb', hh, hd⟩ := ht _ (cM hc) (by simp)
 obtain ⟨u, rfl⟩ : ∃ u, tg = u + 1 := ⟨tg - 1, by omega⟩
 have := wf.inj b b' u (by omega) hb hb'
 subst this
 have hl1 := bw hd
 have hl2 := bw hvs
 rw [cg] at hl2
 obtain ⟨h1', h2', h3'⟩ := jW (cs' := vs) (Tb := Tb) wf hb _ rfl
 have hones : ∀ v ∈ vs.toList, v.oneCell' = true := lu hvs (iO E xs)
 refine ⟨_, ?_, M, h1', h2', trivial, ?_⟩
 ·have hst := jA (P := P) (w := w) (b := b) (Tb := Tb) vs.toList [] cs hh (by simp at hl1 hl2 ⊢; omega) (by simp) hones
  have hsz' : vs.size = ti.size := by simp at hl2; omega
  simp only [List.length_nil, List.nil_append] at hst
  simp [execOp, Instr.storeAt, Instr.sureAddr, ex, ey, storeVar, Value.cells, bz hT, hsz', hst]
 intro z hz
 simp only [List.mem_singleton] at hz
 subst hz
 exact Cj ⟨b, vs, hb, h3', bV h2' (by intro _ _ h; cases h) (by rw [E.cC]; intro _ h; cases h) hvs⟩
end
section
variable {P : Program} {A : As} {fn : Func} {n : Nat} {w0 : World} {M0 : ah} [T : k5 P]
theorem Mn {α : Type} {E : El α} {xs : List α} {tm ty tg Tb : Nat} {ti : TI} (hr : fn.results = #[.cell tm ty]) (ht : Nat.blt tm n = true) (hx : A.slots tm = .ptr tg 0) (hc : A.tag tg = some (.vec E Tb xs)) (h1 : e8 tg) (hT : T.tab[ty]? = some ti) (ha : ti.k.agg = true) (hsz : xs.length * E.size = ti.size) (hne : xs ≠ []) :
 cm ⟨n, w0, M0, [], .plain⟩ A (bodyPost P fn (jY w0 M0 (.arr E xs)) .ret) := by
 intro a w ⟨M, ok, hsl, htg⟩
 have hd := hsl tm (by simpa using ht)
 rw [hx] at hd
 obtain ⟨b, hb, e⟩ := hd
 have hv : fA E Tb xs w M tg := htg _ (cM hc)
 rcases hv with h0 | ⟨b', cs, hb', hh, hds⟩
 ·exact absurd h0 hne
 obtain ⟨u, rfl⟩ : ∃ u, tg = u + 1 := ⟨tg - 1, by omega⟩
 have := ok.wf.inj b b' u (by omega) hb hb'
 subst this
 have hlen := bw hds
 rw [cg] at hlen hds
 have hload := fX (P := P) hT ha (w := w) (b := b) (off := 0) (cs := cs.toList.take (xs.length * E.size)) (by rw [hlen, hsz]) (fun j v hj => by
  rw [List.getElem?_take] at hj
  split at hj
  ·simpa [World.cell?, hh] using hj
  cases hj)
 have hload' : (loadVar ty ⟨b, 0, none⟩).run P w = .ok (.agg (cs.toList.take (xs.length * E.size)).toArray) w := by simpa [Instr.loadAt, Instr.sureAddr] using hload
 refine ⟨ok.eD (by simp), .agg (cs.toList.take (xs.length * E.size)).toArray, ?_, _, oz M, rfl, ot ok.wf, mN (fr := ⟨n, w0, M0, [], .plain⟩) (fun _ h => h) ok.base, (bQ rfl rfl : eu (Ty.arr E xs) (Ty.arr E xs)) _ _ _ ok.wf ⟨_, rfl, by simpa using hds⟩⟩
 have e' : a.tmps.getD tm undef = .pointer (some ⟨b, 0, none⟩) := e
 have e'' : a.tmps[tm]?.getD undef = .pointer (some ⟨b, 0, none⟩) := by rw [← Array.getD_eq_getD_getElem?]; exact e'
 simp [results, hr, e'', asAddr, hload']
end
section
variable {P : Program} {fr : Fr} {ops : Array Oper} {A : As} {rest : List Oper} {K : As → List (As × Fx) → Prop} {d : Nat} {t ty' ty2 : TypeId} {p : String} {e : Array Edge} {x y : Operand}
theorem Lj {a : Nat} {b : Int} (hx : A.op fr x = .int .i64 (a : Nat)) (hy : A.op fr y = .int .i64 b) (h0 : 0 ≤ b) (h1 : b ≤ 63) (h2 : a <<< b.toNat < 9223372036854775808)
 (h : aV P fr ops rest (A.set d (.int .i64 ((a <<< b.toNat : Nat) : Int))) fun A' l' => K A' ((A, { d := some d, ty := .int .i64 ((a <<< b.toNat : Nat) : Int), rs := bR x ++ bR y }) :: l')) : aV P fr ops (⟨some d, .binOp .shl ty' x y ty2, t, p, e, none⟩ :: rest) A K :=
 F0 (b := b.toNat) hx (by rw [hy, Int.toNat_of_nonneg h0]) (by omega) h2 h
end
end Go.T
namespace Go.T
open Go Go.RowKit
structure Re (ρ : List (Nat × Nat)) (M M' : ah) : Prop where
  none : ∀ b, M b = none → M' b = none
  some : ∀ x ∈ ρ, ∀ b, M b = some x.1 → M' b = some x.2
def Conv (ρ : List (Nat × Nat)) (s t : Ty) : Prop := ∀ w M M' v, Wf w M → Wf w M' → Re ρ M M' → s.den w M v → t.den w M' v
def zT (ρ : List (Nat × Nat)) : List Ty → List Ty → Prop
  | [], [] => True
  | s :: ss, t :: ts => Conv ρ s t ∧ zT ρ ss ts
  | _, _ => False
theorem fM {ρ : List (Nat × Nat)} : zT ρ [] [] := trivial
theorem eE {ρ : List (Nat × Nat)} {s t : Ty} {ss ts : List Ty} (h' : zT ρ ss ts) (h : Conv ρ s t) : zT ρ (s :: ss) (t :: ts) := ⟨h, h'⟩
theorem zB {ρ : List (Nat × Nat)} {w : World} {M M' : ah} (wf : Wf w M) (wf' : Wf w M') (hre : Re ρ M M') : ∀ {ss ts : List Ty} {vs : List Value}, zT ρ ss ts → bt w M ss vs → bt w M' ts vs
  | [], [], [], _, _ => trivial
  | _ :: _, _ :: _, _ :: _, ⟨h, h'⟩, ⟨h1, h2⟩ => ⟨h _ _ _ _ wf wf' hre h1, zB wf wf' hre h' h2⟩
theorem c7 {ρ : List (Nat × Nat)} {t : Ty} (h1 : t.deps = []) (h2 : t.cdeps = []) : Conv ρ t t := fun w M M' v _ _ hre h =>
 t.mono (S := fun _ => True) (K := fun _ => True) ⟨Nat.le_refl _, rfl, rfl, rfl, fun b _ hm => ⟨hre.none b hm, rfl⟩, fun b t _ h => absurd trivial h⟩ (by rw [h1]; intro _ h; cases h) (by rw [h2]; intro _ h; cases h) h
theorem QX {ρ : List (Nat × Nat)} {s t : Ty} (h1 : t.deps = []) (h2 : t.cdeps = []) (h : s = t) : Conv ρ s t := by subst h; exact c7 h1 h2
theorem gX {ρ : List (Nat × Nat)} {a b off : Nat} (h : (a, b) ∈ ρ) : Conv ρ (.ptr a off) (.ptr b off) := fun _ _ _ _ _ _ hre ⟨k, hk, e⟩ => ⟨k, hre.some _ h k hk, e⟩
theorem vJ {ρ : List (Nat × Nat)} {α : Type} {E : El α} {T a b : Nat} {xs : List α} (h : (a, b) ∈ ρ) : Conv ρ (.row E T a xs) (.row E T b xs) := fun _ _ _ _ _ _ hre hr =>
 K9 hr (fun k hk => hre.some _ h k hk) hre.none
theorem JV {ρ : List (Nat × Nat)} {α : Type} {E : El α} {T b : Nat} : Conv ρ (.ex (.slice none 0 0)) (.row E T b ([] : List α)) := fun _ _ _ _ _ _ _ h => Ty.iP _ _ _ h
theorem Ow {ρ : List (Nat × Nat)} {a b n : Nat} (h : (a, b) ∈ ρ) : Conv ρ (.vs a n) (.vs b n) := fun _ _ _ _ _ _ hre hv =>
 hv.imp id fun ⟨k, c, hk, e, h1, h2⟩ => ⟨k, c, hre.some _ h k hk, e, h1, h2⟩
def wK (ρ : List (Nat × Nat)) (a : Nat) (C : Cont) (b : Nat) (D : Cont) : Prop := ∀ w M M', Wf w M → Wf w M' → Re ρ M M' → C.den w M a → D.den w M' b
theorem dZ {w : World} {M M' : ah} (hre : ∀ b, M b = none → M' b = none) {l : List Ty} {vs : List Value} (h1 : bl l = []) (h2 : bL l = []) (h : bt w M l vs) : bt w M' l vs :=
 bV (S := fun _ => True) (K := fun _ => True) ⟨Nat.le_refl _, rfl, rfl, rfl, fun b _ hm => ⟨hre b hm, rfl⟩, fun b t _ h => absurd trivial h⟩ (by rw [h1]; intro _ h; cases h) (by rw [h2]; intro _ h; cases h) h
theorem vn {ρ : List (Nat × Nat)} {a b T : Nat} {α : Type} {E : El α} {xs ys : List α} (h : (a, b) ∈ ρ) (e : xs = ys) : wK ρ a (.vec E T xs) b (.vec E T ys) := fun _ _ _ _ _ hre hd => by
 subst e
 exact hd.imp id fun ⟨k, cs, h1, h2, h3⟩ => ⟨k, cs, hre.some _ h k h1, h2, dZ hre.none (E.cW _) (E.cC _) h3⟩
theorem bM {ρ : List (Nat × Nat)} {a b T : Nat} {l l' : List Ty} (h : (a, b) ∈ ρ) (h1 : bl l' = []) (h2 : bL l' = []) (e : l = l') : wK ρ a (.cells T l) b (.cells T l') := fun _ _ _ _ _ hre ⟨k, cs, h3, h4, h5⟩ => by
 subst e
 exact ⟨k, cs, hre.some _ h k h3, h4, dZ hre.none h1 h2 h5⟩
def cT (F : List Nat) (post : List (Nat × Cont)) (w0 : World) (M0 : ah) (res : Ty) (e : Ending) (w' : World) : Prop :=
  ∃ r M', e = .returned r ∧ Wf w' M' ∧ Le (fun t => 1 ≤ t) (fun t => 1 ≤ t ∧ t ∉ F) w0 M0 w' M' ∧ res.den w' M' r ∧ ∀ x ∈ post, x.2.den w' M' x.1
def e9 (P : Program) (f : FuncId) (F : List Nat) (pre : List (Nat × Cont)) (args : List Ty) (post : List (Nat × Cont)) (res : Ty) : Prop :=
  (∃ fn, P.funcs[f]? = some fn ∧ (fn.name == "runtime.NumGoroutine") = false ∧ fn.body.isNone = false) ∧
  ∀ w M vs, Wf w M → bt w M args vs → (∀ x ∈ pre, x.2.den w M x.1) → Calls P f vs.toArray w (cT F post w M res)
section
variable {P : Program} {fr : Fr} {ops : Array Oper} {A : As} {rest : List Oper} {K : As → List (As × Fx) → Prop} {d : Nat} {t ty' : TypeId} {p : String} {e : Array Edge}
def pT (args : List Ty) (pre : List (Nat × Cont)) : As := ⟨fun c => (args[c]?).getD Ty.any, pre⟩
theorem fJ {f : FuncId} {fn : Func} {c : Code} {F : List Nat} {pre post : List (Nat × Cont)} {args : List Ty} {res : Ty} {n : Nat} (hf : P.funcs[f]? = some fn) (hb : fn.body = some c) (hn : (fn.name == "runtime.NumGoroutine") = false) (hnt : fn.ntmps = n) (hl : args.length ≤ n)
    (h : ∀ w0 M0, eU P ⟨n, w0, M0, F, .plain⟩ c (pT args pre) (bodyPost P fn (cT F post w0 M0 res))) : e9 P f F pre args post res := by
  refine ⟨⟨fn, hf, hn, by rw [hb]; rfl⟩, fun w M vs wf hd hpre => calls_of_wp hf hb (wpIn_wide.1 (h w M _ _ ?_))⟩
  have hlen := bw hd
  refine ⟨M, ⟨wf, Le.refl _ _ _ _, by simp [hnt, hlen]; omega, Defs.nil⟩, fun c hc => ?_, hpre⟩
  simp only [pT]
  cases ha : args[c]? with
  | none => trivial
  | some ty =>
    obtain ⟨v, hv, hdv⟩ := dF hd c ty ha
    have : (vs.toArray ++ Array.replicate (fn.ntmps - vs.toArray.size) undef).getD c undef = v := by
      have hlt : c < vs.length := (List.getElem?_eq_some_iff.1 hv).1
      rw [Array.getD_eq_getD_getElem?, Array.getElem?_append_left (by simpa using hlt)]
      simp [hv]
    rw [this]; exact hdv
def rR (L : List Nat) (M : ah) : ah := fun b => match M b with | none => none | some t => if t = 0 ∨ t ∈ L then some t else none
theorem vw {L : List Nat} {M : ah} {b : Nat} (h : M b = none) : rR L M b = none := by simp [rR, h]
theorem IT {L : List Nat} {M : ah} {b t : Nat} (h : M b = some t) (ht : t = 0 ∨ t ∈ L) : rR L M b = some t := by simp [rR, h, ht]
theorem KU {L : List Nat} {M : ah} {b t : Nat} (h : M b = some t) (h0 : 1 ≤ t) (ht : t ∉ L) : rR L M b = none := by
 have : ¬ (t = 0 ∨ t ∈ L) := fun h => h.elim (by omega) ht
 simp [rR, h, this]
theorem vK {L : List Nat} {M : ah} {b t : Nat} (h : rR L M b = some t) : M b = some t := by
 unfold rR at h
 split at h
 ·cases h
 rename_i u hu
 split at h
 ·rw [← h]; exact hu
 cases h
theorem uk {L : List Nat} {w : World} {M : ah} (wf : Wf w M) : Wf w (rR L M) :=
 ⟨fun b t h => wf.lt b t (vK h), fun b b' t ht1 h h' => wf.inj b b' t ht1 (vK h) (vK h')⟩
def Nn (L : List Nat) : List (Nat × Nat) := L.map fun x => (x, x)
theorem IS {L : List Nat} {M : ah} : Re (Nn L) M (rR L M) :=
 ⟨fun b h => vw h, fun x hx b h => by
  obtain ⟨y, hy, rfl⟩ := List.mem_map.1 hx
  exact IT h (.inr hy)⟩
def OV (L : List Nat) (s t : Ty) : Prop := ∀ w M v, Wf w M → s.den w M v → t.den w (rR L M) v
theorem qo {L : List Nat} {s t : Ty} (h : Conv (Nn L) s t) : OV L s t := fun w M v wf hs => h w M _ v wf (uk wf) IS hs
theorem Fl {L : List Nat} {α : Type} {E : El α} {T tg : Nat} {xs ys : List α} (h : 1 ≤ tg) (hL : L.contains tg = false) (e : xs = ys) : OV L (Ty.row E T tg xs) (Ty.sl E ys) := fun w M v wf hr => by
 subst e
 exact yK wf hr (fun b hb => KU hb h (by simpa using hL)) (fun b hb => vw hb)
def wY (A : As) (L : List Nat) : List (Nat × Cont) → Prop
  | [] => True
  | (b, D) :: r => (∃ C, A.tag b = some C ∧ wK (Nn L) b C b D) ∧ wY A L r
theorem ji {L : List Nat} : wY A L [] := trivial
theorem kR {L : List Nat} {b : Nat} {C D : Cont} {r : List (Nat × Cont)} (h : A.tag b = some C) (hc : wK (Nn L) b C b D) (h' : wY A L r) : wY A L ((b, D) :: r) := ⟨⟨C, h, hc⟩, h'⟩
theorem DP {L : List Nat} {w : World} {M : ah} (wf : Wf w M) (ht : ∀ x ∈ A.tags, x.2.den w M x.1) : ∀ {r : List (Nat × Cont)}, wY A L r → ∀ x ∈ r, x.2.den w (rR L M) x.1
  | (b, D) :: r, ⟨⟨C, h, hc⟩, h'⟩, x, hx => by
    rcases List.mem_cons.1 hx with rfl | hx
    · exact hc w M _ wf (uk wf) IS (ht _ (cM h))
    · exact DP wf ht h' x hx
theorem vC {L : List Nat} {fr : Fr} {w : World} {M : ah} (hL : ∀ t ∈ fr.pass, t ∈ L) (hb : fr.base w M) : Le fr.kd.Lo (fun t => 1 ≤ t ∧ t ∉ fr.pass) fr.w0 fr.M0 w (rR L M) :=
 ⟨hb.size, hb.os, hb.tape, hb.out, fun b hlt hm => ⟨vw (hb.oK b hlt hm).1, (hb.oK b hlt hm).2⟩, fun b t hm ht => by
  obtain ⟨h1, h2⟩ := hb.own b t hm ht
  refine ⟨IT h1 ?_, fun hs => h2 hs⟩
  by_cases h0 : t = 0
  ·exact .inl h0
  refine .inr (hL t ?_)
  by_cases h : t ∈ fr.pass
  ·exact h
  exact absurd ⟨by omega, h⟩ ht⟩
section
variable {fn : Func} {n : Nat} {w0 : World} {M0 : ah} {F : List Nat} {post : List (Nat × Cont)}
theorem Ks (L : List Nat) (hr : fn.results = #[]) (hL : ∀ t ∈ F, t ∈ L) (hp : wY A L post) : cm ⟨n, w0, M0, F, .plain⟩ A (bodyPost P fn (cT F post w0 M0 (Ty.jk [])) .ret) := by
 intro a w ⟨M, ok, hsl, ht⟩
 exact ⟨ok.eD (by simp), _, results_none hr _ _ _, _, rR L M, rfl, uk ok.wf, vC hL ok.base, ⟨_, rfl, trivial⟩, DP ok.wf ht hp⟩
theorem mF (L : List Nat) {tm : Nat} {res : Ty} (hr : fn.results = #[.tmp tm]) (htm : Nat.blt tm n = true) (hL : ∀ t ∈ F, t ∈ L) (hp : wY A L post) (hs : OV L (A.slots tm) res) : cm ⟨n, w0, M0, F, .plain⟩ A (bodyPost P fn (cT F post w0 M0 res) .ret) := by
 intro a w ⟨M, ok, hsl, ht⟩
 exact ⟨ok.eD (by simp), _, results_tmp hr _ _ _, _, rR L M, rfl, uk ok.wf, vC hL ok.base, hs _ _ _ ok.wf (hsl tm (by simpa using htm)), DP ok.wf ht hp⟩
end
theorem rz {f : FuncId} {F : List Nat} {pre post : List (Nat × Cont)} {args : List Ty} {res : Ty} (hF : e9 P f F pre args post res) (vs : Array Value) (w : World) : (callFunc f vs).run P w = .ok (.enter f vs) w := by
 obtain ⟨⟨fn, hf, hn, hb⟩, _⟩ := hF
 have hn' : fn.name ≠ "runtime.NumGoroutine" := by simpa using hn
 have hb' : fn.body ≠ none := fun h => by rw [h] at hb; cases hb
 simp [callFunc, hf, hn', hb']
def qR (ρ : List (Nat × Nat)) (M : ah) : ah := fun b => match M b with | none => none | some t => some ((ρ.lookup t).getD 0)
def uj (ρ : List (Nat × Nat)) : Bool := ρ.all fun x => Nat.ble 1 x.1 && (Nat.ble 1 x.2 && (Nat.blt x.1 4096 == Nat.blt x.2 4096 && ρ.all fun y => (x.1 == y.1) == (x.2 == y.2)))
theorem kD {ρ : List (Nat × Nat)} (h : uj ρ = true) : ∀ x ∈ ρ, 1 ≤ x.1 ∧ 1 ≤ x.2 ∧ ∀ y ∈ ρ, (x.1 = y.1 ↔ x.2 = y.2) := by
 intro x hx
 simp only [uj, List.all_eq_true, Bool.and_eq_true, Nat.ble_eq, beq_iff_eq] at h
 obtain ⟨h1, h2, _, h3⟩ := h x hx
 refine ⟨h1, h2, fun y hy => ?_⟩
 have := h3 y hy
 rw [Bool.eq_iff_iff] at this
 simpa using this
theorem yC {ρ : List (Nat × Nat)} (h : uj ρ = true) {a b : Nat} (hm : (a, b) ∈ ρ) : a < 4096 ↔ b < 4096 := by
 simp only [uj, List.all_eq_true, Bool.and_eq_true, beq_iff_eq] at h
 have := (h _ hm).2.2.1
 rw [Bool.eq_iff_iff] at this
 simpa using this
theorem jG {ρ : List (Nat × Nat)} {a b : Nat} (h : ρ.lookup a = some b) : (a, b) ∈ ρ := by
  induction ρ with
  | nil => cases h
  | cons x l ih =>
    obtain ⟨k, v⟩ := x
    rw [List.lookup_cons] at h
    by_cases e : a = k
    · subst e; simp at h; subst h; exact List.mem_cons_self
    · have : (a == k) = false := by simpa using e
      rw [this] at h; exact List.mem_cons_of_mem _ (ih h)
theorem qu {ρ : List (Nat × Nat)} (h : uj ρ = true) {a b : Nat} (hm : (a, b) ∈ ρ) : ρ.lookup a = some b := by
  cases hl : ρ.lookup a with
  | none =>
    exfalso
    induction ρ with
    | nil => cases hm
    | cons x l ih =>
      obtain ⟨k, v⟩ := x
      rw [List.lookup_cons] at hl
      by_cases e : a = k
      · subst e; simp at hl
      · have e' : (a == k) = false := by simpa using e
        rw [e'] at hl
        rcases List.mem_cons.1 hm with hm | hm
        · exact e (congrArg Prod.fst hm)
        · refine ih ?_ hm hl
          simp only [uj, List.all_eq_true, List.mem_cons, forall_eq_or_imp, Bool.and_eq_true] at h ⊢
          exact fun x hx => ⟨(h.2 x hx).1, (h.2 x hx).2.1, (h.2 x hx).2.2.1, (h.2 x hx).2.2.2.2⟩
  | some c =>
    have := ((kD h _ hm).2.2 _ (jG hl)).1 rfl
    exact congrArg some this.symm
theorem zU {ρ : List (Nat × Nat)} {M : ah} {b g : Nat} (h : qR ρ M b = some g) (h1 : 1 ≤ g) : ∃ t, M b = some t ∧ (t, g) ∈ ρ := by
  unfold qR at h
  split at h
  · cases h
  · rename_i t ht
    cases hl : ρ.lookup t with
    | none => rw [hl] at h; injection h with h; simp at h; omega
    | some c => rw [hl] at h; injection h with h; simp at h; subst h; exact ⟨t, ht, jG hl⟩
theorem oc {ρ : List (Nat × Nat)} {M : ah} {b : Nat} (h : M b = none) : qR ρ M b = none := by simp [qR, h]
theorem E3 {ρ : List (Nat × Nat)} (hr : uj ρ = true) {M : ah} {b t g : Nat} (h : M b = some t) (hm : (t, g) ∈ ρ) : qR ρ M b = some g := by simp [qR, h, qu hr hm]
theorem Ap {ρ : List (Nat × Nat)} {M : ah} {b t : Nat} (h : M b = some t) (hm : ρ.lookup t = none) : qR ρ M b = some 0 := by simp [qR, h, hm]
theorem MT {ρ : List (Nat × Nat)} (hr : uj ρ = true) {w : World} {M : ah} (wf : Wf w M) : Wf w (qR ρ M) := by
  refine ⟨fun b t h => ?_, fun b b' t ht1 h h' => ?_⟩
  · cases hm : M b with
    | none => rw [oc hm] at h; cases h
    | some u => exact wf.lt b u hm
  · obtain ⟨u, hu, m⟩ := zU h (by omega)
    obtain ⟨u', hu', m'⟩ := zU h' (by omega)
    have e : u = u' := ((kD hr _ m).2.2 _ m').2 rfl
    subst e
    obtain ⟨v, rfl⟩ : ∃ v, u = v + 1 := ⟨u - 1, by have := (kD hr _ m).1; omega⟩
    exact wf.inj b b' v (by have := yC hr m; omega) hu hu'
theorem Ec {ρ : List (Nat × Nat)} (hr : uj ρ = true) {M : ah} : Re ρ M (qR ρ M) := ⟨fun _ h => oc h, fun _ hx _ h => E3 hr h hx⟩
def mm (ρ : List (Nat × Nat)) : List (Nat × Nat) := ρ.map fun x => (x.2, x.1)
theorem OT {ρ : List (Nat × Nat)} (h : uj ρ = true) : uj (mm ρ) = true := by
 simp only [uj, mm, List.all_eq_true, Bool.and_eq_true, List.mem_map] at h ⊢
 rintro _ ⟨x, hx, rfl⟩
 obtain ⟨h1, h2, h4, h3⟩ := h x hx
 refine ⟨h2, h1, by simpa using (beq_iff_eq.1 h4).symm, ?_⟩
 rintro _ ⟨y, hy, rfl⟩
 have := h3 y hy
 simp only [beq_iff_eq] at this ⊢
 exact this.symm
def qS (w : World) (ρ : List (Nat × Nat)) (mv : List Nat) (M M' : ah) : ah := fun b =>
  if b < w.heap.size ∧ (∀ t, M b = some t → t ∉ mv) then M b else (M' b).bind fun g => (mm ρ).lookup g
theorem GY {ρ : List (Nat × Nat)} {mv F : List Nat} {w w' : World} {M M' : ah} (hr : uj ρ = true) (hmv : ∀ x ∈ ρ, x.1 ∈ mv ∨ x.2 ∈ F) (hmr : ∀ t ∈ mv, ∃ g, (t, g) ∈ ρ) (wf : Wf w M) (wf' : Wf w' M') (le : Le (fun t => 1 ≤ t) (fun t => 1 ≤ t ∧ t ∉ F) w (qR ρ M) w' M') :
    Wf w' (qS w ρ mv M M') ∧ Le (· ∈ ρ.map Prod.fst) (· ∈ mv) w M w' (qS w ρ mv M M') ∧ Re (mm ρ) M' (qS w ρ mv M M') := by
  have hsw := OT hr
  have memsw : ∀ {t g : Nat}, (t, g) ∈ ρ → (g, t) ∈ mm ρ := fun h => List.mem_map.2 ⟨_, h, rfl⟩
  have memsw' : ∀ {t g : Nat}, (g, t) ∈ mm ρ → (t, g) ∈ ρ := fun h => by
    obtain ⟨⟨a, b⟩, hx, he⟩ := List.mem_map.1 h
    injection he with h1 h2
    subst h1; subst h2; exact hx
  -- an old block whose tag stays
  have old : ∀ b t, M b = some t → t ∉ mv → M' b = some ((ρ.lookup t).getD 0) := fun b t hm hn => by
    cases hl : ρ.lookup t with
    | none => exact (le.own b 0 (Ap hm hl) (by omega)).1
    | some g =>
      have hx := jG hl
      have hg : g ∈ F := (hmv _ hx).resolve_left hn
      exact (le.own b g (E3 hr hm hx) (fun h => h.2 hg)).1
  have key : ∀ b, M' b = none → qS w ρ mv M M' b = none := fun b h => by
    unfold qS
    split
    · rename_i hc
      cases hm : M b with
      | none => rfl
      | some t => rw [old b t hm (hc.2 t hm)] at h; cases h
    · rw [h]; rfl
  have key2 : ∀ t g, (t, g) ∈ ρ → ∀ b, M' b = some g → qS w ρ mv M M' b = some t := fun t g hx b h => by
    have h1 := (kD hr _ hx)
    unfold qS
    split
    · rename_i hc
      cases hm : M b with
      | none =>
        have := (le.oK b hc.1 (oc hm)).1
        rw [this] at h; cases h
      | some u =>
        have h2 := old b u hm (hc.2 u hm)
        rw [h2] at h
        injection h with h
        cases hl : ρ.lookup u with
        | none => rw [hl] at h; simp at h; omega
        | some c =>
          rw [hl] at h; simp at h; subst h
          have := (h1.2.2 _ (jG hl)).2 rfl
          exact congrArg some this.symm
    · rw [h]; exact qu hsw (memsw hx)
  refine ⟨⟨fun b t h => ?_, fun b b' t ht1 h h' => ?_⟩, ⟨le.size, le.os, le.tape, le.out, fun b hb hm => ?_, fun b t hm hk => ?_⟩, ⟨key, fun x hx b h => key2 _ _ (memsw' hx) b h⟩⟩
  · unfold qS at h
    split at h
    · rename_i hc; exact Nat.lt_of_lt_of_le hc.1 le.size
    · obtain ⟨g, hg, _⟩ := Option.bind_eq_some_iff.1 h
      exact wf'.lt b g hg
  · -- injective
    have part : ∀ b, qS w ρ mv M M' b = some (t + 1) → (M b = some (t + 1) ∧ t + 1 ∉ mv) ∨ ∃ g, (t + 1, g) ∈ ρ ∧ M' b = some g ∧ 1 ≤ g := fun b h => by
      unfold qS at h
      split at h
      · rename_i hc; exact .inl ⟨h, hc.2 _ h⟩
      · obtain ⟨g, hg, hl⟩ := Option.bind_eq_some_iff.1 h
        have hx := memsw' (jG hl)
        exact .inr ⟨g, hx, hg, (kD hr _ hx).2.1⟩
    have both : ∀ b b' g, (t + 1, g) ∈ ρ → M' b = some g → 1 ≤ g → (M b' = some (t + 1) ∧ t + 1 ∉ mv) → b = b' := fun b b' g hx hg h1 ⟨hm, hn⟩ => by
      have h2 := old b' _ hm hn
      rw [qu hr hx] at h2
      simp at h2
      obtain ⟨v, rfl⟩ : ∃ v, g = v + 1 := ⟨g - 1, by omega⟩
      exact wf'.inj b b' v (by have := yC hr hx; omega) hg h2
    rcases part b h with h1 | ⟨g, hx, hg, h1⟩ <;> rcases part b' h' with h2 | ⟨g', hx', hg', h2⟩
    · exact wf.inj b b' t ht1 h1.1 h2.1
    · exact (both b' b g' hx' hg' h2 h1).symm
    · exact both b b' g hx hg h1 h2
    · have : g = g' := ((kD hr _ hx).2.2 _ hx').1 rfl
      subst this
      obtain ⟨v, rfl⟩ : ∃ v, g = v + 1 := ⟨g - 1, by omega⟩
      exact wf'.inj b b' v (by have := yC hr hx; omega) hg hg'
  · obtain ⟨h1, h2⟩ := le.oK b hb (oc hm)
    exact ⟨key b h1, h2⟩
  · have hb := wf.lt b t hm
    refine ⟨?_, fun hs => ?_⟩
    · unfold qS
      rw [if_pos ⟨hb, fun u hu => by rw [hm] at hu; injection hu with hu; exact hu ▸ hk⟩]; exact hm
    · have hl : ρ.lookup t = none := by
        cases hl : ρ.lookup t with
        | none => rfl
        | some c => exact absurd (List.mem_map.2 ⟨_, jG hl, rfl⟩) hs
      exact (le.own b 0 (Ap hm hl) (by omega)).2 (by omega)
def RV (fr : Fr) (ρ : List (Nat × Nat)) (mv F : List Nat) : Bool :=
  uj ρ && (ρ.all (fun x => mv.contains x.1 || F.contains x.2) && mv.all fun t => Nat.ble 1 t && (!fr.pass.contains t && ρ.any fun x => x.1 == t))
def Ra (d : Option Nat) (res : Ty) (ρ : List (Nat × Nat)) (mv : List Nat) (sets : List (Nat × Cont)) (rs : List Nat) : Fx := { d := d, ty := res, S := ρ.map Prod.fst, K := mv, sets := sets, rs := rs, rt := ρ.map Prod.fst }
def yX (A : As) (ρ : List (Nat × Nat)) : List (Nat × Cont) → Prop
  | [] => True
  | (b, D) :: r => (∃ a C, (a, b) ∈ ρ ∧ A.tag a = some C ∧ wK ρ a C b D) ∧ yX A ρ r
theorem pre_nil {ρ : List (Nat × Nat)} : yX A ρ [] := trivial
theorem eM {ρ : List (Nat × Nat)} {a b : Nat} {C D : Cont} {r : List (Nat × Cont)} (hm : (a, b) ∈ ρ) (h : A.tag a = some C) (hc : wK ρ a C b D) (h' : yX A ρ r) : yX A ρ ((b, D) :: r) := ⟨⟨a, C, hm, h, hc⟩, h'⟩
theorem xY {ρ : List (Nat × Nat)} {w : World} {M M' : ah} (wf : Wf w M) (wf' : Wf w M') (hre : Re ρ M M') (ht : ∀ x ∈ A.tags, x.1 ∈ ρ.map Prod.fst → x.2.den w M x.1) : ∀ {r : List (Nat × Cont)}, yX A ρ r → ∀ x ∈ r, x.2.den w M' x.1
  | (b, D) :: r, ⟨⟨a, C, hm, h, hc⟩, h'⟩, x, hx => by
    rcases List.mem_cons.1 hx with rfl | hx
    · exact hc w M M' wf wf' hre (ht _ (cM h) (List.mem_map.2 ⟨_, hm, rfl⟩))
    · exact xY wf wf' hre ht h' x hx
def qa (post : List (Nat × Cont)) (ρ : List (Nat × Nat)) : List (Nat × Cont) → Prop
  | [] => True
  | (a, D) :: r => (∃ b C, (a, b) ∈ ρ ∧ post.lookup b = some C ∧ wK (mm ρ) b C a D) ∧ qa post ρ r
theorem post_nil {ρ : List (Nat × Nat)} {post : List (Nat × Cont)} : qa post ρ [] := trivial
theorem dL {ρ : List (Nat × Nat)} {a b : Nat} {C D : Cont} {post r : List (Nat × Cont)} (hm : (a, b) ∈ ρ) (h : post.lookup b = some C) (hc : wK (mm ρ) b C a D) (h' : qa post ρ r) : qa post ρ ((a, D) :: r) := ⟨⟨b, C, hm, h, hc⟩, h'⟩
theorem EA {ρ : List (Nat × Nat)} {post : List (Nat × Cont)} {w : World} {M M' : ah} (wf : Wf w M) (wf' : Wf w M') (hre : Re (mm ρ) M M') (ht : ∀ x ∈ post, x.2.den w M x.1) : ∀ {r : List (Nat × Cont)}, qa post ρ r → ∀ x ∈ r, x.1 ∈ ρ.map Prod.fst ∧ x.2.den w M' x.1
  | (a, D) :: r, ⟨⟨b, C, hm, h, hc⟩, h'⟩, x, hx => by
    rcases List.mem_cons.1 hx with rfl | hx
    · exact ⟨List.mem_map.2 ⟨_, hm, rfl⟩, hc w M M' wf wf' hre (ht _ (cM (A := ⟨fun _ => Ty.any, post⟩) h))⟩
    · exact EA wf wf' hre ht h' x hx
theorem BE {ρ : List (Nat × Nat)} {post : List (Nat × Cont)} : ∀ {r : List (Nat × Cont)}, qa post ρ r → ∀ x ∈ r, x.1 ∈ ρ.map Prod.fst
  | (a, D) :: r, ⟨⟨b, C, hm, h, hc⟩, h'⟩, x, hx => by
    rcases List.mem_cons.1 hx with rfl | hx
    · exact List.mem_map.2 ⟨_, hm, rfl⟩
    · exact BE h' x hx
theorem Jw (ρ : List (Nat × Nat)) (mv : List Nat) {f : FuncId} {F : List Nat} {pre post sets : List (Nat × Cont)} {args ss : List Ty} {res res' : Ty} (hF : e9 P f F pre args post res) {dst : Option Nat} {call : Call} {rs : List Nat}
 (hrun : ∀ (a : Act) w M, Wf w M → (∀ c ∈ rs, c < fr.n → (A.slots c).den w M (a.tmps.getD c undef)) → ∃ vs : List Value, (execOp a.eval ⟨dst, .call call, t, p, e, none⟩).run P w = .ok (.enter f vs.toArray) w ∧ bt w M ss vs)
 (hok : RV fr ρ mv F = true) (ha : zT ρ ss args) (hpre : yX A ρ pre) (hpost : qa post ρ sets) (hres : Conv (mm ρ) res res') :
 xe P fr ops ⟨dst, .call call, t, p, e, none⟩ A (Ra dst res' ρ mv sets rs) := by
 simp only [RV, Bool.and_eq_true] at hok
 obtain ⟨hr, hmv, hmr⟩ := hok
 simp only [List.all_eq_true, Bool.or_eq_true, List.contains_iff_mem] at hmv
 simp only [List.all_eq_true, Bool.and_eq_true, Nat.ble_eq, List.any_eq_true, beq_iff_eq, Bool.not_eq_true', ← Bool.not_eq_true, List.contains_iff_mem] at hmr
 refine ⟨rfl, fun x hx => .inl (BE hpost x hx), fun u hu => ?_, fun u hu => ⟨(hmr u hu).1, (hmr u hu).2.1⟩, fun a w M wf _ hrd htg => ?_⟩
 ·obtain ⟨x, hx, rfl⟩ := List.mem_map.1 hu
  exact (kD hr x hx).1
 rw [if_pos (by simp [Region.wanted])]
 obtain ⟨vs, hrun, hd⟩ := hrun a w M wf hrd
 have wfg := MT hr wf
 have hc := hF.2 w _ vs wfg (zB wf wfg (Ec hr) ha hd) (xY wf wfg (Ec hr) htg hpre)
 refine eZ hrun ?_
 refine hc.mono fun en w' ⟨r, M', he, wf', le, hden, hp⟩ => ?_
 obtain ⟨h1, h2, h3⟩ := GY (mv := mv) hr hmv (fun u hu => by obtain ⟨x, hx, e⟩ := (hmr u hu).2.2; exact ⟨x.2, by rw [← e]; exact hx⟩) wf wf' le
 exact ⟨r, he, r, rfl, _, h1, h2, hres _ _ _ _ wf' h1 h3 hden, fun x hx => (EA wf' h1 h3 hp hpost x hx).2⟩
theorem AQ {f : FuncId} {F : List Nat} {pre post : List (Nat × Cont)} {args : List Ty} {res : Ty} (hF : e9 P f F pre args post res) {dst : Option Nat} {xs : List Operand} {ats : Array TypeId} {ss : List Ty} (hx : jr A fr xs = ss) (a : Act) (w : World) (M : ah) (_ : Wf w M)
 (hrd : ∀ c ∈ xs.flatMap bR, c < fr.n → (A.slots c).den w M (a.tmps.getD c undef)) : ∃ vs : List Value, (execOp a.eval ⟨dst, .call ⟨.value (.func f), xs.toArray, ats⟩, t, p, e, none⟩).run P w = .ok (.enter f vs.toArray) w ∧ bt w M ss vs := by
 refine ⟨xs.map a.eval, ?_, hx ▸ dw hrd fun x hx c hc => List.mem_flatMap.2 ⟨x, hx, hc⟩⟩
 simp [execOp, resolve, Act.eval, Deferred.ofValue, invoke, rz hF]
theorem eH (ρ : List (Nat × Nat)) (mv : List Nat) (sets : List (Nat × Cont)) {f : FuncId} {F : List Nat} {pre post : List (Nat × Cont)} {args ss : List Ty} {res res' : Ty} (hF : e9 P f F pre args post res) {dst : Option Nat} {xs : List Operand} {ats : Array TypeId}
 (hx : jr A fr xs = ss) (hok : RV fr ρ mv F = true) (ha : zT ρ ss args) (hpre : yX A ρ pre) (hpost : qa post ρ sets) (hres : Conv (mm ρ) res res')
 (h : aV P fr ops rest (A.after (Ra dst res' ρ mv sets (xs.flatMap bR))) fun A' l => K A' ((A, Ra dst res' ρ mv sets (xs.flatMap bR)) :: l)) : aV P fr ops (⟨dst, .call ⟨.value (.func f), xs.toArray, ats⟩, t, p, e, none⟩ :: rest) A K :=
 ⟨_, Jw ρ mv hF (AQ hF hx) hok ha hpre hpost hres, h⟩
end
end Go.T
