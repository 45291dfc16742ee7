/- Lemmas: the program and the reference walked, plain laws. -/
import Derived.Orders
import Derived.Below
import Derived.WalkKit
import Derived.OrdersIn
import Derived.TacticsIn
import Derived.RangeFuncCalls
import Derived.ChangeKeysEq
import Derived.Maps.AppendAt
import Derived.Laws.MakeOwn
import Derived.Laws.CopyRow
import Derived.Test.YtmmcenjknimhbaaGreatChecked
import Derived.RangeFuncRecord
import Derived.Lib.AppendZerosOnto
import Derived.Shelf.Spec.SlicesInsertGrow
import Derived.KernelRfl
import Derived.JoinedOf
import Derived.OpenShut
import Derived.WideKeyArgs
import Derived.Deep.Frames
import Derived.Deep.Slices
import Derived.Deep.Strs
import Derived.Lib.SmallJoins
import Derived.Test.YtmmcenjknimhbaaGreatRows
namespace Go.Proofs.YtmmcenjknimhbaaGreat
structure qP where
  has : Int
  shares : List Int
  deriving Inhabited, DecidableEq
structure mO where
  src : Int
  dst : Int
  sacks : Int
  deriving Inhabited, DecidableEq
structure kT where
  fst : Int
  nxt : Int
  deriving Inhabited, DecidableEq
structure v7 where
  src : Int
  dst : Int
  much : Int
  deriving Inhabited, DecidableEq
structure bS where
  bears : List Int
  bins : List qP
  turnings : List mO
  rules : List kT
  deriving Inhabited, DecidableEq
def fidx {α : Type} (p : α → Bool) (l : List α) : Int := match l.findIdx? p with | some i => (i : Int) | none => -1
theorem lO {α : Type} {p : α → Bool} {l : List α} {k : Nat} (hk : k < l.length) (h : ∀ x ∈ l.take k, p x = false) (hp : p l[k] = true) : fidx p l = k := by
 have : l.findIdx? p = some k := by
  rw [List.findIdx?_eq_some_iff_getElem]
  refine ⟨hk, hp, fun j hj => ?_⟩
  have := h l[j] (by rw [List.mem_take_iff_getElem]; exact ⟨j, by omega, rfl⟩)
  simp [this]
 simp [fidx, this]
theorem nE {α : Type} {p : α → Bool} {l : List α} (h : ∀ x ∈ l, p x = false) : fidx p l = -1 := by
 have : l.findIdx? p = none := by simpa using h
 simp [fidx, this]
theorem qR {α : Type} (p : α → Bool) (l : List α) : decide (0 ≤ fidx p l) = l.any p := by
  unfold fidx
  cases h : l.findIdx? p with
  | none =>
    rw [List.findIdx?_eq_none_iff] at h
    have : l.any p = false := by simpa using h
    rw [this]; rfl
  | some i =>
    have : l.any p = true := by
      rw [List.findIdx?_eq_some_iff_getElem] at h
      obtain ⟨hi, hp, _⟩ := h
      rw [List.any_eq_true]; exact ⟨_, List.getElem_mem hi, hp⟩
    rw [this]; simp
theorem vr {α : Type} (p : α → Bool) (l : List α) : (!l.any fun x => !p x) = l.all p := by
 rw [List.all_eq_not_any_not]
end Go.Proofs.YtmmcenjknimhbaaGreat
namespace Go.Proofs.YtmmcenjknimhbaaGreat
def s6 (n : Nat) : List Int := (List.range n).map fun (k : Nat) => (k : Int)
theorem Ff (n : Nat) : s6 (n + 1) = s6 n ++ [(n : Int)] := by simp [s6, List.range_succ]
theorem QU (n : Nat) : (s6 n).length = n := by simp [s6]
theorem eW {n : Nat} {x : Int} : x ∈ s6 n ↔ 0 ≤ x ∧ x < n := by
 simp only [s6, List.mem_map, List.mem_range]
 constructor
 ·rintro ⟨k, hk, rfl⟩; omega
 rintro ⟨h1, h2⟩; exact ⟨x.toNat, by omega, by omega⟩
def OO (rules : List kT) (known : List Int) : Nat := rules.countP fun r => decide (r.fst ∉ known)
def kS (rec : Int → List Int → List Int) (t : Int) (kn : List Int) (r : kT) : List Int := if r.nxt = t ∧ r.fst ∉ kn then rec r.fst (kn ++ [r.fst]) else kn
def gz (rules : List kT) : Nat → Int → List Int → List Int
  | 0, _, known => known
  | n + 1, t, known => rules.foldl (kS (gz rules n) t) known
theorem Hg {rules : List kT} {a b : List Int} (h : ∀ x ∈ a, x ∈ b) : OO rules b ≤ OO rules a := by
 refine List.countP_mono_left fun r _ hr => ?_
 simp only [decide_eq_true_eq] at hr ⊢
 exact fun hx => hr (h _ hx)
theorem KW {rules : List kT} {kn : List Int} {r : kT} (hr : r ∈ rules) (h : r.fst ∉ kn) : OO rules (kn ++ [r.fst]) + 1 ≤ OO rules kn := by
  unfold OO
  induction rules with
  | nil => cases hr
  | cons q l ih =>
    simp only [List.countP_cons]
    have hle : List.countP (fun r_1 => decide (r_1.fst ∉ kn ++ [r.fst])) l ≤ List.countP (fun r => decide (r.fst ∉ kn)) l := Hg (rules := l) fun x hx => List.mem_append_left _ hx
    rcases List.mem_cons.1 hr with rfl | hr
    · rw [if_neg (by simp), if_pos (by simpa using h)]; omega
    · have := ih hr
      have : (if decide (q.fst ∉ kn ++ [r.fst]) = true then 1 else 0) ≤ (if decide (q.fst ∉ kn) = true then 1 else 0) := by
        by_cases h1 : q.fst ∈ kn
        · rw [if_neg (by simp [h1]), if_neg (by simp [h1])]; omega
        · rw [if_pos (show decide (q.fst ∉ kn) = true by simpa using h1)]; split <;> omega
      omega
def zE (rules : List kT) (a b : List Int) : Prop := (∀ x ∈ a, x ∈ b) ∧ b.length + OO rules b ≤ a.length + OO rules a
theorem zE.refl (rules : List kT) (a : List Int) : zE rules a a := ⟨fun _ h => h, Nat.le_refl _⟩
theorem zE.trans {rules : List kT} {a b c : List Int} (h : zE rules a b) (h' : zE rules b c) : zE rules a c := ⟨fun x hx => h'.1 x (h.1 x hx), Nat.le_trans h'.2 h.2⟩
theorem Gt {rules : List kT} {kn : List Int} {r : kT} (hr : r ∈ rules) (h : r.fst ∉ kn) : zE rules kn (kn ++ [r.fst]) :=
 ⟨fun x hx => List.mem_append_left _ hx, by have := KW hr h; simp; omega⟩
theorem xS {rules : List kT} {rec : Int → List Int → List Int} {t : Int} (hrec : ∀ t kn, zE rules kn (rec t kn)) : ∀ (l : List kT), (∀ r ∈ l, r ∈ rules) → ∀ kn, zE rules kn (l.foldl (kS rec t) kn)
  | [], _, kn => .refl _ _
  | r :: l, hl, kn => by
    refine zE.trans ?_ (xS hrec l (fun x hx => hl x (List.mem_cons_of_mem _ hx)) _)
    unfold kS
    split
    · rename_i h
      exact (Gt (hl r List.mem_cons_self) h.2).trans (hrec _ _)
    · exact .refl _ _
theorem p6 (rules : List kT) : ∀ (n : Nat) (t : Int) (kn : List Int), zE rules kn (gz rules n t kn)
  | 0, _, _ => .refl _ _
  | n + 1, _, kn => xS (p6 rules n) rules (fun _ h => h) kn
def vQ (f : bS) (t : Int) : List Int := gz f.rules (f.rules.length + 1) t []
def fX (f : bS) (t : Int) : List Int := (s6 f.turnings.length).filter fun k => decide (k ∈ vQ f t)
theorem Sn (rules : List kT) (kn : List Int) : OO rules kn ≤ rules.length := List.countP_le_length
end Go.Proofs.YtmmcenjknimhbaaGreat
namespace Go.Proofs.YtmmcenjknimhbaaGreat
theorem GH {α : Type} {q : α → Bool} {l : List α} {x : α} (hx : x ∈ l) (h : q x = true) : l.any q = true := List.any_eq_true.2 ⟨x, hx, h⟩
theorem fH {α : Type} {q : α → Bool} {l : List α} (h : l.any q = false) {x : α} (hx : x ∈ l) : q x = false := by
  cases hq : q x with
  | false => rfl
  | true => rw [GH hx hq] at h; cases h
def dY (n lo hi : Int) : Bool := decide (n < lo) || decide (n > hi)
theorem j0 {n lo hi : Int} (h : dY n lo hi = false) : lo ≤ n ∧ n ≤ hi := by
 simp only [dY, Bool.or_eq_false_iff, decide_eq_false_iff_not] at h; omega
def bS.many (f : bS) : Bool := dY f.bears.length 1 4 || decide ((f.bins.length : Int) > 6) || decide ((f.turnings.length : Int) > 8) || decide ((f.rules.length : Int) > 16)
def gx (f : bS) (ts : List mO) (i : Int) : Int := (ts.map fun t => if t.src = i then t.sacks else 0).sum
def bS.lU (f : bS) (i : Nat) (b : qP) : Bool := !decide (b.shares.sum = 4) || decide (gx f f.turnings i > b.has)
def vW (f : bS) : Int :=
  if f.turnings.any fun t => dY t.src (-1) (f.bins.length - 1) || dY t.dst (-1) (f.bins.length - 1) then 1
  else if f.rules.any fun r => dY r.fst 0 (f.turnings.length - 1) || dY r.nxt 0 (f.turnings.length - 1) then 1
  else if f.turnings.any fun t => decide (t.src = t.dst) then 5
  else if (s6 f.bins.length).any fun i => f.lU i.toNat (f.bins.getD i.toNat default) then 8
  else if (s6 f.turnings.length).any fun t => decide (t ∈ fX f t) then 7
  else 0
def gR (f : bS) : Int :=
  if f.many then 2
  else if f.bins.any fun b => !decide ((b.shares.length : Int) = f.bears.length) then 2
  else if f.bears.any fun n => dY n 0 4000 then 3
  else if f.bins.any fun b => dY b.has 0 300 || b.shares.any fun n => dY n 0 4 then 3
  else if f.turnings.any fun t => dY t.sacks 1 300 then 3
  else vW f
structure bS.jC (f : bS) : Prop where
  bears1 : 1 ≤ f.bears.length
  bears : f.bears.length ≤ 4
  bins : f.bins.length ≤ 6
  turnings : f.turnings.length ≤ 8
  rules : f.rules.length ≤ 16
  shares : ∀ b ∈ f.bins, b.shares.length = f.bears.length
  bearsR : ∀ n ∈ f.bears, 0 ≤ n ∧ n ≤ 4000
  hasR : ∀ b ∈ f.bins, 0 ≤ b.has ∧ b.has ≤ 300
  sharesR : ∀ b ∈ f.bins, ∀ n ∈ b.shares, 0 ≤ n ∧ n ≤ 4
  sacksR : ∀ t ∈ f.turnings, 1 ≤ t.sacks ∧ t.sacks ≤ 300
theorem xP {l : List Int} {lo hi : Int} (h : ∀ n ∈ l, lo ≤ n ∧ n ≤ hi) : lo * l.length ≤ l.sum ∧ l.sum ≤ hi * l.length := by
  induction l with
  | nil => simp
  | cons a l ih =>
    obtain ⟨h1, h2⟩ := h a List.mem_cons_self
    obtain ⟨h3, h4⟩ := ih fun n hn => h n (List.mem_cons_of_mem _ hn)
    simp only [List.sum_cons, List.length_cons, Int.natCast_add, Int.mul_add, Int.natCast_one, Int.mul_one]
    omega
theorem HE {f : bS} (hr : f.jC) (k : Nat) (i : Int) : 0 ≤ gx f (f.turnings.take k) i ∧ gx f (f.turnings.take k) i ≤ 2400 := by
 have h := xP (l := (f.turnings.take k).map fun t => if t.src = i then t.sacks else 0) (lo := 0) (hi := 300) fun n hn => by
  obtain ⟨t, ht, rfl⟩ := List.mem_map.1 hn
  have := hr.sacksR t (List.mem_of_mem_take ht)
  split <;> omega
 have := hr.turnings
 simp only [List.length_map, List.length_take] at h
 unfold gx; omega
theorem JA {l : List Int} {lo hi : Int} (h : ∀ n ∈ l, lo ≤ n ∧ n ≤ hi) (k : Nat) : lo * (l.take k).length ≤ (l.take k).sum ∧ (l.take k).sum ≤ hi * (l.take k).length :=
 xP fun n hn => h n (List.mem_of_mem_take hn)
end Go.Proofs.YtmmcenjknimhbaaGreat
namespace Go.T
open Go Go.RowKit
abbrev ay := Nat → Option Nat
structure Wf (w : World) (M : ay) : Prop where
  lt : ∀ b t, M b = some t → b < w.heap.size
  inj : ∀ b b' t, t + 1 < 4096 → M b = some (t + 1) → M b' = some (t + 1) → b = b'
abbrev ga (t : Nat) : Prop := 1 ≤ t ∧ t < 4096
structure Le (S K : Nat → Prop) (w : World) (M : ay) (w' : World) (M' : ay) : Prop where
  size : w.heap.size ≤ w'.heap.size
  os : w'.os = w.os
  tape : w'.tape = w.tape
  out : w'.output = w.output
  qy : ∀ b, b < w.heap.size → M b = none → M' b = none ∧ w'.heap[b]? = w.heap[b]?
  own : ∀ b t, M b = some t → ¬ K t → M' b = some t ∧ (¬ S t → w'.heap[b]? = w.heap[b]?)
theorem Le.refl (S K : Nat → Prop) (w : World) (M : ay) : Le S K w M w M :=
 ⟨Nat.le_refl _, rfl, rfl, rfl, fun _ _ h => ⟨h, rfl⟩, fun _ _ h _ => ⟨h, fun _ => rfl⟩⟩
theorem Le.trans {S K S' K' : Nat → Prop} {w w' w'' : World} {M M' M'' : ay} (h : Le S K w M w' M') (h' : Le S' K' w' M' w'' M'') :
 Le (fun t => S t ∨ S' t) (fun t => K t ∨ K' t) w M w'' M'' where
 size := Nat.le_trans h.size h'.size
 os := h'.os.trans h.os
 tape := h'.tape.trans h.tape
 out := h'.out.trans h.out
 qy b hb hm := by
  obtain ⟨h1, h2⟩ := h.qy b hb hm
  obtain ⟨h3, h4⟩ := h'.qy b (Nat.lt_of_lt_of_le hb h.size) h1
  exact ⟨h3, h4.trans h2⟩
 own b t hm hk := by
  obtain ⟨h1, h2⟩ := h.own b t hm (fun h => hk (.inl h))
  obtain ⟨h3, h4⟩ := h'.own b t h1 (fun h => hk (.inr h))
  exact ⟨h3, fun hs => (h4 fun h => hs (.inr h)).trans (h2 fun h => hs (.inl h))⟩
theorem Le.weaken {S K S' K' : Nat → Prop} {w w' : World} {M M' : ay} (h : Le S K w M w' M') (hs : ∀ t, S t → S' t) (hk : ∀ t, K t → K' t) : Le S' K' w M w' M' :=
 ⟨h.size, h.os, h.tape, h.out, h.qy, fun b t hm ht => let ⟨a, b'⟩ := h.own b t hm (fun x => ht (hk t x)); ⟨a, fun x => b' fun y => x (hs t y)⟩⟩
structure Ty where
  den : World → ay → Value → Prop
  deps : List Nat := []
  cdeps : List Nat := []
  mono : ∀ {S K : Nat → Prop} {w w' : World} {M M' : ay} {v : Value}, Le S K w M w' M' → (∀ t ∈ deps, ¬ K t) → (∀ t ∈ cdeps, ¬ S t) → den w M v → den w' M' v
  one : Bool := false
  isOne : ∀ {w : World} {M : ay} {v : Value}, one = true → den w M v → v.oneCell' = true := by intro _ _ _ h; cases h
def eS (_ : World) (_ : ay) (_ : Value) : Prop := True
def Ty.any : Ty := { den := eS, mono := fun _ _ _ _ => trivial }
def bp (l : List Ty) : List Nat := l.flatMap Ty.deps
def bU (l : List Ty) : List Nat := l.flatMap Ty.cdeps
def cD (w : World) (M : ay) : List Ty → List Value → Prop
  | [], [] => True
  | t :: ts, v :: vs => t.den w M v ∧ cD w M ts vs
  | _, _ => False
theorem bY {S K : Nat → Prop} {w w' : World} {M M' : ay} (le : Le S K w M w' M') : ∀ {l : List Ty} {vs : List Value}, (∀ t ∈ bp l, ¬ K t) → (∀ t ∈ bU l, ¬ S t) → cD w M l vs → cD w' M' l vs
  | [], [], _, _, _ => trivial
  | t :: ts, v :: vs, hd, hc, ⟨h, hs⟩ => ⟨t.mono le (fun u hu => hd u (by simp [bp, hu])) (fun u hu => hc u (by simp [bU, hu])) h, bY le (fun u hu => hd u (by simp only [bp, List.flatMap_cons, List.mem_append]; exact .inr hu)) (fun u hu => hc u (by simp only [bU, List.flatMap_cons, List.mem_append]; exact .inr hu)) hs⟩
theorem cI {w : World} {M : ay} : ∀ {l : List Ty} {vs : List Value}, cD w M l vs → vs.length = l.length
  | [], [], _ => rfl
  | _ :: _, _ :: _, ⟨_, h⟩ => by simp [cI h]
theorem dQ {w : World} {M : ay} : ∀ {l : List Ty} {vs : List Value}, cD w M l vs → ∀ (i : Nat) (t : Ty), l[i]? = some t → ∃ v, vs[i]? = some v ∧ t.den w M v
  | [], [], _, i, t, h => by simp at h
  | u :: ts, v :: vs, ⟨h1, h2⟩, i, t, h => by
    cases i with
    | zero => simp at h; subst h; exact ⟨v, by simp, h1⟩
    | succ i => simp at h; obtain ⟨x, hx, hd⟩ := dQ h2 i t h; exact ⟨x, by simpa using hx, hd⟩
theorem g8 {w : World} {M : ay} : ∀ {l : List Ty} {vs : List Value}, vs.length = l.length → (∀ (i : Nat) (t : Ty), l[i]? = some t → ∃ v, vs[i]? = some v ∧ t.den w M v) → cD w M l vs
  | [], [], _, _ => trivial
  | u :: ts, v :: vs, hl, h => by
    refine ⟨?_, g8 (by simpa using hl) fun i t hi => ?_⟩
    · obtain ⟨x, hx, hd⟩ := h 0 u rfl
      simp at hx; subst hx; exact hd
    · obtain ⟨x, hx, hd⟩ := h (i + 1) t (by simpa using hi)
      exact ⟨x, by simpa using hx, hd⟩
theorem sR {w : World} {M : ay} : ∀ (n : Nat) {l : List Ty} {vs : List Value}, cD w M l vs → cD w M (l.drop n) (vs.drop n)
  | 0, _, _, h => h
  | n + 1, [], [], _ => trivial
  | n + 1, _ :: ts, _ :: vs, ⟨_, h⟩ => sR n h
theorem sj {w : World} {M : ay} : ∀ (n : Nat) {l : List Ty} {vs : List Value}, cD w M l vs → cD w M (l.take n) (vs.take n)
  | 0, _, _, _ => trivial
  | n + 1, [], [], _ => trivial
  | n + 1, _ :: ts, _ :: vs, ⟨h1, h2⟩ => ⟨h1, sj n h2⟩
def nk (l k : List Nat) : Bool := l.all fun x => !k.contains x
def Ty.safe (t : Ty) (S K : List Nat) : Bool := nk t.deps K && nk t.cdeps S
theorem gm {l k : List Nat} (h : nk l k = true) : ∀ t ∈ l, ¬ (t ∈ k) := by
 intro t ht hk
 simp only [nk, List.all_eq_true] at h
 have := h t ht
 simp [hk] at this
theorem AF (t : Ty) : t.safe [] [] = true := by simp [Ty.safe, nk]
theorem fL {t : Ty} {S K : List Nat} (h : t.safe S K = true) : (∀ u ∈ t.deps, ¬ (u ∈ K)) ∧ ∀ u ∈ t.cdeps, ¬ (u ∈ S) := by
 simp only [Ty.safe, Bool.and_eq_true] at h; exact ⟨gm h.1, gm h.2⟩
def Ty.weak (S K : List Nat) (t : Ty) : Ty := bif t.safe S K then t else Ty.any
def b8 (T : TypeId) (l : List Ty) (w : World) (M : ay) (t : Nat) : Prop := ∃ b cs, M b = some t ∧ w.heap[b]? = some (.cells cs T (0, 0)) ∧ cD w M l cs.toList
structure Cont where
  den : World → ay → Nat → Prop
  deps : List Nat := []
  cdeps : List Nat := []
  mono : ∀ {S K : Nat → Prop} {w w' : World} {M M' : ay} {t : Nat}, Le S K w M w' M' → (∀ u ∈ deps, ¬ K u) → (∀ u ∈ cdeps, ¬ S u) → ¬ S t → ¬ K t → den w M t → den w' M' t
  view : Option (TypeId × List Ty) := none
  viewOk : ∀ {T : TypeId} {l : List Ty}, view = some (T, l) → bp l = deps ∧ bU l = cdeps ∧ ∀ {w : World} {M : ay} {t : Nat}, den w M t → b8 T l w M t := by intro _ _ h; cases h
def Cont.safe (t : Cont) (S K : List Nat) : Bool := nk t.deps K && nk t.cdeps S
theorem qS {t : Cont} {S K : List Nat} (h : t.safe S K = true) : (∀ u ∈ t.deps, ¬ (u ∈ K)) ∧ ∀ u ∈ t.cdeps, ¬ (u ∈ S) := by
 simp only [Cont.safe, Bool.and_eq_true] at h; exact ⟨gm h.1, gm h.2⟩
def Cont.cells (T : TypeId) (l : List Ty) : Cont :=
  { den := b8 T l, deps := bp l, cdeps := bU l
    mono := fun le hk hc hs hkt ⟨b, cs, h1, h2, h3⟩ => let ⟨h4, h5⟩ := le.own b _ h1 hkt; ⟨b, cs, h4, (h5 hs).trans h2, bY le hk hc h3⟩
    view := some (T, l)
    viewOk := fun h => by injection h with h; injection h with h1 h2; subst h1; subst h2; exact ⟨rfl, rfl, fun h => h⟩ }
def Cont.soft (S K : List Nat) (C : Cont) : Option Cont :=
  match C.view with
  | some (T, l) => some (.cells T (l.map (Ty.weak S K)))
  | none => none
theorem Dc {S K : List Nat} {w w' : World} {M M' : ay} (le : Le (· ∈ S) (· ∈ K) w M w' M') : ∀ {l : List Ty} {vs : List Value}, cD w M l vs → cD w' M' (l.map (Ty.weak S K)) vs
  | [], [], _ => trivial
  | t :: _, _ :: _, ⟨h, hs⟩ => by
    refine ⟨?_, Dc le hs⟩
    unfold Ty.weak
    cases hc : t.safe S K with
    | true => exact t.mono le (fL hc).1 (fL hc).2 h
    | false => trivial
theorem O4 {S K : List Nat} {w w' : World} {M M' : ay} {C D : Cont} {t : Nat} (le : Le (· ∈ S) (· ∈ K) w M w' M') (hs : t ∉ S) (hk : t ∉ K) (h : C.soft S K = some D) (hd : C.den w M t) : D.den w' M' t := by
 unfold Cont.soft at h
 split at h
 ·rename_i T l hv
  injection h with h
  subst h
  obtain ⟨b, cs, h1, h2, h3⟩ := (C.viewOk hv).2.2 hd
  obtain ⟨h4, h5⟩ := le.own b t h1 hk
  exact ⟨b, cs, h4, (h5 hs).trans h2, Dc le h3⟩
 cases h
theorem Cm {S K : List Nat} : ∀ {l : List Ty} {u : Nat}, (u ∈ bp (l.map (Ty.weak S K)) → u ∈ bp l) ∧ (u ∈ bU (l.map (Ty.weak S K)) → u ∈ bU l) := by
  intro l u
  simp only [bp, bU, List.mem_flatMap, List.mem_map]
  constructor
  · rintro ⟨_, ⟨t, ht, rfl⟩, hu⟩
    unfold Ty.weak at hu
    cases hc : t.safe S K with
    | true => rw [hc] at hu; exact ⟨t, ht, hu⟩
    | false => rw [hc] at hu; simp [Ty.any] at hu
  · rintro ⟨_, ⟨t, ht, rfl⟩, hu⟩
    unfold Ty.weak at hu
    cases hc : t.safe S K with
    | true => rw [hc] at hu; exact ⟨t, ht, hu⟩
    | false => rw [hc] at hu; simp [Ty.any] at hu
def Cont.TH (D C : Cont) : Prop := (∀ u ∈ D.deps, u ∈ C.deps) ∧ ∀ u ∈ D.cdeps, u ∈ C.cdeps
theorem MK {S K : List Nat} {C D : Cont} (h : C.soft S K = some D) : D.TH C := by
 unfold Cont.soft at h
 split at h
 ·rename_i T l hv
  injection h with h
  subst h
  obtain ⟨e1, e2, _⟩ := C.viewOk hv
  exact ⟨fun u hu => e1 ▸ Cm.1 hu, fun u hu => e2 ▸ Cm.2 hu⟩
 cases h
theorem KF {l l' k : List Nat} (h : ∀ u ∈ l', u ∈ l) (hd : nk l k = true) : nk l' k = true := by
 simp only [nk, List.all_eq_true] at hd ⊢
 exact fun u hu => hd u (h u hu)
theorem DN {C D : Cont} {S K : List Nat} (h : D.TH C) (hs : C.safe S K = true) : D.safe S K = true := by
 simp only [Cont.safe, Bool.and_eq_true] at hs ⊢
 exact ⟨KF h.1 hs.1, KF h.2 hs.2⟩
structure As where
  slots : Nat → Ty
  tags : List (Nat × Cont)
inductive FK where
  | plain | marks | round (l : Nat) | iter
structure Fr where
  n : Nat
  w0 : World
  M0 : ay
  pass : List Nat
  kd : FK
def FK.Oj : FK → Nat → Prop
  | .iter, _ => True
  | _, t => 1 ≤ t
theorem FK.KL {k : FK} {t : Nat} (h : 1 ≤ t) : k.Oj t := by cases k <;> first | exact h | trivial
def FK.iU : FK → Fence
  | .round l => Fence.wide.inRound l
  | _ => Fence.wide
theorem FK.vI (k : FK) (f : FuncId) : k.iU.fn f := by cases k <;> trivial
theorem FK.AX (k : FK) : k.iU.depth = none := by cases k <;> rfl
theorem FK.calls {k : FK} {n : Nat} {P : Program} {f : FuncId} {args : Array Value} {w : World} {R : Ending → World → Prop} (h : Calls P f args w R) : CallsIn k.iU n P f args w R := by
 have h' : CallsIn Fence.wide n P f args w R := callsIn_wide.2 h
 cases k <;> first | exact h' | exact CallsIn.inRound _ h'
theorem Nt {k : FK} {P : Program} {o : Oper} {a : Act} {w : World} {K : Act → World → Prop} (hnd : ∀ c, o.op ≠ .defer c) (hnr : ∀ row args w', (execOp a.eval o).run P w ≠ .ok (.row row args) w') (h : o.wp P a w K fun _ _ _ => False) : o.wpIn k.iU 0 P a w K fun _ _ _ => False := by
  refine ⟨fun f _ => k.vI f, ?_⟩
  unfold Oper.wp at h
  rw [Oper.semAt_eq k.iU.round a.eval o hnd]
  generalize hr : (execOp a.eval o).run P w = r at *
  cases r with
  | ok n w' =>
    cases n <;> simp only [Oper.upon, Oper.uponIn] at h ⊢ <;> first
      | exact h
      | exact ⟨fun hd => (by rw [k.AX] at hd; cases hd), FK.calls h⟩
      | exact absurd rfl (hnr _ _ _)
  | halt x w' => cases x <;> simp only [Oper.upon, Oper.uponIn] at h ⊢
theorem Eo {ρ : Operand → Value} {o : Oper} {P : Program} {w w' : World} {n : Next} (h : (execOp ρ o).run P w = .ok n w') (hn : ∀ d, n ≠ .defer d) : ∀ c, o.op ≠ .defer c := by
  intro c hc
  unfold execOp at h
  rw [hc] at h
  rw [Sem.run_bind] at h
  cases hr : (resolve ρ c o.type).run P w with
  | ok d w2 => rw [hr] at h; injection h with h; exact hn d h.symm
  | halt x w2 => rw [hr] at h; cases h
theorem rZ {k : FK} {P : Program} {o : Oper} {a : Act} {w w' : World} {v : Value} {K : Act → World → Prop} (hv : (execOp a.eval o).run P w = .ok (.value v) w') (h : K (a.put o.dst v) w') : o.wpIn k.iU 0 P a w K fun _ _ _ => False := by
 refine Nt (Eo hv fun _ h => by cases h) (fun _ _ _ hr => by rw [hv] at hr; cases hr) ?_
 unfold Oper.wp
 rw [hv, Oper.upon_value]; exact h
theorem BD {k : FK} {P : Program} {o : Oper} {a : Act} {w w' : World} {K : Act → World → Prop} (hv : (execOp a.eval o).run P w = .ok .skip w') (h : K (a.put o.dst undef) w') : o.wpIn k.iU 0 P a w K fun _ _ _ => False := by
 refine Nt (Eo hv fun _ h => by cases h) (fun _ _ _ hr => by rw [hv] at hr; cases hr) ?_
 unfold Oper.wp
 rw [hv, Oper.upon_skip]; exact h
theorem hH {k : FK} {P : Program} {o : Oper} {a : Act} {w w' : World} {f : FuncId} {args : Array Value} {K : Act → World → Prop} (hv : (execOp a.eval o).run P w = .ok (.enter f args) w') (h : Calls P f args w' fun e w'' => ∃ v, e = .returned v ∧ K (a.put o.dst v) w'') : o.wpIn k.iU 0 P a w K fun _ _ _ => False := by
 refine Nt (Eo hv fun _ h => by cases h) (fun _ _ _ hr => by rw [hv] at hr; cases hr) ?_
 unfold Oper.wp
 rw [hv, Oper.upon_enter]
 exact h.mono fun e w'' ⟨v, e1, hk⟩ => by subst e1; exact hk
def Fr.base (fr : Fr) (w : World) (M : ay) : Prop := Le fr.kd.Oj (fun t => 1 ≤ t ∧ t ∉ fr.pass) fr.w0 fr.M0 w M
def xj (r : Nat) : Deferred := { target := .collected r, args := #[] }
def Defs (fr : Fr) (w : World) (M : ay) (ds : List Deferred) : Prop :=
  ∃ rs : List Nat, ds = rs.map xj ∧ (rs ≠ [] → fr.kd = .marks) ∧ rs.Nodup ∧ ∀ r ∈ rs, M r = some 0 ∧ (fr.w0.heap.size ≤ r ∧ ∀ t, ¬ (1 ≤ t ∧ t ∉ fr.pass) → fr.M0 r ≠ some t) ∧ w.heap[r]? = some (.deferred (some []))
theorem Defs.nil {fr : Fr} {w : World} {M : ay} : Defs fr w M [] := ⟨[], rfl, fun h => absurd rfl h, List.nodup_nil, fun _ h => by cases h⟩
theorem Defs.step {fr : Fr} {w w' : World} {M M' : ay} {S K : Nat → Prop} {ds : List Deferred} (hs : ∀ t, S t → 1 ≤ t) (hk : ∀ t, K t → 1 ≤ t) (le : Le S K w M w' M') (h : Defs fr w M ds) : Defs fr w' M' ds := by
 obtain ⟨rs, e, h1, h2, h3⟩ := h
 refine ⟨rs, e, h1, h2, fun r hr => ?_⟩
 obtain ⟨a, b, c⟩ := h3 r hr
 obtain ⟨d, f⟩ := le.own r 0 a (fun h => by have := hk 0 h; omega)
 exact ⟨d, b, (f fun h => by have := hs 0 h; omega).trans c⟩
structure Ok (fr : Fr) (a : Act) (w : World) (M : ay) : Prop where
  wf : Wf w M
  base : fr.base w M
  size : a.tmps.size = fr.n
  defers : Defs fr w M a.defers
theorem Ok.iw {fr : Fr} {a : Act} {w : World} {M : ay} (h : Ok fr a w M) (hk : fr.kd ≠ .marks) : a.defers = [] := by
  obtain ⟨rs, e, h1, _⟩ := h.defers
  cases rs with
  | nil => exact e
  | cons r rs => exact absurd (h1 (by simp)) hk
def As.holds (fr : Fr) (A : As) (a : Act) (w : World) : Prop :=
  ∃ M, Ok fr a w M ∧ (∀ c, c < fr.n → (A.slots c).den w M (a.tmps.getD c undef)) ∧ ∀ x ∈ A.tags, x.2.den w M x.1
structure Fx where
  d : Option Nat
  ty : Ty := Ty.any
  S : List Nat := []
  K : List Nat := []
  sets : List (Nat × Cont) := []
  rs : List Nat := []
  rt : List Nat := []
def gI (S K : List Nat) (s : Nat → Ty) : Nat → Ty :=
  match S, K with
  | [], [] => s
  | S, K => fun c => bif (s c).safe S K then s c else Ty.any
def p7 (d : Option Nat) (ty : Ty) (s : Nat → Ty) : Nat → Ty :=
  match d with
  | none => s
  | some d => fun c => bif Nat.beq c d then ty else s c
def o9 (S K : List Nat) (l : List (Nat × Cont)) : List (Nat × Cont) :=
  match S, K with
  | [], [] => l
  | _, _ => l.filterMap fun x => bif S.contains x.1 || K.contains x.1 then none else bif x.2.safe S K then some x else (x.2.soft S K).map fun C => (x.1, C)
def As.after (A : As) (f : Fx) : As := ⟨p7 f.d f.ty (gI f.S f.K A.slots), f.sets ++ o9 f.S f.K A.tags⟩
def Fx.left (f : Fx) (w : World) (M : ay) (w' : World) (v : Value) : Prop :=
  ∃ M', Wf w' M' ∧ Le (· ∈ f.S) (· ∈ f.K) w M w' M' ∧ f.ty.den w' M' v ∧ ∀ x ∈ f.sets, x.2.den w' M' x.1
def CM (P : Program) (fr : Fr) (ops : Array Oper) (o : Oper) (A : As) (f : Fx) : Prop :=
  f.d = o.dst ∧ (∀ x ∈ f.sets, x.1 ∈ f.S ∨ x.1 ∈ f.K) ∧ (∀ t ∈ f.S, 1 ≤ t) ∧ (∀ t ∈ f.K, 1 ≤ t ∧ t ∉ fr.pass) ∧
  ∀ a w M, Wf w M → a.tmps.size = fr.n → (∀ c ∈ f.rs, c < fr.n → (A.slots c).den w M (a.tmps.getD c undef)) → (∀ x ∈ A.tags, x.1 ∈ f.rt → x.2.den w M x.1) →
    if Region.wanted o (yielded ops a.tmps) then o.wpIn fr.kd.iU 0 P a w (fun a' w' => ∃ v, a' = a.put o.dst v ∧ f.left w M w' v) (fun _ _ _ => False) else f.left w M w undef
def aV (P : Program) (fr : Fr) (ops : Array Oper) : List Oper → As → (As → List (As × Fx) → Prop) → Prop
  | [], A, K => K A []
  | o :: rest, A, K => ∃ f, CM P fr ops o A f ∧ aV P fr ops rest (A.after f) fun A' l => K A' ((A, f) :: l)
section
variable {P : Program} {fr : Fr} {ops : Array Oper}
theorem fu (S K : List Nat) (s : Nat → Ty) (c : Nat) : (gI S K s c = s c ∧ (s c).safe S K = true) ∨ ((s c).safe S K = false ∧ gI S K s c = Ty.any) := by
  unfold gI
  split
  · exact .inl ⟨rfl, AF _⟩
  · cases h : (s c).safe _ _ with
    | true => exact .inl ⟨by simp only [h, cond_true], rfl⟩
    | false => exact .inr ⟨rfl, by simp only [h, cond_false]⟩
theorem qD {S K : List Nat} {l : List (Nat × Cont)} {x : Nat × Cont} (h : x ∈ o9 S K l) : x.1 ∉ S ∧ x.1 ∉ K ∧ ∃ y ∈ l, y.1 = x.1 ∧ ((y = x ∧ y.2.safe S K = true) ∨ (y.2.safe S K = false ∧ y.2.soft S K = some x.2)) := by
  unfold o9 at h
  split at h
  · exact ⟨by simp, by simp, x, h, rfl, .inl ⟨rfl, by simp [Cont.safe, nk]⟩⟩
  · obtain ⟨y, hy, hx⟩ := List.mem_filterMap.1 h
    cases hc : (S.contains y.1 || K.contains y.1) with
    | true => rw [hc] at hx; cases hx
    | false =>
      rw [hc, cond_false] at hx
      simp only [Bool.or_eq_false_iff, List.contains_eq_mem, decide_eq_false_iff_not] at hc
      cases hs : y.2.safe S K with
      | true => rw [hs, cond_true] at hx; injection hx with hx; subst hx; exact ⟨hc.1, hc.2, y, hy, rfl, .inl ⟨rfl, hs⟩⟩
      | false =>
        rw [hs, cond_false] at hx
        obtain ⟨D, hD, hx⟩ := Option.map_eq_some_iff.1 hx
        subst hx
        exact ⟨hc.1, hc.2, y, hy, rfl, .inr ⟨hs, hD⟩⟩
theorem jJ {S K : List Nat} {w w' : World} {M M' : ay} {l : List (Nat × Cont)} {x : Nat × Cont} (le : Le (· ∈ S) (· ∈ K) w M w' M') (h : x ∈ o9 S K l) (hd : ∀ y ∈ l, y.1 = x.1 → y.2.den w M y.1) : x.2.den w' M' x.1 := by
 obtain ⟨h1, h2, y, hy, e, ⟨rfl, hs⟩ | ⟨_, hs⟩⟩ := qD h
 ·exact y.2.mono le (qS hs).1 (qS hs).2 h1 h2 (hd y hy rfl)
 have := hd y hy e
 rw [e] at this
 exact O4 le h1 h2 hs this
theorem AV (a : Act) (d : Option Nat) (v : Value) (c : Nat) (hc : c < a.tmps.size) : (a.put d v).tmps.getD c undef = if d = some c then v else a.tmps.getD c undef := by
  cases d with
  | none => simp [Act.put]
  | some d =>
    simp only [Act.put, Array.getD_eq_getD_getElem?, Array.getElem?_setIfInBounds, Option.some.injEq]
    by_cases e : d = c
    · subst e; simp [hc]
    · simp [e]
theorem size_put (a : Act) (d : Option Nat) (v : Value) : (a.put d v).tmps.size = a.tmps.size := by cases d <;> simp [Act.put]
theorem vA (a : Act) (d : Option Nat) (v : Value) : (a.put d v).defers = a.defers := by cases d <;> simp [Act.put]
theorem Fr.lK {w w' : World} {M M' : ay} {S K : Nat → Prop} (hb : fr.base w M) (hs : ∀ t, S t → 1 ≤ t) (hk : ∀ t, K t → 1 ≤ t ∧ t ∉ fr.pass) (h : Le S K w M w' M') : fr.base w' M' :=
 (hb.trans h).weaken (fun t ht => ht.elim id (fun h => FK.KL (hs t h))) (fun t ht => ht.elim id (hk t))
theorem oQ {A : As} {f : Fx} {a : Act} {w w' : World} {M : ay} {v : Value} (hS : ∀ t ∈ f.S, 1 ≤ t) (hK : ∀ t ∈ f.K, 1 ≤ t ∧ t ∉ fr.pass) 
    (ok : Ok fr a w M) (hs : ∀ c, c < fr.n → (A.slots c).den w M (a.tmps.getD c undef)) (ht : ∀ x ∈ A.tags, x.2.den w M x.1) (hl : f.left w M w' v) : (A.after f).holds fr (a.put f.d v) w' := by
  obtain ⟨M', wf', le, hv, hsets⟩ := hl
  refine ⟨M', ⟨wf', Fr.lK ok.base hS hK le, by rw [size_put, ok.size], by rw [vA]; exact ok.defers.step hS (fun t ht => (hK t ht).1) le⟩, fun c hc => ?_, fun x hx => ?_⟩
  · rw [AV a f.d v c (by rw [ok.size]; exact hc)]
    have key : (gI f.S f.K A.slots c).den w' M' (a.tmps.getD c undef) := by
      rcases fu f.S f.K A.slots c with ⟨e, hdj⟩ | ⟨_, e⟩
      · rw [e]
        exact (A.slots c).mono le (fL hdj).1 (fL hdj).2 (hs c hc)
      · rw [e]; trivial
    simp only [As.after, p7]
    cases hfd : f.d with
    | none => simpa using key
    | some d =>
      by_cases e : d = c
      · subst e; simpa using hv
      · have e' : Nat.beq c d = false := by cases h : Nat.beq c d with | false => rfl | true => exact absurd (Nat.eq_of_beq_eq_true h).symm e
        simpa [e, e'] using key
  · rcases List.mem_append.1 hx with hx | hx
    · exact hsets x hx
    · exact jJ le hx fun y hy _ => ht y hy
end
end Go.T
namespace Go.T
open Go Go.RowKit
section
variable {P : Program} {fr : Fr} {ops : Array Oper}
theorem Oper.pz {F : Fence} {o : Oper} {a : Act} {w : World} {K K' : Act → World → Prop} {Q : Exit → Act → World → Prop} (h : ∀ a w, K a w → K' a w)
    (hh : o.wpIn F 0 P a w K fun _ _ _ => False) : o.wpIn F 0 P a w K' Q := by
  unfold Oper.wpIn at *
  refine ⟨hh.1, ?_⟩
  have hh := hh.2
  generalize (o.semAt F.round a.eval).run P w = r at *
  cases r with
  | ok n w' =>
    cases n <;> simp only [Oper.uponIn] at hh ⊢ <;>
      first
        | exact h _ _ hh
        | exact ⟨hh.1, CallsIn.mono hh.2 (fun e w'' he => by
            cases e with
            | returned v => exact h _ _ he
            | panicked c => exact he.elim
            | outgrown => obtain ⟨_, _, f⟩ := he; exact f.elim)⟩
        | exact ⟨hh.1, RoundIn.mono hh.2 (fun e w'' he => by
            cases e with
            | returned v => exact h _ _ he
            | panicked c => exact he.elim
            | outgrown => obtain ⟨_, _, f⟩ := he; exact f.elim)⟩
        | exact ⟨hh.1, RowsIn.mono hh.2 (fun _ _ he => h _ _ he)⟩
  | halt x w' => cases x <;> simp only [Oper.uponIn] at hh ⊢
theorem pQ {Q : Exit → Act → World → Prop} : ∀ (l : List Oper) (A : As) (K : As → List (As × Fx) → Prop) (a : Act) (w : World), aV P fr ops l A K → A.holds fr a w →
    (∀ A' s a w, K A' s → A'.holds fr a w → Q .normal a w) → wpListIn fr.kd.iU 0 P ops Q l a w
  | [], A, K, a, w, h, ha, hk => hk A [] a w h ha
  | o :: rest, A, K, a, w, ⟨f, ⟨hd, hsets, hS, hK, hop⟩, hrest⟩, ⟨M, ok, hs, ht⟩, hk => by
    have h := hop a w M ok.wf ok.size (fun c _ hc => hs c hc) (fun x hx _ => ht x hx)
    unfold wpListIn
    split
    · rename_i hw
      rw [if_pos hw] at h
      refine Oper.pz (fun a' w' ⟨v, e, hl⟩ => ?_) h
      subst e
      rw [← hd]
      exact pQ rest _ _ _ _ hrest (oQ hS hK ok hs ht hl) fun A' s a w hk' hA => hk A' _ a w hk' hA
    · rename_i hw
      rw [if_neg hw] at h
      refine ⟨fun f _ => fr.kd.vI f, ?_⟩
      rw [← hd]
      exact pQ rest _ _ _ _ hrest (oQ hS hK ok hs ht h) fun A' s a w hk' hA => hk A' _ a w hk' hA
def hit (s : As × Fx) (c : Nat) : Bool := s.2.d == some c || !(s.1.slots c).safe s.2.S s.2.K
def j5 (s : As × Fx) (t : Nat) : Bool := (s.2.S.contains t || s.2.K.contains t) || s.1.tags.any fun x => x.1 == t && !x.2.safe s.2.S s.2.K
def Fx.calm (f : Fx) : Bool := f.S.isEmpty && f.K.isEmpty
def Fx.slotsOf (f : Fx) : List Nat := f.d.toList ++ f.rs
def Fx.oZ (f : Fx) : List Nat := f.S ++ (f.K ++ f.rt)
def conflict (n : Nat) (s t : As × Fx) : Bool :=
  t.2.slotsOf.any (hit s) || s.2.slotsOf.any (hit t) || t.2.oZ.any (j5 s) || s.2.oZ.any (j5 t) ||
  (!s.2.calm && !t.2.calm && ((List.range n).any (fun c => hit s c && hit t c) || s.1.tags.any fun x => j5 s x.1 && j5 t x.1))
def qC (ops : Array Oper) (i j : Nat) : Bool :=
  match ops[j]? with
  | some o => o.after.toList.any fun e => Region.binds .any e && e.on == i
  | none => false
def SL (ops : Array Oper) : Nat → List Nat → List Nat
  | 0, s => s
  | k + 1, s => SL ops k (bif s.any fun m => qC ops k m then k :: s else s)
def path (ops : Array Oper) (i j : Nat) : Bool := qC ops i j || (SL ops j [j]).contains i
def P5 (n : Nat) (ops : Array Oper) (s t : As × Fx) (i j : Nat) : Bool := !(decide (i < j) && conflict n s t) || path ops i j
def Ue (ops : Array Oper) (steps : List ((As × Fx) × Nat)) (i k c : Nat) : Bool := steps.any fun m => decide (k < m.2) && (decide (m.2 < i) && (hit m.1 c && path ops m.2 i))
def EX (ops : Array Oper) (steps : List ((As × Fx) × Nat)) (s t : As × Fx) (i k : Nat) : Bool :=
  (if i == k then true else if k < i then t.2.d.toList.all (fun c => t.2.ty.safe s.2.S s.2.K || (hit s c || Ue ops steps i k c)) && t.2.sets.all (fun x => x.2.safe s.2.S s.2.K || j5 s x.1)
    else (t.2.ty.safe s.2.S s.2.K && t.2.sets.all (fun x => x.2.safe s.2.S s.2.K)) || path ops i k)
def Ko (n : Nat) (A0 : As) (s : As × Fx) : Bool :=
  s.2.calm || ((List.range n).all (fun c => (A0.slots c).safe s.2.S s.2.K || hit s c) && A0.tags.all (fun x => x.2.safe s.2.S s.2.K || j5 s x.1))
def lT (n : Nat) (ops : Array Oper) (A0 : As) (steps : List (As × Fx)) : Bool :=
  steps.zipIdx.all fun s => Ko n A0 s.1 && steps.zipIdx.all fun t => P5 n ops s.1 t.1 s.2 t.2 && (s.1.2.calm || EX ops steps.zipIdx s.1 t.1 s.2 t.2)
theorem BN : ∀ (l : List Oper) (k : Nat) (A : As) (K : As → List (As × Fx) → Prop), aV P fr ops l A K → (∀ j, l[j]? = ops[k + j]?) →
    ∃ (st : Nat → As) (fx : Nat → Fx), st 0 = A ∧ (∀ i, i < l.length → ∃ o, ops[k + i]? = some o ∧ CM P fr ops o (st i) (fx i)) ∧ (∀ i, i < l.length → st (i + 1) = (st i).after (fx i)) ∧
      K (st l.length) ((List.range l.length).map fun i => (st i, fx i))
  | [], k, A, K, h, _ => ⟨fun _ => A, fun _ => ⟨none, Ty.any, [], [], [], [], []⟩, rfl, fun i hi => absurd hi (Nat.not_lt_zero _), fun i hi => absurd hi (Nat.not_lt_zero _), h⟩
  | o :: rest, k, A, K, ⟨f, hop, hrest⟩, hl => by
    obtain ⟨st, fx, h0, h1, h2, h3⟩ := BN rest (k + 1) _ _ hrest (fun j => by have := hl (j + 1); simpa [Nat.add_assoc, Nat.add_comm 1 j] using this)
    refine ⟨fun i => match i with | 0 => A | i + 1 => st i, fun i => match i with | 0 => f | i + 1 => fx i, rfl, fun i hi => ?_, fun i hi => ?_, ?_⟩
    · cases i with
      | zero => exact ⟨o, by have := hl 0; simpa using this.symm, hop⟩
      | succ i => obtain ⟨o', ho', h⟩ := h1 i (by simpa using hi); exact ⟨o', by rw [← ho']; congr 1; omega, h⟩
    · cases i with
      | zero => exact h0
      | succ i => exact h2 i (by simpa using hi)
    · simp only [List.length_cons, List.range_succ_eq_map, List.map_cons, List.map_map]
      exact h3
variable {st : Nat → As} {fx : Nat → Fx} {m : Nat}
theorem Au {A : As} {f : Fx} {c : Nat} (h : hit (A, f) c = false) : (A.after f).slots c = A.slots c := by
  simp only [hit, Bool.or_eq_false_iff, beq_eq_false_iff_ne, Bool.not_eq_false'] at h
  rcases fu f.S f.K A.slots c with ⟨e, _⟩ | ⟨e, _⟩
  · simp only [As.after, p7]
    cases hd : f.d with
    | none => simpa using e
    | some d =>
      have : Nat.beq c d = false := by cases hb : Nat.beq c d with | false => rfl | true => exact absurd (by rw [hd, Nat.eq_of_beq_eq_true hb]) h.1
      simpa [this] using e
  · rw [h.2] at e; cases e
theorem Jz {A : As} {f : Fx} {c : Nat} (h : f.d = some c) : (A.after f).slots c = f.ty := by simp [As.after, p7, h]
theorem zi {A : As} {f : Fx} {c : Nat} (h : f.d ≠ some c) (hk : (A.slots c).safe f.S f.K = false) : (A.after f).slots c = Ty.any := by
  rcases fu f.S f.K A.slots c with ⟨_, e⟩ | ⟨_, e⟩
  · rw [hk] at e; cases e
  · simp only [As.after, p7]
    cases hd : f.d with
    | none => simpa using e
    | some d =>
      have : Nat.beq c d = false := by cases hb : Nat.beq c d with | false => rfl | true => exact absurd (by rw [hd, Nat.eq_of_beq_eq_true hb]) h
      simpa [this] using e
theorem LG (hstep : ∀ i, i < m → st (i + 1) = (st i).after (fx i)) (c : Nat) : ∀ j, j ≤ m →
    (st j).slots c = (st 0).slots c ∨ (st j).slots c = Ty.any ∨ ∃ k, k < j ∧ (fx k).d = some c ∧ (st j).slots c = (fx k).ty ∧ ∀ u, k < u → u < j → hit (st u, fx u) c = false := by
  intro j
  induction j with
  | zero => exact fun _ => .inl rfl
  | succ j ih =>
    intro hj
    have ih := ih (by omega)
    rw [hstep j (by omega)]
    by_cases hd : (fx j).d = some c
    · exact .inr (.inr ⟨j, by omega, hd, Jz hd, fun u h1 h2 => by omega⟩)
    · cases hk : ((st j).slots c).safe (fx j).S (fx j).K with
      | false => exact .inr (.inl (zi hd hk))
      | true =>
        rw [Au (by simp [hit, hd, hk])]
        rcases ih with h | h | ⟨k, h1, h2, h3, h4⟩
        · exact .inl h
        · exact .inr (.inl h)
        · refine .inr (.inr ⟨k, by omega, h2, h3, fun u g1 g2 => ?_⟩)
          by_cases e : u = j
          · subst e; simp [hit, hd, hk]
          · exact h4 u g1 (by omega)
theorem Nq (hstep : ∀ i, i < m → st (i + 1) = (st i).after (fx i)) (x : Nat × Cont) : ∀ j, j ≤ m → x ∈ (st j).tags →
    ∃ y : Nat × Cont, y.1 = x.1 ∧ x.2.TH y.2 ∧ (y ∈ (st 0).tags ∨ ∃ k, k < j ∧ y ∈ (fx k).sets) := by
  intro j
  induction j generalizing x with
  | zero => exact fun _ h => ⟨x, rfl, ⟨fun _ h => h, fun _ h => h⟩, .inl h⟩
  | succ j ih =>
    intro hj hx
    rw [hstep j (by omega)] at hx
    rcases List.mem_append.1 hx with h | h
    · exact ⟨x, rfl, ⟨fun _ h => h, fun _ h => h⟩, .inr ⟨j, by omega, h⟩⟩
    · obtain ⟨_, _, y, hy, e, ⟨rfl, _⟩ | ⟨_, hs⟩⟩ := qD h
      · obtain ⟨z, h1, h2, h3⟩ := ih y (by omega) hy
        exact ⟨z, h1, h2, h3.imp id fun ⟨k, hk, h⟩ => ⟨k, by omega, h⟩⟩
      · obtain ⟨z, h1, h2, h3⟩ := ih y (by omega) hy
        have hl := MK hs
        exact ⟨z, h1.trans e, ⟨fun u hu => h2.1 u (hl.1 u hu), fun u hu => h2.2 u (hl.2 u hu)⟩, h3.imp id fun ⟨k, hk, h⟩ => ⟨k, by omega, h⟩⟩
theorem DG (hstep : ∀ i, i < m → st (i + 1) = (st i).after (fx i)) (c i : Nat) : ∀ j, i ≤ j → j ≤ m → (∀ k, i ≤ k → k < j → hit (st k, fx k) c = false) → (st j).slots c = (st i).slots c := by
  intro j
  induction j with
  | zero => intro h _ _; have : i = 0 := by omega
            subst this; rfl
  | succ j ih =>
    intro h hj hn
    by_cases e : i = j + 1
    · subst e; rfl
    · rw [hstep j (by omega), Au (hn j (by omega) (by omega))]
      exact ih (by omega) (by omega) fun k h1 h2 => hn k h1 (by omega)
theorem FU (hstep : ∀ i, i < m → st (i + 1) = (st i).after (fx i)) (hset : ∀ i, i < m → ∀ x ∈ (fx i).sets, x.1 ∈ (fx i).S ∨ x.1 ∈ (fx i).K) (x : Nat × Cont) (i : Nat) : ∀ j, i ≤ j → j ≤ m →
    (∀ k, i ≤ k → k < j → j5 (st k, fx k) x.1 = false) → x ∈ (st j).tags → x ∈ (st i).tags := by
  intro j
  induction j with
  | zero => intro h _ _ hx; have : i = 0 := by omega
            subst this; exact hx
  | succ j ih =>
    intro h hj hn hx
    by_cases e : i = j + 1
    · subst e; exact hx
    · refine ih (by omega) (by omega) (fun k h1 h2 => hn k h1 (by omega)) ?_
      rw [hstep j (by omega)] at hx
      have hh := hn j (by omega) (by omega)
      simp only [j5, Bool.or_eq_false_iff, List.contains_eq_mem, decide_eq_false_iff_not, List.any_eq_false, Bool.and_eq_true, beq_iff_eq, Bool.not_eq_true', not_and, Bool.not_eq_false] at hh
      rcases List.mem_append.1 hx with h1 | h1
      · rcases hset j (by omega) x h1 with h2 | h2
        · exact absurd h2 hh.1.1
        · exact absurd h2 hh.1.2
      · obtain ⟨_, _, y, hy, e, ⟨rfl, _⟩ | ⟨hu, _⟩⟩ := qD h1
        · exact hy
        · have := hh.2 y hy e; rw [hu] at this; cases this
end
end Go.T
namespace Go.T
open Go Go.RowKit
section
variable {P : Program} {fr : Fr} {ops : Array Oper} {st : Nat → As} {fx : Nat → Fx} {m : Nat}
structure Ss (P : Program) (fr : Fr) (ops : Array Oper) (st : Nat → As) (fx : Nat → Fx) (m : Nat) : Prop where
  sz : ops.size = m
  op : ∀ i, i < m → ∃ o, ops[i]? = some o ∧ CM P fr ops o (st i) (fx i)
  step : ∀ i, i < m → st (i + 1) = (st i).after (fx i)
  pair : ∀ i j, i < j → j < m → conflict fr.n (st i, fx i) (st j, fx j) = true → path ops i j = true
  star : ∀ i k, i < m → k < m → (fx i).calm = false → EX ops ((List.range m).map fun i => (st i, fx i)).zipIdx (st i, fx i) (st k, fx k) i k = true
  one : ∀ i, i < m → Ko fr.n (st 0) (st i, fx i) = true
def nF (listed : Array Bool) (i : Nat) : Prop := listed.getD i false = true
theorem xZ {q : Nat → Prop} (h : ∀ k m, qC ops k m = true → q m → q k) : ∀ (k : Nat) (s : List Nat), (∀ x ∈ s, q x) → ∀ x ∈ SL ops k s, q x
  | 0, _, hs => hs
  | k + 1, s, hs => by
    refine xZ h k _ fun x hx => ?_
    cases hc : s.any fun m => qC ops k m with
    | false => rw [hc] at hx; exact hs x hx
    | true =>
      rw [hc] at hx
      obtain ⟨m, hm, he⟩ := List.any_eq_true.1 hc
      rcases List.mem_cons.1 hx with rfl | hx
      · exact h _ m he (hs m hm)
      · exact hs x hx
theorem lJ {listed : Array Bool} (hdown : ∀ k j, qC ops k j = true → nF listed j → nF listed k) {i j : Nat} (h : path ops i j = true) (hj : nF listed j) : nF listed i := by
 simp only [path, Bool.or_eq_true, List.contains_eq_mem, decide_eq_true_eq] at h
 rcases h with h | h
 ·exact hdown i j h hj
 exact xZ (q := nF listed) hdown j [j] (fun x hx => by rw [List.mem_singleton.1 hx]; exact hj) i h
theorem v5 {listed : Array Bool} (hdown : ∀ k j, qC ops k j = true → nF listed j → nF listed k) {i k : Nat} (hpre : ∀ k, qC ops k i = true → nF listed k) (h : path ops k i = true) (hne : k ≠ i) : nF listed k := by
 simp only [path, Bool.or_eq_true, List.contains_eq_mem, decide_eq_true_eq] at h
 rcases h with h | h
 ·exact hpre k h
 refine (xZ (q := fun x => x = i ∨ nF listed x) (fun a m he hm => ?_) i [i] (fun x hx => .inl (List.mem_singleton.1 hx)) k h).resolve_left hne
 rcases hm with rfl | hm
 ·exact .inr (hpre a he)
 exact .inr (hdown a m he hm)
structure Inv (fr : Fr) (ops : Array Oper) (st : Nat → As) (fx : Nat → Fx) (m : Nat) (listed : Array Bool) (a : Act) (w : World) (M : ay) : Prop where
  ok : Ok fr a w M
  down : ∀ k j, qC ops k j = true → nF listed j → nF listed k
  slot : ∀ c, c < fr.n → ∀ j, j ≤ m → (∀ i, i < j → hit (st i, fx i) c = true → nF listed i) → (∀ i, j ≤ i → i < m → hit (st i, fx i) c = true → ¬ nF listed i) →
    ((st j).slots c).den w M (a.tmps.getD c undef)
  tag : ∀ j, j ≤ m → ∀ x ∈ (st j).tags, (∀ i, i < j → j5 (st i, fx i) x.1 = true → nF listed i) → (∀ i, j ≤ i → i < m → j5 (st i, fx i) x.1 = true → ¬ nF listed i) → x.2.den w M x.1
theorem vZ {listed : Array Bool} {i k : Nat} (h : nF (listed.setIfInBounds i true) k) : nF listed k ∨ k = i := by
 by_cases e : i = k
 ·exact .inr e.symm
 exact .inl (by simpa [nF, Array.getElem?_setIfInBounds_ne e] using h)
theorem zP {listed : Array Bool} {i k : Nat} (h : nF listed k) : nF (listed.setIfInBounds i true) k := getD_set_true h
theorem Gr {listed : Array Bool} {i : Nat} (h : i < listed.size) : nF (listed.setIfInBounds i true) i := by simp [nF, h]
theorem Ca {n : Nat} {s t : As × Fx} {c : Nat} (h : c ∈ t.2.slotsOf) (hh : hit s c = true) : conflict n s t = true := by
 have : t.2.slotsOf.any (hit s) = true := List.any_eq_true.2 ⟨c, h, hh⟩
 simp [conflict, this]
theorem Ag {n : Nat} {s t : As × Fx} {c : Nat} (h : c ∈ s.2.slotsOf) (hh : hit t c = true) : conflict n s t = true := by
 have : s.2.slotsOf.any (hit t) = true := List.any_eq_true.2 ⟨c, h, hh⟩
 simp [conflict, this]
theorem G0 {n : Nat} {s t : As × Fx} {c : Nat} (h : c ∈ t.2.oZ) (hh : j5 s c = true) : conflict n s t = true := by
 have : t.2.oZ.any (j5 s) = true := List.any_eq_true.2 ⟨c, h, hh⟩
 simp [conflict, this]
theorem Dl {n : Nat} {s t : As × Fx} {c : Nat} (h : c ∈ s.2.oZ) (hh : j5 t c = true) : conflict n s t = true := by
 have : s.2.oZ.any (j5 t) = true := List.any_eq_true.2 ⟨c, h, hh⟩
 simp [conflict, this]
theorem Nj {s : As × Fx} {c : Nat} (h : s.2.d = some c) : hit s c = true := by simp [hit, h]
theorem AR {s : As × Fx} {c : Nat} (h : hit s c = true) (hd : s.2.d ≠ some c) : (s.1.slots c).safe s.2.S s.2.K = false ∧ s.2.calm = false := by
  have h1 : (s.1.slots c).safe s.2.S s.2.K = false := by
    simp only [hit, Bool.or_eq_true, beq_iff_eq, hd, false_or, Bool.not_eq_true'] at h; exact h
  refine ⟨h1, ?_⟩
  cases hk : s.2.calm with
  | false => rfl
  | true =>
    simp only [Fx.calm, Bool.and_eq_true, List.isEmpty_iff] at hk
    rw [hk.1, hk.2, AF] at h1; cases h1
theorem tv {f : Fx} {c : Nat} (h : f.d = some c) : c ∈ f.slotsOf := by simp [Fx.slotsOf, h]
theorem L0 {n : Nat} {s t : As × Fx} {c : Nat} (hc : c < n) (h : hit s c = true) (h' : hit t c = true) : conflict n s t = true := by
 by_cases hd : s.2.d = some c
 ·exact Ag (tv hd) h'
 by_cases hd' : t.2.d = some c
 ·exact Ca (tv hd') h
 have h1 := (AR h hd).2
 have h2 := (AR h' hd').2
 have : ((List.range n).any fun c => hit s c && hit t c) = true := List.any_eq_true.2 ⟨c, List.mem_range.2 hc, by simp [h, h']⟩
 simp [conflict, h1, h2, this]
theorem calm_eq {f : Fx} (h : f.calm = true) : f.S = [] ∧ f.K = [] := by simpa [Fx.calm] using h
theorem xY (t : Cont) : t.safe [] [] = true := by simp [Cont.safe, nk]
theorem uS {n : Nat} {s t : As × Fx} {c : Nat} (h : j5 s c = true) (h' : j5 t c = true) : conflict n s t = true := by
  have hs : (c ∈ s.2.S ∨ c ∈ s.2.K) ∨ ∃ x ∈ s.1.tags, x.1 = c ∧ x.2.safe s.2.S s.2.K = false := by
    simpa only [j5, Bool.or_eq_true, List.contains_eq_mem, decide_eq_true_eq, List.any_eq_true, Bool.and_eq_true, beq_iff_eq, Bool.not_eq_true'] using h
  have ht : (c ∈ t.2.S ∨ c ∈ t.2.K) ∨ ∃ x ∈ t.1.tags, x.1 = c ∧ x.2.safe t.2.S t.2.K = false := by
    simpa only [j5, Bool.or_eq_true, List.contains_eq_mem, decide_eq_true_eq, List.any_eq_true, Bool.and_eq_true, beq_iff_eq, Bool.not_eq_true'] using h'
  rcases hs with hs | ⟨x, hx, rfl, hxs⟩
  · exact Dl (by simp only [Fx.oZ, List.mem_append]; exact hs.elim .inl fun h => .inr (.inl h)) h'
  · rcases ht with ht | ⟨y, _, _, hys⟩
    · exact G0 (by simp only [Fx.oZ, List.mem_append]; exact ht.elim .inl fun h => .inr (.inl h)) h
    · have c1 : s.2.calm = false := by
        cases hc : s.2.calm with
        | false => rfl
        | true => rw [(calm_eq hc).1, (calm_eq hc).2, xY] at hxs; cases hxs
      have c2 : t.2.calm = false := by
        cases hc : t.2.calm with
        | false => rfl
        | true => rw [(calm_eq hc).1, (calm_eq hc).2, xY] at hys; cases hys
      have : (s.1.tags.any fun x => j5 s x.1 && j5 t x.1) = true := List.any_eq_true.2 ⟨x, hx, by simp [h, h']⟩
      simp [conflict, c1, c2, this]
theorem Ss.Gd (r : Ss P fr ops st fx m) {listed : Array Bool} (hdown : ∀ k j, qC ops k j = true → nF listed j → nF listed k) {i c j : Nat} (hi : i < m) (hni : ¬ nF listed i) (hc : c < fr.n) (hj : j ≤ m)
    (hnh : hit (st i, fx i) c = false) (h1 : ∀ k, k < j → hit (st k, fx k) c = true → nF listed k) (h2 : ∀ k, j ≤ k → k < m → hit (st k, fx k) c = true → ¬ nF listed k) (hpre : ∀ k, qC ops k i = true → nF listed k) : ((st j).slots c).safe (fx i).S (fx i).K = true := by
  cases hK : (fx i).calm with
  | true =>
    rw [(calm_eq hK).1, (calm_eq hK).2]; exact AF _
  | false =>
    rcases LG r.step c j hj with e | e | ⟨k, hk, hd, e, hlast⟩
    · rw [e]
      have := r.one i hi
      simp only [Ko, hK, Bool.false_or, Bool.and_eq_true, List.all_eq_true, List.mem_range] at this
      have := this.1 c hc
      simpa [hnh] using this
    · rw [e]; simp [Ty.any, Ty.safe, nk]
    · rw [e]
      have hkm : k < m := by omega
      have := r.star i k hi hkm hK
      by_cases hik : i = k
      · subst hik; rw [Nj (s := (st i, fx i)) hd] at hnh; cases hnh
      · simp only [EX, beq_iff_eq, hik, if_false] at this
        by_cases hlt : k < i
        · simp only [hlt, if_true, hd, Option.toList_some, List.all_cons, List.all_nil, Bool.and_true, Bool.and_eq_true, hnh, Bool.false_or, Bool.or_eq_true] at this
          rcases this.1 with h | h
          · exact h
          · obtain ⟨⟨q, u⟩, hq, h⟩ := List.any_eq_true.1 h
            rw [List.mem_zipIdx_iff_getElem?] at hq
            have hum : u < m := by
              have := (List.getElem?_eq_some_iff.1 hq).1
              simpa using this
            rw [List.getElem?_map, List.getElem?_range hum] at hq
            injection hq with hq
            subst hq
            simp only [Bool.and_eq_true, decide_eq_true_eq] at h
            obtain ⟨g1, g2, g3, g4⟩ := h
            rcases Nat.lt_or_ge u j with h | h
            · rw [hlast u g1 h] at g3; cases g3
            · exact absurd (v5 hdown hpre g4 (by omega)) (h2 u h hum g3)
        · simp only [hlt, if_false, Bool.and_eq_true, Bool.or_eq_true] at this
          rcases this with h | h
          · exact h.1
          · exact absurd (lJ hdown h (h1 k hk (Nj hd))) hni
theorem Ss.Qd (r : Ss P fr ops st fx m) {listed : Array Bool} (hdown : ∀ k j, qC ops k j = true → nF listed j → nF listed k) {i j : Nat} (hi : i < m) (hni : ¬ nF listed i) (hj : j ≤ m) {x : Nat × Cont} (hx : x ∈ (st j).tags)
    (hnh : j5 (st i, fx i) x.1 = false) (h1 : ∀ k, k < j → j5 (st k, fx k) x.1 = true → nF listed k) : x.2.safe (fx i).S (fx i).K = true := by
  cases hK : (fx i).calm with
  | true =>
    rw [(calm_eq hK).1, (calm_eq hK).2]; exact xY _
  | false =>
    obtain ⟨y, e, hl, h | ⟨k, hk, h⟩⟩ := Nq r.step x j hj hx
    · refine DN hl ?_
      have := r.one i hi
      simp only [Ko, hK, Bool.false_or, Bool.and_eq_true, List.all_eq_true] at this
      have := this.2 y h
      rw [e, hnh, Bool.or_false] at this; exact this
    · refine DN hl ?_
      have hkm : k < m := by omega
      have hst := r.star i k hi hkm hK
      have hin : y.1 ∈ (fx k).S ∨ y.1 ∈ (fx k).K := by obtain ⟨_, _, ho⟩ := r.op k hkm; exact ho.2.1 y h
      have hkh : j5 (st k, fx k) x.1 = true := by
        rw [← e]
        simp only [j5, Bool.or_eq_true, List.contains_eq_mem, decide_eq_true_eq]; exact .inl hin
      unfold EX at hst
      by_cases hik : i = k
      · subst hik; rw [hkh] at hnh; cases hnh
      · simp only [beq_iff_eq, hik, if_false] at hst
        by_cases hlt : k < i
        · simp only [hlt, if_true, Bool.and_eq_true, List.all_eq_true] at hst
          have := hst.2 y h
          rw [e, hnh, Bool.or_false] at this; exact this
        · simp only [hlt, if_false, Bool.and_eq_true, Bool.or_eq_true, List.all_eq_true] at hst
          rcases hst with hst | hst
          · exact hst.2 y h
          · exact absurd (lJ hdown hst (h1 k hk hkh)) hni
theorem Inv.step (r : Ss P fr ops st fx m) {listed : Array Bool} {a : Act} {w w' : World} {M : ay} {v : Value} (inv : Inv fr ops st fx m listed a w M) {i : Nat} (hi : i < m) (hsz : i < listed.size) (hni : ¬ nF listed i)
    (hpre : ∀ k, qC ops k i = true → nF listed k) {o : Oper} (hop : CM P fr ops o (st i) (fx i)) (hl : (fx i).left w M w' v) :
    ∃ M', Inv fr ops st fx m (listed.setIfInBounds i true) (a.put o.dst v) w' M' := by
  obtain ⟨hd, hsets, hS, hK, _⟩ := hop
  obtain ⟨M', wf', le, hv, hse⟩ := hl
  have hset : ∀ i, i < m → ∀ x ∈ (fx i).sets, x.1 ∈ (fx i).S ∨ x.1 ∈ (fx i).K := fun i hi => by
    obtain ⟨_, _, h⟩ := r.op i hi; exact h.2.1
  refine ⟨M', ⟨⟨wf', Fr.lK inv.ok.base hS hK le, by rw [size_put, inv.ok.size], by rw [vA]; exact inv.ok.defers.step hS (fun t ht => (hK t ht).1) le⟩, ?_, ?_, ?_⟩⟩
  · intro k j he hj
    rcases vZ hj with h | rfl
    · exact zP (inv.down k j he h)
    · exact zP (hpre k he)
  · intro c hc j hj h1 h2
    rw [← hd, AV a (fx i).d v c (by rw [inv.ok.size]; exact hc)]
    cases hh : hit (st i, fx i) c with
    | true =>
      have hij : i < j := by
        rcases Nat.lt_or_ge i j with h | h
        · exact h
        · exact absurd (Gr hsz) (h2 i h hi hh)
      have hno : ∀ k, i + 1 ≤ k → k < j → hit (st k, fx k) c = false := by
        intro k hk hkj
        cases hkc : hit (st k, fx k) c with
        | false => rfl
        | true =>
          have hlk : nF listed k := (vZ (h1 k hkj hkc)).resolve_right (by omega)
          exact absurd (lJ inv.down (r.pair i k (by omega) (by omega) (L0 hc hh hkc)) hlk) hni
      rw [DG r.step c (i + 1) j (by omega) hj hno, r.step i hi]
      by_cases e : (fx i).d = some c
      · rw [Jz e, if_pos e]; exact hv
      · rw [zi e (AR hh e).1]; trivial
    | false =>
      have e : (fx i).d ≠ some c := fun e => by rw [Nj (s := (st i, fx i)) e] at hh; cases hh
      rw [if_neg e]
      have h1' : ∀ k, k < j → hit (st k, fx k) c = true → nF listed k := fun k hk hkc =>
        (vZ (h1 k hk hkc)).resolve_right (fun e => by subst e; rw [hh] at hkc; cases hkc)
      have h2' : ∀ k, j ≤ k → k < m → hit (st k, fx k) c = true → ¬ nF listed k := fun k hk hkm hkc hlk => h2 k hk hkm hkc (zP hlk)
      exact ((st j).slots c).mono le (fL (r.Gd inv.down hi hni hc hj hh h1' h2' hpre)).1 (fL (r.Gd inv.down hi hni hc hj hh h1' h2' hpre)).2 (inv.slot c hc j hj h1' h2')
  · intro j hj x hx h1 h2
    cases hh : j5 (st i, fx i) x.1 with
    | true =>
      have hij : i < j := by
        rcases Nat.lt_or_ge i j with h | h
        · exact h
        · exact absurd (Gr hsz) (h2 i h hi hh)
      have hno : ∀ k, i + 1 ≤ k → k < j → j5 (st k, fx k) x.1 = false := by
        intro k hk hkj
        cases hkc : j5 (st k, fx k) x.1 with
        | false => rfl
        | true =>
          have hlk : nF listed k := (vZ (h1 k hkj hkc)).resolve_right (by omega)
          exact absurd (lJ inv.down (r.pair i k (by omega) (by omega) (uS hh hkc)) hlk) hni
      have hx' := FU r.step hset x (i + 1) j (by omega) hj hno hx
      rw [r.step i hi] at hx'
      rcases List.mem_append.1 hx' with h | h
      · exact hse x h
      · refine jJ le h fun y hy e => inv.tag i (by omega) y hy (fun k hk hkc => ?_) fun k hk hkm hkc hlk => ?_
        · rw [e] at hkc
          exact v5 inv.down hpre (r.pair k i hk hi (uS hkc hh)) (by omega)
        · rw [e] at hkc
          rcases Nat.lt_or_ge i k with hlt | hge
          · exact hni (lJ inv.down (r.pair i k hlt hkm (uS hh hkc)) hlk)
          · have : k = i := by omega
            subst this; exact hni hlk
    | false =>
      have h1' : ∀ k, k < j → j5 (st k, fx k) x.1 = true → nF listed k := fun k hk hkc =>
        (vZ (h1 k hk hkc)).resolve_right (fun e => by subst e; rw [hh] at hkc; cases hkc)
      have hsafe := r.Qd inv.down hi hni hj hx hh h1'
      simp only [j5, Bool.or_eq_false_iff, List.contains_eq_mem, decide_eq_false_iff_not] at hh
      exact x.2.mono le (qS hsafe).1 (qS hsafe).2 hh.1.1 hh.1.2 (inv.tag j hj x hx h1' fun k hk hkm hkc hlk => h2 k hk hkm hkc (zP hlk))
theorem Oc {listed : Array Bool} {i : Nat} {o : Oper} (ho : ops[i]? = some o) (h : ∀ e ∈ o.after, Region.binds .any e = true → listed.getD e.on false = true) : ∀ k, qC ops k i = true → nF listed k := by
 intro k hk
 simp only [qC, ho, List.any_eq_true, Bool.and_eq_true, beq_iff_eq] at hk
 obtain ⟨e, he, hb, hon⟩ := hk
 subst hon
 exact h e (Array.mem_toList_iff.1 he) hb
theorem I1 (r : Ss P fr ops st fx m) {Q : Exit → Act → World → Prop} (hQ : ∀ a w, (st m).holds fr a w → Q .normal a w) (hacyc : ∀ i j, qC ops i j = true → i < j) :
    ∀ (fuel : Nat) (listed : Array Bool) (a : Act) (w : World) (M : ay), listed.size = m → (listed.toList.countP fun b => !b) ≤ fuel → Inv fr ops st fx m listed a w M → wpAnyIn fr.kd.iU 0 P .any ops Q fuel listed a w := by
  have hfin : ∀ (listed : Array Bool) (a : Act) (w : World) (M : ay), listed.size = m → Region.ready .any ops listed = [] → Inv fr ops st fx m listed a w M → Q .normal a w := by
    intro listed a w M hsz hr inv
    have hall : ∀ i, i < m → nF listed i := by
      intro i
      induction i using Nat.strongRecOn with
      | _ i ih =>
        intro hi
        refine Classical.byContradiction fun hn => ?_
        obtain ⟨o, ho, _⟩ := r.op i hi
        have hmem : i ∈ Region.ready .any ops listed := by
          rw [mem_ready]
          refine ⟨?_, o, ho, fun e he hb => ?_⟩
          · simp only [nF, Array.getD_eq_getD_getElem?] at hn ⊢
            rw [Array.getElem?_eq_getElem (by omega)] at hn ⊢
            simpa using hn
          · have hed : qC ops e.on i = true := by
              simp only [qC, ho, List.any_eq_true, Bool.and_eq_true, beq_iff_eq]
              exact ⟨e, Array.mem_toList_iff.2 he, hb, rfl⟩
            have := hacyc _ _ hed
            exact ih e.on this (by omega)
        rw [hr] at hmem
        cases hmem
    refine hQ a w ⟨M, inv.ok, fun c hc => inv.slot c hc m (Nat.le_refl _) (fun i hi _ => hall i hi) (fun i h1 h2 => absurd h2 (by omega)),
      fun x hx => inv.tag m (Nat.le_refl _) x hx (fun i hi _ => hall i hi) (fun i h1 h2 => absurd h2 (by omega))⟩
  intro fuel
  induction fuel with
  | zero =>
    intro listed a w M hsz hcnt inv
    have hr : Region.ready .any ops listed = [] := by
      refine List.eq_nil_iff_forall_not_mem.2 fun i hi => ?_
      rw [mem_ready] at hi
      obtain ⟨h0, o, ho, _⟩ := hi
      have hlt : i < listed.size := by rw [hsz, ← r.sz]; exact (Array.getElem?_eq_some_iff.1 ho).1
      have : 0 < listed.toList.countP fun b => !b := by
        rw [List.countP_pos_iff]
        refine ⟨listed[i], by simp, ?_⟩
        simpa [Array.getD_eq_getD_getElem?, Array.getElem?_eq_getElem hlt] using h0
      omega
    exact ⟨hr, hfin listed a w M hsz hr inv⟩
  | succ fuel ih =>
    intro listed a w M hsz hcnt inv
    refine ⟨fun hr => hfin listed a w M hsz hr inv, fun i hi => ?_⟩
    rw [mem_ready] at hi
    obtain ⟨h0, o, ho, hpre⟩ := hi
    have hlt : i < listed.size := by rw [hsz, ← r.sz]; exact (Array.getElem?_eq_some_iff.1 ho).1
    have him : i < m := by omega
    have hni : ¬ nF listed i := by
      simp only [nF, Array.getD_eq_getD_getElem?, Array.getElem?_eq_getElem hlt, Option.getD_some] at h0 ⊢
      simp [h0]
    have hpre' := Oc ho hpre
    obtain ⟨o', ho', hop⟩ := r.op i him
    rw [ho] at ho'
    injection ho' with ho'
    subst ho'
    have hcnt' : ((listed.setIfInBounds i true).toList.countP fun b => !b) ≤ fuel := by
      have hb : listed[i] = false := by simpa [Array.getD_eq_getD_getElem?, Array.getElem?_eq_getElem hlt] using h0
      have h1 : (listed.setIfInBounds i true).toList = listed.toList.set i true := by simp
      rw [h1, List.countP_set (by simpa using hlt)]
      simp only [Array.getElem_toList, hb]
      have : 0 < listed.toList.countP fun b => !b := by
        rw [List.countP_pos_iff]
        exact ⟨listed[i], by simp, by simp [hb]⟩
      simp only [Bool.not_false, Bool.not_true, if_true, Bool.false_eq_true, if_false]
      omega
    have hnext : ∀ w' v, (fx i).left w M w' v → wpAnyIn fr.kd.iU 0 P .any ops Q fuel (listed.setIfInBounds i true) (a.put o.dst v) w' := fun w' v hl => by
      obtain ⟨M', inv'⟩ := inv.step r him hlt hni hpre' hop hl
      exact ih _ _ _ M' (by simpa using hsz) hcnt' inv'
    have h := hop.2.2.2.2 a w M inv.ok.wf inv.ok.size
      (fun c hc hcn => inv.slot c hcn i (by omega)
        (fun k hk hkc => v5 inv.down hpre' (r.pair k i hk him (Ca (by simp [Fx.slotsOf, hc]) hkc)) (by omega))
        (fun k hk hkm hkc hlk => by
          rcases Nat.lt_or_ge i k with h | h
          · exact hni (lJ inv.down (r.pair i k h hkm (Ag (by simp [Fx.slotsOf, hc]) hkc)) hlk)
          · have : k = i := by omega
            subst this; exact hni hlk))
      (fun x hx hrt => inv.tag i (by omega) x hx
        (fun k hk hkc => v5 inv.down hpre' (r.pair k i hk him (G0 (by simp [Fx.oZ, hrt]) hkc)) (by omega))
        (fun k hk hkm hkc hlk => by
          rcases Nat.lt_or_ge i k with h | h
          · exact hni (lJ inv.down (r.pair i k h hkm (Dl (by simp [Fx.oZ, hrt]) hkc)) hlk)
          · have : k = i := by omega
            subst this; exact hni hlk))
    simp only [wpOpIn, ho]
    split
    · rename_i hw
      rw [if_pos hw] at h
      exact Oper.pz (fun a' w' ⟨v, e, hl⟩ => by subst e; exact hnext w' v hl) h
    · rename_i hw
      rw [if_neg hw] at h
      exact ⟨fun f _ => fr.kd.vI f, hnext w undef h⟩
def forward (ops : Array Oper) : Bool := ops.toList.zipIdx.all fun x => x.1.after.toList.all fun e => !Region.binds .any e || decide (e.on < x.2)
theorem FH (h : forward ops = true) : ∀ i j, qC ops i j = true → i < j := by
 intro i j he
 unfold qC at he
 split at he
 ·rename_i o ho
  simp only [forward, List.all_eq_true] at h
  have hm : (o, j) ∈ ops.toList.zipIdx := by
   rw [List.mem_zipIdx_iff_getElem?]; simpa using ho
  have h2 := h _ hm
  simp only [List.any_eq_true, Bool.and_eq_true, beq_iff_eq] at he
  obtain ⟨e, he, hb, hon⟩ := he
  have := h2 e he
  simp only [hb, Bool.not_true, Bool.false_or, decide_eq_true_eq] at this
  omega
 cases he
theorem zL {S K : Nat → Prop} (w : World) (M : ay) : Le S K w M { w with drawn := w.drawn + 1 } M :=
 ⟨Nat.le_refl _, rfl, rfl, rfl, fun _ _ h => ⟨h, rfl⟩, fun _ _ h _ => ⟨h, fun _ => rfl⟩⟩
theorem Ng {id : Nat} {l : List Oper} {A : As} {Q : Exit → Act → World → Prop} (hm : P.follows .mixedOrders = true) (hf : forward l.toArray = true)
    (h : aV P fr l.toArray l A fun A' s => lT fr.n l.toArray A s = true ∧ ∀ a w, A'.holds fr a w → Q .normal a w) :
    ∀ a w, A.holds fr a w → (Code.region id l.toArray true).wpIn fr.kd.iU 0 P Q a w := by
  intro a w ⟨M, ok, hs, ht⟩
  obtain ⟨st, fx, h0, h1, h2, hord, hK⟩ := BN l 0 A _ h (fun j => by simp)
  subst h0
  have hmem : ∀ i, i < l.length → ((st i, fx i), i) ∈ ((List.range l.length).map fun i => (st i, fx i)).zipIdx := fun i hi => by
    rw [List.mem_zipIdx_iff_getElem?]; simp [List.getElem?_range hi]
  simp only [lT, List.all_eq_true, Bool.and_eq_true] at hord
  have r : Ss P fr l.toArray st fx l.length := by
    refine ⟨by simp, fun i hi => by simpa using h1 i hi, h2, fun i j hij hj hc => ?_, fun i k hi hk hK => ?_, fun i hi => (hord _ (hmem i hi)).1⟩
    · have := ((hord _ (hmem i (by omega))).2 _ (hmem j hj)).1
      simpa [P5, hij, hc] using this
    · have := ((hord _ (hmem i hi)).2 _ (hmem k hk)).2
      simpa [hK] using this
  refine wpIn_region_any hm ?_
  refine I1 r hK (FH hf) _ _ _ _ M (by simp) (by simp [List.countP_replicate]) ⟨⟨⟨ok.wf.lt, ok.wf.inj⟩, Fr.lK (S := fun _ => False) (K := fun _ => False) ok.base (fun _ h => h.elim) (fun _ h => h.elim) (zL w M), ok.size, ok.defers.step (S := fun _ => False) (K := fun _ => False) (fun _ h => h.elim) (fun _ h => h.elim) (zL w M)⟩, ?_, ?_, ?_⟩
  · intro k j _ hj; simp [nF, Array.getElem?_replicate] at hj; split at hj <;> simp at hj
  · intro c hc j hj h1' _
    have : (st j).slots c = (st 0).slots c := DG h2 c 0 j (Nat.zero_le _) hj fun k _ hk => by
      cases hh : hit (st k, fx k) c with
      | false => rfl
      | true => have := h1' k hk hh; simp [nF, Array.getElem?_replicate] at this; split at this <;> simp at this
    rw [this]
    exact ((st 0).slots c).mono (S := fun _ => False) (K := fun _ => False) (zL w M) (fun _ _ h => h) (fun _ _ h => h) (hs c hc)
  · intro j hj x hx h1' _
    have hset : ∀ i, i < l.length → ∀ x ∈ (fx i).sets, x.1 ∈ (fx i).S ∨ x.1 ∈ (fx i).K := fun i hi => by
      obtain ⟨_, _, h⟩ := h1 i hi; exact h.2.1
    have hx0 := FU h2 hset x 0 j (Nat.zero_le _) hj (fun k _ hk => by
      cases hh : j5 (st k, fx k) x.1 with
      | false => rfl
      | true => have := h1' k hk hh; simp [nF, Array.getElem?_replicate] at this; split at this <;> simp at this) hx
    exact x.2.mono (S := fun _ => False) (K := fun _ => False) (zL w M) (fun _ _ h => h) (fun _ _ h => h) (fun h => h) (fun h => h) (ht x hx0)
theorem MI {id : Nat} {l : List Oper} {A : As} {Q : Exit → Act → World → Prop} (h : aV P fr l.toArray l A fun A' _ => ∀ a w, A'.holds fr a w → Q .normal a w) :
 ∀ a w, A.holds fr a w → (Code.region id l.toArray false).wpIn fr.kd.iU 0 P Q a w := fun _ _ ha =>
 wpIn_region_lit (pQ l A _ _ _ h ha fun _ _ _ _ hk hA => hk _ _ hA)
end
end Go.T
namespace Go.T
open Go Go.RowKit
def j8 (v : Value) (_ : World) (_ : ay) (x : Value) : Prop := x = v
def Ty.ex (v : Value) : Ty := ⟨j8 v, [], [], fun _ _ _ h => h, v.oneCell', fun h e => (show _ = _ from e) ▸ h⟩
def eG (k : IntKind) (n : Int) (_ : World) (_ : ay) (x : Value) : Prop := x = .int k n
def Ty.int (k : IntKind) (n : Int) : Ty := ⟨eG k n, [], [], fun _ _ _ h => h, true, fun _ e => (show _ = _ from e) ▸ rfl⟩
def cZ (b : Bool) (_ : World) (_ : ay) (x : Value) : Prop := x = .bool b
def Ty.bool (b : Bool) : Ty := ⟨cZ b, [], [], fun _ _ _ h => h, true, fun _ e => (show _ = _ from e) ▸ rfl⟩
def eJ (s : ByteArray) (_ : World) (_ : ay) (x : Value) : Prop := x = .string s
def Ty.str (s : ByteArray) : Ty := ⟨eJ s, [], [], fun _ _ _ h => h, true, fun _ e => (show _ = _ from e) ▸ rfl⟩
def eP (t off : Nat) (_ : World) (M : ay) (x : Value) : Prop := ∃ b, M b = some t ∧ x = .pointer (some ⟨b, off, none⟩)
def Ty.ptr (t off : Nat) : Ty := ⟨eP t off, [t], [], fun le hk _ ⟨b, h, e⟩ => ⟨b, (le.own b t h (hk t (by simp))).1, e⟩, true, fun _ ⟨_, _, e⟩ => e ▸ rfl⟩
def eO (l : List Ty) (w : World) (M : ay) (x : Value) : Prop := ∃ cs : Array Value, x = .agg cs ∧ cD w M l cs.toList
def Ty.agg (l : List Ty) : Ty := { den := eO l, deps := bp l, cdeps := bU l, mono := fun le hk hs ⟨cs, e, h⟩ => ⟨cs, e, bY le hk hs h⟩ }
def eK (l : List Ty) (w : World) (M : ay) (x : Value) : Prop := ∃ cs : Array Value, x = .tuple cs ∧ cD w M l cs.toList
def Ty.tE (l : List Ty) : Ty := { den := eK l, deps := bp l, cdeps := bU l, mono := fun le hk hs ⟨cs, e, h⟩ => ⟨cs, e, bY le hk hs h⟩ }
def eM (f : FuncId) (caps : List Ty) (w : World) (M : ay) (x : Value) : Prop := ∃ cs : Array Value, x = .func (.func f) #[] cs ∧ cD w M caps cs.toList
def Ty.j9 (f : FuncId) (caps : List Ty) : Ty := ⟨eM f caps, bp caps, bU caps, fun le hk hs ⟨cs, e, h⟩ => ⟨cs, e, bY le hk hs h⟩, true, fun _ ⟨_, e, _⟩ => e ▸ rfl⟩
def j4 (g : Bool) (t : Ty) (w : World) (M : ay) (x : Value) : Prop := (g = true → t.den w M x) ∧ (g = false → x = undef)
def Ty.gd (g : Bool) (t : Ty) : Ty := { den := j4 g t, deps := t.deps, cdeps := t.cdeps, mono := fun le hk hs h => ⟨fun hg => t.mono le hk hs (h.1 hg), h.2⟩ }
def oX (w : World) (M : ay) (b off : Nat) (l : List Ty) : Prop :=
  M b = none ∧ b < w.heap.size ∧ ∀ (i : Nat) (t : Ty), l[i]? = some t → ∃ v, w.cell? ⟨b, off + i, none⟩ = some v ∧ t.den w M v
theorem nV {S K : Nat → Prop} {w w' : World} {M M' : ay} (le : Le S K w M w' M') {b off : Nat} {l : List Ty} (hk : ∀ t ∈ bp l, ¬ K t) (hs : ∀ t ∈ bU l, ¬ S t) (h : oX w M b off l) : oX w' M' b off l := by
 obtain ⟨h1, h2, h3⟩ := h
 obtain ⟨h4, h5⟩ := le.qy b h2 h1
 refine ⟨h4, Nat.lt_of_lt_of_le h2 le.size, fun i t hi => ?_⟩
 obtain ⟨v, hc, hd⟩ := h3 i t hi
 refine ⟨v, ?_, t.mono le (fun u hu => hk u ?_) (fun u hu => hs u ?_) hd⟩
 ·rw [← hc]; exact World.cell?_of_block (w := w) h5
 ·simp only [bp, List.mem_flatMap]; exact ⟨t, List.mem_of_getElem? hi, hu⟩
 simp only [bU, List.mem_flatMap]; exact ⟨t, List.mem_of_getElem? hi, hu⟩
theorem zy {w : World} {M : ay} {b off : Nat} {l : List Ty} (n : Nat) (h : oX w M b off l) : oX w M b (off + n) (l.drop n) :=
 ⟨h.1, h.2.1, fun i t hi => by rw [List.getElem?_drop] at hi; obtain ⟨v, hv, hd⟩ := h.2.2 (n + i) t hi; exact ⟨v, by rw [Nat.add_assoc]; exact hv, hd⟩⟩
theorem Bg {w : World} {M : ay} {b off : Nat} {l : List Ty} (n : Nat) (h : oX w M b off l) : oX w M b off (l.take n) :=
 ⟨h.1, h.2.1, fun i t hi => h.2.2 i t (by rw [List.getElem?_take] at hi; split at hi <;> simp_all)⟩
def j6 (l : List Ty) (w : World) (M : ay) (x : Value) : Prop := ∃ b off, x = .pointer (some ⟨b, off, none⟩) ∧ oX w M b off l
def Ty.pp (l : List Ty) : Ty := ⟨j6 l, bp l, bU l, fun le hk hs ⟨b, off, e, h⟩ => ⟨b, off, e, nV le hk hs h⟩, true, fun _ ⟨_, _, e, _⟩ => e ▸ rfl⟩
structure El (α : Type) where
  size : Nat
  tys : α → List Ty
  len : ∀ x, (tys x).length = size
  nodeps : ∀ x, bp (tys x) = []
  nocdeps : ∀ x, bU (tys x) = []
  ones : ∀ x, (tys x).all Ty.one = true
def dN : El Int := ⟨1, fun n => [Ty.int .i64 n], fun _ => rfl, fun _ => rfl, fun _ => rfl, fun _ => rfl⟩
def nth {α : Type} [Inhabited α] (xs : List α) (k : Nat) : α := xs.getD k default
theorem cF {α : Type} [Inhabited α] {xs : List α} {k : Nat} (h : k < xs.length) : nth xs k = xs[k] := by simp [nth, h]
theorem bL {α : Type} [Inhabited α] {xs : List α} {k : Nat} (h : k < xs.length) : nth xs k ∈ xs := by rw [cF h]; exact List.getElem_mem h
theorem bh {α : Type} [Inhabited α] {xs : List α} {k : Nat} (h : k < xs.length) : xs.take (k + 1) = xs.take k ++ [nth xs k] := by
 rw [List.take_succ_eq_append_getElem h, cF h]
theorem pY {α : Type} [Inhabited α] {xs : List α} {k : Nat} (h : k < xs.length) : xs.drop k = nth xs k :: xs.drop (k + 1) := by
 rw [cF h]; exact List.drop_eq_getElem_cons h
theorem El.cT {α : Type} (E : El α) (xs : List α) : bp (xs.flatMap E.tys) = [] := by
 refine List.eq_nil_iff_forall_not_mem.2 fun t ht => ?_
 simp only [bp, List.mem_flatMap] at ht
 obtain ⟨x, ⟨y, _, hx⟩, hu⟩ := ht
 have h' : t ∈ bp (E.tys y) := by simp only [bp, List.mem_flatMap]; exact ⟨x, hx, hu⟩
 rw [E.nodeps y] at h'; cases h'
theorem El.cL {α : Type} (E : El α) (xs : List α) : bU (xs.flatMap E.tys) = [] := by
 refine List.eq_nil_iff_forall_not_mem.2 fun t ht => ?_
 simp only [bU, List.mem_flatMap] at ht
 obtain ⟨x, ⟨y, _, hx⟩, hu⟩ := ht
 have h' : t ∈ bU (E.tys y) := by simp only [bU, List.mem_flatMap]; exact ⟨x, hx, hu⟩
 rw [E.nocdeps y] at h'; cases h'
def jR {α : Type} (E : El α) (xs : List α) (w : World) (M : ay) (x : Value) : Prop :=
  ∃ A c, x = .slice A xs.length c ∧ xs.length ≤ c ∧ c ≤ maxLen ∧ (0 < xs.length → ∃ b off, A = some ⟨b, off, none⟩ ∧ oX w M b off (xs.flatMap E.tys))
def Ty.sl {α : Type} (E : El α) (xs : List α) : Ty :=
  ⟨jR E xs, [], [], fun le _ _ ⟨A, c, e, h1, h2, h⟩ => ⟨A, c, e, h1, h2, fun h0 => let ⟨b, off, e, h⟩ := h h0; ⟨b, off, e, nV le (by rw [E.cT]; intro _ h; cases h) (by rw [E.cL]; intro _ h; cases h) h⟩⟩, true, fun _ ⟨_, _, e, _⟩ => e ▸ rfl⟩
theorem vF {α : Type} (E : El α) : ∀ (xs : List α) (k j : Nat), k < xs.length → j < E.size → (xs.flatMap E.tys)[k * E.size + j]? = (xs[k]?).bind fun x => (E.tys x)[j]?
  | [], k, j, h, _ => absurd h (Nat.not_lt_zero _)
  | x :: xs, 0, j, _, hj => by simp [List.getElem?_append, E.len, hj]
  | x :: xs, k + 1, j, h, hj => by
    have := vF E xs k j (by simpa using h) hj
    rw [List.flatMap_cons, List.getElem?_append, if_neg (by rw [E.len, Nat.succ_mul]; omega), E.len, List.getElem?_cons_succ, ← this]
    congr 1
    rw [Nat.succ_mul]; omega
def Ty.oI : Value → Ty
  | .int k n => .int k n
  | .bool b => .bool b
  | .string s => .str s
  | v => .ex v
def As.op (A : As) (fr : Fr) : Operand → Ty
  | .tmp t => bif Nat.blt t fr.n then A.slots t else Ty.any
  | .const v => Ty.oI v
  | .func f => Ty.j9 f []
  | .global _ => Ty.any
def bq : Operand → List Nat
  | .tmp t => [t]
  | _ => []
theorem pg (w : World) (M : ay) (v : Value) : (Ty.oI v).den w M v := by cases v <;> rfl
theorem cA {fr : Fr} {A : As} {a : Act} {w : World} {M : ay} {x : Operand} {rs : List Nat} (hr : ∀ c ∈ bq x, c ∈ rs) (h : ∀ c ∈ rs, c < fr.n → (A.slots c).den w M (a.tmps.getD c undef)) : (A.op fr x).den w M (a.eval x) := by
  cases x with
  | tmp t =>
    simp only [As.op, Act.eval]
    cases hb : Nat.blt t fr.n with
    | true => exact h t (hr t (by simp [bq])) (by simpa using hb)
    | false => trivial
  | const v => exact pg w M v
  | func f => exact ⟨#[], rfl, trivial⟩
  | global g => trivial
def As.set (A : As) (d : Nat) (ty : Ty) : As := ⟨fun c => bif Nat.beq c d then ty else A.slots c, A.tags⟩
section
variable {P : Program} {fr : Fr} {ops : Array Oper} {A : As} {rest : List Oper} {K : As → List (As × Fx) → Prop} {d : Nat} {t : TypeId} {p : String} {e : Array Edge}
theorem bP {o : Oper} {rs : List Nat} {ty : Ty} {rt : List Nat} (hg : o.guard = none) (hd : o.dst = some d)
 (h : ∀ (a : Act) w M, Wf w M → (∀ c ∈ rs, c < fr.n → (A.slots c).den w M (a.tmps.getD c undef)) → (∀ x ∈ A.tags, x.1 ∈ rt → x.2.den w M x.1) → ∃ v, (execOp a.eval o).run P w = .ok (.value v) w ∧ ty.den w M v) :
 CM P fr ops o A { d := some d, ty := ty, rs := rs, rt := rt } := by
 refine ⟨hd.symm, by simp, by simp, by simp, fun a w M wf _ hr ht => ?_⟩
 rw [if_pos (by simp [Region.wanted, hg])]
 obtain ⟨v, hv, hty⟩ := h a w M wf hr ht
 refine rZ hv ?_
 exact ⟨v, rfl, M, wf, Le.refl _ _ _ _, hty, by simp⟩
theorem bC {o : Oper} {rs : List Nat} {ty : Ty} {rt : List Nat} (hop : CM P fr ops o A { d := some d, ty := ty, rs := rs, rt := rt })
 (h : aV P fr ops rest (A.set d ty) fun A' l => K A' ((A, { d := some d, ty := ty, rs := rs, rt := rt }) :: l)) : aV P fr ops (o :: rest) A K := ⟨_, hop, h⟩
theorem aD (h : K A []) : aV P fr ops [] A K := h
theorem eN {x : Operand} {ty : Ty} (hx : A.op fr x = ty) (h : aV P fr ops rest (A.set d ty) fun A' l => K A' ((A, { d := some d, ty := ty, rs := bq x }) :: l)) :
 aV P fr ops (⟨some d, .move x, t, p, e, none⟩ :: rest) A K :=
 bC (bP rfl rfl fun a w M _ hr _ => ⟨a.eval x, by simp [execOp], hx ▸ cA (fun _ h => h) hr⟩) h
theorem iM {x : Operand} {ty : Ty} (hx : A.op fr x = ty) (h : aV P fr ops rest (A.set d ty) fun A' l => K A' ((A, { d := some d, ty := ty, rs := bq x }) :: l)) :
 aV P fr ops (⟨some d, .assign x, t, p, e, none⟩ :: rest) A K :=
 bC (bP rfl rfl fun a w M _ hr _ => ⟨a.eval x, by simp [execOp], hx ▸ cA (fun _ h => h) hr⟩) h
theorem op2 {a : Act} {w : World} {M : ay} {x y : Operand} (hr : ∀ c ∈ bq x ++ bq y, c < fr.n → (A.slots c).den w M (a.tmps.getD c undef)) :
 (A.op fr x).den w M (a.eval x) ∧ (A.op fr y).den w M (a.eval y) :=
 ⟨cA (fun c h => List.mem_append_left _ h) hr, cA (fun c h => List.mem_append_right _ h) hr⟩
def TW (op : BinOp) (k : IntKind) (a b : Int) : Option Ty :=
  match op with
  | .add => some (.int k (k.wrap (a + b)))
  | .sub => some (.int k (k.wrap (a - b)))
  | .mul => some (.int k (k.wrap (a * b)))
  | .and => some (.int k (bits .and k a b))
  | .or => some (.int k (bits .or k a b))
  | .xor => some (.int k (bits .xor k a b))
  | .andNot => some (.int k (bits .andNot k a b))
  | .eql => some (.bool (decide (a = b)))
  | .neq => some (.bool (!decide (a = b)))
  | .lss => some (.bool (decide (a < b)))
  | .leq => some (.bool (decide (a ≤ b)))
  | .gtr => some (.bool (decide (b < a)))
  | .geq => some (.bool (decide (b ≤ a)))
  | _ => none
theorem KR (a b : Int) : (a == b) = decide (a = b) := by rw [Bool.eq_iff_iff]; simp
theorem Pr {op : BinOp} {k : IntKind} {a b : Int} {ty : Ty} (h : TW op k a b = some ty) (x y : Operand) (t : TypeId) (w : World) (M : ay) :
 ∃ v, (do eqGuard op t x y (.int k a) (.int k b); binOp op t (.int k a) (.int k b) : Sem Value).run P w = .ok v w ∧ ty.den w M v := by
 cases op <;> simp only [TW, Option.some.injEq, reduceCtorEq] at h <;> subst h <;> refine ⟨_, ?_, rfl⟩ <;> simp [go_sem, Op.intArith, bne, KR]
end
end Go.T
namespace Go.T
open Go Go.RowKit
inductive TK where
  | int (k : IntKind) | bool | string | ptr (e : Nat) | slice (e : Nat) | array (n e : Nat) | struct (fs : List (Nat × Nat)) | map (k e : Nat) | func | other
structure TI where
  k : TK
  size : Nat
  bytes : Nat
  zero : List Value
def TK.of : TypeDesc → TK
  | .int k => .int k
  | .bool => .bool
  | .string => .string
  | .pointer e => .ptr e
  | .slice e => .slice e
  | .array n e => .array n e
  | .struct fs => .struct (fs.toList.map fun f => (f.offset, f.type))
  | .map k e => .map k e
  | .func .. => .func
  | _ => .other
def TK.agg : TK → Bool
  | .struct _ | .array .. => true
  | _ => false
def Mo (P : Program) (t : Nat) : Option TI :=
  match P.info? t, P.underlying t with
  | some i, some d => some ⟨TK.of d, i.size, i.bytes, match i.zero with | some z => z.cells.toList | none => []⟩
  | _, _ => none
class lQ (P : Program) where
  tab : List TI
  ok : ∀ (t : Nat) (x : TI), tab[t]? = some x → Mo P t = some x
theorem lQ.of {P : Program} {l : List TI} (h : (List.range l.length).map (Mo P) = l.map some) : ∀ (t : Nat) (x : TI), l[t]? = some x → Mo P t = some x := by
 intro t x hx
 have hlt : t < l.length := (List.getElem?_eq_some_iff.1 hx).1
 have h1 : ((List.range l.length).map (Mo P))[t]? = (l.map some)[t]? := by rw [h]
 simp [List.getElem?_range hlt, hx] at h1
 exact h1
section
variable {P : Program} [T : lQ P] {fr : Fr} {ops : Array Oper} {A : As} {rest : List Oper} {K : As → List (As × Fx) → Prop} {d : Nat} {t ty' : TypeId} {p : String} {e : Array Edge}
theorem dM {t : Nat} {x : TI} (h : T.tab[t]? = some x) : ∃ i D, P.info? t = some i ∧ P.underlying t = some D ∧ TK.of D = x.k ∧ i.size = x.size ∧ i.bytes = x.bytes ∧ (match i.zero with | some z => z.cells.toList | none => []) = x.zero := by
 have h := T.ok t x h
 unfold Mo at h
 split at h
 ·rename_i i D hi hD
  injection h with h
  subst h
  exact ⟨i, D, hi, hD, rfl, rfl, rfl, rfl⟩
 cases h
theorem cJ {t : Nat} {x : TI} (h : T.tab[t]? = some x) (w : World) : (sizeOf t).run P w = .ok x.size w := by
 obtain ⟨i, _, hi, _, _, hs, _⟩ := dM h
 simp [sizeOf, typeInfo, hi, hs]
theorem uc {t : Nat} {x : TI} (h : T.tab[t]? = some x) (w : World) : (isAgg t).run P w = .ok x.k.agg w := by
 obtain ⟨i, D, _, hD, hk, _⟩ := dM h
 rw [← hk]
 cases D <;> simp [isAgg, run_underlying hD, TK.of, TK.agg]
theorem jN {t : Nat} {x : TI} (h : T.tab[t]? = some x) (ha : x.k.agg = false) {w : World} {b off : Nat} {v : Value} (hc : w.cell? ⟨b, off, none⟩ = some v) :
 (Instr.loadAt t (.pointer (some ⟨b, off, none⟩))).run P w = .ok v w := by
 simp [Instr.loadAt, Instr.sureAddr, loadVar, uc h, ha, load, Sem.run, hc]
theorem jw {t : Nat} {x : TI} (h : T.tab[t]? = some x) (ha : x.k.agg = true) {w : World} {b off : Nat} {cs : List Value} (hl : cs.length = x.size) (hc : ∀ j v, cs[j]? = some v → w.cell? ⟨b, off + j, none⟩ = some v) :
 (Instr.loadAt t (.pointer (some ⟨b, off, none⟩))).run P w = .ok (.agg cs.toArray) w := by
 have := run_loadCells_list (P := P) (w := w) ⟨b, off, none⟩ cs (fun j v hj => by rw [Addr.add_lit]; exact hc j v hj)
 rw [hl] at this
 simp [Instr.loadAt, Instr.sureAddr, loadVar, uc h, ha, cJ h, this]
theorem xG {w : World} {M : ay} {b off : Nat} {l : List Ty} (h : oX w M b off l) : ∀ n, n ≤ l.length → ∃ cs : List Value, cs.length = n ∧ cD w M (l.take n) cs ∧ ∀ j v, cs[j]? = some v → w.cell? ⟨b, off + j, none⟩ = some v := by
  intro n
  induction n with
  | zero => exact fun _ => ⟨[], rfl, trivial, fun j v h => by simp at h⟩
  | succ n ih =>
    intro hn
    obtain ⟨cs, h1, h2, h3⟩ := ih (by omega)
    obtain ⟨v, hv, hd⟩ := h.2.2 n l[n] (List.getElem?_eq_getElem (by omega))
    refine ⟨cs ++ [v], by simp [h1], ?_, fun j u hj => ?_⟩
    · refine g8 (by simp [h1]; omega) fun i t hi => ?_
      rw [List.getElem?_take] at hi
      split at hi
      · rename_i hlt
        by_cases e : i = n
        · subst e
          rw [List.getElem?_eq_getElem (by omega)] at hi
          injection hi with hi
          subst hi
          exact ⟨v, by rw [List.getElem?_append_right (by omega)]; simp [h1], hd⟩
        · obtain ⟨x, hx, hdx⟩ := dQ h2 i t (by rw [List.getElem?_take, if_pos (by omega)]; exact hi)
          exact ⟨x, by rw [List.getElem?_append_left (by omega)]; exact hx, hdx⟩
      · cases hi
    · rcases Nat.lt_or_ge j n with hlt | hge
      · rw [List.getElem?_append_left (by omega)] at hj; exact h3 j u hj
      · rw [List.getElem?_append_right (by omega)] at hj
        have : j = n := by
          rcases Nat.lt_or_ge (j - cs.length) 1 with h | h
          · omega
          · rw [List.getElem?_eq_none (by simpa using h)] at hj; cases hj
        subst this
        simp [h1] at hj
        subst hj; exact hv
theorem aK {x : Operand} {l : List Ty} {ti : TI} {ty : Ty} (hx : A.op fr x = .pp l) (hT : T.tab[ty']? = some ti) (ha : ti.k.agg = false) (hl : l[0]? = some ty)
 (h : aV P fr ops rest (A.set d ty) fun A' l => K A' ((A, { d := some d, ty := ty, rs := bq x }) :: l)) : aV P fr ops (⟨some d, .load ty' x, t, p, e, none⟩ :: rest) A K :=
 bC (bP rfl rfl fun a w M _ hr _ => by
  have := cA (x := x) (fun _ h => h) hr
  rw [hx] at this
  obtain ⟨b, off, e, hp⟩ := this
  obtain ⟨v, hv, hd⟩ := hp.2.2 0 ty hl
  have hv' : w.cell? ⟨b, off, none⟩ = some v := hv
  exact ⟨v, by simp [execOp, e, jN hT ha hv'], hd⟩) h
theorem az {x : Operand} {l : List Ty} {ti : TI} (hx : A.op fr x = .pp l) (hT : T.tab[ty']? = some ti) (ha : ti.k.agg = true) (hl : ti.size ≤ l.length)
 (h : aV P fr ops rest (A.set d (.agg (l.take ti.size))) fun A' l' => K A' ((A, { d := some d, ty := .agg (l.take ti.size), rs := bq x }) :: l')) : aV P fr ops (⟨some d, .load ty' x, t, p, e, none⟩ :: rest) A K :=
 bC (bP rfl rfl fun a w M _ hr _ => by
  have := cA (x := x) (fun _ h => h) hr
  rw [hx] at this
  obtain ⟨b, off, e, hp⟩ := this
  obtain ⟨cs, h1, h2, h3⟩ := xG hp _ hl
  exact ⟨.agg cs.toArray, by simp [execOp, e, jw hT ha h1 h3], cs.toArray, rfl, by simpa using h2⟩) h
def As.tag (A : As) (t : Nat) : Option Cont := A.tags.lookup t
theorem dD {A : As} {t : Nat} {C : Cont} (h : A.tag t = some C) : (t, C) ∈ A.tags := by
  unfold As.tag at h
  revert h
  generalize A.tags = l
  induction l with
  | nil => intro h; cases h
  | cons x l ih =>
    intro h
    obtain ⟨u, D⟩ := x
    rw [List.lookup_cons] at h
    split at h
    · rename_i he
      injection h with h
      subst h
      have : t = u := by simpa using he
      subst this; exact List.mem_cons_self
    · exact List.mem_cons_of_mem _ (ih h)
theorem HP {w : World} {M : ay} {tg T b off : Nat} {l : List Ty} {ty : Ty} (wf : Wf w M) (h1 : ga tg) (hb : M b = some tg) (hc : (Cont.cells T l).den w M tg) (hl : l[off]? = some ty) :
 ∃ v, w.cell? ⟨b, off, none⟩ = some v ∧ ty.den w M v := by
 obtain ⟨b', cs, hb', hh, hd⟩ := hc
 obtain ⟨u, rfl⟩ : ∃ u, tg = u + 1 := ⟨tg - 1, by omega⟩
 have := wf.inj b b' u (by omega) hb hb'
 subst this
 obtain ⟨v, hv, hdv⟩ := dQ hd off ty hl
 exact ⟨v, by simpa [World.cell?, hh] using hv, hdv⟩
theorem aj {x : Operand} {tg off Tb : Nat} {l : List Ty} {ti : TI} {ty : Ty} (hx : A.op fr x = .ptr tg off) (hc : A.tag tg = some (.cells Tb l)) (h1 : ga tg) (hT : T.tab[ty']? = some ti) (ha : ti.k.agg = false) (hl : l[off]? = some ty)
 (h : aV P fr ops rest (A.set d ty) fun A' l => K A' ((A, { d := some d, ty := ty, rs := bq x, rt := [tg] }) :: l)) : aV P fr ops (⟨some d, .load ty' x, t, p, e, none⟩ :: rest) A K :=
 bC (bP rfl rfl fun a w M wf hr ht => by
  have := cA (x := x) (fun _ h => h) hr
  rw [hx] at this
  obtain ⟨b, hb, e⟩ := this
  obtain ⟨v, hv, hd⟩ := HP wf h1 hb (ht _ (dD hc) (by simp)) hl
  exact ⟨v, by simp [execOp, e, jN hT ha hv], hd⟩) h
theorem gN {x : Operand} {tg off Tb : Nat} {l : List Ty} {ti : TI} (hx : A.op fr x = .ptr tg off) (hc : A.tag tg = some (.cells Tb l)) (h1 : ga tg) (hT : T.tab[ty']? = some ti) (ha : ti.k.agg = true) (hl : off + ti.size ≤ l.length)
 (h : aV P fr ops rest (A.set d (.agg ((l.drop off).take ti.size))) fun A' l' => K A' ((A, { d := some d, ty := .agg ((l.drop off).take ti.size), rs := bq x, rt := [tg] }) :: l')) : aV P fr ops (⟨some d, .load ty' x, t, p, e, none⟩ :: rest) A K :=
 bC (bP rfl rfl fun a w M wf hr ht => by
  have := cA (x := x) (fun _ h => h) hr
  rw [hx] at this
  obtain ⟨b, hb, e⟩ := this
  obtain ⟨b', cs, hb', hh, hd⟩ := ht _ (dD hc) (by simp)
  obtain ⟨u, rfl⟩ : ∃ u, tg = u + 1 := ⟨tg - 1, by omega⟩
  have := wf.inj b b' u (by omega) hb hb'
  subst this
  have hlen := cI hd
  have h2 := sj ti.size (sR off hd)
  refine ⟨.agg ((cs.toList.drop off).take ti.size).toArray, ?_, _, rfl, by simpa using h2⟩
  have := jw (P := P) hT ha (w := w) (b := b) (off := off) (cs := (cs.toList.drop off).take ti.size) (by simp at hlen ⊢; omega) (fun j v hj => by
   rw [List.getElem?_take] at hj
   split at hj
   ·rw [List.getElem?_drop] at hj
    simpa [World.cell?, hh] using hj
   cases hj)
  simp [execOp, e, this]) h
theorem xp {t f : Nat} {ti : TI} {fs : List (Nat × Nat)} {o ft : Nat} {tf : TI} (hT : T.tab[t]? = some ti) (hk : ti.k = .struct fs) (hf : fs[f]? = some (o, ft)) (hF : T.tab[ft]? = some tf) (h0 : tf.size ≠ 0) (b off : Nat) (w : World) :
 (Instr.fieldAt t (.pointer (some ⟨b, off, none⟩)) f).run P w = .ok (.pointer (some ⟨b, off + o, none⟩)) w := by
 obtain ⟨i, D, _, hD, hkd, _⟩ := dM hT
 rw [hk] at hkd
 cases D <;> simp only [TK.of, reduceCtorEq, TK.struct.injEq] at hkd
 rename_i fields
 subst hkd
 simp only [List.getElem?_map, Option.map_eq_some_iff, Prod.mk.injEq] at hf
 obtain ⟨g, hg, ho, hft⟩ := hf
 subst ho; subst hft
 have hg' : fields[f]? = some g := by simpa using hg
 simp [Instr.fieldAt, run_underlying hD, hg', Instr.sureAddr, fieldPlace, cJ hF, h0]
 exact Addr.add_lit _ _ _
theorem aP {x : Operand} {f : Nat} {l : List Ty} {ti tf : TI} {fs : List (Nat × Nat)} {o ft : Nat} (hx : A.op fr x = .pp l) (hT : T.tab[ty']? = some ti) (hk : ti.k = .struct fs) (hf : fs[f]? = some (o, ft)) (hF : T.tab[ft]? = some tf) (h0 : tf.size ≠ 0)
 (h : aV P fr ops rest (A.set d (.pp (l.drop o))) fun A' l' => K A' ((A, { d := some d, ty := .pp (l.drop o), rs := bq x }) :: l')) : aV P fr ops (⟨some d, .fieldAddr ty' x f, t, p, e, none⟩ :: rest) A K :=
 bC (bP rfl rfl fun a w M _ hr _ => by
  have := cA (x := x) (fun _ h => h) hr
  rw [hx] at this
  obtain ⟨b, off, e, hp⟩ := this
  exact ⟨_, by simp [execOp, e, xp hT hk hf hF h0], b, off + o, rfl, zy o hp⟩) h
theorem aS {x : Operand} {f tg off : Nat} {ti tf : TI} {fs : List (Nat × Nat)} {o ft : Nat} (hx : A.op fr x = .ptr tg off) (hT : T.tab[ty']? = some ti) (hk : ti.k = .struct fs) (hf : fs[f]? = some (o, ft)) (hF : T.tab[ft]? = some tf) (h0 : tf.size ≠ 0)
 (h : aV P fr ops rest (A.set d (.ptr tg (off + o))) fun A' l' => K A' ((A, { d := some d, ty := .ptr tg (off + o), rs := bq x }) :: l')) : aV P fr ops (⟨some d, .fieldAddr ty' x f, t, p, e, none⟩ :: rest) A K :=
 bC (bP rfl rfl fun a w M _ hr _ => by
  have := cA (x := x) (fun _ h => h) hr
  rw [hx] at this
  obtain ⟨b, hb, e⟩ := this
  exact ⟨_, by simp [execOp, e, xp hT hk hf hF h0], b, hb, rfl⟩) h
theorem iL {t e : Nat} {ti te : TI} (hT : T.tab[t]? = some ti) (hk : ti.k = .slice e) (hE : T.tab[e]? = some te) {b off len c : Nat} {k : IntKind} {i : Int} (h0 : 0 ≤ i) (h1 : i.toNat < len) (w : World) :
 (Instr.indexAt t (.slice (some ⟨b, off, none⟩) len c) (.int k i)).run P w = .ok (.pointer (some ⟨b, off + i.toNat * te.size, none⟩)) w := by
 obtain ⟨_, D, _, hD, hkd, _⟩ := dM hT
 rw [hk] at hkd
 cases D <;> simp only [TK.of, reduceCtorEq, TK.slice.injEq] at hkd
 subst hkd
 have : 0 ≤ i ∧ i < (len : Int) := ⟨h0, by omega⟩
 simp [Instr.indexAt, asIntOf, run_underlying hD, this, cJ hE]
 exact Addr.add_lit _ _ _
theorem iH {t e n : Nat} {ti te : TI} (hT : T.tab[t]? = some ti) (hk : ti.k = .array n e) (hE : T.tab[e]? = some te) {b off : Nat} {k : IntKind} {i : Int} (h0 : 0 ≤ i) (h1 : i.toNat < n) (w : World) :
 (Instr.indexAt t (.pointer (some ⟨b, off, none⟩)) (.int k i)).run P w = .ok (.pointer (some ⟨b, off + i.toNat * te.size, none⟩)) w := by
 obtain ⟨_, D, _, hD, hkd, _⟩ := dM hT
 rw [hk] at hkd
 cases D <;> simp only [TK.of, reduceCtorEq, TK.array.injEq] at hkd
 obtain ⟨e1, e2⟩ := hkd
 subst e1; subst e2
 have h2 : i < (_ : Nat) := Int.lt_of_lt_of_le (Int.lt_add_one_of_le (Int.self_le_toNat i)) (Int.ofNat_le.2 h1)
 simp [Instr.indexAt, asIntOf, run_underlying hD, Instr.sureAddr, h0, h2, cJ hE]
 exact Addr.add_lit _ _ _
theorem kj {α : Type} [Inhabited α] (E : El α) (xs : List α) {k : Nat} (hk : k < xs.length) (i : Nat) (ty : Ty) (h : (E.tys (nth xs k))[i]? = some ty) : (xs.flatMap E.tys)[k * E.size + i]? = some ty := by
 have hi : i < E.size := by
  have := (List.getElem?_eq_some_iff.1 h).1
  rw [E.len] at this; exact this
 rw [vF E xs k i hk hi, List.getElem?_eq_getElem hk, ← cF hk]
 exact h
theorem nX {α : Type} [Inhabited α] {x y : Operand} {E : El α} {xs : List α} {k : IntKind} {i : Int} {ti te : TI} {el : Nat} (hx : A.op fr x = .sl E xs) (hy : A.op fr y = .int k i) (hT : T.tab[ty']? = some ti) (hk : ti.k = .slice el) (hE : T.tab[el]? = some te) (hs : te.size = E.size)
 (h0 : 0 ≤ i) (h1 : i.toNat < xs.length)
 (h : aV P fr ops rest (A.set d (.pp (E.tys (nth xs i.toNat)))) fun A' l' => K A' ((A, { d := some d, ty := .pp (E.tys (nth xs i.toNat)), rs := bq x ++ bq y }) :: l')) : aV P fr ops (⟨some d, .indexAddr ty' x y, t, p, e, none⟩ :: rest) A K :=
 bC (bP rfl rfl fun a w M _ hr _ => by
  obtain ⟨hdx, hdy⟩ := op2 hr
  rw [hx] at hdx; rw [hy] at hdy
  obtain ⟨ad, c, ex, _, _, hp⟩ := hdx
  obtain ⟨b, off, rfl, hp'⟩ := hp (by omega)
  have ey : a.eval y = .int k i := hdy
  refine ⟨_, by simp only [execOp, ex, ey, Sem.run_bind, iL hT hk hE h0 h1]; rfl, b, off + i.toNat * te.size, rfl, hp'.1, hp'.2.1, fun j ty hj => ?_⟩
  obtain ⟨v, hv, hd⟩ := hp'.2.2 _ ty (kj E xs h1 j ty hj)
  exact ⟨v, by rw [hs, Nat.add_assoc]; exact hv, hd⟩) h
end
end Go.T
namespace Go.T
open Go Go.RowKit
def mS (w0 : World) (M0 : ay) (res : Ty) (e : Ending) (w' : World) : Prop :=
  ∃ r M', e = .returned r ∧ Wf w' M' ∧ Le (fun t => 1 ≤ t) (fun t => 1 ≤ t) w0 M0 w' M' ∧ res.den w' M' r
def cX (P : Program) (f : FuncId) (args : List Ty) (res : Ty) : Prop :=
  (∃ fn, P.funcs[f]? = some fn ∧ (fn.name == "runtime.NumGoroutine") = false ∧ fn.body.isNone = false) ∧
  ∀ w M vs, Wf w M → (∀ b t, M b = some t → t = 0) → cD w M args vs → Calls P f vs.toArray w (mS w M res)
def eZ (P : Program) (fr : Fr) (c : Code) (A : As) (Q : Exit → Act → World → Prop) : Prop := ∀ a w, A.holds fr a w → c.wpIn fr.kd.iU 0 P Q a w
def cU (fr : Fr) (A : As) (R : Act → World → Prop) : Prop := ∀ a w, A.holds fr a w → R a w
section
variable {P : Program} {fr : Fr} {ops : Array Oper} {A : As} {rest : List Oper} {K : As → List (As × Fx) → Prop} {d : Nat} {t ty' : TypeId} {p : String} {e : Array Edge} {Q : Exit → Act → World → Prop} {x y : Code} {id : Nat} {l : List Oper}
theorem aF (h : eZ P fr x A (Exit.then (fun a w => y.wpIn fr.kd.iU 0 P Q a w) Q)) : eZ P fr (.seq x y) A Q := fun a w ha => wpIn_seq (h a w ha)
theorem aA (h : aV P fr l.toArray l A fun A' _ => cU fr A' (Q .normal)) : eZ P fr (.region id l.toArray false) A Q := MI h
theorem cg (hm : P.follows .mixedOrders = true) (hf : forward l.toArray = true) (h : aV P fr l.toArray l A fun A' s => lT fr.n l.toArray A s = true ∧ cU fr A' (Q .normal)) : eZ P fr (.region id l.toArray true) A Q := Ng hm hf h
theorem aC (h : eZ P fr y A Q) {Q' : Exit → Act → World → Prop} : cU fr A (Exit.then (fun a w => y.wpIn fr.kd.iU 0 P Q a w) Q' .normal) := h
theorem aL {n : Act → World → Prop} {i : Nat} (h : cU fr A (Q (.exit i))) : cU fr A (Exit.then n Q (.exit i)) := h
theorem aW {n : Act → World → Prop} (h : cU fr A (Q .ret)) : cU fr A (Exit.then n Q .ret) := h
theorem bA (h : cU fr A (Q .normal)) : eZ P fr .skip A Q := fun a w ha => wpIn_skip (h a w ha)
theorem cE {i : Nat} (h : cU fr A (Q (.exit i))) : eZ P fr (.exit i) A Q := fun a w ha => wpIn_exit (h a w ha)
theorem au (h : cU fr A (Q .ret)) : eZ P fr .ret A Q := fun a w ha => wpIn_ret (h a w ha)
theorem af (h : eZ P fr x A (Exit.inBlock id Q)) : eZ P fr (.block id x) A Q := fun a w ha => wpIn_block (h a w ha)
theorem bH (h : cU fr A (Q .normal)) : cU fr A (Exit.inBlock id Q .normal) := h
theorem av (h : cU fr A (Q .ret)) : cU fr A (Exit.inBlock id Q .ret) := h
theorem ah {i : Nat} (hi : i = id) (h : cU fr A (Q .normal)) : cU fr A (Exit.inBlock id Q (.exit i)) := fun a w ha => by simpa [Exit.inBlock, hi] using h a w ha
theorem c9 {c : Operand} {b : Bool} (hc : A.op fr c = .bool b) (h1 : b = true → eZ P fr x A Q) (h2 : b = false → eZ P fr y A Q) : eZ P fr (.cond c x y) A Q := fun a w ha => by
  have hv : a.eval c = .bool b := by
    obtain ⟨M, _, hs, _⟩ := ha
    have := cA (x := c) (rs := bq c) (fun _ h => h) (fun c _ hn => hs c hn)
    rw [hc] at this; exact this
  cases b with
  | true => exact wpIn_cond_true hv (h1 rfl a w ha)
  | false => exact wpIn_cond_false hv (h2 rfl a w ha)
def Ty.Sub (s t : Ty) : Prop := ∀ w M v, s.den w M v → t.den w M v
theorem Ty.aG (s : Ty) : s.Sub s := fun _ _ _ h => h
theorem Ty.aR (s : Ty) : s.Sub Ty.any := fun _ _ _ _ => trivial
theorem Ty.sub_eq {s t : Ty} (h : s = t) : s.Sub t := h ▸ Ty.aG s
def Cont.Sub (s t : Cont) : Prop := ∀ w M v, s.den w M v → t.den w M v
theorem Cont.aG (s : Cont) : s.Sub s := fun _ _ _ h => h
theorem Cont.sub_eq {s t : Cont} (h : s = t) : s.Sub t := h ▸ Cont.aG s
def uH (A B : As) : Nat → Prop
  | 0 => True
  | k + 1 => (A.slots k).Sub (B.slots k) ∧ uH A B k
theorem aI {A B : As} : uH A B 0 := trivial
theorem uo {A B : As} : ∀ {n : Nat}, uH A B n → ∀ c, c < n → (A.slots c).Sub (B.slots c)
  | 0, _, c, hc => absurd hc (Nat.not_lt_zero c)
  | n + 1, h, c, hc => if e : c = n then e ▸ h.1 else uo h.2 c (by omega)
def allTags (A : As) : List (Nat × Cont) → Prop
  | [] => True
  | x :: l => (∃ C, A.tag x.1 = some C ∧ C.Sub x.2) ∧ allTags A l
theorem aH : allTags A [] := trivial
theorem aJ {u : Nat} {C D : Cont} {l : List (Nat × Cont)} (h : A.tag u = some D) (hs : D.Sub C) (h' : allTags A l) : allTags A ((u, C) :: l) := ⟨⟨D, h, hs⟩, h'⟩
theorem sB : ∀ {l : List (Nat × Cont)}, allTags A l → ∀ x ∈ l, ∃ C, A.tag x.1 = some C ∧ C.Sub x.2
  | [], _, x, hx => by cases hx
  | y :: l, h, x, hx => by
    rcases List.mem_cons.1 hx with rfl | hx
    · exact h.1
    · exact sB h.2 x hx
structure c8 (fr : Fr) (A B : As) : Prop where
  slots : uH A B fr.n
  tags : allTags A B.tags
theorem c8.holds {A B : As} (h : c8 fr A B) {a : Act} {w : World} : A.holds fr a w → B.holds fr a w := fun ⟨M, ok, hs, ht⟩ =>
 ⟨M, ok, fun c hc => uo h.slots c hc _ _ _ (hs c hc), fun x hx => by
  obtain ⟨C, hC, hsub⟩ := sB h.tags x hx
  exact hsub _ _ _ (ht _ (dD hC))⟩
theorem kJ {B : As} (h : c8 fr A B) (h' : eZ P fr x B Q) : eZ P fr x A Q := fun a w ha => h' a w (h.holds ha)
theorem qU {J : As} (h : eZ P fr x A (Exit.then (fun a w => J.holds fr a w) Q)) (h' : eZ P fr y J Q) : eZ P fr (.seq x y) A Q := fun a w ha =>
 wpIn_seq (Go.wpIn_mono (h a w ha) fun e a w hq => by cases e <;> first | exact h' a w hq | exact hq)
theorem iC {J : As} (h : c8 fr A J) : cU fr A (Exit.then (fun a w => J.holds fr a w) Q .normal) := fun a w ha => h.holds ha
theorem cK {ι : Type} (I : ι → As) (μ : ι → Nat) (i0 : ι) (h0 : c8 fr A (I i0))
    (h : ∀ i, eZ P fr x (I i) (Exit.then (fun a w => ∃ j, (I j).holds fr a w ∧ μ j < μ i) Q)) : eZ P fr (.loop x) A Q := by
  intro a w ha b k cs hro hb hr
  have key : ∀ (n : Nat) (i : ι), μ i = n → ∀ a w, (I i).holds fr a w → ∃ e a' w', Q e a' w' ∧ ArrivesIn (Machine.fenced P fr.kd.iU) P (lone (b.atR a (.code x :: .inLoop x :: k)) cs w) b k cs e a' w' := by
    intro n
    induction n using Nat.strongRecOn with
    | _ n ih =>
      intro i hi a w ha
      obtain ⟨e, a₁, w₁, hq, harr⟩ := h i a w ha b (.inLoop x :: k) cs hro hb hr
      cases e with
      | normal =>
        obtain ⟨j, hj, hlt⟩ := hq
        obtain ⟨e₂, a₂, w₂, hq₂, harr₂⟩ := ih (μ j) (hi ▸ hlt) j rfl a₁ w₁ hj
        exact ⟨e₂, a₂, w₂, hq₂, .of_steps (StepsIn.trans harr (.one (fenced_calm hb hr rfl) stepR_inLoop)) harr₂⟩
      | exit id => exact ⟨_, a₁, w₁, hq, .pass (x := .inLoop x) rfl (fun _ _ => .inl (by simp)) harr⟩
      | goto l => exact ⟨_, a₁, w₁, hq, .pass (x := .inLoop x) rfl (fun _ _ => .inl (by simp)) harr⟩
      | ret => exact ⟨_, a₁, w₁, hq, .pass (x := .inLoop x) rfl (fun _ _ => .inl (by simp)) harr⟩
      | panic ch => exact ⟨_, a₁, w₁, hq, .pass (x := .inLoop x) rfl (fun _ _ => .inl (by simp)) harr⟩
      | outgrown => exact ⟨_, a₁, w₁, hq, .pass (x := .inLoop x) rfl (fun _ _ => .inl (by simp)) harr⟩
  obtain ⟨e, a', w', hq, harr⟩ := key _ i0 rfl a w (h0.holds ha)
  exact ⟨e, a', w', hq, .of_steps (.one (fenced_calm hb hr rfl) stepR_loop) harr⟩
theorem bO {ι : Type} {I : ι → As} {μ : ι → Nat} {i : ι} (j : ι) (h : c8 fr A (I j)) (hlt : μ j < μ i) : cU fr A (Exit.then (fun a w => ∃ j, (I j).holds fr a w ∧ μ j < μ i) Q .normal) := fun a w ha => ⟨j, h.holds ha, hlt⟩
def entry (args : List Ty) : As := ⟨fun c => (args[c]?).getD Ty.any, []⟩
theorem aY {f : FuncId} {fn : Func} {c : Code} {args : List Ty} {res : Ty} {n : Nat} (hf : P.funcs[f]? = some fn) (hb : fn.body = some c) (hn : (fn.name == "runtime.NumGoroutine") = false) (hnt : fn.ntmps = n) (hl : args.length ≤ n)
    (h : ∀ w0 M0, eZ P ⟨n, w0, M0, [], .plain⟩ c (entry args) (bodyPost P fn (mS w0 M0 res))) : cX P f args res := by
  refine ⟨⟨fn, hf, hn, by rw [hb]; rfl⟩, fun w M vs wf hM hd => calls_of_wp hf hb (wpIn_wide.1 (h w M _ _ ?_))⟩
  have hlen := cI hd
  refine ⟨M, ⟨wf, Le.refl _ _ _ _, by simp [hnt, hlen]; omega, Defs.nil⟩, fun c hc => ?_, by simp [entry]⟩
  simp only [entry]
  cases ha : args[c]? with
  | none => trivial
  | some ty =>
    obtain ⟨v, hv, hdv⟩ := dQ hd c ty ha
    have : (vs.toArray ++ Array.replicate (fn.ntmps - vs.toArray.size) undef).getD c undef = v := by
      have hlt : c < vs.length := (List.getElem?_eq_some_iff.1 hv).1
      rw [Array.getD_eq_getD_getElem?, Array.getElem?_append_left (by simpa using hlt)]
      simp [hv]
    rw [this]; exact hdv
theorem Tz {fn : Func} {R : Ending → World → Prop} (h : cU fr A (bodyPost P fn R .ret)) : cU fr A (bodyPost P fn R .normal) := h
def Ma (M : ay) : ay := fun b => (M b).map fun _ => 0
theorem zV {M : ay} {b t : Nat} (h : Ma M b = some t) : t = 0 ∧ ∃ u, M b = some u := by
  unfold Ma at h
  cases hm : M b with
  | none => rw [hm] at h; cases h
  | some u => rw [hm] at h; injection h with h; exact ⟨h.symm, u, rfl⟩
theorem E0 {w : World} {M : ay} (wf : Wf w M) : Wf w (Ma M) := ⟨fun b t h => let ⟨_, u, hu⟩ := zV h; wf.lt b u hu, fun b b' t _ h _ => by have := (zV h).1; omega⟩
theorem wH {M : ay} (b t : Nat) (h : Ma M b = some t) : t = 0 := (zV h).1
theorem HX {M : ay} {b : Nat} (h : M b = none) : Ma M b = none := by simp [Ma, h]
theorem NS {M : ay} {b t : Nat} (h : M b = some t) : Ma M b = some 0 := by simp [Ma, h]
def nq (w : World) (M : ay) : ay := fun b => if b < w.heap.size then M b else none
theorem xF {w w' : World} {M M' : ay} {res : Ty} {r : Value} (wf : Wf w M) (le : Le (fun t => 1 ≤ t) (fun t => 1 ≤ t) w (Ma M) w' M') (hd : res.deps = []) (hdc : res.cdeps = []) (hr : res.den w' M' r) :
    Wf w' (nq w M) ∧ Le (· ∈ ([] : List Nat)) (· ∈ ([] : List Nat)) w M w' (nq w M) ∧ res.den w' (nq w M) r := by
  have hold : ∀ b, b < w.heap.size → w'.heap[b]? = w.heap[b]? := fun b hb => by
    cases hm : M b with
    | none => exact (le.qy b hb (HX hm)).2
    | some t => exact (le.own b 0 (NS hm) (by omega)).2 (by omega)
  refine ⟨⟨fun b t h => ?_, fun b b' t ht1 h h' => ?_⟩, ⟨le.size, le.os, le.tape, le.out, fun b hb hm => ⟨?_, hold b hb⟩, fun b t hm _ => ⟨?_, fun _ => hold b (wf.lt b t hm)⟩⟩, ?_⟩
  · unfold nq at h
    split at h
    · exact Nat.lt_of_lt_of_le ‹_› le.size
    · cases h
  · unfold nq at h h'
    split at h <;> split at h' <;> first | exact wf.inj b b' t ht1 h h' | cases h | cases h'
  · simp [nq, hm]
  · simp [nq, wf.lt b t hm, hm]
  · refine res.mono (S := fun _ => True) (K := fun _ => True) ⟨Nat.le_refl _, rfl, rfl, rfl, fun b _ hm => ⟨?_, rfl⟩, fun b t _ h => absurd trivial h⟩ (by rw [hd]; intro _ h; cases h) (by rw [hdc]; intro _ h; cases h) hr
    unfold nq
    split
    · rename_i hlt
      cases hmb : M b with
      | none => rfl
      | some t =>
        have := (le.own b 0 (NS hmb) (by omega)).1
        rw [hm] at this; cases this
    · rfl
def oS (A : As) (fr : Fr) (xs : List Operand) : List Ty := xs.map (A.op fr)
theorem fk {a : Act} {w : World} {M : ay} {rs : List Nat} (h : ∀ c ∈ rs, c < fr.n → (A.slots c).den w M (a.tmps.getD c undef)) : ∀ {xs : List Operand}, (∀ x ∈ xs, ∀ c ∈ bq x, c ∈ rs) → cD w M (oS A fr xs) (xs.map a.eval)
  | [], _ => trivial
  | x :: xs, hr => ⟨cA (hr x List.mem_cons_self) h, fk h fun y hy => hr y (List.mem_cons_of_mem _ hy)⟩
theorem iB {w : World} {M : ay} : ∀ {l l' : List Ty} {vs vs' : List Value}, cD w M l vs → cD w M l' vs' → cD w M (l ++ l') (vs ++ vs')
  | [], _, [], _, _, h => h
  | _ :: _, _, _ :: _, _, ⟨h1, h2⟩, h => ⟨h1, iB h2 h⟩
theorem mX {w : World} {M : ay} {l : List Ty} {vs : List Value} (hd : bp l = []) (hdc : bU l = []) (h : cD w M l vs) : cD w (Ma M) l vs :=
 bY (S := fun _ => True) (K := fun _ => True) ⟨Nat.le_refl _, rfl, rfl, rfl, fun b _ hm => ⟨HX hm, rfl⟩, fun b t _ h => absurd trivial h⟩ (by rw [hd]; intro _ h; cases h) (by rw [hdc]; intro _ h; cases h) h
theorem jF {f : FuncId} {args : List Ty} {res : Ty} (hF : cX P f args res) (vs : Array Value) (w : World) : (callFunc f vs).run P w = .ok (.enter f vs) w := by
 obtain ⟨⟨fn, hf, hn, hb⟩, _⟩ := hF
 have hn' : fn.name ≠ "runtime.NumGoroutine" := by simpa using hn
 have hb' : fn.body ≠ none := fun h => by rw [h] at hb; cases hb
 simp [callFunc, hf, hn', hb']
theorem PU {f : FuncId} {args : List Ty} {res : Ty} (hF : cX P f args res) {xs : Array Operand} {ats : Array TypeId} (hx : oS A fr xs.toList = args) (hd : bp args = []) (hdc : bU args = []) (hr : res.deps = []) (hrc : res.cdeps = []) :
 CM P fr ops ⟨some d, .call ⟨.value (.func f), xs, ats⟩, t, p, e, none⟩ A { d := some d, ty := res, rs := xs.toList.flatMap bq } := by
 refine ⟨rfl, (by simp), (by simp), (by simp), fun a w M wf _ hrd _ => ?_⟩
 rw [if_pos (by simp [Region.wanted])]
 have hv : cD w M args (xs.toList.map a.eval) := hx ▸ fk hrd fun x hx c hc => List.mem_flatMap.2 ⟨x, hx, hc⟩
 have hc := hF.2 w _ _ (E0 wf) wH (mX hd hdc hv)
 have hrun : (execOp a.eval ⟨some d, .call ⟨.value (.func f), xs, ats⟩, t, p, e, none⟩).run P w = .ok (.enter f (xs.map a.eval)) w := by
  simp [execOp, resolve, Act.eval, Deferred.ofValue, invoke, jF hF]
 refine hH hrun ?_
 have hvs : (xs.toList.map a.eval).toArray = xs.map a.eval := by rw [← Array.toList_map]
 rw [← hvs]
 refine hc.mono fun en w' ⟨r, M', he, _, le, hden⟩ => ?_
 obtain ⟨h1, h2, h3⟩ := xF wf le hr hrc hden
 exact ⟨r, he, r, rfl, _, h1, h2, h3, by simp⟩
theorem aq {f : FuncId} {args : List Ty} {res : Ty} (hF : cX P f args res) {xs : List Operand} {ats : Array TypeId} (hx : oS A fr xs = args) (hd : bp args = []) (hdc : bU args = []) (hr : res.deps = []) (hrc : res.cdeps = [])
 (h : aV P fr ops rest (A.set d res) fun A' l => K A' ((A, { d := some d, ty := res, rs := xs.flatMap bq }) :: l)) : aV P fr ops (⟨some d, .call ⟨.value (.func f), xs.toArray, ats⟩, t, p, e, none⟩ :: rest) A K :=
 ⟨_, PU hF hx hd hdc hr hrc, h⟩
theorem Mv {c : Nat} {f : FuncId} {caps args : List Ty} {res : Ty} (hc : A.op fr (.tmp c) = .j9 f caps) (hF : cX P f args res) {xs : Array Operand} {ats : Array TypeId} (hx : oS A fr xs.toList ++ caps = args) (hd : bp args = []) (hdc : bU args = []) (hr : res.deps = []) (hrc : res.cdeps = []) :
 CM P fr ops ⟨some d, .call ⟨.value (.tmp c), xs, ats⟩, t, p, e, none⟩ A { d := some d, ty := res, rs := c :: xs.toList.flatMap bq } := by
 refine ⟨rfl, (by simp), (by simp), (by simp), fun a w M wf _ hrd _ => ?_⟩
 rw [if_pos (by simp [Region.wanted])]
 have hcv := cA (x := .tmp c) (fun u hu => by exact (List.mem_singleton.1 hu) ▸ List.mem_cons_self) hrd
 rw [hc] at hcv
 obtain ⟨cs, ec, hcs⟩ := hcv
 have hv : cD w M args (xs.toList.map a.eval ++ cs.toList) := hx ▸ iB (fk hrd fun x hx c hc => List.mem_cons_of_mem _ (List.mem_flatMap.2 ⟨x, hx, hc⟩)) hcs
 have hc := hF.2 w _ _ (E0 wf) wH (mX hd hdc hv)
 have hrun : (execOp a.eval ⟨some d, .call ⟨.value (.tmp c), xs, ats⟩, t, p, e, none⟩).run P w = .ok (.enter f (xs.map a.eval ++ cs)) w := by
  simp [execOp, resolve, ec, Deferred.ofValue, invoke, jF hF]
 refine hH hrun ?_
 have hvs : (xs.toList.map a.eval ++ cs.toList).toArray = xs.map a.eval ++ cs := by rw [← Array.toList_map, ← Array.toList_append]
 rw [← hvs]
 refine hc.mono fun en w' ⟨r, M', he, _, le, hden⟩ => ?_
 obtain ⟨h1, h2, h3⟩ := xF wf le hr hrc hden
 exact ⟨r, he, r, rfl, _, h1, h2, h3, by simp⟩
theorem QV {c : Nat} {f : FuncId} {caps args : List Ty} {res : Ty} (hc : A.op fr (.tmp c) = .j9 f caps) (hF : cX P f args res) {xs : List Operand} {ats : Array TypeId} (hx : oS A fr xs ++ caps = args) (hd : bp args = []) (hdc : bU args = []) (hr : res.deps = []) (hrc : res.cdeps = [])
 (h : aV P fr ops rest (A.set d res) fun A' l => K A' ((A, { d := some d, ty := res, rs := c :: xs.flatMap bq }) :: l)) : aV P fr ops (⟨some d, .call ⟨.value (.tmp c), xs.toArray, ats⟩, t, p, e, none⟩ :: rest) A K :=
 ⟨_, Mv hc hF hx hd hdc hr hrc, h⟩
end
end Go.T
namespace Go.T
open Go Go.RowKit
section
variable {P : Program} {fr : Fr} {ops : Array Oper} {A : As} {rest : List Oper} {K : As → List (As × Fx) → Prop} {d : Nat} {t ty' ty2 : TypeId} {p : String} {e : Array Edge}
theorem ak {op : BinOp} {x y : Operand} {k : IntKind} {a b : Int} {ty : Ty} (hx : A.op fr x = .int k a) (hy : A.op fr y = .int k b) (hr : TW op k a b = some ty)
 (h : aV P fr ops rest (A.set d ty) fun A' l' => K A' ((A, { d := some d, ty := ty, rs := bq x ++ bq y }) :: l')) : aV P fr ops (⟨some d, .binOp op ty' x y ty2, t, p, e, none⟩ :: rest) A K :=
 bC (bP rfl rfl fun a w M _ hrd _ => by
  obtain ⟨hdx, hdy⟩ := op2 hrd
  rw [hx] at hdx; rw [hy] at hdy
  have ex : a.eval x = .int k _ := hdx
  have ey : a.eval y = .int k _ := hdy
  obtain ⟨v, hv', hd⟩ := Pr (P := P) hr x y ty' w M
  refine ⟨v, ?_, hd⟩
  simp only [Sem.run_bind] at hv'
  simp only [execOp, ex, ey, Sem.run_bind, hv']
  rfl) h
theorem bz {x y : Operand} {a b : Int} (hx : A.op fr x = .int .i64 a) (hy : A.op fr y = .int .i64 b) (h1 : -9223372036854775808 ≤ a + b) (h2 : a + b ≤ 9223372036854775807)
 (h : aV P fr ops rest (A.set d (.int .i64 (a + b))) fun A' l' => K A' ((A, { d := some d, ty := .int .i64 (a + b), rs := bq x ++ bq y }) :: l')) : aV P fr ops (⟨some d, .binOp .add ty' x y ty2, t, p, e, none⟩ :: rest) A K := by
 refine ak (op := .add) hx hy (ty := .int .i64 (a + b)) ?_ h
 show some _ = some _
 rw [IntWalk.i64_in (a + b) (by omega)]
theorem jB {x y : Operand} {a b : Int} (hx : A.op fr x = .int .i64 a) (hy : A.op fr y = .int .i64 b) (h1 : -9223372036854775808 ≤ a - b) (h2 : a - b ≤ 9223372036854775807)
 (h : aV P fr ops rest (A.set d (.int .i64 (a - b))) fun A' l' => K A' ((A, { d := some d, ty := .int .i64 (a - b), rs := bq x ++ bq y }) :: l')) : aV P fr ops (⟨some d, .binOp .sub ty' x y ty2, t, p, e, none⟩ :: rest) A K := by
 refine ak (op := .sub) hx hy (ty := .int .i64 (a - b)) ?_ h
 show some _ = some _
 rw [IntWalk.i64_in (a - b) (by omega)]
theorem Na {x y : Operand} {a b : Int} (hx : A.op fr x = .int .i64 a) (hy : A.op fr y = .int .i64 b) (h1 : -9223372036854775808 ≤ a * b) (h2 : a * b ≤ 9223372036854775807)
 (h : aV P fr ops rest (A.set d (.int .i64 (a * b))) fun A' l' => K A' ((A, { d := some d, ty := .int .i64 (a * b), rs := bq x ++ bq y }) :: l')) : aV P fr ops (⟨some d, .binOp .mul ty' x y ty2, t, p, e, none⟩ :: rest) A K := by
 refine ak (op := .mul) hx hy (ty := .int .i64 (a * b)) ?_ h
 show some _ = some _
 rw [IntWalk.i64_in (a * b) ⟨h1, h2⟩]
theorem Kk {x y : Operand} {k : IntKind} {a b : Int} (hx : A.op fr x = .int k a) (hy : A.op fr y = .int k b) (h0 : b ≠ 0)
 (h : aV P fr ops rest (A.set d (.int k (a.tmod b))) fun A' l' => K A' ((A, { d := some d, ty := .int k (a.tmod b), rs := bq x ++ bq y }) :: l')) : aV P fr ops (⟨some d, .binOp .rem ty' x y ty2, t, p, e, none⟩ :: rest) A K :=
 bC (bP rfl rfl fun ac w M _ hrd _ => by
  obtain ⟨hdx, hdy⟩ := op2 hrd
  rw [hx] at hdx; rw [hy] at hdy
  have ex : ac.eval x = .int k _ := hdx
  have ey : ac.eval y = .int k _ := hdy
  exact ⟨.int k (a.tmod b), by simp only [execOp, ex, ey]; simp [go_sem, Op.intDiv, h0], rfl⟩) h
theorem Oe {x y : Operand} {k k' : IntKind} {a b : Int} (hx : A.op fr x = .int k a) (hy : A.op fr y = .int k' b) (h0 : 0 ≤ b) (h1 : b ≤ k.bits)
 (h : aV P fr ops rest (A.set d (.int k (a / 2 ^ b.toNat))) fun A' l' => K A' ((A, { d := some d, ty := .int k (a / 2 ^ b.toNat), rs := bq x ++ bq y }) :: l')) : aV P fr ops (⟨some d, .binOp .shr ty' x y ty2, t, p, e, none⟩ :: rest) A K :=
 bC (bP rfl rfl fun ac w M _ hrd _ => by
  obtain ⟨hdx, hdy⟩ := op2 hrd
  rw [hx] at hdx; rw [hy] at hdy
  have ex : ac.eval x = .int k _ := hdx
  have ey : ac.eval y = .int k' _ := hdy
  exact ⟨.int k (a / 2 ^ b.toNat), by simp only [execOp, ex, ey, eqGuard_shr, binOp_shr, shift_shr k k' a b h0 h1]; simp, rfl⟩) h
theorem T7 {x y : Operand} {k k' : IntKind} {a b : Int} (hx : A.op fr x = .int k a) (hy : A.op fr y = .int k' b) (h0 : 0 ≤ b) (h1 : b ≤ k.bits)
 (h : aV P fr ops rest (A.set d (.int k (k.wrap (a * 2 ^ b.toNat)))) fun A' l' => K A' ((A, { d := some d, ty := .int k (k.wrap (a * 2 ^ b.toNat)), rs := bq x ++ bq y }) :: l')) : aV P fr ops (⟨some d, .binOp .shl ty' x y ty2, t, p, e, none⟩ :: rest) A K :=
 bC (bP rfl rfl fun ac w M _ hrd _ => by
  obtain ⟨hdx, hdy⟩ := op2 hrd
  rw [hx] at hdx; rw [hy] at hdy
  have ex : ac.eval x = .int k _ := hdx
  have ey : ac.eval y = .int k' _ := hdy
  exact ⟨.int k (k.wrap (a * 2 ^ b.toNat)), by simp only [execOp, ex, ey, eqGuard_shl, binOp_shl, shift_shl k k' a b h0 h1]; simp, rfl⟩) h
theorem ct {x : Operand} {b : Bool} (hx : A.op fr x = .bool b)
 (h : aV P fr ops rest (A.set d (.bool (!b))) fun A' l' => K A' ((A, { d := some d, ty := .bool (!b), rs := bq x }) :: l')) : aV P fr ops (⟨some d, .unOp .not ty' x, t, p, e, none⟩ :: rest) A K :=
 bC (bP rfl rfl fun a w M _ hrd _ => by
  have hdx := cA (x := x) (fun _ h => h) hrd
  rw [hx] at hdx
  have ex : a.eval x = .bool b := hdx
  exact ⟨.bool (!b), by simp [execOp, ex, Op.unary], rfl⟩) h
theorem Uh {x : Operand} {k : IntKind} {b : Int} (hx : A.op fr x = .int k b)
 (h : aV P fr ops rest (A.set d (.int k (k.wrap (0 - b)))) fun A' l' => K A' ((A, { d := some d, ty := .int k (k.wrap (0 - b)), rs := bq x }) :: l')) : aV P fr ops (⟨some d, .unOp .neg ty' x, t, p, e, none⟩ :: rest) A K :=
 bC (bP rfl rfl fun a w M _ hrd _ => by
  have hdx := cA (x := x) (fun _ h => h) hrd
  rw [hx] at hdx
  have ex : a.eval x = .int k b := hdx
  exact ⟨.int k (k.wrap (0 - b)), by simp [execOp, ex, Op.unary, Op.intArith], rfl⟩) h
theorem bt {x : Operand} {l : List Ty} {i : Nat} {ty : Ty} (hx : A.op fr x = .tE l) (hl : l[i]? = some ty)
 (h : aV P fr ops rest (A.set d ty) fun A' l' => K A' ((A, { d := some d, ty := ty, rs := bq x }) :: l')) : aV P fr ops (⟨some d, .extract x i, t, p, e, none⟩ :: rest) A K :=
 bC (bP rfl rfl fun a w M _ hrd _ => by
  have hdx := cA (x := x) (fun _ h => h) hrd
  rw [hx] at hdx
  obtain ⟨cs, ex, hd⟩ := hdx
  obtain ⟨v, hv, hdv⟩ := dQ hd i ty hl
  exact ⟨v, by simp [execOp, ex, Instr.extract, show cs[i]? = some v by simpa using hv], hdv⟩) h
theorem cW {x : Operand} {tg off : Nat} (hx : A.op fr x = .ptr tg off)
 (h : aV P fr ops rest (A.set d (.ptr tg off)) fun A' l' => K A' ((A, { d := some d, ty := .ptr tg off, rs := bq x }) :: l')) : aV P fr ops (⟨some d, .nilCheck x, t, p, e, none⟩ :: rest) A K :=
 bC (bP rfl rfl fun a w M _ hrd _ => by
  have hdx := cA (x := x) (fun _ h => h) hrd
  rw [hx] at hdx
  have hdx' := hdx
  obtain ⟨b, hb, ex⟩ := hdx
  exact ⟨a.eval x, by simp [execOp, ex], hdx'⟩) h
theorem Jg {c x y : Operand} {b : Bool} {ty1 ty2' : Ty} (hc : A.op fr c = .bool b) (hx : A.op fr x = ty1) (hy : A.op fr y = ty2') {ty : Ty} (h1 : b = true → ty1.Sub ty) (h2 : b = false → ty2'.Sub ty)
    (h : aV P fr ops rest (A.set d ty) fun A' l' => K A' ((A, { d := some d, ty := ty, rs := bq c ++ (bq x ++ bq y) }) :: l')) : aV P fr ops (⟨some d, .pick c x y, t, p, e, none⟩ :: rest) A K :=
  bC (bP rfl rfl fun a w M _ hrd _ => by
    have hdc := cA (x := c) (fun _ h => List.mem_append_left _ h) hrd
    have hdx := cA (x := x) (fun _ h => List.mem_append_right _ (List.mem_append_left _ h)) hrd
    have hdy := cA (x := y) (fun _ h => List.mem_append_right _ (List.mem_append_right _ h)) hrd
    rw [hc] at hdc; rw [hx] at hdx; rw [hy] at hdy
    have ec : a.eval c = .bool b := hdc
    cases b with
    | true => exact ⟨a.eval x, by simp [execOp, ec, asBool], h1 rfl _ _ _ hdx⟩
    | false => exact ⟨a.eval y, by simp [execOp, ec, asBool], h2 rfl _ _ _ hdy⟩) h
variable [T : lQ P]
theorem cC {α : Type} {x : Operand} {E : El α} {xs : List α} {ti : TI} {el : Nat} (hx : A.op fr x = .sl E xs) (hT : T.tab[ty']? = some ti) (hk : ti.k = .slice el)
 (h : aV P fr ops rest (A.set d (.int .i64 xs.length)) fun A' l' => K A' ((A, { d := some d, ty := .int .i64 xs.length, rs := bq x }) :: l')) :
 aV P fr ops (⟨some d, .call ⟨.builtin .len, #[x], #[ty']⟩, t, p, e, none⟩ :: rest) A K :=
 bC (bP rfl rfl fun a w M _ hrd _ => by
  have hdx := cA (x := x) (fun _ h => h) hrd
  rw [hx] at hdx
  obtain ⟨ad, c, ex, _⟩ := hdx
  obtain ⟨_, D, _, hD, hkd, _⟩ := dM hT
  rw [hk] at hkd
  cases D <;> simp only [TK.of, reduceCtorEq, TK.slice.injEq] at hkd
  exact ⟨.int .i64 xs.length, by simp [execOp, resolve, invoke, builtin, ex, Builtin.len_, run_underlying hD, goInt], rfl⟩) h
end
end Go.T
namespace Go.T
open Go Go.RowKit
def lk : List (Nat × Ty) → Nat → Ty
  | [], _ => Ty.any
  | (d, t) :: l, c => bif Nat.beq c d then t else lk l c
def live (l : List (Nat × Ty)) (tg : List (Nat × Cont) := []) : As := ⟨lk l, tg⟩
theorem aB {A B : As} {k : Nat} (h' : uH A B k) (h : (A.slots k).Sub (B.slots k)) : uH A B (k + 1) := ⟨h, h'⟩
theorem c8.mk' {fr : Fr} {A B : As} (h : uH A B fr.n) (h' : allTags A B.tags) : c8 fr A B := ⟨h, h'⟩
theorem Ty.bJ {k : IntKind} {a b : Int} (h : a = b) : (Ty.int k a).Sub (Ty.int k b) := h ▸ Ty.aG _
theorem Ty.z6 {a b : Bool} (h : a = b) : (Ty.bool a).Sub (Ty.bool b) := h ▸ Ty.aG _
theorem Ty.gy {α : Type} {E : El α} {a b : List α} (h : a = b) : (Ty.sl E a).Sub (Ty.sl E b) := h ▸ Ty.aG _
theorem aa {P : Program} {fr : Fr} {A : As} {Q : Exit → Act → World → Prop} {x y : Code} {c : Operand} {q : Prop} [inst : Decidable q] (hc : A.op fr c = .bool (decide q)) (h1 : q → eZ P fr x A Q) (h2 : ¬ q → eZ P fr y A Q) : eZ P fr (.cond c x y) A Q :=
 c9 hc (fun h => h1 (of_decide_eq_true h)) (fun h => h2 (of_decide_eq_false h))
theorem ck {P : Program} {fr : Fr} {A : As} {Q : Exit → Act → World → Prop} {x y : Code} {c : Operand} {q : Prop} [inst : Decidable q] (hc : A.op fr c = .bool (!decide q)) (h1 : ¬ q → eZ P fr x A Q) (h2 : q → eZ P fr y A Q) : eZ P fr (.cond c x y) A Q :=
 c9 hc (fun h => h1 (of_decide_eq_false (by simpa using h))) (fun h => h2 (of_decide_eq_true (by simpa using h)))
section
variable {P : Program} {fr : Fr} {ops : Array Oper} {A : As} {rest : List Oper} {K : As → List (As × Fx) → Prop} {d : Nat} {t ty' : TypeId} {p : String} {e : Array Edge} [T : lQ P]
theorem bG {α : Type} [Inhabited α] {x y : Operand} {E : El α} {xs : List α} {k : IntKind} {i : Nat} {ti te : TI} {el : Nat} (hx : A.op fr x = .sl E xs) (hy : A.op fr y = .int k i) (hT : T.tab[ty']? = some ti) (hk : ti.k = .slice el) (hE : T.tab[el]? = some te) (hs : te.size = E.size)
 (h1 : i < xs.length)
 (h : aV P fr ops rest (A.set d (.pp (E.tys (nth xs i)))) fun A' l' => K A' ((A, { d := some d, ty := .pp (E.tys (nth xs i)), rs := bq x ++ bq y }) :: l')) : aV P fr ops (⟨some d, .indexAddr ty' x y, t, p, e, none⟩ :: rest) A K :=
 nX hx hy hT hk hE hs (Int.natCast_nonneg _) h1 h
end
end Go.T
namespace Go.T
open Go Go.RowKit
theorem iD {P : Program} {fr : Fr} {ops : Array Oper} {o : Oper} {A : As} {f : Fx} (hg : o.guard = none) (hd : f.d = o.dst) (hsets : ∀ x ∈ f.sets, x.1 ∈ f.S ∨ x.1 ∈ f.K) (hS : ∀ t ∈ f.S, 1 ≤ t) (hK : ∀ t ∈ f.K, 1 ≤ t ∧ t ∉ fr.pass)
 (h : ∀ (a : Act) w M, Wf w M → (∀ c ∈ f.rs, c < fr.n → (A.slots c).den w M (a.tmps.getD c undef)) → (∀ x ∈ A.tags, x.1 ∈ f.rt → x.2.den w M x.1) → ∃ v w', (execOp a.eval o).run P w = .ok (.value v) w' ∧ f.left w M w' v) : CM P fr ops o A f := by
 refine ⟨hd, hsets, hS, hK, fun a w M wf _ hr ht => ?_⟩
 rw [if_pos (by simp [Region.wanted, hg])]
 obtain ⟨v, w', hv, hl⟩ := h a w M wf hr ht
 refine rZ hv ?_
 exact ⟨v, rfl, hl⟩
theorem ld {P : Program} {fr : Fr} {ops : Array Oper} {o : Oper} {A : As} {f : Fx} (hg : o.guard = none) (hd : f.d = o.dst) (hty : f.ty = Ty.any) (hsets : ∀ x ∈ f.sets, x.1 ∈ f.S ∨ x.1 ∈ f.K) (hS : ∀ t ∈ f.S, 1 ≤ t) (hK : ∀ t ∈ f.K, 1 ≤ t ∧ t ∉ fr.pass)
 (h : ∀ (a : Act) w M, Wf w M → (∀ c ∈ f.rs, c < fr.n → (A.slots c).den w M (a.tmps.getD c undef)) → (∀ x ∈ A.tags, x.1 ∈ f.rt → x.2.den w M x.1) → ∃ w', (execOp a.eval o).run P w = .ok .skip w' ∧ f.left w M w' undef) : CM P fr ops o A f := by
 refine ⟨hd, hsets, hS, hK, fun a w M wf _ hr ht => ?_⟩
 rw [if_pos (by simp [Region.wanted, hg])]
 obtain ⟨w', hv, hl⟩ := h a w M wf hr ht
 refine BD hv ?_
 exact ⟨undef, rfl, hl⟩
def nh (M : ay) (t : Nat) (g : Option Nat) : ay := fun b => if g = some b then some t else if M b = some t then none else M b
theorem zf {w w' : World} {M : ay} {t : Nat} {g : Option Nat} (wf : Wf w M) (hs : w.heap.size ≤ w'.heap.size) (hg : ∀ b, g = some b → b < w'.heap.size) : Wf w' (nh M t g) := by
 refine ⟨fun b u h => ?_, fun b b' u ht1 h h' => ?_⟩
 ·unfold nh at h
  split at h
  ·exact hg b (by assumption)
  split at h
  ·cases h
  exact Nat.lt_of_lt_of_le (wf.lt b u h) hs
 have key : ∀ c, nh M t g c = some (u + 1) → (g = some c ∧ t = u + 1) ∨ (M c = some (u + 1) ∧ t ≠ u + 1) := by
  intro c hc
  unfold nh at hc
  by_cases e : g = some c
  ·rw [if_pos e] at hc; injection hc with hc; exact .inl ⟨e, hc⟩
  rw [if_neg e] at hc
  by_cases e' : M c = some t
  ·rw [if_pos e'] at hc; cases hc
  rw [if_neg e'] at hc; exact .inr ⟨hc, fun ht => e' (by rw [ht]; exact hc)⟩
 rcases key b h with ⟨h1, h2⟩ | ⟨h1, h2⟩ <;> rcases key b' h' with ⟨h3, h4⟩ | ⟨h3, h4⟩
 ·rw [h1] at h3; injection h3
 ·exact absurd h2 h4
 ·exact absurd h4 h2
 exact wf.inj b b' u ht1 h1 h3
theorem zX {w w' : World} {M : ay} {t : Nat} {g : Option Nat} (hsz : w.heap.size ≤ w'.heap.size) (hos : w'.os = w.os) (htp : w'.tape = w.tape) (hout : w'.output = w.output)
 (hg : ∀ b, g = some b → b < w.heap.size → M b = some t) (hk : ∀ b, b < w.heap.size → M b ≠ some t → w'.heap[b]? = w.heap[b]?) (wf : Wf w M) : Le (· ∈ ([] : List Nat)) (· ∈ [t]) w M w' (nh M t g) := by
 refine ⟨hsz, hos, htp, hout, fun b hb hm => ⟨?_, hk b hb (by rw [hm]; simp)⟩, fun b u hm hu => ⟨?_, fun _ => hk b (wf.lt b u hm) (by rw [hm]; intro e; injection e with e; exact hu (by simp [e]))⟩⟩
 ·unfold nh
  split
  ·rename_i e; rw [hg b e hb] at hm; cases hm
  rw [if_neg (by rw [hm]; simp)]; exact hm
 have hne : M b ≠ some t := by rw [hm]; intro e; injection e with e; exact hu (by simp [e])
 unfold nh
 split
 ·rename_i e; exact absurd (hg b e (wf.lt b u hm)) hne
 first | exact hm | (rw [if_neg hne]; exact hm)
theorem nP {w : World} {M : ay} (wf : Wf w M) (o : Obj) (t : Nat) : Wf (w.alloc o) (nh M t (some w.heap.size)) ∧ Le (· ∈ ([] : List Nat)) (· ∈ [t]) w M (w.alloc o) (nh M t (some w.heap.size)) ∧ nh M t (some w.heap.size) w.heap.size = some t :=
 ⟨zf wf (by simp) (fun b e => by injection e with e; simp [← e]), zX (by simp) rfl rfl rfl (fun b e hb => by injection e with e; omega) (fun b hb _ => Below.heap_alloc w o b hb) wf, by simp [nh]⟩
theorem wk {w : World} {M : ay} (wf : Wf w M) (o : Obj) : Wf (w.alloc o) M ∧ Le (· ∈ ([] : List Nat)) (· ∈ ([] : List Nat)) w M (w.alloc o) M ∧ M w.heap.size = none :=
  ⟨⟨fun b t h => by have := wf.lt b t h; simp; omega, wf.inj⟩, ⟨by simp, rfl, rfl, rfl, fun b hb h => ⟨h, Below.heap_alloc w o b hb⟩, fun b t h _ => ⟨h, fun _ => Below.heap_alloc w o b (wf.lt b t h)⟩⟩, by
    cases h : M w.heap.size with
    | none => rfl
    | some t => have := wf.lt _ t h; omega⟩
theorem gu (w : World) (o : Obj) : (w.alloc o).heap[w.heap.size]? = some o := by
 show (w.heap.push o)[w.heap.size]? = some o
 simp
theorem zR {w : World} {M : ay} (wf : Wf w M) {cs : List Value} {T : TypeId} {l : List Ty} (h : cD w M l cs) : oX (w.alloc (.cells cs.toArray T)) M w.heap.size 0 l := by
 obtain ⟨wf', le, hn⟩ := wk wf (.cells cs.toArray T)
 refine ⟨hn, by simp, fun i t hi => ?_⟩
 obtain ⟨v, hv, hd⟩ := dQ h i t hi
 exact ⟨v, by simp [hv], t.mono le (by intro _ _ h; cases h) (by intro _ _ h; cases h) hd⟩
theorem oC (w : World) (M : ay) : ∀ l : List Value, cD w M (l.map Ty.oI) l
  | [] => trivial
  | v :: l => ⟨pg w M v, oC w M l⟩
section
variable {P : Program} {fr : Fr} {ops : Array Oper} {A : As} {rest : List Oper} {K : As → List (As × Fx) → Prop} {d : Nat} {t ty' : TypeId} {p : String} {e : Array Edge} [T : lQ P]
theorem o7 {t : Nat} {x : TI} (h : T.tab[t]? = some x) (hz : x.zero ≠ []) (w : World) : ∃ z : Value, (zeroValue t).run P w = .ok z w ∧ z.cells.toList = x.zero := by
  obtain ⟨i, _, hi, _, _, _, _, hze⟩ := dM h
  cases hiz : i.zero with
  | none => rw [hiz] at hze; exact absurd hze.symm hz
  | some z => rw [hiz] at hze; exact ⟨z, by simp [zeroValue, typeInfo, hi, hiz], hze⟩
theorem dA {ti : TI} (hT : T.tab[ty']? = some ti) (hz : ti.zero ≠ []) (hp : fr.pass.contains (d + 1) = false)
 (h : aV P fr ops rest (A.after { d := some d, ty := .ptr (d + 1) 0, K := [d + 1], sets := [(d + 1, .cells ty' (ti.zero.map Ty.oI))] }) fun A' l' => K A' ((A, { d := some d, ty := .ptr (d + 1) 0, K := [d + 1], sets := [(d + 1, .cells ty' (ti.zero.map Ty.oI))] }) :: l')) :
 aV P fr ops (⟨some d, .alloc ty', t, p, e, none⟩ :: rest) A K := by
 refine ⟨_, iD rfl rfl (by simp) (by simp) (by simp at hp ⊢; exact hp) fun a w M wf _ _ => ?_, h⟩
 obtain ⟨z, hz1, hz2⟩ := o7 hT hz w
 obtain ⟨h1, h2, h3⟩ := nP wf (.cells z.cells ty') (d + 1)
 refine ⟨.pointer (some ⟨w.heap.size, 0, none⟩), w.alloc (.cells z.cells ty'), ?_, _, h1, h2, ⟨_, h3, rfl⟩, ?_⟩
 ·simp [execOp, Instr.alloc, newVar, newRow, newObj, Sem.run, hz1]
 intro x hx
 simp only [List.mem_singleton] at hx
 subst hx
 exact ⟨w.heap.size, z.cells, h3, gu _ _, by rw [hz2]; exact oC _ _ _⟩
theorem jW {w : World} {M : ay} {tg b : Nat} {cs' : Array Value} {Tb : TypeId} (wf : Wf w M) (hb : M b = some tg) (w' : World) (hw : w' = { w with heap := w.heap.setIfInBounds b (.cells cs' Tb (0, 0)) }) :
 Wf w' M ∧ Le (· ∈ [tg]) (· ∈ ([] : List Nat)) w M w' M ∧ w'.heap[b]? = some (.cells cs' Tb (0, 0)) := by
 have hlt := wf.lt b tg hb
 subst hw
 refine ⟨⟨fun b' t h => by simpa using wf.lt b' t h, wf.inj⟩, ⟨by simp, rfl, rfl, rfl, fun b' hb' hm => ⟨hm, ?_⟩, fun b' t hm _ => ⟨hm, fun hs => ?_⟩⟩, by simp [hlt]⟩
 ·have : b ≠ b' := fun e => by rw [← e, hb] at hm; cases hm
  simp [Array.getElem?_setIfInBounds_ne this]
 have : b ≠ b' := fun e => hs (by rw [← e, hb] at hm; injection hm with hm; simp [hm])
 simp [Array.getElem?_setIfInBounds_ne this]
theorem ff {w : World} {b off : Nat} {cs : Array Value} {Tb : TypeId} (h : w.heap[b]? = some (.cells cs Tb (0, 0))) (v : Value) : w.setCell ⟨b, off, none⟩ v = { w with heap := w.heap.setIfInBounds b (.cells (cs.setIfInBounds off v) Tb (0, 0)) } := by
 unfold World.setCell
 congr 1
 apply Array.ext_getElem?
 intro i
 rw [Array.getElem?_modify]
 by_cases e : b = i
 ·subst e
  obtain ⟨hlt, hv⟩ := Array.getElem?_eq_some_iff.1 h
  simp [hv, hlt]
 simp [e, Array.getElem?_setIfInBounds_ne e]
theorem pL {w : World} {M : ay} {l : List Ty} {vs : List Value} {i : Nat} {ty : Ty} {v : Value} (h : cD w M l vs) (hv : ty.den w M v) : cD w M (l.set i ty) (vs.set i v) := by
 have hl := cI h
 refine g8 (by simp [hl]) fun j t hj => ?_
 rw [List.getElem?_set] at hj
 split at hj
 ·rename_i e
  subst e
  split at hj
  ·injection hj with hj
   subst hj
   exact ⟨v, by rw [List.getElem?_set]; simp; omega, hv⟩
  cases hj
 rename_i e
 obtain ⟨u, hu, hd⟩ := dQ h j t hj
 exact ⟨u, by rw [List.getElem?_set]; simp [e, hu], hd⟩
theorem dh {x y : Operand} {tg off Tb : Nat} {l : List Ty} {ti : TI} {ty : Ty} (hx : A.op fr x = .ptr tg off) (hc : A.tag tg = some (.cells Tb l)) (h1 : ga tg) (hT : T.tab[ty']? = some ti) (hsz : ti.size = 1) (hy : A.op fr y = ty) (ho : ty.one = true) (hoff : off < l.length)
 (hdl : nk (bU l) [tg] = true) (hdt : nk ty.cdeps [tg] = true) {l' : List Ty} (hl : l.set off ty = l')
 (h : aV P fr ops rest (A.after { d := none, S := [tg], sets := [(tg, .cells Tb l')], rs := bq x ++ bq y, rt := [tg] }) fun A' l'' => K A' ((A, { d := none, S := [tg], sets := [(tg, .cells Tb l')], rs := bq x ++ bq y, rt := [tg] }) :: l'')) :
 aV P fr ops (⟨none, .store ty' x y, t, p, e, none⟩ :: rest) A K := by
 subst hl
 refine ⟨_, ld rfl rfl rfl (by simp) (by simpa using h1.1) (by simp) fun a w M wf hr ht => ?_, h⟩
 obtain ⟨hdx, hdy⟩ := op2 hr
 rw [hx] at hdx; rw [hy] at hdy
 obtain ⟨b, hb, ex⟩ := hdx
 obtain ⟨b', cs, hb', hh, hd⟩ := ht _ (dD hc) (by simp)
 obtain ⟨u, rfl⟩ : ∃ u, tg = u + 1 := ⟨tg - 1, by omega⟩
 have := wf.inj b b' u (by omega) hb hb'
 subst this
 have hone := ty.isOne ho hdy
 have hlen := cI hd
 have hcells : (a.eval y).cells = #[a.eval y] := by
  cases hv : a.eval y <;> first | rfl | (rw [hv] at hone; simp [Value.oneCell'] at hone)
 have hcell : w.cell? ⟨b, off, none⟩ = some (cs[off]'(by simp at hlen; omega)) := by simp [World.cell?, hh]
 have hfz : w.frozen? ⟨b, off, none⟩ = false := by simp [World.frozen?, hh]
 obtain ⟨h1', h2', h3'⟩ := jW wf hb _ (ff hh (off := off) (a.eval y))
 refine ⟨w.setCell ⟨b, off, none⟩ (a.eval y), ?_, M, h1', h2', trivial, ?_⟩
 ·have hst := run_store P w ⟨b, off, none⟩ (a.eval y) .plain hone
  rw [hcell] at hst
  simp only [hfz] at hst
  simp [execOp, Instr.storeAt, Instr.sureAddr, ex, storeVar, hcells, cJ hT, hsz, storeCells, hst, Addr.add]
 intro z hz
 simp only [List.mem_singleton] at hz
 subst hz
 refine ⟨b, _, hb, h3', ?_⟩
 rw [Array.toList_setIfInBounds]
 refine pL (bY h2' (by intro _ _ h; cases h) (gm hdl) hd) (ty.mono h2' (by intro _ _ h; cases h) (gm hdt) hdy)
theorem jj {w : World} {b : Nat} {Tb : TypeId} : ∀ (vs pre : List Value) (cs : Array Value), w.heap[b]? = some (.cells cs Tb (0, 0)) → cs.size = pre.length + vs.length → cs.toList.take pre.length = pre → (∀ v ∈ vs, v.oneCell' = true) →
    (storeCells ⟨b, 0, none⟩ vs pre.length).run P w = .ok () { w with heap := w.heap.setIfInBounds b (.cells (pre ++ vs).toArray Tb (0, 0)) }
  | [], pre, cs, hh, hs, hp, _ => by
    have _ := T
    have e : (pre ++ []).toArray = cs := by
      apply Array.ext'
      simp only [List.append_nil]
      rw [← hp, List.take_of_length_le]
      simp at hs ⊢; omega
    rw [e]
    have hw : ({ w with heap := w.heap.setIfInBounds b (.cells cs Tb (0, 0)) } : World) = w := by
      obtain ⟨hlt, hv⟩ := Array.getElem?_eq_some_iff.1 hh
      have : w.heap.setIfInBounds b (.cells cs Tb (0, 0)) = w.heap := by
        apply Array.ext_getElem?
        intro i
        by_cases e : b = i
        · subst e; simp [hlt, hv]
        · simp [Array.getElem?_setIfInBounds_ne e]
      rw [this]
    rw [hw]
    simp [storeCells]
  | v :: vs, pre, cs, hh, hs, hp, h1 => by
    have hlt : pre.length < cs.size := by rw [hs]; simp
    have hb : b < w.heap.size := (Array.getElem?_eq_some_iff.1 hh).1
    have hcell : w.cell? ⟨b, 0 + pre.length, none⟩ = some cs[pre.length] := by simp [World.cell?, hh]
    have hfz : w.frozen? ⟨b, 0 + pre.length, none⟩ = false := by simp [World.frozen?, hh]
    have hst := run_store P w ⟨b, 0 + pre.length, none⟩ v .plain (h1 v List.mem_cons_self)
    rw [hcell] at hst
    simp only [hfz] at hst
    have hadd : Addr.add ⟨b, 0, none⟩ pre.length = ⟨b, 0 + pre.length, none⟩ := Addr.add_lit _ _ _
    simp only [storeCells, hadd, Sem.run_bind, hst, if_false, Bool.false_eq_true, Result.andThen_ok]
    rw [ff hh]
    have ih := jj (w := { w with heap := w.heap.setIfInBounds b (.cells (cs.setIfInBounds (0 + pre.length) v) Tb (0, 0)) }) (b := b) (Tb := Tb) vs (pre ++ [v]) (cs.setIfInBounds (0 + pre.length) v)
      (by simp [hb]) (by simp at hs ⊢; omega) (by
        rw [Array.toList_setIfInBounds, List.length_append, List.length_singleton, Nat.zero_add]
        rw [List.take_succ_eq_append_getElem (by simpa using hlt)]
        simp [List.take_set_of_le, hp]) (fun u hu => h1 u (List.mem_cons_of_mem _ hu))
    rw [List.length_append, List.length_singleton] at ih
    rw [ih]
    simp
theorem eH {x y : Operand} {tg Tb : Nat} {l l' : List Ty} {ti : TI} (hx : A.op fr x = .ptr tg 0) (hc : A.tag tg = some (.cells Tb l)) (h1 : ga tg) (hT : T.tab[ty']? = some ti) (hy : A.op fr y = .agg l') (hsz : ti.size = l'.length) (hlen : l.length = l'.length) (ho : l'.all Ty.one = true) (hdt : nk (bU l') [tg] = true)
 (h : aV P fr ops rest (A.after { d := none, S := [tg], sets := [(tg, .cells Tb l')], rs := bq x ++ bq y, rt := [tg] }) fun A' l'' => K A' ((A, { d := none, S := [tg], sets := [(tg, .cells Tb l')], rs := bq x ++ bq y, rt := [tg] }) :: l'')) :
 aV P fr ops (⟨none, .store ty' x y, t, p, e, none⟩ :: rest) A K := by
 refine ⟨_, ld rfl rfl rfl (by simp) (by simpa using h1.1) (by simp) fun a w M wf hr ht => ?_, h⟩
 obtain ⟨hdx, hdy⟩ := op2 hr
 rw [hx] at hdx; rw [hy] at hdy
 obtain ⟨b, hb, ex⟩ := hdx
 obtain ⟨vs, ey, hvs⟩ := hdy
 obtain ⟨b', cs, hb', hh, hd⟩ := ht _ (dD hc) (by simp)
 obtain ⟨u, rfl⟩ : ∃ u, tg = u + 1 := ⟨tg - 1, by omega⟩
 have := wf.inj b b' u (by omega) hb hb'
 subst this
 have hl1 := cI hd
 have hl2 := cI hvs
 obtain ⟨h1', h2', h3'⟩ := jW (cs' := vs) (Tb := Tb) wf hb _ rfl
 have hones : ∀ v ∈ vs.toList, v.oneCell' = true := fun v hv => by
  obtain ⟨i, hi, hvi⟩ := List.getElem_of_mem hv
  have hlt : i < l'.length := by omega
  obtain ⟨u', hu', hdu⟩ := dQ hvs i l'[i] (List.getElem?_eq_getElem hlt)
  rw [List.getElem?_eq_getElem hi, hvi] at hu'
  injection hu' with hu'
  subst hu'
  exact (l'[i]).isOne (List.all_eq_true.1 ho _ (List.getElem_mem hlt)) hdu
 refine ⟨_, ?_, M, h1', h2', trivial, ?_⟩
 ·have hst := jj (P := P) (w := w) (b := b) (Tb := Tb) vs.toList [] cs hh (by simp at hl1 hl2 ⊢; omega) (by simp) hones
  have hsz' : vs.size = ti.size := by simp at hl2; omega
  simp only [List.length_nil, List.nil_append] at hst
  simp [execOp, Instr.storeAt, Instr.sureAddr, ex, ey, storeVar, Value.cells, cJ hT, hsz', hst]
 intro z hz
 simp only [List.mem_singleton] at hz
 subst hz
 exact ⟨b, vs, hb, h3', bY h2' (by intro _ _ h; cases h) (gm hdt) hvs⟩
end
section
variable {P : Program} {fr : Fr} {ops : Array Oper} {A : As} {rest : List Oper} {K : As → List (As × Fx) → Prop} {d : Nat} {t ty' : TypeId} {p : String} {e : Array Edge}
theorem bD {x : Operand} {l : List Ty} (hx : A.op fr x = .agg l)
 (h : aV P fr ops rest (A.set d (.pp l)) fun A' l' => K A' ((A, { d := some d, ty := .pp l, rs := bq x }) :: l')) : aV P fr ops (⟨some d, .box ty' x, t, p, e, none⟩ :: rest) A K := by
 refine ⟨_, iD (f := { d := some d, ty := .pp l, rs := bq x }) rfl rfl (by simp) (by simp) (by simp) fun a w M wf hr _ => ?_, h⟩
 have hd := cA (x := x) (fun _ h => h) hr
 rw [hx] at hd
 obtain ⟨cs, ex, hds⟩ := hd
 obtain ⟨h1, h2, _⟩ := wk wf (.cells cs ty')
 refine ⟨.pointer (some ⟨w.heap.size, 0, none⟩), w.alloc (.cells cs ty'), ?_, M, h1, h2, ⟨_, 0, rfl, ?_⟩, by simp⟩
 ·simp [execOp, Instr.box, newVar, newRow, newObj, Sem.run, ex, Value.cells]
 exact zR (T := ty') wf hds
theorem eY {x : Operand} {ty : Ty} (hx : A.op fr x = ty) (h1 : ty.one = true)
 (h : aV P fr ops rest (A.set d (.pp [ty])) fun A' l' => K A' ((A, { d := some d, ty := .pp [ty], rs := bq x }) :: l')) : aV P fr ops (⟨some d, .box ty' x, t, p, e, none⟩ :: rest) A K := by
 refine ⟨_, iD (f := { d := some d, ty := .pp [ty], rs := bq x }) rfl rfl (by simp) (by simp) (by simp) fun a w M wf hr _ => ?_, h⟩
 have hd := cA (x := x) (fun _ h => h) hr
 rw [hx] at hd
 have hone := ty.isOne h1 hd
 have hcells : (a.eval x).cells = #[a.eval x] := by
  cases hv : a.eval x <;> first | rfl | (rw [hv] at hone; simp [Value.oneCell'] at hone)
 obtain ⟨h1, h2, _⟩ := wk wf (.cells #[a.eval x] ty')
 refine ⟨.pointer (some ⟨w.heap.size, 0, none⟩), w.alloc (.cells #[a.eval x] ty'), ?_, M, h1, h2, ⟨_, 0, rfl, ?_⟩, by simp⟩
 ·simp [execOp, Instr.box, newVar, newRow, newObj, Sem.run, hcells]
 exact zR (T := ty') (cs := [a.eval x]) wf ⟨hd, trivial⟩
theorem Kx {x : Operand} {l : List Ty} (hx : A.op fr x = .agg l) (hp : fr.pass.contains (d + 1) = false) (hdp : nk (bp l) [d + 1] = true) 
 (h : aV P fr ops rest (A.after { d := some d, ty := .ptr (d + 1) 0, K := [d + 1], sets := [(d + 1, .cells ty' l)], rs := bq x }) fun A' l' => K A' ((A, { d := some d, ty := .ptr (d + 1) 0, K := [d + 1], sets := [(d + 1, .cells ty' l)], rs := bq x }) :: l')) :
 aV P fr ops (⟨some d, .box ty' x, t, p, e, none⟩ :: rest) A K := by
 refine ⟨_, iD rfl rfl (by simp) (by simp) (by simp at hp ⊢; exact hp) fun a w M wf hr _ => ?_, h⟩
 have hd := cA (x := x) (fun _ h => h) hr
 rw [hx] at hd
 obtain ⟨cs, ex, hds⟩ := hd
 obtain ⟨h1, h2, h3⟩ := nP wf (.cells cs ty') (d + 1)
 refine ⟨.pointer (some ⟨w.heap.size, 0, none⟩), w.alloc (.cells cs ty'), ?_, _, h1, h2, ⟨_, h3, rfl⟩, ?_⟩
 ·simp [execOp, Instr.box, newVar, newRow, newObj, Sem.run, ex, Value.cells]
 intro x hx
 simp only [List.mem_singleton] at hx
 subst hx
 exact ⟨w.heap.size, cs, h3, gu _ _, bY h2 (gm hdp) (by intro _ _ h; cases h) hds⟩
theorem cw {f : FuncId} {xs : List Operand} {l : List Ty} (hx : oS A fr xs = l)
 (h : aV P fr ops rest (A.set d (.j9 f l)) fun A' l' => K A' ((A, { d := some d, ty := .j9 f l, rs := xs.flatMap bq }) :: l')) : aV P fr ops (⟨some d, .makeFunc (.func f) #[] xs.toArray, t, p, e, none⟩ :: rest) A K :=
 bC (bP rfl rfl fun a w M _ hr _ => by
  have hv : cD w M l (xs.map a.eval) := hx ▸ fk hr fun x hx c hc => List.mem_flatMap.2 ⟨x, hx, hc⟩
  exact ⟨.func (.func f) #[] (xs.map a.eval).toArray, by simp [execOp, Instr.makeFunc], _, rfl, by simpa using hv⟩) h
end
end Go.T
namespace Go.T
open Go Go.RowKit
def dZ {α : Type} (E : El α) (T tg : Nat) (xs : List α) (w : World) (M : ay) (v : Value) : Prop :=
  ∃ cs, w.ownsRow 0 T E.size v xs.length cs ∧ cD w M (xs.flatMap E.tys) cs ∧ ∀ g, v.ownBlock = some g → M g = some tg
theorem EA {w w' : World} {T size n : Nat} {v : Value} {cs : List Value} (h : w.ownsRow 0 T size v n cs) (hk : ∀ g, v.ownBlock = some g → w'.heap[g]? = w.heap[g]?) : w'.ownsRow 0 T size v n cs := by
 refine ⟨h.1, ?_⟩
 rcases h.2 with h | ⟨g, cap, cur, hv, h0, hh, rest⟩
 ·exact .inl h
 exact .inr ⟨g, cap, cur, hv, h0, (hk g (by rw [hv]; rfl)).trans hh, rest⟩
def Ty.row {α : Type} (E : El α) (T tg : Nat) (xs : List α) : Ty :=
  ⟨dZ E T tg xs, [tg], [tg], fun le hk hs ⟨cs, h1, h2, h3⟩ =>
    ⟨cs, EA h1 fun g hg => (le.own g tg (h3 g hg) (hk tg (by simp))).2 (hs tg (by simp)),
     bY le (by rw [E.cT]; intro _ h; cases h) (by rw [E.cL]; intro _ h; cases h) h2,
     fun g hg => (le.own g tg (h3 g hg) (hk tg (by simp))).1⟩, true, fun _ ⟨cs, h1, _⟩ => by
      rcases h1.2 with ⟨rfl, _⟩ | ⟨_, _, _, rfl, _⟩ <;> rfl⟩
theorem Ty.lX {α : Type} {E : El α} {T tg : Nat} : (Ty.ex (.slice none 0 0)).Sub (Ty.row E T tg []) := by
 intro w M v h
 have h : v = .slice none 0 0 := h
 subst h
 exact ⟨[], ⟨by simp, .inl ⟨rfl, rfl⟩⟩, trivial, fun g hg => by simp [Value.ownBlock] at hg⟩
theorem Ty.ej {α : Type} {E : El α} {T tg : Nat} {xs ys : List α} (h : xs = ys) : (Ty.row E T tg xs).Sub (Ty.row E T tg ys) := h ▸ Ty.aG _
theorem Ty.E3 {α : Type} {E : El α} : (Ty.ex (.slice none 0 0)).Sub (Ty.sl E []) := by
 intro w M v h
 have h : v = .slice none 0 0 := h
 subst h
 exact ⟨none, 0, rfl, Nat.le_refl _, by simp [maxLen], fun h => absurd h (by simp)⟩
theorem pR {w : World} {M : ay} {l l' : List Ty} {vs vs' : List Value} (h : cD w M l vs) (h' : cD w M l' vs') : cD w M (l ++ l') (vs ++ vs') := iB h h'
theorem c7 {α : Type} (E : El α) : ∀ xs : List α, (xs.flatMap E.tys).length = xs.length * E.size
  | [] => by simp
  | x :: xs => by rw [List.flatMap_cons, List.length_append, E.len, c7 E xs, List.length_cons, Nat.succ_mul, Nat.add_comm]
theorem kW {α : Type} (E : El α) (xs : List α) : ∀ t ∈ xs.flatMap E.tys, t.one = true := by
 intro t ht
 simp only [List.mem_flatMap] at ht
 obtain ⟨x, _, hx⟩ := ht
 exact List.all_eq_true.1 (E.ones x) t hx
theorem sX {w : World} {M : ay} {l : List Ty} {vs : List Value} (h : cD w M l vs) (ho : ∀ t ∈ l, t.one = true) : ∀ v ∈ vs, v.oneCell' = true := by
 intro v hv
 obtain ⟨i, hi, rfl⟩ := List.getElem_of_mem hv
 have hl := cI h
 have hlt : i < l.length := by omega
 obtain ⟨u, hu, hd⟩ := dQ h i l[i] (List.getElem?_eq_getElem hlt)
 rw [List.getElem?_eq_getElem hi] at hu
 injection hu with hu
 rw [hu]
 exact (l[i]).isOne (ho _ (List.getElem_mem hlt)) hd
section
variable {P : Program} {fr : Fr} {ops : Array Oper} {A : As} {rest : List Oper} {K : As → List (As × Fx) → Prop} {d : Nat} {t ty' : TypeId} {p : String} {e : Array Edge} [T : lQ P]
theorem Bl {α : Type} {E : El α} {w : World} {M : ay} {st el tg : Nat} {ty : TypeId} {ti te : TI} {xs ys : List α} {v y : Value} (wf : Wf w M) (hT : T.tab[st]? = some ti) (hk : ti.k = .slice el) (hE : T.tab[el]? = some te) (hs : te.size = E.size) (hz : te.zero.length = te.size) (h0 : 0 < te.size)
    (hx : dZ E el tg xs w M v) (hy : jR E ys w M y) (hlen : (xs.length + ys.length) * te.bytes ≤ 140737488355328) (hlen' : xs.length + ys.length ≤ 9223372036854775807) :
    ∃ v' w' M', (Builtin.append_ #[st, st] ty #[v, y]).run P w = .ok v' w' ∧ Wf w' M' ∧ Le (· ∈ ([] : List Nat)) (· ∈ [tg]) w M w' M' ∧ dZ E el tg (xs ++ ys) w' M' v' := by
  obtain ⟨_, D, _, hD, hkd, _⟩ := dM hT
  rw [hk] at hkd
  cases D <;> simp only [TK.of, reduceCtorEq, TK.slice.injEq] at hkd
  subst hkd
  rename_i el
  obtain ⟨i, _, hi, _, _, hsz, hby, hze⟩ := dM hE
  obtain ⟨z, hiz, hzc⟩ : ∃ z, i.zero = some z ∧ z.cells.size = i.size := by
    cases hiz : i.zero with
    | none => rw [hiz] at hze; rw [← hze] at hz; simp at hz; omega
    | some z => rw [hiz] at hze; exact ⟨z, rfl, by simp at hze; rw [hsz, ← hz, ← hze]; simp⟩
  obtain ⟨cs, hown, hd, hM⟩ := hx
  obtain ⟨ad, c, rfl, hc1, hc2, hp⟩ := hy
  have hfin : ∀ v' w' (news : List Value), w'.ownsRow 0 el i.size v' (xs.length + ys.length) (cs ++ news) → w.grownBy w' v.ownBlock → (v'.ownBlock = v.ownBlock ∨ v'.ownBlock = some w.heap.size) → cD w M (ys.flatMap E.tys) news →
      ∃ M', Wf w' M' ∧ Le (· ∈ ([] : List Nat)) (· ∈ [tg]) w M w' M' ∧ dZ E el tg (xs ++ ys) w' M' v' := by
    intro v' w' news h1 h2 h3 h4
    have hb : ∀ b, v'.ownBlock = some b → b < w'.heap.size := by
      intro b hb
      rcases h1.2 with ⟨rfl, _⟩ | ⟨g, cap, cur, rfl, _, hh, _⟩
      · simp [Value.ownBlock] at hb
      · simp [Value.ownBlock] at hb; subst hb; exact (Array.getElem?_eq_some_iff.1 hh).1
    have hle := zX (t := tg) (g := v'.ownBlock) h2.size h2.os h2.tape h2.output (fun b hb hlt => by
        rcases h3 with e | e
        · exact hM b (e ▸ hb)
        · rw [e] at hb; injection hb with hb; omega) (fun b hlt hne => h2.block b hlt (fun e => hne (hM b e.symm))) wf
    refine ⟨nh M tg v'.ownBlock, zf wf h2.size hb, hle, cs ++ news, by rw [List.length_append, ← hs, ← hsz]; exact h1, ?_, fun g hg => by simp [nh, hg]⟩
    rw [List.flatMap_append]
    exact pR (bY hle (by rw [E.cT]; intro _ h; cases h) (by rw [E.cL]; intro _ h; cases h) hd) (bY hle (by rw [E.cT]; intro _ h; cases h) (by rw [E.cL]; intro _ h; cases h) h4)
  have hown' : w.ownsRow 0 el i.size v xs.length cs := by rw [hsz, hs]; exact hown
  by_cases hys : ys = []
  · subst hys
    cases ad with
    | none =>
      have hrun : (Builtin.append_ #[st, st] ty #[v, .slice none 0 c]).run P w = .ok v w := by
        rcases hown.2 with ⟨rfl, _⟩ | ⟨g, cap, cur, rfl, _, _, hnc, _⟩
        · simp [Builtin.append_, run_underlying hD, sizeOf, typeInfo, hi, Builtin.lenOf, Builtin.firstCells]
        · simp [Builtin.append_, run_underlying hD, sizeOf, typeInfo, hi, Builtin.lenOf, Builtin.firstCells, hnc, storeCells]
      obtain ⟨M', h1, h2, h3⟩ := hfin v w [] (by simpa using hown') (World.grownBy.refl w _) (.inl rfl) trivial
      exact ⟨v, w, M', hrun, h1, h2, h3⟩
    | some a =>
      obtain ⟨v', w', hrun, h2, h3, _, h5⟩ := run_append_own_at (P := P) w 0 st ty el i z i.size i.bytes hD hi hiz rfl rfl hzc (by omega) v xs.length cs hown' a 0 c [] (by simp) (by simp) (by simp) (by simp only [maxLen]; simp at hlen'; omega) (by rw [hby]; simpa using hlen) (Nat.zero_le _)
      obtain ⟨M', h1', h2', h3'⟩ := hfin v' w' [] h2 h3 h5 trivial
      exact ⟨v', w', M', hrun, h1', h2', h3'⟩
  · have hpos : 0 < ys.length := List.length_pos_iff.2 hys
    obtain ⟨b, off, rfl, hp'⟩ := hp hpos
    obtain ⟨news, hn1, hn2, hn3⟩ := xG hp' _ (Nat.le_refl _)
    rw [List.take_length] at hn2
    obtain ⟨v', w', hrun, h2, h3, _, h5⟩ := run_append_own_at (P := P) w 0 st ty el i z i.size i.bytes hD hi hiz rfl rfl hzc (by omega) v xs.length cs hown' ⟨b, off, none⟩ ys.length c news (by rw [hn1, c7, hsz, hs])
      (fun j u hj => by rw [Addr.add_lit]; exact hn3 j u hj) (sX hn2 (kW E ys)) (by simp only [maxLen]; omega) (by rw [hby]; exact hlen) (Nat.zero_le _)
    obtain ⟨M', h1', h2', h3'⟩ := hfin v' w' news h2 h3 h5 hn2
    exact ⟨v', w', M', hrun, h1', h2', h3'⟩
theorem IZ {α : Type} {E : El α} {x y : Operand} {st el tg : Nat} {ti te : TI} {xs ys : List α} (hx : (A.op fr x).Sub (.row E el tg xs)) (hy : A.op fr y = .sl E ys) (h1 : 1 ≤ tg) (hp : fr.pass.contains tg = false) (hT : T.tab[st]? = some ti) (hk : ti.k = .slice el) (hE : T.tab[el]? = some te) (hs : te.size = E.size) (hz : te.zero.length = te.size) (h0 : 0 < te.size)
 (hlen : (xs.length + ys.length) * te.bytes ≤ 140737488355328) (hlen' : xs.length + ys.length ≤ 9223372036854775807) :
 CM P fr ops ⟨some d, .call ⟨.builtin .append, #[x, y], #[st, st]⟩, t, p, e, none⟩ A { d := some d, ty := .row E el tg (xs ++ ys), K := [tg], rs := bq x ++ bq y } := by
 refine iD rfl rfl (by simp) (by simp) (by simp at hp ⊢; exact ⟨h1, hp⟩) fun a w M wf hr _ => ?_
 obtain ⟨hdx, hdy⟩ := op2 hr
 rw [hy] at hdy
 obtain ⟨v', w', M', hrun, h1', h2', h3'⟩ := Bl (P := P) (ty := t) wf hT hk hE hs hz h0 (hx _ _ _ hdx) hdy hlen hlen'
 exact ⟨v', w', by simp [execOp, resolve, invoke, builtin, hrun], M', h1', h2', h3', by simp⟩
theorem fD {α : Type} {E : El α} {x y : Operand} {st el tg : Nat} {ti te : TI} {xs ys : List α} (hx : A.op fr x = .row E el tg xs) (hy : A.op fr y = .sl E ys) (h1 : 1 ≤ tg) (hp : fr.pass.contains tg = false) (hT : T.tab[st]? = some ti) (hk : ti.k = .slice el) (hE : T.tab[el]? = some te) (hs : te.size = E.size) (hz : te.zero.length = te.size) (h0 : 0 < te.size)
 (hlen : (xs.length + ys.length) * te.bytes ≤ 140737488355328) (hlen' : xs.length + ys.length ≤ 9223372036854775807)
 (h : aV P fr ops rest (A.after { d := some d, ty := .row E el tg (xs ++ ys), K := [tg], rs := bq x ++ bq y }) fun A' l' => K A' ((A, { d := some d, ty := .row E el tg (xs ++ ys), K := [tg], rs := bq x ++ bq y }) :: l')) :
 aV P fr ops (⟨some d, .call ⟨.builtin .append, #[x, y], #[st, st]⟩, t, p, e, none⟩ :: rest) A K :=
 ⟨_, IZ (hx ▸ Ty.aG _) hy h1 hp hT hk hE hs hz h0 hlen hlen', h⟩
theorem Qf {α : Type} {E : El α} {xs : List α} {w : World} {M : ay} {ad : Option Addr} {c lo hi : Nat} (hc : xs.length ≤ c) (hc2 : c ≤ maxLen) (hp : 0 < xs.length → ∃ b off, ad = some ⟨b, off, none⟩ ∧ oX w M b off (xs.flatMap E.tys)) (h1 : lo ≤ hi) (h2 : hi ≤ xs.length) :
 jR E ((xs.take hi).drop lo) w M (.slice (if c = lo then ad else ad.map (·.add (lo * E.size))) (hi - lo) (c - lo)) := by
 have hl : ((xs.take hi).drop lo).length = hi - lo := by rw [List.length_drop, List.length_take, Nat.min_eq_left h2]
 refine ⟨_, c - lo, by rw [hl], by rw [hl]; omega, Nat.le_trans (Nat.sub_le _ _) hc2, fun hpos => ?_⟩
 have hlt : lo < hi := by rw [hl] at hpos; omega
 obtain ⟨b, off, rfl, hp'⟩ := hp (by omega)
 refine ⟨b, off + lo * E.size, by rw [if_neg (by omega)]; exact congrArg some (Addr.add_lit _ _ _), ?_⟩
 have h3 := Bg ((hi - lo) * E.size) (zy (lo * E.size) hp')
 have e : ((xs.take hi).drop lo).flatMap E.tys = ((xs.flatMap E.tys).drop (lo * E.size)).take ((hi - lo) * E.size) := by
  have e1 : xs.flatMap E.tys = (xs.take lo).flatMap E.tys ++ (((xs.take hi).drop lo).flatMap E.tys ++ (xs.drop hi).flatMap E.tys) := by
   rw [← List.flatMap_append, ← List.flatMap_append]
   congr 1
   have : xs.take lo = (xs.take hi).take lo := by rw [List.take_take, Nat.min_eq_left h1]
   rw [this, ← List.append_assoc, List.take_append_drop, List.take_append_drop]
  have L1 : ((xs.take lo).flatMap E.tys).length = lo * E.size := by rw [c7, List.length_take, Nat.min_eq_left (by omega)]
  have L2 : (((xs.take hi).drop lo).flatMap E.tys).length = (hi - lo) * E.size := by rw [c7, hl]
  rw [e1, List.drop_left' L1, List.take_left' L2]
 rw [e]; exact h3
end
end Go.T
namespace Go.T
open Go Go.RowKit
def fT {α : Type} (E : El α) (xs : List α) (w : World) (M : ay) (v : Value) : Prop := ∃ cs : Array Value, v = .agg cs ∧ cD w M (xs.flatMap E.tys) cs.toList
def Ty.arr {α : Type} (E : El α) (xs : List α) : Ty :=
  { den := fT E xs, mono := fun le _ _ ⟨cs, e, h⟩ => ⟨cs, e, bY le (by rw [E.cT]; intro _ h; cases h) (by rw [E.cL]; intro _ h; cases h) h⟩ }
section
variable {P : Program} {fr : Fr} {ops : Array Oper} {A : As} {rest : List Oper} {K : As → List (As × Fx) → Prop} {d : Nat} {t ty' : TypeId} {p : String} {e : Array Edge} [T : lQ P]
theorem RB {α : Type} {E : El α} {w : World} {M : ay} {st el : Nat} {ti te : TI} {xs : List α} {v : Value} (hT : T.tab[st]? = some ti) (hk : ti.k = .slice el) (hE : T.tab[el]? = some te) (hs : te.size = E.size) (hx : jR E xs w M v)
 {lo hi : Nat} {ol oh : Option Value} (hlo : (ol = none ∧ lo = 0) ∨ ∃ k : IntKind, ol = some (.int k lo)) (hhi : (oh = none ∧ hi = xs.length) ∨ ∃ k : IntKind, oh = some (.int k hi)) (h1 : lo ≤ hi) (h2 : hi ≤ xs.length) :
 ∃ v', (Instr.sliceAt st v ol oh none).run P w = .ok v' w ∧ jR E ((xs.take hi).drop lo) w M v' := by
 obtain ⟨_, D, _, hD, hkd, _⟩ := dM hT
 rw [hk] at hkd
 cases D <;> simp only [TK.of, reduceCtorEq, TK.slice.injEq] at hkd
 subst hkd
 obtain ⟨ad, c, rfl, hc, hc2, hp⟩ := hx
 have hsz := fun w => cJ (P := P) hE w
 refine ⟨_, ?_, Qf hc hc2 hp h1 h2⟩
 have hic : hi ≤ c := by omega
 rcases hlo with ⟨rfl, rfl⟩ | ⟨k, rfl⟩ <;> rcases hhi with ⟨rfl, rfl⟩ | ⟨k', rfl⟩ <;>
  simp [Instr.sliceAt, Instr.slice, run_underlying hD, Instr.sliceBounds, Instr.sliceBound, asIntOf, hsz, hs, hic, h1]
theorem OZ {α : Type} {E : El α} {x y : Operand} {k : IntKind} {el : Nat} {ti te : TI} {xs : List α} {hi : Nat} (hx : A.op fr x = .sl E xs) (hy : A.op fr y = .int k hi) (hT : T.tab[ty']? = some ti) (hk : ti.k = .slice el) (hE : T.tab[el]? = some te) (hs : te.size = E.size) (h2 : hi ≤ xs.length)
 (h : aV P fr ops rest (A.set d (.sl E (xs.take hi))) fun A' l' => K A' ((A, { d := some d, ty := .sl E (xs.take hi), rs := bq x ++ bq y }) :: l')) : aV P fr ops (⟨some d, .slice ty' x none (some y) none, t, p, e, none⟩ :: rest) A K :=
 bC (bP rfl rfl fun a w M _ hr _ => by
  obtain ⟨hdx, hdy⟩ := op2 hr
  rw [hx] at hdx; rw [hy] at hdy
  have ey : a.eval y = .int k hi := hdy
  obtain ⟨v', h3, h4⟩ := RB (P := P) hT hk hE hs hdx (lo := 0) (hi := hi) (ol := none) (oh := some (.int k hi)) (.inl ⟨rfl, rfl⟩) (.inr ⟨k, rfl⟩) (Nat.zero_le _) h2
  exact ⟨v', by simp [execOp, ey, h3], (show jR E _ w M v' by simpa using h4)⟩) h
inductive aT (A : As) (fr : Fr) : List (Nat × Operand) → List (Nat × List Ty) → Prop
  | nil : aT A fr [] []
  | one {i : Nat} {x : Operand} {ty : Ty} {l : List (Nat × Operand)} {r : List (Nat × List Ty)} (hx : A.op fr x = ty) (h1 : ty.one = true) (h : aT A fr l r) : aT A fr ((i, x) :: l) ((i, [ty]) :: r)
  | sub {i : Nat} {x : Operand} {ta : Ty} {tys : List Ty} {l : List (Nat × Operand)} {r : List (Nat × List Ty)} (hx : A.op fr x = ta) (hs : ∀ w M v, ta.den w M v → (Ty.agg tys).den w M v) (h : aT A fr l r) : aT A fr ((i, x) :: l) ((i, tys) :: r)
theorem aT.agg {A : As} {fr : Fr} {i : Nat} {x : Operand} {tys : List Ty} {l : List (Nat × Operand)} {r : List (Nat × List Ty)} (hx : A.op fr x = .agg tys) (h : aT A fr l r) : aT A fr ((i, x) :: l) ((i, tys) :: r) := .sub hx (fun _ _ _ h => h) h
theorem aT.arr {A : As} {fr : Fr} {i : Nat} {x : Operand} {α : Type} {E : El α} {xs : List α} {l : List (Nat × Operand)} {r : List (Nat × List Ty)} (hx : A.op fr x = .arr E xs) (h : aT A fr l r) : aT A fr ((i, x) :: l) ((i, xs.flatMap E.tys) :: r) := .sub hx (fun _ _ _ h => h) h
def splice (cells : List Ty) (off : Nat) (l : List Ty) : List Ty := cells.take off ++ (l ++ cells.drop (off + l.length))
def sD (place : Nat → Option (Nat × Nat)) (cells : List Ty) : List (Nat × List Ty) → Option (List Ty)
  | [] => some cells
  | (i, l) :: rest =>
    match place i with
    | none => none
    | some (off, size) => bif (Nat.beq l.length size && Nat.ble (off + l.length) cells.length) then sD place (splice cells off l) rest else none
theorem Cq (cs : Array Value) (off : Nat) : ∀ (vs : List Value) (j : Nat), off + j + vs.length ≤ cs.size →
    ((vs.zipIdx j).foldl (fun cs (x : Value × Nat) => cs.setIfInBounds (off + x.2) x.1) cs).toList = cs.toList.take (off + j) ++ (vs ++ cs.toList.drop (off + j + vs.length)) := by
  intro vs
  induction vs generalizing cs with
  | nil => intro j _; simp
  | cons v vs ih =>
    intro j h
    simp only [List.zipIdx_cons, List.foldl_cons]
    rw [ih (cs.setIfInBounds (off + j) v) (j + 1) (by simp at h ⊢; omega)]
    have hlt : off + j < cs.toList.length := by simp at h ⊢; omega
    rw [Array.toList_setIfInBounds, ← Nat.add_assoc, List.take_succ_eq_append_getElem (by simpa using hlt), List.take_set_of_le (Nat.le_refl _), List.getElem_set_self, List.drop_set_of_lt (by omega)]
    simp [Nat.add_assoc, Nat.add_comm 1]
theorem yN {w : World} {M : ay} {cells l : List Ty} {cs : List Value} {vs : List Value} {off : Nat} (h : cD w M cells cs) (hv : cD w M l vs) : cD w M (splice cells off l) (cs.take off ++ (vs ++ cs.drop (off + vs.length))) := by
 rw [cI hv]
 exact iB (sj off h) (iB hv (sR _ h))
theorem x6 {a : Act} {w : World} {M : ay} {rs : List Nat} (hr : ∀ c ∈ rs, c < fr.n → (A.slots c).den w M (a.tmps.getD c undef)) {place : Nat → Option (Nat × Nat)} {parts : List (Nat × Operand)} {ls : List (Nat × List Ty)} (hp : aT A fr parts ls) :
    ∀ {cells out : List Ty} {cs : Array Value}, (∀ x ∈ parts, ∀ c ∈ bq x.2, c ∈ rs) → cD w M cells cs.toList → sD place cells ls = some out →
      ∃ cs', Instr.fill place cs (parts.map fun x => (x.1, a.eval x.2)) = some cs' ∧ cD w M out cs'.toList := by
  induction hp with
  | nil => intro cells out cs _ h hf; simp only [sD, Option.some.injEq] at hf; subst hf; exact ⟨cs, rfl, h⟩
  | @one i x ty l r hx h1 _ ih =>
    intro cells out cs hrs h hf
    have hd := cA (x := x) (hrs _ List.mem_cons_self) hr
    rw [hx] at hd
    have hone := ty.isOne h1 hd
    have hcells : (a.eval x).cells = #[a.eval x] := by
      cases hv : a.eval x <;> first | rfl | (rw [hv] at hone; simp [Value.oneCell'] at hone)
    simp only [sD] at hf
    cases hpl : place i with
    | none => rw [hpl] at hf; cases hf
    | some os =>
      obtain ⟨off, size⟩ := os
      rw [hpl] at hf
      simp only [List.length_cons, List.length_nil, cond_eq_ite, Bool.and_eq_true, Nat.beq_eq_true_eq, Nat.ble_eq] at hf
      split at hf
      · rename_i hc
        have hlen := cI h
        have hs := yN (off := off) h (show cD w M [ty] [a.eval x] from ⟨hd, trivial⟩)
        have hfold := Cq cs off [a.eval x] 0 (by simp at hlen ⊢; omega)
        obtain ⟨cs', h1', h2'⟩ := ih (cs := cs.setIfInBounds off (a.eval x)) (fun y hy => hrs y (List.mem_cons_of_mem _ hy)) (by rw [show (cs.setIfInBounds off (a.eval x)).toList = _ from hfold]; simpa using hs) hf
        refine ⟨cs', ?_, h2'⟩
        have hsz : 1 = size := by have := Nat.eq_of_beq_eq_true hc.1; simpa using this
        have hle : ¬ (off + 1 > cs.size) := by simp at hlen; omega
        simp only [List.map_cons, Instr.fill, hpl, hcells]
        simp [← hsz, hle, h1']
      · cases hf
  | @sub i x ta tys l r hx hsub _ ih =>
    intro cells out cs hrs h hf
    have hd := cA (x := x) (hrs _ List.mem_cons_self) hr
    rw [hx] at hd
    obtain ⟨vs, ev, hvs⟩ := hsub _ _ _ hd
    simp only [sD] at hf
    cases hpl : place i with
    | none => rw [hpl] at hf; cases hf
    | some os =>
      obtain ⟨off, size⟩ := os
      rw [hpl] at hf
      simp only [cond_eq_ite, Bool.and_eq_true, Nat.beq_eq_true_eq, Nat.ble_eq] at hf
      split at hf
      · rename_i hc
        have hlen := cI h
        have hlv := cI hvs
        have hs := yN (off := off) h hvs
        have hfold := Cq cs off vs.toList 0 (by simp at hlen hlv ⊢; omega)
        obtain ⟨cs', h1', h2'⟩ := ih (cs := (vs.toList.zipIdx.foldl (fun cs (x : Value × Nat) => cs.setIfInBounds (off + x.2) x.1) cs)) (fun y hy => hrs y (List.mem_cons_of_mem _ hy)) (by rw [hfold]; simpa using hs) hf
        refine ⟨cs', ?_, h2'⟩
        have hsz : vs.size = size := by have := Nat.eq_of_beq_eq_true hc.1; simp at hlv; omega
        have hle : ¬ (off + vs.size > cs.size) := by simp at hlen hlv; omega
        simp only [List.map_cons, Instr.fill, hpl, ev]
        have hv2 : (Value.agg vs).cells = vs := rfl
        simp only [hv2]
        have hfold' : Array.foldl (fun cs (x : Value × Nat) => cs.setIfInBounds (off + x.2) x.1) cs vs.zipIdx = vs.toList.zipIdx.foldl (fun cs (x : Value × Nat) => cs.setIfInBounds (off + x.2) x.1) cs := by
          rw [← Array.foldl_toList, Array.toList_zipIdx]
        rw [← h1', ← hfold']
        simp [hsz]
        omega
      · cases hf
end
end Go.T
namespace Go.T
open Go Go.RowKit
def placesOf (tab : List TI) (fs : List (Nat × Nat)) (i : Nat) : Option (Nat × Nat) :=
  match fs[i]? with
  | some (o, ft) => match tab[ft]? with
    | some tf => some (o, tf.size)
    | none => none
  | none => none
section
variable {P : Program} {fr : Fr} {ops : Array Oper} {A : As} {rest : List Oper} {K : As → List (As × Fx) → Prop} {d : Nat} {t ty' : TypeId} {p : String} {e : Array Edge} [T : lQ P]
def vh (f : Field) : Sem (Nat × Nat) := do pure (f.offset, ← sizeOf f.type)
theorem EC {f : Field} {tf : TI} (h : T.tab[f.type]? = some tf) (w : World) : (vh f).run P w = .ok (f.offset, tf.size) w := by simp [vh, cJ h]
theorem qo {w : World} : ∀ (fs : List Field), (∀ f ∈ fs, ∃ tf, T.tab[f.type]? = some tf) →
    ∃ r, (fs.mapM vh).run P w = .ok r w ∧ ∀ i : Nat, r[i]? = placesOf T.tab (fs.map fun f => (f.offset, f.type)) i
  | [], _ => ⟨[], by simp, fun i => by simp [placesOf]⟩
  | f :: fs, h => by
    obtain ⟨tf, htf⟩ := h f List.mem_cons_self
    obtain ⟨r, hr, hi⟩ := qo (w := w) fs fun g hg => h g (List.mem_cons_of_mem _ hg)
    refine ⟨(f.offset, tf.size) :: r, by simp [EC htf, hr], fun i => ?_⟩
    cases i with
    | zero => simp [placesOf, htf]
    | succ i => simpa [placesOf] using hi i
theorem eX {parts : Array (Nat × Operand)} {ti : TI} {fs : List (Nat × Nat)} {ls : List (Nat × List Ty)} {out : List Ty} (hT : T.tab[ty']? = some ti) (hk : ti.k = .struct fs) (hz : ti.zero ≠ []) (hfs : (fs.all fun f => (T.tab[f.2]?).isSome) = true) (hp : aT A fr parts.toList ls) (hf : sD (placesOf T.tab fs) (ti.zero.map Ty.oI) ls = some out)
 (h : aV P fr ops rest (A.set d (.agg out)) fun A' l' => K A' ((A, { d := some d, ty := .agg out, rs := parts.toList.flatMap fun x => bq x.2 }) :: l')) : aV P fr ops (⟨some d, .build ty' parts, t, p, e, none⟩ :: rest) A K :=
 bC (bP rfl rfl fun a w M _ hr _ => by
  obtain ⟨z, hz1, hz2⟩ := o7 hT hz w
  obtain ⟨i, D, _, hD, hkd, _⟩ := dM hT
  rw [hk] at hkd
  cases D <;> simp only [TK.of, reduceCtorEq, TK.struct.injEq] at hkd
  rename_i fields
  subst hkd
  obtain ⟨r, hr1, hr2⟩ := qo (P := P) (w := w) fields.toList fun f hf => by
   simp only [List.all_eq_true] at hfs
   have := hfs (f.offset, f.type) (List.mem_map.2 ⟨f, hf, rfl⟩)
   exact Option.isSome_iff_exists.1 this
  obtain ⟨cs', h1, h2⟩ := x6 hr hp (place := placesOf T.tab (fields.toList.map fun f => (f.offset, f.type))) (cs := z.cells) (fun x hx c hc => List.mem_flatMap.2 ⟨x, hx, hc⟩) (by rw [hz2]; exact oC _ _ _) hf
  refine ⟨.agg cs', ?_, cs', rfl, h2⟩
  have hm0 : (fields.mapM vh).run P w = .ok r.toArray w := by
   rw [Array.mapM_eq_mapM_toList]
   simp [hr1]
  have hm : (fields.mapM (fun f => do pure (f.offset, ← sizeOf f.type) : Field → Sem (Nat × Nat))).run P w = .ok r.toArray w := hm0
  have hfun : (fun i : Nat => r.toArray[i]?) = placesOf T.tab (fields.toList.map fun f => (f.offset, f.type)) := funext fun i => by simpa using hr2 i
  have hparts : (parts.map fun x => (x.1, a.eval x.2)).toList = parts.toList.map fun x => (x.1, a.eval x.2) := by simp
  simp only [execOp, Instr.build, Sem.run_bind, hz1, Result.andThen_ok, run_underlying hD]
  simp only [hm, Result.andThen_ok, hfun, hparts, h1]
  simp) h
theorem bT {α : Type} {E : El α} {xs : List α} {len el : Nat} {parts : Array (Nat × Operand)} {ti te : TI} {ls : List (Nat × List Ty)} (hT : T.tab[ty']? = some ti) (hk : ti.k = .slice el) (hE : T.tab[el]? = some te) (hs : te.size = E.size) (hz : te.zero.length = te.size) (h0 : 0 < te.size) (hle : len * te.size ≤ 16777216) (hp : aT A fr parts.toList ls)
 (hf : sD (fun i => some (i * te.size, te.size)) ((List.range (len * te.size)).map fun j => Ty.oI (te.zero.getD (j % te.size) undef)) ls = some (xs.flatMap E.tys)) (hx : xs.length = len)
 (h : aV P fr ops rest (A.set d (.sl E xs)) fun A' l' => K A' ((A, { d := some d, ty := .sl E xs, rs := parts.toList.flatMap fun x => bq x.2 }) :: l')) : aV P fr ops (⟨some d, .buildSlice ty' len parts, t, p, e, none⟩ :: rest) A K := by
 refine ⟨_, iD (f := { d := some d, ty := .sl E xs, rs := parts.toList.flatMap fun x => bq x.2 }) rfl rfl (by simp) (by simp) (by simp) fun a w M wf hr _ => ?_, h⟩
 obtain ⟨z, hz1, hz2⟩ := o7 hE (by intro hn; rw [hn] at hz; simp at hz; omega) w
 obtain ⟨_, D, _, hD, hkd, _⟩ := dM hT
 rw [hk] at hkd
 cases D <;> simp only [TK.of, reduceCtorEq, TK.slice.injEq] at hkd
 rename_i el0
 have hel : el0 = el := hkd
 subst hel
 have hzs : z.cells.size = te.size := by rw [← hz, ← hz2]; simp
 let zs : Array Value := if len * te.size = 0 then #[] else z.cells
 have hcells : cD w M ((List.range (len * te.size)).map fun j => Ty.oI (te.zero.getD (j % te.size) undef)) ((Array.range (len * te.size)).map (zs[· % zs.size]!)).toList := by
  refine g8 (by simp) fun i u hi => ?_
  rw [List.getElem?_map] at hi
  simp only [Option.map_eq_some_iff] at hi
  obtain ⟨j, hj, rfl⟩ := hi
  have hlt : i < len * te.size := by have := (List.getElem?_eq_some_iff.1 hj).1; simpa using this
  rw [List.getElem?_range hlt] at hj
  injection hj with hj
  subst hj
  have hne : ¬ len * te.size = 0 := by omega
  refine ⟨te.zero.getD (i % te.size) undef, ?_, pg _ _ _⟩
  have hm : i % te.size < z.cells.size := by rw [hzs]; exact Nat.mod_lt _ h0
  have e1 : zs[i % zs.size]! = te.zero.getD (i % te.size) undef := by
   simp only [zs, if_neg hne, hzs]
   rw [getElem!_pos z.cells _ hm, ← hz2, List.getD_eq_getElem?_getD, List.getElem?_eq_getElem (by simpa using hm)]
   simp
  simp [List.getElem?_range hlt, e1]
 obtain ⟨cs', h1, h2⟩ := x6 hr hp (place := fun i => some (i * te.size, te.size)) (cs := (Array.range (len * te.size)).map (zs[· % zs.size]!)) (fun x hx c hc => List.mem_flatMap.2 ⟨x, hx, hc⟩) hcells hf
 have hparts : (parts.map fun x => (x.1, a.eval x.2)).toList = parts.toList.map fun x => (x.1, a.eval x.2) := by simp
 obtain ⟨h3, h4, _⟩ := wk wf (.cells cs' el0)
 refine ⟨.slice (some ⟨w.heap.size, 0, none⟩) len len, w.alloc (.cells cs' el0), ?_, M, h3, h4, ⟨some ⟨w.heap.size, 0, none⟩, len, by rw [hx], by omega, ?_, fun _ => ⟨_, 0, rfl, ?_⟩⟩, by simp⟩
 ·have hbig : ¬ (len * te.size > 2 ^ 24) := by omega
  have hbig' : ¬ (2 ^ 24 < len * te.size) := by omega
  simp only [execOp, Instr.buildSlice, Sem.run_bind, run_underlying hD, Result.andThen_ok, cJ hE]
  simp only [hbig', gt_iff_lt, if_false]
  by_cases hn : len * te.size = 0
  ·have : zs = #[] := if_pos hn
   rw [this] at h1
   simp only [hn, if_true, Sem.run_pure, Sem.run_bind, Result.andThen_ok]
   rw [hn] at h1
   simp only [hparts, h1]
   simp [newRow, newObj, Sem.run]
  have : zs = z.cells := if_neg hn
  rw [this] at h1
  simp only [if_neg hn, Sem.run_pure, Sem.run_bind, Result.andThen_ok, hz1]
  simp only [hparts, h1]
  simp [newRow, newObj, Sem.run]
 ·have : len ≤ len * te.size := Nat.le_mul_of_pos_right _ h0
  simp only [maxLen]; omega
 have := zR (T := el0) (cs := cs'.toList) wf h2
 simpa using this
def Ty.Plain (t : Ty) : Prop := ∀ w M w' M' v, t.den w M v → t.den w' M' v
theorem K0 (k : IntKind) (n : Int) : (Ty.int k n).Plain := fun _ _ _ _ _ h => h
theorem Jf (b : Bool) : (Ty.bool b).Plain := fun _ _ _ _ _ h => h
def qb (M : ay) (L : List Nat) : ay := fun b => match M b with | none => none | some t => if t ∈ L then none else some 0
def Kt (L : List Nat) (s t : Ty) : Prop := ∀ w M v, Wf w M → s.den w M v → t.den w (qb M L) v
theorem xK {M : ay} {L : List Nat} {b : Nat} (h : M b = none) : qb M L b = none := by simp [qb, h]
theorem Kp {M : ay} {L : List Nat} {b t : Nat} (h : M b = some t) (ht : t ∈ L) : qb M L b = none := by simp [qb, h, ht]
theorem m8 {M : ay} {L : List Nat} (b t : Nat) (h : qb M L b = some t) : t = 0 := by
 unfold qb at h
 split at h
 ·cases h
 split at h
 ·cases h
 injection h with h; exact h.symm
theorem LN {M : ay} {L : List Nat} {b t : Nat} (h : qb M L b = some t) : ∃ u, M b = some u := by
 unfold qb at h
 split at h
 ·cases h
 rename_i u hu; exact ⟨u, hu⟩
theorem FP {w : World} {M : ay} {L : List Nat} (wf : Wf w M) : Wf w (qb M L) :=
 ⟨fun b t h => let ⟨u, hu⟩ := LN h; wf.lt b u hu, fun b b' t _ h _ => by have := m8 _ _ h; omega⟩
theorem pI {L : List Nat} {t : Ty} (h1 : t.deps = []) (h2 : t.cdeps = []) : Kt L t t := fun w M v _ h =>
 t.mono (S := fun _ => True) (K := fun _ => True) ⟨Nat.le_refl _, rfl, rfl, rfl, fun b _ hm => ⟨xK hm, rfl⟩, fun b t _ h => absurd trivial h⟩ (by rw [h1]; intro _ h; cases h) (by rw [h2]; intro _ h; cases h) h
theorem AU {α : Type} {E : El α} {T tg : Nat} {xs : List α} {w : World} {M M' : ay} {v : Value} (wf : Wf w M) (h : dZ E T tg xs w M v) (hM : ∀ b, M b = some tg → M' b = none) (hle : ∀ b, M b = none → M' b = none) : jR E xs w M' v := by
 obtain ⟨cs, h1, h2, h3⟩ := h
 rcases h1.2 with ⟨rfl, h0⟩ | ⟨g, cap, cur, rfl, _, hh, hn, hcap, hcs, htk⟩
 ·exact ⟨none, 0, by rw [h0], by omega, by simp [maxLen], fun h => absurd h (by omega)⟩
 have hg : M g = some tg := h3 g rfl
 refine ⟨some ⟨g, 0, none⟩, cap, rfl, hn, hcap, fun _ => ⟨g, 0, rfl, hM g hg, wf.lt g _ hg, fun i t hi => ?_⟩⟩
 have h2' := bY (S := fun _ => True) (K := fun _ => True) (w' := w) (M' := M') ⟨Nat.le_refl _, rfl, rfl, rfl, fun b _ hm => ⟨hle b hm, rfl⟩, fun b t _ h => absurd trivial h⟩ (by rw [E.cT]; intro _ h; cases h) (by rw [E.cL]; intro _ h; cases h) h2
 obtain ⟨u, hu, hd⟩ := dQ h2' i t hi
 refine ⟨u, ?_, hd⟩
 rw [← htk, List.getElem?_take] at hu
 split at hu
 ·simpa [World.cell?, hh] using hu
 cases hu
theorem O5 {L : List Nat} {α : Type} {E : El α} {T tg : Nat} {xs : List α} (h : L.contains tg = true) : Kt L (Ty.row E T tg xs) (Ty.sl E xs) := fun w M v wf hr =>
 AU wf hr (fun b hb => Kp hb (by simpa using h)) (fun b hb => xK hb)
theorem vk {L : List Nat} {α : Type} {E : El α} : Kt L (Ty.ex (.slice none 0 0)) (Ty.sl E []) := fun w M v _ h => Ty.E3 _ _ _ h
def Af (L : List Nat) : List Ty → List Ty → Prop
  | [], [] => True
  | s :: ss, t :: ts => Kt L s t ∧ Af L ss ts
  | _, _ => False
theorem jP {L : List Nat} : Af L [] [] := trivial
theorem gV {L : List Nat} {s t : Ty} {ss ts : List Ty} (h : Kt L s t) (h' : Af L ss ts) : Af L (s :: ss) (t :: ts) := ⟨h, h'⟩
theorem u5 {L : List Nat} {w : World} {M : ay} (wf : Wf w M) : ∀ {ss ts : List Ty} {vs : List Value}, Af L ss ts → cD w M ss vs → cD w (qb M L) ts vs
  | [], [], [], _, _ => trivial
  | _ :: _, _ :: _, _ :: _, ⟨h, h'⟩, ⟨h1, h2⟩ => ⟨h _ _ _ wf h1, u5 wf h' h2⟩
theorem Bs {L : List Nat} {w w' : World} {M M' : ay} {res : Ty} {r : Value} (wf : Wf w M) (le : Le (fun t => 1 ≤ t) (fun t => 1 ≤ t) w (qb M L) w' M') (hp : res.Plain) (hr : res.den w' M' r) :
    Wf w' (nq w M) ∧ Le (· ∈ ([] : List Nat)) (· ∈ ([] : List Nat)) w M w' (nq w M) ∧ res.den w' (nq w M) r := by
  have hold : ∀ b, b < w.heap.size → w'.heap[b]? = w.heap[b]? := fun b hb => by
    cases hm : qb M L b with
    | none => exact (le.qy b hb hm).2
    | some t =>
      have := m8 _ _ hm
      subst this
      exact (le.own b 0 hm (by omega)).2 (by omega)
  refine ⟨⟨fun b t h => ?_, fun b b' t ht1 h h' => ?_⟩, ⟨le.size, le.os, le.tape, le.out, fun b hb hm => ⟨?_, hold b hb⟩, fun b t hm _ => ⟨?_, fun _ => hold b (wf.lt b t hm)⟩⟩, hp _ _ _ _ _ hr⟩
  · unfold nq at h
    split at h
    · exact Nat.lt_of_lt_of_le ‹_› le.size
    · cases h
  · unfold nq at h h'
    split at h <;> split at h' <;> first | exact wf.inj b b' t ht1 h h' | cases h | cases h'
  · simp [nq, hm]
  · simp [nq, wf.lt b t hm, hm]
omit T in
theorem Qn (L : List Nat) {f : FuncId} {args : List Ty} {res : Ty} (hF : cX P f args res) {xs : List Operand} {ats : Array TypeId} {ss : List Ty} (hx : oS A fr xs = ss) (hl : Af L ss args) (hp : res.Plain)
 (h : aV P fr ops rest (A.set d res) fun A' l => K A' ((A, { d := some d, ty := res, rs := xs.flatMap bq }) :: l)) : aV P fr ops (⟨some d, .call ⟨.value (.func f), xs.toArray, ats⟩, t, p, e, none⟩ :: rest) A K := by
 refine ⟨{ d := some d, ty := res, rs := xs.flatMap bq }, ⟨rfl, by simp, by simp, by simp, fun a w M wf _ hrd _ => ?_⟩, h⟩
 rw [if_pos (by simp [Region.wanted])]
 have hv : cD w M ss (xs.map a.eval) := hx ▸ fk hrd fun x hx c hc => List.mem_flatMap.2 ⟨x, hx, hc⟩
 have hc := hF.2 w _ _ (FP (L := L) wf) m8 (u5 wf hl hv)
 have hrun : (execOp a.eval ⟨some d, .call ⟨.value (.func f), xs.toArray, ats⟩, t, p, e, none⟩).run P w = .ok (.enter f (xs.map a.eval).toArray) w := by
  simp [execOp, resolve, Act.eval, Deferred.ofValue, invoke, jF hF]
 refine hH hrun ?_
 refine hc.mono fun en w' ⟨r, M', he, _, le, hden⟩ => ?_
 obtain ⟨h1, h2, h3⟩ := Bs wf le hp hden
 exact ⟨r, he, r, rfl, _, h1, h2, h3, by simp⟩
end
end Go.T
namespace Go.T
open Go Go.RowKit
def sL (M : ay) : ay := fun b => match M b with | some 0 => some 0 | _ => none
def gU (s t : Ty) : Prop := ∀ w M v, Wf w M → s.den w M v → t.den w (sL M) v
theorem xR {M : ay} {b : Nat} (h : M b = none) : sL M b = none := by simp [sL, h]
theorem K3 {M : ay} {b t : Nat} (h : M b = some (t + 1)) : sL M b = none := by simp [sL, h]
theorem L6 {M : ay} {b : Nat} (h : M b = some 0) : sL M b = some 0 := by simp [sL, h]
theorem CV {M : ay} {b t : Nat} (h : sL M b = some t) : t = 0 ∧ M b = some 0 := by
 unfold sL at h
 split at h
 ·rename_i h'; injection h with h; exact ⟨h.symm, h'⟩
 cases h
theorem wV {w : World} {M : ay} (wf : Wf w M) : Wf w (sL M) :=
 ⟨fun b t h => wf.lt b 0 (CV h).2, fun b b' t _ h _ => by have := (CV h).1; omega⟩
theorem bN {t : Ty} (h1 : t.deps = []) (h2 : t.cdeps = []) : gU t t := fun w M v _ h =>
 t.mono (S := fun _ => True) (K := fun _ => True) ⟨Nat.le_refl _, rfl, rfl, rfl, fun b _ hm => ⟨xR hm, rfl⟩, fun b t _ h => absurd trivial h⟩ (by rw [h1]; intro _ h; cases h) (by rw [h2]; intro _ h; cases h) h
theorem Jq {s t : Ty} (h1 : s.deps = []) (h2 : s.cdeps = []) (h : s.Sub t) : gU s t := fun w M v wf hs => h _ _ _ (bN h1 h2 w M v wf hs)
theorem bE {s t : Ty} (h1 : t.deps = []) (h2 : t.cdeps = []) (h : s = t) : gU s t := by subst h; exact bN h1 h2
theorem J7 {α : Type} {E : El α} {T tg : Nat} {xs : List α} (h : 1 ≤ tg) : gU (Ty.row E T tg xs) (Ty.sl E xs) := fun w M v wf hr =>
 AU wf hr (fun b hb => by obtain ⟨u, rfl⟩ : ∃ u, tg = u + 1 := ⟨tg - 1, by omega⟩; exact K3 hb) (fun b hb => xR hb)
theorem nO {α : Type} {E : El α} {T tg : Nat} {xs ys : List α} (h : 1 ≤ tg) (e : xs = ys) : gU (Ty.row E T tg xs) (Ty.sl E ys) := e ▸ J7 h
theorem QO {α : Type} {E : El α} : gU (Ty.ex (.slice none 0 0)) (Ty.sl E []) := fun _ _ _ _ h => Ty.E3 _ _ _ h
def tC : List Ty → List Ty → Prop
  | [], [] => True
  | s :: ss, t :: ts => gU s t ∧ tC ss ts
  | _, _ => False
theorem NG : tC [] [] := trivial
theorem tF {s t : Ty} {ss ts : List Ty} (h : gU s t) (h' : tC ss ts) : tC (s :: ss) (t :: ts) := ⟨h, h'⟩
theorem Cg {w : World} {M : ay} (wf : Wf w M) : ∀ {ss ts : List Ty} {vs : List Value}, tC ss ts → cD w M ss vs → cD w (sL M) ts vs
  | [], [], [], _, _ => trivial
  | _ :: _, _ :: _, _ :: _, ⟨h, h'⟩, ⟨h1, h2⟩ => ⟨h _ _ _ wf h1, Cg wf h' h2⟩
theorem RA {ss ts : List Ty} (h : tC ss ts) : gU (Ty.agg ss) (Ty.agg ts) := fun _ _ _ wf ⟨cs, e, hd⟩ => ⟨cs, e, Cg wf h hd⟩
theorem rA {fr : Fr} {w : World} {M : ay} (hk : ∀ t, fr.kd.Oj t → 1 ≤ t) (hb : fr.base w M) : Le (fun t => 1 ≤ t) (fun t => 1 ≤ t) fr.w0 fr.M0 w (sL M) :=
 ⟨hb.size, hb.os, hb.tape, hb.out, fun b hlt hm => ⟨xR (hb.qy b hlt hm).1, (hb.qy b hlt hm).2⟩, fun b t hm ht => by
  have : t = 0 := by omega
  subst this
  obtain ⟨h1, h2⟩ := hb.own b 0 hm (by omega)
  exact ⟨L6 h1, fun _ => h2 (fun h => by have := hk 0 h; omega)⟩⟩
section
variable {P : Program} {fr : Fr} {A : As} {Q : Exit → Act → World → Prop} {c : Code} {fn : Func} {n : Nat} {w0 : World} {M0 : ay}
theorem bK {tm : Nat} {res : Ty} (hr : fn.results = #[.tmp tm]) (ht : Nat.blt tm n = true) (hs : gU (A.slots tm) res) : cU ⟨n, w0, M0, [], .plain⟩ A (bodyPost P fn (mS w0 M0 res) .ret) := by
 intro a w ⟨M, ok, hsl, _⟩
 exact ⟨ok.iw (by simp), _, results_tmp hr _ _ _, _, sL M, rfl, wV ok.wf, rA (fr := ⟨n, w0, M0, [], .plain⟩) (fun _ h => h) ok.base, hs _ _ _ ok.wf (hsl tm (by simpa using ht))⟩
theorem g9 {t1 t2 : Nat} {r1 r2 : Ty} (hr : fn.results = #[.tmp t1, .tmp t2]) (h1 : Nat.blt t1 n = true) (h2 : Nat.blt t2 n = true) (hs1 : gU (A.slots t1) r1) (hs2 : gU (A.slots t2) r2) :
 cU ⟨n, w0, M0, [], .plain⟩ A (bodyPost P fn (mS w0 M0 (Ty.tE [r1, r2])) .ret) := by
 intro a w ⟨M, ok, hsl, _⟩
 exact ⟨ok.iw (by simp), _, results_tmp2 hr _ _ _, _, sL M, rfl, wV ok.wf, rA (fr := ⟨n, w0, M0, [], .plain⟩) (fun _ h => h) ok.base, _, rfl, hs1 _ _ _ ok.wf (hsl t1 (by simpa using h1)), hs2 _ _ _ ok.wf (hsl t2 (by simpa using h2)), trivial⟩
theorem yY {t1 t2 t3 : Nat} {r1 r2 r3 : Ty} (hr : fn.results = #[.tmp t1, .tmp t2, .tmp t3]) (h1 : Nat.blt t1 n = true) (h2 : Nat.blt t2 n = true) (h3 : Nat.blt t3 n = true) (hs1 : gU (A.slots t1) r1) (hs2 : gU (A.slots t2) r2) (hs3 : gU (A.slots t3) r3) :
 cU ⟨n, w0, M0, [], .plain⟩ A (bodyPost P fn (mS w0 M0 (Ty.tE [r1, r2, r3])) .ret) := by
 intro a w ⟨M, ok, hsl, _⟩
 exact ⟨ok.iw (by simp), .tuple #[a.tmps.getD t1 undef, a.tmps.getD t2 undef, a.tmps.getD t3 undef], by simp [results, hr], _, sL M, rfl, wV ok.wf, rA (fr := ⟨n, w0, M0, [], .plain⟩) (fun _ h => h) ok.base, _, rfl, hs1 _ _ _ ok.wf (hsl t1 (by simpa using h1)), hs2 _ _ _ ok.wf (hsl t2 (by simpa using h2)), hs3 _ _ _ ok.wf (hsl t3 (by simpa using h3)), trivial⟩
theorem ko {F : Prop} {s : Nat} {ty : Ty} (hs : Nat.blt s fr.n = true) (hx : A.slots s = ty) (hf : ∀ w M v, ty.den w M v → F) (h : F → eZ P fr c A Q) : eZ P fr c A Q := fun a w ha => by
 obtain ⟨M, ok, hsl, ht⟩ := ha
 have := hsl s (by simpa using hs)
 rw [hx] at this
 exact h (hf _ _ _ this) a w ⟨M, ok, hsl, ht⟩
theorem k8 {α : Type} {E : El α} {xs : List α} (w : World) (M : ay) (v : Value) (h : (Ty.sl E xs).den w M v) : xs.length ≤ 9223372036854775807 := by
 obtain ⟨A, c, _, h1, h2, _⟩ := h
 simp only [maxLen] at h2; omega
theorem KS {α : Type} {E : El α} {T tg : Nat} {xs : List α} (w : World) (M : ay) (v : Value) (h : (Ty.row E T tg xs).den w M v) : xs.length ≤ 9223372036854775807 := by
 obtain ⟨cs, h1, _⟩ := h
 rcases h1.2 with ⟨_, h0⟩ | ⟨g, cap, cur, _, _, _, hn, hcap, _⟩
 ·omega
 simp only [maxLen] at hcap; omega
theorem mY {s : Nat} {ty ty' : Ty} (hx : A.slots s = ty) (h : ty.Sub ty') (h' : eZ P fr c (A.set s ty') Q) : eZ P fr c A Q := fun a w ⟨M, ok, hsl, ht⟩ =>
  h' a w ⟨M, ok, fun i hi => by
    show ((A.set s ty').slots i).den w M _
    simp only [As.set]
    cases hb : Nat.beq i s with
    | false => exact hsl i hi
    | true =>
      have : i = s := Nat.eq_of_beq_eq_true hb
      subst this
      exact h _ _ _ (hx ▸ hsl i hi), ht⟩
end
def dc {α : Type} (E : El α) (T : Nat) (xs : List α) (w : World) (M : ay) (t : Nat) : Prop :=
  xs = [] ∨ ∃ b cs, M b = some t ∧ w.heap[b]? = some (.cells cs T (0, 0)) ∧ cD w M (xs.flatMap E.tys) (cs.toList.take (xs.flatMap E.tys).length)
theorem Ej {α : Type} {E : El α} {T : Nat} {xs : List α} {w : World} {M : ay} {t : Nat} (h : b8 T (xs.flatMap E.tys) w M t) : dc E T xs w M t := by
 obtain ⟨b, cs, h1, h2, h3⟩ := h
 exact .inr ⟨b, cs, h1, h2, by rw [← cI h3, List.take_length]; exact h3⟩
def Cont.vec {α : Type} (E : El α) (T : Nat) (xs : List α) : Cont :=
  { den := dc E T xs, mono := fun le _ _ hs hk h => h.imp id fun ⟨b, cs, h1, h2, h3⟩ => let ⟨h4, h5⟩ := le.own b _ h1 hk
    ⟨b, cs, h4, (h5 hs).trans h2, bY le (by rw [E.cT]; intro _ h; cases h) (by rw [E.cL]; intro _ h; cases h) h3⟩ }
theorem Cont.dB {α : Type} {E : El α} {T : Nat} {xs ys : List α} (h : xs = ys) : (Cont.vec E T xs).Sub (Cont.vec E T ys) := h ▸ Cont.aG _
theorem Cont.sV {T : Nat} {l l' : List Ty} (h : l = l') : (Cont.cells T l).Sub (Cont.cells T l') := h ▸ Cont.aG _
def jz (tg n : Nat) (_ : World) (M : ay) (x : Value) : Prop := (n = 0 ∧ x = .slice none 0 0) ∨ ∃ b c, M b = some tg ∧ x = .slice (some ⟨b, 0, none⟩) n c ∧ n ≤ c ∧ c ≤ maxLen
def Ty.vs (tg n : Nat) : Ty := ⟨jz tg n, [tg], [], fun le hk _ h => h.imp id fun ⟨b, c, h, e, h1, h2⟩ => ⟨b, c, (le.own b tg h (hk tg (by simp))).1, e, h1, h2⟩, true, fun _ h => by
  rcases h with ⟨_, rfl⟩ | ⟨_, _, _, rfl, _⟩ <;> rfl⟩
section
variable {P : Program} {fr : Fr} {ops : Array Oper} {A : As} {rest : List Oper} {K : As → List (As × Fx) → Prop} {d : Nat} {t ty' : TypeId} {p : String} {e : Array Edge} [T : lQ P]
theorem za {α : Type} {E : El α} {xs : List α} {ti : TI} (hT : T.tab[ty']? = some ti) (hz : ti.zero ≠ []) (hzx : ti.zero.map Ty.oI = xs.flatMap E.tys) (hp : fr.pass.contains (d + 1) = false)
 (h : aV P fr ops rest (A.after { d := some d, ty := .ptr (d + 1) 0, K := [d + 1], sets := [(d + 1, .vec E ty' xs)] }) fun A' l' => K A' ((A, { d := some d, ty := .ptr (d + 1) 0, K := [d + 1], sets := [(d + 1, .vec E ty' xs)] }) :: l')) :
 aV P fr ops (⟨some d, .alloc ty', t, p, e, none⟩ :: rest) A K := by
 refine ⟨_, iD rfl rfl (by simp) (by simp) (by simp at hp ⊢; exact hp) fun a w M wf _ _ => ?_, h⟩
 obtain ⟨z, hz1, hz2⟩ := o7 hT hz w
 obtain ⟨h1, h2, h3⟩ := nP wf (.cells z.cells ty') (d + 1)
 refine ⟨.pointer (some ⟨w.heap.size, 0, none⟩), w.alloc (.cells z.cells ty'), ?_, _, h1, h2, ⟨_, h3, rfl⟩, ?_⟩
 ·simp [execOp, Instr.alloc, newVar, newRow, newObj, Sem.run, hz1]
 intro x hx
 simp only [List.mem_singleton] at hx
 subst hx
 exact Ej ⟨w.heap.size, z.cells, h3, gu _ _, by rw [hz2, ← hzx]; exact oC _ _ _⟩
theorem FA {α : Type} {E : El α} {x0 : α} {x y : Operand} {k k' : IntKind} {n : Int} {el : Nat} {ti te : TI} (hx : A.op fr x = .int k n) (hy : A.op fr y = .int k' n) (hT : T.tab[ty']? = some ti) (hk : ti.k = .slice el) (hE : T.tab[el]? = some te) (hs : te.size = E.size) (hz : te.zero.map Ty.oI = E.tys x0) (hzp : 0 < te.size) (hp : fr.pass.contains (d + 1) = false)
    (hn : 0 ≤ n) (hlen : (te.bytes : Int) * n ≤ 281474976710656) (hlen' : n ≤ 9223372036854775807)
    (h : aV P fr ops rest (A.after { d := some d, ty := .vs (d + 1) n.toNat, K := [d + 1], sets := [(d + 1, .vec E el (List.replicate n.toNat x0))], rs := bq x ++ bq y }) fun A' l' => K A' ((A, { d := some d, ty := .vs (d + 1) n.toNat, K := [d + 1], sets := [(d + 1, .vec E el (List.replicate n.toNat x0))], rs := bq x ++ bq y }) :: l')) :
    aV P fr ops (⟨some d, .makeSlice ty' x y, t, p, e, none⟩ :: rest) A K := by
  refine ⟨_, iD rfl rfl (by simp) (by simp) (by simp at hp ⊢; exact hp) fun a w M wf hr _ => ?_, h⟩
  obtain ⟨hdx, hdy⟩ := op2 hr
  rw [hx] at hdx; rw [hy] at hdy
  have ex : a.eval x = .int k n := hdx
  have ey : a.eval y = .int k' n := hdy
  obtain ⟨_, D, _, hD, hkd, _⟩ := dM hT
  rw [hk] at hkd
  cases D <;> simp only [TK.of, reduceCtorEq, TK.slice.injEq] at hkd
  rename_i el0
  have hel : el0 = el := hkd
  subst hel
  obtain ⟨i, _, hi, _, _, hsz, hby, hze⟩ := dM hE
  have hzl : te.zero.length = te.size := by rw [← List.length_map (f := Ty.oI), hz, E.len, hs]
  obtain ⟨z, hiz⟩ : ∃ z, i.zero = some z := by
    cases hiz : i.zero with
    | none => rw [hiz] at hze; rw [← hze] at hzl; simp at hzl; omega
    | some z => exact ⟨z, rfl⟩
  rw [hiz] at hze
  have hrun := run_make (P := P) w ty' _ i z hD hi hiz k k' n n hn (Int.le_refl _) (by rw [hby]; exact hlen) hlen'
  obtain ⟨h1, h2, h3⟩ := nP wf (.cells (madeCells z.cells (n.toNat * i.size)) el0) (d + 1)
  refine ⟨_, _, by simp [execOp, ex, ey, hrun], _, h1, h2, .inr ⟨_, _, h3, rfl, Nat.le_refl _, by simp only [maxLen]; omega⟩, ?_⟩
  intro x hx
  simp only [List.mem_singleton] at hx
  subst hx
  refine Ej ⟨w.heap.size, _, h3, gu _ _, ?_⟩
  have hzs : z.cells.size = te.size := by rw [← hzl, ← hze]; simp
  refine g8 (by rw [c7]; simp [madeCells, hsz, hs]) fun j ty hj => ?_
  have hjl : j < n.toNat * te.size := by
    have := (List.getElem?_eq_some_iff.1 hj).1
    rw [c7, List.length_replicate, ← hs] at this; exact this
  have hq : j / te.size < n.toNat := Nat.div_lt_of_lt_mul (by rw [Nat.mul_comm]; exact hjl)
  have hm : j % te.size < te.size := Nat.mod_lt _ hzp
  have hget := vF E (List.replicate n.toNat x0) (j / te.size) (j % te.size) (by simpa using hq) (by rw [← hs]; exact hm)
  have hdecomp : j / te.size * E.size + j % te.size = j := by rw [← hs, Nat.mul_comm]; exact Nat.div_add_mod j te.size
  rw [hdecomp, hj] at hget
  simp only [List.getElem?_replicate, hq, if_true, Option.bind_some] at hget
  rw [← hz, List.getElem?_map] at hget
  obtain ⟨u, hu, hty⟩ := Option.map_eq_some_iff.1 hget.symm
  refine ⟨u, ?_, hty ▸ pg _ _ _⟩
  have hu' : z.cells[j % z.cells.size]? = some u := by rw [hzs]; rw [← hze] at hu; simpa using hu
  simp only [madeCells, Array.toList_map, List.getElem?_map, Array.toList_range, hsz]
  rw [List.getElem?_range hjl]
  simp only [Option.map_some]
  rw [getElem!_def, hu']
theorem iz {x y : Operand} {tg n : Nat} {k : IntKind} {i : Int} {ti te : TI} {el : Nat} (hx : A.op fr x = .vs tg n) (hy : A.op fr y = .int k i) (hT : T.tab[ty']? = some ti) (hk : ti.k = .slice el) (hE : T.tab[el]? = some te) (h0 : 0 ≤ i) (h1 : i.toNat < n)
 (h : aV P fr ops rest (A.set d (.ptr tg (i.toNat * te.size))) fun A' l' => K A' ((A, { d := some d, ty := .ptr tg (i.toNat * te.size), rs := bq x ++ bq y }) :: l')) : aV P fr ops (⟨some d, .indexAddr ty' x y, t, p, e, none⟩ :: rest) A K :=
 bC (bP rfl rfl fun a w M _ hr _ => by
  obtain ⟨hdx, hdy⟩ := op2 hr
  rw [hx] at hdx; rw [hy] at hdy
  rcases hdx with ⟨h0, _⟩ | ⟨b, c, hb, ex, _⟩
  ·omega
  have ey : a.eval y = .int k i := hdy
  refine ⟨_, by simp only [execOp, ex, ey, Sem.run_bind, iL hT hk hE h0 h1]; rfl, b, hb, ?_⟩
  simp) h
theorem eE {x y : Operand} {tg n : Nat} {k : IntKind} {i : Nat} {ti te : TI} {el : Nat} (hx : A.op fr x = .vs tg n) (hy : A.op fr y = .int k i) (hT : T.tab[ty']? = some ti) (hk : ti.k = .slice el) (hE : T.tab[el]? = some te) (h1 : i < n)
 (h : aV P fr ops rest (A.set d (.ptr tg (i * te.size))) fun A' l' => K A' ((A, { d := some d, ty := .ptr tg (i * te.size), rs := bq x ++ bq y }) :: l')) : aV P fr ops (⟨some d, .indexAddr ty' x y, t, p, e, none⟩ :: rest) A K :=
 iz hx hy hT hk hE (Int.natCast_nonneg _) h1 h
theorem fE {x y : Operand} {tg off n : Nat} {k : IntKind} {i : Nat} {ti te : TI} {el : Nat} (hx : A.op fr x = .ptr tg off) (hy : A.op fr y = .int k i) (hT : T.tab[ty']? = some ti) (hk : ti.k = .array n el) (hE : T.tab[el]? = some te) (h1 : i < n)
 (h : aV P fr ops rest (A.set d (.ptr tg (off + i * te.size))) fun A' l' => K A' ((A, { d := some d, ty := .ptr tg (off + i * te.size), rs := bq x ++ bq y }) :: l')) : aV P fr ops (⟨some d, .indexAddr ty' x y, t, p, e, none⟩ :: rest) A K :=
 bC (bP rfl rfl fun a w M _ hr _ => by
  obtain ⟨hdx, hdy⟩ := op2 hr
  rw [hx] at hdx; rw [hy] at hdy
  obtain ⟨b, hb, ex⟩ := hdx
  have ey : a.eval y = .int k i := hdy
  refine ⟨_, by simp only [execOp, ex, ey, Sem.run_bind, iH hT hk hE (Int.natCast_nonneg i) (show (i : Int).toNat < n from h1)]; rfl, b, hb, ?_⟩
  simp) h
theorem qA {α : Type} {E : El α} {Tb : Nat} {xs : List α} {tg : Nat} (h : A.tag tg = some (.vec E Tb xs)) : ∀ w M, (∀ x ∈ A.tags, x.1 ∈ [tg] → x.2.den w M x.1) → dc E Tb xs w M tg := fun _ _ ht => ht _ (dD h) (by simp)
theorem mD {α : Type} {E : El α} {Tb b tg off : Nat} {xs : List α} {w : World} {M : ay} {ty : Ty} (wf : Wf w M) (h1 : ga tg) (hb : M b = some tg) (h : dc E Tb xs w M tg) (hl : (xs.flatMap E.tys)[off]? = some ty) : ∃ v, w.cell? ⟨b, off, none⟩ = some v ∧ ty.den w M v := by
 rcases h with rfl | ⟨b', cs, hb', hh, hd⟩
 ·simp at hl
 obtain ⟨u, rfl⟩ : ∃ u, tg = u + 1 := ⟨tg - 1, by omega⟩
 have := wf.inj b b' u (by omega) hb hb'
 subst this
 obtain ⟨v, hv, hdv⟩ := dQ hd off ty hl
 rw [List.getElem?_take] at hv
 split at hv
 ·exact ⟨v, by simpa [World.cell?, hh] using hv, hdv⟩
 cases hv
theorem Ac {α : Type} [Inhabited α] {E : El α} {xs : List α} {x : Operand} {tg i o Tb : Nat} {ti : TI} {ty : Ty} (hx : A.op fr x = .ptr tg (i * E.size + o)) (hc : A.tag tg = some (.vec E Tb xs)) (h1 : ga tg) (hT : T.tab[ty']? = some ti) (ha : ti.k.agg = false) (hi : i < xs.length) (hl : (E.tys (nth xs i))[o]? = some ty)
 (h : aV P fr ops rest (A.set d ty) fun A' l => K A' ((A, { d := some d, ty := ty, rs := bq x, rt := [tg] }) :: l)) : aV P fr ops (⟨some d, .load ty' x, t, p, e, none⟩ :: rest) A K :=
 bC (bP rfl rfl fun a w M wf hr ht => by
  have := cA (x := x) (fun _ h => h) hr
  rw [hx] at this
  obtain ⟨b, hb, e⟩ := this
  obtain ⟨v, hv, hd⟩ := mD wf h1 hb (qA hc w M ht) (kj E xs hi o ty hl)
  exact ⟨v, by simp [execOp, e, jN hT ha hv], hd⟩) h
theorem BA {α : Type} [Inhabited α] (E : El α) {y : α} {o : Nat} {ty : Ty} : ∀ (xs : List α) (i : Nat), i < xs.length → (E.tys (nth xs i)).set o ty = E.tys y → o < E.size → (xs.flatMap E.tys).set (i * E.size + o) ty = (xs.set i y).flatMap E.tys
  | [], i, h, _, _ => absurd h (Nat.not_lt_zero _)
  | x :: xs, 0, _, hy, ho => by
    have hy : (E.tys x).set o ty = E.tys y := hy
    rw [List.set_cons_zero, List.flatMap_cons, List.flatMap_cons, ← hy, Nat.zero_mul, Nat.zero_add, List.set_append, if_pos (by rw [E.len]; exact ho)]
  | x :: xs, i + 1, h, hy, ho => by
    have ih := BA E xs i (by simpa using h) hy ho
    rw [List.set_cons_succ, List.flatMap_cons, List.flatMap_cons, ← ih, List.set_append, if_neg (by rw [E.len, Nat.succ_mul]; omega), E.len]
    congr 2
    rw [Nat.succ_mul]; omega
theorem q5 {α : Type} [Inhabited α] {E : El α} {xs : List α} {x y : Operand} {tg i o Tb : Nat} {ti : TI} {ty : Ty} {z : α} (hx : A.op fr x = .ptr tg (i * E.size + o)) (hc : A.tag tg = some (.vec E Tb xs)) (h1 : ga tg) (hT : T.tab[ty']? = some ti) (hsz : ti.size = 1) (hy : A.op fr y = ty) (ho : ty.one = true) (hi : i < xs.length) (hoe : o < E.size)
 (hdt : nk ty.cdeps [tg] = true) (hl : (E.tys (nth xs i)).set o ty = E.tys z)
 (h : aV P fr ops rest (A.after { d := none, S := [tg], sets := [(tg, .vec E Tb (xs.set i z))], rs := bq x ++ bq y, rt := [tg] }) fun A' l'' => K A' ((A, { d := none, S := [tg], sets := [(tg, .vec E Tb (xs.set i z))], rs := bq x ++ bq y, rt := [tg] }) :: l'')) :
 aV P fr ops (⟨none, .store ty' x y, t, p, e, none⟩ :: rest) A K := by
 refine ⟨_, ld rfl rfl rfl (by simp) (by simpa using h1.1) (by simp) fun a w M wf hr ht => ?_, h⟩
 obtain ⟨hdx, hdy⟩ := op2 hr
 rw [hx] at hdx; rw [hy] at hdy
 obtain ⟨b, hb, ex⟩ := hdx
 rcases qA hc w M ht with rfl | ⟨b', cs, hb', hh, hd⟩
 ·exact absurd hi (Nat.not_lt_zero _)
 obtain ⟨u, rfl⟩ : ∃ u, tg = u + 1 := ⟨tg - 1, by omega⟩
 have := wf.inj b b' u (by omega) hb hb'
 subst this
 have hone := ty.isOne ho hdy
 have hlen := cI hd
 have hoff : i * E.size + o < cs.size := by
  rw [c7, List.length_take] at hlen
  have : (i + 1) * E.size ≤ xs.length * E.size := Nat.mul_le_mul_right _ hi
  rw [Nat.succ_mul] at this
  simp at hlen; omega
 have hcells : (a.eval y).cells = #[a.eval y] := by
  cases hv : a.eval y <;> first | rfl | (rw [hv] at hone; simp [Value.oneCell'] at hone)
 have hcell : w.cell? ⟨b, i * E.size + o, none⟩ = some cs[i * E.size + o] := by simp [World.cell?, hh]
 have hfz : w.frozen? ⟨b, i * E.size + o, none⟩ = false := by simp [World.frozen?, hh]
 obtain ⟨h1', h2', h3'⟩ := jW wf hb _ (ff hh (off := i * E.size + o) (a.eval y))
 refine ⟨w.setCell ⟨b, i * E.size + o, none⟩ (a.eval y), ?_, M, h1', h2', trivial, ?_⟩
 ·have hst := run_store P w ⟨b, i * E.size + o, none⟩ (a.eval y) .plain hone
  rw [hcell] at hst
  simp only [hfz] at hst
  simp [execOp, Instr.storeAt, Instr.sureAddr, ex, storeVar, hcells, cJ hT, hsz, storeCells, hst, Addr.add]
 intro z' hz'
 simp only [List.mem_singleton] at hz'
 subst hz'
 refine .inr ⟨b, _, hb, h3', ?_⟩
 rw [Array.toList_setIfInBounds, ← BA E xs i hi hl hoe, List.length_set, List.take_set]
 exact pL (bY h2' (by intro _ _ h; cases h) (by rw [E.cL]; intro _ h; cases h) hd) (ty.mono h2' (by intro _ _ h; cases h) (gm hdt) hdy)
end
end Go.T
namespace Go.T
open Go Go.RowKit
section
variable {P : Program} {fr : Fr} {ops : Array Oper} {A : As} {rest : List Oper} {K : As → List (As × Fx) → Prop} {d : Nat} {t ty' : TypeId} {p : String} {e : Array Edge} [T : lQ P]
variable {α : Type} [Inhabited α] {E : El α} {xs : List α} {x y : Operand} {tg i o s Tb : Nat} {ti : TI} {ty : Ty} {z : α}
theorem fZ (hx : A.op fr x = .ptr tg (0 + i * s)) (hc : A.tag tg = some (.vec E Tb xs)) (hs : s = E.size) (h1 : ga tg) (hT : T.tab[ty']? = some ti) (ha : ti.k.agg = false) (hi : i < xs.length) (hl : (E.tys (nth xs i))[0]? = some ty)
 (h : aV P fr ops rest (A.set d ty) fun A' l => K A' ((A, { d := some d, ty := ty, rs := bq x, rt := [tg] }) :: l)) : aV P fr ops (⟨some d, .load ty' x, t, p, e, none⟩ :: rest) A K :=
 Ac (o := 0) (by rw [hx, hs, Nat.zero_add, Nat.add_zero]) hc h1 hT ha hi hl h
theorem iA (hx : A.op fr x = .ptr tg (i * s)) (hc : A.tag tg = some (.vec E Tb xs)) (hs : s = E.size) (h1 : ga tg) (hT : T.tab[ty']? = some ti) (ha : ti.k.agg = false) (hi : i < xs.length) (hl : (E.tys (nth xs i))[0]? = some ty)
 (h : aV P fr ops rest (A.set d ty) fun A' l => K A' ((A, { d := some d, ty := ty, rs := bq x, rt := [tg] }) :: l)) : aV P fr ops (⟨some d, .load ty' x, t, p, e, none⟩ :: rest) A K :=
 Ac (o := 0) (by rw [hx, hs, Nat.add_zero]) hc h1 hT ha hi hl h
theorem jM (hx : A.op fr x = .ptr tg (0 + i * s)) (hc : A.tag tg = some (.vec E Tb xs)) (hs : s = E.size) (h1 : ga tg) (hT : T.tab[ty']? = some ti) (hsz : ti.size = 1) (hy : A.op fr y = ty) (ho : ty.one = true) (hi : i < xs.length) (hoe : 0 < E.size) (hdt : nk ty.cdeps [tg] = true) (hl : (E.tys (nth xs i)).set 0 ty = E.tys z)
 (h : aV P fr ops rest (A.after { d := none, S := [tg], sets := [(tg, .vec E Tb (xs.set i z))], rs := bq x ++ bq y, rt := [tg] }) fun A' l'' => K A' ((A, { d := none, S := [tg], sets := [(tg, .vec E Tb (xs.set i z))], rs := bq x ++ bq y, rt := [tg] }) :: l'')) :
 aV P fr ops (⟨none, .store ty' x y, t, p, e, none⟩ :: rest) A K :=
 q5 (o := 0) (by rw [hx, hs, Nat.zero_add, Nat.add_zero]) hc h1 hT hsz hy ho hi hoe hdt hl h
theorem kL (hx : A.op fr x = .ptr tg (i * s)) (hc : A.tag tg = some (.vec E Tb xs)) (hs : s = E.size) (h1 : ga tg) (hT : T.tab[ty']? = some ti) (hsz : ti.size = 1) (hy : A.op fr y = ty) (ho : ty.one = true) (hi : i < xs.length) (hoe : 0 < E.size) (hdt : nk ty.cdeps [tg] = true) (hl : (E.tys (nth xs i)).set 0 ty = E.tys z)
 (h : aV P fr ops rest (A.after { d := none, S := [tg], sets := [(tg, .vec E Tb (xs.set i z))], rs := bq x ++ bq y, rt := [tg] }) fun A' l'' => K A' ((A, { d := none, S := [tg], sets := [(tg, .vec E Tb (xs.set i z))], rs := bq x ++ bq y, rt := [tg] }) :: l'')) :
 aV P fr ops (⟨none, .store ty' x y, t, p, e, none⟩ :: rest) A K :=
 q5 (o := 0) (by rw [hx, hs, Nat.add_zero]) hc h1 hT hsz hy ho hi hoe hdt hl h
end
def V3 (l : List Ty) : Prop := bp l = [] ∧ bU l = [] ∧ l.all Ty.one = true
def El.mk' {α : Type} (n : Nat) (f : α → List Ty) (h : ∀ x, (f x).length = n) (h' : ∀ x, V3 (f x)) : El α := ⟨n, f, h, fun x => (h' x).1, fun x => (h' x).2.1, fun x => (h' x).2.2⟩
end Go.T
namespace Go.T
open Go Go.RowKit
section
variable {P : Program} {fr : Fr} {ops : Array Oper} {A : As} {rest : List Oper} {K : As → List (As × Fx) → Prop} {d : Nat} {t ty' : TypeId} {p : String} {e : Array Edge} {x y z : Operand} {k : IntKind} {n : Int} {b : Bool} {l : List Ty}
theorem aQ {o : Oper} {f : Fx} (h : aV P fr ops [o] A fun _ l => l = [(A, f)]) : CM P fr ops o A f := by
 obtain ⟨g, hg, hK⟩ := h
 have hK : [(A, g)] = [(A, f)] := hK
 simp only [List.cons.injEq, Prod.mk.injEq, and_true, true_and] at hK
 exact hK ▸ hg
theorem aM {o : Oper} {f : Fx} {s : Nat} {g : Bool} {ty : Ty} (hs : A.slots s = .gd g ty) (hg : g = true) (h : CM P fr ops o (A.set s ty) f) : CM P fr ops o A f := by
  obtain ⟨h1, h2, h3, h4, h5⟩ := h
  refine ⟨h1, h2, h3, h4, fun a w M wf hsz hr ht => h5 a w M wf hsz (fun c hc hcn => ?_) ht⟩
  have := hr c hc hcn
  simp only [As.set]
  cases hb : Nat.beq c s with
  | false => exact this
  | true =>
    have e : c = s := Nat.eq_of_beq_eq_true hb
    subst e
    rw [hs] at this
    exact this.1 hg
def nY (ops : Array Oper) (j : Nat) : Option Nat := (ops[j]?).bind (·.dst)
theorem kI {a : Act} {j s : Nat} {c : Bool} (hs : nY ops j = some s) (hn : s < a.tmps.size) (hv : a.tmps.getD s undef = .bool c) : yielded ops a.tmps j = some c := by
 unfold yielded
 unfold nY at hs
 rw [hs]
 have : a.tmps[s]? = some (.bool c) := by
  rw [Array.getElem?_eq_getElem hn]
  rw [Array.getD_eq_getD_getElem?, Array.getElem?_eq_getElem hn] at hv
  simpa using hv
 simp [this]
theorem CA {a : Act} {j s : Nat} (hs : nY ops j = some s) (hn : s < a.tmps.size) (hv : a.tmps.getD s undef = undef) : yielded ops a.tmps j = none := by
 unfold yielded
 unfold nY at hs
 rw [hs]
 have : a.tmps[s]? = some undef := by
  rw [Array.getElem?_eq_getElem hn]
  rw [Array.getD_eq_getD_getElem?, Array.getElem?_eq_getElem hn] at hv
  simpa using hv
 simp [this, undef]
def lP (d s : Nat) (g : Bool) (f : Fx) : Fx := { d := some d, ty := .gd g f.ty, rs := s :: f.rs, rt := f.rt }
theorem LD {op : Op} {j s : Nat} {want g : Bool} {gt : Ty} {f : Fx} (hs : nY ops j = some s) (hn : Nat.blt s fr.n = true) (hgt : A.slots s = gt)
    (hg : ∀ w M v, gt.den w M v → (g = true → v = .bool want) ∧ (g = false → v = .bool (!want) ∨ v = undef))
    (h1 : g = true → CM P fr ops ⟨some d, op, t, p, e, none⟩ A f) (hS : f.S = []) (hK : f.K = []) :
    CM P fr ops ⟨some d, op, t, p, e, some (j, want)⟩ A (lP d s g f) := by
  refine ⟨rfl, by simp [lP], by simp [lP], by simp [lP], fun a w M wf hsz hr ht => ?_⟩
  have hn' : s < fr.n := by simpa using hn
  have hv := hr s (by simp [lP]) hn'
  rw [hgt] at hv
  obtain ⟨hv1, hv2⟩ := hg _ _ _ hv
  cases g with
  | true =>
    have hy := kI (ops := ops) hs (by rw [hsz]; exact hn') (hv1 rfl)
    rw [if_pos (by simp [Region.wanted, hy])]
    obtain ⟨hd, _, _, _, h5⟩ := h1 rfl
    have h6 := h5 a w M wf hsz (fun c hc hcn => hr c (by simp [lP, hc]) hcn) (fun x hx hxr => ht x hx hxr)
    rw [if_pos (by simp [Region.wanted])] at h6
    refine Oper.pz (o := ⟨some d, op, t, p, e, some (j, want)⟩) (K := fun a' w' => ∃ v, a' = a.put (some d) v ∧ f.left w M w' v) ?_ h6
    rintro a' w' ⟨v, ha, M', wf', le, hty, _⟩
    rw [hS, hK] at le
    exact ⟨v, ha, M', wf', le, ⟨fun _ => hty, fun h => (by cases h)⟩, by simp [lP]⟩
  | false =>
    have hy : yielded ops a.tmps j ≠ some want := by
      rcases hv2 rfl with hv | hv
      · rw [kI (ops := ops) hs (by rw [hsz]; exact hn') hv]; cases want <;> simp
      · rw [CA (ops := ops) hs (by rw [hsz]; exact hn') hv]; simp
    rw [if_neg (by simpa [Region.wanted] using hy)]
    exact ⟨M, wf, Le.refl _ _ _ _, ⟨fun h => (by cases h), fun _ => rfl⟩, by simp [lP]⟩
theorem aN {op : Op} {j s : Nat} {want c : Bool} {f : Fx} (hs : nY ops j = some s) (hn : Nat.blt s fr.n = true) (hc : A.slots s = .bool c) (h1 : c = want → CM P fr ops ⟨some d, op, t, p, e, none⟩ A f) (hS : f.S = []) (hK : f.K = [])
 (h : aV P fr ops rest (A.set d (.gd (c == want) f.ty)) fun A' l' => K A' ((A, lP d s (c == want) f) :: l')) : aV P fr ops (⟨some d, op, t, p, e, some (j, want)⟩ :: rest) A K :=
 ⟨lP d s (c == want) f, LD hs hn hc (fun w M v hv => by
  have hv : v = .bool c := hv
  subst hv
  cases c <;> cases want <;> simp) (fun hg => h1 (by simpa using hg)) hS hK, h⟩
theorem gL {c : Operand} {b1 b2 : Bool} (hc : A.op fr c = .bool b1) (hy : A.op fr y = .gd (b1 == true) (.bool b2))
    (h : aV P fr ops rest (A.set d (.bool (b1 && b2))) fun A' l' => K A' ((A, { d := some d, ty := .bool (b1 && b2), rs := bq c ++ bq y }) :: l')) : aV P fr ops (⟨some d, .pick c y (.const (.bool false)), t, p, e, none⟩ :: rest) A K :=
  bC (bP rfl rfl fun a w M _ hrd _ => by
    obtain ⟨hdc, hdy⟩ := op2 hrd
    rw [hc] at hdc; rw [hy] at hdy
    have ec : a.eval c = .bool b1 := hdc
    cases b1 with
    | true =>
      have ey : a.eval y = .bool b2 := hdy.1 rfl
      exact ⟨.bool b2, by simp only [execOp, ec, ey]; simp [asBool], rfl⟩
    | false => exact ⟨.bool false, by simp only [execOp, ec]; simp [asBool, Act.eval], rfl⟩) h
theorem oB {c : Operand} {b1 b2 : Bool} (hc : A.op fr c = .bool b1) (hy : A.op fr y = .gd (b1 == false) (.bool b2))
    (h : aV P fr ops rest (A.set d (.bool (b1 || b2))) fun A' l' => K A' ((A, { d := some d, ty := .bool (b1 || b2), rs := bq c ++ bq y }) :: l')) : aV P fr ops (⟨some d, .pick c (.const (.bool true)) y, t, p, e, none⟩ :: rest) A K :=
  bC (bP rfl rfl fun a w M _ hrd _ => by
    obtain ⟨hdc, hdy⟩ := op2 hrd
    rw [hc] at hdc; rw [hy] at hdy
    have ec : a.eval c = .bool b1 := hdc
    cases b1 with
    | false =>
      have ey : a.eval y = .bool b2 := hdy.1 rfl
      exact ⟨.bool b2, by simp only [execOp, ec, ey]; simp [asBool], rfl⟩
    | true => exact ⟨.bool true, by simp only [execOp, ec]; simp [asBool, Act.eval], rfl⟩) h
theorem bF (hx : A.op fr x = .int k n) (h : aV P fr ops rest (A.set d (.int k n)) fun A' l => K A' ((A, { d := some d, ty := .int k n, rs := bq x }) :: l)) : aV P fr ops (⟨some d, .move x, t, p, e, none⟩ :: rest) A K := eN hx h
theorem b9 (hx : A.op fr x = .int k n) (h : aV P fr ops rest (A.set d (.int k n)) fun A' l => K A' ((A, { d := some d, ty := .int k n, rs := bq x }) :: l)) : aV P fr ops (⟨some d, .assign x, t, p, e, none⟩ :: rest) A K := iM hx h
theorem kV (hx : A.op fr x = .bool b) (h : aV P fr ops rest (A.set d (.bool b)) fun A' l => K A' ((A, { d := some d, ty := .bool b, rs := bq x }) :: l)) : aV P fr ops (⟨some d, .move x, t, p, e, none⟩ :: rest) A K := eN hx h
theorem dG (hx : A.op fr x = .bool b) (h : aV P fr ops rest (A.set d (.bool b)) fun A' l => K A' ((A, { d := some d, ty := .bool b, rs := bq x }) :: l)) : aV P fr ops (⟨some d, .assign x, t, p, e, none⟩ :: rest) A K := iM hx h
theorem gq {α : Type} {E : El α} {xs : List α} (hx : A.op fr x = .sl E xs) (h : aV P fr ops rest (A.set d (.sl E xs)) fun A' l => K A' ((A, { d := some d, ty := .sl E xs, rs := bq x }) :: l)) : aV P fr ops (⟨some d, .move x, t, p, e, none⟩ :: rest) A K := eN hx h
theorem Oa {α : Type} {E : El α} {xs : List α} (hx : A.op fr x = .sl E xs) (h : aV P fr ops rest (A.set d (.sl E xs)) fun A' l => K A' ((A, { d := some d, ty := .sl E xs, rs := bq x }) :: l)) : aV P fr ops (⟨some d, .assign x, t, p, e, none⟩ :: rest) A K := iM hx h
theorem BU {α : Type} {E : El α} {T tg : Nat} {xs : List α} (hx : A.op fr x = .row E T tg xs) (h : aV P fr ops rest (A.set d (.row E T tg xs)) fun A' l => K A' ((A, { d := some d, ty := .row E T tg xs, rs := bq x }) :: l)) : aV P fr ops (⟨some d, .move x, t, p, e, none⟩ :: rest) A K := eN hx h
theorem D8 {α : Type} {E : El α} {T tg : Nat} {xs : List α} (hx : A.op fr x = .row E T tg xs) (h : aV P fr ops rest (A.set d (.row E T tg xs)) fun A' l => K A' ((A, { d := some d, ty := .row E T tg xs, rs := bq x }) :: l)) : aV P fr ops (⟨some d, .assign x, t, p, e, none⟩ :: rest) A K := iM hx h
theorem FT {tg m : Nat} (hx : A.op fr x = .vs tg m) (h : aV P fr ops rest (A.set d (.vs tg m)) fun A' l => K A' ((A, { d := some d, ty := .vs tg m, rs := bq x }) :: l)) : aV P fr ops (⟨some d, .move x, t, p, e, none⟩ :: rest) A K := eN hx h
theorem VE {tg m : Nat} (hx : A.op fr x = .vs tg m) (h : aV P fr ops rest (A.set d (.vs tg m)) fun A' l => K A' ((A, { d := some d, ty := .vs tg m, rs := bq x }) :: l)) : aV P fr ops (⟨some d, .assign x, t, p, e, none⟩ :: rest) A K := iM hx h
theorem V0 {v : Value} (hx : A.op fr x = .ex v) (h : aV P fr ops rest (A.set d (.ex v)) fun A' l => K A' ((A, { d := some d, ty := .ex v, rs := bq x }) :: l)) : aV P fr ops (⟨some d, .move x, t, p, e, none⟩ :: rest) A K := eN hx h
theorem mN {v : Value} (hx : A.op fr x = .ex v) (h : aV P fr ops rest (A.set d (.ex v)) fun A' l => K A' ((A, { d := some d, ty := .ex v, rs := bq x }) :: l)) : aV P fr ops (⟨some d, .assign x, t, p, e, none⟩ :: rest) A K := iM hx h
theorem tU {tg o : Nat} (hx : A.op fr x = .ptr tg o) (h : aV P fr ops rest (A.set d (.ptr tg o)) fun A' l' => K A' ((A, { d := some d, ty := .ptr tg o, rs := bq x }) :: l')) : aV P fr ops (⟨some d, .move x, t, p, e, none⟩ :: rest) A K := eN hx h
theorem Vh {tg o : Nat} (hx : A.op fr x = .ptr tg o) (h : aV P fr ops rest (A.set d (.ptr tg o)) fun A' l' => K A' ((A, { d := some d, ty := .ptr tg o, rs := bq x }) :: l')) : aV P fr ops (⟨some d, .assign x, t, p, e, none⟩ :: rest) A K := iM hx h
theorem FQ (hx : A.op fr x = .tE l) (h : aV P fr ops rest (A.set d (.tE l)) fun A' l' => K A' ((A, { d := some d, ty := .tE l, rs := bq x }) :: l')) : aV P fr ops (⟨some d, .move x, t, p, e, none⟩ :: rest) A K := eN hx h
theorem Uw {f : Nat} (hx : A.op fr x = .j9 f l) (h : aV P fr ops rest (A.set d (.j9 f l)) fun A' l' => K A' ((A, { d := some d, ty := .j9 f l, rs := bq x }) :: l')) : aV P fr ops (⟨some d, .move x, t, p, e, none⟩ :: rest) A K := eN hx h
theorem VW {f : Nat} (hx : A.op fr x = .j9 f l) (h : aV P fr ops rest (A.set d (.j9 f l)) fun A' l' => K A' ((A, { d := some d, ty := .j9 f l, rs := bq x }) :: l')) : aV P fr ops (⟨some d, .assign x, t, p, e, none⟩ :: rest) A K := iM hx h
end
end Go.T
namespace Go.T
open Go Go.RowKit
theorem aZ {t : Ty} {l : List Ty} (h : t.deps = []) (h' : bp l = []) : bp (t :: l) = [] := by simp only [bp, List.flatMap_cons, h, List.nil_append] at h' ⊢; exact h'
theorem aU {t : Ty} {l : List Ty} (h : t.cdeps = []) (h' : bU l = []) : bU (t :: l) = [] := by simp only [bU, List.flatMap_cons, h, List.nil_append] at h' ⊢; exact h'
def Va (P : Program) (t : Nat) (l1 l2 : List Ty) (c : Bool) : Prop :=
  P.eqGuardType P.depth t = false ∧ ∀ w M (cs ds : Array Value), cD w M l1 cs.toList → cD w M l2 ds.toList → (Op.equal t (.agg cs) (.agg ds)).run P w = .ok c w
section
variable {P : Program} {fr : Fr} {ops : Array Oper} {A : As} {rest : List Oper} {K : As → List (As × Fx) → Prop} {d : Nat} {t ty' ty2 : TypeId} {p : String} {e : Array Edge} {x y : Operand}
theorem Rm {ts : Array TypeId} {k : IntKind} {a b : Int} (hx : A.op fr x = .int k a) (hy : A.op fr y = .int k b)
 (h : aV P fr ops rest (A.set d (.int k (min a b))) fun A' l' => K A' ((A, { d := some d, ty := .int k (min a b), rs := bq x ++ bq y }) :: l')) : aV P fr ops (⟨some d, .call ⟨.builtin .min, #[x, y], ts⟩, t, p, e, none⟩ :: rest) A K :=
 bC (bP rfl rfl fun ac w M _ hrd _ => by
  obtain ⟨hdx, hdy⟩ := op2 hrd
  rw [hx] at hdx; rw [hy] at hdy
  have ex : ac.eval x = .int k a := hdx
  have ey : ac.eval y = .int k b := hdy
  refine ⟨.int k (min a b), ?_, rfl⟩
  simp [execOp, resolve, invoke, builtin, ex, ey, Builtin.min_, Builtin.min2]
  omega) h
theorem HD {ts : Array TypeId} {k : IntKind} {a b : Int} (hx : A.op fr x = .int k a) (hy : A.op fr y = .int k b)
 (h : aV P fr ops rest (A.set d (.int k (max a b))) fun A' l' => K A' ((A, { d := some d, ty := .int k (max a b), rs := bq x ++ bq y }) :: l')) : aV P fr ops (⟨some d, .call ⟨.builtin .max, #[x, y], ts⟩, t, p, e, none⟩ :: rest) A K :=
 bC (bP rfl rfl fun ac w M _ hrd _ => by
  obtain ⟨hdx, hdy⟩ := op2 hrd
  rw [hx] at hdx; rw [hy] at hdy
  have ex : ac.eval x = .int k a := hdx
  have ey : ac.eval y = .int k b := hdy
  refine ⟨.int k (max a b), ?_, rfl⟩
  simp [execOp, resolve, invoke, builtin, ex, ey, Builtin.max_, Builtin.max2]
  omega) h
variable [T : lQ P]
theorem lG {α : Type} {E : El α} {Te tg : Nat} {xs : List α} {ti : TI} {el : Nat} (hx : A.op fr x = .row E Te tg xs) (hT : T.tab[ty']? = some ti) (hk : ti.k = .slice el)
 (h : aV P fr ops rest (A.set d (.int .i64 xs.length)) fun A' l' => K A' ((A, { d := some d, ty := .int .i64 xs.length, rs := bq x }) :: l')) :
 aV P fr ops (⟨some d, .call ⟨.builtin .len, #[x], #[ty']⟩, t, p, e, none⟩ :: rest) A K :=
 bC (bP rfl rfl fun a w M _ hrd _ => by
  have hdx := cA (x := x) (fun _ h => h) hrd
  rw [hx] at hdx
  obtain ⟨cs, hown, _⟩ := hdx
  obtain ⟨_, D, _, hD, hkd, _⟩ := dM hT
  rw [hk] at hkd
  cases D <;> simp only [TK.of, reduceCtorEq, TK.slice.injEq] at hkd
  rcases hown.2 with ⟨ex, h0⟩ | ⟨g, cap, cur, ex, _⟩
  ·exact ⟨.int .i64 xs.length, by simp [execOp, resolve, invoke, builtin, ex, Builtin.len_, run_underlying hD, goInt, h0], rfl⟩
  exact ⟨.int .i64 xs.length, by simp [execOp, resolve, invoke, builtin, ex, Builtin.len_, run_underlying hD, goInt], rfl⟩) h
theorem nM {tg n : Nat} {ti : TI} {el : Nat} (hx : A.op fr x = .vs tg n) (hT : T.tab[ty']? = some ti) (hk : ti.k = .slice el)
 (h : aV P fr ops rest (A.set d (.int .i64 n)) fun A' l' => K A' ((A, { d := some d, ty := .int .i64 n, rs := bq x }) :: l')) :
 aV P fr ops (⟨some d, .call ⟨.builtin .len, #[x], #[ty']⟩, t, p, e, none⟩ :: rest) A K :=
 bC (bP rfl rfl fun a w M _ hrd _ => by
  have hdx := cA (x := x) (fun _ h => h) hrd
  rw [hx] at hdx
  obtain ⟨_, D, _, hD, hkd, _⟩ := dM hT
  rw [hk] at hkd
  cases D <;> simp only [TK.of, reduceCtorEq, TK.slice.injEq] at hkd
  rcases hdx with ⟨h0, ex⟩ | ⟨b, c, _, ex, _⟩
  ·exact ⟨.int .i64 n, by simp [execOp, resolve, invoke, builtin, ex, Builtin.len_, run_underlying hD, goInt, h0], rfl⟩
  exact ⟨.int .i64 n, by simp [execOp, resolve, invoke, builtin, ex, Builtin.len_, run_underlying hD, goInt], rfl⟩) h
theorem Dn {α : Type} [Inhabited α] {E : El α} {Te tg : Nat} {xs : List α} {w : World} {M : ay} {v : Value} (h : dZ E Te tg xs w M v) {i : Nat} (hi : i < xs.length) :
 ∃ g cap, v = .slice (some ⟨g, 0, none⟩) xs.length cap ∧ M g = some tg ∧ ∀ (j : Nat) (t : Ty), (E.tys (nth xs i))[j]? = some t → ∃ u, w.cell? ⟨g, i * E.size + j, none⟩ = some u ∧ t.den w M u := by
 obtain ⟨cs, hown, hd, hM⟩ := h
 rcases hown.2 with ⟨_, h0⟩ | ⟨g, cap, cur, ex, _, hh, _, _, _, htk⟩
 ·omega
 refine ⟨g, cap, ex, hM g (by rw [ex]; rfl), fun j t hj => ?_⟩
 obtain ⟨u, hu, hdu⟩ := dQ hd _ t (kj E xs hi j t hj)
 refine ⟨u, ?_, hdu⟩
 rw [← htk, List.getElem?_take] at hu
 split at hu
 ·simpa [World.cell?, hh] using hu
 cases hu
end
end Go.T
namespace Go.T
open Go Go.RowKit
section
variable {P : Program} {A : As} {fn : Func} {n : Nat} {w0 : World} {M0 : ay} [T : lQ P]
theorem Jm {tm ty tg Tb : Nat} {l : List Ty} {ti : TI} {res : Ty} (hr : fn.results = #[.cell tm ty]) (ht : Nat.blt tm n = true) (hx : A.slots tm = .ptr tg 0) (hc : A.tag tg = some (.cells Tb l)) (h1 : ga tg) (hT : T.tab[ty]? = some ti) (ha : ti.k.agg = true) (hl : l.length = ti.size) (hs : gU (.agg l) res) :
 cU ⟨n, w0, M0, [], .plain⟩ A (bodyPost P fn (mS w0 M0 res) .ret) := by
 intro a w ⟨M, ok, hsl, htg⟩
 have hd := hsl tm (by simpa using ht)
 rw [hx] at hd
 obtain ⟨b, hb, e⟩ := hd
 obtain ⟨b', cs, hb', hh, hds⟩ := htg _ (dD hc)
 obtain ⟨u, rfl⟩ : ∃ u, tg = u + 1 := ⟨tg - 1, by omega⟩
 have := ok.wf.inj b b' u (by omega) hb hb'
 subst this
 have hlen := cI hds
 have hload := jw (P := P) hT ha (w := w) (b := b) (off := 0) (cs := cs.toList) (by rw [hlen, hl]) (fun j v hj => by simpa [World.cell?, hh] using hj)
 have hload' : (loadVar ty ⟨b, 0, none⟩).run P w = .ok (.agg cs) w := by simpa [Instr.loadAt, Instr.sureAddr] using hload
 refine ⟨ok.iw (by simp), .agg cs, ?_, _, sL M, rfl, wV ok.wf, rA (fr := ⟨n, w0, M0, [], .plain⟩) (fun _ h => h) ok.base, hs _ _ _ ok.wf ⟨cs, rfl, hds⟩⟩
 have e' : a.tmps.getD tm undef = .pointer (some ⟨b, 0, none⟩) := e
 have e'' : a.tmps[tm]?.getD undef = .pointer (some ⟨b, 0, none⟩) := by rw [← Array.getD_eq_getD_getElem?]; exact e'
 simp [results, hr, e'', asAddr, hload']
end
end Go.T
namespace Go.T
open Go Go.RowKit
def Mh : List Ty → List Ty → Prop
  | [], [] => True
  | s :: ss, t :: ts => s.Sub t ∧ Mh ss ts
  | _, _ => False
theorem dH : Mh [] [] := trivial
theorem bX {s t : Ty} {ss ts : List Ty} (h' : Mh ss ts) (h : s.Sub t) : Mh (s :: ss) (t :: ts) := ⟨h, h'⟩
theorem DL {w : World} {M : ay} : ∀ {ss ts : List Ty} {vs : List Value}, Mh ss ts → cD w M ss vs → cD w M ts vs
  | [], [], [], _, _ => trivial
  | _ :: _, _ :: _, _ :: _, ⟨h, h'⟩, ⟨h1, h2⟩ => ⟨h _ _ _ h1, DL h' h2⟩
theorem Cont.dI {T : Nat} {l l' : List Ty} (h : Mh l l') : (Cont.cells T l).Sub (Cont.cells T l') := fun _ _ _ ⟨b, cs, h1, h2, h3⟩ => ⟨b, cs, h1, h2, DL h h3⟩
def j7 (tg : Nat) (l : List Ty) (w : World) (M : ay) (v : Value) : Prop :=
  ∃ b off, v = .pointer (some ⟨b, off, none⟩) ∧ M b = some tg ∧ ∀ (i : Nat) (t : Ty), l[i]? = some t → ∃ u, w.cell? ⟨b, off + i, none⟩ = some u ∧ t.den w M u
def Ty.op (tg : Nat) (l : List Ty) : Ty :=
  ⟨j7 tg l, tg :: bp l, tg :: bU l, fun le hk hs ⟨b, off, e, hb, h⟩ => by
    obtain ⟨h4, h5⟩ := le.own b tg hb (hk tg List.mem_cons_self)
    refine ⟨b, off, e, h4, fun i t hi => ?_⟩
    obtain ⟨v, hc, hd⟩ := h i t hi
    refine ⟨v, ?_, t.mono le (fun u hu => hk u ?_) (fun u hu => hs u ?_) hd⟩
    · rw [← hc]; exact World.cell?_of_block (h5 (hs tg List.mem_cons_self))
    · exact List.mem_cons_of_mem _ (List.mem_flatMap.2 ⟨t, List.mem_of_getElem? hi, hu⟩)
    · exact List.mem_cons_of_mem _ (List.mem_flatMap.2 ⟨t, List.mem_of_getElem? hi, hu⟩), true, fun _ ⟨_, _, e, _⟩ => e ▸ rfl⟩
theorem OC {w : World} {M : ay} {b off : Nat} {l : List Ty} (h : ∀ (i : Nat) (t : Ty), l[i]? = some t → ∃ u, w.cell? ⟨b, off + i, none⟩ = some u ∧ t.den w M u) : ∀ n, n ≤ l.length → ∃ cs : List Value, cs.length = n ∧ cD w M (l.take n) cs ∧ ∀ j v, cs[j]? = some v → w.cell? ⟨b, off + j, none⟩ = some v := by
  intro n
  induction n with
  | zero => exact fun _ => ⟨[], rfl, trivial, fun j v h => by simp at h⟩
  | succ n ih =>
    intro hn
    obtain ⟨cs, h1, h2, h3⟩ := ih (by omega)
    obtain ⟨v, hv, hd⟩ := h n l[n] (List.getElem?_eq_getElem (by omega))
    refine ⟨cs ++ [v], by simp [h1], ?_, fun j u hj => ?_⟩
    · rw [List.take_succ_eq_append_getElem (by omega)]
      exact pR h2 ⟨hd, trivial⟩
    · rcases Nat.lt_or_ge j cs.length with hj' | hj'
      · rw [List.getElem?_append_left hj'] at hj; exact h3 j u hj
      · rw [List.getElem?_append_right hj'] at hj
        have : j = n := by
          rcases Nat.lt_or_ge (j - cs.length) 1 with h | h
          · omega
          · rw [List.getElem?_eq_none (by simpa using h)] at hj; cases hj
        subst this
        rw [h1, Nat.sub_self] at hj
        simp at hj; subst hj; exact hv
section
variable {P : Program} {fr : Fr} {ops : Array Oper} {A : As} {rest : List Oper} {K : As → List (As × Fx) → Prop} {d : Nat} {t ty' : TypeId} {p : String} {e : Array Edge} [T : lQ P]
theorem Et {α : Type} [Inhabited α] {x y : Operand} {E : El α} {Te tg : Nat} {xs : List α} {k : IntKind} {i : Nat} {ti te : TI} {el : Nat} (hx : A.op fr x = .row E Te tg xs) (hy : A.op fr y = .int k i) (hT : T.tab[ty']? = some ti) (hk : ti.k = .slice el) (hE : T.tab[el]? = some te) (hs : te.size = E.size)
 (h1 : i < xs.length)
 (h : aV P fr ops rest (A.set d (.op tg (E.tys (nth xs i)))) fun A' l' => K A' ((A, { d := some d, ty := .op tg (E.tys (nth xs i)), rs := bq x ++ bq y }) :: l')) : aV P fr ops (⟨some d, .indexAddr ty' x y, t, p, e, none⟩ :: rest) A K :=
 bC (bP rfl rfl fun a w M _ hr _ => by
  obtain ⟨hdx, hdy⟩ := op2 hr
  rw [hx] at hdx; rw [hy] at hdy
  obtain ⟨g, cap, ex, hg, hc⟩ := Dn hdx h1
  have ey : a.eval y = .int k i := hdy
  refine ⟨_, by simp only [execOp, ex, ey, Sem.run_bind, iL hT hk hE (Int.natCast_nonneg i) (show (i : Int).toNat < xs.length from h1)]; rfl, g, 0 + i * te.size, by simp, hg, fun j ty hj => ?_⟩
  obtain ⟨u, hu, hd⟩ := hc j ty hj
  exact ⟨u, by rw [hs, Nat.zero_add]; exact hu, hd⟩) h
theorem DM {x : Operand} {tg : Nat} {l : List Ty} {ti : TI} {ty : Ty} (hx : A.op fr x = .op tg l) (hT : T.tab[ty']? = some ti) (ha : ti.k.agg = false) (hl : l[0]? = some ty)
 (h : aV P fr ops rest (A.set d ty) fun A' l => K A' ((A, { d := some d, ty := ty, rs := bq x }) :: l)) : aV P fr ops (⟨some d, .load ty' x, t, p, e, none⟩ :: rest) A K :=
 bC (bP rfl rfl fun a w M _ hr _ => by
  have := cA (x := x) (fun _ h => h) hr
  rw [hx] at this
  obtain ⟨b, off, e, _, hp⟩ := this
  obtain ⟨v, hv, hd⟩ := hp 0 ty hl
  have hv' : w.cell? ⟨b, off, none⟩ = some v := hv
  exact ⟨v, by simp [execOp, e, jN hT ha hv'], hd⟩) h
end
section
variable {P : Program} {fr : Fr} {A : As} {Q : Exit → Act → World → Prop} {c : Code}
theorem UM {α : Type} {E : El α} {T tg s : Nat} {xs : List α} (hs : Nat.blt s fr.n = true) (hx : A.slots s = .row E T tg xs)
    (h : eZ P fr c ⟨fun i => bif Nat.beq i s then .vs tg xs.length else A.slots i, (tg, .vec E T xs) :: A.tags⟩ Q) : eZ P fr c A Q := fun a w ⟨M, ok, hsl, ht⟩ => by
  have hd := hsl s (by simpa using hs)
  rw [hx] at hd
  obtain ⟨cs, h1, h2, h3⟩ := hd
  have key : jz tg xs.length w M (a.tmps.getD s undef) ∧ dc E T xs w M tg := by
    rcases h1.2 with ⟨e, h0⟩ | ⟨g, cap, cur, ex, _, hh, hn1, hcap, _, htk⟩
    · exact ⟨.inl ⟨h0, e⟩, .inl (List.length_eq_zero_iff.1 h0)⟩
    · have hg : M g = some tg := h3 g (by rw [ex]; rfl)
      exact ⟨.inr ⟨g, cap, hg, ex, hn1, hcap⟩, .inr ⟨g, cur, hg, hh, by rw [c7, htk]; exact h2⟩⟩
  refine h a w ⟨M, ok, fun i hi => ?_, fun x hx => ?_⟩
  · cases hb : Nat.beq i s with
    | false => simpa only [hb, cond_false] using hsl i hi
    | true =>
      have : i = s := Nat.eq_of_beq_eq_true hb
      subst this
      simp only [hb, cond_true]
      exact key.1
  · rcases List.mem_cons.1 hx with rfl | hx
    · exact key.2
    · exact ht x hx
def dx (M : ay) (tg : Nat) : ay := fun b => if M b = some tg then none else M b
theorem iO {w : World} {M : ay} {tg : Nat} : Le (· ∈ ([] : List Nat)) (· ∈ [tg]) w M w (dx M tg) :=
 ⟨Nat.le_refl _, rfl, rfl, rfl, fun b _ hm => ⟨by simp [dx, hm], rfl⟩, fun b t hm hk => ⟨by simp only [List.mem_singleton] at hk; simp [dx, hm, hk], fun _ => rfl⟩⟩
theorem CR {w : World} {M : ay} {tg : Nat} (wf : Wf w M) : Wf w (dx M tg) := by
 have key : ∀ b t, dx M tg b = some t → M b = some t := fun b t h => by
  unfold dx at h; split at h
  ·cases h
  exact h
 exact ⟨fun b t h => wf.lt b t (key b t h), fun b b' t ht1 h h' => wf.inj b b' t ht1 (key _ _ h) (key _ _ h')⟩
def Bn (A : As) (tg s : Nat) (t : Ty) : Prop := ∀ w M v, Wf w M → (∀ x ∈ A.tags, x.2.den w M x.1) → (A.slots s).den w M v → t.den w (dx M tg) v
def Ir (A : As) (tg : Nat) : List (Nat × Ty) → Prop
  | [] => True
  | x :: l => Bn A tg x.1 x.2 ∧ Ir A tg l
def qI (l : List (Nat × Ty)) (s : Nat → Ty) : Nat → Ty := fun i => match l with | [] => s i | (d, t) :: l => bif Nat.beq i d then t else qI l s i
def As.qy (A : As) (tg : Nat) (l : List (Nat × Ty)) : As := ⟨qI l (gI [] [tg] A.slots), o9 [] [tg] A.tags⟩
theorem uC {tg : Nat} (l : List (Nat × Ty)) (h1 : 1 ≤ tg) (hp : fr.pass.contains tg = false) (hl : Ir A tg l) (h : eZ P fr c (A.qy tg l) Q) : eZ P fr c A Q := fun a w ⟨M, ok, hsl, ht⟩ => by
  have le : Le (· ∈ ([] : List Nat)) (· ∈ [tg]) w M w (dx M tg) := iO
  refine h a w ⟨dx M tg, ⟨CR ok.wf, Fr.lK ok.base (by intro _ h; cases h) (fun t ht => by simp only [List.mem_singleton] at ht; subst ht; exact ⟨h1, by simpa using hp⟩) le, ok.size, ok.defers.step (by intro _ h; cases h) (fun t ht => by simp only [List.mem_singleton] at ht; subst ht; exact h1) le⟩, fun i hi => ?_, fun x hx => jJ le hx fun y hy _ => ht y hy⟩
  have base : (gI [] [tg] A.slots i).den w (dx M tg) (a.tmps.getD i undef) := by
    rcases fu [] [tg] A.slots i with ⟨e, hdj⟩ | ⟨_, e⟩
    · rw [e]; exact (A.slots i).mono le (fL hdj).1 (fL hdj).2 (hsl i hi)
    · rw [e]; trivial
  show (qI l (gI [] [tg] A.slots) i).den _ _ _
  clear h
  induction l with
  | nil => exact base
  | cons x l ih =>
    obtain ⟨d, t⟩ := x
    unfold qI
    cases hb : Nat.beq i d with
    | false => simp only [cond_false]; exact ih hl.2
    | true =>
      have : i = d := Nat.eq_of_beq_eq_true hb
      subst this
      simp only [cond_true]
      exact hl.1 w M _ ok.wf ht (hsl i hi)
theorem Qq {α : Type} {E : El α} {T tg s : Nat} {xs : List α} (hx : A.slots s = .row E T tg xs) : Bn A tg s (.sl E xs) := fun w M v wf _ hd => by
 rw [hx] at hd
 exact AU wf hd (fun b hb => by simp [dx, hb]) (fun b hb => by simp [dx, hb])
theorem Sl {α : Type} {E : El α} {T tg s n : Nat} {xs : List α} (hx : A.slots s = .vs tg n) (hc : A.tag tg = some (.vec E T xs)) (hn : xs.length = n) (h1 : ga tg) : Bn A tg s (.sl E xs) := fun w M v wf ht hd => by
 rw [hx] at hd
 have hv : dc E T xs w M tg := ht _ (dD hc)
 subst hn
 rcases hd with ⟨h0, rfl⟩ | ⟨b, cc, hb, e, hn1, hn2⟩
 ·exact ⟨none, 0, by rw [h0], by omega, by simp [maxLen], fun h => absurd h (by omega)⟩
 refine ⟨_, cc, e, hn1, hn2, fun _ => ⟨b, 0, rfl, by simp [dx, hb], wf.lt b _ hb, fun i t hi => ?_⟩⟩
 obtain ⟨u, hu, hdu⟩ := mD wf h1 hb hv hi
 refine ⟨u, by rw [Nat.zero_add]; exact hu, t.mono (iO (w := w)) ?_ ?_ hdu⟩
 ·intro u hu
  have : u ∈ bp (xs.flatMap E.tys) := List.mem_flatMap.2 ⟨t, List.mem_of_getElem? hi, hu⟩
  rw [E.cT] at this; cases this
 intro u _ h; cases h
theorem vM {T tg s off : Nat} {l : List Ty} (hx : A.slots s = .ptr tg off) (hc : A.tag tg = some (.cells T l)) (hd : nk (bp l) [tg] = true) (h1 : ga tg) : Bn A tg s (.pp (l.drop off)) := fun w M v wf ht hv => by
 rw [hx] at hv
 obtain ⟨b, hb, e⟩ := hv
 have hcc : (Cont.cells T l).den w M tg := ht _ (dD hc)
 refine ⟨b, off, e, by simp [dx, hb], wf.lt b _ hb, fun i t hi => ?_⟩
 rw [List.getElem?_drop] at hi
 obtain ⟨u, hu, hdu⟩ := HP wf h1 hb hcc hi
 refine ⟨u, hu, t.mono (iO (w := w)) ?_ ?_ hdu⟩
 ·intro u hu
  exact gm hd u (List.mem_flatMap.2 ⟨t, List.mem_of_getElem? hi, hu⟩)
 intro u _ h; cases h
end
end Go.T
namespace Go.T
open Go Go.RowKit
section
variable {P : Program} {fr : Fr} {ops : Array Oper} {A : As} {rest : List Oper} {K : As → List (As × Fx) → Prop} {d : Nat} {t ty' : TypeId} {p : String} {e : Array Edge}
def As.re (A : As) (tg tg' : Nat) (l : List (Nat × Ty)) : As := ⟨qI l (gI [] [tg, tg'] A.slots), o9 [] [tg, tg'] A.tags⟩
def p8 (w : World) (M : ay) (L : List Nat) : ay := fun b => if b < w.heap.size then (match M b with | none => none | some t => if t ∈ L then none else some t) else none
theorem Hr {L : List Nat} {w w' : World} {M M' : ay} {res : Ty} {r : Value} (wf : Wf w M) (le : Le (fun t => 1 ≤ t) (fun t => 1 ≤ t) w (qb M L) w' M') (hd : res.deps = []) (hdc : res.cdeps = []) (hr : res.den w' M' r) :
    Wf w' (p8 w M L) ∧ Le (· ∈ ([] : List Nat)) (· ∈ L) w M w' (p8 w M L) ∧ res.den w' (p8 w M L) r := by
  have hold : ∀ b, b < w.heap.size → w'.heap[b]? = w.heap[b]? := fun b hb => by
    cases hm : qb M L b with
    | none => exact (le.qy b hb hm).2
    | some t =>
      have := m8 _ _ hm
      subst this
      exact (le.own b 0 hm (by omega)).2 (by omega)
  have key : ∀ b t, p8 w M L b = some t → M b = some t ∧ b < w.heap.size := fun b t h => by
    unfold p8 at h
    split at h
    · split at h
      · cases h
      · split at h
        · cases h
        · rename_i hb _ _ hm _; injection h with h; subst h; exact ⟨hm, hb⟩
    · cases h
  refine ⟨⟨fun b t h => Nat.lt_of_lt_of_le (key b t h).2 le.size, fun b b' t ht1 h h' => wf.inj b b' t ht1 (key _ _ h).1 (key _ _ h').1⟩, ⟨le.size, le.os, le.tape, le.out, fun b hb hm => ⟨by simp [p8, hm], hold b hb⟩, fun b t hm hk => ⟨by simp [p8, wf.lt b t hm, hm, hk], fun _ => hold b (wf.lt b t hm)⟩⟩, ?_⟩
  refine res.mono (S := fun _ => True) (K := fun _ => True) ⟨Nat.le_refl _, rfl, rfl, rfl, fun b _ hm => ⟨?_, rfl⟩, fun b t _ h => absurd trivial h⟩ (by rw [hd]; intro _ h; cases h) (by rw [hdc]; intro _ h; cases h) hr
  cases hc : p8 w M L b with
  | none => rfl
  | some t =>
    exfalso
    obtain ⟨hmb, hb⟩ := key b t hc
    have hL : t ∉ L := fun h => by simp [p8, hb, hmb, h] at hc
    have hl : qb M L b = some 0 := by simp [qb, hmb, hL]
    have := (le.own b 0 hl (by omega)).1
    rw [hm] at this; cases this
theorem oY (L : List Nat) {f : FuncId} {args : List Ty} {res : Ty} (hF : cX P f args res) {xs : List Operand} {ats : Array TypeId} {ss : List Ty} (hx : oS A fr xs = ss) (hl : Af L ss args) (hr : res.deps = []) (hrc : res.cdeps = []) (h1 : ∀ u ∈ L, 1 ≤ u ∧ u ∉ fr.pass)
 (h : aV P fr ops rest (A.after { d := some d, ty := res, K := L, rs := xs.flatMap bq }) fun A' l => K A' ((A, { d := some d, ty := res, K := L, rs := xs.flatMap bq }) :: l)) : aV P fr ops (⟨some d, .call ⟨.value (.func f), xs.toArray, ats⟩, t, p, e, none⟩ :: rest) A K := by
 refine ⟨{ d := some d, ty := res, K := L, rs := xs.flatMap bq }, ⟨rfl, by simp, by simp, h1, fun a w M wf _ hrd _ => ?_⟩, h⟩
 rw [if_pos (by simp [Region.wanted])]
 have hv : cD w M ss (xs.map a.eval) := hx ▸ fk hrd fun x hx c hc => List.mem_flatMap.2 ⟨x, hx, hc⟩
 have hc := hF.2 w _ _ (FP (L := L) wf) m8 (u5 wf hl hv)
 have hrun : (execOp a.eval ⟨some d, .call ⟨.value (.func f), xs.toArray, ats⟩, t, p, e, none⟩).run P w = .ok (.enter f (xs.map a.eval).toArray) w := by
  simp [execOp, resolve, Act.eval, Deferred.ofValue, invoke, jF hF]
 refine hH hrun ?_
 refine hc.mono fun en w' ⟨r, M', he, _, le, hden⟩ => ?_
 obtain ⟨h1, h2, h3⟩ := Hr wf le hr hrc hden
 exact ⟨r, he, r, rfl, _, h1, h2, h3, by simp⟩
end
section
variable {P : Program} {fr : Fr} {ops : Array Oper} {A : As} {rest : List Oper} {K : As → List (As × Fx) → Prop} {d : Nat} {t ty' : TypeId} {p : String} {e : Array Edge} [T : lQ P]
theorem Ht {α : Type} {E : El α} {el : Nat} {ti te : TI} (hT : T.tab[ty']? = some ti) (hk : ti.k = .slice el) (hE : T.tab[el]? = some te) (hp : fr.pass.contains (d + 1) = false)
 (h : aV P fr ops rest (A.after { d := some d, ty := .row E el (d + 1) [], K := [d + 1] }) fun A' l' => K A' ((A, { d := some d, ty := .row E el (d + 1) [], K := [d + 1] }) :: l')) :
 aV P fr ops (⟨some d, .buildSlice ty' 0 #[], t, p, e, none⟩ :: rest) A K := by
 refine ⟨_, iD rfl rfl (by simp) (by simp) (by simp at hp ⊢; exact hp) fun a w M wf hr _ => ?_, h⟩
 obtain ⟨_, D, _, hD, hkd, _⟩ := dM hT
 rw [hk] at hkd
 cases D <;> simp only [TK.of, reduceCtorEq, TK.slice.injEq] at hkd
 rename_i el0
 have hel : el0 = el := hkd
 subst hel
 obtain ⟨h1, h2, h3⟩ := nP wf (.cells #[] el0) (d + 1)
 refine ⟨.slice (some ⟨w.heap.size, 0, none⟩) 0 0, w.alloc (.cells #[] el0), ?_, _, h1, h2, ⟨[], ⟨by simp, .inr ⟨w.heap.size, 0, #[], rfl, Nat.zero_le _, gu _ _, Nat.le_refl _, by simp [maxLen], by simp, by simp⟩⟩, trivial, ?_⟩, by simp⟩
 ·simp only [execOp, Instr.buildSlice, Sem.run_bind, run_underlying hD, Result.andThen_ok, cJ hE]
  simp [newRow, newObj, Sem.run, Instr.fill, show Array.range 0 = #[] from rfl, Sem.new]
 intro g hg
 simp [Value.ownBlock] at hg
 subst hg; exact h3
end
end Go.T
namespace Go.Proofs.YtmmcenjknimhbaaGreat
open Go.T
def kM (f : bS) (order : List Int) : Int :=
  if (order.length : Int) ≠ f.turnings.length then 2
  else if order.any fun x => decide (x < 0 ∨ x ≥ f.turnings.length) then 1
  else if (s6 order.length).any fun i => decide (nth order i.toNat ∈ order.take i.toNat) then 5
  else if (s6 order.length).any fun i => (fX f (nth order i.toNat)).any fun y => !decide (y ∈ order.take i.toNat) then 4
  else 0
def bS.Ck (f : bS) : Prop := ∀ t ∈ f.turnings, (-1 ≤ t.src ∧ t.src < f.bins.length) ∧ (-1 ≤ t.dst ∧ t.dst < f.bins.length)
def l6 (t : mO) (s : List Int) : List Int := if t.src ≥ 0 then s.set t.src.toNat (nth s t.src.toNat - t.sacks) else s
def vm (t : mO) (s : List Int) : List Int := if t.dst ≥ 0 then s.set t.dst.toNat (nth s t.dst.toNat + t.sacks) else s
def kg (f : bS) (s : List Int) (i : Int) : List Int := vm (nth f.turnings i.toNat) (l6 (nth f.turnings i.toNat) s)
theorem w5 (t : mO) (s : List Int) : (l6 t s).length = s.length := by unfold l6; split <;> simp
theorem ME (t : mO) (s : List Int) : (vm t s).length = s.length := by unfold vm; split <;> simp
def kN (f : bS) (order : List Int) (k : Nat) : List Int := (order.take k).foldl (kg f) (f.bins.map qP.has)
theorem CU (f : bS) (s : List Int) (i : Int) : (kg f s i).length = s.length := by
 rw [kg, ME, w5]
theorem Cs (f : bS) : ∀ (l : List Int) (s : List Int), (l.foldl (kg f) s).length = s.length
  | [], _ => rfl
  | i :: l, s => by rw [List.foldl_cons, Cs f l, CU]
theorem Ii (f : bS) (order : List Int) (k : Nat) : (kN f order k).length = f.bins.length := by simp [kN, Cs]
theorem yZ {f : bS} {order : List Int} {k : Nat} (h : k < order.length) : kN f order (k + 1) = kg f (kN f order k) (nth order k) := by
 simp only [kN]; rw [bh h, List.foldl_append]; rfl
def Kr (B : Int) (s : List Int) : Prop := ∀ x ∈ s, -B ≤ x ∧ x ≤ B
theorem Ji {B B' : Int} {s : List Int} (h : Kr B s) (hB : B ≤ B') {k : Nat} {x : Int} (hx : -B' ≤ x ∧ x ≤ B') : Kr B' (s.set k x) := by
 intro y hy
 rcases List.mem_or_eq_of_mem_set hy with h1 | rfl
 ·have := h y h1; omega
 exact hx
theorem FG {B : Int} (hB : 0 ≤ B) {s : List Int} (h : Kr B s) (k : Nat) : -B ≤ nth s k ∧ nth s k ≤ B := by
 rcases Nat.lt_or_ge k s.length with hk | hk
 ·exact h _ (bL hk)
 have : nth s k = 0 := by unfold nth; rw [List.getD_eq_getElem?_getD, List.getElem?_eq_none hk]; rfl
 omega
theorem MC {t : mO} (hx : 1 ≤ t.sacks ∧ t.sacks ≤ 300) {B : Int} (hB : 0 ≤ B) {s : List Int} (h : Kr B s) : Kr (B + 300) (l6 t s) := by
 unfold l6
 split
 ·have := FG hB h t.src.toNat
  exact Ji h (by omega) (by omega)
 intro x hx; have := h x hx; omega
theorem LQ {t : mO} (hx : 1 ≤ t.sacks ∧ t.sacks ≤ 300) {B : Int} (hB : 0 ≤ B) {s : List Int} (h : Kr B s) : Kr (B + 300) (vm t s) := by
 unfold vm
 split
 ·have := FG hB h t.dst.toNat
  exact Ji h (by omega) (by omega)
 intro x hx; have := h x hx; omega
theorem Ph {f : bS} (hr : f.jC) {B : Int} (hB : 0 ≤ B) {s : List Int} (h : Kr B s) {i : Int} (hi : i.toNat < f.turnings.length) : Kr (B + 600) (kg f s i) := by
 have hx := hr.sacksR _ (bL hi)
 have := LQ hx (by omega) (MC hx hB h)
 intro x hx; have := this x hx; omega
theorem GJ {f : bS} (hr : f.jC) : ∀ (l : List Int) (B : Int) (s : List Int), 0 ≤ B → Kr B s → (∀ x ∈ l, 0 ≤ x ∧ x < f.turnings.length) → Kr (B + 600 * l.length) (l.foldl (kg f) s)
  | [], B, s, _, h, _ => by simpa using h
  | i :: l, B, s, hB, h, hl => by
    have h1 := hl i List.mem_cons_self
    have := GJ hr l (B + 600) (kg f s i) (by omega) (Ph hr hB h (by omega)) fun x hx => hl x (List.mem_cons_of_mem _ hx)
    rw [List.foldl_cons]
    intro x hx
    have := this x hx
    simp only [List.length_cons]
    omega
theorem I3 {f : bS} (hr : f.jC) {order : List Int} (ho : ∀ x ∈ order, 0 ≤ x ∧ x < f.turnings.length) (hl : order.length ≤ 20) (k : Nat) : Kr 12300 (kN f order k) := by
 have := GJ hr (order.take k) 300 (f.bins.map qP.has) (by omega) (fun x hx => by
  obtain ⟨b, hb, rfl⟩ := List.mem_map.1 hx
  have := hr.hasR b hb; omega) fun x hx => ho x (List.mem_of_mem_take hx)
 intro x hx
 have := this x hx
 rw [List.length_take] at this
 omega
def n5 (f : bS) (s : List Int) (i b : Nat) : Int := ((List.range i).map fun q => nth s q * nth (nth f.bins q).shares b).sum
theorem sU (f : bS) (s : List Int) (i b : Nat) : n5 f s (i + 1) b = n5 f s i b + nth s i * nth (nth f.bins i).shares b := by
 simp [n5, List.range_succ]
theorem Mj {a c B : Int} (h : -B ≤ a ∧ a ≤ B) (hc : 0 ≤ c ∧ c ≤ 4) : -(4 * B) ≤ a * c ∧ a * c ≤ 4 * B := by
 have : c = 0 ∨ c = 1 ∨ c = 2 ∨ c = 3 ∨ c = 4 := by omega
 rcases this with rfl | rfl | rfl | rfl | rfl <;> omega
theorem oD {f : bS} (hr : f.jC) {i b : Nat} (hi : i < f.bins.length) : 0 ≤ nth (nth f.bins i).shares b ∧ nth (nth f.bins i).shares b ≤ 4 := by
 rcases Nat.lt_or_ge b (nth f.bins i).shares.length with hk | hk
 ·exact hr.sharesR _ (bL hi) _ (bL hk)
 have : nth (nth f.bins i).shares b = 0 := by
  show (nth f.bins i).shares.getD b default = 0
  rw [List.getD_eq_getElem?_getD, List.getElem?_eq_none hk]; rfl
 omega
theorem zU {f : bS} (hr : f.jC) {s : List Int} (h : Kr 12300 s) : ∀ (i b : Nat), i ≤ f.bins.length → -(49200 * i) ≤ n5 f s i b ∧ n5 f s i b ≤ 49200 * i
  | 0, b, _ => by simp [n5]
  | i + 1, b, hi => by
    rw [sU]
    have h1 := zU hr h i b (by omega)
    have h2 := Mj (FG (by omega) h i) (oD hr (b := b) (show i < f.bins.length by omega))
    omega
def sH (f : bS) (s : List Int) : List Int := (List.range f.bears.length).map fun b => n5 f s f.bins.length b
def gF (f : bS) (order : List Int) : List (List Int) := (List.range (order.length + 1)).map fun k => sH f (kN f order k)
end Go.Proofs.YtmmcenjknimhbaaGreat
namespace Go.Proofs.YtmmcenjknimhbaaGreat
open Go.T
theorem Ik (f : bS) (order : List Int) : (gF f order).length = order.length + 1 := by simp [gF]
theorem cy {α : Type} [Inhabited α] {n k : Nat} (g : Nat → α) (h : k < n) : nth ((List.range n).map g) k = g k := by
 rw [cF (by simpa using h)]; simp
theorem jr {f : bS} {order : List Int} {k : Nat} (h : k ≤ order.length) : nth (gF f order) k = sH f (kN f order k) := cy _ (by omega)
theorem sn (f : bS) (s : List Int) : (sH f s).length = f.bears.length := by simp [sH]
theorem KS {f : bS} {order : List Int} {k : Nat} (h : k ≤ order.length) : (nth (gF f order) k).length = f.bears.length := by rw [jr h, sn]
theorem qK {l : List Int} {k : Nat} (h : l.length ≤ k) : nth l k = 0 := by
 show l.getD k default = 0
 rw [List.getD_eq_getElem?_getD, List.getElem?_eq_none h]; rfl
theorem GY {f : bS} (hr : f.jC) {s : List Int} (h : Kr 12300 s) (b : Nat) : -300000 ≤ nth (sH f s) b ∧ nth (sH f s) b ≤ 300000 := by
 rcases Nat.lt_or_ge b f.bears.length with hb | hb
 ·rw [sH, cy _ hb]
  have := zU hr h f.bins.length b (Nat.le_refl _)
  have := hr.bins; omega
 rw [qK (by rw [sn]; exact hb)]; omega
theorem IG {f : bS} (hr : f.jC) {order : List Int} (ho : ∀ x ∈ order, 0 ≤ x ∧ x < f.turnings.length) (hl : order.length ≤ 20) {k : Nat} (h : k ≤ order.length) (b : Nat) : -300000 ≤ nth (nth (gF f order) k) b ∧ nth (nth (gF f order) k) b ≤ 300000 := by
 rw [jr h]; exact GY hr (I3 hr ho hl k) b
theorem Aj {f : bS} (hr : f.jC) (b : Nat) : 0 ≤ nth f.bears b ∧ nth f.bears b ≤ 4000 := by
 rcases Nat.lt_or_ge b f.bears.length with hb | hb
 ·exact hr.bearsR _ (bL hb)
 rw [qK hb]; omega
def TG (f : bS) (t : Int) (b : Nat) : Int := nth (nth (gF f [t]) 1) b - nth (nth (gF f [t]) 0) b
def r8 (f : bS) (l : List Int) (j : Nat) (n : Int) : Int := (List.range j).foldl (fun n b => min n (nth f.bears b - nth l b)) n
theorem yF (f : bS) (l : List Int) (j : Nat) (n : Int) : r8 f l (j + 1) n = min (r8 f l j n) (nth f.bears j - nth l j) := by
 simp [r8, List.range_succ]
def rm (f : bS) (ls : List (List Int)) (k : Nat) : Int := (ls.take k).foldl (fun n l => r8 f l f.bears.length n) (nth f.bears 0 - nth (nth ls 0) 0)
theorem B4 {f : bS} {ls : List (List Int)} {k : Nat} (h : k < ls.length) : rm f ls (k + 1) = r8 f (nth ls k) f.bears.length (rm f ls k) := by
 simp only [rm]; rw [bh h, List.foldl_append]; rfl
def gk (f : bS) (order : List Int) : Int := rm f (gF f order) (order.length + 1)
def rC (f : bS) (l : List Int) : Option Nat := (List.range f.bears.length).find? fun b => decide (nth l b > nth f.bears b)
def rB (f : bS) (order : List Int) : Option (Nat × Nat) := (List.range (order.length + 1)).findSome? fun k => (rC f (nth (gF f order) k)).map fun b => (k, b)
theorem y5 {n : Nat} {p : Nat → Bool} (h : ∀ j, j < n → p j = false) : (List.range n).find? p = none := by
 rw [List.find?_eq_none]; intro x hx; rw [h x (List.mem_range.1 hx)]; decide
theorem tN {α : Type} {n : Nat} {p : Nat → Option α} (h : ∀ j, j < n → p j = none) : (List.range n).findSome? p = none := by
 rw [List.findSome?_eq_none_iff]; intro j hj; exact h j (List.mem_range.1 hj)
def breakT (f : bS) (order : List Int) : Int := match rB f order with | some x => (x.1 : Int) | none => 0
def Pt (f : bS) (order : List Int) : Int := match rB f order with | some x => (x.2 : Int) | none => 0
theorem He {f : bS} {order : List Int} (h1 : ∀ j, j ≤ order.length → rC f (nth (gF f order) j) = none) : rB f order = none :=
 tN fun j hj => by rw [h1 j (by omega)]; rfl
theorem B7 {f : bS} {l : List Int} (h : ∀ j, j < f.bears.length → ¬ nth l j > nth f.bears j) : rC f l = none := y5 fun j hj => decide_eq_false (h j hj)
end Go.Proofs.YtmmcenjknimhbaaGreat
namespace Go.Proofs.YtmmcenjknimhbaaGreat
open Go.T
def jS (f : bS) (done : List Int) (t : Int) : Bool := !decide (t ∈ done) && (fX f t).all fun a => decide (a ∈ done)
def Jk (f : bS) : Nat → List Int → List (List Int)
  | 0, _ => []
  | n + 1, done => if done.length = f.turnings.length then [done] else (s6 f.turnings.length).flatMap fun t => if jS f done t = true then Jk f n (done ++ [t]) else []
def T1 (f : bS) (orders : List (List Int)) : List (List Int) := orders.filter fun l => decide (gk f l ≥ 0)
end Go.Proofs.YtmmcenjknimhbaaGreat
namespace Go.Proofs.YtmmcenjknimhbaaGreat
open Go.T
end Go.Proofs.YtmmcenjknimhbaaGreat
namespace Go.T
open Go Go.RowKit
def oz (P : Program) (t : Ty) (args : List Ty) (res : Ty) : Prop :=
  res.deps = [] ∧ res.cdeps = [] ∧ ∃ f full, cX P f full res ∧ bp full = [] ∧ bU full = [] ∧
    ∀ w M v vs, t.den w M v → cD w M args vs → ∃ first caps : Array Value, v = .func (.func f) first caps ∧ cD w M full (first.toList ++ (vs ++ caps.toList))
def VQ (f : FuncId) (bd : List Ty) (w : World) (M : ay) (x : Value) : Prop := ∃ bs : Array Value, x = .func (.func f) bs #[] ∧ cD w M bd bs.toList
def Ty.M8 (f : FuncId) (bd : List Ty) : Ty := ⟨VQ f bd, bp bd, bU bd, fun le hk hs ⟨bs, e, h⟩ => ⟨bs, e, bY le hk hs h⟩, true, fun _ ⟨_, e, _⟩ => e ▸ rfl⟩
theorem Ad {l l' : List Ty} : bp (l ++ l') = bp l ++ bp l' := by simp [bp]
theorem yj {l l' : List Ty} : bU (l ++ l') = bU l ++ bU l' := by simp [bU]
theorem cY {P : Program} {f : FuncId} {caps args : List Ty} {res : Ty} (hF : cX P f (args ++ caps) res) (h1 : bp args = []) (h2 : bU args = []) (h3 : bp caps = []) (h4 : bU caps = []) (h5 : res.deps = []) (h6 : res.cdeps = []) : oz P (.j9 f caps) args res :=
 ⟨h5, h6, f, args ++ caps, hF, by rw [Ad, h1, h3]; rfl, by rw [yj, h2, h4]; rfl, fun w M v vs ⟨cs, e, hd⟩ hv => ⟨#[], cs, e, by show cD w M (args ++ caps) (vs ++ cs.toList); exact iB hv hd⟩⟩
theorem sq {P : Program} {f : FuncId} {bd args : List Ty} {res : Ty} (hF : cX P f (bd ++ args) res) (h1 : bp args = []) (h2 : bU args = []) (h3 : bp bd = []) (h4 : bU bd = []) (h5 : res.deps = []) (h6 : res.cdeps = []) : oz P (.M8 f bd) args res :=
 ⟨h5, h6, f, bd ++ args, hF, by rw [Ad, h1, h3]; rfl, by rw [yj, h2, h4]; rfl, fun w M v vs ⟨bs, e, hd⟩ hv => ⟨bs, #[], e, by rw [List.append_nil]; exact iB hd hv⟩⟩
section
variable {P : Program} {fr : Fr} {ops : Array Oper} {A : As} {rest : List Oper} {K : As → List (As × Fx) → Prop} {d : Nat} {t ty' : TypeId} {p : String} {e : Array Edge}
theorem sY {f : FuncId} {xs : List Operand} {l : List Ty} (hx : oS A fr xs = l)
 (h : aV P fr ops rest (A.set d (.M8 f l)) fun A' l' => K A' ((A, { d := some d, ty := .M8 f l, rs := xs.flatMap bq }) :: l')) : aV P fr ops (⟨some d, .makeFunc (.func f) xs.toArray #[], t, p, e, none⟩ :: rest) A K :=
 bC (bP rfl rfl fun a w M _ hr _ => by
  have hv : cD w M l (xs.map a.eval) := hx ▸ fk hr fun x hx c hc => List.mem_flatMap.2 ⟨x, hx, hc⟩
  exact ⟨.func (.func f) (xs.map a.eval).toArray #[], by simp [execOp, Instr.makeFunc], _, rfl, by simpa using hv⟩) h
theorem eA {c : Nat} {tc : Ty} {args : List Ty} {res : Ty} (hc : A.op fr (.tmp c) = tc) (hF : oz P tc args res) {xs : List Operand} {ats : Array TypeId} (hx : oS A fr xs = args)
 (h : aV P fr ops rest (A.set d res) fun A' l => K A' ((A, { d := some d, ty := res, rs := c :: xs.flatMap bq }) :: l)) : aV P fr ops (⟨some d, .call ⟨.value (.tmp c), xs.toArray, ats⟩, t, p, e, none⟩ :: rest) A K := by
 refine ⟨{ d := some d, ty := res, rs := c :: xs.flatMap bq }, ⟨rfl, (by simp), (by simp), (by simp), fun a w M wf _ hrd _ => ?_⟩, h⟩
 rw [if_pos (by simp [Region.wanted])]
 obtain ⟨hr, hrc, f, full, hC, hd, hdc, hval⟩ := hF
 have hcv := cA (x := .tmp c) (fun u hu => by exact (List.mem_singleton.1 hu) ▸ List.mem_cons_self) hrd
 rw [hc] at hcv
 obtain ⟨first, caps, ec, hfull⟩ := hval w M _ _ hcv (hx ▸ fk hrd fun x hx c hc => List.mem_cons_of_mem _ (List.mem_flatMap.2 ⟨x, hx, hc⟩))
 have hcall := hC.2 w _ _ (E0 wf) wH (mX hd hdc hfull)
 have hrun : (execOp a.eval ⟨some d, .call ⟨.value (.tmp c), xs.toArray, ats⟩, t, p, e, none⟩).run P w = .ok (.enter f (first.toList ++ (xs.map a.eval ++ caps.toList)).toArray) w := by
  simp [execOp, resolve, ec, Deferred.ofValue, invoke, jF hC]
 refine hH hrun ?_
 refine hcall.mono fun en w' ⟨r, M', he, _, le, hden⟩ => ?_
 obtain ⟨h1, h2, h3⟩ := xF wf le hr hrc hden
 exact ⟨r, he, r, rfl, _, h1, h2, h3, by simp⟩
end
end Go.T
namespace Go.T
open Go Go.RowKit
def jd (a b : Nat) : Nat := (BitVec.ofNat 64 a &&& ~~~BitVec.ofNat 64 b).toNat
theorem wU {n : Nat} (h : n < 9223372036854775808) : IntKind.i64.wrap (n : Int) = n := IntWalk.i64_in _ (by omega)
theorem Nc {a b : Nat} (ha : a < 9223372036854775808) (hb : b < 9223372036854775808) : bits .and .i64 a b = ((a &&& b : Nat) : Int) := by
 have h : (BitVec.ofInt 64 (a : Int) &&& BitVec.ofInt 64 (b : Int)).toNat = a &&& b := by
  rw [BitVec.ofInt_natCast, BitVec.ofInt_natCast, BitVec.toNat_and, BitVec.toNat_ofNat, BitVec.toNat_ofNat, Nat.mod_eq_of_lt (by omega), Nat.mod_eq_of_lt (by omega)]
 show IntKind.i64.wrap (((BitVec.ofInt 64 (a : Int) &&& BitVec.ofInt 64 (b : Int)).toNat : Nat) : Int) = _
 rw [h, wU (Nat.lt_of_le_of_lt Nat.and_le_left ha)]
theorem RW {a b : Nat} (ha : a < 9223372036854775808) (hb : b < 9223372036854775808) : bits .or .i64 a b = ((a ||| b : Nat) : Int) := by
 have h : (BitVec.ofInt 64 (a : Int) ||| BitVec.ofInt 64 (b : Int)).toNat = a ||| b := by
  rw [BitVec.ofInt_natCast, BitVec.ofInt_natCast, BitVec.toNat_or, BitVec.toNat_ofNat, BitVec.toNat_ofNat, Nat.mod_eq_of_lt (by omega), Nat.mod_eq_of_lt (by omega)]
 show IntKind.i64.wrap (((BitVec.ofInt 64 (a : Int) ||| BitVec.ofInt 64 (b : Int)).toNat : Nat) : Int) = _
 rw [h, wU (show a ||| b < 2 ^ 63 from Nat.or_lt_two_pow (by omega) (by omega))]
theorem K6 (a b : Nat) (ha : a < 9223372036854775808) : jd a b ≤ a := by
 unfold jd
 rw [BitVec.toNat_and, BitVec.toNat_ofNat, Nat.mod_eq_of_lt (by omega)]
 exact Nat.and_le_left
theorem Fp {a b : Nat} (ha : a < 9223372036854775808) : bits .andNot .i64 a b = ((jd a b : Nat) : Int) := by
 show IntKind.i64.wrap (((BitVec.ofInt 64 (a : Int) &&& ~~~BitVec.ofInt 64 (b : Int)).toNat : Nat) : Int) = _
 rw [BitVec.ofInt_natCast, BitVec.ofInt_natCast]
 exact wU (Nat.lt_of_le_of_lt (K6 a b ha) ha)
theorem yx {a b : Nat} (ha : a < 9223372036854775808) (hb : b < 9223372036854775808) : jd a b = 0 ↔ ∀ i, a.testBit i = true → b.testBit i = true := by
  have key : ∀ i, (jd a b).testBit i = (a.testBit i && !b.testBit i) := fun i => by
    unfold jd
    rw [← BitVec.getLsbD, BitVec.getLsbD_and, BitVec.getLsbD_not, BitVec.getLsbD_ofNat, BitVec.getLsbD_ofNat]
    by_cases hi : i < 64
    · simp [hi]
    · have : a.testBit i = false := Nat.testBit_lt_two_pow (Nat.lt_of_lt_of_le ha (Nat.le_trans (by decide : 9223372036854775808 ≤ 2 ^ 64) (Nat.pow_le_pow_right (by omega) (by omega))))
      simp [hi, this]
  constructor
  · intro h i hi
    have := key i
    rw [h, hi] at this
    simp at this; exact this
  · intro h
    refine Nat.eq_of_testBit_eq fun i => ?_
    rw [key]
    cases hi : a.testBit i with
    | false => simp
    | true => simp [h i hi]
theorem lS {i : Nat} (h : i ≤ 62) : 1 <<< i < 9223372036854775808 := by
 rw [Nat.shiftLeft_eq, Nat.one_mul]
 exact Nat.pow_lt_pow_right (by omega) (show i < 63 by omega)
section
variable {P : Program} {fr : Fr} {ops : Array Oper} {A : As} {rest : List Oper} {K : As → List (As × Fx) → Prop} {d : Nat} {t ty' ty2 : TypeId} {p : String} {e : Array Edge} {x y : Operand}
theorem xw {a b : Nat} (hx : A.op fr x = .int .i64 (a : Nat)) (hy : A.op fr y = .int .i64 (b : Nat)) (h1 : a < 9223372036854775808) (h2 : b < 9223372036854775808)
 (h : aV P fr ops rest (A.set d (.int .i64 ((a &&& b : Nat) : Int))) fun A' l' => K A' ((A, { d := some d, ty := .int .i64 ((a &&& b : Nat) : Int), rs := bq x ++ bq y }) :: l')) : aV P fr ops (⟨some d, .binOp .and ty' x y ty2, t, p, e, none⟩ :: rest) A K :=
 ak (op := .and) hx hy (ty := .int .i64 ((a &&& b : Nat) : Int)) (by show some _ = some _; rw [Nc h1 h2]) h
theorem wM {a b : Nat} (hx : A.op fr x = .int .i64 (a : Nat)) (hy : A.op fr y = .int .i64 (b : Nat)) (h1 : a < 9223372036854775808) (h2 : b < 9223372036854775808)
 (h : aV P fr ops rest (A.set d (.int .i64 ((a ||| b : Nat) : Int))) fun A' l' => K A' ((A, { d := some d, ty := .int .i64 ((a ||| b : Nat) : Int), rs := bq x ++ bq y }) :: l')) : aV P fr ops (⟨some d, .binOp .or ty' x y ty2, t, p, e, none⟩ :: rest) A K :=
 ak (op := .or) hx hy (ty := .int .i64 ((a ||| b : Nat) : Int)) (by show some _ = some _; rw [RW h1 h2]) h
theorem LU {a b : Nat} (hx : A.op fr x = .int .i64 (a : Nat)) (hy : A.op fr y = .int .i64 (b : Nat)) (h1 : a < 9223372036854775808)
 (h : aV P fr ops rest (A.set d (.int .i64 ((jd a b : Nat) : Int))) fun A' l' => K A' ((A, { d := some d, ty := .int .i64 ((jd a b : Nat) : Int), rs := bq x ++ bq y }) :: l')) : aV P fr ops (⟨some d, .binOp .andNot ty' x y ty2, t, p, e, none⟩ :: rest) A K :=
 ak (op := .andNot) hx hy (ty := .int .i64 ((jd a b : Nat) : Int)) (by show some _ = some _; rw [Fp h1]) h
theorem uO {a b : Nat} (hx : A.op fr x = .int .i64 (a : Nat)) (hy : A.op fr y = .int .i64 (b : Nat)) (h1 : b ≤ 63)
 (h : aV P fr ops rest (A.set d (.int .i64 ((a >>> b : Nat) : Int))) fun A' l' => K A' ((A, { d := some d, ty := .int .i64 ((a >>> b : Nat) : Int), rs := bq x ++ bq y }) :: l')) : aV P fr ops (⟨some d, .binOp .shr ty' x y ty2, t, p, e, none⟩ :: rest) A K := by
 have e : ((a : Int) / 2 ^ (b : Int).toNat) = ((a >>> b : Nat) : Int) := by rw [Nat.shiftRight_eq_div_pow]; simp
 refine Oe hx hy (Int.natCast_nonneg _) (by show (b : Int) ≤ ((64 : Nat) : Int); omega) ?_
 rw [e]; exact h
theorem nu {a b : Nat} (hx : A.op fr x = .int .i64 (a : Nat)) (hy : A.op fr y = .int .i64 (b : Nat)) (h1 : b ≤ 63) (h2 : a <<< b < 9223372036854775808)
 (h : aV P fr ops rest (A.set d (.int .i64 ((a <<< b : Nat) : Int))) fun A' l' => K A' ((A, { d := some d, ty := .int .i64 ((a <<< b : Nat) : Int), rs := bq x ++ bq y }) :: l')) : aV P fr ops (⟨some d, .binOp .shl ty' x y ty2, t, p, e, none⟩ :: rest) A K := by
 have e : IntKind.i64.wrap ((a : Int) * 2 ^ (b : Int).toNat) = ((a <<< b : Nat) : Int) := by
  have : ((a : Int) * 2 ^ (b : Int).toNat) = ((a <<< b : Nat) : Int) := by rw [Nat.shiftLeft_eq]; simp
  rw [this, wU h2]
 refine T7 hx hy (Int.natCast_nonneg _) (by show (b : Int) ≤ ((64 : Nat) : Int); omega) ?_
 rw [e]; exact h
end
end Go.T
namespace Go.Proofs.YtmmcenjknimhbaaGreat
open Go.T
def ou (s k : Nat) : List Int := ((List.range k).filter fun i => s.testBit i).map fun (i : Nat) => (i : Int)
def cQ (s : Nat) : List Int := ou s 8
theorem sF (s k : Nat) : ou s (k + 1) = ou s k ++ if s.testBit k = true then [(k : Int)] else [] := by
 unfold ou
 rw [List.range_succ, List.filter_append, List.map_append]
 congr 1
 by_cases h : s.testBit k = true
 ·simp [h]
 simp [h]
theorem iQ (s i : Nat) : ((s >>> i) &&& 1 = 1) ↔ s.testBit i = true := by
 rw [Nat.testBit, Nat.and_comm]
 have : (1 &&& s >>> i) = s >>> i % 2 := by rw [Nat.and_comm]; exact Nat.and_one_is_mod _
 rw [this]
 have := Nat.mod_two_eq_zero_or_one (s >>> i)
 constructor
 ·intro h; rw [h]; rfl
 intro h
 rcases this with h0 | h1
 ·rw [h0] at h; cases h
 exact h1
theorem Po {s i : Nat} (h : s >>> i = 0) : ∀ j, i ≤ j → s.testBit j = false := by
 intro j hj
 have : s.testBit j = (s >>> i).testBit (j - i) := by rw [Nat.testBit_shiftRight]; congr 1; omega
 rw [this, h, Nat.zero_testBit]
theorem JC {s i : Nat} (h : s >>> i = 0) : ∀ k, i ≤ k → ou s k = ou s i := by
  intro k hk
  induction k with
  | zero => rw [show i = 0 by omega]
  | succ k ih =>
    rcases Nat.lt_or_ge k i with h1 | h1
    · rw [show k + 1 = i by omega]
    · rw [sF, ih h1, if_neg (by rw [Po h k h1]; decide), List.append_nil]
theorem Dy {s i : Nat} (hs : s < 256) (h : s >>> i > 0) : i < 8 := by
 rcases Nat.lt_or_ge i 8 with h1 | h1
 ·exact h1
 exfalso
 have : s >>> i = 0 := by
  rw [Nat.shiftRight_eq_div_pow]
  exact Nat.div_eq_of_lt (Nat.lt_of_lt_of_le hs (Nat.le_trans (by decide : 256 ≤ 2 ^ 8) (Nat.pow_le_pow_right (by omega) h1)))
 omega
theorem zY (s k : Nat) : (ou s k).length ≤ k := by
 have := List.length_filter_le (fun i => s.testBit i) (List.range k)
 simpa [ou] using this
def JV (n : Int) (l : List Int) : Int := l.foldl min n
def fC (n lo hi : Int) : Bool := decide (n ≥ lo) && decide (n ≤ hi)
end Go.Proofs.YtmmcenjknimhbaaGreat
namespace Go.Proofs.YtmmcenjknimhbaaGreat
open Go.T
def lM (f : bS) : Bool := !fC f.bears.length 1 4 || decide ((f.bins.length : Int) > 6) || decide ((f.turnings.length : Int) > 8) || decide ((f.rules.length : Int) > 16) || !f.bins.all fun b => decide ((b.shares.length : Int) = f.bears.length)
def mG (f : bS) : Bool := (!f.bears.all fun n => fC n 0 4000) || !f.turnings.all fun t => fC t.sacks 1 300
def nU (f : bS) : Bool := !f.bins.all fun b => fC b.has 0 300 && b.shares.all fun n => fC n 0 4
def p5 (f : bS) : Bool := (!f.turnings.all fun t => fC t.src (-1) (f.bins.length - 1) && fC t.dst (-1) (f.bins.length - 1)) || !f.rules.all fun r => fC r.fst 0 (f.turnings.length - 1) && fC r.nxt 0 (f.turnings.length - 1)
def uf (f : bS) : Bool := !f.turnings.all fun t => !decide (t.src = t.dst)
def rS (f : bS) : Bool := !f.bins.all fun b => decide (b.shares.sum = 4)
def xN (f : bS) : Bool := (s6 f.bins.length).any fun i => decide (gx f f.turnings i > (nth f.bins i.toNat).has)
def ig (f : bS) : Int := if lM f then 2 else if mG f then 3 else if nU f then 3 else if p5 f then 1 else if uf f then 5 else if rS f then 8 else if xN f then 8 else 0
theorem fI {n lo hi : Int} (h : fC n lo hi = true) : lo ≤ n ∧ n ≤ hi := by
 simp only [fC, Bool.and_eq_true, decide_eq_true_eq] at h; exact h
theorem vV {f : bS} (h1 : lM f = false) (h2 : mG f = false) (h3 : nU f = false) : f.jC := by
 simp only [lM, Bool.or_eq_false_iff, decide_eq_false_iff_not, Bool.not_eq_false'] at h1
 simp only [mG, Bool.or_eq_false_iff, Bool.not_eq_false', List.all_eq_true] at h2
 simp only [nU, Bool.not_eq_false', List.all_eq_true, Bool.and_eq_true] at h3
 obtain ⟨⟨⟨⟨a, b⟩, c⟩, d⟩, e⟩ := h1
 have ha := fI a
 simp only [List.all_eq_true, decide_eq_true_eq] at e
 exact ⟨by omega, by omega, by omega, by omega, by omega, fun x hx => by have := e x hx; omega, fun n hn => fI (h2.1 n hn), fun x hx => fI (h3 x hx).1, fun x hx n hn => fI ((h3 x hx).2 n hn), fun t ht => fI (h2.2 t ht)⟩
end Go.Proofs.YtmmcenjknimhbaaGreat
namespace Go.T
open Go Go.RowKit
section
variable {P : Program} {fr : Fr} {ops : Array Oper} {A : As} {rest : List Oper} {K : As → List (As × Fx) → Prop} {d : Nat} {t ty' : TypeId} {p : String} {e : Array Edge} [T : lQ P]
variable {α : Type} [Inhabited α] {E : El α} {xs : List α} {x y : Operand} {tg i o s Tb : Nat} {ti : TI} {ty : Ty} {z : α}
theorem fU {off n : Nat} {k : IntKind} {j : Int} {te : TI} {el : Nat} (hx : A.op fr x = .ptr tg off) (hy : A.op fr y = .int k j) (hT : T.tab[ty']? = some ti) (hk : ti.k = .array n el) (hE : T.tab[el]? = some te) (h0 : 0 ≤ j) (h1 : j.toNat < n)
 (h : aV P fr ops rest (A.set d (.ptr tg (off + j.toNat * te.size))) fun A' l' => K A' ((A, { d := some d, ty := .ptr tg (off + j.toNat * te.size), rs := bq x ++ bq y }) :: l')) : aV P fr ops (⟨some d, .indexAddr ty' x y, t, p, e, none⟩ :: rest) A K :=
 bC (bP rfl rfl fun a w M _ hr _ => by
  obtain ⟨hdx, hdy⟩ := op2 hr
  rw [hx] at hdx; rw [hy] at hdy
  obtain ⟨b, hb, ex⟩ := hdx
  have ey : a.eval y = .int k j := hdy
  exact ⟨_, by simp only [execOp, ex, ey, Sem.run_bind, iH hT hk hE h0 h1]; rfl, b, hb, rfl⟩) h
end
end Go.T
namespace Go.Proofs.YtmmcenjknimhbaaGreat
open Go.T
def y6 : El Nat := El.mk' 1 (fun n => [Ty.int .i64 (n : Nat)]) (fun _ => rfl) (fun _ => ⟨rfl, rfl, rfl⟩)
def fM (out : List Nat) (r : kT) : List Nat := out.set r.nxt.toNat (nth out r.nxt.toNat ||| (nth out r.fst.toNat ||| 1 <<< r.fst.toNat))
def mK (f : bS) (out : List Nat) : List Nat := f.rules.foldl fM out
def mP (f : bS) : Nat → List Nat → List Nat
  | 0, out => out
  | n + 1, out => if mK f out = out then out else mP f n (mK f out)
def gp (f : bS) : List Nat := mP f 2041 (List.replicate 8 0)
def bS.jQ (f : bS) : Prop := f.turnings.length ≤ 8 ∧ ∀ r ∈ f.rules, (0 ≤ r.fst ∧ r.fst < f.turnings.length) ∧ (0 ≤ r.nxt ∧ r.nxt < f.turnings.length)
structure Sets (out : List Nat) : Prop where
  len : out.length = 8
  lt : ∀ e ∈ out, e < 256
theorem Sets.nth {out : List Nat} (h : Sets out) (k : Nat) : T.nth out k < 256 := by
 rcases Nat.lt_or_ge k out.length with hk | hk
 ·exact h.lt _ (bL hk)
 have : T.nth out k = 0 := by
  show out.getD k default = 0
  rw [List.getD_eq_getElem?_getD, List.getElem?_eq_none hk]; rfl
 omega
theorem Qr {out : List Nat} (h : Sets out) {a b : Nat} (hb : b < 8) : T.nth out a ||| (T.nth out b ||| 1 <<< b) < 256 := by
 refine Nat.or_lt_two_pow (n := 8) (h.nth a) (Nat.or_lt_two_pow (h.nth b) ?_)
 rw [Nat.shiftLeft_eq, Nat.one_mul]
 exact Nat.pow_lt_pow_right (by omega) hb
theorem CZ {out : List Nat} (h : Sets out) {r : kT} (hr : r.fst.toNat < 8) : Sets (fM out r) :=
 ⟨by rw [fM, List.length_set, h.len], fun e he => by
  rcases List.mem_or_eq_of_mem_set he with h1 | rfl
  ·exact h.lt e h1
  exact Qr h hr⟩
theorem Tv (a b : Nat) : a ≤ a ||| b := Nat.left_le_or
theorem Qk {l : List Nat} {k v : Nat} (hk : k < l.length) (h : nth l k ≤ v) : l.sum ≤ (l.set k v).sum ∧ ((l.set k v).sum = l.sum → l.set k v = l) := by
  induction l generalizing k with
  | nil => simp at hk
  | cons x l ih =>
    cases k with
    | zero =>
      have h : x ≤ v := h
      simp only [List.set_cons_zero, List.sum_cons]
      exact ⟨by omega, fun e => by rw [show v = x by omega]⟩
    | succ k =>
      obtain ⟨h1, h2⟩ := ih (k := k) (by simpa using hk) h
      simp only [List.set_cons_succ, List.sum_cons]
      exact ⟨by omega, fun e => by rw [h2 (by omega)]⟩
theorem Ci {out : List Nat} (h : Sets out) {r : kT} (hr : r.nxt.toNat < 8) : out.sum ≤ (fM out r).sum ∧ ((fM out r).sum = out.sum → fM out r = out) :=
 Qk (by rw [h.len]; exact hr) (Tv _ _)
theorem m9 : ∀ (l : List kT) (out : List Nat), Sets out → (∀ r ∈ l, r.fst.toNat < 8 ∧ r.nxt.toNat < 8) → Sets (l.foldl fM out) ∧ out.sum ≤ (l.foldl fM out).sum ∧ ((l.foldl fM out).sum = out.sum → l.foldl fM out = out)
  | [], out, h, _ => ⟨h, Nat.le_refl _, fun _ => rfl⟩
  | r :: l, out, h, hl => by
    have hr := hl r List.mem_cons_self
    obtain ⟨a1, a2⟩ := Ci h hr.2
    obtain ⟨b1, b2, b3⟩ := m9 l (fM out r) (CZ h hr.1) fun x hx => hl x (List.mem_cons_of_mem _ hx)
    rw [List.foldl_cons]
    refine ⟨b1, by omega, fun e => ?_⟩
    have e1 := a2 (by omega)
    rw [e1] at b3 e ⊢
    exact b3 e
theorem um {f : bS} (h : f.jQ) : ∀ r ∈ f.rules, r.fst.toNat < 8 ∧ r.nxt.toNat < 8 := fun r hr => by
 have := h.2 r hr; have := h.1; omega
theorem vB {out : List Nat} (h : Sets out) : out.sum ≤ 2040 := by
  have : ∀ l : List Nat, (∀ e ∈ l, e < 256) → l.sum ≤ 255 * l.length := fun l => by
    induction l with
    | nil => intro _; simp
    | cons x l ih => intro hl; have := ih fun e he => hl e (List.mem_cons_of_mem _ he); have := hl x List.mem_cons_self; simp only [List.sum_cons, List.length_cons]; omega
  have := this out h.lt
  rw [h.len] at this; omega
theorem Ds {f : bS} (hf : f.jQ) {n : Nat} {out : List Nat} (h : Sets out) (hn : 2040 < n + out.sum) (hne : mK f out ≠ out) : ∃ m, n = m + 1 ∧ mP f n out = mP f m (mK f out) ∧ Sets (mK f out) ∧ 2040 < m + (mK f out).sum := by
 obtain ⟨a, b, c⟩ := m9 f.rules out h (um hf)
 have hs := vB h
 have hlt : out.sum < (mK f out).sum := Nat.lt_of_le_of_ne b fun e => hne (c e.symm)
 obtain ⟨m, rfl⟩ : ∃ m, n = m + 1 := ⟨n - 1, by omega⟩
 exact ⟨m, rfl, by rw [mP, if_neg hne], a, by omega⟩
theorem O6 {f : bS} {n : Nat} {out : List Nat} (h : Sets out) (hn : 2040 < n + out.sum) (he : mK f out = out) : mP f n out = out := by
  cases n with
  | zero => have := vB h; omega
  | succ n => rw [mP, if_pos he]
theorem uR : Sets (List.replicate 8 0) := ⟨rfl, by decide⟩
end Go.Proofs.YtmmcenjknimhbaaGreat
namespace Go.Proofs.YtmmcenjknimhbaaGreat
open Go Go.T
def types : List TI := [
  ⟨.other, 1, 0, [.tuple #[]]⟩,
  ⟨.func, 1, 8, [.nilFunc]⟩,
  ⟨.int .i64, 1, 8, [.int .i64 0]⟩,
  ⟨.int .i64, 1, 8, [.int .i64 0]⟩,
  ⟨.bool, 1, 1, [.bool false]⟩,
  ⟨.int .u8, 1, 1, [.int .u8 0]⟩,
  ⟨.int .u8, 1, 1, [.int .u8 0]⟩,
  ⟨.struct [(0, 2), (1, 3), (2, 4), (3, 6)], 4, 24, [.int .i64 0, .int .i64 0, .bool false, .int .u8 0]⟩,
  ⟨.struct [(0, 2), (1, 3), (2, 4), (3, 6)], 4, 24, [.int .i64 0, .int .i64 0, .bool false, .int .u8 0]⟩,
  ⟨.string, 1, 16, [.string ByteArray.empty]⟩,
  ⟨.string, 1, 16, [.string ByteArray.empty]⟩,
  ⟨.string, 1, 16, [.string ByteArray.empty]⟩,
  ⟨.int .u64, 1, 8, [.int .u64 0]⟩,
  ⟨.struct [(0, 9), (1, 12)], 2, 24, [.string ByteArray.empty, .int .u64 0]⟩,
  ⟨.struct [(0, 9), (1, 12)], 2, 24, [.string ByteArray.empty, .int .u64 0]⟩,
  ⟨.ptr 276, 1, 8, [.pointer none]⟩,
  ⟨.ptr 279, 1, 8, [.pointer none]⟩,
  ⟨.ptr 287, 1, 8, [.pointer none]⟩,
  ⟨.struct [(0, 17)], 1, 8, [.pointer none]⟩,
  ⟨.struct [(0, 17)], 1, 8, [.pointer none]⟩,
  ⟨.other, 1, 16, [.nilIface]⟩,
  ⟨.int .i32, 1, 4, [.int .i32 0]⟩,
  ⟨.slice 5, 1, 24, [.slice none 0 0]⟩,
  ⟨.slice 3, 1, 24, [.slice none 0 0]⟩,
  ⟨.slice 44, 1, 24, [.slice none 0 0]⟩,
  ⟨.slice 34, 1, 24, [.slice none 0 0]⟩,
  ⟨.slice 92, 1, 24, [.slice none 0 0]⟩,
  ⟨.struct [(0, 23), (1, 24), (2, 25), (3, 26)], 4, 96, [.slice none 0 0, .slice none 0 0, .slice none 0 0, .slice none 0 0]⟩,
  ⟨.struct [(0, 23), (1, 24), (2, 25), (3, 26)], 4, 96, [.slice none 0 0, .slice none 0 0, .slice none 0 0, .slice none 0 0]⟩,
  ⟨.func, 1, 8, [.nilFunc]⟩,
  ⟨.ptr 95, 1, 8, [.pointer none]⟩,
  ⟨.func, 1, 8, [.nilFunc]⟩,
  ⟨.func, 1, 8, [.nilFunc]⟩,
  ⟨.struct [(0, 3), (1, 3), (2, 3)], 3, 24, [.int .i64 0, .int .i64 0, .int .i64 0]⟩,
  ⟨.struct [(0, 3), (1, 3), (2, 3)], 3, 24, [.int .i64 0, .int .i64 0, .int .i64 0]⟩,
  ⟨.func, 1, 8, [.nilFunc]⟩,
  ⟨.slice 48, 1, 24, [.slice none 0 0]⟩,
  ⟨.slice 50, 1, 24, [.slice none 0 0]⟩,
  ⟨.slice 152, 1, 24, [.slice none 0 0]⟩,
  ⟨.struct [(0, 3), (1, 36), (2, 37), (3, 38)], 4, 80, [.int .i64 0, .slice none 0 0, .slice none 0 0, .slice none 0 0]⟩,
  ⟨.struct [(0, 3), (1, 36), (2, 37), (3, 38)], 4, 80, [.int .i64 0, .slice none 0 0, .slice none 0 0, .slice none 0 0]⟩,
  ⟨.struct [(0, 23), (1, 23)], 2, 48, [.slice none 0 0, .slice none 0 0]⟩,
  ⟨.struct [(0, 23), (1, 23)], 2, 48, [.slice none 0 0, .slice none 0 0]⟩,
  ⟨.struct [(0, 3), (1, 23)], 2, 32, [.int .i64 0, .slice none 0 0]⟩,
  ⟨.struct [(0, 3), (1, 23)], 2, 32, [.int .i64 0, .slice none 0 0]⟩,
  ⟨.struct [(0, 3), (1, 3)], 2, 16, [.int .i64 0, .int .i64 0]⟩,
  ⟨.struct [(0, 3), (1, 3)], 2, 16, [.int .i64 0, .int .i64 0]⟩,
  ⟨.struct [(0, 3), (1, 46)], 3, 24, [.int .i64 0, .int .i64 0, .int .i64 0]⟩,
  ⟨.struct [(0, 3), (1, 46)], 3, 24, [.int .i64 0, .int .i64 0, .int .i64 0]⟩,
  ⟨.struct [(0, 3), (1, 3), (2, 3), (3, 46)], 5, 40, [.int .i64 0, .int .i64 0, .int .i64 0, .int .i64 0, .int .i64 0]⟩,
  ⟨.struct [(0, 3), (1, 3), (2, 3), (3, 46)], 5, 40, [.int .i64 0, .int .i64 0, .int .i64 0, .int .i64 0, .int .i64 0]⟩,
  ⟨.slice 23, 1, 24, [.slice none 0 0]⟩,
  ⟨.int .i64, 1, 8, [.int .i64 0]⟩,
  ⟨.other, 1, 0, [.tuple #[.slice none 0 0, .int .i64 0]]⟩,
  ⟨.func, 1, 8, [.nilFunc]⟩,
  ⟨.func, 1, 8, [.nilFunc]⟩,
  ⟨.func, 1, 8, [.nilFunc]⟩,
  ⟨.func, 1, 8, [.nilFunc]⟩,
  ⟨.func, 1, 8, [.nilFunc]⟩,
  ⟨.int .u16, 1, 2, [.int .u16 0]⟩,
  ⟨.slice 67, 1, 24, [.slice none 0 0]⟩,
  ⟨.struct [(0, 23), (1, 60)], 2, 48, [.slice none 0 0, .slice none 0 0]⟩,
  ⟨.struct [(0, 23), (1, 60)], 2, 48, [.slice none 0 0, .slice none 0 0]⟩,
  ⟨.func, 1, 8, [.nilFunc]⟩,
  ⟨.slice 70, 1, 24, [.slice none 0 0]⟩,
  ⟨.func, 1, 8, [.nilFunc]⟩,
  ⟨.struct [(0, 3), (1, 3), (2, 3)], 3, 24, [.int .i64 0, .int .i64 0, .int .i64 0]⟩,
  ⟨.struct [(0, 3), (1, 3), (2, 3)], 3, 24, [.int .i64 0, .int .i64 0, .int .i64 0]⟩,
  ⟨.func, 1, 8, [.nilFunc]⟩,
  ⟨.struct [(0, 3), (1, 3)], 2, 16, [.int .i64 0, .int .i64 0]⟩,
  ⟨.struct [(0, 3), (1, 3)], 2, 16, [.int .i64 0, .int .i64 0]⟩,
  ⟨.other, 1, 0, [.tuple #[.agg #[.slice none 0 0, .slice none 0 0], .int .i64 0]]⟩,
  ⟨.func, 1, 8, [.nilFunc]⟩,
  ⟨.slice 60, 1, 24, [.slice none 0 0]⟩,
  ⟨.func, 1, 8, [.nilFunc]⟩,
  ⟨.func, 1, 8, [.nilFunc]⟩,
  ⟨.func, 1, 8, [.nilFunc]⟩,
  ⟨.other, 1, 0, [.tuple #[.int .i64 0, .int .i64 0]]⟩,
  ⟨.func, 1, 8, [.nilFunc]⟩,
  ⟨.func, 1, 8, [.nilFunc]⟩,
  ⟨.func, 1, 8, [.nilFunc]⟩,
  ⟨.slice 46, 1, 24, [.slice none 0 0]⟩,
  ⟨.other, 1, 0, [.tuple #[.slice none 0 0, .int .i64 0]]⟩,
  ⟨.func, 1, 8, [.nilFunc]⟩,
  ⟨.func, 1, 8, [.nilFunc]⟩,
  ⟨.func, 1, 8, [.nilFunc]⟩,
  ⟨.func, 1, 8, [.nilFunc]⟩,
  ⟨.func, 1, 8, [.nilFunc]⟩,
  ⟨.func, 1, 8, [.nilFunc]⟩,
  ⟨.func, 1, 8, [.nilFunc]⟩,
  ⟨.func, 1, 8, [.nilFunc]⟩,
  ⟨.struct [(0, 3), (1, 3)], 2, 16, [.int .i64 0, .int .i64 0]⟩,
  ⟨.struct [(0, 3), (1, 3)], 2, 16, [.int .i64 0, .int .i64 0]⟩,
  ⟨.int .u32, 1, 4, [.int .u32 0]⟩,
  ⟨.struct [(0, 22), (1, 3), (2, 93)], 3, 40, [.slice none 0 0, .int .i64 0, .int .u32 0]⟩,
  ⟨.struct [(0, 22), (1, 3), (2, 93)], 3, 40, [.slice none 0 0, .int .i64 0, .int .u32 0]⟩,
  ⟨.func, 1, 8, [.nilFunc]⟩,
  ⟨.func, 1, 8, [.nilFunc]⟩,
  ⟨.func, 1, 8, [.nilFunc]⟩,
  ⟨.func, 1, 8, [.nilFunc]⟩,
  ⟨.func, 1, 8, [.nilFunc]⟩,
  ⟨.func, 1, 8, [.nilFunc]⟩,
  ⟨.ptr 160, 1, 8, [.pointer none]⟩,
  ⟨.other, 1, 0, [.tuple #[.pointer none, .slice none 0 0, .int .i64 0]]⟩,
  ⟨.func, 1, 8, [.nilFunc]⟩,
  ⟨.array 4 3, 4, 32, [.int .i64 0, .int .i64 0, .int .i64 0, .int .i64 0]⟩,
  ⟨.array 4 3, 4, 32, [.int .i64 0, .int .i64 0, .int .i64 0, .int .i64 0]⟩,
  ⟨.func, 1, 8, [.nilFunc]⟩,
  ⟨.func, 1, 8, [.nilFunc]⟩,
  ⟨.func, 1, 8, [.nilFunc]⟩,
  ⟨.func, 1, 8, [.nilFunc]⟩,
  ⟨.struct [(0, 3), (1, 3), (2, 3)], 3, 24, [.int .i64 0, .int .i64 0, .int .i64 0]⟩,
  ⟨.struct [(0, 3), (1, 3), (2, 3)], 3, 24, [.int .i64 0, .int .i64 0, .int .i64 0]⟩,
  ⟨.slice 112, 1, 24, [.slice none 0 0]⟩,
  ⟨.other, 1, 0, [.tuple #[.slice none 0 0, .int .i64 0]]⟩,
  ⟨.func, 1, 8, [.nilFunc]⟩,
  ⟨.func, 1, 8, [.nilFunc]⟩,
  ⟨.other, 1, 0, [.tuple #[.slice none 0 0, .int .i64 0, .int .i64 0]]⟩,
  ⟨.func, 1, 8, [.nilFunc]⟩,
  ⟨.other, 1, 0, [.tuple #[.slice none 0 0, .bool false]]⟩,
  ⟨.func, 1, 8, [.nilFunc]⟩,
  ⟨.func, 1, 8, [.nilFunc]⟩,
  ⟨.other, 1, 0, [.tuple #[.agg #[.slice none 0 0, .slice none 0 0], .slice none 0 0, .int .i64 0]]⟩,
  ⟨.func, 1, 8, [.nilFunc]⟩,
  ⟨.func, 1, 8, [.nilFunc]⟩,
  ⟨.other, 1, 0, [.tuple #[.pointer none, .int .i64 0]]⟩,
  ⟨.func, 1, 8, [.nilFunc]⟩,
  ⟨.other, 1, 0, [.tuple #[.int .i64 0, .int .i64 0]]⟩,
  ⟨.func, 1, 8, [.nilFunc]⟩,
  ⟨.func, 1, 8, [.nilFunc]⟩,
  ⟨.func, 1, 8, [.nilFunc]⟩,
  ⟨.other, 1, 0, [.tuple #[.slice none 0 0, .int .i64 0, .int .i64 0]]⟩,
  ⟨.func, 1, 8, [.nilFunc]⟩,
  ⟨.func, 1, 8, [.nilFunc]⟩,
  ⟨.func, 1, 8, [.nilFunc]⟩,
  ⟨.other, 1, 0, [.tuple #[.bool false, .int .i64 0]]⟩,
  ⟨.func, 1, 8, [.nilFunc]⟩,
  ⟨.func, 1, 8, [.nilFunc]⟩,
  ⟨.ptr 203, 1, 8, [.pointer none]⟩,
  ⟨.other, 1, 0, [.tuple #[.pointer none, .int .i64 0]]⟩,
  ⟨.func, 1, 8, [.nilFunc]⟩,
  ⟨.func, 1, 8, [.nilFunc]⟩,
  ⟨.func, 1, 8, [.nilFunc]⟩,
  ⟨.func, 1, 8, [.nilFunc]⟩,
  ⟨.func, 1, 8, [.nilFunc]⟩,
  ⟨.func, 1, 8, [.nilFunc]⟩,
  ⟨.func, 1, 8, [.nilFunc]⟩,
  ⟨.func, 1, 8, [.nilFunc]⟩,
  ⟨.func, 1, 8, [.nilFunc]⟩,
  ⟨.func, 1, 8, [.nilFunc]⟩,
  ⟨.func, 1, 8, [.nilFunc]⟩,
  ⟨.struct [(0, 3), (1, 3), (2, 46)], 4, 32, [.int .i64 0, .int .i64 0, .int .i64 0, .int .i64 0]⟩,
  ⟨.struct [(0, 3), (1, 3), (2, 46)], 4, 32, [.int .i64 0, .int .i64 0, .int .i64 0, .int .i64 0]⟩,
  ⟨.func, 1, 8, [.nilFunc]⟩,
  ⟨.func, 1, 8, [.nilFunc]⟩,
  ⟨.func, 1, 8, [.nilFunc]⟩,
  ⟨.func, 1, 8, [.nilFunc]⟩,
  ⟨.array 8 3, 8, 64, [.int .i64 0, .int .i64 0, .int .i64 0, .int .i64 0, .int .i64 0, .int .i64 0, .int .i64 0, .int .i64 0]⟩,
  ⟨.array 8 106, 32, 256, [.int .i64 0, .int .i64 0, .int .i64 0, .int .i64 0, .int .i64 0, .int .i64 0, .int .i64 0, .int .i64 0, .int .i64 0, .int .i64 0, .int .i64 0, .int .i64 0, .int .i64 0, .int .i64 0, .int .i64 0, .int .i64 0, .int .i64 0, .int .i64 0, .int .i64 0, .int .i64 0, .int .i64 0, .int .i64 0, .int .i64 0, .int .i64 0, .int .i64 0, .int .i64 0, .int .i64 0, .int .i64 0, .int .i64 0, .int .i64 0, .int .i64 0, .int .i64 0]⟩,
  ⟨.struct [(0, 28), (4, 157), (12, 158), (44, 106)], 48, 448, [.slice none 0 0, .slice none 0 0, .slice none 0 0, .slice none 0 0, .int .i64 0, .int .i64 0, .int .i64 0, .int .i64 0, .int .i64 0, .int .i64 0, .int .i64 0, .int .i64 0, .int .i64 0, .int .i64 0, .int .i64 0, .int .i64 0, .int .i64 0, .int .i64 0, .int .i64 0, .int .i64 0, .int .i64 0, .int .i64 0, .int .i64 0, .int .i64 0, .int .i64 0, .int .i64 0, .int .i64 0, .int .i64 0, .int .i64 0, .int .i64 0, .int .i64 0, .int .i64 0, .int .i64 0, .int .i64 0, .int .i64 0, .int .i64 0, .int .i64 0, .int .i64 0, .int .i64 0, .int .i64 0, .int .i64 0, .int .i64 0, .int .i64 0, .int .i64 0, .int .i64 0, .int .i64 0, .int .i64 0, .int .i64 0]⟩,
  ⟨.struct [(0, 28), (4, 157), (12, 158), (44, 106)], 48, 448, [.slice none 0 0, .slice none 0 0, .slice none 0 0, .slice none 0 0, .int .i64 0, .int .i64 0, .int .i64 0, .int .i64 0, .int .i64 0, .int .i64 0, .int .i64 0, .int .i64 0, .int .i64 0, .int .i64 0, .int .i64 0, .int .i64 0, .int .i64 0, .int .i64 0, .int .i64 0, .int .i64 0, .int .i64 0, .int .i64 0, .int .i64 0, .int .i64 0, .int .i64 0, .int .i64 0, .int .i64 0, .int .i64 0, .int .i64 0, .int .i64 0, .int .i64 0, .int .i64 0, .int .i64 0, .int .i64 0, .int .i64 0, .int .i64 0, .int .i64 0, .int .i64 0, .int .i64 0, .int .i64 0, .int .i64 0, .int .i64 0, .int .i64 0, .int .i64 0, .int .i64 0, .int .i64 0, .int .i64 0, .int .i64 0]⟩,
  ⟨.func, 1, 8, [.nilFunc]⟩,
  ⟨.func, 1, 8, [.nilFunc]⟩,
  ⟨.map 3 3, 1, 8, [.map none]⟩,
  ⟨.func, 1, 8, [.nilFunc]⟩,
  ⟨.struct [(0, 89)], 1, 8, [.nilFunc]⟩,
  ⟨.struct [(0, 89)], 1, 8, [.nilFunc]⟩,
  ⟨.func, 1, 8, [.nilFunc]⟩,
  ⟨.func, 1, 8, [.nilFunc]⟩,
  ⟨.func, 1, 8, [.nilFunc]⟩,
  ⟨.func, 1, 8, [.nilFunc]⟩,
  ⟨.func, 1, 8, [.nilFunc]⟩,
  ⟨.func, 1, 8, [.nilFunc]⟩,
  ⟨.func, 1, 8, [.nilFunc]⟩,
  ⟨.func, 1, 8, [.nilFunc]⟩,
  ⟨.func, 1, 8, [.nilFunc]⟩,
  ⟨.func, 1, 8, [.nilFunc]⟩,
  ⟨.func, 1, 8, [.nilFunc]⟩,
  ⟨.func, 1, 8, [.nilFunc]⟩,
  ⟨.func, 1, 8, [.nilFunc]⟩,
  ⟨.func, 1, 8, [.nilFunc]⟩,
  ⟨.struct [(0, 180)], 1, 8, [.nilFunc]⟩,
  ⟨.struct [(0, 180)], 1, 8, [.nilFunc]⟩,
  ⟨.ptr 218, 1, 8, [.pointer none]⟩,
  ⟨.other, 1, 0, [.tuple #[.pointer none, .int .i64 0]]⟩,
  ⟨.func, 1, 8, [.nilFunc]⟩,
  ⟨.map 188 220, 1, 8, [.map none]⟩,
  ⟨.array 6 3, 6, 48, [.int .i64 0, .int .i64 0, .int .i64 0, .int .i64 0, .int .i64 0, .int .i64 0]⟩,
  ⟨.array 6 3, 6, 48, [.int .i64 0, .int .i64 0, .int .i64 0, .int .i64 0, .int .i64 0, .int .i64 0]⟩,
  ⟨.struct [(0, 186), (1, 188), (7, 4)], 8, 64, [.map none, .int .i64 0, .int .i64 0, .int .i64 0, .int .i64 0, .int .i64 0, .int .i64 0, .bool false]⟩,
  ⟨.struct [(0, 186), (1, 188), (7, 4)], 8, 64, [.map none, .int .i64 0, .int .i64 0, .int .i64 0, .int .i64 0, .int .i64 0, .int .i64 0, .bool false]⟩,
  ⟨.func, 1, 8, [.nilFunc]⟩,
  ⟨.func, 1, 8, [.nilFunc]⟩,
  ⟨.func, 1, 8, [.nilFunc]⟩,
  ⟨.slice 64, 1, 24, [.slice none 0 0]⟩,
  ⟨.other, 1, 0, [.tuple #[.slice none 0 0, .int .i64 0]]⟩,
  ⟨.func, 1, 8, [.nilFunc]⟩,
  ⟨.func, 1, 8, [.nilFunc]⟩,
  ⟨.array 8 4, 8, 8, [.bool false, .bool false, .bool false, .bool false, .bool false, .bool false, .bool false, .bool false]⟩,
  ⟨.array 8 4, 8, 8, [.bool false, .bool false, .bool false, .bool false, .bool false, .bool false, .bool false, .bool false]⟩,
  ⟨.func, 1, 8, [.nilFunc]⟩,
  ⟨.slice 238, 1, 24, [.slice none 0 0]⟩,
  ⟨.struct [(0, 40), (4, 201), (5, 23)], 6, 128, [.int .i64 0, .slice none 0 0, .slice none 0 0, .slice none 0 0, .slice none 0 0, .slice none 0 0]⟩,
  ⟨.struct [(0, 40), (4, 201), (5, 23)], 6, 128, [.int .i64 0, .slice none 0 0, .slice none 0 0, .slice none 0 0, .slice none 0 0, .slice none 0 0]⟩,
  ⟨.func, 1, 8, [.nilFunc]⟩,
  ⟨.struct [(0, 89), (1, 4)], 2, 16, [.nilFunc, .bool false]⟩,
  ⟨.struct [(0, 89), (1, 4)], 2, 16, [.nilFunc, .bool false]⟩,
  ⟨.int .u64, 1, 8, [.int .u64 0]⟩,
  ⟨.func, 1, 8, [.nilFunc]⟩,
  ⟨.func, 1, 8, [.nilFunc]⟩,
  ⟨.func, 1, 8, [.nilFunc]⟩,
  ⟨.func, 1, 8, [.nilFunc]⟩,
  ⟨.func, 1, 8, [.nilFunc]⟩,
  ⟨.func, 1, 8, [.nilFunc]⟩,
  ⟨.func, 1, 8, [.nilFunc]⟩,
  ⟨.func, 1, 8, [.nilFunc]⟩,
  ⟨.func, 1, 8, [.nilFunc]⟩,
  ⟨.struct [(0, 62), (2, 188)], 8, 96, [.slice none 0 0, .slice none 0 0, .int .i64 0, .int .i64 0, .int .i64 0, .int .i64 0, .int .i64 0, .int .i64 0]⟩,
  ⟨.struct [(0, 62), (2, 188)], 8, 96, [.slice none 0 0, .slice none 0 0, .int .i64 0, .int .i64 0, .int .i64 0, .int .i64 0, .int .i64 0, .int .i64 0]⟩,
  ⟨.struct [(0, 188), (6, 64), (7, 3)], 8, 80, [.int .i64 0, .int .i64 0, .int .i64 0, .int .i64 0, .int .i64 0, .int .i64 0, .slice none 0 0, .int .i64 0]⟩,
  ⟨.struct [(0, 188), (6, 64), (7, 3)], 8, 80, [.int .i64 0, .int .i64 0, .int .i64 0, .int .i64 0, .int .i64 0, .int .i64 0, .slice none 0 0, .int .i64 0]⟩,
  ⟨.slice 188, 1, 24, [.slice none 0 0]⟩,
  ⟨.map 3 221, 1, 8, [.map none]⟩,
  ⟨.map 188 4, 1, 8, [.map none]⟩,
  ⟨.func, 1, 8, [.nilFunc]⟩,
  ⟨.func, 1, 8, [.nilFunc]⟩,
  ⟨.func, 1, 8, [.nilFunc]⟩,
  ⟨.func, 1, 8, [.nilFunc]⟩,
  ⟨.other, 1, 0, [.tuple #[.agg #[.int .i64 0, .int .i64 0, .int .i64 0, .int .i64 0, .int .i64 0, .int .i64 0, .slice none 0 0, .int .i64 0], .bool false]]⟩,
  ⟨.func, 1, 8, [.nilFunc]⟩,
  ⟨.func, 1, 8, [.nilFunc]⟩,
  ⟨.func, 1, 8, [.nilFunc]⟩,
  ⟨.func, 1, 8, [.nilFunc]⟩,
  ⟨.func, 1, 8, [.nilFunc]⟩,
  ⟨.func, 1, 8, [.nilFunc]⟩,
  ⟨.func, 1, 8, [.nilFunc]⟩,
  ⟨.func, 1, 8, [.nilFunc]⟩,
  ⟨.struct [(0, 3), (1, 3), (2, 3), (3, 3)], 4, 32, [.int .i64 0, .int .i64 0, .int .i64 0, .int .i64 0]⟩,
  ⟨.struct [(0, 3), (1, 3), (2, 3), (3, 3)], 4, 32, [.int .i64 0, .int .i64 0, .int .i64 0, .int .i64 0]⟩,
  ⟨.other, 1, 0, [.tuple #[.int .i64 0, .bool false]]⟩,
  ⟨.func, 1, 8, [.nilFunc]⟩,
  ⟨.slice 244, 1, 24, [.slice none 0 0]⟩,
  ⟨.func, 1, 8, [.nilFunc]⟩,
  ⟨.struct [(0, 3), (1, 4)], 2, 16, [.int .i64 0, .bool false]⟩,
  ⟨.struct [(0, 3), (1, 4)], 2, 16, [.int .i64 0, .bool false]⟩,
  ⟨.func, 1, 8, [.nilFunc]⟩,
  ⟨.func, 1, 8, [.nilFunc]⟩,
  ⟨.func, 1, 8, [.nilFunc]⟩,
  ⟨.func, 1, 8, [.nilFunc]⟩,
  ⟨.func, 1, 8, [.nilFunc]⟩,
  ⟨.func, 1, 8, [.nilFunc]⟩,
  ⟨.func, 1, 8, [.nilFunc]⟩,
  ⟨.func, 1, 8, [.nilFunc]⟩,
  ⟨.func, 1, 8, [.nilFunc]⟩,
  ⟨.func, 1, 8, [.nilFunc]⟩,
  ⟨.func, 1, 8, [.nilFunc]⟩,
  ⟨.func, 1, 8, [.nilFunc]⟩,
  ⟨.func, 1, 8, [.nilFunc]⟩,
  ⟨.func, 1, 8, [.nilFunc]⟩,
  ⟨.func, 1, 8, [.nilFunc]⟩,
  ⟨.func, 1, 8, [.nilFunc]⟩,
  ⟨.func, 1, 8, [.nilFunc]⟩,
  ⟨.func, 1, 8, [.nilFunc]⟩,
  ⟨.func, 1, 8, [.nilFunc]⟩,
  ⟨.map 3 244, 1, 8, [.map none]⟩,
  ⟨.func, 1, 8, [.nilFunc]⟩,
  ⟨.other, 1, 0, [.tuple #[.agg #[.int .i64 0, .bool false], .bool false]]⟩,
  ⟨.func, 1, 8, [.nilFunc]⟩,
  ⟨.map 3 241, 1, 8, [.map none]⟩,
  ⟨.func, 1, 8, [.nilFunc]⟩,
  ⟨.func, 1, 8, [.nilFunc]⟩,
  ⟨.func, 1, 8, [.nilFunc]⟩,
  ⟨.func, 1, 8, [.nilFunc]⟩,
  ⟨.func, 1, 8, [.nilFunc]⟩,
  ⟨.func, 1, 8, [.nilFunc]⟩,
  ⟨.struct [(0, 17), (1, 17), (2, 17), (3, 9)], 4, 40, [.pointer none, .pointer none, .pointer none, .string ByteArray.empty]⟩,
  ⟨.struct [(0, 17), (1, 17), (2, 17), (3, 9)], 4, 40, [.pointer none, .pointer none, .pointer none, .string ByteArray.empty]⟩,
  ⟨.array 0 16, 0, 0, []⟩,
  ⟨.struct [(0, 277)], 0, 0, []⟩,
  ⟨.struct [(0, 277)], 0, 0, []⟩,
  ⟨.int .u8, 1, 1, [.int .u8 0]⟩,
  ⟨.int .u8, 1, 1, [.int .u8 0]⟩,
  ⟨.func, 1, 8, [.nilFunc]⟩,
  ⟨.ptr 5, 1, 8, [.pointer none]⟩,
  ⟨.int .i32, 1, 4, [.int .i32 0]⟩,
  ⟨.int .i32, 1, 4, [.int .i32 0]⟩,
  ⟨.struct [(0, 12), (1, 12), (2, 93), (3, 280), (4, 5), (5, 5), (6, 281), (7, 282), (8, 283), (9, 284), (10, 285)], 11, 48, [.int .u64 0, .int .u64 0, .int .u32 0, .int .u8 0, .int .u8 0, .int .u8 0, .int .u8 0, .nilFunc, .pointer none, .int .i32 0, .int .i32 0]⟩,
  ⟨.struct [(0, 12), (1, 12), (2, 93), (3, 280), (4, 5), (5, 5), (6, 281), (7, 282), (8, 283), (9, 284), (10, 285)], 11, 48, [.int .u64 0, .int .u64 0, .int .u32 0, .int .u8 0, .int .u8 0, .int .u8 0, .int .u8 0, .nilFunc, .pointer none, .int .i32 0, .int .i32 0]⟩,
  ⟨.other, 1, 8, [.pointer none]⟩]
theorem Pu : (List.range types.length).map (Mo Tryz.prog) = types.map some := by kernel_rfl
instance tab : lQ Tryz.prog := ⟨types, lQ.of Pu⟩
theorem Pb {P : Program} {w : World} {t : Nat} {k : IntKind} {a b : Int} (d : Nat) (h : P.underlying t = some (.int k)) : (Op.equalIn (d + 1) t (.int k a) (.int k b)).run P w = .ok (decide (a = b)) w := by
 simp [Op.equalIn, run_underlying h, KR]
theorem mixed : Tryz.prog.follows .mixedOrders = true := by kernel_rfl
end Go.Proofs.YtmmcenjknimhbaaGreat
namespace Go.Proofs.YtmmcenjknimhbaaGreat
open Go Go.T
def gM : El mO := El.mk' 3 (fun x => [Ty.int .i64 x.src, Ty.int .i64 x.dst, Ty.int .i64 x.sacks]) (fun _ => rfl) (fun _ => ⟨rfl, rfl, rfl⟩)
def jh : El kT := El.mk' 2 (fun x => [Ty.int .i64 x.fst, Ty.int .i64 x.nxt]) (fun _ => rfl) (fun _ => ⟨rfl, rfl, rfl⟩)
def rL : El v7 := El.mk' 3 (fun x => [Ty.int .i64 x.src, Ty.int .i64 x.dst, Ty.int .i64 x.much]) (fun _ => rfl) (fun _ => ⟨rfl, rfl, rfl⟩)
def jX : El qP := El.mk' 2 (fun x => [Ty.int .i64 x.has, Ty.sl dN x.shares]) (fun _ => rfl) (fun _ => ⟨rfl, rfl, rfl⟩)
def BJ : El (List Int) := El.mk' 1 (fun x => [Ty.sl dN x]) (fun _ => rfl) (fun _ => ⟨rfl, rfl, rfl⟩)
def cx (f : bS) : List Ty := [Ty.sl dN f.bears, Ty.sl jX f.bins, Ty.sl gM f.turnings, Ty.sl jh f.rules]
def iT (f : bS) : Ty := Ty.agg (cx f)
end Go.Proofs.YtmmcenjknimhbaaGreat
