/- Lemmas: the program and the reference walked, plain laws. -/
import Derived.Orders
import Derived.Below
import Derived.WalkKit
import Derived.OrdersIn
import Derived.TacticsIn
import Derived.RangeFuncCalls
import Derived.ChangeKeysEq
import Derived.Maps.AppendAt
import Derived.Laws.MakeOwn
import Derived.Laws.CopyRow
import Derived.Test.YtpnndljmhpepgaaGreatChecked
import Derived.RangeFuncRecord
import Derived.Lib.AppendZerosOnto
import Derived.JoinedOf
import Derived.OpenShut
import Derived.WideKeyArgs
import Derived.Deep.Frames
import Derived.Deep.Slices
import Derived.Deep.Strs
import Derived.Lib.SmallJoins
import Derived.Test.YtpnndljmhpepgaaGreatRows
import Derived.KernelRfl
import Derived.SizedLaws
namespace Go
theorem P8 {P : Prop} (h : P := by repeat (first | exact (dJ.nil : dJ _ _ [] _) | (show dJ _ _ ((_, _) :: _) _; apply dJ.one; (· first | exact (rfl : _ = Ty.int _ _) | exact (rfl : _ = Ty.sl _ _)); (· exact rfl)) | (show dJ _ _ ((_, _) :: _) _; apply dJ.agg; (· exact (rfl : _ = Ty.agg _))))) : P := h
theorem Qn {P : Prop} (h : P := by repeat (first | exact (dJ.nil : dJ _ _ [] _) | (show dJ _ _ ((_, _) :: _) _; apply dJ.one; (· first | exact (rfl : _ = Ty.sl _ _) | exact (rfl : _ = Ty.row _ _ _ _)); (· exact rfl)))) : P := h
theorem Qh {P : Prop} (h : P := by intro hg; apply bV (s := 53) rfl (by (rw [hg]; rfl)); apply fW (s := 59) rfl (by (rw [hg]; rfl)); apply aH; (refine eJ rfl rfl ?_); refine aD ?_; exact rfl) : P := h
theorem PS {P : Prop} (h : P := by repeat (first | exact (dJ.nil : dJ _ _ [] _) | (show dJ _ _ ((_, _) :: _) _; apply dJ.one; (· exact (rfl : _ = Ty.row _ _ _ _)); (· exact rfl)))) : P := h
theorem dn {P : Prop} (h : P := by repeat (first | exact (dJ.nil : dJ _ _ [] _) | (show dJ _ _ ((_, _) :: _) _; apply dJ.one; (· exact (rfl : _ = Ty.int _ _)); (· exact rfl)))) : P := h
theorem Mi {P : Prop} (h : P := by repeat (first | exact (dJ.nil : dJ _ _ [] _) | (show dJ _ _ ((_, _) :: _) _; apply dJ.one; (· exact (rfl : _ = Ty.so _ _)); (· exact rfl)))) : P := h
theorem oD {P : Prop} (h : P := by repeat (first | exact (dJ.nil : dJ _ _ [] _) | (show dJ _ _ ((_, _) :: _) _; apply dJ.one; (· exact (rfl : _ = Ty.sl _ _)); (· exact rfl)))) : P := h
theorem Qv {P : Prop} (h : P := by repeat (first | exact (dJ.nil : dJ _ _ [] _) | (show dJ _ _ ((_, _) :: _) _; apply dJ.one; (· exact (rfl : _ = Ty.vs _ _)); (· exact rfl)))) : P := h
theorem QB {P : Prop} (h : P := by repeat (first | exact (dJ.nil : dJ _ _ [] _) | (show dJ _ _ ((_, _) :: _) _; apply dJ.one; (· exact (rfl : _ = Ty.mp _)); (· exact rfl)))) : P := h
theorem mH {P : Prop} (h : P := by repeat (first | exact (dJ.nil : dJ _ _ [] _) | (show dJ _ _ ((_, _) :: _) _; apply dJ.agg; (· exact (rfl : _ = Ty.agg _))))) : P := h
theorem OM {P : Prop} (h : P := by repeat (first | exact gN | refine c9 (jV (jP rfl rfl)) ?_ | refine c9 (jV D1) ?_)) : P := h
theorem O7 {P : Prop} (h : P := by apply aH; (refine aW rfl rfl (by decide) rfl rfl (by exact Nat.le_of_ble_eq_true rfl) ?_); refine aD ?_; exact rfl) : P := h
theorem zB {P : Prop} (h : P := by rw [eq_comm, decide_eq_true_eq]; have := k.2; rwa [List.take_of_length_le (by omega), List.take_of_length_le (by omega)] at this) : P := h
theorem Om {P : Prop} (h : P := by show x.1.2.1.dropLast.length < x.1.2.1.length; rw [congrArg List.length (x.2.1.step hc1).2, List.length_append]; simp) : P := h
theorem OT {P : Prop} (h : P := by show (eR b g (nth x.1.1 y.1.2)).length - (z.1.2 + 1) < (eR b g (nth x.1.1 y.1.2)).length - z.1.2; omega) : P := h
theorem DR {P : Prop} (h : P := by repeat (first | exact wH | refine nj (jP rfl rfl) ?_ | refine nj (yS rfl) ?_)) : P := h
theorem Ow {P : Prop} (h : P := by show (nth (dB b (bk x.1) g) k).length - (j.1 + 1) < (nth (dB b (bk x.1) g) k).length - j.1; omega) : P := h
theorem O4 {P : Prop} (h : P := by rw [show ((xs.length : Int) - 1 - k.1).toNat = xs.length - 1 - k.1 by omega]; exact y4 (by omega)) : P := h
theorem OL {P : Prop} (h : P := by have h := hc3; simp only [Bool.and_eq_true, decide_eq_true_eq] at h; exact decide_eq_true (by omega)) : P := h
theorem HN {P : Prop} (h : P := by have := x.2.2; show (x.1.queue.drop 1).length ≤ x.1.ways.length + 1; rw [List.length_drop]; omega) : P := h
theorem ME {P : Prop} (h : P := by repeat (first | exact fT | refine cV ?_ ?_ | refine jK ?_ | exact iC rfl rfl)) : P := h
theorem LC {P : Prop} (h : P := by repeat (first | exact fT | refine cV ?_ ?_ | exact kO List.mem_cons_self)) : P := h
theorem Oc {P : Prop} (h : P := by have := sM hc2; show b.sizes.length - (k.1 + 1) < b.sizes.length - k.1; omega) : P := h
theorem PK {P : Prop} (h : P := by rw [show ((x.1.length : Int) - 1).toNat = x.1.length - 1 by omega]; exact hx3) : P := h
theorem n9 {P : Prop} (h : P := by repeat (first | exact fT | refine cV ?_ ?_ | exact iC rfl rfl)) : P := h
theorem Kh {P : Prop} (h : P := by exact jR rfl (jR (jR (jR hc rfl) rfl) rfl)) : P := h
theorem Ox {P : Prop} (h : P := by rw [List.length_append, holen, hnl, List.length_append, hesz, Nat.add_mul]) : P := h
theorem MQ {P : Prop} (h : P := by intro t ht; obtain ⟨x, _, rfl⟩ := List.mem_map.1 ht; exact ⟨rfl, rfl, rfl⟩) : P := h
theorem Od {P : Prop} (h : P := by show rings.flatten.length - (k.1 + 1) < rings.flatten.length - k.1; omega) : P := h
theorem OX {P : Prop} (h : P := by simp [execOp, resolve, hcv, Deferred.ofValue, invoke, z6 hM]) : P := h
theorem PB {P : Prop} (h : P := by apply aH; (refine ah rfl rfl rfl ?_); refine aD ?_; exact rfl) : P := h
theorem LW {P : Prop} (h : P := by exact kD rfl (kD (kD (kD hd rfl) rfl) rfl)) : P := h
theorem AG {P : Prop} (h : P := by rw [eq_comm, decide_eq_false_iff_not]; intro e; subst e; exact hc1 rfl) : P := h
theorem OP {P : Prop} (h : P := by rw [if_pos hc1, show k.1 = b.sizes.length by have := k.2; omega]; rfl) : P := h
theorem O3 {P : Prop} (h : P := by rw [eq_comm, decide_eq_false_iff_not]; exact mg (k := k.1) hc3) : P := h
theorem G3 {P : Prop} (h : P := by show b.sizes.length - (u.1.2.2 + 1) < b.sizes.length - u.1.2.2; omega) : P := h
theorem Ot {P : Prop} (h : P := by rw [if_pos hc1, show k.1 = b.aO.length by have := k.2; omega]; rfl) : P := h
theorem Ov {P : Prop} (h : P := by rw [decide_eq_true (show (bN : Int) = b.aO.length by omega)]; rfl) : P := h
theorem OR {P : Prop} (h : P := by show d.b.sizes.length - (k.1 + 1) < d.b.sizes.length - k.1; omega) : P := h
theorem PI {P : Prop} (h : P := by show d.b.sizes.length - (q.1 + 1) < d.b.sizes.length - q.1; omega) : P := h
theorem Oh {P : Prop} (h : P := by show t.bN.toNat < ([] ++ p).length; rw [List.nil_append]; omega) : P := h
theorem Oi {P : Prop} (h : P := by show d.b.aO.length - (k.1 + 1) < d.b.aO.length - k.1; omega) : P := h
theorem Of {P : Prop} (h : P := by show d.b.aO.length - (m.1 + 1) < d.b.aO.length - m.1; omega) : P := h
theorem O2 {P : Prop} (h : P := by apply aH; (refine dW rfl ?_); refine aD ?_; exact rfl) : P := h
theorem J4 {P : Prop} (h : P := by show _ = (xs.length : Int) - 1 - ((k.1 + 1 : Nat) : Int); omega) : P := h
theorem Hi {P : Prop} (h : P := by show xr.all.length - (k.1.1 + 1) < xr.all.length - k.1.1; omega) : P := h
theorem G4 {P : Prop} (h : P := by show b.sizes.length - (k.1 + 1) < b.sizes.length - k.1; omega) : P := h
theorem Oo {P : Prop} (h : P := by apply aH; (refine bA rfl ?_); refine aD ?_; exact rfl) : P := h
theorem OV {P : Prop} (h : P := by show b.sizes.length - (q.1 + 1) < b.sizes.length - q.1; omega) : P := h
theorem Og {P : Prop} (h : P := by show b.sizes.length - (z.1 + 1) < b.sizes.length - z.1; omega) : P := h
theorem Oz {P : Prop} (h : P := by rw [List.mem_singleton.1 hx]; exact List.mem_singleton.2 rfl) : P := h
theorem D4 {P : Prop} (h : P := by have := k.2; rwa [List.take_of_length_le (by omega)] at this) : P := h
theorem Ou {P : Prop} (h : P := by rw [← List.flatMap_append, E.kA]; intro _ h; cases h) : P := h
theorem ko {P : Prop} (h : P := by show b.aO.length - (k.1 + 1) < b.aO.length - k.1; omega) : P := h
theorem OZ {P : Prop} (h : P := by rw [← List.flatMap_append, E.jd]; intro _ h; cases h) : P := h
theorem Jp {P : Prop} (h : P := by show plan.length - (x.1.1 + 1) < plan.length - x.1.1; omega) : P := h
theorem O1 {P : Prop} (h : P := by rw [eu (by omega), List.length_append]; omega) : P := h
theorem KZ {P : Prop} (h : P := by show rings.length - (m.1 + 1) < rings.length - m.1; omega) : P := h
theorem LB {P : Prop} (h : P := by rw [show k.1 = b.aO.length by have := k.2; omega]; rfl) : P := h
theorem PJ {P : Prop} (h : P := by rw [hby]; have := hlen; rw [Nat.add_mul] at this; omega) : P := h
theorem PD {P : Prop} (h : P := by show rs.length - (x.1.1 + 1) < rs.length - x.1.1; omega) : P := h
theorem PC {P : Prop} (h : P := by rw [cz, List.length_take, Nat.min_eq_left hlo]) : P := h
theorem O9 {P : Prop} (h : P := by rw [j5, decide_eq_true (rfl : rs = rs)]; rfl) : P := h
theorem MA {P : Prop} (h : P := by show xs.length - (k.1 + 1) < xs.length - k.1; omega) : P := h
theorem OW {P : Prop} (h : P := by show ¬ wX rings.flatten = true; rw [h1]; decide) : P := h
theorem pV {P : Prop} (h : P := by show l.length - (k.1 + 1) < l.length - k.1; omega) : P := h
theorem zQ {P : Prop} (h : P := by show a.length - (k.1 + 1) < a.length - k.1; omega) : P := h
theorem OS {P : Prop} (h : P := by show l.length - (i.1 + 1) < l.length - i.1; omega) : P := h
theorem K7 {P : Prop} (h : P := by rw [List.take_of_length_le (by omega)]; exact hl) : P := h
theorem PF {P : Prop} (h : P := by have h := hc2; rw [Kr] at h; simpa using h) : P := h
theorem KS {P : Prop} (h : P := by show ¬ n5 b rings = true; rw [h0]; decide) : P := h
theorem kf {P : Prop} (h : P := by repeat (exact (dJ.nil : dJ _ _ [] _))) : P := h
theorem HM {P : Prop} (h : P := by intro hn; rw [hn] at hz; simp at hz; omega) : P := h
theorem Lt {P : Prop} (h : P := by exact jR rfl (jR hc rfl)) : P := h
theorem BI {P : Prop} (h : P := by exact jR (jR hc rfl) rfl) : P := h
theorem MH {P : Prop} (h : P := by exact kD rfl (kD hd rfl)) : P := h
theorem AT {P : Prop} (h : P := by exact kD (kD hd rfl) rfl) : P := h
theorem Jo {P : Prop} (h : P := by rw [List.take_of_length_le (by omega)]) : P := h
theorem jm {P : Prop} (h : P := by rw [E.kA]; intro _ h; cases h) : P := h
theorem lV {P : Prop} (h : P := by rw [E.jd]; intro _ h; cases h) : P := h
theorem Lz {P : Prop} (h : P := by rw [decide_eq_true hg, Bool.or_true]) : P := h
theorem Ls {P : Prop} (h : P := by rw [E.nodeps]; intro _ h; cases h) : P := h
theorem EG {P : Prop} (h : P := by rw [hq]; exact List.mem_cons_self) : P := h
theorem Hr {P : Prop} (h : P := by exact decide_eq_false (by omega)) : P := h
theorem xS {P : Prop} (h : P := by exact (rfl : _ = Ty.row _ _ _ _)) : P := h
theorem xO {P : Prop} (h : P := by exact (rfl : _ = some [_, _, _])) : P := h
theorem aP {P : Prop} (h : P := by exact Nat.le_of_ble_eq_true rfl) : P := h
theorem Gw {P : Prop} (h : P := by (rw [dS (by decide)]; rfl)) : P := h
theorem eU {P : Prop} (h : P := by exact (rfl : _ = some [_, _])) : P := h
theorem LP {P : Prop} (h : P := by exact (rfl : _ = Ty.pe _ _ _)) : P := h
theorem zu {P : Prop} (h : P := by rw [List.length_take]; omega) : P := h
theorem gR {P : Prop} (h : P := by exact (rfl : _ = Ty.int _ _)) : P := h
theorem Kw {P : Prop} (h : P := by have := x.2.pos; simp; omega) : P := h
theorem J7 {P : Prop} (h : P := by show (_ + 1) * 48 ≤ _; omega) : P := h
theorem BL {P : Prop} (h : P := by rw [h1]; intro _ h; cases h) : P := h
theorem AZ {P : Prop} (h : P := by rw [h2]; intro _ h; cases h) : P := h
theorem Gn {P : Prop} (h : P := by rw [e1]; intro _ h; cases h) : P := h
theorem HT {P : Prop} (h : P := by exact (rfl : _ = Ty.sl _ _)) : P := h
theorem Lp {P : Prop} (h : P := by exact (rfl : _ = Ty.bool _)) : P := h
theorem bW {P : Prop} (h : P := by exact List.cons_ne_nil _ _) : P := h
theorem Cn {P : Prop} (h : P := by exact (rfl : _ = some [_])) : P := h
theorem Bv {P : Prop} (h : P := by simp only [maxLen]; omega) : P := h
theorem CV {P : Prop} (h : P := by show 0 + _ * 1 < 6; omega) : P := h
theorem Fk {P : Prop} (h : P := by simp [Region.wanted, hg]) : P := h
theorem B9 {P : Prop} (h : P := by rw [hsz]; simpa using hn) : P := h
theorem C2 {P : Prop} (h : P := by rw [← dS]; exact hc2) : P := h
theorem gU {P : Prop} (h : P := by exact List.mem_cons_self) : P := h
theorem E8 {P : Prop} (h : P := by rw [List.length_reverse]) : P := h
theorem E7 {P : Prop} (h : P := by have := hs.sizes; omega) : P := h
theorem tE {P : Prop} (h : P := by simp at hp ⊢; exact hp) : P := h
theorem Fu {P : Prop} (h : P := by have := hs.aO; omega) : P := h
theorem jF {P : Prop} (h : P := by exact (rfl : _ = [_])) : P := h
theorem iS {P : Prop} (h : P := by repeat (exact jt)) : P := h
theorem FF {P : Prop} (h : P := by show _ + 1 ≤ _; omega) : P := h
theorem kY {P : Prop} (h : P := by simp [Region.wanted]) : P := h
theorem j4 {P : Prop} (h : P := by intro _ _ h; cases h) : P := h
theorem vp {P : Prop} (h : P := by rw [hby]; exact hlen) : P := h
theorem tU {P : Prop} (h : P := by (rw [hg1, hg2]; rfl)) : P := h
theorem l5 {P : Prop} (h : P := by (dsimp only; omega)) : P := h
theorem Cx {P : Prop} (h : P := by rw [h.lt]; exact hj) : P := h
theorem Bg {P : Prop} (h : P := by rw [h.ls]; exact hj) : P := h
theorem pE {P : Prop} (h : P := by intro _ h; cases h) : P := h
theorem wR {P : Prop} (h : P := by have := k.2; omega) : P := h
theorem o9 {P : Prop} (h : P := by exact Fo _) : P := h
theorem lC {P : Prop} (h : P := by simpa using h1.1) : P := h
theorem bp {P : Prop} (h : P := by (simp <;> omega)) : P := h
theorem ni {P : Prop} (h : P := by simpa using hlt) : P := h
theorem yP {P : Prop} (h : P := by simpa using hcf) : P := h
theorem yF {P : Prop} (h : P := by rw [hi]; decide) : P := h
theorem zw {P : Prop} (h : P := by simpa using hi) : P := h
theorem rz {P : Prop} (h : P := by simpa using ht) : P := h
theorem y9 {P : Prop} (h : P := by simpa using h1) : P := h
theorem tv {P : Prop} (h : P := by simpa using h2) : P := h
theorem B8 {P : Prop} (h : P := by simpa using h3) : P := h
theorem yO {P : Prop} (h : P := by simpa using hs) : P := h
theorem Bo {P : Prop} (h : P := by simpa using hn) : P := h
theorem dF {P : Prop} (h : P := by (rw [hg]; rfl)) : P := h
theorem oz {P : Prop} (h : P := by rw [h]; decide) : P := h
theorem CL {P : Prop} (h : P := by rw [e]; decide) : P := h
theorem nq {P : Prop} (h : P := by simpa using h) : P := h
theorem ve {P : Prop} (h : P := by rw [hlen, hl]) : P := h
theorem r6 {P : Prop} (h : P := by rw [ex]; rfl) : P := h
theorem x9 {P : Prop} (h : P := by simp; omega) : P := h
theorem zx {P : Prop} (h : P := by simp [hm2]) : P := h
theorem bn {P : Prop} (h : P := by exact rfl) : P := h
theorem gx {P : Prop} (h : P := by exact hg) : P := h
theorem tK {P : Prop} (h : P := by cases h) : P := h
theorem aB {P : Prop} (h : P := by decide) : P := h
theorem aE {P : Prop} (h : P := by omega) : P := h
theorem bB {P : Prop} (h : P := by simp) : P := h
theorem ν.{u} {α : Sort u} {a : α} : a = a := rfl
end Go
namespace Go.T
open Go Go.RowKit
abbrev bI := Nat → Option Nat
structure Wf (w : World) (M : bI) : Prop where
  lt : ∀ b t, M b = some t → b < w.heap.size
  inj : ∀ b b' t, t + 1 < 4096 → M b = some (t + 1) → M b' = some (t + 1) → b = b'
abbrev fR (t : Nat) : Prop := 1 ≤ t ∧ t < 4096
structure Le (S K : Nat → Prop) (w : World) (M : bI) (w' : World) (M' : bI) : Prop where
  size : w.heap.size ≤ w'.heap.size
  os : w'.os = w.os
  tape : w'.tape = w.tape
  out : w'.output = w.output
  o8 : ∀ b, b < w.heap.size → M b = none → M' b = none ∧ w'.heap[b]? = w.heap[b]?
  own : ∀ b t, M b = some t → ¬ K t → M' b = some t ∧ (¬ S t → w'.heap[b]? = w.heap[b]?)
theorem Le.refl (S K : Nat → Prop) (w : World) (M : bI) : Le S K w M w M :=
 ⟨Nat.le_refl _, rfl, rfl, rfl, fun _ _ h => ⟨h, rfl⟩, fun _ _ h _ => ⟨h, fun _ => rfl⟩⟩
theorem Le.trans {S K S' K' : Nat → Prop} {w w' w'' : World} {M M' M'' : bI} (h : Le S K w M w' M') (h' : Le S' K' w' M' w'' M'') :
 Le (fun t => S t ∨ S' t) (fun t => K t ∨ K' t) w M w'' M'' where
 size := Nat.le_trans h.size h'.size
 os := h'.os.trans h.os
 tape := h'.tape.trans h.tape
 out := h'.out.trans h.out
 o8 b hb hm := by
  obtain ⟨h1, h2⟩ := h.o8 b hb hm
  obtain ⟨h3, h4⟩ := h'.o8 b (Nat.lt_of_lt_of_le hb h.size) h1
  exact ⟨h3, h4.trans h2⟩
 own b t hm hk := by
  obtain ⟨h1, h2⟩ := h.own b t hm (fun h => hk (.inl h))
  obtain ⟨h3, h4⟩ := h'.own b t h1 (fun h => hk (.inr h))
  exact ⟨h3, fun hs => (h4 fun h => hs (.inr h)).trans (h2 fun h => hs (.inl h))⟩
theorem Le.weaken {S K S' K' : Nat → Prop} {w w' : World} {M M' : bI} (h : Le S K w M w' M') (hs : ∀ t, S t → S' t) (hk : ∀ t, K t → K' t) : Le S' K' w M w' M' :=
 ⟨h.size, h.os, h.tape, h.out, h.o8, fun b t hm ht => let ⟨a, b'⟩ := h.own b t hm (fun x => ht (hk t x)); ⟨a, fun x => b' fun y => x (hs t y)⟩⟩
structure Ty where
  den : World → bI → Value → Prop
  deps : List Nat := []
  cdeps : List Nat := []
  mono : ∀ {S K : Nat → Prop} {w w' : World} {M M' : bI} {v : Value}, Le S K w M w' M' → (∀ t ∈ deps, ¬ K t) → (∀ t ∈ cdeps, ¬ S t) → den w M v → den w' M' v
  one : Bool := false
  isOne : ∀ {w : World} {M : bI} {v : Value}, one = true → den w M v → v.oneCell' = true := by intro _ _ _ h; cases h
def jT (_ : World) (_ : bI) (_ : Value) : Prop := True
def Ty.any : Ty := { den := jT, mono := fun _ _ _ _ => trivial }
def cR (l : List Ty) : List Nat := l.flatMap Ty.deps
def cB (l : List Ty) : List Nat := l.flatMap Ty.cdeps
def cS (w : World) (M : bI) : List Ty → List Value → Prop
  | [], [] => True
  | t :: ts, v :: vs => t.den w M v ∧ cS w M ts vs
  | _, _ => False
theorem b7 {S K : Nat → Prop} {w w' : World} {M M' : bI} (le : Le S K w M w' M') : ∀ {l : List Ty} {vs : List Value}, (∀ t ∈ cR l, ¬ K t) → (∀ t ∈ cB l, ¬ S t) → cS w M l vs → cS w' M' l vs
  | [], [], _, _, _ => trivial
  | t :: ts, v :: vs, hd, hc, ⟨h, hs⟩ => ⟨t.mono le (fun u hu => hd u (by simp [cR, hu])) (fun u hu => hc u (by simp [cB, hu])) h, b7 le (fun u hu => hd u (by simp only [cR, List.flatMap_cons, List.mem_append]; exact .inr hu)) (fun u hu => hc u (by simp only [cB, List.flatMap_cons, List.mem_append]; exact .inr hu)) hs⟩
theorem cO {w : World} {M : bI} : ∀ {l : List Ty} {vs : List Value}, cS w M l vs → vs.length = l.length
  | [], [], _ => rfl
  | _ :: _, _ :: _, ⟨_, h⟩ => by simp [cO h]
theorem dr {w : World} {M : bI} : ∀ {l : List Ty} {vs : List Value}, cS w M l vs → ∀ (i : Nat) (t : Ty), l[i]? = some t → ∃ v, vs[i]? = some v ∧ t.den w M v
  | [], [], _, i, t, h => by simp at h
  | u :: ts, v :: vs, ⟨h1, h2⟩, i, t, h => by
    cases i with
    | zero => simp at h; subst h; exact ⟨v, by simp, h1⟩
    | succ i => simp at h; obtain ⟨x, hx, hd⟩ := dr h2 i t h; exact ⟨x, by simpa using hx, hd⟩
theorem iH {w : World} {M : bI} : ∀ {l : List Ty} {vs : List Value}, vs.length = l.length → (∀ (i : Nat) (t : Ty), l[i]? = some t → ∃ v, vs[i]? = some v ∧ t.den w M v) → cS w M l vs
  | [], [], _, _ => trivial
  | u :: ts, v :: vs, hl, h => by
    refine ⟨?_, iH (by simpa using hl) fun i t hi => ?_⟩
    · obtain ⟨x, hx, hd⟩ := h 0 u rfl
      simp at hx; subst hx; exact hd
    · obtain ⟨x, hx, hd⟩ := h (i + 1) t zw
      exact ⟨x, by simpa using hx, hd⟩
theorem jk {w : World} {M : bI} : ∀ (n : Nat) {l : List Ty} {vs : List Value}, cS w M l vs → cS w M (l.drop n) (vs.drop n)
  | 0, _, _, h => h
  | n + 1, [], [], _ => trivial
  | n + 1, _ :: ts, _ :: vs, ⟨_, h⟩ => jk n h
theorem lJ {w : World} {M : bI} : ∀ (n : Nat) {l : List Ty} {vs : List Value}, cS w M l vs → cS w M (l.take n) (vs.take n)
  | 0, _, _, _ => trivial
  | n + 1, [], [], _ => trivial
  | n + 1, _ :: ts, _ :: vs, ⟨h1, h2⟩ => ⟨h1, lJ n h2⟩
def lp (l k : List Nat) : Bool := l.all fun x => !k.contains x
def Ty.safe (t : Ty) (S K : List Nat) : Bool := lp t.deps K && lp t.cdeps S
theorem gK {l k : List Nat} (h : lp l k = true) : ∀ t ∈ l, ¬ (t ∈ k) := by
 intro t ht hk
 simp only [lp, List.all_eq_true] at h
 have := h t ht
 simp [hk] at this
theorem yh (t : Ty) : t.safe [] [] = true := by simp [Ty.safe, lp]
theorem eF {t : Ty} {S K : List Nat} (h : t.safe S K = true) : (∀ u ∈ t.deps, ¬ (u ∈ K)) ∧ ∀ u ∈ t.cdeps, ¬ (u ∈ S) := by
 simp only [Ty.safe, Bool.and_eq_true] at h; exact ⟨gK h.1, gK h.2⟩
def Ty.weak (S K : List Nat) (t : Ty) : Ty := bif t.safe S K then t else Ty.any
def dy (T : TypeId) (l : List Ty) (w : World) (M : bI) (t : Nat) : Prop := ∃ b cs, M b = some t ∧ w.heap[b]? = some (.cells cs T (0, 0)) ∧ cS w M l cs.toList
structure Cont where
  den : World → bI → Nat → Prop
  deps : List Nat := []
  cdeps : List Nat := []
  mono : ∀ {S K : Nat → Prop} {w w' : World} {M M' : bI} {t : Nat}, Le S K w M w' M' → (∀ u ∈ deps, ¬ K u) → (∀ u ∈ cdeps, ¬ S u) → ¬ S t → ¬ K t → den w M t → den w' M' t
  view : Option (TypeId × List Ty) := none
  viewOk : ∀ {T : TypeId} {l : List Ty}, view = some (T, l) → cR l = deps ∧ cB l = cdeps ∧ ∀ {w : World} {M : bI} {t : Nat}, den w M t → dy T l w M t := by intro _ _ h; cases h
def Cont.safe (t : Cont) (S K : List Nat) : Bool := lp t.deps K && lp t.cdeps S
theorem qH {t : Cont} {S K : List Nat} (h : t.safe S K = true) : (∀ u ∈ t.deps, ¬ (u ∈ K)) ∧ ∀ u ∈ t.cdeps, ¬ (u ∈ S) := by
 simp only [Cont.safe, Bool.and_eq_true] at h; exact ⟨gK h.1, gK h.2⟩
def Cont.cells (T : TypeId) (l : List Ty) : Cont :=
  { den := dy T l, deps := cR l, cdeps := cB l
    mono := fun le hk hc hs hkt ⟨b, cs, h1, h2, h3⟩ => let ⟨h4, h5⟩ := le.own b _ h1 hkt; ⟨b, cs, h4, (h5 hs).trans h2, b7 le hk hc h3⟩
    view := some (T, l)
    viewOk := fun h => by injection h with h; injection h with h1 h2; subst h1; subst h2; exact ⟨rfl, rfl, fun h => h⟩ }
def Cont.soft (S K : List Nat) (C : Cont) : Option Cont :=
  match C.view with
  | some (T, l) => some (.cells T (l.map (Ty.weak S K)))
  | none => none
theorem BZ {S K : List Nat} {w w' : World} {M M' : bI} (le : Le (· ∈ S) (· ∈ K) w M w' M') : ∀ {l : List Ty} {vs : List Value}, cS w M l vs → cS w' M' (l.map (Ty.weak S K)) vs
  | [], [], _ => trivial
  | t :: _, _ :: _, ⟨h, hs⟩ => by
    refine ⟨?_, BZ le hs⟩
    unfold Ty.weak
    cases hc : t.safe S K with
    | true => exact t.mono le (eF hc).1 (eF hc).2 h
    | false => trivial
theorem Lr {S K : List Nat} {w w' : World} {M M' : bI} {C D : Cont} {t : Nat} (le : Le (· ∈ S) (· ∈ K) w M w' M') (hs : t ∉ S) (hk : t ∉ K) (h : C.soft S K = some D) (hd : C.den w M t) : D.den w' M' t := by
 unfold Cont.soft at h
 split at h
 ·rename_i T l hv
  injection h with h
  subst h
  obtain ⟨b, cs, h1, h2, h3⟩ := (C.viewOk hv).2.2 hd
  obtain ⟨h4, h5⟩ := le.own b t h1 hk
  exact ⟨b, cs, h4, (h5 hs).trans h2, BZ le h3⟩
 cases h
theorem Ag {S K : List Nat} : ∀ {l : List Ty} {u : Nat}, (u ∈ cR (l.map (Ty.weak S K)) → u ∈ cR l) ∧ (u ∈ cB (l.map (Ty.weak S K)) → u ∈ cB l) := by
  intro l u
  simp only [cR, cB, List.mem_flatMap, List.mem_map]
  constructor
  · rintro ⟨_, ⟨t, ht, rfl⟩, hu⟩
    unfold Ty.weak at hu
    cases hc : t.safe S K with
    | true => rw [hc] at hu; exact ⟨t, ht, hu⟩
    | false => rw [hc] at hu; simp [Ty.any] at hu
  · rintro ⟨_, ⟨t, ht, rfl⟩, hu⟩
    unfold Ty.weak at hu
    cases hc : t.safe S K with
    | true => rw [hc] at hu; exact ⟨t, ht, hu⟩
    | false => rw [hc] at hu; simp [Ty.any] at hu
def Cont.Pm (D C : Cont) : Prop := (∀ u ∈ D.deps, u ∈ C.deps) ∧ ∀ u ∈ D.cdeps, u ∈ C.cdeps
theorem IX {S K : List Nat} {C D : Cont} (h : C.soft S K = some D) : D.Pm C := by
 unfold Cont.soft at h
 split at h
 ·rename_i T l hv
  injection h with h
  subst h
  obtain ⟨e1, e2, _⟩ := C.viewOk hv
  exact ⟨fun u hu => e1 ▸ Ag.1 hu, fun u hu => e2 ▸ Ag.2 hu⟩
 cases h
theorem Ge {l l' k : List Nat} (h : ∀ u ∈ l', u ∈ l) (hd : lp l k = true) : lp l' k = true := by
 simp only [lp, List.all_eq_true] at hd ⊢
 exact fun u hu => hd u (h u hu)
theorem BY {C D : Cont} {S K : List Nat} (h : D.Pm C) (hs : C.safe S K = true) : D.safe S K = true := by
 simp only [Cont.safe, Bool.and_eq_true] at hs ⊢
 exact ⟨Ge h.1 hs.1, Ge h.2 hs.2⟩
structure As where
  slots : Nat → Ty
  tags : List (Nat × Cont)
inductive FK where
  | plain | marks | round (l : Nat) | iter
structure Fr where
  n : Nat
  w0 : World
  M0 : bI
  pass : List Nat
  kd : FK
def FK.J8 : FK → Nat → Prop
  | .iter, _ => True
  | _, t => 1 ≤ t
theorem FK.GZ {k : FK} {t : Nat} (h : 1 ≤ t) : k.J8 t := by cases k <;> first | exact h | trivial
def FK.g9 : FK → Fence
  | .round l => Fence.wide.inRound l
  | _ => Fence.wide
theorem FK.qM (k : FK) (f : FuncId) : k.g9.fn f := by cases k <;> trivial
theorem FK.tD (k : FK) : k.g9.depth = none := by cases k <;> rfl
theorem FK.calls {k : FK} {n : Nat} {P : Program} {f : FuncId} {args : Array Value} {w : World} {R : Ending → World → Prop} (h : Calls P f args w R) : CallsIn k.g9 n P f args w R := by
 have h' : CallsIn Fence.wide n P f args w R := callsIn_wide.2 h
 cases k <;> first | exact h' | exact CallsIn.inRound _ h'
theorem Km {k : FK} {P : Program} {o : Oper} {a : Act} {w : World} {K : Act → World → Prop} (hnd : ∀ c, o.op ≠ .defer c) (hnr : ∀ row args w', (execOp a.eval o).run P w ≠ .ok (.row row args) w') (h : o.wp P a w K fun _ _ _ => False) : o.wpIn k.g9 0 P a w K fun _ _ _ => False := by
  refine ⟨fun f _ => k.qM f, ?_⟩
  unfold Oper.wp at h
  rw [Oper.semAt_eq k.g9.round a.eval o hnd]
  generalize hr : (execOp a.eval o).run P w = r at *
  cases r with
  | ok n w' =>
    cases n <;> simp only [Oper.upon, Oper.uponIn] at h ⊢ <;> first
      | exact h
      | exact ⟨fun hd => (by rw [k.tD] at hd; cases hd), FK.calls h⟩
      | exact absurd rfl (hnr _ _ _)
  | halt x w' => cases x <;> simp only [Oper.upon, Oper.uponIn] at h ⊢
theorem Ch {ρ : Operand → Value} {o : Oper} {P : Program} {w w' : World} {n : Next} (h : (execOp ρ o).run P w = .ok n w') (hn : ∀ d, n ≠ .defer d) : ∀ c, o.op ≠ .defer c := by
  intro c hc
  unfold execOp at h
  rw [hc] at h
  rw [Sem.run_bind] at h
  cases hr : (resolve ρ c o.type).run P w with
  | ok d w2 => rw [hr] at h; injection h with h; exact hn d h.symm
  | halt x w2 => rw [hr] at h; cases h
theorem rR {k : FK} {P : Program} {o : Oper} {a : Act} {w w' : World} {v : Value} {K : Act → World → Prop} (hv : (execOp a.eval o).run P w = .ok (.value v) w') (h : K (a.put o.dst v) w') : o.wpIn k.g9 0 P a w K fun _ _ _ => False := by
 refine Km (Ch hv fun _ h => by cases h) (fun _ _ _ hr => by rw [hv] at hr; cases hr) ?_
 unfold Oper.wp
 rw [hv, Oper.upon_value]; exact h
theorem tA {k : FK} {P : Program} {o : Oper} {a : Act} {w w' : World} {K : Act → World → Prop} (hv : (execOp a.eval o).run P w = .ok .skip w') (h : K (a.put o.dst undef) w') : o.wpIn k.g9 0 P a w K fun _ _ _ => False := by
 refine Km (Ch hv fun _ h => by cases h) (fun _ _ _ hr => by rw [hv] at hr; cases hr) ?_
 unfold Oper.wp
 rw [hv, Oper.upon_skip]; exact h
theorem jN {k : FK} {P : Program} {o : Oper} {a : Act} {w w' : World} {f : FuncId} {args : Array Value} {K : Act → World → Prop} (hv : (execOp a.eval o).run P w = .ok (.enter f args) w') (h : Calls P f args w' fun e w'' => ∃ v, e = .returned v ∧ K (a.put o.dst v) w'') : o.wpIn k.g9 0 P a w K fun _ _ _ => False := by
 refine Km (Ch hv fun _ h => by cases h) (fun _ _ _ hr => by rw [hv] at hr; cases hr) ?_
 unfold Oper.wp
 rw [hv, Oper.upon_enter]
 exact h.mono fun e w'' ⟨v, e1, hk⟩ => by subst e1; exact hk
def Fr.base (fr : Fr) (w : World) (M : bI) : Prop := Le fr.kd.J8 (fun t => 1 ≤ t ∧ t ∉ fr.pass) fr.w0 fr.M0 w M
def vr (r : Nat) : Deferred := { target := .collected r, args := #[] }
def Defs (fr : Fr) (w : World) (M : bI) (ds : List Deferred) : Prop :=
  ∃ rs : List Nat, ds = rs.map vr ∧ (rs ≠ [] → fr.kd = .marks) ∧ rs.Nodup ∧ ∀ r ∈ rs, M r = some 0 ∧ (fr.w0.heap.size ≤ r ∧ ∀ t, ¬ (1 ≤ t ∧ t ∉ fr.pass) → fr.M0 r ≠ some t) ∧ w.heap[r]? = some (.deferred (some []))
theorem Defs.nil {fr : Fr} {w : World} {M : bI} : Defs fr w M [] := ⟨[], rfl, fun h => absurd rfl h, List.nodup_nil, fun _ h => by cases h⟩
theorem Defs.step {fr : Fr} {w w' : World} {M M' : bI} {S K : Nat → Prop} {ds : List Deferred} (hs : ∀ t, S t → 1 ≤ t) (hk : ∀ t, K t → 1 ≤ t) (le : Le S K w M w' M') (h : Defs fr w M ds) : Defs fr w' M' ds := by
 obtain ⟨rs, e, h1, h2, h3⟩ := h
 refine ⟨rs, e, h1, h2, fun r hr => ?_⟩
 obtain ⟨a, b, c⟩ := h3 r hr
 obtain ⟨d, f⟩ := le.own r 0 a (fun h => by have := hk 0 h; omega)
 exact ⟨d, b, (f fun h => by have := hs 0 h; omega).trans c⟩
structure Ok (fr : Fr) (a : Act) (w : World) (M : bI) : Prop where
  wf : Wf w M
  base : fr.base w M
  size : a.tmps.size = fr.n
  defers : Defs fr w M a.defers
theorem Ok.eH {fr : Fr} {a : Act} {w : World} {M : bI} (h : Ok fr a w M) (hk : fr.kd ≠ .marks) : a.defers = [] := by
  obtain ⟨rs, e, h1, _⟩ := h.defers
  cases rs with
  | nil => exact e
  | cons r rs => exact absurd (h1 bB) hk
def As.holds (fr : Fr) (A : As) (a : Act) (w : World) : Prop :=
  ∃ M, Ok fr a w M ∧ (∀ c, c < fr.n → (A.slots c).den w M (a.tmps.getD c undef)) ∧ ∀ x ∈ A.tags, x.2.den w M x.1
structure Fx where
  d : Option Nat
  ty : Ty := Ty.any
  S : List Nat := []
  K : List Nat := []
  sets : List (Nat × Cont) := []
  rs : List Nat := []
  rt : List Nat := []
def eT (S K : List Nat) (s : Nat → Ty) : Nat → Ty :=
  match S, K with
  | [], [] => s
  | S, K => fun c => bif (s c).safe S K then s c else Ty.any
def qU (d : Option Nat) (ty : Ty) (s : Nat → Ty) : Nat → Ty :=
  match d with
  | none => s
  | some d => fun c => bif Nat.beq c d then ty else s c
def nF (S K : List Nat) (l : List (Nat × Cont)) : List (Nat × Cont) :=
  match S, K with
  | [], [] => l
  | _, _ => l.filterMap fun x => bif S.contains x.1 || K.contains x.1 then none else bif x.2.safe S K then some x else (x.2.soft S K).map fun C => (x.1, C)
def As.after (A : As) (f : Fx) : As := ⟨qU f.d f.ty (eT f.S f.K A.slots), f.sets ++ nF f.S f.K A.tags⟩
def Fx.left (f : Fx) (w : World) (M : bI) (w' : World) (v : Value) : Prop :=
  ∃ M', Wf w' M' ∧ Le (· ∈ f.S) (· ∈ f.K) w M w' M' ∧ f.ty.den w' M' v ∧ ∀ x ∈ f.sets, x.2.den w' M' x.1
def uU (P : Program) (fr : Fr) (ops : Array Oper) (o : Oper) (A : As) (f : Fx) : Prop :=
  f.d = o.dst ∧ (∀ x ∈ f.sets, x.1 ∈ f.S ∨ x.1 ∈ f.K) ∧ (∀ t ∈ f.S, 1 ≤ t) ∧ (∀ t ∈ f.K, 1 ≤ t ∧ t ∉ fr.pass) ∧
  ∀ a w M, Wf w M → a.tmps.size = fr.n → (∀ c ∈ f.rs, c < fr.n → (A.slots c).den w M (a.tmps.getD c undef)) → (∀ x ∈ A.tags, x.1 ∈ f.rt → x.2.den w M x.1) →
    if Region.wanted o (yielded ops a.tmps) then o.wpIn fr.kd.g9 0 P a w (fun a' w' => ∃ v, a' = a.put o.dst v ∧ f.left w M w' v) (fun _ _ _ => False) else f.left w M w undef
def ay (P : Program) (fr : Fr) (ops : Array Oper) : List Oper → As → (As → List (As × Fx) → Prop) → Prop
  | [], A, K => K A []
  | o :: rest, A, K => ∃ f, uU P fr ops o A f ∧ ay P fr ops rest (A.after f) fun A' l => K A' ((A, f) :: l)
section
variable {P : Program} {fr : Fr} {ops : Array Oper}
theorem eo (S K : List Nat) (s : Nat → Ty) (c : Nat) : (eT S K s c = s c ∧ (s c).safe S K = true) ∨ ((s c).safe S K = false ∧ eT S K s c = Ty.any) := by
  unfold eT
  split
  · exact .inl ⟨rfl, yh _⟩
  · cases h : (s c).safe _ _ with
    | true => exact .inl ⟨by simp only [h, cond_true], rfl⟩
    | false => exact .inr ⟨rfl, by simp only [h, cond_false]⟩
theorem qX {S K : List Nat} {l : List (Nat × Cont)} {x : Nat × Cont} (h : x ∈ nF S K l) : x.1 ∉ S ∧ x.1 ∉ K ∧ ∃ y ∈ l, y.1 = x.1 ∧ ((y = x ∧ y.2.safe S K = true) ∨ (y.2.safe S K = false ∧ y.2.soft S K = some x.2)) := by
  unfold nF at h
  split at h
  · exact ⟨by simp, by simp, x, h, rfl, .inl ⟨rfl, by simp [Cont.safe, lp]⟩⟩
  · obtain ⟨y, hy, hx⟩ := List.mem_filterMap.1 h
    cases hc : (S.contains y.1 || K.contains y.1) with
    | true => rw [hc] at hx; cases hx
    | false =>
      rw [hc, cond_false] at hx
      simp only [Bool.or_eq_false_iff, List.contains_eq_mem, decide_eq_false_iff_not] at hc
      cases hs : y.2.safe S K with
      | true => rw [hs, cond_true] at hx; injection hx with hx; subst hx; exact ⟨hc.1, hc.2, y, hy, rfl, .inl ⟨rfl, hs⟩⟩
      | false =>
        rw [hs, cond_false] at hx
        obtain ⟨D, hD, hx⟩ := Option.map_eq_some_iff.1 hx
        subst hx
        exact ⟨hc.1, hc.2, y, hy, rfl, .inr ⟨hs, hD⟩⟩
theorem gE {S K : List Nat} {w w' : World} {M M' : bI} {l : List (Nat × Cont)} {x : Nat × Cont} (le : Le (· ∈ S) (· ∈ K) w M w' M') (h : x ∈ nF S K l) (hd : ∀ y ∈ l, y.1 = x.1 → y.2.den w M y.1) : x.2.den w' M' x.1 := by
 obtain ⟨h1, h2, y, hy, e, ⟨rfl, hs⟩ | ⟨_, hs⟩⟩ := qX h
 ·exact y.2.mono le (qH hs).1 (qH hs).2 h1 h2 (hd y hy rfl)
 have := hd y hy e
 rw [e] at this
 exact Lr le h1 h2 hs this
theorem z3 (a : Act) (d : Option Nat) (v : Value) (c : Nat) (hc : c < a.tmps.size) : (a.put d v).tmps.getD c undef = if d = some c then v else a.tmps.getD c undef := by
  cases d with
  | none => simp [Act.put]
  | some d =>
    simp only [Act.put, Array.getD_eq_getD_getElem?, Array.getElem?_setIfInBounds, Option.some.injEq]
    by_cases e : d = c
    · subst e; simp [hc]
    · simp [e]
theorem size_put (a : Act) (d : Option Nat) (v : Value) : (a.put d v).tmps.size = a.tmps.size := by cases d <;> simp [Act.put]
theorem tP (a : Act) (d : Option Nat) (v : Value) : (a.put d v).defers = a.defers := by cases d <;> simp [Act.put]
theorem Fr.ij {w w' : World} {M M' : bI} {S K : Nat → Prop} (hb : fr.base w M) (hs : ∀ t, S t → 1 ≤ t) (hk : ∀ t, K t → 1 ≤ t ∧ t ∉ fr.pass) (h : Le S K w M w' M') : fr.base w' M' :=
 (hb.trans h).weaken (fun t ht => ht.elim id (fun h => FK.GZ (hs t h))) (fun t ht => ht.elim id (hk t))
theorem oR {A : As} {f : Fx} {a : Act} {w w' : World} {M : bI} {v : Value} (hS : ∀ t ∈ f.S, 1 ≤ t) (hK : ∀ t ∈ f.K, 1 ≤ t ∧ t ∉ fr.pass) 
    (ok : Ok fr a w M) (hs : ∀ c, c < fr.n → (A.slots c).den w M (a.tmps.getD c undef)) (ht : ∀ x ∈ A.tags, x.2.den w M x.1) (hl : f.left w M w' v) : (A.after f).holds fr (a.put f.d v) w' := by
  obtain ⟨M', wf', le, hv, hsets⟩ := hl
  refine ⟨M', ⟨wf', Fr.ij ok.base hS hK le, by rw [size_put, ok.size], by rw [tP]; exact ok.defers.step hS (fun t ht => (hK t ht).1) le⟩, fun c hc => ?_, fun x hx => ?_⟩
  · rw [z3 a f.d v c (by rw [ok.size]; exact hc)]
    have key : (eT f.S f.K A.slots c).den w' M' (a.tmps.getD c undef) := by
      rcases eo f.S f.K A.slots c with ⟨e, hdj⟩ | ⟨_, e⟩
      · rw [e]
        exact (A.slots c).mono le (eF hdj).1 (eF hdj).2 (hs c hc)
      · rw [e]; trivial
    simp only [As.after, qU]
    cases hfd : f.d with
    | none => simpa using key
    | some d =>
      by_cases e : d = c
      · subst e; simpa using hv
      · have e' : Nat.beq c d = false := by cases h : Nat.beq c d with | false => rfl | true => exact absurd (Nat.eq_of_beq_eq_true h).symm e
        simpa [e, e'] using key
  · rcases List.mem_append.1 hx with hx | hx
    · exact hsets x hx
    · exact gE le hx fun y hy _ => ht y hy
end
end Go.T
namespace Go.T
open Go Go.RowKit
section
variable {P : Program} {fr : Fr} {ops : Array Oper}
theorem Oper.pX {F : Fence} {o : Oper} {a : Act} {w : World} {K K' : Act → World → Prop} {Q : Exit → Act → World → Prop} (h : ∀ a w, K a w → K' a w)
    (hh : o.wpIn F 0 P a w K fun _ _ _ => False) : o.wpIn F 0 P a w K' Q := by
  unfold Oper.wpIn at *
  refine ⟨hh.1, ?_⟩
  have hh := hh.2
  generalize (o.semAt F.round a.eval).run P w = r at *
  cases r with
  | ok n w' =>
    cases n <;> simp only [Oper.uponIn] at hh ⊢ <;>
      first
        | exact h _ _ hh
        | exact ⟨hh.1, CallsIn.mono hh.2 (fun e w'' he => by
            cases e with
            | returned v => exact h _ _ he
            | panicked c => exact he.elim
            | outgrown => obtain ⟨_, _, f⟩ := he; exact f.elim)⟩
        | exact ⟨hh.1, RoundIn.mono hh.2 (fun e w'' he => by
            cases e with
            | returned v => exact h _ _ he
            | panicked c => exact he.elim
            | outgrown => obtain ⟨_, _, f⟩ := he; exact f.elim)⟩
        | exact ⟨hh.1, RowsIn.mono hh.2 (fun _ _ he => h _ _ he)⟩
  | halt x w' => cases x <;> simp only [Oper.uponIn] at hh ⊢
theorem lM {Q : Exit → Act → World → Prop} : ∀ (l : List Oper) (A : As) (K : As → List (As × Fx) → Prop) (a : Act) (w : World), ay P fr ops l A K → A.holds fr a w →
    (∀ A' s a w, K A' s → A'.holds fr a w → Q .normal a w) → wpListIn fr.kd.g9 0 P ops Q l a w
  | [], A, K, a, w, h, ha, hk => hk A [] a w h ha
  | o :: rest, A, K, a, w, ⟨f, ⟨hd, hsets, hS, hK, hop⟩, hrest⟩, ⟨M, ok, hs, ht⟩, hk => by
    have h := hop a w M ok.wf ok.size (fun c _ hc => hs c hc) (fun x hx _ => ht x hx)
    unfold wpListIn
    split
    · rename_i hw
      rw [if_pos hw] at h
      refine Oper.pX (fun a' w' ⟨v, e, hl⟩ => ?_) h
      subst e
      rw [← hd]
      exact lM rest _ _ _ _ hrest (oR hS hK ok hs ht hl) fun A' s a w hk' hA => hk A' _ a w hk' hA
    · rename_i hw
      rw [if_neg hw] at h
      refine ⟨fun f _ => fr.kd.qM f, ?_⟩
      rw [← hd]
      exact lM rest _ _ _ _ hrest (oR hS hK ok hs ht h) fun A' s a w hk' hA => hk A' _ a w hk' hA
def hit (s : As × Fx) (c : Nat) : Bool := s.2.d == some c || !(s.1.slots c).safe s.2.S s.2.K
def kK (s : As × Fx) (t : Nat) : Bool := (s.2.S.contains t || s.2.K.contains t) || s.1.tags.any fun x => x.1 == t && !x.2.safe s.2.S s.2.K
def Fx.calm (f : Fx) : Bool := f.S.isEmpty && f.K.isEmpty
def Fx.slotsOf (f : Fx) : List Nat := f.d.toList ++ f.rs
def Fx.pH (f : Fx) : List Nat := f.S ++ (f.K ++ f.rt)
def conflict (n : Nat) (s t : As × Fx) : Bool :=
  t.2.slotsOf.any (hit s) || s.2.slotsOf.any (hit t) || t.2.pH.any (kK s) || s.2.pH.any (kK t) ||
  (!s.2.calm && !t.2.calm && ((List.range n).any (fun c => hit s c && hit t c) || s.1.tags.any fun x => kK s x.1 && kK t x.1))
def qg (ops : Array Oper) (i j : Nat) : Bool :=
  match ops[j]? with
  | some o => o.after.toList.any fun e => Region.binds .any e && e.on == i
  | none => false
def Pz (ops : Array Oper) : Nat → List Nat → List Nat
  | 0, s => s
  | k + 1, s => Pz ops k (bif s.any fun m => qg ops k m then k :: s else s)
def path (ops : Array Oper) (i j : Nat) : Bool := qg ops i j || (Pz ops j [j]).contains i
def K4 (n : Nat) (ops : Array Oper) (s t : As × Fx) (i j : Nat) : Bool := !(decide (i < j) && conflict n s t) || path ops i j
def Qt (ops : Array Oper) (steps : List ((As × Fx) × Nat)) (i k c : Nat) : Bool := steps.any fun m => decide (k < m.2) && (decide (m.2 < i) && (hit m.1 c && path ops m.2 i))
def CA (ops : Array Oper) (steps : List ((As × Fx) × Nat)) (s t : As × Fx) (i k : Nat) : Bool :=
  (if i == k then true else if k < i then t.2.d.toList.all (fun c => t.2.ty.safe s.2.S s.2.K || (hit s c || Qt ops steps i k c)) && t.2.sets.all (fun x => x.2.safe s.2.S s.2.K || kK s x.1)
    else (t.2.ty.safe s.2.S s.2.K && t.2.sets.all (fun x => x.2.safe s.2.S s.2.K)) || path ops i k)
def H8 (n : Nat) (A0 : As) (s : As × Fx) : Bool :=
  s.2.calm || ((List.range n).all (fun c => (A0.slots c).safe s.2.S s.2.K || hit s c) && A0.tags.all (fun x => x.2.safe s.2.S s.2.K || kK s x.1))
def Bw (n : Nat) (ops : Array Oper) (A0 : As) (steps : List (As × Fx)) : Bool :=
  steps.zipIdx.all fun s => H8 n A0 s.1 && steps.zipIdx.all fun t => K4 n ops s.1 t.1 s.2 t.2 && (s.1.2.calm || CA ops steps.zipIdx s.1 t.1 s.2 t.2)
theorem zn : ∀ (l : List Oper) (k : Nat) (A : As) (K : As → List (As × Fx) → Prop), ay P fr ops l A K → (∀ j, l[j]? = ops[k + j]?) →
    ∃ (st : Nat → As) (fx : Nat → Fx), st 0 = A ∧ (∀ i, i < l.length → ∃ o, ops[k + i]? = some o ∧ uU P fr ops o (st i) (fx i)) ∧ (∀ i, i < l.length → st (i + 1) = (st i).after (fx i)) ∧
      K (st l.length) ((List.range l.length).map fun i => (st i, fx i))
  | [], k, A, K, h, _ => ⟨fun _ => A, fun _ => ⟨none, Ty.any, [], [], [], [], []⟩, rfl, fun i hi => absurd hi (Nat.not_lt_zero _), fun i hi => absurd hi (Nat.not_lt_zero _), h⟩
  | o :: rest, k, A, K, ⟨f, hop, hrest⟩, hl => by
    obtain ⟨st, fx, h0, h1, h2, h3⟩ := zn rest (k + 1) _ _ hrest (fun j => by have := hl (j + 1); simpa [Nat.add_assoc, Nat.add_comm 1 j] using this)
    refine ⟨fun i => match i with | 0 => A | i + 1 => st i, fun i => match i with | 0 => f | i + 1 => fx i, rfl, fun i hi => ?_, fun i hi => ?_, ?_⟩
    · cases i with
      | zero => exact ⟨o, by have := hl 0; simpa using this.symm, hop⟩
      | succ i => obtain ⟨o', ho', h⟩ := h1 i zw; exact ⟨o', by rw [← ho']; congr 1; omega, h⟩
    · cases i with
      | zero => exact h0
      | succ i => exact h2 i zw
    · simp only [List.length_cons, List.range_succ_eq_map, List.map_cons, List.map_map]
      exact h3
variable {st : Nat → As} {fx : Nat → Fx} {m : Nat}
theorem yw {A : As} {f : Fx} {c : Nat} (h : hit (A, f) c = false) : (A.after f).slots c = A.slots c := by
  simp only [hit, Bool.or_eq_false_iff, beq_eq_false_iff_ne, Bool.not_eq_false'] at h
  rcases eo f.S f.K A.slots c with ⟨e, _⟩ | ⟨e, _⟩
  · simp only [As.after, qU]
    cases hd : f.d with
    | none => simpa using e
    | some d =>
      have : Nat.beq c d = false := by cases hb : Nat.beq c d with | false => rfl | true => exact absurd (by rw [hd, Nat.eq_of_beq_eq_true hb]) h.1
      simpa [this] using e
  · rw [h.2] at e; cases e
theorem Gg {A : As} {f : Fx} {c : Nat} (h : f.d = some c) : (A.after f).slots c = f.ty := by simp [As.after, qU, h]
theorem yJ {A : As} {f : Fx} {c : Nat} (h : f.d ≠ some c) (hk : (A.slots c).safe f.S f.K = false) : (A.after f).slots c = Ty.any := by
  rcases eo f.S f.K A.slots c with ⟨_, e⟩ | ⟨_, e⟩
  · rw [hk] at e; cases e
  · simp only [As.after, qU]
    cases hd : f.d with
    | none => simpa using e
    | some d =>
      have : Nat.beq c d = false := by cases hb : Nat.beq c d with | false => rfl | true => exact absurd (by rw [hd, Nat.eq_of_beq_eq_true hb]) h
      simpa [this] using e
theorem JS (hstep : ∀ i, i < m → st (i + 1) = (st i).after (fx i)) (c : Nat) : ∀ j, j ≤ m →
    (st j).slots c = (st 0).slots c ∨ (st j).slots c = Ty.any ∨ ∃ k, k < j ∧ (fx k).d = some c ∧ (st j).slots c = (fx k).ty ∧ ∀ u, k < u → u < j → hit (st u, fx u) c = false := by
  intro j
  induction j with
  | zero => exact fun _ => .inl rfl
  | succ j ih =>
    intro hj
    have ih := ih aE
    rw [hstep j aE]
    by_cases hd : (fx j).d = some c
    · exact .inr (.inr ⟨j, by omega, hd, Gg hd, fun u h1 h2 => by omega⟩)
    · cases hk : ((st j).slots c).safe (fx j).S (fx j).K with
      | false => exact .inr (.inl (yJ hd hk))
      | true =>
        rw [yw (by simp [hit, hd, hk])]
        rcases ih with h | h | ⟨k, h1, h2, h3, h4⟩
        · exact .inl h
        · exact .inr (.inl h)
        · refine .inr (.inr ⟨k, by omega, h2, h3, fun u g1 g2 => ?_⟩)
          by_cases e : u = j
          · subst e; simp [hit, hd, hk]
          · exact h4 u g1 aE
theorem J6 (hstep : ∀ i, i < m → st (i + 1) = (st i).after (fx i)) (x : Nat × Cont) : ∀ j, j ≤ m → x ∈ (st j).tags →
    ∃ y : Nat × Cont, y.1 = x.1 ∧ x.2.Pm y.2 ∧ (y ∈ (st 0).tags ∨ ∃ k, k < j ∧ y ∈ (fx k).sets) := by
  intro j
  induction j generalizing x with
  | zero => exact fun _ h => ⟨x, rfl, ⟨fun _ h => h, fun _ h => h⟩, .inl h⟩
  | succ j ih =>
    intro hj hx
    rw [hstep j aE] at hx
    rcases List.mem_append.1 hx with h | h
    · exact ⟨x, rfl, ⟨fun _ h => h, fun _ h => h⟩, .inr ⟨j, by omega, h⟩⟩
    · obtain ⟨_, _, y, hy, e, ⟨rfl, _⟩ | ⟨_, hs⟩⟩ := qX h
      · obtain ⟨z, h1, h2, h3⟩ := ih y aE hy
        exact ⟨z, h1, h2, h3.imp id fun ⟨k, hk, h⟩ => ⟨k, by omega, h⟩⟩
      · obtain ⟨z, h1, h2, h3⟩ := ih y aE hy
        have hl := IX hs
        exact ⟨z, h1.trans e, ⟨fun u hu => h2.1 u (hl.1 u hu), fun u hu => h2.2 u (hl.2 u hu)⟩, h3.imp id fun ⟨k, hk, h⟩ => ⟨k, by omega, h⟩⟩
theorem Ap (hstep : ∀ i, i < m → st (i + 1) = (st i).after (fx i)) (c i : Nat) : ∀ j, i ≤ j → j ≤ m → (∀ k, i ≤ k → k < j → hit (st k, fx k) c = false) → (st j).slots c = (st i).slots c := by
  intro j
  induction j with
  | zero => intro h _ _; have : i = 0 := by omega
            subst this; rfl
  | succ j ih =>
    intro h hj hn
    by_cases e : i = j + 1
    · subst e; rfl
    · rw [hstep j aE, yw (hn j aE aE)]
      exact ih aE aE fun k h1 h2 => hn k h1 aE
theorem D5 (hstep : ∀ i, i < m → st (i + 1) = (st i).after (fx i)) (hset : ∀ i, i < m → ∀ x ∈ (fx i).sets, x.1 ∈ (fx i).S ∨ x.1 ∈ (fx i).K) (x : Nat × Cont) (i : Nat) : ∀ j, i ≤ j → j ≤ m →
    (∀ k, i ≤ k → k < j → kK (st k, fx k) x.1 = false) → x ∈ (st j).tags → x ∈ (st i).tags := by
  intro j
  induction j with
  | zero => intro h _ _ hx; have : i = 0 := by omega
            subst this; exact hx
  | succ j ih =>
    intro h hj hn hx
    by_cases e : i = j + 1
    · subst e; exact hx
    · refine ih aE aE (fun k h1 h2 => hn k h1 aE) ?_
      rw [hstep j aE] at hx
      have hh := hn j aE aE
      simp only [kK, Bool.or_eq_false_iff, List.contains_eq_mem, decide_eq_false_iff_not, List.any_eq_false, Bool.and_eq_true, beq_iff_eq, Bool.not_eq_true', not_and, Bool.not_eq_false] at hh
      rcases List.mem_append.1 hx with h1 | h1
      · rcases hset j aE x h1 with h2 | h2
        · exact absurd h2 hh.1.1
        · exact absurd h2 hh.1.2
      · obtain ⟨_, _, y, hy, e, ⟨rfl, _⟩ | ⟨hu, _⟩⟩ := qX h1
        · exact hy
        · have := hh.2 y hy e; rw [hu] at this; cases this
end
end Go.T
namespace Go.T
open Go Go.RowKit
section
variable {P : Program} {fr : Fr} {ops : Array Oper} {st : Nat → As} {fx : Nat → Fx} {m : Nat}
structure P4 (P : Program) (fr : Fr) (ops : Array Oper) (st : Nat → As) (fx : Nat → Fx) (m : Nat) : Prop where
  sz : ops.size = m
  op : ∀ i, i < m → ∃ o, ops[i]? = some o ∧ uU P fr ops o (st i) (fx i)
  step : ∀ i, i < m → st (i + 1) = (st i).after (fx i)
  pair : ∀ i j, i < j → j < m → conflict fr.n (st i, fx i) (st j, fx j) = true → path ops i j = true
  star : ∀ i k, i < m → k < m → (fx i).calm = false → CA ops ((List.range m).map fun i => (st i, fx i)).zipIdx (st i, fx i) (st k, fx k) i k = true
  one : ∀ i, i < m → H8 fr.n (st 0) (st i, fx i) = true
def mV (listed : Array Bool) (i : Nat) : Prop := listed.getD i false = true
theorem vh {q : Nat → Prop} (h : ∀ k m, qg ops k m = true → q m → q k) : ∀ (k : Nat) (s : List Nat), (∀ x ∈ s, q x) → ∀ x ∈ Pz ops k s, q x
  | 0, _, hs => hs
  | k + 1, s, hs => by
    refine vh h k _ fun x hx => ?_
    cases hc : s.any fun m => qg ops k m with
    | false => rw [hc] at hx; exact hs x hx
    | true =>
      rw [hc] at hx
      obtain ⟨m, hm, he⟩ := List.any_eq_true.1 hc
      rcases List.mem_cons.1 hx with rfl | hx
      · exact h _ m he (hs m hm)
      · exact hs x hx
theorem k9 {listed : Array Bool} (hdown : ∀ k j, qg ops k j = true → mV listed j → mV listed k) {i j : Nat} (h : path ops i j = true) (hj : mV listed j) : mV listed i := by
 simp only [path, Bool.or_eq_true, List.contains_eq_mem, decide_eq_true_eq] at h
 rcases h with h | h
 ·exact hdown i j h hj
 exact vh (q := mV listed) hdown j [j] (fun x hx => by rw [List.mem_singleton.1 hx]; exact hj) i h
theorem vG {listed : Array Bool} (hdown : ∀ k j, qg ops k j = true → mV listed j → mV listed k) {i k : Nat} (hpre : ∀ k, qg ops k i = true → mV listed k) (h : path ops k i = true) (hne : k ≠ i) : mV listed k := by
 simp only [path, Bool.or_eq_true, List.contains_eq_mem, decide_eq_true_eq] at h
 rcases h with h | h
 ·exact hpre k h
 refine (vh (q := fun x => x = i ∨ mV listed x) (fun a m he hm => ?_) i [i] (fun x hx => .inl (List.mem_singleton.1 hx)) k h).resolve_left hne
 rcases hm with rfl | hm
 ·exact .inr (hpre a he)
 exact .inr (hdown a m he hm)
structure Inv (fr : Fr) (ops : Array Oper) (st : Nat → As) (fx : Nat → Fx) (m : Nat) (listed : Array Bool) (a : Act) (w : World) (M : bI) : Prop where
  ok : Ok fr a w M
  down : ∀ k j, qg ops k j = true → mV listed j → mV listed k
  slot : ∀ c, c < fr.n → ∀ j, j ≤ m → (∀ i, i < j → hit (st i, fx i) c = true → mV listed i) → (∀ i, j ≤ i → i < m → hit (st i, fx i) c = true → ¬ mV listed i) →
    ((st j).slots c).den w M (a.tmps.getD c undef)
  tag : ∀ j, j ≤ m → ∀ x ∈ (st j).tags, (∀ i, i < j → kK (st i, fx i) x.1 = true → mV listed i) → (∀ i, j ≤ i → i < m → kK (st i, fx i) x.1 = true → ¬ mV listed i) → x.2.den w M x.1
theorem vN {listed : Array Bool} {i k : Nat} (h : mV (listed.setIfInBounds i true) k) : mV listed k ∨ k = i := by
 by_cases e : i = k
 ·exact .inr e.symm
 exact .inl (by simpa [mV, Array.getElem?_setIfInBounds_ne e] using h)
theorem xX {listed : Array Bool} {i k : Nat} (h : mV listed k) : mV (listed.setIfInBounds i true) k := getD_set_true h
theorem Ev {listed : Array Bool} {i : Nat} (h : i < listed.size) : mV (listed.setIfInBounds i true) i := by simp [mV, h]
theorem A2 {n : Nat} {s t : As × Fx} {c : Nat} (h : c ∈ t.2.slotsOf) (hh : hit s c = true) : conflict n s t = true := by
 have : t.2.slotsOf.any (hit s) = true := List.any_eq_true.2 ⟨c, h, hh⟩
 simp [conflict, this]
theorem yY {n : Nat} {s t : As × Fx} {c : Nat} (h : c ∈ s.2.slotsOf) (hh : hit t c = true) : conflict n s t = true := by
 have : s.2.slotsOf.any (hit t) = true := List.any_eq_true.2 ⟨c, h, hh⟩
 simp [conflict, this]
theorem Dw {n : Nat} {s t : As × Fx} {c : Nat} (h : c ∈ t.2.pH) (hh : kK s c = true) : conflict n s t = true := by
 have : t.2.pH.any (kK s) = true := List.any_eq_true.2 ⟨c, h, hh⟩
 simp [conflict, this]
theorem BV {n : Nat} {s t : As × Fx} {c : Nat} (h : c ∈ s.2.pH) (hh : kK t c = true) : conflict n s t = true := by
 have : s.2.pH.any (kK t) = true := List.any_eq_true.2 ⟨c, h, hh⟩
 simp [conflict, this]
theorem Kk {s : As × Fx} {c : Nat} (h : s.2.d = some c) : hit s c = true := by simp [hit, h]
theorem yc {s : As × Fx} {c : Nat} (h : hit s c = true) (hd : s.2.d ≠ some c) : (s.1.slots c).safe s.2.S s.2.K = false ∧ s.2.calm = false := by
  have h1 : (s.1.slots c).safe s.2.S s.2.K = false := by
    simp only [hit, Bool.or_eq_true, beq_iff_eq, hd, false_or, Bool.not_eq_true'] at h; exact h
  refine ⟨h1, ?_⟩
  cases hk : s.2.calm with
  | false => rfl
  | true =>
    simp only [Fx.calm, Bool.and_eq_true, List.isEmpty_iff] at hk
    rw [hk.1, hk.2, yh] at h1; cases h1
theorem sy {f : Fx} {c : Nat} (h : f.d = some c) : c ∈ f.slotsOf := by simp [Fx.slotsOf, h]
theorem Iy {n : Nat} {s t : As × Fx} {c : Nat} (hc : c < n) (h : hit s c = true) (h' : hit t c = true) : conflict n s t = true := by
 by_cases hd : s.2.d = some c
 ·exact yY (sy hd) h'
 by_cases hd' : t.2.d = some c
 ·exact A2 (sy hd') h
 have h1 := (yc h hd).2
 have h2 := (yc h' hd').2
 have : ((List.range n).any fun c => hit s c && hit t c) = true := List.any_eq_true.2 ⟨c, List.mem_range.2 hc, by simp [h, h']⟩
 simp [conflict, h1, h2, this]
theorem calm_eq {f : Fx} (h : f.calm = true) : f.S = [] ∧ f.K = [] := by simpa [Fx.calm] using h
theorem wg (t : Cont) : t.safe [] [] = true := by simp [Cont.safe, lp]
theorem tF {n : Nat} {s t : As × Fx} {c : Nat} (h : kK s c = true) (h' : kK t c = true) : conflict n s t = true := by
  have hs : (c ∈ s.2.S ∨ c ∈ s.2.K) ∨ ∃ x ∈ s.1.tags, x.1 = c ∧ x.2.safe s.2.S s.2.K = false := by
    simpa only [kK, Bool.or_eq_true, List.contains_eq_mem, decide_eq_true_eq, List.any_eq_true, Bool.and_eq_true, beq_iff_eq, Bool.not_eq_true'] using h
  have ht : (c ∈ t.2.S ∨ c ∈ t.2.K) ∨ ∃ x ∈ t.1.tags, x.1 = c ∧ x.2.safe t.2.S t.2.K = false := by
    simpa only [kK, Bool.or_eq_true, List.contains_eq_mem, decide_eq_true_eq, List.any_eq_true, Bool.and_eq_true, beq_iff_eq, Bool.not_eq_true'] using h'
  rcases hs with hs | ⟨x, hx, rfl, hxs⟩
  · exact BV (by simp only [Fx.pH, List.mem_append]; exact hs.elim .inl fun h => .inr (.inl h)) h'
  · rcases ht with ht | ⟨y, _, _, hys⟩
    · exact Dw (by simp only [Fx.pH, List.mem_append]; exact ht.elim .inl fun h => .inr (.inl h)) h
    · have c1 : s.2.calm = false := by
        cases hc : s.2.calm with
        | false => rfl
        | true => rw [(calm_eq hc).1, (calm_eq hc).2, wg] at hxs; cases hxs
      have c2 : t.2.calm = false := by
        cases hc : t.2.calm with
        | false => rfl
        | true => rw [(calm_eq hc).1, (calm_eq hc).2, wg] at hys; cases hys
      have : (s.1.tags.any fun x => kK s x.1 && kK t x.1) = true := List.any_eq_true.2 ⟨x, hx, by simp [h, h']⟩
      simp [conflict, c1, c2, this]
theorem P4.Dr (r : P4 P fr ops st fx m) {listed : Array Bool} (hdown : ∀ k j, qg ops k j = true → mV listed j → mV listed k) {i c j : Nat} (hi : i < m) (hni : ¬ mV listed i) (hc : c < fr.n) (hj : j ≤ m)
    (hnh : hit (st i, fx i) c = false) (h1 : ∀ k, k < j → hit (st k, fx k) c = true → mV listed k) (h2 : ∀ k, j ≤ k → k < m → hit (st k, fx k) c = true → ¬ mV listed k) (hpre : ∀ k, qg ops k i = true → mV listed k) : ((st j).slots c).safe (fx i).S (fx i).K = true := by
  cases hK : (fx i).calm with
  | true =>
    rw [(calm_eq hK).1, (calm_eq hK).2]; exact yh _
  | false =>
    rcases JS r.step c j hj with e | e | ⟨k, hk, hd, e, hlast⟩
    · rw [e]
      have := r.one i hi
      simp only [H8, hK, Bool.false_or, Bool.and_eq_true, List.all_eq_true, List.mem_range] at this
      have := this.1 c hc
      simpa [hnh] using this
    · rw [e]; simp [Ty.any, Ty.safe, lp]
    · rw [e]
      have hkm : k < m := by omega
      have := r.star i k hi hkm hK
      by_cases hik : i = k
      · subst hik; rw [Kk (s := (st i, fx i)) hd] at hnh; cases hnh
      · simp only [CA, beq_iff_eq, hik, if_false] at this
        by_cases hlt : k < i
        · simp only [hlt, if_true, hd, Option.toList_some, List.all_cons, List.all_nil, Bool.and_true, Bool.and_eq_true, hnh, Bool.false_or, Bool.or_eq_true] at this
          rcases this.1 with h | h
          · exact h
          · obtain ⟨⟨q, u⟩, hq, h⟩ := List.any_eq_true.1 h
            rw [List.mem_zipIdx_iff_getElem?] at hq
            have hum : u < m := by
              have := (List.getElem?_eq_some_iff.1 hq).1
              simpa using this
            rw [List.getElem?_map, List.getElem?_range hum] at hq
            injection hq with hq
            subst hq
            simp only [Bool.and_eq_true, decide_eq_true_eq] at h
            obtain ⟨g1, g2, g3, g4⟩ := h
            rcases Nat.lt_or_ge u j with h | h
            · rw [hlast u g1 h] at g3; cases g3
            · exact absurd (vG hdown hpre g4 aE) (h2 u h hum g3)
        · simp only [hlt, if_false, Bool.and_eq_true, Bool.or_eq_true] at this
          rcases this with h | h
          · exact h.1
          · exact absurd (k9 hdown h (h1 k hk (Kk hd))) hni
theorem P4.Na (r : P4 P fr ops st fx m) {listed : Array Bool} (hdown : ∀ k j, qg ops k j = true → mV listed j → mV listed k) {i j : Nat} (hi : i < m) (hni : ¬ mV listed i) (hj : j ≤ m) {x : Nat × Cont} (hx : x ∈ (st j).tags)
    (hnh : kK (st i, fx i) x.1 = false) (h1 : ∀ k, k < j → kK (st k, fx k) x.1 = true → mV listed k) : x.2.safe (fx i).S (fx i).K = true := by
  cases hK : (fx i).calm with
  | true =>
    rw [(calm_eq hK).1, (calm_eq hK).2]; exact wg _
  | false =>
    obtain ⟨y, e, hl, h | ⟨k, hk, h⟩⟩ := J6 r.step x j hj hx
    · refine BY hl ?_
      have := r.one i hi
      simp only [H8, hK, Bool.false_or, Bool.and_eq_true, List.all_eq_true] at this
      have := this.2 y h
      rw [e, hnh, Bool.or_false] at this; exact this
    · refine BY hl ?_
      have hkm : k < m := by omega
      have hst := r.star i k hi hkm hK
      have hin : y.1 ∈ (fx k).S ∨ y.1 ∈ (fx k).K := by obtain ⟨_, _, ho⟩ := r.op k hkm; exact ho.2.1 y h
      have hkh : kK (st k, fx k) x.1 = true := by
        rw [← e]
        simp only [kK, Bool.or_eq_true, List.contains_eq_mem, decide_eq_true_eq]; exact .inl hin
      unfold CA at hst
      by_cases hik : i = k
      · subst hik; rw [hkh] at hnh; cases hnh
      · simp only [beq_iff_eq, hik, if_false] at hst
        by_cases hlt : k < i
        · simp only [hlt, if_true, Bool.and_eq_true, List.all_eq_true] at hst
          have := hst.2 y h
          rw [e, hnh, Bool.or_false] at this; exact this
        · simp only [hlt, if_false, Bool.and_eq_true, Bool.or_eq_true, List.all_eq_true] at hst
          rcases hst with hst | hst
          · exact hst.2 y h
          · exact absurd (k9 hdown hst (h1 k hk hkh)) hni
theorem Inv.step (r : P4 P fr ops st fx m) {listed : Array Bool} {a : Act} {w w' : World} {M : bI} {v : Value} (inv : Inv fr ops st fx m listed a w M) {i : Nat} (hi : i < m) (hsz : i < listed.size) (hni : ¬ mV listed i)
    (hpre : ∀ k, qg ops k i = true → mV listed k) {o : Oper} (hop : uU P fr ops o (st i) (fx i)) (hl : (fx i).left w M w' v) :
    ∃ M', Inv fr ops st fx m (listed.setIfInBounds i true) (a.put o.dst v) w' M' := by
  obtain ⟨hd, hsets, hS, hK, _⟩ := hop
  obtain ⟨M', wf', le, hv, hse⟩ := hl
  have hset : ∀ i, i < m → ∀ x ∈ (fx i).sets, x.1 ∈ (fx i).S ∨ x.1 ∈ (fx i).K := fun i hi => by
    obtain ⟨_, _, h⟩ := r.op i hi; exact h.2.1
  refine ⟨M', ⟨⟨wf', Fr.ij inv.ok.base hS hK le, by rw [size_put, inv.ok.size], by rw [tP]; exact inv.ok.defers.step hS (fun t ht => (hK t ht).1) le⟩, ?_, ?_, ?_⟩⟩
  · intro k j he hj
    rcases vN hj with h | rfl
    · exact xX (inv.down k j he h)
    · exact xX (hpre k he)
  · intro c hc j hj h1 h2
    rw [← hd, z3 a (fx i).d v c (by rw [inv.ok.size]; exact hc)]
    cases hh : hit (st i, fx i) c with
    | true =>
      have hij : i < j := by
        rcases Nat.lt_or_ge i j with h | h
        · exact h
        · exact absurd (Ev hsz) (h2 i h hi hh)
      have hno : ∀ k, i + 1 ≤ k → k < j → hit (st k, fx k) c = false := by
        intro k hk hkj
        cases hkc : hit (st k, fx k) c with
        | false => rfl
        | true =>
          have hlk : mV listed k := (vN (h1 k hkj hkc)).resolve_right aE
          exact absurd (k9 inv.down (r.pair i k aE aE (Iy hc hh hkc)) hlk) hni
      rw [Ap r.step c (i + 1) j aE hj hno, r.step i hi]
      by_cases e : (fx i).d = some c
      · rw [Gg e, if_pos e]; exact hv
      · rw [yJ e (yc hh e).1]; trivial
    | false =>
      have e : (fx i).d ≠ some c := fun e => by rw [Kk (s := (st i, fx i)) e] at hh; cases hh
      rw [if_neg e]
      have h1' : ∀ k, k < j → hit (st k, fx k) c = true → mV listed k := fun k hk hkc =>
        (vN (h1 k hk hkc)).resolve_right (fun e => by subst e; rw [hh] at hkc; cases hkc)
      have h2' : ∀ k, j ≤ k → k < m → hit (st k, fx k) c = true → ¬ mV listed k := fun k hk hkm hkc hlk => h2 k hk hkm hkc (xX hlk)
      exact ((st j).slots c).mono le (eF (r.Dr inv.down hi hni hc hj hh h1' h2' hpre)).1 (eF (r.Dr inv.down hi hni hc hj hh h1' h2' hpre)).2 (inv.slot c hc j hj h1' h2')
  · intro j hj x hx h1 h2
    cases hh : kK (st i, fx i) x.1 with
    | true =>
      have hij : i < j := by
        rcases Nat.lt_or_ge i j with h | h
        · exact h
        · exact absurd (Ev hsz) (h2 i h hi hh)
      have hno : ∀ k, i + 1 ≤ k → k < j → kK (st k, fx k) x.1 = false := by
        intro k hk hkj
        cases hkc : kK (st k, fx k) x.1 with
        | false => rfl
        | true =>
          have hlk : mV listed k := (vN (h1 k hkj hkc)).resolve_right aE
          exact absurd (k9 inv.down (r.pair i k aE aE (tF hh hkc)) hlk) hni
      have hx' := D5 r.step hset x (i + 1) j aE hj hno hx
      rw [r.step i hi] at hx'
      rcases List.mem_append.1 hx' with h | h
      · exact hse x h
      · refine gE le h fun y hy e => inv.tag i aE y hy (fun k hk hkc => ?_) fun k hk hkm hkc hlk => ?_
        · rw [e] at hkc
          exact vG inv.down hpre (r.pair k i hk hi (tF hkc hh)) aE
        · rw [e] at hkc
          rcases Nat.lt_or_ge i k with hlt | hge
          · exact hni (k9 inv.down (r.pair i k hlt hkm (tF hh hkc)) hlk)
          · have : k = i := by omega
            subst this; exact hni hlk
    | false =>
      have h1' : ∀ k, k < j → kK (st k, fx k) x.1 = true → mV listed k := fun k hk hkc =>
        (vN (h1 k hk hkc)).resolve_right (fun e => by subst e; rw [hh] at hkc; cases hkc)
      have hsafe := r.Na inv.down hi hni hj hx hh h1'
      simp only [kK, Bool.or_eq_false_iff, List.contains_eq_mem, decide_eq_false_iff_not] at hh
      exact x.2.mono le (qH hsafe).1 (qH hsafe).2 hh.1.1 hh.1.2 (inv.tag j hj x hx h1' fun k hk hkm hkc hlk => h2 k hk hkm hkc (xX hlk))
theorem Ju {listed : Array Bool} {i : Nat} {o : Oper} (ho : ops[i]? = some o) (h : ∀ e ∈ o.after, Region.binds .any e = true → listed.getD e.on false = true) : ∀ k, qg ops k i = true → mV listed k := by
 intro k hk
 simp only [qg, ho, List.any_eq_true, Bool.and_eq_true, beq_iff_eq] at hk
 obtain ⟨e, he, hb, hon⟩ := hk
 subst hon
 exact h e (Array.mem_toList_iff.1 he) hb
theorem F1 (r : P4 P fr ops st fx m) {Q : Exit → Act → World → Prop} (hQ : ∀ a w, (st m).holds fr a w → Q .normal a w) (hacyc : ∀ i j, qg ops i j = true → i < j) :
    ∀ (fuel : Nat) (listed : Array Bool) (a : Act) (w : World) (M : bI), listed.size = m → (listed.toList.countP fun b => !b) ≤ fuel → Inv fr ops st fx m listed a w M → wpAnyIn fr.kd.g9 0 P .any ops Q fuel listed a w := by
  have hfin : ∀ (listed : Array Bool) (a : Act) (w : World) (M : bI), listed.size = m → Region.ready .any ops listed = [] → Inv fr ops st fx m listed a w M → Q .normal a w := by
    intro listed a w M hsz hr inv
    have hall : ∀ i, i < m → mV listed i := by
      intro i
      induction i using Nat.strongRecOn with
      | _ i ih =>
        intro hi
        refine Classical.byContradiction fun hn => ?_
        obtain ⟨o, ho, _⟩ := r.op i hi
        have hmem : i ∈ Region.ready .any ops listed := by
          rw [mem_ready]
          refine ⟨?_, o, ho, fun e he hb => ?_⟩
          · simp only [mV, Array.getD_eq_getD_getElem?] at hn ⊢
            rw [Array.getElem?_eq_getElem aE] at hn ⊢
            simpa using hn
          · have hed : qg ops e.on i = true := by
              simp only [qg, ho, List.any_eq_true, Bool.and_eq_true, beq_iff_eq]
              exact ⟨e, Array.mem_toList_iff.2 he, hb, rfl⟩
            have := hacyc _ _ hed
            exact ih e.on this aE
        rw [hr] at hmem
        cases hmem
    refine hQ a w ⟨M, inv.ok, fun c hc => inv.slot c hc m (Nat.le_refl _) (fun i hi _ => hall i hi) (fun i h1 h2 => absurd h2 aE),
      fun x hx => inv.tag m (Nat.le_refl _) x hx (fun i hi _ => hall i hi) (fun i h1 h2 => absurd h2 aE)⟩
  intro fuel
  induction fuel with
  | zero =>
    intro listed a w M hsz hcnt inv
    have hr : Region.ready .any ops listed = [] := by
      refine List.eq_nil_iff_forall_not_mem.2 fun i hi => ?_
      rw [mem_ready] at hi
      obtain ⟨h0, o, ho, _⟩ := hi
      have hlt : i < listed.size := by rw [hsz, ← r.sz]; exact (Array.getElem?_eq_some_iff.1 ho).1
      have : 0 < listed.toList.countP fun b => !b := by
        rw [List.countP_pos_iff]
        refine ⟨listed[i], by simp, ?_⟩
        simpa [Array.getD_eq_getD_getElem?, Array.getElem?_eq_getElem hlt] using h0
      omega
    exact ⟨hr, hfin listed a w M hsz hr inv⟩
  | succ fuel ih =>
    intro listed a w M hsz hcnt inv
    refine ⟨fun hr => hfin listed a w M hsz hr inv, fun i hi => ?_⟩
    rw [mem_ready] at hi
    obtain ⟨h0, o, ho, hpre⟩ := hi
    have hlt : i < listed.size := by rw [hsz, ← r.sz]; exact (Array.getElem?_eq_some_iff.1 ho).1
    have him : i < m := by omega
    have hni : ¬ mV listed i := by
      simp only [mV, Array.getD_eq_getD_getElem?, Array.getElem?_eq_getElem hlt, Option.getD_some] at h0 ⊢
      simp [h0]
    have hpre' := Ju ho hpre
    obtain ⟨o', ho', hop⟩ := r.op i him
    rw [ho] at ho'
    injection ho' with ho'
    subst ho'
    have hcnt' : ((listed.setIfInBounds i true).toList.countP fun b => !b) ≤ fuel := by
      have hb : listed[i] = false := by simpa [Array.getD_eq_getD_getElem?, Array.getElem?_eq_getElem hlt] using h0
      have h1 : (listed.setIfInBounds i true).toList = listed.toList.set i true := by simp
      rw [h1, List.countP_set ni]
      simp only [Array.getElem_toList, hb]
      have : 0 < listed.toList.countP fun b => !b := by
        rw [List.countP_pos_iff]
        exact ⟨listed[i], by simp, by simp [hb]⟩
      simp only [Bool.not_false, Bool.not_true, if_true, Bool.false_eq_true, if_false]
      omega
    have hnext : ∀ w' v, (fx i).left w M w' v → wpAnyIn fr.kd.g9 0 P .any ops Q fuel (listed.setIfInBounds i true) (a.put o.dst v) w' := fun w' v hl => by
      obtain ⟨M', inv'⟩ := inv.step r him hlt hni hpre' hop hl
      exact ih _ _ _ M' (by simpa using hsz) hcnt' inv'
    have h := hop.2.2.2.2 a w M inv.ok.wf inv.ok.size
      (fun c hc hcn => inv.slot c hcn i aE
        (fun k hk hkc => vG inv.down hpre' (r.pair k i hk him (A2 (by simp [Fx.slotsOf, hc]) hkc)) aE)
        (fun k hk hkm hkc hlk => by
          rcases Nat.lt_or_ge i k with h | h
          · exact hni (k9 inv.down (r.pair i k h hkm (yY (by simp [Fx.slotsOf, hc]) hkc)) hlk)
          · have : k = i := by omega
            subst this; exact hni hlk))
      (fun x hx hrt => inv.tag i aE x hx
        (fun k hk hkc => vG inv.down hpre' (r.pair k i hk him (Dw (by simp [Fx.pH, hrt]) hkc)) aE)
        (fun k hk hkm hkc hlk => by
          rcases Nat.lt_or_ge i k with h | h
          · exact hni (k9 inv.down (r.pair i k h hkm (BV (by simp [Fx.pH, hrt]) hkc)) hlk)
          · have : k = i := by omega
            subst this; exact hni hlk))
    simp only [wpOpIn, ho]
    split
    · rename_i hw
      rw [if_pos hw] at h
      exact Oper.pX (fun a' w' ⟨v, e, hl⟩ => by subst e; exact hnext w' v hl) h
    · rename_i hw
      rw [if_neg hw] at h
      exact ⟨fun f _ => fr.kd.qM f, hnext w undef h⟩
def forward (ops : Array Oper) : Bool := ops.toList.zipIdx.all fun x => x.1.after.toList.all fun e => !Region.binds .any e || decide (e.on < x.2)
theorem Bn (h : forward ops = true) : ∀ i j, qg ops i j = true → i < j := by
 intro i j he
 unfold qg at he
 split at he
 ·rename_i o ho
  simp only [forward, List.all_eq_true] at h
  have hm : (o, j) ∈ ops.toList.zipIdx := by
   rw [List.mem_zipIdx_iff_getElem?]; simpa using ho
  have h2 := h _ hm
  simp only [List.any_eq_true, Bool.and_eq_true, beq_iff_eq] at he
  obtain ⟨e, he, hb, hon⟩ := he
  have := h2 e he
  simp only [hb, Bool.not_true, Bool.false_or, decide_eq_true_eq] at this
  omega
 cases he
theorem xm {S K : Nat → Prop} (w : World) (M : bI) : Le S K w M { w with drawn := w.drawn + 1 } M :=
 ⟨Nat.le_refl _, rfl, rfl, rfl, fun _ _ h => ⟨h, rfl⟩, fun _ _ h _ => ⟨h, fun _ => rfl⟩⟩
theorem KU {id : Nat} {l : List Oper} {A : As} {Q : Exit → Act → World → Prop} (hm : P.follows .mixedOrders = true) (hf : forward l.toArray = true)
    (h : ay P fr l.toArray l A fun A' s => Bw fr.n l.toArray A s = true ∧ ∀ a w, A'.holds fr a w → Q .normal a w) :
    ∀ a w, A.holds fr a w → (Code.region id l.toArray true).wpIn fr.kd.g9 0 P Q a w := by
  intro a w ⟨M, ok, hs, ht⟩
  obtain ⟨st, fx, h0, h1, h2, hord, hK⟩ := zn l 0 A _ h (fun j => by simp)
  subst h0
  have hmem : ∀ i, i < l.length → ((st i, fx i), i) ∈ ((List.range l.length).map fun i => (st i, fx i)).zipIdx := fun i hi => by
    rw [List.mem_zipIdx_iff_getElem?]; simp [List.getElem?_range hi]
  simp only [Bw, List.all_eq_true, Bool.and_eq_true] at hord
  have r : P4 P fr l.toArray st fx l.length := by
    refine ⟨by simp, fun i hi => by simpa using h1 i hi, h2, fun i j hij hj hc => ?_, fun i k hi hk hK => ?_, fun i hi => (hord _ (hmem i hi)).1⟩
    · have := ((hord _ (hmem i aE)).2 _ (hmem j hj)).1
      simpa [K4, hij, hc] using this
    · have := ((hord _ (hmem i hi)).2 _ (hmem k hk)).2
      simpa [hK] using this
  refine wpIn_region_any hm ?_
  refine F1 r hK (Bn hf) _ _ _ _ M bB (by simp [List.countP_replicate]) ⟨⟨⟨ok.wf.lt, ok.wf.inj⟩, Fr.ij (S := fun _ => False) (K := fun _ => False) ok.base (fun _ h => h.elim) (fun _ h => h.elim) (xm w M), ok.size, ok.defers.step (S := fun _ => False) (K := fun _ => False) (fun _ h => h.elim) (fun _ h => h.elim) (xm w M)⟩, ?_, ?_, ?_⟩
  · intro k j _ hj; simp [mV, Array.getElem?_replicate] at hj; split at hj <;> simp at hj
  · intro c hc j hj h1' _
    have : (st j).slots c = (st 0).slots c := Ap h2 c 0 j (Nat.zero_le _) hj fun k _ hk => by
      cases hh : hit (st k, fx k) c with
      | false => rfl
      | true => have := h1' k hk hh; simp [mV, Array.getElem?_replicate] at this; split at this <;> simp at this
    rw [this]
    exact ((st 0).slots c).mono (S := fun _ => False) (K := fun _ => False) (xm w M) (fun _ _ h => h) (fun _ _ h => h) (hs c hc)
  · intro j hj x hx h1' _
    have hset : ∀ i, i < l.length → ∀ x ∈ (fx i).sets, x.1 ∈ (fx i).S ∨ x.1 ∈ (fx i).K := fun i hi => by
      obtain ⟨_, _, h⟩ := h1 i hi; exact h.2.1
    have hx0 := D5 h2 hset x 0 j (Nat.zero_le _) hj (fun k _ hk => by
      cases hh : kK (st k, fx k) x.1 with
      | false => rfl
      | true => have := h1' k hk hh; simp [mV, Array.getElem?_replicate] at this; split at this <;> simp at this) hx
    exact x.2.mono (S := fun _ => False) (K := fun _ => False) (xm w M) (fun _ _ h => h) (fun _ _ h => h) (fun h => h) (fun h => h) (ht x hx0)
theorem I1 {id : Nat} {l : List Oper} {A : As} {Q : Exit → Act → World → Prop} (h : ay P fr l.toArray l A fun A' _ => ∀ a w, A'.holds fr a w → Q .normal a w) :
 ∀ a w, A.holds fr a w → (Code.region id l.toArray false).wpIn fr.kd.g9 0 P Q a w := fun _ _ ha =>
 wpIn_region_lit (lM l A _ _ _ h ha fun _ _ _ _ hk hA => hk _ _ hA)
end
end Go.T
namespace Go.T
open Go Go.RowKit
def rF (v : Value) (_ : World) (_ : bI) (x : Value) : Prop := x = v
def Ty.ex (v : Value) : Ty := ⟨rF v, [], [], fun _ _ _ h => h, v.oneCell', fun h e => (show _ = _ from e) ▸ h⟩
def iL (k : IntKind) (n : Int) (_ : World) (_ : bI) (x : Value) : Prop := x = .int k n
def Ty.int (k : IntKind) (n : Int) : Ty := ⟨iL k n, [], [], fun _ _ _ h => h, true, fun _ e => (show _ = _ from e) ▸ rfl⟩
def fu (b : Bool) (_ : World) (_ : bI) (x : Value) : Prop := x = .bool b
def Ty.bool (b : Bool) : Ty := ⟨fu b, [], [], fun _ _ _ h => h, true, fun _ e => (show _ = _ from e) ▸ rfl⟩
def jJ (s : ByteArray) (_ : World) (_ : bI) (x : Value) : Prop := x = .string s
def Ty.str (s : ByteArray) : Ty := ⟨jJ s, [], [], fun _ _ _ h => h, true, fun _ e => (show _ = _ from e) ▸ rfl⟩
def jY (t off : Nat) (_ : World) (M : bI) (x : Value) : Prop := ∃ b, M b = some t ∧ x = .pointer (some ⟨b, off, none⟩)
def Ty.ptr (t off : Nat) : Ty := ⟨jY t off, [t], [], fun le hk _ ⟨b, h, e⟩ => ⟨b, (le.own b t h (hk t bB)).1, e⟩, true, fun _ ⟨_, _, e⟩ => e ▸ rfl⟩
def jQ (l : List Ty) (w : World) (M : bI) (x : Value) : Prop := ∃ cs : Array Value, x = .agg cs ∧ cS w M l cs.toList
def Ty.agg (l : List Ty) : Ty := { den := jQ l, deps := cR l, cdeps := cB l, mono := fun le hk hs ⟨cs, e, h⟩ => ⟨cs, e, b7 le hk hs h⟩ }
def jL (l : List Ty) (w : World) (M : bI) (x : Value) : Prop := ∃ cs : Array Value, x = .tuple cs ∧ cS w M l cs.toList
def Ty.iF (l : List Ty) : Ty := { den := jL l, deps := cR l, cdeps := cB l, mono := fun le hk hs ⟨cs, e, h⟩ => ⟨cs, e, b7 le hk hs h⟩ }
def jI (f : FuncId) (caps : List Ty) (w : World) (M : bI) (x : Value) : Prop := ∃ cs : Array Value, x = .func (.func f) #[] cs ∧ cS w M caps cs.toList
def Ty.so (f : FuncId) (caps : List Ty) : Ty := ⟨jI f caps, cR caps, cB caps, fun le hk hs ⟨cs, e, h⟩ => ⟨cs, e, b7 le hk hs h⟩, true, fun _ ⟨_, e, _⟩ => e ▸ rfl⟩
def q5 (g : Bool) (t : Ty) (w : World) (M : bI) (x : Value) : Prop := (g = true → t.den w M x) ∧ (g = false → x = undef)
def Ty.gd (g : Bool) (t : Ty) : Ty := { den := q5 g t, deps := t.deps, cdeps := t.cdeps, mono := fun le hk hs h => ⟨fun hg => t.mono le hk hs (h.1 hg), h.2⟩ }
def qm (w : World) (M : bI) (b off : Nat) (l : List Ty) : Prop :=
  M b = none ∧ b < w.heap.size ∧ ∀ (i : Nat) (t : Ty), l[i]? = some t → ∃ v, w.cell? ⟨b, off + i, none⟩ = some v ∧ t.den w M v
theorem uH {S K : Nat → Prop} {w w' : World} {M M' : bI} (le : Le S K w M w' M') {b off : Nat} {l : List Ty} (hk : ∀ t ∈ cR l, ¬ K t) (hs : ∀ t ∈ cB l, ¬ S t) (h : qm w M b off l) : qm w' M' b off l := by
 obtain ⟨h1, h2, h3⟩ := h
 obtain ⟨h4, h5⟩ := le.o8 b h2 h1
 refine ⟨h4, Nat.lt_of_lt_of_le h2 le.size, fun i t hi => ?_⟩
 obtain ⟨v, hc, hd⟩ := h3 i t hi
 refine ⟨v, ?_, t.mono le (fun u hu => hk u ?_) (fun u hu => hs u ?_) hd⟩
 ·rw [← hc]; exact World.cell?_of_block (w := w) h5
 ·simp only [cR, List.mem_flatMap]; exact ⟨t, List.mem_of_getElem? hi, hu⟩
 simp only [cB, List.mem_flatMap]; exact ⟨t, List.mem_of_getElem? hi, hu⟩
theorem uF {w : World} {M : bI} {b off : Nat} {l : List Ty} (n : Nat) (h : qm w M b off l) : qm w M b (off + n) (l.drop n) :=
 ⟨h.1, h.2.1, fun i t hi => by rw [List.getElem?_drop] at hi; obtain ⟨v, hv, hd⟩ := h.2.2 (n + i) t hi; exact ⟨v, by rw [Nat.add_assoc]; exact hv, hd⟩⟩
theorem FM {w : World} {M : bI} {b off : Nat} {l : List Ty} (n : Nat) (h : qm w M b off l) : qm w M b off (l.take n) :=
 ⟨h.1, h.2.1, fun i t hi => h.2.2 i t (by rw [List.getElem?_take] at hi; split at hi <;> simp_all)⟩
def r9 (l : List Ty) (w : World) (M : bI) (x : Value) : Prop := ∃ b off, x = .pointer (some ⟨b, off, none⟩) ∧ qm w M b off l
def Ty.pp (l : List Ty) : Ty := ⟨r9 l, cR l, cB l, fun le hk hs ⟨b, off, e, h⟩ => ⟨b, off, e, uH le hk hs h⟩, true, fun _ ⟨_, _, e, _⟩ => e ▸ rfl⟩
structure El (α : Type) where
  size : Nat
  tys : α → List Ty
  len : ∀ x, (tys x).length = size
  nodeps : ∀ x, cR (tys x) = []
  nocdeps : ∀ x, cB (tys x) = []
  ones : ∀ x, (tys x).all Ty.one = true
def cL : El Int := ⟨1, fun n => [Ty.int .i64 n], fun _ => rfl, fun _ => rfl, fun _ => rfl, fun _ => rfl⟩
def nth {α : Type} [Inhabited α] (xs : List α) (k : Nat) : α := xs.getD k default
theorem dS {α : Type} [Inhabited α] {xs : List α} {k : Nat} (h : k < xs.length) : nth xs k = xs[k] := by simp [nth, h]
theorem cD {α : Type} [Inhabited α] {xs : List α} {k : Nat} (h : k < xs.length) : nth xs k ∈ xs := by rw [dS h]; exact List.getElem_mem h
theorem cg {α : Type} [Inhabited α] {xs : List α} {k : Nat} (h : k < xs.length) : xs.take (k + 1) = xs.take k ++ [nth xs k] := by
 rw [List.take_succ_eq_append_getElem h, dS h]
theorem lu {α : Type} [Inhabited α] {xs : List α} {k : Nat} (h : k < xs.length) : xs.drop k = nth xs k :: xs.drop (k + 1) := by
 rw [dS h]; exact List.drop_eq_getElem_cons h
theorem El.jd {α : Type} (E : El α) (xs : List α) : cR (xs.flatMap E.tys) = [] := by
 refine List.eq_nil_iff_forall_not_mem.2 fun t ht => ?_
 simp only [cR, List.mem_flatMap] at ht
 obtain ⟨x, ⟨y, _, hx⟩, hu⟩ := ht
 have h' : t ∈ cR (E.tys y) := by simp only [cR, List.mem_flatMap]; exact ⟨x, hx, hu⟩
 rw [E.nodeps y] at h'; cases h'
theorem El.kA {α : Type} (E : El α) (xs : List α) : cB (xs.flatMap E.tys) = [] := by
 refine List.eq_nil_iff_forall_not_mem.2 fun t ht => ?_
 simp only [cB, List.mem_flatMap] at ht
 obtain ⟨x, ⟨y, _, hx⟩, hu⟩ := ht
 have h' : t ∈ cB (E.tys y) := by simp only [cB, List.mem_flatMap]; exact ⟨x, hx, hu⟩
 rw [E.nocdeps y] at h'; cases h'
def pJ {α : Type} (E : El α) (xs : List α) (w : World) (M : bI) (x : Value) : Prop :=
  ∃ A c, x = .slice A xs.length c ∧ xs.length ≤ c ∧ c ≤ maxLen ∧ (0 < xs.length → ∃ b off, A = some ⟨b, off, none⟩ ∧ qm w M b off (xs.flatMap E.tys))
def Ty.sl {α : Type} (E : El α) (xs : List α) : Ty :=
  ⟨pJ E xs, [], [], fun le _ _ ⟨A, c, e, h1, h2, h⟩ => ⟨A, c, e, h1, h2, fun h0 => let ⟨b, off, e, h⟩ := h h0; ⟨b, off, e, uH le lV jm h⟩⟩, true, fun _ ⟨_, _, e, _⟩ => e ▸ rfl⟩
theorem zm {α : Type} (E : El α) : ∀ (xs : List α) (k j : Nat), k < xs.length → j < E.size → (xs.flatMap E.tys)[k * E.size + j]? = (xs[k]?).bind fun x => (E.tys x)[j]?
  | [], k, j, h, _ => absurd h (Nat.not_lt_zero _)
  | x :: xs, 0, j, _, hj => by simp [List.getElem?_append, E.len, hj]
  | x :: xs, k + 1, j, h, hj => by
    have := zm E xs k j nq hj
    rw [List.flatMap_cons, List.getElem?_append, if_neg (by rw [E.len, Nat.succ_mul]; omega), E.len, List.getElem?_cons_succ, ← this]
    congr 1
    rw [Nat.succ_mul]; omega
def Ty.mC : Value → Ty
  | .int k n => .int k n
  | .bool b => .bool b
  | .string s => .str s
  | v => .ex v
def As.op (A : As) (fr : Fr) : Operand → Ty
  | .tmp t => bif Nat.blt t fr.n then A.slots t else Ty.any
  | .const v => Ty.mC v
  | .func f => Ty.so f []
  | .global _ => Ty.any
def cA : Operand → List Nat
  | .tmp t => [t]
  | _ => []
theorem m7 (w : World) (M : bI) (v : Value) : (Ty.mC v).den w M v := by cases v <;> rfl
theorem cN {fr : Fr} {A : As} {a : Act} {w : World} {M : bI} {x : Operand} {rs : List Nat} (hr : ∀ c ∈ cA x, c ∈ rs) (h : ∀ c ∈ rs, c < fr.n → (A.slots c).den w M (a.tmps.getD c undef)) : (A.op fr x).den w M (a.eval x) := by
  cases x with
  | tmp t =>
    simp only [As.op, Act.eval]
    cases hb : Nat.blt t fr.n with
    | true => exact h t (hr t (by simp [cA])) (by simpa using hb)
    | false => trivial
  | const v => exact m7 w M v
  | func f => exact ⟨#[], rfl, trivial⟩
  | global g => trivial
def As.set (A : As) (d : Nat) (ty : Ty) : As := ⟨fun c => bif Nat.beq c d then ty else A.slots c, A.tags⟩
section
variable {P : Program} {fr : Fr} {ops : Array Oper} {A : As} {rest : List Oper} {K : As → List (As × Fx) → Prop} {d : Nat} {t : TypeId} {p : String} {e : Array Edge}
theorem bl {o : Oper} {rs : List Nat} {ty : Ty} {rt : List Nat} (hg : o.guard = none) (hd : o.dst = some d)
 (h : ∀ (a : Act) w M, Wf w M → (∀ c ∈ rs, c < fr.n → (A.slots c).den w M (a.tmps.getD c undef)) → (∀ x ∈ A.tags, x.1 ∈ rt → x.2.den w M x.1) → ∃ v, (execOp a.eval o).run P w = .ok (.value v) w ∧ ty.den w M v) :
 uU P fr ops o A { d := some d, ty := ty, rs := rs, rt := rt } := by
 refine ⟨hd.symm, by simp, by simp, by simp, fun a w M wf _ hr ht => ?_⟩
 rw [if_pos Fk]
 obtain ⟨v, hv, hty⟩ := h a w M wf hr ht
 refine rR hv ?_
 exact ⟨v, rfl, M, wf, Le.refl _ _ _ _, hty, by simp⟩
theorem bR {o : Oper} {rs : List Nat} {ty : Ty} {rt : List Nat} (hop : uU P fr ops o A { d := some d, ty := ty, rs := rs, rt := rt })
 (h : ay P fr ops rest (A.set d ty) fun A' l => K A' ((A, { d := some d, ty := ty, rs := rs, rt := rt }) :: l)) : ay P fr ops (o :: rest) A K := ⟨_, hop, h⟩
theorem aD (h : K A []) : ay P fr ops [] A K := h
theorem iQ {x : Operand} {ty : Ty} (hx : A.op fr x = ty) (h : ay P fr ops rest (A.set d ty) fun A' l => K A' ((A, { d := some d, ty := ty, rs := cA x }) :: l)) :
 ay P fr ops (⟨some d, .move x, t, p, e, none⟩ :: rest) A K :=
 bR (bl rfl rfl fun a w M _ hr _ => ⟨a.eval x, by simp [execOp], hx ▸ cN (fun _ h => h) hr⟩) h
theorem gu {x : Operand} {ty : Ty} (hx : A.op fr x = ty) (h : ay P fr ops rest (A.set d ty) fun A' l => K A' ((A, { d := some d, ty := ty, rs := cA x }) :: l)) :
 ay P fr ops (⟨some d, .assign x, t, p, e, none⟩ :: rest) A K :=
 bR (bl rfl rfl fun a w M _ hr _ => ⟨a.eval x, by simp [execOp], hx ▸ cN (fun _ h => h) hr⟩) h
theorem op2 {a : Act} {w : World} {M : bI} {x y : Operand} (hr : ∀ c ∈ cA x ++ cA y, c < fr.n → (A.slots c).den w M (a.tmps.getD c undef)) :
 (A.op fr x).den w M (a.eval x) ∧ (A.op fr y).den w M (a.eval y) :=
 ⟨cN (fun c h => List.mem_append_left _ h) hr, cN (fun c h => List.mem_append_right _ h) hr⟩
def QC (op : BinOp) (k : IntKind) (a b : Int) : Option Ty :=
  match op with
  | .add => some (.int k (k.wrap (a + b)))
  | .sub => some (.int k (k.wrap (a - b)))
  | .mul => some (.int k (k.wrap (a * b)))
  | .and => some (.int k (bits .and k a b))
  | .or => some (.int k (bits .or k a b))
  | .xor => some (.int k (bits .xor k a b))
  | .andNot => some (.int k (bits .andNot k a b))
  | .eql => some (.bool (decide (a = b)))
  | .neq => some (.bool (!decide (a = b)))
  | .lss => some (.bool (decide (a < b)))
  | .leq => some (.bool (decide (a ≤ b)))
  | .gtr => some (.bool (decide (b < a)))
  | .geq => some (.bool (decide (b ≤ a)))
  | _ => none
theorem HS (a b : Int) : (a == b) = decide (a = b) := by rw [Bool.eq_iff_iff]; simp
theorem Lu {op : BinOp} {k : IntKind} {a b : Int} {ty : Ty} (h : QC op k a b = some ty) (x y : Operand) (t : TypeId) (w : World) (M : bI) :
 ∃ v, (do eqGuard op t x y (.int k a) (.int k b); binOp op t (.int k a) (.int k b) : Sem Value).run P w = .ok v w ∧ ty.den w M v := by
 cases op <;> simp only [QC, Option.some.injEq, reduceCtorEq] at h <;> subst h <;> refine ⟨_, ?_, rfl⟩ <;> simp [go_sem, Op.intArith, bne, HS]
end
end Go.T
namespace Go.T
open Go Go.RowKit
inductive TK where
  | int (k : IntKind) | bool | string | ptr (e : Nat) | slice (e : Nat) | array (n e : Nat) | struct (fs : List (Nat × Nat)) | map (k e : Nat) | func | other
structure TI where
  k : TK
  size : Nat
  bytes : Nat
  zero : List Value
def TK.of : TypeDesc → TK
  | .int k => .int k
  | .bool => .bool
  | .string => .string
  | .pointer e => .ptr e
  | .slice e => .slice e
  | .array n e => .array n e
  | .struct fs => .struct (fs.toList.map fun f => (f.offset, f.type))
  | .map k e => .map k e
  | .func .. => .func
  | _ => .other
def TK.agg : TK → Bool
  | .struct _ | .array .. => true
  | _ => false
def JB (P : Program) (t : Nat) : Option TI :=
  match P.info? t, P.underlying t with
  | some i, some d => some ⟨TK.of d, i.size, i.bytes, match i.zero with | some z => z.cells.toList | none => []⟩
  | _, _ => none
class lq (P : Program) where
  dz : List TI
  ok : ∀ (t : Nat) (x : TI), dz[t]? = some x → JB P t = some x
theorem lq.of {P : Program} {l : List TI} (h : (List.range l.length).map (JB P) = l.map some) : ∀ (t : Nat) (x : TI), l[t]? = some x → JB P t = some x := by
 intro t x hx
 have hlt : t < l.length := (List.getElem?_eq_some_iff.1 hx).1
 have h1 : ((List.range l.length).map (JB P))[t]? = (l.map some)[t]? := by rw [h]
 simp [List.getElem?_range hlt, hx] at h1
 exact h1
section
variable {P : Program} [T : lq P] {fr : Fr} {ops : Array Oper} {A : As} {rest : List Oper} {K : As → List (As × Fx) → Prop} {d : Nat} {t ty' : TypeId} {p : String} {e : Array Edge}
theorem cP {t : Nat} {x : TI} (h : T.dz[t]? = some x) : ∃ i D, P.info? t = some i ∧ P.underlying t = some D ∧ TK.of D = x.k ∧ i.size = x.size ∧ i.bytes = x.bytes ∧ (match i.zero with | some z => z.cells.toList | none => []) = x.zero := by
 have h := T.ok t x h
 unfold JB at h
 split at h
 ·rename_i i D hi hD
  injection h with h
  subst h
  exact ⟨i, D, hi, hD, rfl, rfl, rfl, rfl⟩
 cases h
theorem cq {t : Nat} {x : TI} (h : T.dz[t]? = some x) (w : World) : (sizeOf t).run P w = .ok x.size w := by
 obtain ⟨i, _, hi, _, _, hs, _⟩ := cP h
 simp [sizeOf, typeInfo, hi, hs]
theorem qL {t : Nat} {x : TI} (h : T.dz[t]? = some x) (w : World) : (isAgg t).run P w = .ok x.k.agg w := by
 obtain ⟨i, D, _, hD, hk, _⟩ := cP h
 rw [← hk]
 cases D <;> simp [isAgg, run_underlying hD, TK.of, TK.agg]
theorem mX {t : Nat} {x : TI} (h : T.dz[t]? = some x) (ha : x.k.agg = false) {w : World} {b off : Nat} {v : Value} (hc : w.cell? ⟨b, off, none⟩ = some v) :
 (Instr.loadAt t (.pointer (some ⟨b, off, none⟩))).run P w = .ok v w := by
 simp [Instr.loadAt, Instr.sureAddr, loadVar, qL h, ha, load, Sem.run, hc]
theorem iB {t : Nat} {x : TI} (h : T.dz[t]? = some x) (ha : x.k.agg = true) {w : World} {b off : Nat} {cs : List Value} (hl : cs.length = x.size) (hc : ∀ j v, cs[j]? = some v → w.cell? ⟨b, off + j, none⟩ = some v) :
 (Instr.loadAt t (.pointer (some ⟨b, off, none⟩))).run P w = .ok (.agg cs.toArray) w := by
 have := run_loadCells_list (P := P) (w := w) ⟨b, off, none⟩ cs (fun j v hj => by rw [Addr.add_lit]; exact hc j v hj)
 rw [hl] at this
 simp [Instr.loadAt, Instr.sureAddr, loadVar, qL h, ha, cq h, this]
theorem mW {w : World} {M : bI} {b off : Nat} {l : List Ty} (h : qm w M b off l) : ∀ n, n ≤ l.length → ∃ cs : List Value, cs.length = n ∧ cS w M (l.take n) cs ∧ ∀ j v, cs[j]? = some v → w.cell? ⟨b, off + j, none⟩ = some v := by
  intro n
  induction n with
  | zero => exact fun _ => ⟨[], rfl, trivial, fun j v h => by simp at h⟩
  | succ n ih =>
    intro hn
    obtain ⟨cs, h1, h2, h3⟩ := ih aE
    obtain ⟨v, hv, hd⟩ := h.2.2 n l[n] (List.getElem?_eq_getElem aE)
    refine ⟨cs ++ [v], by simp [h1], ?_, fun j u hj => ?_⟩
    · refine iH (by simp [h1]; omega) fun i t hi => ?_
      rw [List.getElem?_take] at hi
      split at hi
      · rename_i hlt
        by_cases e : i = n
        · subst e
          rw [List.getElem?_eq_getElem aE] at hi
          injection hi with hi
          subst hi
          exact ⟨v, by rw [List.getElem?_append_right aE]; simp [h1], hd⟩
        · obtain ⟨x, hx, hdx⟩ := dr h2 i t (by rw [List.getElem?_take, if_pos aE]; exact hi)
          exact ⟨x, by rw [List.getElem?_append_left aE]; exact hx, hdx⟩
      · cases hi
    · rcases Nat.lt_or_ge j n with hlt | hge
      · rw [List.getElem?_append_left aE] at hj; exact h3 j u hj
      · rw [List.getElem?_append_right aE] at hj
        have : j = n := by
          rcases Nat.lt_or_ge (j - cs.length) 1 with h | h
          · omega
          · rw [List.getElem?_eq_none nq] at hj; cases hj
        subst this
        simp [h1] at hj
        subst hj; exact hv
theorem aJ {x : Operand} {l : List Ty} {ti : TI} {ty : Ty} (hx : A.op fr x = .pp l) (hT : T.dz[ty']? = some ti) (ha : ti.k.agg = false) (hl : l[0]? = some ty)
 (h : ay P fr ops rest (A.set d ty) fun A' l => K A' ((A, { d := some d, ty := ty, rs := cA x }) :: l)) : ay P fr ops (⟨some d, .load ty' x, t, p, e, none⟩ :: rest) A K :=
 bR (bl rfl rfl fun a w M _ hr _ => by
  have := cN (x := x) (fun _ h => h) hr
  rw [hx] at this
  obtain ⟨b, off, e, hp⟩ := this
  obtain ⟨v, hv, hd⟩ := hp.2.2 0 ty hl
  have hv' : w.cell? ⟨b, off, none⟩ = some v := hv
  exact ⟨v, by simp [execOp, e, mX hT ha hv'], hd⟩) h
theorem aY {x : Operand} {l : List Ty} {ti : TI} (hx : A.op fr x = .pp l) (hT : T.dz[ty']? = some ti) (ha : ti.k.agg = true) (hl : ti.size ≤ l.length)
 (h : ay P fr ops rest (A.set d (.agg (l.take ti.size))) fun A' l' => K A' ((A, { d := some d, ty := .agg (l.take ti.size), rs := cA x }) :: l')) : ay P fr ops (⟨some d, .load ty' x, t, p, e, none⟩ :: rest) A K :=
 bR (bl rfl rfl fun a w M _ hr _ => by
  have := cN (x := x) (fun _ h => h) hr
  rw [hx] at this
  obtain ⟨b, off, e, hp⟩ := this
  obtain ⟨cs, h1, h2, h3⟩ := mW hp _ hl
  exact ⟨.agg cs.toArray, by simp [execOp, e, iB hT ha h1 h3], cs.toArray, rfl, by simpa using h2⟩) h
def As.tag (A : As) (t : Nat) : Option Cont := A.tags.lookup t
theorem cj {A : As} {t : Nat} {C : Cont} (h : A.tag t = some C) : (t, C) ∈ A.tags := by
  unfold As.tag at h
  revert h
  generalize A.tags = l
  induction l with
  | nil => intro h; cases h
  | cons x l ih =>
    intro h
    obtain ⟨u, D⟩ := x
    rw [List.lookup_cons] at h
    split at h
    · rename_i he
      injection h with h
      subst h
      have : t = u := by simpa using he
      subst this; exact List.mem_cons_self
    · exact List.mem_cons_of_mem _ (ih h)
theorem EL {w : World} {M : bI} {tg T b off : Nat} {l : List Ty} {ty : Ty} (wf : Wf w M) (h1 : fR tg) (hb : M b = some tg) (hc : (Cont.cells T l).den w M tg) (hl : l[off]? = some ty) :
 ∃ v, w.cell? ⟨b, off, none⟩ = some v ∧ ty.den w M v := by
 obtain ⟨b', cs, hb', hh, hd⟩ := hc
 obtain ⟨u, rfl⟩ : ∃ u, tg = u + 1 := ⟨tg - 1, by omega⟩
 have := wf.inj b b' u aE hb hb'
 subst this
 obtain ⟨v, hv, hdv⟩ := dr hd off ty hl
 exact ⟨v, by simpa [World.cell?, hh] using hv, hdv⟩
theorem aq {x : Operand} {tg off Tb : Nat} {l : List Ty} {ti : TI} {ty : Ty} (hx : A.op fr x = .ptr tg off) (hc : A.tag tg = some (.cells Tb l)) (h1 : fR tg) (hT : T.dz[ty']? = some ti) (ha : ti.k.agg = false) (hl : l[off]? = some ty)
 (h : ay P fr ops rest (A.set d ty) fun A' l => K A' ((A, { d := some d, ty := ty, rs := cA x, rt := [tg] }) :: l)) : ay P fr ops (⟨some d, .load ty' x, t, p, e, none⟩ :: rest) A K :=
 bR (bl rfl rfl fun a w M wf hr ht => by
  have := cN (x := x) (fun _ h => h) hr
  rw [hx] at this
  obtain ⟨b, hb, e⟩ := this
  obtain ⟨v, hv, hd⟩ := EL wf h1 hb (ht _ (cj hc) bB) hl
  exact ⟨v, by simp [execOp, e, mX hT ha hv], hd⟩) h
theorem aW {x : Operand} {tg off Tb : Nat} {l : List Ty} {ti : TI} (hx : A.op fr x = .ptr tg off) (hc : A.tag tg = some (.cells Tb l)) (h1 : fR tg) (hT : T.dz[ty']? = some ti) (ha : ti.k.agg = true) (hl : off + ti.size ≤ l.length)
 (h : ay P fr ops rest (A.set d (.agg ((l.drop off).take ti.size))) fun A' l' => K A' ((A, { d := some d, ty := .agg ((l.drop off).take ti.size), rs := cA x, rt := [tg] }) :: l')) : ay P fr ops (⟨some d, .load ty' x, t, p, e, none⟩ :: rest) A K :=
 bR (bl rfl rfl fun a w M wf hr ht => by
  have := cN (x := x) (fun _ h => h) hr
  rw [hx] at this
  obtain ⟨b, hb, e⟩ := this
  obtain ⟨b', cs, hb', hh, hd⟩ := ht _ (cj hc) bB
  obtain ⟨u, rfl⟩ : ∃ u, tg = u + 1 := ⟨tg - 1, by omega⟩
  have := wf.inj b b' u aE hb hb'
  subst this
  have hlen := cO hd
  have h2 := lJ ti.size (jk off hd)
  refine ⟨.agg ((cs.toList.drop off).take ti.size).toArray, ?_, _, rfl, by simpa using h2⟩
  have := iB (P := P) hT ha (w := w) (b := b) (off := off) (cs := (cs.toList.drop off).take ti.size) (by simp at hlen ⊢; omega) (fun j v hj => by
   rw [List.getElem?_take] at hj
   split at hj
   ·rw [List.getElem?_drop] at hj
    simpa [World.cell?, hh] using hj
   cases hj)
  simp [execOp, e, this]) h
theorem v7 {t f : Nat} {ti : TI} {fs : List (Nat × Nat)} {o ft : Nat} {tf : TI} (hT : T.dz[t]? = some ti) (hk : ti.k = .struct fs) (hf : fs[f]? = some (o, ft)) (hF : T.dz[ft]? = some tf) (h0 : tf.size ≠ 0) (b off : Nat) (w : World) :
 (Instr.fieldAt t (.pointer (some ⟨b, off, none⟩)) f).run P w = .ok (.pointer (some ⟨b, off + o, none⟩)) w := by
 obtain ⟨i, D, _, hD, hkd, _⟩ := cP hT
 rw [hk] at hkd
 cases D <;> simp only [TK.of, reduceCtorEq, TK.struct.injEq] at hkd
 rename_i fields
 subst hkd
 simp only [List.getElem?_map, Option.map_eq_some_iff, Prod.mk.injEq] at hf
 obtain ⟨g, hg, ho, hft⟩ := hf
 subst ho; subst hft
 have hg' : fields[f]? = some g := by simpa using hg
 simp [Instr.fieldAt, run_underlying hD, hg', Instr.sureAddr, fieldPlace, cq hF, h0]
 exact Addr.add_lit _ _ _
theorem aN {x : Operand} {f : Nat} {l : List Ty} {ti tf : TI} {fs : List (Nat × Nat)} {o ft : Nat} (hx : A.op fr x = .pp l) (hT : T.dz[ty']? = some ti) (hk : ti.k = .struct fs) (hf : fs[f]? = some (o, ft)) (hF : T.dz[ft]? = some tf) (h0 : tf.size ≠ 0)
 (h : ay P fr ops rest (A.set d (.pp (l.drop o))) fun A' l' => K A' ((A, { d := some d, ty := .pp (l.drop o), rs := cA x }) :: l')) : ay P fr ops (⟨some d, .fieldAddr ty' x f, t, p, e, none⟩ :: rest) A K :=
 bR (bl rfl rfl fun a w M _ hr _ => by
  have := cN (x := x) (fun _ h => h) hr
  rw [hx] at this
  obtain ⟨b, off, e, hp⟩ := this
  exact ⟨_, by simp [execOp, e, v7 hT hk hf hF h0], b, off + o, rfl, uF o hp⟩) h
theorem ak {x : Operand} {f tg off : Nat} {ti tf : TI} {fs : List (Nat × Nat)} {o ft : Nat} (hx : A.op fr x = .ptr tg off) (hT : T.dz[ty']? = some ti) (hk : ti.k = .struct fs) (hf : fs[f]? = some (o, ft)) (hF : T.dz[ft]? = some tf) (h0 : tf.size ≠ 0)
 (h : ay P fr ops rest (A.set d (.ptr tg (off + o))) fun A' l' => K A' ((A, { d := some d, ty := .ptr tg (off + o), rs := cA x }) :: l')) : ay P fr ops (⟨some d, .fieldAddr ty' x f, t, p, e, none⟩ :: rest) A K :=
 bR (bl rfl rfl fun a w M _ hr _ => by
  have := cN (x := x) (fun _ h => h) hr
  rw [hx] at this
  obtain ⟨b, hb, e⟩ := this
  exact ⟨_, by simp [execOp, e, v7 hT hk hf hF h0], b, hb, rfl⟩) h
theorem gk {t e : Nat} {ti te : TI} (hT : T.dz[t]? = some ti) (hk : ti.k = .slice e) (hE : T.dz[e]? = some te) {b off len c : Nat} {k : IntKind} {i : Int} (h0 : 0 ≤ i) (h1 : i.toNat < len) (w : World) :
 (Instr.indexAt t (.slice (some ⟨b, off, none⟩) len c) (.int k i)).run P w = .ok (.pointer (some ⟨b, off + i.toNat * te.size, none⟩)) w := by
 obtain ⟨_, D, _, hD, hkd, _⟩ := cP hT
 rw [hk] at hkd
 cases D <;> simp only [TK.of, reduceCtorEq, TK.slice.injEq] at hkd
 subst hkd
 have : 0 ≤ i ∧ i < (len : Int) := ⟨h0, by omega⟩
 simp [Instr.indexAt, asIntOf, run_underlying hD, this, cq hE]
 exact Addr.add_lit _ _ _
theorem jw {t e n : Nat} {ti te : TI} (hT : T.dz[t]? = some ti) (hk : ti.k = .array n e) (hE : T.dz[e]? = some te) {b off : Nat} {k : IntKind} {i : Int} (h0 : 0 ≤ i) (h1 : i.toNat < n) (w : World) :
 (Instr.indexAt t (.pointer (some ⟨b, off, none⟩)) (.int k i)).run P w = .ok (.pointer (some ⟨b, off + i.toNat * te.size, none⟩)) w := by
 obtain ⟨_, D, _, hD, hkd, _⟩ := cP hT
 rw [hk] at hkd
 cases D <;> simp only [TK.of, reduceCtorEq, TK.array.injEq] at hkd
 obtain ⟨e1, e2⟩ := hkd
 subst e1; subst e2
 have h2 : i < (_ : Nat) := Int.lt_of_lt_of_le (Int.lt_add_one_of_le (Int.self_le_toNat i)) (Int.ofNat_le.2 h1)
 simp [Instr.indexAt, asIntOf, run_underlying hD, Instr.sureAddr, h0, h2, cq hE]
 exact Addr.add_lit _ _ _
theorem nB {α : Type} [Inhabited α] (E : El α) (xs : List α) {k : Nat} (hk : k < xs.length) (i : Nat) (ty : Ty) (h : (E.tys (nth xs k))[i]? = some ty) : (xs.flatMap E.tys)[k * E.size + i]? = some ty := by
 have hi : i < E.size := by
  have := (List.getElem?_eq_some_iff.1 h).1
  rw [E.len] at this; exact this
 rw [zm E xs k i hk hi, List.getElem?_eq_getElem hk, ← dS hk]
 exact h
theorem dR {α : Type} [Inhabited α] {x y : Operand} {E : El α} {xs : List α} {k : IntKind} {i : Int} {ti te : TI} {el : Nat} (hx : A.op fr x = .sl E xs) (hy : A.op fr y = .int k i) (hT : T.dz[ty']? = some ti) (hk : ti.k = .slice el) (hE : T.dz[el]? = some te) (hs : te.size = E.size)
 (h0 : 0 ≤ i) (h1 : i.toNat < xs.length)
 (h : ay P fr ops rest (A.set d (.pp (E.tys (nth xs i.toNat)))) fun A' l' => K A' ((A, { d := some d, ty := .pp (E.tys (nth xs i.toNat)), rs := cA x ++ cA y }) :: l')) : ay P fr ops (⟨some d, .indexAddr ty' x y, t, p, e, none⟩ :: rest) A K :=
 bR (bl rfl rfl fun a w M _ hr _ => by
  obtain ⟨hdx, hdy⟩ := op2 hr
  rw [hx] at hdx; rw [hy] at hdy
  obtain ⟨ad, c, ex, _, _, hp⟩ := hdx
  obtain ⟨b, off, rfl, hp'⟩ := hp aE
  have ey : a.eval y = .int k i := hdy
  refine ⟨_, by simp only [execOp, ex, ey, Sem.run_bind, gk hT hk hE h0 h1]; rfl, b, off + i.toNat * te.size, rfl, hp'.1, hp'.2.1, fun j ty hj => ?_⟩
  obtain ⟨v, hv, hd⟩ := hp'.2.2 _ ty (nB E xs h1 j ty hj)
  exact ⟨v, by rw [hs, Nat.add_assoc]; exact hv, hd⟩) h
end
end Go.T
namespace Go.T
open Go Go.RowKit
def kX (w0 : World) (M0 : bI) (res : Ty) (e : Ending) (w' : World) : Prop :=
  ∃ r M', e = .returned r ∧ Wf w' M' ∧ Le (fun t => 1 ≤ t) (fun t => 1 ≤ t) w0 M0 w' M' ∧ res.den w' M' r
def dO (P : Program) (f : FuncId) (args : List Ty) (res : Ty) : Prop :=
  (∃ fn, P.funcs[f]? = some fn ∧ (fn.name == "runtime.NumGoroutine") = false ∧ fn.body.isNone = false) ∧
  ∀ w M vs, Wf w M → (∀ b t, M b = some t → t = 0) → cS w M args vs → Calls P f vs.toArray w (kX w M res)
def fS (P : Program) (fr : Fr) (c : Code) (A : As) (Q : Exit → Act → World → Prop) : Prop := ∀ a w, A.holds fr a w → c.wpIn fr.kd.g9 0 P Q a w
def dG (fr : Fr) (A : As) (R : Act → World → Prop) : Prop := ∀ a w, A.holds fr a w → R a w
section
variable {P : Program} {fr : Fr} {ops : Array Oper} {A : As} {rest : List Oper} {K : As → List (As × Fx) → Prop} {d : Nat} {t ty' : TypeId} {p : String} {e : Array Edge} {Q : Exit → Act → World → Prop} {x y : Code} {id : Nat} {l : List Oper}
theorem aF (h : fS P fr x A (Exit.then (fun a w => y.wpIn fr.kd.g9 0 P Q a w) Q)) : fS P fr (.seq x y) A Q := fun a w ha => wpIn_seq (h a w ha)
theorem aA (h : ay P fr l.toArray l A fun A' _ => dG fr A' (Q .normal)) : fS P fr (.region id l.toArray false) A Q := I1 h
theorem cH (hm : P.follows .mixedOrders = true) (hf : forward l.toArray = true) (h : ay P fr l.toArray l A fun A' s => Bw fr.n l.toArray A s = true ∧ dG fr A' (Q .normal)) : fS P fr (.region id l.toArray true) A Q := KU hm hf h
theorem aC (h : fS P fr y A Q) {Q' : Exit → Act → World → Prop} : dG fr A (Exit.then (fun a w => y.wpIn fr.kd.g9 0 P Q a w) Q' .normal) := h
theorem aI {n : Act → World → Prop} {i : Nat} (h : dG fr A (Q (.exit i))) : dG fr A (Exit.then n Q (.exit i)) := h
theorem aK {n : Act → World → Prop} (h : dG fr A (Q .ret)) : dG fr A (Exit.then n Q .ret) := h
theorem aX (h : dG fr A (Q .normal)) : fS P fr .skip A Q := fun a w ha => wpIn_skip (h a w ha)
theorem bQ {i : Nat} (h : dG fr A (Q (.exit i))) : fS P fr (.exit i) A Q := fun a w ha => wpIn_exit (h a w ha)
theorem au (h : dG fr A (Q .ret)) : fS P fr .ret A Q := fun a w ha => wpIn_ret (h a w ha)
theorem aV (h : fS P fr x A (Exit.inBlock id Q)) : fS P fr (.block id x) A Q := fun a w ha => wpIn_block (h a w ha)
theorem bE (h : dG fr A (Q .normal)) : dG fr A (Exit.inBlock id Q .normal) := h
theorem aZ (h : dG fr A (Q .ret)) : dG fr A (Exit.inBlock id Q .ret) := h
theorem aS {i : Nat} (hi : i = id) (h : dG fr A (Q .normal)) : dG fr A (Exit.inBlock id Q (.exit i)) := fun a w ha => by simpa [Exit.inBlock, hi] using h a w ha
theorem ep {i : Nat} (hi : Nat.beq i id = false) (h : dG fr A (Q (.exit i))) : dG fr A (Exit.inBlock id Q (.exit i)) := fun a w ha => by
 have : i ≠ id := fun e => by rw [e] at hi; simp at hi
 simpa [Exit.inBlock, this] using h a w ha
theorem cI {c : Operand} {b : Bool} (hc : A.op fr c = .bool b) (h1 : b = true → fS P fr x A Q) (h2 : b = false → fS P fr y A Q) : fS P fr (.cond c x y) A Q := fun a w ha => by
  have hv : a.eval c = .bool b := by
    obtain ⟨M, _, hs, _⟩ := ha
    have := cN (x := c) (rs := cA c) (fun _ h => h) (fun c _ hn => hs c hn)
    rw [hc] at this; exact this
  cases b with
  | true => exact wpIn_cond_true hv (h1 rfl a w ha)
  | false => exact wpIn_cond_false hv (h2 rfl a w ha)
def Ty.Sub (s t : Ty) : Prop := ∀ w M v, s.den w M v → t.den w M v
theorem Ty.aM (s : Ty) : s.Sub s := fun _ _ _ h => h
theorem Ty.bC (s : Ty) : s.Sub Ty.any := fun _ _ _ _ => trivial
theorem Ty.sub_eq {s t : Ty} (h : s = t) : s.Sub t := h ▸ Ty.aM s
def Cont.Sub (s t : Cont) : Prop := ∀ w M v, s.den w M v → t.den w M v
theorem Cont.aM (s : Cont) : s.Sub s := fun _ _ _ h => h
theorem Cont.sub_eq {s t : Cont} (h : s = t) : s.Sub t := h ▸ Cont.aM s
def uK (A B : As) : Nat → Prop
  | 0 => True
  | k + 1 => (A.slots k).Sub (B.slots k) ∧ uK A B k
theorem aQ {A B : As} : uK A B 0 := trivial
theorem tw {A B : As} : ∀ {n : Nat}, uK A B n → ∀ c, c < n → (A.slots c).Sub (B.slots c)
  | 0, _, c, hc => absurd hc (Nat.not_lt_zero c)
  | n + 1, h, c, hc => if e : c = n then e ▸ h.1 else tw h.2 c aE
def allTags (A : As) : List (Nat × Cont) → Prop
  | [] => True
  | x :: l => (∃ C, A.tag x.1 = some C ∧ C.Sub x.2) ∧ allTags A l
theorem aR : allTags A [] := trivial
theorem aL {u : Nat} {C D : Cont} {l : List (Nat × Cont)} (h : A.tag u = some D) (hs : D.Sub C) (h' : allTags A l) : allTags A ((u, C) :: l) := ⟨⟨D, h, hs⟩, h'⟩
theorem rj : ∀ {l : List (Nat × Cont)}, allTags A l → ∀ x ∈ l, ∃ C, A.tag x.1 = some C ∧ C.Sub x.2
  | [], _, x, hx => by cases hx
  | y :: l, h, x, hx => by
    rcases List.mem_cons.1 hx with rfl | hx
    · exact h.1
    · exact rj h.2 x hx
structure dw (fr : Fr) (A B : As) : Prop where
  slots : uK A B fr.n
  tags : allTags A B.tags
theorem dw.holds {A B : As} (h : dw fr A B) {a : Act} {w : World} : A.holds fr a w → B.holds fr a w := fun ⟨M, ok, hs, ht⟩ =>
 ⟨M, ok, fun c hc => tw h.slots c hc _ _ _ (hs c hc), fun x hx => by
  obtain ⟨C, hC, hsub⟩ := rj h.tags x hx
  exact hsub _ _ _ (ht _ (cj hC))⟩
theorem cK {B : As} (h : dw fr A B) (h' : fS P fr x B Q) : fS P fr x A Q := fun a w ha => h' a w (h.holds ha)
theorem l8 {J : As} (h : fS P fr x A (Exit.then (fun a w => J.holds fr a w) Q)) (h' : fS P fr y J Q) : fS P fr (.seq x y) A Q := fun a w ha =>
 wpIn_seq (Go.wpIn_mono (h a w ha) fun e a w hq => by cases e <;> first | exact h' a w hq | exact hq)
theorem fB {J : As} (h : dw fr A J) : dG fr A (Exit.then (fun a w => J.holds fr a w) Q .normal) := fun a w ha => h.holds ha
theorem bf {ι : Type} (I : ι → As) (μ : ι → Nat) (i0 : ι) (h0 : dw fr A (I i0))
    (h : ∀ i, fS P fr x (I i) (Exit.then (fun a w => ∃ j, (I j).holds fr a w ∧ μ j < μ i) Q)) : fS P fr (.loop x) A Q := by
  intro a w ha b k cs hro hb hr
  have key : ∀ (n : Nat) (i : ι), μ i = n → ∀ a w, (I i).holds fr a w → ∃ e a' w', Q e a' w' ∧ ArrivesIn (Machine.fenced P fr.kd.g9) P (lone (b.atR a (.code x :: .inLoop x :: k)) cs w) b k cs e a' w' := by
    intro n
    induction n using Nat.strongRecOn with
    | _ n ih =>
      intro i hi a w ha
      obtain ⟨e, a₁, w₁, hq, harr⟩ := h i a w ha b (.inLoop x :: k) cs hro hb hr
      cases e with
      | normal =>
        obtain ⟨j, hj, hlt⟩ := hq
        obtain ⟨e₂, a₂, w₂, hq₂, harr₂⟩ := ih (μ j) (hi ▸ hlt) j rfl a₁ w₁ hj
        exact ⟨e₂, a₂, w₂, hq₂, .of_steps (StepsIn.trans harr (.one (fenced_calm hb hr rfl) stepR_inLoop)) harr₂⟩
      | exit id => exact ⟨_, a₁, w₁, hq, .pass (x := .inLoop x) rfl (fun _ _ => .inl bB) harr⟩
      | goto l => exact ⟨_, a₁, w₁, hq, .pass (x := .inLoop x) rfl (fun _ _ => .inl bB) harr⟩
      | ret => exact ⟨_, a₁, w₁, hq, .pass (x := .inLoop x) rfl (fun _ _ => .inl bB) harr⟩
      | panic ch => exact ⟨_, a₁, w₁, hq, .pass (x := .inLoop x) rfl (fun _ _ => .inl bB) harr⟩
      | outgrown => exact ⟨_, a₁, w₁, hq, .pass (x := .inLoop x) rfl (fun _ _ => .inl bB) harr⟩
  obtain ⟨e, a', w', hq, harr⟩ := key _ i0 rfl a w (h0.holds ha)
  exact ⟨e, a', w', hq, .of_steps (.one (fenced_calm hb hr rfl) stepR_loop) harr⟩
theorem bG {ι : Type} {I : ι → As} {μ : ι → Nat} {i : ι} (j : ι) (h : dw fr A (I j)) (hlt : μ j < μ i) : dG fr A (Exit.then (fun a w => ∃ j, (I j).holds fr a w ∧ μ j < μ i) Q .normal) := fun a w ha => ⟨j, h.holds ha, hlt⟩
def entry (args : List Ty) : As := ⟨fun c => (args[c]?).getD Ty.any, []⟩
theorem az {f : FuncId} {fn : Func} {c : Code} {args : List Ty} {res : Ty} {n : Nat} (hf : P.funcs[f]? = some fn) (hb : fn.body = some c) (hn : (fn.name == "runtime.NumGoroutine") = false) (hnt : fn.ntmps = n) (hl : args.length ≤ n)
    (h : ∀ w0 M0, fS P ⟨n, w0, M0, [], .plain⟩ c (entry args) (bodyPost P fn (kX w0 M0 res))) : dO P f args res := by
  refine ⟨⟨fn, hf, hn, by rw [hb]; rfl⟩, fun w M vs wf hM hd => calls_of_wp hf hb (wpIn_wide.1 (h w M _ _ ?_))⟩
  have hlen := cO hd
  refine ⟨M, ⟨wf, Le.refl _ _ _ _, by simp [hnt, hlen]; omega, Defs.nil⟩, fun c hc => ?_, by simp [entry]⟩
  simp only [entry]
  cases ha : args[c]? with
  | none => trivial
  | some ty =>
    obtain ⟨v, hv, hdv⟩ := dr hd c ty ha
    have : (vs.toArray ++ Array.replicate (fn.ntmps - vs.toArray.size) undef).getD c undef = v := by
      have hlt : c < vs.length := (List.getElem?_eq_some_iff.1 hv).1
      rw [Array.getD_eq_getD_getElem?, Array.getElem?_append_left ni]
      simp [hv]
    rw [this]; exact hdv
theorem HD {fn : Func} {R : Ending → World → Prop} (h : dG fr A (bodyPost P fn R .ret)) : dG fr A (bodyPost P fn R .normal) := h
def Jg (M : bI) : bI := fun b => (M b).map fun _ => 0
theorem yg {M : bI} {b t : Nat} (h : Jg M b = some t) : t = 0 ∧ ∃ u, M b = some u := by
  unfold Jg at h
  cases hm : M b with
  | none => rw [hm] at h; cases h
  | some u => rw [hm] at h; injection h with h; exact ⟨h.symm, u, rfl⟩
theorem FB {w : World} {M : bI} (wf : Wf w M) : Wf w (Jg M) := ⟨fun b t h => let ⟨_, u, hu⟩ := yg h; wf.lt b u hu, fun b b' t _ h _ => by have := (yg h).1; omega⟩
theorem yD {M : bI} (b t : Nat) (h : Jg M b = some t) : t = 0 := (yg h).1
theorem Dq {M : bI} {b : Nat} (h : M b = none) : Jg M b = none := by simp [Jg, h]
theorem Ll {M : bI} {b t : Nat} (h : M b = some t) : Jg M b = some 0 := by simp [Jg, h]
def nV (w : World) (M : bI) : bI := fun b => if b < w.heap.size then M b else none
theorem BF {w w' : World} {M M' : bI} {res : Ty} {r : Value} (wf : Wf w M) (le : Le (fun t => 1 ≤ t) (fun t => 1 ≤ t) w (Jg M) w' M') (hd : res.deps = []) (hdc : res.cdeps = []) (hr : res.den w' M' r) :
    Wf w' (nV w M) ∧ Le (· ∈ ([] : List Nat)) (· ∈ ([] : List Nat)) w M w' (nV w M) ∧ res.den w' (nV w M) r := by
  have hold : ∀ b, b < w.heap.size → w'.heap[b]? = w.heap[b]? := fun b hb => by
    cases hm : M b with
    | none => exact (le.o8 b hb (Dq hm)).2
    | some t => exact (le.own b 0 (Ll hm) aE).2 aE
  refine ⟨⟨fun b t h => ?_, fun b b' t ht1 h h' => ?_⟩, ⟨le.size, le.os, le.tape, le.out, fun b hb hm => ⟨?_, hold b hb⟩, fun b t hm _ => ⟨?_, fun _ => hold b (wf.lt b t hm)⟩⟩, ?_⟩
  · unfold nV at h
    split at h
    · exact Nat.lt_of_lt_of_le ‹_› le.size
    · cases h
  · unfold nV at h h'
    split at h <;> split at h' <;> first | exact wf.inj b b' t ht1 h h' | cases h | cases h'
  · simp [nV, hm]
  · simp [nV, wf.lt b t hm, hm]
  · refine res.mono (S := fun _ => True) (K := fun _ => True) ⟨Nat.le_refl _, rfl, rfl, rfl, fun b _ hm => ⟨?_, rfl⟩, fun b t _ h => absurd trivial h⟩ (by rw [hd]; intro _ h; cases h) (by rw [hdc]; intro _ h; cases h) hr
    unfold nV
    split
    · rename_i hlt
      cases hmb : M b with
      | none => rfl
      | some t =>
        have := (le.own b 0 (Ll hmb) aE).1
        rw [hm] at this; cases this
    · rfl
def om (A : As) (fr : Fr) (xs : List Operand) : List Ty := xs.map (A.op fr)
theorem gC {a : Act} {w : World} {M : bI} {rs : List Nat} (h : ∀ c ∈ rs, c < fr.n → (A.slots c).den w M (a.tmps.getD c undef)) : ∀ {xs : List Operand}, (∀ x ∈ xs, ∀ c ∈ cA x, c ∈ rs) → cS w M (om A fr xs) (xs.map a.eval)
  | [], _ => trivial
  | x :: xs, hr => ⟨cN (hr x List.mem_cons_self) h, gC h fun y hy => hr y (List.mem_cons_of_mem _ hy)⟩
theorem eY {w : World} {M : bI} : ∀ {l l' : List Ty} {vs vs' : List Value}, cS w M l vs → cS w M l' vs' → cS w M (l ++ l') (vs ++ vs')
  | [], _, [], _, _, h => h
  | _ :: _, _, _ :: _, _, ⟨h1, h2⟩, h => ⟨h1, eY h2 h⟩
theorem qj {w : World} {M : bI} {l : List Ty} {vs : List Value} (hd : cR l = []) (hdc : cB l = []) (h : cS w M l vs) : cS w (Jg M) l vs :=
 b7 (S := fun _ => True) (K := fun _ => True) ⟨Nat.le_refl _, rfl, rfl, rfl, fun b _ hm => ⟨Dq hm, rfl⟩, fun b t _ h => absurd trivial h⟩ (by rw [hd]; intro _ h; cases h) (by rw [hdc]; intro _ h; cases h) h
theorem mJ {f : FuncId} {args : List Ty} {res : Ty} (hF : dO P f args res) (vs : Array Value) (w : World) : (callFunc f vs).run P w = .ok (.enter f vs) w := by
 obtain ⟨⟨fn, hf, hn, hb⟩, _⟩ := hF
 have hn' : fn.name ≠ "runtime.NumGoroutine" := by simpa using hn
 have hb' : fn.body ≠ none := fun h => by rw [h] at hb; cases hb
 simp [callFunc, hf, hn', hb']
theorem Kg {f : FuncId} {args : List Ty} {res : Ty} (hF : dO P f args res) {xs : Array Operand} {ats : Array TypeId} (hx : om A fr xs.toList = args) (hd : cR args = []) (hdc : cB args = []) (hr : res.deps = []) (hrc : res.cdeps = []) :
 uU P fr ops ⟨some d, .call ⟨.value (.func f), xs, ats⟩, t, p, e, none⟩ A { d := some d, ty := res, rs := xs.toList.flatMap cA } := by
 refine ⟨rfl, bB, bB, bB, fun a w M wf _ hrd _ => ?_⟩
 rw [if_pos kY]
 have hv : cS w M args (xs.toList.map a.eval) := hx ▸ gC hrd fun x hx c hc => List.mem_flatMap.2 ⟨x, hx, hc⟩
 have hc := hF.2 w _ _ (FB wf) yD (qj hd hdc hv)
 have hrun : (execOp a.eval ⟨some d, .call ⟨.value (.func f), xs, ats⟩, t, p, e, none⟩).run P w = .ok (.enter f (xs.map a.eval)) w := by
  simp [execOp, resolve, Act.eval, Deferred.ofValue, invoke, mJ hF]
 refine jN hrun ?_
 have hvs : (xs.toList.map a.eval).toArray = xs.map a.eval := by rw [← Array.toList_map]
 rw [← hvs]
 refine hc.mono fun en w' ⟨r, M', he, _, le, hden⟩ => ?_
 obtain ⟨h1, h2, h3⟩ := BF wf le hr hrc hden
 exact ⟨r, he, r, rfl, _, h1, h2, h3, by simp⟩
theorem aa {f : FuncId} {args : List Ty} {res : Ty} (hF : dO P f args res) {xs : List Operand} {ats : Array TypeId} (hx : om A fr xs = args) (hd : cR args = []) (hdc : cB args = []) (hr : res.deps = []) (hrc : res.cdeps = [])
 (h : ay P fr ops rest (A.set d res) fun A' l => K A' ((A, { d := some d, ty := res, rs := xs.flatMap cA }) :: l)) : ay P fr ops (⟨some d, .call ⟨.value (.func f), xs.toArray, ats⟩, t, p, e, none⟩ :: rest) A K :=
 ⟨_, Kg hF hx hd hdc hr hrc, h⟩
end
end Go.T
namespace Go.T
open Go Go.RowKit
section
variable {P : Program} {fr : Fr} {ops : Array Oper} {A : As} {rest : List Oper} {K : As → List (As × Fx) → Prop} {d : Nat} {t ty' ty2 : TypeId} {p : String} {e : Array Edge}
theorem ah {op : BinOp} {x y : Operand} {k : IntKind} {a b : Int} {ty : Ty} (hx : A.op fr x = .int k a) (hy : A.op fr y = .int k b) (hr : QC op k a b = some ty)
 (h : ay P fr ops rest (A.set d ty) fun A' l' => K A' ((A, { d := some d, ty := ty, rs := cA x ++ cA y }) :: l')) : ay P fr ops (⟨some d, .binOp op ty' x y ty2, t, p, e, none⟩ :: rest) A K :=
 bR (bl rfl rfl fun a w M _ hrd _ => by
  obtain ⟨hdx, hdy⟩ := op2 hrd
  rw [hx] at hdx; rw [hy] at hdy
  have ex : a.eval x = .int k _ := hdx
  have ey : a.eval y = .int k _ := hdy
  obtain ⟨v, hv', hd⟩ := Lu (P := P) hr x y ty' w M
  refine ⟨v, ?_, hd⟩
  simp only [Sem.run_bind] at hv'
  simp only [execOp, ex, ey, Sem.run_bind, hv']
  rfl) h
theorem bY {x y : Operand} {a b : Int} (hx : A.op fr x = .int .i64 a) (hy : A.op fr y = .int .i64 b) (h1 : -9223372036854775808 ≤ a + b) (h2 : a + b ≤ 9223372036854775807)
 (h : ay P fr ops rest (A.set d (.int .i64 (a + b))) fun A' l' => K A' ((A, { d := some d, ty := .int .i64 (a + b), rs := cA x ++ cA y }) :: l')) : ay P fr ops (⟨some d, .binOp .add ty' x y ty2, t, p, e, none⟩ :: rest) A K := by
 refine ah (op := .add) hx hy (ty := .int .i64 (a + b)) ?_ h
 show some _ = some _
 rw [IntWalk.i64_in (a + b) aE]
theorem ga {x y : Operand} {a b : Int} (hx : A.op fr x = .int .i64 a) (hy : A.op fr y = .int .i64 b) (h1 : -9223372036854775808 ≤ a - b) (h2 : a - b ≤ 9223372036854775807)
 (h : ay P fr ops rest (A.set d (.int .i64 (a - b))) fun A' l' => K A' ((A, { d := some d, ty := .int .i64 (a - b), rs := cA x ++ cA y }) :: l')) : ay P fr ops (⟨some d, .binOp .sub ty' x y ty2, t, p, e, none⟩ :: rest) A K := by
 refine ah (op := .sub) hx hy (ty := .int .i64 (a - b)) ?_ h
 show some _ = some _
 rw [IntWalk.i64_in (a - b) aE]
theorem L4 {x y : Operand} {a b : Int} (hx : A.op fr x = .int .i64 a) (hy : A.op fr y = .int .i64 b) (h1 : -9223372036854775808 ≤ a * b) (h2 : a * b ≤ 9223372036854775807)
 (h : ay P fr ops rest (A.set d (.int .i64 (a * b))) fun A' l' => K A' ((A, { d := some d, ty := .int .i64 (a * b), rs := cA x ++ cA y }) :: l')) : ay P fr ops (⟨some d, .binOp .mul ty' x y ty2, t, p, e, none⟩ :: rest) A K := by
 refine ah (op := .mul) hx hy (ty := .int .i64 (a * b)) ?_ h
 show some _ = some _
 rw [IntWalk.i64_in (a * b) ⟨h1, h2⟩]
theorem kj {x y : Operand} {k : IntKind} {a b : Int} (hx : A.op fr x = .int k a) (hy : A.op fr y = .int k b) (h0 : b ≠ 0)
 (h : ay P fr ops rest (A.set d (.int k (a.tmod b))) fun A' l' => K A' ((A, { d := some d, ty := .int k (a.tmod b), rs := cA x ++ cA y }) :: l')) : ay P fr ops (⟨some d, .binOp .rem ty' x y ty2, t, p, e, none⟩ :: rest) A K :=
 bR (bl rfl rfl fun ac w M _ hrd _ => by
  obtain ⟨hdx, hdy⟩ := op2 hrd
  rw [hx] at hdx; rw [hy] at hdy
  have ex : ac.eval x = .int k _ := hdx
  have ey : ac.eval y = .int k _ := hdy
  exact ⟨.int k (a.tmod b), by simp only [execOp, ex, ey]; simp [go_sem, Op.intDiv, h0], rfl⟩) h
theorem Qc {x y : Operand} {k : IntKind} {a b : Int} (hx : A.op fr x = .int k a) (hy : A.op fr y = .int k b) (h0 : b ≠ 0)
 (h : ay P fr ops rest (A.set d (.int k (k.wrap (a.tdiv b)))) fun A' l' => K A' ((A, { d := some d, ty := .int k (k.wrap (a.tdiv b)), rs := cA x ++ cA y }) :: l')) : ay P fr ops (⟨some d, .binOp .quo ty' x y ty2, t, p, e, none⟩ :: rest) A K :=
 bR (bl rfl rfl fun ac w M _ hrd _ => by
  obtain ⟨hdx, hdy⟩ := op2 hrd
  rw [hx] at hdx; rw [hy] at hdy
  have ex : ac.eval x = .int k _ := hdx
  have ey : ac.eval y = .int k _ := hdy
  exact ⟨.int k (k.wrap (a.tdiv b)), by simp only [execOp, ex, ey]; simp [go_sem, Op.intDiv, h0], rfl⟩) h
theorem dW {x : Operand} {b : Bool} (hx : A.op fr x = .bool b)
 (h : ay P fr ops rest (A.set d (.bool (!b))) fun A' l' => K A' ((A, { d := some d, ty := .bool (!b), rs := cA x }) :: l')) : ay P fr ops (⟨some d, .unOp .not ty' x, t, p, e, none⟩ :: rest) A K :=
 bR (bl rfl rfl fun a w M _ hrd _ => by
  have hdx := cN (x := x) (fun _ h => h) hrd
  rw [hx] at hdx
  have ex : a.eval x = .bool b := hdx
  exact ⟨.bool (!b), by simp [execOp, ex, Op.unary], rfl⟩) h
theorem aj {x : Operand} {l : List Ty} {i : Nat} {ty : Ty} (hx : A.op fr x = .iF l) (hl : l[i]? = some ty)
 (h : ay P fr ops rest (A.set d ty) fun A' l' => K A' ((A, { d := some d, ty := ty, rs := cA x }) :: l')) : ay P fr ops (⟨some d, .extract x i, t, p, e, none⟩ :: rest) A K :=
 bR (bl rfl rfl fun a w M _ hrd _ => by
  have hdx := cN (x := x) (fun _ h => h) hrd
  rw [hx] at hdx
  obtain ⟨cs, ex, hd⟩ := hdx
  obtain ⟨v, hv, hdv⟩ := dr hd i ty hl
  exact ⟨v, by simp [execOp, ex, Instr.extract, show cs[i]? = some v by simpa using hv], hdv⟩) h
theorem rG {x : Operand} {tg off : Nat} (hx : A.op fr x = .ptr tg off)
 (h : ay P fr ops rest (A.set d (.ptr tg off)) fun A' l' => K A' ((A, { d := some d, ty := .ptr tg off, rs := cA x }) :: l')) : ay P fr ops (⟨some d, .nilCheck x, t, p, e, none⟩ :: rest) A K :=
 bR (bl rfl rfl fun a w M _ hrd _ => by
  have hdx := cN (x := x) (fun _ h => h) hrd
  rw [hx] at hdx
  have hdx' := hdx
  obtain ⟨b, hb, ex⟩ := hdx
  exact ⟨a.eval x, by simp [execOp, ex], hdx'⟩) h
theorem F8 {c x y : Operand} {b : Bool} {ty1 ty2' : Ty} (hc : A.op fr c = .bool b) (hx : A.op fr x = ty1) (hy : A.op fr y = ty2') {ty : Ty} (h1 : b = true → ty1.Sub ty) (h2 : b = false → ty2'.Sub ty)
    (h : ay P fr ops rest (A.set d ty) fun A' l' => K A' ((A, { d := some d, ty := ty, rs := cA c ++ (cA x ++ cA y) }) :: l')) : ay P fr ops (⟨some d, .pick c x y, t, p, e, none⟩ :: rest) A K :=
  bR (bl rfl rfl fun a w M _ hrd _ => by
    have hdc := cN (x := c) (fun _ h => List.mem_append_left _ h) hrd
    have hdx := cN (x := x) (fun _ h => List.mem_append_right _ (List.mem_append_left _ h)) hrd
    have hdy := cN (x := y) (fun _ h => List.mem_append_right _ (List.mem_append_right _ h)) hrd
    rw [hc] at hdc; rw [hx] at hdx; rw [hy] at hdy
    have ec : a.eval c = .bool b := hdc
    cases b with
    | true => exact ⟨a.eval x, by simp [execOp, ec, asBool], h1 rfl _ _ _ hdx⟩
    | false => exact ⟨a.eval y, by simp [execOp, ec, asBool], h2 rfl _ _ _ hdy⟩) h
variable [T : lq P]
theorem bU {α : Type} {x : Operand} {E : El α} {xs : List α} {ti : TI} {el : Nat} (hx : A.op fr x = .sl E xs) (hT : T.dz[ty']? = some ti) (hk : ti.k = .slice el)
 (h : ay P fr ops rest (A.set d (.int .i64 xs.length)) fun A' l' => K A' ((A, { d := some d, ty := .int .i64 xs.length, rs := cA x }) :: l')) :
 ay P fr ops (⟨some d, .call ⟨.builtin .len, #[x], #[ty']⟩, t, p, e, none⟩ :: rest) A K :=
 bR (bl rfl rfl fun a w M _ hrd _ => by
  have hdx := cN (x := x) (fun _ h => h) hrd
  rw [hx] at hdx
  obtain ⟨ad, c, ex, _⟩ := hdx
  obtain ⟨_, D, _, hD, hkd, _⟩ := cP hT
  rw [hk] at hkd
  cases D <;> simp only [TK.of, reduceCtorEq, TK.slice.injEq] at hkd
  exact ⟨.int .i64 xs.length, by simp [execOp, resolve, invoke, builtin, ex, Builtin.len_, run_underlying hD, goInt], rfl⟩) h
end
end Go.T
namespace Go.T
open Go Go.RowKit
def lk : List (Nat × Ty) → Nat → Ty
  | [], _ => Ty.any
  | (d, t) :: l, c => bif Nat.beq c d then t else lk l c
def live (l : List (Nat × Ty)) (tg : List (Nat × Cont) := []) : As := ⟨lk l, tg⟩
theorem aG {A B : As} {k : Nat} (h' : uK A B k) (h : (A.slots k).Sub (B.slots k)) : uK A B (k + 1) := ⟨h, h'⟩
theorem dw.mk' {fr : Fr} {A B : As} (h : uK A B fr.n) (h' : allTags A B.tags) : dw fr A B := ⟨h, h'⟩
theorem Ty.bO {k : IntKind} {a b : Int} (h : a = b) : (Ty.int k a).Sub (Ty.int k b) := h ▸ Ty.aM _
theorem Ty.jv {a b : Bool} (h : a = b) : (Ty.bool a).Sub (Ty.bool b) := h ▸ Ty.aM _
theorem Ty.fq {α : Type} {E : El α} {a b : List α} (h : a = b) : (Ty.sl E a).Sub (Ty.sl E b) := h ▸ Ty.aM _
theorem aU {P : Program} {fr : Fr} {A : As} {Q : Exit → Act → World → Prop} {x y : Code} {c : Operand} {q : Prop} [inst : Decidable q] (hc : A.op fr c = .bool (decide q)) (h1 : q → fS P fr x A Q) (h2 : ¬ q → fS P fr y A Q) : fS P fr (.cond c x y) A Q :=
 cI hc (fun h => h1 (of_decide_eq_true h)) (fun h => h2 (of_decide_eq_false h))
theorem bw {P : Program} {fr : Fr} {A : As} {Q : Exit → Act → World → Prop} {x y : Code} {c : Operand} {q : Prop} [inst : Decidable q] (hc : A.op fr c = .bool (!decide q)) (h1 : ¬ q → fS P fr x A Q) (h2 : q → fS P fr y A Q) : fS P fr (.cond c x y) A Q :=
 cI hc (fun h => h1 (of_decide_eq_false nq)) (fun h => h2 (of_decide_eq_true nq))
section
variable {P : Program} {fr : Fr} {ops : Array Oper} {A : As} {rest : List Oper} {K : As → List (As × Fx) → Prop} {d : Nat} {t ty' : TypeId} {p : String} {e : Array Edge} [T : lq P]
theorem af {α : Type} [Inhabited α] {x y : Operand} {E : El α} {xs : List α} {k : IntKind} {i : Nat} {ti te : TI} {el : Nat} (hx : A.op fr x = .sl E xs) (hy : A.op fr y = .int k i) (hT : T.dz[ty']? = some ti) (hk : ti.k = .slice el) (hE : T.dz[el]? = some te) (hs : te.size = E.size)
 (h1 : i < xs.length)
 (h : ay P fr ops rest (A.set d (.pp (E.tys (nth xs i)))) fun A' l' => K A' ((A, { d := some d, ty := .pp (E.tys (nth xs i)), rs := cA x ++ cA y }) :: l')) : ay P fr ops (⟨some d, .indexAddr ty' x y, t, p, e, none⟩ :: rest) A K :=
 dR hx hy hT hk hE hs (Int.natCast_nonneg _) h1 h
end
end Go.T
namespace Go.T
open Go Go.RowKit
theorem fk {P : Program} {fr : Fr} {ops : Array Oper} {o : Oper} {A : As} {f : Fx} (hg : o.guard = none) (hd : f.d = o.dst) (hsets : ∀ x ∈ f.sets, x.1 ∈ f.S ∨ x.1 ∈ f.K) (hS : ∀ t ∈ f.S, 1 ≤ t) (hK : ∀ t ∈ f.K, 1 ≤ t ∧ t ∉ fr.pass)
 (h : ∀ (a : Act) w M, Wf w M → (∀ c ∈ f.rs, c < fr.n → (A.slots c).den w M (a.tmps.getD c undef)) → (∀ x ∈ A.tags, x.1 ∈ f.rt → x.2.den w M x.1) → ∃ v w', (execOp a.eval o).run P w = .ok (.value v) w' ∧ f.left w M w' v) : uU P fr ops o A f := by
 refine ⟨hd, hsets, hS, hK, fun a w M wf _ hr ht => ?_⟩
 rw [if_pos Fk]
 obtain ⟨v, w', hv, hl⟩ := h a w M wf hr ht
 refine rR hv ?_
 exact ⟨v, rfl, hl⟩
theorem lT {P : Program} {fr : Fr} {ops : Array Oper} {o : Oper} {A : As} {f : Fx} (hg : o.guard = none) (hd : f.d = o.dst) (hty : f.ty = Ty.any) (hsets : ∀ x ∈ f.sets, x.1 ∈ f.S ∨ x.1 ∈ f.K) (hS : ∀ t ∈ f.S, 1 ≤ t) (hK : ∀ t ∈ f.K, 1 ≤ t ∧ t ∉ fr.pass)
 (h : ∀ (a : Act) w M, Wf w M → (∀ c ∈ f.rs, c < fr.n → (A.slots c).den w M (a.tmps.getD c undef)) → (∀ x ∈ A.tags, x.1 ∈ f.rt → x.2.den w M x.1) → ∃ w', (execOp a.eval o).run P w = .ok .skip w' ∧ f.left w M w' undef) : uU P fr ops o A f := by
 refine ⟨hd, hsets, hS, hK, fun a w M wf _ hr ht => ?_⟩
 rw [if_pos Fk]
 obtain ⟨w', hv, hl⟩ := h a w M wf hr ht
 refine tA hv ?_
 exact ⟨undef, rfl, hl⟩
def oY (M : bI) (t : Nat) (g : Option Nat) : bI := fun b => if g = some b then some t else if M b = some t then none else M b
theorem EP {w w' : World} {M : bI} {t : Nat} {g : Option Nat} (wf : Wf w M) (hs : w.heap.size ≤ w'.heap.size) (hg : ∀ b, g = some b → b < w'.heap.size) : Wf w' (oY M t g) := by
 refine ⟨fun b u h => ?_, fun b b' u ht1 h h' => ?_⟩
 ·unfold oY at h
  split at h
  ·exact hg b (by assumption)
  split at h
  ·cases h
  exact Nat.lt_of_lt_of_le (wf.lt b u h) hs
 have key : ∀ c, oY M t g c = some (u + 1) → (g = some c ∧ t = u + 1) ∨ (M c = some (u + 1) ∧ t ≠ u + 1) := by
  intro c hc
  unfold oY at hc
  by_cases e : g = some c
  ·rw [if_pos e] at hc; injection hc with hc; exact .inl ⟨e, hc⟩
  rw [if_neg e] at hc
  by_cases e' : M c = some t
  ·rw [if_pos e'] at hc; cases hc
  rw [if_neg e'] at hc; exact .inr ⟨hc, fun ht => e' (by rw [ht]; exact hc)⟩
 rcases key b h with ⟨h1, h2⟩ | ⟨h1, h2⟩ <;> rcases key b' h' with ⟨h3, h4⟩ | ⟨h3, h4⟩
 ·rw [h1] at h3; injection h3
 ·exact absurd h2 h4
 ·exact absurd h4 h2
 exact wf.inj b b' u ht1 h1 h3
theorem Dj {w w' : World} {M : bI} {t : Nat} {g : Option Nat} (hsz : w.heap.size ≤ w'.heap.size) (hos : w'.os = w.os) (htp : w'.tape = w.tape) (hout : w'.output = w.output)
 (hg : ∀ b, g = some b → b < w.heap.size → M b = some t) (hk : ∀ b, b < w.heap.size → M b ≠ some t → w'.heap[b]? = w.heap[b]?) (wf : Wf w M) : Le (· ∈ ([] : List Nat)) (· ∈ [t]) w M w' (oY M t g) := by
 refine ⟨hsz, hos, htp, hout, fun b hb hm => ⟨?_, hk b hb (by rw [hm]; simp)⟩, fun b u hm hu => ⟨?_, fun _ => hk b (wf.lt b u hm) (by rw [hm]; intro e; injection e with e; exact hu (by simp [e]))⟩⟩
 ·unfold oY
  split
  ·rename_i e; rw [hg b e hb] at hm; cases hm
  rw [if_neg (by rw [hm]; simp)]; exact hm
 have hne : M b ≠ some t := by rw [hm]; intro e; injection e with e; exact hu (by simp [e])
 unfold oY
 split
 ·rename_i e; exact absurd (hg b e (wf.lt b u hm)) hne
 first | exact hm | (rw [if_neg hne]; exact hm)
theorem kP {w : World} {M : bI} (wf : Wf w M) (o : Obj) (t : Nat) : Wf (w.alloc o) (oY M t (some w.heap.size)) ∧ Le (· ∈ ([] : List Nat)) (· ∈ [t]) w M (w.alloc o) (oY M t (some w.heap.size)) ∧ oY M t (some w.heap.size) w.heap.size = some t :=
 ⟨EP wf bB (fun b e => by injection e with e; simp [← e]), Dj bB rfl rfl rfl (fun b e hb => by injection e with e; omega) (fun b hb _ => Below.heap_alloc w o b hb) wf, by simp [oY]⟩
theorem C1 {w : World} {M : bI} (wf : Wf w M) (o : Obj) : Wf (w.alloc o) M ∧ Le (· ∈ ([] : List Nat)) (· ∈ ([] : List Nat)) w M (w.alloc o) M ∧ M w.heap.size = none :=
  ⟨⟨fun b t h => by have := wf.lt b t h; simp; omega, wf.inj⟩, ⟨by simp, rfl, rfl, rfl, fun b hb h => ⟨h, Below.heap_alloc w o b hb⟩, fun b t h _ => ⟨h, fun _ => Below.heap_alloc w o b (wf.lt b t h)⟩⟩, by
    cases h : M w.heap.size with
    | none => rfl
    | some t => have := wf.lt _ t h; omega⟩
theorem iA (w : World) (o : Obj) : (w.alloc o).heap[w.heap.size]? = some o := by
 show (w.heap.push o)[w.heap.size]? = some o
 simp
theorem Bj {w : World} {M : bI} (wf : Wf w M) {cs : List Value} {T : TypeId} {l : List Ty} (h : cS w M l cs) : qm (w.alloc (.cells cs.toArray T)) M w.heap.size 0 l := by
 obtain ⟨wf', le, hn⟩ := C1 wf (.cells cs.toArray T)
 refine ⟨hn, by simp, fun i t hi => ?_⟩
 obtain ⟨v, hv, hd⟩ := dr h i t hi
 exact ⟨v, by simp [hv], t.mono le j4 j4 hd⟩
theorem oa (w : World) (M : bI) : ∀ l : List Value, cS w M (l.map Ty.mC) l
  | [] => trivial
  | v :: l => ⟨m7 w M v, oa w M l⟩
section
variable {P : Program} {fr : Fr} {ops : Array Oper} {A : As} {rest : List Oper} {K : As → List (As × Fx) → Prop} {d : Nat} {t ty' : TypeId} {p : String} {e : Array Edge} [T : lq P]
theorem nP {t : Nat} {x : TI} (h : T.dz[t]? = some x) (hz : x.zero ≠ []) (w : World) : ∃ z : Value, (zeroValue t).run P w = .ok z w ∧ z.cells.toList = x.zero := by
  obtain ⟨i, _, hi, _, _, _, _, hze⟩ := cP h
  cases hiz : i.zero with
  | none => rw [hiz] at hze; exact absurd hze.symm hz
  | some z => rw [hiz] at hze; exact ⟨z, by simp [zeroValue, typeInfo, hi, hiz], hze⟩
theorem bZ {ti : TI} (hT : T.dz[ty']? = some ti) (hz : ti.zero ≠ []) (hp : fr.pass.contains (d + 1) = false)
 (h : ay P fr ops rest (A.after { d := some d, ty := .ptr (d + 1) 0, K := [d + 1], sets := [(d + 1, .cells ty' (ti.zero.map Ty.mC))] }) fun A' l' => K A' ((A, { d := some d, ty := .ptr (d + 1) 0, K := [d + 1], sets := [(d + 1, .cells ty' (ti.zero.map Ty.mC))] }) :: l')) :
 ay P fr ops (⟨some d, .alloc ty', t, p, e, none⟩ :: rest) A K := by
 refine ⟨_, fk rfl rfl bB bB tE fun a w M wf _ _ => ?_, h⟩
 obtain ⟨z, hz1, hz2⟩ := nP hT hz w
 obtain ⟨h1, h2, h3⟩ := kP wf (.cells z.cells ty') (d + 1)
 refine ⟨.pointer (some ⟨w.heap.size, 0, none⟩), w.alloc (.cells z.cells ty'), ?_, _, h1, h2, ⟨_, h3, rfl⟩, ?_⟩
 ·simp [execOp, Instr.alloc, newVar, newRow, newObj, Sem.run, hz1]
 intro x hx
 simp only [List.mem_singleton] at hx
 subst hx
 exact ⟨w.heap.size, z.cells, h3, iA _ _, by rw [hz2]; exact oa _ _ _⟩
theorem iW {w : World} {M : bI} {tg b : Nat} {cs' : Array Value} {Tb : TypeId} (wf : Wf w M) (hb : M b = some tg) (w' : World) (hw : w' = { w with heap := w.heap.setIfInBounds b (.cells cs' Tb (0, 0)) }) :
 Wf w' M ∧ Le (· ∈ [tg]) (· ∈ ([] : List Nat)) w M w' M ∧ w'.heap[b]? = some (.cells cs' Tb (0, 0)) := by
 have hlt := wf.lt b tg hb
 subst hw
 refine ⟨⟨fun b' t h => by simpa using wf.lt b' t h, wf.inj⟩, ⟨by simp, rfl, rfl, rfl, fun b' hb' hm => ⟨hm, ?_⟩, fun b' t hm _ => ⟨hm, fun hs => ?_⟩⟩, by simp [hlt]⟩
 ·have : b ≠ b' := fun e => by rw [← e, hb] at hm; cases hm
  simp [Array.getElem?_setIfInBounds_ne this]
 have : b ≠ b' := fun e => hs (by rw [← e, hb] at hm; injection hm with hm; simp [hm])
 simp [Array.getElem?_setIfInBounds_ne this]
theorem lO {w : World} {b off : Nat} {cs : Array Value} {Tb : TypeId} (h : w.heap[b]? = some (.cells cs Tb (0, 0))) (v : Value) : w.setCell ⟨b, off, none⟩ v = { w with heap := w.heap.setIfInBounds b (.cells (cs.setIfInBounds off v) Tb (0, 0)) } := by
 unfold World.setCell
 congr 1
 apply Array.ext_getElem?
 intro i
 rw [Array.getElem?_modify]
 by_cases e : b = i
 ·subst e
  obtain ⟨hlt, hv⟩ := Array.getElem?_eq_some_iff.1 h
  simp [hv, hlt]
 simp [e, Array.getElem?_setIfInBounds_ne e]
theorem nw {w : World} {M : bI} {l : List Ty} {vs : List Value} {i : Nat} {ty : Ty} {v : Value} (h : cS w M l vs) (hv : ty.den w M v) : cS w M (l.set i ty) (vs.set i v) := by
 have hl := cO h
 refine iH (by simp [hl]) fun j t hj => ?_
 rw [List.getElem?_set] at hj
 split at hj
 ·rename_i e
  subst e
  split at hj
  ·injection hj with hj
   subst hj
   exact ⟨v, by rw [List.getElem?_set]; simp; omega, hv⟩
  cases hj
 rename_i e
 obtain ⟨u, hu, hd⟩ := dr h j t hj
 exact ⟨u, by rw [List.getElem?_set]; simp [e, hu], hd⟩
theorem dH {x y : Operand} {tg off Tb : Nat} {l : List Ty} {ti : TI} {ty : Ty} (hx : A.op fr x = .ptr tg off) (hc : A.tag tg = some (.cells Tb l)) (h1 : fR tg) (hT : T.dz[ty']? = some ti) (hsz : ti.size = 1) (hy : A.op fr y = ty) (ho : ty.one = true) (hoff : off < l.length)
 (hdl : lp (cB l) [tg] = true) (hdt : lp ty.cdeps [tg] = true) {l' : List Ty} (hl : l.set off ty = l')
 (h : ay P fr ops rest (A.after { d := none, S := [tg], sets := [(tg, .cells Tb l')], rs := cA x ++ cA y, rt := [tg] }) fun A' l'' => K A' ((A, { d := none, S := [tg], sets := [(tg, .cells Tb l')], rs := cA x ++ cA y, rt := [tg] }) :: l'')) :
 ay P fr ops (⟨none, .store ty' x y, t, p, e, none⟩ :: rest) A K := by
 subst hl
 refine ⟨_, lT rfl rfl rfl bB lC bB fun a w M wf hr ht => ?_, h⟩
 obtain ⟨hdx, hdy⟩ := op2 hr
 rw [hx] at hdx; rw [hy] at hdy
 obtain ⟨b, hb, ex⟩ := hdx
 obtain ⟨b', cs, hb', hh, hd⟩ := ht _ (cj hc) bB
 obtain ⟨u, rfl⟩ : ∃ u, tg = u + 1 := ⟨tg - 1, by omega⟩
 have := wf.inj b b' u aE hb hb'
 subst this
 have hone := ty.isOne ho hdy
 have hlen := cO hd
 have hcells : (a.eval y).cells = #[a.eval y] := by
  cases hv : a.eval y <;> first | rfl | (rw [hv] at hone; simp [Value.oneCell'] at hone)
 have hcell : w.cell? ⟨b, off, none⟩ = some (cs[off]'(by simp at hlen; omega)) := by simp [World.cell?, hh]
 have hfz : w.frozen? ⟨b, off, none⟩ = false := by simp [World.frozen?, hh]
 obtain ⟨h1', h2', h3'⟩ := iW wf hb _ (lO hh (off := off) (a.eval y))
 refine ⟨w.setCell ⟨b, off, none⟩ (a.eval y), ?_, M, h1', h2', trivial, ?_⟩
 ·have hst := run_store P w ⟨b, off, none⟩ (a.eval y) .plain hone
  rw [hcell] at hst
  simp only [hfz] at hst
  simp [execOp, Instr.storeAt, Instr.sureAddr, ex, storeVar, hcells, cq hT, hsz, storeCells, hst, Addr.add]
 intro z hz
 simp only [List.mem_singleton] at hz
 subst hz
 refine ⟨b, _, hb, h3', ?_⟩
 rw [Array.toList_setIfInBounds]
 refine nw (b7 h2' j4 (gK hdl) hd) (ty.mono h2' j4 (gK hdt) hdy)
theorem nH {w : World} {b : Nat} {Tb : TypeId} : ∀ (vs pre : List Value) (cs : Array Value), w.heap[b]? = some (.cells cs Tb (0, 0)) → cs.size = pre.length + vs.length → cs.toList.take pre.length = pre → (∀ v ∈ vs, v.oneCell' = true) →
    (storeCells ⟨b, 0, none⟩ vs pre.length).run P w = .ok () { w with heap := w.heap.setIfInBounds b (.cells (pre ++ vs).toArray Tb (0, 0)) }
  | [], pre, cs, hh, hs, hp, _ => by
    have _ := T
    have e : (pre ++ []).toArray = cs := by
      apply Array.ext'
      simp only [List.append_nil]
      rw [← hp, List.take_of_length_le]
      simp at hs ⊢; omega
    rw [e]
    have hw : ({ w with heap := w.heap.setIfInBounds b (.cells cs Tb (0, 0)) } : World) = w := by
      obtain ⟨hlt, hv⟩ := Array.getElem?_eq_some_iff.1 hh
      have : w.heap.setIfInBounds b (.cells cs Tb (0, 0)) = w.heap := by
        apply Array.ext_getElem?
        intro i
        by_cases e : b = i
        · subst e; simp [hlt, hv]
        · simp [Array.getElem?_setIfInBounds_ne e]
      rw [this]
    rw [hw]
    simp [storeCells]
  | v :: vs, pre, cs, hh, hs, hp, h1 => by
    have hlt : pre.length < cs.size := by rw [hs]; simp
    have hb : b < w.heap.size := (Array.getElem?_eq_some_iff.1 hh).1
    have hcell : w.cell? ⟨b, 0 + pre.length, none⟩ = some cs[pre.length] := by simp [World.cell?, hh]
    have hfz : w.frozen? ⟨b, 0 + pre.length, none⟩ = false := by simp [World.frozen?, hh]
    have hst := run_store P w ⟨b, 0 + pre.length, none⟩ v .plain (h1 v List.mem_cons_self)
    rw [hcell] at hst
    simp only [hfz] at hst
    have hadd : Addr.add ⟨b, 0, none⟩ pre.length = ⟨b, 0 + pre.length, none⟩ := Addr.add_lit _ _ _
    simp only [storeCells, hadd, Sem.run_bind, hst, if_false, Bool.false_eq_true, Result.andThen_ok]
    rw [lO hh]
    have ih := nH (w := { w with heap := w.heap.setIfInBounds b (.cells (cs.setIfInBounds (0 + pre.length) v) Tb (0, 0)) }) (b := b) (Tb := Tb) vs (pre ++ [v]) (cs.setIfInBounds (0 + pre.length) v)
      (by simp [hb]) (by simp at hs ⊢; omega) (by
        rw [Array.toList_setIfInBounds, List.length_append, List.length_singleton, Nat.zero_add]
        rw [List.take_succ_eq_append_getElem ni]
        simp [List.take_set_of_le, hp]) (fun u hu => h1 u (List.mem_cons_of_mem _ hu))
    rw [List.length_append, List.length_singleton] at ih
    rw [ih]
    simp
theorem bK {x y : Operand} {tg Tb : Nat} {l l' : List Ty} {ti : TI} (hx : A.op fr x = .ptr tg 0) (hc : A.tag tg = some (.cells Tb l)) (h1 : fR tg) (hT : T.dz[ty']? = some ti) (hy : A.op fr y = .agg l') (hsz : ti.size = l'.length) (hlen : l.length = l'.length) (ho : l'.all Ty.one = true) (hdt : lp (cB l') [tg] = true)
 (h : ay P fr ops rest (A.after { d := none, S := [tg], sets := [(tg, .cells Tb l')], rs := cA x ++ cA y, rt := [tg] }) fun A' l'' => K A' ((A, { d := none, S := [tg], sets := [(tg, .cells Tb l')], rs := cA x ++ cA y, rt := [tg] }) :: l'')) :
 ay P fr ops (⟨none, .store ty' x y, t, p, e, none⟩ :: rest) A K := by
 refine ⟨_, lT rfl rfl rfl bB lC bB fun a w M wf hr ht => ?_, h⟩
 obtain ⟨hdx, hdy⟩ := op2 hr
 rw [hx] at hdx; rw [hy] at hdy
 obtain ⟨b, hb, ex⟩ := hdx
 obtain ⟨vs, ey, hvs⟩ := hdy
 obtain ⟨b', cs, hb', hh, hd⟩ := ht _ (cj hc) bB
 obtain ⟨u, rfl⟩ : ∃ u, tg = u + 1 := ⟨tg - 1, by omega⟩
 have := wf.inj b b' u aE hb hb'
 subst this
 have hl1 := cO hd
 have hl2 := cO hvs
 obtain ⟨h1', h2', h3'⟩ := iW (cs' := vs) (Tb := Tb) wf hb _ rfl
 have hones : ∀ v ∈ vs.toList, v.oneCell' = true := fun v hv => by
  obtain ⟨i, hi, hvi⟩ := List.getElem_of_mem hv
  have hlt : i < l'.length := by omega
  obtain ⟨u', hu', hdu⟩ := dr hvs i l'[i] (List.getElem?_eq_getElem hlt)
  rw [List.getElem?_eq_getElem hi, hvi] at hu'
  injection hu' with hu'
  subst hu'
  exact (l'[i]).isOne (List.all_eq_true.1 ho _ (List.getElem_mem hlt)) hdu
 refine ⟨_, ?_, M, h1', h2', trivial, ?_⟩
 ·have hst := nH (P := P) (w := w) (b := b) (Tb := Tb) vs.toList [] cs hh (by simp at hl1 hl2 ⊢; omega) bB hones
  have hsz' : vs.size = ti.size := by simp at hl2; omega
  simp only [List.length_nil, List.nil_append] at hst
  simp [execOp, Instr.storeAt, Instr.sureAddr, ex, ey, storeVar, Value.cells, cq hT, hsz', hst]
 intro z hz
 simp only [List.mem_singleton] at hz
 subst hz
 exact ⟨b, vs, hb, h3', b7 h2' j4 (gK hdt) hvs⟩
end
section
variable {P : Program} {fr : Fr} {ops : Array Oper} {A : As} {rest : List Oper} {K : As → List (As × Fx) → Prop} {d : Nat} {t ty' : TypeId} {p : String} {e : Array Edge}
theorem bF {x : Operand} {l : List Ty} (hx : A.op fr x = .agg l)
 (h : ay P fr ops rest (A.set d (.pp l)) fun A' l' => K A' ((A, { d := some d, ty := .pp l, rs := cA x }) :: l')) : ay P fr ops (⟨some d, .box ty' x, t, p, e, none⟩ :: rest) A K := by
 refine ⟨_, fk (f := { d := some d, ty := .pp l, rs := cA x }) rfl rfl bB bB bB fun a w M wf hr _ => ?_, h⟩
 have hd := cN (x := x) (fun _ h => h) hr
 rw [hx] at hd
 obtain ⟨cs, ex, hds⟩ := hd
 obtain ⟨h1, h2, _⟩ := C1 wf (.cells cs ty')
 refine ⟨.pointer (some ⟨w.heap.size, 0, none⟩), w.alloc (.cells cs ty'), ?_, M, h1, h2, ⟨_, 0, rfl, ?_⟩, by simp⟩
 ·simp [execOp, Instr.box, newVar, newRow, newObj, Sem.run, ex, Value.cells]
 exact Bj (T := ty') wf hds
theorem iq {x : Operand} {ty : Ty} (hx : A.op fr x = ty) (h1 : ty.one = true)
 (h : ay P fr ops rest (A.set d (.pp [ty])) fun A' l' => K A' ((A, { d := some d, ty := .pp [ty], rs := cA x }) :: l')) : ay P fr ops (⟨some d, .box ty' x, t, p, e, none⟩ :: rest) A K := by
 refine ⟨_, fk (f := { d := some d, ty := .pp [ty], rs := cA x }) rfl rfl bB bB bB fun a w M wf hr _ => ?_, h⟩
 have hd := cN (x := x) (fun _ h => h) hr
 rw [hx] at hd
 have hone := ty.isOne h1 hd
 have hcells : (a.eval x).cells = #[a.eval x] := by
  cases hv : a.eval x <;> first | rfl | (rw [hv] at hone; simp [Value.oneCell'] at hone)
 obtain ⟨h1, h2, _⟩ := C1 wf (.cells #[a.eval x] ty')
 refine ⟨.pointer (some ⟨w.heap.size, 0, none⟩), w.alloc (.cells #[a.eval x] ty'), ?_, M, h1, h2, ⟨_, 0, rfl, ?_⟩, by simp⟩
 ·simp [execOp, Instr.box, newVar, newRow, newObj, Sem.run, hcells]
 exact Bj (T := ty') (cs := [a.eval x]) wf ⟨hd, trivial⟩
theorem fA {f : FuncId} {xs : List Operand} {l : List Ty} (hx : om A fr xs = l)
 (h : ay P fr ops rest (A.set d (.so f l)) fun A' l' => K A' ((A, { d := some d, ty := .so f l, rs := xs.flatMap cA }) :: l')) : ay P fr ops (⟨some d, .makeFunc (.func f) #[] xs.toArray, t, p, e, none⟩ :: rest) A K :=
 bR (bl rfl rfl fun a w M _ hr _ => by
  have hv : cS w M l (xs.map a.eval) := hx ▸ gC hr fun x hx c hc => List.mem_flatMap.2 ⟨x, hx, hc⟩
  exact ⟨.func (.func f) #[] (xs.map a.eval).toArray, by simp [execOp, Instr.makeFunc], _, rfl, by simpa using hv⟩) h
end
end Go.T
namespace Go.T
open Go Go.RowKit
def g7 {α : Type} (E : El α) (T tg : Nat) (xs : List α) (w : World) (M : bI) (v : Value) : Prop :=
  ∃ cs, w.ownsRow 0 T E.size v xs.length cs ∧ cS w M (xs.flatMap E.tys) cs ∧ ∀ g, v.ownBlock = some g → M g = some tg
theorem Cv {w w' : World} {T size n : Nat} {v : Value} {cs : List Value} (h : w.ownsRow 0 T size v n cs) (hk : ∀ g, v.ownBlock = some g → w'.heap[g]? = w.heap[g]?) : w'.ownsRow 0 T size v n cs := by
 refine ⟨h.1, ?_⟩
 rcases h.2 with h | ⟨g, cap, cur, hv, h0, hh, rest⟩
 ·exact .inl h
 exact .inr ⟨g, cap, cur, hv, h0, (hk g (by rw [hv]; rfl)).trans hh, rest⟩
def Ty.row {α : Type} (E : El α) (T tg : Nat) (xs : List α) : Ty :=
  ⟨g7 E T tg xs, [tg], [tg], fun le hk hs ⟨cs, h1, h2, h3⟩ =>
    ⟨cs, Cv h1 fun g hg => (le.own g tg (h3 g hg) (hk tg bB)).2 (hs tg bB),
     b7 le lV jm h2,
     fun g hg => (le.own g tg (h3 g hg) (hk tg bB)).1⟩, true, fun _ ⟨cs, h1, _⟩ => by
      rcases h1.2 with ⟨rfl, _⟩ | ⟨_, _, _, rfl, _⟩ <;> rfl⟩
theorem Ty.gr {α : Type} {E : El α} {T tg : Nat} : (Ty.ex (.slice none 0 0)).Sub (Ty.row E T tg []) := by
 intro w M v h
 have h : v = .slice none 0 0 := h
 subst h
 exact ⟨[], ⟨by simp, .inl ⟨rfl, rfl⟩⟩, trivial, fun g hg => by simp [Value.ownBlock] at hg⟩
theorem Ty.cv {α : Type} {E : El α} {T tg : Nat} {xs ys : List α} (h : xs = ys) : (Ty.row E T tg xs).Sub (Ty.row E T tg ys) := h ▸ Ty.aM _
theorem Ty.nv {α : Type} {E : El α} : (Ty.ex (.slice none 0 0)).Sub (Ty.sl E []) := by
 intro w M v h
 have h : v = .slice none 0 0 := h
 subst h
 exact ⟨none, 0, rfl, Nat.le_refl _, by simp [maxLen], fun h => absurd h bB⟩
theorem NG {w : World} {M : bI} {α : Type} {E : El α} {T tg : Nat} : (Ty.row E T tg ([] : List α)).den w M (.slice none 0 0) := Ty.gr w M _ rfl
theorem lZ {w : World} {M : bI} {l l' : List Ty} {vs vs' : List Value} (h : cS w M l vs) (h' : cS w M l' vs') : cS w M (l ++ l') (vs ++ vs') := eY h h'
theorem cz {α : Type} (E : El α) : ∀ xs : List α, (xs.flatMap E.tys).length = xs.length * E.size
  | [] => by simp
  | x :: xs => by rw [List.flatMap_cons, List.length_append, E.len, cz E xs, List.length_cons, Nat.succ_mul, Nat.add_comm]
theorem mw {α : Type} (E : El α) (xs : List α) : ∀ t ∈ xs.flatMap E.tys, t.one = true := by
 intro t ht
 simp only [List.mem_flatMap] at ht
 obtain ⟨x, _, hx⟩ := ht
 exact List.all_eq_true.1 (E.ones x) t hx
theorem nE {w : World} {M : bI} {l : List Ty} {vs : List Value} (h : cS w M l vs) (ho : ∀ t ∈ l, t.one = true) : ∀ v ∈ vs, v.oneCell' = true := by
 intro v hv
 obtain ⟨i, hi, rfl⟩ := List.getElem_of_mem hv
 have hl := cO h
 have hlt : i < l.length := by omega
 obtain ⟨u, hu, hd⟩ := dr h i l[i] (List.getElem?_eq_getElem hlt)
 rw [List.getElem?_eq_getElem hi] at hu
 injection hu with hu
 rw [hu]
 exact (l[i]).isOne (ho _ (List.getElem_mem hlt)) hd
section
variable {P : Program} {fr : Fr} {ops : Array Oper} {A : As} {rest : List Oper} {K : As → List (As × Fx) → Prop} {d : Nat} {t ty' : TypeId} {p : String} {e : Array Edge} [T : lq P]
theorem zf {α : Type} {E : El α} {w : World} {M : bI} {st el tg : Nat} {ty : TypeId} {ti te : TI} {xs ys : List α} {v y : Value} (wf : Wf w M) (hT : T.dz[st]? = some ti) (hk : ti.k = .slice el) (hE : T.dz[el]? = some te) (hs : te.size = E.size) (hz : te.zero.length = te.size) (h0 : 0 < te.size)
    (hx : g7 E el tg xs w M v) (hy : pJ E ys w M y) (hlen : (xs.length + ys.length) * te.bytes ≤ 140737488355328) (hlen' : xs.length + ys.length ≤ 9223372036854775807) :
    ∃ v' w' M', (Builtin.append_ #[st, st] ty #[v, y]).run P w = .ok v' w' ∧ Wf w' M' ∧ Le (· ∈ ([] : List Nat)) (· ∈ [tg]) w M w' M' ∧ g7 E el tg (xs ++ ys) w' M' v' := by
  obtain ⟨_, D, _, hD, hkd, _⟩ := cP hT
  rw [hk] at hkd
  cases D <;> simp only [TK.of, reduceCtorEq, TK.slice.injEq] at hkd
  subst hkd
  rename_i el
  obtain ⟨i, _, hi, _, _, hsz, hby, hze⟩ := cP hE
  obtain ⟨z, hiz, hzc⟩ : ∃ z, i.zero = some z ∧ z.cells.size = i.size := by
    cases hiz : i.zero with
    | none => rw [hiz] at hze; rw [← hze] at hz; simp at hz; omega
    | some z => rw [hiz] at hze; exact ⟨z, rfl, by simp at hze; rw [hsz, ← hz, ← hze]; simp⟩
  obtain ⟨cs, hown, hd, hM⟩ := hx
  obtain ⟨ad, c, rfl, hc1, hc2, hp⟩ := hy
  have hfin : ∀ v' w' (news : List Value), w'.ownsRow 0 el i.size v' (xs.length + ys.length) (cs ++ news) → w.grownBy w' v.ownBlock → (v'.ownBlock = v.ownBlock ∨ v'.ownBlock = some w.heap.size) → cS w M (ys.flatMap E.tys) news →
      ∃ M', Wf w' M' ∧ Le (· ∈ ([] : List Nat)) (· ∈ [tg]) w M w' M' ∧ g7 E el tg (xs ++ ys) w' M' v' := by
    intro v' w' news h1 h2 h3 h4
    have hb : ∀ b, v'.ownBlock = some b → b < w'.heap.size := by
      intro b hb
      rcases h1.2 with ⟨rfl, _⟩ | ⟨g, cap, cur, rfl, _, hh, _⟩
      · simp [Value.ownBlock] at hb
      · simp [Value.ownBlock] at hb; subst hb; exact (Array.getElem?_eq_some_iff.1 hh).1
    have hle := Dj (t := tg) (g := v'.ownBlock) h2.size h2.os h2.tape h2.output (fun b hb hlt => by
        rcases h3 with e | e
        · exact hM b (e ▸ hb)
        · rw [e] at hb; injection hb with hb; omega) (fun b hlt hne => h2.block b hlt (fun e => hne (hM b e.symm))) wf
    refine ⟨oY M tg v'.ownBlock, EP wf h2.size hb, hle, cs ++ news, by rw [List.length_append, ← hs, ← hsz]; exact h1, ?_, fun g hg => by simp [oY, hg]⟩
    rw [List.flatMap_append]
    exact lZ (b7 hle lV jm hd) (b7 hle lV jm h4)
  have hown' : w.ownsRow 0 el i.size v xs.length cs := by rw [hsz, hs]; exact hown
  by_cases hys : ys = []
  · subst hys
    cases ad with
    | none =>
      have hrun : (Builtin.append_ #[st, st] ty #[v, .slice none 0 c]).run P w = .ok v w := by
        rcases hown.2 with ⟨rfl, _⟩ | ⟨g, cap, cur, rfl, _, _, hnc, _⟩
        · simp [Builtin.append_, run_underlying hD, sizeOf, typeInfo, hi, Builtin.lenOf, Builtin.firstCells]
        · simp [Builtin.append_, run_underlying hD, sizeOf, typeInfo, hi, Builtin.lenOf, Builtin.firstCells, hnc, storeCells]
      obtain ⟨M', h1, h2, h3⟩ := hfin v w [] (by simpa using hown') (World.grownBy.refl w _) (.inl rfl) trivial
      exact ⟨v, w, M', hrun, h1, h2, h3⟩
    | some a =>
      obtain ⟨v', w', hrun, h2, h3, _, h5⟩ := run_append_own_at (P := P) w 0 st ty el i z i.size i.bytes hD hi hiz rfl rfl hzc aE v xs.length cs hown' a 0 c [] bB bB bB (by simp only [maxLen]; simp at hlen'; omega) (by rw [hby]; simpa using hlen) (Nat.zero_le _)
      obtain ⟨M', h1', h2', h3'⟩ := hfin v' w' [] h2 h3 h5 trivial
      exact ⟨v', w', M', hrun, h1', h2', h3'⟩
  · have hpos : 0 < ys.length := List.length_pos_iff.2 hys
    obtain ⟨b, off, rfl, hp'⟩ := hp hpos
    obtain ⟨news, hn1, hn2, hn3⟩ := mW hp' _ (Nat.le_refl _)
    rw [List.take_length] at hn2
    obtain ⟨v', w', hrun, h2, h3, _, h5⟩ := run_append_own_at (P := P) w 0 st ty el i z i.size i.bytes hD hi hiz rfl rfl hzc aE v xs.length cs hown' ⟨b, off, none⟩ ys.length c news (by rw [hn1, cz, hsz, hs])
      (fun j u hj => by rw [Addr.add_lit]; exact hn3 j u hj) (nE hn2 (mw E ys)) Bv vp (Nat.zero_le _)
    obtain ⟨M', h1', h2', h3'⟩ := hfin v' w' news h2 h3 h5 hn2
    exact ⟨v', w', M', hrun, h1', h2', h3'⟩
theorem E4 {α : Type} {E : El α} {x y : Operand} {st el tg : Nat} {ti te : TI} {xs ys : List α} (hx : (A.op fr x).Sub (.row E el tg xs)) (hy : A.op fr y = .sl E ys) (h1 : 1 ≤ tg) (hp : fr.pass.contains tg = false) (hT : T.dz[st]? = some ti) (hk : ti.k = .slice el) (hE : T.dz[el]? = some te) (hs : te.size = E.size) (hz : te.zero.length = te.size) (h0 : 0 < te.size)
 (hlen : (xs.length + ys.length) * te.bytes ≤ 140737488355328) (hlen' : xs.length + ys.length ≤ 9223372036854775807) :
 uU P fr ops ⟨some d, .call ⟨.builtin .append, #[x, y], #[st, st]⟩, t, p, e, none⟩ A { d := some d, ty := .row E el tg (xs ++ ys), K := [tg], rs := cA x ++ cA y } := by
 refine fk rfl rfl bB bB (by simp at hp ⊢; exact ⟨h1, hp⟩) fun a w M wf hr _ => ?_
 obtain ⟨hdx, hdy⟩ := op2 hr
 rw [hy] at hdy
 obtain ⟨v', w', M', hrun, h1', h2', h3'⟩ := zf (P := P) (ty := t) wf hT hk hE hs hz h0 (hx _ _ _ hdx) hdy hlen hlen'
 exact ⟨v', w', by simp [execOp, resolve, invoke, builtin, hrun], M', h1', h2', h3', by simp⟩
theorem cG {α : Type} {E : El α} {x y : Operand} {st el tg : Nat} {ti te : TI} {xs ys : List α} (hx : A.op fr x = .row E el tg xs) (hy : A.op fr y = .sl E ys) (h1 : 1 ≤ tg) (hp : fr.pass.contains tg = false) (hT : T.dz[st]? = some ti) (hk : ti.k = .slice el) (hE : T.dz[el]? = some te) (hs : te.size = E.size) (hz : te.zero.length = te.size) (h0 : 0 < te.size)
 (hlen : (xs.length + ys.length) * te.bytes ≤ 140737488355328) (hlen' : xs.length + ys.length ≤ 9223372036854775807)
 (h : ay P fr ops rest (A.after { d := some d, ty := .row E el tg (xs ++ ys), K := [tg], rs := cA x ++ cA y }) fun A' l' => K A' ((A, { d := some d, ty := .row E el tg (xs ++ ys), K := [tg], rs := cA x ++ cA y }) :: l')) :
 ay P fr ops (⟨some d, .call ⟨.builtin .append, #[x, y], #[st, st]⟩, t, p, e, none⟩ :: rest) A K :=
 ⟨_, E4 (hx ▸ Ty.aM _) hy h1 hp hT hk hE hs hz h0 hlen hlen', h⟩
theorem x7 {α : Type} {E : El α} {x y : Operand} {k k' : IntKind} {n : Int} {el : Nat} {ti te : TI} (hx : A.op fr x = .int k 0) (hy : A.op fr y = .int k' n) (hT : T.dz[ty']? = some ti) (hk : ti.k = .slice el) (hE : T.dz[el]? = some te) (hs : te.size = E.size) (hz : te.zero.length = te.size) (hzp : 0 < te.size) (hp : fr.pass.contains (d + 1) = false)
    (hn : 0 ≤ n) (hlen : (te.bytes : Int) * n ≤ 281474976710656) (hlen' : n ≤ 9223372036854775807)
    (h : ay P fr ops rest (A.after { d := some d, ty := .row E el (d + 1) [], K := [d + 1], rs := cA x ++ cA y }) fun A' l' => K A' ((A, { d := some d, ty := .row E el (d + 1) [], K := [d + 1], rs := cA x ++ cA y }) :: l')) :
    ay P fr ops (⟨some d, .makeSlice ty' x y, t, p, e, none⟩ :: rest) A K := by
  refine ⟨_, fk rfl rfl bB bB tE fun a w M wf hr _ => ?_, h⟩
  obtain ⟨hdx, hdy⟩ := op2 hr
  rw [hx] at hdx; rw [hy] at hdy
  have ex : a.eval x = .int k 0 := hdx
  have ey : a.eval y = .int k' n := hdy
  obtain ⟨_, D, _, hD, hkd, _⟩ := cP hT
  rw [hk] at hkd
  cases D <;> simp only [TK.of, reduceCtorEq, TK.slice.injEq] at hkd
  rename_i el0
  have hel : el0 = el := hkd
  subst hel
  obtain ⟨i, _, hi, _, _, hsz, hby, hze⟩ := cP hE
  obtain ⟨z, hiz⟩ : ∃ z, i.zero = some z := by
    cases hiz : i.zero with
    | none => rw [hiz] at hze; rw [← hze] at hz; simp at hz; omega
    | some z => exact ⟨z, rfl⟩
  have hrun := run_make (P := P) w ty' _ i z hD hi hiz k k' 0 n (Int.le_refl _) hn vp hlen'
  obtain ⟨h1, h2, h3⟩ := kP wf (.cells (madeCells z.cells (n.toNat * i.size)) el0) (d + 1)
  refine ⟨_, _, by simp [execOp, ex, ey, hrun], _, h1, h2, ⟨[], ⟨by simp, .inr ⟨w.heap.size, n.toNat, _, rfl, Nat.zero_le _, iA _ _, Nat.zero_le _, by simp only [maxLen]; omega, ?_, by simp⟩⟩, trivial, ?_⟩, by simp⟩
  · simp [madeCells, hsz, hs]
  · intro g hg
    simp [Value.ownBlock] at hg
    subst hg; exact h3
theorem OD {α : Type} {E : El α} {xs : List α} {w : World} {M : bI} {ad : Option Addr} {c lo hi : Nat} (hc : xs.length ≤ c) (hc2 : c ≤ maxLen) (hp : 0 < xs.length → ∃ b off, ad = some ⟨b, off, none⟩ ∧ qm w M b off (xs.flatMap E.tys)) (h1 : lo ≤ hi) (h2 : hi ≤ xs.length) :
 pJ E ((xs.take hi).drop lo) w M (.slice (if c = lo then ad else ad.map (·.add (lo * E.size))) (hi - lo) (c - lo)) := by
 have hl : ((xs.take hi).drop lo).length = hi - lo := by rw [List.length_drop, List.length_take, Nat.min_eq_left h2]
 refine ⟨_, c - lo, by rw [hl], by rw [hl]; omega, Nat.le_trans (Nat.sub_le _ _) hc2, fun hpos => ?_⟩
 have hlt : lo < hi := by rw [hl] at hpos; omega
 obtain ⟨b, off, rfl, hp'⟩ := hp aE
 refine ⟨b, off + lo * E.size, by rw [if_neg aE]; exact congrArg some (Addr.add_lit _ _ _), ?_⟩
 have h3 := FM ((hi - lo) * E.size) (uF (lo * E.size) hp')
 have e : ((xs.take hi).drop lo).flatMap E.tys = ((xs.flatMap E.tys).drop (lo * E.size)).take ((hi - lo) * E.size) := by
  have e1 : xs.flatMap E.tys = (xs.take lo).flatMap E.tys ++ (((xs.take hi).drop lo).flatMap E.tys ++ (xs.drop hi).flatMap E.tys) := by
   rw [← List.flatMap_append, ← List.flatMap_append]
   congr 1
   have : xs.take lo = (xs.take hi).take lo := by rw [List.take_take, Nat.min_eq_left h1]
   rw [this, ← List.append_assoc, List.take_append_drop, List.take_append_drop]
  have L1 : ((xs.take lo).flatMap E.tys).length = lo * E.size := by rw [cz, List.length_take, Nat.min_eq_left aE]
  have L2 : (((xs.take hi).drop lo).flatMap E.tys).length = (hi - lo) * E.size := by rw [cz, hl]
  rw [e1, List.drop_left' L1, List.take_left' L2]
 rw [e]; exact h3
end
end Go.T
namespace Go.T
open Go Go.RowKit
section
variable {P : Program} {fr : Fr} {ops : Array Oper} {A : As} {rest : List Oper} {K : As → List (As × Fx) → Prop} {d : Nat} {t ty' : TypeId} {p : String} {e : Array Edge} [T : lq P]
theorem HG {α : Type} {E : El α} {w : World} {M : bI} {st el : Nat} {ti te : TI} {xs : List α} {v : Value} (hT : T.dz[st]? = some ti) (hk : ti.k = .slice el) (hE : T.dz[el]? = some te) (hs : te.size = E.size) (hx : pJ E xs w M v)
 {lo hi : Nat} {ol oh : Option Value} (hlo : (ol = none ∧ lo = 0) ∨ ∃ k : IntKind, ol = some (.int k lo)) (hhi : (oh = none ∧ hi = xs.length) ∨ ∃ k : IntKind, oh = some (.int k hi)) (h1 : lo ≤ hi) (h2 : hi ≤ xs.length) :
 ∃ v', (Instr.sliceAt st v ol oh none).run P w = .ok v' w ∧ pJ E ((xs.take hi).drop lo) w M v' := by
 obtain ⟨_, D, _, hD, hkd, _⟩ := cP hT
 rw [hk] at hkd
 cases D <;> simp only [TK.of, reduceCtorEq, TK.slice.injEq] at hkd
 subst hkd
 obtain ⟨ad, c, rfl, hc, hc2, hp⟩ := hx
 have hsz := fun w => cq (P := P) hE w
 refine ⟨_, ?_, OD hc hc2 hp h1 h2⟩
 have hic : hi ≤ c := by omega
 rcases hlo with ⟨rfl, rfl⟩ | ⟨k, rfl⟩ <;> rcases hhi with ⟨rfl, rfl⟩ | ⟨k', rfl⟩ <;>
  simp [Instr.sliceAt, Instr.slice, run_underlying hD, Instr.sliceBounds, Instr.sliceBound, asIntOf, hsz, hs, hic, h1]
theorem vD {α : Type} {E : El α} {x y : Operand} {k : IntKind} {el : Nat} {ti te : TI} {xs : List α} {hi : Nat} (hx : A.op fr x = .sl E xs) (hy : A.op fr y = .int k hi) (hT : T.dz[ty']? = some ti) (hk : ti.k = .slice el) (hE : T.dz[el]? = some te) (hs : te.size = E.size) (h2 : hi ≤ xs.length)
 (h : ay P fr ops rest (A.set d (.sl E (xs.take hi))) fun A' l' => K A' ((A, { d := some d, ty := .sl E (xs.take hi), rs := cA x ++ cA y }) :: l')) : ay P fr ops (⟨some d, .slice ty' x none (some y) none, t, p, e, none⟩ :: rest) A K :=
 bR (bl rfl rfl fun a w M _ hr _ => by
  obtain ⟨hdx, hdy⟩ := op2 hr
  rw [hx] at hdx; rw [hy] at hdy
  have ey : a.eval y = .int k hi := hdy
  obtain ⟨v', h3, h4⟩ := HG (P := P) hT hk hE hs hdx (lo := 0) (hi := hi) (ol := none) (oh := some (.int k hi)) (.inl ⟨rfl, rfl⟩) (.inr ⟨k, rfl⟩) (Nat.zero_le _) h2
  exact ⟨v', by simp [execOp, ey, h3], (show pJ E _ w M v' by simpa using h4)⟩) h
theorem LI {α : Type} {E : El α} {x y : Operand} {k : IntKind} {el : Nat} {ti te : TI} {xs : List α} {lo : Nat} (hx : A.op fr x = .sl E xs) (hy : A.op fr y = .int k lo) (hT : T.dz[ty']? = some ti) (hk : ti.k = .slice el) (hE : T.dz[el]? = some te) (hs : te.size = E.size) (h2 : lo ≤ xs.length)
 (h : ay P fr ops rest (A.set d (.sl E (xs.drop lo))) fun A' l' => K A' ((A, { d := some d, ty := .sl E (xs.drop lo), rs := cA x ++ cA y }) :: l')) : ay P fr ops (⟨some d, .slice ty' x (some y) none none, t, p, e, none⟩ :: rest) A K :=
 bR (bl rfl rfl fun a w M _ hr _ => by
  obtain ⟨hdx, hdy⟩ := op2 hr
  rw [hx] at hdx; rw [hy] at hdy
  have ey : a.eval y = .int k lo := hdy
  obtain ⟨v', h3, h4⟩ := HG (P := P) hT hk hE hs hdx (lo := lo) (hi := xs.length) (ol := some (.int k lo)) (oh := none) (.inr ⟨k, rfl⟩) (.inl ⟨rfl, rfl⟩) h2 (Nat.le_refl _)
  exact ⟨v', by simp [execOp, ey, h3], (show pJ E _ w M v' by simpa using h4)⟩) h
theorem sG {x : Operand} {f : Nat} {l : List Ty} {ti tf : TI} {fs : List (Nat × Nat)} {o ft : Nat} {ty : Ty} (hx : A.op fr x = .agg l) (hT : T.dz[ty']? = some ti) (hk : ti.k = .struct fs) (hf : fs[f]? = some (o, ft)) (hF : T.dz[ft]? = some tf) (ha : tf.k.agg = false) (hl : l[o]? = some ty)
 (h : ay P fr ops rest (A.set d ty) fun A' l' => K A' ((A, { d := some d, ty := ty, rs := cA x }) :: l')) : ay P fr ops (⟨some d, .field ty' x f, t, p, e, none⟩ :: rest) A K :=
 bR (bl rfl rfl fun a w M _ hr _ => by
  have hdx := cN (x := x) (fun _ h => h) hr
  rw [hx] at hdx
  obtain ⟨cs, ex, hd⟩ := hdx
  obtain ⟨v, hv, hdv⟩ := dr hd o ty hl
  obtain ⟨i, D, _, hD, hkd, _⟩ := cP hT
  rw [hk] at hkd
  cases D <;> simp only [TK.of, reduceCtorEq, TK.struct.injEq] at hkd
  rename_i fields
  subst hkd
  simp only [List.getElem?_map, Option.map_eq_some_iff, Prod.mk.injEq] at hf
  obtain ⟨g, hg, ho, hft⟩ := hf
  subst ho; subst hft
  have hg' : fields[f]? = some g := by simpa using hg
  have hv' : cs[g.offset]? = some v := by simpa using hv
  exact ⟨v, by simp [execOp, Instr.field, ex, run_underlying hD, hg', asAgg, part, qL hF, ha, hv'], hdv⟩) h
theorem Be {x : Operand} {f : Nat} {l : List Ty} {ti tf : TI} {fs : List (Nat × Nat)} {o ft : Nat} (hx : A.op fr x = .agg l) (hT : T.dz[ty']? = some ti) (hk : ti.k = .struct fs) (hf : fs[f]? = some (o, ft)) (hF : T.dz[ft]? = some tf) (ha : tf.k.agg = true)
 (h : ay P fr ops rest (A.set d (.agg ((l.drop o).take tf.size))) fun A' l' => K A' ((A, { d := some d, ty := .agg ((l.drop o).take tf.size), rs := cA x }) :: l')) : ay P fr ops (⟨some d, .field ty' x f, t, p, e, none⟩ :: rest) A K :=
 bR (bl rfl rfl fun a w M _ hr _ => by
  have hdx := cN (x := x) (fun _ h => h) hr
  rw [hx] at hdx
  obtain ⟨cs, ex, hd⟩ := hdx
  obtain ⟨i, D, _, hD, hkd, _⟩ := cP hT
  rw [hk] at hkd
  cases D <;> simp only [TK.of, reduceCtorEq, TK.struct.injEq] at hkd
  rename_i fields
  subst hkd
  simp only [List.getElem?_map, Option.map_eq_some_iff, Prod.mk.injEq] at hf
  obtain ⟨g, hg, ho, hft⟩ := hf
  subst ho; subst hft
  have hg' : fields[f]? = some g := by simpa using hg
  refine ⟨.agg (cs.extract g.offset (g.offset + tf.size)), by simp [execOp, Instr.field, ex, run_underlying hD, hg', asAgg, part, qL hF, ha, cq hF], _, rfl, ?_⟩
  have := lJ tf.size (jk g.offset hd)
  rw [Array.toList_extract, List.extract_eq_take_drop]
  simpa using this) h
inductive dJ (A : As) (fr : Fr) : List (Nat × Operand) → List (Nat × List Ty) → Prop
  | nil : dJ A fr [] []
  | one {i : Nat} {x : Operand} {ty : Ty} {l : List (Nat × Operand)} {r : List (Nat × List Ty)} (hx : A.op fr x = ty) (h1 : ty.one = true) (h : dJ A fr l r) : dJ A fr ((i, x) :: l) ((i, [ty]) :: r)
  | sub {i : Nat} {x : Operand} {ta : Ty} {tys : List Ty} {l : List (Nat × Operand)} {r : List (Nat × List Ty)} (hx : A.op fr x = ta) (hs : ∀ w M v, ta.den w M v → (Ty.agg tys).den w M v) (h : dJ A fr l r) : dJ A fr ((i, x) :: l) ((i, tys) :: r)
theorem dJ.agg {A : As} {fr : Fr} {i : Nat} {x : Operand} {tys : List Ty} {l : List (Nat × Operand)} {r : List (Nat × List Ty)} (hx : A.op fr x = .agg tys) (h : dJ A fr l r) : dJ A fr ((i, x) :: l) ((i, tys) :: r) := .sub hx (fun _ _ _ h => h) h
def splice (cells : List Ty) (off : Nat) (l : List Ty) : List Ty := cells.take off ++ (l ++ cells.drop (off + l.length))
def rO (place : Nat → Option (Nat × Nat)) (cells : List Ty) : List (Nat × List Ty) → Option (List Ty)
  | [] => some cells
  | (i, l) :: rest =>
    match place i with
    | none => none
    | some (off, size) => bif (Nat.beq l.length size && Nat.ble (off + l.length) cells.length) then rO place (splice cells off l) rest else none
theorem BQ (cs : Array Value) (off : Nat) : ∀ (vs : List Value) (j : Nat), off + j + vs.length ≤ cs.size →
    ((vs.zipIdx j).foldl (fun cs (x : Value × Nat) => cs.setIfInBounds (off + x.2) x.1) cs).toList = cs.toList.take (off + j) ++ (vs ++ cs.toList.drop (off + j + vs.length)) := by
  intro vs
  induction vs generalizing cs with
  | nil => intro j _; simp
  | cons v vs ih =>
    intro j h
    simp only [List.zipIdx_cons, List.foldl_cons]
    rw [ih (cs.setIfInBounds (off + j) v) (j + 1) (by simp at h ⊢; omega)]
    have hlt : off + j < cs.toList.length := by simp at h ⊢; omega
    rw [Array.toList_setIfInBounds, ← Nat.add_assoc, List.take_succ_eq_append_getElem ni, List.take_set_of_le (Nat.le_refl _), List.getElem_set_self, List.drop_set_of_lt aE]
    simp [Nat.add_assoc, Nat.add_comm 1]
theorem wu {w : World} {M : bI} {cells l : List Ty} {cs : List Value} {vs : List Value} {off : Nat} (h : cS w M cells cs) (hv : cS w M l vs) : cS w M (splice cells off l) (cs.take off ++ (vs ++ cs.drop (off + vs.length))) := by
 rw [cO hv]
 exact eY (lJ off h) (eY hv (jk _ h))
theorem pQ {a : Act} {w : World} {M : bI} {rs : List Nat} (hr : ∀ c ∈ rs, c < fr.n → (A.slots c).den w M (a.tmps.getD c undef)) {place : Nat → Option (Nat × Nat)} {parts : List (Nat × Operand)} {ls : List (Nat × List Ty)} (hp : dJ A fr parts ls) :
    ∀ {cells out : List Ty} {cs : Array Value}, (∀ x ∈ parts, ∀ c ∈ cA x.2, c ∈ rs) → cS w M cells cs.toList → rO place cells ls = some out →
      ∃ cs', Instr.fill place cs (parts.map fun x => (x.1, a.eval x.2)) = some cs' ∧ cS w M out cs'.toList := by
  induction hp with
  | nil => intro cells out cs _ h hf; simp only [rO, Option.some.injEq] at hf; subst hf; exact ⟨cs, rfl, h⟩
  | @one i x ty l r hx h1 _ ih =>
    intro cells out cs hrs h hf
    have hd := cN (x := x) (hrs _ List.mem_cons_self) hr
    rw [hx] at hd
    have hone := ty.isOne h1 hd
    have hcells : (a.eval x).cells = #[a.eval x] := by
      cases hv : a.eval x <;> first | rfl | (rw [hv] at hone; simp [Value.oneCell'] at hone)
    simp only [rO] at hf
    cases hpl : place i with
    | none => rw [hpl] at hf; cases hf
    | some os =>
      obtain ⟨off, size⟩ := os
      rw [hpl] at hf
      simp only [List.length_cons, List.length_nil, cond_eq_ite, Bool.and_eq_true, Nat.beq_eq_true_eq, Nat.ble_eq] at hf
      split at hf
      · rename_i hc
        have hlen := cO h
        have hs := wu (off := off) h (show cS w M [ty] [a.eval x] from ⟨hd, trivial⟩)
        have hfold := BQ cs off [a.eval x] 0 (by simp at hlen ⊢; omega)
        obtain ⟨cs', h1', h2'⟩ := ih (cs := cs.setIfInBounds off (a.eval x)) (fun y hy => hrs y (List.mem_cons_of_mem _ hy)) (by rw [show (cs.setIfInBounds off (a.eval x)).toList = _ from hfold]; simpa using hs) hf
        refine ⟨cs', ?_, h2'⟩
        have hsz : 1 = size := by have := Nat.eq_of_beq_eq_true hc.1; simpa using this
        have hle : ¬ (off + 1 > cs.size) := by simp at hlen; omega
        simp only [List.map_cons, Instr.fill, hpl, hcells]
        simp [← hsz, hle, h1']
      · cases hf
  | @sub i x ta tys l r hx hsub _ ih =>
    intro cells out cs hrs h hf
    have hd := cN (x := x) (hrs _ List.mem_cons_self) hr
    rw [hx] at hd
    obtain ⟨vs, ev, hvs⟩ := hsub _ _ _ hd
    simp only [rO] at hf
    cases hpl : place i with
    | none => rw [hpl] at hf; cases hf
    | some os =>
      obtain ⟨off, size⟩ := os
      rw [hpl] at hf
      simp only [cond_eq_ite, Bool.and_eq_true, Nat.beq_eq_true_eq, Nat.ble_eq] at hf
      split at hf
      · rename_i hc
        have hlen := cO h
        have hlv := cO hvs
        have hs := wu (off := off) h hvs
        have hfold := BQ cs off vs.toList 0 (by simp at hlen hlv ⊢; omega)
        obtain ⟨cs', h1', h2'⟩ := ih (cs := (vs.toList.zipIdx.foldl (fun cs (x : Value × Nat) => cs.setIfInBounds (off + x.2) x.1) cs)) (fun y hy => hrs y (List.mem_cons_of_mem _ hy)) (by rw [hfold]; simpa using hs) hf
        refine ⟨cs', ?_, h2'⟩
        have hsz : vs.size = size := by have := Nat.eq_of_beq_eq_true hc.1; simp at hlv; omega
        have hle : ¬ (off + vs.size > cs.size) := by simp at hlen hlv; omega
        simp only [List.map_cons, Instr.fill, hpl, ev]
        have hv2 : (Value.agg vs).cells = vs := rfl
        simp only [hv2]
        have hfold' : Array.foldl (fun cs (x : Value × Nat) => cs.setIfInBounds (off + x.2) x.1) cs vs.zipIdx = vs.toList.zipIdx.foldl (fun cs (x : Value × Nat) => cs.setIfInBounds (off + x.2) x.1) cs := by
          rw [← Array.foldl_toList, Array.toList_zipIdx]
        rw [← h1', ← hfold']
        simp [hsz]
        omega
      · cases hf
end
end Go.T
namespace Go.T
open Go Go.RowKit
def placesOf (dz : List TI) (fs : List (Nat × Nat)) (i : Nat) : Option (Nat × Nat) :=
  match fs[i]? with
  | some (o, ft) => match dz[ft]? with
    | some tf => some (o, tf.size)
    | none => none
  | none => none
section
variable {P : Program} {fr : Fr} {ops : Array Oper} {A : As} {rest : List Oper} {K : As → List (As × Fx) → Prop} {d : Nat} {t ty' : TypeId} {p : String} {e : Array Edge} [T : lq P]
def uc (f : Field) : Sem (Nat × Nat) := do pure (f.offset, ← sizeOf f.type)
theorem CO {f : Field} {tf : TI} (h : T.dz[f.type]? = some tf) (w : World) : (uc f).run P w = .ok (f.offset, tf.size) w := by simp [uc, cq h]
theorem qn {w : World} : ∀ (fs : List Field), (∀ f ∈ fs, ∃ tf, T.dz[f.type]? = some tf) →
    ∃ r, (fs.mapM uc).run P w = .ok r w ∧ ∀ i : Nat, r[i]? = placesOf T.dz (fs.map fun f => (f.offset, f.type)) i
  | [], _ => ⟨[], by simp, fun i => by simp [placesOf]⟩
  | f :: fs, h => by
    obtain ⟨tf, htf⟩ := h f List.mem_cons_self
    obtain ⟨r, hr, hi⟩ := qn (w := w) fs fun g hg => h g (List.mem_cons_of_mem _ hg)
    refine ⟨(f.offset, tf.size) :: r, by simp [CO htf, hr], fun i => ?_⟩
    cases i with
    | zero => simp [placesOf, htf]
    | succ i => simpa [placesOf] using hi i
theorem cC {parts : Array (Nat × Operand)} {ti : TI} {fs : List (Nat × Nat)} {ls : List (Nat × List Ty)} {out : List Ty} (hT : T.dz[ty']? = some ti) (hk : ti.k = .struct fs) (hz : ti.zero ≠ []) (hfs : (fs.all fun f => (T.dz[f.2]?).isSome) = true) (hp : dJ A fr parts.toList ls) (hf : rO (placesOf T.dz fs) (ti.zero.map Ty.mC) ls = some out)
 (h : ay P fr ops rest (A.set d (.agg out)) fun A' l' => K A' ((A, { d := some d, ty := .agg out, rs := parts.toList.flatMap fun x => cA x.2 }) :: l')) : ay P fr ops (⟨some d, .build ty' parts, t, p, e, none⟩ :: rest) A K :=
 bR (bl rfl rfl fun a w M _ hr _ => by
  obtain ⟨z, hz1, hz2⟩ := nP hT hz w
  obtain ⟨i, D, _, hD, hkd, _⟩ := cP hT
  rw [hk] at hkd
  cases D <;> simp only [TK.of, reduceCtorEq, TK.struct.injEq] at hkd
  rename_i fields
  subst hkd
  obtain ⟨r, hr1, hr2⟩ := qn (P := P) (w := w) fields.toList fun f hf => by
   simp only [List.all_eq_true] at hfs
   have := hfs (f.offset, f.type) (List.mem_map.2 ⟨f, hf, rfl⟩)
   exact Option.isSome_iff_exists.1 this
  obtain ⟨cs', h1, h2⟩ := pQ hr hp (place := placesOf T.dz (fields.toList.map fun f => (f.offset, f.type))) (cs := z.cells) (fun x hx c hc => List.mem_flatMap.2 ⟨x, hx, hc⟩) (by rw [hz2]; exact oa _ _ _) hf
  refine ⟨.agg cs', ?_, cs', rfl, h2⟩
  have hm0 : (fields.mapM uc).run P w = .ok r.toArray w := by
   rw [Array.mapM_eq_mapM_toList]
   simp [hr1]
  have hm : (fields.mapM (fun f => do pure (f.offset, ← sizeOf f.type) : Field → Sem (Nat × Nat))).run P w = .ok r.toArray w := hm0
  have hfun : (fun i : Nat => r.toArray[i]?) = placesOf T.dz (fields.toList.map fun f => (f.offset, f.type)) := funext fun i => by simpa using hr2 i
  have hparts : (parts.map fun x => (x.1, a.eval x.2)).toList = parts.toList.map fun x => (x.1, a.eval x.2) := by simp
  simp only [execOp, Instr.build, Sem.run_bind, hz1, Result.andThen_ok, run_underlying hD]
  simp only [hm, Result.andThen_ok, hfun, hparts, h1]
  simp) h
theorem bD {α : Type} {E : El α} {xs : List α} {len el : Nat} {parts : Array (Nat × Operand)} {ti te : TI} {ls : List (Nat × List Ty)} (hT : T.dz[ty']? = some ti) (hk : ti.k = .slice el) (hE : T.dz[el]? = some te) (hs : te.size = E.size) (hz : te.zero.length = te.size) (h0 : 0 < te.size) (hle : len * te.size ≤ 16777216) (hp : dJ A fr parts.toList ls)
 (hf : rO (fun i => some (i * te.size, te.size)) ((List.range (len * te.size)).map fun j => Ty.mC (te.zero.getD (j % te.size) undef)) ls = some (xs.flatMap E.tys)) (hx : xs.length = len)
 (h : ay P fr ops rest (A.set d (.sl E xs)) fun A' l' => K A' ((A, { d := some d, ty := .sl E xs, rs := parts.toList.flatMap fun x => cA x.2 }) :: l')) : ay P fr ops (⟨some d, .buildSlice ty' len parts, t, p, e, none⟩ :: rest) A K := by
 refine ⟨_, fk (f := { d := some d, ty := .sl E xs, rs := parts.toList.flatMap fun x => cA x.2 }) rfl rfl bB bB bB fun a w M wf hr _ => ?_, h⟩
 obtain ⟨z, hz1, hz2⟩ := nP hE HM w
 obtain ⟨_, D, _, hD, hkd, _⟩ := cP hT
 rw [hk] at hkd
 cases D <;> simp only [TK.of, reduceCtorEq, TK.slice.injEq] at hkd
 rename_i el0
 have hel : el0 = el := hkd
 subst hel
 have hzs : z.cells.size = te.size := by rw [← hz, ← hz2]; simp
 let zs : Array Value := if len * te.size = 0 then #[] else z.cells
 have hcells : cS w M ((List.range (len * te.size)).map fun j => Ty.mC (te.zero.getD (j % te.size) undef)) ((Array.range (len * te.size)).map (zs[· % zs.size]!)).toList := by
  refine iH bB fun i u hi => ?_
  rw [List.getElem?_map] at hi
  simp only [Option.map_eq_some_iff] at hi
  obtain ⟨j, hj, rfl⟩ := hi
  have hlt : i < len * te.size := by have := (List.getElem?_eq_some_iff.1 hj).1; simpa using this
  rw [List.getElem?_range hlt] at hj
  injection hj with hj
  subst hj
  have hne : ¬ len * te.size = 0 := by omega
  refine ⟨te.zero.getD (i % te.size) undef, ?_, m7 _ _ _⟩
  have hm : i % te.size < z.cells.size := by rw [hzs]; exact Nat.mod_lt _ h0
  have e1 : zs[i % zs.size]! = te.zero.getD (i % te.size) undef := by
   simp only [zs, if_neg hne, hzs]
   rw [getElem!_pos z.cells _ hm, ← hz2, List.getD_eq_getElem?_getD, List.getElem?_eq_getElem (by simpa using hm)]
   simp
  simp [List.getElem?_range hlt, e1]
 obtain ⟨cs', h1, h2⟩ := pQ hr hp (place := fun i => some (i * te.size, te.size)) (cs := (Array.range (len * te.size)).map (zs[· % zs.size]!)) (fun x hx c hc => List.mem_flatMap.2 ⟨x, hx, hc⟩) hcells hf
 have hparts : (parts.map fun x => (x.1, a.eval x.2)).toList = parts.toList.map fun x => (x.1, a.eval x.2) := by simp
 obtain ⟨h3, h4, _⟩ := C1 wf (.cells cs' el0)
 refine ⟨.slice (some ⟨w.heap.size, 0, none⟩) len len, w.alloc (.cells cs' el0), ?_, M, h3, h4, ⟨some ⟨w.heap.size, 0, none⟩, len, by rw [hx], by omega, ?_, fun _ => ⟨_, 0, rfl, ?_⟩⟩, by simp⟩
 ·have hbig : ¬ (len * te.size > 2 ^ 24) := by omega
  have hbig' : ¬ (2 ^ 24 < len * te.size) := by omega
  simp only [execOp, Instr.buildSlice, Sem.run_bind, run_underlying hD, Result.andThen_ok, cq hE]
  simp only [hbig', gt_iff_lt, if_false]
  by_cases hn : len * te.size = 0
  ·have : zs = #[] := if_pos hn
   rw [this] at h1
   simp only [hn, if_true, Sem.run_pure, Sem.run_bind, Result.andThen_ok]
   rw [hn] at h1
   simp only [hparts, h1]
   simp [newRow, newObj, Sem.run]
  have : zs = z.cells := if_neg hn
  rw [this] at h1
  simp only [if_neg hn, Sem.run_pure, Sem.run_bind, Result.andThen_ok, hz1]
  simp only [hparts, h1]
  simp [newRow, newObj, Sem.run]
 ·have : len ≤ len * te.size := Nat.le_mul_of_pos_right _ h0
  simp only [maxLen]; omega
 have := Bj (T := el0) (cs := cs'.toList) wf h2
 simpa using this
def Ty.Plain (t : Ty) : Prop := ∀ w M w' M' v, t.den w M v → t.den w' M' v
theorem mz (k : IntKind) (n : Int) : (Ty.int k n).Plain := fun _ _ _ _ _ h => h
theorem Fo (b : Bool) : (Ty.bool b).Plain := fun _ _ _ _ _ h => h
theorem zY : ∀ {l : List Ty}, (∀ t ∈ l, t.Plain) → ∀ {w M w' M' vs}, cS w M l vs → cS w' M' l vs
  | [], _, _, _, _, _, [], _ => trivial
  | _ :: _, h, _, _, _, _, _ :: _, ⟨h1, h2⟩ => ⟨h _ List.mem_cons_self _ _ _ _ _ h1, zY (fun t ht => h t (List.mem_cons_of_mem _ ht)) h2⟩
theorem I5 : ∀ t ∈ ([] : List Ty), t.Plain := by intro _ h; cases h
theorem tJ {t : Ty} {l : List Ty} (h : t.Plain) (h' : ∀ t ∈ l, t.Plain) : ∀ u ∈ t :: l, u.Plain := by
 intro u hu
 rcases List.mem_cons.1 hu with rfl | hu
 ·exact h
 exact h' u hu
def qy (M : bI) (L : List Nat) : bI := fun b => match M b with | none => none | some t => if t ∈ L then none else some 0
def Ic (L : List Nat) (s t : Ty) : Prop := ∀ w M v, Wf w M → s.den w M v → t.den w (qy M L) v
theorem wS {M : bI} {L : List Nat} {b : Nat} (h : M b = none) : qy M L b = none := by simp [qy, h]
theorem Hy {M : bI} {L : List Nat} {b t : Nat} (h : M b = some t) (ht : t ∈ L) : qy M L b = none := by simp [qy, h, ht]
theorem sk {M : bI} {L : List Nat} (b t : Nat) (h : qy M L b = some t) : t = 0 := by
 unfold qy at h
 split at h
 ·cases h
 split at h
 ·cases h
 injection h with h; exact h.symm
theorem Ib {M : bI} {L : List Nat} {b t : Nat} (h : qy M L b = some t) : ∃ u, M b = some u := by
 unfold qy at h
 split at h
 ·cases h
 rename_i u hu; exact ⟨u, hu⟩
theorem Hx {w : World} {M : bI} {L : List Nat} (wf : Wf w M) : Wf w (qy M L) :=
 ⟨fun b t h => let ⟨u, hu⟩ := Ib h; wf.lt b u hu, fun b b' t _ h _ => by have := sk _ _ h; omega⟩
theorem jP {L : List Nat} {t : Ty} (h1 : t.deps = []) (h2 : t.cdeps = []) : Ic L t t := fun w M v _ h =>
 t.mono (S := fun _ => True) (K := fun _ => True) ⟨Nat.le_refl _, rfl, rfl, rfl, fun b _ hm => ⟨wS hm, rfl⟩, fun b t _ h => absurd trivial h⟩ BL AZ h
theorem zC {α : Type} {E : El α} {T tg : Nat} {xs : List α} {w : World} {M M' : bI} {v : Value} (wf : Wf w M) (h : g7 E T tg xs w M v) (hM : ∀ b, M b = some tg → M' b = none) (hle : ∀ b, M b = none → M' b = none) : pJ E xs w M' v := by
 obtain ⟨cs, h1, h2, h3⟩ := h
 rcases h1.2 with ⟨rfl, h0⟩ | ⟨g, cap, cur, rfl, _, hh, hn, hcap, hcs, htk⟩
 ·exact ⟨none, 0, by rw [h0], by omega, by simp [maxLen], fun h => absurd h aE⟩
 have hg : M g = some tg := h3 g rfl
 refine ⟨some ⟨g, 0, none⟩, cap, rfl, hn, hcap, fun _ => ⟨g, 0, rfl, hM g hg, wf.lt g _ hg, fun i t hi => ?_⟩⟩
 have h2' := b7 (S := fun _ => True) (K := fun _ => True) (w' := w) (M' := M') ⟨Nat.le_refl _, rfl, rfl, rfl, fun b _ hm => ⟨hle b hm, rfl⟩, fun b t _ h => absurd trivial h⟩ lV jm h2
 obtain ⟨u, hu, hd⟩ := dr h2' i t hi
 refine ⟨u, ?_, hd⟩
 rw [← htk, List.getElem?_take] at hu
 split at hu
 ·simpa [World.cell?, hh] using hu
 cases hu
theorem yS {L : List Nat} {α : Type} {E : El α} {T tg : Nat} {xs : List α} (h : L.contains tg = true) : Ic L (Ty.row E T tg xs) (Ty.sl E xs) := fun w M v wf hr =>
 zC wf hr (fun b hb => Hy hb nq) (fun b hb => wS hb)
theorem D1 {L : List Nat} {α : Type} {E : El α} : Ic L (Ty.ex (.slice none 0 0)) (Ty.sl E []) := fun w M v _ h => Ty.nv _ _ _ h
def xM (L : List Nat) : List Ty → List Ty → Prop
  | [], [] => True
  | s :: ss, t :: ts => Ic L s t ∧ xM L ss ts
  | _, _ => False
theorem wH {L : List Nat} : xM L [] [] := trivial
theorem nj {L : List Nat} {s t : Ty} {ss ts : List Ty} (h : Ic L s t) (h' : xM L ss ts) : xM L (s :: ss) (t :: ts) := ⟨h, h'⟩
theorem qh {L : List Nat} {w : World} {M : bI} (wf : Wf w M) : ∀ {ss ts : List Ty} {vs : List Value}, xM L ss ts → cS w M ss vs → cS w (qy M L) ts vs
  | [], [], [], _, _ => trivial
  | _ :: _, _ :: _, _ :: _, ⟨h, h'⟩, ⟨h1, h2⟩ => ⟨h _ _ _ wf h1, qh wf h' h2⟩
theorem yM {L : List Nat} {w w' : World} {M M' : bI} {res : Ty} {r : Value} (wf : Wf w M) (le : Le (fun t => 1 ≤ t) (fun t => 1 ≤ t) w (qy M L) w' M') (hp : res.Plain) (hr : res.den w' M' r) :
    Wf w' (nV w M) ∧ Le (· ∈ ([] : List Nat)) (· ∈ ([] : List Nat)) w M w' (nV w M) ∧ res.den w' (nV w M) r := by
  have hold : ∀ b, b < w.heap.size → w'.heap[b]? = w.heap[b]? := fun b hb => by
    cases hm : qy M L b with
    | none => exact (le.o8 b hb hm).2
    | some t =>
      have := sk _ _ hm
      subst this
      exact (le.own b 0 hm aE).2 aE
  refine ⟨⟨fun b t h => ?_, fun b b' t ht1 h h' => ?_⟩, ⟨le.size, le.os, le.tape, le.out, fun b hb hm => ⟨?_, hold b hb⟩, fun b t hm _ => ⟨?_, fun _ => hold b (wf.lt b t hm)⟩⟩, hp _ _ _ _ _ hr⟩
  · unfold nV at h
    split at h
    · exact Nat.lt_of_lt_of_le ‹_› le.size
    · cases h
  · unfold nV at h h'
    split at h <;> split at h' <;> first | exact wf.inj b b' t ht1 h h' | cases h | cases h'
  · simp [nV, hm]
  · simp [nV, wf.lt b t hm, hm]
omit T in
theorem x8 (L : List Nat) {f : FuncId} {args : List Ty} {res : Ty} (hF : dO P f args res) {xs : List Operand} {ats : Array TypeId} {ss : List Ty} (hx : om A fr xs = ss) (hl : xM L ss args) (hp : res.Plain)
 (h : ay P fr ops rest (A.set d res) fun A' l => K A' ((A, { d := some d, ty := res, rs := xs.flatMap cA }) :: l)) : ay P fr ops (⟨some d, .call ⟨.value (.func f), xs.toArray, ats⟩, t, p, e, none⟩ :: rest) A K := by
 refine ⟨{ d := some d, ty := res, rs := xs.flatMap cA }, ⟨rfl, by simp, by simp, by simp, fun a w M wf _ hrd _ => ?_⟩, h⟩
 rw [if_pos kY]
 have hv : cS w M ss (xs.map a.eval) := hx ▸ gC hrd fun x hx c hc => List.mem_flatMap.2 ⟨x, hx, hc⟩
 have hc := hF.2 w _ _ (Hx (L := L) wf) sk (qh wf hl hv)
 have hrun : (execOp a.eval ⟨some d, .call ⟨.value (.func f), xs.toArray, ats⟩, t, p, e, none⟩).run P w = .ok (.enter f (xs.map a.eval).toArray) w := by
  simp [execOp, resolve, Act.eval, Deferred.ofValue, invoke, mJ hF]
 refine jN hrun ?_
 refine hc.mono fun en w' ⟨r, M', he, _, le, hden⟩ => ?_
 obtain ⟨h1, h2, h3⟩ := yM wf le hp hden
 exact ⟨r, he, r, rfl, _, h1, h2, h3, by simp⟩
end
end Go.T
namespace Go.T
open Go Go.RowKit
def pg (M : bI) : bI := fun b => match M b with | some 0 => some 0 | _ => none
def fJ (s t : Ty) : Prop := ∀ w M v, Wf w M → s.den w M v → t.den w (pg M) v
theorem wW {M : bI} {b : Nat} (h : M b = none) : pg M b = none := by simp [pg, h]
theorem Iz {M : bI} {b t : Nat} (h : M b = some (t + 1)) : pg M b = none := by simp [pg, h]
theorem Ia {M : bI} {b : Nat} (h : M b = some 0) : pg M b = some 0 := by simp [pg, h]
theorem Av {M : bI} {b t : Nat} (h : pg M b = some t) : t = 0 ∧ M b = some 0 := by
 unfold pg at h
 split at h
 ·rename_i h'; injection h with h; exact ⟨h.symm, h'⟩
 cases h
theorem oT {w : World} {M : bI} (wf : Wf w M) : Wf w (pg M) :=
 ⟨fun b t h => wf.lt b 0 (Av h).2, fun b b' t _ h _ => by have := (Av h).1; omega⟩
theorem b9 {t : Ty} (h1 : t.deps = []) (h2 : t.cdeps = []) : fJ t t := fun w M v _ h =>
 t.mono (S := fun _ => True) (K := fun _ => True) ⟨Nat.le_refl _, rfl, rfl, rfl, fun b _ hm => ⟨wW hm, rfl⟩, fun b t _ h => absurd trivial h⟩ BL AZ h
theorem vX {s t : Ty} (h1 : s.deps = []) (h2 : s.cdeps = []) (h : s.Sub t) : fJ s t := fun w M v wf hs => h _ _ _ (b9 h1 h2 w M v wf hs)
theorem av {s t : Ty} (h1 : t.deps = []) (h2 : t.cdeps = []) (h : s = t) : fJ s t := by subst h; exact b9 h1 h2
theorem qD {α : Type} {E : El α} {T tg : Nat} {xs : List α} (h : 1 ≤ tg) : fJ (Ty.row E T tg xs) (Ty.sl E xs) := fun w M v wf hr =>
 zC wf hr (fun b hb => by obtain ⟨u, rfl⟩ : ∃ u, tg = u + 1 := ⟨tg - 1, by omega⟩; exact Iz hb) (fun b hb => wW hb)
theorem gB {α : Type} {E : El α} {T tg : Nat} {xs ys : List α} (h : 1 ≤ tg) (e : xs = ys) : fJ (Ty.row E T tg xs) (Ty.sl E ys) := e ▸ qD h
theorem Nc {α : Type} {E : El α} : fJ (Ty.ex (.slice none 0 0)) (Ty.sl E []) := fun _ _ _ _ h => Ty.nv _ _ _ h
def Cu : List Ty → List Ty → Prop
  | [], [] => True
  | s :: ss, t :: ts => fJ s t ∧ Cu ss ts
  | _, _ => False
theorem Aq {w : World} {M : bI} (wf : Wf w M) : ∀ {ss ts : List Ty} {vs : List Value}, Cu ss ts → cS w M ss vs → cS w (pg M) ts vs
  | [], [], [], _, _ => trivial
  | _ :: _, _ :: _, _ :: _, ⟨h, h'⟩, ⟨h1, h2⟩ => ⟨h _ _ _ wf h1, Aq wf h' h2⟩
theorem Nn {ss ts : List Ty} (h : Cu ss ts) : fJ (Ty.agg ss) (Ty.agg ts) := fun _ _ _ wf ⟨cs, e, hd⟩ => ⟨cs, e, Aq wf h hd⟩
theorem lR {fr : Fr} {w : World} {M : bI} (hk : ∀ t, fr.kd.J8 t → 1 ≤ t) (hb : fr.base w M) : Le (fun t => 1 ≤ t) (fun t => 1 ≤ t) fr.w0 fr.M0 w (pg M) :=
 ⟨hb.size, hb.os, hb.tape, hb.out, fun b hlt hm => ⟨wW (hb.o8 b hlt hm).1, (hb.o8 b hlt hm).2⟩, fun b t hm ht => by
  have : t = 0 := by omega
  subst this
  obtain ⟨h1, h2⟩ := hb.own b 0 hm aE
  exact ⟨Ia h1, fun _ => h2 (fun h => by have := hk 0 h; omega)⟩⟩
section
variable {P : Program} {fr : Fr} {A : As} {Q : Exit → Act → World → Prop} {c : Code} {fn : Func} {n : Nat} {w0 : World} {M0 : bI}
theorem bg {tm : Nat} {res : Ty} (hr : fn.results = #[.tmp tm]) (ht : Nat.blt tm n = true) (hs : fJ (A.slots tm) res) : dG ⟨n, w0, M0, [], .plain⟩ A (bodyPost P fn (kX w0 M0 res) .ret) := by
 intro a w ⟨M, ok, hsl, _⟩
 exact ⟨ok.eH bB, _, results_tmp hr _ _ _, _, pg M, rfl, oT ok.wf, lR (fr := ⟨n, w0, M0, [], .plain⟩) (fun _ h => h) ok.base, hs _ _ _ ok.wf (hsl tm rz)⟩
theorem dc {t1 t2 : Nat} {r1 r2 : Ty} (hr : fn.results = #[.tmp t1, .tmp t2]) (h1 : Nat.blt t1 n = true) (h2 : Nat.blt t2 n = true) (hs1 : fJ (A.slots t1) r1) (hs2 : fJ (A.slots t2) r2) :
 dG ⟨n, w0, M0, [], .plain⟩ A (bodyPost P fn (kX w0 M0 (Ty.iF [r1, r2])) .ret) := by
 intro a w ⟨M, ok, hsl, _⟩
 exact ⟨ok.eH bB, _, results_tmp2 hr _ _ _, _, pg M, rfl, oT ok.wf, lR (fr := ⟨n, w0, M0, [], .plain⟩) (fun _ h => h) ok.base, _, rfl, hs1 _ _ _ ok.wf (hsl t1 y9), hs2 _ _ _ ok.wf (hsl t2 tv), trivial⟩
theorem Gy {t1 t2 t3 : Nat} {r1 r2 r3 : Ty} (hr : fn.results = #[.tmp t1, .tmp t2, .tmp t3]) (h1 : Nat.blt t1 n = true) (h2 : Nat.blt t2 n = true) (h3 : Nat.blt t3 n = true) (hs1 : fJ (A.slots t1) r1) (hs2 : fJ (A.slots t2) r2) (hs3 : fJ (A.slots t3) r3) :
 dG ⟨n, w0, M0, [], .plain⟩ A (bodyPost P fn (kX w0 M0 (Ty.iF [r1, r2, r3])) .ret) := by
 intro a w ⟨M, ok, hsl, _⟩
 exact ⟨ok.eH bB, .tuple #[a.tmps.getD t1 undef, a.tmps.getD t2 undef, a.tmps.getD t3 undef], by simp [results, hr], _, pg M, rfl, oT ok.wf, lR (fr := ⟨n, w0, M0, [], .plain⟩) (fun _ h => h) ok.base, _, rfl, hs1 _ _ _ ok.wf (hsl t1 y9), hs2 _ _ _ ok.wf (hsl t2 tv), hs3 _ _ _ ok.wf (hsl t3 B8), trivial⟩
theorem fV {F : Prop} {s : Nat} {ty : Ty} (hs : Nat.blt s fr.n = true) (hx : A.slots s = ty) (hf : ∀ w M v, ty.den w M v → F) (h : F → fS P fr c A Q) : fS P fr c A Q := fun a w ha => by
 obtain ⟨M, ok, hsl, ht⟩ := ha
 have := hsl s yO
 rw [hx] at this
 exact h (hf _ _ _ this) a w ⟨M, ok, hsl, ht⟩
theorem fY {α : Type} {E : El α} {xs : List α} (w : World) (M : bI) (v : Value) (h : (Ty.sl E xs).den w M v) : xs.length ≤ 9223372036854775807 := by
 obtain ⟨A, c, _, h1, h2, _⟩ := h
 simp only [maxLen] at h2; omega
theorem fK {s : Nat} {ty ty' : Ty} (hx : A.slots s = ty) (h : ty.Sub ty') (h' : fS P fr c (A.set s ty') Q) : fS P fr c A Q := fun a w ⟨M, ok, hsl, ht⟩ =>
  h' a w ⟨M, ok, fun i hi => by
    show ((A.set s ty').slots i).den w M _
    simp only [As.set]
    cases hb : Nat.beq i s with
    | false => exact hsl i hi
    | true =>
      have : i = s := Nat.eq_of_beq_eq_true hb
      subst this
      exact h _ _ _ (hx ▸ hsl i hi), ht⟩
end
def g6 {α : Type} (E : El α) (T : Nat) (xs : List α) (w : World) (M : bI) (t : Nat) : Prop :=
  xs = [] ∨ ∃ b cs, M b = some t ∧ w.heap[b]? = some (.cells cs T (0, 0)) ∧ cS w M (xs.flatMap E.tys) (cs.toList.take (xs.flatMap E.tys).length)
theorem Hs {α : Type} {E : El α} {T : Nat} {xs : List α} {w : World} {M : bI} {t : Nat} (h : dy T (xs.flatMap E.tys) w M t) : g6 E T xs w M t := by
 obtain ⟨b, cs, h1, h2, h3⟩ := h
 exact .inr ⟨b, cs, h1, h2, by rw [← cO h3, List.take_length]; exact h3⟩
def Cont.vec {α : Type} (E : El α) (T : Nat) (xs : List α) : Cont :=
  { den := g6 E T xs, mono := fun le _ _ hs hk h => h.imp id fun ⟨b, cs, h1, h2, h3⟩ => let ⟨h4, h5⟩ := le.own b _ h1 hk
    ⟨b, cs, h4, (h5 hs).trans h2, b7 le lV jm h3⟩ }
theorem Cont.jB {α : Type} {E : El α} {T : Nat} {xs ys : List α} (h : xs = ys) : (Cont.vec E T xs).Sub (Cont.vec E T ys) := h ▸ Cont.aM _
theorem Cont.p8 {T : Nat} {l l' : List Ty} (h : l = l') : (Cont.cells T l).Sub (Cont.cells T l') := h ▸ Cont.aM _
def q2 (tg n : Nat) (_ : World) (M : bI) (x : Value) : Prop := (n = 0 ∧ x = .slice none 0 0) ∨ ∃ b c, M b = some tg ∧ x = .slice (some ⟨b, 0, none⟩) n c ∧ n ≤ c ∧ c ≤ maxLen
def Ty.vs (tg n : Nat) : Ty := ⟨q2 tg n, [tg], [], fun le hk _ h => h.imp id fun ⟨b, c, h, e, h1, h2⟩ => ⟨b, c, (le.own b tg h (hk tg bB)).1, e, h1, h2⟩, true, fun _ h => by
  rcases h with ⟨_, rfl⟩ | ⟨_, _, _, rfl, _⟩ <;> rfl⟩
section
variable {P : Program} {fr : Fr} {ops : Array Oper} {A : As} {rest : List Oper} {K : As → List (As × Fx) → Prop} {d : Nat} {t ty' : TypeId} {p : String} {e : Array Edge} [T : lq P]
theorem xd {α : Type} {E : El α} {x0 : α} {x y : Operand} {k k' : IntKind} {n : Int} {el : Nat} {ti te : TI} (hx : A.op fr x = .int k n) (hy : A.op fr y = .int k' n) (hT : T.dz[ty']? = some ti) (hk : ti.k = .slice el) (hE : T.dz[el]? = some te) (hs : te.size = E.size) (hz : te.zero.map Ty.mC = E.tys x0) (hzp : 0 < te.size) (hp : fr.pass.contains (d + 1) = false)
    (hn : 0 ≤ n) (hlen : (te.bytes : Int) * n ≤ 281474976710656) (hlen' : n ≤ 9223372036854775807)
    (h : ay P fr ops rest (A.after { d := some d, ty := .vs (d + 1) n.toNat, K := [d + 1], sets := [(d + 1, .vec E el (List.replicate n.toNat x0))], rs := cA x ++ cA y }) fun A' l' => K A' ((A, { d := some d, ty := .vs (d + 1) n.toNat, K := [d + 1], sets := [(d + 1, .vec E el (List.replicate n.toNat x0))], rs := cA x ++ cA y }) :: l')) :
    ay P fr ops (⟨some d, .makeSlice ty' x y, t, p, e, none⟩ :: rest) A K := by
  refine ⟨_, fk rfl rfl bB bB tE fun a w M wf hr _ => ?_, h⟩
  obtain ⟨hdx, hdy⟩ := op2 hr
  rw [hx] at hdx; rw [hy] at hdy
  have ex : a.eval x = .int k n := hdx
  have ey : a.eval y = .int k' n := hdy
  obtain ⟨_, D, _, hD, hkd, _⟩ := cP hT
  rw [hk] at hkd
  cases D <;> simp only [TK.of, reduceCtorEq, TK.slice.injEq] at hkd
  rename_i el0
  have hel : el0 = el := hkd
  subst hel
  obtain ⟨i, _, hi, _, _, hsz, hby, hze⟩ := cP hE
  have hzl : te.zero.length = te.size := by rw [← List.length_map (f := Ty.mC), hz, E.len, hs]
  obtain ⟨z, hiz⟩ : ∃ z, i.zero = some z := by
    cases hiz : i.zero with
    | none => rw [hiz] at hze; rw [← hze] at hzl; simp at hzl; omega
    | some z => exact ⟨z, rfl⟩
  rw [hiz] at hze
  have hrun := run_make (P := P) w ty' _ i z hD hi hiz k k' n n hn (Int.le_refl _) vp hlen'
  obtain ⟨h1, h2, h3⟩ := kP wf (.cells (madeCells z.cells (n.toNat * i.size)) el0) (d + 1)
  refine ⟨_, _, by simp [execOp, ex, ey, hrun], _, h1, h2, .inr ⟨_, _, h3, rfl, Nat.le_refl _, by simp only [maxLen]; omega⟩, ?_⟩
  intro x hx
  simp only [List.mem_singleton] at hx
  subst hx
  refine Hs ⟨w.heap.size, _, h3, iA _ _, ?_⟩
  have hzs : z.cells.size = te.size := by rw [← hzl, ← hze]; simp
  refine iH (by rw [cz]; simp [madeCells, hsz, hs]) fun j ty hj => ?_
  have hjl : j < n.toNat * te.size := by
    have := (List.getElem?_eq_some_iff.1 hj).1
    rw [cz, List.length_replicate, ← hs] at this; exact this
  have hq : j / te.size < n.toNat := Nat.div_lt_of_lt_mul (by rw [Nat.mul_comm]; exact hjl)
  have hm : j % te.size < te.size := Nat.mod_lt _ hzp
  have hget := zm E (List.replicate n.toNat x0) (j / te.size) (j % te.size) (by simpa using hq) (by rw [← hs]; exact hm)
  have hdecomp : j / te.size * E.size + j % te.size = j := by rw [← hs, Nat.mul_comm]; exact Nat.div_add_mod j te.size
  rw [hdecomp, hj] at hget
  simp only [List.getElem?_replicate, hq, if_true, Option.bind_some] at hget
  rw [← hz, List.getElem?_map] at hget
  obtain ⟨u, hu, hty⟩ := Option.map_eq_some_iff.1 hget.symm
  refine ⟨u, ?_, hty ▸ m7 _ _ _⟩
  have hu' : z.cells[j % z.cells.size]? = some u := by rw [hzs]; rw [← hze] at hu; simpa using hu
  simp only [madeCells, Array.toList_map, List.getElem?_map, Array.toList_range, hsz]
  rw [List.getElem?_range hjl]
  simp only [Option.map_some]
  rw [getElem!_def, hu']
theorem eZ {x y : Operand} {tg n : Nat} {k : IntKind} {i : Int} {ti te : TI} {el : Nat} (hx : A.op fr x = .vs tg n) (hy : A.op fr y = .int k i) (hT : T.dz[ty']? = some ti) (hk : ti.k = .slice el) (hE : T.dz[el]? = some te) (h0 : 0 ≤ i) (h1 : i.toNat < n)
 (h : ay P fr ops rest (A.set d (.ptr tg (i.toNat * te.size))) fun A' l' => K A' ((A, { d := some d, ty := .ptr tg (i.toNat * te.size), rs := cA x ++ cA y }) :: l')) : ay P fr ops (⟨some d, .indexAddr ty' x y, t, p, e, none⟩ :: rest) A K :=
 bR (bl rfl rfl fun a w M _ hr _ => by
  obtain ⟨hdx, hdy⟩ := op2 hr
  rw [hx] at hdx; rw [hy] at hdy
  rcases hdx with ⟨h0, _⟩ | ⟨b, c, hb, ex, _⟩
  ·omega
  have ey : a.eval y = .int k i := hdy
  refine ⟨_, by simp only [execOp, ex, ey, Sem.run_bind, gk hT hk hE h0 h1]; rfl, b, hb, ?_⟩
  simp) h
theorem dU {x y : Operand} {tg n : Nat} {k : IntKind} {i : Nat} {ti te : TI} {el : Nat} (hx : A.op fr x = .vs tg n) (hy : A.op fr y = .int k i) (hT : T.dz[ty']? = some ti) (hk : ti.k = .slice el) (hE : T.dz[el]? = some te) (h1 : i < n)
 (h : ay P fr ops rest (A.set d (.ptr tg (i * te.size))) fun A' l' => K A' ((A, { d := some d, ty := .ptr tg (i * te.size), rs := cA x ++ cA y }) :: l')) : ay P fr ops (⟨some d, .indexAddr ty' x y, t, p, e, none⟩ :: rest) A K :=
 eZ hx hy hT hk hE (Int.natCast_nonneg _) h1 h
theorem oI {x y : Operand} {tg off n : Nat} {k : IntKind} {i : Nat} {ti te : TI} {el : Nat} (hx : A.op fr x = .ptr tg off) (hy : A.op fr y = .int k i) (hT : T.dz[ty']? = some ti) (hk : ti.k = .array n el) (hE : T.dz[el]? = some te) (h1 : i < n)
 (h : ay P fr ops rest (A.set d (.ptr tg (off + i * te.size))) fun A' l' => K A' ((A, { d := some d, ty := .ptr tg (off + i * te.size), rs := cA x ++ cA y }) :: l')) : ay P fr ops (⟨some d, .indexAddr ty' x y, t, p, e, none⟩ :: rest) A K :=
 bR (bl rfl rfl fun a w M _ hr _ => by
  obtain ⟨hdx, hdy⟩ := op2 hr
  rw [hx] at hdx; rw [hy] at hdy
  obtain ⟨b, hb, ex⟩ := hdx
  have ey : a.eval y = .int k i := hdy
  refine ⟨_, by simp only [execOp, ex, ey, Sem.run_bind, jw hT hk hE (Int.natCast_nonneg i) (show (i : Int).toNat < n from h1)]; rfl, b, hb, ?_⟩
  simp) h
theorem tH {x y : Operand} {l : List Ty} {n : Nat} {k : IntKind} {i : Nat} {ti te : TI} {el : Nat} (hx : A.op fr x = .pp l) (hy : A.op fr y = .int k i) (hT : T.dz[ty']? = some ti) (hk : ti.k = .array n el) (hE : T.dz[el]? = some te) (h1 : i < n)
 (h : ay P fr ops rest (A.set d (.pp (l.drop (i * te.size)))) fun A' l' => K A' ((A, { d := some d, ty := .pp (l.drop (i * te.size)), rs := cA x ++ cA y }) :: l')) : ay P fr ops (⟨some d, .indexAddr ty' x y, t, p, e, none⟩ :: rest) A K :=
 bR (bl rfl rfl fun a w M _ hr _ => by
  obtain ⟨hdx, hdy⟩ := op2 hr
  rw [hx] at hdx; rw [hy] at hdy
  obtain ⟨b, off, ex, hp⟩ := hdx
  have ey : a.eval y = .int k i := hdy
  refine ⟨_, by simp only [execOp, ex, ey, Sem.run_bind, jw hT hk hE (Int.natCast_nonneg i) (show (i : Int).toNat < n from h1)]; rfl, b, off + i * te.size, by simp, uF _ hp⟩) h
theorem mU {α : Type} {E : El α} {Tb : Nat} {xs : List α} {tg : Nat} (h : A.tag tg = some (.vec E Tb xs)) : ∀ w M, (∀ x ∈ A.tags, x.1 ∈ [tg] → x.2.den w M x.1) → g6 E Tb xs w M tg := fun _ _ ht => ht _ (cj h) bB
theorem nL {α : Type} {E : El α} {Tb b tg off : Nat} {xs : List α} {w : World} {M : bI} {ty : Ty} (wf : Wf w M) (h1 : fR tg) (hb : M b = some tg) (h : g6 E Tb xs w M tg) (hl : (xs.flatMap E.tys)[off]? = some ty) : ∃ v, w.cell? ⟨b, off, none⟩ = some v ∧ ty.den w M v := by
 rcases h with rfl | ⟨b', cs, hb', hh, hd⟩
 ·simp at hl
 obtain ⟨u, rfl⟩ : ∃ u, tg = u + 1 := ⟨tg - 1, by omega⟩
 have := wf.inj b b' u aE hb hb'
 subst this
 obtain ⟨v, hv, hdv⟩ := dr hd off ty hl
 rw [List.getElem?_take] at hv
 split at hv
 ·exact ⟨v, by simpa [World.cell?, hh] using hv, hdv⟩
 cases hv
theorem zl {α : Type} [Inhabited α] {E : El α} {xs : List α} {x : Operand} {tg i o Tb : Nat} {ti : TI} {ty : Ty} (hx : A.op fr x = .ptr tg (i * E.size + o)) (hc : A.tag tg = some (.vec E Tb xs)) (h1 : fR tg) (hT : T.dz[ty']? = some ti) (ha : ti.k.agg = false) (hi : i < xs.length) (hl : (E.tys (nth xs i))[o]? = some ty)
 (h : ay P fr ops rest (A.set d ty) fun A' l => K A' ((A, { d := some d, ty := ty, rs := cA x, rt := [tg] }) :: l)) : ay P fr ops (⟨some d, .load ty' x, t, p, e, none⟩ :: rest) A K :=
 bR (bl rfl rfl fun a w M wf hr ht => by
  have := cN (x := x) (fun _ h => h) hr
  rw [hx] at this
  obtain ⟨b, hb, e⟩ := this
  obtain ⟨v, hv, hd⟩ := nL wf h1 hb (mU hc w M ht) (nB E xs hi o ty hl)
  exact ⟨v, by simp [execOp, e, mX hT ha hv], hd⟩) h
theorem yE {α : Type} [Inhabited α] (E : El α) {y : α} {o : Nat} {ty : Ty} : ∀ (xs : List α) (i : Nat), i < xs.length → (E.tys (nth xs i)).set o ty = E.tys y → o < E.size → (xs.flatMap E.tys).set (i * E.size + o) ty = (xs.set i y).flatMap E.tys
  | [], i, h, _, _ => absurd h (Nat.not_lt_zero _)
  | x :: xs, 0, _, hy, ho => by
    have hy : (E.tys x).set o ty = E.tys y := hy
    rw [List.set_cons_zero, List.flatMap_cons, List.flatMap_cons, ← hy, Nat.zero_mul, Nat.zero_add, List.set_append, if_pos (by rw [E.len]; exact ho)]
  | x :: xs, i + 1, h, hy, ho => by
    have ih := yE E xs i nq hy ho
    rw [List.set_cons_succ, List.flatMap_cons, List.flatMap_cons, ← ih, List.set_append, if_neg (by rw [E.len, Nat.succ_mul]; omega), E.len]
    congr 2
    rw [Nat.succ_mul]; omega
theorem ow {α : Type} [Inhabited α] {E : El α} {xs : List α} {x y : Operand} {tg i o Tb : Nat} {ti : TI} {ty : Ty} {z : α} (hx : A.op fr x = .ptr tg (i * E.size + o)) (hc : A.tag tg = some (.vec E Tb xs)) (h1 : fR tg) (hT : T.dz[ty']? = some ti) (hsz : ti.size = 1) (hy : A.op fr y = ty) (ho : ty.one = true) (hi : i < xs.length) (hoe : o < E.size)
 (hdt : lp ty.cdeps [tg] = true) (hl : (E.tys (nth xs i)).set o ty = E.tys z)
 (h : ay P fr ops rest (A.after { d := none, S := [tg], sets := [(tg, .vec E Tb (xs.set i z))], rs := cA x ++ cA y, rt := [tg] }) fun A' l'' => K A' ((A, { d := none, S := [tg], sets := [(tg, .vec E Tb (xs.set i z))], rs := cA x ++ cA y, rt := [tg] }) :: l'')) :
 ay P fr ops (⟨none, .store ty' x y, t, p, e, none⟩ :: rest) A K := by
 refine ⟨_, lT rfl rfl rfl bB lC bB fun a w M wf hr ht => ?_, h⟩
 obtain ⟨hdx, hdy⟩ := op2 hr
 rw [hx] at hdx; rw [hy] at hdy
 obtain ⟨b, hb, ex⟩ := hdx
 rcases mU hc w M ht with rfl | ⟨b', cs, hb', hh, hd⟩
 ·exact absurd hi (Nat.not_lt_zero _)
 obtain ⟨u, rfl⟩ : ∃ u, tg = u + 1 := ⟨tg - 1, by omega⟩
 have := wf.inj b b' u aE hb hb'
 subst this
 have hone := ty.isOne ho hdy
 have hlen := cO hd
 have hoff : i * E.size + o < cs.size := by
  rw [cz, List.length_take] at hlen
  have : (i + 1) * E.size ≤ xs.length * E.size := Nat.mul_le_mul_right _ hi
  rw [Nat.succ_mul] at this
  simp at hlen; omega
 have hcells : (a.eval y).cells = #[a.eval y] := by
  cases hv : a.eval y <;> first | rfl | (rw [hv] at hone; simp [Value.oneCell'] at hone)
 have hcell : w.cell? ⟨b, i * E.size + o, none⟩ = some cs[i * E.size + o] := by simp [World.cell?, hh]
 have hfz : w.frozen? ⟨b, i * E.size + o, none⟩ = false := by simp [World.frozen?, hh]
 obtain ⟨h1', h2', h3'⟩ := iW wf hb _ (lO hh (off := i * E.size + o) (a.eval y))
 refine ⟨w.setCell ⟨b, i * E.size + o, none⟩ (a.eval y), ?_, M, h1', h2', trivial, ?_⟩
 ·have hst := run_store P w ⟨b, i * E.size + o, none⟩ (a.eval y) .plain hone
  rw [hcell] at hst
  simp only [hfz] at hst
  simp [execOp, Instr.storeAt, Instr.sureAddr, ex, storeVar, hcells, cq hT, hsz, storeCells, hst, Addr.add]
 intro z' hz'
 simp only [List.mem_singleton] at hz'
 subst hz'
 refine .inr ⟨b, _, hb, h3', ?_⟩
 rw [Array.toList_setIfInBounds, ← yE E xs i hi hl hoe, List.length_set, List.take_set]
 exact nw (b7 h2' j4 jm hd) (ty.mono h2' j4 (gK hdt) hdy)
end
end Go.T
namespace Go.T
open Go Go.RowKit
section
variable {P : Program} {fr : Fr} {ops : Array Oper} {A : As} {rest : List Oper} {K : As → List (As × Fx) → Prop} {d : Nat} {t ty' : TypeId} {p : String} {e : Array Edge} [T : lq P]
variable {α : Type} [Inhabited α] {E : El α} {xs : List α} {x y : Operand} {tg i o s Tb : Nat} {ti : TI} {ty : Ty} {z : α}
theorem w6 (hx : A.op fr x = .ptr tg (i * s)) (hc : A.tag tg = some (.vec E Tb xs)) (hs : s = E.size) (h1 : fR tg) (hT : T.dz[ty']? = some ti) (ha : ti.k.agg = false) (hi : i < xs.length) (hl : (E.tys (nth xs i))[0]? = some ty)
 (h : ay P fr ops rest (A.set d ty) fun A' l => K A' ((A, { d := some d, ty := ty, rs := cA x, rt := [tg] }) :: l)) : ay P fr ops (⟨some d, .load ty' x, t, p, e, none⟩ :: rest) A K :=
 zl (o := 0) (by rw [hx, hs, Nat.add_zero]) hc h1 hT ha hi hl h
theorem ED (hx : A.op fr x = .ptr tg (i * s + o)) (hc : A.tag tg = some (.vec E Tb xs)) (hs : s = E.size) (h1 : fR tg) (hT : T.dz[ty']? = some ti) (ha : ti.k.agg = false) (hi : i < xs.length) (hl : (E.tys (nth xs i))[o]? = some ty)
 (h : ay P fr ops rest (A.set d ty) fun A' l => K A' ((A, { d := some d, ty := ty, rs := cA x, rt := [tg] }) :: l)) : ay P fr ops (⟨some d, .load ty' x, t, p, e, none⟩ :: rest) A K :=
 zl (by rw [hx, hs]) hc h1 hT ha hi hl h
theorem iV (hx : A.op fr x = .ptr tg (i * s)) (hc : A.tag tg = some (.vec E Tb xs)) (hs : s = E.size) (h1 : fR tg) (hT : T.dz[ty']? = some ti) (hsz : ti.size = 1) (hy : A.op fr y = ty) (ho : ty.one = true) (hi : i < xs.length) (hoe : 0 < E.size) (hdt : lp ty.cdeps [tg] = true) (hl : (E.tys (nth xs i)).set 0 ty = E.tys z)
 (h : ay P fr ops rest (A.after { d := none, S := [tg], sets := [(tg, .vec E Tb (xs.set i z))], rs := cA x ++ cA y, rt := [tg] }) fun A' l'' => K A' ((A, { d := none, S := [tg], sets := [(tg, .vec E Tb (xs.set i z))], rs := cA x ++ cA y, rt := [tg] }) :: l'')) :
 ay P fr ops (⟨none, .store ty' x y, t, p, e, none⟩ :: rest) A K :=
 ow (o := 0) (by rw [hx, hs, Nat.add_zero]) hc h1 hT hsz hy ho hi hoe hdt hl h
theorem kU (hx : A.op fr x = .ptr tg (i * s + o)) (hc : A.tag tg = some (.vec E Tb xs)) (hs : s = E.size) (h1 : fR tg) (hT : T.dz[ty']? = some ti) (hsz : ti.size = 1) (hy : A.op fr y = ty) (ho : ty.one = true) (hi : i < xs.length) (hoe : o < E.size) (hdt : lp ty.cdeps [tg] = true) (hl : (E.tys (nth xs i)).set o ty = E.tys z)
 (h : ay P fr ops rest (A.after { d := none, S := [tg], sets := [(tg, .vec E Tb (xs.set i z))], rs := cA x ++ cA y, rt := [tg] }) fun A' l'' => K A' ((A, { d := none, S := [tg], sets := [(tg, .vec E Tb (xs.set i z))], rs := cA x ++ cA y, rt := [tg] }) :: l'')) :
 ay P fr ops (⟨none, .store ty' x y, t, p, e, none⟩ :: rest) A K :=
 ow (by rw [hx, hs]) hc h1 hT hsz hy ho hi hoe hdt hl h
end
def Rz (l : List Ty) : Prop := cR l = [] ∧ cB l = [] ∧ l.all Ty.one = true
def El.mk' {α : Type} (n : Nat) (f : α → List Ty) (h : ∀ x, (f x).length = n) (h' : ∀ x, Rz (f x)) : El α := ⟨n, f, h, fun x => (h' x).1, fun x => (h' x).2.1, fun x => (h' x).2.2⟩
end Go.T
namespace Go.T
open Go Go.RowKit
section
variable {P : Program} {fr : Fr} {ops : Array Oper} {A : As} {rest : List Oper} {K : As → List (As × Fx) → Prop} {d : Nat} {t ty' : TypeId} {p : String} {e : Array Edge} {x y z : Operand} {k : IntKind} {n : Int} {b : Bool} {l : List Ty}
theorem aH {o : Oper} {f : Fx} (h : ay P fr ops [o] A fun _ l => l = [(A, f)]) : uU P fr ops o A f := by
 obtain ⟨g, hg, hK⟩ := h
 have hK : [(A, g)] = [(A, f)] := hK
 simp only [List.cons.injEq, Prod.mk.injEq, and_true, true_and] at hK
 exact hK ▸ hg
theorem bV {o : Oper} {f : Fx} {s : Nat} {g : Bool} {ty : Ty} (hs : A.slots s = .gd g ty) (hg : g = true) (h : uU P fr ops o (A.set s ty) f) : uU P fr ops o A f := by
  obtain ⟨h1, h2, h3, h4, h5⟩ := h
  refine ⟨h1, h2, h3, h4, fun a w M wf hsz hr ht => h5 a w M wf hsz (fun c hc hcn => ?_) ht⟩
  have := hr c hc hcn
  simp only [As.set]
  cases hb : Nat.beq c s with
  | false => exact this
  | true =>
    have e : c = s := Nat.eq_of_beq_eq_true hb
    subst e
    rw [hs] at this
    exact this.1 hg
def oV (ops : Array Oper) (j : Nat) : Option Nat := (ops[j]?).bind (·.dst)
theorem kZ {a : Act} {j s : Nat} {c : Bool} (hs : oV ops j = some s) (hn : s < a.tmps.size) (hv : a.tmps.getD s undef = .bool c) : yielded ops a.tmps j = some c := by
 unfold yielded
 unfold oV at hs
 rw [hs]
 have : a.tmps[s]? = some (.bool c) := by
  rw [Array.getElem?_eq_getElem hn]
  rw [Array.getD_eq_getD_getElem?, Array.getElem?_eq_getElem hn] at hv
  simpa using hv
 simp [this]
theorem s9 {a : Act} {j s : Nat} (hs : oV ops j = some s) (hn : s < a.tmps.size) (hv : a.tmps.getD s undef = undef) : yielded ops a.tmps j = none := by
 unfold yielded
 unfold oV at hs
 rw [hs]
 have : a.tmps[s]? = some undef := by
  rw [Array.getElem?_eq_getElem hn]
  rw [Array.getD_eq_getD_getElem?, Array.getElem?_eq_getElem hn] at hv
  simpa using hv
 simp [this, undef]
def iz (d s : Nat) (g : Bool) (f : Fx) : Fx := { d := some d, ty := .gd g f.ty, rs := s :: f.rs, rt := f.rt }
theorem Ab {op : Op} {j s : Nat} {want g : Bool} {gt : Ty} {f : Fx} (hs : oV ops j = some s) (hn : Nat.blt s fr.n = true) (hgt : A.slots s = gt)
    (hg : ∀ w M v, gt.den w M v → (g = true → v = .bool want) ∧ (g = false → v = .bool (!want) ∨ v = undef))
    (h1 : g = true → uU P fr ops ⟨some d, op, t, p, e, none⟩ A f) (hS : f.S = []) (hK : f.K = []) :
    uU P fr ops ⟨some d, op, t, p, e, some (j, want)⟩ A (iz d s g f) := by
  refine ⟨rfl, by simp [iz], by simp [iz], by simp [iz], fun a w M wf hsz hr ht => ?_⟩
  have hn' : s < fr.n := by simpa using hn
  have hv := hr s (by simp [iz]) hn'
  rw [hgt] at hv
  obtain ⟨hv1, hv2⟩ := hg _ _ _ hv
  cases g with
  | true =>
    have hy := kZ (ops := ops) hs (by rw [hsz]; exact hn') (hv1 rfl)
    rw [if_pos (by simp [Region.wanted, hy])]
    obtain ⟨hd, _, _, _, h5⟩ := h1 rfl
    have h6 := h5 a w M wf hsz (fun c hc hcn => hr c (by simp [iz, hc]) hcn) (fun x hx hxr => ht x hx hxr)
    rw [if_pos kY] at h6
    refine Oper.pX (o := ⟨some d, op, t, p, e, some (j, want)⟩) (K := fun a' w' => ∃ v, a' = a.put (some d) v ∧ f.left w M w' v) ?_ h6
    rintro a' w' ⟨v, ha, M', wf', le, hty, _⟩
    rw [hS, hK] at le
    exact ⟨v, ha, M', wf', le, ⟨fun _ => hty, fun h => tK⟩, by simp [iz]⟩
  | false =>
    have hy : yielded ops a.tmps j ≠ some want := by
      rcases hv2 rfl with hv | hv
      · rw [kZ (ops := ops) hs (by rw [hsz]; exact hn') hv]; cases want <;> simp
      · rw [s9 (ops := ops) hs (by rw [hsz]; exact hn') hv]; simp
    rw [if_neg (by simpa [Region.wanted] using hy)]
    exact ⟨M, wf, Le.refl _ _ _ _, ⟨fun h => tK, fun _ => rfl⟩, by simp [iz]⟩
theorem NJ {op : Op} {j s : Nat} {want c : Bool} {f : Fx} (hs : oV ops j = some s) (hn : Nat.blt s fr.n = true) (hc : A.slots s = .bool c) (h1 : c = want → uU P fr ops ⟨some d, op, t, p, e, none⟩ A f) (hS : f.S = []) (hK : f.K = [])
 (h : ay P fr ops rest (A.set d (.gd (c == want) f.ty)) fun A' l' => K A' ((A, iz d s (c == want) f) :: l')) : ay P fr ops (⟨some d, op, t, p, e, some (j, want)⟩ :: rest) A K :=
 ⟨iz d s (c == want) f, Ab hs hn hc (fun w M v hv => by
  have hv : v = .bool c := hv
  subst hv
  cases c <;> cases want <;> simp) (fun hg => h1 (by simpa using hg)) hS hK, h⟩
theorem MU {op : Op} {j s : Nat} {want g c : Bool} {f : Fx} (hs : oV ops j = some s) (hn : Nat.blt s fr.n = true) (hc : A.slots s = .gd g (.bool c)) (h1 : g = true → c = want → uU P fr ops ⟨some d, op, t, p, e, none⟩ A f) (hS : f.S = []) (hK : f.K = [])
    (h : ay P fr ops rest (A.set d (.gd (g && (c == want)) f.ty)) fun A' l' => K A' ((A, iz d s (g && (c == want)) f) :: l')) : ay P fr ops (⟨some d, op, t, p, e, some (j, want)⟩ :: rest) A K :=
  ⟨iz d s (g && (c == want)) f, Ab hs hn hc (fun w M v hv => by
    cases g with
    | true =>
      have hv : v = .bool c := hv.1 rfl
      subst hv
      cases c <;> cases want <;> simp
    | false => exact ⟨fun h => tK, fun _ => .inr (hv.2 rfl)⟩) (fun hg => by simp only [Bool.and_eq_true, beq_iff_eq] at hg; exact h1 hg.1 hg.2) hS hK, h⟩
theorem dA {c : Operand} {b1 b2 : Bool} (hc : A.op fr c = .bool b1) (hy : A.op fr y = .gd (b1 == true) (.bool b2))
    (h : ay P fr ops rest (A.set d (.bool (b1 && b2))) fun A' l' => K A' ((A, { d := some d, ty := .bool (b1 && b2), rs := cA c ++ cA y }) :: l')) : ay P fr ops (⟨some d, .pick c y (.const (.bool false)), t, p, e, none⟩ :: rest) A K :=
  bR (bl rfl rfl fun a w M _ hrd _ => by
    obtain ⟨hdc, hdy⟩ := op2 hrd
    rw [hc] at hdc; rw [hy] at hdy
    have ec : a.eval c = .bool b1 := hdc
    cases b1 with
    | true =>
      have ey : a.eval y = .bool b2 := hdy.1 rfl
      exact ⟨.bool b2, by simp only [execOp, ec, ey]; simp [asBool], rfl⟩
    | false => exact ⟨.bool false, by simp only [execOp, ec]; simp [asBool, Act.eval], rfl⟩) h
theorem eJ {c : Operand} {b1 b2 : Bool} (hc : A.op fr c = .bool b1) (hy : A.op fr y = .gd (b1 == false) (.bool b2))
    (h : ay P fr ops rest (A.set d (.bool (b1 || b2))) fun A' l' => K A' ((A, { d := some d, ty := .bool (b1 || b2), rs := cA c ++ cA y }) :: l')) : ay P fr ops (⟨some d, .pick c (.const (.bool true)) y, t, p, e, none⟩ :: rest) A K :=
  bR (bl rfl rfl fun a w M _ hrd _ => by
    obtain ⟨hdc, hdy⟩ := op2 hrd
    rw [hc] at hdc; rw [hy] at hdy
    have ec : a.eval c = .bool b1 := hdc
    cases b1 with
    | false =>
      have ey : a.eval y = .bool b2 := hdy.1 rfl
      exact ⟨.bool b2, by simp only [execOp, ec, ey]; simp [asBool], rfl⟩
    | true => exact ⟨.bool true, by simp only [execOp, ec]; simp [asBool, Act.eval], rfl⟩) h
theorem bA (hx : A.op fr x = .int k n) (h : ay P fr ops rest (A.set d (.int k n)) fun A' l => K A' ((A, { d := some d, ty := .int k n, rs := cA x }) :: l)) : ay P fr ops (⟨some d, .move x, t, p, e, none⟩ :: rest) A K := iQ hx h
theorem bS (hx : A.op fr x = .int k n) (h : ay P fr ops rest (A.set d (.int k n)) fun A' l => K A' ((A, { d := some d, ty := .int k n, rs := cA x }) :: l)) : ay P fr ops (⟨some d, .assign x, t, p, e, none⟩ :: rest) A K := gu hx h
theorem dm (hx : A.op fr x = .bool b) (h : ay P fr ops rest (A.set d (.bool b)) fun A' l => K A' ((A, { d := some d, ty := .bool b, rs := cA x }) :: l)) : ay P fr ops (⟨some d, .move x, t, p, e, none⟩ :: rest) A K := iQ hx h
theorem dN (hx : A.op fr x = .bool b) (h : ay P fr ops rest (A.set d (.bool b)) fun A' l => K A' ((A, { d := some d, ty := .bool b, rs := cA x }) :: l)) : ay P fr ops (⟨some d, .assign x, t, p, e, none⟩ :: rest) A K := gu hx h
theorem cM {α : Type} {E : El α} {xs : List α} (hx : A.op fr x = .sl E xs) (h : ay P fr ops rest (A.set d (.sl E xs)) fun A' l => K A' ((A, { d := some d, ty := .sl E xs, rs := cA x }) :: l)) : ay P fr ops (⟨some d, .move x, t, p, e, none⟩ :: rest) A K := iQ hx h
theorem iX {α : Type} {E : El α} {xs : List α} (hx : A.op fr x = .sl E xs) (h : ay P fr ops rest (A.set d (.sl E xs)) fun A' l => K A' ((A, { d := some d, ty := .sl E xs, rs := cA x }) :: l)) : ay P fr ops (⟨some d, .assign x, t, p, e, none⟩ :: rest) A K := gu hx h
theorem iy {α : Type} {E : El α} {T tg : Nat} {xs : List α} (hx : A.op fr x = .row E T tg xs) (h : ay P fr ops rest (A.set d (.row E T tg xs)) fun A' l => K A' ((A, { d := some d, ty := .row E T tg xs, rs := cA x }) :: l)) : ay P fr ops (⟨some d, .move x, t, p, e, none⟩ :: rest) A K := iQ hx h
theorem iY {α : Type} {E : El α} {T tg : Nat} {xs : List α} (hx : A.op fr x = .row E T tg xs) (h : ay P fr ops rest (A.set d (.row E T tg xs)) fun A' l => K A' ((A, { d := some d, ty := .row E T tg xs, rs := cA x }) :: l)) : ay P fr ops (⟨some d, .assign x, t, p, e, none⟩ :: rest) A K := gu hx h
theorem vZ {tg m : Nat} (hx : A.op fr x = .vs tg m) (h : ay P fr ops rest (A.set d (.vs tg m)) fun A' l => K A' ((A, { d := some d, ty := .vs tg m, rs := cA x }) :: l)) : ay P fr ops (⟨some d, .move x, t, p, e, none⟩ :: rest) A K := iQ hx h
theorem Pe {tg m : Nat} (hx : A.op fr x = .vs tg m) (h : ay P fr ops rest (A.set d (.vs tg m)) fun A' l => K A' ((A, { d := some d, ty := .vs tg m, rs := cA x }) :: l)) : ay P fr ops (⟨some d, .assign x, t, p, e, none⟩ :: rest) A K := gu hx h
theorem Kb {v : Value} (hx : A.op fr x = .ex v) (h : ay P fr ops rest (A.set d (.ex v)) fun A' l => K A' ((A, { d := some d, ty := .ex v, rs := cA x }) :: l)) : ay P fr ops (⟨some d, .move x, t, p, e, none⟩ :: rest) A K := iQ hx h
theorem fm {v : Value} (hx : A.op fr x = .ex v) (h : ay P fr ops rest (A.set d (.ex v)) fun A' l => K A' ((A, { d := some d, ty := .ex v, rs := cA x }) :: l)) : ay P fr ops (⟨some d, .assign x, t, p, e, none⟩ :: rest) A K := gu hx h
theorem Rq {tg o : Nat} (hx : A.op fr x = .ptr tg o) (h : ay P fr ops rest (A.set d (.ptr tg o)) fun A' l' => K A' ((A, { d := some d, ty := .ptr tg o, rs := cA x }) :: l')) : ay P fr ops (⟨some d, .move x, t, p, e, none⟩ :: rest) A K := iQ hx h
theorem Rl {tg o : Nat} (hx : A.op fr x = .ptr tg o) (h : ay P fr ops rest (A.set d (.ptr tg o)) fun A' l' => K A' ((A, { d := some d, ty := .ptr tg o, rs := cA x }) :: l')) : ay P fr ops (⟨some d, .assign x, t, p, e, none⟩ :: rest) A K := gu hx h
theorem ke (hx : A.op fr x = .iF l) (h : ay P fr ops rest (A.set d (.iF l)) fun A' l' => K A' ((A, { d := some d, ty := .iF l, rs := cA x }) :: l')) : ay P fr ops (⟨some d, .move x, t, p, e, none⟩ :: rest) A K := iQ hx h
theorem RV {f : Nat} (hx : A.op fr x = .so f l) (h : ay P fr ops rest (A.set d (.so f l)) fun A' l' => K A' ((A, { d := some d, ty := .so f l, rs := cA x }) :: l')) : ay P fr ops (⟨some d, .assign x, t, p, e, none⟩ :: rest) A K := gu hx h
end
end Go.T
namespace Go.T
open Go Go.RowKit
theorem kD {t : Ty} {l : List Ty} (h : t.deps = []) (h' : cR l = []) : cR (t :: l) = [] := by simp only [cR, List.flatMap_cons, h, List.nil_append] at h' ⊢; exact h'
theorem jR {t : Ty} {l : List Ty} (h : t.cdeps = []) (h' : cB l = []) : cB (t :: l) = [] := by simp only [cB, List.flatMap_cons, h, List.nil_append] at h' ⊢; exact h'
def QX (P : Program) (t : Nat) (l1 l2 : List Ty) (c : Bool) : Prop :=
  P.eqGuardType P.depth t = false ∧ ∀ w M (cs ds : Array Value), cS w M l1 cs.toList → cS w M l2 ds.toList → (Op.equal t (.agg cs) (.agg ds)).run P w = .ok c w
section
variable {P : Program} {fr : Fr} {ops : Array Oper} {A : As} {rest : List Oper} {K : As → List (As × Fx) → Prop} {d : Nat} {t ty' ty2 : TypeId} {p : String} {e : Array Edge} {x y : Operand}
theorem Ng {l1 l2 : List Ty} {c : Bool} (hE : QX P ty' l1 l2 c) (hx : A.op fr x = .agg l1) (hy : A.op fr y = .agg l2)
 (h : ay P fr ops rest (A.set d (.bool c)) fun A' l' => K A' ((A, { d := some d, ty := .bool c, rs := cA x ++ cA y }) :: l')) : ay P fr ops (⟨some d, .binOp .eql ty' x y ty2, t, p, e, none⟩ :: rest) A K :=
 bR (bl rfl rfl fun a w M _ hrd _ => by
  obtain ⟨hdx, hdy⟩ := op2 hrd
  rw [hx] at hdx; rw [hy] at hdy
  obtain ⟨cs, ex, h1⟩ := hdx
  obtain ⟨ds, ey, h2⟩ := hdy
  exact ⟨.bool c, by simp only [execOp, ex, ey]; simp [eqGuard, hE.1, binOp, hE.2 w M cs ds h1 h2], rfl⟩) h
theorem ug {l1 l2 : List Ty} {c : Bool} (hE : QX P ty' l1 l2 c) (hx : A.op fr x = .agg l1) (hy : A.op fr y = .agg l2)
 (h : ay P fr ops rest (A.set d (.bool (!c))) fun A' l' => K A' ((A, { d := some d, ty := .bool (!c), rs := cA x ++ cA y }) :: l')) : ay P fr ops (⟨some d, .binOp .neq ty' x y ty2, t, p, e, none⟩ :: rest) A K :=
 bR (bl rfl rfl fun a w M _ hrd _ => by
  obtain ⟨hdx, hdy⟩ := op2 hrd
  rw [hx] at hdx; rw [hy] at hdy
  obtain ⟨cs, ex, h1⟩ := hdx
  obtain ⟨ds, ey, h2⟩ := hdy
  exact ⟨.bool (!c), by simp only [execOp, ex, ey]; simp [eqGuard, hE.1, binOp, hE.2 w M cs ds h1 h2], rfl⟩) h
theorem Jv {ts : Array TypeId} {k : IntKind} {a b : Int} (hx : A.op fr x = .int k a) (hy : A.op fr y = .int k b)
 (h : ay P fr ops rest (A.set d (.int k (min a b))) fun A' l' => K A' ((A, { d := some d, ty := .int k (min a b), rs := cA x ++ cA y }) :: l')) : ay P fr ops (⟨some d, .call ⟨.builtin .min, #[x, y], ts⟩, t, p, e, none⟩ :: rest) A K :=
 bR (bl rfl rfl fun ac w M _ hrd _ => by
  obtain ⟨hdx, hdy⟩ := op2 hrd
  rw [hx] at hdx; rw [hy] at hdy
  have ex : ac.eval x = .int k a := hdx
  have ey : ac.eval y = .int k b := hdy
  refine ⟨.int k (min a b), ?_, rfl⟩
  simp [execOp, resolve, invoke, builtin, ex, ey, Builtin.min_, Builtin.min2]
  omega) h
variable [T : lq P]
theorem gL {α : Type} {E : El α} {Te tg : Nat} {xs : List α} {ti : TI} {el : Nat} (hx : A.op fr x = .row E Te tg xs) (hT : T.dz[ty']? = some ti) (hk : ti.k = .slice el)
 (h : ay P fr ops rest (A.set d (.int .i64 xs.length)) fun A' l' => K A' ((A, { d := some d, ty := .int .i64 xs.length, rs := cA x }) :: l')) :
 ay P fr ops (⟨some d, .call ⟨.builtin .len, #[x], #[ty']⟩, t, p, e, none⟩ :: rest) A K :=
 bR (bl rfl rfl fun a w M _ hrd _ => by
  have hdx := cN (x := x) (fun _ h => h) hrd
  rw [hx] at hdx
  obtain ⟨cs, hown, _⟩ := hdx
  obtain ⟨_, D, _, hD, hkd, _⟩ := cP hT
  rw [hk] at hkd
  cases D <;> simp only [TK.of, reduceCtorEq, TK.slice.injEq] at hkd
  rcases hown.2 with ⟨ex, h0⟩ | ⟨g, cap, cur, ex, _⟩
  ·exact ⟨.int .i64 xs.length, by simp [execOp, resolve, invoke, builtin, ex, Builtin.len_, run_underlying hD, goInt, h0], rfl⟩
  exact ⟨.int .i64 xs.length, by simp [execOp, resolve, invoke, builtin, ex, Builtin.len_, run_underlying hD, goInt], rfl⟩) h
theorem yj {tg n : Nat} {ti : TI} {el : Nat} (hx : A.op fr x = .vs tg n) (hT : T.dz[ty']? = some ti) (hk : ti.k = .slice el)
 (h : ay P fr ops rest (A.set d (.int .i64 n)) fun A' l' => K A' ((A, { d := some d, ty := .int .i64 n, rs := cA x }) :: l')) :
 ay P fr ops (⟨some d, .call ⟨.builtin .len, #[x], #[ty']⟩, t, p, e, none⟩ :: rest) A K :=
 bR (bl rfl rfl fun a w M _ hrd _ => by
  have hdx := cN (x := x) (fun _ h => h) hrd
  rw [hx] at hdx
  obtain ⟨_, D, _, hD, hkd, _⟩ := cP hT
  rw [hk] at hkd
  cases D <;> simp only [TK.of, reduceCtorEq, TK.slice.injEq] at hkd
  rcases hdx with ⟨h0, ex⟩ | ⟨b, c, _, ex, _⟩
  ·exact ⟨.int .i64 n, by simp [execOp, resolve, invoke, builtin, ex, Builtin.len_, run_underlying hD, goInt, h0], rfl⟩
  exact ⟨.int .i64 n, by simp [execOp, resolve, invoke, builtin, ex, Builtin.len_, run_underlying hD, goInt], rfl⟩) h
theorem sN {ti : TI} {el : Nat} (hx : A.op fr x = .ex (.slice none 0 0)) (hT : T.dz[ty']? = some ti) (hk : ti.k = .slice el)
 (h : ay P fr ops rest (A.set d (.int .i64 0)) fun A' l' => K A' ((A, { d := some d, ty := .int .i64 0, rs := cA x }) :: l')) :
 ay P fr ops (⟨some d, .call ⟨.builtin .len, #[x], #[ty']⟩, t, p, e, none⟩ :: rest) A K :=
 bR (bl rfl rfl fun a w M _ hrd _ => by
  have hdx := cN (x := x) (fun _ h => h) hrd
  rw [hx] at hdx
  have ex : a.eval x = .slice none 0 0 := hdx
  obtain ⟨_, D, _, hD, hkd, _⟩ := cP hT
  rw [hk] at hkd
  cases D <;> simp only [TK.of, reduceCtorEq, TK.slice.injEq] at hkd
  exact ⟨.int .i64 0, by simp [execOp, resolve, invoke, builtin, ex, Builtin.len_, run_underlying hD, goInt], rfl⟩) h
theorem I2 {α : Type} [Inhabited α] {E : El α} {Te tg : Nat} {xs : List α} {w : World} {M : bI} {v : Value} (h : g7 E Te tg xs w M v) {i : Nat} (hi : i < xs.length) :
 ∃ g cap, v = .slice (some ⟨g, 0, none⟩) xs.length cap ∧ M g = some tg ∧ ∀ (j : Nat) (t : Ty), (E.tys (nth xs i))[j]? = some t → ∃ u, w.cell? ⟨g, i * E.size + j, none⟩ = some u ∧ t.den w M u := by
 obtain ⟨cs, hown, hd, hM⟩ := h
 rcases hown.2 with ⟨_, h0⟩ | ⟨g, cap, cur, ex, _, hh, _, _, _, htk⟩
 ·omega
 refine ⟨g, cap, ex, hM g r6, fun j t hj => ?_⟩
 obtain ⟨u, hu, hdu⟩ := dr hd _ t (nB E xs hi j t hj)
 refine ⟨u, ?_, hdu⟩
 rw [← htk, List.getElem?_take] at hu
 split at hu
 ·simpa [World.cell?, hh] using hu
 cases hu
end
end Go.T
namespace Go.T
open Go Go.RowKit
section
variable {P : Program} {A : As} {fn : Func} {n : Nat} {w0 : World} {M0 : bI} [T : lq P]
theorem sH {tm ty tg Tb : Nat} {l : List Ty} {ti : TI} {res : Ty} (hr : fn.results = #[.cell tm ty]) (ht : Nat.blt tm n = true) (hx : A.slots tm = .ptr tg 0) (hc : A.tag tg = some (.cells Tb l)) (h1 : fR tg) (hT : T.dz[ty]? = some ti) (ha : ti.k.agg = true) (hl : l.length = ti.size) (hs : fJ (.agg l) res) :
 dG ⟨n, w0, M0, [], .plain⟩ A (bodyPost P fn (kX w0 M0 res) .ret) := by
 intro a w ⟨M, ok, hsl, htg⟩
 have hd := hsl tm rz
 rw [hx] at hd
 obtain ⟨b, hb, e⟩ := hd
 obtain ⟨b', cs, hb', hh, hds⟩ := htg _ (cj hc)
 obtain ⟨u, rfl⟩ : ∃ u, tg = u + 1 := ⟨tg - 1, by omega⟩
 have := ok.wf.inj b b' u aE hb hb'
 subst this
 have hlen := cO hds
 have hload := iB (P := P) hT ha (w := w) (b := b) (off := 0) (cs := cs.toList) ve (fun j v hj => by simpa [World.cell?, hh] using hj)
 have hload' : (loadVar ty ⟨b, 0, none⟩).run P w = .ok (.agg cs) w := by simpa [Instr.loadAt, Instr.sureAddr] using hload
 refine ⟨ok.eH bB, .agg cs, ?_, _, pg M, rfl, oT ok.wf, lR (fr := ⟨n, w0, M0, [], .plain⟩) (fun _ h => h) ok.base, hs _ _ _ ok.wf ⟨cs, rfl, hds⟩⟩
 have e' : a.tmps.getD tm undef = .pointer (some ⟨b, 0, none⟩) := e
 have e'' : a.tmps[tm]?.getD undef = .pointer (some ⟨b, 0, none⟩) := by rw [← Array.getD_eq_getD_getElem?]; exact e'
 simp [results, hr, e'', asAddr, hload']
end
end Go.T
namespace Go.T
open Go Go.RowKit
def Ii : List Ty → List Ty → Prop
  | [], [] => True
  | s :: ss, t :: ts => s.Sub t ∧ Ii ss ts
  | _, _ => False
theorem eC : Ii [] [] := trivial
theorem dD {s t : Ty} {ss ts : List Ty} (h' : Ii ss ts) (h : s.Sub t) : Ii (s :: ss) (t :: ts) := ⟨h, h'⟩
theorem AS {w : World} {M : bI} : ∀ {ss ts : List Ty} {vs : List Value}, Ii ss ts → cS w M ss vs → cS w M ts vs
  | [], [], [], _, _ => trivial
  | _ :: _, _ :: _, _ :: _, ⟨h, h'⟩, ⟨h1, h2⟩ => ⟨h _ _ _ h1, AS h' h2⟩
theorem Cont.eD {T : Nat} {l l' : List Ty} (h : Ii l l') : (Cont.cells T l).Sub (Cont.cells T l') := fun _ _ _ ⟨b, cs, h1, h2, h3⟩ => ⟨b, cs, h1, h2, AS h h3⟩
def r8 (tg : Nat) (l : List Ty) (w : World) (M : bI) (v : Value) : Prop :=
  ∃ b off, v = .pointer (some ⟨b, off, none⟩) ∧ M b = some tg ∧ ∀ (i : Nat) (t : Ty), l[i]? = some t → ∃ u, w.cell? ⟨b, off + i, none⟩ = some u ∧ t.den w M u
def Ty.op (tg : Nat) (l : List Ty) : Ty :=
  ⟨r8 tg l, tg :: cR l, tg :: cB l, fun le hk hs ⟨b, off, e, hb, h⟩ => by
    obtain ⟨h4, h5⟩ := le.own b tg hb (hk tg List.mem_cons_self)
    refine ⟨b, off, e, h4, fun i t hi => ?_⟩
    obtain ⟨v, hc, hd⟩ := h i t hi
    refine ⟨v, ?_, t.mono le (fun u hu => hk u ?_) (fun u hu => hs u ?_) hd⟩
    · rw [← hc]; exact World.cell?_of_block (h5 (hs tg List.mem_cons_self))
    · exact List.mem_cons_of_mem _ (List.mem_flatMap.2 ⟨t, List.mem_of_getElem? hi, hu⟩)
    · exact List.mem_cons_of_mem _ (List.mem_flatMap.2 ⟨t, List.mem_of_getElem? hi, hu⟩), true, fun _ ⟨_, _, e, _⟩ => e ▸ rfl⟩
theorem Et {w : World} {M : bI} {b off : Nat} {l : List Ty} (h : ∀ (i : Nat) (t : Ty), l[i]? = some t → ∃ u, w.cell? ⟨b, off + i, none⟩ = some u ∧ t.den w M u) : ∀ n, n ≤ l.length → ∃ cs : List Value, cs.length = n ∧ cS w M (l.take n) cs ∧ ∀ j v, cs[j]? = some v → w.cell? ⟨b, off + j, none⟩ = some v := by
  intro n
  induction n with
  | zero => exact fun _ => ⟨[], rfl, trivial, fun j v h => by simp at h⟩
  | succ n ih =>
    intro hn
    obtain ⟨cs, h1, h2, h3⟩ := ih aE
    obtain ⟨v, hv, hd⟩ := h n l[n] (List.getElem?_eq_getElem aE)
    refine ⟨cs ++ [v], by simp [h1], ?_, fun j u hj => ?_⟩
    · rw [List.take_succ_eq_append_getElem aE]
      exact lZ h2 ⟨hd, trivial⟩
    · rcases Nat.lt_or_ge j cs.length with hj' | hj'
      · rw [List.getElem?_append_left hj'] at hj; exact h3 j u hj
      · rw [List.getElem?_append_right hj'] at hj
        have : j = n := by
          rcases Nat.lt_or_ge (j - cs.length) 1 with h | h
          · omega
          · rw [List.getElem?_eq_none nq] at hj; cases hj
        subst this
        rw [h1, Nat.sub_self] at hj
        simp at hj; subst hj; exact hv
section
variable {P : Program} {fr : Fr} {ops : Array Oper} {A : As} {rest : List Oper} {K : As → List (As × Fx) → Prop} {d : Nat} {t ty' : TypeId} {p : String} {e : Array Edge} [T : lq P]
theorem hU {x : Operand} {tg : Nat} {l : List Ty} {ti : TI} {ty : Ty} (hx : A.op fr x = .op tg l) (hT : T.dz[ty']? = some ti) (ha : ti.k.agg = false) (hl : l[0]? = some ty)
 (h : ay P fr ops rest (A.set d ty) fun A' l => K A' ((A, { d := some d, ty := ty, rs := cA x }) :: l)) : ay P fr ops (⟨some d, .load ty' x, t, p, e, none⟩ :: rest) A K :=
 bR (bl rfl rfl fun a w M _ hr _ => by
  have := cN (x := x) (fun _ h => h) hr
  rw [hx] at this
  obtain ⟨b, off, e, _, hp⟩ := this
  obtain ⟨v, hv, hd⟩ := hp 0 ty hl
  have hv' : w.cell? ⟨b, off, none⟩ = some v := hv
  exact ⟨v, by simp [execOp, e, mX hT ha hv'], hd⟩) h
theorem tq {x : Operand} {tg : Nat} {l : List Ty} {ti : TI} (hx : A.op fr x = .op tg l) (hT : T.dz[ty']? = some ti) (ha : ti.k.agg = true) (hl : ti.size ≤ l.length)
 (h : ay P fr ops rest (A.set d (.agg (l.take ti.size))) fun A' l' => K A' ((A, { d := some d, ty := .agg (l.take ti.size), rs := cA x }) :: l')) : ay P fr ops (⟨some d, .load ty' x, t, p, e, none⟩ :: rest) A K :=
 bR (bl rfl rfl fun a w M _ hr _ => by
  have := cN (x := x) (fun _ h => h) hr
  rw [hx] at this
  obtain ⟨b, off, e, _, hp⟩ := this
  obtain ⟨cs, h1, h2, h3⟩ := Et hp _ hl
  exact ⟨.agg cs.toArray, by simp [execOp, e, iB hT ha h1 h3], cs.toArray, rfl, by simpa using h2⟩) h
end
section
variable {P : Program} {fr : Fr} {A : As} {Q : Exit → Act → World → Prop} {c : Code}
theorem zq {α : Type} {E : El α} {T tg s : Nat} {xs : List α} (hs : Nat.blt s fr.n = true) (hx : A.slots s = .row E T tg xs)
    (h : fS P fr c ⟨fun i => bif Nat.beq i s then .vs tg xs.length else A.slots i, (tg, .vec E T xs) :: A.tags⟩ Q) : fS P fr c A Q := fun a w ⟨M, ok, hsl, ht⟩ => by
  have hd := hsl s yO
  rw [hx] at hd
  obtain ⟨cs, h1, h2, h3⟩ := hd
  have key : q2 tg xs.length w M (a.tmps.getD s undef) ∧ g6 E T xs w M tg := by
    rcases h1.2 with ⟨e, h0⟩ | ⟨g, cap, cur, ex, _, hh, hn1, hcap, _, htk⟩
    · exact ⟨.inl ⟨h0, e⟩, .inl (List.length_eq_zero_iff.1 h0)⟩
    · have hg : M g = some tg := h3 g r6
      exact ⟨.inr ⟨g, cap, hg, ex, hn1, hcap⟩, .inr ⟨g, cur, hg, hh, by rw [cz, htk]; exact h2⟩⟩
  refine h a w ⟨M, ok, fun i hi => ?_, fun x hx => ?_⟩
  · cases hb : Nat.beq i s with
    | false => simpa only [hb, cond_false] using hsl i hi
    | true =>
      have : i = s := Nat.eq_of_beq_eq_true hb
      subst this
      simp only [hb, cond_true]
      exact key.1
  · rcases List.mem_cons.1 hx with rfl | hx
    · exact key.2
    · exact ht x hx
def fH (M : bI) (tg : Nat) : bI := fun b => if M b = some tg then none else M b
theorem jc {w : World} {M : bI} {tg : Nat} : Le (· ∈ ([] : List Nat)) (· ∈ [tg]) w M w (fH M tg) :=
 ⟨Nat.le_refl _, rfl, rfl, rfl, fun b _ hm => ⟨by simp [fH, hm], rfl⟩, fun b t hm hk => ⟨by simp only [List.mem_singleton] at hk; simp [fH, hm, hk], fun _ => rfl⟩⟩
theorem wL {w : World} {M : bI} {tg : Nat} (wf : Wf w M) : Wf w (fH M tg) := by
 have key : ∀ b t, fH M tg b = some t → M b = some t := fun b t h => by
  unfold fH at h; split at h
  ·cases h
  exact h
 exact ⟨fun b t h => wf.lt b t (key b t h), fun b b' t ht1 h h' => wf.inj b b' t ht1 (key _ _ h) (key _ _ h')⟩
def DS (A : As) (tg s : Nat) (t : Ty) : Prop := ∀ w M v, Wf w M → (∀ x ∈ A.tags, x.2.den w M x.1) → (A.slots s).den w M v → t.den w (fH M tg) v
def Bu (A : As) (tg : Nat) : List (Nat × Ty) → Prop
  | [] => True
  | x :: l => DS A tg x.1 x.2 ∧ Bu A tg l
def nZ (l : List (Nat × Ty)) (s : Nat → Ty) : Nat → Ty := fun i => match l with | [] => s i | (d, t) :: l => bif Nat.beq i d then t else nZ l s i
def As.o8 (A : As) (tg : Nat) (l : List (Nat × Ty)) : As := ⟨nZ l (eT [] [tg] A.slots), nF [] [tg] A.tags⟩
theorem jA {tg : Nat} (l : List (Nat × Ty)) (h1 : 1 ≤ tg) (hp : fr.pass.contains tg = false) (hl : Bu A tg l) (h : fS P fr c (A.o8 tg l) Q) : fS P fr c A Q := fun a w ⟨M, ok, hsl, ht⟩ => by
  have le : Le (· ∈ ([] : List Nat)) (· ∈ [tg]) w M w (fH M tg) := jc
  refine h a w ⟨fH M tg, ⟨wL ok.wf, Fr.ij ok.base pE (fun t ht => by simp only [List.mem_singleton] at ht; subst ht; exact ⟨h1, by simpa using hp⟩) le, ok.size, ok.defers.step pE (fun t ht => by simp only [List.mem_singleton] at ht; subst ht; exact h1) le⟩, fun i hi => ?_, fun x hx => gE le hx fun y hy _ => ht y hy⟩
  have base : (eT [] [tg] A.slots i).den w (fH M tg) (a.tmps.getD i undef) := by
    rcases eo [] [tg] A.slots i with ⟨e, hdj⟩ | ⟨_, e⟩
    · rw [e]; exact (A.slots i).mono le (eF hdj).1 (eF hdj).2 (hsl i hi)
    · rw [e]; trivial
  show (nZ l (eT [] [tg] A.slots) i).den _ _ _
  clear h
  induction l with
  | nil => exact base
  | cons x l ih =>
    obtain ⟨d, t⟩ := x
    unfold nZ
    cases hb : Nat.beq i d with
    | false => simp only [cond_false]; exact ih hl.2
    | true =>
      have : i = d := Nat.eq_of_beq_eq_true hb
      subst this
      simp only [cond_true]
      exact hl.1 w M _ ok.wf ht (hsl i hi)
theorem oQ {α : Type} {E : El α} {T tg s : Nat} {xs : List α} (hx : A.slots s = .row E T tg xs) : DS A tg s (.sl E xs) := fun w M v wf _ hd => by
 rw [hx] at hd
 exact zC wf hd (fun b hb => by simp [fH, hb]) (fun b hb => by simp [fH, hb])
theorem l6 {α : Type} {E : El α} {T tg s n : Nat} {xs : List α} (hx : A.slots s = .vs tg n) (hc : A.tag tg = some (.vec E T xs)) (hn : xs.length = n) (h1 : fR tg) : DS A tg s (.sl E xs) := fun w M v wf ht hd => by
 rw [hx] at hd
 have hv : g6 E T xs w M tg := ht _ (cj hc)
 subst hn
 rcases hd with ⟨h0, rfl⟩ | ⟨b, cc, hb, e, hn1, hn2⟩
 ·exact ⟨none, 0, by rw [h0], by omega, by simp [maxLen], fun h => absurd h aE⟩
 refine ⟨_, cc, e, hn1, hn2, fun _ => ⟨b, 0, rfl, by simp [fH, hb], wf.lt b _ hb, fun i t hi => ?_⟩⟩
 obtain ⟨u, hu, hdu⟩ := nL wf h1 hb hv hi
 refine ⟨u, by rw [Nat.zero_add]; exact hu, t.mono (jc (w := w)) ?_ ?_ hdu⟩
 ·intro u hu
  have : u ∈ cR (xs.flatMap E.tys) := List.mem_flatMap.2 ⟨t, List.mem_of_getElem? hi, hu⟩
  rw [E.jd] at this; cases this
 intro u _ h; cases h
theorem Bh {T tg s off : Nat} {l : List Ty} (hx : A.slots s = .ptr tg off) (hc : A.tag tg = some (.cells T l)) (hd : lp (cR l) [tg] = true) (h1 : fR tg) : DS A tg s (.pp (l.drop off)) := fun w M v wf ht hv => by
 rw [hx] at hv
 obtain ⟨b, hb, e⟩ := hv
 have hcc : (Cont.cells T l).den w M tg := ht _ (cj hc)
 refine ⟨b, off, e, by simp [fH, hb], wf.lt b _ hb, fun i t hi => ?_⟩
 rw [List.getElem?_drop] at hi
 obtain ⟨u, hu, hdu⟩ := EL wf h1 hb hcc hi
 refine ⟨u, hu, t.mono (jc (w := w)) ?_ ?_ hdu⟩
 ·intro u hu
  exact gK hd u (List.mem_flatMap.2 ⟨t, List.mem_of_getElem? hi, hu⟩)
 intro u _ h; cases h
end
end Go.T
namespace Go.Proofs.YtpnndljmhpepgaaGreat
open Go Go.T
def types : List TI := [
  ⟨.other, 1, 0, [.tuple #[]]⟩,
  ⟨.func, 1, 8, [.nilFunc]⟩,
  ⟨.int .i64, 1, 8, [.int .i64 0]⟩,
  ⟨.int .i64, 1, 8, [.int .i64 0]⟩,
  ⟨.bool, 1, 1, [.bool false]⟩,
  ⟨.int .u8, 1, 1, [.int .u8 0]⟩,
  ⟨.int .u8, 1, 1, [.int .u8 0]⟩,
  ⟨.struct [(0, 2), (1, 3), (2, 4), (3, 6)], 4, 24, [.int .i64 0, .int .i64 0, .bool false, .int .u8 0]⟩,
  ⟨.struct [(0, 2), (1, 3), (2, 4), (3, 6)], 4, 24, [.int .i64 0, .int .i64 0, .bool false, .int .u8 0]⟩,
  ⟨.string, 1, 16, [.string ByteArray.empty]⟩,
  ⟨.string, 1, 16, [.string ByteArray.empty]⟩,
  ⟨.string, 1, 16, [.string ByteArray.empty]⟩,
  ⟨.int .u64, 1, 8, [.int .u64 0]⟩,
  ⟨.struct [(0, 9), (1, 12)], 2, 24, [.string ByteArray.empty, .int .u64 0]⟩,
  ⟨.struct [(0, 9), (1, 12)], 2, 24, [.string ByteArray.empty, .int .u64 0]⟩,
  ⟨.ptr 171, 1, 8, [.pointer none]⟩,
  ⟨.ptr 174, 1, 8, [.pointer none]⟩,
  ⟨.ptr 184, 1, 8, [.pointer none]⟩,
  ⟨.struct [(0, 17)], 1, 8, [.pointer none]⟩,
  ⟨.struct [(0, 17)], 1, 8, [.pointer none]⟩,
  ⟨.other, 1, 16, [.nilIface]⟩,
  ⟨.int .i32, 1, 4, [.int .i32 0]⟩,
  ⟨.slice 3, 1, 24, [.slice none 0 0]⟩,
  ⟨.slice 58, 1, 24, [.slice none 0 0]⟩,
  ⟨.struct [(0, 22), (1, 23)], 2, 48, [.slice none 0 0, .slice none 0 0]⟩,
  ⟨.struct [(0, 22), (1, 23)], 2, 48, [.slice none 0 0, .slice none 0 0]⟩,
  ⟨.slice 29, 1, 24, [.slice none 0 0]⟩,
  ⟨.func, 1, 8, [.nilFunc]⟩,
  ⟨.func, 1, 8, [.nilFunc]⟩,
  ⟨.slice 37, 1, 24, [.slice none 0 0]⟩,
  ⟨.func, 1, 8, [.nilFunc]⟩,
  ⟨.slice 76, 1, 24, [.slice none 0 0]⟩,
  ⟨.struct [(0, 22), (1, 31)], 2, 48, [.slice none 0 0, .slice none 0 0]⟩,
  ⟨.struct [(0, 22), (1, 31)], 2, 48, [.slice none 0 0, .slice none 0 0]⟩,
  ⟨.func, 1, 8, [.nilFunc]⟩,
  ⟨.func, 1, 8, [.nilFunc]⟩,
  ⟨.struct [(0, 3), (1, 3)], 2, 16, [.int .i64 0, .int .i64 0]⟩,
  ⟨.struct [(0, 3), (1, 3)], 2, 16, [.int .i64 0, .int .i64 0]⟩,
  ⟨.int .i64, 1, 8, [.int .i64 0]⟩,
  ⟨.func, 1, 8, [.nilFunc]⟩,
  ⟨.func, 1, 8, [.nilFunc]⟩,
  ⟨.other, 1, 0, [.tuple #[.bool false, .int .i64 0]]⟩,
  ⟨.func, 1, 8, [.nilFunc]⟩,
  ⟨.slice 85, 1, 24, [.slice none 0 0]⟩,
  ⟨.func, 1, 8, [.nilFunc]⟩,
  ⟨.other, 1, 0, [.tuple #[.slice none 0 0, .int .i64 0]]⟩,
  ⟨.func, 1, 8, [.nilFunc]⟩,
  ⟨.other, 1, 0, [.tuple #[.int .i64 0, .int .i64 0]]⟩,
  ⟨.func, 1, 8, [.nilFunc]⟩,
  ⟨.func, 1, 8, [.nilFunc]⟩,
  ⟨.func, 1, 8, [.nilFunc]⟩,
  ⟨.func, 1, 8, [.nilFunc]⟩,
  ⟨.func, 1, 8, [.nilFunc]⟩,
  ⟨.slice 22, 1, 24, [.slice none 0 0]⟩,
  ⟨.func, 1, 8, [.nilFunc]⟩,
  ⟨.array 3 3, 3, 24, [.int .i64 0, .int .i64 0, .int .i64 0]⟩,
  ⟨.ptr 3, 1, 8, [.pointer none]⟩,
  ⟨.struct [(0, 3), (1, 3), (2, 3)], 3, 24, [.int .i64 0, .int .i64 0, .int .i64 0]⟩,
  ⟨.struct [(0, 3), (1, 3), (2, 3)], 3, 24, [.int .i64 0, .int .i64 0, .int .i64 0]⟩,
  ⟨.slice 56, 1, 24, [.slice none 0 0]⟩,
  ⟨.func, 1, 8, [.nilFunc]⟩,
  ⟨.other, 1, 0, [.tuple #[.slice none 0 0, .int .i64 0]]⟩,
  ⟨.func, 1, 8, [.nilFunc]⟩,
  ⟨.other, 1, 0, [.tuple #[.slice none 0 0, .int .i64 0]]⟩,
  ⟨.func, 1, 8, [.nilFunc]⟩,
  ⟨.func, 1, 8, [.nilFunc]⟩,
  ⟨.func, 1, 8, [.nilFunc]⟩,
  ⟨.func, 1, 8, [.nilFunc]⟩,
  ⟨.func, 1, 8, [.nilFunc]⟩,
  ⟨.func, 1, 8, [.nilFunc]⟩,
  ⟨.other, 1, 0, [.tuple #[.slice none 0 0, .int .i64 0, .int .i64 0]]⟩,
  ⟨.func, 1, 8, [.nilFunc]⟩,
  ⟨.func, 1, 8, [.nilFunc]⟩,
  ⟨.func, 1, 8, [.nilFunc]⟩,
  ⟨.func, 1, 8, [.nilFunc]⟩,
  ⟨.func, 1, 8, [.nilFunc]⟩,
  ⟨.struct [(0, 3), (1, 3), (2, 3)], 3, 24, [.int .i64 0, .int .i64 0, .int .i64 0]⟩,
  ⟨.func, 1, 8, [.nilFunc]⟩,
  ⟨.func, 1, 8, [.nilFunc]⟩,
  ⟨.func, 1, 8, [.nilFunc]⟩,
  ⟨.func, 1, 8, [.nilFunc]⟩,
  ⟨.func, 1, 8, [.nilFunc]⟩,
  ⟨.func, 1, 8, [.nilFunc]⟩,
  ⟨.other, 1, 0, [.tuple #[.slice none 0 0, .int .i64 0]]⟩,
  ⟨.func, 1, 8, [.nilFunc]⟩,
  ⟨.slice 133, 1, 24, [.slice none 0 0]⟩,
  ⟨.func, 1, 8, [.nilFunc]⟩,
  ⟨.ptr 93, 1, 8, [.pointer none]⟩,
  ⟨.other, 1, 0, [.tuple #[.pointer none, .int .i64 0]]⟩,
  ⟨.func, 1, 8, [.nilFunc]⟩,
  ⟨.array 6 3, 6, 48, [.int .i64 0, .int .i64 0, .int .i64 0, .int .i64 0, .int .i64 0, .int .i64 0]⟩,
  ⟨.array 6 3, 6, 48, [.int .i64 0, .int .i64 0, .int .i64 0, .int .i64 0, .int .i64 0, .int .i64 0]⟩,
  ⟨.struct [(0, 25), (2, 91)], 8, 96, [.slice none 0 0, .slice none 0 0, .int .i64 0, .int .i64 0, .int .i64 0, .int .i64 0, .int .i64 0, .int .i64 0]⟩,
  ⟨.struct [(0, 25), (2, 91)], 8, 96, [.slice none 0 0, .slice none 0 0, .int .i64 0, .int .i64 0, .int .i64 0, .int .i64 0, .int .i64 0, .int .i64 0]⟩,
  ⟨.struct [(0, 91), (6, 29), (7, 3)], 8, 80, [.int .i64 0, .int .i64 0, .int .i64 0, .int .i64 0, .int .i64 0, .int .i64 0, .slice none 0 0, .int .i64 0]⟩,
  ⟨.struct [(0, 91), (6, 29), (7, 3)], 8, 80, [.int .i64 0, .int .i64 0, .int .i64 0, .int .i64 0, .int .i64 0, .int .i64 0, .slice none 0 0, .int .i64 0]⟩,
  ⟨.map 91 95, 1, 8, [.map none]⟩,
  ⟨.struct [(0, 96), (1, 91), (7, 4)], 8, 64, [.map none, .int .i64 0, .int .i64 0, .int .i64 0, .int .i64 0, .int .i64 0, .int .i64 0, .bool false]⟩,
  ⟨.struct [(0, 96), (1, 91), (7, 4)], 8, 64, [.map none, .int .i64 0, .int .i64 0, .int .i64 0, .int .i64 0, .int .i64 0, .int .i64 0, .bool false]⟩,
  ⟨.slice 91, 1, 24, [.slice none 0 0]⟩,
  ⟨.func, 1, 8, [.nilFunc]⟩,
  ⟨.func, 1, 8, [.nilFunc]⟩,
  ⟨.func, 1, 8, [.nilFunc]⟩,
  ⟨.func, 1, 8, [.nilFunc]⟩,
  ⟨.other, 1, 0, [.tuple #[.agg #[.int .i64 0, .int .i64 0, .int .i64 0, .int .i64 0, .int .i64 0, .int .i64 0, .slice none 0 0, .int .i64 0], .bool false]]⟩,
  ⟨.func, 1, 8, [.nilFunc]⟩,
  ⟨.func, 1, 8, [.nilFunc]⟩,
  ⟨.func, 1, 8, [.nilFunc]⟩,
  ⟨.func, 1, 8, [.nilFunc]⟩,
  ⟨.func, 1, 8, [.nilFunc]⟩,
  ⟨.func, 1, 8, [.nilFunc]⟩,
  ⟨.func, 1, 8, [.nilFunc]⟩,
  ⟨.func, 1, 8, [.nilFunc]⟩,
  ⟨.struct [(0, 112)], 1, 8, [.nilFunc]⟩,
  ⟨.struct [(0, 112)], 1, 8, [.nilFunc]⟩,
  ⟨.func, 1, 8, [.nilFunc]⟩,
  ⟨.func, 1, 8, [.nilFunc]⟩,
  ⟨.func, 1, 8, [.nilFunc]⟩,
  ⟨.func, 1, 8, [.nilFunc]⟩,
  ⟨.func, 1, 8, [.nilFunc]⟩,
  ⟨.other, 1, 0, [.tuple #[.agg #[.slice none 0 0, .slice none 0 0], .int .i64 0]]⟩,
  ⟨.func, 1, 8, [.nilFunc]⟩,
  ⟨.func, 1, 8, [.nilFunc]⟩,
  ⟨.other, 1, 0, [.tuple #[.slice none 0 0, .slice none 0 0, .slice none 0 0]]⟩,
  ⟨.func, 1, 8, [.nilFunc]⟩,
  ⟨.other, 1, 0, [.tuple #[.int .i64 0, .int .i64 0]]⟩,
  ⟨.func, 1, 8, [.nilFunc]⟩,
  ⟨.other, 1, 0, [.tuple #[.slice none 0 0, .slice none 0 0, .int .i64 0, .int .i64 0]]⟩,
  ⟨.func, 1, 8, [.nilFunc]⟩,
  ⟨.func, 1, 8, [.nilFunc]⟩,
  ⟨.func, 1, 8, [.nilFunc]⟩,
  ⟨.func, 1, 8, [.nilFunc]⟩,
  ⟨.func, 1, 8, [.nilFunc]⟩,
  ⟨.struct [(0, 3), (1, 3)], 2, 16, [.int .i64 0, .int .i64 0]⟩,
  ⟨.func, 1, 8, [.nilFunc]⟩,
  ⟨.func, 1, 8, [.nilFunc]⟩,
  ⟨.func, 1, 8, [.nilFunc]⟩,
  ⟨.func, 1, 8, [.nilFunc]⟩,
  ⟨.func, 1, 8, [.nilFunc]⟩,
  ⟨.func, 1, 8, [.nilFunc]⟩,
  ⟨.func, 1, 8, [.nilFunc]⟩,
  ⟨.func, 1, 8, [.nilFunc]⟩,
  ⟨.func, 1, 8, [.nilFunc]⟩,
  ⟨.func, 1, 8, [.nilFunc]⟩,
  ⟨.other, 1, 0, [.tuple #[.agg #[.slice none 0 0, .slice none 0 0], .slice none 0 0, .int .i64 0]]⟩,
  ⟨.func, 1, 8, [.nilFunc]⟩,
  ⟨.func, 1, 8, [.nilFunc]⟩,
  ⟨.func, 1, 8, [.nilFunc]⟩,
  ⟨.func, 1, 8, [.nilFunc]⟩,
  ⟨.func, 1, 8, [.nilFunc]⟩,
  ⟨.func, 1, 8, [.nilFunc]⟩,
  ⟨.func, 1, 8, [.nilFunc]⟩,
  ⟨.func, 1, 8, [.nilFunc]⟩,
  ⟨.func, 1, 8, [.nilFunc]⟩,
  ⟨.func, 1, 8, [.nilFunc]⟩,
  ⟨.func, 1, 8, [.nilFunc]⟩,
  ⟨.map 3 99, 1, 8, [.map none]⟩,
  ⟨.map 91 4, 1, 8, [.map none]⟩,
  ⟨.func, 1, 8, [.nilFunc]⟩,
  ⟨.func, 1, 8, [.nilFunc]⟩,
  ⟨.func, 1, 8, [.nilFunc]⟩,
  ⟨.func, 1, 8, [.nilFunc]⟩,
  ⟨.func, 1, 8, [.nilFunc]⟩,
  ⟨.func, 1, 8, [.nilFunc]⟩,
  ⟨.func, 1, 8, [.nilFunc]⟩,
  ⟨.func, 1, 8, [.nilFunc]⟩,
  ⟨.func, 1, 8, [.nilFunc]⟩,
  ⟨.func, 1, 8, [.nilFunc]⟩,
  ⟨.func, 1, 8, [.nilFunc]⟩,
  ⟨.func, 1, 8, [.nilFunc]⟩,
  ⟨.struct [(0, 17), (1, 17), (2, 17), (3, 9)], 4, 40, [.pointer none, .pointer none, .pointer none, .string ByteArray.empty]⟩,
  ⟨.struct [(0, 17), (1, 17), (2, 17), (3, 9)], 4, 40, [.pointer none, .pointer none, .pointer none, .string ByteArray.empty]⟩,
  ⟨.array 0 16, 0, 0, []⟩,
  ⟨.struct [(0, 172)], 0, 0, []⟩,
  ⟨.struct [(0, 172)], 0, 0, []⟩,
  ⟨.func, 1, 8, [.nilFunc]⟩,
  ⟨.int .u32, 1, 4, [.int .u32 0]⟩,
  ⟨.int .u8, 1, 1, [.int .u8 0]⟩,
  ⟨.int .u8, 1, 1, [.int .u8 0]⟩,
  ⟨.func, 1, 8, [.nilFunc]⟩,
  ⟨.ptr 5, 1, 8, [.pointer none]⟩,
  ⟨.int .i32, 1, 4, [.int .i32 0]⟩,
  ⟨.int .i32, 1, 4, [.int .i32 0]⟩,
  ⟨.struct [(0, 12), (1, 12), (2, 176), (3, 177), (4, 5), (5, 5), (6, 178), (7, 179), (8, 180), (9, 181), (10, 182)], 11, 48, [.int .u64 0, .int .u64 0, .int .u32 0, .int .u8 0, .int .u8 0, .int .u8 0, .int .u8 0, .nilFunc, .pointer none, .int .i32 0, .int .i32 0]⟩,
  ⟨.struct [(0, 12), (1, 12), (2, 176), (3, 177), (4, 5), (5, 5), (6, 178), (7, 179), (8, 180), (9, 181), (10, 182)], 11, 48, [.int .u64 0, .int .u64 0, .int .u32 0, .int .u8 0, .int .u8 0, .int .u8 0, .int .u8 0, .nilFunc, .pointer none, .int .i32 0, .int .i32 0]⟩,
  ⟨.other, 1, 8, [.pointer none]⟩]
theorem MN : (List.range types.length).map (JB Tryz.prog) = types.map some := by kernel_rfl
instance dz : lq Tryz.prog := ⟨types, lq.of MN⟩
theorem uY {P : Program} {w : World} {t : Nat} {k : IntKind} {a b : Int} (d : Nat) (h : P.underlying t = some (.int k)) : (Op.equalIn (d + 1) t (.int k a) (.int k b)).run P w = .ok (decide (a = b)) w := by
 simp [Op.equalIn, run_underlying h, HS]
theorem QY (a0 a1 b0 b1 : Int) (w : World) : (Op.equal 37 (.agg #[.int .i64 a0, .int .i64 a1]) (.agg #[.int .i64 b0, .int .i64 b1])).run Tryz.prog w = .ok ((decide (a0 = b0) && decide (a1 = b1))) w := by
 have hs : Tryz.prog.stoodInHeld 37 = false := by kernel_rfl
 have e3 : ∀ (x y : Int) (w : World), (Op.equalIn 9999 3 (.int .i64 x) (.int .i64 y)).run Tryz.prog w = .ok (decide (x = y)) w := fun x y w => uY 9998 Tryz.underlying3
 have g3 : ∀ w, (isAgg 3).run Tryz.prog w = .ok false w := fun w => by simp [isAgg, run_underlying Tryz.underlying3]
 unfold Op.equal Op.maxDepth
 rw [Op.equalIn]
 simp only [Sem.run_bind, run_underlying Tryz.underlying37, Result.andThen_ok]
 simp [hs, part, g3, e3]
 by_cases h0 : a0 = b0 <;> by_cases h1 : a1 = b1 <;> simp [h0, h1]
theorem O6 (a0 a1 b0 b1 : Int) : QX Tryz.prog 37 [Ty.int .i64 a0, Ty.int .i64 a1] [Ty.int .i64 b0, Ty.int .i64 b1] ((decide (a0 = b0) && decide (a1 = b1))) :=
  ⟨by kernel_rfl, fun w M cs ds h1 h2 => by
    obtain ⟨cs⟩ := cs
    obtain ⟨ds⟩ := ds
    match cs, ds, h1, h2 with
    | [u0, u1], [v0, v1], h1, h2 =>
      simp only [cS, Ty.int, iL, and_true] at h1 h2
      obtain ⟨rfl, rfl⟩ := h1
      obtain ⟨rfl, rfl⟩ := h2
      exact QY _ _ _ _ w⟩
theorem Qp (a0 a1 a2 b0 b1 b2 : Int) (w : World) : (Op.equal 58 (.agg #[.int .i64 a0, .int .i64 a1, .int .i64 a2]) (.agg #[.int .i64 b0, .int .i64 b1, .int .i64 b2])).run Tryz.prog w = .ok ((decide (a0 = b0) && (decide (a1 = b1) && decide (a2 = b2)))) w := by
 have hs : Tryz.prog.stoodInHeld 58 = false := by kernel_rfl
 have e3 : ∀ (x y : Int) (w : World), (Op.equalIn 9999 3 (.int .i64 x) (.int .i64 y)).run Tryz.prog w = .ok (decide (x = y)) w := fun x y w => uY 9998 Tryz.underlying3
 have g3 : ∀ w, (isAgg 3).run Tryz.prog w = .ok false w := fun w => by simp [isAgg, run_underlying Tryz.underlying3]
 unfold Op.equal Op.maxDepth
 rw [Op.equalIn]
 simp only [Sem.run_bind, run_underlying Tryz.underlying58, Result.andThen_ok]
 simp [hs, part, g3, e3]
 by_cases h0 : a0 = b0 <;> by_cases h1 : a1 = b1 <;> by_cases h2 : a2 = b2 <;> simp [h0, h1, h2]
theorem Qq (a0 a1 a2 b0 b1 b2 : Int) : QX Tryz.prog 58 [Ty.int .i64 a0, Ty.int .i64 a1, Ty.int .i64 a2] [Ty.int .i64 b0, Ty.int .i64 b1, Ty.int .i64 b2] ((decide (a0 = b0) && (decide (a1 = b1) && decide (a2 = b2)))) :=
  ⟨by kernel_rfl, fun w M cs ds h1 h2 => by
    obtain ⟨cs⟩ := cs
    obtain ⟨ds⟩ := ds
    match cs, ds, h1, h2 with
    | [u0, u1, u2], [v0, v1, v2], h1, h2 =>
      simp only [cS, Ty.int, iL, and_true] at h1 h2
      obtain ⟨rfl, rfl, rfl⟩ := h1
      obtain ⟨rfl, rfl, rfl⟩ := h2
      exact Qp _ _ _ _ _ _ w⟩
theorem QH (a0 a1 b0 b1 : Int) (w : World) : (Op.equal 133 (.agg #[.int .i64 a0, .int .i64 a1]) (.agg #[.int .i64 b0, .int .i64 b1])).run Tryz.prog w = .ok ((decide (a0 = b0) && decide (a1 = b1))) w := by
 have hs : Tryz.prog.stoodInHeld 133 = false := by kernel_rfl
 have e3 : ∀ (x y : Int) (w : World), (Op.equalIn 9999 3 (.int .i64 x) (.int .i64 y)).run Tryz.prog w = .ok (decide (x = y)) w := fun x y w => uY 9998 Tryz.underlying3
 have g3 : ∀ w, (isAgg 3).run Tryz.prog w = .ok false w := fun w => by simp [isAgg, run_underlying Tryz.underlying3]
 unfold Op.equal Op.maxDepth
 rw [Op.equalIn]
 simp only [Sem.run_bind, run_underlying Tryz.underlying133, Result.andThen_ok]
 simp [hs, part, g3, e3]
 by_cases h0 : a0 = b0 <;> by_cases h1 : a1 = b1 <;> simp [h0, h1]
theorem PZ (a0 a1 b0 b1 : Int) : QX Tryz.prog 133 [Ty.int .i64 a0, Ty.int .i64 a1] [Ty.int .i64 b0, Ty.int .i64 b1] ((decide (a0 = b0) && decide (a1 = b1))) :=
  ⟨by kernel_rfl, fun w M cs ds h1 h2 => by
    obtain ⟨cs⟩ := cs
    obtain ⟨ds⟩ := ds
    match cs, ds, h1, h2 with
    | [u0, u1], [v0, v1], h1, h2 =>
      simp only [cS, Ty.int, iL, and_true] at h1 h2
      obtain ⟨rfl, rfl⟩ := h1
      obtain ⟨rfl, rfl⟩ := h2
      exact QH _ _ _ _ w⟩
theorem mixed : Tryz.prog.follows .mixedOrders = true := by kernel_rfl
end Go.Proofs.YtpnndljmhpepgaaGreat
namespace Go.Proofs.YtpnndljmhpepgaaGreat
structure Rj where
  has : Int
  shares : List Int
  deriving Inhabited, DecidableEq
structure Rr where
  src : Int
  dst : Int
  bh : Int
  deriving Inhabited, DecidableEq
structure R6 where
  fst : Int
  nxt : Int
  deriving Inhabited, DecidableEq
structure R9 where
  src : Int
  dst : Int
  much : Int
  deriving Inhabited, DecidableEq
structure SA where
  bears : List Int
  iJ : List Rj
  turnings : List Rr
  rules : List R6
  deriving Inhabited, DecidableEq
def fidx {α : Type} (p : α → Bool) (l : List α) : Int := match l.findIdx? p with | some i => (i : Int) | none => -1
theorem lB {α : Type} {p : α → Bool} {l : List α} {k : Nat} (hk : k < l.length) (h : ∀ x ∈ l.take k, p x = false) (hp : p l[k] = true) : fidx p l = k := by
 have : l.findIdx? p = some k := by
  rw [List.findIdx?_eq_some_iff_getElem]
  refine ⟨hk, hp, fun j hj => ?_⟩
  have := h l[j] (by rw [List.mem_take_iff_getElem]; exact ⟨j, by omega, rfl⟩)
  simp [this]
 simp [fidx, this]
theorem nC {α : Type} {p : α → Bool} {l : List α} (h : ∀ x ∈ l, p x = false) : fidx p l = -1 := by
 have : l.findIdx? p = none := by simpa using h
 simp [fidx, this]
theorem uk {α : Type} (p : α → Bool) (l : List α) : decide (0 ≤ fidx p l) = l.any p := by
  unfold fidx
  cases h : l.findIdx? p with
  | none =>
    rw [List.findIdx?_eq_none_iff] at h
    have : l.any p = false := by simpa using h
    rw [this]; rfl
  | some i =>
    have : l.any p = true := by
      rw [List.findIdx?_eq_some_iff_getElem] at h
      obtain ⟨hi, hp, _⟩ := h
      rw [List.any_eq_true]; exact ⟨_, List.getElem_mem hi, hp⟩
    rw [this]; simp
theorem CE {α : Type} (p : α → Bool) (l : List α) : (!l.any fun x => !p x) = l.all p := by
 rw [List.all_eq_not_any_not]
end Go.Proofs.YtpnndljmhpepgaaGreat
namespace Go.Proofs.YtpnndljmhpepgaaGreat
open Go Go.T
structure oF where
  bh : Int
  inn : Int
  aim : Int
  deriving Inhabited, DecidableEq
structure aT where
  sizes : List Int
  aO : List oF
  deriving Inhabited, DecidableEq
structure bX where
  bN : Int
  aim : Int
  deriving Inhabited, DecidableEq
def Ac (n lo hi : Int) : Bool := decide (n ≥ lo) && decide (n ≤ hi)
def fZ (n lo hi : Int) : Bool := decide (n < lo) || decide (n > hi)
theorem oX (n lo hi : Int) : (!Ac n lo hi) = fZ n lo hi := by
 unfold Ac fZ
 rw [Bool.eq_iff_iff]; simp <;> omega
theorem fE {n lo hi : Int} : Ac n lo hi = true ↔ lo ≤ n ∧ n ≤ hi := by unfold Ac; simp
theorem lD {n lo hi : Int} : fZ n lo hi = false ↔ lo ≤ n ∧ n ≤ hi := by unfold fZ; simp
theorem xg {α : Type} (p q : α → Bool) (l : List α) (h : ∀ x, (!p x) = q x) : (!l.all p) = l.any q := by
  induction l with
  | nil => rfl
  | cons x l ih => rw [List.all_cons, List.any_cons, Bool.not_and, ih, h]
theorem CF {α : Type} {q : α → Bool} {l : List α} {x : α} (hx : x ∈ l) (h : q x = true) : l.any q = true := List.any_eq_true.2 ⟨x, hx, h⟩
theorem gl {α : Type} {q : α → Bool} {l : List α} {k : Nat} (h : ∀ x ∈ l.take k, q x = false) (hk : l.length ≤ k) : l.any q = false := by
 rw [List.take_of_length_le hk] at h
 rw [Bool.eq_false_iff]; intro hc
 obtain ⟨x, hx, hq⟩ := List.any_eq_true.1 hc
 rw [h x hx] at hq; cases hq
theorem any_none {α : Type} {q : α → Bool} {l : List α} (h : l.any q = false) {x : α} (hx : x ∈ l) : q x = false := by
  cases hq : q x with
  | false => rfl
  | true => rw [CF hx hq] at h; cases h
theorem gJ {α : Type} [Inhabited α] {q : α → Bool} {l : List α} {k : Nat} (h : ∀ x ∈ l.take k, q x = false) (hk : k < l.length) (hq : q (nth l k) = false) : ∀ x ∈ l.take (k + 1), q x = false := by
 rw [cg hk]
 intro x hx
 rcases List.mem_append.1 hx with h' | h'
 ·exact h x h'
 rw [List.mem_singleton.1 h']; exact hq
theorem pG {α : Type} [Inhabited α] {q : α → Bool} {l : List α} {k : Nat} (hk : k < l.length) (hq : q (nth l k) = true) : l.any q = true := CF (cD hk) hq
theorem ng {b : Bool} (h : b = false) : ¬ b = true := by rw [h]; decide
theorem kS {q : Nat → Bool} {k : Nat} (h : ∀ i, i < k → q i = false) (hq : q k = false) : ∀ i, i < k + 1 → q i = false := fun i hi => by
 by_cases e : i = k
 ·subst e; exact hq
 exact h i aE
theorem mT {q : Nat → Bool} {n k : Nat} (h : ∀ i, i < k → q i = false) (hk : n ≤ k) : (List.range n).any q = false := by
 rw [List.any_eq_false]; intro i hi; rw [List.mem_range] at hi; rw [h i aE]; decide
theorem nr {q : Nat → Bool} {n k : Nat} (hk : k < n) (hq : q k = true) : (List.range n).any q = true := CF (List.mem_range.2 hk) hq
def aT.bin (b : aT) (n : Int) : Bool := Ac n 0 (b.sizes.length - 1)
def aT.bN (b : aT) (n : Int) : Bool := Ac n 0 (b.aO.length - 1)
def aT.hold (b : aT) (k i : Int) : Bool := decide (nth b.sizes k.toNat ≥ (nth b.aO i.toNat).bh)
def pM (b : aT) : Bool := !Ac b.sizes.length 1 7 || decide ((b.aO.length : Int) > 6)
def nI (b : aT) : Bool := !(b.sizes.all fun n => Ac n 0 300) || !(b.aO.all fun l => Ac l.bh 1 300)
def vL (b : aT) : Bool := !(b.aO.all fun l => b.bin l.inn && (decide (l.aim = -1) || b.bin l.aim))
def vg (l k : oF) : Bool := decide (l.inn = k.inn) || (decide (l.aim = k.aim) && !decide (l.aim = -1))
def vl (b : aT) (i : Nat) : Bool := (b.aO.take i).any fun k => vg (nth b.aO i) k
def pF (b : aT) : Bool := (List.range b.aO.length).any fun i => vl b i
def AQ (b : aT) (i : Nat) : Bool := !b.hold (nth b.aO i).inn i || (!decide ((nth b.aO i).aim = -1) && !b.hold (nth b.aO i).aim i)
def xK (b : aT) : Bool := (List.range b.aO.length).any fun i => AQ b i
def bH (b : aT) : Int := if pM b then 2 else if nI b then 3 else if vL b then 1 else if pF b then 5 else if xK b then 9 else 0
structure aT.Small (b : aT) : Prop where
  sizes : b.sizes.length ≤ 12
  aO : b.aO.length ≤ 10
structure aT.cQ (b : aT) : Prop where
  iJ : 1 ≤ b.sizes.length ∧ b.sizes.length ≤ 7
  aO : b.aO.length ≤ 6
  size : ∀ n ∈ b.sizes, 0 ≤ n ∧ n ≤ 300
  bh : ∀ l ∈ b.aO, 1 ≤ l.bh ∧ l.bh ≤ 300
  inn : ∀ l ∈ b.aO, 0 ≤ l.inn ∧ l.inn < b.sizes.length
  aim : ∀ l ∈ b.aO, -1 ≤ l.aim ∧ l.aim < b.sizes.length
  apart : ∀ i k, k < i → i < b.aO.length → (nth b.aO i).inn ≠ (nth b.aO k).inn ∧ ((nth b.aO i).aim = (nth b.aO k).aim → (nth b.aO i).aim = -1)
  holds : ∀ i, i < b.aO.length → (nth b.aO i).bh ≤ nth b.sizes (nth b.aO i).inn.toNat ∧ ((nth b.aO i).aim ≠ -1 → (nth b.aO i).bh ≤ nth b.sizes (nth b.aO i).aim.toNat)
theorem eI {n : Nat} {p : Nat → Bool} : (List.range n).any p = false ↔ ∀ i, i < n → p i = false := by
 rw [List.any_eq_false]; simp
theorem c8 {b : aT} (h : bH b = 0) : b.cQ := by
 unfold bH at h
 split at h
 ·cases h
 rename_i h1
 split at h
 ·cases h
 rename_i h2
 split at h
 ·cases h
 rename_i h3
 split at h
 ·cases h
 rename_i h4
 split at h
 ·cases h
 rename_i h5
 rw [Bool.not_eq_true] at h1 h2 h3 h4 h5
 unfold pM at h1
 simp only [Bool.or_eq_false_iff, Bool.not_eq_false', decide_eq_false_iff_not, fE] at h1
 unfold nI at h2
 simp only [Bool.or_eq_false_iff, Bool.not_eq_false', List.all_eq_true, fE] at h2
 unfold vL at h3
 simp only [Bool.not_eq_false', List.all_eq_true, Bool.and_eq_true, Bool.or_eq_true, decide_eq_true_eq, aT.bin, fE] at h3
 unfold pF at h4
 rw [eI] at h4
 unfold xK at h5
 rw [eI] at h5
 refine ⟨by omega, by omega, h2.1, h2.2, fun l hl => ?_, fun l hl => ?_, fun i k hk hi => ?_, fun i hi => ?_⟩
 ·have := (h3 l hl).1; omega
 ·have := h3 l hl; omega
 ·have := h4 i hi
  unfold vl at this
  rw [List.any_eq_false] at this
  have hm : nth b.aO k ∈ b.aO.take i := by rw [List.mem_take_iff_getElem]; exact ⟨k, by omega, (dS aE).symm⟩
  have := this _ hm
  simp only [vg, Bool.or_eq_true, Bool.and_eq_true, decide_eq_true_eq, Bool.not_eq_true', decide_eq_false_iff_not, not_or, not_and] at this
  exact ⟨this.1, fun e => by have := this.2 e; omega⟩
 have := h5 i hi
 simp only [AQ, aT.hold, Bool.or_eq_false_iff, Bool.not_eq_false', decide_eq_true_eq, Bool.and_eq_false_iff, decide_eq_true_eq, Int.toNat_natCast] at this
 refine ⟨by omega, fun h => ?_⟩
 rcases this.2 with h' | h'
 ·exact absurd h' h
 omega
theorem iI {b : aT} (h : b.cQ) : b.Small := ⟨by have := h.iJ; omega, by have := h.aO; omega⟩
def sx (b : aT) : Bool := fZ b.sizes.length 1 7 || decide ((b.aO.length : Int) > 6)
def Ed (b : aT) (l : oF) : Bool := fZ l.inn 0 (b.sizes.length - 1) || fZ l.aim (-1) (b.sizes.length - 1)
def tu (b : aT) (i k : Nat) : Bool := !decide ((i : Int) = k) && (decide ((nth b.aO i).inn = (nth b.aO k).inn) || (decide ((nth b.aO i).aim ≥ 0) && decide ((nth b.aO i).aim = (nth b.aO k).aim)))
def Az (b : aT) (l : oF) : Bool := decide (nth b.sizes l.inn.toNat < l.bh) || (decide (l.aim ≥ 0) && decide (nth b.sizes l.aim.toNat < l.bh))
def iO (b : aT) : Int := if sx b then 2 else if b.sizes.any (fun n => fZ n 0 300) then 3 else if b.aO.any (fun l => fZ l.bh 1 300) then 3 else if b.aO.any (Ed b) then 1
  else if (List.range b.aO.length).any (fun i => (List.range b.aO.length).any fun k => tu b i k) then 5 else if b.aO.any (Az b) then 9 else 0
theorem check_eq (b : aT) : iO b = bH b := by
 have e1 : sx b = pM b := by unfold sx pM; rw [oX]
 have e2 : nI b = (b.sizes.any (fun n => fZ n 0 300) || b.aO.any (fun l => fZ l.bh 1 300)) := by
  unfold nI
  rw [xg _ (fun n => fZ n 0 300) _ (fun _ => oX _ _ _), xg _ (fun l : oF => fZ l.bh 1 300) _ (fun _ => oX _ _ _)]
 have e3 : b.aO.any (Ed b) = vL b := by
  unfold vL
  rw [xg _ (Ed b)]
  intro l
  unfold Ed aT.bin Ac fZ
  rw [Bool.eq_iff_iff]
  simp
  omega
 unfold iO bH
 rw [e1, e2, e3]
 by_cases h1 : pM b = true
 ·rw [if_pos h1, if_pos h1]
 rw [if_neg h1, if_neg h1]
 by_cases h2 : b.sizes.any (fun n => fZ n 0 300) = true
 ·rw [if_pos h2, if_pos (by rw [h2]; rfl)]
 rw [if_neg h2]
 by_cases h2' : b.aO.any (fun l => fZ l.bh 1 300) = true
 ·rw [if_pos h2', if_pos (by rw [h2', Bool.or_true])]
 have h22 : ¬ (b.sizes.any (fun n => fZ n 0 300) || b.aO.any (fun l => fZ l.bh 1 300)) = true := by rw [Bool.not_eq_true] at h2 h2' ⊢; rw [h2, h2']; rfl
 rw [if_neg h2', if_neg h22]
 by_cases h3 : vL b = true
 ·rw [if_pos h3, if_pos h3]
 rw [if_neg h3, if_neg h3]
 rw [Bool.not_eq_true] at h3
 have h3' := h3
 unfold vL at h3'
 simp only [Bool.not_eq_false', List.all_eq_true, Bool.and_eq_true, Bool.or_eq_true, decide_eq_true_eq, aT.bin, fE] at h3'
 have hm : ∀ i, i < b.aO.length → nth b.aO i ∈ b.aO := fun i hi => cD hi
 have e4 : (List.range b.aO.length).any (fun i => (List.range b.aO.length).any fun k => tu b i k) = pF b := by
  unfold pF
  rw [Bool.eq_iff_iff, List.any_eq_true, List.any_eq_true]
  have key : ∀ i k, i < b.aO.length → k < b.aO.length → (tu b i k = true ↔ i ≠ k ∧ ((nth b.aO i).inn = (nth b.aO k).inn ∨ (nth b.aO i).aim ≠ -1 ∧ (nth b.aO i).aim = (nth b.aO k).aim)) := fun i k hi hk => by
   have := h3' _ (hm i hi)
   unfold tu
   simp only [Bool.and_eq_true, Bool.not_eq_true', decide_eq_false_iff_not, Bool.or_eq_true, decide_eq_true_eq]
   constructor
   ·rintro ⟨h1, h2⟩; exact ⟨by omega, by omega⟩
   rintro ⟨h1, h2⟩; exact ⟨by omega, by omega⟩
  have key2 : ∀ i, i < b.aO.length → (vl b i = true ↔ ∃ k, k < i ∧ ((nth b.aO i).inn = (nth b.aO k).inn ∨ (nth b.aO i).aim ≠ -1 ∧ (nth b.aO i).aim = (nth b.aO k).aim)) := fun i hi => by
   unfold vl
   rw [List.any_eq_true]
   constructor
   ·rintro ⟨x, hx, hc⟩
    rw [List.mem_take_iff_getElem] at hx
    obtain ⟨k, hk, rfl⟩ := hx
    rw [← dS] at hc
    simp only [vg, Bool.or_eq_true, Bool.and_eq_true, decide_eq_true_eq, Bool.not_eq_true', decide_eq_false_iff_not] at hc
    exact ⟨k, by omega, hc.imp id fun h => ⟨h.2, h.1⟩⟩
   rintro ⟨k, hk, hc⟩
   refine ⟨nth b.aO k, by rw [List.mem_take_iff_getElem]; exact ⟨k, by omega, (dS aE).symm⟩, ?_⟩
   simp only [vg, Bool.or_eq_true, Bool.and_eq_true, decide_eq_true_eq, Bool.not_eq_true', decide_eq_false_iff_not]
   exact hc.imp id fun h => ⟨h.2, h.1⟩
  constructor
  ·rintro ⟨i, hi, h⟩
   rw [List.any_eq_true] at h
   obtain ⟨k, hk, h⟩ := h
   rw [List.mem_range] at hi hk
   obtain ⟨h1, h2⟩ := (key i k hi hk).1 h
   rcases Nat.lt_or_ge k i with c | c
   ·exact ⟨i, List.mem_range.2 hi, (key2 i hi).2 ⟨k, c, h2⟩⟩
   refine ⟨k, List.mem_range.2 hk, (key2 k hk).2 ⟨i, by omega, ?_⟩⟩
   rcases h2 with h2 | ⟨h2, h4⟩
   ·exact .inl h2.symm
   exact .inr ⟨by rw [← h4]; exact h2, h4.symm⟩
  rintro ⟨i, hi, h⟩
  rw [List.mem_range] at hi
  obtain ⟨k, hk, h2⟩ := (key2 i hi).1 h
  exact ⟨i, List.mem_range.2 hi, List.any_eq_true.2 ⟨k, List.mem_range.2 aE, (key i k hi aE).2 ⟨by omega, h2⟩⟩⟩
 rw [e4]
 by_cases h4 : pF b = true
 ·rw [if_pos h4, if_pos h4]
 rw [if_neg h4, if_neg h4]
 have e5 : b.aO.any (Az b) = xK b := by
  unfold xK
  rw [Bool.eq_iff_iff, List.any_eq_true, List.any_eq_true]
  have key : ∀ i, i < b.aO.length → (Az b (nth b.aO i) = AQ b i) := fun i hi => by
   have := h3' _ (hm i hi)
   unfold Az AQ aT.hold
   rw [Bool.eq_iff_iff]
   simp only [Int.toNat_natCast, Bool.or_eq_true, Bool.and_eq_true, decide_eq_true_eq, Bool.not_eq_true', decide_eq_false_iff_not]
   constructor
   ·rintro (h | ⟨h, h'⟩)
    ·exact .inl aE
    exact .inr ⟨by omega, by omega⟩
   rintro (h | ⟨h, h'⟩)
   ·exact .inl aE
   exact .inr ⟨by omega, by omega⟩
  constructor
  ·rintro ⟨l, hl, h⟩
   obtain ⟨i, hi, rfl⟩ := List.getElem_of_mem hl
   rw [← dS] at h
   exact ⟨i, List.mem_range.2 hi, by rw [← key i hi]; exact h⟩
  rintro ⟨i, hi, h⟩
  rw [List.mem_range] at hi
  exact ⟨_, hm i hi, by rw [key i hi]; exact h⟩
 rw [e5]
end Go.Proofs.YtpnndljmhpepgaaGreat
namespace Go.Proofs.YtpnndljmhpepgaaGreat
open Go Go.T
def cZ : El oF := El.mk' 3 (fun x => [Ty.int .i64 x.bh, Ty.int .i64 x.inn, Ty.int .i64 x.aim]) (fun _ => rfl) (fun _ => ⟨rfl, rfl, rfl⟩)
def bq : El bX := El.mk' 2 (fun x => [Ty.int .i64 x.bN, Ty.int .i64 x.aim]) (fun _ => rfl) (fun _ => ⟨rfl, rfl, rfl⟩)
def cY : El (List Int) := El.mk' 1 (fun x => [Ty.sl cL x]) (fun _ => rfl) (fun _ => ⟨rfl, rfl, rfl⟩)
def eG : El (List bX) := El.mk' 1 (fun x => [Ty.sl bq x]) (fun _ => rfl) (fun _ => ⟨rfl, rfl, rfl⟩)
def bL (b : aT) : List Ty := [Ty.sl cL b.sizes, Ty.sl cZ b.aO]
def cU (b : aT) : Ty := Ty.agg (bL b)
theorem Lh (a b : oF) : (decide (a.bh = b.bh) && (decide (a.inn = b.inn) && decide (a.aim = b.aim))) = decide (a = b) := by
 cases a; cases b; simp [Bool.decide_and]
theorem Fl (a b : bX) : (decide (a.bN = b.bN) && decide (a.aim = b.aim)) = decide (a = b) := by
 cases a; cases b; simp [Bool.decide_and]
theorem G5 (a b : bX) : (decide (a.bN = b.bN) && decide (a.aim = b.aim)) = decide (a = b) := Fl a b
theorem oL {b : Bool} (h : (!b) = true) : b = false := by cases b <;> first | rfl | cases h
theorem dg {b : Bool} (h : (!b) = false) : b = true := by cases b <;> first | rfl | cases h
theorem mg {α : Type} [Inhabited α] {a b : List α} {k : Nat} (h : nth a k ≠ nth b k) : a ≠ b := fun e => h (by rw [e])
end Go.Proofs.YtpnndljmhpepgaaGreat
namespace Go.T
open Go Go.RowKit
section
variable {P : Program} {fr : Fr} {ops : Array Oper} {A : As} {rest : List Oper} {K : As → List (As × Fx) → Prop} {d : Nat} {t ty' : TypeId} {p : String} {e : Array Edge}
theorem Kp {α : Type} {E : El α} {T tg tg' : Nat} {xs : List α} {w : World} {M M' : bI} {v : Value} (h : g7 E T tg xs w M v) (hM : ∀ b, M b = some tg → M' b = some tg') (hn : ∀ b, M b = none → M' b = none) : g7 E T tg' xs w M' v := by
 obtain ⟨cs, h1, h2, h3⟩ := h
 refine ⟨cs, h1, ?_, fun g hg => hM g (h3 g hg)⟩
 exact b7 (S := fun _ => True) (K := fun _ => True) ⟨Nat.le_refl _, rfl, rfl, rfl, fun b _ hm => ⟨hn b hm, rfl⟩, fun b t _ h => absurd trivial h⟩ lV jm h2
def HV (M : bI) (tg tg' : Nat) : bI := fun b => if M b = some tg then some tg' else if M b = some tg' then none else M b
theorem Pa {w : World} {M : bI} {tg tg' : Nat} : Le (· ∈ ([] : List Nat)) (· ∈ [tg, tg']) w M w (HV M tg tg') :=
 ⟨Nat.le_refl _, rfl, rfl, rfl, fun b _ hm => ⟨by simp [HV, hm], rfl⟩, fun b t hm hk => ⟨by simp only [List.mem_cons, List.not_mem_nil, or_false, not_or] at hk; simp [HV, hm, hk.1, hk.2], fun _ => rfl⟩⟩
theorem QK {w : World} {M : bI} {tg tg' : Nat} (h1 : fR tg) (wf : Wf w M) : Wf w (HV M tg tg') := by
 have key : ∀ b t, HV M tg tg' b = some t → (M b = some tg ∧ t = tg') ∨ (M b = some t ∧ t ≠ tg') := fun b t h => by
  unfold HV at h
  split at h
  ·rename_i hm; injection h with h; exact .inl ⟨hm, h.symm⟩
  split at h
  ·cases h
  rename_i hn; exact .inr ⟨h, fun e => hn (e ▸ h)⟩
 refine ⟨fun b t h => (key b t h).elim (fun h => wf.lt b _ h.1) (fun h => wf.lt b _ h.1), fun b b' t ht1 h h' => ?_⟩
 obtain ⟨v, rfl⟩ : ∃ v, tg = v + 1 := ⟨tg - 1, by omega⟩
 rcases key _ _ h with ⟨a, e⟩ | ⟨a, e⟩ <;> rcases key _ _ h' with ⟨a', e'⟩ | ⟨a', e'⟩
 ·exact wf.inj b b' v aE a a'
 ·exact absurd e e'
 ·exact absurd e' e
 exact wf.inj b b' t ht1 a a'
end
section
variable {P : Program} {fr : Fr} {ops : Array Oper} {A : As} {rest : List Oper} {K : As → List (As × Fx) → Prop} {d : Nat} {t ty' : TypeId} {p : String} {e : Array Edge} [T : lq P]
theorem jM {α : Type} {E : El α} {el : Nat} {ti te : TI} (hT : T.dz[ty']? = some ti) (hk : ti.k = .slice el) (hE : T.dz[el]? = some te) (hp : fr.pass.contains (d + 1) = false)
 (h : ay P fr ops rest (A.after { d := some d, ty := .row E el (d + 1) [], K := [d + 1] }) fun A' l' => K A' ((A, { d := some d, ty := .row E el (d + 1) [], K := [d + 1] }) :: l')) :
 ay P fr ops (⟨some d, .buildSlice ty' 0 #[], t, p, e, none⟩ :: rest) A K := by
 refine ⟨_, fk rfl rfl bB bB tE fun a w M wf hr _ => ?_, h⟩
 obtain ⟨_, D, _, hD, hkd, _⟩ := cP hT
 rw [hk] at hkd
 cases D <;> simp only [TK.of, reduceCtorEq, TK.slice.injEq] at hkd
 rename_i el0
 have hel : el0 = el := hkd
 subst hel
 obtain ⟨h1, h2, h3⟩ := kP wf (.cells #[] el0) (d + 1)
 refine ⟨.slice (some ⟨w.heap.size, 0, none⟩) 0 0, w.alloc (.cells #[] el0), ?_, _, h1, h2, ⟨[], ⟨by simp, .inr ⟨w.heap.size, 0, #[], rfl, Nat.zero_le _, iA _ _, Nat.le_refl _, by simp [maxLen], by simp, by simp⟩⟩, trivial, ?_⟩, by simp⟩
 ·simp only [execOp, Instr.buildSlice, Sem.run_bind, run_underlying hD, Result.andThen_ok, cq hE]
  simp [newRow, newObj, Sem.run, Instr.fill, show Array.range 0 = #[] from rfl, Sem.new]
 intro g hg
 simp [Value.ownBlock] at hg
 subst hg; exact h3
end
end Go.T
namespace Go.T
open Go Go.RowKit
def Cg (P : Program) (t : Ty) (args : List Ty) (res : Ty) : Prop :=
  res.deps = [] ∧ res.cdeps = [] ∧ ∃ f full, dO P f full res ∧ cR full = [] ∧ cB full = [] ∧
    ∀ w M v vs, t.den w M v → cS w M args vs → ∃ first caps : Array Value, v = .func (.func f) first caps ∧ cS w M full (first.toList ++ (vs ++ caps.toList))
def RL (f : FuncId) (bd : List Ty) (w : World) (M : bI) (x : Value) : Prop := ∃ bs : Array Value, x = .func (.func f) bs #[] ∧ cS w M bd bs.toList
def Ty.Ma (f : FuncId) (bd : List Ty) : Ty := ⟨RL f bd, cR bd, cB bd, fun le hk hs ⟨bs, e, h⟩ => ⟨bs, e, b7 le hk hs h⟩, true, fun _ ⟨_, e, _⟩ => e ▸ rfl⟩
theorem y7 {l l' : List Ty} : cR (l ++ l') = cR l ++ cR l' := by simp [cR]
theorem xE {l l' : List Ty} : cB (l ++ l') = cB l ++ cB l' := by simp [cB]
theorem gY {P : Program} {f : FuncId} {caps args : List Ty} {res : Ty} (hF : dO P f (args ++ caps) res) (h1 : cR args = []) (h2 : cB args = []) (h3 : cR caps = []) (h4 : cB caps = []) (h5 : res.deps = []) (h6 : res.cdeps = []) : Cg P (.so f caps) args res :=
 ⟨h5, h6, f, args ++ caps, hF, by rw [y7, h1, h3]; rfl, by rw [xE, h2, h4]; rfl, fun w M v vs ⟨cs, e, hd⟩ hv => ⟨#[], cs, e, by show cS w M (args ++ caps) (vs ++ cs.toList); exact eY hv hd⟩⟩
theorem Gf {P : Program} {f : FuncId} {bd args : List Ty} {res : Ty} (hF : dO P f (bd ++ args) res) (h1 : cR args = []) (h2 : cB args = []) (h3 : cR bd = []) (h4 : cB bd = []) (h5 : res.deps = []) (h6 : res.cdeps = []) : Cg P (.Ma f bd) args res :=
 ⟨h5, h6, f, bd ++ args, hF, by rw [y7, h1, h3]; rfl, by rw [xE, h2, h4]; rfl, fun w M v vs ⟨bs, e, hd⟩ hv => ⟨bs, #[], e, by rw [List.append_nil]; exact eY hd hv⟩⟩
section
variable {P : Program} {fr : Fr} {ops : Array Oper} {A : As} {rest : List Oper} {K : As → List (As × Fx) → Prop} {d : Nat} {t ty' : TypeId} {p : String} {e : Array Edge}
theorem Ao {f : FuncId} {xs : List Operand} {l : List Ty} (hx : om A fr xs = l)
 (h : ay P fr ops rest (A.set d (.Ma f l)) fun A' l' => K A' ((A, { d := some d, ty := .Ma f l, rs := xs.flatMap cA }) :: l')) : ay P fr ops (⟨some d, .makeFunc (.func f) xs.toArray #[], t, p, e, none⟩ :: rest) A K :=
 bR (bl rfl rfl fun a w M _ hr _ => by
  have hv : cS w M l (xs.map a.eval) := hx ▸ gC hr fun x hx c hc => List.mem_flatMap.2 ⟨x, hx, hc⟩
  exact ⟨.func (.func f) (xs.map a.eval).toArray #[], by simp [execOp, Instr.makeFunc], _, rfl, by simpa using hv⟩) h
theorem oc {c : Nat} {tc : Ty} {args : List Ty} {res : Ty} (hc : A.op fr (.tmp c) = tc) (hF : Cg P tc args res) {xs : List Operand} {ats : Array TypeId} (hx : om A fr xs = args)
 (h : ay P fr ops rest (A.set d res) fun A' l => K A' ((A, { d := some d, ty := res, rs := c :: xs.flatMap cA }) :: l)) : ay P fr ops (⟨some d, .call ⟨.value (.tmp c), xs.toArray, ats⟩, t, p, e, none⟩ :: rest) A K := by
 refine ⟨{ d := some d, ty := res, rs := c :: xs.flatMap cA }, ⟨rfl, bB, bB, bB, fun a w M wf _ hrd _ => ?_⟩, h⟩
 rw [if_pos kY]
 obtain ⟨hr, hrc, f, full, hC, hd, hdc, hval⟩ := hF
 have hcv := cN (x := .tmp c) (fun u hu => by exact (List.mem_singleton.1 hu) ▸ List.mem_cons_self) hrd
 rw [hc] at hcv
 obtain ⟨first, caps, ec, hfull⟩ := hval w M _ _ hcv (hx ▸ gC hrd fun x hx c hc => List.mem_cons_of_mem _ (List.mem_flatMap.2 ⟨x, hx, hc⟩))
 have hcall := hC.2 w _ _ (FB wf) yD (qj hd hdc hfull)
 have hrun : (execOp a.eval ⟨some d, .call ⟨.value (.tmp c), xs.toArray, ats⟩, t, p, e, none⟩).run P w = .ok (.enter f (first.toList ++ (xs.map a.eval ++ caps.toList)).toArray) w := by
  simp [execOp, resolve, ec, Deferred.ofValue, invoke, mJ hC]
 refine jN hrun ?_
 refine hcall.mono fun en w' ⟨r, M', he, _, le, hden⟩ => ?_
 obtain ⟨h1, h2, h3⟩ := BF wf le hr hrc hden
 exact ⟨r, he, r, rfl, _, h1, h2, h3, by simp⟩
end
end Go.T
namespace Go.T
open Go Go.RowKit
section
variable {P : Program} {fr : Fr} {ops : Array Oper} {A : As} {rest : List Oper} {K : As → List (As × Fx) → Prop} {d : Nat} {t ty' ty2 : TypeId} {p : String} {e : Array Edge} {x y : Operand}
end
end Go.T
namespace Go.T
open Go Go.RowKit
section
variable {P : Program} {fr : Fr} {ops : Array Oper} {A : As} {rest : List Oper} {K : As → List (As × Fx) → Prop} {d : Nat} {t ty' : TypeId} {p : String} {e : Array Edge} [T : lq P]
variable {α : Type} [Inhabited α] {E : El α} {xs : List α} {x y : Operand} {tg i o s Tb : Nat} {ti : TI} {ty : Ty} {z : α}
theorem mK {off n : Nat} {k : IntKind} {j : Int} {te : TI} {el : Nat} (hx : A.op fr x = .ptr tg off) (hy : A.op fr y = .int k j) (hT : T.dz[ty']? = some ti) (hk : ti.k = .array n el) (hE : T.dz[el]? = some te) (h0 : 0 ≤ j) (h1 : j.toNat < n)
 (h : ay P fr ops rest (A.set d (.ptr tg (off + j.toNat * te.size))) fun A' l' => K A' ((A, { d := some d, ty := .ptr tg (off + j.toNat * te.size), rs := cA x ++ cA y }) :: l')) : ay P fr ops (⟨some d, .indexAddr ty' x y, t, p, e, none⟩ :: rest) A K :=
 bR (bl rfl rfl fun a w M _ hr _ => by
  obtain ⟨hdx, hdy⟩ := op2 hr
  rw [hx] at hdx; rw [hy] at hdy
  obtain ⟨b, hb, ex⟩ := hdx
  have ey : a.eval y = .int k j := hdy
  exact ⟨_, by simp only [execOp, ex, ey, Sem.run_bind, jw hT hk hE h0 h1]; rfl, b, hb, rfl⟩) h
end
end Go.T
namespace Go.T
open Go Go.RowKit
section
variable {P : Program} {fr : Fr} {ops : Array Oper} {A : As} {rest : List Oper} {K : As → List (As × Fx) → Prop} {d : Nat} {t ty' ty2 : TypeId} {p : String} {e : Array Edge} [T : lq P]
variable {α : Type} [Inhabited α] {E : El α} {xs ys : List α} {x y : Operand} {tg i o s Tb : Nat} {ti : TI} {ty : Ty} {z : α}
end
section
variable {P : Program} {A : As} {fn : Func} {n : Nat} {w0 : World} {M0 : bI} [T : lq P]
end
section
variable {P : Program} {fr : Fr} {ops : Array Oper} {A : As} {rest : List Oper} {K : As → List (As × Fx) → Prop} {d : Nat} {t ty' ty2 : TypeId} {p : String} {e : Array Edge} {x y : Operand}
end
end Go.T
namespace Go.T
open Go Go.RowKit
structure Re (ρ : List (Nat × Nat)) (M M' : bI) : Prop where
  none : ∀ b, M b = none → M' b = none
  some : ∀ x ∈ ρ, ∀ b, M b = some x.1 → M' b = some x.2
def Conv (ρ : List (Nat × Nat)) (s t : Ty) : Prop := ∀ w M M' v, Wf w M → Wf w M' → Re ρ M M' → s.den w M v → t.den w M' v
def sw (ρ : List (Nat × Nat)) : List Ty → List Ty → Prop
  | [], [] => True
  | s :: ss, t :: ts => Conv ρ s t ∧ sw ρ ss ts
  | _, _ => False
theorem fT {ρ : List (Nat × Nat)} : sw ρ [] [] := trivial
theorem cV {ρ : List (Nat × Nat)} {s t : Ty} {ss ts : List Ty} (h' : sw ρ ss ts) (h : Conv ρ s t) : sw ρ (s :: ss) (t :: ts) := ⟨h, h'⟩
theorem oB {ρ : List (Nat × Nat)} {w : World} {M M' : bI} (wf : Wf w M) (wf' : Wf w M') (hre : Re ρ M M') : ∀ {ss ts : List Ty} {vs : List Value}, sw ρ ss ts → cS w M ss vs → cS w M' ts vs
  | [], [], [], _, _ => trivial
  | _ :: _, _ :: _, _ :: _, ⟨h, h'⟩, ⟨h1, h2⟩ => ⟨h _ _ _ _ wf wf' hre h1, oB wf wf' hre h' h2⟩
theorem iC {ρ : List (Nat × Nat)} {t : Ty} (h1 : t.deps = []) (h2 : t.cdeps = []) : Conv ρ t t := fun w M M' v _ _ hre h =>
 t.mono (S := fun _ => True) (K := fun _ => True) ⟨Nat.le_refl _, rfl, rfl, rfl, fun b _ hm => ⟨hre.none b hm, rfl⟩, fun b t _ h => absurd trivial h⟩ BL AZ h
theorem mB {ρ : List (Nat × Nat)} {s t : Ty} (h1 : t.deps = []) (h2 : t.cdeps = []) (h : s = t) : Conv ρ s t := by subst h; exact iC h1 h2
theorem fD {ρ : List (Nat × Nat)} {α : Type} {E : El α} {T a b : Nat} {xs : List α} (h : (a, b) ∈ ρ) : Conv ρ (.row E T a xs) (.row E T b xs) := fun _ _ _ _ _ _ hre hr =>
 Kp hr (fun k hk => hre.some _ h k hk) hre.none
theorem mq {ρ : List (Nat × Nat)} {α : Type} {E : El α} {T b : Nat} : Conv ρ (.ex (.slice none 0 0)) (.row E T b ([] : List α)) := fun _ _ _ _ _ _ _ h => Ty.gr _ _ _ h
theorem kO {ρ : List (Nat × Nat)} {a b n : Nat} (h : (a, b) ∈ ρ) : Conv ρ (.vs a n) (.vs b n) := fun _ _ _ _ _ _ hre hv =>
 hv.imp id fun ⟨k, c, hk, e, h1, h2⟩ => ⟨k, c, hre.some _ h k hk, e, h1, h2⟩
theorem jK {ρ : List (Nat × Nat)} {l l' : List Ty} (h : sw ρ l l') : Conv ρ (.agg l) (.agg l') := fun _ _ _ _ wf wf' hre ⟨cs, e, hd⟩ => ⟨cs, e, oB wf wf' hre h hd⟩
theorem va {ρ : List (Nat × Nat)} {l l' : List Ty} (h : sw ρ l l') : Conv ρ (.iF l) (.iF l') := fun _ _ _ _ wf wf' hre ⟨cs, e, hd⟩ => ⟨cs, e, oB wf wf' hre h hd⟩
def uj (ρ : List (Nat × Nat)) (a : Nat) (C : Cont) (b : Nat) (D : Cont) : Prop := ∀ w M M', Wf w M → Wf w M' → Re ρ M M' → C.den w M a → D.den w M' b
theorem Ke {ρ : List (Nat × Nat)} {a b T : Nat} {l l' : List Ty} (h : (a, b) ∈ ρ) (hc : sw ρ l l') : uj ρ a (.cells T l) b (.cells T l') := fun _ _ _ wf wf' hre ⟨k, cs, h1, h2, h3⟩ =>
 ⟨k, cs, hre.some _ h k h1, h2, oB wf wf' hre hc h3⟩
theorem ef {w : World} {M M' : bI} (hre : ∀ b, M b = none → M' b = none) {l : List Ty} {vs : List Value} (h1 : cR l = []) (h2 : cB l = []) (h : cS w M l vs) : cS w M' l vs :=
 b7 (S := fun _ => True) (K := fun _ => True) ⟨Nat.le_refl _, rfl, rfl, rfl, fun b _ hm => ⟨hre b hm, rfl⟩, fun b t _ h => absurd trivial h⟩ BL AZ h
theorem dP {ρ : List (Nat × Nat)} {a b T : Nat} {α : Type} {E : El α} {xs ys : List α} (h : (a, b) ∈ ρ) (e : xs = ys) : uj ρ a (.vec E T xs) b (.vec E T ys) := fun _ _ _ _ _ hre hd => by
 subst e
 exact hd.imp id fun ⟨k, cs, h1, h2, h3⟩ => ⟨k, cs, hre.some _ h k h1, h2, ef hre.none (E.jd _) (E.kA _) h3⟩
def cT (F : List Nat) (post : List (Nat × Cont)) (w0 : World) (M0 : bI) (res : Ty) (e : Ending) (w' : World) : Prop :=
  ∃ r M', e = .returned r ∧ Wf w' M' ∧ Le (fun t => 1 ≤ t) (fun t => 1 ≤ t ∧ t ∉ F) w0 M0 w' M' ∧ res.den w' M' r ∧ ∀ x ∈ post, x.2.den w' M' x.1
def fG (P : Program) (f : FuncId) (F : List Nat) (pre : List (Nat × Cont)) (args : List Ty) (post : List (Nat × Cont)) (res : Ty) : Prop :=
  (∃ fn, P.funcs[f]? = some fn ∧ (fn.name == "runtime.NumGoroutine") = false ∧ fn.body.isNone = false) ∧
  ∀ w M vs, Wf w M → cS w M args vs → (∀ x ∈ pre, x.2.den w M x.1) → Calls P f vs.toArray w (cT F post w M res)
section
variable {P : Program} {fr : Fr} {ops : Array Oper} {A : As} {rest : List Oper} {K : As → List (As × Fx) → Prop} {d : Nat} {t ty' : TypeId} {p : String} {e : Array Edge}
def nG (args : List Ty) (pre : List (Nat × Cont)) : As := ⟨fun c => (args[c]?).getD Ty.any, pre⟩
theorem ej {f : FuncId} {fn : Func} {c : Code} {F : List Nat} {pre post : List (Nat × Cont)} {args : List Ty} {res : Ty} {n : Nat} (hf : P.funcs[f]? = some fn) (hb : fn.body = some c) (hn : (fn.name == "runtime.NumGoroutine") = false) (hnt : fn.ntmps = n) (hl : args.length ≤ n)
    (h : ∀ w0 M0, fS P ⟨n, w0, M0, F, .plain⟩ c (nG args pre) (bodyPost P fn (cT F post w0 M0 res))) : fG P f F pre args post res := by
  refine ⟨⟨fn, hf, hn, by rw [hb]; rfl⟩, fun w M vs wf hd hpre => calls_of_wp hf hb (wpIn_wide.1 (h w M _ _ ?_))⟩
  have hlen := cO hd
  refine ⟨M, ⟨wf, Le.refl _ _ _ _, by simp [hnt, hlen]; omega, Defs.nil⟩, fun c hc => ?_, hpre⟩
  simp only [nG]
  cases ha : args[c]? with
  | none => trivial
  | some ty =>
    obtain ⟨v, hv, hdv⟩ := dr hd c ty ha
    have : (vs.toArray ++ Array.replicate (fn.ntmps - vs.toArray.size) undef).getD c undef = v := by
      have hlt : c < vs.length := (List.getElem?_eq_some_iff.1 hv).1
      rw [Array.getD_eq_getD_getElem?, Array.getElem?_append_left ni]
      simp [hv]
    rw [this]; exact hdv
def pI (L : List Nat) (M : bI) : bI := fun b => match M b with | none => none | some t => if t = 0 ∨ t ∈ L then some t else none
theorem sO {L : List Nat} {M : bI} {b : Nat} (h : M b = none) : pI L M b = none := by simp [pI, h]
theorem B3 {L : List Nat} {M : bI} {b t : Nat} (h : M b = some t) (ht : t = 0 ∨ t ∈ L) : pI L M b = some t := by simp [pI, h, ht]
theorem LH {L : List Nat} {M : bI} {b t : Nat} (h : M b = some t) (h0 : 1 ≤ t) (ht : t ∉ L) : pI L M b = none := by
 have : ¬ (t = 0 ∨ t ∈ L) := fun h => h.elim aE ht
 simp [pI, h, this]
theorem wO {L : List Nat} {M : bI} {b t : Nat} (h : pI L M b = some t) : M b = some t := by
 unfold pI at h
 split at h
 ·cases h
 rename_i u hu
 split at h
 ·rw [← h]; exact hu
 cases h
theorem mI {L : List Nat} {w : World} {M : bI} (wf : Wf w M) : Wf w (pI L M) :=
 ⟨fun b t h => wf.lt b t (wO h), fun b b' t ht1 h h' => wf.inj b b' t ht1 (wO h) (wO h')⟩
def Nw (L : List Nat) : List (Nat × Nat) := L.map fun x => (x, x)
theorem HQ {L : List Nat} {M : bI} : Re (Nw L) M (pI L M) :=
 ⟨fun b h => sO h, fun x hx b h => by
  obtain ⟨y, hy, rfl⟩ := List.mem_map.1 hx
  exact B3 h (.inr hy)⟩
def mO (L : List Nat) (s t : Ty) : Prop := ∀ w M v, Wf w M → s.den w M v → t.den w (pI L M) v
theorem e8 {L : List Nat} {s t : Ty} (h : Conv (Nw L) s t) : mO L s t := fun w M v wf hs => h w M _ v wf (mI wf) HQ hs
theorem P3 {L : List Nat} {α : Type} {E : El α} {T tg : Nat} {xs ys : List α} (h : 1 ≤ tg) (hL : L.contains tg = false) (e : xs = ys) : mO L (Ty.row E T tg xs) (Ty.sl E ys) := fun w M v wf hr => by
 subst e
 exact zC wf hr (fun b hb => LH hb h (by simpa using hL)) (fun b hb => sO hb)
def rM (A : As) (L : List Nat) : List (Nat × Cont) → Prop
  | [] => True
  | (b, D) :: r => (∃ C, A.tag b = some C ∧ uj (Nw L) b C b D) ∧ rM A L r
theorem jt {L : List Nat} : rM A L [] := trivial
theorem eS {L : List Nat} {b : Nat} {C D : Cont} {r : List (Nat × Cont)} (h : A.tag b = some C) (hc : uj (Nw L) b C b D) (h' : rM A L r) : rM A L ((b, D) :: r) := ⟨⟨C, h, hc⟩, h'⟩
theorem tj {L : List Nat} {w : World} {M : bI} (wf : Wf w M) (ht : ∀ x ∈ A.tags, x.2.den w M x.1) : ∀ {r : List (Nat × Cont)}, rM A L r → ∀ x ∈ r, x.2.den w (pI L M) x.1
  | (b, D) :: r, ⟨⟨C, h, hc⟩, h'⟩, x, hx => by
    rcases List.mem_cons.1 hx with rfl | hx
    · exact hc w M _ wf (mI wf) HQ (ht _ (cj h))
    · exact tj wf ht h' x hx
theorem mY {L : List Nat} {fr : Fr} {w : World} {M : bI} (hL : ∀ t ∈ fr.pass, t ∈ L) (hb : fr.base w M) : Le fr.kd.J8 (fun t => 1 ≤ t ∧ t ∉ fr.pass) fr.w0 fr.M0 w (pI L M) :=
 ⟨hb.size, hb.os, hb.tape, hb.out, fun b hlt hm => ⟨sO (hb.o8 b hlt hm).1, (hb.o8 b hlt hm).2⟩, fun b t hm ht => by
  obtain ⟨h1, h2⟩ := hb.own b t hm ht
  refine ⟨B3 h1 ?_, fun hs => h2 hs⟩
  by_cases h0 : t = 0
  ·exact .inl h0
  refine .inr (hL t ?_)
  by_cases h : t ∈ fr.pass
  ·exact h
  exact absurd ⟨by omega, h⟩ ht⟩
section
variable {fn : Func} {n : Nat} {w0 : World} {M0 : bI} {F : List Nat} {post : List (Nat × Cont)}
theorem FJ (L : List Nat) (hr : fn.results = #[]) (hL : ∀ t ∈ F, t ∈ L) (hp : rM A L post) : dG ⟨n, w0, M0, F, .plain⟩ A (bodyPost P fn (cT F post w0 M0 (Ty.iF [])) .ret) := by
 intro a w ⟨M, ok, hsl, ht⟩
 exact ⟨ok.eH bB, _, results_none hr _ _ _, _, pI L M, rfl, mI ok.wf, mY hL ok.base, ⟨_, rfl, trivial⟩, tj ok.wf ht hp⟩
theorem l9 (L : List Nat) {tm : Nat} {res : Ty} (hr : fn.results = #[.tmp tm]) (htm : Nat.blt tm n = true) (hL : ∀ t ∈ F, t ∈ L) (hp : rM A L post) (hs : mO L (A.slots tm) res) : dG ⟨n, w0, M0, F, .plain⟩ A (bodyPost P fn (cT F post w0 M0 res) .ret) := by
 intro a w ⟨M, ok, hsl, ht⟩
 exact ⟨ok.eH bB, _, results_tmp hr _ _ _, _, pI L M, rfl, mI ok.wf, mY hL ok.base, hs _ _ _ ok.wf (hsl tm (by simpa using htm)), tj ok.wf ht hp⟩
theorem zh (L : List Nat) {t1 t2 : Nat} {r1 r2 : Ty} (hr : fn.results = #[.tmp t1, .tmp t2]) (h1 : Nat.blt t1 n = true) (h2 : Nat.blt t2 n = true) (hL : ∀ t ∈ F, t ∈ L) (hp : rM A L post) (hs1 : mO L (A.slots t1) r1) (hs2 : mO L (A.slots t2) r2) :
 dG ⟨n, w0, M0, F, .plain⟩ A (bodyPost P fn (cT F post w0 M0 (Ty.iF [r1, r2])) .ret) := by
 intro a w ⟨M, ok, hsl, ht⟩
 exact ⟨ok.eH bB, _, results_tmp2 hr _ _ _, _, pI L M, rfl, mI ok.wf, mY hL ok.base, ⟨_, rfl, hs1 _ _ _ ok.wf (hsl t1 y9), hs2 _ _ _ ok.wf (hsl t2 tv), trivial⟩, tj ok.wf ht hp⟩
end
theorem AA {f : FuncId} {F : List Nat} {pre post : List (Nat × Cont)} {args : List Ty} {res : Ty} (hF : fG P f F pre args post res) (vs : Array Value) (w : World) : (callFunc f vs).run P w = .ok (.enter f vs) w := by
 obtain ⟨⟨fn, hf, hn, hb⟩, _⟩ := hF
 have hn' : fn.name ≠ "runtime.NumGoroutine" := by simpa using hn
 have hb' : fn.body ≠ none := fun h => by rw [h] at hb; cases hb
 simp [callFunc, hf, hn', hb']
def ru (ρ : List (Nat × Nat)) (M : bI) : bI := fun b => match M b with | none => none | some t => some ((ρ.lookup t).getD 0)
def uo (ρ : List (Nat × Nat)) : Bool := ρ.all fun x => Nat.ble 1 x.1 && (Nat.ble 1 x.2 && (Nat.blt x.1 4096 == Nat.blt x.2 4096 && ρ.all fun y => (x.1 == y.1) == (x.2 == y.2)))
theorem lF {ρ : List (Nat × Nat)} (h : uo ρ = true) : ∀ x ∈ ρ, 1 ≤ x.1 ∧ 1 ≤ x.2 ∧ ∀ y ∈ ρ, (x.1 = y.1 ↔ x.2 = y.2) := by
 intro x hx
 simp only [uo, List.all_eq_true, Bool.and_eq_true, Nat.ble_eq, beq_iff_eq] at h
 obtain ⟨h1, h2, _, h3⟩ := h x hx
 refine ⟨h1, h2, fun y hy => ?_⟩
 have := h3 y hy
 rw [Bool.eq_iff_iff] at this
 simpa using this
theorem zH {ρ : List (Nat × Nat)} (h : uo ρ = true) {a b : Nat} (hm : (a, b) ∈ ρ) : a < 4096 ↔ b < 4096 := by
 simp only [uo, List.all_eq_true, Bool.and_eq_true, beq_iff_eq] at h
 have := (h _ hm).2.2.1
 rw [Bool.eq_iff_iff] at this
 simpa using this
theorem kC {ρ : List (Nat × Nat)} {a b : Nat} (h : ρ.lookup a = some b) : (a, b) ∈ ρ := by
  induction ρ with
  | nil => cases h
  | cons x l ih =>
    obtain ⟨k, v⟩ := x
    rw [List.lookup_cons] at h
    by_cases e : a = k
    · subst e; simp at h; subst h; exact List.mem_cons_self
    · have : (a == k) = false := by simpa using e
      rw [this] at h; exact List.mem_cons_of_mem _ (ih h)
theorem sB {ρ : List (Nat × Nat)} (h : uo ρ = true) {a b : Nat} (hm : (a, b) ∈ ρ) : ρ.lookup a = some b := by
  cases hl : ρ.lookup a with
  | none =>
    exfalso
    induction ρ with
    | nil => cases hm
    | cons x l ih =>
      obtain ⟨k, v⟩ := x
      rw [List.lookup_cons] at hl
      by_cases e : a = k
      · subst e; simp at hl
      · have e' : (a == k) = false := by simpa using e
        rw [e'] at hl
        rcases List.mem_cons.1 hm with hm | hm
        · exact e (congrArg Prod.fst hm)
        · refine ih ?_ hm hl
          simp only [uo, List.all_eq_true, List.mem_cons, forall_eq_or_imp, Bool.and_eq_true] at h ⊢
          exact fun x hx => ⟨(h.2 x hx).1, (h.2 x hx).2.1, (h.2 x hx).2.2.1, (h.2 x hx).2.2.2.2⟩
  | some c =>
    have := ((lF h _ hm).2.2 _ (kC hl)).1 rfl
    exact congrArg some this.symm
theorem y5 {ρ : List (Nat × Nat)} {M : bI} {b g : Nat} (h : ru ρ M b = some g) (h1 : 1 ≤ g) : ∃ t, M b = some t ∧ (t, g) ∈ ρ := by
  unfold ru at h
  split at h
  · cases h
  · rename_i t ht
    cases hl : ρ.lookup t with
    | none => rw [hl] at h; injection h with h; simp at h; omega
    | some c => rw [hl] at h; injection h with h; simp at h; subst h; exact ⟨t, ht, kC hl⟩
theorem p9 {ρ : List (Nat × Nat)} {M : bI} {b : Nat} (h : M b = none) : ru ρ M b = none := by simp [ru, h]
theorem Er {ρ : List (Nat × Nat)} (hr : uo ρ = true) {M : bI} {b t g : Nat} (h : M b = some t) (hm : (t, g) ∈ ρ) : ru ρ M b = some g := by simp [ru, h, sB hr hm]
theorem A5 {ρ : List (Nat × Nat)} {M : bI} {b t : Nat} (h : M b = some t) (hm : ρ.lookup t = none) : ru ρ M b = some 0 := by simp [ru, h, hm]
theorem KO {ρ : List (Nat × Nat)} (hr : uo ρ = true) {w : World} {M : bI} (wf : Wf w M) : Wf w (ru ρ M) := by
  refine ⟨fun b t h => ?_, fun b b' t ht1 h h' => ?_⟩
  · cases hm : M b with
    | none => rw [p9 hm] at h; cases h
    | some u => exact wf.lt b u hm
  · obtain ⟨u, hu, m⟩ := y5 h aE
    obtain ⟨u', hu', m'⟩ := y5 h' aE
    have e : u = u' := ((lF hr _ m).2.2 _ m').2 rfl
    subst e
    obtain ⟨v, rfl⟩ : ∃ v, u = v + 1 := ⟨u - 1, by have := (lF hr _ m).1; omega⟩
    exact wf.inj b b' v (by have := zH hr m; omega) hu hu'
theorem Ew {ρ : List (Nat × Nat)} (hr : uo ρ = true) {M : bI} : Re ρ M (ru ρ M) := ⟨fun _ h => p9 h, fun _ hx _ h => Er hr h hx⟩
def nu (ρ : List (Nat × Nat)) : List (Nat × Nat) := ρ.map fun x => (x.2, x.1)
theorem OA {ρ : List (Nat × Nat)} (h : uo ρ = true) : uo (nu ρ) = true := by
 simp only [uo, nu, List.all_eq_true, Bool.and_eq_true, List.mem_map] at h ⊢
 rintro _ ⟨x, hx, rfl⟩
 obtain ⟨h1, h2, h4, h3⟩ := h x hx
 refine ⟨h2, h1, by simpa using (beq_iff_eq.1 h4).symm, ?_⟩
 rintro _ ⟨y, hy, rfl⟩
 have := h3 y hy
 simp only [beq_iff_eq] at this ⊢
 exact this.symm
def r0 (w : World) (ρ : List (Nat × Nat)) (mv : List Nat) (M M' : bI) : bI := fun b =>
  if b < w.heap.size ∧ (∀ t, M b = some t → t ∉ mv) then M b else (M' b).bind fun g => (nu ρ).lookup g
theorem GL {ρ : List (Nat × Nat)} {mv F : List Nat} {w w' : World} {M M' : bI} (hr : uo ρ = true) (hmv : ∀ x ∈ ρ, x.1 ∈ mv ∨ x.2 ∈ F) (hmr : ∀ t ∈ mv, ∃ g, (t, g) ∈ ρ) (wf : Wf w M) (wf' : Wf w' M') (le : Le (fun t => 1 ≤ t) (fun t => 1 ≤ t ∧ t ∉ F) w (ru ρ M) w' M') :
    Wf w' (r0 w ρ mv M M') ∧ Le (· ∈ ρ.map Prod.fst) (· ∈ mv) w M w' (r0 w ρ mv M M') ∧ Re (nu ρ) M' (r0 w ρ mv M M') := by
  have hsw := OA hr
  have memsw : ∀ {t g : Nat}, (t, g) ∈ ρ → (g, t) ∈ nu ρ := fun h => List.mem_map.2 ⟨_, h, rfl⟩
  have memsw' : ∀ {t g : Nat}, (g, t) ∈ nu ρ → (t, g) ∈ ρ := fun h => by
    obtain ⟨⟨a, b⟩, hx, he⟩ := List.mem_map.1 h
    injection he with h1 h2
    subst h1; subst h2; exact hx
  -- an old block whose tag stays
  have old : ∀ b t, M b = some t → t ∉ mv → M' b = some ((ρ.lookup t).getD 0) := fun b t hm hn => by
    cases hl : ρ.lookup t with
    | none => exact (le.own b 0 (A5 hm hl) aE).1
    | some g =>
      have hx := kC hl
      have hg : g ∈ F := (hmv _ hx).resolve_left hn
      exact (le.own b g (Er hr hm hx) (fun h => h.2 hg)).1
  have key : ∀ b, M' b = none → r0 w ρ mv M M' b = none := fun b h => by
    unfold r0
    split
    · rename_i hc
      cases hm : M b with
      | none => rfl
      | some t => rw [old b t hm (hc.2 t hm)] at h; cases h
    · rw [h]; rfl
  have key2 : ∀ t g, (t, g) ∈ ρ → ∀ b, M' b = some g → r0 w ρ mv M M' b = some t := fun t g hx b h => by
    have h1 := (lF hr _ hx)
    unfold r0
    split
    · rename_i hc
      cases hm : M b with
      | none =>
        have := (le.o8 b hc.1 (p9 hm)).1
        rw [this] at h; cases h
      | some u =>
        have h2 := old b u hm (hc.2 u hm)
        rw [h2] at h
        injection h with h
        cases hl : ρ.lookup u with
        | none => rw [hl] at h; simp at h; omega
        | some c =>
          rw [hl] at h; simp at h; subst h
          have := (h1.2.2 _ (kC hl)).2 rfl
          exact congrArg some this.symm
    · rw [h]; exact sB hsw (memsw hx)
  refine ⟨⟨fun b t h => ?_, fun b b' t ht1 h h' => ?_⟩, ⟨le.size, le.os, le.tape, le.out, fun b hb hm => ?_, fun b t hm hk => ?_⟩, ⟨key, fun x hx b h => key2 _ _ (memsw' hx) b h⟩⟩
  · unfold r0 at h
    split at h
    · rename_i hc; exact Nat.lt_of_lt_of_le hc.1 le.size
    · obtain ⟨g, hg, _⟩ := Option.bind_eq_some_iff.1 h
      exact wf'.lt b g hg
  · -- injective
    have part : ∀ b, r0 w ρ mv M M' b = some (t + 1) → (M b = some (t + 1) ∧ t + 1 ∉ mv) ∨ ∃ g, (t + 1, g) ∈ ρ ∧ M' b = some g ∧ 1 ≤ g := fun b h => by
      unfold r0 at h
      split at h
      · rename_i hc; exact .inl ⟨h, hc.2 _ h⟩
      · obtain ⟨g, hg, hl⟩ := Option.bind_eq_some_iff.1 h
        have hx := memsw' (kC hl)
        exact .inr ⟨g, hx, hg, (lF hr _ hx).2.1⟩
    have both : ∀ b b' g, (t + 1, g) ∈ ρ → M' b = some g → 1 ≤ g → (M b' = some (t + 1) ∧ t + 1 ∉ mv) → b = b' := fun b b' g hx hg h1 ⟨hm, hn⟩ => by
      have h2 := old b' _ hm hn
      rw [sB hr hx] at h2
      simp at h2
      obtain ⟨v, rfl⟩ : ∃ v, g = v + 1 := ⟨g - 1, by omega⟩
      exact wf'.inj b b' v (by have := zH hr hx; omega) hg h2
    rcases part b h with h1 | ⟨g, hx, hg, h1⟩ <;> rcases part b' h' with h2 | ⟨g', hx', hg', h2⟩
    · exact wf.inj b b' t ht1 h1.1 h2.1
    · exact (both b' b g' hx' hg' h2 h1).symm
    · exact both b b' g hx hg h1 h2
    · have : g = g' := ((lF hr _ hx).2.2 _ hx').1 rfl
      subst this
      obtain ⟨v, rfl⟩ : ∃ v, g = v + 1 := ⟨g - 1, by omega⟩
      exact wf'.inj b b' v (by have := zH hr hx; omega) hg hg'
  · obtain ⟨h1, h2⟩ := le.o8 b hb (p9 hm)
    exact ⟨key b h1, h2⟩
  · have hb := wf.lt b t hm
    refine ⟨?_, fun hs => ?_⟩
    · unfold r0
      rw [if_pos ⟨hb, fun u hu => by rw [hm] at hu; injection hu with hu; exact hu ▸ hk⟩]; exact hm
    · have hl : ρ.lookup t = none := by
        cases hl : ρ.lookup t with
        | none => rfl
        | some c => exact absurd (List.mem_map.2 ⟨_, kC hl, rfl⟩) hs
      exact (le.own b 0 (A5 hm hl) aE).2 aE
def RN (fr : Fr) (ρ : List (Nat × Nat)) (mv F : List Nat) : Bool :=
  uo ρ && (ρ.all (fun x => mv.contains x.1 || F.contains x.2) && mv.all fun t => Nat.ble 1 t && (!fr.pass.contains t && ρ.any fun x => x.1 == t))
def Q7 (d : Option Nat) (res : Ty) (ρ : List (Nat × Nat)) (mv : List Nat) (sets : List (Nat × Cont)) (rs : List Nat) : Fx := { d := d, ty := res, S := ρ.map Prod.fst, K := mv, sets := sets, rs := rs, rt := ρ.map Prod.fst }
def vS (A : As) (ρ : List (Nat × Nat)) : List (Nat × Cont) → Prop
  | [] => True
  | (b, D) :: r => (∃ a C, (a, b) ∈ ρ ∧ A.tag a = some C ∧ uj ρ a C b D) ∧ vS A ρ r
theorem pre_nil {ρ : List (Nat × Nat)} : vS A ρ [] := trivial
theorem lf {ρ : List (Nat × Nat)} {a b : Nat} {C D : Cont} {r : List (Nat × Cont)} (hm : (a, b) ∈ ρ) (h : A.tag a = some C) (hc : uj ρ a C b D) (h' : vS A ρ r) : vS A ρ ((b, D) :: r) := ⟨⟨a, C, hm, h, hc⟩, h'⟩
theorem vA {ρ : List (Nat × Nat)} {w : World} {M M' : bI} (wf : Wf w M) (wf' : Wf w M') (hre : Re ρ M M') (ht : ∀ x ∈ A.tags, x.1 ∈ ρ.map Prod.fst → x.2.den w M x.1) : ∀ {r : List (Nat × Cont)}, vS A ρ r → ∀ x ∈ r, x.2.den w M' x.1
  | (b, D) :: r, ⟨⟨a, C, hm, h, hc⟩, h'⟩, x, hx => by
    rcases List.mem_cons.1 hx with rfl | hx
    · exact hc w M M' wf wf' hre (ht _ (cj h) (List.mem_map.2 ⟨_, hm, rfl⟩))
    · exact vA wf wf' hre ht h' x hx
def q8 (post : List (Nat × Cont)) (ρ : List (Nat × Nat)) : List (Nat × Cont) → Prop
  | [] => True
  | (a, D) :: r => (∃ b C, (a, b) ∈ ρ ∧ post.lookup b = some C ∧ uj (nu ρ) b C a D) ∧ q8 post ρ r
theorem post_nil {ρ : List (Nat × Nat)} {post : List (Nat × Cont)} : q8 post ρ [] := trivial
theorem gj {ρ : List (Nat × Nat)} {a b : Nat} {C D : Cont} {post r : List (Nat × Cont)} (hm : (a, b) ∈ ρ) (h : post.lookup b = some C) (hc : uj (nu ρ) b C a D) (h' : q8 post ρ r) : q8 post ρ ((a, D) :: r) := ⟨⟨b, C, hm, h, hc⟩, h'⟩
theorem EV {ρ : List (Nat × Nat)} {post : List (Nat × Cont)} {w : World} {M M' : bI} (wf : Wf w M) (wf' : Wf w M') (hre : Re (nu ρ) M M') (ht : ∀ x ∈ post, x.2.den w M x.1) : ∀ {r : List (Nat × Cont)}, q8 post ρ r → ∀ x ∈ r, x.1 ∈ ρ.map Prod.fst ∧ x.2.den w M' x.1
  | (a, D) :: r, ⟨⟨b, C, hm, h, hc⟩, h'⟩, x, hx => by
    rcases List.mem_cons.1 hx with rfl | hx
    · exact ⟨List.mem_map.2 ⟨_, hm, rfl⟩, hc w M M' wf wf' hre (ht _ (cj (A := ⟨fun _ => Ty.any, post⟩) h))⟩
    · exact EV wf wf' hre ht h' x hx
theorem Af {ρ : List (Nat × Nat)} {post : List (Nat × Cont)} : ∀ {r : List (Nat × Cont)}, q8 post ρ r → ∀ x ∈ r, x.1 ∈ ρ.map Prod.fst
  | (a, D) :: r, ⟨⟨b, C, hm, h, hc⟩, h'⟩, x, hx => by
    rcases List.mem_cons.1 hx with rfl | hx
    · exact List.mem_map.2 ⟨_, hm, rfl⟩
    · exact Af h' x hx
theorem JT (ρ : List (Nat × Nat)) (mv : List Nat) {f : FuncId} {F : List Nat} {pre post sets : List (Nat × Cont)} {args ss : List Ty} {res res' : Ty} (hF : fG P f F pre args post res) {dst : Option Nat} {call : Call} {rs : List Nat}
 (hrun : ∀ (a : Act) w M, Wf w M → (∀ c ∈ rs, c < fr.n → (A.slots c).den w M (a.tmps.getD c undef)) → ∃ vs : List Value, (execOp a.eval ⟨dst, .call call, t, p, e, none⟩).run P w = .ok (.enter f vs.toArray) w ∧ cS w M ss vs)
 (hok : RN fr ρ mv F = true) (ha : sw ρ ss args) (hpre : vS A ρ pre) (hpost : q8 post ρ sets) (hres : Conv (nu ρ) res res') :
 uU P fr ops ⟨dst, .call call, t, p, e, none⟩ A (Q7 dst res' ρ mv sets rs) := by
 simp only [RN, Bool.and_eq_true] at hok
 obtain ⟨hr, hmv, hmr⟩ := hok
 simp only [List.all_eq_true, Bool.or_eq_true, List.contains_iff_mem] at hmv
 simp only [List.all_eq_true, Bool.and_eq_true, Nat.ble_eq, List.any_eq_true, beq_iff_eq, Bool.not_eq_true', ← Bool.not_eq_true, List.contains_iff_mem] at hmr
 refine ⟨rfl, fun x hx => .inl (Af hpost x hx), fun u hu => ?_, fun u hu => ⟨(hmr u hu).1, (hmr u hu).2.1⟩, fun a w M wf _ hrd htg => ?_⟩
 ·obtain ⟨x, hx, rfl⟩ := List.mem_map.1 hu
  exact (lF hr x hx).1
 rw [if_pos kY]
 obtain ⟨vs, hrun, hd⟩ := hrun a w M wf hrd
 have wfg := KO hr wf
 have hc := hF.2 w _ vs wfg (oB wf wfg (Ew hr) ha hd) (vA wf wfg (Ew hr) htg hpre)
 refine jN hrun ?_
 refine hc.mono fun en w' ⟨r, M', he, wf', le, hden, hp⟩ => ?_
 obtain ⟨h1, h2, h3⟩ := GL (mv := mv) hr hmv (fun u hu => by obtain ⟨x, hx, e⟩ := (hmr u hu).2.2; exact ⟨x.2, by rw [← e]; exact hx⟩) wf wf' le
 exact ⟨r, he, r, rfl, _, h1, h2, hres _ _ _ _ wf' h1 h3 hden, fun x hx => (EV wf' h1 h3 hp hpost x hx).2⟩
theorem AF {f : FuncId} {F : List Nat} {pre post : List (Nat × Cont)} {args : List Ty} {res : Ty} (hF : fG P f F pre args post res) {dst : Option Nat} {xs : List Operand} {ats : Array TypeId} {ss : List Ty} (hx : om A fr xs = ss) (a : Act) (w : World) (M : bI) (_ : Wf w M)
 (hrd : ∀ c ∈ xs.flatMap cA, c < fr.n → (A.slots c).den w M (a.tmps.getD c undef)) : ∃ vs : List Value, (execOp a.eval ⟨dst, .call ⟨.value (.func f), xs.toArray, ats⟩, t, p, e, none⟩).run P w = .ok (.enter f vs.toArray) w ∧ cS w M ss vs := by
 refine ⟨xs.map a.eval, ?_, hx ▸ gC hrd fun x hx c hc => List.mem_flatMap.2 ⟨x, hx, hc⟩⟩
 simp [execOp, resolve, Act.eval, Deferred.ofValue, invoke, AA hF]
theorem fM (ρ : List (Nat × Nat)) (mv : List Nat) (sets : List (Nat × Cont)) {f : FuncId} {F : List Nat} {pre post : List (Nat × Cont)} {args ss : List Ty} {res res' : Ty} (hF : fG P f F pre args post res) {dst : Option Nat} {xs : List Operand} {ats : Array TypeId}
 (hx : om A fr xs = ss) (hok : RN fr ρ mv F = true) (ha : sw ρ ss args) (hpre : vS A ρ pre) (hpost : q8 post ρ sets) (hres : Conv (nu ρ) res res')
 (h : ay P fr ops rest (A.after (Q7 dst res' ρ mv sets (xs.flatMap cA))) fun A' l => K A' ((A, Q7 dst res' ρ mv sets (xs.flatMap cA)) :: l)) : ay P fr ops (⟨dst, .call ⟨.value (.func f), xs.toArray, ats⟩, t, p, e, none⟩ :: rest) A K :=
 ⟨_, JT ρ mv hF (AF hF hx) hok ha hpre hpost hres, h⟩
end
end Go.T
