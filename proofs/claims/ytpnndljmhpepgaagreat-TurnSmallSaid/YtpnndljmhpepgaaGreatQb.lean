/- Lemmas: the program and the reference walked, plain laws. -/
import Derived.Test.YtpnndljmhpepgaaGreatQa
namespace Go.T
open Go Go.RowKit
def b8 {κ β : Type} [DecidableEq κ] : List (κ × β) → κ → Option β
  | [], _ => none
  | x :: l, k => if x.1 = k then some x.2 else b8 l k
def dQ {κ β : Type} [DecidableEq κ] : List (κ × β) → κ → β → List (κ × β)
  | [], k, v => [(k, v)]
  | x :: l, k, v => if x.1 = k then (k, v) :: l else x :: dQ l k v
theorem sJ {κ β : Type} [DecidableEq κ] (l : List (κ × β)) (k : κ) (v : β) (k' : κ) : b8 (dQ l k v) k' = if k = k' then some v else b8 l k' := by
  induction l with
  | nil => simp [dQ, b8]
  | cons x l ih =>
    simp only [dQ]
    by_cases h : x.1 = k
    · subst h; simp only [if_true, b8]; by_cases h2 : x.1 = k' <;> simp [h2]
    · rw [if_neg h]; simp only [b8, ih]
      by_cases h2 : x.1 = k'
      · subst h2; rw [if_pos rfl, if_pos rfl, if_neg (fun e => h e.symm)]
      · rw [if_neg h2, if_neg h2]
structure uJ (P : Program) (kt : TypeId) (κ : Type) [DecidableEq κ] where
  enc : κ → Value
  find : ∀ (k : κ) (ks : List κ) (es : List MapEntry) (w : World), es.map (·.key) = ks.map enc →
    (Instr.findKey kt (enc k) es).run P w = .ok ((ks.findIdx? (fun x => decide (x = k))).bind fun i => (es[i]?).map fun e => (i, e.val)) w
  check : ∀ (b : Bool) (k : κ) (w : World), (Instr.checkKey b 10000 kt (enc k)).run P w = .ok () w
  same : ∀ k, Instr.sameBits 10000 (enc k) (enc k) = true
theorem xP (kt : IntKind) (k : Int) : ∀ (ks : List Int) (es : List MapEntry) (i : Nat), es.map (·.key) = ks.map (Value.int kt) →
    Instr.findNow (.int kt) (.int kt k) es i = some ((ks.findIdx? (fun x => decide (x = k))).bind fun j => (es[j]?).map fun e => (i + j, e.val))
  | [], [], i, _ => rfl
  | [], e :: es, i, h => by cases h
  | x :: ks, [], i, h => by cases h
  | x :: ks, e :: es, i, h => by
    simp only [List.map_cons, List.cons.injEq] at h
    obtain ⟨h1, h2⟩ := h
    rw [Instr.findNow, h1]
    simp only [Instr.sameNow, if_true]
    by_cases hx : x = k
    · subst hx; simp [List.findIdx?_cons]
    · have hb : (k == x) = false := by rw [beq_eq_false_iff_ne]; exact fun e => hx e.symm
      rw [hb, xP kt k ks es (i + 1) h2]
      simp only [List.findIdx?_cons, decide_eq_false hx, Bool.false_eq_true, if_false]
      cases (ks.findIdx? fun x => decide (x = k)) with
      | none => rfl
      | some j => simp [Nat.add_assoc, Nat.add_comm]; rw [show j + (i + 1) = i + (j + 1) from by omega]
theorem Jk {P : Program} (kt : TypeId) (q : IntKind) (h : P.underlying kt = some (.int q)) (b : Bool) (k : Int) (n : Nat) (w : World) : (Instr.checkKey b (n + 1) kt (.int q k)).run P w = .ok () w := by simp [Instr.checkKey, underlying, h]
theorem Ly (q : IntKind) (k : Int) (n : Nat) : Instr.sameBits n (.int q k) (.int q k) = true := by cases n <;> simp [Instr.sameBits]
def Pq (P : Program) (kt : TypeId) (q : IntKind) (h : P.underlying kt = some (.int q)) : uJ P kt Int where
  enc := Value.int q
  find k ks es w he := by
    have := xP q k ks es 0 he
    simp [Instr.findKey, underlying, h, this]
  check b k w := Jk kt q h b k 9999 w
  same k := Ly q k 10000
section
variable {κ β : Type} [DecidableEq κ]
def BC (enc : κ → Value) (vt : β → Ty) (kvs : List (κ × β)) (w : World) (M : bI) (b : Nat) : Prop :=
  ∃ es clock, w.heap[b]? = some (.map es clock) ∧ es.toList.map (·.key) = kvs.map (fun x => enc x.1) ∧ cS w M (kvs.map fun x => vt x.2) (es.toList.map (·.val))
theorem uG {enc : κ → Value} {vt : β → Ty} (hv : ∀ v, (vt v).deps = [] ∧ (vt v).cdeps = []) {kvs : List (κ × β)} {S K : Nat → Prop} {w w' : World} {M M' : bI} {b : Nat} (le : Le S K w M w' M') (hb : w'.heap[b]? = w.heap[b]?) (h : BC enc vt kvs w M b) : BC enc vt kvs w' M' b := by
 have _ := (inferInstance : DecidableEq κ)
 obtain ⟨es, clock, h1, h2, h3⟩ := h
 refine ⟨es, clock, hb.trans h1, h2, b7 le (fun u hu => ?_) (fun u hu => ?_) h3⟩
 ·simp only [cR, List.mem_flatMap, List.mem_map] at hu
  obtain ⟨t, ⟨x, _, rfl⟩, hu⟩ := hu
  rw [(hv x.2).1] at hu; cases hu
 simp only [cB, List.mem_flatMap, List.mem_map] at hu
 obtain ⟨t, ⟨x, _, rfl⟩, hu⟩ := hu
 rw [(hv x.2).2] at hu; cases hu
structure VT (β : Type) where
  ty : β → Ty
  nodeps : ∀ v, (ty v).deps = [] ∧ (ty v).cdeps = []
def pL : VT Bool := ⟨fun b => Ty.bool b, fun _ => ⟨rfl, rfl⟩⟩
def jU (enc : κ → Value) (V : VT β) (kvs : List (κ × β)) (w : World) (M : bI) (t : Nat) : Prop := ∃ b, M b = some t ∧ BC enc V.ty kvs w M b
def Cont.mp (enc : κ → Value) (V : VT β) (kvs : List (κ × β)) : Cont :=
  { den := jU enc V kvs
    mono := fun le _ _ hs hk ⟨b, h1, h2⟩ => let ⟨h3, h4⟩ := le.own b _ h1 hk; ⟨b, h3, uG V.nodeps le (h4 hs) h2⟩ }
theorem Cont.nU {enc : κ → Value} {V : VT β} {k1 k2 : List (κ × β)} (h : k1 = k2) : (Cont.mp enc V k1).Sub (Cont.mp enc V k2) := by subst h; exact Cont.aM _
def rq (tg : Nat) (_ : World) (M : bI) (v : Value) : Prop := ∃ b, v = .map (some b) ∧ M b = some tg
def Ty.mp (tg : Nat) : Ty := ⟨rq tg, [tg], [], fun le hk _ ⟨b, e, h⟩ => ⟨b, e, (le.own b tg h (hk tg bB)).1⟩, true, fun _ ⟨_, e, _⟩ => e ▸ rfl⟩
def rL (enc : κ → Value) (V : VT β) (kvs : List (κ × β)) (w : World) (M : bI) (v : Value) : Prop := ∃ b, v = .map (some b) ∧ M b = none ∧ b < w.heap.size ∧ BC enc V.ty kvs w M b
def Ty.pm (enc : κ → Value) (V : VT β) (kvs : List (κ × β)) : Ty := ⟨rL enc V kvs, [], [], fun le _ _ ⟨b, e, h, hb, h2⟩ => let ⟨h3, h4⟩ := le.o8 b hb h; ⟨b, e, h3, Nat.lt_of_lt_of_le hb le.size, uG V.nodeps le h4 h2⟩, true, fun _ ⟨_, e, _⟩ => e ▸ rfl⟩
end
section
variable {P : Program} {κ β : Type} [DecidableEq κ]
theorem nQ (kvs : List (κ × β)) (k : κ) (i : Nat) (h : (kvs.map Prod.fst).findIdx? (fun x => decide (x = k)) = some i) : ∃ v, kvs[i]? = some (k, v) ∧ b8 kvs k = some v ∧ ∀ z, dQ kvs k z = kvs.set i (k, z) := by
  induction kvs generalizing i with
  | nil => cases h
  | cons x l ih =>
    rw [List.map_cons, List.findIdx?_cons] at h
    by_cases hx : x.1 = k
    · subst hx
      simp at h; subst h
      exact ⟨x.2, by simp, by simp [b8], fun z => by simp [dQ]⟩
    · rw [decide_eq_false hx] at h
      simp only [Bool.false_eq_true, if_false, Option.map_eq_some_iff] at h
      obtain ⟨j, hj, rfl⟩ := h
      obtain ⟨v, h1, h2, h3⟩ := ih j hj
      exact ⟨v, by simpa using h1, by simp [b8, hx, h2], fun z => by simp [dQ, hx, h3]⟩
theorem m8 (kvs : List (κ × β)) (k : κ) (h : (kvs.map Prod.fst).findIdx? (fun x => decide (x = k)) = none) : b8 kvs k = none ∧ ∀ z, dQ kvs k z = kvs ++ [(k, z)] := by
  induction kvs with
  | nil => exact ⟨rfl, fun _ => rfl⟩
  | cons x l ih =>
    rw [List.map_cons, List.findIdx?_cons] at h
    by_cases hx : x.1 = k
    · simp [hx] at h
    · rw [decide_eq_false hx] at h
      simp only [Bool.false_eq_true, if_false, Option.map_eq_none_iff] at h
      obtain ⟨h1, h2⟩ := ih h
      exact ⟨by simp [b8, hx, h1], fun z => by simp [dQ, hx, h2]⟩
theorem nO {kt : TypeId} (KK : uJ P kt κ) {vt : β → Ty} {kvs : List (κ × β)} {w : World} {M : bI} {es : Array MapEntry} (h2 : es.toList.map (·.key) = kvs.map (fun x => KK.enc x.1)) (h3 : cS w M (kvs.map fun x => vt x.2) (es.toList.map (·.val))) (k : κ) :
    (∃ i v e, (kvs.map Prod.fst).findIdx? (fun x => decide (x = k)) = some i ∧ b8 kvs k = some v ∧ es[i]? = some e ∧ e.key = KK.enc k ∧ (vt v).den w M e.val ∧ (Instr.findKey kt (KK.enc k) es.toList).run P w = .ok (some (i, e.val)) w) ∨
    ((kvs.map Prod.fst).findIdx? (fun x => decide (x = k)) = none ∧ b8 kvs k = none ∧ (Instr.findKey kt (KK.enc k) es.toList).run P w = .ok none w) := by
  have hf := KK.find k (kvs.map Prod.fst) es.toList w (by rw [h2, List.map_map]; rfl)
  cases hi : (kvs.map Prod.fst).findIdx? (fun x => decide (x = k)) with
  | none => right; rw [hi] at hf; exact ⟨rfl, (m8 kvs k hi).1, hf⟩
  | some i =>
    left
    rw [hi] at hf
    obtain ⟨v, hv, hg, _⟩ := nQ kvs k i hi
    have hl : i < es.toList.length := by
      have := congrArg List.length h2
      rw [List.length_map, List.length_map] at this
      rw [this]; exact (List.getElem?_eq_some_iff.1 hv).1
    obtain ⟨u, hu, hd⟩ := dr h3 i (vt v) (by rw [List.getElem?_map, hv]; rfl)
    rw [List.getElem?_map, List.getElem?_eq_getElem hl] at hu
    injection hu with hu
    have hk := congrArg (fun l : List Value => l[i]?) h2
    simp only [List.getElem?_map, hv, List.getElem?_eq_getElem hl, Option.map_some] at hk
    injection hk with hk
    refine ⟨i, v, es.toList[i], rfl, hg, ?_, hk, hu ▸ hd, ?_⟩
    · rw [← Array.getElem?_toList, List.getElem?_eq_getElem hl]
    · rw [hf]; show Result.ok ((es.toList[i]?).map _) w = _; rw [List.getElem?_eq_getElem hl]; rfl
end
def zeroOf (P : Program) (t : TypeId) : Option Value := (P.info? t).bind (·.zero)
theorem ze {P : Program} {t : TypeId} {z : Value} (h : zeroOf P t = some z) (w : World) : (zeroValue t).run P w = .ok z w := by
  unfold zeroOf at h
  cases hi : P.info? t with
  | none => rw [hi] at h; cases h
  | some i =>
    rw [hi] at h
    have h' : i.zero = some z := h
    simp [zeroValue, typeInfo, hi, h']
def mapOf (P : Program) (t : TypeId) : Option (TypeId × TypeId) := match P.underlying t with | some (.map k e) => some (k, e) | _ => none
theorem kF {P : Program} {t k e : TypeId} (h : mapOf P t = some (k, e)) : P.underlying t = some (.map k e) := by
 unfold mapOf at h
 split at h
 ·rename_i k' e' hu; injection h with h; injection h with h1 h2; subst h1; subst h2; exact hu
 cases h
section
variable {P : Program} {fr : Fr} {ops : Array Oper} {A : As} {rest : List Oper} {K : As → List (As × Fx) → Prop} {d : Nat} {t mt kt et : TypeId} {p : String} {e : Array Edge}
variable {κ β : Type} [DecidableEq κ]
theorem sQ (enc : κ → Value) (V : VT β) (hm : mapOf P mt = some (kt, et)) (hp : fr.pass.contains (d + 1) = false)
 (h : ay P fr ops rest (A.after { d := some d, ty := .mp (d + 1), K := [d + 1], sets := [(d + 1, .mp enc V [])] }) fun A' l' => K A' ((A, { d := some d, ty := .mp (d + 1), K := [d + 1], sets := [(d + 1, .mp enc V [])] }) :: l')) :
 ay P fr ops (⟨some d, .makeMap mt none, t, p, e, none⟩ :: rest) A K := by
 refine ⟨_, ⟨rfl, bB, bB, (fun u hu => ?_), fun a w M wf _ _ _ => ?_⟩, h⟩
 ·rw [List.mem_singleton.1 hu]; exact ⟨by omega, by simpa using hp⟩
 rw [if_pos kY]
 have hrun : (execOp a.eval ⟨some d, .makeMap mt none, t, p, e, none⟩).run P w = .ok (.value (.map (some w.heap.size))) { w with heap := w.heap.push (.map #[] 0) } := by
  simp [execOp, Instr.makeMap, newObj, Sem.run]
 refine rR hrun ?_
 refine ⟨_, rfl, fun b => if b = w.heap.size then some (d + 1) else if M b = some (d + 1) then none else M b, ⟨fun b u hb => ?_, fun b b' u ht1 hb hb' => ?_⟩, ⟨by simp, rfl, rfl, rfl, fun b hlt hm => ⟨?_, ?_⟩, fun b u hm hk => ⟨?_, fun _ => ?_⟩⟩, ⟨_, rfl, by simp⟩, fun x hx => ?_⟩
 ·simp only [Array.size_push]
  split at hb
  ·omega
  split at hb
  ·cases hb
  have := wf.lt b u hb; omega
 ·by_cases h1 : b = w.heap.size <;> by_cases h2 : b' = w.heap.size
  ·rw [h1, h2]
  ·exfalso
   simp only [h1, h2, if_true, if_false] at hb hb'
   injection hb with hb
   split at hb'
   ·cases hb'
   rename_i hn; rw [← hb] at hb'; exact hn hb'
  ·exfalso
   simp only [h1, h2, if_true, if_false] at hb hb'
   injection hb' with hb'
   split at hb
   ·cases hb
   rename_i hn; rw [← hb'] at hb; exact hn hb
  simp only [h1, h2, if_false] at hb hb'
  split at hb
  ·cases hb
  split at hb'
  ·cases hb'
  exact wf.inj b b' u ht1 hb hb'
 ·rw [if_neg aE, if_neg (by rw [hm]; simp)]; exact hm
 ·simp [Array.getElem?_push]; intro h; omega
 ·have hlt := wf.lt b u hm
  rw [if_neg aE, if_neg (by rw [hm]; intro h; injection h with h; exact hk (by simp [h]))]; exact hm
 ·have hlt := wf.lt b u hm
  simp [Array.getElem?_push]; intro h; omega
 rw [List.mem_singleton.1 hx]
 exact ⟨w.heap.size, by simp, #[], 0, by simp, rfl, trivial⟩
theorem tM {w : World} {M : bI} {b : Nat} (KK : uJ P kt κ) (V : VT β) {kvs : List (κ × β)} {z0 : β} {zv : Value} (hm : mapOf P mt = some (kt, et)) (hz : zeroOf P et = some zv) (hzd : (V.ty z0).den w M zv) (h : BC KK.enc V.ty kvs w M b) (k : κ) :
 (∃ v, (Instr.lookup mt (.map (some b)) (KK.enc k) false).run P w = .ok v w ∧ (V.ty ((b8 kvs k).getD z0)).den w M v) ∧
 ∃ v, (Instr.lookup mt (.map (some b)) (KK.enc k) true).run P w = .ok (.tuple #[v, .bool (b8 kvs k).isSome]) w ∧ (V.ty ((b8 kvs k).getD z0)).den w M v := by
 obtain ⟨es, clock, h1, h2, h3⟩ := h
 have hu := kF hm
 have hzr := ze hz
 rcases nO KK h2 h3 k with ⟨i, v, en, _, hg, _, _, hd, hf⟩ | ⟨_, hg, hf⟩
 ·rw [hg]
  refine ⟨⟨en.val, ?_, hd⟩, en.val, ?_, hd⟩ <;> simp [Instr.lookup, underlying, hu, getObj, Sem.run, h1, KK.check, hf]
 rw [hg]
 refine ⟨⟨zv, ?_, hzd⟩, zv, ?_, hzd⟩ <;> simp [Instr.lookup, underlying, hu, getObj, Sem.run, h1, KK.check, hf, hzr]
theorem Gu {x : Operand} {tg : Nat} {enc : κ → Value} {V : VT β} {kvs : List (κ × β)} (hx : A.op fr x = .mp tg) (hc : A.tag tg = some (.mp enc V kvs)) (h1 : fR tg) {a : Act} {w : World} {M : bI} {rs : List Nat} (wf : Wf w M) (hr : ∀ c ∈ cA x, c ∈ rs) (hrd : ∀ c ∈ rs, c < fr.n → (A.slots c).den w M (a.tmps.getD c undef)) (htg : ∀ y ∈ A.tags, y.1 ∈ [tg] → y.2.den w M y.1) :
 ∃ b, a.eval x = .map (some b) ∧ M b = some tg ∧ BC enc V.ty kvs w M b := by
 have hxd := cN hr hrd
 rw [hx] at hxd
 obtain ⟨b, e1, e2⟩ := hxd
 obtain ⟨b', h2, h3⟩ := htg _ (cj hc) bB
 obtain ⟨u, rfl⟩ : ∃ u, tg = u + 1 := ⟨tg - 1, by omega⟩
 have : b = b' := wf.inj b b' u aE e2 h2
 subst this
 exact ⟨b, e1, e2, h3⟩
def qt (kty : Ty) (v : Value) : Prop := ∀ w M x, kty.den w M x → x = v
theorem oo {q : IntKind} {n : Int} : qt (.int q n) (.int q n) := fun _ _ _ h => h
theorem Lx {x y : Operand} {tg : Nat} {kty : Ty} {k : κ} (KK : uJ P kt κ) {V : VT β} {kvs : List (κ × β)} {z0 : β} {zv : Value} (hx : A.op fr x = .mp tg) (hc : A.tag tg = some (.mp KK.enc V kvs)) (h1 : fR tg) (hy : A.op fr y = kty) (hk : qt kty (KK.enc k)) (hm : mapOf P mt = some (kt, et)) (hz : zeroOf P et = some zv) (hzd : ∀ w M, (V.ty z0).den w M zv)
 (h : ay P fr ops rest (A.set d (V.ty ((b8 kvs k).getD z0))) fun A' l' => K A' ((A, { d := some d, ty := V.ty ((b8 kvs k).getD z0), rs := cA x ++ cA y, rt := [tg] }) :: l')) :
 ay P fr ops (⟨some d, .lookup mt x y false, t, p, e, none⟩ :: rest) A K :=
 bR (bl rfl rfl fun a w M wf hrd htg => by
  obtain ⟨b, e1, _, h3⟩ := Gu hx hc h1 wf (fun c hc => List.mem_append_left _ hc) hrd htg
  have hyd := cN (fun c hc => List.mem_append_right (cA x) hc) hrd
  rw [hy] at hyd
  obtain ⟨v, hv, hd⟩ := (tM KK V hm hz (hzd w M) h3 k).1
  refine ⟨v, ?_, hd⟩
  simp only [execOp, e1, hk _ _ _ hyd]
  simp [hv]) h
theorem v9 {x y : Operand} {tg : Nat} {kty : Ty} {k : κ} (KK : uJ P kt κ) {V : VT β} {kvs : List (κ × β)} {z0 : β} {zv : Value} (hx : A.op fr x = .mp tg) (hc : A.tag tg = some (.mp KK.enc V kvs)) (h1 : fR tg) (hy : A.op fr y = kty) (hk : qt kty (KK.enc k)) (hm : mapOf P mt = some (kt, et)) (hz : zeroOf P et = some zv) (hzd : ∀ w M, (V.ty z0).den w M zv)
 (h : ay P fr ops rest (A.set d (.iF [V.ty ((b8 kvs k).getD z0), .bool (b8 kvs k).isSome])) fun A' l' => K A' ((A, { d := some d, ty := .iF [V.ty ((b8 kvs k).getD z0), .bool (b8 kvs k).isSome], rs := cA x ++ cA y, rt := [tg] }) :: l')) :
 ay P fr ops (⟨some d, .lookup mt x y true, t, p, e, none⟩ :: rest) A K :=
 bR (bl rfl rfl fun a w M wf hrd htg => by
  obtain ⟨b, e1, _, h3⟩ := Gu hx hc h1 wf (fun c hc => List.mem_append_left _ hc) hrd htg
  have hyd := cN (fun c hc => List.mem_append_right (cA x) hc) hrd
  rw [hy] at hyd
  obtain ⟨v, hv, hd⟩ := (tM KK V hm hz (hzd w M) h3 k).2
  refine ⟨.tuple #[v, .bool (b8 kvs k).isSome], ?_, #[v, .bool (b8 kvs k).isSome], rfl, hd, rfl, trivial⟩
  simp only [execOp, e1, hk _ _ _ hyd]
  simp [hv]) h
theorem pT {x y : Operand} {kty : Ty} {k : κ} (KK : uJ P kt κ) {V : VT β} {kvs : List (κ × β)} {z0 : β} {zv : Value} (hx : A.op fr x = .pm KK.enc V kvs) (hy : A.op fr y = kty) (hk : qt kty (KK.enc k)) (hm : mapOf P mt = some (kt, et)) (hz : zeroOf P et = some zv) (hzd : ∀ w M, (V.ty z0).den w M zv)
 (h : ay P fr ops rest (A.set d (V.ty ((b8 kvs k).getD z0))) fun A' l' => K A' ((A, { d := some d, ty := V.ty ((b8 kvs k).getD z0), rs := cA x ++ cA y }) :: l')) :
 ay P fr ops (⟨some d, .lookup mt x y false, t, p, e, none⟩ :: rest) A K :=
 bR (bl (rt := []) rfl rfl fun a w M wf hrd _ => by
  have hxd := cN (fun c hc => List.mem_append_left (cA y) hc) hrd
  rw [hx] at hxd
  obtain ⟨b, e1, _, _, h3⟩ := hxd
  have hyd := cN (fun c hc => List.mem_append_right (cA x) hc) hrd
  rw [hy] at hyd
  obtain ⟨v, hv, hd⟩ := (tM KK V hm hz (hzd w M) h3 k).1
  refine ⟨v, ?_, hd⟩
  simp only [execOp, e1, hk _ _ _ hyd]
  simp [hv]) h
theorem oq {x y z : Operand} {tg : Nat} {kty vty : Ty} {k : κ} {v : β} (KK : uJ P kt κ) {V : VT β} {kvs : List (κ × β)} (hx : A.op fr x = .mp tg) (hc : A.tag tg = some (.mp KK.enc V kvs)) (h1 : fR tg) (hy : A.op fr y = kty) (hk : qt kty (KK.enc k)) (hz : A.op fr z = vty) (hv : vty = V.ty v) (hm : mapOf P mt = some (kt, et))
 (h : ay P fr ops rest (A.after { d := none, S := [tg], sets := [(tg, .mp KK.enc V (dQ kvs k v))], rs := cA x ++ (cA y ++ cA z), rt := [tg] }) fun A' l' => K A' ((A, { d := none, S := [tg], sets := [(tg, .mp KK.enc V (dQ kvs k v))], rs := cA x ++ (cA y ++ cA z), rt := [tg] }) :: l')) :
 ay P fr ops (⟨none, .mapUpdate mt x y z, t, p, e, none⟩ :: rest) A K := by
 subst hv
 refine ⟨_, ⟨rfl, (fun x hx => .inl Oz), (fun u hu => by rw [List.mem_singleton.1 hu]; exact h1.1), bB, fun a w M wf _ hrd htg => ?_⟩, h⟩
 rw [if_pos kY]
 obtain ⟨b, e1, e2, es, clock, h3, h4, h5⟩ := Gu hx hc h1 wf (fun c hc => List.mem_append_left _ hc) hrd htg
 have hyd := cN (fun c hc => List.mem_append_right (cA x) (List.mem_append_left (cA z) hc)) hrd
 have hzd := cN (fun c hc => List.mem_append_right (cA x) (List.mem_append_right (cA y) hc)) hrd
 rw [hy] at hyd
 rw [hz] at hzd
 have hu := kF hm
 have hblt : b < w.heap.size := wf.lt b _ e2
 -- whatever is put there
 have fin : ∀ (es' : Array MapEntry) (clock' : Nat), es'.toList.map (·.key) = (dQ kvs k v).map (fun x => KK.enc x.1) → cS w M ((dQ kvs k v).map fun x => V.ty x.2) (es'.toList.map (·.val)) →
  (Instr.mapUpdate mt (.map (some b)) (KK.enc k) (a.eval z)).run P w = .ok () { w with heap := w.heap.setIfInBounds b (.map es' clock') } →
  Oper.wpIn fr.kd.g9 0 P ⟨none, .mapUpdate mt x y z, t, p, e, none⟩ a w (fun a' w' => ∃ v', a' = a.put none v' ∧ Fx.left { d := none, S := [tg], sets := [(tg, .mp KK.enc V (dQ kvs k v))], rs := cA x ++ (cA y ++ cA z), rt := [tg] } w M w' v') (fun _ _ _ => False) := by
  intro es' clock' hk' hd' hrun
  have hr : (execOp a.eval ⟨none, .mapUpdate mt x y z, t, p, e, none⟩).run P w = .ok .skip { w with heap := w.heap.setIfInBounds b (.map es' clock') } := by
   simp only [execOp, e1, hk _ _ _ hyd]
   simp [hrun]
  refine tA hr ?_
  have le : Le (· ∈ [tg]) (· ∈ ([] : List Nat)) w M { w with heap := w.heap.setIfInBounds b (.map es' clock') } M := by
   refine ⟨by simp, rfl, rfl, rfl, fun b2 hlt hm2 => ⟨hm2, ?_⟩, fun b2 u hm2 _ => ⟨hm2, fun hs => ?_⟩⟩
   ·have : b ≠ b2 := fun h => by subst h; rw [e2] at hm2; cases hm2
    simp [Array.getElem?_setIfInBounds, this]
   have : b ≠ b2 := fun h => by subst h; rw [e2] at hm2; injection hm2 with hm2; exact hs zx
   simp [Array.getElem?_setIfInBounds, this]
  refine ⟨undef, rfl, M, ⟨fun b2 u h => by simpa using wf.lt b2 u h, wf.inj⟩, le, trivial, fun x hx => ?_⟩
  rw [List.mem_singleton.1 hx]
  refine ⟨b, e2, es', clock', by simp [hblt], hk', ?_⟩
  refine b7 le (fun _ _ => by simp) (fun u hu => ?_) hd'
  simp only [cB, List.mem_flatMap, List.mem_map] at hu
  obtain ⟨t', ⟨x', _, rfl⟩, hu⟩ := hu
  rw [(V.nodeps x'.2).2] at hu; cases hu
 rcases nO KK h4 h5 k with ⟨i, v0, en, hi, hg, hen, hkey, hd, hf⟩ | ⟨hi, hg, hf⟩
 ·obtain ⟨v1, hv1, _, hput⟩ := nQ kvs k i hi
  have hil : i < es.size := (Array.getElem?_eq_some_iff.1 hen).1
  refine fin (es.modify i fun e => { e with key := KK.enc k, val := a.eval z }) clock ?_ ?_ ?_
  ·rw [hput, List.map_set]
   have : (es.modify i fun e => { e with key := KK.enc k, val := a.eval z }).toList = es.toList.set i { en with key := KK.enc k, val := a.eval z } := by
    rw [Array.toList_modify, List.modify_eq_set, Array.getElem?_toList, hen]; rfl
   rw [this, List.map_set, h4]
  ·rw [hput, List.map_set]
   have : (es.modify i fun e => { e with key := KK.enc k, val := a.eval z }).toList = es.toList.set i { en with key := KK.enc k, val := a.eval z } := by
    rw [Array.toList_modify, List.modify_eq_set, Array.getElem?_toList, hen]; rfl
   rw [this, List.map_set]
   exact nw h5 hzd
  simp [Instr.mapUpdate, underlying, hu, getObj, setObj, Sem.run, h3, KK.check, hf, hen, hkey, Instr.keyThatStays, KK.same]
 obtain ⟨_, hput⟩ := m8 kvs k hi
 refine fin (es.push { key := KK.enc k, val := a.eval z, born := clock }) (clock + 1) ?_ ?_ ?_
 ·rw [hput]; simp [h4]
 ·rw [hput]; simp only [Array.toList_push, List.map_append, List.map_cons, List.map_nil]
  exact eY h5 ⟨hzd, trivial⟩
 simp [Instr.mapUpdate, underlying, hu, getObj, setObj, Sem.run, h3, KK.check, hf]
end
section
variable {P : Program} {fr : Fr} {A : As} {Q : Exit → Act → World → Prop} {c : Code} {κ β : Type} [DecidableEq κ]
end
end Go.T
namespace Go.T
open Go Go.RowKit
def Zt : Nat := 1000000
def z8 (M : bI) : Prop := ∀ b u, M b = some u → Zt ≤ u → u = Zt + b
def Cb (J : World → bI → Prop) : Prop := ∀ w M w' M', Wf w' M' → Le (fun t => Zt ≤ t) (fun t => Zt ≤ t) w M w' M' → J w M → J w' M'
def Mu (P : Program) (l : Nat) (encs : List (List Ty)) (J : Nat → World → bI → Prop) (Jx : World → bI → Prop) : Prop :=
  ∀ (k : Nat) (tys : List Ty), encs[k]? = some tys → ∀ w M vs, Wf w M → z8 M → J k w M → cS w M tys vs →
    YieldAt Fence.wide 0 P l vs.toArray w fun e w' => ∃ M', Wf w' M' ∧ z8 M' ∧ Le (fun t => t < Zt) (fun t => t < Zt) w M w' M' ∧ ((e = .returned (.bool true) ∧ J (k + 1) w' M') ∨ (e = .returned (.bool false) ∧ Jx w' M'))
def iT (P : Program) (f : FuncId) (args : Nat → List Ty) (encs : List (List Ty)) (resD resS : Ty) : Prop :=
  (∃ fn, P.funcs[f]? = some fn ∧ (fn.name == "runtime.NumGoroutine") = false ∧ fn.body.isNone = false) ∧
  ∀ l J Jx, (∀ k, Cb (J k)) → Cb Jx → Mu P l encs J Jx → ∀ w M vs, Wf w M → z8 M → cS w M (args l) vs → J 0 w M →
    Calls P f vs.toArray w fun e w' => ∃ r M', e = .returned r ∧ Wf w' M' ∧ z8 M' ∧ ((resD.den w' M' r ∧ J encs.length w' M') ∨ (resS.den w' M' r ∧ Jx w' M'))
def r5 (J : World → bI → Prop) (w : World) (M : bI) (_ : Nat) : Prop :=
  ∃ Mc, Wf w Mc ∧ z8 Mc ∧ J w Mc ∧ (∀ b, M b = none → Mc b = none) ∧ ∀ b t, b < w.heap.size → M b = some (t + 1) → Mc b = some (Zt + b)
def CJ {J : World → bI → Prop} (hJ : Cb J) : Cont :=
  { den := r5 J, deps := [0], cdeps := [0]
    mono := fun {S K w w' M M' t} le hk hs _ _ ⟨Mc, wf, z, hj, h1, h2⟩ => by
      have hk0 : ¬ K 0 := hk 0 bB
      have hs0 : ¬ S 0 := hs 0 bB
      have zero : ∀ b, M b = some 0 → M' b = some 0 ∧ w'.heap[b]? = w.heap[b]? := fun b h => let ⟨a, c⟩ := le.own b 0 h hk0; ⟨a, c hs0⟩
      have mb : ∀ b t, Mc b = some t → t < Zt → M b = some 0 := fun b t h ht => by
        cases hm : M b with
        | none => rw [h1 b hm] at h; cases h
        | some u =>
          cases u with
          | zero => rfl
          | succ u =>
            have := h2 b u (wf.lt b t h) hm
            rw [this] at h; injection h with h; omega
      have lez : Le (fun t => Zt ≤ t) (fun t => Zt ≤ t) w Mc w' (fun b => if b < w'.heap.size then (match M' b with | none => none | some (_ + 1) => some (Zt + b) | some 0 => if b < w.heap.size ∧ M b = some 0 then Mc b else some (Zt + b)) else none) := by
        refine ⟨le.size, le.os, le.tape, le.out, fun b hb hm => ?_, fun b t hm ht => ?_⟩
        · cases hmb : M b with
          | none =>
            obtain ⟨a, c⟩ := le.o8 b hb hmb
            refine ⟨?_, c⟩
            simp only [a]; split <;> rfl
          | some u =>
            cases u with
            | zero =>
              obtain ⟨a, c⟩ := zero b hmb
              refine ⟨?_, c⟩
              simp only [a, hmb, hb, and_self, if_true, hm]; split <;> rfl
            | succ u => rw [h2 b u hb hmb] at hm; cases hm
        · have hlt := wf.lt b t hm
          have h0 := mb b t hm (Nat.lt_of_not_le ht)
          obtain ⟨a, c⟩ := zero b h0
          refine ⟨?_, fun _ => c⟩
          have : b < w'.heap.size := Nat.lt_of_lt_of_le hlt le.size
          simp only [this, if_true, a, h0, hlt, and_self]; exact hm
      have zok : z8 (fun b => if b < w'.heap.size then (match M' b with | none => none | some (_ + 1) => some (Zt + b) | some 0 => if b < w.heap.size ∧ M b = some 0 then Mc b else some (Zt + b)) else none) := by
        intro b u h hu
        simp only at h
        split at h
        · split at h
          · cases h
          · injection h with h; exact h.symm
          · split at h
            · exact z b u h hu
            · injection h with h; exact h.symm
        · cases h
      have wf' : Wf w' (fun b => if b < w'.heap.size then (match M' b with | none => none | some (_ + 1) => some (Zt + b) | some 0 => if b < w.heap.size ∧ M b = some 0 then Mc b else some (Zt + b)) else none) := by
        refine ⟨fun b t h => ?_, fun b b' t ht1 h h' => ?_⟩
        · split at h
          · assumption
          · cases h
        · by_cases hz : Zt ≤ t + 1
          · have e1 := zok b _ h hz
            have e2 := zok b' _ h' hz
            omega
          · have part : ∀ b, (if b < w'.heap.size then (match M' b with | none => none | some (_ + 1) => some (Zt + b) | some 0 => if b < w.heap.size ∧ M b = some 0 then Mc b else some (Zt + b)) else none) = some (t + 1) → Mc b = some (t + 1) := fun b h => by
              split at h
              · split at h
                · cases h
                · injection h with h; omega
                · split at h
                  · exact h
                  · injection h with h; omega
              · cases h
            exact wf.inj b b' t ht1 (part b h) (part b' h')
      refine ⟨_, wf', zok, hJ _ _ _ _ wf' lez hj, fun b h => ?_, fun b t hb h => ?_⟩
      · simp only [h]; split <;> rfl
      · simp only [h, hb, if_true] }
section
variable {P : Program} {fr : Fr} {ops : Array Oper} {A : As} {rest : List Oper} {K : As → List (As × Fx) → Prop} {d : Nat} {t : TypeId} {p : String} {e : Array Edge} {Q : Exit → Act → World → Prop}
def qd (P : Program) (fr : Fr) (ops : Array Oper) (o : Oper) (A : As) (f g : Fx) : Prop :=
  (f.d = o.dst ∧ f.K = []) ∧ (g.d = o.dst ∧ g.K = []) ∧
  ∀ a w M, Wf w M → a.tmps.size = fr.n → (∀ c, c < fr.n → (A.slots c).den w M (a.tmps.getD c undef)) → (∀ x ∈ A.tags, x.2.den w M x.1) →
    Region.wanted o (yielded ops a.tmps) = true ∧ o.wpIn fr.kd.g9 0 P a w (fun a' w' => ∃ v, a' = a.put o.dst v ∧ (f.left w M w' v ∨ g.left w M w' v)) (fun _ _ _ => False)
theorem ud {f : Fx} {a : Act} {w w' : World} {M : bI} {v : Value} (hkd : fr.kd = .iter) (hK : f.K = [])
    (ok : Ok fr a w M) (hs : ∀ c, c < fr.n → (A.slots c).den w M (a.tmps.getD c undef)) (ht : ∀ x ∈ A.tags, x.2.den w M x.1) (hl : f.left w M w' v) : (A.after f).holds fr (a.put f.d v) w' := by
  obtain ⟨M', wf', le, hv, hsets⟩ := hl
  have hnd := ok.eH (by rw [hkd]; simp)
  have hb : fr.base w' M' := (ok.base.trans le).weaken (fun t _ => by rw [hkd]; trivial) (fun t ht => ht.elim id (fun h => by rw [hK] at h; cases h))
  refine ⟨M', ⟨wf', hb, by rw [size_put, ok.size], by rw [tP, hnd]; exact Defs.nil⟩, fun c hc => ?_, fun x hx => ?_⟩
  · rw [z3 a f.d v c (by rw [ok.size]; exact hc)]
    have key : (eT f.S f.K A.slots c).den w' M' (a.tmps.getD c undef) := by
      rcases eo f.S f.K A.slots c with ⟨e, hdj⟩ | ⟨_, e⟩
      · rw [e]
        exact (A.slots c).mono le (eF hdj).1 (eF hdj).2 (hs c hc)
      · rw [e]; trivial
    simp only [As.after, qU]
    cases hfd : f.d with
    | none => simpa using key
    | some d =>
      by_cases e : d = c
      · subst e; simpa using hv
      · have e' : Nat.beq c d = false := by cases h : Nat.beq c d with | false => rfl | true => exact absurd (Nat.eq_of_beq_eq_true h).symm e
        simpa [e, e'] using key
  · rcases List.mem_append.1 hx with hx | hx
    · exact hsets x hx
    · exact gE le hx fun y hy _ => ht y hy
theorem rP {rest : List Oper} : ∀ (l : List Oper) (A : As) (K : As → List (As × Fx) → Prop) (a : Act) (w : World), ay P fr ops l A K → A.holds fr a w →
    (∀ A' s a w, K A' s → A'.holds fr a w → wpListIn fr.kd.g9 0 P ops Q rest a w) → wpListIn fr.kd.g9 0 P ops Q (l ++ rest) a w
  | [], A, K, a, w, h, ha, hk => hk A [] a w h ha
  | o :: l, A, K, a, w, ⟨f, ⟨hd, hsets, hS, hK, hop⟩, hrest⟩, ⟨M, ok, hs, ht⟩, hk => by
    have h := hop a w M ok.wf ok.size (fun c _ hc => hs c hc) (fun x hx _ => ht x hx)
    rw [List.cons_append]
    unfold wpListIn
    split
    · rename_i hw
      rw [if_pos hw] at h
      refine Oper.pX (fun a' w' ⟨v, e, hl⟩ => ?_) h
      subst e
      rw [← hd]
      exact rP l _ _ _ _ hrest (oR hS hK ok hs ht hl) fun A' s a w hk' hA => hk A' _ a w hk' hA
    · rename_i hw
      rw [if_neg hw] at h
      refine ⟨fun f _ => fr.kd.qM f, ?_⟩
      rw [← hd]
      exact rP l _ _ _ _ hrest (oR hS hK ok hs ht h) fun A' s a w hk' hA => hk A' _ a w hk' hA
theorem IG {id : Nat} {l1 l2 : List Oper} {o : Oper} (hkd : fr.kd = .iter)
 (h : ay P fr (l1 ++ o :: l2).toArray l1 A fun A1 _ => ∃ f g, qd P fr (l1 ++ o :: l2).toArray o A1 f g ∧ ay P fr (l1 ++ o :: l2).toArray l2 (A1.after f) (fun A' _ => dG fr A' (Q .normal)) ∧ ay P fr (l1 ++ o :: l2).toArray l2 (A1.after g) (fun A' _ => dG fr A' (Q .normal))) :
 fS P fr (.region id (l1 ++ o :: l2).toArray false) A Q := by
 intro a w ha
 refine wpIn_region_lit (rP l1 A _ a w h ha fun A1 s a w ⟨f, g, ⟨⟨hf1, hf2⟩, ⟨hg1, hg2⟩, hop⟩, h1, h2⟩ ⟨M, ok, hs, ht⟩ => ?_)
 obtain ⟨hw, hwp⟩ := hop a w M ok.wf ok.size hs ht
 unfold wpListIn
 rw [if_pos hw]
 refine Oper.pX (fun a' w' ⟨v, e, hl⟩ => ?_) hwp
 subst e
 rcases hl with hl | hl
 ·rw [← hf1]; exact lM l2 _ _ _ _ h1 (ud hkd hf2 ok hs ht hl) fun _ _ _ _ hk hA => hk _ _ hA
 rw [← hg1]; exact lM l2 _ _ _ _ h2 (ud hkd hg2 ok hs ht hl) fun _ _ _ _ hk hA => hk _ _ hA
theorem Pk {op : Op} {dst : Option Nat} {j s : Nat} {want : Bool} {f : Fx} (hs : oV ops j = some s) (hn : Nat.blt s fr.n = true) (hc : A.slots s = .bool want) (h1 : uU P fr ops ⟨dst, op, t, p, e, none⟩ A f) :
 uU P fr ops ⟨dst, op, t, p, e, some (j, want)⟩ A { f with rs := s :: f.rs } := by
 obtain ⟨hd, hsets, hS, hK, hop⟩ := h1
 refine ⟨hd, hsets, hS, hK, fun a w M wf hsz hrd htg => ?_⟩
 have hv := hrd s List.mem_cons_self Bo
 rw [hc] at hv
 have hy := kZ (ops := ops) hs B9 hv
 have hw : Region.wanted ⟨dst, op, t, p, e, some (j, want)⟩ (yielded ops a.tmps) = true := by simp [Region.wanted, hy]
 have h := hop a w M wf hsz (fun c hc => hrd c (List.mem_cons_of_mem _ hc)) htg
 rw [if_pos kY] at h
 rw [if_pos hw]
 exact h
theorem tQ {op : Op} {dst : Option Nat} {j s : Nat} {want : Bool} {f : Fx} (hs : oV ops j = some s) (hn : Nat.blt s fr.n = true) (hc : A.slots s = .bool want) (h1 : uU P fr ops ⟨dst, op, t, p, e, none⟩ A f)
 (h : ay P fr ops rest (A.after f) fun A' l' => K A' ((A, { f with rs := s :: f.rs }) :: l')) : ay P fr ops (⟨dst, op, t, p, e, some (j, want)⟩ :: rest) A K := ⟨_, Pk hs hn hc h1, h⟩
theorem nK {op : Op} {j s : Nat} {want c : Bool} (hs : oV ops j = some s) (hn : Nat.blt s fr.n = true) (hc : A.slots s = .bool c) (hne : (c == want) = false)
 (h : ay P fr ops rest (A.set d (.ex undef)) fun A' l' => K A' ((A, { d := some d, ty := .ex undef, rs := [s] }) :: l')) : ay P fr ops (⟨some d, op, t, p, e, some (j, want)⟩ :: rest) A K := by
 refine ⟨{ d := some d, ty := .ex undef, rs := [s] }, ⟨rfl, bB, bB, bB, fun a w M wf hsz hrd htg => ?_⟩, h⟩
 have hv := hrd s List.mem_cons_self Bo
 rw [hc] at hv
 have hy := kZ (ops := ops) hs B9 hv
 have hw : Region.wanted ⟨some d, op, t, p, e, some (j, want)⟩ (yielded ops a.tmps) = false := by
  simp only [Region.wanted, hy]
  cases c <;> cases want <;> simp_all
 rw [if_neg (by rw [hw]; simp)]
 exact ⟨M, wf, Le.refl _ _ _ _, rfl, by simp⟩
def yv (l : Nat) : Value := .func (.yield l) #[] #[]
theorem PU {op : Op} {dst : Option Nat} {j s : Nat} {want : Bool} {f g : Fx} (hs : oV ops j = some s) (hn : Nat.blt s fr.n = true) (hc : A.slots s = .bool want) (h1 : qd P fr ops ⟨dst, op, t, p, e, none⟩ A f g) :
 qd P fr ops ⟨dst, op, t, p, e, some (j, want)⟩ A f g := by
 obtain ⟨hf, hg, hop⟩ := h1
 refine ⟨hf, hg, fun a w M wf hsz hrd htg => ?_⟩
 have hv := hrd s Bo
 rw [hc] at hv
 have hy := kZ (ops := ops) hs B9 hv
 exact ⟨by simp [Region.wanted, hy], (hop a w M wf hsz hrd htg).2⟩
theorem Io {c l k : Nat} {encs : List (List Ty)} {J : Nat → World → bI → Prop} {Jx : World → bI → Prop} (hJ : ∀ k, Cb (J k)) (hJx : Cb Jx) (hY : Mu P l encs J Jx) {xs : List Operand} {ats : Array TypeId} {tys : List Ty} {dst : Option Nat}
    (hkd : fr.kd = .iter) (hc : A.op fr (.tmp c) = .ex (yv l)) (hx : om A fr xs = tys) (hd : cR tys = []) (hdc : cB tys = []) (hk : encs[k]? = some tys) (ht : A.tag 0 = some (CJ (hJ k))) :
    qd P fr ops ⟨dst, .call ⟨.value (.tmp c), xs.toArray, ats⟩, t, p, e, none⟩ A { d := dst, ty := .bool true, S := [0], sets := [(0, CJ (hJ (k + 1)))] } { d := dst, ty := .bool false, S := [0], sets := [(0, CJ hJx)] } := by
  refine ⟨⟨rfl, rfl⟩, ⟨rfl, rfl⟩, fun a w M wf hsz hrd htg => ⟨by simp [Region.wanted], ?_⟩⟩
  have hcv := cN (x := .tmp c) (rs := c :: xs.flatMap cA) (fun u hu => by exact (List.mem_singleton.1 hu) ▸ List.mem_cons_self) (fun c _ hn => hrd c hn)
  rw [hc] at hcv
  have hcv : a.eval (.tmp c) = yv l := hcv
  obtain ⟨Mc, wfc, z, hj, h1, h2⟩ := htg _ (cj ht)
  have hv : cS w Mc tys (xs.map a.eval) := ef h1 hd hdc (hx ▸ gC (rs := c :: xs.flatMap cA) (fun c _ hn => hrd c hn) fun x hx c hc => List.mem_cons_of_mem _ (List.mem_flatMap.2 ⟨x, hx, hc⟩))
  obtain ⟨fn, tmps, assign, body, hy, hR⟩ := hY k tys hk w Mc _ wfc z hj hv
  refine ⟨fun f _ => fr.kd.qM f, ?_⟩
  have hrun : (execOp a.eval ⟨dst, .call ⟨.value (.tmp c), xs.toArray, ats⟩, t, p, e, none⟩).run P w = .ok (.round l fn tmps assign body) w := by
    simp [execOp, resolve, hcv, yv, Deferred.ofValue, invoke, hy]
  rw [Oper.semAt_eq _ _ _ (by intro c h; cases h), hrun, Oper.uponIn_round]
  refine ⟨fun h => (by rw [fr.kd.tD] at h; cases h), ?_⟩
  have hfe : fr.kd.g9 = Fence.wide := by rw [hkd]; rfl
  rw [hfe]
  refine RoundIn.mono hR fun en w' ⟨Mc', wf', z', le, hor⟩ => ?_
  have Mle : Le (· ∈ [0]) (· ∈ ([] : List Nat)) w M w' (fun b => if b < w.heap.size then M b else (Mc' b).map fun _ => 0) := by
    refine ⟨le.size, le.os, le.tape, le.out, fun b hb hm => ⟨by simp [hb, hm], (le.o8 b hb (h1 b hm)).2⟩, fun b u hm _ => ⟨by simp [wf.lt b u hm, hm], fun hs => ?_⟩⟩
    cases u with
    | zero => exact absurd bB hs
    | succ u => exact (le.own b _ (h2 b u (wf.lt b _ hm) hm) aE).2 aE
  have Mwf : Wf w' (fun b => if b < w.heap.size then M b else (Mc' b).map fun _ => 0) := by
    refine ⟨fun b u h => ?_, fun b b' u ht1 h h' => ?_⟩
    · split at h
      · exact Nat.lt_of_lt_of_le ‹_› le.size
      · obtain ⟨v, hv, _⟩ := Option.map_eq_some_iff.1 h
        exact wf'.lt b v hv
    · have part : ∀ b, (if b < w.heap.size then M b else (Mc' b).map fun _ => 0) = some (u + 1) → M b = some (u + 1) := fun b h => by
        split at h
        · exact h
        · obtain ⟨v, _, hv⟩ := Option.map_eq_some_iff.1 h
          cases hv
      exact wf.inj b b' u ht1 (part b h) (part b' h')
  have hc1 : ∀ b, (if b < w.heap.size then M b else (Mc' b).map fun _ => 0) = none → Mc' b = none := fun b h => by
    split at h
    · exact (le.o8 b ‹_› (h1 b h)).1
    · simpa using h
  have hc2 : ∀ b u, b < w'.heap.size → (if b < w.heap.size then M b else (Mc' b).map fun _ => 0) = some (u + 1) → Mc' b = some (Zt + b) := fun b u _ h => by
    split at h
    · exact (le.own b _ (h2 b u ‹_› h) aE).1
    · obtain ⟨v, _, hv⟩ := Option.map_eq_some_iff.1 h
      cases hv
  rcases hor with ⟨rfl, hj'⟩ | ⟨rfl, hj'⟩
  · exact ⟨.bool true, rfl, .inl ⟨_, Mwf, Mle, rfl, fun x hx => by rw [List.mem_singleton.1 hx]; exact ⟨Mc', wf', z', hj', hc1, hc2⟩⟩⟩
  · exact ⟨.bool false, rfl, .inr ⟨_, Mwf, Mle, rfl, fun x hx => by rw [List.mem_singleton.1 hx]; exact ⟨Mc', wf', z', hj', hc1, hc2⟩⟩⟩
end
def cX (n : Nat) (J : Nat → World → bI → Prop) (Jx : World → bI → Prop) (resD resS : Ty) (e : Ending) (w' : World) : Prop :=
  ∃ r M', e = .returned r ∧ Wf w' M' ∧ z8 M' ∧ ((resD.den w' M' r ∧ J n w' M') ∨ (resS.den w' M' r ∧ Jx w' M'))
section
variable {P : Program} {A : As}
theorem IB {f : FuncId} {fn : Func} {c : Code} {args : Nat → List Ty} {encs : List (List Ty)} {resD resS : Ty} {n : Nat} (hf : P.funcs[f]? = some fn) (hb : fn.body = some c) (hn : (fn.name == "runtime.NumGoroutine") = false) (hnt : fn.ntmps = n) (hl : ∀ l, (args l).length ≤ n) (hdd : ∀ l, cR (args l) = [] ∧ cB (args l) = [])
    (h : ∀ l J Jx (hJ : ∀ k, Cb (J k)) (hJx : Cb Jx), Mu P l encs J Jx → ∀ w0 M0, fS P ⟨n, w0, M0, [], .iter⟩ c (nG (args l) [(0, CJ (hJ 0))]) (bodyPost P fn (cX encs.length J Jx resD resS))) : iT P f args encs resD resS := by
  refine ⟨⟨fn, hf, hn, by rw [hb]; rfl⟩, fun l J Jx hJ hJx hY w M vs wf z hd hj => calls_of_wp hf hb (wpIn_wide.1 (h l J Jx hJ hJx hY w (Jg M) _ _ ?_))⟩
  have hlen := cO hd
  have hl := hl l
  refine ⟨Jg M, ⟨FB wf, Le.refl _ _ _ _, by simp [hnt, hlen]; omega, Defs.nil⟩, fun c hc => ?_, fun x hx => ?_⟩
  · simp only [nG]
    cases ha : (args l)[c]? with
    | none => trivial
    | some ty =>
      obtain ⟨v, hv, hdv⟩ := dr (qj (hdd l).1 (hdd l).2 hd) c ty ha
      have : (vs.toArray ++ Array.replicate (fn.ntmps - vs.toArray.size) undef).getD c undef = v := by
        have hlt : c < vs.length := (List.getElem?_eq_some_iff.1 hv).1
        rw [Array.getD_eq_getD_getElem?, Array.getElem?_append_left ni]
        simp [hv]
      rw [this]; exact hdv
  · rw [List.mem_singleton.1 hx]
    refine ⟨M, wf, z, hj, fun b h => ?_, fun b t _ h => ?_⟩
    · unfold Jg at h; simpa using h
    · have := yD b _ h; omega
variable {fn : Func} {n m : Nat} {w0 : World} {M0 : bI} {J : Nat → World → bI → Prop} {Jx : World → bI → Prop} {resD resS : Ty}
theorem Pu {hJ : Cb (J m)} (hr : fn.results = #[]) (ht : A.tag 0 = some (CJ hJ)) : dG ⟨n, w0, M0, [], .iter⟩ A (bodyPost P fn (cX m J Jx (Ty.iF []) resS) .ret) := by
 intro a w ⟨M, ok, hsl, htg⟩
 obtain ⟨Mc, wfc, z, hj, h1, h2⟩ := htg _ (cj ht)
 exact ⟨ok.eH bB, _, results_none hr _ _ _, _, Mc, rfl, wfc, z, .inl ⟨⟨_, rfl, trivial⟩, hj⟩⟩
theorem Ml {hJx : Cb Jx} (hr : fn.results = #[]) (ht : A.tag 0 = some (CJ hJx)) : dG ⟨n, w0, M0, [], .iter⟩ A (bodyPost P fn (cX m J Jx resD (Ty.iF [])) .ret) := by
 intro a w ⟨M, ok, hsl, htg⟩
 obtain ⟨Mc, wfc, z, hj, h1, h2⟩ := htg _ (cj ht)
 exact ⟨ok.eH bB, _, results_none hr _ _ _, _, Mc, rfl, wfc, z, .inr ⟨⟨_, rfl, trivial⟩, hj⟩⟩
end
end Go.T
namespace Go.T
open Go Go.RowKit
theorem Cd : 1 ≤ Zt := by decide
def gS (M : bI) : bI := fun b => match M b with | none => none | some t => if Zt ≤ t then some 0 else some t
theorem jH {M : bI} {b : Nat} (h : M b = none) : gS M b = none := by simp [gS, h]
theorem gT {M : bI} {b t : Nat} (h : M b = some t) (ht : t < Zt) : gS M b = some t := by
 have : ¬ Zt ≤ t := by omega
 simp [gS, h, this]
theorem ya {M : bI} {b t : Nat} (h : M b = some t) (ht : Zt ≤ t) : gS M b = some 0 := by simp [gS, h, ht]
theorem qS {M : bI} {b t : Nat} (h : gS M b = some (t + 1)) : M b = some (t + 1) ∧ t + 1 < Zt := by
 unfold gS at h
 split at h
 ·cases h
 rename_i u hu
 split at h
 ·cases h
 injection h with h; subst h; exact ⟨hu, by omega⟩
theorem rA {w : World} {M : bI} (wf : Wf w M) : Wf w (gS M) :=
  ⟨fun b t h => by
    cases hm : M b with
    | none => rw [jH hm] at h; cases h
    | some u => exact wf.lt b u hm, fun b b' t ht1 h h' => wf.inj b b' t ht1 (qS h).1 (qS h').1⟩
theorem CH {M : bI} {b u : Nat} (h : gS M b = some u) : u < Zt := by
 unfold gS at h
 split at h
 ·cases h
 split at h
 ·injection h with h; subst h; decide
 injection h with h; omega
def Aj (n : Nat) (pass : List Nat) (s : Nat → Ty) : Bool := (List.range n).all fun c => (s c).cdeps.isEmpty && (s c).deps.all fun t => pass.contains t
def wE (l l' : List Nat) : Bool := l.all (fun t => l'.contains t) && l'.all fun t => Nat.ble 1 t && Nat.blt t 1000000
def Q3 (l : List Nat) : Bool := l.all fun t => Nat.ble 1 t && Nat.blt t 1000000
def qN (l : List (Nat × Cont)) : Bool := l.all fun x => Nat.ble 1 x.1 && (Nat.blt x.1 1000000 && (Q3 x.2.deps && Q3 x.2.cdeps))
theorem EB {l : List Nat} (h : Q3 l = true) : ∀ t ∈ l, 1 ≤ t ∧ t < Zt := by
 intro t ht
 simp only [Q3, List.all_eq_true, Bool.and_eq_true, Nat.ble_eq, Nat.blt_eq] at h
 exact h t ht
theorem lW {l : List (Nat × Cont)} (h : qN l = true) : ∀ x ∈ l, (1 ≤ x.1 ∧ x.1 < Zt) ∧ (∀ t ∈ x.2.deps, 1 ≤ t ∧ t < Zt) ∧ ∀ t ∈ x.2.cdeps, 1 ≤ t ∧ t < Zt := by
 intro x hx
 simp only [qN, List.all_eq_true, Bool.and_eq_true, Nat.ble_eq, Nat.blt_eq] at h
 obtain ⟨h1, h2, h3, h4⟩ := h x hx
 exact ⟨⟨h1, h2⟩, EB h3, EB h4⟩
theorem ny {n : Nat} {pass : List Nat} {s : Nat → Ty} (h : Aj n pass s = true) : ∀ c, c < n → (s c).cdeps = [] ∧ ∀ t ∈ (s c).deps, t ∈ pass := by
 intro c hc
 simp only [Aj, List.all_eq_true, Bool.and_eq_true, List.mem_range, List.isEmpty_iff, List.contains_iff_mem] at h
 exact h c hc
theorem rC {l l' : List Nat} (h : wE l l' = true) : (∀ t ∈ l, t ∈ l') ∧ ∀ t ∈ l', 1 ≤ t ∧ t < Zt := by
 simp only [wE, Bool.and_eq_true, List.all_eq_true, List.contains_iff_mem, Nat.ble_eq, Nat.blt_eq] at h
 exact ⟨h.1, h.2⟩
theorem D7 {w : World} {M : bI} {n : Nat} : ∀ (l : List (Nat × Ty)) (vs : List Value) (tm : Array Value) (s : Nat → Ty), (l.map Prod.fst).Nodup → tm.size = n → (∀ c, c < n → (s c).den w M (tm.getD c undef)) → cS w M (l.map Prod.snd) vs →
    (((l.map Prod.fst).zip vs).foldl (fun t (p, v) => t.setIfInBounds p v) tm).size = n ∧ ∀ c, c < n → (nZ l s c).den w M ((((l.map Prod.fst).zip vs).foldl (fun t (p, v) => t.setIfInBounds p v) tm).getD c undef)
  | [], [], tm, s, _, hsz, hs, _ => ⟨hsz, hs⟩
  | (d, ty) :: l, v :: vs, tm, s, hnd, hsz, hs, ⟨hv, hvs⟩ => by
    simp only [List.map_cons, List.nodup_cons] at hnd
    have hs' : ∀ c, c < n → ((fun i => bif Nat.beq i d then ty else s i) c).den w M ((tm.setIfInBounds d v).getD c undef) := fun c hc => by
      simp only [Array.getD_eq_getD_getElem?, Array.getElem?_setIfInBounds]
      by_cases e : d = c
      · subst e; simpa [hsz, hc] using hv
      · have e' : Nat.beq c d = false := by cases h : Nat.beq c d with | false => rfl | true => exact absurd (Nat.eq_of_beq_eq_true h).symm e
        simpa [e, e', Array.getD_eq_getD_getElem?] using hs c hc
    obtain ⟨h1, h2⟩ := D7 l vs (tm.setIfInBounds d v) (fun i => bif Nat.beq i d then ty else s i) hnd.2 (by simpa using hsz) hs' hvs
    have hset : ∀ c, nZ ((d, ty) :: l) s c = nZ l (fun i => bif Nat.beq i d then ty else s i) c := by
      intro c
      have hl : ∀ (l : List (Nat × Ty)) (s s' : Nat → Ty), (∀ i, i = c → i ∉ l.map Prod.fst → s i = s' i) → nZ l s c = nZ l s' c := by
        intro l
        induction l with
        | nil => intro s s' h; exact h c rfl bB
        | cons x l ih =>
          intro s s' h
          simp only [nZ]
          cases hb : Nat.beq c x.1 with
          | true => rfl
          | false =>
            simp only [cond_false]
            refine ih s s' fun i hi hm => h i hi fun hm' => ?_
            rw [List.map_cons] at hm'
            rcases List.mem_cons.1 hm' with h1 | h1
            · rw [← h1, hi] at hb; simp at hb
            · exact hm h1
      simp only [nZ]
      by_cases e : c = d
      · subst e
        have hb : Nat.beq c c = true := by simp
        rw [hb, cond_true]
        have : ∀ (l : List (Nat × Ty)) (s : Nat → Ty), c ∉ l.map Prod.fst → nZ l s c = s c := by
          intro l
          induction l with
          | nil => intro s _; rfl
          | cons x l ih =>
            intro s h
            simp only [List.map_cons, List.mem_cons, not_or] at h
            have hb : Nat.beq c x.1 = false := by cases hb : Nat.beq c x.1 with | false => rfl | true => exact absurd (Nat.eq_of_beq_eq_true hb) h.1
            simp only [nZ, hb, cond_false]
            exact ih s h.2
        rw [this l _ hnd.1]
        simp
      · have hb : Nat.beq c d = false := by cases hb : Nat.beq c d with | false => rfl | true => exact absurd (Nat.eq_of_beq_eq_true hb) e
        rw [hb, cond_false]
        exact hl l _ _ fun i hi _ => by subst hi; simp [hb]
    refine ⟨h1, fun c hc => ?_⟩
    rw [hset]; exact h2 c hc
def QA : Nat → Ty := fun _ => Ty.any
def eE (fr : Fr) (B : List (Nat × Cont)) (br : Bool) (tr : List (Nat × Cont)) : Exit → Act → World → Prop
  | .normal, a, w => As.holds fr ⟨QA, B⟩ a w
  | .ret, a, w => br = true ∧ As.holds fr ⟨QA, tr⟩ a w
  | _, _, _ => False
theorem p4 {fr : Fr} {A : As} {B : List (Nat × Cont)} {br : Bool} {tr : List (Nat × Cont)} (h : dw fr A ⟨QA, B⟩) : dG fr A (eE fr B br tr .normal) := fun _ _ ha => h.holds ha
def KJ (P : Program) (n : Nat) (pass : List Nat) (assign body : Code) (A : As) (B : List (Nat × Cont)) (br : Bool) (tr : List (Nat × Cont)) : Prop :=
  ∃ A1 : As, (∀ l w M, fS P ⟨n, w, M, pass, .round l⟩ assign A (Exit.then (fun a w' => A1.holds ⟨n, w, M, pass, .round l⟩ a w') fun _ _ _ => False)) ∧
    ∀ l w M, fS P ⟨n, w, M, pass, .round l⟩ body (A1.after { d := none, S := [0] }) (eE ⟨n, w, M, pass, .round l⟩ B br tr)
section
variable {P : Program} {fr : Fr} {A : As} {Q : Exit → Act → World → Prop}
theorem Dy {w : World} {M : bI} {l : Nat} {o : Obj} (h0 : fr.w0.heap.size ≤ l) (h1 : ∀ t, ¬ (1 ≤ t ∧ t ∉ fr.pass) → fr.M0 l ≠ some t) (hb : fr.base w M) : fr.base (w.putObj l o) M := by
 refine ⟨by simpa using hb.size, hb.os, hb.tape, hb.out, fun b hlt hm => ⟨(hb.o8 b hlt hm).1, ?_⟩, fun b t hm hk => ⟨(hb.own b t hm hk).1, fun hs => ?_⟩⟩
 ·rw [World.putObj_heap_other aE]; exact (hb.o8 b hlt hm).2
 rw [World.putObj_heap_other (fun e => h1 t hk (by rw [← e]; exact hm))]; exact (hb.own b t hm hk).2 hs
theorem xe {w : World} {M : bI} {l : Nat} {o : Obj} (hl : M l = some 0) : Le (· ∈ [0]) (· ∈ ([] : List Nat)) w M (w.putObj l o) M := by
 refine ⟨by simp, rfl, rfl, rfl, fun b hb hm => ⟨hm, World.putObj_heap_other fun e => by rw [e, hl] at hm; cases hm⟩, fun b t hm _ => ⟨hm, fun hs => World.putObj_heap_other fun e => ?_⟩⟩
 rw [e, hl] at hm; injection hm with hm; exact hs (by simp [hm])
def JJ (fr : Fr) (s : Nat → Ty) (tm : Array Value) (ds : List Deferred) (l : Nat) (r : Loop) (tg : List (Nat × Cont)) (w : World) (M : bI) : Prop :=
  fr.base w M ∧ (∀ c, c < fr.n → (s c).den w M (tm.getD c undef)) ∧ (∀ x ∈ tg, x.2.den w M x.1) ∧ M l = some 0 ∧ w.heap[l]? = some (.loop r) ∧ Defs fr w M ds
theorem PA {s : Nat → Ty} {tm : Array Value} {ds : List Deferred} {l : Nat} {r : Loop} {tg : List (Nat × Cont)} {pass' : List Nat} (hpass : wE fr.pass pass' = true) (hs : Aj fr.n pass' s = true) (ht : qN tg = true) : Cb (JJ fr s tm ds l r tg) := by
 intro w M w' M' wf' le ⟨h1, h2, h3, h4, h5, h6⟩
 obtain ⟨hp1, hp2⟩ := rC hpass
 obtain ⟨a, c⟩ := le.own l 0 h4 aB
 refine ⟨Fr.ij h1 (fun t ht => Nat.le_trans Cd ht) (fun t ht => ⟨Nat.le_trans Cd ht, fun hm => by have := (hp2 t (hp1 t hm)).2; omega⟩) le, fun c hc => ?_, fun x hx => ?_, a, (c aB).trans h5, h6.step (fun t ht => Nat.le_trans Cd ht) (fun t ht => Nat.le_trans Cd ht) le⟩
 ·obtain ⟨e1, e2⟩ := ny hs c hc
  exact (s c).mono le (fun t ht hz => by have := (hp2 t (e2 t ht)).2; omega) Gn (h2 c hc)
 obtain ⟨⟨_, e2⟩, e3, e4⟩ := lW ht x hx
 exact x.2.mono le (fun t ht hz => by have := (e3 t ht).2; omega) (fun t ht hz => by have := (e4 t ht).2; omega) aE aE (h3 x hx)
def qu (w : World) (M M3 : bI) : bI := fun b => match M b with | some u => if b < w.heap.size ∧ Zt ≤ u then some u else gS M3 b | none => gS M3 b
theorem BB {s : Nat → Ty} {tm : Array Value} {ds : List Deferred} {l : Nat} {r r3 r4 : Loop} {tg0 tg : List (Nat × Cont)} {pass' : List Nat} (hpass : wE fr.pass pass' = true) (hs : Aj fr.n pass' s = true) (ht : qN tg = true) (hkd : fr.kd = .marks)
    (h0 : fr.w0.heap.size ≤ l) (h1 : ∀ t, ¬ (1 ≤ t ∧ t ∉ fr.pass) → fr.M0 l ≠ some t)
    {w w1 w3 : World} {M M1 M3 : bI} (wf : Wf w M) (z : z8 M) (hj : JJ fr s tm ds l r tg0 w M)
    (le1 : Le (fun t => 1 ≤ t) (fun t => 1 ≤ t ∧ t ∉ pass') w (gS M) w1 M1) (wf3 : Wf w3 M3) (le3 : Le (fun t => 1 ≤ t) (fun t => 1 ≤ t ∧ t ∉ pass') (w1.putObj l (.loop r3)) M1 w3 M3)
    (htg : ∀ x ∈ tg, x.2.den w3 M3 x.1) :
    w3.heap[l]? = some (.loop r3) ∧ ∃ M4, Wf (w3.putObj l (.loop r4)) M4 ∧ z8 M4 ∧ Le (fun t => t < Zt) (fun t => t < Zt) w M (w3.putObj l (.loop r4)) M4 ∧ JJ fr s tm ds l r4 tg (w3.putObj l (.loop r4)) M4 := by
  obtain ⟨hb, hsl, _, hl, hrec, hdef⟩ := hj
  obtain ⟨hp1, hp2⟩ := rC hpass
  have hlt : l < w.heap.size := wf.lt l 0 hl
  have hZ : (1 : Nat) ≤ Zt := by decide
  -- a block whose tag is 0, or another one that stays
  have zero : ∀ b, gS M b = some 0 → M3 b = some 0 ∧ (b ≠ l → w3.heap[b]? = w.heap[b]?) := fun b h => by
    obtain ⟨a, c⟩ := le1.own b 0 h aE
    obtain ⟨a', c'⟩ := le3.own b 0 a aE
    exact ⟨a', fun e => (c' aE).trans ((World.putObj_heap_other e).trans (c aE))⟩
  have pas : ∀ b t, t ∈ pass' → M b = some t → M3 b = some t := fun b t hm h => by
    obtain ⟨a, _⟩ := le1.own b t (gT h (hp2 t hm).2) (fun h => h.2 hm)
    exact (le3.own b t a fun h => h.2 hm).1
  have o8 : ∀ b, b < w.heap.size → M b = none → M3 b = none ∧ w3.heap[b]? = w.heap[b]? := fun b hb h => by
    obtain ⟨a, c⟩ := le1.o8 b hb (jH h)
    obtain ⟨a', c'⟩ := le3.o8 b (by simpa using Nat.lt_of_lt_of_le hb le1.size) a
    exact ⟨a', c'.trans ((World.putObj_heap_other fun e => by rw [e, hl] at h; cases h).trans c)⟩
  have hl0 : gS M l = some 0 := gT hl aB
  have hM1l := (le1.own l 0 hl0 aE).1
  have hl1 : l < w1.heap.size := Nat.lt_of_lt_of_le hlt le1.size
  have hrec3 : w3.heap[l]? = some (.loop r3) := ((le3.own l 0 hM1l aE).2 aE).trans (World.putObj_heap_same hl1)
  have hM3l := (zero l hl0).1
  have hsz3 : w.heap.size ≤ w3.heap.size := Nat.le_trans le1.size (by simpa using le3.size)
  refine ⟨hrec3, qu w M M3, ?_⟩
  -- how the tags are
  have kept : ∀ b u, M b = some u → Zt ≤ u → qu w M M3 b = some u := fun b u h hu => by
    unfold qu; rw [h]; simp [wf.lt b u h, hu]
  have other : ∀ b, (∀ u, M b = some u → u < Zt) → qu w M M3 b = gS M3 b := fun b h => by
    unfold qu
    cases hm : M b with
    | none => rfl
    | some u => have := h u hm; simp only; rw [if_neg aE]
  have from3 : ∀ b t, M3 b = some t → 1 ≤ t → ∀ u, M b = some u → u < Zt := fun b t h h1 u hu => by
    rcases Nat.lt_or_ge u Zt with h2 | h2
    · exact h2
    · have := (zero b (ya hu h2)).1
      rw [this] at h; injection h with h; omega
  have none3 : ∀ b, M3 b = none → ∀ u, M b = some u → u < Zt := fun b h u hu => by
    rcases Nat.lt_or_ge u Zt with h2 | h2
    · exact h2
    · have := (zero b (ya hu h2)).1
      rw [this] at h; cases h
  have zok : z8 (qu w M M3) := fun b u h hu => by
    unfold qu at h
    split at h
    · rename_i v hv
      split at h
      · injection h with h; subst h; exact z b v hv hu
      · have := CH h; omega
    · have := CH h; omega
  have wf4 : Wf (w3.putObj l (.loop r4)) (qu w M M3) := by
    refine ⟨fun b t h => ?_, fun b b' t ht1 h h' => ?_⟩
    · rw [World.putObj_size]
      unfold qu at h
      split at h
      · split at h
        · rename_i hc; exact Nat.lt_of_lt_of_le hc.1 hsz3
        · exact (rA wf3).lt b t h
      · exact (rA wf3).lt b t h
    · by_cases hz : Zt ≤ t + 1
      · have e1 := zok b _ h hz
        have e2 := zok b' _ h' hz
        omega
      · have part : ∀ b, qu w M M3 b = some (t + 1) → M3 b = some (t + 1) := fun b h => by
          unfold qu at h
          split at h
          · split at h
            · injection h with h; omega
            · exact (qS h).1
          · exact (qS h).1
        exact wf3.inj b b' t ht1 (part b h) (part b' h')
  have le0 : Le (· ∈ [0]) (· ∈ ([] : List Nat)) w3 M3 (w3.putObj l (.loop r4)) M3 := xe hM3l
  have leZ : Le (fun t => t < Zt) (fun t => t < Zt) w M (w3.putObj l (.loop r4)) (qu w M M3) := by
    refine ⟨by simpa using hsz3, (le0.os.trans (le3.os.trans le1.os)), (le0.tape.trans (le3.tape.trans le1.tape)), (le0.out.trans (le3.out.trans le1.out)), fun b hb hm => ?_, fun b t hm ht => ⟨kept b t hm aE, fun _ => ?_⟩⟩
    · obtain ⟨a, c⟩ := o8 b hb hm
      refine ⟨by rw [other b (fun u hu => by rw [hm] at hu; cases hu)]; exact jH a, ?_⟩
      rw [World.putObj_heap_other fun e => by rw [e, hl] at hm; cases hm]; exact c
    · have hbl : b ≠ l := fun e => by rw [e, hl] at hm; injection hm with hm; omega
      rw [World.putObj_heap_other hbl]
      exact (zero b (ya hm aE)).2 hbl
  refine ⟨wf4, zok, leZ, ?_, fun c hc => ?_, fun x hx => ?_, ?_, World.putObj_heap_same (Nat.lt_of_lt_of_le hlt hsz3), ?_⟩
  · refine ⟨Nat.le_trans hb.size leZ.size, leZ.os.trans hb.os, leZ.tape.trans hb.tape, leZ.out.trans hb.out, fun b hlt' hm => ?_, fun b t hm hk => ?_⟩
    · obtain ⟨a, c⟩ := hb.o8 b hlt' hm
      obtain ⟨a', c'⟩ := leZ.o8 b (Nat.lt_of_lt_of_le hlt' hb.size) a
      exact ⟨a', c'.trans c⟩
    · obtain ⟨a, c⟩ := hb.own b t hm hk
      have hbl : b ≠ l := fun e => h1 t hk (e ▸ hm)
      by_cases ht0 : t = 0
      · subst ht0
        obtain ⟨a', c'⟩ := zero b (gT a aB)
        refine ⟨by rw [other b (fun u hu => by rw [a] at hu; injection hu with hu; omega)]; exact gT a' aB, fun hs => ?_⟩
        rw [World.putObj_heap_other hbl]; exact (c' hbl).trans (c hs)
      · have htp : t ∈ fr.pass := Classical.byContradiction fun h => hk ⟨by omega, h⟩
        have htp' := hp1 t htp
        refine ⟨by rw [other b (fun u hu => by rw [a] at hu; injection hu with hu; have := (hp2 t htp').2; omega)]; exact gT (pas b t htp' a) (hp2 t htp').2, fun hs => absurd (FK.GZ (k := fr.kd) (by omega : 1 ≤ t)) hs⟩
  · obtain ⟨e1, e2⟩ := ny hs c hc
    refine (s c).mono (S := fun _ => True) (K := fun t => t ∉ pass') ⟨leZ.size, leZ.os, leZ.tape, leZ.out, leZ.o8, fun b t hm hk => ⟨?_, fun h => absurd trivial h⟩⟩ (fun t ht h => h (e2 t ht)) Gn (hsl c hc)
    have htp : t ∈ pass' := Classical.byContradiction fun h => hk h
    rw [other b (fun u hu => by rw [hm] at hu; injection hu with hu; have := (hp2 t htp).2; omega)]
    exact gT (pas b t htp hm) (hp2 t htp).2
  · obtain ⟨⟨g1, g2⟩, e3, e4⟩ := lW ht x hx
    refine x.2.mono (w := w3) (M := M3) (S := fun t => t = 0) (K := fun t => t = 0 ∨ Zt ≤ t) ⟨by simp, rfl, rfl, rfl, fun b hb hm => ⟨?_, ?_⟩, fun b t hm hk => ⟨?_, fun _ => ?_⟩⟩ (fun t ht h => by have := e3 t ht; omega) (fun t ht h => by have := (e4 t ht).1; omega) aE aE (htg x hx)
    · rw [other b (none3 b hm)]; exact jH hm
    · exact World.putObj_heap_other fun e => by rw [e, hM3l] at hm; cases hm
    · have ht1 : 1 ≤ t := Nat.pos_of_ne_zero fun h => hk (.inl h)
      rw [other b (from3 b t hm ht1)]; exact gT hm (Nat.lt_of_not_le fun h => hk (.inr h))
    · exact World.putObj_heap_other fun e => by rw [e, hM3l] at hm; injection hm with hm; exact hk (.inl hm.symm)
  · rw [other l (fun u hu => by rw [hl] at hu; injection hu with hu; omega)]; exact gT hM3l aB
  · obtain ⟨rs, e, g1, g2, g3⟩ := hdef
    refine ⟨rs, e, g1, g2, fun q hq => ?_⟩
    obtain ⟨a, b, c⟩ := g3 q hq
    have hql : q ≠ l := fun e => by rw [e, hrec] at c; cases c
    obtain ⟨a', c'⟩ := zero q (gT a aB)
    refine ⟨by rw [other q (fun u hu => by rw [a] at hu; injection hu with hu; omega)]; exact gT a' aB, b, ?_⟩
    rw [World.putObj_heap_other hql]; exact (c' hql).trans c
theorem Bk {g : Operand} {ps : List Tmp} {assign body : Code} {gf : FuncId} {caps : List Ty} {encs : List (List Ty)} {resD resS : Ty} (s : Nat → Ty) (tg : Nat → List (Nat × Cont)) (br : Bool) (tr : List (Nat × Cont)) (pass' : List Nat)
    (hkd : fr.kd = .marks) (hg : A.op fr g = .so gf caps) (hI1 : ∃ fn, P.funcs[gf]? = some fn ∧ (fn.name == "runtime.NumGoroutine") = false ∧ fn.body.isNone = false) (hI2 : ∀ (l : Nat) (J : Nat → World → bI → Prop) (Jx : World → bI → Prop) (tm : Array Value), (∀ k, Cb (J k)) → Cb Jx → Mu P l encs J Jx → (∀ k w M, J k w M → (∀ c, c < fr.n → (s c).den w M (tm.getD c undef)) ∧ ∀ x ∈ tg k, x.2.den w M x.1) → ∀ w M vs, Wf w M → z8 M → cS w M (Ty.ex (yv l) :: caps) vs → J 0 w M → Calls P gf vs.toArray w (cX encs.length J Jx resD resS)) (hcd : ∀ t ∈ cR caps, t < Zt) (hcc : ∀ t ∈ cB caps, t < Zt)
    (hps : ps.Nodup) (hlen : ∀ tys ∈ encs, tys.length = ps.length ∧ cR tys = [] ∧ cB tys = []) (hpass : wE fr.pass pass' = true) (hs : Aj fr.n pass' s = true) (htg : ∀ k, qN (tg k) = true) (htr : qN tr = true)
    (h0 : dw fr A ⟨s, tg 0⟩)
    (hround : ∀ k tys, encs[k]? = some tys → KJ P fr.n pass' assign body ⟨nZ (ps.zip tys) s, tg k⟩ (tg (k + 1)) br tr)
    (hdone : dG fr ⟨s, tg encs.length⟩ (Q .normal)) (hret : br = true → dG fr ⟨s, tr⟩ (Q .ret)) :
    fS P fr (.rangeFunc g ps.toArray assign body) A Q := by
  intro a w ha
  have hfe : fr.kd.g9 = Fence.wide := by rw [hkd]; rfl
  rw [hfe]
  obtain ⟨hp1, hp2⟩ := rC hpass
  have hgv : ∃ cs : Array Value, a.eval g = .func (.func gf) #[] cs ∧ ∃ M, cS w M caps cs.toList := by
    obtain ⟨M, _, hsl, _⟩ := ha
    have := cN (x := g) (rs := cA g) (fun _ h => h) (fun c _ hn => hsl c hn)
    rw [hg] at this
    obtain ⟨cs, e, hd⟩ := this
    exact ⟨cs, e, M, hd⟩
  obtain ⟨M, ok, hsl0, htg0⟩ := id ha
  have hcs : ∃ cs : Array Value, a.eval g = .func (.func gf) #[] cs ∧ cS w M caps cs.toList := by
    have := cN (x := g) (rs := cA g) (fun _ h => h) (fun c _ hn => hsl0 c hn)
    rw [hg] at this
    exact this
  obtain ⟨cs, hev, hcaps⟩ := hcs
  have hB0 := h0.holds (a := a) (w := w) ⟨M, ok, hsl0, htg0⟩
  -- the same tags: the assertion that is forgotten down to holds of them, too
  have hslB : ∀ c, c < fr.n → (s c).den w M (a.tmps.getD c undef) := fun c hc => (tw h0.slots c hc) _ _ _ (hsl0 c hc)
  have htgB : ∀ x ∈ tg 0, x.2.den w M x.1 := fun x hx => by
    obtain ⟨C, hC, hsub⟩ := rj h0.tags x hx
    exact hsub _ _ _ (htg0 _ (cj hC))
  have hZ : (1 : Nat) ≤ Zt := by decide
  refine wpIn_rangeFunc fun fn _ => ?_
  obtain ⟨w1, hw1⟩ : ∃ w1, (w.alloc (.deferred (some []))).alloc (.loop { state := .ready, pending := none, fn, tmps := a.tmps, params := ps.toArray, assign, body, defers := w.heap.size }) = w1 := ⟨_, rfl⟩
  refine ⟨w.heap.size + 1, _, w1, { target := .fn (.func gf) cs, args := #[yv (w.heap.size + 1)] }, w1, gf, (yv (w.heap.size + 1) :: cs.toList).toArray, w1, by rw [← hw1]; exact run_enterLoop_outer fn a.tmps ps.toArray assign body, ?_, fun _ _ => trivial, ?_, (fun h => by cases h), ?_⟩
  · simp [resolve, rangeCall, hev, Deferred.ofValue, yv]; rfl
  · obtain ⟨fn', hf, hn, hb⟩ := hI1
    have hn' : fn'.name ≠ "runtime.NumGoroutine" := by simpa using hn
    have hb' : fn'.body ≠ none := fun h => by rw [h] at hb; cases hb
    simp [invoke, callFunc, hf, hn', hb']
  -- the world in which the iterator is called
  have hnone : ∀ b, w.heap.size ≤ b → M b = none := fun b hb => by
    cases hm : M b with
    | none => rfl
    | some t => have := ok.wf.lt b t hm; omega
  have hsz1 : w1.heap.size = w.heap.size + 2 := by rw [← hw1]; simp
  have hD : w1.heap[w.heap.size]? = some (.deferred (some [])) := by
    rw [← hw1]
    show ((w.heap.push _).push _)[w.heap.size]? = _
    rw [Array.getElem?_push, if_neg bB, Array.getElem?_push, if_pos rfl]
  have hL : w1.heap[w.heap.size + 1]? = some (.loop { state := .ready, pending := none, fn, tmps := a.tmps, params := ps.toArray, assign, body, defers := w.heap.size }) := by
    rw [← hw1]
    show ((w.heap.push _).push _)[w.heap.size + 1]? = _
    rw [Array.getElem?_push, if_pos bB]
  have hold : ∀ b, b < w.heap.size → w1.heap[b]? = w.heap[b]? := fun b hb => by
    rw [← hw1]
    show ((w.heap.push _).push _)[b]? = _
    rw [Array.getElem?_push, if_neg x9, Array.getElem?_push, if_neg aE]
  have hw1os : w1.os = w.os ∧ w1.tape = w.tape ∧ w1.output = w.output := by rw [← hw1]; exact ⟨rfl, rfl, rfl⟩
  have leN : Le (fun t => Zt ≤ t) (fun t => Zt ≤ t) w M w1 (fun b => if b = w.heap.size ∨ b = w.heap.size + 1 then some 0 else gS M b) := by
    refine ⟨by omega, hw1os.1, hw1os.2.1, hw1os.2.2, fun b hb hm => ⟨?_, hold b hb⟩, fun b t hm ht => ⟨?_, fun _ => hold b (ok.wf.lt b t hm)⟩⟩
    · rw [if_neg aE]; exact jH hm
    · have := ok.wf.lt b t hm
      rw [if_neg aE]; exact gT hm (Nat.lt_of_not_le ht)
  have wf1 : Wf w1 (fun b => if b = w.heap.size ∨ b = w.heap.size + 1 then some 0 else gS M b) := by
    refine ⟨fun b t h => ?_, fun b b' t ht1 h h' => ?_⟩
    · split at h
      · omega
      · have := (rA ok.wf).lt b t h; omega
    · have part : ∀ b, (if b = w.heap.size ∨ b = w.heap.size + 1 then some 0 else gS M b) = some (t + 1) → gS M b = some (t + 1) := fun b h => by
        split at h
        · cases h
        · exact h
      exact (rA ok.wf).inj b b' t ht1 (part b h) (part b' h')
  have z1 : z8 (fun b => if b = w.heap.size ∨ b = w.heap.size + 1 then some 0 else gS M b) := fun b u h hu => by
    simp only at h
    split at h
    · injection h with h; omega
    · have := CH h; omega
  have hbl0 : fr.w0.heap.size ≤ w.heap.size + 1 := Nat.le_succ_of_le ok.base.size
  have hbl1 : ∀ t, ¬ (1 ≤ t ∧ t ∉ fr.pass) → fr.M0 (w.heap.size + 1) ≠ some t := fun t ht h => by
    have := (ok.base.own _ t h ht).1
    rw [hnone _ aE] at this; cases this
  have defs1 : Defs fr w1 (fun b => if b = w.heap.size ∨ b = w.heap.size + 1 then some 0 else gS M b) (vr w.heap.size :: a.defers) := by
    obtain ⟨rs, e, g1, g2, g3⟩ := ok.defers
    refine ⟨w.heap.size :: rs, by rw [e]; rfl, fun _ => hkd, List.nodup_cons.2 ⟨fun h => ?_, g2⟩, fun q hq => ?_⟩
    · have := ok.wf.lt _ _ (g3 _ h).1; omega
    · rcases List.mem_cons.1 hq with rfl | hq
      · refine ⟨by simp, ⟨ok.base.size, fun t ht h => ?_⟩, hD⟩
        have := (ok.base.own _ t h ht).1
        rw [hnone _ (Nat.le_refl _)] at this; cases this
      · obtain ⟨a1, b1, c1⟩ := g3 q hq
        have := ok.wf.lt _ _ a1
        exact ⟨by simp only; rw [if_neg aE]; exact gT a1 aB, b1, (hold q this).trans c1⟩
  -- between two rounds
  let R : LoopState → Option Code → Loop := fun st pe => { state := st, pending := pe, fn, tmps := a.tmps, params := ps.toArray, assign, body, defers := w.heap.size }
  let J : Nat → World → bI → Prop := fun k => JJ fr s a.tmps (vr w.heap.size :: a.defers) (w.heap.size + 1) (R .ready none) (tg k)
  let Jx : World → bI → Prop := fun w' M' => br = true ∧ JJ fr s a.tmps (vr w.heap.size :: a.defers) (w.heap.size + 1) (R .done (some .ret)) tr w' M'
  have hJ : ∀ k, Cb (J k) := fun k => PA hpass hs (htg k)
  have hJx : Cb Jx := fun w M w' M' wf le ⟨h, hj⟩ => ⟨h, PA hpass hs htr w M w' M' wf le hj⟩
  have hj0 : J 0 w1 (fun b => if b = w.heap.size ∨ b = w.heap.size + 1 then some 0 else gS M b) := by
    refine ⟨Fr.ij ok.base (fun t ht => by omega) (fun t ht => ⟨by omega, fun hm => by have := (hp2 t (hp1 t hm)).2; omega⟩) leN, fun c hc => ?_, fun x hx => ?_, by simp, hL, defs1⟩
    · obtain ⟨e1, e2⟩ := ny hs c hc
      exact (s c).mono leN (fun t ht hz => by have := (hp2 t (e2 t ht)).2; omega) Gn (hslB c hc)
    · obtain ⟨⟨_, e2⟩, e3, e4⟩ := lW (htg 0) x hx
      exact x.2.mono leN (fun t ht hz => by have := (e3 t ht).2; omega) (fun t ht hz => by have := (e4 t ht).2; omega) aE aE (htgB x hx)
  have hY : Mu P (w.heap.size + 1) encs J Jx := by
    intro k tys hk w2 M2 vs wf2 z2 hj hv
    obtain ⟨jb, jsl, jtg, jl, jrec, jdef⟩ := id hj
    have hvl := cO hv
    obtain ⟨htl, hte, htc⟩ := hlen tys (List.mem_of_getElem? hk)
    have hrunY := run_yield (P := P) (args := vs.toArray) jrec (by simp [R]; omega)
    refine ⟨_, _, _, _, hrunY, roundIn_of_wpIn trivial ?_⟩
    obtain ⟨A1, hassign, hbody⟩ := hround k tys hk
    have hzip : (ps.zip tys).map Prod.fst = ps := by rw [List.map_fst_zip aE]
    have hzip2 : (ps.zip tys).map Prod.snd = tys := by rw [List.map_snd_zip aE]
    have conv : ∀ {t : Ty} {v : Value}, (∀ u ∈ t.deps, u < Zt) → t.den w2 M2 v → t.den w2 (gS M2) v := fun {t v} hd h =>
      t.mono (S := fun _ => False) (K := fun u => Zt ≤ u) ⟨Nat.le_refl _, rfl, rfl, rfl, fun b _ hm => ⟨jH hm, rfl⟩, fun b u hm hk => ⟨gT hm (Nat.lt_of_not_le hk), fun _ => rfl⟩⟩ (fun u hu hz => by have := hd u hu; omega) (fun _ _ h => h) h
    have convC : ∀ {C : Cont} {t : Nat}, (∀ u ∈ C.deps, u < Zt) → t < Zt → C.den w2 M2 t → C.den w2 (gS M2) t := fun {C t} hd ht h =>
      C.mono (S := fun _ => False) (K := fun u => Zt ≤ u) ⟨Nat.le_refl _, rfl, rfl, rfl, fun b _ hm => ⟨jH hm, rfl⟩, fun b u hm hk => ⟨gT hm (Nat.lt_of_not_le hk), fun _ => rfl⟩⟩ (fun u hu hz => by have := hd u hu; omega) (fun _ _ h => h) (fun h => h) aE h
    obtain ⟨fsz, fden⟩ := D7 (w := w2) (M := gS M2) (n := fr.n) (ps.zip tys) vs a.tmps s (by rw [hzip]; exact hps) ok.size (fun c hc => conv (fun u hu => (hp2 u ((ny hs c hc).2 u hu)).2) (jsl c hc)) (by rw [hzip2]; exact ef (fun b h => jH h) hte htc hv)
    rw [hzip] at fsz fden
    have htm : ((R .ready none).params.zip vs.toArray).foldl (fun tmps (t, v) => tmps.setIfInBounds t v) a.tmps = (ps.zip vs).foldl (fun t (p, v) => t.setIfInBounds p v) a.tmps := by simp [R]
    have hA0 : As.holds ⟨fr.n, w2, gS M2, pass', .round (w.heap.size + 1)⟩ ⟨nZ (ps.zip tys) s, tg k⟩ { tmps := ((R .ready none).params.zip vs.toArray).foldl (fun tmps (t, v) => tmps.setIfInBounds t v) a.tmps, defers := [] } w2 := by
      rw [htm]
      exact ⟨gS M2, ⟨rA wf2, Le.refl _ _ _ _, fsz, Defs.nil⟩, fden, fun x hx => by
        obtain ⟨⟨_, e2⟩, e3, _⟩ := lW (htg k) x hx
        exact convC (fun u hu => (e3 u hu).2) e2 (jtg x hx)⟩
    have h1 := hassign (w.heap.size + 1) w2 (gS M2) _ _ hA0
    refine Go.wpIn_mono h1 fun e a1 w3 hq => ?_
    cases e with
    | normal =>
      obtain ⟨M3, ok3, hsl3, htg3⟩ := hq
      obtain ⟨l3, l3'⟩ := ok3.base.own (w.heap.size + 1) 0 (gT jl aB) bB
      have rec3 : w3.heap[w.heap.size + 1]? = some (.loop (R .ready none)) := (l3' (by simp [FK.J8])).trans jrec
      refine ⟨_, run_beginRound rec3 rfl, ?_⟩
      have hkill := xe (w := w3) (M := M3) (o := .loop { R .ready none with state := .busy }) l3
      have hb0 : As.holds ⟨fr.n, w3.putObj (w.heap.size + 1) (.loop { R .ready none with state := .busy }), M3, pass', .round (w.heap.size + 1)⟩ (A1.after { d := none, S := [0] }) a1 (w3.putObj (w.heap.size + 1) (.loop { R .ready none with state := .busy })) := by
        refine ⟨M3, ⟨⟨fun b t h => by simpa using ok3.wf.lt b t h, ok3.wf.inj⟩, Le.refl _ _ _ _, ok3.size, by rw [ok3.eH bB]; exact Defs.nil⟩, fun c hc => ?_, fun x hx => ?_⟩
        · simp only [As.after, qU]
          rcases eo [0] [] A1.slots c with ⟨e, hdj⟩ | ⟨_, e⟩
          · rw [e]; exact (A1.slots c).mono hkill (eF hdj).1 (eF hdj).2 (hsl3 c hc)
          · rw [e]; trivial
        · exact gE hkill (by simpa [As.after] using hx) fun y hy _ => htg3 y hy
      have h2 := hbody (w.heap.size + 1) _ M3 _ _ hb0
      refine Go.wpIn_mono h2 fun e a4 w4 hq4 => ?_
      have le1 : Le (fun t => 1 ≤ t) (fun t => 1 ≤ t ∧ t ∉ pass') w2 (gS M2) w3 M3 := ok3.base
      cases e with
      | normal =>
        obtain ⟨M4, ok4, _, htg4⟩ := hq4
        obtain ⟨r4, M5, g1, g2, g3, g4⟩ := BB (r4 := R .ready none) hpass hs (htg (k + 1)) hkd hbl0 hbl1 wf2 z2 hj le1 ok4.wf ok4.base htg4
        exact ⟨_, _, run_endRound none r4, M5, g1, g2, g3, .inl ⟨rfl, g4⟩⟩
      | ret =>
        obtain ⟨hbr, M4, ok4, _, htg4⟩ := hq4
        obtain ⟨r4, M5, g1, g2, g3, g4⟩ := BB (r4 := R .done (some .ret)) hpass hs htr hkd hbl0 hbl1 wf2 z2 hj le1 ok4.wf ok4.base htg4
        exact ⟨_, _, run_endRound (some .ret) r4, M5, g1, g2, g3, .inr ⟨rfl, hbr, g4⟩⟩
      | exit id => exact hq4.elim
      | goto l => exact hq4.elim
      | panic c => exact hq4.elim
      | outgrown => exact hq4.elim
    | ret => exact hq.elim
    | exit id => exact hq.elim
    | goto l => exact hq.elim
    | panic c => exact hq.elim
    | outgrown => exact hq.elim
  have fin : ∀ (r : Loop) (tgs : List (Nat × Cont)) (w' : World) (M' : bI) (o : Obj), qN tgs = true → Wf w' M' → JJ fr s a.tmps (vr w.heap.size :: a.defers) (w.heap.size + 1) r tgs w' M' → As.holds fr ⟨s, tgs⟩ { tmps := a.tmps, defers := [{ target := .collected w.heap.size, args := #[] }] ++ a.defers } (w'.putObj (w.heap.size + 1) o) := by
    intro r tgs w' M' o hok wf' ⟨jb, jsl, jtg, jl, jrec, jdef⟩
    have hk0 := xe (w := w') (M := M') (o := o) jl
    refine ⟨M', ⟨⟨fun b t h => by simpa using wf'.lt b t h, wf'.inj⟩, Dy hbl0 hbl1 jb, ok.size, ?_⟩, fun c hc => ?_, fun x hx => ?_⟩
    · obtain ⟨rs, e, g1, g2, g3⟩ := jdef
      refine ⟨rs, e, g1, g2, fun q hq => ?_⟩
      obtain ⟨a1, b1, c1⟩ := g3 q hq
      exact ⟨a1, b1, by rw [World.putObj_heap_other fun e => by rw [e, jrec] at c1; cases c1]; exact c1⟩
    · obtain ⟨e1, e2⟩ := ny hs c hc
      exact (s c).mono hk0 (fun _ _ h => by cases h) Gn (jsl c hc)
    · obtain ⟨⟨e1, e2⟩, e3, e4⟩ := lW hok x hx
      exact x.2.mono hk0 (fun _ _ h => by cases h) (fun t ht h => by have := (e4 t ht).1; rw [List.mem_singleton.1 h] at this; omega) (fun h => by rw [List.mem_singleton.1 h] at e1; omega) (fun h => by cases h) (jtg x hx)
  refine CallsIn.mono (callsIn_wide.2 (hI2 (w.heap.size + 1) J Jx a.tmps hJ hJx hY (fun k w M hj => ⟨hj.2.1, hj.2.2.1⟩) w1 _ (yv (w.heap.size + 1) :: cs.toList) wf1 z1 ⟨rfl, ?_⟩ hj0)) ?_
  · exact b7 leN (fun t ht hz => Nat.lt_irrefl _ (Nat.lt_of_lt_of_le (hcd t ht) hz)) (fun t ht hz => Nat.lt_irrefl _ (Nat.lt_of_lt_of_le (hcc t ht) hz)) hcaps
  · rintro e w' ⟨r, M', he, wf', z', hor⟩
    subst he
    rcases hor with ⟨_, hj⟩ | ⟨_, hbr, hj⟩
    · refine ⟨none, _, run_endLoop hj.2.2.2.2.1 (by simp [R]), ?_⟩
      exact hdone _ _ (fin _ _ w' M' _ (htg _) wf' hj)
    · refine ⟨some .ret, _, run_endLoop hj.2.2.2.2.1 (by simp [R]), ?_⟩
      exact wpIn_ret (hret hbr _ _ (fin _ _ w' M' _ htr wf' hj))
theorem ry {g : Operand} {ps : List Tmp} {assign body : Code} {gf : FuncId} {caps : List Ty} {encs : List (List Ty)} {resD resS : Ty} (s : Nat → Ty) (tg : Nat → List (Nat × Cont)) (br : Bool) (tr : List (Nat × Cont)) (pass' : List Nat)
 (hkd : fr.kd = .marks) (hg : A.op fr g = .so gf caps) (hI : iT P gf (fun l => Ty.ex (yv l) :: caps) encs resD resS) (hcd : cR caps = []) (hcc : cB caps = [])
 (hps : ps.Nodup) (hlen : ∀ tys ∈ encs, tys.length = ps.length ∧ cR tys = [] ∧ cB tys = []) (hpass : wE fr.pass pass' = true) (hs : Aj fr.n pass' s = true) (htg : ∀ k, qN (tg k) = true) (htr : qN tr = true)
 (h0 : dw fr A ⟨s, tg 0⟩)
 (hround : ∀ k tys, encs[k]? = some tys → KJ P fr.n pass' assign body ⟨nZ (ps.zip tys) s, tg k⟩ (tg (k + 1)) br tr)
 (hdone : dG fr ⟨s, tg encs.length⟩ (Q .normal)) (hret : br = true → dG fr ⟨s, tr⟩ (Q .ret)) :
 fS P fr (.rangeFunc g ps.toArray assign body) A Q :=
 Bk s tg br tr pass' hkd hg hI.1 (fun l J Jx _ h1 h2 h3 _ w M vs h4 h5 h6 h7 => hI.2 l J Jx h1 h2 h3 w M vs h4 h5 h6 h7) (by rw [hcd]; intro _ h; cases h) (by rw [hcc]; intro _ h; cases h) hps hlen hpass hs htg htr h0 hround hdone hret
end
section
variable {P : Program} {A : As} {fn : Func} {n : Nat} {w0 : World} {M0 : bI} {F : List Nat}
theorem uu {R : Ending → World → Prop} {tm : Array Value} {s : Nat → Ty} {tgs : List (Nat × Cont)} {pass : List Nat} (fr : Fr)
    (hs0 : ∀ c, c < fr.n → ∀ t ∈ (s c).cdeps, t ≠ 0) (ht0 : ∀ x ∈ tgs, x.1 ≠ 0 ∧ ∀ t ∈ x.2.cdeps, t ≠ 0)
    (h : ∀ w M, Wf w M → fr.base w M → (∀ c, c < fr.n → (s c).den w M (tm.getD c undef)) → (∀ x ∈ tgs, x.2.den w M x.1) → ∃ v, (results fn tm).run P w = .ok v w ∧ R (.returned v) w) :
    ∀ (rs : List Nat) (w : World) (M : bI), Wf w M → fr.base w M → (∀ c, c < fr.n → (s c).den w M (tm.getD c undef)) → (∀ x ∈ tgs, x.2.den w M x.1) → rs.Nodup → (∀ r ∈ rs, M r = some 0 ∧ fr.w0.heap.size ≤ r ∧ (∀ t, ¬ (1 ≤ t ∧ t ∉ fr.pass) → fr.M0 r ≠ some t) ∧ w.heap[r]? = some (.deferred (some []))) →
      LeavesInM Fence.wide 0 P fn tm R (rs.map vr) .returning w
  | [], w, M, wf, hb, hs, ht, _, _ => h w M wf hb hs ht
  | r :: rs, w, M, wf, hb, hs, ht, hnd, hr => by
    obtain ⟨a, b, c, d⟩ := hr r List.mem_cons_self
    have le := xe (w := w) (M := M) (o := .deferred none) a
    refine ⟨by simp, .inl ⟨r, _, rfl, run_takeDeferred d, ?_⟩⟩
    refine uu (pass := pass) fr hs0 ht0 h rs _ M ⟨fun b t h => by simpa using wf.lt b t h, wf.inj⟩ (Dy b c hb) (fun c hc => (s c).mono le (fun _ _ h => by cases h) (fun t ht h => hs0 c hc t ht (List.mem_singleton.1 h)) (hs c hc))
      (fun x hx => x.2.mono le (fun _ _ h => by cases h) (fun t htt h => (ht0 x hx).2 t htt (List.mem_singleton.1 h)) (fun h => (ht0 x hx).1 (List.mem_singleton.1 h)) (fun h => by cases h) (ht x hx)) (List.nodup_cons.1 hnd).2 (fun q hq => ?_)
    obtain ⟨a1, b1, c1, d1⟩ := hr q (List.mem_cons_of_mem _ hq)
    refine ⟨a1, b1, c1, ?_⟩
    rw [World.putObj_heap_other fun e => (List.nodup_cons.1 hnd).1 (by rw [← e]; exact hq)]; exact d1
def HI (n : Nat) (A : As) : Bool := ((List.range n).all fun c => (A.slots c).cdeps.all fun t => Nat.ble 1 t) && A.tags.all fun x => Nat.ble 1 x.1 && x.2.cdeps.all fun t => Nat.ble 1 t
theorem xD {R : Ending → World → Prop} (hz : HI n A = true) (h : dG ⟨n, w0, M0, F, .plain⟩ A (bodyPost P fn R .ret)) : dG ⟨n, w0, M0, F, .marks⟩ A (bodyPostM Fence.wide 0 P fn R .ret) := by
 intro a w ⟨M, ok, hsl, htg⟩
 obtain ⟨rs, e, g1, g2, g3⟩ := ok.defers
 simp only [HI, Bool.and_eq_true, List.all_eq_true, List.mem_range, Nat.ble_eq] at hz
 show LeavesInM Fence.wide 0 P fn a.tmps R a.defers .returning w
 rw [e]
 refine uu (pass := []) (s := A.slots) (tgs := A.tags) ⟨n, w0, M0, F, .marks⟩ (fun c hc t ht => by have := hz.1 c hc t ht; omega) (fun x hx => ⟨by have := (hz.2 x hx).1; omega, fun t ht => by have := (hz.2 x hx).2 t ht; omega⟩) (fun w2 M2 wf hb hs ht => ?_) rs w M ok.wf ok.base hsl htg g2 (fun r hr => ?_)
 ·exact (h { tmps := a.tmps, defers := [] } w2 ⟨M2, ⟨wf, hb, ok.size, Defs.nil⟩, hs, ht⟩).2
 obtain ⟨a1, b1, c1⟩ := g3 r hr
 exact ⟨a1, b1.1, b1.2, c1⟩
theorem AM {f : FuncId} {fn : Func} {c : Code} {args : List Ty} {res : Ty} {n : Nat} (hf : P.funcs[f]? = some fn) (hb : fn.body = some c) (hn : (fn.name == "runtime.NumGoroutine") = false) (hnt : fn.ntmps = n) (hl : args.length ≤ n)
    (h : ∀ w0 M0, fS P ⟨n, w0, M0, [], .marks⟩ c (entry args) (bodyPostM Fence.wide 0 P fn (kX w0 M0 res))) : dO P f args res := by
  refine ⟨⟨fn, hf, hn, by rw [hb]; rfl⟩, fun w M vs wf hM hd => callsIn_wide.1 (callsIn_of_wp_marks (n := 0) hf hb trivial (h w M _ _ ?_))⟩
  have hlen := cO hd
  refine ⟨M, ⟨wf, Le.refl _ _ _ _, by simp [hnt, hlen]; omega, Defs.nil⟩, fun c hc => ?_, by simp [entry]⟩
  simp only [entry]
  cases ha : args[c]? with
  | none => trivial
  | some ty =>
    obtain ⟨v, hv, hdv⟩ := dr hd c ty ha
    have : (vs.toArray ++ Array.replicate (fn.ntmps - vs.toArray.size) undef).getD c undef = v := by
      have hlt : c < vs.length := (List.getElem?_eq_some_iff.1 hv).1
      rw [Array.getD_eq_getD_getElem?, Array.getElem?_append_left ni]
      simp [hv]
    rw [this]; exact hdv
theorem E5 {f : FuncId} {fn : Func} {c : Code} {F : List Nat} {pre post : List (Nat × Cont)} {args : List Ty} {res : Ty} {n : Nat} (hf : P.funcs[f]? = some fn) (hb : fn.body = some c) (hn : (fn.name == "runtime.NumGoroutine") = false) (hnt : fn.ntmps = n) (hl : args.length ≤ n)
    (h : ∀ w0 M0, fS P ⟨n, w0, M0, F, .marks⟩ c (nG args pre) (bodyPostM Fence.wide 0 P fn (cT F post w0 M0 res))) : fG P f F pre args post res := by
  refine ⟨⟨fn, hf, hn, by rw [hb]; rfl⟩, fun w M vs wf hd hpre => callsIn_wide.1 (callsIn_of_wp_marks (n := 0) hf hb trivial (h w M _ _ ?_))⟩
  have hlen := cO hd
  refine ⟨M, ⟨wf, Le.refl _ _ _ _, by simp [hnt, hlen]; omega, Defs.nil⟩, fun c hc => ?_, hpre⟩
  simp only [nG]
  cases ha : args[c]? with
  | none => trivial
  | some ty =>
    obtain ⟨v, hv, hdv⟩ := dr hd c ty ha
    have : (vs.toArray ++ Array.replicate (fn.ntmps - vs.toArray.size) undef).getD c undef = v := by
      have hlt : c < vs.length := (List.getElem?_eq_some_iff.1 hv).1
      rw [Array.getD_eq_getD_getElem?, Array.getElem?_append_left ni]
      simp [hv]
    rw [this]; exact hdv
theorem Ck {α : Type} [Inhabited α] {xs : List α} {f : α → List Ty} {k : Nat} {t : List Ty} (h : (xs.map f)[k]? = some t) : k < xs.length ∧ t = f (nth xs k) := by
 rw [List.getElem?_map] at h
 obtain ⟨x, hx, rfl⟩ := Option.map_eq_some_iff.1 h
 obtain ⟨hk, e⟩ := List.getElem?_eq_some_iff.1 hx
 exact ⟨hk, by rw [dS hk, e]⟩
theorem Nf {α : Type} [Inhabited α] {xs : List α} {f : α → List Ty} {k : Nat} {t : List Ty} (h : k < xs.length) (e : f (nth xs k) = t) : (xs.map f)[k]? = some t := by
 rw [List.getElem?_map, List.getElem?_eq_getElem h, ← dS h, ← e]; rfl
end
section
variable {P : Program} {fr : Fr} {A : As} {Q : Exit → Act → World → Prop}
theorem FE (n : Nat) {id : Nat} {l : List Oper} {o : Oper} (hl : l[n]? = some o) (hkd : fr.kd = .iter)
 (h : ay P fr l.toArray (l.take n) A fun A1 _ => ∃ f g, qd P fr l.toArray o A1 f g ∧ ay P fr l.toArray (l.drop (n + 1)) (A1.after f) (fun A' _ => dG fr A' (Q .normal)) ∧ ay P fr l.toArray (l.drop (n + 1)) (A1.after g) (fun A' _ => dG fr A' (Q .normal))) :
 fS P fr (.region id l.toArray false) A Q := by
 have e : l.take n ++ o :: l.drop (n + 1) = l := by
  obtain ⟨hn, he⟩ := List.getElem?_eq_some_iff.1 hl
  rw [← he, List.getElem_cons_drop, List.take_append_drop]
 have := IG (P := P) (fr := fr) (A := A) (Q := Q) (id := id) (l1 := l.take n) (l2 := l.drop (n + 1)) (o := o) hkd
 rw [e] at this
 exact this h
end
section
variable {P : Program} {fr : Fr} {ops : Array Oper} {A : As} {rest : List Oper} {K : As → List (As × Fx) → Prop} {d : Nat} {t ty' : TypeId} {p : String} {e : Array Edge} {x : Operand}
theorem QV {tg : Nat} (hx : A.op fr x = .mp tg) (h : ay P fr ops rest (A.set d (.mp tg)) fun A' l' => K A' ((A, { d := some d, ty := .mp tg, rs := cA x }) :: l')) : ay P fr ops (⟨some d, .move x, t, p, e, none⟩ :: rest) A K := iQ hx h
theorem R8 {tg : Nat} (hx : A.op fr x = .mp tg) (h : ay P fr ops rest (A.set d (.mp tg)) fun A' l' => K A' ((A, { d := some d, ty := .mp tg, rs := cA x }) :: l')) : ay P fr ops (⟨some d, .assign x, t, p, e, none⟩ :: rest) A K := gu hx h
theorem RA {f : Nat} {l : List Ty} (hx : A.op fr x = .Ma f l) (h : ay P fr ops rest (A.set d (.Ma f l)) fun A' l' => K A' ((A, { d := some d, ty := .Ma f l, rs := cA x }) :: l')) : ay P fr ops (⟨some d, .move x, t, p, e, none⟩ :: rest) A K := iQ hx h
theorem RO {f : Nat} {l : List Ty} (hx : A.op fr x = .Ma f l) (h : ay P fr ops rest (A.set d (.Ma f l)) fun A' l' => K A' ((A, { d := some d, ty := .Ma f l, rs := cA x }) :: l')) : ay P fr ops (⟨some d, .assign x, t, p, e, none⟩ :: rest) A K := gu hx h
end
section
variable {P : Program} {A : As} {fn : Func} {n : Nat} {w0 : World} {M0 : bI} [T : lq P]
end
end Go.T
namespace Go.T
open Go Go.RowKit
section
variable {P : Program} {fr : Fr} {ops : Array Oper} {A : As} {rest : List Oper} {K : As → List (As × Fx) → Prop} {d : Nat} {t ty' : TypeId} {p : String} {e : Array Edge} [T : lq P]
variable {α β : Type} {E : El α} {E' : El β} {x y : Operand} {tg off Tb : Nat} {ti te tf : TI} {ty : Ty} {o z : α}
theorem Ds {α : Type} (E : El α) (o : α) : [o].flatMap E.tys = E.tys o := by simp
theorem yX {l : List Ty} {off n : Nat} {w : World} {M : bI} {b q : Nat} (h : ∀ (i : Nat) (t : Ty), l[i]? = some t → ∃ v, w.cell? ⟨b, q + i, none⟩ = some v ∧ t.den w M v) {m : List Ty} (hm : (l.drop off).take n = m) (hn : m.length = n) :
 ∃ cs : List Value, cs.length = n ∧ cS w M m cs ∧ ∀ j v, cs[j]? = some v → w.cell? ⟨b, q + off + j, none⟩ = some v := by
 have hget : ∀ (i : Nat) (t : Ty), (l.drop off)[i]? = some t → ∃ u, w.cell? ⟨b, q + off + i, none⟩ = some u ∧ t.den w M u := fun i t hi => by
  rw [List.getElem?_drop] at hi
  obtain ⟨v, hv, hd⟩ := h _ _ hi
  exact ⟨v, by rw [Nat.add_assoc]; exact hv, hd⟩
 have hle : n ≤ (l.drop off).length := by
  have := congrArg List.length hm
  rw [List.length_take, hn] at this; omega
 obtain ⟨cs, h1, h2, h3⟩ := Et hget n hle
 exact ⟨cs, h1, hm ▸ h2, h3⟩
theorem Fz (hx : A.op fr x = .ptr tg off) (hc : A.tag tg = some (.vec E Tb [o])) (h1 : fR tg) (hT : T.dz[ty']? = some ti) (hsz : ti.size = 1) (hy : A.op fr y = ty) (ho : ty.one = true) (hoff : off < E.size) (hdt : lp ty.cdeps [tg] = true) (hl : (E.tys o).set off ty = E.tys z)
 (h : ay P fr ops rest (A.after { d := none, S := [tg], sets := [(tg, .vec E Tb [z])], rs := cA x ++ cA y, rt := [tg] }) fun A' l'' => K A' ((A, { d := none, S := [tg], sets := [(tg, .vec E Tb [z])], rs := cA x ++ cA y, rt := [tg] }) :: l'')) :
 ay P fr ops (⟨none, .store ty' x y, t, p, e, none⟩ :: rest) A K := by
 have hin : Inhabited α := ⟨o⟩
 exact ow (E := E) (xs := [o]) (i := 0) (o := off) (z := z) (by rw [hx]; congr 1; omega) hc h1 hT hsz hy ho bB hoff hdt (by have : nth [o] 0 = o := rfl; rw [this]; exact hl) h
def rB (E : El α) (o : α) (w : World) (M : bI) (v : Value) : Prop := ∃ cs : Array Value, v = .agg cs ∧ cS w M (E.tys o) cs.toList
def Ty.ao (E : El α) (o : α) : Ty :=
  { den := rB E o, mono := fun le _ _ ⟨cs, e, h⟩ => ⟨cs, e, b7 le Ls (by rw [E.nocdeps]; intro _ h; cases h) h⟩ }
theorem LZ (E : El α) (o : α) {parts : Array (Nat × Operand)} {fs : List (Nat × Nat)} {ls : List (Nat × List Ty)} (hT : T.dz[ty']? = some ti) (hk : ti.k = .struct fs) (hz : ti.zero ≠ []) (hfs : (fs.all fun f => (T.dz[f.2]?).isSome) = true) (hp : dJ A fr parts.toList ls) (hf : rO (placesOf T.dz fs) (ti.zero.map Ty.mC) ls = some (E.tys o))
 (h : ay P fr ops rest (A.set d (.ao E o)) fun A' l' => K A' ((A, { d := some d, ty := .ao E o, rs := parts.toList.flatMap fun x => cA x.2 }) :: l')) : ay P fr ops (⟨some d, .build ty' parts, t, p, e, none⟩ :: rest) A K := by
 have key : ay P fr ops [⟨some d, .build ty' parts, t, p, e, none⟩] A fun _ l => ∃ f, l = [(A, f)] ∧ f = { d := some d, ty := .agg (E.tys o), rs := parts.toList.flatMap fun x => cA x.2 } := cC hT hk hz hfs hp hf (aD ⟨_, rfl, rfl⟩)
 obtain ⟨f, hop, f', hl, hf'⟩ := key
 have e1 : f = f' := by injection hl with h1 _; injection h1
 subst e1; subst hf'
 obtain ⟨a1, a2, a3, a4, a5⟩ := hop
 refine ⟨{ d := some d, ty := .ao E o, rs := parts.toList.flatMap fun x => cA x.2 }, ⟨a1, a2, a3, a4, fun a w M wf hs hr ht => ?_⟩, h⟩
 exact a5 a w M wf hs hr ht
theorem Ks (o : α) (hx : A.op fr x = .ao E o) (hp : fr.pass.contains (d + 1) = false)
 (h : ay P fr ops rest (A.after { d := some d, ty := .ptr (d + 1) 0, K := [d + 1], sets := [(d + 1, .vec E ty' [o])], rs := cA x }) fun A' l' => K A' ((A, { d := some d, ty := .ptr (d + 1) 0, K := [d + 1], sets := [(d + 1, .vec E ty' [o])], rs := cA x }) :: l')) :
 ay P fr ops (⟨some d, .box ty' x, t, p, e, none⟩ :: rest) A K := by
 have _ := T
 refine ⟨_, fk rfl rfl bB bB tE fun a w M wf hr _ => ?_, h⟩
 have hd := cN (x := x) (fun _ h => h) hr
 rw [hx] at hd
 obtain ⟨cs, ex, hds⟩ := hd
 obtain ⟨h1, h2, h3⟩ := kP wf (.cells cs ty') (d + 1)
 refine ⟨.pointer (some ⟨w.heap.size, 0, none⟩), w.alloc (.cells cs ty'), ?_, _, h1, h2, ⟨_, h3, rfl⟩, ?_⟩
 ·simp [execOp, Instr.box, newVar, newRow, newObj, Sem.run, ex, Value.cells]
 intro x hx
 simp only [List.mem_singleton] at hx
 subst hx
 refine .inr ⟨w.heap.size, cs, h3, iA _ _, ?_⟩
 have hlen := cO hds
 rw [Ds, ← hlen, List.take_length]
 exact b7 h2 Ls j4 hds
def rS (E : El α) (o : α) (off : Nat) (w : World) (M : bI) (v : Value) : Prop := ∃ b q, v = .pointer (some ⟨b, q + off, none⟩) ∧ qm w M b q (E.tys o)
def Ty.pe (E : El α) (o : α) (off : Nat) : Ty :=
  ⟨rS E o off, [], [], fun le _ _ ⟨b, q, e, h⟩ => ⟨b, q, e, uH le Ls (by rw [E.nocdeps]; intro _ h; cases h) h⟩, true, fun _ ⟨_, _, e, _⟩ => e ▸ rfl⟩
theorem kI (hx : A.op fr x = .pe E o off) (hT : T.dz[ty']? = some ti) (ha : ti.k.agg = false) (hl : (E.tys o)[off]? = some ty)
 (h : ay P fr ops rest (A.set d ty) fun A' l => K A' ((A, { d := some d, ty := ty, rs := cA x }) :: l)) : ay P fr ops (⟨some d, .load ty' x, t, p, e, none⟩ :: rest) A K :=
 bR (bl (rt := []) rfl rfl fun a w M _ hr _ => by
  have := cN (x := x) (fun _ h => h) hr
  rw [hx] at this
  obtain ⟨b, q, e, hp⟩ := this
  obtain ⟨v, hv, hd⟩ := hp.2.2 off ty hl
  exact ⟨v, by simp [execOp, e, mX hT ha hv], hd⟩) h
theorem eV {m : List Ty} (hx : A.op fr x = .pe E o off) (hT : T.dz[ty']? = some ti) (ha : ti.k.agg = true) (hm : ((E.tys o).drop off).take ti.size = m) (hn : m.length = ti.size)
 (h : ay P fr ops rest (A.set d (.agg m)) fun A' l => K A' ((A, { d := some d, ty := .agg m, rs := cA x }) :: l)) : ay P fr ops (⟨some d, .load ty' x, t, p, e, none⟩ :: rest) A K :=
 bR (bl (rt := []) rfl rfl fun a w M _ hr _ => by
  have := cN (x := x) (fun _ h => h) hr
  rw [hx] at this
  obtain ⟨b, q, e, hp⟩ := this
  obtain ⟨cs, g1, g2, g3⟩ := yX hp.2.2 hm hn
  exact ⟨.agg cs.toArray, by simp only [execOp, e]; rw [Sem.run_bind, iB (off := q + off) hT ha g1 g3]; rfl, cs.toArray, rfl, by simpa using g2⟩) h
theorem cW (hx : A.op fr x = .pe E o off) (h : ay P fr ops rest (A.set d (.pe E o off)) fun A' l' => K A' ((A, { d := some d, ty := .pe E o off, rs := cA x }) :: l')) : ay P fr ops (⟨some d, .nilCheck x, t, p, e, none⟩ :: rest) A K :=
 bR (bl (rt := []) rfl rfl fun a w M _ hr _ => by
  have _ := T
  have := cN (x := x) (fun _ h => h) hr
  rw [hx] at this
  have hd := this
  obtain ⟨b, q, e, hp⟩ := this
  exact ⟨a.eval x, by simp [execOp, e], hd⟩) h
theorem cr {f : Nat} {fs : List (Nat × Nat)} {fo ft : Nat} (hx : A.op fr x = .pe E o off) (hT : T.dz[ty']? = some ti) (hk : ti.k = .struct fs) (hf : fs[f]? = some (fo, ft)) (hF : T.dz[ft]? = some tf) (h0 : tf.size ≠ 0)
 (h : ay P fr ops rest (A.set d (.pe E o (off + fo))) fun A' l' => K A' ((A, { d := some d, ty := .pe E o (off + fo), rs := cA x }) :: l')) : ay P fr ops (⟨some d, .fieldAddr ty' x f, t, p, e, none⟩ :: rest) A K :=
 bR (bl (rt := []) rfl rfl fun a w M _ hr _ => by
  have := cN (x := x) (fun _ h => h) hr
  rw [hx] at this
  obtain ⟨b, q, ex, hp⟩ := this
  refine ⟨_, by simp only [execOp, ex, Sem.run_bind, v7 hT hk hf hF h0]; rfl, b, q, by simp [Nat.add_assoc], hp⟩) h
theorem zR {n : Nat} {k : IntKind} {i : Nat} {el : Nat} (hx : A.op fr x = .pe E o off) (hy : A.op fr y = .int k i) (hT : T.dz[ty']? = some ti) (hk : ti.k = .array n el) (hE : T.dz[el]? = some te) (h1 : i < n)
 (h : ay P fr ops rest (A.set d (.pe E o (off + i * te.size))) fun A' l' => K A' ((A, { d := some d, ty := .pe E o (off + i * te.size), rs := cA x ++ cA y }) :: l')) : ay P fr ops (⟨some d, .indexAddr ty' x y, t, p, e, none⟩ :: rest) A K :=
 bR (bl (rt := []) rfl rfl fun a w M _ hr _ => by
  obtain ⟨hdx, hdy⟩ := op2 hr
  rw [hx] at hdx; rw [hy] at hdy
  obtain ⟨b, q, ex, hp⟩ := hdx
  have ey : a.eval y = .int k i := hdy
  refine ⟨_, by simp only [execOp, ex, ey, Sem.run_bind, jw hT hk hE (Int.natCast_nonneg i) (show (i : Int).toNat < n from h1)]; rfl, b, q, by simp [Nat.add_assoc], hp⟩) h
theorem nN (hx : A.op fr x = .pe E o off) (h : ay P fr ops rest (A.set d (.pe E o off)) fun A' l' => K A' ((A, { d := some d, ty := .pe E o off, rs := cA x }) :: l')) : ay P fr ops (⟨some d, .move x, t, p, e, none⟩ :: rest) A K := by
 have _ := T
 exact iQ hx h
theorem Q8 (hx : A.op fr x = .pe E o off) (h : ay P fr ops rest (A.set d (.pe E o off)) fun A' l' => K A' ((A, { d := some d, ty := .pe E o off, rs := cA x }) :: l')) : ay P fr ops (⟨some d, .assign x, t, p, e, none⟩ :: rest) A K := by
 have _ := T
 exact gu hx h
theorem QF {s : Nat} (hx : A.slots s = .ptr tg off) (hc : A.tag tg = some (.vec E Tb [o])) (h1 : fR tg) : DS A tg s (.pe E o off) := by
 intro w M v wf ht hv
 rw [hx] at hv
 obtain ⟨b, hb, e⟩ := hv
 have hv := ht _ (cj hc)
 refine ⟨b, 0, by simpa using e, by simp [fH, hb], wf.lt b _ hb, fun i t hi => ?_⟩
 obtain ⟨u, hu, hd⟩ := nL (E := E) (Tb := Tb) (xs := [o]) wf h1 hb hv (by rw [Ds]; exact hi)
 refine ⟨u, by rw [Nat.zero_add]; exact hu, t.mono (jc (w := w) (tg := tg)) ?_ ?_ hd⟩
 ·intro u hu
  have : u ∈ cR (E.tys o) := List.mem_flatMap.2 ⟨t, List.mem_of_getElem? hi, hu⟩
  rw [E.nodeps] at this; cases this
 intro u _ h; cases h
end
theorem dO.mono {P : Program} {f : FuncId} {args : List Ty} {r r' : Ty} (h : dO P f args r) (hs : r.Sub r') : dO P f args r' :=
 ⟨h.1, fun w M vs wf hM hd => (h.2 w M vs wf hM hd).mono fun _ _ ⟨v, M', e, a, b, c⟩ => ⟨v, M', e, a, b, hs _ _ _ c⟩⟩
section
variable {P : Program} {fr : Fr} {A : As} {Q : Exit → Act → World → Prop} {x y : Code}
theorem mj {c : Operand} {b : Bool} (hc : A.op fr c = .bool b) (hb : b = true) (h1 : fS P fr x A Q) : fS P fr (.cond c x y) A Q := cI hc (fun _ => h1) (fun h => by rw [hb] at h; cases h)
theorem eP {c : Operand} {b : Bool} (hc : A.op fr c = .bool b) (hb : b = false) (h1 : fS P fr y A Q) : fS P fr (.cond c x y) A Q := cI hc (fun h => by rw [hb] at h; cases h) (fun _ => h1)
end
end Go.T
namespace Go.T
open Go Go.RowKit
def Ty.nd (t : Ty) (h1 : t.deps = []) (h2 : t.cdeps = []) : Ty := ⟨t.den, [], [], fun le _ _ h => t.mono le BL AZ h, t.one, t.isOne⟩
theorem PX {P : Program} {t : Ty} {args : List Ty} {res : Ty} (h1 : t.deps = []) (h2 : t.cdeps = []) (h : Cg P t args res) : Cg P (t.nd h1 h2) args res := h
def fy (c : Bool) (t : Ty) (w : World) (M : bI) (v : Value) : Prop := v.oneCell' = true ∧ (c = true → t.den w M v)
def Ty.when (c : Bool) (t : Ty) : Ty := { den := fy c t, deps := t.deps, cdeps := t.cdeps, mono := fun le hk hs h => ⟨h.1, fun hc => t.mono le hk hs (h.2 hc)⟩, one := true, isOne := fun _ h => h.1 }
theorem Ty.pU {c : Bool} {t : Ty} (h : c = true) : (Ty.when c t).Sub t := fun _ _ _ hd => hd.2 h
theorem Ty.uy {c : Bool} {s t : Ty} (ho : s.one = true) (h : c = true → s.Sub t) : s.Sub (Ty.when c t) := fun _ _ _ hd => ⟨s.isOne ho hd, fun hc => h hc _ _ _ hd⟩
theorem Ty.DG {a b c d : Ty} (h1 : a.Sub c) (h2 : b.Sub d) : (Ty.iF [a, b]).Sub (Ty.iF [c, d]) := fun _ _ _ ⟨cs, e, hd⟩ => ⟨cs, e, by
  cases h : cs.toList with
  | nil => rw [h] at hd; exact hd.elim
  | cons x l => cases l with
    | nil => rw [h] at hd; exact hd.2.elim
    | cons y l => rw [h] at hd; exact ⟨h1 _ _ _ hd.1, h2 _ _ _ hd.2.1, hd.2.2⟩⟩
section
variable {P : Program} {fr : Fr} {ops : Array Oper} {A : As} {rest : List Oper} {K : As → List (As × Fx) → Prop} {d : Nat} {t ty' : TypeId} {p : String} {e : Array Edge}
variable {α β : Type} {E : El α} {E' : El β} {x y : Operand} {tg off Tb : Nat} {ti te tf : TI} {ty : Ty} {o z : α} {xs : List α}
theorem R4 {c : Bool} {ty : Ty} (hx : A.op fr x = .when c ty) (h : ay P fr ops rest (A.set d (.when c ty)) fun A' l' => K A' ((A, { d := some d, ty := .when c ty, rs := cA x }) :: l')) : ay P fr ops (⟨some d, .move x, t, p, e, none⟩ :: rest) A K := iQ hx h
theorem QT {c : Bool} {ty : Ty} (hx : A.op fr x = .when c ty) (h : ay P fr ops rest (A.set d (.when c ty)) fun A' l' => K A' ((A, { d := some d, ty := .when c ty, rs := cA x }) :: l')) : ay P fr ops (⟨some d, .assign x, t, p, e, none⟩ :: rest) A K := gu hx h
variable [T : lq P]
end
theorem cy {α : Type} {E : El α} {xs : List α} (e : xs = []) : fJ (Ty.ex (.slice none 0 0)) (Ty.sl E xs) := e ▸ Nc
theorem zV (w : World) (M : bI) : (pL.ty false).den w M (.bool false) := rfl
def NV : List Ty → List Ty → Prop
  | [], [] => True
  | s :: ss, t :: ts => s.Sub t ∧ NV ss ts
  | _, _ => False
theorem wT {w : World} {M : bI} : ∀ {ss ts : List Ty} {vs : List Value}, NV ss ts → cS w M ss vs → cS w M ts vs
  | [], [], [], _, _ => trivial
  | _ :: _, _ :: _, _ :: _, ⟨h, h'⟩, ⟨h1, h2⟩ => ⟨h _ _ _ h1, wT h' h2⟩
theorem dO.args {P : Program} {f : FuncId} {a a' : List Ty} {r : Ty} (h : dO P f a r) (hs : NV a' a) : dO P f a' r :=
 ⟨h.1, fun w M vs wf hM hd => h.2 w M vs wf hM (wT hs hd)⟩
section
variable {P : Program} {A : As} {fn : Func} {n m : Nat} {w0 : World} {M0 : bI} {J : Nat → World → bI → Prop} {Jx : World → bI → Prop} {resD resS : Ty}
theorem OJ {k : Nat} {hJ : ∀ k, Cb (J k)} (e : k = m) (hr : fn.results = #[]) (ht : A.tag 0 = some (CJ (hJ k))) : dG ⟨n, w0, M0, [], .iter⟩ A (bodyPost P fn (cX m J Jx (Ty.iF []) resS) .ret) := by
 subst e; exact Pu hr ht
end
end Go.T
namespace Go.T
open Go Go.RowKit
section
variable {P : Program} {fr : Fr} {ops : Array Oper} {A : As} {rest : List Oper} {K : As → List (As × Fx) → Prop} {d : Nat} {t ty' ty2 : TypeId} {p : String} {e : Array Edge} {x y : Operand}
theorem fW {o : Oper} {f : Fx} {s : Nat} {g h : Bool} {ty : Ty} (hs : A.slots s = .gd (g && h) ty) (hg : g = true) (hx : uU P fr ops o (A.set s (.gd h ty)) f) : uU P fr ops o A f := by
  obtain ⟨h1, h2, h3, h4, h5⟩ := hx
  refine ⟨h1, h2, h3, h4, fun a w M wf hsz hr ht => h5 a w M wf hsz (fun c hc hcn => ?_) ht⟩
  have := hr c hc hcn
  simp only [As.set]
  cases hb : Nat.beq c s with
  | false => exact this
  | true =>
    have e : c = s := Nat.eq_of_beq_eq_true hb
    subst e
    rw [hs, hg, Bool.true_and] at this
    exact this
theorem E0 {ty' : TypeId} (hu : P.underlying ty' = some .bool) (b1 b2 : Bool) (w : World) : (Op.equal ty' (.bool b1) (.bool b2)).run P w = .ok (b1 == b2) w := by
 unfold Op.equal Op.maxDepth
 rw [Op.equalIn]
 simp only [Sem.run_bind, run_underlying hu, Result.andThen_ok]
 rfl
theorem xq {b1 b2 : Bool} (hu : P.underlying ty' = some .bool) (hx : A.op fr x = .bool b1) (hy : A.op fr y = .bool b2)
 (h : ay P fr ops rest (A.set d (.bool (!(b1 == b2)))) fun A' l' => K A' ((A, { d := some d, ty := .bool (!(b1 == b2)), rs := cA x ++ cA y }) :: l')) : ay P fr ops (⟨some d, .binOp .neq ty' x y ty2, t, p, e, none⟩ :: rest) A K :=
 bR (bl rfl rfl fun a w M _ hrd _ => by
  obtain ⟨hdx, hdy⟩ := op2 hrd
  rw [hx] at hdx; rw [hy] at hdy
  have ex : a.eval x = .bool b1 := hdx
  have ey : a.eval y = .bool b2 := hdy
  exact ⟨.bool (!(b1 == b2)), by simp only [execOp, ex, ey]; simp [eqGuard, binOp, go_sem, bne, E0 hu], rfl⟩) h
section
variable {b : Frame} {a : Act} {k : List Item} {cs : List Frame} {w : World}
theorem kH {c : Code} : step P (lone (b.atR a (.code (.scope c) :: k)) cs w) = .next (lone (b.atR a (.code c :: .inScope c :: k)) cs w) :=
 step_lone_go (by simp [stepG, stepG.exec, Frame.atR])
theorem z9 {c : Code} : step P (lone (b.atR a (.inScope c :: k)) cs w) = .next (lone (b.atR a k) cs w) :=
 step_lone_go (by simp [stepG, stepG.exec, Frame.atR])
end
theorem Fy {F : Fence} {n : Nat} {c : Code} {Q : Exit → Act → World → Prop} {a : Act} {w : World} (h : c.wpIn F n P (Exit.noGoto Q) a w) : (Code.scope c).wpIn F n P Q a w := by
  intro b k cs hro hb hr
  have h0 : (lone (b.atR a (.code (.scope c) :: k)) cs w).fenced P F := fenced_calm hb hr rfl
  obtain ⟨e, a₁, w₁, hq, harr⟩ := h b (.inScope c :: k) cs hro hb hr
  cases e with
  | normal => exact ⟨.normal, a₁, w₁, hq, .head h0 kH (StepsIn.trans harr (.one (fenced_calm hb hr rfl) z9))⟩
  | exit id =>
    have hx : exitTo id (.inScope c :: k) = exitTo id k := by simp [exitTo]
    exact ⟨.exit id, a₁, w₁, hq, fun k' hk => .head h0 kH (harr.1 k' (by rw [hx]; exact hk)),
      fun hr' hk => let ⟨k₁, h1, h2⟩ := harr.2 hr' (by rw [hx]; exact hk); ⟨k₁, h1, .head h0 kH h2⟩⟩
  | goto l => exact hq.elim
  | ret => exact ⟨_, a₁, w₁, hq, .of_steps (.one h0 kH) harr⟩
  | panic ch => exact ⟨_, a₁, w₁, hq, .of_steps (.one h0 kH) harr⟩
  | outgrown => exact ⟨_, a₁, w₁, hq, .of_steps (.one h0 kH) harr⟩
section
variable {Q : Exit → Act → World → Prop} {c : Code} {i : Nat}
theorem Mv (h : fS P fr c A (Exit.noGoto Q)) : fS P fr (.scope c) A Q := fun a w ha => Fy (h a w ha)
theorem NK (h : dG fr A (Q .normal)) : fS P fr (.label i) A Q := fun a w ha => wpIn_label (h a w ha)
theorem wo (h : dG fr A (Q .ret)) : dG fr A (Exit.noGoto Q .ret) := h
end
def Ru (p : Prop) (_ : World) (_ : bI) (v : Value) : Prop := ∃ c : Bool, v = .bool c ∧ (c = true → p)
def Ty.nb (p : Prop) : Ty := { den := Ru p, mono := fun _ _ _ h => h, one := true, isOne := fun _ ⟨_, e, _⟩ => e ▸ rfl }
theorem pZ {Q : Exit → Act → World → Prop} {c : Operand} {q : Prop} {x y : Code} (hc : A.op fr c = .nb q) (h1 : q → fS P fr x A Q) (h2 : True → fS P fr y A Q) : fS P fr (.cond c x y) A Q := fun a w ha => by
  have hv : ∃ b : Bool, a.eval c = .bool b ∧ (b = true → q) := by
    obtain ⟨M, _, hs, _⟩ := ha
    have := cN (x := c) (rs := cA c) (fun _ h => h) (fun c _ hn => hs c hn)
    rw [hc] at this; exact this
  obtain ⟨b, hv, hq⟩ := hv
  cases b with
  | true => exact wpIn_cond_true hv (h1 (hq rfl) a w ha)
  | false => exact wpIn_cond_false hv (h2 trivial a w ha)
theorem z5 {ty' : TypeId} {el : TypeId} (hu : P.underlying ty' = some (.slice el)) (A : Option Addr) (n c : Nat) (w : World) : (Op.equal ty' (.slice A n c) (.slice none 0 0)).run P w = .ok A.isNone w := by
 unfold Op.equal Op.maxDepth
 rw [Op.equalIn]
 simp only [Sem.run_bind, run_underlying hu, Result.andThen_ok]
 cases A <;> rfl
theorem uS {α : Type} {E : El α} {xs : List α} {el : TypeId} (hu : P.underlying ty' = some (.slice el)) (hx : A.op fr x = .sl E xs)
    (h : ay P fr ops rest (A.set d (.nb (xs = []))) fun A' l' => K A' ((A, { d := some d, ty := .nb (xs = []), rs := cA x }) :: l')) : ay P fr ops (⟨some d, .binOp .eql ty' x (.const (.slice none 0 0)) ty2, t, p, e, none⟩ :: rest) A K :=
  bR (bl (rt := []) rfl rfl fun a w M _ hr _ => by
    have := cN (x := x) (fun _ h => h) hr
    rw [hx] at this
    obtain ⟨ad, c, ex, _, _, hp⟩ := this
    have ey : a.eval (.const (.slice none 0 0)) = .slice none 0 0 := rfl
    refine ⟨.bool ad.isNone, by simp only [execOp, ex, ey]; simp [eqGuard, binOp, go_sem, z5 hu], ad.isNone, rfl, fun hn => ?_⟩
    cases xs with
    | nil => rfl
    | cons y l =>
      obtain ⟨b, off, e, _⟩ := hp bB
      rw [e] at hn; cases hn) h
theorem AU {α : Type} (E : El α) : ∀ (xs : List α) (n : Nat), (xs.flatMap E.tys).take (n * E.size) = (xs.take n).flatMap E.tys
  | [], n => by simp
  | x :: xs, 0 => by simp
  | x :: xs, n + 1 => by
    rw [List.flatMap_cons, List.take_succ_cons, List.flatMap_cons, ← AU E xs n, List.take_append, E.len, Nat.succ_mul, List.take_of_length_le (by rw [E.len]; omega)]
    congr 2; omega
theorem dx [T : lq P] {α : Type} {E : El α} {xs : List α} {len el : Nat} {parts : Array (Nat × Operand)} {ti te : TI} {ls : List (Nat × List Ty)} (hT : T.dz[ty']? = some ti) (hk : ti.k = .slice el) (hE : T.dz[el]? = some te) (hs : te.size = E.size) (hz : te.zero.length = te.size) (h0 : 0 < te.size) (hle : len * te.size ≤ 16777216) (hp : dJ A fr parts.toList ls)
 (hf : rO (fun i => some (i * te.size, te.size)) ((List.range (len * te.size)).map fun j => Ty.mC (te.zero.getD (j % te.size) undef)) ls = some (xs.flatMap E.tys)) (hx : xs.length = len) (hpa : fr.pass.contains (d + 1) = false)
 (h : ay P fr ops rest (A.after { d := some d, ty := .row E el (d + 1) xs, K := [d + 1], rs := parts.toList.flatMap fun x => cA x.2 }) fun A' l' => K A' ((A, { d := some d, ty := .row E el (d + 1) xs, K := [d + 1], rs := parts.toList.flatMap fun x => cA x.2 }) :: l')) : ay P fr ops (⟨some d, .buildSlice ty' len parts, t, p, e, none⟩ :: rest) A K := by
 refine ⟨_, fk (f := { d := some d, ty := .row E el (d + 1) xs, K := [d + 1], rs := parts.toList.flatMap fun x => cA x.2 }) rfl rfl bB bB (by simp at hpa ⊢; exact hpa) fun a w M wf hr _ => ?_, h⟩
 obtain ⟨z, hz1, hz2⟩ := nP hE HM w
 obtain ⟨_, D, _, hD, hkd, _⟩ := cP hT
 rw [hk] at hkd
 cases D <;> simp only [TK.of, reduceCtorEq, TK.slice.injEq] at hkd
 rename_i el0
 have hel : el0 = el := hkd
 subst hel
 have hzs : z.cells.size = te.size := by rw [← hz, ← hz2]; simp
 let zs : Array Value := if len * te.size = 0 then #[] else z.cells
 have hcells : cS w M ((List.range (len * te.size)).map fun j => Ty.mC (te.zero.getD (j % te.size) undef)) ((Array.range (len * te.size)).map (zs[· % zs.size]!)).toList := by
  refine iH bB fun i u hi => ?_
  rw [List.getElem?_map] at hi
  simp only [Option.map_eq_some_iff] at hi
  obtain ⟨j, hj, rfl⟩ := hi
  have hlt : i < len * te.size := by have := (List.getElem?_eq_some_iff.1 hj).1; simpa using this
  rw [List.getElem?_range hlt] at hj
  injection hj with hj
  subst hj
  have hne : ¬ len * te.size = 0 := by omega
  refine ⟨te.zero.getD (i % te.size) undef, ?_, m7 _ _ _⟩
  have hm : i % te.size < z.cells.size := by rw [hzs]; exact Nat.mod_lt _ h0
  have e1 : zs[i % zs.size]! = te.zero.getD (i % te.size) undef := by
   simp only [zs, if_neg hne, hzs]
   rw [getElem!_pos z.cells _ hm, ← hz2, List.getD_eq_getElem?_getD, List.getElem?_eq_getElem (by simpa using hm)]
   simp
  simp [List.getElem?_range hlt, e1]
 obtain ⟨cs', h1, h2⟩ := pQ hr hp (place := fun i => some (i * te.size, te.size)) (cs := (Array.range (len * te.size)).map (zs[· % zs.size]!)) (fun x hx c hc => List.mem_flatMap.2 ⟨x, hx, hc⟩) hcells hf
 have hparts : (parts.map fun x => (x.1, a.eval x.2)).toList = parts.toList.map fun x => (x.1, a.eval x.2) := by simp
 obtain ⟨h3, h4, h5⟩ := kP wf (.cells cs' el0) (d + 1)
 have hcl : cs'.toList.length = len * te.size := by rw [cO h2, cz, hx, hs]
 have hmx : len ≤ maxLen := by
  have : len ≤ len * te.size := Nat.le_mul_of_pos_right _ h0
  simp only [maxLen]; omega
 refine ⟨.slice (some ⟨w.heap.size, 0, none⟩) len len, w.alloc (.cells cs' el0), ?_, _, h3, h4, ⟨cs'.toList, ⟨by rw [hcl, hx, hs], .inr ⟨w.heap.size, len, cs', by rw [hx], Nat.zero_le _, iA _ _, by rw [hx]; exact Nat.le_refl _, hmx, by rw [← hs]; simpa using hcl, by rw [List.take_of_length_le (by rw [hcl, hx, hs]; exact Nat.le_refl _)]⟩⟩, ?_, fun g hg => ?_⟩, by simp⟩
 ·have hbig : ¬ (len * te.size > 2 ^ 24) := by omega
  have hbig' : ¬ (2 ^ 24 < len * te.size) := by omega
  simp only [execOp, Instr.buildSlice, Sem.run_bind, run_underlying hD, Result.andThen_ok, cq hE]
  simp only [hbig', gt_iff_lt, if_false]
  by_cases hn : len * te.size = 0
  ·have : zs = #[] := if_pos hn
   rw [this] at h1
   simp only [hn, if_true, Sem.run_pure, Sem.run_bind, Result.andThen_ok]
   rw [hn] at h1
   simp only [hparts, h1]
   simp [newRow, newObj, Sem.run]
  have : zs = z.cells := if_neg hn
  rw [this] at h1
  simp only [if_neg hn, Sem.run_pure, Sem.run_bind, Result.andThen_ok, hz1]
  simp only [hparts, h1]
  simp [newRow, newObj, Sem.run]
 ·refine b7 h4 (fun u hu => ?_) (fun u hu => ?_) h2
  ·rw [E.jd] at hu; cases hu
  rw [E.kA] at hu; cases hu
 simp [Value.ownBlock] at hg
 subst hg; exact h5
end
end Go.T
namespace Go.T
open Go Go.RowKit
section
variable {A : As} {α : Type} {E : El α} {tg Tb : Nat} {xs : List α}
end
section
variable {P : Program} {fr : Fr} {ops : Array Oper} {A : As} {rest : List Oper} {K : As → List (As × Fx) → Prop} {d : Nat} {t ty' ty2 : TypeId} {p : String} {e : Array Edge} [T : lq P]
variable {α : Type} {E : El α} {xs : List α} {x y : Operand} {tg Tb : Nat} {ti : TI}
end
end Go.T
namespace Go.T
open Go Go.RowKit
section
variable {P : Program} {fr : Fr} {ops : Array Oper} {A : As} {rest : List Oper} {K : As → List (As × Fx) → Prop} {d : Nat} {t ty' ty2 : TypeId} {p : String} {e : Array Edge} [T : lq P]
variable {x y : Operand} {ti ts : TI}
theorem fN {α : Type} [Inhabited α] {x y : Operand} {E : El α} {Te tg : Nat} {xs : List α} {k : IntKind} {i : Int} {ti te : TI} {el : Nat} (hx : A.op fr x = .row E Te tg xs) (hy : A.op fr y = .int k i) (hT : T.dz[ty']? = some ti) (hk : ti.k = .slice el) (hE : T.dz[el]? = some te) (hs : te.size = E.size)
 (h0 : 0 ≤ i) (h1 : i.toNat < xs.length)
 (h : ay P fr ops rest (A.set d (.op tg (E.tys (nth xs i.toNat)))) fun A' l' => K A' ((A, { d := some d, ty := .op tg (E.tys (nth xs i.toNat)), rs := cA x ++ cA y }) :: l')) : ay P fr ops (⟨some d, .indexAddr ty' x y, t, p, e, none⟩ :: rest) A K :=
 bR (bl rfl rfl fun a w M _ hr _ => by
  obtain ⟨hdx, hdy⟩ := op2 hr
  rw [hx] at hdx; rw [hy] at hdy
  obtain ⟨g, cap, ex, hg, hc⟩ := I2 hdx h1
  have ey : a.eval y = .int k i := hdy
  refine ⟨_, by simp only [execOp, ex, ey, Sem.run_bind, gk hT hk hE h0 h1]; rfl, g, 0 + i.toNat * te.size, by simp, hg, fun j ty hj => ?_⟩
  obtain ⟨u, hu, hd⟩ := hc j ty hj
  exact ⟨u, by rw [hs, Nat.zero_add]; exact hu, hd⟩) h
end
end Go.T
namespace Go.T
open Go
section
variable {P : Program} {fr : Fr} {A : As} {c : Code} {Q : Exit → Act → World → Prop}
def DJ (A : As) (tg : Nat) (t0 t : Ty) : Prop := ∀ w M v, Wf w M → (∀ x ∈ A.tags, x.2.den w M x.1) → t0.den w M v → t.den w (fH M tg) v
def MR (A : As) (tg : Nat) : List Ty → List Ty → Prop
  | [], [] => True
  | a :: l, b :: l' => DJ A tg a b ∧ MR A tg l l'
  | _, _ => False
def Qx (A : As) (tg : Nat) (x : Nat × Cont) : Prop := ∀ w M, Wf w M → (∀ x ∈ A.tags, x.2.den w M x.1) → x.2.den w (fH M tg) x.1
def OG (A : As) (tg : Nat) : List (Nat × Cont) → Prop
  | [] => True
  | x :: l => Qx A tg x ∧ OG A tg l
theorem cF {tg : Nat} {t : Ty} (h : lp t.deps [tg] = true) : DJ A tg t t := fun w M _ _ _ hd =>
 t.mono (jc (w := w)) (gK h) (fun _ _ h => by cases h) hd
theorem m9 {α : Type} {E : El α} {T tg : Nat} {xs : List α} : DJ A tg (.row E T tg xs) (.sl E xs) := fun w M v wf _ hd =>
 zC wf hd (fun b hb => by simp [fH, hb]) (fun b hb => by simp [fH, hb])
theorem pW {α : Type} {E : El α} {T tg n : Nat} {xs : List α} (hc : A.tag tg = some (.vec E T xs)) (hn : xs.length = n) (h1 : fR tg) : DJ A tg (.vs tg n) (.sl E xs) := fun w M v wf ht hd => by
 have hv : g6 E T xs w M tg := ht _ (cj hc)
 subst hn
 rcases hd with ⟨h0, rfl⟩ | ⟨b, cc, hb, e, hn1, hn2⟩
 ·exact ⟨none, 0, by rw [h0], by omega, by simp [maxLen], fun h => absurd h aE⟩
 refine ⟨_, cc, e, hn1, hn2, fun _ => ⟨b, 0, rfl, by simp [fH, hb], wf.lt b _ hb, fun i t hi => ?_⟩⟩
 obtain ⟨u, hu, hdu⟩ := nL wf h1 hb hv hi
 refine ⟨u, by rw [Nat.zero_add]; exact hu, t.mono (jc (w := w)) ?_ ?_ hdu⟩
 ·intro u hu
  have : u ∈ cR (xs.flatMap E.tys) := List.mem_flatMap.2 ⟨t, List.mem_of_getElem? hi, hu⟩
  rw [E.jd] at this; cases this
 intro u _ h; cases h
theorem zI {tg : Nat} {w : World} {M : bI} (wf : Wf w M) (ht : ∀ x ∈ A.tags, x.2.den w M x.1) : ∀ {l l' : List Ty} {vs : List Value}, MR A tg l l' → cS w M l vs → cS w (fH M tg) l' vs
  | [], [], [], _, _ => trivial
  | _ :: _, _ :: _, _ :: _, ⟨h1, h2⟩, ⟨h3, h4⟩ => ⟨h1 _ _ _ wf ht h3, zI wf ht h2 h4⟩
theorem eW {tg o T : Nat} {l l' : List Ty} (ho : A.tag o = some (.cells T l)) (hne : Nat.beq o tg = false) (h : MR A tg l l') : Qx A tg (o, .cells T l') := fun w M wf ht => by
 obtain ⟨b, cs, hb, hh, hd⟩ := ht _ (cj ho)
 refine ⟨b, cs, ?_, hh, zI wf ht h hd⟩
 unfold fH
 rw [if_neg]
 ·exact hb
 rw [hb]; intro e; injection e with e; subst e; simp at hne
theorem zk {tg : Nat} {w : World} {M : bI} (wf : Wf w M) (ht : ∀ x ∈ A.tags, x.2.den w M x.1) : ∀ {lt : List (Nat × Cont)}, OG A tg lt → ∀ {x : Nat × Cont}, x ∈ lt → x.2.den w (fH M tg) x.1
  | y :: _, ⟨h1, h2⟩, x, hx => by
    rcases List.mem_cons.1 hx with rfl | hx
    · exact h1 w M wf ht
    · exact zk wf ht h2 hx
theorem j8 {tg : Nat} (l : List (Nat × Ty)) (lt : List (Nat × Cont)) (h1 : 1 ≤ tg) (hp : fr.pass.contains tg = false) (hl : Bu A tg l) (hlt : OG A tg lt) (h : fS P fr c ⟨(A.o8 tg l).slots, lt ++ (A.o8 tg l).tags⟩ Q) : fS P fr c A Q := fun a w ⟨M, ok, hsl, ht⟩ => by
  have le : Le (· ∈ ([] : List Nat)) (· ∈ [tg]) w M w (fH M tg) := jc
  refine h a w ⟨fH M tg, ⟨wL ok.wf, Fr.ij ok.base pE (fun t ht => by simp only [List.mem_singleton] at ht; subst ht; exact ⟨h1, by simpa using hp⟩) le, ok.size, ok.defers.step pE (fun t ht => by simp only [List.mem_singleton] at ht; subst ht; exact h1) le⟩, fun i hi => ?_, fun x hx => ?_⟩
  · have base : (eT [] [tg] A.slots i).den w (fH M tg) (a.tmps.getD i undef) := by
      rcases eo [] [tg] A.slots i with ⟨e, hdj⟩ | ⟨_, e⟩
      · rw [e]; exact (A.slots i).mono le (eF hdj).1 (eF hdj).2 (hsl i hi)
      · rw [e]; trivial
    show (nZ l (eT [] [tg] A.slots) i).den _ _ _
    clear h
    induction l with
    | nil => exact base
    | cons x l ih =>
      obtain ⟨d, t⟩ := x
      unfold nZ
      cases hb : Nat.beq i d with
      | false => simp only [cond_false]; exact ih hl.2
      | true =>
        have : i = d := Nat.eq_of_beq_eq_true hb
        subst this
        simp only [cond_true]
        exact hl.1 w M _ ok.wf ht (hsl i hi)
  · rcases List.mem_append.1 (show x ∈ lt ++ (A.o8 tg l).tags from hx) with hx | hx
    · exact zk ok.wf ht hlt hx
    · exact gE le hx fun y hy _ => ht y hy
end
section
open Go.RowKit
variable {P : Program} {A : As} {fn : Func} {n : Nat} {w0 : World} {M0 : bI} {F : List Nat} {post : List (Nat × Cont)} [T : lq P]
theorem Hv (L : List Nat) {tm ty tg Tb : Nat} {l : List Ty} {ti : TI} {res : Ty} (hr : fn.results = #[.cell tm ty]) (ht : Nat.blt tm n = true) (hx : A.slots tm = .ptr tg 0) (hc : A.tag tg = some (.cells Tb l)) (h1 : fR tg) (hT : T.dz[ty]? = some ti) (ha : ti.k.agg = true) (hl : l.length = ti.size)
 (hL : ∀ t ∈ F, t ∈ L) (hp : rM A L post) (hs : mO L (.agg l) res) :
 dG ⟨n, w0, M0, F, .plain⟩ A (bodyPost P fn (cT F post w0 M0 res) .ret) := by
 intro a w ⟨M, ok, hsl, htg⟩
 have hd := hsl tm rz
 rw [hx] at hd
 obtain ⟨b, hb, e⟩ := hd
 obtain ⟨b', cs, hb', hh, hds⟩ := htg _ (cj hc)
 obtain ⟨u, rfl⟩ : ∃ u, tg = u + 1 := ⟨tg - 1, by omega⟩
 have := ok.wf.inj b b' u aE hb hb'
 subst this
 have hlen := cO hds
 have hload := iB (P := P) hT ha (w := w) (b := b) (off := 0) (cs := cs.toList) ve (fun j v hj => by simpa [World.cell?, hh] using hj)
 have hload' : (loadVar ty ⟨b, 0, none⟩).run P w = .ok (.agg cs) w := by simpa [Instr.loadAt, Instr.sureAddr] using hload
 refine ⟨ok.eH bB, .agg cs, ?_, _, pI L M, rfl, mI ok.wf, mY hL ok.base, hs _ _ _ ok.wf ⟨cs, rfl, hds⟩, tj ok.wf htg hp⟩
 have e' : a.tmps.getD tm undef = .pointer (some ⟨b, 0, none⟩) := e
 have e'' : a.tmps[tm]?.getD undef = .pointer (some ⟨b, 0, none⟩) := by rw [← Array.getD_eq_getD_getElem?]; exact e'
 simp [results, hr, e'', asAddr, hload']
end
end Go.T
namespace Go.T
open Go Go.RowKit
theorem j7 {w : World} {g : Nat} {old : Array Value} {t : TypeId} (cs : Array Value) (hg : w.heap[g]? = some (.cells old t (0, 0))) : w.setRow g cs = { w with heap := w.heap.setIfInBounds g (.cells cs t (0, 0)) } := by
 unfold World.setRow
 congr 1
 obtain ⟨hlt, hv⟩ := Array.getElem?_eq_some_iff.1 hg
 apply Array.ext_getElem?
 intro i
 by_cases e : g = i
 ·subst e
  rw [Array.getElem?_modify, if_pos rfl, hg, Array.getElem?_setIfInBounds_self_of_lt hlt]; rfl
 rw [Array.getElem?_modify, if_neg e, Array.getElem?_setIfInBounds_ne e]
theorem BA {α : Type} (E : El α) : ∀ (xs : List α) (n : Nat), (xs.flatMap E.tys).drop (n * E.size) = (xs.drop n).flatMap E.tys
  | [], n => by simp
  | x :: xs, 0 => by simp
  | x :: xs, n + 1 => by
    rw [List.flatMap_cons, List.drop_succ_cons, ← BA E xs n, List.drop_append, E.len, Nat.succ_mul, List.drop_of_length_le (by rw [E.len]; omega), List.nil_append]
    congr 1; omega
theorem Ca {α : Type} {E : El α} {xs ys : List α} {w : World} {M : bI} {cur vs : List Value} {i : Nat} (hd : cS w M (xs.flatMap E.tys) (cur.take (xs.flatMap E.tys).length)) (hv : cS w M (ys.flatMap E.tys) vs) (hi : i + ys.length ≤ xs.length) :
 cS w M ((xs.take i ++ (ys ++ xs.drop (i + ys.length))).flatMap E.tys) ((cur.take (i * E.size) ++ vs ++ cur.drop (i * E.size + vs.length)).take ((xs.take i ++ (ys ++ xs.drop (i + ys.length))).flatMap E.tys).length) := by
 have hvl : vs.length = ys.length * E.size := by rw [cO hv, cz]
 have hN : (xs.flatMap E.tys).length = xs.length * E.size := cz E xs
 have hcl : xs.length * E.size ≤ cur.length := by
  have := cO hd
  rw [List.length_take, hN] at this; omega
 have hm : (i + ys.length) * E.size ≤ xs.length * E.size := Nat.mul_le_mul_right _ hi
 have hm2 : (i + ys.length) * E.size = i * E.size + ys.length * E.size := Nat.add_mul _ _ _
 have hxl : (xs.take i ++ (ys ++ xs.drop (i + ys.length))).length = xs.length := by simp; omega
 rw [cz E (xs.take i ++ (ys ++ xs.drop (i + ys.length))), hxl, List.flatMap_append, List.flatMap_append]
 have e : (cur.take (i * E.size) ++ vs ++ cur.drop (i * E.size + vs.length)).take (xs.length * E.size) = cur.take (i * E.size) ++ (vs ++ (cur.take (xs.length * E.size)).drop ((i + ys.length) * E.size)) := by
  have l1 : (cur.take (i * E.size)).length = i * E.size := by rw [List.length_take]; omega
  rw [List.append_assoc, List.take_append, List.take_append, l1]
  have e1 : (cur.take (i * E.size)).take (xs.length * E.size) = cur.take (i * E.size) := List.take_of_length_le aE
  have e2 : vs.take (xs.length * E.size - i * E.size) = vs := List.take_of_length_le aE
  rw [e1, e2, hvl, hm2, List.drop_take]
  congr 3; omega
 rw [e]
 rw [hN] at hd
 refine lZ ?_ (lZ hv ?_)
 ·have := lJ (i * E.size) hd
  rw [AU, List.take_take, Nat.min_eq_left aE] at this; exact this
 have := jk ((i + ys.length) * E.size) hd
 rw [BA] at this; exact this
section
variable {P : Program} {fr : Fr} {ops : Array Oper} {A : As} {rest : List Oper} {K : As → List (As × Fx) → Prop} {d : Nat} {t ty' : TypeId} {p : String} {e : Array Edge} [T : lq P]
theorem Ij {α : Type} {xs : List α} {i : Nat} (h : i < xs.length) (z : α) : xs.take i ++ ([z] ++ xs.drop (i + [z].length)) = xs.set i z := by
 rw [List.set_eq_take_append_cons_drop, if_pos h]; rfl
theorem vH {α : Type} {E : El α} {xs : List α} {x y : Operand} {tg off Tb : Nat} {ti : TI} {z : α} (i : Nat) (hx : A.op fr x = .ptr tg off) (he : off = i * E.size) (hc : A.tag tg = some (.vec E Tb xs)) (h1 : fR tg) (hT : T.dz[ty']? = some ti) (hsz : ti.size = E.size) (hy : A.op fr y = .agg (E.tys z)) (hi : i < xs.length)
 (h : ay P fr ops rest (A.after { d := none, S := [tg], sets := [(tg, .vec E Tb (xs.set i z))], rs := cA x ++ cA y, rt := [tg] }) fun A' l'' => K A' ((A, { d := none, S := [tg], sets := [(tg, .vec E Tb (xs.set i z))], rs := cA x ++ cA y, rt := [tg] }) :: l'')) :
 ay P fr ops (⟨none, .store ty' x y, t, p, e, none⟩ :: rest) A K := by
 refine ⟨_, lT rfl rfl rfl bB lC bB fun a w M wf hr ht => ?_, h⟩
 obtain ⟨hdx, hdy⟩ := op2 hr
 rw [hx] at hdx; rw [hy] at hdy
 obtain ⟨b, hb, ex⟩ := hdx
 obtain ⟨vs, ey, hvs⟩ := hdy
 rcases mU hc w M ht with rfl | ⟨b', cs, hb', hh, hd⟩
 ·exact absurd hi (Nat.not_lt_zero _)
 obtain ⟨u, rfl⟩ : ∃ u, tg = u + 1 := ⟨tg - 1, by omega⟩
 have := wf.inj b b' u aE hb hb'
 subst this
 have hlen := cO hd
 have hvl : vs.size = E.size := by have := cO hvs; rw [E.len] at this; simpa using this
 have hoff : i * E.size + E.size ≤ cs.size := by
  rw [cz, List.length_take] at hlen
  have : (i + 1) * E.size ≤ xs.length * E.size := Nat.mul_le_mul_right _ hi
  rw [Nat.succ_mul] at this
  simp at hlen; omega
 have hones : ∀ v ∈ vs.toList, v.oneCell' = true := nE hvs (fun t ht => by
  have := mw E [z] t rz
  exact this)
 have hst := run_storeCells_at (P := P) b off Tb vs.toList 0 cs w hh (by simp [he, hvl]; omega) hones
 rw [j7 _ hh] at hst
 obtain ⟨h1', h2', h3'⟩ := iW (cs' := (cs.toList.take (off + 0) ++ vs.toList ++ cs.toList.drop (off + 0 + vs.toList.length)).toArray) (Tb := Tb) wf hb _ rfl
 refine ⟨_, ?_, M, h1', h2', trivial, ?_⟩
 ·simp only [execOp, Instr.storeAt, Instr.sureAddr, ex, ey, storeVar, Value.cells, cq hT, Sem.run_bind, Sem.run_pure, Result.andThen_ok, hsz, hvl, hst]
  simp [hst]
 intro z' hz'
 simp only [List.mem_singleton] at hz'
 subst hz'
 refine .inr ⟨b, _, hb, h3', ?_⟩
 have hp := Ca (ys := [z]) (vs := vs.toList) (i := i) hd (by simpa using hvs) (by show i + 1 ≤ _; omega)
 rw [Ij hi, ← he] at hp
 exact b7 h2' j4 jm (by simpa using hp)
end
section
variable {P : Program} {A : As} {fn : Func} {n : Nat} {w0 : World} {M0 : bI} [T : lq P]
theorem um {tm ty tg Tb t2 : Nat} {l : List Ty} {ti : TI} {r1 r2 : Ty} (hr : fn.results = #[.cell tm ty, .tmp t2]) (ht : Nat.blt tm n = true) (h2 : Nat.blt t2 n = true) (hx : A.slots tm = .ptr tg 0) (hc : A.tag tg = some (.cells Tb l)) (h1 : fR tg) (hT : T.dz[ty]? = some ti) (ha : ti.k.agg = true) (hl : l.length = ti.size) (hs : fJ (.agg l) r1) (hs2 : fJ (A.slots t2) r2) :
 dG ⟨n, w0, M0, [], .plain⟩ A (bodyPost P fn (kX w0 M0 (Ty.iF [r1, r2])) .ret) := by
 intro a w ⟨M, ok, hsl, htg⟩
 have hd := hsl tm rz
 rw [hx] at hd
 obtain ⟨b, hb, e⟩ := hd
 obtain ⟨b', cs, hb', hh, hds⟩ := htg _ (cj hc)
 obtain ⟨u, rfl⟩ : ∃ u, tg = u + 1 := ⟨tg - 1, by omega⟩
 have := ok.wf.inj b b' u aE hb hb'
 subst this
 have hlen := cO hds
 have hload := iB (P := P) hT ha (w := w) (b := b) (off := 0) (cs := cs.toList) ve (fun j v hj => by simpa [World.cell?, hh] using hj)
 have hload' : (loadVar ty ⟨b, 0, none⟩).run P w = .ok (.agg cs) w := by simpa [Instr.loadAt, Instr.sureAddr] using hload
 refine ⟨ok.eH bB, .tuple #[.agg cs, a.tmps.getD t2 undef], ?_, _, pg M, rfl, oT ok.wf, lR (fr := ⟨n, w0, M0, [], .plain⟩) (fun _ h => h) ok.base, _, rfl, hs _ _ _ ok.wf ⟨cs, rfl, hds⟩, hs2 _ _ _ ok.wf (hsl t2 tv), trivial⟩
 have e' : a.tmps.getD tm undef = .pointer (some ⟨b, 0, none⟩) := e
 have e'' : a.tmps[tm]?.getD undef = .pointer (some ⟨b, 0, none⟩) := by rw [← Array.getD_eq_getD_getElem?]; exact e'
 simp [results, hr, e'', asAddr, hload']
end
section
variable {P : Program} {fr : Fr} {ops : Array Oper} {A : As} {rest : List Oper} {K : As → List (As × Fx) → Prop} {d : Nat} {t ty' : TypeId} {p : String} {e : Array Edge} [T : lq P]
theorem N1 {α : Type} {E : El α} {zs ys : List α} {x y : Operand} {tg n el st st' Tb : Nat} {ti te : TI} (hx : A.op fr x = .vs tg n) (hy : A.op fr y = .sl E ys) (hc : A.tag tg = some (.vec E Tb zs)) (h1 : fR tg) (hT : T.dz[st]? = some ti) (hk : ti.k = .slice el) (hE : T.dz[el]? = some te) (hs : te.size = E.size) (hn : zs.length = n) (hle : ys.length ≤ n)
 (h : ay P fr ops rest (A.after { d := some d, ty := .int .i64 (ys.length : Nat), S := [tg], sets := [(tg, .vec E Tb (ys ++ zs.drop ys.length))], rs := cA x ++ cA y, rt := [tg] }) fun A' l'' => K A' ((A, { d := some d, ty := .int .i64 (ys.length : Nat), S := [tg], sets := [(tg, .vec E Tb (ys ++ zs.drop ys.length))], rs := cA x ++ cA y, rt := [tg] }) :: l'')) :
 ay P fr ops (⟨some d, .call ⟨.builtin .copy, #[x, y], #[st, st']⟩, t, p, e, none⟩ :: rest) A K := by
 refine ⟨_, fk rfl rfl bB lC bB fun a w M wf hr ht => ?_, h⟩
 obtain ⟨hdx, hdy⟩ := op2 hr
 rw [hx] at hdx; rw [hy] at hdy
 obtain ⟨_, D, _, hD, hkd, _⟩ := cP hT
 rw [hk] at hkd
 cases D <;> simp only [TK.of, reduceCtorEq, TK.slice.injEq] at hkd
 subst hkd
 rename_i el
 have hsz := fun w => cq (P := P) hE w
 obtain ⟨ad, c, ey, hc1, hc2, hp⟩ := hdy
 have hmin : Nat.min ys.length n = ys.length := Nat.min_eq_left hle
 by_cases hys : ys = []
 ·subst hys
  have hl : ∀ (q : Addr), (loadCells q 0).run P w = .ok #[] w := fun q => by simpa using run_loadCells_list (P := P) w q [] bB
  have hrun : (Builtin.copy_ #[st, st'] t #[a.eval x, a.eval y]).run P w = .ok (goInt 0) w := by
   rw [ey]
   rcases hdx with ⟨_, ex⟩ | ⟨b, c', _, ex, _⟩ <;> rw [ex] <;> cases ad <;> simp [Builtin.copy_, run_underlying hD, Builtin.lenOf, Builtin.firstCells, hsz, storeCells, hl]
  refine ⟨goInt 0, w, by simp [execOp, resolve, invoke, builtin, hrun], M, wf, (Le.refl _ _ w M), rfl, ?_⟩
  intro z' hz'
  simp only [List.mem_singleton] at hz'
  subst hz'
  have hv : (Cont.vec E Tb zs).den w M tg := mU hc w M ht
  simpa using hv
 have hpos : 0 < ys.length := List.length_pos_iff.2 hys
 obtain ⟨b', off, rfl, hp'⟩ := hp hpos
 obtain ⟨news, hn1, hn2, hn3⟩ := mW hp' _ (Nat.le_refl _)
 rw [List.take_length] at hn2
 rw [cz] at hn1
 rcases hdx with ⟨h0, _⟩ | ⟨b, c', hb, ex, _⟩
 ·omega
 rcases mU hc w M ht with rfl | ⟨b2, cs, hb2, hh, hd⟩
 ·simp at hn; omega
 obtain ⟨u, rfl⟩ : ∃ u, tg = u + 1 := ⟨tg - 1, by omega⟩
 have := wf.inj b b2 u aE hb hb2
 subst this
 have hlen := cO hd
 have hm : ys.length * E.size ≤ zs.length * E.size := Nat.mul_le_mul_right _ aE
 have hoff : ys.length * E.size ≤ cs.size := by
  rw [cz, List.length_take] at hlen
  simp at hlen; omega
 have hst := run_storeCells_at (P := P) b 0 Tb news 0 cs w hh aE (nE hn2 (mw E ys))
 rw [j7 _ hh] at hst
 obtain ⟨h1', h2', h3'⟩ := iW (cs' := (cs.toList.take (0 + 0) ++ news ++ cs.toList.drop (0 + 0 + news.length)).toArray) (Tb := Tb) wf hb _ rfl
 have hld : (loadCells ⟨b', off, none⟩ (ys.length * E.size)).run P w = .ok news.toArray w := by
  rw [← hn1]
  exact run_loadCells_list (P := P) w _ news (fun j v hj => by rw [Addr.add_lit]; exact hn3 j v hj)
 have hrun : (Builtin.copy_ #[st, st'] t #[a.eval x, a.eval y]).run P w = .ok (goInt ys.length) { w with heap := w.heap.setIfInBounds b (.cells (cs.toList.take (0 + 0) ++ news ++ cs.toList.drop (0 + 0 + news.length)).toArray Tb (0, 0)) } := by
  rw [ex, ey]
  simp only [Builtin.copy_, run_underlying hD, Builtin.lenOf, Builtin.firstCells, hsz, hs, hmin, hld, Sem.run_bind, Sem.run_pure, Result.andThen_ok]
  simp [run_underlying hD, hsz, hs, hmin, hld]
  simp at hst
  rw [hst]
  simp
 refine ⟨goInt ys.length, _, by simp [execOp, resolve, invoke, builtin, hrun], M, h1', h2', rfl, ?_⟩
 intro z' hz'
 simp only [List.mem_singleton] at hz'
 subst hz'
 refine .inr ⟨b, _, hb, h3', ?_⟩
 have hq := Ca (xs := zs) (ys := ys) (vs := news) (i := 0) hd hn2 aE
 rw [List.take_zero, List.nil_append, Nat.zero_add, Nat.zero_mul] at hq
 exact b7 h2' j4 jm (by simpa using hq)
end
end Go.T
namespace Go.T
open Go Go.RowKit
section
variable {P : Program} {fr : Fr} {ops : Array Oper} {A : As} {rest : List Oper} {K : As → List (As × Fx) → Prop} {d : Nat} {t ty' ty2 : TypeId} {p : String} {e : Array Edge} {x : Operand}
end
end Go.T
namespace Go.T
open Go Go.RowKit
def RU (tg n : Nat) (c : Option Nat) (_ : World) (M : bI) (v : Value) : Prop := match c with
  | none => n = 0 ∧ v = .slice none 0 0
  | some c => ∃ b, M b = some tg ∧ v = .slice (some ⟨b, 0, none⟩) n c ∧ n ≤ c ∧ c ≤ maxLen
def Ty.rc (tg n : Nat) (c : Option Nat) : Ty := ⟨RU tg n c, [tg], [], fun le hk _ h => by
  cases c with
  | none => exact h
  | some c => obtain ⟨b, h1, h2⟩ := h; exact ⟨b, (le.own b tg h1 (hk tg bB)).1, h2⟩, true, fun _ h => by
  cases c with
  | none => obtain ⟨_, rfl⟩ := h; rfl
  | some c => obtain ⟨_, _, rfl, _⟩ := h; rfl⟩
def IF {α : Type} (E : El α) (T : Nat) (xs : List α) (c : Option Nat) (w : World) (M : bI) (t : Nat) : Prop := match c with
  | none => xs = []
  | some c => ∃ b cs, M b = some t ∧ w.heap[b]? = some (.cells cs T (0, 0)) ∧ cs.size = c * E.size ∧ cS w M (xs.flatMap E.tys) (cs.toList.take (xs.flatMap E.tys).length)
def Cont.FN {α : Type} (E : El α) (T : Nat) (xs : List α) (c : Option Nat) : Cont :=
  { den := IF E T xs c, mono := fun le _ _ hs hk h => by
      cases c with
      | none => exact h
      | some c =>
        obtain ⟨b, cs, h1, h2, h3, h4⟩ := h
        obtain ⟨h5, h6⟩ := le.own b _ h1 hk
        exact ⟨b, cs, h5, (h6 hs).trans h2, h3, b7 le lV jm h4⟩ }
theorem Cont.G6 {α : Type} {E : El α} {T : Nat} {xs ys : List α} {c : Option Nat} (h : xs = ys) : (Cont.FN E T xs c).Sub (Cont.FN E T ys c) := h ▸ Cont.aM _
theorem NM {α : Type} {E : El α} {T : Nat} {xs : List α} {c : Option Nat} {w : World} {M : bI} {t : Nat} (h : IF E T xs c w M t) : g6 E T xs w M t := by
  cases c with
  | none => exact .inl h
  | some c => obtain ⟨b, cs, h1, h2, _, h4⟩ := h; exact .inr ⟨b, cs, h1, h2, h4⟩
section
variable {P : Program} {fr : Fr} {A : As} {Q : Exit → Act → World → Prop} {code : Code}
theorem FY {α : Type} {E : El α} {T tg s : Nat} {xs : List α} (hs : Nat.blt s fr.n = true) (hx : A.slots s = .row E T tg xs)
    (h : ∀ c, fS P fr code ⟨fun i => bif Nat.beq i s then .rc tg xs.length c else A.slots i, (tg, .FN E T xs c) :: A.tags⟩ Q) : fS P fr code A Q := fun a w ⟨M, ok, hsl, ht⟩ => by
  have hd := hsl s yO
  rw [hx] at hd
  obtain ⟨cs, h1, h2, h3⟩ := hd
  have key : ∃ c, RU tg xs.length c w M (a.tmps.getD s undef) ∧ IF E T xs c w M tg := by
    rcases h1.2 with ⟨e, h0⟩ | ⟨g, cap, cur, ex, _, hh, hn1, hcap, hsz, htk⟩
    · exact ⟨none, ⟨h0, e⟩, List.length_eq_zero_iff.1 h0⟩
    · have hg : M g = some tg := h3 g r6
      exact ⟨some cap, ⟨g, hg, ex, hn1, hcap⟩, ⟨g, cur, hg, hh, hsz, by rw [cz, htk]; exact h2⟩⟩
  obtain ⟨c, k1, k2⟩ := key
  refine h c a w ⟨M, ok, fun i hi => ?_, fun x hx => ?_⟩
  · cases hb : Nat.beq i s with
    | false => simpa only [hb, cond_false] using hsl i hi
    | true =>
      have : i = s := Nat.eq_of_beq_eq_true hb
      subst this
      simp only [hb, cond_true]
      exact k1
  · rcases List.mem_cons.1 hx with rfl | hx
    · exact k2
    · exact ht x hx
theorem D2 {α : Type} {E : El α} {T tg s : Nat} {xs : List α} {c : Option Nat} (hs : Nat.blt s fr.n = true) (h1 : fR tg) (hx : A.slots s = .rc tg xs.length c) (hc : A.tag tg = some (.FN E T xs c))
    (h : fS P fr code ⟨fun i => bif Nat.beq i s then .row E T tg xs else A.slots i, A.tags⟩ Q) : fS P fr code A Q := fun a w ⟨M, ok, hsl, ht⟩ => by
  have hd := hsl s yO
  rw [hx] at hd
  have hcd : IF E T xs c w M tg := ht _ (cj hc)
  have key : g7 E T tg xs w M (a.tmps.getD s undef) := by
    cases c with
    | none =>
      obtain ⟨_, e⟩ := hd
      have e2 : xs = [] := hcd
      subst e2
      rw [e]; exact NG
    | some c =>
      obtain ⟨b, hb, e, hn, hm⟩ := hd
      obtain ⟨b', cs, hb', hh, hsz, hdd⟩ := hcd
      obtain ⟨u, rfl⟩ : ∃ u, tg = u + 1 := ⟨tg - 1, by omega⟩
      have := ok.wf.inj b b' u aE hb hb'
      subst this
      rw [e]
      refine ⟨cs.toList.take (xs.length * E.size), ⟨?_, .inr ⟨b, c, cs, rfl, Nat.zero_le _, hh, hn, hm, hsz, rfl⟩⟩, by rw [cz] at hdd; exact hdd, fun g hg => by
        have : b = g := by simpa [Value.ownBlock] using hg
        rw [← this]; exact hb⟩
      have h2 : xs.length * E.size ≤ c * E.size := Nat.mul_le_mul_right _ hn
      rw [List.length_take]; simp; omega
  refine h a w ⟨M, ok, fun i hi => ?_, ht⟩
  cases hb : Nat.beq i s with
  | false => simpa only [hb, cond_false] using hsl i hi
  | true =>
    have : i = s := Nat.eq_of_beq_eq_true hb
    subst this
    simp only [hb, cond_true]
    exact key
end
section
variable {P : Program} {fr : Fr} {ops : Array Oper} {A : As} {rest : List Oper} {K : As → List (As × Fx) → Prop} {d : Nat} {t ty' ty2 : TypeId} {p : String} {e : Array Edge}
theorem Mb {x : Operand} {tg n : Nat} {c : Option Nat} (hx : A.op fr x = .rc tg n c) (h : ay P fr ops rest (A.set d (.rc tg n c)) fun A' l => K A' ((A, { d := some d, ty := .rc tg n c, rs := cA x }) :: l)) : ay P fr ops (⟨some d, .move x, t, p, e, none⟩ :: rest) A K := iQ hx h
end
section
variable {P : Program} {fr : Fr} {ops : Array Oper} {A : As} {rest : List Oper} {K : As → List (As × Fx) → Prop} {d : Nat} {t ty' ty2 : TypeId} {p : String} {e : Array Edge} [T : lq P]
theorem jX {x y : Operand} {tg n : Nat} {c : Option Nat} {k : IntKind} {i : Nat} {ti te : TI} {el : Nat} (hx : A.op fr x = .rc tg n c) (hy : A.op fr y = .int k i) (hT : T.dz[ty']? = some ti) (hk : ti.k = .slice el) (hE : T.dz[el]? = some te) (hi : i < n)
    (h : ay P fr ops rest (A.set d (.ptr tg (i * te.size))) fun A' l => K A' ((A, { d := some d, ty := .ptr tg (i * te.size), rs := cA x ++ cA y }) :: l)) : ay P fr ops (⟨some d, .indexAddr ty' x y, t, p, e, none⟩ :: rest) A K :=
  bR (bl (rt := []) rfl rfl fun a w M _ hr _ => by
    obtain ⟨hdx, hdy⟩ := op2 hr
    rw [hx] at hdx; rw [hy] at hdy
    have ey : a.eval y = .int k i := hdy
    cases c with
    | none => obtain ⟨h0, _⟩ := hdx; omega
    | some c =>
      obtain ⟨b, hb, ex, hn, hm⟩ := hdx
      exact ⟨_, by simp only [execOp, ex, ey, Sem.run_bind, gk hT hk hE (by omega : (0 : Int) ≤ (i : Int)) (by omega : ((i : Nat) : Int).toNat < n)]; rfl, b, hb, by simp [Addr.add_lit]⟩) h
theorem KR {x : Operand} {tg n : Nat} {c : Option Nat} {ti : TI} {el : Nat} (hx : A.op fr x = .rc tg n c) (hT : T.dz[ty']? = some ti) (hk : ti.k = .slice el)
    (h : ay P fr ops rest (A.set d (.int .i64 n)) fun A' l => K A' ((A, { d := some d, ty := .int .i64 n, rs := cA x }) :: l)) : ay P fr ops (⟨some d, .call ⟨.builtin .len, #[x], #[ty']⟩, t, p, e, none⟩ :: rest) A K :=
  bR (bl (rt := []) rfl rfl fun a w M _ hrd _ => by
    have hdx := cN (x := x) (fun _ h => h) hrd
    rw [hx] at hdx
    obtain ⟨_, D, _, hD, hkd, _⟩ := cP hT
    rw [hk] at hkd
    cases D <;> simp only [TK.of, reduceCtorEq, TK.slice.injEq] at hkd
    cases c with
    | none =>
      obtain ⟨h0, ex⟩ := hdx
      exact ⟨.int .i64 n, by simp [execOp, resolve, invoke, builtin, ex, Builtin.len_, run_underlying hD, goInt, h0], rfl⟩
    | some c =>
      obtain ⟨b, _, ex, _⟩ := hdx
      exact ⟨.int .i64 n, by simp [execOp, resolve, invoke, builtin, ex, Builtin.len_, run_underlying hD, goInt], rfl⟩) h
theorem sK {α : Type} [Inhabited α] {E : El α} {xs : List α} {c : Option Nat} {x : Operand} {tg i o Tb : Nat} {ti : TI} {ty : Ty} (hx : A.op fr x = .ptr tg (i * E.size + o)) (hc : A.tag tg = some (.FN E Tb xs c)) (h1 : fR tg) (hT : T.dz[ty']? = some ti) (ha : ti.k.agg = false) (hi : i < xs.length) (hl : (E.tys (nth xs i))[o]? = some ty)
 (h : ay P fr ops rest (A.set d ty) fun A' l => K A' ((A, { d := some d, ty := ty, rs := cA x, rt := [tg] }) :: l)) : ay P fr ops (⟨some d, .load ty' x, t, p, e, none⟩ :: rest) A K :=
 bR (bl rfl rfl fun a w M wf hr ht => by
  have := cN (x := x) (fun _ h => h) hr
  rw [hx] at this
  obtain ⟨b, hb, e⟩ := this
  have hcd : IF E Tb xs c w M tg := ht _ (cj hc) bB
  obtain ⟨v, hv, hd⟩ := nL wf h1 hb (NM hcd) (nB E xs hi o ty hl)
  exact ⟨v, by simp [execOp, e, mX hT ha hv], hd⟩) h
theorem qC {α : Type} [Inhabited α] {E : El α} {xs : List α} {c : Option Nat} {x y : Operand} {tg i o Tb : Nat} {ti : TI} {ty : Ty} {z : α} (hx : A.op fr x = .ptr tg (i * E.size + o)) (hc : A.tag tg = some (.FN E Tb xs c)) (h1 : fR tg) (hT : T.dz[ty']? = some ti) (hsz : ti.size = 1) (hy : A.op fr y = ty) (ho : ty.one = true) (hi : i < xs.length) (hoe : o < E.size)
    (hdt : lp ty.cdeps [tg] = true) (hl : (E.tys (nth xs i)).set o ty = E.tys z)
    (h : ay P fr ops rest (A.after { d := none, S := [tg], sets := [(tg, .FN E Tb (xs.set i z) c)], rs := cA x ++ cA y, rt := [tg] }) fun A' l'' => K A' ((A, { d := none, S := [tg], sets := [(tg, .FN E Tb (xs.set i z) c)], rs := cA x ++ cA y, rt := [tg] }) :: l'')) :
    ay P fr ops (⟨none, .store ty' x y, t, p, e, none⟩ :: rest) A K := by
  refine ⟨_, lT rfl rfl rfl bB lC bB fun a w M wf hr ht => ?_, h⟩
  obtain ⟨hdx, hdy⟩ := op2 hr
  rw [hx] at hdx; rw [hy] at hdy
  obtain ⟨b, hb, ex⟩ := hdx
  have hcd : IF E Tb xs c w M tg := ht _ (cj hc) bB
  cases c with
  | none => have e2 : xs = [] := hcd; subst e2; exact absurd hi (Nat.not_lt_zero _)
  | some c =>
  obtain ⟨b', cs, hb', hh, hsz2, hd⟩ := hcd
  obtain ⟨u, rfl⟩ : ∃ u, tg = u + 1 := ⟨tg - 1, by omega⟩
  have := wf.inj b b' u aE hb hb'
  subst this
  have hone := ty.isOne ho hdy
  have hlen := cO hd
  have hoff : i * E.size + o < cs.size := by
    rw [cz, List.length_take] at hlen
    have : (i + 1) * E.size ≤ xs.length * E.size := Nat.mul_le_mul_right _ hi
    rw [Nat.succ_mul] at this
    simp at hlen; omega
  have hcells : (a.eval y).cells = #[a.eval y] := by
    cases hv : a.eval y <;> first | rfl | (rw [hv] at hone; simp [Value.oneCell'] at hone)
  have hcell : w.cell? ⟨b, i * E.size + o, none⟩ = some cs[i * E.size + o] := by simp [World.cell?, hh]
  have hfz : w.frozen? ⟨b, i * E.size + o, none⟩ = false := by simp [World.frozen?, hh]
  obtain ⟨h1', h2', h3'⟩ := iW wf hb _ (lO hh (off := i * E.size + o) (a.eval y))
  refine ⟨w.setCell ⟨b, i * E.size + o, none⟩ (a.eval y), ?_, M, h1', h2', trivial, ?_⟩
  · have hst := run_store P w ⟨b, i * E.size + o, none⟩ (a.eval y) .plain hone
    rw [hcell] at hst
    simp only [hfz] at hst
    simp [execOp, Instr.storeAt, Instr.sureAddr, ex, storeVar, hcells, cq hT, hsz, storeCells, hst, Addr.add]
  · intro z' hz'
    simp only [List.mem_singleton] at hz'
    subst hz'
    refine ⟨b, _, hb, h3', by simpa using hsz2, ?_⟩
    rw [Array.toList_setIfInBounds, ← yE E xs i hi hl hoe, List.length_set, List.take_set]
    exact nw (b7 h2' j4 jm hd) (ty.mono h2' j4 (gK hdt) hdy)
end
end Go.T
namespace Go.T
open Go Go.RowKit
section
variable {P : Program} {fr : Fr} {ops : Array Oper} {A : As} {rest : List Oper} {K : As → List (As × Fx) → Prop} {d : Nat} {t : TypeId} {p : String} {e : Array Edge} {y : Operand}
theorem M9 {c : Operand} {b : Bool} (hc : A.op fr c = .bool true) (hy : A.op fr y = .bool b)
 (h : ay P fr ops rest (A.set d (.bool b)) fun A' l' => K A' ((A, { d := some d, ty := .bool b, rs := cA c ++ cA y }) :: l')) : ay P fr ops (⟨some d, .pick c y (.const (.bool false)), t, p, e, none⟩ :: rest) A K :=
 bR (bl rfl rfl fun a w M _ hrd _ => by
  obtain ⟨hdc, hdy⟩ := op2 hrd
  rw [hc] at hdc; rw [hy] at hdy
  have ec : a.eval c = .bool true := hdc
  have ey : a.eval y = .bool b := hdy
  exact ⟨.bool b, by simp only [execOp, ec, ey]; simp [asBool], rfl⟩) h
theorem N4 {c : Operand} (hc : A.op fr c = .bool false)
 (h : ay P fr ops rest (A.set d (.bool false)) fun A' l' => K A' ((A, { d := some d, ty := .bool false, rs := cA c ++ cA y }) :: l')) : ay P fr ops (⟨some d, .pick c y (.const (.bool false)), t, p, e, none⟩ :: rest) A K :=
 bR (bl rfl rfl fun a w M _ hrd _ => by
  obtain ⟨hdc, _⟩ := op2 hrd
  rw [hc] at hdc
  have ec : a.eval c = .bool false := hdc
  exact ⟨.bool false, by simp only [execOp, ec]; simp [asBool, Act.eval], rfl⟩) h
end
end Go.T
namespace Go.T
open Go Go.RowKit
structure Qf (α : Type) where
  E : El α
  own : Nat → α → List Ty
  olen : ∀ J x, (own J x).length = E.size
  deps : ∀ J x, ∀ u ∈ cR (own J x), u = J
  cdeps : ∀ J x, ∀ u ∈ cB (own J x), u = J
  oones : ∀ J x, (own J x).all Ty.one = true
  o8 : ∀ J x w M M' vs, Wf w M → (∀ b, M b = some J → M' b = none) → (∀ b, M b = none → M' b = none) → cS w M (own J x) vs → cS w M' (E.tys x) vs
  ren : ∀ J J' x w M M' vs, (∀ b, M b = some J → M' b = some J') → (∀ b, M b = none → M' b = none) → cS w M (own J x) vs → cS w M' (own J' x) vs
  mine : ∀ J x w M vs, cS w M (own J x) vs → ∀ g ∈ vs.filterMap Value.ownBlock, M g = some J
section
variable {α : Type} (E : Qf α)
theorem Qf.jd (J : Nat) (xs : List α) : ∀ u ∈ cR (xs.flatMap (E.own J)), u = J := by
 intro u hu
 simp only [cR, List.mem_flatMap] at hu
 obtain ⟨t, ⟨x, _, hx⟩, hu⟩ := hu
 exact E.deps J x u (List.mem_flatMap.2 ⟨t, hx, hu⟩)
theorem Qf.kA (J : Nat) (xs : List α) : ∀ u ∈ cB (xs.flatMap (E.own J)), u = J := by
 intro u hu
 simp only [cB, List.mem_flatMap] at hu
 obtain ⟨t, ⟨x, _, hx⟩, hu⟩ := hu
 exact E.cdeps J x u (List.mem_flatMap.2 ⟨t, hx, hu⟩)
theorem Qf.cz (J : Nat) : ∀ xs : List α, (xs.flatMap (E.own J)).length = xs.length * E.E.size
  | [] => by simp
  | x :: xs => by rw [List.flatMap_cons, List.length_append, E.olen, Qf.cz J xs, List.length_cons, Nat.succ_mul, Nat.add_comm]
end
section
variable {P : Program} {fr : Fr} {ops : Array Oper} {A : As} {rest : List Oper} {K : As → List (As × Fx) → Prop} {d : Nat} {t ty' : TypeId} {p : String} {e : Array Edge} [T : lq P]
def kW (M : bI) (tg J : Nat) : bI := fun b => if M b = some tg then some J else M b
theorem rQ {w : World} {M : bI} {tg J : Nat} : Le (· ∈ ([] : List Nat)) (· ∈ [tg]) w M w (kW M tg J) :=
 ⟨Nat.le_refl _, rfl, rfl, rfl, fun b _ hm => ⟨by simp [kW, hm], rfl⟩, fun b t hm hk => ⟨by simp only [List.mem_singleton] at hk; simp [kW, hm, hk], fun _ => rfl⟩⟩
theorem C7 {w : World} {M : bI} {tg J : Nat} (hJ : 4096 ≤ J) (wf : Wf w M) : Wf w (kW M tg J) := by
 have key : ∀ b t, kW M tg J b = some t → (M b = some tg ∧ t = J) ∨ M b = some t := fun b t h => by
  unfold kW at h
  split at h
  ·rename_i hm; injection h with h; exact .inl ⟨hm, h.symm⟩
  exact .inr h
 refine ⟨fun b t h => (key b t h).elim (fun h => wf.lt b _ h.1) (fun h => wf.lt b _ h), fun b b' t ht1 h h' => ?_⟩
 rcases key _ _ h with ⟨_, e⟩ | a
 ·omega
 rcases key _ _ h' with ⟨_, e⟩ | a'
 ·omega
 exact wf.inj b b' t ht1 a a'
end
end Go.T
namespace Go.T
open Go Go.RowKit
section
variable {P : Program} {fr : Fr} {ops : Array Oper} {A : As} {rest : List Oper} {K : As → List (As × Fx) → Prop} {d : Nat} {t : TypeId} {p : String} {e : Array Edge}
theorem bT (s : Nat) {op : Op} {j : Nat} {want c : Bool} {f : Fx} (hc : A.slots s = .bool c) (h1 : c = want → uU P fr ops ⟨some d, op, t, p, e, none⟩ A f) (h : ay P fr ops rest (A.set d (.gd (c == want) f.ty)) fun A' l' => K A' ((A, iz d s (c == want) f) :: l')) (hs : oV ops j = some s := by exact rfl) (hn : Nat.blt s fr.n = true := by exact rfl) (hS : f.S = [] := by exact rfl) (hK : f.K = [] := by exact rfl) : ay P fr ops (⟨some d, op, t, p, e, some (j, want)⟩ :: rest) A K := NJ hs hn hc h1 hS hK h
theorem gi (s : Nat) {op : Op} {j : Nat} {want g c : Bool} {f : Fx} (hc : A.slots s = .gd g (.bool c)) (h1 : g = true → c = want → uU P fr ops ⟨some d, op, t, p, e, none⟩ A f) (h : ay P fr ops rest (A.set d (.gd (g && (c == want)) f.ty)) fun A' l' => K A' ((A, iz d s (g && (c == want)) f) :: l')) (hs : oV ops j = some s := by exact rfl) (hn : Nat.blt s fr.n = true := by exact rfl) (hS : f.S = [] := by exact rfl) (hK : f.K = [] := by exact rfl) : ay P fr ops (⟨some d, op, t, p, e, some (j, want)⟩ :: rest) A K := MU hs hn hc h1 hS hK h
theorem cJ (s : Nat) {o : Oper} {f : Fx} {c want : Bool} {ty : Ty} (hg : c = want) (hs : A.slots s = .gd (c == want) ty) (h : uU P fr ops o (A.set s ty) f) : uU P fr ops o A f := bV hs (by rw [hg]; exact beq_self_eq_true _) h
theorem jS (s : Nat) {o : Oper} {f : Fx} {g c want : Bool} {ty : Ty} (h1 : g = true) (hg : c = want) (hs : A.slots s = .gd (g && (c == want)) ty) (h : uU P fr ops o (A.set s ty) f) : uU P fr ops o A f := bV hs (by rw [h1, hg]; simp) h
end
theorem bt {P : Prop} (h : P := by refine dw.mk' ?_ ?_ <;> (repeat' (first | exact aQ | exact aR | refine aG ?_ (Ty.bC _) | refine aG ?_ (Ty.aM _)))) : P := h
theorem dK {P : Prop} (h : P := by refine dw.mk' ?_ ?_ <;> (repeat' (first | exact aQ | exact aR | refine aG ?_ (Ty.bC _) | refine aG ?_ (Ty.aM _) | refine aL rfl (Cont.aM _) ?_))) : P := h
theorem O8 {P : Prop} (h : P := by refine dw.mk' ?_ ?_ <;> (repeat' (first | exact aQ | exact aR | refine aG ?_ (Ty.bC _) | refine aG ?_ Ty.gr))) : P := h
theorem BD {P : Prop} (h : P := by refine dw.mk' ?_ ?_ <;> (repeat' (first | exact aQ | exact aR | refine aG ?_ (Ty.bC _) | refine aG ?_ (Ty.aM _) | refine aG ?_ Ty.gr | refine aL rfl (Cont.aM _) ?_))) : P := h
theorem Oy {P : Prop} (h : P := by refine dw.mk' ?_ ?_ <;> (repeat' (first | exact aQ | exact aR | exact eC | refine aG ?_ (Ty.bC _) | refine aG ?_ (Ty.aM _) | refine aL rfl (Cont.aM _) ?_ | refine aL rfl (Cont.eD ?_) ?_ | refine dD ?_ (Ty.aM _) | refine dD ?_ Ty.gr))) : P := h
theorem Ob {P : Prop} (h : P := by refine dw.mk' ?_ ?_ <;> (repeat' (first | exact aQ | exact aR | refine aG ?_ (Ty.bC _) | refine aG ?_ (Ty.aM _) | refine aG ?_ Ty.gr))) : P := h
theorem KI {P : Prop} (h : P := by refine dw.mk' ?_ ?_ <;> (repeat' (first | exact aQ | exact aR | exact eC | refine aG ?_ (Ty.bC _) | refine aG ?_ (Ty.aM _) | refine aL rfl (Cont.eD ?_) ?_ | refine dD ?_ (Ty.aM _) | refine dD ?_ Ty.gr))) : P := h
end Go.T
namespace Go.Proofs.YtpnndljmhpepgaaGreat
open Go Go.T
set_option maxRecDepth 100000
set_option maxHeartbeats 2000000
attribute [local irreducible] iL fu pJ r9 jY jQ jL jI jT rF jJ q5 dy g6 q2 g7 r8 nth fS dG ay dO bodyPost Exit.then Exit.inBlock Code.wp Code.wpIn fy rS rB rq rL jU r5 fG iT qd cT cX bodyPostM eE
theorem xW (l : List Int) (t : Ty) (h1 : t.one = true) (q : Int → Bool) (hd : t.deps = []) (hc : t.cdeps = []) (hf : ∀ x ∈ l, Cg Tryz.prog t [Ty.int .i64 x] (Ty.bool (q x))) : dO Tryz.prog 133 [Ty.sl cL l, t] (Ty.int .i64 (fidx q l)) := by
 refine az Tryz.func133 ν aB Tryz.ntmps133 aP fun w0 M0 => ?_
 refine fV (s := 0) ν ν fY fun hl => ?_
 refine aF (aA (bS ν (aD (aC (aF (aF (aA (cM ν (bU ν ν ν (bA ν (aD (aC (aV ?_)))))))))))))
 refine bf (fun (k : {k : Nat // ∀ x ∈ l.take k, q x = false}) => live [(0, Ty.sl cL l), (1, t), (7, Ty.int .i64 l.length), (8, Ty.int .i64 (k.1 : Nat))] []) (fun k => l.length - k.1) (⟨0, by simp⟩) ?_ fun k => ?_
 ·exact bt
 refine aF (aA (ah ν ν ν (aD (aC (aF ?_)))))
 refine aU ν (fun hc1 => ?_) (fun hc1 => ?_)
 ·refine aX (aC (aF (aV (aF (aA (bA ν (bS ν (aD (aC (aF (aA ?_)))))))))))
  refine iQ (ty := t) ν ?_
  refine cM ν (bA ν (af ν ν ν ν ν ν aE (aJ ν ν ν ν (oc ν (hf _ (cD aE)) ν (aD (aC ?_))))))
  refine cI ν (fun hc2 => ?_) (fun hc2 => ?_)
  ·refine aF (aA (bA ν (bS ν (aD (aC (au (aZ (aK (aK (aZ (aK (bg ν ν ?_))))))))))))
   exact av rfl rfl (congrArg (Ty.int .i64) (lB aE k.2 C2).symm)
  refine aX (bE (aC (aA (bY ν ν aE aE (bA ν (aD ?_))))))
  refine bG (⟨k.1 + 1, by rw [cg aE]; intro x hx; rcases List.mem_append.1 hx with h | h; exact k.2 x h; rw [List.mem_singleton.1 h]; exact hc2⟩) ?_ pV
  exact bt
 refine bQ (aI (aI (aS ν (aC (aF (aA (bS ν (aD (aC (au (bg ν ν ?_)))))))))))
 exact av rfl rfl (congrArg (Ty.int .i64) (nC D4).symm)
theorem uD (l : List Int) (t : Ty) (h1 : t.one = true) (q : Int → Bool) (hd : t.deps = []) (hc : t.cdeps = []) (hf : ∀ x ∈ l, Cg Tryz.prog t [Ty.int .i64 x] (Ty.bool (q x))) : dO Tryz.prog 117 [Ty.sl cL l, t] (Ty.bool (l.any q)) := by
 refine az Tryz.func117 ν aB Tryz.ntmps117 aP fun w0 M0 => ?_
 refine aF (aA (dN ν (aD (aC (aF (aA (cM ν ?_)))))))
 refine iQ (ty := t) ν ?_
 refine aa (xW l t h1 q hd hc hf) ν MH Lt ν ν ?_
 refine ah ν ν ν (dN ν (aD (aC (au (bg ν ν ?_)))))
 exact av rfl rfl (congrArg Ty.bool (uk q l))
theorem B1 (x : Int) (t : Ty) (h1 : t.one = true) (b : Bool) (hd : t.deps = []) (hc : t.cdeps = []) (hf : Cg Tryz.prog t [Ty.int .i64 x] (Ty.bool b)) : dO Tryz.prog 118 [Ty.int .i64 x, Ty.pp [t]] (Ty.bool (!b)) := by
 refine az Tryz.func118 ν aB Tryz.ntmps118 aP fun w0 M0 => ?_
 refine aF (aA (dN ν (aD (aC (aF (aA (aJ ν ν ν ν (bA ν (oc ν hf ν (dW ν (dN ν (aD (aC (au (bg ν ν ?_)))))))))))))))
 all_goals exact b9 rfl rfl
theorem w7 (l : List Int) (t : Ty) (h1 : t.one = true) (q : Int → Bool) (hd : t.deps = []) (hc : t.cdeps = []) (hf : ∀ x ∈ l, Cg Tryz.prog t [Ty.int .i64 x] (Ty.bool (q x))) : dO Tryz.prog 73 [Ty.sl cL l, t] (Ty.bool (l.all q)) := by
 refine az Tryz.func73 ν aB Tryz.ntmps73 aP fun w0 M0 => ?_
 refine aF (aA ?_)
 refine iq (ty := t) ν h1 ?_
 refine dN ν (aD (aC (aF (aA (cM ν (fA ν ?_))))))
 refine aa (uD l (Ty.so _ [Ty.pp [t]]) ν (fun x => !q x) AT BI fun x hx => gY (B1 x t h1 (q x) hd hc (hf x hx)) ν ν AT BI ν ν) ν LW Kh ν ν ?_
 refine dW ν (dN ν (aD (aC (au (bg ν ν ?_)))))
 exact av rfl rfl (congrArg Ty.bool (CE q l))
theorem qo (l : List oF) (t : Ty) (h1 : t.one = true) (q : oF → Bool) (hd : t.deps = []) (hc : t.cdeps = []) (hf : ∀ x ∈ l, Cg Tryz.prog t [Ty.agg (cZ.tys x)] (Ty.bool (q x))) : dO Tryz.prog 106 [Ty.sl cZ l, t] (Ty.int .i64 (fidx q l)) := by
 refine az Tryz.func106 ν aB Tryz.ntmps106 aP fun w0 M0 => ?_
 refine fV (s := 0) ν ν fY fun hl => ?_
 refine aF (aA (bS ν (aD (aC (aF (aF (aA (cM ν (bU ν ν ν (bA ν (aD (aC (aV ?_)))))))))))))
 refine bf (fun (k : {k : Nat // ∀ x ∈ l.take k, q x = false}) => live [(0, Ty.sl cZ l), (1, t), (7, Ty.int .i64 l.length), (8, Ty.int .i64 (k.1 : Nat))] []) (fun k => l.length - k.1) (⟨0, by simp⟩) ?_ fun k => ?_
 ·exact bt
 refine aF (aA (ah ν ν ν (aD (aC (aF ?_)))))
 refine aU ν (fun hc1 => ?_) (fun hc1 => ?_)
 ·refine aX (aC (aF (aV (aF (aA (bA ν (bS ν (aD (aC (aF (aA ?_)))))))))))
  refine iQ (ty := t) ν ?_
  refine cM ν (bA ν (af ν ν ν ν ν ν aE (aY ν ν ν aP (oc ν (hf _ (cD aE)) ν (aD (aC ?_))))))
  refine cI ν (fun hc2 => ?_) (fun hc2 => ?_)
  ·refine aF (aA (bA ν (bS ν (aD (aC (au (aZ (aK (aK (aZ (aK (bg ν ν ?_))))))))))))
   exact av rfl rfl (congrArg (Ty.int .i64) (lB aE k.2 C2).symm)
  refine aX (bE (aC (aA (bY ν ν aE aE (bA ν (aD ?_))))))
  refine bG (⟨k.1 + 1, by rw [cg aE]; intro x hx; rcases List.mem_append.1 hx with h | h; exact k.2 x h; rw [List.mem_singleton.1 h]; exact hc2⟩) ?_ pV
  exact bt
 refine bQ (aI (aI (aS ν (aC (aF (aA (bS ν (aD (aC (au (bg ν ν ?_)))))))))))
 exact av rfl rfl (congrArg (Ty.int .i64) (nC D4).symm)
theorem n7 (l : List oF) (t : Ty) (h1 : t.one = true) (q : oF → Bool) (hd : t.deps = []) (hc : t.cdeps = []) (hf : ∀ x ∈ l, Cg Tryz.prog t [Ty.agg (cZ.tys x)] (Ty.bool (q x))) : dO Tryz.prog 119 [Ty.sl cZ l, t] (Ty.bool (l.any q)) := by
 refine az Tryz.func119 ν aB Tryz.ntmps119 aP fun w0 M0 => ?_
 refine aF (aA (dN ν (aD (aC (aF (aA (cM ν ?_)))))))
 refine iQ (ty := t) ν ?_
 refine aa (qo l t h1 q hd hc hf) ν MH Lt ν ν ?_
 refine ah ν ν ν (dN ν (aD (aC (au (bg ν ν ?_)))))
 exact av rfl rfl (congrArg Ty.bool (uk q l))
theorem CR (x : oF) (t : Ty) (h1 : t.one = true) (b : Bool) (hd : t.deps = []) (hc : t.cdeps = []) (hf : Cg Tryz.prog t [Ty.agg (cZ.tys x)] (Ty.bool b)) : dO Tryz.prog 120 [Ty.agg (cZ.tys x), Ty.pp [t]] (Ty.bool (!b)) := by
 refine az Tryz.func120 ν aB Tryz.ntmps120 aP fun w0 M0 => ?_
 refine aF (aA (bF ν (dN ν (aD (aC (aF (aA (aJ ν ν ν ν (aY ν ν ν aP (oc ν hf ν (dW ν (dN ν (aD (aC (au (bg ν ν ?_))))))))))))))))
 all_goals exact b9 rfl rfl
theorem ot (l : List oF) (t : Ty) (h1 : t.one = true) (q : oF → Bool) (hd : t.deps = []) (hc : t.cdeps = []) (hf : ∀ x ∈ l, Cg Tryz.prog t [Ty.agg (cZ.tys x)] (Ty.bool (q x))) : dO Tryz.prog 75 [Ty.sl cZ l, t] (Ty.bool (l.all q)) := by
 refine az Tryz.func75 ν aB Tryz.ntmps75 aP fun w0 M0 => ?_
 refine aF (aA ?_)
 refine iq (ty := t) ν h1 ?_
 refine dN ν (aD (aC (aF (aA (cM ν (fA ν ?_))))))
 refine aa (n7 l (Ty.so _ [Ty.pp [t]]) ν (fun x => !q x) AT BI fun x hx => gY (CR x t h1 (q x) hd hc (hf x hx)) ν ν AT BI ν ν) ν LW Kh ν ν ?_
 refine dW ν (dN ν (aD (aC (au (bg ν ν ?_)))))
 exact av rfl rfl (congrArg Ty.bool (CE q l))
theorem xU (l : List bX) (t : Ty) (h1 : t.one = true) (q : bX → Bool) (hd : t.deps = []) (hc : t.cdeps = []) (hf : ∀ x ∈ l, Cg Tryz.prog t [Ty.agg (bq.tys x)] (Ty.bool (q x))) : dO Tryz.prog 129 [Ty.sl bq l, t] (Ty.int .i64 (fidx q l)) := by
 refine az Tryz.func129 ν aB Tryz.ntmps129 aP fun w0 M0 => ?_
 refine fV (s := 0) ν ν fY fun hl => ?_
 refine aF (aA (bS ν (aD (aC (aF (aF (aA (cM ν (bU ν ν ν (bA ν (aD (aC (aV ?_)))))))))))))
 refine bf (fun (k : {k : Nat // ∀ x ∈ l.take k, q x = false}) => live [(0, Ty.sl bq l), (1, t), (7, Ty.int .i64 l.length), (8, Ty.int .i64 (k.1 : Nat))] []) (fun k => l.length - k.1) (⟨0, by simp⟩) ?_ fun k => ?_
 ·exact bt
 refine aF (aA (ah ν ν ν (aD (aC (aF ?_)))))
 refine aU ν (fun hc1 => ?_) (fun hc1 => ?_)
 ·refine aX (aC (aF (aV (aF (aA (bA ν (bS ν (aD (aC (aF (aA ?_)))))))))))
  refine iQ (ty := t) ν ?_
  refine cM ν (bA ν (af ν ν ν ν ν ν aE (aY ν ν ν aP (oc ν (hf _ (cD aE)) ν (aD (aC ?_))))))
  refine cI ν (fun hc2 => ?_) (fun hc2 => ?_)
  ·refine aF (aA (bA ν (bS ν (aD (aC (au (aZ (aK (aK (aZ (aK (bg ν ν ?_))))))))))))
   exact av rfl rfl (congrArg (Ty.int .i64) (lB aE k.2 C2).symm)
  refine aX (bE (aC (aA (bY ν ν aE aE (bA ν (aD ?_))))))
  refine bG (⟨k.1 + 1, by rw [cg aE]; intro x hx; rcases List.mem_append.1 hx with h | h; exact k.2 x h; rw [List.mem_singleton.1 h]; exact hc2⟩) ?_ pV
  exact bt
 refine bQ (aI (aI (aS ν (aC (aF (aA (bS ν (aD (aC (au (bg ν ν ?_)))))))))))
 exact av rfl rfl (congrArg (Ty.int .i64) (nC D4).symm)
theorem j9 (l : List bX) (t : Ty) (h1 : t.one = true) (q : bX → Bool) (hd : t.deps = []) (hc : t.cdeps = []) (hf : ∀ x ∈ l, Cg Tryz.prog t [Ty.agg (bq.tys x)] (Ty.bool (q x))) : dO Tryz.prog 96 [Ty.sl bq l, t] (Ty.bool (l.any q)) := by
 refine az Tryz.func96 ν aB Tryz.ntmps96 aP fun w0 M0 => ?_
 refine aF (aA (dN ν (aD (aC (aF (aA (cM ν ?_)))))))
 refine iQ (ty := t) ν ?_
 refine aa (xU l t h1 q hd hc hf) ν MH Lt ν ν ?_
 refine ah ν ν ν (dN ν (aD (aC (au (bg ν ν ?_)))))
 exact av rfl rfl (congrArg Ty.bool (uk q l))
theorem Cp (x : bX) (t : Ty) (h1 : t.one = true) (b : Bool) (hd : t.deps = []) (hc : t.cdeps = []) (hf : Cg Tryz.prog t [Ty.agg (bq.tys x)] (Ty.bool b)) : dO Tryz.prog 130 [Ty.agg (bq.tys x), Ty.pp [t]] (Ty.bool (!b)) := by
 refine az Tryz.func130 ν aB Tryz.ntmps130 aP fun w0 M0 => ?_
 refine aF (aA (bF ν (dN ν (aD (aC (aF (aA (aJ ν ν ν ν (aY ν ν ν aP (oc ν hf ν (dW ν (dN ν (aD (aC (au (bg ν ν ?_))))))))))))))))
 all_goals exact b9 rfl rfl
theorem xH (l : List bX) (t : Ty) (h1 : t.one = true) (q : bX → Bool) (hd : t.deps = []) (hc : t.cdeps = []) (hf : ∀ x ∈ l, Cg Tryz.prog t [Ty.agg (bq.tys x)] (Ty.bool (q x))) : dO Tryz.prog 100 [Ty.sl bq l, t] (Ty.bool (l.all q)) := by
 refine az Tryz.func100 ν aB Tryz.ntmps100 aP fun w0 M0 => ?_
 refine aF (aA ?_)
 refine iq (ty := t) ν h1 ?_
 refine dN ν (aD (aC (aF (aA (cM ν (fA ν ?_))))))
 refine aa (j9 l (Ty.so _ [Ty.pp [t]]) ν (fun x => !q x) AT BI fun x hx => gY (Cp x t h1 (q x) hd hc (hf x hx)) ν ν AT BI ν ν) ν LW Kh ν ν ?_
 refine dW ν (dN ν (aD (aC (au (bg ν ν ?_)))))
 exact av rfl rfl (congrArg Ty.bool (CE q l))
end Go.Proofs.YtpnndljmhpepgaaGreat
namespace Go.Proofs.YtpnndljmhpepgaaGreat
open Go Go.T
set_option maxRecDepth 100000
set_option maxHeartbeats 2000000
attribute [local irreducible] iL fu pJ r9 jY jQ jL jI jT rF jJ q5 dy g6 q2 g7 r8 nth fS dG ay dO bodyPost Exit.then Exit.inBlock Code.wp Code.wpIn fy rS rB rq rL jU r5 fG iT qd cT cX bodyPostM eE
theorem Ol : Tryz.prog.underlying 22 = some (.slice 3) := by kernel_rfl
theorem OQ : Tryz.prog.underlying 23 = some (.slice 58) := by kernel_rfl
theorem Qm : Tryz.prog.underlying 29 = some (.slice 37) := by kernel_rfl
theorem wM (l : List Int) (h : l.length ≤ 1000) : dO Tryz.prog 34 [Ty.sl cL l] (Ty.sl cL l) := by
 refine az Tryz.func34 ν aB Tryz.ntmps34 aP fun w0 M0 => ?_
 refine aF (aA (fm ν (aD (aC (aF (aA (cM ν (bU ν ν ν ?_))))))))
 refine x7 (E := cL) ν ν ν ν ν ν ν aB ν aE l5 aE ?_
 refine cM ν (cG ν ν aB ν ν ν ν ν ν aB bp bp (iY ν (aD (aC (au (bg ν ν ?_))))))
 all_goals exact qD aB
theorem xB (a b : List Int) : dO Tryz.prog 104 [Ty.sl cL a, Ty.sl cL b] (Ty.bool (decide (a = b))) := by
 refine az Tryz.func104 ν aB Tryz.ntmps104 aP fun w0 M0 => ?_
 refine fV (s := 0) ν ν fY fun ha => ?_
 refine fV (s := 1) ν ν fY fun hb => ?_
 refine aF (aA (dN ν (aD (aC (aF (aF (aA (cM ν (bU ν ν ν (cM ν (bU ν ν ν (ah ν ν ν (aD (aC ?_))))))))))))))
 refine bw ν (fun hc1 => ?_) (fun hc1 => ?_)
 ·try (simp only [Classical.not_not] at hc1)
  refine aF (aA (dN ν (aD (aC (au (aK (bg ν ν ?_)))))))
  exact av rfl rfl (congrArg Ty.bool AG)
 try (simp only [Classical.not_not] at hc1)
 refine aX (aC (aF (aF (aA (cM ν (bU ν ν ν (bA ν (aD (aC (aV ?_))))))))))
 refine bf (fun (k : {k : Nat // a.take k = b.take k}) => live [(0, Ty.sl cL a), (1, Ty.sl cL b), (12, Ty.int .i64 a.length), (13, Ty.int .i64 (k.1 : Nat))] []) (fun k => a.length - k.1) (⟨0, by simp⟩) ?_ fun k => ?_
 ·exact bt
 have hlen : a.length = b.length := by omega
 refine aF (aA (ah ν ν ν (aD (aC (aF ?_)))))
 refine aU ν (fun hc2 => ?_) (fun hc2 => ?_)
 ·try (simp only [Classical.not_not] at hc2)
  refine aX (aC (aF (aV (aF (aA (bA ν (bS ν (aD (aC (aF (cH mixed ν (cM ν (bA ν (af ν ν ν ν ν ν aE (aJ ν ν ν ν (cM ν (bA ν (af ν ν ν ν ν ν aE (aJ ν ν ν ν (ah ν ν ν (aD ?_)))))))))))))))))))))
  refine ⟨by kernel_rfl, ?_⟩
  refine aC ?_
  refine bw ν (fun hc3 => ?_) (fun hc3 => ?_)
  ·try (simp only [Classical.not_not] at hc3)
   refine aF (aA (dN ν (aD (aC (au (aZ (aK (aK (aZ (aK (bg ν ν ?_)))))))))))
   exact av rfl rfl (congrArg Ty.bool (by rw [eq_comm, decide_eq_false_iff_not]; exact mg (k := k.1) (hc3)))
  try (simp only [Classical.not_not] at hc3)
  refine aX (bE (aC (aA (bY ν ν aE aE (bA ν (aD ?_))))))
  refine bG (⟨k.1 + 1, by rw [cg aE, cg aE, k.2, hc3]⟩) ?_ zQ
  exact bt
 try (simp only [Classical.not_not] at hc2)
 refine bQ (aI (aI (aS ν (aC (aF (aA (dN ν (aD (aC (au (bg ν ν ?_)))))))))))
 exact av rfl rfl (congrArg Ty.bool zB)
theorem vV (a b : List Int) : dO Tryz.prog 49 [Ty.sl cL a, Ty.sl cL b] (Ty.bool (decide (a = b))) := by
 refine az Tryz.func49 ν aB Tryz.ntmps49 aP fun w0 M0 => ?_
 refine aF (aA (dN ν (aD (aC (aF (aA (cM ν (cM ν (aa (xB _ _) ν ν ν ν ν (dN ν (aD (aC (au (bg ν ν ?_))))))))))))))
 all_goals exact b9 rfl rfl
theorem I3 (l : List oF) (h : l.length ≤ 1000) : dO Tryz.prog 35 [Ty.sl cZ l] (Ty.sl cZ l) := by
 refine az Tryz.func35 ν aB Tryz.ntmps35 aP fun w0 M0 => ?_
 refine aF (aA (fm ν (aD (aC (aF (aA (cM ν (bU ν ν ν ?_))))))))
 refine x7 (E := cZ) ν ν ν ν ν ν ν aB ν aE l5 aE ?_
 refine cM ν (cG ν ν aB ν ν ν ν ν ν aB bp bp (iY ν (aD (aC (au (bg ν ν ?_))))))
 all_goals exact qD aB
theorem Di (a b : List oF) : dO Tryz.prog 105 [Ty.sl cZ a, Ty.sl cZ b] (Ty.bool (decide (a = b))) := by
 refine az Tryz.func105 ν aB Tryz.ntmps105 aP fun w0 M0 => ?_
 refine fV (s := 0) ν ν fY fun ha => ?_
 refine fV (s := 1) ν ν fY fun hb => ?_
 refine aF (aA (dN ν (aD (aC (aF (aF (aA (cM ν (bU ν ν ν (cM ν (bU ν ν ν (ah ν ν ν (aD (aC ?_))))))))))))))
 refine bw ν (fun hc1 => ?_) (fun hc1 => ?_)
 ·try (simp only [Classical.not_not] at hc1)
  refine aF (aA (dN ν (aD (aC (au (aK (bg ν ν ?_)))))))
  exact av rfl rfl (congrArg Ty.bool AG)
 try (simp only [Classical.not_not] at hc1)
 refine aX (aC (aF (aF (aA (cM ν (bU ν ν ν (bA ν (aD (aC (aV ?_))))))))))
 refine bf (fun (k : {k : Nat // a.take k = b.take k}) => live [(0, Ty.sl cZ a), (1, Ty.sl cZ b), (12, Ty.int .i64 a.length), (13, Ty.int .i64 (k.1 : Nat))] []) (fun k => a.length - k.1) (⟨0, by simp⟩) ?_ fun k => ?_
 ·exact bt
 have hlen : a.length = b.length := by omega
 refine aF (aA (ah ν ν ν (aD (aC (aF ?_)))))
 refine aU ν (fun hc2 => ?_) (fun hc2 => ?_)
 ·try (simp only [Classical.not_not] at hc2)
  refine aX (aC (aF (aV (aF (aA (bA ν (bS ν (aD (aC (aF (cH mixed ν (cM ν (bA ν (af ν ν ν ν ν ν aE (aY ν ν ν aP (cM ν (bA ν (af ν ν ν ν ν ν aE (aY ν ν ν aP (ug (Qq _ _ _ _ _ _) ν ν (aD ?_)))))))))))))))))))))
  refine ⟨by kernel_rfl, ?_⟩
  refine aC ?_
  refine cI ν (fun hc3 => ?_) (fun hc3 => ?_)
  ·try (simp only [Classical.not_not] at hc3)
   refine aF (aA (dN ν (aD (aC (au (aZ (aK (aK (aZ (aK (bg ν ν ?_)))))))))))
   exact av rfl rfl (congrArg Ty.bool (by rw [eq_comm, decide_eq_false_iff_not]; exact mg (k := k.1) (of_decide_eq_false (by rw [← Lh]; exact oL hc3))))
  try (simp only [Classical.not_not] at hc3)
  refine aX (bE (aC (aA (bY ν ν aE aE (bA ν (aD ?_))))))
  refine bG (⟨k.1 + 1, by have e : nth a k.1 = nth b k.1 := of_decide_eq_true (by rw [← Lh]; exact dg hc3); rw [cg aE, cg aE, k.2, e]⟩) ?_ zQ
  exact bt
 try (simp only [Classical.not_not] at hc2)
 refine bQ (aI (aI (aS ν (aC (aF (aA (dN ν (aD (aC (au (bg ν ν ?_)))))))))))
 exact av rfl rfl (congrArg Ty.bool zB)
theorem KX (a b : List oF) : dO Tryz.prog 50 [Ty.sl cZ a, Ty.sl cZ b] (Ty.bool (decide (a = b))) := by
 refine az Tryz.func50 ν aB Tryz.ntmps50 aP fun w0 M0 => ?_
 refine aF (aA (dN ν (aD (aC (aF (aA (cM ν (cM ν (aa (Di _ _) ν ν ν ν ν (dN ν (aD (aC (au (bg ν ν ?_))))))))))))))
 all_goals exact b9 rfl rfl
theorem AP (l : List bX) (h : l.length ≤ 1000) : dO Tryz.prog 36 [Ty.sl bq l] (Ty.sl bq l) := by
 refine az Tryz.func36 ν aB Tryz.ntmps36 aP fun w0 M0 => ?_
 refine aF (aA (fm ν (aD (aC (aF (aA (cM ν (bU ν ν ν ?_))))))))
 refine x7 (E := bq) ν ν ν ν ν ν ν aB ν aE l5 aE ?_
 refine cM ν (cG ν ν aB ν ν ν ν ν ν aB bp bp (iY ν (aD (aC (au (bg ν ν ?_))))))
 all_goals exact qD aB
theorem xG (a b : List bX) : dO Tryz.prog 51 [Ty.sl bq a, Ty.sl bq b] (Ty.bool (decide (a = b))) := by
 refine az Tryz.func51 ν aB Tryz.ntmps51 aP fun w0 M0 => ?_
 refine fV (s := 0) ν ν fY fun ha => ?_
 refine fV (s := 1) ν ν fY fun hb => ?_
 refine aF (aA (dN ν (aD (aC (aF (aF (aA (cM ν (bU ν ν ν (cM ν (bU ν ν ν (ah ν ν ν (aD (aC ?_))))))))))))))
 refine bw ν (fun hc1 => ?_) (fun hc1 => ?_)
 ·try (simp only [Classical.not_not] at hc1)
  refine aF (aA (dN ν (aD (aC (au (aK (bg ν ν ?_)))))))
  exact av rfl rfl (congrArg Ty.bool AG)
 try (simp only [Classical.not_not] at hc1)
 refine aX (aC (aF (aF (aA (cM ν (bU ν ν ν (bA ν (aD (aC (aV ?_))))))))))
 refine bf (fun (k : {k : Nat // a.take k = b.take k}) => live [(0, Ty.sl bq a), (1, Ty.sl bq b), (12, Ty.int .i64 a.length), (13, Ty.int .i64 (k.1 : Nat))] []) (fun k => a.length - k.1) (⟨0, by simp⟩) ?_ fun k => ?_
 ·exact bt
 have hlen : a.length = b.length := by omega
 refine aF (aA (ah ν ν ν (aD (aC (aF ?_)))))
 refine aU ν (fun hc2 => ?_) (fun hc2 => ?_)
 ·try (simp only [Classical.not_not] at hc2)
  refine aX (aC (aF (aV (aF (aA (bA ν (bS ν (aD (aC (aF (cH mixed ν (cM ν (bA ν (af ν ν ν ν ν ν aE (aY ν ν ν aP (cM ν (bA ν (af ν ν ν ν ν ν aE (aY ν ν ν aP (ug (O6 _ _ _ _) ν ν (aD ?_)))))))))))))))))))))
  refine ⟨by kernel_rfl, ?_⟩
  refine aC ?_
  refine cI ν (fun hc3 => ?_) (fun hc3 => ?_)
  ·try (simp only [Classical.not_not] at hc3)
   refine aF (aA (dN ν (aD (aC (au (aZ (aK (aK (aZ (aK (bg ν ν ?_)))))))))))
   exact av rfl rfl (congrArg Ty.bool (by rw [eq_comm, decide_eq_false_iff_not]; exact mg (k := k.1) (of_decide_eq_false (by rw [← Fl]; exact oL hc3))))
  try (simp only [Classical.not_not] at hc3)
  refine aX (bE (aC (aA (bY ν ν aE aE (bA ν (aD ?_))))))
  refine bG (⟨k.1 + 1, by have e : nth a k.1 = nth b k.1 := of_decide_eq_true (by rw [← Fl]; exact dg hc3); rw [cg aE, cg aE, k.2, e]⟩) ?_ zQ
  exact bt
 try (simp only [Classical.not_not] at hc2)
 refine bQ (aI (aI (aS ν (aC (aF (aA (dN ν (aD (aC (au (bg ν ν ?_)))))))))))
 exact av rfl rfl (congrArg Ty.bool zB)
theorem MB (a b : List bX) : dO Tryz.prog 71 [Ty.sl bq a, Ty.sl bq b] (Ty.bool (decide (a = b))) := by
 refine az Tryz.func71 ν aB Tryz.ntmps71 aP fun w0 M0 => ?_
 refine aF (aA (dN ν (aD (aC (aF (aA (cM ν (cM ν (aa (xG _ _) ν ν ν ν ν (dN ν (aD (aC (au (bg ν ν ?_))))))))))))))
 all_goals exact b9 rfl rfl
theorem By (a b : List bX) : dO Tryz.prog 116 [Ty.sl bq a, Ty.sl bq b] (Ty.bool (decide (a = b))) := by
 refine az Tryz.func116 ν aB Tryz.ntmps116 aP fun w0 M0 => ?_
 refine fV (s := 0) ν ν fY fun ha => ?_
 refine fV (s := 1) ν ν fY fun hb => ?_
 refine aF (aA (dN ν (aD (aC (aF (aF (aA (cM ν (bU ν ν ν (cM ν (bU ν ν ν (ah ν ν ν (aD (aC ?_))))))))))))))
 refine bw ν (fun hc1 => ?_) (fun hc1 => ?_)
 ·try (simp only [Classical.not_not] at hc1)
  refine aF (aA (dN ν (aD (aC (au (aK (bg ν ν ?_)))))))
  exact av rfl rfl (congrArg Ty.bool AG)
 try (simp only [Classical.not_not] at hc1)
 refine aX (aC (aF (aF (aA (cM ν (bU ν ν ν (bA ν (aD (aC (aV ?_))))))))))
 refine bf (fun (k : {k : Nat // a.take k = b.take k}) => live [(0, Ty.sl bq a), (1, Ty.sl bq b), (12, Ty.int .i64 a.length), (13, Ty.int .i64 (k.1 : Nat))] []) (fun k => a.length - k.1) (⟨0, by simp⟩) ?_ fun k => ?_
 ·exact bt
 have hlen : a.length = b.length := by omega
 refine aF (aA (ah ν ν ν (aD (aC (aF ?_)))))
 refine aU ν (fun hc2 => ?_) (fun hc2 => ?_)
 ·try (simp only [Classical.not_not] at hc2)
  refine aX (aC (aF (aV (aF (aA (bA ν (bS ν (aD (aC (aF (cH mixed ν (cM ν (bA ν (af ν ν ν ν ν ν aE (aY ν ν ν aP (cM ν (bA ν (af ν ν ν ν ν ν aE (aY ν ν ν aP (ug (PZ _ _ _ _) ν ν (aD ?_)))))))))))))))))))))
  refine ⟨by kernel_rfl, ?_⟩
  refine aC ?_
  refine cI ν (fun hc3 => ?_) (fun hc3 => ?_)
  ·try (simp only [Classical.not_not] at hc3)
   refine aF (aA (dN ν (aD (aC (au (aZ (aK (aK (aZ (aK (bg ν ν ?_)))))))))))
   exact av rfl rfl (congrArg Ty.bool (by rw [eq_comm, decide_eq_false_iff_not]; exact mg (k := k.1) (of_decide_eq_false (by rw [← G5]; exact oL hc3))))
  try (simp only [Classical.not_not] at hc3)
  refine aX (bE (aC (aA (bY ν ν aE aE (bA ν (aD ?_))))))
  refine bG (⟨k.1 + 1, by have e : nth a k.1 = nth b k.1 := of_decide_eq_true (by rw [← G5]; exact dg hc3); rw [cg aE, cg aE, k.2, e]⟩) ?_ zQ
  exact bt
 try (simp only [Classical.not_not] at hc2)
 refine bQ (aI (aI (aS ν (aC (aF (aA (dN ν (aD (aC (au (bg ν ν ?_)))))))))))
 exact av rfl rfl (congrArg Ty.bool zB)
theorem IQ (a b : List bX) : dO Tryz.prog 70 [Ty.sl bq a, Ty.sl bq b] (Ty.bool (decide (a = b))) := by
 refine az Tryz.func70 ν aB Tryz.ntmps70 aP fun w0 M0 => ?_
 refine aF (aA (dN ν (aD (aC (aF (aA (cM ν (cM ν (aa (By _ _) ν ν ν ν ν (dN ν (aD (aC (au (bg ν ν ?_))))))))))))))
 all_goals exact b9 rfl rfl
theorem DY (l : List Int) (h : l.length ≤ 1000) : dO Tryz.prog 113 [Ty.sl cL l] (Ty.sl cL l) := by
 refine az Tryz.func113 ν aB Tryz.ntmps113 aP fun w0 M0 => ?_
 refine aF (aA (fm ν (aD (aC (aF (aF (aA (cM ν (uS Ol ν (aD (aC ?_)))))))))))
 refine pZ ν (fun hc1 => ?_) (fun hc1 => ?_)
 ·refine aF (aA (fm ν (aD (aC (au (aK (bg ν ν ?_)))))))
  exact cy hc1
 refine aX (aC (aF (aA ?_)))
 refine jM (E := cL) ν ν ν ν ?_
 refine cM ν (cG ν ν aB ν ν ν ν ν ν aB bp bp (iY ν (aD (aC (au (bg ν ν ?_))))))
 all_goals exact qD aB
 skip
theorem EZ (l : List oF) (h : l.length ≤ 1000) : dO Tryz.prog 114 [Ty.sl cZ l] (Ty.sl cZ l) := by
 refine az Tryz.func114 ν aB Tryz.ntmps114 aP fun w0 M0 => ?_
 refine aF (aA (fm ν (aD (aC (aF (aF (aA (cM ν (uS OQ ν (aD (aC ?_)))))))))))
 refine pZ ν (fun hc1 => ?_) (fun hc1 => ?_)
 ·refine aF (aA (fm ν (aD (aC (au (aK (bg ν ν ?_)))))))
  exact cy hc1
 refine aX (aC (aF (aA ?_)))
 refine jM (E := cZ) ν ν ν ν ?_
 refine cM ν (cG ν ν aB ν ν ν ν ν ν aB bp bp (iY ν (aD (aC (au (bg ν ν ?_))))))
 all_goals exact qD aB
 skip
end Go.Proofs.YtpnndljmhpepgaaGreat
namespace Go.Proofs.YtpnndljmhpepgaaGreat
open Go Go.T
set_option maxRecDepth 100000
set_option maxHeartbeats 2000000
theorem MF {b : aT} (h : vL b = false) : ∀ l ∈ b.aO, (0 ≤ l.inn ∧ l.inn < b.sizes.length) ∧ -1 ≤ l.aim ∧ l.aim < b.sizes.length := by
 unfold vL at h
 simp only [Bool.not_eq_false', List.all_eq_true, Bool.and_eq_true, Bool.or_eq_true, decide_eq_true_eq, aT.bin, fE] at h
 intro l hl
 have := h l hl
 omega
attribute [local irreducible] iL fu pJ r9 jY jQ jL jI jT rF jJ q5 dy g6 q2 g7 r8 nth fS dG ay dO bodyPost Exit.then Exit.inBlock Code.wp Code.wpIn fy rS rB rq rL jU r5 fG iT qd cT cX bodyPostM eE
theorem IN (n lo hi : Int) : dO Tryz.prog 72 [Ty.int .i64 n, Ty.int .i64 lo, Ty.int .i64 hi] (Ty.bool (Ac n lo hi)) := by
 refine az Tryz.func72 ν aB Tryz.ntmps72 aP fun w0 M0 => ?_
 refine aF (aA (dN ν (aD (aC (aF (aA (bA ν (bA ν (ah ν ν ν (dm ν ?_))))))))))
 refine bT 10 ν (fun hg => aH (bA ν (aD ν))) ?_
 refine bT 10 ν (fun hg => aH (bA ν (aD ν))) ?_
 refine bT 10 ν (fun hg => cJ 11 hg ν (cJ 12 hg ν (aH (ah ν ν ν (aD ν))))) ?_
 refine dA ν ν (dN ν (aD (aC (au (bg ν ν ?_)))))
 all_goals exact b9 rfl rfl
theorem DF (b : aT) (hs : b.Small) (n : Int) : dO Tryz.prog 78 [cU b, Ty.int .i64 n] (Ty.bool (b.bin n)) := by
 refine az Tryz.func78 ν aB Tryz.ntmps78 aP fun w0 M0 => ?_
 have hs1 := hs.sizes
 refine aF (aA (bF ν (dN ν (aD (aC (aF (aA (bA ν (aN ν ν ν ν ν aB (aJ ν ν ν ν (bU ν ν ν (ga ν ν aE aE (aa (IN _ _ _) ν ν ν ν ν (dN ν (aD (aC (au (bg ν ν ?_))))))))))))))))))
 all_goals exact b9 rfl rfl
theorem EC (b : aT) (hs : b.Small) (n : Int) : dO Tryz.prog 86 [cU b, Ty.int .i64 n] (Ty.bool (b.bN n)) := by
 refine az Tryz.func86 ν aB Tryz.ntmps86 aP fun w0 M0 => ?_
 have hs1 := hs.aO
 refine aF (aA (bF ν (dN ν (aD (aC (aF (aA (bA ν (aN ν ν ν ν ν aB (aJ ν ν ν ν (bU ν ν ν (ga ν ν aE aE (aa (IN _ _ _) ν ν ν ν ν (dN ν (aD (aC (au (bg ν ν ?_))))))))))))))))))
 all_goals exact b9 rfl rfl
theorem oN (b : aT) (k i : Int) (hk : 0 ≤ k ∧ k < b.sizes.length) (hi : 0 ≤ i ∧ i < b.aO.length) : dO Tryz.prog 79 [cU b, Ty.int .i64 k, Ty.int .i64 i] (Ty.bool (b.hold k i)) := by
 refine az Tryz.func79 ν aB Tryz.ntmps79 aP fun w0 M0 => ?_
 refine aF (aA (bF ν (dN ν (aD (aC (aF (cH mixed ν (aN ν ν ν ν ν aB (aJ ν ν ν ν (bA ν (dR ν ν ν ν ν ν aE aE (aJ ν ν ν ν (aN ν ν ν ν ν aB (aJ ν ν ν ν (bA ν (dR ν ν ν ν ν ν aE aE (aN ν ν ν ν ν aB (aJ ν ν ν ν (ah ν ν ν (dN ν (aD ?_)))))))))))))))))))))
 refine ⟨by kernel_rfl, ?_⟩
 refine aC (au (bg ν ν ?_))
 all_goals exact b9 rfl rfl
theorem J9 (n : Int) : dO Tryz.prog 74 [Ty.int .i64 n] (Ty.bool (Ac n 0 300)) := by
 refine az Tryz.func74 ν aB Tryz.ntmps74 aP fun w0 M0 => ?_
 refine aF (aA (dN ν (aD (aC (aF (aA (bA ν (aa (IN _ _ _) ν ν ν ν ν (dN ν (aD (aC (au (bg ν ν ?_)))))))))))))
 all_goals exact b9 rfl rfl
theorem LD (l : oF) : dO Tryz.prog 76 [Ty.agg (cZ.tys l)] (Ty.bool (Ac l.bh 1 300)) := by
 refine az Tryz.func76 ν aB Tryz.ntmps76 aP fun w0 M0 => ?_
 refine aF (aA (bF ν (dN ν (aD (aC (aF (aA (aN ν ν ν ν ν aB (aJ ν ν ν ν (aa (IN _ _ _) ν ν ν ν ν (dN ν (aD (aC (au (bg ν ν ?_)))))))))))))))
 all_goals exact b9 rfl rfl
theorem MS (b : aT) (hs : b.Small) (l : oF) : dO Tryz.prog 77 [Ty.agg (cZ.tys l), Ty.pp (bL b)] (Ty.bool (b.bin l.inn && (decide (l.aim = -1) || b.bin l.aim))) := by
 refine az Tryz.func77 ν aB Tryz.ntmps77 aP fun w0 M0 => ?_
 refine aF (aA (bF ν (dN ν (aD (aC (aF (aA (aY ν ν ν aP (aN ν ν ν ν ν aB (aJ ν ν ν ν (aa (DF b hs _) ν ν ν ν ν (dm ν ?_))))))))))))
 refine bT 8 ν (fun hg => aH (aN ν ν ν ν ν aB (aD ν))) ?_
 refine bT 8 ν (fun hg => cJ 9 hg ν (aH (aJ ν ν ν ν (aD ν)))) ?_
 refine bT 8 ν (fun hg => cJ 10 hg ν (aH (ah ν ν ν (aD ν)))) ?_
 refine bT 8 ν (fun hg => cJ 11 hg ν (aH (dm ν (aD ν)))) ?_
 refine gi 12 ν (fun hg1 hg2 => aH (aY ν ν ν aP (aD ν))) ?_
 refine gi 12 ν (fun hg1 hg2 => aH (aN ν ν ν ν ν aB (aD ν))) ?_
 refine gi 12 ν (fun hg1 hg2 => jS 14 hg1 hg2 ν (aH (aJ ν ν ν ν (aD ν)))) ?_
 refine gi 12 ν (fun hg1 hg2 => jS 13 hg1 hg2 ν (jS 15 hg1 hg2 ν (aH (aa (DF b hs _) ν ν ν ν ν (aD ν))))) ?_
 refine bT 8 ν (by intro hg; apply bV (s := 12) ν dF; apply fW (s := 16) ν dF; apply aH; (refine eJ ν ν ?_); refine aD ?_; exact ν) ?_
 refine dA ν ν (dN ν (aD (aC (au (bg ν ν ?_)))))
 all_goals exact b9 rfl rfl
theorem jC (b : aT) (hs : b.Small) : dO Tryz.prog 26 [cU b] (Ty.int .i64 (bH b)) := by
 refine az Tryz.func26 ν aB Tryz.ntmps26 aP fun w0 M0 => ?_
 have hs1 := hs.sizes
 have hs2 := hs.aO
 refine aF (aA (bF ν (bS ν (aD (aC (aF (aV (aF (aA (aN ν ν ν ν ν aB (aJ ν ν ν ν (bU ν ν ν (aa (IN _ _ _) ν ν ν ν ν (dW ν (dm ν ?_)))))))))))))))
 refine bT 15 ν (fun hg => aH (aN ν ν ν ν ν aB (aD ν))) ?_
 refine bT 15 ν (fun hg => cJ 16 hg ν (aH (aJ ν ν ν ν (aD ν)))) ?_
 refine bT 15 ν (fun hg => cJ 17 hg ν (aH (bU ν ν ν (aD ν)))) ?_
 refine bT 15 ν (fun hg => cJ 18 hg ν (aH (ah ν ν ν (aD ν)))) ?_
 refine eJ ν ν (dN ν (aD (aC ?_)))
 refine cI ν (fun hc1 => ?_) (fun hc1 => ?_)
 ·refine aF (aA (bS ν (aD (aC (au (aZ (aK (bg ν ν ?_))))))))
  exact av rfl rfl (congrArg (Ty.int .i64) (by rw [bH, if_pos (show pM b = true from hc1)]))
 refine aF (aA (aN ν ν ν ν ν aB (aJ ν ν ν ν ?_)))
 refine aa (w7 b.sizes (Ty.so _ []) ν (fun n => Ac n 0 300) ν ν fun x _ => gY (J9 x) ν ν ν ν ν ν) ν ν ν ν ν ?_
 refine dW ν (dm ν ?_)
 refine bT 26 ν (fun hg => aH (aN ν ν ν ν ν aB (aD ν))) ?_
 refine bT 26 ν (fun hg => cJ 27 hg ν (aH (aJ ν ν ν ν (aD ν)))) ?_
 refine bT 26 ν (by intro hg; apply bV (s := 28) ν dF; apply aH; (refine aa (ot b.aO (Ty.so _ []) ν (fun l => Ac l.bh 1 300) ν ν fun x _ => gY (LD x) ν ν ν ν ν ν) ν ν ν ν ν ?_); refine aD ?_; exact ν) ?_
 refine bT 26 ν (fun hg => cJ 29 hg ν (aH (dW ν (aD ν)))) ?_
 refine eJ ν ν (dN ν (aD (aC ?_)))
 refine cI ν (fun hc2 => ?_) (fun hc2 => ?_)
 ·refine aF (aA (bS ν (aD (aC (au (aZ (aK (bg ν ν ?_))))))))
  exact av rfl rfl (congrArg (Ty.int .i64) (by rw [bH, if_neg (ng (show pM b = false from hc1)), if_pos (show nI b = true from hc2)]))
 refine aF (aA (aN ν ν ν ν ν aB (aJ ν ν ν ν (fA ν ?_))))
 refine aa (ot b.aO (Ty.so _ [Ty.pp (bL b)]) ν (fun l => b.bin l.inn && (decide (l.aim = -1) || b.bin l.aim)) ν ν fun x _ => gY (MS b hs x) ν ν ν ν ν ν) ν ν ν ν ν ?_
 refine dW ν (dN ν (aD (aC ?_)))
 refine cI ν (fun hc3 => ?_) (fun hc3 => ?_)
 ·refine aF (aA (bS ν (aD (aC (au (aZ (aK (bg ν ν ?_))))))))
  exact av rfl rfl (congrArg (Ty.int .i64) (by rw [bH, if_neg (ng (show pM b = false from hc1)), if_neg (ng (show nI b = false from hc2)), if_pos (show vL b = true from hc3)]))
 refine aX (bE (aC (aF (aF (aA (aN ν ν ν ν ν aB (aJ ν ν ν ν (bU ν ν ν (bA ν (aD (aC (aV ?_))))))))))))
 refine bf (fun (i : {i : Nat // ∀ j, j < i → vl b j = false}) => live [(1, Ty.pp (bL b)), (39, Ty.sl cZ b.aO), (40, Ty.int .i64 b.aO.length), (41, Ty.int .i64 (i.1 : Nat))] []) (fun i => b.aO.length - i.1) (⟨0, fun j hj => absurd hj (Nat.not_lt_zero j)⟩) ?_ fun i => ?_
 ·exact bt
 refine aF (aA (ah ν ν ν (aD (aC (aF ?_)))))
 refine aU ν (fun hc4 => ?_) (fun hc4 => ?_)
 ·refine aX (aC (aF (aV (aF (aA (bA ν (af ν ν ν ν ν ν aE (aY ν ν ν aP (bZ ν bW ν (bS ν ?_))))))))))
  refine bK ν ν aB ν ν ν ν ν ν (aD (aC (aF (aA (aN ν ν ν ν ν aB (aJ ν ν ν ν (bA ν (vD ν ν ν ν ν ν aE (bU ν ν ν (bA ν (aD (aC ?_))))))))))))
  refine aV ?_
  refine bf (fun (m : {m : Nat // ∀ k ∈ (b.aO.take i.1).take m, vg (nth b.aO i.1) k = false}) => live [(1, Ty.pp (bL b)), (4, Ty.ptr 5 0), (39, Ty.sl cZ b.aO), (40, Ty.int .i64 b.aO.length), (41, Ty.int .i64 (i.1 : Nat)), (49, Ty.sl cZ (b.aO.take i.1)), (50, Ty.int .i64 (i.1 : Nat)), (51, Ty.int .i64 (m.1 : Nat))] [(5, Cont.cells 58 (cZ.tys (nth b.aO i.1)))]) (fun m => i.1 - m.1) (⟨0, by simp⟩) ?_ fun m => ?_
  ·(refine dw.mk' ?_ ?_ <;> (repeat' (first | exact aQ | exact aR | refine aG ?_ (Ty.bC _) | refine aG ?_ (Ty.aM _) | refine aL rfl (Cont.aM _) ?_ | refine aG ?_ ?_)))
   all_goals exact Ty.bO zu
  refine aF (aA (ah ν ν ν (aD (aC (aF ?_)))))
  refine aU ν (fun hc5 => ?_) (fun hc5 => ?_)
  ·refine aX (aC (aF (aV (aF (aA (af ν ν ν ν ν ν bp (aY ν ν ν aP (bZ ν bW ν ?_))))))))
   refine bK ν ν aB ν ν ν ν ν ν (aD (aC (aF (aA (ak ν ν ν ν ν aB (aq ν ν aB ν ν ν (ak ν ν ν ν ν aB (aq ν ν aB ν ν ν (ah ν ν ν (dm ν ?_))))))))))
   refine bT 60 ν (fun hg => aH (ak ν ν ν ν ν aB (aD ν))) ?_
   refine bT 60 ν (fun hg => cJ 61 hg ν (aH (aq ν ν aB ν ν ν (aD ν)))) ?_
   refine bT 60 ν (fun hg => aH (ak ν ν ν ν ν aB (aD ν))) ?_
   refine bT 60 ν (fun hg => cJ 63 hg ν (aH (aq ν ν aB ν ν ν (aD ν)))) ?_
   refine bT 60 ν (fun hg => cJ 62 hg ν (cJ 64 hg ν (aH (ah ν ν ν (aD ν))))) ?_
   refine bT 60 ν (fun hg => cJ 65 hg ν (aH (dm ν (aD ν)))) ?_
   refine gi 66 ν (fun hg1 hg2 => aH (ak ν ν ν ν ν aB (aD ν))) ?_
   refine gi 66 ν (fun hg1 hg2 => jS 67 hg1 hg2 ν (aH (aq ν ν aB ν ν ν (aD ν)))) ?_
   refine gi 66 ν (fun hg1 hg2 => jS 68 hg1 hg2 ν (aH (ah ν ν ν (aD ν)))) ?_
   refine bT 60 ν (by intro hg; apply bV (s := 66) ν dF; apply fW (s := 69) ν dF; apply aH; (refine dA ν ν ?_); refine aD ?_; exact ν) ?_
   refine eJ ν ν (aD (aC ?_))
   refine cI ν (fun hc6 => ?_) (fun hc6 => ?_)
   ·refine aF (aA (bS ν (aD (aC (au (aZ (aK (aK (aZ (aZ (aK (aK (aZ (aK (bg ν ν ?_)))))))))))))))
    exact av rfl rfl (congrArg (Ty.int .i64) (by rw [bH, if_neg (ng (show pM b = false from hc1)), if_neg (ng (show nI b = false from hc2)), if_neg (ng (show vL b = false from hc3)), if_pos (show pF b = true from nr (k := i.1) aE (pG (k := m.1) zu hc6))]))
   refine aX (bE (aC (aA (bY ν ν aE aE (bA ν (aD ?_))))))
   refine bG (⟨m.1 + 1, gJ m.2 zu hc6⟩) ?_ (by show i.1 - (m.1 + 1) < i.1 - m.1; omega)
   exact dK
  refine bQ (aI (aI (aS ν (bE (aC (aA (bY ν ν aE aE (bA ν (aD ?_)))))))))
  refine bG (⟨i.1 + 1, kS i.2 (gl m.2 zu)⟩) ?_ (by show b.aO.length - (i.1 + 1) < b.aO.length - i.1; omega)
  exact bt
 refine bQ (aI (aI (aS ν (aC (aF (aF (aA (aN ν ν ν ν ν aB (aJ ν ν ν ν (bU ν ν ν (bA ν (aD (aC (aV ?_))))))))))))))
 refine bf (fun (i2 : {i : Nat // ∀ j, j < i → AQ b j = false}) => live [(1, Ty.pp (bL b)), (75, Ty.sl cZ b.aO), (76, Ty.int .i64 b.aO.length), (77, Ty.int .i64 (i2.1 : Nat))] []) (fun i2 => b.aO.length - i2.1) (⟨0, fun j hj => absurd hj (Nat.not_lt_zero j)⟩) ?_ fun i2 => ?_
 ·exact bt
 have hi2 := MF (b := b) hc3
 refine aF (aA (ah ν ν ν (aD (aC (aF ?_)))))
 refine aU ν (fun hc7 => ?_) (fun hc7 => ?_)
 ·refine aX (aC (aF (aV (aF ?_))))
  have hn2 := hi2 _ (cD (xs := b.aO) (k := i2.1) aE)
  refine aA (bA ν (af ν ν ν ν ν ν aE (aY ν ν ν aP (bZ ν bW ν (bS ν (bK ν ν aB ν ν ν ν ν ν (aD (aC (aF (aA (aY ν ν ν aP (ak ν ν ν ν ν aB (aq ν ν aB ν ν ν (bA ν ?_))))))))))))))
  refine aa (oN b (nth b.aO i2.1).inn i2.1 hn2.1 ⟨by omega, by omega⟩) ν ν ν ν ν ?_
  refine dW ν (dm ν ?_)
  refine bT 88 ν (fun hg => aH (ak ν ν ν ν ν aB (aD ν))) ?_
  refine bT 88 ν (fun hg => cJ 89 hg ν (aH (aq ν ν aB ν ν ν (aD ν)))) ?_
  refine bT 88 ν (fun hg => cJ 90 hg ν (aH (ah ν ν ν (aD ν)))) ?_
  refine bT 88 ν (fun hg => cJ 91 hg ν (aH (dm ν (aD ν)))) ?_
  refine gi 92 ν (fun hg1 hg2 => aH (aY ν ν ν aP (aD ν))) ?_
  refine gi 92 ν (fun hg1 hg2 => aH (ak ν ν ν ν ν aB (aD ν))) ?_
  refine gi 92 ν (fun hg1 hg2 => jS 94 hg1 hg2 ν (aH (aq ν ν aB ν ν ν (aD ν)))) ?_
  refine gi 92 ν (fun hg1 hg2 => aH (bA ν (aD ν))) ?_
  refine gi 92 rfl (by intro hg1 hg2; apply bV (s := 93) rfl tU; apply bV (s := 95) rfl tU; apply bV (s := 96) rfl tU; apply aH; (refine aa (oN b (nth b.aO i2.1).aim i2.1 ⟨by have h9 : (nth b.aO i2.1).aim ≠ -1 := (by simpa using hg2); omega, hn2.2.2⟩ ⟨by omega, by omega⟩) rfl rfl rfl rfl rfl ?_); refine aD ?_; exact rfl) ?_
  refine gi 92 ν (fun hg1 hg2 => jS 97 hg1 hg2 ν (aH (dW ν (aD ν)))) ?_
  refine bT 88 ν (by intro hg; apply bV (s := 92) ν dF; apply fW (s := 98) ν dF; apply aH; (refine dA ν ν ?_); refine aD ?_; exact ν) ?_
  refine eJ ν ν (aD (aC ?_))
  refine cI ν (fun hc8 => ?_) (fun hc8 => ?_)
  ·refine aF (aA (bS ν (aD (aC (au (aZ (aK (aK (aZ (aK (bg ν ν ?_)))))))))))
   exact av rfl rfl (congrArg (Ty.int .i64) (by rw [bH, if_neg (ng (show pM b = false from hc1)), if_neg (ng (show nI b = false from hc2)), if_neg (ng (show vL b = false from hc3)), if_neg (ng (show pF b = false from mT i.2 aE)), if_pos (show xK b = true from nr (k := i2.1) aE hc8)]))
  refine aX (bE (aC (aA (bY ν ν aE aE (bA ν (aD ?_))))))
  refine bG (⟨i2.1 + 1, kS i2.2 hc8⟩) ?_ (by show b.aO.length - (i2.1 + 1) < b.aO.length - i2.1; omega)
  exact bt
 refine bQ (aI (aI (aS ν (aC (aF (aA (bS ν (aD (aC (au (bg ν ν ?_)))))))))))
 exact av rfl rfl (congrArg (Ty.int .i64) (by rw [bH, if_neg (ng (show pM b = false from hc1)), if_neg (ng (show nI b = false from hc2)), if_neg (ng (show vL b = false from hc3)), if_neg (ng (show pF b = false from mT i.2 aE)), if_neg (ng (show xK b = false from mT i2.2 aE))]))
end Go.Proofs.YtpnndljmhpepgaaGreat
namespace Go.Proofs.YtpnndljmhpepgaaGreat
open Go Go.T
def eO (p : Nat → Bool) (n : Nat) : List Int := ((List.range n).filter p).map fun (k : Nat) => (k : Int)
theorem oP (p : Nat → Bool) : eO p 0 = [] := rfl
theorem xF (p : Nat → Bool) (n : Nat) : eO p (n + 1) = eO p n ++ if p n = true then [(n : Int)] else [] := by
 unfold eO
 rw [List.range_succ, List.filter_append, List.map_append]
 congr 1
 by_cases h : p n = true
 ·rw [if_pos h, List.filter_cons, if_pos h]; rfl
 rw [if_neg h, List.filter_cons, if_neg h]; rfl
theorem nX {p : Nat → Bool} {n : Nat} (h : p n = true) : eO p n ++ [(n : Int)] = eO p (n + 1) := by rw [xF, if_pos h]
theorem p6 {p : Nat → Bool} {n : Nat} (h : p n = false) : eO p n = eO p (n + 1) := by rw [xF, if_neg oz, List.append_nil]
theorem jW (p : Nat → Bool) (n : Nat) : (eO p n).length ≤ n := by
 unfold eO; rw [List.length_map]; exact Nat.le_trans (List.length_filter_le _ _) bB
def aT.free (b : aT) (k : Int) : Bool := b.aO.all fun l => !decide (l.inn = k)
def aT.wanted (b : aT) (k : Int) : Bool := b.aO.any fun l => decide (l.aim = k)
def pq (b : aT) (i : Nat) : Bool := (!decide ((nth b.aO i).aim = -1) && !decide ((nth b.aO i).aim = (nth b.aO i).inn)) || (decide ((nth b.aO i).aim = -1) && b.wanted (nth b.aO i).inn)
def yL (b : aT) : List Int := eO (fun k => b.free k) b.sizes.length
def LJ (b : aT) (i : Int) : List Int := eO (fun k => b.hold k i) b.sizes.length
def pN (b : aT) : List Int := eO (pq b) b.aO.length
def fL (b : aT) (i : Int) : Int := if bH b = 0 ∧ b.bN i = false then 1 else bH b
theorem yC {b : aT} {i : Int} (h : fL b i = 0) : bH b = 0 ∧ 0 ≤ i ∧ i < b.aO.length := by
  unfold fL at h
  split at h
  · cases h
  · rename_i hn
    refine ⟨h, ?_⟩
    cases hl : b.bN i with
    | false => exact absurd ⟨h, hl⟩ hn
    | true => rw [aT.bN, fE] at hl; omega
def follows (b : aT) (i : Int) : Int := fidx (fun l => decide (l.inn = (nth b.aO i.toNat).aim)) b.aO
theorem GP {α : Type} (p : α → Bool) (l : List α) : -1 ≤ fidx p l ∧ fidx p l < l.length := by
  unfold fidx
  cases h : l.findIdx? p with
  | none => exact ⟨Int.le_refl _, by show (-1 : Int) < l.length; omega⟩
  | some i =>
    have := (List.findIdx?_eq_some_iff_getElem.1 h).1
    exact ⟨by show (-1 : Int) ≤ (i : Int); omega, by show (i : Int) < l.length; omega⟩
theorem lP (b : aT) (i : Int) : -1 ≤ follows b i ∧ follows b i < b.aO.length := GP _ _
def zg (b : aT) (i : Int) : Nat → List Int → Option (List Int)
  | 0, _ => none
  | f + 1, l => if follows b (nth l (l.length - 1)) = i ∧ 1 < l.length then some l else if follows b (nth l (l.length - 1)) ≤ i then none else
    if l.length + 1 > b.aO.length then none else zg b i f (l ++ [follows b (nth l (l.length - 1))])
def o7 (b : aT) (i : Nat) : Option (List Int) := zg b i (b.aO.length + 1) [(i : Int)]
def fO (b : aT) (n : Nat) : List (List Int) := (List.range n).filterMap (o7 b)
def l7 (b : aT) : List (List Int) := fO b b.aO.length
theorem kQ (b : aT) (n : Nat) : fO b (n + 1) = fO b n ++ (o7 b n).toList := by
 unfold fO
 rw [List.range_succ, List.filterMap_append]
 cases h : o7 b n <;> simp [List.filterMap_cons, h]
theorem oW (b : aT) (n : Nat) : (fO b n).length ≤ n := by
 unfold fO; exact Nat.le_trans (List.length_filterMap_le _ _) bB
structure Gb (b : aT) (i : Nat) (l : List Int) : Prop where
  pos : 1 ≤ l.length
  len : l.length ≤ b.aO.length
  rng : ∀ x ∈ l, 0 ≤ x ∧ x < b.aO.length
  same : o7 b i = zg b i (b.aO.length + 2 - l.length) l
theorem ER {b : aT} {i : Nat} (h : i < b.aO.length) : Gb b i [(i : Int)] :=
 ⟨by simp, by simp; omega, by intro x hx; rw [List.mem_singleton.1 hx]; omega, rfl⟩
section
variable {b : aT} {i : Nat} {l : List Int} (x : Gb b i l)
include x
theorem Gb.last : 0 ≤ nth l (l.length - 1) ∧ nth l (l.length - 1) < b.aO.length := x.rng _ (cD (by have := x.pos; omega))
theorem Gb.step : o7 b i = if follows b (nth l (l.length - 1)) = i ∧ 1 < l.length then some l else if follows b (nth l (l.length - 1)) ≤ i then none else
 if l.length + 1 > b.aO.length then none else zg b i (b.aO.length + 1 - l.length) (l ++ [follows b (nth l (l.length - 1))]) := by
 have h1 := x.pos
 have h2 := x.len
 rw [x.same, show b.aO.length + 2 - l.length = (b.aO.length + 1 - l.length) + 1 by omega]; rfl
theorem Gb.found (h1 : follows b (nth l (l.length - 1)) = i) (h2 : 1 < l.length) : o7 b i = some l := by rw [x.step, if_pos ⟨h1, h2⟩]
theorem Gb.stop (h1 : ¬ (follows b (nth l (l.length - 1)) = i ∧ 1 < l.length)) (h2 : follows b (nth l (l.length - 1)) ≤ i) : o7 b i = none := by rw [x.step, if_neg h1, if_pos h2]
theorem Gb.Pw (h1 : ¬ (follows b (nth l (l.length - 1)) = i ∧ 1 < l.length)) (h2 : ¬ follows b (nth l (l.length - 1)) ≤ i) (h3 : b.aO.length < l.length + 1) : o7 b i = none := by rw [x.step, if_neg h1, if_neg h2, if_pos h3]
theorem Gb.next (h1 : ¬ (follows b (nth l (l.length - 1)) = i ∧ 1 < l.length)) (h2 : ¬ follows b (nth l (l.length - 1)) ≤ i) (h3 : ¬ b.aO.length < l.length + 1) : Gb b i (l ++ [follows b (nth l (l.length - 1))]) := by
 refine ⟨by simp, by simp; omega, fun y hy => ?_, ?_⟩
 ·rcases List.mem_append.1 hy with h | h
  ·exact x.rng y h
  rw [List.mem_singleton.1 h]
  have := lP b (nth l (l.length - 1)); omega
 rw [x.step, if_neg h1, if_neg h2, if_neg h3, List.length_append, List.length_singleton]
 congr 1
 omega
end
end Go.Proofs.YtpnndljmhpepgaaGreat
namespace Go.Proofs.YtpnndljmhpepgaaGreat
open Go Go.T
set_option maxRecDepth 100000
set_option maxHeartbeats 2000000
attribute [local irreducible] iL fu pJ r9 jY jQ jL jI jT rF jJ q5 dy g6 q2 g7 r8 nth fS dG ay dO bodyPost Exit.then Exit.inBlock Code.wp Code.wpIn fy rS rB rq rL jU r5 fG iT qd cT cX bodyPostM eE
theorem MO {b : aT} {n : Nat} (h : b.free (n : Int) = true) : eO (fun k => b.free k) n ++ [(n : Int)] = eO (fun k => b.free k) (n + 1) := nX (p := fun k : Nat => b.free k) h
theorem N7 {b : aT} {n : Nat} (h : b.free (n : Int) = false) : eO (fun k => b.free k) n = eO (fun k => b.free k) (n + 1) := p6 (p := fun k : Nat => b.free k) h
theorem D6 {b : aT} {i : Int} {n : Nat} (h : b.hold (n : Int) i = true) : eO (fun k => b.hold k i) n ++ [(n : Int)] = eO (fun k => b.hold k i) (n + 1) := nX (p := fun k : Nat => b.hold k i) h
theorem HR {b : aT} {i : Int} {n : Nat} (h : b.hold (n : Int) i = false) : eO (fun k => b.hold k i) n = eO (fun k => b.hold k i) (n + 1) := p6 (p := fun k : Nat => b.hold k i) h
theorem JU {b : aT} {i : Int} (h : (decide (bH b = 0) && !b.bN i) = true) : 1 = fL b i := by
 simp only [Bool.and_eq_true, decide_eq_true_eq, Bool.not_eq_true'] at h
 unfold fL; rw [if_pos h]
theorem Lm {b : aT} {i : Int} (h : (decide (bH b = 0) && !b.bN i) = false) : bH b = fL b i := by
 unfold fL; rw [if_neg]
 rintro ⟨h1, h2⟩
 rw [h1, h2] at h; cases h
theorem wz {b : aT} {i : Nat} {l : List Int} (x : Gb b i l) (h : (decide (follows b (nth l (l.length - 1)) = i) && decide ((1 : Int) < l.length)) = true) : fO b i ++ [l] = fO b (i + 1) := by
 simp only [Bool.and_eq_true, decide_eq_true_eq] at h
 rw [kQ, x.found h.1 aE]; rfl
theorem zW {b : aT} {i : Nat} {l : List Int} (x : Gb b i l) (h : (decide (follows b (nth l (l.length - 1)) = i) && decide ((1 : Int) < l.length)) = false) (h2 : follows b (nth l (l.length - 1)) ≤ i) : fO b i = fO b (i + 1) := by
 rw [kQ, x.stop (fun ⟨e1, e2⟩ => by rw [decide_eq_true e1, decide_eq_true aE] at h; cases h) h2]; simp
theorem zP {b : aT} {i : Nat} {l : List Int} {y : Int} (x : Gb b i l) (h : (decide (follows b (nth l (l.length - 1)) = i) && decide ((1 : Int) < l.length)) = false) (h2 : ¬ follows b (nth l (l.length - 1)) ≤ i) (h3 : (b.aO.length : Int) < (l ++ [y]).length) : fO b i = fO b (i + 1) := by
 rw [kQ, x.Pw (fun ⟨e1, e2⟩ => by rw [decide_eq_true e1, decide_eq_true aE] at h; cases h) h2 (by simp at h3; omega)]; simp
theorem gD {α : Type} {E : El α} {T tg : Nat} {xs : List α} (e : [] = xs) : (Ty.ex (.slice none 0 0)).Sub (Ty.row E T tg xs) := by subst e; exact Ty.gr
theorem No (k : Int) (l : oF) : dO Tryz.prog 132 [Ty.agg (cZ.tys l), Ty.pp [Ty.int .i64 k]] (Ty.bool (!decide (l.inn = k))) := by
 refine az Tryz.func132 ν aB Tryz.ntmps132 aP fun w0 M0 => ?_
 refine aF (aA (bF ν (dN ν (aD (aC (aF (aA (aN ν ν ν ν ν aB (aJ ν ν ν ν (aJ ν ν ν ν (ah ν ν ν (dN ν (aD (aC (au (bg ν ν ?_))))))))))))))))
 all_goals exact b9 rfl rfl
theorem GQ (b : aT) (k : Int) : dO Tryz.prog 111 [cU b, Ty.int .i64 k] (Ty.bool (b.free k)) := by
 refine az Tryz.func111 ν aB Tryz.ntmps111 aP fun w0 M0 => ?_
 refine aF (aA (bF ν (iq gR ν ?_)))
 refine dN ν (aD (aC (aF (aA (aN ν ν ν ν ν aB (aJ ν ν ν ν (fA ν ?_)))))))
 refine aa (ot b.aO (Ty.so _ [Ty.pp [Ty.int .i64 k]]) ν (fun l => !decide (l.inn = k)) ν ν fun x _ => gY (No k x) ν ν ν ν ν ν) ν ν ν ν ν ?_
 refine dN ν (aD (aC (au (bg ν ν ?_))))
 all_goals exact b9 rfl rfl
theorem Iq (k : Int) (l : oF) : dO Tryz.prog 135 [Ty.agg (cZ.tys l), Ty.pp [Ty.int .i64 k]] (Ty.bool (decide (l.aim = k))) := by
 refine az Tryz.func135 ν aB Tryz.ntmps135 aP fun w0 M0 => ?_
 refine aF (aA (bF ν (dN ν (aD (aC (aF (aA (aN ν ν ν ν ν aB (aJ ν ν ν ν (aJ ν ν ν ν (ah ν ν ν (dN ν (aD (aC (au (bg ν ν ?_))))))))))))))))
 all_goals exact b9 rfl rfl
theorem K5 (b : aT) (k : Int) : dO Tryz.prog 125 [cU b, Ty.int .i64 k] (Ty.bool (b.wanted k)) := by
 refine az Tryz.func125 ν aB Tryz.ntmps125 aP fun w0 M0 => ?_
 refine aF (aA (bF ν (iq gR ν ?_)))
 refine dN ν (aD (aC (aF (aA (aN ν ν ν ν ν aB (aJ ν ν ν ν (fA ν ?_)))))))
 refine aa (n7 b.aO (Ty.so _ [Ty.pp [Ty.int .i64 k]]) ν (fun l => decide (l.aim = k)) ν ν fun x _ => gY (Iq k x) ν ν ν ν ν ν) ν ν ν ν ν ?_
 refine dN ν (aD (aC (au (bg ν ν ?_))))
 all_goals exact b9 rfl rfl
theorem F9 (k : Int) (l : oF) : dO Tryz.prog 107 [Ty.agg (cZ.tys l), Ty.pp [Ty.int .i64 k]] (Ty.bool (decide (l.inn = k))) := by
 refine az Tryz.func107 ν aB Tryz.ntmps107 aP fun w0 M0 => ?_
 refine aF (aA (bF ν (dN ν (aD (aC (aF (aA (aN ν ν ν ν ν aB (aJ ν ν ν ν (aJ ν ν ν ν (ah ν ν ν (dN ν (aD (aC (au (bg ν ν ?_))))))))))))))))
 all_goals exact b9 rfl rfl
theorem wF (b : aT) (i : Int) (hi : 0 ≤ i ∧ i < b.aO.length) : dO Tryz.prog 52 [cU b, Ty.int .i64 i] (Ty.int .i64 (follows b i)) := by
 refine az Tryz.func52 ν aB Tryz.ntmps52 aP fun w0 M0 => ?_
 refine aF (aA (bF ν (bS ν (aD (aC (aF (aA (aN ν ν ν ν ν aB (aJ ν ν ν ν (bA ν (dR ν ν ν ν ν ν aE aE (aN ν ν ν ν ν aB (aJ ν ν ν ν (bZ ν bW ν (dH ν ν aB ν ν gR ν aP ν ν jF ?_)))))))))))))))
 refine aD (aC (aF ?_))
 refine jA (tg := 6) [(5, Ty.pp [Ty.int .i64 (nth b.aO i.toNat).aim])] aB rfl ⟨Bh (T := 3) (tg := 6) (off := 0) (l := [Ty.int .i64 (nth b.aO i.toNat).aim]) rfl rfl rfl aB, trivial⟩ ?_
 refine aA (aN ν ν ν ν ν aB (aJ ν ν ν ν (fA ν ?_)))
 refine aa (qo b.aO (Ty.so _ [Ty.pp [Ty.int .i64 (nth b.aO i.toNat).aim]]) ν (fun l => decide (l.inn = (nth b.aO i.toNat).aim)) ν ν fun x _ => gY (F9 _ x) ν ν ν ν ν ν) ν ν ν ν ν ?_
 refine bS ν (aD (aC (au (bg ν ν ?_))))
 all_goals exact b9 rfl rfl
theorem Hl (b : aT) (hs : b.Small) (i : Int) : dO Tryz.prog 112 [cU b, Ty.int .i64 i] (Ty.int .i64 (fL b i)) := by
 refine az Tryz.func112 ν aB Tryz.ntmps112 aP fun w0 M0 => ?_
 refine aF (aA (bF ν (bS ν (aD (aC (aF (aA (aY ν ν ν aP (Ao ν (RO ν (aD (aC (aF (aA (aY ν ν ν aP (aa (jC b hs) ν ν ν ν ν (bS ν (aD (aC ?_)))))))))))))))))))
 refine l8 (J := live [(6, Ty.int .i64 (fL b i))] []) ?_ ?_
 ·refine aF (aA (bA ν (ah ν ν ν (dm ν ?_))))
  refine bT 13 ν (fun hg => aH (RA ν (aD ν))) ?_
  refine bT 13 ν (fun hg => aH (bA ν (aD ν))) ?_
  refine bT 13 ν (fun hg => cJ 14 hg ν (cJ 15 hg ν (aH (oc ν (Gf (EC b hs i) ν ν ν ν ν ν) ν (aD ν))))) ?_
  refine bT 13 ν (fun hg => cJ 16 hg ν (aH (dW ν (aD ν)))) ?_
  refine dA ν ν (aD (aC ?_))
  refine cI ν (fun hc1 => ?_) (fun hc1 => ?_)
  ·refine aA (bS ν (aD (fB ?_)))
   (refine dw.mk' ?_ ?_ <;> (repeat' (first | exact aQ | exact aR | refine aG ?_ (Ty.bC _) | refine aG ?_ ?_)))
   all_goals exact Ty.bO (JU hc1)
  refine aX (fB ?_)
  (refine dw.mk' ?_ ?_ <;> (repeat' (first | exact aQ | exact aR | refine aG ?_ (Ty.bC _) | refine aG ?_ ?_)))
  all_goals exact Ty.bO (Lm hc1)
 refine aF (aA (bA ν (bS ν (aD (aC (au (bg ν ν ?_)))))))
 all_goals exact b9 rfl rfl
theorem PO (b : aT) (hs : b.Small) : dO Tryz.prog 59 [cU b] (Ty.iF [Ty.sl cL (if bH b = 0 then yL b else []), Ty.int .i64 (bH b)]) := by
 refine az Tryz.func59 ν aB Tryz.ntmps59 aP fun w0 M0 => ?_
 have hs1 := hs.sizes
 refine aF (aA (bF ν (fm ν (bS ν (aD (aC (aF (aF (aA (aY ν ν ν aP (aa (jC b hs) ν ν ν ν ν (bS ν (aD (aC (aF (aA (bA ν (ah ν ν ν (aD (aC ?_))))))))))))))))))))
 refine bw ν (fun hc1 => ?_) (fun hc1 => ?_)
 ·refine aF (aA (bA ν (fm ν (bS ν (aD (aC (au (aK ?_))))))))
  refine dc ν ν ν ?_ ?_
  all_goals first | exact b9 rfl rfl | skip
  all_goals exact cy (if_neg hc1)
 refine aX (aC (aF (aA (fm ν (aD (aC (aF (aF (aA (aN ν ν ν ν ν aB (aJ ν ν ν ν (bU ν ν ν (bA ν (aD (aC (aV ?_))))))))))))))))
 refine bf (fun (k : {k : Nat // k ≤ b.sizes.length}) => live [(1, Ty.pp (bL b)), (5, Ty.row cL 3 25 (eO (fun k => b.free k) k.1)), (14, Ty.int .i64 b.sizes.length), (15, Ty.int .i64 (k.1 : Nat))] []) (fun k => b.sizes.length - k.1) (⟨0, by omega⟩) ?_ fun k => ?_
 ·(refine dw.mk' ?_ ?_ <;> (repeat' (first | exact aQ | exact aR | refine aG ?_ (Ty.bC _) | refine aG ?_ (Ty.aM _) | refine aG ?_ Ty.gr)))
  all_goals exact gD (oP _).symm
 have hk := k.2
 have hl := jW (fun k => b.free k) k.1
 refine aF (aA (ah ν ν ν (aD (aC (aF ?_)))))
 refine aU ν (fun hc2 => ?_) (fun hc2 => ?_)
 ·refine aX (aC (aF (aV (aF (aA (bA ν (bS ν (aD (aC (aF (aA (aY ν ν ν aP (bA ν (aa (GQ b _) ν ν ν ν ν (aD (aC ?_))))))))))))))))
  refine cI ν (fun hc3 => ?_) (fun hc3 => ?_)
  ·refine aA (iy ν (bA ν ?_))
   refine bD (E := cL) (xs := [_]) ν ν ν ν ν aB aB dn bn ν ?_
   refine cG ν ν aB ν ν ν ν ν ν aB bp bp (iY ν (aD (bE (aC (aA (bY ν ν aE aE (bA ν (aD ?_))))))))
   refine bG (⟨k.1 + 1, by omega⟩) ?_ G4
   (refine dw.mk' ?_ ?_ <;> (repeat' (first | exact aQ | exact aR | refine aG ?_ (Ty.bC _) | refine aG ?_ (Ty.aM _) | refine aG ?_ ?_)))
   all_goals exact Ty.cv (MO hc3)
  refine aX (bE (aC (aA (bY ν ν aE aE (bA ν (aD ?_))))))
  refine bG (⟨k.1 + 1, by omega⟩) ?_ G4
  (refine dw.mk' ?_ ?_ <;> (repeat' (first | exact aQ | exact aR | refine aG ?_ (Ty.bC _) | refine aG ?_ (Ty.aM _) | refine aG ?_ ?_)))
  all_goals exact Ty.cv (N7 hc3)
 refine bQ (aI (aI (aS ν (aC (aF (aA (iy ν (iY ν (bS ν (aD (aC (au ?_))))))))))))
 refine dc ν ν ν ?_ ?_
 all_goals first | exact gB aB OP | exact av rfl rfl (congrArg (Ty.int .i64) hc1.symm)
theorem NW (b : aT) (hs : b.Small) (i : Int) : dO Tryz.prog 60 [cU b, Ty.int .i64 i] (Ty.iF [Ty.sl cL (if fL b i = 0 then LJ b i else []), Ty.int .i64 (fL b i)]) := by
 refine az Tryz.func60 ν aB Tryz.ntmps60 aP fun w0 M0 => ?_
 have hs1 := hs.sizes
 refine aF (aA (bF ν (fm ν (bS ν (aD (aC (aF (aF (aA (aY ν ν ν aP (bA ν (aa (Hl b hs i) ν ν ν ν ν (bS ν (aD (aC (aF (aA (bA ν (ah ν ν ν (aD (aC ?_)))))))))))))))))))))
 refine bw ν (fun hc1 => ?_) (fun hc1 => ?_)
 ·refine aF (aA (bA ν (fm ν (bS ν (aD (aC (au (aK ?_))))))))
  refine dc ν ν ν ?_ ?_
  all_goals first | exact b9 rfl rfl | skip
  all_goals exact cy (if_neg hc1)
 refine aX (aC (aF ?_))
 have hkn := yC hc1
 refine aA (fm ν (aD (aC (aF (aF (aA (aN ν ν ν ν ν aB (aJ ν ν ν ν (bU ν ν ν (bA ν (aD (aC (aV ?_)))))))))))))
 refine bf (fun (k : {k : Nat // k ≤ b.sizes.length}) => live [(1, Ty.int .i64 i), (2, Ty.pp (bL b)), (7, Ty.row cL 3 29 (eO (fun k => b.hold k i) k.1)), (17, Ty.int .i64 b.sizes.length), (18, Ty.int .i64 (k.1 : Nat))] []) (fun k => b.sizes.length - k.1) (⟨0, by omega⟩) ?_ fun k => ?_
 ·(refine dw.mk' ?_ ?_ <;> (repeat' (first | exact aQ | exact aR | refine aG ?_ (Ty.bC _) | refine aG ?_ (Ty.aM _) | refine aG ?_ Ty.gr)))
  all_goals exact gD (oP _).symm
 have hk := k.2
 have hl := jW (fun k => b.hold k i) k.1
 refine aF (aA (ah ν ν ν (aD (aC (aF ?_)))))
 refine aU ν (fun hc2 => ?_) (fun hc2 => ?_)
 ·refine aX (aC (aF (aV (aF (aA (bA ν (bS ν (aD (aC (aF (aA (aY ν ν ν aP (bA ν (bA ν ?_))))))))))))))
  refine aa (oN b (k.1 : Nat) i ⟨by omega, by omega⟩ hkn.2) ν ν ν ν ν ?_
  refine aD (aC ?_)
  refine aU ν (fun hc3 => ?_) (fun hc3 => ?_)
  ·refine aA (iy ν (bA ν ?_))
   refine bD (E := cL) (xs := [_]) ν ν ν ν ν aB aB dn bn ν ?_
   refine cG ν ν aB ν ν ν ν ν ν aB bp bp (iY ν (aD (bE (aC (aA (bY ν ν aE aE (bA ν (aD ?_))))))))
   refine bG (⟨k.1 + 1, by omega⟩) ?_ G4
   (refine dw.mk' ?_ ?_ <;> (repeat' (first | exact aQ | exact aR | refine aG ?_ (Ty.bC _) | refine aG ?_ (Ty.aM _) | refine aG ?_ ?_)))
   all_goals exact Ty.cv (D6 (b := b) (i := i) (n := k.1) (decide_eq_true hc3))
  refine aX (bE (aC (aA (bY ν ν aE aE (bA ν (aD ?_))))))
  refine bG (⟨k.1 + 1, by omega⟩) ?_ G4
  (refine dw.mk' ?_ ?_ <;> (repeat' (first | exact aQ | exact aR | refine aG ?_ (Ty.bC _) | refine aG ?_ (Ty.aM _) | refine aG ?_ ?_)))
  all_goals exact Ty.cv (HR (b := b) (i := i) (n := k.1) (decide_eq_false hc3))
 refine bQ (aI (aI (aS ν (aC (aF (aA (iy ν (iY ν (bS ν (aD (aC (au ?_))))))))))))
 refine dc ν ν ν ?_ ?_
 all_goals first | exact gB aB OP | exact av rfl rfl (congrArg (Ty.int .i64) hc1.symm)
theorem Lo (b : aT) (hs : b.Small) : dO Tryz.prog 88 [cU b] (Ty.sl cL (pN b)) := by
 refine az Tryz.func88 ν aB Tryz.ntmps88 aP fun w0 M0 => ?_
 have hs1 := hs.aO
 refine aF (aA (bF ν (fm ν (aD (aC (aF (aA (fm ν (aD (aC (aF (aF (aA (aN ν ν ν ν ν aB (aJ ν ν ν ν (bU ν ν ν (bA ν (aD (aC (aV ?_))))))))))))))))))))
 refine bf (fun (k : {k : Nat // k ≤ b.aO.length}) => live [(1, Ty.pp (bL b)), (3, Ty.row cL 3 39 (eO (pq b) k.1)), (7, Ty.sl cZ b.aO), (8, Ty.int .i64 b.aO.length), (9, Ty.int .i64 (k.1 : Nat))] []) (fun k => b.aO.length - k.1) (⟨0, by omega⟩) ?_ fun k => ?_
 ·(refine dw.mk' ?_ ?_ <;> (repeat' (first | exact aQ | exact aR | refine aG ?_ (Ty.bC _) | refine aG ?_ (Ty.aM _) | refine aG ?_ Ty.gr)))
  all_goals exact gD (oP _).symm
 have hk := k.2
 have hl := jW (pq b) k.1
 refine aF (aA (ah ν ν ν (aD (aC (aF ?_)))))
 refine aU ν (fun hc1 => ?_) (fun hc1 => ?_)
 ·refine aX (aC (aF (aV (aF (aA (bA ν (af ν ν ν ν ν ν aE (aY ν ν ν aP (bZ ν bW ν (bS ν ?_))))))))))
  refine bK ν ν aB ν ν ν ν ν ν (aD (aC (aF (aA (ak ν ν ν ν ν aB (aq ν ν aB ν ν ν (ah ν ν ν (dm ν ?_))))))))
  refine bT 17 ν (fun hg => aH (ak ν ν ν ν ν aB (aD ν))) ?_
  refine bT 17 ν (fun hg => cJ 18 hg ν (aH (aq ν ν aB ν ν ν (aD ν)))) ?_
  refine bT 17 ν (fun hg => aH (ak ν ν ν ν ν aB (aD ν))) ?_
  refine bT 17 ν (fun hg => cJ 20 hg ν (aH (aq ν ν aB ν ν ν (aD ν)))) ?_
  refine bT 17 ν (fun hg => cJ 19 hg ν (cJ 21 hg ν (aH (ah ν ν ν (aD ν))))) ?_
  refine dA ν ν (dm ν ?_)
  refine bT 24 ν (fun hg => aH (ak ν ν ν ν ν aB (aD ν))) ?_
  refine bT 24 ν (fun hg => cJ 25 hg ν (aH (aq ν ν aB ν ν ν (aD ν)))) ?_
  refine bT 24 ν (fun hg => cJ 26 hg ν (aH (ah ν ν ν (aD ν)))) ?_
  refine bT 24 ν (fun hg => cJ 27 hg ν (aH (dm ν (aD ν)))) ?_
  refine gi 28 ν (fun hg1 hg2 => aH (aY ν ν ν aP (aD ν))) ?_
  refine gi 28 ν (fun hg1 hg2 => aH (ak ν ν ν ν ν aB (aD ν))) ?_
  refine gi 28 ν (fun hg1 hg2 => jS 30 hg1 hg2 ν (aH (aq ν ν aB ν ν ν (aD ν)))) ?_
  refine gi 28 ν (fun hg1 hg2 => jS 29 hg1 hg2 ν (jS 31 hg1 hg2 ν (aH (aa (K5 b _) ν ν ν ν ν (aD ν))))) ?_
  refine bT 24 ν (by intro hg; apply bV (s := 28) ν dF; apply fW (s := 32) ν dF; apply aH; (refine dA ν ν ?_); refine aD ?_; exact ν) ?_
  refine eJ ν ν (aD (aC ?_))
  refine cI ν (fun hc2 => ?_) (fun hc2 => ?_)
  ·refine aA (iy ν (bA ν ?_))
   refine bD (E := cL) (xs := [_]) ν ν ν ν ν aB aB dn bn ν ?_
   refine cG ν ν aB ν ν ν ν ν ν aB bp bp (iY ν (aD (bE (aC (aA (bY ν ν aE aE (bA ν (aD ?_))))))))
   refine bG (⟨k.1 + 1, by omega⟩) ?_ ko
   (refine dw.mk' ?_ ?_ <;> (repeat' (first | exact aQ | exact aR | refine aG ?_ (Ty.bC _) | refine aG ?_ (Ty.aM _) | refine aG ?_ ?_)))
   all_goals exact Ty.cv (nX (p := pq b) (n := k.1) hc2)
  refine aX (bE (aC (aA (bY ν ν aE aE (bA ν (aD ?_))))))
  refine bG (⟨k.1 + 1, by omega⟩) ?_ ko
  (refine dw.mk' ?_ ?_ <;> (repeat' (first | exact aQ | exact aR | refine aG ?_ (Ty.bC _) | refine aG ?_ (Ty.aM _) | refine aG ?_ ?_)))
  all_goals exact Ty.cv (p6 (p := pq b) (n := k.1) hc2)
 refine bQ (aI (aI (aS ν (aC (aF (aA (iy ν (iY ν (aD (aC (au (bg ν ν ?_))))))))))))
 all_goals exact gB aB LB
theorem Pd (b : aT) (hs : b.Small) : dO Tryz.prog 61 [cU b] (Ty.iF [Ty.sl cL (if bH b = 0 then pN b else []), Ty.int .i64 (bH b)]) := by
 refine az Tryz.func61 ν aB Tryz.ntmps61 aP fun w0 M0 => ?_
 refine aF (aA (bF ν (fm ν (bS ν (aD (aC (aF (aF (aA (aY ν ν ν aP (aa (jC b hs) ν ν ν ν ν (bS ν (aD (aC (aF (aA (bA ν (ah ν ν ν (aD (aC ?_))))))))))))))))))))
 refine bw ν (fun hc1 => ?_) (fun hc1 => ?_)
 ·refine aF (aA (bA ν (fm ν (bS ν (aD (aC (au (aK ?_))))))))
  refine dc ν ν ν ?_ ?_
  all_goals first | exact b9 rfl rfl | skip
  all_goals exact cy (if_neg hc1)
 refine aX (aC (aF (aA (aY ν ν ν aP (aa (Lo b hs) ν ν ν ν ν (iX ν (bS ν (aD (aC (au ?_))))))))))
 refine dc ν ν ν ?_ ?_
 all_goals first | exact av rfl rfl (congrArg (Ty.sl cL) (if_pos hc1).symm) | exact av rfl rfl (congrArg (Ty.int .i64) hc1.symm)
theorem M7 (b : aT) (hs : b.Small) : dO Tryz.prog 21 [cU b] (Ty.iF [Ty.sl cY (if bH b = 0 then l7 b else []), Ty.int .i64 (bH b)]) := by
 refine az Tryz.func21 ν aB Tryz.ntmps21 aP fun w0 M0 => ?_
 have hs1 := hs.aO
 refine aF (aA (bF ν (fm ν (bS ν (aD (aC (aF (aF (aA (aY ν ν ν aP (aa (jC b hs) ν ν ν ν ν (bS ν (aD (aC (aF (aA (bA ν (ah ν ν ν (aD (aC ?_))))))))))))))))))))
 refine bw ν (fun hc1 => ?_) (fun hc1 => ?_)
 ·refine aF (aA (bA ν (fm ν (bS ν (aD (aC (au (aK ?_))))))))
  refine dc ν ν ν ?_ ?_
  all_goals first | exact b9 rfl rfl | skip
  all_goals exact cy (if_neg hc1)
 refine aX (aC (aF (aA (fm ν (aD (aC (aF (aF (aA (aN ν ν ν ν ν aB (aJ ν ν ν ν (bU ν ν ν (bA ν (aD (aC (aV ?_))))))))))))))))
 refine bf (fun (k : {k : Nat // k ≤ b.aO.length}) => live [(1, Ty.pp (bL b)), (5, Ty.row cY 22 42 (fO b k.1)), (16, Ty.int .i64 b.aO.length), (17, Ty.int .i64 (k.1 : Nat))] []) (fun k => b.aO.length - k.1) (⟨0, by omega⟩) ?_ fun k => ?_
 ·(refine dw.mk' ?_ ?_ <;> (repeat' (first | exact aQ | exact aR | refine aG ?_ (Ty.bC _) | refine aG ?_ (Ty.aM _) | refine aG ?_ Ty.gr)))
  all_goals exact gD rfl
 have hk := k.2
 have hl := oW b k.1
 refine aF (aA (ah ν ν ν (aD (aC (aF ?_)))))
 refine aU ν (fun hc2 => ?_) (fun hc2 => ?_)
 ·refine aX (aC (aF (aV (aF (aA (bA ν (bS ν (aD (aC (aF (aA (bA ν ?_))))))))))))
  refine dx (E := cL) (xs := [(k.1 : Int)]) ν ν ν ν ν aB aB dn bn ν ν ?_
  refine iY ν (aD (aC (aV ?_)))
  refine bf (fun (x : {l : List Int // Gb b k.1 l}) => live [(1, Ty.pp (bL b)), (5, Ty.row cY 22 42 (fO b k.1)), (6, Ty.int .i64 (k.1 : Nat)), (7, Ty.row cL 3 22 x.1), (16, Ty.int .i64 b.aO.length), (17, Ty.int .i64 (k.1 : Nat))] []) (fun x => b.aO.length + 1 - x.1.length) (⟨_, ER aE⟩) ?_ fun x => ?_
  ·exact bt
  have hx1 := x.2.pos
  have hx2 := x.2.len
  have hx3 := x.2.last
  refine aV (aF (cH mixed ν (aY ν ν ν aP (iy ν (iy ν (gL ν ν ν (ga ν ν aE aE (fN ν ν ν ν ν ν aE aE (hU ν ν ν ν ?_)))))))))
  refine aa (wF b (nth x.1 ((x.1.length : Int) - 1).toNat) PK) ν ν ν ν ν ?_
  refine bS ν (aD ?_)
  refine ⟨by kernel_rfl, ?_⟩
  refine aC (aF (aF ?_))
  refine fK (s := 8) ν (Ty.bO (congrArg (fun n => follows b (nth x.1 n)) (show ((x.1.length : Int) - 1).toNat = x.1.length - 1 by omega))) ?_
  refine aA (bA ν (bA ν (ah ν ν ν (dm ν ?_))))
  refine bT 33 ν (fun hg => aH (iy ν (aD ν))) ?_
  refine bT 33 ν (fun hg => cJ 34 hg ν (aH (gL ν ν ν (aD ν)))) ?_
  refine bT 33 ν (fun hg => cJ 35 hg ν (aH (ah ν ν ν (aD ν)))) ?_
  refine dA ν ν (aD (aC ?_))
  refine cI ν (fun hc3 => ?_) (fun hc3 => ?_)
  ·refine jA (tg := 22) [(7, Ty.sl cL x.1)] aB rfl ⟨oQ rfl, trivial⟩ ?_
   refine aA (iy ν (cM ν ?_))
   refine bD (E := cY) (xs := [_]) ν ν ν ν ν aB aB oD bn ν ?_
   refine cG ν ν aB ν ν ν ν ν ν aB bp bp (iY ν (aD (aC (aF (aF (aA (bA ν (bA ν (ah ν ν ν (aD (aC (mj ν OL ?_))))))))))))
   refine bQ (aI (ep ν (aI (aS ν (bE (aC (aA (bY ν ν aE aE (bA ν (aD ?_))))))))))
   refine bG (⟨k.1 + 1, by omega⟩) ?_ ko
   (refine dw.mk' ?_ ?_ <;> (repeat' (first | exact aQ | exact aR | refine aG ?_ (Ty.bC _) | refine aG ?_ (Ty.aM _) | refine aG ?_ ?_)))
   all_goals exact Ty.cv (wz x.2 hc3)
  refine aX (aC (aF (aF (aA (bA ν (bA ν (ah ν ν ν (aD (aC ?_)))))))))
  refine aU ν (fun hc5 => ?_) (fun hc5 => ?_)
  ·refine bQ (aI (ep ν (aI (aS ν (bE (aC (aA (bY ν ν aE aE (bA ν (aD ?_))))))))))
   refine bG (⟨k.1 + 1, by omega⟩) ?_ ko
   (refine dw.mk' ?_ ?_ <;> (repeat' (first | exact aQ | exact aR | refine aG ?_ (Ty.bC _) | refine aG ?_ (Ty.aM _) | refine aG ?_ ?_)))
   all_goals exact Ty.cv (zW x.2 hc3 hc5)
  refine aX (aC (aF (aA (iy ν (bA ν ?_)))))
  refine bD (E := cL) (xs := [_]) ν ν ν ν ν aB aB dn bn ν ?_
  refine cG ν ν aB ν ν ν ν ν ν aB bp bp (iY ν (aD (aC (aF (aA (iy ν (gL ν ν ν (aN ν ν ν ν ν aB (aJ ν ν ν ν (bU ν ν ν (ah ν ν ν (aD (aC ?_)))))))))))))
  refine aU ν (fun hc6 => ?_) (fun hc6 => ?_)
  ·refine bQ (ep ν (aI (aS ν (bE (aC (aA (bY ν ν aE aE (bA ν (aD ?_)))))))))
   refine bG (⟨k.1 + 1, by omega⟩) ?_ ko
   (refine dw.mk' ?_ ?_ <;> (repeat' (first | exact aQ | exact aR | refine aG ?_ (Ty.bC _) | refine aG ?_ (Ty.aM _) | refine aG ?_ ?_)))
   all_goals exact Ty.cv (zP x.2 hc3 hc5 hc6)
  refine aX (bE ?_)
  refine bG (⟨_, x.2.next (fun h => by have h9 := hc3; rw [decide_eq_true h.1, decide_eq_true (show (1 : Int) < x.1.length by omega)] at h9; cases h9) hc5 (by have h9 := hc6; simp at h9; omega)⟩) ?_ Kw
  exact bt
 refine bQ (aI (aI (aS ν (aC (aF (aA (iy ν (iY ν (bS ν (aD (aC (au ?_))))))))))))
 refine dc ν ν ν ?_ ?_
 all_goals first | exact gB aB Ot | exact av rfl rfl (congrArg (Ty.int .i64) hc1.symm)
end Go.Proofs.YtpnndljmhpepgaaGreat
namespace Go.Proofs.YtpnndljmhpepgaaGreat
open Go Go.T
theorem E6 {b : aT} {i : Int} {k : Nat} (hk : k < b.aO.length) (h : ∀ l ∈ b.aO.take k, decide (l.inn = (nth b.aO i.toNat).aim) = false) (hp : (nth b.aO k).inn = (nth b.aO i.toNat).aim) : follows b i = k := by
 unfold follows
 exact lB hk h (by rw [← dS]; exact decide_eq_true hp)
theorem CS {b : aT} {i : Int} (h : ∀ l ∈ b.aO, decide (l.inn = (nth b.aO i.toNat).aim) = false) : follows b i = -1 := nC h
theorem fP {α : Type} [Inhabited α] {l : List α} {x : α} (h : x ∈ l) : ∃ m, m < l.length ∧ x = nth l m := by
 obtain ⟨m, hm, e⟩ := List.getElem_of_mem h
 exact ⟨m, hm, by rw [dS hm]; exact e.symm⟩
theorem rZ : ∀ {n : Nat} {l : List Nat}, l.Nodup → (∀ y ∈ l, y < n) → l.length ≤ n
  | 0, l, _, hr => by
    cases l with
    | nil => simp
    | cons a _ => exact absurd (hr a List.mem_cons_self) aE
  | n + 1, l, hn, hr => by
    by_cases h : n ∈ l
    · have h1 := List.length_erase_of_mem h
      have h2 := rZ (n := n) (l := l.erase n) (hn.erase n) fun y hy => by
        have h3 := (hn.mem_erase_iff (a := y) (b := n)).1 hy
        have := hr y h3.2
        have := h3.1
        omega
      omega
    · have h2 := rZ (n := n) (l := l) hn fun y hy => by
        have := hr y hy
        have : y ≠ n := fun e => h (e ▸ hy)
        omega
      omega
def q7 (b : aT) (l : List Int) (k : Nat) : Bool := decide (follows b (nth l k) = nth l ((k + 1) % l.length))
def kJ (b : aT) (l : List Int) : Bool := decide (1 < l.length) && (List.range l.length).all fun k => q7 b l k
theorem oK {b : aT} {l : List Int} {k : Nat} (hk : k < l.length) (h : q7 b l k = false) : kJ b l = false := by
 unfold kJ
 rw [Bool.and_eq_false_iff]
 right
 rw [List.all_eq_false]
 exact ⟨k, List.mem_range.2 hk, by rw [h]; decide⟩
theorem tG {b : aT} {l : List Int} (h : ∀ k, k < l.length → q7 b l k = true) : kJ b l = decide (1 < l.length) := by
 unfold kJ
 rw [List.all_eq_true.2 fun k hk => h k (List.mem_range.1 hk), Bool.and_true]
theorem xR {b : aT} {l : List Int} (h : l.length < 2) : kJ b l = false := by
 unfold kJ; rw [decide_eq_false aE]; rfl
structure Jl (b : aT) (i : Nat) (l : List Int) : Prop where
  pos : 1 ≤ l.length
  len : l.length ≤ b.aO.length + 1
  head : nth l 0 = i
  rng : ∀ k, k < l.length → (i : Int) ≤ nth l k ∧ nth l k < b.aO.length
  above : ∀ k, 1 ≤ k → k < l.length → (i : Int) < nth l k
  chain : ∀ k, k + 1 < l.length → follows b (nth l k) = nth l (k + 1)
  same : o7 b i = if l.length ≤ b.aO.length then zg b i (b.aO.length + 2 - l.length) l else none
theorem KB {b : aT} {i : Nat} (h : i < b.aO.length) : Jl b i [(i : Int)] where
 pos := Nat.le_refl _
 len := by simp
 head := rfl
 rng k hk := by
  have : k = 0 := by simp at hk; exact hk
  subst this
  exact ⟨Int.le_refl _, by show (i : Int) < _; omega⟩
 above k h1 h2 := by simp at h2; omega
 chain k h := by simp at h
 same := by rw [if_pos x9]; rfl
theorem pY {l : List Int} {x : Int} {k : Nat} (h : k < l.length) : nth (l ++ [x]) k = nth l k := by
 unfold nth; rw [List.getD_eq_getElem?_getD, List.getD_eq_getElem?_getD, List.getElem?_append_left h]
theorem uZ {l : List Int} {x : Int} : nth (l ++ [x]) l.length = x := by
 unfold nth; rw [List.getD_eq_getElem?_getD, List.getElem?_append_right (Nat.le_refl _)]; simp
section
variable {b : aT} {i : Nat} {l : List Int} (x : Jl b i l)
include x
theorem Jl.next (h1 : (i : Int) < follows b (nth l (l.length - 1))) (h2 : l.length ≤ b.aO.length) : Jl b i (l ++ [follows b (nth l (l.length - 1))]) := by
 have hp := x.pos
 have hr := lP b (nth l (l.length - 1))
 have hl : (l ++ [follows b (nth l (l.length - 1))]).length = l.length + 1 := by simp
 refine ⟨by omega, by omega, by rw [pY hp]; exact x.head, fun k hk => ?_, fun k hk hk' => ?_, fun k hk => ?_, ?_⟩
 ·by_cases h : k < l.length
  ·rw [pY h]; exact x.rng k h
  obtain rfl : k = l.length := by omega
  rw [uZ]; omega
 ·by_cases h : k < l.length
  ·rw [pY h]; exact x.above k hk h
  obtain rfl : k = l.length := by omega
  rw [uZ]; exact h1
 ·by_cases h : k + 1 < l.length
  ·rw [pY h, pY aE]; exact x.chain k h
  have h9 : k + 1 = l.length := by omega
  rw [h9, uZ, pY aE, show k = l.length - 1 by omega]
 rw [x.same, if_pos h2, hl]
 rw [show b.aO.length + 2 - l.length = (b.aO.length + 1 - l.length) + 1 by omega]
 show (if _ then _ else _) = _
 rw [if_neg aE, if_neg aE]
 by_cases h : l.length + 1 ≤ b.aO.length
 ·rw [if_neg aE, if_pos h, show b.aO.length + 2 - (l.length + 1) = b.aO.length + 1 - l.length by omega]
 rw [if_pos aE, if_neg h]
theorem Jl.ring (h : follows b (nth l (l.length - 1)) = i) : kJ b l = decide (1 < l.length) := tG fun k hk => by
 unfold q7
 by_cases h1 : k + 1 < l.length
 ·rw [Nat.mod_eq_of_lt h1]; exact decide_eq_true (x.chain k h1)
 have h9 : k + 1 = l.length := by omega
 rw [h9, Nat.mod_self, x.head, show k = l.length - 1 by omega]; exact decide_eq_true h
theorem Jl.no (h : follows b (nth l (l.length - 1)) ≠ i) : kJ b l = false := oK (k := l.length - 1) (by have := x.pos; omega) (by
 unfold q7
 have := x.pos
 rw [show l.length - 1 + 1 = l.length by omega, Nat.mod_self, x.head]; exact decide_eq_false h)
theorem Jl.Pw (h : l.length = b.aO.length + 1) : follows b (nth l (l.length - 1)) ≠ i := by
  intro he
  have hnd : ¬ ((List.range l.length).map fun k => (nth l k).toNat).Nodup := fun hnd => by
    have := rZ hnd (n := b.aO.length) (fun y hy => by
      obtain ⟨k, hk, rfl⟩ := List.mem_map.1 hy
      have := x.rng k (List.mem_range.1 hk); omega)
    simp at this; omega
  obtain ⟨p, q, hpq, hq, heq⟩ : ∃ p q, p < q ∧ q < l.length ∧ nth l p = nth l q := by
    apply Classical.byContradiction
    intro hno
    apply hnd
    rw [List.nodup_iff_pairwise_ne, List.pairwise_map]
    refine List.Pairwise.imp_of_mem (R := fun a c => a < c) (fun {a c} ha hc hac e => hno ⟨a, c, hac, List.mem_range.1 hc, ?_⟩) List.pairwise_lt_range
    have h1 := x.rng a (List.mem_range.1 ha)
    have h2 := x.rng c (List.mem_range.1 hc)
    omega
  have key : ∀ t, q + t < l.length → nth l (p + t) = nth l (q + t) := by
    intro t
    induction t with
    | zero => intro _; exact heq
    | succ t ih =>
      intro ht
      have := ih aE
      rw [← Nat.add_assoc, ← Nat.add_assoc, ← x.chain (p + t) aE, ← x.chain (q + t) aE, this]
  have h1 := key (l.length - 1 - q) aE
  rw [show q + (l.length - 1 - q) = l.length - 1 by omega] at h1
  have h2 := x.chain (p + (l.length - 1 - q)) aE
  rw [h1, he] at h2
  have := x.above (p + (l.length - 1 - q) + 1) aE aE
  omega
theorem Jl.done (h : ¬ ((i : Int) < follows b (nth l (l.length - 1)) ∧ l.length ≤ b.aO.length)) : o7 b i = if kJ b l = true then some l else none := by
 have hlen := x.len
 have hp := x.pos
 by_cases h2 : l.length ≤ b.aO.length
 ·rw [x.same, if_pos h2, show b.aO.length + 2 - l.length = (b.aO.length + 1 - l.length) + 1 by omega]
  show (if _ then _ else _) = _
  by_cases h1 : follows b (nth l (l.length - 1)) = i
  ·rw [x.ring h1]
   by_cases h3 : 1 < l.length
   ·rw [if_pos ⟨h1, h3⟩, if_pos (decide_eq_true h3)]
   rw [if_neg (fun h => h3 h.2), if_pos aE, if_neg (by rw [decide_eq_false h3]; decide)]
  rw [x.no h1, if_neg (fun h => h1 h.1), if_pos aE, if_neg aB]
 rw [x.same, if_neg h2, x.no (x.Pw aE), if_neg aB]
end
theorem I8 {b : aT} {i : Nat} {l : List Int} (x : Jl b i l) (h : ¬ ((i : Int) < follows b (nth l (l.length - 1)) ∧ l.length ≤ b.aO.length)) (hr : kJ b l = true) : fO b i ++ [l] = fO b (i + 1) := by
 rw [kQ, x.done h, if_pos hr]; rfl
theorem JM {b : aT} {i : Nat} {l : List Int} (x : Jl b i l) (h : ¬ ((i : Int) < follows b (nth l (l.length - 1)) ∧ l.length ≤ b.aO.length)) (hr : kJ b l = false) : fO b i = fO b (i + 1) := by
 rw [kQ, x.done h, hr]; simp
def FZ (b : aT) (i m : Nat) : Bool := !decide ((m : Int) = (i : Int)) && decide ((nth b.aO i).aim < 0) && decide ((nth b.aO m).aim = (nth b.aO i).inn)
def Fw (b : aT) (i : Nat) : Bool := decide (0 ≤ (nth b.aO i).aim) && !decide ((nth b.aO i).aim = (nth b.aO i).inn)
def qB (b : aT) (i m : Nat) : Bool := Fw b i || (List.range m).any (FZ b i)
theorem ET {b : aT} {i : Nat} : Fw b i = qB b i 0 := by simp [qB]
theorem Dn {b : aT} {i m : Nat} : qB b i (m + 1) = (qB b i m || FZ b i m) := by
 unfold qB; rw [List.range_succ, List.any_append]; simp [Bool.or_assoc]
theorem IY {b : aT} {i : Nat} (hi : i < b.aO.length) (hr : ∀ l ∈ b.aO, 0 ≤ l.inn ∧ -1 ≤ l.aim) : qB b i b.aO.length = pq b i := by
 have h1 := hr _ (cD (xs := b.aO) (k := i) hi)
 unfold qB Fw pq aT.wanted
 rw [Bool.eq_iff_iff]
 simp only [Bool.or_eq_true, Bool.and_eq_true, decide_eq_true_eq, Bool.not_eq_true', decide_eq_false_iff_not, List.any_eq_true, List.mem_range, FZ]
 constructor
 ·rintro (⟨g1, g2⟩ | ⟨m, hm, ⟨g1, g2⟩, g3⟩)
  ·exact .inl ⟨by omega, g2⟩
  exact .inr ⟨by omega, _, cD hm, g3⟩
 rintro (⟨g1, g2⟩ | ⟨g1, l, hl, g3⟩)
 ·exact .inl ⟨by omega, g2⟩
 obtain ⟨m, hm, rfl⟩ := fP hl
 have hne : ¬ ((m : Int) = (i : Int)) := fun e => by
  have e : m = i := by omega
  subst e; omega
 exact .inr ⟨m, hm, ⟨hne, by omega⟩, g3⟩
def ku (b : aT) (rings : List (List Int)) : Int × Int :=
  if (rings.flatten.any fun n => fZ n 0 (b.aO.length - 1)) = true then (0, 1) else
  if ((List.range rings.flatten.length).any fun k => decide (nth rings.flatten k ∈ rings.flatten.take k)) = true then (0, 5) else
  if (rings.any fun l => !kJ b l) = true then (0, 8) else ((pN b).length + rings.length, 0)
end Go.Proofs.YtpnndljmhpepgaaGreat
namespace Go.T
open Go Go.RowKit
def zX (A : As) (L : List Nat) (s t : Ty) : Prop := ∀ w M v, Wf w M → (∀ x ∈ A.tags, x.1 ∈ L → x.2.den w M x.1) → s.den w M v → t.den w (qy M L) v
def tV (A : As) (L : List Nat) : List Ty → List Ty → Prop
  | [], [] => True
  | s :: ss, t :: ts => zX A L s t ∧ tV A L ss ts
  | _, _ => False
theorem gN {A : As} {L : List Nat} : tV A L [] [] := trivial
theorem c9 {A : As} {L : List Nat} {s t : Ty} {ss ts : List Ty} (h : zX A L s t) (h' : tV A L ss ts) : tV A L (s :: ss) (t :: ts) := ⟨h, h'⟩
theorem r7 {A : As} {L : List Nat} {w : World} {M : bI} (wf : Wf w M) (ht : ∀ x ∈ A.tags, x.1 ∈ L → x.2.den w M x.1) : ∀ {ss ts : List Ty} {vs : List Value}, tV A L ss ts → cS w M ss vs → cS w (qy M L) ts vs
  | [], [], [], _, _ => trivial
  | _ :: _, _ :: _, _ :: _, ⟨h, h'⟩, ⟨h1, h2⟩ => ⟨h _ _ _ wf ht h1, r7 wf ht h' h2⟩
theorem jV {A : As} {L : List Nat} {s t : Ty} (h : Ic L s t) : zX A L s t := fun w M v wf _ hd => h w M v wf hd
theorem wZ {A : As} {L : List Nat} {ss ts : List Ty} (h : tV A L ss ts) : zX A L (Ty.agg ss) (Ty.agg ts) := fun _ _ _ wf ht ⟨cs, e, hd⟩ => ⟨cs, e, r7 wf ht h hd⟩
theorem rW {A : As} {L : List Nat} {α : Type} {E : El α} {T tg n : Nat} {xs : List α} (hc : A.tag tg = some (.vec E T xs)) (hn : xs.length = n) (h1 : fR tg) (hL : L.contains tg = true) : zX A L (.vs tg n) (.sl E xs) := fun w M v wf ht hd => by
 have hL' : tg ∈ L := by simpa using hL
 have hv : g6 E T xs w M tg := ht _ (cj hc) hL'
 subst hn
 rcases hd with ⟨h0, rfl⟩ | ⟨b, cc, hb, e, hn1, hn2⟩
 ·exact ⟨none, 0, by rw [h0], by omega, by simp [maxLen], fun h => absurd h aE⟩
 refine ⟨_, cc, e, hn1, hn2, fun _ => ⟨b, 0, rfl, Hy hb hL', wf.lt b _ hb, fun i t hi => ?_⟩⟩
 obtain ⟨u, hu, hdu⟩ := nL wf h1 hb hv hi
 refine ⟨u, by rw [Nat.zero_add]; exact hu, t.mono (S := fun _ => True) (K := fun _ => True) (w := w) ⟨Nat.le_refl _, rfl, rfl, rfl, fun b _ hm => ⟨wS hm, rfl⟩, fun b t _ h => absurd trivial h⟩ ?_ ?_ hdu⟩
 ·intro u hu
  have : u ∈ cR (xs.flatMap E.tys) := List.mem_flatMap.2 ⟨t, List.mem_of_getElem? hi, hu⟩
  rw [E.jd] at this; cases this
 intro u hu
 have : u ∈ cB (xs.flatMap E.tys) := List.mem_flatMap.2 ⟨t, List.mem_of_getElem? hi, hu⟩
 rw [E.kA] at this; cases this
theorem zb {ρ : List (Nat × Nat)} {b : Nat} : Conv ρ (.ex (.slice none 0 0)) (.vs b 0) := fun _ _ _ _ _ _ _ h => .inl ⟨rfl, h⟩
section
variable {P : Program} {fr : Fr} {ops : Array Oper} {A : As} {rest : List Oper} {K : As → List (As × Fx) → Prop} {d : Nat} {t ty' : TypeId} {p : String} {e : Array Edge} {Q : Exit → Act → World → Prop} {c : Code}
theorem kL (L : List Nat) {f : FuncId} {args : List Ty} {res : Ty} (hF : dO P f args res) {xs : List Operand} {ats : Array TypeId} {ss : List Ty} (hx : om A fr xs = ss) (hl : tV A L ss args) (hp : res.Plain)
 (h : ay P fr ops rest (A.set d res) fun A' l => K A' ((A, { d := some d, ty := res, rs := xs.flatMap cA, rt := L }) :: l)) : ay P fr ops (⟨some d, .call ⟨.value (.func f), xs.toArray, ats⟩, t, p, e, none⟩ :: rest) A K := by
 refine ⟨{ d := some d, ty := res, rs := xs.flatMap cA, rt := L }, ⟨rfl, by simp, by simp, by simp, fun a w M wf _ hrd htg => ?_⟩, h⟩
 rw [if_pos kY]
 have hv : cS w M ss (xs.map a.eval) := hx ▸ gC hrd fun x hx c hc => List.mem_flatMap.2 ⟨x, hx, hc⟩
 have hc := hF.2 w _ _ (Hx (L := L) wf) sk (r7 wf htg hl hv)
 have hrun : (execOp a.eval ⟨some d, .call ⟨.value (.func f), xs.toArray, ats⟩, t, p, e, none⟩).run P w = .ok (.enter f (xs.map a.eval).toArray) w := by
  simp [execOp, resolve, Act.eval, Deferred.ofValue, invoke, mJ hF]
 refine jN hrun ?_
 refine hc.mono fun en w' ⟨r, M', he, wf', le, hden⟩ => ?_
 obtain ⟨h1, h2, h3⟩ := yM wf le hp hden
 exact ⟨r, he, r, rfl, _, h1, h2, h3, by simp⟩
theorem oA {α : Type} {E : El α} (T tg : Nat) (h : fS P fr c ⟨A.slots, (tg, .vec E T []) :: A.tags⟩ Q) : fS P fr c A Q := fun a w ⟨M, ok, hsl, ht⟩ =>
 h a w ⟨M, ok, hsl, fun x hx => by
  rcases List.mem_cons.1 hx with rfl | hx
  ·exact .inl rfl
  exact ht x hx⟩
end
section
open Go.RowKit
variable {P : Program} {A : As} {fn : Func} {n : Nat} {w0 : World} {M0 : bI} {F : List Nat} {post : List (Nat × Cont)} [T : lq P]
theorem lX (L : List Nat) {tm ty tg Tb t2 : Nat} {l : List Ty} {ti : TI} {r1 r2 : Ty} (hr : fn.results = #[.cell tm ty, .tmp t2]) (ht : Nat.blt tm n = true) (ht2 : Nat.blt t2 n = true) (hx : A.slots tm = .ptr tg 0) (hc : A.tag tg = some (.cells Tb l)) (h1 : fR tg) (hT : T.dz[ty]? = some ti) (ha : ti.k.agg = true) (hl : l.length = ti.size)
 (hL : ∀ t ∈ F, t ∈ L) (hp : rM A L post) (hs : mO L (.agg l) r1) (hs2 : mO L (A.slots t2) r2) :
 dG ⟨n, w0, M0, F, .plain⟩ A (bodyPost P fn (cT F post w0 M0 (Ty.iF [r1, r2])) .ret) := by
 intro a w ⟨M, ok, hsl, htg⟩
 have hd := hsl tm rz
 rw [hx] at hd
 obtain ⟨b, hb, e⟩ := hd
 obtain ⟨b', cs, hb', hh, hds⟩ := htg _ (cj hc)
 obtain ⟨u, rfl⟩ : ∃ u, tg = u + 1 := ⟨tg - 1, by omega⟩
 have := ok.wf.inj b b' u aE hb hb'
 subst this
 have hlen := cO hds
 have hload := iB (P := P) hT ha (w := w) (b := b) (off := 0) (cs := cs.toList) ve (fun j v hj => by simpa [World.cell?, hh] using hj)
 have hload' : (loadVar ty ⟨b, 0, none⟩).run P w = .ok (.agg cs) w := by simpa [Instr.loadAt, Instr.sureAddr] using hload
 refine ⟨ok.eH bB, .tuple #[.agg cs, a.tmps.getD t2 undef], ?_, _, pI L M, rfl, mI ok.wf, mY hL ok.base, ⟨_, rfl, hs _ _ _ ok.wf ⟨cs, rfl, hds⟩, hs2 _ _ _ ok.wf (hsl t2 (by simpa using ht2)), trivial⟩, tj ok.wf htg hp⟩
 have e' : a.tmps.getD tm undef = .pointer (some ⟨b, 0, none⟩) := e
 have e'' : a.tmps[tm]?.getD undef = .pointer (some ⟨b, 0, none⟩) := by rw [← Array.getD_eq_getD_getElem?]; exact e'
 simp [results, hr, e'', asAddr, hload']
end
section
variable {P : Program} {fr : Fr} {ops : Array Oper} {A : As} {rest : List Oper} {K : As → List (As × Fx) → Prop} {d : Nat} {t ty' : TypeId} {p : String} {e : Array Edge} [T : lq P]
theorem Ai {w : World} {st el b n cc Tb : Nat} {ti te : TI} {cs : Array Value} {ty : TypeId} (hT : T.dz[st]? = some ti) (hk : ti.k = .slice el) (hE : T.dz[el]? = some te) (hz : te.zero.length = te.size) (h0 : 0 < te.size) (ho : te.zero.all (fun v => v.oneCell') = true) (hh : w.heap[b]? = some (.cells cs Tb (0, 0))) (hn : n * te.size ≤ cs.size) :
 ∃ cs' : Array Value, cs'.size = cs.size ∧ (Builtin.clear_ #[st] ty #[.slice (some ⟨b, 0, none⟩) n cc]).run P w = .ok (.tuple #[]) { w with heap := w.heap.setIfInBounds b (.cells cs' Tb (0, 0)) } := by
 have hlt : b < w.heap.size := (Array.getElem?_eq_some_iff.1 hh).1
 have hself : w = { w with heap := w.heap.setIfInBounds b (.cells cs Tb (0, 0)) } := by
  have : w.heap.setIfInBounds b (.cells cs Tb (0, 0)) = w.heap := by
   apply Array.ext_getElem?
   intro i
   rw [Array.getElem?_setIfInBounds]
   by_cases e : b = i
   ·subst e; rw [if_pos rfl, if_pos hlt, hh]
   rw [if_neg e]
  rw [this]
 obtain ⟨_, D, _, hD, hkd, _⟩ := cP hT
 rw [hk] at hkd
 cases D <;> simp only [TK.of, reduceCtorEq, TK.slice.injEq] at hkd
 subst hkd
 rename_i el
 obtain ⟨z, hz1, hz2⟩ := nP hE HM w
 have hzs : z.cells.size = te.size := by rw [← hz, ← hz2]; simp
 by_cases hn0 : n = 0
 ·subst hn0
  refine ⟨cs, rfl, ?_⟩
  rw [← hself]
  simp [Builtin.clear_, run_underlying hD]
 have hlen : (Builtin.zeroCells z.cells n).toList.length = n * te.size := by simp [Builtin.zeroCells, hzs]
 have hone : ∀ v ∈ (Builtin.zeroCells z.cells n).toList, v.oneCell' = true := by
  intro v hv
  simp only [Builtin.zeroCells, Array.toList_map, List.mem_map] at hv
  obtain ⟨i, _, rfl⟩ := hv
  have hm : i % z.cells.size < z.cells.size := Nat.mod_lt _ aE
  rw [getElem!_pos z.cells _ hm]
  exact List.all_eq_true.1 ho _ (by rw [← hz2]; exact Array.getElem_mem_toList _)
 have hst := run_storeCells_at (P := P) b 0 Tb (Builtin.zeroCells z.cells n).toList 0 cs w hh aE hone
 rw [j7 _ hh] at hst
 obtain ⟨m, rfl⟩ : ∃ m, n = m + 1 := ⟨n - 1, by omega⟩
 refine ⟨(cs.toList.take (0 + 0) ++ (Builtin.zeroCells z.cells (m + 1)).toList ++ cs.toList.drop (0 + 0 + (Builtin.zeroCells z.cells (m + 1)).toList.length)).toArray, ?_, ?_⟩
 ·rw [List.size_toArray, List.length_append, List.length_append, List.length_drop, hlen, Nat.add_zero, List.take_zero, List.length_nil, Array.length_toList]; omega
 simp only [Builtin.clear_]
 simp [run_underlying hD, hz1]
 simp at hst
 rw [hst]
 simp
theorem GF {α : Type} {E : El α} {x : Operand} {st el tg : Nat} {ti te : TI} {xs : List α} (hx : A.op fr x = .row E el tg xs) (h1 : fR tg) (hT : T.dz[st]? = some ti) (hk : ti.k = .slice el) (hE : T.dz[el]? = some te) (hs : te.size = E.size) (hz : te.zero.length = te.size) (h0 : 0 < te.size) (ho : te.zero.all (fun v => v.oneCell') = true)
 (h : ay P fr ops rest (A.after { d := none, S := [tg], rs := cA x }) fun A' l' => K A' ((A, { d := none, S := [tg], rs := cA x }) :: l')) :
 ay P fr ops (⟨none, .call ⟨.builtin .clear, #[x], #[st]⟩, t, p, e, none⟩ :: rest) A K := by
 refine ⟨_, fk rfl rfl bB lC bB fun a w M wf hr _ => ?_, h⟩
 have hdx := cN (x := x) (fun _ h => h) hr
 rw [hx] at hdx
 obtain ⟨cs, hown, _, hM⟩ := hdx
 obtain ⟨_, D, _, hD, hkd, _⟩ := cP hT
 rw [hk] at hkd
 cases D <;> simp only [TK.of, reduceCtorEq, TK.slice.injEq] at hkd
 rcases hown.2 with ⟨ex, _⟩ | ⟨g, cap, cur, ex, _, hh, hn, _, hsz, _⟩
 ·exact ⟨.tuple #[], w, by simp [execOp, resolve, invoke, builtin, ex, Builtin.clear_, run_underlying hD], M, wf, (Le.refl _ _ w M), trivial, by simp⟩
 have hg : M g = some tg := hM g r6
 obtain ⟨cs', _, hrun⟩ := Ai (P := P) (ty := t) (cc := cap) hT hk hE hz h0 ho hh (by rw [hs, hsz]; exact Nat.mul_le_mul_right _ hn)
 obtain ⟨h1', h2', _⟩ := iW (cs' := cs') (Tb := el) wf hg _ rfl
 exact ⟨.tuple #[], _, by simp [execOp, resolve, invoke, builtin, ex, hrun], M, h1', h2', trivial, by simp⟩
theorem vw {α : Type} {E : El α} {x : Operand} {st el tg n Tb : Nat} {ti te : TI} {xs : List α} (hx : A.op fr x = .vs tg n) (hc : A.tag tg = some (.vec E Tb xs)) (hn : xs.length = n) (h1 : fR tg) (hT : T.dz[st]? = some ti) (hk : ti.k = .slice el) (hE : T.dz[el]? = some te) (hs : te.size = E.size) (hz : te.zero.length = te.size) (h0 : 0 < te.size) (ho : te.zero.all (fun v => v.oneCell') = true)
 (h : ay P fr ops rest (A.after { d := none, S := [tg], rs := cA x, rt := [tg] }) fun A' l' => K A' ((A, { d := none, S := [tg], rs := cA x, rt := [tg] }) :: l')) :
 ay P fr ops (⟨none, .call ⟨.builtin .clear, #[x], #[st]⟩, t, p, e, none⟩ :: rest) A K := by
 refine ⟨_, fk rfl rfl bB lC bB fun a w M wf hr ht => ?_, h⟩
 have hdx := cN (x := x) (fun _ h => h) hr
 rw [hx] at hdx
 obtain ⟨_, D, _, hD, hkd, _⟩ := cP hT
 rw [hk] at hkd
 cases D <;> simp only [TK.of, reduceCtorEq, TK.slice.injEq] at hkd
 rcases hdx with ⟨_, ex⟩ | ⟨b, cc, hb, ex, _⟩
 ·exact ⟨.tuple #[], w, by simp [execOp, resolve, invoke, builtin, ex, Builtin.clear_, run_underlying hD], M, wf, (Le.refl _ _ w M), trivial, by simp⟩
 rcases mU hc w M ht with rfl | ⟨b', cs, hb', hh, hd⟩
 ·have h0' : n = 0 := by simpa using hn.symm
  subst h0'
  exact ⟨.tuple #[], w, by simp [execOp, resolve, invoke, builtin, ex, Builtin.clear_, run_underlying hD], M, wf, (Le.refl _ _ w M), trivial, by simp⟩
 obtain ⟨u, rfl⟩ : ∃ u, tg = u + 1 := ⟨tg - 1, by omega⟩
 have := wf.inj b b' u aE hb hb'
 subst this
 have hlen := cO hd
 obtain ⟨cs', _, hrun⟩ := Ai (P := P) (ty := t) (cc := cc) (n := n) hT hk hE hz h0 ho hh (by
  rw [List.length_take, cz, hn, ← hs] at hlen
  simp at hlen; omega)
 obtain ⟨h1', h2', _⟩ := iW (cs' := cs') (Tb := Tb) wf hb _ rfl
 exact ⟨.tuple #[], _, by simp [execOp, resolve, invoke, builtin, ex, hrun], M, h1', h2', trivial, by simp⟩
end
instance : Inhabited {v : Value // v.oneCell' = true} := ⟨⟨.bool true, rfl⟩⟩
section
variable {P : Program} {fr : Fr} {A : As} {Q : Exit → Act → World → Prop} {code : Code}
end
end Go.T
namespace Go.T
open Go Go.RowKit
def LR {α : Type} (E : El α) (T J : Nat) (xs : List α) (w : World) (M : bI) (v : Value) : Prop :=
  (xs = [] ∧ v = .slice none 0 0) ∨ ∃ g off c cur, v = .slice (some ⟨g, off, none⟩) xs.length c ∧ M g = some J ∧ w.heap[g]? = some (.cells cur T (0, 0)) ∧ xs.length ≤ c ∧ c ≤ maxLen ∧ off + c * E.size ≤ cur.size ∧ cS w M (xs.flatMap E.tys) ((cur.toList.drop off).take (xs.length * E.size))
def Ty.gG {α : Type} (E : El α) (T J : Nat) (xs : List α) : Ty :=
  ⟨LR E T J xs, [J], [J], fun le hk hs h => h.imp id fun ⟨g, off, c, cur, e, hg, hh, h1, h2, h3, h4⟩ =>
    let ⟨a, b⟩ := le.own g J hg (hk J bB)
    ⟨g, off, c, cur, e, a, (b (hs J bB)).trans hh, h1, h2, h3, b7 le lV jm h4⟩, true, fun _ h => by
      rcases h with ⟨_, rfl⟩ | ⟨_, _, _, _, rfl, _⟩ <;> rfl⟩
def kG (size : Nat) : Value → Option (Nat × Nat)
  | .slice (some a) n _ => some (a.block, a.off + n * size)
  | _ => none
def roomy : Value → Bool
  | .slice _ n c => Nat.blt n c
  | _ => false
section
variable {κ α : Type} [DecidableEq κ]
def zL (size : Nat) (vs : List Value) : Prop := ∀ (i j : Nat) (v u : Value) (g e e' : Nat), vs[i]? = some v → vs[j]? = some u → kG size v = some (g, e) → kG size u = some (g, e') → i = j
def Rx (enc : κ → Value) (E : El α) (T J : Nat) (q : List (κ × List α)) (w : World) (M : bI) (t : Nat) : Prop :=
  (q.map Prod.fst).Nodup ∧ ∃ b es clock, M b = some t ∧ w.heap[b]? = some (.map es clock) ∧ es.toList.map (·.key) = q.map (fun x => enc x.1) ∧ cS w M (q.map fun x => Ty.gG E T J x.2) (es.toList.map (·.val)) ∧ zL E.size (es.toList.map (·.val))
omit [DecidableEq κ] in
theorem mZ {E : El α} {T J : Nat} {q : List (κ × List α)} : (∀ u ∈ cR (q.map fun x => Ty.gG E T J x.2), u = J) ∧ ∀ u ∈ cB (q.map fun x => Ty.gG E T J x.2), u = J := by
 constructor <;>
 ·intro u hu
  simp only [cR, cB, List.mem_flatMap, List.mem_map] at hu
  obtain ⟨t, ⟨x, _, rfl⟩, hu⟩ := hu
  simpa [Ty.gG] using hu
def Cont.mr (enc : κ → Value) (E : El α) (T J : Nat) (q : List (κ × List α)) : Cont :=
  { den := Rx enc E T J q, deps := [J], cdeps := [J]
    mono := fun le hk hs hst hkt ⟨hn, b, es, clock, h1, h2, h3, h4, h5⟩ => let ⟨a, c⟩ := le.own b _ h1 hkt
      ⟨hn, b, es, clock, a, (c hst).trans h2, h3, b7 le (fun u hu => by rw [mZ.1 u hu]; exact hk J bB) (fun u hu => by rw [mZ.2 u hu]; exact hs J bB) h4, h5⟩ }
omit [DecidableEq κ] in
theorem Cont.FD {enc : κ → Value} {E : El α} {T J : Nat} {q q' : List (κ × List α)} (h : q = q') : (Cont.mr enc E T J q).Sub (Cont.mr enc E T J q') := h ▸ Cont.aM _
def RI (size t : Nat) (q : List (κ × List α)) (k : κ) (w : World) (M : bI) (v : Value) : Prop :=
  ∀ (g e0 : Nat), kG size v = some (g, e0) → ∃ (b : Nat) (es : Array MapEntry) (clock : Nat), M b = some t ∧ w.heap[b]? = some (.map es clock) ∧ ∀ (j : Nat) (u : Value) (e1 : Nat), (es.toList.map (·.val))[j]? = some u → kG size u = some (g, e1) → (q[j]?).map Prod.fst = some k ∧ (roomy v = true → e1 ≤ e0)
def R3 (E : El α) (T t J : Nat) (q : List (κ × List α)) (k : κ) (xs : List α) (w : World) (M : bI) (v : Value) : Prop := LR E T J xs w M v ∧ RI E.size t q k w M v
def Ty.qv (E : El α) (T t J : Nat) (q : List (κ × List α)) (k : κ) (xs : List α) : Ty :=
  ⟨R3 E T t J q k xs, [t, J], [t, J], fun le hk hs ⟨h, h'⟩ => ⟨(Ty.gG E T J xs).mono le (fun u hu => hk u (by simp [Ty.gG] at hu ⊢; exact .inr hu)) (fun u hu => hs u (by simp [Ty.gG] at hu ⊢; exact .inr hu)) h, fun g e0 he =>
    let ⟨b, es, clock, h1, h2, h3⟩ := h' g e0 he
    let ⟨a, c⟩ := le.own b t h1 (hk t bB)
    ⟨b, es, clock, a, (c (hs t bB)).trans h2, h3⟩⟩, true, fun ho h => (Ty.gG E T J xs).isOne ho h.1⟩
omit [DecidableEq κ] in
theorem E1 (q : List (κ × List α)) (hn : (q.map Prod.fst).Nodup) {i j : Nat} {k : κ} (hi : (q[i]?).map Prod.fst = some k) (hj : (q[j]?).map Prod.fst = some k) : i = j := by
 rw [← List.getElem?_map] at hi hj
 obtain ⟨h1, e1⟩ := List.getElem?_eq_some_iff.1 hi
 obtain ⟨h2, e2⟩ := List.getElem?_eq_some_iff.1 hj
 exact (List.getElem_inj hn).1 (e1.trans e2.symm)
theorem B7 {q : List (κ × List α)} {k : κ} {i : Nat} (h : (q.map Prod.fst).findIdx? (fun x => decide (x = k)) = some i) : (q[i]?).map Prod.fst = some k := by
 obtain ⟨v, hv, _⟩ := nQ q k i h
 rw [hv]; rfl
def mF (q : List (κ × List α)) (k : κ) : List (κ × List α) := q.eraseIdx ((q.map Prod.fst).findIdx? (fun x => decide (x = k)) |>.getD q.length)
theorem A6 (q : List (κ × List α)) (k : κ) (v : List α) (hn : (q.map Prod.fst).Nodup) : ((dQ q k v).map Prod.fst).Nodup := by
  cases hi : (q.map Prod.fst).findIdx? (fun x => decide (x = k)) with
  | some i =>
    obtain ⟨u, hu, _, hp⟩ := nQ q k i hi
    rw [hp, List.map_set]
    have : (q.map Prod.fst).set i k = q.map Prod.fst := by
      apply List.ext_getElem?
      intro j
      rw [List.getElem?_set]
      by_cases e : i = j
      · subst e
        have hlt := (List.getElem?_eq_some_iff.1 hu).1
        rw [if_pos rfl, if_pos ni, List.getElem?_map, hu]; rfl
      · rw [if_neg e]
    rw [this]; exact hn
  | none =>
    obtain ⟨_, hp⟩ := m8 q k hi
    rw [hp, List.map_append, List.nodup_append]
    refine ⟨hn, by simp, fun a ha b hb => ?_⟩
    simp only [List.map_cons, List.map_nil, List.mem_singleton] at hb
    subst hb
    intro e
    subst e
    rw [List.findIdx?_eq_none_iff] at hi
    have := hi a ha
    simp at this
end
section
variable {P : Program} {fr : Fr} {ops : Array Oper} {A : As} {rest : List Oper} {K : As → List (As × Fx) → Prop} {d : Nat} {t ty' mt kt et : TypeId} {p : String} {e : Array Edge}
variable {κ α : Type} [DecidableEq κ] {E : El α} {Tb J tg : Nat} {q : List (κ × List α)} {k : κ} {xs ys : List α}
omit [DecidableEq κ] in
theorem Hu {x : Operand} {enc : κ → Value} (hx : A.op fr x = .mp tg) (hc : A.tag tg = some (.mr enc E Tb J q)) (h1 : fR tg) {a : Act} {w : World} {M : bI} {rs : List Nat} (wf : Wf w M) (hr : ∀ c ∈ cA x, c ∈ rs) (hrd : ∀ c ∈ rs, c < fr.n → (A.slots c).den w M (a.tmps.getD c undef)) (htg : ∀ y ∈ A.tags, y.1 ∈ [tg] → y.2.den w M y.1) :
 (q.map Prod.fst).Nodup ∧ ∃ b es clock, a.eval x = .map (some b) ∧ M b = some tg ∧ w.heap[b]? = some (.map es clock) ∧ es.toList.map (·.key) = q.map (fun x => enc x.1) ∧ cS w M (q.map fun x => Ty.gG E Tb J x.2) (es.toList.map (·.val)) ∧ zL E.size (es.toList.map (·.val)) := by
 have hxd := cN hr hrd
 rw [hx] at hxd
 obtain ⟨b, e1, e2⟩ := hxd
 obtain ⟨hn, b', es, clock, h2, h3⟩ := htg _ (cj hc) bB
 obtain ⟨u, rfl⟩ : ∃ u, tg = u + 1 := ⟨tg - 1, by omega⟩
 have : b = b' := wf.inj b b' u aE e2 h2
 subst this
 exact ⟨hn, b, es, clock, e1, e2, h3⟩
theorem ES {es : Array MapEntry} {i : Nat} {en : MapEntry} (h : es[i]? = some en) : (es.toList.map (·.val))[i]? = some en.val := by
 rw [List.getElem?_map, Array.getElem?_toList, h]; rfl
omit [DecidableEq κ] in
theorem GX (enc : κ → Value) (E : El α) (Tb J : Nat) (hm : mapOf P mt = some (kt, et)) (hp : fr.pass.contains (d + 1) = false)
 (h : ay P fr ops rest (A.after { d := some d, ty := .mp (d + 1), K := [d + 1], sets := [(d + 1, .mr enc E Tb J [])] }) fun A' l' => K A' ((A, { d := some d, ty := .mp (d + 1), K := [d + 1], sets := [(d + 1, .mr enc E Tb J [])] }) :: l')) :
 ay P fr ops (⟨some d, .makeMap mt none, t, p, e, none⟩ :: rest) A K := by
 refine ⟨_, fk rfl rfl bB bB tE fun a w M wf _ _ => ?_, h⟩
 have hrun : (execOp a.eval ⟨some d, .makeMap mt none, t, p, e, none⟩).run P w = .ok (.value (.map (some w.heap.size))) (w.alloc (.map #[] 0)) := by
  simp [execOp, Instr.makeMap, newObj, Sem.run]
 obtain ⟨h1, h2, h3⟩ := kP wf (.map #[] 0) (d + 1)
 refine ⟨_, _, hrun, _, h1, h2, ⟨_, rfl, h3⟩, fun x hx => ?_⟩
 rw [List.mem_singleton.1 hx]
 exact ⟨by simp, w.heap.size, #[], 0, h3, iA _ _, rfl, trivial, fun i j v u g e e' hi => by simp at hi⟩
theorem sR {x y : Operand} {kty : Ty} (KK : uJ P kt κ) (hx : A.op fr x = .mp tg) (hc : A.tag tg = some (.mr KK.enc E Tb J q)) (h1 : fR tg) (hy : A.op fr y = kty) (hk : qt kty (KK.enc k)) (hm : mapOf P mt = some (kt, et)) (hz : zeroOf P et = some (.slice none 0 0))
 (h : ay P fr ops rest (A.set d (.qv E Tb tg J q k ((b8 q k).getD []))) fun A' l' => K A' ((A, { d := some d, ty := .qv E Tb tg J q k ((b8 q k).getD []), rs := cA x ++ cA y, rt := [tg] }) :: l')) :
 ay P fr ops (⟨some d, .lookup mt x y false, t, p, e, none⟩ :: rest) A K :=
 bR (bl rfl rfl fun a w M wf hrd htg => by
  obtain ⟨hn, b, es, clock, e1, e2, h3, h4, h5, h6⟩ := Hu hx hc h1 wf (fun c hc => List.mem_append_left _ hc) hrd htg
  have hyd := cN (fun c hc => List.mem_append_right (cA x) hc) hrd
  rw [hy] at hyd
  have hu := kF hm
  rcases nO KK h4 h5 k with ⟨i, v, en, hi, hg, hen, _, hd, hf⟩ | ⟨_, hg, hf⟩
  ·refine ⟨en.val, ?_, by rw [hg]; exact hd, fun g e0 he => ⟨b, es, clock, e2, h3, fun j u e1 hj hju => ?_⟩⟩
   ·simp only [execOp, e1, hk _ _ _ hyd]
    simp [Instr.lookup, underlying, hu, getObj, Sem.run, h3, KK.check, hf]
   have hij := h6 i j en.val u g e0 e1 (ES hen) hj he hju
   subst hij
   rw [ES hen] at hj
   injection hj with hj
   subst hj
   rw [he] at hju
   injection hju with hju
   injection hju with _ hju
   exact ⟨B7 hi, fun _ => by omega⟩
  refine ⟨.slice none 0 0, ?_, by rw [hg]; exact .inl ⟨rfl, rfl⟩, fun g e0 he => by simp [kG] at he⟩
  simp only [execOp, e1, hk _ _ _ hyd]
  simp [Instr.lookup, underlying, hu, getObj, Sem.run, h3, KK.check, hf, ze hz]) h
theorem AI {x y z : Operand} {kty : Ty} (KK : uJ P kt κ) (hx : A.op fr x = .mp tg) (hc : A.tag tg = some (.mr KK.enc E Tb J q)) (h1 : fR tg) (hy : A.op fr y = kty) (hk : qt kty (KK.enc k)) (hz : A.op fr z = .qv E Tb tg J q k xs) (hm : mapOf P mt = some (kt, et)) (hJ : Nat.beq J tg = false)
 (h : ay P fr ops rest (A.after { d := none, S := [tg], sets := [(tg, .mr KK.enc E Tb J (dQ q k xs))], rs := cA x ++ (cA y ++ cA z), rt := [tg] }) fun A' l' => K A' ((A, { d := none, S := [tg], sets := [(tg, .mr KK.enc E Tb J (dQ q k xs))], rs := cA x ++ (cA y ++ cA z), rt := [tg] }) :: l')) :
 ay P fr ops (⟨none, .mapUpdate mt x y z, t, p, e, none⟩ :: rest) A K := by
 have hJ' : J ≠ tg := fun h => by subst h; simp at hJ
 refine ⟨_, lT rfl rfl rfl bB lC bB fun a w M wf hrd htg => ?_, h⟩
 obtain ⟨hn, b, es, clock, e1, e2, h3, h4, h5, h6⟩ := Hu hx hc h1 wf (fun c hc => List.mem_append_left _ hc) hrd htg
 have hyd := cN (fun c hc => List.mem_append_right (cA x) (List.mem_append_left (cA z) hc)) hrd
 have hzd := cN (fun c hc => List.mem_append_right (cA x) (List.mem_append_right (cA y) hc)) hrd
 rw [hy] at hyd
 rw [hz] at hzd
 obtain ⟨hrow, hown⟩ := hzd
 have hu := kF hm
 have hblt : b < w.heap.size := wf.lt b _ e2
 have own' : ∀ (g e0 : Nat), kG E.size (a.eval z) = some (g, e0) → ∀ (j : Nat) (u : Value) (e' : Nat), (es.toList.map (·.val))[j]? = some u → kG E.size u = some (g, e') → (q[j]?).map Prod.fst = some k := fun g e0 he j u e' hj hju => by
  obtain ⟨b', es', c', g1, g2, g3⟩ := hown g e0 he
  obtain ⟨u', rfl⟩ : ∃ u, tg = u + 1 := ⟨tg - 1, by omega⟩
  have : b = b' := wf.inj b b' u' aE e2 g1
  subst this
  rw [h3] at g2
  injection g2 with g2
  injection g2 with g2 g4
  subst g2
  exact (g3 j u e' hj hju).1
 have fin : ∀ (es' : Array MapEntry) (clock' : Nat), es'.toList.map (·.key) = (dQ q k xs).map (fun x => KK.enc x.1) → cS w M ((dQ q k xs).map fun x => Ty.gG E Tb J x.2) (es'.toList.map (·.val)) → zL E.size (es'.toList.map (·.val)) →
  (Instr.mapUpdate mt (.map (some b)) (KK.enc k) (a.eval z)).run P w = .ok () { w with heap := w.heap.setIfInBounds b (.map es' clock') } →
  ∃ w', (execOp a.eval ⟨none, .mapUpdate mt x y z, t, p, e, none⟩).run P w = .ok .skip w' ∧ Fx.left { d := none, S := [tg], sets := [(tg, .mr KK.enc E Tb J (dQ q k xs))], rs := cA x ++ (cA y ++ cA z), rt := [tg] } w M w' undef := by
  intro es' clock' hk' hd' hap hrun
  have hr : (execOp a.eval ⟨none, .mapUpdate mt x y z, t, p, e, none⟩).run P w = .ok .skip { w with heap := w.heap.setIfInBounds b (.map es' clock') } := by
   simp only [execOp, e1, hk _ _ _ hyd]
   simp [hrun]
  have le : Le (· ∈ [tg]) (· ∈ ([] : List Nat)) w M { w with heap := w.heap.setIfInBounds b (.map es' clock') } M := by
   refine ⟨by simp, rfl, rfl, rfl, fun b2 hlt hm2 => ⟨hm2, ?_⟩, fun b2 u hm2 _ => ⟨hm2, fun hs => ?_⟩⟩
   ·have : b ≠ b2 := fun h => by subst h; rw [e2] at hm2; cases hm2
    simp [Array.getElem?_setIfInBounds, this]
   have : b ≠ b2 := fun h => by subst h; rw [e2] at hm2; injection hm2 with hm2; exact hs zx
   simp [Array.getElem?_setIfInBounds, this]
  refine ⟨_, hr, M, ⟨fun b2 u h => by simpa using wf.lt b2 u h, wf.inj⟩, le, trivial, fun x hx => ?_⟩
  rw [List.mem_singleton.1 hx]
  refine ⟨A6 q k xs hn, b, es', clock', e2, by simp [hblt], hk', ?_, hap⟩
  exact b7 le (fun _ _ => by simp) (fun u hu => by rw [mZ.2 u hu]; simpa using hJ') hd'
 rcases nO KK h4 h5 k with ⟨i, v0, en, hi, hg, hen, hkey, hd, hf⟩ | ⟨hi, hg, hf⟩
 ·obtain ⟨v1, hv1, _, hput⟩ := nQ q k i hi
  have hil : i < es.size := (Array.getElem?_eq_some_iff.1 hen).1
  have hes : (es.modify i fun e => { e with key := KK.enc k, val := a.eval z }).toList = es.toList.set i { en with key := KK.enc k, val := a.eval z } := by
   rw [Array.toList_modify, List.modify_eq_set, Array.getElem?_toList, hen]; rfl
  refine fin (es.modify i fun e => { e with key := KK.enc k, val := a.eval z }) clock ?_ ?_ ?_ ?_
  ·rw [hput, List.map_set, hes, List.map_set, h4]
  ·rw [hput, List.map_set, hes, List.map_set]
   exact nw h5 hrow
  ·rw [hes, List.map_set]
   intro i1 j1 v u g e' e'' hi1 hj1 hv hu
   rw [List.getElem?_set] at hi1 hj1
   by_cases c1 : i = i1 <;> by_cases c2 : i = j1
   ·omega
   ·rw [if_pos c1] at hi1; rw [if_neg c2] at hj1
    split at hi1
    ·injection hi1 with hi1
     have hi1 : a.eval z = v := hi1
     subst hi1
     have := E1 q hn (own' g e' hv j1 u e'' hj1 hu) (B7 hi)
     omega
    cases hi1
   ·rw [if_neg c1] at hi1; rw [if_pos c2] at hj1
    split at hj1
    ·injection hj1 with hj1
     have hj1 : a.eval z = u := hj1
     subst hj1
     have := E1 q hn (own' g e'' hu i1 v e' hi1 hv) (B7 hi)
     omega
    cases hj1
   rw [if_neg c1] at hi1; rw [if_neg c2] at hj1
   exact h6 i1 j1 v u g e' e'' hi1 hj1 hv hu
  simp [Instr.mapUpdate, underlying, hu, getObj, setObj, Sem.run, h3, KK.check, hf, hen, hkey, Instr.keyThatStays, KK.same]
 obtain ⟨_, hput⟩ := m8 q k hi
 have hlen : (es.toList.map (·.val)).length = q.length := by have := congrArg List.length h4; simpa using this
 have hno : ∀ j, (q[j]?).map Prod.fst ≠ some k := fun j hj => by
  rw [List.findIdx?_eq_none_iff] at hi
  rw [← List.getElem?_map] at hj
  have := hi k (List.mem_of_getElem? hj)
  simp at this
 refine fin (es.push { key := KK.enc k, val := a.eval z, born := clock }) (clock + 1) ?_ ?_ ?_ ?_
 ·rw [hput]; simp [h4]
 ·rw [hput]; simp only [Array.toList_push, List.map_append, List.map_cons, List.map_nil]
  exact eY h5 ⟨hrow, trivial⟩
 ·simp only [Array.toList_push, List.map_append, List.map_cons, List.map_nil]
  intro i1 j1 v u g e' e'' hi1 hj1 hv hu
  rw [List.getElem?_append] at hi1 hj1
  split at hi1 <;> split at hj1
  ·exact h6 i1 j1 v u g e' e'' hi1 hj1 hv hu
  ·rw [List.getElem?_singleton] at hj1
   split at hj1
   ·injection hj1 with hj1
    subst hj1
    exact absurd (own' g e'' hu i1 v e' hi1 hv) (hno i1)
   cases hj1
  ·rw [List.getElem?_singleton] at hi1
   split at hi1
   ·injection hi1 with hi1
    subst hi1
    exact absurd (own' g e' hv j1 u e'' hj1 hu) (hno j1)
   cases hi1
  rw [List.getElem?_singleton] at hi1 hj1
  split at hi1 <;> split at hj1 <;> first | omega | (exfalso; simp at hj1; done) | (exfalso; simp at hi1; done)
 simp [Instr.mapUpdate, underlying, hu, getObj, setObj, Sem.run, h3, KK.check, hf]
end
section
variable {P : Program} {fr : Fr} {ops : Array Oper} {A : As} {rest : List Oper} {K : As → List (As × Fx) → Prop} {d : Nat} {t ty' mt kt et : TypeId} {p : String} {e : Array Edge} [T : lq P]
variable {κ α : Type} [DecidableEq κ] {E : El α} {Tb J tg : Nat} {q : List (κ × List α)} {k : κ} {xs ys : List α}
omit [DecidableEq κ] in
theorem Px {x : Operand} {ti : TI} {el : Nat} (hx : A.op fr x = .qv E Tb tg J q k xs) (hT : T.dz[ty']? = some ti) (hk : ti.k = .slice el)
 (h : ay P fr ops rest (A.set d (.int .i64 (xs.length : Nat))) fun A' l => K A' ((A, { d := some d, ty := .int .i64 (xs.length : Nat), rs := cA x }) :: l)) :
 ay P fr ops (⟨some d, .call ⟨.builtin .len, #[x], #[ty']⟩, t, p, e, none⟩ :: rest) A K :=
 bR (bl rfl rfl fun a w M _ hr _ => by
  have := cN (x := x) (fun _ h => h) hr
  rw [hx] at this
  obtain ⟨h1, _⟩ := this
  obtain ⟨_, D, _, hD, hkd, _⟩ := cP hT
  rw [hk] at hkd
  cases D <;> simp only [TK.of, reduceCtorEq, TK.slice.injEq] at hkd
  refine ⟨.int .i64 xs.length, ?_, rfl⟩
  rcases h1 with ⟨hn, ex⟩ | ⟨g, off, c, cur, ex, _⟩
  ·simp [execOp, ex, resolve, invoke, builtin, Builtin.len_, run_underlying hD, hn, goInt]
  simp [execOp, ex, resolve, invoke, builtin, Builtin.len_, run_underlying hD, goInt]) h
theorem Au [Inhabited α] {w : World} {M : bI} {g off i j : Nat} {cur : Array Value} {ty : Ty} (hh : w.heap[g]? = some (.cells cur Tb (0, 0))) (hd : cS w M (xs.flatMap E.tys) ((cur.toList.drop off).take (xs.length * E.size))) (hi : i < xs.length) (hl : (E.tys (nth xs i))[j]? = some ty) :
 ∃ u, w.cell? ⟨g, off + i * E.size + j, none⟩ = some u ∧ ty.den w M u := by
 obtain ⟨u, hu, hdu⟩ := dr hd _ ty (nB E xs hi j ty hl)
 rw [List.getElem?_take] at hu
 split at hu
 ·rw [List.getElem?_drop] at hu
  exact ⟨u, by rw [Nat.add_assoc]; simpa [World.cell?, hh] using hu, hdu⟩
 cases hu
omit [DecidableEq κ] in
theorem ML [Inhabited α] {x y : Operand} {kd : IntKind} {i : Nat} {ti te : TI} {el : Nat} (hx : A.op fr x = .qv E Tb tg J q k xs) (hy : A.op fr y = .int kd i) (hT : T.dz[ty']? = some ti) (hk : ti.k = .slice el) (hE : T.dz[el]? = some te) (hs : te.size = E.size) (hi : i < xs.length)
 (h : ay P fr ops rest (A.set d (.op J (E.tys (nth xs i)))) fun A' l' => K A' ((A, { d := some d, ty := .op J (E.tys (nth xs i)), rs := cA x ++ cA y }) :: l')) : ay P fr ops (⟨some d, .indexAddr ty' x y, t, p, e, none⟩ :: rest) A K :=
 bR (bl rfl rfl fun a w M _ hr _ => by
  obtain ⟨hdx, hdy⟩ := op2 hr
  rw [hx] at hdx; rw [hy] at hdy
  obtain ⟨h1, _⟩ := hdx
  have ey : a.eval y = .int kd i := hdy
  rcases h1 with ⟨h0, _⟩ | ⟨g, off, c, cur, ex, hg, hh, hn, _, _, hd⟩
  ·subst h0; simp at hi
  refine ⟨_, by simp only [execOp, ex, ey, Sem.run_bind, gk hT hk hE (Int.natCast_nonneg i) (show (i : Int).toNat < xs.length from hi)]; rfl, g, off + i * te.size, by simp, hg, fun j ty hj => ?_⟩
  rw [hs]
  exact Au hh hd hi hj) h
omit [DecidableEq κ] in
theorem Pn {x y : Operand} {kd : IntKind} {lo : Nat} {ti te : TI} {el : Nat} (hx : A.op fr x = .qv E Tb tg J q k xs) (hy : A.op fr y = .int kd lo) (hT : T.dz[ty']? = some ti) (hk : ti.k = .slice el) (hE : T.dz[el]? = some te) (hs : te.size = E.size) (hlo : lo ≤ xs.length) (h0 : 0 < xs.length)
 (h : ay P fr ops rest (A.set d (.qv E Tb tg J q k (xs.drop lo))) fun A' l' => K A' ((A, { d := some d, ty := .qv E Tb tg J q k (xs.drop lo), rs := cA x ++ cA y }) :: l')) : ay P fr ops (⟨some d, .slice ty' x (some y) none none, t, p, e, none⟩ :: rest) A K :=
 bR (bl rfl rfl fun a w M _ hr _ => by
  obtain ⟨hdx, hdy⟩ := op2 hr
  rw [hx] at hdx; rw [hy] at hdy
  obtain ⟨h1, hown⟩ := hdx
  have ey : a.eval y = .int kd lo := hdy
  obtain ⟨_, D, _, hD, hkd, _⟩ := cP hT
  rw [hk] at hkd
  cases D <;> simp only [TK.of, reduceCtorEq, TK.slice.injEq] at hkd
  subst hkd
  have hsz := fun w => cq (P := P) hE w
  rcases h1 with ⟨hn, _⟩ | ⟨g, off, c, cur, ex, hg, hh, hn, hc, hsz2, hd⟩
  ·subst hn; simp at h0
  rw [ex] at hown
  have hlc : lo ≤ c := by omega
  have hrun : ∃ ad, (execOp a.eval ⟨some d, .slice ty' x (some y) none none, t, p, e, none⟩).run P w = .ok (.value (.slice (some ad) (xs.length - lo) (c - lo))) w ∧ ad = (if c = lo then (⟨g, off, none⟩ : Addr) else ⟨g, off + lo * E.size, none⟩) := by
   refine ⟨_, ?_, rfl⟩
   simp [execOp, ex, ey, Instr.sliceAt, Instr.slice, run_underlying hD, Instr.sliceBounds, Instr.sliceBound, asIntOf, hsz, hs, hn, hlo]
   by_cases hcl : c = lo
   ·simp [hcl]
   simp [hcl]; exact Addr.add_lit _ _ _
  obtain ⟨ad, hrun, had⟩ := hrun
  have hlen : (xs.drop lo).length = xs.length - lo := List.length_drop
  have key : cS w M ((xs.drop lo).flatMap E.tys) ((cur.toList.drop (off + lo * E.size)).take ((xs.drop lo).length * E.size)) := by
   have := jk (lo * E.size) hd
   rw [List.drop_take, List.drop_drop, ← Nat.sub_mul] at this
   have e1 : (xs.flatMap E.tys).drop (lo * E.size) = (xs.drop lo).flatMap E.tys := by
    have : xs.flatMap E.tys = (xs.take lo).flatMap E.tys ++ (xs.drop lo).flatMap E.tys := by rw [← List.flatMap_append, List.take_append_drop]
    rw [this, List.drop_left' PC]
   rw [e1] at this
   rw [hlen]; exact this
  by_cases hcl : c = lo
  ·rw [if_pos hcl] at had
   subst had
   refine ⟨_, hrun, .inr ⟨g, off, c - lo, cur, by rw [hlen], hg, hh, by rw [hlen]; omega, by omega, ?_, ?_⟩, fun g' e0 he => ?_⟩
   ·have : c - lo = 0 := by omega
    rw [this]; omega
   ·have h0' : xs.drop lo = [] := List.eq_nil_of_length_eq_zero (by rw [hlen]; omega)
    rw [h0']; simp [cS]
   simp only [kG, Option.some.injEq, Prod.mk.injEq] at he
   obtain ⟨rfl, rfl⟩ := he
   obtain ⟨b, es, clock, h1, h2, h3⟩ := hown g _ rfl
   refine ⟨b, es, clock, h1, h2, fun j u e1 hj hju => ⟨(h3 j u e1 hj hju).1, fun hr => ?_⟩⟩
   simp [roomy] at hr
   omega
  rw [if_neg hcl] at had
  subst had
  refine ⟨_, hrun, .inr ⟨g, off + lo * E.size, c - lo, cur, by rw [hlen], hg, hh, by rw [hlen]; omega, by omega, ?_, key⟩, fun g' e0 he => ?_⟩
  ·rw [Nat.add_assoc, ← Nat.add_mul, show lo + (c - lo) = c by omega]; exact hsz2
  simp only [kG, Option.some.injEq, Prod.mk.injEq] at he
  obtain ⟨rfl, rfl⟩ := he
  obtain ⟨b, es, clock, h1, h2, h3⟩ := hown g _ rfl
  refine ⟨b, es, clock, h1, h2, fun j u e1 hj hju => ⟨(h3 j u e1 hj hju).1, fun hr => ?_⟩⟩
  have := (h3 j u e1 hj hju).2 (by simp [roomy] at hr ⊢; omega)
  show e1 ≤ off + lo * E.size + (xs.length - lo) * E.size
  rw [Nat.add_assoc, ← Nat.add_mul, show lo + (xs.length - lo) = xs.length by omega]
  exact this) h
end
end Go.T
namespace Go.T
open Go Go.RowKit
section
variable {P : Program} {fr : Fr} {ops : Array Oper} {A : As} {rest : List Oper} {K : As → List (As × Fx) → Prop} {d : Nat} {t ty' mt kt et : TypeId} {p : String} {e : Array Edge} [T : lq P]
variable {κ α : Type} [DecidableEq κ] {E : El α} {Tb J tg : Nat} {q : List (κ × List α)} {k : κ} {xs ys : List α}
theorem L5 (l news : List Value) (o n m e : Nat) (he : o + n ≤ e) (hl : e + news.length ≤ l.length) : (((l.take e ++ news ++ l.drop (e + news.length)).drop o).take n) = (l.drop o).take n := by
 apply List.ext_getElem?
 intro i
 rw [List.getElem?_take, List.getElem?_take]
 split
 ·rename_i hi
  rw [List.getElem?_drop, List.getElem?_drop, List.append_assoc, List.getElem?_append_left zu, List.getElem?_take, if_pos aE]
 rfl
theorem EM (l news : List Value) (o n : Nat) (hl : o + n + news.length ≤ l.length) : (((l.take (o + n) ++ news ++ l.drop (o + n + news.length)).drop o).take (n + news.length)) = (l.drop o).take n ++ news := by
 have h1 : (l.take (o + n) ++ news ++ l.drop (o + n + news.length)).drop o = (l.drop o).take n ++ news ++ l.drop (o + n + news.length) := by
  rw [List.append_assoc, List.drop_append_of_le_length zu, List.drop_take, show o + n - o = n by omega, List.append_assoc]
 have h2 : ((l.drop o).take n ++ news).length = n + news.length := by rw [List.length_append, List.length_take, List.length_drop, Nat.min_eq_left aE]
 rw [h1, List.take_left' h2]
omit [DecidableEq κ] in
theorem Dp {w : World} {M : bI} {vs : List Value} (hd : cS w M (q.map fun x => Ty.gG E Tb J x.2) vs) {j : Nat} {u : Value} {g e1 : Nat} (hj : vs[j]? = some u) (hu : kG E.size u = some (g, e1)) : M g = some J := by
 have hlen := cO hd
 have hlt := (List.getElem?_eq_some_iff.1 hj).1
 obtain ⟨x, hx, hdx⟩ := dr hd j (Ty.gG E Tb J (q[j]'(by simpa [hlen] using hlt)).2) (by rw [List.getElem?_map, List.getElem?_eq_getElem (by simpa [hlen] using hlt)]; rfl)
 rw [hj] at hx
 injection hx with hx
 subst hx
 rcases hdx with ⟨_, e⟩ | ⟨g', off, c, cur, e, hg, _⟩
 ·rw [e] at hu; simp [kG] at hu
 rw [e] at hu
 simp only [kG, Option.some.injEq, Prod.mk.injEq] at hu
 rw [← hu.1]; exact hg
theorem Jd {x y : Operand} {enc : κ → Value} {st el : Nat} {ti te : TI} (hx : A.op fr x = .qv E el tg J q k xs) (hy : A.op fr y = .sl E ys) (hc : A.tag tg = some (.mr enc E el J q)) (h1 : fR tg) (hJ : 4096 ≤ J) (hp : fr.pass.contains J = false) (hpos : 0 < ys.length) (hT : T.dz[st]? = some ti) (hk : ti.k = .slice el) (hE : T.dz[el]? = some te) (hs : te.size = E.size) (hz : te.zero.length = te.size) (h0 : 0 < te.size)
    (hlen : (xs.length + ys.length) * te.bytes ≤ 140737488355328) (hlen' : xs.length + ys.length ≤ 9223372036854775807)
    (h : ay P fr ops rest (A.after { d := some d, ty := .qv E el tg J q k (xs ++ ys), S := [tg, J], sets := [(tg, .mr enc E el J q)], rs := cA x ++ cA y, rt := [tg] }) fun A' l' => K A' ((A, { d := some d, ty := .qv E el tg J q k (xs ++ ys), S := [tg, J], sets := [(tg, .mr enc E el J q)], rs := cA x ++ cA y, rt := [tg] }) :: l')) :
    ay P fr ops (⟨some d, .call ⟨.builtin .append, #[x, y], #[st, st]⟩, t, p, e, none⟩ :: rest) A K := by
  refine ⟨_, fk rfl rfl bB (by simp; exact ⟨h1.1, by omega⟩) bB fun a w M wf hr htg => ?_, h⟩
  obtain ⟨hdx, hdy⟩ := op2 hr
  rw [hx] at hdx; rw [hy] at hdy
  obtain ⟨hrow, hown⟩ := hdx
  obtain ⟨hn, b, es, clock, hb, hhb, hkeys, hvals, hap⟩ := htg _ (cj hc) bB
  have ownb : ∀ (g e0 : Nat), kG E.size (a.eval x) = some (g, e0) → ∀ (j : Nat) (u : Value) (e1 : Nat), (es.toList.map (·.val))[j]? = some u → kG E.size u = some (g, e1) → (q[j]?).map Prod.fst = some k ∧ (roomy (a.eval x) = true → e1 ≤ e0) := fun g e0 he => by
    obtain ⟨b', es', c', g1, g2, g3⟩ := hown g e0 he
    obtain ⟨u', hu'⟩ : ∃ u, tg = u + 1 := ⟨tg - 1, by omega⟩
    have : b = b' := by
      have hb' : M b = some (u' + 1) := hu' ▸ hb
      have g1' : M b' = some (u' + 1) := hu' ▸ g1
      exact wf.inj b b' u' aE hb' g1'
    subst this
    rw [hhb] at g2
    injection g2 with g2
    injection g2 with g2 _
    subst g2
    exact g3
  obtain ⟨_, D, _, hD, hkd, _⟩ := cP hT
  rw [hk] at hkd
  cases D <;> simp only [TK.of, reduceCtorEq, TK.slice.injEq] at hkd
  subst hkd
  rename_i el
  obtain ⟨i, _, hi, _, _, hsz, hby, hze⟩ := cP hE
  obtain ⟨zz, hiz, hzc⟩ : ∃ z, i.zero = some z ∧ z.cells.size = i.size := by
    cases hiz : i.zero with
    | none => rw [hiz] at hze; rw [← hze] at hz; simp at hz; omega
    | some z => rw [hiz] at hze; exact ⟨z, rfl, by simp at hze; rw [hsz, ← hz, ← hze]; simp⟩
  obtain ⟨ad, c', ey, hc1, hc2, hpp⟩ := hdy
  obtain ⟨b', off', rfl, hp'⟩ := hpp hpos
  obtain ⟨news, hn1, hn2, hn3⟩ := mW hp' _ (Nat.le_refl _)
  rw [List.take_length] at hn2
  have hnl : news.length = ys.length * i.size := by rw [hn1, cz, hsz, hs]
  have hnews : ∀ j u, news[j]? = some u → w.cell? ((⟨b', off', none⟩ : Addr).add j) = some u := fun j u hj => by rw [Addr.add_lit]; exact hn3 j u hj
  have hones := nE hn2 (mw E ys)
  have hesz : E.size = i.size := by rw [hsz, hs]
  -- behind a growth
  have grown : ∀ (olds : List Value) (cap : Nat), cS w M (xs.flatMap E.tys) olds → cap < xs.length + ys.length →
      (Builtin.append_ #[st, st] t #[a.eval x, a.eval y]).run P w = .ok (.slice (some ⟨w.heap.size, 0, none⟩) (xs.length + ys.length) (grownCap w (xs.length + ys.length) cap el)) (w.drew.alloc (.cells (olds.toArray ++ news.toArray ++ Builtin.zeroCells zz.cells (grownCap w (xs.length + ys.length) cap el - (xs.length + ys.length))) el)) →
      ∃ v w', (execOp a.eval ⟨some d, .call ⟨.builtin .append, #[x, y], #[st, st]⟩, t, p, e, none⟩).run P w = .ok (.value v) w' ∧ Fx.left { d := some d, ty := .qv E el tg J q k (xs ++ ys), S := [tg, J], sets := [(tg, .mr enc E el J q)], rs := cA x ++ cA y, rt := [tg] } w M w' v := by
    intro olds cap hdo hcap hrun
    have holen : olds.length = xs.length * i.size := by rw [cO hdo, cz, hesz]
    have hge := grownCap_ge w (xs.length + ys.length) cap el
    have hcm : grownCap w (xs.length + ys.length) cap el ≤ maxLen := grownCap_le_maxLen w (xs.length + ys.length) cap el Bv
    have hsize : (w.drew.alloc (.cells (olds.toArray ++ news.toArray ++ Builtin.zeroCells zz.cells (grownCap w (xs.length + ys.length) cap el - (xs.length + ys.length))) el)).heap.size = w.heap.size + 1 := by simp
    have hold : ∀ b2, b2 < w.heap.size → (w.drew.alloc (.cells (olds.toArray ++ news.toArray ++ Builtin.zeroCells zz.cells (grownCap w (xs.length + ys.length) cap el - (xs.length + ys.length))) el)).heap[b2]? = w.heap[b2]? := fun b2 h => Below.heap_alloc w.drew _ b2 h
    have hnew : (w.drew.alloc (.cells (olds.toArray ++ news.toArray ++ Builtin.zeroCells zz.cells (grownCap w (xs.length + ys.length) cap el - (xs.length + ys.length))) el)).heap[w.heap.size]? = some (.cells (olds.toArray ++ news.toArray ++ Builtin.zeroCells zz.cells (grownCap w (xs.length + ys.length) cap el - (xs.length + ys.length))) el (0, 0)) := iA w.drew _
    have hos : (w.drew.alloc (.cells (olds.toArray ++ news.toArray ++ Builtin.zeroCells zz.cells (grownCap w (xs.length + ys.length) cap el - (xs.length + ys.length))) el)).os = w.os ∧ (w.drew.alloc (.cells (olds.toArray ++ news.toArray ++ Builtin.zeroCells zz.cells (grownCap w (xs.length + ys.length) cap el - (xs.length + ys.length))) el)).tape = w.tape ∧ (w.drew.alloc (.cells (olds.toArray ++ news.toArray ++ Builtin.zeroCells zz.cells (grownCap w (xs.length + ys.length) cap el - (xs.length + ys.length))) el)).output = w.output := ⟨rfl, rfl, rfl⟩
    have hcs : (olds.toArray ++ news.toArray ++ Builtin.zeroCells zz.cells (grownCap w (xs.length + ys.length) cap el - (xs.length + ys.length))).size = grownCap w (xs.length + ys.length) cap el * i.size := by
      simp only [Array.size_append, List.size_toArray, size_zeroCells, hzc, holen, hnl, ← Nat.add_mul]
      congr 1
      omega
    have htk : ((olds.toArray ++ news.toArray ++ Builtin.zeroCells zz.cells (grownCap w (xs.length + ys.length) cap el - (xs.length + ys.length))).toList.drop 0).take ((xs ++ ys).length * E.size) = olds ++ news := by
      rw [List.drop_zero]
      simp only [Array.toList_append]
      rw [List.take_left' Ox]
    generalize hw' : (w.drew.alloc (.cells (olds.toArray ++ news.toArray ++ Builtin.zeroCells zz.cells (grownCap w (xs.length + ys.length) cap el - (xs.length + ys.length))) el)) = w' at *
    generalize hcu : (olds.toArray ++ news.toArray ++ Builtin.zeroCells zz.cells (grownCap w (xs.length + ys.length) cap el - (xs.length + ys.length))) = cu at *
    have le : Le (· ∈ [tg, J]) (· ∈ ([] : List Nat)) w M w' (fun b2 => if b2 = w.heap.size then some J else M b2) :=
      ⟨by omega, hos.1, hos.2.1, hos.2.2, fun b2 hb2 hm => ⟨by rw [if_neg aE]; exact hm, hold b2 hb2⟩, fun b2 u hm _ => by
        have := wf.lt b2 u hm
        exact ⟨by rw [if_neg aE]; exact hm, fun _ => hold b2 this⟩⟩
    have le0 : Le (· ∈ ([] : List Nat)) (· ∈ ([] : List Nat)) w M w' (fun b2 => if b2 = w.heap.size then some J else M b2) :=
      ⟨by omega, hos.1, hos.2.1, hos.2.2, fun b2 hb2 hm => ⟨by rw [if_neg aE]; exact hm, hold b2 hb2⟩, fun b2 u hm _ => by
        have := wf.lt b2 u hm
        exact ⟨by rw [if_neg aE]; exact hm, fun _ => hold b2 this⟩⟩
    have wf' : Wf w' (fun b2 => if b2 = w.heap.size then some J else M b2) := by
      refine ⟨fun b2 u hm => ?_, fun b2 b3 u ht1 hm hm' => ?_⟩
      · split at hm
        · omega
        · have := wf.lt b2 u hm; omega
      · split at hm
        · injection hm with hm; omega
        · split at hm'
          · injection hm' with hm'; omega
          · exact wf.inj b2 b3 u ht1 hm hm'
    have hblt := wf.lt b tg hb
    refine ⟨.slice (some ⟨w.heap.size, 0, none⟩) (xs.length + ys.length) (grownCap w (xs.length + ys.length) cap el), w', by simp [execOp, resolve, invoke, builtin, hrun], _, wf', le, ⟨.inr ⟨w.heap.size, 0, grownCap w (xs.length + ys.length) cap el, cu, by rw [List.length_append], by simp, hnew, by rw [List.length_append]; exact hge, hcm, by rw [hcs, hesz]; omega, ?_⟩, fun g e0 he => ?_⟩, fun y hy => ?_⟩
    · rw [htk, List.flatMap_append]
      exact lZ (b7 le0 lV jm hdo) (b7 le0 lV jm hn2)
    · simp only [kG, Option.some.injEq, Prod.mk.injEq] at he
      obtain ⟨rfl, _⟩ := he
      refine ⟨b, es, clock, (if_neg aE).trans hb, (hold b hblt).trans hhb, fun j u e1 hj hju => ?_⟩
      have := wf.lt _ _ (Dp hvals hj hju)
      omega
    · rw [List.mem_singleton.1 hy]
      refine ⟨hn, b, es, clock, (if_neg aE).trans hb, (hold b hblt).trans hhb, hkeys, ?_, hap⟩
      exact b7 le0 (fun _ _ h => by cases h) (fun _ _ h => by cases h) hvals
  rcases hrow with ⟨hxe, ex⟩ | ⟨g, off, cap, cur, ex, hg, hh, hxc, hcm, hfit, hdx⟩
  · have hrn := run_append_nil (P := P) w st t el i zz hD hi hiz ⟨b', off', none⟩ ys.length c' news hnl hnews hpos aE PJ
    subst hxe
    refine grown [] 0 trivial (by simpa using hpos) ?_
    rw [ex, ey]
    simpa using hrn
  · by_cases hroom : xs.length + ys.length ≤ cap
    · -- in place
      have hm : (xs.length + ys.length) * E.size ≤ cap * E.size := Nat.mul_le_mul_right _ hroom
      rw [Nat.add_mul] at hm
      have hcf : off + xs.length * i.size + news.length ≤ cur.size := by rw [hnl, ← hesz]; omega
      have hf := run_firstCells_some (P := P) w i.size ys.length ⟨b', off', none⟩ ys.length c' news hnl hnews
      have hst := run_storeCells_at (P := P) g (off + xs.length * i.size) el news 0 cur w hh yP hones
      rw [j7 _ hh] at hst
      simp only [Nat.add_zero] at hst
      obtain ⟨h1', h2', h3'⟩ := iW (cs' := (cur.toList.take (off + xs.length * i.size) ++ news ++ cur.toList.drop (off + xs.length * i.size + news.length)).toArray) (Tb := el) wf hg _ rfl
      have hrun : (Builtin.append_ #[st, st] t #[a.eval x, a.eval y]).run P w = .ok (.slice (some ⟨g, off, none⟩) (xs.length + ys.length) cap) { w with heap := w.heap.setIfInBounds g (.cells (cur.toList.take (off + xs.length * i.size) ++ news ++ cur.toList.drop (off + xs.length * i.size + news.length)).toArray el (0, 0)) } := by
        rw [ex, ey]
        simp [Builtin.append_, run_underlying hD, sizeOf, typeInfo, hi, Builtin.lenOf, hroom, hf, Addr.add_lit, hst]
      have le : Le (· ∈ [tg, J]) (· ∈ ([] : List Nat)) w M { w with heap := w.heap.setIfInBounds g (.cells (cur.toList.take (off + xs.length * i.size) ++ news ++ cur.toList.drop (off + xs.length * i.size + news.length)).toArray el (0, 0)) } M :=
        h2'.weaken (fun u hu => by simp only [List.mem_singleton] at hu; subst hu; simp) (fun _ h => by cases h)
      have hgb : g ≠ b := fun e => by rw [e, hhb] at hh; cases hh
      have hroomy : roomy (a.eval x) = true := by rw [ex]; simp [roomy]; omega
      have hb' : ({ w with heap := w.heap.setIfInBounds g (.cells (cur.toList.take (off + xs.length * i.size) ++ news ++ cur.toList.drop (off + xs.length * i.size + news.length)).toArray el (0, 0)) } : World).heap[b]? = some (.map es clock) := by
        show (w.heap.setIfInBounds g _)[b]? = _
        rw [Array.getElem?_setIfInBounds_ne hgb]; exact hhb
      refine ⟨.slice (some ⟨g, off, none⟩) (xs.length + ys.length) cap, _, by simp [execOp, resolve, invoke, builtin, hrun], M, h1', le, ⟨.inr ⟨g, off, cap, _, by rw [List.length_append], hg, h3', by rw [List.length_append]; exact hroom, hcm, ?_, ?_⟩, fun g' e0 he => ?_⟩, fun y hy => ?_⟩
      · simp only [List.size_toArray, List.length_append, List.length_take, List.length_drop, Array.length_toList]
        omega
      · rw [List.length_append, Nat.add_mul, hesz, ← hnl, List.toList_toArray, EM _ _ _ _ yP, List.flatMap_append]
        refine b7 h2' OZ Ou (lZ ?_ hn2)
        rw [← hesz]; exact hdx
      · simp only [kG, Option.some.injEq, Prod.mk.injEq] at he
        obtain ⟨rfl, rfl⟩ := he
        refine ⟨b, es, clock, hb, hb', fun j u e1 hj hju => ?_⟩
        have := ownb g (off + xs.length * E.size) r6 j u e1 hj hju
        refine ⟨this.1, fun _ => ?_⟩
        have := this.2 hroomy
        rw [Nat.add_mul]; omega
      · rw [List.mem_singleton.1 hy]
        refine ⟨hn, b, es, clock, hb, hb', hkeys, ?_, hap⟩
        refine iH (by rw [cO hvals]) fun j ty hj => ?_
        obtain ⟨u, hu, hdu⟩ := dr hvals j ty hj
        refine ⟨u, hu, ?_⟩
        rw [List.getElem?_map] at hj
        obtain ⟨qe, _, rfl⟩ := Option.map_eq_some_iff.1 hj
        rcases hdu with h | ⟨g2, off2, c2, cur2, e2, hg2, hh2, k1, k2, k3, k4⟩
        · exact .inl h
        · by_cases hgg : g = g2
          · subst hgg
            rw [hh] at hh2
            injection hh2 with hh2
            injection hh2 with ha _
            subst ha
            have hend := (ownb g (off + xs.length * E.size) r6 j u _ hu (by rw [e2]; rfl)).2 hroomy
            refine .inr ⟨g, off2, c2, _, e2, hg, h3', k1, k2, ?_, ?_⟩
            · simp only [List.size_toArray, List.length_append, List.length_take, List.length_drop, Array.length_toList]
              omega
            · rw [List.toList_toArray, L5 _ _ _ _ 0 _ (by rw [← hesz]; exact hend) yP]
              exact b7 h2' lV jm k4
          · refine .inr ⟨g2, off2, c2, cur2, e2, hg2, ?_, k1, k2, k3, b7 h2' lV jm k4⟩
            show (w.heap.setIfInBounds g _)[g2]? = _
            rw [Array.getElem?_setIfInBounds_ne hgg]; exact hh2
    · have holds : ∀ j u, ((cur.toList.drop off).take (xs.length * E.size))[j]? = some u → w.cell? ((⟨g, off, none⟩ : Addr).add j) = some u := fun j u hj => by
        rw [List.getElem?_take] at hj
        split at hj
        · rw [List.getElem?_drop] at hj
          rw [Addr.add_lit]
          simpa [World.cell?, hh] using hj
        · cases hj
      have hol : ((cur.toList.drop off).take (xs.length * E.size)).length = xs.length * i.size := by rw [cO hdx, cz, hesz]
      have hrn := run_append_grow (P := P) w st t el i zz hD hi hiz ⟨g, off, none⟩ xs.length cap _ hol holds ⟨b', off', none⟩ ys.length c' news hnl hnews aE aE (growslice_fits aE vp)
      refine grown _ cap hdx aE ?_
      rw [ex, ey]
      exact hrn
omit T in
theorem Ie {x y z : Operand} {kty : Ty} {tz : Nat} (KK : uJ P kt κ) (hx : A.op fr x = .mp tg) (hc : A.tag tg = some (.mr KK.enc E Tb J q)) (h1 : fR tg) (hy : A.op fr y = kty) (hk : qt kty (KK.enc k)) (hz : A.op fr z = .row E Tb tz xs) (hm : mapOf P mt = some (kt, et)) (hJ : 4096 ≤ J) (h2 : fR tz) (hne : Nat.beq tz tg = false) (hp : fr.pass.contains tz = false)
 (h : ay P fr ops rest (A.after { d := none, S := [tg], K := [tz], sets := [(tg, .mr KK.enc E Tb J (dQ q k xs))], rs := cA x ++ (cA y ++ cA z), rt := [tg] }) fun A' l' => K A' ((A, { d := none, S := [tg], K := [tz], sets := [(tg, .mr KK.enc E Tb J (dQ q k xs))], rs := cA x ++ (cA y ++ cA z), rt := [tg] }) :: l')) :
 ay P fr ops (⟨none, .mapUpdate mt x y z, t, p, e, none⟩ :: rest) A K := by
 have hne' : tz ≠ tg := fun h => by subst h; simp at hne
 refine ⟨_, lT rfl rfl rfl bB lC (by simp at hp ⊢; exact ⟨h2.1, hp⟩) fun a w M wf hrd htg => ?_, h⟩
 obtain ⟨hn, b, es, clock, e1, e2, h3, h4, h5, h6⟩ := Hu hx hc h1 wf (fun c hc => List.mem_append_left _ hc) hrd htg
 have hyd := cN (fun c hc => List.mem_append_right (cA x) (List.mem_append_left (cA z) hc)) hrd
 have hzd := cN (fun c hc => List.mem_append_right (cA x) (List.mem_append_right (cA y) hc)) hrd
 rw [hy] at hyd
 rw [hz] at hzd
 obtain ⟨cs, hown, hcs, hM⟩ := hzd
 have hu := kF hm
 have hblt : b < w.heap.size := wf.lt b _ e2
 have hrow : LR E Tb J xs w (kW M tz J) (a.eval z) := by
  rcases hown.2 with ⟨ez, h0⟩ | ⟨g, cap, cur, ez, _, hh, hnc, hcap, hsz, htk⟩
  ·exact .inl ⟨List.length_eq_zero_iff.1 h0, ez⟩
  have hg : M g = some tz := hM g (by rw [ez]; rfl)
  refine .inr ⟨g, 0, cap, cur, ez, by simp [kW, hg], hh, hnc, hcap, by omega, ?_⟩
  rw [List.drop_zero, htk]
  exact b7 (rQ (w := w)) lV jm hcs
 have hvals : cS w (kW M tz J) (q.map fun x => Ty.gG E Tb J x.2) (es.toList.map (·.val)) :=
  b7 (rQ (w := w) (tg := tz) (J := J)) (fun u hu => by rw [mZ.1 u hu]; simp; omega) (fun _ _ h => by cases h) h5
 have apart0 : ∀ (g e0 : Nat), kG E.size (a.eval z) = some (g, e0) → ∀ (j : Nat) (u : Value) (e' : Nat), (es.toList.map (·.val))[j]? = some u → kG E.size u = some (g, e') → False := fun g e0 he j u e' hj hju => by
  have k1 := Dp h5 hj hju
  rcases hown.2 with ⟨ez, _⟩ | ⟨g', cap, cur, ez, _⟩
  ·rw [ez] at he; simp [kG] at he
  have hg : M g' = some tz := hM g' (by rw [ez]; rfl)
  rw [ez] at he
  simp only [kG, Option.some.injEq, Prod.mk.injEq] at he
  obtain ⟨rfl, _⟩ := he
  rw [hg] at k1
  injection k1 with k1
  omega
 have fin : ∀ (es' : Array MapEntry) (clock' : Nat), es'.toList.map (·.key) = (dQ q k xs).map (fun x => KK.enc x.1) → cS w (kW M tz J) ((dQ q k xs).map fun x => Ty.gG E Tb J x.2) (es'.toList.map (·.val)) → zL E.size (es'.toList.map (·.val)) →
  (Instr.mapUpdate mt (.map (some b)) (KK.enc k) (a.eval z)).run P w = .ok () { w with heap := w.heap.setIfInBounds b (.map es' clock') } →
  ∃ w', (execOp a.eval ⟨none, .mapUpdate mt x y z, t, p, e, none⟩).run P w = .ok .skip w' ∧ Fx.left { d := none, S := [tg], K := [tz], sets := [(tg, .mr KK.enc E Tb J (dQ q k xs))], rs := cA x ++ (cA y ++ cA z), rt := [tg] } w M w' undef := by
  intro es' clock' hk' hd' hap hrun
  have hr : (execOp a.eval ⟨none, .mapUpdate mt x y z, t, p, e, none⟩).run P w = .ok .skip { w with heap := w.heap.setIfInBounds b (.map es' clock') } := by
   simp only [execOp, e1, hk _ _ _ hyd]
   simp [hrun]
  have wf2 := C7 (tg := tz) hJ wf
  have e2' : kW M tz J b = some tg := by simp [kW, e2, hne'.symm]
  have le2 : Le (· ∈ [tg]) (· ∈ ([] : List Nat)) w (kW M tz J) { w with heap := w.heap.setIfInBounds b (.map es' clock') } (kW M tz J) := by
   refine ⟨by simp, rfl, rfl, rfl, fun b2 hlt hm2 => ⟨hm2, ?_⟩, fun b2 u hm2 _ => ⟨hm2, fun hs => ?_⟩⟩
   ·have : b ≠ b2 := fun h => by subst h; rw [e2'] at hm2; cases hm2
    simp [Array.getElem?_setIfInBounds, this]
   have : b ≠ b2 := fun h => by subst h; rw [e2'] at hm2; injection hm2 with hm2; exact hs zx
   simp [Array.getElem?_setIfInBounds, this]
  have le : Le (· ∈ [tg]) (· ∈ [tz]) w M { w with heap := w.heap.setIfInBounds b (.map es' clock') } (kW M tz J) :=
   ((rQ (w := w) (M := M) (tg := tz) (J := J)).trans le2).weaken (fun u hu => by rcases hu with h | h; cases h; exact h) (fun u hu => by rcases hu with h | h; exact h; cases h)
  refine ⟨_, hr, _, ⟨fun b2 u h => by simpa using wf2.lt b2 u h, wf2.inj⟩, le, trivial, fun x hx => ?_⟩
  rw [List.mem_singleton.1 hx]
  refine ⟨A6 q k xs hn, b, es', clock', e2', by simp [hblt], hk', ?_, hap⟩
  exact b7 le2 (fun _ _ => by simp) (fun u hu => by rw [mZ.2 u hu]; simp; omega) hd'
 rcases nO KK h4 h5 k with ⟨i, v0, en, hi, hg, hen, hkey, hd, hf⟩ | ⟨hi, hg, hf⟩
 ·obtain ⟨v1, hv1, _, hput⟩ := nQ q k i hi
  have hes : (es.modify i fun e => { e with key := KK.enc k, val := a.eval z }).toList = es.toList.set i { en with key := KK.enc k, val := a.eval z } := by
   rw [Array.toList_modify, List.modify_eq_set, Array.getElem?_toList, hen]; rfl
  refine fin (es.modify i fun e => { e with key := KK.enc k, val := a.eval z }) clock ?_ ?_ ?_ ?_
  ·rw [hput, List.map_set, hes, List.map_set, h4]
  ·rw [hput, List.map_set, hes, List.map_set]
   exact nw hvals hrow
  ·rw [hes, List.map_set]
   intro i1 j1 v u g e' e'' hi1 hj1 hv hu
   rw [List.getElem?_set] at hi1 hj1
   by_cases c1 : i = i1 <;> by_cases c2 : i = j1
   ·omega
   ·rw [if_pos c1] at hi1; rw [if_neg c2] at hj1
    split at hi1
    ·injection hi1 with hi1
     have hi1 : a.eval z = v := hi1
     subst hi1
     exact (apart0 g e' hv j1 u e'' hj1 hu).elim
    cases hi1
   ·rw [if_neg c1] at hi1; rw [if_pos c2] at hj1
    split at hj1
    ·injection hj1 with hj1
     have hj1 : a.eval z = u := hj1
     subst hj1
     exact (apart0 g e'' hu i1 v e' hi1 hv).elim
    cases hj1
   rw [if_neg c1] at hi1; rw [if_neg c2] at hj1
   exact h6 i1 j1 v u g e' e'' hi1 hj1 hv hu
  simp [Instr.mapUpdate, underlying, hu, getObj, setObj, Sem.run, h3, KK.check, hf, hen, hkey, Instr.keyThatStays, KK.same]
 obtain ⟨_, hput⟩ := m8 q k hi
 refine fin (es.push { key := KK.enc k, val := a.eval z, born := clock }) (clock + 1) ?_ ?_ ?_ ?_
 ·rw [hput]; simp [h4]
 ·rw [hput]; simp only [Array.toList_push, List.map_append, List.map_cons, List.map_nil]
  exact eY hvals ⟨hrow, trivial⟩
 ·simp only [Array.toList_push, List.map_append, List.map_cons, List.map_nil]
  intro i1 j1 v u g e' e'' hi1 hj1 hv hu
  rw [List.getElem?_append] at hi1 hj1
  split at hi1 <;> split at hj1
  ·exact h6 i1 j1 v u g e' e'' hi1 hj1 hv hu
  ·rw [List.getElem?_singleton] at hj1
   split at hj1
   ·injection hj1 with hj1
    subst hj1
    exact (apart0 g e'' hu i1 v e' hi1 hv).elim
   cases hj1
  ·rw [List.getElem?_singleton] at hi1
   split at hi1
   ·injection hi1 with hi1
    subst hi1
    exact (apart0 g e' hv j1 u e'' hj1 hu).elim
   cases hi1
  rw [List.getElem?_singleton] at hi1 hj1
  split at hi1 <;> split at hj1 <;> first | omega | (exfalso; simp at hj1; done) | (exfalso; simp at hi1; done)
 simp [Instr.mapUpdate, underlying, hu, getObj, setObj, Sem.run, h3, KK.check, hf]
theorem iP {β γ : Type} (f : β → γ) : ∀ (l : List β) (i : Nat), (l.eraseIdx i).map f = (l.map f).eraseIdx i
  | [], _ => rfl
  | _ :: _, 0 => rfl
  | x :: l, i + 1 => by simp [iP f l i]
theorem s8 {w : World} {M : bI} : ∀ {l : List Ty} {vs : List Value} (i : Nat), cS w M l vs → cS w M (l.eraseIdx i) (vs.eraseIdx i)
  | [], [], _, _ => trivial
  | _ :: _, _ :: _, 0, ⟨_, h⟩ => h
  | _ :: _, _ :: _, i + 1, ⟨h, h'⟩ => ⟨h, s8 i h'⟩
theorem ym {vs : List Value} {size : Nat} (h : zL size vs) (i : Nat) : zL size (vs.eraseIdx i) := by
 intro i1 j1 v u g e' e'' hi1 hj1 hv hu
 rw [List.getElem?_eraseIdx] at hi1 hj1
 split at hi1 <;> split at hj1
 ·exact h _ _ v u g e' e'' hi1 hj1 hv hu
 ·have := h _ _ v u g e' e'' hi1 hj1 hv hu; omega
 ·have := h _ _ v u g e' e'' hi1 hj1 hv hu; omega
 have := h _ _ v u g e' e'' hi1 hj1 hv hu; omega
omit T in
theorem JQ {x y : Operand} {kty : Ty} {kt' : TypeId} (KK : uJ P kt κ) (hx : A.op fr x = .mp tg) (hc : A.tag tg = some (.mr KK.enc E Tb J q)) (h1 : fR tg) (hy : A.op fr y = kty) (hk : qt kty (KK.enc k)) (hm : mapOf P mt = some (kt, et)) (hJ : Nat.beq J tg = false)
 (h : ay P fr ops rest (A.after { d := none, S := [tg], sets := [(tg, .mr KK.enc E Tb J (mF q k))], rs := cA x ++ cA y, rt := [tg] }) fun A' l' => K A' ((A, { d := none, S := [tg], sets := [(tg, .mr KK.enc E Tb J (mF q k))], rs := cA x ++ cA y, rt := [tg] }) :: l')) :
 ay P fr ops (⟨none, .call ⟨.builtin .delete, #[x, y], #[mt, kt']⟩, t, p, e, none⟩ :: rest) A K := by
 have hJ' : J ≠ tg := fun h => by subst h; simp at hJ
 refine ⟨_, fk rfl rfl bB lC bB fun a w M wf hrd htg => ?_, h⟩
 obtain ⟨hn, b, es, clock, e1, e2, h3, h4, h5, h6⟩ := Hu hx hc h1 wf (fun c hc => List.mem_append_left _ hc) hrd htg
 have hyd := cN (fun c hc => List.mem_append_right (cA x) hc) hrd
 rw [hy] at hyd
 have ey := hk _ _ _ hyd
 have hu := kF hm
 have hblt : b < w.heap.size := wf.lt b _ e2
 have fin : ∀ (es' : Array MapEntry), es'.toList.map (·.key) = (mF q k).map (fun x => KK.enc x.1) → cS w M ((mF q k).map fun x => Ty.gG E Tb J x.2) (es'.toList.map (·.val)) → zL E.size (es'.toList.map (·.val)) → ((mF q k).map Prod.fst).Nodup →
  (Builtin.delete_ #[mt, kt'] t #[a.eval x, a.eval y]).run P w = .ok (.tuple #[]) { w with heap := w.heap.setIfInBounds b (.map es' clock) } →
  ∃ v w', (execOp a.eval ⟨none, .call ⟨.builtin .delete, #[x, y], #[mt, kt']⟩, t, p, e, none⟩).run P w = .ok (.value v) w' ∧ Fx.left { d := none, S := [tg], sets := [(tg, .mr KK.enc E Tb J (mF q k))], rs := cA x ++ cA y, rt := [tg] } w M w' v := by
  intro es' hk' hd' hap hnd hrun
  have le : Le (· ∈ [tg]) (· ∈ ([] : List Nat)) w M { w with heap := w.heap.setIfInBounds b (.map es' clock) } M := by
   refine ⟨by simp, rfl, rfl, rfl, fun b2 hlt hm2 => ⟨hm2, ?_⟩, fun b2 u hm2 _ => ⟨hm2, fun hs => ?_⟩⟩
   ·have : b ≠ b2 := fun h => by subst h; rw [e2] at hm2; cases hm2
    simp [Array.getElem?_setIfInBounds, this]
   have : b ≠ b2 := fun h => by subst h; rw [e2] at hm2; injection hm2 with hm2; exact hs zx
   simp [Array.getElem?_setIfInBounds, this]
  refine ⟨.tuple #[], _, by simp [execOp, resolve, invoke, builtin, hrun], M, ⟨fun b2 u h => by simpa using wf.lt b2 u h, wf.inj⟩, le, trivial, fun x hx => ?_⟩
  rw [List.mem_singleton.1 hx]
  refine ⟨hnd, b, es', clock, e2, by simp [hblt], hk', ?_, hap⟩
  exact b7 le (fun _ _ => by simp) (fun u hu => by rw [mZ.2 u hu]; simpa using hJ') hd'
 rcases nO KK h4 h5 k with ⟨i, v0, en, hi, hg, hen, hkey, hd, hf⟩ | ⟨hi, hg, hf⟩
 ·have hdel : mF q k = q.eraseIdx i := by unfold mF; rw [hi]; rfl
  have hes : (es.eraseIdxIfInBounds i).toList = es.toList.eraseIdx i := by
   have hil : i < es.size := (Array.getElem?_eq_some_iff.1 hen).1
   rw [Array.eraseIdxIfInBounds, dif_pos hil, Array.toList_eraseIdx]
  refine fin (es.eraseIdxIfInBounds i) ?_ ?_ ?_ ?_ ?_
  ·rw [hes, hdel, iP, h4, iP]
  ·rw [hes, hdel, iP, iP]; exact s8 i h5
  ·rw [hes, iP]; exact ym h6 i
  ·rw [hdel, iP]; exact (List.eraseIdx_sublist _ i).nodup hn
  rw [e1, ey]
  simp [Builtin.delete_, underlying, hu, getObj, setObj, Sem.run, h3, KK.check, hf]
 have hdel : mF q k = q := by unfold mF; rw [hi]; exact List.eraseIdx_of_length_le (Nat.le_refl _)
 refine fin es ?_ ?_ h6 ?_ ?_
 ·rw [hdel]; exact h4
 ·rw [hdel]; exact h5
 ·rw [hdel]; exact hn
 rw [e1, ey]
 simp [Builtin.delete_, underlying, hu, getObj, setObj, Sem.run, h3, KK.check, hf]
end
end Go.T
namespace Go.T
open Go Go.RowKit
theorem xC {P : Program} {kt : TypeId} {κ : Type} [DecidableEq κ] {enc : κ → Value} (heq : ∀ (x y : κ) (w : World), (Op.equal kt (enc x) (enc y)).run P w = .ok (decide (x = y)) w) (k : κ) : ∀ (ks : List κ) (es : List MapEntry) (i : Nat) (w : World), es.map (·.key) = ks.map enc →
    (Instr.findAsking kt (enc k) es i).run P w = .ok ((ks.findIdx? (fun x => decide (x = k))).bind fun j => (es[j]?).map fun e => (i + j, e.val)) w
  | [], [], i, w, _ => rfl
  | [], e :: es, i, w, h => by cases h
  | x :: ks, [], i, w, h => by cases h
  | x :: ks, e :: es, i, w, h => by
    simp only [List.map_cons, List.cons.injEq] at h
    obtain ⟨h1, h2⟩ := h
    rw [Instr.findAsking, h1]
    simp only [Sem.run_bind, heq, Result.andThen_ok]
    by_cases hx : x = k
    · subst hx; simp [List.findIdx?_cons]
    · have hk : ¬ k = x := fun e => hx e.symm
      rw [decide_eq_false hk]
      simp only [Bool.false_eq_true, if_false]
      rw [xC heq k ks es (i + 1) w h2]
      simp only [List.findIdx?_cons, decide_eq_false hx, Bool.false_eq_true, if_false]
      cases (ks.findIdx? fun x => decide (x = k)) with
      | none => rfl
      | some j => simp [Nat.add_assoc, Nat.add_comm]; rw [show j + (i + 1) = i + (j + 1) from by omega]
abbrev JE (n : Nat) : Type := {l : List Int // l.length = n}
def fI (n : Nat) (l : JE n) : Value := .agg (l.1.map (Value.int .i64)).toArray
theorem AB {D : TypeDesc} {k : Value} (h : ∀ v, Instr.sameNow D k v = none) : ∀ (es : List MapEntry) (i : Nat), es ≠ [] → Instr.findNow D k es i = none
  | [], _, h0 => absurd rfl h0
  | e :: es, i, _ => by rw [Instr.findNow, h]
theorem De : ∀ (l : List Int), ((l.map (Value.int .i64)).zip (l.map (Value.int .i64))).all (fun x => Instr.sameBits 9999 x.1 x.2) = true
  | [] => rfl
  | a :: l => by simp [Instr.sameBits, De l]
def P5 (P : Program) (kt n et : Nat) (hu : P.underlying kt = some (.array n et)) (heq : ∀ (x y : JE n) (w : World), (Op.equal kt (fI n x) (fI n y)).run P w = .ok (decide (x = y)) w)
    (hcheck : ∀ (b : Bool) (x : JE n) (w : World), (Instr.checkKey b 10000 kt (fI n x)).run P w = .ok () w) : uJ P kt (JE n) where
  enc := fI n
  find k ks es w he := by
    have h1 := xC heq k ks es 0 w he
    cases es with
    | nil =>
      cases ks with
      | nil => simp [Instr.findKey, underlying, hu, Instr.findNow]
      | cons x l => cases he
    | cons e es =>
      have h2 : Instr.findNow (.array n et) (fI n k) (e :: es) 0 = none := AB (fun v => rfl) _ _ bB
      simp only [Instr.findKey, Sem.run_bind, run_underlying hu, Result.andThen_ok, h2]
      simpa using h1
  check b k w := hcheck b k w
  same k := by
    show Instr.sameBits 10000 (.agg _) (.agg _) = true
    rw [show (10000 : Nat) = 9999 + 1 from rfl, Instr.sameBits]
    simp only [beq_self_eq_true, Bool.true_and, List.toList_toArray]
    exact De k.1
theorem AW {w : World} {M : bI} : ∀ (l : List Int) (vs : List Value), cS w M (l.flatMap cL.tys) vs → vs = l.map (Value.int .i64)
  | [], [], _ => rfl
  | a :: l, v :: vs, ⟨h, h'⟩ => by
    have e : v = .int .i64 a := h
    rw [e, List.map_cons, AW l vs h']
theorem Nh {n : Nat} (l : JE n) : qt (.agg (l.1.flatMap cL.tys)) (fI n l) := fun w M x ⟨cs, e, hd⟩ => by
 rw [e]
 have := AW l.1 cs.toList hd
 unfold fI
 rw [← this]
end Go.T
namespace Go.T
open Go Go.RowKit Go.Lib
def R1 (T size tg n : Nat) (w : World) (M : bI) (v : Value) : Prop :=
  ∃ (b c : Nat) (cur : Array Value), v = .slice (some ⟨b, 0, none⟩) n c ∧ n ≤ c ∧ c ≤ maxLen ∧ M b = some tg ∧ w.heap[b]? = some (.cells cur T (0, 0)) ∧ cur.size = c * size
def Ty.rm (T size tg n : Nat) : Ty :=
  ⟨R1 T size tg n, [tg], [tg], fun le hk hs ⟨b, c, cur, h1, h2, h3, h4, h5, h6⟩ =>
    have h := le.own b tg h4 (hk tg bB)
    ⟨b, c, cur, h1, h2, h3, h.1, (h.2 (hs tg bB)).trans h5, h6⟩, true, fun _ ⟨_, _, _, h1, _⟩ => by subst h1; rfl⟩
section
variable {P : Program} {fr : Fr} {ops : Array Oper} {A : As} {rest : List Oper} {K : As → List (As × Fx) → Prop} {d : Nat} {t ty' ty2 : TypeId} {p : String} {e : Array Edge} [T : lq P]
theorem BR {x y : Operand} {k : IntKind} {n : Int} {st it el : Nat} {ti te tn : TI} {kn : IntKind} (hx : A.op fr x = .ex (.slice none 0 0)) (hy : A.op fr y = .int k n) (hT : T.dz[st]? = some ti) (hk : ti.k = .slice el) (hI : T.dz[it]? = some tn) (hkn : tn.k = .int kn) (hE : T.dz[el]? = some te) (hz : te.zero.length = te.size) (hzp : 0 < te.size) (hp : fr.pass.contains (d + 1) = false)
    (hn : 0 < n) (hlen : n.toNat * te.bytes ≤ 140737488355328) (hlen' : n.toNat ≤ 4611686018427387904)
    (h : ay P fr ops rest (A.after { d := some d, ty := .rm el te.size (d + 1) n.toNat, K := [d + 1], rs := cA x ++ cA y }) fun A' l' => K A' ((A, { d := some d, ty := .rm el te.size (d + 1) n.toNat, K := [d + 1], rs := cA x ++ cA y }) :: l')) :
    ay P fr ops (⟨some d, .call ⟨.builtin .append, #[x, y], #[st, it]⟩, t, p, e, none⟩ :: rest) A K := by
  refine ⟨_, fk rfl rfl bB bB tE fun a w M wf hr _ => ?_, h⟩
  obtain ⟨hdx, hdy⟩ := op2 hr
  rw [hx] at hdx; rw [hy] at hdy
  have ex : a.eval x = .slice none 0 0 := hdx
  have ey : a.eval y = .int k n := hdy
  obtain ⟨_, D, _, hD, hkd, _⟩ := cP hT
  rw [hk] at hkd
  cases D <;> simp only [TK.of, reduceCtorEq, TK.slice.injEq] at hkd
  rename_i el0
  have hel : el0 = el := hkd
  subst hel
  obtain ⟨_, D', _, hD', hkd', _⟩ := cP hI
  rw [hkn] at hkd'
  cases D' <;> simp only [TK.of, reduceCtorEq, TK.int.injEq] at hkd'
  subst hkd'
  rename_i kk
  obtain ⟨i, _, hi, _, _, hsz, hby, hze⟩ := cP hE
  obtain ⟨z, hiz⟩ : ∃ z, i.zero = some z := by
    cases hiz : i.zero with
    | none => rw [hiz] at hze; rw [← hze] at hz; simp at hz; omega
    | some z => exact ⟨z, rfl⟩
  rw [hiz] at hze
  have hzs : z.cells.size = i.size := by rw [hsz, ← hz, ← hze]; simp
  have hnn : ((n.toNat : Nat) : Int) = n := by omega
  have hfit := growslice_fits (need := n.toNat) (old := 0) (bytes := i.bytes) aE vp
  have hrun := run_append_grow_zeros (P := P) w st it t _ i z k kk hD hD' hi hiz none 0 0 [] (run_firstCells_none w.drew i.size 0 0 0) n.toNat aE aE aE aE (by rw [hby]; omega) (by simpa using hfit)
  rw [hnn] at hrun
  simp only [Nat.zero_add] at hrun
  have hge := grownCap_ge w n.toNat 0 el0
  have hle := grownCap_le_maxLen w n.toNat 0 el0 Bv
  generalize grownCap w n.toNat 0 el0 = C at *
  have wf' : Wf w.drew M := ⟨wf.lt, wf.inj⟩
  have hcs : (([] : List Value).toArray ++ Builtin.zeroCells z.cells n.toNat ++ Builtin.zeroCells z.cells (C - n.toNat)).size = C * te.size := by
    simp only [Array.size_append, Builtin.zeroCells, Array.size_map, Array.size_range, hzs, hsz, List.size_toArray, List.length_nil, Nat.zero_add]
    rw [← Nat.add_mul]; congr 1; omega
  generalize ([] : List Value).toArray ++ Builtin.zeroCells z.cells n.toNat ++ Builtin.zeroCells z.cells (C - n.toNat) = cur at *
  obtain ⟨h1, h2, h3⟩ := kP wf' (.cells cur el0) (d + 1)
  refine ⟨_, _, by simp [execOp, resolve, invoke, builtin, ex, ey, hrun], oY M (d + 1) (some w.heap.size), h1, ⟨h2.size, h2.os, h2.tape, h2.out, h2.o8, h2.own⟩, ⟨w.heap.size, C, cur, rfl, hge, hle, h3, iA w.drew _, hcs⟩, by simp⟩
theorem A8 {α : Type} (E : El α) {x y : Operand} {k : IntKind} {el tg n : Nat} {ti te : TI} (hx : A.op fr x = .rm el te.size tg n) (hy : A.op fr y = .int k 0) (h1 : 1 ≤ tg) (hp : fr.pass.contains tg = false) (hT : T.dz[ty']? = some ti) (hk : ti.k = .slice el) (hE : T.dz[el]? = some te) (hs : te.size = E.size)
 (h : ay P fr ops rest (A.after { d := some d, ty := .row E el tg [], K := [tg], rs := cA x ++ cA y }) fun A' l' => K A' ((A, { d := some d, ty := .row E el tg [], K := [tg], rs := cA x ++ cA y }) :: l')) :
 ay P fr ops (⟨some d, .slice ty' x none (some y) none, t, p, e, none⟩ :: rest) A K := by
 refine ⟨_, fk rfl rfl bB bB (by simp at hp ⊢; exact ⟨h1, hp⟩) fun a w M wf hr _ => ?_, h⟩
 obtain ⟨hdx, hdy⟩ := op2 hr
 rw [hx] at hdx; rw [hy] at hdy
 obtain ⟨b, c, cur, ex, g1, g2, g3, g4, g5⟩ := hdx
 have ey : a.eval y = .int k 0 := hdy
 obtain ⟨_, D, _, hD, hkd, _⟩ := cP hT
 rw [hk] at hkd
 cases D <;> simp only [TK.of, reduceCtorEq, TK.slice.injEq] at hkd
 rename_i el0
 have hel : el0 = el := hkd
 subst hel
 obtain ⟨i, _, hi, _, _, hsz, hby, hze⟩ := cP hE
 refine ⟨.slice (some ⟨b, 0, none⟩) 0 c, w, ?_, M, wf, Le.refl _ _ _ _, ⟨[], ⟨by simp, .inr ⟨b, c, cur, rfl, Nat.zero_le _, g4, Nat.zero_le _, g2, by rw [g5, hs], by simp⟩⟩, trivial, fun g hg => by simp [Value.ownBlock] at hg; rw [← hg]; exact g3⟩, by simp⟩
 have hsz2 := fun w => cq (P := P) hE w
 simp [execOp, ex, ey, Instr.sliceAt, Instr.slice, run_underlying hD, Instr.sliceBounds, Instr.sliceBound, asIntOf, hsz2]
 exact fun _ => rfl
theorem sU {x : Operand} {ti : TI} {el : Nat} (hx : A.op fr x = .ex (.slice none 0 0)) (hT : T.dz[ty']? = some ti) (hk : ti.k = .slice el)
 (h : ay P fr ops rest (A.set d (.int .i64 0)) fun A' l' => K A' ((A, { d := some d, ty := .int .i64 0, rs := cA x }) :: l')) :
 ay P fr ops (⟨some d, .call ⟨.builtin .cap, #[x], #[ty']⟩, t, p, e, none⟩ :: rest) A K :=
 bR (bl rfl rfl fun a w M _ hrd _ => by
  have hdx := cN (x := x) (fun _ h => h) hrd
  rw [hx] at hdx
  have ex : a.eval x = .slice none 0 0 := hdx
  obtain ⟨_, D, _, hD, hkd, _⟩ := cP hT
  rw [hk] at hkd
  cases D <;> simp only [TK.of, reduceCtorEq, TK.slice.injEq] at hkd
  exact ⟨.int .i64 0, by simp [execOp, resolve, invoke, builtin, ex, Builtin.cap_, run_underlying hD, goInt], rfl⟩) h
theorem Aw {x y : Operand} {k : IntKind} {ti te : TI} {el : Nat} (hx : A.op fr x = .ex (.slice none 0 0)) (hy : A.op fr y = .int k 0) (hT : T.dz[ty']? = some ti) (hk : ti.k = .slice el) (hE : T.dz[el]? = some te)
 (h : ay P fr ops rest (A.set d (.ex (.slice none 0 0))) fun A' l' => K A' ((A, { d := some d, ty := .ex (.slice none 0 0), rs := cA x ++ cA y }) :: l')) :
 ay P fr ops (⟨some d, .slice ty' x none (some y) none, t, p, e, none⟩ :: rest) A K :=
 bR (bl rfl rfl fun a w M _ hr _ => by
  obtain ⟨hdx, hdy⟩ := op2 hr
  rw [hx] at hdx; rw [hy] at hdy
  have ex : a.eval x = .slice none 0 0 := hdx
  have ey : a.eval y = .int k 0 := hdy
  obtain ⟨_, D, _, hD, hkd, _⟩ := cP hT
  rw [hk] at hkd
  cases D <;> simp only [TK.of, reduceCtorEq, TK.slice.injEq] at hkd
  subst hkd
  have hsz2 := fun w => cq (P := P) hE w
  exact ⟨.slice none 0 0, by simp [execOp, ex, ey, Instr.sliceAt, Instr.slice, run_underlying hD, Instr.sliceBounds, Instr.sliceBound, asIntOf, hsz2], rfl⟩) h
omit T in
theorem LY {x y : Operand} {k n : Nat} (hx : A.op fr x = .int .i64 ((k : Int) + 1)) (hy : A.op fr y = .int .i64 (n : Int)) (h0 : n ≠ 0)
 (h : ay P fr ops rest (A.set d (.int .i64 ((k + 1) % n : Nat))) fun A' l' => K A' ((A, { d := some d, ty := .int .i64 ((k + 1) % n : Nat), rs := cA x ++ cA y }) :: l')) : ay P fr ops (⟨some d, .binOp .rem ty' x y ty2, t, p, e, none⟩ :: rest) A K := by
 have e0 : ((k : Int) + 1).tmod (n : Int) = ((k + 1) % n : Nat) := by rw [Int.ofNat_tmod]; rfl
 exact kj hx hy aE (by rw [e0]; exact h)
end
end Go.T
