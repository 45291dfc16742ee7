/- Lemmas: the program and the reference walked, plain laws. -/
import Derived.Test.YtmmcenjknimhbaaGreatOa
namespace Go.T
open Go Go.RowKit
def bU {κ β : Type} [DecidableEq κ] : List (κ × β) → κ → Option β
  | [], _ => none
  | x :: l, k => if x.1 = k then some x.2 else bU l k
def cz {κ β : Type} [DecidableEq κ] : List (κ × β) → κ → β → List (κ × β)
  | [], k, v => [(k, v)]
  | x :: l, k, v => if x.1 = k then (k, v) :: l else x :: cz l k v
theorem q4 {κ β : Type} [DecidableEq κ] (l : List (κ × β)) (k : κ) (v : β) (k' : κ) : bU (cz l k v) k' = if k = k' then some v else bU l k' := by
  induction l with
  | nil => simp [cz, bU]
  | cons x l ih =>
    simp only [cz]
    by_cases h : x.1 = k
    · subst h; simp only [if_true, bU]; by_cases h2 : x.1 = k' <;> simp [h2]
    · rw [if_neg h]; simp only [bU, ih]
      by_cases h2 : x.1 = k'
      · subst h2; rw [if_pos rfl, if_pos rfl, if_neg (fun e => h e.symm)]
      · rw [if_neg h2, if_neg h2]
structure sF (P : Program) (kt : TypeId) (κ : Type) [DecidableEq κ] where
  enc : κ → Value
  find : ∀ (k : κ) (ks : List κ) (es : List MapEntry) (w : World), es.map (·.key) = ks.map enc →
    (Instr.findKey kt (enc k) es).run P w = .ok ((ks.findIdx? (fun x => decide (x = k))).bind fun i => (es[i]?).map fun e => (i, e.val)) w
  check : ∀ (b : Bool) (k : κ) (w : World), (Instr.checkKey b 10000 kt (enc k)).run P w = .ok () w
  same : ∀ k, Instr.sameBits 10000 (enc k) (enc k) = true
theorem wo (kt : IntKind) (k : Int) : ∀ (ks : List Int) (es : List MapEntry) (i : Nat), es.map (·.key) = ks.map (Value.int kt) →
    Instr.findNow (.int kt) (.int kt k) es i = some ((ks.findIdx? (fun x => decide (x = k))).bind fun j => (es[j]?).map fun e => (i + j, e.val))
  | [], [], i, _ => rfl
  | [], e :: es, i, h => by cases h
  | x :: ks, [], i, h => by cases h
  | x :: ks, e :: es, i, h => by
    simp only [List.map_cons, List.cons.injEq] at h
    obtain ⟨h1, h2⟩ := h
    rw [Instr.findNow, h1]
    simp only [Instr.sameNow, if_true]
    by_cases hx : x = k
    · subst hx; simp [List.findIdx?_cons]
    · have hb : (k == x) = false := by rw [beq_eq_false_iff_ne]; exact fun e => hx e.symm
      rw [hb, wo kt k ks es (i + 1) h2]
      simp only [List.findIdx?_cons, decide_eq_false hx, Bool.false_eq_true, if_false]
      cases (ks.findIdx? fun x => decide (x = k)) with
      | none => rfl
      | some j => simp [Nat.add_assoc, Nat.add_comm]; rw [show j + (i + 1) = i + (j + 1) from by omega]
theorem JG {P : Program} (kt : TypeId) (q : IntKind) (h : P.underlying kt = some (.int q)) (b : Bool) (k : Int) (n : Nat) (w : World) : (Instr.checkKey b (n + 1) kt (.int q k)).run P w = .ok () w := by simp [Instr.checkKey, underlying, h]
theorem Lm (q : IntKind) (k : Int) (n : Nat) : Instr.sameBits n (.int q k) (.int q k) = true := by cases n <;> simp [Instr.sameBits]
def PX (P : Program) (kt : TypeId) (q : IntKind) (h : P.underlying kt = some (.int q)) : sF P kt Int where
  enc := Value.int q
  find k ks es w he := by
    have := wo q k ks es 0 he
    simp [Instr.findKey, underlying, h, this]
  check b k w := JG kt q h b k 9999 w
  same k := Lm q k 10000
section
variable {κ β : Type} [DecidableEq κ]
def Aw (enc : κ → Value) (vt : β → Ty) (kvs : List (κ × β)) (w : World) (M : ah) (b : Nat) : Prop :=
  ∃ es clock, w.heap[b]? = some (.map es clock) ∧ es.toList.map (·.key) = kvs.map (fun x => enc x.1) ∧ bt w M (kvs.map fun x => vt x.2) (es.toList.map (·.val))
theorem tL {enc : κ → Value} {vt : β → Ty} (hv : ∀ v, (vt v).deps = [] ∧ (vt v).cdeps = []) {kvs : List (κ × β)} {S K : Nat → Prop} {w w' : World} {M M' : ah} {b : Nat} (le : Le S K w M w' M') (hb : w'.heap[b]? = w.heap[b]?) (h : Aw enc vt kvs w M b) : Aw enc vt kvs w' M' b := by
 have _ := (inferInstance : DecidableEq κ)
 obtain ⟨es, clock, h1, h2, h3⟩ := h
 refine ⟨es, clock, hb.trans h1, h2, bV le (fun u hu => ?_) (fun u hu => ?_) h3⟩
 ·simp only [bl, List.mem_flatMap, List.mem_map] at hu
  obtain ⟨t, ⟨x, _, rfl⟩, hu⟩ := hu
  rw [(hv x.2).1] at hu; cases hu
 simp only [bL, List.mem_flatMap, List.mem_map] at hu
 obtain ⟨t, ⟨x, _, rfl⟩, hu⟩ := hu
 rw [(hv x.2).2] at hu; cases hu
structure VT (β : Type) where
  ty : β → Ty
  nodeps : ∀ v, (ty v).deps = [] ∧ (ty v).cdeps = []
def n9 : VT Bool := ⟨fun b => Ty.bool b, fun _ => ⟨rfl, rfl⟩⟩
def iV (enc : κ → Value) (V : VT β) (kvs : List (κ × β)) (w : World) (M : ah) (t : Nat) : Prop := ∃ b, M b = some t ∧ Aw enc V.ty kvs w M b
def Cont.mp (enc : κ → Value) (V : VT β) (kvs : List (κ × β)) : Cont :=
  { den := iV enc V kvs
    mono := fun le _ _ hs hk ⟨b, h1, h2⟩ => let ⟨h3, h4⟩ := le.own b _ h1 hk; ⟨b, h3, tL V.nodeps le (h4 hs) h2⟩ }
theorem Cont.qB {enc : κ → Value} {V : VT β} {k1 k2 : List (κ × β)} (h : k1 = k2) : (Cont.mp enc V k1).Sub (Cont.mp enc V k2) := by subst h; exact Cont.aG _
def sB (tg : Nat) (_ : World) (M : ah) (v : Value) : Prop := ∃ b, v = .map (some b) ∧ M b = some tg
def Ty.mp (tg : Nat) : Ty := ⟨sB tg, [tg], [], fun le hk _ ⟨b, e, h⟩ => ⟨b, e, (le.own b tg h (hk tg (by simp))).1⟩, true, fun _ ⟨_, e, _⟩ => e ▸ rfl⟩
def rZ (enc : κ → Value) (V : VT β) (kvs : List (κ × β)) (w : World) (M : ah) (v : Value) : Prop := ∃ b, v = .map (some b) ∧ M b = none ∧ b < w.heap.size ∧ Aw enc V.ty kvs w M b
def Ty.pm (enc : κ → Value) (V : VT β) (kvs : List (κ × β)) : Ty := ⟨rZ enc V kvs, [], [], fun le _ _ ⟨b, e, h, hb, h2⟩ => let ⟨h3, h4⟩ := le.oK b hb h; ⟨b, e, h3, Nat.lt_of_lt_of_le hb le.size, tL V.nodeps le h4 h2⟩, true, fun _ ⟨_, e, _⟩ => e ▸ rfl⟩
end
section
variable {P : Program} {κ β : Type} [DecidableEq κ]
theorem mG (kvs : List (κ × β)) (k : κ) (i : Nat) (h : (kvs.map Prod.fst).findIdx? (fun x => decide (x = k)) = some i) : ∃ v, kvs[i]? = some (k, v) ∧ bU kvs k = some v ∧ ∀ z, cz kvs k z = kvs.set i (k, z) := by
  induction kvs generalizing i with
  | nil => cases h
  | cons x l ih =>
    rw [List.map_cons, List.findIdx?_cons] at h
    by_cases hx : x.1 = k
    · subst hx
      simp at h; subst h
      exact ⟨x.2, by simp, by simp [bU], fun z => by simp [cz]⟩
    · rw [decide_eq_false hx] at h
      simp only [Bool.false_eq_true, if_false, Option.map_eq_some_iff] at h
      obtain ⟨j, hj, rfl⟩ := h
      obtain ⟨v, h1, h2, h3⟩ := ih j hj
      exact ⟨v, by simpa using h1, by simp [bU, hx, h2], fun z => by simp [cz, hx, h3]⟩
theorem l5 (kvs : List (κ × β)) (k : κ) (h : (kvs.map Prod.fst).findIdx? (fun x => decide (x = k)) = none) : bU kvs k = none ∧ ∀ z, cz kvs k z = kvs ++ [(k, z)] := by
  induction kvs with
  | nil => exact ⟨rfl, fun _ => rfl⟩
  | cons x l ih =>
    rw [List.map_cons, List.findIdx?_cons] at h
    by_cases hx : x.1 = k
    · simp [hx] at h
    · rw [decide_eq_false hx] at h
      simp only [Bool.false_eq_true, if_false, Option.map_eq_none_iff] at h
      obtain ⟨h1, h2⟩ := ih h
      exact ⟨by simp [bU, hx, h1], fun z => by simp [cz, hx, h2]⟩
theorem mY {kt : TypeId} (KK : sF P kt κ) {vt : β → Ty} {kvs : List (κ × β)} {w : World} {M : ah} {es : Array MapEntry} (h2 : es.toList.map (·.key) = kvs.map (fun x => KK.enc x.1)) (h3 : bt w M (kvs.map fun x => vt x.2) (es.toList.map (·.val))) (k : κ) :
    (∃ i v e, (kvs.map Prod.fst).findIdx? (fun x => decide (x = k)) = some i ∧ bU kvs k = some v ∧ es[i]? = some e ∧ e.key = KK.enc k ∧ (vt v).den w M e.val ∧ (Instr.findKey kt (KK.enc k) es.toList).run P w = .ok (some (i, e.val)) w) ∨
    ((kvs.map Prod.fst).findIdx? (fun x => decide (x = k)) = none ∧ bU kvs k = none ∧ (Instr.findKey kt (KK.enc k) es.toList).run P w = .ok none w) := by
  have hf := KK.find k (kvs.map Prod.fst) es.toList w (by rw [h2, List.map_map]; rfl)
  cases hi : (kvs.map Prod.fst).findIdx? (fun x => decide (x = k)) with
  | none => right; rw [hi] at hf; exact ⟨rfl, (l5 kvs k hi).1, hf⟩
  | some i =>
    left
    rw [hi] at hf
    obtain ⟨v, hv, hg, _⟩ := mG kvs k i hi
    have hl : i < es.toList.length := by
      have := congrArg List.length h2
      rw [List.length_map, List.length_map] at this
      rw [this]; exact (List.getElem?_eq_some_iff.1 hv).1
    obtain ⟨u, hu, hd⟩ := dF h3 i (vt v) (by rw [List.getElem?_map, hv]; rfl)
    rw [List.getElem?_map, List.getElem?_eq_getElem hl] at hu
    injection hu with hu
    have hk := congrArg (fun l : List Value => l[i]?) h2
    simp only [List.getElem?_map, hv, List.getElem?_eq_getElem hl, Option.map_some] at hk
    injection hk with hk
    refine ⟨i, v, es.toList[i], rfl, hg, ?_, hk, hu ▸ hd, ?_⟩
    · rw [← Array.getElem?_toList, List.getElem?_eq_getElem hl]
    · rw [hf]; show Result.ok ((es.toList[i]?).map _) w = _; rw [List.getElem?_eq_getElem hl]; rfl
end
def zeroOf (P : Program) (t : TypeId) : Option Value := (P.info? t).bind (·.zero)
theorem iw {P : Program} {t : TypeId} {z : Value} (h : zeroOf P t = some z) (w : World) : (zeroValue t).run P w = .ok z w := by
  unfold zeroOf at h
  cases hi : P.info? t with
  | none => rw [hi] at h; cases h
  | some i =>
    rw [hi] at h
    have h' : i.zero = some z := h
    simp [zeroValue, typeInfo, hi, h']
def mapOf (P : Program) (t : TypeId) : Option (TypeId × TypeId) := match P.underlying t with | some (.map k e) => some (k, e) | _ => none
theorem jO {P : Program} {t k e : TypeId} (h : mapOf P t = some (k, e)) : P.underlying t = some (.map k e) := by
 unfold mapOf at h
 split at h
 ·rename_i k' e' hu; injection h with h; injection h with h1 h2; subst h1; subst h2; exact hu
 cases h
section
variable {P : Program} {fr : Fr} {ops : Array Oper} {A : As} {rest : List Oper} {K : As → List (As × Fx) → Prop} {d : Nat} {t mt kt et : TypeId} {p : String} {e : Array Edge}
variable {κ β : Type} [DecidableEq κ]
theorem vr (enc : κ → Value) (V : VT β) (hm : mapOf P mt = some (kt, et)) (hp : fr.pass.contains (d + 1) = false)
 (h : aV P fr ops rest (A.after { d := some d, ty := .mp (d + 1), K := [d + 1], sets := [(d + 1, .mp enc V [])] }) fun A' l' => K A' ((A, { d := some d, ty := .mp (d + 1), K := [d + 1], sets := [(d + 1, .mp enc V [])] }) :: l')) :
 aV P fr ops (⟨some d, .makeMap mt none, t, p, e, none⟩ :: rest) A K := by
 refine ⟨_, ⟨rfl, (by simp), (by simp), (fun u hu => ?_), fun a w M wf _ _ _ => ?_⟩, h⟩
 ·rw [List.mem_singleton.1 hu]; exact ⟨by omega, by simpa using hp⟩
 rw [if_pos (by simp [Region.wanted])]
 have hrun : (execOp a.eval ⟨some d, .makeMap mt none, t, p, e, none⟩).run P w = .ok (.value (.map (some w.heap.size))) { w with heap := w.heap.push (.map #[] 0) } := by
  simp [execOp, Instr.makeMap, newObj, Sem.run]
 refine qn hrun ?_
 refine ⟨_, rfl, fun b => if b = w.heap.size then some (d + 1) else if M b = some (d + 1) then none else M b, ⟨fun b u hb => ?_, fun b b' u ht1 hb hb' => ?_⟩, ⟨by simp, rfl, rfl, rfl, fun b hlt hm => ⟨?_, ?_⟩, fun b u hm hk => ⟨?_, fun _ => ?_⟩⟩, ⟨_, rfl, by simp⟩, fun x hx => ?_⟩
 ·simp only [Array.size_push]
  split at hb
  ·omega
  split at hb
  ·cases hb
  have := wf.lt b u hb; omega
 ·by_cases h1 : b = w.heap.size <;> by_cases h2 : b' = w.heap.size
  ·rw [h1, h2]
  ·exfalso
   simp only [h1, h2, if_true, if_false] at hb hb'
   injection hb with hb
   split at hb'
   ·cases hb'
   rename_i hn; rw [← hb] at hb'; exact hn hb'
  ·exfalso
   simp only [h1, h2, if_true, if_false] at hb hb'
   injection hb' with hb'
   split at hb
   ·cases hb
   rename_i hn; rw [← hb'] at hb; exact hn hb
  simp only [h1, h2, if_false] at hb hb'
  split at hb
  ·cases hb
  split at hb'
  ·cases hb'
  exact wf.inj b b' u ht1 hb hb'
 ·rw [if_neg (by omega), if_neg (by rw [hm]; simp)]; exact hm
 ·simp [Array.getElem?_push]; intro h; omega
 ·have hlt := wf.lt b u hm
  rw [if_neg (by omega), if_neg (by rw [hm]; intro h; injection h with h; exact hk (by simp [h]))]; exact hm
 ·have hlt := wf.lt b u hm
  simp [Array.getElem?_push]; intro h; omega
 rw [List.mem_singleton.1 hx]
 exact ⟨w.heap.size, by simp, #[], 0, by simp, rfl, trivial⟩
theorem tJ {w : World} {M : ah} {b : Nat} (KK : sF P kt κ) (V : VT β) {kvs : List (κ × β)} {z0 : β} {zv : Value} (hm : mapOf P mt = some (kt, et)) (hz : zeroOf P et = some zv) (hzd : (V.ty z0).den w M zv) (h : Aw KK.enc V.ty kvs w M b) (k : κ) :
 (∃ v, (Instr.lookup mt (.map (some b)) (KK.enc k) false).run P w = .ok v w ∧ (V.ty ((bU kvs k).getD z0)).den w M v) ∧
 ∃ v, (Instr.lookup mt (.map (some b)) (KK.enc k) true).run P w = .ok (.tuple #[v, .bool (bU kvs k).isSome]) w ∧ (V.ty ((bU kvs k).getD z0)).den w M v := by
 obtain ⟨es, clock, h1, h2, h3⟩ := h
 have hu := jO hm
 have hzr := iw hz
 rcases mY KK h2 h3 k with ⟨i, v, en, _, hg, _, _, hd, hf⟩ | ⟨_, hg, hf⟩
 ·rw [hg]
  refine ⟨⟨en.val, ?_, hd⟩, en.val, ?_, hd⟩ <;> simp [Instr.lookup, underlying, hu, getObj, Sem.run, h1, KK.check, hf]
 rw [hg]
 refine ⟨⟨zv, ?_, hzd⟩, zv, ?_, hzd⟩ <;> simp [Instr.lookup, underlying, hu, getObj, Sem.run, h1, KK.check, hf, hzr]
theorem IW {x : Operand} {tg : Nat} {enc : κ → Value} {V : VT β} {kvs : List (κ × β)} (hx : A.op fr x = .mp tg) (hc : A.tag tg = some (.mp enc V kvs)) (h1 : e8 tg) {a : Act} {w : World} {M : ah} {rs : List Nat} (wf : Wf w M) (hr : ∀ c ∈ bR x, c ∈ rs) (hrd : ∀ c ∈ rs, c < fr.n → (A.slots c).den w M (a.tmps.getD c undef)) (htg : ∀ y ∈ A.tags, y.1 ∈ [tg] → y.2.den w M y.1) :
 ∃ b, a.eval x = .map (some b) ∧ M b = some tg ∧ Aw enc V.ty kvs w M b := by
 have hxd := bk hr hrd
 rw [hx] at hxd
 obtain ⟨b, e1, e2⟩ := hxd
 obtain ⟨b', h2, h3⟩ := htg _ (cM hc) (by simp)
 obtain ⟨u, rfl⟩ : ∃ u, tg = u + 1 := ⟨tg - 1, by omega⟩
 have : b = b' := wf.inj b b' u (by omega) e2 h2
 subst this
 exact ⟨b, e1, e2, h3⟩
def pU (kty : Ty) (v : Value) : Prop := ∀ w M x, kty.den w M x → x = v
theorem nN {q : IntKind} {n : Int} : pU (.int q n) (.int q n) := fun _ _ _ h => h
theorem LH {x y : Operand} {tg : Nat} {kty : Ty} {k : κ} (KK : sF P kt κ) {V : VT β} {kvs : List (κ × β)} {z0 : β} {zv : Value} (hx : A.op fr x = .mp tg) (hc : A.tag tg = some (.mp KK.enc V kvs)) (h1 : e8 tg) (hy : A.op fr y = kty) (hk : pU kty (KK.enc k)) (hm : mapOf P mt = some (kt, et)) (hz : zeroOf P et = some zv) (hzd : ∀ w M, (V.ty z0).den w M zv)
 (h : aV P fr ops rest (A.set d (V.ty ((bU kvs k).getD z0))) fun A' l' => K A' ((A, { d := some d, ty := V.ty ((bU kvs k).getD z0), rs := bR x ++ bR y, rt := [tg] }) :: l')) :
 aV P fr ops (⟨some d, .lookup mt x y false, t, p, e, none⟩ :: rest) A K :=
 bB (bH rfl rfl fun a w M wf hrd htg => by
  obtain ⟨b, e1, _, h3⟩ := IW hx hc h1 wf (fun c hc => List.mem_append_left _ hc) hrd htg
  have hyd := bk (fun c hc => List.mem_append_right (bR x) hc) hrd
  rw [hy] at hyd
  obtain ⟨v, hv, hd⟩ := (tJ KK V hm hz (hzd w M) h3 k).1
  refine ⟨v, ?_, hd⟩
  simp only [execOp, e1, hk _ _ _ hyd]
  simp [hv]) h
theorem A4 {x y : Operand} {tg : Nat} {kty : Ty} {k : κ} (KK : sF P kt κ) {V : VT β} {kvs : List (κ × β)} {z0 : β} {zv : Value} (hx : A.op fr x = .mp tg) (hc : A.tag tg = some (.mp KK.enc V kvs)) (h1 : e8 tg) (hy : A.op fr y = kty) (hk : pU kty (KK.enc k)) (hm : mapOf P mt = some (kt, et)) (hz : zeroOf P et = some zv) (hzd : ∀ w M, (V.ty z0).den w M zv)
 (h : aV P fr ops rest (A.set d (.jk [V.ty ((bU kvs k).getD z0), .bool (bU kvs k).isSome])) fun A' l' => K A' ((A, { d := some d, ty := .jk [V.ty ((bU kvs k).getD z0), .bool (bU kvs k).isSome], rs := bR x ++ bR y, rt := [tg] }) :: l')) :
 aV P fr ops (⟨some d, .lookup mt x y true, t, p, e, none⟩ :: rest) A K :=
 bB (bH rfl rfl fun a w M wf hrd htg => by
  obtain ⟨b, e1, _, h3⟩ := IW hx hc h1 wf (fun c hc => List.mem_append_left _ hc) hrd htg
  have hyd := bk (fun c hc => List.mem_append_right (bR x) hc) hrd
  rw [hy] at hyd
  obtain ⟨v, hv, hd⟩ := (tJ KK V hm hz (hzd w M) h3 k).2
  refine ⟨.tuple #[v, .bool (bU kvs k).isSome], ?_, #[v, .bool (bU kvs k).isSome], rfl, hd, rfl, trivial⟩
  simp only [execOp, e1, hk _ _ _ hyd]
  simp [hv]) h
theorem ve {x y : Operand} {kty : Ty} {k : κ} (KK : sF P kt κ) {V : VT β} {kvs : List (κ × β)} {z0 : β} {zv : Value} (hx : A.op fr x = .pm KK.enc V kvs) (hy : A.op fr y = kty) (hk : pU kty (KK.enc k)) (hm : mapOf P mt = some (kt, et)) (hz : zeroOf P et = some zv) (hzd : ∀ w M, (V.ty z0).den w M zv)
 (h : aV P fr ops rest (A.set d (V.ty ((bU kvs k).getD z0))) fun A' l' => K A' ((A, { d := some d, ty := V.ty ((bU kvs k).getD z0), rs := bR x ++ bR y }) :: l')) :
 aV P fr ops (⟨some d, .lookup mt x y false, t, p, e, none⟩ :: rest) A K :=
 bB (bH (rt := []) rfl rfl fun a w M wf hrd _ => by
  have hxd := bk (fun c hc => List.mem_append_left (bR y) hc) hrd
  rw [hx] at hxd
  obtain ⟨b, e1, _, _, h3⟩ := hxd
  have hyd := bk (fun c hc => List.mem_append_right (bR x) hc) hrd
  rw [hy] at hyd
  obtain ⟨v, hv, hd⟩ := (tJ KK V hm hz (hzd w M) h3 k).1
  refine ⟨v, ?_, hd⟩
  simp only [execOp, e1, hk _ _ _ hyd]
  simp [hv]) h
theorem qq {x y z : Operand} {tg : Nat} {kty vty : Ty} {k : κ} {v : β} (KK : sF P kt κ) {V : VT β} {kvs : List (κ × β)} (hx : A.op fr x = .mp tg) (hc : A.tag tg = some (.mp KK.enc V kvs)) (h1 : e8 tg) (hy : A.op fr y = kty) (hk : pU kty (KK.enc k)) (hz : A.op fr z = vty) (hv : vty = V.ty v) (hm : mapOf P mt = some (kt, et))
 (h : aV P fr ops rest (A.after { d := none, S := [tg], sets := [(tg, .mp KK.enc V (cz kvs k v))], rs := bR x ++ (bR y ++ bR z), rt := [tg] }) fun A' l' => K A' ((A, { d := none, S := [tg], sets := [(tg, .mp KK.enc V (cz kvs k v))], rs := bR x ++ (bR y ++ bR z), rt := [tg] }) :: l')) :
 aV P fr ops (⟨none, .mapUpdate mt x y z, t, p, e, none⟩ :: rest) A K := by
 subst hv
 refine ⟨_, ⟨rfl, (fun x hx => .inl (by rw [List.mem_singleton.1 hx]; exact List.mem_singleton.2 rfl)), (fun u hu => by rw [List.mem_singleton.1 hu]; exact h1.1), (by simp), fun a w M wf _ hrd htg => ?_⟩, h⟩
 rw [if_pos (by simp [Region.wanted])]
 obtain ⟨b, e1, e2, es, clock, h3, h4, h5⟩ := IW hx hc h1 wf (fun c hc => List.mem_append_left _ hc) hrd htg
 have hyd := bk (fun c hc => List.mem_append_right (bR x) (List.mem_append_left (bR z) hc)) hrd
 have hzd := bk (fun c hc => List.mem_append_right (bR x) (List.mem_append_right (bR y) hc)) hrd
 rw [hy] at hyd
 rw [hz] at hzd
 have hu := jO hm
 have hblt : b < w.heap.size := wf.lt b _ e2
 -- whatever is put there
 have fin : ∀ (es' : Array MapEntry) (clock' : Nat), es'.toList.map (·.key) = (cz kvs k v).map (fun x => KK.enc x.1) → bt w M ((cz kvs k v).map fun x => V.ty x.2) (es'.toList.map (·.val)) →
  (Instr.mapUpdate mt (.map (some b)) (KK.enc k) (a.eval z)).run P w = .ok () { w with heap := w.heap.setIfInBounds b (.map es' clock') } →
  Oper.wpIn fr.kd.gT 0 P ⟨none, .mapUpdate mt x y z, t, p, e, none⟩ a w (fun a' w' => ∃ v', a' = a.put none v' ∧ Fx.left { d := none, S := [tg], sets := [(tg, .mp KK.enc V (cz kvs k v))], rs := bR x ++ (bR y ++ bR z), rt := [tg] } w M w' v') (fun _ _ _ => False) := by
  intro es' clock' hk' hd' hrun
  have hr : (execOp a.eval ⟨none, .mapUpdate mt x y z, t, p, e, none⟩).run P w = .ok .skip { w with heap := w.heap.setIfInBounds b (.map es' clock') } := by
   simp only [execOp, e1, hk _ _ _ hyd]
   simp [hrun]
  refine tF hr ?_
  have le : Le (· ∈ [tg]) (· ∈ ([] : List Nat)) w M { w with heap := w.heap.setIfInBounds b (.map es' clock') } M := by
   refine ⟨by simp, rfl, rfl, rfl, fun b2 hlt hm2 => ⟨hm2, ?_⟩, fun b2 u hm2 _ => ⟨hm2, fun hs => ?_⟩⟩
   ·have : b ≠ b2 := fun h => by subst h; rw [e2] at hm2; cases hm2
    simp [Array.getElem?_setIfInBounds, this]
   have : b ≠ b2 := fun h => by subst h; rw [e2] at hm2; injection hm2 with hm2; exact hs (by simp [hm2])
   simp [Array.getElem?_setIfInBounds, this]
  refine ⟨undef, rfl, M, ⟨fun b2 u h => by simpa using wf.lt b2 u h, wf.inj⟩, le, trivial, fun x hx => ?_⟩
  rw [List.mem_singleton.1 hx]
  refine ⟨b, e2, es', clock', by simp [hblt], hk', ?_⟩
  refine bV le (fun _ _ => by simp) (fun u hu => ?_) hd'
  simp only [bL, List.mem_flatMap, List.mem_map] at hu
  obtain ⟨t', ⟨x', _, rfl⟩, hu⟩ := hu
  rw [(V.nodeps x'.2).2] at hu; cases hu
 rcases mY KK h4 h5 k with ⟨i, v0, en, hi, hg, hen, hkey, hd, hf⟩ | ⟨hi, hg, hf⟩
 ·obtain ⟨v1, hv1, _, hput⟩ := mG kvs k i hi
  have hil : i < es.size := (Array.getElem?_eq_some_iff.1 hen).1
  refine fin (es.modify i fun e => { e with key := KK.enc k, val := a.eval z }) clock ?_ ?_ ?_
  ·rw [hput, List.map_set]
   have : (es.modify i fun e => { e with key := KK.enc k, val := a.eval z }).toList = es.toList.set i { en with key := KK.enc k, val := a.eval z } := by
    rw [Array.toList_modify, List.modify_eq_set, Array.getElem?_toList, hen]; rfl
   rw [this, List.map_set, h4]
  ·rw [hput, List.map_set]
   have : (es.modify i fun e => { e with key := KK.enc k, val := a.eval z }).toList = es.toList.set i { en with key := KK.enc k, val := a.eval z } := by
    rw [Array.toList_modify, List.modify_eq_set, Array.getElem?_toList, hen]; rfl
   rw [this, List.map_set]
   exact ny h5 hzd
  simp [Instr.mapUpdate, underlying, hu, getObj, setObj, Sem.run, h3, KK.check, hf, hen, hkey, Instr.keyThatStays, KK.same]
 obtain ⟨_, hput⟩ := l5 kvs k hi
 refine fin (es.push { key := KK.enc k, val := a.eval z, born := clock }) (clock + 1) ?_ ?_ ?_
 ·rw [hput]; simp [h4]
 ·rw [hput]; simp only [Array.toList_push, List.map_append, List.map_cons, List.map_nil]
  exact dO h5 ⟨hzd, trivial⟩
 simp [Instr.mapUpdate, underlying, hu, getObj, setObj, Sem.run, h3, KK.check, hf]
end
section
variable {P : Program} {fr : Fr} {A : As} {Q : Exit → Act → World → Prop} {c : Code} {κ β : Type} [DecidableEq κ]
end
end Go.T
namespace Go.T
open Go Go.RowKit
def Zt : Nat := 1000000
def Ak (M : ah) : Prop := ∀ b u, M b = some u → Zt ≤ u → u = Zt + b
def Cb (J : World → ah → Prop) : Prop := ∀ w M w' M', Wf w' M' → Le (fun t => Zt ≤ t) (fun t => Zt ≤ t) w M w' M' → J w M → J w' M'
def NO (P : Program) (l : Nat) (encs : List (List Ty)) (J : Nat → World → ah → Prop) (Jx : World → ah → Prop) : Prop :=
  ∀ (k : Nat) (tys : List Ty), encs[k]? = some tys → ∀ w M vs, Wf w M → Ak M → J k w M → bt w M tys vs →
    YieldAt Fence.wide 0 P l vs.toArray w fun e w' => ∃ M', Wf w' M' ∧ Ak M' ∧ Le (fun t => t < Zt) (fun t => t < Zt) w M w' M' ∧ ((e = .returned (.bool true) ∧ J (k + 1) w' M') ∨ (e = .returned (.bool false) ∧ Jx w' M'))
def gr (P : Program) (f : FuncId) (args : Nat → List Ty) (encs : List (List Ty)) (resD resS : Ty) : Prop :=
  (∃ fn, P.funcs[f]? = some fn ∧ (fn.name == "runtime.NumGoroutine") = false ∧ fn.body.isNone = false) ∧
  ∀ l J Jx, (∀ k, Cb (J k)) → Cb Jx → NO P l encs J Jx → ∀ w M vs, Wf w M → Ak M → bt w M (args l) vs → J 0 w M →
    Calls P f vs.toArray w fun e w' => ∃ r M', e = .returned r ∧ Wf w' M' ∧ Ak M' ∧ ((resD.den w' M' r ∧ J encs.length w' M') ∨ (resS.den w' M' r ∧ Jx w' M'))
def sA (J : World → ah → Prop) (w : World) (M : ah) (_ : Nat) : Prop :=
  ∃ Mc, Wf w Mc ∧ Ak Mc ∧ J w Mc ∧ (∀ b, M b = none → Mc b = none) ∧ ∀ b t, b < w.heap.size → M b = some (t + 1) → Mc b = some (Zt + b)
def CJ {J : World → ah → Prop} (hJ : Cb J) : Cont :=
  { den := sA J, deps := [0], cdeps := [0]
    mono := fun {S K w w' M M' t} le hk hs _ _ ⟨Mc, wf, z, hj, h1, h2⟩ => by
      have hk0 : ¬ K 0 := hk 0 (by simp)
      have hs0 : ¬ S 0 := hs 0 (by simp)
      have zero : ∀ b, M b = some 0 → M' b = some 0 ∧ w'.heap[b]? = w.heap[b]? := fun b h => let ⟨a, c⟩ := le.own b 0 h hk0; ⟨a, c hs0⟩
      have mb : ∀ b t, Mc b = some t → t < Zt → M b = some 0 := fun b t h ht => by
        cases hm : M b with
        | none => rw [h1 b hm] at h; cases h
        | some u =>
          cases u with
          | zero => rfl
          | succ u =>
            have := h2 b u (wf.lt b t h) hm
            rw [this] at h; injection h with h; omega
      have lez : Le (fun t => Zt ≤ t) (fun t => Zt ≤ t) w Mc w' (fun b => if b < w'.heap.size then (match M' b with | none => none | some (_ + 1) => some (Zt + b) | some 0 => if b < w.heap.size ∧ M b = some 0 then Mc b else some (Zt + b)) else none) := by
        refine ⟨le.size, le.os, le.tape, le.out, fun b hb hm => ?_, fun b t hm ht => ?_⟩
        · cases hmb : M b with
          | none =>
            obtain ⟨a, c⟩ := le.oK b hb hmb
            refine ⟨?_, c⟩
            simp only [a]; split <;> rfl
          | some u =>
            cases u with
            | zero =>
              obtain ⟨a, c⟩ := zero b hmb
              refine ⟨?_, c⟩
              simp only [a, hmb, hb, and_self, if_true, hm]; split <;> rfl
            | succ u => rw [h2 b u hb hmb] at hm; cases hm
        · have hlt := wf.lt b t hm
          have h0 := mb b t hm (Nat.lt_of_not_le ht)
          obtain ⟨a, c⟩ := zero b h0
          refine ⟨?_, fun _ => c⟩
          have : b < w'.heap.size := Nat.lt_of_lt_of_le hlt le.size
          simp only [this, if_true, a, h0, hlt, and_self]; exact hm
      have zok : Ak (fun b => if b < w'.heap.size then (match M' b with | none => none | some (_ + 1) => some (Zt + b) | some 0 => if b < w.heap.size ∧ M b = some 0 then Mc b else some (Zt + b)) else none) := by
        intro b u h hu
        simp only at h
        split at h
        · split at h
          · cases h
          · injection h with h; exact h.symm
          · split at h
            · exact z b u h hu
            · injection h with h; exact h.symm
        · cases h
      have wf' : Wf w' (fun b => if b < w'.heap.size then (match M' b with | none => none | some (_ + 1) => some (Zt + b) | some 0 => if b < w.heap.size ∧ M b = some 0 then Mc b else some (Zt + b)) else none) := by
        refine ⟨fun b t h => ?_, fun b b' t ht1 h h' => ?_⟩
        · split at h
          · assumption
          · cases h
        · by_cases hz : Zt ≤ t + 1
          · have e1 := zok b _ h hz
            have e2 := zok b' _ h' hz
            omega
          · have part : ∀ b, (if b < w'.heap.size then (match M' b with | none => none | some (_ + 1) => some (Zt + b) | some 0 => if b < w.heap.size ∧ M b = some 0 then Mc b else some (Zt + b)) else none) = some (t + 1) → Mc b = some (t + 1) := fun b h => by
              split at h
              · split at h
                · cases h
                · injection h with h; omega
                · split at h
                  · exact h
                  · injection h with h; omega
              · cases h
            exact wf.inj b b' t ht1 (part b h) (part b' h')
      refine ⟨_, wf', zok, hJ _ _ _ _ wf' lez hj, fun b h => ?_, fun b t hb h => ?_⟩
      · simp only [h]; split <;> rfl
      · simp only [h, hb, if_true] }
section
variable {P : Program} {fr : Fr} {ops : Array Oper} {A : As} {rest : List Oper} {K : As → List (As × Fx) → Prop} {d : Nat} {t : TypeId} {p : String} {e : Array Edge} {Q : Exit → Act → World → Prop}
def p8 (P : Program) (fr : Fr) (ops : Array Oper) (o : Oper) (A : As) (f g : Fx) : Prop :=
  (f.d = o.dst ∧ f.K = []) ∧ (g.d = o.dst ∧ g.K = []) ∧
  ∀ a w M, Wf w M → a.tmps.size = fr.n → (∀ c, c < fr.n → (A.slots c).den w M (a.tmps.getD c undef)) → (∀ x ∈ A.tags, x.2.den w M x.1) →
    Region.wanted o (yielded ops a.tmps) = true ∧ o.wpIn fr.kd.gT 0 P a w (fun a' w' => ∃ v, a' = a.put o.dst v ∧ (f.left w M w' v ∨ g.left w M w' v)) (fun _ _ _ => False)
theorem uA {f : Fx} {a : Act} {w w' : World} {M : ah} {v : Value} (hkd : fr.kd = .iter) (hK : f.K = [])
    (ok : Ok fr a w M) (hs : ∀ c, c < fr.n → (A.slots c).den w M (a.tmps.getD c undef)) (ht : ∀ x ∈ A.tags, x.2.den w M x.1) (hl : f.left w M w' v) : (A.after f).holds fr (a.put f.d v) w' := by
  obtain ⟨M', wf', le, hv, hsets⟩ := hl
  have hnd := ok.eD (by rw [hkd]; simp)
  have hb : fr.base w' M' := (ok.base.trans le).weaken (fun t _ => by rw [hkd]; trivial) (fun t ht => ht.elim id (fun h => by rw [hK] at h; cases h))
  refine ⟨M', ⟨wf', hb, by rw [size_put, ok.size], by rw [sK, hnd]; exact Defs.nil⟩, fun c hc => ?_, fun x hx => ?_⟩
  · rw [zg a f.d v c (by rw [ok.size]; exact hc)]
    have key : (fC f.S f.K A.slots c).den w' M' (a.tmps.getD c undef) := by
      rcases ep f.S f.K A.slots c with ⟨e, hdj⟩ | ⟨_, e⟩
      · rw [e]
        exact (A.slots c).mono le (eJ hdj).1 (eJ hdj).2 (hs c hc)
      · rw [e]; trivial
    simp only [As.after, o7]
    cases hfd : f.d with
    | none => simpa using key
    | some d =>
      by_cases e : d = c
      · subst e; simpa using hv
      · have e' : Nat.beq c d = false := by cases h : Nat.beq c d with | false => rfl | true => exact absurd (Nat.eq_of_beq_eq_true h).symm e
        simpa [e, e'] using key
  · rcases List.mem_append.1 hx with hx | hx
    · exact hsets x hx
    · exact gb le hx fun y hy _ => ht y hy
theorem yw {rest : List Oper} : ∀ (l : List Oper) (A : As) (K : As → List (As × Fx) → Prop) (a : Act) (w : World), aV P fr ops l A K → A.holds fr a w →
    (∀ A' s a w, K A' s → A'.holds fr a w → wpListIn fr.kd.gT 0 P ops Q rest a w) → wpListIn fr.kd.gT 0 P ops Q (l ++ rest) a w
  | [], A, K, a, w, h, ha, hk => hk A [] a w h ha
  | o :: l, A, K, a, w, ⟨f, ⟨hd, hsets, hS, hK, hop⟩, hrest⟩, ⟨M, ok, hs, ht⟩, hk => by
    have h := hop a w M ok.wf ok.size (fun c _ hc => hs c hc) (fun x hx _ => ht x hx)
    rw [List.cons_append]
    unfold wpListIn
    split
    · rename_i hw
      rw [if_pos hw] at h
      refine Oper.nu (fun a' w' ⟨v, e, hl⟩ => ?_) h
      subst e
      rw [← hd]
      exact yw l _ _ _ _ hrest (nI hS hK ok hs ht hl) fun A' s a w hk' hA => hk A' _ a w hk' hA
    · rename_i hw
      rw [if_neg hw] at h
      refine ⟨fun f _ => fr.kd.oW f, ?_⟩
      rw [← hd]
      exact yw l _ _ _ _ hrest (nI hS hK ok hs ht h) fun A' s a w hk' hA => hk A' _ a w hk' hA
theorem JC {id : Nat} {l1 l2 : List Oper} {o : Oper} (hkd : fr.kd = .iter)
 (h : aV P fr (l1 ++ o :: l2).toArray l1 A fun A1 _ => ∃ f g, p8 P fr (l1 ++ o :: l2).toArray o A1 f g ∧ aV P fr (l1 ++ o :: l2).toArray l2 (A1.after f) (fun A' _ => cm fr A' (Q .normal)) ∧ aV P fr (l1 ++ o :: l2).toArray l2 (A1.after g) (fun A' _ => cm fr A' (Q .normal))) :
 eU P fr (.region id (l1 ++ o :: l2).toArray false) A Q := by
 intro a w ha
 refine wpIn_region_lit (yw l1 A _ a w h ha fun A1 s a w ⟨f, g, ⟨⟨hf1, hf2⟩, ⟨hg1, hg2⟩, hop⟩, h1, h2⟩ ⟨M, ok, hs, ht⟩ => ?_)
 obtain ⟨hw, hwp⟩ := hop a w M ok.wf ok.size hs ht
 unfold wpListIn
 rw [if_pos hw]
 refine Oper.nu (fun a' w' ⟨v, e, hl⟩ => ?_) hwp
 subst e
 rcases hl with hl | hl
 ·rw [← hf1]; exact oN l2 _ _ _ _ h1 (uA hkd hf2 ok hs ht hl) fun _ _ _ _ hk hA => hk _ _ hA
 rw [← hg1]; exact oN l2 _ _ _ _ h2 (uA hkd hg2 ok hs ht hl) fun _ _ _ _ hk hA => hk _ _ hA
theorem Pb {op : Op} {dst : Option Nat} {j s : Nat} {want : Bool} {f : Fx} (hs : nQ ops j = some s) (hn : Nat.blt s fr.n = true) (hc : A.slots s = .bool want) (h1 : xe P fr ops ⟨dst, op, t, p, e, none⟩ A f) :
 xe P fr ops ⟨dst, op, t, p, e, some (j, want)⟩ A { f with rs := s :: f.rs } := by
 obtain ⟨hd, hsets, hS, hK, hop⟩ := h1
 refine ⟨hd, hsets, hS, hK, fun a w M wf hsz hrd htg => ?_⟩
 have hv := hrd s List.mem_cons_self (by simpa using hn)
 rw [hc] at hv
 have hy := jg (ops := ops) hs (by rw [hsz]; simpa using hn) hv
 have hw : Region.wanted ⟨dst, op, t, p, e, some (j, want)⟩ (yielded ops a.tmps) = true := by simp [Region.wanted, hy]
 have h := hop a w M wf hsz (fun c hc => hrd c (List.mem_cons_of_mem _ hc)) htg
 rw [if_pos (by simp [Region.wanted])] at h
 rw [if_pos hw]
 exact h
theorem wJ {op : Op} {dst : Option Nat} {j s : Nat} {want : Bool} {f : Fx} (hs : nQ ops j = some s) (hn : Nat.blt s fr.n = true) (hc : A.slots s = .bool want) (h1 : xe P fr ops ⟨dst, op, t, p, e, none⟩ A f)
 (h : aV P fr ops rest (A.after f) fun A' l' => K A' ((A, { f with rs := s :: f.rs }) :: l')) : aV P fr ops (⟨dst, op, t, p, e, some (j, want)⟩ :: rest) A K := ⟨_, Pb hs hn hc h1, h⟩
theorem nv {op : Op} {j s : Nat} {want c : Bool} (hs : nQ ops j = some s) (hn : Nat.blt s fr.n = true) (hc : A.slots s = .bool c) (hne : (c == want) = false)
 (h : aV P fr ops rest (A.set d (.ex undef)) fun A' l' => K A' ((A, { d := some d, ty := .ex undef, rs := [s] }) :: l')) : aV P fr ops (⟨some d, op, t, p, e, some (j, want)⟩ :: rest) A K := by
 refine ⟨{ d := some d, ty := .ex undef, rs := [s] }, ⟨rfl, (by simp), (by simp), (by simp), fun a w M wf hsz hrd htg => ?_⟩, h⟩
 have hv := hrd s List.mem_cons_self (by simpa using hn)
 rw [hc] at hv
 have hy := jg (ops := ops) hs (by rw [hsz]; simpa using hn) hv
 have hw : Region.wanted ⟨some d, op, t, p, e, some (j, want)⟩ (yielded ops a.tmps) = false := by
  simp only [Region.wanted, hy]
  cases c <;> cases want <;> simp_all
 rw [if_neg (by rw [hw]; simp)]
 exact ⟨M, wf, Le.refl _ _ _ _, rfl, by simp⟩
def yv (l : Nat) : Value := .func (.yield l) #[] #[]
theorem Ml {op : Op} {dst : Option Nat} {j s : Nat} {want : Bool} {f g : Fx} (hs : nQ ops j = some s) (hn : Nat.blt s fr.n = true) (hc : A.slots s = .bool want) (h1 : p8 P fr ops ⟨dst, op, t, p, e, none⟩ A f g) :
 p8 P fr ops ⟨dst, op, t, p, e, some (j, want)⟩ A f g := by
 obtain ⟨hf, hg, hop⟩ := h1
 refine ⟨hf, hg, fun a w M wf hsz hrd htg => ?_⟩
 have hv := hrd s (by simpa using hn)
 rw [hc] at hv
 have hy := jg (ops := ops) hs (by rw [hsz]; simpa using hn) hv
 exact ⟨by simp [Region.wanted, hy], (hop a w M wf hsz hrd htg).2⟩
theorem B2 {c l k : Nat} {encs : List (List Ty)} {J : Nat → World → ah → Prop} {Jx : World → ah → Prop} (hJ : ∀ k, Cb (J k)) (hJx : Cb Jx) (hY : NO P l encs J Jx) {xs : List Operand} {ats : Array TypeId} {tys : List Ty} {dst : Option Nat}
    (hkd : fr.kd = .iter) (hc : A.op fr (.tmp c) = .ex (yv l)) (hx : jr A fr xs = tys) (hd : bl tys = []) (hdc : bL tys = []) (hk : encs[k]? = some tys) (ht : A.tag 0 = some (CJ (hJ k))) :
    p8 P fr ops ⟨dst, .call ⟨.value (.tmp c), xs.toArray, ats⟩, t, p, e, none⟩ A { d := dst, ty := .bool true, S := [0], sets := [(0, CJ (hJ (k + 1)))] } { d := dst, ty := .bool false, S := [0], sets := [(0, CJ hJx)] } := by
  refine ⟨⟨rfl, rfl⟩, ⟨rfl, rfl⟩, fun a w M wf hsz hrd htg => ⟨by simp [Region.wanted], ?_⟩⟩
  have hcv := bk (x := .tmp c) (rs := c :: xs.flatMap bR) (fun u hu => by exact (List.mem_singleton.1 hu) ▸ List.mem_cons_self) (fun c _ hn => hrd c hn)
  rw [hc] at hcv
  have hcv : a.eval (.tmp c) = yv l := hcv
  obtain ⟨Mc, wfc, z, hj, h1, h2⟩ := htg _ (cM ht)
  have hv : bt w Mc tys (xs.map a.eval) := dZ h1 hd hdc (hx ▸ dw (rs := c :: xs.flatMap bR) (fun c _ hn => hrd c hn) fun x hx c hc => List.mem_cons_of_mem _ (List.mem_flatMap.2 ⟨x, hx, hc⟩))
  obtain ⟨fn, tmps, assign, body, hy, hR⟩ := hY k tys hk w Mc _ wfc z hj hv
  refine ⟨fun f _ => fr.kd.oW f, ?_⟩
  have hrun : (execOp a.eval ⟨dst, .call ⟨.value (.tmp c), xs.toArray, ats⟩, t, p, e, none⟩).run P w = .ok (.round l fn tmps assign body) w := by
    simp [execOp, resolve, hcv, yv, Deferred.ofValue, invoke, hy]
  rw [Oper.semAt_eq _ _ _ (by intro c h; cases h), hrun, Oper.uponIn_round]
  refine ⟨fun h => (by rw [fr.kd.sQ] at h; cases h), ?_⟩
  have hfe : fr.kd.gT = Fence.wide := by rw [hkd]; rfl
  rw [hfe]
  refine RoundIn.mono hR fun en w' ⟨Mc', wf', z', le, hor⟩ => ?_
  have Mle : Le (· ∈ [0]) (· ∈ ([] : List Nat)) w M w' (fun b => if b < w.heap.size then M b else (Mc' b).map fun _ => 0) := by
    refine ⟨le.size, le.os, le.tape, le.out, fun b hb hm => ⟨by simp [hb, hm], (le.oK b hb (h1 b hm)).2⟩, fun b u hm _ => ⟨by simp [wf.lt b u hm, hm], fun hs => ?_⟩⟩
    cases u with
    | zero => exact absurd (by simp) hs
    | succ u => exact (le.own b _ (h2 b u (wf.lt b _ hm) hm) (by omega)).2 (by omega)
  have Mwf : Wf w' (fun b => if b < w.heap.size then M b else (Mc' b).map fun _ => 0) := by
    refine ⟨fun b u h => ?_, fun b b' u ht1 h h' => ?_⟩
    · split at h
      · exact Nat.lt_of_lt_of_le ‹_› le.size
      · obtain ⟨v, hv, _⟩ := Option.map_eq_some_iff.1 h
        exact wf'.lt b v hv
    · have part : ∀ b, (if b < w.heap.size then M b else (Mc' b).map fun _ => 0) = some (u + 1) → M b = some (u + 1) := fun b h => by
        split at h
        · exact h
        · obtain ⟨v, _, hv⟩ := Option.map_eq_some_iff.1 h
          cases hv
      exact wf.inj b b' u ht1 (part b h) (part b' h')
  have hc1 : ∀ b, (if b < w.heap.size then M b else (Mc' b).map fun _ => 0) = none → Mc' b = none := fun b h => by
    split at h
    · exact (le.oK b ‹_› (h1 b h)).1
    · simpa using h
  have hc2 : ∀ b u, b < w'.heap.size → (if b < w.heap.size then M b else (Mc' b).map fun _ => 0) = some (u + 1) → Mc' b = some (Zt + b) := fun b u _ h => by
    split at h
    · exact (le.own b _ (h2 b u ‹_› h) (by omega)).1
    · obtain ⟨v, _, hv⟩ := Option.map_eq_some_iff.1 h
      cases hv
  rcases hor with ⟨rfl, hj'⟩ | ⟨rfl, hj'⟩
  · exact ⟨.bool true, rfl, .inl ⟨_, Mwf, Mle, rfl, fun x hx => by rw [List.mem_singleton.1 hx]; exact ⟨Mc', wf', z', hj', hc1, hc2⟩⟩⟩
  · exact ⟨.bool false, rfl, .inr ⟨_, Mwf, Mle, rfl, fun x hx => by rw [List.mem_singleton.1 hx]; exact ⟨Mc', wf', z', hj', hc1, hc2⟩⟩⟩
end
def cO (n : Nat) (J : Nat → World → ah → Prop) (Jx : World → ah → Prop) (resD resS : Ty) (e : Ending) (w' : World) : Prop :=
  ∃ r M', e = .returned r ∧ Wf w' M' ∧ Ak M' ∧ ((resD.den w' M' r ∧ J n w' M') ∨ (resS.den w' M' r ∧ Jx w' M'))
section
variable {P : Program} {A : As}
theorem BS {f : FuncId} {fn : Func} {c : Code} {args : Nat → List Ty} {encs : List (List Ty)} {resD resS : Ty} {n : Nat} (hf : P.funcs[f]? = some fn) (hb : fn.body = some c) (hn : (fn.name == "runtime.NumGoroutine") = false) (hnt : fn.ntmps = n) (hl : ∀ l, (args l).length ≤ n) (hdd : ∀ l, bl (args l) = [] ∧ bL (args l) = [])
    (h : ∀ l J Jx (hJ : ∀ k, Cb (J k)) (hJx : Cb Jx), NO P l encs J Jx → ∀ w0 M0, eU P ⟨n, w0, M0, [], .iter⟩ c (pT (args l) [(0, CJ (hJ 0))]) (bodyPost P fn (cO encs.length J Jx resD resS))) : gr P f args encs resD resS := by
  refine ⟨⟨fn, hf, hn, by rw [hb]; rfl⟩, fun l J Jx hJ hJx hY w M vs wf z hd hj => calls_of_wp hf hb (wpIn_wide.1 (h l J Jx hJ hJx hY w (Jn M) _ _ ?_))⟩
  have hlen := bw hd
  have hl := hl l
  refine ⟨Jn M, ⟨CT wf, Le.refl _ _ _ _, by simp [hnt, hlen]; omega, Defs.nil⟩, fun c hc => ?_, fun x hx => ?_⟩
  · simp only [pT]
    cases ha : (args l)[c]? with
    | none => trivial
    | some ty =>
      obtain ⟨v, hv, hdv⟩ := dF (lU (hdd l).1 (hdd l).2 hd) c ty ha
      have : (vs.toArray ++ Array.replicate (fn.ntmps - vs.toArray.size) undef).getD c undef = v := by
        have hlt : c < vs.length := (List.getElem?_eq_some_iff.1 hv).1
        rw [Array.getD_eq_getD_getElem?, Array.getElem?_append_left (by simpa using hlt)]
        simp [hv]
      rw [this]; exact hdv
  · rw [List.mem_singleton.1 hx]
    refine ⟨M, wf, z, hj, fun b h => ?_, fun b t _ h => ?_⟩
    · unfold Jn at h; simpa using h
    · have := uH b _ h; omega
variable {fn : Func} {n m : Nat} {w0 : World} {M0 : ah} {J : Nat → World → ah → Prop} {Jx : World → ah → Prop} {resD resS : Ty}
theorem P1 {hJ : Cb (J m)} (hr : fn.results = #[]) (ht : A.tag 0 = some (CJ hJ)) : cm ⟨n, w0, M0, [], .iter⟩ A (bodyPost P fn (cO m J Jx (Ty.jk []) resS) .ret) := by
 intro a w ⟨M, ok, hsl, htg⟩
 obtain ⟨Mc, wfc, z, hj, h1, h2⟩ := htg _ (cM ht)
 exact ⟨ok.eD (by simp), _, results_none hr _ _ _, _, Mc, rfl, wfc, z, .inl ⟨⟨_, rfl, trivial⟩, hj⟩⟩
theorem HM {hJx : Cb Jx} (hr : fn.results = #[]) (ht : A.tag 0 = some (CJ hJx)) : cm ⟨n, w0, M0, [], .iter⟩ A (bodyPost P fn (cO m J Jx resD (Ty.jk [])) .ret) := by
 intro a w ⟨M, ok, hsl, htg⟩
 obtain ⟨Mc, wfc, z, hj, h1, h2⟩ := htg _ (cM ht)
 exact ⟨ok.eD (by simp), _, results_none hr _ _ _, _, Mc, rfl, wfc, z, .inr ⟨⟨_, rfl, trivial⟩, hj⟩⟩
end
end Go.T
namespace Go.T
open Go Go.RowKit
theorem C4 : 1 ≤ Zt := by decide
def fN (M : ah) : ah := fun b => match M b with | none => none | some t => if Zt ≤ t then some 0 else some t
theorem iA {M : ah} {b : Nat} (h : M b = none) : fN M b = none := by simp [fN, h]
theorem fQ {M : ah} {b t : Nat} (h : M b = some t) (ht : t < Zt) : fN M b = some t := by
 have : ¬ Zt ≤ t := by omega
 simp [fN, h, this]
theorem zl {M : ah} {b t : Nat} (h : M b = some t) (ht : Zt ≤ t) : fN M b = some 0 := by simp [fN, h, ht]
theorem om {M : ah} {b t : Nat} (h : fN M b = some (t + 1)) : M b = some (t + 1) ∧ t + 1 < Zt := by
 unfold fN at h
 split at h
 ·cases h
 rename_i u hu
 split at h
 ·cases h
 injection h with h; subst h; exact ⟨hu, by omega⟩
theorem qh {w : World} {M : ah} (wf : Wf w M) : Wf w (fN M) :=
  ⟨fun b t h => by
    cases hm : M b with
    | none => rw [iA hm] at h; cases h
    | some u => exact wf.lt b u hm, fun b b' t ht1 h h' => wf.inj b b' t ht1 (om h).1 (om h').1⟩
theorem Cw {M : ah} {b u : Nat} (h : fN M b = some u) : u < Zt := by
 unfold fN at h
 split at h
 ·cases h
 split at h
 ·injection h with h; subst h; decide
 injection h with h; omega
def Bw (n : Nat) (pass : List Nat) (s : Nat → Ty) : Bool := (List.range n).all fun c => (s c).cdeps.isEmpty && (s c).deps.all fun t => pass.contains t
def wH (l l' : List Nat) : Bool := l.all (fun t => l'.contains t) && l'.all fun t => Nat.ble 1 t && Nat.blt t 1000000
def RI (l : List Nat) : Bool := l.all fun t => Nat.ble 1 t && Nat.blt t 1000000
def o9 (l : List (Nat × Cont)) : Bool := l.all fun x => Nat.ble 1 x.1 && (Nat.blt x.1 1000000 && (RI x.2.deps && RI x.2.cdeps))
theorem De {l : List Nat} (h : RI l = true) : ∀ t ∈ l, 1 ≤ t ∧ t < Zt := by
 intro t ht
 simp only [RI, List.all_eq_true, Bool.and_eq_true, Nat.ble_eq, Nat.blt_eq] at h
 exact h t ht
theorem kj {l : List (Nat × Cont)} (h : o9 l = true) : ∀ x ∈ l, (1 ≤ x.1 ∧ x.1 < Zt) ∧ (∀ t ∈ x.2.deps, 1 ≤ t ∧ t < Zt) ∧ ∀ t ∈ x.2.cdeps, 1 ≤ t ∧ t < Zt := by
 intro x hx
 simp only [o9, List.all_eq_true, Bool.and_eq_true, Nat.ble_eq, Nat.blt_eq] at h
 obtain ⟨h1, h2, h3, h4⟩ := h x hx
 exact ⟨⟨h1, h2⟩, De h3, De h4⟩
theorem mH {n : Nat} {pass : List Nat} {s : Nat → Ty} (h : Bw n pass s = true) : ∀ c, c < n → (s c).cdeps = [] ∧ ∀ t ∈ (s c).deps, t ∈ pass := by
 intro c hc
 simp only [Bw, List.all_eq_true, Bool.and_eq_true, List.mem_range, List.isEmpty_iff, List.contains_iff_mem] at h
 exact h c hc
theorem ql {l l' : List Nat} (h : wH l l' = true) : (∀ t ∈ l, t ∈ l') ∧ ∀ t ∈ l', 1 ≤ t ∧ t < Zt := by
 simp only [wH, Bool.and_eq_true, List.all_eq_true, List.contains_iff_mem, Nat.ble_eq, Nat.blt_eq] at h
 exact ⟨h.1, h.2⟩
theorem D2 {w : World} {M : ah} {n : Nat} : ∀ (l : List (Nat × Ty)) (vs : List Value) (tm : Array Value) (s : Nat → Ty), (l.map Prod.fst).Nodup → tm.size = n → (∀ c, c < n → (s c).den w M (tm.getD c undef)) → bt w M (l.map Prod.snd) vs →
    (((l.map Prod.fst).zip vs).foldl (fun t (p, v) => t.setIfInBounds p v) tm).size = n ∧ ∀ c, c < n → (p7 l s c).den w M ((((l.map Prod.fst).zip vs).foldl (fun t (p, v) => t.setIfInBounds p v) tm).getD c undef)
  | [], [], tm, s, _, hsz, hs, _ => ⟨hsz, hs⟩
  | (d, ty) :: l, v :: vs, tm, s, hnd, hsz, hs, ⟨hv, hvs⟩ => by
    simp only [List.map_cons, List.nodup_cons] at hnd
    have hs' : ∀ c, c < n → ((fun i => bif Nat.beq i d then ty else s i) c).den w M ((tm.setIfInBounds d v).getD c undef) := fun c hc => by
      simp only [Array.getD_eq_getD_getElem?, Array.getElem?_setIfInBounds]
      by_cases e : d = c
      · subst e; simpa [hsz, hc] using hv
      · have e' : Nat.beq c d = false := by cases h : Nat.beq c d with | false => rfl | true => exact absurd (Nat.eq_of_beq_eq_true h).symm e
        simpa [e, e', Array.getD_eq_getD_getElem?] using hs c hc
    obtain ⟨h1, h2⟩ := D2 l vs (tm.setIfInBounds d v) (fun i => bif Nat.beq i d then ty else s i) hnd.2 (by simpa using hsz) hs' hvs
    have hset : ∀ c, p7 ((d, ty) :: l) s c = p7 l (fun i => bif Nat.beq i d then ty else s i) c := by
      intro c
      have hl : ∀ (l : List (Nat × Ty)) (s s' : Nat → Ty), (∀ i, i = c → i ∉ l.map Prod.fst → s i = s' i) → p7 l s c = p7 l s' c := by
        intro l
        induction l with
        | nil => intro s s' h; exact h c rfl (by simp)
        | cons x l ih =>
          intro s s' h
          simp only [p7]
          cases hb : Nat.beq c x.1 with
          | true => rfl
          | false =>
            simp only [cond_false]
            refine ih s s' fun i hi hm => h i hi fun hm' => ?_
            rw [List.map_cons] at hm'
            rcases List.mem_cons.1 hm' with h1 | h1
            · rw [← h1, hi] at hb; simp at hb
            · exact hm h1
      simp only [p7]
      by_cases e : c = d
      · subst e
        have hb : Nat.beq c c = true := by simp
        rw [hb, cond_true]
        have : ∀ (l : List (Nat × Ty)) (s : Nat → Ty), c ∉ l.map Prod.fst → p7 l s c = s c := by
          intro l
          induction l with
          | nil => intro s _; rfl
          | cons x l ih =>
            intro s h
            simp only [List.map_cons, List.mem_cons, not_or] at h
            have hb : Nat.beq c x.1 = false := by cases hb : Nat.beq c x.1 with | false => rfl | true => exact absurd (Nat.eq_of_beq_eq_true hb) h.1
            simp only [p7, hb, cond_false]
            exact ih s h.2
        rw [this l _ hnd.1]
        simp
      · have hb : Nat.beq c d = false := by cases hb : Nat.beq c d with | false => rfl | true => exact absurd (Nat.eq_of_beq_eq_true hb) e
        rw [hb, cond_false]
        exact hl l _ _ fun i hi _ => by subst hi; simp [hb]
    refine ⟨h1, fun c hc => ?_⟩
    rw [hset]; exact h2 c hc
def Pr : Nat → Ty := fun _ => Ty.any
def dW (fr : Fr) (B : List (Nat × Cont)) (br : Bool) (tr : List (Nat × Cont)) : Exit → Act → World → Prop
  | .normal, a, w => As.holds fr ⟨Pr, B⟩ a w
  | .ret, a, w => br = true ∧ As.holds fr ⟨Pr, tr⟩ a w
  | _, _, _ => False
theorem oL {fr : Fr} {A : As} {B : List (Nat × Cont)} {br : Bool} {tr : List (Nat × Cont)} (h : cr fr A ⟨Pr, B⟩) : cm fr A (dW fr B br tr .normal) := fun _ _ ha => h.holds ha
def LJ (P : Program) (n : Nat) (pass : List Nat) (assign body : Code) (A : As) (B : List (Nat × Cont)) (br : Bool) (tr : List (Nat × Cont)) : Prop :=
  ∃ A1 : As, (∀ l w M, eU P ⟨n, w, M, pass, .round l⟩ assign A (Exit.then (fun a w' => A1.holds ⟨n, w, M, pass, .round l⟩ a w') fun _ _ _ => False)) ∧
    ∀ l w M, eU P ⟨n, w, M, pass, .round l⟩ body (A1.after { d := none, S := [0] }) (dW ⟨n, w, M, pass, .round l⟩ B br tr)
section
variable {P : Program} {fr : Fr} {A : As} {Q : Exit → Act → World → Prop}
theorem Ek {w : World} {M : ah} {l : Nat} {o : Obj} (h0 : fr.w0.heap.size ≤ l) (h1 : ∀ t, ¬ (1 ≤ t ∧ t ∉ fr.pass) → fr.M0 l ≠ some t) (hb : fr.base w M) : fr.base (w.putObj l o) M := by
 refine ⟨by simpa using hb.size, hb.os, hb.tape, hb.out, fun b hlt hm => ⟨(hb.oK b hlt hm).1, ?_⟩, fun b t hm hk => ⟨(hb.own b t hm hk).1, fun hs => ?_⟩⟩
 ·rw [World.putObj_heap_other (by omega)]; exact (hb.oK b hlt hm).2
 rw [World.putObj_heap_other (fun e => h1 t hk (by rw [← e]; exact hm))]; exact (hb.own b t hm hk).2 hs
theorem xx {w : World} {M : ah} {l : Nat} {o : Obj} (hl : M l = some 0) : Le (· ∈ [0]) (· ∈ ([] : List Nat)) w M (w.putObj l o) M := by
 refine ⟨by simp, rfl, rfl, rfl, fun b hb hm => ⟨hm, World.putObj_heap_other fun e => by rw [e, hl] at hm; cases hm⟩, fun b t hm _ => ⟨hm, fun hs => World.putObj_heap_other fun e => ?_⟩⟩
 rw [e, hl] at hm; injection hm with hm; exact hs (by simp [hm])
def JJ (fr : Fr) (s : Nat → Ty) (tm : Array Value) (ds : List Deferred) (l : Nat) (r : Loop) (tg : List (Nat × Cont)) (w : World) (M : ah) : Prop :=
  fr.base w M ∧ (∀ c, c < fr.n → (s c).den w M (tm.getD c undef)) ∧ (∀ x ∈ tg, x.2.den w M x.1) ∧ M l = some 0 ∧ w.heap[l]? = some (.loop r) ∧ Defs fr w M ds
theorem Ox {s : Nat → Ty} {tm : Array Value} {ds : List Deferred} {l : Nat} {r : Loop} {tg : List (Nat × Cont)} {pass' : List Nat} (hpass : wH fr.pass pass' = true) (hs : Bw fr.n pass' s = true) (ht : o9 tg = true) : Cb (JJ fr s tm ds l r tg) := by
 intro w M w' M' wf' le ⟨h1, h2, h3, h4, h5, h6⟩
 obtain ⟨hp1, hp2⟩ := ql hpass
 obtain ⟨a, c⟩ := le.own l 0 h4 (by decide)
 refine ⟨Fr.jF h1 (fun t ht => Nat.le_trans C4 ht) (fun t ht => ⟨Nat.le_trans C4 ht, fun hm => by have := (hp2 t (hp1 t hm)).2; omega⟩) le, fun c hc => ?_, fun x hx => ?_, a, (c (by decide)).trans h5, h6.step (fun t ht => Nat.le_trans C4 ht) (fun t ht => Nat.le_trans C4 ht) le⟩
 ·obtain ⟨e1, e2⟩ := mH hs c hc
  exact (s c).mono le (fun t ht hz => by have := (hp2 t (e2 t ht)).2; omega) (by rw [e1]; intro _ h; cases h) (h2 c hc)
 obtain ⟨⟨_, e2⟩, e3, e4⟩ := kj ht x hx
 exact x.2.mono le (fun t ht hz => by have := (e3 t ht).2; omega) (fun t ht hz => by have := (e4 t ht).2; omega) (by omega) (by omega) (h3 x hx)
def pX (w : World) (M M3 : ah) : ah := fun b => match M b with | some u => if b < w.heap.size ∧ Zt ≤ u then some u else fN M3 b | none => fN M3 b
theorem CB {s : Nat → Ty} {tm : Array Value} {ds : List Deferred} {l : Nat} {r r3 r4 : Loop} {tg0 tg : List (Nat × Cont)} {pass' : List Nat} (hpass : wH fr.pass pass' = true) (hs : Bw fr.n pass' s = true) (ht : o9 tg = true) (hkd : fr.kd = .marks)
    (h0 : fr.w0.heap.size ≤ l) (h1 : ∀ t, ¬ (1 ≤ t ∧ t ∉ fr.pass) → fr.M0 l ≠ some t)
    {w w1 w3 : World} {M M1 M3 : ah} (wf : Wf w M) (z : Ak M) (hj : JJ fr s tm ds l r tg0 w M)
    (le1 : Le (fun t => 1 ≤ t) (fun t => 1 ≤ t ∧ t ∉ pass') w (fN M) w1 M1) (wf3 : Wf w3 M3) (le3 : Le (fun t => 1 ≤ t) (fun t => 1 ≤ t ∧ t ∉ pass') (w1.putObj l (.loop r3)) M1 w3 M3)
    (htg : ∀ x ∈ tg, x.2.den w3 M3 x.1) :
    w3.heap[l]? = some (.loop r3) ∧ ∃ M4, Wf (w3.putObj l (.loop r4)) M4 ∧ Ak M4 ∧ Le (fun t => t < Zt) (fun t => t < Zt) w M (w3.putObj l (.loop r4)) M4 ∧ JJ fr s tm ds l r4 tg (w3.putObj l (.loop r4)) M4 := by
  obtain ⟨hb, hsl, _, hl, hrec, hdef⟩ := hj
  obtain ⟨hp1, hp2⟩ := ql hpass
  have hlt : l < w.heap.size := wf.lt l 0 hl
  have hZ : (1 : Nat) ≤ Zt := by decide
  -- a block whose tag is 0, or another one that stays
  have zero : ∀ b, fN M b = some 0 → M3 b = some 0 ∧ (b ≠ l → w3.heap[b]? = w.heap[b]?) := fun b h => by
    obtain ⟨a, c⟩ := le1.own b 0 h (by omega)
    obtain ⟨a', c'⟩ := le3.own b 0 a (by omega)
    exact ⟨a', fun e => (c' (by omega)).trans ((World.putObj_heap_other e).trans (c (by omega)))⟩
  have pas : ∀ b t, t ∈ pass' → M b = some t → M3 b = some t := fun b t hm h => by
    obtain ⟨a, _⟩ := le1.own b t (fQ h (hp2 t hm).2) (fun h => h.2 hm)
    exact (le3.own b t a fun h => h.2 hm).1
  have oK : ∀ b, b < w.heap.size → M b = none → M3 b = none ∧ w3.heap[b]? = w.heap[b]? := fun b hb h => by
    obtain ⟨a, c⟩ := le1.oK b hb (iA h)
    obtain ⟨a', c'⟩ := le3.oK b (by simpa using Nat.lt_of_lt_of_le hb le1.size) a
    exact ⟨a', c'.trans ((World.putObj_heap_other fun e => by rw [e, hl] at h; cases h).trans c)⟩
  have hl0 : fN M l = some 0 := fQ hl (by decide)
  have hM1l := (le1.own l 0 hl0 (by omega)).1
  have hl1 : l < w1.heap.size := Nat.lt_of_lt_of_le hlt le1.size
  have hrec3 : w3.heap[l]? = some (.loop r3) := ((le3.own l 0 hM1l (by omega)).2 (by omega)).trans (World.putObj_heap_same hl1)
  have hM3l := (zero l hl0).1
  have hsz3 : w.heap.size ≤ w3.heap.size := Nat.le_trans le1.size (by simpa using le3.size)
  refine ⟨hrec3, pX w M M3, ?_⟩
  -- how the tags are
  have kept : ∀ b u, M b = some u → Zt ≤ u → pX w M M3 b = some u := fun b u h hu => by
    unfold pX; rw [h]; simp [wf.lt b u h, hu]
  have other : ∀ b, (∀ u, M b = some u → u < Zt) → pX w M M3 b = fN M3 b := fun b h => by
    unfold pX
    cases hm : M b with
    | none => rfl
    | some u => have := h u hm; simp only; rw [if_neg (by omega)]
  have from3 : ∀ b t, M3 b = some t → 1 ≤ t → ∀ u, M b = some u → u < Zt := fun b t h h1 u hu => by
    rcases Nat.lt_or_ge u Zt with h2 | h2
    · exact h2
    · have := (zero b (zl hu h2)).1
      rw [this] at h; injection h with h; omega
  have none3 : ∀ b, M3 b = none → ∀ u, M b = some u → u < Zt := fun b h u hu => by
    rcases Nat.lt_or_ge u Zt with h2 | h2
    · exact h2
    · have := (zero b (zl hu h2)).1
      rw [this] at h; cases h
  have zok : Ak (pX w M M3) := fun b u h hu => by
    unfold pX at h
    split at h
    · rename_i v hv
      split at h
      · injection h with h; subst h; exact z b v hv hu
      · have := Cw h; omega
    · have := Cw h; omega
  have wf4 : Wf (w3.putObj l (.loop r4)) (pX w M M3) := by
    refine ⟨fun b t h => ?_, fun b b' t ht1 h h' => ?_⟩
    · rw [World.putObj_size]
      unfold pX at h
      split at h
      · split at h
        · rename_i hc; exact Nat.lt_of_lt_of_le hc.1 hsz3
        · exact (qh wf3).lt b t h
      · exact (qh wf3).lt b t h
    · by_cases hz : Zt ≤ t + 1
      · have e1 := zok b _ h hz
        have e2 := zok b' _ h' hz
        omega
      · have part : ∀ b, pX w M M3 b = some (t + 1) → M3 b = some (t + 1) := fun b h => by
          unfold pX at h
          split at h
          · split at h
            · injection h with h; omega
            · exact (om h).1
          · exact (om h).1
        exact wf3.inj b b' t ht1 (part b h) (part b' h')
  have le0 : Le (· ∈ [0]) (· ∈ ([] : List Nat)) w3 M3 (w3.putObj l (.loop r4)) M3 := xx hM3l
  have leZ : Le (fun t => t < Zt) (fun t => t < Zt) w M (w3.putObj l (.loop r4)) (pX w M M3) := by
    refine ⟨by simpa using hsz3, (le0.os.trans (le3.os.trans le1.os)), (le0.tape.trans (le3.tape.trans le1.tape)), (le0.out.trans (le3.out.trans le1.out)), fun b hb hm => ?_, fun b t hm ht => ⟨kept b t hm (by omega), fun _ => ?_⟩⟩
    · obtain ⟨a, c⟩ := oK b hb hm
      refine ⟨by rw [other b (fun u hu => by rw [hm] at hu; cases hu)]; exact iA a, ?_⟩
      rw [World.putObj_heap_other fun e => by rw [e, hl] at hm; cases hm]; exact c
    · have hbl : b ≠ l := fun e => by rw [e, hl] at hm; injection hm with hm; omega
      rw [World.putObj_heap_other hbl]
      exact (zero b (zl hm (by omega))).2 hbl
  refine ⟨wf4, zok, leZ, ?_, fun c hc => ?_, fun x hx => ?_, ?_, World.putObj_heap_same (Nat.lt_of_lt_of_le hlt hsz3), ?_⟩
  · refine ⟨Nat.le_trans hb.size leZ.size, leZ.os.trans hb.os, leZ.tape.trans hb.tape, leZ.out.trans hb.out, fun b hlt' hm => ?_, fun b t hm hk => ?_⟩
    · obtain ⟨a, c⟩ := hb.oK b hlt' hm
      obtain ⟨a', c'⟩ := leZ.oK b (Nat.lt_of_lt_of_le hlt' hb.size) a
      exact ⟨a', c'.trans c⟩
    · obtain ⟨a, c⟩ := hb.own b t hm hk
      have hbl : b ≠ l := fun e => h1 t hk (e ▸ hm)
      by_cases ht0 : t = 0
      · subst ht0
        obtain ⟨a', c'⟩ := zero b (fQ a (by decide))
        refine ⟨by rw [other b (fun u hu => by rw [a] at hu; injection hu with hu; omega)]; exact fQ a' (by decide), fun hs => ?_⟩
        rw [World.putObj_heap_other hbl]; exact (c' hbl).trans (c hs)
      · have htp : t ∈ fr.pass := Classical.byContradiction fun h => hk ⟨by omega, h⟩
        have htp' := hp1 t htp
        refine ⟨by rw [other b (fun u hu => by rw [a] at hu; injection hu with hu; have := (hp2 t htp').2; omega)]; exact fQ (pas b t htp' a) (hp2 t htp').2, fun hs => absurd (FK.Hr (k := fr.kd) (by omega : 1 ≤ t)) hs⟩
  · obtain ⟨e1, e2⟩ := mH hs c hc
    refine (s c).mono (S := fun _ => True) (K := fun t => t ∉ pass') ⟨leZ.size, leZ.os, leZ.tape, leZ.out, leZ.oK, fun b t hm hk => ⟨?_, fun h => absurd trivial h⟩⟩ (fun t ht h => h (e2 t ht)) (by rw [e1]; intro _ h; cases h) (hsl c hc)
    have htp : t ∈ pass' := Classical.byContradiction fun h => hk h
    rw [other b (fun u hu => by rw [hm] at hu; injection hu with hu; have := (hp2 t htp).2; omega)]
    exact fQ (pas b t htp hm) (hp2 t htp).2
  · obtain ⟨⟨g1, g2⟩, e3, e4⟩ := kj ht x hx
    refine x.2.mono (w := w3) (M := M3) (S := fun t => t = 0) (K := fun t => t = 0 ∨ Zt ≤ t) ⟨by simp, rfl, rfl, rfl, fun b hb hm => ⟨?_, ?_⟩, fun b t hm hk => ⟨?_, fun _ => ?_⟩⟩ (fun t ht h => by have := e3 t ht; omega) (fun t ht h => by have := (e4 t ht).1; omega) (by omega) (by omega) (htg x hx)
    · rw [other b (none3 b hm)]; exact iA hm
    · exact World.putObj_heap_other fun e => by rw [e, hM3l] at hm; cases hm
    · have ht1 : 1 ≤ t := Nat.pos_of_ne_zero fun h => hk (.inl h)
      rw [other b (from3 b t hm ht1)]; exact fQ hm (Nat.lt_of_not_le fun h => hk (.inr h))
    · exact World.putObj_heap_other fun e => by rw [e, hM3l] at hm; injection hm with hm; exact hk (.inl hm.symm)
  · rw [other l (fun u hu => by rw [hl] at hu; injection hu with hu; omega)]; exact fQ hM3l (by decide)
  · obtain ⟨rs, e, g1, g2, g3⟩ := hdef
    refine ⟨rs, e, g1, g2, fun q hq => ?_⟩
    obtain ⟨a, b, c⟩ := g3 q hq
    have hql : q ≠ l := fun e => by rw [e, hrec] at c; cases c
    obtain ⟨a', c'⟩ := zero q (fQ a (by decide))
    refine ⟨by rw [other q (fun u hu => by rw [a] at hu; injection hu with hu; omega)]; exact fQ a' (by decide), b, ?_⟩
    rw [World.putObj_heap_other hql]; exact (c' hql).trans c
theorem DG {g : Operand} {ps : List Tmp} {assign body : Code} {gf : FuncId} {caps : List Ty} {encs : List (List Ty)} {resD resS : Ty} (s : Nat → Ty) (tg : Nat → List (Nat × Cont)) (br : Bool) (tr : List (Nat × Cont)) (pass' : List Nat)
    (hkd : fr.kd = .marks) (hg : A.op fr g = .jh gf caps) (hI1 : ∃ fn, P.funcs[gf]? = some fn ∧ (fn.name == "runtime.NumGoroutine") = false ∧ fn.body.isNone = false) (hI2 : ∀ (l : Nat) (J : Nat → World → ah → Prop) (Jx : World → ah → Prop) (tm : Array Value), (∀ k, Cb (J k)) → Cb Jx → NO P l encs J Jx → (∀ k w M, J k w M → (∀ c, c < fr.n → (s c).den w M (tm.getD c undef)) ∧ ∀ x ∈ tg k, x.2.den w M x.1) → ∀ w M vs, Wf w M → Ak M → bt w M (Ty.ex (yv l) :: caps) vs → J 0 w M → Calls P gf vs.toArray w (cO encs.length J Jx resD resS)) (hcd : ∀ t ∈ bl caps, t < Zt) (hcc : ∀ t ∈ bL caps, t < Zt)
    (hps : ps.Nodup) (hlen : ∀ tys ∈ encs, tys.length = ps.length ∧ bl tys = [] ∧ bL tys = []) (hpass : wH fr.pass pass' = true) (hs : Bw fr.n pass' s = true) (htg : ∀ k, o9 (tg k) = true) (htr : o9 tr = true)
    (h0 : cr fr A ⟨s, tg 0⟩)
    (hround : ∀ k tys, encs[k]? = some tys → LJ P fr.n pass' assign body ⟨p7 (ps.zip tys) s, tg k⟩ (tg (k + 1)) br tr)
    (hdone : cm fr ⟨s, tg encs.length⟩ (Q .normal)) (hret : br = true → cm fr ⟨s, tr⟩ (Q .ret)) :
    eU P fr (.rangeFunc g ps.toArray assign body) A Q := by
  intro a w ha
  have hfe : fr.kd.gT = Fence.wide := by rw [hkd]; rfl
  rw [hfe]
  obtain ⟨hp1, hp2⟩ := ql hpass
  have hgv : ∃ cs : Array Value, a.eval g = .func (.func gf) #[] cs ∧ ∃ M, bt w M caps cs.toList := by
    obtain ⟨M, _, hsl, _⟩ := ha
    have := bk (x := g) (rs := bR g) (fun _ h => h) (fun c _ hn => hsl c hn)
    rw [hg] at this
    obtain ⟨cs, e, hd⟩ := this
    exact ⟨cs, e, M, hd⟩
  obtain ⟨M, ok, hsl0, htg0⟩ := id ha
  have hcs : ∃ cs : Array Value, a.eval g = .func (.func gf) #[] cs ∧ bt w M caps cs.toList := by
    have := bk (x := g) (rs := bR g) (fun _ h => h) (fun c _ hn => hsl0 c hn)
    rw [hg] at this
    exact this
  obtain ⟨cs, hev, hcaps⟩ := hcs
  have hB0 := h0.holds (a := a) (w := w) ⟨M, ok, hsl0, htg0⟩
  -- the same tags: the assertion that is forgotten down to holds of them, too
  have hslB : ∀ c, c < fr.n → (s c).den w M (a.tmps.getD c undef) := fun c hc => (tC h0.slots c hc) _ _ _ (hsl0 c hc)
  have htgB : ∀ x ∈ tg 0, x.2.den w M x.1 := fun x hx => by
    obtain ⟨C, hC, hsub⟩ := qN h0.tags x hx
    exact hsub _ _ _ (htg0 _ (cM hC))
  have hZ : (1 : Nat) ≤ Zt := by decide
  refine wpIn_rangeFunc fun fn _ => ?_
  obtain ⟨w1, hw1⟩ : ∃ w1, (w.alloc (.deferred (some []))).alloc (.loop { state := .ready, pending := none, fn, tmps := a.tmps, params := ps.toArray, assign, body, defers := w.heap.size }) = w1 := ⟨_, rfl⟩
  refine ⟨w.heap.size + 1, _, w1, { target := .fn (.func gf) cs, args := #[yv (w.heap.size + 1)] }, w1, gf, (yv (w.heap.size + 1) :: cs.toList).toArray, w1, by rw [← hw1]; exact run_enterLoop_outer fn a.tmps ps.toArray assign body, ?_, fun _ _ => trivial, ?_, (fun h => by cases h), ?_⟩
  · simp [resolve, rangeCall, hev, Deferred.ofValue, yv]; rfl
  · obtain ⟨fn', hf, hn, hb⟩ := hI1
    have hn' : fn'.name ≠ "runtime.NumGoroutine" := by simpa using hn
    have hb' : fn'.body ≠ none := fun h => by rw [h] at hb; cases hb
    simp [invoke, callFunc, hf, hn', hb']
  -- the world in which the iterator is called
  have hnone : ∀ b, w.heap.size ≤ b → M b = none := fun b hb => by
    cases hm : M b with
    | none => rfl
    | some t => have := ok.wf.lt b t hm; omega
  have hsz1 : w1.heap.size = w.heap.size + 2 := by rw [← hw1]; simp
  have hD : w1.heap[w.heap.size]? = some (.deferred (some [])) := by
    rw [← hw1]
    show ((w.heap.push _).push _)[w.heap.size]? = _
    rw [Array.getElem?_push, if_neg (by simp), Array.getElem?_push, if_pos rfl]
  have hL : w1.heap[w.heap.size + 1]? = some (.loop { state := .ready, pending := none, fn, tmps := a.tmps, params := ps.toArray, assign, body, defers := w.heap.size }) := by
    rw [← hw1]
    show ((w.heap.push _).push _)[w.heap.size + 1]? = _
    rw [Array.getElem?_push, if_pos (by simp)]
  have hold : ∀ b, b < w.heap.size → w1.heap[b]? = w.heap[b]? := fun b hb => by
    rw [← hw1]
    show ((w.heap.push _).push _)[b]? = _
    rw [Array.getElem?_push, if_neg (by simp; omega), Array.getElem?_push, if_neg (by omega)]
  have hw1os : w1.os = w.os ∧ w1.tape = w.tape ∧ w1.output = w.output := by rw [← hw1]; exact ⟨rfl, rfl, rfl⟩
  have leN : Le (fun t => Zt ≤ t) (fun t => Zt ≤ t) w M w1 (fun b => if b = w.heap.size ∨ b = w.heap.size + 1 then some 0 else fN M b) := by
    refine ⟨by omega, hw1os.1, hw1os.2.1, hw1os.2.2, fun b hb hm => ⟨?_, hold b hb⟩, fun b t hm ht => ⟨?_, fun _ => hold b (ok.wf.lt b t hm)⟩⟩
    · rw [if_neg (by omega)]; exact iA hm
    · have := ok.wf.lt b t hm
      rw [if_neg (by omega)]; exact fQ hm (Nat.lt_of_not_le ht)
  have wf1 : Wf w1 (fun b => if b = w.heap.size ∨ b = w.heap.size + 1 then some 0 else fN M b) := by
    refine ⟨fun b t h => ?_, fun b b' t ht1 h h' => ?_⟩
    · split at h
      · omega
      · have := (qh ok.wf).lt b t h; omega
    · have part : ∀ b, (if b = w.heap.size ∨ b = w.heap.size + 1 then some 0 else fN M b) = some (t + 1) → fN M b = some (t + 1) := fun b h => by
        split at h
        · cases h
        · exact h
      exact (qh ok.wf).inj b b' t ht1 (part b h) (part b' h')
  have z1 : Ak (fun b => if b = w.heap.size ∨ b = w.heap.size + 1 then some 0 else fN M b) := fun b u h hu => by
    simp only at h
    split at h
    · injection h with h; omega
    · have := Cw h; omega
  have hbl0 : fr.w0.heap.size ≤ w.heap.size + 1 := Nat.le_succ_of_le ok.base.size
  have hbl1 : ∀ t, ¬ (1 ≤ t ∧ t ∉ fr.pass) → fr.M0 (w.heap.size + 1) ≠ some t := fun t ht h => by
    have := (ok.base.own _ t h ht).1
    rw [hnone _ (by omega)] at this; cases this
  have defs1 : Defs fr w1 (fun b => if b = w.heap.size ∨ b = w.heap.size + 1 then some 0 else fN M b) (wG w.heap.size :: a.defers) := by
    obtain ⟨rs, e, g1, g2, g3⟩ := ok.defers
    refine ⟨w.heap.size :: rs, by rw [e]; rfl, fun _ => hkd, List.nodup_cons.2 ⟨fun h => ?_, g2⟩, fun q hq => ?_⟩
    · have := ok.wf.lt _ _ (g3 _ h).1; omega
    · rcases List.mem_cons.1 hq with rfl | hq
      · refine ⟨by simp, ⟨ok.base.size, fun t ht h => ?_⟩, hD⟩
        have := (ok.base.own _ t h ht).1
        rw [hnone _ (Nat.le_refl _)] at this; cases this
      · obtain ⟨a1, b1, c1⟩ := g3 q hq
        have := ok.wf.lt _ _ a1
        exact ⟨by simp only; rw [if_neg (by omega)]; exact fQ a1 (by decide), b1, (hold q this).trans c1⟩
  -- between two rounds
  let R : LoopState → Option Code → Loop := fun st pe => { state := st, pending := pe, fn, tmps := a.tmps, params := ps.toArray, assign, body, defers := w.heap.size }
  let J : Nat → World → ah → Prop := fun k => JJ fr s a.tmps (wG w.heap.size :: a.defers) (w.heap.size + 1) (R .ready none) (tg k)
  let Jx : World → ah → Prop := fun w' M' => br = true ∧ JJ fr s a.tmps (wG w.heap.size :: a.defers) (w.heap.size + 1) (R .done (some .ret)) tr w' M'
  have hJ : ∀ k, Cb (J k) := fun k => Ox hpass hs (htg k)
  have hJx : Cb Jx := fun w M w' M' wf le ⟨h, hj⟩ => ⟨h, Ox hpass hs htr w M w' M' wf le hj⟩
  have hj0 : J 0 w1 (fun b => if b = w.heap.size ∨ b = w.heap.size + 1 then some 0 else fN M b) := by
    refine ⟨Fr.jF ok.base (fun t ht => by omega) (fun t ht => ⟨by omega, fun hm => by have := (hp2 t (hp1 t hm)).2; omega⟩) leN, fun c hc => ?_, fun x hx => ?_, by simp, hL, defs1⟩
    · obtain ⟨e1, e2⟩ := mH hs c hc
      exact (s c).mono leN (fun t ht hz => by have := (hp2 t (e2 t ht)).2; omega) (by rw [e1]; intro _ h; cases h) (hslB c hc)
    · obtain ⟨⟨_, e2⟩, e3, e4⟩ := kj (htg 0) x hx
      exact x.2.mono leN (fun t ht hz => by have := (e3 t ht).2; omega) (fun t ht hz => by have := (e4 t ht).2; omega) (by omega) (by omega) (htgB x hx)
  have hY : NO P (w.heap.size + 1) encs J Jx := by
    intro k tys hk w2 M2 vs wf2 z2 hj hv
    obtain ⟨jb, jsl, jtg, jl, jrec, jdef⟩ := id hj
    have hvl := bw hv
    obtain ⟨htl, hte, htc⟩ := hlen tys (List.mem_of_getElem? hk)
    have hrunY := run_yield (P := P) (args := vs.toArray) jrec (by simp [R]; omega)
    refine ⟨_, _, _, _, hrunY, roundIn_of_wpIn trivial ?_⟩
    obtain ⟨A1, hassign, hbody⟩ := hround k tys hk
    have hzip : (ps.zip tys).map Prod.fst = ps := by rw [List.map_fst_zip (by omega)]
    have hzip2 : (ps.zip tys).map Prod.snd = tys := by rw [List.map_snd_zip (by omega)]
    have conv : ∀ {t : Ty} {v : Value}, (∀ u ∈ t.deps, u < Zt) → t.den w2 M2 v → t.den w2 (fN M2) v := fun {t v} hd h =>
      t.mono (S := fun _ => False) (K := fun u => Zt ≤ u) ⟨Nat.le_refl _, rfl, rfl, rfl, fun b _ hm => ⟨iA hm, rfl⟩, fun b u hm hk => ⟨fQ hm (Nat.lt_of_not_le hk), fun _ => rfl⟩⟩ (fun u hu hz => by have := hd u hu; omega) (fun _ _ h => h) h
    have convC : ∀ {C : Cont} {t : Nat}, (∀ u ∈ C.deps, u < Zt) → t < Zt → C.den w2 M2 t → C.den w2 (fN M2) t := fun {C t} hd ht h =>
      C.mono (S := fun _ => False) (K := fun u => Zt ≤ u) ⟨Nat.le_refl _, rfl, rfl, rfl, fun b _ hm => ⟨iA hm, rfl⟩, fun b u hm hk => ⟨fQ hm (Nat.lt_of_not_le hk), fun _ => rfl⟩⟩ (fun u hu hz => by have := hd u hu; omega) (fun _ _ h => h) (fun h => h) (by omega) h
    obtain ⟨fsz, fden⟩ := D2 (w := w2) (M := fN M2) (n := fr.n) (ps.zip tys) vs a.tmps s (by rw [hzip]; exact hps) ok.size (fun c hc => conv (fun u hu => (hp2 u ((mH hs c hc).2 u hu)).2) (jsl c hc)) (by rw [hzip2]; exact dZ (fun b h => iA h) hte htc hv)
    rw [hzip] at fsz fden
    have htm : ((R .ready none).params.zip vs.toArray).foldl (fun tmps (t, v) => tmps.setIfInBounds t v) a.tmps = (ps.zip vs).foldl (fun t (p, v) => t.setIfInBounds p v) a.tmps := by simp [R]
    have hA0 : As.holds ⟨fr.n, w2, fN M2, pass', .round (w.heap.size + 1)⟩ ⟨p7 (ps.zip tys) s, tg k⟩ { tmps := ((R .ready none).params.zip vs.toArray).foldl (fun tmps (t, v) => tmps.setIfInBounds t v) a.tmps, defers := [] } w2 := by
      rw [htm]
      exact ⟨fN M2, ⟨qh wf2, Le.refl _ _ _ _, fsz, Defs.nil⟩, fden, fun x hx => by
        obtain ⟨⟨_, e2⟩, e3, _⟩ := kj (htg k) x hx
        exact convC (fun u hu => (e3 u hu).2) e2 (jtg x hx)⟩
    have h1 := hassign (w.heap.size + 1) w2 (fN M2) _ _ hA0
    refine Go.wpIn_mono h1 fun e a1 w3 hq => ?_
    cases e with
    | normal =>
      obtain ⟨M3, ok3, hsl3, htg3⟩ := hq
      obtain ⟨l3, l3'⟩ := ok3.base.own (w.heap.size + 1) 0 (fQ jl (by decide)) (by simp)
      have rec3 : w3.heap[w.heap.size + 1]? = some (.loop (R .ready none)) := (l3' (by simp [FK.Lo])).trans jrec
      refine ⟨_, run_beginRound rec3 rfl, ?_⟩
      have hkill := xx (w := w3) (M := M3) (o := .loop { R .ready none with state := .busy }) l3
      have hb0 : As.holds ⟨fr.n, w3.putObj (w.heap.size + 1) (.loop { R .ready none with state := .busy }), M3, pass', .round (w.heap.size + 1)⟩ (A1.after { d := none, S := [0] }) a1 (w3.putObj (w.heap.size + 1) (.loop { R .ready none with state := .busy })) := by
        refine ⟨M3, ⟨⟨fun b t h => by simpa using ok3.wf.lt b t h, ok3.wf.inj⟩, Le.refl _ _ _ _, ok3.size, by rw [ok3.eD (by simp)]; exact Defs.nil⟩, fun c hc => ?_, fun x hx => ?_⟩
        · simp only [As.after, o7]
          rcases ep [0] [] A1.slots c with ⟨e, hdj⟩ | ⟨_, e⟩
          · rw [e]; exact (A1.slots c).mono hkill (eJ hdj).1 (eJ hdj).2 (hsl3 c hc)
          · rw [e]; trivial
        · exact gb hkill (by simpa [As.after] using hx) fun y hy _ => htg3 y hy
      have h2 := hbody (w.heap.size + 1) _ M3 _ _ hb0
      refine Go.wpIn_mono h2 fun e a4 w4 hq4 => ?_
      have le1 : Le (fun t => 1 ≤ t) (fun t => 1 ≤ t ∧ t ∉ pass') w2 (fN M2) w3 M3 := ok3.base
      cases e with
      | normal =>
        obtain ⟨M4, ok4, _, htg4⟩ := hq4
        obtain ⟨r4, M5, g1, g2, g3, g4⟩ := CB (r4 := R .ready none) hpass hs (htg (k + 1)) hkd hbl0 hbl1 wf2 z2 hj le1 ok4.wf ok4.base htg4
        exact ⟨_, _, run_endRound none r4, M5, g1, g2, g3, .inl ⟨rfl, g4⟩⟩
      | ret =>
        obtain ⟨hbr, M4, ok4, _, htg4⟩ := hq4
        obtain ⟨r4, M5, g1, g2, g3, g4⟩ := CB (r4 := R .done (some .ret)) hpass hs htr hkd hbl0 hbl1 wf2 z2 hj le1 ok4.wf ok4.base htg4
        exact ⟨_, _, run_endRound (some .ret) r4, M5, g1, g2, g3, .inr ⟨rfl, hbr, g4⟩⟩
      | exit id => exact hq4.elim
      | goto l => exact hq4.elim
      | panic c => exact hq4.elim
      | outgrown => exact hq4.elim
    | ret => exact hq.elim
    | exit id => exact hq.elim
    | goto l => exact hq.elim
    | panic c => exact hq.elim
    | outgrown => exact hq.elim
  have fin : ∀ (r : Loop) (tgs : List (Nat × Cont)) (w' : World) (M' : ah) (o : Obj), o9 tgs = true → Wf w' M' → JJ fr s a.tmps (wG w.heap.size :: a.defers) (w.heap.size + 1) r tgs w' M' → As.holds fr ⟨s, tgs⟩ { tmps := a.tmps, defers := [{ target := .collected w.heap.size, args := #[] }] ++ a.defers } (w'.putObj (w.heap.size + 1) o) := by
    intro r tgs w' M' o hok wf' ⟨jb, jsl, jtg, jl, jrec, jdef⟩
    have hk0 := xx (w := w') (M := M') (o := o) jl
    refine ⟨M', ⟨⟨fun b t h => by simpa using wf'.lt b t h, wf'.inj⟩, Ek hbl0 hbl1 jb, ok.size, ?_⟩, fun c hc => ?_, fun x hx => ?_⟩
    · obtain ⟨rs, e, g1, g2, g3⟩ := jdef
      refine ⟨rs, e, g1, g2, fun q hq => ?_⟩
      obtain ⟨a1, b1, c1⟩ := g3 q hq
      exact ⟨a1, b1, by rw [World.putObj_heap_other fun e => by rw [e, jrec] at c1; cases c1]; exact c1⟩
    · obtain ⟨e1, e2⟩ := mH hs c hc
      exact (s c).mono hk0 (fun _ _ h => by cases h) (by rw [e1]; intro _ h; cases h) (jsl c hc)
    · obtain ⟨⟨e1, e2⟩, e3, e4⟩ := kj hok x hx
      exact x.2.mono hk0 (fun _ _ h => by cases h) (fun t ht h => by have := (e4 t ht).1; rw [List.mem_singleton.1 h] at this; omega) (fun h => by rw [List.mem_singleton.1 h] at e1; omega) (fun h => by cases h) (jtg x hx)
  refine CallsIn.mono (callsIn_wide.2 (hI2 (w.heap.size + 1) J Jx a.tmps hJ hJx hY (fun k w M hj => ⟨hj.2.1, hj.2.2.1⟩) w1 _ (yv (w.heap.size + 1) :: cs.toList) wf1 z1 ⟨rfl, ?_⟩ hj0)) ?_
  · exact bV leN (fun t ht hz => Nat.lt_irrefl _ (Nat.lt_of_lt_of_le (hcd t ht) hz)) (fun t ht hz => Nat.lt_irrefl _ (Nat.lt_of_lt_of_le (hcc t ht) hz)) hcaps
  · rintro e w' ⟨r, M', he, wf', z', hor⟩
    subst he
    rcases hor with ⟨_, hj⟩ | ⟨_, hbr, hj⟩
    · refine ⟨none, _, run_endLoop hj.2.2.2.2.1 (by simp [R]), ?_⟩
      exact hdone _ _ (fin _ _ w' M' _ (htg _) wf' hj)
    · refine ⟨some .ret, _, run_endLoop hj.2.2.2.2.1 (by simp [R]), ?_⟩
      exact wpIn_ret (hret hbr _ _ (fin _ _ w' M' _ htr wf' hj))
theorem qE {g : Operand} {ps : List Tmp} {assign body : Code} {gf : FuncId} {caps : List Ty} {encs : List (List Ty)} {resD resS : Ty} (s : Nat → Ty) (tg : Nat → List (Nat × Cont)) (br : Bool) (tr : List (Nat × Cont)) (pass' : List Nat)
 (hkd : fr.kd = .marks) (hg : A.op fr g = .jh gf caps) (hI : gr P gf (fun l => Ty.ex (yv l) :: caps) encs resD resS) (hcd : bl caps = []) (hcc : bL caps = [])
 (hps : ps.Nodup) (hlen : ∀ tys ∈ encs, tys.length = ps.length ∧ bl tys = [] ∧ bL tys = []) (hpass : wH fr.pass pass' = true) (hs : Bw fr.n pass' s = true) (htg : ∀ k, o9 (tg k) = true) (htr : o9 tr = true)
 (h0 : cr fr A ⟨s, tg 0⟩)
 (hround : ∀ k tys, encs[k]? = some tys → LJ P fr.n pass' assign body ⟨p7 (ps.zip tys) s, tg k⟩ (tg (k + 1)) br tr)
 (hdone : cm fr ⟨s, tg encs.length⟩ (Q .normal)) (hret : br = true → cm fr ⟨s, tr⟩ (Q .ret)) :
 eU P fr (.rangeFunc g ps.toArray assign body) A Q :=
 DG s tg br tr pass' hkd hg hI.1 (fun l J Jx _ h1 h2 h3 _ w M vs h4 h5 h6 h7 => hI.2 l J Jx h1 h2 h3 w M vs h4 h5 h6 h7) (by rw [hcd]; intro _ h; cases h) (by rw [hcc]; intro _ h; cases h) hps hlen hpass hs htg htr h0 hround hdone hret
end
section
variable {P : Program} {A : As} {fn : Func} {n : Nat} {w0 : World} {M0 : ah} {F : List Nat}
theorem uR {R : Ending → World → Prop} {tm : Array Value} {s : Nat → Ty} {tgs : List (Nat × Cont)} {pass : List Nat} (fr : Fr)
    (hs0 : ∀ c, c < fr.n → ∀ t ∈ (s c).cdeps, t ≠ 0) (ht0 : ∀ x ∈ tgs, x.1 ≠ 0 ∧ ∀ t ∈ x.2.cdeps, t ≠ 0)
    (h : ∀ w M, Wf w M → fr.base w M → (∀ c, c < fr.n → (s c).den w M (tm.getD c undef)) → (∀ x ∈ tgs, x.2.den w M x.1) → ∃ v, (results fn tm).run P w = .ok v w ∧ R (.returned v) w) :
    ∀ (rs : List Nat) (w : World) (M : ah), Wf w M → fr.base w M → (∀ c, c < fr.n → (s c).den w M (tm.getD c undef)) → (∀ x ∈ tgs, x.2.den w M x.1) → rs.Nodup → (∀ r ∈ rs, M r = some 0 ∧ fr.w0.heap.size ≤ r ∧ (∀ t, ¬ (1 ≤ t ∧ t ∉ fr.pass) → fr.M0 r ≠ some t) ∧ w.heap[r]? = some (.deferred (some []))) →
      LeavesInM Fence.wide 0 P fn tm R (rs.map wG) .returning w
  | [], w, M, wf, hb, hs, ht, _, _ => h w M wf hb hs ht
  | r :: rs, w, M, wf, hb, hs, ht, hnd, hr => by
    obtain ⟨a, b, c, d⟩ := hr r List.mem_cons_self
    have le := xx (w := w) (M := M) (o := .deferred none) a
    refine ⟨by simp, .inl ⟨r, _, rfl, run_takeDeferred d, ?_⟩⟩
    refine uR (pass := pass) fr hs0 ht0 h rs _ M ⟨fun b t h => by simpa using wf.lt b t h, wf.inj⟩ (Ek b c hb) (fun c hc => (s c).mono le (fun _ _ h => by cases h) (fun t ht h => hs0 c hc t ht (List.mem_singleton.1 h)) (hs c hc))
      (fun x hx => x.2.mono le (fun _ _ h => by cases h) (fun t htt h => (ht0 x hx).2 t htt (List.mem_singleton.1 h)) (fun h => (ht0 x hx).1 (List.mem_singleton.1 h)) (fun h => by cases h) (ht x hx)) (List.nodup_cons.1 hnd).2 (fun q hq => ?_)
    obtain ⟨a1, b1, c1, d1⟩ := hr q (List.mem_cons_of_mem _ hq)
    refine ⟨a1, b1, c1, ?_⟩
    rw [World.putObj_heap_other fun e => (List.nodup_cons.1 hnd).1 (by rw [← e]; exact hq)]; exact d1
def Hl (n : Nat) (A : As) : Bool := ((List.range n).all fun c => (A.slots c).cdeps.all fun t => Nat.ble 1 t) && A.tags.all fun x => Nat.ble 1 x.1 && x.2.cdeps.all fun t => Nat.ble 1 t
theorem Bd {R : Ending → World → Prop} (hz : Hl n A = true) (h : cm ⟨n, w0, M0, F, .plain⟩ A (bodyPost P fn R .ret)) : cm ⟨n, w0, M0, F, .marks⟩ A (bodyPostM Fence.wide 0 P fn R .ret) := by
 intro a w ⟨M, ok, hsl, htg⟩
 obtain ⟨rs, e, g1, g2, g3⟩ := ok.defers
 simp only [Hl, Bool.and_eq_true, List.all_eq_true, List.mem_range, Nat.ble_eq] at hz
 show LeavesInM Fence.wide 0 P fn a.tmps R a.defers .returning w
 rw [e]
 refine uR (pass := []) (s := A.slots) (tgs := A.tags) ⟨n, w0, M0, F, .marks⟩ (fun c hc t ht => by have := hz.1 c hc t ht; omega) (fun x hx => ⟨by have := (hz.2 x hx).1; omega, fun t ht => by have := (hz.2 x hx).2 t ht; omega⟩) (fun w2 M2 wf hb hs ht => ?_) rs w M ok.wf ok.base hsl htg g2 (fun r hr => ?_)
 ·exact (h { tmps := a.tmps, defers := [] } w2 ⟨M2, ⟨wf, hb, ok.size, Defs.nil⟩, hs, ht⟩).2
 obtain ⟨a1, b1, c1⟩ := g3 r hr
 exact ⟨a1, b1.1, b1.2, c1⟩
theorem vS {f : FuncId} {fn : Func} {c : Code} {args : List Ty} {res : Ty} {n : Nat} (hf : P.funcs[f]? = some fn) (hb : fn.body = some c) (hn : (fn.name == "runtime.NumGoroutine") = false) (hnt : fn.ntmps = n) (hl : args.length ≤ n)
    (h : ∀ w0 M0, eU P ⟨n, w0, M0, [], .marks⟩ c (entry args) (bodyPostM Fence.wide 0 P fn (jY w0 M0 res))) : cy P f args res := by
  refine ⟨⟨fn, hf, hn, by rw [hb]; rfl⟩, fun w M vs wf hM hd => callsIn_wide.1 (callsIn_of_wp_marks (n := 0) hf hb trivial (h w M _ _ ?_))⟩
  have hlen := bw hd
  refine ⟨M, ⟨wf, Le.refl _ _ _ _, by simp [hnt, hlen]; omega, Defs.nil⟩, fun c hc => ?_, by simp [entry]⟩
  simp only [entry]
  cases ha : args[c]? with
  | none => trivial
  | some ty =>
    obtain ⟨v, hv, hdv⟩ := dF hd c ty ha
    have : (vs.toArray ++ Array.replicate (fn.ntmps - vs.toArray.size) undef).getD c undef = v := by
      have hlt : c < vs.length := (List.getElem?_eq_some_iff.1 hv).1
      rw [Array.getD_eq_getD_getElem?, Array.getElem?_append_left (by simpa using hlt)]
      simp [hv]
    rw [this]; exact hdv
theorem Cy {α : Type} [Inhabited α] {xs : List α} {f : α → List Ty} {k : Nat} {t : List Ty} (h : (xs.map f)[k]? = some t) : k < xs.length ∧ t = f (nth xs k) := by
 rw [List.getElem?_map] at h
 obtain ⟨x, hx, rfl⟩ := Option.map_eq_some_iff.1 h
 obtain ⟨hk, e⟩ := List.getElem?_eq_some_iff.1 hx
 exact ⟨hk, by rw [cL hk, e]⟩
theorem Ht {α : Type} [Inhabited α] {xs : List α} {f : α → List Ty} {k : Nat} {t : List Ty} (h : k < xs.length) (e : f (nth xs k) = t) : (xs.map f)[k]? = some t := by
 rw [List.getElem?_map, List.getElem?_eq_getElem h, ← cL h, ← e]; rfl
end
section
variable {P : Program} {fr : Fr} {A : As} {Q : Exit → Act → World → Prop}
theorem AJ (n : Nat) {id : Nat} {l : List Oper} {o : Oper} (hl : l[n]? = some o) (hkd : fr.kd = .iter)
 (h : aV P fr l.toArray (l.take n) A fun A1 _ => ∃ f g, p8 P fr l.toArray o A1 f g ∧ aV P fr l.toArray (l.drop (n + 1)) (A1.after f) (fun A' _ => cm fr A' (Q .normal)) ∧ aV P fr l.toArray (l.drop (n + 1)) (A1.after g) (fun A' _ => cm fr A' (Q .normal))) :
 eU P fr (.region id l.toArray false) A Q := by
 have e : l.take n ++ o :: l.drop (n + 1) = l := by
  obtain ⟨hn, he⟩ := List.getElem?_eq_some_iff.1 hl
  rw [← he, List.getElem_cons_drop, List.take_append_drop]
 have := JC (P := P) (fr := fr) (A := A) (Q := Q) (id := id) (l1 := l.take n) (l2 := l.drop (n + 1)) (o := o) hkd
 rw [e] at this
 exact this h
end
section
variable {P : Program} {fr : Fr} {ops : Array Oper} {A : As} {rest : List Oper} {K : As → List (As × Fx) → Prop} {d : Nat} {t ty' : TypeId} {p : String} {e : Array Edge} {x : Operand}
theorem Qy {tg : Nat} (hx : A.op fr x = .mp tg) (h : aV P fr ops rest (A.set d (.mp tg)) fun A' l' => K A' ((A, { d := some d, ty := .mp tg, rs := bR x }) :: l')) : aV P fr ops (⟨some d, .move x, t, p, e, none⟩ :: rest) A K := ej hx h
theorem SD {tg : Nat} (hx : A.op fr x = .mp tg) (h : aV P fr ops rest (A.set d (.mp tg)) fun A' l' => K A' ((A, { d := some d, ty := .mp tg, rs := bR x }) :: l')) : aV P fr ops (⟨some d, .assign x, t, p, e, none⟩ :: rest) A K := fY hx h
end
section
variable {P : Program} {A : As} {fn : Func} {n : Nat} {w0 : World} {M0 : ah} [T : k5 P]
theorem w6 {α : Type} {E : El α} {xs ys : List α} {tm ty tg Tb : Nat} {ti : TI} (e : xs = ys) (hr : fn.results = #[.cell tm ty]) (ht : Nat.blt tm n = true) (hx : A.slots tm = .ptr tg 0) (hc : A.tag tg = some (.vec E Tb xs)) (h1 : e8 tg) (hT : T.tab[ty]? = some ti) (ha : ti.k.agg = true) (hsz : xs.length * E.size = ti.size) (hne : xs ≠ []) : cm ⟨n, w0, M0, [], .plain⟩ A (bodyPost P fn (jY w0 M0 (.arr E ys)) .ret) := by
 subst e; exact Mn hr ht hx hc h1 hT ha hsz hne
end
end Go.T
namespace Go.T
open Go Go.RowKit
section
variable {P : Program} {fr : Fr} {ops : Array Oper} {A : As} {rest : List Oper} {K : As → List (As × Fx) → Prop} {d : Nat} {t ty' : TypeId} {p : String} {e : Array Edge} [T : k5 P]
variable {α β : Type} {E : El α} {E' : El β} {x y : Operand} {tg off Tb : Nat} {ti te tf : TI} {ty : Ty} {o z : α}
theorem yE {α : Type} (E : El α) (o : α) : [o].flatMap E.tys = E.tys o := by simp
theorem JP (hx : A.op fr x = .ptr tg off) (hc : A.tag tg = some (.vec E Tb [o])) (h1 : e8 tg) (hT : T.tab[ty']? = some ti) (ha : ti.k.agg = false) (hl : (E.tys o)[off]? = some ty)
 (h : aV P fr ops rest (A.set d ty) fun A' l => K A' ((A, { d := some d, ty := ty, rs := bR x, rt := [tg] }) :: l)) : aV P fr ops (⟨some d, .load ty' x, t, p, e, none⟩ :: rest) A K :=
 bB (bH rfl rfl fun a w M wf hr ht => by
  have := bk (x := x) (fun _ h => h) hr
  rw [hx] at this
  obtain ⟨b, hb, e⟩ := this
  obtain ⟨v, hv, hd⟩ := kg wf h1 hb (nL hc w M ht) (by rw [yE]; exact hl)
  exact ⟨v, by simp [execOp, e, lZ hT ha hv], hd⟩) h
theorem sL {l : List Ty} {off n : Nat} {w : World} {M : ah} {b q : Nat} (h : ∀ (i : Nat) (t : Ty), l[i]? = some t → ∃ v, w.cell? ⟨b, q + i, none⟩ = some v ∧ t.den w M v) {m : List Ty} (hm : (l.drop off).take n = m) (hn : m.length = n) :
 ∃ cs : List Value, cs.length = n ∧ bt w M m cs ∧ ∀ j v, cs[j]? = some v → w.cell? ⟨b, q + off + j, none⟩ = some v := by
 have hget : ∀ (i : Nat) (t : Ty), (l.drop off)[i]? = some t → ∃ u, w.cell? ⟨b, q + off + i, none⟩ = some u ∧ t.den w M u := fun i t hi => by
  rw [List.getElem?_drop] at hi
  obtain ⟨v, hv, hd⟩ := h _ _ hi
  exact ⟨v, by rw [Nat.add_assoc]; exact hv, hd⟩
 have hle : n ≤ (l.drop off).length := by
  have := congrArg List.length hm
  rw [List.length_take, hn] at this; omega
 obtain ⟨cs, h1, h2, h3⟩ := FO hget n hle
 exact ⟨cs, h1, hm ▸ h2, h3⟩
theorem s8 (hx : A.op fr x = .ptr tg off) (hc : A.tag tg = some (.vec E Tb [o])) (h1 : e8 tg) (hT : T.tab[ty']? = some ti) (hsz : ti.size = 1) (hy : A.op fr y = ty) (ho : ty.one = true) (hoff : off < E.size) (hdt : kJ ty.cdeps [tg] = true) (hl : (E.tys o).set off ty = E.tys z)
 (h : aV P fr ops rest (A.after { d := none, S := [tg], sets := [(tg, .vec E Tb [z])], rs := bR x ++ bR y, rt := [tg] }) fun A' l'' => K A' ((A, { d := none, S := [tg], sets := [(tg, .vec E Tb [z])], rs := bR x ++ bR y, rt := [tg] }) :: l'')) :
 aV P fr ops (⟨none, .store ty' x y, t, p, e, none⟩ :: rest) A K := by
 have hin : Inhabited α := ⟨o⟩
 exact kY (E := E) (xs := [o]) (i := 0) (o := off) (z := z) (by rw [hx]; congr 1; omega) hc h1 hT hsz hy ho (by simp) hoff hdt (by have : nth [o] 0 = o := rfl; rw [this]; exact hl) h
def rY (E : El α) (o : α) (w : World) (M : ah) (v : Value) : Prop := ∃ cs : Array Value, v = .agg cs ∧ bt w M (E.tys o) cs.toList
def Ty.ao (E : El α) (o : α) : Ty :=
  { den := rY E o, mono := fun le _ _ ⟨cs, e, h⟩ => ⟨cs, e, bV le (by rw [E.nodeps]; intro _ h; cases h) (by rw [E.nocdeps]; intro _ h; cases h) h⟩ }
theorem D3 (E : El α) (o : α) {parts : Array (Nat × Operand)} {fs : List (Nat × Nat)} {ls : List (Nat × List Ty)} (hT : T.tab[ty']? = some ti) (hk : ti.k = .struct fs) (hz : ti.zero ≠ []) (hfs : (fs.all fun f => (T.tab[f.2]?).isSome) = true) (hp : aT A fr parts.toList ls) (hf : qj (placesOf T.tab fs) (ti.zero.map Ty.m9) ls = some (E.tys o))
 (h : aV P fr ops rest (A.set d (.ao E o)) fun A' l' => K A' ((A, { d := some d, ty := .ao E o, rs := parts.toList.flatMap fun x => bR x.2 }) :: l')) : aV P fr ops (⟨some d, .build ty' parts, t, p, e, none⟩ :: rest) A K := by
 have key : aV P fr ops [⟨some d, .build ty' parts, t, p, e, none⟩] A fun _ l => ∃ f, l = [(A, f)] ∧ f = { d := some d, ty := .agg (E.tys o), rs := parts.toList.flatMap fun x => bR x.2 } := c6 hT hk hz hfs hp hf (aD ⟨_, rfl, rfl⟩)
 obtain ⟨f, hop, f', hl, hf'⟩ := key
 have e1 : f = f' := by injection hl with h1 _; injection h1
 subst e1; subst hf'
 obtain ⟨a1, a2, a3, a4, a5⟩ := hop
 refine ⟨{ d := some d, ty := .ao E o, rs := parts.toList.flatMap fun x => bR x.2 }, ⟨a1, a2, a3, a4, fun a w M wf hs hr ht => ?_⟩, h⟩
 exact a5 a w M wf hs hr ht
theorem FV (o : α) (hx : A.op fr x = .ao E o) (hp : fr.pass.contains (d + 1) = false)
 (h : aV P fr ops rest (A.after { d := some d, ty := .ptr (d + 1) 0, K := [d + 1], sets := [(d + 1, .vec E ty' [o])], rs := bR x }) fun A' l' => K A' ((A, { d := some d, ty := .ptr (d + 1) 0, K := [d + 1], sets := [(d + 1, .vec E ty' [o])], rs := bR x }) :: l')) :
 aV P fr ops (⟨some d, .box ty' x, t, p, e, none⟩ :: rest) A K := by
 have _ := T
 refine ⟨_, fH rfl rfl (by simp) (by simp) (by simp at hp ⊢; exact hp) fun a w M wf hr _ => ?_, h⟩
 have hd := bk (x := x) (fun _ h => h) hr
 rw [hx] at hd
 obtain ⟨cs, ex, hds⟩ := hd
 obtain ⟨h1, h2, h3⟩ := jS wf (.cells cs ty') (d + 1)
 refine ⟨.pointer (some ⟨w.heap.size, 0, none⟩), w.alloc (.cells cs ty'), ?_, _, h1, h2, ⟨_, h3, rfl⟩, ?_⟩
 ·simp [execOp, Instr.box, newVar, newRow, newObj, Sem.run, ex, Value.cells]
 intro x hx
 simp only [List.mem_singleton] at hx
 subst hx
 refine .inr ⟨w.heap.size, cs, h3, fD _ _, ?_⟩
 have hlen := bw hds
 rw [yE, ← hlen, List.take_length]
 exact bV h2 (by rw [E.nodeps]; intro _ h; cases h) (by intro _ _ h; cases h) hds
def rq (E : El α) (o : α) (off : Nat) (w : World) (M : ah) (v : Value) : Prop := ∃ b q, v = .pointer (some ⟨b, q + off, none⟩) ∧ nH w M b q (E.tys o)
def Ty.pe (E : El α) (o : α) (off : Nat) : Ty :=
  ⟨rq E o off, [], [], fun le _ _ ⟨b, q, e, h⟩ => ⟨b, q, e, mT le (by rw [E.nodeps]; intro _ h; cases h) (by rw [E.nocdeps]; intro _ h; cases h) h⟩, true, fun _ ⟨_, _, e, _⟩ => e ▸ rfl⟩
theorem fW (hx : A.op fr x = .pe E o off) (hT : T.tab[ty']? = some ti) (ha : ti.k.agg = false) (hl : (E.tys o)[off]? = some ty)
 (h : aV P fr ops rest (A.set d ty) fun A' l => K A' ((A, { d := some d, ty := ty, rs := bR x }) :: l)) : aV P fr ops (⟨some d, .load ty' x, t, p, e, none⟩ :: rest) A K :=
 bB (bH (rt := []) rfl rfl fun a w M _ hr _ => by
  have := bk (x := x) (fun _ h => h) hr
  rw [hx] at this
  obtain ⟨b, q, e, hp⟩ := this
  obtain ⟨v, hv, hd⟩ := hp.2.2 off ty hl
  exact ⟨v, by simp [execOp, e, lZ hT ha hv], hd⟩) h
theorem gY {m : List Ty} (hx : A.op fr x = .pe E o off) (hT : T.tab[ty']? = some ti) (ha : ti.k.agg = true) (hm : ((E.tys o).drop off).take ti.size = m) (hn : m.length = ti.size)
 (h : aV P fr ops rest (A.set d (.agg m)) fun A' l => K A' ((A, { d := some d, ty := .agg m, rs := bR x }) :: l)) : aV P fr ops (⟨some d, .load ty' x, t, p, e, none⟩ :: rest) A K :=
 bB (bH (rt := []) rfl rfl fun a w M _ hr _ => by
  have := bk (x := x) (fun _ h => h) hr
  rw [hx] at this
  obtain ⟨b, q, e, hp⟩ := this
  obtain ⟨cs, g1, g2, g3⟩ := sL hp.2.2 hm hn
  exact ⟨.agg cs.toArray, by simp only [execOp, e]; rw [Sem.run_bind, fX (off := q + off) hT ha g1 g3]; rfl, cs.toArray, rfl, by simpa using g2⟩) h
theorem G5 {ys : List β} (hx : A.op fr x = .pe E o off) (hT : T.tab[ty']? = some ti) (ha : ti.k.agg = true) (hm : ((E.tys o).drop off).take ti.size = ys.flatMap E'.tys) (hn : (ys.flatMap E'.tys).length = ti.size)
 (h : aV P fr ops rest (A.set d (.arr E' ys)) fun A' l => K A' ((A, { d := some d, ty := .arr E' ys, rs := bR x }) :: l)) : aV P fr ops (⟨some d, .load ty' x, t, p, e, none⟩ :: rest) A K :=
 bB (bH (rt := []) rfl rfl fun a w M _ hr _ => by
  have := bk (x := x) (fun _ h => h) hr
  rw [hx] at this
  obtain ⟨b, q, e, hp⟩ := this
  obtain ⟨cs, g1, g2, g3⟩ := sL hp.2.2 hm hn
  exact ⟨.agg cs.toArray, by simp only [execOp, e]; rw [Sem.run_bind, fX (off := q + off) hT ha g1 g3]; rfl, cs.toArray, rfl, by simpa using g2⟩) h
theorem cP (hx : A.op fr x = .pe E o off) (h : aV P fr ops rest (A.set d (.pe E o off)) fun A' l' => K A' ((A, { d := some d, ty := .pe E o off, rs := bR x }) :: l')) : aV P fr ops (⟨some d, .nilCheck x, t, p, e, none⟩ :: rest) A K :=
 bB (bH (rt := []) rfl rfl fun a w M _ hr _ => by
  have _ := T
  have := bk (x := x) (fun _ h => h) hr
  rw [hx] at this
  have hd := this
  obtain ⟨b, q, e, hp⟩ := this
  exact ⟨a.eval x, by simp [execOp, e], hd⟩) h
theorem cR {f : Nat} {fs : List (Nat × Nat)} {fo ft : Nat} (hx : A.op fr x = .pe E o off) (hT : T.tab[ty']? = some ti) (hk : ti.k = .struct fs) (hf : fs[f]? = some (fo, ft)) (hF : T.tab[ft]? = some tf) (h0 : tf.size ≠ 0)
 (h : aV P fr ops rest (A.set d (.pe E o (off + fo))) fun A' l' => K A' ((A, { d := some d, ty := .pe E o (off + fo), rs := bR x }) :: l')) : aV P fr ops (⟨some d, .fieldAddr ty' x f, t, p, e, none⟩ :: rest) A K :=
 bB (bH (rt := []) rfl rfl fun a w M _ hr _ => by
  have := bk (x := x) (fun _ h => h) hr
  rw [hx] at this
  obtain ⟨b, q, ex, hp⟩ := this
  refine ⟨_, by simp only [execOp, ex, Sem.run_bind, vF hT hk hf hF h0]; rfl, b, q, by simp [Nat.add_assoc], hp⟩) h
theorem mP {n : Nat} {k : IntKind} {i : Nat} {el : Nat} (hx : A.op fr x = .pe E o off) (hy : A.op fr y = .int k i) (hT : T.tab[ty']? = some ti) (hk : ti.k = .array n el) (hE : T.tab[el]? = some te) (h1 : i < n)
 (h : aV P fr ops rest (A.set d (.pe E o (off + i * te.size))) fun A' l' => K A' ((A, { d := some d, ty := .pe E o (off + i * te.size), rs := bR x ++ bR y }) :: l')) : aV P fr ops (⟨some d, .indexAddr ty' x y, t, p, e, none⟩ :: rest) A K :=
 bB (bH (rt := []) rfl rfl fun a w M _ hr _ => by
  obtain ⟨hdx, hdy⟩ := op2 hr
  rw [hx] at hdx; rw [hy] at hdy
  obtain ⟨b, q, ex, hp⟩ := hdx
  have ey : a.eval y = .int k i := hdy
  refine ⟨_, by simp only [execOp, ex, ey, Sem.run_bind, iq hT hk hE (Int.natCast_nonneg i) (show (i : Int).toNat < n from h1)]; rfl, b, q, by simp [Nat.add_assoc], hp⟩) h
theorem lT (hx : A.op fr x = .pe E o off) (h : aV P fr ops rest (A.set d (.pe E o off)) fun A' l' => K A' ((A, { d := some d, ty := .pe E o off, rs := bR x }) :: l')) : aV P fr ops (⟨some d, .move x, t, p, e, none⟩ :: rest) A K := by
 have _ := T
 exact ej hx h
theorem Pd (hx : A.op fr x = .pe E o off) (h : aV P fr ops rest (A.set d (.pe E o off)) fun A' l' => K A' ((A, { d := some d, ty := .pe E o off, rs := bR x }) :: l')) : aV P fr ops (⟨some d, .assign x, t, p, e, none⟩ :: rest) A K := by
 have _ := T
 exact fY hx h
theorem Ku {s : Nat} (hx : A.slots s = .ptr tg off) (hc : A.tag tg = some (.vec E Tb [o])) (h1 : e8 tg) : Bu A tg s (.pe E o off) := by
 intro w M v wf ht hv
 rw [hx] at hv
 obtain ⟨b, hb, e⟩ := hv
 have hv := ht _ (cM hc)
 refine ⟨b, 0, by simpa using e, by simp [eK, hb], wf.lt b _ hb, fun i t hi => ?_⟩
 obtain ⟨u, hu, hd⟩ := kg (E := E) (Tb := Tb) (xs := [o]) wf h1 hb hv (by rw [yE]; exact hi)
 refine ⟨u, by rw [Nat.zero_add]; exact hu, t.mono (iI (w := w) (tg := tg)) ?_ ?_ hd⟩
 ·intro u hu
  have : u ∈ bl (E.tys o) := List.mem_flatMap.2 ⟨t, List.mem_of_getElem? hi, hu⟩
  rw [E.nodeps] at this; cases this
 intro u _ h; cases h
end
theorem cy.mono {P : Program} {f : FuncId} {args : List Ty} {r r' : Ty} (h : cy P f args r) (hs : r.Sub r') : cy P f args r' :=
 ⟨h.1, fun w M vs wf hM hd => (h.2 w M vs wf hM hd).mono fun _ _ ⟨v, M', e, a, b, c⟩ => ⟨v, M', e, a, b, hs _ _ _ c⟩⟩
section
variable {P : Program} {fr : Fr} {A : As} {Q : Exit → Act → World → Prop} {x y : Code}
theorem lX {c : Operand} {b : Bool} (hc : A.op fr c = .bool b) (hb : b = true) (h1 : eU P fr x A Q) : eU P fr (.cond c x y) A Q := c8 hc (fun _ => h1) (fun h => by rw [hb] at h; cases h)
theorem dh {c : Operand} {b : Bool} (hc : A.op fr c = .bool b) (hb : b = false) (h1 : eU P fr y A Q) : eU P fr (.cond c x y) A Q := c8 hc (fun h => by rw [hb] at h; cases h) (fun _ => h1)
end
end Go.T
namespace Go.T
open Go Go.RowKit
def Ty.nd (t : Ty) (h1 : t.deps = []) (h2 : t.cdeps = []) : Ty := ⟨t.den, [], [], fun le _ _ h => t.mono le (by rw [h1]; intro _ h; cases h) (by rw [h2]; intro _ h; cases h) h, t.one, t.isOne⟩
theorem PR {P : Program} {t : Ty} {args : List Ty} {res : Ty} (h1 : t.deps = []) (h2 : t.cdeps = []) (h : rS P t args res) : rS P (t.nd h1 h2) args res := h
def fI (c : Bool) (t : Ty) (w : World) (M : ah) (v : Value) : Prop := v.oneCell' = true ∧ (c = true → t.den w M v)
def Ty.when (c : Bool) (t : Ty) : Ty := { den := fI c t, deps := t.deps, cdeps := t.cdeps, mono := fun le hk hs h => ⟨h.1, fun hc => t.mono le hk hs (h.2 hc)⟩, one := true, isOne := fun _ h => h.1 }
theorem Ty.mZ {c : Bool} {t : Ty} (h : c = true) : (Ty.when c t).Sub t := fun _ _ _ hd => hd.2 h
theorem Ty.jR {c : Bool} {s t : Ty} (ho : s.one = true) (h : c = true → s.Sub t) : s.Sub (Ty.when c t) := fun _ _ _ hd => ⟨s.isOne ho hd, fun hc => h hc _ _ _ hd⟩
theorem Ty.qc {a b c d : Ty} (h1 : a.Sub c) (h2 : b.Sub d) : (Ty.jk [a, b]).Sub (Ty.jk [c, d]) := fun _ _ _ ⟨cs, e, hd⟩ => ⟨cs, e, by
  cases h : cs.toList with
  | nil => rw [h] at hd; exact hd.elim
  | cons x l => cases l with
    | nil => rw [h] at hd; exact hd.2.elim
    | cons y l => rw [h] at hd; exact ⟨h1 _ _ _ hd.1, h2 _ _ _ hd.2.1, hd.2.2⟩⟩
section
variable {P : Program} {fr : Fr} {ops : Array Oper} {A : As} {rest : List Oper} {K : As → List (As × Fx) → Prop} {d : Nat} {t ty' : TypeId} {p : String} {e : Array Edge}
variable {α β : Type} {E : El α} {E' : El β} {x y : Operand} {tg off Tb : Nat} {ti te tf : TI} {ty : Ty} {o z : α} {xs : List α}
def ry (E : El α) (xs : List α) (off : Nat) (w : World) (M : ah) (v : Value) : Prop := ∃ b q, v = .pointer (some ⟨b, q + off, none⟩) ∧ nH w M b q (xs.flatMap E.tys)
def Ty.pa (E : El α) (xs : List α) (off : Nat) : Ty :=
  ⟨ry E xs off, [], [], fun le _ _ ⟨b, q, e, h⟩ => ⟨b, q, e, mT le (by rw [E.cW]; intro _ h; cases h) (by rw [E.cC]; intro _ h; cases h) h⟩, true, fun _ ⟨_, _, e, _⟩ => e ▸ rfl⟩
theorem SC {c : Bool} {ty : Ty} (hx : A.op fr x = .when c ty) (h : aV P fr ops rest (A.set d (.when c ty)) fun A' l' => K A' ((A, { d := some d, ty := .when c ty, rs := bR x }) :: l')) : aV P fr ops (⟨some d, .move x, t, p, e, none⟩ :: rest) A K := ej hx h
theorem O3 {c : Bool} {ty : Ty} (hx : A.op fr x = .when c ty) (h : aV P fr ops rest (A.set d (.when c ty)) fun A' l' => K A' ((A, { d := some d, ty := .when c ty, rs := bR x }) :: l')) : aV P fr ops (⟨some d, .assign x, t, p, e, none⟩ :: rest) A K := fY hx h
variable [T : k5 P]
theorem Eg {n : Nat} {k : IntKind} {i : Int} {el : Nat} (hx : A.op fr x = .pe E o off) (hy : A.op fr y = .int k i) (hT : T.tab[ty']? = some ti) (hk : ti.k = .array n el) (hE : T.tab[el]? = some te) (h0 : 0 ≤ i) (h1 : i.toNat < n)
 (h : aV P fr ops rest (A.set d (.pe E o (off + i.toNat * te.size))) fun A' l' => K A' ((A, { d := some d, ty := .pe E o (off + i.toNat * te.size), rs := bR x ++ bR y }) :: l')) : aV P fr ops (⟨some d, .indexAddr ty' x y, t, p, e, none⟩ :: rest) A K :=
 bB (bH (rt := []) rfl rfl fun a w M _ hr _ => by
  obtain ⟨hdx, hdy⟩ := op2 hr
  rw [hx] at hdx; rw [hy] at hdy
  obtain ⟨b, q, ex, hp⟩ := hdx
  have ey : a.eval y = .int k i := hdy
  refine ⟨_, by simp only [execOp, ex, ey, Sem.run_bind, iq hT hk hE h0 h1]; rfl, b, q, by simp [Nat.add_assoc], hp⟩) h
end
theorem eS {α : Type} {E : El α} {xs : List α} (e : xs = []) : eu (Ty.ex (.slice none 0 0)) (Ty.sl E xs) := e ▸ OC
theorem yD (w : World) (M : ah) : (n9.ty false).den w M (.bool false) := rfl
def OU : List Ty → List Ty → Prop
  | [], [] => True
  | s :: ss, t :: ts => s.Sub t ∧ OU ss ts
  | _, _ => False
theorem vi {w : World} {M : ah} : ∀ {ss ts : List Ty} {vs : List Value}, OU ss ts → bt w M ss vs → bt w M ts vs
  | [], [], [], _, _ => trivial
  | _ :: _, _ :: _, _ :: _, ⟨h, h'⟩, ⟨h1, h2⟩ => ⟨h _ _ _ h1, vi h' h2⟩
theorem cy.args {P : Program} {f : FuncId} {a a' : List Ty} {r : Ty} (h : cy P f a r) (hs : OU a' a) : cy P f a' r :=
 ⟨h.1, fun w M vs wf hM hd => h.2 w M vs wf hM (vi hs hd)⟩
section
variable {P : Program} {A : As} {fn : Func} {n m : Nat} {w0 : World} {M0 : ah} {J : Nat → World → ah → Prop} {Jx : World → ah → Prop} {resD resS : Ty}
theorem IP {k : Nat} {hJ : ∀ k, Cb (J k)} (e : k = m) (hr : fn.results = #[]) (ht : A.tag 0 = some (CJ (hJ k))) : cm ⟨n, w0, M0, [], .iter⟩ A (bodyPost P fn (cO m J Jx (Ty.jk []) resS) .ret) := by
 subst e; exact P1 hr ht
end
end Go.T
namespace Go.T
open Go Go.RowKit Go.ChangeShapes Go.WideShapes Go.ChangeAt
def rQ : ah := fun _ => none
theorem N8 (w : World) : Wf w rQ := ⟨fun _ _ h => (by cases h), fun _ _ _ _ h => (by cases h)⟩
theorem Jv : ∀ b t, rQ b = some t → t = 0 := fun _ _ h => by cases h
structure Rd {α : Type} (P : Program) (e : TypeId) (E : El α) : Prop where
  size : P.cellsOf e = E.size
  pos : 0 < E.size
  rd : ∀ {H : Type} {enc : TypeId × Value → H} {w : World} {base : Nat} {held : Bool} {n : Nat} {cs : List Value} {y : DataW H × List MemPlace}, DataW.trod enc P w base (fun _ => true) held n e cs = some y → ∃ x, bt w rQ (E.tys x) cs
section
variable {H : Type} {enc : TypeId × Value → H} {P : Program} {w : World} {base : Nat} {held : Bool} {α : Type} {E : El α} {t e : TypeId} {n : Nat} {cs : List Value} {y : DataW H × List MemPlace}
theorem Qm (hR : Rd P e E) (ht : P.underlying t = some (.slice e)) (h : DataW.trod enc P w base (fun _ => true) held n t cs = some y) : ∃ v xs, cs = [v] ∧ (Ty.sl E xs).den w rQ v := by
 rcases Go.Deep.open_slice ht h with ⟨rfl, _⟩ | ⟨a, len, cap, m, k, D, Pl, rfl, _, hl, hm, hmm, _, hel⟩
 ·exact ⟨_, [], rfl, none, 0, rfl, Nat.le_refl _, Nat.zero_le _, fun h => absurd h (Nat.lt_irrefl _)⟩
 have hlm : len ≤ m := by rw [hmm]; simpa using hl
 have hX : ∀ i : Fin len, ∃ x : α, ∃ cs', w.cells? base (a.add (i.1 * P.cellsOf e)) (P.cellsOf e) = some cs' ∧ bt w rQ (E.tys x) cs' := fun i => by
  obtain ⟨cs', h1, h2⟩ := hel i.1 (Nat.lt_of_lt_of_le i.2 hlm)
  obtain ⟨x, hx⟩ := hR.rd h2
  exact ⟨x, cs', h1, hx⟩
 let X : Fin len → α := fun i => (hX i).choose
 have hXs : ∀ i : Fin len, ∃ cs', w.cells? base (a.add (i.1 * P.cellsOf e)) (P.cellsOf e) = some cs' ∧ bt w rQ (E.tys (X i)) cs' := fun i => (hX i).choose_spec
 have hlen : (List.ofFn X).length = len := by simp
 refine ⟨_, List.ofFn X, rfl, some a, cap, by rw [hlen], by rw [hlen]; exact hl, hm, fun h0 => ?_⟩
 rw [hlen] at h0
 have hcell : ∀ (i : Fin len) (j : Nat) (u : Ty), (E.tys (X i))[j]? = some u → ∃ v, w.cell? (a.add (i.1 * E.size + j)) = some v ∧ u.den w rQ v := fun i j u hu => by
  obtain ⟨cs', h1, h2⟩ := hXs i
  obtain ⟨v, hv, hd⟩ := dF h2 j u hu
  obtain ⟨_, g1, g2⟩ := World.cells?_some h1
  have hj : j < P.cellsOf e := by
   rw [hR.size, ← E.len (X i)]
   exact (List.getElem?_eq_some_iff.1 hu).1
  refine ⟨v, ?_, hd⟩
  have := g2 j hj
  rw [Go.Deep.add_add, hv, hR.size] at this
  exact this
 have hsz := hR.pos
 have hfirst : ∃ v, w.cell? (a.add 0) = some v := by
  obtain ⟨u, hu⟩ : ∃ u, (E.tys (X ⟨0, h0⟩))[0]? = some u := ⟨_, List.getElem?_eq_getElem (by rw [E.len]; exact hsz)⟩
  obtain ⟨v, hv, _⟩ := hcell ⟨0, h0⟩ 0 u hu
  exact ⟨v, by simpa using hv⟩
 obtain ⟨b, off, sp⟩ := a
 obtain ⟨v0, hv0⟩ := hfirst
 have hsp : sp = none := by simpa [Addr.add] using World.cell?_spot hv0
 subst hsp
 have hb : b < w.heap.size := by
  obtain ⟨cs', h1, _⟩ := hXs ⟨0, h0⟩
  have := World.cells?_block h1 (by rw [hR.size]; exact hsz)
  simpa [Addr.add] using this
 refine ⟨b, off, rfl, rfl, hb, fun i u hu => ?_⟩
 have hi : i < len * E.size := by
  have := (List.getElem?_eq_some_iff.1 hu).1
  rw [cg, hlen] at this; exact this
 have hk : i / E.size < len := Nat.div_lt_of_lt_mul (by rw [Nat.mul_comm]; exact hi)
 have hj : i % E.size < E.size := Nat.mod_lt _ hsz
 have hij : i / E.size * E.size + i % E.size = i := by rw [Nat.mul_comm]; exact Nat.div_add_mod i E.size
 have hu2 := hu
 rw [← hij, uG E _ _ _ (by rw [hlen]; exact hk) hj, List.getElem?_ofFn, dif_pos hk] at hu2
 obtain ⟨v, hv, hd⟩ := hcell ⟨i / E.size, hk⟩ (i % E.size) u hu2
 refine ⟨v, ?_, hd⟩
 rw [← Go.WideShapes.add_plain]
 rw [hij] at hv
 exact hv
theorem QC {c : Value} (hR : Rd P e E) (ht : P.underlying t = some (.slice e)) (h : DataW.trod enc P w base (fun _ => true) held n t [c] = some y) : ∃ xs, (Ty.sl E xs).den w rQ c := by
 obtain ⟨v, xs, e, hd⟩ := Qm hR ht h
 exact ⟨xs, by rw [show c = v by simpa using e]; exact hd⟩
end
section
variable {w w' : World} {S K : Nat → Prop} {M' : ah}
theorem uO (le : Le S K w rQ w' M') {b : Nat} (hb : b < w.heap.size) : w'.heap[b]? = w.heap[b]? := (le.oK b hb rfl).2
theorem Ny (le : Le S K w rQ w' M') {p : MemPlace} (hp : p.block < w.heap.size) : w.sameAt w' p := by
  cases p with
  | cell b o => exact World.cell?_of_block (w := w) (uO le hp)
  | map b => exact uO le hp
theorem NR (le : Le S K w rQ w' M') (may : MemPlace → Prop) : w.keptBut w' may := by
 refine ⟨le.os, le.out, fun i hi => ?_⟩
 have e := uO le hi
 rw [e]
 split
 ·rename_i h1 h2
  rw [h1] at h2
  simp only [Option.some.injEq, Obj.cells.injEq] at h2
  obtain ⟨rfl, rfl, rfl⟩ := h2
  exact ⟨rfl, rfl, rfl, fun _ _ => rfl⟩
 ·rename_i h1 h2
  rw [h1] at h2
  simp only [Option.some.injEq, Obj.map.injEq] at h2
  exact Or.inr ⟨h2.1.symm, h2.2.symm⟩
 rfl
theorem Iz (le : Le S K w rQ w' M') {a : Addr} (ha : a.block < w.heap.size) : w'.frozen? a = w.frozen? a := by
 unfold World.frozen?
 rw [uO le ha]
end
section
variable {H : Type} {enc : TypeId × Value → H} {P : Program}
theorem rV (hl : laidOutB P = true) {w w' : World} {sp : Nat → Bool} : ∀ {ts : List TypeId} {vs : List Value} {ds : List (DataW H)} {ps : List MemPlace}, (∀ t ∈ ts, P.readableRec t = true ∧ t < P.types.size) →
    DataW.TrodAll enc P w 0 (fun _ => true) true ts vs ds ps → (∀ p ∈ ps, w.sameAt w' p) → (∀ p ∈ ps, sp p.block = true) → DataW.TrodAll enc P w' 0 sp true ts vs ds ps
  | [], [], [], _, _, h, _, _ => h
  | t :: ts, v :: vs, d :: ds, _, ht, ⟨p, q, h1, h2, e⟩, hs, hsp => by
    subst e
    have h0 := ht t List.mem_cons_self
    exact ⟨p, q, Go.WideElems.Trod_stays hl h0.1 h0.2 h1 (fun x hx => hs x (List.mem_append_left _ hx)) (fun x hx => hsp x (List.mem_append_left _ hx)),
      rV hl (fun t h => ht t (List.mem_cons_of_mem _ h)) h2 (fun x hx => hs x (List.mem_append_right _ hx)) (fun x hx => hsp x (List.mem_append_right _ hx)), rfl⟩
theorem Ih {f : Func} {s : ChangeSpec} {apart fresh handsOn again : Bool} {W W' : World} {args : Array Value} {ds : List (DataW H)} {before : List MemPlace} {S K : Nat → Prop} {M' : ah}
 (hl : laidOutB P = true) (hv : s.vars = []) (hrd : ∀ t ∈ f.params.toList, P.readableRec t = true ∧ t < P.types.size) {tb : TypeId} (htb : P.underlying tb = some .bool) (hrt : f.resultTypes = #[tb])
 (hW : DataW.Whole enc P f.params.toList s.vars apart W args.toList ds [] before) (hres : (s.fn H (ds ++ [])).results = [.lit (.bool true)]) (hargs : (s.fn H (ds ++ [])).args = ds) (hvars : (s.fn H (ds ++ [])).vars = [])
 (le : Le S K W rQ W' M') : s.post enc P f apart fresh handsOn again W args (.bool true) W' := by
 have hW0 := hW
 obtain ⟨p, q, hA, hV, hb, hfz, hn⟩ := hW0
 have hlt := DataW.TrodAll.lt hA
 have hq : q = [] := by rw [hv] at hV; exact (trodVars_none hV).2
 subst hq
 have hbp : before = p := by rw [hb]; simp
 have hre : ∀ (b : Nat) (sp : Nat → Bool) (hd : Bool), DataW.TrodAll enc P W' b sp hd f.resultTypes.toList ((Value.bool true).resultList f.resultTypes.size) (s.fn H (ds ++ [])).results [] := fun b sp hd => by
  rw [hrt, hres]; exact trodAll_mk1 (shut_bool htb true)
 have har : ∀ sp : Nat → Bool, (∀ x ∈ p, sp x.block = true) → DataW.TrodAll enc P W' 0 sp true f.params.toList args.toList (s.fn H (ds ++ [])).args p := fun sp hsp => by
  rw [hargs]; exact rV hl hrd hA (fun x hx => Ny le (hlt x hx)) hsp
 have hva : ∀ sp : Nat → Bool, DataW.TrodVars enc P W' sp s.vars (s.fn H (ds ++ [])).vars [] := fun sp => by
  rw [hvars, hv]; exact rfl
 have hok : ∀ (j : Nat) (t : TypeId) (r : Value), f.resultTypes[j]? = some t → ((Value.bool true).resultList f.resultTypes.size)[j]? = some r → Value.okWide P W' .any 0 t r := by
  exact ok_one (by rw [hrt]) rfl (okWide_bool_mk htb true)
 refine ⟨ds, [], before, [], p, [], hW, hre _ _ _, har _ (fun x hx => by simpa using hlt x hx), hva _, World.keptBut_mono (fun x hx => hx) (NR le _), fun _ => ?_⟩
 refine ⟨hok, _, _, ([] ++ p) ++ [], ⟨[] ++ p, [], trodAll_append (har _ (fun _ _ => rfl)) (hre _ _ _), hva _, rfl, ?_, ?_⟩, ?_⟩
 ·intro b off hp
  have hp' : MemPlace.cell b off ∈ p := by simpa using hp
  rw [Iz le (hlt _ hp')]
  exact hfz b off (by rw [hbp]; exact hp')
 ·intro ha
  have := hn ha
  rw [hbp] at this
  simpa using this
 intro x hx _
 rw [hbp]
 simpa using hx
end
end Go.T
namespace Go.Proofs.YtmmcenjknimhbaaGreat
open Go Go.T
def types : List TI := [
  ⟨.other, 1, 0, [.tuple #[]]⟩,
  ⟨.func, 1, 8, [.nilFunc]⟩,
  ⟨.int .i64, 1, 8, [.int .i64 0]⟩,
  ⟨.int .i64, 1, 8, [.int .i64 0]⟩,
  ⟨.bool, 1, 1, [.bool false]⟩,
  ⟨.int .u8, 1, 1, [.int .u8 0]⟩,
  ⟨.int .u8, 1, 1, [.int .u8 0]⟩,
  ⟨.struct [(0, 2), (1, 3), (2, 4), (3, 6)], 4, 24, [.int .i64 0, .int .i64 0, .bool false, .int .u8 0]⟩,
  ⟨.struct [(0, 2), (1, 3), (2, 4), (3, 6)], 4, 24, [.int .i64 0, .int .i64 0, .bool false, .int .u8 0]⟩,
  ⟨.string, 1, 16, [.string ByteArray.empty]⟩,
  ⟨.string, 1, 16, [.string ByteArray.empty]⟩,
  ⟨.string, 1, 16, [.string ByteArray.empty]⟩,
  ⟨.int .u64, 1, 8, [.int .u64 0]⟩,
  ⟨.struct [(0, 9), (1, 12)], 2, 24, [.string ByteArray.empty, .int .u64 0]⟩,
  ⟨.struct [(0, 9), (1, 12)], 2, 24, [.string ByteArray.empty, .int .u64 0]⟩,
  ⟨.ptr 276, 1, 8, [.pointer none]⟩,
  ⟨.ptr 279, 1, 8, [.pointer none]⟩,
  ⟨.ptr 287, 1, 8, [.pointer none]⟩,
  ⟨.struct [(0, 17)], 1, 8, [.pointer none]⟩,
  ⟨.struct [(0, 17)], 1, 8, [.pointer none]⟩,
  ⟨.other, 1, 16, [.nilIface]⟩,
  ⟨.int .i32, 1, 4, [.int .i32 0]⟩,
  ⟨.slice 5, 1, 24, [.slice none 0 0]⟩,
  ⟨.slice 3, 1, 24, [.slice none 0 0]⟩,
  ⟨.slice 44, 1, 24, [.slice none 0 0]⟩,
  ⟨.slice 34, 1, 24, [.slice none 0 0]⟩,
  ⟨.slice 92, 1, 24, [.slice none 0 0]⟩,
  ⟨.struct [(0, 23), (1, 24), (2, 25), (3, 26)], 4, 96, [.slice none 0 0, .slice none 0 0, .slice none 0 0, .slice none 0 0]⟩,
  ⟨.struct [(0, 23), (1, 24), (2, 25), (3, 26)], 4, 96, [.slice none 0 0, .slice none 0 0, .slice none 0 0, .slice none 0 0]⟩,
  ⟨.func, 1, 8, [.nilFunc]⟩,
  ⟨.ptr 95, 1, 8, [.pointer none]⟩,
  ⟨.func, 1, 8, [.nilFunc]⟩,
  ⟨.func, 1, 8, [.nilFunc]⟩,
  ⟨.struct [(0, 3), (1, 3), (2, 3)], 3, 24, [.int .i64 0, .int .i64 0, .int .i64 0]⟩,
  ⟨.struct [(0, 3), (1, 3), (2, 3)], 3, 24, [.int .i64 0, .int .i64 0, .int .i64 0]⟩,
  ⟨.func, 1, 8, [.nilFunc]⟩,
  ⟨.slice 48, 1, 24, [.slice none 0 0]⟩,
  ⟨.slice 50, 1, 24, [.slice none 0 0]⟩,
  ⟨.slice 152, 1, 24, [.slice none 0 0]⟩,
  ⟨.struct [(0, 3), (1, 36), (2, 37), (3, 38)], 4, 80, [.int .i64 0, .slice none 0 0, .slice none 0 0, .slice none 0 0]⟩,
  ⟨.struct [(0, 3), (1, 36), (2, 37), (3, 38)], 4, 80, [.int .i64 0, .slice none 0 0, .slice none 0 0, .slice none 0 0]⟩,
  ⟨.struct [(0, 23), (1, 23)], 2, 48, [.slice none 0 0, .slice none 0 0]⟩,
  ⟨.struct [(0, 23), (1, 23)], 2, 48, [.slice none 0 0, .slice none 0 0]⟩,
  ⟨.struct [(0, 3), (1, 23)], 2, 32, [.int .i64 0, .slice none 0 0]⟩,
  ⟨.struct [(0, 3), (1, 23)], 2, 32, [.int .i64 0, .slice none 0 0]⟩,
  ⟨.struct [(0, 3), (1, 3)], 2, 16, [.int .i64 0, .int .i64 0]⟩,
  ⟨.struct [(0, 3), (1, 3)], 2, 16, [.int .i64 0, .int .i64 0]⟩,
  ⟨.struct [(0, 3), (1, 46)], 3, 24, [.int .i64 0, .int .i64 0, .int .i64 0]⟩,
  ⟨.struct [(0, 3), (1, 46)], 3, 24, [.int .i64 0, .int .i64 0, .int .i64 0]⟩,
  ⟨.struct [(0, 3), (1, 3), (2, 3), (3, 46)], 5, 40, [.int .i64 0, .int .i64 0, .int .i64 0, .int .i64 0, .int .i64 0]⟩,
  ⟨.struct [(0, 3), (1, 3), (2, 3), (3, 46)], 5, 40, [.int .i64 0, .int .i64 0, .int .i64 0, .int .i64 0, .int .i64 0]⟩,
  ⟨.slice 23, 1, 24, [.slice none 0 0]⟩,
  ⟨.int .i64, 1, 8, [.int .i64 0]⟩,
  ⟨.other, 1, 0, [.tuple #[.slice none 0 0, .int .i64 0]]⟩,
  ⟨.func, 1, 8, [.nilFunc]⟩,
  ⟨.func, 1, 8, [.nilFunc]⟩,
  ⟨.func, 1, 8, [.nilFunc]⟩,
  ⟨.func, 1, 8, [.nilFunc]⟩,
  ⟨.func, 1, 8, [.nilFunc]⟩,
  ⟨.int .u16, 1, 2, [.int .u16 0]⟩,
  ⟨.slice 67, 1, 24, [.slice none 0 0]⟩,
  ⟨.struct [(0, 23), (1, 60)], 2, 48, [.slice none 0 0, .slice none 0 0]⟩,
  ⟨.struct [(0, 23), (1, 60)], 2, 48, [.slice none 0 0, .slice none 0 0]⟩,
  ⟨.func, 1, 8, [.nilFunc]⟩,
  ⟨.slice 70, 1, 24, [.slice none 0 0]⟩,
  ⟨.func, 1, 8, [.nilFunc]⟩,
  ⟨.struct [(0, 3), (1, 3), (2, 3)], 3, 24, [.int .i64 0, .int .i64 0, .int .i64 0]⟩,
  ⟨.struct [(0, 3), (1, 3), (2, 3)], 3, 24, [.int .i64 0, .int .i64 0, .int .i64 0]⟩,
  ⟨.func, 1, 8, [.nilFunc]⟩,
  ⟨.struct [(0, 3), (1, 3)], 2, 16, [.int .i64 0, .int .i64 0]⟩,
  ⟨.struct [(0, 3), (1, 3)], 2, 16, [.int .i64 0, .int .i64 0]⟩,
  ⟨.other, 1, 0, [.tuple #[.agg #[.slice none 0 0, .slice none 0 0], .int .i64 0]]⟩,
  ⟨.func, 1, 8, [.nilFunc]⟩,
  ⟨.slice 60, 1, 24, [.slice none 0 0]⟩,
  ⟨.func, 1, 8, [.nilFunc]⟩,
  ⟨.func, 1, 8, [.nilFunc]⟩,
  ⟨.func, 1, 8, [.nilFunc]⟩,
  ⟨.other, 1, 0, [.tuple #[.int .i64 0, .int .i64 0]]⟩,
  ⟨.func, 1, 8, [.nilFunc]⟩,
  ⟨.func, 1, 8, [.nilFunc]⟩,
  ⟨.func, 1, 8, [.nilFunc]⟩,
  ⟨.slice 46, 1, 24, [.slice none 0 0]⟩,
  ⟨.other, 1, 0, [.tuple #[.slice none 0 0, .int .i64 0]]⟩,
  ⟨.func, 1, 8, [.nilFunc]⟩,
  ⟨.func, 1, 8, [.nilFunc]⟩,
  ⟨.func, 1, 8, [.nilFunc]⟩,
  ⟨.func, 1, 8, [.nilFunc]⟩,
  ⟨.func, 1, 8, [.nilFunc]⟩,
  ⟨.func, 1, 8, [.nilFunc]⟩,
  ⟨.func, 1, 8, [.nilFunc]⟩,
  ⟨.func, 1, 8, [.nilFunc]⟩,
  ⟨.struct [(0, 3), (1, 3)], 2, 16, [.int .i64 0, .int .i64 0]⟩,
  ⟨.struct [(0, 3), (1, 3)], 2, 16, [.int .i64 0, .int .i64 0]⟩,
  ⟨.int .u32, 1, 4, [.int .u32 0]⟩,
  ⟨.struct [(0, 22), (1, 3), (2, 93)], 3, 40, [.slice none 0 0, .int .i64 0, .int .u32 0]⟩,
  ⟨.struct [(0, 22), (1, 3), (2, 93)], 3, 40, [.slice none 0 0, .int .i64 0, .int .u32 0]⟩,
  ⟨.func, 1, 8, [.nilFunc]⟩,
  ⟨.func, 1, 8, [.nilFunc]⟩,
  ⟨.func, 1, 8, [.nilFunc]⟩,
  ⟨.func, 1, 8, [.nilFunc]⟩,
  ⟨.func, 1, 8, [.nilFunc]⟩,
  ⟨.func, 1, 8, [.nilFunc]⟩,
  ⟨.ptr 160, 1, 8, [.pointer none]⟩,
  ⟨.other, 1, 0, [.tuple #[.pointer none, .slice none 0 0, .int .i64 0]]⟩,
  ⟨.func, 1, 8, [.nilFunc]⟩,
  ⟨.array 4 3, 4, 32, [.int .i64 0, .int .i64 0, .int .i64 0, .int .i64 0]⟩,
  ⟨.array 4 3, 4, 32, [.int .i64 0, .int .i64 0, .int .i64 0, .int .i64 0]⟩,
  ⟨.func, 1, 8, [.nilFunc]⟩,
  ⟨.func, 1, 8, [.nilFunc]⟩,
  ⟨.func, 1, 8, [.nilFunc]⟩,
  ⟨.func, 1, 8, [.nilFunc]⟩,
  ⟨.struct [(0, 3), (1, 3), (2, 3)], 3, 24, [.int .i64 0, .int .i64 0, .int .i64 0]⟩,
  ⟨.struct [(0, 3), (1, 3), (2, 3)], 3, 24, [.int .i64 0, .int .i64 0, .int .i64 0]⟩,
  ⟨.slice 112, 1, 24, [.slice none 0 0]⟩,
  ⟨.other, 1, 0, [.tuple #[.slice none 0 0, .int .i64 0]]⟩,
  ⟨.func, 1, 8, [.nilFunc]⟩,
  ⟨.func, 1, 8, [.nilFunc]⟩,
  ⟨.other, 1, 0, [.tuple #[.slice none 0 0, .int .i64 0, .int .i64 0]]⟩,
  ⟨.func, 1, 8, [.nilFunc]⟩,
  ⟨.other, 1, 0, [.tuple #[.slice none 0 0, .bool false]]⟩,
  ⟨.func, 1, 8, [.nilFunc]⟩,
  ⟨.func, 1, 8, [.nilFunc]⟩,
  ⟨.other, 1, 0, [.tuple #[.agg #[.slice none 0 0, .slice none 0 0], .slice none 0 0, .int .i64 0]]⟩,
  ⟨.func, 1, 8, [.nilFunc]⟩,
  ⟨.func, 1, 8, [.nilFunc]⟩,
  ⟨.other, 1, 0, [.tuple #[.pointer none, .int .i64 0]]⟩,
  ⟨.func, 1, 8, [.nilFunc]⟩,
  ⟨.other, 1, 0, [.tuple #[.int .i64 0, .int .i64 0]]⟩,
  ⟨.func, 1, 8, [.nilFunc]⟩,
  ⟨.func, 1, 8, [.nilFunc]⟩,
  ⟨.func, 1, 8, [.nilFunc]⟩,
  ⟨.other, 1, 0, [.tuple #[.slice none 0 0, .int .i64 0, .int .i64 0]]⟩,
  ⟨.func, 1, 8, [.nilFunc]⟩,
  ⟨.func, 1, 8, [.nilFunc]⟩,
  ⟨.func, 1, 8, [.nilFunc]⟩,
  ⟨.other, 1, 0, [.tuple #[.bool false, .int .i64 0]]⟩,
  ⟨.func, 1, 8, [.nilFunc]⟩,
  ⟨.func, 1, 8, [.nilFunc]⟩,
  ⟨.ptr 203, 1, 8, [.pointer none]⟩,
  ⟨.other, 1, 0, [.tuple #[.pointer none, .int .i64 0]]⟩,
  ⟨.func, 1, 8, [.nilFunc]⟩,
  ⟨.func, 1, 8, [.nilFunc]⟩,
  ⟨.func, 1, 8, [.nilFunc]⟩,
  ⟨.func, 1, 8, [.nilFunc]⟩,
  ⟨.func, 1, 8, [.nilFunc]⟩,
  ⟨.func, 1, 8, [.nilFunc]⟩,
  ⟨.func, 1, 8, [.nilFunc]⟩,
  ⟨.func, 1, 8, [.nilFunc]⟩,
  ⟨.func, 1, 8, [.nilFunc]⟩,
  ⟨.func, 1, 8, [.nilFunc]⟩,
  ⟨.func, 1, 8, [.nilFunc]⟩,
  ⟨.struct [(0, 3), (1, 3), (2, 46)], 4, 32, [.int .i64 0, .int .i64 0, .int .i64 0, .int .i64 0]⟩,
  ⟨.struct [(0, 3), (1, 3), (2, 46)], 4, 32, [.int .i64 0, .int .i64 0, .int .i64 0, .int .i64 0]⟩,
  ⟨.func, 1, 8, [.nilFunc]⟩,
  ⟨.func, 1, 8, [.nilFunc]⟩,
  ⟨.func, 1, 8, [.nilFunc]⟩,
  ⟨.func, 1, 8, [.nilFunc]⟩,
  ⟨.array 8 3, 8, 64, [.int .i64 0, .int .i64 0, .int .i64 0, .int .i64 0, .int .i64 0, .int .i64 0, .int .i64 0, .int .i64 0]⟩,
  ⟨.array 8 106, 32, 256, [.int .i64 0, .int .i64 0, .int .i64 0, .int .i64 0, .int .i64 0, .int .i64 0, .int .i64 0, .int .i64 0, .int .i64 0, .int .i64 0, .int .i64 0, .int .i64 0, .int .i64 0, .int .i64 0, .int .i64 0, .int .i64 0, .int .i64 0, .int .i64 0, .int .i64 0, .int .i64 0, .int .i64 0, .int .i64 0, .int .i64 0, .int .i64 0, .int .i64 0, .int .i64 0, .int .i64 0, .int .i64 0, .int .i64 0, .int .i64 0, .int .i64 0, .int .i64 0]⟩,
  ⟨.struct [(0, 28), (4, 157), (12, 158), (44, 106)], 48, 448, [.slice none 0 0, .slice none 0 0, .slice none 0 0, .slice none 0 0, .int .i64 0, .int .i64 0, .int .i64 0, .int .i64 0, .int .i64 0, .int .i64 0, .int .i64 0, .int .i64 0, .int .i64 0, .int .i64 0, .int .i64 0, .int .i64 0, .int .i64 0, .int .i64 0, .int .i64 0, .int .i64 0, .int .i64 0, .int .i64 0, .int .i64 0, .int .i64 0, .int .i64 0, .int .i64 0, .int .i64 0, .int .i64 0, .int .i64 0, .int .i64 0, .int .i64 0, .int .i64 0, .int .i64 0, .int .i64 0, .int .i64 0, .int .i64 0, .int .i64 0, .int .i64 0, .int .i64 0, .int .i64 0, .int .i64 0, .int .i64 0, .int .i64 0, .int .i64 0, .int .i64 0, .int .i64 0, .int .i64 0, .int .i64 0]⟩,
  ⟨.struct [(0, 28), (4, 157), (12, 158), (44, 106)], 48, 448, [.slice none 0 0, .slice none 0 0, .slice none 0 0, .slice none 0 0, .int .i64 0, .int .i64 0, .int .i64 0, .int .i64 0, .int .i64 0, .int .i64 0, .int .i64 0, .int .i64 0, .int .i64 0, .int .i64 0, .int .i64 0, .int .i64 0, .int .i64 0, .int .i64 0, .int .i64 0, .int .i64 0, .int .i64 0, .int .i64 0, .int .i64 0, .int .i64 0, .int .i64 0, .int .i64 0, .int .i64 0, .int .i64 0, .int .i64 0, .int .i64 0, .int .i64 0, .int .i64 0, .int .i64 0, .int .i64 0, .int .i64 0, .int .i64 0, .int .i64 0, .int .i64 0, .int .i64 0, .int .i64 0, .int .i64 0, .int .i64 0, .int .i64 0, .int .i64 0, .int .i64 0, .int .i64 0, .int .i64 0, .int .i64 0]⟩,
  ⟨.func, 1, 8, [.nilFunc]⟩,
  ⟨.func, 1, 8, [.nilFunc]⟩,
  ⟨.map 3 3, 1, 8, [.map none]⟩,
  ⟨.func, 1, 8, [.nilFunc]⟩,
  ⟨.struct [(0, 89)], 1, 8, [.nilFunc]⟩,
  ⟨.struct [(0, 89)], 1, 8, [.nilFunc]⟩,
  ⟨.func, 1, 8, [.nilFunc]⟩,
  ⟨.func, 1, 8, [.nilFunc]⟩,
  ⟨.func, 1, 8, [.nilFunc]⟩,
  ⟨.func, 1, 8, [.nilFunc]⟩,
  ⟨.func, 1, 8, [.nilFunc]⟩,
  ⟨.func, 1, 8, [.nilFunc]⟩,
  ⟨.func, 1, 8, [.nilFunc]⟩,
  ⟨.func, 1, 8, [.nilFunc]⟩,
  ⟨.func, 1, 8, [.nilFunc]⟩,
  ⟨.func, 1, 8, [.nilFunc]⟩,
  ⟨.func, 1, 8, [.nilFunc]⟩,
  ⟨.func, 1, 8, [.nilFunc]⟩,
  ⟨.func, 1, 8, [.nilFunc]⟩,
  ⟨.func, 1, 8, [.nilFunc]⟩,
  ⟨.struct [(0, 180)], 1, 8, [.nilFunc]⟩,
  ⟨.struct [(0, 180)], 1, 8, [.nilFunc]⟩,
  ⟨.ptr 218, 1, 8, [.pointer none]⟩,
  ⟨.other, 1, 0, [.tuple #[.pointer none, .int .i64 0]]⟩,
  ⟨.func, 1, 8, [.nilFunc]⟩,
  ⟨.map 188 220, 1, 8, [.map none]⟩,
  ⟨.array 6 3, 6, 48, [.int .i64 0, .int .i64 0, .int .i64 0, .int .i64 0, .int .i64 0, .int .i64 0]⟩,
  ⟨.array 6 3, 6, 48, [.int .i64 0, .int .i64 0, .int .i64 0, .int .i64 0, .int .i64 0, .int .i64 0]⟩,
  ⟨.struct [(0, 186), (1, 188), (7, 4)], 8, 64, [.map none, .int .i64 0, .int .i64 0, .int .i64 0, .int .i64 0, .int .i64 0, .int .i64 0, .bool false]⟩,
  ⟨.struct [(0, 186), (1, 188), (7, 4)], 8, 64, [.map none, .int .i64 0, .int .i64 0, .int .i64 0, .int .i64 0, .int .i64 0, .int .i64 0, .bool false]⟩,
  ⟨.func, 1, 8, [.nilFunc]⟩,
  ⟨.func, 1, 8, [.nilFunc]⟩,
  ⟨.func, 1, 8, [.nilFunc]⟩,
  ⟨.slice 64, 1, 24, [.slice none 0 0]⟩,
  ⟨.other, 1, 0, [.tuple #[.slice none 0 0, .int .i64 0]]⟩,
  ⟨.func, 1, 8, [.nilFunc]⟩,
  ⟨.func, 1, 8, [.nilFunc]⟩,
  ⟨.array 8 4, 8, 8, [.bool false, .bool false, .bool false, .bool false, .bool false, .bool false, .bool false, .bool false]⟩,
  ⟨.array 8 4, 8, 8, [.bool false, .bool false, .bool false, .bool false, .bool false, .bool false, .bool false, .bool false]⟩,
  ⟨.func, 1, 8, [.nilFunc]⟩,
  ⟨.slice 238, 1, 24, [.slice none 0 0]⟩,
  ⟨.struct [(0, 40), (4, 201), (5, 23)], 6, 128, [.int .i64 0, .slice none 0 0, .slice none 0 0, .slice none 0 0, .slice none 0 0, .slice none 0 0]⟩,
  ⟨.struct [(0, 40), (4, 201), (5, 23)], 6, 128, [.int .i64 0, .slice none 0 0, .slice none 0 0, .slice none 0 0, .slice none 0 0, .slice none 0 0]⟩,
  ⟨.func, 1, 8, [.nilFunc]⟩,
  ⟨.struct [(0, 89), (1, 4)], 2, 16, [.nilFunc, .bool false]⟩,
  ⟨.struct [(0, 89), (1, 4)], 2, 16, [.nilFunc, .bool false]⟩,
  ⟨.int .u64, 1, 8, [.int .u64 0]⟩,
  ⟨.func, 1, 8, [.nilFunc]⟩,
  ⟨.func, 1, 8, [.nilFunc]⟩,
  ⟨.func, 1, 8, [.nilFunc]⟩,
  ⟨.func, 1, 8, [.nilFunc]⟩,
  ⟨.func, 1, 8, [.nilFunc]⟩,
  ⟨.func, 1, 8, [.nilFunc]⟩,
  ⟨.func, 1, 8, [.nilFunc]⟩,
  ⟨.func, 1, 8, [.nilFunc]⟩,
  ⟨.func, 1, 8, [.nilFunc]⟩,
  ⟨.struct [(0, 62), (2, 188)], 8, 96, [.slice none 0 0, .slice none 0 0, .int .i64 0, .int .i64 0, .int .i64 0, .int .i64 0, .int .i64 0, .int .i64 0]⟩,
  ⟨.struct [(0, 62), (2, 188)], 8, 96, [.slice none 0 0, .slice none 0 0, .int .i64 0, .int .i64 0, .int .i64 0, .int .i64 0, .int .i64 0, .int .i64 0]⟩,
  ⟨.struct [(0, 188), (6, 64), (7, 3)], 8, 80, [.int .i64 0, .int .i64 0, .int .i64 0, .int .i64 0, .int .i64 0, .int .i64 0, .slice none 0 0, .int .i64 0]⟩,
  ⟨.struct [(0, 188), (6, 64), (7, 3)], 8, 80, [.int .i64 0, .int .i64 0, .int .i64 0, .int .i64 0, .int .i64 0, .int .i64 0, .slice none 0 0, .int .i64 0]⟩,
  ⟨.slice 188, 1, 24, [.slice none 0 0]⟩,
  ⟨.map 3 221, 1, 8, [.map none]⟩,
  ⟨.map 188 4, 1, 8, [.map none]⟩,
  ⟨.func, 1, 8, [.nilFunc]⟩,
  ⟨.func, 1, 8, [.nilFunc]⟩,
  ⟨.func, 1, 8, [.nilFunc]⟩,
  ⟨.func, 1, 8, [.nilFunc]⟩,
  ⟨.other, 1, 0, [.tuple #[.agg #[.int .i64 0, .int .i64 0, .int .i64 0, .int .i64 0, .int .i64 0, .int .i64 0, .slice none 0 0, .int .i64 0], .bool false]]⟩,
  ⟨.func, 1, 8, [.nilFunc]⟩,
  ⟨.func, 1, 8, [.nilFunc]⟩,
  ⟨.func, 1, 8, [.nilFunc]⟩,
  ⟨.func, 1, 8, [.nilFunc]⟩,
  ⟨.func, 1, 8, [.nilFunc]⟩,
  ⟨.func, 1, 8, [.nilFunc]⟩,
  ⟨.func, 1, 8, [.nilFunc]⟩,
  ⟨.func, 1, 8, [.nilFunc]⟩,
  ⟨.struct [(0, 3), (1, 3), (2, 3), (3, 3)], 4, 32, [.int .i64 0, .int .i64 0, .int .i64 0, .int .i64 0]⟩,
  ⟨.struct [(0, 3), (1, 3), (2, 3), (3, 3)], 4, 32, [.int .i64 0, .int .i64 0, .int .i64 0, .int .i64 0]⟩,
  ⟨.other, 1, 0, [.tuple #[.int .i64 0, .bool false]]⟩,
  ⟨.func, 1, 8, [.nilFunc]⟩,
  ⟨.slice 244, 1, 24, [.slice none 0 0]⟩,
  ⟨.func, 1, 8, [.nilFunc]⟩,
  ⟨.struct [(0, 3), (1, 4)], 2, 16, [.int .i64 0, .bool false]⟩,
  ⟨.struct [(0, 3), (1, 4)], 2, 16, [.int .i64 0, .bool false]⟩,
  ⟨.func, 1, 8, [.nilFunc]⟩,
  ⟨.func, 1, 8, [.nilFunc]⟩,
  ⟨.func, 1, 8, [.nilFunc]⟩,
  ⟨.func, 1, 8, [.nilFunc]⟩,
  ⟨.func, 1, 8, [.nilFunc]⟩,
  ⟨.func, 1, 8, [.nilFunc]⟩,
  ⟨.func, 1, 8, [.nilFunc]⟩,
  ⟨.func, 1, 8, [.nilFunc]⟩,
  ⟨.func, 1, 8, [.nilFunc]⟩,
  ⟨.func, 1, 8, [.nilFunc]⟩,
  ⟨.func, 1, 8, [.nilFunc]⟩,
  ⟨.func, 1, 8, [.nilFunc]⟩,
  ⟨.func, 1, 8, [.nilFunc]⟩,
  ⟨.func, 1, 8, [.nilFunc]⟩,
  ⟨.func, 1, 8, [.nilFunc]⟩,
  ⟨.func, 1, 8, [.nilFunc]⟩,
  ⟨.func, 1, 8, [.nilFunc]⟩,
  ⟨.func, 1, 8, [.nilFunc]⟩,
  ⟨.func, 1, 8, [.nilFunc]⟩,
  ⟨.map 3 244, 1, 8, [.map none]⟩,
  ⟨.func, 1, 8, [.nilFunc]⟩,
  ⟨.other, 1, 0, [.tuple #[.agg #[.int .i64 0, .bool false], .bool false]]⟩,
  ⟨.func, 1, 8, [.nilFunc]⟩,
  ⟨.map 3 241, 1, 8, [.map none]⟩,
  ⟨.func, 1, 8, [.nilFunc]⟩,
  ⟨.func, 1, 8, [.nilFunc]⟩,
  ⟨.func, 1, 8, [.nilFunc]⟩,
  ⟨.func, 1, 8, [.nilFunc]⟩,
  ⟨.func, 1, 8, [.nilFunc]⟩,
  ⟨.func, 1, 8, [.nilFunc]⟩,
  ⟨.struct [(0, 17), (1, 17), (2, 17), (3, 9)], 4, 40, [.pointer none, .pointer none, .pointer none, .string ByteArray.empty]⟩,
  ⟨.struct [(0, 17), (1, 17), (2, 17), (3, 9)], 4, 40, [.pointer none, .pointer none, .pointer none, .string ByteArray.empty]⟩,
  ⟨.array 0 16, 0, 0, []⟩,
  ⟨.struct [(0, 277)], 0, 0, []⟩,
  ⟨.struct [(0, 277)], 0, 0, []⟩,
  ⟨.int .u8, 1, 1, [.int .u8 0]⟩,
  ⟨.int .u8, 1, 1, [.int .u8 0]⟩,
  ⟨.func, 1, 8, [.nilFunc]⟩,
  ⟨.ptr 5, 1, 8, [.pointer none]⟩,
  ⟨.int .i32, 1, 4, [.int .i32 0]⟩,
  ⟨.int .i32, 1, 4, [.int .i32 0]⟩,
  ⟨.struct [(0, 12), (1, 12), (2, 93), (3, 280), (4, 5), (5, 5), (6, 281), (7, 282), (8, 283), (9, 284), (10, 285)], 11, 48, [.int .u64 0, .int .u64 0, .int .u32 0, .int .u8 0, .int .u8 0, .int .u8 0, .int .u8 0, .nilFunc, .pointer none, .int .i32 0, .int .i32 0]⟩,
  ⟨.struct [(0, 12), (1, 12), (2, 93), (3, 280), (4, 5), (5, 5), (6, 281), (7, 282), (8, 283), (9, 284), (10, 285)], 11, 48, [.int .u64 0, .int .u64 0, .int .u32 0, .int .u8 0, .int .u8 0, .int .u8 0, .int .u8 0, .nilFunc, .pointer none, .int .i32 0, .int .i32 0]⟩,
  ⟨.other, 1, 8, [.pointer none]⟩]
theorem NF : (List.range types.length).map (IZ Tryz.prog) = types.map some := by kernel_rfl
instance tab : k5 Tryz.prog := ⟨types, k5.of NF⟩
theorem yz {P : Program} {w : World} {t : Nat} {k : IntKind} {a b : Int} (d : Nat) (h : P.underlying t = some (.int k)) : (Op.equalIn (d + 1) t (.int k a) (.int k b)).run P w = .ok (decide (a = b)) w := by
 simp [Op.equalIn, run_underlying h, Hw]
theorem QT (a0 a1 b0 b1 : Int) (w : World) : (Op.equal 70 (.agg #[.int .i64 a0, .int .i64 a1]) (.agg #[.int .i64 b0, .int .i64 b1])).run Tryz.prog w = .ok ((decide (a0 = b0) && decide (a1 = b1))) w := by
 have hs : Tryz.prog.stoodInHeld 70 = false := by kernel_rfl
 have e3 : ∀ (x y : Int) (w : World), (Op.equalIn 9999 3 (.int .i64 x) (.int .i64 y)).run Tryz.prog w = .ok (decide (x = y)) w := fun x y w => yz 9998 Tryz.underlying3
 have g3 : ∀ w, (isAgg 3).run Tryz.prog w = .ok false w := fun w => by simp [isAgg, run_underlying Tryz.underlying3]
 unfold Op.equal Op.maxDepth
 rw [Op.equalIn]
 simp only [Sem.run_bind, run_underlying Tryz.underlying70, Result.andThen_ok]
 simp [hs, part, g3, e3]
 by_cases h0 : a0 = b0 <;> by_cases h1 : a1 = b1 <;> simp [h0, h1]
theorem Qw (a0 a1 b0 b1 : Int) : QI Tryz.prog 70 [Ty.int .i64 a0, Ty.int .i64 a1] [Ty.int .i64 b0, Ty.int .i64 b1] ((decide (a0 = b0) && decide (a1 = b1))) :=
  ⟨by kernel_rfl, fun w M cs ds h1 h2 => by
    obtain ⟨cs⟩ := cs
    obtain ⟨ds⟩ := ds
    match cs, ds, h1, h2 with
    | [u0, u1], [v0, v1], h1, h2 =>
      simp only [bt, Ty.int, fL, and_true] at h1 h2
      obtain ⟨rfl, rfl⟩ := h1
      obtain ⟨rfl, rfl⟩ := h2
      exact QT _ _ _ _ w⟩
theorem mixed : Tryz.prog.follows .mixedOrders = true := by kernel_rfl
end Go.Proofs.YtmmcenjknimhbaaGreat
namespace Go.Proofs.YtmmcenjknimhbaaGreat
structure p5 where
  has : Int
  shares : List Int
  deriving Inhabited, DecidableEq
structure tO where
  src : Int
  dst : Int
  sacks : Int
  deriving Inhabited, DecidableEq
structure jq where
  fst : Int
  nxt : Int
  deriving Inhabited, DecidableEq
structure RA where
  src : Int
  dst : Int
  much : Int
  deriving Inhabited, DecidableEq
structure cG where
  bears : List Int
  bins : List p5
  turnings : List tO
  rules : List jq
  deriving Inhabited, DecidableEq
def fidx {α : Type} (p : α → Bool) (l : List α) : Int := match l.findIdx? p with | some i => (i : Int) | none => -1
theorem iE {α : Type} {p : α → Bool} {l : List α} {k : Nat} (hk : k < l.length) (h : ∀ x ∈ l.take k, p x = false) (hp : p l[k] = true) : fidx p l = k := by
 have : l.findIdx? p = some k := by
  rw [List.findIdx?_eq_some_iff_getElem]
  refine ⟨hk, hp, fun j hj => ?_⟩
  have := h l[j] (by rw [List.mem_take_iff_getElem]; exact ⟨j, by omega, rfl⟩)
  simp [this]
 simp [fidx, this]
theorem jN {α : Type} {p : α → Bool} {l : List α} (h : ∀ x ∈ l, p x = false) : fidx p l = -1 := by
 have : l.findIdx? p = none := by simpa using h
 simp [fidx, this]
theorem nO {α : Type} (p : α → Bool) (l : List α) : decide (0 ≤ fidx p l) = l.any p := by
  unfold fidx
  cases h : l.findIdx? p with
  | none =>
    rw [List.findIdx?_eq_none_iff] at h
    have : l.any p = false := by simpa using h
    rw [this]; rfl
  | some i =>
    have : l.any p = true := by
      rw [List.findIdx?_eq_some_iff_getElem] at h
      obtain ⟨hi, hp, _⟩ := h
      rw [List.any_eq_true]; exact ⟨_, List.getElem_mem hi, hp⟩
    rw [this]; simp
theorem rC {α : Type} (p : α → Bool) (l : List α) : (!l.any fun x => !p x) = l.all p := by
 rw [List.all_eq_not_any_not]
end Go.Proofs.YtmmcenjknimhbaaGreat
namespace Go.Proofs.YtmmcenjknimhbaaGreat
open Go Go.T
structure p4 where
  sacks : Int
  inn : Int
  aim : Int
  deriving Inhabited, DecidableEq
structure aW where
  sizes : List Int
  lots : List p4
  deriving Inhabited, DecidableEq
structure bu where
  cJ : Int
  aim : Int
  deriving Inhabited, DecidableEq
def Eb (n lo hi : Int) : Bool := decide (n ≥ lo) && decide (n ≤ hi)
def HA (n lo hi : Int) : Bool := decide (n < lo) || decide (n > hi)
theorem Nc (n lo hi : Int) : (!Eb n lo hi) = HA n lo hi := by
 unfold Eb HA
 rw [Bool.eq_iff_iff]; simp <;> omega
theorem iD {n lo hi : Int} : Eb n lo hi = true ↔ lo ≤ n ∧ n ≤ hi := by unfold Eb; simp
theorem Gz {n lo hi : Int} : HA n lo hi = false ↔ lo ≤ n ∧ n ≤ hi := by unfold HA; simp
theorem Od {α : Type} (p q : α → Bool) (l : List α) (h : ∀ x, (!p x) = q x) : (!l.all p) = l.any q := by
  induction l with
  | nil => rfl
  | cons x l ih => rw [List.all_cons, List.any_cons, Bool.not_and, ih, h]
theorem DD {α : Type} {q : α → Bool} {l : List α} {x : α} (hx : x ∈ l) (h : q x = true) : l.any q = true := List.any_eq_true.2 ⟨x, hx, h⟩
theorem Hu {α : Type} {q : α → Bool} {l : List α} {k : Nat} (h : ∀ x ∈ l.take k, q x = false) (hk : l.length ≤ k) : l.any q = false := by
 rw [List.take_of_length_le hk] at h
 rw [Bool.eq_false_iff]; intro hc
 obtain ⟨x, hx, hq⟩ := List.any_eq_true.1 hc
 rw [h x hx] at hq; cases hq
theorem any_none {α : Type} {q : α → Bool} {l : List α} (h : l.any q = false) {x : α} (hx : x ∈ l) : q x = false := by
  cases hq : q x with
  | false => rfl
  | true => rw [DD hx hq] at h; cases h
theorem CH {α : Type} [Inhabited α] {q : α → Bool} {l : List α} {k : Nat} (h : ∀ x ∈ l.take k, q x = false) (hk : k < l.length) (hq : q (nth l k) = false) : ∀ x ∈ l.take (k + 1), q x = false := by
 rw [cE hk]
 intro x hx
 rcases List.mem_append.1 hx with h' | h'
 ·exact h x h'
 rw [List.mem_singleton.1 h']; exact hq
theorem Lp {α : Type} [Inhabited α] {q : α → Bool} {l : List α} {k : Nat} (hk : k < l.length) (hq : q (nth l k) = true) : l.any q = true := DD (bh hk) hq
theorem ng {b : Bool} (h : b = false) : ¬ b = true := by rw [h]; decide
theorem DC {q : Nat → Bool} {k : Nat} (h : ∀ i, i < k → q i = false) (hq : q k = false) : ∀ i, i < k + 1 → q i = false := fun i hi => by
 by_cases e : i = k
 ·subst e; exact hq
 exact h i (by omega)
theorem xX {q : Nat → Bool} {n k : Nat} (h : ∀ i, i < k → q i = false) (hk : n ≤ k) : (List.range n).any q = false := by
 rw [List.any_eq_false]; intro i hi; rw [List.mem_range] at hi; rw [h i (by omega)]; decide
theorem CK {q : Nat → Bool} {n k : Nat} (hk : k < n) (hq : q k = true) : (List.range n).any q = true := DD (List.mem_range.2 hk) hq
def aW.bin (b : aW) (n : Int) : Bool := Eb n 0 (b.sizes.length - 1)
def aW.cJ (b : aW) (n : Int) : Bool := Eb n 0 (b.lots.length - 1)
def aW.hold (b : aW) (k i : Int) : Bool := decide (nth b.sizes k.toNat ≥ (nth b.lots i.toNat).sacks)
def rX (b : aW) : Bool := !Eb b.sizes.length 1 7 || decide ((b.lots.length : Int) > 6)
def oy (b : aW) : Bool := !(b.sizes.all fun n => Eb n 0 300) || !(b.lots.all fun l => Eb l.sacks 1 300)
def AP (b : aW) : Bool := !(b.lots.all fun l => b.bin l.inn && (decide (l.aim = -1) || b.bin l.aim))
def Ct (l k : p4) : Bool := decide (l.inn = k.inn) || (decide (l.aim = k.aim) && !decide (l.aim = -1))
def C1 (b : aW) (i : Nat) : Bool := (b.lots.take i).any fun k => Ct (nth b.lots i) k
def sZ (b : aW) : Bool := (List.range b.lots.length).any fun i => C1 b i
def IK (b : aW) (i : Nat) : Bool := !b.hold (nth b.lots i).inn i || (!decide ((nth b.lots i).aim = -1) && !b.hold (nth b.lots i).aim i)
def Ax (b : aW) : Bool := (List.range b.lots.length).any fun i => IK b i
def cS (b : aW) : Int := if rX b then 2 else if oy b then 3 else if AP b then 1 else if sZ b then 5 else if Ax b then 9 else 0
structure aW.Small (b : aW) : Prop where
  sizes : b.sizes.length ≤ 12
  lots : b.lots.length ≤ 10
structure aW.dD (b : aW) : Prop where
  bins : 1 ≤ b.sizes.length ∧ b.sizes.length ≤ 7
  lots : b.lots.length ≤ 6
  size : ∀ n ∈ b.sizes, 0 ≤ n ∧ n ≤ 300
  sacks : ∀ l ∈ b.lots, 1 ≤ l.sacks ∧ l.sacks ≤ 300
  inn : ∀ l ∈ b.lots, 0 ≤ l.inn ∧ l.inn < b.sizes.length
  aim : ∀ l ∈ b.lots, -1 ≤ l.aim ∧ l.aim < b.sizes.length
  apart : ∀ i k, k < i → i < b.lots.length → (nth b.lots i).inn ≠ (nth b.lots k).inn ∧ ((nth b.lots i).aim = (nth b.lots k).aim → (nth b.lots i).aim = -1)
  holds : ∀ i, i < b.lots.length → (nth b.lots i).sacks ≤ nth b.sizes (nth b.lots i).inn.toNat ∧ ((nth b.lots i).aim ≠ -1 → (nth b.lots i).sacks ≤ nth b.sizes (nth b.lots i).aim.toNat)
theorem iZ {n : Nat} {p : Nat → Bool} : (List.range n).any p = false ↔ ∀ i, i < n → p i = false := by
 rw [List.any_eq_false]; simp
theorem kW {b : aW} (h : cS b = 0) : b.dD := by
 unfold cS at h
 split at h
 ·cases h
 rename_i h1
 split at h
 ·cases h
 rename_i h2
 split at h
 ·cases h
 rename_i h3
 split at h
 ·cases h
 rename_i h4
 split at h
 ·cases h
 rename_i h5
 rw [Bool.not_eq_true] at h1 h2 h3 h4 h5
 unfold rX at h1
 simp only [Bool.or_eq_false_iff, Bool.not_eq_false', decide_eq_false_iff_not, iD] at h1
 unfold oy at h2
 simp only [Bool.or_eq_false_iff, Bool.not_eq_false', List.all_eq_true, iD] at h2
 unfold AP at h3
 simp only [Bool.not_eq_false', List.all_eq_true, Bool.and_eq_true, Bool.or_eq_true, decide_eq_true_eq, aW.bin, iD] at h3
 unfold sZ at h4
 rw [iZ] at h4
 unfold Ax at h5
 rw [iZ] at h5
 refine ⟨by omega, by omega, h2.1, h2.2, fun l hl => ?_, fun l hl => ?_, fun i k hk hi => ?_, fun i hi => ?_⟩
 ·have := (h3 l hl).1; omega
 ·have := h3 l hl; omega
 ·have := h4 i hi
  unfold C1 at this
  rw [List.any_eq_false] at this
  have hm : nth b.lots k ∈ b.lots.take i := by rw [List.mem_take_iff_getElem]; exact ⟨k, by omega, (cL (by omega)).symm⟩
  have := this _ hm
  simp only [Ct, Bool.or_eq_true, Bool.and_eq_true, decide_eq_true_eq, Bool.not_eq_true', decide_eq_false_iff_not, not_or, not_and] at this
  exact ⟨this.1, fun e => by have := this.2 e; omega⟩
 have := h5 i hi
 simp only [IK, aW.hold, Bool.or_eq_false_iff, Bool.not_eq_false', decide_eq_true_eq, Bool.and_eq_false_iff, decide_eq_true_eq, Int.toNat_natCast] at this
 refine ⟨by omega, fun h => ?_⟩
 rcases this.2 with h' | h'
 ·exact absurd h' h
 omega
theorem qQ {b : aW} (h : b.dD) : b.Small := ⟨by have := h.bins; omega, by have := h.lots; omega⟩
end Go.Proofs.YtmmcenjknimhbaaGreat
namespace Go.Proofs.YtmmcenjknimhbaaGreat
open Go Go.T
def gC : El p4 := El.mk' 3 (fun x => [Ty.int .i64 x.sacks, Ty.int .i64 x.inn, Ty.int .i64 x.aim]) (fun _ => rfl) (fun _ => ⟨rfl, rfl, rfl⟩)
def cv : El bu := El.mk' 2 (fun x => [Ty.int .i64 x.cJ, Ty.int .i64 x.aim]) (fun _ => rfl) (fun _ => ⟨rfl, rfl, rfl⟩)
def AF : El (List Int) := El.mk' 1 (fun x => [Ty.sl eB x]) (fun _ => rfl) (fun _ => ⟨rfl, rfl, rfl⟩)
def sJ : El (List bu) := El.mk' 1 (fun x => [Ty.sl cv x]) (fun _ => rfl) (fun _ => ⟨rfl, rfl, rfl⟩)
def cH (b : aW) : List Ty := [Ty.sl eB b.sizes, Ty.sl gC b.lots]
def eC (b : aW) : Ty := Ty.agg (cH b)
theorem E0 {b : Bool} (h : (!b) = true) : b = false := by cases b <;> first | rfl | cases h
theorem gq {b : Bool} (h : (!b) = false) : b = true := by cases b <;> first | rfl | cases h
theorem Ir {α : Type} [Inhabited α] {a b : List α} {k : Nat} (h : nth a k ≠ nth b k) : a ≠ b := fun e => h (by rw [e])
end Go.Proofs.YtmmcenjknimhbaaGreat
namespace Go.Proofs.YtmmcenjknimhbaaGreat
open Go Go.T
structure Sk where
  grain : List Int
  taken : Int
  mixed : Int
def U8 : El Int := El.mk' 1 (fun n => [Ty.int .u8 n]) (fun _ => rfl) (fun _ => ⟨rfl, rfl, rfl⟩)
def dP (s : Sk) : List Ty := [Ty.sl U8 s.grain, Ty.int .i64 s.taken, Ty.int .u32 s.mixed]
def Qo (s : Sk) : Int := IntKind.u32.wrap (bits .xor .u32 s.mixed (IntKind.u32.wrap (nth s.grain (s.taken.tmod s.grain.length).toNat)) * 16777619)
def hU (s : Sk) : Sk := if (s.grain.length : Int) > 0 then { s with mixed := Qo s } else s
def qH (s : Sk) : Sk := { s with taken := s.taken + 1 }
def Qu (s : Sk) : Int := IntKind.u32.wrap (IntKind.u32.wrap (s.mixed * 1664525) + 1013904223)
def sG (s : Sk) : Sk := if s.taken > (s.grain.length : Int) then { s with mixed := Qu s } else s
theorem G1 {s : Sk} (h : (s.grain.length : Int) < s.taken) : sG s = { s with mixed := Qu s } := if_pos h
theorem HI {s : Sk} (h : ¬ (s.grain.length : Int) < s.taken) : sG s = s := if_neg h
def bN (s : Sk) : Sk := sG (qH (hU s))
theorem Gu {s : Sk} (h : ¬ ((hU s).grain.length : Int) < (hU s).taken + 1) : (hU s).mixed = (bN s).mixed := (congrArg Sk.mixed (HI (s := qH (hU s)) h)).symm
def m8 (s : Sk) : Int := IntKind.i64.wrap (bits .and .u32 (bits .xor .u32 s.mixed (s.mixed / 2 ^ (15 : Int).toNat) / 2 ^ (8 : Int).toNat) 65535)
def Sk.Ok (s : Sk) (n : Int) : Prop := 0 ≤ s.taken ∧ s.taken + n ≤ 4611686018427387904
theorem Fu {s : Sk} (h : (0 : Int) < s.grain.length) : hU s = { s with mixed := Qo s } := if_pos h
theorem GL {s : Sk} (h : ¬ (0 : Int) < s.grain.length) : hU s = s := if_neg h
theorem Nx {a b : Int} (ha : 0 ≤ a) (hb : 0 < b) : 0 ≤ a.tmod b ∧ a.tmod b < b := by
 rw [Int.tmod_eq_emod_of_nonneg ha]
 exact ⟨Int.emod_nonneg _ (by omega), Int.emod_lt_of_pos _ hb⟩
theorem lW (s : Sk) : (hU s).taken = s.taken := by unfold hU; split <;> rfl
theorem um (s : Sk) : (hU s).grain = s.grain := by unfold hU; split <;> rfl
theorem oY (s : Sk) : (sG s).taken = s.taken := by unfold sG; split <;> rfl
theorem tu (s : Sk) : (sG s).grain = s.grain := by unfold sG; split <;> rfl
theorem dG (s : Sk) : (bN s).taken = s.taken + 1 := by unfold bN; rw [oY, qH, lW]
theorem Ae (a : Int) : 0 ≤ bits .and .u32 a 65535 ∧ bits .and .u32 a 65535 ≤ 65535 := by
 have e : bits .and .u32 a 65535 = IntKind.u32.wrap (((BitVec.ofInt 32 a &&& BitVec.ofInt 32 65535).toNat : Nat) : Int) := rfl
 have h1 : (BitVec.ofInt 32 a &&& BitVec.ofInt 32 65535).toNat ≤ 65535 := by
  rw [BitVec.toNat_and]
  exact Nat.and_le_right
 rw [e]
 generalize (BitVec.ofInt 32 a &&& BitVec.ofInt 32 65535).toNat = n at h1
 have : IntKind.u32.wrap (n : Int) = (n : Int) % 4294967296 := rfl
 rw [this]; omega
theorem DX (s : Sk) : 0 ≤ m8 s ∧ m8 s ≤ 65535 := by
 have h := Ae (bits .xor .u32 s.mixed (s.mixed / 2 ^ (15 : Int).toNat) / 2 ^ (8 : Int).toNat)
 unfold m8
 rw [IntWalk.i64_in _ (by omega)]; exact h
def gI (s : Sk) (n : Int) : Int := (m8 (bN s)).tmod (max 1 n)
theorem gD (s : Sk) (n : Int) : 0 ≤ gI s n ∧ gI s n < max 1 n ∧ gI s n ≤ 65535 := by
 have h := DX (bN s)
 unfold gI
 have h1 : (m8 (bN s)).tmod (max 1 n) = m8 (bN s) % max 1 n := Int.tmod_eq_emod_of_nonneg h.1
 have h2 := Int.emod_lt_of_pos (m8 (bN s)) (show 0 < max 1 n by omega)
 have h3 := Int.emod_nonneg (m8 (bN s)) (show max 1 n ≠ 0 by omega)
 have h4 : m8 (bN s) % max 1 n ≤ m8 (bN s) := by
  have := Int.mul_ediv_add_emod (m8 (bN s)) (max 1 n)
  have hq : 0 ≤ m8 (bN s) / max 1 n := Int.ediv_nonneg h.1 (by omega)
  have : 0 ≤ max 1 n * (m8 (bN s) / max 1 n) := Int.mul_nonneg (by omega) hq
  omega
 omega
def kM (s : Sk) (lo hi : Int) : Int := lo + gI s (hi - lo + 1)
def zM (s : Sk) (n : Int) : Bool := decide (gI s n = 0)
def iB (grain : List Int) : Sk := ⟨grain, 0, bits .xor .u32 2166136261 (IntKind.u32.wrap grain.length)⟩
theorem B0 (g : List Int) : (iB g).Ok 4000000000000000000 := by unfold iB Sk.Ok; simp
def ni (xs : List Int) (i : Nat) (k : Int) : List Int := xs.take i ++ k :: xs.drop i
theorem FB {xs : List Int} {i : Nat} (h : i ≤ xs.length) (k : Int) : (ni xs i k).length = xs.length + 1 := by simp [ni]; omega
theorem K0 {xs : List Int} {i : Nat} {k x : Int} : x ∈ ni xs i k ↔ x = k ∨ x ∈ xs := by
 unfold ni
 rw [List.mem_append, List.mem_cons]
 constructor
 ·rintro (h | rfl | h)
  ·exact .inr (List.mem_of_mem_take h)
  ·exact .inl rfl
  exact .inr (List.mem_of_mem_drop h)
 rintro (rfl | h)
 ·exact .inr (.inl rfl)
 rw [← List.take_append_drop i xs, List.mem_append] at h
 exact h.imp id .inr
theorem GK {xs : List Int} {i : Nat} {k : Int} (h : xs.Nodup) (hk : k ∉ xs) : (ni xs i k).Nodup := by
 unfold ni
 have h2 : (xs.take i ++ xs.drop i).Nodup := by rw [List.take_append_drop]; exact h
 rw [List.nodup_append] at h2 ⊢
 obtain ⟨a, b, c⟩ := h2
 refine ⟨a, List.nodup_cons.2 ⟨fun h => hk (List.mem_of_mem_drop h), b⟩, fun x hx y hy => ?_⟩
 rcases List.mem_cons.1 hy with rfl | hy
 ·rintro rfl; exact hk (List.mem_of_mem_take hx)
 exact c x hx y hy
def dx (s : Sk) : Nat → List Int × Sk
  | 0 => ([], s)
  | k + 1 => (ni (dx s k).1 (gI (dx s k).2 ((k : Int) + 1)).toNat k, bN (dx s k).2)
theorem rI (s : Sk) : ∀ k, (dx s k).1.length = k ∧ (dx s k).1.Nodup ∧ (∀ x, x ∈ (dx s k).1 ↔ 0 ≤ x ∧ x < (k : Int)) ∧ (dx s k).2.taken = s.taken + k
  | 0 => ⟨rfl, List.nodup_nil, fun x => ⟨fun h => (by cases h), fun h => by omega⟩, by simp [dx]⟩
  | k + 1 => by
    obtain ⟨h1, h2, h3, h4⟩ := rI s k
    have hb := gD (dx s k).2 ((k : Int) + 1)
    refine ⟨?_, GK h2 (fun h => by have := (h3 _).1 h; omega), fun x => ?_, ?_⟩
    · show (ni _ _ _).length = _
      rw [FB (by omega), h1]
    · show x ∈ ni _ _ _ ↔ _
      rw [K0, h3]; omega
    · show (bN _).taken = _
      rw [dG, h4]; omega
end Go.Proofs.YtmmcenjknimhbaaGreat
namespace Go.Proofs.YtmmcenjknimhbaaGreat
open Go Go.T Go.RowKit Go.ChangeShapes Go.WideShapes Go.ChangeAt
theorem RY : Rd Tryz.prog 5 U8 := ⟨by kernel_rfl, by decide, fun h => by
 obtain ⟨i, rfl, _⟩ := DataW.trod_int Tryz.underlying5 h
 exact ⟨i, rfl, trivial⟩⟩
section
variable {H : Type} {enc : TypeId × Value → H} {W : World} {base : Nat} {held : Bool} {v : Value} {d : DataW H} {p : List MemPlace}
set_option maxRecDepth 100000 in
theorem Ev (hv : Value.okWide Tryz.prog W .any base 22 v) (h : DataW.Trod enc Tryz.prog W 0 (fun _ => true) held 22 v d p) : ∃ l, (Ty.sl U8 l).den W rQ v := by
 obtain ⟨a, len, cap, rfl⟩ := okWide_slice Tryz.underlying22 hv
 obtain ⟨n, hn⟩ := h
 exact QC RY Tryz.underlying22 (by simpa [Value.cells] using hn)
end
end Go.Proofs.YtmmcenjknimhbaaGreat
namespace Go.Proofs.YtmmcenjknimhbaaGreat
open Go Go.T
def lB (p : Nat → Bool) (n : Nat) : List Int := ((List.range n).filter p).map fun (k : Nat) => (k : Int)
theorem Er (p : Nat → Bool) : lB p 0 = [] := rfl
theorem we (p : Nat → Bool) (n : Nat) : lB p (n + 1) = lB p n ++ if p n = true then [(n : Int)] else [] := by
 unfold lB
 rw [List.range_succ, List.filter_append, List.map_append]
 congr 1
 by_cases h : p n = true
 ·rw [if_pos h, List.filter_cons, if_pos h]; rfl
 rw [if_neg h, List.filter_cons, if_neg h]; rfl
theorem GA {p : Nat → Bool} {n : Nat} (h : p n = true) : lB p n ++ [(n : Int)] = lB p (n + 1) := by rw [we, if_pos h]
theorem JS {p : Nat → Bool} {n : Nat} (h : p n = false) : lB p n = lB p (n + 1) := by rw [we, if_neg (by rw [h]; decide), List.append_nil]
theorem zw (p : Nat → Bool) (n : Nat) : (lB p n).length ≤ n := by
 unfold lB; rw [List.length_map]; exact Nat.le_trans (List.length_filter_le _ _) (by simp)
def aW.free (b : aW) (k : Int) : Bool := b.lots.all fun l => !decide (l.inn = k)
def aW.wanted (b : aW) (k : Int) : Bool := b.lots.any fun l => decide (l.aim = k)
def FY (b : aW) (i : Nat) : Bool := (!decide ((nth b.lots i).aim = -1) && !decide ((nth b.lots i).aim = (nth b.lots i).inn)) || (decide ((nth b.lots i).aim = -1) && b.wanted (nth b.lots i).inn)
def IE (b : aW) : List Int := lB (FY b) b.lots.length
def follows (b : aW) (i : Int) : Int := fidx (fun l => decide (l.inn = (nth b.lots i.toNat).aim)) b.lots
theorem G3 {α : Type} (p : α → Bool) (l : List α) : -1 ≤ fidx p l ∧ fidx p l < l.length := by
  unfold fidx
  cases h : l.findIdx? p with
  | none => exact ⟨Int.le_refl _, by show (-1 : Int) < l.length; omega⟩
  | some i =>
    have := (List.findIdx?_eq_some_iff_getElem.1 h).1
    exact ⟨by show (-1 : Int) ≤ (i : Int); omega, by show (i : Int) < l.length; omega⟩
theorem rj (b : aW) (i : Int) : -1 ≤ follows b i ∧ follows b i < b.lots.length := G3 _ _
def zJ (b : aW) (i : Int) : Nat → List Int → Option (List Int)
  | 0, _ => none
  | f + 1, l => if follows b (nth l (l.length - 1)) = i ∧ 1 < l.length then some l else if follows b (nth l (l.length - 1)) ≤ i then none else
    if l.length + 1 > b.lots.length then none else zJ b i f (l ++ [follows b (nth l (l.length - 1))])
def tI (b : aW) (i : Nat) : Option (List Int) := zJ b i (b.lots.length + 1) [(i : Int)]
structure PE (b : aW) (i : Nat) (l : List Int) : Prop where
  pos : 1 ≤ l.length
  len : l.length ≤ b.lots.length
  rng : ∀ x ∈ l, 0 ≤ x ∧ x < b.lots.length
  same : tI b i = zJ b i (b.lots.length + 2 - l.length) l
section
variable {b : aW} {i : Nat} {l : List Int} (x : PE b i l)
include x
theorem PE.last : 0 ≤ nth l (l.length - 1) ∧ nth l (l.length - 1) < b.lots.length := x.rng _ (bh (by have := x.pos; omega))
theorem PE.step : tI b i = if follows b (nth l (l.length - 1)) = i ∧ 1 < l.length then some l else if follows b (nth l (l.length - 1)) ≤ i then none else
 if l.length + 1 > b.lots.length then none else zJ b i (b.lots.length + 1 - l.length) (l ++ [follows b (nth l (l.length - 1))]) := by
 have h1 := x.pos
 have h2 := x.len
 rw [x.same, show b.lots.length + 2 - l.length = (b.lots.length + 1 - l.length) + 1 by omega]; rfl
theorem PE.found (h1 : follows b (nth l (l.length - 1)) = i) (h2 : 1 < l.length) : tI b i = some l := by rw [x.step, if_pos ⟨h1, h2⟩]
theorem PE.stop (h1 : ¬ (follows b (nth l (l.length - 1)) = i ∧ 1 < l.length)) (h2 : follows b (nth l (l.length - 1)) ≤ i) : tI b i = none := by rw [x.step, if_neg h1, if_pos h2]
theorem PE.QS (h1 : ¬ (follows b (nth l (l.length - 1)) = i ∧ 1 < l.length)) (h2 : ¬ follows b (nth l (l.length - 1)) ≤ i) (h3 : b.lots.length < l.length + 1) : tI b i = none := by rw [x.step, if_neg h1, if_neg h2, if_pos h3]
theorem PE.next (h1 : ¬ (follows b (nth l (l.length - 1)) = i ∧ 1 < l.length)) (h2 : ¬ follows b (nth l (l.length - 1)) ≤ i) (h3 : ¬ b.lots.length < l.length + 1) : PE b i (l ++ [follows b (nth l (l.length - 1))]) := by
 refine ⟨by simp, by simp; omega, fun y hy => ?_, ?_⟩
 ·rcases List.mem_append.1 hy with h | h
  ·exact x.rng y h
  rw [List.mem_singleton.1 h]
  have := rj b (nth l (l.length - 1)); omega
 rw [x.step, if_neg h1, if_neg h2, if_neg h3, List.length_append, List.length_singleton]
 congr 1
 omega
end
end Go.Proofs.YtmmcenjknimhbaaGreat
namespace Go.T
open Go Go.RowKit
section
variable {P : Program} {fr : Fr} {ops : Array Oper} {A : As} {rest : List Oper} {K : As → List (As × Fx) → Prop} {d : Nat} {t ty' ty2 : TypeId} {p : String} {e : Array Edge} {x y : Operand}
theorem oP {o : Oper} {f : Fx} {s : Nat} {g h : Bool} {ty : Ty} (hs : A.slots s = .gd (g && h) ty) (hg : g = true) (hx : xe P fr ops o (A.set s (.gd h ty)) f) : xe P fr ops o A f := by
  obtain ⟨h1, h2, h3, h4, h5⟩ := hx
  refine ⟨h1, h2, h3, h4, fun a w M wf hsz hr ht => h5 a w M wf hsz (fun c hc hcn => ?_) ht⟩
  have := hr c hc hcn
  simp only [As.set]
  cases hb : Nat.beq c s with
  | false => exact this
  | true =>
    have e : c = s := Nat.eq_of_beq_eq_true hb
    subst e
    rw [hs, hg, Bool.true_and] at this
    exact this
section
variable {b : Frame} {a : Act} {k : List Item} {cs : List Frame} {w : World}
theorem jI {c : Code} : step P (lone (b.atR a (.code (.scope c) :: k)) cs w) = .next (lone (b.atR a (.code c :: .inScope c :: k)) cs w) :=
 step_lone_go (by simp [stepG, stepG.exec, Frame.atR])
theorem AV {c : Code} : step P (lone (b.atR a (.inScope c :: k)) cs w) = .next (lone (b.atR a k) cs w) :=
 step_lone_go (by simp [stepG, stepG.exec, Frame.atR])
end
theorem HK {F : Fence} {n : Nat} {c : Code} {Q : Exit → Act → World → Prop} {a : Act} {w : World} (h : c.wpIn F n P (Exit.noGoto Q) a w) : (Code.scope c).wpIn F n P Q a w := by
  intro b k cs hro hb hr
  have h0 : (lone (b.atR a (.code (.scope c) :: k)) cs w).fenced P F := fenced_calm hb hr rfl
  obtain ⟨e, a₁, w₁, hq, harr⟩ := h b (.inScope c :: k) cs hro hb hr
  cases e with
  | normal => exact ⟨.normal, a₁, w₁, hq, .head h0 jI (StepsIn.trans harr (.one (fenced_calm hb hr rfl) AV))⟩
  | exit id =>
    have hx : exitTo id (.inScope c :: k) = exitTo id k := by simp [exitTo]
    exact ⟨.exit id, a₁, w₁, hq, fun k' hk => .head h0 jI (harr.1 k' (by rw [hx]; exact hk)),
      fun hr' hk => let ⟨k₁, h1, h2⟩ := harr.2 hr' (by rw [hx]; exact hk); ⟨k₁, h1, .head h0 jI h2⟩⟩
  | goto l => exact hq.elim
  | ret => exact ⟨_, a₁, w₁, hq, .of_steps (.one h0 jI) harr⟩
  | panic ch => exact ⟨_, a₁, w₁, hq, .of_steps (.one h0 jI) harr⟩
  | outgrown => exact ⟨_, a₁, w₁, hq, .of_steps (.one h0 jI) harr⟩
section
variable {Q : Exit → Act → World → Prop} {c : Code} {i : Nat}
theorem Np (h : eU P fr c A (Exit.noGoto Q)) : eU P fr (.scope c) A Q := fun a w ha => HK (h a w ha)
theorem OL (h : cm fr A (Q .normal)) : eU P fr (.label i) A Q := fun a w ha => wpIn_label (h a w ha)
theorem wL (h : cm fr A (Q .ret)) : cm fr A (Exit.noGoto Q .ret) := h
end
def SK (p : Prop) (_ : World) (_ : ah) (v : Value) : Prop := ∃ c : Bool, v = .bool c ∧ (c = true → p)
def Ty.nb (p : Prop) : Ty := { den := SK p, mono := fun _ _ _ h => h, one := true, isOne := fun _ ⟨_, e, _⟩ => e ▸ rfl }
theorem q5 {Q : Exit → Act → World → Prop} {c : Operand} {q : Prop} {x y : Code} (hc : A.op fr c = .nb q) (h1 : q → eU P fr x A Q) (h2 : True → eU P fr y A Q) : eU P fr (.cond c x y) A Q := fun a w ha => by
  have hv : ∃ b : Bool, a.eval c = .bool b ∧ (b = true → q) := by
    obtain ⟨M, _, hs, _⟩ := ha
    have := bk (x := c) (rs := bR c) (fun _ h => h) (fun c _ hn => hs c hn)
    rw [hc] at this; exact this
  obtain ⟨b, hv, hq⟩ := hv
  cases b with
  | true => exact wpIn_cond_true hv (h1 (hq rfl) a w ha)
  | false => exact wpIn_cond_false hv (h2 trivial a w ha)
theorem AY {ty' : TypeId} {el : TypeId} (hu : P.underlying ty' = some (.slice el)) (A : Option Addr) (n c : Nat) (w : World) : (Op.equal ty' (.slice A n c) (.slice none 0 0)).run P w = .ok A.isNone w := by
 unfold Op.equal Op.maxDepth
 rw [Op.equalIn]
 simp only [Sem.run_bind, run_underlying hu, Result.andThen_ok]
 cases A <;> rfl
theorem xZ {α : Type} {E : El α} {xs : List α} {el : TypeId} (hu : P.underlying ty' = some (.slice el)) (hx : A.op fr x = .sl E xs)
    (h : aV P fr ops rest (A.set d (.nb (xs = []))) fun A' l' => K A' ((A, { d := some d, ty := .nb (xs = []), rs := bR x }) :: l')) : aV P fr ops (⟨some d, .binOp .eql ty' x (.const (.slice none 0 0)) ty2, t, p, e, none⟩ :: rest) A K :=
  bB (bH (rt := []) rfl rfl fun a w M _ hr _ => by
    have := bk (x := x) (fun _ h => h) hr
    rw [hx] at this
    obtain ⟨ad, c, ex, _, _, hp⟩ := this
    have ey : a.eval (.const (.slice none 0 0)) = .slice none 0 0 := rfl
    refine ⟨.bool ad.isNone, by simp only [execOp, ex, ey]; simp [eqGuard, binOp, go_sem, AY hu], ad.isNone, rfl, fun hn => ?_⟩
    cases xs with
    | nil => rfl
    | cons y l =>
      obtain ⟨b, off, e, _⟩ := hp (by simp)
      rw [e] at hn; cases hn) h
theorem HR {α β : Type} {E : El α} {E' : El β} {l : List α} {l' : List β} (h : l.flatMap E.tys = l'.flatMap E'.tys) (hl : l.length = l'.length) : (Ty.sl E l).Sub (Ty.sl E' l') :=
 fun _ _ _ ⟨A, c, e, h1, h2, h3⟩ => ⟨A, c, by rw [← hl]; exact e, by rw [← hl]; exact h1, h2, fun h0 => by rw [← h]; exact h3 (by rw [hl]; exact h0)⟩
theorem vR {α : Type} (E : El α) : ∀ (xs : List α) (n : Nat), (xs.flatMap E.tys).take (n * E.size) = (xs.take n).flatMap E.tys
  | [], n => by simp
  | x :: xs, 0 => by simp
  | x :: xs, n + 1 => by
    rw [List.flatMap_cons, List.take_succ_cons, List.flatMap_cons, ← vR E xs n, List.take_append, E.len, Nat.succ_mul, List.take_of_length_le (by rw [E.len]; omega)]
    congr 2; omega
theorem Kj {α : Type} {E : El α} {xs : List α} {n hi el : Nat} {k : IntKind} {ti te : TI} [T : k5 P] (hx : A.op fr x = .pa E xs 0) (hy : A.op fr y = .int k hi) (hT : T.tab[ty']? = some ti) (hk : ti.k = .array n el) (hE : T.tab[el]? = some te) (h1 : n ≤ maxLen) (h2 : hi ≤ n) (h3 : hi ≤ xs.length)
 (h : aV P fr ops rest (A.set d (.sl E (xs.take hi))) fun A' l' => K A' ((A, { d := some d, ty := .sl E (xs.take hi), rs := bR x ++ bR y }) :: l')) : aV P fr ops (⟨some d, .slice ty' x none (some y) none, t, p, e, none⟩ :: rest) A K :=
 bB (bH rfl rfl fun a w M _ hr _ => by
  obtain ⟨hdx, hdy⟩ := op2 hr
  rw [hx] at hdx; rw [hy] at hdy
  obtain ⟨b, q, ex, hp⟩ := hdx
  have ey : a.eval y = .int k hi := hdy
  obtain ⟨_, D, _, hD, hkd, _⟩ := cF hT
  rw [hk] at hkd
  cases D <;> simp only [TK.of, reduceCtorEq, TK.array.injEq] at hkd
  obtain ⟨e1, e2⟩ := hkd
  subst e1; subst e2
  rename_i n el
  have hlen : (xs.take hi).length = hi := by simp; omega
  have hs := fun w => bz (P := P) hE w
  refine ⟨.slice (some ⟨b, q, none⟩) hi n, ?_, some ⟨b, q, none⟩, n, by rw [hlen], by omega, h1, fun _ => ⟨b, q, rfl, ?_⟩⟩
  ·simp [execOp, ex, ey, Instr.sliceAt, run_underlying hD, Instr.sureAddr, Instr.sliceBounds, Instr.sliceBound, asIntOf, h2, hs]
   intro _; exact Addr.add_lit _ _ _
  have := zX (hi * E.size) hp
  rw [vR] at this; exact this) h
theorem m7 [T : k5 P] {α : Type} {E : El α} {xs : List α} {len el : Nat} {parts : Array (Nat × Operand)} {ti te : TI} {ls : List (Nat × List Ty)} (hT : T.tab[ty']? = some ti) (hk : ti.k = .slice el) (hE : T.tab[el]? = some te) (hs : te.size = E.size) (hz : te.zero.length = te.size) (h0 : 0 < te.size) (hle : len * te.size ≤ 16777216) (hp : aT A fr parts.toList ls)
 (hf : qj (fun i => some (i * te.size, te.size)) ((List.range (len * te.size)).map fun j => Ty.m9 (te.zero.getD (j % te.size) undef)) ls = some (xs.flatMap E.tys)) (hx : xs.length = len) (hpa : fr.pass.contains (d + 1) = false)
 (h : aV P fr ops rest (A.after { d := some d, ty := .row E el (d + 1) xs, K := [d + 1], rs := parts.toList.flatMap fun x => bR x.2 }) fun A' l' => K A' ((A, { d := some d, ty := .row E el (d + 1) xs, K := [d + 1], rs := parts.toList.flatMap fun x => bR x.2 }) :: l')) : aV P fr ops (⟨some d, .buildSlice ty' len parts, t, p, e, none⟩ :: rest) A K := by
 refine ⟨_, fH (f := { d := some d, ty := .row E el (d + 1) xs, K := [d + 1], rs := parts.toList.flatMap fun x => bR x.2 }) rfl rfl (by simp) (by simp) (by simp at hpa ⊢; exact hpa) fun a w M wf hr _ => ?_, h⟩
 obtain ⟨z, hz1, hz2⟩ := qi hE (by intro hn; rw [hn] at hz; simp at hz; omega) w
 obtain ⟨_, D, _, hD, hkd, _⟩ := cF hT
 rw [hk] at hkd
 cases D <;> simp only [TK.of, reduceCtorEq, TK.slice.injEq] at hkd
 rename_i el0
 have hel : el0 = el := hkd
 subst hel
 have hzs : z.cells.size = te.size := by rw [← hz, ← hz2]; simp
 let zs : Array Value := if len * te.size = 0 then #[] else z.cells
 have hcells : bt w M ((List.range (len * te.size)).map fun j => Ty.m9 (te.zero.getD (j % te.size) undef)) ((Array.range (len * te.size)).map (zs[· % zs.size]!)).toList := by
  refine g9 (by simp) fun i u hi => ?_
  rw [List.getElem?_map] at hi
  simp only [Option.map_eq_some_iff] at hi
  obtain ⟨j, hj, rfl⟩ := hi
  have hlt : i < len * te.size := by have := (List.getElem?_eq_some_iff.1 hj).1; simpa using this
  rw [List.getElem?_range hlt] at hj
  injection hj with hj
  subst hj
  have hne : ¬ len * te.size = 0 := by omega
  refine ⟨te.zero.getD (i % te.size) undef, ?_, n5 _ _ _⟩
  have hm : i % te.size < z.cells.size := by rw [hzs]; exact Nat.mod_lt _ h0
  have e1 : zs[i % zs.size]! = te.zero.getD (i % te.size) undef := by
   simp only [zs, if_neg hne, hzs]
   rw [getElem!_pos z.cells _ hm, ← hz2, List.getD_eq_getElem?_getD, List.getElem?_eq_getElem (by simpa using hm)]
   simp
  simp [List.getElem?_range hlt, e1]
 obtain ⟨cs', h1, h2⟩ := v8 hr hp (place := fun i => some (i * te.size, te.size)) (cs := (Array.range (len * te.size)).map (zs[· % zs.size]!)) (fun x hx c hc => List.mem_flatMap.2 ⟨x, hx, hc⟩) hcells hf
 have hparts : (parts.map fun x => (x.1, a.eval x.2)).toList = parts.toList.map fun x => (x.1, a.eval x.2) := by simp
 obtain ⟨h3, h4, h5⟩ := jS wf (.cells cs' el0) (d + 1)
 have hcl : cs'.toList.length = len * te.size := by rw [bw h2, cg, hx, hs]
 have hmx : len ≤ maxLen := by
  have : len ≤ len * te.size := Nat.le_mul_of_pos_right _ h0
  simp only [maxLen]; omega
 refine ⟨.slice (some ⟨w.heap.size, 0, none⟩) len len, w.alloc (.cells cs' el0), ?_, _, h3, h4, ⟨cs'.toList, ⟨by rw [hcl, hx, hs], .inr ⟨w.heap.size, len, cs', by rw [hx], Nat.zero_le _, fD _ _, by rw [hx]; exact Nat.le_refl _, hmx, by rw [← hs]; simpa using hcl, by rw [List.take_of_length_le (by rw [hcl, hx, hs]; exact Nat.le_refl _)]⟩⟩, ?_, fun g hg => ?_⟩, by simp⟩
 ·have hbig : ¬ (len * te.size > 2 ^ 24) := by omega
  have hbig' : ¬ (2 ^ 24 < len * te.size) := by omega
  simp only [execOp, Instr.buildSlice, Sem.run_bind, run_underlying hD, Result.andThen_ok, bz hE]
  simp only [hbig', gt_iff_lt, if_false]
  by_cases hn : len * te.size = 0
  ·have : zs = #[] := if_pos hn
   rw [this] at h1
   simp only [hn, if_true, Sem.run_pure, Sem.run_bind, Result.andThen_ok]
   rw [hn] at h1
   simp only [hparts, h1]
   simp [newRow, newObj, Sem.run]
  have : zs = z.cells := if_neg hn
  rw [this] at h1
  simp only [if_neg hn, Sem.run_pure, Sem.run_bind, Result.andThen_ok, hz1]
  simp only [hparts, h1]
  simp [newRow, newObj, Sem.run]
 ·refine bV h4 (fun u hu => ?_) (fun u hu => ?_) h2
  ·rw [E.cW] at hu; cases hu
  rw [E.cC] at hu; cases hu
 simp [Value.ownBlock] at hg
 subst hg; exact h5
end
end Go.T
namespace Go.T
open Go Go.RowKit
section
variable {A : As} {α : Type} {E : El α} {tg Tb : Nat} {xs : List α}
theorem PZ {s : Nat} (hx : A.slots s = .ptr tg 0) (hc : A.tag tg = some (.vec E Tb xs)) (h1 : e8 tg) : Bu A tg s (.pa E xs 0) := by
 intro w M v wf ht hv
 rw [hx] at hv
 obtain ⟨b, hb, e⟩ := hv
 have hv := ht _ (cM hc)
 refine ⟨b, 0, by simpa using e, by simp [eK, hb], wf.lt b _ hb, fun i t hi => ?_⟩
 obtain ⟨u, hu, hd⟩ := kg (E := E) (Tb := Tb) (xs := xs) wf h1 hb hv hi
 refine ⟨u, by rw [Nat.zero_add]; exact hu, t.mono (iI (w := w) (tg := tg)) ?_ ?_ hd⟩
 ·intro u hu
  have : u ∈ bl (xs.flatMap E.tys) := List.mem_flatMap.2 ⟨t, List.mem_of_getElem? hi, hu⟩
  rw [E.cW] at this; cases this
 intro u _ h; cases h
end
section
variable {P : Program} {fr : Fr} {ops : Array Oper} {A : As} {rest : List Oper} {K : As → List (As × Fx) → Prop} {d : Nat} {t ty' ty2 : TypeId} {p : String} {e : Array Edge} [T : k5 P]
variable {α : Type} {E : El α} {xs : List α} {x y : Operand} {tg Tb : Nat} {ti : TI}
end
end Go.T
namespace Go.T
open Go Go.RowKit
section
variable {P : Program} {fr : Fr} {ops : Array Oper} {A : As} {rest : List Oper} {K : As → List (As × Fx) → Prop} {d : Nat} {t ty' ty2 : TypeId} {p : String} {e : Array Edge} [T : k5 P]
variable {x y : Operand} {ti ts : TI}
theorem CP {src : TypeId} {k k0 : IntKind} {n : Int} (hx : A.op fr x = .int k0 n) (hS : T.tab[src]? = some ts) (hT : T.tab[ty']? = some ti) (hk : ti.k = .int k)
 (h : aV P fr ops rest (A.set d (.int k (k.wrap n))) fun A' l' => K A' ((A, { d := some d, ty := .int k (k.wrap n), rs := bR x }) :: l')) : aV P fr ops (⟨some d, .convert src ty' x, t, p, e, none⟩ :: rest) A K :=
 bB (bH (rt := []) rfl rfl fun a w M _ hr _ => by
  have := bk (x := x) (fun _ h => h) hr
  rw [hx] at this
  have ex : a.eval x = .int k0 n := this
  obtain ⟨_, S, _, hS', _, _⟩ := cF hS
  obtain ⟨_, D, _, hD, hkd, _⟩ := cF hT
  rw [hk] at hkd
  cases D <;> simp only [TK.of, reduceCtorEq, TK.int.injEq] at hkd
  subst hkd
  refine ⟨.int _ (IntKind.wrap _ n), ?_, rfl⟩
  simp only [execOp, ex, convert, Sem.run_bind, run_underlying hS', run_underlying hD, Result.andThen_ok]
  cases S <;> rfl) h
end
end Go.T
namespace Go.T
open Go
section
variable {P : Program} {fr : Fr} {A : As} {c : Code} {Q : Exit → Act → World → Prop}
def Fg (A : As) (tg : Nat) (t0 t : Ty) : Prop := ∀ w M v, Wf w M → (∀ x ∈ A.tags, x.2.den w M x.1) → t0.den w M v → t.den w (eK M tg) v
def Ll (A : As) (tg : Nat) : List Ty → List Ty → Prop
  | [], [] => True
  | a :: l, b :: l' => Fg A tg a b ∧ Ll A tg l l'
  | _, _ => False
def Qf (A : As) (tg : Nat) (x : Nat × Cont) : Prop := ∀ w M, Wf w M → (∀ x ∈ A.tags, x.2.den w M x.1) → x.2.den w (eK M tg) x.1
def Pu (A : As) (tg : Nat) : List (Nat × Cont) → Prop
  | [] => True
  | x :: l => Qf A tg x ∧ Pu A tg l
theorem cY {tg : Nat} {t : Ty} (h : kJ t.deps [tg] = true) : Fg A tg t t := fun w M _ _ _ hd =>
 t.mono (iI (w := w)) (fK h) (fun _ _ h => by cases h) hd
theorem BD {α : Type} {E : El α} {T tg : Nat} {xs : List α} : Fg A tg (.row E T tg xs) (.sl E xs) := fun w M v wf _ hd =>
 yK wf hd (fun b hb => by simp [eK, hb]) (fun b hb => by simp [eK, hb])
theorem LY {α : Type} {E : El α} {T tg n : Nat} {xs : List α} (hc : A.tag tg = some (.vec E T xs)) (hn : xs.length = n) (h1 : e8 tg) : Fg A tg (.vs tg n) (.sl E xs) := fun w M v wf ht hd => by
 have hv : fA E T xs w M tg := ht _ (cM hc)
 subst hn
 rcases hd with ⟨h0, rfl⟩ | ⟨b, cc, hb, e, hn1, hn2⟩
 ·exact ⟨none, 0, by rw [h0], by omega, by simp [maxLen], fun h => absurd h (by omega)⟩
 refine ⟨_, cc, e, hn1, hn2, fun _ => ⟨b, 0, rfl, by simp [eK, hb], wf.lt b _ hb, fun i t hi => ?_⟩⟩
 obtain ⟨u, hu, hdu⟩ := kg wf h1 hb hv hi
 refine ⟨u, by rw [Nat.zero_add]; exact hu, t.mono (iI (w := w)) ?_ ?_ hdu⟩
 ·intro u hu
  have : u ∈ bl (xs.flatMap E.tys) := List.mem_flatMap.2 ⟨t, List.mem_of_getElem? hi, hu⟩
  rw [E.cW] at this; cases this
 intro u _ h; cases h
theorem z6 {tg : Nat} {w : World} {M : ah} (wf : Wf w M) (ht : ∀ x ∈ A.tags, x.2.den w M x.1) : ∀ {l l' : List Ty} {vs : List Value}, Ll A tg l l' → bt w M l vs → bt w (eK M tg) l' vs
  | [], [], [], _, _ => trivial
  | _ :: _, _ :: _, _ :: _, ⟨h1, h2⟩, ⟨h3, h4⟩ => ⟨h1 _ _ _ wf ht h3, z6 wf ht h2 h4⟩
theorem jw {tg o T : Nat} {l l' : List Ty} (ho : A.tag o = some (.cells T l)) (hne : Nat.beq o tg = false) (h : Ll A tg l l') : Qf A tg (o, .cells T l') := fun w M wf ht => by
 obtain ⟨b, cs, hb, hh, hd⟩ := ht _ (cM ho)
 refine ⟨b, cs, ?_, hh, z6 wf ht h hd⟩
 unfold eK
 rw [if_neg]
 ·exact hb
 rw [hb]; intro e; injection e with e; subst e; simp at hne
theorem D6 {tg : Nat} {w : World} {M : ah} (wf : Wf w M) (ht : ∀ x ∈ A.tags, x.2.den w M x.1) : ∀ {lt : List (Nat × Cont)}, Pu A tg lt → ∀ {x : Nat × Cont}, x ∈ lt → x.2.den w (eK M tg) x.1
  | y :: _, ⟨h1, h2⟩, x, hx => by
    rcases List.mem_cons.1 hx with rfl | hx
    · exact h1 w M wf ht
    · exact D6 wf ht h2 hx
theorem u6 {tg : Nat} (l : List (Nat × Ty)) (lt : List (Nat × Cont)) (h1 : 1 ≤ tg) (hp : fr.pass.contains tg = false) (hl : GC A tg l) (hlt : Pu A tg lt) (h : eU P fr c ⟨(A.oK tg l).slots, lt ++ (A.oK tg l).tags⟩ Q) : eU P fr c A Q := fun a w ⟨M, ok, hsl, ht⟩ => by
  have le : Le (· ∈ ([] : List Nat)) (· ∈ [tg]) w M w (eK M tg) := iI
  refine h a w ⟨eK M tg, ⟨CE ok.wf, Fr.jF ok.base (by intro _ h; cases h) (fun t ht => by simp only [List.mem_singleton] at ht; subst ht; exact ⟨h1, by simpa using hp⟩) le, ok.size, ok.defers.step (by intro _ h; cases h) (fun t ht => by simp only [List.mem_singleton] at ht; subst ht; exact h1) le⟩, fun i hi => ?_, fun x hx => ?_⟩
  · have base : (fC [] [tg] A.slots i).den w (eK M tg) (a.tmps.getD i undef) := by
      rcases ep [] [tg] A.slots i with ⟨e, hdj⟩ | ⟨_, e⟩
      · rw [e]; exact (A.slots i).mono le (eJ hdj).1 (eJ hdj).2 (hsl i hi)
      · rw [e]; trivial
    show (p7 l (fC [] [tg] A.slots) i).den _ _ _
    clear h
    induction l with
    | nil => exact base
    | cons x l ih =>
      obtain ⟨d, t⟩ := x
      unfold p7
      cases hb : Nat.beq i d with
      | false => simp only [cond_false]; exact ih hl.2
      | true =>
        have : i = d := Nat.eq_of_beq_eq_true hb
        subst this
        simp only [cond_true]
        exact hl.1 w M _ ok.wf ht (hsl i hi)
  · rcases List.mem_append.1 (show x ∈ lt ++ (A.oK tg l).tags from hx) with hx | hx
    · exact D6 ok.wf ht hlt hx
    · exact gb le hx fun y hy _ => ht y hy
end
section
open Go.RowKit
variable {P : Program} {A : As} {fn : Func} {n : Nat} {w0 : World} {M0 : ah} {F : List Nat} {post : List (Nat × Cont)} [T : k5 P]
theorem Nm (L : List Nat) {tm ty tg Tb : Nat} {l : List Ty} {ti : TI} {res : Ty} (hr : fn.results = #[.cell tm ty]) (ht : Nat.blt tm n = true) (hx : A.slots tm = .ptr tg 0) (hc : A.tag tg = some (.cells Tb l)) (h1 : e8 tg) (hT : T.tab[ty]? = some ti) (ha : ti.k.agg = true) (hl : l.length = ti.size)
 (hL : ∀ t ∈ F, t ∈ L) (hp : wY A L post) (hs : OV L (.agg l) res) :
 cm ⟨n, w0, M0, F, .plain⟩ A (bodyPost P fn (cT F post w0 M0 res) .ret) := by
 intro a w ⟨M, ok, hsl, htg⟩
 have hd := hsl tm (by simpa using ht)
 rw [hx] at hd
 obtain ⟨b, hb, e⟩ := hd
 obtain ⟨b', cs, hb', hh, hds⟩ := htg _ (cM hc)
 obtain ⟨u, rfl⟩ : ∃ u, tg = u + 1 := ⟨tg - 1, by omega⟩
 have := ok.wf.inj b b' u (by omega) hb hb'
 subst this
 have hlen := bw hds
 have hload := fX (P := P) hT ha (w := w) (b := b) (off := 0) (cs := cs.toList) (by rw [hlen, hl]) (fun j v hj => by simpa [World.cell?, hh] using hj)
 have hload' : (loadVar ty ⟨b, 0, none⟩).run P w = .ok (.agg cs) w := by simpa [Instr.loadAt, Instr.sureAddr] using hload
 refine ⟨ok.eD (by simp), .agg cs, ?_, _, rR L M, rfl, uk ok.wf, vC hL ok.base, hs _ _ _ ok.wf ⟨cs, rfl, hds⟩, DP ok.wf htg hp⟩
 have e' : a.tmps.getD tm undef = .pointer (some ⟨b, 0, none⟩) := e
 have e'' : a.tmps[tm]?.getD undef = .pointer (some ⟨b, 0, none⟩) := by rw [← Array.getD_eq_getD_getElem?]; exact e'
 simp [results, hr, e'', asAddr, hload']
end
end Go.T
namespace Go.T
open Go Go.RowKit
theorem mI {w : World} {g : Nat} {old : Array Value} {t : TypeId} (cs : Array Value) (hg : w.heap[g]? = some (.cells old t (0, 0))) : w.setRow g cs = { w with heap := w.heap.setIfInBounds g (.cells cs t (0, 0)) } := by
 unfold World.setRow
 congr 1
 obtain ⟨hlt, hv⟩ := Array.getElem?_eq_some_iff.1 hg
 apply Array.ext_getElem?
 intro i
 by_cases e : g = i
 ·subst e
  rw [Array.getElem?_modify, if_pos rfl, hg, Array.getElem?_setIfInBounds_self_of_lt hlt]; rfl
 rw [Array.getElem?_modify, if_neg e, Array.getElem?_setIfInBounds_ne e]
theorem A2 {α : Type} (E : El α) : ∀ (xs : List α) (n : Nat), (xs.flatMap E.tys).drop (n * E.size) = (xs.drop n).flatMap E.tys
  | [], n => by simp
  | x :: xs, 0 => by simp
  | x :: xs, n + 1 => by
    rw [List.flatMap_cons, List.drop_succ_cons, ← A2 E xs n, List.drop_append, E.len, Nat.succ_mul, List.drop_of_length_le (by rw [E.len]; omega), List.nil_append]
    congr 1; omega
theorem HW {α : Type} {E : El α} {xs ys : List α} {w : World} {M : ah} {cur vs : List Value} {i : Nat} (hd : bt w M (xs.flatMap E.tys) (cur.take (xs.flatMap E.tys).length)) (hv : bt w M (ys.flatMap E.tys) vs) (hi : i + ys.length ≤ xs.length) :
 bt w M ((xs.take i ++ (ys ++ xs.drop (i + ys.length))).flatMap E.tys) ((cur.take (i * E.size) ++ vs ++ cur.drop (i * E.size + vs.length)).take ((xs.take i ++ (ys ++ xs.drop (i + ys.length))).flatMap E.tys).length) := by
 have hvl : vs.length = ys.length * E.size := by rw [bw hv, cg]
 have hN : (xs.flatMap E.tys).length = xs.length * E.size := cg E xs
 have hcl : xs.length * E.size ≤ cur.length := by
  have := bw hd
  rw [List.length_take, hN] at this; omega
 have hm : (i + ys.length) * E.size ≤ xs.length * E.size := Nat.mul_le_mul_right _ hi
 have hm2 : (i + ys.length) * E.size = i * E.size + ys.length * E.size := Nat.add_mul _ _ _
 have hxl : (xs.take i ++ (ys ++ xs.drop (i + ys.length))).length = xs.length := by simp; omega
 rw [cg E (xs.take i ++ (ys ++ xs.drop (i + ys.length))), hxl, List.flatMap_append, List.flatMap_append]
 have e : (cur.take (i * E.size) ++ vs ++ cur.drop (i * E.size + vs.length)).take (xs.length * E.size) = cur.take (i * E.size) ++ (vs ++ (cur.take (xs.length * E.size)).drop ((i + ys.length) * E.size)) := by
  have l1 : (cur.take (i * E.size)).length = i * E.size := by rw [List.length_take]; omega
  rw [List.append_assoc, List.take_append, List.take_append, l1]
  have e1 : (cur.take (i * E.size)).take (xs.length * E.size) = cur.take (i * E.size) := List.take_of_length_le (by omega)
  have e2 : vs.take (xs.length * E.size - i * E.size) = vs := List.take_of_length_le (by omega)
  rw [e1, e2, hvl, hm2, List.drop_take]
  congr 3; omega
 rw [e]
 rw [hN] at hd
 refine kU ?_ (kU hv ?_)
 ·have := ju (i * E.size) hd
  rw [vR, List.take_take, Nat.min_eq_left (by omega)] at this; exact this
 have := iN ((i + ys.length) * E.size) hd
 rw [A2] at this; exact this
section
variable {P : Program} {fr : Fr} {ops : Array Oper} {A : As} {rest : List Oper} {K : As → List (As × Fx) → Prop} {d : Nat} {t ty' : TypeId} {p : String} {e : Array Edge} [T : k5 P]
theorem Jt {α : Type} {xs : List α} {i : Nat} (h : i < xs.length) (z : α) : xs.take i ++ ([z] ++ xs.drop (i + [z].length)) = xs.set i z := by
 rw [List.set_eq_take_append_cons_drop, if_pos h]; rfl
theorem uM {α : Type} {E : El α} {xs : List α} {x y : Operand} {tg off Tb : Nat} {ti : TI} {z : α} (i : Nat) (hx : A.op fr x = .ptr tg off) (he : off = i * E.size) (hc : A.tag tg = some (.vec E Tb xs)) (h1 : e8 tg) (hT : T.tab[ty']? = some ti) (hsz : ti.size = E.size) (hy : A.op fr y = .agg (E.tys z)) (hi : i < xs.length)
 (h : aV P fr ops rest (A.after { d := none, S := [tg], sets := [(tg, .vec E Tb (xs.set i z))], rs := bR x ++ bR y, rt := [tg] }) fun A' l'' => K A' ((A, { d := none, S := [tg], sets := [(tg, .vec E Tb (xs.set i z))], rs := bR x ++ bR y, rt := [tg] }) :: l'')) :
 aV P fr ops (⟨none, .store ty' x y, t, p, e, none⟩ :: rest) A K := by
 refine ⟨_, kf rfl rfl rfl (by simp) (by simpa using h1.1) (by simp) fun a w M wf hr ht => ?_, h⟩
 obtain ⟨hdx, hdy⟩ := op2 hr
 rw [hx] at hdx; rw [hy] at hdy
 obtain ⟨b, hb, ex⟩ := hdx
 obtain ⟨vs, ey, hvs⟩ := hdy
 rcases nL hc w M ht with rfl | ⟨b', cs, hb', hh, hd⟩
 ·exact absurd hi (Nat.not_lt_zero _)
 obtain ⟨u, rfl⟩ : ∃ u, tg = u + 1 := ⟨tg - 1, by omega⟩
 have := wf.inj b b' u (by omega) hb hb'
 subst this
 have hlen := bw hd
 have hvl : vs.size = E.size := by have := bw hvs; rw [E.len] at this; simpa using this
 have hoff : i * E.size + E.size ≤ cs.size := by
  rw [cg, List.length_take] at hlen
  have : (i + 1) * E.size ≤ xs.length * E.size := Nat.mul_le_mul_right _ hi
  rw [Nat.succ_mul] at this
  simp at hlen; omega
 have hones : ∀ v ∈ vs.toList, v.oneCell' = true := lu hvs (fun t ht => by
  have := iO E [z] t (by simpa using ht)
  exact this)
 have hst := run_storeCells_at (P := P) b off Tb vs.toList 0 cs w hh (by simp [he, hvl]; omega) hones
 rw [mI _ hh] at hst
 obtain ⟨h1', h2', h3'⟩ := jW (cs' := (cs.toList.take (off + 0) ++ vs.toList ++ cs.toList.drop (off + 0 + vs.toList.length)).toArray) (Tb := Tb) wf hb _ rfl
 refine ⟨_, ?_, M, h1', h2', trivial, ?_⟩
 ·simp only [execOp, Instr.storeAt, Instr.sureAddr, ex, ey, storeVar, Value.cells, bz hT, Sem.run_bind, Sem.run_pure, Result.andThen_ok, hsz, hvl, hst]
  simp [hst]
 intro z' hz'
 simp only [List.mem_singleton] at hz'
 subst hz'
 refine .inr ⟨b, _, hb, h3', ?_⟩
 have hp := HW (ys := [z]) (vs := vs.toList) (i := i) hd (by simpa using hvs) (by show i + 1 ≤ _; omega)
 rw [Jt hi, ← he] at hp
 exact bV h2' (by intro _ _ h; cases h) (by rw [E.cC]; intro _ h; cases h) (by simpa using hp)
end
section
variable {P : Program} {A : As} {fn : Func} {n : Nat} {w0 : World} {M0 : ah} [T : k5 P]
theorem qI {tm ty tg Tb t2 : Nat} {l : List Ty} {ti : TI} {r1 r2 : Ty} (hr : fn.results = #[.cell tm ty, .tmp t2]) (ht : Nat.blt tm n = true) (h2 : Nat.blt t2 n = true) (hx : A.slots tm = .ptr tg 0) (hc : A.tag tg = some (.cells Tb l)) (h1 : e8 tg) (hT : T.tab[ty]? = some ti) (ha : ti.k.agg = true) (hl : l.length = ti.size) (hs : eu (.agg l) r1) (hs2 : eu (A.slots t2) r2) :
 cm ⟨n, w0, M0, [], .plain⟩ A (bodyPost P fn (jY w0 M0 (Ty.jk [r1, r2])) .ret) := by
 intro a w ⟨M, ok, hsl, htg⟩
 have hd := hsl tm (by simpa using ht)
 rw [hx] at hd
 obtain ⟨b, hb, e⟩ := hd
 obtain ⟨b', cs, hb', hh, hds⟩ := htg _ (cM hc)
 obtain ⟨u, rfl⟩ : ∃ u, tg = u + 1 := ⟨tg - 1, by omega⟩
 have := ok.wf.inj b b' u (by omega) hb hb'
 subst this
 have hlen := bw hds
 have hload := fX (P := P) hT ha (w := w) (b := b) (off := 0) (cs := cs.toList) (by rw [hlen, hl]) (fun j v hj => by simpa [World.cell?, hh] using hj)
 have hload' : (loadVar ty ⟨b, 0, none⟩).run P w = .ok (.agg cs) w := by simpa [Instr.loadAt, Instr.sureAddr] using hload
 refine ⟨ok.eD (by simp), .tuple #[.agg cs, a.tmps.getD t2 undef], ?_, _, oz M, rfl, ot ok.wf, mN (fr := ⟨n, w0, M0, [], .plain⟩) (fun _ h => h) ok.base, _, rfl, hs _ _ _ ok.wf ⟨cs, rfl, hds⟩, hs2 _ _ _ ok.wf (hsl t2 (by simpa using h2)), trivial⟩
 have e' : a.tmps.getD tm undef = .pointer (some ⟨b, 0, none⟩) := e
 have e'' : a.tmps[tm]?.getD undef = .pointer (some ⟨b, 0, none⟩) := by rw [← Array.getD_eq_getD_getElem?]; exact e'
 simp [results, hr, e'', asAddr, hload']
end
section
variable {P : Program} {fr : Fr} {ops : Array Oper} {A : As} {rest : List Oper} {K : As → List (As × Fx) → Prop} {d : Nat} {t ty' : TypeId} {p : String} {e : Array Edge} [T : k5 P]
theorem Ob {α : Type} {E : El α} {zs ys : List α} {x y : Operand} {tg n el st st' Tb : Nat} {ti te : TI} (hx : A.op fr x = .vs tg n) (hy : A.op fr y = .sl E ys) (hc : A.tag tg = some (.vec E Tb zs)) (h1 : e8 tg) (hT : T.tab[st]? = some ti) (hk : ti.k = .slice el) (hE : T.tab[el]? = some te) (hs : te.size = E.size) (hn : zs.length = n) (hle : ys.length ≤ n)
 (h : aV P fr ops rest (A.after { d := some d, ty := .int .i64 (ys.length : Nat), S := [tg], sets := [(tg, .vec E Tb (ys ++ zs.drop ys.length))], rs := bR x ++ bR y, rt := [tg] }) fun A' l'' => K A' ((A, { d := some d, ty := .int .i64 (ys.length : Nat), S := [tg], sets := [(tg, .vec E Tb (ys ++ zs.drop ys.length))], rs := bR x ++ bR y, rt := [tg] }) :: l'')) :
 aV P fr ops (⟨some d, .call ⟨.builtin .copy, #[x, y], #[st, st']⟩, t, p, e, none⟩ :: rest) A K := by
 refine ⟨_, fH rfl rfl (by simp) (by simpa using h1.1) (by simp) fun a w M wf hr ht => ?_, h⟩
 obtain ⟨hdx, hdy⟩ := op2 hr
 rw [hx] at hdx; rw [hy] at hdy
 obtain ⟨_, D, _, hD, hkd, _⟩ := cF hT
 rw [hk] at hkd
 cases D <;> simp only [TK.of, reduceCtorEq, TK.slice.injEq] at hkd
 subst hkd
 rename_i el
 have hsz := fun w => bz (P := P) hE w
 obtain ⟨ad, c, ey, hc1, hc2, hp⟩ := hdy
 have hmin : Nat.min ys.length n = ys.length := Nat.min_eq_left hle
 by_cases hys : ys = []
 ·subst hys
  have hl : ∀ (q : Addr), (loadCells q 0).run P w = .ok #[] w := fun q => by simpa using run_loadCells_list (P := P) w q [] (by simp)
  have hrun : (Builtin.copy_ #[st, st'] t #[a.eval x, a.eval y]).run P w = .ok (goInt 0) w := by
   rw [ey]
   rcases hdx with ⟨_, ex⟩ | ⟨b, c', _, ex, _⟩ <;> rw [ex] <;> cases ad <;> simp [Builtin.copy_, run_underlying hD, Builtin.lenOf, Builtin.firstCells, hsz, storeCells, hl]
  refine ⟨goInt 0, w, by simp [execOp, resolve, invoke, builtin, hrun], M, wf, (Le.refl _ _ w M), rfl, ?_⟩
  intro z' hz'
  simp only [List.mem_singleton] at hz'
  subst hz'
  have hv : (Cont.vec E Tb zs).den w M tg := nL hc w M ht
  simpa using hv
 have hpos : 0 < ys.length := List.length_pos_iff.2 hys
 obtain ⟨b', off, rfl, hp'⟩ := hp hpos
 obtain ⟨news, hn1, hn2, hn3⟩ := oI hp' _ (Nat.le_refl _)
 rw [List.take_length] at hn2
 rw [cg] at hn1
 rcases hdx with ⟨h0, _⟩ | ⟨b, c', hb, ex, _⟩
 ·omega
 rcases nL hc w M ht with rfl | ⟨b2, cs, hb2, hh, hd⟩
 ·simp at hn; omega
 obtain ⟨u, rfl⟩ : ∃ u, tg = u + 1 := ⟨tg - 1, by omega⟩
 have := wf.inj b b2 u (by omega) hb hb2
 subst this
 have hlen := bw hd
 have hm : ys.length * E.size ≤ zs.length * E.size := Nat.mul_le_mul_right _ (by omega)
 have hoff : ys.length * E.size ≤ cs.size := by
  rw [cg, List.length_take] at hlen
  simp at hlen; omega
 have hst := run_storeCells_at (P := P) b 0 Tb news 0 cs w hh (by omega) (lu hn2 (iO E ys))
 rw [mI _ hh] at hst
 obtain ⟨h1', h2', h3'⟩ := jW (cs' := (cs.toList.take (0 + 0) ++ news ++ cs.toList.drop (0 + 0 + news.length)).toArray) (Tb := Tb) wf hb _ rfl
 have hld : (loadCells ⟨b', off, none⟩ (ys.length * E.size)).run P w = .ok news.toArray w := by
  rw [← hn1]
  exact run_loadCells_list (P := P) w _ news (fun j v hj => by rw [Addr.add_lit]; exact hn3 j v hj)
 have hrun : (Builtin.copy_ #[st, st'] t #[a.eval x, a.eval y]).run P w = .ok (goInt ys.length) { w with heap := w.heap.setIfInBounds b (.cells (cs.toList.take (0 + 0) ++ news ++ cs.toList.drop (0 + 0 + news.length)).toArray Tb (0, 0)) } := by
  rw [ex, ey]
  simp only [Builtin.copy_, run_underlying hD, Builtin.lenOf, Builtin.firstCells, hsz, hs, hmin, hld, Sem.run_bind, Sem.run_pure, Result.andThen_ok]
  simp [run_underlying hD, hsz, hs, hmin, hld]
  simp at hst
  rw [hst]
  simp
 refine ⟨goInt ys.length, _, by simp [execOp, resolve, invoke, builtin, hrun], M, h1', h2', rfl, ?_⟩
 intro z' hz'
 simp only [List.mem_singleton] at hz'
 subst hz'
 refine .inr ⟨b, _, hb, h3', ?_⟩
 have hq := HW (xs := zs) (ys := ys) (vs := news) (i := 0) hd hn2 (by omega)
 rw [List.take_zero, List.nil_append, Nat.zero_add, Nat.zero_mul] at hq
 exact bV h2' (by intro _ _ h; cases h) (by rw [E.cC]; intro _ h; cases h) (by simpa using hq)
end
end Go.T
namespace Go.T
open Go Go.RowKit
section
variable {P : Program} {fr : Fr} {ops : Array Oper} {A : As} {rest : List Oper} {K : As → List (As × Fx) → Prop} {d : Nat} {t ty' ty2 : TypeId} {p : String} {e : Array Edge} {x : Operand}
end
end Go.T
namespace Go.T
open Go Go.RowKit
section
variable {P : Program} {fr : Fr} {A : As} {Q : Exit → Act → World → Prop} {code : Code}
end
section
variable {P : Program} {fr : Fr} {ops : Array Oper} {A : As} {rest : List Oper} {K : As → List (As × Fx) → Prop} {d : Nat} {t ty' ty2 : TypeId} {p : String} {e : Array Edge}
end
section
variable {P : Program} {fr : Fr} {ops : Array Oper} {A : As} {rest : List Oper} {K : As → List (As × Fx) → Prop} {d : Nat} {t ty' ty2 : TypeId} {p : String} {e : Array Edge} [T : k5 P]
end
end Go.T
namespace Go.T
open Go Go.RowKit
section
variable {P : Program} {fr : Fr} {ops : Array Oper} {A : As} {rest : List Oper} {K : As → List (As × Fx) → Prop} {d : Nat} {t : TypeId} {p : String} {e : Array Edge} {y : Operand}
end
end Go.T
namespace Go.T
open Go Go.RowKit
structure Qh (α : Type) where
  E : El α
  own : Nat → α → List Ty
  olen : ∀ J x, (own J x).length = E.size
  deps : ∀ J x, ∀ u ∈ bl (own J x), u = J
  cdeps : ∀ J x, ∀ u ∈ bL (own J x), u = J
  oones : ∀ J x, (own J x).all Ty.one = true
  oK : ∀ J x w M M' vs, Wf w M → (∀ b, M b = some J → M' b = none) → (∀ b, M b = none → M' b = none) → bt w M (own J x) vs → bt w M' (E.tys x) vs
  ren : ∀ J J' x w M M' vs, (∀ b, M b = some J → M' b = some J') → (∀ b, M b = none → M' b = none) → bt w M (own J x) vs → bt w M' (own J' x) vs
  mine : ∀ J x w M vs, bt w M (own J x) vs → ∀ g ∈ vs.filterMap Value.ownBlock, M g = some J
section
variable {α : Type} (E : Qh α)
theorem Qh.cW (J : Nat) (xs : List α) : ∀ u ∈ bl (xs.flatMap (E.own J)), u = J := by
 intro u hu
 simp only [bl, List.mem_flatMap] at hu
 obtain ⟨t, ⟨x, _, hx⟩, hu⟩ := hu
 exact E.deps J x u (List.mem_flatMap.2 ⟨t, hx, hu⟩)
theorem Qh.cC (J : Nat) (xs : List α) : ∀ u ∈ bL (xs.flatMap (E.own J)), u = J := by
 intro u hu
 simp only [bL, List.mem_flatMap] at hu
 obtain ⟨t, ⟨x, _, hx⟩, hu⟩ := hu
 exact E.cdeps J x u (List.mem_flatMap.2 ⟨t, hx, hu⟩)
theorem Qh.cg (J : Nat) : ∀ xs : List α, (xs.flatMap (E.own J)).length = xs.length * E.E.size
  | [] => by simp
  | x :: xs => by rw [List.flatMap_cons, List.length_append, E.olen, Qh.cg J xs, List.length_cons, Nat.succ_mul, Nat.add_comm]
end
def Rj (l : List Ty) (w : World) (M : ah) (v : Value) : Prop := ∃ b, v = .slice (some ⟨b, 0, none⟩) 1 1 ∧ nH w M b 0 l
def Ty.ms (l : List Ty) : Ty := ⟨Rj l, bl l, bL l, fun le hk hs ⟨b, e, h⟩ => ⟨b, e, mT le hk hs h⟩, true, fun _ ⟨_, e, _⟩ => e ▸ rfl⟩
section
variable {P : Program} {fr : Fr} {ops : Array Oper} {A : As} {rest : List Oper} {K : As → List (As × Fx) → Prop} {d : Nat} {t ty' : TypeId} {p : String} {e : Array Edge} [T : k5 P]
def jZ (M : ah) (tg J : Nat) : ah := fun b => if M b = some tg then some J else M b
theorem qg {w : World} {M : ah} {tg J : Nat} : Le (· ∈ ([] : List Nat)) (· ∈ [tg]) w M w (jZ M tg J) :=
 ⟨Nat.le_refl _, rfl, rfl, rfl, fun b _ hm => ⟨by simp [jZ, hm], rfl⟩, fun b t hm hk => ⟨by simp only [List.mem_singleton] at hk; simp [jZ, hm, hk], fun _ => rfl⟩⟩
theorem EI {w : World} {M : ah} {tg J : Nat} (hJ : 4096 ≤ J) (wf : Wf w M) : Wf w (jZ M tg J) := by
 have key : ∀ b t, jZ M tg J b = some t → (M b = some tg ∧ t = J) ∨ M b = some t := fun b t h => by
  unfold jZ at h
  split at h
  ·rename_i hm; injection h with h; exact .inl ⟨hm, h.symm⟩
  exact .inr h
 refine ⟨fun b t h => (key b t h).elim (fun h => wf.lt b _ h.1) (fun h => wf.lt b _ h), fun b b' t ht1 h h' => ?_⟩
 rcases key _ _ h with ⟨_, e⟩ | a
 ·omega
 rcases key _ _ h' with ⟨_, e⟩ | a'
 ·omega
 exact wf.inj b b' t ht1 a a'
end
end Go.T
namespace Go.T
open Go Go.RowKit
def II (A : As) (L : List Nat) (s t : Ty) : Prop := ∀ w M v, Wf w M → (∀ x ∈ A.tags, x.1 ∈ L → x.2.den w M x.1) → s.den w M v → t.den w (lM M L) v
def vl (A : As) (L : List Nat) : List Ty → List Ty → Prop
  | [], [] => True
  | s :: ss, t :: ts => II A L s t ∧ vl A L ss ts
  | _, _ => False
theorem GS {A : As} {L : List Nat} : vl A L [] [] := trivial
theorem wP {A : As} {L : List Nat} {s t : Ty} {ss ts : List Ty} (h : II A L s t) (h' : vl A L ss ts) : vl A L (s :: ss) (t :: ts) := ⟨h, h'⟩
theorem wM {A : As} {L : List Nat} {w : World} {M : ah} (wf : Wf w M) (ht : ∀ x ∈ A.tags, x.1 ∈ L → x.2.den w M x.1) : ∀ {ss ts : List Ty} {vs : List Value}, vl A L ss ts → bt w M ss vs → bt w (lM M L) ts vs
  | [], [], [], _, _ => trivial
  | _ :: _, _ :: _, _ :: _, ⟨h, h'⟩, ⟨h1, h2⟩ => ⟨h _ _ _ wf ht h1, wM wf ht h' h2⟩
theorem K6 {A : As} {L : List Nat} {s t : Ty} (h : JN L s t) : II A L s t := fun w M v wf _ hd => h w M v wf hd
theorem MU {A : As} {L : List Nat} {α : Type} {E : El α} {T tg n : Nat} {xs : List α} (hc : A.tag tg = some (.vec E T xs)) (hn : xs.length = n) (h1 : e8 tg) (hL : L.contains tg = true) : II A L (.vs tg n) (.sl E xs) := fun w M v wf ht hd => by
 have hL' : tg ∈ L := by simpa using hL
 have hv : fA E T xs w M tg := ht _ (cM hc) hL'
 subst hn
 rcases hd with ⟨h0, rfl⟩ | ⟨b, cc, hb, e, hn1, hn2⟩
 ·exact ⟨none, 0, by rw [h0], by omega, by simp [maxLen], fun h => absurd h (by omega)⟩
 refine ⟨_, cc, e, hn1, hn2, fun _ => ⟨b, 0, rfl, Hg hb hL', wf.lt b _ hb, fun i t hi => ?_⟩⟩
 obtain ⟨u, hu, hdu⟩ := kg wf h1 hb hv hi
 refine ⟨u, by rw [Nat.zero_add]; exact hu, t.mono (S := fun _ => True) (K := fun _ => True) (w := w) ⟨Nat.le_refl _, rfl, rfl, rfl, fun b _ hm => ⟨vL hm, rfl⟩, fun b t _ h => absurd trivial h⟩ ?_ ?_ hdu⟩
 ·intro u hu
  have : u ∈ bl (xs.flatMap E.tys) := List.mem_flatMap.2 ⟨t, List.mem_of_getElem? hi, hu⟩
  rw [E.cW] at this; cases this
 intro u hu
 have : u ∈ bL (xs.flatMap E.tys) := List.mem_flatMap.2 ⟨t, List.mem_of_getElem? hi, hu⟩
 rw [E.cC] at this; cases this
section
variable {P : Program} {fr : Fr} {ops : Array Oper} {A : As} {rest : List Oper} {K : As → List (As × Fx) → Prop} {d : Nat} {t ty' : TypeId} {p : String} {e : Array Edge} {Q : Exit → Act → World → Prop} {c : Code}
theorem K2 (L : List Nat) {f : FuncId} {args : List Ty} {res : Ty} (hF : cy P f args res) {xs : List Operand} {ats : Array TypeId} {ss : List Ty} (hx : jr A fr xs = ss) (hl : vl A L ss args) (hp : res.Plain)
 (h : aV P fr ops rest (A.set d res) fun A' l => K A' ((A, { d := some d, ty := res, rs := xs.flatMap bR, rt := L }) :: l)) : aV P fr ops (⟨some d, .call ⟨.value (.func f), xs.toArray, ats⟩, t, p, e, none⟩ :: rest) A K := by
 refine ⟨{ d := some d, ty := res, rs := xs.flatMap bR, rt := L }, ⟨rfl, by simp, by simp, by simp, fun a w M wf _ hrd htg => ?_⟩, h⟩
 rw [if_pos (by simp [Region.wanted])]
 have hv : bt w M ss (xs.map a.eval) := hx ▸ dw hrd fun x hx c hc => List.mem_flatMap.2 ⟨x, hx, hc⟩
 have hc := hF.2 w _ _ (xm (L := L) wf) jy (wM wf htg hl hv)
 have hrun : (execOp a.eval ⟨some d, .call ⟨.value (.func f), xs.toArray, ats⟩, t, p, e, none⟩).run P w = .ok (.enter f (xs.map a.eval).toArray) w := by
  simp [execOp, resolve, Act.eval, Deferred.ofValue, invoke, iK hF]
 refine eZ hrun ?_
 refine hc.mono fun en w' ⟨r, M', he, wf', le, hden⟩ => ?_
 obtain ⟨h1, h2, h3⟩ := yZ wf le hp hden
 exact ⟨r, he, r, rfl, _, h1, h2, h3, by simp⟩
end
section
open Go.RowKit
variable {P : Program} {A : As} {fn : Func} {n : Nat} {w0 : World} {M0 : ah} {F : List Nat} {post : List (Nat × Cont)} [T : k5 P]
end
section
variable {P : Program} {fr : Fr} {ops : Array Oper} {A : As} {rest : List Oper} {K : As → List (As × Fx) → Prop} {d : Nat} {t ty' : TypeId} {p : String} {e : Array Edge} [T : k5 P]
end
instance : Inhabited {v : Value // v.oneCell' = true} := ⟨⟨.bool true, rfl⟩⟩
section
variable {P : Program} {fr : Fr} {A : As} {Q : Exit → Act → World → Prop} {code : Code}
end
end Go.T
namespace Go.T
open Go Go.RowKit
def NG {α : Type} (E : El α) (T J : Nat) (xs : List α) (w : World) (M : ah) (v : Value) : Prop :=
  (xs = [] ∧ v = .slice none 0 0) ∨ ∃ g off c cur, v = .slice (some ⟨g, off, none⟩) xs.length c ∧ M g = some J ∧ w.heap[g]? = some (.cells cur T (0, 0)) ∧ xs.length ≤ c ∧ c ≤ maxLen ∧ off + c * E.size ≤ cur.size ∧ bt w M (xs.flatMap E.tys) ((cur.toList.drop off).take (xs.length * E.size))
def Ty.g8 {α : Type} (E : El α) (T J : Nat) (xs : List α) : Ty :=
  ⟨NG E T J xs, [J], [J], fun le hk hs h => h.imp id fun ⟨g, off, c, cur, e, hg, hh, h1, h2, h3, h4⟩ =>
    let ⟨a, b⟩ := le.own g J hg (hk J (by simp))
    ⟨g, off, c, cur, e, a, (b (hs J (by simp))).trans hh, h1, h2, h3, bV le (by rw [E.cW]; intro _ h; cases h) (by rw [E.cC]; intro _ h; cases h) h4⟩, true, fun _ h => by
      rcases h with ⟨_, rfl⟩ | ⟨_, _, _, _, rfl, _⟩ <;> rfl⟩
def jE (size : Nat) : Value → Option (Nat × Nat)
  | .slice (some a) n _ => some (a.block, a.off + n * size)
  | _ => none
def roomy : Value → Bool
  | .slice _ n c => Nat.blt n c
  | _ => false
section
variable {κ α : Type} [DecidableEq κ]
def z5 (size : Nat) (vs : List Value) : Prop := ∀ (i j : Nat) (v u : Value) (g e e' : Nat), vs[i]? = some v → vs[j]? = some u → jE size v = some (g, e) → jE size u = some (g, e') → i = j
def SN (enc : κ → Value) (E : El α) (T J : Nat) (q : List (κ × List α)) (w : World) (M : ah) (t : Nat) : Prop :=
  (q.map Prod.fst).Nodup ∧ ∃ b es clock, M b = some t ∧ w.heap[b]? = some (.map es clock) ∧ es.toList.map (·.key) = q.map (fun x => enc x.1) ∧ bt w M (q.map fun x => Ty.g8 E T J x.2) (es.toList.map (·.val)) ∧ z5 E.size (es.toList.map (·.val))
omit [DecidableEq κ] in
theorem l9 {E : El α} {T J : Nat} {q : List (κ × List α)} : (∀ u ∈ bl (q.map fun x => Ty.g8 E T J x.2), u = J) ∧ ∀ u ∈ bL (q.map fun x => Ty.g8 E T J x.2), u = J := by
 constructor <;>
 ·intro u hu
  simp only [bl, bL, List.mem_flatMap, List.mem_map] at hu
  obtain ⟨t, ⟨x, _, rfl⟩, hu⟩ := hu
  simpa [Ty.g8] using hu
def Cont.mr (enc : κ → Value) (E : El α) (T J : Nat) (q : List (κ × List α)) : Cont :=
  { den := SN enc E T J q, deps := [J], cdeps := [J]
    mono := fun le hk hs hst hkt ⟨hn, b, es, clock, h1, h2, h3, h4, h5⟩ => let ⟨a, c⟩ := le.own b _ h1 hkt
      ⟨hn, b, es, clock, a, (c hst).trans h2, h3, bV le (fun u hu => by rw [l9.1 u hu]; exact hk J (by simp)) (fun u hu => by rw [l9.2 u hu]; exact hs J (by simp)) h4, h5⟩ }
omit [DecidableEq κ] in
theorem Cont.G7 {enc : κ → Value} {E : El α} {T J : Nat} {q q' : List (κ × List α)} (h : q = q') : (Cont.mr enc E T J q).Sub (Cont.mr enc E T J q') := h ▸ Cont.aG _
def RU (size t : Nat) (q : List (κ × List α)) (k : κ) (w : World) (M : ah) (v : Value) : Prop :=
  ∀ (g e0 : Nat), jE size v = some (g, e0) → ∃ (b : Nat) (es : Array MapEntry) (clock : Nat), M b = some t ∧ w.heap[b]? = some (.map es clock) ∧ ∀ (j : Nat) (u : Value) (e1 : Nat), (es.toList.map (·.val))[j]? = some u → jE size u = some (g, e1) → (q[j]?).map Prod.fst = some k ∧ (roomy v = true → e1 ≤ e0)
def R6 (E : El α) (T t J : Nat) (q : List (κ × List α)) (k : κ) (xs : List α) (w : World) (M : ah) (v : Value) : Prop := NG E T J xs w M v ∧ RU E.size t q k w M v
def Ty.qv (E : El α) (T t J : Nat) (q : List (κ × List α)) (k : κ) (xs : List α) : Ty :=
  ⟨R6 E T t J q k xs, [t, J], [t, J], fun le hk hs ⟨h, h'⟩ => ⟨(Ty.g8 E T J xs).mono le (fun u hu => hk u (by simp [Ty.g8] at hu ⊢; exact .inr hu)) (fun u hu => hs u (by simp [Ty.g8] at hu ⊢; exact .inr hu)) h, fun g e0 he =>
    let ⟨b, es, clock, h1, h2, h3⟩ := h' g e0 he
    let ⟨a, c⟩ := le.own b t h1 (hk t (by simp))
    ⟨b, es, clock, a, (c (hs t (by simp))).trans h2, h3⟩⟩, true, fun ho h => (Ty.g8 E T J xs).isOne ho h.1⟩
omit [DecidableEq κ] in
theorem FW (q : List (κ × List α)) (hn : (q.map Prod.fst).Nodup) {i j : Nat} {k : κ} (hi : (q[i]?).map Prod.fst = some k) (hj : (q[j]?).map Prod.fst = some k) : i = j := by
 rw [← List.getElem?_map] at hi hj
 obtain ⟨h1, e1⟩ := List.getElem?_eq_some_iff.1 hi
 obtain ⟨h2, e2⟩ := List.getElem?_eq_some_iff.1 hj
 exact (List.getElem_inj hn).1 (e1.trans e2.symm)
theorem CW {q : List (κ × List α)} {k : κ} {i : Nat} (h : (q.map Prod.fst).findIdx? (fun x => decide (x = k)) = some i) : (q[i]?).map Prod.fst = some k := by
 obtain ⟨v, hv, _⟩ := mG q k i h
 rw [hv]; rfl
def lH (q : List (κ × List α)) (k : κ) : List (κ × List α) := q.eraseIdx ((q.map Prod.fst).findIdx? (fun x => decide (x = k)) |>.getD q.length)
theorem BC (q : List (κ × List α)) (k : κ) (v : List α) (hn : (q.map Prod.fst).Nodup) : ((cz q k v).map Prod.fst).Nodup := by
  cases hi : (q.map Prod.fst).findIdx? (fun x => decide (x = k)) with
  | some i =>
    obtain ⟨u, hu, _, hp⟩ := mG q k i hi
    rw [hp, List.map_set]
    have : (q.map Prod.fst).set i k = q.map Prod.fst := by
      apply List.ext_getElem?
      intro j
      rw [List.getElem?_set]
      by_cases e : i = j
      · subst e
        have hlt := (List.getElem?_eq_some_iff.1 hu).1
        rw [if_pos rfl, if_pos (by simpa using hlt), List.getElem?_map, hu]; rfl
      · rw [if_neg e]
    rw [this]; exact hn
  | none =>
    obtain ⟨_, hp⟩ := l5 q k hi
    rw [hp, List.map_append, List.nodup_append]
    refine ⟨hn, by simp, fun a ha b hb => ?_⟩
    simp only [List.map_cons, List.map_nil, List.mem_singleton] at hb
    subst hb
    intro e
    subst e
    rw [List.findIdx?_eq_none_iff] at hi
    have := hi a ha
    simp at this
end
section
variable {P : Program} {fr : Fr} {ops : Array Oper} {A : As} {rest : List Oper} {K : As → List (As × Fx) → Prop} {d : Nat} {t ty' mt kt et : TypeId} {p : String} {e : Array Edge}
variable {κ α : Type} [DecidableEq κ] {E : El α} {Tb J tg : Nat} {q : List (κ × List α)} {k : κ} {xs ys : List α}
omit [DecidableEq κ] in
theorem H9 {x : Operand} {enc : κ → Value} (hx : A.op fr x = .mp tg) (hc : A.tag tg = some (.mr enc E Tb J q)) (h1 : e8 tg) {a : Act} {w : World} {M : ah} {rs : List Nat} (wf : Wf w M) (hr : ∀ c ∈ bR x, c ∈ rs) (hrd : ∀ c ∈ rs, c < fr.n → (A.slots c).den w M (a.tmps.getD c undef)) (htg : ∀ y ∈ A.tags, y.1 ∈ [tg] → y.2.den w M y.1) :
 (q.map Prod.fst).Nodup ∧ ∃ b es clock, a.eval x = .map (some b) ∧ M b = some tg ∧ w.heap[b]? = some (.map es clock) ∧ es.toList.map (·.key) = q.map (fun x => enc x.1) ∧ bt w M (q.map fun x => Ty.g8 E Tb J x.2) (es.toList.map (·.val)) ∧ z5 E.size (es.toList.map (·.val)) := by
 have hxd := bk hr hrd
 rw [hx] at hxd
 obtain ⟨b, e1, e2⟩ := hxd
 obtain ⟨hn, b', es, clock, h2, h3⟩ := htg _ (cM hc) (by simp)
 obtain ⟨u, rfl⟩ : ∃ u, tg = u + 1 := ⟨tg - 1, by omega⟩
 have : b = b' := wf.inj b b' u (by omega) e2 h2
 subst this
 exact ⟨hn, b, es, clock, e1, e2, h3⟩
theorem ET {es : Array MapEntry} {i : Nat} {en : MapEntry} (h : es[i]? = some en) : (es.toList.map (·.val))[i]? = some en.val := by
 rw [List.getElem?_map, Array.getElem?_toList, h]; rfl
omit [DecidableEq κ] in
theorem GI (enc : κ → Value) (E : El α) (Tb J : Nat) (hm : mapOf P mt = some (kt, et)) (hp : fr.pass.contains (d + 1) = false)
 (h : aV P fr ops rest (A.after { d := some d, ty := .mp (d + 1), K := [d + 1], sets := [(d + 1, .mr enc E Tb J [])] }) fun A' l' => K A' ((A, { d := some d, ty := .mp (d + 1), K := [d + 1], sets := [(d + 1, .mr enc E Tb J [])] }) :: l')) :
 aV P fr ops (⟨some d, .makeMap mt none, t, p, e, none⟩ :: rest) A K := by
 refine ⟨_, fH rfl rfl (by simp) (by simp) (by simp at hp ⊢; exact hp) fun a w M wf _ _ => ?_, h⟩
 have hrun : (execOp a.eval ⟨some d, .makeMap mt none, t, p, e, none⟩).run P w = .ok (.value (.map (some w.heap.size))) (w.alloc (.map #[] 0)) := by
  simp [execOp, Instr.makeMap, newObj, Sem.run]
 obtain ⟨h1, h2, h3⟩ := jS wf (.map #[] 0) (d + 1)
 refine ⟨_, _, hrun, _, h1, h2, ⟨_, rfl, h3⟩, fun x hx => ?_⟩
 rw [List.mem_singleton.1 hx]
 exact ⟨by simp, w.heap.size, #[], 0, h3, fD _ _, rfl, trivial, fun i j v u g e e' hi => by simp at hi⟩
theorem rF {x y : Operand} {kty : Ty} (KK : sF P kt κ) (hx : A.op fr x = .mp tg) (hc : A.tag tg = some (.mr KK.enc E Tb J q)) (h1 : e8 tg) (hy : A.op fr y = kty) (hk : pU kty (KK.enc k)) (hm : mapOf P mt = some (kt, et)) (hz : zeroOf P et = some (.slice none 0 0))
 (h : aV P fr ops rest (A.set d (.qv E Tb tg J q k ((bU q k).getD []))) fun A' l' => K A' ((A, { d := some d, ty := .qv E Tb tg J q k ((bU q k).getD []), rs := bR x ++ bR y, rt := [tg] }) :: l')) :
 aV P fr ops (⟨some d, .lookup mt x y false, t, p, e, none⟩ :: rest) A K :=
 bB (bH rfl rfl fun a w M wf hrd htg => by
  obtain ⟨hn, b, es, clock, e1, e2, h3, h4, h5, h6⟩ := H9 hx hc h1 wf (fun c hc => List.mem_append_left _ hc) hrd htg
  have hyd := bk (fun c hc => List.mem_append_right (bR x) hc) hrd
  rw [hy] at hyd
  have hu := jO hm
  rcases mY KK h4 h5 k with ⟨i, v, en, hi, hg, hen, _, hd, hf⟩ | ⟨_, hg, hf⟩
  ·refine ⟨en.val, ?_, by rw [hg]; exact hd, fun g e0 he => ⟨b, es, clock, e2, h3, fun j u e1 hj hju => ?_⟩⟩
   ·simp only [execOp, e1, hk _ _ _ hyd]
    simp [Instr.lookup, underlying, hu, getObj, Sem.run, h3, KK.check, hf]
   have hij := h6 i j en.val u g e0 e1 (ET hen) hj he hju
   subst hij
   rw [ET hen] at hj
   injection hj with hj
   subst hj
   rw [he] at hju
   injection hju with hju
   injection hju with _ hju
   exact ⟨CW hi, fun _ => by omega⟩
  refine ⟨.slice none 0 0, ?_, by rw [hg]; exact .inl ⟨rfl, rfl⟩, fun g e0 he => by simp [jE] at he⟩
  simp only [execOp, e1, hk _ _ _ hyd]
  simp [Instr.lookup, underlying, hu, getObj, Sem.run, h3, KK.check, hf, iw hz]) h
theorem BA {x y z : Operand} {kty : Ty} (KK : sF P kt κ) (hx : A.op fr x = .mp tg) (hc : A.tag tg = some (.mr KK.enc E Tb J q)) (h1 : e8 tg) (hy : A.op fr y = kty) (hk : pU kty (KK.enc k)) (hz : A.op fr z = .qv E Tb tg J q k xs) (hm : mapOf P mt = some (kt, et)) (hJ : Nat.beq J tg = false)
 (h : aV P fr ops rest (A.after { d := none, S := [tg], sets := [(tg, .mr KK.enc E Tb J (cz q k xs))], rs := bR x ++ (bR y ++ bR z), rt := [tg] }) fun A' l' => K A' ((A, { d := none, S := [tg], sets := [(tg, .mr KK.enc E Tb J (cz q k xs))], rs := bR x ++ (bR y ++ bR z), rt := [tg] }) :: l')) :
 aV P fr ops (⟨none, .mapUpdate mt x y z, t, p, e, none⟩ :: rest) A K := by
 have hJ' : J ≠ tg := fun h => by subst h; simp at hJ
 refine ⟨_, kf rfl rfl rfl (by simp) (by simpa using h1.1) (by simp) fun a w M wf hrd htg => ?_, h⟩
 obtain ⟨hn, b, es, clock, e1, e2, h3, h4, h5, h6⟩ := H9 hx hc h1 wf (fun c hc => List.mem_append_left _ hc) hrd htg
 have hyd := bk (fun c hc => List.mem_append_right (bR x) (List.mem_append_left (bR z) hc)) hrd
 have hzd := bk (fun c hc => List.mem_append_right (bR x) (List.mem_append_right (bR y) hc)) hrd
 rw [hy] at hyd
 rw [hz] at hzd
 obtain ⟨hrow, hown⟩ := hzd
 have hu := jO hm
 have hblt : b < w.heap.size := wf.lt b _ e2
 have own' : ∀ (g e0 : Nat), jE E.size (a.eval z) = some (g, e0) → ∀ (j : Nat) (u : Value) (e' : Nat), (es.toList.map (·.val))[j]? = some u → jE E.size u = some (g, e') → (q[j]?).map Prod.fst = some k := fun g e0 he j u e' hj hju => by
  obtain ⟨b', es', c', g1, g2, g3⟩ := hown g e0 he
  obtain ⟨u', rfl⟩ : ∃ u, tg = u + 1 := ⟨tg - 1, by omega⟩
  have : b = b' := wf.inj b b' u' (by omega) e2 g1
  subst this
  rw [h3] at g2
  injection g2 with g2
  injection g2 with g2 g4
  subst g2
  exact (g3 j u e' hj hju).1
 have fin : ∀ (es' : Array MapEntry) (clock' : Nat), es'.toList.map (·.key) = (cz q k xs).map (fun x => KK.enc x.1) → bt w M ((cz q k xs).map fun x => Ty.g8 E Tb J x.2) (es'.toList.map (·.val)) → z5 E.size (es'.toList.map (·.val)) →
  (Instr.mapUpdate mt (.map (some b)) (KK.enc k) (a.eval z)).run P w = .ok () { w with heap := w.heap.setIfInBounds b (.map es' clock') } →
  ∃ w', (execOp a.eval ⟨none, .mapUpdate mt x y z, t, p, e, none⟩).run P w = .ok .skip w' ∧ Fx.left { d := none, S := [tg], sets := [(tg, .mr KK.enc E Tb J (cz q k xs))], rs := bR x ++ (bR y ++ bR z), rt := [tg] } w M w' undef := by
  intro es' clock' hk' hd' hap hrun
  have hr : (execOp a.eval ⟨none, .mapUpdate mt x y z, t, p, e, none⟩).run P w = .ok .skip { w with heap := w.heap.setIfInBounds b (.map es' clock') } := by
   simp only [execOp, e1, hk _ _ _ hyd]
   simp [hrun]
  have le : Le (· ∈ [tg]) (· ∈ ([] : List Nat)) w M { w with heap := w.heap.setIfInBounds b (.map es' clock') } M := by
   refine ⟨by simp, rfl, rfl, rfl, fun b2 hlt hm2 => ⟨hm2, ?_⟩, fun b2 u hm2 _ => ⟨hm2, fun hs => ?_⟩⟩
   ·have : b ≠ b2 := fun h => by subst h; rw [e2] at hm2; cases hm2
    simp [Array.getElem?_setIfInBounds, this]
   have : b ≠ b2 := fun h => by subst h; rw [e2] at hm2; injection hm2 with hm2; exact hs (by simp [hm2])
   simp [Array.getElem?_setIfInBounds, this]
  refine ⟨_, hr, M, ⟨fun b2 u h => by simpa using wf.lt b2 u h, wf.inj⟩, le, trivial, fun x hx => ?_⟩
  rw [List.mem_singleton.1 hx]
  refine ⟨BC q k xs hn, b, es', clock', e2, by simp [hblt], hk', ?_, hap⟩
  exact bV le (fun _ _ => by simp) (fun u hu => by rw [l9.2 u hu]; simpa using hJ') hd'
 rcases mY KK h4 h5 k with ⟨i, v0, en, hi, hg, hen, hkey, hd, hf⟩ | ⟨hi, hg, hf⟩
 ·obtain ⟨v1, hv1, _, hput⟩ := mG q k i hi
  have hil : i < es.size := (Array.getElem?_eq_some_iff.1 hen).1
  have hes : (es.modify i fun e => { e with key := KK.enc k, val := a.eval z }).toList = es.toList.set i { en with key := KK.enc k, val := a.eval z } := by
   rw [Array.toList_modify, List.modify_eq_set, Array.getElem?_toList, hen]; rfl
  refine fin (es.modify i fun e => { e with key := KK.enc k, val := a.eval z }) clock ?_ ?_ ?_ ?_
  ·rw [hput, List.map_set, hes, List.map_set, h4]
  ·rw [hput, List.map_set, hes, List.map_set]
   exact ny h5 hrow
  ·rw [hes, List.map_set]
   intro i1 j1 v u g e' e'' hi1 hj1 hv hu
   rw [List.getElem?_set] at hi1 hj1
   by_cases c1 : i = i1 <;> by_cases c2 : i = j1
   ·omega
   ·rw [if_pos c1] at hi1; rw [if_neg c2] at hj1
    split at hi1
    ·injection hi1 with hi1
     have hi1 : a.eval z = v := hi1
     subst hi1
     have := FW q hn (own' g e' hv j1 u e'' hj1 hu) (CW hi)
     omega
    cases hi1
   ·rw [if_neg c1] at hi1; rw [if_pos c2] at hj1
    split at hj1
    ·injection hj1 with hj1
     have hj1 : a.eval z = u := hj1
     subst hj1
     have := FW q hn (own' g e'' hu i1 v e' hi1 hv) (CW hi)
     omega
    cases hj1
   rw [if_neg c1] at hi1; rw [if_neg c2] at hj1
   exact h6 i1 j1 v u g e' e'' hi1 hj1 hv hu
  simp [Instr.mapUpdate, underlying, hu, getObj, setObj, Sem.run, h3, KK.check, hf, hen, hkey, Instr.keyThatStays, KK.same]
 obtain ⟨_, hput⟩ := l5 q k hi
 have hlen : (es.toList.map (·.val)).length = q.length := by have := congrArg List.length h4; simpa using this
 have hno : ∀ j, (q[j]?).map Prod.fst ≠ some k := fun j hj => by
  rw [List.findIdx?_eq_none_iff] at hi
  rw [← List.getElem?_map] at hj
  have := hi k (List.mem_of_getElem? hj)
  simp at this
 refine fin (es.push { key := KK.enc k, val := a.eval z, born := clock }) (clock + 1) ?_ ?_ ?_ ?_
 ·rw [hput]; simp [h4]
 ·rw [hput]; simp only [Array.toList_push, List.map_append, List.map_cons, List.map_nil]
  exact dO h5 ⟨hrow, trivial⟩
 ·simp only [Array.toList_push, List.map_append, List.map_cons, List.map_nil]
  intro i1 j1 v u g e' e'' hi1 hj1 hv hu
  rw [List.getElem?_append] at hi1 hj1
  split at hi1 <;> split at hj1
  ·exact h6 i1 j1 v u g e' e'' hi1 hj1 hv hu
  ·rw [List.getElem?_singleton] at hj1
   split at hj1
   ·injection hj1 with hj1
    subst hj1
    exact absurd (own' g e'' hu i1 v e' hi1 hv) (hno i1)
   cases hj1
  ·rw [List.getElem?_singleton] at hi1
   split at hi1
   ·injection hi1 with hi1
    subst hi1
    exact absurd (own' g e' hv j1 u e'' hj1 hu) (hno j1)
   cases hi1
  rw [List.getElem?_singleton] at hi1 hj1
  split at hi1 <;> split at hj1 <;> first | omega | (exfalso; simp at hj1; done) | (exfalso; simp at hi1; done)
 simp [Instr.mapUpdate, underlying, hu, getObj, setObj, Sem.run, h3, KK.check, hf]
end
section
variable {P : Program} {fr : Fr} {ops : Array Oper} {A : As} {rest : List Oper} {K : As → List (As × Fx) → Prop} {d : Nat} {t ty' mt kt et : TypeId} {p : String} {e : Array Edge} [T : k5 P]
variable {κ α : Type} [DecidableEq κ] {E : El α} {Tb J tg : Nat} {q : List (κ × List α)} {k : κ} {xs ys : List α}
omit [DecidableEq κ] in
theorem PG {x : Operand} {ti : TI} {el : Nat} (hx : A.op fr x = .qv E Tb tg J q k xs) (hT : T.tab[ty']? = some ti) (hk : ti.k = .slice el)
 (h : aV P fr ops rest (A.set d (.int .i64 (xs.length : Nat))) fun A' l => K A' ((A, { d := some d, ty := .int .i64 (xs.length : Nat), rs := bR x }) :: l)) :
 aV P fr ops (⟨some d, .call ⟨.builtin .len, #[x], #[ty']⟩, t, p, e, none⟩ :: rest) A K :=
 bB (bH rfl rfl fun a w M _ hr _ => by
  have := bk (x := x) (fun _ h => h) hr
  rw [hx] at this
  obtain ⟨h1, _⟩ := this
  obtain ⟨_, D, _, hD, hkd, _⟩ := cF hT
  rw [hk] at hkd
  cases D <;> simp only [TK.of, reduceCtorEq, TK.slice.injEq] at hkd
  refine ⟨.int .i64 xs.length, ?_, rfl⟩
  rcases h1 with ⟨hn, ex⟩ | ⟨g, off, c, cur, ex, _⟩
  ·simp [execOp, ex, resolve, invoke, builtin, Builtin.len_, run_underlying hD, hn, goInt]
  simp [execOp, ex, resolve, invoke, builtin, Builtin.len_, run_underlying hD, goInt]) h
theorem BX [Inhabited α] {w : World} {M : ah} {g off i j : Nat} {cur : Array Value} {ty : Ty} (hh : w.heap[g]? = some (.cells cur Tb (0, 0))) (hd : bt w M (xs.flatMap E.tys) ((cur.toList.drop off).take (xs.length * E.size))) (hi : i < xs.length) (hl : (E.tys (nth xs i))[j]? = some ty) :
 ∃ u, w.cell? ⟨g, off + i * E.size + j, none⟩ = some u ∧ ty.den w M u := by
 obtain ⟨u, hu, hdu⟩ := dF hd _ ty (l6 E xs hi j ty hl)
 rw [List.getElem?_take] at hu
 split at hu
 ·rw [List.getElem?_drop] at hu
  exact ⟨u, by rw [Nat.add_assoc]; simpa [World.cell?, hh] using hu, hdu⟩
 cases hu
omit [DecidableEq κ] in
theorem Lg [Inhabited α] {x y : Operand} {kd : IntKind} {i : Nat} {ti te : TI} {el : Nat} (hx : A.op fr x = .qv E Tb tg J q k xs) (hy : A.op fr y = .int kd i) (hT : T.tab[ty']? = some ti) (hk : ti.k = .slice el) (hE : T.tab[el]? = some te) (hs : te.size = E.size) (hi : i < xs.length)
 (h : aV P fr ops rest (A.set d (.op J (E.tys (nth xs i)))) fun A' l' => K A' ((A, { d := some d, ty := .op J (E.tys (nth xs i)), rs := bR x ++ bR y }) :: l')) : aV P fr ops (⟨some d, .indexAddr ty' x y, t, p, e, none⟩ :: rest) A K :=
 bB (bH rfl rfl fun a w M _ hr _ => by
  obtain ⟨hdx, hdy⟩ := op2 hr
  rw [hx] at hdx; rw [hy] at hdy
  obtain ⟨h1, _⟩ := hdx
  have ey : a.eval y = .int kd i := hdy
  rcases h1 with ⟨h0, _⟩ | ⟨g, off, c, cur, ex, hg, hh, hn, _, _, hd⟩
  ·subst h0; simp at hi
  refine ⟨_, by simp only [execOp, ex, ey, Sem.run_bind, gj hT hk hE (Int.natCast_nonneg i) (show (i : Int).toNat < xs.length from hi)]; rfl, g, off + i * te.size, by simp, hg, fun j ty hj => ?_⟩
  rw [hs]
  exact BX hh hd hi hj) h
omit [DecidableEq κ] in
theorem P7 {x y : Operand} {kd : IntKind} {lo : Nat} {ti te : TI} {el : Nat} (hx : A.op fr x = .qv E Tb tg J q k xs) (hy : A.op fr y = .int kd lo) (hT : T.tab[ty']? = some ti) (hk : ti.k = .slice el) (hE : T.tab[el]? = some te) (hs : te.size = E.size) (hlo : lo ≤ xs.length) (h0 : 0 < xs.length)
 (h : aV P fr ops rest (A.set d (.qv E Tb tg J q k (xs.drop lo))) fun A' l' => K A' ((A, { d := some d, ty := .qv E Tb tg J q k (xs.drop lo), rs := bR x ++ bR y }) :: l')) : aV P fr ops (⟨some d, .slice ty' x (some y) none none, t, p, e, none⟩ :: rest) A K :=
 bB (bH rfl rfl fun a w M _ hr _ => by
  obtain ⟨hdx, hdy⟩ := op2 hr
  rw [hx] at hdx; rw [hy] at hdy
  obtain ⟨h1, hown⟩ := hdx
  have ey : a.eval y = .int kd lo := hdy
  obtain ⟨_, D, _, hD, hkd, _⟩ := cF hT
  rw [hk] at hkd
  cases D <;> simp only [TK.of, reduceCtorEq, TK.slice.injEq] at hkd
  subst hkd
  have hsz := fun w => bz (P := P) hE w
  rcases h1 with ⟨hn, _⟩ | ⟨g, off, c, cur, ex, hg, hh, hn, hc, hsz2, hd⟩
  ·subst hn; simp at h0
  rw [ex] at hown
  have hlc : lo ≤ c := by omega
  have hrun : ∃ ad, (execOp a.eval ⟨some d, .slice ty' x (some y) none none, t, p, e, none⟩).run P w = .ok (.value (.slice (some ad) (xs.length - lo) (c - lo))) w ∧ ad = (if c = lo then (⟨g, off, none⟩ : Addr) else ⟨g, off + lo * E.size, none⟩) := by
   refine ⟨_, ?_, rfl⟩
   simp [execOp, ex, ey, Instr.sliceAt, Instr.slice, run_underlying hD, Instr.sliceBounds, Instr.sliceBound, asIntOf, hsz, hs, hn, hlo]
   by_cases hcl : c = lo
   ·simp [hcl]
   simp [hcl]; exact Addr.add_lit _ _ _
  obtain ⟨ad, hrun, had⟩ := hrun
  have hlen : (xs.drop lo).length = xs.length - lo := List.length_drop
  have key : bt w M ((xs.drop lo).flatMap E.tys) ((cur.toList.drop (off + lo * E.size)).take ((xs.drop lo).length * E.size)) := by
   have := iN (lo * E.size) hd
   rw [List.drop_take, List.drop_drop, ← Nat.sub_mul] at this
   have e1 : (xs.flatMap E.tys).drop (lo * E.size) = (xs.drop lo).flatMap E.tys := by
    have : xs.flatMap E.tys = (xs.take lo).flatMap E.tys ++ (xs.drop lo).flatMap E.tys := by rw [← List.flatMap_append, List.take_append_drop]
    rw [this, List.drop_left' (by rw [cg, List.length_take, Nat.min_eq_left hlo])]
   rw [e1] at this
   rw [hlen]; exact this
  by_cases hcl : c = lo
  ·rw [if_pos hcl] at had
   subst had
   refine ⟨_, hrun, .inr ⟨g, off, c - lo, cur, by rw [hlen], hg, hh, by rw [hlen]; omega, by omega, ?_, ?_⟩, fun g' e0 he => ?_⟩
   ·have : c - lo = 0 := by omega
    rw [this]; omega
   ·have h0' : xs.drop lo = [] := List.eq_nil_of_length_eq_zero (by rw [hlen]; omega)
    rw [h0']; simp [bt]
   simp only [jE, Option.some.injEq, Prod.mk.injEq] at he
   obtain ⟨rfl, rfl⟩ := he
   obtain ⟨b, es, clock, h1, h2, h3⟩ := hown g _ rfl
   refine ⟨b, es, clock, h1, h2, fun j u e1 hj hju => ⟨(h3 j u e1 hj hju).1, fun hr => ?_⟩⟩
   simp [roomy] at hr
   omega
  rw [if_neg hcl] at had
  subst had
  refine ⟨_, hrun, .inr ⟨g, off + lo * E.size, c - lo, cur, by rw [hlen], hg, hh, by rw [hlen]; omega, by omega, ?_, key⟩, fun g' e0 he => ?_⟩
  ·rw [Nat.add_assoc, ← Nat.add_mul, show lo + (c - lo) = c by omega]; exact hsz2
  simp only [jE, Option.some.injEq, Prod.mk.injEq] at he
  obtain ⟨rfl, rfl⟩ := he
  obtain ⟨b, es, clock, h1, h2, h3⟩ := hown g _ rfl
  refine ⟨b, es, clock, h1, h2, fun j u e1 hj hju => ⟨(h3 j u e1 hj hju).1, fun hr => ?_⟩⟩
  have := (h3 j u e1 hj hju).2 (by simp [roomy] at hr ⊢; omega)
  show e1 ≤ off + lo * E.size + (xs.length - lo) * E.size
  rw [Nat.add_assoc, ← Nat.add_mul, show lo + (xs.length - lo) = xs.length by omega]
  exact this) h
end
end Go.T
namespace Go.T
open Go Go.RowKit
section
variable {P : Program} {fr : Fr} {ops : Array Oper} {A : As} {rest : List Oper} {K : As → List (As × Fx) → Prop} {d : Nat} {t ty' mt kt et : TypeId} {p : String} {e : Array Edge} [T : k5 P]
variable {κ α : Type} [DecidableEq κ] {E : El α} {Tb J tg : Nat} {q : List (κ × List α)} {k : κ} {xs ys : List α}
theorem Mb (l news : List Value) (o n m e : Nat) (he : o + n ≤ e) (hl : e + news.length ≤ l.length) : (((l.take e ++ news ++ l.drop (e + news.length)).drop o).take n) = (l.drop o).take n := by
 apply List.ext_getElem?
 intro i
 rw [List.getElem?_take, List.getElem?_take]
 split
 ·rename_i hi
  rw [List.getElem?_drop, List.getElem?_drop, List.append_assoc, List.getElem?_append_left (by rw [List.length_take]; omega), List.getElem?_take, if_pos (by omega)]
 rfl
theorem Dv (l news : List Value) (o n : Nat) (hl : o + n + news.length ≤ l.length) : (((l.take (o + n) ++ news ++ l.drop (o + n + news.length)).drop o).take (n + news.length)) = (l.drop o).take n ++ news := by
 have h1 : (l.take (o + n) ++ news ++ l.drop (o + n + news.length)).drop o = (l.drop o).take n ++ news ++ l.drop (o + n + news.length) := by
  rw [List.append_assoc, List.drop_append_of_le_length (by rw [List.length_take]; omega), List.drop_take, show o + n - o = n by omega, List.append_assoc]
 have h2 : ((l.drop o).take n ++ news).length = n + news.length := by rw [List.length_append, List.length_take, List.length_drop, Nat.min_eq_left (by omega)]
 rw [h1, List.take_left' h2]
omit [DecidableEq κ] in
theorem EN {w : World} {M : ah} {vs : List Value} (hd : bt w M (q.map fun x => Ty.g8 E Tb J x.2) vs) {j : Nat} {u : Value} {g e1 : Nat} (hj : vs[j]? = some u) (hu : jE E.size u = some (g, e1)) : M g = some J := by
 have hlen := bw hd
 have hlt := (List.getElem?_eq_some_iff.1 hj).1
 obtain ⟨x, hx, hdx⟩ := dF hd j (Ty.g8 E Tb J (q[j]'(by simpa [hlen] using hlt)).2) (by rw [List.getElem?_map, List.getElem?_eq_getElem (by simpa [hlen] using hlt)]; rfl)
 rw [hj] at hx
 injection hx with hx
 subst hx
 rcases hdx with ⟨_, e⟩ | ⟨g', off, c, cur, e, hg, _⟩
 ·rw [e] at hu; simp [jE] at hu
 rw [e] at hu
 simp only [jE, Option.some.injEq, Prod.mk.injEq] at hu
 rw [← hu.1]; exact hg
theorem J8 {x y : Operand} {enc : κ → Value} {st el : Nat} {ti te : TI} (hx : A.op fr x = .qv E el tg J q k xs) (hy : A.op fr y = .sl E ys) (hc : A.tag tg = some (.mr enc E el J q)) (h1 : e8 tg) (hJ : 4096 ≤ J) (hp : fr.pass.contains J = false) (hpos : 0 < ys.length) (hT : T.tab[st]? = some ti) (hk : ti.k = .slice el) (hE : T.tab[el]? = some te) (hs : te.size = E.size) (hz : te.zero.length = te.size) (h0 : 0 < te.size)
    (hlen : (xs.length + ys.length) * te.bytes ≤ 140737488355328) (hlen' : xs.length + ys.length ≤ 9223372036854775807)
    (h : aV P fr ops rest (A.after { d := some d, ty := .qv E el tg J q k (xs ++ ys), S := [tg, J], sets := [(tg, .mr enc E el J q)], rs := bR x ++ bR y, rt := [tg] }) fun A' l' => K A' ((A, { d := some d, ty := .qv E el tg J q k (xs ++ ys), S := [tg, J], sets := [(tg, .mr enc E el J q)], rs := bR x ++ bR y, rt := [tg] }) :: l')) :
    aV P fr ops (⟨some d, .call ⟨.builtin .append, #[x, y], #[st, st]⟩, t, p, e, none⟩ :: rest) A K := by
  refine ⟨_, fH rfl rfl (by simp) (by simp; exact ⟨h1.1, by omega⟩) (by simp) fun a w M wf hr htg => ?_, h⟩
  obtain ⟨hdx, hdy⟩ := op2 hr
  rw [hx] at hdx; rw [hy] at hdy
  obtain ⟨hrow, hown⟩ := hdx
  obtain ⟨hn, b, es, clock, hb, hhb, hkeys, hvals, hap⟩ := htg _ (cM hc) (by simp)
  have ownb : ∀ (g e0 : Nat), jE E.size (a.eval x) = some (g, e0) → ∀ (j : Nat) (u : Value) (e1 : Nat), (es.toList.map (·.val))[j]? = some u → jE E.size u = some (g, e1) → (q[j]?).map Prod.fst = some k ∧ (roomy (a.eval x) = true → e1 ≤ e0) := fun g e0 he => by
    obtain ⟨b', es', c', g1, g2, g3⟩ := hown g e0 he
    obtain ⟨u', hu'⟩ : ∃ u, tg = u + 1 := ⟨tg - 1, by omega⟩
    have : b = b' := by
      have hb' : M b = some (u' + 1) := hu' ▸ hb
      have g1' : M b' = some (u' + 1) := hu' ▸ g1
      exact wf.inj b b' u' (by omega) hb' g1'
    subst this
    rw [hhb] at g2
    injection g2 with g2
    injection g2 with g2 _
    subst g2
    exact g3
  obtain ⟨_, D, _, hD, hkd, _⟩ := cF hT
  rw [hk] at hkd
  cases D <;> simp only [TK.of, reduceCtorEq, TK.slice.injEq] at hkd
  subst hkd
  rename_i el
  obtain ⟨i, _, hi, _, _, hsz, hby, hze⟩ := cF hE
  obtain ⟨zz, hiz, hzc⟩ : ∃ z, i.zero = some z ∧ z.cells.size = i.size := by
    cases hiz : i.zero with
    | none => rw [hiz] at hze; rw [← hze] at hz; simp at hz; omega
    | some z => rw [hiz] at hze; exact ⟨z, rfl, by simp at hze; rw [hsz, ← hz, ← hze]; simp⟩
  obtain ⟨ad, c', ey, hc1, hc2, hpp⟩ := hdy
  obtain ⟨b', off', rfl, hp'⟩ := hpp hpos
  obtain ⟨news, hn1, hn2, hn3⟩ := oI hp' _ (Nat.le_refl _)
  rw [List.take_length] at hn2
  have hnl : news.length = ys.length * i.size := by rw [hn1, cg, hsz, hs]
  have hnews : ∀ j u, news[j]? = some u → w.cell? ((⟨b', off', none⟩ : Addr).add j) = some u := fun j u hj => by rw [Addr.add_lit]; exact hn3 j u hj
  have hones := lu hn2 (iO E ys)
  have hesz : E.size = i.size := by rw [hsz, hs]
  -- behind a growth
  have grown : ∀ (olds : List Value) (cap : Nat), bt w M (xs.flatMap E.tys) olds → cap < xs.length + ys.length →
      (Builtin.append_ #[st, st] t #[a.eval x, a.eval y]).run P w = .ok (.slice (some ⟨w.heap.size, 0, none⟩) (xs.length + ys.length) (grownCap w (xs.length + ys.length) cap el)) (w.drew.alloc (.cells (olds.toArray ++ news.toArray ++ Builtin.zeroCells zz.cells (grownCap w (xs.length + ys.length) cap el - (xs.length + ys.length))) el)) →
      ∃ v w', (execOp a.eval ⟨some d, .call ⟨.builtin .append, #[x, y], #[st, st]⟩, t, p, e, none⟩).run P w = .ok (.value v) w' ∧ Fx.left { d := some d, ty := .qv E el tg J q k (xs ++ ys), S := [tg, J], sets := [(tg, .mr enc E el J q)], rs := bR x ++ bR y, rt := [tg] } w M w' v := by
    intro olds cap hdo hcap hrun
    have holen : olds.length = xs.length * i.size := by rw [bw hdo, cg, hesz]
    have hge := grownCap_ge w (xs.length + ys.length) cap el
    have hcm : grownCap w (xs.length + ys.length) cap el ≤ maxLen := grownCap_le_maxLen w (xs.length + ys.length) cap el (by simp only [maxLen]; omega)
    have hsize : (w.drew.alloc (.cells (olds.toArray ++ news.toArray ++ Builtin.zeroCells zz.cells (grownCap w (xs.length + ys.length) cap el - (xs.length + ys.length))) el)).heap.size = w.heap.size + 1 := by simp
    have hold : ∀ b2, b2 < w.heap.size → (w.drew.alloc (.cells (olds.toArray ++ news.toArray ++ Builtin.zeroCells zz.cells (grownCap w (xs.length + ys.length) cap el - (xs.length + ys.length))) el)).heap[b2]? = w.heap[b2]? := fun b2 h => Below.heap_alloc w.drew _ b2 h
    have hnew : (w.drew.alloc (.cells (olds.toArray ++ news.toArray ++ Builtin.zeroCells zz.cells (grownCap w (xs.length + ys.length) cap el - (xs.length + ys.length))) el)).heap[w.heap.size]? = some (.cells (olds.toArray ++ news.toArray ++ Builtin.zeroCells zz.cells (grownCap w (xs.length + ys.length) cap el - (xs.length + ys.length))) el (0, 0)) := fD w.drew _
    have hos : (w.drew.alloc (.cells (olds.toArray ++ news.toArray ++ Builtin.zeroCells zz.cells (grownCap w (xs.length + ys.length) cap el - (xs.length + ys.length))) el)).os = w.os ∧ (w.drew.alloc (.cells (olds.toArray ++ news.toArray ++ Builtin.zeroCells zz.cells (grownCap w (xs.length + ys.length) cap el - (xs.length + ys.length))) el)).tape = w.tape ∧ (w.drew.alloc (.cells (olds.toArray ++ news.toArray ++ Builtin.zeroCells zz.cells (grownCap w (xs.length + ys.length) cap el - (xs.length + ys.length))) el)).output = w.output := ⟨rfl, rfl, rfl⟩
    have hcs : (olds.toArray ++ news.toArray ++ Builtin.zeroCells zz.cells (grownCap w (xs.length + ys.length) cap el - (xs.length + ys.length))).size = grownCap w (xs.length + ys.length) cap el * i.size := by
      simp only [Array.size_append, List.size_toArray, size_zeroCells, hzc, holen, hnl, ← Nat.add_mul]
      congr 1
      omega
    have htk : ((olds.toArray ++ news.toArray ++ Builtin.zeroCells zz.cells (grownCap w (xs.length + ys.length) cap el - (xs.length + ys.length))).toList.drop 0).take ((xs ++ ys).length * E.size) = olds ++ news := by
      rw [List.drop_zero]
      simp only [Array.toList_append]
      rw [List.take_left' (by rw [List.length_append, holen, hnl, List.length_append, hesz, Nat.add_mul])]
    generalize hw' : (w.drew.alloc (.cells (olds.toArray ++ news.toArray ++ Builtin.zeroCells zz.cells (grownCap w (xs.length + ys.length) cap el - (xs.length + ys.length))) el)) = w' at *
    generalize hcu : (olds.toArray ++ news.toArray ++ Builtin.zeroCells zz.cells (grownCap w (xs.length + ys.length) cap el - (xs.length + ys.length))) = cu at *
    have le : Le (· ∈ [tg, J]) (· ∈ ([] : List Nat)) w M w' (fun b2 => if b2 = w.heap.size then some J else M b2) :=
      ⟨by omega, hos.1, hos.2.1, hos.2.2, fun b2 hb2 hm => ⟨by rw [if_neg (by omega)]; exact hm, hold b2 hb2⟩, fun b2 u hm _ => by
        have := wf.lt b2 u hm
        exact ⟨by rw [if_neg (by omega)]; exact hm, fun _ => hold b2 this⟩⟩
    have le0 : Le (· ∈ ([] : List Nat)) (· ∈ ([] : List Nat)) w M w' (fun b2 => if b2 = w.heap.size then some J else M b2) :=
      ⟨by omega, hos.1, hos.2.1, hos.2.2, fun b2 hb2 hm => ⟨by rw [if_neg (by omega)]; exact hm, hold b2 hb2⟩, fun b2 u hm _ => by
        have := wf.lt b2 u hm
        exact ⟨by rw [if_neg (by omega)]; exact hm, fun _ => hold b2 this⟩⟩
    have wf' : Wf w' (fun b2 => if b2 = w.heap.size then some J else M b2) := by
      refine ⟨fun b2 u hm => ?_, fun b2 b3 u ht1 hm hm' => ?_⟩
      · split at hm
        · omega
        · have := wf.lt b2 u hm; omega
      · split at hm
        · injection hm with hm; omega
        · split at hm'
          · injection hm' with hm'; omega
          · exact wf.inj b2 b3 u ht1 hm hm'
    have hblt := wf.lt b tg hb
    refine ⟨.slice (some ⟨w.heap.size, 0, none⟩) (xs.length + ys.length) (grownCap w (xs.length + ys.length) cap el), w', by simp [execOp, resolve, invoke, builtin, hrun], _, wf', le, ⟨.inr ⟨w.heap.size, 0, grownCap w (xs.length + ys.length) cap el, cu, by rw [List.length_append], by simp, hnew, by rw [List.length_append]; exact hge, hcm, by rw [hcs, hesz]; omega, ?_⟩, fun g e0 he => ?_⟩, fun y hy => ?_⟩
    · rw [htk, List.flatMap_append]
      exact kU (bV le0 (by rw [E.cW]; intro _ h; cases h) (by rw [E.cC]; intro _ h; cases h) hdo) (bV le0 (by rw [E.cW]; intro _ h; cases h) (by rw [E.cC]; intro _ h; cases h) hn2)
    · simp only [jE, Option.some.injEq, Prod.mk.injEq] at he
      obtain ⟨rfl, _⟩ := he
      refine ⟨b, es, clock, (if_neg (by omega)).trans hb, (hold b hblt).trans hhb, fun j u e1 hj hju => ?_⟩
      have := wf.lt _ _ (EN hvals hj hju)
      omega
    · rw [List.mem_singleton.1 hy]
      refine ⟨hn, b, es, clock, (if_neg (by omega)).trans hb, (hold b hblt).trans hhb, hkeys, ?_, hap⟩
      exact bV le0 (fun _ _ h => by cases h) (fun _ _ h => by cases h) hvals
  rcases hrow with ⟨hxe, ex⟩ | ⟨g, off, cap, cur, ex, hg, hh, hxc, hcm, hfit, hdx⟩
  · have hrn := run_append_nil (P := P) w st t el i zz hD hi hiz ⟨b', off', none⟩ ys.length c' news hnl hnews hpos (by omega) (by rw [hby]; have := hlen; rw [Nat.add_mul] at this; omega)
    subst hxe
    refine grown [] 0 trivial (by simpa using hpos) ?_
    rw [ex, ey]
    simpa using hrn
  · by_cases hroom : xs.length + ys.length ≤ cap
    · -- in place
      have hm : (xs.length + ys.length) * E.size ≤ cap * E.size := Nat.mul_le_mul_right _ hroom
      rw [Nat.add_mul] at hm
      have hcf : off + xs.length * i.size + news.length ≤ cur.size := by rw [hnl, ← hesz]; omega
      have hf := run_firstCells_some (P := P) w i.size ys.length ⟨b', off', none⟩ ys.length c' news hnl hnews
      have hst := run_storeCells_at (P := P) g (off + xs.length * i.size) el news 0 cur w hh (by simpa using hcf) hones
      rw [mI _ hh] at hst
      simp only [Nat.add_zero] at hst
      obtain ⟨h1', h2', h3'⟩ := jW (cs' := (cur.toList.take (off + xs.length * i.size) ++ news ++ cur.toList.drop (off + xs.length * i.size + news.length)).toArray) (Tb := el) wf hg _ rfl
      have hrun : (Builtin.append_ #[st, st] t #[a.eval x, a.eval y]).run P w = .ok (.slice (some ⟨g, off, none⟩) (xs.length + ys.length) cap) { w with heap := w.heap.setIfInBounds g (.cells (cur.toList.take (off + xs.length * i.size) ++ news ++ cur.toList.drop (off + xs.length * i.size + news.length)).toArray el (0, 0)) } := by
        rw [ex, ey]
        simp [Builtin.append_, run_underlying hD, sizeOf, typeInfo, hi, Builtin.lenOf, hroom, hf, Addr.add_lit, hst]
      have le : Le (· ∈ [tg, J]) (· ∈ ([] : List Nat)) w M { w with heap := w.heap.setIfInBounds g (.cells (cur.toList.take (off + xs.length * i.size) ++ news ++ cur.toList.drop (off + xs.length * i.size + news.length)).toArray el (0, 0)) } M :=
        h2'.weaken (fun u hu => by simp only [List.mem_singleton] at hu; subst hu; simp) (fun _ h => by cases h)
      have hgb : g ≠ b := fun e => by rw [e, hhb] at hh; cases hh
      have hroomy : roomy (a.eval x) = true := by rw [ex]; simp [roomy]; omega
      have hb' : ({ w with heap := w.heap.setIfInBounds g (.cells (cur.toList.take (off + xs.length * i.size) ++ news ++ cur.toList.drop (off + xs.length * i.size + news.length)).toArray el (0, 0)) } : World).heap[b]? = some (.map es clock) := by
        show (w.heap.setIfInBounds g _)[b]? = _
        rw [Array.getElem?_setIfInBounds_ne hgb]; exact hhb
      refine ⟨.slice (some ⟨g, off, none⟩) (xs.length + ys.length) cap, _, by simp [execOp, resolve, invoke, builtin, hrun], M, h1', le, ⟨.inr ⟨g, off, cap, _, by rw [List.length_append], hg, h3', by rw [List.length_append]; exact hroom, hcm, ?_, ?_⟩, fun g' e0 he => ?_⟩, fun y hy => ?_⟩
      · simp only [List.size_toArray, List.length_append, List.length_take, List.length_drop, Array.length_toList]
        omega
      · rw [List.length_append, Nat.add_mul, hesz, ← hnl, List.toList_toArray, Dv _ _ _ _ (by simpa using hcf), List.flatMap_append]
        refine bV h2' (by rw [← List.flatMap_append, E.cW]; intro _ h; cases h) (by rw [← List.flatMap_append, E.cC]; intro _ h; cases h) (kU ?_ hn2)
        rw [← hesz]; exact hdx
      · simp only [jE, Option.some.injEq, Prod.mk.injEq] at he
        obtain ⟨rfl, rfl⟩ := he
        refine ⟨b, es, clock, hb, hb', fun j u e1 hj hju => ?_⟩
        have := ownb g (off + xs.length * E.size) (by rw [ex]; rfl) j u e1 hj hju
        refine ⟨this.1, fun _ => ?_⟩
        have := this.2 hroomy
        rw [Nat.add_mul]; omega
      · rw [List.mem_singleton.1 hy]
        refine ⟨hn, b, es, clock, hb, hb', hkeys, ?_, hap⟩
        refine g9 (by rw [bw hvals]) fun j ty hj => ?_
        obtain ⟨u, hu, hdu⟩ := dF hvals j ty hj
        refine ⟨u, hu, ?_⟩
        rw [List.getElem?_map] at hj
        obtain ⟨qe, _, rfl⟩ := Option.map_eq_some_iff.1 hj
        rcases hdu with h | ⟨g2, off2, c2, cur2, e2, hg2, hh2, k1, k2, k3, k4⟩
        · exact .inl h
        · by_cases hgg : g = g2
          · subst hgg
            rw [hh] at hh2
            injection hh2 with hh2
            injection hh2 with ha _
            subst ha
            have hend := (ownb g (off + xs.length * E.size) (by rw [ex]; rfl) j u _ hu (by rw [e2]; rfl)).2 hroomy
            refine .inr ⟨g, off2, c2, _, e2, hg, h3', k1, k2, ?_, ?_⟩
            · simp only [List.size_toArray, List.length_append, List.length_take, List.length_drop, Array.length_toList]
              omega
            · rw [List.toList_toArray, Mb _ _ _ _ 0 _ (by rw [← hesz]; exact hend) (by simpa using hcf)]
              exact bV h2' (by rw [E.cW]; intro _ h; cases h) (by rw [E.cC]; intro _ h; cases h) k4
          · refine .inr ⟨g2, off2, c2, cur2, e2, hg2, ?_, k1, k2, k3, bV h2' (by rw [E.cW]; intro _ h; cases h) (by rw [E.cC]; intro _ h; cases h) k4⟩
            show (w.heap.setIfInBounds g _)[g2]? = _
            rw [Array.getElem?_setIfInBounds_ne hgg]; exact hh2
    · have holds : ∀ j u, ((cur.toList.drop off).take (xs.length * E.size))[j]? = some u → w.cell? ((⟨g, off, none⟩ : Addr).add j) = some u := fun j u hj => by
        rw [List.getElem?_take] at hj
        split at hj
        · rw [List.getElem?_drop] at hj
          rw [Addr.add_lit]
          simpa [World.cell?, hh] using hj
        · cases hj
      have hol : ((cur.toList.drop off).take (xs.length * E.size)).length = xs.length * i.size := by rw [bw hdx, cg, hesz]
      have hrn := run_append_grow (P := P) w st t el i zz hD hi hiz ⟨g, off, none⟩ xs.length cap _ hol holds ⟨b', off', none⟩ ys.length c' news hnl hnews (by omega) (by omega) (growslice_fits (by omega) (by rw [hby]; exact hlen))
      refine grown _ cap hdx (by omega) ?_
      rw [ex, ey]
      exact hrn
omit T in
theorem Jd {x y z : Operand} {kty : Ty} {tz : Nat} (KK : sF P kt κ) (hx : A.op fr x = .mp tg) (hc : A.tag tg = some (.mr KK.enc E Tb J q)) (h1 : e8 tg) (hy : A.op fr y = kty) (hk : pU kty (KK.enc k)) (hz : A.op fr z = .row E Tb tz xs) (hm : mapOf P mt = some (kt, et)) (hJ : 4096 ≤ J) (h2 : e8 tz) (hne : Nat.beq tz tg = false) (hp : fr.pass.contains tz = false)
 (h : aV P fr ops rest (A.after { d := none, S := [tg], K := [tz], sets := [(tg, .mr KK.enc E Tb J (cz q k xs))], rs := bR x ++ (bR y ++ bR z), rt := [tg] }) fun A' l' => K A' ((A, { d := none, S := [tg], K := [tz], sets := [(tg, .mr KK.enc E Tb J (cz q k xs))], rs := bR x ++ (bR y ++ bR z), rt := [tg] }) :: l')) :
 aV P fr ops (⟨none, .mapUpdate mt x y z, t, p, e, none⟩ :: rest) A K := by
 have hne' : tz ≠ tg := fun h => by subst h; simp at hne
 refine ⟨_, kf rfl rfl rfl (by simp) (by simpa using h1.1) (by simp at hp ⊢; exact ⟨h2.1, hp⟩) fun a w M wf hrd htg => ?_, h⟩
 obtain ⟨hn, b, es, clock, e1, e2, h3, h4, h5, h6⟩ := H9 hx hc h1 wf (fun c hc => List.mem_append_left _ hc) hrd htg
 have hyd := bk (fun c hc => List.mem_append_right (bR x) (List.mem_append_left (bR z) hc)) hrd
 have hzd := bk (fun c hc => List.mem_append_right (bR x) (List.mem_append_right (bR y) hc)) hrd
 rw [hy] at hyd
 rw [hz] at hzd
 obtain ⟨cs, hown, hcs, hM⟩ := hzd
 have hu := jO hm
 have hblt : b < w.heap.size := wf.lt b _ e2
 have hrow : NG E Tb J xs w (jZ M tz J) (a.eval z) := by
  rcases hown.2 with ⟨ez, h0⟩ | ⟨g, cap, cur, ez, _, hh, hnc, hcap, hsz, htk⟩
  ·exact .inl ⟨List.length_eq_zero_iff.1 h0, ez⟩
  have hg : M g = some tz := hM g (by rw [ez]; rfl)
  refine .inr ⟨g, 0, cap, cur, ez, by simp [jZ, hg], hh, hnc, hcap, by omega, ?_⟩
  rw [List.drop_zero, htk]
  exact bV (qg (w := w)) (by rw [E.cW]; intro _ h; cases h) (by rw [E.cC]; intro _ h; cases h) hcs
 have hvals : bt w (jZ M tz J) (q.map fun x => Ty.g8 E Tb J x.2) (es.toList.map (·.val)) :=
  bV (qg (w := w) (tg := tz) (J := J)) (fun u hu => by rw [l9.1 u hu]; simp; omega) (fun _ _ h => by cases h) h5
 have apart0 : ∀ (g e0 : Nat), jE E.size (a.eval z) = some (g, e0) → ∀ (j : Nat) (u : Value) (e' : Nat), (es.toList.map (·.val))[j]? = some u → jE E.size u = some (g, e') → False := fun g e0 he j u e' hj hju => by
  have k1 := EN h5 hj hju
  rcases hown.2 with ⟨ez, _⟩ | ⟨g', cap, cur, ez, _⟩
  ·rw [ez] at he; simp [jE] at he
  have hg : M g' = some tz := hM g' (by rw [ez]; rfl)
  rw [ez] at he
  simp only [jE, Option.some.injEq, Prod.mk.injEq] at he
  obtain ⟨rfl, _⟩ := he
  rw [hg] at k1
  injection k1 with k1
  omega
 have fin : ∀ (es' : Array MapEntry) (clock' : Nat), es'.toList.map (·.key) = (cz q k xs).map (fun x => KK.enc x.1) → bt w (jZ M tz J) ((cz q k xs).map fun x => Ty.g8 E Tb J x.2) (es'.toList.map (·.val)) → z5 E.size (es'.toList.map (·.val)) →
  (Instr.mapUpdate mt (.map (some b)) (KK.enc k) (a.eval z)).run P w = .ok () { w with heap := w.heap.setIfInBounds b (.map es' clock') } →
  ∃ w', (execOp a.eval ⟨none, .mapUpdate mt x y z, t, p, e, none⟩).run P w = .ok .skip w' ∧ Fx.left { d := none, S := [tg], K := [tz], sets := [(tg, .mr KK.enc E Tb J (cz q k xs))], rs := bR x ++ (bR y ++ bR z), rt := [tg] } w M w' undef := by
  intro es' clock' hk' hd' hap hrun
  have hr : (execOp a.eval ⟨none, .mapUpdate mt x y z, t, p, e, none⟩).run P w = .ok .skip { w with heap := w.heap.setIfInBounds b (.map es' clock') } := by
   simp only [execOp, e1, hk _ _ _ hyd]
   simp [hrun]
  have wf2 := EI (tg := tz) hJ wf
  have e2' : jZ M tz J b = some tg := by simp [jZ, e2, hne'.symm]
  have le2 : Le (· ∈ [tg]) (· ∈ ([] : List Nat)) w (jZ M tz J) { w with heap := w.heap.setIfInBounds b (.map es' clock') } (jZ M tz J) := by
   refine ⟨by simp, rfl, rfl, rfl, fun b2 hlt hm2 => ⟨hm2, ?_⟩, fun b2 u hm2 _ => ⟨hm2, fun hs => ?_⟩⟩
   ·have : b ≠ b2 := fun h => by subst h; rw [e2'] at hm2; cases hm2
    simp [Array.getElem?_setIfInBounds, this]
   have : b ≠ b2 := fun h => by subst h; rw [e2'] at hm2; injection hm2 with hm2; exact hs (by simp [hm2])
   simp [Array.getElem?_setIfInBounds, this]
  have le : Le (· ∈ [tg]) (· ∈ [tz]) w M { w with heap := w.heap.setIfInBounds b (.map es' clock') } (jZ M tz J) :=
   ((qg (w := w) (M := M) (tg := tz) (J := J)).trans le2).weaken (fun u hu => by rcases hu with h | h; cases h; exact h) (fun u hu => by rcases hu with h | h; exact h; cases h)
  refine ⟨_, hr, _, ⟨fun b2 u h => by simpa using wf2.lt b2 u h, wf2.inj⟩, le, trivial, fun x hx => ?_⟩
  rw [List.mem_singleton.1 hx]
  refine ⟨BC q k xs hn, b, es', clock', e2', by simp [hblt], hk', ?_, hap⟩
  exact bV le2 (fun _ _ => by simp) (fun u hu => by rw [l9.2 u hu]; simp; omega) hd'
 rcases mY KK h4 h5 k with ⟨i, v0, en, hi, hg, hen, hkey, hd, hf⟩ | ⟨hi, hg, hf⟩
 ·obtain ⟨v1, hv1, _, hput⟩ := mG q k i hi
  have hes : (es.modify i fun e => { e with key := KK.enc k, val := a.eval z }).toList = es.toList.set i { en with key := KK.enc k, val := a.eval z } := by
   rw [Array.toList_modify, List.modify_eq_set, Array.getElem?_toList, hen]; rfl
  refine fin (es.modify i fun e => { e with key := KK.enc k, val := a.eval z }) clock ?_ ?_ ?_ ?_
  ·rw [hput, List.map_set, hes, List.map_set, h4]
  ·rw [hput, List.map_set, hes, List.map_set]
   exact ny hvals hrow
  ·rw [hes, List.map_set]
   intro i1 j1 v u g e' e'' hi1 hj1 hv hu
   rw [List.getElem?_set] at hi1 hj1
   by_cases c1 : i = i1 <;> by_cases c2 : i = j1
   ·omega
   ·rw [if_pos c1] at hi1; rw [if_neg c2] at hj1
    split at hi1
    ·injection hi1 with hi1
     have hi1 : a.eval z = v := hi1
     subst hi1
     exact (apart0 g e' hv j1 u e'' hj1 hu).elim
    cases hi1
   ·rw [if_neg c1] at hi1; rw [if_pos c2] at hj1
    split at hj1
    ·injection hj1 with hj1
     have hj1 : a.eval z = u := hj1
     subst hj1
     exact (apart0 g e'' hu i1 v e' hi1 hv).elim
    cases hj1
   rw [if_neg c1] at hi1; rw [if_neg c2] at hj1
   exact h6 i1 j1 v u g e' e'' hi1 hj1 hv hu
  simp [Instr.mapUpdate, underlying, hu, getObj, setObj, Sem.run, h3, KK.check, hf, hen, hkey, Instr.keyThatStays, KK.same]
 obtain ⟨_, hput⟩ := l5 q k hi
 refine fin (es.push { key := KK.enc k, val := a.eval z, born := clock }) (clock + 1) ?_ ?_ ?_ ?_
 ·rw [hput]; simp [h4]
 ·rw [hput]; simp only [Array.toList_push, List.map_append, List.map_cons, List.map_nil]
  exact dO hvals ⟨hrow, trivial⟩
 ·simp only [Array.toList_push, List.map_append, List.map_cons, List.map_nil]
  intro i1 j1 v u g e' e'' hi1 hj1 hv hu
  rw [List.getElem?_append] at hi1 hj1
  split at hi1 <;> split at hj1
  ·exact h6 i1 j1 v u g e' e'' hi1 hj1 hv hu
  ·rw [List.getElem?_singleton] at hj1
   split at hj1
   ·injection hj1 with hj1
    subst hj1
    exact (apart0 g e'' hu i1 v e' hi1 hv).elim
   cases hj1
  ·rw [List.getElem?_singleton] at hi1
   split at hi1
   ·injection hi1 with hi1
    subst hi1
    exact (apart0 g e' hv j1 u e'' hj1 hu).elim
   cases hi1
  rw [List.getElem?_singleton] at hi1 hj1
  split at hi1 <;> split at hj1 <;> first | omega | (exfalso; simp at hj1; done) | (exfalso; simp at hi1; done)
 simp [Instr.mapUpdate, underlying, hu, getObj, setObj, Sem.run, h3, KK.check, hf]
theorem gi {β γ : Type} (f : β → γ) : ∀ (l : List β) (i : Nat), (l.eraseIdx i).map f = (l.map f).eraseIdx i
  | [], _ => rfl
  | _ :: _, 0 => rfl
  | x :: l, i + 1 => by simp [gi f l i]
theorem r8 {w : World} {M : ah} : ∀ {l : List Ty} {vs : List Value} (i : Nat), bt w M l vs → bt w M (l.eraseIdx i) (vs.eraseIdx i)
  | [], [], _, _ => trivial
  | _ :: _, _ :: _, 0, ⟨_, h⟩ => h
  | _ :: _, _ :: _, i + 1, ⟨h, h'⟩ => ⟨h, r8 i h'⟩
theorem yL {vs : List Value} {size : Nat} (h : z5 size vs) (i : Nat) : z5 size (vs.eraseIdx i) := by
 intro i1 j1 v u g e' e'' hi1 hj1 hv hu
 rw [List.getElem?_eraseIdx] at hi1 hj1
 split at hi1 <;> split at hj1
 ·exact h _ _ v u g e' e'' hi1 hj1 hv hu
 ·have := h _ _ v u g e' e'' hi1 hj1 hv hu; omega
 ·have := h _ _ v u g e' e'' hi1 hj1 hv hu; omega
 have := h _ _ v u g e' e'' hi1 hj1 hv hu; omega
omit T in
theorem Ja {x y : Operand} {kty : Ty} {kt' : TypeId} (KK : sF P kt κ) (hx : A.op fr x = .mp tg) (hc : A.tag tg = some (.mr KK.enc E Tb J q)) (h1 : e8 tg) (hy : A.op fr y = kty) (hk : pU kty (KK.enc k)) (hm : mapOf P mt = some (kt, et)) (hJ : Nat.beq J tg = false)
 (h : aV P fr ops rest (A.after { d := none, S := [tg], sets := [(tg, .mr KK.enc E Tb J (lH q k))], rs := bR x ++ bR y, rt := [tg] }) fun A' l' => K A' ((A, { d := none, S := [tg], sets := [(tg, .mr KK.enc E Tb J (lH q k))], rs := bR x ++ bR y, rt := [tg] }) :: l')) :
 aV P fr ops (⟨none, .call ⟨.builtin .delete, #[x, y], #[mt, kt']⟩, t, p, e, none⟩ :: rest) A K := by
 have hJ' : J ≠ tg := fun h => by subst h; simp at hJ
 refine ⟨_, fH rfl rfl (by simp) (by simpa using h1.1) (by simp) fun a w M wf hrd htg => ?_, h⟩
 obtain ⟨hn, b, es, clock, e1, e2, h3, h4, h5, h6⟩ := H9 hx hc h1 wf (fun c hc => List.mem_append_left _ hc) hrd htg
 have hyd := bk (fun c hc => List.mem_append_right (bR x) hc) hrd
 rw [hy] at hyd
 have ey := hk _ _ _ hyd
 have hu := jO hm
 have hblt : b < w.heap.size := wf.lt b _ e2
 have fin : ∀ (es' : Array MapEntry), es'.toList.map (·.key) = (lH q k).map (fun x => KK.enc x.1) → bt w M ((lH q k).map fun x => Ty.g8 E Tb J x.2) (es'.toList.map (·.val)) → z5 E.size (es'.toList.map (·.val)) → ((lH q k).map Prod.fst).Nodup →
  (Builtin.delete_ #[mt, kt'] t #[a.eval x, a.eval y]).run P w = .ok (.tuple #[]) { w with heap := w.heap.setIfInBounds b (.map es' clock) } →
  ∃ v w', (execOp a.eval ⟨none, .call ⟨.builtin .delete, #[x, y], #[mt, kt']⟩, t, p, e, none⟩).run P w = .ok (.value v) w' ∧ Fx.left { d := none, S := [tg], sets := [(tg, .mr KK.enc E Tb J (lH q k))], rs := bR x ++ bR y, rt := [tg] } w M w' v := by
  intro es' hk' hd' hap hnd hrun
  have le : Le (· ∈ [tg]) (· ∈ ([] : List Nat)) w M { w with heap := w.heap.setIfInBounds b (.map es' clock) } M := by
   refine ⟨by simp, rfl, rfl, rfl, fun b2 hlt hm2 => ⟨hm2, ?_⟩, fun b2 u hm2 _ => ⟨hm2, fun hs => ?_⟩⟩
   ·have : b ≠ b2 := fun h => by subst h; rw [e2] at hm2; cases hm2
    simp [Array.getElem?_setIfInBounds, this]
   have : b ≠ b2 := fun h => by subst h; rw [e2] at hm2; injection hm2 with hm2; exact hs (by simp [hm2])
   simp [Array.getElem?_setIfInBounds, this]
  refine ⟨.tuple #[], _, by simp [execOp, resolve, invoke, builtin, hrun], M, ⟨fun b2 u h => by simpa using wf.lt b2 u h, wf.inj⟩, le, trivial, fun x hx => ?_⟩
  rw [List.mem_singleton.1 hx]
  refine ⟨hnd, b, es', clock, e2, by simp [hblt], hk', ?_, hap⟩
  exact bV le (fun _ _ => by simp) (fun u hu => by rw [l9.2 u hu]; simpa using hJ') hd'
 rcases mY KK h4 h5 k with ⟨i, v0, en, hi, hg, hen, hkey, hd, hf⟩ | ⟨hi, hg, hf⟩
 ·have hdel : lH q k = q.eraseIdx i := by unfold lH; rw [hi]; rfl
  have hes : (es.eraseIdxIfInBounds i).toList = es.toList.eraseIdx i := by
   have hil : i < es.size := (Array.getElem?_eq_some_iff.1 hen).1
   rw [Array.eraseIdxIfInBounds, dif_pos hil, Array.toList_eraseIdx]
  refine fin (es.eraseIdxIfInBounds i) ?_ ?_ ?_ ?_ ?_
  ·rw [hes, hdel, gi, h4, gi]
  ·rw [hes, hdel, gi, gi]; exact r8 i h5
  ·rw [hes, gi]; exact yL h6 i
  ·rw [hdel, gi]; exact (List.eraseIdx_sublist _ i).nodup hn
  rw [e1, ey]
  simp [Builtin.delete_, underlying, hu, getObj, setObj, Sem.run, h3, KK.check, hf]
 have hdel : lH q k = q := by unfold lH; rw [hi]; exact List.eraseIdx_of_length_le (Nat.le_refl _)
 refine fin es ?_ ?_ h6 ?_ ?_
 ·rw [hdel]; exact h4
 ·rw [hdel]; exact h5
 ·rw [hdel]; exact hn
 rw [e1, ey]
 simp [Builtin.delete_, underlying, hu, getObj, setObj, Sem.run, h3, KK.check, hf]
end
end Go.T
namespace Go.T
open Go Go.RowKit
theorem wg {P : Program} {kt : TypeId} {κ : Type} [DecidableEq κ] {enc : κ → Value} (heq : ∀ (x y : κ) (w : World), (Op.equal kt (enc x) (enc y)).run P w = .ok (decide (x = y)) w) (k : κ) : ∀ (ks : List κ) (es : List MapEntry) (i : Nat) (w : World), es.map (·.key) = ks.map enc →
    (Instr.findAsking kt (enc k) es i).run P w = .ok ((ks.findIdx? (fun x => decide (x = k))).bind fun j => (es[j]?).map fun e => (i + j, e.val)) w
  | [], [], i, w, _ => rfl
  | [], e :: es, i, w, h => by cases h
  | x :: ks, [], i, w, h => by cases h
  | x :: ks, e :: es, i, w, h => by
    simp only [List.map_cons, List.cons.injEq] at h
    obtain ⟨h1, h2⟩ := h
    rw [Instr.findAsking, h1]
    simp only [Sem.run_bind, heq, Result.andThen_ok]
    by_cases hx : x = k
    · subst hx; simp [List.findIdx?_cons]
    · have hk : ¬ k = x := fun e => hx e.symm
      rw [decide_eq_false hk]
      simp only [Bool.false_eq_true, if_false]
      rw [wg heq k ks es (i + 1) w h2]
      simp only [List.findIdx?_cons, decide_eq_false hx, Bool.false_eq_true, if_false]
      cases (ks.findIdx? fun x => decide (x = k)) with
      | none => rfl
      | some j => simp [Nat.add_assoc, Nat.add_comm]; rw [show j + (i + 1) = i + (j + 1) from by omega]
abbrev JX (n : Nat) : Type := {l : List Int // l.length = n}
def fF (n : Nat) (l : JX n) : Value := .agg (l.1.map (Value.int .i64)).toArray
theorem Ac {D : TypeDesc} {k : Value} (h : ∀ v, Instr.sameNow D k v = none) : ∀ (es : List MapEntry) (i : Nat), es ≠ [] → Instr.findNow D k es i = none
  | [], _, h0 => absurd rfl h0
  | e :: es, i, _ => by rw [Instr.findNow, h]
theorem Dp : ∀ (l : List Int), ((l.map (Value.int .i64)).zip (l.map (Value.int .i64))).all (fun x => Instr.sameBits 9999 x.1 x.2) = true
  | [] => rfl
  | a :: l => by simp [Instr.sameBits, Dp l]
def PU (P : Program) (kt n et : Nat) (hu : P.underlying kt = some (.array n et)) (heq : ∀ (x y : JX n) (w : World), (Op.equal kt (fF n x) (fF n y)).run P w = .ok (decide (x = y)) w)
    (hcheck : ∀ (b : Bool) (x : JX n) (w : World), (Instr.checkKey b 10000 kt (fF n x)).run P w = .ok () w) : sF P kt (JX n) where
  enc := fF n
  find k ks es w he := by
    have h1 := wg heq k ks es 0 w he
    cases es with
    | nil =>
      cases ks with
      | nil => simp [Instr.findKey, underlying, hu, Instr.findNow]
      | cons x l => cases he
    | cons e es =>
      have h2 : Instr.findNow (.array n et) (fF n k) (e :: es) 0 = none := Ac (fun v => rfl) _ _ (by simp)
      simp only [Instr.findKey, Sem.run_bind, run_underlying hu, Result.andThen_ok, h2]
      simpa using h1
  check b k w := hcheck b k w
  same k := by
    show Instr.sameBits 10000 (.agg _) (.agg _) = true
    rw [show (10000 : Nat) = 9999 + 1 from rfl, Instr.sameBits]
    simp only [beq_self_eq_true, Bool.true_and, List.toList_toArray]
    exact Dp k.1
theorem nq {w : World} {M : ah} : ∀ (l : List Int) (vs : List Value), bt w M (l.flatMap eB.tys) vs → vs = l.map (Value.int .i64)
  | [], [], _ => rfl
  | a :: l, v :: vs, ⟨h, h'⟩ => by
    have e : v = .int .i64 a := h
    rw [e, List.map_cons, nq l vs h']
theorem Og {n : Nat} (l : JX n) : pU (.agg (l.1.flatMap eB.tys)) (fF n l) := fun w M x ⟨cs, e, hd⟩ => by
 rw [e]
 have := nq l.1 cs.toList hd
 unfold fF
 rw [← this]
end Go.T
namespace Go.Proofs.YtmmcenjknimhbaaGreat
open Go Go.T
section
variable {κ β : Type} [DecidableEq κ]
theorem AT (q : List (κ × β)) (k : κ) (v : β) (x : κ) : x ∈ (cz q k v).map Prod.fst ↔ x = k ∨ x ∈ q.map Prod.fst := by
  induction q with
  | nil => simp [cz]
  | cons y l ih =>
    simp only [cz]
    by_cases h : y.1 = k
    · subst h; simp
    · rw [if_neg h]; simp only [List.map_cons, List.mem_cons, ih]
      constructor
      · rintro (h | h | h)
        · exact .inr (.inl h)
        · exact .inl h
        · exact .inr (.inr h)
      · rintro (h | h | h)
        · exact .inr (.inl h)
        · exact .inl h
        · exact .inr (.inr h)
theorem jz (q : List (κ × β)) (k : κ) (v : β) (hn : (q.map Prod.fst).Nodup) : ((cz q k v).map Prod.fst).Nodup := by
  induction q with
  | nil => simp [cz]
  | cons y l ih =>
    rw [List.map_cons, List.nodup_cons] at hn
    simp only [cz]
    by_cases h : y.1 = k
    · subst h; rw [if_pos rfl, List.map_cons, List.nodup_cons]; exact hn
    · rw [if_neg h, List.map_cons, List.nodup_cons]
      refine ⟨fun hm => ?_, ih hn.2⟩
      rcases (AT l k v y.1).1 hm with e | e
      · exact h e
      · exact hn.1 e
theorem Af {q : List (κ × β)} {k : κ} {v : β} (h : bU q k = some v) : k ∈ q.map Prod.fst := by
  induction q with
  | nil => cases h
  | cons y l ih =>
    simp only [bU] at h
    by_cases e : y.1 = k
    · subst e; simp
    · rw [if_neg e] at h; exact List.mem_cons_of_mem _ (ih h)
theorem EP {q : List (κ × β)} {k : κ} (h : k ∈ q.map Prod.fst) : ∃ v, bU q k = some v := by
  induction q with
  | nil => cases h
  | cons y l ih =>
    simp only [bU]
    by_cases e : y.1 = k
    · exact ⟨_, if_pos e⟩
    · rw [if_neg e]; rw [List.map_cons, List.mem_cons] at h
      exact ih (h.resolve_left fun h => e h.symm)
theorem D4 {q : List (κ × β)} {k : κ} (h : k ∉ q.map Prod.fst) : bU q k = none := by
  cases e : bU q k with
  | none => rfl
  | some v => exact absurd (Af e) h
theorem tP (q : List (κ × β)) (k : κ) (v : β) (h : bU q k = none) : (cz q k v).length = q.length + 1 := by
  induction q with
  | nil => rfl
  | cons y l ih =>
    simp only [bU] at h
    by_cases e : y.1 = k
    · rw [if_pos e] at h; cases h
    · rw [if_neg e] at h; simp only [cz, if_neg e, List.length_cons, ih h]
theorem rE {α : Type} (y : κ × List α) (l : List (κ × List α)) (k : κ) : lH (y :: l) k = if y.1 = k then l else y :: lH l k := by
  unfold lH
  rw [List.map_cons, List.findIdx?_cons]
  by_cases e : y.1 = k
  · rw [if_pos e, decide_eq_true e]; rfl
  · rw [if_neg e, decide_eq_false e]
    cases h : (l.map Prod.fst).findIdx? fun x => decide (x = k) with
    | none => simp
    | some i => simp
theorem Il {α : Type} (l : List (κ × List α)) (k : κ) : ∀ x, x ∈ (lH l k).map Prod.fst → x ∈ l.map Prod.fst := by
  induction l with
  | nil => intro x h; exact h
  | cons y l ih =>
    intro x h
    rw [rE] at h
    by_cases e : y.1 = k
    · rw [if_pos e] at h; exact List.mem_cons_of_mem _ h
    · rw [if_neg e, List.map_cons, List.mem_cons] at h
      rw [List.map_cons, List.mem_cons]
      exact h.imp id (ih x)
theorem Gn {α : Type} (l : List (κ × List α)) (k : κ) (hn : (l.map Prod.fst).Nodup) : ((lH l k).map Prod.fst).Nodup := by
  induction l with
  | nil => exact hn
  | cons y l ih =>
    rw [List.map_cons, List.nodup_cons] at hn
    rw [rE]
    by_cases e : y.1 = k
    · rw [if_pos e]; exact hn.2
    · rw [if_neg e, List.map_cons, List.nodup_cons]
      exact ⟨fun h => hn.1 (Il l k _ h), ih hn.2⟩
theorem I5 {α : Type} (l : List (κ × List α)) (k k' : κ) (hn : (l.map Prod.fst).Nodup) : bU (lH l k) k' = if k = k' then none else bU l k' := by
  induction l with
  | nil => show none = _; split <;> rfl
  | cons y l ih =>
    rw [List.map_cons, List.nodup_cons] at hn
    rw [rE]
    by_cases e : y.1 = k
    · rw [if_pos e]
      by_cases e2 : k = k'
      · rw [if_pos e2]; exact D4 (by rw [← e2, ← e]; exact hn.1)
      · rw [if_neg e2]; simp only [bU]; rw [if_neg (by rw [e]; exact e2)]
    · rw [if_neg e]; simp only [bU]
      by_cases e3 : y.1 = k'
      · rw [if_pos e3, if_neg (by rw [← e3]; exact fun h => e h.symm), if_pos e3]
      · rw [if_neg e3, ih hn.2, if_neg e3]
end
def rowAt {α : Type} (q : List (Int × List α)) (m : Int) : List α := (bU q m).getD []
theorem l8 {α : Type} (q : List (Int × List α)) (n : Int) (r : List α) (m : Int) : rowAt (cz q n r) m = if n = m then r else rowAt q m := by
 unfold rowAt; rw [q4]; split <;> rfl
theorem BW {α : Type} (q : List (Int × List α)) (n m : Int) (hn : (q.map Prod.fst).Nodup) : rowAt (lH q n) m = if n = m then [] else rowAt q m := by
 unfold rowAt; rw [I5 q n m hn]; split <;> rfl
def m5 {α : Type} : List (Int × List α) → Int
  | [] => 0
  | x :: l => x.2.length + m5 l
theorem zq {α : Type} (q : List (Int × List α)) (n : Int) (r : List α) : m5 (cz q n r) = m5 q - (rowAt q n).length + r.length := by
  induction q with
  | nil => simp [cz, m5, rowAt, bU]
  | cons y l ih =>
    simp only [cz]
    by_cases e : y.1 = n
    · rw [if_pos e]; simp only [m5, rowAt, bU, if_pos e, Option.getD_some]; omega
    · rw [if_neg e]; simp only [m5, ih]
      have : rowAt (y :: l) n = rowAt l n := by simp only [rowAt, bU, if_neg e]
      rw [this]; omega
theorem E2 {α : Type} (q : List (Int × List α)) (n : Int) : m5 (lH q n) = m5 q - (rowAt q n).length := by
  induction q with
  | nil => simp [lH, m5, rowAt, bU]
  | cons y l ih =>
    rw [rE]
    by_cases e : y.1 = n
    · rw [if_pos e]; simp only [m5, rowAt, bU, if_pos e, Option.getD_some]; omega
    · rw [if_neg e]; simp only [m5, ih]
      have : rowAt (y :: l) n = rowAt l n := by simp only [rowAt, bU, if_neg e]
      rw [this]; omega
theorem qM {α : Type} : ∀ (q : List (Int × List α)), 0 ≤ m5 q
  | [] => Int.le_refl _
  | x :: l => by have := qM l; simp only [m5]; omega
theorem zO {α : Type} (q : List (Int × List α)) (n : Int) : (rowAt q n).length ≤ m5 q := by
 have h1 := E2 q n
 have h2 := qM (lH q n)
 omega
theorem E1 {α : Type} : ∀ (q : List (Int × List α)), 0 < m5 q → (q.map Prod.fst).Nodup → ∃ m, rowAt q m ≠ []
  | [], h, _ => by cases h
  | x :: l, h, hn => by
    rw [List.map_cons, List.nodup_cons] at hn
    by_cases e : x.2 = []
    · have : 0 < m5 l := by simp only [m5, e, List.length_nil] at h; omega
      obtain ⟨m, hm⟩ := E1 l this hn.2
      refine ⟨m, ?_⟩
      have hne : x.1 ≠ m := fun e2 => hm (by unfold rowAt; rw [D4 (by rw [← e2]; exact hn.1)]; rfl)
      simp only [rowAt, bU, if_neg hne]; exact hm
    · exact ⟨x.1, by simp only [rowAt, bU, if_pos]; exact e⟩
theorem Bx {α : Type} [DecidableEq α] : ∀ {l L : List α}, l.Nodup → (∀ x ∈ l, x ∈ L) → l.length ≤ L.length
  | [], _, _, _ => Nat.zero_le _
  | x :: l, L, hn, h => by
    rw [List.nodup_cons] at hn
    have h1 := List.length_erase_of_mem (h x List.mem_cons_self)
    have h2 := Bx (l := l) (L := L.erase x) hn.2 fun y hy => (List.mem_erase_of_ne (fun (e : y = x) => hn.1 (by rw [← e]; exact hy))).2 (h y (List.mem_cons_of_mem _ hy))
    have h3 := List.length_pos_of_mem (h x List.mem_cons_self)
    simp only [List.length_cons]; omega
def Ig : Nat → List (List Int)
  | 0 => [[]]
  | n + 1 => (List.range 7).flatMap fun (k : Nat) => (Ig n).map fun l => (k : Int) :: l
theorem DV : ∀ {n : Nat} {l : List Int}, l.length = n → (∀ x ∈ l, 0 ≤ x ∧ x < 7) → l ∈ Ig n
  | 0, l, h, _ => by rw [List.length_eq_zero_iff.1 h]; exact List.mem_singleton.2 rfl
  | n + 1, [], h, _ => by cases h
  | n + 1, x :: l, h, hr => by
    have hx := hr x List.mem_cons_self
    exact List.mem_flatMap.2 ⟨x.toNat, List.mem_range.2 (by omega), List.mem_map.2 ⟨l, DV (by simpa using h) fun y hy => hr y (List.mem_cons_of_mem _ hy), by rw [show ((x.toNat : Nat) : Int) = x by omega]⟩⟩
def dA : Nat := (Ig 6).length
abbrev Pl := JX 6
instance : Inhabited Pl := ⟨⟨[0, 0, 0, 0, 0, 0], rfl⟩⟩
def bf (p : Pl) (t : bu) : Pl := ⟨p.1.set t.cJ.toNat t.aim, by rw [List.length_set]; exact p.2⟩
def gZ (b : aW) (p : Pl) (k : Int) : Bool := (p.1.take b.lots.length).any fun n => decide (n = k)
def ir (b : aW) (p : Pl) (k : Nat) : List bu := if gZ b p k = true then [] else ((List.range b.lots.length).filter fun (i : Nat) => b.hold k i).map fun (i : Nat) => ⟨i, k⟩
def ay (b : aW) (p : Pl) : List bu := (List.range b.sizes.length).flatMap (ir b p)
theorem wV {b : aW} {p : Pl} {k : Nat} {t : bu} : t ∈ ir b p k ↔ t.aim = k ∧ 0 ≤ t.cJ ∧ t.cJ < b.lots.length ∧ gZ b p k = false ∧ b.hold k t.cJ = true := by
  unfold ir
  cases h : gZ b p k with
  | true => simp
  | false =>
    rw [if_neg (by decide), List.mem_map]
    simp only [List.mem_filter, List.mem_range]
    constructor
    · rintro ⟨i, ⟨h1, h2⟩, rfl⟩
      exact ⟨rfl, by show 0 ≤ (i : Int); omega, by show (i : Int) < _; omega, by first | rfl | trivial, h2⟩
    · rintro ⟨h1, h2, h3, _, h4⟩
      refine ⟨t.cJ.toNat, ⟨by omega, by rw [show ((t.cJ.toNat : Nat) : Int) = t.cJ by omega]; exact h4⟩, ?_⟩
      cases t; simp only [bu.mk.injEq] at *; exact ⟨by omega, h1.symm⟩
theorem eG {b : aW} {p : Pl} {t : bu} : t ∈ ay b p ↔ 0 ≤ t.cJ ∧ t.cJ < b.lots.length ∧ 0 ≤ t.aim ∧ t.aim < b.sizes.length ∧ gZ b p t.aim = false ∧ b.hold t.aim t.cJ = true := by
 unfold ay
 rw [List.mem_flatMap]
 constructor
 ·rintro ⟨k, hk, h⟩
  rw [List.mem_range] at hk
  obtain ⟨h1, h2, h3, h4, h5⟩ := wV.1 h
  rw [h1]
  exact ⟨h2, h3, by omega, by omega, h4, h5⟩
 rintro ⟨h1, h2, h3, h4, h5, h6⟩
 have e : ((t.aim.toNat : Nat) : Int) = t.aim := by omega
 exact ⟨t.aim.toNat, List.mem_range.2 (by omega), wV.2 ⟨e.symm, h1, h2, by rw [e]; exact h5, by rw [e]; exact h6⟩⟩
def dj (b : aW) (p : Pl) : Bool := (List.range b.lots.length).all fun i => decide ((nth b.lots i).aim = -1) || decide ((nth b.lots i).aim = nth p.1 i)
def bE (b : aW) : Pl := ⟨((b.lots.map fun (l : p4) => l.inn) ++ List.replicate 6 (0 : Int)).take 6, by rw [List.length_take, List.length_append, List.length_replicate]; omega⟩
def mw (b : aW) : Pl → List bu → Option Pl
  | p, [] => some p
  | p, t :: l => if t ∈ ay b p then mw b (bf p t) l else none
theorem mW (b : aW) : ∀ (l : List bu) (p : Pl) (l' : List bu), mw b p (l ++ l') = (mw b p l).bind fun q => mw b q l'
  | [], p, l' => rfl
  | t :: l, p, l' => by
    show (if t ∈ ay b p then mw b (bf p t) (l ++ l') else none) = Option.bind (if t ∈ ay b p then mw b (bf p t) l else none) _
    by_cases h : t ∈ ay b p
    · rw [if_pos h, if_pos h, mW b l (bf p t) l']
    · rw [if_neg h, if_neg h]; rfl
theorem Nl {b : aW} {p : Pl} {t : bu} (h : t ∈ ay b p) : mw b p [t] = some (bf p t) := if_pos h
theorem yW {b : aW} {p q : Pl} {l : List bu} {t : bu} (h1 : mw b p l = some q) (h2 : t ∈ ay b q) : mw b p (l ++ [t]) = some (bf q t) := by
 rw [mW, h1]; exact Nl h2
theorem oU {b : aW} {p r : Pl} {l : List bu} {t : bu} (h : mw b p (l ++ [t]) = some r) : ∃ q, mw b p l = some q ∧ t ∈ ay b q ∧ r = bf q t := by
  rw [mW] at h
  cases h1 : mw b p l with
  | none => rw [h1] at h; cases h
  | some q =>
    rw [h1] at h
    have h : (if t ∈ ay b q then some (bf q t) else none) = some r := h
    by_cases h2 : t ∈ ay b q
    · rw [if_pos h2] at h; injection h with h; exact ⟨q, rfl, h2, h.symm⟩
    · rw [if_neg h2] at h; cases h
def gz (c : bu → Int) (l : List bu) : Int := (l.map c).sum
theorem lQ (c : bu → Int) (l l' : List bu) : gz c (l ++ l') = gz c l + gz c l' := by
 unfold gz; rw [List.map_append, List.sum_append]
theorem rJ (c : bu → Int) (t : bu) : gz c [t] = c t := by simp [gz]
theorem Bt {α : Type} : ∀ (l : List α), l = [] ∨ ∃ l' x, l = l' ++ [x]
  | [] => .inl rfl
  | x :: l => by
    rcases Bt l with h | ⟨l', y, h⟩
    · subst h; exact .inr ⟨[], x, rfl⟩
    · subst h; exact .inr ⟨x :: l', y, rfl⟩
theorem nk {α : Type} {C : List α → Prop} (h0 : C []) (h1 : ∀ l x, C l → C (l ++ [x])) : ∀ l, C l := by
  intro l
  have key : ∀ n (l : List α), l.length = n → C l := by
    intro n
    induction n with
    | zero => intro l h; rw [List.length_eq_zero_iff.1 h]; exact h0
    | succ n ih =>
      intro l h
      rcases Bt l with e | ⟨l', x, e⟩
      · subst e; cases h
      · subst e; exact h1 l' x (ih l' (by simpa using h))
  exact key _ l rfl
def sW (p : Pl) : Prop := ∀ x ∈ p.1, 0 ≤ x ∧ x < 7
theorem yH {b : aW} (h : b.dD) : sW (bE b) := fun x hx => by
 have hx : x ∈ ((b.lots.map fun (l : p4) => l.inn) ++ List.replicate 6 (0 : Int)).take 6 := hx
 rcases List.mem_append.1 (List.mem_of_mem_take hx) with hx | hx
 ·obtain ⟨l, hl, rfl⟩ := List.mem_map.1 hx
  have h1 := h.inn l hl; have h2 := h.bins; omega
 rw [List.eq_of_mem_replicate hx]; omega
theorem F3 {b : aW} (h : b.dD) {p : Pl} {t : bu} (hp : sW p) (ht : t ∈ ay b p) : sW (bf p t) := fun x hx => by
 rcases List.mem_or_eq_of_mem_set hx with hx | hx
 ·exact hp x hx
 have h1 := eG.1 ht; have h2 := h.bins; omega
theorem zG {b : aW} (h : b.dD) : ∀ (l : List bu) {p q : Pl}, sW p → mw b p l = some q → sW q
  | [], p, q, hp, e => by injection e with e; exact e ▸ hp
  | t :: l, p, q, hp, e => by
    have e : (if t ∈ ay b p then mw b (bf p t) l else none) = some q := e
    by_cases ht : t ∈ ay b p
    · rw [if_pos ht] at e; exact zG h l (F3 h hp ht) e
    · rw [if_neg ht] at e; cases e
theorem zI {l : List Pl} (hn : l.Nodup) (h : ∀ p ∈ l, sW p) : l.length ≤ dA := by
 have := Bx (l := l.map Subtype.val) (L := Ig 6) (by
  rw [List.nodup_iff_pairwise_ne, List.pairwise_map]
  exact hn.imp fun hab e => hab (Subtype.ext e)) fun x hx => by
   obtain ⟨p, hp, rfl⟩ := List.mem_map.1 hx
   exact DV p.2 (h p hp)
 rwa [List.length_map] at this
theorem DZ (b : aW) (p : Pl) (k : Nat) : (ir b p k).length ≤ b.lots.length := by
 unfold ir
 split
 ·exact Nat.zero_le _
 rw [List.length_map]; exact Nat.le_trans (List.length_filter_le _ _) (by simp)
theorem cg {α β : Type} (f : α → List β) (m : Nat) (h : ∀ x, (f x).length ≤ m) : ∀ l : List α, (l.flatMap f).length ≤ l.length * m
  | [] => Nat.zero_le _
  | x :: l => by
    have h1 := cg f m h l
    have h2 := h x
    rw [List.flatMap_cons, List.length_append, List.length_cons, Nat.succ_mul]; omega
theorem sH {b : aW} (h : b.dD) (p : Pl) : (ay b p).length ≤ 42 := by
 have h1 := cg (ir b p) b.lots.length (DZ b p) (List.range b.sizes.length)
 rw [List.length_range] at h1
 have h2 : b.sizes.length * b.lots.length ≤ 7 * 6 := Nat.mul_le_mul h.bins.2 h.lots
 exact Nat.le_trans h1 h2
attribute [irreducible] dA
end Go.Proofs.YtmmcenjknimhbaaGreat
