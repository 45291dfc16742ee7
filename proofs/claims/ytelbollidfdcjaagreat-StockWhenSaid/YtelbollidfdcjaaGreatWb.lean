/- Lemmas: the program and the reference walked, plain laws. -/
import Derived.Test.YtelbollidfdcjaaGreatWa
namespace Go.T
open Go Go.RowKit
def mget {κ β : Type} [DecidableEq κ] : List (κ × β) → κ → Option β
  | [], _ => none
  | x :: l, k => if x.1 = k then some x.2 else mget l k
def mput {κ β : Type} [DecidableEq κ] : List (κ × β) → κ → β → List (κ × β)
  | [], k, v => [(k, v)]
  | x :: l, k, v => if x.1 = k then (k, v) :: l else x :: mput l k v
theorem mget_mput {κ β : Type} [DecidableEq κ] (l : List (κ × β)) (k : κ) (v : β) (k' : κ) : mget (mput l k v) k' = if k = k' then some v else mget l k' := by
  induction l with
  | nil => simp [mput, mget]
  | cons x l ih =>
    simp only [mput]
    by_cases h : x.1 = k
    · subst h; simp only [if_true, mget]; by_cases h2 : x.1 = k' <;> simp [h2]
    · rw [if_neg h]; simp only [mget, ih]
      by_cases h2 : x.1 = k'
      · subst h2; rw [if_pos rfl, if_pos rfl, if_neg (fun e => h e.symm)]
      · rw [if_neg h2, if_neg h2]
def mpos {κ β : Type} [DecidableEq κ] : List (κ × β) → κ → Option Nat
  | [], _ => none
  | x :: l, k => if x.1 = k then some 0 else (mpos l k).map (· + 1)
structure KeyK (P : Program) (kt : TypeId) (κ : Type) [DecidableEq κ] where
  enc : κ → Value
  find : ∀ (k : κ) (ks : List κ) (es : List MapEntry) (w : World), es.map (·.key) = ks.map enc →
    (Instr.findKey kt (enc k) es).run P w = .ok ((ks.findIdx? (fun x => decide (x = k))).bind fun i => (es[i]?).map fun e => (i, e.val)) w
  check : ∀ (b : Bool) (k : κ) (w : World), (Instr.checkKey b 10000 kt (enc k)).run P w = .ok () w
  same : ∀ k, Instr.sameBits 10000 (enc k) (enc k) = true
theorem findNow_int (kt : IntKind) (k : Int) : ∀ (ks : List Int) (es : List MapEntry) (i : Nat), es.map (·.key) = ks.map (Value.int kt) →
    Instr.findNow (.int kt) (.int kt k) es i = some ((ks.findIdx? (fun x => decide (x = k))).bind fun j => (es[j]?).map fun e => (i + j, e.val))
  | [], [], i, _ => rfl
  | [], e :: es, i, h => by cases h
  | x :: ks, [], i, h => by cases h
  | x :: ks, e :: es, i, h => by
    simp only [List.map_cons, List.cons.injEq] at h
    obtain ⟨h1, h2⟩ := h
    rw [Instr.findNow, h1]
    simp only [Instr.sameNow, if_true]
    by_cases hx : x = k
    · subst hx; simp [List.findIdx?_cons]
    · have hb : (k == x) = false := by rw [beq_eq_false_iff_ne]; exact fun e => hx e.symm
      rw [hb, findNow_int kt k ks es (i + 1) h2]
      simp only [List.findIdx?_cons, decide_eq_false hx, Bool.false_eq_true, if_false]
      cases (ks.findIdx? fun x => decide (x = k)) with
      | none => rfl
      | some j => simp [Nat.add_assoc, Nat.add_comm]; rw [show j + (i + 1) = i + (j + 1) from by omega]
theorem check_int {P : Program} (kt : TypeId) (q : IntKind) (h : P.underlying kt = some (.int q)) (b : Bool) (k : Int) (n : Nat) (w : World) : (Instr.checkKey b (n + 1) kt (.int q k)).run P w = .ok () w := by simp [Instr.checkKey, underlying, h]
theorem same_int (q : IntKind) (k : Int) (n : Nat) : Instr.sameBits n (.int q k) (.int q k) = true := by cases n <;> simp [Instr.sameBits]
def intKey (P : Program) (kt : TypeId) (q : IntKind) (h : P.underlying kt = some (.int q)) : KeyK P kt Int where
  enc := Value.int q
  find k ks es w he := by
    have := findNow_int q k ks es 0 he
    simp [Instr.findKey, underlying, h, this]
  check b k w := check_int kt q h b k 9999 w
  same k := same_int q k 10000
section
variable {κ β : Type} [DecidableEq κ]
def mapAt (enc : κ → Value) (vt : β → Ty) (kvs : List (κ × β)) (w : World) (M : Tags) (b : Nat) : Prop :=
  ∃ es clock, w.heap[b]? = some (.map es clock) ∧ es.toList.map (·.key) = kvs.map (fun x => enc x.1) ∧ dens w M (kvs.map fun x => vt x.2) (es.toList.map (·.val))
theorem mapAt_mono {enc : κ → Value} {vt : β → Ty} (hv : ∀ v, (vt v).deps = [] ∧ (vt v).cdeps = []) {kvs : List (κ × β)} {S K : Nat → Prop} {w w' : World} {M M' : Tags} {b : Nat} (le : Le S K w M w' M') (hb : w'.heap[b]? = w.heap[b]?) (h : mapAt enc vt kvs w M b) : mapAt enc vt kvs w' M' b := by
  have _ := (inferInstance : DecidableEq κ)
  obtain ⟨es, clock, h1, h2, h3⟩ := h
  refine ⟨es, clock, hb.trans h1, h2, dens_mono le (fun u hu => ?_) (fun u hu => ?_) h3⟩
  · simp only [depsOf, List.mem_flatMap, List.mem_map] at hu
    obtain ⟨t, ⟨x, _, rfl⟩, hu⟩ := hu
    rw [(hv x.2).1] at hu; cases hu
  · simp only [cdepsOf, List.mem_flatMap, List.mem_map] at hu
    obtain ⟨t, ⟨x, _, rfl⟩, hu⟩ := hu
    rw [(hv x.2).2] at hu; cases hu
structure VT (β : Type) where
  ty : β → Ty
  nodeps : ∀ v, (ty v).deps = [] ∧ (ty v).cdeps = []
def VI64 : VT Int := ⟨fun n => Ty.int .i64 n, fun _ => ⟨rfl, rfl⟩⟩
def VBool : VT Bool := ⟨fun b => Ty.bool b, fun _ => ⟨rfl, rfl⟩⟩
def dMap (enc : κ → Value) (V : VT β) (kvs : List (κ × β)) (w : World) (M : Tags) (t : Nat) : Prop := ∃ b, M b = some t ∧ mapAt enc V.ty kvs w M b
def Cont.mp (enc : κ → Value) (V : VT β) (kvs : List (κ × β)) : Cont :=
  { den := dMap enc V kvs
    mono := fun le _ _ hs hk ⟨b, h1, h2⟩ => let ⟨h3, h4⟩ := le.own b _ h1 hk; ⟨b, h3, mapAt_mono V.nodeps le (h4 hs) h2⟩ }
theorem Cont.sub_mp {enc : κ → Value} {V : VT β} {k1 k2 : List (κ × β)} (h : k1 = k2) : (Cont.mp enc V k1).Sub (Cont.mp enc V k2) := by subst h; exact Cont.sub_refl _
def dMp (tg : Nat) (_ : World) (M : Tags) (v : Value) : Prop := ∃ b, v = .map (some b) ∧ M b = some tg
def Ty.mp (tg : Nat) : Ty := ⟨dMp tg, [tg], [], fun le hk _ ⟨b, e, h⟩ => ⟨b, e, (le.own b tg h (hk tg (by simp))).1⟩, true, fun _ ⟨_, e, _⟩ => e ▸ rfl⟩
def dPm (enc : κ → Value) (V : VT β) (kvs : List (κ × β)) (w : World) (M : Tags) (v : Value) : Prop := ∃ b, v = .map (some b) ∧ M b = none ∧ b < w.heap.size ∧ mapAt enc V.ty kvs w M b
def Ty.pm (enc : κ → Value) (V : VT β) (kvs : List (κ × β)) : Ty := ⟨dPm enc V kvs, [], [], fun le _ _ ⟨b, e, h, hb, h2⟩ => let ⟨h3, h4⟩ := le.pub b hb h; ⟨b, e, h3, Nat.lt_of_lt_of_le hb le.size, mapAt_mono V.nodeps le h4 h2⟩, true, fun _ ⟨_, e, _⟩ => e ▸ rfl⟩
end
section
variable {P : Program} {κ β : Type} [DecidableEq κ]
theorem mget_pos (kvs : List (κ × β)) (k : κ) (i : Nat) (h : (kvs.map Prod.fst).findIdx? (fun x => decide (x = k)) = some i) : ∃ v, kvs[i]? = some (k, v) ∧ mget kvs k = some v ∧ ∀ z, mput kvs k z = kvs.set i (k, z) := by
  induction kvs generalizing i with
  | nil => cases h
  | cons x l ih =>
    rw [List.map_cons, List.findIdx?_cons] at h
    by_cases hx : x.1 = k
    · subst hx
      simp at h; subst h
      exact ⟨x.2, by simp, by simp [mget], fun z => by simp [mput]⟩
    · rw [decide_eq_false hx] at h
      simp only [Bool.false_eq_true, if_false, Option.map_eq_some_iff] at h
      obtain ⟨j, hj, rfl⟩ := h
      obtain ⟨v, h1, h2, h3⟩ := ih j hj
      exact ⟨v, by simpa using h1, by simp [mget, hx, h2], fun z => by simp [mput, hx, h3]⟩
theorem mget_none (kvs : List (κ × β)) (k : κ) (h : (kvs.map Prod.fst).findIdx? (fun x => decide (x = k)) = none) : mget kvs k = none ∧ ∀ z, mput kvs k z = kvs ++ [(k, z)] := by
  induction kvs with
  | nil => exact ⟨rfl, fun _ => rfl⟩
  | cons x l ih =>
    rw [List.map_cons, List.findIdx?_cons] at h
    by_cases hx : x.1 = k
    · simp [hx] at h
    · rw [decide_eq_false hx] at h
      simp only [Bool.false_eq_true, if_false, Option.map_eq_none_iff] at h
      obtain ⟨h1, h2⟩ := ih h
      exact ⟨by simp [mget, hx, h1], fun z => by simp [mput, hx, h2]⟩
theorem run_find {kt : TypeId} (KK : KeyK P kt κ) {vt : β → Ty} {kvs : List (κ × β)} {w : World} {M : Tags} {es : Array MapEntry} (h2 : es.toList.map (·.key) = kvs.map (fun x => KK.enc x.1)) (h3 : dens w M (kvs.map fun x => vt x.2) (es.toList.map (·.val))) (k : κ) :
    (∃ i v e, (kvs.map Prod.fst).findIdx? (fun x => decide (x = k)) = some i ∧ mget kvs k = some v ∧ es[i]? = some e ∧ e.key = KK.enc k ∧ (vt v).den w M e.val ∧ (Instr.findKey kt (KK.enc k) es.toList).run P w = .ok (some (i, e.val)) w) ∨
    ((kvs.map Prod.fst).findIdx? (fun x => decide (x = k)) = none ∧ mget kvs k = none ∧ (Instr.findKey kt (KK.enc k) es.toList).run P w = .ok none w) := by
  have hf := KK.find k (kvs.map Prod.fst) es.toList w (by rw [h2, List.map_map]; rfl)
  cases hi : (kvs.map Prod.fst).findIdx? (fun x => decide (x = k)) with
  | none => right; rw [hi] at hf; exact ⟨rfl, (mget_none kvs k hi).1, hf⟩
  | some i =>
    left
    rw [hi] at hf
    obtain ⟨v, hv, hg, _⟩ := mget_pos kvs k i hi
    have hl : i < es.toList.length := by
      have := congrArg List.length h2
      rw [List.length_map, List.length_map] at this
      rw [this]; exact (List.getElem?_eq_some_iff.1 hv).1
    obtain ⟨u, hu, hd⟩ := dens_get h3 i (vt v) (by rw [List.getElem?_map, hv]; rfl)
    rw [List.getElem?_map, List.getElem?_eq_getElem hl] at hu
    injection hu with hu
    have hk := congrArg (fun l : List Value => l[i]?) h2
    simp only [List.getElem?_map, hv, List.getElem?_eq_getElem hl, Option.map_some] at hk
    injection hk with hk
    refine ⟨i, v, es.toList[i], rfl, hg, ?_, hk, hu ▸ hd, ?_⟩
    · rw [← Array.getElem?_toList, List.getElem?_eq_getElem hl]
    · rw [hf]; show Result.ok ((es.toList[i]?).map _) w = _; rw [List.getElem?_eq_getElem hl]; rfl
end
def zeroOf (P : Program) (t : TypeId) : Option Value := (P.info? t).bind (·.zero)
theorem run_zeroOf {P : Program} {t : TypeId} {z : Value} (h : zeroOf P t = some z) (w : World) : (zeroValue t).run P w = .ok z w := by
  unfold zeroOf at h
  cases hi : P.info? t with
  | none => rw [hi] at h; cases h
  | some i =>
    rw [hi] at h
    have h' : i.zero = some z := h
    simp [zeroValue, typeInfo, hi, h']
def mapOf (P : Program) (t : TypeId) : Option (TypeId × TypeId) := match P.underlying t with | some (.map k e) => some (k, e) | _ => none
theorem mapOf_und {P : Program} {t k e : TypeId} (h : mapOf P t = some (k, e)) : P.underlying t = some (.map k e) := by
  unfold mapOf at h
  split at h
  · rename_i k' e' hu; injection h with h; injection h with h1 h2; subst h1; subst h2; exact hu
  · cases h
section
variable {P : Program} {fr : Fr} {ops : Array Oper} {A : As} {rest : List Oper} {K : As → List (As × Fx) → Prop} {d : Nat} {t mt kt et : TypeId} {p : String} {e : Array Edge}
variable {κ β : Type} [DecidableEq κ]
theorem r_makeMap (enc : κ → Value) (V : VT β) (hm : mapOf P mt = some (kt, et)) (hp : fr.pass.contains (d + 1) = false)
    (h : TOps P fr ops rest (A.after { d := some d, ty := .mp (d + 1), K := [d + 1], sets := [(d + 1, .mp enc V [])] }) fun A' l' => K A' ((A, { d := some d, ty := .mp (d + 1), K := [d + 1], sets := [(d + 1, .mp enc V [])] }) :: l')) :
    TOps P fr ops (⟨some d, .makeMap mt none, t, p, e, none⟩ :: rest) A K := by
  refine ⟨_, ⟨rfl, (by simp), (by simp), (fun u hu => ?_), fun a w M wf _ _ _ => ?_⟩, h⟩
  · rw [List.mem_singleton.1 hu]; exact ⟨by omega, by simpa using hp⟩
  rw [if_pos (by simp [Region.wanted])]
  have hrun : (execOp a.eval ⟨some d, .makeMap mt none, t, p, e, none⟩).run P w = .ok (.value (.map (some w.heap.size))) { w with heap := w.heap.push (.map #[] 0) } := by
    simp [execOp, Instr.makeMap, newObj, Sem.run]
  refine wp_in_value hrun ?_
  refine ⟨_, rfl, fun b => if b = w.heap.size then some (d + 1) else if M b = some (d + 1) then none else M b, ⟨fun b u hb => ?_, fun b b' u ht1 hb hb' => ?_⟩, ⟨by simp, rfl, rfl, rfl, fun b hlt hm => ⟨?_, ?_⟩, fun b u hm hk => ⟨?_, fun _ => ?_⟩⟩, ⟨_, rfl, by simp⟩, fun x hx => ?_⟩
  · simp only [Array.size_push]
    split at hb
    · omega
    · split at hb
      · cases hb
      · have := wf.lt b u hb; omega
  · by_cases h1 : b = w.heap.size <;> by_cases h2 : b' = w.heap.size
    · rw [h1, h2]
    · exfalso
      simp only [h1, h2, if_true, if_false] at hb hb'
      injection hb with hb
      split at hb'
      · cases hb'
      · rename_i hn; rw [← hb] at hb'; exact hn hb'
    · exfalso
      simp only [h1, h2, if_true, if_false] at hb hb'
      injection hb' with hb'
      split at hb
      · cases hb
      · rename_i hn; rw [← hb'] at hb; exact hn hb
    · simp only [h1, h2, if_false] at hb hb'
      split at hb
      · cases hb
      · split at hb'
        · cases hb'
        · exact wf.inj b b' u ht1 hb hb'
  · rw [if_neg (by omega), if_neg (by rw [hm]; simp)]; exact hm
  · simp [Array.getElem?_push]; intro h; omega
  · have hlt := wf.lt b u hm
    rw [if_neg (by omega), if_neg (by rw [hm]; intro h; injection h with h; exact hk (by simp [h]))]; exact hm
  · have hlt := wf.lt b u hm
    simp [Array.getElem?_push]; intro h; omega
  · rw [List.mem_singleton.1 hx]
    exact ⟨w.heap.size, by simp, #[], 0, by simp, rfl, trivial⟩
theorem run_lookup {w : World} {M : Tags} {b : Nat} (KK : KeyK P kt κ) (V : VT β) {kvs : List (κ × β)} {z0 : β} {zv : Value} (hm : mapOf P mt = some (kt, et)) (hz : zeroOf P et = some zv) (hzd : (V.ty z0).den w M zv) (h : mapAt KK.enc V.ty kvs w M b) (k : κ) :
    (∃ v, (Instr.lookup mt (.map (some b)) (KK.enc k) false).run P w = .ok v w ∧ (V.ty ((mget kvs k).getD z0)).den w M v) ∧
    ∃ v, (Instr.lookup mt (.map (some b)) (KK.enc k) true).run P w = .ok (.tuple #[v, .bool (mget kvs k).isSome]) w ∧ (V.ty ((mget kvs k).getD z0)).den w M v := by
  obtain ⟨es, clock, h1, h2, h3⟩ := h
  have hu := mapOf_und hm
  have hzr := run_zeroOf hz
  rcases run_find KK h2 h3 k with ⟨i, v, en, _, hg, _, _, hd, hf⟩ | ⟨_, hg, hf⟩
  · rw [hg]
    refine ⟨⟨en.val, ?_, hd⟩, en.val, ?_, hd⟩ <;> simp [Instr.lookup, underlying, hu, getObj, Sem.run, h1, KK.check, hf]
  · rw [hg]
    refine ⟨⟨zv, ?_, hzd⟩, zv, ?_, hzd⟩ <;> simp [Instr.lookup, underlying, hu, getObj, Sem.run, h1, KK.check, hf, hzr]
theorem mp_at {x : Operand} {tg : Nat} {enc : κ → Value} {V : VT β} {kvs : List (κ × β)} (hx : A.op fr x = .mp tg) (hc : A.tag tg = some (.mp enc V kvs)) (h1 : Tag1 tg) {a : Act} {w : World} {M : Tags} {rs : List Nat} (wf : Wf w M) (hr : ∀ c ∈ opR x, c ∈ rs) (hrd : ∀ c ∈ rs, c < fr.n → (A.slots c).den w M (a.tmps.getD c undef)) (htg : ∀ y ∈ A.tags, y.1 ∈ [tg] → y.2.den w M y.1) :
    ∃ b, a.eval x = .map (some b) ∧ M b = some tg ∧ mapAt enc V.ty kvs w M b := by
  have hxd := op_den hr hrd
  rw [hx] at hxd
  obtain ⟨b, e1, e2⟩ := hxd
  obtain ⟨b', h2, h3⟩ := htg _ (tag_mem hc) (by simp)
  obtain ⟨u, rfl⟩ : ∃ u, tg = u + 1 := ⟨tg - 1, by omega⟩
  have : b = b' := wf.inj b b' u (by omega) e2 h2
  subst this
  exact ⟨b, e1, e2, h3⟩
def KeyAt (kty : Ty) (v : Value) : Prop := ∀ w M x, kty.den w M x → x = v
theorem key_int {q : IntKind} {n : Int} : KeyAt (.int q n) (.int q n) := fun _ _ _ h => h
theorem r_lookup {x y : Operand} {tg : Nat} {kty : Ty} {k : κ} (KK : KeyK P kt κ) {V : VT β} {kvs : List (κ × β)} {z0 : β} {zv : Value} (hx : A.op fr x = .mp tg) (hc : A.tag tg = some (.mp KK.enc V kvs)) (h1 : Tag1 tg) (hy : A.op fr y = kty) (hk : KeyAt kty (KK.enc k)) (hm : mapOf P mt = some (kt, et)) (hz : zeroOf P et = some zv) (hzd : ∀ w M, (V.ty z0).den w M zv)
    (h : TOps P fr ops rest (A.set d (V.ty ((mget kvs k).getD z0))) fun A' l' => K A' ((A, { d := some d, ty := V.ty ((mget kvs k).getD z0), rs := opR x ++ opR y, rt := [tg] }) :: l')) :
    TOps P fr ops (⟨some d, .lookup mt x y false, t, p, e, none⟩ :: rest) A K :=
  tops_pure (opT_pure rfl rfl fun a w M wf hrd htg => by
    obtain ⟨b, e1, _, h3⟩ := mp_at hx hc h1 wf (fun c hc => List.mem_append_left _ hc) hrd htg
    have hyd := op_den (fun c hc => List.mem_append_right (opR x) hc) hrd
    rw [hy] at hyd
    obtain ⟨v, hv, hd⟩ := (run_lookup KK V hm hz (hzd w M) h3 k).1
    refine ⟨v, ?_, hd⟩
    simp only [execOp, e1, hk _ _ _ hyd]
    simp [hv]) h
theorem r_lookup2 {x y : Operand} {tg : Nat} {kty : Ty} {k : κ} (KK : KeyK P kt κ) {V : VT β} {kvs : List (κ × β)} {z0 : β} {zv : Value} (hx : A.op fr x = .mp tg) (hc : A.tag tg = some (.mp KK.enc V kvs)) (h1 : Tag1 tg) (hy : A.op fr y = kty) (hk : KeyAt kty (KK.enc k)) (hm : mapOf P mt = some (kt, et)) (hz : zeroOf P et = some zv) (hzd : ∀ w M, (V.ty z0).den w M zv)
    (h : TOps P fr ops rest (A.set d (.tup [V.ty ((mget kvs k).getD z0), .bool (mget kvs k).isSome])) fun A' l' => K A' ((A, { d := some d, ty := .tup [V.ty ((mget kvs k).getD z0), .bool (mget kvs k).isSome], rs := opR x ++ opR y, rt := [tg] }) :: l')) :
    TOps P fr ops (⟨some d, .lookup mt x y true, t, p, e, none⟩ :: rest) A K :=
  tops_pure (opT_pure rfl rfl fun a w M wf hrd htg => by
    obtain ⟨b, e1, _, h3⟩ := mp_at hx hc h1 wf (fun c hc => List.mem_append_left _ hc) hrd htg
    have hyd := op_den (fun c hc => List.mem_append_right (opR x) hc) hrd
    rw [hy] at hyd
    obtain ⟨v, hv, hd⟩ := (run_lookup KK V hm hz (hzd w M) h3 k).2
    refine ⟨.tuple #[v, .bool (mget kvs k).isSome], ?_, #[v, .bool (mget kvs k).isSome], rfl, hd, rfl, trivial⟩
    simp only [execOp, e1, hk _ _ _ hyd]
    simp [hv]) h
theorem r_lookupP {x y : Operand} {kty : Ty} {k : κ} (KK : KeyK P kt κ) {V : VT β} {kvs : List (κ × β)} {z0 : β} {zv : Value} (hx : A.op fr x = .pm KK.enc V kvs) (hy : A.op fr y = kty) (hk : KeyAt kty (KK.enc k)) (hm : mapOf P mt = some (kt, et)) (hz : zeroOf P et = some zv) (hzd : ∀ w M, (V.ty z0).den w M zv)
    (h : TOps P fr ops rest (A.set d (V.ty ((mget kvs k).getD z0))) fun A' l' => K A' ((A, { d := some d, ty := V.ty ((mget kvs k).getD z0), rs := opR x ++ opR y }) :: l')) :
    TOps P fr ops (⟨some d, .lookup mt x y false, t, p, e, none⟩ :: rest) A K :=
  tops_pure (opT_pure (rt := []) rfl rfl fun a w M wf hrd _ => by
    have hxd := op_den (fun c hc => List.mem_append_left (opR y) hc) hrd
    rw [hx] at hxd
    obtain ⟨b, e1, _, _, h3⟩ := hxd
    have hyd := op_den (fun c hc => List.mem_append_right (opR x) hc) hrd
    rw [hy] at hyd
    obtain ⟨v, hv, hd⟩ := (run_lookup KK V hm hz (hzd w M) h3 k).1
    refine ⟨v, ?_, hd⟩
    simp only [execOp, e1, hk _ _ _ hyd]
    simp [hv]) h
theorem r_mapUpdate {x y z : Operand} {tg : Nat} {kty vty : Ty} {k : κ} {v : β} (KK : KeyK P kt κ) {V : VT β} {kvs : List (κ × β)} (hx : A.op fr x = .mp tg) (hc : A.tag tg = some (.mp KK.enc V kvs)) (h1 : Tag1 tg) (hy : A.op fr y = kty) (hk : KeyAt kty (KK.enc k)) (hz : A.op fr z = vty) (hv : vty = V.ty v) (hm : mapOf P mt = some (kt, et))
    (h : TOps P fr ops rest (A.after { d := none, S := [tg], sets := [(tg, .mp KK.enc V (mput kvs k v))], rs := opR x ++ (opR y ++ opR z), rt := [tg] }) fun A' l' => K A' ((A, { d := none, S := [tg], sets := [(tg, .mp KK.enc V (mput kvs k v))], rs := opR x ++ (opR y ++ opR z), rt := [tg] }) :: l')) :
    TOps P fr ops (⟨none, .mapUpdate mt x y z, t, p, e, none⟩ :: rest) A K := by
  subst hv
  refine ⟨_, ⟨rfl, (fun x hx => .inl (by rw [List.mem_singleton.1 hx]; exact List.mem_singleton.2 rfl)), (fun u hu => by rw [List.mem_singleton.1 hu]; exact h1.1), (by simp), fun a w M wf _ hrd htg => ?_⟩, h⟩
  rw [if_pos (by simp [Region.wanted])]
  obtain ⟨b, e1, e2, es, clock, h3, h4, h5⟩ := mp_at hx hc h1 wf (fun c hc => List.mem_append_left _ hc) hrd htg
  have hyd := op_den (fun c hc => List.mem_append_right (opR x) (List.mem_append_left (opR z) hc)) hrd
  have hzd := op_den (fun c hc => List.mem_append_right (opR x) (List.mem_append_right (opR y) hc)) hrd
  rw [hy] at hyd
  rw [hz] at hzd
  have hu := mapOf_und hm
  have hblt : b < w.heap.size := wf.lt b _ e2
  -- whatever is put there
  have fin : ∀ (es' : Array MapEntry) (clock' : Nat), es'.toList.map (·.key) = (mput kvs k v).map (fun x => KK.enc x.1) → dens w M ((mput kvs k v).map fun x => V.ty x.2) (es'.toList.map (·.val)) →
      (Instr.mapUpdate mt (.map (some b)) (KK.enc k) (a.eval z)).run P w = .ok () { w with heap := w.heap.setIfInBounds b (.map es' clock') } →
      Oper.wpIn fr.kd.fence 0 P ⟨none, .mapUpdate mt x y z, t, p, e, none⟩ a w (fun a' w' => ∃ v', a' = a.put none v' ∧ Fx.left { d := none, S := [tg], sets := [(tg, .mp KK.enc V (mput kvs k v))], rs := opR x ++ (opR y ++ opR z), rt := [tg] } w M w' v') (fun _ _ _ => False) := by
    intro es' clock' hk' hd' hrun
    have hr : (execOp a.eval ⟨none, .mapUpdate mt x y z, t, p, e, none⟩).run P w = .ok .skip { w with heap := w.heap.setIfInBounds b (.map es' clock') } := by
      simp only [execOp, e1, hk _ _ _ hyd]
      simp [hrun]
    refine wp_in_skip hr ?_
    have le : Le (· ∈ [tg]) (· ∈ ([] : List Nat)) w M { w with heap := w.heap.setIfInBounds b (.map es' clock') } M := by
      refine ⟨by simp, rfl, rfl, rfl, fun b2 hlt hm2 => ⟨hm2, ?_⟩, fun b2 u hm2 _ => ⟨hm2, fun hs => ?_⟩⟩
      · have : b ≠ b2 := fun h => by subst h; rw [e2] at hm2; cases hm2
        simp [Array.getElem?_setIfInBounds, this]
      · have : b ≠ b2 := fun h => by subst h; rw [e2] at hm2; injection hm2 with hm2; exact hs (by simp [hm2])
        simp [Array.getElem?_setIfInBounds, this]
    refine ⟨undef, rfl, M, ⟨fun b2 u h => by simpa using wf.lt b2 u h, wf.inj⟩, le, trivial, fun x hx => ?_⟩
    rw [List.mem_singleton.1 hx]
    refine ⟨b, e2, es', clock', by simp [hblt], hk', ?_⟩
    refine dens_mono le (fun _ _ => by simp) (fun u hu => ?_) hd'
    simp only [cdepsOf, List.mem_flatMap, List.mem_map] at hu
    obtain ⟨t', ⟨x', _, rfl⟩, hu⟩ := hu
    rw [(V.nodeps x'.2).2] at hu; cases hu
  rcases run_find KK h4 h5 k with ⟨i, v0, en, hi, hg, hen, hkey, hd, hf⟩ | ⟨hi, hg, hf⟩
  · obtain ⟨v1, hv1, _, hput⟩ := mget_pos kvs k i hi
    have hil : i < es.size := (Array.getElem?_eq_some_iff.1 hen).1
    refine fin (es.modify i fun e => { e with key := KK.enc k, val := a.eval z }) clock ?_ ?_ ?_
    · rw [hput, List.map_set]
      have : (es.modify i fun e => { e with key := KK.enc k, val := a.eval z }).toList = es.toList.set i { en with key := KK.enc k, val := a.eval z } := by
        rw [Array.toList_modify, List.modify_eq_set, Array.getElem?_toList, hen]; rfl
      rw [this, List.map_set, h4]
    · rw [hput, List.map_set]
      have : (es.modify i fun e => { e with key := KK.enc k, val := a.eval z }).toList = es.toList.set i { en with key := KK.enc k, val := a.eval z } := by
        rw [Array.toList_modify, List.modify_eq_set, Array.getElem?_toList, hen]; rfl
      rw [this, List.map_set]
      exact dens_set h5 hzd
    · simp [Instr.mapUpdate, underlying, hu, getObj, setObj, Sem.run, h3, KK.check, hf, hen, hkey, Instr.keyThatStays, KK.same]
  · obtain ⟨_, hput⟩ := mget_none kvs k hi
    refine fin (es.push { key := KK.enc k, val := a.eval z, born := clock }) (clock + 1) ?_ ?_ ?_
    · rw [hput]; simp [h4]
    · rw [hput]; simp only [Array.toList_push, List.map_append, List.map_cons, List.map_nil]
      exact dens_append h5 ⟨hzd, trivial⟩
    · simp [Instr.mapUpdate, underlying, hu, getObj, setObj, Sem.run, h3, KK.check, hf]
end
section
variable {P : Program} {fr : Fr} {A : As} {Q : Exit → Act → World → Prop} {c : Code} {κ β : Type} [DecidableEq κ]
theorem pub_mp {enc : κ → Value} {V : VT β} {kvs : List (κ × β)} {tg s : Nat} (hx : A.slots s = .mp tg) (hc : A.tag tg = some (.mp enc V kvs)) (h1 : Tag1 tg) : PubTo A tg s (.pm enc V kvs) := by
  intro w M v wf ht hv
  rw [hx] at hv
  obtain ⟨b, e1, e2⟩ := hv
  obtain ⟨b', h2, h3⟩ := ht _ (tag_mem hc)
  obtain ⟨u, rfl⟩ : ∃ u, tg = u + 1 := ⟨tg - 1, by omega⟩
  have : b = b' := wf.inj b b' u (by omega) e2 h2
  subst this
  exact ⟨b, e1, by simp [pubTag, e2], wf.lt b _ e2, mapAt_mono V.nodeps (pubTag_le (tg := u + 1)) rfl h3⟩
end
end Go.T

namespace Go.Proofs.YtelbollidfdcjaaGreat
open Go Go.T
def fidx {α : Type} (p : α → Bool) (l : List α) : Int := match l.findIdx? p with | some i => (i : Int) | none => -1
theorem fidx_found {α : Type} {p : α → Bool} {l : List α} {k : Nat} (hk : k < l.length) (h : ∀ x ∈ l.take k, p x = false) (hp : p l[k] = true) : fidx p l = k := by
  have : l.findIdx? p = some k := by
    rw [List.findIdx?_eq_some_iff_getElem]
    refine ⟨hk, hp, fun j hj => ?_⟩
    have := h l[j] (by rw [List.mem_take_iff_getElem]; exact ⟨j, by omega, rfl⟩)
    simp [this]
  simp [fidx, this]
theorem fidx_none {α : Type} {p : α → Bool} {l : List α} (h : ∀ x ∈ l, p x = false) : fidx p l = -1 := by
  have : l.findIdx? p = none := by simpa using h
  simp [fidx, this]
theorem fidx_ge {α : Type} (p : α → Bool) (l : List α) : decide (0 ≤ fidx p l) = l.any p := by
  unfold fidx
  cases h : l.findIdx? p with
  | none =>
    rw [List.findIdx?_eq_none_iff] at h
    have : l.any p = false := by simpa using h
    rw [this]; rfl
  | some i =>
    have : l.any p = true := by
      rw [List.findIdx?_eq_some_iff_getElem] at h
      obtain ⟨hi, hp, _⟩ := h
      rw [List.any_eq_true]; exact ⟨_, List.getElem_mem hi, hp⟩
    rw [this]; simp
def inB (n lo hi : Int) : Bool := decide (n ≥ lo) && decide (n ≤ hi)
def offB (n lo hi : Int) : Bool := decide (n < lo) || decide (n > hi)
theorem inB_true {n lo hi : Int} : inB n lo hi = true ↔ lo ≤ n ∧ n ≤ hi := by unfold inB; simp
theorem ng {b : Bool} (h : b = false) : ¬ b = true := by rw [h]; decide
theorem mem_nth {α : Type} [Inhabited α] {l : List α} {x : α} (h : x ∈ l) : ∃ m, m < l.length ∧ x = nth l m := by
  obtain ⟨m, hm, e⟩ := List.getElem_of_mem h
  exact ⟨m, hm, by rw [nth_lt hm]; exact e.symm⟩
theorem nodup_bound : ∀ {n : Nat} {l : List Nat}, l.Nodup → (∀ y ∈ l, y < n) → l.length ≤ n
  | 0, l, _, hr => by
    cases l with
    | nil => simp
    | cons a _ => exact absurd (hr a List.mem_cons_self) (by omega)
  | n + 1, l, hn, hr => by
    by_cases h : n ∈ l
    · have h1 := List.length_erase_of_mem h
      have h2 := nodup_bound (n := n) (l := l.erase n) (hn.erase n) fun y hy => by
        have h3 := (hn.mem_erase_iff (a := y) (b := n)).1 hy
        have := hr y h3.2
        have := h3.1
        omega
      omega
    · have h2 := nodup_bound (n := n) (l := l) hn fun y hy => by
        have := hr y hy
        have : y ≠ n := fun e => h (e ▸ hy)
        omega
      omega
theorem nthA_set {α : Type} [Inhabited α] {l : List α} {i j : Nat} {v : α} (h : j < l.length) : nth (l.set i v) j = if i = j then v else nth l j := by
  unfold nth
  rw [List.getD_eq_getElem?_getD, List.getD_eq_getElem?_getD, List.getElem?_set]
  by_cases e : i = j
  · subst e; rw [if_pos rfl, if_pos rfl, if_pos h]; rfl
  · rw [if_neg e, if_neg e]
theorem list_snoc {α : Type} : ∀ (l : List α), l = [] ∨ ∃ l' x, l = l' ++ [x]
  | [] => .inl rfl
  | x :: l => by
    rcases list_snoc l with h | ⟨l', y, h⟩
    · subst h; exact .inr ⟨[], x, rfl⟩
    · subst h; exact .inr ⟨x :: l', y, rfl⟩
theorem snoc_ind {α : Type} {C : List α → Prop} (h0 : C []) (h1 : ∀ l x, C l → C (l ++ [x])) : ∀ l, C l := by
  intro l
  have key : ∀ n (l : List α), l.length = n → C l := by
    intro n
    induction n with
    | zero => intro l h; rw [List.length_eq_zero_iff.1 h]; exact h0
    | succ n ih =>
      intro l h
      rcases list_snoc l with e | ⟨l', x, e⟩
      · subst e; cases h
      · subst e; exact h1 l' x (ih l' (by simpa using h))
  exact key _ l rfl
section
variable {κ β : Type} [DecidableEq κ]
theorem mput_mem_keys (q : List (κ × β)) (k : κ) (v : β) (x : κ) : x ∈ (mput q k v).map Prod.fst ↔ x = k ∨ x ∈ q.map Prod.fst := by
  induction q with
  | nil => simp [mput]
  | cons y l ih =>
    simp only [mput]
    by_cases h : y.1 = k
    · subst h; simp
    · rw [if_neg h]; simp only [List.map_cons, List.mem_cons, ih]
      constructor
      · rintro (h | h | h)
        · exact .inr (.inl h)
        · exact .inl h
        · exact .inr (.inr h)
      · rintro (h | h | h)
        · exact .inr (.inl h)
        · exact .inl h
        · exact .inr (.inr h)
theorem mput_nodup (q : List (κ × β)) (k : κ) (v : β) (hn : (q.map Prod.fst).Nodup) : ((mput q k v).map Prod.fst).Nodup := by
  induction q with
  | nil => simp [mput]
  | cons y l ih =>
    rw [List.map_cons, List.nodup_cons] at hn
    simp only [mput]
    by_cases h : y.1 = k
    · subst h; rw [if_pos rfl, List.map_cons, List.nodup_cons]; exact hn
    · rw [if_neg h, List.map_cons, List.nodup_cons]
      refine ⟨fun hm => ?_, ih hn.2⟩
      rcases (mput_mem_keys l k v y.1).1 hm with e | e
      · exact h e
      · exact hn.1 e
theorem mget_some_mem {q : List (κ × β)} {k : κ} {v : β} (h : mget q k = some v) : k ∈ q.map Prod.fst := by
  induction q with
  | nil => cases h
  | cons y l ih =>
    simp only [mget] at h
    by_cases e : y.1 = k
    · subst e; simp
    · rw [if_neg e] at h; exact List.mem_cons_of_mem _ (ih h)
theorem mem_mget {q : List (κ × β)} {k : κ} (h : k ∈ q.map Prod.fst) : ∃ v, mget q k = some v := by
  induction q with
  | nil => cases h
  | cons y l ih =>
    simp only [mget]
    by_cases e : y.1 = k
    · exact ⟨_, if_pos e⟩
    · rw [if_neg e]; rw [List.map_cons, List.mem_cons] at h
      exact ih (h.resolve_left fun h => e h.symm)
theorem mput_len (q : List (κ × β)) (k : κ) (v : β) (h : mget q k = none) : (mput q k v).length = q.length + 1 := by
  induction q with
  | nil => rfl
  | cons y l ih =>
    simp only [mget] at h
    by_cases e : y.1 = k
    · rw [if_pos e] at h; cases h
    · rw [if_neg e] at h; simp only [mput, if_neg e, List.length_cons, ih h]
end
theorem nodup_boundI {n : Nat} {l : List Int} (h : l.Nodup) (hr : ∀ y ∈ l, 0 ≤ y ∧ y < (n : Int)) : l.length ≤ n := by
  have h1 : (l.map Int.toNat).Nodup := by
    rw [List.nodup_iff_pairwise_ne, List.pairwise_map]
    refine (List.nodup_iff_pairwise_ne.1 h).imp_of_mem fun {a b} ha hb hne e => hne ?_
    have := hr a ha; have := hr b hb; omega
  have h2 := nodup_bound (n := n) h1 fun y hy => by
    obtain ⟨z, hz, rfl⟩ := List.mem_map.1 hy
    have := hr z hz; omega
  rwa [List.length_map] at h2
section
variable {σ ρ : Type} [Inhabited ρ] {step : σ → σ ⊕ ρ} {x y : σ} {r s : ρ}
def runI (step : σ → σ ⊕ ρ) : Nat → σ → Option ρ
  | 0, _ => none
  | n + 1, x => match step x with | .inl y => runI step n y | .inr r => some r
def EndsI (step : σ → σ ⊕ ρ) (x : σ) (r : ρ) : Prop := ∃ n, runI step n x = some r
omit [Inhabited ρ] in
theorem runI_det : ∀ {n m : Nat} {x : σ}, runI step n x = some r → runI step m x = some s → r = s
  | 0, _, _, h, _ => by cases h
  | _ + 1, 0, _, _, h => by cases h
  | n + 1, m + 1, x, h, h' => by
    unfold runI at h h'
    cases e : step x with
    | inl y => rw [e] at h h'; exact runI_det h h'
    | inr t => rw [e] at h h'; injection h with h; injection h' with h'; rw [← h, h']
omit [Inhabited ρ] in
theorem EndsI.det (h : EndsI step x r) (h' : EndsI step x s) : r = s := let ⟨_, h⟩ := h; let ⟨_, h'⟩ := h'; runI_det h h'
noncomputable def outI (step : σ → σ ⊕ ρ) (x : σ) : ρ := open Classical in if h : ∃ r, EndsI step x r then h.choose else default
theorem outI_eq (h : EndsI step x r) : outI step x = r := by
  have hx : ∃ r, EndsI step x r := ⟨r, h⟩
  unfold outI; rw [dif_pos hx]; exact hx.choose_spec.det h
omit [Inhabited ρ] in
theorem endsI_stop (e : step x = .inr r) : EndsI step x r := ⟨1, by unfold runI; rw [e]⟩
theorem outI_stop (e : step x = .inr r) : outI step x = r := outI_eq (endsI_stop e)
omit [Inhabited ρ] in
theorem endsI_step (e : step x = .inl y) : EndsI step x r ↔ EndsI step y r := by
  constructor
  · rintro ⟨n, h⟩
    cases n with
    | zero => cases h
    | succ n => unfold runI at h; rw [e] at h; exact ⟨n, h⟩
  · rintro ⟨n, h⟩; exact ⟨n + 1, by unfold runI; rw [e]; exact h⟩
theorem outI_step (e : step x = .inl y) : outI step x = outI step y := by
  by_cases h : ∃ r, EndsI step y r
  · obtain ⟨r, h⟩ := h
    rw [outI_eq h, outI_eq ((endsI_step e).2 h)]
  · have h' : ¬ ∃ r, EndsI step x r := fun ⟨r, hr⟩ => h ⟨r, (endsI_step e).1 hr⟩
    unfold outI; rw [dif_neg h, dif_neg h']
theorem outI_ind (I : σ → Prop) (S : ρ → Prop) (mu : σ → Nat) (h : ∀ x, I x → (∃ y, step x = .inl y ∧ I y ∧ mu y < mu x) ∨ ∃ r, step x = .inr r ∧ S r) : ∀ x, I x → S (outI step x) := by
  have key : ∀ n x, mu x < n → I x → S (outI step x) := by
    intro n
    induction n with
    | zero => intro x hx; omega
    | succ n ih =>
      intro x hx hI
      rcases h x hI with ⟨y, e, hy, hm⟩ | ⟨r, e, hr⟩
      · rw [outI_step e]; exact ih y (by omega) hy
      · rw [outI_stop e]; exact hr
  exact fun x hx => key _ x (Nat.lt_succ_self _) hx
end
end Go.Proofs.YtelbollidfdcjaaGreat

namespace Go.Proofs.YtelbollidfdcjaaGreat
open Go Go.T
section
variable {fl : List Flow} {a : List Int} {n : Nat} {w u : Way} {c x y z by_ : Int}
def wayF (fl : List Flow) (a : List Int) (c : Int) (i : Nat) : List Way := (if nth a i < (nth fl i).hi ∧ (nth fl i).src = c then [⟨i, true⟩] else []) ++ (if nth a i > (nth fl i).lo ∧ (nth fl i).dst = c then [⟨i, false⟩] else [])
def waysL (fl : List Flow) (a : List Int) (c : Int) : List Way := (List.range fl.length).flatMap (wayF fl a c)
theorem mem_ways : w ∈ waysL fl a c ↔ Open fl a w ∧ w.beg fl = c := by
  unfold waysL wayF Open Way.room Way.beg
  rw [List.mem_flatMap]
  constructor
  · rintro ⟨i, hi, h⟩
    rw [List.mem_range] at hi
    rcases List.mem_append.1 h with h | h
    · split at h
      · rename_i hc; rw [List.mem_singleton.1 h]; exact ⟨⟨hi, by simp only [if_true]; omega⟩, hc.2⟩
      · cases h
    · split at h
      · rename_i hc; rw [List.mem_singleton.1 h]; exact ⟨⟨hi, by simp only [Bool.false_eq_true, if_false]; omega⟩, hc.2⟩
      · cases h
  · rintro ⟨⟨h1, h2⟩, h3⟩
    refine ⟨w.ix, List.mem_range.2 h1, ?_⟩
    obtain ⟨i, m⟩ := w
    cases m with
    | true =>
      simp only [if_true] at h2 h3
      refine List.mem_append.2 (.inl ?_)
      rw [if_pos ⟨by show nth a i < (nth fl i).hi; have : 0 < (nth fl i).hi - nth a i := h2; omega, h3⟩]; exact List.mem_singleton.2 rfl
    | false =>
      simp only [Bool.false_eq_true, if_false] at h2 h3
      refine List.mem_append.2 (.inr ?_)
      rw [if_pos ⟨by show nth a i > (nth fl i).lo; have : 0 < nth a i - (nth fl i).lo := h2; omega, h3⟩]; exact List.mem_singleton.2 rfl
theorem wayF_len (i : Nat) : (wayF fl a c i).length ≤ 2 := by
  unfold wayF; split <;> split <;> simp
theorem ways_len : (waysL fl a c).length ≤ 2 * fl.length := by
  have key : ∀ n, ((List.range n).flatMap (wayF fl a c)).length ≤ 2 * n := by
    intro n
    induction n with
    | zero => simp
    | succ n ih => rw [List.range_succ, List.flatMap_append, List.length_append, List.flatMap_singleton]; have := wayF_len (fl := fl) (a := a) (c := c) n; omega
  exact key _
theorem Net.way (hN : Net fl n) (h : w.ix < fl.length) : (0 ≤ w.beg fl ∧ w.beg fl < n) ∧ (0 ≤ w.fin fl ∧ w.fin fl < n) ∧ w.beg fl ≠ w.fin fl := by
  unfold Way.beg Way.fin
  have h1 := hN.src _ h
  have h2 := hN.dst _ h
  have h3 := hN.ne _ h
  cases w.more <;> simp <;> omega
def sgn (w : Way) (k : Int) : Int := if w.more then k else -k
def send1 (a : List Int) (w : Way) (k : Int) : List Int := a.set w.ix (nth a w.ix + sgn w k)
def sendM (a : List Int) (l : List Way) (k : Int) : List Int := l.foldl (fun a w => send1 a w k) a
theorem send1_len (k : Int) : (send1 a w k).length = a.length := List.length_set
theorem sendM_len (k : Int) : ∀ (l : List Way) (a : List Int), (sendM a l k).length = a.length
  | [], _ => rfl
  | w :: l, a => (sendM_len k l (send1 a w k)).trans (send1_len k)
theorem sendM_snoc (l : List Way) (k : Int) : sendM a (l ++ [w]) k = send1 (sendM a l k) w k := by unfold sendM; rw [List.foldl_append]; rfl
theorem send1_nth (h : w.ix < a.length) (i : Nat) (k : Int) : nth (send1 a w k) i = if w.ix = i then nth a i + sgn w k else nth a i := by
  unfold send1
  by_cases e : i < a.length
  · rw [nthA_set e]; split
    · rename_i e; subst e; rfl
    · rfl
  · rw [if_neg (by omega)]
    have h1 : (a.set w.ix (nth a w.ix + sgn w k))[i]? = none := List.getElem?_eq_none (by rw [List.length_set]; omega)
    have h2 : a[i]? = none := List.getElem?_eq_none (by omega)
    unfold nth at *
    simp only [List.getD_eq_getElem?_getD] at *
    rw [h1, h2]
theorem send1_over (hl : a.length = fl.length) (h : w.ix < fl.length) (k : Int) (c : Int) : over fl (send1 a w k) c = over fl a c + (ind (w.fin fl = c) - ind (w.beg fl = c)) * k := by
  unfold over
  have e : sumN (fun i => (ind ((nth fl i).dst = c) - ind ((nth fl i).src = c)) * nth (send1 a w k) i) fl.length - sumN (fun i => (ind ((nth fl i).dst = c) - ind ((nth fl i).src = c)) * nth a i) fl.length = (ind (w.fin fl = c) - ind (w.beg fl = c)) * k := by
    rw [← sumN_sub, sumN_one h fun i _ hn => by rw [send1_nth (by omega), if_neg (fun e => hn e.symm)]; omega]
    rw [send1_nth (by omega), if_pos rfl, ← Int.mul_sub, show nth a w.ix + sgn w k - nth a w.ix = sgn w k by omega]
    unfold sgn Way.fin Way.beg
    cases w.more with
    | true => simp
    | false => simp only [Bool.false_eq_true, if_false]; rw [Int.mul_neg, ← Int.neg_mul, Int.neg_sub]
  omega
def Trail (fl : List Flow) : List Way → Int → Int → Prop
  | [], x, y => x = y
  | w :: l, x, y => w.fin fl = x ∧ Trail fl l (w.beg fl) y
theorem send_over (hl : a.length = fl.length) (k : Int) : ∀ (l : List Way) (a : List Int) (x y : Int), a.length = fl.length → (∀ w ∈ l, w.ix < fl.length) → Trail fl l x y → ∀ c, over fl (sendM a l k) c = over fl a c + (ind (x = c) - ind (y = c)) * k
  | [], a, x, y, _, _, h, c => by obtain rfl : x = y := h; simp [sendM]
  | w :: l, a, x, y, ha, hw, h, c => by
    show over fl (sendM (send1 a w k) l k) c = _
    rw [send_over hl k l _ (w.beg fl) y (by rw [send1_len]; exact ha) (fun u hu => hw u (List.mem_cons_of_mem _ hu)) h.2, send1_over ha (hw w List.mem_cons_self), h.1]
    rw [Int.add_assoc, ← Int.add_mul]
    congr 2; omega
theorem room_send (hl : a.length = fl.length) (hw : w.ix < fl.length) {k : Int} (hk : 0 ≤ k) (hne : u ≠ w) : u.room fl a ≤ u.room fl (send1 a w k) := by
  unfold Way.room
  rw [send1_nth (by omega)]
  by_cases e : w.ix = u.ix
  · rw [if_pos e]
    have hm : u.more ≠ w.more := fun h => hne (by cases u; cases w; simp_all)
    unfold sgn
    revert hm
    cases u.more <;> cases w.more <;> simp <;> omega
  · rw [if_neg e]; exact Int.le_refl _
theorem inb_send1 (h : Inb fl a) (hw : w.ix < fl.length) {k : Int} (hk : 0 ≤ k) (hr : k ≤ w.room fl a) : Inb fl (send1 a w k) := by
  refine ⟨by rw [send1_len]; exact h.1, fun i hi => ?_⟩
  have hb := h.2 i hi
  have hl := h.1
  rw [send1_nth (by omega)]
  split
  · rename_i e; subst e
    unfold Way.room at hr; unfold sgn
    revert hr
    cases w.more <;> simp <;> omega
  · exact hb
theorem inb_send {k : Int} (hk : 0 ≤ k) : ∀ (l : List Way) (a : List Int), Inb fl a → l.Nodup → (∀ w ∈ l, w.ix < fl.length ∧ k ≤ w.room fl a) → Inb fl (sendM a l k)
  | [], _, h, _, _ => h
  | w :: l, a, h, hn, hw => by
    rw [List.nodup_cons] at hn
    have h0 := hw w List.mem_cons_self
    refine inb_send hk l _ (inb_send1 h h0.1 hk h0.2) hn.2 fun u hu => ?_
    have h1 := hw u (List.mem_cons_of_mem _ hu)
    exact ⟨h1.1, Int.le_trans h1.2 (room_send h.1 h0.1 hk fun e => hn.1 (by rw [← e]; exact hu))⟩
theorem send1_worth (hl : a.length = fl.length) (h : w.ix < fl.length) (g : Nat → Int) (k : Int) : sumN (fun i => g i * nth (send1 a w k) i) fl.length = sumN (fun i => g i * nth a i) fl.length + sgn w (g w.ix) * k := by
  have e : sumN (fun i => g i * nth (send1 a w k) i) fl.length - sumN (fun i => g i * nth a i) fl.length = sgn w (g w.ix) * k := by
    rw [← sumN_sub, sumN_one h fun i _ hn => by rw [send1_nth (by omega), if_neg (fun e => hn e.symm)]; omega]
    rw [send1_nth (by omega), if_pos rfl, ← Int.mul_sub, show nth a w.ix + sgn w k - nth a w.ix = sgn w k by omega]
    unfold sgn
    cases w.more with
    | true => simp
    | false => simp only [Bool.false_eq_true, if_false]; rw [Int.mul_neg, Int.neg_mul]
  omega
def worthL (g : Nat → Int) (l : List Way) : Int := (l.map fun w => sgn w (g w.ix)).sum
theorem send_worth (g : Nat → Int) (k : Int) : ∀ (l : List Way) (a : List Int), a.length = fl.length → (∀ w ∈ l, w.ix < fl.length) → sumN (fun i => g i * nth (sendM a l k) i) fl.length = sumN (fun i => g i * nth a i) fl.length + worthL g l * k
  | [], a, _, _ => by simp [sendM, worthL]
  | w :: l, a, ha, hw => by
    show sumN (fun i => g i * nth (sendM (send1 a w k) l k) i) fl.length = _
    rw [send_worth g k l _ (by rw [send1_len]; exact ha) fun u hu => hw u (List.mem_cons_of_mem _ hu), send1_worth ha (hw w List.mem_cons_self)]
    unfold worthL
    rw [List.map_cons, List.sum_cons, Int.add_mul]; omega
theorem over_sum (hN : Net fl n) : sumN (fun c => over fl a c) n = 0 := by
  have h := pot_over (a := a) hN fun _ => 1
  rw [sumN_congr (g := fun c : Nat => over fl a c) fun c _ => Int.one_mul _] at h
  rw [h]
  exact sumN_zero fun i _ => by rw [Int.sub_self, Int.zero_mul]
theorem even_of (hN : Net fl n) (h : ∀ c : Nat, c < n → ¬ 0 < over fl a c) : Even fl n a := by
  intro c hc
  have h0 := over_sum (a := a) hN
  by_cases e : over fl a c = 0
  · exact e
  · have := sumN_lt (f := fun c : Nat => over fl a c) (g := fun _ => 0) hc (fun i hi => by have := h i hi; show over fl a i ≤ 0; omega) (by have := h c hc; show over fl a c < 0; omega)
    rw [h0, sumN_zero fun _ _ => rfl] at this
    omega
end
end Go.Proofs.YtelbollidfdcjaaGreat

namespace Go.Proofs.YtelbollidfdcjaaGreat
open Go Go.T
section
variable {fl : List Flow} {a : List Int} {n : Nat} {s : Int} {c : Int} {w : Way}
structure BSt where
  by_ : List (Int × Way)
  queue : List Int
instance : Inhabited BSt := ⟨⟨[], []⟩⟩
def Met (q : List (Int × Way)) (s c : Int) : Prop := c = s ∨ c ∈ q.map Prod.fst
def newB (fl : List Flow) (s : Int) (q : List (Int × Way)) (w : Way) : Bool := !(mget q (w.fin fl)).isSome && !decide (w.fin fl = s)
def lookB (fl : List Flow) (s : Int) (x : BSt) (w : Way) : BSt := if newB fl s x.by_ w = true then ⟨mput x.by_ (w.fin fl) w, x.queue ++ [w.fin fl]⟩ else x
theorem lookB_yes {x : BSt} (h : newB fl s x.by_ w = true) : lookB fl s x w = ⟨mput x.by_ (w.fin fl) w, x.queue ++ [w.fin fl]⟩ := if_pos h
theorem lookB_no {x : BSt} (h : newB fl s x.by_ w = false) : lookB fl s x w = x := if_neg (by rw [h]; decide)
def foldB (fl : List Flow) (a : List Int) (s c : Int) (x : BSt) (k : Nat) : BSt := ((waysL fl a c).take k).foldl (lookB fl s) x
theorem foldB_succ {x : BSt} {k : Nat} (hk : k < (waysL fl a c).length) : foldB fl a s c x (k + 1) = lookB fl s (foldB fl a s c x k) (nth (waysL fl a c) k) := by
  unfold foldB; rw [take_nth hk, List.foldl_append]; rfl
def stepB (fl : List Flow) (a : List Int) (s : Int) (x : BSt) : BSt ⊕ List (Int × Way) :=
  match x.queue with
  | [] => .inr x.by_
  | c :: r => .inl (foldB fl a s c ⟨x.by_, r⟩ (waysL fl a c).length)
noncomputable def reachM (fl : List Flow) (a : List Int) (s : Int) : List (Int × Way) := outI (stepB fl a s) ⟨[], [s]⟩
structure BInv (fl : List Flow) (a : List Int) (n : Nat) (s : Int) (x : BSt) (cur : Option (Int × List Way)) : Prop where
  keys : (x.by_.map Prod.fst).Nodup
  range : ∀ c ∈ x.by_.map Prod.fst, 0 ≤ c ∧ c < n
  out : s ∉ x.by_.map Prod.fst
  q : ∀ c ∈ x.queue, Met x.by_ s c
  arc : ∃ dep : Int → Nat, dep s = 0 ∧ ∀ c w, mget x.by_ c = some w → Open fl a w ∧ w.fin fl = c ∧ Met x.by_ s (w.beg fl) ∧ dep (w.beg fl) < dep c ∧ dep c ≤ x.by_.length
  done : ∀ c, Met x.by_ s c → c ∉ x.queue → ∀ w ∈ waysL fl a c, Met x.by_ s (w.fin fl) ∨ ∃ r, cur = some (c, r) ∧ w ∈ r
  cur : ∀ c r, cur = some (c, r) → Met x.by_ s c ∧ ∀ w ∈ r, Open fl a w ∧ w.beg fl = c
theorem binv0 (hs : 0 ≤ s ∧ s < n) : BInv fl a n s ⟨[], [s]⟩ none :=
  ⟨List.nodup_nil, (fun c h => by cases h), (fun h => by cases h), fun c h => .inl (List.mem_singleton.1 h), ⟨fun _ => 0, rfl, fun c w h => by cases h⟩,
   (fun c h hn => by
    rcases h with rfl | h
    · exact absurd (List.mem_singleton.2 rfl) hn
    · cases h), fun c r h => by cases h⟩
theorem BInv.look (hN : Net fl n) {x : BSt} {r : List Way} (h : BInv fl a n s x (some (c, w :: r))) : BInv fl a n s (lookB fl s x w) (some (c, r)) := by
  obtain ⟨hm, hw⟩ := h.cur c _ rfl
  obtain ⟨ho, hb⟩ := hw w List.mem_cons_self
  cases e : newB fl s x.by_ w with
  | false =>
    rw [lookB_no e]
    have hmet : Met x.by_ s (w.fin fl) := by
      unfold newB at e
      rw [Bool.and_eq_false_iff, Bool.not_eq_false', Bool.not_eq_false', decide_eq_true_eq] at e
      rcases e with e | e
      · obtain ⟨v, hv⟩ := Option.isSome_iff_exists.1 e; exact .inr (mget_some_mem hv)
      · exact .inl e
    refine ⟨h.keys, h.range, h.out, h.q, h.arc, fun c' hc hn u hu => ?_, fun c' r' e' => ?_⟩
    · rcases h.done c' hc hn u hu with h1 | ⟨r', e', hr⟩
      · exact .inl h1
      · injection e' with e'; injection e' with e1 e2; subst e1; subst e2
        rcases List.mem_cons.1 hr with rfl | hr
        · exact .inl hmet
        · exact .inr ⟨r, rfl, hr⟩
    · injection e' with e'; injection e' with e1 e2; subst e1; subst e2
      exact ⟨hm, fun u hu => hw u (List.mem_cons_of_mem _ hu)⟩
  | true =>
    rw [lookB_yes e]
    unfold newB at e
    rw [Bool.and_eq_true, Bool.not_eq_true', Bool.not_eq_true', decide_eq_false_iff_not] at e
    have hnone : mget x.by_ (w.fin fl) = none := by cases h : mget x.by_ (w.fin fl) with | none => rfl | some v => rw [h] at e; cases e.1
    have hnk : w.fin fl ∉ x.by_.map Prod.fst := fun hk => by obtain ⟨v, hv⟩ := mem_mget hk; rw [hnone] at hv; cases hv
    have hkeys : ∀ z, z ∈ (mput x.by_ (w.fin fl) w).map Prod.fst ↔ z = w.fin fl ∨ z ∈ x.by_.map Prod.fst := mput_mem_keys x.by_ (w.fin fl) w
    have hMet : ∀ z, Met (mput x.by_ (w.fin fl) w) s z ↔ z = w.fin fl ∨ Met x.by_ s z := fun z => by
      unfold Met; rw [hkeys]
      constructor
      · rintro (h | h | h)
        · exact .inr (.inl h)
        · exact .inl h
        · exact .inr (.inr h)
      · rintro (h | h | h)
        · exact .inr (.inl h)
        · exact .inl h
        · exact .inr (.inr h)
    have hnm : ¬ Met x.by_ s (w.fin fl) := fun h => h.elim e.2 hnk
    refine ⟨mput_nodup _ _ _ h.keys, fun z hz => ?_, fun hs => ?_, fun z hz => ?_, ?_, fun z hz hn u hu => ?_, fun c' r' e' => ?_⟩
    · rcases (hkeys z).1 hz with rfl | hz
      · exact (hN.way ho.1).2.1
      · exact h.range z hz
    · rcases (hkeys s).1 hs with hs | hs
      · exact e.2 hs.symm
      · exact h.out hs
    · rw [hMet]
      rcases List.mem_append.1 hz with hz | hz
      · exact .inr (h.q z hz)
      · exact .inl (List.mem_singleton.1 hz)
    · obtain ⟨dep, d0, hd⟩ := h.arc
      refine ⟨fun z => if z = w.fin fl then dep c + 1 else dep z, by show (if s = w.fin fl then _ else _) = 0; rw [if_neg (fun h => e.2 h.symm)]; exact d0, fun z u hz => ?_⟩
      rw [mget_mput] at hz
      rw [mput_len _ _ _ hnone]
      have hcl : dep c ≤ x.by_.length := by
        rcases hm with rfl | hm
        · omega
        · obtain ⟨v, hv⟩ := mem_mget hm; exact (hd c v hv).2.2.2.2
      have hcn : c ≠ w.fin fl := fun h => hnm (by rw [← h]; exact hm)
      by_cases ez : w.fin fl = z
      · rw [if_pos ez] at hz; injection hz with hz; subst hz
        refine ⟨ho, ez, (hMet _).2 (.inr (by rw [hb]; exact hm)), ?_, ?_⟩
        · show (if w.beg fl = w.fin fl then _ else _) < if z = w.fin fl then _ else _
          rw [hb, if_neg hcn, if_pos ez.symm]; omega
        · show (if z = w.fin fl then _ else _) ≤ _
          rw [if_pos ez.symm]; omega
      · rw [if_neg ez] at hz
        obtain ⟨a1, a2, a3, a4, a5⟩ := hd z u hz
        have hbn : u.beg fl ≠ w.fin fl := fun h => hnm (by rw [← h]; exact a3)
        refine ⟨a1, a2, (hMet _).2 (.inr a3), ?_, ?_⟩
        · show (if u.beg fl = w.fin fl then _ else _) < if z = w.fin fl then _ else _
          rw [if_neg hbn, if_neg (fun h => ez h.symm)]; exact a4
        · show (if z = w.fin fl then _ else _) ≤ _
          rw [if_neg (fun h => ez h.symm)]; omega
    · have hzn : z ≠ w.fin fl := fun h => hn (List.mem_append.2 (.inr (by rw [h]; exact List.mem_singleton.2 rfl)))
      have hz' : Met x.by_ s z := ((hMet z).1 hz).resolve_left hzn
      rcases h.done z hz' (fun h => hn (List.mem_append.2 (.inl h))) u hu with h1 | ⟨r', e', hr⟩
      · exact .inl ((hMet _).2 (.inr h1))
      · injection e' with e'; injection e' with e1 e2; subst e1; subst e2
        rcases List.mem_cons.1 hr with rfl | hr
        · exact .inl ((hMet _).2 (.inl rfl))
        · exact .inr ⟨r, rfl, hr⟩
    · injection e' with e'; injection e' with e1 e2; subst e1; subst e2
      exact ⟨(hMet _).2 (.inr hm), fun u hu => hw u (List.mem_cons_of_mem _ hu)⟩
theorem BInv.fold (hN : Net fl n) {x : BSt} (h : BInv fl a n s x (some (c, waysL fl a c))) : ∀ k, k ≤ (waysL fl a c).length → BInv fl a n s (foldB fl a s c x k) (some (c, (waysL fl a c).drop k))
  | 0, _ => by rw [List.drop_zero]; exact h
  | k + 1, hk => by
    have ih := BInv.fold hN h k (by omega)
    rw [foldB_succ (by omega)]
    refine BInv.look hN (w := nth (waysL fl a c) k) ?_
    rw [List.drop_eq_getElem_cons (show k < (waysL fl a c).length by omega)] at ih
    have e : nth (waysL fl a c) k = (waysL fl a c)[k] := by unfold nth; rw [List.getD_eq_getElem?_getD, List.getElem?_eq_getElem (by omega)]; rfl
    rw [e]; exact ih
theorem BInv.pop {x : BSt} {r : List Int} (h : BInv fl a n s x none) (hq : x.queue = c :: r) : BInv fl a n s ⟨x.by_, r⟩ (some (c, waysL fl a c)) := by
  have hc := h.q c (by rw [hq]; exact List.mem_cons_self)
  refine ⟨h.keys, h.range, h.out, fun z hz => h.q z (by rw [hq]; exact List.mem_cons_of_mem _ hz), h.arc, fun z hz hn u hu => ?_, fun c' r' e => ?_⟩
  · by_cases ez : z = c
    · subst ez; exact .inr ⟨_, rfl, hu⟩
    · rcases h.done z hz (fun hm => by rw [hq] at hm; rcases List.mem_cons.1 hm with e | e; exact ez e; exact hn e) u hu with h1 | ⟨_, e, _⟩
      · exact .inl h1
      · cases e
  · injection e with e; injection e with e1 e2; subst e1; subst e2
    exact ⟨hc, fun w hw => mem_ways.1 hw⟩
theorem BInv.over {x : BSt} (h : BInv fl a n s x (some (c, []))) : BInv fl a n s x none :=
  ⟨h.keys, h.range, h.out, h.q, h.arc, fun z hz hn u hu => (h.done z hz hn u hu).elim .inl (fun ⟨_, e, hr⟩ => by injection e with e; injection e with _ e; subst e; cases hr), fun _ _ e => by cases e⟩
theorem BInv.few {x : BSt} {cur : Option (Int × List Way)} (h : BInv fl a n s x cur) : x.by_.length ≤ n := by
  have := nodup_boundI h.keys h.range
  rwa [List.length_map] at this
def muB (n : Nat) (x : BSt) : Nat := (n - x.by_.length) * 2 + x.queue.length
theorem lookB_mu {x : BSt} : (lookB fl s x w).by_.length ≥ x.by_.length ∧ (lookB fl s x w).queue.length + x.by_.length = x.queue.length + (lookB fl s x w).by_.length := by
  cases e : newB fl s x.by_ w with
  | false => rw [lookB_no e]; exact ⟨Nat.le_refl _, rfl⟩
  | true =>
    rw [lookB_yes e]
    unfold newB at e
    rw [Bool.and_eq_true, Bool.not_eq_true'] at e
    have hnone : mget x.by_ (w.fin fl) = none := by cases h : mget x.by_ (w.fin fl) with | none => rfl | some v => rw [h] at e; cases e.1
    show (mput _ _ _).length ≥ _ ∧ (x.queue ++ [w.fin fl]).length + _ = _ + (mput _ _ _).length
    rw [mput_len _ _ _ hnone, List.length_append, List.length_singleton]; omega
theorem foldB_mu {x : BSt} : ∀ k, k ≤ (waysL fl a c).length → (foldB fl a s c x k).by_.length ≥ x.by_.length ∧ (foldB fl a s c x k).queue.length + x.by_.length = x.queue.length + (foldB fl a s c x k).by_.length
  | 0, _ => ⟨Nat.le_refl _, rfl⟩
  | k + 1, hk => by
    have h1 := foldB_mu (x := x) k (by omega)
    rw [foldB_succ (by omega)]
    have h2 := lookB_mu (fl := fl) (s := s) (x := foldB fl a s c x k) (w := nth (waysL fl a c) k)
    omega
theorem stepB_next (hN : Net fl n) {x : BSt} {r : List Int} (h : BInv fl a n s x none) (hq : x.queue = c :: r) : BInv fl a n s (foldB fl a s c ⟨x.by_, r⟩ (waysL fl a c).length) none ∧ muB n (foldB fl a s c ⟨x.by_, r⟩ (waysL fl a c).length) < muB n x := by
  have h1 := (h.pop hq).fold hN _ (Nat.le_refl _)
  rw [List.drop_length] at h1
  refine ⟨h1.over, ?_⟩
  have h2 := foldB_mu (fl := fl) (a := a) (s := s) (c := c) (x := ⟨x.by_, r⟩) _ (Nat.le_refl _)
  have h3 := h1.few
  unfold muB
  rw [hq, List.length_cons]
  simp only at h2
  omega
structure RSpec (fl : List Flow) (a : List Int) (n : Nat) (s : Int) (q : List (Int × Way)) : Prop where
  keys : (q.map Prod.fst).Nodup
  range : ∀ c ∈ q.map Prod.fst, 0 ≤ c ∧ c < n
  out : s ∉ q.map Prod.fst
  arc : ∃ dep : Int → Nat, dep s = 0 ∧ ∀ c w, mget q c = some w → Open fl a w ∧ w.fin fl = c ∧ Met q s (w.beg fl) ∧ dep (w.beg fl) < dep c ∧ dep c ≤ q.length
  closed : ∀ w, Open fl a w → Met q s (w.beg fl) → Met q s (w.fin fl)
theorem BInv.spec {x : BSt} (h : BInv fl a n s x none) (hq : x.queue = []) : RSpec fl a n s x.by_ :=
  ⟨h.keys, h.range, h.out, h.arc, fun w ho hm => (h.done _ hm (by rw [hq]; exact List.not_mem_nil) w (mem_ways.2 ⟨ho, rfl⟩)).elim id fun ⟨_, e, _⟩ => by cases e⟩
theorem reach_spec (hN : Net fl n) (hs : 0 ≤ s ∧ s < n) : RSpec fl a n s (reachM fl a s) := by
  refine outI_ind (fun x => BInv fl a n s x none) (RSpec fl a n s) (muB n) (fun x h => ?_) _ (binv0 hs)
  cases hq : x.queue with
  | nil => exact .inr ⟨x.by_, by unfold stepB; rw [hq], h.spec hq⟩
  | cons c r => exact .inl ⟨_, by unfold stepB; rw [hq], stepB_next hN h hq⟩
theorem RSpec.few {q : List (Int × Way)} (h : RSpec fl a n s q) : q.length ≤ n := by
  have := nodup_boundI h.keys h.range
  rwa [List.length_map] at this
end
end Go.Proofs.YtelbollidfdcjaaGreat

namespace Go.Proofs.YtelbollidfdcjaaGreat
open Go Go.T
section
variable {fl : List Flow} {a : List Int} {n : Nat} {s t c : Int} {w : Way} {q : List (Int × Way)}
def wayTo (q : List (Int × Way)) (c : Int) : Way := (mget q c).getD default
def stepP (fl : List Flow) (q : List (Int × Way)) (s : Int) (x : Int × List Way) : (Int × List Way) ⊕ List Way :=
  if x.1 = s then .inr x.2 else .inl ((wayTo q x.1).beg fl, x.2 ++ [wayTo q x.1])
noncomputable def pathM (fl : List Flow) (q : List (Int × Way)) (s t : Int) : List Way := outI (stepP fl q s) (t, [])
structure PSpec (fl : List Flow) (a : List Int) (s t : Int) (l : List Way) : Prop where
  trail : Trail fl l t s
  ways : ∀ w ∈ l, Open fl a w
  nodup : l.Nodup
structure PInv (fl : List Flow) (a : List Int) (q : List (Int × Way)) (s t : Int) (dep : Int → Nat) (x : Int × List Way) : Prop where
  trail : Trail fl x.2 t x.1
  ways : ∀ w ∈ x.2, Open fl a w
  deep : ∀ w ∈ x.2, dep x.1 < dep (w.fin fl)
  nodup : x.2.Nodup
  met : Met q s x.1
  few : x.2.length + dep x.1 ≤ dep t
theorem trail_end : ∀ {l : List Way} {x y : Int}, Trail fl l x y → w.fin fl = y → Trail fl (l ++ [w]) x (w.beg fl)
  | [], x, y, h, e => ⟨e.trans (show x = y from h).symm, rfl⟩
  | _ :: _, _, _, h, e => ⟨h.1, trail_end h.2 e⟩
theorem PInv.next {dep : Int → Nat} (hd : ∀ c w, mget q c = some w → Open fl a w ∧ w.fin fl = c ∧ Met q s (w.beg fl) ∧ dep (w.beg fl) < dep c ∧ dep c ≤ q.length) {x : Int × List Way} (h : PInv fl a q s t dep x) (hx : ¬ x.1 = s) :
    PInv fl a q s t dep ((wayTo q x.1).beg fl, x.2 ++ [wayTo q x.1]) ∧ dep ((wayTo q x.1).beg fl) < dep x.1 := by
  obtain ⟨v, hv⟩ := mem_mget (h.met.resolve_left hx)
  have ev : wayTo q x.1 = v := by unfold wayTo; rw [hv]; rfl
  rw [ev]
  obtain ⟨h1, h2, h3, h4, _⟩ := hd _ _ hv
  refine ⟨⟨trail_end h.trail h2, fun w hw => ?_, fun w hw => ?_, ?_, h3, ?_⟩, h4⟩
  · rcases List.mem_append.1 hw with hw | hw
    · exact h.ways w hw
    · rw [List.mem_singleton.1 hw]; exact h1
  · rcases List.mem_append.1 hw with hw | hw
    · exact Nat.lt_trans h4 (h.deep w hw)
    · rw [List.mem_singleton.1 hw, h2]; exact h4
  · rw [List.nodup_append]
    refine ⟨h.nodup, by simp, fun u hu w hw e => ?_⟩
    rw [List.mem_singleton.1 hw] at e
    have := h.deep u hu
    rw [e, h2] at this; omega
  · show (x.2 ++ [v]).length + dep (v.beg fl) ≤ dep t
    rw [List.length_append, List.length_singleton]
    have := h.few; omega
theorem path_spec (h : RSpec fl a n s q) (ht : Met q s t) : PSpec fl a s t (pathM fl q s t) ∧ (pathM fl q s t).length ≤ q.length := by
  obtain ⟨dep, d0, hd⟩ := h.arc
  have htq : dep t ≤ q.length := by
    rcases ht with rfl | ht
    · omega
    · obtain ⟨v, hv⟩ := mem_mget ht; exact (hd _ _ hv).2.2.2.2
  refine outI_ind (PInv fl a q s t dep) (fun l => PSpec fl a s t l ∧ l.length ≤ q.length) (fun x => dep x.1) (fun x hI => ?_) _ ⟨rfl, (fun w h => by cases h), (fun w h => by cases h), List.nodup_nil, ht, by simp⟩
  by_cases e : x.1 = s
  · exact .inr ⟨x.2, if_pos e, ⟨by have := hI.trail; rwa [e] at this, hI.ways, hI.nodup⟩, by have := hI.few; omega⟩
  · obtain ⟨h1, h2⟩ := hI.next hd e
    exact .inl ⟨_, if_neg e, h1, h2⟩
def overL (fl : List Flow) (a : List Int) (n : Nat) : List Int := (List.range n).map fun c => over fl a (c : Nat)
theorem overL_len : (overL fl a n).length = n := by unfold overL; rw [List.length_map, List.length_range]
theorem overL_nth {k : Nat} (h : k < n) : nth (overL fl a n) k = over fl a k := by
  unfold overL nth
  rw [List.getD_eq_getElem?_getD, List.getElem?_map, List.getElem?_range h]; rfl
def mostL (fl : List Flow) (a : List Int) (m : Int) (l : List Way) : Int := l.foldl (fun m w => min m (w.room fl a)) m
theorem mostL_snoc (m : Int) (l : List Way) : mostL fl a m (l ++ [w]) = min (mostL fl a m l) (w.room fl a) := by unfold mostL; rw [List.foldl_append]; rfl
theorem mostL_le (m : Int) : ∀ (l : List Way), mostL fl a m l ≤ m ∧ ∀ w ∈ l, mostL fl a m l ≤ w.room fl a := by
  refine snoc_ind ⟨Int.le_refl _, fun w h => by cases h⟩ fun l u ih => ?_
  rw [mostL_snoc]
  refine ⟨by have := ih.1; omega, fun w hw => ?_⟩
  rcases List.mem_append.1 hw with hw | hw
  · have := ih.2 w hw; omega
  · rw [List.mem_singleton.1 hw]; omega
theorem mostL_pos {m : Int} (hm : 0 < m) : ∀ (l : List Way), (∀ w ∈ l, Open fl a w) → 0 < mostL fl a m l := by
  refine snoc_ind (fun _ => hm) fun l u ih h => ?_
  rw [mostL_snoc]
  have h1 := ih fun w hw => h w (List.mem_append.2 (.inl hw))
  have h2 := (h u (List.mem_append.2 (.inr (List.mem_singleton.2 rfl)))).2
  omega
def hasM (fl : List Flow) (a : List Int) (n : Nat) : Int := fidx (fun x : Int => decide (x > 0)) (overL fl a n)
def lackB (fl : List Flow) (a : List Int) (q : List (Int × Way)) (c : Nat) : Bool := (mget q (c : Int)).isSome && decide (over fl a c < 0)
def lackM (fl : List Flow) (a : List Int) (n : Nat) (q : List (Int × Way)) : Int := fidx (lackB fl a q) (List.range n)
noncomputable def sendS (fl : List Flow) (a : List Int) (s t : Int) : List Int :=
  sendM a (pathM fl (reachM fl a s) s t) (mostL fl a (min (over fl a s) (-over fl a t)) (pathM fl (reachM fl a s) s t))
noncomputable def stepS (fl : List Flow) (n : Nat) (a : List Int) : List Int ⊕ (Int × Bool × List Int) :=
  if hasM fl a n < 0 then .inr (0, false, a)
  else if lackM fl a n (reachM fl a (hasM fl a n)) < 0 then .inr (hasM fl a n, true, a)
  else .inl (sendS fl a (hasM fl a n) (lackM fl a n (reachM fl a (hasM fl a n))))
instance : Inhabited (Int × Bool × List Int) := ⟨(0, false, [])⟩
noncomputable def settleM (fl : List Flow) (n : Nat) (a : List Int) : Int × Bool × List Int := outI (stepS fl n) a
theorem fidx_pos {α : Type} [Inhabited α] {p : α → Bool} {l : List α} (h : ¬ fidx p l < 0) : ∃ k : Nat, k < l.length ∧ fidx p l = k ∧ p (nth l k) = true := by
  unfold fidx at *
  cases e : l.findIdx? p with
  | none => rw [e] at h; exact absurd (by decide) h
  | some i =>
    rw [List.findIdx?_eq_some_iff_getElem] at e
    obtain ⟨h1, h2, _⟩ := e
    refine ⟨i, h1, rfl, ?_⟩
    unfold nth; rw [List.getD_eq_getElem?_getD, List.getElem?_eq_getElem h1]; exact h2
theorem fidx_neg {α : Type} {p : α → Bool} {l : List α} (h : fidx p l < 0) : ∀ x ∈ l, p x = false := by
  unfold fidx at h
  cases e : l.findIdx? p with
  | none => simpa using e
  | some i => rw [e] at h; exact absurd h (by show ¬ ((i : Int) < 0); omega)
theorem has_none (h : hasM fl a n < 0) : ∀ c : Nat, c < n → ¬ 0 < over fl a c := fun c hc => by
  have := fidx_neg h (over fl a c) (List.mem_map.2 ⟨c, List.mem_range.2 hc, rfl⟩)
  simpa using this
theorem has_some (h : ¬ hasM fl a n < 0) : ∃ k : Nat, k < n ∧ hasM fl a n = k ∧ 0 < over fl a k := by
  obtain ⟨k, h1, h2, h3⟩ := fidx_pos h
  rw [overL_len] at h1
  rw [overL_nth h1] at h3
  exact ⟨k, h1, h2, by simpa using h3⟩
theorem lack_none (h : lackM fl a n q < 0) : ∀ c : Nat, c < n → (mget q (c : Int)).isSome = true → 0 ≤ over fl a c := fun c hc hq => by
  have := fidx_neg h c (List.mem_range.2 hc)
  unfold lackB at this
  rw [hq, Bool.true_and, decide_eq_false_iff_not] at this; omega
theorem lack_some (h : ¬ lackM fl a n q < 0) : ∃ k : Nat, k < n ∧ lackM fl a n q = k ∧ (mget q (k : Int)).isSome = true ∧ over fl a k < 0 := by
  obtain ⟨k, h1, h2, h3⟩ := fidx_pos h
  rw [List.length_range] at h1
  have e : nth (List.range n) k = k := by unfold nth; rw [List.getD_eq_getElem?_getD, List.getElem?_range h1]; rfl
  rw [e] at h3
  unfold lackB at h3
  rw [Bool.and_eq_true, decide_eq_true_eq] at h3
  exact ⟨k, h1, h2, h3.1, h3.2⟩
def muS (fl : List Flow) (n : Nat) (a : List Int) : Nat := (sumN (fun c => max (over fl a (c : Nat)) 0) n).toNat
theorem sumN_nonneg {f : Nat → Int} {n : Nat} (h : ∀ i, i < n → 0 ≤ f i) : 0 ≤ sumN f n := by
  have := sumN_le (f := fun _ => 0) (g := f) (n := n) h
  rwa [sumN_zero fun _ _ => rfl] at this
theorem sumN_set {f g : Nat → Int} {k : Nat} (hk : k < n) (h : ∀ i, i < n → i ≠ k → f i = g i) : sumN f n = sumN g n + (f k - g k) := by
  have e : sumN (fun i => f i - g i) n = f k - g k := sumN_one (f := fun i => f i - g i) hk fun i hi hn => by rw [h i hi hn]; omega
  rw [sumN_sub] at e; omega
structure Sent (fl : List Flow) (a : List Int) (n : Nat) (s t : Int) : Prop where
  inb : Inb fl (sendS fl a s t)
  less : muS fl n (sendS fl a s t) < muS fl n a
  trail : PSpec fl a s t (pathM fl (reachM fl a s) s t)
  few : (pathM fl (reachM fl a s) s t).length ≤ n
  pos : 0 < mostL fl a (min (over fl a s) (-over fl a t)) (pathM fl (reachM fl a s) s t)
theorem sent (hN : Net fl n) (h : Inb fl a) {s t : Nat} (hs : s < n) (ht : t < n) (hps : 0 < over fl a s) (hq : (mget (reachM fl a s) (t : Int)).isSome = true) (hpt : over fl a t < 0) : Sent fl a n s t := by
  have hR := reach_spec (a := a) hN (show 0 ≤ (s : Int) ∧ (s : Int) < n by omega)
  obtain ⟨v, hv⟩ := Option.isSome_iff_exists.1 hq
  obtain ⟨hP, hlen⟩ := path_spec hR (.inr (mget_some_mem hv))
  have hpos := mostL_pos (fl := fl) (a := a) (m := min (over fl a s) (-over fl a t)) (by omega) _ hP.ways
  obtain ⟨hm1, hm2⟩ := mostL_le (fl := fl) (a := a) (min (over fl a s) (-over fl a t)) (pathM fl (reachM fl a s) s t)
  have hin := inb_send (Int.le_of_lt hpos) (pathM fl (reachM fl a s) s t) a h hP.nodup fun w hw => ⟨(hP.ways w hw).1, hm2 w hw⟩
  have hov := send_over (fl := fl) h.1 (mostL fl a (min (over fl a s) (-over fl a t)) (pathM fl (reachM fl a s) s t)) _ a _ _ h.1 (fun w hw => (hP.ways w hw).1) hP.trail
  refine ⟨hin, ?_, hP, Nat.le_trans hlen hR.few, hpos⟩
  unfold muS sendS
  generalize mostL fl a (min (over fl a s) (-over fl a t)) (pathM fl (reachM fl a s) s t) = m at *
  generalize sendM a (pathM fl (reachM fl a s) s t) m = b at *
  have hne : s ≠ t := fun e => by subst e; omega
  have e1 : sumN (fun c : Nat => max (over fl b c) 0) n = sumN (fun c : Nat => max (over fl a c) 0) n + (max (over fl b s) 0 - max (over fl a s) 0) := by
    refine sumN_set hs fun i hi hn => ?_
    rw [hov i, ind_no (p := (s : Int) = i) (by omega)]
    by_cases e : t = i
    · subst e; rw [ind_yes rfl]; omega
    · rw [ind_no (by omega)]; omega
  have e2 : over fl b s = over fl a s - m := by rw [hov s, ind_no (by omega), ind_yes rfl]; omega
  have h0 := sumN_nonneg (f := fun c : Nat => max (over fl b c) 0) (n := n) fun i _ => by show 0 ≤ max _ 0; omega
  rw [e1, e2] at h0 ⊢
  omega
structure SSpec (fl : List Flow) (n : Nat) (r : Int × Bool × List Int) : Prop where
  inb : Inb fl r.2.2
  yes : r.2.1 = false → Even fl n r.2.2 ∧ r.1 = 0
  no : r.2.1 = true → (0 ≤ r.1 ∧ r.1 < n) ∧ 0 < over fl r.2.2 r.1 ∧ ∀ c : Nat, c < n → Met (reachM fl r.2.2 r.1) r.1 c → 0 ≤ over fl r.2.2 c
theorem settle_spec (hN : Net fl n) (h : Inb fl a) : SSpec fl n (settleM fl n a) := by
  refine outI_ind (Inb fl) (SSpec fl n) (muS fl n) (fun a h => ?_) a h
  unfold stepS
  by_cases h1 : hasM fl a n < 0
  · rw [if_pos h1]
    exact .inr ⟨_, rfl, h, fun _ => ⟨even_of hN (has_none h1), rfl⟩, fun e => by cases e⟩
  · rw [if_neg h1]
    obtain ⟨s, s1, s2, s3⟩ := has_some h1
    rw [s2]
    by_cases h2 : lackM fl a n (reachM fl a s) < 0
    · rw [if_pos h2]
      refine .inr ⟨_, rfl, h, (fun e => by cases e), fun _ => ⟨by show 0 ≤ (s : Int) ∧ (s : Int) < n; omega, s3, fun c hc hm => ?_⟩⟩
      rcases hm with hm | hm
      · have e : (c : Int) = s := hm
        show 0 ≤ over fl a c
        rw [e]; exact Int.le_of_lt s3
      · obtain ⟨v, hv⟩ := mem_mget hm
        exact lack_none h2 c hc (by rw [hv]; rfl)
    · rw [if_neg h2]
      obtain ⟨t, t1, t2, t3, t4⟩ := lack_some h2
      rw [t2]
      have hS := sent hN h s1 t1 s3 t3 t4
      exact .inl ⟨_, rfl, hS.inb, hS.less⟩
open Classical in
theorem SSpec.none (hN : Net fl n) {r : Int × Bool × List Int} (h : SSpec fl n r) (e : r.2.1 = true) : ¬ ∃ a, Feas fl n a := by
  obtain ⟨h1, h2, h3⟩ := h.no e
  have hR := reach_spec (a := r.2.2) hN h1
  obtain ⟨c, hc⟩ : ∃ c : Nat, (c : Int) = r.1 := ⟨r.1.toNat, by omega⟩
  refine cut_none hN h.inb (fun c => decide (Met (reachM fl r.2.2 r.1) r.1 c)) (fun w ho hm => ?_) (fun c hc hm => h3 c hc (of_decide_eq_true hm)) (c0 := c) (by omega) (decide_eq_true (.inl hc)) (by rw [hc]; exact h2)
  exact decide_eq_true (hR.closed w ho (of_decide_eq_true hm))
theorem SSpec.some {r : Int × Bool × List Int} (h : SSpec fl n r) (e : r.2.1 = false) : Feas fl n r.2.2 := ⟨h.inb, (h.yes e).1⟩
end
end Go.Proofs.YtelbollidfdcjaaGreat

namespace Go.Proofs.YtelbollidfdcjaaGreat
open Go Go.T
section
variable {fl : List Flow} {a : List Int} {n : Nat} {G : Nat → Int} {w : Way}
def addW (G : Nat → Int) (w : Way) : Int := sgn w (G w.ix)
theorem addW_le (hG : ∀ i, -1 ≤ G i ∧ G i ≤ 1) (w : Way) : -1 ≤ addW G w ∧ addW G w ≤ 1 := by
  have := hG w.ix
  unfold addW sgn; cases w.more <;> simp <;> omega
structure FSt where
  worth : List Int
  by_ : List Way
  at_ : Int
def gains (fl : List Flow) (G : Nat → Int) (st : FSt) (c : Nat) (w : Way) : Bool := decide (nth st.worth c + addW G w > nth st.worth (w.fin fl).toNat)
def gain (fl : List Flow) (G : Nat → Int) (st : FSt) (c : Nat) (w : Way) : FSt := ⟨st.worth.set (w.fin fl).toNat (nth st.worth c + addW G w), st.by_.set (w.fin fl).toNat w, w.fin fl⟩
structure FPl where
  r : Nat
  c : Nat
  j : Nat
  st : FSt
def stepF (fl : List Flow) (a : List Int) (n : Nat) (G : Nat → Int) (x : FPl) : FPl ⊕ Option FSt :=
  if n ≤ x.r then .inr none
  else if n ≤ x.c then (if x.st.at_ < 0 then .inr none else .inl ⟨x.r + 1, 0, 0, ⟨x.st.worth, x.st.by_, -1⟩⟩)
  else if (waysL fl a x.c).length ≤ x.j then .inl ⟨x.r, x.c + 1, 0, x.st⟩
  else if gains fl G x.st x.c (nth (waysL fl a x.c) x.j) = true then
    (if x.r + 1 = n then .inr (some (gain fl G x.st x.c (nth (waysL fl a x.c) x.j))) else .inl ⟨x.r, x.c, x.j + 1, gain fl G x.st x.c (nth (waysL fl a x.c) x.j)⟩)
  else .inl ⟨x.r, x.c, x.j + 1, x.st⟩
def st0 (n : Nat) : FSt := ⟨List.replicate n 0, List.replicate n default, -1⟩
noncomputable def roundM (fl : List Flow) (a : List Int) (n : Nat) (G : Nat → Int) : Option FSt := outI (stepF fl a n G) ⟨0, 0, 0, st0 n⟩
section
variable {x : FPl}
theorem stepF_stop (h : ¬ n ≤ x.r) (hc : n ≤ x.c) (ha : x.st.at_ < 0) : stepF fl a n G x = .inr none := by unfold stepF; rw [if_neg h, if_pos hc, if_pos ha]
theorem stepF_round (h : ¬ n ≤ x.r) (hc : n ≤ x.c) (ha : ¬ x.st.at_ < 0) : stepF fl a n G x = .inl ⟨x.r + 1, 0, 0, ⟨x.st.worth, x.st.by_, -1⟩⟩ := by unfold stepF; rw [if_neg h, if_pos hc, if_neg ha]
theorem stepF_cell (h : ¬ n ≤ x.r) (hc : ¬ n ≤ x.c) (hj : (waysL fl a x.c).length ≤ x.j) : stepF fl a n G x = .inl ⟨x.r, x.c + 1, 0, x.st⟩ := by unfold stepF; rw [if_neg h, if_neg hc, if_pos hj]
theorem stepF_no (h : ¬ n ≤ x.r) (hc : ¬ n ≤ x.c) (hj : ¬ (waysL fl a x.c).length ≤ x.j) (hg : gains fl G x.st x.c (nth (waysL fl a x.c) x.j) = false) : stepF fl a n G x = .inl ⟨x.r, x.c, x.j + 1, x.st⟩ := by
  unfold stepF; rw [if_neg h, if_neg hc, if_neg hj, if_neg (by rw [hg]; decide)]
theorem stepF_yes (h : ¬ n ≤ x.r) (hc : ¬ n ≤ x.c) (hj : ¬ (waysL fl a x.c).length ≤ x.j) (hg : gains fl G x.st x.c (nth (waysL fl a x.c) x.j) = true) (hr : ¬ x.r + 1 = n) : stepF fl a n G x = .inl ⟨x.r, x.c, x.j + 1, gain fl G x.st x.c (nth (waysL fl a x.c) x.j)⟩ := by
  unfold stepF; rw [if_neg h, if_neg hc, if_neg hj, if_pos hg, if_neg hr]
theorem stepF_last (h : ¬ n ≤ x.r) (hc : ¬ n ≤ x.c) (hj : ¬ (waysL fl a x.c).length ≤ x.j) (hg : gains fl G x.st x.c (nth (waysL fl a x.c) x.j) = true) (hr : x.r + 1 = n) : stepF fl a n G x = .inr (some (gain fl G x.st x.c (nth (waysL fl a x.c) x.j))) := by
  unfold stepF; rw [if_neg h, if_neg hc, if_neg hj, if_pos hg, if_pos hr]
end
structure Gh (fl : List Flow) (a : List Int) (n : Nat) (G : Nat → Int) (r : Nat) (st : FSt) (R T : Nat → Nat) (τ : Nat) : Prop where
  len : st.worth.length = n ∧ st.by_.length = n
  zero : ∀ v, v < n → R v = 0 → nth st.worth v = 0 ∧ T v = 0
  le : ∀ v, v < n → R v ≤ r + 1 ∧ T v ≤ τ ∧ 0 ≤ nth st.worth v ∧ nth st.worth v ≤ τ
  way : ∀ v, v < n → 0 < R v → Open fl a (nth st.by_ v) ∧ (nth st.by_ v).fin fl = v ∧
    nth st.worth v ≤ nth st.worth ((nth st.by_ v).beg fl).toNat + addW G (nth st.by_ v) ∧
    (T v < T ((nth st.by_ v).beg fl).toNat → nth st.worth v < nth st.worth ((nth st.by_ v).beg fl).toNat + addW G (nth st.by_ v)) ∧
    R v ≤ R ((nth st.by_ v).beg fl).toNat + 1 ∧ 0 < T v
  one : ∀ u v, u < n → v < n → 0 < R u → 0 < R v → T u = T v → u = v
  at_ : (st.at_ = -1 ∧ ∀ v, v < n → R v ≤ r) ∨ ∃ v : Nat, v < n ∧ st.at_ = v ∧ R v = r + 1
def doneF (x : FPl) (c k : Nat) : Nat := if c < x.c ∨ c = x.c ∧ k < x.j then x.r + 1 else x.r
structure FInv (fl : List Flow) (a : List Int) (n : Nat) (G : Nat → Int) (x : FPl) : Prop where
  r : x.r < n
  c : x.c ≤ n
  j : x.j ≤ 2 * fl.length ∧ (x.c = n → x.j = 0)
  last : x.r + 1 = n → x.st.at_ = -1
  gh : ∃ R T τ, Gh fl a n G x.r x.st R T τ ∧ τ ≤ x.r * (n * (2 * fl.length)) + (x.c * (2 * fl.length) + x.j) ∧
    ∀ c k, c < n → k < (waysL fl a c).length → doneF x c k = 0 ∨ nth x.st.worth c + addW G (nth (waysL fl a c) k) ≤ nth x.st.worth ((nth (waysL fl a c) k).fin fl).toNat ∨ doneF x c k ≤ R c
theorem nth_rep {α : Type} [Inhabited α] (n : Nat) (v : α) (k : Nat) (h : k < n) : nth (List.replicate n v) k = v := by
  unfold nth; rw [List.getD_eq_getElem?_getD, List.getElem?_replicate, if_pos h]; rfl
theorem finv0 (hn : 0 < n) : FInv fl a n G ⟨0, 0, 0, st0 n⟩ := by
  refine ⟨hn, Nat.zero_le _, ⟨Nat.zero_le _, fun _ => rfl⟩, fun _ => rfl, fun _ => 0, fun _ => 0, 0, ⟨⟨by simp [st0], by simp [st0]⟩, fun v hv _ => ⟨nth_rep _ _ _ hv, rfl⟩, fun v hv => ?_, fun v _ h => absurd h (Nat.lt_irrefl 0), fun u v _ _ h => absurd h (Nat.lt_irrefl 0), .inl ⟨rfl, fun v _ => Nat.le_refl _⟩⟩, Nat.zero_le _, fun c k _ _ => .inl ?_⟩
  · have : nth (st0 n).worth v = 0 := nth_rep _ _ _ hv
    rw [this]; exact ⟨Nat.zero_le _, Nat.le_refl _, Int.le_refl _, Int.le_refl _⟩
  · unfold doneF; rw [if_neg (by simp)]
theorem waysI {c k : Nat} (h : k < (waysL fl a c).length) : Open fl a (nth (waysL fl a c) k) ∧ (nth (waysL fl a c) k).beg fl = c := mem_ways.1 (nth_mem h)
variable {x : FPl}
theorem FInv.cell (h : FInv fl a n G x) (hc : ¬ n ≤ x.c) (hj : (waysL fl a x.c).length ≤ x.j) : FInv fl a n G ⟨x.r, x.c + 1, 0, x.st⟩ := by
  obtain ⟨R, T, τ, h1, h2, h3⟩ := h.gh
  refine ⟨h.r, by show x.c + 1 ≤ n; omega, ⟨Nat.zero_le _, fun _ => rfl⟩, h.last, R, T, τ, h1, ?_, fun c k hc' hk => ?_⟩
  · have e1 : (x.c + 1) * (2 * fl.length) = x.c * (2 * fl.length) + 2 * fl.length := Nat.succ_mul _ _
    have := h.j.1
    show τ ≤ x.r * (n * (2 * fl.length)) + ((x.c + 1) * (2 * fl.length) + 0)
    generalize x.r * (n * (2 * fl.length)) = A at *
    generalize (x.c + 1) * (2 * fl.length) = B at *
    generalize x.c * (2 * fl.length) = C at *
    omega
  · have e : doneF ⟨x.r, x.c + 1, 0, x.st⟩ c k = doneF x c k := by
      unfold doneF
      by_cases e : c < x.c ∨ c = x.c ∧ k < x.j
      · rw [if_pos e, if_pos (by show c < x.c + 1 ∨ _; omega)]
      · rw [if_neg e]
        by_cases e2 : c = x.c
        · subst e2; omega
        · rw [if_neg (by show ¬ (c < x.c + 1 ∨ c = x.c + 1 ∧ k < 0); omega)]
    rw [e]; exact h3 c k hc' hk
theorem FInv.round (h : FInv fl a n G x) (hc : n ≤ x.c) (hr : ¬ x.r + 1 = n) : FInv fl a n G ⟨x.r + 1, 0, 0, ⟨x.st.worth, x.st.by_, -1⟩⟩ := by
  obtain ⟨R, T, τ, h1, h2, h3⟩ := h.gh
  have ec : x.c = n := Nat.le_antisymm h.c hc
  refine ⟨by show x.r + 1 < n; have := h.r; omega, Nat.zero_le _, ⟨Nat.zero_le _, fun _ => rfl⟩, fun _ => rfl, R, T, τ, ⟨h1.len, h1.zero, fun v hv => ?_, h1.way, h1.one, .inl ⟨rfl, fun v hv => (h1.le v hv).1⟩⟩, ?_, fun c k hc' hk => ?_⟩
  · have := h1.le v hv
    exact ⟨by show R v ≤ x.r + 1 + 1; omega, this.2⟩
  · have e1 : (x.r + 1) * (n * (2 * fl.length)) = x.r * (n * (2 * fl.length)) + n * (2 * fl.length) := Nat.succ_mul _ _
    show τ ≤ (x.r + 1) * (n * (2 * fl.length)) + (0 * (2 * fl.length) + 0)
    rw [ec, h.j.2 ec] at h2
    generalize (x.r + 1) * (n * (2 * fl.length)) = A at *
    omega
  · have e : doneF ⟨x.r + 1, 0, 0, ⟨x.st.worth, x.st.by_, -1⟩⟩ c k = doneF x c k := by
      unfold doneF
      rw [if_neg (show ¬ (c < 0 ∨ c = 0 ∧ k < 0) by omega), if_pos (show c < x.c ∨ c = x.c ∧ k < x.j by omega)]
    rw [e]; exact h3 c k hc' hk
theorem doneF_next {st : FSt} {c k : Nat} : doneF ⟨x.r, x.c, x.j + 1, st⟩ c k = if c = x.c ∧ k = x.j then x.r + 1 else doneF x c k := by
  unfold doneF
  by_cases e : c = x.c ∧ k = x.j
  · rw [if_pos e, if_pos (by show c < x.c ∨ c = x.c ∧ k < x.j + 1; omega)]
  · rw [if_neg e]
    by_cases e2 : c < x.c ∨ c = x.c ∧ k < x.j
    · rw [if_pos e2, if_pos (by show c < x.c ∨ c = x.c ∧ k < x.j + 1; omega)]
    · rw [if_neg e2, if_neg (by show ¬ (c < x.c ∨ c = x.c ∧ k < x.j + 1); omega)]
theorem FInv.no (h : FInv fl a n G x) (hc : ¬ n ≤ x.c) (hj : ¬ (waysL fl a x.c).length ≤ x.j) (hg : gains fl G x.st x.c (nth (waysL fl a x.c) x.j) = false) : FInv fl a n G ⟨x.r, x.c, x.j + 1, x.st⟩ := by
  obtain ⟨R, T, τ, h1, h2, h3⟩ := h.gh
  have hl := ways_len (fl := fl) (a := a) (c := x.c)
  refine ⟨h.r, h.c, ⟨by show x.j + 1 ≤ _; omega, fun e => absurd (show x.c = n from e) (by omega)⟩, h.last, R, T, τ, h1, Nat.le_trans h2 (show x.r * (n * (2 * fl.length)) + (x.c * (2 * fl.length) + x.j) ≤ x.r * (n * (2 * fl.length)) + (x.c * (2 * fl.length) + (x.j + 1)) by omega), fun c k hc' hk => ?_⟩
  rw [doneF_next]
  by_cases e : c = x.c ∧ k = x.j
  · rw [if_pos e]
    obtain ⟨e1, e2⟩ := e; subst e1; subst e2
    unfold gains at hg
    rw [decide_eq_false_iff_not] at hg
    exact .inr (.inl (show nth x.st.worth x.c + _ ≤ nth x.st.worth _ by omega))
  · rw [if_neg e]; exact h3 c k hc' hk
theorem gain_gh (hN : Net fl n) (hG : ∀ i, -1 ≤ G i ∧ G i ≤ 1) (h : FInv fl a n G x) (hc : ¬ n ≤ x.c) (hj : ¬ (waysL fl a x.c).length ≤ x.j) (hg : gains fl G x.st x.c (nth (waysL fl a x.c) x.j) = true) :
    ∃ R T τ, Gh fl a n G x.r (gain fl G x.st x.c (nth (waysL fl a x.c) x.j)) R T τ ∧ τ ≤ x.r * (n * (2 * fl.length)) + (x.c * (2 * fl.length) + (x.j + 1)) ∧ R ((nth (waysL fl a x.c) x.j).fin fl).toNat = x.r + 1 ∧
    ∀ c k, c < n → k < (waysL fl a c).length → doneF ⟨x.r, x.c, x.j + 1, gain fl G x.st x.c (nth (waysL fl a x.c) x.j)⟩ c k = 0 ∨ nth (gain fl G x.st x.c (nth (waysL fl a x.c) x.j)).worth c + addW G (nth (waysL fl a c) k) ≤ nth (gain fl G x.st x.c (nth (waysL fl a x.c) x.j)).worth ((nth (waysL fl a c) k).fin fl).toNat ∨ doneF ⟨x.r, x.c, x.j + 1, gain fl G x.st x.c (nth (waysL fl a x.c) x.j)⟩ c k ≤ R c := by
  obtain ⟨R, T, τ, h1, h2, h3⟩ := h.gh
  obtain ⟨ho, hb⟩ := waysI (fl := fl) (a := a) (c := x.c) (k := x.j) (by omega)
  have h3c := h3 x.c x.j (by omega) (by omega)
  generalize hw : nth (waysL fl a x.c) x.j = w at *
  obtain ⟨_, ⟨hf0, hfn⟩, hne⟩ := hN.way ho.1
  obtain ⟨t, ht⟩ : ∃ t : Nat, (t : Int) = w.fin fl := ⟨(w.fin fl).toNat, by omega⟩
  have htt : (w.fin fl).toNat = t := by omega
  have htn : t < n := by omega
  have hxt : x.c ≠ t := fun e => hne (by rw [hb, ← ht, e])
  unfold gains at hg
  rw [decide_eq_true_eq, htt] at hg
  have hRc : x.r ≤ R x.c := by
    have e : doneF x x.c x.j = x.r := by unfold doneF; rw [if_neg (by omega)]
    rw [e, htt] at h3c
    rcases h3c with h | h | h
    · omega
    · omega
    · exact h
  obtain ⟨hl1, hl2⟩ := h1.len
  have nw : ∀ v, v < n → nth (gain fl G x.st x.c w).worth v = if t = v then nth x.st.worth x.c + addW G w else nth x.st.worth v := fun v hv => by
    show nth (x.st.worth.set _ _) v = _; rw [htt, nthA_set (by omega)]
  have nb : ∀ v, v < n → nth (gain fl G x.st x.c w).by_ v = if t = v then w else nth x.st.by_ v := fun v hv => by
    show nth (x.st.by_.set _ _) v = _; rw [htt, nthA_set (by omega)]
  have up : ∀ v, v < n → nth x.st.worth v ≤ nth (gain fl G x.st x.c w).worth v := fun v hv => by
    rw [nw v hv]; split
    · rename_i e; subst e; omega
    · exact Int.le_refl _
  have begn : ∀ v, v < n → 0 < R v → ((nth x.st.by_ v).beg fl).toNat < n := fun v hv hR => by
    have := (hN.way (h1.way v hv hR).1.1).1; omega
  refine ⟨fun v => if v = t then x.r + 1 else R v, fun v => if v = t then τ + 1 else T v, τ + 1, ⟨⟨by show (x.st.worth.set _ _).length = n; rw [List.length_set]; exact hl1, by show (x.st.by_.set _ _).length = n; rw [List.length_set]; exact hl2⟩, fun v hv hR => ?_, fun v hv => ?_, fun v hv hR => ?_, fun u v hu hv hRu hRv e => ?_, .inr ⟨t, htn, ht.symm, if_pos rfl⟩⟩, by omega, by show (if (w.fin fl).toNat = t then _ else _) = _; rw [if_pos htt], fun c k hc' hk => ?_⟩
  · have hvt : v ≠ t := fun e => by
      have hR : (if v = t then x.r + 1 else R v) = 0 := hR
      rw [if_pos e] at hR; omega
    have hR : (if v = t then x.r + 1 else R v) = 0 := hR
    rw [if_neg hvt] at hR
    show _ ∧ (if v = t then τ + 1 else T v) = 0
    rw [if_neg hvt, nw v hv, if_neg (fun e => hvt e.symm)]
    exact h1.zero v hv hR
  · have hl := h1.le v hv
    have hlc := h1.le x.c (by omega)
    have hlt := h1.le t htn
    have hw1 := addW_le hG w
    show (if v = t then x.r + 1 else R v) ≤ x.r + 1 ∧ (if v = t then τ + 1 else T v) ≤ τ + 1 ∧ _
    rw [nw v hv]
    by_cases e : v = t
    · subst e
      rw [if_pos rfl, if_pos rfl, if_pos rfl]
      refine ⟨Nat.le_refl _, Nat.le_refl _, ?_, ?_⟩ <;> omega
    · rw [if_neg e, if_neg e, if_neg (fun h => e h.symm)]
      refine ⟨hl.1, ?_, hl.2.2.1, ?_⟩ <;> omega
  · show _ ∧ _ ∧ _ ∧ ((if v = t then τ + 1 else T v) < (if _ = t then τ + 1 else T _) → _) ∧ (if v = t then x.r + 1 else R v) ≤ (if _ = t then x.r + 1 else R _) + 1 ∧ 0 < (if v = t then τ + 1 else T v)
    have hR : 0 < (if v = t then x.r + 1 else R v) := hR
    rw [nb v hv, nw v hv]
    by_cases e : v = t
    · subst e
      rw [if_pos rfl, if_pos rfl, if_pos rfl, if_pos rfl]
      have e1 : (w.beg fl).toNat = x.c := by rw [hb]; omega
      rw [e1, nw x.c (by omega), if_neg (fun h => hxt h.symm), if_neg hxt, if_neg hxt]
      refine ⟨ho, ht.symm, Int.le_refl _, fun h => ?_, by omega, by omega⟩
      have := (h1.le x.c (by omega)).2.1; omega
    · rw [if_neg e, if_neg (fun h => e h.symm), if_neg (fun h => e h.symm), if_neg e]
      rw [if_neg e] at hR
      obtain ⟨b1, b2, b3, b4, b5, b6⟩ := h1.way v hv hR
      have hbn := begn v hv hR
      have hu := up _ hbn
      refine ⟨b1, b2, by omega, fun h => ?_, ?_, b6⟩
      · by_cases e2 : ((nth x.st.by_ v).beg fl).toNat = t
        · rw [e2] at hu b3 ⊢
          have : nth x.st.worth t < nth (gain fl G x.st x.c w).worth t := by rw [nw t htn, if_pos rfl]; omega
          omega
        · rw [if_neg e2] at h
          have := b4 h; omega
      · by_cases e2 : ((nth x.st.by_ v).beg fl).toNat = t
        · rw [if_pos e2]; have := (h1.le v hv).1; omega
        · rw [if_neg e2]; exact b5
  · have e : (if u = t then τ + 1 else T u) = (if v = t then τ + 1 else T v) := e
    have hRu : 0 < (if u = t then x.r + 1 else R u) := hRu
    have hRv : 0 < (if v = t then x.r + 1 else R v) := hRv
    have a1 := (h1.le u hu).2.1
    have a2 := (h1.le v hv).2.1
    by_cases e1 : u = t
    · by_cases e2 : v = t
      · rw [e1, e2]
      · rw [if_pos e1, if_neg e2] at e; omega
    · by_cases e2 : v = t
      · rw [if_neg e1, if_pos e2] at e; omega
      · rw [if_neg e1, if_neg e2] at e
        rw [if_neg e1] at hRu; rw [if_neg e2] at hRv
        exact h1.one u v hu hv hRu hRv e
  · rw [doneF_next]
    show _ ∨ _ ∨ _ ≤ (if c = t then x.r + 1 else R c)
    have hd : doneF x c k ≤ x.r + 1 := by unfold doneF; split <;> omega
    by_cases ect : c = t
    · rw [if_pos ect]
      refine .inr (.inr ?_)
      split <;> omega
    · rw [if_neg ect]
      have hu := up ((nth (waysL fl a c) k).fin fl).toNat (by have := (hN.way (waysI hk).1.1).2.1; omega)
      have nwc : nth (gain fl G x.st x.c w).worth c = nth x.st.worth c := by rw [nw c hc', if_neg (fun h => ect h.symm)]
      rw [nwc]
      by_cases e : c = x.c ∧ k = x.j
      · rw [if_pos e]
        obtain ⟨e1, e2⟩ := e; subst e1; subst e2
        rw [hw, htt, nw t htn, if_pos rfl]
        exact .inr (.inl (Int.le_refl _))
      · rw [if_neg e]
        rcases h3 c k hc' hk with h | h | h
        · exact .inl h
        · exact .inr (.inl (by omega))
        · exact .inr (.inr h)
theorem FInv.yes (hN : Net fl n) (hG : ∀ i, -1 ≤ G i ∧ G i ≤ 1) (h : FInv fl a n G x) (hc : ¬ n ≤ x.c) (hj : ¬ (waysL fl a x.c).length ≤ x.j) (hg : gains fl G x.st x.c (nth (waysL fl a x.c) x.j) = true) (hr : ¬ x.r + 1 = n) :
    FInv fl a n G ⟨x.r, x.c, x.j + 1, gain fl G x.st x.c (nth (waysL fl a x.c) x.j)⟩ := by
  obtain ⟨R, T, τ, h1, h2, _, h4⟩ := gain_gh hN hG h hc hj hg
  have hl := ways_len (fl := fl) (a := a) (c := x.c)
  exact ⟨h.r, h.c, ⟨by show x.j + 1 ≤ _; omega, fun e => absurd (show x.c = n from e) (by omega)⟩, fun e => absurd e hr, R, T, τ, h1, h2, h4⟩
inductive FOut (fl : List Flow) (a : List Int) (n : Nat) (G : Nat → Int) : Option FSt → Prop where
  | none (p : Int → Int) (h : ∀ w, Open fl a w → p (w.beg fl) + addW G w ≤ p (w.fin fl)) : FOut fl a n G none
  | some (st : FSt) (R T : Nat → Nat) (τ : Nat) (v : Nat) (h : Gh fl a n G (n - 1) st R T τ) (hv : v < n) (e : st.at_ = v) (hR : R v = n) : FOut fl a n G (some st)
theorem FInv.none (hN : Net fl n) (h : FInv fl a n G x) (hc : n ≤ x.c) (ha : x.st.at_ < 0) : FOut fl a n G none := by
  obtain ⟨R, T, τ, h1, h2, h3⟩ := h.gh
  have hR : ∀ v, v < n → R v ≤ x.r := by
    rcases h1.at_ with ⟨_, h⟩ | ⟨v, _, e, _⟩
    · exact h
    · omega
  refine .none (fun c => nth x.st.worth c.toNat) fun w ho => ?_
  obtain ⟨⟨b0, bn⟩, _, _⟩ := hN.way ho.1
  obtain ⟨c, hc'⟩ : ∃ c : Nat, (c : Int) = w.beg fl := ⟨(w.beg fl).toNat, by omega⟩
  have hm : w ∈ waysL fl a c := mem_ways.2 ⟨ho, hc'.symm⟩
  obtain ⟨k, hk, e⟩ := mem_nth hm
  subst e
  have h4 := h3 c k (by omega) hk
  have e : doneF x c k = x.r + 1 := if_pos (.inl (by omega))
  rw [e] at h4
  have := hR c (by omega)
  show nth x.st.worth (Way.beg _ fl).toNat + _ ≤ nth x.st.worth _
  rw [← hc', Int.toNat_natCast]
  rcases h4 with h | h | h <;> omega
theorem FInv.found (hN : Net fl n) (hG : ∀ i, -1 ≤ G i ∧ G i ≤ 1) (h : FInv fl a n G x) (hc : ¬ n ≤ x.c) (hj : ¬ (waysL fl a x.c).length ≤ x.j) (hg : gains fl G x.st x.c (nth (waysL fl a x.c) x.j) = true) (hr : x.r + 1 = n) :
    FOut fl a n G (some (gain fl G x.st x.c (nth (waysL fl a x.c) x.j))) := by
  obtain ⟨R, T, τ, h1, _, h3, _⟩ := gain_gh hN hG h hc hj hg
  have hb := (hN.way (waysI (fl := fl) (a := a) (c := x.c) (k := x.j) (by omega)).1.1).2.1
  refine .some _ R T τ ((nth (waysL fl a x.c) x.j).fin fl).toNat (by rw [show n - 1 = x.r by omega]; exact h1) (by omega) ?_ (h3.trans hr)
  show Way.fin _ fl = _; omega
def muF (fl : List Flow) (n : Nat) (x : FPl) : Nat := (n - x.r) * ((n + 1) * (2 * fl.length + 2)) + ((n - x.c) * (2 * fl.length + 2) + (2 * fl.length + 1 - x.j))
theorem muF_j (hj : x.j < 2 * fl.length) (st : FSt) : muF fl n ⟨x.r, x.c, x.j + 1, st⟩ < muF fl n x := by
  unfold muF
  show (n - x.r) * ((n + 1) * (2 * fl.length + 2)) + ((n - x.c) * (2 * fl.length + 2) + (2 * fl.length + 1 - (x.j + 1))) < _
  omega
theorem muF_c (hc : x.c < n) (hj : x.j ≤ 2 * fl.length) (st : FSt) : muF fl n ⟨x.r, x.c + 1, 0, st⟩ < muF fl n x := by
  unfold muF
  show (n - x.r) * ((n + 1) * (2 * fl.length + 2)) + ((n - (x.c + 1)) * (2 * fl.length + 2) + (2 * fl.length + 1 - 0)) < _
  have e : (n - x.c) * (2 * fl.length + 2) = (n - (x.c + 1)) * (2 * fl.length + 2) + (2 * fl.length + 2) := by
    rw [show n - x.c = (n - (x.c + 1)) + 1 by omega, Nat.succ_mul]
  rw [e]
  generalize (n - (x.c + 1)) * (2 * fl.length + 2) = A
  omega
theorem muF_r (hr : x.r < n) (st : FSt) : muF fl n ⟨x.r + 1, 0, 0, st⟩ < muF fl n x := by
  unfold muF
  show (n - (x.r + 1)) * ((n + 1) * (2 * fl.length + 2)) + ((n - 0) * (2 * fl.length + 2) + (2 * fl.length + 1 - 0)) < _
  have e : (n - x.r) * ((n + 1) * (2 * fl.length + 2)) = (n - (x.r + 1)) * ((n + 1) * (2 * fl.length + 2)) + (n + 1) * (2 * fl.length + 2) := by
    rw [show n - x.r = (n - (x.r + 1)) + 1 by omega, Nat.succ_mul]
  have e2 : (n + 1) * (2 * fl.length + 2) = n * (2 * fl.length + 2) + (2 * fl.length + 2) := Nat.succ_mul _ _
  rw [e, e2, Nat.sub_zero]
  generalize (n - (x.r + 1)) * (n * (2 * fl.length + 2) + (2 * fl.length + 2)) = A
  generalize n * (2 * fl.length + 2) = B
  omega
theorem round_spec (hN : Net fl n) (hn : 0 < n) (hG : ∀ i, -1 ≤ G i ∧ G i ≤ 1) : FOut fl a n G (roundM fl a n G) := by
  refine outI_ind (FInv fl a n G) (FOut fl a n G) (muF fl n) (fun x h => ?_) _ (finv0 hn)
  have hr : ¬ n ≤ x.r := by have := h.r; omega
  by_cases hc : n ≤ x.c
  · by_cases ha : x.st.at_ < 0
    · exact .inr ⟨_, stepF_stop hr hc ha, h.none hN hc ha⟩
    · exact .inl ⟨_, stepF_round hr hc ha, h.round hc (fun e => ha (by rw [h.last e]; decide)), muF_r h.r _⟩
  · by_cases hj : (waysL fl a x.c).length ≤ x.j
    · exact .inl ⟨_, stepF_cell hr hc hj, h.cell hc hj, muF_c (by omega) h.j.1 _⟩
    · have hl := ways_len (fl := fl) (a := a) (c := x.c)
      cases hg : gains fl G x.st x.c (nth (waysL fl a x.c) x.j) with
      | false => exact .inl ⟨_, stepF_no hr hc hj hg, h.no hc hj hg, muF_j (by omega) _⟩
      | true =>
        by_cases hl : x.r + 1 = n
        · exact .inr ⟨_, stepF_last hr hc hj hg hl, h.found hN hG hc hj hg hl⟩
        · exact .inl ⟨_, stepF_yes hr hc hj hg hl, h.yes hN hG hc hj hg hl, muF_j (by omega) _⟩
end
end Go.Proofs.YtelbollidfdcjaaGreat

namespace Go.Proofs.YtelbollidfdcjaaGreat
open Go Go.T
theorem least_nat {p : Nat → Prop} (h : ∃ n, p n) : ∃ n, p n ∧ ∀ m, m < n → ¬ p m := by
  obtain ⟨n, hn⟩ := h
  induction n using Nat.strongRecOn with
  | _ n ih =>
    by_cases e : ∃ m, m < n ∧ p m
    · obtain ⟨m, hm, hp⟩ := e; exact ih m hm hp
    · exact ⟨n, hn, fun m hm hp => e ⟨m, hm, hp⟩⟩
def itN (f : Nat → Nat) : Nat → Nat → Nat
  | 0, x => x
  | k + 1, x => f (itN f k x)
theorem itN_add (f : Nat → Nat) (k x : Nat) : ∀ j, itN f (j + k) x = itN f j (itN f k x)
  | 0 => by rw [Nat.zero_add]; rfl
  | j + 1 => by rw [Nat.succ_add]; show f (itN f (j + k) x) = f _; rw [itN_add f k x j]
theorem sum_range (f : Nat → Int) : ∀ n, ((List.range n).map f).sum = sumN f n
  | 0 => rfl
  | n + 1 => by rw [List.range_succ, List.map_append, List.sum_append, sum_range f n]; simp [sumN]
theorem sumN_tele (f : Nat → Int) : ∀ n, sumN (fun t => f t - f (t + 1)) n = f 0 - f n
  | 0 => by simp [sumN]
  | n + 1 => by unfold sumN; rw [sumN_tele f n]; omega
section
variable {fl : List Flow} {a : List Int} {n : Nat} {G : Nat → Int} {st : FSt} {R T : Nat → Nat} {τ v s : Nat}
def prevN (fl : List Flow) (st : FSt) (c : Nat) : Nat := ((nth st.by_ c).beg fl).toNat
structure Cyc (fl : List Flow) (a : List Int) (n : Nat) (G : Nat → Int) (st : FSt) (T : Nat → Nat) (s : Nat) : Prop where
  back : ∃ p, 1 ≤ p ∧ p ≤ n ∧ itN (prevN fl st) p s = s
  at_ : ∀ t, itN (prevN fl st) t s < n
  way : ∀ t, Open fl a (nth st.by_ (itN (prevN fl st) t s)) ∧ (nth st.by_ (itN (prevN fl st) t s)).fin fl = itN (prevN fl st) t s ∧
    nth st.worth (itN (prevN fl st) t s) ≤ nth st.worth (itN (prevN fl st) (t + 1) s) + addW G (nth st.by_ (itN (prevN fl st) t s)) ∧
    (T (itN (prevN fl st) t s) < T (itN (prevN fl st) (t + 1) s) → nth st.worth (itN (prevN fl st) t s) < nth st.worth (itN (prevN fl st) (t + 1) s) + addW G (nth st.by_ (itN (prevN fl st) t s)))
  one : ∀ t u, T (itN (prevN fl st) t s) = T (itN (prevN fl st) u s) → itN (prevN fl st) t s = itN (prevN fl st) u s
theorem chain_R (hN : Net fl n) (h : Gh fl a n G (n - 1) st R T τ) (hv : v < n) (hR : R v = n) : ∀ k, k ≤ n → itN (prevN fl st) k v < n ∧ n ≤ R (itN (prevN fl st) k v) + k
  | 0, _ => ⟨hv, by show n ≤ R v + 0; omega⟩
  | k + 1, hk => by
    obtain ⟨h1, h2⟩ := chain_R hN h hv hR k (by omega)
    obtain ⟨b1, _, _, _, b5, _⟩ := h.way _ h1 (by omega)
    have hb := (hN.way b1.1).1
    show prevN fl st (itN (prevN fl st) k v) < n ∧ n ≤ R (prevN fl st (itN (prevN fl st) k v)) + (k + 1)
    unfold prevN at *
    exact ⟨by omega, by omega⟩
theorem cyc_of (hN : Net fl n) (h : Gh fl a n G (n - 1) st R T τ) (hv : v < n) (hR : R v = n) : Cyc fl a n G st T (itN (prevN fl st) n v) := by
  have hch := chain_R hN h hv hR
  generalize hf : prevN fl st = f at *
  obtain ⟨i, j, hij, hjn, e⟩ : ∃ i j, i < j ∧ j ≤ n ∧ itN f i v = itN f j v := by
    refine Classical.byContradiction fun hno => ?_
    have hnd : ((List.range (n + 1)).map fun k => itN f k v).Nodup := by
      rw [List.nodup_iff_pairwise_ne, List.pairwise_map]
      refine List.pairwise_lt_range.imp_of_mem fun {x y} hx hy hlt e => hno ⟨x, y, hlt, ?_, e⟩
      have := List.mem_range.1 hy; omega
    have := nodup_bound (n := n) hnd fun y hy => by
      obtain ⟨k, hk, rfl⟩ := List.mem_map.1 hy
      have := List.mem_range.1 hk
      exact (hch k (by omega)).1
    rw [List.length_map, List.length_range] at this; omega
  have good : ∀ m, i ≤ m → ∃ m', m' < n ∧ itN f m v = itN f m' v := by
    intro m
    induction m using Nat.strongRecOn with
    | _ m ih =>
      intro hm
      by_cases c : m < j
      · exact ⟨m, by omega, rfl⟩
      · obtain ⟨m', h1, h2⟩ := ih (m - j + i) (by omega) (by omega)
        refine ⟨m', h1, ?_⟩
        rw [← h2, itN_add, e, ← itN_add]; congr 1; omega
  have all : ∀ t, itN f t (itN f n v) < n ∧ 0 < R (itN f t (itN f n v)) := fun t => by
    rw [← itN_add]
    obtain ⟨m', h1, h2⟩ := good (t + n) (by omega)
    rw [h2]
    have := hch m' (by omega)
    exact ⟨this.1, by omega⟩
  refine ⟨⟨j - i, by omega, by omega, ?_⟩, fun t => by rw [hf]; exact (all t).1, fun t => ?_, fun t u e => ?_⟩
  · rw [hf, ← itN_add, show j - i + n = (n - i) + j by omega, itN_add, ← e, ← itN_add]; congr 1; omega
  · rw [hf]
    obtain ⟨b1, b2, b3, b4, _, _⟩ := h.way _ (all t).1 (all t).2
    have e1 : itN f (t + 1) (itN f n v) = ((nth st.by_ (itN f t (itN f n v))).beg fl).toNat := by
      show f (itN f t (itN f n v)) = _; rw [← hf]; rfl
    rw [e1]
    exact ⟨b1, b2, b3, b4⟩
  · rw [hf] at *
    exact h.one _ _ (all t).1 (all u).1 (all t).2 (all u).2 e
def stepC (fl : List Flow) (st : FSt) (s : Nat) (x : Nat × List Way) : (Nat × List Way) ⊕ List Way :=
  if ¬ x.2 = [] ∧ x.1 = s then .inr x.2 else .inl (prevN fl st x.1, x.2 ++ [nth st.by_ x.1])
noncomputable def cycM (fl : List Flow) (st : FSt) (s : Nat) : List Way := outI (stepC fl st s) (s, [])
structure CSpec (fl : List Flow) (a : List Int) (n : Nat) (G : Nat → Int) (l : List Way) : Prop where
  ne : l ≠ []
  trail : ∃ s, Trail fl l s s
  ways : ∀ w ∈ l, Open fl a w
  nodup : l.Nodup
  adds : 0 < worthL G l
  few : l.length ≤ n
theorem cyc_spec (hN : Net fl n) (h : Cyc fl a n G st T s) : CSpec fl a n G (cycM fl st s) := by
  obtain ⟨p, ⟨hp1, hp2, hp3⟩, hmin⟩ := least_nat h.back
  have hfin : ∀ t, (nth st.by_ (itN (prevN fl st) t s)).fin fl = itN (prevN fl st) t s := fun t => (h.way t).2.1
  have hbeg : ∀ t, (nth st.by_ (itN (prevN fl st) t s)).beg fl = itN (prevN fl st) (t + 1) s := fun t => by
    have := (hN.way (h.way t).1.1).1
    show _ = ((((nth st.by_ (itN (prevN fl st) t s)).beg fl).toNat : Nat) : Int)
    omega
  have hone : ∀ t u, t < u → u < p → itN (prevN fl st) t s ≠ itN (prevN fl st) u s := fun t u htu hup e => by
    refine hmin (p - u + t) (by omega) ⟨by omega, by omega, ?_⟩
    rw [itN_add, e, ← itN_add, show p - u + u = p by omega, hp3]
  have hlist : cycM fl st s = (List.range p).map fun t => nth st.by_ (itN (prevN fl st) t s) := by
    refine outI_ind (fun x => ∃ i, i ≤ p ∧ x = (itN (prevN fl st) i s, (List.range i).map fun t => nth st.by_ (itN (prevN fl st) t s))) (fun l => l = (List.range p).map fun t => nth st.by_ (itN (prevN fl st) t s)) (fun x => p + 1 - x.2.length) (fun x hx => ?_) _ ⟨0, Nat.zero_le _, rfl⟩
    obtain ⟨i, hi, rfl⟩ := hx
    unfold stepC
    by_cases e : i = p
    · subst e
      refine .inr ⟨_, if_pos ⟨fun e => ?_, hp3⟩, rfl⟩
      have := congrArg List.length e
      simp at this; omega
    · refine .inl ⟨_, if_neg fun ⟨e1, e2⟩ => ?_, ⟨i + 1, by omega, ?_⟩, ?_⟩
      · by_cases c : i = 0
        · subst c; exact e1 rfl
        · exact hmin i (by omega) ⟨by omega, by omega, e2⟩
      · rw [List.range_succ, List.map_append]; rfl
      · simp; omega
  have htr : ∀ k, Trail fl ((List.range k).map fun t => nth st.by_ (itN (prevN fl st) t s)) s (itN (prevN fl st) k s) := by
    intro k
    induction k with
    | zero => exact rfl
    | succ k ih =>
      rw [List.range_succ, List.map_append, List.map_singleton, ← hbeg k]
      exact trail_end ih (hfin k)
  rw [hlist]
  refine ⟨fun e => ?_, ⟨s, ?_⟩, fun w hw => ?_, ?_, ?_, by rw [List.length_map, List.length_range]; exact hp2⟩
  · have := congrArg List.length e
    simp at this; omega
  · have := htr p
    rwa [hp3] at this
  · obtain ⟨t, _, rfl⟩ := List.mem_map.1 hw
    exact (h.way t).1
  · rw [List.nodup_iff_pairwise_ne, List.pairwise_map]
    refine List.pairwise_lt_range.imp_of_mem fun {x y} hx hy hlt e => hone x y hlt (List.mem_range.1 hy) ?_
    have := congrArg (fun w => Way.fin w fl) e
    rw [hfin, hfin] at this; omega
  · unfold worthL
    rw [List.map_map, sum_range]
    have h0 : sumN (fun t => nth st.worth (itN (prevN fl st) t s) - nth st.worth (itN (prevN fl st) (t + 1) s)) p = 0 := by
      rw [sumN_tele (fun t => nth st.worth (itN (prevN fl st) t s)), hp3]; show nth st.worth s - _ = 0; omega
    rw [← h0]
    obtain ⟨k, hk, hlt⟩ : ∃ k, k < p ∧ T (itN (prevN fl st) k s) < T (itN (prevN fl st) (k + 1) s) := by
      refine Classical.byContradiction fun hno => ?_
      have hdn : ∀ d t, t + d ≤ p → T (itN (prevN fl st) (t + d) s) ≤ T (itN (prevN fl st) t s) := by
        intro d
        induction d with
        | zero => intro t _; exact Nat.le_refl _
        | succ d ih =>
          intro t ht
          have h1 := ih t (by omega)
          have h2 : ¬ T (itN (prevN fl st) (t + d) s) < T (itN (prevN fl st) (t + d + 1) s) := fun h => hno ⟨t + d, by omega, h⟩
          show T (itN (prevN fl st) (t + d + 1) s) ≤ _
          omega
      have h1 := hdn 1 0 (by omega)
      have h2 := hdn (p - 1) 1 (by omega)
      rw [show 1 + (p - 1) = p by omega, hp3] at h2
      have h3 : T (itN (prevN fl st) 0 s) = T (itN (prevN fl st) 1 s) := by
        show T s = _
        have h1 : T (itN (prevN fl st) 1 s) ≤ T s := h1
        omega
      have h4 := h.one 0 1 h3
      have hne := (hN.way (h.way 0).1.1).2.2
      rw [hfin 0, hbeg 0, ← h4] at hne
      exact hne rfl
    refine sumN_lt hk (fun t _ => ?_) ?_
    · have := (h.way t).2.2.1
      show _ ≤ addW G (nth st.by_ (itN (prevN fl st) t s)); omega
    · have := (h.way k).2.2.2 hlt
      show _ < addW G (nth st.by_ (itN (prevN fl st) k s)); omega
noncomputable def betterM (fl : List Flow) (a : List Int) (n : Nat) (G : Nat → Int) : List Way := match roundM fl a n G with
  | none => []
  | some st => cycM fl st (itN (prevN fl st) n st.at_.toNat)
theorem better_none (h : roundM fl a n G = none) : betterM fl a n G = [] := by unfold betterM; rw [h]
theorem better_some (h : roundM fl a n G = some st) : betterM fl a n G = cycM fl st (itN (prevN fl st) n st.at_.toNat) := by unfold betterM; rw [h]
theorem better_spec (hN : Net fl n) (hn : 0 < n) (hG : ∀ i, -1 ≤ G i ∧ G i ≤ 1) : (betterM fl a n G = [] ∧ ∃ p : Int → Int, ∀ w, Open fl a w → p (w.beg fl) + addW G w ≤ p (w.fin fl)) ∨ CSpec fl a n G (betterM fl a n G) := by
  have h := round_spec (a := a) hN hn hG
  cases e : roundM fl a n G with
  | none =>
    rw [e] at h
    cases h with
    | none p hp => exact .inl ⟨better_none e, p, hp⟩
  | some st =>
    rw [e] at h
    cases h with
    | some _ R T τ v h1 hv e1 hR =>
      rw [better_some e, show st.at_.toNat = v by omega]
      exact .inr (cyc_spec hN (cyc_of hN h1 hv hR))
noncomputable def stepG (fl : List Flow) (n : Nat) (G : Nat → Int) (a : List Int) : List Int ⊕ List Int :=
  if betterM fl a n G = [] then .inr a else .inl (sendM a (betterM fl a n G) (mostL fl a 300 (betterM fl a n G)))
noncomputable def bestM (fl : List Flow) (n : Nat) (G : Nat → Int) (a : List Int) : List Int := outI (stepG fl n G) a
def goalV (fl : List Flow) (G : Nat → Int) (a : List Int) : Int := sumN (fun i => G i * nth a i) fl.length
def Bd (fl : List Flow) : Prop := ∀ i, i < fl.length → 0 ≤ (nth fl i).lo ∧ (nth fl i).hi ≤ 300
theorem goal_le (hB : Bd fl) (h : Inb fl a) (hG : ∀ i, -1 ≤ G i ∧ G i ≤ 1) : goalV fl G a ≤ 300 * fl.length := by
  refine (sumN_abs (b := 300) fun i hi => ?_).2
  have h1 := hB i hi
  have h2 := h.2 i hi
  have h3 := hG i
  have : G i = -1 ∨ G i = 0 ∨ G i = 1 := by omega
  rcases this with e | e | e <;> rw [e] <;> omega
structure Better (fl : List Flow) (a : List Int) (n : Nat) (G : Nat → Int) (b : List Int) : Prop where
  feas : Feas fl n b
  more : goalV fl G a < goalV fl G b
theorem better_next (h : Feas fl n a) {l : List Way} (hc : CSpec fl a n G l) : Better fl a n G (sendM a l (mostL fl a 300 l)) := by
  have hpos := mostL_pos (fl := fl) (a := a) (m := 300) (by decide) l hc.ways
  obtain ⟨_, hm⟩ := mostL_le (fl := fl) (a := a) 300 l
  have hix : ∀ w ∈ l, w.ix < fl.length := fun w hw => (hc.ways w hw).1
  obtain ⟨s, ht⟩ := hc.trail
  refine ⟨⟨inb_send (Int.le_of_lt hpos) l a h.1 hc.nodup fun w hw => ⟨hix w hw, hm w hw⟩, fun c hcn => ?_⟩, ?_⟩
  · rw [send_over h.1.1 _ l a s s h.1.1 hix ht, h.2 c hcn]; omega
  · unfold goalV
    rw [send_worth G _ l a h.1.1 hix]
    have := Int.mul_pos hc.adds hpos
    omega
theorem best_spec (hN : Net fl n) (hn : 0 < n) (hB : Bd fl) (hG : ∀ i, -1 ≤ G i ∧ G i ≤ 1) (h : Feas fl n a) : Feas fl n (bestM fl n G a) ∧ ∀ b, Feas fl n b → goalV fl G b ≤ goalV fl G (bestM fl n G a) := by
  refine outI_ind (Feas fl n) (fun r => Feas fl n r ∧ ∀ b, Feas fl n b → goalV fl G b ≤ goalV fl G r) (fun a => (300 * fl.length - goalV fl G a).toNat) (fun a h => ?_) a h
  unfold stepG
  rcases better_spec (a := a) hN hn hG with ⟨e, p, hp⟩ | hc
  · rw [if_pos e]
    exact .inr ⟨a, rfl, h, fun b hb => pot_best hN h hb G p fun w ho => hp w ho⟩
  · rw [if_neg hc.ne]
    have hb := better_next h hc
    refine .inl ⟨_, rfl, hb.feas, ?_⟩
    have h1 := hb.more
    have h2 := goal_le hB hb.feas.1 hG
    omega
end
end Go.Proofs.YtelbollidfdcjaaGreat

namespace Go.Proofs.YtelbollidfdcjaaGreat
open Go Go.T
structure Span where
  lo : Int
  hi : Int
deriving DecidableEq, Inhabited
structure Bin where
  holds : Int
  first : Span
deriving DecidableEq, Inhabited
structure Move where
  day : Int
  src : Int
  dst : Int
  sacks : Span
deriving DecidableEq, Inhabited
structure Level where
  day : Int
  bin : Int
  sacks : Span
deriving DecidableEq, Inhabited
structure Yard where
  days : Int
  bins : List Bin
  moves : List Move
  levels : List Level
deriving DecidableEq, Inhabited
structure Amts where
  first : List Int
  moved : List Int
deriving DecidableEq, Inhabited
def allowedB (s : Span) : Bool := inB s.lo 0 300 && inB s.hi 0 300
def risingB (s : Span) : Bool := decide (s.lo ≤ s.hi)
def Yard.bin (y : Yard) (k : Int) : Bool := inB k 0 (y.bins.length - 1)
def Yard.time (y : Yard) (k : Int) : Bool := inB k 0 y.days
def Yard.fin (y : Yard) (k : Int) : Bool := decide (k = -1) || y.bin k
def manyY (y : Yard) : Bool := ((!inB y.days 1 5 || !inB y.bins.length 1 4) || decide ((y.moves.length : Int) > 10)) || decide ((y.levels.length : Int) > 8)
def rangeY (y : Yard) : Bool := !y.bins.all (fun b => inB b.holds 0 300 && allowedB b.first)
def range2Y (y : Yard) : Bool := !y.moves.all (fun m => allowedB m.sacks) || !y.levels.all (fun l => allowedB l.sacks)
def notY (y : Yard) : Bool := !y.moves.all fun m => (inB m.day 0 (y.days - 1) && y.fin m.src) && y.fin m.dst
def not2Y (y : Yard) : Bool := !y.levels.all fun l => y.time l.day && y.bin l.bin
def twiceY (y : Yard) : Bool := !y.moves.all fun m => !decide (m.src = m.dst)
def orderY (y : Yard) : Bool := (!y.bins.all (fun b => risingB b.first) || !y.moves.all (fun m => risingB m.sacks)) || !y.levels.all (fun l => risingB l.sacks)
def checkY (y : Yard) : Int := if manyY y = true then 2 else if rangeY y = true then 3 else if range2Y y = true then 3 else if notY y = true then 1 else if not2Y y = true then 1 else if twiceY y = true then 5 else if orderY y = true then 4 else 0
structure Yard.Right (y : Yard) : Prop where
  days : 1 ≤ y.days ∧ y.days ≤ 5
  bins : 1 ≤ y.bins.length ∧ y.bins.length ≤ 4
  moves : y.moves.length ≤ 10
  levels : y.levels.length ≤ 8
  bin : ∀ b ∈ y.bins, (0 ≤ b.holds ∧ b.holds ≤ 300) ∧ (0 ≤ b.first.lo ∧ b.first.hi ≤ 300) ∧ b.first.lo ≤ b.first.hi
  move : ∀ m ∈ y.moves, (0 ≤ m.day ∧ m.day < y.days) ∧ (-1 ≤ m.src ∧ m.src < y.bins.length) ∧ (-1 ≤ m.dst ∧ m.dst < y.bins.length) ∧ m.src ≠ m.dst ∧ (0 ≤ m.sacks.lo ∧ m.sacks.hi ≤ 300) ∧ m.sacks.lo ≤ m.sacks.hi
  level : ∀ l ∈ y.levels, (0 ≤ l.day ∧ l.day ≤ y.days) ∧ (0 ≤ l.bin ∧ l.bin < y.bins.length) ∧ (0 ≤ l.sacks.lo ∧ l.sacks.hi ≤ 300) ∧ l.sacks.lo ≤ l.sacks.hi
theorem chk_right {y : Yard} (h : checkY y = 0) : y.Right := by
  unfold checkY at h
  have n0 : ∀ {c : Bool} {k x : Int}, k ≠ 0 → (if c = true then k else x) = 0 → c = false ∧ x = 0 := fun {c k x} hk h => by
    cases c with
    | true => exact absurd h hk
    | false => exact ⟨rfl, h⟩
  obtain ⟨h1, h⟩ := n0 (by decide) h
  obtain ⟨h2, h⟩ := n0 (by decide) h
  obtain ⟨h3, h⟩ := n0 (by decide) h
  obtain ⟨h4, h⟩ := n0 (by decide) h
  obtain ⟨h5, h⟩ := n0 (by decide) h
  obtain ⟨h6, h⟩ := n0 (by decide) h
  obtain ⟨h7, h⟩ := n0 (by decide) h
  simp only [manyY, rangeY, range2Y, notY, not2Y, twiceY, orderY, Bool.or_eq_false_iff, Bool.not_eq_false', decide_eq_false_iff_not, List.all_eq_true, Bool.and_eq_true, inB_true, allowedB, risingB, decide_eq_true_eq, Yard.fin, Yard.bin, Yard.time, Bool.or_eq_true, Bool.not_eq_true', decide_eq_false_iff_not] at h1 h2 h3 h4 h5 h6 h7
  refine ⟨h1.1.1.1, by omega, by omega, by omega, fun b hb => ?_, fun m hm => ?_, fun l hl => ?_⟩
  · have a := h2 b hb; have c := h7.1.1 b hb
    exact ⟨a.1, ⟨a.2.1.1, a.2.2.2⟩, c⟩
  · have a := h3.1 m hm; have c := h4 m hm; have d := h6 m hm; have e := h7.1.2 m hm
    refine ⟨by omega, by omega, by omega, d, ⟨a.1.1, a.2.2⟩, e⟩
  · have a := h3.2 l hl; have c := h5 l hl; have e := h7.2 l hl
    refine ⟨by omega, by omega, ⟨a.1.1, a.2.2⟩, e⟩
section
variable {y : Yard} {c : Nat → Bool} {a : Amts} {b t : Nat}
def Yard.D (y : Yard) : Nat := y.days.toNat
def Yard.cells (y : Yard) : Nat := y.bins.length * y.D
def Yard.cell (y : Yard) (bin day : Int) : Int := if bin = -1 then (y.bins.length : Int) * y.days else bin * y.days + day
def levUp (y : Yard) (c : Nat → Bool) (b t : Nat) (s : Span) : Nat → Span
  | 0 => s
  | k + 1 => if ((c k && decide ((nth y.levels k).bin = b)) && decide ((nth y.levels k).day = t)) = true then ⟨max (levUp y c b t s k).lo (nth y.levels k).sacks.lo, min (levUp y c b t s k).hi (nth y.levels k).sacks.hi⟩ else levUp y c b t s k
def span0 (y : Yard) (b t : Nat) : Span := if 0 < t then ⟨0, (nth y.bins b).holds⟩ else ⟨max 0 (nth y.bins b).first.lo, min (nth y.bins b).holds (nth y.bins b).first.hi⟩
def keptS (y : Yard) (c : Nat → Bool) (b t : Nat) : Span := levUp y c b t (span0 y b t) y.levels.length
def keptF (y : Yard) (c : Nat → Bool) (b t : Nat) : Flow := ⟨if 0 < t then y.cell b ((t : Int) - 1) else y.cells, if t < y.D then y.cell b t else y.cells, (keptS y c b t).lo, (keptS y c b t).hi⟩
def moveF (y : Yard) (m : Move) : Flow := ⟨y.cell m.src m.day, y.cell m.dst m.day, m.sacks.lo, m.sacks.hi⟩
def keptL (y : Yard) (c : Nat → Bool) : List Flow := (List.range y.bins.length).flatMap fun b => (List.range (y.D + 1)).map (keptF y c b)
def flowsY (y : Yard) (c : Nat → Bool) : List Flow := keptL y c ++ y.moves.map (moveF y)
theorem levUp_le (s : Span) : ∀ k, s.lo ≤ (levUp y c b t s k).lo ∧ (levUp y c b t s k).hi ≤ s.hi
  | 0 => ⟨Int.le_refl _, Int.le_refl _⟩
  | k + 1 => by
    have := levUp_le s k
    unfold levUp; split
    · show s.lo ≤ max _ _ ∧ min _ _ ≤ s.hi; omega
    · exact this
theorem block_len {α β : Type} (f : α → List β) (k : Nat) : ∀ (l : List α), (∀ x ∈ l, (f x).length = k) → (l.flatMap f).length = l.length * k
  | [], _ => by simp
  | x :: l, h => by rw [List.flatMap_cons, List.length_append, h x List.mem_cons_self, block_len f k l fun y hy => h y (List.mem_cons_of_mem _ hy), List.length_cons, Nat.succ_mul]; omega
theorem block_nth {α : Type} [Inhabited α] (f : Nat → List α) (k : Nat) : ∀ (n b t : Nat), (∀ i, i < n → (f i).length = k) → b < n → t < k → nth ((List.range n).flatMap f) (b * k + t) = nth (f b) t
  | 0, _, _, _, h, _ => by omega
  | n + 1, b, t, hf, hb, ht => by
    have hl : ((List.range n).flatMap f).length = n * k := by rw [block_len f k _ fun x hx => hf x (by have := List.mem_range.1 hx; omega), List.length_range]
    rw [List.range_succ, List.flatMap_append, List.flatMap_singleton]
    by_cases e : b = n
    · subst e
      unfold nth
      rw [List.getD_eq_getElem?_getD, List.getD_eq_getElem?_getD, List.getElem?_append_right (by omega), hl, Nat.add_sub_cancel_left]
    · have hlt : b * k + t < n * k := by
        have : (b + 1) * k ≤ n * k := Nat.mul_le_mul_right _ (by omega)
        rw [Nat.succ_mul] at this; omega
      rw [← block_nth f k n b t (fun i hi => hf i (by omega)) (by omega) ht]
      unfold nth
      rw [List.getD_eq_getElem?_getD, List.getD_eq_getElem?_getD, List.getElem?_append_left (by omega)]
theorem range_nth {α : Type} [Inhabited α] (f : Nat → α) {n k : Nat} (h : k < n) : nth ((List.range n).map f) k = f k := by
  unfold nth; rw [List.getD_eq_getElem?_getD, List.getElem?_map, List.getElem?_range h]; rfl
theorem map_nth' {α β : Type} [Inhabited α] [Inhabited β] (f : α → β) {l : List α} {k : Nat} (h : k < l.length) : nth (l.map f) k = f (nth l k) := by
  unfold nth; rw [List.getD_eq_getElem?_getD, List.getD_eq_getElem?_getD, List.getElem?_map, List.getElem?_eq_getElem h]; rfl
theorem kept_len : (keptL y c).length = y.bins.length * (y.D + 1) := by
  unfold keptL; rw [block_len _ (y.D + 1) _ fun x _ => by rw [List.length_map, List.length_range], List.length_range]
theorem flows_len : (flowsY y c).length = y.bins.length * (y.D + 1) + y.moves.length := by unfold flowsY; rw [List.length_append, kept_len, List.length_map]
def Yard.kept (y : Yard) (b t : Nat) : Nat := b * (y.D + 1) + t
theorem kept_lt (hb : b < y.bins.length) (ht : t ≤ y.D) : y.kept b t < y.bins.length * (y.D + 1) := by
  have : (b + 1) * (y.D + 1) ≤ y.bins.length * (y.D + 1) := Nat.mul_le_mul_right _ hb
  unfold Yard.kept; rw [Nat.succ_mul] at this; omega
theorem app_left {α : Type} [Inhabited α] {l k : List α} {i : Nat} (h : i < l.length) : nth (l ++ k) i = nth l i := by
  unfold nth; rw [List.getD_eq_getElem?_getD, List.getD_eq_getElem?_getD, List.getElem?_append_left h]
theorem app_right {α : Type} [Inhabited α] {l k : List α} {i : Nat} : nth (l ++ k) (l.length + i) = nth k i := by
  unfold nth; rw [List.getD_eq_getElem?_getD, List.getD_eq_getElem?_getD, List.getElem?_append_right (by omega), Nat.add_sub_cancel_left]
theorem flow_kept (hb : b < y.bins.length) (ht : t ≤ y.D) : nth (flowsY y c) (y.kept b t) = keptF y c b t := by
  have h := kept_lt hb ht
  unfold flowsY
  rw [app_left (by rw [kept_len]; exact h)]
  unfold keptL Yard.kept
  rw [block_nth _ (y.D + 1) _ b t (fun i _ => by rw [List.length_map, List.length_range]) hb (by omega), range_nth _ (by omega)]
theorem flow_move {i : Nat} (h : i < y.moves.length) : nth (flowsY y c) (y.bins.length * (y.D + 1) + i) = moveF y (nth y.moves i) := by
  unfold flowsY
  rw [← kept_len (c := c), app_right, map_nth' _ h]
theorem kept_or {k : Nat} (h : k < (flowsY y c).length) : (∃ b t, b < y.bins.length ∧ t ≤ y.D ∧ k = y.kept b t) ∨ ∃ i, i < y.moves.length ∧ k = y.bins.length * (y.D + 1) + i := by
  rw [flows_len] at h
  by_cases c : k < y.bins.length * (y.D + 1)
  · refine .inl ⟨k / (y.D + 1), k % (y.D + 1), (Nat.div_lt_iff_lt_mul (by omega)).2 c, Nat.lt_succ_iff.1 (Nat.mod_lt _ (by omega)), ?_⟩
    unfold Yard.kept
    have := Nat.div_add_mod k (y.D + 1)
    rw [Nat.mul_comm] at this; omega
  · exact .inr ⟨k - y.bins.length * (y.D + 1), by omega, by omega⟩
end
end Go.Proofs.YtelbollidfdcjaaGreat

namespace Go.Proofs.YtelbollidfdcjaaGreat
open Go Go.T
theorem sumN_append (f : Nat → Int) (m : Nat) : ∀ k, sumN f (m + k) = sumN f m + sumN (fun i => f (m + i)) k
  | 0 => by simp [sumN]
  | k + 1 => by show sumN f (m + k) + f (m + k) = _ + (_ + f (m + k)); rw [sumN_append f m k]; omega
theorem sumN_block (f : Nat → Int) (k : Nat) : ∀ n, sumN f (n * k) = sumN (fun b => sumN (fun t => f (b * k + t)) k) n
  | 0 => by rw [Nat.zero_mul]; rfl
  | n + 1 => by rw [Nat.succ_mul, sumN_append, sumN_block f k n]; rfl
theorem cell_inj {b b' d d' D : Nat} (h : d < D) (h' : d' < D) (e : b * D + d = b' * D + d') : b = b' ∧ d = d' := by
  rcases Nat.lt_trichotomy b b' with h1 | h1 | h1
  · have := Nat.mul_le_mul_right D (show b + 1 ≤ b' from h1)
    rw [Nat.succ_mul] at this; omega
  · subst h1; omega
  · have := Nat.mul_le_mul_right D (show b' + 1 ≤ b from h1)
    rw [Nat.succ_mul] at this; omega
section
variable {y : Yard} {c : Nat → Bool} {a : Amts} {x : List Int} {b t : Nat}
theorem D_eq (hr : y.Right) : (y.D : Int) = y.days := by have := hr.days; unfold Yard.D; omega
theorem cell_lt (hb : b < y.bins.length) (ht : t < y.D) : b * y.D + t < y.cells := by
  have := Nat.mul_le_mul_right y.D (show b + 1 ≤ y.bins.length from hb)
  unfold Yard.cells; rw [Nat.succ_mul] at this; omega
theorem cell_nat (hr : y.Right) (b t : Nat) : y.cell b t = ((b * y.D + t : Nat) : Int) := by
  unfold Yard.cell
  rw [if_neg (by omega), ← D_eq hr]; simp
theorem cell_out (hr : y.Right) (d : Int) : y.cell (-1) d = (y.cells : Nat) := by
  unfold Yard.cell Yard.cells
  rw [if_pos rfl, ← D_eq hr]; simp
theorem cell_is (hr : y.Right) {s d : Int} (hs : -1 ≤ s ∧ s < y.bins.length) (hd : 0 ≤ d ∧ d < y.days) (hb : b < y.bins.length) (ht : t < y.D) : y.cell s d = ((b * y.D + t : Nat) : Int) ↔ s = b ∧ d = t := by
  have hD := D_eq hr
  by_cases e : s = -1
  · subst e
    rw [cell_out hr]
    have := cell_lt hb ht
    constructor
    · intro h; omega
    · intro h; omega
  · obtain ⟨s', rfl⟩ : ∃ s' : Nat, s = s' := ⟨s.toNat, by omega⟩
    obtain ⟨d', rfl⟩ : ∃ d' : Nat, d = d' := ⟨d.toNat, by omega⟩
    rw [cell_nat hr]
    constructor
    · intro h
      obtain ⟨h1, h2⟩ := cell_inj (D := y.D) (show d' < y.D by omega) ht (Int.ofNat.inj h)
      exact ⟨by rw [h1], by rw [h2]⟩
    · rintro ⟨h1, h2⟩
      have h1 : s' = b := by omega
      have h2 : d' = t := by omega
      rw [h1, h2]
theorem cell_range (hr : y.Right) {s d : Int} (hs : -1 ≤ s ∧ s < y.bins.length) (hd : 0 ≤ d ∧ d < y.days) : 0 ≤ y.cell s d ∧ y.cell s d < ((y.cells + 1 : Nat) : Int) := by
  have hD := D_eq hr
  by_cases e : s = -1
  · subst e; rw [cell_out hr]; omega
  · obtain ⟨s', rfl⟩ : ∃ s' : Nat, s = s' := ⟨s.toNat, by omega⟩
    obtain ⟨d', rfl⟩ : ∃ d' : Nat, d = d' := ⟨d.toNat, by omega⟩
    rw [cell_nat hr]
    have := cell_lt (y := y) (b := s') (t := d') (by omega) (by omega)
    omega
theorem kept_src (hr : y.Right) (ht : t ≤ y.D) : (keptF y c b t).src = ((if 0 < t then b * y.D + (t - 1) else y.cells : Nat) : Int) := by
  show (if 0 < t then y.cell b ((t : Int) - 1) else (y.cells : Int)) = _
  by_cases e : 0 < t
  · rw [if_pos e, if_pos e, show (t : Int) - 1 = ((t - 1 : Nat) : Int) by omega, cell_nat hr]
  · rw [if_neg e, if_neg e]
theorem kept_dst (hr : y.Right) : (keptF y c b t).dst = ((if t < y.D then b * y.D + t else y.cells : Nat) : Int) := by
  show (if t < y.D then y.cell b t else (y.cells : Int)) = _
  by_cases e : t < y.D
  · rw [if_pos e, if_pos e, cell_nat hr]
  · rw [if_neg e, if_neg e]
theorem net_yard (hr : y.Right) : Net (flowsY y c) (y.cells + 1) := by
  have hD := D_eq hr
  have hd := hr.days
  refine ⟨fun i hi => ?_, fun i hi => ?_, fun i hi => ?_⟩
  · rcases kept_or hi with ⟨b, t, hb, ht, rfl⟩ | ⟨k, hk, rfl⟩
    · rw [flow_kept hb ht, kept_src hr ht]
      split
      · have := cell_lt (y := y) (b := b) (t := t - 1) hb (by omega); omega
      · omega
    · rw [flow_move hk]
      obtain ⟨h1, h2, _⟩ := hr.move _ (nth_mem hk)
      exact cell_range hr h2 h1
  · rcases kept_or hi with ⟨b, t, hb, ht, rfl⟩ | ⟨k, hk, rfl⟩
    · rw [flow_kept hb ht, kept_dst hr]
      split
      · have := cell_lt (y := y) (b := b) (t := t) hb (by omega); omega
      · omega
    · rw [flow_move hk]
      obtain ⟨h1, _, h3, _⟩ := hr.move _ (nth_mem hk)
      exact cell_range hr h3 h1
  · rcases kept_or hi with ⟨b, t, hb, ht, rfl⟩ | ⟨k, hk, rfl⟩
    · rw [flow_kept hb ht, kept_dst hr, kept_src hr ht]
      by_cases e1 : 0 < t <;> by_cases e2 : t < y.D
      · rw [if_pos e1, if_pos e2]; omega
      · rw [if_pos e1, if_neg e2]
        have := cell_lt (y := y) (b := b) (t := t - 1) hb (by omega); omega
      · rw [if_neg e1, if_pos e2]
        have := cell_lt (y := y) (b := b) (t := t) hb (by omega); omega
      · omega
    · rw [flow_move hk]
      obtain ⟨h1, h2, h3, h4, _⟩ := hr.move _ (nth_mem hk)
      show y.cell _ _ ≠ y.cell _ _
      intro e
      by_cases e1 : (nth y.moves k).dst = -1
      · by_cases e2 : (nth y.moves k).src = -1
        · exact h4 (e2.trans e1.symm)
        · obtain ⟨s, hs⟩ : ∃ s : Nat, (nth y.moves k).src = s := ⟨(nth y.moves k).src.toNat, by omega⟩
          obtain ⟨d, hd⟩ : ∃ d : Nat, (nth y.moves k).day = d := ⟨(nth y.moves k).day.toNat, by omega⟩
          rw [e1, hs, hd, cell_out hr, cell_nat hr] at e
          have := cell_lt (y := y) (b := s) (t := d) (by omega) (by omega)
          omega
      · obtain ⟨s, hs⟩ : ∃ s : Nat, (nth y.moves k).dst = s := ⟨(nth y.moves k).dst.toNat, by omega⟩
        obtain ⟨d, hd⟩ : ∃ d : Nat, (nth y.moves k).day = d := ⟨(nth y.moves k).day.toNat, by omega⟩
        have e' : y.cell (nth y.moves k).src (nth y.moves k).day = ((s * y.D + d : Nat) : Int) := by rw [e, hs, hd, cell_nat hr]
        have := (cell_is hr h2 h1 (show s < y.bins.length by omega) (show d < y.D by omega)).1 e'
        exact h4 (this.1.trans hs.symm)
def dayT (y : Yard) (m : List Int) (b : Nat) (i : Nat) : Int := (ind ((nth y.moves i).dst = b) - ind ((nth y.moves i).src = b)) * nth m i
def contY (y : Yard) (a : Amts) (b t : Nat) : Int := nth a.first b + sumN (fun i => if (nth y.moves i).day < t then dayT y a.moved b i else 0) y.moves.length
def dayS (y : Yard) (m : List Int) (b t : Nat) : Int := sumN (fun i => if (nth y.moves i).day = t then dayT y m b i else 0) y.moves.length
theorem cont_zero (hr : y.Right) : contY y a b 0 = nth a.first b := by
  unfold contY
  rw [sumN_zero fun i hi => by have := (hr.move _ (nth_mem hi)).1; rw [if_neg (by omega)]]; omega
theorem cont_succ : contY y a b (t + 1) = contY y a b t + dayS y a.moved b t := by
  unfold contY dayS
  rw [Int.add_assoc, ← sumN_add]
  congr 1
  refine sumN_congr fun i _ => ?_
  by_cases e : (nth y.moves i).day < (t : Int)
  · rw [if_pos e, if_pos (by omega), if_neg (by omega)]; omega
  · by_cases e2 : (nth y.moves i).day = t
    · rw [if_neg e, if_pos (by omega), if_pos e2]; omega
    · rw [if_neg e, if_neg (by omega), if_neg e2]; rfl
theorem over_cell (hr : y.Right) (hx : x.length = (flowsY y c).length) (hb : b < y.bins.length) (ht : t < y.D) :
    over (flowsY y c) x ((b * y.D + t : Nat) : Int) = nth x (y.kept b t) - nth x (y.kept b (t + 1)) + dayS y (x.drop (y.bins.length * (y.D + 1))) b t := by
  unfold over
  rw [flows_len, sumN_append, sumN_block]
  congr 1
  · have hcl := cell_lt hb ht
    have key : ∀ b' t', b' < y.bins.length → t' < y.D + 1 → (ind ((nth (flowsY y c) (b' * (y.D + 1) + t')).dst = ((b * y.D + t : Nat) : Int)) - ind ((nth (flowsY y c) (b' * (y.D + 1) + t')).src = ((b * y.D + t : Nat) : Int))) * nth x (b' * (y.D + 1) + t') = (ind (b' = b ∧ t' = t) - ind (b' = b ∧ t' = t + 1)) * nth x (b' * (y.D + 1) + t') := by
      intro b' t' hb' ht'
      have hk := flow_kept (c := c) hb' (show t' ≤ y.D by omega)
      unfold Yard.kept at hk
      rw [hk, kept_dst hr, kept_src hr (by omega)]
      congr 1
      have e1 : ind (((if t' < y.D then b' * y.D + t' else y.cells : Nat) : Int) = ((b * y.D + t : Nat) : Int)) = ind (b' = b ∧ t' = t) := by
        by_cases e : t' < y.D
        · rw [if_pos e]
          by_cases h : b' = b ∧ t' = t
          · rw [ind_yes h, ind_yes (by rw [h.1, h.2])]
          · have hne : ¬ (((b' * y.D + t' : Nat) : Int) = ((b * y.D + t : Nat) : Int)) := fun e' => h (cell_inj e ht (Int.ofNat.inj e'))
            rw [ind_no h, ind_no hne]
        · rw [if_neg e, ind_no (by omega), ind_no (by omega)]
      have e2 : ind (((if 0 < t' then b' * y.D + (t' - 1) else y.cells : Nat) : Int) = ((b * y.D + t : Nat) : Int)) = ind (b' = b ∧ t' = t + 1) := by
        by_cases e : 0 < t'
        · rw [if_pos e]
          by_cases h : b' = b ∧ t' = t + 1
          · rw [ind_yes h, ind_yes (by rw [h.1, h.2]; rfl)]
          · have hne : ¬ (((b' * y.D + (t' - 1) : Nat) : Int) = ((b * y.D + t : Nat) : Int)) := fun e' => h (by have := cell_inj (show t' - 1 < y.D by omega) ht (Int.ofNat.inj e'); omega)
            rw [ind_no h, ind_no hne]
        · rw [if_neg e, ind_no (by omega), ind_no (by omega)]
      rw [e1, e2]
    rw [sumN_congr fun b' hb' => sumN_congr fun t' ht' => key b' t' hb' ht']
    rw [sumN_one hb fun b' _ hn => sumN_zero fun t' _ => by rw [ind_no (fun h => hn h.1), ind_no (fun h => hn h.1)]; simp]
    rw [sumN_congr (g := fun t' => ind (t' = t) * nth x (b * (y.D + 1) + t') - ind (t' = t + 1) * nth x (b * (y.D + 1) + t')) fun t' _ => by
      rw [Int.sub_mul]; congr 2 <;> (unfold ind; simp)]
    rw [sumN_sub, sumN_one (k := t) (by omega) fun i _ hn => by rw [ind_no hn, Int.zero_mul], sumN_one (k := t + 1) (by omega) fun i _ hn => by rw [ind_no hn, Int.zero_mul], ind_yes rfl, ind_yes rfl, Int.one_mul, Int.one_mul]
    rfl
  · unfold dayS dayT
    refine sumN_congr fun i hi => ?_
    obtain ⟨h1, h2, h3, _⟩ := hr.move _ (nth_mem hi)
    rw [flow_move hi]
    show (ind (y.cell _ _ = _) - ind (y.cell _ _ = _)) * _ = _
    have e0 : nth (x.drop (y.bins.length * (y.D + 1))) i = nth x (y.bins.length * (y.D + 1) + i) := by
      unfold nth; rw [List.getD_eq_getElem?_getD, List.getD_eq_getElem?_getD, List.getElem?_drop]
    rw [e0]
    by_cases e : (nth y.moves i).day = t
    · rw [if_pos e]
      congr 2
      · by_cases h : (nth y.moves i).dst = b
        · rw [ind_yes h, ind_yes ((cell_is hr h3 h1 hb ht).2 ⟨h, e⟩)]
        · rw [ind_no h, ind_no fun e' => h ((cell_is hr h3 h1 hb ht).1 e').1]
      · by_cases h : (nth y.moves i).src = b
        · rw [ind_yes h, ind_yes ((cell_is hr h2 h1 hb ht).2 ⟨h, e⟩)]
        · rw [ind_no h, ind_no fun e' => h ((cell_is hr h2 h1 hb ht).1 e').1]
    · rw [if_neg e, ind_no fun e' => e ((cell_is hr h3 h1 hb ht).1 e').2, ind_no fun e' => e ((cell_is hr h2 h1 hb ht).1 e').2]; simp
theorem even_yard (hr : y.Right) (h : ∀ b t, b < y.bins.length → t < y.D → over (flowsY y c) x ((b * y.D + t : Nat) : Int) = 0) : Even (flowsY y c) (y.cells + 1) x := by
  have hin : ∀ k, k < y.cells → over (flowsY y c) x (k : Nat) = 0 := fun k hk => by
    have hD : 0 < y.D := by have := D_eq hr; have := hr.days; omega
    have e := Nat.div_add_mod k y.D
    rw [Nat.mul_comm] at e
    rw [← e]
    exact h _ _ ((Nat.div_lt_iff_lt_mul hD).2 hk) (Nat.mod_lt _ hD)
  intro k hk
  by_cases e : k < y.cells
  · exact hin k e
  · obtain rfl : k = y.cells := by omega
    have h0 := over_sum (a := x) (net_yard (c := c) hr)
    unfold sumN at h0
    rw [sumN_zero fun i hi => hin i hi] at h0
    omega
def flowA (y : Yard) (a : Amts) : List Int := ((List.range y.bins.length).flatMap fun b => (List.range (y.D + 1)).map (contY y a b)) ++ a.moved
def toldY (y : Yard) (x : List Int) : Amts := ⟨(List.range y.bins.length).map fun b => nth x (y.kept b 0), x.drop (y.bins.length * (y.D + 1))⟩
structure Lens (y : Yard) (a : Amts) : Prop where
  first : a.first.length = y.bins.length
  moved : a.moved.length = y.moves.length
theorem flowA_len (h : Lens y a) : (flowA y a).length = (flowsY y c).length := by
  unfold flowA
  rw [List.length_append, block_len _ (y.D + 1) _ fun x _ => by rw [List.length_map, List.length_range], List.length_range, h.moved, flows_len]
theorem flowA_kept (hb : b < y.bins.length) (ht : t ≤ y.D) : nth (flowA y a) (y.kept b t) = contY y a b t := by
  unfold flowA
  rw [app_left (by rw [block_len _ (y.D + 1) _ fun x _ => by rw [List.length_map, List.length_range], List.length_range]; exact kept_lt hb ht)]
  unfold Yard.kept
  rw [block_nth _ (y.D + 1) _ b t (fun i _ => by rw [List.length_map, List.length_range]) hb (by omega), range_nth _ (by omega)]
theorem flowA_drop : (flowA y a).drop (y.bins.length * (y.D + 1)) = a.moved := by
  unfold flowA
  refine List.drop_left' ?_
  rw [block_len _ (y.D + 1) _ fun x _ => by rw [List.length_map, List.length_range], List.length_range]
theorem drop_nth {n i : Nat} : nth (x.drop n) i = nth x (n + i) := by
  unfold nth; rw [List.getD_eq_getElem?_getD, List.getD_eq_getElem?_getD, List.getElem?_drop]
theorem flowA_move {i : Nat} : nth (flowA y a) (y.bins.length * (y.D + 1) + i) = nth a.moved i := by
  rw [← drop_nth, flowA_drop]
theorem flowA_even (hr : y.Right) (h : Lens y a) : Even (flowsY y c) (y.cells + 1) (flowA y a) := by
  refine even_yard hr fun b t hb ht => ?_
  rw [over_cell hr (flowA_len h) hb ht, flowA_kept hb (by omega), flowA_kept hb (by omega), flowA_drop, cont_succ]; omega
theorem told_lens (hx : x.length = (flowsY y c).length) : Lens y (toldY y x) := by
  rw [flows_len] at hx
  exact ⟨by unfold toldY; rw [List.length_map, List.length_range], by unfold toldY; rw [List.length_drop]; omega⟩
theorem told_cont (hr : y.Right) (hx : x.length = (flowsY y c).length) (he : Even (flowsY y c) (y.cells + 1) x) (hb : b < y.bins.length) : ∀ t, t ≤ y.D → contY y (toldY y x) b t = nth x (y.kept b t)
  | 0, _ => by rw [cont_zero hr]; exact range_nth _ hb
  | t + 1, ht => by
    rw [cont_succ, told_cont hr hx he hb t (by omega)]
    have h := over_cell (c := c) hr hx hb (show t < y.D by omega)
    rw [he _ (by have := cell_lt (y := y) hb (show t < y.D by omega); omega)] at h
    show _ + dayS y (x.drop _) b t = _
    omega
structure FitsC (y : Yard) (c : Nat → Bool) (a : Amts) : Prop where
  lens : Lens y a
  first : ∀ b, b < y.bins.length → (nth y.bins b).first.lo ≤ nth a.first b ∧ nth a.first b ≤ (nth y.bins b).first.hi
  cont : ∀ b t, b < y.bins.length → t ≤ y.D → 0 ≤ contY y a b t ∧ contY y a b t ≤ (nth y.bins b).holds
  moved : ∀ i, i < y.moves.length → (nth y.moves i).sacks.lo ≤ nth a.moved i ∧ nth a.moved i ≤ (nth y.moves i).sacks.hi
  level : ∀ i, i < y.levels.length → c i = true → (nth y.levels i).sacks.lo ≤ contY y a (nth y.levels i).bin.toNat (nth y.levels i).day.toNat ∧ contY y a (nth y.levels i).bin.toNat (nth y.levels i).day.toNat ≤ (nth y.levels i).sacks.hi
theorem levUp_iff {s : Span} {v : Int} : ∀ k, ((levUp y c b t s k).lo ≤ v ∧ v ≤ (levUp y c b t s k).hi) ↔ (s.lo ≤ v ∧ v ≤ s.hi) ∧ ∀ i, i < k → c i = true → (nth y.levels i).bin = b → (nth y.levels i).day = t → (nth y.levels i).sacks.lo ≤ v ∧ v ≤ (nth y.levels i).sacks.hi
  | 0 => ⟨fun h => ⟨h, fun i hi => by omega⟩, fun h => h.1⟩
  | k + 1 => by
    have ih := levUp_iff (s := s) (v := v) k
    unfold levUp
    split
    · rename_i hc
      simp only [Bool.and_eq_true, decide_eq_true_eq] at hc
      constructor
      · intro h
        have h : max _ _ ≤ v ∧ v ≤ min _ _ := h
        obtain ⟨h1, h2⟩ := ih.1 ⟨by omega, by omega⟩
        refine ⟨h1, fun i hi hci hb ht => ?_⟩
        by_cases e : i = k
        · subst e; exact ⟨by omega, by omega⟩
        · exact h2 i (by omega) hci hb ht
      · rintro ⟨h1, h2⟩
        have h3 := ih.2 ⟨h1, fun i hi => h2 i (by omega)⟩
        have h4 := h2 k (by omega) hc.1.1 hc.1.2 hc.2
        show max _ _ ≤ v ∧ v ≤ min _ _
        omega
    · rename_i hc
      simp only [Bool.and_eq_true, decide_eq_true_eq, not_and] at hc
      rw [ih]
      constructor
      · rintro ⟨h1, h2⟩
        refine ⟨h1, fun i hi hci hb ht => ?_⟩
        by_cases e : i = k
        · subst e; exact absurd ht (hc ⟨hci, hb⟩)
        · exact h2 i (by omega) hci hb ht
      · rintro ⟨h1, h2⟩
        exact ⟨h1, fun i hi => h2 i (by omega)⟩
theorem fits_inb (hr : y.Right) (hl : Lens y a) : FitsC y c a ↔ Inb (flowsY y c) (flowA y a) := by
  have hD := D_eq hr
  constructor
  · intro h
    refine ⟨flowA_len hl, fun i hi => ?_⟩
    rcases kept_or hi with ⟨b, t, hb, ht, rfl⟩ | ⟨k, hk, rfl⟩
    · rw [flow_kept hb ht, flowA_kept hb ht]
      show (keptS y c b t).lo ≤ _ ∧ _ ≤ (keptS y c b t).hi
      unfold keptS
      refine (levUp_iff _).2 ⟨?_, fun i hi hc e1 e2 => ?_⟩
      · have h1 := h.cont b t hb ht
        unfold span0
        split
        · exact h1
        · rename_i e
          obtain rfl : t = 0 := by omega
          rw [cont_zero hr] at *
          have h2 := h.first b hb
          show max _ _ ≤ _ ∧ _ ≤ min _ _; omega
      · have := h.level i hi hc
        rw [e1, e2] at this; exact this
    · rw [flow_move hk, flowA_move]; exact h.moved k hk
  · intro h
    have hk : ∀ b t, b < y.bins.length → t ≤ y.D → ((span0 y b t).lo ≤ contY y a b t ∧ contY y a b t ≤ (span0 y b t).hi) ∧ ∀ i, i < y.levels.length → c i = true → (nth y.levels i).bin = b → (nth y.levels i).day = t → (nth y.levels i).sacks.lo ≤ contY y a b t ∧ contY y a b t ≤ (nth y.levels i).sacks.hi := fun b t hb ht => by
      have h1 := h.2 (y.kept b t) (by rw [flows_len]; have := kept_lt hb ht; omega)
      rw [flow_kept hb ht, flowA_kept hb ht] at h1
      exact (levUp_iff _).1 h1
    refine ⟨hl, fun b hb => ?_, fun b t hb ht => ?_, fun i hi => ?_, fun i hi hc => ?_⟩
    · have h1 := (hk b 0 hb (Nat.zero_le _)).1
      unfold span0 at h1
      rw [if_neg (by omega), cont_zero hr] at h1
      have h1 : max _ _ ≤ _ ∧ _ ≤ min _ _ := h1
      omega
    · have h1 := (hk b t hb ht).1
      unfold span0 at h1
      split at h1
      · exact h1
      · have h1 : max _ _ ≤ _ ∧ _ ≤ min _ _ := h1
        omega
    · have h1 := h.2 (y.bins.length * (y.D + 1) + i) (by rw [flows_len]; omega)
      rw [flow_move hi, flowA_move] at h1; exact h1
    · obtain ⟨h1, h2, _⟩ := hr.level _ (nth_mem hi)
      exact (hk (nth y.levels i).bin.toNat (nth y.levels i).day.toNat (by omega) (by omega)).2 i hi hc (by omega) (by omega)
theorem flowA_told (hr : y.Right) (hx : x.length = (flowsY y c).length) (he : Even (flowsY y c) (y.cells + 1) x) {i : Nat} (hi : i < (flowsY y c).length) : nth (flowA y (toldY y x)) i = nth x i := by
  rcases kept_or hi with ⟨b, t, hb, ht, rfl⟩ | ⟨k, hk, rfl⟩
  · rw [flowA_kept hb ht, told_cont hr hx he hb t ht]
  · rw [flowA_move]; show nth (x.drop _) k = _; rw [drop_nth]
theorem told_fits (hr : y.Right) (h : Feas (flowsY y c) (y.cells + 1) x) : FitsC y c (toldY y x) := by
  refine (fits_inb hr (told_lens h.1.1)).2 ⟨flowA_len (told_lens h.1.1), fun i hi => ?_⟩
  rw [flowA_told hr h.1.1 h.2 hi]; exact h.1.2 i hi
theorem fits_feas (hr : y.Right) (h : FitsC y c a) : Feas (flowsY y c) (y.cells + 1) (flowA y a) := ⟨(fits_inb hr h.lens).1 h, flowA_even hr h.lens⟩
theorem bd_yard (hr : y.Right) : Bd (flowsY y c) := fun i hi => by
  rcases kept_or hi with ⟨b, t, hb, ht, rfl⟩ | ⟨k, hk, rfl⟩
  · rw [flow_kept hb ht]
    obtain ⟨h1, h2, h3⟩ := hr.bin _ (nth_mem hb)
    have h4 := levUp_le (y := y) (c := c) (b := b) (t := t) (span0 y b t) y.levels.length
    show 0 ≤ (keptS y c b t).lo ∧ (keptS y c b t).hi ≤ 300
    unfold keptS
    have h5 : 0 ≤ (span0 y b t).lo ∧ (span0 y b t).hi ≤ 300 := by
      unfold span0; split
      · exact ⟨Int.le_refl _, h1.2⟩
      · show 0 ≤ max _ _ ∧ min _ _ ≤ 300; omega
    omega
  · rw [flow_move hk]
    exact (hr.move _ (nth_mem hk)).2.2.2.2.1
end
end Go.Proofs.YtelbollidfdcjaaGreat

namespace Go.Proofs.YtelbollidfdcjaaGreat
open Go Go.T
section
variable {fl : List Flow} {a x : List Int} {n : Nat} {has : Nat → Bool}
def goalG (has : Nat → Bool) (less : Bool) (i : Nat) : Int := if has i = true then (if less = true then -1 else 1) else 0
theorem goalG_le (less : Bool) (i : Nat) : -1 ≤ goalG has less i ∧ goalG has less i ≤ 1 := by
  unfold goalG; split
  · split <;> omega
  · omega
def hasV (fl : List Flow) (has : Nat → Bool) (x : List Int) : Int := sumN (fun i => if has i = true then nth x i else 0) fl.length
theorem goal_more : goalV fl (goalG has false) x = hasV fl has x := by
  unfold goalV hasV goalG
  refine sumN_congr fun i _ => ?_
  cases has i <;> simp
theorem goal_less : goalV fl (goalG has true) x = - hasV fl has x := by
  unfold goalV hasV goalG
  have e : (fun i => (if has i = true then (if (true = true) then (-1 : Int) else 1) else 0) * nth x i) = fun i => (-1) * (if has i = true then nth x i else 0) := by
    funext i
    cases has i <;> simp
  rw [e, sumN_mul]; omega
structure IsSpan (fl : List Flow) (n : Nat) (has : Nat → Bool) (s : Span) : Prop where
  lo : ∃ x, Feas fl n x ∧ hasV fl has x = s.lo
  hi : ∃ x, Feas fl n x ∧ hasV fl has x = s.hi
  all : ∀ x, Feas fl n x → s.lo ≤ hasV fl has x ∧ hasV fl has x ≤ s.hi
theorem IsSpan.one {s s' : Span} (h : IsSpan fl n has s) (h' : IsSpan fl n has s') : s = s' := by
  obtain ⟨x1, f1, e1⟩ := h.lo
  obtain ⟨x2, f2, e2⟩ := h.hi
  obtain ⟨y1, g1, d1⟩ := h'.lo
  obtain ⟨y2, g2, d2⟩ := h'.hi
  have a1 := h.all y1 g1
  have a2 := h.all y2 g2
  have b1 := h'.all x1 f1
  have b2 := h'.all x2 f2
  cases s; cases s'
  simp only at *
  congr 1 <;> omega
open Classical in
noncomputable def spanU (fl : List Flow) (n : Nat) (has : Nat → Bool) : Span := if h : ∃ s, IsSpan fl n has s then h.choose else default
theorem IsSpan.eq {s : Span} (h : IsSpan fl n has s) : spanU fl n has = s := by
  have hx : ∃ s, IsSpan fl n has s := ⟨s, h⟩
  unfold spanU; rw [dif_pos hx]; exact hx.choose_spec.one h
noncomputable def loA (fl : List Flow) (n : Nat) (has : Nat → Bool) (a : List Int) : List Int := bestM fl n (goalG has true) a
noncomputable def hiA (fl : List Flow) (n : Nat) (has : Nat → Bool) (a : List Int) : List Int := bestM fl n (goalG has false) (loA fl n has a)
theorem span_of (hN : Net fl n) (hn : 0 < n) (hB : Bd fl) (h : Feas fl n a) : Feas fl n (loA fl n has a) ∧ Feas fl n (hiA fl n has a) ∧ IsSpan fl n has ⟨hasV fl has (loA fl n has a), hasV fl has (hiA fl n has a)⟩ := by
  obtain ⟨h1, h2⟩ := best_spec hN hn hB (goalG_le (has := has) true) h
  obtain ⟨h3, h4⟩ := best_spec hN hn hB (goalG_le (has := has) false) h1
  refine ⟨h1, h3, ⟨_, h1, rfl⟩, ⟨_, h3, rfl⟩, fun x hx => ⟨?_, ?_⟩⟩
  · have := h2 x hx
    rw [goal_less, goal_less] at this
    show hasV fl has (bestM fl n (goalG has true) a) ≤ _
    omega
  · have := h4 x hx
    rw [goal_more, goal_more] at this
    exact this
def loL (fl : List Flow) : List Int := fl.map Flow.lo
theorem inb_lo (h : ∀ i, i < fl.length → (nth fl i).lo ≤ (nth fl i).hi) : Inb fl (loL fl) := by
  unfold loL
  exact ⟨by rw [List.length_map], fun i hi => by rw [map_nth' _ hi]; exact ⟨Int.le_refl _, h i hi⟩⟩
def wrongB (fl : List Flow) : Bool := fl.all fun f => decide (f.lo ≤ f.hi)
theorem wrong_no (h : wrongB fl = false) : ¬ ∃ x, Feas fl n x := by
  rintro ⟨x, hx⟩
  unfold wrongB at h
  rw [List.all_eq_false] at h
  obtain ⟨f, hf, h⟩ := h
  obtain ⟨i, hi, rfl⟩ := mem_nth hf
  have := hx.1.2 i hi
  rw [decide_eq_true_eq] at h; omega
theorem wrong_yes (h : wrongB fl = true) : ∀ i, i < fl.length → (nth fl i).lo ≤ (nth fl i).hi := fun i hi => by
  unfold wrongB at h
  rw [List.all_eq_true] at h
  exact of_decide_eq_true (h _ (nth_mem hi))
noncomputable def stuckM (fl : List Flow) (n : Nat) (a : List Int) : Int × Bool × List Int := if wrongB fl = true then settleM fl n a else (0, true, a)
theorem stuckM_yes (e : wrongB fl = true) : stuckM fl n a = settleM fl n a := if_pos e
theorem stuckM_no (e : wrongB fl = false) : stuckM fl n a = (0, true, a) := if_neg (by rw [e]; decide)
theorem stuck_yes (hN : Net fl n) (ha : wrongB fl = true → Inb fl a) (h : (stuckM fl n a).2.1 = false) : Feas fl n (stuckM fl n a).2.2 := by
  cases e : wrongB fl with
  | true => rw [stuckM_yes e] at h ⊢; exact SSpec.some (settle_spec hN (ha e)) h
  | false => rw [stuckM_no e] at h; cases h
theorem stuck_no (hN : Net fl n) (ha : wrongB fl = true → Inb fl a) (h : (stuckM fl n a).2.1 = true) : ¬ ∃ x, Feas fl n x := by
  cases e : wrongB fl with
  | true => rw [stuckM_yes e] at h; exact (settle_spec hN (ha e)).none hN h
  | false => exact wrong_no e
def setF (fl : List Flow) (k : Nat) (v : Int) : List Flow := fl.set k ⟨(nth fl k).src, (nth fl k).dst, v, v⟩
end
end Go.Proofs.YtelbollidfdcjaaGreat

namespace Go.Proofs.YtelbollidfdcjaaGreat
open Go Go.T
structure Cel where
  bin : Int
  day : Int
deriving DecidableEq, Inhabited
def SpanE : El Span := El.mk' 2 (fun x => [Ty.int .i64 x.lo, Ty.int .i64 x.hi]) (fun _ => rfl) (fun _ => ⟨rfl, rfl, rfl⟩)
def BinE : El Bin := El.mk' 3 (fun x => [Ty.int .i64 x.holds, Ty.int .i64 x.first.lo, Ty.int .i64 x.first.hi]) (fun _ => rfl) (fun _ => ⟨rfl, rfl, rfl⟩)
def MoveE : El Move := El.mk' 5 (fun x => [Ty.int .i64 x.day, Ty.int .i64 x.src, Ty.int .i64 x.dst, Ty.int .i64 x.sacks.lo, Ty.int .i64 x.sacks.hi]) (fun _ => rfl) (fun _ => ⟨rfl, rfl, rfl⟩)
def LevelE : El Level := El.mk' 4 (fun x => [Ty.int .i64 x.day, Ty.int .i64 x.bin, Ty.int .i64 x.sacks.lo, Ty.int .i64 x.sacks.hi]) (fun _ => rfl) (fun _ => ⟨rfl, rfl, rfl⟩)
def CelE : El Cel := El.mk' 2 (fun x => [Ty.int .i64 x.bin, Ty.int .i64 x.day]) (fun _ => rfl) (fun _ => ⟨rfl, rfl, rfl⟩)
def FlowE : El Flow := El.mk' 4 (fun x => [Ty.int .i64 x.src, Ty.int .i64 x.dst, Ty.int .i64 x.lo, Ty.int .i64 x.hi]) (fun _ => rfl) (fun _ => ⟨rfl, rfl, rfl⟩)
def WayE : El Way := El.mk' 2 (fun x => [Ty.int .i64 (x.ix : Nat), Ty.bool x.more]) (fun _ => rfl) (fun _ => ⟨rfl, rfl, rfl⟩)
def BoolE : El Bool := El.mk' 1 (fun x => [Ty.bool x]) (fun _ => rfl) (fun _ => ⟨rfl, rfl, rfl⟩)
def RowE : El (List Int) := El.mk' 1 (fun x => [Ty.sl I64 x]) (fun _ => rfl) (fun _ => ⟨rfl, rfl, rfl⟩)
def yardTys (y : Yard) : List Ty := [Ty.int .i64 y.days, Ty.sl BinE y.bins, Ty.sl MoveE y.moves, Ty.sl LevelE y.levels]
def yardT (y : Yard) : Ty := Ty.agg (yardTys y)
def amtsTys (a : Amts) : List Ty := [Ty.sl I64 a.first, Ty.sl I64 a.moved]
def amtsT (a : Amts) : Ty := Ty.agg (amtsTys a)
theorem not_b {b : Bool} (h : (!b) = true) : b = false := by cases b <;> first | rfl | cases h
theorem not_not_b {b : Bool} (h : (!b) = false) : b = true := by cases b <;> first | rfl | cases h
theorem ne_of_nth {α : Type} [Inhabited α] {a b : List α} {k : Nat} (h : nth a k ≠ nth b k) : a ≠ b := fun e => h (by rw [e])
theorem any_not {α : Type} (q : α → Bool) (l : List α) : (!(l.any fun x => !q x)) = l.all q := by
  induction l with
  | nil => rfl
  | cons x l ih => simp only [List.any_cons, List.all_cons, Bool.not_or, Bool.not_not, ih]
end Go.Proofs.YtelbollidfdcjaaGreat

namespace Go.T
open Go Go.RowKit
def Zt : Nat := 1000000
def ZOk (M : Tags) : Prop := ∀ b u, M b = some u → Zt ≤ u → u = Zt + b
def Cb (J : World → Tags → Prop) : Prop := ∀ w M w' M', Wf w' M' → Le (fun t => Zt ≤ t) (fun t => Zt ≤ t) w M w' M' → J w M → J w' M'
def Yld (P : Program) (l : Nat) (encs : List (List Ty)) (J : Nat → World → Tags → Prop) (Jx : World → Tags → Prop) : Prop :=
  ∀ (k : Nat) (tys : List Ty), encs[k]? = some tys → ∀ w M vs, Wf w M → ZOk M → J k w M → dens w M tys vs →
    YieldAt Fence.wide 0 P l vs.toArray w fun e w' => ∃ M', Wf w' M' ∧ ZOk M' ∧ Le (fun t => t < Zt) (fun t => t < Zt) w M w' M' ∧ ((e = .returned (.bool true) ∧ J (k + 1) w' M') ∨ (e = .returned (.bool false) ∧ Jx w' M'))
def CtrI (P : Program) (f : FuncId) (args : Nat → List Ty) (encs : List (List Ty)) (resD resS : Ty) : Prop :=
  (∃ fn, P.funcs[f]? = some fn ∧ (fn.name == "runtime.NumGoroutine") = false ∧ fn.body.isNone = false) ∧
  ∀ l J Jx, (∀ k, Cb (J k)) → Cb Jx → Yld P l encs J Jx → ∀ w M vs, Wf w M → ZOk M → dens w M (args l) vs → J 0 w M →
    Calls P f vs.toArray w fun e w' => ∃ r M', e = .returned r ∧ Wf w' M' ∧ ZOk M' ∧ ((resD.den w' M' r ∧ J encs.length w' M') ∨ (resS.den w' M' r ∧ Jx w' M'))
def dCJ (J : World → Tags → Prop) (w : World) (M : Tags) (_ : Nat) : Prop :=
  ∃ Mc, Wf w Mc ∧ ZOk Mc ∧ J w Mc ∧ (∀ b, M b = none → Mc b = none) ∧ ∀ b t, b < w.heap.size → M b = some (t + 1) → Mc b = some (Zt + b)
def CJ {J : World → Tags → Prop} (hJ : Cb J) : Cont :=
  { den := dCJ J, deps := [0], cdeps := [0]
    mono := fun {S K w w' M M' t} le hk hs _ _ ⟨Mc, wf, z, hj, h1, h2⟩ => by
      have hk0 : ¬ K 0 := hk 0 (by simp)
      have hs0 : ¬ S 0 := hs 0 (by simp)
      have zero : ∀ b, M b = some 0 → M' b = some 0 ∧ w'.heap[b]? = w.heap[b]? := fun b h => let ⟨a, c⟩ := le.own b 0 h hk0; ⟨a, c hs0⟩
      have mb : ∀ b t, Mc b = some t → t < Zt → M b = some 0 := fun b t h ht => by
        cases hm : M b with
        | none => rw [h1 b hm] at h; cases h
        | some u =>
          cases u with
          | zero => rfl
          | succ u =>
            have := h2 b u (wf.lt b t h) hm
            rw [this] at h; injection h with h; omega
      have lez : Le (fun t => Zt ≤ t) (fun t => Zt ≤ t) w Mc w' (fun b => if b < w'.heap.size then (match M' b with | none => none | some (_ + 1) => some (Zt + b) | some 0 => if b < w.heap.size ∧ M b = some 0 then Mc b else some (Zt + b)) else none) := by
        refine ⟨le.size, le.os, le.tape, le.out, fun b hb hm => ?_, fun b t hm ht => ?_⟩
        · cases hmb : M b with
          | none =>
            obtain ⟨a, c⟩ := le.pub b hb hmb
            refine ⟨?_, c⟩
            simp only [a]; split <;> rfl
          | some u =>
            cases u with
            | zero =>
              obtain ⟨a, c⟩ := zero b hmb
              refine ⟨?_, c⟩
              simp only [a, hmb, hb, and_self, if_true, hm]; split <;> rfl
            | succ u => rw [h2 b u hb hmb] at hm; cases hm
        · have hlt := wf.lt b t hm
          have h0 := mb b t hm (Nat.lt_of_not_le ht)
          obtain ⟨a, c⟩ := zero b h0
          refine ⟨?_, fun _ => c⟩
          have : b < w'.heap.size := Nat.lt_of_lt_of_le hlt le.size
          simp only [this, if_true, a, h0, hlt, and_self]; exact hm
      have zok : ZOk (fun b => if b < w'.heap.size then (match M' b with | none => none | some (_ + 1) => some (Zt + b) | some 0 => if b < w.heap.size ∧ M b = some 0 then Mc b else some (Zt + b)) else none) := by
        intro b u h hu
        simp only at h
        split at h
        · split at h
          · cases h
          · injection h with h; exact h.symm
          · split at h
            · exact z b u h hu
            · injection h with h; exact h.symm
        · cases h
      have wf' : Wf w' (fun b => if b < w'.heap.size then (match M' b with | none => none | some (_ + 1) => some (Zt + b) | some 0 => if b < w.heap.size ∧ M b = some 0 then Mc b else some (Zt + b)) else none) := by
        refine ⟨fun b t h => ?_, fun b b' t ht1 h h' => ?_⟩
        · split at h
          · assumption
          · cases h
        · by_cases hz : Zt ≤ t + 1
          · have e1 := zok b _ h hz
            have e2 := zok b' _ h' hz
            omega
          · have part : ∀ b, (if b < w'.heap.size then (match M' b with | none => none | some (_ + 1) => some (Zt + b) | some 0 => if b < w.heap.size ∧ M b = some 0 then Mc b else some (Zt + b)) else none) = some (t + 1) → Mc b = some (t + 1) := fun b h => by
              split at h
              · split at h
                · cases h
                · injection h with h; omega
                · split at h
                  · exact h
                  · injection h with h; omega
              · cases h
            exact wf.inj b b' t ht1 (part b h) (part b' h')
      refine ⟨_, wf', zok, hJ _ _ _ _ wf' lez hj, fun b h => ?_, fun b t hb h => ?_⟩
      · simp only [h]; split <;> rfl
      · simp only [h, hb, if_true] }
section
variable {P : Program} {fr : Fr} {ops : Array Oper} {A : As} {rest : List Oper} {K : As → List (As × Fx) → Prop} {d : Nat} {t : TypeId} {p : String} {e : Array Edge} {Q : Exit → Act → World → Prop}
def OpY (P : Program) (fr : Fr) (ops : Array Oper) (o : Oper) (A : As) (f g : Fx) : Prop :=
  (f.d = o.dst ∧ f.K = []) ∧ (g.d = o.dst ∧ g.K = []) ∧
  ∀ a w M, Wf w M → a.tmps.size = fr.n → (∀ c, c < fr.n → (A.slots c).den w M (a.tmps.getD c undef)) → (∀ x ∈ A.tags, x.2.den w M x.1) →
    Region.wanted o (yielded ops a.tmps) = true ∧ o.wpIn fr.kd.fence 0 P a w (fun a' w' => ∃ v, a' = a.put o.dst v ∧ (f.left w M w' v ∨ g.left w M w' v)) (fun _ _ _ => False)
theorem opT_on {op : Op} {dst : Option Nat} {j s : Nat} {want : Bool} {f : Fx} (hs : dstOf ops j = some s) (hn : Nat.blt s fr.n = true) (hc : A.slots s = .bool want) (h1 : OpT P fr ops ⟨dst, op, t, p, e, none⟩ A f) :
    OpT P fr ops ⟨dst, op, t, p, e, some (j, want)⟩ A { f with rs := s :: f.rs } := by
  obtain ⟨hd, hsets, hS, hK, hop⟩ := h1
  refine ⟨hd, hsets, hS, hK, fun a w M wf hsz hrd htg => ?_⟩
  have hv := hrd s List.mem_cons_self (by simpa using hn)
  rw [hc] at hv
  have hy := yielded_bool (ops := ops) hs (by rw [hsz]; simpa using hn) hv
  have hw : Region.wanted ⟨dst, op, t, p, e, some (j, want)⟩ (yielded ops a.tmps) = true := by simp [Region.wanted, hy]
  have h := hop a w M wf hsz (fun c hc => hrd c (List.mem_cons_of_mem _ hc)) htg
  rw [if_pos (by simp [Region.wanted])] at h
  rw [if_pos hw]
  exact h
theorem r_on {op : Op} {dst : Option Nat} {j s : Nat} {want : Bool} {f : Fx} (hs : dstOf ops j = some s) (hn : Nat.blt s fr.n = true) (hc : A.slots s = .bool want) (h1 : OpT P fr ops ⟨dst, op, t, p, e, none⟩ A f)
    (h : TOps P fr ops rest (A.after f) fun A' l' => K A' ((A, { f with rs := s :: f.rs }) :: l')) : TOps P fr ops (⟨dst, op, t, p, e, some (j, want)⟩ :: rest) A K := ⟨_, opT_on hs hn hc h1, h⟩
theorem r_off {op : Op} {j s : Nat} {want c : Bool} (hs : dstOf ops j = some s) (hn : Nat.blt s fr.n = true) (hc : A.slots s = .bool c) (hne : (c == want) = false)
    (h : TOps P fr ops rest (A.set d (.ex undef)) fun A' l' => K A' ((A, { d := some d, ty := .ex undef, rs := [s] }) :: l')) : TOps P fr ops (⟨some d, op, t, p, e, some (j, want)⟩ :: rest) A K := by
  refine ⟨{ d := some d, ty := .ex undef, rs := [s] }, ⟨rfl, (by simp), (by simp), (by simp), fun a w M wf hsz hrd htg => ?_⟩, h⟩
  have hv := hrd s List.mem_cons_self (by simpa using hn)
  rw [hc] at hv
  have hy := yielded_bool (ops := ops) hs (by rw [hsz]; simpa using hn) hv
  have hw : Region.wanted ⟨some d, op, t, p, e, some (j, want)⟩ (yielded ops a.tmps) = false := by
    simp only [Region.wanted, hy]
    cases c <;> cases want <;> simp_all
  rw [if_neg (by rw [hw]; simp)]
  exact ⟨M, wf, Le.refl _ _ _ _, rfl, by simp⟩
def yv (l : Nat) : Value := .func (.yield l) #[] #[]
end
def iterPost (n : Nat) (J : Nat → World → Tags → Prop) (Jx : World → Tags → Prop) (resD resS : Ty) (e : Ending) (w' : World) : Prop :=
  ∃ r M', e = .returned r ∧ Wf w' M' ∧ ZOk M' ∧ ((resD.den w' M' r ∧ J n w' M') ∨ (resS.den w' M' r ∧ Jx w' M'))
section
variable {P : Program} {A : As}
variable {fn : Func} {n m : Nat} {w0 : World} {M0 : Tags} {J : Nat → World → Tags → Prop} {Jx : World → Tags → Prop} {resD resS : Ty}
end
end Go.T

namespace Go.T
open Go Go.RowKit
theorem Zt_pos : 1 ≤ Zt := by decide
def foldZ (M : Tags) : Tags := fun b => match M b with | none => none | some t => if Zt ≤ t then some 0 else some t
theorem foldZ_none {M : Tags} {b : Nat} (h : M b = none) : foldZ M b = none := by simp [foldZ, h]
theorem foldZ_lt {M : Tags} {b t : Nat} (h : M b = some t) (ht : t < Zt) : foldZ M b = some t := by
  have : ¬ Zt ≤ t := by omega
  simp [foldZ, h, this]
theorem foldZ_ge {M : Tags} {b t : Nat} (h : M b = some t) (ht : Zt ≤ t) : foldZ M b = some 0 := by simp [foldZ, h, ht]
theorem foldZ_some {M : Tags} {b t : Nat} (h : foldZ M b = some (t + 1)) : M b = some (t + 1) ∧ t + 1 < Zt := by
  unfold foldZ at h
  split at h
  · cases h
  · rename_i u hu
    split at h
    · cases h
    · injection h with h; subst h; exact ⟨hu, by omega⟩
theorem foldZ_wf {w : World} {M : Tags} (wf : Wf w M) : Wf w (foldZ M) :=
  ⟨fun b t h => by
    cases hm : M b with
    | none => rw [foldZ_none hm] at h; cases h
    | some u => exact wf.lt b u hm, fun b b' t ht1 h h' => wf.inj b b' t ht1 (foldZ_some h).1 (foldZ_some h').1⟩
theorem foldZ_u {M : Tags} {b u : Nat} (h : foldZ M b = some u) : u < Zt := by
  unfold foldZ at h
  split at h
  · cases h
  · split at h
    · injection h with h; subst h; decide
    · injection h with h; omega
def pinOk (n : Nat) (pass : List Nat) (s : Nat → Ty) : Bool := (List.range n).all fun c => (s c).cdeps.isEmpty && (s c).deps.all fun t => pass.contains t
def passOk (l l' : List Nat) : Bool := l.all (fun t => l'.contains t) && l'.all fun t => Nat.ble 1 t && Nat.blt t 1000000
def inZ (l : List Nat) : Bool := l.all fun t => Nat.ble 1 t && Nat.blt t 1000000
def tagsOk (l : List (Nat × Cont)) : Bool := l.all fun x => Nat.ble 1 x.1 && (Nat.blt x.1 1000000 && (inZ x.2.deps && inZ x.2.cdeps))
theorem inZ_spec {l : List Nat} (h : inZ l = true) : ∀ t ∈ l, 1 ≤ t ∧ t < Zt := by
  intro t ht
  simp only [inZ, List.all_eq_true, Bool.and_eq_true, Nat.ble_eq, Nat.blt_eq] at h
  exact h t ht
theorem tagsOk_spec {l : List (Nat × Cont)} (h : tagsOk l = true) : ∀ x ∈ l, (1 ≤ x.1 ∧ x.1 < Zt) ∧ (∀ t ∈ x.2.deps, 1 ≤ t ∧ t < Zt) ∧ ∀ t ∈ x.2.cdeps, 1 ≤ t ∧ t < Zt := by
  intro x hx
  simp only [tagsOk, List.all_eq_true, Bool.and_eq_true, Nat.ble_eq, Nat.blt_eq] at h
  obtain ⟨h1, h2, h3, h4⟩ := h x hx
  exact ⟨⟨h1, h2⟩, inZ_spec h3, inZ_spec h4⟩
theorem pinOk_spec {n : Nat} {pass : List Nat} {s : Nat → Ty} (h : pinOk n pass s = true) : ∀ c, c < n → (s c).cdeps = [] ∧ ∀ t ∈ (s c).deps, t ∈ pass := by
  intro c hc
  simp only [pinOk, List.all_eq_true, Bool.and_eq_true, List.mem_range, List.isEmpty_iff, List.contains_iff_mem] at h
  exact h c hc
theorem passOk_spec {l l' : List Nat} (h : passOk l l' = true) : (∀ t ∈ l, t ∈ l') ∧ ∀ t ∈ l', 1 ≤ t ∧ t < Zt := by
  simp only [passOk, Bool.and_eq_true, List.all_eq_true, List.contains_iff_mem, Nat.ble_eq, Nat.blt_eq] at h
  exact ⟨h.1, h.2⟩
theorem fold_den {w : World} {M : Tags} {n : Nat} : ∀ (l : List (Nat × Ty)) (vs : List Value) (tm : Array Value) (s : Nat → Ty), (l.map Prod.fst).Nodup → tm.size = n → (∀ c, c < n → (s c).den w M (tm.getD c undef)) → dens w M (l.map Prod.snd) vs →
    (((l.map Prod.fst).zip vs).foldl (fun t (p, v) => t.setIfInBounds p v) tm).size = n ∧ ∀ c, c < n → (setL l s c).den w M ((((l.map Prod.fst).zip vs).foldl (fun t (p, v) => t.setIfInBounds p v) tm).getD c undef)
  | [], [], tm, s, _, hsz, hs, _ => ⟨hsz, hs⟩
  | (d, ty) :: l, v :: vs, tm, s, hnd, hsz, hs, ⟨hv, hvs⟩ => by
    simp only [List.map_cons, List.nodup_cons] at hnd
    have hs' : ∀ c, c < n → ((fun i => bif Nat.beq i d then ty else s i) c).den w M ((tm.setIfInBounds d v).getD c undef) := fun c hc => by
      simp only [Array.getD_eq_getD_getElem?, Array.getElem?_setIfInBounds]
      by_cases e : d = c
      · subst e; simpa [hsz, hc] using hv
      · have e' : Nat.beq c d = false := by cases h : Nat.beq c d with | false => rfl | true => exact absurd (Nat.eq_of_beq_eq_true h).symm e
        simpa [e, e', Array.getD_eq_getD_getElem?] using hs c hc
    obtain ⟨h1, h2⟩ := fold_den l vs (tm.setIfInBounds d v) (fun i => bif Nat.beq i d then ty else s i) hnd.2 (by simpa using hsz) hs' hvs
    have hset : ∀ c, setL ((d, ty) :: l) s c = setL l (fun i => bif Nat.beq i d then ty else s i) c := by
      intro c
      have hl : ∀ (l : List (Nat × Ty)) (s s' : Nat → Ty), (∀ i, i = c → i ∉ l.map Prod.fst → s i = s' i) → setL l s c = setL l s' c := by
        intro l
        induction l with
        | nil => intro s s' h; exact h c rfl (by simp)
        | cons x l ih =>
          intro s s' h
          simp only [setL]
          cases hb : Nat.beq c x.1 with
          | true => rfl
          | false =>
            simp only [cond_false]
            refine ih s s' fun i hi hm => h i hi fun hm' => ?_
            rw [List.map_cons] at hm'
            rcases List.mem_cons.1 hm' with h1 | h1
            · rw [← h1, hi] at hb; simp at hb
            · exact hm h1
      simp only [setL]
      by_cases e : c = d
      · subst e
        have hb : Nat.beq c c = true := by simp
        rw [hb, cond_true]
        have : ∀ (l : List (Nat × Ty)) (s : Nat → Ty), c ∉ l.map Prod.fst → setL l s c = s c := by
          intro l
          induction l with
          | nil => intro s _; rfl
          | cons x l ih =>
            intro s h
            simp only [List.map_cons, List.mem_cons, not_or] at h
            have hb : Nat.beq c x.1 = false := by cases hb : Nat.beq c x.1 with | false => rfl | true => exact absurd (Nat.eq_of_beq_eq_true hb) h.1
            simp only [setL, hb, cond_false]
            exact ih s h.2
        rw [this l _ hnd.1]
        simp
      · have hb : Nat.beq c d = false := by cases hb : Nat.beq c d with | false => rfl | true => exact absurd (Nat.eq_of_beq_eq_true hb) e
        rw [hb, cond_false]
        exact hl l _ _ fun i hi _ => by subst hi; simp [hb]
    refine ⟨h1, fun c hc => ?_⟩
    rw [hset]; exact h2 c hc
def anyT : Nat → Ty := fun _ => Ty.any
def roundQ (fr : Fr) (B : List (Nat × Cont)) (br : Bool) (tr : List (Nat × Cont)) : Exit → Act → World → Prop
  | .normal, a, w => As.holds fr ⟨anyT, B⟩ a w
  | .ret, a, w => br = true ∧ As.holds fr ⟨anyT, tr⟩ a w
  | _, _, _ => False
theorem q_normal {fr : Fr} {A : As} {B : List (Nat × Cont)} {br : Bool} {tr : List (Nat × Cont)} (h : Ent fr A ⟨anyT, B⟩) : Into fr A (roundQ fr B br tr .normal) := fun _ _ ha => h.holds ha
def RoundT (P : Program) (n : Nat) (pass : List Nat) (assign body : Code) (A : As) (B : List (Nat × Cont)) (br : Bool) (tr : List (Nat × Cont)) : Prop :=
  ∃ A1 : As, (∀ l w M, Tri P ⟨n, w, M, pass, .round l⟩ assign A (Exit.then (fun a w' => A1.holds ⟨n, w, M, pass, .round l⟩ a w') fun _ _ _ => False)) ∧
    ∀ l w M, Tri P ⟨n, w, M, pass, .round l⟩ body (A1.after { d := none, S := [0] }) (roundQ ⟨n, w, M, pass, .round l⟩ B br tr)
section
variable {P : Program} {fr : Fr} {A : As} {Q : Exit → Act → World → Prop}
theorem base_put {w : World} {M : Tags} {l : Nat} {o : Obj} (h0 : fr.w0.heap.size ≤ l) (h1 : ∀ t, ¬ (1 ≤ t ∧ t ∉ fr.pass) → fr.M0 l ≠ some t) (hb : fr.base w M) : fr.base (w.putObj l o) M := by
  refine ⟨by simpa using hb.size, hb.os, hb.tape, hb.out, fun b hlt hm => ⟨(hb.pub b hlt hm).1, ?_⟩, fun b t hm hk => ⟨(hb.own b t hm hk).1, fun hs => ?_⟩⟩
  · rw [World.putObj_heap_other (by omega)]; exact (hb.pub b hlt hm).2
  · rw [World.putObj_heap_other (fun e => h1 t hk (by rw [← e]; exact hm))]; exact (hb.own b t hm hk).2 hs
theorem le_put0 {w : World} {M : Tags} {l : Nat} {o : Obj} (hl : M l = some 0) : Le (· ∈ [0]) (· ∈ ([] : List Nat)) w M (w.putObj l o) M := by
  refine ⟨by simp, rfl, rfl, rfl, fun b hb hm => ⟨hm, World.putObj_heap_other fun e => by rw [e, hl] at hm; cases hm⟩, fun b t hm _ => ⟨hm, fun hs => World.putObj_heap_other fun e => ?_⟩⟩
  rw [e, hl] at hm; injection hm with hm; exact hs (by simp [hm])
def JJ (fr : Fr) (s : Nat → Ty) (tm : Array Value) (ds : List Deferred) (l : Nat) (r : Loop) (tg : List (Nat × Cont)) (w : World) (M : Tags) : Prop :=
  fr.base w M ∧ (∀ c, c < fr.n → (s c).den w M (tm.getD c undef)) ∧ (∀ x ∈ tg, x.2.den w M x.1) ∧ M l = some 0 ∧ w.heap[l]? = some (.loop r) ∧ Defs fr w M ds
theorem JJ_cb {s : Nat → Ty} {tm : Array Value} {ds : List Deferred} {l : Nat} {r : Loop} {tg : List (Nat × Cont)} {pass' : List Nat} (hpass : passOk fr.pass pass' = true) (hs : pinOk fr.n pass' s = true) (ht : tagsOk tg = true) : Cb (JJ fr s tm ds l r tg) := by
  intro w M w' M' wf' le ⟨h1, h2, h3, h4, h5, h6⟩
  obtain ⟨hp1, hp2⟩ := passOk_spec hpass
  obtain ⟨a, c⟩ := le.own l 0 h4 (by decide)
  refine ⟨Fr.base_step h1 (fun t ht => Nat.le_trans Zt_pos ht) (fun t ht => ⟨Nat.le_trans Zt_pos ht, fun hm => by have := (hp2 t (hp1 t hm)).2; omega⟩) le, fun c hc => ?_, fun x hx => ?_, a, (c (by decide)).trans h5, h6.step (fun t ht => Nat.le_trans Zt_pos ht) (fun t ht => Nat.le_trans Zt_pos ht) le⟩
  · obtain ⟨e1, e2⟩ := pinOk_spec hs c hc
    exact (s c).mono le (fun t ht hz => by have := (hp2 t (e2 t ht)).2; omega) (by rw [e1]; intro _ h; cases h) (h2 c hc)
  · obtain ⟨⟨_, e2⟩, e3, e4⟩ := tagsOk_spec ht x hx
    exact x.2.mono le (fun t ht hz => by have := (e3 t ht).2; omega) (fun t ht hz => by have := (e4 t ht).2; omega) (by omega) (by omega) (h3 x hx)
def backZ (w : World) (M M3 : Tags) : Tags := fun b => match M b with | some u => if b < w.heap.size ∧ Zt ≤ u then some u else foldZ M3 b | none => foldZ M3 b
theorem round_end {s : Nat → Ty} {tm : Array Value} {ds : List Deferred} {l : Nat} {r r3 r4 : Loop} {tg0 tg : List (Nat × Cont)} {pass' : List Nat} (hpass : passOk fr.pass pass' = true) (hs : pinOk fr.n pass' s = true) (ht : tagsOk tg = true) (hkd : fr.kd = .marks)
    (h0 : fr.w0.heap.size ≤ l) (h1 : ∀ t, ¬ (1 ≤ t ∧ t ∉ fr.pass) → fr.M0 l ≠ some t)
    {w w1 w3 : World} {M M1 M3 : Tags} (wf : Wf w M) (z : ZOk M) (hj : JJ fr s tm ds l r tg0 w M)
    (le1 : Le (fun t => 1 ≤ t) (fun t => 1 ≤ t ∧ t ∉ pass') w (foldZ M) w1 M1) (wf3 : Wf w3 M3) (le3 : Le (fun t => 1 ≤ t) (fun t => 1 ≤ t ∧ t ∉ pass') (w1.putObj l (.loop r3)) M1 w3 M3)
    (htg : ∀ x ∈ tg, x.2.den w3 M3 x.1) :
    w3.heap[l]? = some (.loop r3) ∧ ∃ M4, Wf (w3.putObj l (.loop r4)) M4 ∧ ZOk M4 ∧ Le (fun t => t < Zt) (fun t => t < Zt) w M (w3.putObj l (.loop r4)) M4 ∧ JJ fr s tm ds l r4 tg (w3.putObj l (.loop r4)) M4 := by
  obtain ⟨hb, hsl, _, hl, hrec, hdef⟩ := hj
  obtain ⟨hp1, hp2⟩ := passOk_spec hpass
  have hlt : l < w.heap.size := wf.lt l 0 hl
  have hZ : (1 : Nat) ≤ Zt := by decide
  -- a block whose tag is 0, or another one that stays
  have zero : ∀ b, foldZ M b = some 0 → M3 b = some 0 ∧ (b ≠ l → w3.heap[b]? = w.heap[b]?) := fun b h => by
    obtain ⟨a, c⟩ := le1.own b 0 h (by omega)
    obtain ⟨a', c'⟩ := le3.own b 0 a (by omega)
    exact ⟨a', fun e => (c' (by omega)).trans ((World.putObj_heap_other e).trans (c (by omega)))⟩
  have pas : ∀ b t, t ∈ pass' → M b = some t → M3 b = some t := fun b t hm h => by
    obtain ⟨a, _⟩ := le1.own b t (foldZ_lt h (hp2 t hm).2) (fun h => h.2 hm)
    exact (le3.own b t a fun h => h.2 hm).1
  have pub : ∀ b, b < w.heap.size → M b = none → M3 b = none ∧ w3.heap[b]? = w.heap[b]? := fun b hb h => by
    obtain ⟨a, c⟩ := le1.pub b hb (foldZ_none h)
    obtain ⟨a', c'⟩ := le3.pub b (by simpa using Nat.lt_of_lt_of_le hb le1.size) a
    exact ⟨a', c'.trans ((World.putObj_heap_other fun e => by rw [e, hl] at h; cases h).trans c)⟩
  have hl0 : foldZ M l = some 0 := foldZ_lt hl (by decide)
  have hM1l := (le1.own l 0 hl0 (by omega)).1
  have hl1 : l < w1.heap.size := Nat.lt_of_lt_of_le hlt le1.size
  have hrec3 : w3.heap[l]? = some (.loop r3) := ((le3.own l 0 hM1l (by omega)).2 (by omega)).trans (World.putObj_heap_same hl1)
  have hM3l := (zero l hl0).1
  have hsz3 : w.heap.size ≤ w3.heap.size := Nat.le_trans le1.size (by simpa using le3.size)
  refine ⟨hrec3, backZ w M M3, ?_⟩
  -- how the tags are
  have kept : ∀ b u, M b = some u → Zt ≤ u → backZ w M M3 b = some u := fun b u h hu => by
    unfold backZ; rw [h]; simp [wf.lt b u h, hu]
  have other : ∀ b, (∀ u, M b = some u → u < Zt) → backZ w M M3 b = foldZ M3 b := fun b h => by
    unfold backZ
    cases hm : M b with
    | none => rfl
    | some u => have := h u hm; simp only; rw [if_neg (by omega)]
  have from3 : ∀ b t, M3 b = some t → 1 ≤ t → ∀ u, M b = some u → u < Zt := fun b t h h1 u hu => by
    rcases Nat.lt_or_ge u Zt with h2 | h2
    · exact h2
    · have := (zero b (foldZ_ge hu h2)).1
      rw [this] at h; injection h with h; omega
  have none3 : ∀ b, M3 b = none → ∀ u, M b = some u → u < Zt := fun b h u hu => by
    rcases Nat.lt_or_ge u Zt with h2 | h2
    · exact h2
    · have := (zero b (foldZ_ge hu h2)).1
      rw [this] at h; cases h
  have zok : ZOk (backZ w M M3) := fun b u h hu => by
    unfold backZ at h
    split at h
    · rename_i v hv
      split at h
      · injection h with h; subst h; exact z b v hv hu
      · have := foldZ_u h; omega
    · have := foldZ_u h; omega
  have wf4 : Wf (w3.putObj l (.loop r4)) (backZ w M M3) := by
    refine ⟨fun b t h => ?_, fun b b' t ht1 h h' => ?_⟩
    · rw [World.putObj_size]
      unfold backZ at h
      split at h
      · split at h
        · rename_i hc; exact Nat.lt_of_lt_of_le hc.1 hsz3
        · exact (foldZ_wf wf3).lt b t h
      · exact (foldZ_wf wf3).lt b t h
    · by_cases hz : Zt ≤ t + 1
      · have e1 := zok b _ h hz
        have e2 := zok b' _ h' hz
        omega
      · have part : ∀ b, backZ w M M3 b = some (t + 1) → M3 b = some (t + 1) := fun b h => by
          unfold backZ at h
          split at h
          · split at h
            · injection h with h; omega
            · exact (foldZ_some h).1
          · exact (foldZ_some h).1
        exact wf3.inj b b' t ht1 (part b h) (part b' h')
  have le0 : Le (· ∈ [0]) (· ∈ ([] : List Nat)) w3 M3 (w3.putObj l (.loop r4)) M3 := le_put0 hM3l
  have leZ : Le (fun t => t < Zt) (fun t => t < Zt) w M (w3.putObj l (.loop r4)) (backZ w M M3) := by
    refine ⟨by simpa using hsz3, (le0.os.trans (le3.os.trans le1.os)), (le0.tape.trans (le3.tape.trans le1.tape)), (le0.out.trans (le3.out.trans le1.out)), fun b hb hm => ?_, fun b t hm ht => ⟨kept b t hm (by omega), fun _ => ?_⟩⟩
    · obtain ⟨a, c⟩ := pub b hb hm
      refine ⟨by rw [other b (fun u hu => by rw [hm] at hu; cases hu)]; exact foldZ_none a, ?_⟩
      rw [World.putObj_heap_other fun e => by rw [e, hl] at hm; cases hm]; exact c
    · have hbl : b ≠ l := fun e => by rw [e, hl] at hm; injection hm with hm; omega
      rw [World.putObj_heap_other hbl]
      exact (zero b (foldZ_ge hm (by omega))).2 hbl
  refine ⟨wf4, zok, leZ, ?_, fun c hc => ?_, fun x hx => ?_, ?_, World.putObj_heap_same (Nat.lt_of_lt_of_le hlt hsz3), ?_⟩
  · refine ⟨Nat.le_trans hb.size leZ.size, leZ.os.trans hb.os, leZ.tape.trans hb.tape, leZ.out.trans hb.out, fun b hlt' hm => ?_, fun b t hm hk => ?_⟩
    · obtain ⟨a, c⟩ := hb.pub b hlt' hm
      obtain ⟨a', c'⟩ := leZ.pub b (Nat.lt_of_lt_of_le hlt' hb.size) a
      exact ⟨a', c'.trans c⟩
    · obtain ⟨a, c⟩ := hb.own b t hm hk
      have hbl : b ≠ l := fun e => h1 t hk (e ▸ hm)
      by_cases ht0 : t = 0
      · subst ht0
        obtain ⟨a', c'⟩ := zero b (foldZ_lt a (by decide))
        refine ⟨by rw [other b (fun u hu => by rw [a] at hu; injection hu with hu; omega)]; exact foldZ_lt a' (by decide), fun hs => ?_⟩
        rw [World.putObj_heap_other hbl]; exact (c' hbl).trans (c hs)
      · have htp : t ∈ fr.pass := Classical.byContradiction fun h => hk ⟨by omega, h⟩
        have htp' := hp1 t htp
        refine ⟨by rw [other b (fun u hu => by rw [a] at hu; injection hu with hu; have := (hp2 t htp').2; omega)]; exact foldZ_lt (pas b t htp' a) (hp2 t htp').2, fun hs => absurd (FK.canS_of (k := fr.kd) (by omega : 1 ≤ t)) hs⟩
  · obtain ⟨e1, e2⟩ := pinOk_spec hs c hc
    refine (s c).mono (S := fun _ => True) (K := fun t => t ∉ pass') ⟨leZ.size, leZ.os, leZ.tape, leZ.out, leZ.pub, fun b t hm hk => ⟨?_, fun h => absurd trivial h⟩⟩ (fun t ht h => h (e2 t ht)) (by rw [e1]; intro _ h; cases h) (hsl c hc)
    have htp : t ∈ pass' := Classical.byContradiction fun h => hk h
    rw [other b (fun u hu => by rw [hm] at hu; injection hu with hu; have := (hp2 t htp).2; omega)]
    exact foldZ_lt (pas b t htp hm) (hp2 t htp).2
  · obtain ⟨⟨g1, g2⟩, e3, e4⟩ := tagsOk_spec ht x hx
    refine x.2.mono (w := w3) (M := M3) (S := fun t => t = 0) (K := fun t => t = 0 ∨ Zt ≤ t) ⟨by simp, rfl, rfl, rfl, fun b hb hm => ⟨?_, ?_⟩, fun b t hm hk => ⟨?_, fun _ => ?_⟩⟩ (fun t ht h => by have := e3 t ht; omega) (fun t ht h => by have := (e4 t ht).1; omega) (by omega) (by omega) (htg x hx)
    · rw [other b (none3 b hm)]; exact foldZ_none hm
    · exact World.putObj_heap_other fun e => by rw [e, hM3l] at hm; cases hm
    · have ht1 : 1 ≤ t := Nat.pos_of_ne_zero fun h => hk (.inl h)
      rw [other b (from3 b t hm ht1)]; exact foldZ_lt hm (Nat.lt_of_not_le fun h => hk (.inr h))
    · exact World.putObj_heap_other fun e => by rw [e, hM3l] at hm; injection hm with hm; exact hk (.inl hm.symm)
  · rw [other l (fun u hu => by rw [hl] at hu; injection hu with hu; omega)]; exact foldZ_lt hM3l (by decide)
  · obtain ⟨rs, e, g1, g2, g3⟩ := hdef
    refine ⟨rs, e, g1, g2, fun q hq => ?_⟩
    obtain ⟨a, b, c⟩ := g3 q hq
    have hql : q ≠ l := fun e => by rw [e, hrec] at c; cases c
    obtain ⟨a', c'⟩ := zero q (foldZ_lt a (by decide))
    refine ⟨by rw [other q (fun u hu => by rw [a] at hu; injection hu with hu; omega)]; exact foldZ_lt a' (by decide), b, ?_⟩
    rw [World.putObj_heap_other hql]; exact (c' hql).trans c
theorem t_rangeFuncT {g : Operand} {ps : List Tmp} {assign body : Code} {gf : FuncId} {caps : List Ty} {encs : List (List Ty)} {resD resS : Ty} (s : Nat → Ty) (tg : Nat → List (Nat × Cont)) (br : Bool) (tr : List (Nat × Cont)) (pass' : List Nat)
    (hkd : fr.kd = .marks) (hg : A.op fr g = .clo gf caps) (hI1 : ∃ fn, P.funcs[gf]? = some fn ∧ (fn.name == "runtime.NumGoroutine") = false ∧ fn.body.isNone = false) (hI2 : ∀ (l : Nat) (J : Nat → World → Tags → Prop) (Jx : World → Tags → Prop) (tm : Array Value), (∀ k, Cb (J k)) → Cb Jx → Yld P l encs J Jx → (∀ k w M, J k w M → (∀ c, c < fr.n → (s c).den w M (tm.getD c undef)) ∧ ∀ x ∈ tg k, x.2.den w M x.1) → ∀ w M vs, Wf w M → ZOk M → dens w M (Ty.ex (yv l) :: caps) vs → J 0 w M → Calls P gf vs.toArray w (iterPost encs.length J Jx resD resS)) (hcd : ∀ t ∈ depsOf caps, t < Zt) (hcc : ∀ t ∈ cdepsOf caps, t < Zt)
    (hps : ps.Nodup) (hlen : ∀ tys ∈ encs, tys.length = ps.length ∧ depsOf tys = [] ∧ cdepsOf tys = []) (hpass : passOk fr.pass pass' = true) (hs : pinOk fr.n pass' s = true) (htg : ∀ k, tagsOk (tg k) = true) (htr : tagsOk tr = true)
    (h0 : Ent fr A ⟨s, tg 0⟩)
    (hround : ∀ k tys, encs[k]? = some tys → RoundT P fr.n pass' assign body ⟨setL (ps.zip tys) s, tg k⟩ (tg (k + 1)) br tr)
    (hdone : Into fr ⟨s, tg encs.length⟩ (Q .normal)) (hret : br = true → Into fr ⟨s, tr⟩ (Q .ret)) :
    Tri P fr (.rangeFunc g ps.toArray assign body) A Q := by
  intro a w ha
  have hfe : fr.kd.fence = Fence.wide := by rw [hkd]; rfl
  rw [hfe]
  obtain ⟨hp1, hp2⟩ := passOk_spec hpass
  have hgv : ∃ cs : Array Value, a.eval g = .func (.func gf) #[] cs ∧ ∃ M, dens w M caps cs.toList := by
    obtain ⟨M, _, hsl, _⟩ := ha
    have := op_den (x := g) (rs := opR g) (fun _ h => h) (fun c _ hn => hsl c hn)
    rw [hg] at this
    obtain ⟨cs, e, hd⟩ := this
    exact ⟨cs, e, M, hd⟩
  obtain ⟨M, ok, hsl0, htg0⟩ := id ha
  have hcs : ∃ cs : Array Value, a.eval g = .func (.func gf) #[] cs ∧ dens w M caps cs.toList := by
    have := op_den (x := g) (rs := opR g) (fun _ h => h) (fun c _ hn => hsl0 c hn)
    rw [hg] at this
    exact this
  obtain ⟨cs, hev, hcaps⟩ := hcs
  have hB0 := h0.holds (a := a) (w := w) ⟨M, ok, hsl0, htg0⟩
  -- the same tags: the assertion that is forgotten down to holds of them, too
  have hslB : ∀ c, c < fr.n → (s c).den w M (a.tmps.getD c undef) := fun c hc => (allSub_get h0.slots c hc) _ _ _ (hsl0 c hc)
  have htgB : ∀ x ∈ tg 0, x.2.den w M x.1 := fun x hx => by
    obtain ⟨C, hC, hsub⟩ := allTags_get h0.tags x hx
    exact hsub _ _ _ (htg0 _ (tag_mem hC))
  have hZ : (1 : Nat) ≤ Zt := by decide
  refine wpIn_rangeFunc fun fn _ => ?_
  obtain ⟨w1, hw1⟩ : ∃ w1, (w.alloc (.deferred (some []))).alloc (.loop { state := .ready, pending := none, fn, tmps := a.tmps, params := ps.toArray, assign, body, defers := w.heap.size }) = w1 := ⟨_, rfl⟩
  refine ⟨w.heap.size + 1, _, w1, { target := .fn (.func gf) cs, args := #[yv (w.heap.size + 1)] }, w1, gf, (yv (w.heap.size + 1) :: cs.toList).toArray, w1, by rw [← hw1]; exact run_enterLoop_outer fn a.tmps ps.toArray assign body, ?_, fun _ _ => trivial, ?_, (fun h => by cases h), ?_⟩
  · simp [resolve, rangeCall, hev, Deferred.ofValue, yv]; rfl
  · obtain ⟨fn', hf, hn, hb⟩ := hI1
    have hn' : fn'.name ≠ "runtime.NumGoroutine" := by simpa using hn
    have hb' : fn'.body ≠ none := fun h => by rw [h] at hb; cases hb
    simp [invoke, callFunc, hf, hn', hb']
  -- the world in which the iterator is called
  have hnone : ∀ b, w.heap.size ≤ b → M b = none := fun b hb => by
    cases hm : M b with
    | none => rfl
    | some t => have := ok.wf.lt b t hm; omega
  have hsz1 : w1.heap.size = w.heap.size + 2 := by rw [← hw1]; simp
  have hD : w1.heap[w.heap.size]? = some (.deferred (some [])) := by
    rw [← hw1]
    show ((w.heap.push _).push _)[w.heap.size]? = _
    rw [Array.getElem?_push, if_neg (by simp), Array.getElem?_push, if_pos rfl]
  have hL : w1.heap[w.heap.size + 1]? = some (.loop { state := .ready, pending := none, fn, tmps := a.tmps, params := ps.toArray, assign, body, defers := w.heap.size }) := by
    rw [← hw1]
    show ((w.heap.push _).push _)[w.heap.size + 1]? = _
    rw [Array.getElem?_push, if_pos (by simp)]
  have hold : ∀ b, b < w.heap.size → w1.heap[b]? = w.heap[b]? := fun b hb => by
    rw [← hw1]
    show ((w.heap.push _).push _)[b]? = _
    rw [Array.getElem?_push, if_neg (by simp; omega), Array.getElem?_push, if_neg (by omega)]
  have hw1os : w1.os = w.os ∧ w1.tape = w.tape ∧ w1.output = w.output := by rw [← hw1]; exact ⟨rfl, rfl, rfl⟩
  have leN : Le (fun t => Zt ≤ t) (fun t => Zt ≤ t) w M w1 (fun b => if b = w.heap.size ∨ b = w.heap.size + 1 then some 0 else foldZ M b) := by
    refine ⟨by omega, hw1os.1, hw1os.2.1, hw1os.2.2, fun b hb hm => ⟨?_, hold b hb⟩, fun b t hm ht => ⟨?_, fun _ => hold b (ok.wf.lt b t hm)⟩⟩
    · rw [if_neg (by omega)]; exact foldZ_none hm
    · have := ok.wf.lt b t hm
      rw [if_neg (by omega)]; exact foldZ_lt hm (Nat.lt_of_not_le ht)
  have wf1 : Wf w1 (fun b => if b = w.heap.size ∨ b = w.heap.size + 1 then some 0 else foldZ M b) := by
    refine ⟨fun b t h => ?_, fun b b' t ht1 h h' => ?_⟩
    · split at h
      · omega
      · have := (foldZ_wf ok.wf).lt b t h; omega
    · have part : ∀ b, (if b = w.heap.size ∨ b = w.heap.size + 1 then some 0 else foldZ M b) = some (t + 1) → foldZ M b = some (t + 1) := fun b h => by
        split at h
        · cases h
        · exact h
      exact (foldZ_wf ok.wf).inj b b' t ht1 (part b h) (part b' h')
  have z1 : ZOk (fun b => if b = w.heap.size ∨ b = w.heap.size + 1 then some 0 else foldZ M b) := fun b u h hu => by
    simp only at h
    split at h
    · injection h with h; omega
    · have := foldZ_u h; omega
  have hbl0 : fr.w0.heap.size ≤ w.heap.size + 1 := Nat.le_succ_of_le ok.base.size
  have hbl1 : ∀ t, ¬ (1 ≤ t ∧ t ∉ fr.pass) → fr.M0 (w.heap.size + 1) ≠ some t := fun t ht h => by
    have := (ok.base.own _ t h ht).1
    rw [hnone _ (by omega)] at this; cases this
  have defs1 : Defs fr w1 (fun b => if b = w.heap.size ∨ b = w.heap.size + 1 then some 0 else foldZ M b) (markOf w.heap.size :: a.defers) := by
    obtain ⟨rs, e, g1, g2, g3⟩ := ok.defers
    refine ⟨w.heap.size :: rs, by rw [e]; rfl, fun _ => hkd, List.nodup_cons.2 ⟨fun h => ?_, g2⟩, fun q hq => ?_⟩
    · have := ok.wf.lt _ _ (g3 _ h).1; omega
    · rcases List.mem_cons.1 hq with rfl | hq
      · refine ⟨by simp, ⟨ok.base.size, fun t ht h => ?_⟩, hD⟩
        have := (ok.base.own _ t h ht).1
        rw [hnone _ (Nat.le_refl _)] at this; cases this
      · obtain ⟨a1, b1, c1⟩ := g3 q hq
        have := ok.wf.lt _ _ a1
        exact ⟨by simp only; rw [if_neg (by omega)]; exact foldZ_lt a1 (by decide), b1, (hold q this).trans c1⟩
  -- between two rounds
  let R : LoopState → Option Code → Loop := fun st pe => { state := st, pending := pe, fn, tmps := a.tmps, params := ps.toArray, assign, body, defers := w.heap.size }
  let J : Nat → World → Tags → Prop := fun k => JJ fr s a.tmps (markOf w.heap.size :: a.defers) (w.heap.size + 1) (R .ready none) (tg k)
  let Jx : World → Tags → Prop := fun w' M' => br = true ∧ JJ fr s a.tmps (markOf w.heap.size :: a.defers) (w.heap.size + 1) (R .done (some .ret)) tr w' M'
  have hJ : ∀ k, Cb (J k) := fun k => JJ_cb hpass hs (htg k)
  have hJx : Cb Jx := fun w M w' M' wf le ⟨h, hj⟩ => ⟨h, JJ_cb hpass hs htr w M w' M' wf le hj⟩
  have hj0 : J 0 w1 (fun b => if b = w.heap.size ∨ b = w.heap.size + 1 then some 0 else foldZ M b) := by
    refine ⟨Fr.base_step ok.base (fun t ht => by omega) (fun t ht => ⟨by omega, fun hm => by have := (hp2 t (hp1 t hm)).2; omega⟩) leN, fun c hc => ?_, fun x hx => ?_, by simp, hL, defs1⟩
    · obtain ⟨e1, e2⟩ := pinOk_spec hs c hc
      exact (s c).mono leN (fun t ht hz => by have := (hp2 t (e2 t ht)).2; omega) (by rw [e1]; intro _ h; cases h) (hslB c hc)
    · obtain ⟨⟨_, e2⟩, e3, e4⟩ := tagsOk_spec (htg 0) x hx
      exact x.2.mono leN (fun t ht hz => by have := (e3 t ht).2; omega) (fun t ht hz => by have := (e4 t ht).2; omega) (by omega) (by omega) (htgB x hx)
  have hY : Yld P (w.heap.size + 1) encs J Jx := by
    intro k tys hk w2 M2 vs wf2 z2 hj hv
    obtain ⟨jb, jsl, jtg, jl, jrec, jdef⟩ := id hj
    have hvl := dens_len hv
    obtain ⟨htl, hte, htc⟩ := hlen tys (List.mem_of_getElem? hk)
    have hrunY := run_yield (P := P) (args := vs.toArray) jrec (by simp [R]; omega)
    refine ⟨_, _, _, _, hrunY, roundIn_of_wpIn trivial ?_⟩
    obtain ⟨A1, hassign, hbody⟩ := hround k tys hk
    have hzip : (ps.zip tys).map Prod.fst = ps := by rw [List.map_fst_zip (by omega)]
    have hzip2 : (ps.zip tys).map Prod.snd = tys := by rw [List.map_snd_zip (by omega)]
    have conv : ∀ {t : Ty} {v : Value}, (∀ u ∈ t.deps, u < Zt) → t.den w2 M2 v → t.den w2 (foldZ M2) v := fun {t v} hd h =>
      t.mono (S := fun _ => False) (K := fun u => Zt ≤ u) ⟨Nat.le_refl _, rfl, rfl, rfl, fun b _ hm => ⟨foldZ_none hm, rfl⟩, fun b u hm hk => ⟨foldZ_lt hm (Nat.lt_of_not_le hk), fun _ => rfl⟩⟩ (fun u hu hz => by have := hd u hu; omega) (fun _ _ h => h) h
    have convC : ∀ {C : Cont} {t : Nat}, (∀ u ∈ C.deps, u < Zt) → t < Zt → C.den w2 M2 t → C.den w2 (foldZ M2) t := fun {C t} hd ht h =>
      C.mono (S := fun _ => False) (K := fun u => Zt ≤ u) ⟨Nat.le_refl _, rfl, rfl, rfl, fun b _ hm => ⟨foldZ_none hm, rfl⟩, fun b u hm hk => ⟨foldZ_lt hm (Nat.lt_of_not_le hk), fun _ => rfl⟩⟩ (fun u hu hz => by have := hd u hu; omega) (fun _ _ h => h) (fun h => h) (by omega) h
    obtain ⟨fsz, fden⟩ := fold_den (w := w2) (M := foldZ M2) (n := fr.n) (ps.zip tys) vs a.tmps s (by rw [hzip]; exact hps) ok.size (fun c hc => conv (fun u hu => (hp2 u ((pinOk_spec hs c hc).2 u hu)).2) (jsl c hc)) (by rw [hzip2]; exact conv_nodeps (fun b h => foldZ_none h) hte htc hv)
    rw [hzip] at fsz fden
    have htm : ((R .ready none).params.zip vs.toArray).foldl (fun tmps (t, v) => tmps.setIfInBounds t v) a.tmps = (ps.zip vs).foldl (fun t (p, v) => t.setIfInBounds p v) a.tmps := by simp [R]
    have hA0 : As.holds ⟨fr.n, w2, foldZ M2, pass', .round (w.heap.size + 1)⟩ ⟨setL (ps.zip tys) s, tg k⟩ { tmps := ((R .ready none).params.zip vs.toArray).foldl (fun tmps (t, v) => tmps.setIfInBounds t v) a.tmps, defers := [] } w2 := by
      rw [htm]
      exact ⟨foldZ M2, ⟨foldZ_wf wf2, Le.refl _ _ _ _, fsz, Defs.nil⟩, fden, fun x hx => by
        obtain ⟨⟨_, e2⟩, e3, _⟩ := tagsOk_spec (htg k) x hx
        exact convC (fun u hu => (e3 u hu).2) e2 (jtg x hx)⟩
    have h1 := hassign (w.heap.size + 1) w2 (foldZ M2) _ _ hA0
    refine Go.wpIn_mono h1 fun e a1 w3 hq => ?_
    cases e with
    | normal =>
      obtain ⟨M3, ok3, hsl3, htg3⟩ := hq
      obtain ⟨l3, l3'⟩ := ok3.base.own (w.heap.size + 1) 0 (foldZ_lt jl (by decide)) (by simp)
      have rec3 : w3.heap[w.heap.size + 1]? = some (.loop (R .ready none)) := (l3' (by simp [FK.canS])).trans jrec
      refine ⟨_, run_beginRound rec3 rfl, ?_⟩
      have hkill := le_put0 (w := w3) (M := M3) (o := .loop { R .ready none with state := .busy }) l3
      have hb0 : As.holds ⟨fr.n, w3.putObj (w.heap.size + 1) (.loop { R .ready none with state := .busy }), M3, pass', .round (w.heap.size + 1)⟩ (A1.after { d := none, S := [0] }) a1 (w3.putObj (w.heap.size + 1) (.loop { R .ready none with state := .busy })) := by
        refine ⟨M3, ⟨⟨fun b t h => by simpa using ok3.wf.lt b t h, ok3.wf.inj⟩, Le.refl _ _ _ _, ok3.size, by rw [ok3.nodefers (by simp)]; exact Defs.nil⟩, fun c hc => ?_, fun x hx => ?_⟩
        · simp only [As.after, setSlot]
          rcases killSlots_spec [0] [] A1.slots c with ⟨e, hdj⟩ | ⟨_, e⟩
          · rw [e]; exact (A1.slots c).mono hkill (safe_spec hdj).1 (safe_spec hdj).2 (hsl3 c hc)
          · rw [e]; trivial
        · exact killTags_den hkill (by simpa [As.after] using hx) fun y hy _ => htg3 y hy
      have h2 := hbody (w.heap.size + 1) _ M3 _ _ hb0
      refine Go.wpIn_mono h2 fun e a4 w4 hq4 => ?_
      have le1 : Le (fun t => 1 ≤ t) (fun t => 1 ≤ t ∧ t ∉ pass') w2 (foldZ M2) w3 M3 := ok3.base
      cases e with
      | normal =>
        obtain ⟨M4, ok4, _, htg4⟩ := hq4
        obtain ⟨r4, M5, g1, g2, g3, g4⟩ := round_end (r4 := R .ready none) hpass hs (htg (k + 1)) hkd hbl0 hbl1 wf2 z2 hj le1 ok4.wf ok4.base htg4
        exact ⟨_, _, run_endRound none r4, M5, g1, g2, g3, .inl ⟨rfl, g4⟩⟩
      | ret =>
        obtain ⟨hbr, M4, ok4, _, htg4⟩ := hq4
        obtain ⟨r4, M5, g1, g2, g3, g4⟩ := round_end (r4 := R .done (some .ret)) hpass hs htr hkd hbl0 hbl1 wf2 z2 hj le1 ok4.wf ok4.base htg4
        exact ⟨_, _, run_endRound (some .ret) r4, M5, g1, g2, g3, .inr ⟨rfl, hbr, g4⟩⟩
      | exit id => exact hq4.elim
      | goto l => exact hq4.elim
      | panic c => exact hq4.elim
      | outgrown => exact hq4.elim
    | ret => exact hq.elim
    | exit id => exact hq.elim
    | goto l => exact hq.elim
    | panic c => exact hq.elim
    | outgrown => exact hq.elim
  have fin : ∀ (r : Loop) (tgs : List (Nat × Cont)) (w' : World) (M' : Tags) (o : Obj), tagsOk tgs = true → Wf w' M' → JJ fr s a.tmps (markOf w.heap.size :: a.defers) (w.heap.size + 1) r tgs w' M' → As.holds fr ⟨s, tgs⟩ { tmps := a.tmps, defers := [{ target := .collected w.heap.size, args := #[] }] ++ a.defers } (w'.putObj (w.heap.size + 1) o) := by
    intro r tgs w' M' o hok wf' ⟨jb, jsl, jtg, jl, jrec, jdef⟩
    have hk0 := le_put0 (w := w') (M := M') (o := o) jl
    refine ⟨M', ⟨⟨fun b t h => by simpa using wf'.lt b t h, wf'.inj⟩, base_put hbl0 hbl1 jb, ok.size, ?_⟩, fun c hc => ?_, fun x hx => ?_⟩
    · obtain ⟨rs, e, g1, g2, g3⟩ := jdef
      refine ⟨rs, e, g1, g2, fun q hq => ?_⟩
      obtain ⟨a1, b1, c1⟩ := g3 q hq
      exact ⟨a1, b1, by rw [World.putObj_heap_other fun e => by rw [e, jrec] at c1; cases c1]; exact c1⟩
    · obtain ⟨e1, e2⟩ := pinOk_spec hs c hc
      exact (s c).mono hk0 (fun _ _ h => by cases h) (by rw [e1]; intro _ h; cases h) (jsl c hc)
    · obtain ⟨⟨e1, e2⟩, e3, e4⟩ := tagsOk_spec hok x hx
      exact x.2.mono hk0 (fun _ _ h => by cases h) (fun t ht h => by have := (e4 t ht).1; rw [List.mem_singleton.1 h] at this; omega) (fun h => by rw [List.mem_singleton.1 h] at e1; omega) (fun h => by cases h) (jtg x hx)
  refine CallsIn.mono (callsIn_wide.2 (hI2 (w.heap.size + 1) J Jx a.tmps hJ hJx hY (fun k w M hj => ⟨hj.2.1, hj.2.2.1⟩) w1 _ (yv (w.heap.size + 1) :: cs.toList) wf1 z1 ⟨rfl, ?_⟩ hj0)) ?_
  · exact dens_mono leN (fun t ht hz => Nat.lt_irrefl _ (Nat.lt_of_lt_of_le (hcd t ht) hz)) (fun t ht hz => Nat.lt_irrefl _ (Nat.lt_of_lt_of_le (hcc t ht) hz)) hcaps
  · rintro e w' ⟨r, M', he, wf', z', hor⟩
    subst he
    rcases hor with ⟨_, hj⟩ | ⟨_, hbr, hj⟩
    · refine ⟨none, _, run_endLoop hj.2.2.2.2.1 (by simp [R]), ?_⟩
      exact hdone _ _ (fin _ _ w' M' _ (htg _) wf' hj)
    · refine ⟨some .ret, _, run_endLoop hj.2.2.2.2.1 (by simp [R]), ?_⟩
      exact wpIn_ret (hret hbr _ _ (fin _ _ w' M' _ htr wf' hj))
end
section
variable {P : Program} {A : As} {fn : Func} {n : Nat} {w0 : World} {M0 : Tags} {F : List Nat}
theorem leaves_marks {R : Ending → World → Prop} {tm : Array Value} {s : Nat → Ty} {tgs : List (Nat × Cont)} {pass : List Nat} (fr : Fr)
    (hs0 : ∀ c, c < fr.n → ∀ t ∈ (s c).cdeps, t ≠ 0) (ht0 : ∀ x ∈ tgs, x.1 ≠ 0 ∧ ∀ t ∈ x.2.cdeps, t ≠ 0)
    (h : ∀ w M, Wf w M → fr.base w M → (∀ c, c < fr.n → (s c).den w M (tm.getD c undef)) → (∀ x ∈ tgs, x.2.den w M x.1) → ∃ v, (results fn tm).run P w = .ok v w ∧ R (.returned v) w) :
    ∀ (rs : List Nat) (w : World) (M : Tags), Wf w M → fr.base w M → (∀ c, c < fr.n → (s c).den w M (tm.getD c undef)) → (∀ x ∈ tgs, x.2.den w M x.1) → rs.Nodup → (∀ r ∈ rs, M r = some 0 ∧ fr.w0.heap.size ≤ r ∧ (∀ t, ¬ (1 ≤ t ∧ t ∉ fr.pass) → fr.M0 r ≠ some t) ∧ w.heap[r]? = some (.deferred (some []))) →
      LeavesInM Fence.wide 0 P fn tm R (rs.map markOf) .returning w
  | [], w, M, wf, hb, hs, ht, _, _ => h w M wf hb hs ht
  | r :: rs, w, M, wf, hb, hs, ht, hnd, hr => by
    obtain ⟨a, b, c, d⟩ := hr r List.mem_cons_self
    have le := le_put0 (w := w) (M := M) (o := .deferred none) a
    refine ⟨by simp, .inl ⟨r, _, rfl, run_takeDeferred d, ?_⟩⟩
    refine leaves_marks (pass := pass) fr hs0 ht0 h rs _ M ⟨fun b t h => by simpa using wf.lt b t h, wf.inj⟩ (base_put b c hb) (fun c hc => (s c).mono le (fun _ _ h => by cases h) (fun t ht h => hs0 c hc t ht (List.mem_singleton.1 h)) (hs c hc))
      (fun x hx => x.2.mono le (fun _ _ h => by cases h) (fun t htt h => (ht0 x hx).2 t htt (List.mem_singleton.1 h)) (fun h => (ht0 x hx).1 (List.mem_singleton.1 h)) (fun h => by cases h) (ht x hx)) (List.nodup_cons.1 hnd).2 (fun q hq => ?_)
    obtain ⟨a1, b1, c1, d1⟩ := hr q (List.mem_cons_of_mem _ hq)
    refine ⟨a1, b1, c1, ?_⟩
    rw [World.putObj_heap_other fun e => (List.nodup_cons.1 hnd).1 (by rw [← e]; exact hq)]; exact d1
def notZero (n : Nat) (A : As) : Bool := ((List.range n).all fun c => (A.slots c).cdeps.all fun t => Nat.ble 1 t) && A.tags.all fun x => Nat.ble 1 x.1 && x.2.cdeps.all fun t => Nat.ble 1 t
theorem m_ret {R : Ending → World → Prop} (hz : notZero n A = true) (h : Into ⟨n, w0, M0, F, .plain⟩ A (bodyPost P fn R .ret)) : Into ⟨n, w0, M0, F, .marks⟩ A (bodyPostM Fence.wide 0 P fn R .ret) := by
  intro a w ⟨M, ok, hsl, htg⟩
  obtain ⟨rs, e, g1, g2, g3⟩ := ok.defers
  simp only [notZero, Bool.and_eq_true, List.all_eq_true, List.mem_range, Nat.ble_eq] at hz
  show LeavesInM Fence.wide 0 P fn a.tmps R a.defers .returning w
  rw [e]
  refine leaves_marks (pass := []) (s := A.slots) (tgs := A.tags) ⟨n, w0, M0, F, .marks⟩ (fun c hc t ht => by have := hz.1 c hc t ht; omega) (fun x hx => ⟨by have := (hz.2 x hx).1; omega, fun t ht => by have := (hz.2 x hx).2 t ht; omega⟩) (fun w2 M2 wf hb hs ht => ?_) rs w M ok.wf ok.base hsl htg g2 (fun r hr => ?_)
  · exact (h { tmps := a.tmps, defers := [] } w2 ⟨M2, ⟨wf, hb, ok.size, Defs.nil⟩, hs, ht⟩).2
  · obtain ⟨a1, b1, c1⟩ := g3 r hr
    exact ⟨a1, b1.1, b1.2, c1⟩
theorem fnMG_intro {f : FuncId} {fn : Func} {c : Code} {F : List Nat} {pre post : List (Nat × Cont)} {args : List Ty} {res : Ty} {n : Nat} (hf : P.funcs[f]? = some fn) (hb : fn.body = some c) (hn : (fn.name == "runtime.NumGoroutine") = false) (hnt : fn.ntmps = n) (hl : args.length ≤ n)
    (h : ∀ w0 M0, Tri P ⟨n, w0, M0, F, .marks⟩ c (entryG args pre) (bodyPostM Fence.wide 0 P fn (keepPost F post w0 M0 res))) : CtrG P f F pre args post res := by
  refine ⟨⟨fn, hf, hn, by rw [hb]; rfl⟩, fun w M vs wf hd hpre => callsIn_wide.1 (callsIn_of_wp_marks (n := 0) hf hb trivial (h w M _ _ ?_))⟩
  have hlen := dens_len hd
  refine ⟨M, ⟨wf, Le.refl _ _ _ _, by simp [hnt, hlen]; omega, Defs.nil⟩, fun c hc => ?_, hpre⟩
  simp only [entryG]
  cases ha : args[c]? with
  | none => trivial
  | some ty =>
    obtain ⟨v, hv, hdv⟩ := dens_get hd c ty ha
    have : (vs.toArray ++ Array.replicate (fn.ntmps - vs.toArray.size) undef).getD c undef = v := by
      have hlt : c < vs.length := (List.getElem?_eq_some_iff.1 hv).1
      rw [Array.getD_eq_getD_getElem?, Array.getElem?_append_left (by simpa using hlt)]
      simp [hv]
    rw [this]; exact hdv
theorem enc_get {α : Type} [Inhabited α] {xs : List α} {f : α → List Ty} {k : Nat} {t : List Ty} (h : (xs.map f)[k]? = some t) : k < xs.length ∧ t = f (nth xs k) := by
  rw [List.getElem?_map] at h
  obtain ⟨x, hx, rfl⟩ := Option.map_eq_some_iff.1 h
  obtain ⟨hk, e⟩ := List.getElem?_eq_some_iff.1 hx
  exact ⟨hk, by rw [nth_lt hk, e]⟩
theorem get_enc {α : Type} [Inhabited α] {xs : List α} {f : α → List Ty} {k : Nat} {t : List Ty} (h : k < xs.length) (e : f (nth xs k) = t) : (xs.map f)[k]? = some t := by
  rw [List.getElem?_map, List.getElem?_eq_getElem h, ← nth_lt h, ← e]; rfl
end
section
variable {P : Program} {fr : Fr} {A : As} {Q : Exit → Act → World → Prop}
end
section
variable {P : Program} {fr : Fr} {ops : Array Oper} {A : As} {rest : List Oper} {K : As → List (As × Fx) → Prop} {d : Nat} {t ty' : TypeId} {p : String} {e : Array Edge} {x : Operand}
theorem mvM {tg : Nat} (hx : A.op fr x = .mp tg) (h : TOps P fr ops rest (A.set d (.mp tg)) fun A' l' => K A' ((A, { d := some d, ty := .mp tg, rs := opR x }) :: l')) : TOps P fr ops (⟨some d, .move x, t, p, e, none⟩ :: rest) A K := r_move hx h
theorem asM {tg : Nat} (hx : A.op fr x = .mp tg) (h : TOps P fr ops rest (A.set d (.mp tg)) fun A' l' => K A' ((A, { d := some d, ty := .mp tg, rs := opR x }) :: l')) : TOps P fr ops (⟨some d, .assign x, t, p, e, none⟩ :: rest) A K := r_assign hx h
theorem mvMP {κ β : Type} [DecidableEq κ] {enc : κ → Value} {V : VT β} {kvs : List (κ × β)} (hx : A.op fr x = .pm enc V kvs) (h : TOps P fr ops rest (A.set d (.pm enc V kvs)) fun A' l' => K A' ((A, { d := some d, ty := .pm enc V kvs, rs := opR x }) :: l')) : TOps P fr ops (⟨some d, .move x, t, p, e, none⟩ :: rest) A K := r_move hx h
theorem asMP {κ β : Type} [DecidableEq κ] {enc : κ → Value} {V : VT β} {kvs : List (κ × β)} (hx : A.op fr x = .pm enc V kvs) (h : TOps P fr ops rest (A.set d (.pm enc V kvs)) fun A' l' => K A' ((A, { d := some d, ty := .pm enc V kvs, rs := opR x }) :: l')) : TOps P fr ops (⟨some d, .assign x, t, p, e, none⟩ :: rest) A K := r_assign hx h
theorem cc_mp {κ β : Type} [DecidableEq κ] {ρ : List (Nat × Nat)} {a b : Nat} {enc : κ → Value} {V : VT β} {k1 k2 : List (κ × β)} (h : (a, b) ∈ ρ) (e : k1 = k2) : ConvC ρ a (.mp enc V k1) b (.mp enc V k2) := fun w M M' _ _ hre ⟨k, h1, es, clock, h2, h3, h4⟩ => by
  subst e
  refine ⟨k, hre.some _ h k h1, es, clock, h2, h3, conv_nodeps hre.none ?_ ?_ h4⟩
  · exact List.eq_nil_iff_forall_not_mem.2 fun u hu => by
      simp only [depsOf, List.mem_flatMap, List.mem_map] at hu
      obtain ⟨t, ⟨x, _, rfl⟩, hu⟩ := hu
      rw [(V.nodeps x.2).1] at hu; cases hu
  · exact List.eq_nil_iff_forall_not_mem.2 fun u hu => by
      simp only [cdepsOf, List.mem_flatMap, List.mem_map] at hu
      obtain ⟨t, ⟨x, _, rfl⟩, hu⟩ := hu
      rw [(V.nodeps x.2).2] at hu; cases hu
end
section
variable {P : Program} {A : As} {fn : Func} {n : Nat} {w0 : World} {M0 : Tags} [T : Tab P]
theorem i_rcella_eq {α : Type} {E : El α} {xs ys : List α} {tm ty tg Tb : Nat} {ti : TI} (e : xs = ys) (hr : fn.results = #[.cell tm ty]) (ht : Nat.blt tm n = true) (hx : A.slots tm = .ptr tg 0) (hc : A.tag tg = some (.vec E Tb xs)) (h1 : Tag1 tg) (hT : T.tab[ty]? = some ti) (ha : ti.k.agg = true) (hsz : xs.length * E.size = ti.size) (hne : xs ≠ []) : Into ⟨n, w0, M0, [], .plain⟩ A (bodyPost P fn (retPost w0 M0 (.arr E ys)) .ret) := by
  subst e; exact i_rcella hr ht hx hc h1 hT ha hsz hne
end
end Go.T

namespace Go.T
open Go Go.RowKit
section
variable {P : Program} {fr : Fr} {ops : Array Oper} {A : As} {rest : List Oper} {K : As → List (As × Fx) → Prop} {d : Nat} {t ty' : TypeId} {p : String} {e : Array Edge} [T : Tab P]
variable {α β : Type} {E : El α} {E' : El β} {x y : Operand} {tg off Tb : Nat} {ti te tf : TI} {ty : Ty} {o z : α}
theorem cells_take {l : List Ty} {off n : Nat} {w : World} {M : Tags} {b q : Nat} (h : ∀ (i : Nat) (t : Ty), l[i]? = some t → ∃ v, w.cell? ⟨b, q + i, none⟩ = some v ∧ t.den w M v) {m : List Ty} (hm : (l.drop off).take n = m) (hn : m.length = n) :
    ∃ cs : List Value, cs.length = n ∧ dens w M m cs ∧ ∀ j v, cs[j]? = some v → w.cell? ⟨b, q + off + j, none⟩ = some v := by
  have hget : ∀ (i : Nat) (t : Ty), (l.drop off)[i]? = some t → ∃ u, w.cell? ⟨b, q + off + i, none⟩ = some u ∧ t.den w M u := fun i t hi => by
    rw [List.getElem?_drop] at hi
    obtain ⟨v, hv, hd⟩ := h _ _ hi
    exact ⟨v, by rw [Nat.add_assoc]; exact hv, hd⟩
  have hle : n ≤ (l.drop off).length := by
    have := congrArg List.length hm
    rw [List.length_take, hn] at this; omega
  obtain ⟨cs, h1, h2, h3⟩ := op_cells hget n hle
  exact ⟨cs, h1, hm ▸ h2, h3⟩
def dAo (E : El α) (o : α) (w : World) (M : Tags) (v : Value) : Prop := ∃ cs : Array Value, v = .agg cs ∧ dens w M (E.tys o) cs.toList
def Ty.ao (E : El α) (o : α) : Ty :=
  { den := dAo E o, mono := fun le _ _ ⟨cs, e, h⟩ => ⟨cs, e, dens_mono le (by rw [E.nodeps]; intro _ h; cases h) (by rw [E.nocdeps]; intro _ h; cases h) h⟩ }
def dPe (E : El α) (o : α) (off : Nat) (w : World) (M : Tags) (v : Value) : Prop := ∃ b q, v = .pointer (some ⟨b, q + off, none⟩) ∧ pubAt w M b q (E.tys o)
def Ty.pe (E : El α) (o : α) (off : Nat) : Ty :=
  ⟨dPe E o off, [], [], fun le _ _ ⟨b, q, e, h⟩ => ⟨b, q, e, pubAt_mono le (by rw [E.nodeps]; intro _ h; cases h) (by rw [E.nocdeps]; intro _ h; cases h) h⟩, true, fun _ ⟨_, _, e, _⟩ => e ▸ rfl⟩
end
theorem Ctr.mono {P : Program} {f : FuncId} {args : List Ty} {r r' : Ty} (h : Ctr P f args r) (hs : r.Sub r') : Ctr P f args r' :=
  ⟨h.1, fun w M vs wf hM hd => (h.2 w M vs wf hM hd).mono fun _ _ ⟨v, M', e, a, b, c⟩ => ⟨v, M', e, a, b, hs _ _ _ c⟩⟩
section
variable {P : Program} {fr : Fr} {A : As} {Q : Exit → Act → World → Prop} {x y : Code}
theorem t_cond_tt {c : Operand} {b : Bool} (hc : A.op fr c = .bool b) (hb : b = true) (h1 : Tri P fr x A Q) : Tri P fr (.cond c x y) A Q := t_cond hc (fun _ => h1) (fun h => by rw [hb] at h; cases h)
theorem t_cond_ff {c : Operand} {b : Bool} (hc : A.op fr c = .bool b) (hb : b = false) (h1 : Tri P fr y A Q) : Tri P fr (.cond c x y) A Q := t_cond hc (fun h => by rw [hb] at h; cases h) (fun _ => h1)
end
end Go.T

namespace Go.T
open Go Go.RowKit
def Ty.nd (t : Ty) (h1 : t.deps = []) (h2 : t.cdeps = []) : Ty := ⟨t.den, [], [], fun le _ _ h => t.mono le (by rw [h1]; intro _ h; cases h) (by rw [h2]; intro _ h; cases h) h, t.one, t.isOne⟩
theorem cal_nd {P : Program} {t : Ty} {args : List Ty} {res : Ty} (h1 : t.deps = []) (h2 : t.cdeps = []) (h : Cal P t args res) : Cal P (t.nd h1 h2) args res := h
def dWhen (c : Bool) (t : Ty) (w : World) (M : Tags) (v : Value) : Prop := v.oneCell' = true ∧ (c = true → t.den w M v)
def Ty.when (c : Bool) (t : Ty) : Ty := { den := dWhen c t, deps := t.deps, cdeps := t.cdeps, mono := fun le hk hs h => ⟨h.1, fun hc => t.mono le hk hs (h.2 hc)⟩, one := true, isOne := fun _ h => h.1 }
section
variable {P : Program} {fr : Fr} {ops : Array Oper} {A : As} {rest : List Oper} {K : As → List (As × Fx) → Prop} {d : Nat} {t ty' : TypeId} {p : String} {e : Array Edge}
variable {α β : Type} {E : El α} {E' : El β} {x y : Operand} {tg off Tb : Nat} {ti te tf : TI} {ty : Ty} {o z : α} {xs : List α}
def dPa (E : El α) (xs : List α) (off : Nat) (w : World) (M : Tags) (v : Value) : Prop := ∃ b q, v = .pointer (some ⟨b, q + off, none⟩) ∧ pubAt w M b q (xs.flatMap E.tys)
def Ty.pa (E : El α) (xs : List α) (off : Nat) : Ty :=
  ⟨dPa E xs off, [], [], fun le _ _ ⟨b, q, e, h⟩ => ⟨b, q, e, pubAt_mono le (by rw [E.flat_deps]; intro _ h; cases h) (by rw [E.flat_cdeps]; intro _ h; cases h) h⟩, true, fun _ ⟨_, _, e, _⟩ => e ▸ rfl⟩
theorem r_box_arr (hx : A.op fr x = .arr E xs) (h : TOps P fr ops rest (A.set d (.pa E xs 0)) fun A' l' => K A' ((A, { d := some d, ty := .pa E xs 0, rs := opR x }) :: l')) : TOps P fr ops (⟨some d, .box ty' x, t, p, e, none⟩ :: rest) A K := by
  refine ⟨_, opT_mem (f := { d := some d, ty := .pa E xs 0, rs := opR x }) rfl rfl (by simp) (by simp) (by simp) fun a w M wf hr _ => ?_, h⟩
  have hd := op_den (x := x) (fun _ h => h) hr
  rw [hx] at hd
  obtain ⟨cs, ex, hds⟩ := hd
  obtain ⟨h1, h2, _⟩ := le_new wf (.cells cs ty')
  refine ⟨.pointer (some ⟨w.heap.size, 0, none⟩), w.alloc (.cells cs ty'), ?_, M, h1, h2, ⟨_, 0, rfl, ?_⟩, by simp⟩
  · simp [execOp, Instr.box, newVar, newRow, newObj, Sem.run, ex, Value.cells]
  · exact pub_new (T := ty') wf hds
variable [T : Tab P]
theorem r_load_pa [Inhabited α] {i : Nat} (hx : A.op fr x = .pa E xs off) (hT : T.tab[ty']? = some ti) (ha : ti.k.agg = false) (he : off = i * E.size) (hi : i < xs.length) (hl : (E.tys (nth xs i))[0]? = some ty)
    (h : TOps P fr ops rest (A.set d ty) fun A' l => K A' ((A, { d := some d, ty := ty, rs := opR x }) :: l)) : TOps P fr ops (⟨some d, .load ty' x, t, p, e, none⟩ :: rest) A K :=
  tops_pure (opT_pure (rt := []) rfl rfl fun a w M _ hr _ => by
    have := op_den (x := x) (fun _ h => h) hr
    rw [hx] at this
    obtain ⟨b, q, e, hp⟩ := this
    obtain ⟨v, hv, hd⟩ := hp.2.2 off ty (by rw [he]; exact flat_elem E xs hi 0 ty hl)
    exact ⟨v, by simp [execOp, e, run_load1 hT ha hv], hd⟩) h
theorem r_load_paA (hx : A.op fr x = .pa E xs 0) (hT : T.tab[ty']? = some ti) (ha : ti.k.agg = true) (hn : xs.length * E.size = ti.size)
    (h : TOps P fr ops rest (A.set d (.arr E xs)) fun A' l => K A' ((A, { d := some d, ty := .arr E xs, rs := opR x }) :: l)) : TOps P fr ops (⟨some d, .load ty' x, t, p, e, none⟩ :: rest) A K :=
  tops_pure (opT_pure (rt := []) rfl rfl fun a w M _ hr _ => by
    have := op_den (x := x) (fun _ h => h) hr
    rw [hx] at this
    obtain ⟨b, q, e, hp⟩ := this
    obtain ⟨cs, g1, g2, g3⟩ := cells_take (off := 0) (n := ti.size) hp.2.2 (m := xs.flatMap E.tys) (by rw [List.drop_zero, List.take_of_length_le (by rw [flat_len]; omega)]) (by rw [flat_len]; exact hn)
    exact ⟨.agg cs.toArray, by simp only [execOp, e]; rw [Sem.run_bind, run_loadN (off := q + 0) hT ha g1 g3]; rfl, cs.toArray, rfl, by simpa using g2⟩) h
theorem r_index_pa {n : Nat} {k : IntKind} {i : Nat} {el : Nat} (hx : A.op fr x = .pa E xs off) (hy : A.op fr y = .int k i) (hT : T.tab[ty']? = some ti) (hk : ti.k = .array n el) (hE : T.tab[el]? = some te) (h1 : i < n)
    (h : TOps P fr ops rest (A.set d (.pa E xs (off + i * te.size))) fun A' l' => K A' ((A, { d := some d, ty := .pa E xs (off + i * te.size), rs := opR x ++ opR y }) :: l')) : TOps P fr ops (⟨some d, .indexAddr ty' x y, t, p, e, none⟩ :: rest) A K :=
  tops_pure (opT_pure (rt := []) rfl rfl fun a w M _ hr _ => by
    obtain ⟨hdx, hdy⟩ := op2 hr
    rw [hx] at hdx; rw [hy] at hdy
    obtain ⟨b, q, ex, hp⟩ := hdx
    have ey : a.eval y = .int k i := hdy
    refine ⟨_, by simp only [execOp, ex, ey, Sem.run_bind, run_index_array hT hk hE (Int.natCast_nonneg i) (show (i : Int).toNat < n from h1)]; rfl, b, q, by simp [Nat.add_assoc], hp⟩) h
end
theorem ret_nil_eq {α : Type} {E : El α} {xs : List α} (e : xs = []) : RetSub (Ty.ex (.slice none 0 0)) (Ty.sl E xs) := e ▸ ret_nil
def SubL : List Ty → List Ty → Prop
  | [], [] => True
  | s :: ss, t :: ts => s.Sub t ∧ SubL ss ts
  | _, _ => False
theorem subL_dens {w : World} {M : Tags} : ∀ {ss ts : List Ty} {vs : List Value}, SubL ss ts → dens w M ss vs → dens w M ts vs
  | [], [], [], _, _ => trivial
  | _ :: _, _ :: _, _ :: _, ⟨h, h'⟩, ⟨h1, h2⟩ => ⟨h _ _ _ h1, subL_dens h' h2⟩
theorem Ctr.args {P : Program} {f : FuncId} {a a' : List Ty} {r : Ty} (h : Ctr P f a r) (hs : SubL a' a) : Ctr P f a' r :=
  ⟨h.1, fun w M vs wf hM hd => h.2 w M vs wf hM (subL_dens hs hd)⟩
section
variable {P : Program} {A : As} {fn : Func} {n m : Nat} {w0 : World} {M0 : Tags} {J : Nat → World → Tags → Prop} {Jx : World → Tags → Prop} {resD resS : Ty}
end
end Go.T

namespace Go.T
open Go Go.RowKit
section
variable {P : Program} {fr : Fr} {ops : Array Oper} {A : As} {rest : List Oper} {K : As → List (As × Fx) → Prop} {d : Nat} {t ty' ty2 : TypeId} {p : String} {e : Array Edge} {x y : Operand}
theorem opT_stripG {o : Oper} {f : Fx} {s : Nat} {g h : Bool} {ty : Ty} (hs : A.slots s = .gd (g && h) ty) (hg : g = true) (hx : OpT P fr ops o (A.set s (.gd h ty)) f) : OpT P fr ops o A f := by
  obtain ⟨h1, h2, h3, h4, h5⟩ := hx
  refine ⟨h1, h2, h3, h4, fun a w M wf hsz hr ht => h5 a w M wf hsz (fun c hc hcn => ?_) ht⟩
  have := hr c hc hcn
  simp only [As.set]
  cases hb : Nat.beq c s with
  | false => exact this
  | true =>
    have e : c = s := Nat.eq_of_beq_eq_true hb
    subst e
    rw [hs, hg, Bool.true_and] at this
    exact this
theorem run_equal_B {ty' : TypeId} (hu : P.underlying ty' = some .bool) (b1 b2 : Bool) (w : World) : (Op.equal ty' (.bool b1) (.bool b2)).run P w = .ok (b1 == b2) w := by
  unfold Op.equal Op.maxDepth
  rw [Op.equalIn]
  simp only [Sem.run_bind, run_underlying hu, Result.andThen_ok]
  rfl
theorem r_neq_B {b1 b2 : Bool} (hu : P.underlying ty' = some .bool) (hx : A.op fr x = .bool b1) (hy : A.op fr y = .bool b2)
    (h : TOps P fr ops rest (A.set d (.bool (!(b1 == b2)))) fun A' l' => K A' ((A, { d := some d, ty := .bool (!(b1 == b2)), rs := opR x ++ opR y }) :: l')) : TOps P fr ops (⟨some d, .binOp .neq ty' x y ty2, t, p, e, none⟩ :: rest) A K :=
  tops_pure (opT_pure rfl rfl fun a w M _ hrd _ => by
    obtain ⟨hdx, hdy⟩ := op2 hrd
    rw [hx] at hdx; rw [hy] at hdy
    have ex : a.eval x = .bool b1 := hdx
    have ey : a.eval y = .bool b2 := hdy
    exact ⟨.bool (!(b1 == b2)), by simp only [execOp, ex, ey]; simp [eqGuard, binOp, go_sem, bne, run_equal_B hu], rfl⟩) h
section
variable {b : Frame} {a : Act} {k : List Item} {cs : List Frame} {w : World}
theorem stepR_scope {c : Code} : step P (lone (b.atR a (.code (.scope c) :: k)) cs w) = .next (lone (b.atR a (.code c :: .inScope c :: k)) cs w) :=
  step_lone_go (by simp [stepG, stepG.exec, Frame.atR])
theorem stepR_inScope {c : Code} : step P (lone (b.atR a (.inScope c :: k)) cs w) = .next (lone (b.atR a k) cs w) :=
  step_lone_go (by simp [stepG, stepG.exec, Frame.atR])
end
theorem wpIn_scope {F : Fence} {n : Nat} {c : Code} {Q : Exit → Act → World → Prop} {a : Act} {w : World} (h : c.wpIn F n P (Exit.noGoto Q) a w) : (Code.scope c).wpIn F n P Q a w := by
  intro b k cs hro hb hr
  have h0 : (lone (b.atR a (.code (.scope c) :: k)) cs w).fenced P F := fenced_calm hb hr rfl
  obtain ⟨e, a₁, w₁, hq, harr⟩ := h b (.inScope c :: k) cs hro hb hr
  cases e with
  | normal => exact ⟨.normal, a₁, w₁, hq, .head h0 stepR_scope (StepsIn.trans harr (.one (fenced_calm hb hr rfl) stepR_inScope))⟩
  | exit id =>
    have hx : exitTo id (.inScope c :: k) = exitTo id k := by simp [exitTo]
    exact ⟨.exit id, a₁, w₁, hq, fun k' hk => .head h0 stepR_scope (harr.1 k' (by rw [hx]; exact hk)),
      fun hr' hk => let ⟨k₁, h1, h2⟩ := harr.2 hr' (by rw [hx]; exact hk); ⟨k₁, h1, .head h0 stepR_scope h2⟩⟩
  | goto l => exact hq.elim
  | ret => exact ⟨_, a₁, w₁, hq, .of_steps (.one h0 stepR_scope) harr⟩
  | panic ch => exact ⟨_, a₁, w₁, hq, .of_steps (.one h0 stepR_scope) harr⟩
  | outgrown => exact ⟨_, a₁, w₁, hq, .of_steps (.one h0 stepR_scope) harr⟩
section
variable {Q : Exit → Act → World → Prop} {c : Code} {i : Nat}
theorem t_scope (h : Tri P fr c A (Exit.noGoto Q)) : Tri P fr (.scope c) A Q := fun a w ha => wpIn_scope (h a w ha)
theorem t_label (h : Into fr A (Q .normal)) : Tri P fr (.label i) A Q := fun a w ha => wpIn_label (h a w ha)
theorem i_scope_ret (h : Into fr A (Q .ret)) : Into fr A (Exit.noGoto Q .ret) := h
end
def dNb (p : Prop) (_ : World) (_ : Tags) (v : Value) : Prop := ∃ c : Bool, v = .bool c ∧ (c = true → p)
def Ty.nb (p : Prop) : Ty := { den := dNb p, mono := fun _ _ _ h => h, one := true, isOne := fun _ ⟨_, e, _⟩ => e ▸ rfl }
theorem t_cond_nb {Q : Exit → Act → World → Prop} {c : Operand} {q : Prop} {x y : Code} (hc : A.op fr c = .nb q) (h1 : q → Tri P fr x A Q) (h2 : True → Tri P fr y A Q) : Tri P fr (.cond c x y) A Q := fun a w ha => by
  have hv : ∃ b : Bool, a.eval c = .bool b ∧ (b = true → q) := by
    obtain ⟨M, _, hs, _⟩ := ha
    have := op_den (x := c) (rs := opR c) (fun _ h => h) (fun c _ hn => hs c hn)
    rw [hc] at this; exact this
  obtain ⟨b, hv, hq⟩ := hv
  cases b with
  | true => exact wpIn_cond_true hv (h1 (hq rfl) a w ha)
  | false => exact wpIn_cond_false hv (h2 trivial a w ha)
theorem run_equal_nil {ty' : TypeId} {el : TypeId} (hu : P.underlying ty' = some (.slice el)) (A : Option Addr) (n c : Nat) (w : World) : (Op.equal ty' (.slice A n c) (.slice none 0 0)).run P w = .ok A.isNone w := by
  unfold Op.equal Op.maxDepth
  rw [Op.equalIn]
  simp only [Sem.run_bind, run_underlying hu, Result.andThen_ok]
  cases A <;> rfl
theorem r_eqnil {α : Type} {E : El α} {xs : List α} {el : TypeId} (hu : P.underlying ty' = some (.slice el)) (hx : A.op fr x = .sl E xs)
    (h : TOps P fr ops rest (A.set d (.nb (xs = []))) fun A' l' => K A' ((A, { d := some d, ty := .nb (xs = []), rs := opR x }) :: l')) : TOps P fr ops (⟨some d, .binOp .eql ty' x (.const (.slice none 0 0)) ty2, t, p, e, none⟩ :: rest) A K :=
  tops_pure (opT_pure (rt := []) rfl rfl fun a w M _ hr _ => by
    have := op_den (x := x) (fun _ h => h) hr
    rw [hx] at this
    obtain ⟨ad, c, ex, _, _, hp⟩ := this
    have ey : a.eval (.const (.slice none 0 0)) = .slice none 0 0 := rfl
    refine ⟨.bool ad.isNone, by simp only [execOp, ex, ey]; simp [eqGuard, binOp, go_sem, run_equal_nil hu], ad.isNone, rfl, fun hn => ?_⟩
    cases xs with
    | nil => rfl
    | cons y l =>
      obtain ⟨b, off, e, _⟩ := hp (by simp)
      rw [e] at hn; cases hn) h
theorem flat_take {α : Type} (E : El α) : ∀ (xs : List α) (n : Nat), (xs.flatMap E.tys).take (n * E.size) = (xs.take n).flatMap E.tys
  | [], n => by simp
  | x :: xs, 0 => by simp
  | x :: xs, n + 1 => by
    rw [List.flatMap_cons, List.take_succ_cons, List.flatMap_cons, ← flat_take E xs n, List.take_append, E.len, Nat.succ_mul, List.take_of_length_le (by rw [E.len]; omega)]
    congr 2; omega
theorem r_buildRowN [T : Tab P] {α : Type} {E : El α} {xs : List α} {len el : Nat} {parts : Array (Nat × Operand)} {ti te : TI} {ls : List (Nat × List Ty)} (hT : T.tab[ty']? = some ti) (hk : ti.k = .slice el) (hE : T.tab[el]? = some te) (hs : te.size = E.size) (hz : te.zero.length = te.size) (h0 : 0 < te.size) (hle : len * te.size ≤ 16777216) (hp : Parts A fr parts.toList ls)
    (hf : fillT (fun i => some (i * te.size, te.size)) ((List.range (len * te.size)).map fun j => Ty.ofVal (te.zero.getD (j % te.size) undef)) ls = some (xs.flatMap E.tys)) (hx : xs.length = len) (hpa : fr.pass.contains (d + 1) = false)
    (h : TOps P fr ops rest (A.after { d := some d, ty := .row E el (d + 1) xs, K := [d + 1], rs := parts.toList.flatMap fun x => opR x.2 }) fun A' l' => K A' ((A, { d := some d, ty := .row E el (d + 1) xs, K := [d + 1], rs := parts.toList.flatMap fun x => opR x.2 }) :: l')) : TOps P fr ops (⟨some d, .buildSlice ty' len parts, t, p, e, none⟩ :: rest) A K := by
  refine ⟨_, opT_mem (f := { d := some d, ty := .row E el (d + 1) xs, K := [d + 1], rs := parts.toList.flatMap fun x => opR x.2 }) rfl rfl (by simp) (by simp) (by simp at hpa ⊢; exact hpa) fun a w M wf hr _ => ?_, h⟩
  obtain ⟨z, hz1, hz2⟩ := run_zero hE (by intro hn; rw [hn] at hz; simp at hz; omega) w
  obtain ⟨_, D, _, hD, hkd, _⟩ := tab_info hT
  rw [hk] at hkd
  cases D <;> simp only [TK.of, reduceCtorEq, TK.slice.injEq] at hkd
  rename_i el0
  have hel : el0 = el := hkd
  subst hel
  have hzs : z.cells.size = te.size := by rw [← hz, ← hz2]; simp
  let zs : Array Value := if len * te.size = 0 then #[] else z.cells
  have hcells : dens w M ((List.range (len * te.size)).map fun j => Ty.ofVal (te.zero.getD (j % te.size) undef)) ((Array.range (len * te.size)).map (zs[· % zs.size]!)).toList := by
    refine dens_of_get (by simp) fun i u hi => ?_
    rw [List.getElem?_map] at hi
    simp only [Option.map_eq_some_iff] at hi
    obtain ⟨j, hj, rfl⟩ := hi
    have hlt : i < len * te.size := by have := (List.getElem?_eq_some_iff.1 hj).1; simpa using this
    rw [List.getElem?_range hlt] at hj
    injection hj with hj
    subst hj
    have hne : ¬ len * te.size = 0 := by omega
    refine ⟨te.zero.getD (i % te.size) undef, ?_, ofVal_den _ _ _⟩
    have hm : i % te.size < z.cells.size := by rw [hzs]; exact Nat.mod_lt _ h0
    have e1 : zs[i % zs.size]! = te.zero.getD (i % te.size) undef := by
      simp only [zs, if_neg hne, hzs]
      rw [getElem!_pos z.cells _ hm, ← hz2, List.getD_eq_getElem?_getD, List.getElem?_eq_getElem (by simpa using hm)]
      simp
    simp [List.getElem?_range hlt, e1]
  obtain ⟨cs', h1, h2⟩ := fill_dens hr hp (place := fun i => some (i * te.size, te.size)) (cs := (Array.range (len * te.size)).map (zs[· % zs.size]!)) (fun x hx c hc => List.mem_flatMap.2 ⟨x, hx, hc⟩) hcells hf
  have hparts : (parts.map fun x => (x.1, a.eval x.2)).toList = parts.toList.map fun x => (x.1, a.eval x.2) := by simp
  obtain ⟨h3, h4, h5⟩ := le_alloc wf (.cells cs' el0) (d + 1)
  have hcl : cs'.toList.length = len * te.size := by rw [dens_len h2, flat_len, hx, hs]
  have hmx : len ≤ maxLen := by
    have : len ≤ len * te.size := Nat.le_mul_of_pos_right _ h0
    simp only [maxLen]; omega
  refine ⟨.slice (some ⟨w.heap.size, 0, none⟩) len len, w.alloc (.cells cs' el0), ?_, _, h3, h4, ⟨cs'.toList, ⟨by rw [hcl, hx, hs], .inr ⟨w.heap.size, len, cs', by rw [hx], Nat.zero_le _, alloc_new _ _, by rw [hx]; exact Nat.le_refl _, hmx, by rw [← hs]; simpa using hcl, by rw [List.take_of_length_le (by rw [hcl, hx, hs]; exact Nat.le_refl _)]⟩⟩, ?_, fun g hg => ?_⟩, by simp⟩
  · have hbig : ¬ (len * te.size > 2 ^ 24) := by omega
    have hbig' : ¬ (2 ^ 24 < len * te.size) := by omega
    simp only [execOp, Instr.buildSlice, Sem.run_bind, run_underlying hD, Result.andThen_ok, run_sizeOf' hE]
    simp only [hbig', gt_iff_lt, if_false]
    by_cases hn : len * te.size = 0
    · have : zs = #[] := if_pos hn
      rw [this] at h1
      simp only [hn, if_true, Sem.run_pure, Sem.run_bind, Result.andThen_ok]
      rw [hn] at h1
      simp only [hparts, h1]
      simp [newRow, newObj, Sem.run]
    · have : zs = z.cells := if_neg hn
      rw [this] at h1
      simp only [if_neg hn, Sem.run_pure, Sem.run_bind, Result.andThen_ok, hz1]
      simp only [hparts, h1]
      simp [newRow, newObj, Sem.run]
  · refine dens_mono h4 (fun u hu => ?_) (fun u hu => ?_) h2
    · rw [E.flat_deps] at hu; cases hu
    · rw [E.flat_cdeps] at hu; cases hu
  · simp [Value.ownBlock] at hg
    subst hg; exact h5
end
end Go.T

namespace Go.T
open Go Go.RowKit
section
variable {A : As} {α : Type} {E : El α} {tg Tb : Nat} {xs : List α}
end
def Cont.av {α : Type} (E : El α) (T : Nat) (xs : List α) : Cont :=
  { den := dCells T (xs.flatMap E.tys), mono := fun le _ _ hs hk ⟨b, cs, h1, h2, h3⟩ => let ⟨h4, h5⟩ := le.own b _ h1 hk
    ⟨b, cs, h4, (h5 hs).trans h2, dens_mono le (by rw [E.flat_deps]; intro _ h; cases h) (by rw [E.flat_cdeps]; intro _ h; cases h) h3⟩ }
section
variable {P : Program} {fr : Fr} {ops : Array Oper} {A : As} {rest : List Oper} {K : As → List (As × Fx) → Prop} {d : Nat} {t ty' ty2 : TypeId} {p : String} {e : Array Edge} [T : Tab P]
variable {α : Type} {E : El α} {xs : List α} {x y : Operand} {tg Tb : Nat} {ti : TI}
end
end Go.T

namespace Go.T
open Go Go.RowKit
section
variable {P : Program} {fr : Fr} {ops : Array Oper} {A : As} {rest : List Oper} {K : As → List (As × Fx) → Prop} {d : Nat} {t ty' ty2 : TypeId} {p : String} {e : Array Edge} [T : Tab P]
variable {x y : Operand} {ti ts : TI}
theorem r_conv {src : TypeId} {k k0 : IntKind} {n : Int} (hx : A.op fr x = .int k0 n) (hS : T.tab[src]? = some ts) (hT : T.tab[ty']? = some ti) (hk : ti.k = .int k)
    (h : TOps P fr ops rest (A.set d (.int k (k.wrap n))) fun A' l' => K A' ((A, { d := some d, ty := .int k (k.wrap n), rs := opR x }) :: l')) : TOps P fr ops (⟨some d, .convert src ty' x, t, p, e, none⟩ :: rest) A K :=
  tops_pure (opT_pure (rt := []) rfl rfl fun a w M _ hr _ => by
    have := op_den (x := x) (fun _ h => h) hr
    rw [hx] at this
    have ex : a.eval x = .int k0 n := this
    obtain ⟨_, S, _, hS', _, _⟩ := tab_info hS
    obtain ⟨_, D, _, hD, hkd, _⟩ := tab_info hT
    rw [hk] at hkd
    cases D <;> simp only [TK.of, reduceCtorEq, TK.int.injEq] at hkd
    subst hkd
    refine ⟨.int _ (IntKind.wrap _ n), ?_, rfl⟩
    simp only [execOp, ex, convert, Sem.run_bind, run_underlying hS', run_underlying hD, Result.andThen_ok]
    cases S <;> rfl) h
end
end Go.T

namespace Go.T
open Go
section
variable {P : Program} {fr : Fr} {A : As} {c : Code} {Q : Exit → Act → World → Prop}
def PubTy (A : As) (tg : Nat) (t0 t : Ty) : Prop := ∀ w M v, Wf w M → (∀ x ∈ A.tags, x.2.den w M x.1) → t0.den w M v → t.den w (pubTag M tg) v
def AllTy (A : As) (tg : Nat) : List Ty → List Ty → Prop
  | [], [] => True
  | a :: l, b :: l' => PubTy A tg a b ∧ AllTy A tg l l'
  | _, _ => False
def PubC (A : As) (tg : Nat) (x : Nat × Cont) : Prop := ∀ w M, Wf w M → (∀ x ∈ A.tags, x.2.den w M x.1) → x.2.den w (pubTag M tg) x.1
def AllC (A : As) (tg : Nat) : List (Nat × Cont) → Prop
  | [] => True
  | x :: l => PubC A tg x ∧ AllC A tg l
theorem pubTy_same {tg : Nat} {t : Ty} (h : disj t.deps [tg] = true) : PubTy A tg t t := fun w M _ _ _ hd =>
  t.mono (pubTag_le (w := w)) (disj_spec h) (fun _ _ h => by cases h) hd
theorem pubTy_row {α : Type} {E : El α} {T tg : Nat} {xs : List α} : PubTy A tg (.row E T tg xs) (.sl E xs) := fun w M v wf _ hd =>
  row_sl wf hd (fun b hb => by simp [pubTag, hb]) (fun b hb => by simp [pubTag, hb])
theorem pubTy_vs {α : Type} {E : El α} {T tg n : Nat} {xs : List α} (hc : A.tag tg = some (.vec E T xs)) (hn : xs.length = n) (h1 : Tag1 tg) : PubTy A tg (.vs tg n) (.sl E xs) := fun w M v wf ht hd => by
  have hv : dVec E T xs w M tg := ht _ (tag_mem hc)
  subst hn
  rcases hd with ⟨h0, rfl⟩ | ⟨b, cc, hb, e, hn1, hn2⟩
  · exact ⟨none, 0, by rw [h0], by omega, by simp [maxLen], fun h => absurd h (by omega)⟩
  refine ⟨_, cc, e, hn1, hn2, fun _ => ⟨b, 0, rfl, by simp [pubTag, hb], wf.lt b _ hb, fun i t hi => ?_⟩⟩
  obtain ⟨u, hu, hdu⟩ := vec_cell wf h1 hb hv hi
  refine ⟨u, by rw [Nat.zero_add]; exact hu, t.mono (pubTag_le (w := w)) ?_ ?_ hdu⟩
  · intro u hu
    have : u ∈ depsOf (xs.flatMap E.tys) := List.mem_flatMap.2 ⟨t, List.mem_of_getElem? hi, hu⟩
    rw [E.flat_deps] at this; cases this
  · intro u _ h; cases h
theorem allTy_dens {tg : Nat} {w : World} {M : Tags} (wf : Wf w M) (ht : ∀ x ∈ A.tags, x.2.den w M x.1) : ∀ {l l' : List Ty} {vs : List Value}, AllTy A tg l l' → dens w M l vs → dens w (pubTag M tg) l' vs
  | [], [], [], _, _ => trivial
  | _ :: _, _ :: _, _ :: _, ⟨h1, h2⟩, ⟨h3, h4⟩ => ⟨h1 _ _ _ wf ht h3, allTy_dens wf ht h2 h4⟩
theorem pubC_cells {tg o T : Nat} {l l' : List Ty} (ho : A.tag o = some (.cells T l)) (hne : Nat.beq o tg = false) (h : AllTy A tg l l') : PubC A tg (o, .cells T l') := fun w M wf ht => by
  obtain ⟨b, cs, hb, hh, hd⟩ := ht _ (tag_mem ho)
  refine ⟨b, cs, ?_, hh, allTy_dens wf ht h hd⟩
  unfold pubTag
  rw [if_neg]
  · exact hb
  · rw [hb]; intro e; injection e with e; subst e; simp at hne
theorem allC_mem {tg : Nat} {w : World} {M : Tags} (wf : Wf w M) (ht : ∀ x ∈ A.tags, x.2.den w M x.1) : ∀ {lt : List (Nat × Cont)}, AllC A tg lt → ∀ {x : Nat × Cont}, x ∈ lt → x.2.den w (pubTag M tg) x.1
  | y :: _, ⟨h1, h2⟩, x, hx => by
    rcases List.mem_cons.1 hx with rfl | hx
    · exact h1 w M wf ht
    · exact allC_mem wf ht h2 hx
theorem t_pubC {tg : Nat} (l : List (Nat × Ty)) (lt : List (Nat × Cont)) (h1 : 1 ≤ tg) (hp : fr.pass.contains tg = false) (hl : AllPub A tg l) (hlt : AllC A tg lt) (h : Tri P fr c ⟨(A.pub tg l).slots, lt ++ (A.pub tg l).tags⟩ Q) : Tri P fr c A Q := fun a w ⟨M, ok, hsl, ht⟩ => by
  have le : Le (· ∈ ([] : List Nat)) (· ∈ [tg]) w M w (pubTag M tg) := pubTag_le
  refine h a w ⟨pubTag M tg, ⟨pubTag_wf ok.wf, Fr.base_step ok.base (by intro _ h; cases h) (fun t ht => by simp only [List.mem_singleton] at ht; subst ht; exact ⟨h1, by simpa using hp⟩) le, ok.size, ok.defers.step (by intro _ h; cases h) (fun t ht => by simp only [List.mem_singleton] at ht; subst ht; exact h1) le⟩, fun i hi => ?_, fun x hx => ?_⟩
  · have base : (killSlots [] [tg] A.slots i).den w (pubTag M tg) (a.tmps.getD i undef) := by
      rcases killSlots_spec [] [tg] A.slots i with ⟨e, hdj⟩ | ⟨_, e⟩
      · rw [e]; exact (A.slots i).mono le (safe_spec hdj).1 (safe_spec hdj).2 (hsl i hi)
      · rw [e]; trivial
    show (setL l (killSlots [] [tg] A.slots) i).den _ _ _
    clear h
    induction l with
    | nil => exact base
    | cons x l ih =>
      obtain ⟨d, t⟩ := x
      unfold setL
      cases hb : Nat.beq i d with
      | false => simp only [cond_false]; exact ih hl.2
      | true =>
        have : i = d := Nat.eq_of_beq_eq_true hb
        subst this
        simp only [cond_true]
        exact hl.1 w M _ ok.wf ht (hsl i hi)
  · rcases List.mem_append.1 (show x ∈ lt ++ (A.pub tg l).tags from hx) with hx | hx
    · exact allC_mem ok.wf ht hlt hx
    · exact killTags_den le hx fun y hy _ => ht y hy
end
section
open Go.RowKit
variable {P : Program} {A : As} {fn : Func} {n : Nat} {w0 : World} {M0 : Tags} {F : List Nat} {post : List (Nat × Cont)} [T : Tab P]
theorem g_rcell (L : List Nat) {tm ty tg Tb : Nat} {l : List Ty} {ti : TI} {res : Ty} (hr : fn.results = #[.cell tm ty]) (ht : Nat.blt tm n = true) (hx : A.slots tm = .ptr tg 0) (hc : A.tag tg = some (.cells Tb l)) (h1 : Tag1 tg) (hT : T.tab[ty]? = some ti) (ha : ti.k.agg = true) (hl : l.length = ti.size)
    (hL : ∀ t ∈ F, t ∈ L) (hp : RetCs A L post) (hs : RetG L (.agg l) res) :
    Into ⟨n, w0, M0, F, .plain⟩ A (bodyPost P fn (keepPost F post w0 M0 res) .ret) := by
  intro a w ⟨M, ok, hsl, htg⟩
  have hd := hsl tm (by simpa using ht)
  rw [hx] at hd
  obtain ⟨b, hb, e⟩ := hd
  obtain ⟨b', cs, hb', hh, hds⟩ := htg _ (tag_mem hc)
  obtain ⟨u, rfl⟩ : ∃ u, tg = u + 1 := ⟨tg - 1, by omega⟩
  have := ok.wf.inj b b' u (by omega) hb hb'
  subst this
  have hlen := dens_len hds
  have hload := run_loadN (P := P) hT ha (w := w) (b := b) (off := 0) (cs := cs.toList) (by rw [hlen, hl]) (fun j v hj => by simpa [World.cell?, hh] using hj)
  have hload' : (loadVar ty ⟨b, 0, none⟩).run P w = .ok (.agg cs) w := by simpa [Instr.loadAt, Instr.sureAddr] using hload
  refine ⟨ok.nodefers (by simp), .agg cs, ?_, _, pubG L M, rfl, pubG_wf ok.wf, base_pubG hL ok.base, hs _ _ _ ok.wf ⟨cs, rfl, hds⟩, rc_get ok.wf htg hp⟩
  have e' : a.tmps.getD tm undef = .pointer (some ⟨b, 0, none⟩) := e
  have e'' : a.tmps[tm]?.getD undef = .pointer (some ⟨b, 0, none⟩) := by rw [← Array.getD_eq_getD_getElem?]; exact e'
  simp [results, hr, e'', asAddr, hload']
end
end Go.T

namespace Go.T
open Go Go.RowKit
theorem setRow_set {w : World} {g : Nat} {old : Array Value} {t : TypeId} (cs : Array Value) (hg : w.heap[g]? = some (.cells old t (0, 0))) : w.setRow g cs = { w with heap := w.heap.setIfInBounds g (.cells cs t (0, 0)) } := by
  unfold World.setRow
  congr 1
  obtain ⟨hlt, hv⟩ := Array.getElem?_eq_some_iff.1 hg
  apply Array.ext_getElem?
  intro i
  by_cases e : g = i
  · subst e
    rw [Array.getElem?_modify, if_pos rfl, hg, Array.getElem?_setIfInBounds_self_of_lt hlt]; rfl
  · rw [Array.getElem?_modify, if_neg e, Array.getElem?_setIfInBounds_ne e]
theorem flat_drop {α : Type} (E : El α) : ∀ (xs : List α) (n : Nat), (xs.flatMap E.tys).drop (n * E.size) = (xs.drop n).flatMap E.tys
  | [], n => by simp
  | x :: xs, 0 => by simp
  | x :: xs, n + 1 => by
    rw [List.flatMap_cons, List.drop_succ_cons, ← flat_drop E xs n, List.drop_append, E.len, Nat.succ_mul, List.drop_of_length_le (by rw [E.len]; omega), List.nil_append]
    congr 1; omega
theorem vec_put {α : Type} {E : El α} {xs ys : List α} {w : World} {M : Tags} {cur vs : List Value} {i : Nat} (hd : dens w M (xs.flatMap E.tys) (cur.take (xs.flatMap E.tys).length)) (hv : dens w M (ys.flatMap E.tys) vs) (hi : i + ys.length ≤ xs.length) :
    dens w M ((xs.take i ++ (ys ++ xs.drop (i + ys.length))).flatMap E.tys) ((cur.take (i * E.size) ++ vs ++ cur.drop (i * E.size + vs.length)).take ((xs.take i ++ (ys ++ xs.drop (i + ys.length))).flatMap E.tys).length) := by
  have hvl : vs.length = ys.length * E.size := by rw [dens_len hv, flat_len]
  have hN : (xs.flatMap E.tys).length = xs.length * E.size := flat_len E xs
  have hcl : xs.length * E.size ≤ cur.length := by
    have := dens_len hd
    rw [List.length_take, hN] at this; omega
  have hm : (i + ys.length) * E.size ≤ xs.length * E.size := Nat.mul_le_mul_right _ hi
  have hm2 : (i + ys.length) * E.size = i * E.size + ys.length * E.size := Nat.add_mul _ _ _
  have hxl : (xs.take i ++ (ys ++ xs.drop (i + ys.length))).length = xs.length := by simp; omega
  rw [flat_len E (xs.take i ++ (ys ++ xs.drop (i + ys.length))), hxl, List.flatMap_append, List.flatMap_append]
  have e : (cur.take (i * E.size) ++ vs ++ cur.drop (i * E.size + vs.length)).take (xs.length * E.size) = cur.take (i * E.size) ++ (vs ++ (cur.take (xs.length * E.size)).drop ((i + ys.length) * E.size)) := by
    have l1 : (cur.take (i * E.size)).length = i * E.size := by rw [List.length_take]; omega
    rw [List.append_assoc, List.take_append, List.take_append, l1]
    have e1 : (cur.take (i * E.size)).take (xs.length * E.size) = cur.take (i * E.size) := List.take_of_length_le (by omega)
    have e2 : vs.take (xs.length * E.size - i * E.size) = vs := List.take_of_length_le (by omega)
    rw [e1, e2, hvl, hm2, List.drop_take]
    congr 3; omega
  rw [e]
  rw [hN] at hd
  refine dens_app ?_ (dens_app hv ?_)
  · have := dens_take (i * E.size) hd
    rw [flat_take, List.take_take, Nat.min_eq_left (by omega)] at this; exact this
  · have := dens_drop ((i + ys.length) * E.size) hd
    rw [flat_drop] at this; exact this
section
variable {P : Program} {fr : Fr} {ops : Array Oper} {A : As} {rest : List Oper} {K : As → List (As × Fx) → Prop} {d : Nat} {t ty' : TypeId} {p : String} {e : Array Edge} [T : Tab P]
theorem set_split {α : Type} {xs : List α} {i : Nat} (h : i < xs.length) (z : α) : xs.take i ++ ([z] ++ xs.drop (i + [z].length)) = xs.set i z := by
  rw [List.set_eq_take_append_cons_drop, if_pos h]; rfl
theorem r_store_vecE {α : Type} {E : El α} {xs : List α} {x y : Operand} {tg off Tb : Nat} {ti : TI} {z : α} (i : Nat) (hx : A.op fr x = .ptr tg off) (he : off = i * E.size) (hc : A.tag tg = some (.vec E Tb xs)) (h1 : Tag1 tg) (hT : T.tab[ty']? = some ti) (hsz : ti.size = E.size) (hy : A.op fr y = .agg (E.tys z)) (hi : i < xs.length)
    (h : TOps P fr ops rest (A.after { d := none, S := [tg], sets := [(tg, .vec E Tb (xs.set i z))], rs := opR x ++ opR y, rt := [tg] }) fun A' l'' => K A' ((A, { d := none, S := [tg], sets := [(tg, .vec E Tb (xs.set i z))], rs := opR x ++ opR y, rt := [tg] }) :: l'')) :
    TOps P fr ops (⟨none, .store ty' x y, t, p, e, none⟩ :: rest) A K := by
  refine ⟨_, opT_unit rfl rfl rfl (by simp) (by simpa using h1.1) (by simp) fun a w M wf hr ht => ?_, h⟩
  obtain ⟨hdx, hdy⟩ := op2 hr
  rw [hx] at hdx; rw [hy] at hdy
  obtain ⟨b, hb, ex⟩ := hdx
  obtain ⟨vs, ey, hvs⟩ := hdy
  rcases vec_den hc w M ht with rfl | ⟨b', cs, hb', hh, hd⟩
  · exact absurd hi (Nat.not_lt_zero _)
  obtain ⟨u, rfl⟩ : ∃ u, tg = u + 1 := ⟨tg - 1, by omega⟩
  have := wf.inj b b' u (by omega) hb hb'
  subst this
  have hlen := dens_len hd
  have hvl : vs.size = E.size := by have := dens_len hvs; rw [E.len] at this; simpa using this
  have hoff : i * E.size + E.size ≤ cs.size := by
    rw [flat_len, List.length_take] at hlen
    have : (i + 1) * E.size ≤ xs.length * E.size := Nat.mul_le_mul_right _ hi
    rw [Nat.succ_mul] at this
    simp at hlen; omega
  have hones : ∀ v ∈ vs.toList, v.oneCell' = true := dens_ones hvs (fun t ht => by
    have := flat_ones E [z] t (by simpa using ht)
    exact this)
  have hst := run_storeCells_at (P := P) b off Tb vs.toList 0 cs w hh (by simp [he, hvl]; omega) hones
  rw [setRow_set _ hh] at hst
  obtain ⟨h1', h2', h3'⟩ := store_le (cs' := (cs.toList.take (off + 0) ++ vs.toList ++ cs.toList.drop (off + 0 + vs.toList.length)).toArray) (Tb := Tb) wf hb _ rfl
  refine ⟨_, ?_, M, h1', h2', trivial, ?_⟩
  · simp only [execOp, Instr.storeAt, Instr.sureAddr, ex, ey, storeVar, Value.cells, run_sizeOf' hT, Sem.run_bind, Sem.run_pure, Result.andThen_ok, hsz, hvl, hst]
    simp [hst]
  · intro z' hz'
    simp only [List.mem_singleton] at hz'
    subst hz'
    refine .inr ⟨b, _, hb, h3', ?_⟩
    have hp := vec_put (ys := [z]) (vs := vs.toList) (i := i) hd (by simpa using hvs) (by show i + 1 ≤ _; omega)
    rw [set_split hi, ← he] at hp
    exact dens_mono h2' (by intro _ _ h; cases h) (by rw [E.flat_cdeps]; intro _ h; cases h) (by simpa using hp)
end
section
variable {P : Program} {A : As} {fn : Func} {n : Nat} {w0 : World} {M0 : Tags} [T : Tab P]
theorem i_rcell2 {tm ty tg Tb t2 : Nat} {l : List Ty} {ti : TI} {r1 r2 : Ty} (hr : fn.results = #[.cell tm ty, .tmp t2]) (ht : Nat.blt tm n = true) (h2 : Nat.blt t2 n = true) (hx : A.slots tm = .ptr tg 0) (hc : A.tag tg = some (.cells Tb l)) (h1 : Tag1 tg) (hT : T.tab[ty]? = some ti) (ha : ti.k.agg = true) (hl : l.length = ti.size) (hs : RetSub (.agg l) r1) (hs2 : RetSub (A.slots t2) r2) :
    Into ⟨n, w0, M0, [], .plain⟩ A (bodyPost P fn (retPost w0 M0 (Ty.tup [r1, r2])) .ret) := by
  intro a w ⟨M, ok, hsl, htg⟩
  have hd := hsl tm (by simpa using ht)
  rw [hx] at hd
  obtain ⟨b, hb, e⟩ := hd
  obtain ⟨b', cs, hb', hh, hds⟩ := htg _ (tag_mem hc)
  obtain ⟨u, rfl⟩ : ∃ u, tg = u + 1 := ⟨tg - 1, by omega⟩
  have := ok.wf.inj b b' u (by omega) hb hb'
  subst this
  have hlen := dens_len hds
  have hload := run_loadN (P := P) hT ha (w := w) (b := b) (off := 0) (cs := cs.toList) (by rw [hlen, hl]) (fun j v hj => by simpa [World.cell?, hh] using hj)
  have hload' : (loadVar ty ⟨b, 0, none⟩).run P w = .ok (.agg cs) w := by simpa [Instr.loadAt, Instr.sureAddr] using hload
  refine ⟨ok.nodefers (by simp), .tuple #[.agg cs, a.tmps.getD t2 undef], ?_, _, pubM M, rfl, pubM_wf ok.wf, base_pub (fr := ⟨n, w0, M0, [], .plain⟩) (fun _ h => h) ok.base, _, rfl, hs _ _ _ ok.wf ⟨cs, rfl, hds⟩, hs2 _ _ _ ok.wf (hsl t2 (by simpa using h2)), trivial⟩
  have e' : a.tmps.getD tm undef = .pointer (some ⟨b, 0, none⟩) := e
  have e'' : a.tmps[tm]?.getD undef = .pointer (some ⟨b, 0, none⟩) := by rw [← Array.getD_eq_getD_getElem?]; exact e'
  simp [results, hr, e'', asAddr, hload']
end
section
variable {P : Program} {fr : Fr} {ops : Array Oper} {A : As} {rest : List Oper} {K : As → List (As × Fx) → Prop} {d : Nat} {t ty' : TypeId} {p : String} {e : Array Edge} [T : Tab P]
end
end Go.T

namespace Go.T
open Go Go.RowKit
def dNsl {α : Type} (E : El α) (xs : List α) (w : World) (M : Tags) (v : Value) : Prop := dSl E xs w M v ∧ (xs = [] → v = .slice none 0 0)
def Ty.nsl {α : Type} (E : El α) (xs : List α) : Ty :=
  { den := dNsl E xs, deps := [], cdeps := [], mono := fun le hk hs h => ⟨(Ty.sl E xs).mono le hk hs h.1, h.2⟩, one := true, isOne := fun _ ⟨⟨_, _, e, _⟩, _⟩ => e ▸ rfl }
theorem Ty.nsl_sl {α : Type} {E : El α} {xs : List α} : (Ty.nsl E xs).Sub (Ty.sl E xs) := fun _ _ _ h => h.1
theorem rg_nsl_nil {L : List Nat} {α : Type} {E : El α} {xs : List α} (e : xs = []) : RetG L (Ty.ex (.slice none 0 0)) (Ty.nsl E xs) := fun w M v wf h => by
  subst e
  exact ⟨rg_cv (L := L) (cv_nilsl (E := E)) w M v wf h, fun _ => h⟩
theorem rg_nsl_row {L : List Nat} {α : Type} {E : El α} {T tg : Nat} {xs ys : List α} (h : 1 ≤ tg) (hL : L.contains tg = false) (e : xs = ys) (hne : ys ≠ []) : RetG L (Ty.row E T tg xs) (Ty.nsl E ys) := fun w M v wf hd => ⟨rg_row h hL e w M v wf hd, fun hx => absurd hx hne⟩
section
variable {P : Program} {fr : Fr} {ops : Array Oper} {A : As} {rest : List Oper} {K : As → List (As × Fx) → Prop} {d : Nat} {t ty' ty2 : TypeId} {p : String} {e : Array Edge} {x : Operand}
theorem mvN {α : Type} {E : El α} {xs : List α} (hx : A.op fr x = .nsl E xs) (h : TOps P fr ops rest (A.set d (.nsl E xs)) fun A' l => K A' ((A, { d := some d, ty := .nsl E xs, rs := opR x }) :: l)) : TOps P fr ops (⟨some d, .move x, t, p, e, none⟩ :: rest) A K := r_move hx h
theorem asN {α : Type} {E : El α} {xs : List α} (hx : A.op fr x = .nsl E xs) (h : TOps P fr ops rest (A.set d (.nsl E xs)) fun A' l => K A' ((A, { d := some d, ty := .nsl E xs, rs := opR x }) :: l)) : TOps P fr ops (⟨some d, .assign x, t, p, e, none⟩ :: rest) A K := r_assign hx h
theorem nsl_nil {α : Type} {E : El α} {xs : List α} {w : World} {M : Tags} {v : Value} (h : dNsl E xs w M v) : ∃ ad n c, v = .slice ad n c ∧ ad.isNone = xs.isEmpty := by
  obtain ⟨⟨ad, c, ex, _, _, hp⟩, hn⟩ := h
  refine ⟨ad, _, c, ex, ?_⟩
  cases xs with
  | nil => have := hn rfl; rw [ex] at this; injection this with h1; rw [h1]; rfl
  | cons y l =>
    obtain ⟨b, off, e, _⟩ := hp (by simp)
    rw [e]; rfl
theorem r_eqnilN {α : Type} {E : El α} {xs : List α} {el : TypeId} (hu : P.underlying ty' = some (.slice el)) (hx : A.op fr x = .nsl E xs)
    (h : TOps P fr ops rest (A.set d (.bool xs.isEmpty)) fun A' l' => K A' ((A, { d := some d, ty := .bool xs.isEmpty, rs := opR x }) :: l')) : TOps P fr ops (⟨some d, .binOp .eql ty' x (.const (.slice none 0 0)) ty2, t, p, e, none⟩ :: rest) A K :=
  tops_pure (opT_pure (rt := []) rfl rfl fun a w M _ hr _ => by
    have := op_den (x := x) (fun _ h => h) hr
    rw [hx] at this
    obtain ⟨ad, n, c, ex, hn⟩ := nsl_nil this
    have ey : a.eval (.const (.slice none 0 0)) = .slice none 0 0 := rfl
    exact ⟨.bool ad.isNone, by simp only [execOp, ex, ey]; simp [eqGuard, binOp, go_sem, run_equal_nil hu], by rw [hn]; rfl⟩) h
end
end Go.T

namespace Go.T
open Go Go.RowKit
def dRc (tg n : Nat) (c : Option Nat) (_ : World) (M : Tags) (v : Value) : Prop := match c with
  | none => n = 0 ∧ v = .slice none 0 0
  | some c => ∃ b, M b = some tg ∧ v = .slice (some ⟨b, 0, none⟩) n c ∧ n ≤ c ∧ c ≤ maxLen
def Ty.rc (tg n : Nat) (c : Option Nat) : Ty := ⟨dRc tg n c, [tg], [], fun le hk _ h => by
  cases c with
  | none => exact h
  | some c => obtain ⟨b, h1, h2⟩ := h; exact ⟨b, (le.own b tg h1 (hk tg (by simp))).1, h2⟩, true, fun _ h => by
  cases c with
  | none => obtain ⟨_, rfl⟩ := h; rfl
  | some c => obtain ⟨_, _, rfl, _⟩ := h; rfl⟩
def dRcv {α : Type} (E : El α) (T : Nat) (xs : List α) (c : Option Nat) (w : World) (M : Tags) (t : Nat) : Prop := match c with
  | none => xs = []
  | some c => ∃ b cs, M b = some t ∧ w.heap[b]? = some (.cells cs T (0, 0)) ∧ cs.size = c * E.size ∧ dens w M (xs.flatMap E.tys) (cs.toList.take (xs.flatMap E.tys).length)
def Cont.rcv {α : Type} (E : El α) (T : Nat) (xs : List α) (c : Option Nat) : Cont :=
  { den := dRcv E T xs c, mono := fun le _ _ hs hk h => by
      cases c with
      | none => exact h
      | some c =>
        obtain ⟨b, cs, h1, h2, h3, h4⟩ := h
        obtain ⟨h5, h6⟩ := le.own b _ h1 hk
        exact ⟨b, cs, h5, (h6 hs).trans h2, h3, dens_mono le (by rw [E.flat_deps]; intro _ h; cases h) (by rw [E.flat_cdeps]; intro _ h; cases h) h4⟩ }
section
variable {P : Program} {fr : Fr} {A : As} {Q : Exit → Act → World → Prop} {code : Code}
end
section
variable {P : Program} {fr : Fr} {ops : Array Oper} {A : As} {rest : List Oper} {K : As → List (As × Fx) → Prop} {d : Nat} {t ty' ty2 : TypeId} {p : String} {e : Array Edge}
end
section
variable {P : Program} {fr : Fr} {ops : Array Oper} {A : As} {rest : List Oper} {K : As → List (As × Fx) → Prop} {d : Nat} {t ty' ty2 : TypeId} {p : String} {e : Array Edge} [T : Tab P]
end
end Go.T

namespace Go.T
open Go Go.RowKit
section
variable {P : Program} {fr : Fr} {ops : Array Oper} {A : As} {rest : List Oper} {K : As → List (As × Fx) → Prop} {d : Nat} {t : TypeId} {p : String} {e : Array Edge} {y : Operand}
theorem r_pick1 {c : Operand} {b : Bool} (hc : A.op fr c = .bool true) (hy : A.op fr y = .bool b)
    (h : TOps P fr ops rest (A.set d (.bool b)) fun A' l' => K A' ((A, { d := some d, ty := .bool b, rs := opR c ++ opR y }) :: l')) : TOps P fr ops (⟨some d, .pick c y (.const (.bool false)), t, p, e, none⟩ :: rest) A K :=
  tops_pure (opT_pure rfl rfl fun a w M _ hrd _ => by
    obtain ⟨hdc, hdy⟩ := op2 hrd
    rw [hc] at hdc; rw [hy] at hdy
    have ec : a.eval c = .bool true := hdc
    have ey : a.eval y = .bool b := hdy
    exact ⟨.bool b, by simp only [execOp, ec, ey]; simp [asBool], rfl⟩) h
theorem r_pick0 {c : Operand} (hc : A.op fr c = .bool false)
    (h : TOps P fr ops rest (A.set d (.bool false)) fun A' l' => K A' ((A, { d := some d, ty := .bool false, rs := opR c ++ opR y }) :: l')) : TOps P fr ops (⟨some d, .pick c y (.const (.bool false)), t, p, e, none⟩ :: rest) A K :=
  tops_pure (opT_pure rfl rfl fun a w M _ hrd _ => by
    obtain ⟨hdc, _⟩ := op2 hrd
    rw [hc] at hdc
    have ec : a.eval c = .bool false := hdc
    exact ⟨.bool false, by simp only [execOp, ec]; simp [asBool, Act.eval], rfl⟩) h
end
end Go.T

namespace Go.T
open Go Go.RowKit
structure ElJ (α : Type) where
  E : El α
  own : Nat → α → List Ty
  olen : ∀ J x, (own J x).length = E.size
  deps : ∀ J x, ∀ u ∈ depsOf (own J x), u = J
  cdeps : ∀ J x, ∀ u ∈ cdepsOf (own J x), u = J
  oones : ∀ J x, (own J x).all Ty.one = true
  pub : ∀ J x w M M' vs, Wf w M → (∀ b, M b = some J → M' b = none) → (∀ b, M b = none → M' b = none) → dens w M (own J x) vs → dens w M' (E.tys x) vs
  ren : ∀ J J' x w M M' vs, (∀ b, M b = some J → M' b = some J') → (∀ b, M b = none → M' b = none) → dens w M (own J x) vs → dens w M' (own J' x) vs
  mine : ∀ J x w M vs, dens w M (own J x) vs → ∀ g ∈ vs.filterMap Value.ownBlock, M g = some J
section
variable {α : Type} (E : ElJ α)
theorem ElJ.flat_deps (J : Nat) (xs : List α) : ∀ u ∈ depsOf (xs.flatMap (E.own J)), u = J := by
  intro u hu
  simp only [depsOf, List.mem_flatMap] at hu
  obtain ⟨t, ⟨x, _, hx⟩, hu⟩ := hu
  exact E.deps J x u (List.mem_flatMap.2 ⟨t, hx, hu⟩)
theorem ElJ.flat_cdeps (J : Nat) (xs : List α) : ∀ u ∈ cdepsOf (xs.flatMap (E.own J)), u = J := by
  intro u hu
  simp only [cdepsOf, List.mem_flatMap] at hu
  obtain ⟨t, ⟨x, _, hx⟩, hu⟩ := hu
  exact E.cdeps J x u (List.mem_flatMap.2 ⟨t, hx, hu⟩)
theorem ElJ.flat_len (J : Nat) : ∀ xs : List α, (xs.flatMap (E.own J)).length = xs.length * E.E.size
  | [] => by simp
  | x :: xs => by rw [List.flatMap_cons, List.length_append, E.olen, ElJ.flat_len J xs, List.length_cons, Nat.succ_mul, Nat.add_comm]
end
def dRowJ {α : Type} (E : ElJ α) (T tg J : Nat) (xs : List α) (w : World) (M : Tags) (v : Value) : Prop :=
  ∃ cs, w.ownsRow 0 T E.E.size v xs.length cs ∧ dens w M (xs.flatMap (E.own J)) cs ∧ (cs.filterMap Value.ownBlock).Nodup ∧ ∀ g, v.ownBlock = some g → M g = some tg
def Ty.rowJ {α : Type} (E : ElJ α) (T tg J : Nat) (xs : List α) : Ty :=
  ⟨dRowJ E T tg J xs, [tg, J], [tg, J], fun le hk hs ⟨cs, h1, h2, h4, h3⟩ =>
    ⟨cs, ownsRow_keep h1 fun g hg => (le.own g tg (h3 g hg) (hk tg (by simp))).2 (hs tg (by simp)),
     dens_mono le (fun u hu => by rw [E.flat_deps J xs u hu]; exact hk J (by simp)) (fun u hu => by rw [E.flat_cdeps J xs u hu]; exact hs J (by simp)) h2, h4,
     fun g hg => (le.own g tg (h3 g hg) (hk tg (by simp))).1⟩, true, fun _ ⟨cs, h1, _⟩ => by
      rcases h1.2 with ⟨rfl, _⟩ | ⟨_, _, _, rfl, _⟩ <;> rfl⟩
def dMs (l : List Ty) (w : World) (M : Tags) (v : Value) : Prop := ∃ b, v = .slice (some ⟨b, 0, none⟩) 1 1 ∧ pubAt w M b 0 l
def Ty.ms (l : List Ty) : Ty := ⟨dMs l, depsOf l, cdepsOf l, fun le hk hs ⟨b, e, h⟩ => ⟨b, e, pubAt_mono le hk hs h⟩, true, fun _ ⟨_, e, _⟩ => e ▸ rfl⟩
section
variable {P : Program} {fr : Fr} {ops : Array Oper} {A : As} {rest : List Oper} {K : As → List (As × Fx) → Prop} {d : Nat} {t ty' : TypeId} {p : String} {e : Array Edge} [T : Tab P]
def giveJ (M : Tags) (tg J : Nat) : Tags := fun b => if M b = some tg then some J else M b
theorem giveJ_le {w : World} {M : Tags} {tg J : Nat} : Le (· ∈ ([] : List Nat)) (· ∈ [tg]) w M w (giveJ M tg J) :=
  ⟨Nat.le_refl _, rfl, rfl, rfl, fun b _ hm => ⟨by simp [giveJ, hm], rfl⟩, fun b t hm hk => ⟨by simp only [List.mem_singleton] at hk; simp [giveJ, hm, hk], fun _ => rfl⟩⟩
theorem giveJ_wf {w : World} {M : Tags} {tg J : Nat} (hJ : 4096 ≤ J) (wf : Wf w M) : Wf w (giveJ M tg J) := by
  have key : ∀ b t, giveJ M tg J b = some t → (M b = some tg ∧ t = J) ∨ M b = some t := fun b t h => by
    unfold giveJ at h
    split at h
    · rename_i hm; injection h with h; exact .inl ⟨hm, h.symm⟩
    · exact .inr h
  refine ⟨fun b t h => (key b t h).elim (fun h => wf.lt b _ h.1) (fun h => wf.lt b _ h), fun b b' t ht1 h h' => ?_⟩
  rcases key _ _ h with ⟨_, e⟩ | a
  · omega
  rcases key _ _ h' with ⟨_, e⟩ | a'
  · omega
  exact wf.inj b b' t ht1 a a'
def Gives (tg J : Nat) (l l' : List Ty) : Prop := ∀ w M vs, dens w M l vs → dens w (giveJ M tg J) l' vs ∧ (vs.filterMap Value.ownBlock).Nodup ∧ ∀ g ∈ vs.filterMap Value.ownBlock, M g = some tg
end
end Go.T

namespace Go.Proofs.YtelbollidfdcjaaGreat
open Go Go.T
set_option maxHeartbeats 2000000
attribute [local irreducible] dInt dBool dSl dPp dPtr dAgg dTup dClo dAny dEx dStr dGd dCells dVec dVs dRow dOp nth Tri Into TOps Ctr bodyPost Exit.then Exit.inBlock Code.wp Code.wpIn dWhen dPa dPe dAo dArr dMp dPm dMap dCJ CtrG CtrI OpY keepPost iterPost bodyPostM roundQ
set_option maxRecDepth 100000 in
theorem c_IndexFunc_int (l : List Int) (t : Ty) (h1 : t.one = true) (q : Int → Bool) (hd : t.deps = []) (hc : t.cdeps = []) (hf : ∀ x ∈ l, Cal Tryz.prog t [Ty.int .i64 x] (Ty.bool (q x))) : Ctr Tryz.prog 141 [Ty.sl I64 l, t] (Ty.int .i64 (fidx q l)) := by
  refine fn_intro Tryz.func141 rfl (by decide) Tryz.ntmps141 (by exact Nat.le_of_ble_eq_true rfl) fun w0 M0 => ?_
  refine t_fact (s := 0) rfl rfl sl_len fun hl => ?_
  refine t_seq ?_
  refine t_region ?_
  refine asI rfl ?_
  refine r_nil ?_
  refine i_then ?_
  refine t_seq ?_
  refine t_seq ?_
  refine t_region ?_
  refine mvS rfl ?_
  refine r_len rfl rfl rfl ?_
  refine mvI rfl ?_
  refine r_nil ?_
  refine i_then ?_
  refine t_block ?_
  refine t_loop (fun (k : {k : Nat // ∀ x ∈ l.take k, q x = false}) => live [(0, Ty.sl I64 l), (1, t), (7, Ty.int .i64 l.length), (8, Ty.int .i64 (k.1 : Nat))] []) (fun k => l.length - k.1) (⟨0, by simp⟩) ?_ fun k => ?_
  · (refine Ent.mk' ?_ ?_ <;> (repeat' (first | exact allSub_zero | exact allTags_nil | refine allSub_succ' ?_ (Ty.sub_any _) | refine allSub_succ' ?_ (Ty.sub_refl _))))
  ·
    refine t_seq ?_
    refine t_region ?_
    refine r_bin rfl rfl rfl ?_
    refine r_nil ?_
    refine i_then ?_
    refine t_seq ?_
    refine t_cond_dec rfl (fun hc1 => ?_) (fun hc1 => ?_)
    ·
      refine t_skip ?_
      refine i_then ?_
      refine t_seq ?_
      refine t_block ?_
      refine t_seq ?_
      refine t_region ?_
      refine mvI rfl ?_
      refine asI rfl ?_
      refine r_nil ?_
      refine i_then ?_
      refine t_seq ?_
      refine t_region ?_
      refine r_move (ty := t) rfl ?_
      refine mvS rfl ?_
      refine mvI rfl ?_
      refine r_index_slN rfl rfl rfl rfl rfl rfl (by omega) ?_
      refine r_load_pp rfl rfl rfl rfl ?_
      refine r_callc rfl (hf _ (nth_mem (by omega))) rfl ?_
      refine r_nil ?_
      refine i_then ?_
      refine t_cond rfl (fun hc2 => ?_) (fun hc2 => ?_)
      ·
        refine t_seq ?_
        refine t_region ?_
        refine mvI rfl ?_
        refine asI rfl ?_
        refine r_nil ?_
        refine i_then ?_
        refine t_ret ?_
        refine i_block_ret ?_
        refine i_then_ret ?_
        refine i_then_ret ?_
        refine i_block_ret ?_
        refine i_then_ret ?_
        refine i_rp1 rfl rfl ?_
        all_goals skip
        exact ret_eq rfl rfl (congrArg (Ty.int .i64) (fidx_found (by omega) k.2 (by rw [← nth_lt]; exact hc2)).symm)
      ·
        refine t_skip ?_
        refine i_block ?_
        refine i_then ?_
        refine t_region ?_
        refine r_add rfl rfl (by omega) (by omega) ?_
        refine mvI rfl ?_
        refine r_nil ?_
        refine i_round (⟨k.1 + 1, by rw [take_nth (by omega)]; intro x hx; rcases List.mem_append.1 hx with h | h; exact k.2 x h; rw [List.mem_singleton.1 h]; exact hc2⟩) ?_ (by show l.length - (k.1 + 1) < l.length - k.1; omega)
        (refine Ent.mk' ?_ ?_ <;> (repeat' (first | exact allSub_zero | exact allTags_nil | refine allSub_succ' ?_ (Ty.sub_any _) | refine allSub_succ' ?_ (Ty.sub_refl _))))
        all_goals skip
    ·
      refine t_exit ?_
      refine i_then_exit ?_
      refine i_then_exit ?_
      refine i_block_exit rfl ?_
      refine i_then ?_
      refine t_seq ?_
      refine t_region ?_
      refine asI rfl ?_
      refine r_nil ?_
      refine i_then ?_
      refine t_ret ?_
      refine i_rp1 rfl rfl ?_
      all_goals skip
      exact ret_eq rfl rfl (congrArg (Ty.int .i64) (fidx_none (by have := k.2; rwa [List.take_of_length_le (by omega)] at this)).symm)
set_option maxRecDepth 100000 in
theorem c_IndexFunc_bin (l : List Bin) (t : Ty) (h1 : t.one = true) (q : Bin → Bool) (hd : t.deps = []) (hc : t.cdeps = []) (hf : ∀ x ∈ l, Cal Tryz.prog t [Ty.agg (BinE.tys x)] (Ty.bool (q x))) : Ctr Tryz.prog 200 [Ty.sl BinE l, t] (Ty.int .i64 (fidx q l)) := by
  refine fn_intro Tryz.func200 rfl (by decide) Tryz.ntmps200 (by exact Nat.le_of_ble_eq_true rfl) fun w0 M0 => ?_
  refine t_fact (s := 0) rfl rfl sl_len fun hl => ?_
  refine t_seq ?_
  refine t_region ?_
  refine asI rfl ?_
  refine r_nil ?_
  refine i_then ?_
  refine t_seq ?_
  refine t_seq ?_
  refine t_region ?_
  refine mvS rfl ?_
  refine r_len rfl rfl rfl ?_
  refine mvI rfl ?_
  refine r_nil ?_
  refine i_then ?_
  refine t_block ?_
  refine t_loop (fun (k : {k : Nat // ∀ x ∈ l.take k, q x = false}) => live [(0, Ty.sl BinE l), (1, t), (7, Ty.int .i64 l.length), (8, Ty.int .i64 (k.1 : Nat))] []) (fun k => l.length - k.1) (⟨0, by simp⟩) ?_ fun k => ?_
  · (refine Ent.mk' ?_ ?_ <;> (repeat' (first | exact allSub_zero | exact allTags_nil | refine allSub_succ' ?_ (Ty.sub_any _) | refine allSub_succ' ?_ (Ty.sub_refl _))))
  ·
    refine t_seq ?_
    refine t_region ?_
    refine r_bin rfl rfl rfl ?_
    refine r_nil ?_
    refine i_then ?_
    refine t_seq ?_
    refine t_cond_dec rfl (fun hc1 => ?_) (fun hc1 => ?_)
    ·
      refine t_skip ?_
      refine i_then ?_
      refine t_seq ?_
      refine t_block ?_
      refine t_seq ?_
      refine t_region ?_
      refine mvI rfl ?_
      refine asI rfl ?_
      refine r_nil ?_
      refine i_then ?_
      refine t_seq ?_
      refine t_region ?_
      refine r_move (ty := t) rfl ?_
      refine mvS rfl ?_
      refine mvI rfl ?_
      refine r_index_slN rfl rfl rfl rfl rfl rfl (by omega) ?_
      refine r_load_ppN rfl rfl rfl (by exact Nat.le_of_ble_eq_true rfl) ?_
      refine r_callc rfl (hf _ (nth_mem (by omega))) rfl ?_
      refine r_nil ?_
      refine i_then ?_
      refine t_cond rfl (fun hc2 => ?_) (fun hc2 => ?_)
      ·
        refine t_seq ?_
        refine t_region ?_
        refine mvI rfl ?_
        refine asI rfl ?_
        refine r_nil ?_
        refine i_then ?_
        refine t_ret ?_
        refine i_block_ret ?_
        refine i_then_ret ?_
        refine i_then_ret ?_
        refine i_block_ret ?_
        refine i_then_ret ?_
        refine i_rp1 rfl rfl ?_
        all_goals skip
        exact ret_eq rfl rfl (congrArg (Ty.int .i64) (fidx_found (by omega) k.2 (by rw [← nth_lt]; exact hc2)).symm)
      ·
        refine t_skip ?_
        refine i_block ?_
        refine i_then ?_
        refine t_region ?_
        refine r_add rfl rfl (by omega) (by omega) ?_
        refine mvI rfl ?_
        refine r_nil ?_
        refine i_round (⟨k.1 + 1, by rw [take_nth (by omega)]; intro x hx; rcases List.mem_append.1 hx with h | h; exact k.2 x h; rw [List.mem_singleton.1 h]; exact hc2⟩) ?_ (by show l.length - (k.1 + 1) < l.length - k.1; omega)
        (refine Ent.mk' ?_ ?_ <;> (repeat' (first | exact allSub_zero | exact allTags_nil | refine allSub_succ' ?_ (Ty.sub_any _) | refine allSub_succ' ?_ (Ty.sub_refl _))))
        all_goals skip
    ·
      refine t_exit ?_
      refine i_then_exit ?_
      refine i_then_exit ?_
      refine i_block_exit rfl ?_
      refine i_then ?_
      refine t_seq ?_
      refine t_region ?_
      refine asI rfl ?_
      refine r_nil ?_
      refine i_then ?_
      refine t_ret ?_
      refine i_rp1 rfl rfl ?_
      all_goals skip
      exact ret_eq rfl rfl (congrArg (Ty.int .i64) (fidx_none (by have := k.2; rwa [List.take_of_length_le (by omega)] at this)).symm)
set_option maxRecDepth 100000 in
theorem c_ContainsFunc_bin (l : List Bin) (t : Ty) (h1 : t.one = true) (q : Bin → Bool) (hd : t.deps = []) (hc : t.cdeps = []) (hf : ∀ x ∈ l, Cal Tryz.prog t [Ty.agg (BinE.tys x)] (Ty.bool (q x))) : Ctr Tryz.prog 189 [Ty.sl BinE l, t] (Ty.bool (l.any q)) := by
  refine fn_intro Tryz.func189 rfl (by decide) Tryz.ntmps189 (by exact Nat.le_of_ble_eq_true rfl) fun w0 M0 => ?_
  refine t_seq ?_
  refine t_region ?_
  refine asB rfl ?_
  refine r_nil ?_
  refine i_then ?_
  refine t_seq ?_
  refine t_region ?_
  refine mvS rfl ?_
  refine r_move (ty := t) rfl ?_
  refine r_call (c_IndexFunc_bin l t h1 q hd hc hf) rfl (by exact deps_cons rfl (deps_cons hd rfl)) (by exact cdeps_cons rfl (cdeps_cons hc rfl)) rfl rfl ?_
  refine r_bin rfl rfl rfl ?_
  refine asB rfl ?_
  refine r_nil ?_
  refine i_then ?_
  refine t_ret ?_
  refine i_rp1 rfl rfl ?_
  all_goals skip
  exact ret_eq rfl rfl (congrArg Ty.bool (fidx_ge q l))
set_option maxRecDepth 100000 in
theorem c_every1_bin (x : Bin) (t : Ty) (h1 : t.one = true) (b : Bool) (hd : t.deps = []) (hc : t.cdeps = []) (hf : Cal Tryz.prog t [Ty.agg (BinE.tys x)] (Ty.bool b)) : Ctr Tryz.prog 190 [Ty.agg (BinE.tys x), Ty.pp [t]] (Ty.bool (!b)) := by
  refine fn_intro Tryz.func190 rfl (by decide) Tryz.ntmps190 (by exact Nat.le_of_ble_eq_true rfl) fun w0 M0 => ?_
  refine t_seq ?_
  refine t_region ?_
  refine r_box_agg rfl ?_
  refine asB rfl ?_
  refine r_nil ?_
  refine i_then ?_
  refine t_seq ?_
  refine t_region ?_
  refine r_load_pp rfl rfl rfl rfl ?_
  refine r_load_ppN rfl rfl rfl (by exact Nat.le_of_ble_eq_true rfl) ?_
  refine r_callc rfl hf rfl ?_
  refine r_not rfl ?_
  refine asB rfl ?_
  refine r_nil ?_
  refine i_then ?_
  refine t_ret ?_
  refine i_rp1 rfl rfl ?_
  all_goals exact ret_refl rfl rfl
set_option maxRecDepth 100000 in
theorem c_every_bin (l : List Bin) (t : Ty) (h1 : t.one = true) (q : Bin → Bool) (hd : t.deps = []) (hc : t.cdeps = []) (hf : ∀ x ∈ l, Cal Tryz.prog t [Ty.agg (BinE.tys x)] (Ty.bool (q x))) : Ctr Tryz.prog 143 [Ty.sl BinE l, t] (Ty.bool (l.all q)) := by
  refine fn_intro Tryz.func143 rfl (by decide) Tryz.ntmps143 (by exact Nat.le_of_ble_eq_true rfl) fun w0 M0 => ?_
  refine t_seq ?_
  refine t_region ?_
  refine r_box_one (ty := t) rfl h1 ?_
  refine asB rfl ?_
  refine r_nil ?_
  refine i_then ?_
  refine t_seq ?_
  refine t_region ?_
  refine mvS rfl ?_
  refine r_makeFunc rfl ?_
  refine r_call (c_ContainsFunc_bin l (Ty.clo _ [Ty.pp [t]]) rfl (fun x => !q x) (by exact deps_cons (deps_cons hd rfl) rfl) (by exact cdeps_cons (cdeps_cons hc rfl) rfl) fun x hx => cal_clo (c_every1_bin x t h1 (q x) hd hc (hf x hx)) rfl rfl (by exact deps_cons (deps_cons hd rfl) rfl) (by exact cdeps_cons (cdeps_cons hc rfl) rfl) rfl rfl) rfl (by exact deps_cons rfl (deps_cons (deps_cons (deps_cons hd rfl) rfl) rfl)) (by exact cdeps_cons rfl (cdeps_cons (cdeps_cons (cdeps_cons hc rfl) rfl) rfl)) rfl rfl ?_
  refine r_not rfl ?_
  refine asB rfl ?_
  refine r_nil ?_
  refine i_then ?_
  refine t_ret ?_
  refine i_rp1 rfl rfl ?_
  all_goals skip
  exact ret_eq rfl rfl (congrArg Ty.bool (any_not q l))
set_option maxRecDepth 100000 in
theorem c_IndexFunc_mov (l : List Move) (t : Ty) (h1 : t.one = true) (q : Move → Bool) (hd : t.deps = []) (hc : t.cdeps = []) (hf : ∀ x ∈ l, Cal Tryz.prog t [Ty.agg (MoveE.tys x)] (Ty.bool (q x))) : Ctr Tryz.prog 92 [Ty.sl MoveE l, t] (Ty.int .i64 (fidx q l)) := by
  refine fn_intro Tryz.func92 rfl (by decide) Tryz.ntmps92 (by exact Nat.le_of_ble_eq_true rfl) fun w0 M0 => ?_
  refine t_fact (s := 0) rfl rfl sl_len fun hl => ?_
  refine t_seq ?_
  refine t_region ?_
  refine asI rfl ?_
  refine r_nil ?_
  refine i_then ?_
  refine t_seq ?_
  refine t_seq ?_
  refine t_region ?_
  refine mvS rfl ?_
  refine r_len rfl rfl rfl ?_
  refine mvI rfl ?_
  refine r_nil ?_
  refine i_then ?_
  refine t_block ?_
  refine t_loop (fun (k : {k : Nat // ∀ x ∈ l.take k, q x = false}) => live [(0, Ty.sl MoveE l), (1, t), (7, Ty.int .i64 l.length), (8, Ty.int .i64 (k.1 : Nat))] []) (fun k => l.length - k.1) (⟨0, by simp⟩) ?_ fun k => ?_
  · (refine Ent.mk' ?_ ?_ <;> (repeat' (first | exact allSub_zero | exact allTags_nil | refine allSub_succ' ?_ (Ty.sub_any _) | refine allSub_succ' ?_ (Ty.sub_refl _))))
  ·
    refine t_seq ?_
    refine t_region ?_
    refine r_bin rfl rfl rfl ?_
    refine r_nil ?_
    refine i_then ?_
    refine t_seq ?_
    refine t_cond_dec rfl (fun hc1 => ?_) (fun hc1 => ?_)
    ·
      refine t_skip ?_
      refine i_then ?_
      refine t_seq ?_
      refine t_block ?_
      refine t_seq ?_
      refine t_region ?_
      refine mvI rfl ?_
      refine asI rfl ?_
      refine r_nil ?_
      refine i_then ?_
      refine t_seq ?_
      refine t_region ?_
      refine r_move (ty := t) rfl ?_
      refine mvS rfl ?_
      refine mvI rfl ?_
      refine r_index_slN rfl rfl rfl rfl rfl rfl (by omega) ?_
      refine r_load_ppN rfl rfl rfl (by exact Nat.le_of_ble_eq_true rfl) ?_
      refine r_callc rfl (hf _ (nth_mem (by omega))) rfl ?_
      refine r_nil ?_
      refine i_then ?_
      refine t_cond rfl (fun hc2 => ?_) (fun hc2 => ?_)
      ·
        refine t_seq ?_
        refine t_region ?_
        refine mvI rfl ?_
        refine asI rfl ?_
        refine r_nil ?_
        refine i_then ?_
        refine t_ret ?_
        refine i_block_ret ?_
        refine i_then_ret ?_
        refine i_then_ret ?_
        refine i_block_ret ?_
        refine i_then_ret ?_
        refine i_rp1 rfl rfl ?_
        all_goals skip
        exact ret_eq rfl rfl (congrArg (Ty.int .i64) (fidx_found (by omega) k.2 (by rw [← nth_lt]; exact hc2)).symm)
      ·
        refine t_skip ?_
        refine i_block ?_
        refine i_then ?_
        refine t_region ?_
        refine r_add rfl rfl (by omega) (by omega) ?_
        refine mvI rfl ?_
        refine r_nil ?_
        refine i_round (⟨k.1 + 1, by rw [take_nth (by omega)]; intro x hx; rcases List.mem_append.1 hx with h | h; exact k.2 x h; rw [List.mem_singleton.1 h]; exact hc2⟩) ?_ (by show l.length - (k.1 + 1) < l.length - k.1; omega)
        (refine Ent.mk' ?_ ?_ <;> (repeat' (first | exact allSub_zero | exact allTags_nil | refine allSub_succ' ?_ (Ty.sub_any _) | refine allSub_succ' ?_ (Ty.sub_refl _))))
        all_goals skip
    ·
      refine t_exit ?_
      refine i_then_exit ?_
      refine i_then_exit ?_
      refine i_block_exit rfl ?_
      refine i_then ?_
      refine t_seq ?_
      refine t_region ?_
      refine asI rfl ?_
      refine r_nil ?_
      refine i_then ?_
      refine t_ret ?_
      refine i_rp1 rfl rfl ?_
      all_goals skip
      exact ret_eq rfl rfl (congrArg (Ty.int .i64) (fidx_none (by have := k.2; rwa [List.take_of_length_le (by omega)] at this)).symm)
set_option maxRecDepth 100000 in
theorem c_ContainsFunc_mov (l : List Move) (t : Ty) (h1 : t.one = true) (q : Move → Bool) (hd : t.deps = []) (hc : t.cdeps = []) (hf : ∀ x ∈ l, Cal Tryz.prog t [Ty.agg (MoveE.tys x)] (Ty.bool (q x))) : Ctr Tryz.prog 23 [Ty.sl MoveE l, t] (Ty.bool (l.any q)) := by
  refine fn_intro Tryz.func23 rfl (by decide) Tryz.ntmps23 (by exact Nat.le_of_ble_eq_true rfl) fun w0 M0 => ?_
  refine t_seq ?_
  refine t_region ?_
  refine asB rfl ?_
  refine r_nil ?_
  refine i_then ?_
  refine t_seq ?_
  refine t_region ?_
  refine mvS rfl ?_
  refine r_move (ty := t) rfl ?_
  refine r_call (c_IndexFunc_mov l t h1 q hd hc hf) rfl (by exact deps_cons rfl (deps_cons hd rfl)) (by exact cdeps_cons rfl (cdeps_cons hc rfl)) rfl rfl ?_
  refine r_bin rfl rfl rfl ?_
  refine asB rfl ?_
  refine r_nil ?_
  refine i_then ?_
  refine t_ret ?_
  refine i_rp1 rfl rfl ?_
  all_goals skip
  exact ret_eq rfl rfl (congrArg Ty.bool (fidx_ge q l))
set_option maxRecDepth 100000 in
theorem c_every1_mov (x : Move) (t : Ty) (h1 : t.one = true) (b : Bool) (hd : t.deps = []) (hc : t.cdeps = []) (hf : Cal Tryz.prog t [Ty.agg (MoveE.tys x)] (Ty.bool b)) : Ctr Tryz.prog 191 [Ty.agg (MoveE.tys x), Ty.pp [t]] (Ty.bool (!b)) := by
  refine fn_intro Tryz.func191 rfl (by decide) Tryz.ntmps191 (by exact Nat.le_of_ble_eq_true rfl) fun w0 M0 => ?_
  refine t_seq ?_
  refine t_region ?_
  refine r_box_agg rfl ?_
  refine asB rfl ?_
  refine r_nil ?_
  refine i_then ?_
  refine t_seq ?_
  refine t_region ?_
  refine r_load_pp rfl rfl rfl rfl ?_
  refine r_load_ppN rfl rfl rfl (by exact Nat.le_of_ble_eq_true rfl) ?_
  refine r_callc rfl hf rfl ?_
  refine r_not rfl ?_
  refine asB rfl ?_
  refine r_nil ?_
  refine i_then ?_
  refine t_ret ?_
  refine i_rp1 rfl rfl ?_
  all_goals exact ret_refl rfl rfl
set_option maxRecDepth 100000 in
theorem c_every_mov (l : List Move) (t : Ty) (h1 : t.one = true) (q : Move → Bool) (hd : t.deps = []) (hc : t.cdeps = []) (hf : ∀ x ∈ l, Cal Tryz.prog t [Ty.agg (MoveE.tys x)] (Ty.bool (q x))) : Ctr Tryz.prog 146 [Ty.sl MoveE l, t] (Ty.bool (l.all q)) := by
  refine fn_intro Tryz.func146 rfl (by decide) Tryz.ntmps146 (by exact Nat.le_of_ble_eq_true rfl) fun w0 M0 => ?_
  refine t_seq ?_
  refine t_region ?_
  refine r_box_one (ty := t) rfl h1 ?_
  refine asB rfl ?_
  refine r_nil ?_
  refine i_then ?_
  refine t_seq ?_
  refine t_region ?_
  refine mvS rfl ?_
  refine r_makeFunc rfl ?_
  refine r_call (c_ContainsFunc_mov l (Ty.clo _ [Ty.pp [t]]) rfl (fun x => !q x) (by exact deps_cons (deps_cons hd rfl) rfl) (by exact cdeps_cons (cdeps_cons hc rfl) rfl) fun x hx => cal_clo (c_every1_mov x t h1 (q x) hd hc (hf x hx)) rfl rfl (by exact deps_cons (deps_cons hd rfl) rfl) (by exact cdeps_cons (cdeps_cons hc rfl) rfl) rfl rfl) rfl (by exact deps_cons rfl (deps_cons (deps_cons (deps_cons hd rfl) rfl) rfl)) (by exact cdeps_cons rfl (cdeps_cons (cdeps_cons (cdeps_cons hc rfl) rfl) rfl)) rfl rfl ?_
  refine r_not rfl ?_
  refine asB rfl ?_
  refine r_nil ?_
  refine i_then ?_
  refine t_ret ?_
  refine i_rp1 rfl rfl ?_
  all_goals skip
  exact ret_eq rfl rfl (congrArg Ty.bool (any_not q l))
set_option maxRecDepth 100000 in
theorem c_IndexFunc_lev (l : List Level) (t : Ty) (h1 : t.one = true) (q : Level → Bool) (hd : t.deps = []) (hc : t.cdeps = []) (hf : ∀ x ∈ l, Cal Tryz.prog t [Ty.agg (LevelE.tys x)] (Ty.bool (q x))) : Ctr Tryz.prog 163 [Ty.sl LevelE l, t] (Ty.int .i64 (fidx q l)) := by
  refine fn_intro Tryz.func163 rfl (by decide) Tryz.ntmps163 (by exact Nat.le_of_ble_eq_true rfl) fun w0 M0 => ?_
  refine t_fact (s := 0) rfl rfl sl_len fun hl => ?_
  refine t_seq ?_
  refine t_region ?_
  refine asI rfl ?_
  refine r_nil ?_
  refine i_then ?_
  refine t_seq ?_
  refine t_seq ?_
  refine t_region ?_
  refine mvS rfl ?_
  refine r_len rfl rfl rfl ?_
  refine mvI rfl ?_
  refine r_nil ?_
  refine i_then ?_
  refine t_block ?_
  refine t_loop (fun (k : {k : Nat // ∀ x ∈ l.take k, q x = false}) => live [(0, Ty.sl LevelE l), (1, t), (7, Ty.int .i64 l.length), (8, Ty.int .i64 (k.1 : Nat))] []) (fun k => l.length - k.1) (⟨0, by simp⟩) ?_ fun k => ?_
  · (refine Ent.mk' ?_ ?_ <;> (repeat' (first | exact allSub_zero | exact allTags_nil | refine allSub_succ' ?_ (Ty.sub_any _) | refine allSub_succ' ?_ (Ty.sub_refl _))))
  ·
    refine t_seq ?_
    refine t_region ?_
    refine r_bin rfl rfl rfl ?_
    refine r_nil ?_
    refine i_then ?_
    refine t_seq ?_
    refine t_cond_dec rfl (fun hc1 => ?_) (fun hc1 => ?_)
    ·
      refine t_skip ?_
      refine i_then ?_
      refine t_seq ?_
      refine t_block ?_
      refine t_seq ?_
      refine t_region ?_
      refine mvI rfl ?_
      refine asI rfl ?_
      refine r_nil ?_
      refine i_then ?_
      refine t_seq ?_
      refine t_region ?_
      refine r_move (ty := t) rfl ?_
      refine mvS rfl ?_
      refine mvI rfl ?_
      refine r_index_slN rfl rfl rfl rfl rfl rfl (by omega) ?_
      refine r_load_ppN rfl rfl rfl (by exact Nat.le_of_ble_eq_true rfl) ?_
      refine r_callc rfl (hf _ (nth_mem (by omega))) rfl ?_
      refine r_nil ?_
      refine i_then ?_
      refine t_cond rfl (fun hc2 => ?_) (fun hc2 => ?_)
      ·
        refine t_seq ?_
        refine t_region ?_
        refine mvI rfl ?_
        refine asI rfl ?_
        refine r_nil ?_
        refine i_then ?_
        refine t_ret ?_
        refine i_block_ret ?_
        refine i_then_ret ?_
        refine i_then_ret ?_
        refine i_block_ret ?_
        refine i_then_ret ?_
        refine i_rp1 rfl rfl ?_
        all_goals skip
        exact ret_eq rfl rfl (congrArg (Ty.int .i64) (fidx_found (by omega) k.2 (by rw [← nth_lt]; exact hc2)).symm)
      ·
        refine t_skip ?_
        refine i_block ?_
        refine i_then ?_
        refine t_region ?_
        refine r_add rfl rfl (by omega) (by omega) ?_
        refine mvI rfl ?_
        refine r_nil ?_
        refine i_round (⟨k.1 + 1, by rw [take_nth (by omega)]; intro x hx; rcases List.mem_append.1 hx with h | h; exact k.2 x h; rw [List.mem_singleton.1 h]; exact hc2⟩) ?_ (by show l.length - (k.1 + 1) < l.length - k.1; omega)
        (refine Ent.mk' ?_ ?_ <;> (repeat' (first | exact allSub_zero | exact allTags_nil | refine allSub_succ' ?_ (Ty.sub_any _) | refine allSub_succ' ?_ (Ty.sub_refl _))))
        all_goals skip
    ·
      refine t_exit ?_
      refine i_then_exit ?_
      refine i_then_exit ?_
      refine i_block_exit rfl ?_
      refine i_then ?_
      refine t_seq ?_
      refine t_region ?_
      refine asI rfl ?_
      refine r_nil ?_
      refine i_then ?_
      refine t_ret ?_
      refine i_rp1 rfl rfl ?_
      all_goals skip
      exact ret_eq rfl rfl (congrArg (Ty.int .i64) (fidx_none (by have := k.2; rwa [List.take_of_length_le (by omega)] at this)).symm)
set_option maxRecDepth 100000 in
theorem c_ContainsFunc_lev (l : List Level) (t : Ty) (h1 : t.one = true) (q : Level → Bool) (hd : t.deps = []) (hc : t.cdeps = []) (hf : ∀ x ∈ l, Cal Tryz.prog t [Ty.agg (LevelE.tys x)] (Ty.bool (q x))) : Ctr Tryz.prog 84 [Ty.sl LevelE l, t] (Ty.bool (l.any q)) := by
  refine fn_intro Tryz.func84 rfl (by decide) Tryz.ntmps84 (by exact Nat.le_of_ble_eq_true rfl) fun w0 M0 => ?_
  refine t_seq ?_
  refine t_region ?_
  refine asB rfl ?_
  refine r_nil ?_
  refine i_then ?_
  refine t_seq ?_
  refine t_region ?_
  refine mvS rfl ?_
  refine r_move (ty := t) rfl ?_
  refine r_call (c_IndexFunc_lev l t h1 q hd hc hf) rfl (by exact deps_cons rfl (deps_cons hd rfl)) (by exact cdeps_cons rfl (cdeps_cons hc rfl)) rfl rfl ?_
  refine r_bin rfl rfl rfl ?_
  refine asB rfl ?_
  refine r_nil ?_
  refine i_then ?_
  refine t_ret ?_
  refine i_rp1 rfl rfl ?_
  all_goals skip
  exact ret_eq rfl rfl (congrArg Ty.bool (fidx_ge q l))
set_option maxRecDepth 100000 in
theorem c_every1_lev (x : Level) (t : Ty) (h1 : t.one = true) (b : Bool) (hd : t.deps = []) (hc : t.cdeps = []) (hf : Cal Tryz.prog t [Ty.agg (LevelE.tys x)] (Ty.bool b)) : Ctr Tryz.prog 192 [Ty.agg (LevelE.tys x), Ty.pp [t]] (Ty.bool (!b)) := by
  refine fn_intro Tryz.func192 rfl (by decide) Tryz.ntmps192 (by exact Nat.le_of_ble_eq_true rfl) fun w0 M0 => ?_
  refine t_seq ?_
  refine t_region ?_
  refine r_box_agg rfl ?_
  refine asB rfl ?_
  refine r_nil ?_
  refine i_then ?_
  refine t_seq ?_
  refine t_region ?_
  refine r_load_pp rfl rfl rfl rfl ?_
  refine r_load_ppN rfl rfl rfl (by exact Nat.le_of_ble_eq_true rfl) ?_
  refine r_callc rfl hf rfl ?_
  refine r_not rfl ?_
  refine asB rfl ?_
  refine r_nil ?_
  refine i_then ?_
  refine t_ret ?_
  refine i_rp1 rfl rfl ?_
  all_goals exact ret_refl rfl rfl
set_option maxRecDepth 100000 in
theorem c_every_lev (l : List Level) (t : Ty) (h1 : t.one = true) (q : Level → Bool) (hd : t.deps = []) (hc : t.cdeps = []) (hf : ∀ x ∈ l, Cal Tryz.prog t [Ty.agg (LevelE.tys x)] (Ty.bool (q x))) : Ctr Tryz.prog 148 [Ty.sl LevelE l, t] (Ty.bool (l.all q)) := by
  refine fn_intro Tryz.func148 rfl (by decide) Tryz.ntmps148 (by exact Nat.le_of_ble_eq_true rfl) fun w0 M0 => ?_
  refine t_seq ?_
  refine t_region ?_
  refine r_box_one (ty := t) rfl h1 ?_
  refine asB rfl ?_
  refine r_nil ?_
  refine i_then ?_
  refine t_seq ?_
  refine t_region ?_
  refine mvS rfl ?_
  refine r_makeFunc rfl ?_
  refine r_call (c_ContainsFunc_lev l (Ty.clo _ [Ty.pp [t]]) rfl (fun x => !q x) (by exact deps_cons (deps_cons hd rfl) rfl) (by exact cdeps_cons (cdeps_cons hc rfl) rfl) fun x hx => cal_clo (c_every1_lev x t h1 (q x) hd hc (hf x hx)) rfl rfl (by exact deps_cons (deps_cons hd rfl) rfl) (by exact cdeps_cons (cdeps_cons hc rfl) rfl) rfl rfl) rfl (by exact deps_cons rfl (deps_cons (deps_cons (deps_cons hd rfl) rfl) rfl)) (by exact cdeps_cons rfl (cdeps_cons (cdeps_cons (cdeps_cons hc rfl) rfl) rfl)) rfl rfl ?_
  refine r_not rfl ?_
  refine asB rfl ?_
  refine r_nil ?_
  refine i_then ?_
  refine t_ret ?_
  refine i_rp1 rfl rfl ?_
  all_goals skip
  exact ret_eq rfl rfl (congrArg Ty.bool (any_not q l))
set_option maxRecDepth 100000 in
theorem c_IndexFunc_cel (l : List Cel) (t : Ty) (h1 : t.one = true) (q : Cel → Bool) (hd : t.deps = []) (hc : t.cdeps = []) (hf : ∀ x ∈ l, Cal Tryz.prog t [Ty.agg (CelE.tys x)] (Ty.bool (q x))) : Ctr Tryz.prog 199 [Ty.sl CelE l, t] (Ty.int .i64 (fidx q l)) := by
  refine fn_intro Tryz.func199 rfl (by decide) Tryz.ntmps199 (by exact Nat.le_of_ble_eq_true rfl) fun w0 M0 => ?_
  refine t_fact (s := 0) rfl rfl sl_len fun hl => ?_
  refine t_seq ?_
  refine t_region ?_
  refine asI rfl ?_
  refine r_nil ?_
  refine i_then ?_
  refine t_seq ?_
  refine t_seq ?_
  refine t_region ?_
  refine mvS rfl ?_
  refine r_len rfl rfl rfl ?_
  refine mvI rfl ?_
  refine r_nil ?_
  refine i_then ?_
  refine t_block ?_
  refine t_loop (fun (k : {k : Nat // ∀ x ∈ l.take k, q x = false}) => live [(0, Ty.sl CelE l), (1, t), (7, Ty.int .i64 l.length), (8, Ty.int .i64 (k.1 : Nat))] []) (fun k => l.length - k.1) (⟨0, by simp⟩) ?_ fun k => ?_
  · (refine Ent.mk' ?_ ?_ <;> (repeat' (first | exact allSub_zero | exact allTags_nil | refine allSub_succ' ?_ (Ty.sub_any _) | refine allSub_succ' ?_ (Ty.sub_refl _))))
  ·
    refine t_seq ?_
    refine t_region ?_
    refine r_bin rfl rfl rfl ?_
    refine r_nil ?_
    refine i_then ?_
    refine t_seq ?_
    refine t_cond_dec rfl (fun hc1 => ?_) (fun hc1 => ?_)
    ·
      refine t_skip ?_
      refine i_then ?_
      refine t_seq ?_
      refine t_block ?_
      refine t_seq ?_
      refine t_region ?_
      refine mvI rfl ?_
      refine asI rfl ?_
      refine r_nil ?_
      refine i_then ?_
      refine t_seq ?_
      refine t_region ?_
      refine r_move (ty := t) rfl ?_
      refine mvS rfl ?_
      refine mvI rfl ?_
      refine r_index_slN rfl rfl rfl rfl rfl rfl (by omega) ?_
      refine r_load_ppN rfl rfl rfl (by exact Nat.le_of_ble_eq_true rfl) ?_
      refine r_callc rfl (hf _ (nth_mem (by omega))) rfl ?_
      refine r_nil ?_
      refine i_then ?_
      refine t_cond rfl (fun hc2 => ?_) (fun hc2 => ?_)
      ·
        refine t_seq ?_
        refine t_region ?_
        refine mvI rfl ?_
        refine asI rfl ?_
        refine r_nil ?_
        refine i_then ?_
        refine t_ret ?_
        refine i_block_ret ?_
        refine i_then_ret ?_
        refine i_then_ret ?_
        refine i_block_ret ?_
        refine i_then_ret ?_
        refine i_rp1 rfl rfl ?_
        all_goals skip
        exact ret_eq rfl rfl (congrArg (Ty.int .i64) (fidx_found (by omega) k.2 (by rw [← nth_lt]; exact hc2)).symm)
      ·
        refine t_skip ?_
        refine i_block ?_
        refine i_then ?_
        refine t_region ?_
        refine r_add rfl rfl (by omega) (by omega) ?_
        refine mvI rfl ?_
        refine r_nil ?_
        refine i_round (⟨k.1 + 1, by rw [take_nth (by omega)]; intro x hx; rcases List.mem_append.1 hx with h | h; exact k.2 x h; rw [List.mem_singleton.1 h]; exact hc2⟩) ?_ (by show l.length - (k.1 + 1) < l.length - k.1; omega)
        (refine Ent.mk' ?_ ?_ <;> (repeat' (first | exact allSub_zero | exact allTags_nil | refine allSub_succ' ?_ (Ty.sub_any _) | refine allSub_succ' ?_ (Ty.sub_refl _))))
        all_goals skip
    ·
      refine t_exit ?_
      refine i_then_exit ?_
      refine i_then_exit ?_
      refine i_block_exit rfl ?_
      refine i_then ?_
      refine t_seq ?_
      refine t_region ?_
      refine asI rfl ?_
      refine r_nil ?_
      refine i_then ?_
      refine t_ret ?_
      refine i_rp1 rfl rfl ?_
      all_goals skip
      exact ret_eq rfl rfl (congrArg (Ty.int .i64) (fidx_none (by have := k.2; rwa [List.take_of_length_le (by omega)] at this)).symm)
set_option maxRecDepth 100000 in
theorem c_ContainsFunc_cel (l : List Cel) (t : Ty) (h1 : t.one = true) (q : Cel → Bool) (hd : t.deps = []) (hc : t.cdeps = []) (hf : ∀ x ∈ l, Cal Tryz.prog t [Ty.agg (CelE.tys x)] (Ty.bool (q x))) : Ctr Tryz.prog 185 [Ty.sl CelE l, t] (Ty.bool (l.any q)) := by
  refine fn_intro Tryz.func185 rfl (by decide) Tryz.ntmps185 (by exact Nat.le_of_ble_eq_true rfl) fun w0 M0 => ?_
  refine t_seq ?_
  refine t_region ?_
  refine asB rfl ?_
  refine r_nil ?_
  refine i_then ?_
  refine t_seq ?_
  refine t_region ?_
  refine mvS rfl ?_
  refine r_move (ty := t) rfl ?_
  refine r_call (c_IndexFunc_cel l t h1 q hd hc hf) rfl (by exact deps_cons rfl (deps_cons hd rfl)) (by exact cdeps_cons rfl (cdeps_cons hc rfl)) rfl rfl ?_
  refine r_bin rfl rfl rfl ?_
  refine asB rfl ?_
  refine r_nil ?_
  refine i_then ?_
  refine t_ret ?_
  refine i_rp1 rfl rfl ?_
  all_goals skip
  exact ret_eq rfl rfl (congrArg Ty.bool (fidx_ge q l))
set_option maxRecDepth 100000 in
theorem c_every1_cel (x : Cel) (t : Ty) (h1 : t.one = true) (b : Bool) (hd : t.deps = []) (hc : t.cdeps = []) (hf : Cal Tryz.prog t [Ty.agg (CelE.tys x)] (Ty.bool b)) : Ctr Tryz.prog 186 [Ty.agg (CelE.tys x), Ty.pp [t]] (Ty.bool (!b)) := by
  refine fn_intro Tryz.func186 rfl (by decide) Tryz.ntmps186 (by exact Nat.le_of_ble_eq_true rfl) fun w0 M0 => ?_
  refine t_seq ?_
  refine t_region ?_
  refine r_box_agg rfl ?_
  refine asB rfl ?_
  refine r_nil ?_
  refine i_then ?_
  refine t_seq ?_
  refine t_region ?_
  refine r_load_pp rfl rfl rfl rfl ?_
  refine r_load_ppN rfl rfl rfl (by exact Nat.le_of_ble_eq_true rfl) ?_
  refine r_callc rfl hf rfl ?_
  refine r_not rfl ?_
  refine asB rfl ?_
  refine r_nil ?_
  refine i_then ?_
  refine t_ret ?_
  refine i_rp1 rfl rfl ?_
  all_goals exact ret_refl rfl rfl
set_option maxRecDepth 100000 in
theorem c_every_cel (l : List Cel) (t : Ty) (h1 : t.one = true) (q : Cel → Bool) (hd : t.deps = []) (hc : t.cdeps = []) (hf : ∀ x ∈ l, Cal Tryz.prog t [Ty.agg (CelE.tys x)] (Ty.bool (q x))) : Ctr Tryz.prog 133 [Ty.sl CelE l, t] (Ty.bool (l.all q)) := by
  refine fn_intro Tryz.func133 rfl (by decide) Tryz.ntmps133 (by exact Nat.le_of_ble_eq_true rfl) fun w0 M0 => ?_
  refine t_seq ?_
  refine t_region ?_
  refine r_box_one (ty := t) rfl h1 ?_
  refine asB rfl ?_
  refine r_nil ?_
  refine i_then ?_
  refine t_seq ?_
  refine t_region ?_
  refine mvS rfl ?_
  refine r_makeFunc rfl ?_
  refine r_call (c_ContainsFunc_cel l (Ty.clo _ [Ty.pp [t]]) rfl (fun x => !q x) (by exact deps_cons (deps_cons hd rfl) rfl) (by exact cdeps_cons (cdeps_cons hc rfl) rfl) fun x hx => cal_clo (c_every1_cel x t h1 (q x) hd hc (hf x hx)) rfl rfl (by exact deps_cons (deps_cons hd rfl) rfl) (by exact cdeps_cons (cdeps_cons hc rfl) rfl) rfl rfl) rfl (by exact deps_cons rfl (deps_cons (deps_cons (deps_cons hd rfl) rfl) rfl)) (by exact cdeps_cons rfl (cdeps_cons (cdeps_cons (cdeps_cons hc rfl) rfl) rfl)) rfl rfl ?_
  refine r_not rfl ?_
  refine asB rfl ?_
  refine r_nil ?_
  refine i_then ?_
  refine t_ret ?_
  refine i_rp1 rfl rfl ?_
  all_goals skip
  exact ret_eq rfl rfl (congrArg Ty.bool (any_not q l))
set_option maxRecDepth 100000 in
theorem c_IndexFunc_flo (l : List Flow) (t : Ty) (h1 : t.one = true) (q : Flow → Bool) (hd : t.deps = []) (hc : t.cdeps = []) (hf : ∀ x ∈ l, Cal Tryz.prog t [Ty.agg (FlowE.tys x)] (Ty.bool (q x))) : Ctr Tryz.prog 203 [Ty.sl FlowE l, t] (Ty.int .i64 (fidx q l)) := by
  refine fn_intro Tryz.func203 rfl (by decide) Tryz.ntmps203 (by exact Nat.le_of_ble_eq_true rfl) fun w0 M0 => ?_
  refine t_fact (s := 0) rfl rfl sl_len fun hl => ?_
  refine t_seq ?_
  refine t_region ?_
  refine asI rfl ?_
  refine r_nil ?_
  refine i_then ?_
  refine t_seq ?_
  refine t_seq ?_
  refine t_region ?_
  refine mvS rfl ?_
  refine r_len rfl rfl rfl ?_
  refine mvI rfl ?_
  refine r_nil ?_
  refine i_then ?_
  refine t_block ?_
  refine t_loop (fun (k : {k : Nat // ∀ x ∈ l.take k, q x = false}) => live [(0, Ty.sl FlowE l), (1, t), (7, Ty.int .i64 l.length), (8, Ty.int .i64 (k.1 : Nat))] []) (fun k => l.length - k.1) (⟨0, by simp⟩) ?_ fun k => ?_
  · (refine Ent.mk' ?_ ?_ <;> (repeat' (first | exact allSub_zero | exact allTags_nil | refine allSub_succ' ?_ (Ty.sub_any _) | refine allSub_succ' ?_ (Ty.sub_refl _))))
  ·
    refine t_seq ?_
    refine t_region ?_
    refine r_bin rfl rfl rfl ?_
    refine r_nil ?_
    refine i_then ?_
    refine t_seq ?_
    refine t_cond_dec rfl (fun hc1 => ?_) (fun hc1 => ?_)
    ·
      refine t_skip ?_
      refine i_then ?_
      refine t_seq ?_
      refine t_block ?_
      refine t_seq ?_
      refine t_region ?_
      refine mvI rfl ?_
      refine asI rfl ?_
      refine r_nil ?_
      refine i_then ?_
      refine t_seq ?_
      refine t_region ?_
      refine r_move (ty := t) rfl ?_
      refine mvS rfl ?_
      refine mvI rfl ?_
      refine r_index_slN rfl rfl rfl rfl rfl rfl (by omega) ?_
      refine r_load_ppN rfl rfl rfl (by exact Nat.le_of_ble_eq_true rfl) ?_
      refine r_callc rfl (hf _ (nth_mem (by omega))) rfl ?_
      refine r_nil ?_
      refine i_then ?_
      refine t_cond rfl (fun hc2 => ?_) (fun hc2 => ?_)
      ·
        refine t_seq ?_
        refine t_region ?_
        refine mvI rfl ?_
        refine asI rfl ?_
        refine r_nil ?_
        refine i_then ?_
        refine t_ret ?_
        refine i_block_ret ?_
        refine i_then_ret ?_
        refine i_then_ret ?_
        refine i_block_ret ?_
        refine i_then_ret ?_
        refine i_rp1 rfl rfl ?_
        all_goals skip
        exact ret_eq rfl rfl (congrArg (Ty.int .i64) (fidx_found (by omega) k.2 (by rw [← nth_lt]; exact hc2)).symm)
      ·
        refine t_skip ?_
        refine i_block ?_
        refine i_then ?_
        refine t_region ?_
        refine r_add rfl rfl (by omega) (by omega) ?_
        refine mvI rfl ?_
        refine r_nil ?_
        refine i_round (⟨k.1 + 1, by rw [take_nth (by omega)]; intro x hx; rcases List.mem_append.1 hx with h | h; exact k.2 x h; rw [List.mem_singleton.1 h]; exact hc2⟩) ?_ (by show l.length - (k.1 + 1) < l.length - k.1; omega)
        (refine Ent.mk' ?_ ?_ <;> (repeat' (first | exact allSub_zero | exact allTags_nil | refine allSub_succ' ?_ (Ty.sub_any _) | refine allSub_succ' ?_ (Ty.sub_refl _))))
        all_goals skip
    ·
      refine t_exit ?_
      refine i_then_exit ?_
      refine i_then_exit ?_
      refine i_block_exit rfl ?_
      refine i_then ?_
      refine t_seq ?_
      refine t_region ?_
      refine asI rfl ?_
      refine r_nil ?_
      refine i_then ?_
      refine t_ret ?_
      refine i_rp1 rfl rfl ?_
      all_goals skip
      exact ret_eq rfl rfl (congrArg (Ty.int .i64) (fidx_none (by have := k.2; rwa [List.take_of_length_le (by omega)] at this)).symm)
set_option maxRecDepth 100000 in
theorem c_ContainsFunc_flo (l : List Flow) (t : Ty) (h1 : t.one = true) (q : Flow → Bool) (hd : t.deps = []) (hc : t.cdeps = []) (hf : ∀ x ∈ l, Cal Tryz.prog t [Ty.agg (FlowE.tys x)] (Ty.bool (q x))) : Ctr Tryz.prog 197 [Ty.sl FlowE l, t] (Ty.bool (l.any q)) := by
  refine fn_intro Tryz.func197 rfl (by decide) Tryz.ntmps197 (by exact Nat.le_of_ble_eq_true rfl) fun w0 M0 => ?_
  refine t_seq ?_
  refine t_region ?_
  refine asB rfl ?_
  refine r_nil ?_
  refine i_then ?_
  refine t_seq ?_
  refine t_region ?_
  refine mvS rfl ?_
  refine r_move (ty := t) rfl ?_
  refine r_call (c_IndexFunc_flo l t h1 q hd hc hf) rfl (by exact deps_cons rfl (deps_cons hd rfl)) (by exact cdeps_cons rfl (cdeps_cons hc rfl)) rfl rfl ?_
  refine r_bin rfl rfl rfl ?_
  refine asB rfl ?_
  refine r_nil ?_
  refine i_then ?_
  refine t_ret ?_
  refine i_rp1 rfl rfl ?_
  all_goals skip
  exact ret_eq rfl rfl (congrArg Ty.bool (fidx_ge q l))
set_option maxRecDepth 100000 in
theorem c_every1_flo (x : Flow) (t : Ty) (h1 : t.one = true) (b : Bool) (hd : t.deps = []) (hc : t.cdeps = []) (hf : Cal Tryz.prog t [Ty.agg (FlowE.tys x)] (Ty.bool b)) : Ctr Tryz.prog 198 [Ty.agg (FlowE.tys x), Ty.pp [t]] (Ty.bool (!b)) := by
  refine fn_intro Tryz.func198 rfl (by decide) Tryz.ntmps198 (by exact Nat.le_of_ble_eq_true rfl) fun w0 M0 => ?_
  refine t_seq ?_
  refine t_region ?_
  refine r_box_agg rfl ?_
  refine asB rfl ?_
  refine r_nil ?_
  refine i_then ?_
  refine t_seq ?_
  refine t_region ?_
  refine r_load_pp rfl rfl rfl rfl ?_
  refine r_load_ppN rfl rfl rfl (by exact Nat.le_of_ble_eq_true rfl) ?_
  refine r_callc rfl hf rfl ?_
  refine r_not rfl ?_
  refine asB rfl ?_
  refine r_nil ?_
  refine i_then ?_
  refine t_ret ?_
  refine i_rp1 rfl rfl ?_
  all_goals exact ret_refl rfl rfl
set_option maxRecDepth 100000 in
theorem c_every_flo (l : List Flow) (t : Ty) (h1 : t.one = true) (q : Flow → Bool) (hd : t.deps = []) (hc : t.cdeps = []) (hf : ∀ x ∈ l, Cal Tryz.prog t [Ty.agg (FlowE.tys x)] (Ty.bool (q x))) : Ctr Tryz.prog 176 [Ty.sl FlowE l, t] (Ty.bool (l.all q)) := by
  refine fn_intro Tryz.func176 rfl (by decide) Tryz.ntmps176 (by exact Nat.le_of_ble_eq_true rfl) fun w0 M0 => ?_
  refine t_seq ?_
  refine t_region ?_
  refine r_box_one (ty := t) rfl h1 ?_
  refine asB rfl ?_
  refine r_nil ?_
  refine i_then ?_
  refine t_seq ?_
  refine t_region ?_
  refine mvS rfl ?_
  refine r_makeFunc rfl ?_
  refine r_call (c_ContainsFunc_flo l (Ty.clo _ [Ty.pp [t]]) rfl (fun x => !q x) (by exact deps_cons (deps_cons hd rfl) rfl) (by exact cdeps_cons (cdeps_cons hc rfl) rfl) fun x hx => cal_clo (c_every1_flo x t h1 (q x) hd hc (hf x hx)) rfl rfl (by exact deps_cons (deps_cons hd rfl) rfl) (by exact cdeps_cons (cdeps_cons hc rfl) rfl) rfl rfl) rfl (by exact deps_cons rfl (deps_cons (deps_cons (deps_cons hd rfl) rfl) rfl)) (by exact cdeps_cons rfl (cdeps_cons (cdeps_cons (cdeps_cons hc rfl) rfl) rfl)) rfl rfl ?_
  refine r_not rfl ?_
  refine asB rfl ?_
  refine r_nil ?_
  refine i_then ?_
  refine t_ret ?_
  refine i_rp1 rfl rfl ?_
  all_goals skip
  exact ret_eq rfl rfl (congrArg Ty.bool (any_not q l))
set_option maxRecDepth 100000 in
theorem c_IndexFunc_spn (l : List Span) (t : Ty) (h1 : t.one = true) (q : Span → Bool) (hd : t.deps = []) (hc : t.cdeps = []) (hf : ∀ x ∈ l, Cal Tryz.prog t [Ty.agg (SpanE.tys x)] (Ty.bool (q x))) : Ctr Tryz.prog 38 [Ty.sl SpanE l, t] (Ty.int .i64 (fidx q l)) := by
  refine fn_intro Tryz.func38 rfl (by decide) Tryz.ntmps38 (by exact Nat.le_of_ble_eq_true rfl) fun w0 M0 => ?_
  refine t_fact (s := 0) rfl rfl sl_len fun hl => ?_
  refine t_seq ?_
  refine t_region ?_
  refine asI rfl ?_
  refine r_nil ?_
  refine i_then ?_
  refine t_seq ?_
  refine t_seq ?_
  refine t_region ?_
  refine mvS rfl ?_
  refine r_len rfl rfl rfl ?_
  refine mvI rfl ?_
  refine r_nil ?_
  refine i_then ?_
  refine t_block ?_
  refine t_loop (fun (k : {k : Nat // ∀ x ∈ l.take k, q x = false}) => live [(0, Ty.sl SpanE l), (1, t), (7, Ty.int .i64 l.length), (8, Ty.int .i64 (k.1 : Nat))] []) (fun k => l.length - k.1) (⟨0, by simp⟩) ?_ fun k => ?_
  · (refine Ent.mk' ?_ ?_ <;> (repeat' (first | exact allSub_zero | exact allTags_nil | refine allSub_succ' ?_ (Ty.sub_any _) | refine allSub_succ' ?_ (Ty.sub_refl _))))
  ·
    refine t_seq ?_
    refine t_region ?_
    refine r_bin rfl rfl rfl ?_
    refine r_nil ?_
    refine i_then ?_
    refine t_seq ?_
    refine t_cond_dec rfl (fun hc1 => ?_) (fun hc1 => ?_)
    ·
      refine t_skip ?_
      refine i_then ?_
      refine t_seq ?_
      refine t_block ?_
      refine t_seq ?_
      refine t_region ?_
      refine mvI rfl ?_
      refine asI rfl ?_
      refine r_nil ?_
      refine i_then ?_
      refine t_seq ?_
      refine t_region ?_
      refine r_move (ty := t) rfl ?_
      refine mvS rfl ?_
      refine mvI rfl ?_
      refine r_index_slN rfl rfl rfl rfl rfl rfl (by omega) ?_
      refine r_load_ppN rfl rfl rfl (by exact Nat.le_of_ble_eq_true rfl) ?_
      refine r_callc rfl (hf _ (nth_mem (by omega))) rfl ?_
      refine r_nil ?_
      refine i_then ?_
      refine t_cond rfl (fun hc2 => ?_) (fun hc2 => ?_)
      ·
        refine t_seq ?_
        refine t_region ?_
        refine mvI rfl ?_
        refine asI rfl ?_
        refine r_nil ?_
        refine i_then ?_
        refine t_ret ?_
        refine i_block_ret ?_
        refine i_then_ret ?_
        refine i_then_ret ?_
        refine i_block_ret ?_
        refine i_then_ret ?_
        refine i_rp1 rfl rfl ?_
        all_goals skip
        exact ret_eq rfl rfl (congrArg (Ty.int .i64) (fidx_found (by omega) k.2 (by rw [← nth_lt]; exact hc2)).symm)
      ·
        refine t_skip ?_
        refine i_block ?_
        refine i_then ?_
        refine t_region ?_
        refine r_add rfl rfl (by omega) (by omega) ?_
        refine mvI rfl ?_
        refine r_nil ?_
        refine i_round (⟨k.1 + 1, by rw [take_nth (by omega)]; intro x hx; rcases List.mem_append.1 hx with h | h; exact k.2 x h; rw [List.mem_singleton.1 h]; exact hc2⟩) ?_ (by show l.length - (k.1 + 1) < l.length - k.1; omega)
        (refine Ent.mk' ?_ ?_ <;> (repeat' (first | exact allSub_zero | exact allTags_nil | refine allSub_succ' ?_ (Ty.sub_any _) | refine allSub_succ' ?_ (Ty.sub_refl _))))
        all_goals skip
    ·
      refine t_exit ?_
      refine i_then_exit ?_
      refine i_then_exit ?_
      refine i_block_exit rfl ?_
      refine i_then ?_
      refine t_seq ?_
      refine t_region ?_
      refine asI rfl ?_
      refine r_nil ?_
      refine i_then ?_
      refine t_ret ?_
      refine i_rp1 rfl rfl ?_
      all_goals skip
      exact ret_eq rfl rfl (congrArg (Ty.int .i64) (fidx_none (by have := k.2; rwa [List.take_of_length_le (by omega)] at this)).symm)
end Go.Proofs.YtelbollidfdcjaaGreat
