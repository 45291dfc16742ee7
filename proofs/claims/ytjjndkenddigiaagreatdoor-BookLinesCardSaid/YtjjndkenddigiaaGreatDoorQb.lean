/- Lemmas: the program and the reference walked, plain laws. -/
import Derived.Test.YtjjndkenddigiaaGreatDoorQa
namespace Go.T
open Go Go.RowKit
def mget {κ β : Type} [DecidableEq κ] : List (κ × β) → κ → Option β
  | [], _ => none
  | x :: l, k => if x.1 = k then some x.2 else mget l k
def mput {κ β : Type} [DecidableEq κ] : List (κ × β) → κ → β → List (κ × β)
  | [], k, v => [(k, v)]
  | x :: l, k, v => if x.1 = k then (k, v) :: l else x :: mput l k v
theorem mget_mput {κ β : Type} [DecidableEq κ] (l : List (κ × β)) (k : κ) (v : β) (k' : κ) : mget (mput l k v) k' = if k = k' then some v else mget l k' := by
  induction l with
  | nil => simp [mput, mget]
  | cons x l ih =>
    simp only [mput]
    by_cases h : x.1 = k
    · subst h; simp only [if_true, mget]; by_cases h2 : x.1 = k' <;> simp [h2]
    · rw [if_neg h]; simp only [mget, ih]
      by_cases h2 : x.1 = k'
      · subst h2; rw [if_pos rfl, if_pos rfl, if_neg (fun e => h e.symm)]
      · rw [if_neg h2, if_neg h2]
structure KeyK (P : Program) (kt : TypeId) (κ : Type) [DecidableEq κ] where
  enc : κ → Value
  find : ∀ (k : κ) (ks : List κ) (es : List MapEntry) (w : World), es.map (·.key) = ks.map enc →
    (Instr.findKey kt (enc k) es).run P w = .ok ((ks.findIdx? (fun x => decide (x = k))).bind fun i => (es[i]?).map fun e => (i, e.val)) w
  check : ∀ (b : Bool) (k : κ) (w : World), (Instr.checkKey b 10000 kt (enc k)).run P w = .ok () w
  same : ∀ k, Instr.sameBits 10000 (enc k) (enc k) = true
theorem findNow_int (kt : IntKind) (k : Int) : ∀ (ks : List Int) (es : List MapEntry) (i : Nat), es.map (·.key) = ks.map (Value.int kt) →
    Instr.findNow (.int kt) (.int kt k) es i = some ((ks.findIdx? (fun x => decide (x = k))).bind fun j => (es[j]?).map fun e => (i + j, e.val))
  | [], [], i, _ => rfl
  | [], e :: es, i, h => by cases h
  | x :: ks, [], i, h => by cases h
  | x :: ks, e :: es, i, h => by
    simp only [List.map_cons, List.cons.injEq] at h
    obtain ⟨h1, h2⟩ := h
    rw [Instr.findNow, h1]
    simp only [Instr.sameNow, if_true]
    by_cases hx : x = k
    · subst hx; simp [List.findIdx?_cons]
    · have hb : (k == x) = false := by rw [beq_eq_false_iff_ne]; exact fun e => hx e.symm
      rw [hb, findNow_int kt k ks es (i + 1) h2]
      simp only [List.findIdx?_cons, decide_eq_false hx, Bool.false_eq_true, if_false]
      cases (ks.findIdx? fun x => decide (x = k)) with
      | none => rfl
      | some j => simp [Nat.add_assoc, Nat.add_comm]; rw [show j + (i + 1) = i + (j + 1) from by omega]
theorem check_int {P : Program} (kt : TypeId) (q : IntKind) (h : P.underlying kt = some (.int q)) (b : Bool) (k : Int) (n : Nat) (w : World) : (Instr.checkKey b (n + 1) kt (.int q k)).run P w = .ok () w := by simp [Instr.checkKey, underlying, h]
theorem same_int (q : IntKind) (k : Int) (n : Nat) : Instr.sameBits n (.int q k) (.int q k) = true := by cases n <;> simp [Instr.sameBits]
def intKey (P : Program) (kt : TypeId) (q : IntKind) (h : P.underlying kt = some (.int q)) : KeyK P kt Int where
  enc := Value.int q
  find k ks es w he := by
    have := findNow_int q k ks es 0 he
    simp [Instr.findKey, underlying, h, this]
  check b k w := check_int kt q h b k 9999 w
  same k := same_int q k 10000
section
variable {κ β : Type} [DecidableEq κ]
def mapAt (enc : κ → Value) (vt : β → Ty) (kvs : List (κ × β)) (w : World) (M : Tags) (b : Nat) : Prop :=
  ∃ es clock, w.heap[b]? = some (.map es clock) ∧ es.toList.map (·.key) = kvs.map (fun x => enc x.1) ∧ dens w M (kvs.map fun x => vt x.2) (es.toList.map (·.val))
theorem mapAt_mono {enc : κ → Value} {vt : β → Ty} (hv : ∀ v, (vt v).deps = [] ∧ (vt v).cdeps = []) {kvs : List (κ × β)} {S K : Nat → Prop} {w w' : World} {M M' : Tags} {b : Nat} (le : Le S K w M w' M') (hb : w'.heap[b]? = w.heap[b]?) (h : mapAt enc vt kvs w M b) : mapAt enc vt kvs w' M' b := by
  have _ := (inferInstance : DecidableEq κ)
  obtain ⟨es, clock, h1, h2, h3⟩ := h
  refine ⟨es, clock, hb.trans h1, h2, dens_mono le (fun u hu => ?_) (fun u hu => ?_) h3⟩
  · simp only [depsOf, List.mem_flatMap, List.mem_map] at hu
    obtain ⟨t, ⟨x, _, rfl⟩, hu⟩ := hu
    rw [(hv x.2).1] at hu; cases hu
  · simp only [cdepsOf, List.mem_flatMap, List.mem_map] at hu
    obtain ⟨t, ⟨x, _, rfl⟩, hu⟩ := hu
    rw [(hv x.2).2] at hu; cases hu
structure VT (β : Type) where
  ty : β → Ty
  nodeps : ∀ v, (ty v).deps = [] ∧ (ty v).cdeps = []
def VBool : VT Bool := ⟨fun b => Ty.bool b, fun _ => ⟨rfl, rfl⟩⟩
def dMap (enc : κ → Value) (V : VT β) (kvs : List (κ × β)) (w : World) (M : Tags) (t : Nat) : Prop := ∃ b, M b = some t ∧ mapAt enc V.ty kvs w M b
def Cont.mp (enc : κ → Value) (V : VT β) (kvs : List (κ × β)) : Cont :=
  { den := dMap enc V kvs
    mono := fun le _ _ hs hk ⟨b, h1, h2⟩ => let ⟨h3, h4⟩ := le.own b _ h1 hk; ⟨b, h3, mapAt_mono V.nodeps le (h4 hs) h2⟩ }
theorem Cont.sub_mp {enc : κ → Value} {V : VT β} {k1 k2 : List (κ × β)} (h : k1 = k2) : (Cont.mp enc V k1).Sub (Cont.mp enc V k2) := by subst h; exact Cont.sub_refl _
def dMp (tg : Nat) (_ : World) (M : Tags) (v : Value) : Prop := ∃ b, v = .map (some b) ∧ M b = some tg
def Ty.mp (tg : Nat) : Ty := ⟨dMp tg, [tg], [], fun le hk _ ⟨b, e, h⟩ => ⟨b, e, (le.own b tg h (hk tg (by simp))).1⟩, true, fun _ ⟨_, e, _⟩ => e ▸ rfl⟩
end
section
variable {P : Program} {κ β : Type} [DecidableEq κ]
theorem mget_pos (kvs : List (κ × β)) (k : κ) (i : Nat) (h : (kvs.map Prod.fst).findIdx? (fun x => decide (x = k)) = some i) : ∃ v, kvs[i]? = some (k, v) ∧ mget kvs k = some v ∧ ∀ z, mput kvs k z = kvs.set i (k, z) := by
  induction kvs generalizing i with
  | nil => cases h
  | cons x l ih =>
    rw [List.map_cons, List.findIdx?_cons] at h
    by_cases hx : x.1 = k
    · subst hx
      simp at h; subst h
      exact ⟨x.2, by simp, by simp [mget], fun z => by simp [mput]⟩
    · rw [decide_eq_false hx] at h
      simp only [Bool.false_eq_true, if_false, Option.map_eq_some_iff] at h
      obtain ⟨j, hj, rfl⟩ := h
      obtain ⟨v, h1, h2, h3⟩ := ih j hj
      exact ⟨v, by simpa using h1, by simp [mget, hx, h2], fun z => by simp [mput, hx, h3]⟩
theorem mget_none (kvs : List (κ × β)) (k : κ) (h : (kvs.map Prod.fst).findIdx? (fun x => decide (x = k)) = none) : mget kvs k = none ∧ ∀ z, mput kvs k z = kvs ++ [(k, z)] := by
  induction kvs with
  | nil => exact ⟨rfl, fun _ => rfl⟩
  | cons x l ih =>
    rw [List.map_cons, List.findIdx?_cons] at h
    by_cases hx : x.1 = k
    · simp [hx] at h
    · rw [decide_eq_false hx] at h
      simp only [Bool.false_eq_true, if_false, Option.map_eq_none_iff] at h
      obtain ⟨h1, h2⟩ := ih h
      exact ⟨by simp [mget, hx, h1], fun z => by simp [mput, hx, h2]⟩
theorem run_find {kt : TypeId} (KK : KeyK P kt κ) {vt : β → Ty} {kvs : List (κ × β)} {w : World} {M : Tags} {es : Array MapEntry} (h2 : es.toList.map (·.key) = kvs.map (fun x => KK.enc x.1)) (h3 : dens w M (kvs.map fun x => vt x.2) (es.toList.map (·.val))) (k : κ) :
    (∃ i v e, (kvs.map Prod.fst).findIdx? (fun x => decide (x = k)) = some i ∧ mget kvs k = some v ∧ es[i]? = some e ∧ e.key = KK.enc k ∧ (vt v).den w M e.val ∧ (Instr.findKey kt (KK.enc k) es.toList).run P w = .ok (some (i, e.val)) w) ∨
    ((kvs.map Prod.fst).findIdx? (fun x => decide (x = k)) = none ∧ mget kvs k = none ∧ (Instr.findKey kt (KK.enc k) es.toList).run P w = .ok none w) := by
  have hf := KK.find k (kvs.map Prod.fst) es.toList w (by rw [h2, List.map_map]; rfl)
  cases hi : (kvs.map Prod.fst).findIdx? (fun x => decide (x = k)) with
  | none => right; rw [hi] at hf; exact ⟨rfl, (mget_none kvs k hi).1, hf⟩
  | some i =>
    left
    rw [hi] at hf
    obtain ⟨v, hv, hg, _⟩ := mget_pos kvs k i hi
    have hl : i < es.toList.length := by
      have := congrArg List.length h2
      rw [List.length_map, List.length_map] at this
      rw [this]; exact (List.getElem?_eq_some_iff.1 hv).1
    obtain ⟨u, hu, hd⟩ := dens_get h3 i (vt v) (by rw [List.getElem?_map, hv]; rfl)
    rw [List.getElem?_map, List.getElem?_eq_getElem hl] at hu
    injection hu with hu
    have hk := congrArg (fun l : List Value => l[i]?) h2
    simp only [List.getElem?_map, hv, List.getElem?_eq_getElem hl, Option.map_some] at hk
    injection hk with hk
    refine ⟨i, v, es.toList[i], rfl, hg, ?_, hk, hu ▸ hd, ?_⟩
    · rw [← Array.getElem?_toList, List.getElem?_eq_getElem hl]
    · rw [hf]; show Result.ok ((es.toList[i]?).map _) w = _; rw [List.getElem?_eq_getElem hl]; rfl
end
def zeroOf (P : Program) (t : TypeId) : Option Value := (P.info? t).bind (·.zero)
theorem run_zeroOf {P : Program} {t : TypeId} {z : Value} (h : zeroOf P t = some z) (w : World) : (zeroValue t).run P w = .ok z w := by
  unfold zeroOf at h
  cases hi : P.info? t with
  | none => rw [hi] at h; cases h
  | some i =>
    rw [hi] at h
    have h' : i.zero = some z := h
    simp [zeroValue, typeInfo, hi, h']
def mapOf (P : Program) (t : TypeId) : Option (TypeId × TypeId) := match P.underlying t with | some (.map k e) => some (k, e) | _ => none
theorem mapOf_und {P : Program} {t k e : TypeId} (h : mapOf P t = some (k, e)) : P.underlying t = some (.map k e) := by
  unfold mapOf at h
  split at h
  · rename_i k' e' hu; injection h with h; injection h with h1 h2; subst h1; subst h2; exact hu
  · cases h
section
variable {P : Program} {fr : Fr} {ops : Array Oper} {A : As} {rest : List Oper} {K : As → List (As × Fx) → Prop} {d : Nat} {t mt kt et : TypeId} {p : String} {e : Array Edge}
variable {κ β : Type} [DecidableEq κ]
theorem r_makeMap (enc : κ → Value) (V : VT β) (hm : mapOf P mt = some (kt, et)) (hp : fr.pass.contains (d + 1) = false)
    (h : TOps P fr ops rest (A.after { d := some d, ty := .mp (d + 1), K := [d + 1], sets := [(d + 1, .mp enc V [])] }) fun A' l' => K A' ((A, { d := some d, ty := .mp (d + 1), K := [d + 1], sets := [(d + 1, .mp enc V [])] }) :: l')) :
    TOps P fr ops (⟨some d, .makeMap mt none, t, p, e, none⟩ :: rest) A K := by
  refine ⟨_, ⟨rfl, (by simp), (by simp), (fun u hu => ?_), fun a w M wf _ _ _ => ?_⟩, h⟩
  · rw [List.mem_singleton.1 hu]; exact ⟨by omega, by simpa using hp⟩
  rw [if_pos (by simp [Region.wanted])]
  have hrun : (execOp a.eval ⟨some d, .makeMap mt none, t, p, e, none⟩).run P w = .ok (.value (.map (some w.heap.size))) { w with heap := w.heap.push (.map #[] 0) } := by
    simp [execOp, Instr.makeMap, newObj, Sem.run]
  refine wp_in_value hrun ?_
  refine ⟨_, rfl, fun b => if b = w.heap.size then some (d + 1) else if M b = some (d + 1) then none else M b, ⟨fun b u hb => ?_, fun b b' u ht1 hb hb' => ?_, wf.amb.of fun b hlt hm => ⟨by rw [if_neg (by omega), if_neg (by rw [hm]; simp)]; exact hm, by simp [Array.getElem?_push]; intro h; omega⟩⟩, ⟨by simp, rfl, rfl, rfl, fun b hlt hm => ⟨?_, ?_⟩, fun b u hm hk => ⟨?_, fun _ => ?_⟩⟩, ⟨_, rfl, by simp⟩, fun x hx => ?_⟩
  · simp only [Array.size_push]
    split at hb
    · omega
    · split at hb
      · cases hb
      · have := wf.lt b u hb; omega
  · by_cases h1 : b = w.heap.size <;> by_cases h2 : b' = w.heap.size
    · rw [h1, h2]
    · exfalso
      simp only [h1, h2, if_true, if_false] at hb hb'
      injection hb with hb
      split at hb'
      · cases hb'
      · rename_i hn; rw [← hb] at hb'; exact hn hb'
    · exfalso
      simp only [h1, h2, if_true, if_false] at hb hb'
      injection hb' with hb'
      split at hb
      · cases hb
      · rename_i hn; rw [← hb'] at hb; exact hn hb
    · simp only [h1, h2, if_false] at hb hb'
      split at hb
      · cases hb
      · split at hb'
        · cases hb'
        · exact wf.inj b b' u ht1 hb hb'
  · rw [if_neg (by omega), if_neg (by rw [hm]; simp)]; exact hm
  · simp [Array.getElem?_push]; intro h; omega
  · have hlt := wf.lt b u hm
    rw [if_neg (by omega), if_neg (by rw [hm]; intro h; injection h with h; exact hk (by simp [h]))]; exact hm
  · have hlt := wf.lt b u hm
    simp [Array.getElem?_push]; intro h; omega
  · rw [List.mem_singleton.1 hx]
    exact ⟨w.heap.size, by simp, #[], 0, by simp, rfl, trivial⟩
theorem run_lookup {w : World} {M : Tags} {b : Nat} (KK : KeyK P kt κ) (V : VT β) {kvs : List (κ × β)} {z0 : β} {zv : Value} (hm : mapOf P mt = some (kt, et)) (hz : zeroOf P et = some zv) (hzd : (V.ty z0).den w M zv) (h : mapAt KK.enc V.ty kvs w M b) (k : κ) :
    (∃ v, (Instr.lookup mt (.map (some b)) (KK.enc k) false).run P w = .ok v w ∧ (V.ty ((mget kvs k).getD z0)).den w M v) ∧
    ∃ v, (Instr.lookup mt (.map (some b)) (KK.enc k) true).run P w = .ok (.tuple #[v, .bool (mget kvs k).isSome]) w ∧ (V.ty ((mget kvs k).getD z0)).den w M v := by
  obtain ⟨es, clock, h1, h2, h3⟩ := h
  have hu := mapOf_und hm
  have hzr := run_zeroOf hz
  rcases run_find KK h2 h3 k with ⟨i, v, en, _, hg, _, _, hd, hf⟩ | ⟨_, hg, hf⟩
  · rw [hg]
    refine ⟨⟨en.val, ?_, hd⟩, en.val, ?_, hd⟩ <;> simp [Instr.lookup, underlying, hu, getObj, Sem.run, h1, KK.check, hf]
  · rw [hg]
    refine ⟨⟨zv, ?_, hzd⟩, zv, ?_, hzd⟩ <;> simp [Instr.lookup, underlying, hu, getObj, Sem.run, h1, KK.check, hf, hzr]
theorem mp_at {x : Operand} {tg : Nat} {enc : κ → Value} {V : VT β} {kvs : List (κ × β)} (hx : A.op fr x = .mp tg) (hc : A.tag tg = some (.mp enc V kvs)) (h1 : Tag1 tg) {a : Act} {w : World} {M : Tags} {rs : List Nat} (wf : Wf w M) (hr : ∀ c ∈ opR x, c ∈ rs) (hrd : ∀ c ∈ rs, c < fr.n → (A.slots c).den w M (a.tmps.getD c undef)) (htg : ∀ y ∈ A.tags, y.1 ∈ [tg] → y.2.den w M y.1) :
    ∃ b, a.eval x = .map (some b) ∧ M b = some tg ∧ mapAt enc V.ty kvs w M b := by
  have hxd := op_den hr hrd
  rw [hx] at hxd
  obtain ⟨b, e1, e2⟩ := hxd
  obtain ⟨b', h2, h3⟩ := htg _ (tag_mem hc) (by simp)
  obtain ⟨u, rfl⟩ : ∃ u, tg = u + 1 := ⟨tg - 1, by omega⟩
  have : b = b' := wf.inj b b' u (by omega) e2 h2
  subst this
  exact ⟨b, e1, e2, h3⟩
def KeyAt (kty : Ty) (v : Value) : Prop := ∀ w M x, kty.den w M x → x = v
theorem key_int {q : IntKind} {n : Int} : KeyAt (.int q n) (.int q n) := fun _ _ _ h => h
theorem r_lookup {x y : Operand} {tg : Nat} {kty : Ty} {k : κ} (KK : KeyK P kt κ) {V : VT β} {kvs : List (κ × β)} {z0 : β} {zv : Value} (hx : A.op fr x = .mp tg) (hc : A.tag tg = some (.mp KK.enc V kvs)) (h1 : Tag1 tg) (hy : A.op fr y = kty) (hk : KeyAt kty (KK.enc k)) (hm : mapOf P mt = some (kt, et)) (hz : zeroOf P et = some zv) (hzd : ∀ w M, (V.ty z0).den w M zv)
    (h : TOps P fr ops rest (A.set d (V.ty ((mget kvs k).getD z0))) fun A' l' => K A' ((A, { d := some d, ty := V.ty ((mget kvs k).getD z0), rs := opR x ++ opR y, rt := [tg] }) :: l')) :
    TOps P fr ops (⟨some d, .lookup mt x y false, t, p, e, none⟩ :: rest) A K :=
  tops_pure (opT_pure rfl rfl fun a w M wf hrd htg => by
    obtain ⟨b, e1, _, h3⟩ := mp_at hx hc h1 wf (fun c hc => List.mem_append_left _ hc) hrd htg
    have hyd := op_den (fun c hc => List.mem_append_right (opR x) hc) hrd
    rw [hy] at hyd
    obtain ⟨v, hv, hd⟩ := (run_lookup KK V hm hz (hzd w M) h3 k).1
    refine ⟨v, ?_, hd⟩
    simp only [execOp, e1, hk _ _ _ hyd]
    simp [hv]) h
theorem r_mapUpdate {x y z : Operand} {tg : Nat} {kty vty : Ty} {k : κ} {v : β} (KK : KeyK P kt κ) {V : VT β} {kvs : List (κ × β)} (hx : A.op fr x = .mp tg) (hc : A.tag tg = some (.mp KK.enc V kvs)) (h1 : Tag1 tg) (hy : A.op fr y = kty) (hk : KeyAt kty (KK.enc k)) (hz : A.op fr z = vty) (hv : vty = V.ty v) (hm : mapOf P mt = some (kt, et))
    (h : TOps P fr ops rest (A.after { d := none, S := [tg], sets := [(tg, .mp KK.enc V (mput kvs k v))], rs := opR x ++ (opR y ++ opR z), rt := [tg] }) fun A' l' => K A' ((A, { d := none, S := [tg], sets := [(tg, .mp KK.enc V (mput kvs k v))], rs := opR x ++ (opR y ++ opR z), rt := [tg] }) :: l')) :
    TOps P fr ops (⟨none, .mapUpdate mt x y z, t, p, e, none⟩ :: rest) A K := by
  subst hv
  refine ⟨_, ⟨rfl, (fun x hx => .inl (by rw [List.mem_singleton.1 hx]; exact List.mem_singleton.2 rfl)), (fun u hu => by rw [List.mem_singleton.1 hu]; exact h1.1), (by simp), fun a w M wf _ hrd htg => ?_⟩, h⟩
  rw [if_pos (by simp [Region.wanted])]
  obtain ⟨b, e1, e2, es, clock, h3, h4, h5⟩ := mp_at hx hc h1 wf (fun c hc => List.mem_append_left _ hc) hrd htg
  have hyd := op_den (fun c hc => List.mem_append_right (opR x) (List.mem_append_left (opR z) hc)) hrd
  have hzd := op_den (fun c hc => List.mem_append_right (opR x) (List.mem_append_right (opR y) hc)) hrd
  rw [hy] at hyd
  rw [hz] at hzd
  have hu := mapOf_und hm
  have hblt : b < w.heap.size := wf.lt b _ e2
  -- whatever is put there
  have fin : ∀ (es' : Array MapEntry) (clock' : Nat), es'.toList.map (·.key) = (mput kvs k v).map (fun x => KK.enc x.1) → dens w M ((mput kvs k v).map fun x => V.ty x.2) (es'.toList.map (·.val)) →
      (Instr.mapUpdate mt (.map (some b)) (KK.enc k) (a.eval z)).run P w = .ok () { w with heap := w.heap.setIfInBounds b (.map es' clock') } →
      Oper.wpIn fr.kd.fence 0 P ⟨none, .mapUpdate mt x y z, t, p, e, none⟩ a w (fun a' w' => ∃ v', a' = a.put none v' ∧ Fx.left { d := none, S := [tg], sets := [(tg, .mp KK.enc V (mput kvs k v))], rs := opR x ++ (opR y ++ opR z), rt := [tg] } w M w' v') (fun _ _ _ => False) := by
    intro es' clock' hk' hd' hrun
    have hr : (execOp a.eval ⟨none, .mapUpdate mt x y z, t, p, e, none⟩).run P w = .ok .skip { w with heap := w.heap.setIfInBounds b (.map es' clock') } := by
      simp only [execOp, e1, hk _ _ _ hyd]
      simp [hrun]
    refine wp_in_skip hr ?_
    have le : Le (· ∈ [tg]) (· ∈ ([] : List Nat)) w M { w with heap := w.heap.setIfInBounds b (.map es' clock') } M := by
      refine ⟨by simp, rfl, rfl, rfl, fun b2 hlt hm2 => ⟨hm2, ?_⟩, fun b2 u hm2 _ => ⟨hm2, fun hs => ?_⟩⟩
      · have : b ≠ b2 := fun h => by subst h; rw [e2] at hm2; cases hm2
        simp [Array.getElem?_setIfInBounds, this]
      · have : b ≠ b2 := fun h => by subst h; rw [e2] at hm2; injection hm2 with hm2; exact hs (by simp [hm2])
        simp [Array.getElem?_setIfInBounds, this]
    refine ⟨undef, rfl, M, ⟨fun b2 u h => by simpa using wf.lt b2 u h, wf.inj, wf.amb.le le⟩, le, trivial, fun x hx => ?_⟩
    rw [List.mem_singleton.1 hx]
    refine ⟨b, e2, es', clock', by simp [hblt], hk', ?_⟩
    refine dens_mono le (fun _ _ => by simp) (fun u hu => ?_) hd'
    simp only [cdepsOf, List.mem_flatMap, List.mem_map] at hu
    obtain ⟨t', ⟨x', _, rfl⟩, hu⟩ := hu
    rw [(V.nodeps x'.2).2] at hu; cases hu
  rcases run_find KK h4 h5 k with ⟨i, v0, en, hi, hg, hen, hkey, hd, hf⟩ | ⟨hi, hg, hf⟩
  · obtain ⟨v1, hv1, _, hput⟩ := mget_pos kvs k i hi
    have hil : i < es.size := (Array.getElem?_eq_some_iff.1 hen).1
    refine fin (es.modify i fun e => { e with key := KK.enc k, val := a.eval z }) clock ?_ ?_ ?_
    · rw [hput, List.map_set]
      have : (es.modify i fun e => { e with key := KK.enc k, val := a.eval z }).toList = es.toList.set i { en with key := KK.enc k, val := a.eval z } := by
        rw [Array.toList_modify, List.modify_eq_set, Array.getElem?_toList, hen]; rfl
      rw [this, List.map_set, h4]
    · rw [hput, List.map_set]
      have : (es.modify i fun e => { e with key := KK.enc k, val := a.eval z }).toList = es.toList.set i { en with key := KK.enc k, val := a.eval z } := by
        rw [Array.toList_modify, List.modify_eq_set, Array.getElem?_toList, hen]; rfl
      rw [this, List.map_set]
      exact dens_set h5 hzd
    · simp [Instr.mapUpdate, underlying, hu, getObj, setObj, Sem.run, h3, KK.check, hf, hen, hkey, Instr.keyThatStays, KK.same]
  · obtain ⟨_, hput⟩ := mget_none kvs k hi
    refine fin (es.push { key := KK.enc k, val := a.eval z, born := clock }) (clock + 1) ?_ ?_ ?_
    · rw [hput]; simp [h4]
    · rw [hput]; simp only [Array.toList_push, List.map_append, List.map_cons, List.map_nil]
      exact dens_append h5 ⟨hzd, trivial⟩
    · simp [Instr.mapUpdate, underlying, hu, getObj, setObj, Sem.run, h3, KK.check, hf]
end
section
variable {P : Program} {fr : Fr} {A : As} {Q : Exit → Act → World → Prop} {c : Code} {κ β : Type} [DecidableEq κ]
end
end Go.T

namespace Go.T
open Go Go.RowKit
def Zt : Nat := 1000000
def ZOk (M : Tags) : Prop := ∀ b u, M b = some u → Zt ≤ u → u = Zt + b
def Cb (J : World → Tags → Prop) : Prop := ∀ w M w' M', Wf w' M' → Le (fun t => Zt ≤ t) (fun t => Zt ≤ t) w M w' M' → J w M → J w' M'
def Yld (P : Program) (l : Nat) (encs : List (List Ty)) (J : Nat → World → Tags → Prop) (Jx : World → Tags → Prop) : Prop :=
  ∀ (k : Nat) (tys : List Ty), encs[k]? = some tys → ∀ w M vs, Wf w M → ZOk M → J k w M → dens w M tys vs →
    YieldAt Fence.wide 0 P l vs.toArray w fun e w' => ∃ M', Wf w' M' ∧ ZOk M' ∧ Le (fun t => t < Zt) (fun t => t < Zt) w M w' M' ∧ ((e = .returned (.bool true) ∧ J (k + 1) w' M') ∨ (e = .returned (.bool false) ∧ Jx w' M'))
section
variable {P : Program} {fr : Fr} {ops : Array Oper} {A : As} {rest : List Oper} {K : As → List (As × Fx) → Prop} {d : Nat} {t : TypeId} {p : String} {e : Array Edge} {Q : Exit → Act → World → Prop}
theorem tops_app {rest : List Oper} : ∀ (l : List Oper) (A : As) (K : As → List (As × Fx) → Prop) (a : Act) (w : World), TOps P fr ops l A K → A.holds fr a w →
    (∀ A' s a w, K A' s → A'.holds fr a w → wpListIn fr.kd.fence 0 P ops Q rest a w) → wpListIn fr.kd.fence 0 P ops Q (l ++ rest) a w
  | [], A, K, a, w, h, ha, hk => hk A [] a w h ha
  | o :: l, A, K, a, w, ⟨f, ⟨hd, hsets, hS, hK, hop⟩, hrest⟩, ⟨M, ok, hs, ht⟩, hk => by
    have h := hop a w M ok.wf ok.size (fun c _ hc => hs c hc) (fun x hx _ => ht x hx)
    rw [List.cons_append]
    unfold wpListIn
    split
    · rename_i hw
      rw [if_pos hw] at h
      refine Oper.wp_weaken (fun a' w' ⟨v, e, hl⟩ => ?_) h
      subst e
      rw [← hd]
      exact tops_app l _ _ _ _ hrest (holds_after hS hK ok hs ht hl) fun A' s a w hk' hA => hk A' _ a w hk' hA
    · rename_i hw
      rw [if_neg hw] at h
      refine ⟨fun f _ => fr.kd.fn_true f, ?_⟩
      rw [← hd]
      exact tops_app l _ _ _ _ hrest (holds_after hS hK ok hs ht h) fun A' s a w hk' hA => hk A' _ a w hk' hA
theorem opT_on {op : Op} {dst : Option Nat} {j s : Nat} {want : Bool} {f : Fx} (hs : dstOf ops j = some s) (hn : Nat.blt s fr.n = true) (hc : A.slots s = .bool want) (h1 : OpT P fr ops ⟨dst, op, t, p, e, none⟩ A f) :
    OpT P fr ops ⟨dst, op, t, p, e, some (j, want)⟩ A { f with rs := s :: f.rs } := by
  obtain ⟨hd, hsets, hS, hK, hop⟩ := h1
  refine ⟨hd, hsets, hS, hK, fun a w M wf hsz hrd htg => ?_⟩
  have hv := hrd s List.mem_cons_self (by simpa using hn)
  rw [hc] at hv
  have hy := yielded_bool (ops := ops) hs (by rw [hsz]; simpa using hn) hv
  have hw : Region.wanted ⟨dst, op, t, p, e, some (j, want)⟩ (yielded ops a.tmps) = true := by simp [Region.wanted, hy]
  have h := hop a w M wf hsz (fun c hc => hrd c (List.mem_cons_of_mem _ hc)) htg
  rw [if_pos (by simp [Region.wanted])] at h
  rw [if_pos hw]
  exact h
theorem r_on {op : Op} {dst : Option Nat} {j s : Nat} {want : Bool} {f : Fx} (hs : dstOf ops j = some s) (hn : Nat.blt s fr.n = true) (hc : A.slots s = .bool want) (h1 : OpT P fr ops ⟨dst, op, t, p, e, none⟩ A f)
    (h : TOps P fr ops rest (A.after f) fun A' l' => K A' ((A, { f with rs := s :: f.rs }) :: l')) : TOps P fr ops (⟨dst, op, t, p, e, some (j, want)⟩ :: rest) A K := ⟨_, opT_on hs hn hc h1, h⟩
theorem r_off {op : Op} {j s : Nat} {want c : Bool} (hs : dstOf ops j = some s) (hn : Nat.blt s fr.n = true) (hc : A.slots s = .bool c) (hne : (c == want) = false)
    (h : TOps P fr ops rest (A.set d (.ex undef)) fun A' l' => K A' ((A, { d := some d, ty := .ex undef, rs := [s] }) :: l')) : TOps P fr ops (⟨some d, op, t, p, e, some (j, want)⟩ :: rest) A K := by
  refine ⟨{ d := some d, ty := .ex undef, rs := [s] }, ⟨rfl, (by simp), (by simp), (by simp), fun a w M wf hsz hrd htg => ?_⟩, h⟩
  have hv := hrd s List.mem_cons_self (by simpa using hn)
  rw [hc] at hv
  have hy := yielded_bool (ops := ops) hs (by rw [hsz]; simpa using hn) hv
  have hw : Region.wanted ⟨some d, op, t, p, e, some (j, want)⟩ (yielded ops a.tmps) = false := by
    simp only [Region.wanted, hy]
    cases c <;> cases want <;> simp_all
  rw [if_neg (by rw [hw]; simp)]
  exact ⟨M, wf, Le.refl _ _ _ _, rfl, by simp⟩
def yv (l : Nat) : Value := .func (.yield l) #[] #[]
end
def iterPost (n : Nat) (J : Nat → World → Tags → Prop) (Jx : World → Tags → Prop) (resD resS : Ty) (e : Ending) (w' : World) : Prop :=
  ∃ r M', e = .returned r ∧ Wf w' M' ∧ ZOk M' ∧ ((resD.den w' M' r ∧ J n w' M') ∨ (resS.den w' M' r ∧ Jx w' M'))
section
variable {P : Program} {A : As}
variable {fn : Func} {n m : Nat} {w0 : World} {M0 : Tags} {J : Nat → World → Tags → Prop} {Jx : World → Tags → Prop} {resD resS : Ty}
end
end Go.T

namespace Go.T
open Go Go.RowKit
theorem Zt_pos : 1 ≤ Zt := by decide
def foldZ (M : Tags) : Tags := fun b => match M b with | none => none | some t => if Zt ≤ t then some 0 else some t
theorem foldZ_none {M : Tags} {b : Nat} (h : M b = none) : foldZ M b = none := by simp [foldZ, h]
theorem foldZ_lt {M : Tags} {b t : Nat} (h : M b = some t) (ht : t < Zt) : foldZ M b = some t := by
  have : ¬ Zt ≤ t := by omega
  simp [foldZ, h, this]
theorem foldZ_ge {M : Tags} {b t : Nat} (h : M b = some t) (ht : Zt ≤ t) : foldZ M b = some 0 := by simp [foldZ, h, ht]
theorem foldZ_some {M : Tags} {b t : Nat} (h : foldZ M b = some (t + 1)) : M b = some (t + 1) ∧ t + 1 < Zt := by
  unfold foldZ at h
  split at h
  · cases h
  · rename_i u hu
    split at h
    · cases h
    · injection h with h; subst h; exact ⟨hu, by omega⟩
theorem foldZ_wf {w : World} {M : Tags} (wf : Wf w M) : Wf w (foldZ M) :=
  ⟨fun b t h => by
    cases hm : M b with
    | none => rw [foldZ_none hm] at h; cases h
    | some u => exact wf.lt b u hm, fun b b' t ht1 h h' => wf.inj b b' t ht1 (foldZ_some h).1 (foldZ_some h').1, wf.amb.same fun b h => foldZ_none h⟩
theorem foldZ_u {M : Tags} {b u : Nat} (h : foldZ M b = some u) : u < Zt := by
  unfold foldZ at h
  split at h
  · cases h
  · split at h
    · injection h with h; subst h; decide
    · injection h with h; omega
def pinOk (n : Nat) (pass : List Nat) (s : Nat → Ty) : Bool := (List.range n).all fun c => (s c).cdeps.isEmpty && (s c).deps.all fun t => pass.contains t
def passOk (l l' : List Nat) : Bool := l.all (fun t => l'.contains t) && l'.all fun t => Nat.ble 1 t && Nat.blt t 1000000
def inZ (l : List Nat) : Bool := l.all fun t => Nat.ble 1 t && Nat.blt t 1000000
def tagsOk (l : List (Nat × Cont)) : Bool := l.all fun x => Nat.ble 1 x.1 && (Nat.blt x.1 1000000 && (inZ x.2.deps && inZ x.2.cdeps))
theorem inZ_spec {l : List Nat} (h : inZ l = true) : ∀ t ∈ l, 1 ≤ t ∧ t < Zt := by
  intro t ht
  simp only [inZ, List.all_eq_true, Bool.and_eq_true, Nat.ble_eq, Nat.blt_eq] at h
  exact h t ht
theorem tagsOk_spec {l : List (Nat × Cont)} (h : tagsOk l = true) : ∀ x ∈ l, (1 ≤ x.1 ∧ x.1 < Zt) ∧ (∀ t ∈ x.2.deps, 1 ≤ t ∧ t < Zt) ∧ ∀ t ∈ x.2.cdeps, 1 ≤ t ∧ t < Zt := by
  intro x hx
  simp only [tagsOk, List.all_eq_true, Bool.and_eq_true, Nat.ble_eq, Nat.blt_eq] at h
  obtain ⟨h1, h2, h3, h4⟩ := h x hx
  exact ⟨⟨h1, h2⟩, inZ_spec h3, inZ_spec h4⟩
theorem pinOk_spec {n : Nat} {pass : List Nat} {s : Nat → Ty} (h : pinOk n pass s = true) : ∀ c, c < n → (s c).cdeps = [] ∧ ∀ t ∈ (s c).deps, t ∈ pass := by
  intro c hc
  simp only [pinOk, List.all_eq_true, Bool.and_eq_true, List.mem_range, List.isEmpty_iff, List.contains_iff_mem] at h
  exact h c hc
theorem passOk_spec {l l' : List Nat} (h : passOk l l' = true) : (∀ t ∈ l, t ∈ l') ∧ ∀ t ∈ l', 1 ≤ t ∧ t < Zt := by
  simp only [passOk, Bool.and_eq_true, List.all_eq_true, List.contains_iff_mem, Nat.ble_eq, Nat.blt_eq] at h
  exact ⟨h.1, h.2⟩
theorem fold_den {w : World} {M : Tags} {n : Nat} : ∀ (l : List (Nat × Ty)) (vs : List Value) (tm : Array Value) (s : Nat → Ty), (l.map Prod.fst).Nodup → tm.size = n → (∀ c, c < n → (s c).den w M (tm.getD c undef)) → dens w M (l.map Prod.snd) vs →
    (((l.map Prod.fst).zip vs).foldl (fun t (p, v) => t.setIfInBounds p v) tm).size = n ∧ ∀ c, c < n → (setL l s c).den w M ((((l.map Prod.fst).zip vs).foldl (fun t (p, v) => t.setIfInBounds p v) tm).getD c undef)
  | [], [], tm, s, _, hsz, hs, _ => ⟨hsz, hs⟩
  | (d, ty) :: l, v :: vs, tm, s, hnd, hsz, hs, ⟨hv, hvs⟩ => by
    simp only [List.map_cons, List.nodup_cons] at hnd
    have hs' : ∀ c, c < n → ((fun i => bif Nat.beq i d then ty else s i) c).den w M ((tm.setIfInBounds d v).getD c undef) := fun c hc => by
      simp only [Array.getD_eq_getD_getElem?, Array.getElem?_setIfInBounds]
      by_cases e : d = c
      · subst e; simpa [hsz, hc] using hv
      · have e' : Nat.beq c d = false := by cases h : Nat.beq c d with | false => rfl | true => exact absurd (Nat.eq_of_beq_eq_true h).symm e
        simpa [e, e', Array.getD_eq_getD_getElem?] using hs c hc
    obtain ⟨h1, h2⟩ := fold_den l vs (tm.setIfInBounds d v) (fun i => bif Nat.beq i d then ty else s i) hnd.2 (by simpa using hsz) hs' hvs
    have hset : ∀ c, setL ((d, ty) :: l) s c = setL l (fun i => bif Nat.beq i d then ty else s i) c := by
      intro c
      have hl : ∀ (l : List (Nat × Ty)) (s s' : Nat → Ty), (∀ i, i = c → i ∉ l.map Prod.fst → s i = s' i) → setL l s c = setL l s' c := by
        intro l
        induction l with
        | nil => intro s s' h; exact h c rfl (by simp)
        | cons x l ih =>
          intro s s' h
          simp only [setL]
          cases hb : Nat.beq c x.1 with
          | true => rfl
          | false =>
            simp only [cond_false]
            refine ih s s' fun i hi hm => h i hi fun hm' => ?_
            rw [List.map_cons] at hm'
            rcases List.mem_cons.1 hm' with h1 | h1
            · rw [← h1, hi] at hb; simp at hb
            · exact hm h1
      simp only [setL]
      by_cases e : c = d
      · subst e
        have hb : Nat.beq c c = true := by simp
        rw [hb, cond_true]
        have : ∀ (l : List (Nat × Ty)) (s : Nat → Ty), c ∉ l.map Prod.fst → setL l s c = s c := by
          intro l
          induction l with
          | nil => intro s _; rfl
          | cons x l ih =>
            intro s h
            simp only [List.map_cons, List.mem_cons, not_or] at h
            have hb : Nat.beq c x.1 = false := by cases hb : Nat.beq c x.1 with | false => rfl | true => exact absurd (Nat.eq_of_beq_eq_true hb) h.1
            simp only [setL, hb, cond_false]
            exact ih s h.2
        rw [this l _ hnd.1]
        simp
      · have hb : Nat.beq c d = false := by cases hb : Nat.beq c d with | false => rfl | true => exact absurd (Nat.eq_of_beq_eq_true hb) e
        rw [hb, cond_false]
        exact hl l _ _ fun i hi _ => by subst hi; simp [hb]
    refine ⟨h1, fun c hc => ?_⟩
    rw [hset]; exact h2 c hc
def anyT : Nat → Ty := fun _ => Ty.any
def roundQ (fr : Fr) (B : List (Nat × Cont)) (br : Bool) (tr : List (Nat × Cont)) : Exit → Act → World → Prop
  | .normal, a, w => As.holds fr ⟨anyT, B⟩ a w
  | .ret, a, w => br = true ∧ As.holds fr ⟨anyT, tr⟩ a w
  | _, _, _ => False
theorem q_normal {fr : Fr} {A : As} {B : List (Nat × Cont)} {br : Bool} {tr : List (Nat × Cont)} (h : Ent fr A ⟨anyT, B⟩) : Into fr A (roundQ fr B br tr .normal) := fun _ _ ha => h.holds ha
theorem q_ret {fr : Fr} {A : As} {B : List (Nat × Cont)} {tr : List (Nat × Cont)} (h : Ent fr A ⟨anyT, tr⟩) : Into fr A (roundQ fr B true tr .ret) := fun _ _ ha => ⟨rfl, h.holds ha⟩
def RoundT (P : Program) (n : Nat) (pass : List Nat) (assign body : Code) (A : As) (B : List (Nat × Cont)) (br : Bool) (tr : List (Nat × Cont)) : Prop :=
  ∃ A1 : As, (∀ l w M, Tri P ⟨n, w, M, pass, .round l⟩ assign A (Exit.then (fun a w' => A1.holds ⟨n, w, M, pass, .round l⟩ a w') fun _ _ _ => False)) ∧
    ∀ l w M, Tri P ⟨n, w, M, pass, .round l⟩ body (A1.after { d := none, S := [0] }) (roundQ ⟨n, w, M, pass, .round l⟩ B br tr)
section
variable {P : Program} {fr : Fr} {A : As} {Q : Exit → Act → World → Prop}
theorem base_put {w : World} {M : Tags} {l : Nat} {o : Obj} (h0 : fr.w0.heap.size ≤ l) (h1 : ∀ t, ¬ (1 ≤ t ∧ t ∉ fr.pass) → fr.M0 l ≠ some t) (hb : fr.base w M) : fr.base (w.putObj l o) M := by
  refine ⟨by simpa using hb.size, hb.os, hb.tape, hb.out, fun b hlt hm => ⟨(hb.pub b hlt hm).1, ?_⟩, fun b t hm hk => ⟨(hb.own b t hm hk).1, fun hs => ?_⟩⟩
  · rw [World.putObj_heap_other (by omega)]; exact (hb.pub b hlt hm).2
  · rw [World.putObj_heap_other (fun e => h1 t hk (by rw [← e]; exact hm))]; exact (hb.own b t hm hk).2 hs
theorem le_put0 {w : World} {M : Tags} {l : Nat} {o : Obj} (hl : M l = some 0) : Le (· ∈ [0]) (· ∈ ([] : List Nat)) w M (w.putObj l o) M := by
  refine ⟨by simp, rfl, rfl, rfl, fun b hb hm => ⟨hm, World.putObj_heap_other fun e => by rw [e, hl] at hm; cases hm⟩, fun b t hm _ => ⟨hm, fun hs => World.putObj_heap_other fun e => ?_⟩⟩
  rw [e, hl] at hm; injection hm with hm; exact hs (by simp [hm])
def JJ (fr : Fr) (s : Nat → Ty) (tm : Array Value) (ds : List Deferred) (l : Nat) (r : Loop) (tg : List (Nat × Cont)) (w : World) (M : Tags) : Prop :=
  fr.base w M ∧ (∀ c, c < fr.n → (s c).den w M (tm.getD c undef)) ∧ (∀ x ∈ tg, x.2.den w M x.1) ∧ M l = some 0 ∧ w.heap[l]? = some (.loop r) ∧ Defs fr w M ds
theorem JJ_cb {s : Nat → Ty} {tm : Array Value} {ds : List Deferred} {l : Nat} {r : Loop} {tg : List (Nat × Cont)} {pass' : List Nat} (hpass : passOk fr.pass pass' = true) (hs : pinOk fr.n pass' s = true) (ht : tagsOk tg = true) : Cb (JJ fr s tm ds l r tg) := by
  intro w M w' M' wf' le ⟨h1, h2, h3, h4, h5, h6⟩
  obtain ⟨hp1, hp2⟩ := passOk_spec hpass
  obtain ⟨a, c⟩ := le.own l 0 h4 (by decide)
  refine ⟨Fr.base_step h1 (fun t ht => Nat.le_trans Zt_pos ht) (fun t ht => ⟨Nat.le_trans Zt_pos ht, fun hm => by have := (hp2 t (hp1 t hm)).2; omega⟩) le, fun c hc => ?_, fun x hx => ?_, a, (c (by decide)).trans h5, h6.step (fun t ht => Nat.le_trans Zt_pos ht) (fun t ht => Nat.le_trans Zt_pos ht) le⟩
  · obtain ⟨e1, e2⟩ := pinOk_spec hs c hc
    exact (s c).mono le (fun t ht hz => by have := (hp2 t (e2 t ht)).2; omega) (by rw [e1]; intro _ h; cases h) (h2 c hc)
  · obtain ⟨⟨_, e2⟩, e3, e4⟩ := tagsOk_spec ht x hx
    exact x.2.mono le (fun t ht hz => by have := (e3 t ht).2; omega) (fun t ht hz => by have := (e4 t ht).2; omega) (by omega) (by omega) (h3 x hx)
def backZ (w : World) (M M3 : Tags) : Tags := fun b => match M b with | some u => if b < w.heap.size ∧ Zt ≤ u then some u else foldZ M3 b | none => foldZ M3 b
theorem round_end {s : Nat → Ty} {tm : Array Value} {ds : List Deferred} {l : Nat} {r r3 r4 : Loop} {tg0 tg : List (Nat × Cont)} {pass' : List Nat} (hpass : passOk fr.pass pass' = true) (hs : pinOk fr.n pass' s = true) (ht : tagsOk tg = true) (hkd : fr.kd = .marks)
    (h0 : fr.w0.heap.size ≤ l) (h1 : ∀ t, ¬ (1 ≤ t ∧ t ∉ fr.pass) → fr.M0 l ≠ some t)
    {w w1 w3 : World} {M M1 M3 : Tags} (wf : Wf w M) (z : ZOk M) (hj : JJ fr s tm ds l r tg0 w M)
    (le1 : Le (fun t => 1 ≤ t) (fun t => 1 ≤ t ∧ t ∉ pass') w (foldZ M) w1 M1) (wf3 : Wf w3 M3) (le3 : Le (fun t => 1 ≤ t) (fun t => 1 ≤ t ∧ t ∉ pass') (w1.putObj l (.loop r3)) M1 w3 M3)
    (htg : ∀ x ∈ tg, x.2.den w3 M3 x.1) :
    w3.heap[l]? = some (.loop r3) ∧ ∃ M4, Wf (w3.putObj l (.loop r4)) M4 ∧ ZOk M4 ∧ Le (fun t => t < Zt) (fun t => t < Zt) w M (w3.putObj l (.loop r4)) M4 ∧ JJ fr s tm ds l r4 tg (w3.putObj l (.loop r4)) M4 := by
  obtain ⟨hb, hsl, _, hl, hrec, hdef⟩ := hj
  obtain ⟨hp1, hp2⟩ := passOk_spec hpass
  have hlt : l < w.heap.size := wf.lt l 0 hl
  have hZ : (1 : Nat) ≤ Zt := by decide
  -- a block whose tag is 0, or another one that stays
  have zero : ∀ b, foldZ M b = some 0 → M3 b = some 0 ∧ (b ≠ l → w3.heap[b]? = w.heap[b]?) := fun b h => by
    obtain ⟨a, c⟩ := le1.own b 0 h (by omega)
    obtain ⟨a', c'⟩ := le3.own b 0 a (by omega)
    exact ⟨a', fun e => (c' (by omega)).trans ((World.putObj_heap_other e).trans (c (by omega)))⟩
  have pas : ∀ b t, t ∈ pass' → M b = some t → M3 b = some t := fun b t hm h => by
    obtain ⟨a, _⟩ := le1.own b t (foldZ_lt h (hp2 t hm).2) (fun h => h.2 hm)
    exact (le3.own b t a fun h => h.2 hm).1
  have pub : ∀ b, b < w.heap.size → M b = none → M3 b = none ∧ w3.heap[b]? = w.heap[b]? := fun b hb h => by
    obtain ⟨a, c⟩ := le1.pub b hb (foldZ_none h)
    obtain ⟨a', c'⟩ := le3.pub b (by simpa using Nat.lt_of_lt_of_le hb le1.size) a
    exact ⟨a', c'.trans ((World.putObj_heap_other fun e => by rw [e, hl] at h; cases h).trans c)⟩
  have hl0 : foldZ M l = some 0 := foldZ_lt hl (by decide)
  have hM1l := (le1.own l 0 hl0 (by omega)).1
  have hl1 : l < w1.heap.size := Nat.lt_of_lt_of_le hlt le1.size
  have hrec3 : w3.heap[l]? = some (.loop r3) := ((le3.own l 0 hM1l (by omega)).2 (by omega)).trans (World.putObj_heap_same hl1)
  have hM3l := (zero l hl0).1
  have hsz3 : w.heap.size ≤ w3.heap.size := Nat.le_trans le1.size (by simpa using le3.size)
  refine ⟨hrec3, backZ w M M3, ?_⟩
  -- how the tags are
  have kept : ∀ b u, M b = some u → Zt ≤ u → backZ w M M3 b = some u := fun b u h hu => by
    unfold backZ; rw [h]; simp [wf.lt b u h, hu]
  have other : ∀ b, (∀ u, M b = some u → u < Zt) → backZ w M M3 b = foldZ M3 b := fun b h => by
    unfold backZ
    cases hm : M b with
    | none => rfl
    | some u => have := h u hm; simp only; rw [if_neg (by omega)]
  have from3 : ∀ b t, M3 b = some t → 1 ≤ t → ∀ u, M b = some u → u < Zt := fun b t h h1 u hu => by
    rcases Nat.lt_or_ge u Zt with h2 | h2
    · exact h2
    · have := (zero b (foldZ_ge hu h2)).1
      rw [this] at h; injection h with h; omega
  have none3 : ∀ b, M3 b = none → ∀ u, M b = some u → u < Zt := fun b h u hu => by
    rcases Nat.lt_or_ge u Zt with h2 | h2
    · exact h2
    · have := (zero b (foldZ_ge hu h2)).1
      rw [this] at h; cases h
  have zok : ZOk (backZ w M M3) := fun b u h hu => by
    unfold backZ at h
    split at h
    · rename_i v hv
      split at h
      · injection h with h; subst h; exact z b v hv hu
      · have := foldZ_u h; omega
    · have := foldZ_u h; omega
  have wf4 : Wf (w3.putObj l (.loop r4)) (backZ w M M3) := by
    refine ⟨fun b t h => ?_, fun b b' t ht1 h h' => ?_, fun x hx => ⟨by unfold backZ; rw [(wf.amb x hx).1]; exact foldZ_none (wf3.amb x hx).1, (wf3.amb.le (le_put0 (o := .loop r4) hM3l) x hx).2⟩⟩
    · rw [World.putObj_size]
      unfold backZ at h
      split at h
      · split at h
        · rename_i hc; exact Nat.lt_of_lt_of_le hc.1 hsz3
        · exact (foldZ_wf wf3).lt b t h
      · exact (foldZ_wf wf3).lt b t h
    · by_cases hz : Zt ≤ t + 1
      · have e1 := zok b _ h hz
        have e2 := zok b' _ h' hz
        omega
      · have part : ∀ b, backZ w M M3 b = some (t + 1) → M3 b = some (t + 1) := fun b h => by
          unfold backZ at h
          split at h
          · split at h
            · injection h with h; omega
            · exact (foldZ_some h).1
          · exact (foldZ_some h).1
        exact wf3.inj b b' t ht1 (part b h) (part b' h')
  have le0 : Le (· ∈ [0]) (· ∈ ([] : List Nat)) w3 M3 (w3.putObj l (.loop r4)) M3 := le_put0 hM3l
  have leZ : Le (fun t => t < Zt) (fun t => t < Zt) w M (w3.putObj l (.loop r4)) (backZ w M M3) := by
    refine ⟨by simpa using hsz3, (le0.os.trans (le3.os.trans le1.os)), (le0.tape.trans (le3.tape.trans le1.tape)), (le0.out.trans (le3.out.trans le1.out)), fun b hb hm => ?_, fun b t hm ht => ⟨kept b t hm (by omega), fun _ => ?_⟩⟩
    · obtain ⟨a, c⟩ := pub b hb hm
      refine ⟨by rw [other b (fun u hu => by rw [hm] at hu; cases hu)]; exact foldZ_none a, ?_⟩
      rw [World.putObj_heap_other fun e => by rw [e, hl] at hm; cases hm]; exact c
    · have hbl : b ≠ l := fun e => by rw [e, hl] at hm; injection hm with hm; omega
      rw [World.putObj_heap_other hbl]
      exact (zero b (foldZ_ge hm (by omega))).2 hbl
  refine ⟨wf4, zok, leZ, ?_, fun c hc => ?_, fun x hx => ?_, ?_, World.putObj_heap_same (Nat.lt_of_lt_of_le hlt hsz3), ?_⟩
  · refine ⟨Nat.le_trans hb.size leZ.size, leZ.os.trans hb.os, leZ.tape.trans hb.tape, leZ.out.trans hb.out, fun b hlt' hm => ?_, fun b t hm hk => ?_⟩
    · obtain ⟨a, c⟩ := hb.pub b hlt' hm
      obtain ⟨a', c'⟩ := leZ.pub b (Nat.lt_of_lt_of_le hlt' hb.size) a
      exact ⟨a', c'.trans c⟩
    · obtain ⟨a, c⟩ := hb.own b t hm hk
      have hbl : b ≠ l := fun e => h1 t hk (e ▸ hm)
      by_cases ht0 : t = 0
      · subst ht0
        obtain ⟨a', c'⟩ := zero b (foldZ_lt a (by decide))
        refine ⟨by rw [other b (fun u hu => by rw [a] at hu; injection hu with hu; omega)]; exact foldZ_lt a' (by decide), fun hs => ?_⟩
        rw [World.putObj_heap_other hbl]; exact (c' hbl).trans (c hs)
      · have htp : t ∈ fr.pass := Classical.byContradiction fun h => hk ⟨by omega, h⟩
        have htp' := hp1 t htp
        refine ⟨by rw [other b (fun u hu => by rw [a] at hu; injection hu with hu; have := (hp2 t htp').2; omega)]; exact foldZ_lt (pas b t htp' a) (hp2 t htp').2, fun hs => absurd (FK.canS_of (k := fr.kd) (by omega : 1 ≤ t)) hs⟩
  · obtain ⟨e1, e2⟩ := pinOk_spec hs c hc
    refine (s c).mono (S := fun _ => True) (K := fun t => t ∉ pass') ⟨leZ.size, leZ.os, leZ.tape, leZ.out, leZ.pub, fun b t hm hk => ⟨?_, fun h => absurd trivial h⟩⟩ (fun t ht h => h (e2 t ht)) (by rw [e1]; intro _ h; cases h) (hsl c hc)
    have htp : t ∈ pass' := Classical.byContradiction fun h => hk h
    rw [other b (fun u hu => by rw [hm] at hu; injection hu with hu; have := (hp2 t htp).2; omega)]
    exact foldZ_lt (pas b t htp hm) (hp2 t htp).2
  · obtain ⟨⟨g1, g2⟩, e3, e4⟩ := tagsOk_spec ht x hx
    refine x.2.mono (w := w3) (M := M3) (S := fun t => t = 0) (K := fun t => t = 0 ∨ Zt ≤ t) ⟨by simp, rfl, rfl, rfl, fun b hb hm => ⟨?_, ?_⟩, fun b t hm hk => ⟨?_, fun _ => ?_⟩⟩ (fun t ht h => by have := e3 t ht; omega) (fun t ht h => by have := (e4 t ht).1; omega) (by omega) (by omega) (htg x hx)
    · rw [other b (none3 b hm)]; exact foldZ_none hm
    · exact World.putObj_heap_other fun e => by rw [e, hM3l] at hm; cases hm
    · have ht1 : 1 ≤ t := Nat.pos_of_ne_zero fun h => hk (.inl h)
      rw [other b (from3 b t hm ht1)]; exact foldZ_lt hm (Nat.lt_of_not_le fun h => hk (.inr h))
    · exact World.putObj_heap_other fun e => by rw [e, hM3l] at hm; injection hm with hm; exact hk (.inl hm.symm)
  · rw [other l (fun u hu => by rw [hl] at hu; injection hu with hu; omega)]; exact foldZ_lt hM3l (by decide)
  · obtain ⟨rs, e, g1, g2, g3⟩ := hdef
    refine ⟨rs, e, g1, g2, fun q hq => ?_⟩
    obtain ⟨a, b, c⟩ := g3 q hq
    have hql : q ≠ l := fun e => by rw [e, hrec] at c; cases c
    obtain ⟨a', c'⟩ := zero q (foldZ_lt a (by decide))
    refine ⟨by rw [other q (fun u hu => by rw [a] at hu; injection hu with hu; omega)]; exact foldZ_lt a' (by decide), b, ?_⟩
    rw [World.putObj_heap_other hql]; exact (c' hql).trans c
theorem t_rangeFuncT {g : Operand} {ps : List Tmp} {assign body : Code} {gf : FuncId} {caps : List Ty} {encs : List (List Ty)} {resD resS : Ty} (s : Nat → Ty) (tg : Nat → List (Nat × Cont)) (br : Bool) (tr : List (Nat × Cont)) (pass' : List Nat)
    (hkd : fr.kd = .marks) (hg : A.op fr g = .clo gf caps) (hI1 : ∃ fn, P.funcs[gf]? = some fn ∧ (fn.name == "runtime.NumGoroutine") = false ∧ fn.body.isNone = false) (hI2 : ∀ (l : Nat) (J : Nat → World → Tags → Prop) (Jx : World → Tags → Prop) (tm : Array Value), (∀ k, Cb (J k)) → Cb Jx → Yld P l encs J Jx → (∀ k w M, J k w M → (∀ c, c < fr.n → (s c).den w M (tm.getD c undef)) ∧ ∀ x ∈ tg k, x.2.den w M x.1) → ∀ w M vs, Wf w M → ZOk M → dens w M (Ty.ex (yv l) :: caps) vs → J 0 w M → Calls P gf vs.toArray w (iterPost encs.length J Jx resD resS)) (hcd : ∀ t ∈ depsOf caps, t < Zt) (hcc : ∀ t ∈ cdepsOf caps, t < Zt)
    (hps : ps.Nodup) (hlen : ∀ tys ∈ encs, tys.length = ps.length ∧ depsOf tys = [] ∧ cdepsOf tys = []) (hpass : passOk fr.pass pass' = true) (hs : pinOk fr.n pass' s = true) (htg : ∀ k, tagsOk (tg k) = true) (htr : tagsOk tr = true)
    (h0 : Ent fr A ⟨s, tg 0⟩)
    (hround : ∀ k tys, encs[k]? = some tys → RoundT P fr.n pass' assign body ⟨setL (ps.zip tys) s, tg k⟩ (tg (k + 1)) br tr)
    (hdone : Into fr ⟨s, tg encs.length⟩ (Q .normal)) (hret : br = true → Into fr ⟨s, tr⟩ (Q .ret)) :
    Tri P fr (.rangeFunc g ps.toArray assign body) A Q := by
  intro a w ha
  have hfe : fr.kd.fence = Fence.wide := by rw [hkd]; rfl
  rw [hfe]
  obtain ⟨hp1, hp2⟩ := passOk_spec hpass
  have hgv : ∃ cs : Array Value, a.eval g = .func (.func gf) #[] cs ∧ ∃ M, dens w M caps cs.toList := by
    obtain ⟨M, _, hsl, _⟩ := ha
    have := op_den (x := g) (rs := opR g) (fun _ h => h) (fun c _ hn => hsl c hn)
    rw [hg] at this
    obtain ⟨cs, e, hd⟩ := this
    exact ⟨cs, e, M, hd⟩
  obtain ⟨M, ok, hsl0, htg0⟩ := id ha
  have hcs : ∃ cs : Array Value, a.eval g = .func (.func gf) #[] cs ∧ dens w M caps cs.toList := by
    have := op_den (x := g) (rs := opR g) (fun _ h => h) (fun c _ hn => hsl0 c hn)
    rw [hg] at this
    exact this
  obtain ⟨cs, hev, hcaps⟩ := hcs
  have hB0 := h0.holds (a := a) (w := w) ⟨M, ok, hsl0, htg0⟩
  -- the same tags: the assertion that is forgotten down to holds of them, too
  have hslB : ∀ c, c < fr.n → (s c).den w M (a.tmps.getD c undef) := fun c hc => (allSub_get h0.slots c hc) _ _ _ (hsl0 c hc)
  have htgB : ∀ x ∈ tg 0, x.2.den w M x.1 := fun x hx => by
    obtain ⟨C, hC, hsub⟩ := allTags_get h0.tags x hx
    exact hsub _ _ _ (htg0 _ (tag_mem hC))
  have hZ : (1 : Nat) ≤ Zt := by decide
  refine wpIn_rangeFunc fun fn _ => ?_
  obtain ⟨w1, hw1⟩ : ∃ w1, (w.alloc (.deferred (some []))).alloc (.loop { state := .ready, pending := none, fn, tmps := a.tmps, params := ps.toArray, assign, body, defers := w.heap.size }) = w1 := ⟨_, rfl⟩
  refine ⟨w.heap.size + 1, _, w1, { target := .fn (.func gf) cs, args := #[yv (w.heap.size + 1)] }, w1, gf, (yv (w.heap.size + 1) :: cs.toList).toArray, w1, by rw [← hw1]; exact run_enterLoop_outer fn a.tmps ps.toArray assign body, ?_, fun _ _ => trivial, ?_, (fun h => by cases h), ?_⟩
  · simp [resolve, rangeCall, hev, Deferred.ofValue, yv]; rfl
  · obtain ⟨fn', hf, hn, hb⟩ := hI1
    have hn' : fn'.name ≠ "runtime.NumGoroutine" := by simpa using hn
    have hb' : fn'.body ≠ none := fun h => by rw [h] at hb; cases hb
    simp [invoke, callFunc, hf, hn', hb']
  -- the world in which the iterator is called
  have hnone : ∀ b, w.heap.size ≤ b → M b = none := fun b hb => by
    cases hm : M b with
    | none => rfl
    | some t => have := ok.wf.lt b t hm; omega
  have hsz1 : w1.heap.size = w.heap.size + 2 := by rw [← hw1]; simp
  have hD : w1.heap[w.heap.size]? = some (.deferred (some [])) := by
    rw [← hw1]
    show ((w.heap.push _).push _)[w.heap.size]? = _
    rw [Array.getElem?_push, if_neg (by simp), Array.getElem?_push, if_pos rfl]
  have hL : w1.heap[w.heap.size + 1]? = some (.loop { state := .ready, pending := none, fn, tmps := a.tmps, params := ps.toArray, assign, body, defers := w.heap.size }) := by
    rw [← hw1]
    show ((w.heap.push _).push _)[w.heap.size + 1]? = _
    rw [Array.getElem?_push, if_pos (by simp)]
  have hold : ∀ b, b < w.heap.size → w1.heap[b]? = w.heap[b]? := fun b hb => by
    rw [← hw1]
    show ((w.heap.push _).push _)[b]? = _
    rw [Array.getElem?_push, if_neg (by simp; omega), Array.getElem?_push, if_neg (by omega)]
  have hw1os : w1.os = w.os ∧ w1.tape = w.tape ∧ w1.output = w.output := by rw [← hw1]; exact ⟨rfl, rfl, rfl⟩
  have leN : Le (fun t => Zt ≤ t) (fun t => Zt ≤ t) w M w1 (fun b => if b = w.heap.size ∨ b = w.heap.size + 1 then some 0 else foldZ M b) := by
    refine ⟨by omega, hw1os.1, hw1os.2.1, hw1os.2.2, fun b hb hm => ⟨?_, hold b hb⟩, fun b t hm ht => ⟨?_, fun _ => hold b (ok.wf.lt b t hm)⟩⟩
    · rw [if_neg (by omega)]; exact foldZ_none hm
    · have := ok.wf.lt b t hm
      rw [if_neg (by omega)]; exact foldZ_lt hm (Nat.lt_of_not_le ht)
  have wf1 : Wf w1 (fun b => if b = w.heap.size ∨ b = w.heap.size + 1 then some 0 else foldZ M b) := by
    refine ⟨fun b t h => ?_, fun b b' t ht1 h h' => ?_, ok.wf.amb.le leN⟩
    · split at h
      · omega
      · have := (foldZ_wf ok.wf).lt b t h; omega
    · have part : ∀ b, (if b = w.heap.size ∨ b = w.heap.size + 1 then some 0 else foldZ M b) = some (t + 1) → foldZ M b = some (t + 1) := fun b h => by
        split at h
        · cases h
        · exact h
      exact (foldZ_wf ok.wf).inj b b' t ht1 (part b h) (part b' h')
  have z1 : ZOk (fun b => if b = w.heap.size ∨ b = w.heap.size + 1 then some 0 else foldZ M b) := fun b u h hu => by
    simp only at h
    split at h
    · injection h with h; omega
    · have := foldZ_u h; omega
  have hbl0 : fr.w0.heap.size ≤ w.heap.size + 1 := Nat.le_succ_of_le ok.base.size
  have hbl1 : ∀ t, ¬ (1 ≤ t ∧ t ∉ fr.pass) → fr.M0 (w.heap.size + 1) ≠ some t := fun t ht h => by
    have := (ok.base.own _ t h ht).1
    rw [hnone _ (by omega)] at this; cases this
  have defs1 : Defs fr w1 (fun b => if b = w.heap.size ∨ b = w.heap.size + 1 then some 0 else foldZ M b) (markOf w.heap.size :: a.defers) := by
    obtain ⟨rs, e, g1, g2, g3⟩ := ok.defers
    refine ⟨w.heap.size :: rs, by rw [e]; rfl, fun _ => hkd, List.nodup_cons.2 ⟨fun h => ?_, g2⟩, fun q hq => ?_⟩
    · have := ok.wf.lt _ _ (g3 _ h).1; omega
    · rcases List.mem_cons.1 hq with rfl | hq
      · refine ⟨by simp, ⟨ok.base.size, fun t ht h => ?_⟩, hD⟩
        have := (ok.base.own _ t h ht).1
        rw [hnone _ (Nat.le_refl _)] at this; cases this
      · obtain ⟨a1, b1, c1⟩ := g3 q hq
        have := ok.wf.lt _ _ a1
        exact ⟨by simp only; rw [if_neg (by omega)]; exact foldZ_lt a1 (by decide), b1, (hold q this).trans c1⟩
  -- between two rounds
  let R : LoopState → Option Code → Loop := fun st pe => { state := st, pending := pe, fn, tmps := a.tmps, params := ps.toArray, assign, body, defers := w.heap.size }
  let J : Nat → World → Tags → Prop := fun k => JJ fr s a.tmps (markOf w.heap.size :: a.defers) (w.heap.size + 1) (R .ready none) (tg k)
  let Jx : World → Tags → Prop := fun w' M' => br = true ∧ JJ fr s a.tmps (markOf w.heap.size :: a.defers) (w.heap.size + 1) (R .done (some .ret)) tr w' M'
  have hJ : ∀ k, Cb (J k) := fun k => JJ_cb hpass hs (htg k)
  have hJx : Cb Jx := fun w M w' M' wf le ⟨h, hj⟩ => ⟨h, JJ_cb hpass hs htr w M w' M' wf le hj⟩
  have hj0 : J 0 w1 (fun b => if b = w.heap.size ∨ b = w.heap.size + 1 then some 0 else foldZ M b) := by
    refine ⟨Fr.base_step ok.base (fun t ht => by omega) (fun t ht => ⟨by omega, fun hm => by have := (hp2 t (hp1 t hm)).2; omega⟩) leN, fun c hc => ?_, fun x hx => ?_, by simp, hL, defs1⟩
    · obtain ⟨e1, e2⟩ := pinOk_spec hs c hc
      exact (s c).mono leN (fun t ht hz => by have := (hp2 t (e2 t ht)).2; omega) (by rw [e1]; intro _ h; cases h) (hslB c hc)
    · obtain ⟨⟨_, e2⟩, e3, e4⟩ := tagsOk_spec (htg 0) x hx
      exact x.2.mono leN (fun t ht hz => by have := (e3 t ht).2; omega) (fun t ht hz => by have := (e4 t ht).2; omega) (by omega) (by omega) (htgB x hx)
  have hY : Yld P (w.heap.size + 1) encs J Jx := by
    intro k tys hk w2 M2 vs wf2 z2 hj hv
    obtain ⟨jb, jsl, jtg, jl, jrec, jdef⟩ := id hj
    have hvl := dens_len hv
    obtain ⟨htl, hte, htc⟩ := hlen tys (List.mem_of_getElem? hk)
    have hrunY := run_yield (P := P) (args := vs.toArray) jrec (by simp [R]; omega)
    refine ⟨_, _, _, _, hrunY, roundIn_of_wpIn trivial ?_⟩
    obtain ⟨A1, hassign, hbody⟩ := hround k tys hk
    have hzip : (ps.zip tys).map Prod.fst = ps := by rw [List.map_fst_zip (by omega)]
    have hzip2 : (ps.zip tys).map Prod.snd = tys := by rw [List.map_snd_zip (by omega)]
    have conv : ∀ {t : Ty} {v : Value}, (∀ u ∈ t.deps, u < Zt) → t.den w2 M2 v → t.den w2 (foldZ M2) v := fun {t v} hd h =>
      t.mono (S := fun _ => False) (K := fun u => Zt ≤ u) ⟨Nat.le_refl _, rfl, rfl, rfl, fun b _ hm => ⟨foldZ_none hm, rfl⟩, fun b u hm hk => ⟨foldZ_lt hm (Nat.lt_of_not_le hk), fun _ => rfl⟩⟩ (fun u hu hz => by have := hd u hu; omega) (fun _ _ h => h) h
    have convC : ∀ {C : Cont} {t : Nat}, (∀ u ∈ C.deps, u < Zt) → t < Zt → C.den w2 M2 t → C.den w2 (foldZ M2) t := fun {C t} hd ht h =>
      C.mono (S := fun _ => False) (K := fun u => Zt ≤ u) ⟨Nat.le_refl _, rfl, rfl, rfl, fun b _ hm => ⟨foldZ_none hm, rfl⟩, fun b u hm hk => ⟨foldZ_lt hm (Nat.lt_of_not_le hk), fun _ => rfl⟩⟩ (fun u hu hz => by have := hd u hu; omega) (fun _ _ h => h) (fun h => h) (by omega) h
    obtain ⟨fsz, fden⟩ := fold_den (w := w2) (M := foldZ M2) (n := fr.n) (ps.zip tys) vs a.tmps s (by rw [hzip]; exact hps) ok.size (fun c hc => conv (fun u hu => (hp2 u ((pinOk_spec hs c hc).2 u hu)).2) (jsl c hc)) (by rw [hzip2]; exact conv_nodeps (fun b h => foldZ_none h) hte htc hv)
    rw [hzip] at fsz fden
    have htm : ((R .ready none).params.zip vs.toArray).foldl (fun tmps (t, v) => tmps.setIfInBounds t v) a.tmps = (ps.zip vs).foldl (fun t (p, v) => t.setIfInBounds p v) a.tmps := by simp [R]
    have hA0 : As.holds ⟨fr.n, w2, foldZ M2, pass', .round (w.heap.size + 1)⟩ ⟨setL (ps.zip tys) s, tg k⟩ { tmps := ((R .ready none).params.zip vs.toArray).foldl (fun tmps (t, v) => tmps.setIfInBounds t v) a.tmps, defers := [] } w2 := by
      rw [htm]
      exact ⟨foldZ M2, ⟨foldZ_wf wf2, Le.refl _ _ _ _, fsz, Defs.nil⟩, fden, fun x hx => by
        obtain ⟨⟨_, e2⟩, e3, _⟩ := tagsOk_spec (htg k) x hx
        exact convC (fun u hu => (e3 u hu).2) e2 (jtg x hx)⟩
    have h1 := hassign (w.heap.size + 1) w2 (foldZ M2) _ _ hA0
    refine Go.wpIn_mono h1 fun e a1 w3 hq => ?_
    cases e with
    | normal =>
      obtain ⟨M3, ok3, hsl3, htg3⟩ := hq
      obtain ⟨l3, l3'⟩ := ok3.base.own (w.heap.size + 1) 0 (foldZ_lt jl (by decide)) (by simp)
      have rec3 : w3.heap[w.heap.size + 1]? = some (.loop (R .ready none)) := (l3' (by simp [FK.canS])).trans jrec
      refine ⟨_, run_beginRound rec3 rfl, ?_⟩
      have hkill := le_put0 (w := w3) (M := M3) (o := .loop { R .ready none with state := .busy }) l3
      have hb0 : As.holds ⟨fr.n, w3.putObj (w.heap.size + 1) (.loop { R .ready none with state := .busy }), M3, pass', .round (w.heap.size + 1)⟩ (A1.after { d := none, S := [0] }) a1 (w3.putObj (w.heap.size + 1) (.loop { R .ready none with state := .busy })) := by
        refine ⟨M3, ⟨⟨fun b t h => by simpa using ok3.wf.lt b t h, ok3.wf.inj, ok3.wf.amb.le hkill⟩, Le.refl _ _ _ _, ok3.size, by rw [ok3.nodefers (by simp)]; exact Defs.nil⟩, fun c hc => ?_, fun x hx => ?_⟩
        · simp only [As.after, setSlot]
          rcases killSlots_spec [0] [] A1.slots c with ⟨e, hdj⟩ | ⟨_, e⟩
          · rw [e]; exact (A1.slots c).mono hkill (safe_spec hdj).1 (safe_spec hdj).2 (hsl3 c hc)
          · rw [e]; trivial
        · exact killTags_den hkill (by simpa [As.after] using hx) fun y hy _ => htg3 y hy
      have h2 := hbody (w.heap.size + 1) _ M3 _ _ hb0
      refine Go.wpIn_mono h2 fun e a4 w4 hq4 => ?_
      have le1 : Le (fun t => 1 ≤ t) (fun t => 1 ≤ t ∧ t ∉ pass') w2 (foldZ M2) w3 M3 := ok3.base
      cases e with
      | normal =>
        obtain ⟨M4, ok4, _, htg4⟩ := hq4
        obtain ⟨r4, M5, g1, g2, g3, g4⟩ := round_end (r4 := R .ready none) hpass hs (htg (k + 1)) hkd hbl0 hbl1 wf2 z2 hj le1 ok4.wf ok4.base htg4
        exact ⟨_, _, run_endRound none r4, M5, g1, g2, g3, .inl ⟨rfl, g4⟩⟩
      | ret =>
        obtain ⟨hbr, M4, ok4, _, htg4⟩ := hq4
        obtain ⟨r4, M5, g1, g2, g3, g4⟩ := round_end (r4 := R .done (some .ret)) hpass hs htr hkd hbl0 hbl1 wf2 z2 hj le1 ok4.wf ok4.base htg4
        exact ⟨_, _, run_endRound (some .ret) r4, M5, g1, g2, g3, .inr ⟨rfl, hbr, g4⟩⟩
      | exit id => exact hq4.elim
      | goto l => exact hq4.elim
      | panic c => exact hq4.elim
      | outgrown => exact hq4.elim
    | ret => exact hq.elim
    | exit id => exact hq.elim
    | goto l => exact hq.elim
    | panic c => exact hq.elim
    | outgrown => exact hq.elim
  have fin : ∀ (r : Loop) (tgs : List (Nat × Cont)) (w' : World) (M' : Tags) (o : Obj), tagsOk tgs = true → Wf w' M' → JJ fr s a.tmps (markOf w.heap.size :: a.defers) (w.heap.size + 1) r tgs w' M' → As.holds fr ⟨s, tgs⟩ { tmps := a.tmps, defers := [{ target := .collected w.heap.size, args := #[] }] ++ a.defers } (w'.putObj (w.heap.size + 1) o) := by
    intro r tgs w' M' o hok wf' ⟨jb, jsl, jtg, jl, jrec, jdef⟩
    have hk0 := le_put0 (w := w') (M := M') (o := o) jl
    refine ⟨M', ⟨⟨fun b t h => by simpa using wf'.lt b t h, wf'.inj, wf'.amb.le hk0⟩, base_put hbl0 hbl1 jb, ok.size, ?_⟩, fun c hc => ?_, fun x hx => ?_⟩
    · obtain ⟨rs, e, g1, g2, g3⟩ := jdef
      refine ⟨rs, e, g1, g2, fun q hq => ?_⟩
      obtain ⟨a1, b1, c1⟩ := g3 q hq
      exact ⟨a1, b1, by rw [World.putObj_heap_other fun e => by rw [e, jrec] at c1; cases c1]; exact c1⟩
    · obtain ⟨e1, e2⟩ := pinOk_spec hs c hc
      exact (s c).mono hk0 (fun _ _ h => by cases h) (by rw [e1]; intro _ h; cases h) (jsl c hc)
    · obtain ⟨⟨e1, e2⟩, e3, e4⟩ := tagsOk_spec hok x hx
      exact x.2.mono hk0 (fun _ _ h => by cases h) (fun t ht h => by have := (e4 t ht).1; rw [List.mem_singleton.1 h] at this; omega) (fun h => by rw [List.mem_singleton.1 h] at e1; omega) (fun h => by cases h) (jtg x hx)
  refine CallsIn.mono (callsIn_wide.2 (hI2 (w.heap.size + 1) J Jx a.tmps hJ hJx hY (fun k w M hj => ⟨hj.2.1, hj.2.2.1⟩) w1 _ (yv (w.heap.size + 1) :: cs.toList) wf1 z1 ⟨rfl, ?_⟩ hj0)) ?_
  · exact dens_mono leN (fun t ht hz => Nat.lt_irrefl _ (Nat.lt_of_lt_of_le (hcd t ht) hz)) (fun t ht hz => Nat.lt_irrefl _ (Nat.lt_of_lt_of_le (hcc t ht) hz)) hcaps
  · rintro e w' ⟨r, M', he, wf', z', hor⟩
    subst he
    rcases hor with ⟨_, hj⟩ | ⟨_, hbr, hj⟩
    · refine ⟨none, _, run_endLoop hj.2.2.2.2.1 (by simp [R]), ?_⟩
      exact hdone _ _ (fin _ _ w' M' _ (htg _) wf' hj)
    · refine ⟨some .ret, _, run_endLoop hj.2.2.2.2.1 (by simp [R]), ?_⟩
      exact wpIn_ret (hret hbr _ _ (fin _ _ w' M' _ htr wf' hj))
end
section
variable {P : Program} {A : As} {fn : Func} {n : Nat} {w0 : World} {M0 : Tags} {F : List Nat}
theorem leaves_marks {R : Ending → World → Prop} {tm : Array Value} {s : Nat → Ty} {tgs : List (Nat × Cont)} {pass : List Nat} (fr : Fr)
    (hs0 : ∀ c, c < fr.n → ∀ t ∈ (s c).cdeps, t ≠ 0) (ht0 : ∀ x ∈ tgs, x.1 ≠ 0 ∧ ∀ t ∈ x.2.cdeps, t ≠ 0)
    (h : ∀ w M, Wf w M → fr.base w M → (∀ c, c < fr.n → (s c).den w M (tm.getD c undef)) → (∀ x ∈ tgs, x.2.den w M x.1) → ∃ v, (results fn tm).run P w = .ok v w ∧ R (.returned v) w) :
    ∀ (rs : List Nat) (w : World) (M : Tags), Wf w M → fr.base w M → (∀ c, c < fr.n → (s c).den w M (tm.getD c undef)) → (∀ x ∈ tgs, x.2.den w M x.1) → rs.Nodup → (∀ r ∈ rs, M r = some 0 ∧ fr.w0.heap.size ≤ r ∧ (∀ t, ¬ (1 ≤ t ∧ t ∉ fr.pass) → fr.M0 r ≠ some t) ∧ w.heap[r]? = some (.deferred (some []))) →
      LeavesInM Fence.wide 0 P fn tm R (rs.map markOf) .returning w
  | [], w, M, wf, hb, hs, ht, _, _ => h w M wf hb hs ht
  | r :: rs, w, M, wf, hb, hs, ht, hnd, hr => by
    obtain ⟨a, b, c, d⟩ := hr r List.mem_cons_self
    have le := le_put0 (w := w) (M := M) (o := .deferred none) a
    refine ⟨by simp, .inl ⟨r, _, rfl, run_takeDeferred d, ?_⟩⟩
    refine leaves_marks (pass := pass) fr hs0 ht0 h rs _ M ⟨fun b t h => by simpa using wf.lt b t h, wf.inj, wf.amb.le le⟩ (base_put b c hb) (fun c hc => (s c).mono le (fun _ _ h => by cases h) (fun t ht h => hs0 c hc t ht (List.mem_singleton.1 h)) (hs c hc))
      (fun x hx => x.2.mono le (fun _ _ h => by cases h) (fun t htt h => (ht0 x hx).2 t htt (List.mem_singleton.1 h)) (fun h => (ht0 x hx).1 (List.mem_singleton.1 h)) (fun h => by cases h) (ht x hx)) (List.nodup_cons.1 hnd).2 (fun q hq => ?_)
    obtain ⟨a1, b1, c1, d1⟩ := hr q (List.mem_cons_of_mem _ hq)
    refine ⟨a1, b1, c1, ?_⟩
    rw [World.putObj_heap_other fun e => (List.nodup_cons.1 hnd).1 (by rw [← e]; exact hq)]; exact d1
def notZero (n : Nat) (A : As) : Bool := ((List.range n).all fun c => (A.slots c).cdeps.all fun t => Nat.ble 1 t) && A.tags.all fun x => Nat.ble 1 x.1 && x.2.cdeps.all fun t => Nat.ble 1 t
theorem m_ret {R : Ending → World → Prop} (hz : notZero n A = true) (h : Into ⟨n, w0, M0, F, .plain⟩ A (bodyPost P fn R .ret)) : Into ⟨n, w0, M0, F, .marks⟩ A (bodyPostM Fence.wide 0 P fn R .ret) := by
  intro a w ⟨M, ok, hsl, htg⟩
  obtain ⟨rs, e, g1, g2, g3⟩ := ok.defers
  simp only [notZero, Bool.and_eq_true, List.all_eq_true, List.mem_range, Nat.ble_eq] at hz
  show LeavesInM Fence.wide 0 P fn a.tmps R a.defers .returning w
  rw [e]
  refine leaves_marks (pass := []) (s := A.slots) (tgs := A.tags) ⟨n, w0, M0, F, .marks⟩ (fun c hc t ht => by have := hz.1 c hc t ht; omega) (fun x hx => ⟨by have := (hz.2 x hx).1; omega, fun t ht => by have := (hz.2 x hx).2 t ht; omega⟩) (fun w2 M2 wf hb hs ht => ?_) rs w M ok.wf ok.base hsl htg g2 (fun r hr => ?_)
  · exact (h { tmps := a.tmps, defers := [] } w2 ⟨M2, ⟨wf, hb, ok.size, Defs.nil⟩, hs, ht⟩).2
  · obtain ⟨a1, b1, c1⟩ := g3 r hr
    exact ⟨a1, b1.1, b1.2, c1⟩
theorem fnMG_intro {f : FuncId} {fn : Func} {c : Code} {F : List Nat} {pre post : List (Nat × Cont)} {args : List Ty} {res : Ty} {n : Nat} (hf : P.funcs[f]? = some fn) (hb : fn.body = some c) (hn : (fn.name == "runtime.NumGoroutine") = false) (hnt : fn.ntmps = n) (hl : args.length ≤ n)
    (h : ∀ w0 M0, Tri P ⟨n, w0, M0, F, .marks⟩ c (entryG args pre) (bodyPostM Fence.wide 0 P fn (keepPost F post w0 M0 res))) : CtrG P f F pre args post res := by
  refine ⟨⟨fn, hf, hn, by rw [hb]; rfl⟩, fun w M vs wf hd hpre => callsIn_wide.1 (callsIn_of_wp_marks (n := 0) hf hb trivial (h w M _ _ ?_))⟩
  have hlen := dens_len hd
  refine ⟨M, ⟨wf, Le.refl _ _ _ _, by simp [hnt, hlen]; omega, Defs.nil⟩, fun c hc => ?_, hpre⟩
  simp only [entryG]
  cases ha : args[c]? with
  | none => trivial
  | some ty =>
    obtain ⟨v, hv, hdv⟩ := dens_get hd c ty ha
    have : (vs.toArray ++ Array.replicate (fn.ntmps - vs.toArray.size) undef).getD c undef = v := by
      have hlt : c < vs.length := (List.getElem?_eq_some_iff.1 hv).1
      rw [Array.getD_eq_getD_getElem?, Array.getElem?_append_left (by simpa using hlt)]
      simp [hv]
    rw [this]; exact hdv
theorem enc_get {α : Type} [Inhabited α] {xs : List α} {f : α → List Ty} {k : Nat} {t : List Ty} (h : (xs.map f)[k]? = some t) : k < xs.length ∧ t = f (nth xs k) := by
  rw [List.getElem?_map] at h
  obtain ⟨x, hx, rfl⟩ := Option.map_eq_some_iff.1 h
  obtain ⟨hk, e⟩ := List.getElem?_eq_some_iff.1 hx
  exact ⟨hk, by rw [nth_lt hk, e]⟩
end
section
variable {P : Program} {fr : Fr} {A : As} {Q : Exit → Act → World → Prop}
end
section
variable {P : Program} {fr : Fr} {ops : Array Oper} {A : As} {rest : List Oper} {K : As → List (As × Fx) → Prop} {d : Nat} {t ty' : TypeId} {p : String} {e : Array Edge} {x : Operand}
theorem mvM {tg : Nat} (hx : A.op fr x = .mp tg) (h : TOps P fr ops rest (A.set d (.mp tg)) fun A' l' => K A' ((A, { d := some d, ty := .mp tg, rs := opR x }) :: l')) : TOps P fr ops (⟨some d, .move x, t, p, e, none⟩ :: rest) A K := r_move hx h
theorem asM {tg : Nat} (hx : A.op fr x = .mp tg) (h : TOps P fr ops rest (A.set d (.mp tg)) fun A' l' => K A' ((A, { d := some d, ty := .mp tg, rs := opR x }) :: l')) : TOps P fr ops (⟨some d, .assign x, t, p, e, none⟩ :: rest) A K := r_assign hx h
end
section
variable {P : Program} {A : As} {fn : Func} {n : Nat} {w0 : World} {M0 : Tags} [T : Tab P]
end
end Go.T

namespace Go.T
open Go Go.RowKit
section
variable {P : Program} {fr : Fr} {ops : Array Oper} {A : As} {rest : List Oper} {K : As → List (As × Fx) → Prop} {d : Nat} {t ty' : TypeId} {p : String} {e : Array Edge} [T : Tab P]
variable {α β : Type} {E : El α} {E' : El β} {x y : Operand} {tg off Tb : Nat} {ti te tf : TI} {ty : Ty} {o z : α}
theorem cells_take {l : List Ty} {off n : Nat} {w : World} {M : Tags} {b q : Nat} (h : ∀ (i : Nat) (t : Ty), l[i]? = some t → ∃ v, w.cell? ⟨b, q + i, none⟩ = some v ∧ t.den w M v) {m : List Ty} (hm : (l.drop off).take n = m) (hn : m.length = n) :
    ∃ cs : List Value, cs.length = n ∧ dens w M m cs ∧ ∀ j v, cs[j]? = some v → w.cell? ⟨b, q + off + j, none⟩ = some v := by
  have hget : ∀ (i : Nat) (t : Ty), (l.drop off)[i]? = some t → ∃ u, w.cell? ⟨b, q + off + i, none⟩ = some u ∧ t.den w M u := fun i t hi => by
    rw [List.getElem?_drop] at hi
    obtain ⟨v, hv, hd⟩ := h _ _ hi
    exact ⟨v, by rw [Nat.add_assoc]; exact hv, hd⟩
  have hle : n ≤ (l.drop off).length := by
    have := congrArg List.length hm
    rw [List.length_take, hn] at this; omega
  obtain ⟨cs, h1, h2, h3⟩ := op_cells hget n hle
  exact ⟨cs, h1, hm ▸ h2, h3⟩
end
theorem Ctr.mono {P : Program} {f : FuncId} {args : List Ty} {r r' : Ty} (h : Ctr P f args r) (hs : r.Sub r') : Ctr P f args r' :=
  ⟨h.1, fun w M vs wf hM hd => (h.2 w M vs wf hM hd).mono fun _ _ ⟨v, M', e, a, b, c⟩ => ⟨v, M', e, a, b, hs _ _ _ c⟩⟩
section
variable {P : Program} {fr : Fr} {A : As} {Q : Exit → Act → World → Prop} {x y : Code}
theorem t_cond_tt {c : Operand} {b : Bool} (hc : A.op fr c = .bool b) (hb : b = true) (h1 : Tri P fr x A Q) : Tri P fr (.cond c x y) A Q := t_cond hc (fun _ => h1) (fun h => by rw [hb] at h; cases h)
theorem t_cond_ff {c : Operand} {b : Bool} (hc : A.op fr c = .bool b) (hb : b = false) (h1 : Tri P fr y A Q) : Tri P fr (.cond c x y) A Q := t_cond hc (fun h => by rw [hb] at h; cases h) (fun _ => h1)
end
end Go.T

namespace Go.T
open Go Go.RowKit
def Ty.nd (t : Ty) (h1 : t.deps = []) (h2 : t.cdeps = []) : Ty := ⟨t.den, [], [], fun le _ _ h => t.mono le (by rw [h1]; intro _ h; cases h) (by rw [h2]; intro _ h; cases h) h, t.one, t.isOne⟩
section
variable {P : Program} {fr : Fr} {ops : Array Oper} {A : As} {rest : List Oper} {K : As → List (As × Fx) → Prop} {d : Nat} {t ty' : TypeId} {p : String} {e : Array Edge}
variable {α β : Type} {E : El α} {E' : El β} {x y : Operand} {tg off Tb : Nat} {ti te tf : TI} {ty : Ty} {o z : α} {xs : List α}
def dPa (E : El α) (xs : List α) (off : Nat) (w : World) (M : Tags) (v : Value) : Prop := ∃ b q, v = .pointer (some ⟨b, q + off, none⟩) ∧ pubAt w M b q (xs.flatMap E.tys)
def Ty.pa (E : El α) (xs : List α) (off : Nat) : Ty :=
  ⟨dPa E xs off, [], [], fun le _ _ ⟨b, q, e, h⟩ => ⟨b, q, e, pubAt_mono le (by rw [E.flat_deps]; intro _ h; cases h) (by rw [E.flat_cdeps]; intro _ h; cases h) h⟩, true, fun _ ⟨_, _, e, _⟩ => e ▸ rfl⟩
theorem r_box_arr (hx : A.op fr x = .arr E xs) (h : TOps P fr ops rest (A.set d (.pa E xs 0)) fun A' l' => K A' ((A, { d := some d, ty := .pa E xs 0, rs := opR x }) :: l')) : TOps P fr ops (⟨some d, .box ty' x, t, p, e, none⟩ :: rest) A K := by
  refine ⟨_, opT_mem (f := { d := some d, ty := .pa E xs 0, rs := opR x }) rfl rfl (by simp) (by simp) (by simp) fun a w M wf hr _ => ?_, h⟩
  have hd := op_den (x := x) (fun _ h => h) hr
  rw [hx] at hd
  obtain ⟨cs, ex, hds⟩ := hd
  obtain ⟨h1, h2, _⟩ := le_new wf (.cells cs ty')
  refine ⟨.pointer (some ⟨w.heap.size, 0, none⟩), w.alloc (.cells cs ty'), ?_, M, h1, h2, ⟨_, 0, rfl, ?_⟩, by simp⟩
  · simp [execOp, Instr.box, newVar, newRow, newObj, Sem.run, ex, Value.cells]
  · exact pub_new (T := ty') wf hds
variable [T : Tab P]
theorem r_load_pa [Inhabited α] {i : Nat} (hx : A.op fr x = .pa E xs off) (hT : T.tab[ty']? = some ti) (ha : ti.k.agg = false) (he : off = i * E.size) (hi : i < xs.length) (hl : (E.tys (nth xs i))[0]? = some ty)
    (h : TOps P fr ops rest (A.set d ty) fun A' l => K A' ((A, { d := some d, ty := ty, rs := opR x }) :: l)) : TOps P fr ops (⟨some d, .load ty' x, t, p, e, none⟩ :: rest) A K :=
  tops_pure (opT_pure (rt := []) rfl rfl fun a w M _ hr _ => by
    have := op_den (x := x) (fun _ h => h) hr
    rw [hx] at this
    obtain ⟨b, q, e, hp⟩ := this
    obtain ⟨v, hv, hd⟩ := hp.2.2 off ty (by rw [he]; exact flat_elem E xs hi 0 ty hl)
    exact ⟨v, by simp [execOp, e, run_load1 hT ha hv], hd⟩) h
theorem r_index_pa {n : Nat} {k : IntKind} {i : Nat} {el : Nat} (hx : A.op fr x = .pa E xs off) (hy : A.op fr y = .int k i) (hT : T.tab[ty']? = some ti) (hk : ti.k = .array n el) (hE : T.tab[el]? = some te) (h1 : i < n)
    (h : TOps P fr ops rest (A.set d (.pa E xs (off + i * te.size))) fun A' l' => K A' ((A, { d := some d, ty := .pa E xs (off + i * te.size), rs := opR x ++ opR y }) :: l')) : TOps P fr ops (⟨some d, .indexAddr ty' x y, t, p, e, none⟩ :: rest) A K :=
  tops_pure (opT_pure (rt := []) rfl rfl fun a w M _ hr _ => by
    obtain ⟨hdx, hdy⟩ := op2 hr
    rw [hx] at hdx; rw [hy] at hdy
    obtain ⟨b, q, ex, hp⟩ := hdx
    have ey : a.eval y = .int k i := hdy
    refine ⟨_, by simp only [execOp, ex, ey, Sem.run_bind, run_index_array hT hk hE (Int.natCast_nonneg i) (show (i : Int).toNat < n from h1)]; rfl, b, q, by simp [Nat.add_assoc], hp⟩) h
end
theorem ret_nil_eq {α : Type} {E : El α} {xs : List α} (e : xs = []) : RetSub (Ty.ex (.slice none 0 0)) (Ty.sl E xs) := e ▸ ret_nil
def SubL : List Ty → List Ty → Prop
  | [], [] => True
  | s :: ss, t :: ts => s.Sub t ∧ SubL ss ts
  | _, _ => False
theorem subL_dens {w : World} {M : Tags} : ∀ {ss ts : List Ty} {vs : List Value}, SubL ss ts → dens w M ss vs → dens w M ts vs
  | [], [], [], _, _ => trivial
  | _ :: _, _ :: _, _ :: _, ⟨h, h'⟩, ⟨h1, h2⟩ => ⟨h _ _ _ h1, subL_dens h' h2⟩
theorem Ctr.args {P : Program} {f : FuncId} {a a' : List Ty} {r : Ty} (h : Ctr P f a r) (hs : SubL a' a) : Ctr P f a' r :=
  ⟨h.1, fun w M vs wf hM hd => h.2 w M vs wf hM (subL_dens hs hd)⟩
section
variable {P : Program} {A : As} {fn : Func} {n m : Nat} {w0 : World} {M0 : Tags} {J : Nat → World → Tags → Prop} {Jx : World → Tags → Prop} {resD resS : Ty}
end
end Go.T

namespace Go.T
open Go Go.RowKit
section
variable {P : Program} {fr : Fr} {ops : Array Oper} {A : As} {rest : List Oper} {K : As → List (As × Fx) → Prop} {d : Nat} {t ty' ty2 : TypeId} {p : String} {e : Array Edge} {x y : Operand}
theorem opT_stripG {o : Oper} {f : Fx} {s : Nat} {g h : Bool} {ty : Ty} (hs : A.slots s = .gd (g && h) ty) (hg : g = true) (hx : OpT P fr ops o (A.set s (.gd h ty)) f) : OpT P fr ops o A f := by
  obtain ⟨h1, h2, h3, h4, h5⟩ := hx
  refine ⟨h1, h2, h3, h4, fun a w M wf hsz hr ht => h5 a w M wf hsz (fun c hc hcn => ?_) ht⟩
  have := hr c hc hcn
  simp only [As.set]
  cases hb : Nat.beq c s with
  | false => exact this
  | true =>
    have e : c = s := Nat.eq_of_beq_eq_true hb
    subst e
    rw [hs, hg, Bool.true_and] at this
    exact this
theorem run_equal_B {ty' : TypeId} (hu : P.underlying ty' = some .bool) (b1 b2 : Bool) (w : World) : (Op.equal ty' (.bool b1) (.bool b2)).run P w = .ok (b1 == b2) w := by
  unfold Op.equal Op.maxDepth
  rw [Op.equalIn]
  simp only [Sem.run_bind, run_underlying hu, Result.andThen_ok]
  rfl
theorem r_eql_B {b1 b2 : Bool} (hu : P.underlying ty' = some .bool) (hx : A.op fr x = .bool b1) (hy : A.op fr y = .bool b2)
    (h : TOps P fr ops rest (A.set d (.bool (b1 == b2))) fun A' l' => K A' ((A, { d := some d, ty := .bool (b1 == b2), rs := opR x ++ opR y }) :: l')) : TOps P fr ops (⟨some d, .binOp .eql ty' x y ty2, t, p, e, none⟩ :: rest) A K :=
  tops_pure (opT_pure rfl rfl fun a w M _ hrd _ => by
    obtain ⟨hdx, hdy⟩ := op2 hrd
    rw [hx] at hdx; rw [hy] at hdy
    have ex : a.eval x = .bool b1 := hdx
    have ey : a.eval y = .bool b2 := hdy
    exact ⟨.bool (b1 == b2), by simp only [execOp, ex, ey]; simp [eqGuard, binOp, go_sem, run_equal_B hu], rfl⟩) h
theorem r_neq_B {b1 b2 : Bool} (hu : P.underlying ty' = some .bool) (hx : A.op fr x = .bool b1) (hy : A.op fr y = .bool b2)
    (h : TOps P fr ops rest (A.set d (.bool (!(b1 == b2)))) fun A' l' => K A' ((A, { d := some d, ty := .bool (!(b1 == b2)), rs := opR x ++ opR y }) :: l')) : TOps P fr ops (⟨some d, .binOp .neq ty' x y ty2, t, p, e, none⟩ :: rest) A K :=
  tops_pure (opT_pure rfl rfl fun a w M _ hrd _ => by
    obtain ⟨hdx, hdy⟩ := op2 hrd
    rw [hx] at hdx; rw [hy] at hdy
    have ex : a.eval x = .bool b1 := hdx
    have ey : a.eval y = .bool b2 := hdy
    exact ⟨.bool (!(b1 == b2)), by simp only [execOp, ex, ey]; simp [eqGuard, binOp, go_sem, bne, run_equal_B hu], rfl⟩) h
section
variable {b : Frame} {a : Act} {k : List Item} {cs : List Frame} {w : World}
theorem stepR_scope {c : Code} : step P (lone (b.atR a (.code (.scope c) :: k)) cs w) = .next (lone (b.atR a (.code c :: .inScope c :: k)) cs w) :=
  step_lone_go (by simp [stepG, stepG.exec, Frame.atR])
theorem stepR_inScope {c : Code} : step P (lone (b.atR a (.inScope c :: k)) cs w) = .next (lone (b.atR a k) cs w) :=
  step_lone_go (by simp [stepG, stepG.exec, Frame.atR])
end
theorem wpIn_scope {F : Fence} {n : Nat} {c : Code} {Q : Exit → Act → World → Prop} {a : Act} {w : World} (h : c.wpIn F n P (Exit.noGoto Q) a w) : (Code.scope c).wpIn F n P Q a w := by
  intro b k cs hro hb hr
  have h0 : (lone (b.atR a (.code (.scope c) :: k)) cs w).fenced P F := fenced_calm hb hr rfl
  obtain ⟨e, a₁, w₁, hq, harr⟩ := h b (.inScope c :: k) cs hro hb hr
  cases e with
  | normal => exact ⟨.normal, a₁, w₁, hq, .head h0 stepR_scope (StepsIn.trans harr (.one (fenced_calm hb hr rfl) stepR_inScope))⟩
  | exit id =>
    have hx : exitTo id (.inScope c :: k) = exitTo id k := by simp [exitTo]
    exact ⟨.exit id, a₁, w₁, hq, fun k' hk => .head h0 stepR_scope (harr.1 k' (by rw [hx]; exact hk)),
      fun hr' hk => let ⟨k₁, h1, h2⟩ := harr.2 hr' (by rw [hx]; exact hk); ⟨k₁, h1, .head h0 stepR_scope h2⟩⟩
  | goto l => exact hq.elim
  | ret => exact ⟨_, a₁, w₁, hq, .of_steps (.one h0 stepR_scope) harr⟩
  | panic ch => exact ⟨_, a₁, w₁, hq, .of_steps (.one h0 stepR_scope) harr⟩
  | outgrown => exact ⟨_, a₁, w₁, hq, .of_steps (.one h0 stepR_scope) harr⟩
section
variable {Q : Exit → Act → World → Prop} {c : Code} {i : Nat}
theorem t_scope (h : Tri P fr c A (Exit.noGoto Q)) : Tri P fr (.scope c) A Q := fun a w ha => wpIn_scope (h a w ha)
theorem t_label (h : Into fr A (Q .normal)) : Tri P fr (.label i) A Q := fun a w ha => wpIn_label (h a w ha)
theorem i_scope_ret (h : Into fr A (Q .ret)) : Into fr A (Exit.noGoto Q .ret) := h
end
def dNb (p : Prop) (_ : World) (_ : Tags) (v : Value) : Prop := ∃ c : Bool, v = .bool c ∧ (c = true → p)
def Ty.nb (p : Prop) : Ty := { den := dNb p, mono := fun _ _ _ h => h, one := true, isOne := fun _ ⟨_, e, _⟩ => e ▸ rfl }
theorem t_cond_nb {Q : Exit → Act → World → Prop} {c : Operand} {q : Prop} {x y : Code} (hc : A.op fr c = .nb q) (h1 : q → Tri P fr x A Q) (h2 : True → Tri P fr y A Q) : Tri P fr (.cond c x y) A Q := fun a w ha => by
  have hv : ∃ b : Bool, a.eval c = .bool b ∧ (b = true → q) := by
    obtain ⟨M, _, hs, _⟩ := ha
    have := op_den (x := c) (rs := opR c) (fun _ h => h) (fun c _ hn => hs c hn)
    rw [hc] at this; exact this
  obtain ⟨b, hv, hq⟩ := hv
  cases b with
  | true => exact wpIn_cond_true hv (h1 (hq rfl) a w ha)
  | false => exact wpIn_cond_false hv (h2 trivial a w ha)
theorem run_equal_nil {ty' : TypeId} {el : TypeId} (hu : P.underlying ty' = some (.slice el)) (A : Option Addr) (n c : Nat) (w : World) : (Op.equal ty' (.slice A n c) (.slice none 0 0)).run P w = .ok A.isNone w := by
  unfold Op.equal Op.maxDepth
  rw [Op.equalIn]
  simp only [Sem.run_bind, run_underlying hu, Result.andThen_ok]
  cases A <;> rfl
theorem r_eqnil {α : Type} {E : El α} {xs : List α} {el : TypeId} (hu : P.underlying ty' = some (.slice el)) (hx : A.op fr x = .sl E xs)
    (h : TOps P fr ops rest (A.set d (.nb (xs = []))) fun A' l' => K A' ((A, { d := some d, ty := .nb (xs = []), rs := opR x }) :: l')) : TOps P fr ops (⟨some d, .binOp .eql ty' x (.const (.slice none 0 0)) ty2, t, p, e, none⟩ :: rest) A K :=
  tops_pure (opT_pure (rt := []) rfl rfl fun a w M _ hr _ => by
    have := op_den (x := x) (fun _ h => h) hr
    rw [hx] at this
    obtain ⟨ad, c, ex, _, _, hp⟩ := this
    have ey : a.eval (.const (.slice none 0 0)) = .slice none 0 0 := rfl
    refine ⟨.bool ad.isNone, by simp only [execOp, ex, ey]; simp [eqGuard, binOp, go_sem, run_equal_nil hu], ad.isNone, rfl, fun hn => ?_⟩
    cases xs with
    | nil => rfl
    | cons y l =>
      obtain ⟨b, off, e, _⟩ := hp (by simp)
      rw [e] at hn; cases hn) h
theorem flat_take {α : Type} (E : El α) : ∀ (xs : List α) (n : Nat), (xs.flatMap E.tys).take (n * E.size) = (xs.take n).flatMap E.tys
  | [], n => by simp
  | x :: xs, 0 => by simp
  | x :: xs, n + 1 => by
    rw [List.flatMap_cons, List.take_succ_cons, List.flatMap_cons, ← flat_take E xs n, List.take_append, E.len, Nat.succ_mul, List.take_of_length_le (by rw [E.len]; omega)]
    congr 2; omega
theorem r_cut_pa {α : Type} {E : El α} {xs : List α} {n hi el : Nat} {k : IntKind} {ti te : TI} [T : Tab P] (hx : A.op fr x = .pa E xs 0) (hy : A.op fr y = .int k hi) (hT : T.tab[ty']? = some ti) (hk : ti.k = .array n el) (hE : T.tab[el]? = some te) (h1 : n ≤ maxLen) (h2 : hi ≤ n) (h3 : hi ≤ xs.length)
    (h : TOps P fr ops rest (A.set d (.sl E (xs.take hi))) fun A' l' => K A' ((A, { d := some d, ty := .sl E (xs.take hi), rs := opR x ++ opR y }) :: l')) : TOps P fr ops (⟨some d, .slice ty' x none (some y) none, t, p, e, none⟩ :: rest) A K :=
  tops_pure (opT_pure rfl rfl fun a w M _ hr _ => by
    obtain ⟨hdx, hdy⟩ := op2 hr
    rw [hx] at hdx; rw [hy] at hdy
    obtain ⟨b, q, ex, hp⟩ := hdx
    have ey : a.eval y = .int k hi := hdy
    obtain ⟨_, D, _, hD, hkd, _⟩ := tab_info hT
    rw [hk] at hkd
    cases D <;> simp only [TK.of, reduceCtorEq, TK.array.injEq] at hkd
    obtain ⟨e1, e2⟩ := hkd
    subst e1; subst e2
    rename_i n el
    have hlen : (xs.take hi).length = hi := by simp; omega
    have hs := fun w => run_sizeOf' (P := P) hE w
    refine ⟨.slice (some ⟨b, q, none⟩) hi n, ?_, some ⟨b, q, none⟩, n, by rw [hlen], by omega, h1, fun _ => ⟨b, q, rfl, ?_⟩⟩
    · simp [execOp, ex, ey, Instr.sliceAt, run_underlying hD, Instr.sureAddr, Instr.sliceBounds, Instr.sliceBound, asIntOf, h2, hs]
      intro _; exact Addr.add_lit _ _ _
    · have := pubAt_take (hi * E.size) hp
      rw [flat_take] at this; exact this) h
end
end Go.T

namespace Go.T
open Go Go.RowKit
section
variable {A : As} {α : Type} {E : El α} {tg Tb : Nat} {xs : List α}
theorem pub_pa {s : Nat} (hx : A.slots s = .ptr tg 0) (hc : A.tag tg = some (.vec E Tb xs)) (h1 : Tag1 tg) : PubTo A tg s (.pa E xs 0) := by
  intro w M v wf ht hv
  rw [hx] at hv
  obtain ⟨b, hb, e⟩ := hv
  have hv := ht _ (tag_mem hc)
  refine ⟨b, 0, by simpa using e, by simp [pubTag, hb], wf.lt b _ hb, fun i t hi => ?_⟩
  obtain ⟨u, hu, hd⟩ := vec_cell (E := E) (Tb := Tb) (xs := xs) wf h1 hb hv hi
  refine ⟨u, by rw [Nat.zero_add]; exact hu, t.mono (pubTag_le (w := w) (tg := tg)) ?_ ?_ hd⟩
  · intro u hu
    have : u ∈ depsOf (xs.flatMap E.tys) := List.mem_flatMap.2 ⟨t, List.mem_of_getElem? hi, hu⟩
    rw [E.flat_deps] at this; cases this
  · intro u _ h; cases h
end
section
variable {P : Program} {fr : Fr} {ops : Array Oper} {A : As} {rest : List Oper} {K : As → List (As × Fx) → Prop} {d : Nat} {t ty' ty2 : TypeId} {p : String} {e : Array Edge} [T : Tab P]
variable {α : Type} {E : El α} {xs : List α} {x y : Operand} {tg Tb : Nat} {ti : TI}
end
end Go.T

namespace Go.T
open Go Go.RowKit
section
variable {P : Program} {fr : Fr} {ops : Array Oper} {A : As} {rest : List Oper} {K : As → List (As × Fx) → Prop} {d : Nat} {t ty' ty2 : TypeId} {p : String} {e : Array Edge} [T : Tab P]
variable {x y : Operand} {ti ts : TI}
theorem r_conv {src : TypeId} {k k0 : IntKind} {n : Int} (hx : A.op fr x = .int k0 n) (hS : T.tab[src]? = some ts) (hT : T.tab[ty']? = some ti) (hk : ti.k = .int k)
    (h : TOps P fr ops rest (A.set d (.int k (k.wrap n))) fun A' l' => K A' ((A, { d := some d, ty := .int k (k.wrap n), rs := opR x }) :: l')) : TOps P fr ops (⟨some d, .convert src ty' x, t, p, e, none⟩ :: rest) A K :=
  tops_pure (opT_pure (rt := []) rfl rfl fun a w M _ hr _ => by
    have := op_den (x := x) (fun _ h => h) hr
    rw [hx] at this
    have ex : a.eval x = .int k0 n := this
    obtain ⟨_, S, _, hS', _, _⟩ := tab_info hS
    obtain ⟨_, D, _, hD, hkd, _⟩ := tab_info hT
    rw [hk] at hkd
    cases D <;> simp only [TK.of, reduceCtorEq, TK.int.injEq] at hkd
    subst hkd
    refine ⟨.int _ (IntKind.wrap _ n), ?_, rfl⟩
    simp only [execOp, ex, convert, Sem.run_bind, run_underlying hS', run_underlying hD, Result.andThen_ok]
    cases S <;> rfl) h
end
end Go.T

namespace Go.T
open Go Go.RowKit
abbrev Byt := List UInt8
def bs (l : Byt) : ByteArray := ⟨l.toArray⟩
theorem bs_size (l : Byt) : (bs l).size = l.length := by simp [bs, ByteArray.size]
theorem bs_list (l : Byt) : (bs l).data.toList = l := by simp [bs]
theorem bs_of (s : ByteArray) : bs s.data.toList = s := by cases s; simp [bs]
theorem bs_append (a b : Byt) : bs a ++ bs b = bs (a ++ b) := by
  apply ByteArray.ext
  rw [ByteArray.data_append]
  simp [bs]
theorem toList_data (s : ByteArray) : s.toList = s.data.toList := by
  have hsz : s.data.toList.length = s.size := by rw [Array.length_toList]; rfl
  have key : ∀ (k i : Nat) (acc : List UInt8), s.size - i = k → ByteArray.toList.loop s i acc = acc.reverse ++ s.data.toList.drop i := by
    intro k
    induction k with
    | zero =>
      intro i acc h
      rw [ByteArray.toList.loop]
      have : ¬ i < s.size := by omega
      rw [if_neg this, List.drop_of_length_le (by omega)]
      simp
    | succ k ih =>
      intro i acc h
      rw [ByteArray.toList.loop]
      have hi : i < s.size := by
        rcases Nat.lt_or_ge i s.size with h1 | h1
        · exact h1
        · omega
      rw [if_pos hi, ih (i + 1) _ (by omega)]
      have hi' : i < s.data.toList.length := by omega
      rw [List.drop_eq_getElem_cons hi']
      have : s.get! i = s.data.toList[i] := by
        simp only [ByteArray.get!, Array.get!Internal]
        rw [Array.getElem_toList, getElem!_pos s.data i (by rw [← Array.length_toList]; exact hi')]
      rw [this]; simp
  unfold ByteArray.toList
  rw [key s.size 0 [] (by omega)]; simp
theorem eq_dec (a b : Byt) : (a == b) = decide (a = b) := by rw [Bool.eq_iff_iff]; simp
theorem bs_toList (l : Byt) : (bs l).toList = l := by rw [toList_data, bs_list]
theorem bs_at (l : Byt) (i : Nat) : (bs l)[i]? = l[i]? := by
  rcases Nat.lt_or_ge i l.length with h | h
  · rw [getElem?_pos (bs l) i (by rw [bs_size]; exact h), List.getElem?_eq_getElem h]; rfl
  · rw [getElem?_neg (bs l) i (by rw [bs_size]; omega), List.getElem?_eq_none h]
theorem bs_extract (l : Byt) (a b : Nat) : (bs l).extract a b = bs ((l.take b).drop a) := by
  apply ByteArray.ext
  rw [ByteArray.data_extract]
  apply Array.ext'
  simp [bs, List.extract_eq_drop_take']
section
variable {P : Program} {fr : Fr} {ops : Array Oper} {A : As} {rest : List Oper} {K : As → List (As × Fx) → Prop} {d : Nat} {t ty' ty2 : TypeId} {p : String} {e : Array Edge} {x y z : Operand} {a b : Byt}
theorem r_catS (hx : A.op fr x = .str (bs a)) (hy : A.op fr y = .str (bs b)) (hl : a.length + b.length ≤ 9223372036854775807)
    (h : TOps P fr ops rest (A.set d (.str (bs (a ++ b)))) fun A' l' => K A' ((A, { d := some d, ty := .str (bs (a ++ b)), rs := opR x ++ opR y }) :: l')) : TOps P fr ops (⟨some d, .binOp .add ty' x y ty2, t, p, e, none⟩ :: rest) A K :=
  tops_pure (opT_pure rfl rfl fun ac w M _ hrd _ => by
    obtain ⟨hdx, hdy⟩ := op2 hrd
    rw [hx] at hdx; rw [hy] at hdy
    have ex : ac.eval x = .string (bs a) := hdx
    have ey : ac.eval y = .string (bs b) := hdy
    refine ⟨.string (bs (a ++ b)), ?_, rfl⟩
    have : ¬ (((a.length + b.length : Nat) : Int) > IntKind.i64.max) := by show ¬ (_ > (9223372036854775807 : Int)); omega
    simp only [execOp, ex, ey]
    simp [eqGuard, binOp, Op.stringOp, bs_size, bs_append]
    omega) h
theorem r_eqlS (hx : A.op fr x = .str (bs a)) (hy : A.op fr y = .str (bs b))
    (h : TOps P fr ops rest (A.set d (.bool (decide (a = b)))) fun A' l' => K A' ((A, { d := some d, ty := .bool (decide (a = b)), rs := opR x ++ opR y }) :: l')) : TOps P fr ops (⟨some d, .binOp .eql ty' x y ty2, t, p, e, none⟩ :: rest) A K :=
  tops_pure (opT_pure rfl rfl fun ac w M _ hrd _ => by
    obtain ⟨hdx, hdy⟩ := op2 hrd
    rw [hx] at hdx; rw [hy] at hdy
    have ex : ac.eval x = .string (bs a) := hdx
    have ey : ac.eval y = .string (bs b) := hdy
    refine ⟨.bool (decide (a = b)), ?_, rfl⟩
    simp only [execOp, ex, ey]
    simp [eqGuard, binOp, Op.stringOp, bs_toList, eq_dec]) h
theorem r_neqS (hx : A.op fr x = .str (bs a)) (hy : A.op fr y = .str (bs b))
    (h : TOps P fr ops rest (A.set d (.bool (!decide (a = b)))) fun A' l' => K A' ((A, { d := some d, ty := .bool (!decide (a = b)), rs := opR x ++ opR y }) :: l')) : TOps P fr ops (⟨some d, .binOp .neq ty' x y ty2, t, p, e, none⟩ :: rest) A K :=
  tops_pure (opT_pure rfl rfl fun ac w M _ hrd _ => by
    obtain ⟨hdx, hdy⟩ := op2 hrd
    rw [hx] at hdx; rw [hy] at hdy
    have ex : ac.eval x = .string (bs a) := hdx
    have ey : ac.eval y = .string (bs b) := hdy
    refine ⟨.bool (!decide (a = b)), ?_, rfl⟩
    simp only [execOp, ex, ey]
    simp [eqGuard, binOp, Op.stringOp, bs_toList, eq_dec]) h
variable [T : Tab P] {ti ts : TI}
theorem tab_string {ty : Nat} (hT : T.tab[ty]? = some ti) (hk : ti.k = .string) : P.underlying ty = some .string := by
  obtain ⟨_, D, _, hD, hkd, _⟩ := tab_info hT
  rw [hk] at hkd
  cases D <;> simp only [TK.of, reduceCtorEq] at hkd
  exact hD
theorem r_lenS (hx : A.op fr x = .str (bs a)) (hT : T.tab[ty']? = some ti) (hk : ti.k = .string)
    (h : TOps P fr ops rest (A.set d (.int .i64 a.length)) fun A' l' => K A' ((A, { d := some d, ty := .int .i64 a.length, rs := opR x }) :: l')) :
    TOps P fr ops (⟨some d, .call ⟨.builtin .len, #[x], #[ty']⟩, t, p, e, none⟩ :: rest) A K :=
  tops_pure (opT_pure rfl rfl fun ac w M _ hrd _ => by
    have hdx := op_den (x := x) (fun _ h => h) hrd
    rw [hx] at hdx
    have ex : ac.eval x = .string (bs a) := hdx
    exact ⟨.int .i64 a.length, by simp [execOp, resolve, invoke, builtin, ex, Builtin.len_, run_underlying (tab_string hT hk), goInt, bs_size], rfl⟩) h
theorem r_idxS {k : IntKind} {i : Nat} (hx : A.op fr x = .str (bs a)) (hy : A.op fr y = .int k i) (hT : T.tab[ty']? = some ti) (hk : ti.k = .string) (hi : i < a.length)
    (h : TOps P fr ops rest (A.set d (.int .u8 ((nth a i).toNat : Int))) fun A' l' => K A' ((A, { d := some d, ty := .int .u8 ((nth a i).toNat : Int), rs := opR x ++ opR y }) :: l')) :
    TOps P fr ops (⟨some d, .index ty' x y, t, p, e, none⟩ :: rest) A K :=
  tops_pure (opT_pure rfl rfl fun ac w M _ hrd _ => by
    obtain ⟨hdx, hdy⟩ := op2 hrd
    rw [hx] at hdx; rw [hy] at hdy
    have ex : ac.eval x = .string (bs a) := hdx
    have ey : ac.eval y = .int k i := hdy
    refine ⟨.int .u8 ((nth a i).toNat : Int), ?_, rfl⟩
    have h1 : a[i]? = some (nth a i) := by rw [nth, List.getD_eq_getElem?_getD, List.getElem?_eq_getElem hi]; rfl
    simp [execOp, Instr.index, asIntOf, ex, ey, run_underlying (tab_string hT hk), bs_at, h1]) h
theorem run_cutS {st : TypeId} (hT : T.tab[st]? = some ti) (hk : ti.k = .string) {lo hi : Nat} {ol oh : Option Value} (h1 : (ol = none ∧ lo = 0) ∨ ∃ k, ol = some (.int k lo)) (h2 : (oh = none ∧ hi = a.length) ∨ ∃ k, oh = some (.int k hi)) (hlo : lo ≤ hi) (hhi : hi ≤ a.length) (w : World) :
    (Instr.sliceAt st (.string (bs a)) ol oh none).run P w = .ok (.string (bs ((a.take hi).drop lo))) w := by
  have e := tab_string hT hk
  have g1 : (lo : Int) ≤ hi := by omega
  have g2 : (hi : Int) ≤ a.length := by omega
  rcases h1 with ⟨rfl, rfl⟩ | ⟨k, rfl⟩ <;> rcases h2 with ⟨rfl, rfl⟩ | ⟨k', rfl⟩ <;>
    simp [Instr.sliceAt, Instr.slice, run_underlying e, Instr.sliceBounds, Instr.sliceBound, asIntOf, bs_size, bs_extract, g1, g2, hlo, hhi]
theorem r_cutS_hi {k : IntKind} {hi : Nat} (hx : A.op fr x = .str (bs a)) (hy : A.op fr y = .int k hi) (hT : T.tab[ty']? = some ti) (hk : ti.k = .string) (h2 : hi ≤ a.length)
    (h : TOps P fr ops rest (A.set d (.str (bs (a.take hi)))) fun A' l' => K A' ((A, { d := some d, ty := .str (bs (a.take hi)), rs := opR x ++ opR y }) :: l')) : TOps P fr ops (⟨some d, .slice ty' x none (some y) none, t, p, e, none⟩ :: rest) A K :=
  tops_pure (opT_pure rfl rfl fun ac w M _ hr _ => by
    obtain ⟨hdx, hdy⟩ := op2 hr
    rw [hx] at hdx; rw [hy] at hdy
    have ex : ac.eval x = .string (bs a) := hdx
    have ey : ac.eval y = .int k hi := hdy
    have := run_cutS (P := P) (a := a) hT hk (lo := 0) (hi := hi) (ol := none) (oh := some (.int k hi)) (.inl ⟨rfl, rfl⟩) (.inr ⟨k, rfl⟩) (Nat.zero_le _) h2 w
    exact ⟨_, by simp [execOp, ex, ey, this], rfl⟩) h
theorem r_cutS_lo {k : IntKind} {lo : Nat} (hx : A.op fr x = .str (bs a)) (hy : A.op fr y = .int k lo) (hT : T.tab[ty']? = some ti) (hk : ti.k = .string) (h2 : lo ≤ a.length)
    (h : TOps P fr ops rest (A.set d (.str (bs (a.drop lo)))) fun A' l' => K A' ((A, { d := some d, ty := .str (bs (a.drop lo)), rs := opR x ++ opR y }) :: l')) : TOps P fr ops (⟨some d, .slice ty' x (some y) none none, t, p, e, none⟩ :: rest) A K :=
  tops_pure (opT_pure rfl rfl fun ac w M _ hr _ => by
    obtain ⟨hdx, hdy⟩ := op2 hr
    rw [hx] at hdx; rw [hy] at hdy
    have ex : ac.eval x = .string (bs a) := hdx
    have ey : ac.eval y = .int k lo := hdy
    have := run_cutS (P := P) (a := a) hT hk (lo := lo) (hi := a.length) (ol := some (.int k lo)) (oh := none) (.inr ⟨k, rfl⟩) (.inl ⟨rfl, rfl⟩) h2 (Nat.le_refl _) w
    rw [List.take_length] at this
    exact ⟨_, by simp [execOp, ex, ey, this], rfl⟩) h
theorem bs_encode {n : Int} (h0 : 0 ≤ n) (h1 : n < 128) : Utf8.encode n = bs [UInt8.ofNat n.toNat] := by
  have hv : Utf8.valid n = true := by unfold Utf8.valid; simp; omega
  unfold Utf8.encode
  simp only [hv, if_true]
  rw [if_pos (by omega)]
  rfl
theorem r_convIS {src : TypeId} {k0 : IntKind} {n : Int} (hx : A.op fr x = .int k0 n) (hS : T.tab[src]? = some ts) (hT : T.tab[ty']? = some ti) (hk : ti.k = .string) (h0 : 0 ≤ n) (h1 : n < 128)
    (h : TOps P fr ops rest (A.set d (.str (bs [UInt8.ofNat n.toNat]))) fun A' l' => K A' ((A, { d := some d, ty := .str (bs [UInt8.ofNat n.toNat]), rs := opR x }) :: l')) : TOps P fr ops (⟨some d, .convert src ty' x, t, p, e, none⟩ :: rest) A K :=
  tops_pure (opT_pure (rt := []) rfl rfl fun ac w M _ hr _ => by
    have := op_den (x := x) (fun _ h => h) hr
    rw [hx] at this
    have ex : ac.eval x = .int k0 n := this
    obtain ⟨_, S, _, hS', _, _⟩ := tab_info hS
    refine ⟨.string (bs [UInt8.ofNat n.toNat]), ?_, rfl⟩
    simp only [execOp, ex, convert, Sem.run_bind, run_underlying hS', run_underlying (tab_string hT hk), Result.andThen_ok]
    have := bs_encode h0 h1
    cases S <;> simp [Conv.intToString, this]) h
end
end Go.T

namespace Go.Proofs.YtjjndkenddigiaaGreatDoor
open Go Go.T
structure BRow where
  nums : List Int
  struck : Bool
  deriving Inhabited, DecidableEq
structure BForm where
  widths : List Int
  lines : Int
  deriving Inhabited, DecidableEq
structure Book where
  form : BForm
  rows : List BRow
  deriving Inhabited, DecidableEq
def inB (n lo hi : Int) : Bool := decide (n ≥ lo) && decide (n ≤ hi)
def offB (n lo hi : Int) : Bool := decide (n < lo) || decide (n > hi)
theorem inB_off (n lo hi : Int) : (!inB n lo hi) = offB n lo hi := by
  unfold inB offB
  rw [Bool.eq_iff_iff]; simp <;> omega
theorem offB_false {n lo hi : Int} : offB n lo hi = false ↔ lo ≤ n ∧ n ≤ hi := by unfold offB; simp
def digF : Nat → Nat → Byt
  | 0, n => [UInt8.ofNat (48 + n)]
  | k + 1, n => if n < 10 then [UInt8.ofNat (48 + n)] else digF k (n / 10) ++ [UInt8.ofNat (48 + n % 10)]
def digN (n : Nat) : Byt := digF 25 n
theorem digF_dec : ∀ (k n : Nat), n < 10 ^ (k + 1) → digF k n = Lib.decDigits n
  | 0, n, h => by
    rw [digF, Lib.decDigits, dif_pos (by simpa using h)]
  | k + 1, n, h => by
    rw [digF, Lib.decDigits]
    split
    · rfl
    · rw [digF_dec k (n / 10) (by rw [Nat.pow_succ] at h; omega)]
theorem digN_dec {n : Nat} (h : n < 10 ^ 26) : digN n = Lib.decDigits n := digF_dec 25 n h
theorem digF_pos : ∀ (k n : Nat), 1 ≤ (digF k n).length
  | 0, n => by simp [digF]
  | k + 1, n => by rw [digF]; split <;> simp
theorem digF_len : ∀ (k n w : Nat), 1 ≤ w → n < 10 ^ (k + 1) → ((digF k n).length ≤ w ↔ n < 10 ^ w)
  | 0, n, w, hw, h => by
    have : 10 ^ 1 ≤ 10 ^ w := Nat.pow_le_pow_right (by omega) hw
    simp [digF] at h ⊢; omega
  | k + 1, n, w, hw, h => by
    rw [digF]
    split
    · rename_i hn
      have : 10 ^ 1 ≤ 10 ^ w := Nat.pow_le_pow_right (by omega) hw
      simp; omega
    · rename_i hn
      obtain ⟨v, rfl⟩ : ∃ v, w = v + 1 := ⟨w - 1, by omega⟩
      have hk : n / 10 < 10 ^ (k + 1) := by rw [Nat.pow_succ] at h; omega
      rw [List.length_append, List.length_singleton, Nat.pow_succ]
      by_cases hv : v = 0
      · subst hv
        have := digF_pos k (n / 10)
        rw [Nat.pow_zero, Nat.one_mul]
        constructor <;> intro h3 <;> omega
      · have := digF_len k (n / 10) v (by omega) hk
        rw [show n < 10 ^ v * 10 ↔ n / 10 < 10 ^ v by omega, ← this]
        omega
theorem digN_len {n w : Nat} (hw : 1 ≤ w) (h : n < 10 ^ 26) : (digN n).length ≤ w ↔ n < 10 ^ w := digF_len 25 n w hw h
theorem digN_pos (n : Nat) : 1 ≤ (digN n).length := digF_pos 25 n
def padW (w : Nat) (l : Byt) : Byt := List.replicate (w - l.length) 32 ++ l
def fldN (n w : Int) : Byt := padW w.toNat (digN n.toNat)
def fldRow (f : BForm) (r : BRow) : List Byt := (List.range f.widths.length).map fun c => fldN (nth r.nums c) (nth f.widths c)
def addL : Nat → Byt → Int
  | _, [] => 0
  | k, x :: l => (if x = 32 then 0 else ((k : Int) + 1) * ((x.toNat : Int) - 48)) + addL (k + 1) l
def letN (f : BForm) (r : BRow) : Int := (if r.struck then 11 else 0) + addL 0 (fldRow f r).flatten
def letB (f : BForm) (r : BRow) : UInt8 := UInt8.ofNat (97 + (letN f r).toNat % 23)
def wthR (r : BRow) (c : Nat) : Int := if r.struck then 0 else nth r.nums c
def sumC (rows : List BRow) (c : Nat) : Int := (rows.map fun r => wthR r c).sum
def lineB (f : BForm) (rows : List BRow) : Byt := ((List.range f.widths.length).map fun c => fldN (sumC rows c) (nth f.widths c + 2) ++ [124]).flatten ++ [10]
def rowB (f : BForm) (r : BRow) : Byt := (if r.struck then 45 else 32) :: (((List.range f.widths.length).map fun c => fldN (nth r.nums c) (nth f.widths c) ++ [124]).flatten ++ [letB f r, 10])
def frmY (f : BForm) : Int := if offB f.widths.length 1 4 then 2 else if f.widths.any (fun w => offB w 1 4) || offB f.lines 1 6 then 3 else 0
def ten (w : Int) : Int := ((10 ^ w.toNat : Nat) : Int)
def rowY (f : BForm) (r : BRow) : Int := if r.nums.length ≠ f.widths.length then 2 else if (List.range f.widths.length).any (fun c => offB (nth r.nums c) 0 (ten (nth f.widths c) - 1)) then 3 else 0
def firstY (f : BForm) : List BRow → Int
  | [] => 0
  | r :: l => if rowY f r = 0 then firstY f l else rowY f r
def bokY (b : Book) : Int := if frmY b.form ≠ 0 then frmY b.form else if b.rows.length > 12 then 2 else firstY b.form b.rows
structure FormOk (f : BForm) : Prop where
  n1 : 1 ≤ f.widths.length
  n2 : f.widths.length ≤ 4
  w : ∀ x ∈ f.widths, 1 ≤ x ∧ x ≤ 4
  l1 : 1 ≤ f.lines
  l2 : f.lines ≤ 6
structure RowOk (f : BForm) (r : BRow) : Prop where
  len : r.nums.length = f.widths.length
  num : ∀ c, c < f.widths.length → 0 ≤ nth r.nums c ∧ nth r.nums c < ten (nth f.widths c)
structure BookOk (b : Book) : Prop where
  form : FormOk b.form
  few : b.rows.length ≤ 12
  row : ∀ r ∈ b.rows, RowOk b.form r
theorem frmY_zero {f : BForm} : frmY f = 0 ↔ FormOk f := by
  unfold frmY
  split
  · rename_i h
    exact ⟨fun h => (by cases h), fun k => by rw [offB_false.2 ⟨by have := k.n1; omega, by have := k.n2; omega⟩] at h; cases h⟩
  · rename_i h
    have h := offB_false.1 (by simpa using h)
    split
    · rename_i h2
      refine ⟨fun h => (by cases h), fun k => ?_⟩
      rw [offB_false.2 ⟨k.l1, k.l2⟩, Bool.or_false, List.any_eq_true] at h2
      obtain ⟨x, hx, h3⟩ := h2
      rw [offB_false.2 (k.w x hx)] at h3; cases h3
    · rename_i h2
      simp only [Bool.or_eq_true, not_or, Bool.not_eq_true, List.any_eq_false] at h2
      obtain ⟨l1, l2⟩ := offB_false.1 h2.2
      exact ⟨fun _ => ⟨by omega, by omega, fun x hx => offB_false.1 (by simpa using h2.1 x hx), l1, l2⟩, fun _ => rfl⟩
theorem frmY_1 {f : BForm} (h : (!inB f.widths.length 1 4) = true) : frmY f = 2 := by rw [frmY, ← inB_off, if_pos h]
theorem all_off (l : List Int) : (!l.all fun n => inB n 1 4) = l.any fun n => offB n 1 4 := by
  induction l with
  | nil => rfl
  | cons x l ih => rw [List.all_cons, List.any_cons, Bool.not_and, ih, inB_off]
theorem frmY_2 {f : BForm} (h : (!inB f.widths.length 1 4) = false) (h2 : ((!f.widths.all fun n => inB n 1 4) || !inB f.lines 1 6) = true) : frmY f = 3 := by
  rw [frmY, ← inB_off, h, if_neg (by decide), if_pos]
  rw [← inB_off, ← all_off]; exact h2
theorem frmY_3 {f : BForm} (h : (!inB f.widths.length 1 4) = false) (h2 : ((!f.widths.all fun n => inB n 1 4) || !inB f.lines 1 6) = false) : frmY f = 0 := by
  rw [frmY, ← inB_off, h, if_neg (by decide), if_neg]
  rw [← inB_off, ← all_off, h2]; decide
theorem ten_succ (k : Nat) : ten ((k + 1 : Nat) : Int) = 10 * ten (k : Int) := by unfold ten; simp only [Int.toNat_natCast]; rw [Nat.pow_succ]; omega
theorem ten_small {k : Nat} (h : k ≤ 4) : 1 ≤ ten (k : Int) ∧ ten (k : Int) ≤ 10000 := by
  have : k = 0 ∨ k = 1 ∨ k = 2 ∨ k = 3 ∨ k = 4 := by omega
  rcases this with rfl | rfl | rfl | rfl | rfl <;> decide
theorem rowY_zero {f : BForm} {r : BRow} : rowY f r = 0 ↔ RowOk f r := by
  unfold rowY
  split
  · rename_i h
    exact ⟨fun h => (by cases h), fun k => absurd k.len h⟩
  · rename_i h
    have h : r.nums.length = f.widths.length := by simpa using h
    split
    · rename_i h2
      refine ⟨fun h => (by cases h), fun k => ?_⟩
      rw [List.any_eq_true] at h2
      obtain ⟨c, hc, h3⟩ := h2
      have := k.num c (by simpa using hc)
      rw [offB_false.2 ⟨this.1, by omega⟩] at h3; cases h3
    · rename_i h2
      simp only [Bool.not_eq_true, List.any_eq_false, List.mem_range] at h2
      refine ⟨fun _ => ⟨h, fun c hc => ?_⟩, fun _ => rfl⟩
      have := offB_false.1 (by simpa using h2 c hc)
      omega
theorem firstY_zero {f : BForm} : ∀ {l : List BRow}, firstY f l = 0 ↔ ∀ r ∈ l, RowOk f r
  | [] => by simp [firstY]
  | r :: l => by
    rw [firstY]
    split
    · rename_i h
      rw [firstY_zero, List.forall_mem_cons]
      exact ⟨fun k => ⟨rowY_zero.1 h, k⟩, fun k => k.2⟩
    · rename_i h
      exact ⟨fun k => absurd k h, fun k => absurd (rowY_zero.2 (k r List.mem_cons_self)) h⟩
theorem bokY_zero {b : Book} : bokY b = 0 ↔ BookOk b := by
  unfold bokY
  split
  · rename_i h
    exact ⟨fun k => absurd k h, fun k => absurd (frmY_zero.2 k.form) h⟩
  · rename_i h
    have h : frmY b.form = 0 := by simpa using h
    split
    · rename_i h2
      exact ⟨fun k => (by cases k), fun k => by have := k.few; omega⟩
    · rename_i h2
      rw [firstY_zero]
      exact ⟨fun k => ⟨frmY_zero.1 h, by omega, k⟩, fun k => k.row⟩
end Go.Proofs.YtjjndkenddigiaaGreatDoor

namespace Go.Proofs.YtjjndkenddigiaaGreatDoor
open Go Go.T
structure Rdr where
  rows : Int
  page : Int
  begun : Bool
  closed : Bool
  column : Int
  offset : Int
  number : Int
  digits : Bool
  read : List BRow
  must : Byt
  deriving Inhabited
def Rdr.new : Rdr := ⟨0, 0, false, false, 0, 0, 0, false, [], []⟩
def Rdr.fresh (p : Rdr) : Bool := decide (p.rows = 0) && (decide (p.page = 0) && (decide (p.begun = false) && (decide (p.closed = false) && (decide (p.column = 0) && (decide (p.offset = 0) && (decide (p.number = 0) && decide (p.digits = false)))))))
def wid (f : BForm) (p : Rdr) : Int := nth f.widths p.column.toNat
def figs (a : Bool) : Byt := ((List.range 10).filter fun k => decide (0 < k) || a).map fun k => UInt8.ofNat (48 + k)
def lastB (f : BForm) (p : Rdr) : Bool := decide (p.offset = wid f p - 1)
def figC (f : BForm) (p : Rdr) : Byt := (if !p.digits && !lastB f p then [32] else []) ++ figs (p.digits || lastB f p)
def canR (f : BForm) (p : Rdr) : Byt :=
  match p.must with
  | x :: _ => [x]
  | [] => if p.begun then figC f p else if p.closed then (if p.page = f.lines ∧ p.rows < 12 then [43] else [])
    else (if p.page < f.lines ∧ p.rows < 12 then [32, 45] else []) ++ (if p.page > 0 ∨ p.fresh = true then [61] else [])
def pushN (l : List BRow) (n : Int) : List BRow := l.take (l.length - 1) ++ [⟨(nth l (l.length - 1)).nums ++ [n], (nth l (l.length - 1)).struck⟩]
def figR (f : BForm) (p : Rdr) (c : UInt8) : Rdr :=
  let n := if c ≠ 32 then 10 * p.number + ((c.toNat : Int) - 48) else p.number
  let d := p.digits || decide (c ≠ 32)
  if p.offset + 1 < wid f p then { p with number := n, digits := d, offset := p.offset + 1 }
  else
    let l := pushN p.read n
    if p.column + 1 = f.widths.length then { p with number := 0, digits := false, offset := 0, column := p.column + 1, read := l, must := [124, letB f (nth l (l.length - 1)), 10], begun := false, rows := p.rows + 1, page := p.page + 1 }
    else { p with number := 0, digits := false, offset := 0, column := p.column + 1, read := l, must := [124] }
def nextR (f : BForm) (p : Rdr) (c : UInt8) : Rdr :=
  match p.must with
  | _ :: t => { p with must := t }
  | [] => if p.begun then figR f p c else if c = 43 then { p with must := lineB f p.read, page := 0, closed := false }
    else if c = 61 then { p with must := lineB f p.read, closed := true }
    else { p with read := p.read ++ [⟨[], decide (c = 45)⟩], begun := true, column := 0, offset := 0 }
def stepR (f : BForm) (p : Rdr) (c : UInt8) : Option Rdr := if c ∈ canR f p then some (nextR f p c) else none
def runR (f : BForm) : Rdr → Byt → Nat × Rdr
  | p, [] => (0, p)
  | p, c :: t => match stepR f p c with
    | none => (0, p)
    | some q => ((runR f q t).1 + 1, (runR f q t).2)
def wholeR (p : Rdr) : Bool := p.closed && p.must.isEmpty
def fillR (f : BForm) : Rdr → Byt → List (Byt × Rdr)
  | p, [] => if wholeR p then [([], p)] else []
  | p, c :: t => if c ≠ 63 then (match stepR f p c with
      | none => []
      | some q => (fillR f q t).map fun x => (c :: x.1, x.2))
    else (canR f p).flatMap fun d => (fillR f (nextR f p d) t).map fun x => (d :: x.1, x.2)
structure RdrOk (f : BForm) (p : Rdr) : Prop where
  form : FormOk f
  r0 : 0 ≤ p.rows
  r1 : p.rows ≤ 12
  p0 : 0 ≤ p.page
  p1 : p.page ≤ f.lines
  few : (p.read.length : Int) = p.rows + (if p.begun then 1 else 0)
  done : ∀ k : Nat, (k : Int) < p.rows → RowOk f (nth p.read k)
  c0 : 0 ≤ p.column
  c1 : p.column ≤ f.widths.length
  o0 : 0 ≤ p.offset
  n0 : 0 ≤ p.number
  nd : p.digits = false → p.number = 0
  beg : p.begun = true → p.column < f.widths.length ∧ p.offset < wid f p ∧ p.number < ten p.offset ∧ p.rows < 12 ∧ p.page < f.lines ∧ p.closed = false ∧
    ((nth p.read p.rows.toNat).nums.length : Int) = p.column ∧ ∀ c : Nat, (c : Int) < p.column → 0 ≤ nth (nth p.read p.rows.toNat).nums c ∧ nth (nth p.read p.rows.toNat).nums c < ten (nth f.widths c)
  idle : p.begun = false → p.offset = 0 ∧ p.number = 0 ∧ p.digits = false
  long : p.must.length ≤ 170
end Go.Proofs.YtjjndkenddigiaaGreatDoor

namespace Go.Proofs.YtjjndkenddigiaaGreatDoor
open Go Go.T
def BRowE : El BRow := El.mk' 2 (fun x => [Ty.sl I64 x.nums, Ty.bool x.struck]) (fun _ => rfl) (fun _ => ⟨rfl, rfl, rfl⟩)
def RowE : El (List Int) := El.mk' 1 (fun x => [Ty.sl I64 x]) (fun _ => rfl) (fun _ => ⟨rfl, rfl, rfl⟩)
def StrE : El Byt := El.mk' 1 (fun x => [Ty.str (bs x)]) (fun _ => rfl) (fun _ => ⟨rfl, rfl, rfl⟩)
def frmTys (f : BForm) : List Ty := [Ty.sl I64 f.widths, Ty.int .i64 f.lines]
def bokTys (b : Book) : List Ty := [Ty.sl I64 b.form.widths, Ty.int .i64 b.form.lines, Ty.sl BRowE b.rows]
def frmT (f : BForm) : Ty := Ty.agg (frmTys f)
def bokT (b : Book) : Ty := Ty.agg (bokTys b)
def rowT (r : BRow) : Ty := Ty.agg (BRowE.tys r)
theorem not_b {b : Bool} (h : (!b) = true) : b = false := by cases b <;> first | rfl | cases h
theorem not_not_b {b : Bool} (h : (!b) = false) : b = true := by cases b <;> first | rfl | cases h
theorem ne_of_nth {α : Type} [Inhabited α] {a b : List α} {k : Nat} (h : nth a k ≠ nth b k) : a ≠ b := fun e => h (by rw [e])
theorem ng {b : Bool} (h : b = false) : ¬ b = true := by rw [h]; decide
end Go.Proofs.YtjjndkenddigiaaGreatDoor

namespace Go.T
open Go
section
variable {P : Program} {fr : Fr} {A : As} {c : Code} {Q : Exit → Act → World → Prop}
def PubTy (A : As) (tg : Nat) (t0 t : Ty) : Prop := ∀ w M v, Wf w M → (∀ x ∈ A.tags, x.2.den w M x.1) → t0.den w M v → t.den w (pubTag M tg) v
def AllTy (A : As) (tg : Nat) : List Ty → List Ty → Prop
  | [], [] => True
  | a :: l, b :: l' => PubTy A tg a b ∧ AllTy A tg l l'
  | _, _ => False
def PubC (A : As) (tg : Nat) (x : Nat × Cont) : Prop := ∀ w M, Wf w M → (∀ x ∈ A.tags, x.2.den w M x.1) → x.2.den w (pubTag M tg) x.1
def AllC (A : As) (tg : Nat) : List (Nat × Cont) → Prop
  | [] => True
  | x :: l => PubC A tg x ∧ AllC A tg l
theorem pubTy_same {tg : Nat} {t : Ty} (h : disj t.deps [tg] = true) : PubTy A tg t t := fun w M _ _ _ hd =>
  t.mono (pubTag_le (w := w)) (disj_spec h) (fun _ _ h => by cases h) hd
theorem pubTy_row {α : Type} {E : El α} {T tg : Nat} {xs : List α} : PubTy A tg (.row E T tg xs) (.sl E xs) := fun w M v wf _ hd =>
  row_sl wf hd (fun b hb => by simp [pubTag, hb]) (fun b hb => by simp [pubTag, hb])
theorem allTy_dens {tg : Nat} {w : World} {M : Tags} (wf : Wf w M) (ht : ∀ x ∈ A.tags, x.2.den w M x.1) : ∀ {l l' : List Ty} {vs : List Value}, AllTy A tg l l' → dens w M l vs → dens w (pubTag M tg) l' vs
  | [], [], [], _, _ => trivial
  | _ :: _, _ :: _, _ :: _, ⟨h1, h2⟩, ⟨h3, h4⟩ => ⟨h1 _ _ _ wf ht h3, allTy_dens wf ht h2 h4⟩
theorem pubC_cells {tg o T : Nat} {l l' : List Ty} (ho : A.tag o = some (.cells T l)) (hne : Nat.beq o tg = false) (h : AllTy A tg l l') : PubC A tg (o, .cells T l') := fun w M wf ht => by
  obtain ⟨b, cs, hb, hh, hd⟩ := ht _ (tag_mem ho)
  refine ⟨b, cs, ?_, hh, allTy_dens wf ht h hd⟩
  unfold pubTag
  rw [if_neg]
  · exact hb
  · rw [hb]; intro e; injection e with e; subst e; simp at hne
theorem allC_mem {tg : Nat} {w : World} {M : Tags} (wf : Wf w M) (ht : ∀ x ∈ A.tags, x.2.den w M x.1) : ∀ {lt : List (Nat × Cont)}, AllC A tg lt → ∀ {x : Nat × Cont}, x ∈ lt → x.2.den w (pubTag M tg) x.1
  | y :: _, ⟨h1, h2⟩, x, hx => by
    rcases List.mem_cons.1 hx with rfl | hx
    · exact h1 w M wf ht
    · exact allC_mem wf ht h2 hx
theorem t_pubC {tg : Nat} (l : List (Nat × Ty)) (lt : List (Nat × Cont)) (h1 : 1 ≤ tg) (hp : fr.pass.contains tg = false) (hl : AllPub A tg l) (hlt : AllC A tg lt) (h : Tri P fr c ⟨(A.pub tg l).slots, lt ++ (A.pub tg l).tags⟩ Q) : Tri P fr c A Q := fun a w ⟨M, ok, hsl, ht⟩ => by
  have le : Le (· ∈ ([] : List Nat)) (· ∈ [tg]) w M w (pubTag M tg) := pubTag_le
  refine h a w ⟨pubTag M tg, ⟨pubTag_wf ok.wf, Fr.base_step ok.base (by intro _ h; cases h) (fun t ht => by simp only [List.mem_singleton] at ht; subst ht; exact ⟨h1, by simpa using hp⟩) le, ok.size, ok.defers.step (by intro _ h; cases h) (fun t ht => by simp only [List.mem_singleton] at ht; subst ht; exact h1) le⟩, fun i hi => ?_, fun x hx => ?_⟩
  · have base : (killSlots [] [tg] A.slots i).den w (pubTag M tg) (a.tmps.getD i undef) := by
      rcases killSlots_spec [] [tg] A.slots i with ⟨e, hdj⟩ | ⟨_, e⟩
      · rw [e]; exact (A.slots i).mono le (safe_spec hdj).1 (safe_spec hdj).2 (hsl i hi)
      · rw [e]; trivial
    show (setL l (killSlots [] [tg] A.slots) i).den _ _ _
    clear h
    induction l with
    | nil => exact base
    | cons x l ih =>
      obtain ⟨d, t⟩ := x
      unfold setL
      cases hb : Nat.beq i d with
      | false => simp only [cond_false]; exact ih hl.2
      | true =>
        have : i = d := Nat.eq_of_beq_eq_true hb
        subst this
        simp only [cond_true]
        exact hl.1 w M _ ok.wf ht (hsl i hi)
  · rcases List.mem_append.1 (show x ∈ lt ++ (A.pub tg l).tags from hx) with hx | hx
    · exact allC_mem ok.wf ht hlt hx
    · exact killTags_den le hx fun y hy _ => ht y hy
end
section
open Go.RowKit
variable {P : Program} {A : As} {fn : Func} {n : Nat} {w0 : World} {M0 : Tags} {F : List Nat} {post : List (Nat × Cont)} [T : Tab P]
theorem g_rcell (L : List Nat) {tm ty tg Tb : Nat} {l : List Ty} {ti : TI} {res : Ty} (hr : fn.results = #[.cell tm ty]) (ht : Nat.blt tm n = true) (hx : A.slots tm = .ptr tg 0) (hc : A.tag tg = some (.cells Tb l)) (h1 : Tag1 tg) (hT : T.tab[ty]? = some ti) (ha : ti.k.agg = true) (hl : l.length = ti.size)
    (hL : ∀ t ∈ F, t ∈ L) (hp : RetCs A L post) (hs : RetG L (.agg l) res) :
    Into ⟨n, w0, M0, F, .plain⟩ A (bodyPost P fn (keepPost F post w0 M0 res) .ret) := by
  intro a w ⟨M, ok, hsl, htg⟩
  have hd := hsl tm (by simpa using ht)
  rw [hx] at hd
  obtain ⟨b, hb, e⟩ := hd
  obtain ⟨b', cs, hb', hh, hds⟩ := htg _ (tag_mem hc)
  obtain ⟨u, rfl⟩ : ∃ u, tg = u + 1 := ⟨tg - 1, by omega⟩
  have := ok.wf.inj b b' u (by omega) hb hb'
  subst this
  have hlen := dens_len hds
  have hload := run_loadN (P := P) hT ha (w := w) (b := b) (off := 0) (cs := cs.toList) (by rw [hlen, hl]) (fun j v hj => by simpa [World.cell?, hh] using hj)
  have hload' : (loadVar ty ⟨b, 0, none⟩).run P w = .ok (.agg cs) w := by simpa [Instr.loadAt, Instr.sureAddr] using hload
  refine ⟨ok.nodefers (by simp), .agg cs, ?_, _, pubG L M, rfl, pubG_wf ok.wf, base_pubG hL ok.base, hs _ _ _ ok.wf ⟨cs, rfl, hds⟩, rc_get ok.wf htg hp⟩
  have e' : a.tmps.getD tm undef = .pointer (some ⟨b, 0, none⟩) := e
  have e'' : a.tmps[tm]?.getD undef = .pointer (some ⟨b, 0, none⟩) := by rw [← Array.getD_eq_getD_getElem?]; exact e'
  simp [results, hr, e'', asAddr, hload']
end
end Go.T

namespace Go.T
open Go Go.RowKit
theorem setRow_set {w : World} {g : Nat} {old : Array Value} {t : TypeId} (cs : Array Value) (hg : w.heap[g]? = some (.cells old t (0, 0))) : w.setRow g cs = { w with heap := w.heap.setIfInBounds g (.cells cs t (0, 0)) } := by
  unfold World.setRow
  congr 1
  obtain ⟨hlt, hv⟩ := Array.getElem?_eq_some_iff.1 hg
  apply Array.ext_getElem?
  intro i
  by_cases e : g = i
  · subst e
    rw [Array.getElem?_modify, if_pos rfl, hg, Array.getElem?_setIfInBounds_self_of_lt hlt]; rfl
  · rw [Array.getElem?_modify, if_neg e, Array.getElem?_setIfInBounds_ne e]
theorem flat_drop {α : Type} (E : El α) : ∀ (xs : List α) (n : Nat), (xs.flatMap E.tys).drop (n * E.size) = (xs.drop n).flatMap E.tys
  | [], n => by simp
  | x :: xs, 0 => by simp
  | x :: xs, n + 1 => by
    rw [List.flatMap_cons, List.drop_succ_cons, ← flat_drop E xs n, List.drop_append, E.len, Nat.succ_mul, List.drop_of_length_le (by rw [E.len]; omega), List.nil_append]
    congr 1; omega
theorem vec_put {α : Type} {E : El α} {xs ys : List α} {w : World} {M : Tags} {cur vs : List Value} {i : Nat} (hd : dens w M (xs.flatMap E.tys) (cur.take (xs.flatMap E.tys).length)) (hv : dens w M (ys.flatMap E.tys) vs) (hi : i + ys.length ≤ xs.length) :
    dens w M ((xs.take i ++ (ys ++ xs.drop (i + ys.length))).flatMap E.tys) ((cur.take (i * E.size) ++ vs ++ cur.drop (i * E.size + vs.length)).take ((xs.take i ++ (ys ++ xs.drop (i + ys.length))).flatMap E.tys).length) := by
  have hvl : vs.length = ys.length * E.size := by rw [dens_len hv, flat_len]
  have hN : (xs.flatMap E.tys).length = xs.length * E.size := flat_len E xs
  have hcl : xs.length * E.size ≤ cur.length := by
    have := dens_len hd
    rw [List.length_take, hN] at this; omega
  have hm : (i + ys.length) * E.size ≤ xs.length * E.size := Nat.mul_le_mul_right _ hi
  have hm2 : (i + ys.length) * E.size = i * E.size + ys.length * E.size := Nat.add_mul _ _ _
  have hxl : (xs.take i ++ (ys ++ xs.drop (i + ys.length))).length = xs.length := by simp; omega
  rw [flat_len E (xs.take i ++ (ys ++ xs.drop (i + ys.length))), hxl, List.flatMap_append, List.flatMap_append]
  have e : (cur.take (i * E.size) ++ vs ++ cur.drop (i * E.size + vs.length)).take (xs.length * E.size) = cur.take (i * E.size) ++ (vs ++ (cur.take (xs.length * E.size)).drop ((i + ys.length) * E.size)) := by
    have l1 : (cur.take (i * E.size)).length = i * E.size := by rw [List.length_take]; omega
    rw [List.append_assoc, List.take_append, List.take_append, l1]
    have e1 : (cur.take (i * E.size)).take (xs.length * E.size) = cur.take (i * E.size) := List.take_of_length_le (by omega)
    have e2 : vs.take (xs.length * E.size - i * E.size) = vs := List.take_of_length_le (by omega)
    rw [e1, e2, hvl, hm2, List.drop_take]
    congr 3; omega
  rw [e]
  rw [hN] at hd
  refine dens_app ?_ (dens_app hv ?_)
  · have := dens_take (i * E.size) hd
    rw [flat_take, List.take_take, Nat.min_eq_left (by omega)] at this; exact this
  · have := dens_drop ((i + ys.length) * E.size) hd
    rw [flat_drop] at this; exact this
section
variable {P : Program} {fr : Fr} {ops : Array Oper} {A : As} {rest : List Oper} {K : As → List (As × Fx) → Prop} {d : Nat} {t ty' : TypeId} {p : String} {e : Array Edge} [T : Tab P]
end
section
variable {P : Program} {A : As} {fn : Func} {n : Nat} {w0 : World} {M0 : Tags} [T : Tab P]
theorem i_rcell2 {tm ty tg Tb t2 : Nat} {l : List Ty} {ti : TI} {r1 r2 : Ty} (hr : fn.results = #[.cell tm ty, .tmp t2]) (ht : Nat.blt tm n = true) (h2 : Nat.blt t2 n = true) (hx : A.slots tm = .ptr tg 0) (hc : A.tag tg = some (.cells Tb l)) (h1 : Tag1 tg) (hT : T.tab[ty]? = some ti) (ha : ti.k.agg = true) (hl : l.length = ti.size) (hs : RetSub (.agg l) r1) (hs2 : RetSub (A.slots t2) r2) :
    Into ⟨n, w0, M0, [], .plain⟩ A (bodyPost P fn (retPost w0 M0 (Ty.tup [r1, r2])) .ret) := by
  intro a w ⟨M, ok, hsl, htg⟩
  have hd := hsl tm (by simpa using ht)
  rw [hx] at hd
  obtain ⟨b, hb, e⟩ := hd
  obtain ⟨b', cs, hb', hh, hds⟩ := htg _ (tag_mem hc)
  obtain ⟨u, rfl⟩ : ∃ u, tg = u + 1 := ⟨tg - 1, by omega⟩
  have := ok.wf.inj b b' u (by omega) hb hb'
  subst this
  have hlen := dens_len hds
  have hload := run_loadN (P := P) hT ha (w := w) (b := b) (off := 0) (cs := cs.toList) (by rw [hlen, hl]) (fun j v hj => by simpa [World.cell?, hh] using hj)
  have hload' : (loadVar ty ⟨b, 0, none⟩).run P w = .ok (.agg cs) w := by simpa [Instr.loadAt, Instr.sureAddr] using hload
  refine ⟨ok.nodefers (by simp), .tuple #[.agg cs, a.tmps.getD t2 undef], ?_, _, pubM M, rfl, pubM_wf ok.wf, base_pub (fr := ⟨n, w0, M0, [], .plain⟩) (fun _ h => h) ok.base, _, rfl, hs _ _ _ ok.wf ⟨cs, rfl, hds⟩, hs2 _ _ _ ok.wf (hsl t2 (by simpa using h2)), trivial⟩
  have e' : a.tmps.getD tm undef = .pointer (some ⟨b, 0, none⟩) := e
  have e'' : a.tmps[tm]?.getD undef = .pointer (some ⟨b, 0, none⟩) := by rw [← Array.getD_eq_getD_getElem?]; exact e'
  simp [results, hr, e'', asAddr, hload']
end
section
variable {P : Program} {fr : Fr} {ops : Array Oper} {A : As} {rest : List Oper} {K : As → List (As × Fx) → Prop} {d : Nat} {t ty' : TypeId} {p : String} {e : Array Edge} [T : Tab P]
theorem r_copyV {α : Type} {E : El α} {zs ys : List α} {x y : Operand} {tg n el st st' Tb : Nat} {ti te : TI} (hx : A.op fr x = .vs tg n) (hy : A.op fr y = .sl E ys) (hc : A.tag tg = some (.vec E Tb zs)) (h1 : Tag1 tg) (hT : T.tab[st]? = some ti) (hk : ti.k = .slice el) (hE : T.tab[el]? = some te) (hs : te.size = E.size) (hn : zs.length = n) (hle : ys.length ≤ n)
    (h : TOps P fr ops rest (A.after { d := some d, ty := .int .i64 (ys.length : Nat), S := [tg], sets := [(tg, .vec E Tb (ys ++ zs.drop ys.length))], rs := opR x ++ opR y, rt := [tg] }) fun A' l'' => K A' ((A, { d := some d, ty := .int .i64 (ys.length : Nat), S := [tg], sets := [(tg, .vec E Tb (ys ++ zs.drop ys.length))], rs := opR x ++ opR y, rt := [tg] }) :: l'')) :
    TOps P fr ops (⟨some d, .call ⟨.builtin .copy, #[x, y], #[st, st']⟩, t, p, e, none⟩ :: rest) A K := by
  refine ⟨_, opT_mem rfl rfl (by simp) (by simpa using h1.1) (by simp) fun a w M wf hr ht => ?_, h⟩
  obtain ⟨hdx, hdy⟩ := op2 hr
  rw [hx] at hdx; rw [hy] at hdy
  obtain ⟨_, D, _, hD, hkd, _⟩ := tab_info hT
  rw [hk] at hkd
  cases D <;> simp only [TK.of, reduceCtorEq, TK.slice.injEq] at hkd
  subst hkd
  rename_i el
  have hsz := fun w => run_sizeOf' (P := P) hE w
  obtain ⟨ad, c, ey, hc1, hc2, hp⟩ := hdy
  have hmin : Nat.min ys.length n = ys.length := Nat.min_eq_left hle
  by_cases hys : ys = []
  · subst hys
    have hl : ∀ (q : Addr), (loadCells q 0).run P w = .ok #[] w := fun q => by simpa using run_loadCells_list (P := P) w q [] (by simp)
    have hrun : (Builtin.copy_ #[st, st'] t #[a.eval x, a.eval y]).run P w = .ok (goInt 0) w := by
      rw [ey]
      rcases hdx with ⟨_, ex⟩ | ⟨b, c', _, ex, _⟩ <;> rw [ex] <;> cases ad <;> simp [Builtin.copy_, run_underlying hD, Builtin.lenOf, Builtin.firstCells, hsz, storeCells, hl]
    refine ⟨goInt 0, w, by simp [execOp, resolve, invoke, builtin, hrun], M, wf, (Le.refl _ _ w M), rfl, ?_⟩
    intro z' hz'
    simp only [List.mem_singleton] at hz'
    subst hz'
    have hv : (Cont.vec E Tb zs).den w M tg := vec_den hc w M ht
    simpa using hv
  · have hpos : 0 < ys.length := List.length_pos_iff.2 hys
    obtain ⟨b', off, rfl, hp'⟩ := hp hpos
    obtain ⟨news, hn1, hn2, hn3⟩ := pub_cells hp' _ (Nat.le_refl _)
    rw [List.take_length] at hn2
    rw [flat_len] at hn1
    rcases hdx with ⟨h0, _⟩ | ⟨b, c', hb, ex, _⟩
    · omega
    rcases vec_den hc w M ht with rfl | ⟨b2, cs, hb2, hh, hd⟩
    · simp at hn; omega
    obtain ⟨u, rfl⟩ : ∃ u, tg = u + 1 := ⟨tg - 1, by omega⟩
    have := wf.inj b b2 u (by omega) hb hb2
    subst this
    have hlen := dens_len hd
    have hm : ys.length * E.size ≤ zs.length * E.size := Nat.mul_le_mul_right _ (by omega)
    have hoff : ys.length * E.size ≤ cs.size := by
      rw [flat_len, List.length_take] at hlen
      simp at hlen; omega
    have hst := run_storeCells_at (P := P) b 0 Tb news 0 cs w hh (by omega) (dens_ones hn2 (flat_ones E ys))
    rw [setRow_set _ hh] at hst
    obtain ⟨h1', h2', h3'⟩ := store_le (cs' := (cs.toList.take (0 + 0) ++ news ++ cs.toList.drop (0 + 0 + news.length)).toArray) (Tb := Tb) wf hb _ rfl
    have hld : (loadCells ⟨b', off, none⟩ (ys.length * E.size)).run P w = .ok news.toArray w := by
      rw [← hn1]
      exact run_loadCells_list (P := P) w _ news (fun j v hj => by rw [Addr.add_lit]; exact hn3 j v hj)
    have hrun : (Builtin.copy_ #[st, st'] t #[a.eval x, a.eval y]).run P w = .ok (goInt ys.length) { w with heap := w.heap.setIfInBounds b (.cells (cs.toList.take (0 + 0) ++ news ++ cs.toList.drop (0 + 0 + news.length)).toArray Tb (0, 0)) } := by
      rw [ex, ey]
      simp only [Builtin.copy_, run_underlying hD, Builtin.lenOf, Builtin.firstCells, hsz, hs, hmin, hld, Sem.run_bind, Sem.run_pure, Result.andThen_ok]
      simp [run_underlying hD, hsz, hs, hmin, hld]
      simp at hst
      rw [hst]
      simp
    refine ⟨goInt ys.length, _, by simp [execOp, resolve, invoke, builtin, hrun], M, h1', h2', rfl, ?_⟩
    intro z' hz'
    simp only [List.mem_singleton] at hz'
    subst hz'
    refine .inr ⟨b, _, hb, h3', ?_⟩
    have hq := vec_put (xs := zs) (ys := ys) (vs := news) (i := 0) hd hn2 (by omega)
    rw [List.take_zero, List.nil_append, Nat.zero_add, Nat.zero_mul] at hq
    exact dens_mono h2' (by intro _ _ h; cases h) (by rw [E.flat_cdeps]; intro _ h; cases h) (by simpa using hq)
end
end Go.T

namespace Go.T
open Go Go.RowKit
section
variable {P : Program} {fr : Fr} {ops : Array Oper} {A : As} {rest : List Oper} {K : As → List (As × Fx) → Prop} {d : Nat} {t ty' ty2 : TypeId} {p : String} {e : Array Edge} {x : Operand}
end
end Go.T

namespace Go.T
open Go Go.RowKit
def dRc (tg n : Nat) (c : Option Nat) (_ : World) (M : Tags) (v : Value) : Prop := match c with
  | none => n = 0 ∧ v = .slice none 0 0
  | some c => ∃ b, M b = some tg ∧ v = .slice (some ⟨b, 0, none⟩) n c ∧ n ≤ c ∧ c ≤ maxLen
def Ty.rc (tg n : Nat) (c : Option Nat) : Ty := ⟨dRc tg n c, [tg], [], fun le hk _ h => by
  cases c with
  | none => exact h
  | some c => obtain ⟨b, h1, h2⟩ := h; exact ⟨b, (le.own b tg h1 (hk tg (by simp))).1, h2⟩, true, fun _ h => by
  cases c with
  | none => obtain ⟨_, rfl⟩ := h; rfl
  | some c => obtain ⟨_, _, rfl, _⟩ := h; rfl⟩
def dRcv {α : Type} (E : El α) (T : Nat) (xs : List α) (c : Option Nat) (w : World) (M : Tags) (t : Nat) : Prop := match c with
  | none => xs = []
  | some c => ∃ b cs, M b = some t ∧ w.heap[b]? = some (.cells cs T (0, 0)) ∧ cs.size = c * E.size ∧ dens w M (xs.flatMap E.tys) (cs.toList.take (xs.flatMap E.tys).length)
def Cont.rcv {α : Type} (E : El α) (T : Nat) (xs : List α) (c : Option Nat) : Cont :=
  { den := dRcv E T xs c, mono := fun le _ _ hs hk h => by
      cases c with
      | none => exact h
      | some c =>
        obtain ⟨b, cs, h1, h2, h3, h4⟩ := h
        obtain ⟨h5, h6⟩ := le.own b _ h1 hk
        exact ⟨b, cs, h5, (h6 hs).trans h2, h3, dens_mono le (by rw [E.flat_deps]; intro _ h; cases h) (by rw [E.flat_cdeps]; intro _ h; cases h) h4⟩ }
theorem Cont.sub_rcv {α : Type} {E : El α} {T : Nat} {xs ys : List α} {c : Option Nat} (h : xs = ys) : (Cont.rcv E T xs c).Sub (Cont.rcv E T ys c) := h ▸ Cont.sub_refl _
theorem rcv_vec {α : Type} {E : El α} {T : Nat} {xs : List α} {c : Option Nat} {w : World} {M : Tags} {t : Nat} (h : dRcv E T xs c w M t) : dVec E T xs w M t := by
  cases c with
  | none => exact .inl h
  | some c => obtain ⟨b, cs, h1, h2, _, h4⟩ := h; exact .inr ⟨b, cs, h1, h2, h4⟩
section
variable {P : Program} {fr : Fr} {A : As} {Q : Exit → Act → World → Prop} {code : Code}
end
section
variable {P : Program} {fr : Fr} {ops : Array Oper} {A : As} {rest : List Oper} {K : As → List (As × Fx) → Prop} {d : Nat} {t ty' ty2 : TypeId} {p : String} {e : Array Edge}
end
section
variable {P : Program} {fr : Fr} {ops : Array Oper} {A : As} {rest : List Oper} {K : As → List (As × Fx) → Prop} {d : Nat} {t ty' ty2 : TypeId} {p : String} {e : Array Edge} [T : Tab P]
theorem r_index_rc {x y : Operand} {tg n : Nat} {c : Option Nat} {k : IntKind} {i : Nat} {ti te : TI} {el : Nat} (hx : A.op fr x = .rc tg n c) (hy : A.op fr y = .int k i) (hT : T.tab[ty']? = some ti) (hk : ti.k = .slice el) (hE : T.tab[el]? = some te) (hi : i < n)
    (h : TOps P fr ops rest (A.set d (.ptr tg (i * te.size))) fun A' l => K A' ((A, { d := some d, ty := .ptr tg (i * te.size), rs := opR x ++ opR y }) :: l)) : TOps P fr ops (⟨some d, .indexAddr ty' x y, t, p, e, none⟩ :: rest) A K :=
  tops_pure (opT_pure (rt := []) rfl rfl fun a w M _ hr _ => by
    obtain ⟨hdx, hdy⟩ := op2 hr
    rw [hx] at hdx; rw [hy] at hdy
    have ey : a.eval y = .int k i := hdy
    cases c with
    | none => obtain ⟨h0, _⟩ := hdx; omega
    | some c =>
      obtain ⟨b, hb, ex, hn, hm⟩ := hdx
      exact ⟨_, by simp only [execOp, ex, ey, Sem.run_bind, run_index_slice hT hk hE (by omega : (0 : Int) ≤ (i : Int)) (by omega : ((i : Nat) : Int).toNat < n)]; rfl, b, hb, by simp [Addr.add_lit]⟩) h
theorem r_len_rc {x : Operand} {tg n : Nat} {c : Option Nat} {ti : TI} {el : Nat} (hx : A.op fr x = .rc tg n c) (hT : T.tab[ty']? = some ti) (hk : ti.k = .slice el)
    (h : TOps P fr ops rest (A.set d (.int .i64 n)) fun A' l => K A' ((A, { d := some d, ty := .int .i64 n, rs := opR x }) :: l)) : TOps P fr ops (⟨some d, .call ⟨.builtin .len, #[x], #[ty']⟩, t, p, e, none⟩ :: rest) A K :=
  tops_pure (opT_pure (rt := []) rfl rfl fun a w M _ hrd _ => by
    have hdx := op_den (x := x) (fun _ h => h) hrd
    rw [hx] at hdx
    obtain ⟨_, D, _, hD, hkd, _⟩ := tab_info hT
    rw [hk] at hkd
    cases D <;> simp only [TK.of, reduceCtorEq, TK.slice.injEq] at hkd
    cases c with
    | none =>
      obtain ⟨h0, ex⟩ := hdx
      exact ⟨.int .i64 n, by simp [execOp, resolve, invoke, builtin, ex, Builtin.len_, run_underlying hD, goInt, h0], rfl⟩
    | some c =>
      obtain ⟨b, _, ex, _⟩ := hdx
      exact ⟨.int .i64 n, by simp [execOp, resolve, invoke, builtin, ex, Builtin.len_, run_underlying hD, goInt], rfl⟩) h
theorem r_load_rc {α : Type} [Inhabited α] {E : El α} {xs : List α} {c : Option Nat} {x : Operand} {tg i o Tb : Nat} {ti : TI} {ty : Ty} (hx : A.op fr x = .ptr tg (i * E.size + o)) (hc : A.tag tg = some (.rcv E Tb xs c)) (h1 : Tag1 tg) (hT : T.tab[ty']? = some ti) (ha : ti.k.agg = false) (hi : i < xs.length) (hl : (E.tys (nth xs i))[o]? = some ty)
    (h : TOps P fr ops rest (A.set d ty) fun A' l => K A' ((A, { d := some d, ty := ty, rs := opR x, rt := [tg] }) :: l)) : TOps P fr ops (⟨some d, .load ty' x, t, p, e, none⟩ :: rest) A K :=
  tops_pure (opT_pure rfl rfl fun a w M wf hr ht => by
    have := op_den (x := x) (fun _ h => h) hr
    rw [hx] at this
    obtain ⟨b, hb, e⟩ := this
    have hcd : dRcv E Tb xs c w M tg := ht _ (tag_mem hc) (by simp)
    obtain ⟨v, hv, hd⟩ := vec_cell wf h1 hb (rcv_vec hcd) (flat_elem E xs hi o ty hl)
    exact ⟨v, by simp [execOp, e, run_load1 hT ha hv], hd⟩) h
theorem r_store_rc {α : Type} [Inhabited α] {E : El α} {xs : List α} {c : Option Nat} {x y : Operand} {tg i o Tb : Nat} {ti : TI} {ty : Ty} {z : α} (hx : A.op fr x = .ptr tg (i * E.size + o)) (hc : A.tag tg = some (.rcv E Tb xs c)) (h1 : Tag1 tg) (hT : T.tab[ty']? = some ti) (hsz : ti.size = 1) (hy : A.op fr y = ty) (ho : ty.one = true) (hi : i < xs.length) (hoe : o < E.size)
    (hdt : disj ty.cdeps [tg] = true) (hl : (E.tys (nth xs i)).set o ty = E.tys z)
    (h : TOps P fr ops rest (A.after { d := none, S := [tg], sets := [(tg, .rcv E Tb (xs.set i z) c)], rs := opR x ++ opR y, rt := [tg] }) fun A' l'' => K A' ((A, { d := none, S := [tg], sets := [(tg, .rcv E Tb (xs.set i z) c)], rs := opR x ++ opR y, rt := [tg] }) :: l'')) :
    TOps P fr ops (⟨none, .store ty' x y, t, p, e, none⟩ :: rest) A K := by
  refine ⟨_, opT_unit rfl rfl rfl (by simp) (by simpa using h1.1) (by simp) fun a w M wf hr ht => ?_, h⟩
  obtain ⟨hdx, hdy⟩ := op2 hr
  rw [hx] at hdx; rw [hy] at hdy
  obtain ⟨b, hb, ex⟩ := hdx
  have hcd : dRcv E Tb xs c w M tg := ht _ (tag_mem hc) (by simp)
  cases c with
  | none => have e2 : xs = [] := hcd; subst e2; exact absurd hi (Nat.not_lt_zero _)
  | some c =>
  obtain ⟨b', cs, hb', hh, hsz2, hd⟩ := hcd
  obtain ⟨u, rfl⟩ : ∃ u, tg = u + 1 := ⟨tg - 1, by omega⟩
  have := wf.inj b b' u (by omega) hb hb'
  subst this
  have hone := ty.isOne ho hdy
  have hlen := dens_len hd
  have hoff : i * E.size + o < cs.size := by
    rw [flat_len, List.length_take] at hlen
    have : (i + 1) * E.size ≤ xs.length * E.size := Nat.mul_le_mul_right _ hi
    rw [Nat.succ_mul] at this
    simp at hlen; omega
  have hcells : (a.eval y).cells = #[a.eval y] := by
    cases hv : a.eval y <;> first | rfl | (rw [hv] at hone; simp [Value.oneCell'] at hone)
  have hcell : w.cell? ⟨b, i * E.size + o, none⟩ = some cs[i * E.size + o] := by simp [World.cell?, hh]
  have hfz : w.frozen? ⟨b, i * E.size + o, none⟩ = false := by simp [World.frozen?, hh]
  obtain ⟨h1', h2', h3'⟩ := store_le wf hb _ (setCell_block hh (off := i * E.size + o) (a.eval y))
  refine ⟨w.setCell ⟨b, i * E.size + o, none⟩ (a.eval y), ?_, M, h1', h2', trivial, ?_⟩
  · have hst := run_store P w ⟨b, i * E.size + o, none⟩ (a.eval y) .plain hone
    rw [hcell] at hst
    simp only [hfz] at hst
    simp [execOp, Instr.storeAt, Instr.sureAddr, ex, storeVar, hcells, run_sizeOf' hT, hsz, storeCells, hst, Addr.add]
  · intro z' hz'
    simp only [List.mem_singleton] at hz'
    subst hz'
    refine ⟨b, _, hb, h3', by simpa using hsz2, ?_⟩
    rw [Array.toList_setIfInBounds, ← flat_set E xs i hi hl hoe, List.length_set, List.take_set]
    exact dens_set (dens_mono h2' (by intro _ _ h; cases h) (by rw [E.flat_cdeps]; intro _ h; cases h) hd) (ty.mono h2' (by intro _ _ h; cases h) (disj_spec hdt) hdy)
end
end Go.T

namespace Go.T
open Go Go.RowKit
section
variable {P : Program} {fr : Fr} {ops : Array Oper} {A : As} {rest : List Oper} {K : As → List (As × Fx) → Prop} {d : Nat} {t : TypeId} {p : String} {e : Array Edge} {y : Operand}
end
end Go.T

namespace Go.T
open Go Go.RowKit
structure ElJ (α : Type) where
  E : El α
  own : Nat → α → List Ty
  olen : ∀ J x, (own J x).length = E.size
  deps : ∀ J x, ∀ u ∈ depsOf (own J x), u = J
  cdeps : ∀ J x, ∀ u ∈ cdepsOf (own J x), u = J
  oones : ∀ J x, (own J x).all Ty.one = true
  pub : ∀ J x w M M' vs, Wf w M → (∀ b, M b = some J → M' b = none) → (∀ b, M b = none → M' b = none) → dens w M (own J x) vs → dens w M' (E.tys x) vs
  ren : ∀ J J' x w M M' vs, (∀ b, M b = some J → M' b = some J') → (∀ b, M b = none → M' b = none) → dens w M (own J x) vs → dens w M' (own J' x) vs
  mine : ∀ J x w M vs, dens w M (own J x) vs → ∀ g ∈ vs.filterMap Value.ownBlock, M g = some J
section
variable {α : Type} (E : ElJ α)
theorem ElJ.flat_deps (J : Nat) (xs : List α) : ∀ u ∈ depsOf (xs.flatMap (E.own J)), u = J := by
  intro u hu
  simp only [depsOf, List.mem_flatMap] at hu
  obtain ⟨t, ⟨x, _, hx⟩, hu⟩ := hu
  exact E.deps J x u (List.mem_flatMap.2 ⟨t, hx, hu⟩)
theorem ElJ.flat_cdeps (J : Nat) (xs : List α) : ∀ u ∈ cdepsOf (xs.flatMap (E.own J)), u = J := by
  intro u hu
  simp only [cdepsOf, List.mem_flatMap] at hu
  obtain ⟨t, ⟨x, _, hx⟩, hu⟩ := hu
  exact E.cdeps J x u (List.mem_flatMap.2 ⟨t, hx, hu⟩)
theorem ElJ.flat_len (J : Nat) : ∀ xs : List α, (xs.flatMap (E.own J)).length = xs.length * E.E.size
  | [] => by simp
  | x :: xs => by rw [List.flatMap_cons, List.length_append, E.olen, ElJ.flat_len J xs, List.length_cons, Nat.succ_mul, Nat.add_comm]
end
section
variable {P : Program} {fr : Fr} {ops : Array Oper} {A : As} {rest : List Oper} {K : As → List (As × Fx) → Prop} {d : Nat} {t ty' : TypeId} {p : String} {e : Array Edge} [T : Tab P]
end
end Go.T

namespace Go.Proofs.YtjjndkenddigiaaGreatDoor
open Go Go.T
set_option maxHeartbeats 2000000
theorem und22 : Tryz.prog.underlying 22 = some (.slice 3) := by kernel_rfl
theorem und81 : Tryz.prog.underlying 81 = some (.slice 5) := by kernel_rfl
theorem und25 : Tryz.prog.underlying 25 = some (.slice 66) := by kernel_rfl
theorem und4 : Tryz.prog.underlying 4 = some .bool := by kernel_rfl
theorem foldl_take {α : Type} [Inhabited α] {f : Int → α → Int} {n : Int} {l : List α} {k : Nat} (h : k < l.length) : (l.take (k + 1)).foldl f n = f ((l.take k).foldl f n) (nth l k) := by rw [take_nth h, List.foldl_append]; rfl
theorem any_pos {α : Type} {q : α → Bool} {l : List α} {x : α} (hx : x ∈ l) (h : q x = true) : l.any q = true := List.any_eq_true.2 ⟨x, hx, h⟩
theorem rng_ext {q : Nat → Bool} {k : Nat} (h : ∀ i, i < k → q i = false) (hq : q k = false) : ∀ i, i < k + 1 → q i = false := fun i hi => by
  by_cases e : i = k
  · subst e; exact hq
  · exact h i (by omega)
theorem rng_neg {q : Nat → Bool} {n k : Nat} (h : ∀ i, i < k → q i = false) (hk : n ≤ k) : (List.range n).any q = false := by
  rw [List.any_eq_false]; intro i hi; rw [List.mem_range] at hi; rw [h i (by omega)]; decide
theorem rng_at {q : Nat → Bool} {n k : Nat} (hk : k < n) (hq : q k = true) : (List.range n).any q = true := any_pos (List.mem_range.2 hk) hq
theorem firstY_at {f : BForm} : ∀ {l : List BRow} {k : Nat}, (∀ i, i < k → rowY f (nth l i) = 0) → k < l.length → rowY f (nth l k) ≠ 0 → firstY f l = rowY f (nth l k)
  | [], k, _, hk, _ => absurd hk (Nat.not_lt_zero _)
  | r :: l, 0, _, _, hq => by
    have hq : ¬ rowY f r = 0 := hq
    rw [firstY, if_neg hq]; rfl
  | r :: l, k + 1, h, hk, hq => by
    have h0 : rowY f r = 0 := h 0 (by omega)
    rw [firstY, if_pos h0]
    exact firstY_at (fun i hi => h (i + 1) (by omega)) (by simpa using hk) hq
theorem firstY_none {f : BForm} {l : List BRow} {k : Nat} (h : ∀ i, i < k → rowY f (nth l i) = 0) (hk : l.length ≤ k) : firstY f l = 0 := by
  rw [firstY_zero]
  intro r hr
  obtain ⟨i, hi, rfl⟩ := List.getElem_of_mem hr
  have := h i (by omega)
  rw [nth, List.getD_eq_getElem?_getD, List.getElem?_eq_getElem hi] at this
  exact rowY_zero.1 this
attribute [local irreducible] dInt dBool dSl dPp dPtr dAgg dTup dClo dAny dEx dStr dGd dCells dVec dVs dRow dOp nth Tri Into TOps Ctr bodyPost Exit.then Exit.inBlock Code.wp Code.wpIn dPa dArr dMp dMap CtrG keepPost iterPost bodyPostM roundQ
set_option maxRecDepth 100000 in
theorem c_IndexFunc_int (l : List Int) (t : Ty) (h1 : t.one = true) (q : Int → Bool) (hd : t.deps = []) (hc : t.cdeps = []) (hf : ∀ x ∈ l, Cal Tryz.prog t [Ty.int .i64 x] (Ty.bool (q x))) : Ctr Tryz.prog 153 [Ty.sl I64 l, t] (Ty.int .i64 (fidx q l)) := by
  refine fn_intro Tryz.func153 rfl (by decide) Tryz.ntmps153 (by exact Nat.le_of_ble_eq_true rfl) fun w0 M0 => ?_
  refine t_fact (s := 0) rfl rfl sl_len fun hl => ?_
  refine t_seq ?_
  refine t_region ?_
  refine asI rfl ?_
  refine r_nil ?_
  refine i_then ?_
  refine t_seq ?_
  refine t_seq ?_
  refine t_region ?_
  refine mvS rfl ?_
  refine r_len rfl rfl rfl ?_
  refine mvI rfl ?_
  refine r_nil ?_
  refine i_then ?_
  refine t_block ?_
  refine t_loop (fun (k : {k : Nat // ∀ x ∈ l.take k, q x = false}) => live [(0, Ty.sl I64 l), (1, t), (7, Ty.int .i64 l.length), (8, Ty.int .i64 (k.1 : Nat))] []) (fun k => l.length - k.1) (⟨0, by simp⟩) ?_ fun k => ?_
  · (refine Ent.mk' ?_ ?_ <;> (repeat' (first | exact allSub_zero | exact allTags_nil | refine allSub_succ' ?_ (Ty.sub_any _) | refine allSub_succ' ?_ (Ty.sub_refl _))))
  ·
    refine t_seq ?_
    refine t_region ?_
    refine r_bin rfl rfl rfl ?_
    refine r_nil ?_
    refine i_then ?_
    refine t_seq ?_
    refine t_cond_dec rfl (fun hc1 => ?_) (fun hc1 => ?_)
    ·
      refine t_skip ?_
      refine i_then ?_
      refine t_seq ?_
      refine t_block ?_
      refine t_seq ?_
      refine t_region ?_
      refine mvI rfl ?_
      refine asI rfl ?_
      refine r_nil ?_
      refine i_then ?_
      refine t_seq ?_
      refine t_region ?_
      refine r_move (ty := t) rfl ?_
      refine mvS rfl ?_
      refine mvI rfl ?_
      refine r_index_slN rfl rfl rfl rfl rfl rfl (by omega) ?_
      refine r_load_pp rfl rfl rfl rfl ?_
      refine r_callc rfl (hf _ (nth_mem (by omega))) rfl ?_
      refine r_nil ?_
      refine i_then ?_
      refine t_cond rfl (fun hc2 => ?_) (fun hc2 => ?_)
      ·
        refine t_seq ?_
        refine t_region ?_
        refine mvI rfl ?_
        refine asI rfl ?_
        refine r_nil ?_
        refine i_then ?_
        refine t_ret ?_
        refine i_block_ret ?_
        refine i_then_ret ?_
        refine i_then_ret ?_
        refine i_block_ret ?_
        refine i_then_ret ?_
        refine i_rp1 rfl rfl ?_
        all_goals skip
        exact ret_eq rfl rfl (congrArg (Ty.int .i64) (fidx_found (by omega) k.2 (by rw [← nth_lt]; exact hc2)).symm)
      ·
        refine t_skip ?_
        refine i_block ?_
        refine i_then ?_
        refine t_region ?_
        refine r_add rfl rfl (by omega) (by omega) ?_
        refine mvI rfl ?_
        refine r_nil ?_
        refine i_round (⟨k.1 + 1, by rw [take_nth (by omega)]; intro x hx; rcases List.mem_append.1 hx with h | h; exact k.2 x h; rw [List.mem_singleton.1 h]; exact hc2⟩) ?_ (by show l.length - (k.1 + 1) < l.length - k.1; omega)
        (refine Ent.mk' ?_ ?_ <;> (repeat' (first | exact allSub_zero | exact allTags_nil | refine allSub_succ' ?_ (Ty.sub_any _) | refine allSub_succ' ?_ (Ty.sub_refl _))))
        all_goals skip
    ·
      refine t_exit ?_
      refine i_then_exit ?_
      refine i_then_exit ?_
      refine i_block_exit rfl ?_
      refine i_then ?_
      refine t_seq ?_
      refine t_region ?_
      refine asI rfl ?_
      refine r_nil ?_
      refine i_then ?_
      refine t_ret ?_
      refine i_rp1 rfl rfl ?_
      all_goals skip
      exact ret_eq rfl rfl (congrArg (Ty.int .i64) (fidx_none (by have := k.2; rwa [List.take_of_length_le (by omega)] at this)).symm)
set_option maxRecDepth 100000 in
theorem c_ContainsFunc_int (l : List Int) (t : Ty) (h1 : t.one = true) (q : Int → Bool) (hd : t.deps = []) (hc : t.cdeps = []) (hf : ∀ x ∈ l, Cal Tryz.prog t [Ty.int .i64 x] (Ty.bool (q x))) : Ctr Tryz.prog 131 [Ty.sl I64 l, t] (Ty.bool (l.any q)) := by
  refine fn_intro Tryz.func131 rfl (by decide) Tryz.ntmps131 (by exact Nat.le_of_ble_eq_true rfl) fun w0 M0 => ?_
  refine t_seq ?_
  refine t_region ?_
  refine asB rfl ?_
  refine r_nil ?_
  refine i_then ?_
  refine t_seq ?_
  refine t_region ?_
  refine mvS rfl ?_
  refine r_move (ty := t) rfl ?_
  refine r_call (c_IndexFunc_int l t h1 q hd hc hf) rfl (by exact deps_cons rfl (deps_cons hd rfl)) (by exact cdeps_cons rfl (cdeps_cons hc rfl)) rfl rfl ?_
  refine r_bin rfl rfl rfl ?_
  refine asB rfl ?_
  refine r_nil ?_
  refine i_then ?_
  refine t_ret ?_
  refine i_rp1 rfl rfl ?_
  all_goals skip
  exact ret_eq rfl rfl (congrArg Ty.bool (fidx_ge q l))
set_option maxRecDepth 100000 in
theorem c_Equal_int (a b : List Int) : Ctr Tryz.prog 48 [Ty.sl I64 a, Ty.sl I64 b] (Ty.bool (decide (a = b))) := by
  refine fn_intro Tryz.func48 rfl (by decide) Tryz.ntmps48 (by exact Nat.le_of_ble_eq_true rfl) fun w0 M0 => ?_
  refine t_fact (s := 0) rfl rfl sl_len fun ha => ?_
  refine t_fact (s := 1) rfl rfl sl_len fun hb => ?_
  refine t_seq ?_
  refine t_region ?_
  refine asB rfl ?_
  refine r_nil ?_
  refine i_then ?_
  refine t_seq ?_
  refine t_seq ?_
  refine t_region ?_
  refine mvS rfl ?_
  refine r_len rfl rfl rfl ?_
  refine mvS rfl ?_
  refine r_len rfl rfl rfl ?_
  refine r_bin rfl rfl rfl ?_
  refine r_nil ?_
  refine i_then ?_
  refine t_cond_ndec rfl (fun hc1 => ?_) (fun hc1 => ?_)
  ·
    try (simp only [Classical.not_not] at hc1)
    refine t_seq ?_
    refine t_region ?_
    refine asB rfl ?_
    refine r_nil ?_
    refine i_then ?_
    refine t_ret ?_
    refine i_then_ret ?_
    refine i_rp1 rfl rfl ?_
    all_goals skip
    exact ret_eq rfl rfl (congrArg Ty.bool (by rw [eq_comm, decide_eq_false_iff_not]; intro e; subst e; exact hc1 rfl))
  ·
    try (simp only [Classical.not_not] at hc1)
    refine t_skip ?_
    refine i_then ?_
    refine t_seq ?_
    refine t_seq ?_
    refine t_region ?_
    refine mvS rfl ?_
    refine r_len rfl rfl rfl ?_
    refine mvI rfl ?_
    refine r_nil ?_
    refine i_then ?_
    refine t_block ?_
    refine t_loop (fun (k : {k : Nat // a.take k = b.take k}) => live [(0, Ty.sl I64 a), (1, Ty.sl I64 b), (12, Ty.int .i64 a.length), (13, Ty.int .i64 (k.1 : Nat))] []) (fun k => a.length - k.1) (⟨0, by simp⟩) ?_ fun k => ?_
    · (refine Ent.mk' ?_ ?_ <;> (repeat' (first | exact allSub_zero | exact allTags_nil | refine allSub_succ' ?_ (Ty.sub_any _) | refine allSub_succ' ?_ (Ty.sub_refl _))))
    ·
      have hlen : a.length = b.length := by omega
      refine t_seq ?_
      refine t_region ?_
      refine r_bin rfl rfl rfl ?_
      refine r_nil ?_
      refine i_then ?_
      refine t_seq ?_
      refine t_cond_dec rfl (fun hc2 => ?_) (fun hc2 => ?_)
      ·
        try (simp only [Classical.not_not] at hc2)
        refine t_skip ?_
        refine i_then ?_
        refine t_seq ?_
        refine t_block ?_
        refine t_seq ?_
        refine t_region ?_
        refine mvI rfl ?_
        refine asI rfl ?_
        refine r_nil ?_
        refine i_then ?_
        refine t_seq ?_
        refine t_draw mixed rfl ?_
        refine mvS rfl ?_
        refine mvI rfl ?_
        refine r_index_slN rfl rfl rfl rfl rfl rfl (by omega) ?_
        refine r_load_pp rfl rfl rfl rfl ?_
        refine mvS rfl ?_
        refine mvI rfl ?_
        refine r_index_slN rfl rfl rfl rfl rfl rfl (by omega) ?_
        refine r_load_pp rfl rfl rfl rfl ?_
        refine r_bin rfl rfl rfl ?_
        refine r_nil ?_
        refine ⟨by kernel_rfl, ?_⟩
        refine i_then ?_
        refine t_cond_ndec rfl (fun hc3 => ?_) (fun hc3 => ?_)
        ·
          try (simp only [Classical.not_not] at hc3)
          refine t_seq ?_
          refine t_region ?_
          refine asB rfl ?_
          refine r_nil ?_
          refine i_then ?_
          refine t_ret ?_
          refine i_block_ret ?_
          refine i_then_ret ?_
          refine i_then_ret ?_
          refine i_block_ret ?_
          refine i_then_ret ?_
          refine i_rp1 rfl rfl ?_
          all_goals skip
          exact ret_eq rfl rfl (congrArg Ty.bool (by rw [eq_comm, decide_eq_false_iff_not]; exact ne_of_nth (k := k.1) (hc3)))
        ·
          try (simp only [Classical.not_not] at hc3)
          refine t_skip ?_
          refine i_block ?_
          refine i_then ?_
          refine t_region ?_
          refine r_add rfl rfl (by omega) (by omega) ?_
          refine mvI rfl ?_
          refine r_nil ?_
          refine i_round (⟨k.1 + 1, by rw [take_nth (by omega), take_nth (by omega), k.2, hc3]⟩) ?_ (by show a.length - (k.1 + 1) < a.length - k.1; omega)
          (refine Ent.mk' ?_ ?_ <;> (repeat' (first | exact allSub_zero | exact allTags_nil | refine allSub_succ' ?_ (Ty.sub_any _) | refine allSub_succ' ?_ (Ty.sub_refl _))))
          all_goals skip
      ·
        try (simp only [Classical.not_not] at hc2)
        refine t_exit ?_
        refine i_then_exit ?_
        refine i_then_exit ?_
        refine i_block_exit rfl ?_
        refine i_then ?_
        refine t_seq ?_
        refine t_region ?_
        refine asB rfl ?_
        refine r_nil ?_
        refine i_then ?_
        refine t_ret ?_
        refine i_rp1 rfl rfl ?_
        all_goals skip
        exact ret_eq rfl rfl (congrArg Ty.bool (by rw [eq_comm, decide_eq_true_eq]; have := k.2; rwa [List.take_of_length_le (by omega), List.take_of_length_le (by omega)] at this))
set_option maxRecDepth 100000 in
theorem c_Equal_str (a b : List Byt) : Ctr Tryz.prog 65 [Ty.sl StrE a, Ty.sl StrE b] (Ty.bool (decide (a = b))) := by
  refine fn_intro Tryz.func65 rfl (by decide) Tryz.ntmps65 (by exact Nat.le_of_ble_eq_true rfl) fun w0 M0 => ?_
  refine t_fact (s := 0) rfl rfl sl_len fun ha => ?_
  refine t_fact (s := 1) rfl rfl sl_len fun hb => ?_
  refine t_seq ?_
  refine t_region ?_
  refine asB rfl ?_
  refine r_nil ?_
  refine i_then ?_
  refine t_seq ?_
  refine t_seq ?_
  refine t_region ?_
  refine mvS rfl ?_
  refine r_len rfl rfl rfl ?_
  refine mvS rfl ?_
  refine r_len rfl rfl rfl ?_
  refine r_bin rfl rfl rfl ?_
  refine r_nil ?_
  refine i_then ?_
  refine t_cond_ndec rfl (fun hc1 => ?_) (fun hc1 => ?_)
  ·
    try (simp only [Classical.not_not] at hc1)
    refine t_seq ?_
    refine t_region ?_
    refine asB rfl ?_
    refine r_nil ?_
    refine i_then ?_
    refine t_ret ?_
    refine i_then_ret ?_
    refine i_rp1 rfl rfl ?_
    all_goals skip
    exact ret_eq rfl rfl (congrArg Ty.bool (by rw [eq_comm, decide_eq_false_iff_not]; intro e; subst e; exact hc1 rfl))
  ·
    try (simp only [Classical.not_not] at hc1)
    refine t_skip ?_
    refine i_then ?_
    refine t_seq ?_
    refine t_seq ?_
    refine t_region ?_
    refine mvS rfl ?_
    refine r_len rfl rfl rfl ?_
    refine mvI rfl ?_
    refine r_nil ?_
    refine i_then ?_
    refine t_block ?_
    refine t_loop (fun (k : {k : Nat // a.take k = b.take k}) => live [(0, Ty.sl StrE a), (1, Ty.sl StrE b), (12, Ty.int .i64 a.length), (13, Ty.int .i64 (k.1 : Nat))] []) (fun k => a.length - k.1) (⟨0, by simp⟩) ?_ fun k => ?_
    · (refine Ent.mk' ?_ ?_ <;> (repeat' (first | exact allSub_zero | exact allTags_nil | refine allSub_succ' ?_ (Ty.sub_any _) | refine allSub_succ' ?_ (Ty.sub_refl _))))
    ·
      have hlen : a.length = b.length := by omega
      refine t_seq ?_
      refine t_region ?_
      refine r_bin rfl rfl rfl ?_
      refine r_nil ?_
      refine i_then ?_
      refine t_seq ?_
      refine t_cond_dec rfl (fun hc2 => ?_) (fun hc2 => ?_)
      ·
        try (simp only [Classical.not_not] at hc2)
        refine t_skip ?_
        refine i_then ?_
        refine t_seq ?_
        refine t_block ?_
        refine t_seq ?_
        refine t_region ?_
        refine mvI rfl ?_
        refine asI rfl ?_
        refine r_nil ?_
        refine i_then ?_
        refine t_seq ?_
        refine t_draw mixed rfl ?_
        refine mvS rfl ?_
        refine mvI rfl ?_
        refine r_index_slN rfl rfl rfl rfl rfl rfl (by omega) ?_
        refine r_load_pp rfl rfl rfl rfl ?_
        refine mvS rfl ?_
        refine mvI rfl ?_
        refine r_index_slN rfl rfl rfl rfl rfl rfl (by omega) ?_
        refine r_load_pp rfl rfl rfl rfl ?_
        refine r_neqS rfl rfl ?_
        refine r_nil ?_
        refine ⟨by kernel_rfl, ?_⟩
        refine i_then ?_
        refine t_cond_ndec rfl (fun hc3 => ?_) (fun hc3 => ?_)
        ·
          try (simp only [Classical.not_not] at hc3)
          refine t_seq ?_
          refine t_region ?_
          refine asB rfl ?_
          refine r_nil ?_
          refine i_then ?_
          refine t_ret ?_
          refine i_block_ret ?_
          refine i_then_ret ?_
          refine i_then_ret ?_
          refine i_block_ret ?_
          refine i_then_ret ?_
          refine i_rp1 rfl rfl ?_
          all_goals skip
          exact ret_eq rfl rfl (congrArg Ty.bool (by rw [eq_comm, decide_eq_false_iff_not]; exact ne_of_nth (k := k.1) hc3))
        ·
          try (simp only [Classical.not_not] at hc3)
          refine t_skip ?_
          refine i_block ?_
          refine i_then ?_
          refine t_region ?_
          refine r_add rfl rfl (by omega) (by omega) ?_
          refine mvI rfl ?_
          refine r_nil ?_
          refine i_round (⟨k.1 + 1, by rw [take_nth (by omega), take_nth (by omega), k.2, hc3]⟩) ?_ (by show a.length - (k.1 + 1) < a.length - k.1; omega)
          (refine Ent.mk' ?_ ?_ <;> (repeat' (first | exact allSub_zero | exact allTags_nil | refine allSub_succ' ?_ (Ty.sub_any _) | refine allSub_succ' ?_ (Ty.sub_refl _))))
          all_goals skip
      ·
        try (simp only [Classical.not_not] at hc2)
        refine t_exit ?_
        refine i_then_exit ?_
        refine i_then_exit ?_
        refine i_block_exit rfl ?_
        refine i_then ?_
        refine t_seq ?_
        refine t_region ?_
        refine asB rfl ?_
        refine r_nil ?_
        refine i_then ?_
        refine t_ret ?_
        refine i_rp1 rfl rfl ?_
        all_goals skip
        exact ret_eq rfl rfl (congrArg Ty.bool (by rw [eq_comm, decide_eq_true_eq]; have := k.2; rwa [List.take_of_length_le (by omega), List.take_of_length_le (by omega)] at this))
set_option maxRecDepth 100000 in
theorem c_Eq_int (a b : List Int) : Ctr Tryz.prog 32 [Ty.sl I64 a, Ty.sl I64 b] (Ty.bool (decide (a = b))) := by
  refine fn_intro Tryz.func32 rfl (by decide) Tryz.ntmps32 (by exact Nat.le_of_ble_eq_true rfl) fun w0 M0 => ?_
  refine t_seq ?_
  refine t_region ?_
  refine asB rfl ?_
  refine r_nil ?_
  refine i_then ?_
  refine t_seq ?_
  refine t_region ?_
  refine mvS rfl ?_
  refine mvS rfl ?_
  refine r_call (c_Equal_int _ _) rfl rfl rfl rfl rfl ?_
  refine asB rfl ?_
  refine r_nil ?_
  refine i_then ?_
  refine t_ret ?_
  refine i_rp1 rfl rfl ?_
  all_goals exact ret_refl rfl rfl
set_option maxRecDepth 100000 in
theorem c_EqRows (a b : List (List Int)) : Ctr Tryz.prog 18 [Ty.sl RowE a, Ty.sl RowE b] (Ty.bool (decide (a = b))) := by
  refine fn_intro Tryz.func18 rfl (by decide) Tryz.ntmps18 (by exact Nat.le_of_ble_eq_true rfl) fun w0 M0 => ?_
  refine t_fact (s := 0) rfl rfl sl_len fun ha => ?_
  refine t_fact (s := 1) rfl rfl sl_len fun hb => ?_
  refine t_seq ?_
  refine t_region ?_
  refine asB rfl ?_
  refine r_nil ?_
  refine i_then ?_
  refine t_seq ?_
  refine t_seq ?_
  refine t_region ?_
  refine mvS rfl ?_
  refine r_len rfl rfl rfl ?_
  refine mvS rfl ?_
  refine r_len rfl rfl rfl ?_
  refine r_bin rfl rfl rfl ?_
  refine r_nil ?_
  refine i_then ?_
  refine t_cond_ndec rfl (fun hc1 => ?_) (fun hc1 => ?_)
  ·
    try (simp only [Classical.not_not] at hc1)
    refine t_seq ?_
    refine t_region ?_
    refine asB rfl ?_
    refine r_nil ?_
    refine i_then ?_
    refine t_ret ?_
    refine i_then_ret ?_
    refine i_rp1 rfl rfl ?_
    all_goals skip
    exact ret_eq rfl rfl (congrArg Ty.bool (by rw [eq_comm, decide_eq_false_iff_not]; intro e; subst e; exact hc1 rfl))
  ·
    try (simp only [Classical.not_not] at hc1)
    refine t_skip ?_
    refine i_then ?_
    refine t_seq ?_
    refine t_seq ?_
    refine t_region ?_
    refine mvS rfl ?_
    refine r_len rfl rfl rfl ?_
    refine mvI rfl ?_
    refine r_nil ?_
    refine i_then ?_
    refine t_block ?_
    refine t_loop (fun (k : {k : Nat // a.take k = b.take k}) => live [(0, Ty.sl RowE a), (1, Ty.sl RowE b), (12, Ty.sl RowE a), (13, Ty.int .i64 a.length), (14, Ty.int .i64 (k.1 : Nat))] []) (fun k => a.length - k.1) (⟨0, by simp⟩) ?_ fun k => ?_
    · (refine Ent.mk' ?_ ?_ <;> (repeat' (first | exact allSub_zero | exact allTags_nil | refine allSub_succ' ?_ (Ty.sub_any _) | refine allSub_succ' ?_ (Ty.sub_refl _))))
    ·
      have hlen : a.length = b.length := by omega
      refine t_seq ?_
      refine t_region ?_
      refine r_bin rfl rfl rfl ?_
      refine r_nil ?_
      refine i_then ?_
      refine t_seq ?_
      refine t_cond_dec rfl (fun hc2 => ?_) (fun hc2 => ?_)
      ·
        try (simp only [Classical.not_not] at hc2)
        refine t_skip ?_
        refine i_then ?_
        refine t_seq ?_
        refine t_block ?_
        refine t_seq ?_
        refine t_region ?_
        refine mvI rfl ?_
        refine r_index_slN rfl rfl rfl rfl rfl rfl (by omega) ?_
        refine r_load_pp rfl rfl rfl rfl ?_
        refine asI rfl ?_
        refine asS rfl ?_
        refine r_nil ?_
        refine i_then ?_
        refine t_seq ?_
        refine t_region ?_
        refine mvS rfl ?_
        refine mvS rfl ?_
        refine mvI rfl ?_
        refine r_index_slN rfl rfl rfl rfl rfl rfl (by omega) ?_
        refine r_load_pp rfl rfl rfl rfl ?_
        refine r_call (c_Equal_int _ _) rfl rfl rfl rfl rfl ?_
        refine r_not rfl ?_
        refine r_nil ?_
        refine i_then ?_
        refine t_cond_ndec rfl (fun hc3 => ?_) (fun hc3 => ?_)
        ·
          try (simp only [Classical.not_not] at hc3)
          refine t_seq ?_
          refine t_region ?_
          refine asB rfl ?_
          refine r_nil ?_
          refine i_then ?_
          refine t_ret ?_
          refine i_block_ret ?_
          refine i_then_ret ?_
          refine i_then_ret ?_
          refine i_block_ret ?_
          refine i_then_ret ?_
          refine i_rp1 rfl rfl ?_
          all_goals skip
          exact ret_eq rfl rfl (congrArg Ty.bool (by rw [eq_comm, decide_eq_false_iff_not]; exact ne_of_nth (k := k.1) hc3))
        ·
          try (simp only [Classical.not_not] at hc3)
          refine t_skip ?_
          refine i_block ?_
          refine i_then ?_
          refine t_region ?_
          refine r_add rfl rfl (by omega) (by omega) ?_
          refine mvI rfl ?_
          refine r_nil ?_
          refine i_round (⟨k.1 + 1, by rw [take_nth (by omega), take_nth (by omega), k.2, hc3]⟩) ?_ (by show a.length - (k.1 + 1) < a.length - k.1; omega)
          (refine Ent.mk' ?_ ?_ <;> (repeat' (first | exact allSub_zero | exact allTags_nil | refine allSub_succ' ?_ (Ty.sub_any _) | refine allSub_succ' ?_ (Ty.sub_refl _))))
          all_goals skip
      ·
        try (simp only [Classical.not_not] at hc2)
        refine t_exit ?_
        refine i_then_exit ?_
        refine i_then_exit ?_
        refine i_block_exit rfl ?_
        refine i_then ?_
        refine t_seq ?_
        refine t_region ?_
        refine asB rfl ?_
        refine r_nil ?_
        refine i_then ?_
        refine t_ret ?_
        refine i_rp1 rfl rfl ?_
        all_goals skip
        exact ret_eq rfl rfl (congrArg Ty.bool (by rw [eq_comm, decide_eq_true_eq]; have := k.2; rwa [List.take_of_length_le (by omega), List.take_of_length_le (by omega)] at this))
set_option maxRecDepth 100000 in
theorem c_Clone_int (l : List Int) (h : l.length ≤ 1000) : Ctr Tryz.prog 75 [Ty.sl I64 l] (Ty.sl I64 l) := by
  refine fn_intro Tryz.func75 rfl (by decide) Tryz.ntmps75 (by exact Nat.le_of_ble_eq_true rfl) fun w0 M0 => ?_
  refine t_seq ?_
  refine t_region ?_
  refine asX rfl ?_
  refine r_nil ?_
  refine i_then ?_
  refine t_seq ?_
  refine t_seq ?_
  refine t_region ?_
  refine mvS rfl ?_
  refine r_eqnil und22 rfl ?_
  refine r_nil ?_
  refine i_then ?_
  refine t_cond_nb rfl (fun hc1 => ?_) (fun hc1 => ?_)
  ·
    refine t_seq ?_
    refine t_region ?_
    refine asX rfl ?_
    refine r_nil ?_
    refine i_then ?_
    refine t_ret ?_
    refine i_then_ret ?_
    refine i_rp1 rfl rfl ?_
    all_goals skip
    exact ret_nil_eq hc1
  ·
    refine t_skip ?_
    refine i_then ?_
    refine t_seq ?_
    refine t_region ?_
    refine r_buildRow (E := I64) rfl rfl rfl rfl ?_
    refine mvS rfl ?_
    refine r_append rfl rfl (by decide) rfl rfl rfl rfl rfl rfl (by decide) (by (simp <;> omega)) (by (simp <;> omega)) ?_
    refine asR rfl ?_
    refine r_nil ?_
    refine i_then ?_
    refine t_ret ?_
    refine i_rp1 rfl rfl ?_
    all_goals exact ret_row (by decide)
    skip
set_option maxRecDepth 100000 in
theorem c_in (n lo hi : Int) : Ctr Tryz.prog 87 [Ty.int .i64 n, Ty.int .i64 lo, Ty.int .i64 hi] (Ty.bool (inB n lo hi)) := by
  refine fn_intro Tryz.func87 rfl (by decide) Tryz.ntmps87 (by exact Nat.le_of_ble_eq_true rfl) fun w0 M0 => ?_
  refine t_seq ?_
  refine t_region ?_
  refine asB rfl ?_
  refine r_nil ?_
  refine i_then ?_
  refine t_seq ?_
  refine t_region ?_
  refine mvI rfl ?_
  refine mvI rfl ?_
  refine r_bin rfl rfl rfl ?_
  refine mvB rfl ?_
  apply r_guard (s := 10) rfl rfl rfl
  · intro hg; apply opT_of; (refine mvI rfl ?_); refine r_nil ?_; exact rfl
  · exact rfl
  · exact rfl
  apply r_guard (s := 10) rfl rfl rfl
  · intro hg; apply opT_of; (refine mvI rfl ?_); refine r_nil ?_; exact rfl
  · exact rfl
  · exact rfl
  apply r_guard (s := 10) rfl rfl rfl
  · intro hg; apply opT_strip (s := 11) rfl (by (rw [hg]; rfl)); apply opT_strip (s := 12) rfl (by (rw [hg]; rfl)); apply opT_of; (refine r_bin rfl rfl rfl ?_); refine r_nil ?_; exact rfl
  · exact rfl
  · exact rfl
  refine r_and rfl rfl ?_
  refine asB rfl ?_
  refine r_nil ?_
  refine i_then ?_
  refine t_ret ?_
  refine i_rp1 rfl rfl ?_
  all_goals exact ret_refl rfl rfl
set_option maxRecDepth 100000 in
theorem c_every1_int (x : Int) (t : Ty) (h1 : t.one = true) (b : Bool) (hd : t.deps = []) (hc : t.cdeps = []) (hf : Cal Tryz.prog t [Ty.int .i64 x] (Ty.bool b)) : Ctr Tryz.prog 132 [Ty.int .i64 x, Ty.pp [t]] (Ty.bool (!b)) := by
  refine fn_intro Tryz.func132 rfl (by decide) Tryz.ntmps132 (by exact Nat.le_of_ble_eq_true rfl) fun w0 M0 => ?_
  refine t_seq ?_
  refine t_region ?_
  refine asB rfl ?_
  refine r_nil ?_
  refine i_then ?_
  refine t_seq ?_
  refine t_region ?_
  refine r_load_pp rfl rfl rfl rfl ?_
  refine mvI rfl ?_
  refine r_callc rfl hf rfl ?_
  refine r_not rfl ?_
  refine asB rfl ?_
  refine r_nil ?_
  refine i_then ?_
  refine t_ret ?_
  refine i_rp1 rfl rfl ?_
  all_goals exact ret_refl rfl rfl
set_option maxRecDepth 100000 in
theorem c_every_int (l : List Int) (t : Ty) (h1 : t.one = true) (q : Int → Bool) (hd : t.deps = []) (hc : t.cdeps = []) (hf : ∀ x ∈ l, Cal Tryz.prog t [Ty.int .i64 x] (Ty.bool (q x))) : Ctr Tryz.prog 88 [Ty.sl I64 l, t] (Ty.bool (l.all q)) := by
  refine fn_intro Tryz.func88 rfl (by decide) Tryz.ntmps88 (by exact Nat.le_of_ble_eq_true rfl) fun w0 M0 => ?_
  refine t_seq ?_
  refine t_region ?_
  refine r_box_one (ty := t) rfl h1 ?_
  refine asB rfl ?_
  refine r_nil ?_
  refine i_then ?_
  refine t_seq ?_
  refine t_region ?_
  refine mvS rfl ?_
  refine r_makeFunc rfl ?_
  refine r_call (c_ContainsFunc_int l (Ty.clo _ [Ty.pp [t]]) rfl (fun x => !q x) (by exact deps_cons (deps_cons hd rfl) rfl) (by exact cdeps_cons (cdeps_cons hc rfl) rfl) fun x hx => cal_clo (c_every1_int x t h1 (q x) hd hc (hf x hx)) rfl rfl (by exact deps_cons (deps_cons hd rfl) rfl) (by exact cdeps_cons (cdeps_cons hc rfl) rfl) rfl rfl) rfl (by exact deps_cons rfl (deps_cons (deps_cons (deps_cons hd rfl) rfl) rfl)) (by exact cdeps_cons rfl (cdeps_cons (cdeps_cons (cdeps_cons hc rfl) rfl) rfl)) rfl rfl ?_
  refine r_not rfl ?_
  refine asB rfl ?_
  refine r_nil ?_
  refine i_then ?_
  refine t_ret ?_
  refine i_rp1 rfl rfl ?_
  all_goals skip
  exact ret_eq rfl rfl (congrArg Ty.bool (any_not q l))
set_option maxRecDepth 100000 in
theorem c_greatest (n : Int) (l : List Int) : Ctr Tryz.prog 101 [Ty.int .i64 n, Ty.sl I64 l] (Ty.int .i64 (l.foldl max n)) := by
  refine fn_intro Tryz.func101 rfl (by decide) Tryz.ntmps101 (by exact Nat.le_of_ble_eq_true rfl) fun w0 M0 => ?_
  refine t_fact (s := 1) rfl rfl sl_len fun hl => ?_
  refine t_seq ?_
  refine t_region ?_
  refine asI rfl ?_
  refine r_nil ?_
  refine i_then ?_
  refine t_seq ?_
  refine t_seq ?_
  refine t_region ?_
  refine mvS rfl ?_
  refine r_len rfl rfl rfl ?_
  refine mvI rfl ?_
  refine r_nil ?_
  refine i_then ?_
  refine t_block ?_
  refine t_loop (fun (k : {k : Nat // k ≤ l.length}) => live [(0, Ty.int .i64 ((l.take k.1).foldl max n)), (7, Ty.sl I64 l), (8, Ty.int .i64 l.length), (9, Ty.int .i64 (k.1 : Nat))] []) (fun k => l.length - k.1) (⟨0, Nat.zero_le _⟩) ?_ fun k => ?_
  · (refine Ent.mk' ?_ ?_ <;> (repeat' (first | exact allSub_zero | exact allTags_nil | refine allSub_succ' ?_ (Ty.sub_any _) | refine allSub_succ' ?_ (Ty.sub_refl _))))
  ·
    refine t_seq ?_
    refine t_region ?_
    refine r_bin rfl rfl rfl ?_
    refine r_nil ?_
    refine i_then ?_
    refine t_seq ?_
    refine t_cond_dec rfl (fun hc1 => ?_) (fun hc1 => ?_)
    ·
      refine t_skip ?_
      refine i_then ?_
      refine t_seq ?_
      refine t_block ?_
      refine t_seq ?_
      refine t_region ?_
      refine r_index_slN rfl rfl rfl rfl rfl rfl (by omega) ?_
      refine r_load_pp rfl rfl rfl rfl ?_
      refine asI rfl ?_
      refine r_nil ?_
      refine i_then ?_
      refine t_region ?_
      refine mvI rfl ?_
      refine mvI rfl ?_
      refine r_max rfl rfl ?_
      refine asI rfl ?_
      refine r_nil ?_
      refine i_block ?_
      refine i_then ?_
      refine t_region ?_
      refine r_add rfl rfl (by omega) (by omega) ?_
      refine mvI rfl ?_
      refine r_nil ?_
      refine i_round (⟨k.1 + 1, by omega⟩) ?_ (by show l.length - (k.1 + 1) < l.length - k.1; omega)
      (refine Ent.mk' ?_ ?_ <;> (repeat' (first | exact allSub_zero | exact allTags_nil | refine allSub_succ' ?_ (Ty.sub_any _) | refine allSub_succ' ?_ (Ty.sub_refl _) | refine allSub_succ' ?_ ?_)))
      all_goals skip
      all_goals exact Ty.sub_int (foldl_take (by omega)).symm
    ·
      refine t_exit ?_
      refine i_then_exit ?_
      refine i_then_exit ?_
      refine i_block_exit rfl ?_
      refine i_then ?_
      refine t_seq ?_
      refine t_region ?_
      refine mvI rfl ?_
      refine asI rfl ?_
      refine r_nil ?_
      refine i_then ?_
      refine t_ret ?_
      refine i_rp1 rfl rfl ?_
      all_goals skip
      exact ret_eq rfl rfl (congrArg (Ty.int .i64) (by rw [List.take_of_length_le (by omega)]))
set_option maxRecDepth 100000 in
theorem c_CheckForm1 (n : Int) : Ctr Tryz.prog 89 [Ty.int .i64 n] (Ty.bool (inB n 1 4)) := by
  refine fn_intro Tryz.func89 rfl (by decide) Tryz.ntmps89 (by exact Nat.le_of_ble_eq_true rfl) fun w0 M0 => ?_
  refine t_seq ?_
  refine t_region ?_
  refine asB rfl ?_
  refine r_nil ?_
  refine i_then ?_
  refine t_seq ?_
  refine t_region ?_
  refine mvI rfl ?_
  refine r_call (c_in _ _ _) rfl rfl rfl rfl rfl ?_
  refine asB rfl ?_
  refine r_nil ?_
  refine i_then ?_
  refine t_ret ?_
  refine i_rp1 rfl rfl ?_
  all_goals exact ret_refl rfl rfl
set_option maxRecDepth 100000 in
theorem c_CheckForm (f : BForm) : Ctr Tryz.prog 33 [frmT f] (Ty.int .i64 (frmY f)) := by
  refine fn_intro Tryz.func33 rfl (by decide) Tryz.ntmps33 (by exact Nat.le_of_ble_eq_true rfl) fun w0 M0 => ?_
  refine t_seq ?_
  refine t_region ?_
  refine r_box_agg rfl ?_
  refine asI rfl ?_
  refine r_nil ?_
  refine i_then ?_
  refine t_seq ?_
  refine t_block ?_
  refine t_seq ?_
  refine t_region ?_
  refine r_field_pp rfl rfl rfl rfl rfl (by decide) ?_
  refine r_load_pp rfl rfl rfl rfl ?_
  refine r_len rfl rfl rfl ?_
  refine r_call (c_in _ _ _) rfl rfl rfl rfl rfl ?_
  refine r_not rfl ?_
  refine asB rfl ?_
  refine r_nil ?_
  refine i_then ?_
  refine t_cond rfl (fun hc1 => ?_) (fun hc1 => ?_)
  ·
    refine t_seq ?_
    refine t_region ?_
    refine asI rfl ?_
    refine r_nil ?_
    refine i_then ?_
    refine t_ret ?_
    refine i_block_ret ?_
    refine i_then_ret ?_
    refine i_rp1 rfl rfl ?_
    all_goals skip
    exact ret_eq rfl rfl (congrArg (Ty.int .i64) (frmY_1 hc1).symm)
  ·
    refine t_seq ?_
    refine t_region ?_
    refine r_field_pp rfl rfl rfl rfl rfl (by decide) ?_
    refine r_load_pp rfl rfl rfl rfl ?_
    refine r_call (c_every_int f.widths (Ty.clo _ []) rfl (fun n => inB n 1 4) rfl rfl fun x _ => cal_clo (c_CheckForm1 x) rfl rfl rfl rfl rfl rfl) rfl rfl rfl rfl rfl ?_
    refine r_not rfl ?_
    refine mvB rfl ?_
    apply r_guard (s := 14) rfl rfl rfl
    · intro hg; apply opT_of; (refine r_field_pp rfl rfl rfl rfl rfl (by decide) ?_); refine r_nil ?_; exact rfl
    · exact rfl
    · exact rfl
    apply r_guard (s := 14) rfl rfl rfl
    · intro hg; apply opT_strip (s := 15) rfl (by (rw [hg]; rfl)); apply opT_of; (refine r_load_pp rfl rfl rfl rfl ?_); refine r_nil ?_; exact rfl
    · exact rfl
    · exact rfl
    apply r_guard (s := 14) rfl rfl rfl
    · intro hg; apply opT_strip (s := 16) rfl (by (rw [hg]; rfl)); apply opT_of; (refine r_call (c_in _ _ _) rfl rfl rfl rfl rfl ?_); refine r_nil ?_; exact rfl
    · exact rfl
    · exact rfl
    apply r_guard (s := 14) rfl rfl rfl
    · intro hg; apply opT_strip (s := 17) rfl (by (rw [hg]; rfl)); apply opT_of; (refine r_not rfl ?_); refine r_nil ?_; exact rfl
    · exact rfl
    · exact rfl
    refine r_or rfl rfl ?_
    refine asB rfl ?_
    refine r_nil ?_
    refine i_then ?_
    refine t_cond rfl (fun hc2 => ?_) (fun hc2 => ?_)
    ·
      refine t_seq ?_
      refine t_region ?_
      refine asI rfl ?_
      refine r_nil ?_
      refine i_then ?_
      refine t_ret ?_
      refine i_block_ret ?_
      refine i_then_ret ?_
      refine i_rp1 rfl rfl ?_
      all_goals skip
      exact ret_eq rfl rfl (congrArg (Ty.int .i64) (frmY_2 hc1 hc2).symm)
    ·
      refine t_skip ?_
      refine i_block ?_
      refine i_then ?_
      refine t_seq ?_
      refine t_region ?_
      refine asI rfl ?_
      refine r_nil ?_
      refine i_then ?_
      refine t_ret ?_
      refine i_rp1 rfl rfl ?_
      all_goals skip
      exact ret_eq rfl rfl (congrArg (Ty.int .i64) (frmY_3 hc1 hc2).symm)
end Go.Proofs.YtjjndkenddigiaaGreatDoor

namespace Go.Proofs.YtjjndkenddigiaaGreatDoor
open Go Go.T Go.RowKit Go.Shelf
def rhoL : Ren := ⟨fun n => match n with | 99 => 106 | 105 => 53 | 129 => 177 | 165 => 107 | 166 => 70 | 169 => 74 | 170 => 108 | 171 => 133 | 206 => 139 | 212 => 105 | 240 => 124 | 241 => 140 | 243 => 154 | 246 => 163 | 263 => 137 | 264 => 138 | 276 => 150 | 277 => 156 | 283 => 170 | 284 => 171 | 285 => 172 | 286 => 173 | 317 => 176 | 318 => 178 | 319 => 179 | 320 => 180 | 337 => 181 | 338 => 182 | _ => 9999, fun n => match n with | 0 => 0 | 2 => 2 | 3 => 3 | 4 => 4 | 5 => 5 | 9 => 9 | 20 => 20 | 37 => 81 | 46 => 152 | 51 => 145 | 53 => 188 | 70 => 112 | 72 => 114 | 75 => 117 | 76 => 118 | 80 => 125 | 109 => 153 | 127 => 172 | 146 => 186 | 148 => 189 | 164 => 198 | 171 => 212 | 173 => 215 | 212 => 219 | 213 => 220 | 232 => 223 | 233 => 224 | _ => 9999, fun n => match n with | 17 => 3 | 18 => 4 | 19 => 5 | _ => 9999⟩
theorem aggL {t : Nat} {D : TypeDesc} (h : Tryz.prog.underlying t = some D) (hd : (match D with | .struct _ => false | .array _ _ => false | _ => true) = true) : ∀ w, (isAgg t).run Tryz.prog w = .ok false w := fun w => by
  cases D <;> simp_all [isAgg, run_underlying h]
theorem aggLT {t : Nat} {D : TypeDesc} (h : Tryz.prog.underlying t = some D) (hd : (match D with | .struct _ => true | .array _ _ => true | _ => false) = true) : ∀ w, (isAgg t).run Tryz.prog w = .ok true w := fun w => by
  cases D <;> simp_all [isAgg, run_underlying h]
set_option maxRecDepth 100000 in
theorem ly_Lays_n171 : Lays.n171 Tryz.prog rhoL where
  mixed := by kernel_rfl
  f129 := by kernel_rfl
  f171 := by kernel_rfl
  f243 := by kernel_rfl
  f246 := by kernel_rfl
  f283 := by kernel_rfl
  f284 := by kernel_rfl
  f285 := by kernel_rfl
  f286 := by kernel_rfl
  f317 := by kernel_rfl
  f318 := by kernel_rfl
  f319 := by kernel_rfl
  f320 := by kernel_rfl
  f337 := by kernel_rfl
  f338 := by kernel_rfl
  t0 := by kernel_rfl
  a0 := aggL (D := TypeDesc.tuple #[]) (by kernel_rfl) rfl
  z0 := fun w => run_sizeOf' (P := Tryz.prog) (t := 0) rfl w
  v0 := fun w => run_zeroOf (by kernel_rfl) w
  t2 := by kernel_rfl
  a2 := aggL (D := TypeDesc.int IntKind.i64) (by kernel_rfl) rfl
  z2 := fun w => run_sizeOf' (P := Tryz.prog) (t := 2) rfl w
  v2 := fun w => run_zeroOf (by kernel_rfl) w
  t3 := by kernel_rfl
  a3 := aggL (D := TypeDesc.int IntKind.i64) (by kernel_rfl) rfl
  z3 := fun w => run_sizeOf' (P := Tryz.prog) (t := 3) rfl w
  v3 := fun w => run_zeroOf (by kernel_rfl) w
  t4 := by kernel_rfl
  a4 := aggL (D := TypeDesc.bool) (by kernel_rfl) rfl
  z4 := fun w => run_sizeOf' (P := Tryz.prog) (t := 4) rfl w
  v4 := fun w => run_zeroOf (by kernel_rfl) w
  t5 := by kernel_rfl
  a5 := aggL (D := TypeDesc.int IntKind.u8) (by kernel_rfl) rfl
  z5 := fun w => run_sizeOf' (P := Tryz.prog) (t := 5) rfl w
  v5 := fun w => run_zeroOf (by kernel_rfl) w
  t9 := by kernel_rfl
  a9 := aggL (D := TypeDesc.string) (by kernel_rfl) rfl
  z9 := fun w => run_sizeOf' (P := Tryz.prog) (t := 9) rfl w
  v9 := fun w => run_zeroOf (by kernel_rfl) w
  t20 := by kernel_rfl
  a20 := aggL (D := TypeDesc.interface #[]) (by kernel_rfl) rfl
  z20 := fun w => run_sizeOf' (P := Tryz.prog) (t := 20) rfl w
  v20 := fun w => run_zeroOf (by kernel_rfl) w
  t37 := by kernel_rfl
  a37 := aggL (D := TypeDesc.slice (rhoL.t 5)) (by kernel_rfl) rfl
  z37 := fun w => run_sizeOf' (P := Tryz.prog) (t := 81) rfl w
  v37 := fun w => run_zeroOf (by kernel_rfl) w
  t46 := by kernel_rfl
  a46 := aggL (D := TypeDesc.int IntKind.u64) (by kernel_rfl) rfl
  z46 := fun w => run_sizeOf' (P := Tryz.prog) (t := 152) rfl w
  v46 := fun w => run_zeroOf (by kernel_rfl) w
  t51 := by kernel_rfl
  a51 := aggL (D := TypeDesc.int IntKind.u32) (by kernel_rfl) rfl
  z51 := fun w => run_sizeOf' (P := Tryz.prog) (t := 145) rfl w
  v51 := fun w => run_zeroOf (by kernel_rfl) w
  t53 := by kernel_rfl
  a53 := aggL (D := TypeDesc.int IntKind.u64) (by kernel_rfl) rfl
  z53 := fun w => run_sizeOf' (P := Tryz.prog) (t := 188) rfl w
  v53 := fun w => run_zeroOf (by kernel_rfl) w
  t171 := by kernel_rfl
  a171 := aggLT (D := TypeDesc.array 24 (rhoL.t 5)) (by kernel_rfl) rfl
  z171 := fun w => run_sizeOf' (P := Tryz.prog) (t := 212) rfl w
  v171 := fun w => run_zeroOf (by kernel_rfl) w
  t173 := by kernel_rfl
  a173 := aggL (D := TypeDesc.tuple #[rhoL.t 37, rhoL.t 9]) (by kernel_rfl) rfl
  z173 := fun w => run_sizeOf' (P := Tryz.prog) (t := 215) rfl w
  v173 := fun w => run_zeroOf (by kernel_rfl) w
  t212 := by kernel_rfl
  a212 := aggLT (D := TypeDesc.array 20 (rhoL.t 53)) (by kernel_rfl) rfl
  z212 := fun w => run_sizeOf' (P := Tryz.prog) (t := 219) rfl w
  v212 := fun w => run_zeroOf (by kernel_rfl) w
  t213 := by kernel_rfl
  a213 := aggLT (D := TypeDesc.array 65 (rhoL.t 5)) (by kernel_rfl) rfl
  z213 := fun w => run_sizeOf' (P := Tryz.prog) (t := 220) rfl w
  t232 := by kernel_rfl
  a232 := aggLT (D := TypeDesc.array 32 (rhoL.t 5)) (by kernel_rfl) rfl
  z232 := fun w => run_sizeOf' (P := Tryz.prog) (t := 223) rfl w
  v232 := fun w => run_zeroOf (by kernel_rfl) w
  t233 := by kernel_rfl
  a233 := aggLT (D := TypeDesc.array 64 (rhoL.t 5)) (by kernel_rfl) rfl
  z233 := fun w => run_sizeOf' (P := Tryz.prog) (t := 224) rfl w
  v233 := fun w => run_zeroOf (by kernel_rfl) w
  g17 := by kernel_rfl
  g18 := by kernel_rfl
  g19 := by kernel_rfl
set_option maxRecDepth 100000 in
theorem ly_LaysM_n171 : LaysM.n171 Tryz.prog rhoL := { ly_Lays_n171 with
  i0 := by kernel_rfl,
  i2 := by kernel_rfl,
  i3 := by kernel_rfl,
  i4 := by kernel_rfl,
  i5 := by kernel_rfl,
  i9 := by kernel_rfl,
  i20 := by kernel_rfl,
  i37 := by kernel_rfl,
  i46 := by kernel_rfl,
  i51 := by kernel_rfl,
  i53 := by kernel_rfl,
  i171 := by kernel_rfl,
  i173 := by kernel_rfl,
  i212 := by kernel_rfl,
  i232 := by kernel_rfl,
  i233 := by kernel_rfl,
  m17 := by kernel_rfl,
  m18 := by kernel_rfl,
  m19 := by kernel_rfl }
set_option maxRecDepth 100000 in
theorem ly_Lays_n105 : Lays.n105 Tryz.prog rhoL where
  mixed := by kernel_rfl
  f99 := by kernel_rfl
  f105 := by kernel_rfl
  f165 := by kernel_rfl
  f166 := by kernel_rfl
  f169 := by kernel_rfl
  f170 := by kernel_rfl
  f206 := by kernel_rfl
  f212 := by kernel_rfl
  f240 := by kernel_rfl
  f241 := by kernel_rfl
  f263 := by kernel_rfl
  f264 := by kernel_rfl
  f276 := by kernel_rfl
  f277 := by kernel_rfl
  t0 := by kernel_rfl
  a0 := aggL (D := TypeDesc.tuple #[]) (by kernel_rfl) rfl
  z0 := fun w => run_sizeOf' (P := Tryz.prog) (t := 0) rfl w
  v0 := fun w => run_zeroOf (by kernel_rfl) w
  t3 := by kernel_rfl
  a3 := aggL (D := TypeDesc.int IntKind.i64) (by kernel_rfl) rfl
  z3 := fun w => run_sizeOf' (P := Tryz.prog) (t := 3) rfl w
  v3 := fun w => run_zeroOf (by kernel_rfl) w
  t4 := by kernel_rfl
  a4 := aggL (D := TypeDesc.bool) (by kernel_rfl) rfl
  z4 := fun w => run_sizeOf' (P := Tryz.prog) (t := 4) rfl w
  v4 := fun w => run_zeroOf (by kernel_rfl) w
  t5 := by kernel_rfl
  a5 := aggL (D := TypeDesc.int IntKind.u8) (by kernel_rfl) rfl
  z5 := fun w => run_sizeOf' (P := Tryz.prog) (t := 5) rfl w
  v5 := fun w => run_zeroOf (by kernel_rfl) w
  t9 := by kernel_rfl
  a9 := aggL (D := TypeDesc.string) (by kernel_rfl) rfl
  z9 := fun w => run_sizeOf' (P := Tryz.prog) (t := 9) rfl w
  v9 := fun w => run_zeroOf (by kernel_rfl) w
  t20 := by kernel_rfl
  a20 := aggL (D := TypeDesc.interface #[]) (by kernel_rfl) rfl
  z20 := fun w => run_sizeOf' (P := Tryz.prog) (t := 20) rfl w
  v20 := fun w => run_zeroOf (by kernel_rfl) w
  t37 := by kernel_rfl
  a37 := aggL (D := TypeDesc.slice (rhoL.t 5)) (by kernel_rfl) rfl
  z37 := fun w => run_sizeOf' (P := Tryz.prog) (t := 81) rfl w
  v37 := fun w => run_zeroOf (by kernel_rfl) w
  t46 := by kernel_rfl
  a46 := aggL (D := TypeDesc.int IntKind.u64) (by kernel_rfl) rfl
  z46 := fun w => run_sizeOf' (P := Tryz.prog) (t := 152) rfl w
  v46 := fun w => run_zeroOf (by kernel_rfl) w
  t51 := by kernel_rfl
  a51 := aggL (D := TypeDesc.int IntKind.u32) (by kernel_rfl) rfl
  z51 := fun w => run_sizeOf' (P := Tryz.prog) (t := 145) rfl w
  v51 := fun w => run_zeroOf (by kernel_rfl) w
  t53 := by kernel_rfl
  a53 := aggL (D := TypeDesc.int IntKind.u64) (by kernel_rfl) rfl
  z53 := fun w => run_sizeOf' (P := Tryz.prog) (t := 188) rfl w
  v53 := fun w => run_zeroOf (by kernel_rfl) w
  t70 := by kernel_rfl
  a70 := aggL (D := TypeDesc.pointer (rhoL.t 72)) (by kernel_rfl) rfl
  z70 := fun w => run_sizeOf' (P := Tryz.prog) (t := 112) rfl w
  v70 := fun w => run_zeroOf (by kernel_rfl) w
  t72 := by kernel_rfl
  a72 := aggLT (D := TypeDesc.struct #[{ name := "addr", type := rhoL.t 70, offset := 0, embedded := false, tag := "", pkgPath := "strings", byteOffset := 0 }, { name := "buf", type := rhoL.t 37, offset := 1, embedded := false, tag := "", pkgPath := "strings", byteOffset := 8 }]) (by kernel_rfl) rfl
  z72 := fun w => run_sizeOf' (P := Tryz.prog) (t := 114) rfl w
  v72 := fun w => run_zeroOf (by kernel_rfl) w
  t75 := by kernel_rfl
  a75 := aggL (D := TypeDesc.interface #[("Error", rhoL.t 80)]) (by kernel_rfl) rfl
  z75 := fun w => run_sizeOf' (P := Tryz.prog) (t := 117) rfl w
  v75 := fun w => run_zeroOf (by kernel_rfl) w
  t76 := by kernel_rfl
  a76 := aggL (D := TypeDesc.tuple #[rhoL.t 3, rhoL.t 75]) (by kernel_rfl) rfl
  z76 := fun w => run_sizeOf' (P := Tryz.prog) (t := 118) rfl w
  v76 := fun w => run_zeroOf (by kernel_rfl) w
  t109 := by kernel_rfl
  a109 := aggL (D := TypeDesc.tuple #[rhoL.t 46, rhoL.t 46]) (by kernel_rfl) rfl
  z109 := fun w => run_sizeOf' (P := Tryz.prog) (t := 153) rfl w
  v109 := fun w => run_zeroOf (by kernel_rfl) w
  t127 := by kernel_rfl
  a127 := aggL (D := TypeDesc.pointer (rhoL.t 5)) (by kernel_rfl) rfl
  z127 := fun w => run_sizeOf' (P := Tryz.prog) (t := 172) rfl w
  v127 := fun w => run_zeroOf (by kernel_rfl) w
  t146 := by kernel_rfl
  a146 := aggL (D := TypeDesc.tuple #[rhoL.t 51, rhoL.t 51]) (by kernel_rfl) rfl
  z146 := fun w => run_sizeOf' (P := Tryz.prog) (t := 186) rfl w
  v146 := fun w => run_zeroOf (by kernel_rfl) w
  t148 := by kernel_rfl
  a148 := aggL (D := TypeDesc.tuple #[rhoL.t 53, rhoL.t 53]) (by kernel_rfl) rfl
  z148 := fun w => run_sizeOf' (P := Tryz.prog) (t := 189) rfl w
  v148 := fun w => run_zeroOf (by kernel_rfl) w
  t164 := by kernel_rfl
  a164 := aggL (D := TypeDesc.unsafePointer) (by kernel_rfl) rfl
  z164 := fun w => run_sizeOf' (P := Tryz.prog) (t := 198) rfl w
  v164 := fun w => run_zeroOf (by kernel_rfl) w
set_option maxRecDepth 100000 in
theorem ly_Lays_n240 : Lays.n240 Tryz.prog rhoL where
  mixed := by kernel_rfl
  f240 := by kernel_rfl
  f276 := by kernel_rfl
  t0 := by kernel_rfl
  a0 := aggL (D := TypeDesc.tuple #[]) (by kernel_rfl) rfl
  z0 := fun w => run_sizeOf' (P := Tryz.prog) (t := 0) rfl w
  v0 := fun w => run_zeroOf (by kernel_rfl) w
  t4 := by kernel_rfl
  a4 := aggL (D := TypeDesc.bool) (by kernel_rfl) rfl
  z4 := fun w => run_sizeOf' (P := Tryz.prog) (t := 4) rfl w
  v4 := fun w => run_zeroOf (by kernel_rfl) w
  t9 := by kernel_rfl
  a9 := aggL (D := TypeDesc.string) (by kernel_rfl) rfl
  z9 := fun w => run_sizeOf' (P := Tryz.prog) (t := 9) rfl w
  v9 := fun w => run_zeroOf (by kernel_rfl) w
  t20 := by kernel_rfl
  a20 := aggL (D := TypeDesc.interface #[]) (by kernel_rfl) rfl
  z20 := fun w => run_sizeOf' (P := Tryz.prog) (t := 20) rfl w
  v20 := fun w => run_zeroOf (by kernel_rfl) w
  t70 := by kernel_rfl
  a70 := aggL (D := TypeDesc.pointer (rhoL.t 72)) (by kernel_rfl) rfl
  z70 := fun w => run_sizeOf' (P := Tryz.prog) (t := 112) rfl w
  v70 := fun w => run_zeroOf (by kernel_rfl) w
  t72 := by kernel_rfl
  a72 := aggLT (D := TypeDesc.struct #[{ name := "addr", type := rhoL.t 70, offset := 0, embedded := false, tag := "", pkgPath := "strings", byteOffset := 0 }, { name := "buf", type := rhoL.t 37, offset := 1, embedded := false, tag := "", pkgPath := "strings", byteOffset := 8 }]) (by kernel_rfl) rfl
  z72 := fun w => run_sizeOf' (P := Tryz.prog) (t := 114) rfl w
  v72 := fun w => run_zeroOf (by kernel_rfl) w
  t164 := by kernel_rfl
  a164 := aggL (D := TypeDesc.unsafePointer) (by kernel_rfl) rfl
  z164 := fun w => run_sizeOf' (P := Tryz.prog) (t := 198) rfl w
  v164 := fun w => run_zeroOf (by kernel_rfl) w
set_option maxRecDepth 100000 in
theorem ly_Builder_X72 : Builder.X72 Tryz.prog rhoL where
  sizeBuilder := by kernel_rfl
  liesBuilder := by kernel_rfl
set_option maxRecDepth 100000 in
theorem ly_Builder_Extra : Builder.Extra Tryz.prog rhoL := { ly_Builder_X72 with
  t5 := by kernel_rfl,
  a5 := aggL (D := .int .u8) (by kernel_rfl) rfl,
  z5 := fun w => run_sizeOf' (P := Tryz.prog) (t := 5) rfl w,
  v5 := fun w => run_zeroOf (by kernel_rfl) w,
  infoByte := by kernel_rfl,
  cellsByte := by kernel_rfl,
  sizeByte := by kernel_rfl,
  neB5 := by decide }
end Go.Proofs.YtjjndkenddigiaaGreatDoor

namespace Go.T
open Go Go.RowKit
def runeAt (a : Byt) (p : Nat) : Int := ((Utf8.decode (bs a) p).1 : Nat)
def runeNext (a : Byt) (p : Nat) : Nat := if p < a.length then p + (Utf8.decode (bs a) p).2 else p
def dSi (a : Byt) (p : Nat) (w : World) (M : Tags) (t : Nat) : Prop := ∃ b, M b = some t ∧ w.heap[b]? = some (.stringIter (bs a) p)
def Cont.si (a : Byt) (p : Nat) : Cont :=
  { den := dSi a p, mono := fun le _ _ hs hk ⟨b, h1, h2⟩ => let ⟨h4, h5⟩ := le.own b _ h1 hk; ⟨b, h4, (h5 hs).trans h2⟩ }
def dNx (a : Byt) (p : Nat) (_ : World) (_ : Tags) (v : Value) : Prop := (p < a.length → v = .tuple #[.bool true, .int .i64 p, .int .i32 (runeAt a p)]) ∧ (¬ p < a.length → v = .tuple #[.bool false])
def Ty.nx (a : Byt) (p : Nat) : Ty := { den := dNx a p, mono := fun _ _ _ h => h }
section
variable {P : Program} {fr : Fr} {ops : Array Oper} {A : As} {rest : List Oper} {K : As → List (As × Fx) → Prop} {d : Nat} {t ty' ty2 : TypeId} {p : String} {e : Array Edge} {x y z : Operand} {a : Byt} [T : Tab P] {ti : TI}
theorem r_rangeS (hx : A.op fr x = .str (bs a)) (hT : T.tab[ty']? = some ti) (hk : ti.k = .string) (hp : fr.pass.contains (d + 1) = false)
    (h : TOps P fr ops rest (A.after { d := some d, ty := .ptr (d + 1) 0, K := [d + 1], sets := [(d + 1, .si a 0)], rs := opR x }) fun A' l' => K A' ((A, { d := some d, ty := .ptr (d + 1) 0, K := [d + 1], sets := [(d + 1, .si a 0)], rs := opR x }) :: l')) :
    TOps P fr ops (⟨some d, .range ty' x, t, p, e, none⟩ :: rest) A K := by
  refine ⟨_, opT_mem (f := { d := some d, ty := .ptr (d + 1) 0, K := [d + 1], sets := [(d + 1, .si a 0)], rs := opR x }) rfl rfl (by simp) (by simp) (fun u hu => by rw [List.mem_singleton.1 hu]; exact ⟨by omega, by simpa using hp⟩) fun ac w M wf hr _ => ?_, h⟩
  have hd := op_den (x := x) (fun _ h => h) hr
  rw [hx] at hd
  have ex : ac.eval x = .string (bs a) := hd
  have hrun : (execOp ac.eval ⟨some d, .range ty' x, t, p, e, none⟩).run P w = .ok (.value (.pointer (some ⟨w.heap.size, 0, none⟩))) (w.alloc (.stringIter (bs a) 0)) := by
    have hn : ∀ o : Obj, (newObj o).run P w = .ok w.heap.size (w.alloc o) := fun o => rfl
    simp [execOp, Instr.range, ex, run_underlying (tab_string hT hk), hn]
  obtain ⟨h1, h2, h3⟩ := le_alloc wf (.stringIter (bs a) 0) (d + 1)
  refine ⟨_, _, hrun, _, h1, h2, ⟨_, h3, rfl⟩, fun q hq => ?_⟩
  rw [List.mem_singleton.1 hq]
  exact ⟨_, h3, by show (w.heap.push _)[w.heap.size]? = _; simp⟩
theorem put_iter {w : World} {M : Tags} {tg b : Nat} {o : Obj} (wf : Wf w M) (hb : M b = some tg) :
    Wf { w with heap := w.heap.setIfInBounds b o } M ∧ Le (· ∈ [tg]) (· ∈ ([] : List Nat)) w M { w with heap := w.heap.setIfInBounds b o } M ∧ ({ w with heap := w.heap.setIfInBounds b o } : World).heap[b]? = some o := by
  have hlt := wf.lt b tg hb
  have le : Le (· ∈ [tg]) (· ∈ ([] : List Nat)) w M { w with heap := w.heap.setIfInBounds b o } M := by
    refine ⟨by simp, rfl, rfl, rfl, fun b' hb' hm => ⟨hm, ?_⟩, fun b' t hm _ => ⟨hm, fun hs => ?_⟩⟩
    · have : b ≠ b' := fun e => by rw [← e, hb] at hm; cases hm
      simp [Array.getElem?_setIfInBounds_ne this]
    · have : b ≠ b' := fun e => hs (by rw [← e, hb] at hm; injection hm with hm; simp [hm])
      simp [Array.getElem?_setIfInBounds_ne this]
  exact ⟨⟨fun b' t h => by simpa using wf.lt b' t h, wf.inj, wf.amb.le le⟩, le, by simp [hlt]⟩
omit T in
theorem r_nextS {tg pos : Nat} (hx : A.op fr x = .ptr tg 0) (hc : A.tag tg = some (.si a pos)) (h1 : Tag1 tg)
    (h : TOps P fr ops rest (A.after { d := some d, ty := .nx a pos, S := [tg], sets := [(tg, .si a (runeNext a pos))], rs := opR x, rt := [tg] }) fun A' l' => K A' ((A, { d := some d, ty := .nx a pos, S := [tg], sets := [(tg, .si a (runeNext a pos))], rs := opR x, rt := [tg] }) :: l')) :
    TOps P fr ops (⟨some d, .next x true, t, p, e, none⟩ :: rest) A K := by
  refine ⟨_, opT_mem (f := { d := some d, ty := .nx a pos, S := [tg], sets := [(tg, .si a (runeNext a pos))], rs := opR x, rt := [tg] }) rfl rfl (by simp) (by simpa using h1.1) (by simp) fun ac w M wf hr ht => ?_, h⟩
  have hd := op_den (x := x) (fun _ h => h) hr
  rw [hx] at hd
  obtain ⟨b, hb, ex⟩ := hd
  obtain ⟨b', hb', hh⟩ := ht _ (tag_mem hc) (by simp)
  obtain ⟨u, rfl⟩ : ∃ u, tg = u + 1 := ⟨tg - 1, by omega⟩
  have := wf.inj b b' u (by omega) hb hb'
  subst this
  by_cases hlt : pos < a.length
  · obtain ⟨g1, g2, g3⟩ := put_iter (o := .stringIter (bs a) (pos + (Utf8.decode (bs a) pos).2)) wf hb
    refine ⟨.tuple #[.bool true, .int .i64 pos, .int .i32 (runeAt a pos)], _, ?_, M, g1, g2, ⟨fun _ => rfl, fun h => absurd hlt h⟩, fun q hq => ?_⟩
    · simp [execOp, Instr.next, ex, getObj, setObj, Sem.run, hh, bs_size, hlt, goInt, runeAt]
    · rw [List.mem_singleton.1 hq]
      refine ⟨b, hb, ?_⟩
      rw [g3, runeNext, if_pos hlt]
  · refine ⟨.tuple #[.bool false], w, ?_, M, wf, ⟨Nat.le_refl _, rfl, rfl, rfl, fun _ _ h => ⟨h, rfl⟩, fun _ _ h _ => ⟨h, fun _ => rfl⟩⟩, ⟨fun h => absurd h hlt, fun _ => rfl⟩, fun q hq => ?_⟩
    · simp [execOp, Instr.next, ex, getObj, Sem.run, hh, bs_size, hlt]
    · rw [List.mem_singleton.1 hq]
      exact ⟨b, hb, by rw [hh, runeNext, if_neg hlt]⟩
omit T in
theorem r_extN0 {pos : Nat} (hx : A.op fr x = .nx a pos)
    (h : TOps P fr ops rest (A.set d (.bool (decide (pos < a.length)))) fun A' l' => K A' ((A, { d := some d, ty := .bool (decide (pos < a.length)), rs := opR x }) :: l')) : TOps P fr ops (⟨some d, .extract x 0, t, p, e, none⟩ :: rest) A K :=
  tops_pure (opT_pure rfl rfl fun ac w M _ hrd _ => by
    have hdx := op_den (x := x) (fun _ h => h) hrd
    rw [hx] at hdx
    by_cases hlt : pos < a.length
    · exact ⟨.bool true, by simp [execOp, hdx.1 hlt, Instr.extract], by rw [decide_eq_true hlt]; rfl⟩
    · exact ⟨.bool false, by simp [execOp, hdx.2 hlt, Instr.extract], by rw [decide_eq_false hlt]; rfl⟩) h
omit T in
theorem r_extN2 {pos : Nat} (hx : A.op fr x = .nx a pos) (hp : pos < a.length)
    (h : TOps P fr ops rest (A.set d (.int .i32 (runeAt a pos))) fun A' l' => K A' ((A, { d := some d, ty := .int .i32 (runeAt a pos), rs := opR x }) :: l')) : TOps P fr ops (⟨some d, .extract x 2, t, p, e, none⟩ :: rest) A K :=
  tops_pure (opT_pure rfl rfl fun ac w M _ hrd _ => by
    have hdx := op_den (x := x) (fun _ h => h) hrd
    rw [hx] at hdx
    exact ⟨.int .i32 (runeAt a pos), by simp [execOp, hdx.1 hp, Instr.extract], rfl⟩) h
omit T in
theorem r_neq_arA {α : Type} {E : El α} {xs : List α} {l2 : List Ty} {c : Bool} (hE : EqT P ty' (xs.flatMap E.tys) l2 c) (hx : A.op fr x = .arr E xs) (hy : A.op fr y = .agg l2)
    (h : TOps P fr ops rest (A.set d (.bool (!c))) fun A' l' => K A' ((A, { d := some d, ty := .bool (!c), rs := opR x ++ opR y }) :: l')) : TOps P fr ops (⟨some d, .binOp .neq ty' x y ty2, t, p, e, none⟩ :: rest) A K :=
  tops_pure (opT_pure rfl rfl fun ac w M _ hrd _ => by
    obtain ⟨hdx, hdy⟩ := op2 hrd
    rw [hx] at hdx; rw [hy] at hdy
    obtain ⟨cs, ex, h1⟩ := hdx
    obtain ⟨ds, ey, h2⟩ := hdy
    exact ⟨.bool (!c), by simp only [execOp, ex, ey]; simp [eqGuard, hE.1, binOp, hE.2 w M cs ds h1 h2], rfl⟩) h
theorem r_convK {src : TypeId} {k k0 : IntKind} {n m : Int} {ts : TI} (hx : A.op fr x = .int k0 n) (hS : T.tab[src]? = some ts) (hT : T.tab[ty']? = some ti) (hk : ti.k = .int k) (hw : k.wrap n = m)
    (h : TOps P fr ops rest (A.set d (.int k m)) fun A' l' => K A' ((A, { d := some d, ty := .int k m, rs := opR x }) :: l')) : TOps P fr ops (⟨some d, .convert src ty' x, t, p, e, none⟩ :: rest) A K := by
  subst hw; exact r_conv hx hS hT hk h
theorem r_cut_own {tg n el : Nat} {te : TI} (hx : A.op fr x = .ptr tg 0) (hT : T.tab[ty']? = some ti) (hk : ti.k = .array n el) (hE : T.tab[el]? = some te) (hn : n ≤ 1000000)
    (h : TOps P fr ops rest (A.set d (.vs tg n)) fun A' l' => K A' ((A, { d := some d, ty := .vs tg n, rs := opR x }) :: l')) : TOps P fr ops (⟨some d, .slice ty' x none none none, t, p, e, none⟩ :: rest) A K :=
  tops_pure (opT_pure rfl rfl fun ac w M _ hr _ => by
    have hdx := op_den (x := x) (fun _ h => h) hr
    rw [hx] at hdx
    obtain ⟨b, hb, ex⟩ := hdx
    obtain ⟨_, D, _, hD, hkd, _⟩ := tab_info hT
    rw [hk] at hkd
    cases D <;> simp only [TK.of, reduceCtorEq, TK.array.injEq] at hkd
    obtain ⟨e1, e2⟩ := hkd
    subst e1; subst e2
    refine ⟨.slice (some ⟨b, 0, none⟩) _ _, ?_, .inr ⟨b, _, hb, rfl, Nat.le_refl _, Nat.le_trans hn (by unfold maxLen; omega)⟩⟩
    simp [execOp, ex, Instr.sliceAt, run_underlying hD, Instr.sureAddr, Instr.sliceBounds, run_sizeOf' hE]
    intro _; exact Addr.add_lit _ _ _) h
end
theorem Ty.str_eq {a b : Byt} (h : a = b) : (Ty.str (bs a)).Sub (Ty.str (bs b)) := h ▸ Ty.sub_refl _
theorem Ty.str_eq' {s : ByteArray} {b : Byt} (h : s = bs b) : (Ty.str s).Sub (Ty.str (bs b)) := h ▸ Ty.sub_refl _
theorem i_rcellaE {P : Program} {A : As} {fn : Func} {n : Nat} {w0 : World} {M0 : Tags} [T : Tab P] {α : Type} {E : El α} {xs ys : List α} {tm ty tg Tb : Nat} {ti : TI} (hr : fn.results = #[.cell tm ty]) (ht : Nat.blt tm n = true) (hx : A.slots tm = .ptr tg 0) (hc : A.tag tg = some (.vec E Tb xs)) (h1 : Tag1 tg) (hT : T.tab[ty]? = some ti) (ha : ti.k.agg = true) (e : xs = ys) (hsz : ys.length * E.size = ti.size) (hne : ys ≠ []) :
    Into ⟨n, w0, M0, [], .plain⟩ A (bodyPost P fn (retPost w0 M0 (.arr E ys)) .ret) := by
  subst e; exact i_rcella hr ht hx hc h1 hT ha hsz hne
theorem Cont.cells_vec {α : Type} {E : El α} {T : Nat} {l : List Ty} {xs : List α} (h : l = xs.flatMap E.tys) : (Cont.cells T l).Sub (Cont.vec E T xs) := by subst h; exact fun _ _ _ h => dVec_of h
theorem get_bs {a : Byt} {p : Nat} (h : p < a.length) : (bs a).get! p = nth a p := by
  have : a.toArray[p]? = some (nth a p) := by rw [List.getElem?_toArray, nth, List.getD_eq_getElem?_getD, List.getElem?_eq_getElem h]; rfl
  show (a.toArray)[p]! = _
  rw [getElem!_def, this]
theorem decode_low {a : Byt} {p : Nat} (h : p < a.length) (h2 : (nth a p).toNat < 128) : Utf8.decode (bs a) p = ((nth a p).toNat, 1) := by
  unfold Utf8.decode
  simp only [Nat.add_zero, get_bs h]
  rw [if_pos h2]
theorem rune_low {a : Byt} {p : Nat} (h : p < a.length) (h2 : (nth a p).toNat < 128) : runeAt a p = ((nth a p).toNat : Int) ∧ runeNext a p = p + 1 := by
  unfold runeAt runeNext
  rw [decode_low h h2, if_pos h]
  exact ⟨rfl, rfl⟩
end Go.T

namespace Go.Proofs.YtjjndkenddigiaaGreatDoor
open Go Go.T
def FldB (x : UInt8) : Prop := x = 32 ∨ (48 ≤ x.toNat ∧ x.toNat ≤ 57)
theorem dig_toNat {d : Nat} (h : d < 10) : (UInt8.ofNat (48 + d)).toNat = 48 + d := by
  rw [UInt8.toNat_ofNat']; omega
theorem digF_fld : ∀ (k n : Nat), n < 10 ^ (k + 1) → ∀ x ∈ digF k n, 48 ≤ x.toNat ∧ x.toNat ≤ 57
  | 0, n, h, x, hx => by
    rw [digF, List.mem_singleton] at hx
    subst hx; rw [dig_toNat (by simpa using h)]
    simp at h; omega
  | k + 1, n, h, x, hx => by
    rw [digF] at hx
    split at hx
    · rename_i hn
      rw [List.mem_singleton] at hx; subst hx; rw [dig_toNat hn]; omega
    · rcases List.mem_append.1 hx with h1 | h1
      · exact digF_fld k (n / 10) (by rw [Nat.pow_succ] at h; omega) x h1
      · rw [List.mem_singleton] at h1; subst h1; rw [dig_toNat (by omega)]; omega
theorem fldN_fld {n w : Int} (h : n.toNat < 10 ^ 26) : ∀ x ∈ fldN n w, FldB x := by
  intro x hx
  unfold fldN padW at hx
  rcases List.mem_append.1 hx with h1 | h1
  · exact .inl (List.eq_of_mem_replicate h1)
  · exact .inr (digF_fld 25 _ h x h1)
theorem fldB_low {x : UInt8} (h : FldB x) : x.toNat < 128 := by
  rcases h with rfl | h
  · decide
  · omega
theorem ten_le {w : Int} (h : w ≤ 10) : ten w ≤ 10000000000 := by
  unfold ten
  have : 10 ^ w.toNat ≤ 10 ^ 10 := Nat.pow_le_pow_right (by omega) (by omega)
  omega
theorem ten_pos (w : Int) : 1 ≤ ten w := by
  unfold ten
  have : 0 < 10 ^ w.toNat := Nat.pow_pos (by omega)
  omega
theorem fldN_len {n w : Int} (h0 : 0 ≤ n) (hw : 1 ≤ w) (hw2 : w ≤ 10) (h : n < ten w) : (fldN n w).length = w.toNat := by
  unfold fldN padW
  have h1 : n.toNat < 10 ^ w.toNat := by unfold ten at h; omega
  have h2 : (10 : Nat) ^ w.toNat ≤ 10 ^ 10 := Nat.pow_le_pow_right (by omega) (by omega)
  have := (digN_len (n := n.toNat) (w := w.toNat) (by omega) (by omega)).2 h1
  rw [List.length_append, List.length_replicate]; omega
theorem long_off {n w : Int} (h0 : 0 ≤ n) (hw : 1 ≤ w) (h1 : n ≤ 9223372036854775807) : ((digN n.toNat).length : Int) > w ↔ ¬ n < ten w := by
  have := digN_len (n := n.toNat) (w := w.toNat) (by omega) (by omega)
  unfold ten
  omega
theorem addL_append : ∀ (l m : Byt) (k : Nat), addL k (l ++ m) = addL k l + addL (k + l.length) m
  | [], m, k => by simp [addL]
  | x :: l, m, k => by
    rw [List.cons_append, addL, addL, addL_append l m (k + 1), List.length_cons, show k + (l.length + 1) = k + 1 + l.length by omega]
    omega
def bytA (k : Nat) (x : UInt8) : Int := if x = 32 then 0 else ((k : Int) + 1) * ((x.toNat : Int) - 48)
theorem addL_snoc (l : Byt) (x : UInt8) : addL 0 (l ++ [x]) = addL 0 l + bytA l.length x := by
  rw [addL_append]; simp [addL, bytA]
theorem bytA_bnd {x : UInt8} (h : FldB x) (k : Nat) : 0 ≤ bytA k x ∧ bytA k x ≤ 9 * ((k : Int) + 1) := by
  unfold bytA
  split
  · omega
  · rename_i hn
    rcases h with h | ⟨h1, h2⟩
    · exact absurd h hn
    · have a : 0 ≤ (x.toNat : Int) - 48 := by omega
      have b : (x.toNat : Int) - 48 ≤ 9 := by omega
      refine ⟨Int.mul_nonneg (by omega) a, ?_⟩
      have := Int.mul_le_mul_of_nonneg_left b (show 0 ≤ (k : Int) + 1 by omega)
      omega
theorem addL_bnd : ∀ (l : Byt) (k : Nat), (∀ x ∈ l, FldB x) → 0 ≤ addL k l ∧ addL k l ≤ 9 * ((k : Int) + l.length) * l.length
  | [], k, _ => by simp [addL]
  | x :: l, k, h => by
    have h1 := bytA_bnd (h x List.mem_cons_self) k
    have h2 := addL_bnd l (k + 1) fun y hy => h y (List.mem_cons_of_mem _ hy)
    have e : addL k (x :: l) = bytA k x + addL (k + 1) l := rfl
    rw [e, List.length_cons]
    refine ⟨by omega, ?_⟩
    have e2 : 9 * ((k : Int) + ((l.length + 1 : Nat) : Int)) * ((l.length + 1 : Nat) : Int) = 9 * (((k + 1 : Nat) : Int) + l.length) * l.length + 9 * ((k : Int) + 1 + l.length) := by
      push_cast
      rw [show 9 * ((k : Int) + ((l.length : Int) + 1)) * ((l.length : Int) + 1) = 9 * ((k : Int) + ((l.length : Int) + 1)) * (l.length : Int) + 9 * ((k : Int) + ((l.length : Int) + 1)) by rw [Int.mul_add, Int.mul_one]]
      rw [show (k : Int) + 1 + (l.length : Int) = (k : Int) + ((l.length : Int) + 1) by omega]
    rw [e2]
    omega
def fldAt (f : BForm) (r : BRow) (c : Nat) : Byt := fldN (nth r.nums c) (nth f.widths c)
def bef (f : BForm) (r : BRow) (c : Nat) : Byt := ((List.range c).map (fldAt f r)).flatten
theorem bef_succ (f : BForm) (r : BRow) (c : Nat) : bef f r (c + 1) = bef f r c ++ fldAt f r c := by
  unfold bef; rw [List.range_succ, List.map_append, List.flatten_append]; simp
theorem letN_bef (f : BForm) (r : BRow) : letN f r = (if r.struck then 11 else 0) + addL 0 (bef f r f.widths.length) := rfl
theorem nth_wid {f : BForm} (hf : FormOk f) {c : Nat} (hc : c < f.widths.length) : 1 ≤ nth f.widths c ∧ nth f.widths c ≤ 4 := hf.w _ (nth_mem hc)
theorem fldAt_fld {f : BForm} {r : BRow} (hf : FormOk f) (hr : RowOk f r) {c : Nat} (hc : c < f.widths.length) : ∀ x ∈ fldAt f r c, FldB x := by
  have h1 := hr.num c hc
  have h2 := ten_le (w := nth f.widths c) (by have := nth_wid hf hc; omega)
  exact fldN_fld (by omega)
theorem fldAt_len {f : BForm} {r : BRow} (hf : FormOk f) (hr : RowOk f r) {c : Nat} (hc : c < f.widths.length) : (fldAt f r c).length = (nth f.widths c).toNat :=
  have h1 := hr.num c hc
  have h2 := nth_wid hf hc
  fldN_len h1.1 h2.1 (by omega) h1.2
theorem bef_fld {f : BForm} {r : BRow} (hf : FormOk f) (hr : RowOk f r) : ∀ {c : Nat}, c ≤ f.widths.length → ∀ x ∈ bef f r c, FldB x
  | 0, _, x, hx => by simp [bef] at hx
  | c + 1, hc, x, hx => by
    rw [bef_succ] at hx
    rcases List.mem_append.1 hx with h | h
    · exact bef_fld hf hr (by omega) x h
    · exact fldAt_fld hf hr (by omega) x h
theorem bef_len {f : BForm} {r : BRow} (hf : FormOk f) (hr : RowOk f r) : ∀ {c : Nat}, c ≤ f.widths.length → (bef f r c).length ≤ 4 * c
  | 0, _ => by simp [bef]
  | c + 1, hc => by
    rw [bef_succ, List.length_append, fldAt_len hf hr (by omega)]
    have := bef_len hf hr (c := c) (by omega)
    have := nth_wid hf (c := c) (by omega)
    omega
theorem addL_small {l : Byt} (h : ∀ x ∈ l, FldB x) (hl : l.length ≤ 16) : 0 ≤ addL 0 l ∧ addL 0 l ≤ 2304 := by
  have := addL_bnd l 0 h
  refine ⟨this.1, Int.le_trans this.2 ?_⟩
  have a : ((0 : Nat) : Int) + (l.length : Int) ≤ 16 := by omega
  have b : 9 * (((0 : Nat) : Int) + (l.length : Int)) ≤ 144 := by omega
  have := Int.mul_le_mul b (show (l.length : Int) ≤ 16 by omega) (by omega) (by omega)
  omega
def seen (f : BForm) (r : BRow) (c p : Nat) : Byt := bef f r c ++ (fldAt f r c).take p
theorem seen_zero (f : BForm) (r : BRow) (c : Nat) : seen f r c 0 = bef f r c := by simp [seen]
theorem seen_full {f : BForm} {r : BRow} {c p : Nat} (h : ¬ p < (fldAt f r c).length) : seen f r c p = bef f r (c + 1) := by
  unfold seen; rw [List.take_of_length_le (by omega), bef_succ]
theorem seen_succ {f : BForm} {r : BRow} {c p : Nat} (h : p < (fldAt f r c).length) : seen f r c (p + 1) = seen f r c p ++ [nth (fldAt f r c) p] := by
  unfold seen; rw [take_nth h, List.append_assoc]
theorem seen_fld {f : BForm} {r : BRow} (hf : FormOk f) (hr : RowOk f r) {c p : Nat} (hc : c < f.widths.length) : ∀ x ∈ seen f r c p, FldB x := by
  intro x hx
  rcases List.mem_append.1 hx with h | h
  · exact bef_fld hf hr (by omega) x h
  · exact fldAt_fld hf hr hc x (List.mem_of_mem_take h)
theorem seen_len {f : BForm} {r : BRow} (hf : FormOk f) (hr : RowOk f r) {c p : Nat} (hc : c < f.widths.length) : (seen f r c p).length ≤ 16 := by
  unfold seen
  have h1 := bef_len hf hr (c := c) (by omega)
  have h2 := fldAt_len hf hr hc
  have h3 := nth_wid hf hc
  have h4 := hf.n2
  rw [List.length_append, List.length_take]
  omega
theorem seen_step {f : BForm} {r : BRow} (hf : FormOk f) (hr : RowOk f r) {c p : Nat} (hc : c < f.widths.length) (h : p < (fldAt f r c).length) :
    runeAt (fldAt f r c) p = ((nth (fldAt f r c) p).toNat : Int) ∧ runeNext (fldAt f r c) p = p + 1 ∧ FldB (nth (fldAt f r c) p) ∧ (seen f r c p).length ≤ 16 ∧ 0 ≤ addL 0 (seen f r c p) ∧ addL 0 (seen f r c p) ≤ 2304 ∧
    addL 0 (seen f r c (p + 1)) = addL 0 (seen f r c p) + bytA (seen f r c p).length (nth (fldAt f r c) p) ∧ (seen f r c (p + 1)).length = (seen f r c p).length + 1 := by
  have h1 := fldAt_fld hf hr hc _ (nth_mem h)
  have h2 := rune_low h (fldB_low h1)
  have h3 := seen_len hf hr (p := p) hc
  have h4 := addL_small (seen_fld hf hr (p := p) hc) h3
  exact ⟨h2.1, h2.2, h1, h3, h4.1, h4.2, by rw [seen_succ h, addL_snoc], by rw [seen_succ h]; simp⟩
theorem bytA_blank {x : UInt8} {k : Nat} (h : (x.toNat : Int) = 32) : bytA k x = 0 := by
  have : x = 32 := UInt8.toNat_inj.1 (by show x.toNat = 32; omega)
  unfold bytA; rw [if_pos this]
theorem bytA_fig {x : UInt8} {k : Nat} (hx : FldB x) (h : ¬ (x.toNat : Int) = 32) : bytA k x = ((k : Int) + 1) * ((x.toNat : Int) - 48) ∧ 48 ≤ x.toNat ∧ x.toNat ≤ 57 := by
  have : x ≠ 32 := fun e => h (by rw [e]; rfl)
  unfold bytA; rw [if_neg this]
  exact ⟨rfl, hx.resolve_left this⟩
theorem letN_bnd {f : BForm} {r : BRow} (hf : FormOk f) (hr : RowOk f r) : 0 ≤ letN f r ∧ letN f r ≤ 3000 := by
  rw [letN_bef]
  have := addL_small (bef_fld hf hr (Nat.le_refl _)) (by have := bef_len hf hr (Nat.le_refl _); have := hf.n2; omega)
  split <;> omega
theorem letB_eq {f : BForm} {r : BRow} (h : 0 ≤ letN f r) : UInt8.ofNat (97 + letN f r % 23).toNat = letB f r := by
  unfold letB; congr 1; omega
theorem fldN_short {n w : Int} (h : n.toNat < 10 ^ 26) : (fldN n w).length ≤ w.toNat + 26 := by
  unfold fldN padW
  have := (digN_len (n := n.toNat) (w := 26) (by omega) h).2 h
  rw [List.length_append, List.length_replicate]; omega
def lnP (f : BForm) (rows : List BRow) (c : Nat) : Byt := ((List.range c).map fun c => fldN (sumC rows c) (nth f.widths c + 2) ++ [124]).flatten
def rwP (f : BForm) (r : BRow) (c : Nat) : Byt := (if r.struck then 45 else 32) :: ((List.range c).map fun c => fldN (nth r.nums c) (nth f.widths c) ++ [124]).flatten
theorem lnP_succ (f : BForm) (rows : List BRow) (c : Nat) : lnP f rows (c + 1) = lnP f rows c ++ (fldN (sumC rows c) (nth f.widths c + 2) ++ [124]) := by
  unfold lnP; rw [List.range_succ, List.map_append, List.flatten_append]; simp
theorem rwP_succ (f : BForm) (r : BRow) (c : Nat) : rwP f r (c + 1) = rwP f r c ++ (fldN (nth r.nums c) (nth f.widths c) ++ [124]) := by
  unfold rwP; rw [List.range_succ, List.map_append, List.flatten_append]; simp
theorem rwP_len {f : BForm} {r : BRow} (hf : FormOk f) (hr : RowOk f r) : ∀ {c : Nat}, c ≤ f.widths.length → (rwP f r c).length ≤ 1 + 40 * c
  | 0, _ => by simp [rwP]
  | c + 1, hc => by
    rw [rwP_succ, List.length_append, List.length_append, List.length_singleton]
    have := rwP_len hf hr (c := c) (by omega)
    have h1 := fldAt_len hf hr (c := c) (by omega)
    have := nth_wid hf (c := c) (by omega)
    unfold fldAt at h1
    omega
def wthL (r : BRow) : List Int := [wthR r 0, wthR r 1, wthR r 2, wthR r 3]
def sumL (rows : List BRow) : List Int := [sumC rows 0, sumC rows 1, sumC rows 2, sumC rows 3]
theorem wthL_struck {r : BRow} (h : r.struck = true) : wthL r = [0, 0, 0, 0] := by simp [wthL, wthR, h]
theorem wthL_not {r : BRow} (h : r.struck = false) (hl : r.nums.length ≤ 4) : wthL r = r.nums ++ [0, 0, 0, 0].drop r.nums.length := by
  simp only [wthL, wthR, h]
  obtain ⟨l, s⟩ := r
  match l, hl with
  | [], _ => rfl
  | [a], _ => rfl
  | [a, b], _ => rfl
  | [a, b, c], _ => rfl
  | [a, b, c, d], _ => rfl
  | _ :: _ :: _ :: _ :: _ :: _, hl => simp at hl
theorem nth_wthL (r : BRow) {c : Nat} (hc : c < 4) : nth (wthL r) c = wthR r c := by
  match c, hc with
  | 0, _ => rfl
  | 1, _ => rfl
  | 2, _ => rfl
  | 3, _ => rfl
theorem nth_sumL (rows : List BRow) {c : Nat} (hc : c < 4) : nth (sumL rows) c = sumC rows c := by
  match c, hc with
  | 0, _ => rfl
  | 1, _ => rfl
  | 2, _ => rfl
  | 3, _ => rfl
theorem sumC_snoc (rows : List BRow) (r : BRow) (c : Nat) : sumC (rows ++ [r]) c = sumC rows c + wthR r c := by simp [sumC]
def midL (rows : List BRow) (r : BRow) (c : Nat) : List Int := (List.range 4).map fun k => if k < c then sumC rows k + wthR r k else sumC rows k
theorem midL_four (rows : List BRow) (r : BRow) : midL rows r 4 = sumL (rows ++ [r]) := by
  simp only [sumL, sumC_snoc]; rfl
theorem midL_len (rows : List BRow) (r : BRow) (c : Nat) : (midL rows r c).length = 4 := by simp [midL]
theorem nth_midL (rows : List BRow) (r : BRow) {c : Nat} (hc : c < 4) : nth (midL rows r c) c = sumC rows c := by
  match c, hc with
  | 0, _ => rfl
  | 1, _ => rfl
  | 2, _ => rfl
  | 3, _ => rfl
theorem midL_succ (rows : List BRow) (r : BRow) {c : Nat} (hc : c < 4) : (midL rows r c).set c (sumC rows c + wthR r c) = midL rows r (c + 1) := by
  match c, hc with
  | 0, _ => rfl
  | 1, _ => rfl
  | 2, _ => rfl
  | 3, _ => rfl
theorem sumL_none {rows : List BRow} {r : BRow} (h : wthL r = [0, 0, 0, 0]) : sumL (rows ++ [r]) = sumL rows := by
  have e : ∀ c, c < 4 → sumC (rows ++ [r]) c = sumC rows c := fun c hc => by
    rw [sumC_snoc, ← nth_wthL r hc, h]
    match c, hc with
    | 0, _ => exact Int.add_zero _
    | 1, _ => exact Int.add_zero _
    | 2, _ => exact Int.add_zero _
    | 3, _ => exact Int.add_zero _
  simp only [sumL, e 0 (by omega), e 1 (by omega), e 2 (by omega), e 3 (by omega)]
def SmallR (rows : List BRow) : Prop := ∀ r ∈ rows, r.nums.length ≤ 4 ∧ ∀ c, 0 ≤ nth r.nums c ∧ nth r.nums c < 10000
theorem wthR_bnd {r : BRow} (h : ∀ c, 0 ≤ nth r.nums c ∧ nth r.nums c < 10000) (c : Nat) : 0 ≤ wthR r c ∧ wthR r c < 10000 := by
  unfold wthR; split
  · omega
  · exact h c
theorem sumC_bnd : ∀ {rows : List BRow}, SmallR rows → ∀ c, 0 ≤ sumC rows c ∧ sumC rows c ≤ 10000 * rows.length
  | [], _, c => by simp [sumC]
  | r :: rows, h, c => by
    have h1 := wthR_bnd (h r List.mem_cons_self).2 c
    have h2 := sumC_bnd (rows := rows) (fun x hx => h x (List.mem_cons_of_mem _ hx)) c
    have e : sumC (r :: rows) c = wthR r c + sumC rows c := by simp [sumC]
    rw [e, List.length_cons]; omega
theorem lnP_len {f : BForm} {rows : List BRow} (hf : FormOk f) (hs : SmallR rows) (hl : rows.length ≤ 1000) : ∀ {c : Nat}, c ≤ f.widths.length → (lnP f rows c).length ≤ 40 * c
  | 0, _ => by simp [lnP]
  | c + 1, hc => by
    rw [lnP_succ, List.length_append, List.length_append, List.length_singleton]
    have := lnP_len hf hs hl (c := c) (by omega)
    have h1 := sumC_bnd hs c
    have h2 := fldN_short (n := sumC rows c) (w := nth f.widths c + 2) (by omega)
    have := nth_wid hf (c := c) (by omega)
    omega
theorem small_of {f : BForm} (hf : FormOk f) {r : BRow} (hr : RowOk f r) : r.nums.length ≤ 4 ∧ ∀ c, 0 ≤ nth r.nums c ∧ nth r.nums c < 10000 := by
  refine ⟨by have := hr.len; have := hf.n2; omega, fun c => ?_⟩
  rcases Nat.lt_or_ge c f.widths.length with h | h
  · have h1 := hr.num c h
    have h2 := nth_wid hf h
    have h3 := ten_small (k := (nth f.widths c).toNat) (by omega)
    rw [Int.toNat_of_nonneg (by omega)] at h3
    omega
  · have : nth r.nums c = 0 := by
      have := hr.len
      rw [nth, List.getD_eq_getElem?_getD, List.getElem?_eq_none (by omega)]; rfl
    omega
end Go.Proofs.YtjjndkenddigiaaGreatDoor

namespace Go.Proofs.YtjjndkenddigiaaGreatDoor
open Go Go.T Go.RowKit Go.Shelf
theorem below_post {w w' : World} {M : Tags} {s : ByteArray} (wf : Wf w M) (h : Below w.heap.size w w') : retPost w M (Ty.str s) (.returned (.string s)) w' := by
  refine ⟨.string s, callM w M, rfl, ⟨fun b t hm => ?_, fun b b' t ht hm hm' => ?_, wf.amb.of fun b hb hm => ⟨by simp [callM, hm], h.block b hb⟩⟩, ⟨h.size, h.os, h.tape, h.output, fun b hb hm => ⟨by simp [callM, hm], h.block b hb⟩, fun b t hm _ => ⟨by simp [callM, wf.lt b t hm, hm], fun _ => h.block b (wf.lt b t hm)⟩⟩, rfl⟩
  · unfold callM at hm
    split at hm
    · exact Nat.lt_of_lt_of_le ‹_› h.size
    · cases hm
  · unfold callM at hm hm'
    split at hm <;> split at hm' <;> first | exact wf.inj b b' t ht hm hm' | cases hm | cases hm'
theorem tab_of {w : World} {M : Tags} (wf : Wf w M) : Lib.TabIs Tryz.prog w "internal/strconv.uint64pow10" .u64 Lib.pow10Tab := by
  obtain ⟨_, T, z, h⟩ := wf.amb _ (show (3, (Lib.pow10Tab.map fun z => Value.int .u64 z).toArray) ∈ laidB from List.mem_singleton.2 rfl)
  have hg : Tryz.prog.globalNamed "internal/strconv.uint64pow10" = some 3 := by kernel_rfl
  unfold Lib.TabIs World.var?
  rw [hg]
  show (match w.heap[3]? with | some (.cells cs _ _) => some cs | _ => none) = _
  rw [h]
theorem c_Itoa (n : Int) (h0 : -9223372036854775808 ≤ n) (h1 : n ≤ 9223372036854775807) : Ctr Tryz.prog 133 [Ty.int .i64 n] (Ty.str (bs (Lib.itoa n))) := by
  refine ⟨⟨_, Tryz.func133, by kernel_rfl, by kernel_rfl⟩, fun w M vs wf _ hd => ?_⟩
  match vs, hd with
  | [v], ⟨hv, _⟩ =>
    obtain rfl : v = .int .i64 n := hv
    refine (Any.strconv_Itoa ly_LaysM_n171 n h0 h1 w (tab_of wf)).mono ?_
    rintro e w' ⟨rfl, k, os, rfl⟩
    exact below_post wf ⟨rfl, rfl, rfl, by show w.heap.size ≤ (w.heap ++ os).size; simp, fun b hb => by show (w.heap ++ os)[b]? = _; rw [Array.getElem?_append_left hb]⟩
theorem c_Repeat (l : Byt) (c : Nat) (hl : l.length * c ≤ 1000000) (hc : c ≤ 1000000) : Ctr Tryz.prog 53 [Ty.str (bs l), Ty.int .i64 (c : Nat)] (Ty.str (bs (Lib.repeatL l c))) := by
  refine ⟨⟨_, Tryz.func53, by kernel_rfl, by kernel_rfl⟩, fun w M vs wf _ hd => ?_⟩
  match vs, hd with
  | [v, u], ⟨hv, hu, _⟩ =>
    obtain rfl : v = .string (bs l) := hv
    obtain rfl : u = .int .i64 (c : Nat) := hu
    refine (Any.strings_Repeat ly_Lays_n105 ly_Builder_Extra (bs l) c w (by omega) (by rw [bs_size]; omega)).mono ?_
    rintro e w' ⟨rfl, hb⟩
    have := below_post (s := bs (Lib.repeatL l c)) wf hb
    rw [bs_list]; exact this
theorem rep_one (x : UInt8) : ∀ c, Lib.repeatL [x] c = List.replicate c x
  | 0 => rfl
  | c + 1 => by rw [Lib.repeatL, rep_one x c]; rfl
theorem itoa_dig {n : Int} (h : 0 ≤ n) (h1 : n ≤ 9223372036854775807) : Lib.itoa n = digN n.toNat := by
  rw [digN_dec (by omega)]
  unfold Lib.itoa
  rw [if_neg (by omega)]
theorem c_Rep1 (x : UInt8) (n : Int) (h : 0 ≤ n ∧ n ≤ 1000) : Ctr Tryz.prog 53 [Ty.str (bs [x]), Ty.int .i64 n] (Ty.str (bs (List.replicate n.toNat x))) := by
  have := c_Repeat [x] n.toNat (by simp; omega) (by omega)
  rw [rep_one, Int.toNat_of_nonneg h.1] at this
  exact this
theorem itoa_len {n : Int} (h0 : -9223372036854775808 ≤ n) (h1 : n ≤ 9223372036854775807) : (Lib.itoa n).length ≤ 30 := by
  unfold Lib.itoa
  split
  · rw [← digN_dec (by omega)]
    have := (digN_len (n := n.natAbs) (w := 26) (by omega) (by omega)).2 (by omega)
    simp; omega
  · rw [← digN_dec (by omega)]
    have := (digN_len (n := n.toNat) (w := 26) (by omega) (by omega)).2 (by omega)
    omega
theorem chk_off {n w : Int} (h0 : -9223372036854775808 ≤ n) (h1 : n ≤ 9223372036854775807) (hw : 1 ≤ w) : (decide (n < 0) || decide (((Lib.itoa n).length : Int) > w)) = offB n 0 (ten w - 1) := by
  unfold offB
  by_cases h : n < 0
  · simp [h]
  · have := long_off (n := n) (w := w) (by omega) hw h1
    rw [itoa_dig (by omega) h1, decide_eq_false h, Bool.false_or, Bool.false_or, Bool.eq_iff_iff, decide_eq_true_eq, decide_eq_true_eq]
    omega
theorem fld_out {n w : Int} (h0 : 0 ≤ n) (h1 : n ≤ 9223372036854775807) : List.replicate (max 0 (w - ((Lib.itoa n).length : Int))).toNat 32 ++ Lib.itoa n = fldN n w := by
  rw [itoa_dig h0 h1]
  unfold fldN padW
  congr 2
  omega
def Rng (l : List Int) : Prop := ∀ x ∈ l, -9223372036854775808 ≤ x ∧ x ≤ 9223372036854775807
end Go.Proofs.YtjjndkenddigiaaGreatDoor

namespace Go.Proofs.YtjjndkenddigiaaGreatDoor
open Go Go.T
set_option maxHeartbeats 2000000
attribute [local irreducible] dInt dBool dSl dPp dPtr dAgg dTup dClo dAny dEx dStr dGd dCells dVec dVs dRow dOp nth Tri Into TOps Ctr bodyPost Exit.then Exit.inBlock Code.wp Code.wpIn dPa dArr dMp dMap CtrG keepPost iterPost bodyPostM roundQ
set_option maxRecDepth 100000 in
theorem c_field (n w : Int) (h0 : 0 ≤ n) (h1 : n ≤ 9223372036854775807) (hw : 1 ≤ w ∧ w ≤ 10) : Ctr Tryz.prog 125 [Ty.int .i64 n, Ty.int .i64 w] (Ty.str (bs (fldN n w))) := by
  refine fn_intro Tryz.func125 rfl (by decide) Tryz.ntmps125 (by exact Nat.le_of_ble_eq_true rfl) fun w0 M0 => ?_
  have hl := itoa_len (n := n) (by omega) h1
  refine t_seq ?_
  refine t_region ?_
  refine asS' rfl ?_
  refine r_nil ?_
  refine i_then ?_
  refine t_seq ?_
  refine t_region ?_
  refine mvI rfl ?_
  refine r_call (c_Itoa n (by omega) h1) rfl rfl rfl rfl rfl ?_
  refine asS' rfl ?_
  refine r_nil ?_
  refine i_then ?_
  refine t_seq ?_
  refine t_region ?_
  refine mvI rfl ?_
  refine mvS' rfl ?_
  refine r_lenS rfl rfl rfl ?_
  refine r_sub rfl rfl (by omega) (by omega) ?_
  refine r_buildSlice (E := I64) (xs := [w - ((Lib.itoa n).length : Int)]) rfl rfl rfl rfl rfl (by decide) (by decide) (by repeat (first | exact (Parts.nil : Parts _ _ [] _) | (show Parts _ _ ((_, _) :: _) _; apply Parts.one; (· exact (rfl : _ = Ty.int _ _)); (· exact rfl)))) (by exact rfl) rfl ?_
  refine r_call (c_greatest _ _) rfl rfl rfl rfl rfl ?_
  refine r_call (c_Rep1 32 (max 0 (w - ((Lib.itoa n).length : Int))) ⟨by omega, by omega⟩) rfl rfl rfl rfl rfl ?_
  refine mvS' rfl ?_
  refine r_catS rfl rfl (by rw [List.length_replicate]; omega) ?_
  refine asS' rfl ?_
  refine r_nil ?_
  refine i_then ?_
  refine t_ret ?_
  refine i_rp1 rfl rfl ?_
  all_goals skip
  exact ret_eq rfl rfl (congrArg (fun l => Ty.str (bs l)) (fld_out h0 h1))
set_option maxRecDepth 100000 in
theorem c_check (f : BForm) (hf : FormOk f) (r : BRow) (hr : Rng r.nums) : Ctr Tryz.prog 90 [frmT f, rowT r] (Ty.int .i64 (rowY f r)) := by
  refine fn_intro Tryz.func90 rfl (by decide) Tryz.ntmps90 (by exact Nat.le_of_ble_eq_true rfl) fun w0 M0 => ?_
  have hn := hf.n2
  refine t_seq ?_
  refine t_region ?_
  refine r_box_agg rfl ?_
  refine r_box_agg rfl ?_
  refine asI rfl ?_
  refine r_nil ?_
  refine i_then ?_
  refine t_seq ?_
  refine t_seq ?_
  refine t_region ?_
  refine r_field_pp rfl rfl rfl rfl rfl (by decide) ?_
  refine r_load_pp rfl rfl rfl rfl ?_
  refine r_len rfl rfl rfl ?_
  refine r_field_pp rfl rfl rfl rfl rfl (by decide) ?_
  refine r_load_pp rfl rfl rfl rfl ?_
  refine r_len rfl rfl rfl ?_
  refine r_bin rfl rfl rfl ?_
  refine r_nil ?_
  refine i_then ?_
  refine t_cond_ndec rfl (fun hc1 => ?_) (fun hc1 => ?_)
  ·
    refine t_seq ?_
    refine t_region ?_
    refine asI rfl ?_
    refine r_nil ?_
    refine i_then ?_
    refine t_ret ?_
    refine i_then_ret ?_
    refine i_rp1 rfl rfl ?_
    all_goals skip
    exact ret_eq rfl rfl (congrArg (Ty.int .i64) (by rw [rowY, if_pos (by omega)]))
  ·
    refine t_skip ?_
    refine i_then ?_
    refine t_seq ?_
    refine t_seq ?_
    refine t_region ?_
    refine r_field_pp rfl rfl rfl rfl rfl (by decide) ?_
    refine r_load_pp rfl rfl rfl rfl ?_
    refine r_len rfl rfl rfl ?_
    refine mvI rfl ?_
    refine r_nil ?_
    refine i_then ?_
    refine t_block ?_
    refine t_loop (fun (k : {k : Nat // ∀ c, c < k → offB (nth r.nums c) 0 (ten (nth f.widths c) - 1) = false}) => live [(2, Ty.pp (frmTys f)), (3, Ty.pp (BRowE.tys r)), (16, Ty.int .i64 f.widths.length), (17, Ty.int .i64 (k.1 : Nat))] []) (fun k => f.widths.length - k.1) (⟨0, fun c hc => absurd hc (Nat.not_lt_zero c)⟩) ?_ fun k => ?_
    · (refine Ent.mk' ?_ ?_ <;> (repeat' (first | exact allSub_zero | exact allTags_nil | refine allSub_succ' ?_ (Ty.sub_any _) | refine allSub_succ' ?_ (Ty.sub_refl _))))
    ·
      have hlen : r.nums.length = f.widths.length := by omega
      refine t_seq ?_
      refine t_region ?_
      refine r_bin rfl rfl rfl ?_
      refine r_nil ?_
      refine i_then ?_
      refine t_seq ?_
      refine t_cond_dec rfl (fun hc2 => ?_) (fun hc2 => ?_)
      ·
        refine t_skip ?_
        refine i_then ?_
        refine t_seq ?_
        refine t_block ?_
        refine t_seq ?_
        refine t_region ?_
        refine mvI rfl ?_
        refine asI rfl ?_
        refine r_nil ?_
        refine i_then ?_
        refine t_seq ?_
        refine t_region ?_
        refine r_field_pp rfl rfl rfl rfl rfl (by decide) ?_
        refine r_load_pp rfl rfl rfl rfl ?_
        refine mvI rfl ?_
        refine r_index_slN rfl rfl rfl rfl rfl rfl (by omega) ?_
        refine r_load_pp rfl rfl rfl rfl ?_
        refine asI rfl ?_
        refine r_nil ?_
        refine i_then ?_
        refine t_seq ?_
        have hk := hr _ (nth_mem (xs := r.nums) (k := k.1) (by omega))
        have hw := hf.w _ (nth_mem (xs := f.widths) (k := k.1) (by omega))
        have hco := chk_off hk.1 hk.2 hw.1
        refine t_draw mixed rfl ?_
        refine mvI rfl ?_
        refine r_bin rfl rfl rfl ?_
        refine mvB rfl ?_
        apply r_guard (s := 27) rfl rfl rfl
        · intro hg; apply opT_of; (refine mvI rfl ?_); refine r_nil ?_; exact rfl
        · exact rfl
        · exact rfl
        apply r_guard (s := 27) rfl rfl rfl
        · intro hg; apply opT_strip (s := 28) rfl (by (rw [hg]; rfl)); apply opT_of; (refine r_call (c_Itoa (nth r.nums k.1) hk.1 hk.2) rfl rfl rfl rfl rfl ?_); refine r_nil ?_; exact rfl
        · exact rfl
        · exact rfl
        apply r_guard (s := 27) rfl rfl rfl
        · intro hg; apply opT_strip (s := 29) rfl (by (rw [hg]; rfl)); apply opT_of; (refine r_lenS rfl rfl rfl ?_); refine r_nil ?_; exact rfl
        · exact rfl
        · exact rfl
        apply r_guard (s := 27) rfl rfl rfl
        · intro hg; apply opT_of; (refine r_field_pp rfl rfl rfl rfl rfl (by decide) ?_); refine r_nil ?_; exact rfl
        · exact rfl
        · exact rfl
        apply r_guard (s := 27) rfl rfl rfl
        · intro hg; apply opT_strip (s := 31) rfl (by (rw [hg]; rfl)); apply opT_of; (refine r_load_pp rfl rfl rfl rfl ?_); refine r_nil ?_; exact rfl
        · exact rfl
        · exact rfl
        apply r_guard (s := 27) rfl rfl rfl
        · intro hg; apply opT_of; (refine mvI rfl ?_); refine r_nil ?_; exact rfl
        · exact rfl
        · exact rfl
        apply r_guard (s := 27) rfl rfl rfl
        · intro hg; apply opT_strip (s := 32) rfl (by (rw [hg]; rfl)); apply opT_strip (s := 33) rfl (by (rw [hg]; rfl)); apply opT_of; (refine r_index_slN rfl rfl rfl rfl rfl rfl (by omega) ?_); refine r_nil ?_; exact rfl
        · exact rfl
        · exact rfl
        apply r_guard (s := 27) rfl rfl rfl
        · intro hg; apply opT_strip (s := 34) rfl (by (rw [hg]; rfl)); apply opT_of; (refine r_load_pp rfl rfl rfl rfl ?_); refine r_nil ?_; exact rfl
        · exact rfl
        · exact rfl
        apply r_guard (s := 27) rfl rfl rfl
        · intro hg; apply opT_strip (s := 30) rfl (by (rw [hg]; rfl)); apply opT_strip (s := 35) rfl (by (rw [hg]; rfl)); apply opT_of; (refine r_bin rfl rfl rfl ?_); refine r_nil ?_; exact rfl
        · exact rfl
        · exact rfl
        refine r_or rfl rfl ?_
        refine r_nil ?_
        refine ⟨by kernel_rfl, ?_⟩
        refine i_then ?_
        refine t_cond rfl (fun hc3 => ?_) (fun hc3 => ?_)
        ·
          refine t_seq ?_
          refine t_region ?_
          refine asI rfl ?_
          refine r_nil ?_
          refine i_then ?_
          refine t_ret ?_
          refine i_block_ret ?_
          refine i_then_ret ?_
          refine i_then_ret ?_
          refine i_block_ret ?_
          refine i_then_ret ?_
          refine i_rp1 rfl rfl ?_
          all_goals skip
          exact ret_eq rfl rfl (congrArg (Ty.int .i64) (by rw [rowY, if_neg (by omega), if_pos (rng_at (k := k.1) (by omega) (by rw [← hco]; exact hc3))]))
        ·
          refine t_skip ?_
          refine i_block ?_
          refine i_then ?_
          refine t_region ?_
          refine r_add rfl rfl (by omega) (by omega) ?_
          refine mvI rfl ?_
          refine r_nil ?_
          refine i_round (⟨k.1 + 1, rng_ext k.2 (by rw [← hco]; exact hc3)⟩) ?_ (by show f.widths.length - (k.1 + 1) < f.widths.length - k.1; omega)
          (refine Ent.mk' ?_ ?_ <;> (repeat' (first | exact allSub_zero | exact allTags_nil | refine allSub_succ' ?_ (Ty.sub_any _) | refine allSub_succ' ?_ (Ty.sub_refl _))))
          all_goals skip
      ·
        refine t_exit ?_
        refine i_then_exit ?_
        refine i_then_exit ?_
        refine i_block_exit rfl ?_
        refine i_then ?_
        refine t_seq ?_
        refine t_region ?_
        refine asI rfl ?_
        refine r_nil ?_
        refine i_then ?_
        refine t_ret ?_
        refine i_rp1 rfl rfl ?_
        all_goals skip
        exact ret_eq rfl rfl (congrArg (Ty.int .i64) (by rw [rowY, if_neg (by omega), if_neg (ng (rng_neg k.2 (by omega)))]))
set_option maxRecDepth 100000 in
theorem c_Check (b : Book) (hb : ∀ r ∈ b.rows, Rng r.nums) : Ctr Tryz.prog 34 [bokT b] (Ty.int .i64 (bokY b)) := by
  refine fn_intro Tryz.func34 rfl (by decide) Tryz.ntmps34 (by exact Nat.le_of_ble_eq_true rfl) fun w0 M0 => ?_
  refine t_seq ?_
  refine t_region ?_
  refine r_box_agg rfl ?_
  refine asI rfl ?_
  refine r_nil ?_
  refine i_then ?_
  refine t_seq ?_
  refine t_seq ?_
  refine t_region ?_
  refine r_field_pp rfl rfl rfl rfl rfl (by decide) ?_
  refine r_load_ppN rfl rfl rfl (by exact Nat.le_of_ble_eq_true rfl) ?_
  refine r_call (c_CheckForm _) rfl rfl rfl rfl rfl ?_
  refine asI rfl ?_
  refine r_nil ?_
  refine i_then ?_
  refine t_seq ?_
  refine t_region ?_
  refine mvI rfl ?_
  refine r_bin rfl rfl rfl ?_
  refine r_nil ?_
  refine i_then ?_
  refine t_cond_ndec rfl (fun hc1 => ?_) (fun hc1 => ?_)
  ·
    refine t_seq ?_
    refine t_region ?_
    refine mvI rfl ?_
    refine asI rfl ?_
    refine r_nil ?_
    refine i_then ?_
    refine t_ret ?_
    refine i_then_ret ?_
    refine i_rp1 rfl rfl ?_
    all_goals skip
    exact ret_eq rfl rfl (congrArg (Ty.int .i64) (by rw [bokY, if_pos (by simpa using hc1)]))
  ·
    refine t_skip ?_
    refine i_then ?_
    refine t_seq ?_
    refine t_seq ?_
    refine t_region ?_
    refine r_field_pp rfl rfl rfl rfl rfl (by decide) ?_
    refine r_load_pp rfl rfl rfl rfl ?_
    refine r_len rfl rfl rfl ?_
    refine r_bin rfl rfl rfl ?_
    refine r_nil ?_
    refine i_then ?_
    refine t_cond_dec rfl (fun hc2 => ?_) (fun hc2 => ?_)
    ·
      refine t_seq ?_
      refine t_region ?_
      refine asI rfl ?_
      refine r_nil ?_
      refine i_then ?_
      refine t_ret ?_
      refine i_then_ret ?_
      refine i_rp1 rfl rfl ?_
      all_goals skip
      exact ret_eq rfl rfl (congrArg (Ty.int .i64) (by rw [bokY, if_neg (by simpa using hc1), if_pos (by omega)]))
    ·
      refine t_skip ?_
      refine i_then ?_
      refine t_seq ?_
      refine t_seq ?_
      refine t_region ?_
      refine r_field_pp rfl rfl rfl rfl rfl (by decide) ?_
      refine r_load_pp rfl rfl rfl rfl ?_
      refine r_len rfl rfl rfl ?_
      refine mvI rfl ?_
      refine r_nil ?_
      refine i_then ?_
      refine t_block ?_
      refine t_loop (fun (k : {k : Nat // ∀ i, i < k → rowY b.form (nth b.rows i) = 0}) => live [(1, Ty.pp (bokTys b)), (18, Ty.sl BRowE b.rows), (19, Ty.int .i64 b.rows.length), (20, Ty.int .i64 (k.1 : Nat))] []) (fun k => b.rows.length - k.1) (⟨0, fun c hc => absurd hc (Nat.not_lt_zero c)⟩) ?_ fun k => ?_
      · (refine Ent.mk' ?_ ?_ <;> (repeat' (first | exact allSub_zero | exact allTags_nil | refine allSub_succ' ?_ (Ty.sub_any _) | refine allSub_succ' ?_ (Ty.sub_refl _))))
      ·
        have hf : FormOk b.form := frmY_zero.1 (by simpa using hc1)
        refine t_seq ?_
        refine t_region ?_
        refine r_bin rfl rfl rfl ?_
        refine r_nil ?_
        refine i_then ?_
        refine t_seq ?_
        refine t_cond_dec rfl (fun hc3 => ?_) (fun hc3 => ?_)
        ·
          refine t_skip ?_
          refine i_then ?_
          refine t_seq ?_
          refine t_block ?_
          refine t_seq ?_
          refine t_region ?_
          refine r_index_slN rfl rfl rfl rfl rfl rfl (by omega) ?_
          refine r_load_ppN rfl rfl rfl (by exact Nat.le_of_ble_eq_true rfl) ?_
          refine r_alloc rfl (by exact List.cons_ne_nil _ _) rfl ?_
          refine r_storeN rfl rfl (by decide) rfl rfl rfl rfl rfl rfl ?_
          refine r_nil ?_
          refine i_then ?_
          refine t_seq ?_
          refine t_region ?_
          refine r_field_pp rfl rfl rfl rfl rfl (by decide) ?_
          refine r_load_ppN rfl rfl rfl (by exact Nat.le_of_ble_eq_true rfl) ?_
          refine r_load_ptrN rfl rfl (by decide) rfl rfl (by exact Nat.le_of_ble_eq_true rfl) ?_
          refine r_call (c_check b.form hf _ (hb _ (nth_mem (by omega)))) rfl rfl rfl rfl rfl ?_
          refine asI rfl ?_
          refine r_nil ?_
          refine i_then ?_
          refine t_seq ?_
          refine t_region ?_
          refine mvI rfl ?_
          refine r_bin rfl rfl rfl ?_
          refine r_nil ?_
          refine i_then ?_
          refine t_cond_ndec rfl (fun hc4 => ?_) (fun hc4 => ?_)
          ·
            refine t_seq ?_
            refine t_region ?_
            refine mvI rfl ?_
            refine asI rfl ?_
            refine r_nil ?_
            refine i_then ?_
            refine t_ret ?_
            refine i_block_ret ?_
            refine i_then_ret ?_
            refine i_then_ret ?_
            refine i_block_ret ?_
            refine i_then_ret ?_
            refine i_rp1 rfl rfl ?_
            all_goals skip
            exact ret_eq rfl rfl (congrArg (Ty.int .i64) (by rw [bokY, if_neg (by simpa using hc1), if_neg (by omega), firstY_at k.2 (by omega) (by simpa using hc4)]))
          ·
            refine t_skip ?_
            refine i_block ?_
            refine i_then ?_
            refine t_region ?_
            refine r_add rfl rfl (by omega) (by omega) ?_
            refine mvI rfl ?_
            refine r_nil ?_
            refine i_round (⟨k.1 + 1, fun i hi => by by_cases e : i = k.1; subst e; simpa using hc4; exact k.2 i (by omega)⟩) ?_ (by show b.rows.length - (k.1 + 1) < b.rows.length - k.1; omega)
            (refine Ent.mk' ?_ ?_ <;> (repeat' (first | exact allSub_zero | exact allTags_nil | refine allSub_succ' ?_ (Ty.sub_any _) | refine allSub_succ' ?_ (Ty.sub_refl _))))
            all_goals skip
        ·
          refine t_exit ?_
          refine i_then_exit ?_
          refine i_then_exit ?_
          refine i_block_exit rfl ?_
          refine i_then ?_
          refine t_seq ?_
          refine t_region ?_
          refine asI rfl ?_
          refine r_nil ?_
          refine i_then ?_
          refine t_ret ?_
          refine i_rp1 rfl rfl ?_
          all_goals skip
          exact ret_eq rfl rfl (congrArg (Ty.int .i64) (by rw [bokY, if_neg (by simpa using hc1), if_neg (by omega), firstY_none k.2 (by omega)]))
end Go.Proofs.YtjjndkenddigiaaGreatDoor

namespace Go.Proofs.YtjjndkenddigiaaGreatDoor
open Go Go.T
set_option maxHeartbeats 2000000
theorem si_eq {a : Byt} {p q : Nat} (h : p = q) : (Cont.si a p).Sub (Cont.si a q) := h ▸ Cont.sub_refl _
attribute [local irreducible] dInt dBool dSl dPp dPtr dAgg dTup dClo dAny dEx dStr dGd dCells dVec dVs dRow dOp nth Tri Into TOps Ctr bodyPost Exit.then Exit.inBlock Code.wp Code.wpIn dPa dArr dMp dMap CtrG keepPost iterPost bodyPostM roundQ
attribute [local irreducible] dSi dNx
set_option maxRecDepth 100000 in
theorem c_letter (f : BForm) (hf : FormOk f) (r : BRow) (hr : RowOk f r) : Ctr Tryz.prog 94 [frmT f, rowT r] (Ty.str (bs [letB f r])) := by
  refine fn_intro Tryz.func94 rfl (by decide) Tryz.ntmps94 (by exact Nat.le_of_ble_eq_true rfl) fun w0 M0 => ?_
  have hn := hf.n2
  have hlen := hr.len
  have hlb := letN_bnd hf hr
  refine t_seq ?_
  refine t_region ?_
  refine r_box_agg rfl ?_
  refine r_box_agg rfl ?_
  refine asS' rfl ?_
  refine r_nil ?_
  refine i_then ?_
  refine t_seq ?_
  refine t_region ?_
  refine asI rfl ?_
  refine asI rfl ?_
  refine r_nil ?_
  refine i_then ?_
  refine t_join (J := live [(2, Ty.pp (frmTys f)), (3, Ty.pp (BRowE.tys r)), (5, Ty.int .i64 (if r.struck then 11 else 0)), (6, Ty.int .i64 0)]) ?_ ?_
  ·
    refine t_seq ?_
    refine t_region ?_
    refine r_field_pp rfl rfl rfl rfl rfl (by decide) ?_
    refine r_load_pp rfl rfl rfl rfl ?_
    refine r_nil ?_
    refine i_then ?_
    refine t_cond rfl (fun hc1 => ?_) (fun hc1 => ?_)
    ·
      refine t_region ?_
      refine asI rfl ?_
      refine r_nil ?_
      refine i_join ?_
      (refine Ent.mk' ?_ ?_ <;> (repeat' (first | exact allSub_zero | exact allTags_nil | refine allSub_succ' ?_ (Ty.sub_any _) | refine allSub_succ' ?_ (Ty.sub_refl _) | refine allSub_succ' ?_ ?_)))
      all_goals exact Ty.sub_int (by rw [hc1]; rfl)
    ·
      refine t_skip ?_
      refine i_join ?_
      (refine Ent.mk' ?_ ?_ <;> (repeat' (first | exact allSub_zero | exact allTags_nil | refine allSub_succ' ?_ (Ty.sub_any _) | refine allSub_succ' ?_ (Ty.sub_refl _) | refine allSub_succ' ?_ ?_)))
      all_goals exact Ty.sub_int (by rw [hc1]; rfl)
  ·
    refine t_seq ?_
    refine t_seq ?_
    refine t_region ?_
    refine r_field_pp rfl rfl rfl rfl rfl (by decide) ?_
    refine r_load_pp rfl rfl rfl rfl ?_
    refine r_len rfl rfl rfl ?_
    refine mvI rfl ?_
    refine r_nil ?_
    refine i_then ?_
    refine t_block ?_
    refine t_loop (fun (c : {c : Nat // c ≤ f.widths.length}) => live [(2, Ty.pp (frmTys f)), (3, Ty.pp (BRowE.tys r)), (5, Ty.int .i64 ((if r.struck then 11 else 0) + addL 0 (bef f r c.1))), (6, Ty.int .i64 ((bef f r c.1).length : Nat)), (14, Ty.sl I64 f.widths), (15, Ty.int .i64 f.widths.length), (16, Ty.int .i64 (c.1 : Nat))] []) (fun c => f.widths.length - c.1) (⟨0, Nat.zero_le _⟩) ?_ fun c => ?_
    · (refine Ent.mk' ?_ ?_ <;> (repeat' (first | exact allSub_zero | exact allTags_nil | refine allSub_succ' ?_ (Ty.sub_any _) | refine allSub_succ' ?_ (Ty.sub_refl _) | refine allSub_succ' ?_ ?_)))
      all_goals exact Ty.sub_int (by simp [bef, addL])
    ·
      refine t_seq ?_
      refine t_region ?_
      refine r_bin rfl rfl rfl ?_
      refine r_nil ?_
      refine i_then ?_
      refine t_seq ?_
      refine t_cond_dec rfl (fun hc2 => ?_) (fun hc2 => ?_)
      ·
        refine t_skip ?_
        refine i_then ?_
        refine t_seq ?_
        refine t_block ?_
        refine t_seq ?_
        refine t_region ?_
        refine mvI rfl ?_
        refine r_index_slN rfl rfl rfl rfl rfl rfl (by omega) ?_
        refine r_load_pp rfl rfl rfl rfl ?_
        refine asI rfl ?_
        refine asI rfl ?_
        refine r_nil ?_
        refine i_then ?_
        refine t_seq ?_
        have hcw : c.1 < f.widths.length := by omega
        have hnum := hr.num c.1 hcw
        have hwid := nth_wid hf hcw
        have htl := ten_le (w := nth f.widths c.1) (by omega)
        refine t_region ?_
        refine r_field_pp rfl rfl rfl rfl rfl (by decide) ?_
        refine r_load_pp rfl rfl rfl rfl ?_
        refine mvI rfl ?_
        refine r_index_slN rfl rfl rfl rfl rfl rfl (by omega) ?_
        refine r_load_pp rfl rfl rfl rfl ?_
        refine mvI rfl ?_
        refine r_call (c_field _ _ (by omega) (by omega) ⟨by omega, by omega⟩) rfl rfl rfl rfl rfl ?_
        refine r_rangeS rfl rfl rfl rfl ?_
        refine r_nil ?_
        refine i_then ?_
        refine t_block ?_
        refine t_loop (fun (p : {p : Nat // p ≤ (fldAt f r c.1).length}) => live [(2, Ty.pp (frmTys f)), (3, Ty.pp (BRowE.tys r)), (5, Ty.int .i64 ((if r.struck then 11 else 0) + addL 0 (seen f r c.1 p.1))), (6, Ty.int .i64 ((seen f r c.1 p.1).length : Nat)), (14, Ty.sl I64 f.widths), (15, Ty.int .i64 f.widths.length), (16, Ty.int .i64 (c.1 : Nat)), (28, Ty.ptr 29 0)] [(29, Cont.si (fldAt f r c.1) p.1)]) (fun p => (fldAt f r c.1).length - p.1) (⟨0, Nat.zero_le _⟩) ?_ fun p => ?_
        · (refine Ent.mk' ?_ ?_ <;> (repeat' (first | exact allSub_zero | exact allTags_nil | refine allSub_succ' ?_ (Ty.sub_any _) | refine allSub_succ' ?_ (Ty.sub_refl _) | refine allTags_cons rfl (Cont.sub_refl _) ?_ | refine allSub_succ' ?_ ?_)))
          all_goals exact Ty.sub_int (by rw [seen_zero])
        ·
          refine t_seq ?_
          refine t_region ?_
          refine r_nextS rfl rfl (by decide) ?_
          refine r_extN0 rfl ?_
          refine r_nil ?_
          refine i_then ?_
          refine t_seq ?_
          refine t_cond_dec rfl (fun hc3 => ?_) (fun hc3 => ?_)
          ·
            refine t_skip ?_
            refine i_then ?_
            refine t_block ?_
            refine t_seq ?_
            have hp : p.1 < (fldAt f r c.1).length := by omega
            obtain ⟨e1, e2, e3, e4, e5, e6, e7, e8⟩ := seen_step hf hr (c := c.1) (p := p.1) hcw hp
            have hs0 : (0 : Int) ≤ (if r.struck then 11 else 0) ∧ (if r.struck then 11 else 0) ≤ (11 : Int) := by split <;> omega
            refine t_region ?_
            refine r_extN2 rfl (by omega) ?_
            refine asI rfl ?_
            refine r_nil ?_
            refine i_then ?_
            refine t_seq ?_
            refine t_region ?_
            refine mvI rfl ?_
            refine r_add rfl rfl (by omega) (by omega) ?_
            refine asI rfl ?_
            refine r_nil ?_
            refine i_then ?_
            refine t_seq ?_
            refine t_region ?_
            refine mvI rfl ?_
            refine r_bin rfl rfl rfl ?_
            refine r_nil ?_
            refine i_then ?_
            refine t_cond_ndec rfl (fun hc4 => ?_) (fun hc4 => ?_)
            ·
              have hb := bytA_fig (k := (seen f r c.1 p.1).length) e3 (by rw [← e1]; exact hc4)
              have hbb := bytA_bnd e3 (seen f r c.1 p.1).length
              rw [hb.1, ← e1] at hbb
              refine t_region ?_
              refine mvI rfl ?_
              refine mvI rfl ?_
              refine mvI rfl ?_
              refine r_bin (ty := Ty.int .i32 (runeAt (fldAt f r c.1) p.1 - 48)) rfl rfl (by show some _ = some _; rw [IntWalk.i32_in _ (by omega)]) ?_
              refine r_convK rfl rfl rfl rfl (IntWalk.i64_in (runeAt (fldAt f r c.1) p.1 - 48) (by omega)) ?_
              refine r_mul rfl rfl (by omega) (by omega) ?_
              refine r_add rfl rfl (by omega) (by omega) ?_
              refine asI rfl ?_
              refine r_nil ?_
              refine i_block ?_
              refine i_round (⟨p.1 + 1, by omega⟩) ?_ (by show (fldAt f r c.1).length - (p.1 + 1) < (fldAt f r c.1).length - p.1; omega)
              (refine Ent.mk' ?_ ?_ <;> (repeat' (first | exact allSub_zero | exact allTags_nil | refine allSub_succ' ?_ (Ty.sub_any _) | refine allSub_succ' ?_ (Ty.sub_refl _) | refine allTags_cons rfl ?_ ?_ | refine allSub_succ' ?_ ?_)))
              all_goals skip
              all_goals first | exact si_eq e2 | exact Ty.sub_int (by rw [e8]; omega) | exact Ty.sub_int (by rw [e7, hb.1, e1]; omega)
            ·
              refine t_skip ?_
              refine i_block ?_
              refine i_round (⟨p.1 + 1, by omega⟩) ?_ (by show (fldAt f r c.1).length - (p.1 + 1) < (fldAt f r c.1).length - p.1; omega)
              (refine Ent.mk' ?_ ?_ <;> (repeat' (first | exact allSub_zero | exact allTags_nil | refine allSub_succ' ?_ (Ty.sub_any _) | refine allSub_succ' ?_ (Ty.sub_refl _) | refine allTags_cons rfl ?_ ?_ | refine allSub_succ' ?_ ?_)))
              all_goals skip
              all_goals first | exact si_eq e2 | exact Ty.sub_int (by rw [e8]; omega) | exact Ty.sub_int (by rw [e7, bytA_blank (by rw [← e1]; omega)]; omega)
          ·
            refine t_exit ?_
            refine i_then_exit ?_
            refine i_then_exit ?_
            refine i_block_exit rfl ?_
            refine i_block ?_
            refine i_then ?_
            refine t_region ?_
            refine r_add rfl rfl (by omega) (by omega) ?_
            refine mvI rfl ?_
            refine r_nil ?_
            refine i_round (⟨c.1 + 1, by omega⟩) ?_ (by show f.widths.length - (c.1 + 1) < f.widths.length - c.1; omega)
            (refine Ent.mk' ?_ ?_ <;> (repeat' (first | exact allSub_zero | exact allTags_nil | refine allSub_succ' ?_ (Ty.sub_any _) | refine allSub_succ' ?_ (Ty.sub_refl _) | refine allSub_succ' ?_ ?_)))
            all_goals skip
            all_goals exact Ty.sub_int (by rw [seen_full (by omega)])
      ·
        refine t_exit ?_
        refine i_then_exit ?_
        refine i_then_exit ?_
        refine i_block_exit rfl ?_
        refine i_then ?_
        refine t_seq ?_
        have hcl : c.1 = f.widths.length := by have := c.2; omega
        have hY : ((if r.struck = true then 11 else 0) + addL 0 (bef f r c.1)).tmod 23 = letN f r % 23 := by rw [hcl, ← letN_bef, Int.tmod_eq_emod_of_nonneg hlb.1]
        refine t_region ?_
        refine mvI rfl ?_
        refine r_rem rfl rfl (by omega) ?_
        refine r_add rfl rfl (by rw [hY]; omega) (by rw [hY]; omega) ?_
        refine r_convK (m := 97 + letN f r % 23) rfl rfl rfl rfl (by rw [hY, IntWalk.i32_in _ (by omega)]) ?_
        refine r_convIS rfl rfl rfl rfl (by omega) (by omega) ?_
        refine asS' rfl ?_
        refine r_nil ?_
        refine i_then ?_
        refine t_ret ?_
        refine i_rp1 rfl rfl ?_
        all_goals skip
        exact ret_eq rfl rfl (congrArg (fun x => Ty.str (bs [x])) (letB_eq hlb.1))
end Go.Proofs.YtjjndkenddigiaaGreatDoor

namespace Go.T
open Go Go.RowKit
def LendC (A : As) (L : List Nat) (s t : Ty) : Prop := ∀ w M v, Wf w M → (∀ x ∈ A.tags, x.1 ∈ L → x.2.den w M x.1) → s.den w M v → t.den w (lend M L) v
def LendCs (A : As) (L : List Nat) : List Ty → List Ty → Prop
  | [], [] => True
  | s :: ss, t :: ts => LendC A L s t ∧ LendCs A L ss ts
  | _, _ => False
theorem lendcs_nil {A : As} {L : List Nat} : LendCs A L [] [] := trivial
theorem lendcs_cons {A : As} {L : List Nat} {s t : Ty} {ss ts : List Ty} (h : LendC A L s t) (h' : LendCs A L ss ts) : LendCs A L (s :: ss) (t :: ts) := ⟨h, h'⟩
theorem lendcs_dens {A : As} {L : List Nat} {w : World} {M : Tags} (wf : Wf w M) (ht : ∀ x ∈ A.tags, x.1 ∈ L → x.2.den w M x.1) : ∀ {ss ts : List Ty} {vs : List Value}, LendCs A L ss ts → dens w M ss vs → dens w (lend M L) ts vs
  | [], [], [], _, _ => trivial
  | _ :: _, _ :: _, _ :: _, ⟨h, h'⟩, ⟨h1, h2⟩ => ⟨h _ _ _ wf ht h1, lendcs_dens wf ht h' h2⟩
theorem lendc_of {A : As} {L : List Nat} {s t : Ty} (h : Lend L s t) : LendC A L s t := fun w M v wf _ hd => h w M v wf hd
theorem lendc_vs {A : As} {L : List Nat} {α : Type} {E : El α} {T tg n : Nat} {xs : List α} (hc : A.tag tg = some (.vec E T xs)) (hn : xs.length = n) (h1 : Tag1 tg) (hL : L.contains tg = true) : LendC A L (.vs tg n) (.sl E xs) := fun w M v wf ht hd => by
  have hL' : tg ∈ L := by simpa using hL
  have hv : dVec E T xs w M tg := ht _ (tag_mem hc) hL'
  subst hn
  rcases hd with ⟨h0, rfl⟩ | ⟨b, cc, hb, e, hn1, hn2⟩
  · exact ⟨none, 0, by rw [h0], by omega, by simp [maxLen], fun h => absurd h (by omega)⟩
  refine ⟨_, cc, e, hn1, hn2, fun _ => ⟨b, 0, rfl, lend_in hb hL', wf.lt b _ hb, fun i t hi => ?_⟩⟩
  obtain ⟨u, hu, hdu⟩ := vec_cell wf h1 hb hv hi
  refine ⟨u, by rw [Nat.zero_add]; exact hu, t.mono (S := fun _ => True) (K := fun _ => True) (w := w) ⟨Nat.le_refl _, rfl, rfl, rfl, fun b _ hm => ⟨lend_none hm, rfl⟩, fun b t _ h => absurd trivial h⟩ ?_ ?_ hdu⟩
  · intro u hu
    have : u ∈ depsOf (xs.flatMap E.tys) := List.mem_flatMap.2 ⟨t, List.mem_of_getElem? hi, hu⟩
    rw [E.flat_deps] at this; cases this
  · intro u hu
    have : u ∈ cdepsOf (xs.flatMap E.tys) := List.mem_flatMap.2 ⟨t, List.mem_of_getElem? hi, hu⟩
    rw [E.flat_cdeps] at this; cases this
section
variable {P : Program} {fr : Fr} {ops : Array Oper} {A : As} {rest : List Oper} {K : As → List (As × Fx) → Prop} {d : Nat} {t ty' : TypeId} {p : String} {e : Array Edge} {Q : Exit → Act → World → Prop} {c : Code}
theorem r_callLC (L : List Nat) {f : FuncId} {args : List Ty} {res : Ty} (hF : Ctr P f args res) {xs : List Operand} {ats : Array TypeId} {ss : List Ty} (hx : opsTy A fr xs = ss) (hl : LendCs A L ss args) (hp : res.Plain)
    (h : TOps P fr ops rest (A.set d res) fun A' l => K A' ((A, { d := some d, ty := res, rs := xs.flatMap opR, rt := L }) :: l)) : TOps P fr ops (⟨some d, .call ⟨.value (.func f), xs.toArray, ats⟩, t, p, e, none⟩ :: rest) A K := by
  refine ⟨{ d := some d, ty := res, rs := xs.flatMap opR, rt := L }, ⟨rfl, by simp, by simp, by simp, fun a w M wf _ hrd htg => ?_⟩, h⟩
  rw [if_pos (by simp [Region.wanted])]
  have hv : dens w M ss (xs.map a.eval) := hx ▸ opsTy_dens hrd fun x hx c hc => List.mem_flatMap.2 ⟨x, hx, hc⟩
  have hc := hF.2 w _ _ (lend_wf (L := L) wf) lend_zero (lendcs_dens wf htg hl hv)
  have hrun : (execOp a.eval ⟨some d, .call ⟨.value (.func f), xs.toArray, ats⟩, t, p, e, none⟩).run P w = .ok (.enter f (xs.map a.eval).toArray) w := by
    simp [execOp, resolve, Act.eval, Deferred.ofValue, invoke, run_callFunc hF]
  refine wp_in_enter hrun ?_
  refine hc.mono fun en w' ⟨r, M', he, wf', le, hden⟩ => ?_
  obtain ⟨h1, h2, h3⟩ := callL_left wf le hp hden
  exact ⟨r, he, r, rfl, _, h1, h2, h3, by simp⟩
end
section
open Go.RowKit
variable {P : Program} {A : As} {fn : Func} {n : Nat} {w0 : World} {M0 : Tags} {F : List Nat} {post : List (Nat × Cont)} [T : Tab P]
end
section
variable {P : Program} {fr : Fr} {ops : Array Oper} {A : As} {rest : List Oper} {K : As → List (As × Fx) → Prop} {d : Nat} {t ty' : TypeId} {p : String} {e : Array Edge} [T : Tab P]
end
instance : Inhabited {v : Value // v.oneCell' = true} := ⟨⟨.bool true, rfl⟩⟩
section
variable {P : Program} {fr : Fr} {A : As} {Q : Exit → Act → World → Prop} {code : Code}
end
end Go.T

namespace Go.T
open Go Go.RowKit
section
variable {κ α : Type} [DecidableEq κ]
end
section
variable {P : Program} {fr : Fr} {ops : Array Oper} {A : As} {rest : List Oper} {K : As → List (As × Fx) → Prop} {d : Nat} {t ty' mt kt et : TypeId} {p : String} {e : Array Edge}
variable {κ α : Type} [DecidableEq κ] {E : El α} {Tb J tg : Nat} {q : List (κ × List α)} {k : κ} {xs ys : List α}
end
section
variable {P : Program} {fr : Fr} {ops : Array Oper} {A : As} {rest : List Oper} {K : As → List (As × Fx) → Prop} {d : Nat} {t ty' mt kt et : TypeId} {p : String} {e : Array Edge} [T : Tab P]
variable {κ α : Type} [DecidableEq κ] {E : El α} {Tb J tg : Nat} {q : List (κ × List α)} {k : κ} {xs ys : List α}
end
end Go.T

namespace Go.T
open Go Go.RowKit
section
variable {P : Program} {fr : Fr} {ops : Array Oper} {A : As} {rest : List Oper} {K : As → List (As × Fx) → Prop} {d : Nat} {t ty' mt kt et : TypeId} {p : String} {e : Array Edge} [T : Tab P]
variable {κ α : Type} [DecidableEq κ] {E : El α} {Tb J tg : Nat} {q : List (κ × List α)} {k : κ} {xs ys : List α}
end
end Go.T

namespace Go.T
open Go Go.RowKit
end Go.T

namespace Go.T
open Go Go.RowKit Go.Lib
section
variable {P : Program} {fr : Fr} {ops : Array Oper} {A : As} {rest : List Oper} {K : As → List (As × Fx) → Prop} {d : Nat} {t ty' ty2 : TypeId} {p : String} {e : Array Edge} [T : Tab P]
end
end Go.T

namespace Go.T
open Go Go.RowKit
section
variable {P : Program} {fr : Fr} {ops : Array Oper} {A : As} {rest : List Oper} {K : As → List (As × Fx) → Prop} {t mt : TypeId} {p : String} {e : Array Edge} {d : Option Nat} {x y z : Operand}
end
section
variable {P : Program} {fr : Fr} {ops : Array Oper} {A : As} {rest : List Oper} {K : As → List (As × Fx) → Prop} {d : Nat} {t mt kt et : TypeId} {p : String} {e : Array Edge}
variable {κ β : Type} [DecidableEq κ]
end
section
variable {A : As} {κ β : Type} [DecidableEq κ]
end
section
variable {P : Program} {fr : Fr} {ops : Array Oper} {A : As} {rest : List Oper} {K : As → List (As × Fx) → Prop} {t ty' : TypeId} {p : String} {e : Array Edge} [T : Tab P]
end
section
variable {P : Program} {fr : Fr} {ops : Array Oper} {A : As} {rest : List Oper} {K : As → List (As × Fx) → Prop} {d : Nat} {t ty' : TypeId} {p : String} {e : Array Edge} [T : Tab P]
end
section
variable {P : Program} {A : As} {fn : Func} {n : Nat} {w0 : World} {M0 : Tags} [T : Tab P]
theorem i_rcell3 {tm ty tg Tb t2 t3 : Nat} {l : List Ty} {ti : TI} {r1 r2 r3 : Ty} (hr : fn.results = #[.cell tm ty, .tmp t2, .tmp t3]) (ht : Nat.blt tm n = true) (h2 : Nat.blt t2 n = true) (h3 : Nat.blt t3 n = true) (hx : A.slots tm = .ptr tg 0) (hc : A.tag tg = some (.cells Tb l)) (h1 : Tag1 tg) (hT : T.tab[ty]? = some ti) (ha : ti.k.agg = true) (hl : l.length = ti.size) (hs : RetSub (.agg l) r1) (hs2 : RetSub (A.slots t2) r2) (hs3 : RetSub (A.slots t3) r3) :
    Into ⟨n, w0, M0, [], .plain⟩ A (bodyPost P fn (retPost w0 M0 (Ty.tup [r1, r2, r3])) .ret) := by
  intro a w ⟨M, ok, hsl, htg⟩
  have hd := hsl tm (by simpa using ht)
  rw [hx] at hd
  obtain ⟨b, hb, e⟩ := hd
  obtain ⟨b', cs, hb', hh, hds⟩ := htg _ (tag_mem hc)
  obtain ⟨u, rfl⟩ : ∃ u, tg = u + 1 := ⟨tg - 1, by omega⟩
  have := ok.wf.inj b b' u (by omega) hb hb'
  subst this
  have hlen := dens_len hds
  have hload := run_loadN (P := P) hT ha (w := w) (b := b) (off := 0) (cs := cs.toList) (by rw [hlen, hl]) (fun j v hj => by simpa [World.cell?, hh] using hj)
  have hload' : (loadVar ty ⟨b, 0, none⟩).run P w = .ok (.agg cs) w := by simpa [Instr.loadAt, Instr.sureAddr] using hload
  refine ⟨ok.nodefers (by simp), .tuple #[.agg cs, a.tmps.getD t2 undef, a.tmps.getD t3 undef], ?_, _, pubM M, rfl, pubM_wf ok.wf, base_pub (fr := ⟨n, w0, M0, [], .plain⟩) (fun _ h => h) ok.base, _, rfl, hs _ _ _ ok.wf ⟨cs, rfl, hds⟩, hs2 _ _ _ ok.wf (hsl t2 (by simpa using h2)), hs3 _ _ _ ok.wf (hsl t3 (by simpa using h3)), trivial⟩
  have e' : a.tmps.getD tm undef = .pointer (some ⟨b, 0, none⟩) := e
  have e'' : a.tmps[tm]?.getD undef = .pointer (some ⟨b, 0, none⟩) := by rw [← Array.getD_eq_getD_getElem?]; exact e'
  simp [results, hr, e'', asAddr, hload']
end
section
variable {P : Program} {fr : Fr} {A : As} {c : Code} {Q : Exit → Act → World → Prop}
theorem t_asC {tg : Nat} {C D : Cont} (hc : A.tag tg = some C) (h : C.Sub D) (h' : Tri P fr c ⟨A.slots, (tg, D) :: A.tags⟩ Q) : Tri P fr c A Q := fun a w ⟨M, ok, hsl, ht⟩ =>
  h' a w ⟨M, ok, hsl, fun x hx => by
    rcases List.mem_cons.1 hx with rfl | hx
    · exact h _ _ _ (ht _ (tag_mem hc))
    · exact ht x hx⟩
end
section
variable {P : Program} {fr : Fr} {ops : Array Oper} {A : As} {rest : List Oper} {K : As → List (As × Fx) → Prop} {d : Nat} {t mt kt et : TypeId} {p : String} {e : Array Edge} {κ β : Type} [DecidableEq κ]
end
end Go.T

namespace Go.Proofs.YtjjndkenddigiaaGreatDoor
open Go Go.T Go.RowKit
theorem eqIn_int {P : Program} {w : World} {t : Nat} {k : IntKind} {a b : Int} (d : Nat) (h : P.underlying t = some (.int k)) : (Op.equalIn (d + 1) t (.int k a) (.int k b)).run P w = .ok (decide (a = b)) w := by
  simp [Op.equalIn, run_underlying h, int_beq]
theorem undSums : Tryz.prog.underlying 122 = some (.array 4 3) := by kernel_rfl
theorem eqvSums (a0 a1 a2 a3 b0 b1 b2 b3 : Int) (w : World) : (Op.equal 122 (.agg #[.int .i64 a0, .int .i64 a1, .int .i64 a2, .int .i64 a3]) (.agg #[.int .i64 b0, .int .i64 b1, .int .i64 b2, .int .i64 b3])).run Tryz.prog w = .ok ((decide (a0 = b0) && (decide (a1 = b1) && (decide (a2 = b2) && decide (a3 = b3))))) w := by
  have hs : Tryz.prog.stoodInHeld 122 = false := by kernel_rfl
  have e3 : ∀ (x y : Int) (w : World), (Op.equalIn 9999 3 (.int .i64 x) (.int .i64 y)).run Tryz.prog w = .ok (decide (x = y)) w := fun x y w => eqIn_int 9998 Tryz.underlying3
  have g3 : ∀ w, (isAgg 3).run Tryz.prog w = .ok false w := fun w => by simp [isAgg, run_underlying Tryz.underlying3]
  unfold Op.equal Op.maxDepth
  rw [Op.equalIn]
  simp only [Sem.run_bind, run_underlying undSums, Result.andThen_ok]
  simp [hs, part, g3, e3]
  rw [show List.range' 0 4 = [0, 1, 2, 3] from rfl]
  simp [List.forIn_cons, g3, e3]
  by_cases h0 : a0 = b0
  case neg => simp [h0]
  rw [if_pos h0]
  by_cases h1 : a1 = b1
  case neg => simp [h1]
  rw [if_pos h1]
  by_cases h2 : a2 = b2
  case neg => simp [h2]
  rw [if_pos h2]
  by_cases h3 : a3 = b3
  case neg => simp [h3]
  rw [if_pos h3]
  simp [h0, h1, h2, h3]
theorem eqiSums (xs ys : List Int) (hx : xs.length = 4) (hy : ys.length = 4) : EqT Tryz.prog 122 (xs.flatMap I64.tys) (ys.flatMap I64.tys) (decide (xs = ys)) := by
  match xs, hx with
  | [a0, a1, a2, a3], _ =>
    match ys, hy with
    | [b0, b1, b2, b3], _ =>
      refine ⟨by kernel_rfl, fun w M cs ds h1 h2 => ?_⟩
      obtain ⟨cs⟩ := cs
      obtain ⟨ds⟩ := ds
      match cs, ds, h1, h2 with
      | [ua0, ua1, ua2, ua3], [vb0, vb1, vb2, vb3], h1, h2 =>
        change dens w M [Ty.int .i64 a0, Ty.int .i64 a1, Ty.int .i64 a2, Ty.int .i64 a3] _ at h1
        change dens w M [Ty.int .i64 b0, Ty.int .i64 b1, Ty.int .i64 b2, Ty.int .i64 b3] _ at h2
        simp only [dens, Ty.int, dInt, and_true] at h1 h2
        obtain ⟨rfl, rfl, rfl, rfl⟩ := h1
        obtain ⟨rfl, rfl, rfl, rfl⟩ := h2
        rw [eqvSums]
        congr 1
        simp only [List.cons.injEq, and_true, Bool.decide_and]
end Go.Proofs.YtjjndkenddigiaaGreatDoor

namespace Go.T
open Go Go.RowKit
def dCK (J : World → Tags → Prop) (w : World) (M : Tags) : Prop :=
  ∃ Mc, Wf w Mc ∧ ZOk Mc ∧ J w Mc ∧ (∀ b, M b = none → Mc b = none) ∧ ∀ b u, b < w.heap.size → M b = some u → u ≠ 7000 → Mc b = some (Zt + b)
theorem dCK_mono {J : World → Tags → Prop} (hJ : Cb J) {S K : Nat → Prop} {w w' : World} {M M' : Tags} (le : Le S K w M w' M') (hs : ¬ S 7000) (hk : ¬ K 7000) (h : dCK J w M) : dCK J w' M' := by
  obtain ⟨Mc, wf, z, hj, h1, h2⟩ := h
  have own : ∀ b, M b = some 7000 → M' b = some 7000 ∧ w'.heap[b]? = w.heap[b]? := fun b h => let ⟨a, c⟩ := le.own b _ h hk; ⟨a, c hs⟩
  have mb : ∀ b t, Mc b = some t → t < Zt → M b = some 7000 := fun b t h ht => by
    cases hm : M b with
    | none => rw [h1 b hm] at h; cases h
    | some u =>
      by_cases e : u = 7000
      · rw [e]
      · have := h2 b u (wf.lt b t h) hm e
        rw [this] at h; injection h with h; omega
  let N : Tags := fun b => if b < w'.heap.size then (match M' b with | none => none | some u => if u = 7000 then (if b < w.heap.size ∧ M b = some 7000 then Mc b else some (Zt + b)) else some (Zt + b)) else none
  have hN : ∀ b, N b = if b < w'.heap.size then (match M' b with | none => none | some u => if u = 7000 then (if b < w.heap.size ∧ M b = some 7000 then Mc b else some (Zt + b)) else some (Zt + b)) else none := fun _ => rfl
  have zok : ZOk N := by
    intro b u h hu
    rw [hN] at h
    split at h
    · split at h
      · cases h
      · split at h
        · split at h
          · exact z b u h hu
          · injection h with h; exact h.symm
        · injection h with h; exact h.symm
    · cases h
  have lez : Le (fun t => Zt ≤ t) (fun t => Zt ≤ t) w Mc w' N := by
    refine ⟨le.size, le.os, le.tape, le.out, fun b hb hm => ?_, fun b t hm ht => ?_⟩
    · have hb' : b < w'.heap.size := Nat.lt_of_lt_of_le hb le.size
      cases hmb : M b with
      | none =>
        obtain ⟨a, c⟩ := le.pub b hb hmb
        exact ⟨by rw [hN, if_pos hb', a], c⟩
      | some u =>
        by_cases e : u = 7000
        · subst e
          obtain ⟨a, c⟩ := own b hmb
          exact ⟨by rw [hN, if_pos hb', a]; show (if (7000 : Nat) = 7000 then _ else _) = _; rw [if_pos rfl, if_pos ⟨hb, hmb⟩]; exact hm, c⟩
        · rw [h2 b u hb hmb e] at hm; cases hm
    · have hlt := wf.lt b t hm
      have h0 := mb b t hm (Nat.lt_of_not_le ht)
      obtain ⟨a, c⟩ := own b h0
      refine ⟨?_, fun _ => c⟩
      rw [hN, if_pos (Nat.lt_of_lt_of_le hlt le.size), a]
      show (if (7000 : Nat) = 7000 then _ else _) = _
      rw [if_pos rfl, if_pos ⟨hlt, h0⟩]; exact hm
  have wf' : Wf w' N := by
    refine ⟨fun b t h => ?_, fun b b' t ht1 h h' => ?_, wf.amb.le lez⟩
    · rw [hN] at h
      split at h
      · assumption
      · cases h
    · have part : ∀ b, N b = some (t + 1) → Mc b = some (t + 1) := fun b h => by
        have hz : t + 1 < Zt := by unfold Zt; omega
        rw [hN] at h
        split at h
        · split at h
          · cases h
          · split at h
            · split at h
              · exact h
              · injection h with h; omega
            · injection h with h; omega
        · cases h
      exact wf.inj b b' t ht1 (part b h) (part b' h')
  refine ⟨N, wf', zok, hJ _ _ _ _ wf' lez hj, fun b h => ?_, fun b u hb h hu => ?_⟩
  · rw [hN, h]; split <;> rfl
  · rw [hN, if_pos hb, h]; show (if u = 7000 then _ else _) = _; rw [if_neg hu]
def Cont.ck {J : World → Tags → Prop} (hJ : Cb J) : Cont :=
  { den := fun w M t => t = 7000 ∧ dCK J w M
    mono := fun le _ _ hs hk ⟨e, h⟩ => ⟨e, dCK_mono hJ le (e ▸ hs) (e ▸ hk) h⟩ }
theorem Cont.sub_ck {J : Nat → World → Tags → Prop} (hJ : ∀ k, Cb (J k)) {a b : Nat} (e : a = b) : (Cont.ck (hJ a)).Sub (Cont.ck (hJ b)) := by subst e; exact Cont.sub_refl _
def dYb (b1 : Bool) (J1 Jx : World → Tags → Prop) (w : World) (M : Tags) (v : Value) : Prop := (v = .bool b1 ∧ dCK J1 w M) ∨ (v = .bool (!b1) ∧ dCK Jx w M)
def Ty.yb {J1 Jx : World → Tags → Prop} (b1 : Bool) (h1 : Cb J1) (hx : Cb Jx) : Ty :=
  ⟨dYb b1 J1 Jx, [7000], [7000], fun le hk hs h => h.imp (fun ⟨e, h⟩ => ⟨e, dCK_mono h1 le (hs _ (by simp)) (hk _ (by simp)) h⟩) (fun ⟨e, h⟩ => ⟨e, dCK_mono hx le (hs _ (by simp)) (hk _ (by simp)) h⟩), true, fun _ h => h.elim (fun ⟨e, _⟩ => e ▸ rfl) (fun ⟨e, _⟩ => e ▸ rfl)⟩
theorem Ty.sub_yb {J1 J2 Jx : World → Tags → Prop} {b1 : Bool} {h1 : Cb J1} {h2 : Cb J2} {hx : Cb Jx} (e : J1 = J2) : (Ty.yb b1 h1 hx).Sub (Ty.yb b1 h2 hx) := by subst e; exact Ty.sub_refl _
def Cont.me (g T : Nat) (v : Value) (tys : List Ty) (cs : List Value) (h1 : depsOf tys = []) (h2 : cdepsOf tys = []) : Cont :=
  { den := fun w M _ => M g = some 1000 ∧ w.heap[g]? = some (.cells #[v] T (0, 0)) ∧ dens w M tys cs
    deps := [1000], cdeps := [1000]
    mono := fun le hk hs _ _ ⟨e1, e2, e3⟩ => let ⟨a, c⟩ := le.own g _ e1 (hk 1000 (by simp)); ⟨a, (c (hs 1000 (by simp))).trans e2, dens_mono le (by rw [h1]; intro _ h; cases h) (by rw [h2]; intro _ h; cases h) e3⟩ }
def Cont.snap (w0 : World) (old : Nat → Prop) : Cont :=
  { den := fun w M t => ∀ b, old b → M b = some t ∧ w.heap[b]? = w0.heap[b]?
    mono := fun le _ _ hs hk h b hb => let ⟨a, c⟩ := le.own b _ (h b hb).1 hk; ⟨a, (c hs).trans (h b hb).2⟩ }
def backY (w : World) (M1 Mc' : Tags) : Tags := fun b => if b < w.heap.size then M1 b else (Mc' b).map fun _ => 7000
theorem backY_ok {w w' : World} {M1 Mc Mc' : Tags} (wf1 : Wf w M1) (wf' : Wf w' Mc') (h1 : ∀ b, M1 b = none → Mc b = none) (h2 : ∀ b u, b < w.heap.size → M1 b = some u → u ≠ 7000 → Mc b = some (Zt + b)) (le : Le (fun t => t < Zt) (fun t => t < Zt) w Mc w' Mc') :
    Wf w' (backY w M1 Mc') ∧ Le (· ∈ [7000]) (· ∈ ([] : List Nat)) w M1 w' (backY w M1 Mc') ∧ (∀ b, backY w M1 Mc' b = none → Mc' b = none) ∧ ∀ b u, b < w'.heap.size → backY w M1 Mc' b = some u → u ≠ 7000 → Mc' b = some (Zt + b) := by
  unfold backY
  refine ⟨⟨fun b u h => ?_, fun b b' u ht1 h h' => ?_, wf1.amb.of fun b hb hm => ⟨by simp [hb, hm], (le.pub b hb (h1 b hm)).2⟩⟩, ⟨le.size, le.os, le.tape, le.out, fun b hb hm => ⟨by simp [hb, hm], (le.pub b hb (h1 b hm)).2⟩, fun b u hm _ => ⟨by simp [wf1.lt b u hm, hm], fun hs => ?_⟩⟩, fun b h => ?_, fun b u _ h hu => ?_⟩
  · split at h
    · exact Nat.lt_of_lt_of_le ‹_› le.size
    · obtain ⟨v, hv, _⟩ := Option.map_eq_some_iff.1 h
      exact wf'.lt b v hv
  · have part : ∀ b, (if b < w.heap.size then M1 b else (Mc' b).map fun _ => 7000) = some (u + 1) → M1 b = some (u + 1) := fun b h => by
      split at h
      · exact h
      · obtain ⟨v, _, hv⟩ := Option.map_eq_some_iff.1 h
        omega
    exact wf1.inj b b' u ht1 (part b h) (part b' h')
  · have hu : u ≠ 7000 := fun e => hs (by simp [e])
    exact (le.own b _ (h2 b u (wf1.lt b _ hm) hm hu) (by omega)).2 (by omega)
  · split at h
    · exact (le.pub b ‹_› (h1 b h)).1
    · simpa using h
  · split at h
    · exact (le.own b _ (h2 b u ‹_› h hu) (by omega)).1
    · obtain ⟨v, _, hv⟩ := Option.map_eq_some_iff.1 h
      exact absurd hv.symm hu
def yPost (w : World) (Mc : Tags) (J1 Jx : World → Tags → Prop) (e : Ending) (w' : World) : Prop :=
  ∃ M', Wf w' M' ∧ ZOk M' ∧ Le (fun t => t < Zt) (fun t => t < Zt) w Mc w' M' ∧ ((e = .returned (.bool true) ∧ J1 w' M') ∨ (e = .returned (.bool false) ∧ Jx w' M'))
abbrev gp (g : Nat) : Value := .pointer (some ⟨g, 0, none⟩)
section
variable {P : Program} {fr : Fr} {ops : Array Oper} {A : As} {rest : List Oper} {K : As → List (As × Fx) → Prop} {d : Nat} {t ty' : TypeId} {p : String} {e : Array Edge}
theorem r_yieldY {c l k : Nat} {encs : List (List Ty)} {J : Nat → World → Tags → Prop} {Jx : World → Tags → Prop} (hJ : ∀ k, Cb (J k)) (hJx : Cb Jx) (hY : Yld P l encs J Jx) {xs : List Operand} {ats : Array TypeId} {tys : List Ty}
    (hkd : fr.kd = .plain) (hc : A.op fr (.tmp c) = .ex (yv l)) (hx : opsTy A fr xs = tys) (hd : depsOf tys = []) (hdc : cdepsOf tys = []) (hk : encs[k]? = some tys) (ht : A.tag 7000 = some (.ck (hJ k)))
    (h : TOps P fr ops rest (A.after { d := some d, ty := .yb true (hJ (k + 1)) hJx, S := [7000], rs := c :: xs.flatMap opR, rt := [7000] }) fun A' l' => K A' ((A, { d := some d, ty := .yb true (hJ (k + 1)) hJx, S := [7000], rs := c :: xs.flatMap opR, rt := [7000] }) :: l')) :
    TOps P fr ops (⟨some d, .call ⟨.value (.tmp c), xs.toArray, ats⟩, t, p, e, none⟩ :: rest) A K := by
  refine ⟨{ d := some d, ty := .yb true (hJ (k + 1)) hJx, S := [7000], rs := c :: xs.flatMap opR, rt := [7000] }, ⟨rfl, by simp, by simp, by simp, fun a w M wf hsz hrd htg => ?_⟩, h⟩
  rw [if_pos (by simp [Region.wanted])]
  have hcv := op_den (x := .tmp c) (rs := c :: xs.flatMap opR) (fun u hu => by exact (List.mem_singleton.1 hu) ▸ List.mem_cons_self) hrd
  rw [hc] at hcv
  have hcv : a.eval (.tmp c) = yv l := hcv
  obtain ⟨_, Mc, wfc, z, hj, h1, h2⟩ := htg _ (tag_mem ht) (by simp)
  have hv : dens w Mc tys (xs.map a.eval) := conv_nodeps h1 hd hdc (hx ▸ opsTy_dens (rs := c :: xs.flatMap opR) hrd fun x hx c hc => List.mem_cons_of_mem _ (List.mem_flatMap.2 ⟨x, hx, hc⟩))
  obtain ⟨fn, tmps, assign, body, hy, hR⟩ := hY k tys hk w Mc _ wfc z hj hv
  refine ⟨fun f _ => fr.kd.fn_true f, ?_⟩
  have hrun : (execOp a.eval ⟨some d, .call ⟨.value (.tmp c), xs.toArray, ats⟩, t, p, e, none⟩).run P w = .ok (.round l fn tmps assign body) w := by
    simp [execOp, resolve, hcv, yv, Deferred.ofValue, invoke, hy]
  rw [Oper.semAt_eq _ _ _ (by intro c h; cases h), hrun, Oper.uponIn_round]
  refine ⟨fun h => (by rw [fr.kd.depth_none] at h; cases h), ?_⟩
  have hfe : fr.kd.fence = Fence.wide := by rw [hkd]; rfl
  rw [hfe]
  refine RoundIn.mono hR fun en w' ⟨Mc', wf', z', le, hor⟩ => ?_
  obtain ⟨g1, g2, g3, g4⟩ := backY_ok wf wf' h1 h2 le
  rcases hor with ⟨rfl, hj'⟩ | ⟨rfl, hj'⟩
  · exact ⟨.bool true, rfl, _, g1, g2, .inl ⟨rfl, Mc', wf', z', hj', g3, g4⟩, by simp⟩
  · exact ⟨.bool false, rfl, _, g1, g2, .inr ⟨rfl, Mc', wf', z', hj', g3, g4⟩, by simp⟩
theorem r_notY {x : Operand} {J1 Jx : World → Tags → Prop} {h1 : Cb J1} {hx : Cb Jx} {b1 : Bool} (hop : A.op fr x = .yb b1 h1 hx)
    (h : TOps P fr ops rest (A.set d (.yb (!b1) h1 hx)) fun A' l' => K A' ((A, { d := some d, ty := .yb (!b1) h1 hx, rs := opR x }) :: l')) : TOps P fr ops (⟨some d, .unOp .not ty' x, t, p, e, none⟩ :: rest) A K :=
  tops_pure (opT_pure rfl rfl fun a w M _ hrd _ => by
    have hdx := op_den (x := x) (fun _ h => h) hrd
    rw [hop] at hdx
    rcases hdx with ⟨ex, hj⟩ | ⟨ex, hj⟩
    · exact ⟨.bool (!b1), by simp [execOp, ex, Op.unary], .inl ⟨rfl, hj⟩⟩
    · exact ⟨.bool (!!b1), by simp [execOp, ex, Op.unary], .inr ⟨rfl, hj⟩⟩) h
end
section
variable {P : Program} {fr : Fr} {A : As} {Q : Exit → Act → World → Prop} {x y : Code}
theorem t_condY {c : Operand} {J1 Jx : World → Tags → Prop} {h1 : Cb J1} {hx : Cb Jx} (hc : A.op fr c = .yb false h1 hx) (hth : Tri P fr x ⟨A.slots, (7000, .ck hx) :: A.tags⟩ Q) (hel : Tri P fr y ⟨A.slots, (7000, .ck h1) :: A.tags⟩ Q) : Tri P fr (.cond c x y) A Q := fun a w ha => by
  obtain ⟨M, ok, hs, ht⟩ := ha
  have hd := op_den (x := c) (rs := opR c) (fun _ h => h) (fun c _ hn => hs c hn)
  rw [hc] at hd
  rcases hd with ⟨ev, hj⟩ | ⟨ev, hj⟩
  · exact wpIn_cond_false ev (hel a w ⟨M, ok, hs, fun x hx => by
      rcases List.mem_cons.1 hx with rfl | hx
      · exact ⟨rfl, hj⟩
      · exact ht x hx⟩)
  · exact wpIn_cond_true ev (hth a w ⟨M, ok, hs, fun x hx => by
      rcases List.mem_cons.1 hx with rfl | hx
      · exact ⟨rfl, hj⟩
      · exact ht x hx⟩)
end
def startM (Mc : Tags) (g : Option Nat) : Tags := fun b => match Mc b with | none => none | some u => if u < Zt then some 7000 else if some b = g then some 1000 else some 5000
theorem startM_none {Mc : Tags} {g : Option Nat} {b : Nat} (h : startM Mc g b = none) : Mc b = none := by
  unfold startM at h
  split at h
  · assumption
  · split at h
    · cases h
    · split at h <;> cases h
theorem startM_none' {Mc : Tags} {g : Option Nat} {b : Nat} (h : Mc b = none) : startM Mc g b = none := by simp [startM, h]
theorem startM_wf {w : World} {Mc : Tags} {g : Option Nat} (wf : Wf w Mc) : Wf w (startM Mc g) := by
  refine ⟨fun b t h => ?_, fun b b' t ht h h' => ?_, wf.amb.same fun b h => startM_none' h⟩
  · cases hm : Mc b with
    | none => rw [startM_none' hm] at h; cases h
    | some u => exact wf.lt b u hm
  · have key : ∀ b, startM Mc g b = some (t + 1) → some b = g := fun b h => by
      unfold startM at h
      split at h
      · cases h
      · split at h
        · injection h with h; omega
        · split at h
          · assumption
          · injection h with h; omega
    have e1 := key b h
    have e2 := key b' h'
    rw [← e2] at e1; injection e1
theorem startM_ck {w : World} {Mc : Tags} {g : Option Nat} {J : World → Tags → Prop} (wf : Wf w Mc) (z : ZOk Mc) (hj : J w Mc) : dCK J w (startM Mc g) := by
  refine ⟨Mc, wf, z, hj, fun b h => startM_none h, fun b u _ h hu => ?_⟩
  unfold startM at h
  split at h
  · cases h
  · rename_i v hv
    split at h
    · injection h with h; exact absurd h.symm hu
    · rw [hv]; congr 1; exact z b v hv (by omega)
section
variable {P : Program}
variable {A : As} {fn : Func} {n : Nat} {J1 Jx : World → Tags → Prop}
theorem i_retYI {s : Nat} {w0 : World} {M0 : Tags} {J : Nat → World → Tags → Prop} {m : Nat} {h1 : Cb (J m)} {hx : Cb Jx} (hr : fn.results = #[]) (hsn : Nat.blt s n = true) (hs : A.slots s = .yb true h1 hx) : Into ⟨n, w0, M0, [7000, 5000], .plain⟩ A (bodyPost P fn (iterPost m J Jx (Ty.tup []) (Ty.tup [])) .normal) := by
  intro a w' ⟨M, ok, hsl, htg⟩
  have hd := hsl s (by simpa using hsn)
  rw [hs] at hd
  rcases hd with ⟨ev, Mc', wf', z', hj, k1, k2⟩ | ⟨ev, Mc', wf', z', hj, k1, k2⟩
  · exact ⟨ok.nodefers (by simp), _, results_none hr _ _ _, _, Mc', rfl, wf', z', .inl ⟨⟨_, rfl, trivial⟩, hj⟩⟩
  · exact ⟨ok.nodefers (by simp), _, results_none hr _ _ _, _, Mc', rfl, wf', z', .inr ⟨⟨_, rfl, trivial⟩, hj⟩⟩
end
end Go.T

namespace Go.T
open Go Go.RowKit
section
variable {P : Program} {fr : Fr} {ops : Array Oper} {A : As} {rest : List Oper} {K : As → List (As × Fx) → Prop} {d : Nat} {t ty' : TypeId} {p : String} {e : Array Edge} [T : Tab P]
variable {α : Type} {E : El α} {Tb J : Nat} {xs ys : List α}
end
section
variable {P : Program} {fr : Fr} {A : As} {c : Code} {Q : Exit → Act → World → Prop}
end
end Go.T

namespace Go.T
open Go Go.RowKit
theorem callGL_left {α : Type} {E : El α} {T tg g : Nat} {zs : List α} {L : List Nat} {w w' : World} {M M' : Tags} {r : Value} (hg : Tag1 g) (hE : ∀ x, ∀ t ∈ E.tys x, t.Plain) (wf : Wf w M) (wf' : Wf w' M') (le : Le (fun t => 1 ≤ t) (fun t => 1 ≤ t ∧ t ∉ ([] : List Nat)) w (lend M L) w' M') (hr : (Ty.row E T g zs).den w' M' r) :
    Wf w' (backM w M M' tg g) ∧ Le (· ∈ ([] : List Nat)) (· ∈ [tg]) w M w' (backM w M M' tg g) ∧ (Ty.row E T tg zs).den w' (backM w M M' tg g) r := by
  obtain ⟨u, rfl⟩ : ∃ u, g = u + 1 := ⟨g - 1, by omega⟩
  have old : ∀ b, b < w.heap.size → M' b ≠ some (u + 1) ∧ w'.heap[b]? = w.heap[b]? := fun b hb => by
    cases hm : lend M L b with
    | none =>
      obtain ⟨h, h'⟩ := le.pub b hb hm
      exact ⟨by rw [h]; simp, h'⟩
    | some t =>
      have := lend_zero _ _ hm
      subst this
      obtain ⟨h, h'⟩ := le.own b 0 hm (fun h => absurd h.1 (by decide))
      exact ⟨by rw [h]; simp, h' (by decide)⟩
  refine ⟨⟨fun b t h => ?_, fun b b' t ht1 h h' => ?_, wf.amb.of fun b hb hm => ⟨by simp [backM, hb, hm], (old b hb).2⟩⟩, ⟨le.size, le.os, le.tape, le.out, fun b hb hm => ⟨by simp [backM, hb, hm], (old b hb).2⟩, fun b t hm hk => ?_⟩, ?_⟩
  · unfold backM at h
    split at h
    · rename_i hc; exact Nat.lt_of_lt_of_le hc.1 le.size
    · split at h
      · rename_i hm; exact wf'.lt b _ hm
      · cases h
  · unfold backM at h h'
    by_cases hc : b < w.heap.size ∧ M b ≠ some tg
    · rw [if_pos hc] at h
      by_cases hc' : b' < w.heap.size ∧ M b' ≠ some tg
      · rw [if_pos hc'] at h'; exact wf.inj b b' t ht1 h h'
      · rw [if_neg hc'] at h'
        split at h'
        · injection h' with h'; rw [← h'] at h; exact absurd h hc.2
        · cases h'
    · rw [if_neg hc] at h
      split at h
      · rename_i hm
        injection h with h
        by_cases hc' : b' < w.heap.size ∧ M b' ≠ some tg
        · rw [if_pos hc', ← h] at h'; exact absurd h' hc'.2
        · rw [if_neg hc'] at h'
          split at h'
          · rename_i hm'; exact wf'.inj b b' u (by omega) hm hm'
          · cases h'
      · cases h
  · simp only [List.mem_singleton] at hk
    have hb := wf.lt b t hm
    refine ⟨?_, fun _ => (old b hb).2⟩
    unfold backM
    rw [if_pos ⟨hb, by rw [hm]; simpa using hk⟩, hm]
  · obtain ⟨cs, h1, h2, h3⟩ := hr
    refine ⟨cs, h1, plain_dens (fun t ht => ?_) h2, fun b hb => ?_⟩
    · obtain ⟨x, _, hx⟩ := List.mem_flatMap.1 ht
      exact hE x t hx
    · have hm := h3 b hb
      unfold backM
      rw [if_neg fun hc => (old b hc.1).1 hm, if_pos hm]
section
variable {P : Program} {fr : Fr} {ops : Array Oper} {A : As} {rest : List Oper} {K : As → List (As × Fx) → Prop} {d : Nat} {t : TypeId} {p : String} {e : Array Edge}
theorem r_callGL (L : List Nat) (tg : Nat) {α : Type} {E : El α} {T g : Nat} {zs : List α} {f : FuncId} {args : List Ty} (hF : CtrG P f [] [] args [] (.row E T g zs)) {xs : List Operand} {ats : Array TypeId} {ss : List Ty} (hx : opsTy A fr xs = ss) (hl : Lends L ss args) (hE : ∀ x, ∀ t ∈ E.tys x, t.Plain) (h1 : Tag1 tg) (hg : Tag1 g) (hp : fr.pass.contains tg = false)
    (h : TOps P fr ops rest (A.after { d := some d, ty := .row E T tg zs, K := [tg], rs := xs.flatMap opR }) fun A' l => K A' ((A, { d := some d, ty := .row E T tg zs, K := [tg], rs := xs.flatMap opR }) :: l)) :
    TOps P fr ops (⟨some d, .call ⟨.value (.func f), xs.toArray, ats⟩, t, p, e, none⟩ :: rest) A K := by
  refine ⟨_, ⟨rfl, by simp, by simp, by simp only [List.mem_singleton]; intro u hu; subst hu; exact ⟨h1.1, by simpa using hp⟩, fun a w M wf _ hrd _ => ?_⟩, h⟩
  rw [if_pos (by simp [Region.wanted])]
  have hv : dens w M ss (xs.map a.eval) := hx ▸ opsTy_dens hrd fun x hx c hc => List.mem_flatMap.2 ⟨x, hx, hc⟩
  have hc := hF.2 w _ _ (lend_wf (L := L) wf) (lends_dens wf hl hv) (by intro x hx; cases hx)
  have hrun : (execOp a.eval ⟨some d, .call ⟨.value (.func f), xs.toArray, ats⟩, t, p, e, none⟩).run P w = .ok (.enter f (xs.map a.eval).toArray) w := by
    simp [execOp, resolve, Act.eval, Deferred.ofValue, invoke, run_callFuncG hF]
  refine wp_in_enter hrun ?_
  refine hc.mono fun en w' ⟨r, M', he, wf', le, hden, _⟩ => ?_
  obtain ⟨h1', h2', h3'⟩ := callGL_left hg hE wf wf' le hden
  exact ⟨r, he, r, rfl, _, h1', h2', h3', by simp⟩
end
end Go.T

namespace Go.T
open Go Go.RowKit
end Go.T

namespace Go.T
open Go Go.RowKit
end Go.T

namespace Go.T
open Go Go.RowKit
section
variable {P : Program} {fr : Fr} {A : As} {c : Code} {Q : Exit → Act → World → Prop}
end
end Go.T

namespace Go.T
open Go Go.RowKit
section
variable {P : Program} {A : As} {fn : Func} {n : Nat} {w0 : World} {M0 : Tags}
end
end Go.T

namespace Go.T
open Go Go.RowKit
section
variable {P : Program} {fr : Fr} {A : As} {c : Code} {Q : Exit → Act → World → Prop}
end
section
variable {P : Program} {A : As} {fn : Func} {n : Nat} {w0 : World} {M0 : Tags}
end
end Go.T

namespace Go.T
open Go Go.RowKit
section
variable {P : Program} {fr : Fr} {ops : Array Oper} {A : As} {rest : List Oper} {K : As → List (As × Fx) → Prop} {d : Nat} {t : TypeId} {p : String} {e : Array Edge} {y : Operand}
theorem r_offU {op : Op} {j s : Nat} {want : Bool} (hs : dstOf ops j = some s) (hn : Nat.blt s fr.n = true) (hc : A.slots s = .ex undef)
    (h : TOps P fr ops rest (A.set d (.ex undef)) fun A' l' => K A' ((A, { d := some d, ty := .ex undef, rs := [s] }) :: l')) : TOps P fr ops (⟨some d, op, t, p, e, some (j, want)⟩ :: rest) A K := by
  refine ⟨{ d := some d, ty := .ex undef, rs := [s] }, ⟨rfl, (by simp), (by simp), (by simp), fun a w M wf hsz hrd htg => ?_⟩, h⟩
  have hv := hrd s List.mem_cons_self (by simpa using hn)
  rw [hc] at hv
  have hy := yielded_undef (ops := ops) hs (by rw [hsz]; simpa using hn) hv
  have hw : Region.wanted ⟨some d, op, t, p, e, some (j, want)⟩ (yielded ops a.tmps) = false := by
    simp only [Region.wanted, hy]
    cases want <;> simp_all
  rw [if_neg (by rw [hw]; simp)]
  exact ⟨M, wf, Le.refl _ _ _ _, rfl, by simp⟩
end
section
variable {P : Program} {fr : Fr} {A : As} {Q : Exit → Act → World → Prop} {code : Code}
end
end Go.T

namespace Go.T
open Go Go.RowKit
section
variable {P : Program} {fr : Fr} {A : As} {Q : Exit → Act → World → Prop}
end
end Go.T

namespace Go.T
open Go Go.RowKit
section
variable {P : Program} {fr : Fr} {ops : Array Oper} {A : As} {rest : List Oper} {K : As → List (As × Fx) → Prop} {d : Nat} {t ty' : TypeId} {p : String} {e : Array Edge} [T : Tab P]
theorem r_buildA {parts : Array (Nat × Operand)} {ti te : TI} {n el : Nat} {ls : List (Nat × List Ty)} {out : List Ty} (hT : T.tab[ty']? = some ti) (hk : ti.k = .array n el) (hE : T.tab[el]? = some te) (hz : ti.zero ≠ []) (hp : Parts A fr parts.toList ls) (hf : fillT (fun i => some (i * te.size, te.size)) (ti.zero.map Ty.ofVal) ls = some out)
    (h : TOps P fr ops rest (A.set d (.agg out)) fun A' l => K A' ((A, { d := some d, ty := .agg out, rs := parts.toList.flatMap fun x => opR x.2 }) :: l)) : TOps P fr ops (⟨some d, .build ty' parts, t, p, e, none⟩ :: rest) A K :=
  tops_pure (opT_pure rfl rfl fun a w M _ hr _ => by
    obtain ⟨z, hz1, hz2⟩ := run_zero hT hz w
    obtain ⟨i, D, _, hD, hkd, _⟩ := tab_info hT
    rw [hk] at hkd
    cases D <;> simp only [TK.of, reduceCtorEq, TK.array.injEq] at hkd
    obtain ⟨rfl, rfl⟩ := hkd
    obtain ⟨cs', h1, h2⟩ := fill_dens hr hp (place := fun i => some (i * te.size, te.size)) (cs := z.cells) (fun x hx c hc => List.mem_flatMap.2 ⟨x, hx, hc⟩) (by rw [hz2]; exact ofVals_dens _ _ _) hf
    refine ⟨.agg cs', ?_, cs', rfl, h2⟩
    have hparts : (parts.map fun x => (x.1, a.eval x.2)).toList = parts.toList.map fun x => (x.1, a.eval x.2) := by simp
    simp only [execOp, Instr.build, Sem.run_bind, hz1, Result.andThen_ok, run_underlying hD, run_sizeOf' hE, hparts, h1]
    simp) h
end
inductive TSeg (P : Program) (fr : Fr) (ops : Array Oper) (R : Act → World → Prop) : List Oper → As → Prop
  | last {l : List Oper} {A : As} (h : TOps P fr ops l A fun A' _ => Into fr A' R) : TSeg P fr ops R l A
  | cut {l : List Oper} {A : As} (n : Nat) (B : As) (h : TOps P fr ops (l.take n) A fun A1 _ => Ent fr A1 B) (h' : TSeg P fr ops R (l.drop n) B) : TSeg P fr ops R l A
end Go.T

namespace Go.Proofs.YtjjndkenddigiaaGreatDoor
open Go Go.T
set_option maxHeartbeats 2000000
attribute [local irreducible] dInt dBool dSl dPp dPtr dAgg dTup dClo dAny dEx dStr dGd dCells dVec dVs dRow dOp nth Tri Into TOps Ctr bodyPost Exit.then Exit.inBlock Code.wp Code.wpIn dPa dArr dMp dMap CtrG keepPost iterPost bodyPostM roundQ
set_option maxRecDepth 100000 in
theorem c_worth (r : BRow) (h : r.nums.length ≤ 4) : Ctr Tryz.prog 126 [rowT r] (Ty.arr I64 (wthL r)) := by
  refine fn_intro Tryz.func126 rfl (by decide) Tryz.ntmps126 (by exact Nat.le_of_ble_eq_true rfl) fun w0 M0 => ?_
  refine t_seq ?_
  refine t_region ?_
  refine r_box_agg rfl ?_
  refine r_alloc rfl (by exact List.cons_ne_nil _ _) rfl ?_
  refine r_nil ?_
  refine i_then ?_
  refine t_seq ?_
  refine t_region ?_
  refine r_alloc rfl (by exact List.cons_ne_nil _ _) rfl ?_
  refine r_nil ?_
  refine i_then ?_
  refine t_join (J := live [(1, Ty.pp (BRowE.tys r)), (2, Ty.ptr 3 0), (3, Ty.ptr 4 0)] [(3, Cont.cells 122 [Ty.int .i64 0, Ty.int .i64 0, Ty.int .i64 0, Ty.int .i64 0]), (4, Cont.vec I64 122 (wthL r))]) ?_ ?_
  ·
    refine t_seq ?_
    refine t_asC (tg := 4) (D := Cont.vec I64 122 [0, 0, 0, 0]) rfl (Cont.cells_vec rfl) ?_
    refine t_region ?_
    refine r_field_pp rfl rfl rfl rfl rfl (by decide) ?_
    refine r_load_pp rfl rfl rfl rfl ?_
    refine r_not rfl ?_
    refine r_nil ?_
    refine i_then ?_
    refine t_cond rfl (fun hc1 => ?_) (fun hc1 => ?_)
    ·
      refine t_draw mixed rfl ?_
      refine r_cut_own rfl rfl rfl rfl (by decide) ?_
      refine r_field_pp rfl rfl rfl rfl rfl (by decide) ?_
      refine r_load_pp rfl rfl rfl rfl ?_
      refine r_copyV rfl rfl rfl (by decide) rfl rfl rfl rfl (by (simp <;> omega)) (by omega) ?_
      refine r_nil ?_
      refine ⟨by kernel_rfl, ?_⟩
      refine i_join ?_
      (refine Ent.mk' ?_ ?_ <;> (repeat' (first | exact allSub_zero | exact allTags_nil | refine allSub_succ' ?_ (Ty.sub_any _) | refine allSub_succ' ?_ (Ty.sub_refl _) | refine allTags_cons rfl (Cont.sub_refl _) ?_ | refine allTags_cons rfl ?_ ?_)))
      all_goals exact Cont.sub_vec (wthL_not (not_b hc1) h).symm
    ·
      refine t_skip ?_
      refine i_join ?_
      (refine Ent.mk' ?_ ?_ <;> (repeat' (first | exact allSub_zero | exact allTags_nil | refine allSub_succ' ?_ (Ty.sub_any _) | refine allSub_succ' ?_ (Ty.sub_refl _) | refine allTags_cons rfl (Cont.sub_refl _) ?_ | refine allTags_cons rfl ?_ ?_)))
      all_goals exact Cont.sub_vec (wthL_struck (not_not_b hc1)).symm
  ·
    refine t_seq ?_
    refine t_region ?_
    refine r_load_vecN rfl rfl (by decide) rfl rfl rfl (by exact List.cons_ne_nil _ _) ?_
    refine r_store_arr rfl rfl (by decide) rfl rfl rfl rfl ?_
    refine r_nil ?_
    refine i_then ?_
    refine t_ret ?_
    refine i_rcella rfl rfl rfl rfl (by decide) rfl rfl rfl (by exact List.cons_ne_nil _ _)
set_option maxRecDepth 100000 in
theorem c_total (rows : List BRow) (h : SmallR rows) (hl : rows.length ≤ 1000) : Ctr Tryz.prog 72 [Ty.sl BRowE rows] (Ty.arr I64 (sumL rows)) := by
  refine fn_intro Tryz.func72 rfl (by decide) Tryz.ntmps72 (by exact Nat.le_of_ble_eq_true rfl) fun w0 M0 => ?_
  refine t_seq ?_
  refine t_region ?_
  refine r_alloc rfl (by exact List.cons_ne_nil _ _) rfl ?_
  refine r_nil ?_
  refine i_then ?_
  refine t_seq ?_
  refine t_region ?_
  refine r_alloc rfl (by exact List.cons_ne_nil _ _) rfl ?_
  refine r_nil ?_
  refine i_then ?_
  refine t_seq ?_
  refine t_seq ?_
  refine t_asC (tg := 4) (D := Cont.vec I64 122 [0, 0, 0, 0]) rfl (Cont.cells_vec rfl) ?_
  refine t_region ?_
  refine mvS rfl ?_
  refine r_len rfl rfl rfl ?_
  refine mvI rfl ?_
  refine r_nil ?_
  refine i_then ?_
  refine t_block ?_
  refine t_loop (fun (k : {k : Nat // k ≤ rows.length}) => live [(2, Ty.ptr 3 0), (3, Ty.ptr 4 0), (9, Ty.sl BRowE rows), (10, Ty.int .i64 rows.length), (11, Ty.int .i64 (k.1 : Nat))] [(3, Cont.cells 122 [Ty.int .i64 0, Ty.int .i64 0, Ty.int .i64 0, Ty.int .i64 0]), (4, Cont.vec I64 122 (sumL (rows.take k.1)))]) (fun k => rows.length - k.1) (⟨0, Nat.zero_le _⟩) ?_ fun k => ?_
  · (refine Ent.mk' ?_ ?_ <;> (repeat' (first | exact allSub_zero | exact allTags_nil | refine allSub_succ' ?_ (Ty.sub_any _) | refine allSub_succ' ?_ (Ty.sub_refl _) | refine allTags_cons rfl (Cont.sub_refl _) ?_)))
  ·
    refine t_seq ?_
    refine t_region ?_
    refine r_bin rfl rfl rfl ?_
    refine r_nil ?_
    refine i_then ?_
    refine t_seq ?_
    refine t_cond_dec rfl (fun hc1 => ?_) (fun hc1 => ?_)
    ·
      refine t_skip ?_
      refine i_then ?_
      refine t_seq ?_
      refine t_block ?_
      refine t_seq ?_
      refine t_region ?_
      refine r_index_slN rfl rfl rfl rfl rfl rfl (by omega) ?_
      refine r_load_ppN rfl rfl rfl (by exact Nat.le_of_ble_eq_true rfl) ?_
      refine r_alloc rfl (by exact List.cons_ne_nil _ _) rfl ?_
      refine r_storeN rfl rfl (by decide) rfl rfl rfl rfl rfl rfl ?_
      refine r_nil ?_
      refine i_then ?_
      refine t_seq ?_
      have hk : k.1 < rows.length := by omega
      have hr := h _ (nth_mem (xs := rows) hk)
      have hst : SmallR (rows.take k.1) := fun x hx => h x (List.mem_of_mem_take hx)
      have htl : (rows.take k.1).length ≤ 1000 := by rw [List.length_take]; omega
      refine t_region ?_
      refine r_load_ptrN rfl rfl (by decide) rfl rfl (by exact Nat.le_of_ble_eq_true rfl) ?_
      refine r_call (c_worth _ hr.1) rfl rfl rfl rfl rfl ?_
      refine r_alloc rfl (by exact List.cons_ne_nil _ _) rfl ?_
      refine r_store_arr rfl rfl (by decide) rfl rfl rfl rfl ?_
      refine r_nil ?_
      refine i_then ?_
      refine t_seq ?_
      refine t_region ?_
      refine r_load_vecN rfl rfl (by decide) rfl rfl rfl (by exact List.cons_ne_nil _ _) ?_
      refine r_buildA rfl rfl rfl (by exact List.cons_ne_nil _ _) (by repeat (exact (Parts.nil : Parts _ _ [] _))) rfl ?_
      refine r_neq_arA (eqiSums (wthL (nth rows k.1)) [0, 0, 0, 0] rfl rfl) rfl rfl ?_
      refine r_nil ?_
      refine i_then ?_
      refine t_cond_ndec rfl (fun hc2 => ?_) (fun hc2 => ?_)
      ·
        refine t_seq ?_
        refine t_region ?_
        refine r_load_vecN rfl rfl (by decide) rfl rfl rfl (by exact List.cons_ne_nil _ _) ?_
        refine mvI rfl ?_
        refine r_nil ?_
        refine i_then ?_
        refine t_block ?_
        refine t_loop (fun (c : {c : Nat // c ≤ 4}) => live [(2, Ty.ptr 3 0), (3, Ty.ptr 4 0), (9, Ty.sl BRowE rows), (10, Ty.int .i64 rows.length), (11, Ty.int .i64 (k.1 : Nat)), (20, Ty.arr I64 (wthL (nth rows k.1))), (21, Ty.int .i64 (c.1 : Nat))] [(3, Cont.cells 122 [Ty.int .i64 0, Ty.int .i64 0, Ty.int .i64 0, Ty.int .i64 0]), (4, Cont.vec I64 122 (midL (rows.take k.1) (nth rows k.1) c.1))]) (fun c => 4 - c.1) (⟨0, by omega⟩) ?_ fun c => ?_
        · (refine Ent.mk' ?_ ?_ <;> (repeat' (first | exact allSub_zero | exact allTags_nil | refine allSub_succ' ?_ (Ty.sub_any _) | refine allSub_succ' ?_ (Ty.sub_refl _) | refine allTags_cons rfl (Cont.sub_refl _) ?_)))
          all_goals exact Cont.sub_vec rfl
        ·
          refine t_seq ?_
          refine t_region ?_
          refine r_bin rfl rfl rfl ?_
          refine r_nil ?_
          refine i_then ?_
          refine t_seq ?_
          refine t_cond_dec rfl (fun hc3 => ?_) (fun hc3 => ?_)
          ·
            refine t_skip ?_
            refine i_then ?_
            refine t_seq ?_
            refine t_block ?_
            refine t_seq ?_
            have hc4 : c.1 < 4 := by omega
            have hb := sumC_bnd hst c.1
            have hw := wthR_bnd hr.2 c.1
            refine t_region ?_
            refine mvI rfl ?_
            refine r_indexa rfl rfl rfl rfl rfl rfl rfl (by omega) (by show c.1 < 4; omega) (by rw [nth_wthL _ hc4]; rfl) ?_
            refine asI rfl ?_
            refine asI rfl ?_
            refine r_nil ?_
            refine i_then ?_
            refine t_region ?_
            refine mvI rfl ?_
            refine r_index_ptr rfl rfl rfl rfl rfl (by omega) ?_
            refine r_load_vecA rfl rfl rfl (by decide) rfl rfl (by rw [midL_len]; omega) (by rw [nth_midL _ _ hc4]; rfl) ?_
            refine mvI rfl ?_
            refine r_add rfl rfl (by omega) (by omega) ?_
            refine r_index_ptr rfl rfl rfl rfl rfl (by omega) ?_
            refine r_store_vecA (z := sumC (rows.take k.1) c.1 + wthR (nth rows k.1) c.1) rfl rfl rfl (by decide) rfl rfl rfl rfl (by rw [midL_len]; omega) (by decide) rfl rfl ?_
            refine r_nil ?_
            refine i_block ?_
            refine i_then ?_
            refine t_region ?_
            refine r_add rfl rfl (by omega) (by omega) ?_
            refine mvI rfl ?_
            refine r_nil ?_
            refine i_round (⟨c.1 + 1, by omega⟩) ?_ (by show 4 - (c.1 + 1) < 4 - c.1; omega)
            (refine Ent.mk' ?_ ?_ <;> (repeat' (first | exact allSub_zero | exact allTags_nil | refine allSub_succ' ?_ (Ty.sub_any _) | refine allSub_succ' ?_ (Ty.sub_refl _) | refine allTags_cons rfl (Cont.sub_refl _) ?_ | refine allTags_cons rfl ?_ ?_)))
            all_goals skip
            all_goals exact Cont.sub_vec (midL_succ _ _ hc4)
          ·
            refine t_exit ?_
            refine i_then_exit ?_
            refine i_then_exit ?_
            refine i_block_exit rfl ?_
            refine i_block ?_
            refine i_then ?_
            refine t_region ?_
            refine r_add rfl rfl (by omega) (by omega) ?_
            refine mvI rfl ?_
            refine r_nil ?_
            refine i_round (⟨k.1 + 1, by omega⟩) ?_ (by show rows.length - (k.1 + 1) < rows.length - k.1; omega)
            (refine Ent.mk' ?_ ?_ <;> (repeat' (first | exact allSub_zero | exact allTags_nil | refine allSub_succ' ?_ (Ty.sub_any _) | refine allSub_succ' ?_ (Ty.sub_refl _) | refine allTags_cons rfl (Cont.sub_refl _) ?_ | refine allTags_cons rfl ?_ ?_)))
            all_goals skip
            all_goals exact Cont.sub_vec (by rw [take_nth hk, ← midL_four, show c.1 = 4 by have := c.2; omega])
      ·
        refine t_skip ?_
        refine i_block ?_
        refine i_then ?_
        refine t_region ?_
        refine r_add rfl rfl (by omega) (by omega) ?_
        refine mvI rfl ?_
        refine r_nil ?_
        refine i_round (⟨k.1 + 1, by omega⟩) ?_ (by show rows.length - (k.1 + 1) < rows.length - k.1; omega)
        (refine Ent.mk' ?_ ?_ <;> (repeat' (first | exact allSub_zero | exact allTags_nil | refine allSub_succ' ?_ (Ty.sub_any _) | refine allSub_succ' ?_ (Ty.sub_refl _) | refine allTags_cons rfl (Cont.sub_refl _) ?_ | refine allTags_cons rfl ?_ ?_)))
        all_goals skip
        all_goals exact Cont.sub_vec (by rw [take_nth hk, sumL_none (of_decide_eq_true (by simpa using hc2))])
    ·
      refine t_exit ?_
      refine i_then_exit ?_
      refine i_then_exit ?_
      refine i_block_exit rfl ?_
      refine i_then ?_
      refine t_seq ?_
      refine t_region ?_
      refine r_load_vecN rfl rfl (by decide) rfl rfl rfl (by exact List.cons_ne_nil _ _) ?_
      refine r_store_arr rfl rfl (by decide) rfl rfl rfl rfl ?_
      refine r_nil ?_
      refine i_then ?_
      refine t_ret ?_
      refine i_rcellaE rfl rfl rfl rfl (by decide) rfl rfl (by rw [List.take_of_length_le (by omega)]) rfl (by exact List.cons_ne_nil _ _)
set_option maxRecDepth 100000 in
theorem c_line (f : BForm) (hf : FormOk f) (rows : List BRow) (h : SmallR rows) (hl : rows.length ≤ 1000) : Ctr Tryz.prog 71 [frmT f, Ty.arr I64 (sumL rows)] (Ty.str (bs (lineB f rows))) := by
  refine fn_intro Tryz.func71 rfl (by decide) Tryz.ntmps71 (by exact Nat.le_of_ble_eq_true rfl) fun w0 M0 => ?_
  have hn := hf.n2
  refine t_seq ?_
  refine t_region ?_
  refine r_box_agg rfl ?_
  refine r_box_arr rfl ?_
  refine asS' rfl ?_
  refine r_nil ?_
  refine i_then ?_
  refine t_seq ?_
  refine t_region ?_
  refine asS' rfl ?_
  refine r_nil ?_
  refine i_then ?_
  refine t_seq ?_
  refine t_seq ?_
  refine t_region ?_
  refine r_field_pp rfl rfl rfl rfl rfl (by decide) ?_
  refine r_load_pp rfl rfl rfl rfl ?_
  refine r_len rfl rfl rfl ?_
  refine mvI rfl ?_
  refine r_nil ?_
  refine i_then ?_
  refine t_block ?_
  refine t_loop (fun (c : {c : Nat // c ≤ f.widths.length}) => live [(2, Ty.pp (frmTys f)), (3, Ty.pa I64 (sumL rows) 0), (5, Ty.str (bs (lnP f rows c.1))), (9, Ty.sl I64 f.widths), (10, Ty.int .i64 f.widths.length), (11, Ty.int .i64 (c.1 : Nat))] []) (fun c => f.widths.length - c.1) (⟨0, Nat.zero_le _⟩) ?_ fun c => ?_
  · (refine Ent.mk' ?_ ?_ <;> (repeat' (first | exact allSub_zero | exact allTags_nil | refine allSub_succ' ?_ (Ty.sub_any _) | refine allSub_succ' ?_ (Ty.sub_refl _))))
    all_goals exact Ty.sub_refl _
  ·
    refine t_seq ?_
    refine t_region ?_
    refine r_bin rfl rfl rfl ?_
    refine r_nil ?_
    refine i_then ?_
    refine t_seq ?_
    refine t_cond_dec rfl (fun hc1 => ?_) (fun hc1 => ?_)
    ·
      refine t_skip ?_
      refine i_then ?_
      refine t_seq ?_
      refine t_block ?_
      refine t_seq ?_
      have hcw : c.1 < f.widths.length := by omega
      have hwid := nth_wid hf hcw
      have hsb := sumC_bnd h c.1
      have hlp := lnP_len hf h hl c.2
      have hfs := fldN_short (n := sumC rows c.1) (w := nth f.widths c.1 + 2) (by omega)
      refine t_region ?_
      refine mvI rfl ?_
      refine r_index_slN rfl rfl rfl rfl rfl rfl (by omega) ?_
      refine r_load_pp rfl rfl rfl rfl ?_
      refine asI rfl ?_
      refine asI rfl ?_
      refine r_nil ?_
      refine i_then ?_
      refine t_region ?_
      refine mvS' rfl ?_
      refine mvI rfl ?_
      refine r_index_pa rfl rfl rfl rfl rfl (by omega) ?_
      refine r_load_pa rfl rfl rfl (Nat.zero_add _) (by show c.1 < 4; omega) (by rw [nth_sumL _ (by omega)]; rfl) ?_
      refine mvI rfl ?_
      refine r_add rfl rfl (by omega) (by omega) ?_
      refine r_call (c_field (sumC rows c.1) (nth f.widths c.1 + 2) (by omega) (by omega) ⟨by omega, by omega⟩) rfl rfl rfl rfl rfl ?_
      refine r_catS (b := [124]) rfl rfl (by simp; omega) ?_
      refine r_catS rfl rfl (by simp; omega) ?_
      refine asS' rfl ?_
      refine r_nil ?_
      refine i_block ?_
      refine i_then ?_
      refine t_region ?_
      refine r_add rfl rfl (by omega) (by omega) ?_
      refine mvI rfl ?_
      refine r_nil ?_
      refine i_round (⟨c.1 + 1, by omega⟩) ?_ (by show f.widths.length - (c.1 + 1) < f.widths.length - c.1; omega)
      (refine Ent.mk' ?_ ?_ <;> (repeat' (first | exact allSub_zero | exact allTags_nil | refine allSub_succ' ?_ (Ty.sub_any _) | refine allSub_succ' ?_ (Ty.sub_refl _) | refine allSub_succ' ?_ ?_)))
      all_goals skip
      all_goals exact Ty.str_eq (lnP_succ _ _ _).symm
    ·
      refine t_exit ?_
      refine i_then_exit ?_
      refine i_then_exit ?_
      refine i_block_exit rfl ?_
      refine i_then ?_
      refine t_seq ?_
      have hlp := lnP_len hf h hl c.2
      refine t_region ?_
      refine mvS' rfl ?_
      refine r_catS (b := [10]) rfl rfl (by simp; omega) ?_
      refine asS' rfl ?_
      refine r_nil ?_
      refine i_then ?_
      refine t_ret ?_
      refine i_rp1 rfl rfl ?_
      all_goals skip
      exact ret_eq rfl rfl (congrArg (fun l => Ty.str (bs l)) (by rw [show c.1 = f.widths.length by have := c.2; omega]; rfl))
set_option maxRecDepth 100000 in
theorem c_row (f : BForm) (hf : FormOk f) (r : BRow) (hr : RowOk f r) : Ctr Tryz.prog 73 [frmT f, rowT r] (Ty.str (bs (rowB f r))) := by
  refine fn_intro Tryz.func73 rfl (by decide) Tryz.ntmps73 (by exact Nat.le_of_ble_eq_true rfl) fun w0 M0 => ?_
  have hn := hf.n2
  have hlen := hr.len
  refine t_seq ?_
  refine t_region ?_
  refine r_box_agg rfl ?_
  refine r_box_agg rfl ?_
  refine asS' rfl ?_
  refine r_nil ?_
  refine i_then ?_
  refine t_seq ?_
  refine t_region ?_
  refine asS' rfl ?_
  refine r_nil ?_
  refine i_then ?_
  refine t_join (J := live [(2, Ty.pp (frmTys f)), (3, Ty.pp (BRowE.tys r)), (5, Ty.str (bs (rwP f r 0)))]) ?_ ?_
  ·
    refine t_seq ?_
    refine t_region ?_
    refine r_field_pp rfl rfl rfl rfl rfl (by decide) ?_
    refine r_load_pp rfl rfl rfl rfl ?_
    refine r_nil ?_
    refine i_then ?_
    refine t_cond rfl (fun hc1 => ?_) (fun hc1 => ?_)
    ·
      refine t_region ?_
      refine asS' rfl ?_
      refine r_nil ?_
      refine i_join ?_
      (refine Ent.mk' ?_ ?_ <;> (repeat' (first | exact allSub_zero | exact allTags_nil | refine allSub_succ' ?_ (Ty.sub_any _) | refine allSub_succ' ?_ (Ty.sub_refl _) | refine allSub_succ' ?_ ?_)))
      all_goals exact Ty.str_eq' (by rw [rwP, hc1]; rfl)
    ·
      refine t_skip ?_
      refine i_join ?_
      (refine Ent.mk' ?_ ?_ <;> (repeat' (first | exact allSub_zero | exact allTags_nil | refine allSub_succ' ?_ (Ty.sub_any _) | refine allSub_succ' ?_ (Ty.sub_refl _) | refine allSub_succ' ?_ ?_)))
      all_goals exact Ty.str_eq' (by rw [rwP, hc1]; rfl)
  ·
    refine t_seq ?_
    refine t_seq ?_
    refine t_region ?_
    refine r_field_pp rfl rfl rfl rfl rfl (by decide) ?_
    refine r_load_pp rfl rfl rfl rfl ?_
    refine r_len rfl rfl rfl ?_
    refine mvI rfl ?_
    refine r_nil ?_
    refine i_then ?_
    refine t_block ?_
    refine t_loop (fun (c : {c : Nat // c ≤ f.widths.length}) => live [(2, Ty.pp (frmTys f)), (3, Ty.pp (BRowE.tys r)), (5, Ty.str (bs (rwP f r c.1))), (11, Ty.sl I64 f.widths), (12, Ty.int .i64 f.widths.length), (13, Ty.int .i64 (c.1 : Nat))] []) (fun c => f.widths.length - c.1) (⟨0, Nat.zero_le _⟩) ?_ fun c => ?_
    · (refine Ent.mk' ?_ ?_ <;> (repeat' (first | exact allSub_zero | exact allTags_nil | refine allSub_succ' ?_ (Ty.sub_any _) | refine allSub_succ' ?_ (Ty.sub_refl _))))
    ·
      refine t_seq ?_
      refine t_region ?_
      refine r_bin rfl rfl rfl ?_
      refine r_nil ?_
      refine i_then ?_
      refine t_seq ?_
      refine t_cond_dec rfl (fun hc2 => ?_) (fun hc2 => ?_)
      ·
        refine t_skip ?_
        refine i_then ?_
        refine t_seq ?_
        refine t_block ?_
        refine t_seq ?_
        have hcw : c.1 < f.widths.length := by omega
        have hwid := nth_wid hf hcw
        have hnum := hr.num c.1 hcw
        have htl := ten_le (w := nth f.widths c.1) (by omega)
        have hlp := rwP_len hf hr c.2
        have hfs := fldN_short (n := nth r.nums c.1) (w := nth f.widths c.1) (by omega)
        refine t_region ?_
        refine mvI rfl ?_
        refine r_index_slN rfl rfl rfl rfl rfl rfl (by omega) ?_
        refine r_load_pp rfl rfl rfl rfl ?_
        refine asI rfl ?_
        refine asI rfl ?_
        refine r_nil ?_
        refine i_then ?_
        refine t_region ?_
        refine mvS' rfl ?_
        refine r_field_pp rfl rfl rfl rfl rfl (by decide) ?_
        refine r_load_pp rfl rfl rfl rfl ?_
        refine mvI rfl ?_
        refine r_index_slN rfl rfl rfl rfl rfl rfl (by omega) ?_
        refine r_load_pp rfl rfl rfl rfl ?_
        refine mvI rfl ?_
        refine r_call (c_field _ _ (by omega) (by omega) ⟨by omega, by omega⟩) rfl rfl rfl rfl rfl ?_
        refine r_catS (b := [124]) rfl rfl (by simp; omega) ?_
        refine r_catS rfl rfl (by simp; omega) ?_
        refine asS' rfl ?_
        refine r_nil ?_
        refine i_block ?_
        refine i_then ?_
        refine t_region ?_
        refine r_add rfl rfl (by omega) (by omega) ?_
        refine mvI rfl ?_
        refine r_nil ?_
        refine i_round (⟨c.1 + 1, by omega⟩) ?_ (by show f.widths.length - (c.1 + 1) < f.widths.length - c.1; omega)
        (refine Ent.mk' ?_ ?_ <;> (repeat' (first | exact allSub_zero | exact allTags_nil | refine allSub_succ' ?_ (Ty.sub_any _) | refine allSub_succ' ?_ (Ty.sub_refl _) | refine allSub_succ' ?_ ?_)))
        all_goals skip
        all_goals exact Ty.str_eq (rwP_succ _ _ _).symm
      ·
        refine t_exit ?_
        refine i_then_exit ?_
        refine i_then_exit ?_
        refine i_block_exit rfl ?_
        refine i_then ?_
        refine t_seq ?_
        have hlp := rwP_len hf hr c.2
        refine t_region ?_
        refine mvS' rfl ?_
        refine r_load_ppN rfl rfl rfl (by exact Nat.le_of_ble_eq_true rfl) ?_
        refine r_load_ppN rfl rfl rfl (by exact Nat.le_of_ble_eq_true rfl) ?_
        refine r_call (c_letter f hf r hr) rfl rfl rfl rfl rfl ?_
        refine r_catS rfl rfl (by simp; omega) ?_
        refine r_catS (b := [10]) rfl rfl (by simp; omega) ?_
        refine asS' rfl ?_
        refine r_nil ?_
        refine i_then ?_
        refine t_ret ?_
        refine i_rp1 rfl rfl ?_
        all_goals skip
        exact ret_eq rfl rfl (congrArg (fun l => Ty.str (bs l)) (by rw [show c.1 = f.widths.length by have := c.2; omega]; simp [rwP, rowB]))
end Go.Proofs.YtjjndkenddigiaaGreatDoor
