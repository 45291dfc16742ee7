/- Lemmas: the program and the reference walked, plain laws. -/
import Derived.Test.YtpnndljmhpepgaaGreatQe
namespace Go.T
open Go Go.RowKit Go.ChangeShapes Go.WideShapes Go.ChangeAt
def pubs : Tags := fun _ => none
theorem wf_pubs (w : World) : Wf w pubs := ⟨fun _ _ h => (by cases h), fun _ _ _ _ h => (by cases h)⟩
theorem pubs_zero : ∀ b t, pubs b = some t → t = 0 := fun _ _ h => by cases h
structure Rd {α : Type} (P : Program) (e : TypeId) (E : El α) : Prop where
  size : P.cellsOf e = E.size
  pos : 0 < E.size
  rd : ∀ {H : Type} {enc : TypeId × Value → H} {w : World} {base : Nat} {held : Bool} {n : Nat} {cs : List Value} {y : DataW H × List MemPlace}, DataW.trod enc P w base (fun _ => true) held n e cs = some y → ∃ x, dens w pubs (E.tys x) cs
section
variable {H : Type} {enc : TypeId × Value → H} {P : Program} {w : World} {base : Nat} {held : Bool} {α : Type} {E : El α} {t e : TypeId} {n : Nat} {cs : List Value} {y : DataW H × List MemPlace}
theorem rd_sl (hR : Rd P e E) (ht : P.underlying t = some (.slice e)) (h : DataW.trod enc P w base (fun _ => true) held n t cs = some y) : ∃ v xs, cs = [v] ∧ (Ty.sl E xs).den w pubs v := by
  rcases Go.Deep.open_slice ht h with ⟨rfl, _⟩ | ⟨a, len, cap, m, k, D, Pl, rfl, _, hl, hm, hmm, _, hel⟩
  · exact ⟨_, [], rfl, none, 0, rfl, Nat.le_refl _, Nat.zero_le _, fun h => absurd h (Nat.lt_irrefl _)⟩
  have hlm : len ≤ m := by rw [hmm]; simpa using hl
  have hX : ∀ i : Fin len, ∃ x : α, ∃ cs', w.cells? base (a.add (i.1 * P.cellsOf e)) (P.cellsOf e) = some cs' ∧ dens w pubs (E.tys x) cs' := fun i => by
    obtain ⟨cs', h1, h2⟩ := hel i.1 (Nat.lt_of_lt_of_le i.2 hlm)
    obtain ⟨x, hx⟩ := hR.rd h2
    exact ⟨x, cs', h1, hx⟩
  let X : Fin len → α := fun i => (hX i).choose
  have hXs : ∀ i : Fin len, ∃ cs', w.cells? base (a.add (i.1 * P.cellsOf e)) (P.cellsOf e) = some cs' ∧ dens w pubs (E.tys (X i)) cs' := fun i => (hX i).choose_spec
  have hlen : (List.ofFn X).length = len := by simp
  refine ⟨_, List.ofFn X, rfl, some a, cap, by rw [hlen], by rw [hlen]; exact hl, hm, fun h0 => ?_⟩
  rw [hlen] at h0
  have hcell : ∀ (i : Fin len) (j : Nat) (u : Ty), (E.tys (X i))[j]? = some u → ∃ v, w.cell? (a.add (i.1 * E.size + j)) = some v ∧ u.den w pubs v := fun i j u hu => by
    obtain ⟨cs', h1, h2⟩ := hXs i
    obtain ⟨v, hv, hd⟩ := dens_get h2 j u hu
    obtain ⟨_, g1, g2⟩ := World.cells?_some h1
    have hj : j < P.cellsOf e := by
      rw [hR.size, ← E.len (X i)]
      exact (List.getElem?_eq_some_iff.1 hu).1
    refine ⟨v, ?_, hd⟩
    have := g2 j hj
    rw [Go.Deep.add_add, hv, hR.size] at this
    exact this
  have hsz := hR.pos
  have hfirst : ∃ v, w.cell? (a.add 0) = some v := by
    obtain ⟨u, hu⟩ : ∃ u, (E.tys (X ⟨0, h0⟩))[0]? = some u := ⟨_, List.getElem?_eq_getElem (by rw [E.len]; exact hsz)⟩
    obtain ⟨v, hv, _⟩ := hcell ⟨0, h0⟩ 0 u hu
    exact ⟨v, by simpa using hv⟩
  obtain ⟨b, off, sp⟩ := a
  obtain ⟨v0, hv0⟩ := hfirst
  have hsp : sp = none := by simpa [Addr.add] using World.cell?_spot hv0
  subst hsp
  have hb : b < w.heap.size := by
    obtain ⟨cs', h1, _⟩ := hXs ⟨0, h0⟩
    have := World.cells?_block h1 (by rw [hR.size]; exact hsz)
    simpa [Addr.add] using this
  refine ⟨b, off, rfl, rfl, hb, fun i u hu => ?_⟩
  have hi : i < len * E.size := by
    have := (List.getElem?_eq_some_iff.1 hu).1
    rw [flat_len, hlen] at this; exact this
  have hk : i / E.size < len := Nat.div_lt_of_lt_mul (by rw [Nat.mul_comm]; exact hi)
  have hj : i % E.size < E.size := Nat.mod_lt _ hsz
  have hij : i / E.size * E.size + i % E.size = i := by rw [Nat.mul_comm]; exact Nat.div_add_mod i E.size
  have hu2 := hu
  rw [← hij, flat_get E _ _ _ (by rw [hlen]; exact hk) hj, List.getElem?_ofFn, dif_pos hk] at hu2
  obtain ⟨v, hv, hd⟩ := hcell ⟨i / E.size, hk⟩ (i % E.size) u hu2
  refine ⟨v, ?_, hd⟩
  rw [← Go.WideShapes.add_plain]
  rw [hij] at hv
  exact hv
theorem rd_struct2 {f0 f1 : Field} (hs : P.underlying t = some (.struct #[f0, f1])) (hC : P.cellsOf t = 2) (h0 : f0.offset = 0 ∧ P.cellsOf f0.type = 1) (h1 : f1.offset = 1 ∧ P.cellsOf f1.type = 1) (h : DataW.trod enc P w base (fun _ => true) held n t cs = some y) :
    ∃ c0 c1 y0 y1 m, cs = [c0, c1] ∧ DataW.trod enc P w base (fun _ => true) held m f0.type [c0] = some y0 ∧ DataW.trod enc P w base (fun _ => true) held m f1.type [c1] = some y1 := by
  obtain ⟨y0, y1, m, _, hl, g0, g1⟩ := Go.ChangeShapes.trod_struct2 hs h
  rw [hC] at hl
  match cs, hl with
  | [c0, c1], _ =>
    rw [h0.1, h0.2] at g0
    rw [h1.1, h1.2] at g1
    exact ⟨c0, c1, y0, y1, m, rfl, g0, g1⟩
theorem rd_struct3 {f0 f1 f2 : Field} (hs : P.underlying t = some (.struct #[f0, f1, f2])) (hC : P.cellsOf t = 3) (h0 : f0.offset = 0 ∧ P.cellsOf f0.type = 1) (h1 : f1.offset = 1 ∧ P.cellsOf f1.type = 1) (h2 : f2.offset = 2 ∧ P.cellsOf f2.type = 1) (h : DataW.trod enc P w base (fun _ => true) held n t cs = some y) :
    ∃ c0 c1 c2 y0 y1 y2 m, cs = [c0, c1, c2] ∧ DataW.trod enc P w base (fun _ => true) held m f0.type [c0] = some y0 ∧ DataW.trod enc P w base (fun _ => true) held m f1.type [c1] = some y1 ∧ DataW.trod enc P w base (fun _ => true) held m f2.type [c2] = some y2 := by
  obtain ⟨y0, y1, y2, m, _, hl, g0, g1, g2⟩ := Go.Deep.trod_struct3 hs h
  rw [hC] at hl
  match cs, hl with
  | [c0, c1, c2], _ =>
    rw [h0.1, h0.2] at g0
    rw [h1.1, h1.2] at g1
    rw [h2.1, h2.2] at g2
    exact ⟨c0, c1, c2, y0, y1, y2, m, rfl, g0, g1, g2⟩
theorem rd_int {k : IntKind} {c : Value} (ht : P.underlying t = some (.int k)) (h : DataW.trod enc P w base (fun _ => true) held n t [c] = some y) : ∃ i, c = .int k i := by
  obtain ⟨i, e, _⟩ := DataW.trod_int ht h
  exact ⟨i, by simpa using e⟩
theorem rd_sl1 {c : Value} (hR : Rd P e E) (ht : P.underlying t = some (.slice e)) (h : DataW.trod enc P w base (fun _ => true) held n t [c] = some y) : ∃ xs, (Ty.sl E xs).den w pubs c := by
  obtain ⟨v, xs, e, hd⟩ := rd_sl hR ht h
  exact ⟨xs, by rw [show c = v by simpa using e]; exact hd⟩
end
section
variable {w w' : World} {S K : Nat → Prop} {M' : Tags}
theorem le_block (le : Le S K w pubs w' M') {b : Nat} (hb : b < w.heap.size) : w'.heap[b]? = w.heap[b]? := (le.pub b hb rfl).2
theorem le_same (le : Le S K w pubs w' M') {p : MemPlace} (hp : p.block < w.heap.size) : w.sameAt w' p := by
  cases p with
  | cell b o => exact World.cell?_of_block (w := w) (le_block le hp)
  | map b => exact le_block le hp
theorem le_kept (le : Le S K w pubs w' M') (may : MemPlace → Prop) : w.keptBut w' may := by
  refine ⟨le.os, le.out, fun i hi => ?_⟩
  have e := le_block le hi
  rw [e]
  split
  · rename_i h1 h2
    rw [h1] at h2
    simp only [Option.some.injEq, Obj.cells.injEq] at h2
    obtain ⟨rfl, rfl, rfl⟩ := h2
    exact ⟨rfl, rfl, rfl, fun _ _ => rfl⟩
  · rename_i h1 h2
    rw [h1] at h2
    simp only [Option.some.injEq, Obj.map.injEq] at h2
    exact Or.inr ⟨h2.1.symm, h2.2.symm⟩
  · rfl
theorem le_frozen (le : Le S K w pubs w' M') {a : Addr} (ha : a.block < w.heap.size) : w'.frozen? a = w.frozen? a := by
  unfold World.frozen?
  rw [le_block le ha]
end
section
variable {H : Type} {enc : TypeId × Value → H} {P : Program}
theorem trodAll_stays (hl : laidOutB P = true) {w w' : World} {sp : Nat → Bool} : ∀ {ts : List TypeId} {vs : List Value} {ds : List (DataW H)} {ps : List MemPlace}, (∀ t ∈ ts, P.readableRec t = true ∧ t < P.types.size) →
    DataW.TrodAll enc P w 0 (fun _ => true) true ts vs ds ps → (∀ p ∈ ps, w.sameAt w' p) → (∀ p ∈ ps, sp p.block = true) → DataW.TrodAll enc P w' 0 sp true ts vs ds ps
  | [], [], [], _, _, h, _, _ => h
  | t :: ts, v :: vs, d :: ds, _, ht, ⟨p, q, h1, h2, e⟩, hs, hsp => by
    subst e
    have h0 := ht t List.mem_cons_self
    exact ⟨p, q, Go.WideElems.Trod_stays hl h0.1 h0.2 h1 (fun x hx => hs x (List.mem_append_left _ hx)) (fun x hx => hsp x (List.mem_append_left _ hx)),
      trodAll_stays hl (fun t h => ht t (List.mem_cons_of_mem _ h)) h2 (fun x hx => hs x (List.mem_append_right _ hx)) (fun x hx => hsp x (List.mem_append_right _ hx)), rfl⟩
theorem post_true {f : Func} {s : ChangeSpec} {apart fresh handsOn again : Bool} {W W' : World} {args : Array Value} {ds : List (DataW H)} {before : List MemPlace} {S K : Nat → Prop} {M' : Tags}
    (hl : laidOutB P = true) (hv : s.vars = []) (hrd : ∀ t ∈ f.params.toList, P.readableRec t = true ∧ t < P.types.size) {tb : TypeId} (htb : P.underlying tb = some .bool) (hrt : f.resultTypes = #[tb])
    (hW : DataW.Whole enc P f.params.toList s.vars apart W args.toList ds [] before) (hres : (s.fn H (ds ++ [])).results = [.lit (.bool true)]) (hargs : (s.fn H (ds ++ [])).args = ds) (hvars : (s.fn H (ds ++ [])).vars = [])
    (le : Le S K W pubs W' M') : s.post enc P f apart fresh handsOn again W args (.bool true) W' := by
  have hW0 := hW
  obtain ⟨p, q, hA, hV, hb, hfz, hn⟩ := hW0
  have hlt := DataW.TrodAll.lt hA
  have hq : q = [] := by rw [hv] at hV; exact (trodVars_none hV).2
  subst hq
  have hbp : before = p := by rw [hb]; simp
  have hre : ∀ (b : Nat) (sp : Nat → Bool) (hd : Bool), DataW.TrodAll enc P W' b sp hd f.resultTypes.toList ((Value.bool true).resultList f.resultTypes.size) (s.fn H (ds ++ [])).results [] := fun b sp hd => by
    rw [hrt, hres]; exact trodAll_mk1 (shut_bool htb true)
  have har : ∀ sp : Nat → Bool, (∀ x ∈ p, sp x.block = true) → DataW.TrodAll enc P W' 0 sp true f.params.toList args.toList (s.fn H (ds ++ [])).args p := fun sp hsp => by
    rw [hargs]; exact trodAll_stays hl hrd hA (fun x hx => le_same le (hlt x hx)) hsp
  have hva : ∀ sp : Nat → Bool, DataW.TrodVars enc P W' sp s.vars (s.fn H (ds ++ [])).vars [] := fun sp => by
    rw [hvars, hv]; exact rfl
  have hok : ∀ (j : Nat) (t : TypeId) (r : Value), f.resultTypes[j]? = some t → ((Value.bool true).resultList f.resultTypes.size)[j]? = some r → Value.okWide P W' .any 0 t r := by
    exact ok_one (by rw [hrt]) rfl (okWide_bool_mk htb true)
  refine ⟨ds, [], before, [], p, [], hW, hre _ _ _, har _ (fun x hx => by simpa using hlt x hx), hva _, World.keptBut_mono (fun x hx => hx) (le_kept le _), fun _ => ?_⟩
  refine ⟨hok, _, _, ([] ++ p) ++ [], ⟨[] ++ p, [], trodAll_append (har _ (fun _ _ => rfl)) (hre _ _ _), hva _, rfl, ?_, ?_⟩, ?_⟩
  · intro b off hp
    have hp' : MemPlace.cell b off ∈ p := by simpa using hp
    rw [le_frozen le (hlt _ hp')]
    exact hfz b off (by rw [hbp]; exact hp')
  · intro ha
    have := hn ha
    rw [hbp] at this
    simpa using this
  · intro x hx _
    rw [hbp]
    simpa using hx
end
end Go.T
