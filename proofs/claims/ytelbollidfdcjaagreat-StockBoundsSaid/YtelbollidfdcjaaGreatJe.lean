/- Lemmas: the program and the reference walked, plain laws. -/
import Derived.Test.YtelbollidfdcjaaGreatJd
namespace Go.Proofs.YtelbollidfdcjaaGreat
open Go Go.T
def PC (y : aj) (a : dF) (b d : Nat) : List Int := (List.range (d + 1)).map fun t => cx y a b t
def FZ (y : aj) (a : dF) : List (List Int) := (List.range y.bins.length).map fun b => PC y a b y.D
section
variable {y : aj} {a : dF} {b d i k : Nat} {f g : Nat → List Int} {n : Nat}
structure lT (y : aj) (a : dF) : Prop where
  lens : yH y a
  first : ∀ x ∈ a.first, 0 ≤ x ∧ x ≤ 300
  bY : ∀ x ∈ a.bY, 0 ≤ x ∧ x ≤ 300
theorem Mi (hr : y.bw) (h : lT y a) (hi : i < y.moves.length) : -300 ≤ q8 y a.bY b i ∧ q8 y a.bY b i ≤ 300 := by
 have hm := h.bY _ (cT (show i < a.bY.length by rw [h.lens.bY]; exact hi))
 have hne := (hr.move _ (cT hi)).2.2.2.1
 unfold q8
 by_cases e1 : (nth y.moves i).dst = b
 ·rw [dx e1, dw (fun e2 => hne (e2.trans e1.symm))]; omega
 rw [dw e1]
 by_cases e2 : (nth y.moves i).src = b
 ·rw [dx e2]; omega
 rw [dw e2]; omega
theorem LG (hr : y.bw) (h : lT y a) (hb : b < y.bins.length) : -3000 ≤ cx y a b d ∧ cx y a b d ≤ 3300 := by
 have h1 := h.first _ (cT (show b < a.first.length by rw [h.lens.first]; exact hb))
 have h2 := pY (f := fun i => if (nth y.moves i).day < d then q8 y a.bY b i else 0) (b := 300) (n := y.moves.length) fun i hi => by
  have := Mi (b := b) hr h hi
  split <;> omega
 have h3 := hr.moves
 unfold cx
 omega
end
end Go.Proofs.YtelbollidfdcjaaGreat
namespace Go.T
open Go Go.RowKit
def Nf (tg o n r : Nat) (_ : World) (M : bD) (v : Value) : Prop := ∃ b o' c, M b = some tg ∧ v = .slice (some ⟨b, o', none⟩) n c ∧ n + r ≤ c ∧ c ≤ maxLen ∧ (0 < n + r → o' = o)
def Ty.win (tg o n r : Nat) : Ty := ⟨Nf tg o n r, [tg], [], fun le hk _ ⟨b, o', c, h, e, h1, h2, h3⟩ => ⟨b, o', c, (le.own b tg h (hk tg (by simp))).1, e, h1, h2, h3⟩, true, fun _ ⟨_, _, _, _, e, _⟩ => by rw [e]; rfl⟩
theorem Ty.O7 {tg n : Nat} (h : 0 < n) : (Ty.vs tg n).Sub (Ty.win tg 0 n 0) := by
 intro w M v hv
 rcases hv with ⟨h0, _⟩ | ⟨b, c, hb, e, h1, h2⟩
 ·omega
 exact ⟨b, 0, c, hb, e, by omega, h2, fun _ => rfl⟩
section
variable {P : Program} {fr : Fr} {ops : Array Oper} {A : As} {rest : List Oper} {K : As → List (As × Fx) → Prop} {d : Nat} {t ty' : TypeId} {p : String} {e : Array Edge} [T : lM P]
theorem Ez {w : World} {st el b o n c lo hi : Nat} {ti te : TI} {ol oh om : Option Value} (hT : T.eV[st]? = some ti) (hk : ti.k = .slice el) (hE : T.eV[el]? = some te) (hs : te.size = 1)
 (hlo : (ol = none ∧ lo = 0) ∨ ∃ k : IntKind, ol = some (.int k lo)) (hhi : (oh = none ∧ hi = n) ∨ ∃ k : IntKind, oh = some (.int k hi)) (hm : om = none) (h1 : lo ≤ hi) (h2 : hi ≤ c) :
 (Instr.sliceAt st (.slice (some ⟨b, o, none⟩) n c) ol oh om).run P w = .ok (.slice (if c = lo then some ⟨b, o, none⟩ else some ⟨b, o + lo, none⟩) (hi - lo) (c - lo)) w := by
 subst hm
 obtain ⟨_, D, _, hD, hkd, _⟩ := dB hT
 rw [hk] at hkd
 cases D <;> simp only [TK.of, reduceCtorEq, TK.slice.injEq] at hkd
 subst hkd
 have hsz := fun w => dQ (P := P) hE w
 rcases hlo with ⟨rfl, rfl⟩ | ⟨k, rfl⟩ <;> rcases hhi with ⟨rfl, rfl⟩ | ⟨k', rfl⟩ <;>
  simp [Instr.sliceAt, Instr.slice, run_underlying hD, Instr.sliceBounds, Instr.sliceBound, asIntOf, hsz, hs, h2, h1, Addr.add_lit]
theorem GF {w : World} {M : bD} {tg b o o' n r c lo hi : Nat} (hb : M b = some tg) (h1 : lo ≤ hi) (h2 : hi ≤ n + r) (h3 : n + r ≤ c) (h4 : c ≤ maxLen) (h5 : 0 < n + r → o' = o) :
 Nf tg (o + lo) (hi - lo) (n + r - hi) w M (.slice (if c = lo then some ⟨b, o', none⟩ else some ⟨b, o' + lo, none⟩) (hi - lo) (c - lo)) := by
 by_cases e : c = lo
 ·rw [if_pos e]; exact ⟨b, o', c - lo, hb, rfl, by omega, by omega, fun h => by omega⟩
 rw [if_neg e]; exact ⟨b, o' + lo, c - lo, hb, rfl, by omega, by omega, fun h => by rw [h5 (by omega)]⟩
theorem LB {x y : Operand} {k : IntKind} {el tg o n r hi : Nat} {ti te : TI} (hx : A.op fr x = .win tg o n r) (hy : A.op fr y = .int k hi) (hT : T.eV[ty']? = some ti) (hk : ti.k = .slice el) (hE : T.eV[el]? = some te) (hs : te.size = 1) (h2 : hi ≤ n + r)
 (h : ay P fr ops rest (A.set d (.win tg (o + 0) (hi - 0) (n + r - hi))) fun A' l' => K A' ((A, { d := some d, ty := .win tg (o + 0) (hi - 0) (n + r - hi), rs := cI x ++ cI y }) :: l')) : ay P fr ops (⟨some d, .slice ty' x none (some y) none, t, p, e, none⟩ :: rest) A K :=
 bK (bZ rfl rfl fun a w M _ hr _ => by
  obtain ⟨hdx, hdy⟩ := op2 hr
  rw [hx] at hdx; rw [hy] at hdy
  have ey : a.eval y = .int k hi := hdy
  obtain ⟨b, o', c, hb, ex, g1, g2, g3⟩ := hdx
  have h3 := Ez (P := P) (w := w) (b := b) (o := o') (n := n) (c := c) hT hk hE hs (lo := 0) (hi := hi) (ol := none) (oh := some (.int k hi)) (om := none) (.inl ⟨rfl, rfl⟩) (.inr ⟨k, rfl⟩) rfl (Nat.zero_le _) (by omega)
  exact ⟨_, by simp only [execOp, ey, ex, Option.map_none, Option.map_some, Sem.run_bind, h3, Result.andThen_ok]; rfl, GF (w := w) hb (Nat.zero_le _) h2 g1 g2 g3⟩) h
theorem KH {x y : Operand} {k : IntKind} {el tg o n r lo : Nat} {ti te : TI} (hx : A.op fr x = .win tg o n r) (hy : A.op fr y = .int k lo) (hT : T.eV[ty']? = some ti) (hk : ti.k = .slice el) (hE : T.eV[el]? = some te) (hs : te.size = 1) (h2 : lo ≤ n)
 (h : ay P fr ops rest (A.set d (.win tg (o + lo) (n - lo) (n + r - n))) fun A' l' => K A' ((A, { d := some d, ty := .win tg (o + lo) (n - lo) (n + r - n), rs := cI x ++ cI y }) :: l')) : ay P fr ops (⟨some d, .slice ty' x (some y) none none, t, p, e, none⟩ :: rest) A K :=
 bK (bZ rfl rfl fun a w M _ hr _ => by
  obtain ⟨hdx, hdy⟩ := op2 hr
  rw [hx] at hdx; rw [hy] at hdy
  have ey : a.eval y = .int k lo := hdy
  obtain ⟨b, o', c, hb, ex, g1, g2, g3⟩ := hdx
  have h3 := Ez (P := P) (w := w) (b := b) (o := o') (n := n) (c := c) hT hk hE hs (lo := lo) (hi := n) (ol := some (.int k lo)) (oh := none) (om := none) (.inr ⟨k, rfl⟩) (.inl ⟨rfl, rfl⟩) rfl h2 (by omega)
  exact ⟨_, by simp only [execOp, ey, ex, Option.map_none, Option.map_some, Sem.run_bind, h3, Result.andThen_ok]; rfl, GF (w := w) hb h2 (by omega) g1 g2 g3⟩) h
theorem Gq {x : Operand} {tg o n r el : Nat} {ti : TI} (hx : A.op fr x = .win tg o n r) (hT : T.eV[ty']? = some ti) (hk : ti.k = .slice el)
 (h : ay P fr ops rest (A.set d (.int .i64 n)) fun A' l' => K A' ((A, { d := some d, ty := .int .i64 n, rs := cI x }) :: l')) :
 ay P fr ops (⟨some d, .call ⟨.builtin .len, #[x], #[ty']⟩, t, p, e, none⟩ :: rest) A K :=
 bK (bZ rfl rfl fun a w M _ hrd _ => by
  have hdx := cU (x := x) (fun _ h => h) hrd
  rw [hx] at hdx
  obtain ⟨_, D, _, hD, hkd, _⟩ := dB hT
  rw [hk] at hkd
  cases D <;> simp only [TK.of, reduceCtorEq, TK.slice.injEq] at hkd
  obtain ⟨b, o', c, hb, ex, g1, g2, g3⟩ := hdx
  exact ⟨.int .i64 n, by simp [execOp, resolve, invoke, builtin, ex, Builtin.len_, run_underlying hD, goInt], rfl⟩) h
omit T in
theorem HM {x : Operand} {tg o n r : Nat} (hx : A.op fr x = .win tg o n r) (h : ay P fr ops rest (A.set d (.win tg o n r)) fun A' l => K A' ((A, { d := some d, ty := .win tg o n r, rs := cI x }) :: l)) : ay P fr ops (⟨some d, .move x, t, p, e, none⟩ :: rest) A K := eN hx h
theorem w5 {α : Type} {E : El α} (h1 : E.size = 1) : ∀ (xs : List α) (k : Nat), (xs.take k).flatMap E.tys = (xs.flatMap E.tys).take k ∧ (xs.drop k).flatMap E.tys = (xs.flatMap E.tys).drop k
  | xs, 0 => ⟨rfl, rfl⟩
  | [], k + 1 => ⟨rfl, rfl⟩
  | x :: xs, k + 1 => by
    have hl : (E.tys x).length = 1 := by rw [E.len, h1]
    obtain ⟨ih1, ih2⟩ := w5 h1 xs k
    match hx : E.tys x, hl with
    | [a], _ =>
      rw [List.take_succ_cons, List.drop_succ_cons, List.flatMap_cons, List.flatMap_cons, hx, ih1, ih2]
      exact ⟨rfl, rfl⟩
end
end Go.T
namespace Go.T
open Go Go.RowKit
section
variable {P : Program} {fr : Fr} {ops : Array Oper} {A : As} {rest : List Oper} {K : As → List (As × Fx) → Prop} {d : Nat} {t ty' : TypeId} {p : String} {e : Array Edge} [T : lM P]
end
end Go.T
namespace Go.T
open Go Go.RowKit
section
variable {α : Type}
theorem xp {E : El α} {T J : Nat} {q : List (List α)} : (∀ u ∈ cD (q.map fun x => Ty.fj E T J x), u = J) ∧ ∀ u ∈ bl (q.map fun x => Ty.fj E T J x), u = J := by
 constructor <;>
 ·intro u hu
  simp only [cD, bl, List.mem_flatMap, List.mem_map] at hu
  obtain ⟨t, ⟨x, _, rfl⟩, hu⟩ := hu
  simpa [Ty.fj] using hu
def PZ (E : El α) (T2 T J : Nat) (q : List (List α)) (w : World) (M : bD) (t : Nat) : Prop :=
  ∃ b cs, M b = some t ∧ w.heap[b]? = some (.cells cs T2 (0, 0)) ∧ cF w M (q.map fun x => Ty.fj E T J x) (cs.toList.take q.length) ∧ zy E.size (cs.toList.take q.length)
def Cont.mx (E : El α) (T2 T J : Nat) (q : List (List α)) : Cont :=
  { den := PZ E T2 T J q, deps := [J], cdeps := [J]
    mono := fun le hk hs hst hkt ⟨b, cs, h1, h2, h4, h5⟩ => let ⟨a, c⟩ := le.own b _ h1 hkt
      ⟨b, cs, a, (c hst).trans h2, bz le (fun u hu => by rw [xp.1 u hu]; exact hk J (by simp)) (fun u hu => by rw [xp.2 u hu]; exact hs J (by simp)) h4, h5⟩ }
theorem Cont.pT {E : El α} {T2 T J : Nat} {q q' : List (List α)} (h : q = q') : (Cont.mx E T2 T J q).Sub (Cont.mx E T2 T J q') := h ▸ Cont.aF _
def RM (size t n i : Nat) (w : World) (M : bD) (v : Value) : Prop :=
  ∀ (g e0 : Nat), jt size v = some (g, e0) → ∃ (b : Nat) (cs : Array Value) (T2 : Nat), M b = some t ∧ w.heap[b]? = some (.cells cs T2 (0, 0)) ∧ ∀ (j : Nat) (u : Value) (e1 : Nat), (cs.toList.take n)[j]? = some u → jt size u = some (g, e1) → j = i ∧ (roomy v = true → e1 ≤ e0)
def QU (E : El α) (T t J i : Nat) (xs : List α) (w : World) (M : bD) (v : Value) : Prop := ug E T J xs w M v ∧ ∃ (b : Nat) (cs : Array Value) (T2 : Nat), M b = some t ∧ w.heap[b]? = some (.cells cs T2 (0, 0)) ∧ cs.toList[i]? = some v
def Ty.ml (E : El α) (T t J i : Nat) (xs : List α) : Ty :=
  ⟨QU E T t J i xs, [t, J], [t, J], fun le hk hs ⟨h, b, cs, T2, h1, h2, h3⟩ => ⟨(Ty.fj E T J xs).mono le (fun u hu => hk u (by simp [Ty.fj] at hu ⊢; exact .inr hu)) (fun u hu => hs u (by simp [Ty.fj] at hu ⊢; exact .inr hu)) h,
    let ⟨a, c⟩ := le.own b t h1 (hk t (by simp))
    ⟨b, cs, T2, a, (c (hs t (by simp))).trans h2, h3⟩⟩, true, fun ho h => (Ty.fj E T J xs).isOne ho h.1⟩
def Q2 (E : El α) (T t J i : Nat) (xs : List α) (k : Nat) (w : World) (M : bD) (v : Value) : Prop := ∃ (u : Value) (g off n c : Nat), QU E T t J i xs w M u ∧ u = .slice (some ⟨g, off, none⟩) n c ∧ v = .pointer (some ⟨g, off + k, none⟩)
def Ty.me (E : El α) (T t J i : Nat) (xs : List α) (k : Nat) : Ty :=
  ⟨Q2 E T t J i xs k, [t, J], [t, J], fun le hk hs ⟨u, g, off, n, c, h, e⟩ => ⟨u, g, off, n, c, (Ty.ml E T t J i xs).mono le hk hs h, e⟩, true, fun _ ⟨_, _, _, _, _, _, _, e⟩ => by rw [e]; rfl⟩
end
section
variable {P : Program} {fr : Fr} {ops : Array Oper} {A : As} {rest : List Oper} {K : As → List (As × Fx) → Prop} {d : Nat} {t ty' : TypeId} {p : String} {e : Array Edge} [T : lM P]
variable {α : Type} {E : El α} {Tb J tg i : Nat} {q : List (List α)} {xs ys : List α}
omit T in
theorem QW {x : Operand} {off T2 : Nat} (hx : A.op fr x = .ptr tg off) (hc : A.tag tg = some (.mx E T2 Tb J q)) (h1 : fu tg) {a : Act} {w : World} {M : bD} {rs : List Nat} (wf : Wf w M) (hr : ∀ c ∈ cI x, c ∈ rs) (hrd : ∀ c ∈ rs, c < fr.n → (A.slots c).den w M (a.tmps.getD c undef)) (htg : ∀ y ∈ A.tags, y.1 ∈ [tg] → y.2.den w M y.1) :
 ∃ b cs, a.eval x = .pointer (some ⟨b, off, none⟩) ∧ M b = some tg ∧ w.heap[b]? = some (.cells cs T2 (0, 0)) ∧ cF w M (q.map fun x => Ty.fj E Tb J x) (cs.toList.take q.length) ∧ zy E.size (cs.toList.take q.length) := by
 have hxd := cU hr hrd
 rw [hx] at hxd
 obtain ⟨b, e2, e1⟩ := hxd
 obtain ⟨b', cs, h2, h3⟩ := htg _ (cj hc) (by simp)
 obtain ⟨u, rfl⟩ : ∃ u, tg = u + 1 := ⟨tg - 1, by have := h1.1; omega⟩
 have : b = b' := wf.inj b b' u (by have := h1.2; omega) e2 h2
 subst this
 exact ⟨b, cs, e1, e2, h3⟩
omit T in
theorem Oj {T2 : Nat} {w : World} {M : bD} {v : Value} (wf : Wf w M) (h1 : fu tg) (hi : i < q.length) (hc : PZ E T2 Tb J q w M tg) (hv : ∃ (b : Nat) (cs : Array Value) (T2 : Nat), M b = some tg ∧ w.heap[b]? = some (.cells cs T2 (0, 0)) ∧ cs.toList[i]? = some v) : RM E.size tg q.length i w M v := fun g e0 he => by
 obtain ⟨b, cs, g1, g2, g3, g4⟩ := hc
 obtain ⟨b', cs', T', k1, k2, k3⟩ := hv
 obtain ⟨u, rfl⟩ : ∃ u, tg = u + 1 := ⟨tg - 1, by have := h1.1; omega⟩
 have : b = b' := wf.inj b b' u (by have := h1.2; omega) g1 k1
 subst this
 rw [g2] at k2
 injection k2 with k2
 injection k2 with k2 _
 subst k2
 have hv' : (cs.toList.take q.length)[i]? = some v := by rw [List.getElem?_take, if_pos hi]; exact k3
 refine ⟨b, cs, T2, g1, g2, fun j u e1 hj hju => ?_⟩
 have hij := g4 j i u v g e1 e0 hj hv' hju he
 subst hij
 rw [hv'] at hj
 injection hj with hj
 subst hj
 rw [he] at hju
 injection hju with hju
 injection hju with _ hju
 exact ⟨rfl, fun _ => by omega⟩
theorem zU [Inhabited α] {x : Operand} {off T2 : Nat} {ti : TI} (i : Nat) (hx : A.op fr x = .ptr tg off) (he : off = i) (hc : A.tag tg = some (.mx E T2 Tb J q)) (h1 : fu tg) (hT : T.eV[ty']? = some ti) (ha : ti.k.agg = false) (hi : i < q.length)
 (h : ay P fr ops rest (A.set d (.ml E Tb tg J i (nth q i))) fun A' l => K A' ((A, { d := some d, ty := .ml E Tb tg J i (nth q i), rs := cI x, rt := [tg] }) :: l)) : ay P fr ops (⟨some d, .load ty' x, t, p, e, none⟩ :: rest) A K :=
 bK (bZ rfl rfl fun a w M wf hr ht => by
  subst he
  obtain ⟨b, cs, e1, e2, h3, h4, h5⟩ := QW hx hc h1 wf (fun _ h => h) hr ht
  obtain ⟨v, hv, hdv⟩ := dc h4 off (Ty.fj E Tb J (nth q off)) (by rw [List.getElem?_map, List.getElem?_eq_getElem hi, gE hi]; rfl)
  rw [List.getElem?_take, if_pos hi] at hv
  have hcell : w.cell? ⟨b, off, none⟩ = some v := by simpa [World.cell?, h3] using hv
  exact ⟨v, by simp [execOp, e1, kN hT ha hcell], hdv, b, cs, T2, e2, h3, hv⟩) h
theorem xg [Inhabited α] {x y : Operand} {kd : IntKind} {j : Nat} {ti te : TI} {el : Nat} (hx : A.op fr x = .ml E Tb tg J i xs) (hy : A.op fr y = .int kd j) (hT : T.eV[ty']? = some ti) (hk : ti.k = .slice el) (hE : T.eV[el]? = some te) (hj : j < xs.length)
 (h : ay P fr ops rest (A.set d (.me E Tb tg J i xs (j * te.size))) fun A' l' => K A' ((A, { d := some d, ty := .me E Tb tg J i xs (j * te.size), rs := cI x ++ cI y }) :: l')) : ay P fr ops (⟨some d, .indexAddr ty' x y, t, p, e, none⟩ :: rest) A K :=
 bK (bZ rfl rfl fun a w M _ hr _ => by
  obtain ⟨hdx, hdy⟩ := op2 hr
  rw [hx] at hdx; rw [hy] at hdy
  have ey : a.eval y = .int kd j := hdy
  obtain ⟨h1, h2⟩ := hdx
  have h1' := h1
  rcases h1 with ⟨h0, _⟩ | ⟨g, off, c, cur, ex, hg, hh, hn, _, _, hd⟩
  ·subst h0; simp at hj
  exact ⟨_, by simp only [execOp, ex, ey, Sem.run_bind, iP hT hk hE (Int.natCast_nonneg j) (show (j : Int).toNat < xs.length from hj)]; rfl, _, g, off, xs.length, c, ⟨h1', h2⟩, ex, by simp⟩) h
omit T in
theorem NQ {ER : El (List α)} {T2 m : Nat} (hc : A.tag m = some (.mx E T2 Tb J q)) (hne : Nat.beq m J = false) (hER : ∀ x, ER.tys x = [Ty.sl E x]) : MR A J (m, .vec ER T2 q) := fun w M wf ht => by
  obtain ⟨b, cs, h1, h2, h3, _⟩ := ht _ (cj hc)
  have hmj : m ≠ J := fun h => by subst h; simp at hne
  have hl : ∀ l : List (List α), (l.flatMap ER.tys).length = l.length := fun l => by
    induction l with
    | nil => rfl
    | cons x l ih => rw [List.flatMap_cons, hER, List.length_append, ih]; simp; omega
  have key : ∀ (l : List (List α)) (vs : List Value), cF w M (l.map fun x => Ty.fj E Tb J x) vs → cF w (eL M J) (l.flatMap ER.tys) vs := by
    intro l
    induction l with
    | nil => intro vs h; cases vs with | nil => trivial | cons => cases h
    | cons x l ih =>
      intro vs h
      cases vs with
      | nil => cases h
      | cons v vs => rw [List.flatMap_cons, hER]; exact ⟨E6 wf h.1, ih vs h.2⟩
  exact .inr ⟨b, cs, by simp [eL, h1, hmj], h2, by rw [hl]; exact key q _ h3⟩
end
end Go.T
namespace Go.Proofs.YtelbollidfdcjaaGreat
open Go Go.T
set_option maxHeartbeats 8000000
section
variable {y : aj} {a : dF} {b d i k : Nat}
end
attribute [local irreducible] cx PC FZ
attribute [local irreducible] gP e9 mA oA iG iE iK g9 iL oc iA oM dV fo n6 gC oW nth fS dY ay dP bodyPost Exit.then Exit.inBlock Code.wp Code.wpIn n7 hU oX oR iB eW cM cN bodyPostM dX
attribute [local irreducible] PZ QU Q2 ug
end Go.Proofs.YtelbollidfdcjaaGreat
namespace Go.Proofs.YtelbollidfdcjaaGreat
open Go Go.T
set_option maxHeartbeats 8000000
def Lz (n : Int) : Bool := yY n 0 300
def vV (y : aj) (a : dF) : Bool := !decide ((a.first.length : Int) = y.bins.length) || !decide ((a.bY.length : Int) = y.moves.length)
def yO (a : dF) : Bool := !a.first.all Lz || !a.bY.all Lz
def x8 (y : aj) (a : dF) : Int := if bH y = 0 then (if vV y a = true then 2 else if yO a = true then 3 else 0) else bH y
def PJ (y : aj) (a : dF) : List (List Int) := if x8 y a = 0 then FZ y a else []
section
variable {y : aj} {a : dF} {b t k : Nat} {n : Int}
theorem Ph (h : bH y = 0) (h2 : vV y a = false) (h3 : yO a = false) : 0 = x8 y a ∧ FZ y a = PJ y a := by
 have e : 0 = x8 y a := by unfold x8; rw [if_pos h, if_neg (by rw [h2]; decide), if_neg (by rw [h3]; decide)]
 exact ⟨e, by unfold PJ; rw [← e, if_pos rfl]⟩
theorem LY (h2 : vV y a = false) (h3 : yO a = false) : lT y a := by
 refine ⟨LA h2, ?_, ?_⟩ <;>
 ·unfold yO at h3
  rw [Bool.or_eq_false_iff, Bool.not_eq_false', Bool.not_eq_false'] at h3
  intro x hx
  first | exact dL.1 (List.all_eq_true.1 h3.1 x hx) | exact dL.1 (List.all_eq_true.1 h3.2 x hx)
theorem PB (h : x8 y a = 0) : y.bw ∧ lT y a := by
  unfold x8 at h
  by_cases h0 : bH y = 0
  · rw [if_pos h0] at h
    cases h2 : vV y a with
    | true => rw [h2, if_pos rfl] at h; cases h
    | false =>
      rw [h2, if_neg (by decide)] at h
      cases h3 : yO a with
      | true => rw [h3, if_pos rfl] at h; cases h
      | false => exact ⟨cK h0, LY h2 h3⟩
  · rw [if_neg h0] at h; exact absurd h h0
end
attribute [local irreducible] cx PC FZ vV yO x8 PJ rH bH
attribute [local irreducible] gP e9 mA oA iG iE iK g9 iL oc iA oM dV fo n6 gC oW nth fS dY ay dP bodyPost Exit.then Exit.inBlock Code.wp Code.wpIn n7 hU oX oR iB eW cM cN bodyPostM dX
end Go.Proofs.YtelbollidfdcjaaGreat
namespace Go.Proofs.YtelbollidfdcjaaGreat
open Go Go.T
set_option maxHeartbeats 8000000
def tU (y : aj) (a : dF) : Int := if vV y a = true then 2 else if yO a = true then 3 else 0
section
variable {y : aj} {a : dF} {k : Nat}
theorem Ey {n : Int} : jw n 0 300 = !Lz n := jy n 0 300
theorem QO (h : vV y a = true) : 2 = tU y a := by unfold tU; rw [if_pos h]
theorem Pu (h : vV y a = false) (hk : k < a.first.length) (h3 : jw (nth a.first k) 0 300 = true) : 3 = tU y a := by
 have : a.first.all Lz = false := List.all_eq_false.2 ⟨_, cT hk, by rw [Ey, Bool.not_eq_true'] at h3; rw [h3]; decide⟩
 unfold tU yO; rw [if_neg (by rw [h]; decide), this]; rfl
theorem QZ (h : vV y a = false) (hk : k < a.bY.length) (h3 : jw (nth a.bY k) 0 300 = true) : 3 = tU y a := by
 have : a.bY.all Lz = false := List.all_eq_false.2 ⟨_, cT hk, by rw [Ey, Bool.not_eq_true'] at h3; rw [h3]; decide⟩
 unfold tU yO; rw [if_neg (by rw [h]; decide), this, Bool.not_false, Bool.or_true, if_pos rfl]
theorem Qm (h : vV y a = false) (h1 : ∀ i, i < a.first.length → jw (nth a.first i) 0 300 = false) (h2 : ∀ i, i < a.bY.length → jw (nth a.bY i) 0 300 = false) : 0 = tU y a := by
 have e1 : a.first.all Lz = true := List.all_eq_true.2 fun x hx => by
  obtain ⟨i, hi, rfl⟩ := k5 hx
  have := h1 i hi
  rw [Ey, Bool.not_eq_false'] at this; exact this
 have e2 : a.bY.all Lz = true := List.all_eq_true.2 fun x hx => by
  obtain ⟨i, hi, rfl⟩ := k5 hx
  have := h2 i hi
  rw [Ey, Bool.not_eq_false'] at this; exact this
 unfold tU yO; rw [if_neg (by rw [h]; decide), e1, e2]; rfl
theorem JP (h : bH y = 0) : tU y a = x8 y a := by unfold x8; rw [if_pos h]; rfl
end
attribute [local irreducible] gP e9 mA oA iG iE iK g9 iL oc iA oM dV fo n6 gC oW nth fS dY ay dP bodyPost Exit.then Exit.inBlock Code.wp Code.wpIn n7 hU oX oR iB eW cM cN bodyPostM dX
set_option maxRecDepth 100000 in
theorem FP (y : aj) (a : dF) (ha : Pd y a) (bin time : Int) (h0 : 0 ≤ bin) (h1 : bin.toNat < a.first.length) : dP Tryz.prog 53 [eB y, mm a, Ty.int .i64 bin, Ty.int .i64 time] (Ty.int .i64 (cq y a bin time)) := by
 refine ak Tryz.func53 rfl (by decide) Tryz.ntmps53 (by exact Nat.le_of_ble_eq_true rfl) fun w0 M0 => ?_
 have hl1 := ha.len
 have hl2 := ha.q7
 refine aE (aA (bF rfl (bF rfl (bu rfl (aD (aC (aE (aA ?_))))))))
 refine aI rfl rfl rfl rfl rfl (by decide) ?_
 refine aJ rfl rfl rfl rfl (bG rfl (gQ rfl rfl rfl rfl rfl rfl h0 h1 (aJ rfl rfl rfl rfl (bu rfl (aD (aC (aE (aE (aA ?_)))))))))
 refine bu rfl (aD (aC (aa ?_)))
 refine cG (fun (k : {k : Nat // k ≤ y.moves.length}) => live [(2, Ty.int .i64 bin), (3, Ty.int .i64 time), (4, Ty.pp (bA y)), (5, Ty.pp (fR a)), (9, Ty.int .i64 (eD y a bin time k.1)), (10, Ty.int .i64 (k.1 : Nat))] []) (fun k => y.moves.length - k.1) (⟨0, by omega⟩) ?_ fun k => ?_
 ·(refine cg.mk' ?_ ?_ <;> (repeat' (first | exact aL | exact aK | refine aB ?_ (Ty.aT _) | refine aB ?_ (Ty.aF _))))
 have hk := k.2
 have hu := ha.up (time := time) h1 hk
 refine aE (aE (aA (bG rfl ?_)))
 refine aI rfl rfl rfl rfl rfl (by decide) ?_
 refine aJ rfl rfl rfl rfl (b9 rfl rfl rfl (bB rfl rfl rfl (aD (aC ?_))))
 refine aq rfl (fun hc1 => ?_) (fun hc1 => ?_)
 ·
  refine af (aC (aE (aa (aE (aA ?_)))))
  refine aI rfl rfl rfl rfl rfl (by decide) ?_
  refine aJ rfl rfl rfl rfl (bG rfl ?_)
  refine au rfl rfl rfl rfl rfl rfl (by omega) ?_
  refine aX rfl rfl rfl (by exact Nat.le_of_ble_eq_true rfl) ?_
  refine bh rfl (by exact List.cons_ne_nil _ _) rfl ?_
  refine bO rfl rfl (by decide) rfl rfl rfl rfl rfl rfl ?_
  refine aD (aC (aE (aE (aA ?_))))
  refine aR rfl rfl rfl rfl rfl (by decide) ?_
  refine aY rfl rfl (by decide) rfl rfl rfl ?_
  refine bG rfl (bB rfl rfl rfl (eY rfl ?_))
  apply aM (s := 33) rfl rfl rfl
  ·intro hg; apply aO; (refine aR rfl rfl rfl rfl rfl (by decide) ?_); refine aD ?_; exact rfl
  ·exact rfl
  ·exact rfl
  apply aM (s := 33) rfl rfl rfl
  ·intro hg; apply aH (s := 34) rfl (by (rw [hg]; rfl)); apply aO; (refine aY rfl rfl (by decide) rfl rfl rfl ?_); refine aD ?_; exact rfl
  ·exact rfl
  ·exact rfl
  apply aM (s := 33) rfl rfl rfl
  ·intro hg; apply aO; (refine bG rfl ?_); refine aD ?_; exact rfl
  ·exact rfl
  ·exact rfl
  apply aM (s := 33) rfl rfl rfl
  ·intro hg; apply aH (s := 35) rfl (by (rw [hg]; rfl)); apply aH (s := 36) rfl (by (rw [hg]; rfl)); apply aO; (refine bB rfl rfl rfl ?_); refine aD ?_; exact rfl
  ·exact rfl
  ·exact rfl
  refine eA rfl rfl (aD (aC ?_))
  refine cC rfl (fun hc2 => ?_) (fun hc2 => ?_)
  ·
   have hm1 := ha.bY _ (cT (show k.1 < a.bY.length by omega))
   refine aA (bG rfl ?_)
   refine aI rfl rfl rfl rfl rfl (by decide) ?_
   refine aJ rfl rfl rfl rfl (bG rfl ?_)
   refine au rfl rfl rfl rfl rfl rfl (by omega) ?_
   refine aJ rfl rfl rfl rfl ?_
   refine cB rfl rfl (by omega) (by omega) ?_
   refine bu rfl (aD (aC (aE (aA ?_))))
   refine aR rfl rfl rfl rfl rfl (by decide) ?_
   refine aY rfl rfl (by decide) rfl rfl rfl ?_
   refine bG rfl (bB rfl rfl rfl (eY rfl ?_))
   apply aM (s := 50) rfl rfl rfl
   ·intro hg; apply aO; (refine aR rfl rfl rfl rfl rfl (by decide) ?_); refine aD ?_; exact rfl
   ·exact rfl
   ·exact rfl
   apply aM (s := 50) rfl rfl rfl
   ·intro hg; apply aH (s := 51) rfl (by (rw [hg]; rfl)); apply aO; (refine aY rfl rfl (by decide) rfl rfl rfl ?_); refine aD ?_; exact rfl
   ·exact rfl
   ·exact rfl
   apply aM (s := 50) rfl rfl rfl
   ·intro hg; apply aO; (refine bG rfl ?_); refine aD ?_; exact rfl
   ·exact rfl
   ·exact rfl
   apply aM (s := 50) rfl rfl rfl
   ·intro hg; apply aH (s := 52) rfl (by (rw [hg]; rfl)); apply aH (s := 53) rfl (by (rw [hg]; rfl)); apply aO; (refine bB rfl rfl rfl ?_); refine aD ?_; exact rfl
   ·exact rfl
   ·exact rfl
   refine eA rfl rfl (aD (aC ?_))
   refine cC rfl (fun hc3 => ?_) (fun hc3 => ?_)
   ·
    have hm2 := ha.bY _ (cT (show k.1 < a.bY.length by omega))
    refine aA (bG rfl ?_)
    refine aI rfl rfl rfl rfl rfl (by decide) ?_
    refine aJ rfl rfl rfl rfl (bG rfl ?_)
    refine au rfl rfl rfl rfl rfl rfl (by omega) ?_
    refine aJ rfl rfl rfl rfl ?_
    refine gZ rfl rfl (by omega) (by omega) ?_
    refine bu rfl (aD (bM (aC (aA (bG rfl ?_)))))
    refine cB rfl rfl (by omega) (by omega) ?_
    refine bu rfl (aD ?_)
    refine bR (⟨k.1 + 1, by omega⟩) ?_ (by show y.moves.length - (k.1 + 1) < y.moves.length - k.1; omega)
    (refine cg.mk' ?_ ?_ <;> (repeat' (first | exact aL | exact aK | refine aB ?_ (Ty.aT _) | refine aB ?_ (Ty.aF _) | refine aB ?_ ?_)))
    all_goals skip
    all_goals exact Ty.bI (Qh hc2 hc3)
   refine af (bM (aC (aA (bG rfl ?_))))
   refine cB rfl rfl (by omega) (by omega) ?_
   refine bu rfl (aD ?_)
   refine bR (⟨k.1 + 1, by omega⟩) ?_ (by show y.moves.length - (k.1 + 1) < y.moves.length - k.1; omega)
   (refine cg.mk' ?_ ?_ <;> (repeat' (first | exact aL | exact aK | refine aB ?_ (Ty.aT _) | refine aB ?_ (Ty.aF _) | refine aB ?_ ?_)))
   all_goals skip
   all_goals exact Ty.bI (Qb hc2 hc3)
  refine af (aC (aE (aA ?_)))
  refine aR rfl rfl rfl rfl rfl (by decide) ?_
  refine aY rfl rfl (by decide) rfl rfl rfl ?_
  refine bG rfl (bB rfl rfl rfl (eY rfl ?_))
  apply aM (s := 50) rfl rfl rfl
  ·intro hg; apply aO; (refine aR rfl rfl rfl rfl rfl (by decide) ?_); refine aD ?_; exact rfl
  ·exact rfl
  ·exact rfl
  apply aM (s := 50) rfl rfl rfl
  ·intro hg; apply aH (s := 51) rfl (by (rw [hg]; rfl)); apply aO; (refine aY rfl rfl (by decide) rfl rfl rfl ?_); refine aD ?_; exact rfl
  ·exact rfl
  ·exact rfl
  apply aM (s := 50) rfl rfl rfl
  ·intro hg; apply aO; (refine bG rfl ?_); refine aD ?_; exact rfl
  ·exact rfl
  ·exact rfl
  apply aM (s := 50) rfl rfl rfl
  ·intro hg; apply aH (s := 52) rfl (by (rw [hg]; rfl)); apply aH (s := 53) rfl (by (rw [hg]; rfl)); apply aO; (refine bB rfl rfl rfl ?_); refine aD ?_; exact rfl
  ·exact rfl
  ·exact rfl
  refine eA rfl rfl (aD (aC ?_))
  refine cC rfl (fun hc4 => ?_) (fun hc4 => ?_)
  ·
   have hm2 := ha.bY _ (cT (show k.1 < a.bY.length by omega))
   refine aA (bG rfl ?_)
   refine aI rfl rfl rfl rfl rfl (by decide) ?_
   refine aJ rfl rfl rfl rfl (bG rfl ?_)
   refine au rfl rfl rfl rfl rfl rfl (by omega) ?_
   refine aJ rfl rfl rfl rfl ?_
   refine gZ rfl rfl (by omega) (by omega) ?_
   refine bu rfl (aD (bM (aC (aA (bG rfl ?_)))))
   refine cB rfl rfl (by omega) (by omega) ?_
   refine bu rfl (aD ?_)
   refine bR (⟨k.1 + 1, by omega⟩) ?_ (by show y.moves.length - (k.1 + 1) < y.moves.length - k.1; omega)
   (refine cg.mk' ?_ ?_ <;> (repeat' (first | exact aL | exact aK | refine aB ?_ (Ty.aT _) | refine aB ?_ (Ty.aF _) | refine aB ?_ ?_)))
   all_goals skip
   all_goals exact Ty.bI (QJ hc2 hc4)
  refine af (bM (aC (aA (bG rfl ?_))))
  refine cB rfl rfl (by omega) (by omega) ?_
  refine bu rfl (aD ?_)
  refine bR (⟨k.1 + 1, by omega⟩) ?_ (by show y.moves.length - (k.1 + 1) < y.moves.length - k.1; omega)
  (refine cg.mk' ?_ ?_ <;> (repeat' (first | exact aL | exact aK | refine aB ?_ (Ty.aT _) | refine aB ?_ (Ty.aF _) | refine aB ?_ ?_)))
  all_goals skip
  all_goals exact Ty.bI (Qt hc2 hc4)
 refine cH (aP (aP (ah rfl (aC (aE (aA (bG rfl (bu rfl (aD ?_)))))))))
 refine aC (az (bU rfl rfl ?_))
 all_goals skip
 all_goals exact av rfl rfl (congrArg (Ty.int .i64) (by unfold cq; rw [show k.1 = y.moves.length by have := k.2; omega]))
set_option maxRecDepth 100000 in
theorem J2 (y : aj) (hs : y.Small) (a : dF) (h1 : a.first.length ≤ 1000) (h2 : a.bY.length ≤ 1000) : dP Tryz.prog 72 [eB y, mm a] (Ty.int .i64 (tU y a)) := by
 refine ak Tryz.func72 rfl (by decide) Tryz.ntmps72 (by exact Nat.le_of_ble_eq_true rfl) fun w0 M0 => ?_
 refine aE (aA (bF rfl (bF rfl (bu rfl (aD (aC (aE (aE (aA ?_)))))))))
 refine aI rfl rfl rfl rfl rfl (by decide) ?_
 refine aJ rfl rfl rfl rfl (b9 rfl rfl rfl ?_)
 refine aI rfl rfl rfl rfl rfl (by decide) ?_
 refine aJ rfl rfl rfl rfl (b9 rfl rfl rfl (bB rfl rfl rfl (eY rfl ?_)))
 apply aM (s := 14) rfl rfl rfl
 ·intro hg; apply aO; (refine aI rfl rfl rfl rfl rfl (by decide) ?_); refine aD ?_; exact rfl
 ·exact rfl
 ·exact rfl
 apply aM (s := 14) rfl rfl rfl
 ·intro hg; apply aH (s := 15) rfl (by (rw [hg]; rfl)); apply aO; (refine aJ rfl rfl rfl rfl ?_); refine aD ?_; exact rfl
 ·exact rfl
 ·exact rfl
 apply aM (s := 14) rfl rfl rfl
 ·intro hg; apply aH (s := 16) rfl (by (rw [hg]; rfl)); apply aO; (refine b9 rfl rfl rfl ?_); refine aD ?_; exact rfl
 ·exact rfl
 ·exact rfl
 apply aM (s := 14) rfl rfl rfl
 ·intro hg; apply aO; (refine aI rfl rfl rfl rfl rfl (by decide) ?_); refine aD ?_; exact rfl
 ·exact rfl
 ·exact rfl
 apply aM (s := 14) rfl rfl rfl
 ·intro hg; apply aH (s := 18) rfl (by (rw [hg]; rfl)); apply aO; (refine aJ rfl rfl rfl rfl ?_); refine aD ?_; exact rfl
 ·exact rfl
 ·exact rfl
 apply aM (s := 14) rfl rfl rfl
 ·intro hg; apply aH (s := 19) rfl (by (rw [hg]; rfl)); apply aO; (refine b9 rfl rfl rfl ?_); refine aD ?_; exact rfl
 ·exact rfl
 ·exact rfl
 apply aM (s := 14) rfl rfl rfl
 ·intro hg; apply aH (s := 17) rfl (by (rw [hg]; rfl)); apply aH (s := 20) rfl (by (rw [hg]; rfl)); apply aO; (refine bB rfl rfl rfl ?_); refine aD ?_; exact rfl
 ·exact rfl
 ·exact rfl
 refine gN rfl rfl (aD (aC ?_))
 refine cC rfl (fun hc1 => ?_) (fun hc1 => ?_)
 ·
  refine aE (aA (bu rfl (aD (aC (az (aS (bU rfl rfl ?_)))))))
  all_goals skip
  all_goals exact av rfl rfl (congrArg (Ty.int .i64) (QO hc1))
 refine af (aC (aE (aE (aA (bu rfl (aD (aC (aa ?_))))))))
 refine cG (fun (k : {k : Nat // k ≤ a.first.length ∧ ∀ i, i < k → jw (nth a.first i) 0 300 = false}) => live [(2, Ty.pp (bA y)), (3, Ty.pp (fR a)), (5, Ty.int .i64 (k.1 : Nat))] []) (fun k => a.first.length - k.1) (⟨0, Nat.zero_le _, fun i h => absurd h (Nat.not_lt_zero i)⟩) ?_ fun k => ?_
 ·(refine cg.mk' ?_ ?_ <;> (repeat' (first | exact aL | exact aK | refine aB ?_ (Ty.aT _) | refine aB ?_ (Ty.aF _))))
 have hk := k.2.1
 refine aE (aE (aA (bG rfl ?_)))
 refine aI rfl rfl rfl rfl rfl (by decide) ?_
 refine aJ rfl rfl rfl rfl (b9 rfl rfl rfl (bB rfl rfl rfl (aD (aC ?_))))
 refine aq rfl (fun hc2 => ?_) (fun hc2 => ?_)
 ·
  refine af (aC (aE (aa (aE (aA ?_)))))
  refine aI rfl rfl rfl rfl rfl (by decide) ?_
  refine aJ rfl rfl rfl rfl (bG rfl ?_)
  refine au rfl rfl rfl rfl rfl rfl (by omega) ?_
  refine aJ rfl rfl rfl rfl (aZ (lY _ _ _) rfl rfl rfl rfl rfl (aD (aC ?_)))
  refine cC rfl (fun hc3 => ?_) (fun hc3 => ?_)
  ·
   refine aE (aA (bu rfl (aD (aC (az (bC (aS (aS (bC ?_)))))))))
   refine aS (bU rfl rfl ?_)
   all_goals skip
   all_goals exact av rfl rfl (congrArg (Ty.int .i64) (Pu hc1 (by omega) hc3))
  refine af (bM (aC (aA (bG rfl ?_))))
  refine cB rfl rfl (by omega) (by omega) ?_
  refine bu rfl (aD ?_)
  refine bR (⟨k.1 + 1, by omega, fun i h => (Nat.lt_succ_iff_lt_or_eq.1 h).elim (k.2.2 i) fun e => by subst e; exact hc3⟩) ?_ (by show a.first.length - (k.1 + 1) < a.first.length - k.1; omega)
  (refine cg.mk' ?_ ?_ <;> (repeat' (first | exact aL | exact aK | refine aB ?_ (Ty.aT _) | refine aB ?_ (Ty.aF _))))
  all_goals skip
 refine cH (aP (aP (ah rfl (aC (aE (aE (aA (bu rfl (aD ?_)))))))))
 refine aC (aa ?_)
 refine cG (fun (m : {k : Nat // k ≤ a.bY.length ∧ ∀ i, i < k → jw (nth a.bY i) 0 300 = false}) => live [(2, Ty.pp (bA y)), (3, Ty.pp (fR a)), (6, Ty.int .i64 (m.1 : Nat))] []) (fun m => a.bY.length - m.1) (⟨0, Nat.zero_le _, fun i h => absurd h (Nat.not_lt_zero i)⟩) ?_ fun m => ?_
 ·(refine cg.mk' ?_ ?_ <;> (repeat' (first | exact aL | exact aK | refine aB ?_ (Ty.aT _) | refine aB ?_ (Ty.aF _))))
 have hm := m.2.1
 refine aE (aE (aA (bG rfl ?_)))
 refine aI rfl rfl rfl rfl rfl (by decide) ?_
 refine aJ rfl rfl rfl rfl (b9 rfl rfl rfl (bB rfl rfl rfl (aD (aC ?_))))
 refine aq rfl (fun hc4 => ?_) (fun hc4 => ?_)
 ·
  refine af (aC (aE (aa (aE (aA ?_)))))
  refine aI rfl rfl rfl rfl rfl (by decide) ?_
  refine aJ rfl rfl rfl rfl (bG rfl ?_)
  refine au rfl rfl rfl rfl rfl rfl (by omega) ?_
  refine aJ rfl rfl rfl rfl (aZ (lY _ _ _) rfl rfl rfl rfl rfl (aD (aC ?_)))
  refine cC rfl (fun hc5 => ?_) (fun hc5 => ?_)
  ·
   refine aE (aA (bu rfl (aD (aC (az (bC (aS (aS (bC ?_)))))))))
   refine aS (bU rfl rfl ?_)
   all_goals skip
   all_goals exact av rfl rfl (congrArg (Ty.int .i64) (QZ hc1 (by omega) hc5))
  refine af (bM (aC (aA (bG rfl ?_))))
  refine cB rfl rfl (by omega) (by omega) ?_
  refine bu rfl (aD ?_)
  refine bR (⟨m.1 + 1, by omega, fun i h => (Nat.lt_succ_iff_lt_or_eq.1 h).elim (m.2.2 i) fun e => by subst e; exact hc5⟩) ?_ (by show a.bY.length - (m.1 + 1) < a.bY.length - m.1; omega)
  (refine cg.mk' ?_ ?_ <;> (repeat' (first | exact aL | exact aK | refine aB ?_ (Ty.aT _) | refine aB ?_ (Ty.aF _))))
  all_goals skip
 refine cH (aP (aP (ah rfl (aC (aE (aA (bu rfl (aD (aC ?_)))))))))
 refine az (bU rfl rfl ?_)
 all_goals skip
 all_goals exact av rfl rfl (congrArg (Ty.int .i64) (Qm hc1 (fun i hi => k.2.2 i (by omega)) (fun i hi => m.2.2 i (by omega))))
end Go.Proofs.YtelbollidfdcjaaGreat
namespace Go.Proofs.YtelbollidfdcjaaGreat
open Go Go.T
set_option maxHeartbeats 8000000
def CH (y : aj) (a : dF) (k : Nat) : Bool := jw (cq y a (nth y.levels k).bin (nth y.levels k).day) (nth y.levels k).sacks.lo (nth y.levels k).sacks.hi
def FW : Nat → Int
  | 0 => 1
  | k + 1 => 2 * FW k
def iV (y : aj) (a : dF) : Nat → Int
  | 0 => 0
  | k + 1 => iV y a k + if CH y a k = true then FW k else 0
open Classical in
noncomputable def eR (y : aj) (a : dF) : Int := if dm y (fun _ => false) a then iV y a y.levels.length else -1
section
variable {y : aj} {a : dF} {b t k : Nat} {n lo hi : Int}
theorem vw : ∀ k, 1 ≤ FW k
  | 0 => Int.le_refl 1
  | k + 1 => by have := vw k; show 1 ≤ 2 * FW k; omega
theorem IW : ∀ k, k ≤ 8 → FW k ≤ 256 := by decide
theorem qu : ∀ k, 0 ≤ iV y a k ∧ iV y a k < FW k
  | 0 => ⟨Int.le_refl 0, by show (0 : Int) < 1; decide⟩
  | k + 1 => by
    have ih := qu k
    have := vw k
    show 0 ≤ iV y a k + _ ∧ iV y a k + _ < 2 * FW k
    split <;> omega
theorem zI (h : CH y a k = true) : iV y a k + FW k = iV y a (k + 1) := by
 show _ = iV y a k + _; rw [if_pos h]
theorem yE (h : CH y a k = false) : iV y a k = iV y a (k + 1) := by
 show _ = iV y a k + _; rw [if_neg (by rw [h]; decide), Int.add_zero]
theorem MX : 0 = iV y a 0 := rfl
theorem P4 : 1 = FW 0 := rfl
theorem OE : 2 * FW k = FW (k + 1) := rfl
theorem Qn (h : jw (cq y a (nth y.levels k).bin (nth y.levels k).day) (nth y.levels k).sacks.lo (nth y.levels k).sacks.hi = true) : iV y a k + FW k = iV y a (k + 1) := zI h
theorem Qp (h : jw (cq y a (nth y.levels k).bin (nth y.levels k).day) (nth y.levels k).sacks.lo (nth y.levels k).sacks.hi = false) : iV y a k = iV y a (k + 1) := yE h
theorem r5 : ∀ k, iV y a k = 0 ↔ ∀ i, i < k → CH y a i = false
  | 0 => ⟨fun _ i h => absurd h (Nat.not_lt_zero i), fun _ => rfl⟩
  | k + 1 => by
    have ih := r5 k
    have hb := qu (y := y) (a := a) k
    have hp := vw k
    constructor
    · intro h
      cases hm : CH y a k with
      | true => rw [← zI hm] at h; omega
      | false =>
        rw [← yE hm] at h
        intro i hi
        rcases Nat.lt_succ_iff_lt_or_eq.1 hi with h1 | h1
        · exact ih.1 h i h1
        · rw [h1]; exact hm
    · intro h
      rw [← yE (h k (Nat.lt_succ_self k))]
      exact ih.2 fun i hi => h i (Nat.lt_succ_of_lt hi)
theorem D6 (h : jw n lo hi = false) : lo ≤ n ∧ n ≤ hi := by
 rw [jy, Bool.not_eq_false'] at h; exact dL.1 h
theorem Aq (h : jw n lo hi = true) : ¬ (lo ≤ n ∧ n ≤ hi) := fun hn => by
 rw [jy, dL.2 hn] at h; cases h
theorem Ew (hr : y.bw) (hk : k < y.levels.length) : CH y a k = false ↔ (nth y.levels k).sacks.lo ≤ cx y a (nth y.levels k).bin.toNat (nth y.levels k).day.toNat ∧ cx y a (nth y.levels k).bin.toNat (nth y.levels k).day.toNat ≤ (nth y.levels k).sacks.hi := by
 obtain ⟨g1, g2, _⟩ := hr.level _ (cT hk)
 have e : cq y a (nth y.levels k).bin (nth y.levels k).day = cx y a (nth y.levels k).bin.toNat (nth y.levels k).day.toNat := by
  rw [← jM, Int.toNat_of_nonneg g1.1, Int.toNat_of_nonneg g2.1]
 unfold CH
 rw [e, jy, Bool.not_eq_false', dL]
theorem sk (h : ¬ dm y (fun _ => false) a) : -1 = eR y a := by unfold eR; rw [if_neg h]
theorem wL (h : dm y (fun _ => false) a) : iV y a y.levels.length = eR y a := by unfold eR; rw [if_pos h]
theorem G9 (hr : y.bw) : decide (eR y a = 0) = rH y a := by
 by_cases h : dm y (fun _ => false) a
 ·rw [← wL h]
  by_cases h0 : iV y a y.levels.length = 0
  ·rw [decide_eq_true h0]
   exact (zm ⟨h.lens, h.first, h.cont, h.bY, fun i hi _ => (Ew hr hi).1 ((r5 _).1 h0 i hi)⟩).symm
  rw [decide_eq_false h0]
  exact (yW fun hf => h0 ((r5 _).2 fun i hi => (Ew hr hi).2 (hf.level i hi rfl))).symm
 rw [← sk h]
 exact (yW fun hf => h ⟨hf.lens, hf.first, hf.cont, hf.bY, fun i hi hc => by cases hc⟩).symm
theorem Qu (hb : b < y.bins.length) (h : jw (nth a.first b) (nth y.bins b).first.lo (nth y.bins b).first.hi = true) : -1 = eR y a :=
 sk fun hf => Aq h (hf.first b hb)
theorem Pq (hb : b < y.bins.length) (ht : t ≤ y.D) (h : jw (cq y a (b : Nat) (t : Nat)) 0 (nth y.bins b).holds = true) : -1 = eR y a :=
 sk fun hf => Aq h (by rw [jM]; exact hf.cont b t hb ht)
theorem QB (hk : k < y.moves.length) (h : jw (nth a.bY k) (nth y.moves k).sacks.lo (nth y.moves k).sacks.hi = true) : -1 = eR y a :=
 sk fun hf => Aq h (hf.bY k hk)
theorem Qf (hl : yH y a) (h1 : ∀ b, b < y.bins.length → ((nth y.bins b).first.lo ≤ nth a.first b ∧ nth a.first b ≤ (nth y.bins b).first.hi) ∧ ∀ t : Nat, t ≤ y.D → 0 ≤ cq y a (b : Nat) (t : Nat) ∧ cq y a (b : Nat) (t : Nat) ≤ (nth y.bins b).holds)
 (h2 : ∀ k, k < y.moves.length → (nth y.moves k).sacks.lo ≤ nth a.bY k ∧ nth a.bY k ≤ (nth y.moves k).sacks.hi) : iV y a y.levels.length = eR y a :=
 wL ⟨hl, fun b hb => (h1 b hb).1, fun b t hb ht => by rw [← jM]; exact (h1 b hb).2 t ht, h2, fun i hi hc => by cases hc⟩
end
attribute [local irreducible] cq eR iV FW CH
attribute [local irreducible] gP e9 mA oA iG iE iK g9 iL oc iA oM dV fo n6 gC oW nth fS dY ay dP bodyPost Exit.then Exit.inBlock Code.wp Code.wpIn n7 hU oX oR iB eW cM cN bodyPostM dX
set_option maxRecDepth 100000 in
theorem C5 (y : aj) (a : dF) (hr : y.bw) (ha : lT y a) : dP Tryz.prog 73 [eB y, mm a] (Ty.int .i64 (eR y a)) := by
 refine ak Tryz.func73 rfl (by decide) Tryz.ntmps73 (by exact Nat.le_of_ble_eq_true rfl) fun w0 M0 => ?_
 have hl1 := ha.lens.first
 have hl2 := ha.lens.bY
 have hyb := hr.bins
 have hym := hr.moves
 have hyl := hr.levels
 have hyd := hr.days
 have hD := D_eq hr
 have hams : Pd y a := ⟨by omega, by omega, fun x hx => by have := ha.first x hx; omega, fun x hx => by have := ha.bY x hx; omega⟩
 refine aE (aA (bF rfl (bF rfl (bu rfl (aD (aC (aE (aE (aA ?_)))))))))
 refine bu rfl (aD (aC (aa ?_)))
 refine cG (fun (k : {k : Nat // k ≤ y.bins.length ∧ ∀ b, b < k → ((nth y.bins b).first.lo ≤ nth a.first b ∧ nth a.first b ≤ (nth y.bins b).first.hi) ∧ ∀ t : Nat, t ≤ y.D → 0 ≤ cq y a (b : Nat) (t : Nat) ∧ cq y a (b : Nat) (t : Nat) ≤ (nth y.bins b).holds}) => live [(2, Ty.pp (bA y)), (3, Ty.pp (fR a)), (5, Ty.int .i64 (k.1 : Nat))] []) (fun k => y.bins.length - k.1) (⟨0, Nat.zero_le _, fun i h => absurd h (Nat.not_lt_zero i)⟩) ?_ fun k => ?_
 ·(refine cg.mk' ?_ ?_ <;> (repeat' (first | exact aL | exact aK | refine aB ?_ (Ty.aT _) | refine aB ?_ (Ty.aF _))))
 have hk := k.2.1
 refine aE (aE (aA (bG rfl ?_)))
 refine aI rfl rfl rfl rfl rfl (by decide) ?_
 refine aJ rfl rfl rfl rfl (b9 rfl rfl rfl (bB rfl rfl rfl (aD (aC ?_))))
 refine aq rfl (fun hc1 => ?_) (fun hc1 => ?_)
 ·
  refine af (aC (aE (aa (aE (aE (cL mixed rfl ?_))))))
  refine aI rfl rfl rfl rfl rfl (by decide) ?_
  refine aJ rfl rfl rfl rfl (bG rfl ?_)
  refine au rfl rfl rfl rfl rfl rfl (by omega) ?_
  refine aJ rfl rfl rfl rfl ?_
  refine aI rfl rfl rfl rfl rfl (by decide) ?_
  refine aJ rfl rfl rfl rfl (bG rfl ?_)
  refine au rfl rfl rfl rfl rfl rfl (by omega) ?_
  refine aI rfl rfl rfl rfl rfl (by decide) ?_
  refine aI rfl rfl rfl rfl rfl (by decide) ?_
  refine aJ rfl rfl rfl rfl ?_
  refine aI rfl rfl rfl rfl rfl (by decide) ?_
  refine aJ rfl rfl rfl rfl (bG rfl ?_)
  refine au rfl rfl rfl rfl rfl rfl (by omega) ?_
  refine aI rfl rfl rfl rfl rfl (by decide) ?_
  refine aI rfl rfl rfl rfl rfl (by decide) ?_
  refine aJ rfl rfl rfl rfl (aZ (lY _ _ _) rfl rfl rfl rfl rfl (aD ?_))
  refine ⟨by kernel_rfl, ?_⟩
  refine aC ?_
  refine cC rfl (fun hc2 => ?_) (fun hc2 => ?_)
  ·
   refine aE (aA (bu rfl (aD (aC (az (aS (bC (aS (aS ?_)))))))))
   refine bC (aS (bU rfl rfl ?_))
   all_goals skip
   exact av rfl rfl (congrArg (Ty.int .i64) (Qu (b := k.1) (by omega) hc2))
  refine af (aC (aE (aA (bu rfl (aD (aC (aa ?_)))))))
  refine cG (fun (t : {t : Nat // t ≤ y.D + 1 ∧ ∀ s : Nat, s < t → 0 ≤ cq y a (k.1 : Nat) (s : Nat) ∧ cq y a (k.1 : Nat) (s : Nat) ≤ (nth y.bins k.1).holds}) => live [(2, Ty.pp (bA y)), (3, Ty.pp (fR a)), (5, Ty.int .i64 (k.1 : Nat)), (6, Ty.int .i64 (t.1 : Nat))] []) (fun t => y.D + 1 - t.1) (⟨0, Nat.zero_le _, fun s h => absurd h (Nat.not_lt_zero s)⟩) ?_ fun t => ?_
  ·(refine cg.mk' ?_ ?_ <;> (repeat' (first | exact aL | exact aK | refine aB ?_ (Ty.aT _) | refine aB ?_ (Ty.aF _))))
  have ht := t.2.1
  refine aE (aE (aA (bG rfl ?_)))
  refine aI rfl rfl rfl rfl rfl (by decide) ?_
  refine aJ rfl rfl rfl rfl (bB rfl rfl rfl (aD (aC ?_)))
  refine aq rfl (fun hc3 => ?_) (fun hc3 => ?_)
  ·
   refine af (aC (aE (aa (aE (cL mixed rfl ?_)))))
   refine aX rfl rfl rfl (by exact Nat.le_of_ble_eq_true rfl) ?_
   refine aX rfl rfl rfl (by exact Nat.le_of_ble_eq_true rfl) ?_
   refine bG rfl (bG rfl ?_)
   refine aZ (FP y a hams ((k.1 : Nat) : Int) ((t.1 : Nat) : Int) (Int.natCast_nonneg _) (by omega)) rfl rfl rfl rfl rfl ?_
   refine aI rfl rfl rfl rfl rfl (by decide) ?_
   refine aJ rfl rfl rfl rfl (bG rfl ?_)
   refine au rfl rfl rfl rfl rfl rfl (by omega) ?_
   refine aI rfl rfl rfl rfl rfl (by decide) ?_
   refine aJ rfl rfl rfl rfl (aZ (lY _ _ _) rfl rfl rfl rfl rfl (aD ?_))
   refine ⟨by kernel_rfl, ?_⟩
   refine aC ?_
   refine cC rfl (fun hc4 => ?_) (fun hc4 => ?_)
   ·
    refine aE (aA (bu rfl (aD (aC (az (bC (aS (aS (bC ?_)))))))))
    refine bC (aS (aS (bC (aS (bU rfl rfl ?_)))))
    all_goals skip
    exact av rfl rfl (congrArg (Ty.int .i64) (Pq (b := k.1) (t := t.1) (by omega) (by omega) hc4))
   refine af (bM (aC (aA (bG rfl ?_))))
   refine cB rfl rfl (by omega) (by omega) ?_
   refine bu rfl (aD ?_)
   refine bR (⟨t.1 + 1, by omega, fun s h => (Nat.lt_succ_iff_lt_or_eq.1 h).elim (t.2.2 s) fun e => by subst e; exact D6 hc4⟩) ?_ (by show y.D + 1 - (t.1 + 1) < y.D + 1 - t.1; omega)
   (refine cg.mk' ?_ ?_ <;> (repeat' (first | exact aL | exact aK | refine aB ?_ (Ty.aT _) | refine aB ?_ (Ty.aF _))))
   all_goals skip
  refine cH (aP (aP (ah rfl (bM (aC (aA (bG rfl ?_)))))))
  refine cB rfl rfl (by omega) (by omega) ?_
  refine bu rfl (aD ?_)
  refine bR (⟨k.1 + 1, by omega, fun i h => (Nat.lt_succ_iff_lt_or_eq.1 h).elim (k.2.2 i) fun e => by subst e; exact ⟨D6 hc2, fun s h => t.2.2 s (by omega)⟩⟩) ?_ (by show y.bins.length - (k.1 + 1) < y.bins.length - k.1; omega)
  (refine cg.mk' ?_ ?_ <;> (repeat' (first | exact aL | exact aK | refine aB ?_ (Ty.aT _) | refine aB ?_ (Ty.aF _))))
  all_goals skip
 refine cH (aP (aP (ah rfl (aC (aE (aE (aA (bu rfl (aD ?_)))))))))
 refine aC (aa ?_)
 refine cG (fun (m : {k : Nat // k ≤ y.moves.length ∧ ∀ i, i < k → (nth y.moves i).sacks.lo ≤ nth a.bY i ∧ nth a.bY i ≤ (nth y.moves i).sacks.hi}) => live [(2, Ty.pp (bA y)), (3, Ty.pp (fR a)), (7, Ty.int .i64 (m.1 : Nat))] []) (fun m => y.moves.length - m.1) (⟨0, Nat.zero_le _, fun b h => absurd h (Nat.not_lt_zero b)⟩) ?_ fun m => ?_
 ·(refine cg.mk' ?_ ?_ <;> (repeat' (first | exact aL | exact aK | refine aB ?_ (Ty.aT _) | refine aB ?_ (Ty.aF _))))
 have hm := m.2.1
 refine aE (aE (aA (bG rfl ?_)))
 refine aI rfl rfl rfl rfl rfl (by decide) ?_
 refine aJ rfl rfl rfl rfl (b9 rfl rfl rfl (bB rfl rfl rfl (aD (aC ?_))))
 refine aq rfl (fun hc5 => ?_) (fun hc5 => ?_)
 ·
  refine af (aC (aE (aa (aE (cL mixed rfl ?_)))))
  refine aI rfl rfl rfl rfl rfl (by decide) ?_
  refine aJ rfl rfl rfl rfl (bG rfl ?_)
  refine au rfl rfl rfl rfl rfl rfl (by omega) ?_
  refine aJ rfl rfl rfl rfl ?_
  refine aI rfl rfl rfl rfl rfl (by decide) ?_
  refine aJ rfl rfl rfl rfl (bG rfl ?_)
  refine au rfl rfl rfl rfl rfl rfl (by omega) ?_
  refine aI rfl rfl rfl rfl rfl (by decide) ?_
  refine aI rfl rfl rfl rfl rfl (by decide) ?_
  refine aJ rfl rfl rfl rfl ?_
  refine aI rfl rfl rfl rfl rfl (by decide) ?_
  refine aJ rfl rfl rfl rfl (bG rfl ?_)
  refine au rfl rfl rfl rfl rfl rfl (by omega) ?_
  refine aI rfl rfl rfl rfl rfl (by decide) ?_
  refine aI rfl rfl rfl rfl rfl (by decide) ?_
  refine aJ rfl rfl rfl rfl (aZ (lY _ _ _) rfl rfl rfl rfl rfl (aD ?_))
  refine ⟨by kernel_rfl, ?_⟩
  refine aC ?_
  refine cC rfl (fun hc6 => ?_) (fun hc6 => ?_)
  ·
   refine aE (aA (bu rfl (aD (aC (az (bC (aS (aS (bC ?_)))))))))
   refine aS (bU rfl rfl ?_)
   all_goals skip
   exact av rfl rfl (congrArg (Ty.int .i64) (QB (k := m.1) (by omega) hc6))
  refine af (bM (aC (aA (bG rfl ?_))))
  refine cB rfl rfl (by omega) (by omega) ?_
  refine bu rfl (aD ?_)
  refine bR (⟨m.1 + 1, by omega, fun i h => (Nat.lt_succ_iff_lt_or_eq.1 h).elim (m.2.2 i) fun e => by subst e; exact D6 hc6⟩) ?_ (by show y.moves.length - (m.1 + 1) < y.moves.length - m.1; omega)
  (refine cg.mk' ?_ ?_ <;> (repeat' (first | exact aL | exact aK | refine aB ?_ (Ty.aT _) | refine aB ?_ (Ty.aF _))))
  all_goals skip
 refine cH (aP (aP (ah rfl (aC (aE (aA (bu rfl (bu rfl (aD ?_)))))))))
 refine aC (aE (aE (aA (bu rfl (aD (aC (aa ?_)))))))
 refine cG (fun (n : {k : Nat // k ≤ y.levels.length}) => live [(2, Ty.pp (bA y)), (3, Ty.pp (fR a)), (8, Ty.int .i64 (iV y a n.1)), (9, Ty.int .i64 (FW n.1)), (10, Ty.int .i64 (n.1 : Nat))] []) (fun n => y.levels.length - n.1) (⟨0, Nat.zero_le _⟩) ?_ fun n => ?_
 ·(refine cg.mk' ?_ ?_ <;> (repeat' (first | exact aL | exact aK | refine aB ?_ (Ty.aT _) | refine aB ?_ (Ty.aF _) | refine aB ?_ ?_)))
  all_goals first | exact Ty.bI MX | exact Ty.bI P4
 have hn := n.2
 have hp1 := vw n.1
 have hp2 := IW n.1 (by omega)
 have hmb := qu (y := y) (a := a) n.1
 refine aE (aE (aA (bG rfl ?_)))
 refine aI rfl rfl rfl rfl rfl (by decide) ?_
 refine aJ rfl rfl rfl rfl (b9 rfl rfl rfl (bB rfl rfl rfl (aD (aC ?_))))
 refine aq rfl (fun hc7 => ?_) (fun hc7 => ?_)
 ·
  refine af (aC (aE (aa (aE ?_))))
  have hlv := hr.level _ (cT (show n.1 < y.levels.length by omega))
  refine aA ?_
  refine aI rfl rfl rfl rfl rfl (by decide) ?_
  refine aJ rfl rfl rfl rfl (bG rfl ?_)
  refine au rfl rfl rfl rfl rfl rfl (by omega) ?_
  refine aX rfl rfl rfl (by exact Nat.le_of_ble_eq_true rfl) ?_
  refine bh rfl (by exact List.cons_ne_nil _ _) rfl ?_
  refine bO rfl rfl (by decide) rfl rfl rfl rfl rfl rfl ?_
  refine aD (aC (aE (aE (cL mixed rfl ?_))))
  refine aX rfl rfl rfl (by exact Nat.le_of_ble_eq_true rfl) ?_
  refine aX rfl rfl rfl (by exact Nat.le_of_ble_eq_true rfl) ?_
  refine aR rfl rfl rfl rfl rfl (by decide) ?_
  refine aY rfl rfl (by decide) rfl rfl rfl ?_
  refine aR rfl rfl rfl rfl rfl (by decide) ?_
  refine aY rfl rfl (by decide) rfl rfl rfl ?_
  refine aZ (FP y a hams (nth y.levels n.1).bin (nth y.levels n.1).day hlv.2.1.1 (by omega)) rfl rfl rfl rfl rfl ?_
  refine aR rfl rfl rfl rfl rfl (by decide) ?_
  refine aR rfl rfl rfl rfl rfl (by decide) ?_
  refine aY rfl rfl (by decide) rfl rfl rfl ?_
  refine aR rfl rfl rfl rfl rfl (by decide) ?_
  refine aR rfl rfl rfl rfl rfl (by decide) ?_
  refine aY rfl rfl (by decide) rfl rfl rfl ?_
  refine aZ (lY _ _ _) rfl rfl rfl rfl rfl (aD ?_)
  refine ⟨by kernel_rfl, ?_⟩
  refine aC ?_
  refine cC rfl (fun hc8 => ?_) (fun hc8 => ?_)
  ·
   refine aA (bG rfl (bG rfl ?_))
   refine cB rfl rfl (by omega) (by omega) ?_
   refine bu rfl (aD (aC (aA (bG rfl ?_))))
   refine xH rfl rfl (by omega) (by omega) ?_
   refine bu rfl (aD (bM (aC (aA (bG rfl ?_)))))
   refine cB rfl rfl (by omega) (by omega) ?_
   refine bu rfl (aD ?_)
   refine bR (⟨n.1 + 1, by omega⟩) ?_ (by show y.levels.length - (n.1 + 1) < y.levels.length - n.1; omega)
   (refine cg.mk' ?_ ?_ <;> (repeat' (first | exact aL | exact aK | refine aB ?_ (Ty.aT _) | refine aB ?_ (Ty.aF _) | refine aB ?_ ?_)))
   all_goals skip
   all_goals first | exact Ty.bI (Qn hc8) | exact Ty.bI OE
  refine af (aC (aA (bG rfl ?_)))
  refine xH rfl rfl (by omega) (by omega) ?_
  refine bu rfl (aD (bM (aC (aA (bG rfl ?_)))))
  refine cB rfl rfl (by omega) (by omega) ?_
  refine bu rfl (aD ?_)
  refine bR (⟨n.1 + 1, by omega⟩) ?_ (by show y.levels.length - (n.1 + 1) < y.levels.length - n.1; omega)
  (refine cg.mk' ?_ ?_ <;> (repeat' (first | exact aL | exact aK | refine aB ?_ (Ty.aT _) | refine aB ?_ (Ty.aF _) | refine aB ?_ ?_)))
  all_goals skip
  all_goals first | exact Ty.bI (Qp hc8) | exact Ty.bI OE
 refine cH (aP (aP (ah rfl (aC (aE (aA (bG rfl (bu rfl (aD ?_)))))))))
 refine aC (az (bU rfl rfl ?_))
 all_goals skip
 exact av rfl rfl (congrArg (Ty.int .i64) ((congrArg (iV y a) (show n.1 = y.levels.length by omega)).trans (Qf ha.lens (fun b hb => k.2.2 b (by omega)) (fun i hi => m.2.2 i (by omega)))))
end Go.Proofs.YtelbollidfdcjaaGreat
namespace Go.Proofs.YtelbollidfdcjaaGreat
open Go Go.T
structure pM where
  fits : Bool
  bins : List (List Span)
  moves : List Span
  whole : List Span
  missed : List Bool
deriving Inhabited
structure pM.Shape (y : aj) (f : pM) : Prop where
  bins : f.bins.length = y.bins.length
  row : ∀ b, b < y.bins.length → (nth f.bins b).length = y.D + 1
  moves : f.moves.length = y.moves.length
  whole : f.whole.length = y.D + 1
  missed : f.missed.length = 256
def cm (y : aj) : List Int := y.bins.map (fun b => b.first.lo) ++ y.moves.map fun m => m.sacks.lo
def dI (y : aj) : List Int := y.bins.map (fun b => b.first.hi) ++ y.moves.map fun m => m.sacks.hi
def eE (y : aj) (now : List Int) : dF := ⟨now.take y.bins.length, now.drop y.bins.length⟩
def kG (y : aj) (a : dF) (f : pM) (t k : Nat) : List (List Span) := (List.range y.bins.length).map fun b => (List.range (y.D + 1)).map fun s => if s < t ∨ s = t ∧ b < k then j7 (nth (nth f.bins b) s) (cq y a (b : Nat) (s : Nat)) f.fits else nth (nth f.bins b) s
def sN (y : aj) (a : dF) (t k : Nat) : Int := cw (fun b => cq y a (b : Nat) (t : Nat)) k
def pF (y : aj) (a : dF) (f : pM) (t : Nat) : List Span := (List.range (y.D + 1)).map fun s => if s < t then j7 (nth f.whole s) (sN y a s y.bins.length) f.fits else nth f.whole s
def pP (y : aj) (a : dF) (f : pM) (k : Nat) : List Span := (List.range y.moves.length).map fun i => if i < k then j7 (nth f.moves i) (nth a.bY i) f.fits else nth f.moves i
def su (y : aj) (a : dF) (f : pM) : pM := ⟨true, kG y a f (y.D + 1) 0, pP y a f y.moves.length, pF y a f (y.D + 1), f.missed⟩
noncomputable def kB (y : aj) (a : dF) (f : pM) : pM := { f with missed := f.missed.set (eR y a).toNat true }
open Classical in
noncomputable def vU (y : aj) (a : dF) (f : pM) : pM := if eR y a < 0 then f else if eR y a = 0 then su y a (kB y a f) else kB y a f
def gW (y : aj) : pM := ⟨false, List.replicate y.bins.length (List.replicate (y.D + 1) ⟨0, 0⟩), List.replicate y.moves.length ⟨0, 0⟩, List.replicate (y.D + 1) ⟨0, 0⟩, List.replicate 256 false⟩
def dW (y : aj) (k : Nat) : List Int := if k < dH (cm y) (dI y) then IQ (cm y) (dI y) k else cm y
def jP (y : aj) (k : Nat) : dF := eE y (dW y k)
noncomputable def eM (y : aj) : Nat → pM
  | 0 => gW y
  | k + 1 => vU y (jP y k) (eM y k)
noncomputable def jJ (y : aj) : pM := eM y (dH (cm y) (dI y))
theorem kr {α : Type} [Inhabited α] {f g : Nat → α} {n k : Nat} (h : k < n) (hf : ∀ b, b < n → b ≠ k → f b = g b) : ((List.range n).map f).set k (g k) = (List.range n).map g := by
 refine nW (by rw [List.length_set, List.length_map, List.length_map]) fun j hj => ?_
 rw [List.length_set, List.length_map, List.length_range] at hj
 rw [iw (by rw [List.length_map, List.length_range]; exact hj), eH _ hj]
 by_cases e : k = j
 ·subst e; rw [if_pos rfl, eH _ hj]
 rw [if_neg e, eH _ hj]; exact hf j hj (Ne.symm e)
theorem je {α : Type} [Inhabited α] {l : List α} {n : Nat} (h : l.length = n) : (List.range n).map (nth l) = l := by
 refine nW (by rw [List.length_map, List.length_range, h]) fun j hj => ?_
 rw [List.length_map, List.length_range] at hj
 exact eH _ hj
section
variable {y : aj} {a : dF} {f : pM} {t k b i : Nat}
theorem H8 (h : f.Shape y) : f.bins = kG y a f 0 0 := by
 unfold kG
 rw [← je h.bins]
 refine List.map_congr_left fun b hb => ?_
 have hb := List.mem_range.1 hb
 rw [← je (h.row b hb), je (h.row b hb)]
 refine (je (h.row b hb)).symm.trans ?_
 refine List.map_congr_left fun s _ => ?_
 rw [if_neg (by omega), je h.bins]
theorem CJ : (kG y a f t k).length = y.bins.length := by unfold kG; rw [List.length_map, List.length_range]
theorem Dd (hb : b < y.bins.length) : (nth (kG y a f t k) b).length = y.D + 1 := by unfold kG; rw [eH _ hb, List.length_map, List.length_range]
theorem Az (hb : b < y.bins.length) (ht : i ≤ y.D) : nth (nth (kG y a f t k) b) i = if i < t ∨ i = t ∧ b < k then j7 (nth (nth f.bins b) i) (cq y a (b : Nat) (i : Nat)) f.fits else nth (nth f.bins b) i := by
 unfold kG; rw [eH _ hb, eH _ (by omega)]
theorem Lg (hb : k < y.bins.length) (ht : t ≤ y.D) : nth (nth (kG y a f t k) k) t = nth (nth f.bins k) t := by
 rw [Az hb ht, if_neg (by omega)]
theorem Ki (hb : k < y.bins.length) (ht : t ≤ y.D) : (kG y a f t k).set k ((nth (kG y a f t k) k).set t (j7 (nth (nth f.bins k) t) (cq y a (k : Nat) (t : Nat)) f.fits)) = kG y a f t (k + 1) := by
 have e1 : (nth (kG y a f t k) k).set t (j7 (nth (nth f.bins k) t) (cq y a (k : Nat) (t : Nat)) f.fits) = (List.range (y.D + 1)).map fun s => if s < t ∨ s = t ∧ k < k + 1 then j7 (nth (nth f.bins k) s) (cq y a (k : Nat) (s : Nat)) f.fits else nth (nth f.bins k) s := by
  unfold kG
  rw [eH _ hb]
  have := kr (f := fun s => if s < t ∨ s = t ∧ k < k then j7 (nth (nth f.bins k) s) (cq y a (k : Nat) (s : Nat)) f.fits else nth (nth f.bins k) s) (g := fun s => if s < t ∨ s = t ∧ k < k + 1 then j7 (nth (nth f.bins k) s) (cq y a (k : Nat) (s : Nat)) f.fits else nth (nth f.bins k) s) (show t < y.D + 1 by omega) fun s _ hs => by
   by_cases c : s < t
   ·rw [if_pos (.inl c), if_pos (.inl c)]
   rw [if_neg (by omega), if_neg (by omega)]
  rw [if_pos (.inr ⟨rfl, Nat.lt_succ_self k⟩)] at this
  exact this
 rw [e1]
 exact kr (g := fun b => (List.range (y.D + 1)).map fun s => if s < t ∨ s = t ∧ b < k + 1 then j7 (nth (nth f.bins b) s) (cq y a (b : Nat) (s : Nat)) f.fits else nth (nth f.bins b) s) hb fun b _ hn => List.map_congr_left fun s _ => by
  by_cases c : s < t ∨ s = t ∧ b < k
  ·rw [if_pos c, if_pos (by omega)]
  rw [if_neg c, if_neg (by omega)]
theorem Gm (h : k = y.bins.length) : kG y a f t k = kG y a f (t + 1) 0 := by
 subst h
 unfold kG
 refine List.map_congr_left fun b hb => List.map_congr_left fun s _ => ?_
 have hb := List.mem_range.1 hb
 by_cases c : s < t + 1
 ·rw [if_pos (by omega), if_pos (.inl c)]
 rw [if_neg (by omega), if_neg (by omega)]
theorem IE (h : f.Shape y) : f.whole = pF y a f 0 := by
 unfold pF
 refine (je h.whole).symm.trans (List.map_congr_left fun s _ => ?_)
 rw [if_neg (by omega)]
theorem B4 : (pF y a f t).length = y.D + 1 := by unfold pF; rw [List.length_map, List.length_range]
theorem Jd (ht : t ≤ y.D) : nth (pF y a f t) t = nth f.whole t := by
 unfold pF; rw [eH _ (by omega), if_neg (by omega)]
theorem Ip (ht : t ≤ y.D) : (pF y a f t).set t (j7 (nth f.whole t) (sN y a t y.bins.length) f.fits) = pF y a f (t + 1) := by
 have := kr (f := fun s => if s < t then j7 (nth f.whole s) (sN y a s y.bins.length) f.fits else nth f.whole s) (g := fun s => if s < t + 1 then j7 (nth f.whole s) (sN y a s y.bins.length) f.fits else nth f.whole s) (show t < y.D + 1 by omega) fun s _ hs => by
  by_cases c : s < t
  ·rw [if_pos c, if_pos (by omega)]
  rw [if_neg c, if_neg (by omega)]
 rw [if_pos (Nat.lt_succ_self t)] at this
 exact this
theorem IL (h : f.Shape y) : f.moves = pP y a f 0 := by
 unfold pP
 refine (je h.moves).symm.trans (List.map_congr_left fun s _ => ?_)
 rw [if_neg (by omega)]
theorem DX : (pP y a f k).length = y.moves.length := by unfold pP; rw [List.length_map, List.length_range]
theorem Ju (hk : k < y.moves.length) : nth (pP y a f k) k = nth f.moves k := by
 unfold pP; rw [eH _ hk, if_neg (by omega)]
theorem Je (hk : k < y.moves.length) : (pP y a f k).set k (j7 (nth f.moves k) (nth a.bY k) f.fits) = pP y a f (k + 1) := by
 have := kr (f := fun s => if s < k then j7 (nth f.moves s) (nth a.bY s) f.fits else nth f.moves s) (g := fun s => if s < k + 1 then j7 (nth f.moves s) (nth a.bY s) f.fits else nth f.moves s) hk fun s _ hs => by
  by_cases c : s < k
  ·rw [if_pos c, if_pos (by omega)]
  rw [if_neg c, if_neg (by omega)]
 rw [if_pos (Nat.lt_succ_self k)] at this
 exact this
theorem HW (h : f.Shape y) : (su y a f).Shape y := ⟨CJ, fun _ hb => Dd hb, DX, B4, h.missed⟩
theorem oZ (h : f.Shape y) : (kB y a f).Shape y := ⟨h.bins, h.row, h.moves, h.whole, by show (f.missed.set _ _).length = _; rw [List.length_set]; exact h.missed⟩
theorem Ax (h : eR y a < 0) : f = vU y a f := by unfold vU; rw [if_pos h]
theorem wU (h : eR y a = 0) : su y a (kB y a f) = vU y a f := by unfold vU; rw [if_neg (by omega), if_pos h]
theorem uK (h : ¬ eR y a < 0) (h0 : ¬ eR y a = 0) : kB y a f = vU y a f := by unfold vU; rw [if_neg h, if_neg h0]
theorem D8 (h : f.Shape y) : (vU y a f).Shape y := by
 by_cases h1 : eR y a < 0
 ·rw [← Ax h1]; exact h
 by_cases h2 : eR y a = 0
 ·rw [← wU h2]; exact HW (oZ h)
 rw [← uK h1 h2]; exact oZ h
theorem EY : (gW y).Shape y := ⟨List.length_replicate, fun b hb => by show (nth (List.replicate y.bins.length (List.replicate (y.D + 1) (⟨0, 0⟩ : Span))) b).length = _; rw [gE (by rw [List.length_replicate]; exact hb), List.getElem_replicate, List.length_replicate], List.length_replicate, List.length_replicate, List.length_replicate⟩
theorem mJ : ∀ k, (eM y k).Shape y
  | 0 => EY
  | k + 1 => D8 (mJ k)
theorem rj {α : Type} {f g : α → Int} : ∀ {l : List α}, (∀ x ∈ l, f x ≤ g x) → jd (l.map f) (l.map g)
  | [], _ => trivial
  | x :: l, h => ⟨h x List.mem_cons_self, rj fun z hz => h z (List.mem_cons_of_mem _ hz)⟩
theorem wK : ∀ {l h l' h' : List Int}, jd l h → jd l' h' → jd (l ++ l') (h ++ h')
  | [], [], _, _, _, q => q
  | _ :: _, _ :: _, _, _, ⟨a, b⟩, q => ⟨a, wK b q⟩
theorem gR (hr : y.bw) : jd (cm y) (dI y) :=
 wK (rj fun b hb => (hr.bin b hb).2.2) (rj fun m hm => (hr.move m hm).2.2.2.2.2)
theorem gu : (cm y).length = y.bins.length + y.moves.length := by unfold cm; rw [List.length_append, List.length_map, List.length_map]
theorem nO : (dI y).length = y.bins.length + y.moves.length := by unfold dI; rw [List.length_append, List.length_map, List.length_map]
theorem qM (hr : y.bw) : (dW y k).length = y.bins.length + y.moves.length := by
 unfold dW
 split
 ·rename_i h
  rw [(yS (tq (gR hr) h).1).1, gu]
 exact gu
theorem Fw : ∀ {lo hi x : List Int}, hi.length = lo.length → x.length = lo.length → (∀ i, i < lo.length → nth lo i ≤ nth x i ∧ nth x i ≤ nth hi i) → rP lo hi x
  | [], [], [], _, _, _ => trivial
  | l :: ls, h :: hs, x :: xs, h1, h2, h3 => ⟨h3 0 (Nat.zero_lt_succ _), Fw (by simpa using h1) (by simpa using h2) fun i hi => h3 (i + 1) (Nat.succ_lt_succ hi)⟩
theorem CX : ∀ {lo hi x : List Int}, rP lo hi x → ∀ i, i < lo.length → nth lo i ≤ nth x i ∧ nth x i ≤ nth hi i
  | _ :: _, _ :: _, _ :: _, ⟨h, _⟩, 0, _ => h
  | _ :: _, _ :: _, _ :: _, ⟨_, h⟩, i + 1, hi => CX h i (Nat.lt_of_succ_lt_succ hi)
theorem Dw (h : b < y.bins.length) : nth (cm y) b = (nth y.bins b).first.lo := by
 unfold cm; rw [gk (by rw [List.length_map]; exact h), nh _ h]
theorem Ds (h : b < y.bins.length) : nth (dI y) b = (nth y.bins b).first.hi := by
 unfold dI; rw [gk (by rw [List.length_map]; exact h), nh _ h]
theorem Eu (h : i < y.moves.length) : nth (cm y) (y.bins.length + i) = (nth y.moves i).sacks.lo := by
 unfold cm
 have := kO (l := y.bins.map fun b => b.first.lo) (k := y.moves.map fun m => m.sacks.lo) (i := i)
 rw [List.length_map] at this
 rw [this, nh _ h]
theorem EX (h : i < y.moves.length) : nth (dI y) (y.bins.length + i) = (nth y.moves i).sacks.hi := by
 unfold dI
 have := kO (l := y.bins.map fun b => b.first.hi) (k := y.moves.map fun m => m.sacks.hi) (i := i)
 rw [List.length_map] at this
 rw [this, nh _ h]
theorem z3 {α : Type} [Inhabited α] {l : List α} {n : Nat} (h : i < n) : nth (l.take n) i = nth l i := by
 unfold nth; rw [List.getD_eq_getElem?_getD, List.getD_eq_getElem?_getD, List.getElem?_take, if_pos h]
theorem Cr (hr : y.bw) {x : List Int} (h : rP (cm y) (dI y) x) : lT y (eE y x) := by
 obtain ⟨h1, _⟩ := yS h
 rw [gu] at h1
 have hn := CX h
 rw [gu] at hn
 refine ⟨⟨by show (x.take _).length = _; rw [List.length_take]; omega, by show (x.drop _).length = _; rw [List.length_drop]; omega⟩, fun v hv => ?_, fun v hv => ?_⟩
 ·obtain ⟨i, hi, rfl⟩ := k5 (l := x.take y.bins.length) hv
  rw [List.length_take] at hi
  rw [z3 (by omega)]
  have := hn i (by omega)
  rw [Dw (by omega), Ds (by omega)] at this
  have hb := (hr.bin _ (cT (show i < y.bins.length by omega))).2.1
  omega
 obtain ⟨i, hi, rfl⟩ := k5 (l := x.drop y.bins.length) hv
 rw [List.length_drop] at hi
 rw [mQ]
 have := hn (y.bins.length + i) (by omega)
 rw [Eu (by omega), EX (by omega)] at this
 have hb := (hr.move _ (cT (show i < y.moves.length by omega))).2.2.2.2.1
 omega
theorem Mo (hr : y.bw) : rP (cm y) (dI y) (dW y k) := by
 unfold dW
 split
 ·rename_i h; exact (tq (gR hr) h).1
 exact Fy (gR hr)
theorem xO (hr : y.bw) : lT y (jP y k) := Cr hr (Mo hr)
theorem JT (h : dm y (fun _ => false) a) : rP (cm y) (dI y) (a.first ++ a.bY) := by
 have h1 := h.lens.first
 have h2 := h.lens.bY
 refine Fw (by rw [gu, nO]) (by rw [List.length_append, gu]; omega) fun i hi => ?_
 rw [gu] at hi
 by_cases c : i < y.bins.length
 ·rw [Dw c, Ds c, gk (by omega)]; exact h.first i c
 obtain ⟨j, rfl⟩ : ∃ j, i = y.bins.length + j := ⟨i - y.bins.length, by omega⟩
 rw [Eu (by omega), EX (by omega), ← h1, kO]
 exact h.bY j (by omega)
theorem Hw (h : yH y a) : eE y (a.first ++ a.bY) = a := by
 unfold eE
 rw [← h.first, List.take_left, List.drop_left]
theorem LC (hr : y.bw) (h : dm y (fun _ => false) a) : ∃ k, k < dH (cm y) (dI y) ∧ jP y k = a := by
 have hb := JT h
 refine ⟨_, oG hb, ?_⟩
 unfold jP dW
 rw [if_pos (oG hb), xS (gR hr) hb, Hw h.lens]
theorem nY (hr : y.bw) : eR y a = 0 ↔ dm y (fun _ => true) a := by
 have := G9 (a := a) hr
 constructor
 ·intro h; rw [decide_eq_true h] at this; exact Mp this.symm
 intro h; rw [zm h] at this; exact of_decide_eq_true this
theorem MH (hr : y.bw) : eR y a < 256 := by
 by_cases c : dm y (fun _ => false) a
 ·rw [← wL c]
  have := (qu (y := y) (a := a) y.levels.length).2
  have := IW y.levels.length hr.levels
  omega
 rw [← sk c]; omega
theorem IK (h : dm y (fun _ => true) a) : dm y (fun _ => false) a := ⟨h.lens, h.first, h.cont, h.bY, fun _ _ hc => by cases hc⟩
theorem wH (hr : y.bw) {s : pM → Span} {v : dF → Int} (h1 : ∀ a f, f.Shape y → s (su y a f) = j7 (s f) (v a) f.fits) (h2 : ∀ a f, s (kB y a f) = s f) :
 ((jJ y).fits = true ↔ ∃ a, dm y (fun _ => true) a) ∧ ((jJ y).fits = true → ve y (fun _ => true) v (s (jJ y))) := by
 have key := Fa (good := fun k => eR y (jP y k) = 0) (v := fun k => v (jP y k)) (s := fun k => s (eM y k)) (is := fun k => (eM y k).fits) (n := dH (cm y) (dI y)) rfl
  (fun k _ hg => by
   show (vU y (jP y k) (eM y k)).fits = true ∧ s (vU y (jP y k) (eM y k)) = _
   rw [← wU hg]
   exact ⟨rfl, by rw [h1 _ _ (oZ (mJ k)), h2]; rfl⟩)
  (fun k _ hg => by
   show (vU y (jP y k) (eM y k)).fits = _ ∧ s (vU y (jP y k) (eM y k)) = _
   by_cases c : eR y (jP y k) < 0
   ·rw [← Ax c]; exact ⟨rfl, rfl⟩
   rw [← uK c hg]; exact ⟨rfl, h2 _ _⟩)
  _ (Nat.le_refl _)
 obtain ⟨k1, k2⟩ := key
 have num : ∀ {a}, dm y (fun _ => true) a → ∃ j, j < dH (cm y) (dI y) ∧ eR y (jP y j) = 0 ∧ jP y j = a := fun {a} h => by
  obtain ⟨j, hj, ej⟩ := LC hr (IK h)
  exact ⟨j, hj, by rw [ej]; exact (nY hr).2 h, ej⟩
 refine ⟨k1.trans ⟨fun ⟨j, _, hj⟩ => ⟨_, (nY hr).1 hj⟩, fun ⟨a, h⟩ => ?_⟩, fun h => ?_⟩
 ·obtain ⟨j, hj, g, _⟩ := num h; exact ⟨j, hj, g⟩
 obtain ⟨⟨i, _, gi, ei⟩, ⟨j, _, gj, ej⟩, hall⟩ := k2 h
 refine ⟨⟨_, (nY hr).1 gi, ei⟩, ⟨_, (nY hr).1 gj, ej⟩, fun a ha => ?_⟩
 obtain ⟨k, hk, g, e⟩ := num ha
 have := hall k hk g
 rw [e] at this; exact this
theorem l9 : (jJ y).Shape y := mJ _
theorem L8 (hr : y.bw) (hb : b < y.bins.length) (ht : t ≤ y.D) : (jJ y).fits = true → ve y (fun _ => true) (fun a => cx y a b t) (nth (nth (jJ y).bins b) t) :=
 (wH hr (s := fun f => nth (nth f.bins b) t) (v := fun a => cx y a b t) (fun a f _ => by
  show nth (nth (kG y a f (y.D + 1) 0) b) t = _
  rw [Az hb ht, if_pos (.inl (by omega)), jM]) (fun _ _ => rfl)).2
theorem Mk (hr : y.bw) (ht : t ≤ y.D) : (jJ y).fits = true → ve y (fun _ => true) (fun a => cw (fun b => cx y a b t) y.bins.length) (nth (jJ y).whole t) :=
 (wH hr (s := fun f => nth f.whole t) (v := fun a => cw (fun b => cx y a b t) y.bins.length) (fun a f _ => by
  show nth (pF y a f (y.D + 1)) t = _
  unfold pF
  rw [eH _ (by omega), if_pos (by omega)]
  unfold sN
  rw [eX fun b _ => jM]) (fun _ _ => rfl)).2
theorem Mb (hr : y.bw) (hi : i < y.moves.length) : (jJ y).fits = true → ve y (fun _ => true) (fun a => nth a.bY i) (nth (jJ y).moves i) :=
 (wH hr (s := fun f => nth f.moves i) (v := fun a => nth a.bY i) (fun a f _ => by
  show nth (pP y a f y.moves.length) i = _
  unfold pP
  rw [eH _ hi, if_pos hi]) (fun _ _ => rfl)).2
theorem Bs (hr : y.bw) : (jJ y).fits = true ↔ ∃ a, dm y (fun _ => true) a :=
 (wH hr (s := fun f => nth (nth f.bins 0) 0) (v := fun a => cx y a 0 0) (fun a f _ => by
  show nth (nth (kG y a f (y.D + 1) 0) 0) 0 = _
  rw [Az (by have := hr.bins; omega) (Nat.zero_le _), if_pos (.inl (by omega)), jM]) (fun _ _ => rfl)).1
end
end Go.Proofs.YtelbollidfdcjaaGreat
namespace Go.T
open Go Go.RowKit
theorem KN {α : Type} {E : El α} (hs : E.size = 1) {xs ys : List α} {o n i : Nat} {t : Ty} (he : (xs.drop o).take n = ys) (hi : (ys.flatMap E.tys)[i]? = some t) : i < n ∧ (xs.flatMap E.tys)[o + i]? = some t := by
 subst he
 rw [(w5 hs (xs.drop o) n).1, (w5 hs xs o).2] at hi
 have hlt : i < n := by
  have := (List.getElem?_eq_some_iff.1 hi).1
  rw [List.length_take] at this; omega
 rw [List.getElem?_take, if_pos hlt, List.getElem?_drop] at hi
 exact ⟨hlt, hi⟩
theorem qn {A : As} {L : List Nat} {α : Type} {E : El α} {T tg o n r : Nat} {xs ys : List α} (hc : A.tag tg = some (.vec E T xs)) (hs : E.size = 1) (he : (xs.drop o).take n = ys) (hn : o + n ≤ xs.length) (h1 : fu tg) (hL : L.contains tg = true) : rM A L (.win tg o n r) (.sl E ys) := fun w M v wf ht hd => by
 have hL' : tg ∈ L := by simpa using hL
 have hv : fo E T xs w M tg := ht _ (cj hc) hL'
 obtain ⟨b, o', c, hb, e, g1, g2, g3⟩ := hd
 have hyl : ys.length = n := by rw [← he, List.length_take, List.length_drop]; omega
 subst hyl
 refine ⟨_, c, e, by omega, g2, fun hpos => ⟨b, o', rfl, A3 hb hL', wf.lt b _ hb, fun i t hi => ?_⟩⟩
 obtain rfl := g3 (by omega)
 obtain ⟨_, hi'⟩ := KN hs he hi
 obtain ⟨u, hu, hdu⟩ := nk wf h1 hb hv hi'
 refine ⟨u, hu, t.mono (S := fun _ => True) (K := fun _ => True) (w := w) ⟨Nat.le_refl _, rfl, rfl, rfl, fun b _ hm => ⟨jj hm, rfl⟩, fun b t _ h => absurd trivial h⟩ ?_ ?_ hdu⟩
 ·intro u hu
  have : u ∈ cD (xs.flatMap E.tys) := List.mem_flatMap.2 ⟨t, List.mem_of_getElem? hi', hu⟩
  rw [E.cY] at this; cases this
 intro u hu
 have : u ∈ bl (xs.flatMap E.tys) := List.mem_flatMap.2 ⟨t, List.mem_of_getElem? hi', hu⟩
 rw [E.cS] at this; cases this
theorem LP {ρ : List (Nat × Nat)} {a b o n r : Nat} (h : (a, b) ∈ ρ) : Conv ρ (.win a o n r) (.win b o n r) := fun _ _ _ _ _ _ hre ⟨k, o', c, hk, e⟩ => ⟨k, o', c, hre.some _ h k hk, e⟩
theorem Dc {α : Type} {E : El α} {T J J' : Nat} {w : World} {M M' : bD} (h1 : ∀ b, M b = some J → M' b = some J') (h2 : ∀ b, M b = none → M' b = none) : ∀ {q : List (List α)} {vs : List Value}, cF w M (q.map fun x => Ty.fj E T J x) vs → cF w M' (q.map fun x => Ty.fj E T J' x) vs
  | [], [], _ => trivial
  | _ :: _, _ :: _, ⟨h, hs⟩ => ⟨h.imp id fun ⟨g, off, c, cur, e, hg, hh, m1, m2, m3, m4⟩ => ⟨g, off, c, cur, e, h1 g hg, hh, m1, m2, m3, g8 h2 (E.cY _) (E.cS _) m4⟩, Dc h1 h2 hs⟩
theorem Iv {ρ : List (Nat × Nat)} {a b T2 T J J' : Nat} {α : Type} {E : El α} {q q' : List (List α)} (h : (a, b) ∈ ρ) (h' : (J, J') ∈ ρ) (e : q = q') : p6 ρ a (.mx E T2 T J q) b (.mx E T2 T J' q') := fun _ _ _ _ _ hre ⟨g, cs, h1, h2, h3, h4⟩ => by
 subst e
 exact ⟨g, cs, hre.some _ h g h1, h2, Dc (fun k hk => hre.some _ h' k hk) hre.none h3, h4⟩
def zq.Ef {α : Type} (ER : El (List α)) (E : El α) (Ti : Nat) (hE : ∀ x, ER.tys x = [Ty.sl E x]) (hs : ER.size = 1) : zq (List α) where
  E := ER
  own J x := [Ty.row E Ti J x]
  olen _ _ := hs.symm
  deps J x u hu := by simpa [cD, Ty.row] using hu
  cdeps J x u hu := by simpa [bl, Ty.row] using hu
  oones _ _ := rfl
  qz J x w M M' vs wf h1 h2 h := by
    rw [hE x]
    match vs, h with
    | [_], ⟨b, _⟩ => exact ⟨yU wf b h1 h2, trivial⟩
  ren J J' x w M M' vs h1 h2 h := by
    match vs, h with
    | [_], ⟨b, _⟩ => exact ⟨yL b h1 h2, trivial⟩
  mine J x w M vs h g hg := by
    match vs, h with
    | [v2], ⟨⟨_, _, _, hM⟩, _⟩ =>
      cases e2 : v2.ownBlock with
      | none => simp [e2] at hg
      | some b => simp [e2] at hg; subst hg; exact hM _ e2
theorem BO {α : Type} {E : El α} {tg J Ti : Nat} {sh : List α} : JR tg J [Ty.row E Ti tg sh] [Ty.row E Ti J sh] := fun w M vs h => by
  match vs, h with
  | [v2], ⟨b, _⟩ =>
    obtain ⟨cs, h1, h2, hM⟩ := id b
    refine ⟨⟨yL b (fun k hk => by simp [mV, hk]) (fun k hk => by simp [mV, hk]), trivial⟩, ?_, fun g hg => ?_⟩
    · cases e2 : v2.ownBlock <;> simp [e2]
    · cases e2 : v2.ownBlock with
      | none => simp [e2] at hg
      | some b => simp [e2] at hg; subst hg; exact hM _ e2
theorem Ty.Ng {α : Type} {E : zq α} {T tg J n : Nat} {xs : List α} (hn : xs.length = n) : (Ty.ya E T tg J xs).Sub (Ty.vs tg n) := fun w M v ⟨cs, h1, h2, _, h3⟩ => by
 subst hn
 rcases h1.2 with ⟨e, h0⟩ | ⟨g, cap, cur, ex, _, hh, hn1, hcap, _, htk⟩
 ·exact .inl ⟨h0, e⟩
 exact .inr ⟨g, cap, h3 g (by rw [ex]; rfl), ex, hn1, hcap⟩
theorem Ie {α : Type} {E : El α} {T J : Nat} {xs : List α} {w : World} {M : bD} {v : Value} (h : gC E T J xs w M v) : ug E T J xs w M v := by
 obtain ⟨cs, h1, h2, h3⟩ := h
 rcases h1.2 with ⟨e, h0⟩ | ⟨g, cap, cur, ex, _, hh, hn1, hcap, hsz, htk⟩
 ·exact .inl ⟨List.length_eq_zero_iff.1 h0, e⟩
 refine .inr ⟨g, 0, cap, cur, ex, h3 g (by rw [ex]; rfl), hh, hn1, hcap, by omega, ?_⟩
 rw [List.drop_zero, htk]; exact h2
theorem E0 {size : Nat} {v : Value} {g e : Nat} (h : jt size v = some (g, e)) : v.ownBlock = some g := by
  cases v with
  | slice a n c =>
    cases a with
    | none => simp [jt] at h
    | some a => simp [jt] at h; simp [Value.ownBlock, h.1]
  | _ => simp [jt] at h
theorem vO {size : Nat} : ∀ {cs : List Value}, (cs.filterMap Value.ownBlock).Nodup → zy size cs
  | [], _, i, _, _, _, _, _, _, hi, _, _, _ => by simp at hi
  | c :: cs, h, i, j, v, u, g, e, e', hi, hj, hv, hu => by
    have hv' := E0 hv
    have hu' := E0 hu
    have mem : ∀ {x : Value} {k : Nat}, cs[k]? = some x → x.ownBlock = some g → g ∈ cs.filterMap Value.ownBlock := fun hk hx => List.mem_filterMap.2 ⟨_, List.mem_of_getElem? hk, hx⟩
    have hcs : (cs.filterMap Value.ownBlock).Nodup := by
      rw [List.filterMap_cons] at h
      split at h
      · exact h
      · exact (List.nodup_cons.1 h).2
    have hno : ∀ {k : Nat} {x : Value}, c.ownBlock = some g → cs[k]? = some x → x.ownBlock = some g → False := fun hc hk hx => by
      rw [List.filterMap_cons, hc] at h
      exact (List.nodup_cons.1 h).1 (mem hk hx)
    cases i with
    | zero =>
      simp only [List.getElem?_cons_zero, Option.some.injEq] at hi
      subst hi
      cases j with
      | zero => rfl
      | succ j => rw [List.getElem?_cons_succ] at hj; exact (hno hv' hj hu').elim
    | succ i =>
      rw [List.getElem?_cons_succ] at hi
      cases j with
      | zero =>
        simp only [List.getElem?_cons_zero, Option.some.injEq] at hj
        subst hj
        exact (hno hu' hi hv').elim
      | succ j =>
        rw [List.getElem?_cons_succ] at hj
        rw [vO hcs i j v u g e e' hi hj hv hu]
section
variable {P : Program} {fr : Fr} {A : As} {c : Code} {Q : Exit → Act → World → Prop}
theorem Jz {α : Type} {ER : El (List α)} {E : El α} {T T2 J tg c0 Tc : Nat} {l : List Ty} {q : List (List α)} {hE : ∀ x, ER.tys x = [Ty.sl E x]} {hs : ER.size = 1} (i : Nat) (hc : A.tag c0 = some (.cells Tc l)) (hi : l[i]? = some (.ya (zq.Ef ER E T hE hs) T2 tg J q)) (hq : 0 < q.length)
    (h : fS P fr c ⟨A.slots, (tg, .mx E T2 T J q) :: A.tags⟩ Q) : fS P fr c A Q := fun a w ⟨M, ok, hsl, ht⟩ => by
  refine h a w ⟨M, ok, hsl, fun x hx => ?_⟩
  rcases List.mem_cons.1 hx with rfl | hx
  · obtain ⟨b, cs, hb, hh, hd⟩ := ht _ (cj hc)
    obtain ⟨v, _, ⟨ds, h1, h2, h4, h3⟩⟩ := dc hd i _ hi
    have key : ∀ (q : List (List α)) (vs : List Value), cF w M (q.flatMap fun x => [Ty.row E T J x]) vs → cF w M (q.map fun x => Ty.fj E T J x) vs := by
      intro q
      induction q with
      | nil => intro vs h; exact h
      | cons x q ih =>
        intro vs h
        match vs, h with
        | v :: vs, ⟨h1, h2⟩ => exact ⟨Ie h1, ih vs h2⟩
    rcases h1.2 with ⟨e, h0⟩ | ⟨g, cap, cur, ex, _, hh, hn1, hcap, _, htk⟩
    · omega
    · have hg : M g = some tg := h3 g (by rw [ex]; rfl)
      have e1 : (zq.Ef ER E T hE hs).E.size = 1 := hs
      rw [e1, Nat.mul_one] at htk
      exact ⟨g, cur, hg, hh, by rw [htk]; exact key q ds h2, by rw [htk]; exact vO h4⟩
  · exact ht x hx
end
section
variable {P : Program} {fr : Fr} {ops : Array Oper} {A : As} {rest : List Oper} {K : As → List (As × Fx) → Prop} {d : Nat} {t ty' : TypeId} {p : String} {e : Array Edge} [T : lM P]
theorem uh {x y : Operand} {kd : IntKind} {tg o n r j el : Nat} {ti te : TI} (hx : A.op fr x = .win tg o n r) (hy : A.op fr y = .int kd j) (hT : T.eV[ty']? = some ti) (hk : ti.k = .slice el) (hE : T.eV[el]? = some te) (hs : te.size = 1) (hj : j < n)
 (h : ay P fr ops rest (A.set d (.ptr tg (o + j))) fun A' l' => K A' ((A, { d := some d, ty := .ptr tg (o + j), rs := cI x ++ cI y }) :: l')) : ay P fr ops (⟨some d, .indexAddr ty' x y, t, p, e, none⟩ :: rest) A K :=
 bK (bZ rfl rfl fun a w M _ hr _ => by
  obtain ⟨hdx, hdy⟩ := op2 hr
  rw [hx] at hdx; rw [hy] at hdy
  have ey : a.eval y = .int kd j := hdy
  obtain ⟨b, o', c, hb, ex, g1, g2, g3⟩ := hdx
  obtain rfl := g3 (by omega)
  exact ⟨_, by simp only [execOp, ex, ey, Sem.run_bind, iP hT hk hE (Int.natCast_nonneg j) (show (j : Int).toNat < n from hj)]; rfl, b, hb, by simp [hs]⟩) h
theorem M8 {α : Type} {E : El α} {x0 : α} {x y : Operand} {k k' : IntKind} {n : Int} {el : Nat} {ti te : TI} (hx : A.op fr x = .int k n) (hy : A.op fr y = .int k' n) (hT : T.eV[ty']? = some ti) (hk : ti.k = .slice el) (hE : T.eV[el]? = some te) (hs : te.size = E.size) (hz : te.zero.map Ty.jk = E.tys x0) (hzp : 0 < te.size) (hp : fr.pass.contains (d + 1) = false)
    (hn : 0 ≤ n) (hlen : (te.bytes : Int) * n ≤ 281474976710656) (hlen' : n ≤ 9223372036854775807)
    (h : ay P fr ops rest (A.after { d := some d, ty := .row E el (d + 1) (List.replicate n.toNat x0), K := [d + 1], rs := cI x ++ cI y }) fun A' l' => K A' ((A, { d := some d, ty := .row E el (d + 1) (List.replicate n.toNat x0), K := [d + 1], rs := cI x ++ cI y }) :: l')) :
    ay P fr ops (⟨some d, .makeSlice ty' x y, t, p, e, none⟩ :: rest) A K := by
  refine ⟨_, gB rfl rfl (by simp) (by simp) (by simp at hp ⊢; exact hp) fun a w M wf hr _ => ?_, h⟩
  obtain ⟨hdx, hdy⟩ := op2 hr
  rw [hx] at hdx; rw [hy] at hdy
  have ex : a.eval x = .int k n := hdx
  have ey : a.eval y = .int k' n := hdy
  obtain ⟨_, D, _, hD, hkd, _⟩ := dB hT
  rw [hk] at hkd
  cases D <;> simp only [TK.of, reduceCtorEq, TK.slice.injEq] at hkd
  rename_i el0
  have hel : el0 = el := hkd
  subst hel
  obtain ⟨i, _, hi, _, _, hsz, hby, hze⟩ := dB hE
  have hzl : te.zero.length = te.size := by rw [← List.length_map (f := Ty.jk), hz, E.len, hs]
  obtain ⟨z, hiz⟩ : ∃ z, i.zero = some z := by
    cases hiz : i.zero with
    | none => rw [hiz] at hze; rw [← hze] at hzl; simp at hzl; omega
    | some z => exact ⟨z, rfl⟩
  rw [hiz] at hze
  have hrun := run_make (P := P) w ty' _ i z hD hi hiz k k' n n hn (Int.le_refl _) (by rw [hby]; exact hlen) hlen'
  obtain ⟨h1, h2, h3⟩ := j9 wf (.cells (madeCells z.cells (n.toNat * i.size)) el0) (d + 1)
  refine ⟨.slice (some ⟨w.heap.size, 0, none⟩) n.toNat n.toNat, _, by simp [execOp, ex, ey, hrun], _, h1, h2, ?_, by simp⟩
  have hzs : z.cells.size = te.size := by rw [← hzl, ← hze]; simp
  have hcl : (madeCells z.cells (n.toNat * i.size)).size = n.toNat * E.size := by simp [madeCells, hsz, hs]
  refine ⟨(madeCells z.cells (n.toNat * i.size)).toList, ⟨by rw [Array.length_toList, hcl, List.length_replicate], .inr ⟨w.heap.size, n.toNat, _, by rw [List.length_replicate], Nat.zero_le _, gq _ _, by rw [List.length_replicate]; exact Nat.le_refl _, by simp only [maxLen]; omega, hcl, ?_⟩⟩, ?_, fun b hb => ?_⟩
  · rw [List.length_replicate]
    exact List.take_of_length_le (by rw [Array.length_toList, hcl]; exact Nat.le_refl _)
  · refine fm (by rw [dA, List.length_replicate, Array.length_toList, hcl]) fun j ty hj => ?_
    have hjl : j < n.toNat * te.size := by
      have := (List.getElem?_eq_some_iff.1 hj).1
      rw [dA, List.length_replicate, ← hs] at this; exact this
    have hq : j / te.size < n.toNat := Nat.div_lt_of_lt_mul (by rw [Nat.mul_comm]; exact hjl)
    have hm : j % te.size < te.size := Nat.mod_lt _ hzp
    have hget := pW E (List.replicate n.toNat x0) (j / te.size) (j % te.size) (by simpa using hq) (by rw [← hs]; exact hm)
    have hdecomp : j / te.size * E.size + j % te.size = j := by rw [← hs, Nat.mul_comm]; exact Nat.div_add_mod j te.size
    rw [hdecomp, hj] at hget
    simp only [List.getElem?_replicate, hq, if_true, Option.bind_some] at hget
    rw [← hz, List.getElem?_map] at hget
    obtain ⟨u, hu, hty⟩ := Option.map_eq_some_iff.1 hget.symm
    refine ⟨u, ?_, hty ▸ kf _ _ _⟩
    have hu' : z.cells[j % z.cells.size]? = some u := by rw [hzs]; rw [← hze] at hu; simpa using hu
    simp only [madeCells, Array.toList_map, List.getElem?_map, Array.toList_range, hsz]
    rw [List.getElem?_range (by omega)]
    simp only [Option.map_some]
    rw [getElem!_def, hu']
  · simp only [Value.ownBlock, Option.some.injEq] at hb
    subst hb
    exact h3
theorem qF {α : Type} [Inhabited α] {E : El α} {xs : List α} {x : Operand} {tg off Tb : Nat} {ti : TI} {ty : Ty} (i o : Nat) (hx : A.op fr x = .ptr tg off) (he : off = i * E.size + o) (hc : A.tag tg = some (.vec E Tb xs)) (h1 : fu tg) (hT : T.eV[ty']? = some ti) (ha : ti.k.agg = false) (hi : i < xs.length) (hl : (E.tys (nth xs i))[o]? = some ty)
 (h : ay P fr ops rest (A.set d ty) fun A' l => K A' ((A, { d := some d, ty := ty, rs := cI x, rt := [tg] }) :: l)) : ay P fr ops (⟨some d, .load ty' x, t, p, e, none⟩ :: rest) A K :=
 w7 (by rw [hx, he]) hc h1 hT ha hi hl h
theorem oD {α : Type} [Inhabited α] {E : El α} {xs : List α} {x y : Operand} {tg off Tb : Nat} {ti : TI} {ty : Ty} {z : α} (i o : Nat) (hx : A.op fr x = .ptr tg off) (he : off = i * E.size + o) (hc : A.tag tg = some (.vec E Tb xs)) (h1 : fu tg) (hT : T.eV[ty']? = some ti) (hsz : ti.size = 1) (hy : A.op fr y = ty) (ho : ty.one = true) (hi : i < xs.length) (hoe : o < E.size)
 (hdt : kL ty.cdeps [tg] = true) (hl : (E.tys (nth xs i)).set o ty = E.tys z)
 (h : ay P fr ops rest (A.after { d := none, S := [tg], sets := [(tg, .vec E Tb (xs.set i z))], rs := cI x ++ cI y, rt := [tg] }) fun A' l'' => K A' ((A, { d := none, S := [tg], sets := [(tg, .vec E Tb (xs.set i z))], rs := cI x ++ cI y, rt := [tg] }) :: l'')) :
 ay P fr ops (⟨none, .store ty' x y, t, p, e, none⟩ :: rest) A K :=
 mZ (by rw [hx, he]) hc h1 hT hsz hy ho hi hoe hdt hl h
variable {α : Type} {E : El α} {Tb J tg i : Nat} {q : List (List α)} {xs : List α}
theorem Eg [Inhabited α] {x : Operand} {k j : Nat} {ti : TI} (hx : A.op fr x = .me E Tb tg J i xs k) (hk : k = j * E.size) (hT : T.eV[ty']? = some ti) (ha : ti.k.agg = true) (hsz : ti.size = E.size) (hj : j < xs.length)
 (h : ay P fr ops rest (A.set d (.agg (E.tys (nth xs j)))) fun A' l => K A' ((A, { d := some d, ty := .agg (E.tys (nth xs j)), rs := cI x }) :: l)) : ay P fr ops (⟨some d, .load ty' x, t, p, e, none⟩ :: rest) A K :=
 bK (bZ rfl rfl fun a w M wf hr ht => by
  have hdx := cU (x := x) (fun _ h => h) hr
  rw [hx] at hdx
  obtain ⟨u, g, off, n, c, ⟨h1, _⟩, eu, ex⟩ := hdx
  rcases h1 with ⟨h0, _⟩ | ⟨g', off', c', cur, ex', hg, hh, hn, _, _, hd⟩
  ·subst h0; simp at hj
  rw [eu] at ex'
  simp only [Value.slice.injEq, Option.some.injEq, Addr.mk.injEq, and_true] at ex'
  obtain ⟨⟨rfl, rfl⟩, rfl, rfl⟩ := ex'
  obtain ⟨cs, g1, g2, g3⟩ := rN (l := E.tys (nth xs j)) (b := g) (q := off + j * E.size) (off := 0) (n := ti.size) (m := E.tys (nth xs j)) (fun o t ho => zT hh hd hj ho) (by rw [List.drop_zero, hsz, ← E.len (nth xs j), List.take_length]) (by rw [E.len, hsz])
  subst hk
  exact ⟨.agg cs.toArray, by simp only [execOp, ex]; rw [Sem.run_bind, iQ (off := off + j * E.size) hT ha g1 (by simpa using g3)]; rfl, cs.toArray, rfl, by simpa using g2⟩) h
theorem lq {x y : Operand} {kd : IntKind} {tg o n r el : Nat} {j : Int} {ti te : TI} (hx : A.op fr x = .win tg o n r) (hy : A.op fr y = .int kd j) (hT : T.eV[ty']? = some ti) (hk : ti.k = .slice el) (hE : T.eV[el]? = some te) (hs : te.size = 1) (h0 : 0 ≤ j) (hj : j.toNat < n)
 (h : ay P fr ops rest (A.set d (.ptr tg (o + j.toNat))) fun A' l' => K A' ((A, { d := some d, ty := .ptr tg (o + j.toNat), rs := cI x ++ cI y }) :: l')) : ay P fr ops (⟨some d, .indexAddr ty' x y, t, p, e, none⟩ :: rest) A K :=
 uh (j := j.toNat) hx (by rw [hy, Int.toNat_of_nonneg h0]) hT hk hE hs hj h
theorem Bm {x y : Operand} {k j T2 : Nat} {ti : TI} {z : α} (hx : A.op fr x = .me E Tb tg J i xs k) (hk : k = j * E.size) (hc : A.tag tg = some (.mx E T2 Tb J q)) (h1 : fu tg) (hT : T.eV[ty']? = some ti) (hsz : ti.size = E.size) (hy : A.op fr y = .agg (E.tys z)) (hi : i < q.length) (hj : j < xs.length) (hJ : 4096 ≤ J)
 (h : ay P fr ops rest (A.after { d := none, S := [tg, J], sets := [(tg, .mx E T2 Tb J (q.set i (xs.set j z)))], rs := cI x ++ cI y, rt := [tg] }) fun A' l'' => K A' ((A, { d := none, S := [tg, J], sets := [(tg, .mx E T2 Tb J (q.set i (xs.set j z)))], rs := cI x ++ cI y, rt := [tg] }) :: l'')) :
 ay P fr ops (⟨none, .store ty' x y, t, p, e, none⟩ :: rest) A K := by
 refine ⟨_, mP rfl rfl rfl (by simp) (by simp; exact ⟨h1.1, by omega⟩) (by simp) fun a w M wf hr ht => ?_, h⟩
 subst hk
 obtain ⟨hdx, hdy⟩ := op2 hr
 rw [hx] at hdx; rw [hy] at hdy
 obtain ⟨u, g, off, n, c, ⟨hrow, hlk⟩, eu, ex⟩ := hdx
 obtain ⟨vs, ey, hvs⟩ := hdy
 have hcont : PZ E T2 Tb J q w M tg := ht _ (cj hc) (by simp)
 have hown := Oj wf h1 hi hcont hlk
 obtain ⟨b, cs, hb, hhb, hvals, hap⟩ := hcont
 rcases hrow with ⟨h0, _⟩ | ⟨g', off', c', cur, ex', hg, hh, hn, hcm, hfit, hd⟩
 ·subst h0; simp at hj
 have eu2 := eu
 rw [ex'] at eu2
 simp only [Value.slice.injEq, Option.some.injEq, Addr.mk.injEq, and_true] at eu2
 obtain ⟨⟨rfl, rfl⟩, rfl, rfl⟩ := eu2
 have hvl : vs.size = E.size := by have := cX hvs; rw [E.len] at this; simpa using this
 have hkx : j * E.size + E.size ≤ xs.length * E.size := by
  have : (j + 1) * E.size ≤ xs.length * E.size := Nat.mul_le_mul_right _ hj
  rw [Nat.succ_mul] at this; omega
 have hcx : xs.length * E.size ≤ c' * E.size := Nat.mul_le_mul_right _ hn
 have hones : ∀ v ∈ vs.toList, v.oneCell' = true := kU hvs (fun t ht => mE E [z] t (by simpa using ht))
 have hst := run_storeCells_at (P := P) g' (off' + j * E.size) Tb vs.toList 0 cur w hh (by simp [hvl]; omega) hones
 rw [oo _ hh] at hst
 obtain ⟨cur', ecur⟩ : ∃ cur' : Array Value, cur' = (cur.toList.take (off' + j * E.size + 0) ++ vs.toList ++ cur.toList.drop (off' + j * E.size + 0 + vs.toList.length)).toArray := ⟨_, rfl⟩
 rw [← ecur] at hst
 obtain ⟨h1', h2', h3'⟩ := lI (cs' := cur') (Tb := Tb) wf hg _ rfl
 have hgb : g' ≠ b := fun e => by
  rw [e, hb] at hg; injection hg with hg
  have := h1.2; omega
 have hvl' : vs.toList.length = E.size := by rw [Array.length_toList, hvl]
 have hcl : cur.toList.length = cur.size := Array.length_toList
 have hsz' : cur'.size = cur.size := by
  have : cur'.toList.length = cur.toList.length := by
   rw [ecur]
   show (_ ++ _ ++ _ : List Value).length = _
   rw [List.length_append, List.length_append, List.length_take, List.length_drop, hvl']; omega
  simpa using this
 have le : Le (· ∈ [tg, J]) (· ∈ ([] : List Nat)) w M { w with heap := w.heap.setIfInBounds g' (.cells cur' Tb (0, 0)) } M :=
  h2'.weaken (fun u hu => by simp only [List.mem_singleton] at hu; subst hu; simp) (fun _ h => by cases h)
 have hoth : ∀ k2, k2 ≠ g' → (w.heap.setIfInBounds g' (.cells cur' Tb (0, 0)))[k2]? = w.heap[k2]? := fun k2 hne => by
  rw [Array.getElem?_setIfInBounds_ne (Ne.symm hne)]
 refine ⟨_, ?_, M, h1', le, trivial, ?_⟩
 ·simp only [execOp, Instr.storeAt, Instr.sureAddr, ex, ey, storeVar, Value.cells, dQ hT, Sem.run_bind, Sem.run_pure, Result.andThen_ok, hsz, hvl, hst]
  simp [hst]
 intro z' hz'
 simp only [List.mem_singleton] at hz'
 subst hz'
 refine ⟨b, cs, hb, (hoth b (Ne.symm hgb)).trans hhb, ?_, by rw [List.length_set]; exact hap⟩
 rw [List.length_set]
 refine fm (by rw [cX hvals, List.length_map, List.length_map, List.length_set]) fun j2 ty2 hj2 => ?_
 rw [List.getElem?_map] at hj2
 obtain ⟨qe, hqe, rfl⟩ := Option.map_eq_some_iff.1 hj2
 rw [List.getElem?_set] at hqe
 by_cases hji : i = j2
 ·subst hji
  rw [if_pos rfl, if_pos hi] at hqe
  injection hqe with hqe
  subst hqe
  obtain ⟨b', cs', T', k1, k2, k3⟩ := hlk
  obtain ⟨uu, hu'⟩ : ∃ u, tg = u + 1 := ⟨tg - 1, by have := h1.1; omega⟩
  have : b = b' := wf.inj b b' uu (by have := h1.2; omega) (hu' ▸ hb) (hu' ▸ k1)
  subst this
  rw [hhb] at k2
  injection k2 with k2
  injection k2 with k2 _
  subst k2
  refine ⟨u, by rw [List.getElem?_take, if_pos hi]; exact k3, .inr ⟨g', off', c', cur', by rw [List.length_set]; exact ex', hg, h3', by rw [List.length_set]; exact hn, hcm, by rw [hsz']; exact hfit, ?_⟩⟩
  have hN : (xs.flatMap E.tys).length = xs.length * E.size := dA E xs
  have hp := FC (ys := [z]) (vs := vs.toList) (i := j) (cur := cur.toList.drop off') (xs := xs) (w := w) (M := M) (by rw [hN]; exact hd) (by simpa using hvs) (by show j + 1 ≤ _; omega)
  rw [zG hj, dA, List.length_set, hvl'] at hp
  rw [List.length_set]
  have e1 : cur'.toList.drop off' = (cur.toList.drop off').take (j * E.size) ++ vs.toList ++ (cur.toList.drop off').drop (j * E.size + E.size) := by
   rw [ecur]
   show (_ ++ _ ++ _ : List Value).drop off' = _
   rw [List.append_assoc, List.drop_append_of_le_length (by rw [List.length_take]; omega), List.drop_take, List.drop_drop, hvl', ← List.append_assoc]
   congr 2
   ·congr 1; omega
   omega
  rw [e1]
  exact bz h2' (by rw [E.cY]; intro _ h; cases h) (by rw [E.cS]; intro _ h; cases h) hp
 rw [if_neg hji] at hqe
 obtain ⟨u2, hu2, hdu⟩ := dc hvals j2 (Ty.fj E Tb J qe) (by rw [List.getElem?_map, hqe]; rfl)
 refine ⟨u2, hu2, ?_⟩
 rcases hdu with h | ⟨g2, off2, c2, cur2, e2, hg2, hh2, m1, m2, m3, m4⟩
 ·exact .inl h
 have hgg : g2 ≠ g' := fun e => by
  obtain ⟨b', cs', T', k1, k2, k3⟩ := hown g' (off' + xs.length * E.size) (by rw [ex']; rfl)
  obtain ⟨uu, hu'⟩ : ∃ u, tg = u + 1 := ⟨tg - 1, by have := h1.1; omega⟩
  have : b = b' := wf.inj b b' uu (by have := h1.2; omega) (hu' ▸ hb) (hu' ▸ k1)
  subst this
  rw [hhb] at k2
  injection k2 with k2
  injection k2 with k2 _
  subst k2
  exact hji (k3 j2 u2 (off2 + qe.length * E.size) hu2 (by rw [e2, e]; rfl)).1.symm
 exact .inr ⟨g2, off2, c2, cur2, e2, hg2, (hoth g2 hgg).trans hh2, m1, m2, m3, bz h2' (by rw [E.cY]; intro _ h; cases h) (by rw [E.cS]; intro _ h; cases h) m4⟩
end
end Go.T
namespace Go.Proofs.YtelbollidfdcjaaGreat
open Go Go.T
set_option maxHeartbeats 8000000
def rX (y : aj) (is : Bool) (b m w x : Nat) : List Ty := [Ty.bool is, Ty.vs b y.bins.length, Ty.vs m y.moves.length, Ty.vs w (y.D + 1), Ty.vs x 256]
section
variable {y : aj} {a : dF} {f : pM} {s : Span} {n : Int} {is : Bool} {t k b i : Nat}
theorem Oy (h : (!is) = true) : (⟨n, n⟩ : Span) = j7 s n is := by
 unfold j7; rw [if_neg (by simpa using h)]
theorem Nc (h : (!is) = false) : (⟨min s.lo n, max s.hi n⟩ : Span) = j7 s n is := by
 unfold j7; rw [if_pos (by simpa using h)]
theorem Ht (hb : k < y.bins.length) (ht : t ≤ y.D) : (kG y a f t k).set k ((nth (kG y a f t k) k).set t (j7 (nth (nth (kG y a f t k) k) t) (cq y a (k : Nat) (t : Nat)) f.fits)) = kG y a f t (k + 1) := by
 rw [Lg hb ht]; exact Ki hb ht
theorem HP (ht : t ≤ y.D) (h : k = y.bins.length) : (pF y a f t).set t (j7 (nth (pF y a f t) t) (sN y a t k) f.fits) = pF y a f (t + 1) := by
 subst h
 rw [Jd ht]; exact Ip ht
theorem HE (hk : k < y.moves.length) : (pP y a f k).set k (j7 (nth (pP y a f k) k) (nth a.bY k) f.fits) = pP y a f (k + 1) := by
 rw [Ju hk]; exact Je hk
theorem Gv : 0 = sN y a t 0 := rfl
theorem zK : sN y a t k + cq y a (k : Nat) (t : Nat) = sN y a t (k + 1) := rfl
theorem B3 (hr : y.bw) (h : lT y a) (hb : b < y.bins.length) : -3000 ≤ cq y a (b : Nat) (t : Nat) ∧ cq y a (b : Nat) (t : Nat) ≤ 3300 := by
 rw [jM]; exact LG hr h hb
theorem F3 (hr : y.bw) (h : lT y a) : ∀ k, k ≤ y.bins.length → -(3000 * (k : Int)) ≤ sN y a t k ∧ sN y a t k ≤ 3300 * k
  | 0, _ => by show _ ≤ (0 : Int) ∧ (0 : Int) ≤ _; omega
  | k + 1, hk => by
    have ih := F3 hr h k (by omega)
    have := B3 (t := t) hr h (show k < y.bins.length by omega)
    rw [← zK]; omega
theorem uq {now : List Int} : (now.drop 0).take y.bins.length = (eE y now).first := rfl
theorem ur {now : List Int} (h : now.length = y.bins.length + y.moves.length) : (now.drop y.bins.length).take y.moves.length = (eE y now).bY := List.take_of_length_le (by rw [List.length_drop]; omega)
theorem Q5 (h : i < y.moves.length) {now : List Int} : nth now (y.bins.length + i) = nth (eE y now).bY i := mQ.symm
end
attribute [local irreducible] cq kG pF pP sN eE j7
attribute [local irreducible] gP e9 mA oA iG iE iK g9 iL oc iA oM dV fo n6 gC oW nth fS dY ay dP bodyPost Exit.then Exit.inBlock Code.wp Code.wpIn n7 hU oX oR iB eW cM cN bodyPostM dX
attribute [local irreducible] PZ QU Q2 ug Nf
set_option maxRecDepth 100000 in
theorem BH (s : Span) (n : Int) (is : Bool) : dP Tryz.prog 166 [Ty.agg (bX.tys s), Ty.int .i64 n, Ty.bool is] (Ty.agg (bX.tys (j7 s n is))) := by
 refine ak Tryz.func166 rfl (by decide) Tryz.ntmps166 (by exact Nat.le_of_ble_eq_true rfl) fun w0 M0 => ?_
 refine aE (aA (bF rfl ?_))
 refine bh rfl (by exact List.cons_ne_nil _ _) rfl ?_
 refine aD (aC (aE (aE (aA (eY rfl (dr rfl (aD (aC ?_))))))))
 refine cC rfl (fun hc1 => ?_) (fun hc1 => ?_)
 ·
  refine aE (aA (bG rfl (bG rfl ?_)))
  refine c6 rfl rfl (by exact List.cons_ne_nil _ _) rfl (by repeat (first | exact (aV.nil : aV _ _ [] _) | (show aV _ _ ((_, _) :: _) _; apply aV.one; (· exact (rfl : _ = Ty.int _ _)); (· exact rfl)))) (by exact (rfl : _ = some [_, _])) ?_
  refine bO rfl rfl (by decide) rfl rfl rfl rfl rfl rfl ?_
  refine aD (aC (az (aS ?_)))
  refine jx rfl rfl rfl rfl (by decide) rfl rfl rfl ?_
  all_goals exact av rfl rfl (congrArg (fun z => Ty.agg (bX.tys z)) (Oy hc1))
 refine af (aC (aE (aA ?_)))
 refine aI rfl rfl rfl rfl rfl (by decide) ?_
 refine aJ rfl rfl rfl rfl (bG rfl (I5 rfl rfl ?_))
 refine aI rfl rfl rfl rfl rfl (by decide) ?_
 refine aJ rfl rfl rfl rfl (bG rfl (DG rfl rfl ?_))
 refine c6 rfl rfl (by exact List.cons_ne_nil _ _) rfl (by repeat (first | exact (aV.nil : aV _ _ [] _) | (show aV _ _ ((_, _) :: _) _; apply aV.one; (· exact (rfl : _ = Ty.int _ _)); (· exact rfl)))) (by exact (rfl : _ = some [_, _])) ?_
 refine bO rfl rfl (by decide) rfl rfl rfl rfl rfl rfl ?_
 refine aD (aC (az ?_))
 refine jx rfl rfl rfl rfl (by decide) rfl rfl rfl ?_
 all_goals exact av rfl rfl (congrArg (fun z => Ty.agg (bX.tys z)) (Nc hc1))
set_option maxRecDepth 100000 in
theorem P6 (y : aj) (hr : y.bw) (now : List Int) (ha : lT y (eE y now)) (hnl : now.length = y.bins.length + y.moves.length) (f : pM) (hf : f.Shape y) : eW Tryz.prog 99 [1000, 1001, 1002, 1003, 1004, 1005, 5000] [(1000, Cont.cells 66 (rX y f.fits 1001 1002 1003 1004)), (1001, Cont.mx bX 43 37 5000 f.bins), (1002, Cont.vec bX 37 f.moves), (1003, Cont.vec bX 37 f.whole), (1004, Cont.vec ew 4 f.missed), (1005, Cont.vec cz 3 now)] [eB y, Ty.agg [Ty.win 1005 0 y.bins.length y.moves.length, Ty.win 1005 y.bins.length y.moves.length 0], Ty.ptr 1000 0] [(1000, Cont.cells 66 (rX y true 1001 1002 1003 1004)), (1001, Cont.mx bX 43 37 5000 (su y (eE y now) f).bins), (1002, Cont.vec bX 37 (su y (eE y now) f).moves), (1003, Cont.vec bX 37 (su y (eE y now) f).whole), (1004, Cont.vec ew 4 f.missed), (1005, Cont.vec cz 3 now)] (Ty.lN []) := by
 refine fV Tryz.func99 rfl (by decide) Tryz.ntmps99 (by exact Nat.le_of_ble_eq_true rfl) fun w0 M0 => ?_
 have hyb := hr.bins
 have hyd := hr.days
 have hym := hr.moves
 have hD := D_eq hr
 have hams : Pd y (eE y now) := ⟨by have := ha.lens.bY; omega, by have := ha.lens.bY; omega, fun x hx => by have := ha.first x hx; omega, fun x hx => by have := ha.bY x hx; omega⟩
 have hfl := ha.lens.first
 have hml := ha.lens.bY
 have hwl := hf.whole
 have hmvl := hf.moves
 refine aE (aA (bF rfl (bF rfl (aD (aC (aE (aE (aA (bu rfl ?_)))))))))
 refine aD (aC (aa ?_))
 refine cG (fun (t : {t : Nat // t ≤ y.D + 1}) => live [(2, Ty.ptr 1000 0), (3, Ty.pp (bA y)), (4, Ty.pp [Ty.win 1005 0 y.bins.length y.moves.length, Ty.win 1005 y.bins.length y.moves.length 0]), (6, Ty.int .i64 (t.1 : Nat))] [(1000, Cont.cells 66 (rX y f.fits 1001 1002 1003 1004)), (1001, Cont.mx bX 43 37 5000 (kG y (eE y now) f t.1 0)), (1002, Cont.vec bX 37 f.moves), (1003, Cont.vec bX 37 (pF y (eE y now) f t.1)), (1004, Cont.vec ew 4 f.missed), (1005, Cont.vec cz 3 now)]) (fun t => y.D + 1 - t.1) (⟨0, by omega⟩) ?_ fun t => ?_
 ·(refine cg.mk' ?_ ?_ <;> (repeat' (first | exact aL | exact aK | refine aB ?_ (Ty.aT _) | refine aB ?_ (Ty.aF _) | refine aG rfl (Cont.aF _) ?_ | refine aG rfl ?_ ?_)))
  all_goals first | exact Cont.pT (H8 hf) | exact Cont.cy (IE hf)
 have ht := t.2
 refine aE (aE (aA (bG rfl ?_)))
 refine aI rfl rfl rfl rfl rfl (by decide) ?_
 refine aJ rfl rfl rfl rfl (bB rfl rfl rfl (aD (aC ?_)))
 refine aq rfl (fun hc1 => ?_) (fun hc1 => ?_)
 ·
  refine af (aC (aE (aa (aE (aA (bu rfl (aD (aC (aE ?_)))))))))
  refine aE (aA (bu rfl (aD (aC (aa ?_)))))
  refine cG (fun (b : {b : Nat // b ≤ y.bins.length}) => live [(2, Ty.ptr 1000 0), (3, Ty.pp (bA y)), (4, Ty.pp [Ty.win 1005 0 y.bins.length y.moves.length, Ty.win 1005 y.bins.length y.moves.length 0]), (6, Ty.int .i64 (t.1 : Nat)), (7, Ty.int .i64 (sN y (eE y now) t.1 b.1)), (8, Ty.int .i64 (b.1 : Nat))] [(1000, Cont.cells 66 (rX y f.fits 1001 1002 1003 1004)), (1001, Cont.mx bX 43 37 5000 (kG y (eE y now) f t.1 b.1)), (1002, Cont.vec bX 37 f.moves), (1003, Cont.vec bX 37 (pF y (eE y now) f t.1)), (1004, Cont.vec ew 4 f.missed), (1005, Cont.vec cz 3 now)]) (fun b => y.bins.length - b.1) (⟨0, by omega⟩) ?_ fun b => ?_
  ·(refine cg.mk' ?_ ?_ <;> (repeat' (first | exact aL | exact aK | refine aB ?_ (Ty.aT _) | refine aB ?_ (Ty.aF _) | refine aG rfl (Cont.aF _) ?_ | refine aB ?_ ?_)))
   all_goals exact Ty.bI Gv
  have hb := b.2
  have hsi := F3 (t := t.1) hr ha b.1 hb
  have hbl := CJ (y := y) (a := (eE y now)) (f := f) (t := t.1) (k := b.1)
  have hwl2 := B4 (y := y) (a := (eE y now)) (f := f) (t := t.1)
  refine aE (aE (aA (bG rfl ?_)))
  refine aI rfl rfl rfl rfl rfl (by decide) ?_
  refine aJ rfl rfl rfl rfl (b9 rfl rfl rfl (bB rfl rfl rfl (aD (aC ?_))))
  refine aq rfl (fun hc2 => ?_) (fun hc2 => ?_)
  ·
   refine af (aC (aE (aa (aE ?_))))
   have hb2 : b.1 < y.bins.length := by omega
   have hci := B3 (t := t.1) hr ha hb2
   have hrow := Dd (a := (eE y now)) (f := f) (t := t.1) (k := b.1) hb2
   refine aA ?_
   refine aX rfl rfl rfl (by exact Nat.le_of_ble_eq_true rfl) ?_
   refine aX rfl rfl rfl (by exact Nat.le_of_ble_eq_true rfl) ?_
   refine bG rfl (bG rfl ?_)
   refine eC [1005] (FP y (eE y now) hams ((b.1 : Nat) : Int) ((t.1 : Nat) : Int) (Int.natCast_nonneg _) (by omega)) rfl (aW (bV (bT rfl rfl)) (aW (AQ (aW (qn (xs := now) (o := 0) rfl rfl uq (by omega) (by decide) rfl) (aW (qn (xs := now) (o := y.bins.length) rfl rfl (ur hnl) (by omega) (by decide) rfl) cP))) (aW (bV (bT rfl rfl)) (aW (bV (bT rfl rfl)) cP)))) (by exact dU _ _) ?_
   refine bu rfl (aD (aC (aE (aA (bG rfl (bG rfl ?_))))))
   refine cB rfl rfl (by omega) (by omega) ?_
   refine bu rfl (aD (aC (cL mixed rfl (Lu rfl (cZ rfl ?_)))))
   refine aR rfl rfl rfl rfl rfl (by decide) ?_
   refine aY rfl rfl (by decide) rfl rfl rfl ?_
   refine bG rfl ?_
   refine dG rfl rfl rfl rfl rfl (by omega) ?_
   refine zU b.1 rfl (by exact Nat.mul_one _) rfl (by decide) rfl rfl (by omega) ?_
   refine bG rfl (Lu rfl (cZ rfl ?_))
   refine aR rfl rfl rfl rfl rfl (by decide) ?_
   refine aY rfl rfl (by decide) rfl rfl rfl ?_
   refine bG rfl ?_
   refine dG rfl rfl rfl rfl rfl (by omega) ?_
   refine zU b.1 rfl (by exact Nat.mul_one _) rfl (by decide) rfl rfl (by omega) ?_
   refine bG rfl ?_
   refine xg (j := t.1) rfl rfl rfl rfl rfl (by omega) ?_
   refine Eg (j := t.1) rfl rfl rfl rfl rfl (by omega) ?_
   refine bG rfl (Lu rfl (cZ rfl ?_))
   refine aR rfl rfl rfl rfl rfl (by decide) ?_
   refine aY rfl rfl (by decide) rfl rfl rfl ?_
   refine aZ (BH _ _ _) rfl rfl rfl rfl rfl ?_
   refine xg (j := t.1) rfl rfl rfl rfl rfl (by omega) ?_
   refine Bm (j := t.1) (i := b.1) rfl rfl rfl (by decide) rfl rfl rfl (by omega) (by omega) (by decide) ?_
   refine aD ?_
   refine ⟨by kernel_rfl, ?_⟩
   refine bM (aC (aA (bG rfl ?_)))
   refine cB rfl rfl (by omega) (by omega) ?_
   refine bu rfl (aD ?_)
   refine bR (⟨b.1 + 1, by omega⟩) ?_ (by show y.bins.length - (b.1 + 1) < y.bins.length - b.1; omega)
   (refine cg.mk' ?_ ?_ <;> (repeat' (first | exact aL | exact aK | refine aB ?_ (Ty.aT _) | refine aB ?_ (Ty.aF _) | refine aG rfl (Cont.aF _) ?_ | refine aG rfl ?_ ?_ | refine aB ?_ ?_)))
   all_goals skip
   all_goals first | exact Cont.pT (Ht (by omega) (by omega)) | exact Ty.bI zK
  refine cH (aP (aP (ah rfl (aC (cL mixed rfl (Lu rfl (cZ rfl ?_)))))))
  refine aR rfl rfl rfl rfl rfl (by decide) ?_
  refine aY rfl rfl (by decide) rfl rfl rfl ?_
  refine bG rfl (Lu rfl (cZ rfl ?_))
  refine aR rfl rfl rfl rfl rfl (by decide) ?_
  refine aY rfl rfl (by decide) rfl rfl rfl ?_
  refine bG rfl ?_
  refine dG rfl rfl rfl rfl rfl (by omega) ?_
  refine jr t.1 rfl rfl rfl (by decide) rfl rfl rfl (by omega) ?_
  refine bG rfl (Lu rfl (cZ rfl ?_))
  refine aR rfl rfl rfl rfl rfl (by decide) ?_
  refine aY rfl rfl (by decide) rfl rfl rfl ?_
  refine aZ (BH _ _ _) rfl rfl rfl rfl rfl ?_
  refine dG rfl rfl rfl rfl rfl (by omega) ?_
  refine oU t.1 rfl rfl rfl (by decide) rfl rfl rfl (by omega) ?_
  refine aD ?_
  refine ⟨by kernel_rfl, ?_⟩
  refine bM (aC (aA (bG rfl ?_)))
  refine cB rfl rfl (by omega) (by omega) ?_
  refine bu rfl (aD ?_)
  refine bR (⟨t.1 + 1, by omega⟩) ?_ (by show y.D + 1 - (t.1 + 1) < y.D + 1 - t.1; omega)
  (refine cg.mk' ?_ ?_ <;> (repeat' (first | exact aL | exact aK | refine aB ?_ (Ty.aT _) | refine aB ?_ (Ty.aF _) | refine aG rfl (Cont.aF _) ?_ | refine aG rfl ?_ ?_)))
  all_goals skip
  all_goals first | exact Cont.pT (Gm (by have := b.2; omega)) | exact Cont.cy (HP (by omega) (by have := b.2; omega))
 refine cH (aP (aP (ah rfl (aC (aE (aE (aA (bu rfl (aD ?_)))))))))
 refine aC (aa ?_)
 refine cG (fun (i : {i : Nat // i ≤ y.moves.length}) => live [(2, Ty.ptr 1000 0), (3, Ty.pp (bA y)), (4, Ty.pp [Ty.win 1005 0 y.bins.length y.moves.length, Ty.win 1005 y.bins.length y.moves.length 0]), (10, Ty.int .i64 (i.1 : Nat))] [(1000, Cont.cells 66 (rX y f.fits 1001 1002 1003 1004)), (1001, Cont.mx bX 43 37 5000 (su y (eE y now) f).bins), (1002, Cont.vec bX 37 (pP y (eE y now) f i.1)), (1003, Cont.vec bX 37 (su y (eE y now) f).whole), (1004, Cont.vec ew 4 f.missed), (1005, Cont.vec cz 3 now)]) (fun i => y.moves.length - i.1) (⟨0, by omega⟩) ?_ fun i => ?_
 ·(refine cg.mk' ?_ ?_ <;> (repeat' (first | exact aL | exact aK | refine aB ?_ (Ty.aT _) | refine aB ?_ (Ty.aF _) | refine aG rfl (Cont.aF _) ?_ | refine aG rfl ?_ ?_)))
  all_goals first | exact Cont.cy (IL hf) | exact Cont.pT (by rw [show t.1 = y.D + 1 by have := t.2; omega]; rfl) | exact Cont.cy (by rw [show t.1 = y.D + 1 by have := t.2; omega]; rfl)
 have hi := i.2
 have hmt := DX (y := y) (a := (eE y now)) (f := f) (k := i.1)
 refine aE (aE (aA (bG rfl ?_)))
 refine aI rfl rfl rfl rfl rfl (by decide) ?_
 refine aJ rfl rfl rfl rfl (b9 rfl rfl rfl (bB rfl rfl rfl (aD (aC ?_))))
 refine aq rfl (fun hc3 => ?_) (fun hc3 => ?_)
 ·
  refine af (aC (aE (aa ?_)))
  have hi2 : i.1 < y.moves.length := by omega
  refine cL mixed rfl (Lu rfl (cZ rfl ?_))
  refine aR rfl rfl rfl rfl rfl (by decide) ?_
  refine aY rfl rfl (by decide) rfl rfl rfl ?_
  refine bG rfl (Lu rfl (cZ rfl ?_))
  refine aR rfl rfl rfl rfl rfl (by decide) ?_
  refine aY rfl rfl (by decide) rfl rfl rfl ?_
  refine bG rfl ?_
  refine dG rfl rfl rfl rfl rfl (by omega) ?_
  refine jr i.1 rfl rfl rfl (by decide) rfl rfl rfl (by omega) ?_
  refine aI rfl rfl rfl rfl rfl (by decide) ?_
  refine aJ rfl rfl rfl rfl (bG rfl ?_)
  refine uh (j := i.1) rfl rfl rfl rfl rfl rfl hi2 ?_
  refine qF (E := cz) (y.bins.length + i.1) 0 (ty := Ty.int .i64 (nth (eE y now).bY i.1)) rfl (by show _ = _ * 1 + 0; omega) rfl (by decide) rfl rfl (by omega) (by rw [Q5 hi2]; rfl) ?_
  refine Lu rfl (cZ rfl ?_)
  refine aR rfl rfl rfl rfl rfl (by decide) ?_
  refine aY rfl rfl (by decide) rfl rfl rfl ?_
  refine aZ (BH _ _ _) rfl rfl rfl rfl rfl ?_
  refine dG rfl rfl rfl rfl rfl (by omega) ?_
  refine oU i.1 rfl rfl rfl (by decide) rfl rfl rfl (by omega) ?_
  refine aD ?_
  refine ⟨by kernel_rfl, ?_⟩
  refine bM (aC (aA (bG rfl ?_)))
  refine cB rfl rfl (by omega) (by omega) ?_
  refine bu rfl (aD ?_)
  refine bR (⟨i.1 + 1, by omega⟩) ?_ (by show y.moves.length - (i.1 + 1) < y.moves.length - i.1; omega)
  (refine cg.mk' ?_ ?_ <;> (repeat' (first | exact aL | exact aK | refine aB ?_ (Ty.aT _) | refine aB ?_ (Ty.aF _) | refine aG rfl (Cont.aF _) ?_ | refine aG rfl ?_ ?_)))
  all_goals skip
  all_goals exact Cont.cy (HE (by omega))
 refine cH (aP (aP (ah rfl (aC (aA (Lu rfl (cZ rfl ?_)))))))
 refine aR rfl rfl rfl rfl rfl (by decide) ?_
 refine cr rfl rfl (by decide) rfl rfl (by exact (rfl : _ = Ty.bool _)) rfl (by exact Nat.le_of_ble_eq_true rfl) rfl rfl (by exact rfl) ?_
 refine aD (N4 ?_)
 refine Kw [1000, 1001, 1002, 1003, 1004, 1005, 5000] rfl (by decide) ?_
 ·exact eP rfl (gr (by decide) (aN (aN (aN (aN (aN bf (dZ (by decide))) (dZ (by decide))) (dZ (by decide))) (dZ (by decide))) (aU rfl rfl))) (eP rfl (Iv (by decide) (by decide) rfl) (eP rfl (bt (by decide) (by rw [show i.1 = y.moves.length by have := i.2; omega]; rfl)) (eP rfl (bt (by decide) rfl) (eP rfl (bt (by decide) rfl) (eP rfl (bt (by decide) rfl) gT)))))
 skip
end Go.Proofs.YtelbollidfdcjaaGreat
namespace Go.Proofs.YtelbollidfdcjaaGreat
open Go Go.T
set_option maxHeartbeats 8000000
def vP : El (List Span) := El.mk' 1 (fun x => [Ty.sl bX x]) (fun _ => rfl) (fun _ => ⟨rfl, rfl, rfl⟩)
def Rc : zq (List Span) := zq.Ef vP bX 37 (fun _ => rfl) rfl
def yl (f : pM) : List Ty := [Ty.bool f.fits, Ty.sl vP f.bins, Ty.sl bX f.moves, Ty.sl bX f.whole, Ty.sl ew f.missed]
def LD (y : aj) : List Span := List.replicate (y.D + 1) ⟨0, 0⟩
section
variable {y : aj} {k i : Nat} {f : pM}
theorem Lb {α : Type} {z z' : α} (h : z' = z) : List.replicate k z ++ [z'] = List.replicate (k + 1) z := by subst h; exact List.replicate_succ'.symm
theorem C6 (hr : y.bw) : 0 < dH (cm y) (dI y) := size_pos (gR hr)
theorem Hg (hr : y.bw) : cm y = dW y 0 := by
 unfold dW
 rw [if_pos (C6 hr)]
 have hl := Fy (gR hr)
 have h := xS (gR hr) hl
 rw [BU (gR hr)] at h
 exact h.symm
theorem Hr : cm y = dW y (dH (cm y) (dI y)) := by unfold dW; rw [if_neg (Nat.lt_irrefl _)]
theorem P1 (hr : y.bw) (hk : k < dH (cm y) (dI y)) (hi : 0 < i) (hin : i ≤ (dW y k).length) (he : (dW y k).drop i = (dI y).drop i) (hn : nth (dW y k) (i - 1) ≠ nth (dI y) (i - 1)) : k + 1 < dH (cm y) (dI y) ∧ (kY (cm y) (dW y k) i).set (i - 1) (nth (dW y k) (i - 1) + 1) = dW y (k + 1) := by
 have e : IQ (cm y) (dI y) k = dW y k := by unfold dW; rw [if_pos hk]
 obtain ⟨j, rfl⟩ : ∃ j, i = j + 1 := ⟨i - 1, by omega⟩
 obtain ⟨a, b⟩ := Nb (gR hr) hk e (i := j) (by omega) he hn
 refine ⟨a, ?_⟩
 have e2 : dW y (k + 1) = IQ (cm y) (dI y) (k + 1) := by unfold dW; rw [if_pos a]
 rw [e2]; exact b
theorem QN (hr : y.bw) (hk : k < dH (cm y) (dI y)) (he : (dW y k).drop 0 = (dI y).drop 0) : k + 1 = dH (cm y) (dI y) ∧ kY (cm y) (dW y k) 0 = dW y (k + 1) := by
 have e : IQ (cm y) (dI y) k = dW y k := by unfold dW; rw [if_pos hk]
 have h := ND (gR hr) hk (e.trans he)
 exact ⟨h, by rw [h]; exact Hr⟩
theorem xA (hi : 0 < i) (hin : i ≤ (dW y k).length) : nth (kY (cm y) (dW y k) i) (i - 1) = nth (dW y k) (i - 1) := by
 obtain ⟨j, rfl⟩ : ∃ j, i = j + 1 := ⟨i - 1, by omega⟩
 exact Mm (by omega)
theorem JB (hr : y.bw) (hi : 0 < i) (hin : i ≤ (dW y k).length) : (kY (cm y) (dW y k) i).set (i - 1) (nth (cm y) (i - 1)) = kY (cm y) (dW y k) (i - 1) := by
 obtain ⟨j, rfl⟩ : ∃ j, i = j + 1 := ⟨i - 1, by omega⟩
 exact Nh (by rw [qM hr, gu]) (by omega)
theorem HG (hr : y.bw) (hi : 0 < i) (hin : i ≤ (dW y k).length) (he : (dW y k).drop i = (dI y).drop i) (hn : nth (dW y k) (i - 1) = nth (dI y) (i - 1)) : (dW y k).drop (i - 1) = (dI y).drop (i - 1) := by
 obtain ⟨j, rfl⟩ : ∃ j, i = j + 1 := ⟨i - 1, by omega⟩
 exact Kt (by rw [qM hr, nO]) (by omega) he hn
theorem NW (hr : y.bw) (hi : i < y.bins.length + y.moves.length) : 0 ≤ nth (dW y k) i ∧ nth (dW y k) i ≤ 300 := by
 have h := xO (k := k) hr
 have hl := qM (k := k) hr
 by_cases c : i < y.bins.length
 ·have := h.first _ (cT (show i < (jP y k).first.length by rw [h.lens.first]; exact c))
  have e : nth (jP y k).first i = nth (dW y k) i := z3 c
  rw [e] at this; exact this
 obtain ⟨j, rfl⟩ : ∃ j, i = y.bins.length + j := ⟨i - y.bins.length, by omega⟩
 have := h.bY _ (cT (show j < (jP y k).bY.length by rw [h.lens.bY]; omega))
 have e : nth (jP y k).bY j = nth (dW y k) (y.bins.length + j) := mQ
 rw [e] at this; exact this
theorem Kz (h : i < y.bins.length) : (cm y).take i ++ [(nth y.bins i).first.lo] = (cm y).take (i + 1) := by
 rw [cV (by rw [gu]; omega), Dw h]
theorem Lo (h : i < y.bins.length) : (dI y).take i ++ [(nth y.bins i).first.hi] = (dI y).take (i + 1) := by
 rw [cV (by rw [nO]; omega), Ds h]
theorem K6 (h : i < y.moves.length) : (cm y).take (y.bins.length + i) ++ [(nth y.moves i).sacks.lo] = (cm y).take (y.bins.length + (i + 1)) := by
 rw [show y.bins.length + (i + 1) = y.bins.length + i + 1 by omega, cV (by rw [gu]; omega), Eu h]
theorem Ic (h : i < y.moves.length) : (dI y).take (y.bins.length + i) ++ [(nth y.moves i).sacks.hi] = (dI y).take (y.bins.length + (i + 1)) := by
 rw [show y.bins.length + (i + 1) = y.bins.length + i + 1 by omega, cV (by rw [nO]; omega), EX h]
theorem HX : (gW y).bins = List.replicate y.bins.length (LD y) := rfl
theorem wu (h : ¬ 0 ≤ eR y (eE y (dW y k))) : eM y k = eM y (k + 1) := Ax (Int.not_le.1 h)
theorem pg (h : 0 ≤ eR y (eE y (dW y k))) (h0 : ¬ eR y (eE y (dW y k)) = 0) : kB y (jP y k) (eM y k) = eM y (k + 1) := uK (Int.not_lt.2 h) h0
theorem sj (h0 : eR y (eE y (dW y k)) = 0) : su y (jP y k) (kB y (jP y k) (eM y k)) = eM y (k + 1) := wU h0
theorem Mx (h : 0 ≤ eR y (eE y (dW y k))) (h0 : ¬ eR y (eE y (dW y k)) = 0) : (eM y k).fits = (eM y (k + 1)).fits := by show (kB y (jP y k) (eM y k)).fits = _; exact congrArg pM.fits (pg h h0)
theorem NS (h : 0 ≤ eR y (eE y (dW y k))) (h0 : ¬ eR y (eE y (dW y k)) = 0) : (eM y k).bins = (eM y (k + 1)).bins := by show (kB y (jP y k) (eM y k)).bins = _; exact congrArg pM.bins (pg h h0)
theorem Kk (h : 0 ≤ eR y (eE y (dW y k))) (h0 : ¬ eR y (eE y (dW y k)) = 0) : (eM y k).moves = (eM y (k + 1)).moves := by show (kB y (jP y k) (eM y k)).moves = _; exact congrArg pM.moves (pg h h0)
theorem Io (h : 0 ≤ eR y (eE y (dW y k))) (h0 : ¬ eR y (eE y (dW y k)) = 0) : (eM y k).whole = (eM y (k + 1)).whole := by show (kB y (jP y k) (eM y k)).whole = _; exact congrArg pM.whole (pg h h0)
theorem ID (h0 : eR y (eE y (dW y k)) = 0) : (kB y (jP y k) (eM y k)).missed = (eM y (k + 1)).missed := by show (su y (jP y k) (kB y (jP y k) (eM y k))).missed = _; exact congrArg pM.missed (sj h0)
theorem My (h : (y.days + 1).toNat = y.D + 1) : List.replicate (y.days + 1).toNat (⟨0, 0⟩ : Span) = LD y := by rw [h]; rfl
theorem Kb {tg o o' n n' r r' : Nat} (h1 : o = o') (h2 : n = n') (h3 : r = r') : Ty.win tg o n r = Ty.win tg o' n' r' := by subst h1; subst h2; subst h3; rfl
end
attribute [local irreducible] cq kG pF pP sN j7 eR dW cm dI kY dH LD
attribute [local irreducible] gP e9 mA oA iG iE iK g9 iL oc iA oM dV fo n6 gC oW nth fS dY ay dP bodyPost Exit.then Exit.inBlock Code.wp Code.wpIn n7 hU oX oR iB eW cM cN bodyPostM dX
attribute [local irreducible] PZ QU Q2 ug Nf Fb Q6
set_option maxRecDepth 100000 in
theorem Qc (y : aj) (hr : y.bw) : dP Tryz.prog 32 [eB y] (Ty.agg (yl (jJ y))) := by
 refine ak Tryz.func32 rfl (by decide) Tryz.ntmps32 (by exact Nat.le_of_ble_eq_true rfl) fun w0 M0 => ?_
 have hyb := hr.bins
 have hyd := hr.days
 have hym := hr.moves
 have hD := D_eq hr
 have hll := gu (y := y)
 have hhl := nO (y := y)
 have hDn : (y.days + 1).toNat = y.D + 1 := by omega
 have hMn : ((y.moves.length : Int)).toNat = y.moves.length := Int.toNat_natCast _
 have hsz := C6 hr
 refine aE (aA (bF rfl ?_))
 refine bh rfl (by exact List.cons_ne_nil _ _) rfl ?_
 refine aD (aC (aE (aA ?_)))
 refine qZ (E := ew) (x0 := false) rfl rfl rfl rfl rfl rfl rfl (by decide) rfl (by omega) (by (dsimp only; omega)) (by omega) ?_
 refine c6 rfl rfl (by exact List.cons_ne_nil _ _) rfl (by repeat (first | exact (aV.nil : aV _ _ [] _) | (show aV _ _ ((_, _) :: _) _; apply aV.one; (· exact (rfl : _ = Ty.vs _ _)); (· exact rfl)))) (by exact rfl) ?_
 refine bh rfl (by exact List.cons_ne_nil _ _) rfl ?_
 refine bO rfl rfl (by decide) rfl rfl rfl rfl rfl rfl ?_
 refine aD (aC (aE (aE (aA (bu rfl (aD (aC (aa ?_))))))))
 refine cG (fun (b : {b : Nat // b ≤ y.bins.length}) => live [(1, Ty.pp (bA y)), (2, Ty.ptr 3 0), (3, Ty.ptr 4 0), (4, Ty.int .i64 (b.1 : Nat))] [(3, Cont.cells 66 [Ty.bool false, Ty.ex (.slice none 0 0), Ty.ex (.slice none 0 0), Ty.ex (.slice none 0 0), Ty.ex (.slice none 0 0)]), (4, Cont.cells 66 [Ty.bool false, Ty.ya Rc 43 81 5000 (List.replicate b.1 (LD y)), Ty.ex (.slice none 0 0), Ty.ex (.slice none 0 0), Ty.vs 15 256]), (15, Cont.vec ew 4 (List.replicate 256 false))]) (fun b => y.bins.length - b.1) (⟨0, by omega⟩) ?_ fun b => ?_
 ·(refine cg.mk' ?_ ?_ <;> (repeat' (first | exact aL | exact aK | exact cv | refine aB ?_ (Ty.aT _) | refine aB ?_ (Ty.aF _) | refine aG rfl (Cont.aF _) ?_ | refine aG rfl (Cont.ct ?_) ?_ | refine bJ ?_ (Ty.aF _) | refine bJ ?_ ?_)))
  all_goals exact Ty.Iz
 have hb := b.2
 refine aE (aE (aA (bG rfl ?_)))
 refine aI rfl rfl rfl rfl rfl (by decide) ?_
 refine aJ rfl rfl rfl rfl (b9 rfl rfl rfl (bB rfl rfl rfl (aD (aC ?_))))
 refine aq rfl (fun hc1 => ?_) (fun hc1 => ?_)
 ·
  refine af (aC (aE (aa (cL mixed rfl ?_))))
  refine aR rfl rfl rfl rfl rfl (by decide) ?_
  refine aY rfl rfl (by decide) rfl rfl rfl ?_
  refine aI rfl rfl rfl rfl rfl (by decide) ?_
  refine aJ rfl rfl rfl rfl ?_
  refine cB rfl rfl (by omega) (by omega) ?_
  refine M8 (E := bX) (x0 := ⟨0, 0⟩) rfl rfl rfl rfl rfl rfl rfl (by decide) rfl (by omega) (by (dsimp only; omega)) (by omega) ?_
  refine HN rfl rfl rfl rfl (by decide) (by decide) (by repeat (first | exact (aV.nil : aV _ _ [] _) | (show aV _ _ ((_, _) :: _) _; apply aV.one; (· exact (rfl : _ = Ty.row _ _ _ _)); (· exact rfl)))) (by exact rfl) ?_
  refine Gt (List.replicate (y.days + 1).toNat ⟨0, 0⟩) rfl rfl BO (by decide) (by decide) (by decide) (by decide) rfl rfl rfl rfl rfl rfl rfl (by decide) rfl rfl rfl (by (simp <;> omega)) (by (simp <;> omega)) ?_
  refine aR rfl rfl rfl rfl rfl (by decide) ?_
  refine cr rfl rfl (by decide) rfl rfl (by exact (rfl : _ = Ty.ya _ _ _ _ _)) rfl (by exact Nat.le_of_ble_eq_true rfl) rfl rfl (by exact rfl) ?_
  refine aD ?_
  refine ⟨by kernel_rfl, ?_⟩
  refine bM (aC (aA (bG rfl ?_)))
  refine cB rfl rfl (by omega) (by omega) ?_
  refine bu rfl (aD ?_)
  refine bR (⟨b.1 + 1, by omega⟩) ?_ (by show y.bins.length - (b.1 + 1) < y.bins.length - b.1; omega)
  (refine cg.mk' ?_ ?_ <;> (repeat' (first | exact aL | exact aK | exact cv | refine aB ?_ (Ty.aT _) | refine aB ?_ (Ty.aF _) | refine aG rfl (Cont.aF _) ?_ | refine aG rfl (Cont.ct ?_) ?_ | refine bJ ?_ (Ty.aF _) | refine bJ ?_ ?_)))
  all_goals skip
  all_goals exact Ty.JH (Lb (My hDn))
 refine cH (aP (aP (ah rfl (aC (aE ?_)))))
 obtain ⟨b, hb⟩ := b
 obtain rfl : b = y.bins.length := by have h1 : ¬ (b : Int) < (y.bins.length : Int) := hc1; have h2 : b ≤ y.bins.length := hb; omega
 refine Jz (ER := vP) (E := bX) (T := 37) (T2 := 43) (J := 5000) (tg := 81) (c0 := 4) (q := List.replicate y.bins.length (LD y)) 1 rfl rfl (by rw [List.length_replicate]; omega) ?_
 refine jS (tg := 4) rfl (Cont.kW (l' := [Ty.bool false, Ty.vs 81 y.bins.length, Ty.ex (.slice none 0 0), Ty.ex (.slice none 0 0), Ty.vs 15 256]) ⟨Ty.aF _, Ty.Ng List.length_replicate, Ty.aF _, Ty.aF _, Ty.aF _, trivial⟩) ?_
 refine cL mixed rfl ?_
 refine aI rfl rfl rfl rfl rfl (by decide) ?_
 refine aJ rfl rfl rfl rfl (b9 rfl rfl rfl ?_)
 refine qZ (E := bX) (x0 := ⟨0, 0⟩) rfl rfl rfl rfl rfl rfl rfl (by decide) rfl (by omega) (by (dsimp only; omega)) (by omega) ?_
 refine aI rfl rfl rfl rfl rfl (by decide) ?_
 refine aJ rfl rfl rfl rfl ?_
 refine cB rfl rfl (by omega) (by omega) ?_
 refine qZ (E := bX) (x0 := ⟨0, 0⟩) rfl rfl rfl rfl rfl rfl rfl (by decide) rfl (by omega) (by (dsimp only; omega)) (by omega) ?_
 refine aR rfl rfl rfl rfl rfl (by decide) ?_
 refine cr rfl rfl (by decide) rfl rfl (by exact (rfl : _ = Ty.vs _ _)) rfl (by exact Nat.le_of_ble_eq_true rfl) rfl rfl (by exact rfl) ?_
 refine aR rfl rfl rfl rfl rfl (by decide) ?_
 refine cr rfl rfl (by decide) rfl rfl (by exact (rfl : _ = Ty.vs _ _)) rfl (by exact Nat.le_of_ble_eq_true rfl) rfl rfl (by exact rfl) ?_
 refine aD ?_
 refine ⟨by kernel_rfl, ?_⟩
 refine aC (aE ?_)
 refine jS (tg := 81) rfl (Cont.pT (HX (y := y)).symm) ?_
 refine jS (tg := 4) rfl (Cont.kW (l' := rX y false 81 36 40 15) ⟨Ty.aF _, Ty.aF _, Ty.sub_eq (congrArg (Ty.vs 36) hMn), Ty.sub_eq (congrArg (Ty.vs 40) hDn), Ty.aF _, trivial⟩) ?_
 refine jS (tg := 36) rfl (Cont.cy (congrArg (fun n => List.replicate n (⟨0, 0⟩ : Span)) hMn)) ?_
 refine jS (tg := 40) rfl (Cont.cy (congrArg (fun n => List.replicate n (⟨0, 0⟩ : Span)) hDn)) ?_
 refine eJ (B := live [(1, Ty.pp (bA y)), (2, Ty.ptr 3 0), (3, Ty.ptr 4 0)] [(3, Cont.cells 66 [Ty.bool false, Ty.ex (.slice none 0 0), Ty.ex (.slice none 0 0), Ty.ex (.slice none 0 0), Ty.ex (.slice none 0 0)]), (4, Cont.cells 66 (rX y (gW y).fits 81 36 40 15)), (81, Cont.mx bX 43 37 5000 (gW y).bins), (36, Cont.vec bX 37 (gW y).moves), (40, Cont.vec bX 37 (gW y).whole), (15, Cont.vec ew 4 (gW y).missed)]) ?_ ?_
 ·refine cg.mk' ?_ ?_
  ·(repeat (first | refine aB ?_ (Ty.aT _) | refine aB ?_ (Ty.aF _))); exact aL
  refine aG rfl (Cont.aF _) ?_; refine aG rfl (Cont.aF _) ?_; refine aG rfl (Cont.aF _) ?_; refine aG rfl (Cont.aF _) ?_; refine aG rfl (Cont.aF _) ?_; refine aG rfl (Cont.aF _) ?_; exact aK
 refine aA (mB rfl (mB rfl (mB rfl (aD (aC (aE (aE (aA (bu rfl ?_)))))))))
 refine aD (aC (aa ?_))
 refine cG (fun (b : {b : Nat // b ≤ y.bins.length}) => live [(1, Ty.pp (bA y)), (2, Ty.ptr 3 0), (3, Ty.ptr 4 0), (5, Ty.row cz 3 60 ((cm y).take b.1)), (6, Ty.row cz 3 61 ((dI y).take b.1)), (7, Ty.ex (.slice none 0 0)), (8, Ty.int .i64 (b.1 : Nat))] [(3, Cont.cells 66 [Ty.bool false, Ty.ex (.slice none 0 0), Ty.ex (.slice none 0 0), Ty.ex (.slice none 0 0), Ty.ex (.slice none 0 0)]), (4, Cont.cells 66 (rX y (gW y).fits 81 36 40 15)), (81, Cont.mx bX 43 37 5000 (gW y).bins), (36, Cont.vec bX 37 (gW y).moves), (40, Cont.vec bX 37 (gW y).whole), (15, Cont.vec ew 4 (gW y).missed)]) (fun b => y.bins.length - b.1) (⟨0, by omega⟩) ?_ fun b => ?_
 ·(refine cg.mk' ?_ ?_ <;> (repeat' (first | exact aL | exact aK | refine aB ?_ (Ty.aT _) | refine aB ?_ (Ty.aF _) | refine aB ?_ Ty.iF | refine aG rfl (Cont.aF _) ?_)))
  all_goals trace_state
 have hb := b.2
 have htl : ((cm y).take b.1).length = b.1 := by rw [List.length_take]; omega
 have hth : ((dI y).take b.1).length = b.1 := by rw [List.length_take]; omega
 refine aE (aE (aA (bG rfl ?_)))
 refine aI rfl rfl rfl rfl rfl (by decide) ?_
 refine aJ rfl rfl rfl rfl (b9 rfl rfl rfl (bB rfl rfl rfl (aD (aC ?_))))
 refine aq rfl (fun hc2 => ?_) (fun hc2 => ?_)
 ·
  refine af (aC (aE (aa (cL mixed rfl (G8 rfl ?_)))))
  refine aI rfl rfl rfl rfl rfl (by decide) ?_
  refine aJ rfl rfl rfl rfl (bG rfl ?_)
  refine au rfl rfl rfl rfl rfl rfl (by omega) ?_
  refine aI rfl rfl rfl rfl rfl (by decide) ?_
  refine aI rfl rfl rfl rfl rfl (by decide) ?_
  refine aJ rfl rfl rfl rfl ?_
  refine bg (E := cz) (xs := [(nth y.bins b.1).first.lo]) rfl rfl rfl rfl rfl (by decide) (by decide) (by repeat (first | exact (aV.nil : aV _ _ [] _) | (show aV _ _ ((_, _) :: _) _; apply aV.one; (· exact (rfl : _ = Ty.int _ _)); (· exact rfl)))) (by exact rfl) rfl ?_
  refine dy rfl rfl (by decide) rfl rfl rfl rfl rfl rfl (by decide) (by (simp <;> omega)) (by (simp <;> omega)) ?_
  refine G8 rfl ?_
  refine aI rfl rfl rfl rfl rfl (by decide) ?_
  refine aJ rfl rfl rfl rfl (bG rfl ?_)
  refine au rfl rfl rfl rfl rfl rfl (by omega) ?_
  refine aI rfl rfl rfl rfl rfl (by decide) ?_
  refine aI rfl rfl rfl rfl rfl (by decide) ?_
  refine aJ rfl rfl rfl rfl ?_
  refine bg (E := cz) (xs := [(nth y.bins b.1).first.hi]) rfl rfl rfl rfl rfl (by decide) (by decide) (by repeat (first | exact (aV.nil : aV _ _ [] _) | (show aV _ _ ((_, _) :: _) _; apply aV.one; (· exact (rfl : _ = Ty.int _ _)); (· exact rfl)))) (by exact rfl) rfl ?_
  refine dy rfl rfl (by decide) rfl rfl rfl rfl rfl rfl (by decide) (by (simp <;> omega)) (by (simp <;> omega)) ?_
  refine A2 rfl (A2 rfl (aD ?_))
  refine ⟨by kernel_rfl, ?_⟩
  refine bM (aC (aA (bG rfl ?_)))
  refine cB rfl rfl (by omega) (by omega) ?_
  refine bu rfl (aD ?_)
  refine bR (⟨b.1 + 1, by omega⟩) ?_ (by show y.bins.length - (b.1 + 1) < y.bins.length - b.1; omega)
  (refine cg.mk' ?_ ?_ <;> (repeat' (first | exact aL | exact aK | refine aB ?_ (Ty.aT _) | refine aB ?_ (Ty.aF _) | refine aG rfl (Cont.aF _) ?_ | refine aB ?_ ?_)))
  all_goals skip
  all_goals first | exact Ty.fH (Kz (by omega)) | exact Ty.fH (Lo (by omega))
 refine cH (aP (aP (ah rfl (aC (aE (aE (aA (bu rfl (aD ?_)))))))))
 refine aC (aa ?_)
 refine cG (fun (m : {m : Nat // m ≤ y.moves.length}) => live [(1, Ty.pp (bA y)), (2, Ty.ptr 3 0), (3, Ty.ptr 4 0), (5, Ty.row cz 3 60 ((cm y).take (y.bins.length + m.1))), (6, Ty.row cz 3 61 ((dI y).take (y.bins.length + m.1))), (7, Ty.ex (.slice none 0 0)), (9, Ty.int .i64 (m.1 : Nat))] [(3, Cont.cells 66 [Ty.bool false, Ty.ex (.slice none 0 0), Ty.ex (.slice none 0 0), Ty.ex (.slice none 0 0), Ty.ex (.slice none 0 0)]), (4, Cont.cells 66 (rX y (gW y).fits 81 36 40 15)), (81, Cont.mx bX 43 37 5000 (gW y).bins), (36, Cont.vec bX 37 (gW y).moves), (40, Cont.vec bX 37 (gW y).whole), (15, Cont.vec ew 4 (gW y).missed)]) (fun m => y.moves.length - m.1) (⟨0, by omega⟩) ?_ fun m => ?_
 ·(refine cg.mk' ?_ ?_ <;> (repeat' (first | exact aL | exact aK | refine aB ?_ (Ty.aT _) | refine aB ?_ (Ty.aF _) | refine aG rfl (Cont.aF _) ?_ | refine aB ?_ ?_)))
  all_goals exact Ty.fH (by rw [show b.1 = y.bins.length + 0 by have := b.2; omega])
 have hm := m.2
 have htl : ((cm y).take (y.bins.length + m.1)).length = y.bins.length + m.1 := by rw [List.length_take]; omega
 have hth : ((dI y).take (y.bins.length + m.1)).length = y.bins.length + m.1 := by rw [List.length_take]; omega
 refine aE (aE (aA (bG rfl ?_)))
 refine aI rfl rfl rfl rfl rfl (by decide) ?_
 refine aJ rfl rfl rfl rfl (b9 rfl rfl rfl (bB rfl rfl rfl (aD (aC ?_))))
 refine aq rfl (fun hc3 => ?_) (fun hc3 => ?_)
 ·
  refine af (aC (aE (aa (cL mixed rfl (G8 rfl ?_)))))
  refine aI rfl rfl rfl rfl rfl (by decide) ?_
  refine aJ rfl rfl rfl rfl (bG rfl ?_)
  refine au rfl rfl rfl rfl rfl rfl (by omega) ?_
  refine aI rfl rfl rfl rfl rfl (by decide) ?_
  refine aI rfl rfl rfl rfl rfl (by decide) ?_
  refine aJ rfl rfl rfl rfl ?_
  refine bg (E := cz) (xs := [(nth y.moves m.1).sacks.lo]) rfl rfl rfl rfl rfl (by decide) (by decide) (by repeat (first | exact (aV.nil : aV _ _ [] _) | (show aV _ _ ((_, _) :: _) _; apply aV.one; (· exact (rfl : _ = Ty.int _ _)); (· exact rfl)))) (by exact rfl) rfl ?_
  refine dy rfl rfl (by decide) rfl rfl rfl rfl rfl rfl (by decide) (by (simp <;> omega)) (by (simp <;> omega)) ?_
  refine G8 rfl ?_
  refine aI rfl rfl rfl rfl rfl (by decide) ?_
  refine aJ rfl rfl rfl rfl (bG rfl ?_)
  refine au rfl rfl rfl rfl rfl rfl (by omega) ?_
  refine aI rfl rfl rfl rfl rfl (by decide) ?_
  refine aI rfl rfl rfl rfl rfl (by decide) ?_
  refine aJ rfl rfl rfl rfl ?_
  refine bg (E := cz) (xs := [(nth y.moves m.1).sacks.hi]) rfl rfl rfl rfl rfl (by decide) (by decide) (by repeat (first | exact (aV.nil : aV _ _ [] _) | (show aV _ _ ((_, _) :: _) _; apply aV.one; (· exact (rfl : _ = Ty.int _ _)); (· exact rfl)))) (by exact rfl) rfl ?_
  refine dy rfl rfl (by decide) rfl rfl rfl rfl rfl rfl (by decide) (by (simp <;> omega)) (by (simp <;> omega)) ?_
  refine A2 rfl (A2 rfl (aD ?_))
  refine ⟨by kernel_rfl, ?_⟩
  refine bM (aC (aA (bG rfl ?_)))
  refine cB rfl rfl (by omega) (by omega) ?_
  refine bu rfl (aD ?_)
  refine bR (⟨m.1 + 1, by omega⟩) ?_ (by show y.moves.length - (m.1 + 1) < y.moves.length - m.1; omega)
  (refine cg.mk' ?_ ?_ <;> (repeat' (first | exact aL | exact aK | refine aB ?_ (Ty.aT _) | refine aB ?_ (Ty.aF _) | refine aG rfl (Cont.aF _) ?_ | refine aB ?_ ?_)))
  all_goals skip
  all_goals first | exact Ty.fH (K6 (by omega)) | exact Ty.fH (Ic (by omega))
 refine cH (aP (aP (ah rfl (aC (aE ?_)))))
 refine ig (s := 5) rfl (Ty.fH (List.take_of_length_le (by have := m.2; omega))) ?_
 refine ig (s := 6) rfl (Ty.fH (List.take_of_length_le (by have := m.2; omega))) ?_
 refine kD (tg := 60) [(5, Ty.sl cz (cm y))] (by decide) rfl ⟨vp rfl, trivial⟩ ?_
 refine kD (tg := 61) [(6, Ty.sl cz (dI y))] (by decide) rfl ⟨vp rfl, trivial⟩ ?_
 refine ig (s := 7) (ty' := Ty.row cz 3 62 []) rfl Ty.iF ?_
 refine eJ (B := live [(1, Ty.pp (bA y)), (2, Ty.ptr 3 0), (3, Ty.ptr 4 0), (5, Ty.sl cz (cm y)), (6, Ty.sl cz (dI y)), (7, Ty.row cz 3 62 [])] [(3, Cont.cells 66 [Ty.bool false, Ty.ex (.slice none 0 0), Ty.ex (.slice none 0 0), Ty.ex (.slice none 0 0), Ty.ex (.slice none 0 0)]), (4, Cont.cells 66 (rX y (gW y).fits 81 36 40 15)), (81, Cont.mx bX 43 37 5000 (gW y).bins), (36, Cont.vec bX 37 (gW y).moves), (40, Cont.vec bX 37 (gW y).whole), (15, Cont.vec ew 4 (gW y).missed)]) ?_ ?_
 ·refine cg.mk' ?_ ?_
  ·(repeat (first | refine aB ?_ (Ty.aT _) | refine aB ?_ (Ty.aF _))); exact aL
  refine aG rfl (Cont.aF _) ?_; refine aG rfl (Cont.aF _) ?_; refine aG rfl (Cont.aF _) ?_; refine aG rfl (Cont.aF _) ?_; refine aG rfl (Cont.aF _) ?_; refine aG rfl (Cont.aF _) ?_; exact aK
 refine aA (G8 rfl (fT rfl ?_))
 refine dy rfl rfl (by decide) rfl rfl rfl rfl rfl rfl (by decide) (by (simp <;> omega)) (by (simp <;> omega)) ?_
 refine A2 rfl (aD (aC (aE (aE ?_))))
 refine ig (s := 7) (ty' := Ty.row cz 3 62 (dW y 0)) rfl (Ty.fH (Hg hr)) ?_
 refine P8 (s := 7) (tg := 62) rfl rfl ?_
 refine ig (s := 7) (ty' := Ty.win 62 0 (y.bins.length + y.moves.length) 0) rfl (by rw [qM hr]; exact Ty.O7 (by omega)) ?_
 refine eJ (B := live [(1, Ty.pp (bA y)), (2, Ty.ptr 3 0), (3, Ty.ptr 4 0), (5, Ty.sl cz (cm y)), (6, Ty.sl cz (dI y)), (7, Ty.win 62 0 (y.bins.length + y.moves.length) 0)] [(3, Cont.cells 66 [Ty.bool false, Ty.ex (.slice none 0 0), Ty.ex (.slice none 0 0), Ty.ex (.slice none 0 0), Ty.ex (.slice none 0 0)]), (4, Cont.cells 66 (rX y (gW y).fits 81 36 40 15)), (81, Cont.mx bX 43 37 5000 (gW y).bins), (36, Cont.vec bX 37 (gW y).moves), (40, Cont.vec bX 37 (gW y).whole), (15, Cont.vec ew 4 (gW y).missed), (62, Cont.vec cz 3 (dW y 0))]) ?_ ?_
 ·refine cg.mk' ?_ ?_
  ·(repeat (first | refine aB ?_ (Ty.aT _) | refine aB ?_ (Ty.aF _))); exact aL
  refine aG rfl (Cont.aF _) ?_; refine aG rfl (Cont.aF _) ?_; refine aG rfl (Cont.aF _) ?_; refine aG rfl (Cont.aF _) ?_; refine aG rfl (Cont.aF _) ?_; refine aG rfl (Cont.aF _) ?_; refine aG rfl (Cont.aF _) ?_; exact aK
 refine aA (dK rfl (aD (aC (aa ?_))))
 refine cG (fun (k : {k : Nat // k ≤ dH (cm y) (dI y)}) => live [(1, Ty.pp (bA y)), (2, Ty.ptr 3 0), (3, Ty.ptr 4 0), (5, Ty.sl cz (cm y)), (6, Ty.sl cz (dI y)), (7, Ty.win 62 0 (y.bins.length + y.moves.length) 0), (10, Ty.bool (decide (k.1 < dH (cm y) (dI y))))] [(3, Cont.cells 66 [Ty.bool false, Ty.ex (.slice none 0 0), Ty.ex (.slice none 0 0), Ty.ex (.slice none 0 0), Ty.ex (.slice none 0 0)]), (4, Cont.cells 66 (rX y (eM y k.1).fits 81 36 40 15)), (81, Cont.mx bX 43 37 5000 (eM y k.1).bins), (36, Cont.vec bX 37 (eM y k.1).moves), (40, Cont.vec bX 37 (eM y k.1).whole), (15, Cont.vec ew 4 (eM y k.1).missed), (62, Cont.vec cz 3 (dW y k.1))]) (fun k => dH (cm y) (dI y) - k.1) (⟨0, by omega⟩) ?_ fun k => ?_
 ·(refine cg.mk' ?_ ?_ <;> (repeat' (first | exact aL | exact aK | refine aB ?_ (Ty.aT _) | refine aB ?_ (Ty.aF _) | refine aG rfl (Cont.aF _) ?_ | refine aB ?_ ?_)))
  all_goals exact Ty.eF (decide_eq_true hsz).symm
 have hk := k.2
 have hnl := qM (k := k.1) hr
 have hsm := xO (k := k.1) hr
 have hsh := mJ (y := y) k.1
 have hmsl := hsh.missed
 refine aE (aE (aA (eY rfl (aD (aC ?_)))))
 refine aq rfl (fun hc4 => ?_) (fun hc4 => ?_)
 ·
  refine af (aC (aa (aE ?_)))
  have hkl : k.1 < dH (cm y) (dI y) := hc4
  refine cL mixed rfl (HM rfl ?_)
  refine aI rfl rfl rfl rfl rfl (by decide) ?_
  refine aJ rfl rfl rfl rfl (b9 rfl rfl rfl ?_)
  refine LB rfl rfl rfl rfl rfl rfl (by omega) ?_
  refine HM rfl ?_
  refine aI rfl rfl rfl rfl rfl (by decide) ?_
  refine aJ rfl rfl rfl rfl (b9 rfl rfl rfl ?_)
  refine KH rfl rfl rfl rfl rfl rfl (by omega) ?_
  refine c6 rfl rfl (by exact List.cons_ne_nil _ _) rfl (by repeat (first | exact (aV.nil : aV _ _ [] _) | (show aV _ _ ((_, _) :: _) _; apply aV.one; (· exact (rfl : _ = Ty.win _ _ _ _)); (· exact rfl)))) (by exact (rfl : _ = some [_, _])) ?_
  refine bh rfl (by exact List.cons_ne_nil _ _) rfl ?_
  refine bO rfl rfl (by decide) rfl rfl rfl rfl rfl rfl ?_
  refine aD ?_
  refine ⟨by kernel_rfl, ?_⟩
  refine aC ?_
  refine kV (J := live [(1, Ty.pp (bA y)), (2, Ty.ptr 3 0), (3, Ty.ptr 4 0), (5, Ty.sl cz (cm y)), (6, Ty.sl cz (dI y)), (7, Ty.win 62 0 (y.bins.length + y.moves.length) 0)] [(3, Cont.cells 66 [Ty.bool false, Ty.ex (.slice none 0 0), Ty.ex (.slice none 0 0), Ty.ex (.slice none 0 0), Ty.ex (.slice none 0 0)]), (4, Cont.cells 66 (rX y (eM y (k.1 + 1)).fits 81 36 40 15)), (81, Cont.mx bX 43 37 5000 (eM y (k.1 + 1)).bins), (36, Cont.vec bX 37 (eM y (k.1 + 1)).moves), (40, Cont.vec bX 37 (eM y (k.1 + 1)).whole), (15, Cont.vec ew 4 (eM y (k.1 + 1)).missed), (62, Cont.vec cz 3 (dW y k.1))]) ?_ ?_
  ·
   refine aE ?_
   refine jS (tg := 12) rfl (Cont.kW (l' := [Ty.win 62 0 y.bins.length y.moves.length, Ty.win 62 y.bins.length y.moves.length 0]) ⟨Ty.sub_eq (Kb (by omega) (by omega) (by omega)), Ty.sub_eq (Kb (by omega) (by omega) (by omega)), trivial⟩) ?_
   refine aA ?_
   refine aX rfl rfl rfl (by exact Nat.le_of_ble_eq_true rfl) ?_
   refine bP rfl rfl (by decide) rfl rfl (by exact Nat.le_of_ble_eq_true rfl) ?_
   refine eC [62] (C5 y (eE y (dW y k.1)) hr hsm) rfl (aW (bV (bT rfl rfl)) (aW (AQ (aW (qn (xs := dW y k.1) (o := 0) rfl rfl uq (by omega) (by decide) rfl) (aW (qn (xs := dW y k.1) (o := y.bins.length) rfl rfl (ur hnl) (by omega) (by decide) rfl) cP))) cP)) (by exact dU _ _) ?_
   refine bu rfl (aD (aC (aE (aA (bG rfl (bB rfl rfl rfl (aD (aC ?_))))))))
   refine aq rfl (fun hc5 => ?_) (fun hc5 => ?_)
   ·
    refine aE ?_
    have hm0 : 0 ≤ eR y (eE y (dW y k.1)) := hc5
    have hm1 : eR y (eE y (dW y k.1)) < 256 := MH hr
    refine aA ?_
    refine aR rfl rfl rfl rfl rfl (by decide) ?_
    refine aY rfl rfl (by decide) rfl rfl rfl ?_
    refine bG rfl ?_
    refine gM rfl rfl rfl rfl rfl hm0 (by omega) ?_
    refine oD (eR y (eE y (dW y k.1))).toNat 0 (z := true) rfl (by show _ * 1 = _ * 1 + 0; omega) rfl (by decide) rfl rfl rfl rfl (by omega) (by decide) rfl rfl ?_
    refine aD (aC (aE (aA (bG rfl (bB rfl rfl rfl (aD (aC ?_)))))))
    refine aq rfl (fun hc6 => ?_) (fun hc6 => ?_)
    ·
     refine aA ?_
     refine aX rfl rfl rfl (by exact Nat.le_of_ble_eq_true rfl) ?_
     refine bP rfl rfl (by decide) rfl rfl (by exact Nat.le_of_ble_eq_true rfl) ?_
     refine dM (res' := Ty.lN []) [(4, 1000), (81, 1001), (36, 1002), (40, 1003), (15, 1004), (62, 1005), (5000, 5000)] [] [(4, Cont.cells 66 (rX y true 81 36 40 15)), (81, Cont.mx bX 43 37 5000 (su y (eE y (dW y k.1)) (kB y (jP y k.1) (eM y k.1))).bins), (36, Cont.vec bX 37 (su y (eE y (dW y k.1)) (kB y (jP y k.1) (eM y k.1))).moves), (40, Cont.vec bX 37 (su y (eE y (dW y k.1)) (kB y (jP y k.1) (eM y k.1))).whole), (15, Cont.vec ew 4 (kB y (jP y k.1) (eM y k.1)).missed), (62, Cont.vec cz 3 (dW y k.1))] (P6 y hr (dW y k.1) hsm hnl (kB y (jP y k.1) (eM y k.1)) (oZ hsh)) rfl rfl (aN (aN (aN bf (kE (by decide))) (Ow (aN (aN bf (LP (by decide))) (LP (by decide))))) (aU rfl rfl)) (dD (a := 4) (b := 1000) (by decide) rfl (gr (by decide) (aN (aN (aN (aN (aN bf (dZ (by decide))) (dZ (by decide))) (dZ (by decide))) (dZ (by decide))) (aU rfl rfl))) (dD (a := 81) (b := 1001) (by decide) rfl (Iv (by decide) (by decide) rfl) (dD (a := 36) (b := 1002) (by decide) rfl (bt (by decide) rfl) (dD (a := 40) (b := 1003) (by decide) rfl (bt (by decide) rfl) (dD (a := 15) (b := 1004) (by decide) rfl (bt (by decide) rfl) (dD (a := 62) (b := 1005) (by decide) rfl (bt (by decide) rfl) pre_nil)))))) (bp (a := 4) (b := 1000) (by decide) rfl (gr (by decide) (aN (aN (aN (aN (aN bf (dZ (by decide))) (dZ (by decide))) (dZ (by decide))) (dZ (by decide))) (aU rfl rfl))) (bp (a := 81) (b := 1001) (by decide) rfl (Iv (by decide) (by decide) rfl) (bp (a := 36) (b := 1002) (by decide) rfl (bt (by decide) rfl) (bp (a := 40) (b := 1003) (by decide) rfl (bt (by decide) rfl) (bp (a := 15) (b := 1004) (by decide) rfl (bt (by decide) rfl) (bp (a := 62) (b := 1005) (by decide) rfl (bt (by decide) rfl) post_nil)))))) (aU rfl rfl) ?_
     refine aD (eT ?_)
     (refine cg.mk' ?_ ?_ <;> (repeat' (first | exact aL | exact aK | exact cv | refine aB ?_ (Ty.aT _) | refine aB ?_ (Ty.aF _) | refine aG rfl (Cont.aF _) ?_ | refine aG rfl (Cont.ct ?_) ?_ | refine bJ ?_ (Ty.aF _) | refine bJ ?_ ?_ | refine aG rfl ?_ ?_)))
     all_goals first | exact Ty.eF (congrArg pM.fits (sj hc6)) | exact Cont.pT (congrArg pM.bins (sj hc6)) | exact Cont.cy (congrArg pM.moves (sj hc6)) | exact Cont.cy (congrArg pM.whole (sj hc6)) | exact Cont.cy (ID hc6)
    refine af (eT ?_)
    (refine cg.mk' ?_ ?_ <;> (repeat' (first | exact aL | exact aK | exact cv | refine aB ?_ (Ty.aT _) | refine aB ?_ (Ty.aF _) | refine aG rfl (Cont.aF _) ?_ | refine aG rfl (Cont.ct ?_) ?_ | refine bJ ?_ (Ty.aF _) | refine bJ ?_ ?_ | refine aG rfl ?_ ?_)))
    all_goals first | exact Cont.cy (congrArg pM.missed (pg hc5 hc6)) | exact Ty.eF (Mx hc5 hc6) | exact Cont.pT (NS hc5 hc6) | exact Cont.cy (Kk hc5 hc6) | exact Cont.cy (Io hc5 hc6)
   refine af (eT ?_)
   (refine cg.mk' ?_ ?_ <;> (repeat' (first | exact aL | exact aK | exact cv | refine aB ?_ (Ty.aT _) | refine aB ?_ (Ty.aF _) | refine aG rfl (Cont.aF _) ?_ | refine aG rfl (Cont.ct ?_) ?_ | refine bJ ?_ (Ty.aF _) | refine bJ ?_ ?_ | refine aG rfl ?_ ?_)))
   all_goals first | exact Ty.eF (congrArg pM.fits (wu hc5)) | exact Cont.pT (congrArg pM.bins (wu hc5)) | exact Cont.cy (congrArg pM.moves (wu hc5)) | exact Cont.cy (congrArg pM.whole (wu hc5)) | exact Cont.cy (congrArg pM.missed (wu hc5))
  refine aE (aA (HM rfl (Gq rfl rfl rfl ?_)))
  refine gZ rfl rfl (by omega) (by omega) ?_
  refine bu rfl (aD (aC (aE (aa ?_))))
  refine cG (fun (i : {i : Nat // i ≤ y.bins.length + y.moves.length ∧ (dW y k.1).drop i = (dI y).drop i}) => live [(1, Ty.pp (bA y)), (2, Ty.ptr 3 0), (3, Ty.ptr 4 0), (5, Ty.sl cz (cm y)), (6, Ty.sl cz (dI y)), (7, Ty.win 62 0 (y.bins.length + y.moves.length) 0), (13, Ty.int .i64 ((i.1 : Nat) - 1))] [(3, Cont.cells 66 [Ty.bool false, Ty.ex (.slice none 0 0), Ty.ex (.slice none 0 0), Ty.ex (.slice none 0 0), Ty.ex (.slice none 0 0)]), (4, Cont.cells 66 (rX y (eM y (k.1 + 1)).fits 81 36 40 15)), (81, Cont.mx bX 43 37 5000 (eM y (k.1 + 1)).bins), (36, Cont.vec bX 37 (eM y (k.1 + 1)).moves), (40, Cont.vec bX 37 (eM y (k.1 + 1)).whole), (15, Cont.vec ew 4 (eM y (k.1 + 1)).missed), (62, Cont.vec cz 3 (kY (cm y) (dW y k.1) i.1))]) (fun i => i.1) (⟨y.bins.length + y.moves.length, Nat.le_refl _, by rw [List.drop_of_length_le (by omega), List.drop_of_length_le (by omega)]⟩) ?_ fun i => ?_
  ·(refine cg.mk' ?_ ?_ <;> (repeat' (first | exact aL | exact aK | refine aB ?_ (Ty.aT _) | refine aB ?_ (Ty.aF _) | refine aG rfl (Cont.aF _) ?_ | refine aG rfl ?_ ?_)))
   all_goals exact Cont.cy (by have := NN (lo := cm y) (x := dW y k.1) (by omega); rw [hnl] at this; exact this)
  have hi := i.2.1
  have hcl : (kY (cm y) (dW y k.1) i.1).length = y.bins.length + y.moves.length := by rw [NI (by omega) (by omega)]; omega
  refine aE (aE (cL mixed rfl (bG rfl (bB rfl rfl rfl (eY rfl ?_)))))
  apply aM (s := 130) rfl rfl rfl
  ·intro hg; apply aO; have hg' := of_decide_eq_true hg;(refine HM rfl ?_); refine aD ?_; exact rfl
  ·exact rfl
  ·exact rfl
  apply aM (s := 130) rfl rfl rfl
  ·intro hg; apply aO; have hg' := of_decide_eq_true hg;(refine bG rfl ?_); refine aD ?_; exact rfl
  ·exact rfl
  ·exact rfl
  apply aM (s := 130) rfl rfl rfl
  ·intro hg; apply aH (s := 131) rfl (by (rw [hg]; rfl)); apply aH (s := 132) rfl (by (rw [hg]; rfl)); apply aO; have hg' := of_decide_eq_true hg;(refine lq rfl rfl rfl rfl rfl rfl (by omega) (by omega) ?_); refine aD ?_; exact rfl
  ·exact rfl
  ·exact rfl
  apply aM (s := 130) rfl rfl rfl
  ·intro hg; apply aH (s := 133) rfl (by (rw [hg]; rfl)); apply aO; have hg' := of_decide_eq_true hg;(refine qF (E := cz) (((i.1 : Nat) : Int) - 1).toNat 0 (ty := Ty.int .i64 (nth (kY (cm y) (dW y k.1) i.1) (((i.1 : Nat) : Int) - 1).toNat)) rfl (by show 0 + _ = _ * 1 + 0; omega) rfl (by decide) rfl rfl (by omega) rfl ?_); refine aD ?_; exact rfl
  ·exact rfl
  ·exact rfl
  apply aM (s := 130) rfl rfl rfl
  ·intro hg; apply aO; have hg' := of_decide_eq_true hg;(refine fT rfl ?_); refine aD ?_; exact rfl
  ·exact rfl
  ·exact rfl
  apply aM (s := 130) rfl rfl rfl
  ·intro hg; apply aO; have hg' := of_decide_eq_true hg;(refine bG rfl ?_); refine aD ?_; exact rfl
  ·exact rfl
  ·exact rfl
  apply aM (s := 130) rfl rfl rfl
  ·intro hg; apply aH (s := 135) rfl (by (rw [hg]; rfl)); apply aH (s := 136) rfl (by (rw [hg]; rfl)); apply aO; have hg' := of_decide_eq_true hg;(refine gQ rfl rfl rfl rfl rfl rfl (by omega) (by omega) ?_); refine aD ?_; exact rfl
  ·exact rfl
  ·exact rfl
  apply aM (s := 130) rfl rfl rfl
  ·intro hg; apply aH (s := 137) rfl (by (rw [hg]; rfl)); apply aO; have hg' := of_decide_eq_true hg;(refine aJ rfl rfl rfl rfl ?_); refine aD ?_; exact rfl
  ·exact rfl
  ·exact rfl
  apply aM (s := 130) rfl rfl rfl
  ·intro hg; apply aH (s := 134) rfl (by (rw [hg]; rfl)); apply aH (s := 138) rfl (by (rw [hg]; rfl)); apply aO; have hg' := of_decide_eq_true hg;(refine bB rfl rfl rfl ?_); refine aD ?_; exact rfl
  ·exact rfl
  ·exact rfl
  refine eA rfl rfl (aD ?_)
  refine ⟨by kernel_rfl, ?_⟩
  refine aC ?_
  refine cC rfl (fun hc7 => ?_) (fun hc7 => ?_)
  ·
   refine af (aC (aa (aE ?_)))
   have hcc := hc7
   simp only [Bool.and_eq_true, decide_eq_true_eq] at hcc
   have hin : (((i.1 : Nat) : Int) - 1).toNat = i.1 - 1 := by omega
   have hq : nth (dW y k.1) (i.1 - 1) = nth (dI y) (i.1 - 1) := by have := hcc.2; rw [hin, xA (by omega) (by omega)] at this; exact this
   refine aA (HM rfl (bG rfl (fT rfl (bG rfl ?_))))
   refine gQ rfl rfl rfl rfl rfl rfl (by omega) (by omega) ?_
   refine aJ rfl rfl rfl rfl ?_
   refine lq rfl rfl rfl rfl rfl rfl (by omega) (by omega) ?_
   refine oD (E := cz) (((i.1 : Nat) : Int) - 1).toNat 0 (z := nth (cm y) (((i.1 : Nat) : Int) - 1).toNat) rfl (by show 0 + _ = _ * 1 + 0; omega) rfl (by decide) rfl rfl rfl rfl (by omega) (by decide) rfl rfl ?_
   refine aD (aC (aA (bG rfl ?_)))
   refine gZ rfl rfl (by omega) (by omega) ?_
   refine bu rfl (aD (bM ?_))
   refine bR (⟨i.1 - 1, by omega, HG hr (by omega) (by omega) i.2.2 hq⟩) ?_ (by show i.1 - 1 < i.1; omega)
   (refine cg.mk' ?_ ?_ <;> (repeat' (first | exact aL | exact aK | refine aB ?_ (Ty.aT _) | refine aB ?_ (Ty.aF _) | refine aG rfl (Cont.aF _) ?_ | refine aG rfl ?_ ?_ | refine aB ?_ ?_)))
   all_goals skip
   all_goals first | exact Ty.bI (by show ((i.1 : Nat) : Int) - 1 - 1 = ((i.1 - 1 : Nat) : Int) - 1; omega) | exact Cont.cy (by rw [hin]; exact JB hr (by omega) (by omega))
  refine cH (aP (aP (ah rfl (aC (aE ?_)))))
  have hcc := hc7
  refine aA (bG rfl (bB rfl rfl rfl (dK rfl (aD (aC (aE (aA (eY rfl (aD ?_)))))))))
  refine aC ?_
  refine aq rfl (fun hc8 => ?_) (fun hc8 => ?_)
  ·
   have hi0 : ((i.1 : Nat) : Int) - 1 ≥ 0 := hc8
   have hin : (((i.1 : Nat) : Int) - 1).toNat = i.1 - 1 := by omega
   have hne : nth (dW y k.1) (i.1 - 1) ≠ nth (dI y) (i.1 - 1) := fun e => by
    rw [Bool.and_eq_false_iff, decide_eq_false_iff_not, decide_eq_false_iff_not, hin, xA (by omega) (by omega)] at hcc
    rcases hcc with h | h
    ·omega
    exact h e
   have hst := P1 hr hkl (i := i.1) (by omega) (by omega) i.2.2 hne
   have hk2 : k.1 + 1 ≤ dH (cm y) (dI y) := by omega
   have hbo : decide (((i.1 : Nat) : Int) - 1 ≥ 0) = decide (k.1 + 1 < dH (cm y) (dI y)) := by rw [decide_eq_true hi0, decide_eq_true hst.1]
   have hnb := NW (k := k.1) hr (show i.1 - 1 < y.bins.length + y.moves.length by omega)
   have hcn := xA (y := y) (k := k.1) (i := i.1) (by omega) (by omega)
   have hnx : (kY (cm y) (dW y k.1) i.1).set (((i.1 : Nat) : Int) - 1).toNat (nth (kY (cm y) (dW y k.1) i.1) (((i.1 : Nat) : Int) - 1).toNat + 1) = dW y (k.1 + 1) := by rw [hin, hcn]; exact hst.2
   refine aA (HM rfl (bG rfl ?_))
   refine lq rfl rfl rfl rfl rfl rfl (by omega) (by omega) ?_
   refine qF (E := cz) (((i.1 : Nat) : Int) - 1).toNat 0 (ty := Ty.int .i64 (nth (kY (cm y) (dW y k.1) i.1) (((i.1 : Nat) : Int) - 1).toNat)) rfl (by show 0 + _ = _ * 1 + 0; omega) rfl (by decide) rfl rfl (by omega) rfl ?_
   refine cB rfl rfl (by rw [hin, hcn]; omega) (by rw [hin, hcn]; omega) ?_
   refine lq rfl rfl rfl rfl rfl rfl (by omega) (by omega) ?_
   refine oD (E := cz) (((i.1 : Nat) : Int) - 1).toNat 0 (z := nth (kY (cm y) (dW y k.1) i.1) (((i.1 : Nat) : Int) - 1).toNat + 1) rfl (by show 0 + _ = _ * 1 + 0; omega) rfl (by decide) rfl rfl rfl rfl (by omega) (by decide) rfl rfl ?_
   refine aD (bM ?_)
   skip
   refine bR (⟨k.1 + 1, hk2⟩) ?_ (by show dH (cm y) (dI y) - (k.1 + 1) < dH (cm y) (dI y) - k.1; omega)
   (refine cg.mk' ?_ ?_ <;> (repeat' (first | exact aL | exact aK | refine aB ?_ (Ty.aT _) | refine aB ?_ (Ty.aF _) | refine aG rfl (Cont.aF _) ?_ | refine aG rfl ?_ ?_ | refine aB ?_ ?_)))
   all_goals skip
   all_goals first | exact Ty.eF hbo | exact Cont.cy hnx
  refine af (bM ?_)
  (have hi0 : ¬ ((i.1 : Nat) : Int) - 1 ≥ 0 := hc8; have h0 : i.1 = 0 := (by omega); have hls := QN hr hkl (by have := i.2.2; rw [h0] at this; exact this); have hk2 : k.1 + 1 ≤ dH (cm y) (dI y) := (by omega); have hbo : decide (((i.1 : Nat) : Int) - 1 ≥ 0) = decide (k.1 + 1 < dH (cm y) (dI y)) := (by rw [decide_eq_false hi0, decide_eq_false (by omega)]); have hnx : kY (cm y) (dW y k.1) i.1 = dW y (k.1 + 1) := (by rw [h0]; exact hls.2))
  refine bR (⟨k.1 + 1, hk2⟩) ?_ (by show dH (cm y) (dI y) - (k.1 + 1) < dH (cm y) (dI y) - k.1; omega)
  (refine cg.mk' ?_ ?_ <;> (repeat' (first | exact aL | exact aK | refine aB ?_ (Ty.aT _) | refine aB ?_ (Ty.aF _) | refine aG rfl (Cont.aF _) ?_ | refine aG rfl ?_ ?_ | refine aB ?_ ?_)))
  all_goals skip
  all_goals first | exact Ty.eF hbo | exact Cont.cy hnx
 refine cH (aP (aP (ah rfl (aC (aE ?_)))))
 have hke : k.1 = dH (cm y) (dI y) := by have h1 : ¬ k.1 < dH (cm y) (dI y) := hc4; have h2 := k.2; omega
 have hsh := mJ (y := y) k.1
 refine jZ (tg := 5000) [] [(81, Cont.vec vP 43 (eM y k.1).bins)] (by decide) rfl trivial ⟨NQ rfl rfl (fun _ => rfl), trivial⟩ ?_
 refine jZ (tg := 81) [] [(4, Cont.cells 66 [Ty.bool (eM y k.1).fits, Ty.sl vP (eM y k.1).bins, Ty.vs 36 y.moves.length, Ty.vs 40 (y.D + 1), Ty.vs 15 256])] (by decide) rfl trivial ⟨fP rfl rfl ⟨bE rfl, iX rfl hsh.bins (by decide), bE rfl, bE rfl, bE rfl, trivial⟩, trivial⟩ ?_
 refine jZ (tg := 36) [] [(4, Cont.cells 66 [Ty.bool (eM y k.1).fits, Ty.sl vP (eM y k.1).bins, Ty.sl bX (eM y k.1).moves, Ty.vs 40 (y.D + 1), Ty.vs 15 256])] (by decide) rfl trivial ⟨fP rfl rfl ⟨bE rfl, bE rfl, iX rfl hsh.moves (by decide), bE rfl, bE rfl, trivial⟩, trivial⟩ ?_
 refine jZ (tg := 40) [] [(4, Cont.cells 66 [Ty.bool (eM y k.1).fits, Ty.sl vP (eM y k.1).bins, Ty.sl bX (eM y k.1).moves, Ty.sl bX (eM y k.1).whole, Ty.vs 15 256])] (by decide) rfl trivial ⟨fP rfl rfl ⟨bE rfl, bE rfl, bE rfl, iX rfl hsh.whole (by decide), bE rfl, trivial⟩, trivial⟩ ?_
 refine jZ (tg := 15) [] [(4, Cont.cells 66 [Ty.bool (eM y k.1).fits, Ty.sl vP (eM y k.1).bins, Ty.sl bX (eM y k.1).moves, Ty.sl bX (eM y k.1).whole, Ty.sl ew (eM y k.1).missed])] (by decide) rfl trivial ⟨fP rfl rfl ⟨bE rfl, bE rfl, bE rfl, bE rfl, iX rfl hsh.missed (by decide), trivial⟩, trivial⟩ ?_
 refine eJ (B := live [(2, Ty.ptr 3 0), (3, Ty.ptr 4 0)] [(3, Cont.cells 66 [Ty.bool false, Ty.ex (.slice none 0 0), Ty.ex (.slice none 0 0), Ty.ex (.slice none 0 0), Ty.ex (.slice none 0 0)]), (4, Cont.cells 66 (yl (eM y k.1)))]) ?_ ?_
 ·refine cg.mk' ?_ ?_
  ·(repeat (first | refine aB ?_ (Ty.aT _) | refine aB ?_ (Ty.aF _))); exact aL
  refine aG rfl (Cont.aF _) ?_; refine aG rfl (Cont.aF _) ?_; exact aK
 refine aA ?_
 refine bP rfl rfl (by decide) rfl rfl (by exact Nat.le_of_ble_eq_true rfl) ?_
 refine bO rfl rfl (by decide) rfl rfl rfl rfl rfl rfl ?_
 refine aD (aC (az ?_))
 refine jx rfl rfl rfl rfl (by decide) rfl rfl rfl ?_
 all_goals exact av rfl rfl (congrArg (fun n => Ty.agg (yl (eM y n))) hke)
end Go.Proofs.YtelbollidfdcjaaGreat
namespace Go.Proofs.YtelbollidfdcjaaGreat
open Go Go.T
set_option maxHeartbeats 8000000
theorem Ku {y : aj} {q : Int} (hr : y.bw) (h : (!y.time q) = false) : ∃ t : Nat, q = t ∧ t ≤ y.D := by
 have h : y.time q = true := by simpa using h
 unfold aj.time at h
 have h1 : 0 ≤ q ∧ q ≤ y.days := dL.1 h
 have := D_eq hr
 exact ⟨q.toNat, by omega, by omega⟩
attribute [local irreducible] aQ fY cQ jA rS fM gz aj.kept aj.cells bH c7 bL fQ bq gy aj.time Dp
attribute [local irreducible] gP e9 mA oA iG iE iK g9 iL oc iA oM dV fo n6 gC oW nth fS dY ay dP bodyPost Exit.then Exit.inBlock Code.wp Code.wpIn n7 hU oX oR iB eW cM cN bodyPostM dX
set_option maxRecDepth 100000 in
theorem MF (y : aj) (fl : List b8) (a : List Int) (hr : y.bw) (hfl : fl.length = y.bins.length * (y.D + 1) + y.moves.length) (hl : a.length = fl.length) : dP Tryz.prog 120 [Ty.pp (lB y fl a)] (mm (fQ y a)) := by
 refine ak Tryz.func120 rfl (by decide) Tryz.ntmps120 (by exact Nat.le_of_ble_eq_true rfl) fun w0 M0 => ?_
 have h1 := hr.bins
 have h2 := hr.days
 have h3 := D_eq hr
 have h4 := hr.moves
 have h5 : y.bins.length * (y.D + 1) ≤ 4 * 6 := Nat.mul_le_mul h1.2 (by omega)
 refine aE (aA ?_)
 refine bh rfl (by exact List.cons_ne_nil _ _) rfl ?_
 refine aD (aC (aE (aA ?_)))
 refine bh rfl (by exact List.cons_ne_nil _ _) rfl ?_
 refine aD (aC (aE (aE (aA (iq rfl (bW rfl ?_))))))
 refine aI rfl rfl rfl rfl rfl (by decide) ?_
 refine aI rfl rfl rfl rfl rfl (by decide) ?_
 refine aJ rfl rfl rfl rfl (b9 rfl rfl rfl (bG rfl (aD (aC (aa ?_)))))
 refine cG (fun (k : {k : Nat // k ≤ y.bins.length}) => live [(0, Ty.pp (lB y fl a)), (2, Ty.ptr 3 0), (3, Ty.ptr 4 0), (9, Ty.sl fL y.bins), (10, Ty.int .i64 y.bins.length), (11, Ty.int .i64 (k.1 : Nat))] [(3, Cont.cells 30 [Ty.ex (.slice none 0 0), Ty.ex (.slice none 0 0)]), (4, Cont.cells 30 [Ty.row cz 3 26 (gy y a k.1), Ty.ex (.slice none 0 0)])]) (fun k => y.bins.length - k.1) (⟨0, by omega⟩) ?_ fun k => ?_
 ·(refine cg.mk' ?_ ?_ <;> (repeat' (first | exact aL | exact aK | exact cv | refine aB ?_ (Ty.aT _) | refine aB ?_ (Ty.aF _) | refine aG rfl (Cont.aF _) ?_ | refine aG rfl (Cont.ct ?_) ?_ | refine bJ ?_ (Ty.aF _) | refine bJ ?_ ?_)))
  all_goals exact DK vD
 have hk := k.2
 have hfk := wh (y := y) (a := a) k.1
 refine aE (aA (bB rfl rfl rfl (aD (aC (aE ?_)))))
 refine aq rfl (fun hc1 => ?_) (fun hc1 => ?_)
 ·
  refine af (aC (aE (aa (aE (aA (bG rfl (bu rfl (aD (aC ?_)))))))))
  have hkl : y.kept k.1 0 < a.length := by have := mz (y := y) (t := 0) (show k.1 < y.bins.length by omega) (Nat.zero_le _); omega
  refine cL mixed rfl ?_
  refine aR rfl rfl rfl rfl rfl (by decide) ?_
  refine aY rfl rfl (by decide) rfl rfl rfl ?_
  refine iq rfl (bW rfl ?_)
  refine aI rfl rfl rfl rfl rfl (by decide) ?_
  refine aJ rfl rfl rfl rfl (iq rfl (bG rfl ?_))
  refine eC [] (wm y hr k.1 0 (by omega) (Nat.zero_le _)) rfl (aW (kX (l1 := bA y) (l2 := [Ty.sl dS fl, Ty.sl cz a]) rfl rfl) (aW (bV (bT rfl rfl)) (aW (bV (bT rfl rfl)) cP))) (by exact dU _ _) ?_
  refine au rfl rfl rfl rfl rfl rfl (by omega) ?_
  refine aJ rfl rfl rfl rfl ?_
  refine bg (E := cz) (xs := [_]) rfl rfl rfl rfl rfl (by decide) (by decide) (by repeat (first | exact (aV.nil : aV _ _ [] _) | (show aV _ _ ((_, _) :: _) _; apply aV.one; (· exact (rfl : _ = Ty.int _ _)); (· exact rfl)))) (by exact rfl) rfl ?_
  refine dy rfl rfl (by decide) rfl rfl rfl rfl rfl rfl (by decide) (by (simp <;> omega)) (by (simp <;> omega)) ?_
  refine aR rfl rfl rfl rfl rfl (by decide) ?_
  refine cr rfl rfl (by decide) rfl rfl (by exact (rfl : _ = Ty.row _ _ _ _)) rfl (by exact Nat.le_of_ble_eq_true rfl) rfl rfl (by exact rfl) ?_
  refine aD ?_
  refine ⟨by kernel_rfl, ?_⟩
  refine bM (aC (aA ?_))
  refine cB rfl rfl (by omega) (by omega) ?_
  refine bG rfl (aD ?_)
  refine bR (⟨k.1 + 1, by omega⟩) ?_ (by show y.bins.length - (k.1 + 1) < y.bins.length - k.1; omega)
  (refine cg.mk' ?_ ?_ <;> (repeat' (first | exact aL | exact aK | exact cv | refine aB ?_ (Ty.aT _) | refine aB ?_ (Ty.aF _) | refine aG rfl (Cont.aF _) ?_ | refine aG rfl (Cont.ct ?_) ?_ | refine bJ ?_ (Ty.aF _) | refine bJ ?_ ?_)))
  all_goals skip
  all_goals exact Ty.fH (uj _)
 refine cH (aP (aP (ah rfl (aC (aE (cL mixed rfl (iq rfl (bW rfl ?_))))))))
 refine aI rfl rfl rfl rfl rfl (by decide) ?_
 refine aJ rfl rfl rfl rfl (iq rfl (bW rfl ?_))
 refine aI rfl rfl rfl rfl rfl (by decide) ?_
 refine aJ rfl rfl rfl rfl (b9 rfl rfl rfl (iq rfl (bW rfl ?_)))
 refine aI rfl rfl rfl rfl rfl (by decide) ?_
 refine aI rfl rfl rfl rfl rfl (by decide) ?_
 refine aJ rfl rfl rfl rfl (b9 rfl rfl rfl ?_)
 refine gZ rfl rfl (by omega) (by omega) ?_
 refine B0 (lo := y.bins.length * (y.D + 1)) rfl (by exact congrArg (Ty.int .i64) (by rw [hfl]; omega : (fl.length : Int) - (y.moves.length : Int) = ((y.bins.length * (y.D + 1) : Nat) : Int))) rfl rfl rfl rfl (by omega) ?_
 refine aZ (um _ (by rw [List.length_drop]; omega)) rfl rfl rfl rfl rfl ?_
 refine aR rfl rfl rfl rfl rfl (by decide) ?_
 refine cr rfl rfl (by decide) rfl rfl (by exact (rfl : _ = Ty.sl _ _)) rfl (by exact Nat.le_of_ble_eq_true rfl) rfl rfl (by exact rfl) ?_
 refine aD ?_
 refine ⟨by kernel_rfl, ?_⟩
 refine aC (aE (aA ?_))
 refine bP rfl rfl (by decide) rfl rfl (by exact Nat.le_of_ble_eq_true rfl) ?_
 refine bO rfl rfl (by decide) rfl rfl rfl rfl rfl rfl ?_
 refine aD (aC (az ?_))
 refine jx rfl rfl rfl rfl (by decide) rfl rfl rfl ?_
 exact A9 (ts := fR (fQ y a)) (mC (rO (by decide) (show gy y a k.1 = (fQ y a).first by rw [show k.1 = y.bins.length by have := k.2; omega]; exact congrArg dF.first (told_eq y a))) (mC (av rfl rfl (congrArg (Ty.sl cz) (congrArg dF.bY (told_eq y a)))) x6))
set_option maxRecDepth 100000 in
theorem MS (y : aj) (hs : y.Small) (p q v : Int) : dP Tryz.prog 49 [eB y, Ty.int .i64 p, Ty.int .i64 q, Ty.int .i64 v] (Ty.lN [mm (gz y p q v), Ty.int .i64 (fM y p q v)]) := by
 refine ak Tryz.func49 rfl (by decide) Tryz.ntmps49 (by exact Nat.le_of_ble_eq_true rfl) fun w0 M0 => ?_
 refine aE (aA (bF rfl ?_))
 refine bh rfl (by exact List.cons_ne_nil _ _) rfl ?_
 refine bu rfl (aD (aC (aE (aE (aA ?_)))))
 refine aX rfl rfl rfl (by exact Nat.le_of_ble_eq_true rfl) ?_
 refine bG rfl (aZ (wE y hs p) rfl rfl rfl rfl rfl (bu rfl (aD (aC (aE (aA (bG rfl (bB rfl rfl rfl (aD ?_)))))))))
 refine aC ?_
 refine dJ rfl (fun hc1 => ?_) (fun hc1 => ?_)
 ·
  refine aE (aA ?_)
  refine c6 rfl rfl (by exact List.cons_ne_nil _ _) rfl (by repeat (exact (aV.nil : aV _ _ [] _))) (by exact (rfl : _ = some [_, _])) ?_
  refine bG rfl ?_
  refine bO rfl rfl (by decide) rfl rfl rfl rfl rfl rfl ?_
  refine bu rfl (aD (aC (az (aS ?_))))
  refine gL rfl rfl rfl rfl rfl (by decide) rfl rfl rfl ?_ ?_
  all_goals skip
  all_goals first | exact mD (OB hc1).2 | exact av rfl rfl (congrArg (Ty.int .i64) (OB hc1).1)
 refine af (aC (aE (aE (aA ?_))))
 refine aX rfl rfl rfl (by exact Nat.le_of_ble_eq_true rfl) ?_
 refine bG rfl (aZ (JL y q) rfl rfl rfl rfl rfl (dr rfl (aD (aC ?_))))
 refine cC rfl (fun hc2 => ?_) (fun hc2 => ?_)
 ·
  refine aE (aA ?_)
  refine c6 rfl rfl (by exact List.cons_ne_nil _ _) rfl (by repeat (exact (aV.nil : aV _ _ [] _))) (by exact (rfl : _ = some [_, _])) ?_
  refine bO rfl rfl (by decide) rfl rfl rfl rfl rfl rfl ?_
  refine bu rfl (aD (aC (az (aS ?_))))
  refine gL rfl rfl rfl rfl rfl (by decide) rfl rfl rfl ?_ ?_
  all_goals skip
  all_goals first | exact mD (Nq hc1 hc2).2 | exact av rfl rfl (congrArg (Ty.int .i64) (Nq hc1 hc2).1)
 refine af (aC (aE ?_))
 have hkn : c7 y p = 0 := hc1
 have htq : (!y.time q) = false := hc2
 obtain ⟨hr, b, rfl, hb⟩ := HH hkn
 obtain ⟨t, rfl, ht⟩ := Ku hr htq
 have hk := tJ (c := nth bL) hb ht
 have hf34 : (aQ y (nth bL)).length ≤ 34 := jC hr
 refine cL mixed rfl ?_
 refine aX rfl rfl rfl (by exact Nat.le_of_ble_eq_true rfl) ?_
 refine aZ (rF) rfl rfl rfl rfl rfl ?_
 refine dM (res' := Ty.pp (mM y 2000 1000 (aQ y (nth bL)).length (aQ y (nth bL)).length)) [(2000, 23), (1000, 31)] [2000, 1000] [(2000, Cont.vec dS 187 (aQ y (nth bL))), (1000, Cont.vec cz 3 (fY (aQ y (nth bL))))] (pL y hr bL jU) rfl rfl (aN (aN bf (aU rfl rfl)) (aU rfl rfl)) pre_nil (bp (a := 2000) (b := 23) (by decide) rfl (bt (by decide) rfl) (bp (a := 1000) (b := 31) (by decide) rfl (bt (by decide) rfl) post_nil)) (fB (aN (aN (aN (aN (aN (aN bf (dZ (by decide))) (dZ (by decide))) (aU rfl rfl)) (aU rfl rfl)) (aU rfl rfl)) (aU rfl rfl))) ?_
 refine Ly rfl (aD ?_)
 refine ⟨by kernel_rfl, ?_⟩
 refine aC (aE (aA (iq rfl (bG rfl (bG rfl ?_)))))
 refine eC [] (wm y hr b t hb ht) rfl (aW (kX (l1 := bA y) (l2 := [Ty.vs 2000 (aQ y (nth bL)).length, Ty.vs 1000 (aQ y (nth bL)).length]) rfl rfl) (aW (bV (bT rfl rfl)) (aW (bV (bT rfl rfl)) cP))) (by exact dU _ _) ?_
 refine bu rfl (aD (aC (aE (aE ?_))))
 refine eJ (B := live [(3, Ty.int .i64 v), (8, Ty.ptr 9 0), (11, Ty.pp (mM y 2000 1000 (aQ y (nth bL)).length (aQ y (nth bL)).length)), (12, Ty.int .i64 ((y.kept b t) : Nat))] [(9, Cont.cells 30 [Ty.ex (.slice none 0 0), Ty.ex (.slice none 0 0)]), (2000, Cont.vec dS 187 (aQ y (nth bL))), (1000, Cont.vec cz 3 (fY (aQ y (nth bL))))]) ?_ ?_
 ·refine cg.mk' ?_ ?_
  ·(repeat (first | refine aB ?_ (Ty.aT _) | refine aB ?_ (Ty.aF _))); exact aL
  refine aG rfl (Cont.aF _) ?_; refine aG rfl (Cont.aF _) ?_; refine aG rfl (Cont.aF _) ?_; exact aK
 refine aA (iq rfl (bW rfl ?_))
 refine aI rfl rfl rfl rfl rfl (by decide) ?_
 refine aJ rfl rfl rfl rfl (bG rfl ?_)
 refine dG rfl rfl rfl rfl rfl (by omega) ?_
 refine jr (E := dS) (y.kept b t) rfl (by rfl) rfl (by decide) rfl rfl rfl (by omega) ?_
 refine bh rfl (by exact List.cons_ne_nil _ _) rfl ?_
 refine bO rfl rfl (by decide) rfl rfl rfl rfl rfl rfl ?_
 refine aD (aC (aE (aA (bG rfl ?_))))
 refine aR rfl rfl rfl rfl rfl (by decide) ?_
 refine aY rfl rfl (by decide) rfl rfl rfl ?_
 refine aR rfl rfl rfl rfl rfl (by decide) ?_
 refine aY rfl rfl (by decide) rfl rfl rfl ?_
 refine aZ (uL _ _ _) rfl rfl rfl rfl rfl (dr rfl (aD (aC ?_)))
 refine cC rfl (fun hc3 => ?_) (fun hc3 => ?_)
 ·
  refine aE ?_
  have hv5 : (!Dp y b t v) = true := by unfold Dp; exact hc3
  have e3 : 6 = fM y ((b : Nat) : Int) ((t : Nat) : Int) v ∧ (⟨[], []⟩ : dF) = gz y ((b : Nat) : Int) ((t : Nat) : Int) v := Nm hkn htq hv5
  refine aA ?_
  refine c6 rfl rfl (by exact List.cons_ne_nil _ _) rfl (by repeat (exact (aV.nil : aV _ _ [] _))) (by exact (rfl : _ = some [_, _])) ?_
  refine bO rfl rfl (by decide) rfl rfl rfl rfl rfl rfl ?_
  refine bu rfl (aD (aC (az (aS ?_))))
  refine gL rfl rfl rfl rfl rfl (by decide) rfl rfl rfl ?_ ?_
  all_goals skip
  all_goals first | exact mD (e3).2 | exact av rfl rfl (congrArg (Ty.int .i64) (e3).1)
 refine af (aC (aE ?_))
 have hv3 : Dp y b t v = true := by unfold Dp; exact eZ hc3
 have hv4 : (!Dp y b t v) = false := by rw [hv3]; rfl
 refine eJ (B := live [(3, Ty.int .i64 v), (8, Ty.ptr 9 0), (11, Ty.pp (mM y 2000 1000 (aQ y (nth bL)).length (aQ y (nth bL)).length)), (12, Ty.int .i64 ((y.kept b t) : Nat))] [(9, Cont.cells 30 [Ty.ex (.slice none 0 0), Ty.ex (.slice none 0 0)]), (2000, Cont.vec dS 187 (aQ y (nth bL))), (1000, Cont.vec cz 3 (fY (aQ y (nth bL))))]) ?_ ?_
 ·refine cg.mk' ?_ ?_
  ·(repeat (first | refine aB ?_ (Ty.aT _) | refine aB ?_ (Ty.aF _))); exact aL
  refine aG rfl (Cont.aF _) ?_; refine aG rfl (Cont.aF _) ?_; refine aG rfl (Cont.aF _) ?_; exact aK
 refine cL mixed rfl (iq rfl (bW rfl ?_))
 refine aI rfl rfl rfl rfl rfl (by decide) ?_
 refine aJ rfl rfl rfl rfl (bG rfl (iq rfl (bW rfl ?_)))
 refine aI rfl rfl rfl rfl rfl (by decide) ?_
 refine aJ rfl rfl rfl rfl (bG rfl (iq rfl (bW rfl ?_)))
 refine aI rfl rfl rfl rfl rfl (by decide) ?_
 refine aJ rfl rfl rfl rfl (bG rfl (bG rfl (bG rfl (bG rfl ?_))))
 refine dG rfl rfl rfl rfl rfl (by omega) ?_
 refine aR rfl rfl rfl rfl rfl (by decide) ?_
 refine sM (E := dS) (i := (y.kept b t)) (o := 2) (s := 4) (z := ⟨(nth (aQ y (nth bL)) (y.kept b t)).src, (nth (aQ y (nth bL)) (y.kept b t)).dst, v, (nth (aQ y (nth bL)) (y.kept b t)).hi⟩) rfl rfl rfl (by decide) rfl rfl rfl rfl (by omega) (by decide) rfl rfl ?_
 refine dG rfl rfl rfl rfl rfl (by omega) ?_
 refine aR rfl rfl rfl rfl rfl (by decide) ?_
 refine sM (E := dS) (i := (y.kept b t)) (o := 3) (s := 4) (z := ⟨(nth (aQ y (nth bL)) (y.kept b t)).src, (nth (aQ y (nth bL)) (y.kept b t)).dst, v, v⟩) rfl rfl rfl (by decide) rfl rfl rfl rfl (by rw [List.length_set]; omega) (by decide) rfl (by rw [iw (by omega), if_pos rfl]; rfl) ?_
 refine dG rfl rfl rfl rfl rfl (by omega) ?_
 refine jG (E := cz) (i := (y.kept b t)) (z := v) rfl rfl rfl (by decide) rfl rfl rfl rfl (by rw [show (fY (aQ y (nth bL))).length = (aQ y (nth bL)).length by unfold fY; rw [List.length_map]]; omega) (by decide) rfl rfl ?_
 refine aD ?_
 refine ⟨by kernel_rfl, ?_⟩
 refine aC (aE (aE ?_))
 refine jS (tg := 2000) rfl (Cont.cy (show _ = (jA y b t v) by rw [List.set_set]; unfold jA jc; rfl)) ?_
 refine jS (tg := 1000) rfl (Cont.cy (show _ = fY (jA y b t v) by unfold jA; exact MW)) ?_
 have hFl : (jA y b t v).length = (aQ y (nth bL)).length := xe
 refine eJ (B := live [(8, Ty.ptr 9 0), (11, Ty.pp (mM y 2000 1000 (aQ y (nth bL)).length (aQ y (nth bL)).length))] [(9, Cont.cells 30 [Ty.ex (.slice none 0 0), Ty.ex (.slice none 0 0)]), (2000, Cont.vec dS 187 (jA y b t v)), (1000, Cont.vec cz 3 (fY (jA y b t v)))]) ?_ ?_
 ·refine cg.mk' ?_ ?_
  ·(repeat (first | refine aB ?_ (Ty.aT _) | refine aB ?_ (Ty.aF _))); exact aL
  refine aG rfl (Cont.aF _) ?_; refine aG rfl (Cont.aF _) ?_; refine aG rfl (Cont.aF _) ?_; exact aK
 refine ig (s := 11) rfl (Ty.sub_eq (show Ty.pp (mM y 2000 1000 (aQ y (nth bL)).length (aQ y (nth bL)).length) = Ty.pp (mM y 2000 1000 (jA y b t v).length (jA y b t v).length) by rw [hFl])) ?_
 refine kD (tg := 2000) [(11, Ty.pp (eG y (jA y b t v) 1000 (jA y b t v).length))] (by decide) rfl ⟨uS rfl ⟨bE rfl, bE rfl, bE rfl, bE rfl, iX rfl rfl (by decide), bE rfl, trivial⟩, trivial⟩ ?_
 have hR := zP hr hb ht hv3
 refine eJ (B := live [(8, Ty.ptr 9 0), (11, Ty.pp (eG y (jA y b t v) 1000 (jA y b t v).length))] [(9, Cont.cells 30 [Ty.ex (.slice none 0 0), Ty.ex (.slice none 0 0)]), (1000, Cont.vec cz 3 (fY (jA y b t v)))]) ?_ ?_
 ·refine cg.mk' ?_ ?_
  ·(repeat (first | refine aB ?_ (Ty.aT _) | refine aB ?_ (Ty.aF _))); exact aL
  refine aG rfl (Cont.aF _) ?_; refine aG rfl (Cont.aF _) ?_; exact aK
 refine aA (iq rfl ?_)
 refine dM [(1000, 1000)] [] [(1000, Cont.vec cz 3 (cQ (jA y b t v) (y.cells + 1) (fY (jA y b t v))).2.2)] (mH y (jA y b t v) (fY (jA y b t v)) hR) rfl rfl (aN bf (fB (aN (aN (aN (aN (aN (aN bf (dZ (by exact List.mem_cons_self))) (aU rfl rfl)) (aU rfl rfl)) (aU rfl rfl)) (aU rfl rfl)) (aU rfl rfl)))) (dD (a := 1000) (b := 1000) (by exact List.mem_cons_self) rfl (bt (by exact List.mem_cons_self) rfl) pre_nil) (bp (a := 1000) (b := 1000) (by decide) rfl (bt (by decide) rfl) post_nil) (aU rfl rfl) ?_
 refine dr rfl (aD (aC ?_))
 refine cC rfl (fun hc4 => ?_) (fun hc4 => ?_)
 ·
  refine aE ?_
  have hx4 : (rS y b t v).2.1 = true := by unfold rS; exact A8 hc4
  have e4 : 6 = fM y ((b : Nat) : Int) ((t : Nat) : Int) v ∧ (⟨[], []⟩ : dF) = gz y ((b : Nat) : Int) ((t : Nat) : Int) v := Nn hkn htq hv4 hx4
  refine aA ?_
  refine c6 rfl rfl (by exact List.cons_ne_nil _ _) rfl (by repeat (exact (aV.nil : aV _ _ [] _))) (by exact (rfl : _ = some [_, _])) ?_
  refine bO rfl rfl (by decide) rfl rfl rfl rfl rfl rfl ?_
  refine bu rfl (aD (aC (az (aS ?_))))
  refine gL rfl rfl rfl rfl rfl (by decide) rfl rfl rfl ?_ ?_
  all_goals skip
  all_goals first | exact mD (e4).2 | exact av rfl rfl (congrArg (Ty.int .i64) (e4).1)
 refine af (aC (aE ?_))
 have hx5 : (rS y b t v).2.1 = false := by unfold rS; exact AR hc4
 have e5 : 0 = fM y ((b : Nat) : Int) ((t : Nat) : Int) v ∧ fQ y (rS y b t v).2.2 = gz y ((b : Nat) : Int) ((t : Nat) : Int) v := Nl hkn htq hv4 hx5
 unfold rS at e5
 have hfe := nu hR.net hR.inb (show (cQ (jA y b t v) (y.cells + 1) (fY (jA y b t v))).2.1 = false from AR hc4)
 refine kD (tg := 1000) [(11, Ty.pp (lB y (jA y b t v) (cQ (jA y b t v) (y.cells + 1) (fY (jA y b t v))).2.2))] (by decide) rfl ⟨uS rfl ⟨bE rfl, bE rfl, bE rfl, bE rfl, bE rfl, iX rfl hfe.1.1 (by decide), trivial⟩, trivial⟩ ?_
 refine aA (iq rfl ?_)
 refine aZ (MF y (jA y b t v) (cQ (jA y b t v) (y.cells + 1) (fY (jA y b t v))).2.2 hr (by rw [hFl, ef]) hfe.1.1) rfl rfl rfl rfl rfl ?_
 refine bO rfl rfl (by decide) rfl rfl rfl rfl rfl rfl ?_
 refine bu rfl (aD (aC (az ?_)))
 refine gL rfl rfl rfl rfl rfl (by decide) rfl rfl rfl ?_ ?_
 all_goals skip
 all_goals first | exact av rfl rfl (congrArg mm e5.2) | exact av rfl rfl (congrArg (Ty.int .i64) e5.1)
end Go.Proofs.YtelbollidfdcjaaGreat
namespace Go.Proofs.YtelbollidfdcjaaGreat
open Go Go.T
set_option maxHeartbeats 8000000
section
variable {y : aj} {b : Nat} {n w : Int} {p q : Span → Bool}
end
attribute [local irreducible] Md.n9 Md.real fN fU bq oL lH
attribute [local irreducible] gP e9 mA oA iG iE iK g9 iL oc iA oM dV fo n6 gC oW nth fS dY ay dP bodyPost Exit.then Exit.inBlock Code.wp Code.wpIn n7 hU oX oR iB eW cM cN bodyPostM dX
end Go.Proofs.YtelbollidfdcjaaGreat
namespace Go.Proofs.YtelbollidfdcjaaGreat
open Go Go.T
set_option maxHeartbeats 8000000
section
variable {y : aj} {a r : dF} {b t : Nat} {v : Int}
theorem AU (hr : y.bw) (ho : bq y = 0) : dm y (nth bL) (gK y) := by
 have h2 := (mG hr).2 (nL ho)
 rw [← KO (nT hr) h2]
 exact ke hr (nu (jT hr) (fun h => (lK hr).inb h) h2)
theorem KV (hr : y.bw) {c : Nat → Bool} (h : dm y c a) : Rm a ∧ lT y a := by
 have h1 := hr.moves
 have h2 := h.lens.bY
 have h3 := h.lens.first
 have k1 : ∀ x ∈ a.first, 0 ≤ x ∧ x ≤ 300 := fun x hx => by
  obtain ⟨i, hi, rfl⟩ := k5 hx
  have := h.first i (by omega)
  have := (hr.bin _ (cT (show i < y.bins.length by omega))).2
  omega
 have k2 : ∀ x ∈ a.bY, 0 ≤ x ∧ x ≤ 300 := fun x hx => by
  obtain ⟨i, hi, rfl⟩ := k5 hx
  have := h.bY i (by omega)
  have := (hr.move _ (cT (show i < y.moves.length by omega))).2.2.2.2
  omega
 exact ⟨⟨by omega, fun x hx => (by have := k1 x hx; omega), fun x hx => (by have := k2 x hx; omega)⟩, h.lens, k1, k2⟩
theorem Jw (hr : y.bw) {c : Nat → Bool} (h : dm y c a) : Pd y a := by
 obtain ⟨h1, h2⟩ := KV hr h
 exact ⟨by have := h2.lens.bY; omega, h1.q7, h1.first, h1.bY⟩
theorem K1 (hr : y.bw) (ha : lT y a) : x8 y a = 0 := by
 have h1 := ha.lens.first
 have h2 := ha.lens.bY
 exact (Ph (nT hr) (show vV y a = false by unfold vV; rw [decide_eq_true (show (a.first.length : Int) = y.bins.length by omega), decide_eq_true (show (a.bY.length : Int) = y.moves.length by omega)]; rfl) (by unfold yO; rw [show a.first.all Lz = true from List.all_eq_true.2 fun x hx => dL.2 (ha.first x hx), show a.bY.all Lz = true from List.all_eq_true.2 fun x hx => dL.2 (ha.bY x hx)]; rfl)).1.symm
end
section
variable {y : aj} {a : dF} {P : Span} {v e c : Int} {k : Prop}
end
attribute [local irreducible] Md.n9 Md.real fN fU bq rH x8 cq gK fM gz
attribute [local irreducible] gP e9 mA oA iG iE iK g9 iL oc iA oM dV fo n6 gC oW nth fS dY ay dP bodyPost Exit.then Exit.inBlock Code.wp Code.wpIn n7 hU oX oR iB eW cM cN bodyPostM dX
end Go.Proofs.YtelbollidfdcjaaGreat
namespace Go.Proofs.YtelbollidfdcjaaGreat
open Go Go.T
set_option maxHeartbeats 8000000
structure aj.Fit (y : aj) : Prop where
  bins : y.bins.length * 24 ≤ 140737488351232
  moves : y.moves.length * 40 ≤ 140737488351232
  levels : y.levels.length * 32 ≤ 140737488351232
def Kq (b : tR) : Int := b.first.hi - b.first.lo + 1
def Ii (m : Move) : Int := m.sacks.hi - m.sacks.lo + 1
def jQ (y : aj) : Nat → Int
  | 0 => 1
  | k + 1 => if jQ y k < 100000 then jQ y k * Kq (nth y.bins k) else jQ y k
def jq (y : aj) : Nat → Int
  | 0 => jQ y y.bins.length
  | k + 1 => if jq y k < 100000 then jq y k * Ii (nth y.moves k) else jq y k
def manyN (y : aj) : Int := jq y y.moves.length
def Cu (y : aj) : Bool := pJ y || (decide (bH y = 0) && decide (manyN y > 3000))
noncomputable def r8 (y : aj) (a : dF) : Bool := decide (tU y a = 0) && decide (eR y a = 0)
def z5 (a : dF) : Bool := decide ((a.first.length : Int) + (a.bY.length : Int) = 0)
section
variable {y : aj} {a : dF} {k : Nat}
theorem F1 (hr : y.bw) (h : k < y.bins.length) : (1 ≤ Kq (nth y.bins k) ∧ Kq (nth y.bins k) ≤ 301) ∧ 0 ≤ (nth y.bins k).first.lo ∧ (nth y.bins k).first.hi ≤ 300 := by
 have := hr.bin _ (cT h); unfold Kq; omega
theorem GI (hr : y.bw) (h : k < y.moves.length) : (1 ≤ Ii (nth y.moves k) ∧ Ii (nth y.moves k) ≤ 301) ∧ 0 ≤ (nth y.moves k).sacks.lo ∧ (nth y.moves k).sacks.hi ≤ 300 := by
 have := hr.move _ (cT h); unfold Ii; omega
theorem vk {m w : Int} (h1 : 1 ≤ m ∧ m < 100000) (h2 : 1 ≤ w ∧ w ≤ 301) : 1 ≤ m * w ∧ m * w ≤ 30100000 := by
 have a1 : m * 1 ≤ m * w := Int.mul_le_mul_of_nonneg_left h2.1 (by omega)
 have a2 : m * w ≤ m * 301 := Int.mul_le_mul_of_nonneg_left h2.2 (by omega)
 omega
theorem xD (hr : y.bw) : ∀ k, k ≤ y.bins.length → 1 ≤ jQ y k ∧ jQ y k ≤ 30100000
  | 0, _ => by show (1 : Int) ≤ 1 ∧ (1 : Int) ≤ _; omega
  | k + 1, hk => by
    have ih := xD hr k (by omega)
    have hw := (F1 hr (show k < y.bins.length by omega)).1
    unfold jQ
    split
    · exact vk ⟨ih.1, by assumption⟩ hw
    · exact ih
theorem C9 (hr : y.bw) : ∀ k, k ≤ y.moves.length → 1 ≤ jq y k ∧ jq y k ≤ 30100000
  | 0, _ => xD hr _ (Nat.le_refl _)
  | k + 1, hk => by
    have ih := C9 hr k (by omega)
    have hw := (GI hr (show k < y.moves.length by omega)).1
    unfold jq
    split
    · exact vk ⟨ih.1, by assumption⟩ hw
    · exact ih
theorem xT (h : ¬ jQ y k < 100000) : ∀ d, jQ y (k + d) = jQ y k
  | 0 => rfl
  | d + 1 => by
    have ih := xT h d
    show (if jQ y (k + d) < 100000 then _ else jQ y (k + d)) = _
    rw [ih, if_neg h]
theorem xz (h : ¬ jq y k < 100000) : ∀ d, jq y (k + d) = jq y k
  | 0 => rfl
  | d + 1 => by
    have ih := xz h d
    show (if jq y (k + d) < 100000 then _ else jq y (k + d)) = _
    rw [ih, if_neg h]
theorem Dn (h : jQ y k < 100000) : jQ y k * ((nth y.bins k).first.hi - (nth y.bins k).first.lo + 1) = jQ y (k + 1) := (if_pos h).symm
theorem EM (h : jq y k < 100000) : jq y k * ((nth y.moves k).sacks.hi - (nth y.moves k).sacks.lo + 1) = jq y (k + 1) := (if_pos h).symm
theorem HQ (hk : k ≤ y.bins.length) (h : (decide ((k : Int) < (y.bins.length : Int)) && decide (jQ y k < 100000)) = false) : jQ y k = jq y 0 := by
 show _ = jQ y y.bins.length
 rw [Bool.and_eq_false_iff, decide_eq_false_iff_not, decide_eq_false_iff_not] at h
 rcases h with h | h
 ·rw [show k = y.bins.length by omega]
 rw [show y.bins.length = k + (y.bins.length - k) by omega, xT h]
theorem HZ (hk : k ≤ y.moves.length) (h : (decide ((k : Int) < (y.moves.length : Int)) && decide (jq y k < 100000)) = false) : jq y k = manyN y := by
 unfold manyN
 rw [Bool.and_eq_false_iff, decide_eq_false_iff_not, decide_eq_false_iff_not] at h
 rcases h with h | h
 ·rw [show k = y.moves.length by omega]
 rw [show y.moves.length = k + (y.moves.length - k) by omega, xz h]
theorem M7 : (pJ y || (decide (jI y = 0) && decide (manyN y > 3000))) = Cu y := by rw [check_eq]; rfl
theorem EK (h : Cu y = false) : pJ y = false := by
 unfold Cu at h; rw [Bool.or_eq_false_iff] at h; exact h.1
end
attribute [local irreducible] pJ bH jI tU eR jQ jq manyN
attribute [local irreducible] gP e9 mA oA iG iE iK g9 iL oc iA oM dV fo n6 gC oW nth fS dY ay dP bodyPost Exit.then Exit.inBlock Code.wp Code.wpIn n7 hU oX oR iB eW cM cN bodyPostM dX
set_option maxRecDepth 100000 in
theorem Gf (y : aj) (hs : y.Fit) : dP Tryz.prog 30 [eB y] (eB y) := by
 refine ak Tryz.func30 rfl (by decide) Tryz.ntmps30 (by exact Nat.le_of_ble_eq_true rfl) fun w0 M0 => ?_
 have hs1 := hs.bins
 have hs2 := hs.moves
 have hs3 := hs.levels
 refine aE (aA (bF rfl ?_))
 refine bh rfl (by exact List.cons_ne_nil _ _) rfl ?_
 refine aD (aC (aE (aA ?_)))
 refine aI rfl rfl rfl rfl rfl (by decide) ?_
 refine aJ rfl rfl rfl rfl ?_
 refine c6 rfl rfl (by exact List.cons_ne_nil _ _) rfl (by repeat (first | exact (aV.nil : aV _ _ [] _) | (show aV _ _ ((_, _) :: _) _; apply aV.one; (· exact (rfl : _ = Ty.int _ _)); (· exact rfl)))) (by exact (rfl : _ = some [_, _, _, _])) ?_
 refine bh rfl (by exact List.cons_ne_nil _ _) rfl ?_
 refine bO rfl rfl (by decide) rfl rfl rfl rfl rfl rfl ?_
 refine aD (aC (aE (aE (aA ?_))))
 refine aI rfl rfl rfl rfl rfl (by decide) ?_
 refine aJ rfl rfl rfl rfl (b9 rfl rfl rfl (bG rfl (aD (aC (aa ?_)))))
 refine cG (fun (k : {k : Nat // k ≤ y.bins.length}) => live [(1, Ty.pp (bA y)), (2, Ty.ptr 3 0), (3, Ty.ptr 4 0), (14, Ty.sl fL y.bins), (15, Ty.int .i64 y.bins.length), (16, Ty.int .i64 (k.1 : Nat))] [(3, Cont.cells 60 [Ty.int .i64 0, Ty.ex (.slice none 0 0), Ty.ex (.slice none 0 0), Ty.ex (.slice none 0 0)]), (4, Cont.cells 60 [Ty.int .i64 y.days, Ty.row fL 163 24 (y.bins.take k.1), Ty.ex (.slice none 0 0), Ty.ex (.slice none 0 0)])]) (fun k => y.bins.length - k.1) (⟨0, by omega⟩) ?_ fun k => ?_
 ·(refine cg.mk' ?_ ?_ <;> (repeat' (first | exact aL | exact aK | exact cv | refine aB ?_ (Ty.aT _) | refine aB ?_ (Ty.aF _) | refine aG rfl (Cont.aF _) ?_ | refine aG rfl (Cont.ct ?_) ?_ | refine bJ ?_ (Ty.aF _) | refine bJ ?_ Ty.iF)))
  all_goals trace_state
 have hk := k.2
 refine aE (aA (bB rfl rfl rfl (aD (aC (aE ?_)))))
 refine aq rfl (fun hc1 => ?_) (fun hc1 => ?_)
 ·
  refine af (aC (aE (aa (aE (aA ?_)))))
  refine au rfl rfl rfl rfl rfl rfl (by omega) ?_
  refine aX rfl rfl rfl (by exact Nat.le_of_ble_eq_true rfl) ?_
  refine bh rfl (by exact List.cons_ne_nil _ _) rfl ?_
  refine bO rfl rfl (by decide) rfl rfl rfl rfl rfl rfl ?_
  refine aD (aC (aA ?_))
  refine aR rfl rfl rfl rfl rfl (by decide) ?_
  refine aY rfl rfl (by decide) rfl rfl rfl ?_
  refine bP rfl rfl (by decide) rfl rfl (by exact Nat.le_of_ble_eq_true rfl) ?_
  refine bg (E := fL) (xs := [nth y.bins k.1]) rfl rfl rfl rfl rfl (by decide) (by decide) (by repeat (first | exact (aV.nil : aV _ _ [] _) | (show aV _ _ ((_, _) :: _) _; apply aV.agg; (· exact (rfl : _ = Ty.agg _))))) (by exact rfl) rfl ?_
  refine dy rfl rfl (by decide) rfl rfl rfl rfl rfl rfl (by decide) (by (simp <;> omega)) (by (simp <;> omega)) ?_
  refine aR rfl rfl rfl rfl rfl (by decide) ?_
  refine cr rfl rfl (by decide) rfl rfl (by exact (rfl : _ = Ty.row _ _ _ _)) rfl (by exact Nat.le_of_ble_eq_true rfl) rfl rfl (by exact rfl) ?_
  refine aD (bM (aC (aA ?_)))
  refine cB rfl rfl (by omega) (by omega) ?_
  refine bG rfl (aD ?_)
  refine bR (⟨k.1 + 1, by omega⟩) ?_ (by show y.bins.length - (k.1 + 1) < y.bins.length - k.1; omega)
  (refine cg.mk' ?_ ?_ <;> (repeat' (first | exact aL | exact aK | exact cv | refine aB ?_ (Ty.aT _) | refine aB ?_ (Ty.aF _) | refine aG rfl (Cont.aF _) ?_ | refine aG rfl (Cont.ct ?_) ?_ | refine bJ ?_ (Ty.aF _) | refine bJ ?_ ?_)))
  all_goals exact Ty.fH (cV (by omega)).symm
  all_goals trace_state
 refine cH (aP (aP (ah rfl (aC (aE (aE ?_))))))
 refine jZ (tg := 24) [] [(4, Cont.cells 60 [Ty.int .i64 y.days, Ty.sl fL y.bins, Ty.ex (.slice none 0 0), Ty.ex (.slice none 0 0)])] (by decide) rfl trivial ⟨fP rfl rfl ⟨bE rfl, jH (List.take_of_length_le (by have := k.2; omega)), bE rfl, bE rfl, trivial⟩, trivial⟩ ?_
 refine aA ?_
 refine aI rfl rfl rfl rfl rfl (by decide) ?_
 refine aJ rfl rfl rfl rfl (b9 rfl rfl rfl (bG rfl (aD (aC (aa ?_)))))
 refine cG (fun (m : {k : Nat // k ≤ y.moves.length}) => live [(1, Ty.pp (bA y)), (2, Ty.ptr 3 0), (3, Ty.ptr 4 0), (28, Ty.sl eS y.moves), (29, Ty.int .i64 y.moves.length), (30, Ty.int .i64 (m.1 : Nat))] [(3, Cont.cells 60 [Ty.int .i64 0, Ty.ex (.slice none 0 0), Ty.ex (.slice none 0 0), Ty.ex (.slice none 0 0)]), (4, Cont.cells 60 [Ty.int .i64 y.days, Ty.sl fL y.bins, Ty.row eS 164 38 (y.moves.take m.1), Ty.ex (.slice none 0 0)])]) (fun m => y.moves.length - m.1) (⟨0, by omega⟩) ?_ fun m => ?_
 ·(refine cg.mk' ?_ ?_ <;> (repeat' (first | exact aL | exact aK | exact cv | refine aB ?_ (Ty.aT _) | refine aB ?_ (Ty.aF _) | refine aG rfl (Cont.aF _) ?_ | refine aG rfl (Cont.ct ?_) ?_ | refine bJ ?_ (Ty.aF _) | refine bJ ?_ Ty.iF)))
  all_goals trace_state
 have hm := m.2
 refine aE (aA (bB rfl rfl rfl (aD (aC (aE ?_)))))
 refine aq rfl (fun hc2 => ?_) (fun hc2 => ?_)
 ·
  refine af (aC (aE (aa (aE (aA ?_)))))
  refine au rfl rfl rfl rfl rfl rfl (by omega) ?_
  refine aX rfl rfl rfl (by exact Nat.le_of_ble_eq_true rfl) ?_
  refine bh rfl (by exact List.cons_ne_nil _ _) rfl ?_
  refine bO rfl rfl (by decide) rfl rfl rfl rfl rfl rfl ?_
  refine aD (aC (aA ?_))
  refine aR rfl rfl rfl rfl rfl (by decide) ?_
  refine aY rfl rfl (by decide) rfl rfl rfl ?_
  refine bP rfl rfl (by decide) rfl rfl (by exact Nat.le_of_ble_eq_true rfl) ?_
  refine bg (E := eS) (xs := [nth y.moves m.1]) rfl rfl rfl rfl rfl (by decide) (by decide) (by repeat (first | exact (aV.nil : aV _ _ [] _) | (show aV _ _ ((_, _) :: _) _; apply aV.agg; (· exact (rfl : _ = Ty.agg _))))) (by exact rfl) rfl ?_
  refine dy rfl rfl (by decide) rfl rfl rfl rfl rfl rfl (by decide) (by (simp <;> omega)) (by (simp <;> omega)) ?_
  refine aR rfl rfl rfl rfl rfl (by decide) ?_
  refine cr rfl rfl (by decide) rfl rfl (by exact (rfl : _ = Ty.row _ _ _ _)) rfl (by exact Nat.le_of_ble_eq_true rfl) rfl rfl (by exact rfl) ?_
  refine aD (bM (aC (aA ?_)))
  refine cB rfl rfl (by omega) (by omega) ?_
  refine bG rfl (aD ?_)
  refine bR (⟨m.1 + 1, by omega⟩) ?_ (by show y.moves.length - (m.1 + 1) < y.moves.length - m.1; omega)
  (refine cg.mk' ?_ ?_ <;> (repeat' (first | exact aL | exact aK | exact cv | refine aB ?_ (Ty.aT _) | refine aB ?_ (Ty.aF _) | refine aG rfl (Cont.aF _) ?_ | refine aG rfl (Cont.ct ?_) ?_ | refine bJ ?_ (Ty.aF _) | refine bJ ?_ ?_)))
  all_goals exact Ty.fH (cV (by omega)).symm
  all_goals trace_state
 refine cH (aP (aP (ah rfl (aC (aE (aE ?_))))))
 refine jZ (tg := 38) [] [(4, Cont.cells 60 [Ty.int .i64 y.days, Ty.sl fL y.bins, Ty.sl eS y.moves, Ty.ex (.slice none 0 0)])] (by decide) rfl trivial ⟨fP rfl rfl ⟨bE rfl, bE rfl, jH (List.take_of_length_le (by have := m.2; omega)), bE rfl, trivial⟩, trivial⟩ ?_
 refine aA ?_
 refine aI rfl rfl rfl rfl rfl (by decide) ?_
 refine aJ rfl rfl rfl rfl (b9 rfl rfl rfl (bG rfl (aD (aC (aa ?_)))))
 refine cG (fun (n : {k : Nat // k ≤ y.levels.length}) => live [(1, Ty.pp (bA y)), (2, Ty.ptr 3 0), (3, Ty.ptr 4 0), (42, Ty.sl dg y.levels), (43, Ty.int .i64 y.levels.length), (44, Ty.int .i64 (n.1 : Nat))] [(3, Cont.cells 60 [Ty.int .i64 0, Ty.ex (.slice none 0 0), Ty.ex (.slice none 0 0), Ty.ex (.slice none 0 0)]), (4, Cont.cells 60 [Ty.int .i64 y.days, Ty.sl fL y.bins, Ty.sl eS y.moves, Ty.row dg 165 52 (y.levels.take n.1)])]) (fun n => y.levels.length - n.1) (⟨0, by omega⟩) ?_ fun n => ?_
 ·(refine cg.mk' ?_ ?_ <;> (repeat' (first | exact aL | exact aK | exact cv | refine aB ?_ (Ty.aT _) | refine aB ?_ (Ty.aF _) | refine aG rfl (Cont.aF _) ?_ | refine aG rfl (Cont.ct ?_) ?_ | refine bJ ?_ (Ty.aF _) | refine bJ ?_ Ty.iF)))
  all_goals trace_state
 have hn := n.2
 refine aE (aA (bB rfl rfl rfl (aD (aC (aE ?_)))))
 refine aq rfl (fun hc3 => ?_) (fun hc3 => ?_)
 ·
  refine af (aC (aE (aa (aE (aA ?_)))))
  refine au rfl rfl rfl rfl rfl rfl (by omega) ?_
  refine aX rfl rfl rfl (by exact Nat.le_of_ble_eq_true rfl) ?_
  refine bh rfl (by exact List.cons_ne_nil _ _) rfl ?_
  refine bO rfl rfl (by decide) rfl rfl rfl rfl rfl rfl ?_
  refine aD (aC (aA ?_))
  refine aR rfl rfl rfl rfl rfl (by decide) ?_
  refine aY rfl rfl (by decide) rfl rfl rfl ?_
  refine bP rfl rfl (by decide) rfl rfl (by exact Nat.le_of_ble_eq_true rfl) ?_
  refine bg (E := dg) (xs := [nth y.levels n.1]) rfl rfl rfl rfl rfl (by decide) (by decide) (by repeat (first | exact (aV.nil : aV _ _ [] _) | (show aV _ _ ((_, _) :: _) _; apply aV.agg; (· exact (rfl : _ = Ty.agg _))))) (by exact rfl) rfl ?_
  refine dy rfl rfl (by decide) rfl rfl rfl rfl rfl rfl (by decide) (by (simp <;> omega)) (by (simp <;> omega)) ?_
  refine aR rfl rfl rfl rfl rfl (by decide) ?_
  refine cr rfl rfl (by decide) rfl rfl (by exact (rfl : _ = Ty.row _ _ _ _)) rfl (by exact Nat.le_of_ble_eq_true rfl) rfl rfl (by exact rfl) ?_
  refine aD (bM (aC (aA ?_)))
  refine cB rfl rfl (by omega) (by omega) ?_
  refine bG rfl (aD ?_)
  refine bR (⟨n.1 + 1, by omega⟩) ?_ (by show y.levels.length - (n.1 + 1) < y.levels.length - n.1; omega)
  (refine cg.mk' ?_ ?_ <;> (repeat' (first | exact aL | exact aK | exact cv | refine aB ?_ (Ty.aT _) | refine aB ?_ (Ty.aF _) | refine aG rfl (Cont.aF _) ?_ | refine aG rfl (Cont.ct ?_) ?_ | refine bJ ?_ (Ty.aF _) | refine bJ ?_ ?_)))
  all_goals exact Ty.fH (cV (by omega)).symm
  all_goals trace_state
 refine cH (aP (aP (ah rfl (aC (aE ?_)))))
 refine jZ (tg := 52) [] [(4, Cont.cells 60 [Ty.int .i64 y.days, Ty.sl fL y.bins, Ty.sl eS y.moves, Ty.sl dg y.levels])] (by decide) rfl trivial ⟨fP rfl rfl ⟨bE rfl, bE rfl, bE rfl, jH (List.take_of_length_le (by have := n.2; omega)), trivial⟩, trivial⟩ ?_
 refine aA ?_
 refine bP rfl rfl (by decide) rfl rfl (by exact Nat.le_of_ble_eq_true rfl) ?_
 refine bO rfl rfl (by decide) rfl rfl rfl rfl rfl rfl ?_
 refine aD (aC (az ?_))
 refine jx rfl rfl rfl rfl (by decide) rfl rfl rfl ?_
 all_goals exact av rfl rfl rfl
set_option maxRecDepth 100000 in
theorem Ot (y : aj) (hr : y.bw) : dP Tryz.prog 94 [eB y] (Ty.int .i64 (manyN y)) := by
 refine ak Tryz.func94 rfl (by decide) Tryz.ntmps94 (by exact Nat.le_of_ble_eq_true rfl) fun w0 M0 => ?_
 have hyb := hr.bins
 have hym := hr.moves
 refine aE (aA (bF rfl (bu rfl (aD (aC (aE (aA (bu rfl (aD ?_)))))))))
 refine aC (aE (aE (aA (bu rfl (aD (aC (aa ?_)))))))
 refine cG (fun (k : {k : Nat // k ≤ y.bins.length}) => live [(1, Ty.pp (bA y)), (3, Ty.int .i64 (jQ y k.1)), (4, Ty.int .i64 (k.1 : Nat))] []) (fun k => y.bins.length - k.1) (⟨0, Nat.zero_le _⟩) ?_ fun k => ?_
 ·(refine cg.mk' ?_ ?_ <;> (repeat' (first | exact aL | exact aK | refine aB ?_ (Ty.aT _) | refine aB ?_ (Ty.aF _) | refine aB ?_ ?_)))
  all_goals exact Ty.bI (by unfold jQ; rfl)
 have hk := k.2
 have hmb := xD hr k.1 hk
 refine aE (aE (aA (bG rfl ?_)))
 refine aI rfl rfl rfl rfl rfl (by decide) ?_
 refine aJ rfl rfl rfl rfl (b9 rfl rfl rfl (bB rfl rfl rfl (eY rfl ?_)))
 apply aM (s := 11) rfl rfl rfl
 ·intro hg; apply aO; (refine bG rfl ?_); refine aD ?_; exact rfl
 ·exact rfl
 ·exact rfl
 apply aM (s := 11) rfl rfl rfl
 ·intro hg; apply aH (s := 12) rfl (by (rw [hg]; rfl)); apply aO; (refine bB rfl rfl rfl ?_); refine aD ?_; exact rfl
 ·exact rfl
 ·exact rfl
 refine eA rfl rfl (aD (aC ?_))
 refine cC rfl (fun hc1 => ?_) (fun hc1 => ?_)
 ·
  refine af (aC (aE (aa ?_)))
  have hcc := hc1
  simp only [Bool.and_eq_true, decide_eq_true_eq] at hcc
  have hk2 : k.1 < y.bins.length := by omega
  have hw := F1 hr hk2
  unfold Kq at hw
  have hmu := vk ⟨hmb.1, hcc.2⟩ hw.1
  refine cL mixed rfl (bG rfl ?_)
  refine aI rfl rfl rfl rfl rfl (by decide) ?_
  refine aJ rfl rfl rfl rfl (bG rfl ?_)
  refine au rfl rfl rfl rfl rfl rfl (by omega) ?_
  refine aI rfl rfl rfl rfl rfl (by decide) ?_
  refine aI rfl rfl rfl rfl rfl (by decide) ?_
  refine aJ rfl rfl rfl rfl ?_
  refine aI rfl rfl rfl rfl rfl (by decide) ?_
  refine aJ rfl rfl rfl rfl (bG rfl ?_)
  refine au rfl rfl rfl rfl rfl rfl (by omega) ?_
  refine aI rfl rfl rfl rfl rfl (by decide) ?_
  refine aI rfl rfl rfl rfl rfl (by decide) ?_
  refine aJ rfl rfl rfl rfl ?_
  refine gZ rfl rfl (by omega) (by omega) ?_
  refine cB rfl rfl (by omega) (by omega) ?_
  refine xH rfl rfl (by omega) (by omega) ?_
  refine bu rfl (aD ?_)
  refine ⟨by kernel_rfl, ?_⟩
  refine bM (aC (aA (bG rfl ?_)))
  refine cB rfl rfl (by omega) (by omega) ?_
  refine bu rfl (aD ?_)
  refine bR (⟨k.1 + 1, by omega⟩) ?_ (by show y.bins.length - (k.1 + 1) < y.bins.length - k.1; omega)
  (refine cg.mk' ?_ ?_ <;> (repeat' (first | exact aL | exact aK | refine aB ?_ (Ty.aT _) | refine aB ?_ (Ty.aF _) | refine aB ?_ ?_)))
  all_goals skip
  all_goals exact Ty.bI (Dn hcc.2)
 refine cH (aP (aP (ah rfl (aC (aE (aE (aA (bu rfl (aD ?_)))))))))
 refine aC (aa ?_)
 refine cG (fun (m : {k : Nat // k ≤ y.moves.length}) => live [(1, Ty.pp (bA y)), (3, Ty.int .i64 (jq y m.1)), (5, Ty.int .i64 (m.1 : Nat))] []) (fun m => y.moves.length - m.1) (⟨0, Nat.zero_le _⟩) ?_ fun m => ?_
 ·(refine cg.mk' ?_ ?_ <;> (repeat' (first | exact aL | exact aK | refine aB ?_ (Ty.aT _) | refine aB ?_ (Ty.aF _) | refine aB ?_ ?_)))
  all_goals exact Ty.bI (HQ k.2 hc1)
 have hm := m.2
 have hmm := C9 hr m.1 hm
 refine aE (aE (aA (bG rfl ?_)))
 refine aI rfl rfl rfl rfl rfl (by decide) ?_
 refine aJ rfl rfl rfl rfl (b9 rfl rfl rfl (bB rfl rfl rfl (eY rfl ?_)))
 apply aM (s := 40) rfl rfl rfl
 ·intro hg; apply aO; (refine bG rfl ?_); refine aD ?_; exact rfl
 ·exact rfl
 ·exact rfl
 apply aM (s := 40) rfl rfl rfl
 ·intro hg; apply aH (s := 41) rfl (by (rw [hg]; rfl)); apply aO; (refine bB rfl rfl rfl ?_); refine aD ?_; exact rfl
 ·exact rfl
 ·exact rfl
 refine eA rfl rfl (aD (aC ?_))
 refine cC rfl (fun hc2 => ?_) (fun hc2 => ?_)
 ·
  refine af (aC (aE (aa ?_)))
  have hcc2 := hc2
  simp only [Bool.and_eq_true, decide_eq_true_eq] at hcc2
  have hm2 : m.1 < y.moves.length := by omega
  have hw := GI hr hm2
  unfold Ii at hw
  have hmu := vk ⟨hmm.1, hcc2.2⟩ hw.1
  refine cL mixed rfl (bG rfl ?_)
  refine aI rfl rfl rfl rfl rfl (by decide) ?_
  refine aJ rfl rfl rfl rfl (bG rfl ?_)
  refine au rfl rfl rfl rfl rfl rfl (by omega) ?_
  refine aI rfl rfl rfl rfl rfl (by decide) ?_
  refine aI rfl rfl rfl rfl rfl (by decide) ?_
  refine aJ rfl rfl rfl rfl ?_
  refine aI rfl rfl rfl rfl rfl (by decide) ?_
  refine aJ rfl rfl rfl rfl (bG rfl ?_)
  refine au rfl rfl rfl rfl rfl rfl (by omega) ?_
  refine aI rfl rfl rfl rfl rfl (by decide) ?_
  refine aI rfl rfl rfl rfl rfl (by decide) ?_
  refine aJ rfl rfl rfl rfl ?_
  refine gZ rfl rfl (by omega) (by omega) ?_
  refine cB rfl rfl (by omega) (by omega) ?_
  refine xH rfl rfl (by omega) (by omega) ?_
  refine bu rfl (aD ?_)
  refine ⟨by kernel_rfl, ?_⟩
  refine bM (aC (aA (bG rfl ?_)))
  refine cB rfl rfl (by omega) (by omega) ?_
  refine bu rfl (aD ?_)
  refine bR (⟨m.1 + 1, by omega⟩) ?_ (by show y.moves.length - (m.1 + 1) < y.moves.length - m.1; omega)
  (refine cg.mk' ?_ ?_ <;> (repeat' (first | exact aL | exact aK | refine aB ?_ (Ty.aT _) | refine aB ?_ (Ty.aF _) | refine aB ?_ ?_)))
  all_goals skip
  all_goals exact Ty.bI (EM hcc2.2)
 refine cH (aP (aP (ah rfl (aC (aE (aA (bG rfl (bu rfl (aD ?_)))))))))
 refine aC (az (bU rfl rfl ?_))
 all_goals skip
 all_goals exact av rfl rfl (congrArg (Ty.int .i64) (HZ m.2 hc2))
set_option maxRecDepth 100000 in
theorem PI (y : aj) (hf : y.Fit) : dP Tryz.prog 28 [eB y] (Ty.bool (Cu y)) := by
 refine ak Tryz.func28 rfl (by decide) Tryz.ntmps28 (by exact Nat.le_of_ble_eq_true rfl) fun w0 M0 => ?_
 refine aE (aA (bF rfl (dK rfl (aD (aC (aE (aA ?_)))))))
 refine aX rfl rfl rfl (by exact Nat.le_of_ble_eq_true rfl) ?_
 refine aZ (Gf y hf) rfl rfl rfl rfl rfl ?_
 refine bh rfl (by exact List.cons_ne_nil _ _) rfl ?_
 refine bO rfl rfl (by decide) rfl rfl rfl rfl rfl rfl ?_
 refine aD (aC (aE (aA ?_)))
 refine aX rfl rfl rfl (by exact Nat.le_of_ble_eq_true rfl) ?_
 refine aZ (MO y) rfl rfl rfl rfl rfl (eY rfl ?_)
 apply aM (s := 8) rfl rfl rfl
 ·intro hg; apply aO; (refine bP rfl rfl (by decide) rfl rfl (by exact Nat.le_of_ble_eq_true rfl) ?_); refine aD ?_; exact rfl
 ·exact rfl
 ·exact rfl
 apply aM (s := 8) rfl rfl rfl
 ·intro hg; apply aH (s := 9) rfl (by (rw [hg]; rfl)); apply aO; (refine aZ (Bk y (u9 hg)) rfl rfl rfl rfl rfl ?_); refine aD ?_; exact rfl
 ·exact rfl
 ·exact rfl
 apply aM (s := 8) rfl rfl rfl
 ·intro hg; apply aH (s := 10) rfl (by (rw [hg]; rfl)); apply aO; (refine bB rfl rfl rfl ?_); refine aD ?_; exact rfl
 ·exact rfl
 ·exact rfl
 apply aM (s := 8) rfl rfl rfl
 ·intro hg; apply aH (s := 11) rfl (by (rw [hg]; rfl)); apply aO; (refine eY rfl ?_); refine aD ?_; exact rfl
 ·exact rfl
 ·exact rfl
 apply dO (s := 12) rfl rfl rfl
 ·intro hg1 hg2; apply aO; (refine bP rfl rfl (by decide) rfl rfl (by exact Nat.le_of_ble_eq_true rfl) ?_); refine aD ?_; exact rfl
 ·exact rfl
 ·exact rfl
 apply dO (s := 12) rfl rfl rfl
 ·intro hg1 hg2; apply aH (s := 13) rfl (by (rw [hg1, hg2]; rfl)); apply aO; (refine aZ (Ot y (cK ((check_eq y).symm.trans (of_decide_eq_true hg2)))) rfl rfl rfl rfl rfl ?_); refine aD ?_; exact rfl
 ·exact rfl
 ·exact rfl
 apply dO (s := 12) rfl rfl rfl
 ·intro hg1 hg2; apply aH (s := 14) rfl (by (rw [hg1, hg2]; rfl)); apply aO; (refine bB rfl rfl rfl ?_); refine aD ?_; exact rfl
 ·exact rfl
 ·exact rfl
 apply aM (s := 8) rfl rfl rfl
 ·intro hg; apply aH (s := 12) rfl (by (rw [hg]; rfl)); apply kS (s := 15) rfl (by (rw [hg]; rfl)); apply aO; (refine eA rfl rfl ?_); refine aD ?_; exact rfl
 ·exact rfl
 ·exact rfl
 refine gN rfl rfl (dK rfl (aD (aC (az (bU rfl rfl ?_)))))
 all_goals skip
 all_goals exact av rfl rfl (congrArg Ty.bool M7)
set_option maxRecDepth 100000 in
theorem JK (a : dF) (h1 : a.first.length ≤ 1000) (h2 : a.bY.length ≤ 1000) : dP Tryz.prog 52 [mm a] (Ty.bool (z5 a)) := by
 refine ak Tryz.func52 rfl (by decide) Tryz.ntmps52 (by exact Nat.le_of_ble_eq_true rfl) fun w0 M0 => ?_
 refine aE (aA (bF rfl (dK rfl (aD (aC (aE (aA ?_)))))))
 refine aI rfl rfl rfl rfl rfl (by decide) ?_
 refine aJ rfl rfl rfl rfl (b9 rfl rfl rfl ?_)
 refine aI rfl rfl rfl rfl rfl (by decide) ?_
 refine aJ rfl rfl rfl rfl (b9 rfl rfl rfl ?_)
 refine cB rfl rfl (by omega) (by omega) ?_
 refine bB rfl rfl rfl (dK rfl (aD (aC (az (bU rfl rfl ?_)))))
 all_goals exact cE rfl rfl
 all_goals trace_state
set_option maxRecDepth 100000 in
theorem Fz (y : aj) (hr : y.bw) (a : dF) (h1 : a.first.length ≤ 1000) (h2 : a.bY.length ≤ 1000) : dP Tryz.prog 51 [eB y, mm a] (Ty.bool (r8 y a)) := by
 refine ak Tryz.func51 rfl (by decide) Tryz.ntmps51 (by exact Nat.le_of_ble_eq_true rfl) fun w0 M0 => ?_
 have hyb := hr.bins
 have hym := hr.moves
 have hyl := hr.levels
 have hs : y.Small := ⟨by omega, by omega, by omega⟩
 refine aE (aA (bF rfl (bF rfl (dK rfl (aD (aC (aE (aA ?_))))))))
 refine aX rfl rfl rfl (by exact Nat.le_of_ble_eq_true rfl) ?_
 refine aZ (DQ y hs) rfl rfl rfl rfl rfl ?_
 refine bh rfl (by exact List.cons_ne_nil _ _) rfl ?_
 refine bO rfl rfl (by decide) rfl rfl rfl rfl rfl rfl ?_
 refine aD (aC (aE (cL mixed rfl ?_)))
 refine bP rfl rfl (by decide) rfl rfl (by exact Nat.le_of_ble_eq_true rfl) ?_
 refine aX rfl rfl rfl (by exact Nat.le_of_ble_eq_true rfl) ?_
 refine aZ (BE a h1 h2) rfl rfl rfl rfl rfl (aZ (J2 y hs a h1 h2) rfl rfl rfl rfl rfl (bB rfl rfl rfl (eY rfl ?_)))
 apply aM (s := 13) rfl rfl rfl
 ·intro hg; apply aO; (refine bP rfl rfl (by decide) rfl rfl (by exact Nat.le_of_ble_eq_true rfl) ?_); refine aD ?_; exact rfl
 ·exact rfl
 ·exact rfl
 apply aM (s := 13) rfl rfl rfl
 ·intro hg; apply aO; (refine aX rfl rfl rfl (by exact Nat.le_of_ble_eq_true rfl) ?_); refine aD ?_; exact rfl
 ·exact rfl
 ·exact rfl
 apply aM (s := 13) rfl rfl rfl
 ·intro hg; apply aH (s := 15) rfl (by (rw [hg]; rfl)); apply aO; (refine aZ (BE a h1 h2) rfl rfl rfl rfl rfl ?_); refine aD ?_; exact rfl
 ·exact rfl
 ·exact rfl
 apply aM (s := 13) rfl rfl rfl
 ·intro hg; apply aH (s := 14) rfl (by (rw [hg]; rfl)); apply aH (s := 16) rfl (by (rw [hg]; rfl)); apply aO; (refine aZ (C5 y a hr (PB ((JP (nT hr)).symm.trans (of_decide_eq_true hg))).2) rfl rfl rfl rfl rfl ?_); refine aD ?_; exact rfl
 ·exact rfl
 ·exact rfl
 apply aM (s := 13) rfl rfl rfl
 ·intro hg; apply aH (s := 17) rfl (by (rw [hg]; rfl)); apply aO; (refine bB rfl rfl rfl ?_); refine aD ?_; exact rfl
 ·exact rfl
 ·exact rfl
 refine eA rfl rfl (dK rfl (aD ?_))
 refine ⟨by kernel_rfl, ?_⟩
 refine aC (az (bU rfl rfl ?_))
 all_goals exact cE rfl rfl
 all_goals trace_state
end Go.Proofs.YtelbollidfdcjaaGreat
namespace Go.Proofs.YtelbollidfdcjaaGreat
open Go Go.T
section
variable {y : aj} {p q d v : Int} {b t k : Nat}
theorem wF {α : Type} {E : El α} {xs : List α} (h : [] = xs) : (Ty.ex (.slice none 0 0)).Sub (Ty.sl E xs) := by subst h; exact Ty.xU
theorem ve.Dz {f : dF → Int} {s : Span} (hr : y.bw) (h : ve y (fun _ => true) f s) : ve y (nth bL) f s := by
 obtain ⟨⟨a, ha, ea⟩, ⟨c, hc, ec⟩, hall⟩ := h
 exact ⟨⟨a, (j6 hr).2 ha, ea⟩, ⟨c, (j6 hr).2 hc, ec⟩, fun x hx => hall x ((j6 hr).1 hx)⟩
theorem nq (h0 : bH y = 0) : (jJ y).fits = true ↔ bq y = 0 := by
 have hr := cK h0
 rw [Bs hr, Ko h0]
 exact ⟨fun ⟨a, h⟩ => ⟨a, (j6 hr).2 h⟩, fun ⟨a, h⟩ => ⟨a, (j6 hr).1 h⟩⟩
theorem Ni (h0 : bH y = 0) (h : (!(jJ y).fits) = false) : 0 = bq y := ((nq h0).1 (eZ h)).symm
theorem M6 (h0 : bH y = 0) (h : (!(jJ y).fits) = true) : 7 = bq y := by
 have hno : ¬ bq y = 0 := fun e => by rw [(nq h0).2 e] at h; cases h
 exact (CS h0 fun hf => hno (wX h0 hf)).symm
theorem CW (ho : bq y = 0) (hb : b < y.bins.length) : nth (jJ y).bins b = fN y (b : Int) := by
 have h0 := dN ho
 have hr := cK h0
 have hf := (nq h0).2 ho
 have hl := (l9 (y := y)).row b hb
 refine nW (by rw [hl, LJ ho hb]) fun t ht => ?_
 rw [hl] at ht
 exact ((L8 hr hb (by omega) hf).Dz hr).one (DR ho hb (by omega))
theorem Ge (ho : bq y = 0) (hk : k < y.moves.length) : nth (jJ y).moves k = iW y (k : Int) := by
 have h0 := dN ho
 have hr := cK h0
 exact ((Mb hr hk ((nq h0).2 ho)).Dz hr).one (Cz ho hk)
theorem Gc (ho : bq y = 0) : (jJ y).whole = kF y := by
 have h0 := dN ho
 have hr := cK h0
 have hl := (l9 (y := y)).whole
 refine nW (by rw [hl, JM ho]) fun t ht => ?_
 rw [hl] at ht
 exact ((Mk hr (by omega) ((nq h0).2 ho)).Dz hr).one (JF ho (by omega))
def uH (y : aj) (p : Int) : Bool := decide (p < 0) || decide (p ≥ (y.bins.length : Int))
def Ek (y : aj) (q : Int) : Bool := decide (q < 0) || decide (q ≥ (y.moves.length : Int))
def Er (y : aj) (d : Int) : Bool := decide (d < 0) || decide (d > y.days)
theorem sO (h : uH y p = false) : 0 ≤ p ∧ p < (y.bins.length : Int) ∧ ((p.toNat : Nat) : Int) = p ∧ p.toNat < y.bins.length := by
 unfold uH at h
 rw [Bool.or_eq_false_iff, decide_eq_false_iff_not, decide_eq_false_iff_not] at h
 omega
theorem Fh (h : Ek y q = false) : 0 ≤ q ∧ q < (y.moves.length : Int) ∧ ((q.toNat : Nat) : Int) = q ∧ q.toNat < y.moves.length := by
 unfold Ek at h
 rw [Bool.or_eq_false_iff, decide_eq_false_iff_not, decide_eq_false_iff_not] at h
 omega
theorem BR (hr : y.bw) (h : Er y d = false) : 0 ≤ d ∧ d ≤ y.days ∧ ((d.toNat : Nat) : Int) = d ∧ d.toNat ≤ y.D := by
 unfold Er at h
 rw [Bool.or_eq_false_iff, decide_eq_false_iff_not, decide_eq_false_iff_not] at h
 have := D_eq hr
 omega
theorem HB (h0 : bH y = 0) (h : uH y p = true) : c7 y p = 1 := by
 unfold c7
 rw [if_pos h0, if_neg ?_]
 unfold aj.bin
 rw [dL]
 unfold uH at h
 rw [Bool.or_eq_true, decide_eq_true_eq, decide_eq_true_eq] at h
 omega
theorem x7 (h0 : bH y = 0) (h : uH y p = false) : c7 y p = 0 := by
 have := sO h
 unfold c7
 rw [if_pos h0, if_pos ?_]
 unfold aj.bin
 rw [dL]; omega
theorem Ao (h0 : bH y = 0) (h : uH y p = true) : 1 = fU y p ∧ 1 = fM y p d v := by
 have hk := HB h0 h
 constructor
 ·unfold fU; rw [hk]; rfl
 unfold fM; rw [hk]; rfl
theorem vm (h0 : bH y = 0) (h : uH y p = false) : bq y = fU y p := by
 unfold fU; rw [if_pos (x7 h0 h)]
theorem I3 (h0 : bH y = 0) (h : uH y p = false) (h2 : Er y d = true) : 1 = fM y p d v := by
 unfold fM
 rw [if_pos (x7 h0 h), if_neg ?_]
 unfold aj.time
 rw [dL]
 unfold Er at h2
 rw [Bool.or_eq_true, decide_eq_true_eq, decide_eq_true_eq] at h2
 omega
noncomputable def J6 (y : aj) (p d v : Int) : Bool := ((jJ y).fits && decide (v ≥ (nth (nth (jJ y).bins p.toNat) d.toNat).lo)) && decide (v ≤ (nth (nth (jJ y).bins p.toNat) d.toNat).hi)
theorem GS (h0 : bH y = 0) (h : uH y p = false) (h2 : Er y d = false) : (J6 y p d v = true → 0 = fM y p d v) ∧ (J6 y p d v = false → 6 = fM y p d v) := by
  have hr := cK h0
  obtain ⟨_, _, hp, hb⟩ := sO h
  obtain ⟨_, _, hd, ht⟩ := BR hr h2
  have hsh := Ar (v := v) hr hb ht
  rw [hp, hd] at hsh
  unfold J6
  cases hf : (jJ y).fits with
  | false =>
    refine ⟨fun e => (by cases e), fun _ => ?_⟩
    rcases hsh with ⟨_, hx, _⟩ | ⟨e6, _⟩
    · exact absurd ((Bs hr).2 ⟨_, (j6 hr).1 hx⟩) (by rw [hf]; decide)
    · exact e6.symm
  | true =>
    have ho := (nq h0).1 hf
    have hs := NT (v := v) ho hb ht
    rw [hp, hd] at hs
    rw [CW ho hb, hp]
    simp only [Bool.true_and, Bool.and_eq_true, decide_eq_true_eq, Bool.and_eq_false_iff, decide_eq_false_iff_not]
    refine ⟨fun e => (hs.1 ⟨e.1, e.2⟩).1.symm, fun e => (hs.2 fun hn => ?_).symm⟩
    rcases e with e | e
    · exact e hn.1
    · exact e hn.2
theorem La (h0 : bH y = 0) (h : Ek y q = true) : 1 = gO y q := by
 refine (Cf h0 ?_).1
 unfold Ek at h
 rw [Bool.or_eq_true, decide_eq_true_eq, decide_eq_true_eq] at h
 rw [Bool.not_eq_true', Bool.and_eq_false_iff, decide_eq_false_iff_not, decide_eq_false_iff_not]
 omega
theorem Fe (h0 : bH y = 0) (h : Ek y q = false) : bq y = gO y q := by
 have := Fh h
 have h2 : (!(decide (q ≥ 0) && decide (q ≤ (y.moves.length : Int) - 1))) = false := by
  rw [Bool.not_eq_false', Bool.and_eq_true, decide_eq_true_eq, decide_eq_true_eq]; omega
 by_cases ho : bq y = 0
 ·rw [← (Co h0 h2 ho).1]; exact ho
 exact (Jg h0 h2 ho).1
theorem zg (h0 : bH y = 0) (h : fU y p = 0) : (0 ≤ p ∧ p.toNat < y.bins.length) ∧ nth (jJ y).bins p.toNat = fN y p := by
  have hb : uH y p = false := by
    cases e : uH y p with
    | false => rfl
    | true => rw [← (Ao (d := 0) (v := 0) h0 e).1] at h; cases h
  obtain ⟨g1, g2, g3, g4⟩ := sO hb
  have ho : bq y = 0 := (vm h0 hb).trans h
  exact ⟨⟨g1, g4⟩, by rw [CW ho g4, g3]⟩
theorem CF (h : ¬ fU y p = 0) : [] = fN y p := by unfold fN; rw [if_neg h]
theorem uX (h0 : bH y = 0) (h : gO y q = 0) : (0 ≤ q ∧ q.toNat < y.moves.length) ∧ nth (jJ y).moves q.toNat = iW y q := by
  have hb : Ek y q = false := by
    cases e : Ek y q with
    | false => rfl
    | true => rw [← La h0 e] at h; cases h
  obtain ⟨g1, g2, g3, g4⟩ := Fh hb
  have ho : bq y = 0 := (Fe h0 hb).trans h
  exact ⟨⟨g1, g4⟩, by rw [Ge ho g4, g3]⟩
theorem xR (h : ¬ gO y q = 0) : (⟨0, 0⟩ : Span) = iW y q := by unfold iW; rw [if_neg h]
theorem C0 (h : ¬ bq y = 0) : [] = kF y := by unfold kF; rw [if_neg h]
theorem lg (h : ¬ bH y = 0) : (bH y = bq y ∧ bH y = fU y p ∧ bH y = gO y q ∧ bH y = fM y p d v) ∧ [] = fN y p ∧ (⟨0, 0⟩ : Span) = iW y q ∧ [] = kF y := by
 have e1 : bH y = bq y := open_1 h
 have ek : c7 y p = bH y := by unfold c7; rw [if_neg h]
 have e2 : bH y = fU y p := by unfold fU; rw [ek, if_neg h]
 have e3 : bH y = gO y q := (C2 h).1
 have e4 : bH y = fM y p d v := by unfold fM; rw [ek, if_neg h]
 exact ⟨⟨e1, e2, e3, e4⟩, CF (by rw [← e2]; exact h), xR (by rw [← e3]; exact h), C0 (by rw [← e1]; exact h)⟩
theorem xq {a : dF} (hr : y.bw) (h : dm y (nth bL) a) : r8 y a = true := by
 have hs := (KV hr h).2
 unfold r8
 rw [decide_eq_true (show tU y a = 0 by rw [JP (nT hr)]; exact K1 hr hs), decide_eq_true ((nY hr).2 ((j6 hr).1 h))]; rfl
theorem CD {a : dF} (hr : y.bw) (h : dm y (nth bL) a) : a.first.length ≤ 1000 ∧ a.bY.length ≤ 1000 := by
 have h1 := h.lens.first
 have h2 := h.lens.bY
 have h3 := hr.bins
 have h4 := hr.moves
 omega
theorem sY : (gK y).first.length ≤ 1000 ∧ (gK y).bY.length ≤ 1000 := by
 by_cases ho : bq y = 0
 ·exact CD (cK (dN ho)) (AU (cK (dN ho)) ho)
 have : gK y = ⟨[], []⟩ := by unfold gK; rw [if_neg ho]
 rw [this]; exact ⟨Nat.zero_le _, Nat.zero_le _⟩
theorem mo (h : fM y p d v = 0) : y.bw ∧ dm y (nth bL) (gz y p d v) ∧ (0 ≤ p ∧ p.toNat < y.bins.length) ∧ cq y (gz y p d v) p d = v := by
  have h0 : bH y = 0 := by
    by_cases e : bH y = 0
    · exact e
    · rw [← (lg (p := p) (q := 0) (d := d) (v := v) e).1.2.2.2] at h; exact absurd h e
  have hr := cK h0
  have hb : uH y p = false := by
    cases e : uH y p with
    | false => rfl
    | true => rw [← (Ao (d := d) (v := v) h0 e).2] at h; cases h
  have ht : Er y d = false := by
    cases e : Er y d with
    | false => rfl
    | true => rw [← I3 (v := v) h0 hb e] at h; cases h
  obtain ⟨g1, _, hp, g4⟩ := sO hb
  obtain ⟨_, _, hd, g5⟩ := BR hr ht
  have hsh := Ar (v := v) hr g4 g5
  rw [hp, hd] at hsh
  rcases hsh with ⟨_, h1, h2⟩ | ⟨e6, _⟩
  · refine ⟨hr, h1, ⟨g1, g4⟩, ?_⟩
    have := jM (y := y) (a := gz y p d v) (b := p.toNat) (t := d.toNat)
    rw [hp, hd] at this
    rw [this]; exact h2
  · rw [e6] at h; cases h
theorem qj : (gz y p d v).first.length ≤ 1000 ∧ (gz y p d v).bY.length ≤ 1000 := by
 by_cases h : fM y p d v = 0
 ·obtain ⟨hr, hf, _⟩ := mo h
  exact CD hr hf
 have : gz y p d v = ⟨[], []⟩ := by unfold gz; rw [if_neg h]
 rw [this]; exact ⟨Nat.zero_le _, Nat.zero_le _⟩
theorem I1 : (((decide (bq y = 0) && !r8 y (gK y)) || (!decide (bq y = 0) && !z5 (gK y))) || (!decide (fM y p d v = 0) && !z5 (gz y p d v))) = false := by
 have e1 : bq y = 0 → r8 y (gK y) = true := fun ho => xq (cK (dN ho)) (AU (cK (dN ho)) ho)
 have e2 : bq y ≠ 0 → z5 (gK y) = true := fun ho => by unfold gK; rw [if_neg ho]; rfl
 have e3 : fM y p d v ≠ 0 → z5 (gz y p d v) = true := fun h => by unfold gz; rw [if_neg h]; rfl
 by_cases ho : bq y = 0 <;> by_cases h : fM y p d v = 0
 ·rw [e1 ho]; simp [ho, h]
 ·rw [e1 ho, e3 h]; simp [ho, h]
 ·rw [e2 ho]; simp [ho, h]
 rw [e2 ho, e3 h]; simp [ho, h]
theorem Jn : (decide (fM y p d v = 0) && (!r8 y (gz y p d v) || !decide (cq y (gz y p d v) p d = v))) = false := by
 by_cases h : fM y p d v = 0
 ·obtain ⟨hr, hf, _, hc⟩ := mo h
  rw [xq hr hf, hc]; simp
 simp [h]
end
end Go.Proofs.YtelbollidfdcjaaGreat
namespace Go.Proofs.YtelbollidfdcjaaGreat
open Go Go.T
set_option maxHeartbeats 8000000
attribute [local irreducible] bq fU fN gO iW kF fM gz gK jJ r8 z5 cq Cu pJ bH
attribute [local irreducible] gP e9 mA oA iG iE iK g9 iL oc iA oM dV fo n6 gC oW nth fS dY ay dP bodyPost Exit.then Exit.inBlock Code.wp Code.wpIn n7 hU oX oR iB eW cM cN bodyPostM dX
set_option maxRecDepth 100000 in
theorem ym (y : aj) (p q d v : Int) (hf : y.Fit) : dP Tryz.prog 7 [eB y, Ty.int .i64 p, Ty.int .i64 q, Ty.int .i64 d, Ty.int .i64 v] (Ty.bool true) := by
 refine ak Tryz.func7 rfl (by decide) Tryz.ntmps7 (by exact Nat.le_of_ble_eq_true rfl) fun w0 M0 => ?_
 refine aE (aA (bF rfl (dK rfl (aD (aC (aE (aE (aA ?_))))))))
 refine aX rfl rfl rfl (by exact Nat.le_of_ble_eq_true rfl) ?_
 refine aZ (PI y hf) rfl rfl rfl rfl rfl (aD (aC ?_))
 refine cC rfl (fun hc1 => ?_) (fun hc1 => ?_)
 ·
  refine aE (aA (aZ (F6) rfl rfl rfl rfl rfl (dK rfl (aD (aC (az (aS (bU rfl rfl ?_))))))))
  all_goals exact cE rfl rfl
  all_goals trace_state
 refine af (aC (aE ?_))
 have hs := u9 (EK hc1)
 refine cL mixed rfl ?_
 refine aX rfl rfl rfl (by exact Nat.le_of_ble_eq_true rfl) ?_
 refine aZ (Pe y hs) rfl rfl rfl rfl rfl ?_
 refine aX rfl rfl rfl (by exact Nat.le_of_ble_eq_true rfl) ?_
 refine aZ (DQ y hs) rfl rfl rfl rfl rfl ?_
 refine bh rfl (by exact List.cons_ne_nil _ _) rfl ?_
 refine bh rfl (by exact List.cons_ne_nil _ _) rfl ?_
 refine bO rfl rfl (by decide) rfl rfl rfl rfl rfl rfl ?_
 refine bO rfl rfl (by decide) rfl rfl rfl rfl rfl rfl ?_
 refine aD ?_
 refine ⟨by kernel_rfl, ?_⟩
 refine aC (aE (aA ?_))
 refine bP rfl rfl (by decide) rfl rfl (by exact Nat.le_of_ble_eq_true rfl) ?_
 refine aZ (Bk y hs) rfl rfl rfl rfl rfl (bu rfl (aD (aC (aE ?_))))
 refine ig (s := 13) rfl (Ty.bI (check_eq y)) ?_
 refine aA (bG rfl (bG rfl (bG rfl (bG rfl (bu rfl (bu rfl (bu rfl (bu rfl (aD ?_)))))))))
 refine aC (aE (aA (mB rfl (mB rfl (aD (aC (aE (aA ?_))))))))
 refine bh rfl (by exact List.cons_ne_nil _ _) rfl ?_
 refine aD (aC ?_)
 refine kV (J := live [(1, Ty.int .i64 (p)), (2, Ty.int .i64 (q)), (3, Ty.int .i64 (d)), (4, Ty.int .i64 (v)), (5, Ty.pp (bA y)), (11, Ty.ptr 12 0), (12, Ty.ptr 13 0), (14, Ty.int .i64 (bq y)), (18, Ty.sl bX (fN y p)), (19, Ty.sl bX (kF y)), (20, Ty.ptr 21 0), (15, Ty.int .i64 (fU y p)), (17, Ty.int .i64 (fM y p d v)), (16, Ty.int .i64 (gO y q))] [(12, Cont.cells 27 (bA y)), (13, Cont.cells 60 (bA y)), (21, Cont.cells 37 (bX.tys (iW y q)))]) ?_ ?_
 ·
  refine aE ?_
  refine eJ (B := live [(1, Ty.int .i64 (p)), (2, Ty.int .i64 (q)), (3, Ty.int .i64 (d)), (4, Ty.int .i64 (v)), (5, Ty.pp (bA y)), (11, Ty.ptr 12 0), (12, Ty.ptr 13 0), (13, Ty.int .i64 (bH y)), (14, Ty.int .i64 (bH y)), (15, Ty.int .i64 (bH y)), (16, Ty.int .i64 (bH y)), (17, Ty.int .i64 (bH y)), (18, Ty.ex (.slice none 0 0)), (19, Ty.ex (.slice none 0 0)), (20, Ty.ptr 21 0)] [(12, Cont.cells 27 (bA y)), (13, Cont.cells 60 (bA y)), (21, Cont.cells 37 [Ty.int .i64 0, Ty.int .i64 0])]) ?_ ?_
  ·refine cg.mk' ?_ ?_
   ·(repeat (first | refine aB ?_ (Ty.aT _) | refine aB ?_ (Ty.aF _))); exact aL
   refine aG rfl (Cont.aF _) ?_; refine aG rfl (Cont.aF _) ?_; refine aG rfl (Cont.aF _) ?_; exact aK
  refine aA (bG rfl (bB rfl rfl rfl (aD (aC ?_))))
  refine aq rfl (fun hc2 => ?_) (fun hc2 => ?_)
  ·
   refine aE ?_
   have h0 : bH y = 0 := hc2
   have hr := cK h0
   refine aA ?_
   refine bP rfl rfl (by decide) rfl rfl (by exact Nat.le_of_ble_eq_true rfl) ?_
   refine aZ (Qc y hr) rfl rfl rfl rfl rfl ?_
   refine bh rfl (by exact List.cons_ne_nil _ _) rfl ?_
   refine bO rfl rfl (by decide) rfl rfl rfl rfl rfl rfl ?_
   refine aD (aC (aE ?_))
   refine eJ (B := live [(1, Ty.int .i64 (p)), (2, Ty.int .i64 (q)), (3, Ty.int .i64 (d)), (4, Ty.int .i64 (v)), (5, Ty.pp (bA y)), (11, Ty.ptr 12 0), (12, Ty.ptr 13 0), (18, Ty.ex (.slice none 0 0)), (19, Ty.ex (.slice none 0 0)), (20, Ty.ptr 21 0), (21, Ty.ptr 22 0)] [(12, Cont.cells 27 (bA y)), (13, Cont.cells 60 (bA y)), (22, Cont.cells 66 (yl (jJ y))), (21, Cont.cells 37 [Ty.int .i64 0, Ty.int .i64 0])]) ?_ ?_
   ·refine cg.mk' ?_ ?_
    ·(repeat (first | refine aB ?_ (Ty.aT _) | refine aB ?_ (Ty.aF _))); exact aL
    refine aG rfl (Cont.aF _) ?_; refine aG rfl (Cont.aF _) ?_; refine aG rfl (Cont.aF _) ?_; refine aG rfl (Cont.aF _) ?_; exact aK
   refine aA (bu rfl (aD (aC ?_)))
   refine kV (J := live [(1, Ty.int .i64 (p)), (2, Ty.int .i64 (q)), (3, Ty.int .i64 (d)), (4, Ty.int .i64 (v)), (5, Ty.pp (bA y)), (11, Ty.ptr 12 0), (12, Ty.ptr 13 0), (14, Ty.int .i64 (bq y)), (18, Ty.ex (.slice none 0 0)), (19, Ty.ex (.slice none 0 0)), (20, Ty.ptr 21 0), (21, Ty.ptr 22 0)] [(12, Cont.cells 27 (bA y)), (13, Cont.cells 60 (bA y)), (22, Cont.cells 66 (yl (jJ y))), (21, Cont.cells 37 [Ty.int .i64 0, Ty.int .i64 0])]) ?_ ?_
   ·
    refine aE (aA ?_)
    refine aR rfl rfl rfl rfl rfl (by decide) ?_
    refine aY rfl rfl (by decide) rfl rfl rfl ?_
    refine dr rfl (aD (aC ?_))
    refine cC rfl (fun hc3 => ?_) (fun hc3 => ?_)
    ·
     refine aA (bu rfl (aD (eT ?_)))
     (refine cg.mk' ?_ ?_ <;> (repeat' (first | exact aL | exact aK | refine aB ?_ (Ty.aT _) | refine aB ?_ (Ty.aF _) | refine aG rfl (Cont.aF _) ?_ | refine aB ?_ ?_)))
     all_goals exact Ty.bI (M6 h0 hc3)
    refine af (eT ?_)
    (refine cg.mk' ?_ ?_ <;> (repeat' (first | exact aL | exact aK | refine aB ?_ (Ty.aT _) | refine aB ?_ (Ty.aF _) | refine aG rfl (Cont.aF _) ?_ | refine aB ?_ ?_)))
    all_goals exact Ty.bI (Ni h0 hc3)
   refine kV (J := live [(1, Ty.int .i64 (p)), (2, Ty.int .i64 (q)), (3, Ty.int .i64 (d)), (4, Ty.int .i64 (v)), (5, Ty.pp (bA y)), (11, Ty.ptr 12 0), (12, Ty.ptr 13 0), (14, Ty.int .i64 (bq y)), (18, Ty.ex (.slice none 0 0)), (19, Ty.ex (.slice none 0 0)), (20, Ty.ptr 21 0), (21, Ty.ptr 22 0), (15, Ty.int .i64 (fU y p)), (17, Ty.int .i64 (fM y p d v))] [(12, Cont.cells 27 (bA y)), (13, Cont.cells 60 (bA y)), (22, Cont.cells 66 (yl (jJ y))), (21, Cont.cells 37 [Ty.int .i64 0, Ty.int .i64 0])]) ?_ ?_
   ·
    refine aE (aA (bG rfl (bG rfl (bu rfl (bu rfl (aD (aC (aE (aA ?_)))))))))
    refine bG rfl (bB rfl rfl rfl (eY rfl ?_))
    apply aM (s := 57) rfl rfl rfl
    ·intro hg; apply aO; (refine bG rfl ?_); refine aD ?_; exact rfl
    ·exact rfl
    ·exact rfl
    apply aM (s := 57) rfl rfl rfl
    ·intro hg; apply aO; (refine aI rfl rfl rfl rfl rfl (by decide) ?_); refine aD ?_; exact rfl
    ·exact rfl
    ·exact rfl
    apply aM (s := 57) rfl rfl rfl
    ·intro hg; apply aH (s := 59) rfl (by (rw [hg]; rfl)); apply aO; (refine aJ rfl rfl rfl rfl ?_); refine aD ?_; exact rfl
    ·exact rfl
    ·exact rfl
    apply aM (s := 57) rfl rfl rfl
    ·intro hg; apply aH (s := 60) rfl (by (rw [hg]; rfl)); apply aO; (refine b9 rfl rfl rfl ?_); refine aD ?_; exact rfl
    ·exact rfl
    ·exact rfl
    apply aM (s := 57) rfl rfl rfl
    ·intro hg; apply aH (s := 58) rfl (by (rw [hg]; rfl)); apply aH (s := 61) rfl (by (rw [hg]; rfl)); apply aO; (refine bB rfl rfl rfl ?_); refine aD ?_; exact rfl
    ·exact rfl
    ·exact rfl
    refine gN rfl rfl (aD (aC ?_))
    refine cC rfl (fun hc4 => ?_) (fun hc4 => ?_)
    ·
     refine aA (bu rfl (bu rfl (aD (eT ?_))))
     (refine cg.mk' ?_ ?_ <;> (repeat' (first | exact aL | exact aK | refine aB ?_ (Ty.aT _) | refine aB ?_ (Ty.aF _) | refine aG rfl (Cont.aF _) ?_ | refine aB ?_ ?_)))
     all_goals first | exact Ty.bI (Ao (d := d) (v := v) h0 hc4).1 | exact Ty.bI (Ao h0 hc4).2
    refine aE (aA (bu rfl (aD (aC (aE (aA (bG rfl (bB rfl rfl rfl (eY rfl ?_)))))))))
    apply aM (s := 66) rfl rfl rfl
    ·intro hg; apply aO; (refine bG rfl ?_); refine aD ?_; exact rfl
    ·exact rfl
    ·exact rfl
    apply aM (s := 66) rfl rfl rfl
    ·intro hg; apply aO; (refine aI rfl rfl rfl rfl rfl (by decide) ?_); refine aD ?_; exact rfl
    ·exact rfl
    ·exact rfl
    apply aM (s := 66) rfl rfl rfl
    ·intro hg; apply aH (s := 68) rfl (by (rw [hg]; rfl)); apply aO; (refine aJ rfl rfl rfl rfl ?_); refine aD ?_; exact rfl
    ·exact rfl
    ·exact rfl
    apply aM (s := 66) rfl rfl rfl
    ·intro hg; apply aH (s := 67) rfl (by (rw [hg]; rfl)); apply aH (s := 69) rfl (by (rw [hg]; rfl)); apply aO; (refine bB rfl rfl rfl ?_); refine aD ?_; exact rfl
    ·exact rfl
    ·exact rfl
    refine gN rfl rfl (aD (aC ?_))
    refine cC rfl (fun hc5 => ?_) (fun hc5 => ?_)
    ·
     refine aA (bu rfl (aD (eT ?_)))
     (refine cg.mk' ?_ ?_ <;> (repeat' (first | exact aL | exact aK | refine aB ?_ (Ty.aT _) | refine aB ?_ (Ty.aF _) | refine aG rfl (Cont.aF _) ?_ | refine aB ?_ ?_)))
     all_goals first | exact Ty.bI (vm h0 hc4) | exact Ty.bI (I3 h0 hc4 hc5)
    refine aE ?_
    obtain ⟨hp0, hp1, hpe, hpl⟩ := sO hc4
    obtain ⟨hd0, hd1, hde, hdl⟩ := BR hr hc5
    have hbl := (l9 (y := y)).bins
    have hrl := (l9 (y := y)).row p.toNat hpl
    refine aA ?_
    refine aR rfl rfl rfl rfl rfl (by decide) ?_
    refine aY rfl rfl (by decide) rfl rfl rfl ?_
    refine bG rfl ?_
    refine gQ rfl rfl rfl rfl rfl rfl hp0 (by omega) ?_
    refine aJ rfl rfl rfl rfl (bG rfl ?_)
    refine gQ rfl rfl rfl rfl rfl rfl hd0 (by omega) ?_
    refine aX rfl rfl rfl (by exact Nat.le_of_ble_eq_true rfl) ?_
    refine bh rfl (by exact List.cons_ne_nil _ _) rfl ?_
    refine bO rfl rfl (by decide) rfl rfl rfl rfl rfl rfl ?_
    refine aD (aC (aE ?_))
    refine eJ (B := live [(1, Ty.int .i64 (p)), (2, Ty.int .i64 (q)), (3, Ty.int .i64 (d)), (4, Ty.int .i64 (v)), (5, Ty.pp (bA y)), (11, Ty.ptr 12 0), (12, Ty.ptr 13 0), (18, Ty.ex (.slice none 0 0)), (19, Ty.ex (.slice none 0 0)), (20, Ty.ptr 21 0), (21, Ty.ptr 22 0), (14, Ty.int .i64 (bq y)), (15, Ty.int .i64 (bq y)), (17, Ty.int .i64 (6)), (22, Ty.ptr 23 0)] [(12, Cont.cells 27 (bA y)), (13, Cont.cells 60 (bA y)), (22, Cont.cells 66 (yl (jJ y))), (21, Cont.cells 37 [Ty.int .i64 0, Ty.int .i64 0]), (23, Cont.cells 37 (bX.tys (nth (nth (jJ y).bins p.toNat) d.toNat)))]) ?_ ?_
    ·refine cg.mk' ?_ ?_
     ·(repeat (first | refine aB ?_ (Ty.aT _) | refine aB ?_ (Ty.aF _))); exact aL
     refine aG rfl (Cont.aF _) ?_; refine aG rfl (Cont.aF _) ?_; refine aG rfl (Cont.aF _) ?_; refine aG rfl (Cont.aF _) ?_; refine aG rfl (Cont.aF _) ?_; exact aK
    refine aA ?_
    refine aR rfl rfl rfl rfl rfl (by decide) ?_
    refine aY rfl rfl (by decide) rfl rfl rfl ?_
    refine eY rfl ?_
    apply aM (s := 82) rfl rfl rfl
    ·intro hg; apply aO; (refine bG rfl ?_); refine aD ?_; exact rfl
    ·exact rfl
    ·exact rfl
    apply aM (s := 82) rfl rfl rfl
    ·intro hg; apply aO; (refine aR rfl rfl rfl rfl rfl (by decide) ?_); refine aD ?_; exact rfl
    ·exact rfl
    ·exact rfl
    apply aM (s := 82) rfl rfl rfl
    ·intro hg; apply aH (s := 84) rfl (by (rw [hg]; rfl)); apply aO; (refine aY rfl rfl (by decide) rfl rfl rfl ?_); refine aD ?_; exact rfl
    ·exact rfl
    ·exact rfl
    apply aM (s := 82) rfl rfl rfl
    ·intro hg; apply aH (s := 83) rfl (by (rw [hg]; rfl)); apply aH (s := 85) rfl (by (rw [hg]; rfl)); apply aO; (refine bB rfl rfl rfl ?_); refine aD ?_; exact rfl
    ·exact rfl
    ·exact rfl
    refine eA rfl rfl (eY rfl ?_)
    apply aM (s := 88) rfl rfl rfl
    ·intro hg; apply aO; (refine bG rfl ?_); refine aD ?_; exact rfl
    ·exact rfl
    ·exact rfl
    apply aM (s := 88) rfl rfl rfl
    ·intro hg; apply aO; (refine aR rfl rfl rfl rfl rfl (by decide) ?_); refine aD ?_; exact rfl
    ·exact rfl
    ·exact rfl
    apply aM (s := 88) rfl rfl rfl
    ·intro hg; apply aH (s := 90) rfl (by (rw [hg]; rfl)); apply aO; (refine aY rfl rfl (by decide) rfl rfl rfl ?_); refine aD ?_; exact rfl
    ·exact rfl
    ·exact rfl
    apply aM (s := 88) rfl rfl rfl
    ·intro hg; apply aH (s := 89) rfl (by (rw [hg]; rfl)); apply aH (s := 91) rfl (by (rw [hg]; rfl)); apply aO; (refine bB rfl rfl rfl ?_); refine aD ?_; exact rfl
    ·exact rfl
    ·exact rfl
    refine eA rfl rfl (aD (aC ?_))
    refine cC rfl (fun hc6 => ?_) (fun hc6 => ?_)
    ·
     refine aA (bu rfl (aD (eT ?_)))
     (refine cg.mk' ?_ ?_ <;> (repeat' (first | exact aL | exact aK | refine aB ?_ (Ty.aT _) | refine aB ?_ (Ty.aF _) | refine aG rfl (Cont.aF _) ?_ | refine aB ?_ ?_)))
     all_goals first | exact Ty.bI (vm h0 hc4) | exact Ty.bI ((GS h0 hc4 hc5).1 hc6)
    refine af (eT ?_)
    (refine cg.mk' ?_ ?_ <;> (repeat' (first | exact aL | exact aK | refine aB ?_ (Ty.aT _) | refine aB ?_ (Ty.aF _) | refine aG rfl (Cont.aF _) ?_ | refine aB ?_ ?_)))
    all_goals first | exact Ty.bI (vm h0 hc4) | exact Ty.bI ((GS h0 hc4 hc5).2 hc6)
   refine kV (J := live [(1, Ty.int .i64 (p)), (2, Ty.int .i64 (q)), (3, Ty.int .i64 (d)), (4, Ty.int .i64 (v)), (5, Ty.pp (bA y)), (11, Ty.ptr 12 0), (12, Ty.ptr 13 0), (14, Ty.int .i64 (bq y)), (18, Ty.ex (.slice none 0 0)), (19, Ty.ex (.slice none 0 0)), (20, Ty.ptr 21 0), (21, Ty.ptr 22 0), (15, Ty.int .i64 (fU y p)), (17, Ty.int .i64 (fM y p d v)), (16, Ty.int .i64 (gO y q))] [(12, Cont.cells 27 (bA y)), (13, Cont.cells 60 (bA y)), (22, Cont.cells 66 (yl (jJ y))), (21, Cont.cells 37 [Ty.int .i64 0, Ty.int .i64 0])]) ?_ ?_
   ·
    refine aE (aA (bG rfl (bu rfl (aD (aC (aE (aA (bG rfl (bB rfl rfl rfl ?_)))))))))
    refine eY rfl ?_
    apply aM (s := 97) rfl rfl rfl
    ·intro hg; apply aO; (refine bG rfl ?_); refine aD ?_; exact rfl
    ·exact rfl
    ·exact rfl
    apply aM (s := 97) rfl rfl rfl
    ·intro hg; apply aO; (refine aI rfl rfl rfl rfl rfl (by decide) ?_); refine aD ?_; exact rfl
    ·exact rfl
    ·exact rfl
    apply aM (s := 97) rfl rfl rfl
    ·intro hg; apply aH (s := 99) rfl (by (rw [hg]; rfl)); apply aO; (refine aJ rfl rfl rfl rfl ?_); refine aD ?_; exact rfl
    ·exact rfl
    ·exact rfl
    apply aM (s := 97) rfl rfl rfl
    ·intro hg; apply aH (s := 100) rfl (by (rw [hg]; rfl)); apply aO; (refine b9 rfl rfl rfl ?_); refine aD ?_; exact rfl
    ·exact rfl
    ·exact rfl
    apply aM (s := 97) rfl rfl rfl
    ·intro hg; apply aH (s := 98) rfl (by (rw [hg]; rfl)); apply aH (s := 101) rfl (by (rw [hg]; rfl)); apply aO; (refine bB rfl rfl rfl ?_); refine aD ?_; exact rfl
    ·exact rfl
    ·exact rfl
    refine gN rfl rfl (aD (aC ?_))
    refine cC rfl (fun hc7 => ?_) (fun hc7 => ?_)
    ·
     refine aA (bu rfl (aD (eT ?_)))
     (refine cg.mk' ?_ ?_ <;> (repeat' (first | exact aL | exact aK | refine aB ?_ (Ty.aT _) | refine aB ?_ (Ty.aF _) | refine aG rfl (Cont.aF _) ?_ | refine aB ?_ ?_)))
     all_goals exact Ty.bI (La h0 hc7)
    refine af (eT ?_)
    (refine cg.mk' ?_ ?_ <;> (repeat' (first | exact aL | exact aK | refine aB ?_ (Ty.aT _) | refine aB ?_ (Ty.aF _) | refine aG rfl (Cont.aF _) ?_ | refine aB ?_ ?_)))
    all_goals exact Ty.bI (Fe h0 hc7)
   refine kV (J := live [(1, Ty.int .i64 (p)), (2, Ty.int .i64 (q)), (3, Ty.int .i64 (d)), (4, Ty.int .i64 (v)), (5, Ty.pp (bA y)), (11, Ty.ptr 12 0), (12, Ty.ptr 13 0), (14, Ty.int .i64 (bq y)), (18, Ty.sl bX (fN y p)), (19, Ty.ex (.slice none 0 0)), (20, Ty.ptr 21 0), (21, Ty.ptr 22 0), (15, Ty.int .i64 (fU y p)), (17, Ty.int .i64 (fM y p d v)), (16, Ty.int .i64 (gO y q))] [(12, Cont.cells 27 (bA y)), (13, Cont.cells 60 (bA y)), (22, Cont.cells 66 (yl (jJ y))), (21, Cont.cells 37 [Ty.int .i64 0, Ty.int .i64 0])]) ?_ ?_
   ·
    refine aE (aA (bG rfl (bB rfl rfl rfl (aD (aC ?_)))))
    refine aq rfl (fun hc8 => ?_) (fun hc8 => ?_)
    ·
     have hbz := (zg h0 hc8).1
     have hbl := (l9 (y := y)).bins
     refine aA ?_
     refine aR rfl rfl rfl rfl rfl (by decide) ?_
     refine aY rfl rfl (by decide) rfl rfl rfl ?_
     refine bG rfl ?_
     refine gQ rfl rfl rfl rfl rfl rfl hbz.1 (by omega) ?_
     refine aJ rfl rfl rfl rfl (Bh rfl (aD (eT ?_)))
     (refine cg.mk' ?_ ?_ <;> (repeat' (first | exact aL | exact aK | refine aB ?_ (Ty.aT _) | refine aB ?_ (Ty.aF _) | refine aG rfl (Cont.aF _) ?_ | refine aB ?_ ?_)))
     all_goals exact Ty.yG (zg h0 hc8).2
    refine af (eT ?_)
    (refine cg.mk' ?_ ?_ <;> (repeat' (first | exact aL | exact aK | refine aB ?_ (Ty.aT _) | refine aB ?_ (Ty.aF _) | refine aG rfl (Cont.aF _) ?_ | refine aB ?_ ?_)))
    all_goals exact wF (CF hc8)
   refine kV (J := live [(1, Ty.int .i64 (p)), (2, Ty.int .i64 (q)), (3, Ty.int .i64 (d)), (4, Ty.int .i64 (v)), (5, Ty.pp (bA y)), (11, Ty.ptr 12 0), (12, Ty.ptr 13 0), (14, Ty.int .i64 (bq y)), (18, Ty.sl bX (fN y p)), (19, Ty.ex (.slice none 0 0)), (20, Ty.ptr 21 0), (21, Ty.ptr 22 0), (15, Ty.int .i64 (fU y p)), (17, Ty.int .i64 (fM y p d v)), (16, Ty.int .i64 (gO y q))] [(12, Cont.cells 27 (bA y)), (13, Cont.cells 60 (bA y)), (22, Cont.cells 66 (yl (jJ y))), (21, Cont.cells 37 (bX.tys (iW y q)))]) ?_ ?_
   ·
    refine aE (aA (bG rfl (bB rfl rfl rfl (aD (aC ?_)))))
    refine aq rfl (fun hc9 => ?_) (fun hc9 => ?_)
    ·
     have hmz := (uX h0 hc9).1
     have hml := (l9 (y := y)).moves
     refine aA ?_
     refine aR rfl rfl rfl rfl rfl (by decide) ?_
     refine aY rfl rfl (by decide) rfl rfl rfl ?_
     refine bG rfl ?_
     refine gQ rfl rfl rfl rfl rfl rfl hmz.1 (by omega) ?_
     refine aX rfl rfl rfl (by exact Nat.le_of_ble_eq_true rfl) ?_
     refine bO rfl rfl (by decide) rfl rfl rfl rfl rfl rfl ?_
     refine aD (eT ?_)
     (refine cg.mk' ?_ ?_ <;> (repeat' (first | exact aL | exact aK | exact cv | refine aB ?_ (Ty.aT _) | refine aB ?_ (Ty.aF _) | refine aG rfl (Cont.aF _) ?_ | refine aG rfl (Cont.ct ?_) ?_ | refine bJ ?_ ?_)))
     all_goals first | exact Ty.bI (congrArg Span.lo (uX h0 hc9).2) | exact Ty.bI (congrArg Span.hi (uX h0 hc9).2)
    refine af (eT ?_)
    (refine cg.mk' ?_ ?_ <;> (repeat' (first | exact aL | exact aK | exact cv | refine aB ?_ (Ty.aT _) | refine aB ?_ (Ty.aF _) | refine aG rfl (Cont.aF _) ?_ | refine aG rfl (Cont.ct ?_) ?_ | refine bJ ?_ ?_)))
    all_goals first | exact Ty.bI (congrArg Span.lo (xR hc9)) | exact Ty.bI (congrArg Span.hi (xR hc9))
   refine aE (aA (bG rfl (bB rfl rfl rfl (aD (aC ?_)))))
   refine aq rfl (fun hc10 => ?_) (fun hc10 => ?_)
   ·
    refine aA ?_
    refine aR rfl rfl rfl rfl rfl (by decide) ?_
    refine aY rfl rfl (by decide) rfl rfl rfl ?_
    refine Bh rfl (aD (eT ?_))
    (refine cg.mk' ?_ ?_ <;> (repeat' (first | exact aL | exact aK | refine aB ?_ (Ty.aT _) | refine aB ?_ (Ty.aF _) | refine aG rfl (Cont.aF _) ?_ | refine aB ?_ ?_)))
    all_goals exact Ty.yG (Gc hc10)
   refine af (eT ?_)
   (refine cg.mk' ?_ ?_ <;> (repeat' (first | exact aL | exact aK | refine aB ?_ (Ty.aT _) | refine aB ?_ (Ty.aF _) | refine aG rfl (Cont.aF _) ?_ | refine aB ?_ ?_)))
   all_goals exact wF (C0 hc10)
  refine af (eT ?_)
  (refine cg.mk' ?_ ?_ <;> (repeat' (first | exact aL | exact aK | exact cv | refine aB ?_ (Ty.aT _) | refine aB ?_ (Ty.aF _) | refine aG rfl (Cont.aF _) ?_ | refine aG rfl (Cont.ct ?_) ?_ | refine bJ ?_ ?_ | refine aB ?_ ?_)))
  all_goals first | exact Ty.bI (lg (p := p) (q := q) (d := d) (v := v) hc2).1.1 | exact Ty.bI (lg (p := p) (q := q) (d := d) (v := v) hc2).1.2.1 | exact Ty.bI (lg (p := p) (q := q) (d := d) (v := v) hc2).1.2.2.1 | exact Ty.bI (lg (p := p) (q := q) (d := d) (v := v) hc2).1.2.2.2 | exact wF (lg (p := p) (q := q) (d := d) (v := v) hc2).2.1 | exact wF (lg (p := p) (q := q) (d := d) (v := v) hc2).2.2.2 | exact Ty.bI (congrArg Span.lo (lg (p := p) (q := q) (d := d) (v := v) hc2).2.2.1) | exact Ty.bI (congrArg Span.hi (lg (p := p) (q := q) (d := d) (v := v) hc2).2.2.1)
 refine aE (aA ?_)
 refine bP rfl rfl (by decide) rfl rfl (by exact Nat.le_of_ble_eq_true rfl) ?_
 refine aZ (JI y hs) rfl rfl rfl rfl rfl (tL rfl (bQ rfl rfl (bQ rfl rfl ?_)))
 refine bh rfl (by exact List.cons_ne_nil _ _) rfl ?_
 refine bO rfl rfl (by decide) rfl rfl rfl rfl rfl rfl ?_
 refine bu rfl (aD (aC (aE ?_)))
 refine eJ (B := live [(1, Ty.int .i64 (p)), (2, Ty.int .i64 (q)), (3, Ty.int .i64 (d)), (4, Ty.int .i64 (v)), (5, Ty.pp (bA y)), (11, Ty.ptr 12 0), (12, Ty.ptr 13 0), (14, Ty.int .i64 (bq y)), (18, Ty.sl bX (fN y p)), (19, Ty.sl bX (kF y)), (20, Ty.ptr 21 0), (15, Ty.int .i64 (fU y p)), (17, Ty.int .i64 (fM y p d v)), (16, Ty.int .i64 (gO y q)), (23, Ty.ptr 24 0), (24, Ty.int .i64 (bq y))] [(12, Cont.cells 27 (bA y)), (13, Cont.cells 60 (bA y)), (21, Cont.cells 37 (bX.tys (iW y q))), (24, Cont.cells 30 (fR (gK y)))]) ?_ ?_
 ·refine cg.mk' ?_ ?_
  ·(repeat (first | refine aB ?_ (Ty.aT _) | refine aB ?_ (Ty.aF _))); exact aL
  refine aG rfl (Cont.aF _) ?_; refine aG rfl (Cont.aF _) ?_; refine aG rfl (Cont.aF _) ?_; refine aG rfl (Cont.aF _) ?_; exact aK
 refine aA ?_
 refine bP rfl rfl (by decide) rfl rfl (by exact Nat.le_of_ble_eq_true rfl) ?_
 refine bG rfl (aZ (xu y hs p) rfl rfl rfl rfl rfl (tL rfl (bQ rfl rfl (bQ rfl rfl (Bh rfl (bu rfl (aD (aC (aE ?_)))))))))
 refine eJ (B := live [(1, Ty.int .i64 (p)), (2, Ty.int .i64 (q)), (3, Ty.int .i64 (d)), (4, Ty.int .i64 (v)), (5, Ty.pp (bA y)), (11, Ty.ptr 12 0), (12, Ty.ptr 13 0), (14, Ty.int .i64 (bq y)), (18, Ty.sl bX (fN y p)), (19, Ty.sl bX (kF y)), (20, Ty.ptr 21 0), (15, Ty.int .i64 (fU y p)), (17, Ty.int .i64 (fM y p d v)), (16, Ty.int .i64 (gO y q)), (23, Ty.ptr 24 0), (24, Ty.int .i64 (bq y)), (25, Ty.sl bX (fN y p)), (26, Ty.int .i64 (fU y p))] [(12, Cont.cells 27 (bA y)), (13, Cont.cells 60 (bA y)), (21, Cont.cells 37 (bX.tys (iW y q))), (24, Cont.cells 30 (fR (gK y)))]) ?_ ?_
 ·refine cg.mk' ?_ ?_
  ·(repeat (first | refine aB ?_ (Ty.aT _) | refine aB ?_ (Ty.aF _))); exact aL
  refine aG rfl (Cont.aF _) ?_; refine aG rfl (Cont.aF _) ?_; refine aG rfl (Cont.aF _) ?_; refine aG rfl (Cont.aF _) ?_; exact aK
 refine aA ?_
 refine bP rfl rfl (by decide) rfl rfl (by exact Nat.le_of_ble_eq_true rfl) ?_
 refine bG rfl (aZ (GR y hs q) rfl rfl rfl rfl rfl (tL rfl (bQ rfl rfl (bQ rfl rfl ?_))))
 refine bh rfl (by exact List.cons_ne_nil _ _) rfl ?_
 refine bO rfl rfl (by decide) rfl rfl rfl rfl rfl rfl ?_
 refine bu rfl (aD (aC (aE ?_)))
 refine eJ (B := live [(1, Ty.int .i64 (p)), (2, Ty.int .i64 (q)), (3, Ty.int .i64 (d)), (4, Ty.int .i64 (v)), (5, Ty.pp (bA y)), (11, Ty.ptr 12 0), (12, Ty.ptr 13 0), (14, Ty.int .i64 (bq y)), (18, Ty.sl bX (fN y p)), (19, Ty.sl bX (kF y)), (20, Ty.ptr 21 0), (15, Ty.int .i64 (fU y p)), (17, Ty.int .i64 (fM y p d v)), (16, Ty.int .i64 (gO y q)), (23, Ty.ptr 24 0), (24, Ty.int .i64 (bq y)), (25, Ty.sl bX (fN y p)), (26, Ty.int .i64 (fU y p)), (27, Ty.ptr 28 0), (28, Ty.int .i64 (gO y q))] [(12, Cont.cells 27 (bA y)), (13, Cont.cells 60 (bA y)), (21, Cont.cells 37 (bX.tys (iW y q))), (24, Cont.cells 30 (fR (gK y))), (28, Cont.cells 37 (bX.tys (iW y q)))]) ?_ ?_
 ·refine cg.mk' ?_ ?_
  ·(repeat (first | refine aB ?_ (Ty.aT _) | refine aB ?_ (Ty.aF _))); exact aL
  refine aG rfl (Cont.aF _) ?_; refine aG rfl (Cont.aF _) ?_; refine aG rfl (Cont.aF _) ?_; refine aG rfl (Cont.aF _) ?_; refine aG rfl (Cont.aF _) ?_; exact aK
 refine aA ?_
 refine bP rfl rfl (by decide) rfl rfl (by exact Nat.le_of_ble_eq_true rfl) ?_
 refine aZ (Fq y hs) rfl rfl rfl rfl rfl (tL rfl (bQ rfl rfl (bQ rfl rfl (Bh rfl (bu rfl (aD (aC (aE ?_))))))))
 refine eJ (B := live [(1, Ty.int .i64 (p)), (2, Ty.int .i64 (q)), (3, Ty.int .i64 (d)), (4, Ty.int .i64 (v)), (5, Ty.pp (bA y)), (11, Ty.ptr 12 0), (12, Ty.ptr 13 0), (14, Ty.int .i64 (bq y)), (18, Ty.sl bX (fN y p)), (19, Ty.sl bX (kF y)), (20, Ty.ptr 21 0), (15, Ty.int .i64 (fU y p)), (17, Ty.int .i64 (fM y p d v)), (16, Ty.int .i64 (gO y q)), (23, Ty.ptr 24 0), (24, Ty.int .i64 (bq y)), (25, Ty.sl bX (fN y p)), (26, Ty.int .i64 (fU y p)), (27, Ty.ptr 28 0), (28, Ty.int .i64 (gO y q)), (29, Ty.sl bX (kF y)), (30, Ty.int .i64 (bq y))] [(12, Cont.cells 27 (bA y)), (13, Cont.cells 60 (bA y)), (21, Cont.cells 37 (bX.tys (iW y q))), (24, Cont.cells 30 (fR (gK y))), (28, Cont.cells 37 (bX.tys (iW y q)))]) ?_ ?_
 ·refine cg.mk' ?_ ?_
  ·(repeat (first | refine aB ?_ (Ty.aT _) | refine aB ?_ (Ty.aF _))); exact aL
  refine aG rfl (Cont.aF _) ?_; refine aG rfl (Cont.aF _) ?_; refine aG rfl (Cont.aF _) ?_; refine aG rfl (Cont.aF _) ?_; refine aG rfl (Cont.aF _) ?_; exact aK
 refine aA ?_
 refine bP rfl rfl (by decide) rfl rfl (by exact Nat.le_of_ble_eq_true rfl) ?_
 refine bG rfl (bG rfl (bG rfl (aZ (MS y hs p d v) rfl rfl rfl rfl rfl (tL rfl (bQ rfl rfl (bQ rfl rfl ?_))))))
 refine bh rfl (by exact List.cons_ne_nil _ _) rfl ?_
 refine bO rfl rfl (by decide) rfl rfl rfl rfl rfl rfl ?_
 refine bu rfl (aD (aC (aE (aE ?_))))
 refine eJ (B := live [(1, Ty.int .i64 (p)), (2, Ty.int .i64 (q)), (3, Ty.int .i64 (d)), (4, Ty.int .i64 (v)), (5, Ty.pp (bA y)), (11, Ty.ptr 12 0), (12, Ty.ptr 13 0), (14, Ty.int .i64 (bq y)), (18, Ty.sl bX (fN y p)), (19, Ty.sl bX (kF y)), (20, Ty.ptr 21 0), (15, Ty.int .i64 (fU y p)), (17, Ty.int .i64 (fM y p d v)), (16, Ty.int .i64 (gO y q)), (23, Ty.ptr 24 0), (24, Ty.int .i64 (bq y)), (25, Ty.sl bX (fN y p)), (26, Ty.int .i64 (fU y p)), (27, Ty.ptr 28 0), (28, Ty.int .i64 (gO y q)), (29, Ty.sl bX (kF y)), (30, Ty.int .i64 (bq y)), (31, Ty.ptr 32 0), (32, Ty.int .i64 (fM y p d v))] [(12, Cont.cells 27 (bA y)), (13, Cont.cells 60 (bA y)), (21, Cont.cells 37 (bX.tys (iW y q))), (24, Cont.cells 30 (fR (gK y))), (28, Cont.cells 37 (bX.tys (iW y q))), (32, Cont.cells 30 (fR (gz y p d v)))]) ?_ ?_
 ·refine cg.mk' ?_ ?_
  ·(repeat (first | refine aB ?_ (Ty.aT _) | refine aB ?_ (Ty.aF _))); exact aL
  refine aG rfl (Cont.aF _) ?_; refine aG rfl (Cont.aF _) ?_; refine aG rfl (Cont.aF _) ?_; refine aG rfl (Cont.aF _) ?_; refine aG rfl (Cont.aF _) ?_; refine aG rfl (Cont.aF _) ?_; exact aK
 refine aA (bG rfl (bG rfl (bB rfl rfl rfl (eY rfl ?_))))
 apply aM (s := 155) rfl rfl rfl
 ·intro hg; apply aO; (refine bG rfl ?_); refine aD ?_; exact rfl
 ·exact rfl
 ·exact rfl
 apply aM (s := 155) rfl rfl rfl
 ·intro hg; apply aO; (refine bG rfl ?_); refine aD ?_; exact rfl
 ·exact rfl
 ·exact rfl
 apply aM (s := 155) rfl rfl rfl
 ·intro hg; apply aH (s := 156) rfl (by (rw [hg]; rfl)); apply aH (s := 157) rfl (by (rw [hg]; rfl)); apply aO; (refine bB rfl rfl rfl ?_); refine aD ?_; exact rfl
 ·exact rfl
 ·exact rfl
 refine gN rfl rfl (eY rfl ?_)
 apply aM (s := 160) rfl rfl rfl
 ·intro hg; apply aO; (refine bG rfl ?_); refine aD ?_; exact rfl
 ·exact rfl
 ·exact rfl
 apply aM (s := 160) rfl rfl rfl
 ·intro hg; apply aO; (refine bG rfl ?_); refine aD ?_; exact rfl
 ·exact rfl
 ·exact rfl
 apply aM (s := 160) rfl rfl rfl
 ·intro hg; apply aH (s := 161) rfl (by (rw [hg]; rfl)); apply aH (s := 162) rfl (by (rw [hg]; rfl)); apply aO; (refine bB rfl rfl rfl ?_); refine aD ?_; exact rfl
 ·exact rfl
 ·exact rfl
 refine gN rfl rfl (eY rfl ?_)
 apply aM (s := 165) rfl rfl rfl
 ·intro hg; apply aO; (refine bG rfl ?_); refine aD ?_; exact rfl
 ·exact rfl
 ·exact rfl
 apply aM (s := 165) rfl rfl rfl
 ·intro hg; apply aO; (refine bG rfl ?_); refine aD ?_; exact rfl
 ·exact rfl
 ·exact rfl
 apply aM (s := 165) rfl rfl rfl
 ·intro hg; apply aH (s := 166) rfl (by (rw [hg]; rfl)); apply aH (s := 167) rfl (by (rw [hg]; rfl)); apply aO; (refine bB rfl rfl rfl ?_); refine aD ?_; exact rfl
 ·exact rfl
 ·exact rfl
 refine gN rfl rfl (eY rfl ?_)
 apply aM (s := 170) rfl rfl rfl
 ·intro hg; apply aO; (refine bG rfl ?_); refine aD ?_; exact rfl
 ·exact rfl
 ·exact rfl
 apply aM (s := 170) rfl rfl rfl
 ·intro hg; apply aO; (refine bG rfl ?_); refine aD ?_; exact rfl
 ·exact rfl
 ·exact rfl
 apply aM (s := 170) rfl rfl rfl
 ·intro hg; apply aH (s := 171) rfl (by (rw [hg]; rfl)); apply aH (s := 172) rfl (by (rw [hg]; rfl)); apply aO; (refine bB rfl rfl rfl ?_); refine aD ?_; exact rfl
 ·exact rfl
 ·exact rfl
 refine gN rfl rfl (eY rfl ?_)
 apply aM (s := 175) rfl rfl rfl
 ·intro hg; apply aO; (refine fT rfl ?_); refine aD ?_; exact rfl
 ·exact rfl
 ·exact rfl
 apply aM (s := 175) rfl rfl rfl
 ·intro hg; apply aO; (refine fT rfl ?_); refine aD ?_; exact rfl
 ·exact rfl
 ·exact rfl
 apply aM (s := 175) rfl rfl rfl
 ·intro hg; apply aH (s := 176) rfl (by (rw [hg]; rfl)); apply aH (s := 177) rfl (by (rw [hg]; rfl)); apply aO; (refine aZ (tD _ _) rfl rfl rfl rfl rfl ?_); refine aD ?_; exact rfl
 ·exact rfl
 ·exact rfl
 apply aM (s := 175) rfl rfl rfl
 ·intro hg; apply aH (s := 178) rfl (by (rw [hg]; rfl)); apply aO; (refine dr rfl ?_); refine aD ?_; exact rfl
 ·exact rfl
 ·exact rfl
 refine gN rfl rfl (eY rfl ?_)
 apply aM (s := 181) rfl rfl rfl
 ·intro hg; apply aO; (refine bP rfl rfl (by decide) rfl rfl (by exact Nat.le_of_ble_eq_true rfl) ?_); refine aD ?_; exact rfl
 ·exact rfl
 ·exact rfl
 apply aM (s := 181) rfl rfl rfl
 ·intro hg; apply aO; (refine bP rfl rfl (by decide) rfl rfl (by exact Nat.le_of_ble_eq_true rfl) ?_); refine aD ?_; exact rfl
 ·exact rfl
 ·exact rfl
 apply aM (s := 181) rfl rfl rfl
 ·intro hg; apply aH (s := 182) rfl (by (rw [hg]; rfl)); apply aH (s := 183) rfl (by (rw [hg]; rfl)); apply aO; (refine qY (Lp _ _ _ _) rfl rfl ?_); refine aD ?_; exact rfl
 ·exact rfl
 ·exact rfl
 refine gN rfl rfl (eY rfl ?_)
 apply aM (s := 186) rfl rfl rfl
 ·intro hg; apply aO; (refine fT rfl ?_); refine aD ?_; exact rfl
 ·exact rfl
 ·exact rfl
 apply aM (s := 186) rfl rfl rfl
 ·intro hg; apply aO; (refine fT rfl ?_); refine aD ?_; exact rfl
 ·exact rfl
 ·exact rfl
 apply aM (s := 186) rfl rfl rfl
 ·intro hg; apply aH (s := 187) rfl (by (rw [hg]; rfl)); apply aH (s := 188) rfl (by (rw [hg]; rfl)); apply aO; (refine aZ (tD _ _) rfl rfl rfl rfl rfl ?_); refine aD ?_; exact rfl
 ·exact rfl
 ·exact rfl
 apply aM (s := 186) rfl rfl rfl
 ·intro hg; apply aH (s := 189) rfl (by (rw [hg]; rfl)); apply aO; (refine dr rfl ?_); refine aD ?_; exact rfl
 ·exact rfl
 ·exact rfl
 refine gN rfl rfl (aD (aC ?_))
 refine ji rfl (by simp) ?_
 refine af (aC (aE (aE ?_)))
 refine eJ (B := live [(5, Ty.pp (bA y)), (1, Ty.int .i64 (p)), (3, Ty.int .i64 (d)), (4, Ty.int .i64 (v)), (11, Ty.ptr 12 0), (12, Ty.ptr 13 0), (14, Ty.int .i64 (bq y)), (17, Ty.int .i64 (fM y p d v)), (23, Ty.ptr 24 0), (31, Ty.ptr 32 0)] [(12, Cont.cells 27 (bA y)), (13, Cont.cells 60 (bA y)), (24, Cont.cells 30 (fR (gK y))), (32, Cont.cells 30 (fR (gz y p d v)))]) ?_ ?_
 ·refine cg.mk' ?_ ?_
  ·(repeat (first | refine aB ?_ (Ty.aT _) | refine aB ?_ (Ty.aF _))); exact aL
  refine aG rfl (Cont.aF _) ?_; refine aG rfl (Cont.aF _) ?_; refine aG rfl (Cont.aF _) ?_; refine aG rfl (Cont.aF _) ?_; exact aK
 refine aA (bG rfl (bB rfl rfl rfl (eY rfl ?_)))
 apply aM (s := 194) rfl rfl rfl
 ·intro hg; apply aO; (refine aX rfl rfl rfl (by exact Nat.le_of_ble_eq_true rfl) ?_); refine aD ?_; exact rfl
 ·exact rfl
 ·exact rfl
 apply aM (s := 194) rfl rfl rfl
 ·intro hg; apply aO; (refine bP rfl rfl (by decide) rfl rfl (by exact Nat.le_of_ble_eq_true rfl) ?_); refine aD ?_; exact rfl
 ·exact rfl
 ·exact rfl
 apply aM (s := 194) rfl rfl rfl
 ·intro hg; apply aH (s := 195) rfl (by (rw [hg]; rfl)); apply aH (s := 196) rfl (by (rw [hg]; rfl)); apply aO; (refine aZ (Fz y (cK (dN (of_decide_eq_true hg))) (gK y) sY.1 sY.2) rfl rfl rfl rfl rfl ?_); refine aD ?_; exact rfl
 ·exact rfl
 ·exact rfl
 apply aM (s := 194) rfl rfl rfl
 ·intro hg; apply aH (s := 197) rfl (by (rw [hg]; rfl)); apply aO; (refine dr rfl ?_); refine aD ?_; exact rfl
 ·exact rfl
 ·exact rfl
 refine eA rfl rfl (eY rfl ?_)
 apply aM (s := 200) rfl rfl rfl
 ·intro hg; apply aO; (refine bG rfl ?_); refine aD ?_; exact rfl
 ·exact rfl
 ·exact rfl
 apply aM (s := 200) rfl rfl rfl
 ·intro hg; apply aH (s := 201) rfl (by (rw [hg]; rfl)); apply aO; (refine bB rfl rfl rfl ?_); refine aD ?_; exact rfl
 ·exact rfl
 ·exact rfl
 apply aM (s := 200) rfl rfl rfl
 ·intro hg; apply aH (s := 202) rfl (by (rw [hg]; rfl)); apply aO; (refine eY rfl ?_); refine aD ?_; exact rfl
 ·exact rfl
 ·exact rfl
 apply dO (s := 203) rfl rfl rfl
 ·intro hg1 hg2; apply aO; (refine bP rfl rfl (by decide) rfl rfl (by exact Nat.le_of_ble_eq_true rfl) ?_); refine aD ?_; exact rfl
 ·exact rfl
 ·exact rfl
 apply dO (s := 203) rfl rfl rfl
 ·intro hg1 hg2; apply aH (s := 204) rfl (by (rw [hg1, hg2]; rfl)); apply aO; (refine aZ (JK (gK y) sY.1 sY.2) rfl rfl rfl rfl rfl ?_); refine aD ?_; exact rfl
 ·exact rfl
 ·exact rfl
 apply dO (s := 203) rfl rfl rfl
 ·intro hg1 hg2; apply aH (s := 205) rfl (by (rw [hg1, hg2]; rfl)); apply aO; (refine dr rfl ?_); refine aD ?_; exact rfl
 ·exact rfl
 ·exact rfl
 apply aM (s := 200) rfl rfl rfl
 ·intro hg; apply aH (s := 203) rfl (by (rw [hg]; rfl)); apply kS (s := 206) rfl (by (rw [hg]; rfl)); apply aO; (refine eA rfl rfl ?_); refine aD ?_; exact rfl
 ·exact rfl
 ·exact rfl
 refine gN rfl rfl (eY rfl ?_)
 apply aM (s := 209) rfl rfl rfl
 ·intro hg; apply aO; (refine bG rfl ?_); refine aD ?_; exact rfl
 ·exact rfl
 ·exact rfl
 apply aM (s := 209) rfl rfl rfl
 ·intro hg; apply aH (s := 210) rfl (by (rw [hg]; rfl)); apply aO; (refine bB rfl rfl rfl ?_); refine aD ?_; exact rfl
 ·exact rfl
 ·exact rfl
 apply aM (s := 209) rfl rfl rfl
 ·intro hg; apply aH (s := 211) rfl (by (rw [hg]; rfl)); apply aO; (refine eY rfl ?_); refine aD ?_; exact rfl
 ·exact rfl
 ·exact rfl
 apply dO (s := 212) rfl rfl rfl
 ·intro hg1 hg2; apply aO; (refine bP rfl rfl (by decide) rfl rfl (by exact Nat.le_of_ble_eq_true rfl) ?_); refine aD ?_; exact rfl
 ·exact rfl
 ·exact rfl
 apply dO (s := 212) rfl rfl rfl
 ·intro hg1 hg2; apply aH (s := 213) rfl (by (rw [hg1, hg2]; rfl)); apply aO; (refine aZ (JK (gz y p d v) qj.1 qj.2) rfl rfl rfl rfl rfl ?_); refine aD ?_; exact rfl
 ·exact rfl
 ·exact rfl
 apply dO (s := 212) rfl rfl rfl
 ·intro hg1 hg2; apply aH (s := 214) rfl (by (rw [hg1, hg2]; rfl)); apply aO; (refine dr rfl ?_); refine aD ?_; exact rfl
 ·exact rfl
 ·exact rfl
 apply aM (s := 209) rfl rfl rfl
 ·intro hg; apply aH (s := 212) rfl (by (rw [hg]; rfl)); apply kS (s := 215) rfl (by (rw [hg]; rfl)); apply aO; (refine eA rfl rfl ?_); refine aD ?_; exact rfl
 ·exact rfl
 ·exact rfl
 refine gN rfl rfl (aD (aC (ji rfl (I1) (af (aC (aE (aE ?_)))))))
 refine eJ (B := live [(5, Ty.pp (bA y)), (1, Ty.int .i64 (p)), (3, Ty.int .i64 (d)), (4, Ty.int .i64 (v)), (11, Ty.ptr 12 0), (12, Ty.ptr 13 0), (14, Ty.int .i64 (bq y)), (17, Ty.int .i64 (fM y p d v)), (23, Ty.ptr 24 0), (31, Ty.ptr 32 0)] [(12, Cont.cells 27 (bA y)), (13, Cont.cells 60 (bA y)), (24, Cont.cells 30 (fR (gK y))), (32, Cont.cells 30 (fR (gz y p d v)))]) ?_ ?_
 ·refine cg.mk' ?_ ?_
  ·(repeat (first | refine aB ?_ (Ty.aT _) | refine aB ?_ (Ty.aF _))); exact aL
  refine aG rfl (Cont.aF _) ?_; refine aG rfl (Cont.aF _) ?_; refine aG rfl (Cont.aF _) ?_; refine aG rfl (Cont.aF _) ?_; exact aK
 refine cL mixed rfl (bG rfl (bB rfl rfl rfl (eY rfl ?_)))
 apply aM (s := 220) rfl rfl rfl
 ·intro hg; apply aO; (refine aX rfl rfl rfl (by exact Nat.le_of_ble_eq_true rfl) ?_); refine aD ?_; exact rfl
 ·exact rfl
 ·exact rfl
 apply aM (s := 220) rfl rfl rfl
 ·intro hg; apply aO; (refine bP rfl rfl (by decide) rfl rfl (by exact Nat.le_of_ble_eq_true rfl) ?_); refine aD ?_; exact rfl
 ·exact rfl
 ·exact rfl
 apply aM (s := 220) rfl rfl rfl
 ·intro hg; apply aH (s := 221) rfl (by (rw [hg]; rfl)); apply aH (s := 222) rfl (by (rw [hg]; rfl)); apply aO; (refine aZ (Fz y (mo (of_decide_eq_true hg)).1 (gz y p d v) qj.1 qj.2) rfl rfl rfl rfl rfl ?_); refine aD ?_; exact rfl
 ·exact rfl
 ·exact rfl
 apply aM (s := 220) rfl rfl rfl
 ·intro hg; apply aH (s := 223) rfl (by (rw [hg]; rfl)); apply aO; (refine dr rfl ?_); refine aD ?_; exact rfl
 ·exact rfl
 ·exact rfl
 apply aM (s := 220) rfl rfl rfl
 ·intro hg; apply aH (s := 224) rfl (by (rw [hg]; rfl)); apply aO; (refine eY rfl ?_); refine aD ?_; exact rfl
 ·exact rfl
 ·exact rfl
 apply dO (s := 225) rfl rfl rfl
 ·intro hg1 hg2; apply aO; (refine bP rfl rfl (by decide) rfl rfl (by exact Nat.le_of_ble_eq_true rfl) ?_); refine aD ?_; exact rfl
 ·exact rfl
 ·exact rfl
 apply dO (s := 225) rfl rfl rfl
 ·intro hg1 hg2; apply aO; (refine bP rfl rfl (by decide) rfl rfl (by exact Nat.le_of_ble_eq_true rfl) ?_); refine aD ?_; exact rfl
 ·exact rfl
 ·exact rfl
 apply dO (s := 225) rfl rfl rfl
 ·intro hg1 hg2; apply aH (s := 227) rfl (by (rw [hg1, hg2]; rfl)); apply aO; (refine aZ (BE (gz y p d v) qj.1 qj.2) rfl rfl rfl rfl rfl ?_); refine aD ?_; exact rfl
 ·exact rfl
 ·exact rfl
 apply dO (s := 225) rfl rfl rfl
 ·intro hg1 hg2; apply aO; (refine bG rfl ?_); refine aD ?_; exact rfl
 ·exact rfl
 ·exact rfl
 apply dO (s := 225) rfl rfl rfl
 ·intro hg1 hg2; apply aO; (refine bG rfl ?_); refine aD ?_; exact rfl
 ·exact rfl
 ·exact rfl
 apply dO (s := 225) rfl rfl rfl
 ·intro hg1 hg2; apply aH (s := 226) rfl (by (rw [hg1, hg2]; rfl)); apply aH (s := 228) rfl (by (rw [hg1, hg2]; rfl)); apply aH (s := 229) rfl (by (rw [hg1, hg2]; rfl)); apply aH (s := 230) rfl (by (rw [hg1, hg2]; rfl)); apply aO; (refine aZ (FP y (gz y p d v) (Jw (mo (of_decide_eq_true (beq_iff_eq.1 hg1))).1 (mo (of_decide_eq_true (beq_iff_eq.1 hg1))).2.1) p d (mo (of_decide_eq_true (beq_iff_eq.1 hg1))).2.2.1.1 (by have h1 := (mo (of_decide_eq_true (beq_iff_eq.1 hg1))).2.1.lens.first; have h2 := (mo (of_decide_eq_true (beq_iff_eq.1 hg1))).2.2.1.2; omega)) rfl rfl rfl rfl rfl ?_); refine aD ?_; exact rfl
 ·exact rfl
 ·exact rfl
 apply dO (s := 225) rfl rfl rfl
 ·intro hg1 hg2; apply aO; (refine bG rfl ?_); refine aD ?_; exact rfl
 ·exact rfl
 ·exact rfl
 apply dO (s := 225) rfl rfl rfl
 ·intro hg1 hg2; apply aH (s := 231) rfl (by (rw [hg1, hg2]; rfl)); apply aH (s := 232) rfl (by (rw [hg1, hg2]; rfl)); apply aO; (refine bB rfl rfl rfl ?_); refine aD ?_; exact rfl
 ·exact rfl
 ·exact rfl
 apply aM (s := 220) rfl rfl rfl
 ·intro hg; apply aH (s := 225) rfl (by (rw [hg]; rfl)); apply kS (s := 233) rfl (by (rw [hg]; rfl)); apply aO; (refine gN rfl rfl ?_); refine aD ?_; exact rfl
 ·exact rfl
 ·exact rfl
 refine eA rfl rfl (aD ?_)
 refine ⟨by kernel_rfl, ?_⟩
 refine aC (ji rfl (Jn) (af (aC (aE (aA ?_)))))
 refine bP rfl rfl (by decide) rfl rfl (by exact Nat.le_of_ble_eq_true rfl) ?_
 refine aX rfl rfl rfl (by exact Nat.le_of_ble_eq_true rfl) ?_
 refine aZ (OZ _ _) rfl rfl rfl rfl rfl (eY rfl ?_)
 apply aM (s := 239) rfl rfl rfl
 ·intro hg; apply aO; (refine aZ (F6) rfl rfl rfl rfl rfl ?_); refine aD ?_; exact rfl
 ·exact rfl
 ·exact rfl
 refine eA rfl rfl (dK rfl (aD (aC (az (bU rfl rfl ?_)))))
 all_goals skip
 all_goals exact av rfl rfl (congrArg Ty.bool (by simp [EA]))
end Go.Proofs.YtelbollidfdcjaaGreat
namespace Go.T
open Go Go.RowKit Go.ChangeShapes Go.WideShapes Go.ChangeAt
def nr : bD := fun _ => none
theorem Mt (w : World) : Wf w nr := ⟨fun _ _ h => (by cases h), fun _ _ _ _ h => (by cases h)⟩
theorem Gr : ∀ b t, nr b = some t → t = 0 := fun _ _ h => by cases h
structure Rd {α : Type} (P : Program) (e : TypeId) (E : El α) : Prop where
  size : P.cellsOf e = E.size
  pos : 0 < E.size
  rd : ∀ {H : Type} {enc : TypeId × Value → H} {w : World} {base : Nat} {held : Bool} {n : Nat} {cs : List Value} {y : DataW H × List MemPlace}, DataW.trod enc P w base (fun _ => true) held n e cs = some y → ∃ x, cF w nr (E.tys x) cs
section
variable {H : Type} {enc : TypeId × Value → H} {P : Program} {w : World} {base : Nat} {held : Bool} {α : Type} {E : El α} {t e : TypeId} {n : Nat} {cs : List Value} {y : DataW H × List MemPlace}
theorem QC (hR : Rd P e E) (ht : P.underlying t = some (.slice e)) (h : DataW.trod enc P w base (fun _ => true) held n t cs = some y) : ∃ v xs, cs = [v] ∧ (Ty.sl E xs).den w nr v := by
 rcases Go.Deep.open_slice ht h with ⟨rfl, _⟩ | ⟨a, len, cap, m, k, D, Pl, rfl, _, hl, hm, hmm, _, hel⟩
 ·exact ⟨_, [], rfl, none, 0, rfl, Nat.le_refl _, Nat.zero_le _, fun h => absurd h (Nat.lt_irrefl _)⟩
 have hlm : len ≤ m := by rw [hmm]; simpa using hl
 have hX : ∀ i : Fin len, ∃ x : α, ∃ cs', w.cells? base (a.add (i.1 * P.cellsOf e)) (P.cellsOf e) = some cs' ∧ cF w nr (E.tys x) cs' := fun i => by
  obtain ⟨cs', h1, h2⟩ := hel i.1 (Nat.lt_of_lt_of_le i.2 hlm)
  obtain ⟨x, hx⟩ := hR.rd h2
  exact ⟨x, cs', h1, hx⟩
 let X : Fin len → α := fun i => (hX i).choose
 have hXs : ∀ i : Fin len, ∃ cs', w.cells? base (a.add (i.1 * P.cellsOf e)) (P.cellsOf e) = some cs' ∧ cF w nr (E.tys (X i)) cs' := fun i => (hX i).choose_spec
 have hlen : (List.ofFn X).length = len := by simp
 refine ⟨_, List.ofFn X, rfl, some a, cap, by rw [hlen], by rw [hlen]; exact hl, hm, fun h0 => ?_⟩
 rw [hlen] at h0
 have hcell : ∀ (i : Fin len) (j : Nat) (u : Ty), (E.tys (X i))[j]? = some u → ∃ v, w.cell? (a.add (i.1 * E.size + j)) = some v ∧ u.den w nr v := fun i j u hu => by
  obtain ⟨cs', h1, h2⟩ := hXs i
  obtain ⟨v, hv, hd⟩ := dc h2 j u hu
  obtain ⟨_, g1, g2⟩ := World.cells?_some h1
  have hj : j < P.cellsOf e := by
   rw [hR.size, ← E.len (X i)]
   exact (List.getElem?_eq_some_iff.1 hu).1
  refine ⟨v, ?_, hd⟩
  have := g2 j hj
  rw [Go.Deep.add_add, hv, hR.size] at this
  exact this
 have hsz := hR.pos
 have hfirst : ∃ v, w.cell? (a.add 0) = some v := by
  obtain ⟨u, hu⟩ : ∃ u, (E.tys (X ⟨0, h0⟩))[0]? = some u := ⟨_, List.getElem?_eq_getElem (by rw [E.len]; exact hsz)⟩
  obtain ⟨v, hv, _⟩ := hcell ⟨0, h0⟩ 0 u hu
  exact ⟨v, by simpa using hv⟩
 obtain ⟨b, off, sp⟩ := a
 obtain ⟨v0, hv0⟩ := hfirst
 have hsp : sp = none := by simpa [Addr.add] using World.cell?_spot hv0
 subst hsp
 have hb : b < w.heap.size := by
  obtain ⟨cs', h1, _⟩ := hXs ⟨0, h0⟩
  have := World.cells?_block h1 (by rw [hR.size]; exact hsz)
  simpa [Addr.add] using this
 refine ⟨b, off, rfl, rfl, hb, fun i u hu => ?_⟩
 have hi : i < len * E.size := by
  have := (List.getElem?_eq_some_iff.1 hu).1
  rw [dA, hlen] at this; exact this
 have hk : i / E.size < len := Nat.div_lt_of_lt_mul (by rw [Nat.mul_comm]; exact hi)
 have hj : i % E.size < E.size := Nat.mod_lt _ hsz
 have hij : i / E.size * E.size + i % E.size = i := by rw [Nat.mul_comm]; exact Nat.div_add_mod i E.size
 have hu2 := hu
 rw [← hij, pW E _ _ _ (by rw [hlen]; exact hk) hj, List.getElem?_ofFn, dif_pos hk] at hu2
 obtain ⟨v, hv, hd⟩ := hcell ⟨i / E.size, hk⟩ (i % E.size) u hu2
 refine ⟨v, ?_, hd⟩
 rw [← Go.WideShapes.add_plain]
 rw [hij] at hv
 exact hv
theorem Ec {f0 f1 : Field} (hs : P.underlying t = some (.struct #[f0, f1])) (hC : P.cellsOf t = 2) (h0 : f0.offset = 0 ∧ P.cellsOf f0.type = 1) (h1 : f1.offset = 1 ∧ P.cellsOf f1.type = 1) (h : DataW.trod enc P w base (fun _ => true) held n t cs = some y) :
    ∃ c0 c1 y0 y1 m, cs = [c0, c1] ∧ DataW.trod enc P w base (fun _ => true) held m f0.type [c0] = some y0 ∧ DataW.trod enc P w base (fun _ => true) held m f1.type [c1] = some y1 := by
  obtain ⟨y0, y1, m, _, hl, g0, g1⟩ := Go.ChangeShapes.trod_struct2 hs h
  rw [hC] at hl
  match cs, hl with
  | [c0, c1], _ =>
    rw [h0.1, h0.2] at g0
    rw [h1.1, h1.2] at g1
    exact ⟨c0, c1, y0, y1, m, rfl, g0, g1⟩
theorem oV {k : IntKind} {c : Value} (ht : P.underlying t = some (.int k)) (h : DataW.trod enc P w base (fun _ => true) held n t [c] = some y) : ∃ i, c = .int k i := by
 obtain ⟨i, e, _⟩ := DataW.trod_int ht h
 exact ⟨i, by simpa using e⟩
theorem Ov {c : Value} (hR : Rd P e E) (ht : P.underlying t = some (.slice e)) (h : DataW.trod enc P w base (fun _ => true) held n t [c] = some y) : ∃ xs, (Ty.sl E xs).den w nr c := by
 obtain ⟨v, xs, e, hd⟩ := QC hR ht h
 exact ⟨xs, by rw [show c = v by simpa using e]; exact hd⟩
end
section
variable {w w' : World} {S K : Nat → Prop} {M' : bD}
theorem sv (le : Le S K w nr w' M') {b : Nat} (hb : b < w.heap.size) : w'.heap[b]? = w.heap[b]? := (le.qz b hb rfl).2
theorem ME (le : Le S K w nr w' M') {p : MemPlace} (hp : p.block < w.heap.size) : w.sameAt w' p := by
  cases p with
  | cell b o => exact World.cell?_of_block (w := w) (sv le hp)
  | map b => exact sv le hp
theorem Mw (le : Le S K w nr w' M') (may : MemPlace → Prop) : w.keptBut w' may := by
 refine ⟨le.os, le.out, fun i hi => ?_⟩
 have e := sv le hi
 rw [e]
 split
 ·rename_i h1 h2
  rw [h1] at h2
  simp only [Option.some.injEq, Obj.cells.injEq] at h2
  obtain ⟨rfl, rfl, rfl⟩ := h2
  exact ⟨rfl, rfl, rfl, fun _ _ => rfl⟩
 ·rename_i h1 h2
  rw [h1] at h2
  simp only [Option.some.injEq, Obj.map.injEq] at h2
  exact Or.inr ⟨h2.1.symm, h2.2.symm⟩
 rfl
theorem Gb (le : Le S K w nr w' M') {a : Addr} (ha : a.block < w.heap.size) : w'.frozen? a = w.frozen? a := by
 unfold World.frozen?
 rw [sv le ha]
end
section
variable {H : Type} {enc : TypeId × Value → H} {P : Program}
theorem rJ (hl : laidOutB P = true) {w w' : World} {sp : Nat → Bool} : ∀ {ts : List TypeId} {vs : List Value} {ds : List (DataW H)} {ps : List MemPlace}, (∀ t ∈ ts, P.readableRec t = true ∧ t < P.types.size) →
    DataW.TrodAll enc P w 0 (fun _ => true) true ts vs ds ps → (∀ p ∈ ps, w.sameAt w' p) → (∀ p ∈ ps, sp p.block = true) → DataW.TrodAll enc P w' 0 sp true ts vs ds ps
  | [], [], [], _, _, h, _, _ => h
  | t :: ts, v :: vs, d :: ds, _, ht, ⟨p, q, h1, h2, e⟩, hs, hsp => by
    subst e
    have h0 := ht t List.mem_cons_self
    exact ⟨p, q, Go.WideElems.Trod_stays hl h0.1 h0.2 h1 (fun x hx => hs x (List.mem_append_left _ hx)) (fun x hx => hsp x (List.mem_append_left _ hx)),
      rJ hl (fun t h => ht t (List.mem_cons_of_mem _ h)) h2 (fun x hx => hs x (List.mem_append_right _ hx)) (fun x hx => hsp x (List.mem_append_right _ hx)), rfl⟩
theorem IF {f : Func} {s : ChangeSpec} {apart fresh handsOn again : Bool} {W W' : World} {args : Array Value} {ds : List (DataW H)} {before : List MemPlace} {S K : Nat → Prop} {M' : bD}
 (hl : laidOutB P = true) (hv : s.vars = []) (hrd : ∀ t ∈ f.params.toList, P.readableRec t = true ∧ t < P.types.size) {tb : TypeId} (htb : P.underlying tb = some .bool) (hrt : f.resultTypes = #[tb])
 (hW : DataW.Whole enc P f.params.toList s.vars apart W args.toList ds [] before) (hres : (s.fn H (ds ++ [])).results = [.lit (.bool true)]) (hargs : (s.fn H (ds ++ [])).args = ds) (hvars : (s.fn H (ds ++ [])).vars = [])
 (le : Le S K W nr W' M') : s.post enc P f apart fresh handsOn again W args (.bool true) W' := by
 have hW0 := hW
 obtain ⟨p, q, hA, hV, hb, hfz, hn⟩ := hW0
 have hlt := DataW.TrodAll.lt hA
 have hq : q = [] := by rw [hv] at hV; exact (trodVars_none hV).2
 subst hq
 have hbp : before = p := by rw [hb]; simp
 have hre : ∀ (b : Nat) (sp : Nat → Bool) (hd : Bool), DataW.TrodAll enc P W' b sp hd f.resultTypes.toList ((Value.bool true).resultList f.resultTypes.size) (s.fn H (ds ++ [])).results [] := fun b sp hd => by
  rw [hrt, hres]; exact trodAll_mk1 (shut_bool htb true)
 have har : ∀ sp : Nat → Bool, (∀ x ∈ p, sp x.block = true) → DataW.TrodAll enc P W' 0 sp true f.params.toList args.toList (s.fn H (ds ++ [])).args p := fun sp hsp => by
  rw [hargs]; exact rJ hl hrd hA (fun x hx => ME le (hlt x hx)) hsp
 have hva : ∀ sp : Nat → Bool, DataW.TrodVars enc P W' sp s.vars (s.fn H (ds ++ [])).vars [] := fun sp => by
  rw [hvars, hv]; exact rfl
 have hok : ∀ (j : Nat) (t : TypeId) (r : Value), f.resultTypes[j]? = some t → ((Value.bool true).resultList f.resultTypes.size)[j]? = some r → Value.okWide P W' .any 0 t r := by
  exact ok_one (by rw [hrt]) rfl (okWide_bool_mk htb true)
 refine ⟨ds, [], before, [], p, [], hW, hre _ _ _, har _ (fun x hx => by simpa using hlt x hx), hva _, World.keptBut_mono (fun x hx => hx) (Mw le _), fun _ => ?_⟩
 refine ⟨hok, _, _, ([] ++ p) ++ [], ⟨[] ++ p, [], trodAll_append (har _ (fun _ _ => rfl)) (hre _ _ _), hva _, rfl, ?_, ?_⟩, ?_⟩
 ·intro b off hp
  have hp' : MemPlace.cell b off ∈ p := by simpa using hp
  rw [Gb le (hlt _ hp')]
  exact hfz b off (by rw [hbp]; exact hp')
 ·intro ha
  have := hn ha
  rw [hbp] at this
  simpa using this
 intro x hx _
 rw [hbp]
 simpa using hx
end
end Go.T
namespace Go.Proofs.YtelbollidfdcjaaGreat
open Go Go.T Go.RowKit Go.ChangeShapes Go.WideShapes Go.ChangeAt
theorem RS : Tryz.prog.cellsOf 3 = 1 := by kernel_rfl
theorem KB : Tryz.prog.cellsOf 37 = 2 := by kernel_rfl
theorem QH : Tryz.prog.cellsOf 39 = 3 := by kernel_rfl
theorem QE : Tryz.prog.cellsOf 41 = 5 := by kernel_rfl
theorem N5 : Tryz.prog.cellsOf 102 = 4 := by kernel_rfl
set_option maxRecDepth 100000 in
theorem Kc : Rd Tryz.prog 37 bX := ⟨KB, by decide, fun h => by
 obtain ⟨c0, c1, y0, y1, m, rfl, h0, h1⟩ := Ec Tryz.underlying37 KB ⟨rfl, by kernel_rfl⟩ ⟨rfl, by kernel_rfl⟩ h
 obtain ⟨a, rfl⟩ := oV Tryz.underlying3 h0
 obtain ⟨b, rfl⟩ := oV Tryz.underlying3 h1
 exact ⟨⟨a, b⟩, rfl, rfl, trivial⟩⟩
set_option maxRecDepth 100000 in
theorem Pt : Rd Tryz.prog 39 fL := ⟨QH, by decide, fun {_ _ _ _ _ _ cs _} h => by
  obtain ⟨y0, y1, m, _, hl, g0, g1⟩ := Go.ChangeShapes.trod_struct2 Tryz.underlying39 h
  rw [QH] at hl
  match cs, hl with
  | [c0, c1, c2], _ =>
    simp only [RS, KB] at g0 g1
    obtain ⟨a, rfl⟩ := oV (c := c0) Tryz.underlying3 g0
    obtain ⟨s, hs⟩ := Kc.rd (cs := [c1, c2]) g1
    exact ⟨⟨a, s⟩, rfl, hs⟩⟩
set_option maxRecDepth 100000 in
theorem P3 : Rd Tryz.prog 41 eS := ⟨QE, by decide, fun {_ _ _ _ _ _ cs _} h => by
  obtain ⟨y0, y1, y2, y3, m, _, hl, g0, g1, g2, g3⟩ := Go.Joins.trod_struct4 Tryz.underlying41 h
  rw [QE] at hl
  match cs, hl with
  | [c0, c1, c2, c3, c4], _ =>
    simp only [RS, KB] at g0 g1 g2 g3
    obtain ⟨a, rfl⟩ := oV (c := c0) Tryz.underlying3 g0
    obtain ⟨b, rfl⟩ := oV (c := c1) Tryz.underlying3 g1
    obtain ⟨c, rfl⟩ := oV (c := c2) Tryz.underlying3 g2
    obtain ⟨s, hs⟩ := Kc.rd (cs := [c3, c4]) g3
    exact ⟨⟨a, b, c, s⟩, rfl, rfl, rfl, hs⟩⟩
set_option maxRecDepth 100000 in
theorem QK : Rd Tryz.prog 102 dg := ⟨N5, by decide, fun {_ _ _ _ _ _ cs _} h => by
  obtain ⟨y0, y1, y2, m, _, hl, g0, g1, g2⟩ := Go.Deep.trod_struct3 Tryz.underlying102 h
  rw [N5] at hl
  match cs, hl with
  | [c0, c1, c2, c3], _ =>
    simp only [RS, KB] at g0 g1 g2
    obtain ⟨a, rfl⟩ := oV (c := c0) Tryz.underlying3 g0
    obtain ⟨b, rfl⟩ := oV (c := c1) Tryz.underlying3 g1
    obtain ⟨s, hs⟩ := Kc.rd (cs := [c2, c3]) g2
    exact ⟨⟨a, b, s⟩, rfl, rfl, hs⟩⟩
section
variable {H : Type} {enc : TypeId × Value → H} {W : World} {base : Nat} {held : Bool} {v : Value} {d : DataW H} {p : List MemPlace}
set_option maxRecDepth 100000 in
theorem AY (hv : Value.okWide Tryz.prog W .any base 3 v) (h : DataW.Trod enc Tryz.prog W 0 (fun _ => true) held 3 v d p) : ∃ n, (Ty.int .i64 n).den W nr v := by
 obtain ⟨n, rfl, _⟩ := open_int Tryz.underlying3 hv h
 exact ⟨n, rfl⟩
end
end Go.Proofs.YtelbollidfdcjaaGreat
namespace Go.Proofs.YtelbollidfdcjaaGreat
open Go Go.T Go.RowKit Go.ChangeShapes Go.WideShapes Go.ChangeAt
section
variable {H : Type} {enc : TypeId × Value → H} {P : Program} {w : World} {base : Nat} {held : Bool} {α : Type} {E : El α} {t e : TypeId} {n : Nat} {c : Value} {y : DataW H × List MemPlace}
theorem ES (hR : Rd P e E) (ht : P.underlying t = some (.slice e)) (h : DataW.trod enc P w base (fun _ => true) held n t [c] = some y) (hw : ∀ m ∈ y.1.weights P t, m ≤ reachBytes) : ∃ xs, (Ty.sl E xs).den w nr c ∧ xs.length * P.bytesOf e ≤ reachBytes := by
 obtain ⟨xs, hd⟩ := Ov hR ht h
 refine ⟨xs, hd, ?_⟩
 obtain ⟨ad, cap, ec, hcap, _, _⟩ := hd
 rcases Go.Deep.open_slice ht h with ⟨e1, _⟩ | ⟨a, len, cap', m, k, D, Pl, e1, _, hl, _, hm, hy, _⟩
 ·have e2 : c = .slice none 0 0 := by simpa using e1
  rw [ec] at e2
  injection e2 with _ e3 _
  rw [e3, Nat.zero_mul]; exact Nat.zero_le _
 have e2 : c = .slice (some a) len cap' := by simpa using e1
 rw [ec] at e2
 injection e2 with _ e3 _
 rw [hy] at hw
 have := hw ((((List.range len).map D).length + ((List.range (m - len)).map fun j => D (len + j)).length) * P.bytesOf e) (by simp [DataW.weights, ht])
 rw [List.length_map, List.length_range] at this
 have h2 : xs.length * P.bytesOf e ≤ (len + ((List.range (m - len)).map fun j => D (len + j)).length) * P.bytesOf e := Nat.mul_le_mul_right _ (by omega)
 omega
end
section
variable {H : Type} {enc : TypeId × Value → H} {W : World} {base : Nat} {held : Bool} {v : Value} {d : DataW H} {p : List MemPlace}
theorem RI : Tryz.prog.bytesOf 39 = 24 := by kernel_rfl
theorem RR : Tryz.prog.bytesOf 41 = 40 := by kernel_rfl
theorem QX : Tryz.prog.bytesOf 102 = 32 := by kernel_rfl
set_option maxRecDepth 100000 in
theorem KW {ts : List TypeId} {ds : List (DataW H)} {j : Nat} (hsz : (DataW.weightsEach Tryz.prog ts ds).all (· ≤ reachBytes) = true) (ht : ts[j]? = some 27) (hd : ds[j]? = some d) (hv : Value.okWide Tryz.prog W .any base 27 v) (h : DataW.Trod enc Tryz.prog W 0 (fun _ => true) held 27 v d p) : ∃ y : aj, y.Fit ∧ (eB y).den W nr v := by
 obtain ⟨c0, c1, c2, c3, y0, y1, y2, y3, n, rfl, ed, _, h0, h1, h2, h3⟩ := Go.Joins.open_agg4 Tryz.underlying27 (by kernel_rfl) (by kernel_rfl) hv h
 have hw : ∀ m ∈ d.weights Tryz.prog 27, m ≤ reachBytes := fun m hm => by
  have := List.all_eq_true.1 hsz _ (DataW.weights_mem_each ht hd m hm)
  simpa using this
 rw [ed] at hw
 have hw' : ∀ m ∈ DataW.weightsEach Tryz.prog [3, 23, 24, 25] [y0.1, y1.1, y2.1, y3.1], m ≤ reachBytes := fun m hm => hw m (by
  unfold DataW.weights
  rw [Tryz.underlying27]
  exact hm)
 obtain ⟨a, rfl⟩ := oV Tryz.underlying3 h0
 obtain ⟨bs, e1, l1⟩ := ES Pt Tryz.underlying23 h1 fun m hm => hw' m (DataW.weights_mem_each (j := 1) (t := 23) rfl rfl m hm)
 obtain ⟨ms, e2, l2⟩ := ES P3 Tryz.underlying24 h2 fun m hm => hw' m (DataW.weights_mem_each (j := 2) (t := 24) rfl rfl m hm)
 obtain ⟨ls, e3, l3⟩ := ES QK Tryz.underlying25 h3 fun m hm => hw' m (DataW.weights_mem_each (j := 3) (t := 25) rfl rfl m hm)
 rw [RI] at l1
 rw [RR] at l2
 rw [QX] at l3
 exact ⟨⟨a, bs, ms, ls⟩, ⟨l1, l2, l3⟩, _, rfl, rfl, e1, e2, e3, trivial⟩
end
end Go.Proofs.YtelbollidfdcjaaGreat
