/- Lemmas: the program and the reference walked, plain laws. -/
import Derived.Test.YtelbollidfdcjaaGreatMd
namespace Go.Proofs.YtelbollidfdcjaaGreat
open Go Go.T
def dB : List Int → List Int → Nat
  | l :: ls, h :: hs => (h - l + 1).toNat * dB ls hs
  | _, _ => 1
def IP : List Int → List Int → Nat → List Int
  | l :: ls, h :: hs, k => (l + (k / dB ls hs : Nat)) :: IP ls hs (k % dB ls hs)
  | _, _, _ => []
def jV : List Int → List Int → List Int → Nat
  | l :: ls, h :: hs, x :: xs => (x - l).toNat * dB ls hs + jV ls hs xs
  | _, _, _ => 0
def rZ : List Int → List Int → List Int → Prop
  | [], [], [] => True
  | l :: ls, h :: hs, x :: xs => (l ≤ x ∧ x ≤ h) ∧ rZ ls hs xs
  | _, _, _ => False
def jK : List Int → List Int → Prop
  | [], [] => True
  | l :: ls, h :: hs => l ≤ h ∧ jK ls hs
  | _, _ => False
theorem size_pos : ∀ {lo hi : List Int}, jK lo hi → 0 < dB lo hi
  | [], [], _ => Nat.one_pos
  | l :: ls, h :: hs, ⟨h1, h2⟩ => by
    have := size_pos h2
    unfold dB
    exact Nat.mul_pos (by omega) this
theorem wm : ∀ {lo hi x : List Int}, rZ lo hi x → x.length = lo.length ∧ hi.length = lo.length
  | [], [], [], _ => ⟨rfl, rfl⟩
  | _ :: _, _ :: _, _ :: _, ⟨_, h⟩ => by have := wm h; simp only [List.length_cons]; omega
theorem Ev : ∀ {lo hi : List Int}, jK lo hi → rZ lo hi lo
  | [], [], _ => trivial
  | _ :: _, _ :: _, ⟨h1, h2⟩ => ⟨⟨Int.le_refl _, h1⟩, Ev h2⟩
theorem ue : ∀ {lo hi : List Int} (_ : jK lo hi) {k : Nat}, k < dB lo hi → rZ lo hi (IP lo hi k) ∧ jV lo hi (IP lo hi k) = k
  | [], [], _, k, hk => ⟨trivial, by unfold dB at hk; show 0 = k; omega⟩
  | l :: ls, h :: hs, ⟨h1, h2⟩, k, hk => by
    have hp := size_pos h2
    unfold dB at hk
    have hq : k / dB ls hs < (h - l + 1).toNat := (Nat.div_lt_iff_lt_mul hp).2 hk
    obtain ⟨g1, g2⟩ := ue h2 (k := k % dB ls hs) (Nat.mod_lt _ hp)
    have hin : l ≤ l + (k / dB ls hs : Nat) ∧ l + (k / dB ls hs : Nat) ≤ h := by
      generalize k / dB ls hs = q at hq
      omega
    refine ⟨⟨hin, g1⟩, ?_⟩
    show (l + (k / dB ls hs : Nat) - l).toNat * dB ls hs + jV ls hs (IP ls hs (k % dB ls hs)) = k
    rw [g2, show l + ((k / dB ls hs : Nat) : Int) - l = ((k / dB ls hs : Nat) : Int) by omega, Int.toNat_natCast, Nat.mul_comm]
    exact Nat.div_add_mod _ _
theorem oJ : ∀ {lo hi x : List Int}, rZ lo hi x → jV lo hi x < dB lo hi
  | [], [], [], _ => Nat.one_pos
  | l :: ls, h :: hs, x :: xs, ⟨h1, h2⟩ => by
    have ih := oJ h2
    show (x - l).toNat * dB ls hs + jV ls hs xs < (h - l + 1).toNat * dB ls hs
    have : ((x - l).toNat + 1) * dB ls hs ≤ (h - l + 1).toNat * dB ls hs := Nat.mul_le_mul_right _ (by omega)
    rw [Nat.succ_mul] at this; omega
theorem C5 : ∀ {lo hi x x' : List Int}, rZ lo hi x → rZ lo hi x' → jV lo hi x = jV lo hi x' → x = x'
  | [], [], [], [], _, _, _ => rfl
  | l :: ls, h :: hs, x :: xs, x' :: xs', ⟨h1, h2⟩, ⟨h1', h2'⟩, e => by
    have e : (x - l).toNat * dB ls hs + jV ls hs xs = (x' - l).toNat * dB ls hs + jV ls hs xs' := e
    obtain ⟨a, b⟩ := o9 (oJ h2) (oJ h2') e
    rw [C5 h2 h2' b]
    congr 1; omega
theorem wP {lo hi x : List Int} (hr : jK lo hi) (h : rZ lo hi x) : IP lo hi (jV lo hi x) = x := by
 obtain ⟨a, b⟩ := ue hr (oJ h)
 exact C5 a h b
theorem Aa : ∀ {lo hi : List Int}, jK lo hi → jV lo hi lo = 0
  | [], [], _ => rfl
  | l :: ls, h :: hs, ⟨_, h2⟩ => by show (l - l).toNat * dB ls hs + jV ls hs ls = 0; rw [Aa h2, Int.sub_self]; simp
theorem BR : ∀ {lo hi : List Int}, jK lo hi → jV lo hi hi + 1 = dB lo hi
  | [], [], _ => rfl
  | l :: ls, h :: hs, ⟨h1, h2⟩ => by
    have ih := BR h2
    show (h - l).toNat * dB ls hs + jV ls hs hs + 1 = (h - l + 1).toNat * dB ls hs
    rw [show (h - l + 1).toNat = (h - l).toNat + 1 by omega, Nat.succ_mul]; omega
def j5 (lo x : List Int) (k : Nat) : List Int := x.take k ++ lo.drop k
theorem zM : ∀ {lo hi x : List Int} {k : Nat}, jK lo hi → rZ lo hi x → k < x.length → x.drop (k + 1) = hi.drop (k + 1) → nth x k ≠ nth hi k →
    rZ lo hi ((j5 lo x (k + 1)).set k (nth x k + 1)) ∧ jV lo hi ((j5 lo x (k + 1)).set k (nth x k + 1)) = jV lo hi x + 1
  | [], [], [], _, _, _, hk, _, _ => absurd hk (Nat.not_lt_zero _)
  | l :: ls, h :: hs, x :: xs, 0, ⟨h1, h2⟩, ⟨h3, h4⟩, _, he, hn => by
    have he : xs = hs := he
    have hn : x ≠ h := hn
    subst he
    refine ⟨⟨⟨by show l ≤ x + 1; omega, by show x + 1 ≤ h; omega⟩, Ev h2⟩, ?_⟩
    show (x + 1 - l).toNat * dB ls xs + jV ls xs ls = (x - l).toNat * dB ls xs + jV ls xs xs + 1
    have := BR h2
    rw [Aa h2, show (x + 1 - l).toNat = (x - l).toNat + 1 by omega, Nat.succ_mul]; omega
  | l :: ls, h :: hs, x :: xs, k + 1, ⟨h1, h2⟩, ⟨h3, h4⟩, hk, he, hn => by
    obtain ⟨a, b⟩ := zM h2 h4 (k := k) (by simp only [List.length_cons] at hk; omega) he hn
    refine ⟨⟨h3, a⟩, ?_⟩
    show (x - l).toNat * dB ls hs + jV ls hs ((j5 ls xs (k + 1)).set k (nth xs k + 1)) = (x - l).toNat * dB ls hs + jV ls hs xs + 1
    rw [b]; omega
section
variable {lo hi x : List Int} {k : Nat}
theorem Mj (hr : jK lo hi) (hk : k < dB lo hi) {i : Nat} (hx : IP lo hi k = x) (hi' : i < x.length) (he : x.drop (i + 1) = hi.drop (i + 1)) (hn : nth x i ≠ nth hi i) : k + 1 < dB lo hi ∧ (j5 lo x (i + 1)).set i (nth x i + 1) = IP lo hi (k + 1) := by
 obtain ⟨a, b⟩ := ue hr hk
 rw [hx] at a b
 obtain ⟨c, d⟩ := zM hr a hi' he hn
 have := oJ c
 rw [d, b] at this
 exact ⟨this, by rw [← wP hr c, d, b]⟩
theorem Nj (hr : jK lo hi) (hk : k < dB lo hi) (he : IP lo hi k = hi) : k + 1 = dB lo hi := by
 have b := (ue hr hk).2
 rw [he] at b
 rw [← b]; exact BR hr
theorem MI (h : x.length = lo.length) (hk : k ≤ x.length) : (j5 lo x k).length = x.length := by
 unfold j5; rw [List.length_append, List.length_take, List.length_drop]; omega
theorem NH (h : x.length = lo.length) : x = j5 lo x x.length := by
 unfold j5; rw [List.take_length, List.drop_of_length_le (by omega), List.append_nil]
theorem NO (hk : k < x.length) : nth (j5 lo x (k + 1)) k = nth x k := by
 unfold j5
 rw [gk (by rw [List.length_take]; omega)]
 unfold nth
 rw [List.getD_eq_getElem?_getD, List.getD_eq_getElem?_getD, List.getElem?_take, if_pos (Nat.lt_succ_self k)]
theorem Mb (h : x.length = lo.length) (hk : k < x.length) : (j5 lo x (k + 1)).set k (nth lo k) = j5 lo x k := by
 unfold j5
 have e1 : x.take (k + 1) = x.take k ++ [nth x k] := by rw [fk hk]; exact List.take_succ_eq_append_getElem hk
 have e2 : lo.drop k = nth lo k :: lo.drop (k + 1) := by rw [fk (by omega)]; exact List.drop_eq_getElem_cons (by omega)
 rw [e1, e2, List.append_assoc, List.set_append_right _ _ (by rw [List.length_take]; omega), List.length_take, Nat.min_eq_left (by omega), Nat.sub_self]
 rfl
theorem JZ (h : hi.length = x.length) (hk : k < x.length) (he : x.drop (k + 1) = hi.drop (k + 1)) (hn : nth x k = nth hi k) : x.drop k = hi.drop k := by
 rw [List.drop_eq_getElem_cons hk, List.drop_eq_getElem_cons (show k < hi.length by omega), he, ← fk hk, ← fk (show k < hi.length by omega), hn]
end
def lC (s : Span) (n : Int) (is : Bool) : Span := if is = true then ⟨min s.lo n, max s.hi n⟩ else ⟨n, n⟩
structure RQ (good : Nat → Prop) (v : Nat → Int) (k : Nat) (s : Span) : Prop where
  lo : ∃ j, j < k ∧ good j ∧ v j = s.lo
  hi : ∃ j, j < k ∧ good j ∧ v j = s.hi
  all : ∀ j, j < k → good j → s.lo ≤ v j ∧ v j ≤ s.hi
end Go.Proofs.YtelbollidfdcjaaGreat
namespace Go.Proofs.YtelbollidfdcjaaGreat
open Go Go.T
section
variable {y : au} {a : dZ} {b d i k : Nat} {f g : Nat → List Int} {n : Nat}
structure pV (y : au) (a : dZ) : Prop where
  lens : yg y a
  first : ∀ x ∈ a.first, 0 ≤ x ∧ x ≤ 300
  cC : ∀ x ∈ a.cC, 0 ≤ x ∧ x ≤ 300
theorem Ny (hr : y.bt) (h : pV y a) (hi : i < y.moves.length) : -300 ≤ qu y a.cC b i ∧ qu y a.cC b i ≤ 300 := by
 have hm := h.cC _ (cX (show i < a.cC.length by rw [h.lens.cC]; exact hi))
 have hne := (hr.move _ (cX hi)).2.2.2.1
 unfold qu
 by_cases e1 : (nth y.moves i).dst = b
 ·rw [fj e1, fD (fun e2 => hne (e2.trans e1.symm))]; omega
 rw [fD e1]
 by_cases e2 : (nth y.moves i).src = b
 ·rw [fj e2]; omega
 rw [fD e2]; omega
theorem Lg (hr : y.bt) (h : pV y a) (hb : b < y.bins.length) : -3000 ≤ dM y a b d ∧ dM y a b d ≤ 3300 := by
 have h1 := h.first _ (cX (show b < a.first.length by rw [h.lens.first]; exact hb))
 have h2 := p5 (f := fun i => if (nth y.moves i).day < d then qu y a.cC b i else 0) (b := 300) (n := y.moves.length) fun i hi => by
  have := Ny (b := b) hr h hi
  split <;> omega
 have h3 := hr.moves
 unfold dM
 omega
end
end Go.Proofs.YtelbollidfdcjaaGreat
namespace Go.T
open Go Go.RowKit
def NZ (tg o n r : Nat) (_ : World) (M : bC) (v : Value) : Prop := ∃ b o' c, M b = some tg ∧ v = .slice (some ⟨b, o', none⟩) n c ∧ n + r ≤ c ∧ c ≤ maxLen ∧ (0 < n + r → o' = o)
def Ty.win (tg o n r : Nat) : Ty := ⟨NZ tg o n r, [tg], [], fun le hk _ ⟨b, o', c, h, e, h1, h2, h3⟩ => ⟨b, o', c, (le.own b tg h (hk tg (by simp))).1, e, h1, h2, h3⟩, true, fun _ ⟨_, _, _, _, e, _⟩ => by rw [e]; rfl⟩
theorem Ty.Ox {tg n : Nat} (h : 0 < n) : (Ty.vs tg n).Sub (Ty.win tg 0 n 0) := by
 intro w M v hv
 rcases hv with ⟨h0, _⟩ | ⟨b, c, hb, e, h1, h2⟩
 ·omega
 exact ⟨b, 0, c, hb, e, by omega, h2, fun _ => rfl⟩
section
variable {P : Program} {fr : Fr} {ops : Array Oper} {A : As} {rest : List Oper} {K : As → List (As × Fx) → Prop} {d : Nat} {t ty' : TypeId} {p : String} {e : Array Edge} [T : lD P]
theorem Fh {w : World} {st el b o n c lo hi : Nat} {ti te : TI} {ol oh om : Option Value} (hT : T.eN[st]? = some ti) (hk : ti.k = .slice el) (hE : T.eN[el]? = some te) (hs : te.size = 1)
 (hlo : (ol = none ∧ lo = 0) ∨ ∃ k : IntKind, ol = some (.int k lo)) (hhi : (oh = none ∧ hi = n) ∨ ∃ k : IntKind, oh = some (.int k hi)) (hm : om = none) (h1 : lo ≤ hi) (h2 : hi ≤ c) :
 (Instr.sliceAt st (.slice (some ⟨b, o, none⟩) n c) ol oh om).run P w = .ok (.slice (if c = lo then some ⟨b, o, none⟩ else some ⟨b, o + lo, none⟩) (hi - lo) (c - lo)) w := by
 subst hm
 obtain ⟨_, D, _, hD, hkd, _⟩ := cz hT
 rw [hk] at hkd
 cases D <;> simp only [TK.of, reduceCtorEq, TK.slice.injEq] at hkd
 subst hkd
 have hsz := fun w => dO (P := P) hE w
 rcases hlo with ⟨rfl, rfl⟩ | ⟨k, rfl⟩ <;> rcases hhi with ⟨rfl, rfl⟩ | ⟨k', rfl⟩ <;>
  simp [Instr.sliceAt, Instr.slice, run_underlying hD, Instr.sliceBounds, Instr.sliceBound, asIntOf, hsz, hs, h2, h1, Addr.add_lit]
theorem Fq {w : World} {M : bC} {tg b o o' n r c lo hi : Nat} (hb : M b = some tg) (h1 : lo ≤ hi) (h2 : hi ≤ n + r) (h3 : n + r ≤ c) (h4 : c ≤ maxLen) (h5 : 0 < n + r → o' = o) :
 NZ tg (o + lo) (hi - lo) (n + r - hi) w M (.slice (if c = lo then some ⟨b, o', none⟩ else some ⟨b, o' + lo, none⟩) (hi - lo) (c - lo)) := by
 by_cases e : c = lo
 ·rw [if_pos e]; exact ⟨b, o', c - lo, hb, rfl, by omega, by omega, fun h => by omega⟩
 rw [if_neg e]; exact ⟨b, o' + lo, c - lo, hb, rfl, by omega, by omega, fun h => by rw [h5 (by omega)]⟩
theorem LD {x y : Operand} {k : IntKind} {el tg o n r hi : Nat} {ti te : TI} (hx : A.op fr x = .win tg o n r) (hy : A.op fr y = .int k hi) (hT : T.eN[ty']? = some ti) (hk : ti.k = .slice el) (hE : T.eN[el]? = some te) (hs : te.size = 1) (h2 : hi ≤ n + r)
 (h : bA P fr ops rest (A.set d (.win tg (o + 0) (hi - 0) (n + r - hi))) fun A' l' => K A' ((A, { d := some d, ty := .win tg (o + 0) (hi - 0) (n + r - hi), rs := cJ x ++ cJ y }) :: l')) : bA P fr ops (⟨some d, .slice ty' x none (some y) none, t, p, e, none⟩ :: rest) A K :=
 bJ (bT rfl rfl fun a w M _ hr _ => by
  obtain ⟨hdx, hdy⟩ := op2 hr
  rw [hx] at hdx; rw [hy] at hdy
  have ey : a.eval y = .int k hi := hdy
  obtain ⟨b, o', c, hb, ex, g1, g2, g3⟩ := hdx
  have h3 := Fh (P := P) (w := w) (b := b) (o := o') (n := n) (c := c) hT hk hE hs (lo := 0) (hi := hi) (ol := none) (oh := some (.int k hi)) (om := none) (.inl ⟨rfl, rfl⟩) (.inr ⟨k, rfl⟩) rfl (Nat.zero_le _) (by omega)
  exact ⟨_, by simp only [execOp, ey, ex, Option.map_none, Option.map_some, Sem.run_bind, h3, Result.andThen_ok]; rfl, Fq (w := w) hb (Nat.zero_le _) h2 g1 g2 g3⟩) h
theorem Kr {x y : Operand} {k : IntKind} {el tg o n r lo : Nat} {ti te : TI} (hx : A.op fr x = .win tg o n r) (hy : A.op fr y = .int k lo) (hT : T.eN[ty']? = some ti) (hk : ti.k = .slice el) (hE : T.eN[el]? = some te) (hs : te.size = 1) (h2 : lo ≤ n)
 (h : bA P fr ops rest (A.set d (.win tg (o + lo) (n - lo) (n + r - n))) fun A' l' => K A' ((A, { d := some d, ty := .win tg (o + lo) (n - lo) (n + r - n), rs := cJ x ++ cJ y }) :: l')) : bA P fr ops (⟨some d, .slice ty' x (some y) none none, t, p, e, none⟩ :: rest) A K :=
 bJ (bT rfl rfl fun a w M _ hr _ => by
  obtain ⟨hdx, hdy⟩ := op2 hr
  rw [hx] at hdx; rw [hy] at hdy
  have ey : a.eval y = .int k lo := hdy
  obtain ⟨b, o', c, hb, ex, g1, g2, g3⟩ := hdx
  have h3 := Fh (P := P) (w := w) (b := b) (o := o') (n := n) (c := c) hT hk hE hs (lo := lo) (hi := n) (ol := some (.int k lo)) (oh := none) (om := none) (.inr ⟨k, rfl⟩) (.inl ⟨rfl, rfl⟩) rfl h2 (by omega)
  exact ⟨_, by simp only [execOp, ey, ex, Option.map_none, Option.map_some, Sem.run_bind, h3, Result.andThen_ok]; rfl, Fq (w := w) hb h2 (by omega) g1 g2 g3⟩) h
theorem Gj {x : Operand} {tg o n r el : Nat} {ti : TI} (hx : A.op fr x = .win tg o n r) (hT : T.eN[ty']? = some ti) (hk : ti.k = .slice el)
 (h : bA P fr ops rest (A.set d (.int .i64 n)) fun A' l' => K A' ((A, { d := some d, ty := .int .i64 n, rs := cJ x }) :: l')) :
 bA P fr ops (⟨some d, .call ⟨.builtin .len, #[x], #[ty']⟩, t, p, e, none⟩ :: rest) A K :=
 bJ (bT rfl rfl fun a w M _ hrd _ => by
  have hdx := cV (x := x) (fun _ h => h) hrd
  rw [hx] at hdx
  obtain ⟨_, D, _, hD, hkd, _⟩ := cz hT
  rw [hk] at hkd
  cases D <;> simp only [TK.of, reduceCtorEq, TK.slice.injEq] at hkd
  obtain ⟨b, o', c, hb, ex, g1, g2, g3⟩ := hdx
  exact ⟨.int .i64 n, by simp [execOp, resolve, invoke, builtin, ex, Builtin.len_, run_underlying hD, goInt], rfl⟩) h
omit T in
theorem Gr {x : Operand} {tg o n r : Nat} (hx : A.op fr x = .win tg o n r) (h : bA P fr ops rest (A.set d (.win tg o n r)) fun A' l => K A' ((A, { d := some d, ty := .win tg o n r, rs := cJ x }) :: l)) : bA P fr ops (⟨some d, .move x, t, p, e, none⟩ :: rest) A K := eB hx h
theorem xU {α : Type} {E : El α} (h1 : E.size = 1) : ∀ (xs : List α) (k : Nat), (xs.take k).flatMap E.tys = (xs.flatMap E.tys).take k ∧ (xs.drop k).flatMap E.tys = (xs.flatMap E.tys).drop k
  | xs, 0 => ⟨rfl, rfl⟩
  | [], k + 1 => ⟨rfl, rfl⟩
  | x :: xs, k + 1 => by
    have hl : (E.tys x).length = 1 := by rw [E.len, h1]
    obtain ⟨ih1, ih2⟩ := xU h1 xs k
    match hx : E.tys x, hl with
    | [a], _ =>
      rw [List.take_succ_cons, List.drop_succ_cons, List.flatMap_cons, List.flatMap_cons, hx, ih1, ih2]
      exact ⟨rfl, rfl⟩
end
end Go.T
namespace Go.T
open Go Go.RowKit
section
variable {P : Program} {fr : Fr} {ops : Array Oper} {A : As} {rest : List Oper} {K : As → List (As × Fx) → Prop} {d : Nat} {t ty' : TypeId} {p : String} {e : Array Edge} [T : lD P]
end
end Go.T
namespace Go.T
open Go Go.RowKit
section
variable {α : Type}
theorem xF {E : El α} {T J : Nat} {q : List (List α)} : (∀ u ∈ cF (q.map fun x => Ty.ff E T J x), u = J) ∧ ∀ u ∈ bY (q.map fun x => Ty.ff E T J x), u = J := by
 constructor <;>
 ·intro u hu
  simp only [cF, bY, List.mem_flatMap, List.mem_map] at hu
  obtain ⟨t, ⟨x, _, rfl⟩, hu⟩ := hu
  simpa [Ty.ff] using hu
def QA (E : El α) (T2 T J : Nat) (q : List (List α)) (w : World) (M : bC) (t : Nat) : Prop :=
  ∃ b cs, M b = some t ∧ w.heap[b]? = some (.cells cs T2 (0, 0)) ∧ cI w M (q.map fun x => Ty.ff E T J x) (cs.toList.take q.length) ∧ zD E.size (cs.toList.take q.length)
def Cont.mx (E : El α) (T2 T J : Nat) (q : List (List α)) : Cont :=
  { den := QA E T2 T J q, deps := [J], cdeps := [J]
    mono := fun le hk hs hst hkt ⟨b, cs, h1, h2, h4, h5⟩ => let ⟨a, c⟩ := le.own b _ h1 hkt
      ⟨b, cs, a, (c hst).trans h2, bl le (fun u hu => by rw [xF.1 u hu]; exact hk J (by simp)) (fun u hu => by rw [xF.2 u hu]; exact hs J (by simp)) h4, h5⟩ }
theorem Cont.p4 {E : El α} {T2 T J : Nat} {q q' : List (List α)} (h : q = q') : (Cont.mx E T2 T J q).Sub (Cont.mx E T2 T J q') := h ▸ Cont.aF _
def Rq (size t n i : Nat) (w : World) (M : bC) (v : Value) : Prop :=
  ∀ (g e0 : Nat), jO size v = some (g, e0) → ∃ (b : Nat) (cs : Array Value) (T2 : Nat), M b = some t ∧ w.heap[b]? = some (.cells cs T2 (0, 0)) ∧ ∀ (j : Nat) (u : Value) (e1 : Nat), (cs.toList.take n)[j]? = some u → jO size u = some (g, e1) → j = i ∧ (roomy v = true → e1 ≤ e0)
def Qu (E : El α) (T t J i : Nat) (xs : List α) (w : World) (M : bC) (v : Value) : Prop := vM E T J xs w M v ∧ ∃ (b : Nat) (cs : Array Value) (T2 : Nat), M b = some t ∧ w.heap[b]? = some (.cells cs T2 (0, 0)) ∧ cs.toList[i]? = some v
def Ty.ml (E : El α) (T t J i : Nat) (xs : List α) : Ty :=
  ⟨Qu E T t J i xs, [t, J], [t, J], fun le hk hs ⟨h, b, cs, T2, h1, h2, h3⟩ => ⟨(Ty.ff E T J xs).mono le (fun u hu => hk u (by simp [Ty.ff] at hu ⊢; exact .inr hu)) (fun u hu => hs u (by simp [Ty.ff] at hu ⊢; exact .inr hu)) h,
    let ⟨a, c⟩ := le.own b t h1 (hk t (by simp))
    ⟨b, cs, T2, a, (c (hs t (by simp))).trans h2, h3⟩⟩, true, fun ho h => (Ty.ff E T J xs).isOne ho h.1⟩
def RW (E : El α) (T t J i : Nat) (xs : List α) (k : Nat) (w : World) (M : bC) (v : Value) : Prop := ∃ (u : Value) (g off n c : Nat), Qu E T t J i xs w M u ∧ u = .slice (some ⟨g, off, none⟩) n c ∧ v = .pointer (some ⟨g, off + k, none⟩)
def Ty.me (E : El α) (T t J i : Nat) (xs : List α) (k : Nat) : Ty :=
  ⟨RW E T t J i xs k, [t, J], [t, J], fun le hk hs ⟨u, g, off, n, c, h, e⟩ => ⟨u, g, off, n, c, (Ty.ml E T t J i xs).mono le hk hs h, e⟩, true, fun _ ⟨_, _, _, _, _, _, _, e⟩ => by rw [e]; rfl⟩
end
section
variable {P : Program} {fr : Fr} {ops : Array Oper} {A : As} {rest : List Oper} {K : As → List (As × Fx) → Prop} {d : Nat} {t ty' : TypeId} {p : String} {e : Array Edge} [T : lD P]
variable {α : Type} {E : El α} {Tb J tg i : Nat} {q : List (List α)} {xs ys : List α}
omit T in
theorem QL {x : Operand} {off T2 : Nat} (hx : A.op fr x = .ptr tg off) (hc : A.tag tg = some (.mx E T2 Tb J q)) (h1 : gE tg) {a : Act} {w : World} {M : bC} {rs : List Nat} (wf : Wf w M) (hr : ∀ c ∈ cJ x, c ∈ rs) (hrd : ∀ c ∈ rs, c < fr.n → (A.slots c).den w M (a.tmps.getD c undef)) (htg : ∀ y ∈ A.tags, y.1 ∈ [tg] → y.2.den w M y.1) :
 ∃ b cs, a.eval x = .pointer (some ⟨b, off, none⟩) ∧ M b = some tg ∧ w.heap[b]? = some (.cells cs T2 (0, 0)) ∧ cI w M (q.map fun x => Ty.ff E Tb J x) (cs.toList.take q.length) ∧ zD E.size (cs.toList.take q.length) := by
 have hxd := cV hr hrd
 rw [hx] at hxd
 obtain ⟨b, e2, e1⟩ := hxd
 obtain ⟨b', cs, h2, h3⟩ := htg _ (cj hc) (by simp)
 obtain ⟨u, rfl⟩ : ∃ u, tg = u + 1 := ⟨tg - 1, by have := h1.1; omega⟩
 have : b = b' := wf.inj b b' u (by have := h1.2; omega) e2 h2
 subst this
 exact ⟨b, cs, e1, e2, h3⟩
omit T in
theorem PB {T2 : Nat} {w : World} {M : bC} {v : Value} (wf : Wf w M) (h1 : gE tg) (hi : i < q.length) (hc : QA E T2 Tb J q w M tg) (hv : ∃ (b : Nat) (cs : Array Value) (T2 : Nat), M b = some tg ∧ w.heap[b]? = some (.cells cs T2 (0, 0)) ∧ cs.toList[i]? = some v) : Rq E.size tg q.length i w M v := fun g e0 he => by
 obtain ⟨b, cs, g1, g2, g3, g4⟩ := hc
 obtain ⟨b', cs', T', k1, k2, k3⟩ := hv
 obtain ⟨u, rfl⟩ : ∃ u, tg = u + 1 := ⟨tg - 1, by have := h1.1; omega⟩
 have : b = b' := wf.inj b b' u (by have := h1.2; omega) g1 k1
 subst this
 rw [g2] at k2
 injection k2 with k2
 injection k2 with k2 _
 subst k2
 have hv' : (cs.toList.take q.length)[i]? = some v := by rw [List.getElem?_take, if_pos hi]; exact k3
 refine ⟨b, cs, T2, g1, g2, fun j u e1 hj hju => ?_⟩
 have hij := g4 j i u v g e1 e0 hj hv' hju he
 subst hij
 rw [hv'] at hj
 injection hj with hj
 subst hj
 rw [he] at hju
 injection hju with hju
 injection hju with _ hju
 exact ⟨rfl, fun _ => by omega⟩
theorem zV [Inhabited α] {x : Operand} {off T2 : Nat} {ti : TI} (i : Nat) (hx : A.op fr x = .ptr tg off) (he : off = i) (hc : A.tag tg = some (.mx E T2 Tb J q)) (h1 : gE tg) (hT : T.eN[ty']? = some ti) (ha : ti.k.agg = false) (hi : i < q.length)
 (h : bA P fr ops rest (A.set d (.ml E Tb tg J i (nth q i))) fun A' l => K A' ((A, { d := some d, ty := .ml E Tb tg J i (nth q i), rs := cJ x, rt := [tg] }) :: l)) : bA P fr ops (⟨some d, .load ty' x, t, p, e, none⟩ :: rest) A K :=
 bJ (bT rfl rfl fun a w M wf hr ht => by
  subst he
  obtain ⟨b, cs, e1, e2, h3, h4, h5⟩ := QL hx hc h1 wf (fun _ h => h) hr ht
  obtain ⟨v, hv, hdv⟩ := dW h4 off (Ty.ff E Tb J (nth q off)) (by rw [List.getElem?_map, List.getElem?_eq_getElem hi, fk hi]; rfl)
  rw [List.getElem?_take, if_pos hi] at hv
  have hcell : w.cell? ⟨b, off, none⟩ = some v := by simpa [World.cell?, h3] using hv
  exact ⟨v, by simp [execOp, e1, kC hT ha hcell], hdv, b, cs, T2, e2, h3, hv⟩) h
theorem wY [Inhabited α] {x y : Operand} {kd : IntKind} {j : Nat} {ti te : TI} {el : Nat} (hx : A.op fr x = .ml E Tb tg J i xs) (hy : A.op fr y = .int kd j) (hT : T.eN[ty']? = some ti) (hk : ti.k = .slice el) (hE : T.eN[el]? = some te) (hj : j < xs.length)
 (h : bA P fr ops rest (A.set d (.me E Tb tg J i xs (j * te.size))) fun A' l' => K A' ((A, { d := some d, ty := .me E Tb tg J i xs (j * te.size), rs := cJ x ++ cJ y }) :: l')) : bA P fr ops (⟨some d, .indexAddr ty' x y, t, p, e, none⟩ :: rest) A K :=
 bJ (bT rfl rfl fun a w M _ hr _ => by
  obtain ⟨hdx, hdy⟩ := op2 hr
  rw [hx] at hdx; rw [hy] at hdy
  have ey : a.eval y = .int kd j := hdy
  obtain ⟨h1, h2⟩ := hdx
  have h1' := h1
  rcases h1 with ⟨h0, _⟩ | ⟨g, off, c, cur, ex, hg, hh, hn, _, _, hd⟩
  ·subst h0; simp at hj
  exact ⟨_, by simp only [execOp, ex, ey, Sem.run_bind, iG hT hk hE (Int.natCast_nonneg j) (show (j : Int).toNat < xs.length from hj)]; rfl, _, g, off, xs.length, c, ⟨h1', h2⟩, ex, by simp⟩) h
omit T in
theorem Mx {ER : El (List α)} {T2 m : Nat} (hc : A.tag m = some (.mx E T2 Tb J q)) (hne : Nat.beq m J = false) (hER : ∀ x, ER.tys x = [Ty.sl E x]) : NA A J (m, .vec ER T2 q) := fun w M wf ht => by
  obtain ⟨b, cs, h1, h2, h3, _⟩ := ht _ (cj hc)
  have hmj : m ≠ J := fun h => by subst h; simp at hne
  have hl : ∀ l : List (List α), (l.flatMap ER.tys).length = l.length := fun l => by
    induction l with
    | nil => rfl
    | cons x l ih => rw [List.flatMap_cons, hER, List.length_append, ih]; simp; omega
  have key : ∀ (l : List (List α)) (vs : List Value), cI w M (l.map fun x => Ty.ff E Tb J x) vs → cI w (eE M J) (l.flatMap ER.tys) vs := by
    intro l
    induction l with
    | nil => intro vs h; cases vs with | nil => trivial | cons => cases h
    | cons x l ih =>
      intro vs h
      cases vs with
      | nil => cases h
      | cons v vs => rw [List.flatMap_cons, hER]; exact ⟨GM wf h.1, ih vs h.2⟩
  exact .inr ⟨b, cs, by simp [eE, h1, hmj], h2, by rw [hl]; exact key q _ h3⟩
end
end Go.T
namespace Go.Proofs.YtelbollidfdcjaaGreat
open Go Go.T
set_option maxHeartbeats 8000000
section
variable {y : au} {a : dZ} {b d i k : Nat}
end
attribute [local irreducible] dM
attribute [local irreducible] gL eX lN nh gy g6 gu gw gx nj gr ni dN fX nH fu nZ nth fP dQ bA dJ bodyPost Exit.then Exit.inBlock Code.wp Code.wpIn nW g7 nY nV g8 eP cL cM bodyPostM dR
attribute [local irreducible] QA Qu RW vM
end Go.Proofs.YtelbollidfdcjaaGreat
namespace Go.Proofs.YtelbollidfdcjaaGreat
open Go Go.T
set_option maxHeartbeats 8000000
section
variable {y : au} {a : dZ} {b t k : Nat} {n : Int}
end
attribute [local irreducible] dM bL
attribute [local irreducible] gL eX lN nh gy g6 gu gw gx nj gr ni dN fX nH fu nZ nth fP dQ bA dJ bodyPost Exit.then Exit.inBlock Code.wp Code.wpIn nW g7 nY nV g8 eP cL cM bodyPostM dR
end Go.Proofs.YtelbollidfdcjaaGreat
namespace Go.Proofs.YtelbollidfdcjaaGreat
open Go Go.T
set_option maxHeartbeats 8000000
section
variable {y : au} {a : dZ} {k : Nat}
end
attribute [local irreducible] gL eX lN nh gy g6 gu gw gx nj gr ni dN fX nH fu nZ nth fP dQ bA dJ bodyPost Exit.then Exit.inBlock Code.wp Code.wpIn nW g7 nY nV g8 eP cL cM bodyPostM dR
set_option maxRecDepth 100000 in
theorem IZ (y : au) (a : dZ) (ha : QZ y a) (bin time : Int) (h0 : 0 ≤ bin) (h1 : bin.toNat < a.first.length) : dJ Tryz.prog 53 [dr y, zW a, Ty.int .i64 bin, Ty.int .i64 time] (Ty.int .i64 (ct y a bin time)) := by
 refine ak Tryz.func53 rfl (by decide) Tryz.ntmps53 (by exact Nat.le_of_ble_eq_true rfl) fun w0 M0 => ?_
 have hl1 := ha.len
 have hl2 := ha.rB
 refine aE (aA (bD rfl (bD rfl (bZ rfl (aD (aC (aE (aA ?_))))))))
 refine aL rfl rfl rfl rfl rfl (by decide) ?_
 refine aJ rfl rfl rfl rfl (bF rfl (kA rfl rfl rfl rfl rfl rfl h0 h1 (aJ rfl rfl rfl rfl (bZ rfl (aD (aC (aE (aE (aA ?_)))))))))
 refine bZ rfl (aD (aC (aY ?_)))
 refine b9 (fun (k : {k : Nat // k ≤ y.moves.length}) => live [(2, Ty.int .i64 bin), (3, Ty.int .i64 time), (4, Ty.pp (bE y)), (5, Ty.pp (mH a)), (9, Ty.int .i64 (dw y a bin time k.1)), (10, Ty.int .i64 (k.1 : Nat))] []) (fun k => y.moves.length - k.1) (⟨0, by omega⟩) ?_ fun k => ?_
 ·(refine cg.mk' ?_ ?_ <;> (repeat' (first | exact aI | exact aH | refine aB ?_ (Ty.aT _) | refine aB ?_ (Ty.aF _))))
 have hk := k.2
 have hu := ha.up (time := time) h1 hk
 refine aE (aE (aA (bF rfl ?_)))
 refine aL rfl rfl rfl rfl rfl (by decide) ?_
 refine aJ rfl rfl rfl rfl (cD rfl rfl rfl (bB rfl rfl rfl (aD (aC ?_))))
 refine ah rfl (fun hc1 => ?_) (fun hc1 => ?_)
 ·
  refine aj (aC (aE (aY (aE (aA ?_)))))
  refine aL rfl rfl rfl rfl rfl (by decide) ?_
  refine aJ rfl rfl rfl rfl (bF rfl ?_)
  refine aq rfl rfl rfl rfl rfl rfl (by omega) ?_
  refine aX rfl rfl rfl (by exact Nat.le_of_ble_eq_true rfl) ?_
  refine bu rfl (by exact List.cons_ne_nil _ _) rfl ?_
  refine bh rfl rfl (by decide) rfl rfl rfl rfl rfl rfl ?_
  refine aD (aC (aE (aE (aA ?_))))
  refine aS rfl rfl rfl rfl rfl (by decide) ?_
  refine aZ rfl rfl (by decide) rfl rfl rfl ?_
  refine bF rfl (bB rfl rfl rfl (eO rfl ?_))
  apply aM (s := 33) rfl rfl rfl
  ·intro hg; apply aO; (refine aS rfl rfl rfl rfl rfl (by decide) ?_); refine aD ?_; exact rfl
  ·exact rfl
  ·exact rfl
  apply aM (s := 33) rfl rfl rfl
  ·intro hg; apply aK (s := 34) rfl (by (rw [hg]; rfl)); apply aO; (refine aZ rfl rfl (by decide) rfl rfl rfl ?_); refine aD ?_; exact rfl
  ·exact rfl
  ·exact rfl
  apply aM (s := 33) rfl rfl rfl
  ·intro hg; apply aO; (refine bF rfl ?_); refine aD ?_; exact rfl
  ·exact rfl
  ·exact rfl
  apply aM (s := 33) rfl rfl rfl
  ·intro hg; apply aK (s := 35) rfl (by (rw [hg]; rfl)); apply aK (s := 36) rfl (by (rw [hg]; rfl)); apply aO; (refine bB rfl rfl rfl ?_); refine aD ?_; exact rfl
  ·exact rfl
  ·exact rfl
  refine dV rfl rfl (aD (aC ?_))
  refine cH rfl (fun hc2 => ?_) (fun hc2 => ?_)
  ·
   have hm1 := ha.cC _ (cX (show k.1 < a.cC.length by omega))
   refine aA (bF rfl ?_)
   refine aL rfl rfl rfl rfl rfl (by decide) ?_
   refine aJ rfl rfl rfl rfl (bF rfl ?_)
   refine aq rfl rfl rfl rfl rfl rfl (by omega) ?_
   refine aJ rfl rfl rfl rfl ?_
   refine bq rfl rfl (by omega) (by omega) ?_
   refine bZ rfl (aD (aC (aE (aA ?_))))
   refine aS rfl rfl rfl rfl rfl (by decide) ?_
   refine aZ rfl rfl (by decide) rfl rfl rfl ?_
   refine bF rfl (bB rfl rfl rfl (eO rfl ?_))
   apply aM (s := 50) rfl rfl rfl
   ·intro hg; apply aO; (refine aS rfl rfl rfl rfl rfl (by decide) ?_); refine aD ?_; exact rfl
   ·exact rfl
   ·exact rfl
   apply aM (s := 50) rfl rfl rfl
   ·intro hg; apply aK (s := 51) rfl (by (rw [hg]; rfl)); apply aO; (refine aZ rfl rfl (by decide) rfl rfl rfl ?_); refine aD ?_; exact rfl
   ·exact rfl
   ·exact rfl
   apply aM (s := 50) rfl rfl rfl
   ·intro hg; apply aO; (refine bF rfl ?_); refine aD ?_; exact rfl
   ·exact rfl
   ·exact rfl
   apply aM (s := 50) rfl rfl rfl
   ·intro hg; apply aK (s := 52) rfl (by (rw [hg]; rfl)); apply aK (s := 53) rfl (by (rw [hg]; rfl)); apply aO; (refine bB rfl rfl rfl ?_); refine aD ?_; exact rfl
   ·exact rfl
   ·exact rfl
   refine dV rfl rfl (aD (aC ?_))
   refine cH rfl (fun hc3 => ?_) (fun hc3 => ?_)
   ·
    have hm2 := ha.cC _ (cX (show k.1 < a.cC.length by omega))
    refine aA (bF rfl ?_)
    refine aL rfl rfl rfl rfl rfl (by decide) ?_
    refine aJ rfl rfl rfl rfl (bF rfl ?_)
    refine aq rfl rfl rfl rfl rfl rfl (by omega) ?_
    refine aJ rfl rfl rfl rfl ?_
    refine gH rfl rfl (by omega) (by omega) ?_
    refine bZ rfl (aD (bI (aC (aA (bF rfl ?_)))))
    refine bq rfl rfl (by omega) (by omega) ?_
    refine bZ rfl (aD ?_)
    refine bM (⟨k.1 + 1, by omega⟩) ?_ (by show y.moves.length - (k.1 + 1) < y.moves.length - k.1; omega)
    (refine cg.mk' ?_ ?_ <;> (repeat' (first | exact aI | exact aH | refine aB ?_ (Ty.aT _) | refine aB ?_ (Ty.aF _) | refine aB ?_ ?_)))
    all_goals skip
    all_goals exact Ty.bN (Qe hc2 hc3)
   refine aj (bI (aC (aA (bF rfl ?_))))
   refine bq rfl rfl (by omega) (by omega) ?_
   refine bZ rfl (aD ?_)
   refine bM (⟨k.1 + 1, by omega⟩) ?_ (by show y.moves.length - (k.1 + 1) < y.moves.length - k.1; omega)
   (refine cg.mk' ?_ ?_ <;> (repeat' (first | exact aI | exact aH | refine aB ?_ (Ty.aT _) | refine aB ?_ (Ty.aF _) | refine aB ?_ ?_)))
   all_goals skip
   all_goals exact Ty.bN (Qk hc2 hc3)
  refine aj (aC (aE (aA ?_)))
  refine aS rfl rfl rfl rfl rfl (by decide) ?_
  refine aZ rfl rfl (by decide) rfl rfl rfl ?_
  refine bF rfl (bB rfl rfl rfl (eO rfl ?_))
  apply aM (s := 50) rfl rfl rfl
  ·intro hg; apply aO; (refine aS rfl rfl rfl rfl rfl (by decide) ?_); refine aD ?_; exact rfl
  ·exact rfl
  ·exact rfl
  apply aM (s := 50) rfl rfl rfl
  ·intro hg; apply aK (s := 51) rfl (by (rw [hg]; rfl)); apply aO; (refine aZ rfl rfl (by decide) rfl rfl rfl ?_); refine aD ?_; exact rfl
  ·exact rfl
  ·exact rfl
  apply aM (s := 50) rfl rfl rfl
  ·intro hg; apply aO; (refine bF rfl ?_); refine aD ?_; exact rfl
  ·exact rfl
  ·exact rfl
  apply aM (s := 50) rfl rfl rfl
  ·intro hg; apply aK (s := 52) rfl (by (rw [hg]; rfl)); apply aK (s := 53) rfl (by (rw [hg]; rfl)); apply aO; (refine bB rfl rfl rfl ?_); refine aD ?_; exact rfl
  ·exact rfl
  ·exact rfl
  refine dV rfl rfl (aD (aC ?_))
  refine cH rfl (fun hc4 => ?_) (fun hc4 => ?_)
  ·
   have hm2 := ha.cC _ (cX (show k.1 < a.cC.length by omega))
   refine aA (bF rfl ?_)
   refine aL rfl rfl rfl rfl rfl (by decide) ?_
   refine aJ rfl rfl rfl rfl (bF rfl ?_)
   refine aq rfl rfl rfl rfl rfl rfl (by omega) ?_
   refine aJ rfl rfl rfl rfl ?_
   refine gH rfl rfl (by omega) (by omega) ?_
   refine bZ rfl (aD (bI (aC (aA (bF rfl ?_)))))
   refine bq rfl rfl (by omega) (by omega) ?_
   refine bZ rfl (aD ?_)
   refine bM (⟨k.1 + 1, by omega⟩) ?_ (by show y.moves.length - (k.1 + 1) < y.moves.length - k.1; omega)
   (refine cg.mk' ?_ ?_ <;> (repeat' (first | exact aI | exact aH | refine aB ?_ (Ty.aT _) | refine aB ?_ (Ty.aF _) | refine aB ?_ ?_)))
   all_goals skip
   all_goals exact Ty.bN (Qm hc2 hc4)
  refine aj (bI (aC (aA (bF rfl ?_))))
  refine bq rfl rfl (by omega) (by omega) ?_
  refine bZ rfl (aD ?_)
  refine bM (⟨k.1 + 1, by omega⟩) ?_ (by show y.moves.length - (k.1 + 1) < y.moves.length - k.1; omega)
  (refine cg.mk' ?_ ?_ <;> (repeat' (first | exact aI | exact aH | refine aB ?_ (Ty.aT _) | refine aB ?_ (Ty.aF _) | refine aB ?_ ?_)))
  all_goals skip
  all_goals exact Ty.bN (Q3 hc2 hc4)
 refine bz (aP (aP (aa rfl (aC (aE (aA (bF rfl (bZ rfl (aD ?_)))))))))
 refine aC (az (bR rfl rfl ?_))
 all_goals skip
 all_goals exact av rfl rfl (congrArg (Ty.int .i64) (by unfold ct; rw [show k.1 = y.moves.length by have := k.2; omega]))
end Go.Proofs.YtelbollidfdcjaaGreat
namespace Go.Proofs.YtelbollidfdcjaaGreat
open Go Go.T
set_option maxHeartbeats 8000000
def sG (y : au) (a : dZ) (k : Nat) : Bool := kH (ct y a (nth y.levels k).bin (nth y.levels k).day) (nth y.levels k).sacks.lo (nth y.levels k).sacks.hi
def DB : Nat → Int
  | 0 => 1
  | k + 1 => 2 * DB k
def iH (y : au) (a : dZ) : Nat → Int
  | 0 => 0
  | k + 1 => iH y a k + if sG y a k = true then DB k else 0
open Classical in
noncomputable def dy (y : au) (a : dZ) : Int := if fH y (fun _ => false) a then iH y a y.levels.length else -1
section
variable {y : au} {a : dZ} {b t k : Nat} {n lo hi : Int}
theorem Au : ∀ k, 1 ≤ DB k
  | 0 => Int.le_refl 1
  | k + 1 => by have := Au k; show 1 ≤ 2 * DB k; omega
theorem JN : ∀ k, k ≤ 8 → DB k ≤ 256 := by decide
theorem uf : ∀ k, 0 ≤ iH y a k ∧ iH y a k < DB k
  | 0 => ⟨Int.le_refl 0, by show (0 : Int) < 1; decide⟩
  | k + 1 => by
    have ih := uf k
    have := Au k
    show 0 ≤ iH y a k + _ ∧ iH y a k + _ < 2 * DB k
    split <;> omega
theorem HA (h : sG y a k = true) : iH y a k + DB k = iH y a (k + 1) := by
 show _ = iH y a k + _; rw [if_pos h]
theorem LF (h : sG y a k = false) : iH y a k = iH y a (k + 1) := by
 show _ = iH y a k + _; rw [if_neg (by rw [h]; decide), Int.add_zero]
theorem MB : 0 = iH y a 0 := rfl
theorem Qh : 1 = DB 0 := rfl
theorem N5 : 2 * DB k = DB (k + 1) := rfl
theorem QN (h : kH (ct y a (nth y.levels k).bin (nth y.levels k).day) (nth y.levels k).sacks.lo (nth y.levels k).sacks.hi = true) : iH y a k + DB k = iH y a (k + 1) := HA h
theorem QO (h : kH (ct y a (nth y.levels k).bin (nth y.levels k).day) (nth y.levels k).sacks.lo (nth y.levels k).sacks.hi = false) : iH y a k = iH y a (k + 1) := LF h
theorem Dq (h : kH n lo hi = false) : lo ≤ n ∧ n ≤ hi := by
 rw [jf, Bool.not_eq_false'] at h; exact fQ.1 h
theorem Ah (h : kH n lo hi = true) : ¬ (lo ≤ n ∧ n ≤ hi) := fun hn => by
 rw [jf, fQ.2 hn] at h; cases h
theorem GF (hr : y.bt) (hk : k < y.levels.length) : sG y a k = false ↔ (nth y.levels k).sacks.lo ≤ dM y a (nth y.levels k).bin.toNat (nth y.levels k).day.toNat ∧ dM y a (nth y.levels k).bin.toNat (nth y.levels k).day.toNat ≤ (nth y.levels k).sacks.hi := by
 obtain ⟨g1, g2, _⟩ := hr.level _ (cX hk)
 have e : ct y a (nth y.levels k).bin (nth y.levels k).day = dM y a (nth y.levels k).bin.toNat (nth y.levels k).day.toNat := by
  rw [← nS, Int.toNat_of_nonneg g1.1, Int.toNat_of_nonneg g2.1]
 unfold sG
 rw [e, jf, Bool.not_eq_false', fQ]
theorem sP (h : ¬ fH y (fun _ => false) a) : -1 = dy y a := by unfold dy; rw [if_neg h]
theorem sA (h : fH y (fun _ => false) a) : iH y a y.levels.length = dy y a := by unfold dy; rw [if_pos h]
theorem Qw (hb : b < y.bins.length) (h : kH (nth a.first b) (nth y.bins b).first.lo (nth y.bins b).first.hi = true) : -1 = dy y a :=
 sP fun hf => Ah h (hf.first b hb)
theorem QB (hb : b < y.bins.length) (ht : t ≤ y.D) (h : kH (ct y a (b : Nat) (t : Nat)) 0 (nth y.bins b).holds = true) : -1 = dy y a :=
 sP fun hf => Ah h (by rw [nS]; exact hf.cont b t hb ht)
theorem Qg (hk : k < y.moves.length) (h : kH (nth a.cC k) (nth y.moves k).sacks.lo (nth y.moves k).sacks.hi = true) : -1 = dy y a :=
 sP fun hf => Ah h (hf.cC k hk)
theorem QD (hl : yg y a) (h1 : ∀ b, b < y.bins.length → ((nth y.bins b).first.lo ≤ nth a.first b ∧ nth a.first b ≤ (nth y.bins b).first.hi) ∧ ∀ t : Nat, t ≤ y.D → 0 ≤ ct y a (b : Nat) (t : Nat) ∧ ct y a (b : Nat) (t : Nat) ≤ (nth y.bins b).holds)
 (h2 : ∀ k, k < y.moves.length → (nth y.moves k).sacks.lo ≤ nth a.cC k ∧ nth a.cC k ≤ (nth y.moves k).sacks.hi) : iH y a y.levels.length = dy y a :=
 sA ⟨hl, fun b hb => (h1 b hb).1, fun b t hb ht => by rw [← nS]; exact (h1 b hb).2 t ht, h2, fun i hi hc => by cases hc⟩
end
attribute [local irreducible] ct dy iH DB sG
attribute [local irreducible] gL eX lN nh gy g6 gu gw gx nj gr ni dN fX nH fu nZ nth fP dQ bA dJ bodyPost Exit.then Exit.inBlock Code.wp Code.wpIn nW g7 nY nV g8 eP cL cM bodyPostM dR
set_option maxRecDepth 100000 in
theorem Jj (y : au) (a : dZ) (hr : y.bt) (ha : pV y a) : dJ Tryz.prog 73 [dr y, zW a] (Ty.int .i64 (dy y a)) := by
 refine ak Tryz.func73 rfl (by decide) Tryz.ntmps73 (by exact Nat.le_of_ble_eq_true rfl) fun w0 M0 => ?_
 have hl1 := ha.lens.first
 have hl2 := ha.lens.cC
 have hyb := hr.bins
 have hym := hr.moves
 have hyl := hr.levels
 have hyd := hr.days
 have hD := D_eq hr
 have hams : QZ y a := ⟨by omega, by omega, fun x hx => by have := ha.first x hx; omega, fun x hx => by have := ha.cC x hx; omega⟩
 refine aE (aA (bD rfl (bD rfl (bZ rfl (aD (aC (aE (aE (aA ?_)))))))))
 refine bZ rfl (aD (aC (aY ?_)))
 refine b9 (fun (k : {k : Nat // k ≤ y.bins.length ∧ ∀ b, b < k → ((nth y.bins b).first.lo ≤ nth a.first b ∧ nth a.first b ≤ (nth y.bins b).first.hi) ∧ ∀ t : Nat, t ≤ y.D → 0 ≤ ct y a (b : Nat) (t : Nat) ∧ ct y a (b : Nat) (t : Nat) ≤ (nth y.bins b).holds}) => live [(2, Ty.pp (bE y)), (3, Ty.pp (mH a)), (5, Ty.int .i64 (k.1 : Nat))] []) (fun k => y.bins.length - k.1) (⟨0, Nat.zero_le _, fun i h => absurd h (Nat.not_lt_zero i)⟩) ?_ fun k => ?_
 ·(refine cg.mk' ?_ ?_ <;> (repeat' (first | exact aI | exact aH | refine aB ?_ (Ty.aT _) | refine aB ?_ (Ty.aF _))))
 have hk := k.2.1
 refine aE (aE (aA (bF rfl ?_)))
 refine aL rfl rfl rfl rfl rfl (by decide) ?_
 refine aJ rfl rfl rfl rfl (cD rfl rfl rfl (bB rfl rfl rfl (aD (aC ?_))))
 refine ah rfl (fun hc1 => ?_) (fun hc1 => ?_)
 ·
  refine aj (aC (aE (aY (aE (aE (cP mixed rfl ?_))))))
  refine aL rfl rfl rfl rfl rfl (by decide) ?_
  refine aJ rfl rfl rfl rfl (bF rfl ?_)
  refine aq rfl rfl rfl rfl rfl rfl (by omega) ?_
  refine aJ rfl rfl rfl rfl ?_
  refine aL rfl rfl rfl rfl rfl (by decide) ?_
  refine aJ rfl rfl rfl rfl (bF rfl ?_)
  refine aq rfl rfl rfl rfl rfl rfl (by omega) ?_
  refine aL rfl rfl rfl rfl rfl (by decide) ?_
  refine aL rfl rfl rfl rfl rfl (by decide) ?_
  refine aJ rfl rfl rfl rfl ?_
  refine aL rfl rfl rfl rfl rfl (by decide) ?_
  refine aJ rfl rfl rfl rfl (bF rfl ?_)
  refine aq rfl rfl rfl rfl rfl rfl (by omega) ?_
  refine aL rfl rfl rfl rfl rfl (by decide) ?_
  refine aL rfl rfl rfl rfl rfl (by decide) ?_
  refine aJ rfl rfl rfl rfl (af (lg _ _ _) rfl rfl rfl rfl rfl (aD ?_))
  refine ⟨by kernel_rfl, ?_⟩
  refine aC ?_
  refine cH rfl (fun hc2 => ?_) (fun hc2 => ?_)
  ·
   refine aE (aA (bZ rfl (aD (aC (az (aQ (ay (aQ (aQ ?_)))))))))
   refine ay (aQ (bR rfl rfl ?_))
   all_goals skip
   exact av rfl rfl (congrArg (Ty.int .i64) (Qw (b := k.1) (by omega) hc2))
  refine aj (aC (aE (aA (bZ rfl (aD (aC (aY ?_)))))))
  refine b9 (fun (t : {t : Nat // t ≤ y.D + 1 ∧ ∀ s : Nat, s < t → 0 ≤ ct y a (k.1 : Nat) (s : Nat) ∧ ct y a (k.1 : Nat) (s : Nat) ≤ (nth y.bins k.1).holds}) => live [(2, Ty.pp (bE y)), (3, Ty.pp (mH a)), (5, Ty.int .i64 (k.1 : Nat)), (6, Ty.int .i64 (t.1 : Nat))] []) (fun t => y.D + 1 - t.1) (⟨0, Nat.zero_le _, fun s h => absurd h (Nat.not_lt_zero s)⟩) ?_ fun t => ?_
  ·(refine cg.mk' ?_ ?_ <;> (repeat' (first | exact aI | exact aH | refine aB ?_ (Ty.aT _) | refine aB ?_ (Ty.aF _))))
  have ht := t.2.1
  refine aE (aE (aA (bF rfl ?_)))
  refine aL rfl rfl rfl rfl rfl (by decide) ?_
  refine aJ rfl rfl rfl rfl (bB rfl rfl rfl (aD (aC ?_)))
  refine ah rfl (fun hc3 => ?_) (fun hc3 => ?_)
  ·
   refine aj (aC (aE (aY (aE (cP mixed rfl ?_)))))
   refine aX rfl rfl rfl (by exact Nat.le_of_ble_eq_true rfl) ?_
   refine aX rfl rfl rfl (by exact Nat.le_of_ble_eq_true rfl) ?_
   refine bF rfl (bF rfl ?_)
   refine af (IZ y a hams ((k.1 : Nat) : Int) ((t.1 : Nat) : Int) (Int.natCast_nonneg _) (by omega)) rfl rfl rfl rfl rfl ?_
   refine aL rfl rfl rfl rfl rfl (by decide) ?_
   refine aJ rfl rfl rfl rfl (bF rfl ?_)
   refine aq rfl rfl rfl rfl rfl rfl (by omega) ?_
   refine aL rfl rfl rfl rfl rfl (by decide) ?_
   refine aJ rfl rfl rfl rfl (af (lg _ _ _) rfl rfl rfl rfl rfl (aD ?_))
   refine ⟨by kernel_rfl, ?_⟩
   refine aC ?_
   refine cH rfl (fun hc4 => ?_) (fun hc4 => ?_)
   ·
    refine aE (aA (bZ rfl (aD (aC (az (ay (aQ (aQ (ay ?_)))))))))
    refine ay (aQ (aQ (ay (aQ (bR rfl rfl ?_)))))
    all_goals skip
    exact av rfl rfl (congrArg (Ty.int .i64) (QB (b := k.1) (t := t.1) (by omega) (by omega) hc4))
   refine aj (bI (aC (aA (bF rfl ?_))))
   refine bq rfl rfl (by omega) (by omega) ?_
   refine bZ rfl (aD ?_)
   refine bM (⟨t.1 + 1, by omega, fun s h => (Nat.lt_succ_iff_lt_or_eq.1 h).elim (t.2.2 s) fun e => by subst e; exact Dq hc4⟩) ?_ (by show y.D + 1 - (t.1 + 1) < y.D + 1 - t.1; omega)
   (refine cg.mk' ?_ ?_ <;> (repeat' (first | exact aI | exact aH | refine aB ?_ (Ty.aT _) | refine aB ?_ (Ty.aF _))))
   all_goals skip
  refine bz (aP (aP (aa rfl (bI (aC (aA (bF rfl ?_)))))))
  refine bq rfl rfl (by omega) (by omega) ?_
  refine bZ rfl (aD ?_)
  refine bM (⟨k.1 + 1, by omega, fun i h => (Nat.lt_succ_iff_lt_or_eq.1 h).elim (k.2.2 i) fun e => by subst e; exact ⟨Dq hc2, fun s h => t.2.2 s (by omega)⟩⟩) ?_ (by show y.bins.length - (k.1 + 1) < y.bins.length - k.1; omega)
  (refine cg.mk' ?_ ?_ <;> (repeat' (first | exact aI | exact aH | refine aB ?_ (Ty.aT _) | refine aB ?_ (Ty.aF _))))
  all_goals skip
 refine bz (aP (aP (aa rfl (aC (aE (aE (aA (bZ rfl (aD ?_)))))))))
 refine aC (aY ?_)
 refine b9 (fun (m : {k : Nat // k ≤ y.moves.length ∧ ∀ i, i < k → (nth y.moves i).sacks.lo ≤ nth a.cC i ∧ nth a.cC i ≤ (nth y.moves i).sacks.hi}) => live [(2, Ty.pp (bE y)), (3, Ty.pp (mH a)), (7, Ty.int .i64 (m.1 : Nat))] []) (fun m => y.moves.length - m.1) (⟨0, Nat.zero_le _, fun b h => absurd h (Nat.not_lt_zero b)⟩) ?_ fun m => ?_
 ·(refine cg.mk' ?_ ?_ <;> (repeat' (first | exact aI | exact aH | refine aB ?_ (Ty.aT _) | refine aB ?_ (Ty.aF _))))
 have hm := m.2.1
 refine aE (aE (aA (bF rfl ?_)))
 refine aL rfl rfl rfl rfl rfl (by decide) ?_
 refine aJ rfl rfl rfl rfl (cD rfl rfl rfl (bB rfl rfl rfl (aD (aC ?_))))
 refine ah rfl (fun hc5 => ?_) (fun hc5 => ?_)
 ·
  refine aj (aC (aE (aY (aE (cP mixed rfl ?_)))))
  refine aL rfl rfl rfl rfl rfl (by decide) ?_
  refine aJ rfl rfl rfl rfl (bF rfl ?_)
  refine aq rfl rfl rfl rfl rfl rfl (by omega) ?_
  refine aJ rfl rfl rfl rfl ?_
  refine aL rfl rfl rfl rfl rfl (by decide) ?_
  refine aJ rfl rfl rfl rfl (bF rfl ?_)
  refine aq rfl rfl rfl rfl rfl rfl (by omega) ?_
  refine aL rfl rfl rfl rfl rfl (by decide) ?_
  refine aL rfl rfl rfl rfl rfl (by decide) ?_
  refine aJ rfl rfl rfl rfl ?_
  refine aL rfl rfl rfl rfl rfl (by decide) ?_
  refine aJ rfl rfl rfl rfl (bF rfl ?_)
  refine aq rfl rfl rfl rfl rfl rfl (by omega) ?_
  refine aL rfl rfl rfl rfl rfl (by decide) ?_
  refine aL rfl rfl rfl rfl rfl (by decide) ?_
  refine aJ rfl rfl rfl rfl (af (lg _ _ _) rfl rfl rfl rfl rfl (aD ?_))
  refine ⟨by kernel_rfl, ?_⟩
  refine aC ?_
  refine cH rfl (fun hc6 => ?_) (fun hc6 => ?_)
  ·
   refine aE (aA (bZ rfl (aD (aC (az (ay (aQ (aQ (ay ?_)))))))))
   refine aQ (bR rfl rfl ?_)
   all_goals skip
   exact av rfl rfl (congrArg (Ty.int .i64) (Qg (k := m.1) (by omega) hc6))
  refine aj (bI (aC (aA (bF rfl ?_))))
  refine bq rfl rfl (by omega) (by omega) ?_
  refine bZ rfl (aD ?_)
  refine bM (⟨m.1 + 1, by omega, fun i h => (Nat.lt_succ_iff_lt_or_eq.1 h).elim (m.2.2 i) fun e => by subst e; exact Dq hc6⟩) ?_ (by show y.moves.length - (m.1 + 1) < y.moves.length - m.1; omega)
  (refine cg.mk' ?_ ?_ <;> (repeat' (first | exact aI | exact aH | refine aB ?_ (Ty.aT _) | refine aB ?_ (Ty.aF _))))
  all_goals skip
 refine bz (aP (aP (aa rfl (aC (aE (aA (bZ rfl (bZ rfl (aD ?_)))))))))
 refine aC (aE (aE (aA (bZ rfl (aD (aC (aY ?_)))))))
 refine b9 (fun (n : {k : Nat // k ≤ y.levels.length}) => live [(2, Ty.pp (bE y)), (3, Ty.pp (mH a)), (8, Ty.int .i64 (iH y a n.1)), (9, Ty.int .i64 (DB n.1)), (10, Ty.int .i64 (n.1 : Nat))] []) (fun n => y.levels.length - n.1) (⟨0, Nat.zero_le _⟩) ?_ fun n => ?_
 ·(refine cg.mk' ?_ ?_ <;> (repeat' (first | exact aI | exact aH | refine aB ?_ (Ty.aT _) | refine aB ?_ (Ty.aF _) | refine aB ?_ ?_)))
  all_goals first | exact Ty.bN MB | exact Ty.bN Qh
 have hn := n.2
 have hp1 := Au n.1
 have hp2 := JN n.1 (by omega)
 have hmb := uf (y := y) (a := a) n.1
 refine aE (aE (aA (bF rfl ?_)))
 refine aL rfl rfl rfl rfl rfl (by decide) ?_
 refine aJ rfl rfl rfl rfl (cD rfl rfl rfl (bB rfl rfl rfl (aD (aC ?_))))
 refine ah rfl (fun hc7 => ?_) (fun hc7 => ?_)
 ·
  refine aj (aC (aE (aY (aE ?_))))
  have hlv := hr.level _ (cX (show n.1 < y.levels.length by omega))
  refine aA ?_
  refine aL rfl rfl rfl rfl rfl (by decide) ?_
  refine aJ rfl rfl rfl rfl (bF rfl ?_)
  refine aq rfl rfl rfl rfl rfl rfl (by omega) ?_
  refine aX rfl rfl rfl (by exact Nat.le_of_ble_eq_true rfl) ?_
  refine bu rfl (by exact List.cons_ne_nil _ _) rfl ?_
  refine bh rfl rfl (by decide) rfl rfl rfl rfl rfl rfl ?_
  refine aD (aC (aE (aE (cP mixed rfl ?_))))
  refine aX rfl rfl rfl (by exact Nat.le_of_ble_eq_true rfl) ?_
  refine aX rfl rfl rfl (by exact Nat.le_of_ble_eq_true rfl) ?_
  refine aS rfl rfl rfl rfl rfl (by decide) ?_
  refine aZ rfl rfl (by decide) rfl rfl rfl ?_
  refine aS rfl rfl rfl rfl rfl (by decide) ?_
  refine aZ rfl rfl (by decide) rfl rfl rfl ?_
  refine af (IZ y a hams (nth y.levels n.1).bin (nth y.levels n.1).day hlv.2.1.1 (by omega)) rfl rfl rfl rfl rfl ?_
  refine aS rfl rfl rfl rfl rfl (by decide) ?_
  refine aS rfl rfl rfl rfl rfl (by decide) ?_
  refine aZ rfl rfl (by decide) rfl rfl rfl ?_
  refine aS rfl rfl rfl rfl rfl (by decide) ?_
  refine aS rfl rfl rfl rfl rfl (by decide) ?_
  refine aZ rfl rfl (by decide) rfl rfl rfl ?_
  refine af (lg _ _ _) rfl rfl rfl rfl rfl (aD ?_)
  refine ⟨by kernel_rfl, ?_⟩
  refine aC ?_
  refine cH rfl (fun hc8 => ?_) (fun hc8 => ?_)
  ·
   refine aA (bF rfl (bF rfl ?_))
   refine bq rfl rfl (by omega) (by omega) ?_
   refine bZ rfl (aD (aC (aA (bF rfl ?_))))
   refine sw rfl rfl (by omega) (by omega) ?_
   refine bZ rfl (aD (bI (aC (aA (bF rfl ?_)))))
   refine bq rfl rfl (by omega) (by omega) ?_
   refine bZ rfl (aD ?_)
   refine bM (⟨n.1 + 1, by omega⟩) ?_ (by show y.levels.length - (n.1 + 1) < y.levels.length - n.1; omega)
   (refine cg.mk' ?_ ?_ <;> (repeat' (first | exact aI | exact aH | refine aB ?_ (Ty.aT _) | refine aB ?_ (Ty.aF _) | refine aB ?_ ?_)))
   all_goals skip
   all_goals first | exact Ty.bN (QN hc8) | exact Ty.bN N5
  refine aj (aC (aA (bF rfl ?_)))
  refine sw rfl rfl (by omega) (by omega) ?_
  refine bZ rfl (aD (bI (aC (aA (bF rfl ?_)))))
  refine bq rfl rfl (by omega) (by omega) ?_
  refine bZ rfl (aD ?_)
  refine bM (⟨n.1 + 1, by omega⟩) ?_ (by show y.levels.length - (n.1 + 1) < y.levels.length - n.1; omega)
  (refine cg.mk' ?_ ?_ <;> (repeat' (first | exact aI | exact aH | refine aB ?_ (Ty.aT _) | refine aB ?_ (Ty.aF _) | refine aB ?_ ?_)))
  all_goals skip
  all_goals first | exact Ty.bN (QO hc8) | exact Ty.bN N5
 refine bz (aP (aP (aa rfl (aC (aE (aA (bF rfl (bZ rfl (aD ?_)))))))))
 refine aC (az (bR rfl rfl ?_))
 all_goals skip
 exact av rfl rfl (congrArg (Ty.int .i64) ((congrArg (iH y a) (show n.1 = y.levels.length by omega)).trans (QD ha.lens (fun b hb => k.2.2 b (by omega)) (fun i hi => m.2.2 i (by omega)))))
end Go.Proofs.YtelbollidfdcjaaGreat
namespace Go.Proofs.YtelbollidfdcjaaGreat
open Go Go.T
structure nX where
  fits : Bool
  bins : List (List Span)
  moves : List Span
  whole : List Span
  missed : List Bool
deriving Inhabited
structure nX.Shape (y : au) (f : nX) : Prop where
  bins : f.bins.length = y.bins.length
  row : ∀ b, b < y.bins.length → (nth f.bins b).length = y.D + 1
  moves : f.moves.length = y.moves.length
  whole : f.whole.length = y.D + 1
  missed : f.missed.length = 256
def cr (y : au) : List Int := y.bins.map (fun b => b.first.lo) ++ y.moves.map fun m => m.sacks.lo
def dF (y : au) : List Int := y.bins.map (fun b => b.first.hi) ++ y.moves.map fun m => m.sacks.hi
def dx (y : au) (now : List Int) : dZ := ⟨now.take y.bins.length, now.drop y.bins.length⟩
def ke (y : au) (a : dZ) (f : nX) (t k : Nat) : List (List Span) := (List.range y.bins.length).map fun b => (List.range (y.D + 1)).map fun s => if s < t ∨ s = t ∧ b < k then lC (nth (nth f.bins b) s) (ct y a (b : Nat) (s : Nat)) f.fits else nth (nth f.bins b) s
def tS (y : au) (a : dZ) (t k : Nat) : Int := c7 (fun b => ct y a (b : Nat) (t : Nat)) k
def qx (y : au) (a : dZ) (f : nX) (t : Nat) : List Span := (List.range (y.D + 1)).map fun s => if s < t then lC (nth f.whole s) (tS y a s y.bins.length) f.fits else nth f.whole s
def r7 (y : au) (a : dZ) (f : nX) (k : Nat) : List Span := (List.range y.moves.length).map fun i => if i < k then lC (nth f.moves i) (nth a.cC i) f.fits else nth f.moves i
def tT (y : au) (a : dZ) (f : nX) : nX := ⟨true, ke y a f (y.D + 1) 0, r7 y a f y.moves.length, qx y a f (y.D + 1), f.missed⟩
noncomputable def jt (y : au) (a : dZ) (f : nX) : nX := { f with missed := f.missed.set (dy y a).toNat true }
open Classical in
noncomputable def BY (y : au) (a : dZ) (f : nX) : nX := if dy y a < 0 then f else if dy y a = 0 then tT y a (jt y a f) else jt y a f
def gF (y : au) : nX := ⟨false, List.replicate y.bins.length (List.replicate (y.D + 1) ⟨0, 0⟩), List.replicate y.moves.length ⟨0, 0⟩, List.replicate (y.D + 1) ⟨0, 0⟩, List.replicate 256 false⟩
def dS (y : au) (k : Nat) : List Int := if k < dB (cr y) (dF y) then IP (cr y) (dF y) k else cr y
def jC (y : au) (k : Nat) : dZ := dx y (dS y k)
noncomputable def eK (y : au) : Nat → nX
  | 0 => gF y
  | k + 1 => BY y (jC y k) (eK y k)
noncomputable def oG (y : au) : nX := eK y (dB (cr y) (dF y))
theorem kX {α : Type} [Inhabited α] {f g : Nat → α} {n k : Nat} (h : k < n) (hf : ∀ b, b < n → b ≠ k → f b = g b) : ((List.range n).map f).set k (g k) = (List.range n).map g := by
 refine tu (by rw [List.length_set, List.length_map, List.length_map]) fun j hj => ?_
 rw [List.length_set, List.length_map, List.length_range] at hj
 rw [iz (by rw [List.length_map, List.length_range]; exact hj), eo _ hj]
 by_cases e : k = j
 ·subst e; rw [if_pos rfl, eo _ hj]
 rw [if_neg e, eo _ hj]; exact hf j hj (Ne.symm e)
theorem jJ {α : Type} [Inhabited α] {l : List α} {n : Nat} (h : l.length = n) : (List.range n).map (nth l) = l := by
 refine tu (by rw [List.length_map, List.length_range, h]) fun j hj => ?_
 rw [List.length_map, List.length_range] at hj
 exact eo _ hj
section
variable {y : au} {a : dZ} {f : nX} {t k b i : Nat}
theorem G3 (h : f.Shape y) : f.bins = ke y a f 0 0 := by
 unfold ke
 rw [← jJ h.bins]
 refine List.map_congr_left fun b hb => ?_
 have hb := List.mem_range.1 hb
 rw [← jJ (h.row b hb), jJ (h.row b hb)]
 refine (jJ (h.row b hb)).symm.trans ?_
 refine List.map_congr_left fun s _ => ?_
 rw [if_neg (by omega), jJ h.bins]
theorem Cq : (ke y a f t k).length = y.bins.length := by unfold ke; rw [List.length_map, List.length_range]
theorem B6 (hb : b < y.bins.length) : (nth (ke y a f t k) b).length = y.D + 1 := by unfold ke; rw [eo _ hb, List.length_map, List.length_range]
theorem Ni (hb : b < y.bins.length) (ht : i ≤ y.D) : nth (nth (ke y a f t k) b) i = if i < t ∨ i = t ∧ b < k then lC (nth (nth f.bins b) i) (ct y a (b : Nat) (i : Nat)) f.fits else nth (nth f.bins b) i := by
 unfold ke; rw [eo _ hb, eo _ (by omega)]
theorem KC (hb : k < y.bins.length) (ht : t ≤ y.D) : nth (nth (ke y a f t k) k) t = nth (nth f.bins k) t := by
 rw [Ni hb ht, if_neg (by omega)]
theorem LN (hb : k < y.bins.length) (ht : t ≤ y.D) : (ke y a f t k).set k ((nth (ke y a f t k) k).set t (lC (nth (nth f.bins k) t) (ct y a (k : Nat) (t : Nat)) f.fits)) = ke y a f t (k + 1) := by
 have e1 : (nth (ke y a f t k) k).set t (lC (nth (nth f.bins k) t) (ct y a (k : Nat) (t : Nat)) f.fits) = (List.range (y.D + 1)).map fun s => if s < t ∨ s = t ∧ k < k + 1 then lC (nth (nth f.bins k) s) (ct y a (k : Nat) (s : Nat)) f.fits else nth (nth f.bins k) s := by
  unfold ke
  rw [eo _ hb]
  have := kX (f := fun s => if s < t ∨ s = t ∧ k < k then lC (nth (nth f.bins k) s) (ct y a (k : Nat) (s : Nat)) f.fits else nth (nth f.bins k) s) (g := fun s => if s < t ∨ s = t ∧ k < k + 1 then lC (nth (nth f.bins k) s) (ct y a (k : Nat) (s : Nat)) f.fits else nth (nth f.bins k) s) (show t < y.D + 1 by omega) fun s _ hs => by
   by_cases c : s < t
   ·rw [if_pos (.inl c), if_pos (.inl c)]
   rw [if_neg (by omega), if_neg (by omega)]
  rw [if_pos (.inr ⟨rfl, Nat.lt_succ_self k⟩)] at this
  exact this
 rw [e1]
 exact kX (g := fun b => (List.range (y.D + 1)).map fun s => if s < t ∨ s = t ∧ b < k + 1 then lC (nth (nth f.bins b) s) (ct y a (b : Nat) (s : Nat)) f.fits else nth (nth f.bins b) s) hb fun b _ hn => List.map_congr_left fun s _ => by
  by_cases c : s < t ∨ s = t ∧ b < k
  ·rw [if_pos c, if_pos (by omega)]
  rw [if_neg c, if_neg (by omega)]
theorem Hl (h : k = y.bins.length) : ke y a f t k = ke y a f (t + 1) 0 := by
 subst h
 unfold ke
 refine List.map_congr_left fun b hb => List.map_congr_left fun s _ => ?_
 have hb := List.mem_range.1 hb
 by_cases c : s < t + 1
 ·rw [if_pos (by omega), if_pos (.inl c)]
 rw [if_neg (by omega), if_neg (by omega)]
theorem HJ (h : f.Shape y) : f.whole = qx y a f 0 := by
 unfold qx
 refine (jJ h.whole).symm.trans (List.map_congr_left fun s _ => ?_)
 rw [if_neg (by omega)]
theorem CF : (qx y a f t).length = y.D + 1 := by unfold qx; rw [List.length_map, List.length_range]
theorem Ir (ht : t ≤ y.D) : nth (qx y a f t) t = nth f.whole t := by
 unfold qx; rw [eo _ (by omega), if_neg (by omega)]
theorem Lx (ht : t ≤ y.D) : (qx y a f t).set t (lC (nth f.whole t) (tS y a t y.bins.length) f.fits) = qx y a f (t + 1) := by
 have := kX (f := fun s => if s < t then lC (nth f.whole s) (tS y a s y.bins.length) f.fits else nth f.whole s) (g := fun s => if s < t + 1 then lC (nth f.whole s) (tS y a s y.bins.length) f.fits else nth f.whole s) (show t < y.D + 1 by omega) fun s _ hs => by
  by_cases c : s < t
  ·rw [if_pos c, if_pos (by omega)]
  rw [if_neg c, if_neg (by omega)]
 rw [if_pos (Nat.lt_succ_self t)] at this
 exact this
theorem HD (h : f.Shape y) : f.moves = r7 y a f 0 := by
 unfold r7
 refine (jJ h.moves).symm.trans (List.map_congr_left fun s _ => ?_)
 rw [if_neg (by omega)]
theorem Cu : (r7 y a f k).length = y.moves.length := by unfold r7; rw [List.length_map, List.length_range]
theorem Ke (hk : k < y.moves.length) : nth (r7 y a f k) k = nth f.moves k := by
 unfold r7; rw [eo _ hk, if_neg (by omega)]
theorem Jd (hk : k < y.moves.length) : (r7 y a f k).set k (lC (nth f.moves k) (nth a.cC k) f.fits) = r7 y a f (k + 1) := by
 have := kX (f := fun s => if s < k then lC (nth f.moves s) (nth a.cC s) f.fits else nth f.moves s) (g := fun s => if s < k + 1 then lC (nth f.moves s) (nth a.cC s) f.fits else nth f.moves s) hk fun s _ hs => by
  by_cases c : s < k
  ·rw [if_pos c, if_pos (by omega)]
  rw [if_neg c, if_neg (by omega)]
 rw [if_pos (Nat.lt_succ_self k)] at this
 exact this
theorem GS (h : f.Shape y) : (tT y a f).Shape y := ⟨Cq, fun _ hb => B6 hb, Cu, CF, h.missed⟩
theorem rX (h : f.Shape y) : (jt y a f).Shape y := ⟨h.bins, h.row, h.moves, h.whole, by show (f.missed.set _ _).length = _; rw [List.length_set]; exact h.missed⟩
theorem AZ (h : dy y a < 0) : f = BY y a f := by unfold BY; rw [if_pos h]
theorem wg (h : dy y a = 0) : tT y a (jt y a f) = BY y a f := by unfold BY; rw [if_neg (by omega), if_pos h]
theorem uM (h : ¬ dy y a < 0) (h0 : ¬ dy y a = 0) : jt y a f = BY y a f := by unfold BY; rw [if_neg h, if_neg h0]
theorem Dw (h : f.Shape y) : (BY y a f).Shape y := by
 by_cases h1 : dy y a < 0
 ·rw [← AZ h1]; exact h
 by_cases h2 : dy y a = 0
 ·rw [← wg h2]; exact GS (rX h)
 rw [← uM h1 h2]; exact rX h
theorem Ek : (gF y).Shape y := ⟨List.length_replicate, fun b hb => by show (nth (List.replicate y.bins.length (List.replicate (y.D + 1) (⟨0, 0⟩ : Span))) b).length = _; rw [fk (by rw [List.length_replicate]; exact hb), List.getElem_replicate, List.length_replicate], List.length_replicate, List.length_replicate, List.length_replicate⟩
theorem mC : ∀ k, (eK y k).Shape y
  | 0 => Ek
  | k + 1 => Dw (mC k)
theorem rH {α : Type} {f g : α → Int} : ∀ {l : List α}, (∀ x ∈ l, f x ≤ g x) → jK (l.map f) (l.map g)
  | [], _ => trivial
  | x :: l, h => ⟨h x List.mem_cons_self, rH fun z hz => h z (List.mem_cons_of_mem _ hz)⟩
theorem xy : ∀ {l h l' h' : List Int}, jK l h → jK l' h' → jK (l ++ l') (h ++ h')
  | [], [], _, _, _, q => q
  | _ :: _, _ :: _, _, _, ⟨a, b⟩, q => ⟨a, xy b q⟩
theorem gR (hr : y.bt) : jK (cr y) (dF y) :=
 xy (rH fun b hb => (hr.bin b hb).2.2) (rH fun m hm => (hr.move m hm).2.2.2.2.2)
theorem ga : (cr y).length = y.bins.length + y.moves.length := by unfold cr; rw [List.length_append, List.length_map, List.length_map]
theorem nJ : (dF y).length = y.bins.length + y.moves.length := by unfold dF; rw [List.length_append, List.length_map, List.length_map]
theorem pI (hr : y.bt) : (dS y k).length = y.bins.length + y.moves.length := by
 unfold dS
 split
 ·rename_i h
  rw [(wm (ue (gR hr) h).1).1, ga]
 exact ga
theorem Ex : ∀ {lo hi x : List Int}, hi.length = lo.length → x.length = lo.length → (∀ i, i < lo.length → nth lo i ≤ nth x i ∧ nth x i ≤ nth hi i) → rZ lo hi x
  | [], [], [], _, _, _ => trivial
  | l :: ls, h :: hs, x :: xs, h1, h2, h3 => ⟨h3 0 (Nat.zero_lt_succ _), Ex (by simpa using h1) (by simpa using h2) fun i hi => h3 (i + 1) (Nat.succ_lt_succ hi)⟩
theorem CE : ∀ {lo hi x : List Int}, rZ lo hi x → ∀ i, i < lo.length → nth lo i ≤ nth x i ∧ nth x i ≤ nth hi i
  | _ :: _, _ :: _, _ :: _, ⟨h, _⟩, 0, _ => h
  | _ :: _, _ :: _, _ :: _, ⟨_, h⟩, i + 1, hi => CE h i (Nat.lt_of_succ_lt_succ hi)
theorem Dv (h : b < y.bins.length) : nth (cr y) b = (nth y.bins b).first.lo := by
 unfold cr; rw [gk (by rw [List.length_map]; exact h), nN _ h]
theorem EV (h : b < y.bins.length) : nth (dF y) b = (nth y.bins b).first.hi := by
 unfold dF; rw [gk (by rw [List.length_map]; exact h), nN _ h]
theorem EH (h : i < y.moves.length) : nth (cr y) (y.bins.length + i) = (nth y.moves i).sacks.lo := by
 unfold cr
 have := kP (l := y.bins.map fun b => b.first.lo) (k := y.moves.map fun m => m.sacks.lo) (i := i)
 rw [List.length_map] at this
 rw [this, nN _ h]
theorem Ed (h : i < y.moves.length) : nth (dF y) (y.bins.length + i) = (nth y.moves i).sacks.hi := by
 unfold dF
 have := kP (l := y.bins.map fun b => b.first.hi) (k := y.moves.map fun m => m.sacks.hi) (i := i)
 rw [List.length_map] at this
 rw [this, nN _ h]
theorem zL {α : Type} [Inhabited α] {l : List α} {n : Nat} (h : i < n) : nth (l.take n) i = nth l i := by
 unfold nth; rw [List.getD_eq_getElem?_getD, List.getD_eq_getElem?_getD, List.getElem?_take, if_pos h]
theorem Bl (hr : y.bt) {x : List Int} (h : rZ (cr y) (dF y) x) : pV y (dx y x) := by
 obtain ⟨h1, _⟩ := wm h
 rw [ga] at h1
 have hn := CE h
 rw [ga] at hn
 refine ⟨⟨by show (x.take _).length = _; rw [List.length_take]; omega, by show (x.drop _).length = _; rw [List.length_drop]; omega⟩, fun v hv => ?_, fun v hv => ?_⟩
 ·obtain ⟨i, hi, rfl⟩ := oQ (l := x.take y.bins.length) hv
  rw [List.length_take] at hi
  rw [zL (by omega)]
  have := hn i (by omega)
  rw [Dv (by omega), EV (by omega)] at this
  have hb := (hr.bin _ (cX (show i < y.bins.length by omega))).2.1
  omega
 obtain ⟨i, hi, rfl⟩ := oQ (l := x.drop y.bins.length) hv
 rw [List.length_drop] at hi
 rw [lf]
 have := hn (y.bins.length + i) (by omega)
 rw [EH (by omega), Ed (by omega)] at this
 have hb := (hr.move _ (cX (show i < y.moves.length by omega))).2.2.2.2.1
 omega
theorem NB (hr : y.bt) : rZ (cr y) (dF y) (dS y k) := by
 unfold dS
 split
 ·rename_i h; exact (ue (gR hr) h).1
 exact Ev (gR hr)
theorem xZ (hr : y.bt) : pV y (jC y k) := Bl hr (NB hr)
theorem I1 (h : fH y (fun _ => false) a) : rZ (cr y) (dF y) (a.first ++ a.cC) := by
 have h1 := h.lens.first
 have h2 := h.lens.cC
 refine Ex (by rw [ga, nJ]) (by rw [List.length_append, ga]; omega) fun i hi => ?_
 rw [ga] at hi
 by_cases c : i < y.bins.length
 ·rw [Dv c, EV c, gk (by omega)]; exact h.first i c
 obtain ⟨j, rfl⟩ : ∃ j, i = y.bins.length + j := ⟨i - y.bins.length, by omega⟩
 rw [EH (by omega), Ed (by omega), ← h1, kP]
 exact h.cC j (by omega)
theorem II (h : yg y a) : dx y (a.first ++ a.cC) = a := by
 unfold dx
 rw [← h.first, List.take_left, List.drop_left]
theorem KN (hr : y.bt) (h : fH y (fun _ => false) a) : ∃ k, k < dB (cr y) (dF y) ∧ jC y k = a := by
 have hb := I1 h
 refine ⟨_, oJ hb, ?_⟩
 unfold jC dS
 rw [if_pos (oJ hb), wP (gR hr) hb, II h.lens]
theorem Mt (h : 0 ≤ dy y a) : fH y (fun _ => false) a := by
 by_cases c : fH y (fun _ => false) a
 ·exact c
 rw [← sP c] at h; omega
theorem ME (hr : y.bt) : dy y a < 256 := by
 by_cases c : fH y (fun _ => false) a
 ·rw [← sA c]
  have := (uf (y := y) (a := a) y.levels.length).2
  have := JN y.levels.length hr.levels
  omega
 rw [← sP c]; omega
theorem yG (hr : y.bt) {m : Nat} (hm : m < 256) : ∀ k, nth (eK y k).missed m = true ↔ ∃ j, j < k ∧ dy y (jC y j) = m
  | 0 => by
    have : nth (gF y).missed m = false := by
      show nth (List.replicate 256 false) m = false
      rw [fk (by rw [List.length_replicate]; exact hm), List.getElem_replicate]
    show nth (gF y).missed m = true ↔ _
    rw [this]
    exact ⟨fun h => (by cases h), fun ⟨j, hj, _⟩ => absurd hj (Nat.not_lt_zero j)⟩
  | k + 1 => by
    have ih := yG hr hm k
    have hsh := mC (y := y) k
    have hmark : 0 ≤ dy y (jC y k) → (nth (jt y (jC y k) (eK y k)).missed m = true ↔ ∃ j, j < k + 1 ∧ dy y (jC y j) = m) := fun h0 => by
      show nth ((eK y k).missed.set _ _) m = true ↔ _
      rw [iz (by rw [hsh.missed]; exact hm)]
      by_cases e : (dy y (jC y k)).toNat = m
      · rw [if_pos e]
        exact ⟨fun _ => ⟨k, Nat.lt_succ_self k, by omega⟩, fun _ => rfl⟩
      · rw [if_neg e, ih]
        constructor
        · rintro ⟨j, hj, ej⟩; exact ⟨j, by omega, ej⟩
        · rintro ⟨j, hj, ej⟩
          rcases Nat.lt_succ_iff_lt_or_eq.1 hj with h | h
          · exact ⟨j, h, ej⟩
          · subst h; omega
    show nth (BY y (jC y k) (eK y k)).missed m = true ↔ _
    by_cases h1 : dy y (jC y k) < 0
    · rw [← AZ h1, ih]
      constructor
      · rintro ⟨j, hj, ej⟩; exact ⟨j, by omega, ej⟩
      · rintro ⟨j, hj, ej⟩
        rcases Nat.lt_succ_iff_lt_or_eq.1 hj with h | h
        · exact ⟨j, h, ej⟩
        · subst h; omega
    · by_cases h2 : dy y (jC y k) = 0
      · rw [← wg h2]; exact hmark (by omega)
      · rw [← uM h1 h2]; exact hmark (by omega)
theorem AF : (oG y).Shape y := mC _
theorem yK (hr : y.bt) {m : Nat} (hm : m < 256) : nth (oG y).missed m = true ↔ ∃ a, fH y (fun _ => false) a ∧ iH y a y.levels.length = m := by
 rw [show nth (oG y).missed m = true ↔ _ from yG hr hm _]
 constructor
 ·rintro ⟨j, _, e⟩
  have hf := Mt (show 0 ≤ dy y (jC y j) by omega)
  exact ⟨_, hf, by rw [sA hf]; exact e⟩
 rintro ⟨a, h, e⟩
 obtain ⟨j, hj, ej⟩ := KN hr h
 exact ⟨j, hj, by rw [ej, ← sA h]; exact e⟩
end
end Go.Proofs.YtelbollidfdcjaaGreat
namespace Go.T
open Go Go.RowKit
theorem JI {α : Type} {E : El α} (hs : E.size = 1) {xs ys : List α} {o n i : Nat} {t : Ty} (he : (xs.drop o).take n = ys) (hi : (ys.flatMap E.tys)[i]? = some t) : i < n ∧ (xs.flatMap E.tys)[o + i]? = some t := by
 subst he
 rw [(xU hs (xs.drop o) n).1, (xU hs xs o).2] at hi
 have hlt : i < n := by
  have := (List.getElem?_eq_some_iff.1 hi).1
  rw [List.length_take] at this; omega
 rw [List.getElem?_take, if_pos hlt, List.getElem?_drop] at hi
 exact ⟨hlt, hi⟩
theorem qa {A : As} {L : List Nat} {α : Type} {E : El α} {T tg o n r : Nat} {xs ys : List α} (hc : A.tag tg = some (.vec E T xs)) (hs : E.size = 1) (he : (xs.drop o).take n = ys) (hn : o + n ≤ xs.length) (h1 : gE tg) (hL : L.contains tg = true) : rE A L (.win tg o n r) (.sl E ys) := fun w M v wf ht hd => by
 have hL' : tg ∈ L := by simpa using hL
 have hv : fX E T xs w M tg := ht _ (cj hc) hL'
 obtain ⟨b, o', c, hb, e, g1, g2, g3⟩ := hd
 have hyl : ys.length = n := by rw [← he, List.length_take, List.length_drop]; omega
 subst hyl
 refine ⟨_, c, e, by omega, g2, fun hpos => ⟨b, o', rfl, At hb hL', wf.lt b _ hb, fun i t hi => ?_⟩⟩
 obtain rfl := g3 (by omega)
 obtain ⟨_, hi'⟩ := JI hs he hi
 obtain ⟨u, hu, hdu⟩ := mw wf h1 hb hv hi'
 refine ⟨u, hu, t.mono (S := fun _ => True) (K := fun _ => True) (w := w) ⟨Nat.le_refl _, rfl, rfl, rfl, fun b _ hm => ⟨jS hm, rfl⟩, fun b t _ h => absurd trivial h⟩ ?_ ?_ hdu⟩
 ·intro u hu
  have : u ∈ cF (xs.flatMap E.tys) := List.mem_flatMap.2 ⟨t, List.mem_of_getElem? hi', hu⟩
  rw [E.cY] at this; cases this
 intro u hu
 have : u ∈ bY (xs.flatMap E.tys) := List.mem_flatMap.2 ⟨t, List.mem_of_getElem? hi', hu⟩
 rw [E.cS] at this; cases this
theorem Jb {ρ : List (Nat × Nat)} {a b o n r : Nat} (h : (a, b) ∈ ρ) : Conv ρ (.win a o n r) (.win b o n r) := fun _ _ _ _ _ _ hre ⟨k, o', c, hk, e⟩ => ⟨k, o', c, hre.some _ h k hk, e⟩
theorem Bz {α : Type} {E : El α} {T J J' : Nat} {w : World} {M M' : bC} (h1 : ∀ b, M b = some J → M' b = some J') (h2 : ∀ b, M b = none → M' b = none) : ∀ {q : List (List α)} {vs : List Value}, cI w M (q.map fun x => Ty.ff E T J x) vs → cI w M' (q.map fun x => Ty.ff E T J' x) vs
  | [], [], _ => trivial
  | _ :: _, _ :: _, ⟨h, hs⟩ => ⟨h.imp id fun ⟨g, off, c, cur, e, hg, hh, m1, m2, m3, m4⟩ => ⟨g, off, c, cur, e, h1 g hg, hh, m1, m2, m3, g9 h2 (E.cY _) (E.cS _) m4⟩, Bz h1 h2 hs⟩
theorem I4 {ρ : List (Nat × Nat)} {a b T2 T J J' : Nat} {α : Type} {E : El α} {q q' : List (List α)} (h : (a, b) ∈ ρ) (h' : (J, J') ∈ ρ) (e : q = q') : pH ρ a (.mx E T2 T J q) b (.mx E T2 T J' q') := fun _ _ _ _ _ hre ⟨g, cs, h1, h2, h3, h4⟩ => by
 subst e
 exact ⟨g, cs, hre.some _ h g h1, h2, Bz (fun k hk => hre.some _ h' k hk) hre.none h3, h4⟩
def zF.Ej {α : Type} (ER : El (List α)) (E : El α) (Ti : Nat) (hE : ∀ x, ER.tys x = [Ty.sl E x]) (hs : ER.size = 1) : zF (List α) where
  E := ER
  own J x := [Ty.row E Ti J x]
  olen _ _ := hs.symm
  deps J x u hu := by simpa [cF, Ty.row] using hu
  cdeps J x u hu := by simpa [bY, Ty.row] using hu
  oones _ _ := rfl
  ql J x w M M' vs wf h1 h2 h := by
    rw [hE x]
    match vs, h with
    | [_], ⟨b, _⟩ => exact ⟨wW wf b h1 h2, trivial⟩
  ren J J' x w M M' vs h1 h2 h := by
    match vs, h with
    | [_], ⟨b, _⟩ => exact ⟨yL b h1 h2, trivial⟩
  mine J x w M vs h g hg := by
    match vs, h with
    | [v2], ⟨⟨_, _, _, hM⟩, _⟩ =>
      cases e2 : v2.ownBlock with
      | none => simp [e2] at hg
      | some b => simp [e2] at hg; subst hg; exact hM _ e2
theorem BL {α : Type} {E : El α} {tg J Ti : Nat} {sh : List α} : Is tg J [Ty.row E Ti tg sh] [Ty.row E Ti J sh] := fun w M vs h => by
  match vs, h with
  | [v2], ⟨b, _⟩ =>
    obtain ⟨cs, h1, h2, hM⟩ := id b
    refine ⟨⟨yL b (fun k hk => by simp [mG, hk]) (fun k hk => by simp [mG, hk]), trivial⟩, ?_, fun g hg => ?_⟩
    · cases e2 : v2.ownBlock <;> simp [e2]
    · cases e2 : v2.ownBlock with
      | none => simp [e2] at hg
      | some b => simp [e2] at hg; subst hg; exact hM _ e2
theorem Ty.NW {α : Type} {E : zF α} {T tg J n : Nat} {xs : List α} (hn : xs.length = n) : (Ty.yS E T tg J xs).Sub (Ty.vs tg n) := fun w M v ⟨cs, h1, h2, _, h3⟩ => by
 subst hn
 rcases h1.2 with ⟨e, h0⟩ | ⟨g, cap, cur, ex, _, hh, hn1, hcap, _, htk⟩
 ·exact .inl ⟨h0, e⟩
 exact .inr ⟨g, cap, h3 g (by rw [ex]; rfl), ex, hn1, hcap⟩
theorem Jg {α : Type} {E : El α} {T J : Nat} {xs : List α} {w : World} {M : bC} {v : Value} (h : fu E T J xs w M v) : vM E T J xs w M v := by
 obtain ⟨cs, h1, h2, h3⟩ := h
 rcases h1.2 with ⟨e, h0⟩ | ⟨g, cap, cur, ex, _, hh, hn1, hcap, hsz, htk⟩
 ·exact .inl ⟨List.length_eq_zero_iff.1 h0, e⟩
 refine .inr ⟨g, 0, cap, cur, ex, h3 g (by rw [ex]; rfl), hh, hn1, hcap, by omega, ?_⟩
 rw [List.drop_zero, htk]; exact h2
theorem FP {size : Nat} {v : Value} {g e : Nat} (h : jO size v = some (g, e)) : v.ownBlock = some g := by
  cases v with
  | slice a n c =>
    cases a with
    | none => simp [jO] at h
    | some a => simp [jO] at h; simp [Value.ownBlock, h.1]
  | _ => simp [jO] at h
theorem vF {size : Nat} : ∀ {cs : List Value}, (cs.filterMap Value.ownBlock).Nodup → zD size cs
  | [], _, i, _, _, _, _, _, _, hi, _, _, _ => by simp at hi
  | c :: cs, h, i, j, v, u, g, e, e', hi, hj, hv, hu => by
    have hv' := FP hv
    have hu' := FP hu
    have mem : ∀ {x : Value} {k : Nat}, cs[k]? = some x → x.ownBlock = some g → g ∈ cs.filterMap Value.ownBlock := fun hk hx => List.mem_filterMap.2 ⟨_, List.mem_of_getElem? hk, hx⟩
    have hcs : (cs.filterMap Value.ownBlock).Nodup := by
      rw [List.filterMap_cons] at h
      split at h
      · exact h
      · exact (List.nodup_cons.1 h).2
    have hno : ∀ {k : Nat} {x : Value}, c.ownBlock = some g → cs[k]? = some x → x.ownBlock = some g → False := fun hc hk hx => by
      rw [List.filterMap_cons, hc] at h
      exact (List.nodup_cons.1 h).1 (mem hk hx)
    cases i with
    | zero =>
      simp only [List.getElem?_cons_zero, Option.some.injEq] at hi
      subst hi
      cases j with
      | zero => rfl
      | succ j => rw [List.getElem?_cons_succ] at hj; exact (hno hv' hj hu').elim
    | succ i =>
      rw [List.getElem?_cons_succ] at hi
      cases j with
      | zero =>
        simp only [List.getElem?_cons_zero, Option.some.injEq] at hj
        subst hj
        exact (hno hu' hi hv').elim
      | succ j =>
        rw [List.getElem?_cons_succ] at hj
        rw [vF hcs i j v u g e e' hi hj hv hu]
section
variable {P : Program} {fr : Fr} {A : As} {c : Code} {Q : Exit → Act → World → Prop}
theorem Lt {α : Type} {ER : El (List α)} {E : El α} {T T2 J tg c0 Tc : Nat} {l : List Ty} {q : List (List α)} {hE : ∀ x, ER.tys x = [Ty.sl E x]} {hs : ER.size = 1} (i : Nat) (hc : A.tag c0 = some (.cells Tc l)) (hi : l[i]? = some (.yS (zF.Ej ER E T hE hs) T2 tg J q)) (hq : 0 < q.length)
    (h : fP P fr c ⟨A.slots, (tg, .mx E T2 T J q) :: A.tags⟩ Q) : fP P fr c A Q := fun a w ⟨M, ok, hsl, ht⟩ => by
  refine h a w ⟨M, ok, hsl, fun x hx => ?_⟩
  rcases List.mem_cons.1 hx with rfl | hx
  · obtain ⟨b, cs, hb, hh, hd⟩ := ht _ (cj hc)
    obtain ⟨v, _, ⟨ds, h1, h2, h4, h3⟩⟩ := dW hd i _ hi
    have key : ∀ (q : List (List α)) (vs : List Value), cI w M (q.flatMap fun x => [Ty.row E T J x]) vs → cI w M (q.map fun x => Ty.ff E T J x) vs := by
      intro q
      induction q with
      | nil => intro vs h; exact h
      | cons x q ih =>
        intro vs h
        match vs, h with
        | v :: vs, ⟨h1, h2⟩ => exact ⟨Jg h1, ih vs h2⟩
    rcases h1.2 with ⟨e, h0⟩ | ⟨g, cap, cur, ex, _, hh, hn1, hcap, _, htk⟩
    · omega
    · have hg : M g = some tg := h3 g (by rw [ex]; rfl)
      have e1 : (zF.Ej ER E T hE hs).E.size = 1 := hs
      rw [e1, Nat.mul_one] at htk
      exact ⟨g, cur, hg, hh, by rw [htk]; exact key q ds h2, by rw [htk]; exact vF h4⟩
  · exact ht x hx
end
section
variable {P : Program} {fr : Fr} {ops : Array Oper} {A : As} {rest : List Oper} {K : As → List (As × Fx) → Prop} {d : Nat} {t ty' : TypeId} {p : String} {e : Array Edge} [T : lD P]
theorem vK {x y : Operand} {kd : IntKind} {tg o n r j el : Nat} {ti te : TI} (hx : A.op fr x = .win tg o n r) (hy : A.op fr y = .int kd j) (hT : T.eN[ty']? = some ti) (hk : ti.k = .slice el) (hE : T.eN[el]? = some te) (hs : te.size = 1) (hj : j < n)
 (h : bA P fr ops rest (A.set d (.ptr tg (o + j))) fun A' l' => K A' ((A, { d := some d, ty := .ptr tg (o + j), rs := cJ x ++ cJ y }) :: l')) : bA P fr ops (⟨some d, .indexAddr ty' x y, t, p, e, none⟩ :: rest) A K :=
 bJ (bT rfl rfl fun a w M _ hr _ => by
  obtain ⟨hdx, hdy⟩ := op2 hr
  rw [hx] at hdx; rw [hy] at hdy
  have ey : a.eval y = .int kd j := hdy
  obtain ⟨b, o', c, hb, ex, g1, g2, g3⟩ := hdx
  obtain rfl := g3 (by omega)
  exact ⟨_, by simp only [execOp, ex, ey, Sem.run_bind, iG hT hk hE (Int.natCast_nonneg j) (show (j : Int).toNat < n from hj)]; rfl, b, hb, by simp [hs]⟩) h
theorem M6 {α : Type} {E : El α} {x0 : α} {x y : Operand} {k k' : IntKind} {n : Int} {el : Nat} {ti te : TI} (hx : A.op fr x = .int k n) (hy : A.op fr y = .int k' n) (hT : T.eN[ty']? = some ti) (hk : ti.k = .slice el) (hE : T.eN[el]? = some te) (hs : te.size = E.size) (hz : te.zero.map Ty.jU = E.tys x0) (hzp : 0 < te.size) (hp : fr.pass.contains (d + 1) = false)
    (hn : 0 ≤ n) (hlen : (te.bytes : Int) * n ≤ 281474976710656) (hlen' : n ≤ 9223372036854775807)
    (h : bA P fr ops rest (A.after { d := some d, ty := .row E el (d + 1) (List.replicate n.toNat x0), K := [d + 1], rs := cJ x ++ cJ y }) fun A' l' => K A' ((A, { d := some d, ty := .row E el (d + 1) (List.replicate n.toNat x0), K := [d + 1], rs := cJ x ++ cJ y }) :: l')) :
    bA P fr ops (⟨some d, .makeSlice ty' x y, t, p, e, none⟩ :: rest) A K := by
  refine ⟨_, gC rfl rfl (by simp) (by simp) (by simp at hp ⊢; exact hp) fun a w M wf hr _ => ?_, h⟩
  obtain ⟨hdx, hdy⟩ := op2 hr
  rw [hx] at hdx; rw [hy] at hdy
  have ex : a.eval x = .int k n := hdx
  have ey : a.eval y = .int k' n := hdy
  obtain ⟨_, D, _, hD, hkd, _⟩ := cz hT
  rw [hk] at hkd
  cases D <;> simp only [TK.of, reduceCtorEq, TK.slice.injEq] at hkd
  rename_i el0
  have hel : el0 = el := hkd
  subst hel
  obtain ⟨i, _, hi, _, _, hsz, hby, hze⟩ := cz hE
  have hzl : te.zero.length = te.size := by rw [← List.length_map (f := Ty.jU), hz, E.len, hs]
  obtain ⟨z, hiz⟩ : ∃ z, i.zero = some z := by
    cases hiz : i.zero with
    | none => rw [hiz] at hze; rw [← hze] at hzl; simp at hzl; omega
    | some z => exact ⟨z, rfl⟩
  rw [hiz] at hze
  have hrun := run_make (P := P) w ty' _ i z hD hi hiz k k' n n hn (Int.le_refl _) (by rw [hby]; exact hlen) hlen'
  obtain ⟨h1, h2, h3⟩ := jh wf (.cells (madeCells z.cells (n.toNat * i.size)) el0) (d + 1)
  refine ⟨.slice (some ⟨w.heap.size, 0, none⟩) n.toNat n.toNat, _, by simp [execOp, ex, ey, hrun], _, h1, h2, ?_, by simp⟩
  have hzs : z.cells.size = te.size := by rw [← hzl, ← hze]; simp
  have hcl : (madeCells z.cells (n.toNat * i.size)).size = n.toNat * E.size := by simp [madeCells, hsz, hs]
  refine ⟨(madeCells z.cells (n.toNat * i.size)).toList, ⟨by rw [Array.length_toList, hcl, List.length_replicate], .inr ⟨w.heap.size, n.toNat, _, by rw [List.length_replicate], Nat.zero_le _, gq _ _, by rw [List.length_replicate]; exact Nat.le_refl _, by simp only [maxLen]; omega, hcl, ?_⟩⟩, ?_, fun b hb => ?_⟩
  · rw [List.length_replicate]
    exact List.take_of_length_le (by rw [Array.length_toList, hcl]; exact Nat.le_refl _)
  · refine fm (by rw [c6, List.length_replicate, Array.length_toList, hcl]) fun j ty hj => ?_
    have hjl : j < n.toNat * te.size := by
      have := (List.getElem?_eq_some_iff.1 hj).1
      rw [c6, List.length_replicate, ← hs] at this; exact this
    have hq : j / te.size < n.toNat := Nat.div_lt_of_lt_mul (by rw [Nat.mul_comm]; exact hjl)
    have hm : j % te.size < te.size := Nat.mod_lt _ hzp
    have hget := ou E (List.replicate n.toNat x0) (j / te.size) (j % te.size) (by simpa using hq) (by rw [← hs]; exact hm)
    have hdecomp : j / te.size * E.size + j % te.size = j := by rw [← hs, Nat.mul_comm]; exact Nat.div_add_mod j te.size
    rw [hdecomp, hj] at hget
    simp only [List.getElem?_replicate, hq, if_true, Option.bind_some] at hget
    rw [← hz, List.getElem?_map] at hget
    obtain ⟨u, hu, hty⟩ := Option.map_eq_some_iff.1 hget.symm
    refine ⟨u, ?_, hty ▸ j6 _ _ _⟩
    have hu' : z.cells[j % z.cells.size]? = some u := by rw [hzs]; rw [← hze] at hu; simpa using hu
    simp only [madeCells, Array.toList_map, List.getElem?_map, Array.toList_range, hsz]
    rw [List.getElem?_range (by omega)]
    simp only [Option.map_some]
    rw [getElem!_def, hu']
  · simp only [Value.ownBlock, Option.some.injEq] at hb
    subst hb
    exact h3
theorem pq {α : Type} [Inhabited α] {E : El α} {xs : List α} {x : Operand} {tg off Tb : Nat} {ti : TI} {ty : Ty} (i o : Nat) (hx : A.op fr x = .ptr tg off) (he : off = i * E.size + o) (hc : A.tag tg = some (.vec E Tb xs)) (h1 : gE tg) (hT : T.eN[ty']? = some ti) (ha : ti.k.agg = false) (hi : i < xs.length) (hl : (E.tys (nth xs i))[o]? = some ty)
 (h : bA P fr ops rest (A.set d ty) fun A' l => K A' ((A, { d := some d, ty := ty, rs := cJ x, rt := [tg] }) :: l)) : bA P fr ops (⟨some d, .load ty' x, t, p, e, none⟩ :: rest) A K :=
 xL (by rw [hx, he]) hc h1 hT ha hi hl h
theorem nv {α : Type} [Inhabited α] {E : El α} {xs : List α} {x y : Operand} {tg off Tb : Nat} {ti : TI} {ty : Ty} {z : α} (i o : Nat) (hx : A.op fr x = .ptr tg off) (he : off = i * E.size + o) (hc : A.tag tg = some (.vec E Tb xs)) (h1 : gE tg) (hT : T.eN[ty']? = some ti) (hsz : ti.size = 1) (hy : A.op fr y = ty) (ho : ty.one = true) (hi : i < xs.length) (hoe : o < E.size)
 (hdt : k7 ty.cdeps [tg] = true) (hl : (E.tys (nth xs i)).set o ty = E.tys z)
 (h : bA P fr ops rest (A.after { d := none, S := [tg], sets := [(tg, .vec E Tb (xs.set i z))], rs := cJ x ++ cJ y, rt := [tg] }) fun A' l'' => K A' ((A, { d := none, S := [tg], sets := [(tg, .vec E Tb (xs.set i z))], rs := cJ x ++ cJ y, rt := [tg] }) :: l'')) :
 bA P fr ops (⟨none, .store ty' x y, t, p, e, none⟩ :: rest) A K :=
 pG (by rw [hx, he]) hc h1 hT hsz hy ho hi hoe hdt hl h
variable {α : Type} {E : El α} {Tb J tg i : Nat} {q : List (List α)} {xs : List α}
theorem EX [Inhabited α] {x : Operand} {k j : Nat} {ti : TI} (hx : A.op fr x = .me E Tb tg J i xs k) (hk : k = j * E.size) (hT : T.eN[ty']? = some ti) (ha : ti.k.agg = true) (hsz : ti.size = E.size) (hj : j < xs.length)
 (h : bA P fr ops rest (A.set d (.agg (E.tys (nth xs j)))) fun A' l => K A' ((A, { d := some d, ty := .agg (E.tys (nth xs j)), rs := cJ x }) :: l)) : bA P fr ops (⟨some d, .load ty' x, t, p, e, none⟩ :: rest) A K :=
 bJ (bT rfl rfl fun a w M wf hr ht => by
  have hdx := cV (x := x) (fun _ h => h) hr
  rw [hx] at hdx
  obtain ⟨u, g, off, n, c, ⟨h1, _⟩, eu, ex⟩ := hdx
  rcases h1 with ⟨h0, _⟩ | ⟨g', off', c', cur, ex', hg, hh, hn, _, _, hd⟩
  ·subst h0; simp at hj
  rw [eu] at ex'
  simp only [Value.slice.injEq, Option.some.injEq, Addr.mk.injEq, and_true] at ex'
  obtain ⟨⟨rfl, rfl⟩, rfl, rfl⟩ := ex'
  obtain ⟨cs, g1, g2, g3⟩ := rQ (l := E.tys (nth xs j)) (b := g) (q := off + j * E.size) (off := 0) (n := ti.size) (m := E.tys (nth xs j)) (fun o t ho => z5 hh hd hj ho) (by rw [List.drop_zero, hsz, ← E.len (nth xs j), List.take_length]) (by rw [E.len, hsz])
  subst hk
  exact ⟨.agg cs.toArray, by simp only [execOp, ex]; rw [Sem.run_bind, iJ (off := off + j * E.size) hT ha g1 (by simpa using g3)]; rfl, cs.toArray, rfl, by simpa using g2⟩) h
theorem lR {x y : Operand} {kd : IntKind} {tg o n r el : Nat} {j : Int} {ti te : TI} (hx : A.op fr x = .win tg o n r) (hy : A.op fr y = .int kd j) (hT : T.eN[ty']? = some ti) (hk : ti.k = .slice el) (hE : T.eN[el]? = some te) (hs : te.size = 1) (h0 : 0 ≤ j) (hj : j.toNat < n)
 (h : bA P fr ops rest (A.set d (.ptr tg (o + j.toNat))) fun A' l' => K A' ((A, { d := some d, ty := .ptr tg (o + j.toNat), rs := cJ x ++ cJ y }) :: l')) : bA P fr ops (⟨some d, .indexAddr ty' x y, t, p, e, none⟩ :: rest) A K :=
 vK (j := j.toNat) hx (by rw [hy, Int.toNat_of_nonneg h0]) hT hk hE hs hj h
theorem DZ {x y : Operand} {k j T2 : Nat} {ti : TI} {z : α} (hx : A.op fr x = .me E Tb tg J i xs k) (hk : k = j * E.size) (hc : A.tag tg = some (.mx E T2 Tb J q)) (h1 : gE tg) (hT : T.eN[ty']? = some ti) (hsz : ti.size = E.size) (hy : A.op fr y = .agg (E.tys z)) (hi : i < q.length) (hj : j < xs.length) (hJ : 4096 ≤ J)
 (h : bA P fr ops rest (A.after { d := none, S := [tg, J], sets := [(tg, .mx E T2 Tb J (q.set i (xs.set j z)))], rs := cJ x ++ cJ y, rt := [tg] }) fun A' l'' => K A' ((A, { d := none, S := [tg, J], sets := [(tg, .mx E T2 Tb J (q.set i (xs.set j z)))], rs := cJ x ++ cJ y, rt := [tg] }) :: l'')) :
 bA P fr ops (⟨none, .store ty' x y, t, p, e, none⟩ :: rest) A K := by
 refine ⟨_, l7 rfl rfl rfl (by simp) (by simp; exact ⟨h1.1, by omega⟩) (by simp) fun a w M wf hr ht => ?_, h⟩
 subst hk
 obtain ⟨hdx, hdy⟩ := op2 hr
 rw [hx] at hdx; rw [hy] at hdy
 obtain ⟨u, g, off, n, c, ⟨hrow, hlk⟩, eu, ex⟩ := hdx
 obtain ⟨vs, ey, hvs⟩ := hdy
 have hcont : QA E T2 Tb J q w M tg := ht _ (cj hc) (by simp)
 have hown := PB wf h1 hi hcont hlk
 obtain ⟨b, cs, hb, hhb, hvals, hap⟩ := hcont
 rcases hrow with ⟨h0, _⟩ | ⟨g', off', c', cur, ex', hg, hh, hn, hcm, hfit, hd⟩
 ·subst h0; simp at hj
 have eu2 := eu
 rw [ex'] at eu2
 simp only [Value.slice.injEq, Option.some.injEq, Addr.mk.injEq, and_true] at eu2
 obtain ⟨⟨rfl, rfl⟩, rfl, rfl⟩ := eu2
 have hvl : vs.size = E.size := by have := cW hvs; rw [E.len] at this; simpa using this
 have hkx : j * E.size + E.size ≤ xs.length * E.size := by
  have : (j + 1) * E.size ≤ xs.length * E.size := Nat.mul_le_mul_right _ hj
  rw [Nat.succ_mul] at this; omega
 have hcx : xs.length * E.size ≤ c' * E.size := Nat.mul_le_mul_right _ hn
 have hones : ∀ v ∈ vs.toList, v.oneCell' = true := kO hvs (fun t ht => lY E [z] t (by simpa using ht))
 have hst := run_storeCells_at (P := P) g' (off' + j * E.size) Tb vs.toList 0 cur w hh (by simp [hvl]; omega) hones
 rw [n4 _ hh] at hst
 obtain ⟨cur', ecur⟩ : ∃ cur' : Array Value, cur' = (cur.toList.take (off' + j * E.size + 0) ++ vs.toList ++ cur.toList.drop (off' + j * E.size + 0 + vs.toList.length)).toArray := ⟨_, rfl⟩
 rw [← ecur] at hst
 obtain ⟨h1', h2', h3'⟩ := kZ (cs' := cur') (Tb := Tb) wf hg _ rfl
 have hgb : g' ≠ b := fun e => by
  rw [e, hb] at hg; injection hg with hg
  have := h1.2; omega
 have hvl' : vs.toList.length = E.size := by rw [Array.length_toList, hvl]
 have hcl : cur.toList.length = cur.size := Array.length_toList
 have hsz' : cur'.size = cur.size := by
  have : cur'.toList.length = cur.toList.length := by
   rw [ecur]
   show (_ ++ _ ++ _ : List Value).length = _
   rw [List.length_append, List.length_append, List.length_take, List.length_drop, hvl']; omega
  simpa using this
 have le : Le (· ∈ [tg, J]) (· ∈ ([] : List Nat)) w M { w with heap := w.heap.setIfInBounds g' (.cells cur' Tb (0, 0)) } M :=
  h2'.weaken (fun u hu => by simp only [List.mem_singleton] at hu; subst hu; simp) (fun _ h => by cases h)
 have hoth : ∀ k2, k2 ≠ g' → (w.heap.setIfInBounds g' (.cells cur' Tb (0, 0)))[k2]? = w.heap[k2]? := fun k2 hne => by
  rw [Array.getElem?_setIfInBounds_ne (Ne.symm hne)]
 refine ⟨_, ?_, M, h1', le, trivial, ?_⟩
 ·simp only [execOp, Instr.storeAt, Instr.sureAddr, ex, ey, storeVar, Value.cells, dO hT, Sem.run_bind, Sem.run_pure, Result.andThen_ok, hsz, hvl, hst]
  simp [hst]
 intro z' hz'
 simp only [List.mem_singleton] at hz'
 subst hz'
 refine ⟨b, cs, hb, (hoth b (Ne.symm hgb)).trans hhb, ?_, by rw [List.length_set]; exact hap⟩
 rw [List.length_set]
 refine fm (by rw [cW hvals, List.length_map, List.length_map, List.length_set]) fun j2 ty2 hj2 => ?_
 rw [List.getElem?_map] at hj2
 obtain ⟨qe, hqe, rfl⟩ := Option.map_eq_some_iff.1 hj2
 rw [List.getElem?_set] at hqe
 by_cases hji : i = j2
 ·subst hji
  rw [if_pos rfl, if_pos hi] at hqe
  injection hqe with hqe
  subst hqe
  obtain ⟨b', cs', T', k1, k2, k3⟩ := hlk
  obtain ⟨uu, hu'⟩ : ∃ u, tg = u + 1 := ⟨tg - 1, by have := h1.1; omega⟩
  have : b = b' := wf.inj b b' uu (by have := h1.2; omega) (hu' ▸ hb) (hu' ▸ k1)
  subst this
  rw [hhb] at k2
  injection k2 with k2
  injection k2 with k2 _
  subst k2
  refine ⟨u, by rw [List.getElem?_take, if_pos hi]; exact k3, .inr ⟨g', off', c', cur', by rw [List.length_set]; exact ex', hg, h3', by rw [List.length_set]; exact hn, hcm, by rw [hsz']; exact hfit, ?_⟩⟩
  have hN : (xs.flatMap E.tys).length = xs.length * E.size := c6 E xs
  have hp := E2 (ys := [z]) (vs := vs.toList) (i := j) (cur := cur.toList.drop off') (xs := xs) (w := w) (M := M) (by rw [hN]; exact hd) (by simpa using hvs) (by show j + 1 ≤ _; omega)
  rw [zP hj, c6, List.length_set, hvl'] at hp
  rw [List.length_set]
  have e1 : cur'.toList.drop off' = (cur.toList.drop off').take (j * E.size) ++ vs.toList ++ (cur.toList.drop off').drop (j * E.size + E.size) := by
   rw [ecur]
   show (_ ++ _ ++ _ : List Value).drop off' = _
   rw [List.append_assoc, List.drop_append_of_le_length (by rw [List.length_take]; omega), List.drop_take, List.drop_drop, hvl', ← List.append_assoc]
   congr 2
   ·congr 1; omega
   omega
  rw [e1]
  exact bl h2' (by rw [E.cY]; intro _ h; cases h) (by rw [E.cS]; intro _ h; cases h) hp
 rw [if_neg hji] at hqe
 obtain ⟨u2, hu2, hdu⟩ := dW hvals j2 (Ty.ff E Tb J qe) (by rw [List.getElem?_map, hqe]; rfl)
 refine ⟨u2, hu2, ?_⟩
 rcases hdu with h | ⟨g2, off2, c2, cur2, e2, hg2, hh2, m1, m2, m3, m4⟩
 ·exact .inl h
 have hgg : g2 ≠ g' := fun e => by
  obtain ⟨b', cs', T', k1, k2, k3⟩ := hown g' (off' + xs.length * E.size) (by rw [ex']; rfl)
  obtain ⟨uu, hu'⟩ : ∃ u, tg = u + 1 := ⟨tg - 1, by have := h1.1; omega⟩
  have : b = b' := wf.inj b b' uu (by have := h1.2; omega) (hu' ▸ hb) (hu' ▸ k1)
  subst this
  rw [hhb] at k2
  injection k2 with k2
  injection k2 with k2 _
  subst k2
  exact hji (k3 j2 u2 (off2 + qe.length * E.size) hu2 (by rw [e2, e]; rfl)).1.symm
 exact .inr ⟨g2, off2, c2, cur2, e2, hg2, (hoth g2 hgg).trans hh2, m1, m2, m3, bl h2' (by rw [E.cY]; intro _ h; cases h) (by rw [E.cS]; intro _ h; cases h) m4⟩
end
end Go.T
namespace Go.Proofs.YtelbollidfdcjaaGreat
open Go Go.T
set_option maxHeartbeats 8000000
def rL (y : au) (is : Bool) (b m w x : Nat) : List Ty := [Ty.bool is, Ty.vs b y.bins.length, Ty.vs m y.moves.length, Ty.vs w (y.D + 1), Ty.vs x 256]
section
variable {y : au} {a : dZ} {f : nX} {s : Span} {n : Int} {is : Bool} {t k b i : Nat}
theorem Oa (h : (!is) = true) : (⟨n, n⟩ : Span) = lC s n is := by
 unfold lC; rw [if_neg (by simpa using h)]
theorem Nd (h : (!is) = false) : (⟨min s.lo n, max s.hi n⟩ : Span) = lC s n is := by
 unfold lC; rw [if_pos (by simpa using h)]
theorem He (hb : k < y.bins.length) (ht : t ≤ y.D) : (ke y a f t k).set k ((nth (ke y a f t k) k).set t (lC (nth (nth (ke y a f t k) k) t) (ct y a (k : Nat) (t : Nat)) f.fits)) = ke y a f t (k + 1) := by
 rw [KC hb ht]; exact LN hb ht
theorem GW (ht : t ≤ y.D) (h : k = y.bins.length) : (qx y a f t).set t (lC (nth (qx y a f t) t) (tS y a t k) f.fits) = qx y a f (t + 1) := by
 subst h
 rw [Ir ht]; exact Lx ht
theorem Hw (hk : k < y.moves.length) : (r7 y a f k).set k (lC (nth (r7 y a f k) k) (nth a.cC k) f.fits) = r7 y a f (k + 1) := by
 rw [Ke hk]; exact Jd hk
theorem Gd : 0 = tS y a t 0 := rfl
theorem zj : tS y a t k + ct y a (k : Nat) (t : Nat) = tS y a t (k + 1) := rfl
theorem CO (hr : y.bt) (h : pV y a) (hb : b < y.bins.length) : -3000 ≤ ct y a (b : Nat) (t : Nat) ∧ ct y a (b : Nat) (t : Nat) ≤ 3300 := by
 rw [nS]; exact Lg hr h hb
theorem Fu (hr : y.bt) (h : pV y a) : ∀ k, k ≤ y.bins.length → -(3000 * (k : Int)) ≤ tS y a t k ∧ tS y a t k ≤ 3300 * k
  | 0, _ => by show _ ≤ (0 : Int) ∧ (0 : Int) ≤ _; omega
  | k + 1, hk => by
    have ih := Fu hr h k (by omega)
    have := CO (t := t) hr h (show k < y.bins.length by omega)
    rw [← zj]; omega
theorem uz {now : List Int} : (now.drop 0).take y.bins.length = (dx y now).first := rfl
theorem vL {now : List Int} (h : now.length = y.bins.length + y.moves.length) : (now.drop y.bins.length).take y.moves.length = (dx y now).cC := List.take_of_length_le (by rw [List.length_drop]; omega)
theorem Rh (h : i < y.moves.length) {now : List Int} : nth now (y.bins.length + i) = nth (dx y now).cC i := lf.symm
end
attribute [local irreducible] ct ke qx r7 tS dx lC
attribute [local irreducible] gL eX lN nh gy g6 gu gw gx nj gr ni dN fX nH fu nZ nth fP dQ bA dJ bodyPost Exit.then Exit.inBlock Code.wp Code.wpIn nW g7 nY nV g8 eP cL cM bodyPostM dR
attribute [local irreducible] QA Qu RW vM NZ
set_option maxRecDepth 100000 in
theorem Av (s : Span) (n : Int) (is : Bool) : dJ Tryz.prog 166 [Ty.agg (bw.tys s), Ty.int .i64 n, Ty.bool is] (Ty.agg (bw.tys (lC s n is))) := by
 refine ak Tryz.func166 rfl (by decide) Tryz.ntmps166 (by exact Nat.le_of_ble_eq_true rfl) fun w0 M0 => ?_
 refine aE (aA (bD rfl ?_))
 refine bu rfl (by exact List.cons_ne_nil _ _) rfl ?_
 refine aD (aC (aE (aE (aA (eO rfl (dm rfl (aD (aC ?_))))))))
 refine cH rfl (fun hc1 => ?_) (fun hc1 => ?_)
 ·
  refine aE (aA (bF rfl (bF rfl ?_)))
  refine dI rfl rfl (by exact List.cons_ne_nil _ _) rfl (by repeat (first | exact (aV.nil : aV _ _ [] _) | (show aV _ _ ((_, _) :: _) _; apply aV.one; (· exact (rfl : _ = Ty.int _ _)); (· exact rfl)))) (by exact (rfl : _ = some [_, _])) ?_
  refine bh rfl rfl (by decide) rfl rfl rfl rfl rfl rfl ?_
  refine aD (aC (az (aQ ?_)))
  refine lO rfl rfl rfl rfl (by decide) rfl rfl rfl ?_
  all_goals exact av rfl rfl (congrArg (fun z => Ty.agg (bw.tys z)) (Oa hc1))
 refine aj (aC (aE (aA ?_)))
 refine aL rfl rfl rfl rfl rfl (by decide) ?_
 refine aJ rfl rfl rfl rfl (bF rfl (Jz rfl rfl ?_))
 refine aL rfl rfl rfl rfl rfl (by decide) ?_
 refine aJ rfl rfl rfl rfl (bF rfl (CW rfl rfl ?_))
 refine dI rfl rfl (by exact List.cons_ne_nil _ _) rfl (by repeat (first | exact (aV.nil : aV _ _ [] _) | (show aV _ _ ((_, _) :: _) _; apply aV.one; (· exact (rfl : _ = Ty.int _ _)); (· exact rfl)))) (by exact (rfl : _ = some [_, _])) ?_
 refine bh rfl rfl (by decide) rfl rfl rfl rfl rfl rfl ?_
 refine aD (aC (az ?_))
 refine lO rfl rfl rfl rfl (by decide) rfl rfl rfl ?_
 all_goals exact av rfl rfl (congrArg (fun z => Ty.agg (bw.tys z)) (Nd hc1))
set_option maxRecDepth 100000 in
theorem RM (y : au) (hr : y.bt) (now : List Int) (ha : pV y (dx y now)) (hnl : now.length = y.bins.length + y.moves.length) (f : nX) (hf : f.Shape y) : eP Tryz.prog 99 [1000, 1001, 1002, 1003, 1004, 1005, 5000] [(1000, Cont.cells 66 (rL y f.fits 1001 1002 1003 1004)), (1001, Cont.mx bw 43 37 5000 f.bins), (1002, Cont.vec bw 37 f.moves), (1003, Cont.vec bw 37 f.whole), (1004, Cont.vec eZ 4 f.missed), (1005, Cont.vec cT 3 now)] [dr y, Ty.agg [Ty.win 1005 0 y.bins.length y.moves.length, Ty.win 1005 y.bins.length y.moves.length 0], Ty.ptr 1000 0] [(1000, Cont.cells 66 (rL y true 1001 1002 1003 1004)), (1001, Cont.mx bw 43 37 5000 (tT y (dx y now) f).bins), (1002, Cont.vec bw 37 (tT y (dx y now) f).moves), (1003, Cont.vec bw 37 (tT y (dx y now) f).whole), (1004, Cont.vec eZ 4 f.missed), (1005, Cont.vec cT 3 now)] (Ty.j8 []) := by
 refine fS Tryz.func99 rfl (by decide) Tryz.ntmps99 (by exact Nat.le_of_ble_eq_true rfl) fun w0 M0 => ?_
 have hyb := hr.bins
 have hyd := hr.days
 have hym := hr.moves
 have hD := D_eq hr
 have hams : QZ y (dx y now) := ⟨by have := ha.lens.cC; omega, by have := ha.lens.cC; omega, fun x hx => by have := ha.first x hx; omega, fun x hx => by have := ha.cC x hx; omega⟩
 have hfl := ha.lens.first
 have hml := ha.lens.cC
 have hwl := hf.whole
 have hmvl := hf.moves
 refine aE (aA (bD rfl (bD rfl (aD (aC (aE (aE (aA (bZ rfl ?_)))))))))
 refine aD (aC (aY ?_))
 refine b9 (fun (t : {t : Nat // t ≤ y.D + 1}) => live [(2, Ty.ptr 1000 0), (3, Ty.pp (bE y)), (4, Ty.pp [Ty.win 1005 0 y.bins.length y.moves.length, Ty.win 1005 y.bins.length y.moves.length 0]), (6, Ty.int .i64 (t.1 : Nat))] [(1000, Cont.cells 66 (rL y f.fits 1001 1002 1003 1004)), (1001, Cont.mx bw 43 37 5000 (ke y (dx y now) f t.1 0)), (1002, Cont.vec bw 37 f.moves), (1003, Cont.vec bw 37 (qx y (dx y now) f t.1)), (1004, Cont.vec eZ 4 f.missed), (1005, Cont.vec cT 3 now)]) (fun t => y.D + 1 - t.1) (⟨0, by omega⟩) ?_ fun t => ?_
 ·(refine cg.mk' ?_ ?_ <;> (repeat' (first | exact aI | exact aH | refine aB ?_ (Ty.aT _) | refine aB ?_ (Ty.aF _) | refine aG rfl (Cont.aF _) ?_ | refine aG rfl ?_ ?_)))
  all_goals first | exact Cont.p4 (G3 hf) | exact Cont.cy (HJ hf)
 have ht := t.2
 refine aE (aE (aA (bF rfl ?_)))
 refine aL rfl rfl rfl rfl rfl (by decide) ?_
 refine aJ rfl rfl rfl rfl (bB rfl rfl rfl (aD (aC ?_)))
 refine ah rfl (fun hc1 => ?_) (fun hc1 => ?_)
 ·
  refine aj (aC (aE (aY (aE (aA (bZ rfl (aD (aC (aE ?_)))))))))
  refine aE (aA (bZ rfl (aD (aC (aY ?_)))))
  refine b9 (fun (b : {b : Nat // b ≤ y.bins.length}) => live [(2, Ty.ptr 1000 0), (3, Ty.pp (bE y)), (4, Ty.pp [Ty.win 1005 0 y.bins.length y.moves.length, Ty.win 1005 y.bins.length y.moves.length 0]), (6, Ty.int .i64 (t.1 : Nat)), (7, Ty.int .i64 (tS y (dx y now) t.1 b.1)), (8, Ty.int .i64 (b.1 : Nat))] [(1000, Cont.cells 66 (rL y f.fits 1001 1002 1003 1004)), (1001, Cont.mx bw 43 37 5000 (ke y (dx y now) f t.1 b.1)), (1002, Cont.vec bw 37 f.moves), (1003, Cont.vec bw 37 (qx y (dx y now) f t.1)), (1004, Cont.vec eZ 4 f.missed), (1005, Cont.vec cT 3 now)]) (fun b => y.bins.length - b.1) (⟨0, by omega⟩) ?_ fun b => ?_
  ·(refine cg.mk' ?_ ?_ <;> (repeat' (first | exact aI | exact aH | refine aB ?_ (Ty.aT _) | refine aB ?_ (Ty.aF _) | refine aG rfl (Cont.aF _) ?_ | refine aB ?_ ?_)))
   all_goals exact Ty.bN Gd
  have hb := b.2
  have hsi := Fu (t := t.1) hr ha b.1 hb
  have hbl := Cq (y := y) (a := (dx y now)) (f := f) (t := t.1) (k := b.1)
  have hwl2 := CF (y := y) (a := (dx y now)) (f := f) (t := t.1)
  refine aE (aE (aA (bF rfl ?_)))
  refine aL rfl rfl rfl rfl rfl (by decide) ?_
  refine aJ rfl rfl rfl rfl (cD rfl rfl rfl (bB rfl rfl rfl (aD (aC ?_))))
  refine ah rfl (fun hc2 => ?_) (fun hc2 => ?_)
  ·
   refine aj (aC (aE (aY (aE ?_))))
   have hb2 : b.1 < y.bins.length := by omega
   have hci := CO (t := t.1) hr ha hb2
   have hrow := B6 (a := (dx y now)) (f := f) (t := t.1) (k := b.1) hb2
   refine aA ?_
   refine aX rfl rfl rfl (by exact Nat.le_of_ble_eq_true rfl) ?_
   refine aX rfl rfl rfl (by exact Nat.le_of_ble_eq_true rfl) ?_
   refine bF rfl (bF rfl ?_)
   refine eM [1005] (IZ y (dx y now) hams ((b.1 : Nat) : Int) ((t.1 : Nat) : Int) (Int.natCast_nonneg _) (by omega)) rfl (aW (bU (bV rfl rfl)) (aW (zy (aW (qa (xs := now) (o := 0) rfl rfl uz (by omega) (by decide) rfl) (aW (qa (xs := now) (o := y.bins.length) rfl rfl (vL hnl) (by omega) (by decide) rfl) cR))) (aW (bU (bV rfl rfl)) (aW (bU (bV rfl rfl)) cR)))) (by exact dc _ _) ?_
   refine bZ rfl (aD (aC (aE (aA (bF rfl (bF rfl ?_))))))
   refine bq rfl rfl (by omega) (by omega) ?_
   refine bZ rfl (aD (aC (cP mixed rfl (L3 rfl (cZ rfl ?_)))))
   refine aS rfl rfl rfl rfl rfl (by decide) ?_
   refine aZ rfl rfl (by decide) rfl rfl rfl ?_
   refine bF rfl ?_
   refine dP rfl rfl rfl rfl rfl (by omega) ?_
   refine zV b.1 rfl (by exact Nat.mul_one _) rfl (by decide) rfl rfl (by omega) ?_
   refine bF rfl (L3 rfl (cZ rfl ?_))
   refine aS rfl rfl rfl rfl rfl (by decide) ?_
   refine aZ rfl rfl (by decide) rfl rfl rfl ?_
   refine bF rfl ?_
   refine dP rfl rfl rfl rfl rfl (by omega) ?_
   refine zV b.1 rfl (by exact Nat.mul_one _) rfl (by decide) rfl rfl (by omega) ?_
   refine bF rfl ?_
   refine wY (j := t.1) rfl rfl rfl rfl rfl (by omega) ?_
   refine EX (j := t.1) rfl rfl rfl rfl rfl (by omega) ?_
   refine bF rfl (L3 rfl (cZ rfl ?_))
   refine aS rfl rfl rfl rfl rfl (by decide) ?_
   refine aZ rfl rfl (by decide) rfl rfl rfl ?_
   refine af (Av _ _ _) rfl rfl rfl rfl rfl ?_
   refine wY (j := t.1) rfl rfl rfl rfl rfl (by omega) ?_
   refine DZ (j := t.1) (i := b.1) rfl rfl rfl (by decide) rfl rfl rfl (by omega) (by omega) (by decide) ?_
   refine aD ?_
   refine ⟨by kernel_rfl, ?_⟩
   refine bI (aC (aA (bF rfl ?_)))
   refine bq rfl rfl (by omega) (by omega) ?_
   refine bZ rfl (aD ?_)
   refine bM (⟨b.1 + 1, by omega⟩) ?_ (by show y.bins.length - (b.1 + 1) < y.bins.length - b.1; omega)
   (refine cg.mk' ?_ ?_ <;> (repeat' (first | exact aI | exact aH | refine aB ?_ (Ty.aT _) | refine aB ?_ (Ty.aF _) | refine aG rfl (Cont.aF _) ?_ | refine aG rfl ?_ ?_ | refine aB ?_ ?_)))
   all_goals skip
   all_goals first | exact Cont.p4 (He (by omega) (by omega)) | exact Ty.bN zj
  refine bz (aP (aP (aa rfl (aC (cP mixed rfl (L3 rfl (cZ rfl ?_)))))))
  refine aS rfl rfl rfl rfl rfl (by decide) ?_
  refine aZ rfl rfl (by decide) rfl rfl rfl ?_
  refine bF rfl (L3 rfl (cZ rfl ?_))
  refine aS rfl rfl rfl rfl rfl (by decide) ?_
  refine aZ rfl rfl (by decide) rfl rfl rfl ?_
  refine bF rfl ?_
  refine dP rfl rfl rfl rfl rfl (by omega) ?_
  refine lB t.1 rfl rfl rfl (by decide) rfl rfl rfl (by omega) ?_
  refine bF rfl (L3 rfl (cZ rfl ?_))
  refine aS rfl rfl rfl rfl rfl (by decide) ?_
  refine aZ rfl rfl (by decide) rfl rfl rfl ?_
  refine af (Av _ _ _) rfl rfl rfl rfl rfl ?_
  refine dP rfl rfl rfl rfl rfl (by omega) ?_
  refine n7 t.1 rfl rfl rfl (by decide) rfl rfl rfl (by omega) ?_
  refine aD ?_
  refine ⟨by kernel_rfl, ?_⟩
  refine bI (aC (aA (bF rfl ?_)))
  refine bq rfl rfl (by omega) (by omega) ?_
  refine bZ rfl (aD ?_)
  refine bM (⟨t.1 + 1, by omega⟩) ?_ (by show y.D + 1 - (t.1 + 1) < y.D + 1 - t.1; omega)
  (refine cg.mk' ?_ ?_ <;> (repeat' (first | exact aI | exact aH | refine aB ?_ (Ty.aT _) | refine aB ?_ (Ty.aF _) | refine aG rfl (Cont.aF _) ?_ | refine aG rfl ?_ ?_)))
  all_goals skip
  all_goals first | exact Cont.p4 (Hl (by have := b.2; omega)) | exact Cont.cy (GW (by omega) (by have := b.2; omega))
 refine bz (aP (aP (aa rfl (aC (aE (aE (aA (bZ rfl (aD ?_)))))))))
 refine aC (aY ?_)
 refine b9 (fun (i : {i : Nat // i ≤ y.moves.length}) => live [(2, Ty.ptr 1000 0), (3, Ty.pp (bE y)), (4, Ty.pp [Ty.win 1005 0 y.bins.length y.moves.length, Ty.win 1005 y.bins.length y.moves.length 0]), (10, Ty.int .i64 (i.1 : Nat))] [(1000, Cont.cells 66 (rL y f.fits 1001 1002 1003 1004)), (1001, Cont.mx bw 43 37 5000 (tT y (dx y now) f).bins), (1002, Cont.vec bw 37 (r7 y (dx y now) f i.1)), (1003, Cont.vec bw 37 (tT y (dx y now) f).whole), (1004, Cont.vec eZ 4 f.missed), (1005, Cont.vec cT 3 now)]) (fun i => y.moves.length - i.1) (⟨0, by omega⟩) ?_ fun i => ?_
 ·(refine cg.mk' ?_ ?_ <;> (repeat' (first | exact aI | exact aH | refine aB ?_ (Ty.aT _) | refine aB ?_ (Ty.aF _) | refine aG rfl (Cont.aF _) ?_ | refine aG rfl ?_ ?_)))
  all_goals first | exact Cont.cy (HD hf) | exact Cont.p4 (by rw [show t.1 = y.D + 1 by have := t.2; omega]; rfl) | exact Cont.cy (by rw [show t.1 = y.D + 1 by have := t.2; omega]; rfl)
 have hi := i.2
 have hmt := Cu (y := y) (a := (dx y now)) (f := f) (k := i.1)
 refine aE (aE (aA (bF rfl ?_)))
 refine aL rfl rfl rfl rfl rfl (by decide) ?_
 refine aJ rfl rfl rfl rfl (cD rfl rfl rfl (bB rfl rfl rfl (aD (aC ?_))))
 refine ah rfl (fun hc3 => ?_) (fun hc3 => ?_)
 ·
  refine aj (aC (aE (aY ?_)))
  have hi2 : i.1 < y.moves.length := by omega
  refine cP mixed rfl (L3 rfl (cZ rfl ?_))
  refine aS rfl rfl rfl rfl rfl (by decide) ?_
  refine aZ rfl rfl (by decide) rfl rfl rfl ?_
  refine bF rfl (L3 rfl (cZ rfl ?_))
  refine aS rfl rfl rfl rfl rfl (by decide) ?_
  refine aZ rfl rfl (by decide) rfl rfl rfl ?_
  refine bF rfl ?_
  refine dP rfl rfl rfl rfl rfl (by omega) ?_
  refine lB i.1 rfl rfl rfl (by decide) rfl rfl rfl (by omega) ?_
  refine aL rfl rfl rfl rfl rfl (by decide) ?_
  refine aJ rfl rfl rfl rfl (bF rfl ?_)
  refine vK (j := i.1) rfl rfl rfl rfl rfl rfl hi2 ?_
  refine pq (E := cT) (y.bins.length + i.1) 0 (ty := Ty.int .i64 (nth (dx y now).cC i.1)) rfl (by show _ = _ * 1 + 0; omega) rfl (by decide) rfl rfl (by omega) (by rw [Rh hi2]; rfl) ?_
  refine L3 rfl (cZ rfl ?_)
  refine aS rfl rfl rfl rfl rfl (by decide) ?_
  refine aZ rfl rfl (by decide) rfl rfl rfl ?_
  refine af (Av _ _ _) rfl rfl rfl rfl rfl ?_
  refine dP rfl rfl rfl rfl rfl (by omega) ?_
  refine n7 i.1 rfl rfl rfl (by decide) rfl rfl rfl (by omega) ?_
  refine aD ?_
  refine ⟨by kernel_rfl, ?_⟩
  refine bI (aC (aA (bF rfl ?_)))
  refine bq rfl rfl (by omega) (by omega) ?_
  refine bZ rfl (aD ?_)
  refine bM (⟨i.1 + 1, by omega⟩) ?_ (by show y.moves.length - (i.1 + 1) < y.moves.length - i.1; omega)
  (refine cg.mk' ?_ ?_ <;> (repeat' (first | exact aI | exact aH | refine aB ?_ (Ty.aT _) | refine aB ?_ (Ty.aF _) | refine aG rfl (Cont.aF _) ?_ | refine aG rfl ?_ ?_)))
  all_goals skip
  all_goals exact Cont.cy (Hw (by omega))
 refine bz (aP (aP (aa rfl (aC (aA (L3 rfl (cZ rfl ?_)))))))
 refine aS rfl rfl rfl rfl rfl (by decide) ?_
 refine cv rfl rfl (by decide) rfl rfl (by exact (rfl : _ = Ty.bool _)) rfl (by exact Nat.le_of_ble_eq_true rfl) rfl rfl (by exact rfl) ?_
 refine aD (N3 ?_)
 refine JM [1000, 1001, 1002, 1003, 1004, 1005, 5000] rfl (by decide) ?_
 ·exact eG rfl (gm (by decide) (aN (aN (aN (aN (aN bX (dg (by decide))) (dg (by decide))) (dg (by decide))) (dg (by decide))) (aU rfl rfl))) (eG rfl (I4 (by decide) (by decide) rfl) (eG rfl (bp (by decide) (by rw [show i.1 = y.moves.length by have := i.2; omega]; rfl)) (eG rfl (bp (by decide) rfl) (eG rfl (bp (by decide) rfl) (eG rfl (bp (by decide) rfl) gS)))))
 skip
end Go.Proofs.YtelbollidfdcjaaGreat
namespace Go.Proofs.YtelbollidfdcjaaGreat
open Go Go.T
set_option maxHeartbeats 8000000
def uw : El (List Span) := El.mk' 1 (fun x => [Ty.sl bw x]) (fun _ => rfl) (fun _ => ⟨rfl, rfl, rfl⟩)
def SG : zF (List Span) := zF.Ej uw bw 37 (fun _ => rfl) rfl
def tX (f : nX) : List Ty := [Ty.bool f.fits, Ty.sl uw f.bins, Ty.sl bw f.moves, Ty.sl bw f.whole, Ty.sl eZ f.missed]
def Il (y : au) : List Span := List.replicate (y.D + 1) ⟨0, 0⟩
section
variable {y : au} {k i : Nat} {f : nX}
theorem I7 {α : Type} {z z' : α} (h : z' = z) : List.replicate k z ++ [z'] = List.replicate (k + 1) z := by subst h; exact List.replicate_succ'.symm
theorem Cj (hr : y.bt) : 0 < dB (cr y) (dF y) := size_pos (gR hr)
theorem HZ (hr : y.bt) : cr y = dS y 0 := by
 unfold dS
 rw [if_pos (Cj hr)]
 have hl := Ev (gR hr)
 have h := wP (gR hr) hl
 rw [Aa (gR hr)] at h
 exact h.symm
theorem HW : cr y = dS y (dB (cr y) (dF y)) := by unfold dS; rw [if_neg (Nat.lt_irrefl _)]
theorem RC (hr : y.bt) (hk : k < dB (cr y) (dF y)) (hi : 0 < i) (hin : i ≤ (dS y k).length) (he : (dS y k).drop i = (dF y).drop i) (hn : nth (dS y k) (i - 1) ≠ nth (dF y) (i - 1)) : k + 1 < dB (cr y) (dF y) ∧ (j5 (cr y) (dS y k) i).set (i - 1) (nth (dS y k) (i - 1) + 1) = dS y (k + 1) := by
 have e : IP (cr y) (dF y) k = dS y k := by unfold dS; rw [if_pos hk]
 obtain ⟨j, rfl⟩ : ∃ j, i = j + 1 := ⟨i - 1, by omega⟩
 obtain ⟨a, b⟩ := Mj (gR hr) hk e (i := j) (by omega) he hn
 refine ⟨a, ?_⟩
 have e2 : dS y (k + 1) = IP (cr y) (dF y) (k + 1) := by unfold dS; rw [if_pos a]
 rw [e2]; exact b
theorem Qq (hr : y.bt) (hk : k < dB (cr y) (dF y)) (he : (dS y k).drop 0 = (dF y).drop 0) : k + 1 = dB (cr y) (dF y) ∧ j5 (cr y) (dS y k) 0 = dS y (k + 1) := by
 have e : IP (cr y) (dF y) k = dS y k := by unfold dS; rw [if_pos hk]
 have h := Nj (gR hr) hk (e.trans he)
 exact ⟨h, by rw [h]; exact HW⟩
theorem yH (hi : 0 < i) (hin : i ≤ (dS y k).length) : nth (j5 (cr y) (dS y k) i) (i - 1) = nth (dS y k) (i - 1) := by
 obtain ⟨j, rfl⟩ : ∃ j, i = j + 1 := ⟨i - 1, by omega⟩
 exact NO (by omega)
theorem Ka (hr : y.bt) (hi : 0 < i) (hin : i ≤ (dS y k).length) : (j5 (cr y) (dS y k) i).set (i - 1) (nth (cr y) (i - 1)) = j5 (cr y) (dS y k) (i - 1) := by
 obtain ⟨j, rfl⟩ : ∃ j, i = j + 1 := ⟨i - 1, by omega⟩
 exact Mb (by rw [pI hr, ga]) (by omega)
theorem HH (hr : y.bt) (hi : 0 < i) (hin : i ≤ (dS y k).length) (he : (dS y k).drop i = (dF y).drop i) (hn : nth (dS y k) (i - 1) = nth (dF y) (i - 1)) : (dS y k).drop (i - 1) = (dF y).drop (i - 1) := by
 obtain ⟨j, rfl⟩ : ∃ j, i = j + 1 := ⟨i - 1, by omega⟩
 exact JZ (by rw [pI hr, nJ]) (by omega) he hn
theorem NU (hr : y.bt) (hi : i < y.bins.length + y.moves.length) : 0 ≤ nth (dS y k) i ∧ nth (dS y k) i ≤ 300 := by
 have h := xZ (k := k) hr
 have hl := pI (k := k) hr
 by_cases c : i < y.bins.length
 ·have := h.first _ (cX (show i < (jC y k).first.length by rw [h.lens.first]; exact c))
  have e : nth (jC y k).first i = nth (dS y k) i := zL c
  rw [e] at this; exact this
 obtain ⟨j, rfl⟩ : ∃ j, i = y.bins.length + j := ⟨i - y.bins.length, by omega⟩
 have := h.cC _ (cX (show j < (jC y k).cC.length by rw [h.lens.cC]; omega))
 have e : nth (jC y k).cC j = nth (dS y k) (y.bins.length + j) := lf
 rw [e] at this; exact this
theorem JU (h : i < y.bins.length) : (cr y).take i ++ [(nth y.bins i).first.lo] = (cr y).take (i + 1) := by
 rw [cQ (by rw [ga]; omega), Dv h]
theorem J5 (h : i < y.bins.length) : (dF y).take i ++ [(nth y.bins i).first.hi] = (dF y).take (i + 1) := by
 rw [cQ (by rw [nJ]; omega), EV h]
theorem Lv (h : i < y.moves.length) : (cr y).take (y.bins.length + i) ++ [(nth y.moves i).sacks.lo] = (cr y).take (y.bins.length + (i + 1)) := by
 rw [show y.bins.length + (i + 1) = y.bins.length + i + 1 by omega, cQ (by rw [ga]; omega), EH h]
theorem KH (h : i < y.moves.length) : (dF y).take (y.bins.length + i) ++ [(nth y.moves i).sacks.hi] = (dF y).take (y.bins.length + (i + 1)) := by
 rw [show y.bins.length + (i + 1) = y.bins.length + i + 1 by omega, cQ (by rw [nJ]; omega), Ed h]
theorem Gp : (gF y).bins = List.replicate y.bins.length (Il y) := rfl
theorem w9 (h : ¬ 0 ≤ dy y (dx y (dS y k))) : eK y k = eK y (k + 1) := AZ (Int.not_le.1 h)
theorem pL (h : 0 ≤ dy y (dx y (dS y k))) (h0 : ¬ dy y (dx y (dS y k)) = 0) : jt y (jC y k) (eK y k) = eK y (k + 1) := uM (Int.not_lt.2 h) h0
theorem sL (h0 : dy y (dx y (dS y k)) = 0) : tT y (jC y k) (jt y (jC y k) (eK y k)) = eK y (k + 1) := wg h0
theorem Nl (h : 0 ≤ dy y (dx y (dS y k))) (h0 : ¬ dy y (dx y (dS y k)) = 0) : (eK y k).fits = (eK y (k + 1)).fits := by show (jt y (jC y k) (eK y k)).fits = _; exact congrArg nX.fits (pL h h0)
theorem M7 (h : 0 ≤ dy y (dx y (dS y k))) (h0 : ¬ dy y (dx y (dS y k)) = 0) : (eK y k).bins = (eK y (k + 1)).bins := by show (jt y (jC y k) (eK y k)).bins = _; exact congrArg nX.bins (pL h h0)
theorem Jm (h : 0 ≤ dy y (dx y (dS y k))) (h0 : ¬ dy y (dx y (dS y k)) = 0) : (eK y k).moves = (eK y (k + 1)).moves := by show (jt y (jC y k) (eK y k)).moves = _; exact congrArg nX.moves (pL h h0)
theorem Ii (h : 0 ≤ dy y (dx y (dS y k))) (h0 : ¬ dy y (dx y (dS y k)) = 0) : (eK y k).whole = (eK y (k + 1)).whole := by show (jt y (jC y k) (eK y k)).whole = _; exact congrArg nX.whole (pL h h0)
theorem G0 (h0 : dy y (dx y (dS y k)) = 0) : (jt y (jC y k) (eK y k)).missed = (eK y (k + 1)).missed := by show (tT y (jC y k) (jt y (jC y k) (eK y k))).missed = _; exact congrArg nX.missed (sL h0)
theorem MU (h : (y.days + 1).toNat = y.D + 1) : List.replicate (y.days + 1).toNat (⟨0, 0⟩ : Span) = Il y := by rw [h]; rfl
theorem Jr {tg o o' n n' r r' : Nat} (h1 : o = o') (h2 : n = n') (h3 : r = r') : Ty.win tg o n r = Ty.win tg o' n' r' := by subst h1; subst h2; subst h3; rfl
end
attribute [local irreducible] ct ke qx r7 tS lC dy dS cr dF j5 dB Il
attribute [local irreducible] gL eX lN nh gy g6 gu gw gx nj gr ni dN fX nH fu nZ nth fP dQ bA dJ bodyPost Exit.then Exit.inBlock Code.wp Code.wpIn nW g7 nY nV g8 eP cL cM bodyPostM dR
attribute [local irreducible] QA Qu RW vM NZ Ft RY
set_option maxRecDepth 100000 in
theorem RD (y : au) (hr : y.bt) : dJ Tryz.prog 32 [dr y] (Ty.agg (tX (oG y))) := by
 refine ak Tryz.func32 rfl (by decide) Tryz.ntmps32 (by exact Nat.le_of_ble_eq_true rfl) fun w0 M0 => ?_
 have hyb := hr.bins
 have hyd := hr.days
 have hym := hr.moves
 have hD := D_eq hr
 have hll := ga (y := y)
 have hhl := nJ (y := y)
 have hDn : (y.days + 1).toNat = y.D + 1 := by omega
 have hMn : ((y.moves.length : Int)).toNat = y.moves.length := Int.toNat_natCast _
 have hsz := Cj hr
 refine aE (aA (bD rfl ?_))
 refine bu rfl (by exact List.cons_ne_nil _ _) rfl ?_
 refine aD (aC (aE (aA ?_)))
 refine qo (E := eZ) (x0 := false) rfl rfl rfl rfl rfl rfl rfl (by decide) rfl (by omega) (by (dsimp only; omega)) (by omega) ?_
 refine dI rfl rfl (by exact List.cons_ne_nil _ _) rfl (by repeat (first | exact (aV.nil : aV _ _ [] _) | (show aV _ _ ((_, _) :: _) _; apply aV.one; (· exact (rfl : _ = Ty.vs _ _)); (· exact rfl)))) (by exact rfl) ?_
 refine bu rfl (by exact List.cons_ne_nil _ _) rfl ?_
 refine bh rfl rfl (by decide) rfl rfl rfl rfl rfl rfl ?_
 refine aD (aC (aE (aE (aA (bZ rfl (aD (aC (aY ?_))))))))
 refine b9 (fun (b : {b : Nat // b ≤ y.bins.length}) => live [(1, Ty.pp (bE y)), (2, Ty.ptr 3 0), (3, Ty.ptr 4 0), (4, Ty.int .i64 (b.1 : Nat))] [(3, Cont.cells 66 [Ty.bool false, Ty.ex (.slice none 0 0), Ty.ex (.slice none 0 0), Ty.ex (.slice none 0 0), Ty.ex (.slice none 0 0)]), (4, Cont.cells 66 [Ty.bool false, Ty.yS SG 43 81 5000 (List.replicate b.1 (Il y)), Ty.ex (.slice none 0 0), Ty.ex (.slice none 0 0), Ty.vs 15 256]), (15, Cont.vec eZ 4 (List.replicate 256 false))]) (fun b => y.bins.length - b.1) (⟨0, by omega⟩) ?_ fun b => ?_
 ·(refine cg.mk' ?_ ?_ <;> (repeat' (first | exact aI | exact aH | exact dH | refine aB ?_ (Ty.aT _) | refine aB ?_ (Ty.aF _) | refine aG rfl (Cont.aF _) ?_ | refine aG rfl (Cont.dG ?_) ?_ | refine bS ?_ (Ty.aF _) | refine bS ?_ ?_)))
  all_goals exact Ty.Iz
 have hb := b.2
 refine aE (aE (aA (bF rfl ?_)))
 refine aL rfl rfl rfl rfl rfl (by decide) ?_
 refine aJ rfl rfl rfl rfl (cD rfl rfl rfl (bB rfl rfl rfl (aD (aC ?_))))
 refine ah rfl (fun hc1 => ?_) (fun hc1 => ?_)
 ·
  refine aj (aC (aE (aY (cP mixed rfl ?_))))
  refine aS rfl rfl rfl rfl rfl (by decide) ?_
  refine aZ rfl rfl (by decide) rfl rfl rfl ?_
  refine aL rfl rfl rfl rfl rfl (by decide) ?_
  refine aJ rfl rfl rfl rfl ?_
  refine bq rfl rfl (by omega) (by omega) ?_
  refine M6 (E := bw) (x0 := ⟨0, 0⟩) rfl rfl rfl rfl rfl rfl rfl (by decide) rfl (by omega) (by (dsimp only; omega)) (by omega) ?_
  refine Gy rfl rfl rfl rfl (by decide) (by decide) (by repeat (first | exact (aV.nil : aV _ _ [] _) | (show aV _ _ ((_, _) :: _) _; apply aV.one; (· exact (rfl : _ = Ty.row _ _ _ _)); (· exact rfl)))) (by exact rfl) ?_
  refine Gc (List.replicate (y.days + 1).toNat ⟨0, 0⟩) rfl rfl BL (by decide) (by decide) (by decide) (by decide) rfl rfl rfl rfl rfl rfl rfl (by decide) rfl rfl rfl (by (simp <;> omega)) (by (simp <;> omega)) ?_
  refine aS rfl rfl rfl rfl rfl (by decide) ?_
  refine cv rfl rfl (by decide) rfl rfl (by exact (rfl : _ = Ty.yS _ _ _ _ _)) rfl (by exact Nat.le_of_ble_eq_true rfl) rfl rfl (by exact rfl) ?_
  refine aD ?_
  refine ⟨by kernel_rfl, ?_⟩
  refine bI (aC (aA (bF rfl ?_)))
  refine bq rfl rfl (by omega) (by omega) ?_
  refine bZ rfl (aD ?_)
  refine bM (⟨b.1 + 1, by omega⟩) ?_ (by show y.bins.length - (b.1 + 1) < y.bins.length - b.1; omega)
  (refine cg.mk' ?_ ?_ <;> (repeat' (first | exact aI | exact aH | exact dH | refine aB ?_ (Ty.aT _) | refine aB ?_ (Ty.aF _) | refine aG rfl (Cont.aF _) ?_ | refine aG rfl (Cont.dG ?_) ?_ | refine bS ?_ (Ty.aF _) | refine bS ?_ ?_)))
  all_goals skip
  all_goals exact Ty.Lc (I7 (MU hDn))
 refine bz (aP (aP (aa rfl (aC (aE ?_)))))
 obtain ⟨b, hb⟩ := b
 obtain rfl : b = y.bins.length := by have h1 : ¬ (b : Int) < (y.bins.length : Int) := hc1; have h2 : b ≤ y.bins.length := hb; omega
 refine Lt (ER := uw) (E := bw) (T := 37) (T2 := 43) (J := 5000) (tg := 81) (c0 := 4) (q := List.replicate y.bins.length (Il y)) 1 rfl rfl (by rw [List.length_replicate]; omega) ?_
 refine jk (tg := 4) rfl (Cont.kF (l' := [Ty.bool false, Ty.vs 81 y.bins.length, Ty.ex (.slice none 0 0), Ty.ex (.slice none 0 0), Ty.vs 15 256]) ⟨Ty.aF _, Ty.NW List.length_replicate, Ty.aF _, Ty.aF _, Ty.aF _, trivial⟩) ?_
 refine cP mixed rfl ?_
 refine aL rfl rfl rfl rfl rfl (by decide) ?_
 refine aJ rfl rfl rfl rfl (cD rfl rfl rfl ?_)
 refine qo (E := bw) (x0 := ⟨0, 0⟩) rfl rfl rfl rfl rfl rfl rfl (by decide) rfl (by omega) (by (dsimp only; omega)) (by omega) ?_
 refine aL rfl rfl rfl rfl rfl (by decide) ?_
 refine aJ rfl rfl rfl rfl ?_
 refine bq rfl rfl (by omega) (by omega) ?_
 refine qo (E := bw) (x0 := ⟨0, 0⟩) rfl rfl rfl rfl rfl rfl rfl (by decide) rfl (by omega) (by (dsimp only; omega)) (by omega) ?_
 refine aS rfl rfl rfl rfl rfl (by decide) ?_
 refine cv rfl rfl (by decide) rfl rfl (by exact (rfl : _ = Ty.vs _ _)) rfl (by exact Nat.le_of_ble_eq_true rfl) rfl rfl (by exact rfl) ?_
 refine aS rfl rfl rfl rfl rfl (by decide) ?_
 refine cv rfl rfl (by decide) rfl rfl (by exact (rfl : _ = Ty.vs _ _)) rfl (by exact Nat.le_of_ble_eq_true rfl) rfl rfl (by exact rfl) ?_
 refine aD ?_
 refine ⟨by kernel_rfl, ?_⟩
 refine aC (aE ?_)
 refine jk (tg := 81) rfl (Cont.p4 (Gp (y := y)).symm) ?_
 refine jk (tg := 4) rfl (Cont.kF (l' := rL y false 81 36 40 15) ⟨Ty.aF _, Ty.aF _, Ty.sub_eq (congrArg (Ty.vs 36) hMn), Ty.sub_eq (congrArg (Ty.vs 40) hDn), Ty.aF _, trivial⟩) ?_
 refine jk (tg := 36) rfl (Cont.cy (congrArg (fun n => List.replicate n (⟨0, 0⟩ : Span)) hMn)) ?_
 refine jk (tg := 40) rfl (Cont.cy (congrArg (fun n => List.replicate n (⟨0, 0⟩ : Span)) hDn)) ?_
 refine iQ (B := live [(1, Ty.pp (bE y)), (2, Ty.ptr 3 0), (3, Ty.ptr 4 0)] [(3, Cont.cells 66 [Ty.bool false, Ty.ex (.slice none 0 0), Ty.ex (.slice none 0 0), Ty.ex (.slice none 0 0), Ty.ex (.slice none 0 0)]), (4, Cont.cells 66 (rL y (gF y).fits 81 36 40 15)), (81, Cont.mx bw 43 37 5000 (gF y).bins), (36, Cont.vec bw 37 (gF y).moves), (40, Cont.vec bw 37 (gF y).whole), (15, Cont.vec eZ 4 (gF y).missed)]) ?_ ?_
 ·refine cg.mk' ?_ ?_
  ·(repeat (first | refine aB ?_ (Ty.aT _) | refine aB ?_ (Ty.aF _))); exact aI
  refine aG rfl (Cont.aF _) ?_; refine aG rfl (Cont.aF _) ?_; refine aG rfl (Cont.aF _) ?_; refine aG rfl (Cont.aF _) ?_; refine aG rfl (Cont.aF _) ?_; refine aG rfl (Cont.aF _) ?_; exact aH
 refine aA (lE rfl (lE rfl (lE rfl (aD (aC (aE (aE (aA (bZ rfl ?_)))))))))
 refine aD (aC (aY ?_))
 refine b9 (fun (b : {b : Nat // b ≤ y.bins.length}) => live [(1, Ty.pp (bE y)), (2, Ty.ptr 3 0), (3, Ty.ptr 4 0), (5, Ty.row cT 3 60 ((cr y).take b.1)), (6, Ty.row cT 3 61 ((dF y).take b.1)), (7, Ty.ex (.slice none 0 0)), (8, Ty.int .i64 (b.1 : Nat))] [(3, Cont.cells 66 [Ty.bool false, Ty.ex (.slice none 0 0), Ty.ex (.slice none 0 0), Ty.ex (.slice none 0 0), Ty.ex (.slice none 0 0)]), (4, Cont.cells 66 (rL y (gF y).fits 81 36 40 15)), (81, Cont.mx bw 43 37 5000 (gF y).bins), (36, Cont.vec bw 37 (gF y).moves), (40, Cont.vec bw 37 (gF y).whole), (15, Cont.vec eZ 4 (gF y).missed)]) (fun b => y.bins.length - b.1) (⟨0, by omega⟩) ?_ fun b => ?_
 ·(refine cg.mk' ?_ ?_ <;> (repeat' (first | exact aI | exact aH | refine aB ?_ (Ty.aT _) | refine aB ?_ (Ty.aF _) | refine aB ?_ Ty.gZ | refine aG rfl (Cont.aF _) ?_)))
  all_goals trace_state
 have hb := b.2
 have htl : ((cr y).take b.1).length = b.1 := by rw [List.length_take]; omega
 have hth : ((dF y).take b.1).length = b.1 := by rw [List.length_take]; omega
 refine aE (aE (aA (bF rfl ?_)))
 refine aL rfl rfl rfl rfl rfl (by decide) ?_
 refine aJ rfl rfl rfl rfl (cD rfl rfl rfl (bB rfl rfl rfl (aD (aC ?_))))
 refine ah rfl (fun hc2 => ?_) (fun hc2 => ?_)
 ·
  refine aj (aC (aE (aY (cP mixed rfl (Eb rfl ?_)))))
  refine aL rfl rfl rfl rfl rfl (by decide) ?_
  refine aJ rfl rfl rfl rfl (bF rfl ?_)
  refine aq rfl rfl rfl rfl rfl rfl (by omega) ?_
  refine aL rfl rfl rfl rfl rfl (by decide) ?_
  refine aL rfl rfl rfl rfl rfl (by decide) ?_
  refine aJ rfl rfl rfl rfl ?_
  refine bW (E := cT) (xs := [(nth y.bins b.1).first.lo]) rfl rfl rfl rfl rfl (by decide) (by decide) (by repeat (first | exact (aV.nil : aV _ _ [] _) | (show aV _ _ ((_, _) :: _) _; apply aV.one; (· exact (rfl : _ = Ty.int _ _)); (· exact rfl)))) (by exact rfl) rfl ?_
  refine dj rfl rfl (by decide) rfl rfl rfl rfl rfl rfl (by decide) (by (simp <;> omega)) (by (simp <;> omega)) ?_
  refine Eb rfl ?_
  refine aL rfl rfl rfl rfl rfl (by decide) ?_
  refine aJ rfl rfl rfl rfl (bF rfl ?_)
  refine aq rfl rfl rfl rfl rfl rfl (by omega) ?_
  refine aL rfl rfl rfl rfl rfl (by decide) ?_
  refine aL rfl rfl rfl rfl rfl (by decide) ?_
  refine aJ rfl rfl rfl rfl ?_
  refine bW (E := cT) (xs := [(nth y.bins b.1).first.hi]) rfl rfl rfl rfl rfl (by decide) (by decide) (by repeat (first | exact (aV.nil : aV _ _ [] _) | (show aV _ _ ((_, _) :: _) _; apply aV.one; (· exact (rfl : _ = Ty.int _ _)); (· exact rfl)))) (by exact rfl) rfl ?_
  refine dj rfl rfl (by decide) rfl rfl rfl rfl rfl rfl (by decide) (by (simp <;> omega)) (by (simp <;> omega)) ?_
  refine yW rfl (yW rfl (aD ?_))
  refine ⟨by kernel_rfl, ?_⟩
  refine bI (aC (aA (bF rfl ?_)))
  refine bq rfl rfl (by omega) (by omega) ?_
  refine bZ rfl (aD ?_)
  refine bM (⟨b.1 + 1, by omega⟩) ?_ (by show y.bins.length - (b.1 + 1) < y.bins.length - b.1; omega)
  (refine cg.mk' ?_ ?_ <;> (repeat' (first | exact aI | exact aH | refine aB ?_ (Ty.aT _) | refine aB ?_ (Ty.aF _) | refine aG rfl (Cont.aF _) ?_ | refine aB ?_ ?_)))
  all_goals skip
  all_goals first | exact Ty.eU (JU (by omega)) | exact Ty.eU (J5 (by omega))
 refine bz (aP (aP (aa rfl (aC (aE (aE (aA (bZ rfl (aD ?_)))))))))
 refine aC (aY ?_)
 refine b9 (fun (m : {m : Nat // m ≤ y.moves.length}) => live [(1, Ty.pp (bE y)), (2, Ty.ptr 3 0), (3, Ty.ptr 4 0), (5, Ty.row cT 3 60 ((cr y).take (y.bins.length + m.1))), (6, Ty.row cT 3 61 ((dF y).take (y.bins.length + m.1))), (7, Ty.ex (.slice none 0 0)), (9, Ty.int .i64 (m.1 : Nat))] [(3, Cont.cells 66 [Ty.bool false, Ty.ex (.slice none 0 0), Ty.ex (.slice none 0 0), Ty.ex (.slice none 0 0), Ty.ex (.slice none 0 0)]), (4, Cont.cells 66 (rL y (gF y).fits 81 36 40 15)), (81, Cont.mx bw 43 37 5000 (gF y).bins), (36, Cont.vec bw 37 (gF y).moves), (40, Cont.vec bw 37 (gF y).whole), (15, Cont.vec eZ 4 (gF y).missed)]) (fun m => y.moves.length - m.1) (⟨0, by omega⟩) ?_ fun m => ?_
 ·(refine cg.mk' ?_ ?_ <;> (repeat' (first | exact aI | exact aH | refine aB ?_ (Ty.aT _) | refine aB ?_ (Ty.aF _) | refine aG rfl (Cont.aF _) ?_ | refine aB ?_ ?_)))
  all_goals exact Ty.eU (by rw [show b.1 = y.bins.length + 0 by have := b.2; omega])
 have hm := m.2
 have htl : ((cr y).take (y.bins.length + m.1)).length = y.bins.length + m.1 := by rw [List.length_take]; omega
 have hth : ((dF y).take (y.bins.length + m.1)).length = y.bins.length + m.1 := by rw [List.length_take]; omega
 refine aE (aE (aA (bF rfl ?_)))
 refine aL rfl rfl rfl rfl rfl (by decide) ?_
 refine aJ rfl rfl rfl rfl (cD rfl rfl rfl (bB rfl rfl rfl (aD (aC ?_))))
 refine ah rfl (fun hc3 => ?_) (fun hc3 => ?_)
 ·
  refine aj (aC (aE (aY (cP mixed rfl (Eb rfl ?_)))))
  refine aL rfl rfl rfl rfl rfl (by decide) ?_
  refine aJ rfl rfl rfl rfl (bF rfl ?_)
  refine aq rfl rfl rfl rfl rfl rfl (by omega) ?_
  refine aL rfl rfl rfl rfl rfl (by decide) ?_
  refine aL rfl rfl rfl rfl rfl (by decide) ?_
  refine aJ rfl rfl rfl rfl ?_
  refine bW (E := cT) (xs := [(nth y.moves m.1).sacks.lo]) rfl rfl rfl rfl rfl (by decide) (by decide) (by repeat (first | exact (aV.nil : aV _ _ [] _) | (show aV _ _ ((_, _) :: _) _; apply aV.one; (· exact (rfl : _ = Ty.int _ _)); (· exact rfl)))) (by exact rfl) rfl ?_
  refine dj rfl rfl (by decide) rfl rfl rfl rfl rfl rfl (by decide) (by (simp <;> omega)) (by (simp <;> omega)) ?_
  refine Eb rfl ?_
  refine aL rfl rfl rfl rfl rfl (by decide) ?_
  refine aJ rfl rfl rfl rfl (bF rfl ?_)
  refine aq rfl rfl rfl rfl rfl rfl (by omega) ?_
  refine aL rfl rfl rfl rfl rfl (by decide) ?_
  refine aL rfl rfl rfl rfl rfl (by decide) ?_
  refine aJ rfl rfl rfl rfl ?_
  refine bW (E := cT) (xs := [(nth y.moves m.1).sacks.hi]) rfl rfl rfl rfl rfl (by decide) (by decide) (by repeat (first | exact (aV.nil : aV _ _ [] _) | (show aV _ _ ((_, _) :: _) _; apply aV.one; (· exact (rfl : _ = Ty.int _ _)); (· exact rfl)))) (by exact rfl) rfl ?_
  refine dj rfl rfl (by decide) rfl rfl rfl rfl rfl rfl (by decide) (by (simp <;> omega)) (by (simp <;> omega)) ?_
  refine yW rfl (yW rfl (aD ?_))
  refine ⟨by kernel_rfl, ?_⟩
  refine bI (aC (aA (bF rfl ?_)))
  refine bq rfl rfl (by omega) (by omega) ?_
  refine bZ rfl (aD ?_)
  refine bM (⟨m.1 + 1, by omega⟩) ?_ (by show y.moves.length - (m.1 + 1) < y.moves.length - m.1; omega)
  (refine cg.mk' ?_ ?_ <;> (repeat' (first | exact aI | exact aH | refine aB ?_ (Ty.aT _) | refine aB ?_ (Ty.aF _) | refine aG rfl (Cont.aF _) ?_ | refine aB ?_ ?_)))
  all_goals skip
  all_goals first | exact Ty.eU (Lv (by omega)) | exact Ty.eU (KH (by omega))
 refine bz (aP (aP (aa rfl (aC (aE ?_)))))
 refine iC (s := 5) rfl (Ty.eU (List.take_of_length_le (by have := m.2; omega))) ?_
 refine iC (s := 6) rfl (Ty.eU (List.take_of_length_le (by have := m.2; omega))) ?_
 refine k8 (tg := 60) [(5, Ty.sl cT (cr y))] (by decide) rfl ⟨vw rfl, trivial⟩ ?_
 refine k8 (tg := 61) [(6, Ty.sl cT (dF y))] (by decide) rfl ⟨vw rfl, trivial⟩ ?_
 refine iC (s := 7) (ty' := Ty.row cT 3 62 []) rfl Ty.gZ ?_
 refine iQ (B := live [(1, Ty.pp (bE y)), (2, Ty.ptr 3 0), (3, Ty.ptr 4 0), (5, Ty.sl cT (cr y)), (6, Ty.sl cT (dF y)), (7, Ty.row cT 3 62 [])] [(3, Cont.cells 66 [Ty.bool false, Ty.ex (.slice none 0 0), Ty.ex (.slice none 0 0), Ty.ex (.slice none 0 0), Ty.ex (.slice none 0 0)]), (4, Cont.cells 66 (rL y (gF y).fits 81 36 40 15)), (81, Cont.mx bw 43 37 5000 (gF y).bins), (36, Cont.vec bw 37 (gF y).moves), (40, Cont.vec bw 37 (gF y).whole), (15, Cont.vec eZ 4 (gF y).missed)]) ?_ ?_
 ·refine cg.mk' ?_ ?_
  ·(repeat (first | refine aB ?_ (Ty.aT _) | refine aB ?_ (Ty.aF _))); exact aI
  refine aG rfl (Cont.aF _) ?_; refine aG rfl (Cont.aF _) ?_; refine aG rfl (Cont.aF _) ?_; refine aG rfl (Cont.aF _) ?_; refine aG rfl (Cont.aF _) ?_; refine aG rfl (Cont.aF _) ?_; exact aH
 refine aA (Eb rfl (eA rfl ?_))
 refine dj rfl rfl (by decide) rfl rfl rfl rfl rfl rfl (by decide) (by (simp <;> omega)) (by (simp <;> omega)) ?_
 refine yW rfl (aD (aC (aE (aE ?_))))
 refine iC (s := 7) (ty' := Ty.row cT 3 62 (dS y 0)) rfl (Ty.eU (HZ hr)) ?_
 refine RE (s := 7) (tg := 62) rfl rfl ?_
 refine iC (s := 7) (ty' := Ty.win 62 0 (y.bins.length + y.moves.length) 0) rfl (by rw [pI hr]; exact Ty.Ox (by omega)) ?_
 refine iQ (B := live [(1, Ty.pp (bE y)), (2, Ty.ptr 3 0), (3, Ty.ptr 4 0), (5, Ty.sl cT (cr y)), (6, Ty.sl cT (dF y)), (7, Ty.win 62 0 (y.bins.length + y.moves.length) 0)] [(3, Cont.cells 66 [Ty.bool false, Ty.ex (.slice none 0 0), Ty.ex (.slice none 0 0), Ty.ex (.slice none 0 0), Ty.ex (.slice none 0 0)]), (4, Cont.cells 66 (rL y (gF y).fits 81 36 40 15)), (81, Cont.mx bw 43 37 5000 (gF y).bins), (36, Cont.vec bw 37 (gF y).moves), (40, Cont.vec bw 37 (gF y).whole), (15, Cont.vec eZ 4 (gF y).missed), (62, Cont.vec cT 3 (dS y 0))]) ?_ ?_
 ·refine cg.mk' ?_ ?_
  ·(repeat (first | refine aB ?_ (Ty.aT _) | refine aB ?_ (Ty.aF _))); exact aI
  refine aG rfl (Cont.aF _) ?_; refine aG rfl (Cont.aF _) ?_; refine aG rfl (Cont.aF _) ?_; refine aG rfl (Cont.aF _) ?_; refine aG rfl (Cont.aF _) ?_; refine aG rfl (Cont.aF _) ?_; refine aG rfl (Cont.aF _) ?_; exact aH
 refine aA (cm rfl (aD (aC (aY ?_))))
 refine b9 (fun (k : {k : Nat // k ≤ dB (cr y) (dF y)}) => live [(1, Ty.pp (bE y)), (2, Ty.ptr 3 0), (3, Ty.ptr 4 0), (5, Ty.sl cT (cr y)), (6, Ty.sl cT (dF y)), (7, Ty.win 62 0 (y.bins.length + y.moves.length) 0), (10, Ty.bool (decide (k.1 < dB (cr y) (dF y))))] [(3, Cont.cells 66 [Ty.bool false, Ty.ex (.slice none 0 0), Ty.ex (.slice none 0 0), Ty.ex (.slice none 0 0), Ty.ex (.slice none 0 0)]), (4, Cont.cells 66 (rL y (eK y k.1).fits 81 36 40 15)), (81, Cont.mx bw 43 37 5000 (eK y k.1).bins), (36, Cont.vec bw 37 (eK y k.1).moves), (40, Cont.vec bw 37 (eK y k.1).whole), (15, Cont.vec eZ 4 (eK y k.1).missed), (62, Cont.vec cT 3 (dS y k.1))]) (fun k => dB (cr y) (dF y) - k.1) (⟨0, by omega⟩) ?_ fun k => ?_
 ·(refine cg.mk' ?_ ?_ <;> (repeat' (first | exact aI | exact aH | refine aB ?_ (Ty.aT _) | refine aB ?_ (Ty.aF _) | refine aG rfl (Cont.aF _) ?_ | refine aB ?_ ?_)))
  all_goals exact Ty.c9 (decide_eq_true hsz).symm
 have hk := k.2
 have hnl := pI (k := k.1) hr
 have hsm := xZ (k := k.1) hr
 have hsh := mC (y := y) k.1
 have hmsl := hsh.missed
 refine aE (aE (aA (eO rfl (aD (aC ?_)))))
 refine ah rfl (fun hc4 => ?_) (fun hc4 => ?_)
 ·
  refine aj (aC (aY (aE ?_)))
  have hkl : k.1 < dB (cr y) (dF y) := hc4
  refine cP mixed rfl (Gr rfl ?_)
  refine aL rfl rfl rfl rfl rfl (by decide) ?_
  refine aJ rfl rfl rfl rfl (cD rfl rfl rfl ?_)
  refine LD rfl rfl rfl rfl rfl rfl (by omega) ?_
  refine Gr rfl ?_
  refine aL rfl rfl rfl rfl rfl (by decide) ?_
  refine aJ rfl rfl rfl rfl (cD rfl rfl rfl ?_)
  refine Kr rfl rfl rfl rfl rfl rfl (by omega) ?_
  refine dI rfl rfl (by exact List.cons_ne_nil _ _) rfl (by repeat (first | exact (aV.nil : aV _ _ [] _) | (show aV _ _ ((_, _) :: _) _; apply aV.one; (· exact (rfl : _ = Ty.win _ _ _ _)); (· exact rfl)))) (by exact (rfl : _ = some [_, _])) ?_
  refine bu rfl (by exact List.cons_ne_nil _ _) rfl ?_
  refine bh rfl rfl (by decide) rfl rfl rfl rfl rfl rfl ?_
  refine aD ?_
  refine ⟨by kernel_rfl, ?_⟩
  refine aC ?_
  refine j4 (J := live [(1, Ty.pp (bE y)), (2, Ty.ptr 3 0), (3, Ty.ptr 4 0), (5, Ty.sl cT (cr y)), (6, Ty.sl cT (dF y)), (7, Ty.win 62 0 (y.bins.length + y.moves.length) 0)] [(3, Cont.cells 66 [Ty.bool false, Ty.ex (.slice none 0 0), Ty.ex (.slice none 0 0), Ty.ex (.slice none 0 0), Ty.ex (.slice none 0 0)]), (4, Cont.cells 66 (rL y (eK y (k.1 + 1)).fits 81 36 40 15)), (81, Cont.mx bw 43 37 5000 (eK y (k.1 + 1)).bins), (36, Cont.vec bw 37 (eK y (k.1 + 1)).moves), (40, Cont.vec bw 37 (eK y (k.1 + 1)).whole), (15, Cont.vec eZ 4 (eK y (k.1 + 1)).missed), (62, Cont.vec cT 3 (dS y k.1))]) ?_ ?_
  ·
   refine aE ?_
   refine jk (tg := 12) rfl (Cont.kF (l' := [Ty.win 62 0 y.bins.length y.moves.length, Ty.win 62 y.bins.length y.moves.length 0]) ⟨Ty.sub_eq (Jr (by omega) (by omega) (by omega)), Ty.sub_eq (Jr (by omega) (by omega) (by omega)), trivial⟩) ?_
   refine aA ?_
   refine aX rfl rfl rfl (by exact Nat.le_of_ble_eq_true rfl) ?_
   refine bg rfl rfl (by decide) rfl rfl (by exact Nat.le_of_ble_eq_true rfl) ?_
   refine eM [62] (Jj y (dx y (dS y k.1)) hr hsm) rfl (aW (bU (bV rfl rfl)) (aW (zy (aW (qa (xs := dS y k.1) (o := 0) rfl rfl uz (by omega) (by decide) rfl) (aW (qa (xs := dS y k.1) (o := y.bins.length) rfl rfl (vL hnl) (by omega) (by decide) rfl) cR))) cR)) (by exact dc _ _) ?_
   refine bZ rfl (aD (aC (aE (aA (bF rfl (bB rfl rfl rfl (aD (aC ?_))))))))
   refine ah rfl (fun hc5 => ?_) (fun hc5 => ?_)
   ·
    refine aE ?_
    have hm0 : 0 ≤ dy y (dx y (dS y k.1)) := hc5
    have hm1 : dy y (dx y (dS y k.1)) < 256 := ME hr
    refine aA ?_
    refine aS rfl rfl rfl rfl rfl (by decide) ?_
    refine aZ rfl rfl (by decide) rfl rfl rfl ?_
    refine bF rfl ?_
    refine gO rfl rfl rfl rfl rfl hm0 (by omega) ?_
    refine nv (dy y (dx y (dS y k.1))).toNat 0 (z := true) rfl (by show _ * 1 = _ * 1 + 0; omega) rfl (by decide) rfl rfl rfl rfl (by omega) (by decide) rfl rfl ?_
    refine aD (aC (aE (aA (bF rfl (bB rfl rfl rfl (aD (aC ?_)))))))
    refine ah rfl (fun hc6 => ?_) (fun hc6 => ?_)
    ·
     refine aA ?_
     refine aX rfl rfl rfl (by exact Nat.le_of_ble_eq_true rfl) ?_
     refine bg rfl rfl (by decide) rfl rfl (by exact Nat.le_of_ble_eq_true rfl) ?_
     refine dL (res' := Ty.j8 []) [(4, 1000), (81, 1001), (36, 1002), (40, 1003), (15, 1004), (62, 1005), (5000, 5000)] [] [(4, Cont.cells 66 (rL y true 81 36 40 15)), (81, Cont.mx bw 43 37 5000 (tT y (dx y (dS y k.1)) (jt y (jC y k.1) (eK y k.1))).bins), (36, Cont.vec bw 37 (tT y (dx y (dS y k.1)) (jt y (jC y k.1) (eK y k.1))).moves), (40, Cont.vec bw 37 (tT y (dx y (dS y k.1)) (jt y (jC y k.1) (eK y k.1))).whole), (15, Cont.vec eZ 4 (jt y (jC y k.1) (eK y k.1)).missed), (62, Cont.vec cT 3 (dS y k.1))] (RM y hr (dS y k.1) hsm hnl (jt y (jC y k.1) (eK y k.1)) (rX hsh)) rfl rfl (aN (aN (aN bX (jg (by decide))) (Ob (aN (aN bX (Jb (by decide))) (Jb (by decide))))) (aU rfl rfl)) (dA (a := 4) (b := 1000) (by decide) rfl (gm (by decide) (aN (aN (aN (aN (aN bX (dg (by decide))) (dg (by decide))) (dg (by decide))) (dg (by decide))) (aU rfl rfl))) (dA (a := 81) (b := 1001) (by decide) rfl (I4 (by decide) (by decide) rfl) (dA (a := 36) (b := 1002) (by decide) rfl (bp (by decide) rfl) (dA (a := 40) (b := 1003) (by decide) rfl (bp (by decide) rfl) (dA (a := 15) (b := 1004) (by decide) rfl (bp (by decide) rfl) (dA (a := 62) (b := 1005) (by decide) rfl (bp (by decide) rfl) pre_nil)))))) (bk (a := 4) (b := 1000) (by decide) rfl (gm (by decide) (aN (aN (aN (aN (aN bX (dg (by decide))) (dg (by decide))) (dg (by decide))) (dg (by decide))) (aU rfl rfl))) (bk (a := 81) (b := 1001) (by decide) rfl (I4 (by decide) (by decide) rfl) (bk (a := 36) (b := 1002) (by decide) rfl (bp (by decide) rfl) (bk (a := 40) (b := 1003) (by decide) rfl (bp (by decide) rfl) (bk (a := 15) (b := 1004) (by decide) rfl (bp (by decide) rfl) (bk (a := 62) (b := 1005) (by decide) rfl (bp (by decide) rfl) post_nil)))))) (aU rfl rfl) ?_
     refine aD (eW ?_)
     (refine cg.mk' ?_ ?_ <;> (repeat' (first | exact aI | exact aH | exact dH | refine aB ?_ (Ty.aT _) | refine aB ?_ (Ty.aF _) | refine aG rfl (Cont.aF _) ?_ | refine aG rfl (Cont.dG ?_) ?_ | refine bS ?_ (Ty.aF _) | refine bS ?_ ?_ | refine aG rfl ?_ ?_)))
     all_goals first | exact Ty.c9 (congrArg nX.fits (sL hc6)) | exact Cont.p4 (congrArg nX.bins (sL hc6)) | exact Cont.cy (congrArg nX.moves (sL hc6)) | exact Cont.cy (congrArg nX.whole (sL hc6)) | exact Cont.cy (G0 hc6)
    refine aj (eW ?_)
    (refine cg.mk' ?_ ?_ <;> (repeat' (first | exact aI | exact aH | exact dH | refine aB ?_ (Ty.aT _) | refine aB ?_ (Ty.aF _) | refine aG rfl (Cont.aF _) ?_ | refine aG rfl (Cont.dG ?_) ?_ | refine bS ?_ (Ty.aF _) | refine bS ?_ ?_ | refine aG rfl ?_ ?_)))
    all_goals first | exact Cont.cy (congrArg nX.missed (pL hc5 hc6)) | exact Ty.c9 (Nl hc5 hc6) | exact Cont.p4 (M7 hc5 hc6) | exact Cont.cy (Jm hc5 hc6) | exact Cont.cy (Ii hc5 hc6)
   refine aj (eW ?_)
   (refine cg.mk' ?_ ?_ <;> (repeat' (first | exact aI | exact aH | exact dH | refine aB ?_ (Ty.aT _) | refine aB ?_ (Ty.aF _) | refine aG rfl (Cont.aF _) ?_ | refine aG rfl (Cont.dG ?_) ?_ | refine bS ?_ (Ty.aF _) | refine bS ?_ ?_ | refine aG rfl ?_ ?_)))
   all_goals first | exact Ty.c9 (congrArg nX.fits (w9 hc5)) | exact Cont.p4 (congrArg nX.bins (w9 hc5)) | exact Cont.cy (congrArg nX.moves (w9 hc5)) | exact Cont.cy (congrArg nX.whole (w9 hc5)) | exact Cont.cy (congrArg nX.missed (w9 hc5))
  refine aE (aA (Gr rfl (Gj rfl rfl rfl ?_)))
  refine gH rfl rfl (by omega) (by omega) ?_
  refine bZ rfl (aD (aC (aE (aY ?_))))
  refine b9 (fun (i : {i : Nat // i ≤ y.bins.length + y.moves.length ∧ (dS y k.1).drop i = (dF y).drop i}) => live [(1, Ty.pp (bE y)), (2, Ty.ptr 3 0), (3, Ty.ptr 4 0), (5, Ty.sl cT (cr y)), (6, Ty.sl cT (dF y)), (7, Ty.win 62 0 (y.bins.length + y.moves.length) 0), (13, Ty.int .i64 ((i.1 : Nat) - 1))] [(3, Cont.cells 66 [Ty.bool false, Ty.ex (.slice none 0 0), Ty.ex (.slice none 0 0), Ty.ex (.slice none 0 0), Ty.ex (.slice none 0 0)]), (4, Cont.cells 66 (rL y (eK y (k.1 + 1)).fits 81 36 40 15)), (81, Cont.mx bw 43 37 5000 (eK y (k.1 + 1)).bins), (36, Cont.vec bw 37 (eK y (k.1 + 1)).moves), (40, Cont.vec bw 37 (eK y (k.1 + 1)).whole), (15, Cont.vec eZ 4 (eK y (k.1 + 1)).missed), (62, Cont.vec cT 3 (j5 (cr y) (dS y k.1) i.1))]) (fun i => i.1) (⟨y.bins.length + y.moves.length, Nat.le_refl _, by rw [List.drop_of_length_le (by omega), List.drop_of_length_le (by omega)]⟩) ?_ fun i => ?_
  ·(refine cg.mk' ?_ ?_ <;> (repeat' (first | exact aI | exact aH | refine aB ?_ (Ty.aT _) | refine aB ?_ (Ty.aF _) | refine aG rfl (Cont.aF _) ?_ | refine aG rfl ?_ ?_)))
   all_goals exact Cont.cy (by have := NH (lo := cr y) (x := dS y k.1) (by omega); rw [hnl] at this; exact this)
  have hi := i.2.1
  have hcl : (j5 (cr y) (dS y k.1) i.1).length = y.bins.length + y.moves.length := by rw [MI (by omega) (by omega)]; omega
  refine aE (aE (cP mixed rfl (bF rfl (bB rfl rfl rfl (eO rfl ?_)))))
  apply aM (s := 130) rfl rfl rfl
  ·intro hg; apply aO; have hg' := of_decide_eq_true hg;(refine Gr rfl ?_); refine aD ?_; exact rfl
  ·exact rfl
  ·exact rfl
  apply aM (s := 130) rfl rfl rfl
  ·intro hg; apply aO; have hg' := of_decide_eq_true hg;(refine bF rfl ?_); refine aD ?_; exact rfl
  ·exact rfl
  ·exact rfl
  apply aM (s := 130) rfl rfl rfl
  ·intro hg; apply aK (s := 131) rfl (by (rw [hg]; rfl)); apply aK (s := 132) rfl (by (rw [hg]; rfl)); apply aO; have hg' := of_decide_eq_true hg;(refine lR rfl rfl rfl rfl rfl rfl (by omega) (by omega) ?_); refine aD ?_; exact rfl
  ·exact rfl
  ·exact rfl
  apply aM (s := 130) rfl rfl rfl
  ·intro hg; apply aK (s := 133) rfl (by (rw [hg]; rfl)); apply aO; have hg' := of_decide_eq_true hg;(refine pq (E := cT) (((i.1 : Nat) : Int) - 1).toNat 0 (ty := Ty.int .i64 (nth (j5 (cr y) (dS y k.1) i.1) (((i.1 : Nat) : Int) - 1).toNat)) rfl (by show 0 + _ = _ * 1 + 0; omega) rfl (by decide) rfl rfl (by omega) rfl ?_); refine aD ?_; exact rfl
  ·exact rfl
  ·exact rfl
  apply aM (s := 130) rfl rfl rfl
  ·intro hg; apply aO; have hg' := of_decide_eq_true hg;(refine eA rfl ?_); refine aD ?_; exact rfl
  ·exact rfl
  ·exact rfl
  apply aM (s := 130) rfl rfl rfl
  ·intro hg; apply aO; have hg' := of_decide_eq_true hg;(refine bF rfl ?_); refine aD ?_; exact rfl
  ·exact rfl
  ·exact rfl
  apply aM (s := 130) rfl rfl rfl
  ·intro hg; apply aK (s := 135) rfl (by (rw [hg]; rfl)); apply aK (s := 136) rfl (by (rw [hg]; rfl)); apply aO; have hg' := of_decide_eq_true hg;(refine kA rfl rfl rfl rfl rfl rfl (by omega) (by omega) ?_); refine aD ?_; exact rfl
  ·exact rfl
  ·exact rfl
  apply aM (s := 130) rfl rfl rfl
  ·intro hg; apply aK (s := 137) rfl (by (rw [hg]; rfl)); apply aO; have hg' := of_decide_eq_true hg;(refine aJ rfl rfl rfl rfl ?_); refine aD ?_; exact rfl
  ·exact rfl
  ·exact rfl
  apply aM (s := 130) rfl rfl rfl
  ·intro hg; apply aK (s := 134) rfl (by (rw [hg]; rfl)); apply aK (s := 138) rfl (by (rw [hg]; rfl)); apply aO; have hg' := of_decide_eq_true hg;(refine bB rfl rfl rfl ?_); refine aD ?_; exact rfl
  ·exact rfl
  ·exact rfl
  refine dV rfl rfl (aD ?_)
  refine ⟨by kernel_rfl, ?_⟩
  refine aC ?_
  refine cH rfl (fun hc7 => ?_) (fun hc7 => ?_)
  ·
   refine aj (aC (aY (aE ?_)))
   have hcc := hc7
   simp only [Bool.and_eq_true, decide_eq_true_eq] at hcc
   have hin : (((i.1 : Nat) : Int) - 1).toNat = i.1 - 1 := by omega
   have hq : nth (dS y k.1) (i.1 - 1) = nth (dF y) (i.1 - 1) := by have := hcc.2; rw [hin, yH (by omega) (by omega)] at this; exact this
   refine aA (Gr rfl (bF rfl (eA rfl (bF rfl ?_))))
   refine kA rfl rfl rfl rfl rfl rfl (by omega) (by omega) ?_
   refine aJ rfl rfl rfl rfl ?_
   refine lR rfl rfl rfl rfl rfl rfl (by omega) (by omega) ?_
   refine nv (E := cT) (((i.1 : Nat) : Int) - 1).toNat 0 (z := nth (cr y) (((i.1 : Nat) : Int) - 1).toNat) rfl (by show 0 + _ = _ * 1 + 0; omega) rfl (by decide) rfl rfl rfl rfl (by omega) (by decide) rfl rfl ?_
   refine aD (aC (aA (bF rfl ?_)))
   refine gH rfl rfl (by omega) (by omega) ?_
   refine bZ rfl (aD (bI ?_))
   refine bM (⟨i.1 - 1, by omega, HH hr (by omega) (by omega) i.2.2 hq⟩) ?_ (by show i.1 - 1 < i.1; omega)
   (refine cg.mk' ?_ ?_ <;> (repeat' (first | exact aI | exact aH | refine aB ?_ (Ty.aT _) | refine aB ?_ (Ty.aF _) | refine aG rfl (Cont.aF _) ?_ | refine aG rfl ?_ ?_ | refine aB ?_ ?_)))
   all_goals skip
   all_goals first | exact Ty.bN (by show ((i.1 : Nat) : Int) - 1 - 1 = ((i.1 - 1 : Nat) : Int) - 1; omega) | exact Cont.cy (by rw [hin]; exact Ka hr (by omega) (by omega))
  refine bz (aP (aP (aa rfl (aC (aE ?_)))))
  have hcc := hc7
  refine aA (bF rfl (bB rfl rfl rfl (cm rfl (aD (aC (aE (aA (eO rfl (aD ?_)))))))))
  refine aC ?_
  refine ah rfl (fun hc8 => ?_) (fun hc8 => ?_)
  ·
   have hi0 : ((i.1 : Nat) : Int) - 1 ≥ 0 := hc8
   have hin : (((i.1 : Nat) : Int) - 1).toNat = i.1 - 1 := by omega
   have hne : nth (dS y k.1) (i.1 - 1) ≠ nth (dF y) (i.1 - 1) := fun e => by
    rw [Bool.and_eq_false_iff, decide_eq_false_iff_not, decide_eq_false_iff_not, hin, yH (by omega) (by omega)] at hcc
    rcases hcc with h | h
    ·omega
    exact h e
   have hst := RC hr hkl (i := i.1) (by omega) (by omega) i.2.2 hne
   have hk2 : k.1 + 1 ≤ dB (cr y) (dF y) := by omega
   have hbo : decide (((i.1 : Nat) : Int) - 1 ≥ 0) = decide (k.1 + 1 < dB (cr y) (dF y)) := by rw [decide_eq_true hi0, decide_eq_true hst.1]
   have hnb := NU (k := k.1) hr (show i.1 - 1 < y.bins.length + y.moves.length by omega)
   have hcn := yH (y := y) (k := k.1) (i := i.1) (by omega) (by omega)
   have hnx : (j5 (cr y) (dS y k.1) i.1).set (((i.1 : Nat) : Int) - 1).toNat (nth (j5 (cr y) (dS y k.1) i.1) (((i.1 : Nat) : Int) - 1).toNat + 1) = dS y (k.1 + 1) := by rw [hin, hcn]; exact hst.2
   refine aA (Gr rfl (bF rfl ?_))
   refine lR rfl rfl rfl rfl rfl rfl (by omega) (by omega) ?_
   refine pq (E := cT) (((i.1 : Nat) : Int) - 1).toNat 0 (ty := Ty.int .i64 (nth (j5 (cr y) (dS y k.1) i.1) (((i.1 : Nat) : Int) - 1).toNat)) rfl (by show 0 + _ = _ * 1 + 0; omega) rfl (by decide) rfl rfl (by omega) rfl ?_
   refine bq rfl rfl (by rw [hin, hcn]; omega) (by rw [hin, hcn]; omega) ?_
   refine lR rfl rfl rfl rfl rfl rfl (by omega) (by omega) ?_
   refine nv (E := cT) (((i.1 : Nat) : Int) - 1).toNat 0 (z := nth (j5 (cr y) (dS y k.1) i.1) (((i.1 : Nat) : Int) - 1).toNat + 1) rfl (by show 0 + _ = _ * 1 + 0; omega) rfl (by decide) rfl rfl rfl rfl (by omega) (by decide) rfl rfl ?_
   refine aD (bI ?_)
   skip
   refine bM (⟨k.1 + 1, hk2⟩) ?_ (by show dB (cr y) (dF y) - (k.1 + 1) < dB (cr y) (dF y) - k.1; omega)
   (refine cg.mk' ?_ ?_ <;> (repeat' (first | exact aI | exact aH | refine aB ?_ (Ty.aT _) | refine aB ?_ (Ty.aF _) | refine aG rfl (Cont.aF _) ?_ | refine aG rfl ?_ ?_ | refine aB ?_ ?_)))
   all_goals skip
   all_goals first | exact Ty.c9 hbo | exact Cont.cy hnx
  refine aj (bI ?_)
  (have hi0 : ¬ ((i.1 : Nat) : Int) - 1 ≥ 0 := hc8; have h0 : i.1 = 0 := (by omega); have hls := Qq hr hkl (by have := i.2.2; rw [h0] at this; exact this); have hk2 : k.1 + 1 ≤ dB (cr y) (dF y) := (by omega); have hbo : decide (((i.1 : Nat) : Int) - 1 ≥ 0) = decide (k.1 + 1 < dB (cr y) (dF y)) := (by rw [decide_eq_false hi0, decide_eq_false (by omega)]); have hnx : j5 (cr y) (dS y k.1) i.1 = dS y (k.1 + 1) := (by rw [h0]; exact hls.2))
  refine bM (⟨k.1 + 1, hk2⟩) ?_ (by show dB (cr y) (dF y) - (k.1 + 1) < dB (cr y) (dF y) - k.1; omega)
  (refine cg.mk' ?_ ?_ <;> (repeat' (first | exact aI | exact aH | refine aB ?_ (Ty.aT _) | refine aB ?_ (Ty.aF _) | refine aG rfl (Cont.aF _) ?_ | refine aG rfl ?_ ?_ | refine aB ?_ ?_)))
  all_goals skip
  all_goals first | exact Ty.c9 hbo | exact Cont.cy hnx
 refine bz (aP (aP (aa rfl (aC (aE ?_)))))
 have hke : k.1 = dB (cr y) (dF y) := by have h1 : ¬ k.1 < dB (cr y) (dF y) := hc4; have h2 := k.2; omega
 have hsh := mC (y := y) k.1
 refine jI (tg := 5000) [] [(81, Cont.vec uw 43 (eK y k.1).bins)] (by decide) rfl trivial ⟨Mx rfl rfl (fun _ => rfl), trivial⟩ ?_
 refine jI (tg := 81) [] [(4, Cont.cells 66 [Ty.bool (eK y k.1).fits, Ty.sl uw (eK y k.1).bins, Ty.vs 36 y.moves.length, Ty.vs 40 (y.D + 1), Ty.vs 15 256])] (by decide) rfl trivial ⟨fM rfl rfl ⟨bK rfl, jc rfl hsh.bins (by decide), bK rfl, bK rfl, bK rfl, trivial⟩, trivial⟩ ?_
 refine jI (tg := 36) [] [(4, Cont.cells 66 [Ty.bool (eK y k.1).fits, Ty.sl uw (eK y k.1).bins, Ty.sl bw (eK y k.1).moves, Ty.vs 40 (y.D + 1), Ty.vs 15 256])] (by decide) rfl trivial ⟨fM rfl rfl ⟨bK rfl, bK rfl, jc rfl hsh.moves (by decide), bK rfl, bK rfl, trivial⟩, trivial⟩ ?_
 refine jI (tg := 40) [] [(4, Cont.cells 66 [Ty.bool (eK y k.1).fits, Ty.sl uw (eK y k.1).bins, Ty.sl bw (eK y k.1).moves, Ty.sl bw (eK y k.1).whole, Ty.vs 15 256])] (by decide) rfl trivial ⟨fM rfl rfl ⟨bK rfl, bK rfl, bK rfl, jc rfl hsh.whole (by decide), bK rfl, trivial⟩, trivial⟩ ?_
 refine jI (tg := 15) [] [(4, Cont.cells 66 [Ty.bool (eK y k.1).fits, Ty.sl uw (eK y k.1).bins, Ty.sl bw (eK y k.1).moves, Ty.sl bw (eK y k.1).whole, Ty.sl eZ (eK y k.1).missed])] (by decide) rfl trivial ⟨fM rfl rfl ⟨bK rfl, bK rfl, bK rfl, bK rfl, jc rfl hsh.missed (by decide), trivial⟩, trivial⟩ ?_
 refine iQ (B := live [(2, Ty.ptr 3 0), (3, Ty.ptr 4 0)] [(3, Cont.cells 66 [Ty.bool false, Ty.ex (.slice none 0 0), Ty.ex (.slice none 0 0), Ty.ex (.slice none 0 0), Ty.ex (.slice none 0 0)]), (4, Cont.cells 66 (tX (eK y k.1)))]) ?_ ?_
 ·refine cg.mk' ?_ ?_
  ·(repeat (first | refine aB ?_ (Ty.aT _) | refine aB ?_ (Ty.aF _))); exact aI
  refine aG rfl (Cont.aF _) ?_; refine aG rfl (Cont.aF _) ?_; exact aH
 refine aA ?_
 refine bg rfl rfl (by decide) rfl rfl (by exact Nat.le_of_ble_eq_true rfl) ?_
 refine bh rfl rfl (by decide) rfl rfl rfl rfl rfl rfl ?_
 refine aD (aC (az ?_))
 refine lO rfl rfl rfl rfl (by decide) rfl rfl rfl ?_
 all_goals exact av rfl rfl (congrArg (fun n => Ty.agg (tX (eK y n))) hke)
end Go.Proofs.YtelbollidfdcjaaGreat
namespace Go.Proofs.YtelbollidfdcjaaGreat
open Go Go.T
set_option maxHeartbeats 8000000
attribute [local irreducible] aR gz cU au.kept au.cells bL eC bf gG cq iB au.time
attribute [local irreducible] gL eX lN nh gy g6 gu gw gx nj gr ni dN fX nH fu nZ nth fP dQ bA dJ bodyPost Exit.then Exit.inBlock Code.wp Code.wpIn nW g7 nY nV g8 eP cL cM bodyPostM dR
end Go.Proofs.YtelbollidfdcjaaGreat
namespace Go.Proofs.YtelbollidfdcjaaGreat
open Go Go.T
set_option maxHeartbeats 8000000
section
variable {y : au} {b : Nat} {n w : Int} {p q : Span → Bool}
end
attribute [local irreducible] Md.n8 Md.real jE jq cq nD kM
attribute [local irreducible] gL eX lN nh gy g6 gu gw gx nj gr ni dN fX nH fu nZ nth fP dQ bA dJ bodyPost Exit.then Exit.inBlock Code.wp Code.wpIn nW g7 nY nV g8 eP cL cM bodyPostM dR
end Go.Proofs.YtelbollidfdcjaaGreat
namespace Go.Proofs.YtelbollidfdcjaaGreat
open Go Go.T
set_option maxHeartbeats 8000000
section
variable {y : au} {a r : dZ} {b t : Nat} {v : Int}
end
section
variable {y : au} {a : dZ} {P : Span} {v e c : Int} {k : Prop}
end
attribute [local irreducible] Md.n8 Md.real jE jq cq ct tD
attribute [local irreducible] gL eX lN nh gy g6 gu gw gx nj gr ni dN fX nH fu nZ nth fP dQ bA dJ bodyPost Exit.then Exit.inBlock Code.wp Code.wpIn nW g7 nY nV g8 eP cL cM bodyPostM dR
end Go.Proofs.YtelbollidfdcjaaGreat
namespace Go.Proofs.YtelbollidfdcjaaGreat
open Go Go.T
set_option maxHeartbeats 8000000
structure au.Fit (y : au) : Prop where
  bins : y.bins.length * 24 ≤ 140737488351232
  moves : y.moves.length * 40 ≤ 140737488351232
  levels : y.levels.length * 32 ≤ 140737488351232
def Ll (b : tC) : Int := b.first.hi - b.first.lo + 1
def Iw (m : Move) : Int := m.sacks.hi - m.sacks.lo + 1
def iy (y : au) : Nat → Int
  | 0 => 1
  | k + 1 => if iy y k < 100000 then iy y k * Ll (nth y.bins k) else iy y k
def jW (y : au) : Nat → Int
  | 0 => iy y y.bins.length
  | k + 1 => if jW y k < 100000 then jW y k * Iw (nth y.moves k) else jW y k
def manyN (y : au) : Int := jW y y.moves.length
def Bm (y : au) : Bool := pO y || (decide (bL y = 0) && decide (manyN y > 3000))
section
variable {y : au} {a : dZ} {k : Nat}
theorem GG (hr : y.bt) (h : k < y.bins.length) : (1 ≤ Ll (nth y.bins k) ∧ Ll (nth y.bins k) ≤ 301) ∧ 0 ≤ (nth y.bins k).first.lo ∧ (nth y.bins k).first.hi ≤ 300 := by
 have := hr.bin _ (cX h); unfold Ll; omega
theorem Ez (hr : y.bt) (h : k < y.moves.length) : (1 ≤ Iw (nth y.moves k) ∧ Iw (nth y.moves k) ≤ 301) ∧ 0 ≤ (nth y.moves k).sacks.lo ∧ (nth y.moves k).sacks.hi ≤ 300 := by
 have := hr.move _ (cX h); unfold Iw; omega
theorem vk {m w : Int} (h1 : 1 ≤ m ∧ m < 100000) (h2 : 1 ≤ w ∧ w ≤ 301) : 1 ≤ m * w ∧ m * w ≤ 30100000 := by
 have a1 : m * 1 ≤ m * w := Int.mul_le_mul_of_nonneg_left h2.1 (by omega)
 have a2 : m * w ≤ m * 301 := Int.mul_le_mul_of_nonneg_left h2.2 (by omega)
 omega
theorem wL (hr : y.bt) : ∀ k, k ≤ y.bins.length → 1 ≤ iy y k ∧ iy y k ≤ 30100000
  | 0, _ => by show (1 : Int) ≤ 1 ∧ (1 : Int) ≤ _; omega
  | k + 1, hk => by
    have ih := wL hr k (by omega)
    have hw := (GG hr (show k < y.bins.length by omega)).1
    unfold iy
    split
    · exact vk ⟨ih.1, by assumption⟩ hw
    · exact ih
theorem Ci (hr : y.bt) : ∀ k, k ≤ y.moves.length → 1 ≤ jW y k ∧ jW y k ≤ 30100000
  | 0, _ => wL hr _ (Nat.le_refl _)
  | k + 1, hk => by
    have ih := Ci hr k (by omega)
    have hw := (Ez hr (show k < y.moves.length by omega)).1
    unfold jW
    split
    · exact vk ⟨ih.1, by assumption⟩ hw
    · exact ih
theorem wD (h : ¬ iy y k < 100000) : ∀ d, iy y (k + d) = iy y k
  | 0 => rfl
  | d + 1 => by
    have ih := wD h d
    show (if iy y (k + d) < 100000 then _ else iy y (k + d)) = _
    rw [ih, if_neg h]
theorem xK (h : ¬ jW y k < 100000) : ∀ d, jW y (k + d) = jW y k
  | 0 => rfl
  | d + 1 => by
    have ih := xK h d
    show (if jW y (k + d) < 100000 then _ else jW y (k + d)) = _
    rw [ih, if_neg h]
theorem Eh (h : iy y k < 100000) : iy y k * ((nth y.bins k).first.hi - (nth y.bins k).first.lo + 1) = iy y (k + 1) := (if_pos h).symm
theorem Di (h : jW y k < 100000) : jW y k * ((nth y.moves k).sacks.hi - (nth y.moves k).sacks.lo + 1) = jW y (k + 1) := (if_pos h).symm
theorem ID (hk : k ≤ y.bins.length) (h : (decide ((k : Int) < (y.bins.length : Int)) && decide (iy y k < 100000)) = false) : iy y k = jW y 0 := by
 show _ = iy y y.bins.length
 rw [Bool.and_eq_false_iff, decide_eq_false_iff_not, decide_eq_false_iff_not] at h
 rcases h with h | h
 ·rw [show k = y.bins.length by omega]
 rw [show y.bins.length = k + (y.bins.length - k) by omega, wD h]
theorem HG (hk : k ≤ y.moves.length) (h : (decide ((k : Int) < (y.moves.length : Int)) && decide (jW y k < 100000)) = false) : jW y k = manyN y := by
 unfold manyN
 rw [Bool.and_eq_false_iff, decide_eq_false_iff_not, decide_eq_false_iff_not] at h
 rcases h with h | h
 ·rw [show k = y.moves.length by omega]
 rw [show y.moves.length = k + (y.moves.length - k) by omega, xK h]
theorem Mg : (pO y || (decide (iw y = 0) && decide (manyN y > 3000))) = Bm y := by rw [check_eq]; rfl
theorem EI (h : Bm y = false) : pO y = false := by
 unfold Bm at h; rw [Bool.or_eq_false_iff] at h; exact h.1
end
attribute [local irreducible] pO bL iw dy iy jW manyN
attribute [local irreducible] gL eX lN nh gy g6 gu gw gx nj gr ni dN fX nH fu nZ nth fP dQ bA dJ bodyPost Exit.then Exit.inBlock Code.wp Code.wpIn nW g7 nY nV g8 eP cL cM bodyPostM dR
set_option maxRecDepth 100000 in
theorem Gz (y : au) (hs : y.Fit) : dJ Tryz.prog 30 [dr y] (dr y) := by
 refine ak Tryz.func30 rfl (by decide) Tryz.ntmps30 (by exact Nat.le_of_ble_eq_true rfl) fun w0 M0 => ?_
 have hs1 := hs.bins
 have hs2 := hs.moves
 have hs3 := hs.levels
 refine aE (aA (bD rfl ?_))
 refine bu rfl (by exact List.cons_ne_nil _ _) rfl ?_
 refine aD (aC (aE (aA ?_)))
 refine aL rfl rfl rfl rfl rfl (by decide) ?_
 refine aJ rfl rfl rfl rfl ?_
 refine dI rfl rfl (by exact List.cons_ne_nil _ _) rfl (by repeat (first | exact (aV.nil : aV _ _ [] _) | (show aV _ _ ((_, _) :: _) _; apply aV.one; (· exact (rfl : _ = Ty.int _ _)); (· exact rfl)))) (by exact (rfl : _ = some [_, _, _, _])) ?_
 refine bu rfl (by exact List.cons_ne_nil _ _) rfl ?_
 refine bh rfl rfl (by decide) rfl rfl rfl rfl rfl rfl ?_
 refine aD (aC (aE (aE (aA ?_))))
 refine aL rfl rfl rfl rfl rfl (by decide) ?_
 refine aJ rfl rfl rfl rfl (cD rfl rfl rfl (bF rfl (aD (aC (aY ?_)))))
 refine b9 (fun (k : {k : Nat // k ≤ y.bins.length}) => live [(1, Ty.pp (bE y)), (2, Ty.ptr 3 0), (3, Ty.ptr 4 0), (14, Ty.sl fN y.bins), (15, Ty.int .i64 y.bins.length), (16, Ty.int .i64 (k.1 : Nat))] [(3, Cont.cells 60 [Ty.int .i64 0, Ty.ex (.slice none 0 0), Ty.ex (.slice none 0 0), Ty.ex (.slice none 0 0)]), (4, Cont.cells 60 [Ty.int .i64 y.days, Ty.row fN 163 24 (y.bins.take k.1), Ty.ex (.slice none 0 0), Ty.ex (.slice none 0 0)])]) (fun k => y.bins.length - k.1) (⟨0, by omega⟩) ?_ fun k => ?_
 ·(refine cg.mk' ?_ ?_ <;> (repeat' (first | exact aI | exact aH | exact dH | refine aB ?_ (Ty.aT _) | refine aB ?_ (Ty.aF _) | refine aG rfl (Cont.aF _) ?_ | refine aG rfl (Cont.dG ?_) ?_ | refine bS ?_ (Ty.aF _) | refine bS ?_ Ty.gZ)))
  all_goals trace_state
 have hk := k.2
 refine aE (aA (bB rfl rfl rfl (aD (aC (aE ?_)))))
 refine ah rfl (fun hc1 => ?_) (fun hc1 => ?_)
 ·
  refine aj (aC (aE (aY (aE (aA ?_)))))
  refine aq rfl rfl rfl rfl rfl rfl (by omega) ?_
  refine aX rfl rfl rfl (by exact Nat.le_of_ble_eq_true rfl) ?_
  refine bu rfl (by exact List.cons_ne_nil _ _) rfl ?_
  refine bh rfl rfl (by decide) rfl rfl rfl rfl rfl rfl ?_
  refine aD (aC (aA ?_))
  refine aS rfl rfl rfl rfl rfl (by decide) ?_
  refine aZ rfl rfl (by decide) rfl rfl rfl ?_
  refine bg rfl rfl (by decide) rfl rfl (by exact Nat.le_of_ble_eq_true rfl) ?_
  refine bW (E := fN) (xs := [nth y.bins k.1]) rfl rfl rfl rfl rfl (by decide) (by decide) (by repeat (first | exact (aV.nil : aV _ _ [] _) | (show aV _ _ ((_, _) :: _) _; apply aV.agg; (· exact (rfl : _ = Ty.agg _))))) (by exact rfl) rfl ?_
  refine dj rfl rfl (by decide) rfl rfl rfl rfl rfl rfl (by decide) (by (simp <;> omega)) (by (simp <;> omega)) ?_
  refine aS rfl rfl rfl rfl rfl (by decide) ?_
  refine cv rfl rfl (by decide) rfl rfl (by exact (rfl : _ = Ty.row _ _ _ _)) rfl (by exact Nat.le_of_ble_eq_true rfl) rfl rfl (by exact rfl) ?_
  refine aD (bI (aC (aA ?_)))
  refine bq rfl rfl (by omega) (by omega) ?_
  refine bF rfl (aD ?_)
  refine bM (⟨k.1 + 1, by omega⟩) ?_ (by show y.bins.length - (k.1 + 1) < y.bins.length - k.1; omega)
  (refine cg.mk' ?_ ?_ <;> (repeat' (first | exact aI | exact aH | exact dH | refine aB ?_ (Ty.aT _) | refine aB ?_ (Ty.aF _) | refine aG rfl (Cont.aF _) ?_ | refine aG rfl (Cont.dG ?_) ?_ | refine bS ?_ (Ty.aF _) | refine bS ?_ ?_)))
  all_goals exact Ty.eU (cQ (by omega)).symm
  all_goals trace_state
 refine bz (aP (aP (aa rfl (aC (aE (aE ?_))))))
 refine jI (tg := 24) [] [(4, Cont.cells 60 [Ty.int .i64 y.days, Ty.sl fN y.bins, Ty.ex (.slice none 0 0), Ty.ex (.slice none 0 0)])] (by decide) rfl trivial ⟨fM rfl rfl ⟨bK rfl, iZ (List.take_of_length_le (by have := k.2; omega)), bK rfl, bK rfl, trivial⟩, trivial⟩ ?_
 refine aA ?_
 refine aL rfl rfl rfl rfl rfl (by decide) ?_
 refine aJ rfl rfl rfl rfl (cD rfl rfl rfl (bF rfl (aD (aC (aY ?_)))))
 refine b9 (fun (m : {k : Nat // k ≤ y.moves.length}) => live [(1, Ty.pp (bE y)), (2, Ty.ptr 3 0), (3, Ty.ptr 4 0), (28, Ty.sl eH y.moves), (29, Ty.int .i64 y.moves.length), (30, Ty.int .i64 (m.1 : Nat))] [(3, Cont.cells 60 [Ty.int .i64 0, Ty.ex (.slice none 0 0), Ty.ex (.slice none 0 0), Ty.ex (.slice none 0 0)]), (4, Cont.cells 60 [Ty.int .i64 y.days, Ty.sl fN y.bins, Ty.row eH 164 38 (y.moves.take m.1), Ty.ex (.slice none 0 0)])]) (fun m => y.moves.length - m.1) (⟨0, by omega⟩) ?_ fun m => ?_
 ·(refine cg.mk' ?_ ?_ <;> (repeat' (first | exact aI | exact aH | exact dH | refine aB ?_ (Ty.aT _) | refine aB ?_ (Ty.aF _) | refine aG rfl (Cont.aF _) ?_ | refine aG rfl (Cont.dG ?_) ?_ | refine bS ?_ (Ty.aF _) | refine bS ?_ Ty.gZ)))
  all_goals trace_state
 have hm := m.2
 refine aE (aA (bB rfl rfl rfl (aD (aC (aE ?_)))))
 refine ah rfl (fun hc2 => ?_) (fun hc2 => ?_)
 ·
  refine aj (aC (aE (aY (aE (aA ?_)))))
  refine aq rfl rfl rfl rfl rfl rfl (by omega) ?_
  refine aX rfl rfl rfl (by exact Nat.le_of_ble_eq_true rfl) ?_
  refine bu rfl (by exact List.cons_ne_nil _ _) rfl ?_
  refine bh rfl rfl (by decide) rfl rfl rfl rfl rfl rfl ?_
  refine aD (aC (aA ?_))
  refine aS rfl rfl rfl rfl rfl (by decide) ?_
  refine aZ rfl rfl (by decide) rfl rfl rfl ?_
  refine bg rfl rfl (by decide) rfl rfl (by exact Nat.le_of_ble_eq_true rfl) ?_
  refine bW (E := eH) (xs := [nth y.moves m.1]) rfl rfl rfl rfl rfl (by decide) (by decide) (by repeat (first | exact (aV.nil : aV _ _ [] _) | (show aV _ _ ((_, _) :: _) _; apply aV.agg; (· exact (rfl : _ = Ty.agg _))))) (by exact rfl) rfl ?_
  refine dj rfl rfl (by decide) rfl rfl rfl rfl rfl rfl (by decide) (by (simp <;> omega)) (by (simp <;> omega)) ?_
  refine aS rfl rfl rfl rfl rfl (by decide) ?_
  refine cv rfl rfl (by decide) rfl rfl (by exact (rfl : _ = Ty.row _ _ _ _)) rfl (by exact Nat.le_of_ble_eq_true rfl) rfl rfl (by exact rfl) ?_
  refine aD (bI (aC (aA ?_)))
  refine bq rfl rfl (by omega) (by omega) ?_
  refine bF rfl (aD ?_)
  refine bM (⟨m.1 + 1, by omega⟩) ?_ (by show y.moves.length - (m.1 + 1) < y.moves.length - m.1; omega)
  (refine cg.mk' ?_ ?_ <;> (repeat' (first | exact aI | exact aH | exact dH | refine aB ?_ (Ty.aT _) | refine aB ?_ (Ty.aF _) | refine aG rfl (Cont.aF _) ?_ | refine aG rfl (Cont.dG ?_) ?_ | refine bS ?_ (Ty.aF _) | refine bS ?_ ?_)))
  all_goals exact Ty.eU (cQ (by omega)).symm
  all_goals trace_state
 refine bz (aP (aP (aa rfl (aC (aE (aE ?_))))))
 refine jI (tg := 38) [] [(4, Cont.cells 60 [Ty.int .i64 y.days, Ty.sl fN y.bins, Ty.sl eH y.moves, Ty.ex (.slice none 0 0)])] (by decide) rfl trivial ⟨fM rfl rfl ⟨bK rfl, bK rfl, iZ (List.take_of_length_le (by have := m.2; omega)), bK rfl, trivial⟩, trivial⟩ ?_
 refine aA ?_
 refine aL rfl rfl rfl rfl rfl (by decide) ?_
 refine aJ rfl rfl rfl rfl (cD rfl rfl rfl (bF rfl (aD (aC (aY ?_)))))
 refine b9 (fun (n : {k : Nat // k ≤ y.levels.length}) => live [(1, Ty.pp (bE y)), (2, Ty.ptr 3 0), (3, Ty.ptr 4 0), (42, Ty.sl dX y.levels), (43, Ty.int .i64 y.levels.length), (44, Ty.int .i64 (n.1 : Nat))] [(3, Cont.cells 60 [Ty.int .i64 0, Ty.ex (.slice none 0 0), Ty.ex (.slice none 0 0), Ty.ex (.slice none 0 0)]), (4, Cont.cells 60 [Ty.int .i64 y.days, Ty.sl fN y.bins, Ty.sl eH y.moves, Ty.row dX 165 52 (y.levels.take n.1)])]) (fun n => y.levels.length - n.1) (⟨0, by omega⟩) ?_ fun n => ?_
 ·(refine cg.mk' ?_ ?_ <;> (repeat' (first | exact aI | exact aH | exact dH | refine aB ?_ (Ty.aT _) | refine aB ?_ (Ty.aF _) | refine aG rfl (Cont.aF _) ?_ | refine aG rfl (Cont.dG ?_) ?_ | refine bS ?_ (Ty.aF _) | refine bS ?_ Ty.gZ)))
  all_goals trace_state
 have hn := n.2
 refine aE (aA (bB rfl rfl rfl (aD (aC (aE ?_)))))
 refine ah rfl (fun hc3 => ?_) (fun hc3 => ?_)
 ·
  refine aj (aC (aE (aY (aE (aA ?_)))))
  refine aq rfl rfl rfl rfl rfl rfl (by omega) ?_
  refine aX rfl rfl rfl (by exact Nat.le_of_ble_eq_true rfl) ?_
  refine bu rfl (by exact List.cons_ne_nil _ _) rfl ?_
  refine bh rfl rfl (by decide) rfl rfl rfl rfl rfl rfl ?_
  refine aD (aC (aA ?_))
  refine aS rfl rfl rfl rfl rfl (by decide) ?_
  refine aZ rfl rfl (by decide) rfl rfl rfl ?_
  refine bg rfl rfl (by decide) rfl rfl (by exact Nat.le_of_ble_eq_true rfl) ?_
  refine bW (E := dX) (xs := [nth y.levels n.1]) rfl rfl rfl rfl rfl (by decide) (by decide) (by repeat (first | exact (aV.nil : aV _ _ [] _) | (show aV _ _ ((_, _) :: _) _; apply aV.agg; (· exact (rfl : _ = Ty.agg _))))) (by exact rfl) rfl ?_
  refine dj rfl rfl (by decide) rfl rfl rfl rfl rfl rfl (by decide) (by (simp <;> omega)) (by (simp <;> omega)) ?_
  refine aS rfl rfl rfl rfl rfl (by decide) ?_
  refine cv rfl rfl (by decide) rfl rfl (by exact (rfl : _ = Ty.row _ _ _ _)) rfl (by exact Nat.le_of_ble_eq_true rfl) rfl rfl (by exact rfl) ?_
  refine aD (bI (aC (aA ?_)))
  refine bq rfl rfl (by omega) (by omega) ?_
  refine bF rfl (aD ?_)
  refine bM (⟨n.1 + 1, by omega⟩) ?_ (by show y.levels.length - (n.1 + 1) < y.levels.length - n.1; omega)
  (refine cg.mk' ?_ ?_ <;> (repeat' (first | exact aI | exact aH | exact dH | refine aB ?_ (Ty.aT _) | refine aB ?_ (Ty.aF _) | refine aG rfl (Cont.aF _) ?_ | refine aG rfl (Cont.dG ?_) ?_ | refine bS ?_ (Ty.aF _) | refine bS ?_ ?_)))
  all_goals exact Ty.eU (cQ (by omega)).symm
  all_goals trace_state
 refine bz (aP (aP (aa rfl (aC (aE ?_)))))
 refine jI (tg := 52) [] [(4, Cont.cells 60 [Ty.int .i64 y.days, Ty.sl fN y.bins, Ty.sl eH y.moves, Ty.sl dX y.levels])] (by decide) rfl trivial ⟨fM rfl rfl ⟨bK rfl, bK rfl, bK rfl, iZ (List.take_of_length_le (by have := n.2; omega)), trivial⟩, trivial⟩ ?_
 refine aA ?_
 refine bg rfl rfl (by decide) rfl rfl (by exact Nat.le_of_ble_eq_true rfl) ?_
 refine bh rfl rfl (by decide) rfl rfl rfl rfl rfl rfl ?_
 refine aD (aC (az ?_))
 refine lO rfl rfl rfl rfl (by decide) rfl rfl rfl ?_
 all_goals exact av rfl rfl rfl
set_option maxRecDepth 100000 in
theorem Pw (y : au) (hr : y.bt) : dJ Tryz.prog 94 [dr y] (Ty.int .i64 (manyN y)) := by
 refine ak Tryz.func94 rfl (by decide) Tryz.ntmps94 (by exact Nat.le_of_ble_eq_true rfl) fun w0 M0 => ?_
 have hyb := hr.bins
 have hym := hr.moves
 refine aE (aA (bD rfl (bZ rfl (aD (aC (aE (aA (bZ rfl (aD ?_)))))))))
 refine aC (aE (aE (aA (bZ rfl (aD (aC (aY ?_)))))))
 refine b9 (fun (k : {k : Nat // k ≤ y.bins.length}) => live [(1, Ty.pp (bE y)), (3, Ty.int .i64 (iy y k.1)), (4, Ty.int .i64 (k.1 : Nat))] []) (fun k => y.bins.length - k.1) (⟨0, Nat.zero_le _⟩) ?_ fun k => ?_
 ·(refine cg.mk' ?_ ?_ <;> (repeat' (first | exact aI | exact aH | refine aB ?_ (Ty.aT _) | refine aB ?_ (Ty.aF _) | refine aB ?_ ?_)))
  all_goals exact Ty.bN (by unfold iy; rfl)
 have hk := k.2
 have hmb := wL hr k.1 hk
 refine aE (aE (aA (bF rfl ?_)))
 refine aL rfl rfl rfl rfl rfl (by decide) ?_
 refine aJ rfl rfl rfl rfl (cD rfl rfl rfl (bB rfl rfl rfl (eO rfl ?_)))
 apply aM (s := 11) rfl rfl rfl
 ·intro hg; apply aO; (refine bF rfl ?_); refine aD ?_; exact rfl
 ·exact rfl
 ·exact rfl
 apply aM (s := 11) rfl rfl rfl
 ·intro hg; apply aK (s := 12) rfl (by (rw [hg]; rfl)); apply aO; (refine bB rfl rfl rfl ?_); refine aD ?_; exact rfl
 ·exact rfl
 ·exact rfl
 refine dV rfl rfl (aD (aC ?_))
 refine cH rfl (fun hc1 => ?_) (fun hc1 => ?_)
 ·
  refine aj (aC (aE (aY ?_)))
  have hcc := hc1
  simp only [Bool.and_eq_true, decide_eq_true_eq] at hcc
  have hk2 : k.1 < y.bins.length := by omega
  have hw := GG hr hk2
  unfold Ll at hw
  have hmu := vk ⟨hmb.1, hcc.2⟩ hw.1
  refine cP mixed rfl (bF rfl ?_)
  refine aL rfl rfl rfl rfl rfl (by decide) ?_
  refine aJ rfl rfl rfl rfl (bF rfl ?_)
  refine aq rfl rfl rfl rfl rfl rfl (by omega) ?_
  refine aL rfl rfl rfl rfl rfl (by decide) ?_
  refine aL rfl rfl rfl rfl rfl (by decide) ?_
  refine aJ rfl rfl rfl rfl ?_
  refine aL rfl rfl rfl rfl rfl (by decide) ?_
  refine aJ rfl rfl rfl rfl (bF rfl ?_)
  refine aq rfl rfl rfl rfl rfl rfl (by omega) ?_
  refine aL rfl rfl rfl rfl rfl (by decide) ?_
  refine aL rfl rfl rfl rfl rfl (by decide) ?_
  refine aJ rfl rfl rfl rfl ?_
  refine gH rfl rfl (by omega) (by omega) ?_
  refine bq rfl rfl (by omega) (by omega) ?_
  refine sw rfl rfl (by omega) (by omega) ?_
  refine bZ rfl (aD ?_)
  refine ⟨by kernel_rfl, ?_⟩
  refine bI (aC (aA (bF rfl ?_)))
  refine bq rfl rfl (by omega) (by omega) ?_
  refine bZ rfl (aD ?_)
  refine bM (⟨k.1 + 1, by omega⟩) ?_ (by show y.bins.length - (k.1 + 1) < y.bins.length - k.1; omega)
  (refine cg.mk' ?_ ?_ <;> (repeat' (first | exact aI | exact aH | refine aB ?_ (Ty.aT _) | refine aB ?_ (Ty.aF _) | refine aB ?_ ?_)))
  all_goals skip
  all_goals exact Ty.bN (Eh hcc.2)
 refine bz (aP (aP (aa rfl (aC (aE (aE (aA (bZ rfl (aD ?_)))))))))
 refine aC (aY ?_)
 refine b9 (fun (m : {k : Nat // k ≤ y.moves.length}) => live [(1, Ty.pp (bE y)), (3, Ty.int .i64 (jW y m.1)), (5, Ty.int .i64 (m.1 : Nat))] []) (fun m => y.moves.length - m.1) (⟨0, Nat.zero_le _⟩) ?_ fun m => ?_
 ·(refine cg.mk' ?_ ?_ <;> (repeat' (first | exact aI | exact aH | refine aB ?_ (Ty.aT _) | refine aB ?_ (Ty.aF _) | refine aB ?_ ?_)))
  all_goals exact Ty.bN (ID k.2 hc1)
 have hm := m.2
 have hmm := Ci hr m.1 hm
 refine aE (aE (aA (bF rfl ?_)))
 refine aL rfl rfl rfl rfl rfl (by decide) ?_
 refine aJ rfl rfl rfl rfl (cD rfl rfl rfl (bB rfl rfl rfl (eO rfl ?_)))
 apply aM (s := 40) rfl rfl rfl
 ·intro hg; apply aO; (refine bF rfl ?_); refine aD ?_; exact rfl
 ·exact rfl
 ·exact rfl
 apply aM (s := 40) rfl rfl rfl
 ·intro hg; apply aK (s := 41) rfl (by (rw [hg]; rfl)); apply aO; (refine bB rfl rfl rfl ?_); refine aD ?_; exact rfl
 ·exact rfl
 ·exact rfl
 refine dV rfl rfl (aD (aC ?_))
 refine cH rfl (fun hc2 => ?_) (fun hc2 => ?_)
 ·
  refine aj (aC (aE (aY ?_)))
  have hcc2 := hc2
  simp only [Bool.and_eq_true, decide_eq_true_eq] at hcc2
  have hm2 : m.1 < y.moves.length := by omega
  have hw := Ez hr hm2
  unfold Iw at hw
  have hmu := vk ⟨hmm.1, hcc2.2⟩ hw.1
  refine cP mixed rfl (bF rfl ?_)
  refine aL rfl rfl rfl rfl rfl (by decide) ?_
  refine aJ rfl rfl rfl rfl (bF rfl ?_)
  refine aq rfl rfl rfl rfl rfl rfl (by omega) ?_
  refine aL rfl rfl rfl rfl rfl (by decide) ?_
  refine aL rfl rfl rfl rfl rfl (by decide) ?_
  refine aJ rfl rfl rfl rfl ?_
  refine aL rfl rfl rfl rfl rfl (by decide) ?_
  refine aJ rfl rfl rfl rfl (bF rfl ?_)
  refine aq rfl rfl rfl rfl rfl rfl (by omega) ?_
  refine aL rfl rfl rfl rfl rfl (by decide) ?_
  refine aL rfl rfl rfl rfl rfl (by decide) ?_
  refine aJ rfl rfl rfl rfl ?_
  refine gH rfl rfl (by omega) (by omega) ?_
  refine bq rfl rfl (by omega) (by omega) ?_
  refine sw rfl rfl (by omega) (by omega) ?_
  refine bZ rfl (aD ?_)
  refine ⟨by kernel_rfl, ?_⟩
  refine bI (aC (aA (bF rfl ?_)))
  refine bq rfl rfl (by omega) (by omega) ?_
  refine bZ rfl (aD ?_)
  refine bM (⟨m.1 + 1, by omega⟩) ?_ (by show y.moves.length - (m.1 + 1) < y.moves.length - m.1; omega)
  (refine cg.mk' ?_ ?_ <;> (repeat' (first | exact aI | exact aH | refine aB ?_ (Ty.aT _) | refine aB ?_ (Ty.aF _) | refine aB ?_ ?_)))
  all_goals skip
  all_goals exact Ty.bN (Di hcc2.2)
 refine bz (aP (aP (aa rfl (aC (aE (aA (bF rfl (bZ rfl (aD ?_)))))))))
 refine aC (az (bR rfl rfl ?_))
 all_goals skip
 all_goals exact av rfl rfl (congrArg (Ty.int .i64) (HG m.2 hc2))
set_option maxRecDepth 100000 in
theorem PS (y : au) (hf : y.Fit) : dJ Tryz.prog 28 [dr y] (Ty.bool (Bm y)) := by
 refine ak Tryz.func28 rfl (by decide) Tryz.ntmps28 (by exact Nat.le_of_ble_eq_true rfl) fun w0 M0 => ?_
 refine aE (aA (bD rfl (cm rfl (aD (aC (aE (aA ?_)))))))
 refine aX rfl rfl rfl (by exact Nat.le_of_ble_eq_true rfl) ?_
 refine af (Gz y hf) rfl rfl rfl rfl rfl ?_
 refine bu rfl (by exact List.cons_ne_nil _ _) rfl ?_
 refine bh rfl rfl (by decide) rfl rfl rfl rfl rfl rfl ?_
 refine aD (aC (aE (aA ?_)))
 refine aX rfl rfl rfl (by exact Nat.le_of_ble_eq_true rfl) ?_
 refine af (Ms y) rfl rfl rfl rfl rfl (eO rfl ?_)
 apply aM (s := 8) rfl rfl rfl
 ·intro hg; apply aO; (refine bg rfl rfl (by decide) rfl rfl (by exact Nat.le_of_ble_eq_true rfl) ?_); refine aD ?_; exact rfl
 ·exact rfl
 ·exact rfl
 apply aM (s := 8) rfl rfl rfl
 ·intro hg; apply aK (s := 9) rfl (by (rw [hg]; rfl)); apply aO; (refine af (C1 y (uj hg)) rfl rfl rfl rfl rfl ?_); refine aD ?_; exact rfl
 ·exact rfl
 ·exact rfl
 apply aM (s := 8) rfl rfl rfl
 ·intro hg; apply aK (s := 10) rfl (by (rw [hg]; rfl)); apply aO; (refine bB rfl rfl rfl ?_); refine aD ?_; exact rfl
 ·exact rfl
 ·exact rfl
 apply aM (s := 8) rfl rfl rfl
 ·intro hg; apply aK (s := 11) rfl (by (rw [hg]; rfl)); apply aO; (refine eO rfl ?_); refine aD ?_; exact rfl
 ·exact rfl
 ·exact rfl
 apply fo (s := 12) rfl rfl rfl
 ·intro hg1 hg2; apply aO; (refine bg rfl rfl (by decide) rfl rfl (by exact Nat.le_of_ble_eq_true rfl) ?_); refine aD ?_; exact rfl
 ·exact rfl
 ·exact rfl
 apply fo (s := 12) rfl rfl rfl
 ·intro hg1 hg2; apply aK (s := 13) rfl (by (rw [hg1, hg2]; rfl)); apply aO; (refine af (Pw y (dD ((check_eq y).symm.trans (of_decide_eq_true hg2)))) rfl rfl rfl rfl rfl ?_); refine aD ?_; exact rfl
 ·exact rfl
 ·exact rfl
 apply fo (s := 12) rfl rfl rfl
 ·intro hg1 hg2; apply aK (s := 14) rfl (by (rw [hg1, hg2]; rfl)); apply aO; (refine bB rfl rfl rfl ?_); refine aD ?_; exact rfl
 ·exact rfl
 ·exact rfl
 apply aM (s := 8) rfl rfl rfl
 ·intro hg; apply aK (s := 12) rfl (by (rw [hg]; rfl)); apply rM (s := 15) rfl (by (rw [hg]; rfl)); apply aO; (refine dV rfl rfl ?_); refine aD ?_; exact rfl
 ·exact rfl
 ·exact rfl
 refine ir rfl rfl (cm rfl (aD (aC (az (bR rfl rfl ?_)))))
 all_goals skip
 all_goals exact av rfl rfl (congrArg Ty.bool Mg)
end Go.Proofs.YtelbollidfdcjaaGreat
namespace Go.Proofs.YtelbollidfdcjaaGreat
open Go Go.T
section
variable {y : au} {p q d v : Int} {b t k : Nat}
theorem AV {α : Type} {E : El α} {xs : List α} (h : [] = xs) : (Ty.ex (.slice none 0 0)).Sub (Ty.sl E xs) := by subst h; exact Ty.yA
end
end Go.Proofs.YtelbollidfdcjaaGreat
namespace Go.Proofs.YtelbollidfdcjaaGreat
open Go Go.T
section
variable {p : Span → Bool} {l : List Span} {k : Nat}
end
section
variable {y : au} {q s : Int} {p : Span → Bool}
end
end Go.Proofs.YtelbollidfdcjaaGreat
namespace Go.Proofs.YtelbollidfdcjaaGreat
open Go Go.T
def fW : Nat → Nat → List Int → Prop
  | _, _, [] => True
  | i, n, x :: xs => ∃ k : Nat, x = k ∧ i ≤ k ∧ k < n ∧ fW (k + 1) n xs
section
variable {h : List Int → Bool} {many lim n d i k : Nat} {l o w s x : List Int} {v : Int}
theorem fW.low : ∀ {l : List Int} {i : Nat}, fW (i + 1) n l → fW i n l
  | [], _, _ => trivial
  | _ :: _, _, ⟨k, e, h1, h2, h3⟩ => ⟨k, e, by omega, h2, h3⟩
theorem fW.low' : ∀ {l : List Int} {i k : Nat}, i ≤ k → fW k n l → fW i n l
  | [], _, _, _, _ => trivial
  | _ :: _, _, _, h, ⟨k, e, h1, h2, h3⟩ => ⟨k, e, by omega, h2, h3⟩
theorem fW.len : ∀ {l : List Int} {i : Nat}, fW i n l → l.length ≤ n - i
  | [], _, _ => Nat.zero_le _
  | _ :: xs, i, ⟨k, _, h1, h2, h3⟩ => by
    have := fW.len h3
    show xs.length + 1 ≤ n - i; omega
theorem fW.mem : ∀ {l : List Int} {i : Nat}, fW i n l → ∀ v ∈ l, ∃ k : Nat, v = k ∧ i ≤ k ∧ k < n
  | [], _, _, _, hv => by cases hv
  | _ :: _, i, ⟨k, e, h1, h2, h3⟩, v, hv => by
    rcases List.mem_cons.1 hv with rfl | hv
    · exact ⟨k, e, h1, h2⟩
    · obtain ⟨j, e, h4, h5⟩ := fW.mem h3 v hv
      exact ⟨j, e, by omega, h5⟩
theorem fW.nodup : ∀ {l : List Int} {i : Nat}, fW i n l → l.Nodup
  | [], _, _ => List.nodup_nil
  | x :: xs, i, ⟨k, e, h1, h2, h3⟩ => by
    refine List.nodup_cons.2 ⟨fun hm => ?_, fW.nodup h3⟩
    obtain ⟨j, e2, h4, _⟩ := fW.mem h3 _ hm
    omega
theorem fW.sub : ∀ {l k : List Int} {i : Nat}, k.Sublist l → fW i n l → fW i n k
  | _, _, _, .slnil, _ => trivial
  | _ :: _, _, _, .cons _ h, ⟨k, _, h1, _, h3⟩ => (fW.sub h h3).low' (by omega)
  | _ :: _, _ :: _, _, .cons_cons _ h, ⟨k, e, h1, h2, h3⟩ => ⟨k, e, h1, h2, fW.sub h h3⟩
theorem lu : ∀ (d : Nat) (l : List Int) (i : Nat), l.length < many → (x ∈ tw many d l i ↔ ∃ s, fW i (i + d) s ∧ x = l ++ s ∧ x.length = many)
  | 0, l, i, hl => by
    constructor
    · intro h; exact absurd h List.not_mem_nil
    · rintro ⟨s, hs, rfl, e⟩
      have := hs.len
      rw [List.length_append] at e; omega
  | d + 1, l, i, hl => by
    unfold tw
    rw [List.mem_append]
    constructor
    · rintro (h1 | h1)
      · by_cases e : (l ++ [(i : Int)]).length = many
        · rw [if_pos e] at h1
          have h1 := List.mem_singleton.1 h1
          exact ⟨[(i : Int)], ⟨i, rfl, Nat.le_refl _, by omega, trivial⟩, h1, by rw [h1]; exact e⟩
        · rw [if_neg e] at h1
          obtain ⟨s, hs, e1, e2⟩ := (lu d _ (i + 1) (by rw [List.length_append] at e ⊢; have e : ¬ l.length + 1 = many := e; show l.length + 1 < many; omega)).1 h1
          refine ⟨(i : Int) :: s, ⟨i, rfl, Nat.le_refl _, by omega, ?_⟩, by rw [e1, List.append_assoc]; rfl, e2⟩
          rwa [show i + (d + 1) = i + 1 + d by omega]
      · obtain ⟨s, hs, e1, e2⟩ := (lu d l (i + 1) hl).1 h1
        refine ⟨s, ?_, e1, e2⟩
        rw [show i + (d + 1) = i + 1 + d by omega]
        exact hs.low
    · rintro ⟨s, hs, ex, e0⟩
      have e2 : (l ++ s).length = many := by rw [← ex]; exact e0
      match s, hs, ex, e2 with
      | [], _, _, e2 => rw [List.append_nil] at e2; omega
      | y :: s, ⟨k, e, h1, h2, h3⟩, ex, e2 =>
        by_cases e3 : k = i
        · refine .inl ?_
          rw [← e3]
          rw [e] at ex
          by_cases e4 : (l ++ [(k : Int)]).length = many
          · rw [if_pos e4]
            have : s = [] := by
              rw [List.length_append] at e2 e4
              have e2 : l.length + (s.length + 1) = many := e2
              have e4 : l.length + 1 = many := e4
              exact List.length_eq_zero_iff.1 (by omega)
            rw [ex, this]
            exact List.mem_singleton.2 rfl
          · rw [if_neg e4]
            refine (lu d _ (k + 1) ?_).2 ⟨s, ?_, by rw [ex, List.append_assoc]; rfl, e0⟩
            · rw [List.length_append] at e2 e4 ⊢
              have e2 : l.length + (s.length + 1) = many := e2
              have e4 : ¬ l.length + 1 = many := e4
              show l.length + 1 < many; omega
            · rwa [show k + 1 + d = i + (d + 1) by omega]
        · refine .inr ((lu d l (i + 1) hl).2 ⟨y :: s, ⟨k, e, by omega, by omega, ?_⟩, ex, e0⟩)
          rwa [show i + 1 + d = i + (d + 1) by omega]
theorem m5 : x ∈ tR many lim ↔ fW 0 lim x ∧ x.length = many := by
 unfold tR
 by_cases e : many = 0
 ·rw [if_pos e, List.mem_singleton]
  subst e
  exact ⟨fun h => by subst h; exact ⟨trivial, rfl⟩, fun h => List.length_eq_zero_iff.1 h.2⟩
 rw [if_neg e, lu lim [] 0 (by show 0 < many; omega), Nat.zero_add]
 exact ⟨fun ⟨s, h1, h2, h3⟩ => by rw [List.nil_append] at h2; subst h2; exact ⟨h1, h3⟩, fun h => ⟨x, h.1, rfl, h.2⟩⟩
theorem qh : x ∈ (List.range k).flatMap (fun k => tR k lim) ↔ fW 0 lim x ∧ x.length < k := by
 rw [List.mem_flatMap]
 refine ⟨fun ⟨j, hj, h1⟩ => ?_, fun ⟨h1, h2⟩ => ⟨x.length, List.mem_range.2 h2, m5.2 ⟨h1, rfl⟩⟩⟩
 have h2 := m5.1 h1
 exact ⟨h2.1, by rw [h2.2]; exact List.mem_range.1 hj⟩
theorem xJ (hs : fE h lim = some l) : fW 0 lim l ∧ h l = true ∧ ∀ x, fW 0 lim x → h x = true → l.length ≤ x.length := by
  unfold fE at hs
  have h1 := qh.1 (List.mem_of_find?_eq_some hs)
  refine ⟨h1.1, List.find?_some hs, fun x hx e => ?_⟩
  refine Decidable.byContradiction fun hn => ?_
  obtain ⟨r, hr⟩ := range_split (show l.length < lim + 1 from h1.2)
  rw [hr, List.flatMap_append, List.find?_append] at hs
  cases e2 : List.find? h ((List.range l.length).flatMap fun k => tR k lim) with
  | some u =>
    rw [e2] at hs
    have hs : some u = some l := hs
    cases hs
    have := (qh.1 (List.mem_of_find?_eq_some e2)).2
    omega
  | none =>
    have := List.find?_eq_none.1 e2 x (qh.2 ⟨hx, by omega⟩)
    exact this e
theorem td (hs : fE h lim = none) : ∀ x, fW 0 lim x → h x = false := fun x hx => by
 unfold fE at hs
 have := List.find?_eq_none.1 hs x (qh.2 ⟨hx, by have := hx.len; omega⟩)
 exact Bool.eq_false_iff.2 this
theorem yQ (hh : ∀ x, fW 0 lim x → h x = false) : fE h lim = none := by
 unfold fE
 rw [List.find?_eq_none]
 intro x hx e
 rw [hh x (qh.1 hx).1] at e; cases e
def jX (w : List Int) (n : Nat) : List Int := ((List.range n).filter fun i : Nat => !decide ((i : Int) ∈ w)).map fun i : Nat => (i : Int)
theorem Gx (h : (n : Int) ∈ w) : jX w (n + 1) = jX w n := by
 unfold jX; rw [List.range_succ, List.filter_append, List.filter_cons_of_neg (by simp [h]), List.filter_nil, List.append_nil]
theorem K4 (h : ¬ (n : Int) ∈ w) : jX w (n + 1) = jX w n ++ [(n : Int)] := by
 unfold jX; rw [List.range_succ, List.filter_append, List.filter_cons_of_pos (by simp [h]), List.filter_nil, List.map_append]; rfl
theorem kR : v ∈ jX w n ↔ (∃ k : Nat, v = k ∧ k < n) ∧ ¬ v ∈ w := by
 unfold jX
 rw [List.mem_map]
 constructor
 ·rintro ⟨k, hk, rfl⟩
  rw [List.mem_filter, List.mem_range] at hk
  exact ⟨⟨k, rfl, hk.1⟩, by simpa using hk.2⟩
 rintro ⟨⟨k, rfl, hk⟩, h2⟩
 exact ⟨k, List.mem_filter.2 ⟨List.mem_range.2 hk, by simpa using h2⟩, rfl⟩
theorem sy : ∀ {l : List Int} {i : Nat}, fW i n l → i ≤ n → fW i (n + 1) (l ++ [(n : Int)])
  | [], _, _, h => ⟨n, rfl, h, by omega, trivial⟩
  | _ :: _, _, ⟨k, e, h1, h2, h3⟩, _ => ⟨k, e, h1, by omega, sy h3 (by omega)⟩
theorem fW.up : ∀ {l : List Int} {i : Nat}, fW i n l → fW i (n + 1) l
  | [], _, _ => trivial
  | _ :: _, _, ⟨k, e, h1, h2, h3⟩ => ⟨k, e, h1, by omega, fW.up h3⟩
theorem ko : ∀ n, fW 0 n (jX w n)
  | 0 => trivial
  | n + 1 => by
    by_cases h : (n : Int) ∈ w
    · rw [Gx h]; exact (ko n).up
    · rw [K4 h]; exact sy (ko n) (by omega)
theorem yE {α : Type} [DecidableEq α] : ∀ {l k : List α}, l.Nodup → (∀ x ∈ l, x ∈ k) → l.length ≤ k.length
  | [], _, _, _ => Nat.zero_le _
  | x :: l, k, h, hs => by
    have h1 := List.nodup_cons.1 h
    have h2 : x ∈ k := hs x List.mem_cons_self
    have h3 := yE (l := l) (k := k.erase x) h1.2 fun z hz => (List.mem_erase_of_ne (fun e => h1.1 (by rw [← e]; exact hz))).2 (hs z (List.mem_cons_of_mem _ hz))
    rw [List.length_erase_of_mem h2] at h3
    have := List.length_pos_of_mem h2
    show l.length + 1 ≤ k.length; omega
theorem J6 (hw : fW 0 n w) : (jX w n).length + w.length = n := by
  have h1 : (jX w n ++ w).length ≤ ((List.range n).map fun i : Nat => (i : Int)).length := by
    refine yE (List.nodup_append.2 ⟨(ko n).nodup, hw.nodup, fun a ha b hb e => ?_⟩) fun x hx => ?_
    · subst e; exact (kR.1 ha).2 hb
    · rw [List.mem_map]
      rcases List.mem_append.1 hx with h | h
      · obtain ⟨⟨k, rfl, hk⟩, _⟩ := kR.1 h
        exact ⟨k, List.mem_range.2 hk, rfl⟩
      · obtain ⟨k, rfl, _, hk⟩ := hw.mem x h
        exact ⟨k, List.mem_range.2 hk, rfl⟩
  have h2 : ((List.range n).map fun i : Nat => (i : Int)).length ≤ (jX w n ++ w).length := by
    have hnd : ∀ n, fW 0 n ((List.range n).map fun i : Nat => (i : Int)) := fun n => by
      induction n with
      | zero => exact trivial
      | succ n ih => rw [List.range_succ, List.map_append]; exact sy ih (by omega)
    refine yE (hnd n).nodup fun x hx => ?_
    obtain ⟨k, hk, rfl⟩ := List.mem_map.1 hx
    rw [List.mem_append]
    by_cases e : (k : Int) ∈ w
    · exact .inr e
    · exact .inl (kR.2 ⟨⟨k, rfl, List.mem_range.1 hk⟩, e⟩)
  rw [List.length_append, List.length_map, List.length_range] at h1 h2
  omega
end
section
variable {y : au} {l k w : List Int} {o o' : Bool} {i n : Nat} {a : dZ} {v : Int}
theorem zo (h : i < 8) : nth (bH l o) i = ia l o i := by unfold bH; rw [eo _ h]
theorem nL (hr : y.bt) : b8 y (bH l o) = true ↔ ∃ a, fH y (ia l o) a := by
 have h8 := hr.levels
 rw [tV hr]
 constructor
 ·exact fun ⟨a, h⟩ => ⟨a, h.lens, h.first, h.cont, h.cC, fun i hi e => h.level i hi (by rw [zo (by omega)]; exact e)⟩
 exact fun ⟨a, h⟩ => ⟨a, h.lens, h.first, h.cont, h.cC, fun i hi e => h.level i hi (by rw [zo (by omega)] at e; exact e)⟩
theorem tI (hr : y.bt) (h : ∀ i, i < y.levels.length → ia k o' i = true → ia l o i = true) (ha : b8 y (bH l o) = true) : b8 y (bH k o') = true := by
 obtain ⟨a, f⟩ := (nL hr).1 ha
 exact (nL hr).2 ⟨a, f.lens, f.first, f.cont, f.cC, fun i hi e => f.level i hi (h i hi e)⟩
theorem AO : ia l false i = decide ((i : Int) ∈ l) := by unfold ia; cases decide ((i : Int) ∈ l) <;> rfl
theorem BA : ia l true i = !decide ((i : Int) ∈ l) := by unfold ia; cases decide ((i : Int) ∈ l) <;> rfl
theorem yB (hr : y.bt) : cq y = 0 ↔ b8 y (bH [] true) = true := by
 rw [IX (kT hr), nL hr]
 have h8 := hr.levels
 constructor
 ·exact fun ⟨a, h⟩ => ⟨a, h.lens, h.first, h.cont, h.cC, fun i hi _ => h.level i hi (DH (by omega))⟩
 exact fun ⟨a, h⟩ => ⟨a, h.lens, h.first, h.cont, h.cC, fun i hi _ => h.level i hi (by rw [BA]; rfl)⟩
noncomputable def r8 (y : au) (l : List Int) : Bool := !b8 y (bH l false)
noncomputable def EA (y : au) (l : List Int) : Bool := b8 y (bH l true)
theorem Dn (hr : y.bt) (ho : ¬ cq y = 0) : ∃ l, fE (r8 y) y.levels.length = some l := by
  cases e : fE (r8 y) y.levels.length with
  | some l => exact ⟨l, rfl⟩
  | none =>
    have h1 := td e _ (ko (w := []) y.levels.length)
    unfold r8 at h1
    have h1 : b8 y (bH (jX [] y.levels.length) false) = true := by
      cases h2 : b8 y (bH (jX [] y.levels.length) false) with
      | true => rfl
      | false => rw [h2] at h1; cases h1
    exact absurd ((yB hr).2 (tI hr (fun i hi _ => by rw [AO, decide_eq_true_eq]; exact kR.2 ⟨⟨i, rfl, hi⟩, List.not_mem_nil⟩) h1)) ho
end
end Go.Proofs.YtelbollidfdcjaaGreat
namespace Go.Proofs.YtelbollidfdcjaaGreat
open Go Go.T
structure R6 where
  ls : List Level
  q : Sk
  bad : Nat
section
variable {ls : List Level} {q : Sk} {k i n : Nat} {s : R6}
structure R9 (ls : List Level) (q : Sk) (k : Nat) (s : R6) : Prop where
  len : s.ls.length = ls.length
  low : q.taken ≤ s.q.taken
  high : s.q.taken ≤ q.taken + 3 * k
  R3 : ∀ i, i < ls.length → ((nth s.ls i).day = (nth ls i).day ∧ (nth s.ls i).bin = (nth ls i).bin) ∧ ((nth s.ls i).sacks = (nth ls i).sacks ∨ (0 ≤ (nth s.ls i).sacks.lo ∧ (nth s.ls i).sacks.hi ≤ 300) ∧ (nth s.ls i).sacks.lo ≤ (nth s.ls i).sacks.hi)
  diff : ∃ B : List Int, fW 0 k B ∧ B.length = s.bad ∧ ∀ i, i < ls.length → ¬ (i : Int) ∈ B → nth s.ls i = nth ls i
end
section
variable {y : au} {q : Sk} {a : dZ} {l w : List Int} {k i : Nat} {v : Int}
theorem Jo (hr : y.bt) (hn : l.Nodup) (hm : ∀ x ∈ l, ∃ k : Nat, x = k ∧ k < y.levels.length) : q8 y l = 0 ∧ xG y l = b8 y (bH l false) := by
 have h := MH (kT hr) (l := l) (List.all_eq_true.2 fun x hx => by
  obtain ⟨k, rfl, hk⟩ := hm x hx
  unfold Bb
  rw [Bool.and_eq_true, decide_eq_true_eq, decide_eq_true_eq]; omega) hn
 exact ⟨h.1.symm, h.2.symm⟩
structure yT (z : au) (n bad : Nat) : Prop where
  right : z.bt
  len : z.levels.length = n
  free : ∃ B a, fW 0 n B ∧ B.length = bad ∧ fH z (ia B true) a
variable {z : au} {n bad : Nat}
theorem yT.Kw (h : yT z n bad) : iP z = 0 ∧ fW 0 n (eL z) ∧ b8 z (bH (eL z) true) = true ∧ (∀ x, fW 0 n x → b8 z (bH x true) = true → (eL z).length ≤ x.length) ∧ (eL z).length ≤ bad := by
  obtain ⟨B, a, hB, hl, hf⟩ := h.free
  have hag : b8 z (bH B true) = true := (nL h.right).2 ⟨a, hf⟩
  have hn := h.len
  cases e : fE (EA z) z.levels.length with
  | none =>
    have h1 := td e B (by rw [hn]; exact hB)
    have h1 : b8 z (bH B true) = false := h1
    rw [hag] at h1; cases h1
  | some w =>
    have hw := qc (kT h.right) (by
      show (!(fE (EA z) z.levels.length).isSome) = false
      rw [e]; rfl)
    have e2 : eL z = w := by
      rw [← hw.2]
      show qD (EA z) z.levels.length = w
      unfold qD; rw [e]; rfl
    have hs := xJ e
    rw [hn] at hs
    rw [e2]
    exact ⟨hw.1.symm, hs.1, hs.2.1, hs.2.2, by rw [← hl]; exact hs.2.2 B hB hag⟩
theorem yT.MF (h : yT z n bad) (ho : ¬ cq z = 0) : iK z = 0 ∧ (fW 0 n (fU z) ∧ b8 z (bH (fU z) false) = false ∧ ∀ x, fW 0 n x → x.length < (fU z).length → b8 z (bH x false) = true) ∧ ¬ (eL z).length = 0 ∧ ¬ (fU z).length = 0 := by
  obtain ⟨l, e⟩ := Dn h.right ho
  have hw := qg (kT h.right) (by show (!(fE (r8 z) z.levels.length).isSome) = false; rw [e]; rfl)
  have e2 : fU z = l := by
    rw [← hw.2]
    show qD (r8 z) z.levels.length = l
    unfold qD; rw [e]; rfl
  have hs := xJ e
  rw [h.len] at hs
  have hb : ∀ x, r8 z x = true ↔ b8 z (bH x false) = false := fun x => by unfold r8; cases b8 z (bH x false) <;> simp
  have h0 : ¬ l.length = 0 := fun hl => by
    obtain rfl := List.length_eq_zero_iff.1 hl
    obtain ⟨B, a, _, _, hf⟩ := h.free
    have h1 := (hb []).1 hs.2.1
    rw [tI (l := B) (o := true) h.right (fun i _ hc => by rw [AO] at hc; simp at hc) ((nL h.right).2 ⟨a, hf⟩)] at h1
    cases h1
  rw [e2]
  refine ⟨hw.1.symm, ⟨hs.1, (hb l).1 hs.2.1, fun x hx hlt => ?_⟩, fun hl => ?_, h0⟩
  · cases e3 : b8 z (bH x false) with
    | true => rfl
    | false => have := hs.2.2 x hx ((hb x).2 e3); omega
  · have := h.Kw.2.2.1
    rw [List.length_eq_zero_iff.1 hl] at this
    exact ho ((yB h.right).2 this)
theorem yT.rest (h : yT z n bad) : q8 z (jX (eL z) n) = 0 ∧ xG z (jX (eL z) n) = true ∧ (jX (eL z) n).length + (eL z).length = n := by
 have hw := h.Kw
 have h1 := Jo h.right (ko (w := eL z) n).nodup fun x hx => by
  obtain ⟨k, e, _, hk⟩ := (ko n).mem x hx
  exact ⟨k, e, by rw [h.len]; exact hk⟩
 refine ⟨h1.1, ?_, J6 hw.2.1⟩
 rw [h1.2]
 exact tI h.right (fun i _ hc => by
  rw [AO, decide_eq_true_eq] at hc
  rw [BA]
  simpa using (kR.1 hc).2) hw.2.2.1
theorem yT.more (h : yT z n bad) (hv : v ∈ eL z) : q8 z (jX (eL z) n ++ [v]) = 0 ∧ xG z (jX (eL z) n ++ [v]) = false := by
 have hw := h.Kw
 have hna := hw.2.1.nodup
 have h1 := Jo (l := jX (eL z) n ++ [v]) h.right (xw (ko (w := eL z) n).nodup fun hm => (kR.1 hm).2 hv) fun x hx => by
  rcases List.mem_append.1 hx with hx | hx
  ·obtain ⟨k, e, _, hk⟩ := (ko n).mem x hx
   exact ⟨k, e, by rw [h.len]; exact hk⟩
  obtain rfl := List.mem_singleton.1 hx
  obtain ⟨k, e, _, hk⟩ := hw.2.1.mem x hv
  exact ⟨k, e, by rw [h.len]; exact hk⟩
 refine ⟨h1.1, ?_⟩
 rw [h1.2, Bool.eq_false_iff]
 intro hc
 have h2 := hw.2.2.2.1 ((eL z).erase v) (hw.2.1.sub List.erase_sublist) (tI h.right (fun i hi hc => by
  rw [h.len] at hi
  rw [BA] at hc
  have hc : ¬ (i : Int) ∈ (eL z).erase v := by simpa using hc
  rw [AO, decide_eq_true_eq, List.mem_append]
  by_cases e : (i : Int) = v
  ·exact .inr (List.mem_singleton.2 e)
  exact .inl (kR.2 ⟨⟨i, rfl, hi⟩, fun hm => hc ((List.mem_erase_of_ne e).2 hm)⟩)) hc)
 rw [List.length_erase_of_mem hv] at h2
 have := List.length_pos_of_mem hv
 omega
theorem yT.less (h : yT z n bad) (ho : ¬ cq z = 0) (hk : k < (fU z).length) : q8 z ((fU z).eraseIdx k) = 0 ∧ xG z ((fU z).eraseIdx k) = true := by
 have hc := (h.MF ho).2.1
 have hs := hc.1.sub (List.eraseIdx_sublist (fU z) k)
 have h1 := Jo (l := (fU z).eraseIdx k) h.right hs.nodup fun x hx => by
  obtain ⟨k, e, _, hk⟩ := hs.mem x hx
  exact ⟨k, e, by rw [h.len]; exact hk⟩
 exact ⟨h1.1, by rw [h1.2]; exact hc.2.2 _ hs (by rw [List.length_eraseIdx_of_lt hk]; omega)⟩
end
end Go.Proofs.YtelbollidfdcjaaGreat
namespace Go.Proofs.YtelbollidfdcjaaGreat
open Go Go.T
set_option maxHeartbeats 16000000
section
variable {y : au} {m : Int → Bool} {o : Bool} {b t k : Nat} {fl : List cB}
end
attribute [local irreducible] aR gz Way.iA Way.fin Way.room eR dz ef gW over bO cO dY eT jP fC hH j0 cU gP gA gD cw cN gY oo iS ij jD gp Bc yl iB au.kept au.cells bL eC bf gG kS cq oc ow jq jE kr mU hasB sH rF qw sj oq kM nD kG wA gQ jH IN FH rA b8 bH iF Bb q8 xG
attribute [local irreducible] gL eX lN nh gy g6 gu gw gx nj gr ni dN fX nH fu nZ nth fP dQ bA dJ bodyPost Exit.then Exit.inBlock Code.wp Code.wpIn nW g7 nY nV g8 eP cL cM bodyPostM dR
end Go.Proofs.YtelbollidfdcjaaGreat
namespace Go.Proofs.YtelbollidfdcjaaGreat
open Go Go.T
section
variable {y : au} {fl : List cB} {a : List Int} {n b t k : Nat} {p : Dd} {f : cB} {m : Int → Bool} {o : Bool} {c s : Int}
end
section
variable {y : au} {p : Dd}
end
end Go.Proofs.YtelbollidfdcjaaGreat
namespace Go.Proofs.YtelbollidfdcjaaGreat
open Go Go.T
section
variable {g : Nat → Bool} {v : Nat → Int} {k : Nat}
end
section
variable {y : au} {l : List Be} {b t k i : Nat} {c : Nat → Bool} {s : Span}
end
end Go.Proofs.YtelbollidfdcjaaGreat
namespace Go.Proofs.YtelbollidfdcjaaGreat
open Go Go.T
def lexB : List Int → List Int → Bool
  | x :: a, y :: b => if x = y then lexB a b else decide (x < y)
  | _, _ => false
def lq (a b : List Int) : Bool := if a.length = b.length then lexB a b else decide (a.length < b.length)
section
variable {a b c l o x : List Int} {h : List Int → Bool} {many lim i k n : Nat} {u v : Int}
theorem Ew : ∀ {a : List Int}, lexB a a = false
  | [] => rfl
  | x :: a => by unfold lexB; rw [if_pos rfl]; exact Ew
theorem NQ : lq a a = false := by unfold lq; rw [if_pos rfl]; exact Ew
theorem lex_trans : ∀ {a b c : List Int}, lexB a b = true → lexB b c = true → lexB a c = true
  | [], _, _, h, _ => by unfold lexB at h; cases h
  | _ :: _, [], _, h, _ => by unfold lexB at h; cases h
  | _ :: _, _ :: _, [], _, h => by unfold lexB at h; cases h
  | x :: a, y :: b, z :: c, h1, h2 => by
    unfold lexB at h1 h2 ⊢
    by_cases e1 : x = y
    · rw [if_pos e1] at h1
      subst e1
      by_cases e2 : x = z
      · rw [if_pos e2] at h2 ⊢; exact lex_trans h1 h2
      · rw [if_neg e2] at h2 ⊢; exact h2
    · rw [if_neg e1, decide_eq_true_eq] at h1
      by_cases e2 : y = z
      · subst e2; rw [if_neg e1, decide_eq_true_eq]; exact h1
      · rw [if_neg e2, decide_eq_true_eq] at h2
        rw [if_neg (by omega), decide_eq_true_eq]; omega
theorem HB (h1 : lq a b = true) (h2 : lq b c = true) : lq a c = true := by
 unfold lq at *
 by_cases e1 : a.length = b.length
 ·rw [if_pos e1] at h1
  by_cases e2 : b.length = c.length
  ·rw [if_pos e2] at h2; rw [if_pos (e1.trans e2)]; exact lex_trans h1 h2
  rw [if_neg e2, decide_eq_true_eq] at h2; rw [if_neg (by omega), decide_eq_true_eq]; omega
 rw [if_neg e1, decide_eq_true_eq] at h1
 by_cases e2 : b.length = c.length
 ·rw [if_neg (by omega), decide_eq_true_eq]; omega
 rw [if_neg e2, decide_eq_true_eq] at h2; rw [if_neg (by omega), decide_eq_true_eq]; omega
theorem GN : ∀ {l : List Int}, lexB (l ++ a) (l ++ b) = lexB a b
  | [] => rfl
  | x :: l => by
    show lexB (x :: (l ++ a)) (x :: (l ++ b)) = _
    have e : lexB (x :: (l ++ a)) (x :: (l ++ b)) = lexB (l ++ a) (l ++ b) := if_pos rfl
    rw [e]; exact GN
theorem Kx (huv : u < v) : lexB (u :: a) (v :: b) = true := by unfold lexB; rw [if_neg (by omega), decide_eq_true huv]
theorem xj : ∀ (d : Nat) (l : List Int) (i : Nat), l.length < many → (tw many d l i).Pairwise fun a b => lexB a b = true
  | 0, _, _, _ => List.Pairwise.nil
  | d + 1, l, i, hl => by
    unfold tw
    rw [List.pairwise_append]
    refine ⟨?_, xj d l (i + 1) hl, fun a ha b hb => ?_⟩
    · by_cases e : (l ++ [(i : Int)]).length = many
      · rw [if_pos e]; exact List.pairwise_singleton _ _
      · rw [if_neg e]
        exact xj d _ (i + 1) (by rw [List.length_append] at e ⊢; have e : ¬ l.length + 1 = many := e; show l.length + 1 < many; omega)
    · obtain ⟨s', hs', eb, elb⟩ := (lu d l (i + 1) hl).1 hb
      obtain ⟨s, ea⟩ : ∃ s, a = l ++ (i : Int) :: s := by
        by_cases e : (l ++ [(i : Int)]).length = many
        · rw [if_pos e] at ha; exact ⟨[], List.mem_singleton.1 ha⟩
        · rw [if_neg e] at ha
          obtain ⟨s, _, ea, _⟩ := (lu d _ (i + 1) (by rw [List.length_append] at e ⊢; have e : ¬ l.length + 1 = many := e; show l.length + 1 < many; omega)).1 ha
          exact ⟨s, by rw [ea, List.append_assoc]; rfl⟩
      rw [ea, eb, GN]
      cases s' with
      | nil => rw [eb, List.append_nil] at elb; omega
      | cons z s' =>
        obtain ⟨k, ek, h1, _⟩ := hs'
        exact Kx (by omega)
theorem Ja : (tR many lim).Pairwise fun a b => lexB a b = true := by
 unfold tR
 split
 ·exact List.pairwise_singleton _ _
 rename_i h
 exact xj lim [] 0 (by show 0 < many; omega)
theorem M9 : ((List.range n).flatMap fun k => tR k lim).Pairwise fun a b => lq a b = true := by
 rw [List.pairwise_flatMap]
 refine ⟨fun k _ => ?_, ?_⟩
 ·refine (Ja (many := k) (lim := lim)).imp_of_mem fun {a b} ha hb h => ?_
  unfold lq
  rw [if_pos ((m5.1 ha).2.trans (m5.1 hb).2.symm)]; exact h
 refine (List.pairwise_lt_range (n := n)).imp fun {j k} hjk a ha b hb => ?_
 have h1 := (m5.1 ha).2
 have h2 := (m5.1 hb).2
 unfold lq
 rw [if_neg (by omega), decide_eq_true (by omega)]
theorem Cz (hs : fE h lim = some l) : ∀ x, fW 0 lim x → h x = true → x = l ∨ lq l x = true := fun x hx hhx => by
 unfold fE at hs
 rw [List.find?_eq_some_iff_append] at hs
 obtain ⟨_, pre, post, e, hno⟩ := hs
 have hm : x ∈ (List.range (lim + 1)).flatMap fun k => tR k lim := qh.2 ⟨hx, by have := hx.len; omega⟩
 have hp := M9 (n := lim + 1) (lim := lim)
 rw [e] at hm hp
 rcases List.mem_append.1 hm with hm | hm
 ·have := hno x hm
  rw [hhx] at this; cases this
 rcases List.mem_cons.1 hm with rfl | hm
 ·exact .inl rfl
 rw [List.pairwise_append] at hp
 exact .inr ((List.pairwise_cons.1 hp.2.1).1 x hm)
theorem FZ : ∀ {l k : List Int} {i : Nat}, fW i n l → fW i n k → (∀ v, v ∈ l ↔ v ∈ k) → l = k
  | [], [], _, _, _, _ => rfl
  | [], y :: _, _, _, _, h => absurd ((h y).2 List.mem_cons_self) List.not_mem_nil
  | x :: _, [], _, _, _, h => absurd ((h x).1 List.mem_cons_self) List.not_mem_nil
  | x :: xs, y :: ys, i, ⟨p, ep, p1, p2, p3⟩, ⟨q, eq, q1, q2, q3⟩, h => by
    have hx : ∀ v ∈ xs, x < v := fun v hv => by obtain ⟨j, e, h1, _⟩ := p3.mem v hv; omega
    have hy : ∀ v ∈ ys, y < v := fun v hv => by obtain ⟨j, e, h1, _⟩ := q3.mem v hv; omega
    have exy : x = y := by
      rcases List.mem_cons.1 ((h x).1 List.mem_cons_self) with e | e
      · exact e
      · rcases List.mem_cons.1 ((h y).2 List.mem_cons_self) with e2 | e2
        · exact e2.symm
        · have := hx _ e2; have := hy _ e; omega
    subst exy
    have epq : p = q := by omega
    subst epq
    rw [FZ p3 q3 fun v => ?_]
    constructor
    · intro hv
      rcases List.mem_cons.1 ((h v).1 (List.mem_cons_of_mem _ hv)) with e | e
      · have := hx v hv; omega
      · exact e
    · intro hv
      rcases List.mem_cons.1 ((h v).2 (List.mem_cons_of_mem _ hv)) with e | e
      · have := hy v hv; omega
      · exact e
def fV (n k : Nat) : List Int := ((List.range k).filter fun i => n.testBit i).map fun i : Nat => (i : Int)
theorem HM : [] = fV n 0 := rfl
theorem CI (h : n.testBit k = true) : fV n k ++ [(k : Int)] = fV n (k + 1) := by
 unfold fV; rw [List.range_succ, List.filter_append, List.map_append, List.filter_cons, h]; rfl
theorem A5 (h : n.testBit k = false) : fV n k = fV n (k + 1) := by
 unfold fV; rw [List.range_succ, List.filter_append, List.map_append, List.filter_cons, h]; simp
theorem Bn : v ∈ fV n k ↔ ∃ i : Nat, v = i ∧ i < k ∧ n.testBit i = true := by
 unfold fV
 rw [List.mem_map]
 constructor
 ·rintro ⟨i, hi, rfl⟩
  rw [List.mem_filter, List.mem_range] at hi
  exact ⟨i, rfl, hi⟩
 rintro ⟨i, rfl, hi⟩
 exact ⟨i, List.mem_filter.2 ⟨List.mem_range.2 hi.1, hi.2⟩, rfl⟩
theorem pX : ∀ k, fW 0 k (fV n k)
  | 0 => trivial
  | k + 1 => by
    have ih := pX k
    cases e : n.testBit k with
    | true => rw [← CI e]; exact sy ih (Nat.zero_le _)
    | false => rw [← A5 e]; exact ih.up
theorem Lo : (fV n k).length ≤ k := by have := (pX (n := n) k).len; omega
theorem CJ (h : n < 2 ^ k) (hi : k ≤ i) : n.testBit i = false := Nat.testBit_lt_two_pow (Nat.lt_of_lt_of_le h (Nat.pow_le_pow_right (by decide) hi))
theorem zY (h : n < 2 ^ k) : ∀ d, fV n (k + d) = fV n k
  | 0 => rfl
  | d + 1 => by
    have ih := zY h d
    show fV n (k + d + 1) = _
    rw [← A5 (CJ h (by omega))]; exact ih
theorem I9 (h : n < 2 ^ k) (hk : k ≤ 8) : fV n 8 = fV n k := by
 have := zY h (8 - k)
 rwa [show k + (8 - k) = 8 by omega] at this
theorem vu : (((n / 2 ^ k % 2 : Nat) : Int) = 1) ↔ n.testBit k = true := by
 rw [Nat.testBit_eq_decide_div_mod_eq, decide_eq_true_eq]; omega
def qA (f : Nat → Bool) : Nat → Nat
  | 0 => 0
  | k + 1 => qA f k + if f k = true then 2 ^ k else 0
theorem tF {f : Nat → Bool} : ∀ k, qA f k < 2 ^ k
  | 0 => Nat.one_pos
  | k + 1 => by
    have ih := tF (f := f) k
    unfold qA
    rw [Nat.pow_succ]
    split <;> omega
theorem nU {f : Nat → Bool} : ∀ k i, (qA f k).testBit i = (decide (i < k) && f i)
  | 0, i => by unfold qA; rw [Nat.zero_testBit, decide_eq_false (Nat.not_lt_zero i)]; rfl
  | k + 1, i => by
    have ih := nU (f := f) k i
    unfold qA
    have hlt := tF (f := f) k
    by_cases c : f k = true
    · rw [if_pos c, Nat.add_comm]
      by_cases e : i = k
      · subst e
        rw [Nat.testBit_two_pow_add_eq, ih, decide_eq_false (Nat.lt_irrefl _), decide_eq_true (Nat.lt_succ_self _), c]; rfl
      · by_cases g : i < k
        · rw [Nat.testBit_two_pow_add_gt g, ih, decide_eq_true g, decide_eq_true (by omega)]
        · rw [CJ (k := k + 1) (by rw [Nat.pow_succ]; omega) (by omega), decide_eq_false (by omega)]; rfl
    · rw [if_neg c, Nat.add_zero, ih]
      by_cases e : i = k
      · subst e
        rw [decide_eq_false (Nat.lt_irrefl _), decide_eq_true (Nat.lt_succ_self _)]
        cases h : f i with
        | true => exact absurd h c
        | false => rfl
      · congr 1
        rw [Bool.eq_iff_iff, decide_eq_true_eq, decide_eq_true_eq]; omega
theorem DX {f g : Nat → Bool} {j : Nat} (hj : f j = false) (hg : ∀ i, g i = (f i || decide (i = j))) : ∀ k, qA g k = qA f k + if j < k then 2 ^ j else 0
  | 0 => rfl
  | k + 1 => by
    have ih := DX hj hg k
    unfold qA
    rw [ih, hg k]
    by_cases e : k = j
    · subst e
      rw [hj, decide_eq_true rfl, if_neg (Nat.lt_irrefl _), if_pos (Nat.lt_succ_self _)]
      simp
    · rw [decide_eq_false e, Bool.or_false]
      by_cases c : j < k
      · rw [if_pos c, if_pos (show j < k + 1 by omega)]; omega
      · rw [if_neg c, if_neg (show ¬ j < k + 1 by omega)]; omega
def BE (a b : Nat) : Bool := decide (a &&& b = 0)
theorem qM {a b : Nat} : BE a b = true ↔ ∀ i, ¬ (a.testBit i = true ∧ b.testBit i = true) := by
  unfold BE
  rw [decide_eq_true_eq]
  constructor
  · intro h i hi
    have : (a &&& b).testBit i = true := by rw [Nat.testBit_and, hi.1, hi.2]; rfl
    rw [h, Nat.zero_testBit] at this; cases this
  · intro h
    refine Nat.eq_of_testBit_eq fun i => ?_
    rw [Nat.testBit_and, Nat.zero_testBit]
    cases ha : a.testBit i with
    | false => rfl
    | true =>
      cases hb : b.testBit i with
      | false => rfl
      | true => exact absurd ⟨ha, hb⟩ (h i)
theorem Ib {a b : Nat} (h : a = 0 ∨ b = 0) : BE a b = true := by
 rw [qM]
 intro i hi
 rcases h with rfl | rfl <;> simp at hi
theorem L9 {a b : Nat} (h1 : a % 2 = 1) (h2 : b % 2 = 1) : BE a b = false := by
  cases e : BE a b with
  | false => rfl
  | true => exact absurd ⟨by rw [Nat.testBit_zero]; exact decide_eq_true h1, by rw [Nat.testBit_zero]; exact decide_eq_true h2⟩ (qM.1 e 0)
theorem Iu {a b : Nat} (h : ¬ (a % 2 = 1 ∧ b % 2 = 1)) : BE (a / 2) (b / 2) = BE a b := by
  rw [Bool.eq_iff_iff, qM, qM]
  constructor
  · intro hx i
    cases i with
    | zero => rw [Nat.testBit_zero, Nat.testBit_zero, decide_eq_true_eq, decide_eq_true_eq]; exact h
    | succ i => rw [Nat.testBit_succ, Nat.testBit_succ]; exact hx i
  · intro hx i
    have := hx (i + 1)
    rwa [Nat.testBit_succ, Nat.testBit_succ] at this
end
end Go.Proofs.YtelbollidfdcjaaGreat
namespace Go.Proofs.YtelbollidfdcjaaGreat
open Go Go.T
def iN (f : nX) (n : Nat) : Bool := (List.range 256).any fun m => nth f.missed m && BE m n
def fR (P : Nat → Bool) : Nat → Bool × List Int
  | 0 => (false, [])
  | n + 1 => if ((!(fR P n).1 || lq (fV n 8) (fR P n).2) && P n) = true then (true, fV n 8) else fR P n
section
variable {y : au} {f : nX} {P : Nat → Bool} {h : List Int → Bool} {w x l : List Int} {o : Bool} {n k L : Nat} {a : dZ}
theorem C0 : false = (fR P 0).1 ∧ [] = (fR P 0).2 := ⟨rfl, rfl⟩
theorem tG (h : ((!(fR P n).1 || lq (fV n 8) (fR P n).2) && P n) = true) : true = (fR P (n + 1)).1 ∧ fV n 8 = (fR P (n + 1)).2 := by
 have e : fR P (n + 1) = (true, fV n 8) := if_pos h
 rw [e]; exact ⟨rfl, rfl⟩
theorem xE (h : ((!(fR P n).1 || lq (fV n 8) (fR P n).2) && P n) = false) : (fR P n).1 = (fR P (n + 1)).1 ∧ (fR P n).2 = (fR P (n + 1)).2 := by
 have e : fR P (n + 1) = fR P n := if_neg (by rw [h]; decide)
 rw [e]; exact ⟨rfl, rfl⟩
theorem CU : ∀ n, ((fR P n).1 = false → (fR P n).2 = [] ∧ ∀ m, m < n → P m = false) ∧ ((fR P n).1 = true → (∃ m, m < n ∧ P m = true ∧ (fR P n).2 = fV m 8) ∧ ∀ m, m < n → P m = true → lq (fV m 8) (fR P n).2 = false)
  | 0 => ⟨fun _ => ⟨rfl, fun m hm => absurd hm (Nat.not_lt_zero m)⟩, fun e => by cases e⟩
  | n + 1 => by
    obtain ⟨ih1, ih2⟩ := CU n
    cases e : ((!(fR P n).1 || lq (fV n 8) (fR P n).2) && P n) with
    | true =>
      obtain ⟨e1, e2⟩ := tG e
      rw [← e1, ← e2]
      rw [Bool.and_eq_true] at e
      refine ⟨fun x => (by cases x), fun _ => ⟨⟨n, Nat.lt_succ_self n, e.2, rfl⟩, fun m hm hp => ?_⟩⟩
      rcases Nat.lt_succ_iff_lt_or_eq.1 hm with h | h
      · cases c : (fR P n).1 with
        | false => have := (ih1 c).2 m h; rw [hp] at this; cases this
        | true =>
          have h1 := (ih2 c).2 m h hp
          have h2 := e.1
          rw [c, Bool.not_true, Bool.false_or] at h2
          cases d : lq (fV m 8) (fV n 8) with
          | false => rfl
          | true => rw [HB d h2] at h1; cases h1
      · subst h; exact NQ
    | false =>
      obtain ⟨e1, e2⟩ := xE e
      rw [← e1, ← e2]
      have key : P n = true → (fR P n).1 = true ∧ lq (fV n 8) (fR P n).2 = false := fun hp => by
        rw [hp, Bool.and_true, Bool.or_eq_false_iff, Bool.not_eq_false'] at e; exact e
      refine ⟨fun c => ⟨(ih1 c).1, fun m hm => ?_⟩, fun c => ⟨?_, fun m hm hp => ?_⟩⟩
      · rcases Nat.lt_succ_iff_lt_or_eq.1 hm with h | h
        · exact (ih1 c).2 m h
        · subst h
          cases hp : P m with
          | false => rfl
          | true => have := (key hp).1; rw [c] at this; cases this
      · obtain ⟨m, hm, h2⟩ := (ih2 c).1; exact ⟨m, by omega, h2⟩
      · rcases Nat.lt_succ_iff_lt_or_eq.1 hm with h | h
        · exact (ih2 c).2 m h hp
        · subst h; exact (key hp).2
theorem Nx (hx : fW 0 L x) : qA (fun i => decide ((i : Int) ∈ x)) L < 2 ^ L ∧ fV (qA (fun i => decide ((i : Int) ∈ x)) L) L = x := by
 refine ⟨tF _, FZ (pX L) hx fun v => ?_⟩
 rw [Bn]
 constructor
 ·rintro ⟨i, rfl, hi, hb⟩
  rw [nU, decide_eq_true hi, Bool.true_and, decide_eq_true_eq] at hb; exact hb
 intro hv
 obtain ⟨k, e, _, hk⟩ := hx.mem v hv
 exact ⟨k, e, hk, by rw [nU, decide_eq_true hk, Bool.true_and, decide_eq_true_eq, ← e]; exact hv⟩
theorem zQ (hL : L ≤ 8) (hP : ∀ n, n < 2 ^ L → P n = h (fV n L)) : (fR P (2 ^ L)).1 = tO h L ∧ (fR P (2 ^ L)).2 = qD h L := by
  obtain ⟨h1, h2⟩ := CU (P := P) (2 ^ L)
  unfold tO qD
  have all : ∀ x, fW 0 L x → ∃ n, n < 2 ^ L ∧ fV n L = x ∧ P n = h x := fun x hx => by
    obtain ⟨a, b⟩ := Nx hx
    exact ⟨_, a, b, by rw [hP _ a, b]⟩
  cases c : (fR P (2 ^ L)).1 with
  | false =>
    have hn : fE h L = none := yQ fun x hx => by
      obtain ⟨n, hn, _, e⟩ := all x hx
      rw [← e]; exact (h1 c).2 n hn
    rw [hn]; exact ⟨rfl, (h1 c).1⟩
  | true =>
    obtain ⟨⟨m, hm, hp, e⟩, hall⟩ := h2 c
    have e8 : ∀ n, n < 2 ^ L → fV n 8 = fV n L := fun n hn => I9 hn hL
    rw [e8 m hm] at e
    have hhm : h (fV m L) = true := by rw [← hP m hm]; exact hp
    cases d : fE h L with
    | none => have := td d _ (pX L (n := m)); rw [hhm] at this; cases this
    | some l =>
      refine ⟨rfl, ?_⟩
      obtain ⟨a1, a2, _⟩ := xJ d
      rw [e]
      show _ = l
      rcases Cz d _ (pX L (n := m)) hhm with g | g
      · exact g
      · obtain ⟨n, hn, en, ep⟩ := all l a1
        have := hall n hn (by rw [ep]; exact a2)
        rw [e8 n hn, en, e, g] at this; cases this
theorem GL : ∀ k, DB k = ((2 ^ k : Nat) : Int)
  | 0 => rfl
  | k + 1 => by show 2 * DB k = _; rw [GL k, Nat.pow_succ]; omega
theorem BF : ∀ k, iH y a k = ((qA (sG y a) k : Nat) : Int)
  | 0 => rfl
  | k + 1 => by
    have ih := BF k
    have hp := GL k
    show iH y a k + (if sG y a k = true then DB k else 0) = ((qA (sG y a) k + (if sG y a k = true then 2 ^ k else 0) : Nat) : Int)
    rw [ih, hp]
    split <;> simp
theorem Ip (hr : y.bt) {c : Nat → Bool} (hc : ∀ i, i < y.levels.length → n.testBit i = c i) : iN (oG y) n = true ↔ ∃ a, fH y c a := by
  have hL := hr.levels
  unfold iN
  rw [List.any_eq_true]
  have hsh := (AF (y := y)).missed
  constructor
  · rintro ⟨m, hm, h⟩
    rw [Bool.and_eq_true] at h
    have hm := List.mem_range.1 hm
    obtain ⟨a, ha, e⟩ := (yK hr hm).1 h.1
    rw [BF] at e
    have em : m = qA (sG y a) y.levels.length := by omega
    have hap := qM.1 h.2
    refine ⟨a, ha.lens, ha.first, ha.cont, ha.cC, fun i hi hci => (GF hr hi).1 ?_⟩
    cases d : sG y a i with
    | false => rfl
    | true => exact absurd ⟨by rw [em, nU, decide_eq_true hi, d]; rfl, by rw [hc i hi]; exact hci⟩ (hap i)
  · rintro ⟨a, ha⟩
    have h0 : fH y (fun _ => false) a := ⟨ha.lens, ha.first, ha.cont, ha.cC, fun _ _ e => by cases e⟩
    have hlt : qA (sG y a) y.levels.length < 256 := Nat.lt_of_lt_of_le (tF _) (Nat.pow_le_pow_right (n := 2) (by decide) hL)
    refine ⟨qA (sG y a) y.levels.length, List.mem_range.2 hlt, ?_⟩
    rw [Bool.and_eq_true]
    refine ⟨(yK hr hlt).2 ⟨a, h0, BF _⟩, qM.2 fun i hi => ?_⟩
    rw [nU, Bool.and_eq_true, decide_eq_true_eq] at hi
    have h1 := (GF (a := a) hr hi.1.1).2 (ha.level i hi.1.1 (by rw [← hc i hi.1.1]; exact hi.2))
    rw [hi.1.2] at h1; cases h1
theorem EM (hr : y.bt) (hc : ∀ i, i < y.levels.length → n.testBit i = ia w o i) : iN (oG y) n = b8 y (bH w o) := by
 rw [Bool.eq_iff_iff, Ip hr hc, nL hr]
theorem E3 (hk : k < L) : decide ((k : Int) ∈ fV n L) = n.testBit k := by
 rw [Bool.eq_iff_iff, decide_eq_true_eq, Bn]
 constructor
 ·rintro ⟨i, e, _, h⟩
  rw [Int.ofNat.inj e]; exact h
 intro h; exact ⟨k, rfl, hk, h⟩
theorem zl (hr : y.bt) : (fR (fun n => !iN (oG y) n) (2 ^ y.levels.length)).1 = tO (fun l => !b8 y (bH l false)) y.levels.length ∧ (fR (fun n => !iN (oG y) n) (2 ^ y.levels.length)).2 = qD (fun l => !b8 y (bH l false)) y.levels.length :=
 zQ hr.levels fun n hn => by
  show (!iN (oG y) n) = !b8 y (bH (fV n y.levels.length) false)
  rw [EM hr (w := fV n y.levels.length) (o := false) fun i hi => by rw [AO, E3 hi]]
theorem zb (hr : y.bt) : (fR (fun n => iN (oG y) (2 ^ y.levels.length - 1 - n)) (2 ^ y.levels.length)).1 = tO (fun l => b8 y (bH l true)) y.levels.length ∧ (fR (fun n => iN (oG y) (2 ^ y.levels.length - 1 - n)) (2 ^ y.levels.length)).2 = qD (fun l => b8 y (bH l true)) y.levels.length :=
 zQ hr.levels fun n hn => by
  show iN (oG y) (2 ^ y.levels.length - 1 - n) = b8 y (bH (fV n y.levels.length) true)
  rw [EM hr (w := fV n y.levels.length) (o := true) fun i hi => by
   rw [BA, E3 hi, show 2 ^ y.levels.length - 1 - n = 2 ^ y.levels.length - (n + 1) by omega, Nat.testBit_two_pow_sub_succ hn, decide_eq_true hi, Bool.true_and]]
def kD (l : List Int) : Nat := qA (fun i => decide ((i : Int) ∈ l)) 8
theorem Lu : kD l < 256 := tF 8
theorem vr (hk : k < 8) : (kD l).testBit k = decide ((k : Int) ∈ l) := by
 unfold kD; rw [nU, decide_eq_true hk, Bool.true_and]
theorem Lz (hk : k < 8) (h : (kD l).testBit k = false) : kD l + 2 ^ k = kD (l ++ [(k : Int)]) := by
 rw [vr hk] at h
 unfold kD
 rw [DX (f := fun i : Nat => decide ((i : Int) ∈ l)) (g := fun i : Nat => decide ((i : Int) ∈ l ++ [(k : Int)])) (j := k) h (fun i => by
  rw [Bool.eq_iff_iff]; simp only [decide_eq_true_eq, Bool.or_eq_true, List.mem_append, List.mem_singleton]
  constructor
  ·rintro (e | e)
   ·exact .inl e
   exact .inr (Int.ofNat.inj e)
  rintro (e | e)
  ·exact .inl e
  exact .inr (by rw [e])) 8, if_pos hk]
theorem Hi (hr : y.bt) : iN (oG y) (kD l) = b8 y (bH l false) := EM hr fun i hi => by
 have := hr.levels
 rw [AO, vr (by omega)]
end
end Go.Proofs.YtelbollidfdcjaaGreat
namespace Go.Proofs.YtelbollidfdcjaaGreat
open Go Go.T
set_option maxHeartbeats 8000000
def yc (y : au) (l : List Int) : Int := if q8 y l = 0 then ((kD l : Nat) : Int) else 0
section
variable {y : au} {a b l : List Int} {n m k i j : Nat} {f : nX}
theorem Ot {a b : Nat} (h : (decide (((a : Nat) : Int).tmod 2 = 1) && decide (((b : Nat) : Int).tmod 2 = 1)) = true) : false = BE a b := by
 rw [Bool.and_eq_true, decide_eq_true_eq, decide_eq_true_eq] at h
 have h1 : ((a % 2 : Nat) : Int) = 1 := h.1
 have h2 : ((b % 2 : Nat) : Int) = 1 := h.2
 exact (L9 (by omega) (by omega)).symm
theorem Mp {a b : Nat} (h : (decide (((a : Nat) : Int).tmod 2 = 1) && decide (((b : Nat) : Int).tmod 2 = 1)) = false) : BE (a / 2) (b / 2) = BE a b := by
 refine Iu fun hx => ?_
 rw [Bool.and_eq_false_iff, decide_eq_false_iff_not, decide_eq_false_iff_not] at h
 have e1 : ((a : Nat) : Int).tmod 2 = ((a % 2 : Nat) : Int) := rfl
 have e2 : ((b : Nat) : Int).tmod 2 = ((b % 2 : Nat) : Int) := rfl
 rw [e1, e2, hx.1, hx.2] at h
 rcases h with h | h <;> exact h rfl
theorem Oq {a b : Nat} (h : (decide (((a : Nat) : Int) > 0) && decide (((b : Nat) : Int) > 0)) = false) : true = BE a b := by
 rw [Bool.and_eq_false_iff, decide_eq_false_iff_not, decide_eq_false_iff_not] at h
 exact (Ib (by omega)).symm
theorem uJ {a : Nat} (h : a < 1000) : IntKind.i64.wrap (((a : Nat) : Int).tdiv 2) = ((a / 2 : Nat) : Int) := by
 have e : ((a : Nat) : Int).tdiv 2 = ((a / 2 : Nat) : Int) := rfl
 rw [e]; exact IntWalk.i64_in _ (by omega)
theorem xH {a k : Nat} (h : a < 1000) : IntKind.i64.wrap (((a : Nat) : Int).tdiv ((2 ^ k : Nat) : Int)) = ((a : Nat) : Int).tdiv ((2 ^ k : Nat) : Int) := by
 have e : ((a : Nat) : Int).tdiv ((2 ^ k : Nat) : Int) = ((a / 2 ^ k : Nat) : Int) := rfl
 have := Nat.div_le_self a (2 ^ k)
 rw [e]
 generalize a / 2 ^ k = q at this
 exact IntWalk.i64_in _ (by omega)
theorem PV (h : ((n / 2 ^ i : Nat) : Int).tmod 2 = 1) : fV n i ++ [(i : Int)] = fV n (i + 1) := CI (vu.1 h)
theorem QY (h : ¬ ((n / 2 ^ i : Nat) : Int).tmod 2 = 1) : fV n i = fV n (i + 1) := A5 (by
  cases e : n.testBit i with
  | false => rfl
  | true => exact absurd (vu.2 e) h)
theorem NI (h : n < 256) : IntKind.i64.wrap (((n / 2 ^ i : Nat) : Int).tdiv 2) = ((n / 2 ^ (i + 1) : Nat) : Int) := by
 have h2 := Nat.div_le_self n (2 ^ i)
 rw [uJ (Nat.lt_of_le_of_lt h2 (by omega)), Nat.div_div_eq_div_mul, Nat.pow_succ]
theorem N6 (h : n < 256) (h2 : ((n / 2 ^ i : Nat) : Int) > 0) : i < 8 := by
 rcases Nat.lt_or_ge i 8 with c | c
 ·exact c
 have : 2 ^ 8 ≤ 2 ^ i := Nat.pow_le_pow_right (by decide) c
 rw [Nat.div_eq_of_lt (by omega)] at h2; cases h2
theorem P3 (hi : i ≤ 8) (h : ¬ ((n / 2 ^ i : Nat) : Int) > 0) : fV n i = fV n 8 := by
 have h0 : n / 2 ^ i = 0 := (Nat.eq_zero_or_pos _).resolve_right fun hp => h (Int.natCast_pos.2 hp)
 have hlt : n < 2 ^ i := by
  rcases Nat.lt_or_ge n (2 ^ i) with c | c
  ·exact c
  have := Nat.div_pos c (Nat.pow_pos (by decide)); omega
 exact (I9 hlt hi).symm
theorem Mn : ((n : Nat) : Int) = ((n / 2 ^ 0 : Nat) : Int) := by rw [Nat.pow_zero, Nat.div_one]
theorem On (h : ¬ ((a.length : Nat) : Int) = ((b.length : Nat) : Int)) : decide (((a.length : Nat) : Int) < ((b.length : Nat) : Int)) = lq a b := by
 unfold lq
 rw [if_neg (by omega), Bool.eq_iff_iff, decide_eq_true_eq, decide_eq_true_eq]; omega
theorem LX (h : ((a.length : Nat) : Int) = ((b.length : Nat) : Int)) : lexB a b = lq a b := by unfold lq; rw [if_pos (by omega)]
theorem drop_cons {α : Type} [Inhabited α] {l : List α} (h : k < l.length) : l.drop k = nth l k :: l.drop (k + 1) := by rw [fk h]; exact List.drop_eq_getElem_cons h
theorem Qc (ha : k < a.length) (hb : k < b.length) (h : ¬ nth a k = nth b k) : decide (nth a k < nth b k) = lexB (a.drop k) (b.drop k) := by
 rw [drop_cons ha, drop_cons hb]; exact (if_neg h).symm
theorem RG (ha : k < a.length) (hb : k < b.length) (h : nth a k = nth b k) : lexB (a.drop (k + 1)) (b.drop (k + 1)) = lexB (a.drop k) (b.drop k) := by
 rw [drop_cons ha, drop_cons hb]; exact (if_pos h).symm
theorem PR (ha : a.length ≤ k) : false = lexB (a.drop k) (b.drop k) := by
 rw [List.drop_of_length_le ha]; unfold lexB; rfl
theorem PI (hm : m < 256) (h : (nth f.missed m && BE m n) = true) : true = iN f n := (List.any_eq_true.2 ⟨m, List.mem_range.2 hm, h⟩).symm
theorem Oj (h : ∀ m, m < 256 → (nth f.missed m && BE m n) = false) : false = iN f n := (List.any_eq_false.2 fun m hm => by rw [h m (List.mem_range.1 hm)]; decide).symm
theorem Fz {v : Int} : kH v 0 ((y.levels.length : Int) - 1) = !Bb y v := by rw [jf]; rfl
theorem Mm (h : ∀ i, i < k → kH (nth l i) 0 ((y.levels.length : Int) - 1) = false) (hk : l.length ≤ k) : l.all (Bb y) = true := List.all_eq_true.2 fun v hv => by
 obtain ⟨i, hi, rfl⟩ := oQ hv
 have := h i (by omega)
 rw [Fz, Bool.not_eq_false'] at this; exact this
theorem JS (hr : y.bt) (hi : i < l.length) (h : kH (nth l i) 0 ((y.levels.length : Int) - 1) = true) : 1 = q8 y l ∧ 0 = yc y l := by
 rw [Fz, Bool.not_eq_true'] at h
 have e := (O9 (l := l) (kT hr) (List.all_eq_false.2 ⟨_, cX hi, by rw [h]; decide⟩)).1
 exact ⟨e, by unfold yc; rw [← e]; rfl⟩
theorem JH (hr : y.bt) (ha : l.all (Bb y) = true) (hi : i < l.length) (h : nth l i ∈ l.take i) : 5 = q8 y l ∧ 0 = yc y l := by
 have e := (PN (kT hr) ha hi h).1
 exact ⟨e, by unfold yc; rw [← e]; rfl⟩
theorem OG (hr : y.bt) (ha : l.all (Bb y) = true) (hn : l.Nodup) : 0 = q8 y l ∧ ((kD l : Nat) : Int) = yc y l := by
 have e := (MH (kT hr) ha hn).1
 exact ⟨e, by unfold yc; rw [← e]; rfl⟩
theorem Oo (ha : l.all (Bb y) = true) (hr : y.bt) (hi : i < l.length) : 0 ≤ nth l i ∧ nth l i ≤ 7 := by
 have h := List.all_eq_true.1 ha _ (cX hi)
 have := hr.levels
 unfold Bb at h
 rw [Bool.and_eq_true, decide_eq_true_eq, decide_eq_true_eq] at h; omega
theorem JA (hk : k < 8) (h : (((kD l : Nat) : Int).tdiv ((2 ^ k : Nat) : Int)).tmod 2 = 1) : ((k : Nat) : Int) ∈ l := by
 have h1 : ((kD l / 2 ^ k % 2 : Nat) : Int) = 1 := h
 have := vu.1 h1
 rw [vr hk, decide_eq_true_eq] at this; exact this
theorem MJ (hk : k < 8) (h : ¬ (((kD l : Nat) : Int).tdiv ((2 ^ k : Nat) : Int)).tmod 2 = 1) : ((k : Nat) : Int) ∉ l ∧ ((kD l : Nat) : Int) + ((2 ^ k : Nat) : Int) = ((kD (l ++ [((k : Nat) : Int)]) : Nat) : Int) := by
  have hb : (kD l).testBit k = false := by
    cases e : (kD l).testBit k with
    | false => rfl
    | true => exact absurd (show ((kD l / 2 ^ k % 2 : Nat) : Int) = 1 from vu.2 e) h
  refine ⟨fun hm => ?_, by rw [← Lz hk hb]; omega⟩
  rw [vr hk, decide_eq_false_iff_not] at hb; exact hb hm
theorem L7 : 0 = ((kD [] : Nat) : Int) := by decide
theorem FC (h : k ≤ 8) : 1 ≤ 2 ^ k ∧ 2 ^ k ≤ 256 := ⟨Nat.pow_pos (by decide), Nat.pow_le_pow_right (n := 2) (by decide) h⟩
theorem Lw : 2 * ((2 ^ k : Nat) : Int) = ((2 ^ (k + 1) : Nat) : Int) := by rw [Nat.pow_succ]; omega
theorem OT (h0 : bL y = 0) (h : (!tO (fun l => !b8 y (bH l false)) y.levels.length) = true) : 6 = iK y ∧ qD (fun l => !b8 y (bH l false)) y.levels.length = fU y := by
  have := A9 h0 h
  refine ⟨this.1, ?_⟩
  rw [← this.2]; unfold qD
  unfold tO at h
  cases e : fE (fun l => !b8 y (bH l false)) y.levels.length with
  | none => rfl
  | some z => rw [e] at h; cases h
theorem LQ (h0 : bL y = 0) (h : (!tO (fun l => !b8 y (bH l false)) y.levels.length) = false) : bL y = iK y ∧ qD (fun l => !b8 y (bH l false)) y.levels.length = fU y := ⟨h0.trans (qg h0 h).1, (qg h0 h).2⟩
theorem OW (h0 : bL y = 0) (h : (!tO (fun l => b8 y (bH l true)) y.levels.length) = true) : 7 = iP y ∧ qD (fun l => b8 y (bH l true)) y.levels.length = eL y := by
  have := BJ h0 h
  refine ⟨this.1, ?_⟩
  rw [← this.2]; unfold qD
  unfold tO at h
  cases e : fE (fun l => b8 y (bH l true)) y.levels.length with
  | none => rfl
  | some z => rw [e] at h; cases h
theorem Lm (h0 : bL y = 0) (h : (!tO (fun l => b8 y (bH l true)) y.levels.length) = false) : bL y = iP y ∧ qD (fun l => b8 y (bH l true)) y.levels.length = eL y := ⟨h0.trans (qc h0 h).1, (qc h0 h).2⟩
theorem Oe (hr : y.bt) (h : q8 y l = 0) : iN (oG y) (kD l) = xG y l := by
 rw [Hi hr]; unfold xG; rw [if_pos h]
theorem Mh (h : ¬ q8 y l = 0) : false = xG y l := by unfold xG; rw [if_neg h]
end
attribute [local irreducible] BE fV lexB lq iN kD yc fR q8 xG iK fU iP eL tO qD oG Bm pO bL kH b8 bH
attribute [local irreducible] gL eX lN nh gy g6 gu gw gx nj gr ni dN fX nH fu nZ nth fP dQ bA dJ bodyPost Exit.then Exit.inBlock Code.wp Code.wpIn nW g7 nY nV g8 eP cL cM bodyPostM dR
set_option maxRecDepth 100000 in
theorem NF (a b : Nat) (ha : a < 1000) (hb : b < 1000) : dJ Tryz.prog 108 [Ty.int .i64 (a : Nat), Ty.int .i64 (b : Nat)] (Ty.bool (BE a b)) := by
 refine ak Tryz.func108 rfl (by decide) Tryz.ntmps108 (by exact Nat.le_of_ble_eq_true rfl) fun w0 M0 => ?_
 refine aE (aA (cm rfl (aD (aC (aE (aY ?_))))))
 refine b9 (fun (p : {p : Nat × Nat // (p.1 < 1000 ∧ p.2 < 1000) ∧ BE p.1 p.2 = BE a b}) => live [(0, Ty.int .i64 (p.1.1 : Nat)), (1, Ty.int .i64 (p.1.2 : Nat))] []) (fun p => p.1.1) (⟨(a, b), ⟨ha, hb⟩, rfl⟩) ?_ fun p => ?_
 ·(refine cg.mk' ?_ ?_ <;> (repeat' (first | exact aI | exact aH | refine aB ?_ (Ty.aT _) | refine aB ?_ (Ty.aF _))))
  all_goals trace_state
 refine aE (aE (aA (bF rfl (bB rfl rfl rfl (eO rfl ?_)))))
 apply aM (s := 7) rfl rfl rfl
 ·intro hg; apply aO; (refine bF rfl ?_); refine aD ?_; exact rfl
 ·exact rfl
 ·exact rfl
 apply aM (s := 7) rfl rfl rfl
 ·intro hg; apply aK (s := 8) rfl (by (rw [hg]; rfl)); apply aO; (refine bB rfl rfl rfl ?_); refine aD ?_; exact rfl
 ·exact rfl
 ·exact rfl
 refine dV rfl rfl (aD (aC ?_))
 refine cH rfl (fun hc1 => ?_) (fun hc1 => ?_)
 ·
  refine aj (aC (aY (aE (aE (aA (bF rfl ?_))))))
  refine FB rfl rfl (by omega) ?_
  refine bB rfl rfl rfl (eO rfl ?_)
  apply aM (s := 14) rfl rfl rfl
  ·intro hg; apply aO; (refine bF rfl ?_); refine aD ?_; exact rfl
  ·exact rfl
  ·exact rfl
  apply aM (s := 14) rfl rfl rfl
  ·intro hg; apply aK (s := 15) rfl (by (rw [hg]; rfl)); apply aO; (refine FB rfl rfl (by omega) ?_); refine aD ?_; exact rfl
  ·exact rfl
  ·exact rfl
  apply aM (s := 14) rfl rfl rfl
  ·intro hg; apply aK (s := 16) rfl (by (rw [hg]; rfl)); apply aO; (refine bB rfl rfl rfl ?_); refine aD ?_; exact rfl
  ·exact rfl
  ·exact rfl
  refine dV rfl rfl (aD (aC ?_))
  refine cH rfl (fun hc2 => ?_) (fun hc2 => ?_)
  ·
   refine aE (aA (cm rfl (aD (aC (az (aQ (ay (aQ (ay ?_)))))))))
   refine aQ (bR rfl rfl ?_)
   all_goals skip
   all_goals exact av rfl rfl (congrArg Ty.bool ((Ot hc2).trans p.2.2))
  refine aj (aC (aA (bF rfl ?_)))
  refine F3 rfl rfl (by omega) ?_
  refine bF rfl ?_
  refine F3 rfl rfl (by omega) ?_
  refine bZ rfl (bZ rfl (aD (bI ?_)))
  refine bM (⟨(p.1.1 / 2, p.1.2 / 2), ⟨by have := p.2.1.1; show p.1.1 / 2 < 1000; omega, by have := p.2.1.2; show p.1.2 / 2 < 1000; omega⟩, (Mp hc2).trans p.2.2⟩) ?_ (by have h := hc1; simp only [Bool.and_eq_true, decide_eq_true_eq] at h; show p.1.1 / 2 < p.1.1; omega)
  (refine cg.mk' ?_ ?_ <;> (repeat' (first | exact aI | exact aH | refine aB ?_ (Ty.aT _) | refine aB ?_ ?_)))
  all_goals skip
  all_goals first | exact Ty.bN (uJ p.2.1.1) | exact Ty.bN (uJ p.2.1.2)
 refine bz (aP (aP (aa rfl (aC (aE (aA (cm rfl (aD (aC ?_)))))))))
 refine az (bR rfl rfl ?_)
 all_goals skip
 all_goals exact av rfl rfl (congrArg Ty.bool ((Oq hc1).trans p.2.2))
set_option maxRecDepth 100000 in
theorem G4 (n : Nat) (hn : n < 256) : dJ Tryz.prog 106 [Ty.int .i64 (n : Nat)] (Ty.sl cT (fV n 8)) := by
 refine ak Tryz.func106 rfl (by decide) Tryz.ntmps106 (by exact Nat.le_of_ble_eq_true rfl) fun w0 M0 => ?_
 refine aE (aA (lE rfl (aD (aC (aE (aA (lE rfl (aD (aC ?_)))))))))
 refine aE (aE (aA (bZ rfl (aD (aC (aY ?_))))))
 refine b9 (fun (i : {i : Nat // i ≤ 8}) => live [(0, Ty.int .i64 (n / 2 ^ i.1 : Nat)), (3, Ty.row cT 3 80 (fV n i.1)), (4, Ty.int .i64 (i.1 : Nat))] []) (fun i => 8 - i.1) (⟨0, by omega⟩) ?_ fun i => ?_
 ·(refine cg.mk' ?_ ?_ <;> (repeat' (first | exact aI | exact aH | refine aB ?_ (Ty.aT _) | refine aB ?_ (Ty.aF _) | refine aB ?_ ?_)))
  all_goals first | exact Ty.bN Mn | exact Dg HM.symm
 have hi := i.2
 have hml := Lo (n := n) (k := i.1)
 refine aE (aE (aA (bF rfl (bB rfl rfl rfl (aD (aC ?_))))))
 refine ah rfl (fun hc1 => ?_) (fun hc1 => ?_)
 ·
  refine aj (aC (aE ?_))
  have hi8 : i.1 < 8 := N6 hn hc1
  refine aY ?_
  refine j4 (J := live [(0, Ty.int .i64 ((n / 2 ^ i.1 : Nat))), (3, Ty.row cT 3 80 (fV n (i.1 + 1))), (4, Ty.int .i64 ((i.1 : Nat)))] []) ?_ ?_
  ·
   refine aE ?_
   have hi8 : i.1 < 8 := N6 hn hc1
   refine aA (bF rfl ?_)
   refine FB rfl rfl (by omega) ?_
   refine bB rfl rfl rfl (aD (aC ?_))
   refine ah rfl (fun hc2 => ?_) (fun hc2 => ?_)
   ·
    refine aA (Eb rfl (bF rfl ?_))
    refine bW (E := cT) (xs := [((i.1 : Nat) : Int)]) rfl rfl rfl rfl rfl (by decide) (by decide) (by repeat (first | exact (aV.nil : aV _ _ [] _) | (show aV _ _ ((_, _) :: _) _; apply aV.one; (· exact (rfl : _ = Ty.int _ _)); (· exact rfl)))) (by exact rfl) rfl ?_
    refine dj rfl rfl (by decide) rfl rfl rfl rfl rfl rfl (by decide) (by (simp <;> omega)) (by (simp <;> omega)) ?_
    refine yW rfl (aD (eW ?_))
    (refine cg.mk' ?_ ?_ <;> (repeat' (first | exact aI | exact aH | refine aB ?_ (Ty.aT _) | refine aB ?_ (Ty.aF _) | refine aB ?_ ?_)))
    all_goals exact Ty.eU (PV hc2)
   refine aj (eW ?_)
   (refine cg.mk' ?_ ?_ <;> (repeat' (first | exact aI | exact aH | refine aB ?_ (Ty.aT _) | refine aB ?_ (Ty.aF _) | refine aB ?_ ?_)))
   all_goals exact Ty.eU (QY hc2)
  refine aA (bF rfl ?_)
  refine F3 rfl rfl (by omega) ?_
  refine bZ rfl (aD (bI (aC (aA (bF rfl ?_)))))
  refine bq rfl rfl (by omega) (by omega) ?_
  refine bZ rfl (aD ?_)
  refine bM (⟨i.1 + 1, hi8⟩) ?_ (by show 8 - (i.1 + 1) < 8 - i.1; omega)
  (refine cg.mk' ?_ ?_ <;> (repeat' (first | exact aI | exact aH | refine aB ?_ (Ty.aT _) | refine aB ?_ (Ty.aF _) | refine aB ?_ ?_)))
  all_goals skip
  all_goals exact Ty.bN (NI hn)
 refine bz (aP (aP (aa rfl (aC (aE ?_)))))
 refine iC (s := 3) rfl (Ty.eU (P3 i.2 hc1)) ?_
 refine aA (Eb rfl (yW rfl (aD (aC (az (bR rfl rfl ?_))))))
 all_goals exact oP (by decide)
set_option maxRecDepth 100000 in
theorem Ff (a b : List Int) : dJ Tryz.prog 107 [Ty.sl cT a, Ty.sl cT b] (Ty.bool (lq a b)) := by
 refine ak Tryz.func107 rfl (by decide) Tryz.ntmps107 (by exact Nat.le_of_ble_eq_true rfl) fun w0 M0 => ?_
 refine gJ (s := 0) rfl rfl gK fun ha => ?_
 refine gJ (s := 1) rfl rfl gK fun hb => ?_
 refine aE (aA (cm rfl (aD (aC (aE (aE (aA (eA rfl (cD rfl rfl rfl ?_)))))))))
 refine eA rfl (cD rfl rfl rfl (bB rfl rfl rfl (aD (aC ?_))))
 refine cx rfl (fun hc1 => ?_) (fun hc1 => ?_)
 ·
  refine aE (aA (eA rfl (cD rfl rfl rfl (eA rfl (cD rfl rfl rfl (bB rfl rfl rfl (cm rfl (aD (aC ?_)))))))))
  refine az (aQ (bR rfl rfl ?_))
  all_goals skip
  all_goals exact av rfl rfl (congrArg Ty.bool (On hc1))
 refine aj (aC (aE (aE (aA (bZ rfl (aD (aC (aY ?_))))))))
 refine b9 (fun (k : {k : Nat // k ≤ a.length ∧ lexB (a.drop k) (b.drop k) = lexB a b}) => live [(0, Ty.sl cT a), (1, Ty.sl cT b), (5, Ty.int .i64 (k.1 : Nat))] []) (fun k => a.length - k.1) (⟨0, Nat.zero_le _, rfl⟩) ?_ fun k => ?_
 ·(refine cg.mk' ?_ ?_ <;> (repeat' (first | exact aI | exact aH | refine aB ?_ (Ty.aT _) | refine aB ?_ (Ty.aF _))))
 have hk := k.2.1
 refine aE (aE (aA (bF rfl (eA rfl (cD rfl rfl rfl (bB rfl rfl rfl (aD (aC ?_))))))))
 refine ah rfl (fun hc2 => ?_) (fun hc2 => ?_)
 ·
  refine aj (aC (aE (aY (aE (cP mixed rfl (eA rfl (bF rfl ?_)))))))
  refine aq rfl rfl rfl rfl rfl rfl (by omega) ?_
  refine aJ rfl rfl rfl rfl (eA rfl (bF rfl ?_))
  refine aq rfl rfl rfl rfl rfl rfl (by omega) ?_
  refine aJ rfl rfl rfl rfl (bB rfl rfl rfl (aD ?_))
  refine ⟨by kernel_rfl, ?_⟩
  refine aC ?_
  refine cx rfl (fun hc3 => ?_) (fun hc3 => ?_)
  ·
   refine aE (cP mixed rfl (eA rfl (bF rfl ?_)))
   refine aq rfl rfl rfl rfl rfl rfl (by omega) ?_
   refine aJ rfl rfl rfl rfl (eA rfl (bF rfl ?_))
   refine aq rfl rfl rfl rfl rfl rfl (by omega) ?_
   refine aJ rfl rfl rfl rfl (bB rfl rfl rfl (cm rfl (aD ?_)))
   refine ⟨by kernel_rfl, ?_⟩
   refine aC (az (ay (aQ (aQ (ay (aQ (bR rfl rfl ?_)))))))
   all_goals skip
   all_goals exact av rfl rfl (congrArg Ty.bool ((Qc (by omega) (by omega) hc3).trans (k.2.2.trans (LX hc1))))
  refine aj (bI (aC (aA (bF rfl ?_))))
  refine bq rfl rfl (by omega) (by omega) ?_
  refine bZ rfl (aD ?_)
  refine bM (⟨k.1 + 1, by omega, (RG (by omega) (by omega) hc3).trans k.2.2⟩) ?_ (by show a.length - (k.1 + 1) < a.length - k.1; omega)
  (refine cg.mk' ?_ ?_ <;> (repeat' (first | exact aI | exact aH | refine aB ?_ (Ty.aT _) | refine aB ?_ (Ty.aF _))))
  all_goals skip
 refine bz (aP (aP (aa rfl (aC (aE (aA (cm rfl (aD (aC ?_)))))))))
 refine az (bR rfl rfl ?_)
 all_goals skip
 all_goals exact av rfl rfl (congrArg Ty.bool ((PR (by omega)).trans (k.2.2.trans (LX hc1))))
set_option maxRecDepth 100000 in
theorem Gi (f : nX) (hf : f.missed.length = 256) (n : Nat) (hn : n < 1000) : dJ Tryz.prog 42 [Ty.agg (tX f), Ty.int .i64 (n : Nat)] (Ty.bool (iN f n)) := by
 refine ak Tryz.func42 rfl (by decide) Tryz.ntmps42 (by exact Nat.le_of_ble_eq_true rfl) fun w0 M0 => ?_
 refine aE (aA (bD rfl (cm rfl (aD (aC (aE (aE (aA (bZ rfl ?_)))))))))
 refine aD (aC (aY ?_))
 refine b9 (fun (m : {m : Nat // m ≤ 256 ∧ ∀ i, i < m → (nth f.missed i && BE i n) = false}) => live [(1, Ty.int .i64 (n : Nat)), (2, Ty.pp (tX f)), (5, Ty.int .i64 (m.1 : Nat))] []) (fun m => 256 - m.1) (⟨0, Nat.zero_le _, fun i h => absurd h (Nat.not_lt_zero i)⟩) ?_ fun m => ?_
 ·(refine cg.mk' ?_ ?_ <;> (repeat' (first | exact aI | exact aH | refine aB ?_ (Ty.aT _) | refine aB ?_ (Ty.aF _))))
 have hm := m.2.1
 refine aE (aE (aA (bF rfl ?_)))
 refine aL rfl rfl rfl rfl rfl (by decide) ?_
 refine aJ rfl rfl rfl rfl (cD rfl rfl rfl (bB rfl rfl rfl (aD (aC ?_))))
 refine ah rfl (fun hc1 => ?_) (fun hc1 => ?_)
 ·
  refine aj (aC (aE (aY (aE (aA ?_)))))
  refine aL rfl rfl rfl rfl rfl (by decide) ?_
  refine aJ rfl rfl rfl rfl (bF rfl ?_)
  refine aq rfl rfl rfl rfl rfl rfl (by omega) ?_
  refine aJ rfl rfl rfl rfl (eO rfl ?_)
  apply aM (s := 18) rfl rfl rfl
  ·intro hg; apply aO; (refine bF rfl ?_); refine aD ?_; exact rfl
  ·exact rfl
  ·exact rfl
  apply aM (s := 18) rfl rfl rfl
  ·intro hg; apply aO; (refine bF rfl ?_); refine aD ?_; exact rfl
  ·exact rfl
  ·exact rfl
  apply aM (s := 18) rfl rfl rfl
  ·intro hg; apply aK (s := 19) rfl (by (rw [hg]; rfl)); apply aK (s := 20) rfl (by (rw [hg]; rfl)); apply aO; (refine af (NF m.1 n (by omega) hn) rfl rfl rfl rfl rfl ?_); refine aD ?_; exact rfl
  ·exact rfl
  ·exact rfl
  refine dV rfl rfl (aD (aC ?_))
  refine cH rfl (fun hc2 => ?_) (fun hc2 => ?_)
  ·
   refine aE (aA (cm rfl (aD (aC (az (ay (aQ (aQ (ay ?_)))))))))
   refine aQ (bR rfl rfl ?_)
   all_goals skip
   all_goals exact av rfl rfl (congrArg Ty.bool (PI (by omega) hc2))
  refine aj (bI (aC (aA (bF rfl ?_))))
  refine bq rfl rfl (by omega) (by omega) ?_
  refine bZ rfl (aD ?_)
  refine bM (⟨m.1 + 1, by omega, fun i h => (Nat.lt_succ_iff_lt_or_eq.1 h).elim (m.2.2 i) fun e => by subst e; exact hc2⟩) ?_ (by show 256 - (m.1 + 1) < 256 - m.1; omega)
  (refine cg.mk' ?_ ?_ <;> (repeat' (first | exact aI | exact aH | refine aB ?_ (Ty.aT _) | refine aB ?_ (Ty.aF _))))
  all_goals skip
 refine bz (aP (aP (aa rfl (aC (aE (aA (cm rfl (aD (aC ?_)))))))))
 refine az (bR rfl rfl ?_)
 all_goals skip
 all_goals exact av rfl rfl (congrArg Ty.bool (Oj fun i hi => m.2.2 i (by omega)))
theorem wu (f : nX) (hf : f.missed.length = 256) (z : Int) (n : Nat) (hn : n < 1000) (hz : z = (n : Nat)) : dJ Tryz.prog 42 [Ty.agg (tX f), Ty.int .i64 z] (Ty.bool (iN f n)) := by
 subst hz; exact Gi f hf n hn
set_option maxRecDepth 100000 in
theorem J3 (y : au) (hr : y.bt) (l : List Int) (hl : l.length ≤ 1000) : dJ Tryz.prog 41 [dr y, Ty.sl cT l] (Ty.j8 [Ty.int .i64 (yc y l), Ty.int .i64 (q8 y l)]) := by
 refine ak Tryz.func41 rfl (by decide) Tryz.ntmps41 (by exact Nat.le_of_ble_eq_true rfl) fun w0 M0 => ?_
 have hyl := hr.levels
 refine aE (aA (bD rfl (bZ rfl (bZ rfl (aD (aC (aE (aE (aA ?_)))))))))
 refine bZ rfl (aD (aC (aY ?_)))
 refine b9 (fun (k : {k : Nat // k ≤ l.length ∧ ∀ i, i < k → kH (nth l i) 0 ((y.levels.length : Int) - 1) = false}) => live [(1, Ty.sl cT l), (2, Ty.pp (bE y)), (6, Ty.int .i64 (k.1 : Nat))] []) (fun k => l.length - k.1) (⟨0, Nat.zero_le _, fun i h => absurd h (Nat.not_lt_zero i)⟩) ?_ fun k => ?_
 ·(refine cg.mk' ?_ ?_ <;> (repeat' (first | exact aI | exact aH | refine aB ?_ (Ty.aT _) | refine aB ?_ (Ty.aF _))))
 have hk := k.2.1
 refine aE (aE (aA (bF rfl (eA rfl (cD rfl rfl rfl (bB rfl rfl rfl (aD (aC ?_))))))))
 refine ah rfl (fun hc1 => ?_) (fun hc1 => ?_)
 ·
  refine aj (aC (aE (aY (aE (cP mixed rfl (eA rfl (bF rfl ?_)))))))
  refine aq rfl rfl rfl rfl rfl rfl (by omega) ?_
  refine aJ rfl rfl rfl rfl ?_
  refine aL rfl rfl rfl rfl rfl (by decide) ?_
  refine aJ rfl rfl rfl rfl (cD rfl rfl rfl ?_)
  refine gH rfl rfl (by omega) (by omega) ?_
  refine af (lg _ _ _) rfl rfl rfl rfl rfl (aD ?_)
  refine ⟨by kernel_rfl, ?_⟩
  refine aC ?_
  refine cH rfl (fun hc2 => ?_) (fun hc2 => ?_)
  ·
   refine aE (aA (bZ rfl (bZ rfl (aD (aC (az (ay (aQ (aQ ?_)))))))))
   refine ay (aQ ?_)
   refine fG rfl rfl rfl ?_ ?_
   all_goals skip
   all_goals first | exact av rfl rfl (congrArg (Ty.int .i64) (JS hr (by omega) hc2).1) | exact av rfl rfl (congrArg (Ty.int .i64) (JS hr (by omega) hc2).2)
  refine aj (bI (aC (aA (bF rfl ?_))))
  refine bq rfl rfl (by omega) (by omega) ?_
  refine bZ rfl (aD ?_)
  refine bM (⟨k.1 + 1, by omega, fun i h => (Nat.lt_succ_iff_lt_or_eq.1 h).elim (k.2.2 i) fun e => by subst e; exact hc2⟩) ?_ (by show l.length - (k.1 + 1) < l.length - k.1; omega)
  (refine cg.mk' ?_ ?_ <;> (repeat' (first | exact aI | exact aH | refine aB ?_ (Ty.aT _) | refine aB ?_ (Ty.aF _))))
  all_goals skip
 refine bz (aP (aP (aa rfl (aC (aE ?_)))))
 have hall := Mm k.2.2 (by omega)
 refine aA (bZ rfl (aD (aC (aE (aE (aA (bZ rfl (aD (aC ?_)))))))))
 refine aY ?_
 refine b9 (fun (i : {i : Nat // i ≤ l.length ∧ (l.take i).Nodup}) => live [(1, Ty.sl cT l), (2, Ty.pp (bE y)), (7, Ty.int .i64 (kD (l.take i.1) : Nat)), (8, Ty.int .i64 (i.1 : Nat))] []) (fun i => l.length - i.1) (⟨0, Nat.zero_le _, by simp⟩) ?_ fun i => ?_
 ·(refine cg.mk' ?_ ?_ <;> (repeat' (first | exact aI | exact aH | refine aB ?_ (Ty.aT _) | refine aB ?_ (Ty.aF _) | refine aB ?_ ?_)))
  all_goals exact Ty.bN L7
 have hi := i.2.1
 have hlt := Lu (l := l.take i.1)
 refine aE (aE (aA (bF rfl (eA rfl (cD rfl rfl rfl (bB rfl rfl rfl (aD (aC ?_))))))))
 refine ah rfl (fun hc3 => ?_) (fun hc3 => ?_)
 ·
  refine aj (aC (aE (aY (aE ?_))))
  have hi2 : i.1 < l.length := by omega
  have hin := Oo hall hr hi2
  refine aA (bZ rfl (aD (aC (aE (aE (aA (bZ rfl (aD (aC ?_)))))))))
  refine aY ?_
  refine b9 (fun (j : {j : Nat // ((j : Nat) : Int) ≤ nth l i.1}) => live [(1, Ty.sl cT l), (2, Ty.pp (bE y)), (7, Ty.int .i64 (kD (l.take i.1) : Nat)), (8, Ty.int .i64 (i.1 : Nat)), (9, Ty.int .i64 (2 ^ j.1 : Nat)), (10, Ty.int .i64 (j.1 : Nat))] []) (fun j => 8 - j.1) (⟨0, hin.1⟩) ?_ fun j => ?_
  ·(refine cg.mk' ?_ ?_ <;> (repeat' (first | exact aI | exact aH | refine aB ?_ (Ty.aT _) | refine aB ?_ (Ty.aF _))))
   all_goals trace_state
  have hj := j.2
  have hpw := FC (k := j.1) (by omega)
  refine aE (aE (aA (bF rfl (eA rfl (bF rfl ?_)))))
  refine aq rfl rfl rfl rfl rfl rfl (by omega) ?_
  refine aJ rfl rfl rfl rfl (bB rfl rfl rfl (aD (aC ?_)))
  refine ah rfl (fun hc4 => ?_) (fun hc4 => ?_)
  ·
   refine aj (aC (aE (aY (aA (bF rfl ?_)))))
   refine sw rfl rfl (by omega) (by omega) ?_
   refine bZ rfl (aD (bI (aC (aA (bF rfl ?_)))))
   refine bq rfl rfl (by omega) (by omega) ?_
   refine bZ rfl (aD ?_)
   refine bM (⟨j.1 + 1, by omega⟩) ?_ (by have h7 := hin.2; show 8 - (j.1 + 1) < 8 - j.1; omega)
   (refine cg.mk' ?_ ?_ <;> (repeat' (first | exact aI | exact aH | refine aB ?_ (Ty.aT _) | refine aB ?_ (Ty.aF _) | refine aB ?_ ?_)))
   all_goals skip
   all_goals exact Ty.bN Lw
  refine bz (aP (aP (aa rfl (aC (aE (aE ?_))))))
  have hje : ((j.1 : Nat) : Int) = nth l i.1 := by have := j.2; omega
  have hj8 : j.1 < 8 := by omega
  have hpw := FC (k := j.1) (by omega)
  refine aA (bF rfl (bF rfl ?_))
  refine F3 rfl rfl (by omega) ?_
  refine FB rfl rfl (by omega) ?_
  refine bB rfl rfl rfl (aD (aC ?_))
  refine ah rfl (fun hc5 => ?_) (fun hc5 => ?_)
  ·
   refine aE (aA (bZ rfl (bZ rfl (aD (aC (az (aQ (ay (aQ ?_)))))))))
   refine aQ (ay (aQ ?_))
   refine fG rfl rfl rfl ?_ ?_
   all_goals skip
   all_goals first | exact av rfl rfl (congrArg (Ty.int .i64) (JH hr hall hi2 (by rw [← hje]; exact JA hj8 (by have h5 := hc5; rw [xH (by omega)] at h5; exact h5))).1) | exact av rfl rfl (congrArg (Ty.int .i64) (JH hr hall hi2 (by rw [← hje]; exact JA hj8 (by have h5 := hc5; rw [xH (by omega)] at h5; exact h5))).2)
  refine aj (aC ?_)
  have hms := MJ (l := l.take i.1) hj8 (by have h5 := hc5; rw [xH (by omega)] at h5; exact h5)
  refine aA (bF rfl (bF rfl ?_))
  refine bq rfl rfl (by omega) (by omega) ?_
  refine bZ rfl (aD (bI (aC (aA (bF rfl ?_)))))
  refine bq rfl rfl (by omega) (by omega) ?_
  refine bZ rfl (aD ?_)
  refine bM (⟨i.1 + 1, by omega, xu i.2.2 (by omega) (by rw [← hje]; exact hms.1)⟩) ?_ (by show l.length - (i.1 + 1) < l.length - i.1; omega)
  (refine cg.mk' ?_ ?_ <;> (repeat' (first | exact aI | exact aH | refine aB ?_ (Ty.aT _) | refine aB ?_ (Ty.aF _) | refine aB ?_ ?_)))
  all_goals skip
  all_goals exact Ty.bN (hms.2.trans (by show ((kD (l.take i.1 ++ [((j.1 : Nat) : Int)]) : Nat) : Int) = ((kD (l.take (i.1 + 1)) : Nat) : Int); rw [cQ hi2, hje]))
 refine bz (aP (aP (aa rfl (aC (aE (aA (bF rfl (bZ rfl (bZ rfl ?_)))))))))
 refine aD (aC (az ?_))
 refine fG rfl rfl rfl ?_ ?_
 all_goals skip
 all_goals first | exact av rfl rfl (congrArg (Ty.int .i64) (OG hr hall (qb i.2.2 (by omega))).1) | exact av rfl rfl (congrArg (Ty.int .i64) ((congrArg (fun z => ((kD z : Nat) : Int)) (List.take_of_length_le (by omega))).trans (OG hr hall (qb i.2.2 (by omega))).2))
set_option maxRecDepth 100000 in
theorem Og (y : au) (hr : y.bt) (f : nX) (hf : f.missed.length = 256) : dJ Tryz.prog 40 [dr y, Ty.agg (tX f)] (Ty.j8 [Ty.sl cT (fR (fun n => !iN f n) (2 ^ y.levels.length)).2, Ty.bool (fR (fun n => !iN f n) (2 ^ y.levels.length)).1, Ty.sl cT (fR (fun n => iN f (2 ^ y.levels.length - 1 - n)) (2 ^ y.levels.length)).2, Ty.bool (fR (fun n => iN f (2 ^ y.levels.length - 1 - n)) (2 ^ y.levels.length)).1]) := by
 refine ak Tryz.func40 rfl (by decide) Tryz.ntmps40 (by exact Nat.le_of_ble_eq_true rfl) fun w0 M0 => ?_
 have hyl := hr.levels
 refine aE (aA (bD rfl (bD rfl (lE rfl (cm rfl (lE rfl (cm rfl (aD (aC ?_)))))))))
 refine aE (aA (bZ rfl (aD (aC (aE (aE (aA (bZ rfl (aD ?_)))))))))
 refine aC (aY ?_)
 refine b9 (fun (i : {i : Nat // i ≤ y.levels.length}) => live [(2, Ty.pp (bE y)), (3, Ty.pp (tX f)), (4, Ty.ex (.slice none 0 0)), (5, Ty.bool false), (6, Ty.ex (.slice none 0 0)), (7, Ty.bool false), (8, Ty.int .i64 ((2 ^ i.1 : Nat))), (9, Ty.int .i64 ((i.1 : Nat)))] []) (fun i => y.levels.length - i.1) (⟨0, Nat.zero_le _⟩) ?_ fun i => ?_
 ·(refine cg.mk' ?_ ?_ <;> (repeat' (first | exact aI | exact aH | refine aB ?_ (Ty.aT _) | refine aB ?_ (Ty.aF _))))
  all_goals trace_state
 have hi := i.2
 have hpw := FC (k := i.1) (by omega)
 refine aE (aE (aA (bF rfl ?_)))
 refine aL rfl rfl rfl rfl rfl (by decide) ?_
 refine aJ rfl rfl rfl rfl (cD rfl rfl rfl (bB rfl rfl rfl (aD (aC ?_))))
 refine ah rfl (fun hc1 => ?_) (fun hc1 => ?_)
 ·
  refine aj (aC (aE (aY (aA (bF rfl ?_)))))
  refine sw rfl rfl (by omega) (by omega) ?_
  refine bZ rfl (aD (bI (aC (aA (bF rfl ?_)))))
  refine bq rfl rfl (by omega) (by omega) ?_
  refine bZ rfl (aD ?_)
  refine bM (⟨i.1 + 1, by omega⟩) ?_ (by show y.levels.length - (i.1 + 1) < y.levels.length - i.1; omega)
  (refine cg.mk' ?_ ?_ <;> (repeat' (first | exact aI | exact aH | refine aB ?_ (Ty.aT _) | refine aB ?_ (Ty.aF _) | refine aB ?_ ?_)))
  all_goals skip
  all_goals exact Ty.bN Lw
 refine bz (aP (aP (aa rfl (aC (aE (aE ?_))))))
 have hpl := FC (k := y.levels.length) (by omega)
 refine aA (bZ rfl (aD (aC (aY ?_))))
 refine b9 (fun (n : {n : Nat // n ≤ 2 ^ y.levels.length}) => live [(2, Ty.pp (bE y)), (3, Ty.pp (tX f)), (4, Ty.sl cT (fR (fun n => !iN f n) (n.1)).2), (5, Ty.bool (fR (fun n => !iN f n) (n.1)).1), (6, Ty.sl cT (fR (fun n => iN f (2 ^ y.levels.length - 1 - n)) (n.1)).2), (7, Ty.bool (fR (fun n => iN f (2 ^ y.levels.length - 1 - n)) (n.1)).1), (8, Ty.int .i64 ((2 ^ y.levels.length : Nat))), (10, Ty.int .i64 ((n.1 : Nat)))] []) (fun n => 2 ^ y.levels.length - n.1) (⟨0, Nat.zero_le _⟩) ?_ fun n => ?_
 ·(refine cg.mk' ?_ ?_ <;> (repeat' (first | exact aI | exact aH | refine aB ?_ (Ty.aT _) | refine aB ?_ (Ty.aF _) | refine aB ?_ ?_)))
  all_goals first | exact AV C0.2 | exact Ty.c9 C0.1 | exact Ty.bN (by rw [show i.1 = y.levels.length by have := i.2; omega])
 have hn := n.2
 refine aE (aE (aA (bF rfl (bF rfl (bB rfl rfl rfl (aD (aC ?_)))))))
 refine ah rfl (fun hc2 => ?_) (fun hc2 => ?_)
 ·
  refine aj (aC ?_)
  refine j4 (J := live [(2, Ty.pp (bE y)), (3, Ty.pp (tX f)), (4, Ty.sl cT (fR (fun n => !iN f n) (n.1 + 1)).2), (5, Ty.bool (fR (fun n => !iN f n) (n.1 + 1)).1), (6, Ty.sl cT (fR (fun n => iN f (2 ^ y.levels.length - 1 - n)) (n.1 + 1)).2), (7, Ty.bool (fR (fun n => iN f (2 ^ y.levels.length - 1 - n)) (n.1 + 1)).1), (8, Ty.int .i64 ((2 ^ y.levels.length : Nat))), (10, Ty.int .i64 ((n.1 : Nat)))] []) ?_ ?_
  ·
   refine aY (aE ?_)
   have hn2 : n.1 < 2 ^ y.levels.length := by omega
   have hn3 : n.1 < 256 := by omega
   refine aA (bF rfl (af (G4 n.1 hn3) rfl rfl rfl rfl rfl (va rfl (aD (aC ?_)))))
   refine j4 (J := live [(2, Ty.pp (bE y)), (3, Ty.pp (tX f)), (4, Ty.sl cT (fR (fun n => !iN f n) (n.1 + 1)).2), (5, Ty.bool (fR (fun n => !iN f n) (n.1 + 1)).1), (6, Ty.sl cT (fR (fun n => iN f (2 ^ y.levels.length - 1 - n)) (n.1)).2), (7, Ty.bool (fR (fun n => iN f (2 ^ y.levels.length - 1 - n)) (n.1)).1), (8, Ty.int .i64 ((2 ^ y.levels.length : Nat))), (10, Ty.int .i64 ((n.1 : Nat))), (11, Ty.sl cT (fV n.1 8))] []) ?_ ?_
   ·
    refine aE (aA (eO rfl (dm rfl (eO rfl ?_))))
    apply aM (s := 30) rfl rfl rfl
    ·intro hg; apply aO; (refine eA rfl ?_); refine aD ?_; exact rfl
    ·exact rfl
    ·exact rfl
    apply aM (s := 30) rfl rfl rfl
    ·intro hg; apply aO; (refine eA rfl ?_); refine aD ?_; exact rfl
    ·exact rfl
    ·exact rfl
    apply aM (s := 30) rfl rfl rfl
    ·intro hg; apply aK (s := 31) rfl (by (rw [hg]; rfl)); apply aK (s := 32) rfl (by (rw [hg]; rfl)); apply aO; (refine af (Ff _ _) rfl rfl rfl rfl rfl ?_); refine aD ?_; exact rfl
    ·exact rfl
    ·exact rfl
    refine ir rfl rfl (eO rfl ?_)
    apply aM (s := 35) rfl rfl rfl
    ·intro hg; apply aO; (refine aX rfl rfl rfl (by exact Nat.le_of_ble_eq_true rfl) ?_); refine aD ?_; exact rfl
    ·exact rfl
    ·exact rfl
    apply aM (s := 35) rfl rfl rfl
    ·intro hg; apply aO; (refine bF rfl ?_); refine aD ?_; exact rfl
    ·exact rfl
    ·exact rfl
    apply aM (s := 35) rfl rfl rfl
    ·intro hg; apply aK (s := 36) rfl (by (rw [hg]; rfl)); apply aK (s := 37) rfl (by (rw [hg]; rfl)); apply aO; (refine af (wu f hf ((n.1 : Nat) : Int) n.1 (by omega) rfl) rfl rfl rfl rfl rfl ?_); refine aD ?_; exact rfl
    ·exact rfl
    ·exact rfl
    apply aM (s := 35) rfl rfl rfl
    ·intro hg; apply aK (s := 38) rfl (by (rw [hg]; rfl)); apply aO; (refine dm rfl ?_); refine aD ?_; exact rfl
    ·exact rfl
    ·exact rfl
    refine dV rfl rfl (aD (aC ?_))
    refine cH rfl (fun hc3 => ?_) (fun hc3 => ?_)
    ·
     refine aA (eA rfl (va rfl (cm rfl (aD (eW ?_)))))
     (refine cg.mk' ?_ ?_ <;> (repeat' (first | exact aI | exact aH | refine aB ?_ (Ty.aT _) | refine aB ?_ (Ty.aF _) | refine aB ?_ ?_)))
     all_goals first | exact Ty.j7 (tG hc3).2 | exact Ty.c9 (tG hc3).1
    refine aj (eW ?_)
    (refine cg.mk' ?_ ?_ <;> (repeat' (first | exact aI | exact aH | refine aB ?_ (Ty.aT _) | refine aB ?_ (Ty.aF _) | refine aB ?_ ?_)))
    all_goals first | exact Ty.j7 (xE hc3).2 | exact Ty.c9 (xE hc3).1
   refine aE (aA (eO rfl (dm rfl (eO rfl ?_))))
   apply aM (s := 44) rfl rfl rfl
   ·intro hg; apply aO; (refine eA rfl ?_); refine aD ?_; exact rfl
   ·exact rfl
   ·exact rfl
   apply aM (s := 44) rfl rfl rfl
   ·intro hg; apply aO; (refine eA rfl ?_); refine aD ?_; exact rfl
   ·exact rfl
   ·exact rfl
   apply aM (s := 44) rfl rfl rfl
   ·intro hg; apply aK (s := 45) rfl (by (rw [hg]; rfl)); apply aK (s := 46) rfl (by (rw [hg]; rfl)); apply aO; (refine af (Ff _ _) rfl rfl rfl rfl rfl ?_); refine aD ?_; exact rfl
   ·exact rfl
   ·exact rfl
   refine ir rfl rfl (eO rfl ?_)
   apply aM (s := 49) rfl rfl rfl
   ·intro hg; apply aO; (refine aX rfl rfl rfl (by exact Nat.le_of_ble_eq_true rfl) ?_); refine aD ?_; exact rfl
   ·exact rfl
   ·exact rfl
   apply aM (s := 49) rfl rfl rfl
   ·intro hg; apply aO; (refine bF rfl ?_); refine aD ?_; exact rfl
   ·exact rfl
   ·exact rfl
   apply aM (s := 49) rfl rfl rfl
   ·intro hg; apply aK (s := 51) rfl (by (rw [hg]; rfl)); apply aO; (refine gH rfl rfl (by omega) (by omega) ?_); refine aD ?_; exact rfl
   ·exact rfl
   ·exact rfl
   apply aM (s := 49) rfl rfl rfl
   ·intro hg; apply aO; (refine bF rfl ?_); refine aD ?_; exact rfl
   ·exact rfl
   ·exact rfl
   apply aM (s := 49) rfl rfl rfl
   ·intro hg; apply aK (s := 52) rfl (by (rw [hg]; rfl)); apply aK (s := 53) rfl (by (rw [hg]; rfl)); apply aO; (refine gH rfl rfl (by omega) (by omega) ?_); refine aD ?_; exact rfl
   ·exact rfl
   ·exact rfl
   apply aM (s := 49) rfl rfl rfl
   ·intro hg; apply aK (s := 50) rfl (by (rw [hg]; rfl)); apply aK (s := 54) rfl (by (rw [hg]; rfl)); apply aO; (refine af (wu f hf (((2 ^ y.levels.length : Nat) : Int) - 1 - ((n.1 : Nat) : Int)) (2 ^ y.levels.length - 1 - n.1) (by omega) (by omega)) rfl rfl rfl rfl rfl ?_); refine aD ?_; exact rfl
   ·exact rfl
   ·exact rfl
   refine dV rfl rfl (aD (aC ?_))
   refine cH rfl (fun hc4 => ?_) (fun hc4 => ?_)
   ·
    refine aA (eA rfl (va rfl (cm rfl (aD (bI (eW ?_))))))
    (refine cg.mk' ?_ ?_ <;> (repeat' (first | exact aI | exact aH | refine aB ?_ (Ty.aT _) | refine aB ?_ (Ty.aF _) | refine aB ?_ ?_)))
    all_goals first | exact Ty.j7 (tG (P := (fun n => iN f (2 ^ y.levels.length - 1 - n))) hc4).2 | exact Ty.c9 (tG (P := (fun n => iN f (2 ^ y.levels.length - 1 - n))) hc4).1
   refine aj (bI (eW ?_))
   (refine cg.mk' ?_ ?_ <;> (repeat' (first | exact aI | exact aH | refine aB ?_ (Ty.aT _) | refine aB ?_ (Ty.aF _) | refine aB ?_ ?_)))
   all_goals first | exact Ty.j7 (xE (P := (fun n => iN f (2 ^ y.levels.length - 1 - n))) hc4).2 | exact Ty.c9 (xE (P := (fun n => iN f (2 ^ y.levels.length - 1 - n))) hc4).1
  refine aA (bF rfl ?_)
  refine bq rfl rfl (by omega) (by omega) ?_
  refine bZ rfl (aD ?_)
  refine bM (⟨n.1 + 1, by omega⟩) ?_ (by show 2 ^ y.levels.length - (n.1 + 1) < 2 ^ y.levels.length - n.1; omega)
  (refine cg.mk' ?_ ?_ <;> (repeat' (first | exact aI | exact aH | refine aB ?_ (Ty.aT _) | refine aB ?_ (Ty.aF _))))
  all_goals skip
  all_goals trace_state
 refine bz (aP (aP (aa rfl (aC (aE ?_)))))
 obtain ⟨n, hn⟩ := n
 obtain rfl : n = 2 ^ y.levels.length := by have h1 : ¬ (n : Int) < ((2 ^ y.levels.length : Nat) : Int) := hc2; have h2 : n ≤ 2 ^ y.levels.length := hn; omega
 refine aA (eA rfl (eO rfl (eA rfl (eO rfl (va rfl (cm rfl (va rfl (cm rfl (aD ?_)))))))))
 refine aC (az ?_)
 refine Qb rfl rfl rfl rfl rfl ?_ ?_ ?_ ?_
 all_goals exact cG rfl rfl
 all_goals trace_state
set_option maxRecDepth 100000 in
theorem yY (y : au) (l : List Int) (hf : y.Fit) : dJ Tryz.prog 6 [dr y, Ty.sl cT l] (Ty.bool true) := by
 refine ak Tryz.func6 rfl (by decide) Tryz.ntmps6 (by exact Nat.le_of_ble_eq_true rfl) fun w0 M0 => ?_
 refine aE (aA (bD rfl (cm rfl (aD (aC (aE (aE (aA ?_))))))))
 refine aX rfl rfl rfl (by exact Nat.le_of_ble_eq_true rfl) ?_
 refine af (PS y hf) rfl rfl rfl rfl rfl (eO rfl ?_)
 apply aM (s := 26) rfl rfl rfl
 ·intro hg; apply aO; (refine eA rfl ?_); refine aD ?_; exact rfl
 ·exact rfl
 ·exact rfl
 apply aM (s := 26) rfl rfl rfl
 ·intro hg; apply aK (s := 27) rfl (by (rw [hg]; rfl)); apply aO; (refine cD rfl rfl rfl ?_); refine aD ?_; exact rfl
 ·exact rfl
 ·exact rfl
 apply aM (s := 26) rfl rfl rfl
 ·intro hg; apply aK (s := 28) rfl (by (rw [hg]; rfl)); apply aO; (refine bB rfl rfl rfl ?_); refine aD ?_; exact rfl
 ·exact rfl
 ·exact rfl
 refine ir rfl rfl (aD (aC ?_))
 refine cH rfl (fun hc1 => ?_) (fun hc1 => ?_)
 ·
  refine aE (aA (af (E8) rfl rfl rfl rfl rfl (cm rfl (aD (aC (az (aQ (bR rfl rfl ?_))))))))
  all_goals exact cG rfl rfl
  all_goals trace_state
 refine aj (aC (aE ?_))
 have hgr := hc1
 rw [Bool.or_eq_false_iff, decide_eq_false_iff_not] at hgr
 have hs := uj (EI hgr.1)
 have hll : l.length ≤ 1000 := by have := hgr.2; omega
 refine cP mixed rfl ?_
 refine aX rfl rfl rfl (by exact Nat.le_of_ble_eq_true rfl) ?_
 refine af (Qx y hs) rfl rfl rfl rfl rfl ?_
 refine aX rfl rfl rfl (by exact Nat.le_of_ble_eq_true rfl) ?_
 refine af (I2 y hs) rfl rfl rfl rfl rfl (eA rfl (af (Hj l hll) rfl rfl rfl rfl rfl ?_))
 refine bu rfl (by exact List.cons_ne_nil _ _) rfl ?_
 refine bu rfl (by exact List.cons_ne_nil _ _) rfl ?_
 refine bh rfl rfl (by decide) rfl rfl rfl rfl rfl rfl ?_
 refine bh rfl rfl (by decide) rfl rfl rfl rfl rfl rfl ?_
 refine va rfl (aD ?_)
 refine ⟨by kernel_rfl, ?_⟩
 refine aC (aE (aA ?_))
 refine bg rfl rfl (by decide) rfl rfl (by exact Nat.le_of_ble_eq_true rfl) ?_
 refine af (C1 y hs) rfl rfl rfl rfl rfl (bZ rfl (aD (aC (aE ?_))))
 refine iC (s := 8) rfl (Ty.bN (check_eq y)) ?_
 refine aA (bF rfl (bF rfl (bZ rfl (bZ rfl (aD (aC (aE (aA (cm rfl ?_)))))))))
 refine aD (aC (aE (aA (lE rfl (lE rfl (aD (aC ?_)))))))
 refine j4 (J := live [(1, Ty.sl cT l), (2, Ty.pp (bE y)), (5, Ty.ptr 6 0), (6, Ty.ptr 7 0), (7, Ty.sl cT l), (8, Ty.int .i64 (q8 y l)), (9, Ty.int .i64 (iK y)), (10, Ty.int .i64 (iP y)), (11, Ty.bool (xG y l)), (12, Ty.sl cT (fU y)), (13, Ty.sl cT (eL y))] [(6, Cont.cells 27 (bE y)), (7, Cont.cells 60 (bE y))]) ?_ ?_
 ·
  refine aE ?_
  refine iQ (B := live [(1, Ty.sl cT l), (2, Ty.pp (bE y)), (5, Ty.ptr 6 0), (6, Ty.ptr 7 0), (7, Ty.sl cT l), (8, Ty.int .i64 (bL y)), (9, Ty.int .i64 (bL y)), (10, Ty.int .i64 (bL y)), (11, Ty.bool false), (12, Ty.ex (.slice none 0 0)), (13, Ty.ex (.slice none 0 0))] [(6, Cont.cells 27 (bE y)), (7, Cont.cells 60 (bE y))]) ?_ ?_
  ·refine cg.mk' ?_ ?_
   ·(repeat (first | refine aB ?_ (Ty.aT _) | refine aB ?_ (Ty.aF _))); exact aI
   refine aG rfl (Cont.aF _) ?_; refine aG rfl (Cont.aF _) ?_; exact aH
  refine aA (bF rfl (bB rfl rfl rfl (aD (aC ?_))))
  refine ah rfl (fun hc2 => ?_) (fun hc2 => ?_)
  ·
   refine aE ?_
   have h0 : bL y = 0 := hc2
   have hr := dD h0
   have hmsl := (AF (y := y)).missed
   refine aA ?_
   refine bg rfl rfl (by decide) rfl rfl (by exact Nat.le_of_ble_eq_true rfl) ?_
   refine af (RD y hr) rfl rfl rfl rfl rfl ?_
   refine bu rfl (by exact List.cons_ne_nil _ _) rfl ?_
   refine bh rfl rfl (by decide) rfl rfl rfl rfl rfl rfl ?_
   refine aD (aC (aE ?_))
   refine iQ (B := live [(1, Ty.sl cT l), (2, Ty.pp (bE y)), (5, Ty.ptr 6 0), (6, Ty.ptr 7 0), (7, Ty.sl cT l), (9, Ty.int .i64 (bL y)), (10, Ty.int .i64 (bL y)), (11, Ty.bool false), (14, Ty.ptr 15 0)] [(6, Cont.cells 27 (bE y)), (7, Cont.cells 60 (bE y)), (15, Cont.cells 66 (tX (oG y)))]) ?_ ?_
   ·refine cg.mk' ?_ ?_
    ·(repeat (first | refine aB ?_ (Ty.aT _) | refine aB ?_ (Ty.aF _))); exact aI
    refine aG rfl (Cont.aF _) ?_; refine aG rfl (Cont.aF _) ?_; refine aG rfl (Cont.aF _) ?_; exact aH
   refine aA (cm rfl (cm rfl (bZ rfl (aD (aC (aE (aA ?_)))))))
   refine bg rfl rfl (by decide) rfl rfl (by exact Nat.le_of_ble_eq_true rfl) ?_
   refine bg rfl rfl (by decide) rfl rfl (by exact Nat.le_of_ble_eq_true rfl) ?_
   refine af (Og y hr (oG y) hmsl) rfl rfl rfl rfl rfl (sU rfl (bQ rfl rfl (bQ rfl rfl (bQ rfl rfl (bQ rfl rfl (va rfl (cm rfl (va rfl (cm rfl ?_)))))))))
   refine aD (aC ?_)
   refine j4 (J := live [(1, Ty.sl cT l), (2, Ty.pp (bE y)), (5, Ty.ptr 6 0), (6, Ty.ptr 7 0), (7, Ty.sl cT l), (9, Ty.int .i64 (bL y)), (10, Ty.int .i64 (bL y)), (12, Ty.sl cT (qD (fun l => !b8 y (bH l false)) y.levels.length)), (15, Ty.bool (tO (fun l => !b8 y (bH l false)) y.levels.length)), (13, Ty.sl cT (qD (fun l => b8 y (bH l true)) y.levels.length)), (16, Ty.bool (tO (fun l => b8 y (bH l true)) y.levels.length)), (8, Ty.int .i64 (q8 y l)), (11, Ty.bool (xG y l))] [(6, Cont.cells 27 (bE y)), (7, Cont.cells 60 (bE y))]) ?_ ?_
   ·
    refine aE ?_
    refine iC (s := 12) rfl (Ty.j7 (zl hr).2) ?_
    refine iC (s := 15) rfl (Ty.c9 (zl hr).1) ?_
    refine iC (s := 13) rfl (Ty.j7 (zb hr).2) ?_
    refine iC (s := 16) rfl (Ty.c9 (zb hr).1) ?_
    refine iQ (B := live [(1, Ty.sl cT l), (2, Ty.pp (bE y)), (5, Ty.ptr 6 0), (6, Ty.ptr 7 0), (7, Ty.sl cT l), (9, Ty.int .i64 (bL y)), (10, Ty.int .i64 (bL y)), (11, Ty.bool false), (14, Ty.ptr 15 0), (12, Ty.sl cT (qD (fun l => !b8 y (bH l false)) y.levels.length)), (15, Ty.bool (tO (fun l => !b8 y (bH l false)) y.levels.length)), (13, Ty.sl cT (qD (fun l => b8 y (bH l true)) y.levels.length)), (16, Ty.bool (tO (fun l => b8 y (bH l true)) y.levels.length))] [(6, Cont.cells 27 (bE y)), (7, Cont.cells 60 (bE y)), (15, Cont.cells 66 (tX (oG y)))]) ?_ ?_
    ·refine cg.mk' ?_ ?_
     ·(repeat (first | refine aB ?_ (Ty.aT _) | refine aB ?_ (Ty.aF _))); exact aI
     refine aG rfl (Cont.aF _) ?_; refine aG rfl (Cont.aF _) ?_; refine aG rfl (Cont.aF _) ?_; exact aH
    refine aA ?_
    refine bg rfl rfl (by decide) rfl rfl (by exact Nat.le_of_ble_eq_true rfl) ?_
    refine eA rfl (af (J3 y hr l hll) rfl rfl rfl rfl rfl (sU rfl (bQ rfl rfl (bQ rfl rfl (bZ rfl (bZ rfl (aD (aC (aE ?_)))))))))
    refine aA (bF rfl (bB rfl rfl rfl (aD (aC ?_))))
    refine ah rfl (fun hc3 => ?_) (fun hc3 => ?_)
    ·
     refine aA ?_
     refine bg rfl rfl (by decide) rfl rfl (by exact Nat.le_of_ble_eq_true rfl) ?_
     refine bF rfl ?_
     refine af (wu (oG y) hmsl (yc y l) (kD l) (Nat.lt_trans Lu (by decide)) (by unfold yc; rw [if_pos hc3])) rfl rfl rfl rfl rfl ?_
     refine cm rfl (aD (eW ?_))
     (refine cg.mk' ?_ ?_ <;> (repeat' (first | exact aI | exact aH | refine aB ?_ (Ty.aT _) | refine aB ?_ (Ty.aF _) | refine aG rfl (Cont.aF _) ?_ | refine aB ?_ ?_)))
     all_goals exact Ty.c9 (Oe hr hc3)
    refine aj (eW ?_)
    (refine cg.mk' ?_ ?_ <;> (repeat' (first | exact aI | exact aH | refine aB ?_ (Ty.aT _) | refine aB ?_ (Ty.aF _) | refine aG rfl (Cont.aF _) ?_ | refine aB ?_ ?_)))
    all_goals exact Ty.c9 (Mh hc3)
   refine j4 (J := live [(1, Ty.sl cT l), (2, Ty.pp (bE y)), (5, Ty.ptr 6 0), (6, Ty.ptr 7 0), (7, Ty.sl cT l), (10, Ty.int .i64 (bL y)), (13, Ty.sl cT (qD (fun l => b8 y (bH l true)) y.levels.length)), (16, Ty.bool (tO (fun l => b8 y (bH l true)) y.levels.length)), (8, Ty.int .i64 (q8 y l)), (11, Ty.bool (xG y l)), (9, Ty.int .i64 (iK y)), (12, Ty.sl cT (fU y))] [(6, Cont.cells 27 (bE y)), (7, Cont.cells 60 (bE y))]) ?_ ?_
   ·
    refine aE (aA (eO rfl (dm rfl (aD (aC ?_)))))
    refine cH rfl (fun hc4 => ?_) (fun hc4 => ?_)
    ·
     refine aA (bZ rfl (aD (eW ?_)))
     (refine cg.mk' ?_ ?_ <;> (repeat' (first | exact aI | exact aH | refine aB ?_ (Ty.aT _) | refine aB ?_ (Ty.aF _) | refine aG rfl (Cont.aF _) ?_ | refine aB ?_ ?_)))
     all_goals first | exact Ty.bN (OT h0 hc4).1 | exact Ty.j7 (OT h0 hc4).2
    refine aj (eW ?_)
    (refine cg.mk' ?_ ?_ <;> (repeat' (first | exact aI | exact aH | refine aB ?_ (Ty.aT _) | refine aB ?_ (Ty.aF _) | refine aG rfl (Cont.aF _) ?_ | refine aB ?_ ?_)))
    all_goals first | exact Ty.bN (LQ h0 hc4).1 | exact Ty.j7 (LQ h0 hc4).2
   refine aE (aA (eO rfl (dm rfl (aD (aC ?_)))))
   refine cH rfl (fun hc5 => ?_) (fun hc5 => ?_)
   ·
    refine aA (bZ rfl (aD (eW ?_)))
    (refine cg.mk' ?_ ?_ <;> (repeat' (first | exact aI | exact aH | refine aB ?_ (Ty.aT _) | refine aB ?_ (Ty.aF _) | refine aG rfl (Cont.aF _) ?_ | refine aB ?_ ?_)))
    all_goals first | exact Ty.bN (OW h0 hc5).1 | exact Ty.j7 (OW h0 hc5).2
   refine aj (eW ?_)
   (refine cg.mk' ?_ ?_ <;> (repeat' (first | exact aI | exact aH | refine aB ?_ (Ty.aT _) | refine aB ?_ (Ty.aF _) | refine aG rfl (Cont.aF _) ?_ | refine aB ?_ ?_)))
   all_goals first | exact Ty.bN (Lm h0 hc5).1 | exact Ty.j7 (Lm h0 hc5).2
  refine aj (eW ?_)
  (refine cg.mk' ?_ ?_ <;> (repeat' (first | exact aI | exact aH | refine aB ?_ (Ty.aT _) | refine aB ?_ (Ty.aF _) | refine aG rfl (Cont.aF _) ?_ | refine aB ?_ ?_)))
  all_goals first | exact Ty.bN (Nv (l := l) hc2).1 | exact Ty.c9 (Nv (l := l) hc2).2 | exact Ty.bN (vf hc2).1 | exact AV (vf hc2).2 | exact Ty.bN (vp hc2).1 | exact AV (vp hc2).2
 refine aE (aA ?_)
 refine bg rfl rfl (by decide) rfl rfl (by exact Nat.le_of_ble_eq_true rfl) ?_
 refine eA rfl (af (Mq y hs l) rfl rfl rfl rfl rfl (sU rfl (bQ rfl rfl (bQ rfl rfl (cm rfl (bZ rfl (aD (aC (aE ?_)))))))))
 refine aA ?_
 refine bg rfl rfl (by decide) rfl rfl (by exact Nat.le_of_ble_eq_true rfl) ?_
 refine af (GB y hs) rfl rfl rfl rfl rfl (sU rfl (bQ rfl rfl (bQ rfl rfl (va rfl (bZ rfl (aD (aC (aE (aA ?_)))))))))
 refine bg rfl rfl (by decide) rfl rfl (by exact Nat.le_of_ble_eq_true rfl) ?_
 refine af (GO y hs) rfl rfl rfl rfl rfl (sU rfl (bQ rfl rfl (bQ rfl rfl (va rfl (bZ rfl (aD (aC (aE (aA ?_)))))))))
 refine bF rfl (bF rfl (bB rfl rfl rfl (eO rfl ?_)))
 apply aM (s := 88) rfl rfl rfl
 ·intro hg; apply aO; (refine bF rfl ?_); refine aD ?_; exact rfl
 ·exact rfl
 ·exact rfl
 apply aM (s := 88) rfl rfl rfl
 ·intro hg; apply aO; (refine bF rfl ?_); refine aD ?_; exact rfl
 ·exact rfl
 ·exact rfl
 apply aM (s := 88) rfl rfl rfl
 ·intro hg; apply aK (s := 89) rfl (by (rw [hg]; rfl)); apply aK (s := 90) rfl (by (rw [hg]; rfl)); apply aO; (refine bB rfl rfl rfl ?_); refine aD ?_; exact rfl
 ·exact rfl
 ·exact rfl
 refine dV rfl rfl (eO rfl ?_)
 apply aM (s := 93) rfl rfl rfl
 ·intro hg; apply aO; (refine bF rfl ?_); refine aD ?_; exact rfl
 ·exact rfl
 ·exact rfl
 apply aM (s := 93) rfl rfl rfl
 ·intro hg; apply aO; (refine bF rfl ?_); refine aD ?_; exact rfl
 ·exact rfl
 ·exact rfl
 apply aM (s := 93) rfl rfl rfl
 ·intro hg; apply aK (s := 94) rfl (by (rw [hg]; rfl)); apply aK (s := 95) rfl (by (rw [hg]; rfl)); apply aO; (refine bB rfl rfl rfl ?_); refine aD ?_; exact rfl
 ·exact rfl
 ·exact rfl
 refine dV rfl rfl (eO rfl ?_)
 apply aM (s := 98) rfl rfl rfl
 ·intro hg; apply aO; (refine eO rfl ?_); refine aD ?_; exact rfl
 ·exact rfl
 ·exact rfl
 apply aM (s := 98) rfl rfl rfl
 ·intro hg; apply aO; (refine eO rfl ?_); refine aD ?_; exact rfl
 ·exact rfl
 ·exact rfl
 apply aM (s := 98) rfl rfl rfl
 ·intro hg; apply aK (s := 99) rfl (by (rw [hg]; rfl)); apply aK (s := 100) rfl (by (rw [hg]; rfl)); apply aO; (refine NN PO rfl rfl ?_); refine aD ?_; exact rfl
 ·exact rfl
 ·exact rfl
 refine dV rfl rfl (eO rfl ?_)
 apply aM (s := 103) rfl rfl rfl
 ·intro hg; apply aO; (refine eA rfl ?_); refine aD ?_; exact rfl
 ·exact rfl
 ·exact rfl
 apply aM (s := 103) rfl rfl rfl
 ·intro hg; apply aO; (refine eA rfl ?_); refine aD ?_; exact rfl
 ·exact rfl
 ·exact rfl
 apply aM (s := 103) rfl rfl rfl
 ·intro hg; apply aK (s := 104) rfl (by (rw [hg]; rfl)); apply aK (s := 105) rfl (by (rw [hg]; rfl)); apply aO; (refine af (o7 _ _) rfl rfl rfl rfl rfl ?_); refine aD ?_; exact rfl
 ·exact rfl
 ·exact rfl
 refine dV rfl rfl (eO rfl ?_)
 apply aM (s := 108) rfl rfl rfl
 ·intro hg; apply aO; (refine eA rfl ?_); refine aD ?_; exact rfl
 ·exact rfl
 ·exact rfl
 apply aM (s := 108) rfl rfl rfl
 ·intro hg; apply aO; (refine eA rfl ?_); refine aD ?_; exact rfl
 ·exact rfl
 ·exact rfl
 apply aM (s := 108) rfl rfl rfl
 ·intro hg; apply aK (s := 109) rfl (by (rw [hg]; rfl)); apply aK (s := 110) rfl (by (rw [hg]; rfl)); apply aO; (refine af (o7 _ _) rfl rfl rfl rfl rfl ?_); refine aD ?_; exact rfl
 ·exact rfl
 ·exact rfl
 refine dV rfl rfl (eO rfl ?_)
 apply aM (s := 113) rfl rfl rfl
 ·intro hg; apply aO; (refine bg rfl rfl (by decide) rfl rfl (by exact Nat.le_of_ble_eq_true rfl) ?_); refine aD ?_; exact rfl
 ·exact rfl
 ·exact rfl
 apply aM (s := 113) rfl rfl rfl
 ·intro hg; apply aO; (refine aX rfl rfl rfl (by exact Nat.le_of_ble_eq_true rfl) ?_); refine aD ?_; exact rfl
 ·exact rfl
 ·exact rfl
 apply aM (s := 113) rfl rfl rfl
 ·intro hg; apply aK (s := 114) rfl (by (rw [hg]; rfl)); apply aK (s := 115) rfl (by (rw [hg]; rfl)); apply aO; (refine af (Po _ _) rfl rfl rfl rfl rfl ?_); refine aD ?_; exact rfl
 ·exact rfl
 ·exact rfl
 refine dV rfl rfl (eO rfl ?_)
 apply aM (s := 118) rfl rfl rfl
 ·intro hg; apply aO; (refine eA rfl ?_); refine aD ?_; exact rfl
 ·exact rfl
 ·exact rfl
 apply aM (s := 118) rfl rfl rfl
 ·intro hg; apply aO; (refine eA rfl ?_); refine aD ?_; exact rfl
 ·exact rfl
 ·exact rfl
 apply aM (s := 118) rfl rfl rfl
 ·intro hg; apply aK (s := 119) rfl (by (rw [hg]; rfl)); apply aK (s := 120) rfl (by (rw [hg]; rfl)); apply aO; (refine af (o7 _ _) rfl rfl rfl rfl rfl ?_); refine aD ?_; exact rfl
 ·exact rfl
 ·exact rfl
 refine dV rfl rfl (eO rfl ?_)
 apply aM (s := 123) rfl rfl rfl
 ·intro hg; apply aO; (refine af (E8) rfl rfl rfl rfl rfl ?_); refine aD ?_; exact rfl
 ·exact rfl
 ·exact rfl
 refine dV rfl rfl (cm rfl (aD (aC (az (bR rfl rfl ?_)))))
 all_goals skip
 all_goals exact av rfl rfl (congrArg Ty.bool (by simp [Ee]))
end Go.Proofs.YtelbollidfdcjaaGreat
namespace Go.T
open Go Go.RowKit Go.ChangeShapes Go.WideShapes Go.ChangeAt
def m8 : bC := fun _ => none
theorem MZ (w : World) : Wf w m8 := ⟨fun _ _ h => (by cases h), fun _ _ _ _ h => (by cases h)⟩
theorem IK : ∀ b t, m8 b = some t → t = 0 := fun _ _ h => by cases h
structure Rd {α : Type} (P : Program) (e : TypeId) (E : El α) : Prop where
  size : P.cellsOf e = E.size
  pos : 0 < E.size
  rd : ∀ {H : Type} {enc : TypeId × Value → H} {w : World} {base : Nat} {held : Bool} {n : Nat} {cs : List Value} {y : DataW H × List MemPlace}, DataW.trod enc P w base (fun _ => true) held n e cs = some y → ∃ x, cI w m8 (E.tys x) cs
section
variable {H : Type} {enc : TypeId × Value → H} {P : Program} {w : World} {base : Nat} {held : Bool} {α : Type} {E : El α} {t e : TypeId} {n : Nat} {cs : List Value} {y : DataW H × List MemPlace}
theorem Q1 (hR : Rd P e E) (ht : P.underlying t = some (.slice e)) (h : DataW.trod enc P w base (fun _ => true) held n t cs = some y) : ∃ v xs, cs = [v] ∧ (Ty.sl E xs).den w m8 v := by
 rcases Go.Deep.open_slice ht h with ⟨rfl, _⟩ | ⟨a, len, cap, m, k, D, Pl, rfl, _, hl, hm, hmm, _, hel⟩
 ·exact ⟨_, [], rfl, none, 0, rfl, Nat.le_refl _, Nat.zero_le _, fun h => absurd h (Nat.lt_irrefl _)⟩
 have hlm : len ≤ m := by rw [hmm]; simpa using hl
 have hX : ∀ i : Fin len, ∃ x : α, ∃ cs', w.cells? base (a.add (i.1 * P.cellsOf e)) (P.cellsOf e) = some cs' ∧ cI w m8 (E.tys x) cs' := fun i => by
  obtain ⟨cs', h1, h2⟩ := hel i.1 (Nat.lt_of_lt_of_le i.2 hlm)
  obtain ⟨x, hx⟩ := hR.rd h2
  exact ⟨x, cs', h1, hx⟩
 let X : Fin len → α := fun i => (hX i).choose
 have hXs : ∀ i : Fin len, ∃ cs', w.cells? base (a.add (i.1 * P.cellsOf e)) (P.cellsOf e) = some cs' ∧ cI w m8 (E.tys (X i)) cs' := fun i => (hX i).choose_spec
 have hlen : (List.ofFn X).length = len := by simp
 refine ⟨_, List.ofFn X, rfl, some a, cap, by rw [hlen], by rw [hlen]; exact hl, hm, fun h0 => ?_⟩
 rw [hlen] at h0
 have hcell : ∀ (i : Fin len) (j : Nat) (u : Ty), (E.tys (X i))[j]? = some u → ∃ v, w.cell? (a.add (i.1 * E.size + j)) = some v ∧ u.den w m8 v := fun i j u hu => by
  obtain ⟨cs', h1, h2⟩ := hXs i
  obtain ⟨v, hv, hd⟩ := dW h2 j u hu
  obtain ⟨_, g1, g2⟩ := World.cells?_some h1
  have hj : j < P.cellsOf e := by
   rw [hR.size, ← E.len (X i)]
   exact (List.getElem?_eq_some_iff.1 hu).1
  refine ⟨v, ?_, hd⟩
  have := g2 j hj
  rw [Go.Deep.add_add, hv, hR.size] at this
  exact this
 have hsz := hR.pos
 have hfirst : ∃ v, w.cell? (a.add 0) = some v := by
  obtain ⟨u, hu⟩ : ∃ u, (E.tys (X ⟨0, h0⟩))[0]? = some u := ⟨_, List.getElem?_eq_getElem (by rw [E.len]; exact hsz)⟩
  obtain ⟨v, hv, _⟩ := hcell ⟨0, h0⟩ 0 u hu
  exact ⟨v, by simpa using hv⟩
 obtain ⟨b, off, sp⟩ := a
 obtain ⟨v0, hv0⟩ := hfirst
 have hsp : sp = none := by simpa [Addr.add] using World.cell?_spot hv0
 subst hsp
 have hb : b < w.heap.size := by
  obtain ⟨cs', h1, _⟩ := hXs ⟨0, h0⟩
  have := World.cells?_block h1 (by rw [hR.size]; exact hsz)
  simpa [Addr.add] using this
 refine ⟨b, off, rfl, rfl, hb, fun i u hu => ?_⟩
 have hi : i < len * E.size := by
  have := (List.getElem?_eq_some_iff.1 hu).1
  rw [c6, hlen] at this; exact this
 have hk : i / E.size < len := Nat.div_lt_of_lt_mul (by rw [Nat.mul_comm]; exact hi)
 have hj : i % E.size < E.size := Nat.mod_lt _ hsz
 have hij : i / E.size * E.size + i % E.size = i := by rw [Nat.mul_comm]; exact Nat.div_add_mod i E.size
 have hu2 := hu
 rw [← hij, ou E _ _ _ (by rw [hlen]; exact hk) hj, List.getElem?_ofFn, dif_pos hk] at hu2
 obtain ⟨v, hv, hd⟩ := hcell ⟨i / E.size, hk⟩ (i % E.size) u hu2
 refine ⟨v, ?_, hd⟩
 rw [← Go.WideShapes.add_plain]
 rw [hij] at hv
 exact hv
theorem Dp {f0 f1 : Field} (hs : P.underlying t = some (.struct #[f0, f1])) (hC : P.cellsOf t = 2) (h0 : f0.offset = 0 ∧ P.cellsOf f0.type = 1) (h1 : f1.offset = 1 ∧ P.cellsOf f1.type = 1) (h : DataW.trod enc P w base (fun _ => true) held n t cs = some y) :
    ∃ c0 c1 y0 y1 m, cs = [c0, c1] ∧ DataW.trod enc P w base (fun _ => true) held m f0.type [c0] = some y0 ∧ DataW.trod enc P w base (fun _ => true) held m f1.type [c1] = some y1 := by
  obtain ⟨y0, y1, m, _, hl, g0, g1⟩ := Go.ChangeShapes.trod_struct2 hs h
  rw [hC] at hl
  match cs, hl with
  | [c0, c1], _ =>
    rw [h0.1, h0.2] at g0
    rw [h1.1, h1.2] at g1
    exact ⟨c0, c1, y0, y1, m, rfl, g0, g1⟩
theorem n5 {k : IntKind} {c : Value} (ht : P.underlying t = some (.int k)) (h : DataW.trod enc P w base (fun _ => true) held n t [c] = some y) : ∃ i, c = .int k i := by
 obtain ⟨i, e, _⟩ := DataW.trod_int ht h
 exact ⟨i, by simpa using e⟩
theorem LK {c : Value} (hR : Rd P e E) (ht : P.underlying t = some (.slice e)) (h : DataW.trod enc P w base (fun _ => true) held n t [c] = some y) : ∃ xs, (Ty.sl E xs).den w m8 c := by
 obtain ⟨v, xs, e, hd⟩ := Q1 hR ht h
 exact ⟨xs, by rw [show c = v by simpa using e]; exact hd⟩
end
section
variable {w w' : World} {S K : Nat → Prop} {M' : bC}
theorem sK (le : Le S K w m8 w' M') {b : Nat} (hb : b < w.heap.size) : w'.heap[b]? = w.heap[b]? := (le.ql b hb rfl).2
theorem Ml (le : Le S K w m8 w' M') {p : MemPlace} (hp : p.block < w.heap.size) : w.sameAt w' p := by
  cases p with
  | cell b o => exact World.cell?_of_block (w := w) (sK le hp)
  | map b => exact sK le hp
theorem ML (le : Le S K w m8 w' M') (may : MemPlace → Prop) : w.keptBut w' may := by
 refine ⟨le.os, le.out, fun i hi => ?_⟩
 have e := sK le hi
 rw [e]
 split
 ·rename_i h1 h2
  rw [h1] at h2
  simp only [Option.some.injEq, Obj.cells.injEq] at h2
  obtain ⟨rfl, rfl, rfl⟩ := h2
  exact ⟨rfl, rfl, rfl, fun _ _ => rfl⟩
 ·rename_i h1 h2
  rw [h1] at h2
  simp only [Option.some.injEq, Obj.map.injEq] at h2
  exact Or.inr ⟨h2.1.symm, h2.2.symm⟩
 rfl
theorem G6 (le : Le S K w m8 w' M') {a : Addr} (ha : a.block < w.heap.size) : w'.frozen? a = w.frozen? a := by
 unfold World.frozen?
 rw [sK le ha]
end
section
variable {H : Type} {enc : TypeId × Value → H} {P : Program}
theorem rD (hl : laidOutB P = true) {w w' : World} {sp : Nat → Bool} : ∀ {ts : List TypeId} {vs : List Value} {ds : List (DataW H)} {ps : List MemPlace}, (∀ t ∈ ts, P.readableRec t = true ∧ t < P.types.size) →
    DataW.TrodAll enc P w 0 (fun _ => true) true ts vs ds ps → (∀ p ∈ ps, w.sameAt w' p) → (∀ p ∈ ps, sp p.block = true) → DataW.TrodAll enc P w' 0 sp true ts vs ds ps
  | [], [], [], _, _, h, _, _ => h
  | t :: ts, v :: vs, d :: ds, _, ht, ⟨p, q, h1, h2, e⟩, hs, hsp => by
    subst e
    have h0 := ht t List.mem_cons_self
    exact ⟨p, q, Go.WideElems.Trod_stays hl h0.1 h0.2 h1 (fun x hx => hs x (List.mem_append_left _ hx)) (fun x hx => hsp x (List.mem_append_left _ hx)),
      rD hl (fun t h => ht t (List.mem_cons_of_mem _ h)) h2 (fun x hx => hs x (List.mem_append_right _ hx)) (fun x hx => hsp x (List.mem_append_right _ hx)), rfl⟩
theorem Gt {f : Func} {s : ChangeSpec} {apart fresh handsOn again : Bool} {W W' : World} {args : Array Value} {ds : List (DataW H)} {before : List MemPlace} {S K : Nat → Prop} {M' : bC}
 (hl : laidOutB P = true) (hv : s.vars = []) (hrd : ∀ t ∈ f.params.toList, P.readableRec t = true ∧ t < P.types.size) {tb : TypeId} (htb : P.underlying tb = some .bool) (hrt : f.resultTypes = #[tb])
 (hW : DataW.Whole enc P f.params.toList s.vars apart W args.toList ds [] before) (hres : (s.fn H (ds ++ [])).results = [.lit (.bool true)]) (hargs : (s.fn H (ds ++ [])).args = ds) (hvars : (s.fn H (ds ++ [])).vars = [])
 (le : Le S K W m8 W' M') : s.post enc P f apart fresh handsOn again W args (.bool true) W' := by
 have hW0 := hW
 obtain ⟨p, q, hA, hV, hb, hfz, hn⟩ := hW0
 have hlt := DataW.TrodAll.lt hA
 have hq : q = [] := by rw [hv] at hV; exact (trodVars_none hV).2
 subst hq
 have hbp : before = p := by rw [hb]; simp
 have hre : ∀ (b : Nat) (sp : Nat → Bool) (hd : Bool), DataW.TrodAll enc P W' b sp hd f.resultTypes.toList ((Value.bool true).resultList f.resultTypes.size) (s.fn H (ds ++ [])).results [] := fun b sp hd => by
  rw [hrt, hres]; exact trodAll_mk1 (shut_bool htb true)
 have har : ∀ sp : Nat → Bool, (∀ x ∈ p, sp x.block = true) → DataW.TrodAll enc P W' 0 sp true f.params.toList args.toList (s.fn H (ds ++ [])).args p := fun sp hsp => by
  rw [hargs]; exact rD hl hrd hA (fun x hx => Ml le (hlt x hx)) hsp
 have hva : ∀ sp : Nat → Bool, DataW.TrodVars enc P W' sp s.vars (s.fn H (ds ++ [])).vars [] := fun sp => by
  rw [hvars, hv]; exact rfl
 have hok : ∀ (j : Nat) (t : TypeId) (r : Value), f.resultTypes[j]? = some t → ((Value.bool true).resultList f.resultTypes.size)[j]? = some r → Value.okWide P W' .any 0 t r := by
  exact ok_one (by rw [hrt]) rfl (okWide_bool_mk htb true)
 refine ⟨ds, [], before, [], p, [], hW, hre _ _ _, har _ (fun x hx => by simpa using hlt x hx), hva _, World.keptBut_mono (fun x hx => hx) (ML le _), fun _ => ?_⟩
 refine ⟨hok, _, _, ([] ++ p) ++ [], ⟨[] ++ p, [], trodAll_append (har _ (fun _ _ => rfl)) (hre _ _ _), hva _, rfl, ?_, ?_⟩, ?_⟩
 ·intro b off hp
  have hp' : MemPlace.cell b off ∈ p := by simpa using hp
  rw [G6 le (hlt _ hp')]
  exact hfz b off (by rw [hbp]; exact hp')
 ·intro ha
  have := hn ha
  rw [hbp] at this
  simpa using this
 intro x hx _
 rw [hbp]
 simpa using hx
end
end Go.T
namespace Go.Proofs.YtelbollidfdcjaaGreat
open Go Go.T Go.RowKit Go.ChangeShapes Go.WideShapes Go.ChangeAt
set_option maxRecDepth 100000 in
theorem QE : Rd Tryz.prog 3 cT := ⟨by kernel_rfl, by decide, fun h => by
 obtain ⟨i, rfl, _⟩ := DataW.trod_int Tryz.underlying3 h
 exact ⟨i, rfl, trivial⟩⟩
theorem Rw : Tryz.prog.cellsOf 3 = 1 := by kernel_rfl
theorem LP : Tryz.prog.cellsOf 37 = 2 := by kernel_rfl
theorem QI : Tryz.prog.cellsOf 39 = 3 := by kernel_rfl
theorem QW : Tryz.prog.cellsOf 41 = 5 := by kernel_rfl
theorem N8 : Tryz.prog.cellsOf 102 = 4 := by kernel_rfl
set_option maxRecDepth 100000 in
theorem LM : Rd Tryz.prog 37 bw := ⟨LP, by decide, fun h => by
 obtain ⟨c0, c1, y0, y1, m, rfl, h0, h1⟩ := Dp Tryz.underlying37 LP ⟨rfl, by kernel_rfl⟩ ⟨rfl, by kernel_rfl⟩ h
 obtain ⟨a, rfl⟩ := n5 Tryz.underlying3 h0
 obtain ⟨b, rfl⟩ := n5 Tryz.underlying3 h1
 exact ⟨⟨a, b⟩, rfl, rfl, trivial⟩⟩
set_option maxRecDepth 100000 in
theorem Q5 : Rd Tryz.prog 39 fN := ⟨QI, by decide, fun {_ _ _ _ _ _ cs _} h => by
  obtain ⟨y0, y1, m, _, hl, g0, g1⟩ := Go.ChangeShapes.trod_struct2 Tryz.underlying39 h
  rw [QI] at hl
  match cs, hl with
  | [c0, c1, c2], _ =>
    simp only [Rw, LP] at g0 g1
    obtain ⟨a, rfl⟩ := n5 (c := c0) Tryz.underlying3 g0
    obtain ⟨s, hs⟩ := LM.rd (cs := [c1, c2]) g1
    exact ⟨⟨a, s⟩, rfl, hs⟩⟩
set_option maxRecDepth 100000 in
theorem RK : Rd Tryz.prog 41 eH := ⟨QW, by decide, fun {_ _ _ _ _ _ cs _} h => by
  obtain ⟨y0, y1, y2, y3, m, _, hl, g0, g1, g2, g3⟩ := Go.Joins.trod_struct4 Tryz.underlying41 h
  rw [QW] at hl
  match cs, hl with
  | [c0, c1, c2, c3, c4], _ =>
    simp only [Rw, LP] at g0 g1 g2 g3
    obtain ⟨a, rfl⟩ := n5 (c := c0) Tryz.underlying3 g0
    obtain ⟨b, rfl⟩ := n5 (c := c1) Tryz.underlying3 g1
    obtain ⟨c, rfl⟩ := n5 (c := c2) Tryz.underlying3 g2
    obtain ⟨s, hs⟩ := LM.rd (cs := [c3, c4]) g3
    exact ⟨⟨a, b, c, s⟩, rfl, rfl, rfl, hs⟩⟩
set_option maxRecDepth 100000 in
theorem Qf : Rd Tryz.prog 102 dX := ⟨N8, by decide, fun {_ _ _ _ _ _ cs _} h => by
  obtain ⟨y0, y1, y2, m, _, hl, g0, g1, g2⟩ := Go.Deep.trod_struct3 Tryz.underlying102 h
  rw [N8] at hl
  match cs, hl with
  | [c0, c1, c2, c3], _ =>
    simp only [Rw, LP] at g0 g1 g2
    obtain ⟨a, rfl⟩ := n5 (c := c0) Tryz.underlying3 g0
    obtain ⟨b, rfl⟩ := n5 (c := c1) Tryz.underlying3 g1
    obtain ⟨s, hs⟩ := LM.rd (cs := [c2, c3]) g2
    exact ⟨⟨a, b, s⟩, rfl, rfl, hs⟩⟩
section
variable {H : Type} {enc : TypeId × Value → H} {W : World} {base : Nat} {held : Bool} {v : Value} {d : DataW H} {p : List MemPlace}
set_option maxRecDepth 100000 in
theorem MO (hv : Value.okWide Tryz.prog W .any base 28 v) (h : DataW.Trod enc Tryz.prog W 0 (fun _ => true) held 28 v d p) : ∃ l, (Ty.sl cT l).den W m8 v := by
 obtain ⟨a, len, cap, rfl⟩ := okWide_slice Tryz.underlying28 hv
 obtain ⟨n, hn⟩ := h
 exact LK QE Tryz.underlying28 (by simpa [Value.cells] using hn)
end
end Go.Proofs.YtelbollidfdcjaaGreat
namespace Go.Proofs.YtelbollidfdcjaaGreat
open Go Go.T Go.RowKit Go.ChangeShapes Go.WideShapes Go.ChangeAt
section
variable {H : Type} {enc : TypeId × Value → H} {P : Program} {w : World} {base : Nat} {held : Bool} {α : Type} {E : El α} {t e : TypeId} {n : Nat} {c : Value} {y : DataW H × List MemPlace}
theorem Df (hR : Rd P e E) (ht : P.underlying t = some (.slice e)) (h : DataW.trod enc P w base (fun _ => true) held n t [c] = some y) (hw : ∀ m ∈ y.1.weights P t, m ≤ reachBytes) : ∃ xs, (Ty.sl E xs).den w m8 c ∧ xs.length * P.bytesOf e ≤ reachBytes := by
 obtain ⟨xs, hd⟩ := LK hR ht h
 refine ⟨xs, hd, ?_⟩
 obtain ⟨ad, cap, ec, hcap, _, _⟩ := hd
 rcases Go.Deep.open_slice ht h with ⟨e1, _⟩ | ⟨a, len, cap', m, k, D, Pl, e1, _, hl, _, hm, hy, _⟩
 ·have e2 : c = .slice none 0 0 := by simpa using e1
  rw [ec] at e2
  injection e2 with _ e3 _
  rw [e3, Nat.zero_mul]; exact Nat.zero_le _
 have e2 : c = .slice (some a) len cap' := by simpa using e1
 rw [ec] at e2
 injection e2 with _ e3 _
 rw [hy] at hw
 have := hw ((((List.range len).map D).length + ((List.range (m - len)).map fun j => D (len + j)).length) * P.bytesOf e) (by simp [DataW.weights, ht])
 rw [List.length_map, List.length_range] at this
 have h2 : xs.length * P.bytesOf e ≤ (len + ((List.range (m - len)).map fun j => D (len + j)).length) * P.bytesOf e := Nat.mul_le_mul_right _ (by omega)
 omega
end
section
variable {H : Type} {enc : TypeId × Value → H} {W : World} {base : Nat} {held : Bool} {v : Value} {d : DataW H} {p : List MemPlace}
theorem Rn : Tryz.prog.bytesOf 39 = 24 := by kernel_rfl
theorem Rv : Tryz.prog.bytesOf 41 = 40 := by kernel_rfl
theorem QS : Tryz.prog.bytesOf 102 = 32 := by kernel_rfl
set_option maxRecDepth 100000 in
theorem Kz {ts : List TypeId} {ds : List (DataW H)} {j : Nat} (hsz : (DataW.weightsEach Tryz.prog ts ds).all (· ≤ reachBytes) = true) (ht : ts[j]? = some 27) (hd : ds[j]? = some d) (hv : Value.okWide Tryz.prog W .any base 27 v) (h : DataW.Trod enc Tryz.prog W 0 (fun _ => true) held 27 v d p) : ∃ y : au, y.Fit ∧ (dr y).den W m8 v := by
 obtain ⟨c0, c1, c2, c3, y0, y1, y2, y3, n, rfl, ed, _, h0, h1, h2, h3⟩ := Go.Joins.open_agg4 Tryz.underlying27 (by kernel_rfl) (by kernel_rfl) hv h
 have hw : ∀ m ∈ d.weights Tryz.prog 27, m ≤ reachBytes := fun m hm => by
  have := List.all_eq_true.1 hsz _ (DataW.weights_mem_each ht hd m hm)
  simpa using this
 rw [ed] at hw
 have hw' : ∀ m ∈ DataW.weightsEach Tryz.prog [3, 23, 24, 25] [y0.1, y1.1, y2.1, y3.1], m ≤ reachBytes := fun m hm => hw m (by
  unfold DataW.weights
  rw [Tryz.underlying27]
  exact hm)
 obtain ⟨a, rfl⟩ := n5 Tryz.underlying3 h0
 obtain ⟨bs, e1, l1⟩ := Df Q5 Tryz.underlying23 h1 fun m hm => hw' m (DataW.weights_mem_each (j := 1) (t := 23) rfl rfl m hm)
 obtain ⟨ms, e2, l2⟩ := Df RK Tryz.underlying24 h2 fun m hm => hw' m (DataW.weights_mem_each (j := 2) (t := 24) rfl rfl m hm)
 obtain ⟨ls, e3, l3⟩ := Df Qf Tryz.underlying25 h3 fun m hm => hw' m (DataW.weights_mem_each (j := 3) (t := 25) rfl rfl m hm)
 rw [Rn] at l1
 rw [Rv] at l2
 rw [QS] at l3
 exact ⟨⟨a, bs, ms, ls⟩, ⟨l1, l2, l3⟩, _, rfl, rfl, e1, e2, e3, trivial⟩
end
end Go.Proofs.YtelbollidfdcjaaGreat
